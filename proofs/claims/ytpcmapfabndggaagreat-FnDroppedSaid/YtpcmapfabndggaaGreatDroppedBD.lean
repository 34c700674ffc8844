/- FnDropped: what the .. -/
import Derived.Test.YtpcmapfabndggaaGreatS13
import Derived.Test.YtpcmapfabndggaaGreatS15
set_option linter.unusedVariables false
namespace Go.Proofs.YtpcmapfabndggaaGreat
open Go
def Qu4 (fu:Nat) (Aa:List U8):Option (Bool) :=
  some (decide ((Aa.length:Int) > 1048576))
def Qri (fu:Nat) (k3:Int → Int → Option (Cur)) (Ad:List U8) (Ab:Int) (Aa:Int)  : Option (Cur) :=
  Qac (ix Ad Aa) λAc=>k3 (IntKind.wrap .i64 (((BitVec.ofInt (IntKind.bits .i64) (w64 ((w64 ((w64 (Ab * 131)) + (w64 Ac.n))) + 7)) &&& BitVec.ofInt (IntKind.bits .i64) 1073741823).toNat:Nat):Int)) (w64 (Aa + 1))
def Qo7 (fu:Nat)  (Aa:List U8) (k3:Int → Int → Option (Cur)) (Ab:Int) (Ac:Int):Option (Cur) :=
  bif (decide (Ac < (Aa.length:Int))) then bif (decide (Ac < 4000)) then Qri fu k3 Aa Ab Ac else some (⟨Aa,0,Ab⟩:Cur) else some (⟨Aa,0,Ab⟩:Cur)
def Qgz (fu:Nat)  (Aa:List U8):Nat → Int → Int → Option (Cur)
  | 0=>λ_ _=>none
  | n + 1=>Qo7 fu Aa (Qgz fu Aa n)
def Qof (fu:Nat) (Aa:List U8):Option (Cur) :=
  Qgz fu Aa fu (w64 (26583 + (Aa.length:Int))) 0
def Qho (fu:Nat) (c1:Cur):Option (Int × Cur) :=
  bif (decide (c1.fi < (c1.fb.length:Int))) then Qac (ix c1.fb c1.fi) λAa=>some (IntKind.wrap .i64 (((BitVec.ofInt (IntKind.bits .i64) (w64 ((IntKind.wrap .i64 (((BitVec.ofInt (IntKind.bits .i64) (IntKind.wrap .i64 (((BitVec.ofInt (IntKind.bits .i64) (Int.fdiv (w64 ((w64 (c1.fh * 6364136223846793005)) + 1442695040888963407)) (2 ^ (min 33 (IntKind.bits .i64)))) ^^^ BitVec.ofInt (IntKind.bits .i64) (Int.fdiv (w64 ((w64 (c1.fh * 6364136223846793005)) + 1442695040888963407)) (2 ^ (min 45 (IntKind.bits .i64))))).toNat:Nat):Int)) &&& BitVec.ofInt (IntKind.bits .i64) 255).toNat:Nat):Int)) + (w64 Aa.n))) &&& BitVec.ofInt (IntKind.bits .i64) 255).toNat:Nat):Int),(⟨c1.fb,w64 (c1.fi + 1),w64 ((w64 (c1.fh * 6364136223846793005)) + 1442695040888963407)⟩:Cur)) else some (IntKind.wrap .i64 (((BitVec.ofInt (IntKind.bits .i64) (IntKind.wrap .i64 (((BitVec.ofInt (IntKind.bits .i64) (Int.fdiv (w64 ((w64 (c1.fh * 6364136223846793005)) + 1442695040888963407)) (2 ^ (min 33 (IntKind.bits .i64)))) ^^^ BitVec.ofInt (IntKind.bits .i64) (Int.fdiv (w64 ((w64 (c1.fh * 6364136223846793005)) + 1442695040888963407)) (2 ^ (min 45 (IntKind.bits .i64))))).toNat:Nat):Int)) &&& BitVec.ofInt (IntKind.bits .i64) 255).toNat:Nat):Int),(⟨c1.fb,c1.fi,w64 ((w64 (c1.fh * 6364136223846793005)) + 1442695040888963407)⟩:Cur))
def Qao (fu:Nat) (c1:Cur) (n7:Int):Option (Int × Cur) :=
  bif (decide (n7 ≤ 0)) then some (0,c1) else bif (decide (n7 ≤ 256)) then Qac (Qho fu c1) λAc=>Qac (Jfm n7) λAg=>some (Int.tmod Ac.1 n7,(⟨c1.fb,Ac.2.fi,Ac.2.fh⟩:Cur)) else Qac (Qho fu c1) λAa=>Qac (Qho fu (⟨c1.fb,Aa.2.fi,Aa.2.fh⟩:Cur)) λAd=>Qac (Qho fu (⟨c1.fb,Ad.2.fi,Ad.2.fh⟩:Cur)) λAb=>Qac (Qho fu (⟨c1.fb,Ab.2.fi,Ab.2.fh⟩:Cur)) λAe=>Qac (Jfm n7) λAf=>some (Int.tmod (w64 ((w64 ((w64 ((w64 (Aa.1 * 16777216)) + (w64 (Ad.1 * 65536)))) + (w64 (Ab.1 * 256)))) + Ae.1)) n7,(⟨c1.fb,Ae.2.fi,Ae.2.fh⟩:Cur))
def Qi6 (fu:Nat) (c1:Cur) (n7:Int):Option (Bool × Cur) :=
  Qac (Qao fu c1 n7) λx9=>some (x9.1 == 0,(⟨c1.fb,x9.2.fi,x9.2.fh⟩:Cur))
def Qbt (fu:Nat) (c1:Cur) (Ab:List Int):Option (Int × Cur) :=
  Qac (Qao fu c1 (Ab.length:Int)) λAa=>Qac (ix Ab Aa.1) λAc=>some (Ac,(⟨c1.fb,Aa.2.fi,Aa.2.fh⟩:Cur))
def Qhw (fu:Nat) (Ac:Int → Int → List Pair → Int → Option (Request × Cur)) (Ae:Int) (Aa:Int) (Ab:Int) (Ad:List Pair):Option (Request × Cur) :=
  Ac Aa Ab Ad (w64 (Ae + 1))
def Qmd (fu:Nat) (k9:Int → Int → List Pair → Int → Option (Request × Cur)) (c1:Cur) (Aa:Int) (Ae:Int → Int → List Pair → Int → Option (Request × Cur)) (Ag:Int) (Af:Int) (Ad:List Pair) (Ab:Int):Option (Request × Cur) :=
  bif (decide (Ab ≤ Aa)) then bif (Aa == Ab) then Qac (Qhv 16 Ad (([(⟨Aa,Aa⟩:Pair)]:List Pair))) λAh=>Qhw fu Ae Ab Ag Af Ah else Qac (Qi6 fu (⟨c1.fb,Ag,Af⟩:Cur) 2) λAc=>bif Ac.1 then Qac (Qhv 16 Ad (([(⟨Aa,Ab⟩:Pair),(⟨Ab,Aa⟩:Pair)]:List Pair))) λAi=>Qhw fu Ae Ab Ac.2.fi Ac.2.fh Ai else Qhw fu Ae Ab Ac.2.fi Ac.2.fh Ad else k9 Ag Af Ad (w64 (Aa + 1))
def Qfd (fu:Nat) (k9:Int → Int → List Pair → Int → Option (Request × Cur)) (c1:Cur) (Aa:Int):Nat → Int → Int → List Pair → Int → Option (Request × Cur)
  | 0=>λ_ _ _ _=>none
  | n + 1=>Qmd fu k9 c1 Aa (Qfd fu k9 c1 Aa n)
def Qkp (fu:Nat) (Ae:Int → Int → List Item → Int → Int → Option (Request × Cur)) (Ab:Int) (Ad:Int) (Ac:Int) (Af:List Item) (Aa:Int):Option (Request × Cur) :=
  Ae Ad Ac Af Aa (w64 (Ab + 1))
def Qhy (fu:Nat) (Ag:Int → Int → List Item → Int → Int → Option (Request × Cur)) (Ac:List Item) (Aa:Int) (Ae:Int) (Af:Int) (Ad:Int) (Ab:Item):Option (Request × Cur) :=
  bif (decide ((w64 (Aa + Ab.f0)) ≤ 12)) then Qac (Qhv 56 Ac (([Ab]:List Item))) λAh=>Qkp fu Ag Ae Af Ad Ah (w64 (Aa + Ab.f0)) else Qkp fu Ag Ae Af Ad Ac Aa
def Qo3 (fu:Nat) (Ag:Int → Int → List Item → Int → Int → Option (Request × Cur)) (c1:Cur) (Ad:List Item) (Af:Int) (Ae:Int) (Ah:Int) (Ai:Int) (Ab:Item):Option (Request × Cur) :=
  Qac (Qi6 fu (⟨c1.fb,Ah,Ai⟩:Cur) 3) λAa=>bif Aa.1 then Qac (Qao fu (⟨c1.fb,Aa.2.fi,Aa.2.fh⟩:Cur) 8) λAc=>Qhy fu Ag Ad Af Ae Ac.2.fi Ac.2.fh (⟨Ab.f8,5,5,w64 (4 + Ac.1),Ab.fV,Ab.fF,Ab.f0⟩:Item) else Qhy fu Ag Ad Af Ae Aa.2.fi Aa.2.fh Ab
def Qkz (fu:Nat)  (c1:Cur) (As:Int × Cur) (Aq:Int × Cur) (Al:Int × Cur) (Am:Int × Cur) (Ar:Int × Cur) (Ak:Int × Cur) (Av:List Pair) (Au:List Typ) (Ao:Int × Cur) (Ap:Int → Int → List Item → Int → Int → Option (Request × Cur)) (Ai:Int) (Aj:Int) (Ah:List Item) (At:Int) (Ab:Int):Option (Request × Cur) :=
  bif (decide (Ab < Ao.1)) then Qac (Qao fu (⟨c1.fb,Ai,Aj⟩:Cur) 10) λAa=>Qac (Qao fu (⟨c1.fb,Aa.2.fi,Aa.2.fh⟩:Cur) 10) λAe=>Qac (Qao fu (⟨c1.fb,Ae.2.fi,Ae.2.fh⟩:Cur) 10) λAg=>Qac (Qao fu (⟨c1.fb,Ag.2.fi,Ag.2.fh⟩:Cur) 60) λAc=>Qac (Qao fu (⟨c1.fb,Ac.2.fi,Ac.2.fh⟩:Cur) (w64 (1 + Ak.1))) λAd=>Qac (Qao fu (⟨c1.fb,Ad.2.fi,Ad.2.fh⟩:Cur) 4) λAf=>Qo3 fu Ap c1 Ah At Ab Af.2.fi Af.2.fh (⟨w64 (3 * Ab),w64 (1 + Aa.1),w64 (1 + Ae.1),w64 (1 + Ag.1),w64 (1 + Ac.1),Ad.1,w64 (1 + Af.1)⟩:Item) else some ((⟨As.1,(⟨Aq.1,Al.1,Am.1,Ar.1⟩:Pallet),w64 (1 + Ak.1),Av,Au,7,Ah⟩:Request),(⟨c1.fb,Ai,Aj⟩:Cur))
def Qcx (fu:Nat)  (c1:Cur) (Af:Int × Cur) (Ab:Int × Cur) (Ag:Int × Cur) (Ah:Int × Cur) (Ae:Int × Cur) (Ac:Int × Cur) (Ad:List Pair) (Aa:List Typ) (Ai:Int × Cur):Nat → Int → Int → List Item → Int → Int → Option (Request × Cur)
  | 0=>λ_ _ _ _ _=>none
  | n + 1=>Qkz fu c1 Af Ab Ag Ah Ae Ac Ad Aa Ai (Qcx fu c1 Af Ab Ag Ah Ae Ac Ad Aa Ai n)
def Qls (fu:Nat)  (c1:Cur) (Ar:Int × Cur) (Ap:Int × Cur) (Al:Int × Cur) (Am:Int × Cur) (Aq:Int × Cur) (At:Int × Cur) (Au:List Pair) (As:Int × Cur) (Av:Int → Int → List Typ → Int → Option (Request × Cur)) (Aj:Int) (Ai:Int) (Ak:List Typ) (Aa:Int):Option (Request × Cur) :=
  bif (decide (Aa < As.1)) then Qac (Qao fu (⟨c1.fb,Aj,Ai⟩:Cur) 9) λAe=>Qac (Qao fu (⟨c1.fb,Ae.2.fi,Ae.2.fh⟩:Cur) 8) λAd=>Qac (Qao fu (⟨c1.fb,Ad.2.fi,Ad.2.fh⟩:Cur) 9) λAc=>Qac (Qao fu (⟨c1.fb,Ac.2.fi,Ac.2.fh⟩:Cur) 5) λAf=>Qac (Qao fu (⟨c1.fb,Af.2.fi,Af.2.fh⟩:Cur) 90) λAg=>Qac (Qao fu (⟨c1.fb,Ag.2.fi,Ag.2.fh⟩:Cur) 20) λAh=>Qac (Qhv 56 Ak (([(⟨w64 (10 + Aa),w64 (4 + Ae.1),w64 (3 + Ad.1),w64 (3 + Ac.1),Af.1,w64 (20 + Ag.1),w64 (1 + Ah.1)⟩:Typ)]:List Typ))) λAo=>Av Ah.2.fi Ah.2.fh Ao (w64 (Aa + 1)) else Qac (Qao fu (⟨c1.fb,Aj,Ai⟩:Cur) 6) λAb=>Qcx fu c1 Ar Ap Al Am Aq At Au Ak Ab fu Ab.2.fi Ab.2.fh (([]:List Item)) 0 0
def Qgl (fu:Nat)  (c1:Cur) (Af:Int × Cur) (Ab:Int × Cur) (Ag:Int × Cur) (Ah:Int × Cur) (Ae:Int × Cur) (Ac:Int × Cur) (Ad:List Pair) (Aa:Int × Cur):Nat → Int → Int → List Typ → Int → Option (Request × Cur)
  | 0=>λ_ _ _ _=>none
  | n + 1=>Qls fu c1 Af Ab Ag Ah Ae Ac Ad Aa (Qgl fu c1 Af Ab Ag Ah Ae Ac Ad Aa n)
def Qpb (fu:Nat) (c1:Cur) (Af:Int × Cur) (Ab:Int × Cur) (Ag:Int × Cur) (Ah:Int × Cur) (Ae:Int × Cur) (Ac:Int × Cur) (Ad:List Pair) (Aj:Int) (Ai:Int) (Ak:List Typ):Option (Request × Cur) :=
  Qac (Qao fu (⟨c1.fb,Aj,Ai⟩:Cur) 5) λAa=>Qgl fu c1 Af Ab Ag Ah Ae Ac Ad Aa fu Aa.2.fi Aa.2.fh Ak 0
def Qlf (fu:Nat)  (c1:Cur) (Al:Int × Cur) (Ai:Int × Cur) (Am:Int × Cur) (Ao:Int × Cur) (Ak:Int × Cur) (Ad:Int × Cur) (k9:Int → Int → List Pair → Int → Option (Request × Cur)) (Ag:Int) (Af:Int) (Ae:List Pair) (Ah:Int):Option (Request × Cur) :=
  bif (decide (Ah < (w64 (1 + Ad.1)))) then Qfd fu k9 c1 Ah fu Ag Af Ae 0 else Qac (Qao fu (⟨c1.fb,Ag,Af⟩:Cur) 8) λAb=>Qac (Qbt fu (⟨c1.fb,Ab.2.fi,Ab.2.fh⟩:Cur) (([60,100,140]:List Int))) λAc=>Qac (Qbt fu (⟨c1.fb,Ac.2.fi,Ac.2.fh⟩:Cur) (([9,20]:List Int))) λAa=>Qac (Qhv 56 (([]:List Typ)) (([(⟨7,12,10,11,Ab.1,Ac.1,Aa.1⟩:Typ)]:List Typ))) λAj=>Qpb fu c1 Al Ai Am Ao Ak Ad Ae Aa.2.fi Aa.2.fh Aj
def Qde (fu:Nat)  (c1:Cur) (Ad:Int × Cur) (Aa:Int × Cur) (Ae:Int × Cur) (Af:Int × Cur) (Ac:Int × Cur) (Ab:Int × Cur):Nat → Int → Int → List Pair → Int → Option (Request × Cur)
  | 0=>λ_ _ _ _=>none
  | n + 1=>Qlf fu c1 Ad Aa Ae Af Ac Ab (Qde fu c1 Ad Aa Ae Af Ac Ab n)
def Qm3 (fu:Nat) (c1:Cur):Option (Request × Cur) :=
  Qac (Qao fu c1 2) λAd=>Qac (Qbt fu (⟨c1.fb,Ad.2.fi,Ad.2.fh⟩:Cur) (([20,30,37]:List Int))) λAa=>Qac (Qbt fu (⟨c1.fb,Aa.2.fi,Aa.2.fh⟩:Cur) (([20,25,40]:List Int))) λAe=>Qac (Qbt fu (⟨c1.fb,Ae.2.fi,Ae.2.fh⟩:Cur) (([15,24,50]:List Int))) λAf=>Qac (Qbt fu (⟨c1.fb,Af.2.fi,Af.2.fh⟩:Cur) (([150,400,5000]:List Int))) λAc=>Qac (Qao fu (⟨c1.fb,Ac.2.fi,Ac.2.fh⟩:Cur) 4) λAb=>Qde fu c1 Ad Aa Ae Af Ac Ab fu Ab.2.fi Ab.2.fh (([]:List Pair)) 0
def Qar (fu:Nat) (x1:Int) (Ab:Int) (Aa:Int):Option (Bool) :=
  bif (decide (x1 ≥ Ab)) then some (decide (x1 ≤ Aa)) else some (false)
def Qd9 (fu:Nat) (x1:Int):Option (Bool) :=
  Qac (Qar fu x1 1 2000) λx2=>some (x2)
def Qg1 (fu:Nat) (x1:Pallet):Option (Bool) :=
  Qac (Qd9 fu x1.fW) λx5=>bif x5 then Qac (Qd9 fu x1.fD) λAb=>bif Ab then Qac (Qd9 fu x1.fH) λAa=>bif Aa then Qac (Qar fu x1.fV 1 100000) λAc=>some (Ac) else some (false) else some (false) else some (false)
def Qoq (fu:Nat) (x1:Int):Option (Bool) :=
  Qac (Qar fu x1 0 999) λx2=>some (x2)
def Qr5 (fu:Nat) (x1:Typ):Option (Bool) :=
  Qac (Qoq fu x1.f8) λx5=>bif x5 then Qac (Qd9 fu x1.fW) λAb=>bif Ab then Qac (Qd9 fu x1.fH) λAe=>bif Ae then Qac (Qd9 fu x1.fD) λAa=>bif Aa then Qac (Qar fu x1.f7 0 100000) λAf=>bif Af then Qac (Qar fu x1.fV 1 100000) λAc=>bif Ac then Qac (Qar fu x1.fK 0 100000) λAd=>some (Ad) else some (false) else some (false) else some (false) else some (false) else some (false) else some (false)
def Qrp (fu:Nat) (x1:Item):Option (Bool) :=
  Qac (Qoq fu x1.f8) λx5=>bif x5 then Qac (Qd9 fu x1.fW) λAb=>bif Ab then Qac (Qd9 fu x1.fH) λAe=>bif Ae then Qac (Qd9 fu x1.fD) λAa=>bif Aa then Qac (Qar fu x1.fV 1 100000) λAf=>bif Af then Qac (Qar fu x1.fF 0 3) λAc=>bif Ac then Qac (Qar fu x1.f0 1 6) λAd=>some (Ad) else some (false) else some (false) else some (false) else some (false) else some (false) else some (false)
def Qn6 (fu:Nat) (k4:Int → Option (Bool)) (Aa:Int)  : Option (Bool) :=
  k4 (w64 (Aa + 1))
def Qjx (fu:Nat)  (r1:Request) (k7:Int → Int → Option (Bool)) (Ab:Int) (Aa:Int):Option (Bool) :=
  bif (decide (Aa < (r1.fG.length:Int))) then Qac (ix r1.fG Aa) λAc=>Qac (Qrp fu Ac) λAd=>bif (!Ad) then some (false) else Qac (ix r1.fG Aa) λAe=>k7 (w64 (Ab + Ac.f0)) (w64 (Aa + 1)) else some (decide (Ab ≤ 12))
def Qdo (fu:Nat)  (r1:Request):Nat → Int → Int → Option (Bool)
  | 0=>λ_ _=>none
  | n + 1=>Qjx fu r1 (Qdo fu r1 n)
def Qjn (fu:Nat)  (r1:Request) (k6:Int → Option (Bool)) (Aa:Int):Option (Bool) :=
  bif (decide (Aa < (r1.fT.length:Int))) then Qac (ix r1.fT Aa) λAb=>Qac (Qr5 fu Ab) λAc=>bif (!Ac) then some (false) else k6 (w64 (Aa + 1)) else Qdo fu r1 fu 0 0
def Qdr (fu:Nat)  (r1:Request):Nat → Int → Option (Bool)
  | 0=>λ_=>none
  | n + 1=>Qjn fu r1 (Qdr fu r1 n)
def Qjz (fu:Nat)  (r1:Request) (k4:Int → Option (Bool)) (Aa:Int):Option (Bool) :=
  bif (decide (Aa < (r1.fL.length:Int))) then Qac (ix r1.fL Aa) λAb=>Qac (Qar fu Ab.fA 0 3) λAc=>bif (!Ac) then some (false) else Qac (ix r1.fL Aa) λAe=>Qac (Qar fu Ab.fB 0 3) λAd=>bif (!Ad) then some (false) else Qn6 fu k4 Aa else Qdr fu r1 fu 0
def Qdn (fu:Nat)  (r1:Request):Nat → Int → Option (Bool)
  | 0=>λ_=>none
  | n + 1=>Qjz fu r1 (Qdn fu r1 n)
def Qn5 (fu:Nat) (r1:Request)  : Option (Bool) :=
  Qdn fu r1 fu 0
def Qod (fu:Nat) (r1:Request):Option (Bool) :=
  Qac (Qar fu r1.qQ 0 1) λAa=>bif (!Aa) then some (false) else Qac (Qg1 fu r1.fJ) λAc=>bif (!Ac) then some (false) else Qac (Qar fu r1.fR 1 4) λAe=>bif (!Ae) then some (false) else bif (decide ((r1.fL.length:Int) > 16)) then some (false) else Qac (Qar fu (r1.fT.length:Int) 1 5) λAb=>bif (!Ab) then some (false) else Qac (Qoq fu r1.fP) λAd=>bif (!Ad) then some (false) else bif (decide ((r1.fG.length:Int) > 8)) then some (false) else Qn5 fu r1
def Qjy (fu:Nat)  (r1:Request) (k1:Int → Option (Typ × Bool)) (Aa:Int):Option (Typ × Bool) :=
  bif (decide (Aa < (r1.fT.length:Int))) then Qac (ix r1.fT Aa) λAb=>bif (Ab.f8 == r1.fP) then Qac (ix r1.fT Aa) λAc=>some (Ab,true) else k1 (w64 (Aa + 1)) else some ((⟨0,0,0,0,0,0,0⟩:Typ),false)
def Qfj (fu:Nat)  (r1:Request):Nat → Int → Option (Typ × Bool)
  | 0=>λ_=>none
  | n + 1=>Qjy fu r1 (Qfj fu r1 n)
def Qfz (fu:Nat) (r1:Request):Option (Typ × Bool) :=
  Qfj fu r1 fu 0
def Ql5 (fu:Nat) (k3:Int → Option (Bool)) (r1:Request) (Aa:Int) (k4:Int → Option (Bool)) (Ab:Int):Option (Bool) :=
  bif (decide (Ab < Aa)) then Qac (ix r1.fT Aa) λAc=>Qac (ix r1.fT Ab) λAd=>bif (Ac.f8 == Ad.f8) then some (false) else k4 (w64 (Ab + 1)) else k3 (w64 (Aa + 1))
def Qec (fu:Nat) (k3:Int → Option (Bool)) (r1:Request) (Aa:Int):Nat → Int → Option (Bool)
  | 0=>λ_=>none
  | n + 1=>Ql5 fu k3 r1 Aa (Qec fu k3 r1 Aa n)
def Qlg (fu:Nat) (k7:Int → Option (Bool)) (r1:Request) (Ab:Int) (k8:Int → Option (Bool)) (Aa:Int):Option (Bool) :=
  bif (decide (Aa < Ab)) then Qac (ix r1.fG Ab) λAd=>Qac (ix r1.fG Aa) λAc=>bif (Ad.f8 == Ac.f8) then some (false) else k8 (w64 (Aa + 1)) else k7 (w64 (Ab + 1))
def Qea (fu:Nat) (k7:Int → Option (Bool)) (r1:Request) (Aa:Int):Nat → Int → Option (Bool)
  | 0=>λ_=>none
  | n + 1=>Qlg fu k7 r1 Aa (Qea fu k7 r1 Aa n)
def Qpg (fu:Nat) (Aa:Int → Option (Bool)) (Ab:Int)  : Option (Bool) :=
  Aa (w64 (Ab + 1))
def Qk1 (fu:Nat)  (r1:Request) (Ac:Int → Option (Bool)) (Aa:Int):Option (Bool) :=
  bif (decide (Aa < (r1.fL.length:Int))) then Qac (ix r1.fL Aa) λAb=>bif (decide (Ab.fA ≥ r1.fR)) then some (false) else Qac (ix r1.fL Aa) λAe=>bif (decide (Ab.fB ≥ r1.fR)) then some (false) else Qpg fu Ac Aa else Qac (Qfz fu r1) λAd=>some (Ad.2)
def Qdc (fu:Nat)  (r1:Request):Nat → Int → Option (Bool)
  | 0=>λ_=>none
  | n + 1=>Qk1 fu r1 (Qdc fu r1 n)
def Qli (fu:Nat)  (r1:Request) (k7:Int → Option (Bool)) (Aa:Int):Option (Bool) :=
  bif (decide (Aa < (r1.fG.length:Int))) then Qac (ix r1.fG Aa) λAb=>bif (decide (Ab.fF ≥ r1.fR)) then some (false) else Qea fu k7 r1 Aa fu 0 else Qdc fu r1 fu 0
def Qbj (fu:Nat)  (r1:Request):Nat → Int → Option (Bool)
  | 0=>λ_=>none
  | n + 1=>Qli fu r1 (Qbj fu r1 n)
def Qln (fu:Nat)  (r1:Request) (k3:Int → Option (Bool)) (Aa:Int):Option (Bool) :=
  bif (decide (Aa < (r1.fT.length:Int))) then Qec fu k3 r1 Aa fu 0 else Qbj fu r1 fu 0
def Qbs (fu:Nat)  (r1:Request):Nat → Int → Option (Bool)
  | 0=>λ_=>none
  | n + 1=>Qln fu r1 (Qbs fu r1 n)
def Qp5 (fu:Nat) (r1:Request):Option (Bool) :=
  Qbs fu r1 fu 0
def Qmo (fu:Nat) (k3:Int → Option (Bool)) (Aa:Int)  : Option (Bool) :=
  k3 (w64 (Aa + 1))
def Qnn (fu:Nat)  (Ab:List Pair) (a5:Int) (b6:Int) (k3:Int → Option (Bool)) (Aa:Int):Option (Bool) :=
  bif (decide (Aa < (Ab.length:Int))) then Qac (ix Ab Aa) λAc=>bif (Ac.fA == a5) then Qac (ix Ab Aa) λAd=>bif (Ac.fB == b6) then some (true) else Qmo fu k3 Aa else Qmo fu k3 Aa else some (false)
def Qf6 (fu:Nat)  (Aa:List Pair) (a5:Int) (b6:Int):Nat → Int → Option (Bool)
  | 0=>λ_=>none
  | n + 1=>Qnn fu Aa a5 b6 (Qf6 fu Aa a5 b6 n)
def Qfw (fu:Nat) (Aa:List Pair) (a5:Int) (b6:Int):Option (Bool) :=
  Qf6 fu Aa a5 b6 fu 0
def Qkw (fu:Nat) (Aa:Int → Option (Bool)) (Ab:Int)  : Option (Bool) :=
  Aa (w64 (Ab + 1))
def Qlv (fu:Nat) (k9:Int → Option (Bool)) (Ac:List Pair) (Ai:Int) (Ab:Int) (Ad:Int → Option (Bool)) (Aa:Int):Option (Bool) :=
  bif (decide (Aa < Ai)) then bif (Ab == Aa) then Qac (Qfw fu Ac Ab Ab) λAf=>bif (!Af) then some (false) else Qac (Qfw fu Ac Ab Aa) λAh=>Qac (Qfw fu Ac Aa Ab) λAe=>bif (!(Ah == Ae)) then some (false) else Qkw fu Ad Aa else Qac (Qfw fu Ac Ab Aa) λAj=>Qac (Qfw fu Ac Aa Ab) λAg=>bif (!(Aj == Ag)) then some (false) else Qkw fu Ad Aa else k9 (w64 (Ab + 1))
def Qd8 (fu:Nat) (k9:Int → Option (Bool)) (Aa:List Pair) (Ab:Int) (Ac:Int):Nat → Int → Option (Bool)
  | 0=>λ_=>none
  | n + 1=>Qlv fu k9 Aa Ab Ac (Qd8 fu k9 Aa Ab Ac n)
def Qk7 (fu:Nat)  (Ac:List Pair) (Aa:Int) (k9:Int → Option (Bool)) (Ab:Int):Option (Bool) :=
  bif (decide (Ab < Aa)) then Qd8 fu k9 Ac Aa Ab fu 0 else some (true)
def Qdd (fu:Nat)  (Aa:List Pair) (Ab:Int):Nat → Int → Option (Bool)
  | 0=>λ_=>none
  | n + 1=>Qk7 fu Aa Ab (Qdd fu Aa Ab n)
def Qp9 (fu:Nat) (Ab:List Pair) (Aa:Int):Option (Bool) :=
  Qac (Qar fu Aa 1 4) λx6=>bif (!x6) then some (false) else Qdd fu Ab Aa fu 0
def Qjt (fu:Nat)  (n1:Int) (k1:List Int → Int → Option ((List Int))) (Ab:List Int) (Aa:Int):Option ((List Int)) :=
  bif (decide (Aa < n1)) then Qac (Qhv 8 Ab (([Aa]:List Int))) λAc=>k1 Ac (w64 (Aa + 1)) else some (Ab)
def Qfl (fu:Nat)  (n1:Int):Nat → List Int → Int → Option ((List Int))
  | 0=>λ_ _=>none
  | n + 1=>Qjt fu n1 (Qfl fu n1 n)
def Qj8 (fu:Nat) (n1:Int):Option ((List Int)) :=
  Qfl fu n1 fu (([]:List Int)) 0
def Qh0 (fu:Nat) (k3:List Int → Int → Int → Option ((List Int))) (Ah:List Int) (Ak:Bool) (Ad:(List Int)) (Ae:(List Int)) (Ac:List Int) (Aa:Int) (Ab:Int)  : Option ((List Int)) :=
  bif (Ab == (Ae.length:Int)) then Qac (ix Ad Aa) λAl=>Qac (Qhv 8 Ac (([Al]:List Int))) λAw=>k3 Aw (w64 (Aa + 1)) Ab else bif (Aa == (Ad.length:Int)) then Qac (ix Ae Ab) λAu=>Qac (Qhv 8 Ac (([Au]:List Int))) λAs=>k3 As Aa (w64 (Ab + 1)) else Qac (ix Ae Ab) λAg=>Qac (ix Ah Ag) λAj=>Qac (ix Ad Aa) λAf=>Qac (ix Ah Af) λAi=>bif (decide (Aj < Ai)) then bif (!Ak) then Qac (ix Ae Ab) λBg=>Qac (Qhv 8 Ac (([Ag]:List Int))) λAm=>k3 Am Aa (w64 (Ab + 1)) else Qac (ix Ae Ab) λBc=>Qac (ix Ah Ag) λAx=>Qac (ix Ad Aa) λBh=>Qac (ix Ah Af) λBf=>bif (decide (Aj > Ai)) then bif Ak then Qac (ix Ae Ab) λAy=>Qac (Qhv 8 Ac (([Ag]:List Int))) λAt=>k3 At Aa (w64 (Ab + 1)) else Qac (ix Ad Aa) λBk=>Qac (Qhv 8 Ac (([Af]:List Int))) λAp=>k3 Ap (w64 (Aa + 1)) Ab else Qac (ix Ad Aa) λAz=>Qac (Qhv 8 Ac (([Af]:List Int))) λAr=>k3 Ar (w64 (Aa + 1)) Ab else Qac (ix Ae Ab) λBa=>Qac (ix Ah Ag) λBl=>Qac (ix Ad Aa) λBb=>Qac (ix Ah Af) λBe=>bif (decide (Aj > Ai)) then bif Ak then Qac (ix Ae Ab) λBd=>Qac (Qhv 8 Ac (([Ag]:List Int))) λAv=>k3 Av Aa (w64 (Ab + 1)) else Qac (ix Ad Aa) λBj=>Qac (Qhv 8 Ac (([Af]:List Int))) λAq=>k3 Aq (w64 (Aa + 1)) Ab else Qac (ix Ad Aa) λBi=>Qac (Qhv 8 Ac (([Af]:List Int))) λAo=>k3 Ao (w64 (Aa + 1)) Ab
def Qmh (fu:Nat)  (Ag:List Int) (Af:Bool) (Ab:(List Int)) (Ac:(List Int)) (k3:List Int → Int → Int → Option ((List Int))) (Aa:List Int) (Ae:Int) (Ad:Int):Option ((List Int)) :=
  bif (decide (Ae < (Ab.length:Int))) then Qh0 fu k3 Ag Af Ab Ac Aa Ae Ad else bif (decide (Ad < (Ac.length:Int))) then Qh0 fu k3 Ag Af Ab Ac Aa Ae Ad else some (Aa)
def Qcm (fu:Nat)  (Aa:List Int) (Ab:Bool) (Ac:(List Int)) (Ad:(List Int)):Nat → List Int → Int → Int → Option ((List Int))
  | 0=>λ_ _ _=>none
  | n + 1=>Qmh fu Aa Ab Ac Ad (Qcm fu Aa Ab Ac Ad n)
def Qsi (fu:Nat) (self:List Int → List Int → Bool → Option ((List Int))) (Ac:List Int) (Aa:List Int) (Ab:Bool):Option ((List Int)) :=
  bif (decide ((Aa.length:Int) < 2)) then Qac (Qhv 8 (([]:List Int)) Aa) λAh=>some (Ah) else Qac (sls Aa 0 (w64 (Int.tdiv (Aa.length:Int) 2))) λAd=>Qac (self Ac Ad Ab) λAe=>Qac (sls Aa (w64 (Int.tdiv (Aa.length:Int) 2)) (Aa.length:Int)) λAg=>Qac (self Ac Ag Ab) λAf=>Qcm fu Ac Ab Ae Af fu (([]:List Int)) 0 0
def Qil (fu:Nat):Nat → List Int → List Int → Bool → Option ((List Int))
  | 0=>λ_ _ _=>none
  | n + 1=>Qsi fu (Qil fu n)
def Qp2 (fu:Nat) (Aa:List Int) (Ac:List Int) (Ab:Bool):Option ((List Int)):=Qil fu fu Aa Ac Ab
def Qo2 (fu:Nat) (Aa:List Int):Option ((List Int)) :=
  Qac (Qj8 fu (Aa.length:Int)) λx5=>Qac (Qp2 fu Aa x5 false) λAb=>some (Ab)
def Qm2 (fu:Nat) (Aa:Int) (h2:Int) (d3:Int):Option ((List Int)) :=
  Qac (Qo2 fu (([Aa,h2,d3]:List Int))) λx9=>Qac (ix x9 0) λAg=>Qac (ix (([Aa,h2,d3]:List Int)) Ag) λAc=>Qac (ix x9 1) λAf=>Qac (ix (([Aa,h2,d3]:List Int)) Af) λAb=>Qac (ix x9 2) λAd=>Qac (ix (([Aa,h2,d3]:List Int)) Ad) λAe=>some (([Ac,Ab,Ae]:List Int))
def Qqz (fu:Nat) (x1:Item) (t2:Typ):Option (Bool) :=
  Qac (Qm2 fu x1.fW x1.fH x1.fD) λAa=>Qac (Qm2 fu t2.fW t2.fH t2.fD) λAb=>Qac (ix Aa 0) λAg=>Qac (ix Ab 0) λAd=>bif (decide (Ag ≤ Ad)) then Qac (ix Aa 1) λAh=>Qac (ix Ab 1) λAc=>bif (decide (Ah ≤ Ac)) then Qac (ix Aa 2) λAe=>Qac (ix Ab 2) λAf=>bif (decide (Ae ≤ Af)) then some (decide (x1.fV ≤ t2.fV)) else some (false) else some (false) else some (false)
def Qrs (fu:Nat) (k4:Int → Option (Int)) (Aa:Int)  : Option (Int) :=
  k4 (w64 (Aa + 1))
def Qph (fu:Nat)  (r1:Request) (k4:Int → Option (Int)) (Ab:Int):Option (Int) :=
  bif (decide (Ab < (r1.fT.length:Int))) then Qac (ix r1.fT Ab) λAa=>bif (decide (Aa.fW > r1.fJ.fW)) then some (6) else bif (decide (Aa.fD > r1.fJ.fD)) then some (6) else bif (decide (Aa.fH > r1.fJ.fH)) then some (6) else bif (decide ((w64 (Aa.f7 + Aa.fV)) > r1.fJ.fV)) then some (6) else Qrs fu k4 Ab else some (0)
def Qfr (fu:Nat)  (r1:Request):Nat → Int → Option (Int)
  | 0=>λ_=>none
  | n + 1=>Qph fu r1 (Qfr fu r1 n)
def Qo1 (fu:Nat)  (r1:Request) (Ab:Typ × Bool) (k1:Int → Option (Int)) (Aa:Int):Option (Int) :=
  bif (decide (Aa < (r1.fG.length:Int))) then Qac (ix r1.fG Aa) λAc=>Qac (Qqz fu Ac Ab.1) λAd=>bif (!Ad) then some (5) else k1 (w64 (Aa + 1)) else Qfr fu r1 fu 0
def Qg3 (fu:Nat)  (r1:Request) (Aa:Typ × Bool):Nat → Int → Option (Int)
  | 0=>λ_=>none
  | n + 1=>Qo1 fu r1 Aa (Qg3 fu r1 Aa n)
def Qep (fu:Nat) (r1:Request):Option (Int) :=
  Qac (Qod fu r1) λAd=>bif (!Ad) then some (2) else Qac (Qp5 fu r1) λAb=>bif (!Ab) then some (3) else Qac (Qp9 fu r1.fL r1.fR) λAa=>bif (!Aa) then some (4) else Qac (Qfz fu r1) λAc=>Qg3 fu r1 Ac fu 0
def Qmr (fu:Nat) (k3:List Item → Int → Option (Request × Cur)) (Ab:Int) (Aa:List Item):Option (Request × Cur) :=
  k3 Aa (w64 (Ab + 1))
def Qnq (fu:Nat)  (c1:Cur) (Aa:Request × Cur) (Ae:Typ × Bool) (k3:List Item → Int → Option (Request × Cur)) (Ac:List Item) (Ab:Int):Option (Request × Cur) :=
  bif (decide (Ab < (Aa.1.fG.length:Int))) then Qac (ix Aa.1.fG Ab) λAd=>Qac (Qqz fu Ad Ae.1) λAg=>bif Ag then Qac (ix Aa.1.fG Ab) λAh=>Qac (Qhv 56 Ac (([Ad]:List Item))) λAf=>Qmr fu k3 Ab Af else Qmr fu k3 Ab Ac else some ((⟨Aa.1.qQ,(⟨30,25,24,400⟩:Pallet),Aa.1.fR,Aa.1.fL,Aa.1.fT,Aa.1.fP,Ac⟩:Request),(⟨c1.fb,Aa.2.fi,Aa.2.fh⟩:Cur))
def Qf1 (fu:Nat)  (c1:Cur) (Aa:Request × Cur) (Ab:Typ × Bool):Nat → List Item → Int → Option (Request × Cur)
  | 0=>λ_ _=>none
  | n + 1=>Qnq fu c1 Aa Ab (Qf1 fu c1 Aa Ab n)
def Qr1 (fu:Nat) (c1:Cur):Option (Request × Cur) :=
  Qac (Qm3 fu c1) λAa=>Qac (Qep fu Aa.1) λAb=>bif (Ab != 0) then Qac (Qfz fu ((⟨Aa.1.qQ,(⟨30,25,24,400⟩:Pallet),Aa.1.fR,Aa.1.fL,Aa.1.fT,Aa.1.fP,Aa.1.fG⟩:Request))) λAc=>Qf1 fu c1 Aa Ac fu (([]:List Item)) 0 else some (Aa.1,(⟨c1.fb,Aa.2.fi,Aa.2.fh⟩:Cur))
def Qbe (fu:Nat) (c1:Cur) (Aa:Request × Cur) (Ak:Int) (Af:Int) (Aj:Int) (Ag:Int) (Ah:List Pair) (Ac:List Typ) (Ab:Int) (Ad:List Item) (Ai:Int) (Ae:Int):Option (Request × Cur) :=
  some ((⟨Ak,(⟨Af,Aa.1.fJ.fD,Aa.1.fJ.fH,Aj⟩:Pallet),Ag,Ah,Ac,Ab,Ad⟩:Request),(⟨c1.fb,Ai,Ae⟩:Cur))
def Qrg (fu:Nat) (c1:Cur):Option (Request × Cur) :=
  Qac (Qm3 fu c1) λAa=>Qac (Qbt fu (⟨c1.fb,Aa.2.fi,Aa.2.fh⟩:Cur) (([(-1),0,2001,100001,1000,9223372036854775807]:List Int))) λAc=>Qac (Qao fu (⟨c1.fb,Ac.2.fi,Ac.2.fh⟩:Cur) 20) λAb=>bif (Ab.1 == 0) then Qac (Qbt fu (⟨c1.fb,Ab.2.fi,Ab.2.fh⟩:Cur) (([(-1),2]:List Int))) λAg=>Qbe fu c1 Aa Ag.1 Aa.1.fJ.fW Aa.1.fJ.fV Aa.1.fR Aa.1.fL Aa.1.fT Aa.1.fP Aa.1.fG Ag.2.fi Ag.2.fh else bif (Ab.1 == 1) then Qbe fu c1 Aa Aa.1.qQ Ac.1 Aa.1.fJ.fV Aa.1.fR Aa.1.fL Aa.1.fT Aa.1.fP Aa.1.fG Ab.2.fi Ab.2.fh else bif (Ab.1 == 2) then Qbe fu c1 Aa Aa.1.qQ Aa.1.fJ.fW Ac.1 Aa.1.fR Aa.1.fL Aa.1.fT Aa.1.fP Aa.1.fG Ab.2.fi Ab.2.fh else bif (Ab.1 == 3) then Qac (Qbt fu (⟨c1.fb,Ab.2.fi,Ab.2.fh⟩:Cur) (([0,5,1]:List Int))) λAh=>Qbe fu c1 Aa Aa.1.qQ Aa.1.fJ.fW Aa.1.fJ.fV Ah.1 Aa.1.fL Aa.1.fT Aa.1.fP Aa.1.fG Ah.2.fi Ah.2.fh else bif (Ab.1 == 4) then Qac (Qao fu (⟨c1.fb,Ab.2.fi,Ab.2.fh⟩:Cur) 6) λAf=>Qac (Qao fu (⟨c1.fb,Af.2.fi,Af.2.fh⟩:Cur) 4) λAj=>Qac (Qhv 16 Aa.1.fL (([(⟨w64 (Af.1 - 1),Aj.1⟩:Pair)]:List Pair))) λAm=>Qbe fu c1 Aa Aa.1.qQ Aa.1.fJ.fW Aa.1.fJ.fV Aa.1.fR Am Aa.1.fT Aa.1.fP Aa.1.fG Aj.2.fi Aj.2.fh else bif (Ab.1 == 5) then Qac (ix Aa.1.fT 0) λAo=>Qbe fu c1 Aa Aa.1.qQ Aa.1.fJ.fW Aa.1.fJ.fV Aa.1.fR Aa.1.fL (Qge Aa.1.fT 0 ({ Ao with fH:=Ac.1 })) Aa.1.fP Aa.1.fG Ab.2.fi Ab.2.fh else bif (Ab.1 == 6) then Qac (Qao fu (⟨c1.fb,Ab.2.fi,Ab.2.fh⟩:Cur) (Aa.1.fT.length:Int)) λAd=>Qac (ix Aa.1.fT Ad.1) λAl=>Qbe fu c1 Aa Aa.1.qQ Aa.1.fJ.fW Aa.1.fJ.fV Aa.1.fR Aa.1.fL (Qge Aa.1.fT Ad.1 ({ Al with fV:=Ac.1 })) Aa.1.fP Aa.1.fG Ad.2.fi Ad.2.fh else bif (Ab.1 == 7) then Qac (Qbt fu (⟨c1.fb,Ab.2.fi,Ab.2.fh⟩:Cur) (([8,(-1),1000]:List Int))) λAi=>Qbe fu c1 Aa Aa.1.qQ Aa.1.fJ.fW Aa.1.fJ.fV Aa.1.fR Aa.1.fL Aa.1.fT Ai.1 Aa.1.fG Ai.2.fi Ai.2.fh else bif (Ab.1 == 8) then Qac (Qao fu (⟨c1.fb,Ab.2.fi,Ab.2.fh⟩:Cur) 5) λAe=>Qac (Qao fu (⟨c1.fb,Ae.2.fi,Ae.2.fh⟩:Cur) 8) λAk=>Qac (Qhv 56 Aa.1.fG (([(⟨3,1,2,3,4,Ae.1,Ak.1⟩:Item)]:List Item))) λAt=>Qbe fu c1 Aa Aa.1.qQ Aa.1.fJ.fW Aa.1.fJ.fV Aa.1.fR Aa.1.fL Aa.1.fT Aa.1.fP At Ak.2.fi Ak.2.fh else bif (Ab.1 == 9) then bif (decide ((Aa.1.fG.length:Int) > 0)) then Qac (ix Aa.1.fG 0) λAr=>Qbe fu c1 Aa Aa.1.qQ Aa.1.fJ.fW Aa.1.fJ.fV Aa.1.fR Aa.1.fL Aa.1.fT Aa.1.fP (Qge Aa.1.fG 0 ({ Ar with fD:=Ac.1 })) Ab.2.fi Ab.2.fh else Qbe fu c1 Aa Aa.1.qQ Aa.1.fJ.fW Aa.1.fJ.fV Aa.1.fR Aa.1.fL Aa.1.fT Aa.1.fP Aa.1.fG Ab.2.fi Ab.2.fh else bif (Ab.1 == 10) then bif (decide ((Aa.1.fL.length:Int) > 0)) then Qac (sls Aa.1.fL 1 (Aa.1.fL.length:Int)) λAq=>Qbe fu c1 Aa Aa.1.qQ Aa.1.fJ.fW Aa.1.fJ.fV Aa.1.fR Aq Aa.1.fT Aa.1.fP Aa.1.fG Ab.2.fi Ab.2.fh else Qbe fu c1 Aa Aa.1.qQ Aa.1.fJ.fW Aa.1.fJ.fV Aa.1.fR Aa.1.fL Aa.1.fT Aa.1.fP Aa.1.fG Ab.2.fi Ab.2.fh else bif (Ab.1 == 11) then Qac (ix Aa.1.fT 0) λAs=>Qac (Qhv 56 Aa.1.fT (([As]:List Typ))) λAp=>Qbe fu c1 Aa Aa.1.qQ Aa.1.fJ.fW Aa.1.fJ.fV Aa.1.fR Aa.1.fL Ap Aa.1.fP Aa.1.fG Ab.2.fi Ab.2.fh else bif (Ab.1 == 12) then Qbe fu c1 Aa Aa.1.qQ Aa.1.fJ.fW Aa.1.fJ.fV Aa.1.fR Aa.1.fL (([]:List Typ)) Aa.1.fP Aa.1.fG Ab.2.fi Ab.2.fh else Qbe fu c1 Aa Aa.1.qQ Aa.1.fJ.fW Aa.1.fJ.fV Aa.1.fR Aa.1.fL Aa.1.fT Aa.1.fP Aa.1.fG Ab.2.fi Ab.2.fh
def Qmm (fu:Nat) (Ab:List U8):Option (Request) :=
  Qac (Qof fu Ab) λx8=>Qac (Qi6 fu (⟨Ab,x8.fi,x8.fh⟩:Cur) 2) λAa=>bif Aa.1 then Qac (Qr1 fu (⟨Ab,Aa.2.fi,Aa.2.fh⟩:Cur)) λAd=>some (Ad.1) else Qac (Qrg fu (⟨Ab,Aa.2.fi,Aa.2.fh⟩:Cur)) λAc=>some (Ac.1)
def Qkc (fu:Nat) (Ac:List Int → Int → Option ((List Int))) (Ab:Int) (Aa:List Int):Option ((List Int)) :=
  Ac Aa (w64 (Ab + 1))
def Qks (fu:Nat) (Ac:Bool → Int → Option ((List Int))) (Ab:Int) (Aa:Bool):Option ((List Int)) :=
  Ac Aa (w64 (Ab + 1))
def Qlu (fu:Nat) (Ac:List Int → Int → Option ((List Int))) (r1:Request) (Ad:List Int) (Ab:Int) (Af:Bool → Int → Option ((List Int))) (Ae:Bool) (Aa:Int):Option ((List Int)) :=
  bif (decide (Aa < (r1.fG.length:Int))) then bif Ae then Qks fu Af Aa true else Qac (ix r1.fG Aa) λAh=>Qks fu Af Aa (Ah.fF == Ab) else bif Ae then Qac (Qhv 8 Ad (([Ab]:List Int))) λAg=>Qkc fu Ac Ab Ag else Qkc fu Ac Ab Ad
def Qeb (fu:Nat) (Ab:List Int → Int → Option ((List Int))) (r1:Request) (Ac:List Int) (Aa:Int):Nat → Bool → Int → Option ((List Int))
  | 0=>λ_ _=>none
  | n + 1=>Qlu fu Ab r1 Ac Aa (Qeb fu Ab r1 Ac Aa n)
def Qly (fu:Nat)  (r1:Request) (Ac:List Int → Int → Option ((List Int))) (Ab:List Int) (Aa:Int):Option ((List Int)) :=
  bif (decide (Aa < 4)) then Qeb fu Ac r1 Ab Aa fu false 0 else some (Ab)
def Qdf (fu:Nat)  (r1:Request):Nat → List Int → Int → Option ((List Int))
  | 0=>λ_ _=>none
  | n + 1=>Qly fu r1 (Qdf fu r1 n)
def Qps (fu:Nat) (r1:Request):Option ((List Int)) :=
  Qac (Qep fu r1) λAa=>bif (Aa != 0) then some (([]:List Int)) else Qdf fu r1 fu (([]:List Int)) 0
def Qo9 (fu:Nat)  (Ab:List Int) (x5:Int) (k1:Int → Option (Bool)) (Aa:Int):Option (Bool) :=
  bif (decide (Aa < (Ab.length:Int))) then Qac (ix Ab Aa) λAc=>bif (Ac == x5) then some (true) else k1 (w64 (Aa + 1)) else some (false)
def Qh2 (fu:Nat)  (Aa:List Int) (x5:Int):Nat → Int → Option (Bool)
  | 0=>λ_=>none
  | n + 1=>Qo9 fu Aa x5 (Qh2 fu Aa x5 n)
def Qor (fu:Nat) (Aa:List Int) (x5:Int):Option (Bool) :=
  Qh2 fu Aa x5 fu 0
def Qo4 (fu:Nat) (k3:Int → Option (Bool)) (Aa:Int)  : Option (Bool) :=
  k3 (w64 (Aa + 1))
def Qk5 (fu:Nat)  (Ac:List Pair) (Ab:List Int) (Ae:Int) (k3:Int → Option (Bool)) (Aa:Int):Option (Bool) :=
  bif (decide (Aa < (Ab.length:Int))) then Qac (ix Ab Aa) λAd=>Qac (Qfw fu Ac Ad Ae) λAg=>bif (!Ag) then some (false) else Qac (ix Ab Aa) λAh=>Qac (Qfw fu Ac Ae Ad) λAf=>bif (!Af) then some (false) else Qo4 fu k3 Aa else some (true)
def Qfc (fu:Nat)  (Aa:List Pair) (Ab:List Int) (Ac:Int):Nat → Int → Option (Bool)
  | 0=>λ_=>none
  | n + 1=>Qk5 fu Aa Ab Ac (Qfc fu Aa Ab Ac n)
def Qp8 (fu:Nat) (Aa:List Pair) (Ab:List Int) (Ac:Int):Option (Bool) :=
  Qfc fu Aa Ab Ac fu 0
def Qha (fu:Nat) (Ac:List (List Int) → Int → Option ((List (List Int)))) (Aa:Int) (Ab:List (List Int)):Option ((List (List Int))) :=
  Ac Ab (w64 (Aa + 1))
def Qmy (fu:Nat) (Ac:Int → Int → Option ((List (List Int)))) (Aa:Int) (Ab:Int):Option ((List (List Int))) :=
  Ac Ab (w64 (Aa - 1))
def Qng (fu:Nat) (Ae:List (List Int) → Int → Option ((List (List Int)))) (Ag:List Pair) (Ad:List (List Int)) (Ac:Int) (Af:Int → Int → Option ((List (List Int)))) (Aa:Int) (Ab:Int):Option ((List (List Int))) :=
  bif (decide (Ab ≥ 0)) then Qac (ix Ad Ab) λAh=>Qac (Qp8 fu Ag Ah Ac) λAj=>bif Aj then Qmy fu Af Ab Ab else Qmy fu Af Ab Aa else bif (decide (Aa < 0)) then Qac (Qhv 24 Ad [([Ac]:List Int)]) λAl=>Qha fu Ae Ac Al else Qac (ix Ad Aa) λAi=>Qac (Qhv 8 Ai (([Ac]:List Int))) λAk=>Qac (ix Ad Aa) λAm=>Qha fu Ae Ac (Qge Ad Aa Ak)
def Qew (fu:Nat) (Ad:List (List Int) → Int → Option ((List (List Int)))) (Aa:List Pair) (Ac:List (List Int)) (Ab:Int):Nat → Int → Int → Option ((List (List Int)))
  | 0=>λ_ _=>none
  | n + 1=>Qng fu Ad Aa Ac Ab (Qew fu Ad Aa Ac Ab n)
def Qnx (fu:Nat)  (Ad:List Pair) (Af:List Int) (Ac:List (List Int) → Int → Option ((List (List Int)))) (Ab:List (List Int)) (Aa:Int):Option ((List (List Int))) :=
  bif (decide (Aa < 4)) then Qac (Qor fu Af Aa) λAe=>bif (!Ae) then Qha fu Ac Aa Ab else Qew fu Ac Ad Ab Aa fu ((-1)) (w64 ((Ab.length:Int) - 1)) else some (Ab)
def Qd4 (fu:Nat)  (Aa:List Pair) (Ab:List Int):Nat → List (List Int) → Int → Option ((List (List Int)))
  | 0=>λ_ _=>none
  | n + 1=>Qnx fu Aa Ab (Qd4 fu Aa Ab n)
def Qrk (fu:Nat) (Aa:List Pair) (Ab:List Int):Option ((List (List Int))) :=
  Qd4 fu Aa Ab fu (([]:List (List Int))) 0
def Qgx (fu:Nat) (r1:Request):Option ((List (List Int))) :=
  Qac (Qps fu r1) λAb=>Qac (Qrk fu r1.fL Ab) λAa=>some (Aa)
def Qmf (fu:Nat) (k3:List Int → Int → Option ((List Int))) (r1:Request) (Aa:Int) (k4:List Int → Int → Option ((List Int))) (Ac:List Int) (Ab:Int):Option ((List Int)) :=
  Qac (ix r1.fG Aa) λAe=>bif (decide (Ab < Ae.f0)) then Qac (Qhv 8 Ac (([Aa]:List Int))) λAd=>k4 Ad (w64 (Ab + 1)) else k3 Ac (w64 (Aa + 1))
def Qgq (fu:Nat) (k3:List Int → Int → Option ((List Int))) (r1:Request) (Aa:Int):Nat → List Int → Int → Option ((List Int))
  | 0=>λ_ _=>none
  | n + 1=>Qmf fu k3 r1 Aa (Qgq fu k3 r1 Aa n)
def Qmj (fu:Nat)  (r1:Request) (k3:List Int → Int → Option ((List Int))) (Aa:List Int) (Ab:Int):Option ((List Int)) :=
  bif (decide (Ab < (r1.fG.length:Int))) then Qgq fu k3 r1 Ab fu Aa 0 else some (Aa)
def Qee (fu:Nat)  (r1:Request):Nat → List Int → Int → Option ((List Int))
  | 0=>λ_ _=>none
  | n + 1=>Qmj fu r1 (Qee fu r1 n)
def Qcg (fu:Nat) (r1:Request):Option ((List Int)) :=
  Qee fu r1 fu (([]:List Int)) 0
def Qko (fu:Nat) (k3:List Int → Int → Option ((List Int))) (Aa:Int) (Ab:List Int):Option ((List Int)) :=
  k3 Ab (w64 (Aa + 1))
def Ql0 (fu:Nat)  (r1:Request) (Ae:Int) (Ag:(List (List Int))) (Ac:(List Int)) (k3:List Int → Int → Option ((List Int))) (Ab:List Int) (Aa:Int):Option ((List Int)) :=
  bif (decide (Aa < (Ac.length:Int))) then Qac (ix Ag Ae) λAj=>Qac (ix Ac Aa) λAf=>Qac (ix r1.fG Af) λAh=>Qac (Qor fu Aj Ah.fF) λAi=>bif Ai then Qac (Qhv 8 Ab (([Aa]:List Int))) λAd=>Qko fu k3 Aa Ad else Qko fu k3 Aa Ab else some (Ab)
def Qe5 (fu:Nat)  (r1:Request) (Ac:Int) (Ab:(List (List Int))) (Aa:(List Int)):Nat → List Int → Int → Option ((List Int))
  | 0=>λ_ _=>none
  | n + 1=>Ql0 fu r1 Ac Ab Aa (Qe5 fu r1 Ac Ab Aa n)
def Qqb (fu:Nat) (r1:Request) (Ab:Int):Option ((List Int)) :=
  Qac (Qgx fu r1) λAa=>Qac (Qar fu Ab 0 (w64 ((Aa.length:Int) - 1))) λAc=>bif (!Ac) then some (([]:List Int)) else Qac (Qcg fu r1) λAd=>Qe5 fu r1 Ab Aa Ad fu (([]:List Int)) 0
def Qki (fu:Nat) (k3:List Int → Int → Option ((List Int))) (Aa:Int) (Ab:List Int):Option ((List Int)) :=
  k3 Ab (w64 (Aa + 1))
def Qld (fu:Nat)  (Ae:List Int) (Ac:List Int) (k3:List Int → Int → Option ((List Int))) (Ab:List Int) (Aa:Int):Option ((List Int)) :=
  bif (decide (Aa < (Ac.length:Int))) then Qac (ix Ac Aa) λAd=>Qac (Qar fu Ad 0 (w64 ((Ae.length:Int) - 1))) λAg=>bif Ag then Qac (ix Ac Aa) λAh=>Qac (Qhv 8 Ab (([Ad]:List Int))) λAf=>Qki fu k3 Aa Af else Qki fu k3 Aa Ab else some (Ab)
def Qe9 (fu:Nat)  (Aa:List Int) (Ab:List Int):Nat → List Int → Int → Option ((List Int))
  | 0=>λ_ _=>none
  | n + 1=>Qld fu Aa Ab (Qe9 fu Aa Ab n)
def Qm6 (fu:Nat) (Aa:List Int) (Ab:List Int):Option ((List Int)) :=
  Qe9 fu Aa Ab fu (([]:List Int)) 0
def Qi1 (fu:Nat) (r1:Request) (Aa:List Int) (u9:Int):Option (Item × Bool) :=
  Qac (Qar fu u9 0 (w64 ((Aa.length:Int) - 1))) λAd=>bif (!Ad) then some ((⟨0,0,0,0,0,0,0⟩:Item),false) else Qac (ix Aa u9) λAc=>Qac (ix r1.fG Ac) λAb=>some (Ab,true)
def Qqt (fu:Nat) (Aa:Int) (h2:Int) (d3:Int)  : Option (Int) :=
  some (w64 ((w64 (Aa * h2)) * d3))
def Qla (fu:Nat) (Aa:Int) (h2:Int) (d3:Int):Option (Int) :=
  Qac (Qar fu Aa 0 2000) λAd=>bif (!Ad) then some (0) else Qac (Qar fu h2 0 2000) λAc=>bif (!Ac) then some (0) else Qac (Qar fu d3 0 2000) λAb=>bif (!Ab) then some (0) else Qqt fu Aa h2 d3
def Qsp (fu:Nat) (k7:L7 → Int → Option (L7)) (Aa:Int) (Ab:L7):Option (L7) :=
  k7 Ab (w64 (Aa + 1))
def Qsr (fu:Nat) (k7:L7 → Int → Option (L7)) (Ab:L7) (Ac:Int) (Aa:Item):Option (L7) :=
  Qac (Qla fu Aa.fW Aa.fH Aa.fD) λAd=>Qsp fu k7 Ac (⟨w64 (Ab.fvol + Ad),w64 (Ab.fgram + Aa.fV)⟩:L7)
def Qqn (fu:Nat)  (r1:Request) (Af:List Int) (Ab:List Int) (k7:L7 → Int → Option (L7)) (Ac:L7) (Aa:Int):Option (L7) :=
  bif (decide (Aa < (Ab.length:Int))) then Qac (ix Ab Aa) λAd=>Qac (Qi1 fu r1 Af Ad) λAe=>Qsr fu k7 Ac Aa Ae.1 else some (Ac)
def Qgt (fu:Nat)  (r1:Request) (Ab:List Int) (Aa:List Int):Nat → L7 → Int → Option (L7)
  | 0=>λ_ _=>none
  | n + 1=>Qqn fu r1 Ab Aa (Qgt fu r1 Ab Aa n)
def Qq0 (fu:Nat) (r1:Request) (Ab:List Int) (Aa:List Int):Option (L7) :=
  Qgt fu r1 Ab Aa fu (⟨0,0⟩:L7) 0
def Qqu (fu:Nat) (m9:Typ) (Aa:L7):Option (Bool) :=
  Qac (Qla fu m9.fW m9.fH m9.fD) λAb=>bif (decide (Aa.fvol ≤ Ab)) then some (decide (Aa.fgram ≤ m9.fV)) else some (false)
def Qpl (fu:Nat) (r1:Request) (Ae:List Int) (m9:Typ) (Af:List Int) (Aa:Int):Option (Bool) :=
  Qac (Qhv 8 (([]:List Int)) Af) λAd=>Qac (Qhv 8 Ad (([Aa]:List Int))) λAb=>Qac (Qq0 fu r1 Ae Ab) λAc=>Qqu fu m9 Ac
def Qik (fu:Nat) (k3:List (List Int) → Int → Option ((List (List Int)))) (Ab:Int) (Aa:List (List Int)):Option ((List (List Int))) :=
  k3 Aa (w64 (Ab + 1))
def Qn3 (fu:Nat)  (r1:Request) (Ac:List Int) (Ag:Typ × Bool) (Ak:(List Int)) (k3:List (List Int) → Int → Option ((List (List Int)))) (Aa:List (List Int)) (Ab:Int):Option ((List (List Int))) :=
  bif (decide (Ab < (Ac.length:Int))) then bif (decide ((Aa.length:Int) > 0)) then Qac (ix Aa (w64 ((Aa.length:Int) - 1))) λAe=>Qac (ix Ac Ab) λAd=>Qac (Qpl fu r1 Ak Ag.1 Ae Ad) λAl=>bif Al then Qac (ix Aa (w64 ((Aa.length:Int) - 1))) λAq=>Qac (ix Ac Ab) λAp=>Qac (Qhv 8 Ae (([Ad]:List Int))) λAi=>Qac (ix Aa (w64 ((Aa.length:Int) - 1))) λAo=>Qik fu k3 Ab (Qge Aa (w64 ((Aa.length:Int) - 1)) Ai) else Qac (ix Ac Ab) λAm=>Qac (Qhv 24 Aa [([Ad]:List Int)]) λAj=>Qik fu k3 Ab Aj else Qac (ix Ac Ab) λAh=>Qac (Qhv 24 Aa [([Ah]:List Int)]) λAf=>Qik fu k3 Ab Af else some (Aa)
def Qf8 (fu:Nat)  (r1:Request) (Ab:List Int) (Ac:Typ × Bool) (Aa:(List Int)):Nat → List (List Int) → Int → Option ((List (List Int)))
  | 0=>λ_ _=>none
  | n + 1=>Qn3 fu r1 Ab Ac Aa (Qf8 fu r1 Ab Ac Aa n)
def Qs9 (fu:Nat) (r1:Request) (Ab:List Int):Option ((List (List Int))) :=
  Qac (Qfz fu r1) λAc=>Qac (Qcg fu r1) λAa=>Qf8 fu r1 Ab Ac Aa fu (([]:List (List Int))) 0
def Qpv (fu:Nat) (r1:Request) (Ae:List Int):Option ((List (List Int))) :=
  Qac (Qep fu r1) λAb=>bif (Ab != 0) then some (([]:List (List Int))) else Qac (Qcg fu r1) λAd=>Qac (Qm6 fu Ad Ae) λAa=>Qac (Qs9 fu r1 Aa) λAc=>some (Ac)
def Qg2 (fu:Nat) (Aa:List Int):Option ((List Int)) :=
  Qac (Qj8 fu (Aa.length:Int)) λx5=>Qac (Qp2 fu Aa x5 true) λAb=>some (Ab)
def Qku (fu:Nat) (Aa:List (List Int) → Int → Option ((List (List Int)))) (Ab:Int) (Ac:List (List Int)):Option ((List (List Int))) :=
  Aa Ac (w64 (Ab + 1))
def Qkh (fu:Nat) (Ac:Int → Int → Option ((List (List Int)))) (Aa:Int) (Ab:Int):Option ((List (List Int))) :=
  Ac Ab (w64 (Aa - 1))
def Qk2 (fu:Nat) (Ae:List (List Int) → Int → Option ((List (List Int)))) (r1:Request) (Ai:Typ × Bool) (Am:(List Int)) (Ac:List (List Int)) (Af:Int) (Ad:Int) (Ag:Int → Int → Option ((List (List Int)))) (Aa:Int) (Ab:Int):Option ((List (List Int))) :=
  bif (decide (Ab ≥ 0)) then Qac (ix Ac Ab) λAk=>Qac (Qpl fu r1 Am Ai.1 Ak Ad) λAo=>bif Ao then Qkh fu Ag Ab Ab else Qkh fu Ag Ab Aa else bif (decide (Aa < 0)) then Qac (Qhv 24 Ac [([Ad]:List Int)]) λAh=>Qku fu Ae Af Ah else Qac (ix Ac Aa) λAj=>Qac (Qhv 8 Aj (([Ad]:List Int))) λAl=>Qac (ix Ac Aa) λAp=>Qku fu Ae Af (Qge Ac Aa Al)
def Qff (fu:Nat) (Aa:List (List Int) → Int → Option ((List (List Int)))) (r1:Request) (Ab:Typ × Bool) (Ad:(List Int)) (Af:List (List Int)) (Ae:Int) (Ac:Int):Nat → Int → Int → Option ((List (List Int)))
  | 0=>λ_ _=>none
  | n + 1=>Qk2 fu Aa r1 Ab Ad Af Ae Ac (Qff fu Aa r1 Ab Ad Af Ae Ac n)
def Qlz (fu:Nat)  (r1:Request) (Ai:List Int) (Ae:Typ × Bool) (Ag:(List Int)) (Ac:(List Int)) (Ad:List (List Int) → Int → Option ((List (List Int)))) (Ab:List (List Int)) (Aa:Int):Option ((List (List Int))) :=
  bif (decide (Aa < (Ac.length:Int))) then Qac (ix Ac Aa) λAh=>Qac (ix Ai Ah) λAf=>Qff fu Ad r1 Ae Ag Ab Aa Af fu ((-1)) (w64 ((Ab.length:Int) - 1)) else some (Ab)
def Qcl (fu:Nat)  (r1:Request) (Ab:List Int) (Ac:Typ × Bool) (Aa:(List Int)) (Ad:(List Int)):Nat → List (List Int) → Int → Option ((List (List Int)))
  | 0=>λ_ _=>none
  | n + 1=>Qlz fu r1 Ab Ac Aa Ad (Qcl fu r1 Ab Ac Aa Ad n)
def Qlh (fu:Nat)  (r1:Request) (Ab:List Int) (Ae:Typ × Bool) (Ad:(List Int)) (k1:List Int → Int → Option ((List (List Int)))) (Ac:List Int) (Aa:Int):Option ((List (List Int))) :=
  bif (decide (Aa < (Ab.length:Int))) then Qac (sls Ab Aa (w64 (Aa + 1))) λAi=>Qac (Qq0 fu r1 Ad Ai) λAh=>Qac (Qhv 8 Ac (([Ah.fvol]:List Int))) λAf=>k1 Af (w64 (Aa + 1)) else Qac (Qg2 fu Ac) λAg=>Qcl fu r1 Ab Ae Ad Ag fu (([]:List (List Int))) 0
def Qgh (fu:Nat)  (r1:Request) (Ab:List Int) (Ac:Typ × Bool) (Aa:(List Int)):Nat → List Int → Int → Option ((List (List Int)))
  | 0=>λ_ _=>none
  | n + 1=>Qlh fu r1 Ab Ac Aa (Qgh fu r1 Ab Ac Aa n)
def Qsn (fu:Nat) (r1:Request) (Ab:List Int):Option ((List (List Int))) :=
  Qac (Qfz fu r1) λAc=>Qac (Qcg fu r1) λAa=>Qgh fu r1 Ab Ac Aa fu (([]:List Int)) 0
def Qog (fu:Nat) (r1:Request) (Ae:List Int):Option ((List (List Int))) :=
  Qac (Qep fu r1) λAb=>bif (Ab != 0) then some (([]:List (List Int))) else Qac (Qcg fu r1) λAd=>Qac (Qm6 fu Ad Ae) λAa=>Qac (Qsn fu r1 Aa) λAc=>some (Ac)
def Qpt (fu:Nat) (r1:Request) (Aa:List Int):Option ((List (List Int))) :=
  bif (r1.qQ == 1) then Qac (Qpv fu r1 Aa) λAb=>some (Ab) else Qac (Qog fu r1 Aa) λAc=>some (Ac)
def Qsd (fu:Nat) (r1:Request) (Ad:List Int) (t9:Typ) (Ab:(List Int))  : Option (Bool) :=
  Qac (Qq0 fu r1 Ab Ad) λAa=>Qac (Qla fu t9.fW t9.fH t9.fD) λAc=>bif (decide (Aa.fvol ≤ Ac)) then some (decide (Aa.fgram ≤ t9.fV)) else some (false)
def Qrh (fu:Nat) (Ab:Int → Option (Bool)) (Aa:Int)  : Option (Bool) :=
  Ab (w64 (Aa + 1))
def Qr6 (fu:Nat) (Aa:Int → Option (Bool)) (t9:Typ) (Ac:Int) (Ae:Item) (Ad:Bool):Option (Bool) :=
  bif (!Ad) then some (false) else Qac (Qqz fu Ae t9) λAb=>bif (!Ab) then some (false) else Qrh fu Aa Ac
def Qo8 (fu:Nat)  (r1:Request) (Ab:List Int) (t9:Typ) (Ac:(List Int)) (Af:Int → Option (Bool)) (Aa:Int):Option (Bool) :=
  bif (decide (Aa < (Ab.length:Int))) then Qac (ix Ab Aa) λAe=>Qac (Qi1 fu r1 Ac Ae) λAd=>Qr6 fu Af t9 Aa Ad.1 Ad.2 else Qsd fu r1 Ab t9 Ac
def Qf0 (fu:Nat)  (r1:Request) (Ab:List Int) (t9:Typ) (Aa:(List Int)):Nat → Int → Option (Bool)
  | 0=>λ_=>none
  | n + 1=>Qo8 fu r1 Ab t9 Aa (Qf0 fu r1 Ab t9 Aa n)
def Qq4 (fu:Nat) (r1:Request) (Ac:List Int) (t9:Typ):Option (Bool) :=
  Qac (Qep fu r1) λAb=>bif (Ab != 0) then some (false) else Qac (Qcg fu r1) λAa=>Qf0 fu r1 Ac t9 Aa fu 0
def Qdp (fu:Nat) (k3:Typ → Bool → Int → Option (Typ × Bool)) (Ab:Int) (Aa:Typ) (Ac:Bool):Option (Typ × Bool) :=
  k3 Aa Ac (w64 (Ab + 1))
def Qjd (fu:Nat)  (r1:Request) (Af:List Int) (k3:Typ → Bool → Int → Option (Typ × Bool)) (Ab:Typ) (Ad:Bool) (Aa:Int):Option (Typ × Bool) :=
  bif (decide (Aa < (r1.fT.length:Int))) then Qac (ix r1.fT Aa) λAc=>Qac (Qq4 fu r1 Af Ac) λAe=>bif (!Ae) then Qdp fu k3 Aa Ab Ad else bif (!Ad) then Qdp fu k3 Aa Ac true else bif (decide (Ac.fK < Ab.fK)) then Qdp fu k3 Aa Ac true else bif (Ac.fK == Ab.fK) then bif (decide (Ac.f8 < Ab.f8)) then Qdp fu k3 Aa Ac true else Qdp fu k3 Aa Ab Ad else Qdp fu k3 Aa Ab Ad else some (Ab,Ad)
def Qem (fu:Nat)  (r1:Request) (Aa:List Int):Nat → Typ → Bool → Int → Option (Typ × Bool)
  | 0=>λ_ _ _=>none
  | n + 1=>Qjd fu r1 Aa (Qem fu r1 Aa n)
def Qkt (fu:Nat) (r1:Request) (Aa:List Int):Option (Typ × Bool) :=
  Qem fu r1 Aa fu (⟨0,0,0,0,0,0,0⟩:Typ) false 0
def Qlm (fu:Nat) (Ac:List Carton → Int → Option ((List Carton))) (Ab:Int) (Aa:List Carton):Option ((List Carton)) :=
  Ac Aa (w64 (Ab + 1))
def Qh3 (fu:Nat) (Ac:List Carton → Int → Option ((List Carton))) (Aa:Int) (Ab:List Carton):Option ((List Carton)) :=
  Ac Ab (w64 (Aa + 1))
def Qip (fu:Nat) (Am:List Carton → Int → Option ((List Carton))) (Ai:Int) (Ak:(List (List Int))) (Al:List Carton) (Ad:Int) (Ao:Typ) (Ac:(List Int)) (Ae:List Int → Int → Option ((List Carton))) (Ab:List Int) (Aa:Int):Option ((List Carton)) :=
  bif (decide (Aa < (Ac.length:Int))) then Qac (ix Ak Ad) λAj=>Qac (ix Ac Aa) λAf=>Qac (ix Aj Af) λAh=>Qac (Qhv 8 Ab (([Ah]:List Int))) λAp=>Ae Ap (w64 (Aa + 1)) else Qac (Qhv 40 Al [(⟨Ao.f8,Ai,Ab⟩:Carton)]) λAg=>Qh3 fu Am Ad Ag
def Qex (fu:Nat) (Ae:List Carton → Int → Option ((List Carton))) (Ab:Int) (Ac:(List (List Int))) (Aa:List Carton) (Ag:Int) (Af:Typ) (Ad:(List Int)):Nat → List Int → Int → Option ((List Carton))
  | 0=>λ_ _=>none
  | n + 1=>Qip fu Ae Ab Ac Aa Ag Af Ad (Qex fu Ae Ab Ac Aa Ag Af Ad n)
def Qk6 (fu:Nat) (Ag:List Carton → Int → Option ((List Carton))) (Ad:Int) (Aa:(List (List Int))) (Ae:List Carton) (Ab:Int) (Ah:Typ):Option ((List Carton)) :=
  Qac (ix Aa Ab) λAc=>Qac (Qo2 fu Ac) λAf=>Qex fu Ag Ad Aa Ae Ab Ah Af fu (([]:List Int)) 0
def Qiv (fu:Nat) (Ah:List Carton → Int → Option ((List Carton))) (r1:Request) (Ac:Int) (Aa:(List (List Int))) (Ag:List Carton → Int → Option ((List Carton))) (Ad:List Carton) (Ab:Int):Option ((List Carton)) :=
  bif (decide (Ab < (Aa.length:Int))) then Qac (ix Aa Ab) λAe=>Qac (Qkt fu r1 Ae) λAf=>Qk6 fu Ag Ac Aa Ad Ab Af.1 else Qlm fu Ah Ac Ad
def Qbz (fu:Nat) (Ab:List Carton → Int → Option ((List Carton))) (r1:Request) (Aa:Int) (Ac:(List (List Int))):Nat → List Carton → Int → Option ((List Carton))
  | 0=>λ_ _=>none
  | n + 1=>Qiv fu Ab r1 Aa Ac (Qbz fu Ab r1 Aa Ac n)
def Qiy (fu:Nat)  (r1:Request) (Ac:(List (List Int))) (Ae:List Carton → Int → Option ((List Carton))) (Ab:List Carton) (Aa:Int):Option ((List Carton)) :=
  bif (decide (Aa < (Ac.length:Int))) then Qac (Qqb fu r1 Aa) λAf=>Qac (Qpt fu r1 Af) λAd=>Qbz fu Ae r1 Aa Ad fu Ab 0 else some (Ab)
def Qbd (fu:Nat)  (r1:Request) (Aa:(List (List Int))):Nat → List Carton → Int → Option ((List Carton))
  | 0=>λ_ _=>none
  | n + 1=>Qiy fu r1 Aa (Qbd fu r1 Aa n)
def Qmv (fu:Nat) (r1:Request):Option ((List Carton)) :=
  Qac (Qgx fu r1) λAa=>Qbd fu r1 Aa fu (([]:List Carton)) 0
def Qjp (fu:Nat)  (r1:Request) (Ac:Int) (k1:Int → Option (Typ × Bool)) (Aa:Int):Option (Typ × Bool) :=
  bif (decide (Aa < (r1.fT.length:Int))) then Qac (ix r1.fT Aa) λAb=>bif (Ab.f8 == Ac) then Qac (ix r1.fT Aa) λAd=>some (Ab,true) else k1 (w64 (Aa + 1)) else some ((⟨0,0,0,0,0,0,0⟩:Typ),false)
def Qfs (fu:Nat)  (r1:Request) (Aa:Int):Nat → Int → Option (Typ × Bool)
  | 0=>λ_=>none
  | n + 1=>Qjp fu r1 Aa (Qfs fu r1 Aa n)
def Qh5 (fu:Nat) (r1:Request) (Aa:Int):Option (Typ × Bool) :=
  Qfs fu r1 Aa fu 0
def Qsw (fu:Nat) (r1:Request):Option ((List Int)) :=
  Qac (Qep fu r1) λAb=>bif (Ab != 0) then some (([]:List Int)) else Qac (Qcg fu r1) λAa=>some (Aa)
def Qqj (fu:Nat) (k7:Int → Int → Option (Int)) (Aa:Int) (Ab:Int):Option (Int) :=
  k7 Ab (w64 (Aa + 1))
def Qqm (fu:Nat) (k7:Int → Int → Option (Int)) (Ac:Int) (Ab:Int) (Aa:Item):Option (Int) :=
  Qqj fu k7 Ab (w64 (Ac + Aa.fV))
def Qnk (fu:Nat)  (r1:Request) (Ab:List Int) (Ad:(List Int)) (k7:Int → Int → Option (Int)) (Ac:Int) (Aa:Int):Option (Int) :=
  bif (decide (Aa < (Ab.length:Int))) then Qac (ix Ab Aa) λAf=>Qac (Qi1 fu r1 Ad Af) λAe=>Qqm fu k7 Ac Aa Ae.1 else some (Ac)
def Qeu (fu:Nat)  (r1:Request) (Aa:List Int) (Ab:(List Int)):Nat → Int → Int → Option (Int)
  | 0=>λ_ _=>none
  | n + 1=>Qnk fu r1 Aa Ab (Qeu fu r1 Aa Ab n)
def Qse (fu:Nat) (r1:Request) (Aa:List Int):Option (Int) :=
  Qac (Qsw fu r1) λAb=>Qeu fu r1 Aa Ab fu 0 0
def Qrx (fu:Nat) (r1:Request) (x5:Carton) (Ab:Typ × Bool)  : Option (Int) :=
  Qac (Qse fu r1 x5.fM) λAa=>some (w64 (Ab.1.f7 + Aa))
def Qq5 (fu:Nat) (r1:Request) (x5:Carton):Option (Int) :=
  Qac (Qh5 fu r1 x5.fO) λAa=>Qac (Qep fu r1) λAb=>bif (Ab != 0) then some (0) else bif (!Aa.2) then some (0) else Qrx fu r1 x5 Aa
def Qrv (fu:Nat) (r1:Request) (x5:Carton) (Aa:Typ × Bool)  : Option (Box) :=
  Qac (Qq5 fu r1 x5) λAb=>some (⟨Aa.1.fW,Aa.1.fD,Aa.1.fH,Ab⟩:Box)
def Qiu (fu:Nat) (r1:Request) (x5:Carton):Option (Box) :=
  Qac (Qh5 fu r1 x5.fO) λAa=>Qac (Qep fu r1) λAb=>bif (Ab != 0) then some (⟨0,0,0,0⟩:Box) else bif (!Aa.2) then some (⟨0,0,0,0⟩:Box) else Qrv fu r1 x5 Aa
def Qpd (fu:Nat) (k3:Int → Option (Bool)) (Aa:Int)  : Option (Bool) :=
  k3 (w64 (Aa + 1))
def Qlx (fu:Nat)  (p1:Pallet) (Ac:List Box) (k3:Int → Option (Bool)) (Ab:Int):Option (Bool) :=
  bif (decide (Ab < (Ac.length:Int))) then Qac (ix Ac Ab) λAa=>Qac (Qar fu Aa.fW 1 p1.fW) λAf=>bif (!Af) then some (false) else Qac (Qar fu Aa.fD 1 p1.fD) λAd=>bif (!Ad) then some (false) else Qac (Qar fu Aa.fH 1 p1.fH) λAg=>bif (!Ag) then some (false) else Qac (Qar fu Aa.fV 1 p1.fV) λAe=>bif (!Ae) then some (false) else Qpd fu k3 Ab else some (true)
def Qfh (fu:Nat)  (p1:Pallet) (Aa:List Box):Nat → Int → Option (Bool)
  | 0=>λ_=>none
  | n + 1=>Qlx fu p1 Aa (Qfh fu p1 Aa n)
def Qm5 (fu:Nat) (p1:Pallet) (Ab:List Box):Option (Bool) :=
  Qac (Qg1 fu p1) λAa=>bif (!Aa) then some (false) else Qfh fu p1 Ab fu 0
def Qkx (fu:Nat) (a1:Int) (b2:Int):Option (Int) :=
  bif (decide (a1 > b2)) then some (a1) else some (b2)
def Qgu (fu:Nat) (Aa:Shelf) (Ad:Int) (b6:Box):Option (Shelf) :=
  Qac (Qhv 8 (([]:List Int)) Aa.qJ) λAb=>Qac (Qhv 8 Ab (([Ad]:List Int))) λAc=>Qac (Qkx fu Aa.fD b6.fD) λAe=>Qac (Qkx fu Aa.fH b6.fH) λAf=>some (⟨Ac,w64 (Aa.fW + b6.fW),Ae,Af,w64 (Aa.fV + b6.fV)⟩:Shelf)
def Qgo (fu:Nat) (k4:List Shelf → Int → Option ((List Shelf))) (Aa:Int) (Ab:List Shelf):Option ((List Shelf)) :=
  k4 Ab (w64 (Aa + 1))
def Qmb (fu:Nat)  (p1:Pallet) (Ai:List Box) (Ac:(List Int)) (k4:List Shelf → Int → Option ((List Shelf))) (Aa:List Shelf) (Ab:Int):Option ((List Shelf)) :=
  bif (decide (Ab < (Ac.length:Int))) then Qac (ix Ac Ab) λAe=>Qac (ix Ai Ae) λAd=>bif (decide ((Aa.length:Int) > 0)) then Qac (ix Aa (w64 ((Aa.length:Int) - 1))) λAf=>bif (decide ((w64 (Af.fW + Ad.fW)) ≤ p1.fW)) then Qac (ix Aa (w64 ((Aa.length:Int) - 1))) λAs=>bif (decide ((w64 (Af.fV + Ad.fV)) ≤ p1.fV)) then Qac (ix Aa (w64 ((Aa.length:Int) - 1))) λAv=>Qac (ix Ac Ab) λAq=>Qac (Qgu fu Af Ae Ad) λAo=>Qac (ix Aa (w64 ((Aa.length:Int) - 1))) λAt=>Qgo fu k4 Ab (Qge Aa (w64 ((Aa.length:Int) - 1)) Ao) else Qac (ix Ac Ab) λAp=>Qac (Qgu fu (⟨[],0,0,0,0⟩:Shelf) Ae Ad) λAg=>Qac (Qhv 56 Aa [Ag]) λAk=>Qgo fu k4 Ab Ak else Qac (ix Ac Ab) λAr=>Qac (Qgu fu (⟨[],0,0,0,0⟩:Shelf) Ae Ad) λAh=>Qac (Qhv 56 Aa [Ah]) λAm=>Qgo fu k4 Ab Am else Qac (ix Ac Ab) λAu=>Qac (Qgu fu (⟨[],0,0,0,0⟩:Shelf) Ae Ad) λAl=>Qac (Qhv 56 Aa [Al]) λAj=>Qgo fu k4 Ab Aj else some (Aa)
def Qd6 (fu:Nat)  (p1:Pallet) (Ab:List Box) (Aa:(List Int)):Nat → List Shelf → Int → Option ((List Shelf))
  | 0=>λ_ _=>none
  | n + 1=>Qmb fu p1 Ab Aa (Qd6 fu p1 Ab Aa n)
def Qk3 (fu:Nat)  (p1:Pallet) (Aa:List Box) (k1:List Int → Int → Option ((List Shelf))) (Ac:List Int) (Ab:Int):Option ((List Shelf)) :=
  bif (decide (Ab < (Aa.length:Int))) then Qac (ix Aa Ab) λAe=>Qac (Qhv 8 Ac (([Ae.fD]:List Int))) λAd=>k1 Ad (w64 (Ab + 1)) else Qac (Qg2 fu Ac) λAf=>Qd6 fu p1 Aa Af fu (([]:List Shelf)) 0
def Qgm (fu:Nat)  (p1:Pallet) (Aa:List Box):Nat → List Int → Int → Option ((List Shelf))
  | 0=>λ_ _=>none
  | n + 1=>Qk3 fu p1 Aa (Qgm fu p1 Aa n)
def Qqe (fu:Nat) (p1:Pallet) (Aa:List Box):Option ((List Shelf)) :=
  Qac (Qm5 fu p1 Aa) λAb=>bif (!Ab) then some (([]:List Shelf)) else Qgm fu p1 Aa fu (([]:List Int)) 0
def Qq6 (fu:Nat) (p1:Pallet) (d2:Int) (h3:Int) (Aa:Int):Option (Bool) :=
  Qac (Qar fu d2 1 p1.fD) λx8=>bif x8 then Qac (Qar fu h3 1 p1.fH) λAc=>bif Ac then Qac (Qar fu Aa 1 p1.fV) λAb=>some (Ab) else some (false) else some (false)
def Qiq (fu:Nat)  (p1:Pallet) (Ab:List Shelf) (k1:Int → Option (Bool)) (Aa:Int):Option (Bool) :=
  bif (decide (Aa < (Ab.length:Int))) then Qac (ix Ab Aa) λAc=>Qac (ix Ab Aa) λAe=>Qac (ix Ab Aa) λAf=>Qac (Qq6 fu p1 Ac.fD Ac.fH Ac.fV) λAd=>bif (!Ad) then some (false) else k1 (w64 (Aa + 1)) else some (true)
def Qe0 (fu:Nat)  (p1:Pallet) (Aa:List Shelf):Nat → Int → Option (Bool)
  | 0=>λ_=>none
  | n + 1=>Qiq fu p1 Aa (Qe0 fu p1 Aa n)
def Qmx (fu:Nat) (p1:Pallet) (Ab:List Shelf):Option (Bool) :=
  Qac (Qg1 fu p1) λAa=>bif (!Aa) then some (false) else Qe0 fu p1 Ab fu 0
def Qnf (fu:Nat) (k7:List Layer → Int → Option ((List Layer))) (Ab:Int) (Aa:List Layer):Option ((List Layer)) :=
  k7 Aa (w64 (Ab + 1))
def Qcy (fu:Nat) (k7:List Layer → Int → Option ((List Layer))) (Ae:Int) (Ac:Shelf) (Ab:List Layer) (Ad:Int):Option ((List Layer)) :=
  Qac (ix Ab (w64 (Ad - 1))) λAa=>Qac (Qhv 8 (([]:List Int)) Aa.f9) λAh=>Qac (Qhv 8 Ah (([Ae]:List Int))) λAf=>Qac (Qkx fu Aa.fH Ac.fH) λAg=>Qac (ix Ab (w64 (Ad - 1))) λAi=>Qnf fu k7 Ae (Qge Ab (w64 (Ad - 1)) (⟨Af,w64 (Aa.fD + Ac.fD),Ag,w64 (Aa.fV + Ac.fV)⟩:Layer))
def Qju (fu:Nat)  (p1:Pallet) (Ad:List Shelf) (k7:List Layer → Int → Option ((List Layer))) (Aa:List Layer) (Ac:Int):Option ((List Layer)) :=
  bif (decide (Ac < (Ad.length:Int))) then Qac (ix Ad Ac) λAb=>bif ((Aa.length:Int) == 0) then Qac (Qhv 48 Aa [(⟨[],0,0,0⟩:Layer)]) λAg=>Qcy fu k7 Ac Ab Ag (w64 ((Aa.length:Int) + 1)) else Qac (ix Aa (w64 ((Aa.length:Int) - 1))) λAe=>bif (decide ((w64 (Ae.fD + Ab.fD)) > p1.fD)) then Qac (Qhv 48 Aa [(⟨[],0,0,0⟩:Layer)]) λAf=>Qcy fu k7 Ac Ab Af (w64 ((Aa.length:Int) + 1)) else Qac (ix Aa (w64 ((Aa.length:Int) - 1))) λAi=>bif (decide ((w64 (Ae.fV + Ab.fV)) > p1.fV)) then Qac (Qhv 48 Aa [(⟨[],0,0,0⟩:Layer)]) λAh=>Qcy fu k7 Ac Ab Ah (w64 ((Aa.length:Int) + 1)) else Qcy fu k7 Ac Ab Aa (Aa.length:Int) else some (Aa)
def Qbi (fu:Nat)  (p1:Pallet) (Aa:List Shelf):Nat → List Layer → Int → Option ((List Layer))
  | 0=>λ_ _=>none
  | n + 1=>Qju fu p1 Aa (Qbi fu p1 Aa n)
def Qoi (fu:Nat) (p1:Pallet) (Aa:List Shelf):Option ((List Layer)) :=
  Qac (Qmx fu p1 Aa) λAb=>bif (!Ab) then some (([]:List Layer)) else Qbi fu p1 Aa fu (([]:List Layer)) 0
def Qjo (fu:Nat)  (p1:Pallet) (Ab:List Layer) (k1:Int → Option (Bool)) (Aa:Int):Option (Bool) :=
  bif (decide (Aa < (Ab.length:Int))) then Qac (ix Ab Aa) λAc=>Qac (ix Ab Aa) λAe=>Qac (ix Ab Aa) λAf=>Qac (Qq6 fu p1 Ac.fD Ac.fH Ac.fV) λAd=>bif (!Ad) then some (false) else k1 (w64 (Aa + 1)) else some (true)
def Qfq (fu:Nat)  (p1:Pallet) (Aa:List Layer):Nat → Int → Option (Bool)
  | 0=>λ_=>none
  | n + 1=>Qjo fu p1 Aa (Qfq fu p1 Aa n)
def Qn8 (fu:Nat) (p1:Pallet) (Ab:List Layer):Option (Bool) :=
  Qac (Qg1 fu p1) λAa=>bif (!Aa) then some (false) else Qfq fu p1 Ab fu 0
def Qpj (fu:Nat) (k7:List Load → Int → Option ((List Load))) (Ab:Int) (Aa:List Load):Option ((List Load)) :=
  k7 Aa (w64 (Ab + 1))
def Qdb (fu:Nat) (k7:List Load → Int → Option ((List Load))) (Ae:Int) (Ad:Layer) (Ac:List Load) (Aa:Int):Option ((List Load)) :=
  Qac (ix Ac (w64 (Aa - 1))) λAb=>Qac (Qhv 8 (([]:List Int)) Ab.ft) λAf=>Qac (Qhv 8 Af (([Ae]:List Int))) λAg=>Qac (ix Ac (w64 (Aa - 1))) λAh=>Qpj fu k7 Ae (Qge Ac (w64 (Aa - 1)) (⟨Ag,w64 (Ab.fH + Ad.fH),w64 (Ab.fV + Ad.fV)⟩:Load))
def Ql9 (fu:Nat)  (p1:Pallet) (Ae:List Layer) (k7:List Load → Int → Option ((List Load))) (Aa:List Load) (Ac:Int):Option ((List Load)) :=
  bif (decide (Ac < (Ae.length:Int))) then Qac (ix Ae Ac) λAb=>bif ((Aa.length:Int) == 0) then Qac (Qhv 40 Aa [(⟨[],0,0⟩:Load)]) λAg=>Qdb fu k7 Ac Ab Ag (w64 ((Aa.length:Int) + 1)) else Qac (ix Aa (w64 ((Aa.length:Int) - 1))) λAd=>bif (decide ((w64 (Ad.fH + Ab.fH)) > p1.fH)) then Qac (Qhv 40 Aa [(⟨[],0,0⟩:Load)]) λAf=>Qdb fu k7 Ac Ab Af (w64 ((Aa.length:Int) + 1)) else Qac (ix Aa (w64 ((Aa.length:Int) - 1))) λAi=>bif (decide ((w64 (Ad.fV + Ab.fV)) > p1.fV)) then Qac (Qhv 40 Aa [(⟨[],0,0⟩:Load)]) λAh=>Qdb fu k7 Ac Ab Ah (w64 ((Aa.length:Int) + 1)) else Qdb fu k7 Ac Ab Aa (Aa.length:Int) else some (Aa)
def Qbr (fu:Nat)  (p1:Pallet) (Aa:List Layer):Nat → List Load → Int → Option ((List Load))
  | 0=>λ_ _=>none
  | n + 1=>Ql9 fu p1 Aa (Qbr fu p1 Aa n)
def Qp0 (fu:Nat) (p1:Pallet) (Aa:List Layer):Option ((List Load)) :=
  Qac (Qn8 fu p1 Aa) λAb=>bif (!Ab) then some (([]:List Load)) else Qbr fu p1 Aa fu (([]:List Load)) 0
def Qlj (fu:Nat) (Aj:List Spot → Int → Int → Option ((List Spot))) (Ai:List Box) (Al:Int) (Am:Int) (Af:Int) (Ah:Int) (Aa:Shelf) (Ag:List Spot → Int → Int → Option ((List Spot))) (Ad:List Spot) (Ae:Int) (Ab:Int):Option ((List Spot)) :=
  bif (decide (Ab < (Aa.qJ.length:Int))) then Qac (ix Aa.qJ Ab) λAc=>Qac (ix Ad Ac) λAp=>Qac (ix Aa.qJ Ab) λAo=>Qac (ix Ai Ac) λAk=>Ag (Qge Ad Ac (⟨Al,Ae,Af,Am⟩:Spot)) (w64 (Ae + Ak.fW)) (w64 (Ab + 1)) else Aj Ad (w64 (Af + Aa.fD)) (w64 (Ah + 1))
def Qgf (fu:Nat) (Ae:List Spot → Int → Int → Option ((List Spot))) (Ac:List Box) (Af:Int) (Ag:Int) (Ad:Int) (Ab:Int) (Aa:Shelf):Nat → List Spot → Int → Int → Option ((List Spot))
  | 0=>λ_ _ _=>none
  | n + 1=>Qlj fu Ae Ac Af Ag Ad Ab Aa (Qgf fu Ae Ac Af Ag Ad Ab Aa n)
def Ql4 (fu:Nat) (Af:List Spot → Int → Int → Option ((List Spot))) (Ag:List Box) (Am:(List Shelf)) (Al:Int) (Ad:Int) (Aj:Int) (Ab:Layer) (Ak:List Spot → Int → Int → Option ((List Spot))) (Ac:List Spot) (Ah:Int) (Aa:Int):Option ((List Spot)) :=
  bif (decide (Aa < (Ab.f9.length:Int))) then Qac (ix Ab.f9 Aa) λAi=>Qac (ix Am Ai) λAe=>Qgf fu Ak Ag Al Ad Ah Aa Ae fu Ac 0 0 else Af Ac (w64 (Ad + Ab.fH)) (w64 (Aj + 1))
def Qda (fu:Nat) (Aa:List Spot → Int → Int → Option ((List Spot))) (Ab:List Box) (Ag:(List Shelf)) (Ae:Int) (Af:Int) (Ad:Int) (Ac:Layer):Nat → List Spot → Int → Int → Option ((List Spot))
  | 0=>λ_ _ _=>none
  | n + 1=>Ql4 fu Aa Ab Ag Ae Af Ad Ac (Qda fu Aa Ab Ag Ae Af Ad Ac n)
def Qlp (fu:Nat) (Am:List Spot → Int → Option ((List Spot))) (Aj:List Box) (Ag:(List Shelf)) (Af:(List Layer)) (Ac:(List Load)) (Aa:Int) (Ah:List Spot → Int → Int → Option ((List Spot))) (Ad:List Spot) (Al:Int) (Ab:Int):Option ((List Spot)) :=
  Qac (ix Ac Aa) λAe=>bif (decide (Ab < (Ae.ft.length:Int))) then Qac (ix Ac Aa) λAo=>Qac (ix Ae.ft Ab) λAi=>Qac (ix Af Ai) λAk=>Qda fu Ah Aj Ag Aa Al Ab Ak fu Ad 0 0 else Am Ad (w64 (Aa + 1))
def Qb9 (fu:Nat) (Ad:List Spot → Int → Option ((List Spot))) (Ab:List Box) (Af:(List Shelf)) (Aa:(List Layer)) (Ac:(List Load)) (Ae:Int):Nat → List Spot → Int → Int → Option ((List Spot))
  | 0=>λ_ _ _=>none
  | n + 1=>Qlp fu Ad Ab Af Aa Ac Ae (Qb9 fu Ad Ab Af Aa Ac Ae n)
def Qlw (fu:Nat)  (Ae:List Box) (Ag:(List Shelf)) (Ad:(List Layer)) (Aa:(List Load)) (Af:List Spot → Int → Option ((List Spot))) (Ab:List Spot) (Ac:Int):Option ((List Spot)) :=
  bif (decide (Ac < (Aa.length:Int))) then Qb9 fu Af Ae Ag Ad Aa Ac fu Ab 0 0 else some (Ab)
def Qbk (fu:Nat)  (Ac:List Box) (Ad:(List Shelf)) (Ab:(List Layer)) (Aa:(List Load)):Nat → List Spot → Int → Option ((List Spot))
  | 0=>λ_ _=>none
  | n + 1=>Qlw fu Ac Ad Ab Aa (Qbk fu Ac Ad Ab Aa n)
def Qm1 (fu:Nat) (p1:Pallet) (Aa:List Box):Option ((List Spot)) :=
  Qac (mk 32 (⟨(0:Int),(0:Int),(0:Int),(0:Int)⟩:Spot) (Aa.length:Int)) λAe=>Qac (Qm5 fu p1 Aa) λAf=>bif (!Af) then some (([]:List Spot)) else Qac (Qqe fu p1 Aa) λAc=>Qac (Qoi fu p1 Ac) λAb=>Qac (Qp0 fu p1 Ab) λAd=>Qbk fu Aa Ac Ab Ad fu Ae 0
def Qkj (fu:Nat) (k3:Int → Int → Option (Int)) (Aa:Int) (Ab:Int):Option (Int) :=
  k3 Ab (w64 (Aa + 1))
def Qme (fu:Nat)  (Ab:List Spot) (k3:Int → Int → Option (Int)) (Ac:Int) (Aa:Int):Option (Int) :=
  bif (decide (Aa < (Ab.length:Int))) then Qac (ix Ab Aa) λAd=>Qac (Qar fu Ad.fJ 0 999999) λAe=>bif Ae then Qac (ix Ab Aa) λAg=>Qac (Qkx fu Ac (w64 (Ad.fJ + 1))) λAf=>Qkj fu k3 Aa Af else Qkj fu k3 Aa Ac else some (Ac)
def Qe7 (fu:Nat)  (Aa:List Spot):Nat → Int → Int → Option (Int)
  | 0=>λ_ _=>none
  | n + 1=>Qme fu Aa (Qe7 fu Aa n)
def Qm4 (fu:Nat) (Aa:List Spot):Option (Int) :=
  Qe7 fu Aa fu 0 0
def Qmn (fu:Nat) (Aa:List Box → Int → Option (Plan × Bool)) (Ac:Int) (Ab:List Box):Option (Plan × Bool) :=
  Aa Ab (w64 (Ac + 1))
def Qnh (fu:Nat) (Aj:List Spot → Int → Int → Option (Plan × Bool)) (Ae:Int) (Ah:Int) (Ab:(List Spot)) (Ag:List Spot → Int → Option (Plan × Bool)) (Ad:List Spot) (Ac:Int):Option (Plan × Bool) :=
  bif (decide (Ac < (Ab.length:Int))) then Qac (ix Ab Ac) λAa=>Qac (Qhv 32 Ad (([(⟨w64 (Aa.fJ + Ae),Aa.fX,Aa.fY,Aa.fZ⟩:Spot)]:List Spot))) λAi=>Ag Ai (w64 (Ac + 1)) else Qac (Qm4 fu Ab) λAf=>Aj Ad (w64 (Ae + Af)) (w64 (Ah + 1))
def Qf5 (fu:Nat) (Ac:List Spot → Int → Int → Option (Plan × Bool)) (Ab:Int) (Aa:Int) (Ad:(List Spot)):Nat → List Spot → Int → Option (Plan × Bool)
  | 0=>λ_ _=>none
  | n + 1=>Qnh fu Ac Ab Aa Ad (Qf5 fu Ac Ab Aa Ad n)
def Qnw (fu:Nat) (Ak:List Spot → Int → Int → Option (Plan × Bool)) (r1:Request) (Ac:(List Carton)) (Ai:List Spot) (Al:Int) (Ae:Int) (Af:List Box → Int → Option (Plan × Bool)) (Ab:List Box) (Aa:Int):Option (Plan × Bool) :=
  bif (decide (Aa < (Ac.length:Int))) then Qac (ix Ac Aa) λAd=>bif (Ad.fE == Ae) then Qac (ix Ac Aa) λAm=>Qac (Qiu fu r1 Ad) λAj=>Qac (Qhv 32 Ab (([Aj]:List Box))) λAh=>Qmn fu Af Aa Ah else Qmn fu Af Aa Ab else Qac (Qm1 fu r1.fJ Ab) λAg=>Qf5 fu Ak Al Ae Ag fu Ai 0
def Qf4 (fu:Nat) (Ad:List Spot → Int → Int → Option (Plan × Bool)) (r1:Request) (Aa:(List Carton)) (Ac:List Spot) (Ae:Int) (Ab:Int):Nat → List Box → Int → Option (Plan × Bool)
  | 0=>λ_ _=>none
  | n + 1=>Qnw fu Ad r1 Aa Ac Ae Ab (Qf4 fu Ad r1 Aa Ac Ae Ab n)
def Qne (fu:Nat)  (r1:Request) (Aa:(List Carton)) (Ad:(List (List Int))) (Ae:List Spot → Int → Int → Option (Plan × Bool)) (Ab:List Spot) (Af:Int) (Ac:Int):Option (Plan × Bool) :=
  bif (decide (Ac < (Ad.length:Int))) then Qf4 fu Ae r1 Aa Ab Af Ac fu (([]:List Box)) 0 else some ((⟨Aa,Ab⟩:Plan),true)
def Qcb (fu:Nat)  (r1:Request) (Aa:(List Carton)) (Ab:(List (List Int))):Nat → List Spot → Int → Int → Option (Plan × Bool)
  | 0=>λ_ _ _=>none
  | n + 1=>Qne fu r1 Aa Ab (Qcb fu r1 Aa Ab n)
def Qr0 (fu:Nat) (r1:Request):Option (Plan × Bool) :=
  Qac (Qep fu r1) λAc=>bif (Ac != 0) then some ((⟨[],[]⟩:Plan),false) else Qac (Qmv fu r1) λAa=>Qac (Qgx fu r1) λAb=>Qcb fu r1 Aa Ab fu (([]:List Spot)) 0 0
def Qj7 (fu:Nat) (x1:Carton):Option (Carton) :=
  Qac (Qhv 8 (([]:List Int)) x1.fM) λAa=>some (⟨x1.fO,x1.fE,Aa⟩:Carton)
def Qca (fu:Nat) (Ab:Request) (Aa:List Carton) (Ac:List Spot):Option (Request × Plan) :=
  some (Ab,(⟨Aa,Ac⟩:Plan))
def Qqd (fu:Nat) (Ae:List U8):Option (Request × Plan) :=
  Qac (Qmm fu Ae) λAd=>Qac (Qr0 fu Ad) λAa=>Qac (Qof fu Ae) λAk=>bif ((Aa.1.fQ.length:Int) == 0) then some (Ad,Aa.1) else Qac (Qao fu (⟨Ae,Ak.fi,Ak.fh⟩:Cur) (Aa.1.fQ.length:Int)) λAc=>Qac (Qao fu (⟨Ae,Ac.2.fi,Ac.2.fh⟩:Cur) 14) λAb=>bif (Ab.1 == 0) then Qac (ix Aa.1.fU Ac.1) λAh=>Qac (ix Aa.1.fU Ac.1) λAz=>Qca fu Ad Aa.1.fQ (Qge Aa.1.fU Ac.1 ({ Ah with fX:=w64 (Ah.fX + 1) })) else bif (Ab.1 == 1) then Qac (Qao fu (⟨Ae,Ab.2.fi,Ab.2.fh⟩:Cur) 3) λAq=>Qac (ix Aa.1.fU Ac.1) λAw=>Qca fu Ad Aa.1.fQ (Qge Aa.1.fU Ac.1 ({ Aw with fJ:=Aq.1 })) else bif (Ab.1 == 2) then Qac (Qbt fu (⟨Ae,Ab.2.fi,Ab.2.fh⟩:Cur) (([7,10,11,99,(-1)]:List Int))) λAy=>Qac (ix Aa.1.fQ Ac.1) λAi=>Qca fu Ad (Qge Aa.1.fQ Ac.1 (⟨Ay.1,Ai.fE,Ai.fM⟩:Carton)) Aa.1.fU else bif (Ab.1 == 3) then Qac (ix Aa.1.fQ Ac.1) λAf=>Qac (Qao fu (⟨Ae,Ab.2.fi,Ab.2.fh⟩:Cur) 14) λAu=>Qac (Qhv 8 Af.fM (([w64 (Au.1 - 1)]:List Int))) λAm=>Qac (ix Aa.1.fQ Ac.1) λBa=>Qca fu Ad (Qge Aa.1.fQ Ac.1 (⟨Af.fO,Af.fE,Am⟩:Carton)) Aa.1.fU else bif (Ab.1 == 4) then Qac (ix Aa.1.fQ Ac.1) λAj=>Qca fu Ad (Qge Aa.1.fQ Ac.1 (⟨Aj.fO,Aj.fE,[]⟩:Carton)) Aa.1.fU else bif (Ab.1 == 5) then Qac (sls Aa.1.fU 1 (Aa.1.fU.length:Int)) λAp=>Qca fu Ad Aa.1.fQ Ap else bif (Ab.1 == 6) then Qac (Qao fu (⟨Ae,Ab.2.fi,Ab.2.fh⟩:Cur) 6) λAt=>Qac (ix Aa.1.fQ Ac.1) λAg=>Qca fu Ad (Qge Aa.1.fQ Ac.1 (⟨Ag.fO,w64 (At.1 - 1),Ag.fM⟩:Carton)) Aa.1.fU else bif (Ab.1 == 7) then Qac (ix Aa.1.fQ Ac.1) λAx=>Qac (Qj7 fu Ax) λAo=>Qac (Qhv 40 Aa.1.fQ [Ao]) λAs=>Qac (Qhv 32 Aa.1.fU (([(⟨9,0,0,0⟩:Spot)]:List Spot))) λAr=>Qca fu Ad As Ar else bif (Ab.1 == 8) then Qac (Qbt fu (⟨Ae,Ab.2.fi,Ab.2.fh⟩:Cur) (([0,2000,2001,(-1)]:List Int))) λAv=>Qac (ix Aa.1.fU Ac.1) λAl=>Qca fu Ad Aa.1.fQ (Qge Aa.1.fU Ac.1 ({ Al with fZ:=Av.1 })) else Qca fu Ad Aa.1.fQ Aa.1.fU
def Qe2 (fu:Nat) (Aa:Request × Plan) (Ab:List Spot):Option (Request × Plan) :=
  some (Aa.1,(⟨Aa.2.fQ,Ab⟩:Plan))
def Qmq (fu:Nat) (Ab:List U8):Option (Request × Plan) :=
  Qac (Qqd fu Ab) λAa=>Qac (Qof fu Ab) λAd=>bif (decide ((Aa.2.fU.length:Int) > 0)) then bif ((Aa.2.fU.length:Int) == (Aa.2.fQ.length:Int)) then Qac (Qi6 fu (⟨Ab,Ad.fi,Ad.fh⟩:Cur) 2) λAc=>bif Ac.1 then Qac (ix Aa.2.fU (w64 ((Aa.2.fU.length:Int) - 1))) λAe=>Qac (Qao fu (⟨Ab,Ac.2.fi,Ac.2.fh⟩:Cur) 12) λAf=>Qac (ix Aa.2.fU (w64 ((Aa.2.fU.length:Int) - 1))) λAg=>Qe2 fu Aa (Qge Aa.2.fU (w64 ((Aa.2.fU.length:Int) - 1)) ({ Ae with fZ:=w64 (Ae.fZ + Af.1) })) else Qe2 fu Aa Aa.2.fU else Qe2 fu Aa Aa.2.fU else Qe2 fu Aa Aa.2.fU
def Qno (fu:Nat) (Ab:List U8):Option (Request × Plan) :=
  Qac (Qmq fu Ab) λAa=>some (Aa.1,Aa.2)
def Qct (fu:Nat) (Aa:List Int):Option ((List Int)) :=
  Qac (Qhv 8 (([]:List Int)) Aa) λAb=>some (Ab)
def Qg7 (fu:Nat)  (Ac:List Carton) (k1:List Carton → Int → Option ((List Carton))) (Ad:List Carton) (Ab:Int):Option ((List Carton)) :=
  bif (decide (Ab < (Ac.length:Int))) then Qac (ix Ac Ab) λAa=>Qac (Qct fu Aa.fM) λAf=>Qac (Qhv 40 Ad [(⟨Aa.fO,Aa.fE,Af⟩:Carton)]) λAe=>k1 Ae (w64 (Ab + 1)) else some (Ad)
def Qdk (fu:Nat)  (Aa:List Carton):Nat → List Carton → Int → Option ((List Carton))
  | 0=>λ_ _=>none
  | n + 1=>Qg7 fu Aa (Qdk fu Aa n)
def Qh8 (fu:Nat) (Aa:List Carton):Option ((List Carton)) :=
  Qdk fu Aa fu (([]:List Carton)) 0
def Qc9 (fu:Nat) (Aa:List Spot):Option ((List Spot)) :=
  Qac (Qhv 32 (([]:List Spot)) Aa) λAb=>some (Ab)
def Qms (fu:Nat) (x1:Plan):Option (Plan) :=
  Qac (Qh8 fu x1.fQ) λAb=>Qac (Qc9 fu x1.fU) λAa=>some (⟨Ab,Aa⟩:Plan)
def Qo5 (fu:Nat) (t1:Typ) (x2:Int):Option (Bool) :=
  some (t1.f8 == x2)
def Qb5 (fu:Nat)  (Ab:List Typ) (f5:Typ → Option Bool) (k1:Int → Option (Int)) (Aa:Int):Option (Int) :=
  bif (decide (Aa < (Ab.length:Int))) then Qac (ix Ab Aa) λAc=>Qac (f5 Ac) λAd=>bif Ad then some (Aa) else k1 (w64 (Aa + 1)) else some ((-1))
def Qa4 (fu:Nat)  (Aa:List Typ) (f5:Typ → Option Bool):Nat → Int → Option (Int)
  | 0=>λ_=>none
  | n + 1=>Qb5 fu Aa f5 (Qa4 fu Aa f5 n)
def Qbg (fu:Nat) (Aa:List Typ) (f5:Typ → Option Bool):Option (Int) :=
  Qa4 fu Aa f5 fu 0
def Qgy (fu:Nat) (r1:Request) (Ac:Int):Option (Typ × Bool) :=
  Qac (Qbg fu r1.fT (λAd=>Qo5 fu Ad Ac)) λAa=>bif (decide (Aa < 0)) then some ((⟨0,0,0,0,0,0,0⟩:Typ),false) else Qac (ix r1.fT Aa) λAb=>some (Ab,true)
def Qkm (fu:Nat) (r1:Request):Option (Typ × Bool) :=
  Qac (Qgy fu r1 r1.fP) λAa=>some (Aa.1,Aa.2)
def Qcd (fu:Nat) (n1:Int) (Ab:Int) (Aa:Int):Option (Bool) :=
  bif (decide (n1 ≥ Ab)) then some (decide (n1 ≤ Aa)) else some (false)
def Qcv (fu:Nat) (n1:Int):Option (Bool) :=
  Qac (Qcd fu n1 1 2000) λx2=>some (x2)
def Qok (fu:Nat) (x1:Pallet):Option (Bool) :=
  Qac (Qcv fu x1.fW) λx5=>bif x5 then Qac (Qcv fu x1.fD) λAb=>bif Ab then Qac (Qcv fu x1.fH) λAa=>bif Aa then Qac (Qcd fu x1.fV 1 100000) λAc=>some (Ac) else some (false) else some (false) else some (false)
def Qb4 (fu:Nat)  (Ab:List Pair) (f5:Pair → Option Bool) (k1:Int → Option (Int)) (Aa:Int):Option (Int) :=
  bif (decide (Aa < (Ab.length:Int))) then Qac (ix Ab Aa) λAc=>Qac (f5 Ac) λAd=>bif Ad then some (Aa) else k1 (w64 (Aa + 1)) else some ((-1))
def Qa3 (fu:Nat)  (Aa:List Pair) (f5:Pair → Option Bool):Nat → Int → Option (Int)
  | 0=>λ_=>none
  | n + 1=>Qb4 fu Aa f5 (Qa3 fu Aa f5 n)
def Qby (fu:Nat) (Aa:List Pair) (f5:Pair → Option Bool):Option (Int) :=
  Qa3 fu Aa f5 fu 0
def Qa6 (fu:Nat) (Ab:List Pair) (f5:Pair → Option Bool):Option (Bool) :=
  Qac (Qby fu Ab f5) λAa=>some (decide (Aa ≥ 0))
def Qkl (fu:Nat) (p1:Pair):Option (Bool) :=
  Qac (Qcd fu p1.fA 0 3) λx5=>bif (!x5) then some (true) else Qac (Qcd fu p1.fB 0 3) λAa=>some (!Aa)
def Qax (fu:Nat) (Ab:List Typ) (f5:Typ → Option Bool):Option (Bool) :=
  Qac (Qbg fu Ab f5) λAa=>some (decide (Aa ≥ 0))
def Qr7 (fu:Nat) (x1:Typ):Option (Bool) :=
  Qac (Qcd fu x1.f8 0 999) λx5=>bif x5 then Qac (Qcv fu x1.fW) λAb=>bif Ab then Qac (Qcv fu x1.fH) λAe=>bif Ae then Qac (Qcv fu x1.fD) λAa=>bif Aa then Qac (Qcd fu x1.f7 0 100000) λAf=>bif Af then Qac (Qcd fu x1.fV 1 100000) λAc=>bif Ac then Qac (Qcd fu x1.fK 0 100000) λAd=>some (Ad) else some (false) else some (false) else some (false) else some (false) else some (false) else some (false)
def Qj4 (fu:Nat) (t1:Typ):Option (Bool) :=
  Qac (Qr7 fu t1) λx5=>some (!x5)
def Qrw (fu:Nat) (x1:Item):Option (Bool) :=
  Qac (Qcd fu x1.f8 0 999) λx5=>bif x5 then Qac (Qcv fu x1.fW) λAb=>bif Ab then Qac (Qcv fu x1.fH) λAe=>bif Ae then Qac (Qcv fu x1.fD) λAa=>bif Aa then Qac (Qcd fu x1.fV 1 100000) λAf=>bif Af then Qac (Qcd fu x1.fF 0 3) λAc=>bif Ac then Qac (Qcd fu x1.f0 1 6) λAd=>some (Ad) else some (false) else some (false) else some (false) else some (false) else some (false) else some (false)
def Qjb (fu:Nat)  (r1:Request) (k3:Int → Int → Option (Bool)) (Ac:Int) (Aa:Int):Option (Bool) :=
  bif (decide (Aa < (r1.fG.length:Int))) then Qac (ix r1.fG Aa) λAb=>Qac (Qrw fu Ab) λAd=>bif (!Ad) then some (false) else k3 (w64 (Ac + Ab.f0)) (w64 (Aa + 1)) else some (decide (Ac ≤ 12))
def Qel (fu:Nat)  (r1:Request):Nat → Int → Int → Option (Bool)
  | 0=>λ_ _=>none
  | n + 1=>Qjb fu r1 (Qel fu r1 n)
def Qn4 (fu:Nat) (r1:Request)  : Option (Bool) :=
  Qel fu r1 fu 0 0
def Qnz (fu:Nat) (r1:Request)  : Option (Bool) :=
  Qac (Qa6 fu r1.fL (λAd=>Qkl fu Ad)) λAb=>bif Ab then some (false) else Qac (Qcd fu (r1.fT.length:Int) 1 5) λAc=>bif (!Ac) then some (false) else Qac (Qax fu r1.fT (λAf=>Qj4 fu Af)) λAa=>bif Aa then some (false) else Qac (Qcd fu r1.fP 0 999) λAe=>bif (!Ae) then some (false) else bif (decide ((r1.fG.length:Int) > 8)) then some (false) else Qn4 fu r1
def Qon (fu:Nat) (r1:Request):Option (Bool) :=
  Qac (Qcd fu r1.qQ 0 1) λAc=>bif (!Ac) then some (false) else Qac (Qok fu r1.fJ) λAb=>bif (!Ab) then some (false) else Qac (Qcd fu r1.fR 1 4) λAa=>bif (!Aa) then some (false) else bif (decide ((r1.fL.length:Int) > 16)) then some (false) else Qnz fu r1
def Qqg (fu:Nat) (q1:Typ) (x2:Typ):Option (Bool) :=
  some (q1.f8 == x2.f8)
def Qql (fu:Nat) (q1:Item) (x2:Item):Option (Bool) :=
  some (q1.f8 == x2.f8)
def Qb2 (fu:Nat)  (Ab:List Item) (f5:Item → Option Bool) (k1:Int → Option (Int)) (Aa:Int):Option (Int) :=
  bif (decide (Aa < (Ab.length:Int))) then Qac (ix Ab Aa) λAc=>Qac (f5 Ac) λAd=>bif Ad then some (Aa) else k1 (w64 (Aa + 1)) else some ((-1))
def Qa5 (fu:Nat)  (Aa:List Item) (f5:Item → Option Bool):Nat → Int → Option (Int)
  | 0=>λ_=>none
  | n + 1=>Qb2 fu Aa f5 (Qa5 fu Aa f5 n)
def Qbx (fu:Nat) (Aa:List Item) (f5:Item → Option Bool):Option (Int) :=
  Qa5 fu Aa f5 fu 0
def Qay (fu:Nat) (Ab:List Item) (f5:Item → Option Bool):Option (Bool) :=
  Qac (Qbx fu Ab f5) λAa=>some (decide (Aa ≥ 0))
def Qml (fu:Nat) (p1:Pair) (x2:Request):Option (Bool) :=
  bif (decide (p1.fA ≥ x2.fR)) then some (true) else some (decide (p1.fB ≥ x2.fR))
def Qpe (fu:Nat) (k4:Int → Option (Bool)) (Aa:Int)  : Option (Bool) :=
  k4 (w64 (Aa + 1))
def Qma (fu:Nat)  (r1:Request) (k4:Int → Option (Bool)) (Aa:Int):Option (Bool) :=
  bif (decide (Aa < (r1.fG.length:Int))) then Qac (ix r1.fG Aa) λAb=>bif (decide (Ab.fF ≥ r1.fR)) then some (false) else Qac (sls r1.fG 0 Aa) λAc=>Qac (Qay fu Ac (λAg=>Qql fu Ag Ab)) λAh=>bif Ah then some (false) else Qpe fu k4 Aa else Qac (Qkm fu r1) λAf=>bif Af.2 then Qac (Qa6 fu r1.fL (λAe=>Qml fu Ae r1)) λAd=>some (!Ad) else some (false)
def Qdh (fu:Nat)  (r1:Request):Nat → Int → Option (Bool)
  | 0=>λ_=>none
  | n + 1=>Qma fu r1 (Qdh fu r1 n)
def Qlq (fu:Nat)  (r1:Request) (k1:Int → Option (Bool)) (Aa:Int):Option (Bool) :=
  bif (decide (Aa < (r1.fT.length:Int))) then Qac (ix r1.fT Aa) λAe=>Qac (sls r1.fT 0 Aa) λAd=>Qac (Qax fu Ad (λAc=>Qqg fu Ac Ae)) λAb=>bif Ab then some (false) else k1 (w64 (Aa + 1)) else Qdh fu r1 fu 0
def Qfe (fu:Nat)  (r1:Request):Nat → Int → Option (Bool)
  | 0=>λ_=>none
  | n + 1=>Qlq fu r1 (Qfe fu r1 n)
def Qpp (fu:Nat) (r1:Request):Option (Bool) :=
  Qfe fu r1 fu 0
def Qco (fu:Nat)  (Ab:List Pair) (v5:Pair) (k1:Int → Option (Int)) (Aa:Int):Option (Int) :=
  bif (decide (Aa < (Ab.length:Int))) then Qac (ix Ab Aa) λAc=>bif (decide (v5 = Ac)) then some (Aa) else k1 (w64 (Aa + 1)) else some ((-1))
def Qbc (fu:Nat)  (Aa:List Pair) (v5:Pair):Nat → Int → Option (Int)
  | 0=>λ_=>none
  | n + 1=>Qco fu Aa v5 (Qbc fu Aa v5 n)
def Qc8 (fu:Nat) (Aa:List Pair) (v5:Pair):Option (Int) :=
  Qbc fu Aa v5 fu 0
def Qcu (fu:Nat) (Aa:List Pair) (v5:Pair):Option (Bool) :=
  Qac (Qc8 fu Aa v5) λAb=>some (decide (Ab ≥ 0))
def Qhi (fu:Nat) (Aa:List Pair) (a5:Int) (b6:Int):Option (Bool) :=
  Qac (Qcu fu Aa (⟨a5,b6⟩:Pair)) λx7=>some (x7)
def Qmc (fu:Nat) (k3:Int → Option (Bool)) (Ac:List Pair) (Af:Int) (Ab:Int) (k4:Int → Option (Bool)) (Aa:Int):Option (Bool) :=
  bif (decide (Aa < Af)) then Qac (Qhi fu Ac Ab Aa) λAd=>Qac (Qhi fu Ac Aa Ab) λAe=>bif (!(Ad == Ae)) then some (false) else k4 (w64 (Aa + 1)) else k3 (w64 (Ab + 1))
def Qe6 (fu:Nat) (k3:Int → Option (Bool)) (Aa:List Pair) (Ac:Int) (Ab:Int):Nat → Int → Option (Bool)
  | 0=>λ_=>none
  | n + 1=>Qmc fu k3 Aa Ac Ab (Qe6 fu k3 Aa Ac Ab n)
def Qk9 (fu:Nat)  (Ab:List Pair) (Ac:Int) (k3:Int → Option (Bool)) (Aa:Int):Option (Bool) :=
  bif (decide (Aa < Ac)) then Qac (Qhi fu Ab Aa Aa) λAd=>bif (!Ad) then some (false) else Qe6 fu k3 Ab Ac Aa fu 0 else some (true)
def Qfg (fu:Nat)  (Aa:List Pair) (Ab:Int):Nat → Int → Option (Bool)
  | 0=>λ_=>none
  | n + 1=>Qk9 fu Aa Ab (Qfg fu Aa Ab n)
def Qpx (fu:Nat) (Ab:List Pair) (Aa:Int):Option (Bool) :=
  Qac (Qcd fu Aa 1 4) λx6=>bif (!x6) then some (false) else Qfg fu Ab Aa fu 0
def Qc1 (fu:Nat) (x1:List Int):Option (List Int):=Q13 x1
def Qss (fu:Nat) (x1:Item) (t2:Typ) (Ad:List Int) (Af:List Int):Option (Bool) :=
  Qac (Qc1 fu Ad) λAb=>Qac (Qc1 fu Af) λAa=>Qac (ix Ab 0) λAh=>Qac (ix Aa 0) λAi=>bif (decide (Ah ≤ Ai)) then Qac (ix Ab 1) λAe=>Qac (ix Aa 1) λAg=>bif (decide (Ae ≤ Ag)) then Qac (ix Ab 2) λAc=>Qac (ix Aa 2) λAj=>bif (decide (Ac ≤ Aj)) then some (decide (x1.fV ≤ t2.fV)) else some (false) else some (false) else some (false)
def Qsk (fu:Nat) (x1:Item) (t2:Typ):Option (Bool) :=
  Qss fu x1 t2 (([x1.fW,x1.fH,x1.fD]:List Int)) (([t2.fW,t2.fH,t2.fD]:List Int))
def Qp1 (fu:Nat) (x1:Item) (x2:Typ):Option (Bool) :=
  Qac (Qsk fu x1 x2) λx8=>some (!x8)
def Qqc (fu:Nat) (t1:Typ) (x2:Pallet):Option (Bool) :=
  bif (decide (t1.fW > x2.fW)) then some (true) else bif (decide (t1.fD > x2.fD)) then some (true) else bif (decide (t1.fH > x2.fH)) then some (true) else some (decide ((w64 (t1.f7 + t1.fV)) > x2.fV))
def Qs2 (fu:Nat) (r1:Request):Option (Int) :=
  Qac (Qkm fu r1) λAc=>Qac (Qon fu r1) λAd=>bif (!Ad) then some (2) else Qac (Qpp fu r1) λAh=>bif (!Ah) then some (3) else Qac (Qpx fu r1.fL r1.fR) λAf=>bif (!Af) then some (4) else Qac (Qay fu r1.fG (λAe=>Qp1 fu Ae Ac.1)) λAg=>bif Ag then some (5) else Qac (Qax fu r1.fT (λAa=>Qqc fu Aa r1.fJ)) λAb=>bif Ab then some (6) else some (0)
def Qg0 (fu:Nat) (r1:Request):Option (Bool) :=
  Qac (Qs2 fu r1) λAa=>some (Aa == 0)
def Qhh (fu:Nat) (k3:Int → Option (Bool)) (Aa:Int)  : Option (Bool) :=
  k3 (w64 (Aa + 1))
def Qie (fu:Nat)  (Ab:List Int) (k3:Int → Option (Bool)) (Aa:Int):Option (Bool) :=
  bif (decide (Aa < (Ab.length:Int))) then Qac (ix Ab Aa) λAc=>Qac (Qcd fu Ac 0 999) λAd=>bif (!Ad) then some (false) else bif (decide (Aa > 0)) then Qac (ix Ab (w64 (Aa - 1))) λAe=>bif (decide (Ae ≥ Ac)) then some (false) else Qhh fu k3 Aa else Qhh fu k3 Aa else some (decide ((Ab.length:Int) ≤ 100))
def Qdi (fu:Nat)  (Aa:List Int):Nat → Int → Option (Bool)
  | 0=>λ_=>none
  | n + 1=>Qie fu Aa (Qdi fu Aa n)
def Qkn (fu:Nat) (Aa:List Int):Option (Bool) :=
  Qdi fu Aa fu 0
def Qb7 (fu:Nat) (n1:Int):Option (Bool) :=
  Qac (Qcd fu n1 0 2000) λx2=>some (x2)
def Qqq (fu:Nat) (k4:Int → Option (Bool)) (Aa:Int)  : Option (Bool) :=
  k4 (w64 (Aa + 1))
def Qna (fu:Nat)  (x1:Plan) (k4:Int → Option (Bool)) (Ab:Int):Option (Bool) :=
  bif (decide (Ab < (x1.fQ.length:Int))) then Qac (ix x1.fQ Ab) λAc=>Qac (ix x1.fU Ab) λAa=>Qac (Qcd fu Ac.fO 0 999) λAi=>bif (!Ai) then some (false) else Qac (Qcd fu Ac.fE 0 3) λAj=>bif (!Aj) then some (false) else Qac (Qkn fu Ac.fM) λAe=>bif (!Ae) then some (false) else Qac (Qb7 fu Aa.fJ) λAh=>bif (!Ah) then some (false) else Qac (Qb7 fu Aa.fX) λAg=>bif (!Ag) then some (false) else Qac (Qb7 fu Aa.fY) λAd=>bif (!Ad) then some (false) else Qac (Qb7 fu Aa.fZ) λAf=>bif (!Af) then some (false) else Qqq fu k4 Ab else some (true)
def Qf2 (fu:Nat)  (x1:Plan):Nat → Int → Option (Bool)
  | 0=>λ_=>none
  | n + 1=>Qna fu x1 (Qf2 fu x1 n)
def Qqw (fu:Nat) (x1:Plan)  : Option (Bool) :=
  Qf2 fu x1 fu 0
def Qro (fu:Nat) (x1:Plan):Option (Bool) :=
  bif ((x1.fU.length:Int) != (x1.fQ.length:Int)) then some (false) else bif (decide ((x1.fQ.length:Int) > 100)) then some (false) else Qqw fu x1
def Qbu (fu:Nat)  (Ab:List Carton) (f5:Carton → Option Bool) (k1:Int → Option (Int)) (Aa:Int):Option (Int) :=
  bif (decide (Aa < (Ab.length:Int))) then Qac (ix Ab Aa) λAc=>Qac (f5 Ac) λAd=>bif Ad then some (Aa) else k1 (w64 (Aa + 1)) else some ((-1))
def Qaz (fu:Nat)  (Aa:List Carton) (f5:Carton → Option Bool):Nat → Int → Option (Int)
  | 0=>λ_=>none
  | n + 1=>Qbu fu Aa f5 (Qaz fu Aa f5 n)
def Qbn (fu:Nat) (Aa:List Carton) (f5:Carton → Option Bool):Option (Int) :=
  Qaz fu Aa f5 fu 0
def Qbf (fu:Nat) (Ab:List Carton) (f5:Carton → Option Bool):Option (Bool) :=
  Qac (Qbn fu Ab f5) λAa=>some (decide (Aa ≥ 0))
def Qst (fu:Nat) (c1:Carton):Option (Bool) :=
  some ((c1.fM.length:Int) == 0)
def Qjk (fu:Nat)  (x1:Plan) (k1:List Int → Int → Option ((List Int))) (Ab:List Int) (Aa:Int):Option ((List Int)) :=
  bif (decide (Aa < (x1.fQ.length:Int))) then Qac (ix x1.fQ Aa) λAd=>Qac (Qhv 8 Ab Ad.fM) λAc=>k1 Ac (w64 (Aa + 1)) else some (Ab)
def Qfu (fu:Nat)  (x1:Plan):Nat → List Int → Int → Option ((List Int))
  | 0=>λ_ _=>none
  | n + 1=>Qjk fu x1 (Qfu fu x1 n)
def Qou (fu:Nat) (x1:Plan):Option ((List Int)) :=
  Qfu fu x1 fu (([]:List Int)) 0
def Qut (fu:Nat) (x1:Int) (y2:Int):Option (Int × Int) :=
  some (IntKind.wrap .u64 ((IntKind.wrap .u64 ((IntKind.wrap .u64 ((Int.fdiv x1 (2 ^ (min 32 (IntKind.bits .u64)))) * (Int.fdiv y2 (2 ^ (min 32 (IntKind.bits .u64)))))) + (Int.fdiv (IntKind.wrap .u64 ((IntKind.wrap .u64 ((Int.fdiv x1 (2 ^ (min 32 (IntKind.bits .u64)))) * (IntKind.wrap .u64 (((BitVec.ofInt (IntKind.bits .u64) y2 &&& BitVec.ofInt (IntKind.bits .u64) 4294967295).toNat:Nat):Int)))) + (Int.fdiv (IntKind.wrap .u64 ((IntKind.wrap .u64 (((BitVec.ofInt (IntKind.bits .u64) x1 &&& BitVec.ofInt (IntKind.bits .u64) 4294967295).toNat:Nat):Int)) * (IntKind.wrap .u64 (((BitVec.ofInt (IntKind.bits .u64) y2 &&& BitVec.ofInt (IntKind.bits .u64) 4294967295).toNat:Nat):Int)))) (2 ^ (min 32 (IntKind.bits .u64)))))) (2 ^ (min 32 (IntKind.bits .u64)))))) + (Int.fdiv (IntKind.wrap .u64 ((IntKind.wrap .u64 (((BitVec.ofInt (IntKind.bits .u64) (IntKind.wrap .u64 ((IntKind.wrap .u64 ((Int.fdiv x1 (2 ^ (min 32 (IntKind.bits .u64)))) * (IntKind.wrap .u64 (((BitVec.ofInt (IntKind.bits .u64) y2 &&& BitVec.ofInt (IntKind.bits .u64) 4294967295).toNat:Nat):Int)))) + (Int.fdiv (IntKind.wrap .u64 ((IntKind.wrap .u64 (((BitVec.ofInt (IntKind.bits .u64) x1 &&& BitVec.ofInt (IntKind.bits .u64) 4294967295).toNat:Nat):Int)) * (IntKind.wrap .u64 (((BitVec.ofInt (IntKind.bits .u64) y2 &&& BitVec.ofInt (IntKind.bits .u64) 4294967295).toNat:Nat):Int)))) (2 ^ (min 32 (IntKind.bits .u64)))))) &&& BitVec.ofInt (IntKind.bits .u64) 4294967295).toNat:Nat):Int)) + (IntKind.wrap .u64 ((IntKind.wrap .u64 (((BitVec.ofInt (IntKind.bits .u64) x1 &&& BitVec.ofInt (IntKind.bits .u64) 4294967295).toNat:Nat):Int)) * (Int.fdiv y2 (2 ^ (min 32 (IntKind.bits .u64)))))))) (2 ^ (min 32 (IntKind.bits .u64))))),IntKind.wrap .u64 (x1 * y2))
def Qu3 (fu:Nat) (x1:Int) (y2:Int):Option (Int × Int) :=
  Qac (Qut fu x1 y2) λx3=>some (x3.1,x3.2)
def Qnb (fu:Nat)   (k3:List Int → Int → Option ((List Int))) (Aa:List Int) (Ab:Int):Option ((List Int)) :=
  bif (decide (Ab < (Aa.length:Int))) then Qac (sls Aa Ab (Aa.length:Int)) λAd=>Qac (sls Aa 0 Ab) λAc=>k3 (cpd Aa Ab Ac) (w64 (Ab + (cpn Aa Ab Ac))) else some (Aa)
def Qgb (fu:Nat)   : Nat → List Int → Int → Option ((List Int))
  | 0=>λ_ _=>none
  | n + 1=>Qnb fu  (Qgb fu  n)
def Qbq (fu:Nat) (x1:List Int) (x8:Int × Int)  : Option ((List Int)) :=
  Qac (mk 8 (0:Int) (w64 x8.2)) λAa=>Qgb fu fu (cpd Aa 0 x1) (cpn Aa 0 x1)
def Qga (fu:Nat) (x1:List Int) (Aa:Int)  : Option ((List Int)) :=
  Qac (Qu3 fu (IntKind.wrap .u64 (x1.length:Int)) (IntKind.wrap .u64 Aa)) λx8=>bif (decide (x8.1 > 0)) then none else bif (decide (x8.2 > 9223372036854775807)) then none else Qbq fu x1 x8
def Qfp (fu:Nat) (x1:List Int) (Aa:Int):Option ((List Int)) :=
  bif (decide (Aa < 0)) then none else Qga fu x1 Aa
def Qoz (fu:Nat)  (r1:Request) (k1:List Int → Int → Option ((List Int))) (Ab:List Int) (Aa:Int):Option ((List Int)) :=
  bif (decide (Aa < (r1.fG.length:Int))) then Qac (ix r1.fG Aa) λAe=>Qac (Qfp fu (([Aa]:List Int)) Ae.f0) λAd=>Qac (Qhv 8 Ab Ad) λAc=>k1 Ac (w64 (Aa + 1)) else some (Ab)
def Qh4 (fu:Nat)  (r1:Request):Nat → List Int → Int → Option ((List Int))
  | 0=>λ_ _=>none
  | n + 1=>Qoz fu r1 (Qh4 fu r1 n)
def Qow (fu:Nat) (r1:Request):Option ((List Int)) :=
  Qac (Qg0 fu r1) λAa=>bif (!Aa) then some (([]:List Int)) else Qh4 fu r1 fu (([]:List Int)) 0
def Qnp (fu:Nat)  (n1:Int) (k1:List Int → Int → Option ((List Int))) (Ab:List Int) (Aa:Int):Option ((List Int)) :=
  bif (decide (Aa < n1)) then Qac (Qhv 8 Ab (([Aa]:List Int))) λAc=>k1 Ac (w64 (Aa + 1)) else some (Ab)
def Qhd (fu:Nat)  (n1:Int):Nat → List Int → Int → Option ((List Int))
  | 0=>λ_ _=>none
  | n + 1=>Qnp fu n1 (Qhd fu n1 n)
def Qrt (fu:Nat) (n1:Int):Option ((List Int)) :=
  Qhd fu n1 fu (([]:List Int)) 0
def Qfx (fu:Nat)  (Ab:List Int) (Ad:List Int) (k1:Int → Option (Bool)) (Aa:Int):Option (Bool) :=
  bif (decide (Aa < (Ab.length:Int))) then Qac (ix Ab Aa) λAc=>Qac (ix Ad Aa) λAe=>bif (Ac != Ae) then some (false) else k1 (w64 (Aa + 1)) else some (true)
def Qcq (fu:Nat)  (Ab:List Int) (Aa:List Int):Nat → Int → Option (Bool)
  | 0=>λ_=>none
  | n + 1=>Qfx fu Ab Aa (Qcq fu Ab Aa n)
def Qgd (fu:Nat) (Ab:List Int) (Aa:List Int):Option (Bool) :=
  bif ((Ab.length:Int) != (Aa.length:Int)) then some (false) else Qcq fu Ab Aa fu 0
def Qqr (fu:Nat) (u1:Int) (x2:Int):Option (Bool) :=
  Qac (Qcd fu u1 0 (w64 (x2 - 1))) λx5=>some (!x5)
def Qed (fu:Nat)  (Ab:List Int) (f5:Int → Option Bool) (k1:Int → Option (Int)) (Aa:Int):Option (Int) :=
  bif (decide (Aa < (Ab.length:Int))) then Qac (ix Ab Aa) λAc=>Qac (f5 Ac) λAd=>bif Ad then some (Aa) else k1 (w64 (Aa + 1)) else some ((-1))
def Qb0 (fu:Nat)  (Aa:List Int) (f5:Int → Option Bool):Nat → Int → Option (Int)
  | 0=>λ_=>none
  | n + 1=>Qed fu Aa f5 (Qb0 fu Aa f5 n)
def Qc4 (fu:Nat) (Aa:List Int) (f5:Int → Option Bool):Option (Int) :=
  Qb0 fu Aa f5 fu 0
def Qc2 (fu:Nat) (k3:List Int → Int → Int → Option ((List Int))) (Ac:Int) (Aa:List Int) (Ab:Int):Option ((List Int)) :=
  k3 Aa Ab (w64 (Ac + 1))
def Qdu (fu:Nat)  (f5:Int → Option Bool) (k3:List Int → Int → Int → Option ((List Int))) (Aa:List Int) (Ab:Int) (Ac:Int):Option ((List Int)) :=
  bif (decide (Ac < (Aa.length:Int))) then Qac (ix Aa Ac) λAd=>Qac (f5 Ad) λAf=>bif (!Af) then Qac (ix Aa Ab) λAh=>Qc2 fu k3 Ac (Qge Aa Ab Ad) (w64 (Ab + 1)) else Qc2 fu k3 Ac Aa Ab else Qac (sls Aa Ab (Aa.length:Int)) λAg=>Qac (sls (Q4d Aa Ab) 0 Ab) λAe=>some (Ae)
def Qbh (fu:Nat)  (f5:Int → Option Bool):Nat → List Int → Int → Int → Option ((List Int))
  | 0=>λ_ _ _=>none
  | n + 1=>Qdu fu f5 (Qbh fu f5 n)
def Qdx (fu:Nat) (Ab:List Int) (f5:Int → Option Bool):Option ((List Int)) :=
  Qac (Qc4 fu Ab f5) λAa=>bif (Aa == ((-1))) then some (Ab) else Qbh fu f5 fu Ab Aa (w64 (Aa + 1))
def Qqa (fu:Nat) (r1:Request) (Ae:List Int):Option ((List Int)) :=
  Qac (Qow fu r1) λAb=>Qac (Qct fu Ae) λAa=>Qac (Qdx fu Aa (λAd=>Qqr fu Ad (Ab.length:Int))) λAc=>some (Ac)
def Qkk (fu:Nat) (k3:List Item → Int → Option ((List Item))) (Ab:Int) (Aa:List Item):Option ((List Item)) :=
  k3 Aa (w64 (Ab + 1))
def Qll (fu:Nat)  (r1:Request) (Ae:List Int) (Ac:(List Int)) (k3:List Item → Int → Option ((List Item))) (Ab:List Item) (Aa:Int):Option ((List Item)) :=
  bif (decide (Aa < (Ae.length:Int))) then Qac (ix Ae Aa) λAd=>Qac (Qcd fu Ad 0 (w64 ((Ac.length:Int) - 1))) λAg=>bif Ag then Qac (ix Ac Ad) λAf=>Qac (ix r1.fG Af) λAh=>Qac (Qhv 56 Ab (([Ah]:List Item))) λAi=>Qkk fu k3 Aa Ai else Qkk fu k3 Aa Ab else some (Ab)
def Qfb (fu:Nat)  (r1:Request) (Aa:List Int) (Ab:(List Int)):Nat → List Item → Int → Option ((List Item))
  | 0=>λ_ _=>none
  | n + 1=>Qll fu r1 Aa Ab (Qfb fu r1 Aa Ab n)
def Qhp (fu:Nat) (r1:Request) (Aa:List Int):Option ((List Item)) :=
  Qac (Qow fu r1) λAb=>Qfb fu r1 Aa Ab fu (([]:List Item)) 0
def Qso (fu:Nat) (x1:Item) (x2:Typ):Option (Bool) :=
  Qac (Qsk fu x1 x2) λx8=>some (!x8)
def Qqk (fu:Nat) (Aa:Int) (h2:Int) (d3:Int)  : Option (Int) :=
  some (w64 ((w64 (Aa * h2)) * d3))
def Qo0 (fu:Nat) (Aa:Int) (h2:Int) (d3:Int):Option (Int) :=
  Qac (Qcd fu Aa 0 2000) λAd=>bif (!Ad) then some (0) else Qac (Qcd fu h2 0 2000) λAc=>bif (!Ac) then some (0) else Qac (Qcd fu d3 0 2000) λAb=>bif (!Ab) then some (0) else Qqk fu Aa h2 d3
def Qjr (fu:Nat)  (Ac:(List Item)) (k1:Int → Int → Option (Int)) (Ad:Int) (Ab:Int):Option (Int) :=
  bif (decide (Ab < (Ac.length:Int))) then Qac (ix Ac Ab) λAa=>Qac (Qo0 fu Aa.fW Aa.fH Aa.fD) λAe=>k1 (w64 (Ad + Ae)) (w64 (Ab + 1)) else some (Ad)
def Qft (fu:Nat)  (Aa:(List Item)):Nat → Int → Int → Option (Int)
  | 0=>λ_ _=>none
  | n + 1=>Qjr fu Aa (Qft fu Aa n)
def Qox (fu:Nat) (r1:Request) (Aa:List Int):Option (Int) :=
  Qac (Qhp fu r1 Aa) λAb=>Qft fu Ab fu 0 0
def Qnm (fu:Nat)  (Ab:(List Item)) (k1:Int → Int → Option (Int)) (Ac:Int) (Aa:Int):Option (Int) :=
  bif (decide (Aa < (Ab.length:Int))) then Qac (ix Ab Aa) λAd=>k1 (w64 (Ac + Ad.fV)) (w64 (Aa + 1)) else some (Ac)
def Qhb (fu:Nat)  (Aa:(List Item)):Nat → Int → Int → Option (Int)
  | 0=>λ_ _=>none
  | n + 1=>Qnm fu Aa (Qhb fu Aa n)
def Qo6 (fu:Nat) (r1:Request) (Aa:List Int):Option (Int) :=
  Qac (Qhp fu r1 Aa) λAb=>Qhb fu Ab fu 0 0
def Qsa (fu:Nat) (r1:Request) (Aa:List Int) (t9:Typ):Option (Bool) :=
  Qac (Qox fu r1 Aa) λAd=>Qac (Qo0 fu t9.fW t9.fH t9.fD) λAb=>bif (decide (Ad ≤ Ab)) then Qac (Qo6 fu r1 Aa) λAc=>some (decide (Ac ≤ t9.fV)) else some (false)
def Qrr (fu:Nat) (r1:Request) (Aa:List Int) (t9:Typ)  : Option (Bool) :=
  Qac (Qhp fu r1 Aa) λAb=>Qac (Qay fu Ab (λAc=>Qso fu Ac t9)) λAe=>bif (!Ae) then Qac (Qsa fu r1 Aa t9) λAd=>some (Ad) else some (false)
def Qq1 (fu:Nat) (r1:Request) (Aa:List Int) (t9:Typ):Option (Bool) :=
  Qac (Qg0 fu r1) λAb=>bif (!Ab) then some (false) else Qac (Qqa fu r1 Aa) λAc=>bif ((Ac.length:Int) != (Aa.length:Int)) then some (false) else Qrr fu r1 Aa t9
def Qkq (fu:Nat) (x1:List Int):Option (List Int):=Jhm x1
def Qky (fu:Nat) (Aa:List Int):Option ((List Int)) :=
  Qac (Qct fu Aa) λx5=>Qac (Qc1 fu x5) λAc=>Qac (Qkq fu Ac) λAb=>some (Ab)
def Ql8 (fu:Nat)  (r1:Request) (k1:List Int → Int → Option ((List Int))) (Ab:List Int) (Aa:Int):Option ((List Int)) :=
  bif (decide (Aa < (r1.fG.length:Int))) then Qac (ix r1.fG Aa) λAc=>Qac (Qhv 8 Ab (([Ac.fF]:List Int))) λAe=>k1 Ae (w64 (Aa + 1)) else Qac (Qky fu Ab) λAd=>some (Ad)
def Qgn (fu:Nat)  (r1:Request):Nat → List Int → Int → Option ((List Int))
  | 0=>λ_ _=>none
  | n + 1=>Ql8 fu r1 (Qgn fu r1 n)
def Qp3 (fu:Nat) (r1:Request):Option ((List Int)) :=
  Qac (Qg0 fu r1) λAa=>bif (!Aa) then some (([]:List Int)) else Qgn fu r1 fu (([]:List Int)) 0
def Qr2 (fu:Nat) (Aa:List Pair) (a5:Int) (b6:Int):Option (Bool) :=
  Qac (Qhi fu Aa a5 b6) λx7=>bif x7 then Qac (Qhi fu Aa b6 a5) λAb=>some (Ab) else some (false)
def Qkf (fu:Nat) (x1:Int) (x2:List Pair) (x8:Int):Option (Bool) :=
  Qac (Qr2 fu x2 x8 x1) λAa=>some (!Aa)
def Qck (fu:Nat) (Ab:List Int) (f5:Int → Option Bool):Option (Bool) :=
  Qac (Qc4 fu Ab f5) λAa=>some (decide (Aa ≥ 0))
def Qol (fu:Nat) (l1:List Int) (x5:List Pair) (Ab:Int):Option (Bool) :=
  Qac (Qck fu l1 (λAa=>Qkf fu Aa x5 Ab)) λAc=>some (!Ac)
def Qdv (fu:Nat)  (Ab:List (List Int)) (f5:(List Int) → Option Bool) (k1:Int → Option (Int)) (Aa:Int):Option (Int) :=
  bif (decide (Aa < (Ab.length:Int))) then Qac (ix Ab Aa) λAd=>Qac (f5 Ad) λAc=>bif Ac then some (Aa) else k1 (w64 (Aa + 1)) else some ((-1))
def Qbv (fu:Nat)  (Aa:List (List Int)) (f5:(List Int) → Option Bool):Nat → Int → Option (Int)
  | 0=>λ_=>none
  | n + 1=>Qdv fu Aa f5 (Qbv fu Aa f5 n)
def Qd3 (fu:Nat) (Aa:List (List Int)) (f5:(List Int) → Option Bool):Option (Int) :=
  Qbv fu Aa f5 fu 0
def Qij (fu:Nat) (k3:List (List Int) → Int → Option ((List (List Int)))) (Ab:Int) (Aa:List (List Int)):Option ((List (List Int))) :=
  k3 Aa (w64 (Ab + 1))
def Qnr (fu:Nat)  (Af:List Pair) (Ae:(List Int)) (k3:List (List Int) → Int → Option ((List (List Int)))) (Aa:List (List Int)) (Ab:Int):Option ((List (List Int))) :=
  bif (decide (Ab < (Ae.length:Int))) then Qac (ix Ae Ab) λAc=>Qac (Qcd fu Ac 0 3) λAk=>bif (!Ak) then Qij fu k3 Ab Aa else Qac (Qd3 fu Aa (λAg=>Qol fu Ag Af Ac)) λAd=>bif (decide (Ad < 0)) then Qac (Qhv 24 Aa [([Ac]:List Int)]) λAh=>Qij fu k3 Ab Ah else Qac (ix Aa Ad) λAj=>Qac (Qhv 8 Aj (([Ac]:List Int))) λAi=>Qac (ix Aa Ad) λAl=>Qij fu k3 Ab (Qge Aa Ad Ai) else some (Aa)
def Qet (fu:Nat)  (Aa:List Pair) (Ab:(List Int)):Nat → List (List Int) → Int → Option ((List (List Int)))
  | 0=>λ_ _=>none
  | n + 1=>Qnr fu Aa Ab (Qet fu Aa Ab n)
def Qrm (fu:Nat) (Aa:List Pair) (Ab:List Int):Option ((List (List Int))) :=
  Qac (Qky fu Ab) λAc=>Qet fu Aa Ac fu (([]:List (List Int))) 0
def Qoj (fu:Nat) (r1:Request):Option ((List (List Int))) :=
  Qac (Qg0 fu r1) λAc=>bif (!Ac) then some (([]:List (List Int))) else Qac (Qp3 fu r1) λAb=>Qac (Qrm fu r1.fL Ab) λAa=>some (Aa)
def Qfn (fu:Nat)  (Ab:List Int) (v5:Int) (k1:Int → Option (Int)) (Aa:Int):Option (Int) :=
  bif (decide (Aa < (Ab.length:Int))) then Qac (ix Ab Aa) λAc=>bif (v5 == Ac) then some (Aa) else k1 (w64 (Aa + 1)) else some ((-1))
def Qcr (fu:Nat)  (Aa:List Int) (v5:Int):Nat → Int → Option (Int)
  | 0=>λ_=>none
  | n + 1=>Qfn fu Aa v5 (Qcr fu Aa v5 n)
def Qig (fu:Nat) (Aa:List Int) (v5:Int):Option (Int) :=
  Qcr fu Aa v5 fu 0
def Qes (fu:Nat) (Aa:List Int) (v5:Int):Option (Bool) :=
  Qac (Qig fu Aa v5) λx6=>some (decide (x6 ≥ 0))
def Qjg (fu:Nat) (y1:Item) (x2:Carton) (x8:List (List Int)):Option (Bool) :=
  bif (decide (x2.fE ≥ (x8.length:Int))) then some (true) else Qac (ix x8 x2.fE) λAb=>Qac (Qes fu Ab y1.fF) λAa=>some (!Aa)
def Qdt (fu:Nat) (k3:Typ → Bool → Int → Option (Typ × Bool)) (Ab:Int) (Aa:Typ) (Ac:Bool):Option (Typ × Bool) :=
  k3 Aa Ac (w64 (Ab + 1))
def Qjv (fu:Nat)  (r1:Request) (Af:List Int) (k3:Typ → Bool → Int → Option (Typ × Bool)) (Ab:Typ) (Ad:Bool) (Aa:Int):Option (Typ × Bool) :=
  bif (decide (Aa < (r1.fT.length:Int))) then Qac (ix r1.fT Aa) λAc=>Qac (Qq1 fu r1 Af Ac) λAe=>bif (!Ae) then Qdt fu k3 Aa Ab Ad else bif (!Ad) then Qdt fu k3 Aa Ac true else bif (decide (Ac.fK < Ab.fK)) then Qdt fu k3 Aa Ac true else bif (Ac.fK == Ab.fK) then bif (decide (Ac.f8 < Ab.f8)) then Qdt fu k3 Aa Ac true else Qdt fu k3 Aa Ab Ad else Qdt fu k3 Aa Ab Ad else some (Ab,Ad)
def Qeq (fu:Nat)  (r1:Request) (Aa:List Int):Nat → Typ → Bool → Int → Option (Typ × Bool)
  | 0=>λ_ _ _=>none
  | n + 1=>Qjv fu r1 Aa (Qeq fu r1 Aa n)
def Qob (fu:Nat) (r1:Request) (Aa:List Int):Option (Typ × Bool) :=
  Qeq fu r1 Aa fu (⟨0,0,0,0,0,0,0⟩:Typ) false 0
def Qio (fu:Nat) (k3:Int → Option (Int)) (Aa:Int)  : Option (Int) :=
  k3 (w64 (Aa + 1))
def Qhk (fu:Nat)  (r1:Request) (x5:Plan) (k6:Int → Option (Int)) (Aa:Int):Option (Int) :=
  bif (decide (Aa < (x5.fQ.length:Int))) then Qac (ix x5.fQ Aa) λAb=>Qac (Qob fu r1 Ab.fM) λAc=>bif (Ac.1.f8 != Ab.fO) then some (6) else k6 (w64 (Aa + 1)) else some (0)
def Qdw (fu:Nat)  (r1:Request) (x5:Plan):Nat → Int → Option (Int)
  | 0=>λ_=>none
  | n + 1=>Qhk fu r1 x5 (Qdw fu r1 x5 n)
def Qhm (fu:Nat)  (r1:Request) (x5:Plan) (Ac:(List (List Int))) (k5:Int → Option (Int)) (Aa:Int):Option (Int) :=
  bif (decide (Aa < (x5.fQ.length:Int))) then Qac (ix x5.fQ Aa) λAb=>Qac (Qhp fu r1 Ab.fM) λAf=>Qac (Qay fu Af (λAe=>Qjg fu Ae Ab Ac)) λAd=>bif Ad then some (5) else k5 (w64 (Aa + 1)) else Qdw fu r1 x5 fu 0
def Qd1 (fu:Nat)  (r1:Request) (x5:Plan) (Aa:(List (List Int))):Nat → Int → Option (Int)
  | 0=>λ_=>none
  | n + 1=>Qhm fu r1 x5 Aa (Qd1 fu r1 x5 Aa n)
def Qhl (fu:Nat)  (r1:Request) (x5:Plan) (k3:Int → Option (Int)) (Aa:Int):Option (Int) :=
  bif (decide (Aa < (x5.fQ.length:Int))) then Qac (ix x5.fQ Aa) λAc=>Qac (Qgy fu r1 Ac.fO) λAb=>bif (!Ab.2) then some (4) else Qac (Qq1 fu r1 Ac.fM Ab.1) λAe=>bif (!Ae) then some (4) else Qio fu k3 Aa else Qac (Qoj fu r1) λAd=>Qd1 fu r1 x5 Ad fu 0
def Qc3 (fu:Nat)  (r1:Request) (x5:Plan):Nat → Int → Option (Int)
  | 0=>λ_=>none
  | n + 1=>Qhl fu r1 x5 (Qc3 fu r1 x5 n)
def Qim (fu:Nat) (r1:Request) (x5:Plan):Option (Int) :=
  Qc3 fu r1 x5 fu 0
def Qru (fu:Nat) (r1:Request) (x5:Carton) (Ab:Typ × Bool)  : Option (Int) :=
  Qac (Qo6 fu r1 x5.fM) λAa=>some (w64 (Ab.1.f7 + Aa))
def Qq7 (fu:Nat) (r1:Request) (x5:Carton):Option (Int) :=
  Qac (Qgy fu r1 x5.fO) λAa=>bif (!Aa.2) then some (0) else Qac (Qg0 fu r1) λAb=>bif (!Ab) then some (0) else Qru fu r1 x5 Aa
def Qry (fu:Nat) (r1:Request) (x5:Carton) (Aa:Typ × Bool)  : Option (Box) :=
  Qac (Qq7 fu r1 x5) λAb=>some (⟨Aa.1.fW,Aa.1.fD,Aa.1.fH,Ab⟩:Box)
def Qq8 (fu:Nat) (r1:Request) (x5:Carton):Option (Box) :=
  Qac (Qgy fu r1 x5.fO) λAa=>bif (!Aa.2) then some (⟨0,0,0,0⟩:Box) else Qac (Qg0 fu r1) λAb=>bif (!Ab) then some (⟨0,0,0,0⟩:Box) else Qry fu r1 x5 Aa
def Qqo (fu:Nat) (p1:Pallet) (b2:Box) (Aa:Spot)  : Option (Bool) :=
  bif (decide ((w64 (Aa.fX + b2.fW)) ≤ p1.fW)) then bif (decide ((w64 (Aa.fY + b2.fD)) ≤ p1.fD)) then some (decide ((w64 (Aa.fZ + b2.fH)) ≤ p1.fH)) else some (false) else some (false)
def Qrl (fu:Nat) (p1:Pallet) (b2:Box) (Aa:Spot):Option (Bool) :=
  Qac (Qb7 fu Aa.fX) λAd=>bif (!Ad) then some (false) else Qac (Qb7 fu Aa.fY) λAe=>bif (!Ae) then some (false) else Qac (Qb7 fu Aa.fZ) λAc=>bif (!Ac) then some (false) else Qac (Qcv fu b2.fW) λAb=>bif (!Ab) then some (false) else Qac (Qcv fu b2.fD) λAf=>bif (!Af) then some (false) else Qac (Qcv fu b2.fH) λAg=>bif (!Ag) then some (false) else Qqo fu p1 b2 Aa
def Qpf (fu:Nat) (b1:Box) (Aa:Spot):Option (Bool) :=
  Qac (Qb7 fu b1.fW) λAe=>bif Ae then Qac (Qb7 fu b1.fD) λAf=>bif Af then Qac (Qb7 fu b1.fH) λAg=>bif Ag then Qac (Qb7 fu Aa.fX) λAc=>bif Ac then Qac (Qb7 fu Aa.fY) λAd=>bif Ad then Qac (Qb7 fu Aa.fZ) λAb=>some (Ab) else some (false) else some (false) else some (false) else some (false) else some (false)
def Qq3 (fu:Nat) (a1:Int) (Ab:Int) (b3:Int) (Aa:Int):Option (Bool) :=
  bif (decide (a1 < (w64 (b3 + Aa)))) then some (decide (b3 < (w64 (a1 + Ab)))) else some (false)
def Qpk (fu:Nat) (a1:Box) (Aa:Spot) (b3:Box) (t4:Spot)  : Option (Bool) :=
  Qac (Qq3 fu Aa.fX a1.fW t4.fX b3.fW) λAb=>bif Ab then Qac (Qq3 fu Aa.fY a1.fD t4.fY b3.fD) λAc=>bif Ac then Qac (Qq3 fu Aa.fZ a1.fH t4.fZ b3.fH) λAd=>some (Ad) else some (false) else some (false)
def Qi9 (fu:Nat) (a1:Box) (Aa:Spot) (b3:Box) (t4:Spot):Option (Bool) :=
  Qac (Qpf fu a1 Aa) λAb=>bif (!Ab) then some (false) else Qac (Qpf fu b3 t4) λAc=>bif (!Ac) then some (false) else bif (Aa.fJ != t4.fJ) then some (false) else Qpk fu a1 Aa b3 t4
def Qj5 (fu:Nat) (k3:Int → Int → Option (Int)) (Aa:Int) (Ab:Int):Option (Int) :=
  k3 Ab (w64 (Aa + 1))
def Ql7 (fu:Nat)  (Ad:List Spot) (k3:Int → Int → Option (Int)) (Aa:Int) (Ab:Int):Option (Int) :=
  bif (decide (Ab < (Ad.length:Int))) then Qac (ix Ad Ab) λAc=>Qac (Qcd fu Ac.fJ 0 999999) λAe=>bif Ae then Qj5 fu k3 Ab (if (w64 (Ac.fJ + 1)) > Aa then w64 (Ac.fJ + 1) else Aa) else Qj5 fu k3 Ab Aa else some (Aa)
def Qe4 (fu:Nat)  (Aa:List Spot):Nat → Int → Int → Option (Int)
  | 0=>λ_ _=>none
  | n + 1=>Ql7 fu Aa (Qe4 fu Aa n)
def Qqf (fu:Nat) (Aa:List Spot):Option (Int) :=
  Qe4 fu Aa fu 0 0
def Qi2 (fu:Nat) (k3:List Int → Int → Option ((List Int))) (Aa:Int) (Ab:List Int):Option ((List Int)) :=
  k3 Ab (w64 (Aa + 1))
def Qj0 (fu:Nat)  (x1:Plan) (Ac:Int) (k3:List Int → Int → Option ((List Int))) (Ab:List Int) (Aa:Int):Option ((List Int)) :=
  bif (decide (Aa < (x1.fU.length:Int))) then Qac (ix x1.fU Aa) λAd=>bif (Ad.fJ == Ac) then Qac (Qhv 8 Ab (([Aa]:List Int))) λAe=>Qi2 fu k3 Aa Ae else Qi2 fu k3 Aa Ab else some (Ab)
def Qek (fu:Nat)  (x1:Plan) (Aa:Int):Nat → List Int → Int → Option ((List Int))
  | 0=>λ_ _=>none
  | n + 1=>Qj0 fu x1 Aa (Qek fu x1 Aa n)
def Qj9 (fu:Nat) (x1:Plan) (Aa:Int):Option ((List Int)) :=
  bif ((x1.fU.length:Int) != (x1.fQ.length:Int)) then some (([]:List Int)) else Qek fu x1 Aa fu (([]:List Int)) 0
def Qih (fu:Nat)  (r1:Request) (x5:Plan) (Ab:(List Int)) (k1:Int → Int → Option (Int)) (Ac:Int) (Aa:Int):Option (Int) :=
  bif (decide (Aa < (Ab.length:Int))) then Qac (ix Ab Aa) λAf=>Qac (ix x5.fQ Af) λAe=>Qac (Qq7 fu r1 Ae) λAd=>k1 (w64 (Ac + Ad)) (w64 (Aa + 1)) else some (Ac)
def Qeh (fu:Nat)  (r1:Request) (x5:Plan) (Aa:(List Int)):Nat → Int → Int → Option (Int)
  | 0=>λ_ _=>none
  | n + 1=>Qih fu r1 x5 Aa (Qeh fu r1 x5 Aa n)
def Qkv (fu:Nat) (r1:Request) (x5:Plan) (Aa:Int):Option (Int) :=
  Qac (Qj9 fu x5 Aa) λAb=>Qeh fu r1 x5 Ab fu 0 0
def Qnu (fu:Nat) (i1:Int) (x2:Plan) (Ac:List Int):Option (Bool) :=
  Qac (ix x2.fQ i1) λAd=>Qac (ix Ac 0) λAb=>Qac (ix x2.fQ Ab) λAa=>some (Ad.fE != Aa.fE)
def Qi3 (fu:Nat) (k4:Int → Option (Int)) (x5:Plan) (Ac:List Box) (Aa:Int) (k5:Int → Option (Int)) (Ab:Int):Option (Int) :=
  bif (decide (Ab < Aa)) then Qac (ix Ac Aa) λAg=>Qac (ix x5.fU Aa) λAh=>Qac (ix Ac Ab) λAe=>Qac (ix x5.fU Ab) λAf=>Qac (Qi9 fu Ag Ah Ae Af) λAd=>bif Ad then some (8) else k5 (w64 (Ab + 1)) else k4 (w64 (Aa + 1))
def Qez (fu:Nat) (k4:Int → Option (Int)) (x5:Plan) (Aa:List Box) (Ab:Int):Nat → Int → Option (Int)
  | 0=>λ_=>none
  | n + 1=>Qi3 fu k4 x5 Aa Ab (Qez fu k4 x5 Aa Ab n)
def Qk4 (fu:Nat) (Ab:Int → Option (Int)) (Aa:Int)  : Option (Int) :=
  Ab (w64 (Aa + 1))
def Qlt (fu:Nat) (Ac:Int → Option (Int)) (x5:Plan) (Ae:Int) (Aa:(List Int))  : Option (Int) :=
  Qac (Qck fu Aa (λAd=>Qnu fu Ad x5 Aa)) λAb=>bif Ab then some (9) else Qk4 fu Ac Ae
def Qit (fu:Nat)  (r1:Request) (x5:Plan) (Ae:Int) (Ad:Int → Option (Int)) (Aa:Int):Option (Int) :=
  bif (decide (Aa < Ae)) then Qac (Qj9 fu x5 Aa) λAb=>bif ((Ab.length:Int) == 0) then some (9) else Qac (Qkv fu r1 x5 Aa) λAc=>bif (decide (Ac > r1.fJ.fV)) then some (9) else Qlt fu Ad x5 Aa Ab else some (0)
def Qc5 (fu:Nat)  (r1:Request) (x5:Plan) (Aa:Int):Nat → Int → Option (Int)
  | 0=>λ_=>none
  | n + 1=>Qit fu r1 x5 Aa (Qc5 fu r1 x5 Aa n)
def Qi7 (fu:Nat)  (r1:Request) (x5:Plan) (Aa:List Box) (k4:Int → Option (Int)) (Ab:Int):Option (Int) :=
  bif (decide (Ab < (Aa.length:Int))) then Qez fu k4 x5 Aa Ab fu 0 else Qac (Qqf fu x5.fU) λAc=>Qc5 fu r1 x5 Ac fu 0
def Qc6 (fu:Nat)  (r1:Request) (x5:Plan) (Aa:List Box):Nat → Int → Option (Int)
  | 0=>λ_=>none
  | n + 1=>Qi7 fu r1 x5 Aa (Qc6 fu r1 x5 Aa n)
def Qiz (fu:Nat)  (r1:Request) (x5:Plan) (k1:List Box → Int → Option (Int)) (Ab:List Box) (Aa:Int):Option (Int) :=
  bif (decide (Aa < (x5.fQ.length:Int))) then Qac (ix x5.fQ Aa) λAf=>Qac (Qq8 fu r1 Af) λAc=>Qac (ix x5.fU Aa) λAe=>Qac (Qrl fu r1.fJ Ac Ae) λAd=>bif (!Ad) then some (7) else Qac (Qhv 32 Ab (([Ac]:List Box))) λAg=>k1 Ag (w64 (Aa + 1)) else Qc6 fu r1 x5 Ab fu 0
def Qey (fu:Nat)  (r1:Request) (x5:Plan):Nat → List Box → Int → Option (Int)
  | 0=>λ_ _=>none
  | n + 1=>Qiz fu r1 x5 (Qey fu r1 x5 n)
def Qmz (fu:Nat) (r1:Request) (x5:Plan):Option (Int) :=
  Qey fu r1 x5 fu (([]:List Box)) 0
def Qr4 (fu:Nat) (r1:Request) (x5:Plan)  : Option (Int) :=
  Qac (Qou fu x5) λAd=>Qac (Qc1 fu Ad) λAg=>Qac (Qow fu r1) λAc=>Qac (Qrt fu (Ac.length:Int)) λAb=>Qac (Qgd fu Ag Ab) λAf=>bif (!Af) then some (3) else Qac (Qim fu r1 x5) λAa=>bif (Aa != 0) then some (Aa) else Qac (Qmz fu r1 x5) λAe=>some (Ae)
def Qsx (fu:Nat) (r1:Request) (x5:Plan):Option (Int) :=
  Qac (Qg0 fu r1) λAa=>bif (!Aa) then some (1) else Qac (Qro fu x5) λAb=>bif (!Ab) then some (2) else Qac (Qbf fu x5.fQ (λAd=>Qst fu Ad)) λAc=>bif Ac then some (2) else Qr4 fu r1 x5
def Qg4 (fu:Nat) (r1:Request) (x5:Plan):Option (Bool) :=
  Qac (Qsx fu r1 x5) λAa=>some (Aa == 0)
def Qht (fu:Nat) (Aa:List Spot → Int → Option (Plan)) (Ab:Int) (Ac:List Spot):Option (Plan) :=
  Aa Ac (w64 (Ab + 1))
def Qhu (fu:Nat) (Ac:Bool → Int → Option (Plan)) (Ab:Int) (Aa:Bool):Option (Plan) :=
  Ac Aa (w64 (Ab + 1))
def Ql1 (fu:Nat) (Ah:List Spot → Int → Option (Plan)) (Ak:List Spot → Option (Plan)) (Af:List Box) (Ac:Int) (Al:Box) (Ad:List Spot) (Aa:Spot) (Ae:Bool → Int → Option (Plan)) (Ag:Bool) (Ab:Int):Option (Plan) :=
  bif (decide (Ab < (Af.length:Int))) then Qac (ix Af Ab) λAm=>bif Ag then Qhu fu Ae Ab true else bif (Ab != Ac) then Qac (ix Ad Ab) λAj=>Qac (Qi9 fu Al (⟨Aa.fJ,Aa.fX,Aa.fY,w64 (Aa.fZ - 1)⟩:Spot) Am Aj) λAi=>Qhu fu Ae Ab Ai else Qhu fu Ae Ab false else bif Ag then Qht fu Ah Ac Ad else Qac (ix Ad Ac) λAo=>Ak (Qge Ad Ac (⟨Aa.fJ,Aa.fX,Aa.fY,w64 (Aa.fZ - 1)⟩:Spot))
def Qef (fu:Nat) (Aa:List Spot → Int → Option (Plan)) (Ad:List Spot → Option (Plan)) (Ac:List Box) (Ae:Int) (Ag:Box) (Af:List Spot) (Ab:Spot):Nat → Bool → Int → Option (Plan)
  | 0=>λ_ _=>none
  | n + 1=>Ql1 fu Aa Ad Ac Ae Ag Af Ab (Qef fu Aa Ad Ac Ae Ag Af Ab n)
def Qqx (fu:Nat) (Ac:List Spot → Int → Option (Plan)) (Ae:List Box) (Aa:Int) (Ag:Box) (Af:List Spot → Option (Plan)) (Ab:List Spot):Option (Plan) :=
  Qac (ix Ab Aa) λAd=>bif (decide (Ad.fZ > 0)) then Qac (ix Ab Aa) λAh=>Qef fu Ac Af Ae Aa Ag Ab Ad fu false 0 else Qht fu Ac Aa Ab
def Qfa (fu:Nat) (Ab:List Spot → Int → Option (Plan)) (Aa:List Box) (Ac:Int) (Ad:Box):Nat → List Spot → Option (Plan)
  | 0=>λ_=>none
  | n + 1=>Qqx fu Ab Aa Ac Ad (Qfa fu Ab Aa Ac Ad n)
def Qk8 (fu:Nat)  (Ae:Plan) (Aa:List Box) (Ad:List Spot → Int → Option (Plan)) (Ac:List Spot) (Ab:Int):Option (Plan) :=
  bif (decide (Ab < (Aa.length:Int))) then Qac (ix Aa Ab) λAf=>Qfa fu Ad Aa Ab Af fu Ac else some (⟨Ae.fQ,Ac⟩:Plan)
def Qa8 (fu:Nat)  (Ab:Plan) (Aa:List Box):Nat → List Spot → Int → Option (Plan)
  | 0=>λ_ _=>none
  | n + 1=>Qk8 fu Ab Aa (Qa8 fu Ab Aa n)
def Qk0 (fu:Nat)  (r1:Request) (x5:Plan) (Ac:Plan) (k1:List Box → Int → Option (Plan)) (Ab:List Box) (Aa:Int):Option (Plan) :=
  bif (decide (Aa < (x5.fQ.length:Int))) then Qac (ix x5.fQ Aa) λAe=>Qac (Qq8 fu r1 Ae) λAf=>Qac (Qhv 32 Ab (([Af]:List Box))) λAd=>k1 Ad (w64 (Aa + 1)) else Qa8 fu Ac Ab fu Ac.fU 0
def Qgg (fu:Nat)  (r1:Request) (x5:Plan) (Aa:Plan):Nat → List Box → Int → Option (Plan)
  | 0=>λ_ _=>none
  | n + 1=>Qk0 fu r1 x5 Aa (Qgg fu r1 x5 Aa n)
def Qgv (fu:Nat) (r1:Request) (x5:Plan):Option (Plan) :=
  Qac (Qms fu x5) λAa=>Qac (Qg4 fu r1 x5) λAb=>bif (!Ab) then some (Aa) else Qgg fu r1 x5 Aa fu (([]:List Box)) 0
def Qlc (fu:Nat)  (x1:Plan) (Ac:List Spot) (k1:List Carton → Int → Option (Plan)) (Ab:List Carton) (Aa:Int):Option (Plan) :=
  bif (decide (Aa < (x1.fQ.length:Int))) then Qac (ix x1.fQ Aa) λAd=>Qac (Qj7 fu Ad) λAe=>Qac (Qhv 40 Ab [Ae]) λAf=>k1 Af (w64 (Aa + 1)) else some (⟨Ab,Ac⟩:Plan)
def Qgr (fu:Nat)  (x1:Plan) (Aa:List Spot):Nat → List Carton → Int → Option (Plan)
  | 0=>λ_ _=>none
  | n + 1=>Qlc fu x1 Aa (Qgr fu x1 Aa n)
def Qp4 (fu:Nat) (x1:Plan):Option (Plan) :=
  Qac (Qhv 32 (([]:List Spot)) x1.fU) λAa=>Qgr fu x1 Aa fu (([]:List Carton)) 0
def Qh1 (fu:Nat) (k4:Int → Option (Bool)) (Aa:Int)  : Option (Bool) :=
  k4 (w64 (Aa + 1))
def Qin (fu:Nat)  (x1:Carton) (k4:Int → Option (Bool)) (Aa:Int):Option (Bool) :=
  bif (decide (Aa < (x1.fM.length:Int))) then Qac (ix x1.fM Aa) λAb=>Qac (Qar fu Ab 0 999) λAd=>bif (!Ad) then some (false) else bif (decide (Aa > 0)) then Qac (ix x1.fM Aa) λAe=>Qac (ix x1.fM (w64 (Aa - 1))) λAc=>bif (decide (Ab ≤ Ac)) then some (false) else Qh1 fu k4 Aa else Qh1 fu k4 Aa else some (true)
def Qdy (fu:Nat)  (x1:Carton):Nat → Int → Option (Bool)
  | 0=>λ_=>none
  | n + 1=>Qin fu x1 (Qdy fu x1 n)
def Qmi (fu:Nat) (x1:Carton)  : Option (Bool) :=
  Qdy fu x1 fu 0
def Qmu (fu:Nat) (x1:Carton):Option (Bool) :=
  Qac (Qoq fu x1.fO) λAb=>bif (!Ab) then some (false) else Qac (Qar fu x1.fE 0 3) λAa=>bif (!Aa) then some (false) else bif (decide ((x1.fM.length:Int) > 100)) then some (false) else Qmi fu x1
def Qqi (fu:Nat) (k4:Int → Option (Bool)) (Aa:Int)  : Option (Bool) :=
  k4 (w64 (Aa + 1))
def Qnl (fu:Nat)  (x1:Plan) (k4:Int → Option (Bool)) (Aa:Int):Option (Bool) :=
  bif (decide (Aa < (x1.fQ.length:Int))) then Qac (ix x1.fU Aa) λAb=>Qac (ix x1.fQ Aa) λAg=>Qac (Qmu fu Ag) λAh=>bif (!Ah) then some (false) else Qac (Qar fu Ab.fJ 0 2000) λAf=>bif (!Af) then some (false) else Qac (Qar fu Ab.fX 0 2000) λAc=>bif (!Ac) then some (false) else Qac (Qar fu Ab.fY 0 2000) λAd=>bif (!Ad) then some (false) else Qac (Qar fu Ab.fZ 0 2000) λAe=>bif (!Ae) then some (false) else Qqi fu k4 Aa else some (true)
def Qf3 (fu:Nat)  (x1:Plan):Nat → Int → Option (Bool)
  | 0=>λ_=>none
  | n + 1=>Qnl fu x1 (Qf3 fu x1 n)
def Qqh (fu:Nat) (x1:Plan)  : Option (Bool) :=
  Qf3 fu x1 fu 0
def Qrq (fu:Nat) (x1:Plan):Option (Bool) :=
  bif ((x1.fQ.length:Int) != (x1.fU.length:Int)) then some (false) else bif (decide ((x1.fQ.length:Int) > 100)) then some (false) else Qqh fu x1
def Qjj (fu:Nat)  (x1:Plan) (k1:Int → Option (Bool)) (Aa:Int):Option (Bool) :=
  bif (decide (Aa < (x1.fQ.length:Int))) then Qac (ix x1.fQ Aa) λAb=>bif ((Ab.fM.length:Int) == 0) then some (true) else k1 (w64 (Aa + 1)) else some (false)
def Qfo (fu:Nat)  (x1:Plan):Nat → Int → Option (Bool)
  | 0=>λ_=>none
  | n + 1=>Qjj fu x1 (Qfo fu x1 n)
def Qn9 (fu:Nat) (x1:Plan):Option (Bool) :=
  Qfo fu x1 fu 0
def Ql2 (fu:Nat)  (x1:Plan) (k1:List Int → Int → Option ((List Int))) (Ab:List Int) (Aa:Int):Option ((List Int)) :=
  bif (decide (Aa < (x1.fQ.length:Int))) then Qac (ix x1.fQ Aa) λAc=>Qac (Qhv 8 Ab Ac.fM) λAd=>k1 Ad (w64 (Aa + 1)) else some (Ab)
def Qgp (fu:Nat)  (x1:Plan):Nat → List Int → Int → Option ((List Int))
  | 0=>λ_ _=>none
  | n + 1=>Ql2 fu x1 (Qgp fu x1 n)
def Qpy (fu:Nat) (x1:Plan):Option ((List Int)) :=
  Qgp fu x1 fu (([]:List Int)) 0
def Qtr (fu:Nat) (Aa:Bool):Option (Int) :=
  bif Aa then some (1) else some (0)
def Qlo (fu:Nat)  (Ab:List Int) (x5:Int) (k1:Int → Int → Option (Int)) (Ac:Int) (Aa:Int):Option (Int) :=
  bif (decide (Aa < (Ab.length:Int))) then Qac (ix Ab Aa) λAe=>Qac (Qtr fu (Ae == x5)) λAd=>k1 (w64 (Ac + Ad)) (w64 (Aa + 1)) else some (Ac)
def Qgj (fu:Nat)  (Aa:List Int) (x5:Int):Nat → Int → Int → Option (Int)
  | 0=>λ_ _=>none
  | n + 1=>Qlo fu Aa x5 (Qgj fu Aa x5 n)
def Qpr (fu:Nat) (Aa:List Int) (x5:Int):Option (Int) :=
  Qgj fu Aa x5 fu 0 0
def Qjl (fu:Nat)  (Ab:List Int) (Ad:(List Int)) (k1:Int → Option (Bool)) (Aa:Int):Option (Bool) :=
  bif (decide (Aa < (Ab.length:Int))) then Qac (Qpr fu Ad Aa) λAc=>bif (Ac != 1) then some (false) else k1 (w64 (Aa + 1)) else some (true)
def Qfk (fu:Nat)  (Aa:List Int) (Ab:(List Int)):Nat → Int → Option (Bool)
  | 0=>λ_=>none
  | n + 1=>Qjl fu Aa Ab (Qfk fu Aa Ab n)
def Qoo (fu:Nat) (Aa:List Int) (x5:Plan):Option (Bool) :=
  Qac (Qpy fu x5) λAb=>bif ((Ab.length:Int) != (Aa.length:Int)) then some (false) else Qfk fu Aa Ab fu 0
def Qn2 (fu:Nat) (k7:Int → Option (Bool)) (Aa:Int)  : Option (Bool) :=
  k7 (w64 (Aa + 1))
def Qm8 (fu:Nat) (k7:Int → Option (Bool)) (r1:Request) (x5:Plan) (Aa:Int) (Ad:Typ) (Ae:Bool):Option (Bool) :=
  bif (!Ae) then some (false) else Qac (ix x5.fQ Aa) λAb=>Qac (Qq4 fu r1 Ab.fM Ad) λAc=>bif (!Ac) then some (false) else Qn2 fu k7 Aa
def Qji (fu:Nat)  (r1:Request) (x5:Plan) (k7:Int → Option (Bool)) (Aa:Int):Option (Bool) :=
  bif (decide (Aa < (x5.fQ.length:Int))) then Qac (ix x5.fQ Aa) λAc=>Qac (Qh5 fu r1 Ac.fO) λAb=>Qm8 fu k7 r1 x5 Aa Ab.1 Ab.2 else some (true)
def Qds (fu:Nat)  (r1:Request) (x5:Plan):Nat → Int → Option (Bool)
  | 0=>λ_=>none
  | n + 1=>Qji fu r1 x5 (Qds fu r1 x5 n)
def Qov (fu:Nat) (r1:Request) (x5:Plan):Option (Bool) :=
  Qds fu r1 x5 fu 0
def Ql3 (fu:Nat)  (Ab:List (List Int)) (Ae:Int) (k1:Int → Option (Int)) (Aa:Int):Option (Int) :=
  bif (decide (Aa < (Ab.length:Int))) then Qac (ix Ab Aa) λAc=>Qac (Qor fu Ac Ae) λAd=>bif Ad then some (Aa) else k1 (w64 (Aa + 1)) else some ((-1))
def Qgi (fu:Nat)  (Aa:List (List Int)) (Ab:Int):Nat → Int → Option (Int)
  | 0=>λ_=>none
  | n + 1=>Ql3 fu Aa Ab (Qgi fu Aa Ab n)
def Qp7 (fu:Nat) (Aa:List (List Int)) (Ab:Int):Option (Int) :=
  Qgi fu Aa Ab fu 0
def Qns (fu:Nat) (Aa:Int → Option (Bool)) (Ab:Int)  : Option (Bool) :=
  Aa (w64 (Ab + 1))
def Qni (fu:Nat) (Ab:Int → Option (Bool)) (Aa:Int)  : Option (Bool) :=
  Ab (w64 (Aa + 1))
def Qm9 (fu:Nat) (Ag:Int → Option (Bool)) (x9:Plan) (Ad:(List (List Int))) (Af:Int) (Ab:Int) (Ac:Item):Option (Bool) :=
  Qac (ix x9.fQ Af) λAa=>Qac (Qp7 fu Ad Ac.fF) λAe=>bif (Ae != Aa.fE) then some (false) else Qni fu Ag Ab
def Qje (fu:Nat) (Af:Int → Option (Bool)) (r1:Request) (Ah:List Int) (x9:Plan) (Ag:(List (List Int))) (Aa:Int) (Ai:Int → Option (Bool)) (Ab:Int):Option (Bool) :=
  Qac (ix x9.fQ Aa) λAc=>bif (decide (Ab < (Ac.fM.length:Int))) then Qac (ix x9.fQ Aa) λAj=>Qac (ix Ac.fM Ab) λAd=>Qac (Qi1 fu r1 Ah Ad) λAe=>Qm9 fu Ai x9 Ag Aa Ab Ae.1 else Qns fu Af Aa
def Qdq (fu:Nat) (Ab:Int → Option (Bool)) (r1:Request) (Ac:List Int) (x9:Plan) (Aa:(List (List Int))) (Ad:Int):Nat → Int → Option (Bool)
  | 0=>λ_=>none
  | n + 1=>Qje fu Ab r1 Ac x9 Aa Ad (Qdq fu Ab r1 Ac x9 Aa Ad n)
def Qj1 (fu:Nat)  (r1:Request) (Ad:List Int) (x9:Plan) (Ab:(List (List Int))) (Ac:Int → Option (Bool)) (Aa:Int):Option (Bool) :=
  bif (decide (Aa < (x9.fQ.length:Int))) then Qdq fu Ac r1 Ad x9 Ab Aa fu 0 else some (true)
def Qcc (fu:Nat)  (r1:Request) (Ab:List Int) (x9:Plan) (Aa:(List (List Int))):Nat → Int → Option (Bool)
  | 0=>λ_=>none
  | n + 1=>Qj1 fu r1 Ab x9 Aa (Qcc fu r1 Ab x9 Aa n)
def Qn7 (fu:Nat) (r1:Request) (Ab:List Int) (x9:Plan):Option (Bool) :=
  Qac (Qgx fu r1) λAa=>Qcc fu r1 Ab x9 Aa fu 0
def Qn1 (fu:Nat) (k7:Int → Option (Bool)) (Aa:Int)  : Option (Bool) :=
  k7 (w64 (Aa + 1))
def Qnv (fu:Nat) (k7:Int → Option (Bool)) (x5:Plan) (Aa:Int) (Ab:Typ) (Ac:Bool):Option (Bool) :=
  bif (!Ac) then some (false) else Qac (ix x5.fQ Aa) λAd=>bif (Ab.f8 != Ad.fO) then some (false) else Qn1 fu k7 Aa
def Qjm (fu:Nat)  (r1:Request) (x5:Plan) (k7:Int → Option (Bool)) (Aa:Int):Option (Bool) :=
  bif (decide (Aa < (x5.fQ.length:Int))) then Qac (ix x5.fQ Aa) λAc=>Qac (Qkt fu r1 Ac.fM) λAb=>Qnv fu k7 x5 Aa Ab.1 Ab.2 else some (true)
def Qdl (fu:Nat)  (r1:Request) (x5:Plan):Nat → Int → Option (Bool)
  | 0=>λ_=>none
  | n + 1=>Qjm fu r1 x5 (Qdl fu r1 x5 n)
def Qop (fu:Nat) (r1:Request) (x5:Plan):Option (Bool) :=
  Qdl fu r1 x5 fu 0
def Qia (fu:Nat) (b1:Box) (Aa:Spot):Option (Bool) :=
  Qac (Qar fu b1.fW 0 2000) λAe=>bif Ae then Qac (Qar fu b1.fD 0 2000) λAf=>bif Af then Qac (Qar fu b1.fH 0 2000) λAg=>bif Ag then Qac (Qar fu Aa.fX 0 2000) λAc=>bif Ac then Qac (Qar fu Aa.fY 0 2000) λAd=>bif Ad then Qac (Qar fu Aa.fZ 0 2000) λAb=>some (Ab) else some (false) else some (false) else some (false) else some (false) else some (false)
def Qrn (fu:Nat) (p1:Pallet) (b2:Box) (Aa:Spot):Option (Bool) :=
  Qac (Qia fu b2 Aa) λAb=>bif Ab then bif (decide (b2.fW > 0)) then bif (decide (b2.fD > 0)) then bif (decide (b2.fH > 0)) then bif (decide ((w64 (Aa.fX + b2.fW)) ≤ p1.fW)) then bif (decide ((w64 (Aa.fY + b2.fD)) ≤ p1.fD)) then some (decide ((w64 (Aa.fZ + b2.fH)) ≤ p1.fH)) else some (false) else some (false) else some (false) else some (false) else some (false) else some (false)
def Qi8 (fu:Nat)  (r1:Request) (x5:Plan) (k1:Int → Option (Bool)) (Aa:Int):Option (Bool) :=
  bif (decide (Aa < (x5.fQ.length:Int))) then Qac (ix x5.fQ Aa) λAb=>Qac (ix x5.fU Aa) λAe=>Qac (Qiu fu r1 Ab) λAc=>Qac (Qrn fu r1.fJ Ac Ae) λAd=>bif (!Ad) then some (false) else k1 (w64 (Aa + 1)) else some (true)
def Qe1 (fu:Nat)  (r1:Request) (x5:Plan):Nat → Int → Option (Bool)
  | 0=>λ_=>none
  | n + 1=>Qi8 fu r1 x5 (Qe1 fu r1 x5 n)
def Qmk (fu:Nat) (r1:Request) (x5:Plan):Option (Bool) :=
  Qe1 fu r1 x5 fu 0
def Qib (fu:Nat) (a1:Int) (Aa:Int) (b3:Int) (Ab:Int):Option (Bool) :=
  bif (decide (a1 < (w64 (b3 + Ab)))) then some (decide (b3 < (w64 (a1 + Aa)))) else some (false)
def Qm0 (fu:Nat) (a1:Box) (Aa:Spot) (b3:Box) (t4:Spot):Option (Bool) :=
  Qac (Qia fu a1 Aa) λAd=>bif Ad then Qac (Qia fu b3 t4) λAc=>bif Ac then bif (Aa.fJ == t4.fJ) then Qac (Qib fu Aa.fX a1.fW t4.fX b3.fW) λAe=>bif Ae then Qac (Qib fu Aa.fY a1.fD t4.fY b3.fD) λAf=>bif Af then Qac (Qib fu Aa.fZ a1.fH t4.fZ b3.fH) λAb=>some (Ab) else some (false) else some (false) else some (false) else some (false) else some (false)
def Qjf (fu:Nat) (k3:Int → Option (Bool)) (r1:Request) (x5:Plan) (Ab:Int) (k4:Int → Option (Bool)) (Aa:Int):Option (Bool) :=
  bif (decide (Aa < Ab)) then Qac (ix x5.fQ Ab) λAc=>Qac (ix x5.fU Ab) λAh=>Qac (ix x5.fQ Aa) λAd=>Qac (ix x5.fU Aa) λAi=>Qac (Qiu fu r1 Ac) λAe=>Qac (Qiu fu r1 Ad) λAg=>Qac (Qm0 fu Ae Ah Ag Ai) λAf=>bif Af then some (false) else k4 (w64 (Aa + 1)) else k3 (w64 (Ab + 1))
def Qfy (fu:Nat) (k3:Int → Option (Bool)) (r1:Request) (x5:Plan) (Aa:Int):Nat → Int → Option (Bool)
  | 0=>λ_=>none
  | n + 1=>Qjf fu k3 r1 x5 Aa (Qfy fu k3 r1 x5 Aa n)
def Qjh (fu:Nat)  (r1:Request) (x5:Plan) (k3:Int → Option (Bool)) (Aa:Int):Option (Bool) :=
  bif (decide (Aa < (x5.fQ.length:Int))) then Qfy fu k3 r1 x5 Aa fu 0 else some (true)
def Qdm (fu:Nat)  (r1:Request) (x5:Plan):Nat → Int → Option (Bool)
  | 0=>λ_=>none
  | n + 1=>Qjh fu r1 x5 (Qdm fu r1 x5 n)
def Qot (fu:Nat) (r1:Request) (x5:Plan):Option (Bool) :=
  Qdm fu r1 x5 fu 0
def Qis (fu:Nat) (k5:List Int → Int → Option ((List Int))) (Aa:Int) (Ab:List Int):Option ((List Int)) :=
  k5 Ab (w64 (Aa + 1))
def Qny (fu:Nat) (k5:List Int → Int → Option ((List Int))) (x1:Plan) (Ae:Int) (Ab:List Int) (Aa:Int)  : Option ((List Int)) :=
  Qac (ix x1.fU Aa) λAd=>bif (Ad.fJ == Ae) then Qac (Qhv 8 Ab (([Aa]:List Int))) λAc=>Qis fu k5 Aa Ac else Qis fu k5 Aa Ab
def Qhf (fu:Nat)  (x1:Plan) (Ac:Int) (k5:List Int → Int → Option ((List Int))) (Aa:List Int) (Ab:Int):Option ((List Int)) :=
  bif (decide (Ab < (x1.fQ.length:Int))) then bif ((x1.fQ.length:Int) == (x1.fU.length:Int)) then Qny fu k5 x1 Ac Aa Ab else some (Aa) else some (Aa)
def Qc0 (fu:Nat)  (x1:Plan) (Aa:Int):Nat → List Int → Int → Option ((List Int))
  | 0=>λ_ _=>none
  | n + 1=>Qhf fu x1 Aa (Qc0 fu x1 Aa n)
def Qj3 (fu:Nat) (x1:Plan) (Aa:Int):Option ((List Int)) :=
  Qc0 fu x1 Aa fu (([]:List Int)) 0
def Qid (fu:Nat)  (r1:Request) (x5:Plan) (Ab:(List Int)) (k1:Int → Int → Option (Int)) (Ac:Int) (Aa:Int):Option (Int) :=
  bif (decide (Aa < (Ab.length:Int))) then Qac (ix Ab Aa) λAf=>Qac (ix x5.fQ Af) λAe=>Qac (Qq5 fu r1 Ae) λAd=>k1 (w64 (Ac + Ad)) (w64 (Aa + 1)) else some (Ac)
def Qej (fu:Nat)  (r1:Request) (x5:Plan) (Aa:(List Int)):Nat → Int → Int → Option (Int)
  | 0=>λ_ _=>none
  | n + 1=>Qid fu r1 x5 Aa (Qej fu r1 x5 Aa n)
def Qka (fu:Nat) (r1:Request) (x5:Plan) (Aa:Int):Option (Int) :=
  Qac (Qj3 fu x5 Aa) λAb=>Qej fu r1 x5 Ab fu 0 0
def Qjw (fu:Nat) (Aa:Int → Option (Bool)) (Ab:Int)  : Option (Bool) :=
  Aa (w64 (Ab + 1))
def Qif (fu:Nat) (Ae:Int → Option (Bool)) (x5:Plan) (Ai:Int) (Aa:(List Int)) (Ac:Int → Option (Bool)) (Ab:Int):Option (Bool) :=
  bif (decide (Ab < (Aa.length:Int))) then Qac (ix Aa Ab) λAh=>Qac (ix x5.fQ Ah) λAf=>Qac (ix Aa 0) λAd=>Qac (ix x5.fQ Ad) λAg=>bif (Af.fE != Ag.fE) then some (false) else Ac (w64 (Ab + 1)) else Qjw fu Ae Ai
def Qei (fu:Nat) (Ab:Int → Option (Bool)) (x5:Plan) (Ac:Int) (Aa:(List Int)):Nat → Int → Option (Bool)
  | 0=>λ_=>none
  | n + 1=>Qif fu Ab x5 Ac Aa (Qei fu Ab x5 Ac Aa n)
def Qja (fu:Nat) (Ab:Int → Option (Bool)) (x5:Plan) (Ac:Int) (Aa:(List Int))  : Option (Bool) :=
  Qei fu Ab x5 Ac Aa fu 1
def Qic (fu:Nat)  (r1:Request) (x5:Plan) (Ad:Int) (Ae:Int → Option (Bool)) (Aa:Int):Option (Bool) :=
  bif (decide (Aa < Ad)) then Qac (Qj3 fu x5 Aa) λAb=>bif ((Ab.length:Int) == 0) then some (false) else Qac (Qka fu r1 x5 Aa) λAc=>bif (decide (Ac > r1.fJ.fV)) then some (false) else Qja fu Ae x5 Aa Ab else some (true)
def Qb1 (fu:Nat)  (r1:Request) (x5:Plan) (Aa:Int):Nat → Int → Option (Bool)
  | 0=>λ_=>none
  | n + 1=>Qic fu r1 x5 Aa (Qb1 fu r1 x5 Aa n)
def Qke (fu:Nat) (r1:Request) (x5:Plan):Option (Bool) :=
  Qac (Qm4 fu x5.fU) λAa=>Qb1 fu r1 x5 Aa fu 0
def Qsb (fu:Nat) (r1:Request) (x5:Plan)  : Option (Int) :=
  Qac (Qcg fu r1) λAa=>Qac (Qoo fu Aa x5) λAd=>bif (!Ad) then some (3) else Qac (Qov fu r1 x5) λAf=>bif (!Af) then some (4) else Qac (Qn7 fu r1 Aa x5) λAc=>bif (!Ac) then some (5) else Qac (Qop fu r1 x5) λAe=>bif (!Ae) then some (6) else Qac (Qmk fu r1 x5) λAb=>bif (!Ab) then some (7) else Qac (Qot fu r1 x5) λAh=>bif (!Ah) then some (8) else Qac (Qke fu r1 x5) λAg=>bif (!Ag) then some (9) else some (0)
def Qsy (fu:Nat) (r1:Request) (x5:Plan):Option (Int) :=
  Qac (Qep fu r1) λAa=>bif (Aa != 0) then some (1) else Qac (Qrq fu x5) λAc=>bif (!Ac) then some (2) else Qac (Qn9 fu x5) λAb=>bif Ab then some (2) else Qsb fu r1 x5
def Qj6 (fu:Nat) (r1:Request) (x5:Plan):Option (Bool) :=
  Qac (Qsy fu r1 x5) λAa=>some (Aa == 0)
def Qjs (fu:Nat)  (r1:Request) (x5:Plan) (k1:List Box → Int → Option ((List Box))) (Ab:List Box) (Aa:Int):Option ((List Box)) :=
  bif (decide (Aa < (x5.fQ.length:Int))) then Qac (ix x5.fQ Aa) λAd=>Qac (Qiu fu r1 Ad) λAc=>Qac (Qhv 32 Ab (([Ac]:List Box))) λAe=>k1 Ae (w64 (Aa + 1)) else some (Ab)
def Qfm (fu:Nat)  (r1:Request) (x5:Plan):Nat → List Box → Int → Option ((List Box))
  | 0=>λ_ _=>none
  | n + 1=>Qjs fu r1 x5 (Qfm fu r1 x5 n)
def Qom (fu:Nat) (r1:Request) (x5:Plan):Option ((List Box)) :=
  Qfm fu r1 x5 fu (([]:List Box)) 0
def Qkr (fu:Nat) (k3:Int → Option (Bool)) (Aa:Int)  : Option (Bool) :=
  k3 (w64 (Aa + 1))
def Qlb (fu:Nat)  (Ab:List Box) (x5:Plan) (i9:Int) (Ag:Spot) (k3:Int → Option (Bool)) (Aa:Int):Option (Bool) :=
  bif (decide (Aa < (Ab.length:Int))) then bif (Aa != i9) then Qac (ix Ab i9) λAc=>Qac (ix Ab Aa) λAf=>Qac (ix x5.fU Aa) λAd=>Qac (Qm0 fu Ac Ag Af Ad) λAe=>bif Ae then some (false) else Qkr fu k3 Aa else Qkr fu k3 Aa else some (true)
def Qe8 (fu:Nat)  (Aa:List Box) (x5:Plan) (i9:Int) (Ab:Spot):Nat → Int → Option (Bool)
  | 0=>λ_=>none
  | n + 1=>Qlb fu Aa x5 i9 Ab (Qe8 fu Aa x5 i9 Ab n)
def Qpz (fu:Nat) (Aa:List Box) (x5:Plan) (i9:Int) (Ab:Spot):Option (Bool) :=
  Qe8 fu Aa x5 i9 Ab fu 0
def Qpm (fu:Nat) (Ab:List Spot → Int → Option (Plan)) (Aa:Int) (Ac:List Spot):Option (Plan) :=
  Ab Ac (w64 (Aa + 1))
def Qkg (fu:Nat) (Ad:List Spot → Int → Option (Plan)) (Ab:List Spot) (Aa:Int) (Ac:Spot):Option (Plan) :=
  Qac (ix Ab Aa) λAe=>Qpm fu Ad Aa (Qge Ab Aa Ac)
def Qqy (fu:Nat) (Ad:List Spot → Int → Option (Plan)) (Ah:Plan) (Ag:(List Box)) (Ac:List Spot) (Ab:Int) (Af:Spot → Option (Plan)) (Aa:Spot):Option (Plan) :=
  bif (decide (Aa.fZ > 0)) then Qac (Qpz fu Ag (⟨Ah.fQ,Ac⟩:Plan) Ab (⟨Aa.fJ,Aa.fX,Aa.fY,w64 (Aa.fZ - 1)⟩:Spot)) λAe=>bif (!Ae) then Qkg fu Ad Ac Ab Aa else Af (⟨Aa.fJ,Aa.fX,Aa.fY,w64 (Aa.fZ - 1)⟩:Spot) else Qkg fu Ad Ac Ab Aa
def Qgk (fu:Nat) (Ab:List Spot → Int → Option (Plan)) (Ae:Plan) (Ac:(List Box)) (Ad:List Spot) (Aa:Int):Nat → Spot → Option (Plan)
  | 0=>λ_=>none
  | n + 1=>Qqy fu Ab Ae Ac Ad Aa (Qgk fu Ab Ae Ac Ad Aa n)
def Qmg (fu:Nat)  (Ac:Plan) (Af:(List Box)) (Ae:List Spot → Int → Option (Plan)) (Aa:List Spot) (Ab:Int):Option (Plan) :=
  bif (decide (Ab < (Aa.length:Int))) then Qac (ix Aa Ab) λAd=>Qgk fu Ae Ac Af Aa Ab fu Ad else some (⟨Ac.fQ,Aa⟩:Plan)
def Qcj (fu:Nat)  (Aa:Plan) (Ab:(List Box)):Nat → List Spot → Int → Option (Plan)
  | 0=>λ_ _=>none
  | n + 1=>Qmg fu Aa Ab (Qcj fu Aa Ab n)
def Qpu (fu:Nat) (r1:Request) (x5:Plan):Option (Plan) :=
  Qac (Qp4 fu x5) λAa=>Qac (Qj6 fu r1 x5) λAc=>bif (!Ac) then some (Aa) else Qac (Qom fu r1 x5) λAb=>Qcj fu Aa Ab fu Aa.fU 0
def Qnd (fu:Nat)  (a1:List Int) (b5:List Int) (k1:Int → Option (Bool)) (Aa:Int):Option (Bool) :=
  bif (decide (Aa < (a1.length:Int))) then Qac (ix a1 Aa) λAc=>Qac (ix b5 Aa) λAb=>bif (Ac != Ab) then some (false) else k1 (w64 (Aa + 1)) else some (true)
def Qhc (fu:Nat)  (a1:List Int) (b5:List Int):Nat → Int → Option (Bool)
  | 0=>λ_=>none
  | n + 1=>Qnd fu a1 b5 (Qhc fu a1 b5 n)
def Qre (fu:Nat) (a1:List Int) (b5:List Int):Option (Bool) :=
  bif ((a1.length:Int) != (b5.length:Int)) then some (false) else Qhc fu a1 b5 fu 0
def Qnc (fu:Nat) (k4:Int → Option (Bool)) (Aa:Int)  : Option (Bool) :=
  k4 (w64 (Aa + 1))
def Qjq (fu:Nat)  (a1:Plan) (b5:Plan) (k6:Int → Option (Bool)) (Aa:Int):Option (Bool) :=
  bif (decide (Aa < (a1.fU.length:Int))) then Qac (ix a1.fU Aa) λAc=>Qac (ix b5.fU Aa) λAb=>bif (!(decide (Ac = Ab))) then some (false) else k6 (w64 (Aa + 1)) else some (true)
def Qeo (fu:Nat)  (a1:Plan) (b5:Plan):Nat → Int → Option (Bool)
  | 0=>λ_=>none
  | n + 1=>Qjq fu a1 b5 (Qeo fu a1 b5 n)
def Qjc (fu:Nat)  (a1:Plan) (b5:Plan) (k4:Int → Option (Bool)) (Aa:Int):Option (Bool) :=
  bif (decide (Aa < (a1.fQ.length:Int))) then Qac (ix a1.fQ Aa) λAb=>Qac (ix b5.fQ Aa) λAc=>bif (Ab.fO != Ac.fO) then some (false) else Qac (ix a1.fQ Aa) λAf=>Qac (ix b5.fQ Aa) λAh=>bif (Ab.fE != Ac.fE) then some (false) else Qac (ix a1.fQ Aa) λAg=>Qac (ix b5.fQ Aa) λAe=>Qac (Qre fu Ab.fM Ac.fM) λAd=>bif (!Ad) then some (false) else Qnc fu k4 Aa else Qeo fu a1 b5 fu 0
def Qer (fu:Nat)  (a1:Plan) (b5:Plan):Nat → Int → Option (Bool)
  | 0=>λ_=>none
  | n + 1=>Qjc fu a1 b5 (Qer fu a1 b5 n)
def Qn0 (fu:Nat) (a1:Plan) (b5:Plan)  : Option (Bool) :=
  Qer fu a1 b5 fu 0
def Qgw (fu:Nat) (a1:Plan) (b5:Plan):Option (Bool) :=
  bif ((a1.fQ.length:Int) != (b5.fQ.length:Int)) then some (false) else bif ((a1.fU.length:Int) != (b5.fU.length:Int)) then some (false) else Qn0 fu a1 b5
end Go.Proofs.YtpcmapfabndggaaGreat
