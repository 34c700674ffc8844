/- FnDropped: what the .. -/
import Derived.Test.YtpcmapfabndggaaGreatS13
import Derived.Test.YtpcmapfabndggaaGreatS15
set_option linter.unusedVariables false
namespace Go.Proofs.YtpcmapfabndggaaGreat
open Go
def Qu4 (fu:Nat) (Aa:List U8):Option (Bool) :=
  some (decide ((Aa.length:Int) > 1048576))
def Qsb (fu:Nat) (k3:Int → Int → Option (Cur)) (Ad:List U8) (Ac:Int) (Aa:Int)  : Option (Cur) :=
  Qac (ix Ad Aa) λAb=>k3 (IntKind.wrap .i64 (((BitVec.ofInt (IntKind.bits .i64) (w64 ((w64 ((w64 (Ac * 131)) + (w64 Ab.n))) + 7)) &&& BitVec.ofInt (IntKind.bits .i64) 1073741823).toNat:Nat):Int)) (w64 (Aa + 1))
def Qpc (fu:Nat)  (Aa:List U8) (k3:Int → Int → Option (Cur)) (Ac:Int) (Ab:Int):Option (Cur) :=
  bif (decide (Ab < (Aa.length:Int))) then bif (decide (Ab < 4000)) then Qsb fu k3 Aa Ac Ab else some (⟨Aa,0,Ac⟩:Cur) else some (⟨Aa,0,Ac⟩:Cur)
def Qg4 (fu:Nat)  (Aa:List U8):Nat → Int → Int → Option (Cur)
  | 0=>λ_ _=>none
  | n + 1=>Qpc fu Aa (Qg4 fu Aa n)
def Qok (fu:Nat) (Aa:List U8):Option (Cur) :=
  Qg4 fu Aa fu (w64 (26583 + (Aa.length:Int))) 0
def Qhl (fu:Nat) (c1:Cur):Option (Int × Cur) :=
  bif (decide (c1.fi < (c1.fb.length:Int))) then Qac (ix c1.fb c1.fi) λAa=>some (IntKind.wrap .i64 (((BitVec.ofInt (IntKind.bits .i64) (w64 ((IntKind.wrap .i64 (((BitVec.ofInt (IntKind.bits .i64) (IntKind.wrap .i64 (((BitVec.ofInt (IntKind.bits .i64) (Int.fdiv (w64 ((w64 (c1.fh * 6364136223846793005)) + 1442695040888963407)) (2 ^ (min 33 (IntKind.bits .i64)))) ^^^ BitVec.ofInt (IntKind.bits .i64) (Int.fdiv (w64 ((w64 (c1.fh * 6364136223846793005)) + 1442695040888963407)) (2 ^ (min 45 (IntKind.bits .i64))))).toNat:Nat):Int)) &&& BitVec.ofInt (IntKind.bits .i64) 255).toNat:Nat):Int)) + (w64 Aa.n))) &&& BitVec.ofInt (IntKind.bits .i64) 255).toNat:Nat):Int),(⟨c1.fb,w64 (c1.fi + 1),w64 ((w64 (c1.fh * 6364136223846793005)) + 1442695040888963407)⟩:Cur)) else some (IntKind.wrap .i64 (((BitVec.ofInt (IntKind.bits .i64) (IntKind.wrap .i64 (((BitVec.ofInt (IntKind.bits .i64) (Int.fdiv (w64 ((w64 (c1.fh * 6364136223846793005)) + 1442695040888963407)) (2 ^ (min 33 (IntKind.bits .i64)))) ^^^ BitVec.ofInt (IntKind.bits .i64) (Int.fdiv (w64 ((w64 (c1.fh * 6364136223846793005)) + 1442695040888963407)) (2 ^ (min 45 (IntKind.bits .i64))))).toNat:Nat):Int)) &&& BitVec.ofInt (IntKind.bits .i64) 255).toNat:Nat):Int),(⟨c1.fb,c1.fi,w64 ((w64 (c1.fh * 6364136223846793005)) + 1442695040888963407)⟩:Cur))
def Qao (fu:Nat) (c1:Cur) (n7:Int):Option (Int × Cur) :=
  bif (decide (n7 ≤ 0)) then some (0,c1) else bif (decide (n7 ≤ 256)) then Qac (Qhl fu c1) λAa=>Qac (Jfd n7) λAf=>some (Int.tmod Aa.1 n7,(⟨c1.fb,Aa.2.fi,Aa.2.fh⟩:Cur)) else Qac (Qhl fu c1) λAe=>Qac (Qhl fu (⟨c1.fb,Ae.2.fi,Ae.2.fh⟩:Cur)) λAb=>Qac (Qhl fu (⟨c1.fb,Ab.2.fi,Ab.2.fh⟩:Cur)) λAd=>Qac (Qhl fu (⟨c1.fb,Ad.2.fi,Ad.2.fh⟩:Cur)) λAc=>Qac (Jfd n7) λAg=>some (Int.tmod (w64 ((w64 ((w64 ((w64 (Ae.1 * 16777216)) + (w64 (Ab.1 * 65536)))) + (w64 (Ad.1 * 256)))) + Ac.1)) n7,(⟨c1.fb,Ac.2.fi,Ac.2.fh⟩:Cur))
def Qiu (fu:Nat) (c1:Cur) (n7:Int):Option (Bool × Cur) :=
  Qac (Qao fu c1 n7) λx9=>some (x9.1 == 0,(⟨c1.fb,x9.2.fi,x9.2.fh⟩:Cur))
def Qbt (fu:Nat) (c1:Cur) (Ab:List Int):Option (Int × Cur) :=
  Qac (Qao fu c1 (Ab.length:Int)) λAa=>Qac (ix Ab Aa.1) λAc=>some (Ac,(⟨c1.fb,Aa.2.fi,Aa.2.fh⟩:Cur))
def Qhv (fu:Nat) (Aa:Int → Int → List Pair → Int → Option (Request × Cur)) (Ae:Int) (Ab:Int) (Ad:Int) (Ac:List Pair):Option (Request × Cur) :=
  Aa Ab Ad Ac (w64 (Ae + 1))
def Qlf (fu:Nat) (k9:Int → Int → List Pair → Int → Option (Request × Cur)) (c1:Cur) (Ab:Int) (Ae:Int → Int → List Pair → Int → Option (Request × Cur)) (Af:Int) (Ag:Int) (Ad:List Pair) (Aa:Int):Option (Request × Cur) :=
  bif (decide (Aa ≤ Ab)) then bif (Ab == Aa) then Qac (Qhx 16 Ad (([(⟨Ab,Ab⟩:Pair)]:List Pair))) λAh=>Qhv fu Ae Aa Af Ag Ah else Qac (Qiu fu (⟨c1.fb,Af,Ag⟩:Cur) 2) λAc=>bif Ac.1 then Qac (Qhx 16 Ad (([(⟨Ab,Aa⟩:Pair),(⟨Aa,Ab⟩:Pair)]:List Pair))) λAi=>Qhv fu Ae Aa Ac.2.fi Ac.2.fh Ai else Qhv fu Ae Aa Ac.2.fi Ac.2.fh Ad else k9 Af Ag Ad (w64 (Ab + 1))
def Qfb (fu:Nat) (k9:Int → Int → List Pair → Int → Option (Request × Cur)) (c1:Cur) (Aa:Int):Nat → Int → Int → List Pair → Int → Option (Request × Cur)
  | 0=>λ_ _ _ _=>none
  | n + 1=>Qlf fu k9 c1 Aa (Qfb fu k9 c1 Aa n)
def Qkn (fu:Nat) (Aa:Int → Int → List Item → Int → Int → Option (Request × Cur)) (Ae:Int) (Af:Int) (Ac:Int) (Ad:List Item) (Ab:Int):Option (Request × Cur) :=
  Aa Af Ac Ad Ab (w64 (Ae + 1))
def Qh0 (fu:Nat) (Ac:Int → Int → List Item → Int → Int → Option (Request × Cur)) (Ad:List Item) (Ab:Int) (Ae:Int) (Af:Int) (Ag:Int) (Aa:Item):Option (Request × Cur) :=
  bif (decide ((w64 (Ab + Aa.f0)) ≤ 12)) then Qac (Qhx 56 Ad (([Aa]:List Item))) λAh=>Qkn fu Ac Ae Af Ag Ah (w64 (Ab + Aa.f0)) else Qkn fu Ac Ae Af Ag Ad Ab
def Qpa (fu:Nat) (Ad:Int → Int → List Item → Int → Int → Option (Request × Cur)) (c1:Cur) (Ae:List Item) (Ag:Int) (Af:Int) (Ai:Int) (Ah:Int) (Aa:Item):Option (Request × Cur) :=
  Qac (Qiu fu (⟨c1.fb,Ai,Ah⟩:Cur) 3) λAb=>bif Ab.1 then Qac (Qao fu (⟨c1.fb,Ab.2.fi,Ab.2.fh⟩:Cur) 8) λAc=>Qh0 fu Ad Ae Ag Af Ac.2.fi Ac.2.fh (⟨Aa.f8,5,5,w64 (4 + Ac.1),Aa.fV,Aa.fF,Aa.f0⟩:Item) else Qh0 fu Ad Ae Ag Af Ab.2.fi Ab.2.fh Aa
def Qld (fu:Nat)  (c1:Cur) (As:Int × Cur) (Ap:Int × Cur) (At:Int × Cur) (Am:Int × Cur) (Av:Int × Cur) (Aj:Int × Cur) (Al:List Pair) (Au:List Typ) (Ao:Int × Cur) (Ar:Int → Int → List Item → Int → Int → Option (Request × Cur)) (Ai:Int) (Ak:Int) (Ah:List Item) (Aq:Int) (Ad:Int):Option (Request × Cur) :=
  bif (decide (Ad < Ao.1)) then Qac (Qao fu (⟨c1.fb,Ai,Ak⟩:Cur) 10) λAc=>Qac (Qao fu (⟨c1.fb,Ac.2.fi,Ac.2.fh⟩:Cur) 10) λAe=>Qac (Qao fu (⟨c1.fb,Ae.2.fi,Ae.2.fh⟩:Cur) 10) λAb=>Qac (Qao fu (⟨c1.fb,Ab.2.fi,Ab.2.fh⟩:Cur) 60) λAg=>Qac (Qao fu (⟨c1.fb,Ag.2.fi,Ag.2.fh⟩:Cur) (w64 (1 + Aj.1))) λAa=>Qac (Qao fu (⟨c1.fb,Aa.2.fi,Aa.2.fh⟩:Cur) 4) λAf=>Qpa fu Ar c1 Ah Aq Ad Af.2.fi Af.2.fh (⟨w64 (3 * Ad),w64 (1 + Ac.1),w64 (1 + Ae.1),w64 (1 + Ab.1),w64 (1 + Ag.1),Aa.1,w64 (1 + Af.1)⟩:Item) else some ((⟨As.1,(⟨Ap.1,At.1,Am.1,Av.1⟩:Pallet),w64 (1 + Aj.1),Al,Au,7,Ah⟩:Request),(⟨c1.fb,Ai,Ak⟩:Cur))
def Qcx (fu:Nat)  (c1:Cur) (Ab:Int × Cur) (Ah:Int × Cur) (Af:Int × Cur) (Ac:Int × Cur) (Ae:Int × Cur) (Ai:Int × Cur) (Ad:List Pair) (Aa:List Typ) (Ag:Int × Cur):Nat → Int → Int → List Item → Int → Int → Option (Request × Cur)
  | 0=>λ_ _ _ _ _=>none
  | n + 1=>Qld fu c1 Ab Ah Af Ac Ae Ai Ad Aa Ag (Qcx fu c1 Ab Ah Af Ac Ae Ai Ad Aa Ag n)
def Qla (fu:Nat)  (c1:Cur) (Ar:Int × Cur) (Ap:Int × Cur) (At:Int × Cur) (Ao:Int × Cur) (Au:Int × Cur) (As:Int × Cur) (Am:List Pair) (Al:Int × Cur) (Av:Int → Int → List Typ → Int → Option (Request × Cur)) (Aj:Int) (Ai:Int) (Ak:List Typ) (Ah:Int):Option (Request × Cur) :=
  bif (decide (Ah < Al.1)) then Qac (Qao fu (⟨c1.fb,Aj,Ai⟩:Cur) 9) λAe=>Qac (Qao fu (⟨c1.fb,Ae.2.fi,Ae.2.fh⟩:Cur) 8) λAb=>Qac (Qao fu (⟨c1.fb,Ab.2.fi,Ab.2.fh⟩:Cur) 9) λAa=>Qac (Qao fu (⟨c1.fb,Aa.2.fi,Aa.2.fh⟩:Cur) 5) λAf=>Qac (Qao fu (⟨c1.fb,Af.2.fi,Af.2.fh⟩:Cur) 90) λAg=>Qac (Qao fu (⟨c1.fb,Ag.2.fi,Ag.2.fh⟩:Cur) 20) λAd=>Qac (Qhx 56 Ak (([(⟨w64 (10 + Ah),w64 (4 + Ae.1),w64 (3 + Ab.1),w64 (3 + Aa.1),Af.1,w64 (20 + Ag.1),w64 (1 + Ad.1)⟩:Typ)]:List Typ))) λAq=>Av Ad.2.fi Ad.2.fh Aq (w64 (Ah + 1)) else Qac (Qao fu (⟨c1.fb,Aj,Ai⟩:Cur) 6) λAc=>Qcx fu c1 Ar Ap At Ao Au As Am Ak Ac fu Ac.2.fi Ac.2.fh (([]:List Item)) 0 0
def Qgn (fu:Nat)  (c1:Cur) (Ab:Int × Cur) (Ag:Int × Cur) (Af:Int × Cur) (Ac:Int × Cur) (Ae:Int × Cur) (Ah:Int × Cur) (Ad:List Pair) (Aa:Int × Cur):Nat → Int → Int → List Typ → Int → Option (Request × Cur)
  | 0=>λ_ _ _ _=>none
  | n + 1=>Qla fu c1 Ab Ag Af Ac Ae Ah Ad Aa (Qgn fu c1 Ab Ag Af Ac Ae Ah Ad Aa n)
def Qo8 (fu:Nat) (c1:Cur) (Ab:Int × Cur) (Aj:Int × Cur) (Ah:Int × Cur) (Ac:Int × Cur) (Ae:Int × Cur) (Ak:Int × Cur) (Ad:List Pair) (Ai:Int) (Af:Int) (Ag:List Typ):Option (Request × Cur) :=
  Qac (Qao fu (⟨c1.fb,Ai,Af⟩:Cur) 5) λAa=>Qgn fu c1 Ab Aj Ah Ac Ae Ak Ad Aa fu Aa.2.fi Aa.2.fh Ag 0
def Qle (fu:Nat)  (c1:Cur) (Ai:Int × Cur) (Ao:Int × Cur) (Al:Int × Cur) (Aj:Int × Cur) (Ak:Int × Cur) (Ah:Int × Cur) (k9:Int → Int → List Pair → Int → Option (Request × Cur)) (Ae:Int) (Ad:Int) (Af:List Pair) (Ag:Int):Option (Request × Cur) :=
  bif (decide (Ag < (w64 (1 + Ah.1)))) then Qfb fu k9 c1 Ag fu Ae Ad Af 0 else Qac (Qao fu (⟨c1.fb,Ae,Ad⟩:Cur) 8) λAa=>Qac (Qbt fu (⟨c1.fb,Aa.2.fi,Aa.2.fh⟩:Cur) (([60,100,140]:List Int))) λAc=>Qac (Qbt fu (⟨c1.fb,Ac.2.fi,Ac.2.fh⟩:Cur) (([9,20]:List Int))) λAb=>Qac (Qhx 56 (([]:List Typ)) (([(⟨7,12,10,11,Aa.1,Ac.1,Ab.1⟩:Typ)]:List Typ))) λAm=>Qo8 fu c1 Ai Ao Al Aj Ak Ah Af Ab.2.fi Ab.2.fh Am
def Qda (fu:Nat)  (c1:Cur) (Aa:Int × Cur) (Ae:Int × Cur) (Ad:Int × Cur) (Ab:Int × Cur) (Ac:Int × Cur) (Af:Int × Cur):Nat → Int → Int → List Pair → Int → Option (Request × Cur)
  | 0=>λ_ _ _ _=>none
  | n + 1=>Qle fu c1 Aa Ae Ad Ab Ac Af (Qda fu c1 Aa Ae Ad Ab Ac Af n)
def Qm5 (fu:Nat) (c1:Cur):Option (Request × Cur) :=
  Qac (Qao fu c1 2) λAa=>Qac (Qbt fu (⟨c1.fb,Aa.2.fi,Aa.2.fh⟩:Cur) (([20,30,37]:List Int))) λAe=>Qac (Qbt fu (⟨c1.fb,Ae.2.fi,Ae.2.fh⟩:Cur) (([20,25,40]:List Int))) λAd=>Qac (Qbt fu (⟨c1.fb,Ad.2.fi,Ad.2.fh⟩:Cur) (([15,24,50]:List Int))) λAb=>Qac (Qbt fu (⟨c1.fb,Ab.2.fi,Ab.2.fh⟩:Cur) (([150,400,5000]:List Int))) λAc=>Qac (Qao fu (⟨c1.fb,Ac.2.fi,Ac.2.fh⟩:Cur) 4) λAf=>Qda fu c1 Aa Ae Ad Ab Ac Af fu Af.2.fi Af.2.fh (([]:List Pair)) 0
def Qar (fu:Nat) (x1:Int) (Aa:Int) (Ab:Int):Option (Bool) :=
  bif (decide (x1 ≥ Aa)) then some (decide (x1 ≤ Ab)) else some (false)
def Qd9 (fu:Nat) (x1:Int):Option (Bool) :=
  Qac (Qar fu x1 1 2000) λx2=>some (x2)
def Qg3 (fu:Nat) (x1:Pallet):Option (Bool) :=
  Qac (Qd9 fu x1.fW) λx5=>bif x5 then Qac (Qd9 fu x1.fD) λAa=>bif Aa then Qac (Qd9 fu x1.fH) λAc=>bif Ac then Qac (Qar fu x1.fV 1 100000) λAb=>some (Ab) else some (false) else some (false) else some (false)
def Qon (fu:Nat) (x1:Int):Option (Bool) :=
  Qac (Qar fu x1 0 999) λx2=>some (x2)
def Qrx (fu:Nat) (x1:Typ):Option (Bool) :=
  Qac (Qon fu x1.f8) λx5=>bif x5 then Qac (Qd9 fu x1.fW) λAa=>bif Aa then Qac (Qd9 fu x1.fH) λAd=>bif Ad then Qac (Qd9 fu x1.fD) λAe=>bif Ae then Qac (Qar fu x1.f7 0 100000) λAf=>bif Af then Qac (Qar fu x1.fV 1 100000) λAc=>bif Ac then Qac (Qar fu x1.fK 0 100000) λAb=>some (Ab) else some (false) else some (false) else some (false) else some (false) else some (false) else some (false)
def Qrt (fu:Nat) (x1:Item):Option (Bool) :=
  Qac (Qon fu x1.f8) λx5=>bif x5 then Qac (Qd9 fu x1.fW) λAa=>bif Aa then Qac (Qd9 fu x1.fH) λAd=>bif Ad then Qac (Qd9 fu x1.fD) λAe=>bif Ae then Qac (Qar fu x1.fV 1 100000) λAf=>bif Af then Qac (Qar fu x1.fF 0 3) λAc=>bif Ac then Qac (Qar fu x1.f0 1 6) λAb=>some (Ab) else some (false) else some (false) else some (false) else some (false) else some (false) else some (false)
def Qm9 (fu:Nat) (k4:Int → Option (Bool)) (Aa:Int)  : Option (Bool) :=
  k4 (w64 (Aa + 1))
def Qji (fu:Nat)  (r1:Request) (k7:Int → Int → Option (Bool)) (Ab:Int) (Aa:Int):Option (Bool) :=
  bif (decide (Aa < (r1.fG.length:Int))) then Qac (ix r1.fG Aa) λAc=>Qac (Qrt fu Ac) λAd=>bif (!Ad) then some (false) else Qac (ix r1.fG Aa) λAe=>k7 (w64 (Ab + Ac.f0)) (w64 (Aa + 1)) else some (decide (Ab ≤ 12))
def Qdr (fu:Nat)  (r1:Request):Nat → Int → Int → Option (Bool)
  | 0=>λ_ _=>none
  | n + 1=>Qji fu r1 (Qdr fu r1 n)
def Qjc (fu:Nat)  (r1:Request) (k6:Int → Option (Bool)) (Aa:Int):Option (Bool) :=
  bif (decide (Aa < (r1.fT.length:Int))) then Qac (ix r1.fT Aa) λAc=>Qac (Qrx fu Ac) λAb=>bif (!Ab) then some (false) else k6 (w64 (Aa + 1)) else Qdr fu r1 fu 0 0
def Qdn (fu:Nat)  (r1:Request):Nat → Int → Option (Bool)
  | 0=>λ_=>none
  | n + 1=>Qjc fu r1 (Qdn fu r1 n)
def Qjy (fu:Nat)  (r1:Request) (k4:Int → Option (Bool)) (Aa:Int):Option (Bool) :=
  bif (decide (Aa < (r1.fL.length:Int))) then Qac (ix r1.fL Aa) λAb=>Qac (Qar fu Ab.fA 0 3) λAd=>bif (!Ad) then some (false) else Qac (ix r1.fL Aa) λAe=>Qac (Qar fu Ab.fB 0 3) λAc=>bif (!Ac) then some (false) else Qm9 fu k4 Aa else Qdn fu r1 fu 0
def Qdt (fu:Nat)  (r1:Request):Nat → Int → Option (Bool)
  | 0=>λ_=>none
  | n + 1=>Qjy fu r1 (Qdt fu r1 n)
def Qnl (fu:Nat) (r1:Request)  : Option (Bool) :=
  Qdt fu r1 fu 0
def Qob (fu:Nat) (r1:Request):Option (Bool) :=
  Qac (Qar fu r1.qQ 0 1) λAe=>bif (!Ae) then some (false) else Qac (Qg3 fu r1.fJ) λAb=>bif (!Ab) then some (false) else Qac (Qar fu r1.fR 1 4) λAd=>bif (!Ad) then some (false) else bif (decide ((r1.fL.length:Int) > 16)) then some (false) else Qac (Qar fu (r1.fT.length:Int) 1 5) λAa=>bif (!Aa) then some (false) else Qac (Qon fu r1.fP) λAc=>bif (!Ac) then some (false) else bif (decide ((r1.fG.length:Int) > 8)) then some (false) else Qnl fu r1
def Qju (fu:Nat)  (r1:Request) (k1:Int → Option (Typ × Bool)) (Aa:Int):Option (Typ × Bool) :=
  bif (decide (Aa < (r1.fT.length:Int))) then Qac (ix r1.fT Aa) λAb=>bif (Ab.f8 == r1.fP) then Qac (ix r1.fT Aa) λAc=>some (Ab,true) else k1 (w64 (Aa + 1)) else some ((⟨0,0,0,0,0,0,0⟩:Typ),false)
def Qfr (fu:Nat)  (r1:Request):Nat → Int → Option (Typ × Bool)
  | 0=>λ_=>none
  | n + 1=>Qju fu r1 (Qfr fu r1 n)
def Qfl (fu:Nat) (r1:Request):Option (Typ × Bool) :=
  Qfr fu r1 fu 0
def Qlv (fu:Nat) (k3:Int → Option (Bool)) (r1:Request) (Ab:Int) (k4:Int → Option (Bool)) (Aa:Int):Option (Bool) :=
  bif (decide (Aa < Ab)) then Qac (ix r1.fT Ab) λAd=>Qac (ix r1.fT Aa) λAc=>bif (Ad.f8 == Ac.f8) then some (false) else k4 (w64 (Aa + 1)) else k3 (w64 (Ab + 1))
def Qd6 (fu:Nat) (k3:Int → Option (Bool)) (r1:Request) (Aa:Int):Nat → Int → Option (Bool)
  | 0=>λ_=>none
  | n + 1=>Qlv fu k3 r1 Aa (Qd6 fu k3 r1 Aa n)
def Qlp (fu:Nat) (k7:Int → Option (Bool)) (r1:Request) (Ab:Int) (k8:Int → Option (Bool)) (Aa:Int):Option (Bool) :=
  bif (decide (Aa < Ab)) then Qac (ix r1.fG Ab) λAd=>Qac (ix r1.fG Aa) λAc=>bif (Ad.f8 == Ac.f8) then some (false) else k8 (w64 (Aa + 1)) else k7 (w64 (Ab + 1))
def Qec (fu:Nat) (k7:Int → Option (Bool)) (r1:Request) (Aa:Int):Nat → Int → Option (Bool)
  | 0=>λ_=>none
  | n + 1=>Qlp fu k7 r1 Aa (Qec fu k7 r1 Aa n)
def Qpi (fu:Nat) (Aa:Int → Option (Bool)) (Ab:Int)  : Option (Bool) :=
  Aa (w64 (Ab + 1))
def Qmg (fu:Nat)  (r1:Request) (Ac:Int → Option (Bool)) (Aa:Int):Option (Bool) :=
  bif (decide (Aa < (r1.fL.length:Int))) then Qac (ix r1.fL Aa) λAb=>bif (decide (Ab.fA ≥ r1.fR)) then some (false) else Qac (ix r1.fL Aa) λAe=>bif (decide (Ab.fB ≥ r1.fR)) then some (false) else Qpi fu Ac Aa else Qac (Qfl fu r1) λAd=>some (Ad.2)
def Qdd (fu:Nat)  (r1:Request):Nat → Int → Option (Bool)
  | 0=>λ_=>none
  | n + 1=>Qmg fu r1 (Qdd fu r1 n)
def Qlw (fu:Nat)  (r1:Request) (k7:Int → Option (Bool)) (Aa:Int):Option (Bool) :=
  bif (decide (Aa < (r1.fG.length:Int))) then Qac (ix r1.fG Aa) λAb=>bif (decide (Ab.fF ≥ r1.fR)) then some (false) else Qec fu k7 r1 Aa fu 0 else Qdd fu r1 fu 0
def Qbk (fu:Nat)  (r1:Request):Nat → Int → Option (Bool)
  | 0=>λ_=>none
  | n + 1=>Qlw fu r1 (Qbk fu r1 n)
def Qkz (fu:Nat)  (r1:Request) (k3:Int → Option (Bool)) (Aa:Int):Option (Bool) :=
  bif (decide (Aa < (r1.fT.length:Int))) then Qd6 fu k3 r1 Aa fu 0 else Qbk fu r1 fu 0
def Qbr (fu:Nat)  (r1:Request):Nat → Int → Option (Bool)
  | 0=>λ_=>none
  | n + 1=>Qkz fu r1 (Qbr fu r1 n)
def Qp4 (fu:Nat) (r1:Request):Option (Bool) :=
  Qbr fu r1 fu 0
def Qmq (fu:Nat) (k3:Int → Option (Bool)) (Aa:Int)  : Option (Bool) :=
  k3 (w64 (Aa + 1))
def Qn5 (fu:Nat)  (Ab:List Pair) (a5:Int) (b6:Int) (k3:Int → Option (Bool)) (Aa:Int):Option (Bool) :=
  bif (decide (Aa < (Ab.length:Int))) then Qac (ix Ab Aa) λAc=>bif (Ac.fA == a5) then Qac (ix Ab Aa) λAd=>bif (Ac.fB == b6) then some (true) else Qmq fu k3 Aa else Qmq fu k3 Aa else some (false)
def Qf1 (fu:Nat)  (Aa:List Pair) (a5:Int) (b6:Int):Nat → Int → Option (Bool)
  | 0=>λ_=>none
  | n + 1=>Qn5 fu Aa a5 b6 (Qf1 fu Aa a5 b6 n)
def Qfs (fu:Nat) (Aa:List Pair) (a5:Int) (b6:Int):Option (Bool) :=
  Qf1 fu Aa a5 b6 fu 0
def Qko (fu:Nat) (Ab:Int → Option (Bool)) (Aa:Int)  : Option (Bool) :=
  Ab (w64 (Aa + 1))
def Qlc (fu:Nat) (k9:Int → Option (Bool)) (Ac:List Pair) (Aj:Int) (Ab:Int) (Ad:Int → Option (Bool)) (Aa:Int):Option (Bool) :=
  bif (decide (Aa < Aj)) then bif (Ab == Aa) then Qac (Qfs fu Ac Ab Ab) λAh=>bif (!Ah) then some (false) else Qac (Qfs fu Ac Ab Aa) λAi=>Qac (Qfs fu Ac Aa Ab) λAe=>bif (!(Ai == Ae)) then some (false) else Qko fu Ad Aa else Qac (Qfs fu Ac Ab Aa) λAg=>Qac (Qfs fu Ac Aa Ab) λAf=>bif (!(Ag == Af)) then some (false) else Qko fu Ad Aa else k9 (w64 (Ab + 1))
def Qee (fu:Nat) (k9:Int → Option (Bool)) (Ac:List Pair) (Aa:Int) (Ab:Int):Nat → Int → Option (Bool)
  | 0=>λ_=>none
  | n + 1=>Qlc fu k9 Ac Aa Ab (Qee fu k9 Ac Aa Ab n)
def Qk3 (fu:Nat)  (Ac:List Pair) (Aa:Int) (k9:Int → Option (Bool)) (Ab:Int):Option (Bool) :=
  bif (decide (Ab < Aa)) then Qee fu k9 Ac Aa Ab fu 0 else some (true)
def Qdh (fu:Nat)  (Ab:List Pair) (Aa:Int):Nat → Int → Option (Bool)
  | 0=>λ_=>none
  | n + 1=>Qk3 fu Ab Aa (Qdh fu Ab Aa n)
def Qpz (fu:Nat) (Ab:List Pair) (Aa:Int):Option (Bool) :=
  Qac (Qar fu Aa 1 4) λx6=>bif (!x6) then some (false) else Qdh fu Ab Aa fu 0
def Qjp (fu:Nat)  (n1:Int) (k1:List Int → Int → Option ((List Int))) (Ab:List Int) (Aa:Int):Option ((List Int)) :=
  bif (decide (Aa < n1)) then Qac (Qhx 8 Ab (([Aa]:List Int))) λAc=>k1 Ac (w64 (Aa + 1)) else some (Ab)
def Qfj (fu:Nat)  (n1:Int):Nat → List Int → Int → Option ((List Int))
  | 0=>λ_ _=>none
  | n + 1=>Qjp fu n1 (Qfj fu n1 n)
def Qj5 (fu:Nat) (n1:Int):Option ((List Int)) :=
  Qfj fu n1 fu (([]:List Int)) 0
def Qhw (fu:Nat) (k3:List Int → Int → Int → Option ((List Int))) (Ag:List Int) (Ai:Bool) (Ac:(List Int)) (Ae:(List Int)) (Ad:List Int) (Aa:Int) (Ab:Int)  : Option ((List Int)) :=
  bif (Ab == (Ae.length:Int)) then Qac (ix Ac Aa) λAq=>Qac (Qhx 8 Ad (([Aq]:List Int))) λAw=>k3 Aw (w64 (Aa + 1)) Ab else bif (Aa == (Ac.length:Int)) then Qac (ix Ae Ab) λAt=>Qac (Qhx 8 Ad (([At]:List Int))) λAl=>k3 Al Aa (w64 (Ab + 1)) else Qac (ix Ae Ab) λAh=>Qac (ix Ag Ah) λAk=>Qac (ix Ac Aa) λAf=>Qac (ix Ag Af) λAj=>bif (decide (Ak < Aj)) then bif (!Ai) then Qac (ix Ae Ab) λBj=>Qac (Qhx 8 Ad (([Ah]:List Int))) λAo=>k3 Ao Aa (w64 (Ab + 1)) else Qac (ix Ae Ab) λAy=>Qac (ix Ag Ah) λBd=>Qac (ix Ac Aa) λBe=>Qac (ix Ag Af) λAz=>bif (decide (Ak > Aj)) then bif Ai then Qac (ix Ae Ab) λBl=>Qac (Qhx 8 Ad (([Ah]:List Int))) λAm=>k3 Am Aa (w64 (Ab + 1)) else Qac (ix Ac Aa) λBi=>Qac (Qhx 8 Ad (([Af]:List Int))) λAp=>k3 Ap (w64 (Aa + 1)) Ab else Qac (ix Ac Aa) λBk=>Qac (Qhx 8 Ad (([Af]:List Int))) λAs=>k3 As (w64 (Aa + 1)) Ab else Qac (ix Ae Ab) λBa=>Qac (ix Ag Ah) λAx=>Qac (ix Ac Aa) λBc=>Qac (ix Ag Af) λBg=>bif (decide (Ak > Aj)) then bif Ai then Qac (ix Ae Ab) λBh=>Qac (Qhx 8 Ad (([Ah]:List Int))) λAu=>k3 Au Aa (w64 (Ab + 1)) else Qac (ix Ac Aa) λBf=>Qac (Qhx 8 Ad (([Af]:List Int))) λAv=>k3 Av (w64 (Aa + 1)) Ab else Qac (ix Ac Aa) λBb=>Qac (Qhx 8 Ad (([Af]:List Int))) λAr=>k3 Ar (w64 (Aa + 1)) Ab
def Ql9 (fu:Nat)  (Ag:List Int) (Af:Bool) (Aa:(List Int)) (Ab:(List Int)) (k3:List Int → Int → Int → Option ((List Int))) (Ad:List Int) (Ae:Int) (Ac:Int):Option ((List Int)) :=
  bif (decide (Ae < (Aa.length:Int))) then Qhw fu k3 Ag Af Aa Ab Ad Ae Ac else bif (decide (Ac < (Ab.length:Int))) then Qhw fu k3 Ag Af Aa Ab Ad Ae Ac else some (Ad)
def Qcl (fu:Nat)  (Ad:List Int) (Aa:Bool) (Ac:(List Int)) (Ab:(List Int)):Nat → List Int → Int → Int → Option ((List Int))
  | 0=>λ_ _ _=>none
  | n + 1=>Ql9 fu Ad Aa Ac Ab (Qcl fu Ad Aa Ac Ab n)
def Qsi (fu:Nat) (self:List Int → List Int → Bool → Option ((List Int))) (Ac:List Int) (Aa:List Int) (Ab:Bool):Option ((List Int)) :=
  bif (decide ((Aa.length:Int) < 2)) then Qac (Qhx 8 (([]:List Int)) Aa) λAg=>some (Ag) else Qac (sls Aa 0 (w64 (Int.tdiv (Aa.length:Int) 2))) λAh=>Qac (self Ac Ah Ab) λAd=>Qac (sls Aa (w64 (Int.tdiv (Aa.length:Int) 2)) (Aa.length:Int)) λAe=>Qac (self Ac Ae Ab) λAf=>Qcl fu Ac Ab Ad Af fu (([]:List Int)) 0 0
def Qik (fu:Nat):Nat → List Int → List Int → Bool → Option ((List Int))
  | 0=>λ_ _ _=>none
  | n + 1=>Qsi fu (Qik fu n)
def Qpp (fu:Nat) (Ac:List Int) (Ab:List Int) (Aa:Bool):Option ((List Int)):=Qik fu fu Ac Ab Aa
def Qpd (fu:Nat) (Aa:List Int):Option ((List Int)) :=
  Qac (Qj5 fu (Aa.length:Int)) λx5=>Qac (Qpp fu Aa x5 false) λAb=>some (Ab)
def Qm3 (fu:Nat) (Aa:Int) (h2:Int) (d3:Int):Option ((List Int)) :=
  Qac (Qpd fu (([Aa,h2,d3]:List Int))) λx9=>Qac (ix x9 0) λAe=>Qac (ix (([Aa,h2,d3]:List Int)) Ae) λAf=>Qac (ix x9 1) λAd=>Qac (ix (([Aa,h2,d3]:List Int)) Ad) λAg=>Qac (ix x9 2) λAc=>Qac (ix (([Aa,h2,d3]:List Int)) Ac) λAb=>some (([Af,Ag,Ab]:List Int))
def Qq0 (fu:Nat) (x1:Item) (t2:Typ):Option (Bool) :=
  Qac (Qm3 fu x1.fW x1.fH x1.fD) λAb=>Qac (Qm3 fu t2.fW t2.fH t2.fD) λAa=>Qac (ix Ab 0) λAc=>Qac (ix Aa 0) λAh=>bif (decide (Ac ≤ Ah)) then Qac (ix Ab 1) λAd=>Qac (ix Aa 1) λAe=>bif (decide (Ad ≤ Ae)) then Qac (ix Ab 2) λAg=>Qac (ix Aa 2) λAf=>bif (decide (Ag ≤ Af)) then some (decide (x1.fV ≤ t2.fV)) else some (false) else some (false) else some (false)
def Qrh (fu:Nat) (k4:Int → Option (Int)) (Aa:Int)  : Option (Int) :=
  k4 (w64 (Aa + 1))
def Qo2 (fu:Nat)  (r1:Request) (k4:Int → Option (Int)) (Ab:Int):Option (Int) :=
  bif (decide (Ab < (r1.fT.length:Int))) then Qac (ix r1.fT Ab) λAa=>bif (decide (Aa.fW > r1.fJ.fW)) then some (6) else bif (decide (Aa.fD > r1.fJ.fD)) then some (6) else bif (decide (Aa.fH > r1.fJ.fH)) then some (6) else bif (decide ((w64 (Aa.f7 + Aa.fV)) > r1.fJ.fV)) then some (6) else Qrh fu k4 Ab else some (0)
def Qfn (fu:Nat)  (r1:Request):Nat → Int → Option (Int)
  | 0=>λ_=>none
  | n + 1=>Qo2 fu r1 (Qfn fu r1 n)
def Qo7 (fu:Nat)  (r1:Request) (Ab:Typ × Bool) (k1:Int → Option (Int)) (Aa:Int):Option (Int) :=
  bif (decide (Aa < (r1.fG.length:Int))) then Qac (ix r1.fG Aa) λAd=>Qac (Qq0 fu Ad Ab.1) λAc=>bif (!Ac) then some (5) else k1 (w64 (Aa + 1)) else Qfn fu r1 fu 0
def Qg2 (fu:Nat)  (r1:Request) (Aa:Typ × Bool):Nat → Int → Option (Int)
  | 0=>λ_=>none
  | n + 1=>Qo7 fu r1 Aa (Qg2 fu r1 Aa n)
def Qep (fu:Nat) (r1:Request):Option (Int) :=
  Qac (Qob fu r1) λAc=>bif (!Ac) then some (2) else Qac (Qp4 fu r1) λAa=>bif (!Aa) then some (3) else Qac (Qpz fu r1.fL r1.fR) λAd=>bif (!Ad) then some (4) else Qac (Qfl fu r1) λAb=>Qg2 fu r1 Ab fu 0
def Qmr (fu:Nat) (k3:List Item → Int → Option (Request × Cur)) (Aa:Int) (Ab:List Item):Option (Request × Cur) :=
  k3 Ab (w64 (Aa + 1))
def Qn3 (fu:Nat)  (c1:Cur) (Aa:Request × Cur) (Ae:Typ × Bool) (k3:List Item → Int → Option (Request × Cur)) (Ac:List Item) (Ab:Int):Option (Request × Cur) :=
  bif (decide (Ab < (Aa.1.fG.length:Int))) then Qac (ix Aa.1.fG Ab) λAd=>Qac (Qq0 fu Ad Ae.1) λAg=>bif Ag then Qac (ix Aa.1.fG Ab) λAh=>Qac (Qhx 56 Ac (([Ad]:List Item))) λAf=>Qmr fu k3 Ab Af else Qmr fu k3 Ab Ac else some ((⟨Aa.1.qQ,(⟨30,25,24,400⟩:Pallet),Aa.1.fR,Aa.1.fL,Aa.1.fT,Aa.1.fP,Ac⟩:Request),(⟨c1.fb,Aa.2.fi,Aa.2.fh⟩:Cur))
def Qf4 (fu:Nat)  (c1:Cur) (Aa:Request × Cur) (Ab:Typ × Bool):Nat → List Item → Int → Option (Request × Cur)
  | 0=>λ_ _=>none
  | n + 1=>Qn3 fu c1 Aa Ab (Qf4 fu c1 Aa Ab n)
def Qrl (fu:Nat) (c1:Cur):Option (Request × Cur) :=
  Qac (Qm5 fu c1) λAa=>Qac (Qep fu Aa.1) λAb=>bif (Ab != 0) then Qac (Qfl fu ((⟨Aa.1.qQ,(⟨30,25,24,400⟩:Pallet),Aa.1.fR,Aa.1.fL,Aa.1.fT,Aa.1.fP,Aa.1.fG⟩:Request))) λAc=>Qf4 fu c1 Aa Ac fu (([]:List Item)) 0 else some (Aa.1,(⟨c1.fb,Aa.2.fi,Aa.2.fh⟩:Cur))
def Qbe (fu:Nat) (c1:Cur) (Aa:Request × Cur) (Af:Int) (Ai:Int) (Ad:Int) (Ah:Int) (Ab:List Pair) (Ak:List Typ) (Ag:Int) (Ae:List Item) (Ac:Int) (Aj:Int):Option (Request × Cur) :=
  some ((⟨Af,(⟨Ai,Aa.1.fJ.fD,Aa.1.fJ.fH,Ad⟩:Pallet),Ah,Ab,Ak,Ag,Ae⟩:Request),(⟨c1.fb,Ac,Aj⟩:Cur))
def Qrj (fu:Nat) (c1:Cur):Option (Request × Cur) :=
  Qac (Qm5 fu c1) λAa=>Qac (Qbt fu (⟨c1.fb,Aa.2.fi,Aa.2.fh⟩:Cur) (([(-1),0,2001,100001,1000,9223372036854775807]:List Int))) λAc=>Qac (Qao fu (⟨c1.fb,Ac.2.fi,Ac.2.fh⟩:Cur) 20) λAb=>bif (Ab.1 == 0) then Qac (Qbt fu (⟨c1.fb,Ab.2.fi,Ab.2.fh⟩:Cur) (([(-1),2]:List Int))) λAh=>Qbe fu c1 Aa Ah.1 Aa.1.fJ.fW Aa.1.fJ.fV Aa.1.fR Aa.1.fL Aa.1.fT Aa.1.fP Aa.1.fG Ah.2.fi Ah.2.fh else bif (Ab.1 == 1) then Qbe fu c1 Aa Aa.1.qQ Ac.1 Aa.1.fJ.fV Aa.1.fR Aa.1.fL Aa.1.fT Aa.1.fP Aa.1.fG Ab.2.fi Ab.2.fh else bif (Ab.1 == 2) then Qbe fu c1 Aa Aa.1.qQ Aa.1.fJ.fW Ac.1 Aa.1.fR Aa.1.fL Aa.1.fT Aa.1.fP Aa.1.fG Ab.2.fi Ab.2.fh else bif (Ab.1 == 3) then Qac (Qbt fu (⟨c1.fb,Ab.2.fi,Ab.2.fh⟩:Cur) (([0,5,1]:List Int))) λAj=>Qbe fu c1 Aa Aa.1.qQ Aa.1.fJ.fW Aa.1.fJ.fV Aj.1 Aa.1.fL Aa.1.fT Aa.1.fP Aa.1.fG Aj.2.fi Aj.2.fh else bif (Ab.1 == 4) then Qac (Qao fu (⟨c1.fb,Ab.2.fi,Ab.2.fh⟩:Cur) 6) λAe=>Qac (Qao fu (⟨c1.fb,Ae.2.fi,Ae.2.fh⟩:Cur) 4) λAf=>Qac (Qhx 16 Aa.1.fL (([(⟨w64 (Ae.1 - 1),Af.1⟩:Pair)]:List Pair))) λAr=>Qbe fu c1 Aa Aa.1.qQ Aa.1.fJ.fW Aa.1.fJ.fV Aa.1.fR Ar Aa.1.fT Aa.1.fP Aa.1.fG Af.2.fi Af.2.fh else bif (Ab.1 == 5) then Qac (ix Aa.1.fT 0) λAq=>Qbe fu c1 Aa Aa.1.qQ Aa.1.fJ.fW Aa.1.fJ.fV Aa.1.fR Aa.1.fL (Qge Aa.1.fT 0 ({ Aq with fH:=Ac.1 })) Aa.1.fP Aa.1.fG Ab.2.fi Ab.2.fh else bif (Ab.1 == 6) then Qac (Qao fu (⟨c1.fb,Ab.2.fi,Ab.2.fh⟩:Cur) (Aa.1.fT.length:Int)) λAd=>Qac (ix Aa.1.fT Ad.1) λAm=>Qbe fu c1 Aa Aa.1.qQ Aa.1.fJ.fW Aa.1.fJ.fV Aa.1.fR Aa.1.fL (Qge Aa.1.fT Ad.1 ({ Am with fV:=Ac.1 })) Aa.1.fP Aa.1.fG Ad.2.fi Ad.2.fh else bif (Ab.1 == 7) then Qac (Qbt fu (⟨c1.fb,Ab.2.fi,Ab.2.fh⟩:Cur) (([8,(-1),1000]:List Int))) λAk=>Qbe fu c1 Aa Aa.1.qQ Aa.1.fJ.fW Aa.1.fJ.fV Aa.1.fR Aa.1.fL Aa.1.fT Ak.1 Aa.1.fG Ak.2.fi Ak.2.fh else bif (Ab.1 == 8) then Qac (Qao fu (⟨c1.fb,Ab.2.fi,Ab.2.fh⟩:Cur) 5) λAg=>Qac (Qao fu (⟨c1.fb,Ag.2.fi,Ag.2.fh⟩:Cur) 8) λAi=>Qac (Qhx 56 Aa.1.fG (([(⟨3,1,2,3,4,Ag.1,Ai.1⟩:Item)]:List Item))) λAp=>Qbe fu c1 Aa Aa.1.qQ Aa.1.fJ.fW Aa.1.fJ.fV Aa.1.fR Aa.1.fL Aa.1.fT Aa.1.fP Ap Ai.2.fi Ai.2.fh else bif (Ab.1 == 9) then bif (decide ((Aa.1.fG.length:Int) > 0)) then Qac (ix Aa.1.fG 0) λAt=>Qbe fu c1 Aa Aa.1.qQ Aa.1.fJ.fW Aa.1.fJ.fV Aa.1.fR Aa.1.fL Aa.1.fT Aa.1.fP (Qge Aa.1.fG 0 ({ At with fD:=Ac.1 })) Ab.2.fi Ab.2.fh else Qbe fu c1 Aa Aa.1.qQ Aa.1.fJ.fW Aa.1.fJ.fV Aa.1.fR Aa.1.fL Aa.1.fT Aa.1.fP Aa.1.fG Ab.2.fi Ab.2.fh else bif (Ab.1 == 10) then bif (decide ((Aa.1.fL.length:Int) > 0)) then Qac (sls Aa.1.fL 1 (Aa.1.fL.length:Int)) λAs=>Qbe fu c1 Aa Aa.1.qQ Aa.1.fJ.fW Aa.1.fJ.fV Aa.1.fR As Aa.1.fT Aa.1.fP Aa.1.fG Ab.2.fi Ab.2.fh else Qbe fu c1 Aa Aa.1.qQ Aa.1.fJ.fW Aa.1.fJ.fV Aa.1.fR Aa.1.fL Aa.1.fT Aa.1.fP Aa.1.fG Ab.2.fi Ab.2.fh else bif (Ab.1 == 11) then Qac (ix Aa.1.fT 0) λAl=>Qac (Qhx 56 Aa.1.fT (([Al]:List Typ))) λAo=>Qbe fu c1 Aa Aa.1.qQ Aa.1.fJ.fW Aa.1.fJ.fV Aa.1.fR Aa.1.fL Ao Aa.1.fP Aa.1.fG Ab.2.fi Ab.2.fh else bif (Ab.1 == 12) then Qbe fu c1 Aa Aa.1.qQ Aa.1.fJ.fW Aa.1.fJ.fV Aa.1.fR Aa.1.fL (([]:List Typ)) Aa.1.fP Aa.1.fG Ab.2.fi Ab.2.fh else Qbe fu c1 Aa Aa.1.qQ Aa.1.fJ.fW Aa.1.fJ.fV Aa.1.fR Aa.1.fL Aa.1.fT Aa.1.fP Aa.1.fG Ab.2.fi Ab.2.fh
def Qmm (fu:Nat) (Ab:List U8):Option (Request) :=
  Qac (Qok fu Ab) λx8=>Qac (Qiu fu (⟨Ab,x8.fi,x8.fh⟩:Cur) 2) λAa=>bif Aa.1 then Qac (Qrl fu (⟨Ab,Aa.2.fi,Aa.2.fh⟩:Cur)) λAc=>some (Ac.1) else Qac (Qrj fu (⟨Ab,Aa.2.fi,Aa.2.fh⟩:Cur)) λAd=>some (Ad.1)
def Qkt (fu:Nat) (Ac:List Int → Int → Option ((List Int))) (Aa:Int) (Ab:List Int):Option ((List Int)) :=
  Ac Ab (w64 (Aa + 1))
def Qkl (fu:Nat) (Ab:Bool → Int → Option ((List Int))) (Aa:Int) (Ac:Bool):Option ((List Int)) :=
  Ab Ac (w64 (Aa + 1))
def Qlg (fu:Nat) (Ac:List Int → Int → Option ((List Int))) (r1:Request) (Ad:List Int) (Ab:Int) (Ae:Bool → Int → Option ((List Int))) (Af:Bool) (Aa:Int):Option ((List Int)) :=
  bif (decide (Aa < (r1.fG.length:Int))) then bif Af then Qkl fu Ae Aa true else Qac (ix r1.fG Aa) λAg=>Qkl fu Ae Aa (Ag.fF == Ab) else bif Af then Qac (Qhx 8 Ad (([Ab]:List Int))) λAh=>Qkt fu Ac Ab Ah else Qkt fu Ac Ab Ad
def Qd8 (fu:Nat) (Ac:List Int → Int → Option ((List Int))) (r1:Request) (Ab:List Int) (Aa:Int):Nat → Bool → Int → Option ((List Int))
  | 0=>λ_ _=>none
  | n + 1=>Qlg fu Ac r1 Ab Aa (Qd8 fu Ac r1 Ab Aa n)
def Qk2 (fu:Nat)  (r1:Request) (Ac:List Int → Int → Option ((List Int))) (Ab:List Int) (Aa:Int):Option ((List Int)) :=
  bif (decide (Aa < 4)) then Qd8 fu Ac r1 Ab Aa fu false 0 else some (Ab)
def Qdc (fu:Nat)  (r1:Request):Nat → List Int → Int → Option ((List Int))
  | 0=>λ_ _=>none
  | n + 1=>Qk2 fu r1 (Qdc fu r1 n)
def Qpq (fu:Nat) (r1:Request):Option ((List Int)) :=
  Qac (Qep fu r1) λAa=>bif (Aa != 0) then some (([]:List Int)) else Qdc fu r1 fu (([]:List Int)) 0
def Qpe (fu:Nat)  (Ab:List Int) (x5:Int) (k1:Int → Option (Bool)) (Aa:Int):Option (Bool) :=
  bif (decide (Aa < (Ab.length:Int))) then Qac (ix Ab Aa) λAc=>bif (Ac == x5) then some (true) else k1 (w64 (Aa + 1)) else some (false)
def Qh2 (fu:Nat)  (Aa:List Int) (x5:Int):Nat → Int → Option (Bool)
  | 0=>λ_=>none
  | n + 1=>Qpe fu Aa x5 (Qh2 fu Aa x5 n)
def Qov (fu:Nat) (Aa:List Int) (x5:Int):Option (Bool) :=
  Qh2 fu Aa x5 fu 0
def Qpm (fu:Nat) (k3:Int → Option (Bool)) (Aa:Int)  : Option (Bool) :=
  k3 (w64 (Aa + 1))
def Ql4 (fu:Nat)  (Ad:List Pair) (Ab:List Int) (Ac:Int) (k3:Int → Option (Bool)) (Aa:Int):Option (Bool) :=
  bif (decide (Aa < (Ab.length:Int))) then Qac (ix Ab Aa) λAe=>Qac (Qfs fu Ad Ae Ac) λAg=>bif (!Ag) then some (false) else Qac (ix Ab Aa) λAh=>Qac (Qfs fu Ad Ac Ae) λAf=>bif (!Af) then some (false) else Qpm fu k3 Aa else some (true)
def Qe9 (fu:Nat)  (Ac:List Pair) (Aa:List Int) (Ab:Int):Nat → Int → Option (Bool)
  | 0=>λ_=>none
  | n + 1=>Ql4 fu Ac Aa Ab (Qe9 fu Ac Aa Ab n)
def Qp9 (fu:Nat) (Ac:List Pair) (Aa:List Int) (Ab:Int):Option (Bool) :=
  Qe9 fu Ac Aa Ab fu 0
def Qhb (fu:Nat) (Ac:List (List Int) → Int → Option ((List (List Int)))) (Ab:Int) (Aa:List (List Int)):Option ((List (List Int))) :=
  Ac Aa (w64 (Ab + 1))
def Qmw (fu:Nat) (Ac:Int → Int → Option ((List (List Int)))) (Ab:Int) (Aa:Int):Option ((List (List Int))) :=
  Ac Aa (w64 (Ab - 1))
def Qnx (fu:Nat) (Ae:List (List Int) → Int → Option ((List (List Int)))) (Ai:List Pair) (Ad:List (List Int)) (Ab:Int) (Af:Int → Int → Option ((List (List Int)))) (Aa:Int) (Ac:Int):Option ((List (List Int))) :=
  bif (decide (Ac ≥ 0)) then Qac (ix Ad Ac) λAj=>Qac (Qp9 fu Ai Aj Ab) λAg=>bif Ag then Qmw fu Af Ac Ac else Qmw fu Af Ac Aa else bif (decide (Aa < 0)) then Qac (Qhx 24 Ad [([Ab]:List Int)]) λAh=>Qhb fu Ae Ab Ah else Qac (ix Ad Aa) λAk=>Qac (Qhx 8 Ak (([Ab]:List Int))) λAl=>Qac (ix Ad Aa) λAm=>Qhb fu Ae Ab (Qge Ad Aa Al)
def Qew (fu:Nat) (Ad:List (List Int) → Int → Option ((List (List Int)))) (Aa:List Pair) (Ab:List (List Int)) (Ac:Int):Nat → Int → Int → Option ((List (List Int)))
  | 0=>λ_ _=>none
  | n + 1=>Qnx fu Ad Aa Ab Ac (Qew fu Ad Aa Ab Ac n)
def Qnk (fu:Nat)  (Ae:List Pair) (Af:List Int) (Ac:List (List Int) → Int → Option ((List (List Int)))) (Ab:List (List Int)) (Aa:Int):Option ((List (List Int))) :=
  bif (decide (Aa < 4)) then Qac (Qov fu Af Aa) λAd=>bif (!Ad) then Qhb fu Ac Aa Ab else Qew fu Ac Ae Ab Aa fu ((-1)) (w64 ((Ab.length:Int) - 1)) else some (Ab)
def Qd4 (fu:Nat)  (Ab:List Pair) (Aa:List Int):Nat → List (List Int) → Int → Option ((List (List Int)))
  | 0=>λ_ _=>none
  | n + 1=>Qnk fu Ab Aa (Qd4 fu Ab Aa n)
def Qr7 (fu:Nat) (Ab:List Pair) (Aa:List Int):Option ((List (List Int))) :=
  Qd4 fu Ab Aa fu (([]:List (List Int))) 0
def Qg0 (fu:Nat) (r1:Request):Option ((List (List Int))) :=
  Qac (Qpq fu r1) λAa=>Qac (Qr7 fu r1.fL Aa) λAb=>some (Ab)
def Qln (fu:Nat) (k3:List Int → Int → Option ((List Int))) (r1:Request) (Aa:Int) (k4:List Int → Int → Option ((List Int))) (Ab:List Int) (Ac:Int):Option ((List Int)) :=
  Qac (ix r1.fG Aa) λAd=>bif (decide (Ac < Ad.f0)) then Qac (Qhx 8 Ab (([Aa]:List Int))) λAe=>k4 Ae (w64 (Ac + 1)) else k3 Ab (w64 (Aa + 1))
def Qgk (fu:Nat) (k3:List Int → Int → Option ((List Int))) (r1:Request) (Aa:Int):Nat → List Int → Int → Option ((List Int))
  | 0=>λ_ _=>none
  | n + 1=>Qln fu k3 r1 Aa (Qgk fu k3 r1 Aa n)
def Ql7 (fu:Nat)  (r1:Request) (k3:List Int → Int → Option ((List Int))) (Ab:List Int) (Aa:Int):Option ((List Int)) :=
  bif (decide (Aa < (r1.fG.length:Int))) then Qgk fu k3 r1 Aa fu Ab 0 else some (Ab)
def Qd7 (fu:Nat)  (r1:Request):Nat → List Int → Int → Option ((List Int))
  | 0=>λ_ _=>none
  | n + 1=>Ql7 fu r1 (Qd7 fu r1 n)
def Qcg (fu:Nat) (r1:Request):Option ((List Int)) :=
  Qd7 fu r1 fu (([]:List Int)) 0
def Qj9 (fu:Nat) (k3:List Int → Int → Option ((List Int))) (Ab:Int) (Aa:List Int):Option ((List Int)) :=
  k3 Aa (w64 (Ab + 1))
def Qlr (fu:Nat)  (r1:Request) (Ah:Int) (Af:(List (List Int))) (Ac:(List Int)) (k3:List Int → Int → Option ((List Int))) (Ab:List Int) (Aa:Int):Option ((List Int)) :=
  bif (decide (Aa < (Ac.length:Int))) then Qac (ix Af Ah) λAi=>Qac (ix Ac Aa) λAj=>Qac (ix r1.fG Aj) λAg=>Qac (Qov fu Ai Ag.fF) λAd=>bif Ad then Qac (Qhx 8 Ab (([Aa]:List Int))) λAe=>Qj9 fu k3 Aa Ae else Qj9 fu k3 Aa Ab else some (Ab)
def Qfg (fu:Nat)  (r1:Request) (Ac:Int) (Ab:(List (List Int))) (Aa:(List Int)):Nat → List Int → Int → Option ((List Int))
  | 0=>λ_ _=>none
  | n + 1=>Qlr fu r1 Ac Ab Aa (Qfg fu r1 Ac Ab Aa n)
def Qp8 (fu:Nat) (r1:Request) (Ab:Int):Option ((List Int)) :=
  Qac (Qg0 fu r1) λAa=>Qac (Qar fu Ab 0 (w64 ((Aa.length:Int) - 1))) λAd=>bif (!Ad) then some (([]:List Int)) else Qac (Qcg fu r1) λAc=>Qfg fu r1 Ab Aa Ac fu (([]:List Int)) 0
def Qj6 (fu:Nat) (k3:List Int → Int → Option ((List Int))) (Ab:Int) (Aa:List Int):Option ((List Int)) :=
  k3 Aa (w64 (Ab + 1))
def Qmc (fu:Nat)  (Ae:List Int) (Ab:List Int) (k3:List Int → Int → Option ((List Int))) (Ac:List Int) (Aa:Int):Option ((List Int)) :=
  bif (decide (Aa < (Ab.length:Int))) then Qac (ix Ab Aa) λAd=>Qac (Qar fu Ad 0 (w64 ((Ae.length:Int) - 1))) λAf=>bif Af then Qac (ix Ab Aa) λAh=>Qac (Qhx 8 Ac (([Ad]:List Int))) λAg=>Qj6 fu k3 Aa Ag else Qj6 fu k3 Aa Ac else some (Ac)
def Qe5 (fu:Nat)  (Ab:List Int) (Aa:List Int):Nat → List Int → Int → Option ((List Int))
  | 0=>λ_ _=>none
  | n + 1=>Qmc fu Ab Aa (Qe5 fu Ab Aa n)
def Qm2 (fu:Nat) (Ab:List Int) (Aa:List Int):Option ((List Int)) :=
  Qe5 fu Ab Aa fu (([]:List Int)) 0
def Qir (fu:Nat) (r1:Request) (Aa:List Int) (u9:Int):Option (Item × Bool) :=
  Qac (Qar fu u9 0 (w64 ((Aa.length:Int) - 1))) λAd=>bif (!Ad) then some ((⟨0,0,0,0,0,0,0⟩:Item),false) else Qac (ix Aa u9) λAb=>Qac (ix r1.fG Ab) λAc=>some (Ac,true)
def Qqk (fu:Nat) (Aa:Int) (h2:Int) (d3:Int)  : Option (Int) :=
  some (w64 ((w64 (Aa * h2)) * d3))
def Ql3 (fu:Nat) (Aa:Int) (h2:Int) (d3:Int):Option (Int) :=
  Qac (Qar fu Aa 0 2000) λAc=>bif (!Ac) then some (0) else Qac (Qar fu h2 0 2000) λAd=>bif (!Ad) then some (0) else Qac (Qar fu d3 0 2000) λAb=>bif (!Ab) then some (0) else Qqk fu Aa h2 d3
def Qss (fu:Nat) (k7:L7 → Int → Option (L7)) (Aa:Int) (Ab:L7):Option (L7) :=
  k7 Ab (w64 (Aa + 1))
def Qsn (fu:Nat) (k7:L7 → Int → Option (L7)) (Ab:L7) (Ad:Int) (Aa:Item):Option (L7) :=
  Qac (Ql3 fu Aa.fW Aa.fH Aa.fD) λAc=>Qss fu k7 Ad (⟨w64 (Ab.fvol + Ac),w64 (Ab.fgram + Aa.fV)⟩:L7)
def Qqj (fu:Nat)  (r1:Request) (Af:List Int) (Ab:List Int) (k7:L7 → Int → Option (L7)) (Ac:L7) (Aa:Int):Option (L7) :=
  bif (decide (Aa < (Ab.length:Int))) then Qac (ix Ab Aa) λAd=>Qac (Qir fu r1 Af Ad) λAe=>Qsn fu k7 Ac Aa Ae.1 else some (Ac)
def Qgu (fu:Nat)  (r1:Request) (Ab:List Int) (Aa:List Int):Nat → L7 → Int → Option (L7)
  | 0=>λ_ _=>none
  | n + 1=>Qqj fu r1 Ab Aa (Qgu fu r1 Ab Aa n)
def Qqx (fu:Nat) (r1:Request) (Ab:List Int) (Aa:List Int):Option (L7) :=
  Qgu fu r1 Ab Aa fu (⟨0,0⟩:L7) 0
def Qqi (fu:Nat) (m9:Typ) (Aa:L7):Option (Bool) :=
  Qac (Ql3 fu m9.fW m9.fH m9.fD) λAb=>bif (decide (Aa.fvol ≤ Ab)) then some (decide (Aa.fgram ≤ m9.fV)) else some (false)
def Qo1 (fu:Nat) (r1:Request) (Af:List Int) (m9:Typ) (Aa:List Int) (Ad:Int):Option (Bool) :=
  Qac (Qhx 8 (([]:List Int)) Aa) λAb=>Qac (Qhx 8 Ab (([Ad]:List Int))) λAe=>Qac (Qqx fu r1 Af Ae) λAc=>Qqi fu m9 Ac
def Qij (fu:Nat) (k3:List (List Int) → Int → Option ((List (List Int)))) (Ab:Int) (Aa:List (List Int)):Option ((List (List Int))) :=
  k3 Aa (w64 (Ab + 1))
def Qno (fu:Nat)  (r1:Request) (Ac:List Int) (Ak:Typ × Bool) (Ai:(List Int)) (k3:List (List Int) → Int → Option ((List (List Int)))) (Aa:List (List Int)) (Ab:Int):Option ((List (List Int))) :=
  bif (decide (Ab < (Ac.length:Int))) then bif (decide ((Aa.length:Int) > 0)) then Qac (ix Aa (w64 ((Aa.length:Int) - 1))) λAe=>Qac (ix Ac Ab) λAd=>Qac (Qo1 fu r1 Ai Ak.1 Ae Ad) λAj=>bif Aj then Qac (ix Aa (w64 ((Aa.length:Int) - 1))) λAp=>Qac (ix Ac Ab) λAm=>Qac (Qhx 8 Ae (([Ad]:List Int))) λAf=>Qac (ix Aa (w64 ((Aa.length:Int) - 1))) λAq=>Qij fu k3 Ab (Qge Aa (w64 ((Aa.length:Int) - 1)) Af) else Qac (ix Ac Ab) λAo=>Qac (Qhx 24 Aa [([Ad]:List Int)]) λAg=>Qij fu k3 Ab Ag else Qac (ix Ac Ab) λAh=>Qac (Qhx 24 Aa [([Ah]:List Int)]) λAl=>Qij fu k3 Ab Al else some (Aa)
def Qf3 (fu:Nat)  (r1:Request) (Ac:List Int) (Ab:Typ × Bool) (Aa:(List Int)):Nat → List (List Int) → Int → Option ((List (List Int)))
  | 0=>λ_ _=>none
  | n + 1=>Qno fu r1 Ac Ab Aa (Qf3 fu r1 Ac Ab Aa n)
def Qta (fu:Nat) (r1:Request) (Ac:List Int):Option ((List (List Int))) :=
  Qac (Qfl fu r1) λAb=>Qac (Qcg fu r1) λAa=>Qf3 fu r1 Ac Ab Aa fu (([]:List (List Int))) 0
def Qpt (fu:Nat) (r1:Request) (Ad:List Int):Option ((List (List Int))) :=
  Qac (Qep fu r1) λAe=>bif (Ae != 0) then some (([]:List (List Int))) else Qac (Qcg fu r1) λAb=>Qac (Qm2 fu Ab Ad) λAa=>Qac (Qta fu r1 Aa) λAc=>some (Ac)
def Qgz (fu:Nat) (Aa:List Int):Option ((List Int)) :=
  Qac (Qj5 fu (Aa.length:Int)) λx5=>Qac (Qpp fu Aa x5 true) λAb=>some (Ab)
def Qks (fu:Nat) (Aa:List (List Int) → Int → Option ((List (List Int)))) (Ac:Int) (Ab:List (List Int)):Option ((List (List Int))) :=
  Aa Ab (w64 (Ac + 1))
def Qkf (fu:Nat) (Ac:Int → Int → Option ((List (List Int)))) (Ab:Int) (Aa:Int):Option ((List (List Int))) :=
  Ac Aa (w64 (Ab - 1))
def Qlt (fu:Nat) (Ag:List (List Int) → Int → Option ((List (List Int)))) (r1:Request) (Am:Typ × Bool) (Aj:(List Int)) (Ac:List (List Int)) (Ae:Int) (Ad:Int) (Af:Int → Int → Option ((List (List Int)))) (Aa:Int) (Ab:Int):Option ((List (List Int))) :=
  bif (decide (Ab ≥ 0)) then Qac (ix Ac Ab) λAi=>Qac (Qo1 fu r1 Aj Am.1 Ai Ad) λAh=>bif Ah then Qkf fu Af Ab Ab else Qkf fu Af Ab Aa else bif (decide (Aa < 0)) then Qac (Qhx 24 Ac [([Ad]:List Int)]) λAk=>Qks fu Ag Ae Ak else Qac (ix Ac Aa) λAl=>Qac (Qhx 8 Al (([Ad]:List Int))) λAo=>Qac (ix Ac Aa) λAp=>Qks fu Ag Ae (Qge Ac Aa Ao)
def Qe6 (fu:Nat) (Ac:List (List Int) → Int → Option ((List (List Int)))) (r1:Request) (Ae:Typ × Bool) (Ab:(List Int)) (Ad:List (List Int)) (Af:Int) (Aa:Int):Nat → Int → Int → Option ((List (List Int)))
  | 0=>λ_ _=>none
  | n + 1=>Qlt fu Ac r1 Ae Ab Ad Af Aa (Qe6 fu Ac r1 Ae Ab Ad Af Aa n)
def Qk4 (fu:Nat)  (r1:Request) (Ah:List Int) (Ai:Typ × Bool) (Af:(List Int)) (Ac:(List Int)) (Ag:List (List Int) → Int → Option ((List (List Int)))) (Aa:List (List Int)) (Ab:Int):Option ((List (List Int))) :=
  bif (decide (Ab < (Ac.length:Int))) then Qac (ix Ac Ab) λAe=>Qac (ix Ah Ae) λAd=>Qe6 fu Ag r1 Ai Af Aa Ab Ad fu ((-1)) (w64 ((Aa.length:Int) - 1)) else some (Aa)
def Qcj (fu:Nat)  (r1:Request) (Ac:List Int) (Ab:Typ × Bool) (Aa:(List Int)) (Ad:(List Int)):Nat → List (List Int) → Int → Option ((List (List Int)))
  | 0=>λ_ _=>none
  | n + 1=>Qk4 fu r1 Ac Ab Aa Ad (Qcj fu r1 Ac Ab Aa Ad n)
def Qmi (fu:Nat)  (r1:Request) (Ab:List Int) (Ah:Typ × Bool) (Ac:(List Int)) (k1:List Int → Int → Option ((List (List Int)))) (Ad:List Int) (Aa:Int):Option ((List (List Int))) :=
  bif (decide (Aa < (Ab.length:Int))) then Qac (sls Ab Aa (w64 (Aa + 1))) λAi=>Qac (Qqx fu r1 Ac Ai) λAe=>Qac (Qhx 8 Ad (([Ae.fvol]:List Int))) λAg=>k1 Ag (w64 (Aa + 1)) else Qac (Qgz fu Ad) λAf=>Qcj fu r1 Ab Ah Ac Af fu (([]:List (List Int))) 0
def Qgi (fu:Nat)  (r1:Request) (Ac:List Int) (Ab:Typ × Bool) (Aa:(List Int)):Nat → List Int → Int → Option ((List (List Int)))
  | 0=>λ_ _=>none
  | n + 1=>Qmi fu r1 Ac Ab Aa (Qgi fu r1 Ac Ab Aa n)
def Qso (fu:Nat) (r1:Request) (Ac:List Int):Option ((List (List Int))) :=
  Qac (Qfl fu r1) λAb=>Qac (Qcg fu r1) λAa=>Qgi fu r1 Ac Ab Aa fu (([]:List Int)) 0
def Qoh (fu:Nat) (r1:Request) (Ad:List Int):Option ((List (List Int))) :=
  Qac (Qep fu r1) λAe=>bif (Ae != 0) then some (([]:List (List Int))) else Qac (Qcg fu r1) λAb=>Qac (Qm2 fu Ab Ad) λAa=>Qac (Qso fu r1 Aa) λAc=>some (Ac)
def Qpr (fu:Nat) (r1:Request) (Aa:List Int):Option ((List (List Int))) :=
  bif (r1.qQ == 1) then Qac (Qpt fu r1 Aa) λAb=>some (Ab) else Qac (Qoh fu r1 Aa) λAc=>some (Ac)
def Qr0 (fu:Nat) (r1:Request) (Ac:List Int) (t9:Typ) (Ab:(List Int))  : Option (Bool) :=
  Qac (Qqx fu r1 Ab Ac) λAa=>Qac (Ql3 fu t9.fW t9.fH t9.fD) λAd=>bif (decide (Aa.fvol ≤ Ad)) then some (decide (Aa.fgram ≤ t9.fV)) else some (false)
def Qrk (fu:Nat) (Ab:Int → Option (Bool)) (Aa:Int)  : Option (Bool) :=
  Ab (w64 (Aa + 1))
def Qrv (fu:Nat) (Aa:Int → Option (Bool)) (t9:Typ) (Ac:Int) (Ad:Item) (Ab:Bool):Option (Bool) :=
  bif (!Ab) then some (false) else Qac (Qq0 fu Ad t9) λAe=>bif (!Ae) then some (false) else Qrk fu Aa Ac
def Qo9 (fu:Nat)  (r1:Request) (Ab:List Int) (t9:Typ) (Ac:(List Int)) (Af:Int → Option (Bool)) (Aa:Int):Option (Bool) :=
  bif (decide (Aa < (Ab.length:Int))) then Qac (ix Ab Aa) λAe=>Qac (Qir fu r1 Ac Ae) λAd=>Qrv fu Af t9 Aa Ad.1 Ad.2 else Qr0 fu r1 Ab t9 Ac
def Qfk (fu:Nat)  (r1:Request) (Ab:List Int) (t9:Typ) (Aa:(List Int)):Nat → Int → Option (Bool)
  | 0=>λ_=>none
  | n + 1=>Qo9 fu r1 Ab t9 Aa (Qfk fu r1 Ab t9 Aa n)
def Qq2 (fu:Nat) (r1:Request) (Ab:List Int) (t9:Typ):Option (Bool) :=
  Qac (Qep fu r1) λAc=>bif (Ac != 0) then some (false) else Qac (Qcg fu r1) λAa=>Qfk fu r1 Ab t9 Aa fu 0
def Qdq (fu:Nat) (k3:Typ → Bool → Int → Option (Typ × Bool)) (Ac:Int) (Aa:Typ) (Ab:Bool):Option (Typ × Bool) :=
  k3 Aa Ab (w64 (Ac + 1))
def Qjv (fu:Nat)  (r1:Request) (Af:List Int) (k3:Typ → Bool → Int → Option (Typ × Bool)) (Ab:Typ) (Ad:Bool) (Aa:Int):Option (Typ × Bool) :=
  bif (decide (Aa < (r1.fT.length:Int))) then Qac (ix r1.fT Aa) λAc=>Qac (Qq2 fu r1 Af Ac) λAe=>bif (!Ae) then Qdq fu k3 Aa Ab Ad else bif (!Ad) then Qdq fu k3 Aa Ac true else bif (decide (Ac.fK < Ab.fK)) then Qdq fu k3 Aa Ac true else bif (Ac.fK == Ab.fK) then bif (decide (Ac.f8 < Ab.f8)) then Qdq fu k3 Aa Ac true else Qdq fu k3 Aa Ab Ad else Qdq fu k3 Aa Ab Ad else some (Ab,Ad)
def Qeq (fu:Nat)  (r1:Request) (Aa:List Int):Nat → Typ → Bool → Int → Option (Typ × Bool)
  | 0=>λ_ _ _=>none
  | n + 1=>Qjv fu r1 Aa (Qeq fu r1 Aa n)
def Qkb (fu:Nat) (r1:Request) (Aa:List Int):Option (Typ × Bool) :=
  Qeq fu r1 Aa fu (⟨0,0,0,0,0,0,0⟩:Typ) false 0
def Qk7 (fu:Nat) (Aa:List Carton → Int → Option ((List Carton))) (Ab:Int) (Ac:List Carton):Option ((List Carton)) :=
  Aa Ac (w64 (Ab + 1))
def Qh7 (fu:Nat) (Ac:List Carton → Int → Option ((List Carton))) (Ab:Int) (Aa:List Carton):Option ((List Carton)) :=
  Ac Aa (w64 (Ab + 1))
def Qi4 (fu:Nat) (Am:List Carton → Int → Option ((List Carton))) (Ae:Int) (Ag:(List (List Int))) (Ap:List Carton) (Ac:Int) (Aj:Typ) (Ab:(List Int)) (Ai:List Int → Int → Option ((List Carton))) (Ad:List Int) (Aa:Int):Option ((List Carton)) :=
  bif (decide (Aa < (Ab.length:Int))) then Qac (ix Ag Ac) λAk=>Qac (ix Ab Aa) λAh=>Qac (ix Ak Ah) λAf=>Qac (Qhx 8 Ad (([Af]:List Int))) λAo=>Ai Ao (w64 (Aa + 1)) else Qac (Qhx 40 Ap [(⟨Aj.f8,Ae,Ad⟩:Carton)]) λAl=>Qh7 fu Am Ac Al
def Qez (fu:Nat) (Af:List Carton → Int → Option ((List Carton))) (Aa:Int) (Ac:(List (List Int))) (Ag:List Carton) (Ad:Int) (Ae:Typ) (Ab:(List Int)):Nat → List Int → Int → Option ((List Carton))
  | 0=>λ_ _=>none
  | n + 1=>Qi4 fu Af Aa Ac Ag Ad Ae Ab (Qez fu Af Aa Ac Ag Ad Ae Ab n)
def Ql0 (fu:Nat) (Ag:List Carton → Int → Option ((List Carton))) (Ac:Int) (Aa:(List (List Int))) (Ah:List Carton) (Ab:Int) (Ae:Typ):Option ((List Carton)) :=
  Qac (ix Aa Ab) λAf=>Qac (Qpd fu Af) λAd=>Qez fu Ag Ac Aa Ah Ab Ae Ad fu (([]:List Int)) 0
def Qi1 (fu:Nat) (Ae:List Carton → Int → Option ((List Carton))) (r1:Request) (Ac:Int) (Aa:(List (List Int))) (Ag:List Carton → Int → Option ((List Carton))) (Ad:List Carton) (Ab:Int):Option ((List Carton)) :=
  bif (decide (Ab < (Aa.length:Int))) then Qac (ix Aa Ab) λAf=>Qac (Qkb fu r1 Af) λAh=>Ql0 fu Ag Ac Aa Ad Ab Ah.1 else Qk7 fu Ae Ac Ad
def Qb0 (fu:Nat) (Aa:List Carton → Int → Option ((List Carton))) (r1:Request) (Ab:Int) (Ac:(List (List Int))):Nat → List Carton → Int → Option ((List Carton))
  | 0=>λ_ _=>none
  | n + 1=>Qi1 fu Aa r1 Ab Ac (Qb0 fu Aa r1 Ab Ac n)
def Qis (fu:Nat)  (r1:Request) (Af:(List (List Int))) (Ac:List Carton → Int → Option ((List Carton))) (Ab:List Carton) (Aa:Int):Option ((List Carton)) :=
  bif (decide (Aa < (Af.length:Int))) then Qac (Qp8 fu r1 Aa) λAe=>Qac (Qpr fu r1 Ae) λAd=>Qb0 fu Ac r1 Aa Ad fu Ab 0 else some (Ab)
def Qbd (fu:Nat)  (r1:Request) (Aa:(List (List Int))):Nat → List Carton → Int → Option ((List Carton))
  | 0=>λ_ _=>none
  | n + 1=>Qis fu r1 Aa (Qbd fu r1 Aa n)
def Qmv (fu:Nat) (r1:Request):Option ((List Carton)) :=
  Qac (Qg0 fu r1) λAa=>Qbd fu r1 Aa fu (([]:List Carton)) 0
def Qjj (fu:Nat)  (r1:Request) (Ac:Int) (k1:Int → Option (Typ × Bool)) (Aa:Int):Option (Typ × Bool) :=
  bif (decide (Aa < (r1.fT.length:Int))) then Qac (ix r1.fT Aa) λAb=>bif (Ab.f8 == Ac) then Qac (ix r1.fT Aa) λAd=>some (Ab,true) else k1 (w64 (Aa + 1)) else some ((⟨0,0,0,0,0,0,0⟩:Typ),false)
def Qfy (fu:Nat)  (r1:Request) (Aa:Int):Nat → Int → Option (Typ × Bool)
  | 0=>λ_=>none
  | n + 1=>Qjj fu r1 Aa (Qfy fu r1 Aa n)
def Qh8 (fu:Nat) (r1:Request) (Aa:Int):Option (Typ × Bool) :=
  Qfy fu r1 Aa fu 0
def Qsw (fu:Nat) (r1:Request):Option ((List Int)) :=
  Qac (Qep fu r1) λAa=>bif (Aa != 0) then some (([]:List Int)) else Qac (Qcg fu r1) λAb=>some (Ab)
def Qqm (fu:Nat) (k7:Int → Int → Option (Int)) (Aa:Int) (Ab:Int):Option (Int) :=
  k7 Ab (w64 (Aa + 1))
def Qql (fu:Nat) (k7:Int → Int → Option (Int)) (Aa:Int) (Ab:Int) (Ac:Item):Option (Int) :=
  Qqm fu k7 Ab (w64 (Aa + Ac.fV))
def Qm8 (fu:Nat)  (r1:Request) (Ab:List Int) (Af:(List Int)) (k7:Int → Int → Option (Int)) (Ac:Int) (Aa:Int):Option (Int) :=
  bif (decide (Aa < (Ab.length:Int))) then Qac (ix Ab Aa) λAe=>Qac (Qir fu r1 Af Ae) λAd=>Qql fu k7 Ac Aa Ad.1 else some (Ac)
def Qeu (fu:Nat)  (r1:Request) (Ab:List Int) (Aa:(List Int)):Nat → Int → Int → Option (Int)
  | 0=>λ_ _=>none
  | n + 1=>Qm8 fu r1 Ab Aa (Qeu fu r1 Ab Aa n)
def Qse (fu:Nat) (r1:Request) (Ab:List Int):Option (Int) :=
  Qac (Qsw fu r1) λAa=>Qeu fu r1 Ab Aa fu 0 0
def Qr5 (fu:Nat) (r1:Request) (x5:Carton) (Aa:Typ × Bool)  : Option (Int) :=
  Qac (Qse fu r1 x5.fM) λAb=>some (w64 (Aa.1.f7 + Ab))
def Qq8 (fu:Nat) (r1:Request) (x5:Carton):Option (Int) :=
  Qac (Qh8 fu r1 x5.fO) λAa=>Qac (Qep fu r1) λAb=>bif (Ab != 0) then some (0) else bif (!Aa.2) then some (0) else Qr5 fu r1 x5 Aa
def Qsa (fu:Nat) (r1:Request) (x5:Carton) (Aa:Typ × Bool)  : Option (Box) :=
  Qac (Qq8 fu r1 x5) λAb=>some (⟨Aa.1.fW,Aa.1.fD,Aa.1.fH,Ab⟩:Box)
def Qi8 (fu:Nat) (r1:Request) (x5:Carton):Option (Box) :=
  Qac (Qh8 fu r1 x5.fO) λAa=>Qac (Qep fu r1) λAb=>bif (Ab != 0) then some (⟨0,0,0,0⟩:Box) else bif (!Aa.2) then some (⟨0,0,0,0⟩:Box) else Qsa fu r1 x5 Aa
def Qpb (fu:Nat) (k3:Int → Option (Bool)) (Aa:Int)  : Option (Bool) :=
  k3 (w64 (Aa + 1))
def Qlo (fu:Nat)  (p1:Pallet) (Ac:List Box) (k3:Int → Option (Bool)) (Ab:Int):Option (Bool) :=
  bif (decide (Ab < (Ac.length:Int))) then Qac (ix Ac Ab) λAa=>Qac (Qar fu Aa.fW 1 p1.fW) λAd=>bif (!Ad) then some (false) else Qac (Qar fu Aa.fD 1 p1.fD) λAe=>bif (!Ae) then some (false) else Qac (Qar fu Aa.fH 1 p1.fH) λAf=>bif (!Af) then some (false) else Qac (Qar fu Aa.fV 1 p1.fV) λAg=>bif (!Ag) then some (false) else Qpb fu k3 Ab else some (true)
def Qe4 (fu:Nat)  (p1:Pallet) (Aa:List Box):Nat → Int → Option (Bool)
  | 0=>λ_=>none
  | n + 1=>Qlo fu p1 Aa (Qe4 fu p1 Aa n)
def Qm6 (fu:Nat) (p1:Pallet) (Aa:List Box):Option (Bool) :=
  Qac (Qg3 fu p1) λAb=>bif (!Ab) then some (false) else Qe4 fu p1 Aa fu 0
def Qky (fu:Nat) (a1:Int) (b2:Int):Option (Int) :=
  bif (decide (a1 > b2)) then some (a1) else some (b2)
def Qgt (fu:Nat) (Aa:Shelf) (Ae:Int) (b6:Box):Option (Shelf) :=
  Qac (Qhx 8 (([]:List Int)) Aa.qJ) λAf=>Qac (Qhx 8 Af (([Ae]:List Int))) λAb=>Qac (Qky fu Aa.fD b6.fD) λAc=>Qac (Qky fu Aa.fH b6.fH) λAd=>some (⟨Ab,w64 (Aa.fW + b6.fW),Ac,Ad,w64 (Aa.fV + b6.fV)⟩:Shelf)
def Qgp (fu:Nat) (k4:List Shelf → Int → Option ((List Shelf))) (Aa:Int) (Ab:List Shelf):Option ((List Shelf)) :=
  k4 Ab (w64 (Aa + 1))
def Qk9 (fu:Nat)  (p1:Pallet) (Ak:List Box) (Ac:(List Int)) (k4:List Shelf → Int → Option ((List Shelf))) (Aa:List Shelf) (Ab:Int):Option ((List Shelf)) :=
  bif (decide (Ab < (Ac.length:Int))) then Qac (ix Ac Ab) λAe=>Qac (ix Ak Ae) λAd=>bif (decide ((Aa.length:Int) > 0)) then Qac (ix Aa (w64 ((Aa.length:Int) - 1))) λAf=>bif (decide ((w64 (Af.fW + Ad.fW)) ≤ p1.fW)) then Qac (ix Aa (w64 ((Aa.length:Int) - 1))) λAr=>bif (decide ((w64 (Af.fV + Ad.fV)) ≤ p1.fV)) then Qac (ix Aa (w64 ((Aa.length:Int) - 1))) λAq=>Qac (ix Ac Ab) λAp=>Qac (Qgt fu Af Ae Ad) λAl=>Qac (ix Aa (w64 ((Aa.length:Int) - 1))) λAs=>Qgp fu k4 Ab (Qge Aa (w64 ((Aa.length:Int) - 1)) Al) else Qac (ix Ac Ab) λAu=>Qac (Qgt fu (⟨[],0,0,0,0⟩:Shelf) Ae Ad) λAo=>Qac (Qhx 56 Aa [Ao]) λAi=>Qgp fu k4 Ab Ai else Qac (ix Ac Ab) λAt=>Qac (Qgt fu (⟨[],0,0,0,0⟩:Shelf) Ae Ad) λAj=>Qac (Qhx 56 Aa [Aj]) λAm=>Qgp fu k4 Ab Am else Qac (ix Ac Ab) λAv=>Qac (Qgt fu (⟨[],0,0,0,0⟩:Shelf) Ae Ad) λAg=>Qac (Qhx 56 Aa [Ag]) λAh=>Qgp fu k4 Ab Ah else some (Aa)
def Qed (fu:Nat)  (p1:Pallet) (Aa:List Box) (Ab:(List Int)):Nat → List Shelf → Int → Option ((List Shelf))
  | 0=>λ_ _=>none
  | n + 1=>Qk9 fu p1 Aa Ab (Qed fu p1 Aa Ab n)
def Qlj (fu:Nat)  (p1:Pallet) (Aa:List Box) (k1:List Int → Int → Option ((List Shelf))) (Ac:List Int) (Ab:Int):Option ((List Shelf)) :=
  bif (decide (Ab < (Aa.length:Int))) then Qac (ix Aa Ab) λAf=>Qac (Qhx 8 Ac (([Af.fD]:List Int))) λAe=>k1 Ae (w64 (Ab + 1)) else Qac (Qgz fu Ac) λAd=>Qed fu p1 Aa Ad fu (([]:List Shelf)) 0
def Qgf (fu:Nat)  (p1:Pallet) (Aa:List Box):Nat → List Int → Int → Option ((List Shelf))
  | 0=>λ_ _=>none
  | n + 1=>Qlj fu p1 Aa (Qgf fu p1 Aa n)
def Qpu (fu:Nat) (p1:Pallet) (Aa:List Box):Option ((List Shelf)) :=
  Qac (Qm6 fu p1 Aa) λAb=>bif (!Ab) then some (([]:List Shelf)) else Qgf fu p1 Aa fu (([]:List Int)) 0
def Qq1 (fu:Nat) (p1:Pallet) (d2:Int) (h3:Int) (Ac:Int):Option (Bool) :=
  Qac (Qar fu d2 1 p1.fD) λx8=>bif x8 then Qac (Qar fu h3 1 p1.fH) λAb=>bif Ab then Qac (Qar fu Ac 1 p1.fV) λAa=>some (Aa) else some (false) else some (false)
def Qiv (fu:Nat)  (p1:Pallet) (Ab:List Shelf) (k1:Int → Option (Bool)) (Aa:Int):Option (Bool) :=
  bif (decide (Aa < (Ab.length:Int))) then Qac (ix Ab Aa) λAc=>Qac (ix Ab Aa) λAf=>Qac (ix Ab Aa) λAe=>Qac (Qq1 fu p1 Ac.fD Ac.fH Ac.fV) λAd=>bif (!Ad) then some (false) else k1 (w64 (Aa + 1)) else some (true)
def Qey (fu:Nat)  (p1:Pallet) (Aa:List Shelf):Nat → Int → Option (Bool)
  | 0=>λ_=>none
  | n + 1=>Qiv fu p1 Aa (Qey fu p1 Aa n)
def Qmx (fu:Nat) (p1:Pallet) (Aa:List Shelf):Option (Bool) :=
  Qac (Qg3 fu p1) λAb=>bif (!Ab) then some (false) else Qey fu p1 Aa fu 0
def Qnu (fu:Nat) (k7:List Layer → Int → Option ((List Layer))) (Aa:Int) (Ab:List Layer):Option ((List Layer)) :=
  k7 Ab (w64 (Aa + 1))
def Qcy (fu:Nat) (k7:List Layer → Int → Option ((List Layer))) (Ae:Int) (Ad:Shelf) (Ab:List Layer) (Ac:Int):Option ((List Layer)) :=
  Qac (ix Ab (w64 (Ac - 1))) λAa=>Qac (Qhx 8 (([]:List Int)) Aa.f9) λAh=>Qac (Qhx 8 Ah (([Ae]:List Int))) λAf=>Qac (Qky fu Aa.fH Ad.fH) λAg=>Qac (ix Ab (w64 (Ac - 1))) λAi=>Qnu fu k7 Ae (Qge Ab (w64 (Ac - 1)) (⟨Af,w64 (Aa.fD + Ad.fD),Ag,w64 (Aa.fV + Ad.fV)⟩:Layer))
def Qj1 (fu:Nat)  (p1:Pallet) (Ad:List Shelf) (k7:List Layer → Int → Option ((List Layer))) (Aa:List Layer) (Ab:Int):Option ((List Layer)) :=
  bif (decide (Ab < (Ad.length:Int))) then Qac (ix Ad Ab) λAc=>bif ((Aa.length:Int) == 0) then Qac (Qhx 48 Aa [(⟨[],0,0,0⟩:Layer)]) λAg=>Qcy fu k7 Ab Ac Ag (w64 ((Aa.length:Int) + 1)) else Qac (ix Aa (w64 ((Aa.length:Int) - 1))) λAe=>bif (decide ((w64 (Ae.fD + Ac.fD)) > p1.fD)) then Qac (Qhx 48 Aa [(⟨[],0,0,0⟩:Layer)]) λAh=>Qcy fu k7 Ab Ac Ah (w64 ((Aa.length:Int) + 1)) else Qac (ix Aa (w64 ((Aa.length:Int) - 1))) λAi=>bif (decide ((w64 (Ae.fV + Ac.fV)) > p1.fV)) then Qac (Qhx 48 Aa [(⟨[],0,0,0⟩:Layer)]) λAf=>Qcy fu k7 Ab Ac Af (w64 ((Aa.length:Int) + 1)) else Qcy fu k7 Ab Ac Aa (Aa.length:Int) else some (Aa)
def Qbi (fu:Nat)  (p1:Pallet) (Aa:List Shelf):Nat → List Layer → Int → Option ((List Layer))
  | 0=>λ_ _=>none
  | n + 1=>Qj1 fu p1 Aa (Qbi fu p1 Aa n)
def Qof (fu:Nat) (p1:Pallet) (Aa:List Shelf):Option ((List Layer)) :=
  Qac (Qmx fu p1 Aa) λAb=>bif (!Ab) then some (([]:List Layer)) else Qbi fu p1 Aa fu (([]:List Layer)) 0
def Qjs (fu:Nat)  (p1:Pallet) (Ab:List Layer) (k1:Int → Option (Bool)) (Aa:Int):Option (Bool) :=
  bif (decide (Aa < (Ab.length:Int))) then Qac (ix Ab Aa) λAc=>Qac (ix Ab Aa) λAf=>Qac (ix Ab Aa) λAe=>Qac (Qq1 fu p1 Ac.fD Ac.fH Ac.fV) λAd=>bif (!Ad) then some (false) else k1 (w64 (Aa + 1)) else some (true)
def Qfw (fu:Nat)  (p1:Pallet) (Aa:List Layer):Nat → Int → Option (Bool)
  | 0=>λ_=>none
  | n + 1=>Qjs fu p1 Aa (Qfw fu p1 Aa n)
def Qoj (fu:Nat) (p1:Pallet) (Aa:List Layer):Option (Bool) :=
  Qac (Qg3 fu p1) λAb=>bif (!Ab) then some (false) else Qfw fu p1 Aa fu 0
def Qpj (fu:Nat) (k7:List Load → Int → Option ((List Load))) (Ab:Int) (Aa:List Load):Option ((List Load)) :=
  k7 Aa (w64 (Ab + 1))
def Qde (fu:Nat) (k7:List Load → Int → Option ((List Load))) (Ad:Int) (Ae:Layer) (Ac:List Load) (Ab:Int):Option ((List Load)) :=
  Qac (ix Ac (w64 (Ab - 1))) λAa=>Qac (Qhx 8 (([]:List Int)) Aa.ft) λAg=>Qac (Qhx 8 Ag (([Ad]:List Int))) λAf=>Qac (ix Ac (w64 (Ab - 1))) λAh=>Qpj fu k7 Ad (Qge Ac (w64 (Ab - 1)) (⟨Af,w64 (Aa.fH + Ae.fH),w64 (Aa.fV + Ae.fV)⟩:Load))
def Qma (fu:Nat)  (p1:Pallet) (Ad:List Layer) (k7:List Load → Int → Option ((List Load))) (Aa:List Load) (Ab:Int):Option ((List Load)) :=
  bif (decide (Ab < (Ad.length:Int))) then Qac (ix Ad Ab) λAc=>bif ((Aa.length:Int) == 0) then Qac (Qhx 40 Aa [(⟨[],0,0⟩:Load)]) λAh=>Qde fu k7 Ab Ac Ah (w64 ((Aa.length:Int) + 1)) else Qac (ix Aa (w64 ((Aa.length:Int) - 1))) λAe=>bif (decide ((w64 (Ae.fH + Ac.fH)) > p1.fH)) then Qac (Qhx 40 Aa [(⟨[],0,0⟩:Load)]) λAg=>Qde fu k7 Ab Ac Ag (w64 ((Aa.length:Int) + 1)) else Qac (ix Aa (w64 ((Aa.length:Int) - 1))) λAi=>bif (decide ((w64 (Ae.fV + Ac.fV)) > p1.fV)) then Qac (Qhx 40 Aa [(⟨[],0,0⟩:Load)]) λAf=>Qde fu k7 Ab Ac Af (w64 ((Aa.length:Int) + 1)) else Qde fu k7 Ab Ac Aa (Aa.length:Int) else some (Aa)
def Qbs (fu:Nat)  (p1:Pallet) (Aa:List Layer):Nat → List Load → Int → Option ((List Load))
  | 0=>λ_ _=>none
  | n + 1=>Qma fu p1 Aa (Qbs fu p1 Aa n)
def Qpw (fu:Nat) (p1:Pallet) (Aa:List Layer):Option ((List Load)) :=
  Qac (Qoj fu p1 Aa) λAb=>bif (!Ab) then some (([]:List Load)) else Qbs fu p1 Aa fu (([]:List Load)) 0
def Qlk (fu:Nat) (Ai:List Spot → Int → Int → Option ((List Spot))) (Aj:List Box) (Am:Int) (Ak:Int) (Af:Int) (Al:Int) (Ab:Shelf) (Ag:List Spot → Int → Int → Option ((List Spot))) (Ad:List Spot) (Ae:Int) (Aa:Int):Option ((List Spot)) :=
  bif (decide (Aa < (Ab.qJ.length:Int))) then Qac (ix Ab.qJ Aa) λAc=>Qac (ix Ad Ac) λAp=>Qac (ix Ab.qJ Aa) λAo=>Qac (ix Aj Ac) λAh=>Ag (Qge Ad Ac (⟨Am,Ae,Af,Ak⟩:Spot)) (w64 (Ae + Ah.fW)) (w64 (Aa + 1)) else Ai Ad (w64 (Af + Ab.fD)) (w64 (Al + 1))
def Qgl (fu:Nat) (Ab:List Spot → Int → Int → Option ((List Spot))) (Aa:List Box) (Ag:Int) (Ae:Int) (Ac:Int) (Af:Int) (Ad:Shelf):Nat → List Spot → Int → Int → Option ((List Spot))
  | 0=>λ_ _ _=>none
  | n + 1=>Qlk fu Ab Aa Ag Ae Ac Af Ad (Qgl fu Ab Aa Ag Ae Ac Af Ad n)
def Qk1 (fu:Nat) (Al:List Spot → Int → Int → Option ((List Spot))) (Ae:List Box) (Ak:(List Shelf)) (Am:Int) (Ad:Int) (Ag:Int) (Ab:Layer) (Af:List Spot → Int → Int → Option ((List Spot))) (Ac:List Spot) (Ai:Int) (Aa:Int):Option ((List Spot)) :=
  bif (decide (Aa < (Ab.f9.length:Int))) then Qac (ix Ab.f9 Aa) λAj=>Qac (ix Ak Aj) λAh=>Qgl fu Af Ae Am Ad Ai Aa Ah fu Ac 0 0 else Al Ac (w64 (Ad + Ab.fH)) (w64 (Ag + 1))
def Qdg (fu:Nat) (Af:List Spot → Int → Int → Option ((List Spot))) (Aa:List Box) (Ae:(List Shelf)) (Ag:Int) (Ad:Int) (Ab:Int) (Ac:Layer):Nat → List Spot → Int → Int → Option ((List Spot))
  | 0=>λ_ _ _=>none
  | n + 1=>Qk1 fu Af Aa Ae Ag Ad Ab Ac (Qdg fu Af Aa Ae Ag Ad Ab Ac n)
def Qmf (fu:Nat) (Ai:List Spot → Int → Option ((List Spot))) (Ag:List Box) (Al:(List Shelf)) (Af:(List Layer)) (Ae:(List Load)) (Aa:Int) (Am:List Spot → Int → Int → Option ((List Spot))) (Ad:List Spot) (Ak:Int) (Ab:Int):Option ((List Spot)) :=
  Qac (ix Ae Aa) λAc=>bif (decide (Ab < (Ac.ft.length:Int))) then Qac (ix Ae Aa) λAo=>Qac (ix Ac.ft Ab) λAh=>Qac (ix Af Ah) λAj=>Qdg fu Am Ag Al Aa Ak Ab Aj fu Ad 0 0 else Ai Ad (w64 (Aa + 1))
def Qb9 (fu:Nat) (Ad:List Spot → Int → Option ((List Spot))) (Ab:List Box) (Ae:(List Shelf)) (Aa:(List Layer)) (Ac:(List Load)) (Af:Int):Nat → List Spot → Int → Int → Option ((List Spot))
  | 0=>λ_ _ _=>none
  | n + 1=>Qmf fu Ad Ab Ae Aa Ac Af (Qb9 fu Ad Ab Ae Aa Ac Af n)
def Qlz (fu:Nat)  (Ae:List Box) (Ag:(List Shelf)) (Ad:(List Layer)) (Ab:(List Load)) (Af:List Spot → Int → Option ((List Spot))) (Ac:List Spot) (Aa:Int):Option ((List Spot)) :=
  bif (decide (Aa < (Ab.length:Int))) then Qb9 fu Af Ae Ag Ad Ab Aa fu Ac 0 0 else some (Ac)
def Qbj (fu:Nat)  (Ac:List Box) (Aa:(List Shelf)) (Ab:(List Layer)) (Ad:(List Load)):Nat → List Spot → Int → Option ((List Spot))
  | 0=>λ_ _=>none
  | n + 1=>Qlz fu Ac Aa Ab Ad (Qbj fu Ac Aa Ab Ad n)
def Qm4 (fu:Nat) (p1:Pallet) (Aa:List Box):Option ((List Spot)) :=
  Qac (mk 32 (⟨(0:Int),(0:Int),(0:Int),(0:Int)⟩:Spot) (Aa.length:Int)) λAf=>Qac (Qm6 fu p1 Aa) λAe=>bif (!Ae) then some (([]:List Spot)) else Qac (Qpu fu p1 Aa) λAc=>Qac (Qof fu p1 Ac) λAb=>Qac (Qpw fu p1 Ab) λAd=>Qbj fu Aa Ac Ab Ad fu Af 0
def Qj4 (fu:Nat) (k3:Int → Int → Option (Int)) (Ab:Int) (Aa:Int):Option (Int) :=
  k3 Aa (w64 (Ab + 1))
def Ql2 (fu:Nat)  (Ab:List Spot) (k3:Int → Int → Option (Int)) (Ac:Int) (Aa:Int):Option (Int) :=
  bif (decide (Aa < (Ab.length:Int))) then Qac (ix Ab Aa) λAd=>Qac (Qar fu Ad.fJ 0 999999) λAe=>bif Ae then Qac (ix Ab Aa) λAg=>Qac (Qky fu Ac (w64 (Ad.fJ + 1))) λAf=>Qj4 fu k3 Aa Af else Qj4 fu k3 Aa Ac else some (Ac)
def Qff (fu:Nat)  (Aa:List Spot):Nat → Int → Int → Option (Int)
  | 0=>λ_ _=>none
  | n + 1=>Ql2 fu Aa (Qff fu Aa n)
def Qm1 (fu:Nat) (Aa:List Spot):Option (Int) :=
  Qff fu Aa fu 0 0
def Qmn (fu:Nat) (Aa:List Box → Int → Option (Plan × Bool)) (Ab:Int) (Ac:List Box):Option (Plan × Bool) :=
  Aa Ac (w64 (Ab + 1))
def Qnt (fu:Nat) (Ag:List Spot → Int → Int → Option (Plan × Bool)) (Ae:Int) (Ah:Int) (Ac:(List Spot)) (Af:List Spot → Int → Option (Plan × Bool)) (Ad:List Spot) (Ab:Int):Option (Plan × Bool) :=
  bif (decide (Ab < (Ac.length:Int))) then Qac (ix Ac Ab) λAa=>Qac (Qhx 32 Ad (([(⟨w64 (Aa.fJ + Ae),Aa.fX,Aa.fY,Aa.fZ⟩:Spot)]:List Spot))) λAj=>Af Aj (w64 (Ab + 1)) else Qac (Qm1 fu Ac) λAi=>Ag Ad (w64 (Ae + Ai)) (w64 (Ah + 1))
def Qf7 (fu:Nat) (Aa:List Spot → Int → Int → Option (Plan × Bool)) (Ab:Int) (Ac:Int) (Ad:(List Spot)):Nat → List Spot → Int → Option (Plan × Bool)
  | 0=>λ_ _=>none
  | n + 1=>Qnt fu Aa Ab Ac Ad (Qf7 fu Aa Ab Ac Ad n)
def Qns (fu:Nat) (Aj:List Spot → Int → Int → Option (Plan × Bool)) (r1:Request) (Ab:(List Carton)) (Ah:List Spot) (Al:Int) (Ad:Int) (Af:List Box → Int → Option (Plan × Bool)) (Ac:List Box) (Aa:Int):Option (Plan × Bool) :=
  bif (decide (Aa < (Ab.length:Int))) then Qac (ix Ab Aa) λAe=>bif (Ae.fE == Ad) then Qac (ix Ab Aa) λAm=>Qac (Qi8 fu r1 Ae) λAi=>Qac (Qhx 32 Ac (([Ai]:List Box))) λAg=>Qmn fu Af Aa Ag else Qmn fu Af Aa Ac else Qac (Qm4 fu r1.fJ Ac) λAk=>Qf7 fu Aj Al Ad Ak fu Ah 0
def Qf5 (fu:Nat) (Ac:List Spot → Int → Int → Option (Plan × Bool)) (r1:Request) (Ab:(List Carton)) (Aa:List Spot) (Ae:Int) (Ad:Int):Nat → List Box → Int → Option (Plan × Bool)
  | 0=>λ_ _=>none
  | n + 1=>Qns fu Ac r1 Ab Aa Ae Ad (Qf5 fu Ac r1 Ab Aa Ae Ad n)
def Qnz (fu:Nat)  (r1:Request) (Ab:(List Carton)) (Ae:(List (List Int))) (Ad:List Spot → Int → Int → Option (Plan × Bool)) (Aa:List Spot) (Af:Int) (Ac:Int):Option (Plan × Bool) :=
  bif (decide (Ac < (Ae.length:Int))) then Qf5 fu Ad r1 Ab Aa Af Ac fu (([]:List Box)) 0 else some ((⟨Ab,Aa⟩:Plan),true)
def Qcb (fu:Nat)  (r1:Request) (Ab:(List Carton)) (Aa:(List (List Int))):Nat → List Spot → Int → Int → Option (Plan × Bool)
  | 0=>λ_ _ _=>none
  | n + 1=>Qnz fu r1 Ab Aa (Qcb fu r1 Ab Aa n)
def Qrp (fu:Nat) (r1:Request):Option (Plan × Bool) :=
  Qac (Qep fu r1) λAb=>bif (Ab != 0) then some ((⟨[],[]⟩:Plan),false) else Qac (Qmv fu r1) λAc=>Qac (Qg0 fu r1) λAa=>Qcb fu r1 Ac Aa fu (([]:List Spot)) 0 0
def Qkg (fu:Nat) (x1:Carton):Option (Carton) :=
  Qac (Qhx 8 (([]:List Int)) x1.fM) λAa=>some (⟨x1.fO,x1.fE,Aa⟩:Carton)
def Qca (fu:Nat) (Ab:Request) (Ac:List Carton) (Aa:List Spot):Option (Request × Plan) :=
  some (Ab,(⟨Ac,Aa⟩:Plan))
def Qqf (fu:Nat) (Ae:List U8):Option (Request × Plan) :=
  Qac (Qmm fu Ae) λAd=>Qac (Qrp fu Ad) λAa=>Qac (Qok fu Ae) λAg=>bif ((Aa.1.fQ.length:Int) == 0) then some (Ad,Aa.1) else Qac (Qao fu (⟨Ae,Ag.fi,Ag.fh⟩:Cur) (Aa.1.fQ.length:Int)) λAc=>Qac (Qao fu (⟨Ae,Ac.2.fi,Ac.2.fh⟩:Cur) 14) λAb=>bif (Ab.1 == 0) then Qac (ix Aa.1.fU Ac.1) λAj=>Qac (ix Aa.1.fU Ac.1) λBa=>Qca fu Ad Aa.1.fQ (Qge Aa.1.fU Ac.1 ({ Aj with fX:=w64 (Aj.fX + 1) })) else bif (Ab.1 == 1) then Qac (Qao fu (⟨Ae,Ab.2.fi,Ab.2.fh⟩:Cur) 3) λAq=>Qac (ix Aa.1.fU Ac.1) λAl=>Qca fu Ad Aa.1.fQ (Qge Aa.1.fU Ac.1 ({ Al with fJ:=Aq.1 })) else bif (Ab.1 == 2) then Qac (Qbt fu (⟨Ae,Ab.2.fi,Ab.2.fh⟩:Cur) (([7,10,11,99,(-1)]:List Int))) λAx=>Qac (ix Aa.1.fQ Ac.1) λAh=>Qca fu Ad (Qge Aa.1.fQ Ac.1 (⟨Ax.1,Ah.fE,Ah.fM⟩:Carton)) Aa.1.fU else bif (Ab.1 == 3) then Qac (ix Aa.1.fQ Ac.1) λAf=>Qac (Qao fu (⟨Ae,Ab.2.fi,Ab.2.fh⟩:Cur) 14) λAu=>Qac (Qhx 8 Af.fM (([w64 (Au.1 - 1)]:List Int))) λAp=>Qac (ix Aa.1.fQ Ac.1) λAz=>Qca fu Ad (Qge Aa.1.fQ Ac.1 (⟨Af.fO,Af.fE,Ap⟩:Carton)) Aa.1.fU else bif (Ab.1 == 4) then Qac (ix Aa.1.fQ Ac.1) λAi=>Qca fu Ad (Qge Aa.1.fQ Ac.1 (⟨Ai.fO,Ai.fE,[]⟩:Carton)) Aa.1.fU else bif (Ab.1 == 5) then Qac (sls Aa.1.fU 1 (Aa.1.fU.length:Int)) λAv=>Qca fu Ad Aa.1.fQ Av else bif (Ab.1 == 6) then Qac (Qao fu (⟨Ae,Ab.2.fi,Ab.2.fh⟩:Cur) 6) λAs=>Qac (ix Aa.1.fQ Ac.1) λAk=>Qca fu Ad (Qge Aa.1.fQ Ac.1 (⟨Ak.fO,w64 (As.1 - 1),Ak.fM⟩:Carton)) Aa.1.fU else bif (Ab.1 == 7) then Qac (ix Aa.1.fQ Ac.1) λAm=>Qac (Qkg fu Am) λAy=>Qac (Qhx 40 Aa.1.fQ [Ay]) λAw=>Qac (Qhx 32 Aa.1.fU (([(⟨9,0,0,0⟩:Spot)]:List Spot))) λAt=>Qca fu Ad Aw At else bif (Ab.1 == 8) then Qac (Qbt fu (⟨Ae,Ab.2.fi,Ab.2.fh⟩:Cur) (([0,2000,2001,(-1)]:List Int))) λAo=>Qac (ix Aa.1.fU Ac.1) λAr=>Qca fu Ad Aa.1.fQ (Qge Aa.1.fU Ac.1 ({ Ar with fZ:=Ao.1 })) else Qca fu Ad Aa.1.fQ Aa.1.fU
def Qe2 (fu:Nat) (Aa:Request × Plan) (Ab:List Spot):Option (Request × Plan) :=
  some (Aa.1,(⟨Aa.2.fQ,Ab⟩:Plan))
def Qmz (fu:Nat) (Ab:List U8):Option (Request × Plan) :=
  Qac (Qqf fu Ab) λAa=>Qac (Qok fu Ab) λAd=>bif (decide ((Aa.2.fU.length:Int) > 0)) then bif ((Aa.2.fU.length:Int) == (Aa.2.fQ.length:Int)) then Qac (Qiu fu (⟨Ab,Ad.fi,Ad.fh⟩:Cur) 2) λAc=>bif Ac.1 then Qac (ix Aa.2.fU (w64 ((Aa.2.fU.length:Int) - 1))) λAe=>Qac (Qao fu (⟨Ab,Ac.2.fi,Ac.2.fh⟩:Cur) 12) λAf=>Qac (ix Aa.2.fU (w64 ((Aa.2.fU.length:Int) - 1))) λAg=>Qe2 fu Aa (Qge Aa.2.fU (w64 ((Aa.2.fU.length:Int) - 1)) ({ Ae with fZ:=w64 (Ae.fZ + Af.1) })) else Qe2 fu Aa Aa.2.fU else Qe2 fu Aa Aa.2.fU else Qe2 fu Aa Aa.2.fU
def Qnq (fu:Nat) (Ab:List U8):Option (Request × Plan) :=
  Qac (Qmz fu Ab) λAa=>some (Aa.1,Aa.2)
def Qct (fu:Nat) (Aa:List Int):Option ((List Int)) :=
  Qac (Qhx 8 (([]:List Int)) Aa) λAb=>some (Ab)
def Qg8 (fu:Nat)  (Ac:List Carton) (k1:List Carton → Int → Option ((List Carton))) (Ad:List Carton) (Aa:Int):Option ((List Carton)) :=
  bif (decide (Aa < (Ac.length:Int))) then Qac (ix Ac Aa) λAb=>Qac (Qct fu Ab.fM) λAf=>Qac (Qhx 40 Ad [(⟨Ab.fO,Ab.fE,Af⟩:Carton)]) λAe=>k1 Ae (w64 (Aa + 1)) else some (Ad)
def Qdk (fu:Nat)  (Aa:List Carton):Nat → List Carton → Int → Option ((List Carton))
  | 0=>λ_ _=>none
  | n + 1=>Qg8 fu Aa (Qdk fu Aa n)
def Qh1 (fu:Nat) (Aa:List Carton):Option ((List Carton)) :=
  Qdk fu Aa fu (([]:List Carton)) 0
def Qc8 (fu:Nat) (Aa:List Spot):Option ((List Spot)) :=
  Qac (Qhx 32 (([]:List Spot)) Aa) λAb=>some (Ab)
def Qms (fu:Nat) (x1:Plan):Option (Plan) :=
  Qac (Qh1 fu x1.fQ) λAa=>Qac (Qc8 fu x1.fU) λAb=>some (⟨Aa,Ab⟩:Plan)
def Qpg (fu:Nat) (t1:Typ) (x2:Int):Option (Bool) :=
  some (t1.f8 == x2)
def Qb2 (fu:Nat)  (Ab:List Typ) (f5:Typ → Option Bool) (k1:Int → Option (Int)) (Aa:Int):Option (Int) :=
  bif (decide (Aa < (Ab.length:Int))) then Qac (ix Ab Aa) λAd=>Qac (f5 Ad) λAc=>bif Ac then some (Aa) else k1 (w64 (Aa + 1)) else some ((-1))
def Qa5 (fu:Nat)  (Aa:List Typ) (f5:Typ → Option Bool):Nat → Int → Option (Int)
  | 0=>λ_=>none
  | n + 1=>Qb2 fu Aa f5 (Qa5 fu Aa f5 n)
def Qbg (fu:Nat) (Aa:List Typ) (f5:Typ → Option Bool):Option (Int) :=
  Qa5 fu Aa f5 fu 0
def Qgy (fu:Nat) (r1:Request) (Ad:Int):Option (Typ × Bool) :=
  Qac (Qbg fu r1.fT (λAc=>Qpg fu Ac Ad)) λAa=>bif (decide (Aa < 0)) then some ((⟨0,0,0,0,0,0,0⟩:Typ),false) else Qac (ix r1.fT Aa) λAb=>some (Ab,true)
def Qka (fu:Nat) (r1:Request):Option (Typ × Bool) :=
  Qac (Qgy fu r1 r1.fP) λAa=>some (Aa.1,Aa.2)
def Qcd (fu:Nat) (n1:Int) (Aa:Int) (Ab:Int):Option (Bool) :=
  bif (decide (n1 ≥ Aa)) then some (decide (n1 ≤ Ab)) else some (false)
def Qcv (fu:Nat) (n1:Int):Option (Bool) :=
  Qac (Qcd fu n1 1 2000) λx2=>some (x2)
def Qoi (fu:Nat) (x1:Pallet):Option (Bool) :=
  Qac (Qcv fu x1.fW) λx5=>bif x5 then Qac (Qcv fu x1.fD) λAa=>bif Aa then Qac (Qcv fu x1.fH) λAc=>bif Ac then Qac (Qcd fu x1.fV 1 100000) λAb=>some (Ab) else some (false) else some (false) else some (false)
def Qb4 (fu:Nat)  (Ab:List Pair) (f5:Pair → Option Bool) (k1:Int → Option (Int)) (Aa:Int):Option (Int) :=
  bif (decide (Aa < (Ab.length:Int))) then Qac (ix Ab Aa) λAd=>Qac (f5 Ad) λAc=>bif Ac then some (Aa) else k1 (w64 (Aa + 1)) else some ((-1))
def Qa6 (fu:Nat)  (Aa:List Pair) (f5:Pair → Option Bool):Nat → Int → Option (Int)
  | 0=>λ_=>none
  | n + 1=>Qb4 fu Aa f5 (Qa6 fu Aa f5 n)
def Qbx (fu:Nat) (Aa:List Pair) (f5:Pair → Option Bool):Option (Int) :=
  Qa6 fu Aa f5 fu 0
def Qa3 (fu:Nat) (Ab:List Pair) (f5:Pair → Option Bool):Option (Bool) :=
  Qac (Qbx fu Ab f5) λAa=>some (decide (Aa ≥ 0))
def Qj2 (fu:Nat) (p1:Pair):Option (Bool) :=
  Qac (Qcd fu p1.fA 0 3) λx5=>bif (!x5) then some (true) else Qac (Qcd fu p1.fB 0 3) λAa=>some (!Aa)
def Qax (fu:Nat) (Ab:List Typ) (f5:Typ → Option Bool):Option (Bool) :=
  Qac (Qbg fu Ab f5) λAa=>some (decide (Aa ≥ 0))
def Qr3 (fu:Nat) (x1:Typ):Option (Bool) :=
  Qac (Qcd fu x1.f8 0 999) λx5=>bif x5 then Qac (Qcv fu x1.fW) λAa=>bif Aa then Qac (Qcv fu x1.fH) λAd=>bif Ad then Qac (Qcv fu x1.fD) λAe=>bif Ae then Qac (Qcd fu x1.f7 0 100000) λAf=>bif Af then Qac (Qcd fu x1.fV 1 100000) λAc=>bif Ac then Qac (Qcd fu x1.fK 0 100000) λAb=>some (Ab) else some (false) else some (false) else some (false) else some (false) else some (false) else some (false)
def Qkq (fu:Nat) (t1:Typ):Option (Bool) :=
  Qac (Qr3 fu t1) λx5=>some (!x5)
def Qrn (fu:Nat) (x1:Item):Option (Bool) :=
  Qac (Qcd fu x1.f8 0 999) λx5=>bif x5 then Qac (Qcv fu x1.fW) λAa=>bif Aa then Qac (Qcv fu x1.fH) λAd=>bif Ad then Qac (Qcv fu x1.fD) λAe=>bif Ae then Qac (Qcd fu x1.fV 1 100000) λAf=>bif Af then Qac (Qcd fu x1.fF 0 3) λAc=>bif Ac then Qac (Qcd fu x1.f0 1 6) λAb=>some (Ab) else some (false) else some (false) else some (false) else some (false) else some (false) else some (false)
def Qj0 (fu:Nat)  (r1:Request) (k3:Int → Int → Option (Bool)) (Ac:Int) (Aa:Int):Option (Bool) :=
  bif (decide (Aa < (r1.fG.length:Int))) then Qac (ix r1.fG Aa) λAb=>Qac (Qrn fu Ab) λAd=>bif (!Ad) then some (false) else k3 (w64 (Ac + Ab.f0)) (w64 (Aa + 1)) else some (decide (Ac ≤ 12))
def Qen (fu:Nat)  (r1:Request):Nat → Int → Int → Option (Bool)
  | 0=>λ_ _=>none
  | n + 1=>Qj0 fu r1 (Qen fu r1 n)
def Qn1 (fu:Nat) (r1:Request)  : Option (Bool) :=
  Qen fu r1 fu 0 0
def Qnd (fu:Nat) (r1:Request)  : Option (Bool) :=
  Qac (Qa3 fu r1.fL (λAf=>Qj2 fu Af)) λAa=>bif Aa then some (false) else Qac (Qcd fu (r1.fT.length:Int) 1 5) λAe=>bif (!Ae) then some (false) else Qac (Qax fu r1.fT (λAb=>Qkq fu Ab)) λAd=>bif Ad then some (false) else Qac (Qcd fu r1.fP 0 999) λAc=>bif (!Ac) then some (false) else bif (decide ((r1.fG.length:Int) > 8)) then some (false) else Qn1 fu r1
def Qod (fu:Nat) (r1:Request):Option (Bool) :=
  Qac (Qcd fu r1.qQ 0 1) λAb=>bif (!Ab) then some (false) else Qac (Qoi fu r1.fJ) λAc=>bif (!Ac) then some (false) else Qac (Qcd fu r1.fR 1 4) λAa=>bif (!Aa) then some (false) else bif (decide ((r1.fL.length:Int) > 16)) then some (false) else Qnd fu r1
def Qqr (fu:Nat) (q1:Typ) (x2:Typ):Option (Bool) :=
  some (q1.f8 == x2.f8)
def Qqs (fu:Nat) (q1:Item) (x2:Item):Option (Bool) :=
  some (q1.f8 == x2.f8)
def Qb5 (fu:Nat)  (Ab:List Item) (f5:Item → Option Bool) (k1:Int → Option (Int)) (Aa:Int):Option (Int) :=
  bif (decide (Aa < (Ab.length:Int))) then Qac (ix Ab Aa) λAd=>Qac (f5 Ad) λAc=>bif Ac then some (Aa) else k1 (w64 (Aa + 1)) else some ((-1))
def Qa4 (fu:Nat)  (Aa:List Item) (f5:Item → Option Bool):Nat → Int → Option (Int)
  | 0=>λ_=>none
  | n + 1=>Qb5 fu Aa f5 (Qa4 fu Aa f5 n)
def Qby (fu:Nat) (Aa:List Item) (f5:Item → Option Bool):Option (Int) :=
  Qa4 fu Aa f5 fu 0
def Qay (fu:Nat) (Ab:List Item) (f5:Item → Option Bool):Option (Bool) :=
  Qac (Qby fu Ab f5) λAa=>some (decide (Aa ≥ 0))
def Qmo (fu:Nat) (p1:Pair) (x2:Request):Option (Bool) :=
  bif (decide (p1.fA ≥ x2.fR)) then some (true) else some (decide (p1.fB ≥ x2.fR))
def Qpf (fu:Nat) (k4:Int → Option (Bool)) (Aa:Int)  : Option (Bool) :=
  k4 (w64 (Aa + 1))
def Qli (fu:Nat)  (r1:Request) (k4:Int → Option (Bool)) (Aa:Int):Option (Bool) :=
  bif (decide (Aa < (r1.fG.length:Int))) then Qac (ix r1.fG Aa) λAb=>bif (decide (Ab.fF ≥ r1.fR)) then some (false) else Qac (sls r1.fG 0 Aa) λAg=>Qac (Qay fu Ag (λAc=>Qqs fu Ac Ab)) λAe=>bif Ae then some (false) else Qpf fu k4 Aa else Qac (Qka fu r1) λAh=>bif Ah.2 then Qac (Qa3 fu r1.fL (λAf=>Qmo fu Af r1)) λAd=>some (!Ad) else some (false)
def Qdb (fu:Nat)  (r1:Request):Nat → Int → Option (Bool)
  | 0=>λ_=>none
  | n + 1=>Qli fu r1 (Qdb fu r1 n)
def Qlh (fu:Nat)  (r1:Request) (k1:Int → Option (Bool)) (Aa:Int):Option (Bool) :=
  bif (decide (Aa < (r1.fT.length:Int))) then Qac (ix r1.fT Aa) λAc=>Qac (sls r1.fT 0 Aa) λAb=>Qac (Qax fu Ab (λAd=>Qqr fu Ad Ac)) λAe=>bif Ae then some (false) else k1 (w64 (Aa + 1)) else Qdb fu r1 fu 0
def Qfa (fu:Nat)  (r1:Request):Nat → Int → Option (Bool)
  | 0=>λ_=>none
  | n + 1=>Qlh fu r1 (Qfa fu r1 n)
def Qp5 (fu:Nat) (r1:Request):Option (Bool) :=
  Qfa fu r1 fu 0
def Qcn (fu:Nat)  (Ab:List Pair) (v5:Pair) (k1:Int → Option (Int)) (Aa:Int):Option (Int) :=
  bif (decide (Aa < (Ab.length:Int))) then Qac (ix Ab Aa) λAc=>bif (decide (v5 = Ac)) then some (Aa) else k1 (w64 (Aa + 1)) else some ((-1))
def Qbc (fu:Nat)  (Aa:List Pair) (v5:Pair):Nat → Int → Option (Int)
  | 0=>λ_=>none
  | n + 1=>Qcn fu Aa v5 (Qbc fu Aa v5 n)
def Qc9 (fu:Nat) (Aa:List Pair) (v5:Pair):Option (Int) :=
  Qbc fu Aa v5 fu 0
def Qcu (fu:Nat) (Aa:List Pair) (v5:Pair):Option (Bool) :=
  Qac (Qc9 fu Aa v5) λAb=>some (decide (Ab ≥ 0))
def Qhi (fu:Nat) (Aa:List Pair) (a5:Int) (b6:Int):Option (Bool) :=
  Qac (Qcu fu Aa (⟨a5,b6⟩:Pair)) λx7=>some (x7)
def Qmd (fu:Nat) (k3:Int → Option (Bool)) (Ac:List Pair) (Af:Int) (Ab:Int) (k4:Int → Option (Bool)) (Aa:Int):Option (Bool) :=
  bif (decide (Aa < Af)) then Qac (Qhi fu Ac Ab Aa) λAd=>Qac (Qhi fu Ac Aa Ab) λAe=>bif (!(Ad == Ae)) then some (false) else k4 (w64 (Aa + 1)) else k3 (w64 (Ab + 1))
def Qe7 (fu:Nat) (k3:Int → Option (Bool)) (Ac:List Pair) (Aa:Int) (Ab:Int):Nat → Int → Option (Bool)
  | 0=>λ_=>none
  | n + 1=>Qmd fu k3 Ac Aa Ab (Qe7 fu k3 Ac Aa Ab n)
def Qme (fu:Nat)  (Ac:List Pair) (Ab:Int) (k3:Int → Option (Bool)) (Aa:Int):Option (Bool) :=
  bif (decide (Aa < Ab)) then Qac (Qhi fu Ac Aa Aa) λAd=>bif (!Ad) then some (false) else Qe7 fu k3 Ac Ab Aa fu 0 else some (true)
def Qfc (fu:Nat)  (Ab:List Pair) (Aa:Int):Nat → Int → Option (Bool)
  | 0=>λ_=>none
  | n + 1=>Qme fu Ab Aa (Qfc fu Ab Aa n)
def Qqb (fu:Nat) (Ab:List Pair) (Aa:Int):Option (Bool) :=
  Qac (Qcd fu Aa 1 4) λx6=>bif (!x6) then some (false) else Qfc fu Ab Aa fu 0
def Qc2 (fu:Nat) (x1:List Int):Option (List Int):=Q2t x1
def Qst (fu:Nat) (x1:Item) (t2:Typ) (Ag:List Int) (Aj:List Int):Option (Bool) :=
  Qac (Qc2 fu Ag) λAb=>Qac (Qc2 fu Aj) λAa=>Qac (ix Ab 0) λAc=>Qac (ix Aa 0) λAh=>bif (decide (Ac ≤ Ah)) then Qac (ix Ab 1) λAd=>Qac (ix Aa 1) λAe=>bif (decide (Ad ≤ Ae)) then Qac (ix Ab 2) λAi=>Qac (ix Aa 2) λAf=>bif (decide (Ai ≤ Af)) then some (decide (x1.fV ≤ t2.fV)) else some (false) else some (false) else some (false)
def Qsm (fu:Nat) (x1:Item) (t2:Typ):Option (Bool) :=
  Qst fu x1 t2 (([x1.fW,x1.fH,x1.fD]:List Int)) (([t2.fW,t2.fH,t2.fD]:List Int))
def Qp2 (fu:Nat) (x1:Item) (x2:Typ):Option (Bool) :=
  Qac (Qsm fu x1 x2) λx8=>some (!x8)
def Qps (fu:Nat) (t1:Typ) (x2:Pallet):Option (Bool) :=
  bif (decide (t1.fW > x2.fW)) then some (true) else bif (decide (t1.fD > x2.fD)) then some (true) else bif (decide (t1.fH > x2.fH)) then some (true) else some (decide ((w64 (t1.f7 + t1.fV)) > x2.fV))
def Qsx (fu:Nat) (r1:Request):Option (Int) :=
  Qac (Qka fu r1) λAh=>Qac (Qod fu r1) λAg=>bif (!Ag) then some (2) else Qac (Qp5 fu r1) λAc=>bif (!Ac) then some (3) else Qac (Qqb fu r1.fL r1.fR) λAd=>bif (!Ad) then some (4) else Qac (Qay fu r1.fG (λAe=>Qp2 fu Ae Ah.1)) λAf=>bif Af then some (5) else Qac (Qax fu r1.fT (λAb=>Qps fu Ab r1.fJ)) λAa=>bif Aa then some (6) else some (0)
def Qgw (fu:Nat) (r1:Request):Option (Bool) :=
  Qac (Qsx fu r1) λAa=>some (Aa == 0)
def Qhf (fu:Nat) (k3:Int → Option (Bool)) (Aa:Int)  : Option (Bool) :=
  k3 (w64 (Aa + 1))
def Qih (fu:Nat)  (Ab:List Int) (k3:Int → Option (Bool)) (Aa:Int):Option (Bool) :=
  bif (decide (Aa < (Ab.length:Int))) then Qac (ix Ab Aa) λAc=>Qac (Qcd fu Ac 0 999) λAe=>bif (!Ae) then some (false) else bif (decide (Aa > 0)) then Qac (ix Ab (w64 (Aa - 1))) λAd=>bif (decide (Ad ≥ Ac)) then some (false) else Qhf fu k3 Aa else Qhf fu k3 Aa else some (decide ((Ab.length:Int) ≤ 100))
def Qdi (fu:Nat)  (Aa:List Int):Nat → Int → Option (Bool)
  | 0=>λ_=>none
  | n + 1=>Qih fu Aa (Qdi fu Aa n)
def Qj8 (fu:Nat) (Aa:List Int):Option (Bool) :=
  Qdi fu Aa fu 0
def Qb8 (fu:Nat) (n1:Int):Option (Bool) :=
  Qac (Qcd fu n1 0 2000) λx2=>some (x2)
def Qqw (fu:Nat) (k4:Int → Option (Bool)) (Aa:Int)  : Option (Bool) :=
  k4 (w64 (Aa + 1))
def Qn4 (fu:Nat)  (x1:Plan) (k4:Int → Option (Bool)) (Aa:Int):Option (Bool) :=
  bif (decide (Aa < (x1.fQ.length:Int))) then Qac (ix x1.fQ Aa) λAc=>Qac (ix x1.fU Aa) λAb=>Qac (Qcd fu Ac.fO 0 999) λAd=>bif (!Ad) then some (false) else Qac (Qcd fu Ac.fE 0 3) λAe=>bif (!Ae) then some (false) else Qac (Qj8 fu Ac.fM) λAi=>bif (!Ai) then some (false) else Qac (Qb8 fu Ab.fJ) λAf=>bif (!Af) then some (false) else Qac (Qb8 fu Ab.fX) λAg=>bif (!Ag) then some (false) else Qac (Qb8 fu Ab.fY) λAh=>bif (!Ah) then some (false) else Qac (Qb8 fu Ab.fZ) λAj=>bif (!Aj) then some (false) else Qqw fu k4 Aa else some (true)
def Qf8 (fu:Nat)  (x1:Plan):Nat → Int → Option (Bool)
  | 0=>λ_=>none
  | n + 1=>Qn4 fu x1 (Qf8 fu x1 n)
def Qqu (fu:Nat) (x1:Plan)  : Option (Bool) :=
  Qf8 fu x1 fu 0
def Qrz (fu:Nat) (x1:Plan):Option (Bool) :=
  bif ((x1.fU.length:Int) != (x1.fQ.length:Int)) then some (false) else bif (decide ((x1.fQ.length:Int) > 100)) then some (false) else Qqu fu x1
def Qbu (fu:Nat)  (Ab:List Carton) (f5:Carton → Option Bool) (k1:Int → Option (Int)) (Aa:Int):Option (Int) :=
  bif (decide (Aa < (Ab.length:Int))) then Qac (ix Ab Aa) λAd=>Qac (f5 Ad) λAc=>bif Ac then some (Aa) else k1 (w64 (Aa + 1)) else some ((-1))
def Qa0 (fu:Nat)  (Aa:List Carton) (f5:Carton → Option Bool):Nat → Int → Option (Int)
  | 0=>λ_=>none
  | n + 1=>Qbu fu Aa f5 (Qa0 fu Aa f5 n)
def Qbn (fu:Nat) (Aa:List Carton) (f5:Carton → Option Bool):Option (Int) :=
  Qa0 fu Aa f5 fu 0
def Qbf (fu:Nat) (Ab:List Carton) (f5:Carton → Option Bool):Option (Bool) :=
  Qac (Qbn fu Ab f5) λAa=>some (decide (Aa ≥ 0))
def Qsr (fu:Nat) (c1:Carton):Option (Bool) :=
  some ((c1.fM.length:Int) == 0)
def Qje (fu:Nat)  (x1:Plan) (k1:List Int → Int → Option ((List Int))) (Ab:List Int) (Aa:Int):Option ((List Int)) :=
  bif (decide (Aa < (x1.fQ.length:Int))) then Qac (ix x1.fQ Aa) λAc=>Qac (Qhx 8 Ab Ac.fM) λAd=>k1 Ad (w64 (Aa + 1)) else some (Ab)
def Qfz (fu:Nat)  (x1:Plan):Nat → List Int → Int → Option ((List Int))
  | 0=>λ_ _=>none
  | n + 1=>Qje fu x1 (Qfz fu x1 n)
def Qoe (fu:Nat) (x1:Plan):Option ((List Int)) :=
  Qfz fu x1 fu (([]:List Int)) 0
def Qun (fu:Nat) (x1:Int) (y2:Int):Option (Int × Int) :=
  some (IntKind.wrap .u64 ((IntKind.wrap .u64 ((IntKind.wrap .u64 ((Int.fdiv x1 (2 ^ (min 32 (IntKind.bits .u64)))) * (Int.fdiv y2 (2 ^ (min 32 (IntKind.bits .u64)))))) + (Int.fdiv (IntKind.wrap .u64 ((IntKind.wrap .u64 ((Int.fdiv x1 (2 ^ (min 32 (IntKind.bits .u64)))) * (IntKind.wrap .u64 (((BitVec.ofInt (IntKind.bits .u64) y2 &&& BitVec.ofInt (IntKind.bits .u64) 4294967295).toNat:Nat):Int)))) + (Int.fdiv (IntKind.wrap .u64 ((IntKind.wrap .u64 (((BitVec.ofInt (IntKind.bits .u64) x1 &&& BitVec.ofInt (IntKind.bits .u64) 4294967295).toNat:Nat):Int)) * (IntKind.wrap .u64 (((BitVec.ofInt (IntKind.bits .u64) y2 &&& BitVec.ofInt (IntKind.bits .u64) 4294967295).toNat:Nat):Int)))) (2 ^ (min 32 (IntKind.bits .u64)))))) (2 ^ (min 32 (IntKind.bits .u64)))))) + (Int.fdiv (IntKind.wrap .u64 ((IntKind.wrap .u64 (((BitVec.ofInt (IntKind.bits .u64) (IntKind.wrap .u64 ((IntKind.wrap .u64 ((Int.fdiv x1 (2 ^ (min 32 (IntKind.bits .u64)))) * (IntKind.wrap .u64 (((BitVec.ofInt (IntKind.bits .u64) y2 &&& BitVec.ofInt (IntKind.bits .u64) 4294967295).toNat:Nat):Int)))) + (Int.fdiv (IntKind.wrap .u64 ((IntKind.wrap .u64 (((BitVec.ofInt (IntKind.bits .u64) x1 &&& BitVec.ofInt (IntKind.bits .u64) 4294967295).toNat:Nat):Int)) * (IntKind.wrap .u64 (((BitVec.ofInt (IntKind.bits .u64) y2 &&& BitVec.ofInt (IntKind.bits .u64) 4294967295).toNat:Nat):Int)))) (2 ^ (min 32 (IntKind.bits .u64)))))) &&& BitVec.ofInt (IntKind.bits .u64) 4294967295).toNat:Nat):Int)) + (IntKind.wrap .u64 ((IntKind.wrap .u64 (((BitVec.ofInt (IntKind.bits .u64) x1 &&& BitVec.ofInt (IntKind.bits .u64) 4294967295).toNat:Nat):Int)) * (Int.fdiv y2 (2 ^ (min 32 (IntKind.bits .u64)))))))) (2 ^ (min 32 (IntKind.bits .u64))))),IntKind.wrap .u64 (x1 * y2))
def Qu2 (fu:Nat) (x1:Int) (y2:Int):Option (Int × Int) :=
  Qac (Qun fu x1 y2) λx3=>some (x3.1,x3.2)
def Qnw (fu:Nat)   (k3:List Int → Int → Option ((List Int))) (Aa:List Int) (Ab:Int):Option ((List Int)) :=
  bif (decide (Ab < (Aa.length:Int))) then Qac (sls Aa Ab (Aa.length:Int)) λAd=>Qac (sls Aa 0 Ab) λAc=>k3 (cpd Aa Ab Ac) (w64 (Ab + (cpn Aa Ab Ac))) else some (Aa)
def Qga (fu:Nat)   : Nat → List Int → Int → Option ((List Int))
  | 0=>λ_ _=>none
  | n + 1=>Qnw fu  (Qga fu  n)
def Qbq (fu:Nat) (x1:List Int) (x8:Int × Int)  : Option ((List Int)) :=
  Qac (mk 8 (0:Int) (w64 x8.2)) λAa=>Qga fu fu (cpd Aa 0 x1) (cpn Aa 0 x1)
def Qgb (fu:Nat) (x1:List Int) (Aa:Int)  : Option ((List Int)) :=
  Qac (Qu2 fu (IntKind.wrap .u64 (x1.length:Int)) (IntKind.wrap .u64 Aa)) λx8=>bif (decide (x8.1 > 0)) then none else bif (decide (x8.2 > 9223372036854775807)) then none else Qbq fu x1 x8
def Qfo (fu:Nat) (x1:List Int) (Aa:Int):Option ((List Int)) :=
  bif (decide (Aa < 0)) then none else Qgb fu x1 Aa
def Qo4 (fu:Nat)  (r1:Request) (k1:List Int → Int → Option ((List Int))) (Ab:List Int) (Aa:Int):Option ((List Int)) :=
  bif (decide (Aa < (r1.fG.length:Int))) then Qac (ix r1.fG Aa) λAd=>Qac (Qfo fu (([Aa]:List Int)) Ad.f0) λAe=>Qac (Qhx 8 Ab Ae) λAc=>k1 Ac (w64 (Aa + 1)) else some (Ab)
def Qia (fu:Nat)  (r1:Request):Nat → List Int → Int → Option ((List Int))
  | 0=>λ_ _=>none
  | n + 1=>Qo4 fu r1 (Qia fu r1 n)
def Qou (fu:Nat) (r1:Request):Option ((List Int)) :=
  Qac (Qgw fu r1) λAa=>bif (!Aa) then some (([]:List Int)) else Qia fu r1 fu (([]:List Int)) 0
def Qn0 (fu:Nat)  (n1:Int) (k1:List Int → Int → Option ((List Int))) (Ab:List Int) (Aa:Int):Option ((List Int)) :=
  bif (decide (Aa < n1)) then Qac (Qhx 8 Ab (([Aa]:List Int))) λAc=>k1 Ac (w64 (Aa + 1)) else some (Ab)
def Qhc (fu:Nat)  (n1:Int):Nat → List Int → Int → Option ((List Int))
  | 0=>λ_ _=>none
  | n + 1=>Qn0 fu n1 (Qhc fu n1 n)
def Qsc (fu:Nat) (n1:Int):Option ((List Int)) :=
  Qhc fu n1 fu (([]:List Int)) 0
def Qfv (fu:Nat)  (Ab:List Int) (Ae:List Int) (k1:Int → Option (Bool)) (Aa:Int):Option (Bool) :=
  bif (decide (Aa < (Ab.length:Int))) then Qac (ix Ab Aa) λAd=>Qac (ix Ae Aa) λAc=>bif (Ad != Ac) then some (false) else k1 (w64 (Aa + 1)) else some (true)
def Qcq (fu:Nat)  (Aa:List Int) (Ab:List Int):Nat → Int → Option (Bool)
  | 0=>λ_=>none
  | n + 1=>Qfv fu Aa Ab (Qcq fu Aa Ab n)
def Qgd (fu:Nat) (Aa:List Int) (Ab:List Int):Option (Bool) :=
  bif ((Aa.length:Int) != (Ab.length:Int)) then some (false) else Qcq fu Aa Ab fu 0
def Qqg (fu:Nat) (u1:Int) (x2:Int):Option (Bool) :=
  Qac (Qcd fu u1 0 (w64 (x2 - 1))) λx5=>some (!x5)
def Qef (fu:Nat)  (Ab:List Int) (f5:Int → Option Bool) (k1:Int → Option (Int)) (Aa:Int):Option (Int) :=
  bif (decide (Aa < (Ab.length:Int))) then Qac (ix Ab Aa) λAd=>Qac (f5 Ad) λAc=>bif Ac then some (Aa) else k1 (w64 (Aa + 1)) else some ((-1))
def Qbz (fu:Nat)  (Aa:List Int) (f5:Int → Option Bool):Nat → Int → Option (Int)
  | 0=>λ_=>none
  | n + 1=>Qef fu Aa f5 (Qbz fu Aa f5 n)
def Qc4 (fu:Nat) (Aa:List Int) (f5:Int → Option Bool):Option (Int) :=
  Qbz fu Aa f5 fu 0
def Qc1 (fu:Nat) (k3:List Int → Int → Int → Option ((List Int))) (Ab:Int) (Ac:List Int) (Aa:Int):Option ((List Int)) :=
  k3 Ac Aa (w64 (Ab + 1))
def Qdv (fu:Nat)  (f5:Int → Option Bool) (k3:List Int → Int → Int → Option ((List Int))) (Aa:List Int) (Ab:Int) (Ac:Int):Option ((List Int)) :=
  bif (decide (Ac < (Aa.length:Int))) then Qac (ix Aa Ac) λAd=>Qac (f5 Ad) λAf=>bif (!Af) then Qac (ix Aa Ab) λAh=>Qc1 fu k3 Ac (Qge Aa Ab Ad) (w64 (Ab + 1)) else Qc1 fu k3 Ac Aa Ab else Qac (sls Aa Ab (Aa.length:Int)) λAg=>Qac (sls (Q4f Aa Ab) 0 Ab) λAe=>some (Ae)
def Qbh (fu:Nat)  (f5:Int → Option Bool):Nat → List Int → Int → Int → Option ((List Int))
  | 0=>λ_ _ _=>none
  | n + 1=>Qdv fu f5 (Qbh fu f5 n)
def Qdy (fu:Nat) (Ab:List Int) (f5:Int → Option Bool):Option ((List Int)) :=
  Qac (Qc4 fu Ab f5) λAa=>bif (Aa == ((-1))) then some (Ab) else Qbh fu f5 fu Ab Aa (w64 (Aa + 1))
def Qqa (fu:Nat) (r1:Request) (Ad:List Int):Option ((List Int)) :=
  Qac (Qou fu r1) λAe=>Qac (Qct fu Ad) λAb=>Qac (Qdy fu Ab (λAc=>Qqg fu Ac (Ae.length:Int))) λAa=>some (Aa)
def Qkd (fu:Nat) (k3:List Item → Int → Option ((List Item))) (Aa:Int) (Ab:List Item):Option ((List Item)) :=
  k3 Ab (w64 (Aa + 1))
def Ql8 (fu:Nat)  (r1:Request) (Ad:List Int) (Ae:(List Int)) (k3:List Item → Int → Option ((List Item))) (Ab:List Item) (Aa:Int):Option ((List Item)) :=
  bif (decide (Aa < (Ad.length:Int))) then Qac (ix Ad Aa) λAc=>Qac (Qcd fu Ac 0 (w64 ((Ae.length:Int) - 1))) λAi=>bif Ai then Qac (ix Ae Ac) λAf=>Qac (ix r1.fG Af) λAg=>Qac (Qhx 56 Ab (([Ag]:List Item))) λAh=>Qkd fu k3 Aa Ah else Qkd fu k3 Aa Ab else some (Ab)
def Qfe (fu:Nat)  (r1:Request) (Ab:List Int) (Aa:(List Int)):Nat → List Item → Int → Option ((List Item))
  | 0=>λ_ _=>none
  | n + 1=>Ql8 fu r1 Ab Aa (Qfe fu r1 Ab Aa n)
def Qhq (fu:Nat) (r1:Request) (Ab:List Int):Option ((List Item)) :=
  Qac (Qou fu r1) λAa=>Qfe fu r1 Ab Aa fu (([]:List Item)) 0
def Qsq (fu:Nat) (x1:Item) (x2:Typ):Option (Bool) :=
  Qac (Qsm fu x1 x2) λx8=>some (!x8)
def Qqq (fu:Nat) (Aa:Int) (h2:Int) (d3:Int)  : Option (Int) :=
  some (w64 ((w64 (Aa * h2)) * d3))
def Qo6 (fu:Nat) (Aa:Int) (h2:Int) (d3:Int):Option (Int) :=
  Qac (Qcd fu Aa 0 2000) λAc=>bif (!Ac) then some (0) else Qac (Qcd fu h2 0 2000) λAd=>bif (!Ad) then some (0) else Qac (Qcd fu d3 0 2000) λAb=>bif (!Ab) then some (0) else Qqq fu Aa h2 d3
def Qjq (fu:Nat)  (Ad:(List Item)) (k1:Int → Int → Option (Int)) (Ac:Int) (Aa:Int):Option (Int) :=
  bif (decide (Aa < (Ad.length:Int))) then Qac (ix Ad Aa) λAb=>Qac (Qo6 fu Ab.fW Ab.fH Ab.fD) λAe=>k1 (w64 (Ac + Ae)) (w64 (Aa + 1)) else some (Ac)
def Qft (fu:Nat)  (Aa:(List Item)):Nat → Int → Int → Option (Int)
  | 0=>λ_ _=>none
  | n + 1=>Qjq fu Aa (Qft fu Aa n)
def Qoo (fu:Nat) (r1:Request) (Ab:List Int):Option (Int) :=
  Qac (Qhq fu r1 Ab) λAa=>Qft fu Aa fu 0 0
def Qne (fu:Nat)  (Ab:(List Item)) (k1:Int → Int → Option (Int)) (Ac:Int) (Aa:Int):Option (Int) :=
  bif (decide (Aa < (Ab.length:Int))) then Qac (ix Ab Aa) λAd=>k1 (w64 (Ac + Ad.fV)) (w64 (Aa + 1)) else some (Ac)
def Qha (fu:Nat)  (Aa:(List Item)):Nat → Int → Int → Option (Int)
  | 0=>λ_ _=>none
  | n + 1=>Qne fu Aa (Qha fu Aa n)
def Qoz (fu:Nat) (r1:Request) (Ab:List Int):Option (Int) :=
  Qac (Qhq fu r1 Ab) λAa=>Qha fu Aa fu 0 0
def Qrc (fu:Nat) (r1:Request) (Aa:List Int) (t9:Typ):Option (Bool) :=
  Qac (Qoo fu r1 Aa) λAd=>Qac (Qo6 fu t9.fW t9.fH t9.fD) λAb=>bif (decide (Ad ≤ Ab)) then Qac (Qoz fu r1 Aa) λAc=>some (decide (Ac ≤ t9.fV)) else some (false)
def Qr2 (fu:Nat) (r1:Request) (Aa:List Int) (t9:Typ)  : Option (Bool) :=
  Qac (Qhq fu r1 Aa) λAb=>Qac (Qay fu Ab (λAc=>Qsq fu Ac t9)) λAd=>bif (!Ad) then Qac (Qrc fu r1 Aa t9) λAe=>some (Ae) else some (false)
def Qq4 (fu:Nat) (r1:Request) (Aa:List Int) (t9:Typ):Option (Bool) :=
  Qac (Qgw fu r1) λAb=>bif (!Ab) then some (false) else Qac (Qqa fu r1 Aa) λAc=>bif ((Ac.length:Int) != (Aa.length:Int)) then some (false) else Qr2 fu r1 Aa t9
def Qj7 (fu:Nat) (x1:List Int):Option (List Int):=Jhj x1
def Qkx (fu:Nat) (Ab:List Int):Option ((List Int)) :=
  Qac (Qct fu Ab) λx5=>Qac (Qc2 fu x5) λAc=>Qac (Qj7 fu Ac) λAa=>some (Aa)
def Qlb (fu:Nat)  (r1:Request) (k1:List Int → Int → Option ((List Int))) (Ab:List Int) (Aa:Int):Option ((List Int)) :=
  bif (decide (Aa < (r1.fG.length:Int))) then Qac (ix r1.fG Aa) λAe=>Qac (Qhx 8 Ab (([Ae.fF]:List Int))) λAc=>k1 Ac (w64 (Aa + 1)) else Qac (Qkx fu Ab) λAd=>some (Ad)
def Qgq (fu:Nat)  (r1:Request):Nat → List Int → Int → Option ((List Int))
  | 0=>λ_ _=>none
  | n + 1=>Qlb fu r1 (Qgq fu r1 n)
def Qp3 (fu:Nat) (r1:Request):Option ((List Int)) :=
  Qac (Qgw fu r1) λAa=>bif (!Aa) then some (([]:List Int)) else Qgq fu r1 fu (([]:List Int)) 0
def Qr4 (fu:Nat) (Aa:List Pair) (a5:Int) (b6:Int):Option (Bool) :=
  Qac (Qhi fu Aa a5 b6) λx7=>bif x7 then Qac (Qhi fu Aa b6 a5) λAb=>some (Ab) else some (false)
def Qkr (fu:Nat) (x1:Int) (x2:List Pair) (x8:Int):Option (Bool) :=
  Qac (Qr4 fu x2 x8 x1) λAa=>some (!Aa)
def Qcm (fu:Nat) (Ab:List Int) (f5:Int → Option Bool):Option (Bool) :=
  Qac (Qc4 fu Ab f5) λAa=>some (decide (Aa ≥ 0))
def Qor (fu:Nat) (l1:List Int) (x5:List Pair) (Ab:Int):Option (Bool) :=
  Qac (Qcm fu l1 (λAa=>Qkr fu Aa x5 Ab)) λAc=>some (!Ac)
def Qdu (fu:Nat)  (Ab:List (List Int)) (f5:(List Int) → Option Bool) (k1:Int → Option (Int)) (Aa:Int):Option (Int) :=
  bif (decide (Aa < (Ab.length:Int))) then Qac (ix Ab Aa) λAd=>Qac (f5 Ad) λAc=>bif Ac then some (Aa) else k1 (w64 (Aa + 1)) else some ((-1))
def Qbv (fu:Nat)  (Aa:List (List Int)) (f5:(List Int) → Option Bool):Nat → Int → Option (Int)
  | 0=>λ_=>none
  | n + 1=>Qdu fu Aa f5 (Qbv fu Aa f5 n)
def Qdw (fu:Nat) (Aa:List (List Int)) (f5:(List Int) → Option Bool):Option (Int) :=
  Qbv fu Aa f5 fu 0
def Qil (fu:Nat) (k3:List (List Int) → Int → Option ((List (List Int)))) (Aa:Int) (Ab:List (List Int)):Option ((List (List Int))) :=
  k3 Ab (w64 (Aa + 1))
def Qna (fu:Nat)  (Ah:List Pair) (Ae:(List Int)) (k3:List (List Int) → Int → Option ((List (List Int)))) (Aa:List (List Int)) (Ab:Int):Option ((List (List Int))) :=
  bif (decide (Ab < (Ae.length:Int))) then Qac (ix Ae Ab) λAd=>Qac (Qcd fu Ad 0 3) λAf=>bif (!Af) then Qil fu k3 Ab Aa else Qac (Qdw fu Aa (λAi=>Qor fu Ai Ah Ad)) λAc=>bif (decide (Ac < 0)) then Qac (Qhx 24 Aa [([Ad]:List Int)]) λAk=>Qil fu k3 Ab Ak else Qac (ix Aa Ac) λAj=>Qac (Qhx 8 Aj (([Ad]:List Int))) λAg=>Qac (ix Aa Ac) λAl=>Qil fu k3 Ab (Qge Aa Ac Ag) else some (Aa)
def Qev (fu:Nat)  (Ab:List Pair) (Aa:(List Int)):Nat → List (List Int) → Int → Option ((List (List Int)))
  | 0=>λ_ _=>none
  | n + 1=>Qna fu Ab Aa (Qev fu Ab Aa n)
def Qrw (fu:Nat) (Ac:List Pair) (Aa:List Int):Option ((List (List Int))) :=
  Qac (Qkx fu Aa) λAb=>Qev fu Ac Ab fu (([]:List (List Int))) 0
def Qop (fu:Nat) (r1:Request):Option ((List (List Int))) :=
  Qac (Qgw fu r1) λAc=>bif (!Ac) then some (([]:List (List Int))) else Qac (Qp3 fu r1) λAb=>Qac (Qrw fu r1.fL Ab) λAa=>some (Aa)
def Qfu (fu:Nat)  (Ab:List Int) (v5:Int) (k1:Int → Option (Int)) (Aa:Int):Option (Int) :=
  bif (decide (Aa < (Ab.length:Int))) then Qac (ix Ab Aa) λAc=>bif (v5 == Ac) then some (Aa) else k1 (w64 (Aa + 1)) else some ((-1))
def Qcr (fu:Nat)  (Aa:List Int) (v5:Int):Nat → Int → Option (Int)
  | 0=>λ_=>none
  | n + 1=>Qfu fu Aa v5 (Qcr fu Aa v5 n)
def Qie (fu:Nat) (Aa:List Int) (v5:Int):Option (Int) :=
  Qcr fu Aa v5 fu 0
def Qes (fu:Nat) (Aa:List Int) (v5:Int):Option (Bool) :=
  Qac (Qie fu Aa v5) λx6=>some (decide (x6 ≥ 0))
def Qjd (fu:Nat) (y1:Item) (x2:Carton) (x8:List (List Int)):Option (Bool) :=
  bif (decide (x2.fE ≥ (x8.length:Int))) then some (true) else Qac (ix x8 x2.fE) λAa=>Qac (Qes fu Aa y1.fF) λAb=>some (!Ab)
def Qdm (fu:Nat) (k3:Typ → Bool → Int → Option (Typ × Bool)) (Aa:Int) (Ab:Typ) (Ac:Bool):Option (Typ × Bool) :=
  k3 Ab Ac (w64 (Aa + 1))
def Qjb (fu:Nat)  (r1:Request) (Af:List Int) (k3:Typ → Bool → Int → Option (Typ × Bool)) (Ab:Typ) (Ad:Bool) (Aa:Int):Option (Typ × Bool) :=
  bif (decide (Aa < (r1.fT.length:Int))) then Qac (ix r1.fT Aa) λAc=>Qac (Qq4 fu r1 Af Ac) λAe=>bif (!Ae) then Qdm fu k3 Aa Ab Ad else bif (!Ad) then Qdm fu k3 Aa Ac true else bif (decide (Ac.fK < Ab.fK)) then Qdm fu k3 Aa Ac true else bif (Ac.fK == Ab.fK) then bif (decide (Ac.f8 < Ab.f8)) then Qdm fu k3 Aa Ac true else Qdm fu k3 Aa Ab Ad else Qdm fu k3 Aa Ab Ad else some (Ab,Ad)
def Qel (fu:Nat)  (r1:Request) (Aa:List Int):Nat → Typ → Bool → Int → Option (Typ × Bool)
  | 0=>λ_ _ _=>none
  | n + 1=>Qjb fu r1 Aa (Qel fu r1 Aa n)
def Qn7 (fu:Nat) (r1:Request) (Aa:List Int):Option (Typ × Bool) :=
  Qel fu r1 Aa fu (⟨0,0,0,0,0,0,0⟩:Typ) false 0
def Qiy (fu:Nat) (k3:Int → Option (Int)) (Aa:Int)  : Option (Int) :=
  k3 (w64 (Aa + 1))
def Qhk (fu:Nat)  (r1:Request) (x5:Plan) (k6:Int → Option (Int)) (Aa:Int):Option (Int) :=
  bif (decide (Aa < (x5.fQ.length:Int))) then Qac (ix x5.fQ Aa) λAb=>Qac (Qn7 fu r1 Ab.fM) λAc=>bif (Ac.1.f8 != Ab.fO) then some (6) else k6 (w64 (Aa + 1)) else some (0)
def Qdz (fu:Nat)  (r1:Request) (x5:Plan):Nat → Int → Option (Int)
  | 0=>λ_=>none
  | n + 1=>Qhk fu r1 x5 (Qdz fu r1 x5 n)
def Qhm (fu:Nat)  (r1:Request) (x5:Plan) (Af:(List (List Int))) (k5:Int → Option (Int)) (Aa:Int):Option (Int) :=
  bif (decide (Aa < (x5.fQ.length:Int))) then Qac (ix x5.fQ Aa) λAb=>Qac (Qhq fu r1 Ab.fM) λAd=>Qac (Qay fu Ad (λAe=>Qjd fu Ae Ab Af)) λAc=>bif Ac then some (5) else k5 (w64 (Aa + 1)) else Qdz fu r1 x5 fu 0
def Qd2 (fu:Nat)  (r1:Request) (x5:Plan) (Aa:(List (List Int))):Nat → Int → Option (Int)
  | 0=>λ_=>none
  | n + 1=>Qhm fu r1 x5 Aa (Qd2 fu r1 x5 Aa n)
def Qho (fu:Nat)  (r1:Request) (x5:Plan) (k3:Int → Option (Int)) (Aa:Int):Option (Int) :=
  bif (decide (Aa < (x5.fQ.length:Int))) then Qac (ix x5.fQ Aa) λAc=>Qac (Qgy fu r1 Ac.fO) λAb=>bif (!Ab.2) then some (4) else Qac (Qq4 fu r1 Ac.fM Ab.1) λAd=>bif (!Ad) then some (4) else Qiy fu k3 Aa else Qac (Qop fu r1) λAe=>Qd2 fu r1 x5 Ae fu 0
def Qc3 (fu:Nat)  (r1:Request) (x5:Plan):Nat → Int → Option (Int)
  | 0=>λ_=>none
  | n + 1=>Qho fu r1 x5 (Qc3 fu r1 x5 n)
def Qi6 (fu:Nat) (r1:Request) (x5:Plan):Option (Int) :=
  Qc3 fu r1 x5 fu 0
def Qru (fu:Nat) (r1:Request) (x5:Carton) (Aa:Typ × Bool)  : Option (Int) :=
  Qac (Qoz fu r1 x5.fM) λAb=>some (w64 (Aa.1.f7 + Ab))
def Qq7 (fu:Nat) (r1:Request) (x5:Carton):Option (Int) :=
  Qac (Qgy fu r1 x5.fO) λAa=>bif (!Aa.2) then some (0) else Qac (Qgw fu r1) λAb=>bif (!Ab) then some (0) else Qru fu r1 x5 Aa
def Qsd (fu:Nat) (r1:Request) (x5:Carton) (Aa:Typ × Bool)  : Option (Box) :=
  Qac (Qq7 fu r1 x5) λAb=>some (⟨Aa.1.fW,Aa.1.fD,Aa.1.fH,Ab⟩:Box)
def Qq3 (fu:Nat) (r1:Request) (x5:Carton):Option (Box) :=
  Qac (Qgy fu r1 x5.fO) λAa=>bif (!Aa.2) then some (⟨0,0,0,0⟩:Box) else Qac (Qgw fu r1) λAb=>bif (!Ab) then some (⟨0,0,0,0⟩:Box) else Qsd fu r1 x5 Aa
def Qqp (fu:Nat) (p1:Pallet) (b2:Box) (Aa:Spot)  : Option (Bool) :=
  bif (decide ((w64 (Aa.fX + b2.fW)) ≤ p1.fW)) then bif (decide ((w64 (Aa.fY + b2.fD)) ≤ p1.fD)) then some (decide ((w64 (Aa.fZ + b2.fH)) ≤ p1.fH)) else some (false) else some (false)
def Qrq (fu:Nat) (p1:Pallet) (b2:Box) (Aa:Spot):Option (Bool) :=
  Qac (Qb8 fu Aa.fX) λAc=>bif (!Ac) then some (false) else Qac (Qb8 fu Aa.fY) λAd=>bif (!Ad) then some (false) else Qac (Qb8 fu Aa.fZ) λAf=>bif (!Af) then some (false) else Qac (Qcv fu b2.fW) λAb=>bif (!Ab) then some (false) else Qac (Qcv fu b2.fD) λAe=>bif (!Ae) then some (false) else Qac (Qcv fu b2.fH) λAg=>bif (!Ag) then some (false) else Qqp fu p1 b2 Aa
def Qo3 (fu:Nat) (b1:Box) (Aa:Spot):Option (Bool) :=
  Qac (Qb8 fu b1.fW) λAg=>bif Ag then Qac (Qb8 fu b1.fD) λAe=>bif Ae then Qac (Qb8 fu b1.fH) λAc=>bif Ac then Qac (Qb8 fu Aa.fX) λAf=>bif Af then Qac (Qb8 fu Aa.fY) λAd=>bif Ad then Qac (Qb8 fu Aa.fZ) λAb=>some (Ab) else some (false) else some (false) else some (false) else some (false) else some (false)
def Qq6 (fu:Nat) (a1:Int) (Aa:Int) (b3:Int) (Ab:Int):Option (Bool) :=
  bif (decide (a1 < (w64 (b3 + Ab)))) then some (decide (b3 < (w64 (a1 + Aa)))) else some (false)
def Qo5 (fu:Nat) (a1:Box) (Aa:Spot) (b3:Box) (t4:Spot)  : Option (Bool) :=
  Qac (Qq6 fu Aa.fX a1.fW t4.fX b3.fW) λAc=>bif Ac then Qac (Qq6 fu Aa.fY a1.fD t4.fY b3.fD) λAb=>bif Ab then Qac (Qq6 fu Aa.fZ a1.fH t4.fZ b3.fH) λAd=>some (Ad) else some (false) else some (false)
def Qi9 (fu:Nat) (a1:Box) (Aa:Spot) (b3:Box) (t4:Spot):Option (Bool) :=
  Qac (Qo3 fu a1 Aa) λAc=>bif (!Ac) then some (false) else Qac (Qo3 fu b3 t4) λAb=>bif (!Ab) then some (false) else bif (Aa.fJ != t4.fJ) then some (false) else Qo5 fu a1 Aa b3 t4
def Qkk (fu:Nat) (k3:Int → Int → Option (Int)) (Ab:Int) (Aa:Int):Option (Int) :=
  k3 Aa (w64 (Ab + 1))
def Qmh (fu:Nat)  (Ad:List Spot) (k3:Int → Int → Option (Int)) (Ab:Int) (Aa:Int):Option (Int) :=
  bif (decide (Aa < (Ad.length:Int))) then Qac (ix Ad Aa) λAc=>Qac (Qcd fu Ac.fJ 0 999999) λAe=>bif Ae then Qkk fu k3 Aa (if (w64 (Ac.fJ + 1)) > Ab then w64 (Ac.fJ + 1) else Ab) else Qkk fu k3 Aa Ab else some (Ab)
def Qe8 (fu:Nat)  (Aa:List Spot):Nat → Int → Int → Option (Int)
  | 0=>λ_ _=>none
  | n + 1=>Qmh fu Aa (Qe8 fu Aa n)
def Qpv (fu:Nat) (Aa:List Spot):Option (Int) :=
  Qe8 fu Aa fu 0 0
def Qi7 (fu:Nat) (k3:List Int → Int → Option ((List Int))) (Aa:Int) (Ab:List Int):Option ((List Int)) :=
  k3 Ab (w64 (Aa + 1))
def Qjr (fu:Nat)  (x1:Plan) (Ae:Int) (k3:List Int → Int → Option ((List Int))) (Ab:List Int) (Aa:Int):Option ((List Int)) :=
  bif (decide (Aa < (x1.fU.length:Int))) then Qac (ix x1.fU Aa) λAc=>bif (Ac.fJ == Ae) then Qac (Qhx 8 Ab (([Aa]:List Int))) λAd=>Qi7 fu k3 Aa Ad else Qi7 fu k3 Aa Ab else some (Ab)
def Qem (fu:Nat)  (x1:Plan) (Aa:Int):Nat → List Int → Int → Option ((List Int))
  | 0=>λ_ _=>none
  | n + 1=>Qjr fu x1 Aa (Qem fu x1 Aa n)
def Qke (fu:Nat) (x1:Plan) (Aa:Int):Option ((List Int)) :=
  bif ((x1.fU.length:Int) != (x1.fQ.length:Int)) then some (([]:List Int)) else Qem fu x1 Aa fu (([]:List Int)) 0
def Qig (fu:Nat)  (r1:Request) (x5:Plan) (Ab:(List Int)) (k1:Int → Int → Option (Int)) (Ac:Int) (Aa:Int):Option (Int) :=
  bif (decide (Aa < (Ab.length:Int))) then Qac (ix Ab Aa) λAf=>Qac (ix x5.fQ Af) λAd=>Qac (Qq7 fu r1 Ad) λAe=>k1 (w64 (Ac + Ae)) (w64 (Aa + 1)) else some (Ac)
def Qeh (fu:Nat)  (r1:Request) (x5:Plan) (Aa:(List Int)):Nat → Int → Int → Option (Int)
  | 0=>λ_ _=>none
  | n + 1=>Qig fu r1 x5 Aa (Qeh fu r1 x5 Aa n)
def Qkv (fu:Nat) (r1:Request) (x5:Plan) (Ab:Int):Option (Int) :=
  Qac (Qke fu x5 Ab) λAa=>Qeh fu r1 x5 Aa fu 0 0
def Qnc (fu:Nat) (i1:Int) (x2:Plan) (Ab:List Int):Option (Bool) :=
  Qac (ix x2.fQ i1) λAa=>Qac (ix Ab 0) λAd=>Qac (ix x2.fQ Ad) λAc=>some (Aa.fE != Ac.fE)
def Qiw (fu:Nat) (k4:Int → Option (Int)) (x5:Plan) (Ac:List Box) (Aa:Int) (k5:Int → Option (Int)) (Ab:Int):Option (Int) :=
  bif (decide (Ab < Aa)) then Qac (ix Ac Aa) λAf=>Qac (ix x5.fU Aa) λAh=>Qac (ix Ac Ab) λAe=>Qac (ix x5.fU Ab) λAd=>Qac (Qi9 fu Af Ah Ae Ad) λAg=>bif Ag then some (8) else k5 (w64 (Ab + 1)) else k4 (w64 (Aa + 1))
def Qe0 (fu:Nat) (k4:Int → Option (Int)) (x5:Plan) (Ab:List Box) (Aa:Int):Nat → Int → Option (Int)
  | 0=>λ_=>none
  | n + 1=>Qiw fu k4 x5 Ab Aa (Qe0 fu k4 x5 Ab Aa n)
def Qmj (fu:Nat) (Aa:Int → Option (Int)) (Ab:Int)  : Option (Int) :=
  Aa (w64 (Ab + 1))
def Qlu (fu:Nat) (Ab:Int → Option (Int)) (x5:Plan) (Ac:Int) (Aa:(List Int))  : Option (Int) :=
  Qac (Qcm fu Aa (λAe=>Qnc fu Ae x5 Aa)) λAd=>bif Ad then some (9) else Qmj fu Ab Ac
def Qi3 (fu:Nat)  (r1:Request) (x5:Plan) (Ad:Int) (Ac:Int → Option (Int)) (Aa:Int):Option (Int) :=
  bif (decide (Aa < Ad)) then Qac (Qke fu x5 Aa) λAb=>bif ((Ab.length:Int) == 0) then some (9) else Qac (Qkv fu r1 x5 Aa) λAe=>bif (decide (Ae > r1.fJ.fV)) then some (9) else Qlu fu Ac x5 Aa Ab else some (0)
def Qc5 (fu:Nat)  (r1:Request) (x5:Plan) (Aa:Int):Nat → Int → Option (Int)
  | 0=>λ_=>none
  | n + 1=>Qi3 fu r1 x5 Aa (Qc5 fu r1 x5 Aa n)
def Qio (fu:Nat)  (r1:Request) (x5:Plan) (Ab:List Box) (k4:Int → Option (Int)) (Aa:Int):Option (Int) :=
  bif (decide (Aa < (Ab.length:Int))) then Qe0 fu k4 x5 Ab Aa fu 0 else Qac (Qpv fu x5.fU) λAc=>Qc5 fu r1 x5 Ac fu 0
def Qc6 (fu:Nat)  (r1:Request) (x5:Plan) (Aa:List Box):Nat → Int → Option (Int)
  | 0=>λ_=>none
  | n + 1=>Qio fu r1 x5 Aa (Qc6 fu r1 x5 Aa n)
def Qip (fu:Nat)  (r1:Request) (x5:Plan) (k1:List Box → Int → Option (Int)) (Ac:List Box) (Aa:Int):Option (Int) :=
  bif (decide (Aa < (x5.fQ.length:Int))) then Qac (ix x5.fQ Aa) λAe=>Qac (Qq3 fu r1 Ae) λAb=>Qac (ix x5.fU Aa) λAf=>Qac (Qrq fu r1.fJ Ab Af) λAd=>bif (!Ad) then some (7) else Qac (Qhx 32 Ac (([Ab]:List Box))) λAg=>k1 Ag (w64 (Aa + 1)) else Qc6 fu r1 x5 Ac fu 0
def Qe3 (fu:Nat)  (r1:Request) (x5:Plan):Nat → List Box → Int → Option (Int)
  | 0=>λ_ _=>none
  | n + 1=>Qip fu r1 x5 (Qe3 fu r1 x5 n)
def Qmk (fu:Nat) (r1:Request) (x5:Plan):Option (Int) :=
  Qe3 fu r1 x5 fu (([]:List Box)) 0
def Qrm (fu:Nat) (r1:Request) (x5:Plan)  : Option (Int) :=
  Qac (Qoe fu x5) λAd=>Qac (Qc2 fu Ad) λAf=>Qac (Qou fu r1) λAc=>Qac (Qsc fu (Ac.length:Int)) λAe=>Qac (Qgd fu Af Ae) λAb=>bif (!Ab) then some (3) else Qac (Qi6 fu r1 x5) λAa=>bif (Aa != 0) then some (Aa) else Qac (Qmk fu r1 x5) λAg=>some (Ag)
def Qs2 (fu:Nat) (r1:Request) (x5:Plan):Option (Int) :=
  Qac (Qgw fu r1) λAa=>bif (!Aa) then some (1) else Qac (Qrz fu x5) λAb=>bif (!Ab) then some (2) else Qac (Qbf fu x5.fQ (λAc=>Qsr fu Ac)) λAd=>bif Ad then some (2) else Qrm fu r1 x5
def Qgx (fu:Nat) (r1:Request) (x5:Plan):Option (Bool) :=
  Qac (Qs2 fu r1 x5) λAa=>some (Aa == 0)
def Qhu (fu:Nat) (Ac:List Spot → Int → Option (Plan)) (Ab:Int) (Aa:List Spot):Option (Plan) :=
  Ac Aa (w64 (Ab + 1))
def Qhy (fu:Nat) (Ab:Bool → Int → Option (Plan)) (Aa:Int) (Ac:Bool):Option (Plan) :=
  Ab Ac (w64 (Aa + 1))
def Qlx (fu:Nat) (Ah:List Spot → Int → Option (Plan)) (Al:List Spot → Option (Plan)) (Af:List Box) (Ac:Int) (Am:Box) (Ad:List Spot) (Aa:Spot) (Ae:Bool → Int → Option (Plan)) (Ag:Bool) (Ab:Int):Option (Plan) :=
  bif (decide (Ab < (Af.length:Int))) then Qac (ix Af Ab) λAk=>bif Ag then Qhy fu Ae Ab true else bif (Ab != Ac) then Qac (ix Ad Ab) λAj=>Qac (Qi9 fu Am (⟨Aa.fJ,Aa.fX,Aa.fY,w64 (Aa.fZ - 1)⟩:Spot) Ak Aj) λAi=>Qhy fu Ae Ab Ai else Qhy fu Ae Ab false else bif Ag then Qhu fu Ah Ac Ad else Qac (ix Ad Ac) λAo=>Al (Qge Ad Ac (⟨Aa.fJ,Aa.fX,Aa.fY,w64 (Aa.fZ - 1)⟩:Spot))
def Qea (fu:Nat) (Ab:List Spot → Int → Option (Plan)) (Af:List Spot → Option (Plan)) (Aa:List Box) (Ac:Int) (Ag:Box) (Ae:List Spot) (Ad:Spot):Nat → Bool → Int → Option (Plan)
  | 0=>λ_ _=>none
  | n + 1=>Qlx fu Ab Af Aa Ac Ag Ae Ad (Qea fu Ab Af Aa Ac Ag Ae Ad n)
def Qqy (fu:Nat) (Ac:List Spot → Int → Option (Plan)) (Ae:List Box) (Aa:Int) (Ag:Box) (Af:List Spot → Option (Plan)) (Ab:List Spot):Option (Plan) :=
  Qac (ix Ab Aa) λAd=>bif (decide (Ad.fZ > 0)) then Qac (ix Ab Aa) λAh=>Qea fu Ac Af Ae Aa Ag Ab Ad fu false 0 else Qhu fu Ac Aa Ab
def Qfd (fu:Nat) (Ad:List Spot → Int → Option (Plan)) (Ab:List Box) (Aa:Int) (Ac:Box):Nat → List Spot → Option (Plan)
  | 0=>λ_=>none
  | n + 1=>Qqy fu Ad Ab Aa Ac (Qfd fu Ad Ab Aa Ac n)
def Qls (fu:Nat)  (Ae:Plan) (Aa:List Box) (Ad:List Spot → Int → Option (Plan)) (Ac:List Spot) (Ab:Int):Option (Plan) :=
  bif (decide (Ab < (Aa.length:Int))) then Qac (ix Aa Ab) λAf=>Qfd fu Ad Aa Ab Af fu Ac else some (⟨Ae.fQ,Ac⟩:Plan)
def Qa8 (fu:Nat)  (Ab:Plan) (Aa:List Box):Nat → List Spot → Int → Option (Plan)
  | 0=>λ_ _=>none
  | n + 1=>Qls fu Ab Aa (Qa8 fu Ab Aa n)
def Qk5 (fu:Nat)  (r1:Request) (x5:Plan) (Ac:Plan) (k1:List Box → Int → Option (Plan)) (Ab:List Box) (Aa:Int):Option (Plan) :=
  bif (decide (Aa < (x5.fQ.length:Int))) then Qac (ix x5.fQ Aa) λAe=>Qac (Qq3 fu r1 Ae) λAf=>Qac (Qhx 32 Ab (([Af]:List Box))) λAd=>k1 Ad (w64 (Aa + 1)) else Qa8 fu Ac Ab fu Ac.fU 0
def Qgr (fu:Nat)  (r1:Request) (x5:Plan) (Aa:Plan):Nat → List Box → Int → Option (Plan)
  | 0=>λ_ _=>none
  | n + 1=>Qk5 fu r1 x5 Aa (Qgr fu r1 x5 Aa n)
def Qgv (fu:Nat) (r1:Request) (x5:Plan):Option (Plan) :=
  Qac (Qms fu x5) λAa=>Qac (Qgx fu r1 x5) λAb=>bif (!Ab) then some (Aa) else Qgr fu r1 x5 Aa fu (([]:List Box)) 0
def Qly (fu:Nat)  (x1:Plan) (Ae:List Spot) (k1:List Carton → Int → Option (Plan)) (Ab:List Carton) (Aa:Int):Option (Plan) :=
  bif (decide (Aa < (x1.fQ.length:Int))) then Qac (ix x1.fQ Aa) λAd=>Qac (Qkg fu Ad) λAc=>Qac (Qhx 40 Ab [Ac]) λAf=>k1 Af (w64 (Aa + 1)) else some (⟨Ab,Ae⟩:Plan)
def Qgm (fu:Nat)  (x1:Plan) (Aa:List Spot):Nat → List Carton → Int → Option (Plan)
  | 0=>λ_ _=>none
  | n + 1=>Qly fu x1 Aa (Qgm fu x1 Aa n)
def Qp1 (fu:Nat) (x1:Plan):Option (Plan) :=
  Qac (Qhx 32 (([]:List Spot)) x1.fU) λAa=>Qgm fu x1 Aa fu (([]:List Carton)) 0
def Qib (fu:Nat) (k4:Int → Option (Bool)) (Aa:Int)  : Option (Bool) :=
  k4 (w64 (Aa + 1))
def Qiz (fu:Nat)  (x1:Carton) (k4:Int → Option (Bool)) (Aa:Int):Option (Bool) :=
  bif (decide (Aa < (x1.fM.length:Int))) then Qac (ix x1.fM Aa) λAb=>Qac (Qar fu Ab 0 999) λAc=>bif (!Ac) then some (false) else bif (decide (Aa > 0)) then Qac (ix x1.fM Aa) λAe=>Qac (ix x1.fM (w64 (Aa - 1))) λAd=>bif (decide (Ab ≤ Ad)) then some (false) else Qib fu k4 Aa else Qib fu k4 Aa else some (true)
def Qdx (fu:Nat)  (x1:Carton):Nat → Int → Option (Bool)
  | 0=>λ_=>none
  | n + 1=>Qiz fu x1 (Qdx fu x1 n)
def Qll (fu:Nat) (x1:Carton)  : Option (Bool) :=
  Qdx fu x1 fu 0
def Qml (fu:Nat) (x1:Carton):Option (Bool) :=
  Qac (Qon fu x1.fO) λAb=>bif (!Ab) then some (false) else Qac (Qar fu x1.fE 0 3) λAa=>bif (!Aa) then some (false) else bif (decide ((x1.fM.length:Int) > 100)) then some (false) else Qll fu x1
def Qqn (fu:Nat) (k4:Int → Option (Bool)) (Aa:Int)  : Option (Bool) :=
  k4 (w64 (Aa + 1))
def Qnb (fu:Nat)  (x1:Plan) (k4:Int → Option (Bool)) (Ab:Int):Option (Bool) :=
  bif (decide (Ab < (x1.fQ.length:Int))) then Qac (ix x1.fU Ab) λAa=>Qac (ix x1.fQ Ab) λAd=>Qac (Qml fu Ad) λAg=>bif (!Ag) then some (false) else Qac (Qar fu Aa.fJ 0 2000) λAc=>bif (!Ac) then some (false) else Qac (Qar fu Aa.fX 0 2000) λAh=>bif (!Ah) then some (false) else Qac (Qar fu Aa.fY 0 2000) λAe=>bif (!Ae) then some (false) else Qac (Qar fu Aa.fZ 0 2000) λAf=>bif (!Af) then some (false) else Qqn fu k4 Ab else some (true)
def Qf6 (fu:Nat)  (x1:Plan):Nat → Int → Option (Bool)
  | 0=>λ_=>none
  | n + 1=>Qnb fu x1 (Qf6 fu x1 n)
def Qqv (fu:Nat) (x1:Plan)  : Option (Bool) :=
  Qf6 fu x1 fu 0
def Qr1 (fu:Nat) (x1:Plan):Option (Bool) :=
  bif ((x1.fQ.length:Int) != (x1.fU.length:Int)) then some (false) else bif (decide ((x1.fQ.length:Int) > 100)) then some (false) else Qqv fu x1
def Qjx (fu:Nat)  (x1:Plan) (k1:Int → Option (Bool)) (Aa:Int):Option (Bool) :=
  bif (decide (Aa < (x1.fQ.length:Int))) then Qac (ix x1.fQ Aa) λAb=>bif ((Ab.fM.length:Int) == 0) then some (true) else k1 (w64 (Aa + 1)) else some (false)
def Qf0 (fu:Nat)  (x1:Plan):Nat → Int → Option (Bool)
  | 0=>λ_=>none
  | n + 1=>Qjx fu x1 (Qf0 fu x1 n)
def Qom (fu:Nat) (x1:Plan):Option (Bool) :=
  Qf0 fu x1 fu 0
def Qlq (fu:Nat)  (x1:Plan) (k1:List Int → Int → Option ((List Int))) (Ab:List Int) (Aa:Int):Option ((List Int)) :=
  bif (decide (Aa < (x1.fQ.length:Int))) then Qac (ix x1.fQ Aa) λAd=>Qac (Qhx 8 Ab Ad.fM) λAc=>k1 Ac (w64 (Aa + 1)) else some (Ab)
def Qgo (fu:Nat)  (x1:Plan):Nat → List Int → Int → Option ((List Int))
  | 0=>λ_ _=>none
  | n + 1=>Qlq fu x1 (Qgo fu x1 n)
def Qpx (fu:Nat) (x1:Plan):Option ((List Int)) :=
  Qgo fu x1 fu (([]:List Int)) 0
def Qtp (fu:Nat) (Aa:Bool):Option (Int) :=
  bif Aa then some (1) else some (0)
def Qlm (fu:Nat)  (Ac:List Int) (x5:Int) (k1:Int → Int → Option (Int)) (Ab:Int) (Aa:Int):Option (Int) :=
  bif (decide (Aa < (Ac.length:Int))) then Qac (ix Ac Aa) λAd=>Qac (Qtp fu (Ad == x5)) λAe=>k1 (w64 (Ab + Ae)) (w64 (Aa + 1)) else some (Ab)
def Qgg (fu:Nat)  (Aa:List Int) (x5:Int):Nat → Int → Int → Option (Int)
  | 0=>λ_ _=>none
  | n + 1=>Qlm fu Aa x5 (Qgg fu Aa x5 n)
def Qqc (fu:Nat) (Aa:List Int) (x5:Int):Option (Int) :=
  Qgg fu Aa x5 fu 0 0
def Qjw (fu:Nat)  (Ad:List Int) (Ab:(List Int)) (k1:Int → Option (Bool)) (Aa:Int):Option (Bool) :=
  bif (decide (Aa < (Ad.length:Int))) then Qac (Qqc fu Ab Aa) λAc=>bif (Ac != 1) then some (false) else k1 (w64 (Aa + 1)) else some (true)
def Qfp (fu:Nat)  (Ab:List Int) (Aa:(List Int)):Nat → Int → Option (Bool)
  | 0=>λ_=>none
  | n + 1=>Qjw fu Ab Aa (Qfp fu Ab Aa n)
def Qog (fu:Nat) (Ab:List Int) (x5:Plan):Option (Bool) :=
  Qac (Qpx fu x5) λAa=>bif ((Aa.length:Int) != (Ab.length:Int)) then some (false) else Qfp fu Ab Aa fu 0
def Qnn (fu:Nat) (k7:Int → Option (Bool)) (Aa:Int)  : Option (Bool) :=
  k7 (w64 (Aa + 1))
def Qnf (fu:Nat) (k7:Int → Option (Bool)) (r1:Request) (x5:Plan) (Aa:Int) (Ac:Typ) (Ae:Bool):Option (Bool) :=
  bif (!Ae) then some (false) else Qac (ix x5.fQ Aa) λAb=>Qac (Qq2 fu r1 Ab.fM Ac) λAd=>bif (!Ad) then some (false) else Qnn fu k7 Aa
def Qjm (fu:Nat)  (r1:Request) (x5:Plan) (k7:Int → Option (Bool)) (Aa:Int):Option (Bool) :=
  bif (decide (Aa < (x5.fQ.length:Int))) then Qac (ix x5.fQ Aa) λAc=>Qac (Qh8 fu r1 Ac.fO) λAb=>Qnf fu k7 r1 x5 Aa Ab.1 Ab.2 else some (true)
def Qdp (fu:Nat)  (r1:Request) (x5:Plan):Nat → Int → Option (Bool)
  | 0=>λ_=>none
  | n + 1=>Qjm fu r1 x5 (Qdp fu r1 x5 n)
def Qoq (fu:Nat) (r1:Request) (x5:Plan):Option (Bool) :=
  Qdp fu r1 x5 fu 0
def Qk6 (fu:Nat)  (Ab:List (List Int)) (Ad:Int) (k1:Int → Option (Int)) (Aa:Int):Option (Int) :=
  bif (decide (Aa < (Ab.length:Int))) then Qac (ix Ab Aa) λAe=>Qac (Qov fu Ae Ad) λAc=>bif Ac then some (Aa) else k1 (w64 (Aa + 1)) else some ((-1))
def Qgj (fu:Nat)  (Ab:List (List Int)) (Aa:Int):Nat → Int → Option (Int)
  | 0=>λ_=>none
  | n + 1=>Qk6 fu Ab Aa (Qgj fu Ab Aa n)
def Qp6 (fu:Nat) (Ab:List (List Int)) (Aa:Int):Option (Int) :=
  Qgj fu Ab Aa fu 0
def Qnr (fu:Nat) (Ab:Int → Option (Bool)) (Aa:Int)  : Option (Bool) :=
  Ab (w64 (Aa + 1))
def Qni (fu:Nat) (Ab:Int → Option (Bool)) (Aa:Int)  : Option (Bool) :=
  Ab (w64 (Aa + 1))
def Qng (fu:Nat) (Af:Int → Option (Bool)) (x9:Plan) (Ad:(List (List Int))) (Aa:Int) (Ae:Int) (Ac:Item):Option (Bool) :=
  Qac (ix x9.fQ Aa) λAg=>Qac (Qp6 fu Ad Ac.fF) λAb=>bif (Ab != Ag.fE) then some (false) else Qni fu Af Ae
def Qjn (fu:Nat) (Ah:Int → Option (Bool)) (r1:Request) (Ai:List Int) (x9:Plan) (Ad:(List (List Int))) (Aa:Int) (Ag:Int → Option (Bool)) (Ab:Int):Option (Bool) :=
  Qac (ix x9.fQ Aa) λAc=>bif (decide (Ab < (Ac.fM.length:Int))) then Qac (ix x9.fQ Aa) λAj=>Qac (ix Ac.fM Ab) λAe=>Qac (Qir fu r1 Ai Ae) λAf=>Qng fu Ag x9 Ad Aa Ab Af.1 else Qnr fu Ah Aa
def Qdl (fu:Nat) (Ac:Int → Option (Bool)) (r1:Request) (Ad:List Int) (x9:Plan) (Aa:(List (List Int))) (Ab:Int):Nat → Int → Option (Bool)
  | 0=>λ_=>none
  | n + 1=>Qjn fu Ac r1 Ad x9 Aa Ab (Qdl fu Ac r1 Ad x9 Aa Ab n)
def Qjo (fu:Nat)  (r1:Request) (Ad:List Int) (x9:Plan) (Ab:(List (List Int))) (Ac:Int → Option (Bool)) (Aa:Int):Option (Bool) :=
  bif (decide (Aa < (x9.fQ.length:Int))) then Qdl fu Ac r1 Ad x9 Ab Aa fu 0 else some (true)
def Qcc (fu:Nat)  (r1:Request) (Ab:List Int) (x9:Plan) (Aa:(List (List Int))):Nat → Int → Option (Bool)
  | 0=>λ_=>none
  | n + 1=>Qjo fu r1 Ab x9 Aa (Qcc fu r1 Ab x9 Aa n)
def Qoa (fu:Nat) (r1:Request) (Ab:List Int) (x9:Plan):Option (Bool) :=
  Qac (Qg0 fu r1) λAa=>Qcc fu r1 Ab x9 Aa fu 0
def Qny (fu:Nat) (k7:Int → Option (Bool)) (Aa:Int)  : Option (Bool) :=
  k7 (w64 (Aa + 1))
def Qnm (fu:Nat) (k7:Int → Option (Bool)) (x5:Plan) (Aa:Int) (Ad:Typ) (Ac:Bool):Option (Bool) :=
  bif (!Ac) then some (false) else Qac (ix x5.fQ Aa) λAb=>bif (Ad.f8 != Ab.fO) then some (false) else Qny fu k7 Aa
def Qjt (fu:Nat)  (r1:Request) (x5:Plan) (k7:Int → Option (Bool)) (Aa:Int):Option (Bool) :=
  bif (decide (Aa < (x5.fQ.length:Int))) then Qac (ix x5.fQ Aa) λAc=>Qac (Qkb fu r1 Ac.fM) λAb=>Qnm fu k7 x5 Aa Ab.1 Ab.2 else some (true)
def Qdo (fu:Nat)  (r1:Request) (x5:Plan):Nat → Int → Option (Bool)
  | 0=>λ_=>none
  | n + 1=>Qjt fu r1 x5 (Qdo fu r1 x5 n)
def Qot (fu:Nat) (r1:Request) (x5:Plan):Option (Bool) :=
  Qdo fu r1 x5 fu 0
def Qh4 (fu:Nat) (b1:Box) (Aa:Spot):Option (Bool) :=
  Qac (Qar fu b1.fW 0 2000) λAg=>bif Ag then Qac (Qar fu b1.fD 0 2000) λAe=>bif Ae then Qac (Qar fu b1.fH 0 2000) λAc=>bif Ac then Qac (Qar fu Aa.fX 0 2000) λAf=>bif Af then Qac (Qar fu Aa.fY 0 2000) λAd=>bif Ad then Qac (Qar fu Aa.fZ 0 2000) λAb=>some (Ab) else some (false) else some (false) else some (false) else some (false) else some (false)
def Qry (fu:Nat) (p1:Pallet) (b2:Box) (Aa:Spot):Option (Bool) :=
  Qac (Qh4 fu b2 Aa) λAb=>bif Ab then bif (decide (b2.fW > 0)) then bif (decide (b2.fD > 0)) then bif (decide (b2.fH > 0)) then bif (decide ((w64 (Aa.fX + b2.fW)) ≤ p1.fW)) then bif (decide ((w64 (Aa.fY + b2.fD)) ≤ p1.fD)) then some (decide ((w64 (Aa.fZ + b2.fH)) ≤ p1.fH)) else some (false) else some (false) else some (false) else some (false) else some (false) else some (false)
def Qix (fu:Nat)  (r1:Request) (x5:Plan) (k1:Int → Option (Bool)) (Aa:Int):Option (Bool) :=
  bif (decide (Aa < (x5.fQ.length:Int))) then Qac (ix x5.fQ Aa) λAc=>Qac (ix x5.fU Aa) λAb=>Qac (Qi8 fu r1 Ac) λAe=>Qac (Qry fu r1.fJ Ae Ab) λAd=>bif (!Ad) then some (false) else k1 (w64 (Aa + 1)) else some (true)
def Qe1 (fu:Nat)  (r1:Request) (x5:Plan):Nat → Int → Option (Bool)
  | 0=>λ_=>none
  | n + 1=>Qix fu r1 x5 (Qe1 fu r1 x5 n)
def Qmu (fu:Nat) (r1:Request) (x5:Plan):Option (Bool) :=
  Qe1 fu r1 x5 fu 0
def Qh9 (fu:Nat) (a1:Int) (Ab:Int) (b3:Int) (Aa:Int):Option (Bool) :=
  bif (decide (a1 < (w64 (b3 + Aa)))) then some (decide (b3 < (w64 (a1 + Ab)))) else some (false)
def Qm0 (fu:Nat) (a1:Box) (Aa:Spot) (b3:Box) (t4:Spot):Option (Bool) :=
  Qac (Qh4 fu a1 Aa) λAf=>bif Af then Qac (Qh4 fu b3 t4) λAe=>bif Ae then bif (Aa.fJ == t4.fJ) then Qac (Qh9 fu Aa.fX a1.fW t4.fX b3.fW) λAd=>bif Ad then Qac (Qh9 fu Aa.fY a1.fD t4.fY b3.fD) λAc=>bif Ac then Qac (Qh9 fu Aa.fZ a1.fH t4.fZ b3.fH) λAb=>some (Ab) else some (false) else some (false) else some (false) else some (false) else some (false)
def Qjf (fu:Nat) (k3:Int → Option (Bool)) (r1:Request) (x5:Plan) (Ab:Int) (k4:Int → Option (Bool)) (Aa:Int):Option (Bool) :=
  bif (decide (Aa < Ab)) then Qac (ix x5.fQ Ab) λAf=>Qac (ix x5.fU Ab) λAc=>Qac (ix x5.fQ Aa) λAe=>Qac (ix x5.fU Aa) λAh=>Qac (Qi8 fu r1 Af) λAd=>Qac (Qi8 fu r1 Ae) λAi=>Qac (Qm0 fu Ad Ac Ai Ah) λAg=>bif Ag then some (false) else k4 (w64 (Aa + 1)) else k3 (w64 (Ab + 1))
def Qfm (fu:Nat) (k3:Int → Option (Bool)) (r1:Request) (x5:Plan) (Aa:Int):Nat → Int → Option (Bool)
  | 0=>λ_=>none
  | n + 1=>Qjf fu k3 r1 x5 Aa (Qfm fu k3 r1 x5 Aa n)
def Qjk (fu:Nat)  (r1:Request) (x5:Plan) (k3:Int → Option (Bool)) (Aa:Int):Option (Bool) :=
  bif (decide (Aa < (x5.fQ.length:Int))) then Qfm fu k3 r1 x5 Aa fu 0 else some (true)
def Qds (fu:Nat)  (r1:Request) (x5:Plan):Nat → Int → Option (Bool)
  | 0=>λ_=>none
  | n + 1=>Qjk fu r1 x5 (Qds fu r1 x5 n)
def Qn9 (fu:Nat) (r1:Request) (x5:Plan):Option (Bool) :=
  Qds fu r1 x5 fu 0
def Qi0 (fu:Nat) (k5:List Int → Int → Option ((List Int))) (Aa:Int) (Ab:List Int):Option ((List Int)) :=
  k5 Ab (w64 (Aa + 1))
def Qnj (fu:Nat) (k5:List Int → Int → Option ((List Int))) (x1:Plan) (Ae:Int) (Ab:List Int) (Aa:Int)  : Option ((List Int)) :=
  Qac (ix x1.fU Aa) λAd=>bif (Ad.fJ == Ae) then Qac (Qhx 8 Ab (([Aa]:List Int))) λAc=>Qi0 fu k5 Aa Ac else Qi0 fu k5 Aa Ab
def Qhg (fu:Nat)  (x1:Plan) (Ac:Int) (k5:List Int → Int → Option ((List Int))) (Aa:List Int) (Ab:Int):Option ((List Int)) :=
  bif (decide (Ab < (x1.fQ.length:Int))) then bif ((x1.fQ.length:Int) == (x1.fU.length:Int)) then Qnj fu k5 x1 Ac Aa Ab else some (Aa) else some (Aa)
def Qc0 (fu:Nat)  (x1:Plan) (Aa:Int):Nat → List Int → Int → Option ((List Int))
  | 0=>λ_ _=>none
  | n + 1=>Qhg fu x1 Aa (Qc0 fu x1 Aa n)
def Qkh (fu:Nat) (x1:Plan) (Aa:Int):Option ((List Int)) :=
  Qc0 fu x1 Aa fu (([]:List Int)) 0
def Qif (fu:Nat)  (r1:Request) (x5:Plan) (Ab:(List Int)) (k1:Int → Int → Option (Int)) (Ac:Int) (Aa:Int):Option (Int) :=
  bif (decide (Aa < (Ab.length:Int))) then Qac (ix Ab Aa) λAd=>Qac (ix x5.fQ Ad) λAe=>Qac (Qq8 fu r1 Ae) λAf=>k1 (w64 (Ac + Af)) (w64 (Aa + 1)) else some (Ac)
def Qej (fu:Nat)  (r1:Request) (x5:Plan) (Aa:(List Int)):Nat → Int → Int → Option (Int)
  | 0=>λ_ _=>none
  | n + 1=>Qif fu r1 x5 Aa (Qej fu r1 x5 Aa n)
def Qku (fu:Nat) (r1:Request) (x5:Plan) (Ab:Int):Option (Int) :=
  Qac (Qkh fu x5 Ab) λAa=>Qej fu r1 x5 Aa fu 0 0
def Qjh (fu:Nat) (Aa:Int → Option (Bool)) (Ab:Int)  : Option (Bool) :=
  Aa (w64 (Ab + 1))
def Qic (fu:Nat) (Af:Int → Option (Bool)) (x5:Plan) (Ag:Int) (Aa:(List Int)) (Ac:Int → Option (Bool)) (Ab:Int):Option (Bool) :=
  bif (decide (Ab < (Aa.length:Int))) then Qac (ix Aa Ab) λAh=>Qac (ix x5.fQ Ah) λAd=>Qac (ix Aa 0) λAi=>Qac (ix x5.fQ Ai) λAe=>bif (Ad.fE != Ae.fE) then some (false) else Ac (w64 (Ab + 1)) else Qjh fu Af Ag
def Qei (fu:Nat) (Ab:Int → Option (Bool)) (x5:Plan) (Ac:Int) (Aa:(List Int)):Nat → Int → Option (Bool)
  | 0=>λ_=>none
  | n + 1=>Qic fu Ab x5 Ac Aa (Qei fu Ab x5 Ac Aa n)
def Qjg (fu:Nat) (Ab:Int → Option (Bool)) (x5:Plan) (Ac:Int) (Aa:(List Int))  : Option (Bool) :=
  Qei fu Ab x5 Ac Aa fu 1
def Qid (fu:Nat)  (r1:Request) (x5:Plan) (Ac:Int) (Ad:Int → Option (Bool)) (Aa:Int):Option (Bool) :=
  bif (decide (Aa < Ac)) then Qac (Qkh fu x5 Aa) λAb=>bif ((Ab.length:Int) == 0) then some (false) else Qac (Qku fu r1 x5 Aa) λAe=>bif (decide (Ae > r1.fJ.fV)) then some (false) else Qjg fu Ad x5 Aa Ab else some (true)
def Qb1 (fu:Nat)  (r1:Request) (x5:Plan) (Aa:Int):Nat → Int → Option (Bool)
  | 0=>λ_=>none
  | n + 1=>Qid fu r1 x5 Aa (Qb1 fu r1 x5 Aa n)
def Qkp (fu:Nat) (r1:Request) (x5:Plan):Option (Bool) :=
  Qac (Qm1 fu x5.fU) λAa=>Qb1 fu r1 x5 Aa fu 0
def Qr6 (fu:Nat) (r1:Request) (x5:Plan)  : Option (Int) :=
  Qac (Qcg fu r1) λAa=>Qac (Qog fu Aa x5) λAc=>bif (!Ac) then some (3) else Qac (Qoq fu r1 x5) λAe=>bif (!Ae) then some (4) else Qac (Qoa fu r1 Aa x5) λAb=>bif (!Ab) then some (5) else Qac (Qot fu r1 x5) λAh=>bif (!Ah) then some (6) else Qac (Qmu fu r1 x5) λAf=>bif (!Af) then some (7) else Qac (Qn9 fu r1 x5) λAd=>bif (!Ad) then some (8) else Qac (Qkp fu r1 x5) λAg=>bif (!Ag) then some (9) else some (0)
def Qsy (fu:Nat) (r1:Request) (x5:Plan):Option (Int) :=
  Qac (Qep fu r1) λAa=>bif (Aa != 0) then some (1) else Qac (Qr1 fu x5) λAb=>bif (!Ab) then some (2) else Qac (Qom fu x5) λAc=>bif Ac then some (2) else Qr6 fu r1 x5
def Qkw (fu:Nat) (r1:Request) (x5:Plan):Option (Bool) :=
  Qac (Qsy fu r1 x5) λAa=>some (Aa == 0)
def Qjl (fu:Nat)  (r1:Request) (x5:Plan) (k1:List Box → Int → Option ((List Box))) (Ab:List Box) (Aa:Int):Option ((List Box)) :=
  bif (decide (Aa < (x5.fQ.length:Int))) then Qac (ix x5.fQ Aa) λAe=>Qac (Qi8 fu r1 Ae) λAc=>Qac (Qhx 32 Ab (([Ac]:List Box))) λAd=>k1 Ad (w64 (Aa + 1)) else some (Ab)
def Qfx (fu:Nat)  (r1:Request) (x5:Plan):Nat → List Box → Int → Option ((List Box))
  | 0=>λ_ _=>none
  | n + 1=>Qjl fu r1 x5 (Qfx fu r1 x5 n)
def Qoc (fu:Nat) (r1:Request) (x5:Plan):Option ((List Box)) :=
  Qfx fu r1 x5 fu (([]:List Box)) 0
def Qkj (fu:Nat) (k3:Int → Option (Bool)) (Aa:Int)  : Option (Bool) :=
  k3 (w64 (Aa + 1))
def Qk8 (fu:Nat)  (Ab:List Box) (x5:Plan) (i9:Int) (Ae:Spot) (k3:Int → Option (Bool)) (Aa:Int):Option (Bool) :=
  bif (decide (Aa < (Ab.length:Int))) then bif (Aa != i9) then Qac (ix Ab i9) λAf=>Qac (ix Ab Aa) λAc=>Qac (ix x5.fU Aa) λAd=>Qac (Qm0 fu Af Ae Ac Ad) λAg=>bif Ag then some (false) else Qkj fu k3 Aa else Qkj fu k3 Aa else some (true)
def Qfh (fu:Nat)  (Ab:List Box) (x5:Plan) (i9:Int) (Aa:Spot):Nat → Int → Option (Bool)
  | 0=>λ_=>none
  | n + 1=>Qk8 fu Ab x5 i9 Aa (Qfh fu Ab x5 i9 Aa n)
def Qp0 (fu:Nat) (Ab:List Box) (x5:Plan) (i9:Int) (Aa:Spot):Option (Bool) :=
  Qfh fu Ab x5 i9 Aa fu 0
def Qpk (fu:Nat) (Ac:List Spot → Int → Option (Plan)) (Ab:Int) (Aa:List Spot):Option (Plan) :=
  Ac Aa (w64 (Ab + 1))
def Qkm (fu:Nat) (Ac:List Spot → Int → Option (Plan)) (Ab:List Spot) (Aa:Int) (Ad:Spot):Option (Plan) :=
  Qac (ix Ab Aa) λAe=>Qpk fu Ac Aa (Qge Ab Aa Ad)
def Qqz (fu:Nat) (Ad:List Spot → Int → Option (Plan)) (Af:Plan) (Ag:(List Box)) (Ac:List Spot) (Ab:Int) (Ae:Spot → Option (Plan)) (Aa:Spot):Option (Plan) :=
  bif (decide (Aa.fZ > 0)) then Qac (Qp0 fu Ag (⟨Af.fQ,Ac⟩:Plan) Ab (⟨Aa.fJ,Aa.fX,Aa.fY,w64 (Aa.fZ - 1)⟩:Spot)) λAh=>bif (!Ah) then Qkm fu Ad Ac Ab Aa else Ae (⟨Aa.fJ,Aa.fX,Aa.fY,w64 (Aa.fZ - 1)⟩:Spot) else Qkm fu Ad Ac Ab Aa
def Qgh (fu:Nat) (Ae:List Spot → Int → Option (Plan)) (Ac:Plan) (Ad:(List Box)) (Ab:List Spot) (Aa:Int):Nat → Spot → Option (Plan)
  | 0=>λ_=>none
  | n + 1=>Qqz fu Ae Ac Ad Ab Aa (Qgh fu Ae Ac Ad Ab Aa n)
def Ql6 (fu:Nat)  (Ac:Plan) (Ae:(List Box)) (Af:List Spot → Int → Option (Plan)) (Aa:List Spot) (Ab:Int):Option (Plan) :=
  bif (decide (Ab < (Aa.length:Int))) then Qac (ix Aa Ab) λAd=>Qgh fu Af Ac Ae Aa Ab fu Ad else some (⟨Ac.fQ,Aa⟩:Plan)
def Qck (fu:Nat)  (Aa:Plan) (Ab:(List Box)):Nat → List Spot → Int → Option (Plan)
  | 0=>λ_ _=>none
  | n + 1=>Ql6 fu Aa Ab (Qck fu Aa Ab n)
def Qqe (fu:Nat) (r1:Request) (x5:Plan):Option (Plan) :=
  Qac (Qp1 fu x5) λAa=>Qac (Qkw fu r1 x5) λAb=>bif (!Ab) then some (Aa) else Qac (Qoc fu r1 x5) λAc=>Qck fu Aa Ac fu Aa.fU 0
def Qnp (fu:Nat)  (a1:List Int) (b5:List Int) (k1:Int → Option (Bool)) (Aa:Int):Option (Bool) :=
  bif (decide (Aa < (a1.length:Int))) then Qac (ix a1 Aa) λAc=>Qac (ix b5 Aa) λAb=>bif (Ac != Ab) then some (false) else k1 (w64 (Aa + 1)) else some (true)
def Qhd (fu:Nat)  (a1:List Int) (b5:List Int):Nat → Int → Option (Bool)
  | 0=>λ_=>none
  | n + 1=>Qnp fu a1 b5 (Qhd fu a1 b5 n)
def Qrd (fu:Nat) (a1:List Int) (b5:List Int):Option (Bool) :=
  bif ((a1.length:Int) != (b5.length:Int)) then some (false) else Qhd fu a1 b5 fu 0
def Qnh (fu:Nat) (k4:Int → Option (Bool)) (Aa:Int)  : Option (Bool) :=
  k4 (w64 (Aa + 1))
def Qja (fu:Nat)  (a1:Plan) (b5:Plan) (k6:Int → Option (Bool)) (Aa:Int):Option (Bool) :=
  bif (decide (Aa < (a1.fU.length:Int))) then Qac (ix a1.fU Aa) λAc=>Qac (ix b5.fU Aa) λAb=>bif (!(decide (Ac = Ab))) then some (false) else k6 (w64 (Aa + 1)) else some (true)
def Qeo (fu:Nat)  (a1:Plan) (b5:Plan):Nat → Int → Option (Bool)
  | 0=>λ_=>none
  | n + 1=>Qja fu a1 b5 (Qeo fu a1 b5 n)
def Qjz (fu:Nat)  (a1:Plan) (b5:Plan) (k4:Int → Option (Bool)) (Aa:Int):Option (Bool) :=
  bif (decide (Aa < (a1.fQ.length:Int))) then Qac (ix a1.fQ Aa) λAc=>Qac (ix b5.fQ Aa) λAb=>bif (Ac.fO != Ab.fO) then some (false) else Qac (ix a1.fQ Aa) λAf=>Qac (ix b5.fQ Aa) λAe=>bif (Ac.fE != Ab.fE) then some (false) else Qac (ix a1.fQ Aa) λAh=>Qac (ix b5.fQ Aa) λAg=>Qac (Qrd fu Ac.fM Ab.fM) λAd=>bif (!Ad) then some (false) else Qnh fu k4 Aa else Qeo fu a1 b5 fu 0
def Qek (fu:Nat)  (a1:Plan) (b5:Plan):Nat → Int → Option (Bool)
  | 0=>λ_=>none
  | n + 1=>Qjz fu a1 b5 (Qek fu a1 b5 n)
def Qn6 (fu:Nat) (a1:Plan) (b5:Plan)  : Option (Bool) :=
  Qek fu a1 b5 fu 0
def Qg1 (fu:Nat) (a1:Plan) (b5:Plan):Option (Bool) :=
  bif ((a1.fQ.length:Int) != (b5.fQ.length:Int)) then some (false) else bif ((a1.fU.length:Int) != (b5.fU.length:Int)) then some (false) else Qn6 fu a1 b5
end Go.Proofs.YtpcmapfabndggaaGreat
