/- FnMirrored: what the.. -/
import Derived.Test.YthddjkokpfdbnaaGreatS13
import Derived.Test.YthddjkokpfdbnaaGreatS15
set_option linter.unusedVariables false
namespace Go.Proofs.YthddjkokpfdbnaaGreat
open Go
def Quw (fu:Nat) (Aa:List U8):Option (Bool) :=
  some (decide ((Aa.length:Int) > 1048576))
def Qrv (fu:Nat) (k3:Int → Int → Option (Cur)) (Ac:List U8) (Ad:Int) (Aa:Int)  : Option (Cur) :=
  Qac (ix Ac Aa) fun Ab=>k3 (IntKind.wrap .i64 (((BitVec.ofInt (IntKind.bits .i64) (w64 ((w64 ((w64 (Ad * 131)) + (w64 Ab.n))) + 7)) &&& BitVec.ofInt (IntKind.bits .i64) 1073741823).toNat:Nat):Int)) (w64 (Aa + 1))
def Qol (fu:Nat)  (Aa:List U8) (k3:Int → Int → Option (Cur)) (Ac:Int) (Ab:Int):Option (Cur) :=
  bif (decide (Ab < (Aa.length:Int))) then bif (decide (Ab < 4000)) then Qrv fu k3 Aa Ac Ab else some (⟨Aa,0,Ac⟩:Cur) else some (⟨Aa,0,Ac⟩:Cur)
def Qgs (fu:Nat)  (Aa:List U8):Nat → Int → Int → Option (Cur)
  | 0=>fun _ _=>none
  | n + 1=>Qol fu Aa (Qgs fu Aa n)
def Qnw (fu:Nat) (Aa:List U8):Option (Cur) :=
  Qgs fu Aa fu (w64 (26583 + (Aa.length:Int))) 0
def Qha (fu:Nat) (c1:Cur):Option (Int × Cur) :=
  bif (decide (c1.fi < (c1.fb.length:Int))) then Qac (ix c1.fb c1.fi) fun Aa=>some (IntKind.wrap .i64 (((BitVec.ofInt (IntKind.bits .i64) (w64 ((IntKind.wrap .i64 (((BitVec.ofInt (IntKind.bits .i64) (IntKind.wrap .i64 (((BitVec.ofInt (IntKind.bits .i64) (Int.fdiv (w64 ((w64 (c1.fh * 6364136223846793005)) + 1442695040888963407)) (2 ^ (min 33 (IntKind.bits .i64)))) ^^^ BitVec.ofInt (IntKind.bits .i64) (Int.fdiv (w64 ((w64 (c1.fh * 6364136223846793005)) + 1442695040888963407)) (2 ^ (min 45 (IntKind.bits .i64))))).toNat:Nat):Int)) &&& BitVec.ofInt (IntKind.bits .i64) 255).toNat:Nat):Int)) + (w64 Aa.n))) &&& BitVec.ofInt (IntKind.bits .i64) 255).toNat:Nat):Int),(⟨c1.fb,w64 (c1.fi + 1),w64 ((w64 (c1.fh * 6364136223846793005)) + 1442695040888963407)⟩:Cur)) else some (IntKind.wrap .i64 (((BitVec.ofInt (IntKind.bits .i64) (IntKind.wrap .i64 (((BitVec.ofInt (IntKind.bits .i64) (Int.fdiv (w64 ((w64 (c1.fh * 6364136223846793005)) + 1442695040888963407)) (2 ^ (min 33 (IntKind.bits .i64)))) ^^^ BitVec.ofInt (IntKind.bits .i64) (Int.fdiv (w64 ((w64 (c1.fh * 6364136223846793005)) + 1442695040888963407)) (2 ^ (min 45 (IntKind.bits .i64))))).toNat:Nat):Int)) &&& BitVec.ofInt (IntKind.bits .i64) 255).toNat:Nat):Int),(⟨c1.fb,c1.fi,w64 ((w64 (c1.fh * 6364136223846793005)) + 1442695040888963407)⟩:Cur))
def Qao (fu:Nat) (c1:Cur) (n7:Int):Option (Int × Cur) :=
  bif (decide (n7 ≤ 0)) then some (0,c1) else bif (decide (n7 ≤ 256)) then Qac (Qha fu c1) fun Ad=>Qac (Jd9 n7) fun Ag=>some (Int.tmod Ad.1 n7,(⟨c1.fb,Ad.2.fi,Ad.2.fh⟩:Cur)) else Qac (Qha fu c1) fun Ab=>Qac (Qha fu (⟨c1.fb,Ab.2.fi,Ab.2.fh⟩:Cur)) fun Ae=>Qac (Qha fu (⟨c1.fb,Ae.2.fi,Ae.2.fh⟩:Cur)) fun Aa=>Qac (Qha fu (⟨c1.fb,Aa.2.fi,Aa.2.fh⟩:Cur)) fun Ac=>Qac (Jd9 n7) fun Af=>some (Int.tmod (w64 ((w64 ((w64 ((w64 (Ab.1 * 16777216)) + (w64 (Ae.1 * 65536)))) + (w64 (Aa.1 * 256)))) + Ac.1)) n7,(⟨c1.fb,Ac.2.fi,Ac.2.fh⟩:Cur))
def Qih (fu:Nat) (c1:Cur) (n7:Int):Option (Bool × Cur) :=
  Qac (Qao fu c1 n7) fun x9=>some (x9.1 == 0,(⟨c1.fb,x9.2.fi,x9.2.fh⟩:Cur))
def Qbu (fu:Nat) (c1:Cur) (Ab:List Int):Option (Int × Cur) :=
  Qac (Qao fu c1 (Ab.length:Int)) fun Aa=>Qac (ix Ab Aa.1) fun Ac=>some (Ac,(⟨c1.fb,Aa.2.fi,Aa.2.fh⟩:Cur))
def Qhl (fu:Nat) (Ad:Int → Int → List Pair → Int → Option (Request × Cur)) (Aa:Int) (Ab:Int) (Ac:Int) (Ae:List Pair):Option (Request × Cur) :=
  Ad Ab Ac Ae (w64 (Aa + 1))
def Qkp (fu:Nat) (k9:Int → Int → List Pair → Int → Option (Request × Cur)) (c1:Cur) (Aa:Int) (Ag:Int → Int → List Pair → Int → Option (Request × Cur)) (Ae:Int) (Af:Int) (Ad:List Pair) (Ab:Int):Option (Request × Cur) :=
  bif (decide (Ab ≤ Aa)) then bif (Aa == Ab) then Qac (Qhw 16 Ad (([(⟨Aa,Aa⟩:Pair)]:List Pair))) fun Ai=>Qhl fu Ag Ab Ae Af Ai else Qac (Qih fu (⟨c1.fb,Ae,Af⟩:Cur) 2) fun Ac=>bif Ac.1 then Qac (Qhw 16 Ad (([(⟨Aa,Ab⟩:Pair),(⟨Ab,Aa⟩:Pair)]:List Pair))) fun Ah=>Qhl fu Ag Ab Ac.2.fi Ac.2.fh Ah else Qhl fu Ag Ab Ac.2.fi Ac.2.fh Ad else k9 Ae Af Ad (w64 (Aa + 1))
def Qfc (fu:Nat) (k9:Int → Int → List Pair → Int → Option (Request × Cur)) (c1:Cur) (Aa:Int):Nat → Int → Int → List Pair → Int → Option (Request × Cur)
  | 0=>fun _ _ _ _=>none
  | n + 1=>Qkp fu k9 c1 Aa (Qfc fu k9 c1 Aa n)
def Qjw (fu:Nat) (Ad:Int → Int → List Item → Int → Int → Option (Request × Cur)) (Ae:Int) (Aa:Int) (Ac:Int) (Ab:List Item) (Af:Int):Option (Request × Cur) :=
  Ad Aa Ac Ab Af (w64 (Ae + 1))
def Qhj (fu:Nat) (Af:Int → Int → List Item → Int → Int → Option (Request × Cur)) (Ac:List Item) (Ab:Int) (Ag:Int) (Ad:Int) (Ae:Int) (Aa:Item):Option (Request × Cur) :=
  bif (decide ((w64 (Ab + Aa.f0)) ≤ 12)) then Qac (Qhw 56 Ac (([Aa]:List Item))) fun Ah=>Qjw fu Af Ag Ad Ae Ah (w64 (Ab + Aa.f0)) else Qjw fu Af Ag Ad Ae Ac Ab
def Qot (fu:Nat) (Af:Int → Int → List Item → Int → Int → Option (Request × Cur)) (c1:Cur) (Ad:List Item) (Ae:Int) (Ag:Int) (Ai:Int) (Ah:Int) (Ab:Item):Option (Request × Cur) :=
  Qac (Qih fu (⟨c1.fb,Ai,Ah⟩:Cur) 3) fun Aa=>bif Aa.1 then Qac (Qao fu (⟨c1.fb,Aa.2.fi,Aa.2.fh⟩:Cur) 8) fun Ac=>Qhj fu Af Ad Ae Ag Ac.2.fi Ac.2.fh (⟨Ab.f8,5,5,w64 (4 + Ac.1),Ab.fV,Ab.fF,Ab.f0⟩:Item) else Qhj fu Af Ad Ae Ag Aa.2.fi Aa.2.fh Ab
def Ql3 (fu:Nat)  (c1:Cur) (Av:Int × Cur) (Al:Int × Cur) (Ar:Int × Cur) (As:Int × Cur) (Am:Int × Cur) (Ak:Int × Cur) (Au:List Pair) (Ap:List Typ) (Ao:Int × Cur) (At:Int → Int → List Item → Int → Int → Option (Request × Cur)) (Ai:Int) (Ah:Int) (Aj:List Item) (Aq:Int) (Af:Int):Option (Request × Cur) :=
  bif (decide (Af < Ao.1)) then Qac (Qao fu (⟨c1.fb,Ai,Ah⟩:Cur) 10) fun Ad=>Qac (Qao fu (⟨c1.fb,Ad.2.fi,Ad.2.fh⟩:Cur) 10) fun Ae=>Qac (Qao fu (⟨c1.fb,Ae.2.fi,Ae.2.fh⟩:Cur) 10) fun Ac=>Qac (Qao fu (⟨c1.fb,Ac.2.fi,Ac.2.fh⟩:Cur) 60) fun Ag=>Qac (Qao fu (⟨c1.fb,Ag.2.fi,Ag.2.fh⟩:Cur) (w64 (1 + Ak.1))) fun Ab=>Qac (Qao fu (⟨c1.fb,Ab.2.fi,Ab.2.fh⟩:Cur) 4) fun Aa=>Qot fu At c1 Aj Aq Af Aa.2.fi Aa.2.fh (⟨w64 (3 * Af),w64 (1 + Ad.1),w64 (1 + Ae.1),w64 (1 + Ac.1),w64 (1 + Ag.1),Ab.1,w64 (1 + Aa.1)⟩:Item) else some ((⟨Av.1,(⟨Al.1,Ar.1,As.1,Am.1⟩:Pallet),w64 (1 + Ak.1),Au,Ap,7,Aj⟩:Request),(⟨c1.fb,Ai,Ah⟩:Cur))
def Qcu (fu:Nat)  (c1:Cur) (Ai:Int × Cur) (Ab:Int × Cur) (Ah:Int × Cur) (Ac:Int × Cur) (Af:Int × Cur) (Aa:Int × Cur) (Ag:List Pair) (Ae:List Typ) (Ad:Int × Cur):Nat → Int → Int → List Item → Int → Int → Option (Request × Cur)
  | 0=>fun _ _ _ _ _=>none
  | n + 1=>Ql3 fu c1 Ai Ab Ah Ac Af Aa Ag Ae Ad (Qcu fu c1 Ai Ab Ah Ac Af Aa Ag Ae Ad n)
def Qlt (fu:Nat)  (c1:Cur) (Av:Int × Cur) (Am:Int × Cur) (Aq:Int × Cur) (As:Int × Cur) (Ao:Int × Cur) (Au:Int × Cur) (At:List Pair) (Al:Int × Cur) (Ap:Int → Int → List Typ → Int → Option (Request × Cur)) (Aj:Int) (Ak:Int) (Ai:List Typ) (Ah:Int):Option (Request × Cur) :=
  bif (decide (Ah < Al.1)) then Qac (Qao fu (⟨c1.fb,Aj,Ak⟩:Cur) 9) fun Aa=>Qac (Qao fu (⟨c1.fb,Aa.2.fi,Aa.2.fh⟩:Cur) 8) fun Af=>Qac (Qao fu (⟨c1.fb,Af.2.fi,Af.2.fh⟩:Cur) 9) fun Ad=>Qac (Qao fu (⟨c1.fb,Ad.2.fi,Ad.2.fh⟩:Cur) 5) fun Ab=>Qac (Qao fu (⟨c1.fb,Ab.2.fi,Ab.2.fh⟩:Cur) 90) fun Ag=>Qac (Qao fu (⟨c1.fb,Ag.2.fi,Ag.2.fh⟩:Cur) 20) fun Ac=>Qac (Qhw 56 Ai (([(⟨w64 (10 + Ah),w64 (4 + Aa.1),w64 (3 + Af.1),w64 (3 + Ad.1),Ab.1,w64 (20 + Ag.1),w64 (1 + Ac.1)⟩:Typ)]:List Typ))) fun Ar=>Ap Ac.2.fi Ac.2.fh Ar (w64 (Ah + 1)) else Qac (Qao fu (⟨c1.fb,Aj,Ak⟩:Cur) 6) fun Ae=>Qcu fu c1 Av Am Aq As Ao Au At Ai Ae fu Ae.2.fi Ae.2.fh (([]:List Item)) 0 0
def Qgc (fu:Nat)  (c1:Cur) (Ah:Int × Cur) (Ac:Int × Cur) (Ag:Int × Cur) (Ad:Int × Cur) (Ae:Int × Cur) (Aa:Int × Cur) (Af:List Pair) (Ab:Int × Cur):Nat → Int → Int → List Typ → Int → Option (Request × Cur)
  | 0=>fun _ _ _ _=>none
  | n + 1=>Qlt fu c1 Ah Ac Ag Ad Ae Aa Af Ab (Qgc fu c1 Ah Ac Ag Ad Ae Aa Af Ab n)
def Qo4 (fu:Nat) (c1:Cur) (Aj:Int × Cur) (Ac:Int × Cur) (Ai:Int × Cur) (Ad:Int × Cur) (Ae:Int × Cur) (Ab:Int × Cur) (Af:List Pair) (Ak:Int) (Ah:Int) (Ag:List Typ):Option (Request × Cur) :=
  Qac (Qao fu (⟨c1.fb,Ak,Ah⟩:Cur) 5) fun Aa=>Qgc fu c1 Aj Ac Ai Ad Ae Ab Af Aa fu Aa.2.fi Aa.2.fh Ag 0
def Qlz (fu:Nat)  (c1:Cur) (Ao:Int × Cur) (Aj:Int × Cur) (Am:Int × Cur) (Ak:Int × Cur) (Al:Int × Cur) (Ad:Int × Cur) (k9:Int → Int → List Pair → Int → Option (Request × Cur)) (Ae:Int) (Af:Int) (Ah:List Pair) (Ag:Int):Option (Request × Cur) :=
  bif (decide (Ag < (w64 (1 + Ad.1)))) then Qfc fu k9 c1 Ag fu Ae Af Ah 0 else Qac (Qao fu (⟨c1.fb,Ae,Af⟩:Cur) 8) fun Ac=>Qac (Qbu fu (⟨c1.fb,Ac.2.fi,Ac.2.fh⟩:Cur) (([60,100,140]:List Int))) fun Aa=>Qac (Qbu fu (⟨c1.fb,Aa.2.fi,Aa.2.fh⟩:Cur) (([9,20]:List Int))) fun Ab=>Qac (Qhw 56 (([]:List Typ)) (([(⟨7,12,10,11,Ac.1,Aa.1,Ab.1⟩:Typ)]:List Typ))) fun Ai=>Qo4 fu c1 Ao Aj Am Ak Al Ad Ah Ab.2.fi Ab.2.fh Ai
def Qdc (fu:Nat)  (c1:Cur) (Af:Int × Cur) (Ab:Int × Cur) (Ae:Int × Cur) (Ac:Int × Cur) (Ad:Int × Cur) (Aa:Int × Cur):Nat → Int → Int → List Pair → Int → Option (Request × Cur)
  | 0=>fun _ _ _ _=>none
  | n + 1=>Qlz fu c1 Af Ab Ae Ac Ad Aa (Qdc fu c1 Af Ab Ae Ac Ad Aa n)
def Qmq (fu:Nat) (c1:Cur):Option (Request × Cur) :=
  Qac (Qao fu c1 2) fun Af=>Qac (Qbu fu (⟨c1.fb,Af.2.fi,Af.2.fh⟩:Cur) (([20,30,37]:List Int))) fun Ab=>Qac (Qbu fu (⟨c1.fb,Ab.2.fi,Ab.2.fh⟩:Cur) (([20,25,40]:List Int))) fun Ae=>Qac (Qbu fu (⟨c1.fb,Ae.2.fi,Ae.2.fh⟩:Cur) (([15,24,50]:List Int))) fun Ac=>Qac (Qbu fu (⟨c1.fb,Ac.2.fi,Ac.2.fh⟩:Cur) (([150,400,5000]:List Int))) fun Ad=>Qac (Qao fu (⟨c1.fb,Ad.2.fi,Ad.2.fh⟩:Cur) 4) fun Aa=>Qdc fu c1 Af Ab Ae Ac Ad Aa fu Aa.2.fi Aa.2.fh (([]:List Pair)) 0
def Qaq (fu:Nat) (x1:Int) (Aa:Int) (Ab:Int):Option (Bool) :=
  bif (decide (x1 ≥ Aa)) then some (decide (x1 ≤ Ab)) else some (false)
def Qd6 (fu:Nat) (x1:Int):Option (Bool) :=
  Qac (Qaq fu x1 1 2000) fun x2=>some (x2)
def Qgm (fu:Nat) (x1:Pallet):Option (Bool) :=
  Qac (Qd6 fu x1.fW) fun x5=>bif x5 then Qac (Qd6 fu x1.fD) fun Aa=>bif Aa then Qac (Qd6 fu x1.fH) fun Ac=>bif Ac then Qac (Qaq fu x1.fV 1 100000) fun Ab=>some (Ab) else some (false) else some (false) else some (false)
def Qn3 (fu:Nat) (x1:Int):Option (Bool) :=
  Qac (Qaq fu x1 0 999) fun x2=>some (x2)
def Qq9 (fu:Nat) (x1:Typ):Option (Bool) :=
  Qac (Qn3 fu x1.f8) fun x5=>bif x5 then Qac (Qd6 fu x1.fW) fun Af=>bif Af then Qac (Qd6 fu x1.fH) fun Ac=>bif Ac then Qac (Qd6 fu x1.fD) fun Aa=>bif Aa then Qac (Qaq fu x1.f7 0 100000) fun Ad=>bif Ad then Qac (Qaq fu x1.fV 1 100000) fun Ae=>bif Ae then Qac (Qaq fu x1.fK 0 100000) fun Ab=>some (Ab) else some (false) else some (false) else some (false) else some (false) else some (false) else some (false)
def Qrn (fu:Nat) (x1:Item):Option (Bool) :=
  Qac (Qn3 fu x1.f8) fun x5=>bif x5 then Qac (Qd6 fu x1.fW) fun Af=>bif Af then Qac (Qd6 fu x1.fH) fun Ac=>bif Ac then Qac (Qd6 fu x1.fD) fun Aa=>bif Aa then Qac (Qaq fu x1.fV 1 100000) fun Ad=>bif Ad then Qac (Qaq fu x1.fF 0 3) fun Ae=>bif Ae then Qac (Qaq fu x1.f0 1 6) fun Ab=>some (Ab) else some (false) else some (false) else some (false) else some (false) else some (false) else some (false)
def Qm1 (fu:Nat) (k4:Int → Option (Bool)) (Aa:Int)  : Option (Bool) :=
  k4 (w64 (Aa + 1))
def Qjt (fu:Nat)  (r1:Request) (k7:Int → Int → Option (Bool)) (Ac:Int) (Aa:Int):Option (Bool) :=
  bif (decide (Aa < (r1.fG.length:Int))) then Qac (ix r1.fG Aa) fun Ab=>Qac (Qrn fu Ab) fun Ad=>bif (!Ad) then some (false) else Qac (ix r1.fG Aa) fun Ae=>k7 (w64 (Ac + Ab.f0)) (w64 (Aa + 1)) else some (decide (Ac ≤ 12))
def Qdo (fu:Nat)  (r1:Request):Nat → Int → Int → Option (Bool)
  | 0=>fun _ _=>none
  | n + 1=>Qjt fu r1 (Qdo fu r1 n)
def Qjp (fu:Nat)  (r1:Request) (k6:Int → Option (Bool)) (Aa:Int):Option (Bool) :=
  bif (decide (Aa < (r1.fT.length:Int))) then Qac (ix r1.fT Aa) fun Ab=>Qac (Qq9 fu Ab) fun Ac=>bif (!Ac) then some (false) else k6 (w64 (Aa + 1)) else Qdo fu r1 fu 0 0
def Qdl (fu:Nat)  (r1:Request):Nat → Int → Option (Bool)
  | 0=>fun _=>none
  | n + 1=>Qjp fu r1 (Qdl fu r1 n)
def Qji (fu:Nat)  (r1:Request) (k4:Int → Option (Bool)) (Aa:Int):Option (Bool) :=
  bif (decide (Aa < (r1.fL.length:Int))) then Qac (ix r1.fL Aa) fun Ab=>Qac (Qaq fu Ab.fA 0 3) fun Ac=>bif (!Ac) then some (false) else Qac (ix r1.fL Aa) fun Ae=>Qac (Qaq fu Ab.fB 0 3) fun Ad=>bif (!Ad) then some (false) else Qm1 fu k4 Aa else Qdl fu r1 fu 0
def Qds (fu:Nat)  (r1:Request):Nat → Int → Option (Bool)
  | 0=>fun _=>none
  | n + 1=>Qji fu r1 (Qds fu r1 n)
def Qm3 (fu:Nat) (r1:Request)  : Option (Bool) :=
  Qds fu r1 fu 0
def Qn7 (fu:Nat) (r1:Request):Option (Bool) :=
  Qac (Qaq fu r1.qJ 0 1) fun Ad=>bif (!Ad) then some (false) else Qac (Qgm fu r1.fQ) fun Aa=>bif (!Aa) then some (false) else Qac (Qaq fu r1.fR 1 4) fun Ae=>bif (!Ae) then some (false) else bif (decide ((r1.fL.length:Int) > 16)) then some (false) else Qac (Qaq fu (r1.fT.length:Int) 1 5) fun Ac=>bif (!Ac) then some (false) else Qac (Qn3 fu r1.fP) fun Ab=>bif (!Ab) then some (false) else bif (decide ((r1.fG.length:Int) > 8)) then some (false) else Qm3 fu r1
def Qjs (fu:Nat)  (r1:Request) (k1:Int → Option (Typ × Bool)) (Aa:Int):Option (Typ × Bool) :=
  bif (decide (Aa < (r1.fT.length:Int))) then Qac (ix r1.fT Aa) fun Ab=>bif (Ab.f8 == r1.fP) then Qac (ix r1.fT Aa) fun Ac=>some (Ab,true) else k1 (w64 (Aa + 1)) else some ((⟨0,0,0,0,0,0,0⟩:Typ),false)
def Qfu (fu:Nat)  (r1:Request):Nat → Int → Option (Typ × Bool)
  | 0=>fun _=>none
  | n + 1=>Qjs fu r1 (Qfu fu r1 n)
def Qfp (fu:Nat) (r1:Request):Option (Typ × Bool) :=
  Qfu fu r1 fu 0
def Qlm (fu:Nat) (k3:Int → Option (Bool)) (r1:Request) (Aa:Int) (k4:Int → Option (Bool)) (Ab:Int):Option (Bool) :=
  bif (decide (Ab < Aa)) then Qac (ix r1.fT Aa) fun Ad=>Qac (ix r1.fT Ab) fun Ac=>bif (Ad.f8 == Ac.f8) then some (false) else k4 (w64 (Ab + 1)) else k3 (w64 (Aa + 1))
def Qd7 (fu:Nat) (k3:Int → Option (Bool)) (r1:Request) (Aa:Int):Nat → Int → Option (Bool)
  | 0=>fun _=>none
  | n + 1=>Qlm fu k3 r1 Aa (Qd7 fu k3 r1 Aa n)
def Qkz (fu:Nat) (k7:Int → Option (Bool)) (r1:Request) (Aa:Int) (k8:Int → Option (Bool)) (Ab:Int):Option (Bool) :=
  bif (decide (Ab < Aa)) then Qac (ix r1.fG Aa) fun Ac=>Qac (ix r1.fG Ab) fun Ad=>bif (Ac.f8 == Ad.f8) then some (false) else k8 (w64 (Ab + 1)) else k7 (w64 (Aa + 1))
def Qd9 (fu:Nat) (k7:Int → Option (Bool)) (r1:Request) (Aa:Int):Nat → Int → Option (Bool)
  | 0=>fun _=>none
  | n + 1=>Qkz fu k7 r1 Aa (Qd9 fu k7 r1 Aa n)
def Qo5 (fu:Nat) (Ab:Int → Option (Bool)) (Aa:Int)  : Option (Bool) :=
  Ab (w64 (Aa + 1))
def Qku (fu:Nat)  (r1:Request) (Ac:Int → Option (Bool)) (Aa:Int):Option (Bool) :=
  bif (decide (Aa < (r1.fL.length:Int))) then Qac (ix r1.fL Aa) fun Ab=>bif (decide (Ab.fA ≥ r1.fR)) then some (false) else Qac (ix r1.fL Aa) fun Ae=>bif (decide (Ab.fB ≥ r1.fR)) then some (false) else Qo5 fu Ac Aa else Qac (Qfp fu r1) fun Ad=>some (Ad.2)
def Qda (fu:Nat)  (r1:Request):Nat → Int → Option (Bool)
  | 0=>fun _=>none
  | n + 1=>Qku fu r1 (Qda fu r1 n)
def Qlh (fu:Nat)  (r1:Request) (k7:Int → Option (Bool)) (Aa:Int):Option (Bool) :=
  bif (decide (Aa < (r1.fG.length:Int))) then Qac (ix r1.fG Aa) fun Ab=>bif (decide (Ab.fF ≥ r1.fR)) then some (false) else Qd9 fu k7 r1 Aa fu 0 else Qda fu r1 fu 0
def Qbj (fu:Nat)  (r1:Request):Nat → Int → Option (Bool)
  | 0=>fun _=>none
  | n + 1=>Qlh fu r1 (Qbj fu r1 n)
def Qk9 (fu:Nat)  (r1:Request) (k3:Int → Option (Bool)) (Aa:Int):Option (Bool) :=
  bif (decide (Aa < (r1.fT.length:Int))) then Qd7 fu k3 r1 Aa fu 0 else Qbj fu r1 fu 0
def Qbs (fu:Nat)  (r1:Request):Nat → Int → Option (Bool)
  | 0=>fun _=>none
  | n + 1=>Qk9 fu r1 (Qbs fu r1 n)
def Qp2 (fu:Nat) (r1:Request):Option (Bool) :=
  Qbs fu r1 fu 0
def Qmc (fu:Nat) (k3:Int → Option (Bool)) (Aa:Int)  : Option (Bool) :=
  k3 (w64 (Aa + 1))
def Qmu (fu:Nat)  (Ab:List Pair) (a5:Int) (b6:Int) (k3:Int → Option (Bool)) (Aa:Int):Option (Bool) :=
  bif (decide (Aa < (Ab.length:Int))) then Qac (ix Ab Aa) fun Ac=>bif (Ac.fA == a5) then Qac (ix Ab Aa) fun Ad=>bif (Ac.fB == b6) then some (true) else Qmc fu k3 Aa else Qmc fu k3 Aa else some (false)
def Qf2 (fu:Nat)  (Aa:List Pair) (a5:Int) (b6:Int):Nat → Int → Option (Bool)
  | 0=>fun _=>none
  | n + 1=>Qmu fu Aa a5 b6 (Qf2 fu Aa a5 b6 n)
def Qft (fu:Nat) (Aa:List Pair) (a5:Int) (b6:Int):Option (Bool) :=
  Qf2 fu Aa a5 b6 fu 0
def Qkd (fu:Nat) (Ab:Int → Option (Bool)) (Aa:Int)  : Option (Bool) :=
  Ab (w64 (Aa + 1))
def Qkv (fu:Nat) (k9:Int → Option (Bool)) (Ac:List Pair) (Ah:Int) (Aa:Int) (Ad:Int → Option (Bool)) (Ab:Int):Option (Bool) :=
  bif (decide (Ab < Ah)) then bif (Aa == Ab) then Qac (Qft fu Ac Aa Aa) fun Ae=>bif (!Ae) then some (false) else Qac (Qft fu Ac Aa Ab) fun Aj=>Qac (Qft fu Ac Ab Aa) fun Af=>bif (!(Aj == Af)) then some (false) else Qkd fu Ad Ab else Qac (Qft fu Ac Aa Ab) fun Ag=>Qac (Qft fu Ac Ab Aa) fun Ai=>bif (!(Ag == Ai)) then some (false) else Qkd fu Ad Ab else k9 (w64 (Aa + 1))
def Qeb (fu:Nat) (k9:Int → Option (Bool)) (Ac:List Pair) (Ab:Int) (Aa:Int):Nat → Int → Option (Bool)
  | 0=>fun _=>none
  | n + 1=>Qkv fu k9 Ac Ab Aa (Qeb fu k9 Ac Ab Aa n)
def Qk1 (fu:Nat)  (Ac:List Pair) (Ab:Int) (k9:Int → Option (Bool)) (Aa:Int):Option (Bool) :=
  bif (decide (Aa < Ab)) then Qeb fu k9 Ac Ab Aa fu 0 else some (true)
def Qdh (fu:Nat)  (Ab:List Pair) (Aa:Int):Nat → Int → Option (Bool)
  | 0=>fun _=>none
  | n + 1=>Qk1 fu Ab Aa (Qdh fu Ab Aa n)
def Qpr (fu:Nat) (Ab:List Pair) (Aa:Int):Option (Bool) :=
  Qac (Qaq fu Aa 1 4) fun x6=>bif (!x6) then some (false) else Qdh fu Ab Aa fu 0
def Qi0 (fu:Nat)  (n1:Int) (k1:List Int → Int → Option ((List Int))) (Ab:List Int) (Aa:Int):Option ((List Int)) :=
  bif (decide (Aa < n1)) then Qac (Qhw 8 Ab (([Aa]:List Int))) fun Ac=>k1 Ac (w64 (Aa + 1)) else some (Ab)
def Qfl (fu:Nat)  (n1:Int):Nat → List Int → Int → Option ((List Int))
  | 0=>fun _ _=>none
  | n + 1=>Qi0 fu n1 (Qfl fu n1 n)
def Qj9 (fu:Nat) (n1:Int):Option ((List Int)) :=
  Qfl fu n1 fu (([]:List Int)) 0
def Qhn (fu:Nat) (k3:List Int → Int → Int → Option ((List Int))) (Ah:List Int) (Ai:Bool) (Ad:(List Int)) (Ae:(List Int)) (Ac:List Int) (Aa:Int) (Ab:Int)  : Option ((List Int)) :=
  bif (Ab == (Ae.length:Int)) then Qac (ix Ad Aa) fun Ao=>Qac (Qhw 8 Ac (([Ao]:List Int))) fun Aq=>k3 Aq (w64 (Aa + 1)) Ab else bif (Aa == (Ad.length:Int)) then Qac (ix Ae Ab) fun Ar=>Qac (Qhw 8 Ac (([Ar]:List Int))) fun Av=>k3 Av Aa (w64 (Ab + 1)) else Qac (ix Ae Ab) fun Ag=>Qac (ix Ah Ag) fun Ak=>Qac (ix Ad Aa) fun Af=>Qac (ix Ah Af) fun Aj=>bif (decide (Ak < Aj)) then bif (!Ai) then Qac (ix Ae Ab) fun Ay=>Qac (Qhw 8 Ac (([Ag]:List Int))) fun As=>k3 As Aa (w64 (Ab + 1)) else Qac (ix Ae Ab) fun Az=>Qac (ix Ah Ag) fun Ax=>Qac (ix Ad Aa) fun Bi=>Qac (ix Ah Af) fun Bd=>bif (decide (Ak > Aj)) then bif Ai then Qac (ix Ae Ab) fun Ba=>Qac (Qhw 8 Ac (([Ag]:List Int))) fun At=>k3 At Aa (w64 (Ab + 1)) else Qac (ix Ad Aa) fun Bb=>Qac (Qhw 8 Ac (([Af]:List Int))) fun Au=>k3 Au (w64 (Aa + 1)) Ab else Qac (ix Ad Aa) fun Bk=>Qac (Qhw 8 Ac (([Af]:List Int))) fun Ap=>k3 Ap (w64 (Aa + 1)) Ab else Qac (ix Ae Ab) fun Bj=>Qac (ix Ah Ag) fun Bc=>Qac (ix Ad Aa) fun Bh=>Qac (ix Ah Af) fun Be=>bif (decide (Ak > Aj)) then bif Ai then Qac (ix Ae Ab) fun Bl=>Qac (Qhw 8 Ac (([Ag]:List Int))) fun Am=>k3 Am Aa (w64 (Ab + 1)) else Qac (ix Ad Aa) fun Bf=>Qac (Qhw 8 Ac (([Af]:List Int))) fun Aw=>k3 Aw (w64 (Aa + 1)) Ab else Qac (ix Ad Aa) fun Bg=>Qac (Qhw 8 Ac (([Af]:List Int))) fun Al=>k3 Al (w64 (Aa + 1)) Ab
def Qk4 (fu:Nat)  (Af:List Int) (Ag:Bool) (Ad:(List Int)) (Ab:(List Int)) (k3:List Int → Int → Int → Option ((List Int))) (Aa:List Int) (Ac:Int) (Ae:Int):Option ((List Int)) :=
  bif (decide (Ac < (Ad.length:Int))) then Qhn fu k3 Af Ag Ad Ab Aa Ac Ae else bif (decide (Ae < (Ab.length:Int))) then Qhn fu k3 Af Ag Ad Ab Aa Ac Ae else some (Aa)
def Qci (fu:Nat)  (Ac:List Int) (Ad:Bool) (Aa:(List Int)) (Ab:(List Int)):Nat → List Int → Int → Int → Option ((List Int))
  | 0=>fun _ _ _=>none
  | n + 1=>Qk4 fu Ac Ad Aa Ab (Qci fu Ac Ad Aa Ab n)
def Qr4 (fu:Nat) (self:List Int → List Int → Bool → Option ((List Int))) (Ab:List Int) (Aa:List Int) (Ac:Bool):Option ((List Int)) :=
  bif (decide ((Aa.length:Int) < 2)) then Qac (Qhw 8 (([]:List Int)) Aa) fun Ag=>some (Ag) else Qac (sls Aa 0 (w64 (Int.tdiv (Aa.length:Int) 2))) fun Ah=>Qac (self Ab Ah Ac) fun Af=>Qac (sls Aa (w64 (Int.tdiv (Aa.length:Int) 2)) (Aa.length:Int)) fun Ad=>Qac (self Ab Ad Ac) fun Ae=>Qci fu Ab Ac Af Ae fu (([]:List Int)) 0 0
def Qie (fu:Nat):Nat → List Int → List Int → Bool → Option ((List Int))
  | 0=>fun _ _ _=>none
  | n + 1=>Qr4 fu (Qie fu n)
def Qpu (fu:Nat) (Aa:List Int) (Ab:List Int) (Ac:Bool):Option ((List Int)):=Qie fu fu Aa Ab Ac
def Qo2 (fu:Nat) (Aa:List Int):Option ((List Int)) :=
  Qac (Qj9 fu (Aa.length:Int)) fun x5=>Qac (Qpu fu Aa x5 false) fun Ab=>some (Ab)
def Qmp (fu:Nat) (Aa:Int) (h2:Int) (d3:Int):Option ((List Int)) :=
  Qac (Qo2 fu (([Aa,h2,d3]:List Int))) fun x9=>Qac (ix x9 0) fun Af=>Qac (ix (([Aa,h2,d3]:List Int)) Af) fun Ab=>Qac (ix x9 1) fun Ae=>Qac (ix (([Aa,h2,d3]:List Int)) Ae) fun Ac=>Qac (ix x9 2) fun Ad=>Qac (ix (([Aa,h2,d3]:List Int)) Ad) fun Ag=>some (([Ab,Ac,Ag]:List Int))
def Qqm (fu:Nat) (x1:Item) (t2:Typ):Option (Bool) :=
  Qac (Qmp fu x1.fW x1.fH x1.fD) fun Aa=>Qac (Qmp fu t2.fW t2.fH t2.fD) fun Ab=>Qac (ix Aa 0) fun Ah=>Qac (ix Ab 0) fun Af=>bif (decide (Ah ≤ Af)) then Qac (ix Aa 1) fun Ac=>Qac (ix Ab 1) fun Ad=>bif (decide (Ac ≤ Ad)) then Qac (ix Aa 2) fun Ag=>Qac (ix Ab 2) fun Ae=>bif (decide (Ag ≤ Ae)) then some (decide (x1.fV ≤ t2.fV)) else some (false) else some (false) else some (false)
def Qre (fu:Nat) (k4:Int → Option (Int)) (Aa:Int)  : Option (Int) :=
  k4 (w64 (Aa + 1))
def Qo1 (fu:Nat)  (r1:Request) (k4:Int → Option (Int)) (Ab:Int):Option (Int) :=
  bif (decide (Ab < (r1.fT.length:Int))) then Qac (ix r1.fT Ab) fun Aa=>bif (decide (Aa.fW > r1.fQ.fW)) then some (6) else bif (decide (Aa.fD > r1.fQ.fD)) then some (6) else bif (decide (Aa.fH > r1.fQ.fH)) then some (6) else bif (decide ((w64 (Aa.f7 + Aa.fV)) > r1.fQ.fV)) then some (6) else Qre fu k4 Ab else some (0)
def Qfj (fu:Nat)  (r1:Request):Nat → Int → Option (Int)
  | 0=>fun _=>none
  | n + 1=>Qo1 fu r1 (Qfj fu r1 n)
def Qo6 (fu:Nat)  (r1:Request) (Ac:Typ × Bool) (k1:Int → Option (Int)) (Aa:Int):Option (Int) :=
  bif (decide (Aa < (r1.fG.length:Int))) then Qac (ix r1.fG Aa) fun Ad=>Qac (Qqm fu Ad Ac.1) fun Ab=>bif (!Ab) then some (5) else k1 (w64 (Aa + 1)) else Qfj fu r1 fu 0
def Qgo (fu:Nat)  (r1:Request) (Aa:Typ × Bool):Nat → Int → Option (Int)
  | 0=>fun _=>none
  | n + 1=>Qo6 fu r1 Aa (Qgo fu r1 Aa n)
def Qen (fu:Nat) (r1:Request):Option (Int) :=
  Qac (Qn7 fu r1) fun Ad=>bif (!Ad) then some (2) else Qac (Qp2 fu r1) fun Aa=>bif (!Aa) then some (3) else Qac (Qpr fu r1.fL r1.fR) fun Ac=>bif (!Ac) then some (4) else Qac (Qfp fu r1) fun Ab=>Qgo fu r1 Ab fu 0
def Qmf (fu:Nat) (k3:List Item → Int → Option (Request × Cur)) (Aa:Int) (Ab:List Item):Option (Request × Cur) :=
  k3 Ab (w64 (Aa + 1))
def Qm7 (fu:Nat)  (c1:Cur) (Aa:Request × Cur) (Af:Typ × Bool) (k3:List Item → Int → Option (Request × Cur)) (Ac:List Item) (Ab:Int):Option (Request × Cur) :=
  bif (decide (Ab < (Aa.1.fG.length:Int))) then Qac (ix Aa.1.fG Ab) fun Ad=>Qac (Qqm fu Ad Af.1) fun Ag=>bif Ag then Qac (ix Aa.1.fG Ab) fun Ah=>Qac (Qhw 56 Ac (([Ad]:List Item))) fun Ae=>Qmf fu k3 Ab Ae else Qmf fu k3 Ab Ac else some ((⟨Aa.1.qJ,(⟨30,25,24,400⟩:Pallet),Aa.1.fR,Aa.1.fL,Aa.1.fT,Aa.1.fP,Ac⟩:Request),(⟨c1.fb,Aa.2.fi,Aa.2.fh⟩:Cur))
def Qfx (fu:Nat)  (c1:Cur) (Aa:Request × Cur) (Ab:Typ × Bool):Nat → List Item → Int → Option (Request × Cur)
  | 0=>fun _ _=>none
  | n + 1=>Qm7 fu c1 Aa Ab (Qfx fu c1 Aa Ab n)
def Qrb (fu:Nat) (c1:Cur):Option (Request × Cur) :=
  Qac (Qmq fu c1) fun Aa=>Qac (Qen fu Aa.1) fun Ab=>bif (Ab != 0) then Qac (Qfp fu ((⟨Aa.1.qJ,(⟨30,25,24,400⟩:Pallet),Aa.1.fR,Aa.1.fL,Aa.1.fT,Aa.1.fP,Aa.1.fG⟩:Request))) fun Ac=>Qfx fu c1 Aa Ac fu (([]:List Item)) 0 else some (Aa.1,(⟨c1.fb,Aa.2.fi,Aa.2.fh⟩:Cur))
def Qbd (fu:Nat) (c1:Cur) (Aa:Request × Cur) (Ag:Int) (Ai:Int) (Ab:Int) (Af:Int) (Ad:List Pair) (Aj:List Typ) (Ac:Int) (Ak:List Item) (Ah:Int) (Ae:Int):Option (Request × Cur) :=
  some ((⟨Ag,(⟨Ai,Aa.1.fQ.fD,Aa.1.fQ.fH,Ab⟩:Pallet),Af,Ad,Aj,Ac,Ak⟩:Request),(⟨c1.fb,Ah,Ae⟩:Cur))
def Qq4 (fu:Nat) (c1:Cur):Option (Request × Cur) :=
  Qac (Qmq fu c1) fun Aa=>Qac (Qbu fu (⟨c1.fb,Aa.2.fi,Aa.2.fh⟩:Cur) (([(-1),0,2001,100001,1000,9223372036854775807]:List Int))) fun Ac=>Qac (Qao fu (⟨c1.fb,Ac.2.fi,Ac.2.fh⟩:Cur) 20) fun Ab=>bif (Ab.1 == 0) then Qac (Qbu fu (⟨c1.fb,Ab.2.fi,Ab.2.fh⟩:Cur) (([(-1),2]:List Int))) fun Ak=>Qbd fu c1 Aa Ak.1 Aa.1.fQ.fW Aa.1.fQ.fV Aa.1.fR Aa.1.fL Aa.1.fT Aa.1.fP Aa.1.fG Ak.2.fi Ak.2.fh else bif (Ab.1 == 1) then Qbd fu c1 Aa Aa.1.qJ Ac.1 Aa.1.fQ.fV Aa.1.fR Aa.1.fL Aa.1.fT Aa.1.fP Aa.1.fG Ab.2.fi Ab.2.fh else bif (Ab.1 == 2) then Qbd fu c1 Aa Aa.1.qJ Aa.1.fQ.fW Ac.1 Aa.1.fR Aa.1.fL Aa.1.fT Aa.1.fP Aa.1.fG Ab.2.fi Ab.2.fh else bif (Ab.1 == 3) then Qac (Qbu fu (⟨c1.fb,Ab.2.fi,Ab.2.fh⟩:Cur) (([0,5,1]:List Int))) fun Ah=>Qbd fu c1 Aa Aa.1.qJ Aa.1.fQ.fW Aa.1.fQ.fV Ah.1 Aa.1.fL Aa.1.fT Aa.1.fP Aa.1.fG Ah.2.fi Ah.2.fh else bif (Ab.1 == 4) then Qac (Qao fu (⟨c1.fb,Ab.2.fi,Ab.2.fh⟩:Cur) 6) fun Aj=>Qac (Qao fu (⟨c1.fb,Aj.2.fi,Aj.2.fh⟩:Cur) 4) fun Ai=>Qac (Qhw 16 Aa.1.fL (([(⟨w64 (Aj.1 - 1),Ai.1⟩:Pair)]:List Pair))) fun Ar=>Qbd fu c1 Aa Aa.1.qJ Aa.1.fQ.fW Aa.1.fQ.fV Aa.1.fR Ar Aa.1.fT Aa.1.fP Aa.1.fG Ai.2.fi Ai.2.fh else bif (Ab.1 == 5) then Qac (ix Aa.1.fT 0) fun As=>Qbd fu c1 Aa Aa.1.qJ Aa.1.fQ.fW Aa.1.fQ.fV Aa.1.fR Aa.1.fL (Qhx Aa.1.fT 0 ({ As with fH:=Ac.1 })) Aa.1.fP Aa.1.fG Ab.2.fi Ab.2.fh else bif (Ab.1 == 6) then Qac (Qao fu (⟨c1.fb,Ab.2.fi,Ab.2.fh⟩:Cur) (Aa.1.fT.length:Int)) fun Ad=>Qac (ix Aa.1.fT Ad.1) fun Ao=>Qbd fu c1 Aa Aa.1.qJ Aa.1.fQ.fW Aa.1.fQ.fV Aa.1.fR Aa.1.fL (Qhx Aa.1.fT Ad.1 ({ Ao with fV:=Ac.1 })) Aa.1.fP Aa.1.fG Ad.2.fi Ad.2.fh else bif (Ab.1 == 7) then Qac (Qbu fu (⟨c1.fb,Ab.2.fi,Ab.2.fh⟩:Cur) (([8,(-1),1000]:List Int))) fun Ae=>Qbd fu c1 Aa Aa.1.qJ Aa.1.fQ.fW Aa.1.fQ.fV Aa.1.fR Aa.1.fL Aa.1.fT Ae.1 Aa.1.fG Ae.2.fi Ae.2.fh else bif (Ab.1 == 8) then Qac (Qao fu (⟨c1.fb,Ab.2.fi,Ab.2.fh⟩:Cur) 5) fun Ag=>Qac (Qao fu (⟨c1.fb,Ag.2.fi,Ag.2.fh⟩:Cur) 8) fun Af=>Qac (Qhw 56 Aa.1.fG (([(⟨3,1,2,3,4,Ag.1,Af.1⟩:Item)]:List Item))) fun Am=>Qbd fu c1 Aa Aa.1.qJ Aa.1.fQ.fW Aa.1.fQ.fV Aa.1.fR Aa.1.fL Aa.1.fT Aa.1.fP Am Af.2.fi Af.2.fh else bif (Ab.1 == 9) then bif (decide ((Aa.1.fG.length:Int) > 0)) then Qac (ix Aa.1.fG 0) fun At=>Qbd fu c1 Aa Aa.1.qJ Aa.1.fQ.fW Aa.1.fQ.fV Aa.1.fR Aa.1.fL Aa.1.fT Aa.1.fP (Qhx Aa.1.fG 0 ({ At with fD:=Ac.1 })) Ab.2.fi Ab.2.fh else Qbd fu c1 Aa Aa.1.qJ Aa.1.fQ.fW Aa.1.fQ.fV Aa.1.fR Aa.1.fL Aa.1.fT Aa.1.fP Aa.1.fG Ab.2.fi Ab.2.fh else bif (Ab.1 == 10) then bif (decide ((Aa.1.fL.length:Int) > 0)) then Qac (sls Aa.1.fL 1 (Aa.1.fL.length:Int)) fun Al=>Qbd fu c1 Aa Aa.1.qJ Aa.1.fQ.fW Aa.1.fQ.fV Aa.1.fR Al Aa.1.fT Aa.1.fP Aa.1.fG Ab.2.fi Ab.2.fh else Qbd fu c1 Aa Aa.1.qJ Aa.1.fQ.fW Aa.1.fQ.fV Aa.1.fR Aa.1.fL Aa.1.fT Aa.1.fP Aa.1.fG Ab.2.fi Ab.2.fh else bif (Ab.1 == 11) then Qac (ix Aa.1.fT 0) fun Aq=>Qac (Qhw 56 Aa.1.fT (([Aq]:List Typ))) fun Ap=>Qbd fu c1 Aa Aa.1.qJ Aa.1.fQ.fW Aa.1.fQ.fV Aa.1.fR Aa.1.fL Ap Aa.1.fP Aa.1.fG Ab.2.fi Ab.2.fh else bif (Ab.1 == 12) then Qbd fu c1 Aa Aa.1.qJ Aa.1.fQ.fW Aa.1.fQ.fV Aa.1.fR Aa.1.fL (([]:List Typ)) Aa.1.fP Aa.1.fG Ab.2.fi Ab.2.fh else Qbd fu c1 Aa Aa.1.qJ Aa.1.fQ.fW Aa.1.fQ.fV Aa.1.fR Aa.1.fL Aa.1.fT Aa.1.fP Aa.1.fG Ab.2.fi Ab.2.fh
def Qmj (fu:Nat) (Ab:List U8):Option (Request) :=
  Qac (Qnw fu Ab) fun x8=>Qac (Qih fu (⟨Ab,x8.fi,x8.fh⟩:Cur) 2) fun Aa=>bif Aa.1 then Qac (Qrb fu (⟨Ab,Aa.2.fi,Aa.2.fh⟩:Cur)) fun Ad=>some (Ad.1) else Qac (Qq4 fu (⟨Ab,Aa.2.fi,Aa.2.fh⟩:Cur)) fun Ac=>some (Ac.1)
def Qjy (fu:Nat) (Ab:List Int → Int → Option ((List Int))) (Aa:Int) (Ac:List Int):Option ((List Int)) :=
  Ab Ac (w64 (Aa + 1))
def Qkh (fu:Nat) (Ab:Bool → Int → Option ((List Int))) (Aa:Int) (Ac:Bool):Option ((List Int)) :=
  Ab Ac (w64 (Aa + 1))
def Qlp (fu:Nat) (Ae:List Int → Int → Option ((List Int))) (r1:Request) (Ad:List Int) (Ab:Int) (Ac:Bool → Int → Option ((List Int))) (Af:Bool) (Aa:Int):Option ((List Int)) :=
  bif (decide (Aa < (r1.fG.length:Int))) then bif Af then Qkh fu Ac Aa true else Qac (ix r1.fG Aa) fun Ah=>Qkh fu Ac Aa (Ah.fF == Ab) else bif Af then Qac (Qhw 8 Ad (([Ab]:List Int))) fun Ag=>Qjy fu Ae Ab Ag else Qjy fu Ae Ab Ad
def Qd8 (fu:Nat) (Ab:List Int → Int → Option ((List Int))) (r1:Request) (Aa:List Int) (Ac:Int):Nat → Bool → Int → Option ((List Int))
  | 0=>fun _ _=>none
  | n + 1=>Qlp fu Ab r1 Aa Ac (Qd8 fu Ab r1 Aa Ac n)
def Qkt (fu:Nat)  (r1:Request) (Ac:List Int → Int → Option ((List Int))) (Aa:List Int) (Ab:Int):Option ((List Int)) :=
  bif (decide (Ab < 4)) then Qd8 fu Ac r1 Aa Ab fu false 0 else some (Aa)
def Qdd (fu:Nat)  (r1:Request):Nat → List Int → Int → Option ((List Int))
  | 0=>fun _ _=>none
  | n + 1=>Qkt fu r1 (Qdd fu r1 n)
def Qpi (fu:Nat) (r1:Request):Option ((List Int)) :=
  Qac (Qen fu r1) fun Aa=>bif (Aa != 0) then some (([]:List Int)) else Qdd fu r1 fu (([]:List Int)) 0
def Qo9 (fu:Nat)  (Ab:List Int) (x5:Int) (k1:Int → Option (Bool)) (Aa:Int):Option (Bool) :=
  bif (decide (Aa < (Ab.length:Int))) then Qac (ix Ab Aa) fun Ac=>bif (Ac == x5) then some (true) else k1 (w64 (Aa + 1)) else some (false)
def Qh3 (fu:Nat)  (Aa:List Int) (x5:Int):Nat → Int → Option (Bool)
  | 0=>fun _=>none
  | n + 1=>Qo9 fu Aa x5 (Qh3 fu Aa x5 n)
def Qn6 (fu:Nat) (Aa:List Int) (x5:Int):Option (Bool) :=
  Qh3 fu Aa x5 fu 0
def Qo3 (fu:Nat) (k3:Int → Option (Bool)) (Aa:Int)  : Option (Bool) :=
  k3 (w64 (Aa + 1))
def Qko (fu:Nat)  (Ae:List Pair) (Ab:List Int) (Ac:Int) (k3:Int → Option (Bool)) (Aa:Int):Option (Bool) :=
  bif (decide (Aa < (Ab.length:Int))) then Qac (ix Ab Aa) fun Ad=>Qac (Qft fu Ae Ad Ac) fun Af=>bif (!Af) then some (false) else Qac (ix Ab Aa) fun Ah=>Qac (Qft fu Ae Ac Ad) fun Ag=>bif (!Ag) then some (false) else Qo3 fu k3 Aa else some (true)
def Qe2 (fu:Nat)  (Ab:List Pair) (Ac:List Int) (Aa:Int):Nat → Int → Option (Bool)
  | 0=>fun _=>none
  | n + 1=>Qko fu Ab Ac Aa (Qe2 fu Ab Ac Aa n)
def Qpj (fu:Nat) (Ab:List Pair) (Ac:List Int) (Aa:Int):Option (Bool) :=
  Qe2 fu Ab Ac Aa fu 0
def Qgz (fu:Nat) (Ab:List (List Int) → Int → Option ((List (List Int)))) (Ac:Int) (Aa:List (List Int)):Option ((List (List Int))) :=
  Ab Aa (w64 (Ac + 1))
def Ql5 (fu:Nat) (Aa:Int → Int → Option ((List (List Int)))) (Ac:Int) (Ab:Int):Option ((List (List Int))) :=
  Aa Ab (w64 (Ac - 1))
def Qmy (fu:Nat) (Af:List (List Int) → Int → Option ((List (List Int)))) (Ak:List Pair) (Ad:List (List Int)) (Ab:Int) (Ae:Int → Int → Option ((List (List Int)))) (Aa:Int) (Ac:Int):Option ((List (List Int))) :=
  bif (decide (Ac ≥ 0)) then Qac (ix Ad Ac) fun Ag=>Qac (Qpj fu Ak Ag Ab) fun Aj=>bif Aj then Ql5 fu Ae Ac Ac else Ql5 fu Ae Ac Aa else bif (decide (Aa < 0)) then Qac (Qhw 24 Ad [([Ab]:List Int)]) fun Ai=>Qgz fu Af Ab Ai else Qac (ix Ad Aa) fun Al=>Qac (Qhw 8 Al (([Ab]:List Int))) fun Ah=>Qac (ix Ad Aa) fun Am=>Qgz fu Af Ab (Qhx Ad Aa Ah)
def Qes (fu:Nat) (Ab:List (List Int) → Int → Option ((List (List Int)))) (Aa:List Pair) (Ac:List (List Int)) (Ad:Int):Nat → Int → Int → Option ((List (List Int)))
  | 0=>fun _ _=>none
  | n + 1=>Qmy fu Ab Aa Ac Ad (Qes fu Ab Aa Ac Ad n)
def Qm9 (fu:Nat)  (Ad:List Pair) (Af:List Int) (Ac:List (List Int) → Int → Option ((List (List Int)))) (Ab:List (List Int)) (Aa:Int):Option ((List (List Int))) :=
  bif (decide (Aa < 4)) then Qac (Qn6 fu Af Aa) fun Ae=>bif (!Ae) then Qgz fu Ac Aa Ab else Qes fu Ac Ad Ab Aa fu ((-1)) (w64 ((Ab.length:Int) - 1)) else some (Ab)
def Qd3 (fu:Nat)  (Aa:List Pair) (Ab:List Int):Nat → List (List Int) → Int → Option ((List (List Int)))
  | 0=>fun _ _=>none
  | n + 1=>Qm9 fu Aa Ab (Qd3 fu Aa Ab n)
def Qry (fu:Nat) (Aa:List Pair) (Ab:List Int):Option ((List (List Int))) :=
  Qd3 fu Aa Ab fu (([]:List (List Int))) 0
def Qgp (fu:Nat) (r1:Request):Option ((List (List Int))) :=
  Qac (Qpi fu r1) fun Ab=>Qac (Qry fu r1.fL Ab) fun Aa=>some (Aa)
def Qli (fu:Nat) (k3:List Int → Int → Option ((List Int))) (r1:Request) (Aa:Int) (k4:List Int → Int → Option ((List Int))) (Ac:List Int) (Ab:Int):Option ((List Int)) :=
  Qac (ix r1.fG Aa) fun Ae=>bif (decide (Ab < Ae.f0)) then Qac (Qhw 8 Ac (([Aa]:List Int))) fun Ad=>k4 Ad (w64 (Ab + 1)) else k3 Ac (w64 (Aa + 1))
def Qgd (fu:Nat) (k3:List Int → Int → Option ((List Int))) (r1:Request) (Aa:Int):Nat → List Int → Int → Option ((List Int))
  | 0=>fun _ _=>none
  | n + 1=>Qli fu k3 r1 Aa (Qgd fu k3 r1 Aa n)
def Qk8 (fu:Nat)  (r1:Request) (k3:List Int → Int → Option ((List Int))) (Ab:List Int) (Aa:Int):Option ((List Int)) :=
  bif (decide (Aa < (r1.fG.length:Int))) then Qgd fu k3 r1 Aa fu Ab 0 else some (Ab)
def Qd5 (fu:Nat)  (r1:Request):Nat → List Int → Int → Option ((List Int))
  | 0=>fun _ _=>none
  | n + 1=>Qk8 fu r1 (Qd5 fu r1 n)
def Qcf (fu:Nat) (r1:Request):Option ((List Int)) :=
  Qd5 fu r1 fu (([]:List Int)) 0
def Qkc (fu:Nat) (k3:List Int → Int → Option ((List Int))) (Ab:Int) (Aa:List Int):Option ((List Int)) :=
  k3 Aa (w64 (Ab + 1))
def Qks (fu:Nat)  (r1:Request) (Aj:Int) (Ai:(List (List Int))) (Ac:(List Int)) (k3:List Int → Int → Option ((List Int))) (Ab:List Int) (Aa:Int):Option ((List Int)) :=
  bif (decide (Aa < (Ac.length:Int))) then Qac (ix Ai Aj) fun Af=>Qac (ix Ac Aa) fun Ad=>Qac (ix r1.fG Ad) fun Ae=>Qac (Qn6 fu Af Ae.fF) fun Ah=>bif Ah then Qac (Qhw 8 Ab (([Aa]:List Int))) fun Ag=>Qkc fu k3 Aa Ag else Qkc fu k3 Aa Ab else some (Ab)
def Qe0 (fu:Nat)  (r1:Request) (Ac:Int) (Aa:(List (List Int))) (Ab:(List Int)):Nat → List Int → Int → Option ((List Int))
  | 0=>fun _ _=>none
  | n + 1=>Qks fu r1 Ac Aa Ab (Qe0 fu r1 Ac Aa Ab n)
def Qpv (fu:Nat) (r1:Request) (Ab:Int):Option ((List Int)) :=
  Qac (Qgp fu r1) fun Aa=>Qac (Qaq fu Ab 0 (w64 ((Aa.length:Int) - 1))) fun Ac=>bif (!Ac) then some (([]:List Int)) else Qac (Qcf fu r1) fun Ad=>Qe0 fu r1 Ab Aa Ad fu (([]:List Int)) 0
def Qju (fu:Nat) (k3:List Int → Int → Option ((List Int))) (Ab:Int) (Aa:List Int):Option ((List Int)) :=
  k3 Aa (w64 (Ab + 1))
def Qlj (fu:Nat)  (Ae:List Int) (Ab:List Int) (k3:List Int → Int → Option ((List Int))) (Ac:List Int) (Aa:Int):Option ((List Int)) :=
  bif (decide (Aa < (Ab.length:Int))) then Qac (ix Ab Aa) fun Ad=>Qac (Qaq fu Ad 0 (w64 ((Ae.length:Int) - 1))) fun Ag=>bif Ag then Qac (ix Ab Aa) fun Ah=>Qac (Qhw 8 Ac (([Ad]:List Int))) fun Af=>Qju fu k3 Aa Af else Qju fu k3 Aa Ac else some (Ac)
def Qe5 (fu:Nat)  (Ab:List Int) (Aa:List Int):Nat → List Int → Int → Option ((List Int))
  | 0=>fun _ _=>none
  | n + 1=>Qlj fu Ab Aa (Qe5 fu Ab Aa n)
def Qmk (fu:Nat) (Ab:List Int) (Aa:List Int):Option ((List Int)) :=
  Qe5 fu Ab Aa fu (([]:List Int)) 0
def Qis (fu:Nat) (r1:Request) (Aa:List Int) (u9:Int):Option (Item × Bool) :=
  Qac (Qaq fu u9 0 (w64 ((Aa.length:Int) - 1))) fun Ad=>bif (!Ad) then some ((⟨0,0,0,0,0,0,0⟩:Item),false) else Qac (ix Aa u9) fun Ab=>Qac (ix r1.fG Ab) fun Ac=>some (Ac,true)
def Qqb (fu:Nat) (Aa:Int) (h2:Int) (d3:Int)  : Option (Int) :=
  some (w64 ((w64 (Aa * h2)) * d3))
def Qlk (fu:Nat) (Aa:Int) (h2:Int) (d3:Int):Option (Int) :=
  Qac (Qaq fu Aa 0 2000) fun Ac=>bif (!Ac) then some (0) else Qac (Qaq fu h2 0 2000) fun Ad=>bif (!Ad) then some (0) else Qac (Qaq fu d3 0 2000) fun Ab=>bif (!Ab) then some (0) else Qqb fu Aa h2 d3
def Qsf (fu:Nat) (k7:L7 → Int → Option (L7)) (Ab:Int) (Aa:L7):Option (L7) :=
  k7 Aa (w64 (Ab + 1))
def Qse (fu:Nat) (k7:L7 → Int → Option (L7)) (Ab:L7) (Ac:Int) (Aa:Item):Option (L7) :=
  Qac (Qlk fu Aa.fW Aa.fH Aa.fD) fun Ad=>Qsf fu k7 Ac (⟨w64 (Ab.fvol + Ad),w64 (Ab.fgram + Aa.fV)⟩:L7)
def Qqa (fu:Nat)  (r1:Request) (Ad:List Int) (Ac:List Int) (k7:L7 → Int → Option (L7)) (Ab:L7) (Aa:Int):Option (L7) :=
  bif (decide (Aa < (Ac.length:Int))) then Qac (ix Ac Aa) fun Ae=>Qac (Qis fu r1 Ad Ae) fun Af=>Qse fu k7 Ab Aa Af.1 else some (Ab)
def Qgl (fu:Nat)  (r1:Request) (Aa:List Int) (Ab:List Int):Nat → L7 → Int → Option (L7)
  | 0=>fun _ _=>none
  | n + 1=>Qqa fu r1 Aa Ab (Qgl fu r1 Aa Ab n)
def Qql (fu:Nat) (r1:Request) (Aa:List Int) (Ab:List Int):Option (L7) :=
  Qgl fu r1 Aa Ab fu (⟨0,0⟩:L7) 0
def Qqj (fu:Nat) (m9:Typ) (Aa:L7):Option (Bool) :=
  Qac (Qlk fu m9.fW m9.fH m9.fD) fun Ab=>bif (decide (Aa.fvol ≤ Ab)) then some (decide (Aa.fgram ≤ m9.fV)) else some (false)
def Qou (fu:Nat) (r1:Request) (Ab:List Int) (m9:Typ) (Ae:List Int) (Aa:Int):Option (Bool) :=
  Qac (Qhw 8 (([]:List Int)) Ae) fun Ac=>Qac (Qhw 8 Ac (([Aa]:List Int))) fun Ad=>Qac (Qql fu r1 Ab Ad) fun Af=>Qqj fu m9 Af
def Qid (fu:Nat) (k3:List (List Int) → Int → Option ((List (List Int)))) (Aa:Int) (Ab:List (List Int)):Option ((List (List Int))) :=
  k3 Ab (w64 (Aa + 1))
def Qna (fu:Nat)  (r1:Request) (Ac:List Int) (Ah:Typ × Bool) (Aj:(List Int)) (k3:List (List Int) → Int → Option ((List (List Int)))) (Aa:List (List Int)) (Ab:Int):Option ((List (List Int))) :=
  bif (decide (Ab < (Ac.length:Int))) then bif (decide ((Aa.length:Int) > 0)) then Qac (ix Aa (w64 ((Aa.length:Int) - 1))) fun Ae=>Qac (ix Ac Ab) fun Ad=>Qac (Qou fu r1 Aj Ah.1 Ae Ad) fun Af=>bif Af then Qac (ix Aa (w64 ((Aa.length:Int) - 1))) fun Ao=>Qac (ix Ac Ab) fun Ap=>Qac (Qhw 8 Ae (([Ad]:List Int))) fun Ag=>Qac (ix Aa (w64 ((Aa.length:Int) - 1))) fun Aq=>Qid fu k3 Ab (Qhx Aa (w64 ((Aa.length:Int) - 1)) Ag) else Qac (ix Ac Ab) fun Am=>Qac (Qhw 24 Aa [([Ad]:List Int)]) fun Al=>Qid fu k3 Ab Al else Qac (ix Ac Ab) fun Ai=>Qac (Qhw 24 Aa [([Ai]:List Int)]) fun Ak=>Qid fu k3 Ab Ak else some (Aa)
def Qfz (fu:Nat)  (r1:Request) (Ab:List Int) (Ac:Typ × Bool) (Aa:(List Int)):Nat → List (List Int) → Int → Option ((List (List Int)))
  | 0=>fun _ _=>none
  | n + 1=>Qna fu r1 Ab Ac Aa (Qfz fu r1 Ab Ac Aa n)
def Qsx (fu:Nat) (r1:Request) (Ac:List Int):Option ((List (List Int))) :=
  Qac (Qfp fu r1) fun Ab=>Qac (Qcf fu r1) fun Aa=>Qfz fu r1 Ac Ab Aa fu (([]:List (List Int))) 0
def Qp3 (fu:Nat) (r1:Request) (Ae:List Int):Option ((List (List Int))) :=
  Qac (Qen fu r1) fun Aa=>bif (Aa != 0) then some (([]:List (List Int))) else Qac (Qcf fu r1) fun Ad=>Qac (Qmk fu Ad Ae) fun Ac=>Qac (Qsx fu r1 Ac) fun Ab=>some (Ab)
def Qgr (fu:Nat) (Aa:List Int):Option ((List Int)) :=
  Qac (Qj9 fu (Aa.length:Int)) fun x5=>Qac (Qpu fu Aa x5 true) fun Ab=>some (Ab)
def Qj3 (fu:Nat) (Ac:List (List Int) → Int → Option ((List (List Int)))) (Ab:Int) (Aa:List (List Int)):Option ((List (List Int))) :=
  Ac Aa (w64 (Ab + 1))
def Qkk (fu:Nat) (Ab:Int → Int → Option ((List (List Int)))) (Ac:Int) (Aa:Int):Option ((List (List Int))) :=
  Ab Aa (w64 (Ac - 1))
def Qk2 (fu:Nat) (Af:List (List Int) → Int → Option ((List (List Int)))) (r1:Request) (Ai:Typ × Bool) (Ao:(List Int)) (Ac:List (List Int)) (Ae:Int) (Ad:Int) (Ag:Int → Int → Option ((List (List Int)))) (Aa:Int) (Ab:Int):Option ((List (List Int))) :=
  bif (decide (Ab ≥ 0)) then Qac (ix Ac Ab) fun Ah=>Qac (Qou fu r1 Ao Ai.1 Ah Ad) fun Ak=>bif Ak then Qkk fu Ag Ab Ab else Qkk fu Ag Ab Aa else bif (decide (Aa < 0)) then Qac (Qhw 24 Ac [([Ad]:List Int)]) fun Aj=>Qj3 fu Af Ae Aj else Qac (ix Ac Aa) fun Am=>Qac (Qhw 8 Am (([Ad]:List Int))) fun Al=>Qac (ix Ac Aa) fun Ap=>Qj3 fu Af Ae (Qhx Ac Aa Al)
def Qe8 (fu:Nat) (Ad:List (List Int) → Int → Option ((List (List Int)))) (r1:Request) (Ab:Typ × Bool) (Ae:(List Int)) (Af:List (List Int)) (Ac:Int) (Aa:Int):Nat → Int → Int → Option ((List (List Int)))
  | 0=>fun _ _=>none
  | n + 1=>Qk2 fu Ad r1 Ab Ae Af Ac Aa (Qe8 fu Ad r1 Ab Ae Af Ac Aa n)
def Qlx (fu:Nat)  (r1:Request) (Ai:List Int) (Ae:Typ × Bool) (Ah:(List Int)) (Ac:(List Int)) (Ag:List (List Int) → Int → Option ((List (List Int)))) (Ab:List (List Int)) (Aa:Int):Option ((List (List Int))) :=
  bif (decide (Aa < (Ac.length:Int))) then Qac (ix Ac Aa) fun Af=>Qac (ix Ai Af) fun Ad=>Qe8 fu Ag r1 Ae Ah Ab Aa Ad fu ((-1)) (w64 ((Ab.length:Int) - 1)) else some (Ab)
def Qcj (fu:Nat)  (r1:Request) (Ab:List Int) (Ac:Typ × Bool) (Aa:(List Int)) (Ad:(List Int)):Nat → List (List Int) → Int → Option ((List (List Int)))
  | 0=>fun _ _=>none
  | n + 1=>Qlx fu r1 Ab Ac Aa Ad (Qcj fu r1 Ab Ac Aa Ad n)
def Qkr (fu:Nat)  (r1:Request) (Ab:List Int) (Ae:Typ × Bool) (Ad:(List Int)) (k1:List Int → Int → Option ((List (List Int)))) (Ac:List Int) (Aa:Int):Option ((List (List Int))) :=
  bif (decide (Aa < (Ab.length:Int))) then Qac (sls Ab Aa (w64 (Aa + 1))) fun Ag=>Qac (Qql fu r1 Ad Ag) fun Ai=>Qac (Qhw 8 Ac (([Ai.fvol]:List Int))) fun Ah=>k1 Ah (w64 (Aa + 1)) else Qac (Qgr fu Ac) fun Af=>Qcj fu r1 Ab Ae Ad Af fu (([]:List (List Int))) 0
def Qge (fu:Nat)  (r1:Request) (Ab:List Int) (Ac:Typ × Bool) (Aa:(List Int)):Nat → List Int → Int → Option ((List (List Int)))
  | 0=>fun _ _=>none
  | n + 1=>Qkr fu r1 Ab Ac Aa (Qge fu r1 Ab Ac Aa n)
def Qsc (fu:Nat) (r1:Request) (Ac:List Int):Option ((List (List Int))) :=
  Qac (Qfp fu r1) fun Ab=>Qac (Qcf fu r1) fun Aa=>Qge fu r1 Ac Ab Aa fu (([]:List Int)) 0
def Qoj (fu:Nat) (r1:Request) (Ae:List Int):Option ((List (List Int))) :=
  Qac (Qen fu r1) fun Aa=>bif (Aa != 0) then some (([]:List (List Int))) else Qac (Qcf fu r1) fun Ad=>Qac (Qmk fu Ad Ae) fun Ac=>Qac (Qsc fu r1 Ac) fun Ab=>some (Ab)
def Qpg (fu:Nat) (r1:Request) (Aa:List Int):Option ((List (List Int))) :=
  bif (r1.qJ == 1) then Qac (Qp3 fu r1 Aa) fun Ac=>some (Ac) else Qac (Qoj fu r1 Aa) fun Ab=>some (Ab)
def Qrk (fu:Nat) (r1:Request) (Ad:List Int) (t9:Typ) (Ab:(List Int))  : Option (Bool) :=
  Qac (Qql fu r1 Ab Ad) fun Aa=>Qac (Qlk fu t9.fW t9.fH t9.fD) fun Ac=>bif (decide (Aa.fvol ≤ Ac)) then some (decide (Aa.fgram ≤ t9.fV)) else some (false)
def Qrc (fu:Nat) (Ab:Int → Option (Bool)) (Aa:Int)  : Option (Bool) :=
  Ab (w64 (Aa + 1))
def Qrf (fu:Nat) (Ae:Int → Option (Bool)) (t9:Typ) (Aa:Int) (Ad:Item) (Ac:Bool):Option (Bool) :=
  bif (!Ac) then some (false) else Qac (Qqm fu Ad t9) fun Ab=>bif (!Ab) then some (false) else Qrc fu Ae Aa
def Qov (fu:Nat)  (r1:Request) (Aa:List Int) (t9:Typ) (Ad:(List Int)) (Af:Int → Option (Bool)) (Ab:Int):Option (Bool) :=
  bif (decide (Ab < (Aa.length:Int))) then Qac (ix Aa Ab) fun Ae=>Qac (Qis fu r1 Ad Ae) fun Ac=>Qrf fu Af t9 Ab Ac.1 Ac.2 else Qrk fu r1 Aa t9 Ad
def Qfo (fu:Nat)  (r1:Request) (Ab:List Int) (t9:Typ) (Aa:(List Int)):Nat → Int → Option (Bool)
  | 0=>fun _=>none
  | n + 1=>Qov fu r1 Ab t9 Aa (Qfo fu r1 Ab t9 Aa n)
def Qqv (fu:Nat) (r1:Request) (Ab:List Int) (t9:Typ):Option (Bool) :=
  Qac (Qen fu r1) fun Ac=>bif (Ac != 0) then some (false) else Qac (Qcf fu r1) fun Aa=>Qfo fu r1 Ab t9 Aa fu 0
def Qdr (fu:Nat) (k3:Typ → Bool → Int → Option (Typ × Bool)) (Ac:Int) (Aa:Typ) (Ab:Bool):Option (Typ × Bool) :=
  k3 Aa Ab (w64 (Ac + 1))
def Qjk (fu:Nat)  (r1:Request) (Ae:List Int) (k3:Typ → Bool → Int → Option (Typ × Bool)) (Ac:Typ) (Ad:Bool) (Aa:Int):Option (Typ × Bool) :=
  bif (decide (Aa < (r1.fT.length:Int))) then Qac (ix r1.fT Aa) fun Ab=>Qac (Qqv fu r1 Ae Ab) fun Af=>bif (!Af) then Qdr fu k3 Aa Ac Ad else bif (!Ad) then Qdr fu k3 Aa Ab true else bif (decide (Ab.fK < Ac.fK)) then Qdr fu k3 Aa Ab true else bif (Ab.fK == Ac.fK) then bif (decide (Ab.f8 < Ac.f8)) then Qdr fu k3 Aa Ab true else Qdr fu k3 Aa Ac Ad else Qdr fu k3 Aa Ac Ad else some (Ac,Ad)
def Qek (fu:Nat)  (r1:Request) (Aa:List Int):Nat → Typ → Bool → Int → Option (Typ × Bool)
  | 0=>fun _ _ _=>none
  | n + 1=>Qjk fu r1 Aa (Qek fu r1 Aa n)
def Qj2 (fu:Nat) (r1:Request) (Aa:List Int):Option (Typ × Bool) :=
  Qek fu r1 Aa fu (⟨0,0,0,0,0,0,0⟩:Typ) false 0
def Qlo (fu:Nat) (Aa:List Carton → Int → Option ((List Carton))) (Ab:Int) (Ac:List Carton):Option ((List Carton)) :=
  Aa Ac (w64 (Ab + 1))
def Qh2 (fu:Nat) (Aa:List Carton → Int → Option ((List Carton))) (Ab:Int) (Ac:List Carton):Option ((List Carton)) :=
  Aa Ac (w64 (Ab + 1))
def Qik (fu:Nat) (Ah:List Carton → Int → Option ((List Carton))) (Am:Int) (Af:(List (List Int))) (Ap:List Carton) (Ac:Int) (Ao:Typ) (Ad:(List Int)) (Ak:List Int → Int → Option ((List Carton))) (Ab:List Int) (Aa:Int):Option ((List Carton)) :=
  bif (decide (Aa < (Ad.length:Int))) then Qac (ix Af Ac) fun Ag=>Qac (ix Ad Aa) fun Al=>Qac (ix Ag Al) fun Ai=>Qac (Qhw 8 Ab (([Ai]:List Int))) fun Aj=>Ak Aj (w64 (Aa + 1)) else Qac (Qhw 40 Ap [(⟨Ao.f8,Am,Ab⟩:Carton)]) fun Ae=>Qh2 fu Ah Ac Ae
def Qez (fu:Nat) (Ab:List Carton → Int → Option ((List Carton))) (Ae:Int) (Aa:(List (List Int))) (Ag:List Carton) (Ac:Int) (Ad:Typ) (Af:(List Int)):Nat → List Int → Int → Option ((List Carton))
  | 0=>fun _ _=>none
  | n + 1=>Qik fu Ab Ae Aa Ag Ac Ad Af (Qez fu Ab Ae Aa Ag Ac Ad Af n)
def Qlr (fu:Nat) (Ad:List Carton → Int → Option ((List Carton))) (Af:Int) (Aa:(List (List Int))) (Ah:List Carton) (Ab:Int) (Ae:Typ):Option ((List Carton)) :=
  Qac (ix Aa Ab) fun Ac=>Qac (Qo2 fu Ac) fun Ag=>Qez fu Ad Af Aa Ah Ab Ae Ag fu (([]:List Int)) 0
def Qio (fu:Nat) (Af:List Carton → Int → Option ((List Carton))) (r1:Request) (Ac:Int) (Aa:(List (List Int))) (Ag:List Carton → Int → Option ((List Carton))) (Ad:List Carton) (Ab:Int):Option ((List Carton)) :=
  bif (decide (Ab < (Aa.length:Int))) then Qac (ix Aa Ab) fun Ah=>Qac (Qj2 fu r1 Ah) fun Ae=>Qlr fu Ag Ac Aa Ad Ab Ae.1 else Qlo fu Af Ac Ad
def Qbz (fu:Nat) (Aa:List Carton → Int → Option ((List Carton))) (r1:Request) (Ab:Int) (Ac:(List (List Int))):Nat → List Carton → Int → Option ((List Carton))
  | 0=>fun _ _=>none
  | n + 1=>Qio fu Aa r1 Ab Ac (Qbz fu Aa r1 Ab Ac n)
def Qiu (fu:Nat)  (r1:Request) (Ae:(List (List Int))) (Ad:List Carton → Int → Option ((List Carton))) (Ab:List Carton) (Aa:Int):Option ((List Carton)) :=
  bif (decide (Aa < (Ae.length:Int))) then Qac (Qpv fu r1 Aa) fun Af=>Qac (Qpg fu r1 Af) fun Ac=>Qbz fu Ad r1 Aa Ac fu Ab 0 else some (Ab)
def Qbb (fu:Nat)  (r1:Request) (Aa:(List (List Int))):Nat → List Carton → Int → Option ((List Carton))
  | 0=>fun _ _=>none
  | n + 1=>Qiu fu r1 Aa (Qbb fu r1 Aa n)
def Qmd (fu:Nat) (r1:Request):Option ((List Carton)) :=
  Qac (Qgp fu r1) fun Aa=>Qbb fu r1 Aa fu (([]:List Carton)) 0
def Qjh (fu:Nat)  (r1:Request) (Ac:Int) (k1:Int → Option (Typ × Bool)) (Aa:Int):Option (Typ × Bool) :=
  bif (decide (Aa < (r1.fT.length:Int))) then Qac (ix r1.fT Aa) fun Ab=>bif (Ab.f8 == Ac) then Qac (ix r1.fT Aa) fun Ad=>some (Ab,true) else k1 (w64 (Aa + 1)) else some ((⟨0,0,0,0,0,0,0⟩:Typ),false)
def Qfn (fu:Nat)  (r1:Request) (Aa:Int):Nat → Int → Option (Typ × Bool)
  | 0=>fun _=>none
  | n + 1=>Qjh fu r1 Aa (Qfn fu r1 Aa n)
def Qh1 (fu:Nat) (r1:Request) (Aa:Int):Option (Typ × Bool) :=
  Qfn fu r1 Aa fu 0
def Qsk (fu:Nat) (r1:Request):Option ((List Int)) :=
  Qac (Qen fu r1) fun Ab=>bif (Ab != 0) then some (([]:List Int)) else Qac (Qcf fu r1) fun Aa=>some (Aa)
def Qqf (fu:Nat) (k7:Int → Int → Option (Int)) (Aa:Int) (Ab:Int):Option (Int) :=
  k7 Ab (w64 (Aa + 1))
def Qp8 (fu:Nat) (k7:Int → Int → Option (Int)) (Aa:Int) (Ab:Int) (Ac:Item):Option (Int) :=
  Qqf fu k7 Ab (w64 (Aa + Ac.fV))
def Qnj (fu:Nat)  (r1:Request) (Ac:List Int) (Ad:(List Int)) (k7:Int → Int → Option (Int)) (Ab:Int) (Aa:Int):Option (Int) :=
  bif (decide (Aa < (Ac.length:Int))) then Qac (ix Ac Aa) fun Af=>Qac (Qis fu r1 Ad Af) fun Ae=>Qp8 fu k7 Ab Aa Ae.1 else some (Ab)
def Qeq (fu:Nat)  (r1:Request) (Aa:List Int) (Ab:(List Int)):Nat → Int → Int → Option (Int)
  | 0=>fun _ _=>none
  | n + 1=>Qnj fu r1 Aa Ab (Qeq fu r1 Aa Ab n)
def Qrh (fu:Nat) (r1:Request) (Ab:List Int):Option (Int) :=
  Qac (Qsk fu r1) fun Aa=>Qeq fu r1 Ab Aa fu 0 0
def Qra (fu:Nat) (r1:Request) (x5:Carton) (Aa:Typ × Bool)  : Option (Int) :=
  Qac (Qrh fu r1 x5.fM) fun Ab=>some (w64 (Aa.1.f7 + Ab))
def Qqu (fu:Nat) (r1:Request) (x5:Carton):Option (Int) :=
  Qac (Qh1 fu r1 x5.fO) fun Aa=>Qac (Qen fu r1) fun Ab=>bif (Ab != 0) then some (0) else bif (!Aa.2) then some (0) else Qra fu r1 x5 Aa
def Qrj (fu:Nat) (r1:Request) (x5:Carton) (Aa:Typ × Bool)  : Option (Box) :=
  Qac (Qqu fu r1 x5) fun Ab=>some (⟨Aa.1.fW,Aa.1.fD,Aa.1.fH,Ab⟩:Box)
def Qhe (fu:Nat) (r1:Request) (x5:Carton):Option (Box) :=
  Qac (Qh1 fu r1 x5.fO) fun Aa=>Qac (Qen fu r1) fun Ab=>bif (Ab != 0) then some (⟨0,0,0,0⟩:Box) else bif (!Aa.2) then some (⟨0,0,0,0⟩:Box) else Qrj fu r1 x5 Aa
def Qoq (fu:Nat) (k3:Int → Option (Bool)) (Aa:Int)  : Option (Bool) :=
  k3 (w64 (Aa + 1))
def Qlu (fu:Nat)  (p1:Pallet) (Ac:List Box) (k3:Int → Option (Bool)) (Ab:Int):Option (Bool) :=
  bif (decide (Ab < (Ac.length:Int))) then Qac (ix Ac Ab) fun Aa=>Qac (Qaq fu Aa.fW 1 p1.fW) fun Ad=>bif (!Ad) then some (false) else Qac (Qaq fu Aa.fD 1 p1.fD) fun Ag=>bif (!Ag) then some (false) else Qac (Qaq fu Aa.fH 1 p1.fH) fun Ae=>bif (!Ae) then some (false) else Qac (Qaq fu Aa.fV 1 p1.fV) fun Af=>bif (!Af) then some (false) else Qoq fu k3 Ab else some (true)
def Qe1 (fu:Nat)  (p1:Pallet) (Aa:List Box):Nat → Int → Option (Bool)
  | 0=>fun _=>none
  | n + 1=>Qlu fu p1 Aa (Qe1 fu p1 Aa n)
def Qmo (fu:Nat) (p1:Pallet) (Aa:List Box):Option (Bool) :=
  Qac (Qgm fu p1) fun Ab=>bif (!Ab) then some (false) else Qe1 fu p1 Aa fu 0
def Qkm (fu:Nat) (a1:Int) (b2:Int):Option (Int) :=
  bif (decide (a1 > b2)) then some (a1) else some (b2)
def Qgk (fu:Nat) (Aa:Shelf) (Ae:Int) (b6:Box):Option (Shelf) :=
  Qac (Qhw 8 (([]:List Int)) Aa.qY) fun Af=>Qac (Qhw 8 Af (([Ae]:List Int))) fun Ac=>Qac (Qkm fu Aa.fD b6.fD) fun Ab=>Qac (Qkm fu Aa.fH b6.fH) fun Ad=>some (⟨Ac,w64 (Aa.fW + b6.fW),Ab,Ad,w64 (Aa.fV + b6.fV)⟩:Shelf)
def Qgi (fu:Nat) (k4:List Shelf → Int → Option ((List Shelf))) (Aa:Int) (Ab:List Shelf):Option ((List Shelf)) :=
  k4 Ab (w64 (Aa + 1))
def Ql1 (fu:Nat)  (p1:Pallet) (Ai:List Box) (Ad:(List Int)) (k4:List Shelf → Int → Option ((List Shelf))) (Aa:List Shelf) (Ab:Int):Option ((List Shelf)) :=
  bif (decide (Ab < (Ad.length:Int))) then Qac (ix Ad Ab) fun Ae=>Qac (ix Ai Ae) fun Ac=>bif (decide ((Aa.length:Int) > 0)) then Qac (ix Aa (w64 ((Aa.length:Int) - 1))) fun Af=>bif (decide ((w64 (Af.fW + Ac.fW)) ≤ p1.fW)) then Qac (ix Aa (w64 ((Aa.length:Int) - 1))) fun Au=>bif (decide ((w64 (Af.fV + Ac.fV)) ≤ p1.fV)) then Qac (ix Aa (w64 ((Aa.length:Int) - 1))) fun At=>Qac (ix Ad Ab) fun Aq=>Qac (Qgk fu Af Ae Ac) fun Al=>Qac (ix Aa (w64 ((Aa.length:Int) - 1))) fun As=>Qgi fu k4 Ab (Qhx Aa (w64 ((Aa.length:Int) - 1)) Al) else Qac (ix Ad Ab) fun Ap=>Qac (Qgk fu (⟨[],0,0,0,0⟩:Shelf) Ae Ac) fun Aj=>Qac (Qhw 56 Aa [Aj]) fun Ag=>Qgi fu k4 Ab Ag else Qac (ix Ad Ab) fun Av=>Qac (Qgk fu (⟨[],0,0,0,0⟩:Shelf) Ae Ac) fun Am=>Qac (Qhw 56 Aa [Am]) fun Ao=>Qgi fu k4 Ab Ao else Qac (ix Ad Ab) fun Ar=>Qac (Qgk fu (⟨[],0,0,0,0⟩:Shelf) Ae Ac) fun Ak=>Qac (Qhw 56 Aa [Ak]) fun Ah=>Qgi fu k4 Ab Ah else some (Aa)
def Qea (fu:Nat)  (p1:Pallet) (Aa:List Box) (Ab:(List Int)):Nat → List Shelf → Int → Option ((List Shelf))
  | 0=>fun _ _=>none
  | n + 1=>Ql1 fu p1 Aa Ab (Qea fu p1 Aa Ab n)
def Ql0 (fu:Nat)  (p1:Pallet) (Aa:List Box) (k1:List Int → Int → Option ((List Shelf))) (Ac:List Int) (Ab:Int):Option ((List Shelf)) :=
  bif (decide (Ab < (Aa.length:Int))) then Qac (ix Aa Ab) fun Ae=>Qac (Qhw 8 Ac (([Ae.fD]:List Int))) fun Ad=>k1 Ad (w64 (Ab + 1)) else Qac (Qgr fu Ac) fun Af=>Qea fu p1 Aa Af fu (([]:List Shelf)) 0
def Qf9 (fu:Nat)  (p1:Pallet) (Aa:List Box):Nat → List Int → Int → Option ((List Shelf))
  | 0=>fun _ _=>none
  | n + 1=>Ql0 fu p1 Aa (Qf9 fu p1 Aa n)
def Qpm (fu:Nat) (p1:Pallet) (Aa:List Box):Option ((List Shelf)) :=
  Qac (Qmo fu p1 Aa) fun Ab=>bif (!Ab) then some (([]:List Shelf)) else Qf9 fu p1 Aa fu (([]:List Int)) 0
def Qqp (fu:Nat) (p1:Pallet) (d2:Int) (h3:Int) (Ab:Int):Option (Bool) :=
  Qac (Qaq fu d2 1 p1.fD) fun x8=>bif x8 then Qac (Qaq fu h3 1 p1.fH) fun Aa=>bif Aa then Qac (Qaq fu Ab 1 p1.fV) fun Ac=>some (Ac) else some (false) else some (false)
def Qip (fu:Nat)  (p1:Pallet) (Ab:List Shelf) (k1:Int → Option (Bool)) (Aa:Int):Option (Bool) :=
  bif (decide (Aa < (Ab.length:Int))) then Qac (ix Ab Aa) fun Ac=>Qac (ix Ab Aa) fun Af=>Qac (ix Ab Aa) fun Ae=>Qac (Qqp fu p1 Ac.fD Ac.fH Ac.fV) fun Ad=>bif (!Ad) then some (false) else k1 (w64 (Aa + 1)) else some (true)
def Qew (fu:Nat)  (p1:Pallet) (Aa:List Shelf):Nat → Int → Option (Bool)
  | 0=>fun _=>none
  | n + 1=>Qip fu p1 Aa (Qew fu p1 Aa n)
def Qmh (fu:Nat) (p1:Pallet) (Aa:List Shelf):Option (Bool) :=
  Qac (Qgm fu p1) fun Ab=>bif (!Ab) then some (false) else Qew fu p1 Aa fu 0
def Qmz (fu:Nat) (k7:List Layer → Int → Option ((List Layer))) (Ab:Int) (Aa:List Layer):Option ((List Layer)) :=
  k7 Aa (w64 (Ab + 1))
def Qcz (fu:Nat) (k7:List Layer → Int → Option ((List Layer))) (Ae:Int) (Ad:Shelf) (Ab:List Layer) (Ac:Int):Option ((List Layer)) :=
  Qac (ix Ab (w64 (Ac - 1))) fun Aa=>Qac (Qhw 8 (([]:List Int)) Aa.ft) fun Ah=>Qac (Qhw 8 Ah (([Ae]:List Int))) fun Af=>Qac (Qkm fu Aa.fH Ad.fH) fun Ag=>Qac (ix Ab (w64 (Ac - 1))) fun Ai=>Qmz fu k7 Ae (Qhx Ab (w64 (Ac - 1)) (⟨Af,w64 (Aa.fD + Ad.fD),Ag,w64 (Aa.fV + Ad.fV)⟩:Layer))
def Qjl (fu:Nat)  (p1:Pallet) (Ad:List Shelf) (k7:List Layer → Int → Option ((List Layer))) (Aa:List Layer) (Ac:Int):Option ((List Layer)) :=
  bif (decide (Ac < (Ad.length:Int))) then Qac (ix Ad Ac) fun Ab=>bif ((Aa.length:Int) == 0) then Qac (Qhw 48 Aa [(⟨[],0,0,0⟩:Layer)]) fun Ah=>Qcz fu k7 Ac Ab Ah (w64 ((Aa.length:Int) + 1)) else Qac (ix Aa (w64 ((Aa.length:Int) - 1))) fun Ae=>bif (decide ((w64 (Ae.fD + Ab.fD)) > p1.fD)) then Qac (Qhw 48 Aa [(⟨[],0,0,0⟩:Layer)]) fun Af=>Qcz fu k7 Ac Ab Af (w64 ((Aa.length:Int) + 1)) else Qac (ix Aa (w64 ((Aa.length:Int) - 1))) fun Ai=>bif (decide ((w64 (Ae.fV + Ab.fV)) > p1.fV)) then Qac (Qhw 48 Aa [(⟨[],0,0,0⟩:Layer)]) fun Ag=>Qcz fu k7 Ac Ab Ag (w64 ((Aa.length:Int) + 1)) else Qcz fu k7 Ac Ab Aa (Aa.length:Int) else some (Aa)
def Qbi (fu:Nat)  (p1:Pallet) (Aa:List Shelf):Nat → List Layer → Int → Option ((List Layer))
  | 0=>fun _ _=>none
  | n + 1=>Qjl fu p1 Aa (Qbi fu p1 Aa n)
def Qnx (fu:Nat) (p1:Pallet) (Aa:List Shelf):Option ((List Layer)) :=
  Qac (Qmh fu p1 Aa) fun Ab=>bif (!Ab) then some (([]:List Layer)) else Qbi fu p1 Aa fu (([]:List Layer)) 0
def Qi3 (fu:Nat)  (p1:Pallet) (Ab:List Layer) (k1:Int → Option (Bool)) (Aa:Int):Option (Bool) :=
  bif (decide (Aa < (Ab.length:Int))) then Qac (ix Ab Aa) fun Ac=>Qac (ix Ab Aa) fun Af=>Qac (ix Ab Aa) fun Ae=>Qac (Qqp fu p1 Ac.fD Ac.fH Ac.fV) fun Ad=>bif (!Ad) then some (false) else k1 (w64 (Aa + 1)) else some (true)
def Qfs (fu:Nat)  (p1:Pallet) (Aa:List Layer):Nat → Int → Option (Bool)
  | 0=>fun _=>none
  | n + 1=>Qi3 fu p1 Aa (Qfs fu p1 Aa n)
def Qnv (fu:Nat) (p1:Pallet) (Aa:List Layer):Option (Bool) :=
  Qac (Qgm fu p1) fun Ab=>bif (!Ab) then some (false) else Qfs fu p1 Aa fu 0
def Qpb (fu:Nat) (k7:List Load → Int → Option ((List Load))) (Aa:Int) (Ab:List Load):Option ((List Load)) :=
  k7 Ab (w64 (Aa + 1))
def Qde (fu:Nat) (k7:List Load → Int → Option ((List Load))) (Ad:Int) (Ae:Layer) (Ab:List Load) (Ac:Int):Option ((List Load)) :=
  Qac (ix Ab (w64 (Ac - 1))) fun Aa=>Qac (Qhw 8 (([]:List Int)) Aa.qQ) fun Ag=>Qac (Qhw 8 Ag (([Ad]:List Int))) fun Af=>Qac (ix Ab (w64 (Ac - 1))) fun Ah=>Qpb fu k7 Ad (Qhx Ab (w64 (Ac - 1)) (⟨Af,w64 (Aa.fH + Ae.fH),w64 (Aa.fV + Ae.fV)⟩:Load))
def Qk5 (fu:Nat)  (p1:Pallet) (Ad:List Layer) (k7:List Load → Int → Option ((List Load))) (Aa:List Load) (Ab:Int):Option ((List Load)) :=
  bif (decide (Ab < (Ad.length:Int))) then Qac (ix Ad Ab) fun Ac=>bif ((Aa.length:Int) == 0) then Qac (Qhw 40 Aa [(⟨[],0,0⟩:Load)]) fun Ag=>Qde fu k7 Ab Ac Ag (w64 ((Aa.length:Int) + 1)) else Qac (ix Aa (w64 ((Aa.length:Int) - 1))) fun Ae=>bif (decide ((w64 (Ae.fH + Ac.fH)) > p1.fH)) then Qac (Qhw 40 Aa [(⟨[],0,0⟩:Load)]) fun Ah=>Qde fu k7 Ab Ac Ah (w64 ((Aa.length:Int) + 1)) else Qac (ix Aa (w64 ((Aa.length:Int) - 1))) fun Ai=>bif (decide ((w64 (Ae.fV + Ac.fV)) > p1.fV)) then Qac (Qhw 40 Aa [(⟨[],0,0⟩:Load)]) fun Af=>Qde fu k7 Ab Ac Af (w64 ((Aa.length:Int) + 1)) else Qde fu k7 Ab Ac Aa (Aa.length:Int) else some (Aa)
def Qbr (fu:Nat)  (p1:Pallet) (Aa:List Layer):Nat → List Load → Int → Option ((List Load))
  | 0=>fun _ _=>none
  | n + 1=>Qk5 fu p1 Aa (Qbr fu p1 Aa n)
def Qpq (fu:Nat) (p1:Pallet) (Aa:List Layer):Option ((List Load)) :=
  Qac (Qnv fu p1 Aa) fun Ab=>bif (!Ab) then some (([]:List Load)) else Qbr fu p1 Aa fu (([]:List Load)) 0
def Qkn (fu:Nat) (Aj:List Spot → Int → Int → Option ((List Spot))) (Ai:List Box) (Ag:Int) (Ak:Int) (Af:Int) (Am:Int) (Ab:Shelf) (Al:List Spot → Int → Int → Option ((List Spot))) (Ac:List Spot) (Ae:Int) (Aa:Int):Option ((List Spot)) :=
  bif (decide (Aa < (Ab.qY.length:Int))) then Qac (ix Ab.qY Aa) fun Ad=>Qac (ix Ac Ad) fun Ao=>Qac (ix Ab.qY Aa) fun Ap=>Qac (ix Ai Ad) fun Ah=>Al (Qhx Ac Ad (⟨Ag,Ae,Af,Ak⟩:Spot)) (w64 (Ae + Ah.fW)) (w64 (Aa + 1)) else Aj Ac (w64 (Af + Ab.fD)) (w64 (Am + 1))
def Qgb (fu:Nat) (Ad:List Spot → Int → Int → Option ((List Spot))) (Ac:List Box) (Aa:Int) (Af:Int) (Ae:Int) (Ag:Int) (Ab:Shelf):Nat → List Spot → Int → Int → Option ((List Spot))
  | 0=>fun _ _ _=>none
  | n + 1=>Qkn fu Ad Ac Aa Af Ae Ag Ab (Qgb fu Ad Ac Aa Af Ae Ag Ab n)
def Qly (fu:Nat) (Am:List Spot → Int → Int → Option ((List Spot))) (Ai:List Box) (Ak:(List Shelf)) (Ae:Int) (Ac:Int) (Ag:Int) (Ab:Layer) (Aj:List Spot → Int → Int → Option ((List Spot))) (Ad:List Spot) (Al:Int) (Aa:Int):Option ((List Spot)) :=
  bif (decide (Aa < (Ab.ft.length:Int))) then Qac (ix Ab.ft Aa) fun Af=>Qac (ix Ak Af) fun Ah=>Qgb fu Aj Ai Ae Ac Al Aa Ah fu Ad 0 0 else Am Ad (w64 (Ac + Ab.fH)) (w64 (Ag + 1))
def Qdb (fu:Nat) (Af:List Spot → Int → Int → Option ((List Spot))) (Ac:List Box) (Ad:(List Shelf)) (Aa:Int) (Ae:Int) (Ab:Int) (Ag:Layer):Nat → List Spot → Int → Int → Option ((List Spot))
  | 0=>fun _ _ _=>none
  | n + 1=>Qly fu Af Ac Ad Aa Ae Ab Ag (Qdb fu Af Ac Ad Aa Ae Ab Ag n)
def Qk0 (fu:Nat) (Ag:List Spot → Int → Option ((List Spot))) (Ah:List Box) (Aj:(List Shelf)) (Af:(List Layer)) (Ac:(List Load)) (Aa:Int) (Al:List Spot → Int → Int → Option ((List Spot))) (Ae:List Spot) (Ak:Int) (Ab:Int):Option ((List Spot)) :=
  Qac (ix Ac Aa) fun Ad=>bif (decide (Ab < (Ad.qQ.length:Int))) then Qac (ix Ac Aa) fun Ao=>Qac (ix Ad.qQ Ab) fun Ai=>Qac (ix Af Ai) fun Am=>Qdb fu Al Ah Aj Aa Ak Ab Am fu Ae 0 0 else Ag Ae (w64 (Aa + 1))
def Qb7 (fu:Nat) (Ab:List Spot → Int → Option ((List Spot))) (Ac:List Box) (Ae:(List Shelf)) (Af:(List Layer)) (Ad:(List Load)) (Aa:Int):Nat → List Spot → Int → Int → Option ((List Spot))
  | 0=>fun _ _ _=>none
  | n + 1=>Qk0 fu Ab Ac Ae Af Ad Aa (Qb7 fu Ab Ac Ae Af Ad Aa n)
def Qlw (fu:Nat)  (Ad:List Box) (Af:(List Shelf)) (Ag:(List Layer)) (Ab:(List Load)) (Ae:List Spot → Int → Option ((List Spot))) (Ac:List Spot) (Aa:Int):Option ((List Spot)) :=
  bif (decide (Aa < (Ab.length:Int))) then Qb7 fu Ae Ad Af Ag Ab Aa fu Ac 0 0 else some (Ac)
def Qbk (fu:Nat)  (Aa:List Box) (Ac:(List Shelf)) (Ad:(List Layer)) (Ab:(List Load)):Nat → List Spot → Int → Option ((List Spot))
  | 0=>fun _ _=>none
  | n + 1=>Qlw fu Aa Ac Ad Ab (Qbk fu Aa Ac Ad Ab n)
def Qml (fu:Nat) (p1:Pallet) (Aa:List Box):Option ((List Spot)) :=
  Qac (mk 32 (⟨(0:Int),(0:Int),(0:Int),(0:Int)⟩:Spot) (Aa.length:Int)) fun Af=>Qac (Qmo fu p1 Aa) fun Ae=>bif (!Ae) then some (([]:List Spot)) else Qac (Qpm fu p1 Aa) fun Ab=>Qac (Qnx fu p1 Ab) fun Ac=>Qac (Qpq fu p1 Ac) fun Ad=>Qbk fu Aa Ab Ac Ad fu Af 0
def Qka (fu:Nat) (k3:Int → Int → Option (Int)) (Ab:Int) (Aa:Int):Option (Int) :=
  k3 Aa (w64 (Ab + 1))
def Qkw (fu:Nat)  (Ab:List Spot) (k3:Int → Int → Option (Int)) (Ac:Int) (Aa:Int):Option (Int) :=
  bif (decide (Aa < (Ab.length:Int))) then Qac (ix Ab Aa) fun Ad=>Qac (Qaq fu Ad.fQ 0 999999) fun Ae=>bif Ae then Qac (ix Ab Aa) fun Ag=>Qac (Qkm fu Ac (w64 (Ad.fQ + 1))) fun Af=>Qka fu k3 Aa Af else Qka fu k3 Aa Ac else some (Ac)
def Qe9 (fu:Nat)  (Aa:List Spot):Nat → Int → Int → Option (Int)
  | 0=>fun _ _=>none
  | n + 1=>Qkw fu Aa (Qe9 fu Aa n)
def Qmm (fu:Nat) (Aa:List Spot):Option (Int) :=
  Qe9 fu Aa fu 0 0
def Qmg (fu:Nat) (Ac:List Box → Int → Option (Plan × Bool)) (Aa:Int) (Ab:List Box):Option (Plan × Bool) :=
  Ac Ab (w64 (Aa + 1))
def Qmv (fu:Nat) (Af:List Spot → Int → Int → Option (Plan × Bool)) (Ae:Int) (Ai:Int) (Ac:(List Spot)) (Ag:List Spot → Int → Option (Plan × Bool)) (Ad:List Spot) (Ab:Int):Option (Plan × Bool) :=
  bif (decide (Ab < (Ac.length:Int))) then Qac (ix Ac Ab) fun Aa=>Qac (Qhw 32 Ad (([(⟨w64 (Aa.fQ + Ae),Aa.fX,Aa.fY,Aa.fZ⟩:Spot)]:List Spot))) fun Aj=>Ag Aj (w64 (Ab + 1)) else Qac (Qmm fu Ac) fun Ah=>Af Ad (w64 (Ae + Ah)) (w64 (Ai + 1))
def Qf3 (fu:Nat) (Aa:List Spot → Int → Int → Option (Plan × Bool)) (Ac:Int) (Ad:Int) (Ab:(List Spot)):Nat → List Spot → Int → Option (Plan × Bool)
  | 0=>fun _ _=>none
  | n + 1=>Qmv fu Aa Ac Ad Ab (Qf3 fu Aa Ac Ad Ab n)
def Qm4 (fu:Nat) (Ah:List Spot → Int → Int → Option (Plan × Bool)) (r1:Request) (Ab:(List Carton)) (Ai:List Spot) (Al:Int) (Ae:Int) (Af:List Box → Int → Option (Plan × Bool)) (Ac:List Box) (Aa:Int):Option (Plan × Bool) :=
  bif (decide (Aa < (Ab.length:Int))) then Qac (ix Ab Aa) fun Ad=>bif (Ad.fE == Ae) then Qac (ix Ab Aa) fun Am=>Qac (Qhe fu r1 Ad) fun Aj=>Qac (Qhw 32 Ac (([Aj]:List Box))) fun Ag=>Qmg fu Af Aa Ag else Qmg fu Af Aa Ac else Qac (Qml fu r1.fQ Ac) fun Ak=>Qf3 fu Ah Al Ae Ak fu Ai 0
def Qf0 (fu:Nat) (Aa:List Spot → Int → Int → Option (Plan × Bool)) (r1:Request) (Ab:(List Carton)) (Ac:List Spot) (Ad:Int) (Ae:Int):Nat → List Box → Int → Option (Plan × Bool)
  | 0=>fun _ _=>none
  | n + 1=>Qm4 fu Aa r1 Ab Ac Ad Ae (Qf0 fu Aa r1 Ab Ac Ad Ae n)
def Qm2 (fu:Nat)  (r1:Request) (Aa:(List Carton)) (Ae:(List (List Int))) (Ad:List Spot → Int → Int → Option (Plan × Bool)) (Ab:List Spot) (Af:Int) (Ac:Int):Option (Plan × Bool) :=
  bif (decide (Ac < (Ae.length:Int))) then Qf0 fu Ad r1 Aa Ab Af Ac fu (([]:List Box)) 0 else some ((⟨Aa,Ab⟩:Plan),true)
def Qca (fu:Nat)  (r1:Request) (Aa:(List Carton)) (Ab:(List (List Int))):Nat → List Spot → Int → Int → Option (Plan × Bool)
  | 0=>fun _ _ _=>none
  | n + 1=>Qm2 fu r1 Aa Ab (Qca fu r1 Aa Ab n)
def Qq6 (fu:Nat) (r1:Request):Option (Plan × Bool) :=
  Qac (Qen fu r1) fun Ac=>bif (Ac != 0) then some ((⟨[],[]⟩:Plan),false) else Qac (Qmd fu r1) fun Aa=>Qac (Qgp fu r1) fun Ab=>Qca fu r1 Aa Ab fu (([]:List Spot)) 0 0
def Qj4 (fu:Nat) (x1:Carton):Option (Carton) :=
  Qac (Qhw 8 (([]:List Int)) x1.fM) fun Aa=>some (⟨x1.fO,x1.fE,Aa⟩:Carton)
def Qb8 (fu:Nat) (Ab:Request) (Aa:List Carton) (Ac:List Spot):Option (Request × Plan) :=
  some (Ab,(⟨Aa,Ac⟩:Plan))
def Qpn (fu:Nat) (Ae:List U8):Option (Request × Plan) :=
  Qac (Qmj fu Ae) fun Ad=>Qac (Qq6 fu Ad) fun Aa=>Qac (Qnw fu Ae) fun Ak=>bif ((Aa.1.fJ.length:Int) == 0) then some (Ad,Aa.1) else Qac (Qao fu (⟨Ae,Ak.fi,Ak.fh⟩:Cur) (Aa.1.fJ.length:Int)) fun Ab=>Qac (Qao fu (⟨Ae,Ab.2.fi,Ab.2.fh⟩:Cur) 14) fun Ac=>bif (Ac.1 == 0) then Qac (ix Aa.1.fU Ab.1) fun Aj=>Qac (ix Aa.1.fU Ab.1) fun Ba=>Qb8 fu Ad Aa.1.fJ (Qhx Aa.1.fU Ab.1 ({ Aj with fX:=w64 (Aj.fX + 1) })) else bif (Ac.1 == 1) then Qac (Qao fu (⟨Ae,Ac.2.fi,Ac.2.fh⟩:Cur) 3) fun Al=>Qac (ix Aa.1.fU Ab.1) fun Ap=>Qb8 fu Ad Aa.1.fJ (Qhx Aa.1.fU Ab.1 ({ Ap with fQ:=Al.1 })) else bif (Ac.1 == 2) then Qac (Qbu fu (⟨Ae,Ac.2.fi,Ac.2.fh⟩:Cur) (([7,10,11,99,(-1)]:List Int))) fun Ao=>Qac (ix Aa.1.fJ Ab.1) fun Ai=>Qb8 fu Ad (Qhx Aa.1.fJ Ab.1 (⟨Ao.1,Ai.fE,Ai.fM⟩:Carton)) Aa.1.fU else bif (Ac.1 == 3) then Qac (ix Aa.1.fJ Ab.1) fun Af=>Qac (Qao fu (⟨Ae,Ac.2.fi,Ac.2.fh⟩:Cur) 14) fun At=>Qac (Qhw 8 Af.fM (([w64 (At.1 - 1)]:List Int))) fun Ay=>Qac (ix Aa.1.fJ Ab.1) fun Az=>Qb8 fu Ad (Qhx Aa.1.fJ Ab.1 (⟨Af.fO,Af.fE,Ay⟩:Carton)) Aa.1.fU else bif (Ac.1 == 4) then Qac (ix Aa.1.fJ Ab.1) fun Ah=>Qb8 fu Ad (Qhx Aa.1.fJ Ab.1 (⟨Ah.fO,Ah.fE,[]⟩:Carton)) Aa.1.fU else bif (Ac.1 == 5) then Qac (sls Aa.1.fU 1 (Aa.1.fU.length:Int)) fun Am=>Qb8 fu Ad Aa.1.fJ Am else bif (Ac.1 == 6) then Qac (Qao fu (⟨Ae,Ac.2.fi,Ac.2.fh⟩:Cur) 6) fun Ar=>Qac (ix Aa.1.fJ Ab.1) fun Ag=>Qb8 fu Ad (Qhx Aa.1.fJ Ab.1 (⟨Ag.fO,w64 (Ar.1 - 1),Ag.fM⟩:Carton)) Aa.1.fU else bif (Ac.1 == 7) then Qac (ix Aa.1.fJ Ab.1) fun Av=>Qac (Qj4 fu Av) fun Aq=>Qac (Qhw 40 Aa.1.fJ [Aq]) fun As=>Qac (Qhw 32 Aa.1.fU (([(⟨9,0,0,0⟩:Spot)]:List Spot))) fun Ax=>Qb8 fu Ad As Ax else bif (Ac.1 == 8) then Qac (Qbu fu (⟨Ae,Ac.2.fi,Ac.2.fh⟩:Cur) (([0,2000,2001,(-1)]:List Int))) fun Au=>Qac (ix Aa.1.fU Ab.1) fun Aw=>Qb8 fu Ad Aa.1.fJ (Qhx Aa.1.fU Ab.1 ({ Aw with fZ:=Au.1 })) else Qb8 fu Ad Aa.1.fJ Aa.1.fU
def Qey (fu:Nat) (Aa:Request × Plan) (Ab:List Spot):Option (Request × Plan) :=
  some (Aa.1,(⟨Aa.2.fJ,Ab⟩:Plan))
def Qmb (fu:Nat) (Ab:List U8):Option (Request × Plan) :=
  Qac (Qpn fu Ab) fun Aa=>Qac (Qnw fu Ab) fun Ad=>bif (decide ((Aa.2.fU.length:Int) > 0)) then bif ((Aa.2.fU.length:Int) == (Aa.2.fJ.length:Int)) then Qac (Qih fu (⟨Ab,Ad.fi,Ad.fh⟩:Cur) 2) fun Ac=>bif Ac.1 then Qac (ix Aa.2.fU (w64 ((Aa.2.fU.length:Int) - 1))) fun Ae=>Qac (Qao fu (⟨Ab,Ac.2.fi,Ac.2.fh⟩:Cur) 12) fun Af=>Qac (ix Aa.2.fU (w64 ((Aa.2.fU.length:Int) - 1))) fun Ag=>Qey fu Aa (Qhx Aa.2.fU (w64 ((Aa.2.fU.length:Int) - 1)) ({ Ae with fZ:=w64 (Ae.fZ + Af.1) })) else Qey fu Aa Aa.2.fU else Qey fu Aa Aa.2.fU else Qey fu Aa Aa.2.fU
def Qlc (fu:Nat) (Ab:List U8):Option (Request × Plan) :=
  Qac (Qmb fu Ab) fun Aa=>some (Aa.1,Aa.2)
def Qo7 (fu:Nat) (b1:Box) (Aa:Spot) (x3:Request):Option (Spot) :=
  some (⟨Aa.fQ,w64 ((w64 (x3.fQ.fW - Aa.fX)) - b1.fW),Aa.fY,Aa.fZ⟩:Spot)
def Qcq (fu:Nat) (Aa:List Int):Option ((List Int)) :=
  Qac (Qhw 8 (([]:List Int)) Aa) fun Ab=>some (Ab)
def Qgx (fu:Nat)  (Ac:List Carton) (k1:List Carton → Int → Option ((List Carton))) (Ad:List Carton) (Ab:Int):Option ((List Carton)) :=
  bif (decide (Ab < (Ac.length:Int))) then Qac (ix Ac Ab) fun Aa=>Qac (Qcq fu Aa.fM) fun Ae=>Qac (Qhw 40 Ad [(⟨Aa.fO,Aa.fE,Ae⟩:Carton)]) fun Af=>k1 Af (w64 (Ab + 1)) else some (Ad)
def Qdk (fu:Nat)  (Aa:List Carton):Nat → List Carton → Int → Option ((List Carton))
  | 0=>fun _ _=>none
  | n + 1=>Qgx fu Aa (Qdk fu Aa n)
def Qhq (fu:Nat) (Aa:List Carton):Option ((List Carton)) :=
  Qdk fu Aa fu (([]:List Carton)) 0
def Qc9 (fu:Nat) (Aa:List Spot):Option ((List Spot)) :=
  Qac (Qhw 32 (([]:List Spot)) Aa) fun Ab=>some (Ab)
def Ql6 (fu:Nat) (x1:Plan):Option (Plan) :=
  Qac (Qhq fu x1.fJ) fun Ab=>Qac (Qc9 fu x1.fU) fun Aa=>some (⟨Ab,Aa⟩:Plan)
def Qon (fu:Nat) (t1:Typ) (x2:Int):Option (Bool) :=
  some (t1.f8 == x2)
def Qb3 (fu:Nat)  (Ab:List Typ) (f5:Typ → Option Bool) (k1:Int → Option (Int)) (Aa:Int):Option (Int) :=
  bif (decide (Aa < (Ab.length:Int))) then Qac (ix Ab Aa) fun Ac=>Qac (f5 Ac) fun Ad=>bif Ad then some (Aa) else k1 (w64 (Aa + 1)) else some ((-1))
def Qa5 (fu:Nat)  (Aa:List Typ) (f5:Typ → Option Bool):Nat → Int → Option (Int)
  | 0=>fun _=>none
  | n + 1=>Qb3 fu Aa f5 (Qa5 fu Aa f5 n)
def Qbg (fu:Nat) (Aa:List Typ) (f5:Typ → Option Bool):Option (Int) :=
  Qa5 fu Aa f5 fu 0
def Qgq (fu:Nat) (r1:Request) (Ad:Int):Option (Typ × Bool) :=
  Qac (Qbg fu r1.fT (fun Ac=>Qon fu Ac Ad)) fun Aa=>bif (decide (Aa < 0)) then some ((⟨0,0,0,0,0,0,0⟩:Typ),false) else Qac (ix r1.fT Aa) fun Ab=>some (Ab,true)
def Qj1 (fu:Nat) (r1:Request):Option (Typ × Bool) :=
  Qac (Qgq fu r1 r1.fP) fun Aa=>some (Aa.1,Aa.2)
def Qcc (fu:Nat) (n1:Int) (Aa:Int) (Ab:Int):Option (Bool) :=
  bif (decide (n1 ≥ Aa)) then some (decide (n1 ≤ Ab)) else some (false)
def Qcs (fu:Nat) (n1:Int):Option (Bool) :=
  Qac (Qcc fu n1 1 2000) fun x2=>some (x2)
def Qoc (fu:Nat) (x1:Pallet):Option (Bool) :=
  Qac (Qcs fu x1.fW) fun x5=>bif x5 then Qac (Qcs fu x1.fD) fun Aa=>bif Aa then Qac (Qcs fu x1.fH) fun Ac=>bif Ac then Qac (Qcc fu x1.fV 1 100000) fun Ab=>some (Ab) else some (false) else some (false) else some (false)
def Qb4 (fu:Nat)  (Ab:List Pair) (f5:Pair → Option Bool) (k1:Int → Option (Int)) (Aa:Int):Option (Int) :=
  bif (decide (Aa < (Ab.length:Int))) then Qac (ix Ab Aa) fun Ac=>Qac (f5 Ac) fun Ad=>bif Ad then some (Aa) else k1 (w64 (Aa + 1)) else some ((-1))
def Qa4 (fu:Nat)  (Aa:List Pair) (f5:Pair → Option Bool):Nat → Int → Option (Int)
  | 0=>fun _=>none
  | n + 1=>Qb4 fu Aa f5 (Qa4 fu Aa f5 n)
def Qby (fu:Nat) (Aa:List Pair) (f5:Pair → Option Bool):Option (Int) :=
  Qa4 fu Aa f5 fu 0
def Qa2 (fu:Nat) (Ab:List Pair) (f5:Pair → Option Bool):Option (Bool) :=
  Qac (Qby fu Ab f5) fun Aa=>some (decide (Aa ≥ 0))
def Qjx (fu:Nat) (p1:Pair):Option (Bool) :=
  Qac (Qcc fu p1.fA 0 3) fun x5=>bif (!x5) then some (true) else Qac (Qcc fu p1.fB 0 3) fun Aa=>some (!Aa)
def Qay (fu:Nat) (Ab:List Typ) (f5:Typ → Option Bool):Option (Bool) :=
  Qac (Qbg fu Ab f5) fun Aa=>some (decide (Aa ≥ 0))
def Qr0 (fu:Nat) (x1:Typ):Option (Bool) :=
  Qac (Qcc fu x1.f8 0 999) fun x5=>bif x5 then Qac (Qcs fu x1.fW) fun Af=>bif Af then Qac (Qcs fu x1.fH) fun Ac=>bif Ac then Qac (Qcs fu x1.fD) fun Aa=>bif Aa then Qac (Qcc fu x1.f7 0 100000) fun Ad=>bif Ad then Qac (Qcc fu x1.fV 1 100000) fun Ae=>bif Ae then Qac (Qcc fu x1.fK 0 100000) fun Ab=>some (Ab) else some (false) else some (false) else some (false) else some (false) else some (false) else some (false)
def Qkb (fu:Nat) (t1:Typ):Option (Bool) :=
  Qac (Qr0 fu t1) fun x5=>some (!x5)
def Qq3 (fu:Nat) (x1:Item):Option (Bool) :=
  Qac (Qcc fu x1.f8 0 999) fun x5=>bif x5 then Qac (Qcs fu x1.fW) fun Af=>bif Af then Qac (Qcs fu x1.fH) fun Ac=>bif Ac then Qac (Qcs fu x1.fD) fun Aa=>bif Aa then Qac (Qcc fu x1.fV 1 100000) fun Ad=>bif Ad then Qac (Qcc fu x1.fF 0 3) fun Ae=>bif Ae then Qac (Qcc fu x1.f0 1 6) fun Ab=>some (Ab) else some (false) else some (false) else some (false) else some (false) else some (false) else some (false)
def Qi2 (fu:Nat)  (r1:Request) (k3:Int → Int → Option (Bool)) (Ab:Int) (Aa:Int):Option (Bool) :=
  bif (decide (Aa < (r1.fG.length:Int))) then Qac (ix r1.fG Aa) fun Ac=>Qac (Qq3 fu Ac) fun Ad=>bif (!Ad) then some (false) else k3 (w64 (Ab + Ac.f0)) (w64 (Aa + 1)) else some (decide (Ab ≤ 12))
def Qej (fu:Nat)  (r1:Request):Nat → Int → Int → Option (Bool)
  | 0=>fun _ _=>none
  | n + 1=>Qi2 fu r1 (Qej fu r1 n)
def Qnk (fu:Nat) (r1:Request)  : Option (Bool) :=
  Qej fu r1 fu 0 0
def Qnm (fu:Nat) (r1:Request)  : Option (Bool) :=
  Qac (Qa2 fu r1.fL (fun Af=>Qjx fu Af)) fun Ad=>bif Ad then some (false) else Qac (Qcc fu (r1.fT.length:Int) 1 5) fun Ae=>bif (!Ae) then some (false) else Qac (Qay fu r1.fT (fun Ab=>Qkb fu Ab)) fun Ac=>bif Ac then some (false) else Qac (Qcc fu r1.fP 0 999) fun Aa=>bif (!Aa) then some (false) else bif (decide ((r1.fG.length:Int) > 8)) then some (false) else Qnk fu r1
def Qoe (fu:Nat) (r1:Request):Option (Bool) :=
  Qac (Qcc fu r1.qJ 0 1) fun Ac=>bif (!Ac) then some (false) else Qac (Qoc fu r1.fQ) fun Aa=>bif (!Aa) then some (false) else Qac (Qcc fu r1.fR 1 4) fun Ab=>bif (!Ab) then some (false) else bif (decide ((r1.fL.length:Int) > 16)) then some (false) else Qnm fu r1
def Qqh (fu:Nat) (q1:Typ) (x2:Typ):Option (Bool) :=
  some (q1.f8 == x2.f8)
def Qqi (fu:Nat) (q1:Item) (x2:Item):Option (Bool) :=
  some (q1.f8 == x2.f8)
def Qb2 (fu:Nat)  (Ab:List Item) (f5:Item → Option Bool) (k1:Int → Option (Int)) (Aa:Int):Option (Int) :=
  bif (decide (Aa < (Ab.length:Int))) then Qac (ix Ab Aa) fun Ac=>Qac (f5 Ac) fun Ad=>bif Ad then some (Aa) else k1 (w64 (Aa + 1)) else some ((-1))
def Qa3 (fu:Nat)  (Aa:List Item) (f5:Item → Option Bool):Nat → Int → Option (Int)
  | 0=>fun _=>none
  | n + 1=>Qb2 fu Aa f5 (Qa3 fu Aa f5 n)
def Qbx (fu:Nat) (Aa:List Item) (f5:Item → Option Bool):Option (Int) :=
  Qa3 fu Aa f5 fu 0
def Qax (fu:Nat) (Ab:List Item) (f5:Item → Option Bool):Option (Bool) :=
  Qac (Qbx fu Ab f5) fun Aa=>some (decide (Aa ≥ 0))
def Ql9 (fu:Nat) (p1:Pair) (x2:Request):Option (Bool) :=
  bif (decide (p1.fA ≥ x2.fR)) then some (true) else some (decide (p1.fB ≥ x2.fR))
def Qow (fu:Nat) (k4:Int → Option (Bool)) (Aa:Int)  : Option (Bool) :=
  k4 (w64 (Aa + 1))
def Qkq (fu:Nat)  (r1:Request) (k4:Int → Option (Bool)) (Aa:Int):Option (Bool) :=
  bif (decide (Aa < (r1.fG.length:Int))) then Qac (ix r1.fG Aa) fun Ab=>bif (decide (Ab.fF ≥ r1.fR)) then some (false) else Qac (sls r1.fG 0 Aa) fun Af=>Qac (Qax fu Af (fun Ad=>Qqi fu Ad Ab)) fun Ah=>bif Ah then some (false) else Qow fu k4 Aa else Qac (Qj1 fu r1) fun Ae=>bif Ae.2 then Qac (Qa2 fu r1.fL (fun Ag=>Ql9 fu Ag r1)) fun Ac=>some (!Ac) else some (false)
def Qdg (fu:Nat)  (r1:Request):Nat → Int → Option (Bool)
  | 0=>fun _=>none
  | n + 1=>Qkq fu r1 (Qdg fu r1 n)
def Qk3 (fu:Nat)  (r1:Request) (k1:Int → Option (Bool)) (Aa:Int):Option (Bool) :=
  bif (decide (Aa < (r1.fT.length:Int))) then Qac (ix r1.fT Aa) fun Ab=>Qac (sls r1.fT 0 Aa) fun Ad=>Qac (Qay fu Ad (fun Ae=>Qqh fu Ae Ab)) fun Ac=>bif Ac then some (false) else k1 (w64 (Aa + 1)) else Qdg fu r1 fu 0
def Qe4 (fu:Nat)  (r1:Request):Nat → Int → Option (Bool)
  | 0=>fun _=>none
  | n + 1=>Qk3 fu r1 (Qe4 fu r1 n)
def Qpp (fu:Nat) (r1:Request):Option (Bool) :=
  Qe4 fu r1 fu 0
def Qck (fu:Nat)  (Ab:List Pair) (v5:Pair) (k1:Int → Option (Int)) (Aa:Int):Option (Int) :=
  bif (decide (Aa < (Ab.length:Int))) then Qac (ix Ab Aa) fun Ac=>bif (decide (v5 = Ac)) then some (Aa) else k1 (w64 (Aa + 1)) else some ((-1))
def Qbc (fu:Nat)  (Aa:List Pair) (v5:Pair):Nat → Int → Option (Int)
  | 0=>fun _=>none
  | n + 1=>Qck fu Aa v5 (Qbc fu Aa v5 n)
def Qc8 (fu:Nat) (Aa:List Pair) (v5:Pair):Option (Int) :=
  Qbc fu Aa v5 fu 0
def Qcr (fu:Nat) (Aa:List Pair) (v5:Pair):Option (Bool) :=
  Qac (Qc8 fu Aa v5) fun Ab=>some (decide (Ab ≥ 0))
def Qhb (fu:Nat) (Aa:List Pair) (a5:Int) (b6:Int):Option (Bool) :=
  Qac (Qcr fu Aa (⟨a5,b6⟩:Pair)) fun x7=>some (x7)
def Ql2 (fu:Nat) (k3:Int → Option (Bool)) (Ac:List Pair) (Ae:Int) (Ab:Int) (k4:Int → Option (Bool)) (Aa:Int):Option (Bool) :=
  bif (decide (Aa < Ae)) then Qac (Qhb fu Ac Ab Aa) fun Af=>Qac (Qhb fu Ac Aa Ab) fun Ad=>bif (!(Af == Ad)) then some (false) else k4 (w64 (Aa + 1)) else k3 (w64 (Ab + 1))
def Qe3 (fu:Nat) (k3:Int → Option (Bool)) (Ac:List Pair) (Ab:Int) (Aa:Int):Nat → Int → Option (Bool)
  | 0=>fun _=>none
  | n + 1=>Ql2 fu k3 Ac Ab Aa (Qe3 fu k3 Ac Ab Aa n)
def Qll (fu:Nat)  (Ac:List Pair) (Ab:Int) (k3:Int → Option (Bool)) (Aa:Int):Option (Bool) :=
  bif (decide (Aa < Ab)) then Qac (Qhb fu Ac Aa Aa) fun Ad=>bif (!Ad) then some (false) else Qe3 fu k3 Ac Ab Aa fu 0 else some (true)
def Qfa (fu:Nat)  (Ab:List Pair) (Aa:Int):Nat → Int → Option (Bool)
  | 0=>fun _=>none
  | n + 1=>Qll fu Ab Aa (Qfa fu Ab Aa n)
def Qpt (fu:Nat) (Ab:List Pair) (Aa:Int):Option (Bool) :=
  Qac (Qcc fu Aa 1 4) fun x6=>bif (!x6) then some (false) else Qfa fu Ab Aa fu 0
def Qc1 (fu:Nat) (x1:List Int):Option (List Int):=Q2m x1
def Qsh (fu:Nat) (x1:Item) (t2:Typ) (Aj:List Int) (Ad:List Int):Option (Bool) :=
  Qac (Qc1 fu Aj) fun Aa=>Qac (Qc1 fu Ad) fun Ab=>Qac (ix Aa 0) fun Ac=>Qac (ix Ab 0) fun Ag=>bif (decide (Ac ≤ Ag)) then Qac (ix Aa 1) fun Af=>Qac (ix Ab 1) fun Ah=>bif (decide (Af ≤ Ah)) then Qac (ix Aa 2) fun Ai=>Qac (ix Ab 2) fun Ae=>bif (decide (Ai ≤ Ae)) then some (decide (x1.fV ≤ t2.fV)) else some (false) else some (false) else some (false)
def Qr6 (fu:Nat) (x1:Item) (t2:Typ):Option (Bool) :=
  Qsh fu x1 t2 (([x1.fW,x1.fH,x1.fD]:List Int)) (([t2.fW,t2.fH,t2.fD]:List Int))
def Qps (fu:Nat) (x1:Item) (x2:Typ):Option (Bool) :=
  Qac (Qr6 fu x1 x2) fun x8=>some (!x8)
def Qp1 (fu:Nat) (t1:Typ) (x2:Pallet):Option (Bool) :=
  bif (decide (t1.fW > x2.fW)) then some (true) else bif (decide (t1.fD > x2.fD)) then some (true) else bif (decide (t1.fH > x2.fH)) then some (true) else some (decide ((w64 (t1.f7 + t1.fV)) > x2.fV))
def Qsn (fu:Nat) (r1:Request):Option (Int) :=
  Qac (Qj1 fu r1) fun Ah=>Qac (Qoe fu r1) fun Af=>bif (!Af) then some (2) else Qac (Qpp fu r1) fun Ab=>bif (!Ab) then some (3) else Qac (Qpt fu r1.fL r1.fR) fun Ac=>bif (!Ac) then some (4) else Qac (Qax fu r1.fG (fun Ad=>Qps fu Ad Ah.1)) fun Aa=>bif Aa then some (5) else Qac (Qay fu r1.fT (fun Ae=>Qp1 fu Ae r1.fQ)) fun Ag=>bif Ag then some (6) else some (0)
def Qgn (fu:Nat) (r1:Request):Option (Bool) :=
  Qac (Qsn fu r1) fun Aa=>some (Aa == 0)
def Qg5 (fu:Nat) (k3:Int → Option (Bool)) (Aa:Int)  : Option (Bool) :=
  k3 (w64 (Aa + 1))
def Qh6 (fu:Nat)  (Ab:List Int) (k3:Int → Option (Bool)) (Aa:Int):Option (Bool) :=
  bif (decide (Aa < (Ab.length:Int))) then Qac (ix Ab Aa) fun Ac=>Qac (Qcc fu Ac 0 999) fun Ae=>bif (!Ae) then some (false) else bif (decide (Aa > 0)) then Qac (ix Ab (w64 (Aa - 1))) fun Ad=>bif (decide (Ad ≥ Ac)) then some (false) else Qg5 fu k3 Aa else Qg5 fu k3 Aa else some (decide ((Ab.length:Int) ≤ 100))
def Qdi (fu:Nat)  (Aa:List Int):Nat → Int → Option (Bool)
  | 0=>fun _=>none
  | n + 1=>Qh6 fu Aa (Qdi fu Aa n)
def Qj8 (fu:Nat) (Aa:List Int):Option (Bool) :=
  Qdi fu Aa fu 0
def Qb5 (fu:Nat) (n1:Int):Option (Bool) :=
  Qac (Qcc fu n1 0 2000) fun x2=>some (x2)
def Qp6 (fu:Nat) (k4:Int → Option (Bool)) (Aa:Int)  : Option (Bool) :=
  k4 (w64 (Aa + 1))
def Qmt (fu:Nat)  (x1:Plan) (k4:Int → Option (Bool)) (Aa:Int):Option (Bool) :=
  bif (decide (Aa < (x1.fJ.length:Int))) then Qac (ix x1.fJ Aa) fun Ac=>Qac (ix x1.fU Aa) fun Ab=>Qac (Qcc fu Ac.fO 0 999) fun Ad=>bif (!Ad) then some (false) else Qac (Qcc fu Ac.fE 0 3) fun Ag=>bif (!Ag) then some (false) else Qac (Qj8 fu Ac.fM) fun Aj=>bif (!Aj) then some (false) else Qac (Qb5 fu Ab.fQ) fun Ae=>bif (!Ae) then some (false) else Qac (Qb5 fu Ab.fX) fun Ai=>bif (!Ai) then some (false) else Qac (Qb5 fu Ab.fY) fun Af=>bif (!Af) then some (false) else Qac (Qb5 fu Ab.fZ) fun Ah=>bif (!Ah) then some (false) else Qp6 fu k4 Aa else some (true)
def Qfw (fu:Nat)  (x1:Plan):Nat → Int → Option (Bool)
  | 0=>fun _=>none
  | n + 1=>Qmt fu x1 (Qfw fu x1 n)
def Qp5 (fu:Nat) (x1:Plan)  : Option (Bool) :=
  Qfw fu x1 fu 0
def Qr1 (fu:Nat) (x1:Plan):Option (Bool) :=
  bif ((x1.fU.length:Int) != (x1.fJ.length:Int)) then some (false) else bif (decide ((x1.fJ.length:Int) > 100)) then some (false) else Qp5 fu x1
def Qbv (fu:Nat)  (Ab:List Carton) (f5:Carton → Option Bool) (k1:Int → Option (Int)) (Aa:Int):Option (Int) :=
  bif (decide (Aa < (Ab.length:Int))) then Qac (ix Ab Aa) fun Ad=>Qac (f5 Ad) fun Ac=>bif Ac then some (Aa) else k1 (w64 (Aa + 1)) else some ((-1))
def Qa0 (fu:Nat)  (Aa:List Carton) (f5:Carton → Option Bool):Nat → Int → Option (Int)
  | 0=>fun _=>none
  | n + 1=>Qbv fu Aa f5 (Qa0 fu Aa f5 n)
def Qbo (fu:Nat) (Aa:List Carton) (f5:Carton → Option Bool):Option (Int) :=
  Qa0 fu Aa f5 fu 0
def Qbf (fu:Nat) (Ab:List Carton) (f5:Carton → Option Bool):Option (Bool) :=
  Qac (Qbo fu Ab f5) fun Aa=>some (decide (Aa ≥ 0))
def Qsg (fu:Nat) (c1:Carton):Option (Bool) :=
  some ((c1.fM.length:Int) == 0)
def Qjj (fu:Nat)  (x1:Plan) (k1:List Int → Int → Option ((List Int))) (Ab:List Int) (Aa:Int):Option ((List Int)) :=
  bif (decide (Aa < (x1.fJ.length:Int))) then Qac (ix x1.fJ Aa) fun Ac=>Qac (Qhw 8 Ab Ac.fM) fun Ad=>k1 Ad (w64 (Aa + 1)) else some (Ab)
def Qfk (fu:Nat)  (x1:Plan):Nat → List Int → Int → Option ((List Int))
  | 0=>fun _ _=>none
  | n + 1=>Qjj fu x1 (Qfk fu x1 n)
def Qn5 (fu:Nat) (x1:Plan):Option ((List Int)) :=
  Qfk fu x1 fu (([]:List Int)) 0
def Qui (fu:Nat) (x1:Int) (y2:Int):Option (Int × Int) :=
  some (IntKind.wrap .u64 ((IntKind.wrap .u64 ((IntKind.wrap .u64 ((Int.fdiv x1 (2 ^ (min 32 (IntKind.bits .u64)))) * (Int.fdiv y2 (2 ^ (min 32 (IntKind.bits .u64)))))) + (Int.fdiv (IntKind.wrap .u64 ((IntKind.wrap .u64 ((Int.fdiv x1 (2 ^ (min 32 (IntKind.bits .u64)))) * (IntKind.wrap .u64 (((BitVec.ofInt (IntKind.bits .u64) y2 &&& BitVec.ofInt (IntKind.bits .u64) 4294967295).toNat:Nat):Int)))) + (Int.fdiv (IntKind.wrap .u64 ((IntKind.wrap .u64 (((BitVec.ofInt (IntKind.bits .u64) x1 &&& BitVec.ofInt (IntKind.bits .u64) 4294967295).toNat:Nat):Int)) * (IntKind.wrap .u64 (((BitVec.ofInt (IntKind.bits .u64) y2 &&& BitVec.ofInt (IntKind.bits .u64) 4294967295).toNat:Nat):Int)))) (2 ^ (min 32 (IntKind.bits .u64)))))) (2 ^ (min 32 (IntKind.bits .u64)))))) + (Int.fdiv (IntKind.wrap .u64 ((IntKind.wrap .u64 (((BitVec.ofInt (IntKind.bits .u64) (IntKind.wrap .u64 ((IntKind.wrap .u64 ((Int.fdiv x1 (2 ^ (min 32 (IntKind.bits .u64)))) * (IntKind.wrap .u64 (((BitVec.ofInt (IntKind.bits .u64) y2 &&& BitVec.ofInt (IntKind.bits .u64) 4294967295).toNat:Nat):Int)))) + (Int.fdiv (IntKind.wrap .u64 ((IntKind.wrap .u64 (((BitVec.ofInt (IntKind.bits .u64) x1 &&& BitVec.ofInt (IntKind.bits .u64) 4294967295).toNat:Nat):Int)) * (IntKind.wrap .u64 (((BitVec.ofInt (IntKind.bits .u64) y2 &&& BitVec.ofInt (IntKind.bits .u64) 4294967295).toNat:Nat):Int)))) (2 ^ (min 32 (IntKind.bits .u64)))))) &&& BitVec.ofInt (IntKind.bits .u64) 4294967295).toNat:Nat):Int)) + (IntKind.wrap .u64 ((IntKind.wrap .u64 (((BitVec.ofInt (IntKind.bits .u64) x1 &&& BitVec.ofInt (IntKind.bits .u64) 4294967295).toNat:Nat):Int)) * (Int.fdiv y2 (2 ^ (min 32 (IntKind.bits .u64)))))))) (2 ^ (min 32 (IntKind.bits .u64))))),IntKind.wrap .u64 (x1 * y2))
def Quu (fu:Nat) (x1:Int) (y2:Int):Option (Int × Int) :=
  Qac (Qui fu x1 y2) fun x3=>some (x3.1,x3.2)
def Qnb (fu:Nat)   (k3:List Int → Int → Option ((List Int))) (Aa:List Int) (Ab:Int):Option ((List Int)) :=
  bif (decide (Ab < (Aa.length:Int))) then Qac (sls Aa Ab (Aa.length:Int)) fun Ad=>Qac (sls Aa 0 Ab) fun Ac=>k3 (cpd Aa Ab Ac) (w64 (Ab + (cpn Aa Ab Ac))) else some (Aa)
def Qf5 (fu:Nat)   : Nat → List Int → Int → Option ((List Int))
  | 0=>fun _ _=>none
  | n + 1=>Qnb fu  (Qf5 fu  n)
def Qbq (fu:Nat) (x1:List Int) (x8:Int × Int)  : Option ((List Int)) :=
  Qac (mk 8 (0:Int) (w64 x8.2)) fun Aa=>Qf5 fu fu (cpd Aa 0 x1) (cpn Aa 0 x1)
def Qf6 (fu:Nat) (x1:List Int) (Aa:Int)  : Option ((List Int)) :=
  Qac (Quu fu (IntKind.wrap .u64 (x1.length:Int)) (IntKind.wrap .u64 Aa)) fun x8=>bif (decide (x8.1 > 0)) then none else bif (decide (x8.2 > 9223372036854775807)) then none else Qbq fu x1 x8
def Qfm (fu:Nat) (x1:List Int) (Aa:Int):Option ((List Int)) :=
  bif (decide (Aa < 0)) then none else Qf6 fu x1 Aa
def Qoy (fu:Nat)  (r1:Request) (k1:List Int → Int → Option ((List Int))) (Ab:List Int) (Aa:Int):Option ((List Int)) :=
  bif (decide (Aa < (r1.fG.length:Int))) then Qac (ix r1.fG Aa) fun Ac=>Qac (Qfm fu (([Aa]:List Int)) Ac.f0) fun Ad=>Qac (Qhw 8 Ab Ad) fun Ae=>k1 Ae (w64 (Aa + 1)) else some (Ab)
def Qhr (fu:Nat)  (r1:Request):Nat → List Int → Int → Option ((List Int))
  | 0=>fun _ _=>none
  | n + 1=>Qoy fu r1 (Qhr fu r1 n)
def Qn8 (fu:Nat) (r1:Request):Option ((List Int)) :=
  Qac (Qgn fu r1) fun Aa=>bif (!Aa) then some (([]:List Int)) else Qhr fu r1 fu (([]:List Int)) 0
def Qni (fu:Nat)  (n1:Int) (k1:List Int → Int → Option ((List Int))) (Ab:List Int) (Aa:Int):Option ((List Int)) :=
  bif (decide (Aa < n1)) then Qac (Qhw 8 Ab (([Aa]:List Int))) fun Ac=>k1 Ac (w64 (Aa + 1)) else some (Ab)
def Qg2 (fu:Nat)  (n1:Int):Nat → List Int → Int → Option ((List Int))
  | 0=>fun _ _=>none
  | n + 1=>Qni fu n1 (Qg2 fu n1 n)
def Qr2 (fu:Nat) (n1:Int):Option ((List Int)) :=
  Qg2 fu n1 fu (([]:List Int)) 0
def Qfh (fu:Nat)  (Ab:List Int) (Ac:List Int) (k1:Int → Option (Bool)) (Aa:Int):Option (Bool) :=
  bif (decide (Aa < (Ab.length:Int))) then Qac (ix Ab Aa) fun Ad=>Qac (ix Ac Aa) fun Ae=>bif (Ad != Ae) then some (false) else k1 (w64 (Aa + 1)) else some (true)
def Qco (fu:Nat)  (Aa:List Int) (Ab:List Int):Nat → Int → Option (Bool)
  | 0=>fun _=>none
  | n + 1=>Qfh fu Aa Ab (Qco fu Aa Ab n)
def Qf8 (fu:Nat) (Aa:List Int) (Ab:List Int):Option (Bool) :=
  bif ((Aa.length:Int) != (Ab.length:Int)) then some (false) else Qco fu Aa Ab fu 0
def Qqe (fu:Nat) (u1:Int) (x2:Int):Option (Bool) :=
  Qac (Qcc fu u1 0 (w64 (x2 - 1))) fun x5=>some (!x5)
def Qd4 (fu:Nat)  (Ab:List Int) (f5:Int → Option Bool) (k1:Int → Option (Int)) (Aa:Int):Option (Int) :=
  bif (decide (Aa < (Ab.length:Int))) then Qac (ix Ab Aa) fun Ac=>Qac (f5 Ac) fun Ad=>bif Ad then some (Aa) else k1 (w64 (Aa + 1)) else some ((-1))
def Qb0 (fu:Nat)  (Aa:List Int) (f5:Int → Option Bool):Nat → Int → Option (Int)
  | 0=>fun _=>none
  | n + 1=>Qd4 fu Aa f5 (Qb0 fu Aa f5 n)
def Qc4 (fu:Nat) (Aa:List Int) (f5:Int → Option Bool):Option (Int) :=
  Qb0 fu Aa f5 fu 0
def Qc3 (fu:Nat) (k3:List Int → Int → Int → Option ((List Int))) (Ac:Int) (Ab:List Int) (Aa:Int):Option ((List Int)) :=
  k3 Ab Aa (w64 (Ac + 1))
def Qdv (fu:Nat)  (f5:Int → Option Bool) (k3:List Int → Int → Int → Option ((List Int))) (Aa:List Int) (Ab:Int) (Ac:Int):Option ((List Int)) :=
  bif (decide (Ac < (Aa.length:Int))) then Qac (ix Aa Ac) fun Ad=>Qac (f5 Ad) fun Af=>bif (!Af) then Qac (ix Aa Ab) fun Ag=>Qc3 fu k3 Ac (Qhx Aa Ab Ad) (w64 (Ab + 1)) else Qc3 fu k3 Ac Aa Ab else Qac (sls Aa Ab (Aa.length:Int)) fun Ah=>Qac (sls (Q3y Aa Ab) 0 Ab) fun Ae=>some (Ae)
def Qbh (fu:Nat)  (f5:Int → Option Bool):Nat → List Int → Int → Int → Option ((List Int))
  | 0=>fun _ _ _=>none
  | n + 1=>Qdv fu f5 (Qbh fu f5 n)
def Qd0 (fu:Nat) (Ab:List Int) (f5:Int → Option Bool):Option ((List Int)) :=
  Qac (Qc4 fu Ab f5) fun Aa=>bif (Aa == ((-1))) then some (Ab) else Qbh fu f5 fu Ab Aa (w64 (Aa + 1))
def Qpk (fu:Nat) (r1:Request) (Ad:List Int):Option ((List Int)) :=
  Qac (Qn8 fu r1) fun Aa=>Qac (Qcq fu Ad) fun Ae=>Qac (Qd0 fu Ae (fun Ac=>Qqe fu Ac (Aa.length:Int))) fun Ab=>some (Ab)
def Qkf (fu:Nat) (k3:List Item → Int → Option ((List Item))) (Ab:Int) (Aa:List Item):Option ((List Item)) :=
  k3 Aa (w64 (Ab + 1))
def Qlg (fu:Nat)  (r1:Request) (Ae:List Int) (Ac:(List Int)) (k3:List Item → Int → Option ((List Item))) (Ab:List Item) (Aa:Int):Option ((List Item)) :=
  bif (decide (Aa < (Ae.length:Int))) then Qac (ix Ae Aa) fun Ad=>Qac (Qcc fu Ad 0 (w64 ((Ac.length:Int) - 1))) fun Ai=>bif Ai then Qac (ix Ac Ad) fun Ah=>Qac (ix r1.fG Ah) fun Ag=>Qac (Qhw 56 Ab (([Ag]:List Item))) fun Af=>Qkf fu k3 Aa Af else Qkf fu k3 Aa Ab else some (Ab)
def Qe7 (fu:Nat)  (r1:Request) (Aa:List Int) (Ab:(List Int)):Nat → List Item → Int → Option ((List Item))
  | 0=>fun _ _=>none
  | n + 1=>Qlg fu r1 Aa Ab (Qe7 fu r1 Aa Ab n)
def Qhf (fu:Nat) (r1:Request) (Ab:List Int):Option ((List Item)) :=
  Qac (Qn8 fu r1) fun Aa=>Qe7 fu r1 Ab Aa fu (([]:List Item)) 0
def Qsb (fu:Nat) (x1:Item) (x2:Typ):Option (Bool) :=
  Qac (Qr6 fu x1 x2) fun x8=>some (!x8)
def Qp9 (fu:Nat) (Aa:Int) (h2:Int) (d3:Int)  : Option (Int) :=
  some (w64 ((w64 (Aa * h2)) * d3))
def Qo0 (fu:Nat) (Aa:Int) (h2:Int) (d3:Int):Option (Int) :=
  Qac (Qcc fu Aa 0 2000) fun Ac=>bif (!Ac) then some (0) else Qac (Qcc fu h2 0 2000) fun Ad=>bif (!Ad) then some (0) else Qac (Qcc fu d3 0 2000) fun Ab=>bif (!Ab) then some (0) else Qp9 fu Aa h2 d3
def Qjd (fu:Nat)  (Ac:(List Item)) (k1:Int → Int → Option (Int)) (Ad:Int) (Ab:Int):Option (Int) :=
  bif (decide (Ab < (Ac.length:Int))) then Qac (ix Ac Ab) fun Aa=>Qac (Qo0 fu Aa.fW Aa.fH Aa.fD) fun Ae=>k1 (w64 (Ad + Ae)) (w64 (Ab + 1)) else some (Ad)
def Qfi (fu:Nat)  (Aa:(List Item)):Nat → Int → Int → Option (Int)
  | 0=>fun _ _=>none
  | n + 1=>Qjd fu Aa (Qfi fu Aa n)
def Qod (fu:Nat) (r1:Request) (Ab:List Int):Option (Int) :=
  Qac (Qhf fu r1 Ab) fun Aa=>Qfi fu Aa fu 0 0
def Qm8 (fu:Nat)  (Ab:(List Item)) (k1:Int → Int → Option (Int)) (Ac:Int) (Aa:Int):Option (Int) :=
  bif (decide (Aa < (Ab.length:Int))) then Qac (ix Ab Aa) fun Ad=>k1 (w64 (Ac + Ad.fV)) (w64 (Aa + 1)) else some (Ac)
def Qg1 (fu:Nat)  (Aa:(List Item)):Nat → Int → Int → Option (Int)
  | 0=>fun _ _=>none
  | n + 1=>Qm8 fu Aa (Qg1 fu Aa n)
def Qor (fu:Nat) (r1:Request) (Ab:List Int):Option (Int) :=
  Qac (Qhf fu r1 Ab) fun Aa=>Qg1 fu Aa fu 0 0
def Qri (fu:Nat) (r1:Request) (Aa:List Int) (t9:Typ):Option (Bool) :=
  Qac (Qod fu r1 Aa) fun Ac=>Qac (Qo0 fu t9.fW t9.fH t9.fD) fun Ab=>bif (decide (Ac ≤ Ab)) then Qac (Qor fu r1 Aa) fun Ad=>some (decide (Ad ≤ t9.fV)) else some (false)
def Qrq (fu:Nat) (r1:Request) (Aa:List Int) (t9:Typ)  : Option (Bool) :=
  Qac (Qhf fu r1 Aa) fun Ab=>Qac (Qax fu Ab (fun Ad=>Qsb fu Ad t9)) fun Ac=>bif (!Ac) then Qac (Qri fu r1 Aa t9) fun Ae=>some (Ae) else some (false)
def Qqo (fu:Nat) (r1:Request) (Aa:List Int) (t9:Typ):Option (Bool) :=
  Qac (Qgn fu r1) fun Ab=>bif (!Ab) then some (false) else Qac (Qpk fu r1 Aa) fun Ac=>bif ((Ac.length:Int) != (Aa.length:Int)) then some (false) else Qrq fu r1 Aa t9
def Qki (fu:Nat) (x1:List Int):Option (List Int):=Jf1 x1
def Qkl (fu:Nat) (Ab:List Int):Option ((List Int)) :=
  Qac (Qcq fu Ab) fun x5=>Qac (Qc1 fu x5) fun Ac=>Qac (Qki fu Ac) fun Aa=>some (Aa)
def Qlb (fu:Nat)  (r1:Request) (k1:List Int → Int → Option ((List Int))) (Ab:List Int) (Aa:Int):Option ((List Int)) :=
  bif (decide (Aa < (r1.fG.length:Int))) then Qac (ix r1.fG Aa) fun Ad=>Qac (Qhw 8 Ab (([Ad.fF]:List Int))) fun Ae=>k1 Ae (w64 (Aa + 1)) else Qac (Qkl fu Ab) fun Ac=>some (Ac)
def Qga (fu:Nat)  (r1:Request):Nat → List Int → Int → Option ((List Int))
  | 0=>fun _ _=>none
  | n + 1=>Qlb fu r1 (Qga fu r1 n)
def Qpo (fu:Nat) (r1:Request):Option ((List Int)) :=
  Qac (Qgn fu r1) fun Aa=>bif (!Aa) then some (([]:List Int)) else Qga fu r1 fu (([]:List Int)) 0
def Qq7 (fu:Nat) (Aa:List Pair) (a5:Int) (b6:Int):Option (Bool) :=
  Qac (Qhb fu Aa a5 b6) fun x7=>bif x7 then Qac (Qhb fu Aa b6 a5) fun Ab=>some (Ab) else some (false)
def Qkj (fu:Nat) (x1:Int) (x2:List Pair) (x8:Int):Option (Bool) :=
  Qac (Qq7 fu x2 x8 x1) fun Aa=>some (!Aa)
def Qch (fu:Nat) (Ab:List Int) (f5:Int → Option Bool):Option (Bool) :=
  Qac (Qc4 fu Ab f5) fun Aa=>some (decide (Aa ≥ 0))
def Qob (fu:Nat) (l1:List Int) (x5:List Pair) (Aa:Int):Option (Bool) :=
  Qac (Qch fu l1 (fun Ab=>Qkj fu Ab x5 Aa)) fun Ac=>some (!Ac)
def Qdw (fu:Nat)  (Ab:List (List Int)) (f5:(List Int) → Option Bool) (k1:Int → Option (Int)) (Aa:Int):Option (Int) :=
  bif (decide (Aa < (Ab.length:Int))) then Qac (ix Ab Aa) fun Ac=>Qac (f5 Ac) fun Ad=>bif Ad then some (Aa) else k1 (w64 (Aa + 1)) else some ((-1))
def Qbw (fu:Nat)  (Aa:List (List Int)) (f5:(List Int) → Option Bool):Nat → Int → Option (Int)
  | 0=>fun _=>none
  | n + 1=>Qdw fu Aa f5 (Qbw fu Aa f5 n)
def Qdy (fu:Nat) (Aa:List (List Int)) (f5:(List Int) → Option Bool):Option (Int) :=
  Qbw fu Aa f5 fu 0
def Qif (fu:Nat) (k3:List (List Int) → Int → Option ((List (List Int)))) (Aa:Int) (Ab:List (List Int)):Option ((List (List Int))) :=
  k3 Ab (w64 (Aa + 1))
def Qnp (fu:Nat)  (Ag:List Pair) (Ae:(List Int)) (k3:List (List Int) → Int → Option ((List (List Int)))) (Aa:List (List Int)) (Ab:Int):Option ((List (List Int))) :=
  bif (decide (Ab < (Ae.length:Int))) then Qac (ix Ae Ab) fun Ad=>Qac (Qcc fu Ad 0 3) fun Aj=>bif (!Aj) then Qif fu k3 Ab Aa else Qac (Qdy fu Aa (fun Af=>Qob fu Af Ag Ad)) fun Ac=>bif (decide (Ac < 0)) then Qac (Qhw 24 Aa [([Ad]:List Int)]) fun Ak=>Qif fu k3 Ab Ak else Qac (ix Aa Ac) fun Ai=>Qac (Qhw 8 Ai (([Ad]:List Int))) fun Ah=>Qac (ix Aa Ac) fun Al=>Qif fu k3 Ab (Qhx Aa Ac Ah) else some (Aa)
def Qep (fu:Nat)  (Aa:List Pair) (Ab:(List Int)):Nat → List (List Int) → Int → Option ((List (List Int)))
  | 0=>fun _ _=>none
  | n + 1=>Qnp fu Aa Ab (Qep fu Aa Ab n)
def Qqz (fu:Nat) (Aa:List Pair) (Ab:List Int):Option ((List (List Int))) :=
  Qac (Qkl fu Ab) fun Ac=>Qep fu Aa Ac fu (([]:List (List Int))) 0
def Qoi (fu:Nat) (r1:Request):Option ((List (List Int))) :=
  Qac (Qgn fu r1) fun Ac=>bif (!Ac) then some (([]:List (List Int))) else Qac (Qpo fu r1) fun Ab=>Qac (Qqz fu r1.fL Ab) fun Aa=>some (Aa)
def Qfv (fu:Nat)  (Ab:List Int) (v5:Int) (k1:Int → Option (Int)) (Aa:Int):Option (Int) :=
  bif (decide (Aa < (Ab.length:Int))) then Qac (ix Ab Aa) fun Ac=>bif (v5 == Ac) then some (Aa) else k1 (w64 (Aa + 1)) else some ((-1))
def Qcm (fu:Nat)  (Aa:List Int) (v5:Int):Nat → Int → Option (Int)
  | 0=>fun _=>none
  | n + 1=>Qfv fu Aa v5 (Qcm fu Aa v5 n)
def Qh5 (fu:Nat) (Aa:List Int) (v5:Int):Option (Int) :=
  Qcm fu Aa v5 fu 0
def Qeo (fu:Nat) (Aa:List Int) (v5:Int):Option (Bool) :=
  Qac (Qh5 fu Aa v5) fun x6=>some (decide (x6 ≥ 0))
def Qi6 (fu:Nat) (y1:Item) (x2:Carton) (x8:List (List Int)):Option (Bool) :=
  bif (decide (x2.fE ≥ (x8.length:Int))) then some (true) else Qac (ix x8 x2.fE) fun Aa=>Qac (Qeo fu Aa y1.fF) fun Ab=>some (!Ab)
def Qdn (fu:Nat) (k3:Typ → Bool → Int → Option (Typ × Bool)) (Ac:Int) (Aa:Typ) (Ab:Bool):Option (Typ × Bool) :=
  k3 Aa Ab (w64 (Ac + 1))
def Qjq (fu:Nat)  (r1:Request) (Ae:List Int) (k3:Typ → Bool → Int → Option (Typ × Bool)) (Ac:Typ) (Ad:Bool) (Aa:Int):Option (Typ × Bool) :=
  bif (decide (Aa < (r1.fT.length:Int))) then Qac (ix r1.fT Aa) fun Ab=>Qac (Qqo fu r1 Ae Ab) fun Af=>bif (!Af) then Qdn fu k3 Aa Ac Ad else bif (!Ad) then Qdn fu k3 Aa Ab true else bif (decide (Ab.fK < Ac.fK)) then Qdn fu k3 Aa Ab true else bif (Ab.fK == Ac.fK) then bif (decide (Ab.f8 < Ac.f8)) then Qdn fu k3 Aa Ab true else Qdn fu k3 Aa Ac Ad else Qdn fu k3 Aa Ac Ad else some (Ac,Ad)
def Qei (fu:Nat)  (r1:Request) (Aa:List Int):Nat → Typ → Bool → Int → Option (Typ × Bool)
  | 0=>fun _ _ _=>none
  | n + 1=>Qjq fu r1 Aa (Qei fu r1 Aa n)
def Qn0 (fu:Nat) (r1:Request) (Aa:List Int):Option (Typ × Bool) :=
  Qei fu r1 Aa fu (⟨0,0,0,0,0,0,0⟩:Typ) false 0
def Qiz (fu:Nat) (k3:Int → Option (Int)) (Aa:Int)  : Option (Int) :=
  k3 (w64 (Aa + 1))
def Qhc (fu:Nat)  (r1:Request) (x5:Plan) (k6:Int → Option (Int)) (Aa:Int):Option (Int) :=
  bif (decide (Aa < (x5.fJ.length:Int))) then Qac (ix x5.fJ Aa) fun Ab=>Qac (Qn0 fu r1 Ab.fM) fun Ac=>bif (Ac.1.f8 != Ab.fO) then some (6) else k6 (w64 (Aa + 1)) else some (0)
def Qd2 (fu:Nat)  (r1:Request) (x5:Plan):Nat → Int → Option (Int)
  | 0=>fun _=>none
  | n + 1=>Qhc fu r1 x5 (Qd2 fu r1 x5 n)
def Qg8 (fu:Nat)  (r1:Request) (x5:Plan) (Ac:(List (List Int))) (k5:Int → Option (Int)) (Aa:Int):Option (Int) :=
  bif (decide (Aa < (x5.fJ.length:Int))) then Qac (ix x5.fJ Aa) fun Ab=>Qac (Qhf fu r1 Ab.fM) fun Ae=>Qac (Qax fu Ae (fun Ad=>Qi6 fu Ad Ab Ac)) fun Af=>bif Af then some (5) else k5 (w64 (Aa + 1)) else Qd2 fu r1 x5 fu 0
def Qd1 (fu:Nat)  (r1:Request) (x5:Plan) (Aa:(List (List Int))):Nat → Int → Option (Int)
  | 0=>fun _=>none
  | n + 1=>Qg8 fu r1 x5 Aa (Qd1 fu r1 x5 Aa n)
def Qhd (fu:Nat)  (r1:Request) (x5:Plan) (k3:Int → Option (Int)) (Aa:Int):Option (Int) :=
  bif (decide (Aa < (x5.fJ.length:Int))) then Qac (ix x5.fJ Aa) fun Ab=>Qac (Qgq fu r1 Ab.fO) fun Ac=>bif (!Ac.2) then some (4) else Qac (Qqo fu r1 Ab.fM Ac.1) fun Ae=>bif (!Ae) then some (4) else Qiz fu k3 Aa else Qac (Qoi fu r1) fun Ad=>Qd1 fu r1 x5 Ad fu 0
def Qc2 (fu:Nat)  (r1:Request) (x5:Plan):Nat → Int → Option (Int)
  | 0=>fun _=>none
  | n + 1=>Qhd fu r1 x5 (Qc2 fu r1 x5 n)
def Qig (fu:Nat) (r1:Request) (x5:Plan):Option (Int) :=
  Qc2 fu r1 x5 fu 0
def Qq5 (fu:Nat) (r1:Request) (x5:Carton) (Aa:Typ × Bool)  : Option (Int) :=
  Qac (Qor fu r1 x5.fM) fun Ab=>some (w64 (Aa.1.f7 + Ab))
def Qqt (fu:Nat) (r1:Request) (x5:Carton):Option (Int) :=
  Qac (Qgq fu r1 x5.fO) fun Aa=>bif (!Aa.2) then some (0) else Qac (Qgn fu r1) fun Ab=>bif (!Ab) then some (0) else Qq5 fu r1 x5 Aa
def Qro (fu:Nat) (r1:Request) (x5:Carton) (Aa:Typ × Bool)  : Option (Box) :=
  Qac (Qqt fu r1 x5) fun Ab=>some (⟨Aa.1.fW,Aa.1.fD,Aa.1.fH,Ab⟩:Box)
def Qqs (fu:Nat) (r1:Request) (x5:Carton):Option (Box) :=
  Qac (Qgq fu r1 x5.fO) fun Aa=>bif (!Aa.2) then some (⟨0,0,0,0⟩:Box) else Qac (Qgn fu r1) fun Ab=>bif (!Ab) then some (⟨0,0,0,0⟩:Box) else Qro fu r1 x5 Aa
def Qqd (fu:Nat) (p1:Pallet) (b2:Box) (Aa:Spot)  : Option (Bool) :=
  bif (decide ((w64 (Aa.fX + b2.fW)) ≤ p1.fW)) then bif (decide ((w64 (Aa.fY + b2.fD)) ≤ p1.fD)) then some (decide ((w64 (Aa.fZ + b2.fH)) ≤ p1.fH)) else some (false) else some (false)
def Qq2 (fu:Nat) (p1:Pallet) (b2:Box) (Aa:Spot):Option (Bool) :=
  Qac (Qb5 fu Aa.fX) fun Af=>bif (!Af) then some (false) else Qac (Qb5 fu Aa.fY) fun Ac=>bif (!Ac) then some (false) else Qac (Qb5 fu Aa.fZ) fun Ae=>bif (!Ae) then some (false) else Qac (Qcs fu b2.fW) fun Ag=>bif (!Ag) then some (false) else Qac (Qcs fu b2.fD) fun Ab=>bif (!Ab) then some (false) else Qac (Qcs fu b2.fH) fun Ad=>bif (!Ad) then some (false) else Qqd fu p1 b2 Aa
def Qoo (fu:Nat) (b1:Box) (Aa:Spot):Option (Bool) :=
  Qac (Qb5 fu b1.fW) fun Ae=>bif Ae then Qac (Qb5 fu b1.fD) fun Ac=>bif Ac then Qac (Qb5 fu b1.fH) fun Ag=>bif Ag then Qac (Qb5 fu Aa.fX) fun Ab=>bif Ab then Qac (Qb5 fu Aa.fY) fun Ad=>bif Ad then Qac (Qb5 fu Aa.fZ) fun Af=>some (Af) else some (false) else some (false) else some (false) else some (false) else some (false)
def Qqr (fu:Nat) (a1:Int) (Ab:Int) (b3:Int) (Aa:Int):Option (Bool) :=
  bif (decide (a1 < (w64 (b3 + Aa)))) then some (decide (b3 < (w64 (a1 + Ab)))) else some (false)
def Qop (fu:Nat) (a1:Box) (Aa:Spot) (b3:Box) (t4:Spot)  : Option (Bool) :=
  Qac (Qqr fu Aa.fX a1.fW t4.fX b3.fW) fun Ad=>bif Ad then Qac (Qqr fu Aa.fY a1.fD t4.fY b3.fD) fun Ab=>bif Ab then Qac (Qqr fu Aa.fZ a1.fH t4.fZ b3.fH) fun Ac=>some (Ac) else some (false) else some (false)
def Qpf (fu:Nat) (a1:Box) (Aa:Spot) (b3:Box) (t4:Spot):Option (Bool) :=
  Qac (Qoo fu a1 Aa) fun Ac=>bif (!Ac) then some (false) else Qac (Qoo fu b3 t4) fun Ab=>bif (!Ab) then some (false) else bif (Aa.fQ != t4.fQ) then some (false) else Qop fu a1 Aa b3 t4
def Qj7 (fu:Nat) (k3:Int → Int → Option (Int)) (Ab:Int) (Aa:Int):Option (Int) :=
  k3 Aa (w64 (Ab + 1))
def Qk7 (fu:Nat)  (Ad:List Spot) (k3:Int → Int → Option (Int)) (Ab:Int) (Aa:Int):Option (Int) :=
  bif (decide (Aa < (Ad.length:Int))) then Qac (ix Ad Aa) fun Ac=>Qac (Qcc fu Ac.fQ 0 999999) fun Ae=>bif Ae then Qj7 fu k3 Aa (if (w64 (Ac.fQ + 1)) > Ab then w64 (Ac.fQ + 1) else Ab) else Qj7 fu k3 Aa Ab else some (Ab)
def Qe6 (fu:Nat)  (Aa:List Spot):Nat → Int → Int → Option (Int)
  | 0=>fun _ _=>none
  | n + 1=>Qk7 fu Aa (Qe6 fu Aa n)
def Qpx (fu:Nat) (Aa:List Spot):Option (Int) :=
  Qe6 fu Aa fu 0 0
def Qin (fu:Nat) (k3:List Int → Int → Option ((List Int))) (Ab:Int) (Aa:List Int):Option ((List Int)) :=
  k3 Aa (w64 (Ab + 1))
def Qjg (fu:Nat)  (x1:Plan) (Ae:Int) (k3:List Int → Int → Option ((List Int))) (Ab:List Int) (Aa:Int):Option ((List Int)) :=
  bif (decide (Aa < (x1.fU.length:Int))) then Qac (ix x1.fU Aa) fun Ad=>bif (Ad.fQ == Ae) then Qac (Qhw 8 Ab (([Aa]:List Int))) fun Ac=>Qin fu k3 Aa Ac else Qin fu k3 Aa Ab else some (Ab)
def Qel (fu:Nat)  (x1:Plan) (Aa:Int):Nat → List Int → Int → Option ((List Int))
  | 0=>fun _ _=>none
  | n + 1=>Qjg fu x1 Aa (Qel fu x1 Aa n)
def Qj5 (fu:Nat) (x1:Plan) (Aa:Int):Option ((List Int)) :=
  bif ((x1.fU.length:Int) != (x1.fJ.length:Int)) then some (([]:List Int)) else Qel fu x1 Aa fu (([]:List Int)) 0
def Qh4 (fu:Nat)  (r1:Request) (x5:Plan) (Ab:(List Int)) (k1:Int → Int → Option (Int)) (Ac:Int) (Aa:Int):Option (Int) :=
  bif (decide (Aa < (Ab.length:Int))) then Qac (ix Ab Aa) fun Ad=>Qac (ix x5.fJ Ad) fun Ae=>Qac (Qqt fu r1 Ae) fun Af=>k1 (w64 (Ac + Af)) (w64 (Aa + 1)) else some (Ac)
def Qef (fu:Nat)  (r1:Request) (x5:Plan) (Aa:(List Int)):Nat → Int → Int → Option (Int)
  | 0=>fun _ _=>none
  | n + 1=>Qh4 fu r1 x5 Aa (Qef fu r1 x5 Aa n)
def Qkg (fu:Nat) (r1:Request) (x5:Plan) (Ab:Int):Option (Int) :=
  Qac (Qj5 fu x5 Ab) fun Aa=>Qef fu r1 x5 Aa fu 0 0
def Qnq (fu:Nat) (i1:Int) (x2:Plan) (Ac:List Int):Option (Bool) :=
  Qac (ix x2.fJ i1) fun Ad=>Qac (ix Ac 0) fun Ab=>Qac (ix x2.fJ Ab) fun Aa=>some (Ad.fE != Aa.fE)
def Qiy (fu:Nat) (k4:Int → Option (Int)) (x5:Plan) (Ac:List Box) (Ab:Int) (k5:Int → Option (Int)) (Aa:Int):Option (Int) :=
  bif (decide (Aa < Ab)) then Qac (ix Ac Ab) fun Ad=>Qac (ix x5.fU Ab) fun Ag=>Qac (ix Ac Aa) fun Ah=>Qac (ix x5.fU Aa) fun Ae=>Qac (Qpf fu Ad Ag Ah Ae) fun Af=>bif Af then some (8) else k5 (w64 (Aa + 1)) else k4 (w64 (Ab + 1))
def Qex (fu:Nat) (k4:Int → Option (Int)) (x5:Plan) (Aa:List Box) (Ab:Int):Nat → Int → Option (Int)
  | 0=>fun _=>none
  | n + 1=>Qiy fu k4 x5 Aa Ab (Qex fu k4 x5 Aa Ab n)
def Qle (fu:Nat) (Ab:Int → Option (Int)) (Aa:Int)  : Option (Int) :=
  Ab (w64 (Aa + 1))
def Qld (fu:Nat) (Ae:Int → Option (Int)) (x5:Plan) (Ab:Int) (Aa:(List Int))  : Option (Int) :=
  Qac (Qch fu Aa (fun Ad=>Qnq fu Ad x5 Aa)) fun Ac=>bif Ac then some (9) else Qle fu Ae Ab
def Qiv (fu:Nat)  (r1:Request) (x5:Plan) (Ad:Int) (Ae:Int → Option (Int)) (Aa:Int):Option (Int) :=
  bif (decide (Aa < Ad)) then Qac (Qj5 fu x5 Aa) fun Ab=>bif ((Ab.length:Int) == 0) then some (9) else Qac (Qkg fu r1 x5 Aa) fun Ac=>bif (decide (Ac > r1.fQ.fV)) then some (9) else Qld fu Ae x5 Aa Ab else some (0)
def Qc6 (fu:Nat)  (r1:Request) (x5:Plan) (Aa:Int):Nat → Int → Option (Int)
  | 0=>fun _=>none
  | n + 1=>Qiv fu r1 x5 Aa (Qc6 fu r1 x5 Aa n)
def Qir (fu:Nat)  (r1:Request) (x5:Plan) (Aa:List Box) (k4:Int → Option (Int)) (Ab:Int):Option (Int) :=
  bif (decide (Ab < (Aa.length:Int))) then Qex fu k4 x5 Aa Ab fu 0 else Qac (Qpx fu x5.fU) fun Ac=>Qc6 fu r1 x5 Ac fu 0
def Qc5 (fu:Nat)  (r1:Request) (x5:Plan) (Aa:List Box):Nat → Int → Option (Int)
  | 0=>fun _=>none
  | n + 1=>Qir fu r1 x5 Aa (Qc5 fu r1 x5 Aa n)
def Qiw (fu:Nat)  (r1:Request) (x5:Plan) (k1:List Box → Int → Option (Int)) (Ab:List Box) (Aa:Int):Option (Int) :=
  bif (decide (Aa < (x5.fJ.length:Int))) then Qac (ix x5.fJ Aa) fun Ae=>Qac (Qqs fu r1 Ae) fun Ac=>Qac (ix x5.fU Aa) fun Af=>Qac (Qq2 fu r1.fQ Ac Af) fun Ad=>bif (!Ad) then some (7) else Qac (Qhw 32 Ab (([Ac]:List Box))) fun Ag=>k1 Ag (w64 (Aa + 1)) else Qc5 fu r1 x5 Ab fu 0
def Qeu (fu:Nat)  (r1:Request) (x5:Plan):Nat → List Box → Int → Option (Int)
  | 0=>fun _ _=>none
  | n + 1=>Qiw fu r1 x5 (Qeu fu r1 x5 n)
def Ql4 (fu:Nat) (r1:Request) (x5:Plan):Option (Int) :=
  Qeu fu r1 x5 fu (([]:List Box)) 0
def Qq1 (fu:Nat) (r1:Request) (x5:Plan)  : Option (Int) :=
  Qac (Qn5 fu x5) fun Ab=>Qac (Qc1 fu Ab) fun Ae=>Qac (Qn8 fu r1) fun Ac=>Qac (Qr2 fu (Ac.length:Int)) fun Ag=>Qac (Qf8 fu Ae Ag) fun Af=>bif (!Af) then some (3) else Qac (Qig fu r1 x5) fun Aa=>bif (Aa != 0) then some (Aa) else Qac (Ql4 fu r1 x5) fun Ad=>some (Ad)
def Qsl (fu:Nat) (r1:Request) (x5:Plan):Option (Int) :=
  Qac (Qgn fu r1) fun Aa=>bif (!Aa) then some (1) else Qac (Qr1 fu x5) fun Ab=>bif (!Ab) then some (2) else Qac (Qbf fu x5.fJ (fun Ac=>Qsg fu Ac)) fun Ad=>bif Ad then some (2) else Qq1 fu r1 x5
def Qh0 (fu:Nat) (r1:Request) (x5:Plan):Option (Bool) :=
  Qac (Qsl fu r1 x5) fun Aa=>some (Aa == 0)
def Qm5 (fu:Nat)  (r1:Request) (x5:Plan) (f9:Box → Spot → Option Spot) (Ac:Plan) (k1:List Spot → Int → Option (Plan)) (Ab:List Spot) (Aa:Int):Option (Plan) :=
  bif (decide (Aa < (x5.fJ.length:Int))) then Qac (ix x5.fJ Aa) fun Ad=>Qac (ix x5.fU Aa) fun Af=>Qac (Qqs fu r1 Ad) fun Ae=>Qac (f9 Ae Af) fun Ag=>Qac (ix Ab Aa) fun Ah=>k1 (Qhx Ab Aa Ag) (w64 (Aa + 1)) else some (⟨Ac.fJ,Ab⟩:Plan)
def Qg0 (fu:Nat)  (r1:Request) (x5:Plan) (f9:Box → Spot → Option Spot) (Aa:Plan):Nat → List Spot → Int → Option (Plan)
  | 0=>fun _ _=>none
  | n + 1=>Qm5 fu r1 x5 f9 Aa (Qg0 fu r1 x5 f9 Aa n)
def Qpa (fu:Nat) (r1:Request) (x5:Plan) (f9:Box → Spot → Option Spot):Option (Plan) :=
  Qac (Ql6 fu x5) fun Aa=>Qac (Qh0 fu r1 x5) fun Ab=>bif (!Ab) then some (Aa) else Qg0 fu r1 x5 f9 Aa fu Aa.fU 0
def Qhs (fu:Nat) (r1:Request) (x5:Plan):Option (Plan) :=
  Qac (Qpa fu r1 x5 (fun Ac Aa=>Qo7 fu Ac Aa r1)) fun Ab=>some (Ab)
def Qsa (fu:Nat) (b1:Box) (Aa:Spot) (x3:Request):Option (Spot) :=
  some (⟨Aa.fQ,Aa.fX,w64 ((w64 (x3.fQ.fD - Aa.fY)) - b1.fD),Aa.fZ⟩:Spot)
def Qoh (fu:Nat) (r1:Request) (x5:Plan):Option (Plan) :=
  Qac (Qpa fu r1 x5 (fun Ac Aa=>Qsa fu Ac Aa r1)) fun Ab=>some (Ab)
def Qla (fu:Nat)  (x1:Plan) (Af:List Spot) (k1:List Carton → Int → Option (Plan)) (Ab:List Carton) (Aa:Int):Option (Plan) :=
  bif (decide (Aa < (x1.fJ.length:Int))) then Qac (ix x1.fJ Aa) fun Ac=>Qac (Qj4 fu Ac) fun Ae=>Qac (Qhw 40 Ab [Ae]) fun Ad=>k1 Ad (w64 (Aa + 1)) else some (⟨Ab,Af⟩:Plan)
def Qgg (fu:Nat)  (x1:Plan) (Aa:List Spot):Nat → List Carton → Int → Option (Plan)
  | 0=>fun _ _=>none
  | n + 1=>Qla fu x1 Aa (Qgg fu x1 Aa n)
def Qmn (fu:Nat) (x1:Plan):Option (Plan) :=
  Qac (Qhw 32 (([]:List Spot)) x1.fU) fun Aa=>Qgg fu x1 Aa fu (([]:List Carton)) 0
def Qht (fu:Nat) (k4:Int → Option (Bool)) (Aa:Int)  : Option (Bool) :=
  k4 (w64 (Aa + 1))
def Qim (fu:Nat)  (x1:Carton) (k4:Int → Option (Bool)) (Aa:Int):Option (Bool) :=
  bif (decide (Aa < (x1.fM.length:Int))) then Qac (ix x1.fM Aa) fun Ab=>Qac (Qaq fu Ab 0 999) fun Ac=>bif (!Ac) then some (false) else bif (decide (Aa > 0)) then Qac (ix x1.fM Aa) fun Ae=>Qac (ix x1.fM (w64 (Aa - 1))) fun Ad=>bif (decide (Ab ≤ Ad)) then some (false) else Qht fu k4 Aa else Qht fu k4 Aa else some (true)
def Qdz (fu:Nat)  (x1:Carton):Nat → Int → Option (Bool)
  | 0=>fun _=>none
  | n + 1=>Qim fu x1 (Qdz fu x1 n)
def Qln (fu:Nat) (x1:Carton)  : Option (Bool) :=
  Qdz fu x1 fu 0
def Ql8 (fu:Nat) (x1:Carton):Option (Bool) :=
  Qac (Qn3 fu x1.fO) fun Aa=>bif (!Aa) then some (false) else Qac (Qaq fu x1.fE 0 3) fun Ab=>bif (!Ab) then some (false) else bif (decide ((x1.fM.length:Int) > 100)) then some (false) else Qln fu x1
def Qqc (fu:Nat) (k4:Int → Option (Bool)) (Aa:Int)  : Option (Bool) :=
  k4 (w64 (Aa + 1))
def Qm6 (fu:Nat)  (x1:Plan) (k4:Int → Option (Bool)) (Aa:Int):Option (Bool) :=
  bif (decide (Aa < (x1.fJ.length:Int))) then Qac (ix x1.fU Aa) fun Ab=>Qac (ix x1.fJ Aa) fun Ad=>Qac (Ql8 fu Ad) fun Ag=>bif (!Ag) then some (false) else Qac (Qaq fu Ab.fQ 0 2000) fun Ah=>bif (!Ah) then some (false) else Qac (Qaq fu Ab.fX 0 2000) fun Ac=>bif (!Ac) then some (false) else Qac (Qaq fu Ab.fY 0 2000) fun Ae=>bif (!Ae) then some (false) else Qac (Qaq fu Ab.fZ 0 2000) fun Af=>bif (!Af) then some (false) else Qqc fu k4 Aa else some (true)
def Qf1 (fu:Nat)  (x1:Plan):Nat → Int → Option (Bool)
  | 0=>fun _=>none
  | n + 1=>Qm6 fu x1 (Qf1 fu x1 n)
def Qp7 (fu:Nat) (x1:Plan)  : Option (Bool) :=
  Qf1 fu x1 fu 0
def Qrd (fu:Nat) (x1:Plan):Option (Bool) :=
  bif ((x1.fJ.length:Int) != (x1.fU.length:Int)) then some (false) else bif (decide ((x1.fJ.length:Int) > 100)) then some (false) else Qp7 fu x1
def Qi8 (fu:Nat)  (x1:Plan) (k1:Int → Option (Bool)) (Aa:Int):Option (Bool) :=
  bif (decide (Aa < (x1.fJ.length:Int))) then Qac (ix x1.fJ Aa) fun Ab=>bif ((Ab.fM.length:Int) == 0) then some (true) else k1 (w64 (Aa + 1)) else some (false)
def Qfe (fu:Nat)  (x1:Plan):Nat → Int → Option (Bool)
  | 0=>fun _=>none
  | n + 1=>Qi8 fu x1 (Qfe fu x1 n)
def Qn4 (fu:Nat) (x1:Plan):Option (Bool) :=
  Qfe fu x1 fu 0
def Qlv (fu:Nat)  (x1:Plan) (k1:List Int → Int → Option ((List Int))) (Ab:List Int) (Aa:Int):Option ((List Int)) :=
  bif (decide (Aa < (x1.fJ.length:Int))) then Qac (ix x1.fJ Aa) fun Ac=>Qac (Qhw 8 Ab Ac.fM) fun Ad=>k1 Ad (w64 (Aa + 1)) else some (Ab)
def Qgh (fu:Nat)  (x1:Plan):Nat → List Int → Int → Option ((List Int))
  | 0=>fun _ _=>none
  | n + 1=>Qlv fu x1 (Qgh fu x1 n)
def Qpw (fu:Nat) (x1:Plan):Option ((List Int)) :=
  Qgh fu x1 fu (([]:List Int)) 0
def Qtk (fu:Nat) (Aa:Bool):Option (Int) :=
  bif Aa then some (1) else some (0)
def Qls (fu:Nat)  (Ac:List Int) (x5:Int) (k1:Int → Int → Option (Int)) (Ab:Int) (Aa:Int):Option (Int) :=
  bif (decide (Aa < (Ac.length:Int))) then Qac (ix Ac Aa) fun Ae=>Qac (Qtk fu (Ae == x5)) fun Ad=>k1 (w64 (Ab + Ad)) (w64 (Aa + 1)) else some (Ab)
def Qgf (fu:Nat)  (Aa:List Int) (x5:Int):Nat → Int → Int → Option (Int)
  | 0=>fun _ _=>none
  | n + 1=>Qls fu Aa x5 (Qgf fu Aa x5 n)
def Qpl (fu:Nat) (Aa:List Int) (x5:Int):Option (Int) :=
  Qgf fu Aa x5 fu 0 0
def Qje (fu:Nat)  (Ac:List Int) (Ad:(List Int)) (k1:Int → Option (Bool)) (Aa:Int):Option (Bool) :=
  bif (decide (Aa < (Ac.length:Int))) then Qac (Qpl fu Ad Aa) fun Ab=>bif (Ab != 1) then some (false) else k1 (w64 (Aa + 1)) else some (true)
def Qfr (fu:Nat)  (Aa:List Int) (Ab:(List Int)):Nat → Int → Option (Bool)
  | 0=>fun _=>none
  | n + 1=>Qje fu Aa Ab (Qfr fu Aa Ab n)
def Qog (fu:Nat) (Aa:List Int) (x5:Plan):Option (Bool) :=
  Qac (Qpw fu x5) fun Ab=>bif ((Ab.length:Int) != (Aa.length:Int)) then some (false) else Qfr fu Aa Ab fu 0
def Qnh (fu:Nat) (k7:Int → Option (Bool)) (Aa:Int)  : Option (Bool) :=
  k7 (w64 (Aa + 1))
def Qnf (fu:Nat) (k7:Int → Option (Bool)) (r1:Request) (x5:Plan) (Aa:Int) (Ab:Typ) (Ac:Bool):Option (Bool) :=
  bif (!Ac) then some (false) else Qac (ix x5.fJ Aa) fun Ae=>Qac (Qqv fu r1 Ae.fM Ab) fun Ad=>bif (!Ad) then some (false) else Qnh fu k7 Aa
def Qjf (fu:Nat)  (r1:Request) (x5:Plan) (k7:Int → Option (Bool)) (Aa:Int):Option (Bool) :=
  bif (decide (Aa < (x5.fJ.length:Int))) then Qac (ix x5.fJ Aa) fun Ac=>Qac (Qh1 fu r1 Ac.fO) fun Ab=>Qnf fu k7 r1 x5 Aa Ab.1 Ab.2 else some (true)
def Qdp (fu:Nat)  (r1:Request) (x5:Plan):Nat → Int → Option (Bool)
  | 0=>fun _=>none
  | n + 1=>Qjf fu r1 x5 (Qdp fu r1 x5 n)
def Qn1 (fu:Nat) (r1:Request) (x5:Plan):Option (Bool) :=
  Qdp fu r1 x5 fu 0
def Qkx (fu:Nat)  (Ab:List (List Int)) (Ad:Int) (k1:Int → Option (Int)) (Aa:Int):Option (Int) :=
  bif (decide (Aa < (Ab.length:Int))) then Qac (ix Ab Aa) fun Ae=>Qac (Qn6 fu Ae Ad) fun Ac=>bif Ac then some (Aa) else k1 (w64 (Aa + 1)) else some ((-1))
def Qgj (fu:Nat)  (Aa:List (List Int)) (Ab:Int):Nat → Int → Option (Int)
  | 0=>fun _=>none
  | n + 1=>Qkx fu Aa Ab (Qgj fu Aa Ab n)
def Qpy (fu:Nat) (Aa:List (List Int)) (Ab:Int):Option (Int) :=
  Qgj fu Aa Ab fu 0
def Qnn (fu:Nat) (Aa:Int → Option (Bool)) (Ab:Int)  : Option (Bool) :=
  Aa (w64 (Ab + 1))
def Qnl (fu:Nat) (Aa:Int → Option (Bool)) (Ab:Int)  : Option (Bool) :=
  Aa (w64 (Ab + 1))
def Qm0 (fu:Nat) (Ab:Int → Option (Bool)) (x9:Plan) (Af:(List (List Int))) (Ac:Int) (Ae:Int) (Ad:Item):Option (Bool) :=
  Qac (ix x9.fJ Ac) fun Aa=>Qac (Qpy fu Af Ad.fF) fun Ag=>bif (Ag != Aa.fE) then some (false) else Qnl fu Ab Ae
def Qjm (fu:Nat) (Ah:Int → Option (Bool)) (r1:Request) (Ad:List Int) (x9:Plan) (Ai:(List (List Int))) (Aa:Int) (Ae:Int → Option (Bool)) (Ab:Int):Option (Bool) :=
  Qac (ix x9.fJ Aa) fun Ac=>bif (decide (Ab < (Ac.fM.length:Int))) then Qac (ix x9.fJ Aa) fun Aj=>Qac (ix Ac.fM Ab) fun Af=>Qac (Qis fu r1 Ad Af) fun Ag=>Qm0 fu Ae x9 Ai Aa Ab Ag.1 else Qnn fu Ah Aa
def Qdm (fu:Nat) (Ab:Int → Option (Bool)) (r1:Request) (Ac:List Int) (x9:Plan) (Aa:(List (List Int))) (Ad:Int):Nat → Int → Option (Bool)
  | 0=>fun _=>none
  | n + 1=>Qjm fu Ab r1 Ac x9 Aa Ad (Qdm fu Ab r1 Ac x9 Aa Ad n)
def Qi7 (fu:Nat)  (r1:Request) (Ad:List Int) (x9:Plan) (Ab:(List (List Int))) (Ac:Int → Option (Bool)) (Aa:Int):Option (Bool) :=
  bif (decide (Aa < (x9.fJ.length:Int))) then Qdm fu Ac r1 Ad x9 Ab Aa fu 0 else some (true)
def Qcb (fu:Nat)  (r1:Request) (Ab:List Int) (x9:Plan) (Aa:(List (List Int))):Nat → Int → Option (Bool)
  | 0=>fun _=>none
  | n + 1=>Qi7 fu r1 Ab x9 Aa (Qcb fu r1 Ab x9 Aa n)
def Qoa (fu:Nat) (r1:Request) (Ab:List Int) (x9:Plan):Option (Bool) :=
  Qac (Qgp fu r1) fun Aa=>Qcb fu r1 Ab x9 Aa fu 0
def Qmw (fu:Nat) (k7:Int → Option (Bool)) (Aa:Int)  : Option (Bool) :=
  k7 (w64 (Aa + 1))
def Qng (fu:Nat) (k7:Int → Option (Bool)) (x5:Plan) (Aa:Int) (Ab:Typ) (Ac:Bool):Option (Bool) :=
  bif (!Ac) then some (false) else Qac (ix x5.fJ Aa) fun Ad=>bif (Ab.f8 != Ad.fO) then some (false) else Qmw fu k7 Aa
def Qjr (fu:Nat)  (r1:Request) (x5:Plan) (k7:Int → Option (Bool)) (Aa:Int):Option (Bool) :=
  bif (decide (Aa < (x5.fJ.length:Int))) then Qac (ix x5.fJ Aa) fun Ac=>Qac (Qj2 fu r1 Ac.fM) fun Ab=>Qng fu k7 x5 Aa Ab.1 Ab.2 else some (true)
def Qdt (fu:Nat)  (r1:Request) (x5:Plan):Nat → Int → Option (Bool)
  | 0=>fun _=>none
  | n + 1=>Qjr fu r1 x5 (Qdt fu r1 x5 n)
def Qnz (fu:Nat) (r1:Request) (x5:Plan):Option (Bool) :=
  Qdt fu r1 x5 fu 0
def Qhy (fu:Nat) (b1:Box) (Aa:Spot):Option (Bool) :=
  Qac (Qaq fu b1.fW 0 2000) fun Ae=>bif Ae then Qac (Qaq fu b1.fD 0 2000) fun Ac=>bif Ac then Qac (Qaq fu b1.fH 0 2000) fun Ag=>bif Ag then Qac (Qaq fu Aa.fX 0 2000) fun Ab=>bif Ab then Qac (Qaq fu Aa.fY 0 2000) fun Ad=>bif Ad then Qac (Qaq fu Aa.fZ 0 2000) fun Af=>some (Af) else some (false) else some (false) else some (false) else some (false) else some (false)
def Qrg (fu:Nat) (p1:Pallet) (b2:Box) (Aa:Spot):Option (Bool) :=
  Qac (Qhy fu b2 Aa) fun Ab=>bif Ab then bif (decide (b2.fW > 0)) then bif (decide (b2.fD > 0)) then bif (decide (b2.fH > 0)) then bif (decide ((w64 (Aa.fX + b2.fW)) ≤ p1.fW)) then bif (decide ((w64 (Aa.fY + b2.fD)) ≤ p1.fD)) then some (decide ((w64 (Aa.fZ + b2.fH)) ≤ p1.fH)) else some (false) else some (false) else some (false) else some (false) else some (false) else some (false)
def Qij (fu:Nat)  (r1:Request) (x5:Plan) (k1:Int → Option (Bool)) (Aa:Int):Option (Bool) :=
  bif (decide (Aa < (x5.fJ.length:Int))) then Qac (ix x5.fJ Aa) fun Ab=>Qac (ix x5.fU Aa) fun Ad=>Qac (Qhe fu r1 Ab) fun Ae=>Qac (Qrg fu r1.fQ Ae Ad) fun Ac=>bif (!Ac) then some (false) else k1 (w64 (Aa + 1)) else some (true)
def Qev (fu:Nat)  (r1:Request) (x5:Plan):Nat → Int → Option (Bool)
  | 0=>fun _=>none
  | n + 1=>Qij fu r1 x5 (Qev fu r1 x5 n)
def Ql7 (fu:Nat) (r1:Request) (x5:Plan):Option (Bool) :=
  Qev fu r1 x5 fu 0
def Qhv (fu:Nat) (a1:Int) (Aa:Int) (b3:Int) (Ab:Int):Option (Bool) :=
  bif (decide (a1 < (w64 (b3 + Ab)))) then some (decide (b3 < (w64 (a1 + Aa)))) else some (false)
def Qph (fu:Nat) (a1:Box) (Aa:Spot) (b3:Box) (t4:Spot):Option (Bool) :=
  Qac (Qhy fu a1 Aa) fun Af=>bif Af then Qac (Qhy fu b3 t4) fun Ae=>bif Ae then bif (Aa.fQ == t4.fQ) then Qac (Qhv fu Aa.fX a1.fW t4.fX b3.fW) fun Ac=>bif Ac then Qac (Qhv fu Aa.fY a1.fD t4.fY b3.fD) fun Ad=>bif Ad then Qac (Qhv fu Aa.fZ a1.fH t4.fZ b3.fH) fun Ab=>some (Ab) else some (false) else some (false) else some (false) else some (false) else some (false)
def Qi1 (fu:Nat) (k3:Int → Option (Bool)) (r1:Request) (x5:Plan) (Aa:Int) (k4:Int → Option (Bool)) (Ab:Int):Option (Bool) :=
  bif (decide (Ab < Aa)) then Qac (ix x5.fJ Aa) fun Ah=>Qac (ix x5.fU Aa) fun Af=>Qac (ix x5.fJ Ab) fun Ae=>Qac (ix x5.fU Ab) fun Ad=>Qac (Qhe fu r1 Ah) fun Ac=>Qac (Qhe fu r1 Ae) fun Ag=>Qac (Qph fu Ac Af Ag Ad) fun Ai=>bif Ai then some (false) else k4 (w64 (Ab + 1)) else k3 (w64 (Aa + 1))
def Qff (fu:Nat) (k3:Int → Option (Bool)) (r1:Request) (x5:Plan) (Aa:Int):Nat → Int → Option (Bool)
  | 0=>fun _=>none
  | n + 1=>Qi1 fu k3 r1 x5 Aa (Qff fu k3 r1 x5 Aa n)
def Qja (fu:Nat)  (r1:Request) (x5:Plan) (k3:Int → Option (Bool)) (Aa:Int):Option (Bool) :=
  bif (decide (Aa < (x5.fJ.length:Int))) then Qff fu k3 r1 x5 Aa fu 0 else some (true)
def Qdq (fu:Nat)  (r1:Request) (x5:Plan):Nat → Int → Option (Bool)
  | 0=>fun _=>none
  | n + 1=>Qja fu r1 x5 (Qdq fu r1 x5 n)
def Qn9 (fu:Nat) (r1:Request) (x5:Plan):Option (Bool) :=
  Qdq fu r1 x5 fu 0
def Qix (fu:Nat) (k5:List Int → Int → Option ((List Int))) (Ab:Int) (Aa:List Int):Option ((List Int)) :=
  k5 Aa (w64 (Ab + 1))
def Qmx (fu:Nat) (k5:List Int → Int → Option ((List Int))) (x1:Plan) (Ae:Int) (Ab:List Int) (Aa:Int)  : Option ((List Int)) :=
  Qac (ix x1.fU Aa) fun Ad=>bif (Ad.fQ == Ae) then Qac (Qhw 8 Ab (([Aa]:List Int))) fun Ac=>Qix fu k5 Aa Ac else Qix fu k5 Aa Ab
def Qg3 (fu:Nat)  (x1:Plan) (Ac:Int) (k5:List Int → Int → Option ((List Int))) (Aa:List Int) (Ab:Int):Option ((List Int)) :=
  bif (decide (Ab < (x1.fJ.length:Int))) then bif ((x1.fJ.length:Int) == (x1.fU.length:Int)) then Qmx fu k5 x1 Ac Aa Ab else some (Aa) else some (Aa)
def Qcx (fu:Nat)  (x1:Plan) (Aa:Int):Nat → List Int → Int → Option ((List Int))
  | 0=>fun _ _=>none
  | n + 1=>Qg3 fu x1 Aa (Qcx fu x1 Aa n)
def Qj6 (fu:Nat) (x1:Plan) (Aa:Int):Option ((List Int)) :=
  Qcx fu x1 Aa fu (([]:List Int)) 0
def Qh8 (fu:Nat)  (r1:Request) (x5:Plan) (Ab:(List Int)) (k1:Int → Int → Option (Int)) (Ac:Int) (Aa:Int):Option (Int) :=
  bif (decide (Aa < (Ab.length:Int))) then Qac (ix Ab Aa) fun Ad=>Qac (ix x5.fJ Ad) fun Ae=>Qac (Qqu fu r1 Ae) fun Af=>k1 (w64 (Ac + Af)) (w64 (Aa + 1)) else some (Ac)
def Qed (fu:Nat)  (r1:Request) (x5:Plan) (Aa:(List Int)):Nat → Int → Int → Option (Int)
  | 0=>fun _ _=>none
  | n + 1=>Qh8 fu r1 x5 Aa (Qed fu r1 x5 Aa n)
def Qke (fu:Nat) (r1:Request) (x5:Plan) (Ab:Int):Option (Int) :=
  Qac (Qj6 fu x5 Ab) fun Aa=>Qed fu r1 x5 Aa fu 0 0
def Qi5 (fu:Nat) (Aa:Int → Option (Bool)) (Ab:Int)  : Option (Bool) :=
  Aa (w64 (Ab + 1))
def Qia (fu:Nat) (Ad:Int → Option (Bool)) (x5:Plan) (Ai:Int) (Aa:(List Int)) (Ae:Int → Option (Bool)) (Ab:Int):Option (Bool) :=
  bif (decide (Ab < (Aa.length:Int))) then Qac (ix Aa Ab) fun Ac=>Qac (ix x5.fJ Ac) fun Ag=>Qac (ix Aa 0) fun Ah=>Qac (ix x5.fJ Ah) fun Af=>bif (Ag.fE != Af.fE) then some (false) else Ae (w64 (Ab + 1)) else Qi5 fu Ad Ai
def Qee (fu:Nat) (Ab:Int → Option (Bool)) (x5:Plan) (Ac:Int) (Aa:(List Int)):Nat → Int → Option (Bool)
  | 0=>fun _=>none
  | n + 1=>Qia fu Ab x5 Ac Aa (Qee fu Ab x5 Ac Aa n)
def Qjn (fu:Nat) (Ab:Int → Option (Bool)) (x5:Plan) (Ac:Int) (Aa:(List Int))  : Option (Bool) :=
  Qee fu Ab x5 Ac Aa fu 1
def Qh9 (fu:Nat)  (r1:Request) (x5:Plan) (Ae:Int) (Ad:Int → Option (Bool)) (Aa:Int):Option (Bool) :=
  bif (decide (Aa < Ae)) then Qac (Qj6 fu x5 Aa) fun Ab=>bif ((Ab.length:Int) == 0) then some (false) else Qac (Qke fu r1 x5 Aa) fun Ac=>bif (decide (Ac > r1.fQ.fV)) then some (false) else Qjn fu Ad x5 Aa Ab else some (true)
def Qb1 (fu:Nat)  (r1:Request) (x5:Plan) (Aa:Int):Nat → Int → Option (Bool)
  | 0=>fun _=>none
  | n + 1=>Qh9 fu r1 x5 Aa (Qb1 fu r1 x5 Aa n)
def Qjv (fu:Nat) (r1:Request) (x5:Plan):Option (Bool) :=
  Qac (Qmm fu x5.fU) fun Aa=>Qb1 fu r1 x5 Aa fu 0
def Qrs (fu:Nat) (r1:Request) (x5:Plan)  : Option (Int) :=
  Qac (Qcf fu r1) fun Aa=>Qac (Qog fu Aa x5) fun Ad=>bif (!Ad) then some (3) else Qac (Qn1 fu r1 x5) fun Ah=>bif (!Ah) then some (4) else Qac (Qoa fu r1 Aa x5) fun Ab=>bif (!Ab) then some (5) else Qac (Qnz fu r1 x5) fun Af=>bif (!Af) then some (6) else Qac (Ql7 fu r1 x5) fun Ae=>bif (!Ae) then some (7) else Qac (Qn9 fu r1 x5) fun Ag=>bif (!Ag) then some (8) else Qac (Qjv fu r1 x5) fun Ac=>bif (!Ac) then some (9) else some (0)
def Qsp (fu:Nat) (r1:Request) (x5:Plan):Option (Int) :=
  Qac (Qen fu r1) fun Aa=>bif (Aa != 0) then some (1) else Qac (Qrd fu x5) fun Ab=>bif (!Ab) then some (2) else Qac (Qn4 fu x5) fun Ac=>bif Ac then some (2) else Qrs fu r1 x5
def Qhp (fu:Nat) (r1:Request) (x5:Plan):Option (Bool) :=
  Qac (Qsp fu r1 x5) fun Aa=>some (Aa == 0)
def Qi4 (fu:Nat)  (r1:Request) (x5:Plan) (Ag:Plan) (k1:List Spot → Int → Option (Plan)) (Ab:List Spot) (Aa:Int):Option (Plan) :=
  bif (decide (Aa < (Ab.length:Int))) then Qac (ix x5.fU Aa) fun Af=>Qac (ix x5.fJ Aa) fun Ac=>Qac (Qhe fu r1 Ac) fun Ae=>Qac (ix Ab Aa) fun Ad=>k1 (Qhx Ab Aa ({ Ad with fX:=w64 ((w64 (r1.fQ.fW - Af.fX)) - Ae.fW) })) (w64 (Aa + 1)) else some (⟨Ag.fJ,Ab⟩:Plan)
def Qfg (fu:Nat)  (r1:Request) (x5:Plan) (Aa:Plan):Nat → List Spot → Int → Option (Plan)
  | 0=>fun _ _=>none
  | n + 1=>Qi4 fu r1 x5 Aa (Qfg fu r1 x5 Aa n)
def Qny (fu:Nat) (r1:Request) (x5:Plan):Option (Plan) :=
  Qac (Qmn fu x5) fun Aa=>Qac (Qhp fu r1 x5) fun Ab=>bif (!Ab) then some (Aa) else Qfg fu r1 x5 Aa fu Aa.fU 0
def Qnc (fu:Nat)  (a1:List Int) (b5:List Int) (k1:Int → Option (Bool)) (Aa:Int):Option (Bool) :=
  bif (decide (Aa < (a1.length:Int))) then Qac (ix a1 Aa) fun Ac=>Qac (ix b5 Aa) fun Ab=>bif (Ac != Ab) then some (false) else k1 (w64 (Aa + 1)) else some (true)
def Qgy (fu:Nat)  (a1:List Int) (b5:List Int):Nat → Int → Option (Bool)
  | 0=>fun _=>none
  | n + 1=>Qnc fu a1 b5 (Qgy fu a1 b5 n)
def Qq0 (fu:Nat) (a1:List Int) (b5:List Int):Option (Bool) :=
  bif ((a1.length:Int) != (b5.length:Int)) then some (false) else Qgy fu a1 b5 fu 0
def Qne (fu:Nat) (k4:Int → Option (Bool)) (Aa:Int)  : Option (Bool) :=
  k4 (w64 (Aa + 1))
def Qi9 (fu:Nat)  (a1:Plan) (b5:Plan) (k6:Int → Option (Bool)) (Aa:Int):Option (Bool) :=
  bif (decide (Aa < (a1.fU.length:Int))) then Qac (ix a1.fU Aa) fun Ab=>Qac (ix b5.fU Aa) fun Ac=>bif (!(decide (Ab = Ac))) then some (false) else k6 (w64 (Aa + 1)) else some (true)
def Qeh (fu:Nat)  (a1:Plan) (b5:Plan):Nat → Int → Option (Bool)
  | 0=>fun _=>none
  | n + 1=>Qi9 fu a1 b5 (Qeh fu a1 b5 n)
def Qjc (fu:Nat)  (a1:Plan) (b5:Plan) (k4:Int → Option (Bool)) (Aa:Int):Option (Bool) :=
  bif (decide (Aa < (a1.fJ.length:Int))) then Qac (ix a1.fJ Aa) fun Ab=>Qac (ix b5.fJ Aa) fun Ac=>bif (Ab.fO != Ac.fO) then some (false) else Qac (ix a1.fJ Aa) fun Ae=>Qac (ix b5.fJ Aa) fun Af=>bif (Ab.fE != Ac.fE) then some (false) else Qac (ix a1.fJ Aa) fun Ag=>Qac (ix b5.fJ Aa) fun Ah=>Qac (Qq0 fu Ab.fM Ac.fM) fun Ad=>bif (!Ad) then some (false) else Qne fu k4 Aa else Qeh fu a1 b5 fu 0
def Qem (fu:Nat)  (a1:Plan) (b5:Plan):Nat → Int → Option (Bool)
  | 0=>fun _=>none
  | n + 1=>Qjc fu a1 b5 (Qem fu a1 b5 n)
def Qnd (fu:Nat) (a1:Plan) (b5:Plan)  : Option (Bool) :=
  Qem fu a1 b5 fu 0
def Qdx (fu:Nat) (a1:Plan) (b5:Plan):Option (Bool) :=
  bif ((a1.fJ.length:Int) != (b5.fJ.length:Int)) then some (false) else bif ((a1.fU.length:Int) != (b5.fU.length:Int)) then some (false) else Qnd fu a1 b5
def Qox (fu:Nat)  (r1:Request) (x5:Plan) (Ag:Plan) (k1:List Spot → Int → Option (Plan)) (Ab:List Spot) (Aa:Int):Option (Plan) :=
  bif (decide (Aa < (Ab.length:Int))) then Qac (ix x5.fU Aa) fun Af=>Qac (ix x5.fJ Aa) fun Ac=>Qac (Qhe fu r1 Ac) fun Ae=>Qac (ix Ab Aa) fun Ad=>k1 (Qhx Ab Aa ({ Ad with fY:=w64 ((w64 (r1.fQ.fD - Af.fY)) - Ae.fD) })) (w64 (Aa + 1)) else some (⟨Ag.fJ,Ab⟩:Plan)
def Qho (fu:Nat)  (r1:Request) (x5:Plan) (Aa:Plan):Nat → List Spot → Int → Option (Plan)
  | 0=>fun _ _=>none
  | n + 1=>Qox fu r1 x5 Aa (Qho fu r1 x5 Aa n)
def Qsq (fu:Nat) (r1:Request) (x5:Plan):Option (Plan) :=
  Qac (Qmn fu x5) fun Aa=>Qac (Qhp fu r1 x5) fun Ab=>bif (!Ab) then some (Aa) else Qho fu r1 x5 Aa fu Aa.fU 0
end Go.Proofs.YthddjkokpfdbnaaGreat
