/- FnChecked: what the functions that it reaches compute,on plain data. Printed by gen.py. -/
import Derived.Test.YtkkfmjpbiimkbaaGreatS13
import Derived.Test.YtkkfmjpbiimkbaaGreatS15
set_option linter.unusedVariables false
namespace Go.Proofs.YtkkfmjpbiimkbaaGreat
open Go
def Qub (fu:Nat) (Aa:List U8):Option (Bool) :=
  some (decide (((Aa.length:Int)) > 1048576))

def Qq2 (fu:Nat) (k3:Int → Int → Option (Cur)) (Ad:List U8) (Ac:Int) (Aa:Int)  : Option (Cur) :=
  Qad (ix Ad Aa) fun Ab=>k3 (IntKind.wrap .i64 (((BitVec.ofInt (IntKind.bits .i64) (w64 ((w64 ((w64 (Ac * 131)) + (w64 Ab.n))) + 7)) &&& BitVec.ofInt (IntKind.bits .i64) 1073741823).toNat:Nat):Int)) (w64 (Aa + 1))

def Qn7 (fu:Nat)  (Aa:List U8) (k3:Int → Int → Option (Cur)) (Ac:Int) (Ab:Int):Option (Cur) :=
  bif (decide (Ab < ((Aa.length:Int)))) then bif (decide (Ab < 4000)) then Qq2 fu k3 Aa Ac Ab else some ((⟨Aa,0,Ac⟩:Cur)) else some ((⟨Aa,0,Ac⟩:Cur))
def Qgn (fu:Nat)  (Aa:List U8):Nat → Int → Int → Option (Cur)
  | 0=>fun _ _=>none
  | n + 1=>Qn7 fu Aa (Qgn fu Aa n)

def Qqa (fu:Nat) (Aa:List U8):Option (Cur) :=
  Qgn fu Aa fu (w64 (26583 + ((Aa.length:Int)))) 0

def Qg2 (fu:Nat) (c1:Cur):Option (Int × Cur) :=
  bif (decide (c1.fi < ((c1.fb.length:Int)))) then Qad (ix c1.fb c1.fi) fun Aa=>some (IntKind.wrap .i64 (((BitVec.ofInt (IntKind.bits .i64) (w64 ((IntKind.wrap .i64 (((BitVec.ofInt (IntKind.bits .i64) (IntKind.wrap .i64 (((BitVec.ofInt (IntKind.bits .i64) (Int.fdiv (w64 ((w64 (c1.fh * 6364136223846793005)) + 1442695040888963407)) (2 ^ (min 33 (IntKind.bits .i64)))) ^^^ BitVec.ofInt (IntKind.bits .i64) (Int.fdiv (w64 ((w64 (c1.fh * 6364136223846793005)) + 1442695040888963407)) (2 ^ (min 45 (IntKind.bits .i64))))).toNat:Nat):Int)) &&& BitVec.ofInt (IntKind.bits .i64) 255).toNat:Nat):Int)) + (w64 Aa.n))) &&& BitVec.ofInt (IntKind.bits .i64) 255).toNat:Nat):Int),(⟨c1.fb,w64 (c1.fi + 1),w64 ((w64 (c1.fh * 6364136223846793005)) + 1442695040888963407)⟩:Cur)) else some (IntKind.wrap .i64 (((BitVec.ofInt (IntKind.bits .i64) (IntKind.wrap .i64 (((BitVec.ofInt (IntKind.bits .i64) (Int.fdiv (w64 ((w64 (c1.fh * 6364136223846793005)) + 1442695040888963407)) (2 ^ (min 33 (IntKind.bits .i64)))) ^^^ BitVec.ofInt (IntKind.bits .i64) (Int.fdiv (w64 ((w64 (c1.fh * 6364136223846793005)) + 1442695040888963407)) (2 ^ (min 45 (IntKind.bits .i64))))).toNat:Nat):Int)) &&& BitVec.ofInt (IntKind.bits .i64) 255).toNat:Nat):Int),(⟨c1.fb,c1.fi,w64 ((w64 (c1.fh * 6364136223846793005)) + 1442695040888963407)⟩:Cur))

def Qaq (fu:Nat) (c1:Cur) (n7:Int):Option (Int × Cur) :=
  bif (decide (n7 ≤ 0)) then some (0,c1) else bif (decide (n7 ≤ 256)) then Qad (Qg2 fu c1) fun Ac=>Qad (Jco n7) fun Ag=>some (Int.tmod Ac.1 n7,(⟨c1.fb,Ac.2.fi,Ac.2.fh⟩:Cur)) else Qad (Qg2 fu c1) fun Ad=>Qad (Qg2 fu ((⟨c1.fb,Ad.2.fi,Ad.2.fh⟩:Cur))) fun Aa=>Qad (Qg2 fu ((⟨c1.fb,Aa.2.fi,Aa.2.fh⟩:Cur))) fun Ab=>Qad (Qg2 fu ((⟨c1.fb,Ab.2.fi,Ab.2.fh⟩:Cur))) fun Ae=>Qad (Jco n7) fun Af=>some (Int.tmod (w64 ((w64 ((w64 ((w64 (Ad.1 * 16777216)) + (w64 (Aa.1 * 65536)))) + (w64 (Ab.1 * 256)))) + Ae.1)) n7,(⟨c1.fb,Ae.2.fi,Ae.2.fh⟩:Cur))

def Qkr (fu:Nat) (c1:Cur) (n7:Int):Option (Bool × Cur) :=
  Qad (Qaq fu c1 n7) fun x9=>some (x9.1 == 0,(⟨c1.fb,x9.2.fi,x9.2.fh⟩:Cur))

def Qbw (fu:Nat) (c1:Cur) (Ab:List Int):Option (Int × Cur) :=
  Qad (Qaq fu c1 ((Ab.length:Int))) fun Aa=>Qad (ix Ab Aa.1) fun Ac=>some (Ac,(⟨c1.fb,Aa.2.fi,Aa.2.fh⟩:Cur))

def Qhc (fu:Nat) (Ae:Int → Int → List Pair → Int → Option (Request × Cur)) (Ab:Int) (Aa:Int) (Ac:Int) (Ad:List Pair):Option (Request × Cur) :=
  Ae Aa Ac Ad (w64 (Ab + 1))

def Qlg (fu:Nat) (k9:Int → Int → List Pair → Int → Option (Request × Cur)) (c1:Cur) (Ab:Int) (Ae:Int → Int → List Pair → Int → Option (Request × Cur)) (Af:Int) (Ag:Int) (Ad:List Pair) (Aa:Int):Option (Request × Cur) :=
  bif (decide (Aa ≤ Ab)) then bif (Ab == Aa) then Qad (Qh3 16 Ad (([(⟨Ab,Ab⟩:Pair)]:List Pair))) fun Ai=>Qhc fu Ae Aa Af Ag Ai else Qad (Qkr fu ((⟨c1.fb,Af,Ag⟩:Cur)) 2) fun Ac=>bif Ac.1 then Qad (Qh3 16 Ad (([(⟨Ab,Aa⟩:Pair),(⟨Aa,Ab⟩:Pair)]:List Pair))) fun Ah=>Qhc fu Ae Aa Ac.2.fi Ac.2.fh Ah else Qhc fu Ae Aa Ac.2.fi Ac.2.fh Ad else k9 Af Ag Ad (w64 (Ab + 1))
def Qe6 (fu:Nat) (k9:Int → Int → List Pair → Int → Option (Request × Cur)) (c1:Cur) (Aa:Int):Nat → Int → Int → List Pair → Int → Option (Request × Cur)
  | 0=>fun _ _ _ _=>none
  | n + 1=>Qlg fu k9 c1 Aa (Qe6 fu k9 c1 Aa n)

def Qj4 (fu:Nat) (Af:Int → Int → List Item → Int → Int → Option (Request × Cur)) (Aa:Int) (Ad:Int) (Ac:Int) (Ab:List Item) (Ae:Int):Option (Request × Cur) :=
  Af Ad Ac Ab Ae (w64 (Aa + 1))

def Qhd (fu:Nat) (Ag:Int → Int → List Item → Int → Int → Option (Request × Cur)) (Ad:List Item) (Aa:Int) (Ac:Int) (Af:Int) (Ae:Int) (Ab:Item):Option (Request × Cur) :=
  bif (decide ((w64 (Aa + Ab.fCount)) ≤ 12)) then Qad (Qh3 56 Ad (([Ab]:List Item))) fun Ah=>Qj4 fu Ag Ac Af Ae Ah (w64 (Aa + Ab.fCount)) else Qj4 fu Ag Ac Af Ae Ad Aa

def Qoc (fu:Nat) (Ag:Int → Int → List Item → Int → Int → Option (Request × Cur)) (c1:Cur) (Ae:List Item) (Af:Int) (Ad:Int) (Ah:Int) (Ai:Int) (Aa:Item):Option (Request × Cur) :=
  Qad (Qkr fu ((⟨c1.fb,Ah,Ai⟩:Cur)) 3) fun Ab=>bif Ab.1 then Qad (Qaq fu ((⟨c1.fb,Ab.2.fi,Ab.2.fh⟩:Cur)) 8) fun Ac=>Qhd fu Ag Ae Af Ad Ac.2.fi Ac.2.fh ((⟨Aa.fId,5,5,w64 (4 + Ac.1),Aa.fGram,Aa.fClass,Aa.fCount⟩:Item)) else Qhd fu Ag Ae Af Ad Ab.2.fi Ab.2.fh Aa

def Qku (fu:Nat)  (c1:Cur) (Al:Int × Cur) (Ar:Int × Cur) (Au:Int × Cur) (Ap:Int × Cur) (At:Int × Cur) (Aj:Int × Cur) (Ao:List Pair) (Aq:List Typ) (As:Int × Cur) (Av:Int → Int → List Item → Int → Int → Option (Request × Cur)) (Ak:Int) (Ah:Int) (Ai:List Item) (Am:Int) (Af:Int):Option (Request × Cur) :=
  bif (decide (Af < As.1)) then Qad (Qaq fu ((⟨c1.fb,Ak,Ah⟩:Cur)) 10) fun Ac=>Qad (Qaq fu ((⟨c1.fb,Ac.2.fi,Ac.2.fh⟩:Cur)) 10) fun Ag=>Qad (Qaq fu ((⟨c1.fb,Ag.2.fi,Ag.2.fh⟩:Cur)) 10) fun Ab=>Qad (Qaq fu ((⟨c1.fb,Ab.2.fi,Ab.2.fh⟩:Cur)) 60) fun Aa=>Qad (Qaq fu ((⟨c1.fb,Aa.2.fi,Aa.2.fh⟩:Cur)) (w64 (1 + Aj.1))) fun Ad=>Qad (Qaq fu ((⟨c1.fb,Ad.2.fi,Ad.2.fh⟩:Cur)) 4) fun Ae=>Qoc fu Av c1 Ai Am Af Ae.2.fi Ae.2.fh ((⟨w64 (3 * Af),w64 (1 + Ac.1),w64 (1 + Ag.1),w64 (1 + Ab.1),w64 (1 + Aa.1),Ad.1,w64 (1 + Ae.1)⟩:Item)) else some ((⟨Al.1,(⟨Ar.1,Au.1,Ap.1,At.1⟩:Pallet),w64 (1 + Aj.1),Ao,Aq,7,Ai⟩:Request),(⟨c1.fb,Ak,Ah⟩:Cur))
def Qcy (fu:Nat)  (c1:Cur) (Ab:Int × Cur) (Ag:Int × Cur) (Ae:Int × Cur) (Ai:Int × Cur) (Aa:Int × Cur) (Ad:Int × Cur) (Ac:List Pair) (Af:List Typ) (Ah:Int × Cur):Nat → Int → Int → List Item → Int → Int → Option (Request × Cur)
  | 0=>fun _ _ _ _ _=>none
  | n + 1=>Qku fu c1 Ab Ag Ae Ai Aa Ad Ac Af Ah (Qcy fu c1 Ab Ag Ae Ai Aa Ad Ac Af Ah n)

def Qkh (fu:Nat)  (c1:Cur) (Al:Int × Cur) (As:Int × Cur) (Av:Int × Cur) (Ap:Int × Cur) (At:Int × Cur) (Aq:Int × Cur) (Am:List Pair) (Au:Int × Cur) (Ar:Int → Int → List Typ → Int → Option (Request × Cur)) (Ai:Int) (Aj:Int) (Ak:List Typ) (Ad:Int):Option (Request × Cur) :=
  bif (decide (Ad < Au.1)) then Qad (Qaq fu ((⟨c1.fb,Ai,Aj⟩:Cur)) 9) fun Ae=>Qad (Qaq fu ((⟨c1.fb,Ae.2.fi,Ae.2.fh⟩:Cur)) 8) fun Ac=>Qad (Qaq fu ((⟨c1.fb,Ac.2.fi,Ac.2.fh⟩:Cur)) 9) fun Ah=>Qad (Qaq fu ((⟨c1.fb,Ah.2.fi,Ah.2.fh⟩:Cur)) 5) fun Ab=>Qad (Qaq fu ((⟨c1.fb,Ab.2.fi,Ab.2.fh⟩:Cur)) 90) fun Aa=>Qad (Qaq fu ((⟨c1.fb,Aa.2.fi,Aa.2.fh⟩:Cur)) 20) fun Ag=>Qad (Qh3 56 Ak (([(⟨w64 (10 + Ad),w64 (4 + Ae.1),w64 (3 + Ac.1),w64 (3 + Ah.1),Ab.1,w64 (20 + Aa.1),w64 (1 + Ag.1)⟩:Typ)]:List Typ))) fun Ao=>Ar Ag.2.fi Ag.2.fh Ao (w64 (Ad + 1)) else Qad (Qaq fu ((⟨c1.fb,Ai,Aj⟩:Cur)) 6) fun Af=>Qcy fu c1 Al As Av Ap At Aq Am Ak Af fu Af.2.fi Af.2.fh (([]:List Item)) 0 0
def Qgf (fu:Nat)  (c1:Cur) (Ab:Int × Cur) (Ag:Int × Cur) (Af:Int × Cur) (Ah:Int × Cur) (Aa:Int × Cur) (Ae:Int × Cur) (Ac:List Pair) (Ad:Int × Cur):Nat → Int → Int → List Typ → Int → Option (Request × Cur)
  | 0=>fun _ _ _ _=>none
  | n + 1=>Qkh fu c1 Ab Ag Af Ah Aa Ae Ac Ad (Qgf fu c1 Ab Ag Af Ah Aa Ae Ac Ad n)

def Qn8 (fu:Nat) (c1:Cur) (Ad:Int × Cur) (Ai:Int × Cur) (Ah:Int × Cur) (Ak:Int × Cur) (Ac:Int × Cur) (Af:Int × Cur) (Ae:List Pair) (Ag:Int) (Ab:Int) (Aj:List Typ):Option (Request × Cur) :=
  Qad (Qaq fu ((⟨c1.fb,Ag,Ab⟩:Cur)) 5) fun Aa=>Qgf fu c1 Ad Ai Ah Ak Ac Af Ae Aa fu Aa.2.fi Aa.2.fh Aj 0

def Qlu (fu:Nat)  (c1:Cur) (Aj:Int × Cur) (Am:Int × Cur) (Al:Int × Cur) (Ao:Int × Cur) (Ai:Int × Cur) (Af:Int × Cur) (k9:Int → Int → List Pair → Int → Option (Request × Cur)) (Ad:Int) (Ag:Int) (Ae:List Pair) (Ah:Int):Option (Request × Cur) :=
  bif (decide (Ah < (w64 (1 + Af.1)))) then Qe6 fu k9 c1 Ah fu Ad Ag Ae 0 else Qad (Qaq fu ((⟨c1.fb,Ad,Ag⟩:Cur)) 8) fun Ab=>Qad (Qbw fu ((⟨c1.fb,Ab.2.fi,Ab.2.fh⟩:Cur)) (([60,100,140]:List Int))) fun Ac=>Qad (Qbw fu ((⟨c1.fb,Ac.2.fi,Ac.2.fh⟩:Cur)) (([9,20]:List Int))) fun Aa=>Qad (Qh3 56 (([]:List Typ)) (([(⟨7,12,10,11,Ab.1,Ac.1,Aa.1⟩:Typ)]:List Typ))) fun Ak=>Qn8 fu c1 Aj Am Al Ao Ai Af Ae Aa.2.fi Aa.2.fh Ak
def Qdf (fu:Nat)  (c1:Cur) (Ab:Int × Cur) (Ae:Int × Cur) (Ad:Int × Cur) (Af:Int × Cur) (Aa:Int × Cur) (Ac:Int × Cur):Nat → Int → Int → List Pair → Int → Option (Request × Cur)
  | 0=>fun _ _ _ _=>none
  | n + 1=>Qlu fu c1 Ab Ae Ad Af Aa Ac (Qdf fu c1 Ab Ae Ad Af Aa Ac n)

def Qmj (fu:Nat) (c1:Cur):Option (Request × Cur) :=
  Qad (Qaq fu c1 2) fun Ab=>Qad (Qbw fu ((⟨c1.fb,Ab.2.fi,Ab.2.fh⟩:Cur)) (([20,30,37]:List Int))) fun Ae=>Qad (Qbw fu ((⟨c1.fb,Ae.2.fi,Ae.2.fh⟩:Cur)) (([20,25,40]:List Int))) fun Ad=>Qad (Qbw fu ((⟨c1.fb,Ad.2.fi,Ad.2.fh⟩:Cur)) (([15,24,50]:List Int))) fun Af=>Qad (Qbw fu ((⟨c1.fb,Af.2.fi,Af.2.fh⟩:Cur)) (([150,400,5000]:List Int))) fun Aa=>Qad (Qaq fu ((⟨c1.fb,Aa.2.fi,Aa.2.fh⟩:Cur)) 4) fun Ac=>Qdf fu c1 Ab Ae Ad Af Aa Ac fu Ac.2.fi Ac.2.fh (([]:List Pair)) 0

def Qar (fu:Nat) (x1:Int) (Ab:Int) (Aa:Int):Option (Bool) :=
  bif (decide (x1 ≥ Ab)) then some (decide (x1 ≤ Aa)) else some (false)

def Qd6 (fu:Nat) (x1:Int):Option (Bool) :=
  Qad (Qar fu x1 1 2000) fun x2=>some (x2)

def Qgm (fu:Nat) (x1:Pallet):Option (Bool) :=
  Qad (Qd6 fu x1.fW) fun x5=>bif x5 then Qad (Qd6 fu x1.fD) fun Aa=>bif Aa then Qad (Qd6 fu x1.fH) fun Ac=>bif Ac then Qad (Qar fu x1.fGram 1 100000) fun Ab=>some (Ab) else some (false) else some (false) else some (false)

def Qnl (fu:Nat) (x1:Int):Option (Bool) :=
  Qad (Qar fu x1 0 999) fun x2=>some (x2)

def Qrg (fu:Nat) (x1:Typ):Option (Bool) :=
  Qad (Qnl fu x1.fId) fun x5=>bif x5 then Qad (Qd6 fu x1.fW) fun Ac=>bif Ac then Qad (Qd6 fu x1.fH) fun Ab=>bif Ab then Qad (Qd6 fu x1.fD) fun Af=>bif Af then Qad (Qar fu x1.fTare 0 100000) fun Aa=>bif Aa then Qad (Qar fu x1.fGram 1 100000) fun Ad=>bif Ad then Qad (Qar fu x1.fCost 0 100000) fun Ae=>some (Ae) else some (false) else some (false) else some (false) else some (false) else some (false) else some (false)

def Qq6 (fu:Nat) (x1:Item):Option (Bool) :=
  Qad (Qnl fu x1.fId) fun x5=>bif x5 then Qad (Qd6 fu x1.fW) fun Ac=>bif Ac then Qad (Qd6 fu x1.fH) fun Ab=>bif Ab then Qad (Qd6 fu x1.fD) fun Af=>bif Af then Qad (Qar fu x1.fGram 1 100000) fun Aa=>bif Aa then Qad (Qar fu x1.fClass 0 3) fun Ad=>bif Ad then Qad (Qar fu x1.fCount 1 6) fun Ae=>some (Ae) else some (false) else some (false) else some (false) else some (false) else some (false) else some (false)

def Qmp (fu:Nat) (k4:Int → Option (Bool)) (Aa:Int)  : Option (Bool) :=
  k4 (w64 (Aa + 1))

def Qjb (fu:Nat)  (r1:Request) (k7:Int → Int → Option (Bool)) (Ab:Int) (Aa:Int):Option (Bool) :=
  bif (decide (Aa < ((r1.fItems.length:Int)))) then Qad (ix r1.fItems Aa) fun Ac=>Qad (Qq6 fu Ac) fun Ad=>bif (!Ad) then some (false) else Qad (ix r1.fItems Aa) fun Ae=>k7 (w64 (Ab + Ac.fCount)) (w64 (Aa + 1)) else some (decide (Ab ≤ 12))
def Qdp (fu:Nat)  (r1:Request):Nat → Int → Int → Option (Bool)
  | 0=>fun _ _=>none
  | n + 1=>Qjb fu r1 (Qdp fu r1 n)

def Qjd (fu:Nat)  (r1:Request) (k6:Int → Option (Bool)) (Aa:Int):Option (Bool) :=
  bif (decide (Aa < ((r1.fTypes.length:Int)))) then Qad (ix r1.fTypes Aa) fun Ab=>Qad (Qrg fu Ab) fun Ac=>bif (!Ac) then some (false) else k6 (w64 (Aa + 1)) else Qdp fu r1 fu 0 0
def Qds (fu:Nat)  (r1:Request):Nat → Int → Option (Bool)
  | 0=>fun _=>none
  | n + 1=>Qjd fu r1 (Qds fu r1 n)

def Qje (fu:Nat)  (r1:Request) (k4:Int → Option (Bool)) (Aa:Int):Option (Bool) :=
  bif (decide (Aa < ((r1.fPairs.length:Int)))) then Qad (ix r1.fPairs Aa) fun Ab=>Qad (Qar fu Ab.fA 0 3) fun Ac=>bif (!Ac) then some (false) else Qad (ix r1.fPairs Aa) fun Ae=>Qad (Qar fu Ab.fB 0 3) fun Ad=>bif (!Ad) then some (false) else Qmp fu k4 Aa else Qds fu r1 fu 0
def Qdq (fu:Nat)  (r1:Request):Nat → Int → Option (Bool)
  | 0=>fun _=>none
  | n + 1=>Qje fu r1 (Qdq fu r1 n)

def Qmu (fu:Nat) (r1:Request)  : Option (Bool) :=
  Qdq fu r1 fu 0

def Qnn (fu:Nat) (r1:Request):Option (Bool) :=
  Qad (Qar fu r1.fWay 0 1) fun Ab=>bif (!Ab) then some (false) else Qad (Qgm fu r1.fPallet) fun Ae=>bif (!Ae) then some (false) else Qad (Qar fu r1.fClasses 1 4) fun Aa=>bif (!Aa) then some (false) else bif (decide (((r1.fPairs.length:Int)) > 16)) then some (false) else Qad (Qar fu ((r1.fTypes.length:Int)) 1 5) fun Ac=>bif (!Ac) then some (false) else Qad (Qnl fu r1.fMaster) fun Ad=>bif (!Ad) then some (false) else bif (decide (((r1.fItems.length:Int)) > 8)) then some (false) else Qmu fu r1

def Qiw (fu:Nat)  (r1:Request) (k1:Int → Option (Typ × Bool)) (Aa:Int):Option (Typ × Bool) :=
  bif (decide (Aa < ((r1.fTypes.length:Int)))) then Qad (ix r1.fTypes Aa) fun Ab=>bif (Ab.fId == r1.fMaster) then Qad (ix r1.fTypes Aa) fun Ac=>some (Ab,true) else k1 (w64 (Aa + 1)) else some ((⟨0,0,0,0,0,0,0⟩:Typ),false)
def Qfk (fu:Nat)  (r1:Request):Nat → Int → Option (Typ × Bool)
  | 0=>fun _=>none
  | n + 1=>Qiw fu r1 (Qfk fu r1 n)

def Qfd (fu:Nat) (r1:Request):Option (Typ × Bool) :=
  Qfk fu r1 fu 0

def Qlt (fu:Nat) (k3:Int → Option (Bool)) (r1:Request) (Aa:Int) (k4:Int → Option (Bool)) (Ab:Int):Option (Bool) :=
  bif (decide (Ab < Aa)) then Qad (ix r1.fTypes Aa) fun Ac=>Qad (ix r1.fTypes Ab) fun Ad=>bif (Ac.fId == Ad.fId) then some (false) else k4 (w64 (Ab + 1)) else k3 (w64 (Aa + 1))
def Qd4 (fu:Nat) (k3:Int → Option (Bool)) (r1:Request) (Aa:Int):Nat → Int → Option (Bool)
  | 0=>fun _=>none
  | n + 1=>Qlt fu k3 r1 Aa (Qd4 fu k3 r1 Aa n)

def Qlv (fu:Nat) (k7:Int → Option (Bool)) (r1:Request) (Aa:Int) (k8:Int → Option (Bool)) (Ab:Int):Option (Bool) :=
  bif (decide (Ab < Aa)) then Qad (ix r1.fItems Aa) fun Ac=>Qad (ix r1.fItems Ab) fun Ad=>bif (Ac.fId == Ad.fId) then some (false) else k8 (w64 (Ab + 1)) else k7 (w64 (Aa + 1))
def Qeb (fu:Nat) (k7:Int → Option (Bool)) (r1:Request) (Aa:Int):Nat → Int → Option (Bool)
  | 0=>fun _=>none
  | n + 1=>Qlv fu k7 r1 Aa (Qeb fu k7 r1 Aa n)

def Qom (fu:Nat) (Ab:Int → Option (Bool)) (Aa:Int)  : Option (Bool) :=
  Ab (w64 (Aa + 1))

def Qko (fu:Nat)  (r1:Request) (Ad:Int → Option (Bool)) (Aa:Int):Option (Bool) :=
  bif (decide (Aa < ((r1.fPairs.length:Int)))) then Qad (ix r1.fPairs Aa) fun Ab=>bif (decide (Ab.fA ≥ r1.fClasses)) then some (false) else Qad (ix r1.fPairs Aa) fun Ae=>bif (decide (Ab.fB ≥ r1.fClasses)) then some (false) else Qom fu Ad Aa else Qad (Qfd fu r1) fun Ac=>some (Ac.2)
def Qdg (fu:Nat)  (r1:Request):Nat → Int → Option (Bool)
  | 0=>fun _=>none
  | n + 1=>Qko fu r1 (Qdg fu r1 n)

def Qkn (fu:Nat)  (r1:Request) (k7:Int → Option (Bool)) (Aa:Int):Option (Bool) :=
  bif (decide (Aa < ((r1.fItems.length:Int)))) then Qad (ix r1.fItems Aa) fun Ab=>bif (decide (Ab.fClass ≥ r1.fClasses)) then some (false) else Qeb fu k7 r1 Aa fu 0 else Qdg fu r1 fu 0
def Qbo (fu:Nat)  (r1:Request):Nat → Int → Option (Bool)
  | 0=>fun _=>none
  | n + 1=>Qkn fu r1 (Qbo fu r1 n)

def Qlo (fu:Nat)  (r1:Request) (k3:Int → Option (Bool)) (Aa:Int):Option (Bool) :=
  bif (decide (Aa < ((r1.fTypes.length:Int)))) then Qd4 fu k3 r1 Aa fu 0 else Qbo fu r1 fu 0
def Qbu (fu:Nat)  (r1:Request):Nat → Int → Option (Bool)
  | 0=>fun _=>none
  | n + 1=>Qlo fu r1 (Qbu fu r1 n)

def Qpc (fu:Nat) (r1:Request):Option (Bool) :=
  Qbu fu r1 fu 0

def Qmc (fu:Nat) (k3:Int → Option (Bool)) (Aa:Int)  : Option (Bool) :=
  k3 (w64 (Aa + 1))

def Qmx (fu:Nat)  (Ab:List Pair) (a5:Int) (b6:Int) (k3:Int → Option (Bool)) (Aa:Int):Option (Bool) :=
  bif (decide (Aa < ((Ab.length:Int)))) then Qad (ix Ab Aa) fun Ac=>bif (Ac.fA == a5) then Qad (ix Ab Aa) fun Ad=>bif (Ac.fB == b6) then some (true) else Qmc fu k3 Aa else Qmc fu k3 Aa else some (false)
def Qfx (fu:Nat)  (Aa:List Pair) (a5:Int) (b6:Int):Nat → Int → Option (Bool)
  | 0=>fun _=>none
  | n + 1=>Qmx fu Aa a5 b6 (Qfx fu Aa a5 b6 n)

def Qfg (fu:Nat) (Aa:List Pair) (a5:Int) (b6:Int):Option (Bool) :=
  Qfx fu Aa a5 b6 fu 0

def Qjl (fu:Nat) (Aa:Int → Option (Bool)) (Ab:Int)  : Option (Bool) :=
  Aa (w64 (Ab + 1))

def Qlz (fu:Nat) (k9:Int → Option (Bool)) (Ac:List Pair) (Aj:Int) (Ab:Int) (Ad:Int → Option (Bool)) (Aa:Int):Option (Bool) :=
  bif (decide (Aa < Aj)) then bif (Ab == Aa) then Qad (Qfg fu Ac Ab Ab) fun Ah=>bif (!Ah) then some (false) else Qad (Qfg fu Ac Ab Aa) fun Ae=>Qad (Qfg fu Ac Aa Ab) fun Ag=>bif (!(Ae == Ag)) then some (false) else Qjl fu Ad Aa else Qad (Qfg fu Ac Ab Aa) fun Ai=>Qad (Qfg fu Ac Aa Ab) fun Af=>bif (!(Ai == Af)) then some (false) else Qjl fu Ad Aa else k9 (w64 (Ab + 1))
def Qea (fu:Nat) (k9:Int → Option (Bool)) (Ab:List Pair) (Aa:Int) (Ac:Int):Nat → Int → Option (Bool)
  | 0=>fun _=>none
  | n + 1=>Qlz fu k9 Ab Aa Ac (Qea fu k9 Ab Aa Ac n)

def Qky (fu:Nat)  (Ac:List Pair) (Aa:Int) (k9:Int → Option (Bool)) (Ab:Int):Option (Bool) :=
  bif (decide (Ab < Aa)) then Qea fu k9 Ac Aa Ab fu 0 else some (true)
def Qdj (fu:Nat)  (Ab:List Pair) (Aa:Int):Nat → Int → Option (Bool)
  | 0=>fun _=>none
  | n + 1=>Qky fu Ab Aa (Qdj fu Ab Aa n)

def Qph (fu:Nat) (Ab:List Pair) (Aa:Int):Option (Bool) :=
  Qad (Qar fu Aa 1 4) fun x6=>bif (!x6) then some (false) else Qdj fu Ab Aa fu 0

def Qi4 (fu:Nat)  (n1:Int) (k1:List Int → Int → Option ((List Int))) (Ab:List Int) (Aa:Int):Option ((List Int)) :=
  bif (decide (Aa < n1)) then Qad (Qh3 8 Ab (([Aa]:List Int))) fun Ac=>k1 Ac (w64 (Aa + 1)) else some (Ab)
def Qfl (fu:Nat)  (n1:Int):Nat → List Int → Int → Option ((List Int))
  | 0=>fun _ _=>none
  | n + 1=>Qi4 fu n1 (Qfl fu n1 n)

def Qj7 (fu:Nat) (n1:Int):Option ((List Int)) :=
  Qfl fu n1 fu (([]:List Int)) 0

def Qha (fu:Nat) (k3:List Int → Int → Int → Option ((List Int))) (Ah:List Int) (Aj:Bool) (Ac:(List Int)) (Ae:(List Int)) (Ad:List Int) (Aa:Int) (Ab:Int)  : Option ((List Int)) :=
  bif (Ab == ((Ae.length:Int))) then Qad (ix Ac Aa) fun Ar=>Qad (Qh3 8 Ad (([Ar]:List Int))) fun Av=>k3 Av (w64 (Aa + 1)) Ab else bif (Aa == ((Ac.length:Int))) then Qad (ix Ae Ab) fun At=>Qad (Qh3 8 Ad (([At]:List Int))) fun Ap=>k3 Ap Aa (w64 (Ab + 1)) else Qad (ix Ae Ab) fun Ag=>Qad (ix Ah Ag) fun Ai=>Qad (ix Ac Aa) fun Af=>Qad (ix Ah Af) fun Ak=>bif (decide (Ai < Ak)) then bif (!Aj) then Qad (ix Ae Ab) fun Be=>Qad (Qh3 8 Ad (([Ag]:List Int))) fun Au=>k3 Au Aa (w64 (Ab + 1)) else Qad (ix Ae Ab) fun Bk=>Qad (ix Ah Ag) fun Bj=>Qad (ix Ac Aa) fun Bf=>Qad (ix Ah Af) fun Ax=>bif (decide (Ai > Ak)) then bif Aj then Qad (ix Ae Ab) fun Bb=>Qad (Qh3 8 Ad (([Ag]:List Int))) fun Am=>k3 Am Aa (w64 (Ab + 1)) else Qad (ix Ac Aa) fun Bg=>Qad (Qh3 8 Ad (([Af]:List Int))) fun As=>k3 As (w64 (Aa + 1)) Ab else Qad (ix Ac Aa) fun Bi=>Qad (Qh3 8 Ad (([Af]:List Int))) fun Aw=>k3 Aw (w64 (Aa + 1)) Ab else Qad (ix Ae Ab) fun Ba=>Qad (ix Ah Ag) fun Bh=>Qad (ix Ac Aa) fun Bd=>Qad (ix Ah Af) fun Bc=>bif (decide (Ai > Ak)) then bif Aj then Qad (ix Ae Ab) fun Bl=>Qad (Qh3 8 Ad (([Ag]:List Int))) fun Aq=>k3 Aq Aa (w64 (Ab + 1)) else Qad (ix Ac Aa) fun Ay=>Qad (Qh3 8 Ad (([Af]:List Int))) fun Al=>k3 Al (w64 (Aa + 1)) Ab else Qad (ix Ac Aa) fun Az=>Qad (Qh3 8 Ad (([Af]:List Int))) fun Ao=>k3 Ao (w64 (Aa + 1)) Ab

def Qlc (fu:Nat)  (Af:List Int) (Ag:Bool) (Aa:(List Int)) (Ae:(List Int)) (k3:List Int → Int → Int → Option ((List Int))) (Ac:List Int) (Ad:Int) (Ab:Int):Option ((List Int)) :=
  bif (decide (Ad < ((Aa.length:Int)))) then Qha fu k3 Af Ag Aa Ae Ac Ad Ab else bif (decide (Ab < ((Ae.length:Int)))) then Qha fu k3 Af Ag Aa Ae Ac Ad Ab else some (Ac)
def Qcn (fu:Nat)  (Ac:List Int) (Ad:Bool) (Ab:(List Int)) (Aa:(List Int)):Nat → List Int → Int → Int → Option ((List Int))
  | 0=>fun _ _ _=>none
  | n + 1=>Qlc fu Ac Ad Ab Aa (Qcn fu Ac Ad Ab Aa n)

def Qrm (fu:Nat) (self:List Int → List Int → Bool → Option ((List Int))) (Ab:List Int) (Aa:List Int) (Ac:Bool):Option ((List Int)) :=
  bif (decide (((Aa.length:Int)) < 2)) then Qad (Qh3 8 (([]:List Int)) Aa) fun Ae=>some (Ae) else Qad (sls Aa 0 (w64 (Int.tdiv ((Aa.length:Int)) 2))) fun Ag=>Qad (self Ab Ag Ac) fun Ad=>Qad (sls Aa (w64 (Int.tdiv ((Aa.length:Int)) 2)) (Aa.length:Int)) fun Af=>Qad (self Ab Af Ac) fun Ah=>Qcn fu Ab Ac Ad Ah fu (([]:List Int)) 0 0
def Qh7 (fu:Nat):Nat → List Int → List Int → Bool → Option ((List Int))
  | 0=>fun _ _ _=>none
  | n + 1=>Qrm fu (Qh7 fu n)
def Qpk (fu:Nat) (Ab:List Int) (Ac:List Int) (Aa:Bool):Option ((List Int)):=Qh7 fu fu Ab Ac Aa

def Qon (fu:Nat) (Aa:List Int):Option ((List Int)) :=
  Qad (Qj7 fu ((Aa.length:Int))) fun x5=>Qad (Qpk fu Aa x5 false) fun Ab=>some (Ab)

def Qmf (fu:Nat) (Aa:Int) (h2:Int) (d3:Int):Option ((List Int)) :=
  Qad (Qon fu (([Aa,h2,d3]:List Int))) fun x9=>Qad (ix x9 0) fun Af=>Qad (ix (([Aa,h2,d3]:List Int)) Af) fun Ag=>Qad (ix x9 1) fun Ab=>Qad (ix (([Aa,h2,d3]:List Int)) Ab) fun Ad=>Qad (ix x9 2) fun Ac=>Qad (ix (([Aa,h2,d3]:List Int)) Ac) fun Ae=>some (([Ag,Ad,Ae]:List Int))

def Qp4 (fu:Nat) (x1:Item) (t2:Typ):Option (Bool) :=
  Qad (Qmf fu x1.fW x1.fH x1.fD) fun Aa=>Qad (Qmf fu t2.fW t2.fH t2.fD) fun Ab=>Qad (ix Aa 0) fun Ad=>Qad (ix Ab 0) fun Ae=>bif (decide (Ad ≤ Ae)) then Qad (ix Aa 1) fun Af=>Qad (ix Ab 1) fun Ag=>bif (decide (Af ≤ Ag)) then Qad (ix Aa 2) fun Ac=>Qad (ix Ab 2) fun Ah=>bif (decide (Ac ≤ Ah)) then some (decide (x1.fGram ≤ t2.fGram)) else some (false) else some (false) else some (false)

def Qqo (fu:Nat) (k4:Int → Option (Int)) (Aa:Int)  : Option (Int) :=
  k4 (w64 (Aa + 1))

def Qod (fu:Nat)  (r1:Request) (k4:Int → Option (Int)) (Ab:Int):Option (Int) :=
  bif (decide (Ab < ((r1.fTypes.length:Int)))) then Qad (ix r1.fTypes Ab) fun Aa=>bif (decide (Aa.fW > r1.fPallet.fW)) then some (6) else bif (decide (Aa.fD > r1.fPallet.fD)) then some (6) else bif (decide (Aa.fH > r1.fPallet.fH)) then some (6) else bif (decide ((w64 (Aa.fTare + Aa.fGram)) > r1.fPallet.fGram)) then some (6) else Qqo fu k4 Ab else some (0)
def Qfm (fu:Nat)  (r1:Request):Nat → Int → Option (Int)
  | 0=>fun _=>none
  | n + 1=>Qod fu r1 (Qfm fu r1 n)

def Qoi (fu:Nat)  (r1:Request) (Ad:Typ × Bool) (k1:Int → Option (Int)) (Aa:Int):Option (Int) :=
  bif (decide (Aa < ((r1.fItems.length:Int)))) then Qad (ix r1.fItems Aa) fun Ac=>Qad (Qp4 fu Ac Ad.1) fun Ab=>bif (!Ab) then some (5) else k1 (w64 (Aa + 1)) else Qfm fu r1 fu 0
def Qgq (fu:Nat)  (r1:Request) (Aa:Typ × Bool):Nat → Int → Option (Int)
  | 0=>fun _=>none
  | n + 1=>Qoi fu r1 Aa (Qgq fu r1 Aa n)

def Qem (fu:Nat) (r1:Request):Option (Int) :=
  Qad (Qnn fu r1) fun Aa=>bif (!Aa) then some (2) else Qad (Qpc fu r1) fun Ad=>bif (!Ad) then some (3) else Qad (Qph fu r1.fPairs r1.fClasses) fun Ac=>bif (!Ac) then some (4) else Qad (Qfd fu r1) fun Ab=>Qgq fu r1 Ab fu 0

def Ql5 (fu:Nat) (k3:List Item → Int → Option (Request × Cur)) (Aa:Int) (Ab:List Item):Option (Request × Cur) :=
  k3 Ab (w64 (Aa + 1))

def Qm1 (fu:Nat)  (c1:Cur) (Aa:Request × Cur) (Ae:Typ × Bool) (k3:List Item → Int → Option (Request × Cur)) (Ac:List Item) (Ab:Int):Option (Request × Cur) :=
  bif (decide (Ab < ((Aa.1.fItems.length:Int)))) then Qad (ix Aa.1.fItems Ab) fun Ad=>Qad (Qp4 fu Ad Ae.1) fun Ag=>bif Ag then Qad (ix Aa.1.fItems Ab) fun Ah=>Qad (Qh3 56 Ac (([Ad]:List Item))) fun Af=>Ql5 fu k3 Ab Af else Ql5 fu k3 Ab Ac else some ((⟨Aa.1.fWay,(⟨30,25,24,400⟩:Pallet),Aa.1.fClasses,Aa.1.fPairs,Aa.1.fTypes,Aa.1.fMaster,Ac⟩:Request),(⟨c1.fb,Aa.2.fi,Aa.2.fh⟩:Cur))
def Qfy (fu:Nat)  (c1:Cur) (Aa:Request × Cur) (Ab:Typ × Bool):Nat → List Item → Int → Option (Request × Cur)
  | 0=>fun _ _=>none
  | n + 1=>Qm1 fu c1 Aa Ab (Qfy fu c1 Aa Ab n)

def Qre (fu:Nat) (c1:Cur):Option (Request × Cur) :=
  Qad (Qmj fu c1) fun Aa=>Qad (Qem fu Aa.1) fun Ab=>bif (Ab != 0) then Qad (Qfd fu ((⟨Aa.1.fWay,(⟨30,25,24,400⟩:Pallet),Aa.1.fClasses,Aa.1.fPairs,Aa.1.fTypes,Aa.1.fMaster,Aa.1.fItems⟩:Request))) fun Ac=>Qfy fu c1 Aa Ac fu (([]:List Item)) 0 else some (Aa.1,(⟨c1.fb,Aa.2.fi,Aa.2.fh⟩:Cur))

def Qbh (fu:Nat) (c1:Cur) (Aa:Request × Cur) (Ad:Int) (Ak:Int) (Ag:Int) (Ae:Int) (Af:List Pair) (Aj:List Typ) (Ah:Int) (Ac:List Item) (Ab:Int) (Ai:Int):Option (Request × Cur) :=
  some ((⟨Ad,(⟨Ak,Aa.1.fPallet.fD,Aa.1.fPallet.fH,Ag⟩:Pallet),Ae,Af,Aj,Ah,Ac⟩:Request),(⟨c1.fb,Ab,Ai⟩:Cur))

def Qrf (fu:Nat) (c1:Cur):Option (Request × Cur) :=
  Qad (Qmj fu c1) fun Aa=>Qad (Qbw fu ((⟨c1.fb,Aa.2.fi,Aa.2.fh⟩:Cur)) (([(-1),0,2001,100001,1000,9223372036854775807]:List Int))) fun Ac=>Qad (Qaq fu ((⟨c1.fb,Ac.2.fi,Ac.2.fh⟩:Cur)) 20) fun Ab=>bif (Ab.1 == 0) then Qad (Qbw fu ((⟨c1.fb,Ab.2.fi,Ab.2.fh⟩:Cur)) (([(-1),2]:List Int))) fun Ag=>Qbh fu c1 Aa Ag.1 Aa.1.fPallet.fW Aa.1.fPallet.fGram Aa.1.fClasses Aa.1.fPairs Aa.1.fTypes Aa.1.fMaster Aa.1.fItems Ag.2.fi Ag.2.fh else bif (Ab.1 == 1) then Qbh fu c1 Aa Aa.1.fWay Ac.1 Aa.1.fPallet.fGram Aa.1.fClasses Aa.1.fPairs Aa.1.fTypes Aa.1.fMaster Aa.1.fItems Ab.2.fi Ab.2.fh else bif (Ab.1 == 2) then Qbh fu c1 Aa Aa.1.fWay Aa.1.fPallet.fW Ac.1 Aa.1.fClasses Aa.1.fPairs Aa.1.fTypes Aa.1.fMaster Aa.1.fItems Ab.2.fi Ab.2.fh else bif (Ab.1 == 3) then Qad (Qbw fu ((⟨c1.fb,Ab.2.fi,Ab.2.fh⟩:Cur)) (([0,5,1]:List Int))) fun Aj=>Qbh fu c1 Aa Aa.1.fWay Aa.1.fPallet.fW Aa.1.fPallet.fGram Aj.1 Aa.1.fPairs Aa.1.fTypes Aa.1.fMaster Aa.1.fItems Aj.2.fi Aj.2.fh else bif (Ab.1 == 4) then Qad (Qaq fu ((⟨c1.fb,Ab.2.fi,Ab.2.fh⟩:Cur)) 6) fun Ae=>Qad (Qaq fu ((⟨c1.fb,Ae.2.fi,Ae.2.fh⟩:Cur)) 4) fun Af=>Qad (Qh3 16 Aa.1.fPairs (([(⟨w64 (Ae.1 - 1),Af.1⟩:Pair)]:List Pair))) fun As=>Qbh fu c1 Aa Aa.1.fWay Aa.1.fPallet.fW Aa.1.fPallet.fGram Aa.1.fClasses As Aa.1.fTypes Aa.1.fMaster Aa.1.fItems Af.2.fi Af.2.fh else bif (Ab.1 == 5) then Qad (ix Aa.1.fTypes 0) fun Al=>Qbh fu c1 Aa Aa.1.fWay Aa.1.fPallet.fW Aa.1.fPallet.fGram Aa.1.fClasses Aa.1.fPairs (Qjp Aa.1.fTypes 0 ({ Al with fH:=Ac.1 })) Aa.1.fMaster Aa.1.fItems Ab.2.fi Ab.2.fh else bif (Ab.1 == 6) then Qad (Qaq fu ((⟨c1.fb,Ab.2.fi,Ab.2.fh⟩:Cur)) ((Aa.1.fTypes.length:Int))) fun Ad=>Qad (ix Aa.1.fTypes Ad.1) fun Aq=>Qbh fu c1 Aa Aa.1.fWay Aa.1.fPallet.fW Aa.1.fPallet.fGram Aa.1.fClasses Aa.1.fPairs (Qjp Aa.1.fTypes Ad.1 ({ Aq with fGram:=Ac.1 })) Aa.1.fMaster Aa.1.fItems Ad.2.fi Ad.2.fh else bif (Ab.1 == 7) then Qad (Qbw fu ((⟨c1.fb,Ab.2.fi,Ab.2.fh⟩:Cur)) (([8,(-1),1000]:List Int))) fun Ak=>Qbh fu c1 Aa Aa.1.fWay Aa.1.fPallet.fW Aa.1.fPallet.fGram Aa.1.fClasses Aa.1.fPairs Aa.1.fTypes Ak.1 Aa.1.fItems Ak.2.fi Ak.2.fh else bif (Ab.1 == 8) then Qad (Qaq fu ((⟨c1.fb,Ab.2.fi,Ab.2.fh⟩:Cur)) 5) fun Ah=>Qad (Qaq fu ((⟨c1.fb,Ah.2.fi,Ah.2.fh⟩:Cur)) 8) fun Ai=>Qad (Qh3 56 Aa.1.fItems (([(⟨3,1,2,3,4,Ah.1,Ai.1⟩:Item)]:List Item))) fun Ar=>Qbh fu c1 Aa Aa.1.fWay Aa.1.fPallet.fW Aa.1.fPallet.fGram Aa.1.fClasses Aa.1.fPairs Aa.1.fTypes Aa.1.fMaster Ar Ai.2.fi Ai.2.fh else bif (Ab.1 == 9) then bif (decide (((Aa.1.fItems.length:Int)) > 0)) then Qad (ix Aa.1.fItems 0) fun At=>Qbh fu c1 Aa Aa.1.fWay Aa.1.fPallet.fW Aa.1.fPallet.fGram Aa.1.fClasses Aa.1.fPairs Aa.1.fTypes Aa.1.fMaster (Qjp Aa.1.fItems 0 ({ At with fD:=Ac.1 })) Ab.2.fi Ab.2.fh else Qbh fu c1 Aa Aa.1.fWay Aa.1.fPallet.fW Aa.1.fPallet.fGram Aa.1.fClasses Aa.1.fPairs Aa.1.fTypes Aa.1.fMaster Aa.1.fItems Ab.2.fi Ab.2.fh else bif (Ab.1 == 10) then bif (decide (((Aa.1.fPairs.length:Int)) > 0)) then Qad (sls Aa.1.fPairs 1 (Aa.1.fPairs.length:Int)) fun Ap=>Qbh fu c1 Aa Aa.1.fWay Aa.1.fPallet.fW Aa.1.fPallet.fGram Aa.1.fClasses Ap Aa.1.fTypes Aa.1.fMaster Aa.1.fItems Ab.2.fi Ab.2.fh else Qbh fu c1 Aa Aa.1.fWay Aa.1.fPallet.fW Aa.1.fPallet.fGram Aa.1.fClasses Aa.1.fPairs Aa.1.fTypes Aa.1.fMaster Aa.1.fItems Ab.2.fi Ab.2.fh else bif (Ab.1 == 11) then Qad (ix Aa.1.fTypes 0) fun Ao=>Qad (Qh3 56 Aa.1.fTypes (([Ao]:List Typ))) fun Am=>Qbh fu c1 Aa Aa.1.fWay Aa.1.fPallet.fW Aa.1.fPallet.fGram Aa.1.fClasses Aa.1.fPairs Am Aa.1.fMaster Aa.1.fItems Ab.2.fi Ab.2.fh else bif (Ab.1 == 12) then Qbh fu c1 Aa Aa.1.fWay Aa.1.fPallet.fW Aa.1.fPallet.fGram Aa.1.fClasses Aa.1.fPairs (([]:List Typ)) Aa.1.fMaster Aa.1.fItems Ab.2.fi Ab.2.fh else Qbh fu c1 Aa Aa.1.fWay Aa.1.fPallet.fW Aa.1.fPallet.fGram Aa.1.fClasses Aa.1.fPairs Aa.1.fTypes Aa.1.fMaster Aa.1.fItems Ab.2.fi Ab.2.fh

def Qma (fu:Nat) (Ab:List U8):Option (Request) :=
  Qad (Qqa fu Ab) fun x8=>Qad (Qkr fu ((⟨Ab,x8.fi,x8.fh⟩:Cur)) 2) fun Aa=>bif Aa.1 then Qad (Qre fu ((⟨Ab,Aa.2.fi,Aa.2.fh⟩:Cur))) fun Ac=>some (Ac.1) else Qad (Qrf fu ((⟨Ab,Aa.2.fi,Aa.2.fh⟩:Cur))) fun Ad=>some (Ad.1)

def Qj5 (fu:Nat) (Ab:List Int → Int → Option ((List Int))) (Aa:Int) (Ac:List Int):Option ((List Int)) :=
  Ab Ac (w64 (Aa + 1))

def Qj1 (fu:Nat) (Ab:Bool → Int → Option ((List Int))) (Aa:Int) (Ac:Bool):Option ((List Int)) :=
  Ab Ac (w64 (Aa + 1))

def Qk4 (fu:Nat) (Ae:List Int → Int → Option ((List Int))) (r1:Request) (Ac:List Int) (Aa:Int) (Ad:Bool → Int → Option ((List Int))) (Af:Bool) (Ab:Int):Option ((List Int)) :=
  bif (decide (Ab < ((r1.fItems.length:Int)))) then bif Af then Qj1 fu Ad Ab true else Qad (ix r1.fItems Ab) fun Ag=>Qj1 fu Ad Ab (Ag.fClass == Aa) else bif Af then Qad (Qh3 8 Ac (([Aa]:List Int))) fun Ah=>Qj5 fu Ae Aa Ah else Qj5 fu Ae Aa Ac
def Qd8 (fu:Nat) (Ac:List Int → Int → Option ((List Int))) (r1:Request) (Ab:List Int) (Aa:Int):Nat → Bool → Int → Option ((List Int))
  | 0=>fun _ _=>none
  | n + 1=>Qk4 fu Ac r1 Ab Aa (Qd8 fu Ac r1 Ab Aa n)

def Qly (fu:Nat)  (r1:Request) (Ac:List Int → Int → Option ((List Int))) (Ab:List Int) (Aa:Int):Option ((List Int)) :=
  bif (decide (Aa < 4)) then Qd8 fu Ac r1 Ab Aa fu false 0 else some (Ab)
def Qde (fu:Nat)  (r1:Request):Nat → List Int → Int → Option ((List Int))
  | 0=>fun _ _=>none
  | n + 1=>Qly fu r1 (Qde fu r1 n)

def Qo7 (fu:Nat) (r1:Request):Option ((List Int)) :=
  Qad (Qem fu r1) fun Aa=>bif (Aa != 0) then some (([]:List Int)) else Qde fu r1 fu (([]:List Int)) 0

def Qoq (fu:Nat)  (Ab:List Int) (x5:Int) (k1:Int → Option (Bool)) (Aa:Int):Option (Bool) :=
  bif (decide (Aa < ((Ab.length:Int)))) then Qad (ix Ab Aa) fun Ac=>bif (Ac == x5) then some (true) else k1 (w64 (Aa + 1)) else some (false)
def Qhn (fu:Nat)  (Aa:List Int) (x5:Int):Nat → Int → Option (Bool)
  | 0=>fun _=>none
  | n + 1=>Qoq fu Aa x5 (Qhn fu Aa x5 n)

def Qnk (fu:Nat) (Aa:List Int) (x5:Int):Option (Bool) :=
  Qhn fu Aa x5 fu 0

def Qoe (fu:Nat) (k3:Int → Option (Bool)) (Aa:Int)  : Option (Bool) :=
  k3 (w64 (Aa + 1))

def Qll (fu:Nat)  (Ac:List Pair) (Ab:List Int) (Ad:Int) (k3:Int → Option (Bool)) (Aa:Int):Option (Bool) :=
  bif (decide (Aa < ((Ab.length:Int)))) then Qad (ix Ab Aa) fun Ae=>Qad (Qfg fu Ac Ae Ad) fun Ag=>bif (!Ag) then some (false) else Qad (ix Ab Aa) fun Ah=>Qad (Qfg fu Ac Ad Ae) fun Af=>bif (!Af) then some (false) else Qoe fu k3 Aa else some (true)
def Qe0 (fu:Nat)  (Ab:List Pair) (Aa:List Int) (Ac:Int):Nat → Int → Option (Bool)
  | 0=>fun _=>none
  | n + 1=>Qll fu Ab Aa Ac (Qe0 fu Ab Aa Ac n)

def Qpb (fu:Nat) (Ab:List Pair) (Aa:List Int) (Ac:Int):Option (Bool) :=
  Qe0 fu Ab Aa Ac fu 0

def Qgw (fu:Nat) (Ab:List (List Int) → Int → Option ((List (List Int)))) (Aa:Int) (Ac:List (List Int)):Option ((List (List Int))) :=
  Ab Ac (w64 (Aa + 1))

def Ql1 (fu:Nat) (Ab:Int → Int → Option ((List (List Int)))) (Aa:Int) (Ac:Int):Option ((List (List Int))) :=
  Ab Ac (w64 (Aa - 1))

def Qm3 (fu:Nat) (Af:List (List Int) → Int → Option ((List (List Int)))) (Ag:List Pair) (Ab:List (List Int)) (Ad:Int) (Ae:Int → Int → Option ((List (List Int)))) (Ac:Int) (Aa:Int):Option ((List (List Int))) :=
  bif (decide (Aa ≥ 0)) then Qad (ix Ab Aa) fun Ak=>Qad (Qpb fu Ag Ak Ad) fun Al=>bif Al then Ql1 fu Ae Aa Aa else Ql1 fu Ae Aa Ac else bif (decide (Ac < 0)) then Qad (Qh3 24 Ab [([Ad]:List Int)]) fun Ah=>Qgw fu Af Ad Ah else Qad (ix Ab Ac) fun Ai=>Qad (Qh3 8 Ai (([Ad]:List Int))) fun Aj=>Qad (ix Ab Ac) fun Am=>Qgw fu Af Ad (Qjp Ab Ac Aj)
def Qeo (fu:Nat) (Ab:List (List Int) → Int → Option ((List (List Int)))) (Ad:List Pair) (Ac:List (List Int)) (Aa:Int):Nat → Int → Int → Option ((List (List Int)))
  | 0=>fun _ _=>none
  | n + 1=>Qm3 fu Ab Ad Ac Aa (Qeo fu Ab Ad Ac Aa n)

def Qm0 (fu:Nat)  (Ae:List Pair) (Af:List Int) (Ac:List (List Int) → Int → Option ((List (List Int)))) (Aa:List (List Int)) (Ab:Int):Option ((List (List Int))) :=
  bif (decide (Ab < 4)) then Qad (Qnk fu Af Ab) fun Ad=>bif (!Ad) then Qgw fu Ac Ab Aa else Qeo fu Ac Ae Aa Ab fu ((-1)) (w64 (((Aa.length:Int)) - 1)) else some (Aa)
def Qd3 (fu:Nat)  (Ab:List Pair) (Aa:List Int):Nat → List (List Int) → Int → Option ((List (List Int)))
  | 0=>fun _ _=>none
  | n + 1=>Qm0 fu Ab Aa (Qd3 fu Ab Aa n)

def Qrc (fu:Nat) (Ab:List Pair) (Aa:List Int):Option ((List (List Int))) :=
  Qd3 fu Ab Aa fu (([]:List (List Int))) 0

def Qgs (fu:Nat) (r1:Request):Option ((List (List Int))) :=
  Qad (Qo7 fu r1) fun Ab=>Qad (Qrc fu r1.fPairs Ab) fun Aa=>some (Aa)

def Qlm (fu:Nat) (k3:List Int → Int → Option ((List Int))) (r1:Request) (Aa:Int) (k4:List Int → Int → Option ((List Int))) (Ac:List Int) (Ab:Int):Option ((List Int)) :=
  Qad (ix r1.fItems Aa) fun Ae=>bif (decide (Ab < Ae.fCount)) then Qad (Qh3 8 Ac (([Aa]:List Int))) fun Ad=>k4 Ad (w64 (Ab + 1)) else k3 Ac (w64 (Aa + 1))
def Qgb (fu:Nat) (k3:List Int → Int → Option ((List Int))) (r1:Request) (Aa:Int):Nat → List Int → Int → Option ((List Int))
  | 0=>fun _ _=>none
  | n + 1=>Qlm fu k3 r1 Aa (Qgb fu k3 r1 Aa n)

def Qk5 (fu:Nat)  (r1:Request) (k3:List Int → Int → Option ((List Int))) (Ab:List Int) (Aa:Int):Option ((List Int)) :=
  bif (decide (Aa < ((r1.fItems.length:Int)))) then Qgb fu k3 r1 Aa fu Ab 0 else some (Ab)
def Qd7 (fu:Nat)  (r1:Request):Nat → List Int → Int → Option ((List Int))
  | 0=>fun _ _=>none
  | n + 1=>Qk5 fu r1 (Qd7 fu r1 n)

def Qcl (fu:Nat) (r1:Request):Option ((List Int)) :=
  Qd7 fu r1 fu (([]:List Int)) 0

def Qjs (fu:Nat) (k3:List Int → Int → Option ((List Int))) (Aa:Int) (Ab:List Int):Option ((List Int)) :=
  k3 Ab (w64 (Aa + 1))

def Qlk (fu:Nat)  (r1:Request) (Ad:Int) (Ae:(List (List Int))) (Ac:(List Int)) (k3:List Int → Int → Option ((List Int))) (Ab:List Int) (Aa:Int):Option ((List Int)) :=
  bif (decide (Aa < ((Ac.length:Int)))) then Qad (ix Ae Ad) fun Ag=>Qad (ix Ac Aa) fun Aj=>Qad (ix r1.fItems Aj) fun Af=>Qad (Qnk fu Ag Af.fClass) fun Ah=>bif Ah then Qad (Qh3 8 Ab (([Aa]:List Int))) fun Ai=>Qjs fu k3 Aa Ai else Qjs fu k3 Aa Ab else some (Ab)
def Qfb (fu:Nat)  (r1:Request) (Ab:Int) (Ac:(List (List Int))) (Aa:(List Int)):Nat → List Int → Int → Option ((List Int))
  | 0=>fun _ _=>none
  | n + 1=>Qlk fu r1 Ab Ac Aa (Qfb fu r1 Ab Ac Aa n)

def Qo9 (fu:Nat) (r1:Request) (Ab:Int):Option ((List Int)) :=
  Qad (Qgs fu r1) fun Aa=>Qad (Qar fu Ab 0 (w64 (((Aa.length:Int)) - 1))) fun Ad=>bif (!Ad) then some (([]:List Int)) else Qad (Qcl fu r1) fun Ac=>Qfb fu r1 Ab Aa Ac fu (([]:List Int)) 0

def Qjz (fu:Nat) (k3:List Int → Int → Option ((List Int))) (Ab:Int) (Aa:List Int):Option ((List Int)) :=
  k3 Aa (w64 (Ab + 1))

def Qk1 (fu:Nat)  (Af:List Int) (Ac:List Int) (k3:List Int → Int → Option ((List Int))) (Ab:List Int) (Aa:Int):Option ((List Int)) :=
  bif (decide (Aa < ((Ac.length:Int)))) then Qad (ix Ac Aa) fun Ad=>Qad (Qar fu Ad 0 (w64 (((Af.length:Int)) - 1))) fun Ag=>bif Ag then Qad (ix Ac Aa) fun Ah=>Qad (Qh3 8 Ab (([Ad]:List Int))) fun Ae=>Qjz fu k3 Aa Ae else Qjz fu k3 Aa Ab else some (Ab)
def Qe8 (fu:Nat)  (Aa:List Int) (Ab:List Int):Nat → List Int → Int → Option ((List Int))
  | 0=>fun _ _=>none
  | n + 1=>Qk1 fu Aa Ab (Qe8 fu Aa Ab n)

def Qmi (fu:Nat) (Aa:List Int) (Ab:List Int):Option ((List Int)) :=
  Qe8 fu Aa Ab fu (([]:List Int)) 0

def Qif (fu:Nat) (r1:Request) (Aa:List Int) (u9:Int):Option (Item × Bool) :=
  Qad (Qar fu u9 0 (w64 (((Aa.length:Int)) - 1))) fun Ab=>bif (!Ab) then some ((⟨0,0,0,0,0,0,0⟩:Item),false) else Qad (ix Aa u9) fun Ac=>Qad (ix r1.fItems Ac) fun Ad=>some (Ad,true)

def Qpm (fu:Nat) (Aa:Int) (h2:Int) (d3:Int)  : Option (Int) :=
  some (w64 ((w64 (Aa * h2)) * d3))

def Qlq (fu:Nat) (Aa:Int) (h2:Int) (d3:Int):Option (Int) :=
  Qad (Qar fu Aa 0 2000) fun Ac=>bif (!Ac) then some (0) else Qad (Qar fu h2 0 2000) fun Ab=>bif (!Ab) then some (0) else Qad (Qar fu d3 0 2000) fun Ad=>bif (!Ad) then some (0) else Qpm fu Aa h2 d3

def Qro (fu:Nat) (k7:L7 → Int → Option (L7)) (Ab:Int) (Aa:L7):Option (L7) :=
  k7 Aa (w64 (Ab + 1))

def Qrt (fu:Nat) (k7:L7 → Int → Option (L7)) (Ab:L7) (Ad:Int) (Aa:Item):Option (L7) :=
  Qad (Qlq fu Aa.fW Aa.fH Aa.fD) fun Ac=>Qro fu k7 Ad ((⟨w64 (Ab.fvol + Ac),w64 (Ab.fgram + Aa.fGram)⟩:L7))

def Qp2 (fu:Nat)  (r1:Request) (Af:List Int) (Ab:List Int) (k7:L7 → Int → Option (L7)) (Ac:L7) (Aa:Int):Option (L7) :=
  bif (decide (Aa < ((Ab.length:Int)))) then Qad (ix Ab Aa) fun Ae=>Qad (Qif fu r1 Af Ae) fun Ad=>Qrt fu k7 Ac Aa Ad.1 else some (Ac)
def Qgl (fu:Nat)  (r1:Request) (Aa:List Int) (Ab:List Int):Nat → L7 → Int → Option (L7)
  | 0=>fun _ _=>none
  | n + 1=>Qp2 fu r1 Aa Ab (Qgl fu r1 Aa Ab n)

def Qp5 (fu:Nat) (r1:Request) (Aa:List Int) (Ab:List Int):Option (L7) :=
  Qgl fu r1 Aa Ab fu ((⟨0,0⟩:L7)) 0

def Qp1 (fu:Nat) (m9:Typ) (Aa:L7):Option (Bool) :=
  Qad (Qlq fu m9.fW m9.fH m9.fD) fun Ab=>bif (decide (Aa.fvol ≤ Ab)) then some (decide (Aa.fgram ≤ m9.fGram)) else some (false)

def Qor (fu:Nat) (r1:Request) (Aa:List Int) (m9:Typ) (Ad:List Int) (Ac:Int):Option (Bool) :=
  Qad (Qh3 8 (([]:List Int)) Ad) fun Ab=>Qad (Qh3 8 Ab (([Ac]:List Int))) fun Ae=>Qad (Qp5 fu r1 Aa Ae) fun Af=>Qp1 fu m9 Af

def Qh4 (fu:Nat) (k3:List (List Int) → Int → Option ((List (List Int)))) (Aa:Int) (Ab:List (List Int)):Option ((List (List Int))) :=
  k3 Ab (w64 (Aa + 1))

def Qnb (fu:Nat)  (r1:Request) (Ac:List Int) (Al:Typ × Bool) (Aj:(List Int)) (k3:List (List Int) → Int → Option ((List (List Int)))) (Aa:List (List Int)) (Ab:Int):Option ((List (List Int))) :=
  bif (decide (Ab < ((Ac.length:Int)))) then bif (decide (((Aa.length:Int)) > 0)) then Qad (ix Aa (w64 (((Aa.length:Int)) - 1))) fun Ae=>Qad (ix Ac Ab) fun Ad=>Qad (Qor fu r1 Aj Al.1 Ae Ad) fun Ag=>bif Ag then Qad (ix Aa (w64 (((Aa.length:Int)) - 1))) fun Am=>Qad (ix Ac Ab) fun Ao=>Qad (Qh3 8 Ae (([Ad]:List Int))) fun Ak=>Qad (ix Aa (w64 (((Aa.length:Int)) - 1))) fun Aq=>Qh4 fu k3 Ab (Qjp Aa (w64 (((Aa.length:Int)) - 1)) Ak) else Qad (ix Ac Ab) fun Ap=>Qad (Qh3 24 Aa [([Ad]:List Int)]) fun Ah=>Qh4 fu k3 Ab Ah else Qad (ix Ac Ab) fun Ai=>Qad (Qh3 24 Aa [([Ai]:List Int)]) fun Af=>Qh4 fu k3 Ab Af else some (Aa)
def Qfv (fu:Nat)  (r1:Request) (Ab:List Int) (Ac:Typ × Bool) (Aa:(List Int)):Nat → List (List Int) → Int → Option ((List (List Int)))
  | 0=>fun _ _=>none
  | n + 1=>Qnb fu r1 Ab Ac Aa (Qfv fu r1 Ab Ac Aa n)

def Qsb (fu:Nat) (r1:Request) (Ab:List Int):Option ((List (List Int))) :=
  Qad (Qfd fu r1) fun Ac=>Qad (Qcl fu r1) fun Aa=>Qfv fu r1 Ab Ac Aa fu (([]:List (List Int))) 0

def Qo3 (fu:Nat) (r1:Request) (Aa:List Int):Option ((List (List Int))) :=
  Qad (Qem fu r1) fun Ad=>bif (Ad != 0) then some (([]:List (List Int))) else Qad (Qcl fu r1) fun Ac=>Qad (Qmi fu Ac Aa) fun Ab=>Qad (Qsb fu r1 Ab) fun Ae=>some (Ae)

def Qgo (fu:Nat) (Aa:List Int):Option ((List Int)) :=
  Qad (Qj7 fu ((Aa.length:Int))) fun x5=>Qad (Qpk fu Aa x5 true) fun Ab=>some (Ab)

def Qjm (fu:Nat) (Ab:List (List Int) → Int → Option ((List (List Int)))) (Ac:Int) (Aa:List (List Int)):Option ((List (List Int))) :=
  Ab Aa (w64 (Ac + 1))

def Qjw (fu:Nat) (Ab:Int → Int → Option ((List (List Int)))) (Aa:Int) (Ac:Int):Option ((List (List Int))) :=
  Ab Ac (w64 (Aa - 1))

def Qk7 (fu:Nat) (Af:List (List Int) → Int → Option ((List (List Int)))) (r1:Request) (Al:Typ × Bool) (Ah:(List Int)) (Ac:List (List Int)) (Ag:Int) (Ad:Int) (Ae:Int → Int → Option ((List (List Int)))) (Ab:Int) (Aa:Int):Option ((List (List Int))) :=
  bif (decide (Aa ≥ 0)) then Qad (ix Ac Aa) fun Ao=>Qad (Qor fu r1 Ah Al.1 Ao Ad) fun Ak=>bif Ak then Qjw fu Ae Aa Aa else Qjw fu Ae Aa Ab else bif (decide (Ab < 0)) then Qad (Qh3 24 Ac [([Ad]:List Int)]) fun Ai=>Qjm fu Af Ag Ai else Qad (ix Ac Ab) fun Aj=>Qad (Qh3 8 Aj (([Ad]:List Int))) fun Am=>Qad (ix Ac Ab) fun Ap=>Qjm fu Af Ag (Qjp Ac Ab Am)
def Qe3 (fu:Nat) (Ac:List (List Int) → Int → Option ((List (List Int)))) (r1:Request) (Ad:Typ × Bool) (Ae:(List Int)) (Ab:List (List Int)) (Af:Int) (Aa:Int):Nat → Int → Int → Option ((List (List Int)))
  | 0=>fun _ _=>none
  | n + 1=>Qk7 fu Ac r1 Ad Ae Ab Af Aa (Qe3 fu Ac r1 Ad Ae Ab Af Aa n)

def Qle (fu:Nat)  (r1:Request) (Ae:List Int) (Ah:Typ × Bool) (Ai:(List Int)) (Ac:(List Int)) (Ag:List (List Int) → Int → Option ((List (List Int)))) (Aa:List (List Int)) (Ab:Int):Option ((List (List Int))) :=
  bif (decide (Ab < ((Ac.length:Int)))) then Qad (ix Ac Ab) fun Af=>Qad (ix Ae Af) fun Ad=>Qe3 fu Ag r1 Ah Ai Aa Ab Ad fu ((-1)) (w64 (((Aa.length:Int)) - 1)) else some (Aa)
def Qco (fu:Nat)  (r1:Request) (Ab:List Int) (Ad:Typ × Bool) (Aa:(List Int)) (Ac:(List Int)):Nat → List (List Int) → Int → Option ((List (List Int)))
  | 0=>fun _ _=>none
  | n + 1=>Qle fu r1 Ab Ad Aa Ac (Qco fu r1 Ab Ad Aa Ac n)

def Qk0 (fu:Nat)  (r1:Request) (Ab:List Int) (Ah:Typ × Bool) (Ad:(List Int)) (k1:List Int → Int → Option ((List (List Int)))) (Ac:List Int) (Aa:Int):Option ((List (List Int))) :=
  bif (decide (Aa < ((Ab.length:Int)))) then Qad (sls Ab Aa (w64 (Aa + 1))) fun Af=>Qad (Qp5 fu r1 Ad Af) fun Ae=>Qad (Qh3 8 Ac (([Ae.fvol]:List Int))) fun Ag=>k1 Ag (w64 (Aa + 1)) else Qad (Qgo fu Ac) fun Ai=>Qco fu r1 Ab Ah Ad Ai fu (([]:List (List Int))) 0
def Qgc (fu:Nat)  (r1:Request) (Ab:List Int) (Ac:Typ × Bool) (Aa:(List Int)):Nat → List Int → Int → Option ((List (List Int)))
  | 0=>fun _ _=>none
  | n + 1=>Qk0 fu r1 Ab Ac Aa (Qgc fu r1 Ab Ac Aa n)

def Qrq (fu:Nat) (r1:Request) (Ab:List Int):Option ((List (List Int))) :=
  Qad (Qfd fu r1) fun Ac=>Qad (Qcl fu r1) fun Aa=>Qgc fu r1 Ab Ac Aa fu (([]:List Int)) 0

def Qns (fu:Nat) (r1:Request) (Aa:List Int):Option ((List (List Int))) :=
  Qad (Qem fu r1) fun Ad=>bif (Ad != 0) then some (([]:List (List Int))) else Qad (Qcl fu r1) fun Ac=>Qad (Qmi fu Ac Aa) fun Ab=>Qad (Qrq fu r1 Ab) fun Ae=>some (Ae)

def Qo6 (fu:Nat) (r1:Request) (Aa:List Int):Option ((List (List Int))) :=
  bif (r1.fWay == 1) then Qad (Qo3 fu r1 Aa) fun Ab=>some (Ab) else Qad (Qns fu r1 Aa) fun Ac=>some (Ac)

def Qql (fu:Nat) (r1:Request) (Ad:List Int) (t9:Typ) (Ab:(List Int))  : Option (Bool) :=
  Qad (Qp5 fu r1 Ab Ad) fun Aa=>Qad (Qlq fu t9.fW t9.fH t9.fD) fun Ac=>bif (decide (Aa.fvol ≤ Ac)) then some (decide (Aa.fgram ≤ t9.fGram)) else some (false)

def Qq7 (fu:Nat) (Ab:Int → Option (Bool)) (Aa:Int)  : Option (Bool) :=
  Ab (w64 (Aa + 1))

def Qqr (fu:Nat) (Ac:Int → Option (Bool)) (t9:Typ) (Aa:Int) (Ad:Item) (Ab:Bool):Option (Bool) :=
  bif (!Ab) then some (false) else Qad (Qp4 fu Ad t9) fun Ae=>bif (!Ae) then some (false) else Qq7 fu Ac Aa

def Qos (fu:Nat)  (r1:Request) (Ab:List Int) (t9:Typ) (Ad:(List Int)) (Af:Int → Option (Bool)) (Aa:Int):Option (Bool) :=
  bif (decide (Aa < ((Ab.length:Int)))) then Qad (ix Ab Aa) fun Ae=>Qad (Qif fu r1 Ad Ae) fun Ac=>Qqr fu Af t9 Aa Ac.1 Ac.2 else Qql fu r1 Ab t9 Ad
def Qfe (fu:Nat)  (r1:Request) (Ab:List Int) (t9:Typ) (Aa:(List Int)):Nat → Int → Option (Bool)
  | 0=>fun _=>none
  | n + 1=>Qos fu r1 Ab t9 Aa (Qfe fu r1 Ab t9 Aa n)

def Qqd (fu:Nat) (r1:Request) (Ab:List Int) (t9:Typ):Option (Bool) :=
  Qad (Qem fu r1) fun Aa=>bif (Aa != 0) then some (false) else Qad (Qcl fu r1) fun Ac=>Qfe fu r1 Ab t9 Ac fu 0

def Qdt (fu:Nat) (k3:Typ → Bool → Int → Option (Typ × Bool)) (Aa:Int) (Ac:Typ) (Ab:Bool):Option (Typ × Bool) :=
  k3 Ac Ab (w64 (Aa + 1))

def Qi1 (fu:Nat)  (r1:Request) (Ae:List Int) (k3:Typ → Bool → Int → Option (Typ × Bool)) (Ab:Typ) (Ad:Bool) (Aa:Int):Option (Typ × Bool) :=
  bif (decide (Aa < ((r1.fTypes.length:Int)))) then Qad (ix r1.fTypes Aa) fun Ac=>Qad (Qqd fu r1 Ae Ac) fun Af=>bif (!Af) then Qdt fu k3 Aa Ab Ad else bif (!Ad) then Qdt fu k3 Aa Ac true else bif (decide (Ac.fCost < Ab.fCost)) then Qdt fu k3 Aa Ac true else bif (Ac.fCost == Ab.fCost) then bif (decide (Ac.fId < Ab.fId)) then Qdt fu k3 Aa Ac true else Qdt fu k3 Aa Ab Ad else Qdt fu k3 Aa Ab Ad else some (Ab,Ad)
def Qej (fu:Nat)  (r1:Request) (Aa:List Int):Nat → Typ → Bool → Int → Option (Typ × Bool)
  | 0=>fun _ _ _=>none
  | n + 1=>Qi1 fu r1 Aa (Qej fu r1 Aa n)

def Qj6 (fu:Nat) (r1:Request) (Aa:List Int):Option (Typ × Bool) :=
  Qej fu r1 Aa fu ((⟨0,0,0,0,0,0,0⟩:Typ)) false 0

def Qkp (fu:Nat) (Ab:List Carton → Int → Option ((List Carton))) (Ac:Int) (Aa:List Carton):Option ((List Carton)) :=
  Ab Aa (w64 (Ac + 1))

def Qhi (fu:Nat) (Ab:List Carton → Int → Option ((List Carton))) (Ac:Int) (Aa:List Carton):Option ((List Carton)) :=
  Ab Aa (w64 (Ac + 1))

def Qid (fu:Nat) (Af:List Carton → Int → Option ((List Carton))) (Al:Int) (Ah:(List (List Int))) (Ag:List Carton) (Ad:Int) (Ap:Typ) (Ac:(List Int)) (Ak:List Int → Int → Option ((List Carton))) (Ab:List Int) (Aa:Int):Option ((List Carton)) :=
  bif (decide (Aa < ((Ac.length:Int)))) then Qad (ix Ah Ad) fun Ae=>Qad (ix Ac Aa) fun Ao=>Qad (ix Ae Ao) fun Am=>Qad (Qh3 8 Ab (([Am]:List Int))) fun Aj=>Ak Aj (w64 (Aa + 1)) else Qad (Qh3 40 Ag [(⟨Ap.fId,Al,Ab⟩:Carton)]) fun Ai=>Qhi fu Af Ad Ai
def Qey (fu:Nat) (Aa:List Carton → Int → Option ((List Carton))) (Ad:Int) (Ac:(List (List Int))) (Ab:List Carton) (Af:Int) (Ag:Typ) (Ae:(List Int)):Nat → List Int → Int → Option ((List Carton))
  | 0=>fun _ _=>none
  | n + 1=>Qid fu Aa Ad Ac Ab Af Ag Ae (Qey fu Aa Ad Ac Ab Af Ag Ae n)

def Qkw (fu:Nat) (Ad:List Carton → Int → Option ((List Carton))) (Af:Int) (Aa:(List (List Int))) (Ae:List Carton) (Ab:Int) (Ah:Typ):Option ((List Carton)) :=
  Qad (ix Aa Ab) fun Ac=>Qad (Qon fu Ac) fun Ag=>Qey fu Ad Af Aa Ae Ab Ah Ag fu (([]:List Int)) 0

def Qih (fu:Nat) (Af:List Carton → Int → Option ((List Carton))) (r1:Request) (Ad:Int) (Aa:(List (List Int))) (Ae:List Carton → Int → Option ((List Carton))) (Ac:List Carton) (Ab:Int):Option ((List Carton)) :=
  bif (decide (Ab < ((Aa.length:Int)))) then Qad (ix Aa Ab) fun Ah=>Qad (Qj6 fu r1 Ah) fun Ag=>Qkw fu Ae Ad Aa Ac Ab Ag.1 else Qkp fu Af Ad Ac
def Qb3 (fu:Nat) (Ab:List Carton → Int → Option ((List Carton))) (r1:Request) (Ac:Int) (Aa:(List (List Int))):Nat → List Carton → Int → Option ((List Carton))
  | 0=>fun _ _=>none
  | n + 1=>Qih fu Ab r1 Ac Aa (Qb3 fu Ab r1 Ac Aa n)

def Qik (fu:Nat)  (r1:Request) (Ae:(List (List Int))) (Ac:List Carton → Int → Option ((List Carton))) (Ab:List Carton) (Aa:Int):Option ((List Carton)) :=
  bif (decide (Aa < ((Ae.length:Int)))) then Qad (Qo9 fu r1 Aa) fun Af=>Qad (Qo6 fu r1 Af) fun Ad=>Qb3 fu Ac r1 Aa Ad fu Ab 0 else some (Ab)
def Qbf (fu:Nat)  (r1:Request) (Aa:(List (List Int))):Nat → List Carton → Int → Option ((List Carton))
  | 0=>fun _ _=>none
  | n + 1=>Qik fu r1 Aa (Qbf fu r1 Aa n)

def Ql6 (fu:Nat) (r1:Request):Option ((List Carton)) :=
  Qad (Qgs fu r1) fun Aa=>Qbf fu r1 Aa fu (([]:List Carton)) 0

def Qiz (fu:Nat)  (r1:Request) (Ac:Int) (k1:Int → Option (Typ × Bool)) (Aa:Int):Option (Typ × Bool) :=
  bif (decide (Aa < ((r1.fTypes.length:Int)))) then Qad (ix r1.fTypes Aa) fun Ab=>bif (Ab.fId == Ac) then Qad (ix r1.fTypes Aa) fun Ad=>some (Ab,true) else k1 (w64 (Aa + 1)) else some ((⟨0,0,0,0,0,0,0⟩:Typ),false)
def Qfr (fu:Nat)  (r1:Request) (Aa:Int):Nat → Int → Option (Typ × Bool)
  | 0=>fun _=>none
  | n + 1=>Qiz fu r1 Aa (Qfr fu r1 Aa n)

def Qhl (fu:Nat) (r1:Request) (Aa:Int):Option (Typ × Bool) :=
  Qfr fu r1 Aa fu 0

def Qrz (fu:Nat) (r1:Request):Option ((List Int)) :=
  Qad (Qem fu r1) fun Aa=>bif (Aa != 0) then some (([]:List Int)) else Qad (Qcl fu r1) fun Ab=>some (Ab)

def Qp0 (fu:Nat) (k7:Int → Int → Option (Int)) (Ab:Int) (Aa:Int):Option (Int) :=
  k7 Aa (w64 (Ab + 1))

def Qpt (fu:Nat) (k7:Int → Int → Option (Int)) (Ab:Int) (Ac:Int) (Aa:Item):Option (Int) :=
  Qp0 fu k7 Ac (w64 (Ab + Aa.fGram))

def Qmy (fu:Nat)  (r1:Request) (Ab:List Int) (Ae:(List Int)) (k7:Int → Int → Option (Int)) (Ac:Int) (Aa:Int):Option (Int) :=
  bif (decide (Aa < ((Ab.length:Int)))) then Qad (ix Ab Aa) fun Af=>Qad (Qif fu r1 Ae Af) fun Ad=>Qpt fu k7 Ac Aa Ad.1 else some (Ac)
def Qep (fu:Nat)  (r1:Request) (Aa:List Int) (Ab:(List Int)):Nat → Int → Int → Option (Int)
  | 0=>fun _ _=>none
  | n + 1=>Qmy fu r1 Aa Ab (Qep fu r1 Aa Ab n)

def Qqm (fu:Nat) (r1:Request) (Aa:List Int):Option (Int) :=
  Qad (Qrz fu r1) fun Ab=>Qep fu r1 Aa Ab fu 0 0

def Qra (fu:Nat) (r1:Request) (x5:Carton) (Aa:Typ × Bool)  : Option (Int) :=
  Qad (Qqm fu r1 x5.fUnits) fun Ab=>some (w64 (Aa.1.fTare + Ab))

def Qp6 (fu:Nat) (r1:Request) (x5:Carton):Option (Int) :=
  Qad (Qhl fu r1 x5.fType) fun Aa=>Qad (Qem fu r1) fun Ab=>bif (Ab != 0) then some (0) else bif (!Aa.2) then some (0) else Qra fu r1 x5 Aa

def Qqu (fu:Nat) (r1:Request) (x5:Carton) (Aa:Typ × Bool)  : Option (Box) :=
  Qad (Qp6 fu r1 x5) fun Ab=>some ((⟨Aa.1.fW,Aa.1.fD,Aa.1.fH,Ab⟩:Box))

def Qke (fu:Nat) (r1:Request) (x5:Carton):Option (Box) :=
  Qad (Qhl fu r1 x5.fType) fun Aa=>Qad (Qem fu r1) fun Ab=>bif (Ab != 0) then some ((⟨0,0,0,0⟩:Box)) else bif (!Aa.2) then some ((⟨0,0,0,0⟩:Box)) else Qqu fu r1 x5 Aa

def Qok (fu:Nat) (k3:Int → Option (Bool)) (Aa:Int)  : Option (Bool) :=
  k3 (w64 (Aa + 1))

def Qls (fu:Nat)  (p1:Pallet) (Ac:List Box) (k3:Int → Option (Bool)) (Ab:Int):Option (Bool) :=
  bif (decide (Ab < ((Ac.length:Int)))) then Qad (ix Ac Ab) fun Aa=>Qad (Qar fu Aa.fW 1 p1.fW) fun Ae=>bif (!Ae) then some (false) else Qad (Qar fu Aa.fD 1 p1.fD) fun Af=>bif (!Af) then some (false) else Qad (Qar fu Aa.fH 1 p1.fH) fun Ad=>bif (!Ad) then some (false) else Qad (Qar fu Aa.fGram 1 p1.fGram) fun Ag=>bif (!Ag) then some (false) else Qok fu k3 Ab else some (true)
def Qe1 (fu:Nat)  (p1:Pallet) (Aa:List Box):Nat → Int → Option (Bool)
  | 0=>fun _=>none
  | n + 1=>Qls fu p1 Aa (Qe1 fu p1 Aa n)

def Qme (fu:Nat) (p1:Pallet) (Ab:List Box):Option (Bool) :=
  Qad (Qgm fu p1) fun Aa=>bif (!Aa) then some (false) else Qe1 fu p1 Ab fu 0

def Qkg (fu:Nat) (a1:Int) (b2:Int):Option (Int) :=
  bif (decide (a1 > b2)) then some (a1) else some (b2)

def Qgk (fu:Nat) (Aa:Shelf) (Ad:Int) (b6:Box):Option (Shelf) :=
  Qad (Qh3 8 (([]:List Int)) Aa.fList) fun Ac=>Qad (Qh3 8 Ac (([Ad]:List Int))) fun Af=>Qad (Qkg fu Aa.fD b6.fD) fun Ae=>Qad (Qkg fu Aa.fH b6.fH) fun Ab=>some ((⟨Af,w64 (Aa.fW + b6.fW),Ae,Ab,w64 (Aa.fGram + b6.fGram)⟩:Shelf))

def Qgd (fu:Nat) (k4:List Shelf → Int → Option ((List Shelf))) (Ab:Int) (Aa:List Shelf):Option ((List Shelf)) :=
  k4 Aa (w64 (Ab + 1))

def Qli (fu:Nat)  (p1:Pallet) (Ak:List Box) (Ad:(List Int)) (k4:List Shelf → Int → Option ((List Shelf))) (Aa:List Shelf) (Ab:Int):Option ((List Shelf)) :=
  bif (decide (Ab < ((Ad.length:Int)))) then Qad (ix Ad Ab) fun Ae=>Qad (ix Ak Ae) fun Ac=>bif (decide (((Aa.length:Int)) > 0)) then Qad (ix Aa (w64 (((Aa.length:Int)) - 1))) fun Af=>bif (decide ((w64 (Af.fW + Ac.fW)) ≤ p1.fW)) then Qad (ix Aa (w64 (((Aa.length:Int)) - 1))) fun Au=>bif (decide ((w64 (Af.fGram + Ac.fGram)) ≤ p1.fGram)) then Qad (ix Aa (w64 (((Aa.length:Int)) - 1))) fun Ar=>Qad (ix Ad Ab) fun Ap=>Qad (Qgk fu Af Ae Ac) fun Al=>Qad (ix Aa (w64 (((Aa.length:Int)) - 1))) fun Aq=>Qgd fu k4 Ab (Qjp Aa (w64 (((Aa.length:Int)) - 1)) Al) else Qad (ix Ad Ab) fun Av=>Qad (Qgk fu ((⟨[],0,0,0,0⟩:Shelf)) Ae Ac) fun Ai=>Qad (Qh3 56 Aa [Ai]) fun Ao=>Qgd fu k4 Ab Ao else Qad (ix Ad Ab) fun As=>Qad (Qgk fu ((⟨[],0,0,0,0⟩:Shelf)) Ae Ac) fun Ah=>Qad (Qh3 56 Aa [Ah]) fun Am=>Qgd fu k4 Ab Am else Qad (ix Ad Ab) fun At=>Qad (Qgk fu ((⟨[],0,0,0,0⟩:Shelf)) Ae Ac) fun Ag=>Qad (Qh3 56 Aa [Ag]) fun Aj=>Qgd fu k4 Ab Aj else some (Aa)
def Qd5 (fu:Nat)  (p1:Pallet) (Ab:List Box) (Aa:(List Int)):Nat → List Shelf → Int → Option ((List Shelf))
  | 0=>fun _ _=>none
  | n + 1=>Qli fu p1 Ab Aa (Qd5 fu p1 Ab Aa n)

def Qkk (fu:Nat)  (p1:Pallet) (Aa:List Box) (k1:List Int → Int → Option ((List Shelf))) (Ac:List Int) (Ab:Int):Option ((List Shelf)) :=
  bif (decide (Ab < ((Aa.length:Int)))) then Qad (ix Aa Ab) fun Ad=>Qad (Qh3 8 Ac (([Ad.fD]:List Int))) fun Ae=>k1 Ae (w64 (Ab + 1)) else Qad (Qgo fu Ac) fun Af=>Qd5 fu p1 Aa Af fu (([]:List Shelf)) 0
def Qgi (fu:Nat)  (p1:Pallet) (Aa:List Box):Nat → List Int → Int → Option ((List Shelf))
  | 0=>fun _ _=>none
  | n + 1=>Qkk fu p1 Aa (Qgi fu p1 Aa n)

def Qpd (fu:Nat) (p1:Pallet) (Aa:List Box):Option ((List Shelf)) :=
  Qad (Qme fu p1 Aa) fun Ab=>bif (!Ab) then some (([]:List Shelf)) else Qgi fu p1 Aa fu (([]:List Int)) 0

def Qp7 (fu:Nat) (p1:Pallet) (d2:Int) (h3:Int) (Aa:Int):Option (Bool) :=
  Qad (Qar fu d2 1 p1.fD) fun x8=>bif x8 then Qad (Qar fu h3 1 p1.fH) fun Ac=>bif Ac then Qad (Qar fu Aa 1 p1.fGram) fun Ab=>some (Ab) else some (false) else some (false)

def Qij (fu:Nat)  (p1:Pallet) (Ab:List Shelf) (k1:Int → Option (Bool)) (Aa:Int):Option (Bool) :=
  bif (decide (Aa < ((Ab.length:Int)))) then Qad (ix Ab Aa) fun Ac=>Qad (ix Ab Aa) fun Af=>Qad (ix Ab Aa) fun Ae=>Qad (Qp7 fu p1 Ac.fD Ac.fH Ac.fGram) fun Ad=>bif (!Ad) then some (false) else k1 (w64 (Aa + 1)) else some (true)
def Qev (fu:Nat)  (p1:Pallet) (Aa:List Shelf):Nat → Int → Option (Bool)
  | 0=>fun _=>none
  | n + 1=>Qij fu p1 Aa (Qev fu p1 Aa n)

def Ql9 (fu:Nat) (p1:Pallet) (Ab:List Shelf):Option (Bool) :=
  Qad (Qgm fu p1) fun Aa=>bif (!Aa) then some (false) else Qev fu p1 Ab fu 0

def Qm8 (fu:Nat) (k7:List Layer → Int → Option ((List Layer))) (Aa:Int) (Ab:List Layer):Option ((List Layer)) :=
  k7 Ab (w64 (Aa + 1))

def Qc2 (fu:Nat) (k7:List Layer → Int → Option ((List Layer))) (Ae:Int) (Ab:Shelf) (Ad:List Layer) (Ac:Int):Option ((List Layer)) :=
  Qad (ix Ad (w64 (Ac - 1))) fun Aa=>Qad (Qh3 8 (([]:List Int)) Aa.fShelves) fun Ah=>Qad (Qh3 8 Ah (([Ae]:List Int))) fun Ag=>Qad (Qkg fu Aa.fH Ab.fH) fun Af=>Qad (ix Ad (w64 (Ac - 1))) fun Ai=>Qm8 fu k7 Ae (Qjp Ad (w64 (Ac - 1)) ((⟨Ag,w64 (Aa.fD + Ab.fD),Af,w64 (Aa.fGram + Ab.fGram)⟩:Layer)))

def Qi6 (fu:Nat)  (p1:Pallet) (Ad:List Shelf) (k7:List Layer → Int → Option ((List Layer))) (Aa:List Layer) (Ac:Int):Option ((List Layer)) :=
  bif (decide (Ac < ((Ad.length:Int)))) then Qad (ix Ad Ac) fun Ab=>bif (((Aa.length:Int)) == 0) then Qad (Qh3 48 Aa [(⟨[],0,0,0⟩:Layer)]) fun Ah=>Qc2 fu k7 Ac Ab Ah (w64 (((Aa.length:Int)) + 1)) else Qad (ix Aa (w64 (((Aa.length:Int)) - 1))) fun Ae=>bif (decide ((w64 (Ae.fD + Ab.fD)) > p1.fD)) then Qad (Qh3 48 Aa [(⟨[],0,0,0⟩:Layer)]) fun Ag=>Qc2 fu k7 Ac Ab Ag (w64 (((Aa.length:Int)) + 1)) else Qad (ix Aa (w64 (((Aa.length:Int)) - 1))) fun Ai=>bif (decide ((w64 (Ae.fGram + Ab.fGram)) > p1.fGram)) then Qad (Qh3 48 Aa [(⟨[],0,0,0⟩:Layer)]) fun Af=>Qc2 fu k7 Ac Ab Af (w64 (((Aa.length:Int)) + 1)) else Qc2 fu k7 Ac Ab Aa ((Aa.length:Int)) else some (Aa)
def Qbm (fu:Nat)  (p1:Pallet) (Aa:List Shelf):Nat → List Layer → Int → Option ((List Layer))
  | 0=>fun _ _=>none
  | n + 1=>Qi6 fu p1 Aa (Qbm fu p1 Aa n)

def Qnj (fu:Nat) (p1:Pallet) (Aa:List Shelf):Option ((List Layer)) :=
  Qad (Ql9 fu p1 Aa) fun Ab=>bif (!Ab) then some (([]:List Layer)) else Qbm fu p1 Aa fu (([]:List Layer)) 0

def Qja (fu:Nat)  (p1:Pallet) (Ab:List Layer) (k1:Int → Option (Bool)) (Aa:Int):Option (Bool) :=
  bif (decide (Aa < ((Ab.length:Int)))) then Qad (ix Ab Aa) fun Ac=>Qad (ix Ab Aa) fun Af=>Qad (ix Ab Aa) fun Ae=>Qad (Qp7 fu p1 Ac.fD Ac.fH Ac.fGram) fun Ad=>bif (!Ad) then some (false) else k1 (w64 (Aa + 1)) else some (true)
def Qfs (fu:Nat)  (p1:Pallet) (Aa:List Layer):Nat → Int → Option (Bool)
  | 0=>fun _=>none
  | n + 1=>Qja fu p1 Aa (Qfs fu p1 Aa n)

def Qnw (fu:Nat) (p1:Pallet) (Ab:List Layer):Option (Bool) :=
  Qad (Qgm fu p1) fun Aa=>bif (!Aa) then some (false) else Qfs fu p1 Ab fu 0

def Qop (fu:Nat) (k7:List Load → Int → Option ((List Load))) (Ab:Int) (Aa:List Load):Option ((List Load)) :=
  k7 Aa (w64 (Ab + 1))

def Qdc (fu:Nat) (k7:List Load → Int → Option ((List Load))) (Ae:Int) (Ad:Layer) (Aa:List Load) (Ac:Int):Option ((List Load)) :=
  Qad (ix Aa (w64 (Ac - 1))) fun Ab=>Qad (Qh3 8 (([]:List Int)) Ab.fLayers) fun Ag=>Qad (Qh3 8 Ag (([Ae]:List Int))) fun Af=>Qad (ix Aa (w64 (Ac - 1))) fun Ah=>Qop fu k7 Ae (Qjp Aa (w64 (Ac - 1)) ((⟨Af,w64 (Ab.fH + Ad.fH),w64 (Ab.fGram + Ad.fGram)⟩:Load)))

def Qkm (fu:Nat)  (p1:Pallet) (Ae:List Layer) (k7:List Load → Int → Option ((List Load))) (Aa:List Load) (Ac:Int):Option ((List Load)) :=
  bif (decide (Ac < ((Ae.length:Int)))) then Qad (ix Ae Ac) fun Ab=>bif (((Aa.length:Int)) == 0) then Qad (Qh3 40 Aa [(⟨[],0,0⟩:Load)]) fun Af=>Qdc fu k7 Ac Ab Af (w64 (((Aa.length:Int)) + 1)) else Qad (ix Aa (w64 (((Aa.length:Int)) - 1))) fun Ad=>bif (decide ((w64 (Ad.fH + Ab.fH)) > p1.fH)) then Qad (Qh3 40 Aa [(⟨[],0,0⟩:Load)]) fun Ag=>Qdc fu k7 Ac Ab Ag (w64 (((Aa.length:Int)) + 1)) else Qad (ix Aa (w64 (((Aa.length:Int)) - 1))) fun Ai=>bif (decide ((w64 (Ad.fGram + Ab.fGram)) > p1.fGram)) then Qad (Qh3 40 Aa [(⟨[],0,0⟩:Load)]) fun Ah=>Qdc fu k7 Ac Ab Ah (w64 (((Aa.length:Int)) + 1)) else Qdc fu k7 Ac Ab Aa ((Aa.length:Int)) else some (Aa)
def Qbv (fu:Nat)  (p1:Pallet) (Aa:List Layer):Nat → List Load → Int → Option ((List Load))
  | 0=>fun _ _=>none
  | n + 1=>Qkm fu p1 Aa (Qbv fu p1 Aa n)

def Qo1 (fu:Nat) (p1:Pallet) (Aa:List Layer):Option ((List Load)) :=
  Qad (Qnw fu p1 Aa) fun Ab=>bif (!Ab) then some (([]:List Load)) else Qbv fu p1 Aa fu (([]:List Load)) 0

def Qkj (fu:Nat) (Al:List Spot → Int → Int → Option ((List Spot))) (Ah:List Box) (Am:Int) (Ai:Int) (Ae:Int) (Aj:Int) (Aa:Shelf) (Ak:List Spot → Int → Int → Option ((List Spot))) (Ad:List Spot) (Af:Int) (Ab:Int):Option ((List Spot)) :=
  bif (decide (Ab < ((Aa.fList.length:Int)))) then Qad (ix Aa.fList Ab) fun Ac=>Qad (ix Ad Ac) fun Ao=>Qad (ix Aa.fList Ab) fun Ap=>Qad (ix Ah Ac) fun Ag=>Ak (Qjp Ad Ac ((⟨Am,Af,Ae,Ai⟩:Spot))) (w64 (Af + Ag.fW)) (w64 (Ab + 1)) else Al Ad (w64 (Ae + Aa.fD)) (w64 (Aj + 1))
def Qge (fu:Nat) (Af:List Spot → Int → Int → Option ((List Spot))) (Aa:List Box) (Ag:Int) (Ab:Int) (Ae:Int) (Ac:Int) (Ad:Shelf):Nat → List Spot → Int → Int → Option ((List Spot))
  | 0=>fun _ _ _=>none
  | n + 1=>Qkj fu Af Aa Ag Ab Ae Ac Ad (Qge fu Af Aa Ag Ab Ae Ac Ad n)

def Qk9 (fu:Nat) (Ae:List Spot → Int → Int → Option ((List Spot))) (Ag:List Box) (Af:(List Shelf)) (Am:Int) (Ac:Int) (Ai:Int) (Ab:Layer) (Ak:List Spot → Int → Int → Option ((List Spot))) (Ad:List Spot) (Aj:Int) (Aa:Int):Option ((List Spot)) :=
  bif (decide (Aa < ((Ab.fShelves.length:Int)))) then Qad (ix Ab.fShelves Aa) fun Al=>Qad (ix Af Al) fun Ah=>Qge fu Ak Ag Am Ac Aj Aa Ah fu Ad 0 0 else Ae Ad (w64 (Ac + Ab.fH)) (w64 (Ai + 1))
def Qdd (fu:Nat) (Aa:List Spot → Int → Int → Option ((List Spot))) (Ac:List Box) (Ab:(List Shelf)) (Ag:Int) (Ad:Int) (Ae:Int) (Af:Layer):Nat → List Spot → Int → Int → Option ((List Spot))
  | 0=>fun _ _ _=>none
  | n + 1=>Qk9 fu Aa Ac Ab Ag Ad Ae Af (Qdd fu Aa Ac Ab Ag Ad Ae Af n)

def Qkq (fu:Nat) (Aj:List Spot → Int → Option ((List Spot))) (Ah:List Box) (Ag:(List Shelf)) (Ak:(List Layer)) (Ac:(List Load)) (Aa:Int) (Af:List Spot → Int → Int → Option ((List Spot))) (Ae:List Spot) (Ai:Int) (Ab:Int):Option ((List Spot)) :=
  Qad (ix Ac Aa) fun Ad=>bif (decide (Ab < ((Ad.fLayers.length:Int)))) then Qad (ix Ac Aa) fun Ao=>Qad (ix Ad.fLayers Ab) fun Am=>Qad (ix Ak Am) fun Al=>Qdd fu Af Ah Ag Aa Ai Ab Al fu Ae 0 0 else Aj Ae (w64 (Aa + 1))
def Qcc (fu:Nat) (Ad:List Spot → Int → Option ((List Spot))) (Ac:List Box) (Ab:(List Shelf)) (Ae:(List Layer)) (Aa:(List Load)) (Af:Int):Nat → List Spot → Int → Int → Option ((List Spot))
  | 0=>fun _ _ _=>none
  | n + 1=>Qkq fu Ad Ac Ab Ae Aa Af (Qcc fu Ad Ac Ab Ae Aa Af n)

def Qkt (fu:Nat)  (Ae:List Box) (Ad:(List Shelf)) (Ag:(List Layer)) (Aa:(List Load)) (Af:List Spot → Int → Option ((List Spot))) (Ab:List Spot) (Ac:Int):Option ((List Spot)) :=
  bif (decide (Ac < ((Aa.length:Int)))) then Qcc fu Af Ae Ad Ag Aa Ac fu Ab 0 0 else some (Ab)
def Qbn (fu:Nat)  (Ad:List Box) (Ac:(List Shelf)) (Aa:(List Layer)) (Ab:(List Load)):Nat → List Spot → Int → Option ((List Spot))
  | 0=>fun _ _=>none
  | n + 1=>Qkt fu Ad Ac Aa Ab (Qbn fu Ad Ac Aa Ab n)

def Qmk (fu:Nat) (p1:Pallet) (Aa:List Box):Option ((List Spot)) :=
  Qad (mk 32 (⟨(0:Int),(0:Int),(0:Int),(0:Int)⟩:Spot) ((Aa.length:Int))) fun Af=>Qad (Qme fu p1 Aa) fun Ae=>bif (!Ae) then some (([]:List Spot)) else Qad (Qpd fu p1 Aa) fun Ab=>Qad (Qnj fu p1 Ab) fun Ac=>Qad (Qo1 fu p1 Ac) fun Ad=>Qbn fu Aa Ab Ac Ad fu Af 0

def Qj0 (fu:Nat) (k3:Int → Int → Option (Int)) (Aa:Int) (Ab:Int):Option (Int) :=
  k3 Ab (w64 (Aa + 1))

def Qlw (fu:Nat)  (Ac:List Spot) (k3:Int → Int → Option (Int)) (Ab:Int) (Aa:Int):Option (Int) :=
  bif (decide (Aa < ((Ac.length:Int)))) then Qad (ix Ac Aa) fun Ad=>Qad (Qar fu Ad.fPallet 0 999999) fun Af=>bif Af then Qad (ix Ac Aa) fun Ag=>Qad (Qkg fu Ab (w64 (Ad.fPallet + 1))) fun Ae=>Qj0 fu k3 Aa Ae else Qj0 fu k3 Aa Ab else some (Ab)
def Qe7 (fu:Nat)  (Aa:List Spot):Nat → Int → Int → Option (Int)
  | 0=>fun _ _=>none
  | n + 1=>Qlw fu Aa (Qe7 fu Aa n)

def Qmh (fu:Nat) (Aa:List Spot):Option (Int) :=
  Qe7 fu Aa fu 0 0

def Ql8 (fu:Nat) (Ab:List Box → Int → Option (Plan × Bool)) (Ac:Int) (Aa:List Box):Option (Plan × Bool) :=
  Ab Aa (w64 (Ac + 1))

def Qmo (fu:Nat) (Ag:List Spot → Int → Int → Option (Plan × Bool)) (Ad:Int) (Ai:Int) (Ac:(List Spot)) (Ah:List Spot → Int → Option (Plan × Bool)) (Ae:List Spot) (Ab:Int):Option (Plan × Bool) :=
  bif (decide (Ab < ((Ac.length:Int)))) then Qad (ix Ac Ab) fun Aa=>Qad (Qh3 32 Ae (([(⟨w64 (Aa.fPallet + Ad),Aa.fX,Aa.fY,Aa.fZ⟩:Spot)]:List Spot))) fun Af=>Ah Af (w64 (Ab + 1)) else Qad (Qmh fu Ac) fun Aj=>Ag Ae (w64 (Ad + Aj)) (w64 (Ai + 1))
def Qf0 (fu:Nat) (Ad:List Spot → Int → Int → Option (Plan × Bool)) (Ab:Int) (Aa:Int) (Ac:(List Spot)):Nat → List Spot → Int → Option (Plan × Bool)
  | 0=>fun _ _=>none
  | n + 1=>Qmo fu Ad Ab Aa Ac (Qf0 fu Ad Ab Aa Ac n)

def Qne (fu:Nat) (Ai:List Spot → Int → Int → Option (Plan × Bool)) (r1:Request) (Ab:(List Carton)) (Aj:List Spot) (Ah:Int) (Af:Int) (Ae:List Box → Int → Option (Plan × Bool)) (Ac:List Box) (Aa:Int):Option (Plan × Bool) :=
  bif (decide (Aa < ((Ab.length:Int)))) then Qad (ix Ab Aa) fun Ad=>bif (Ad.fGroup == Af) then Qad (ix Ab Aa) fun Am=>Qad (Qke fu r1 Ad) fun Ak=>Qad (Qh3 32 Ac (([Ak]:List Box))) fun Ag=>Ql8 fu Ae Aa Ag else Ql8 fu Ae Aa Ac else Qad (Qmk fu r1.fPallet Ac) fun Al=>Qf0 fu Ai Ah Af Al fu Aj 0
def Qfz (fu:Nat) (Ac:List Spot → Int → Int → Option (Plan × Bool)) (r1:Request) (Aa:(List Carton)) (Ad:List Spot) (Ab:Int) (Ae:Int):Nat → List Box → Int → Option (Plan × Bool)
  | 0=>fun _ _=>none
  | n + 1=>Qne fu Ac r1 Aa Ad Ab Ae (Qfz fu Ac r1 Aa Ad Ab Ae n)

def Qmm (fu:Nat)  (r1:Request) (Aa:(List Carton)) (Af:(List (List Int))) (Ae:List Spot → Int → Int → Option (Plan × Bool)) (Ab:List Spot) (Ad:Int) (Ac:Int):Option (Plan × Bool) :=
  bif (decide (Ac < ((Af.length:Int)))) then Qfz fu Ae r1 Aa Ab Ad Ac fu (([]:List Box)) 0 else some ((⟨Aa,Ab⟩:Plan),true)
def Qcg (fu:Nat)  (r1:Request) (Aa:(List Carton)) (Ab:(List (List Int))):Nat → List Spot → Int → Int → Option (Plan × Bool)
  | 0=>fun _ _ _=>none
  | n + 1=>Qmm fu r1 Aa Ab (Qcg fu r1 Aa Ab n)

def Qqy (fu:Nat) (r1:Request):Option (Plan × Bool) :=
  Qad (Qem fu r1) fun Aa=>bif (Aa != 0) then some ((⟨[],[]⟩:Plan),false) else Qad (Ql6 fu r1) fun Ab=>Qad (Qgs fu r1) fun Ac=>Qcg fu r1 Ab Ac fu (([]:List Spot)) 0 0

def Qqw (fu:Nat) (x1:Carton):Option (Carton) :=
  Qad (Qh3 8 (([]:List Int)) x1.fUnits) fun Aa=>some ((⟨x1.fType,x1.fGroup,Aa⟩:Carton))

def Qcd (fu:Nat) (Aa:Request) (Ab:List Carton) (Ac:List Spot):Option (Request × Plan) :=
  some (Aa,(⟨Ab,Ac⟩:Plan))

def Qo8 (fu:Nat) (Ae:List U8):Option (Request × Plan) :=
  Qad (Qma fu Ae) fun Ad=>Qad (Qqy fu Ad) fun Aa=>Qad (Qqa fu Ae) fun Aj=>bif (((Aa.1.fCartons.length:Int)) == 0) then some (Ad,Aa.1) else Qad (Qaq fu ((⟨Ae,Aj.fi,Aj.fh⟩:Cur)) ((Aa.1.fCartons.length:Int))) fun Ac=>Qad (Qaq fu ((⟨Ae,Ac.2.fi,Ac.2.fh⟩:Cur)) 14) fun Ab=>bif (Ab.1 == 0) then Qad (ix Aa.1.fSpots Ac.1) fun Ag=>Qad (ix Aa.1.fSpots Ac.1) fun Az=>Qcd fu Ad Aa.1.fCartons (Qjp Aa.1.fSpots Ac.1 ({ Ag with fX:=w64 (Ag.fX + 1) })) else bif (Ab.1 == 1) then Qad (Qaq fu ((⟨Ae,Ab.2.fi,Ab.2.fh⟩:Cur)) 3) fun Al=>Qad (ix Aa.1.fSpots Ac.1) fun Ay=>Qcd fu Ad Aa.1.fCartons (Qjp Aa.1.fSpots Ac.1 ({ Ay with fPallet:=Al.1 })) else bif (Ab.1 == 2) then Qad (Qbw fu ((⟨Ae,Ab.2.fi,Ab.2.fh⟩:Cur)) (([7,10,11,99,(-1)]:List Int))) fun Am=>Qad (ix Aa.1.fCartons Ac.1) fun Ah=>Qcd fu Ad (Qjp Aa.1.fCartons Ac.1 ((⟨Am.1,Ah.fGroup,Ah.fUnits⟩:Carton))) Aa.1.fSpots else bif (Ab.1 == 3) then Qad (ix Aa.1.fCartons Ac.1) fun Af=>Qad (Qaq fu ((⟨Ae,Ab.2.fi,Ab.2.fh⟩:Cur)) 14) fun Aw=>Qad (Qh3 8 Af.fUnits (([w64 (Aw.1 - 1)]:List Int))) fun Ap=>Qad (ix Aa.1.fCartons Ac.1) fun Ba=>Qcd fu Ad (Qjp Aa.1.fCartons Ac.1 ((⟨Af.fType,Af.fGroup,Ap⟩:Carton))) Aa.1.fSpots else bif (Ab.1 == 4) then Qad (ix Aa.1.fCartons Ac.1) fun Ai=>Qcd fu Ad (Qjp Aa.1.fCartons Ac.1 ((⟨Ai.fType,Ai.fGroup,[]⟩:Carton))) Aa.1.fSpots else bif (Ab.1 == 5) then Qad (sls Aa.1.fSpots 1 (Aa.1.fSpots.length:Int)) fun Au=>Qcd fu Ad Aa.1.fCartons Au else bif (Ab.1 == 6) then Qad (Qaq fu ((⟨Ae,Ab.2.fi,Ab.2.fh⟩:Cur)) 6) fun Ax=>Qad (ix Aa.1.fCartons Ac.1) fun Ak=>Qcd fu Ad (Qjp Aa.1.fCartons Ac.1 ((⟨Ak.fType,w64 (Ax.1 - 1),Ak.fUnits⟩:Carton))) Aa.1.fSpots else bif (Ab.1 == 7) then Qad (ix Aa.1.fCartons Ac.1) fun As=>Qad (Qqw fu As) fun Aq=>Qad (Qh3 40 Aa.1.fCartons [Aq]) fun Ao=>Qad (Qh3 32 Aa.1.fSpots (([(⟨9,0,0,0⟩:Spot)]:List Spot))) fun At=>Qcd fu Ad Ao At else bif (Ab.1 == 8) then Qad (Qbw fu ((⟨Ae,Ab.2.fi,Ab.2.fh⟩:Cur)) (([0,2000,2001,(-1)]:List Int))) fun Ar=>Qad (ix Aa.1.fSpots Ac.1) fun Av=>Qcd fu Ad Aa.1.fCartons (Qjp Aa.1.fSpots Ac.1 ({ Av with fZ:=Ar.1 })) else Qcd fu Ad Aa.1.fCartons Aa.1.fSpots

def Qpw (fu:Nat) (Ab:List U8):Option (Request × Plan) :=
  Qad (Qo8 fu Ab) fun Aa=>some (Aa.1,Aa.2)

def Qob (fu:Nat) (t1:Typ) (x2:Int):Option (Bool) :=
  some (t1.fId == x2)

def Qb5 (fu:Nat)  (Ab:List Typ) (f5:Typ → Option Bool) (k1:Int → Option (Int)) (Aa:Int):Option (Int) :=
  bif (decide (Aa < ((Ab.length:Int)))) then Qad (ix Ab Aa) fun Ac=>Qad (f5 Ac) fun Ad=>bif Ad then some (Aa) else k1 (w64 (Aa + 1)) else some ((-1))
def Qba (fu:Nat)  (Aa:List Typ) (f5:Typ → Option Bool):Nat → Int → Option (Int)
  | 0=>fun _=>none
  | n + 1=>Qb5 fu Aa f5 (Qba fu Aa f5 n)

def Qbk (fu:Nat) (Aa:List Typ) (f5:Typ → Option Bool):Option (Int) :=
  Qba fu Aa f5 fu 0

def Qfp (fu:Nat) (r1:Request) (Ac:Int):Option (Typ × Bool) :=
  Qad (Qbk fu r1.fTypes (fun Ad=>Qob fu Ad Ac)) fun Aa=>bif (decide (Aa < 0)) then some ((⟨0,0,0,0,0,0,0⟩:Typ),false) else Qad (ix r1.fTypes Aa) fun Ab=>some (Ab,true)

def Qjq (fu:Nat) (r1:Request):Option (Typ × Bool) :=
  Qad (Qfp fu r1 r1.fMaster) fun Aa=>some (Aa.1,Aa.2)

def Qca (fu:Nat) (n1:Int) (Ab:Int) (Aa:Int):Option (Bool) :=
  bif (decide (n1 ≥ Ab)) then some (decide (n1 ≤ Aa)) else some (false)

def Qcu (fu:Nat) (n1:Int):Option (Bool) :=
  Qad (Qca fu n1 1 2000) fun x2=>some (x2)

def Qn1 (fu:Nat) (x1:Pallet):Option (Bool) :=
  Qad (Qcu fu x1.fW) fun x5=>bif x5 then Qad (Qcu fu x1.fD) fun Aa=>bif Aa then Qad (Qcu fu x1.fH) fun Ac=>bif Ac then Qad (Qca fu x1.fGram 1 100000) fun Ab=>some (Ab) else some (false) else some (false) else some (false)

def Qb7 (fu:Nat)  (Ab:List Pair) (f5:Pair → Option Bool) (k1:Int → Option (Int)) (Aa:Int):Option (Int) :=
  bif (decide (Aa < ((Ab.length:Int)))) then Qad (ix Ab Aa) fun Ac=>Qad (f5 Ac) fun Ad=>bif Ad then some (Aa) else k1 (w64 (Aa + 1)) else some ((-1))
def Qa9 (fu:Nat)  (Aa:List Pair) (f5:Pair → Option Bool):Nat → Int → Option (Int)
  | 0=>fun _=>none
  | n + 1=>Qb7 fu Aa f5 (Qa9 fu Aa f5 n)

def Qb0 (fu:Nat) (Aa:List Pair) (f5:Pair → Option Bool):Option (Int) :=
  Qa9 fu Aa f5 fu 0

def Qa8 (fu:Nat) (Aa:List Pair) (f5:Pair → Option Bool):Option (Bool) :=
  Qad (Qb0 fu Aa f5) fun Ab=>some (decide (Ab ≥ 0))

def Qjy (fu:Nat) (p1:Pair):Option (Bool) :=
  Qad (Qca fu p1.fA 0 3) fun x5=>bif (!x5) then some (true) else Qad (Qca fu p1.fB 0 3) fun Aa=>some (!Aa)

def Qay (fu:Nat) (Aa:List Typ) (f5:Typ → Option Bool):Option (Bool) :=
  Qad (Qbk fu Aa f5) fun Ab=>some (decide (Ab ≥ 0))

def Qrb (fu:Nat) (x1:Typ):Option (Bool) :=
  Qad (Qca fu x1.fId 0 999) fun x5=>bif x5 then Qad (Qcu fu x1.fW) fun Ac=>bif Ac then Qad (Qcu fu x1.fH) fun Ab=>bif Ab then Qad (Qcu fu x1.fD) fun Af=>bif Af then Qad (Qca fu x1.fTare 0 100000) fun Aa=>bif Aa then Qad (Qca fu x1.fGram 1 100000) fun Ad=>bif Ad then Qad (Qca fu x1.fCost 0 100000) fun Ae=>some (Ae) else some (false) else some (false) else some (false) else some (false) else some (false) else some (false)

def Qjr (fu:Nat) (t1:Typ):Option (Bool) :=
  Qad (Qrb fu t1) fun x5=>some (!x5)

def Qq3 (fu:Nat) (x1:Item):Option (Bool) :=
  Qad (Qca fu x1.fId 0 999) fun x5=>bif x5 then Qad (Qcu fu x1.fW) fun Ac=>bif Ac then Qad (Qcu fu x1.fH) fun Ab=>bif Ab then Qad (Qcu fu x1.fD) fun Af=>bif Af then Qad (Qca fu x1.fGram 1 100000) fun Aa=>bif Aa then Qad (Qca fu x1.fClass 0 3) fun Ad=>bif Ad then Qad (Qca fu x1.fCount 1 6) fun Ae=>some (Ae) else some (false) else some (false) else some (false) else some (false) else some (false) else some (false)

def Qi2 (fu:Nat)  (r1:Request) (k3:Int → Int → Option (Bool)) (Ac:Int) (Aa:Int):Option (Bool) :=
  bif (decide (Aa < ((r1.fItems.length:Int)))) then Qad (ix r1.fItems Aa) fun Ab=>Qad (Qq3 fu Ab) fun Ad=>bif (!Ad) then some (false) else k3 (w64 (Ac + Ab.fCount)) (w64 (Aa + 1)) else some (decide (Ac ≤ 12))
def Qek (fu:Nat)  (r1:Request):Nat → Int → Int → Option (Bool)
  | 0=>fun _ _=>none
  | n + 1=>Qi2 fu r1 (Qek fu r1 n)

def Qnc (fu:Nat) (r1:Request)  : Option (Bool) :=
  Qek fu r1 fu 0 0

def Qm6 (fu:Nat) (r1:Request)  : Option (Bool) :=
  Qad (Qa8 fu r1.fPairs (fun Ae=>Qjy fu Ae)) fun Aa=>bif Aa then some (false) else Qad (Qca fu ((r1.fTypes.length:Int)) 1 5) fun Af=>bif (!Af) then some (false) else Qad (Qay fu r1.fTypes (fun Ad=>Qjr fu Ad)) fun Ac=>bif Ac then some (false) else Qad (Qca fu r1.fMaster 0 999) fun Ab=>bif (!Ab) then some (false) else bif (decide (((r1.fItems.length:Int)) > 8)) then some (false) else Qnc fu r1

def Qni (fu:Nat) (r1:Request):Option (Bool) :=
  Qad (Qca fu r1.fWay 0 1) fun Ab=>bif (!Ab) then some (false) else Qad (Qn1 fu r1.fPallet) fun Aa=>bif (!Aa) then some (false) else Qad (Qca fu r1.fClasses 1 4) fun Ac=>bif (!Ac) then some (false) else bif (decide (((r1.fPairs.length:Int)) > 16)) then some (false) else Qm6 fu r1

def Qpx (fu:Nat) (q1:Typ) (x2:Typ):Option (Bool) :=
  some (q1.fId == x2.fId)

def Qpv (fu:Nat) (q1:Item) (x2:Item):Option (Bool) :=
  some (q1.fId == x2.fId)

def Qb6 (fu:Nat)  (Ab:List Item) (f5:Item → Option Bool) (k1:Int → Option (Int)) (Aa:Int):Option (Int) :=
  bif (decide (Aa < ((Ab.length:Int)))) then Qad (ix Ab Aa) fun Ac=>Qad (f5 Ac) fun Ad=>bif Ad then some (Aa) else k1 (w64 (Aa + 1)) else some ((-1))
def Qa7 (fu:Nat)  (Aa:List Item) (f5:Item → Option Bool):Nat → Int → Option (Int)
  | 0=>fun _=>none
  | n + 1=>Qb6 fu Aa f5 (Qa7 fu Aa f5 n)

def Qbz (fu:Nat) (Aa:List Item) (f5:Item → Option Bool):Option (Int) :=
  Qa7 fu Aa f5 fu 0

def Qax (fu:Nat) (Aa:List Item) (f5:Item → Option Bool):Option (Bool) :=
  Qad (Qbz fu Aa f5) fun Ab=>some (decide (Ab ≥ 0))

def Ql4 (fu:Nat) (p1:Pair) (x2:Request):Option (Bool) :=
  bif (decide (p1.fA ≥ x2.fClasses)) then some (true) else some (decide (p1.fB ≥ x2.fClasses))

def Qn5 (fu:Nat) (k4:Int → Option (Bool)) (Aa:Int)  : Option (Bool) :=
  k4 (w64 (Aa + 1))

def Qlx (fu:Nat)  (r1:Request) (k4:Int → Option (Bool)) (Aa:Int):Option (Bool) :=
  bif (decide (Aa < ((r1.fItems.length:Int)))) then Qad (ix r1.fItems Aa) fun Ab=>bif (decide (Ab.fClass ≥ r1.fClasses)) then some (false) else Qad (sls r1.fItems 0 Aa) fun Ah=>Qad (Qax fu Ah (fun Ae=>Qpv fu Ae Ab)) fun Ac=>bif Ac then some (false) else Qn5 fu k4 Aa else Qad (Qjq fu r1) fun Ad=>bif Ad.2 then Qad (Qa8 fu r1.fPairs (fun Af=>Ql4 fu Af r1)) fun Ag=>some (!Ag) else some (false)
def Qdb (fu:Nat)  (r1:Request):Nat → Int → Option (Bool)
  | 0=>fun _=>none
  | n + 1=>Qlx fu r1 (Qdb fu r1 n)

def Qkx (fu:Nat)  (r1:Request) (k1:Int → Option (Bool)) (Aa:Int):Option (Bool) :=
  bif (decide (Aa < ((r1.fTypes.length:Int)))) then Qad (ix r1.fTypes Aa) fun Ad=>Qad (sls r1.fTypes 0 Aa) fun Ae=>Qad (Qay fu Ae (fun Ac=>Qpx fu Ac Ad)) fun Ab=>bif Ab then some (false) else k1 (w64 (Aa + 1)) else Qdb fu r1 fu 0
def Qfa (fu:Nat)  (r1:Request):Nat → Int → Option (Bool)
  | 0=>fun _=>none
  | n + 1=>Qkx fu r1 (Qfa fu r1 n)

def Qoy (fu:Nat) (r1:Request):Option (Bool) :=
  Qfa fu r1 fu 0

def Qcq (fu:Nat)  (Ab:List Pair) (v5:Pair) (k1:Int → Option (Int)) (Aa:Int):Option (Int) :=
  bif (decide (Aa < ((Ab.length:Int)))) then Qad (ix Ab Aa) fun Ac=>bif (decide (v5 = Ac)) then some (Aa) else k1 (w64 (Aa + 1)) else some ((-1))
def Qbg (fu:Nat)  (Aa:List Pair) (v5:Pair):Nat → Int → Option (Int)
  | 0=>fun _=>none
  | n + 1=>Qcq fu Aa v5 (Qbg fu Aa v5 n)

def Qda (fu:Nat) (Aa:List Pair) (v5:Pair):Option (Int) :=
  Qbg fu Aa v5 fu 0

def Qcv (fu:Nat) (Ab:List Pair) (v5:Pair):Option (Bool) :=
  Qad (Qda fu Ab v5) fun Aa=>some (decide (Aa ≥ 0))

def Qg4 (fu:Nat) (Aa:List Pair) (a5:Int) (b6:Int):Option (Bool) :=
  Qad (Qcv fu Aa ((⟨a5,b6⟩:Pair))) fun x7=>some (x7)

def Qkl (fu:Nat) (k3:Int → Option (Bool)) (Ac:List Pair) (Ad:Int) (Ab:Int) (k4:Int → Option (Bool)) (Aa:Int):Option (Bool) :=
  bif (decide (Aa < Ad)) then Qad (Qg4 fu Ac Ab Aa) fun Af=>Qad (Qg4 fu Ac Aa Ab) fun Ae=>bif (!(Af == Ae)) then some (false) else k4 (w64 (Aa + 1)) else k3 (w64 (Ab + 1))
def Qe9 (fu:Nat) (k3:Int → Option (Bool)) (Ac:List Pair) (Ab:Int) (Aa:Int):Nat → Int → Option (Bool)
  | 0=>fun _=>none
  | n + 1=>Qkl fu k3 Ac Ab Aa (Qe9 fu k3 Ac Ab Aa n)

def Qlj (fu:Nat)  (Ac:List Pair) (Ab:Int) (k3:Int → Option (Bool)) (Aa:Int):Option (Bool) :=
  bif (decide (Aa < Ab)) then Qad (Qg4 fu Ac Aa Aa) fun Ad=>bif (!Ad) then some (false) else Qe9 fu k3 Ac Ab Aa fu 0 else some (true)
def Qez (fu:Nat)  (Ab:List Pair) (Aa:Int):Nat → Int → Option (Bool)
  | 0=>fun _=>none
  | n + 1=>Qlj fu Ab Aa (Qez fu Ab Aa n)

def Qpe (fu:Nat) (Ab:List Pair) (Aa:Int):Option (Bool) :=
  Qad (Qca fu Aa 1 4) fun x6=>bif (!x6) then some (false) else Qez fu Ab Aa fu 0

def Qc4 (fu:Nat) (x1:List Int):Option (List Int):=Q0z x1

def Qrv (fu:Nat) (x1:Item) (t2:Typ) (Ag:List Int) (Af:List Int):Option (Bool) :=
  Qad (Qc4 fu Ag) fun Aa=>Qad (Qc4 fu Af) fun Ab=>Qad (ix Aa 0) fun Ai=>Qad (ix Ab 0) fun Ae=>bif (decide (Ai ≤ Ae)) then Qad (ix Aa 1) fun Ah=>Qad (ix Ab 1) fun Aj=>bif (decide (Ah ≤ Aj)) then Qad (ix Aa 2) fun Ad=>Qad (ix Ab 2) fun Ac=>bif (decide (Ad ≤ Ac)) then some (decide (x1.fGram ≤ t2.fGram)) else some (false) else some (false) else some (false)

def Qrj (fu:Nat) (x1:Item) (t2:Typ):Option (Bool) :=
  Qrv fu x1 t2 (([x1.fW,x1.fH,x1.fD]:List Int)) (([t2.fW,t2.fH,t2.fD]:List Int))

def Qpg (fu:Nat) (x1:Item) (x2:Typ):Option (Bool) :=
  Qad (Qrj fu x1 x2) fun x8=>some (!x8)

def Qo2 (fu:Nat) (t1:Typ) (x2:Pallet):Option (Bool) :=
  bif (decide (t1.fW > x2.fW)) then some (true) else bif (decide (t1.fD > x2.fD)) then some (true) else bif (decide (t1.fH > x2.fH)) then some (true) else some (decide ((w64 (t1.fTare + t1.fGram)) > x2.fGram))

def Qr2 (fu:Nat) (r1:Request):Option (Int) :=
  Qad (Qjq fu r1) fun Ac=>Qad (Qni fu r1) fun Ae=>bif (!Ae) then some (2) else Qad (Qoy fu r1) fun Ad=>bif (!Ad) then some (3) else Qad (Qpe fu r1.fPairs r1.fClasses) fun Ah=>bif (!Ah) then some (4) else Qad (Qax fu r1.fItems (fun Aa=>Qpg fu Aa Ac.1)) fun Af=>bif Af then some (5) else Qad (Qay fu r1.fTypes (fun Ab=>Qo2 fu Ab r1.fPallet)) fun Ag=>bif Ag then some (6) else some (0)

def Qgr (fu:Nat) (r1:Request):Option (Bool) :=
  Qad (Qr2 fu r1) fun Aa=>some (Aa == 0)

def Qgy (fu:Nat) (k3:Int → Option (Bool)) (Aa:Int)  : Option (Bool) :=
  k3 (w64 (Aa + 1))

def Qht (fu:Nat)  (Ab:List Int) (k3:Int → Option (Bool)) (Aa:Int):Option (Bool) :=
  bif (decide (Aa < ((Ab.length:Int)))) then Qad (ix Ab Aa) fun Ac=>Qad (Qca fu Ac 0 999) fun Ad=>bif (!Ad) then some (false) else bif (decide (Aa > 0)) then Qad (ix Ab (w64 (Aa - 1))) fun Ae=>bif (decide (Ae ≥ Ac)) then some (false) else Qgy fu k3 Aa else Qgy fu k3 Aa else some (decide (((Ab.length:Int)) ≤ 100))
def Qdk (fu:Nat)  (Aa:List Int):Nat → Int → Option (Bool)
  | 0=>fun _=>none
  | n + 1=>Qht fu Aa (Qdk fu Aa n)

def Qj2 (fu:Nat) (Aa:List Int):Option (Bool) :=
  Qdk fu Aa fu 0

def Qb9 (fu:Nat) (n1:Int):Option (Bool) :=
  Qad (Qca fu n1 0 2000) fun x2=>some (x2)

def Qpp (fu:Nat) (k4:Int → Option (Bool)) (Aa:Int)  : Option (Bool) :=
  k4 (w64 (Aa + 1))

def Qnd (fu:Nat)  (x1:Plan) (k4:Int → Option (Bool)) (Ab:Int):Option (Bool) :=
  bif (decide (Ab < ((x1.fCartons.length:Int)))) then Qad (ix x1.fCartons Ab) fun Ac=>Qad (ix x1.fSpots Ab) fun Aa=>Qad (Qca fu Ac.fType 0 999) fun Ag=>bif (!Ag) then some (false) else Qad (Qca fu Ac.fGroup 0 3) fun Ae=>bif (!Ae) then some (false) else Qad (Qj2 fu Ac.fUnits) fun Ad=>bif (!Ad) then some (false) else Qad (Qb9 fu Aa.fPallet) fun Ah=>bif (!Ah) then some (false) else Qad (Qb9 fu Aa.fX) fun Aj=>bif (!Aj) then some (false) else Qad (Qb9 fu Aa.fY) fun Ai=>bif (!Ai) then some (false) else Qad (Qb9 fu Aa.fZ) fun Af=>bif (!Af) then some (false) else Qpp fu k4 Ab else some (true)
def Qf1 (fu:Nat)  (x1:Plan):Nat → Int → Option (Bool)
  | 0=>fun _=>none
  | n + 1=>Qnd fu x1 (Qf1 fu x1 n)

def Qpr (fu:Nat) (x1:Plan)  : Option (Bool) :=
  Qf1 fu x1 fu 0

def Qqv (fu:Nat) (x1:Plan):Option (Bool) :=
  bif (((x1.fSpots.length:Int)) != ((x1.fCartons.length:Int))) then some (false) else bif (decide (((x1.fCartons.length:Int)) > 100)) then some (false) else Qpr fu x1

def Qbx (fu:Nat)  (Ab:List Carton) (f5:Carton → Option Bool) (k1:Int → Option (Int)) (Aa:Int):Option (Int) :=
  bif (decide (Aa < ((Ab.length:Int)))) then Qad (ix Ab Aa) fun Ac=>Qad (f5 Ac) fun Ad=>bif Ad then some (Aa) else k1 (w64 (Aa + 1)) else some ((-1))
def Qa1 (fu:Nat)  (Aa:List Carton) (f5:Carton → Option Bool):Nat → Int → Option (Int)
  | 0=>fun _=>none
  | n + 1=>Qbx fu Aa f5 (Qa1 fu Aa f5 n)

def Qbr (fu:Nat) (Aa:List Carton) (f5:Carton → Option Bool):Option (Int) :=
  Qa1 fu Aa f5 fu 0

def Qbi (fu:Nat) (Aa:List Carton) (f5:Carton → Option Bool):Option (Bool) :=
  Qad (Qbr fu Aa f5) fun Ab=>some (decide (Ab ≥ 0))

def Qrp (fu:Nat) (c1:Carton):Option (Bool) :=
  some (((c1.fUnits.length:Int)) == 0)

def Qjj (fu:Nat)  (x1:Plan) (k1:List Int → Int → Option ((List Int))) (Ab:List Int) (Aa:Int):Option ((List Int)) :=
  bif (decide (Aa < ((x1.fCartons.length:Int)))) then Qad (ix x1.fCartons Aa) fun Ac=>Qad (Qh3 8 Ab Ac.fUnits) fun Ad=>k1 Ad (w64 (Aa + 1)) else some (Ab)
def Qfi (fu:Nat)  (x1:Plan):Nat → List Int → Int → Option ((List Int))
  | 0=>fun _ _=>none
  | n + 1=>Qjj fu x1 (Qfi fu x1 n)

def Qjt (fu:Nat) (x1:Plan):Option ((List Int)) :=
  Qfi fu x1 fu (([]:List Int)) 0

def Qt6 (fu:Nat) (x1:Int) (y2:Int):Option (Int × Int) :=
  some (IntKind.wrap .u64 ((IntKind.wrap .u64 ((IntKind.wrap .u64 ((Int.fdiv x1 (2 ^ (min 32 (IntKind.bits .u64)))) * (Int.fdiv y2 (2 ^ (min 32 (IntKind.bits .u64)))))) + (Int.fdiv (IntKind.wrap .u64 ((IntKind.wrap .u64 ((Int.fdiv x1 (2 ^ (min 32 (IntKind.bits .u64)))) * (IntKind.wrap .u64 (((BitVec.ofInt (IntKind.bits .u64) y2 &&& BitVec.ofInt (IntKind.bits .u64) 4294967295).toNat:Nat):Int)))) + (Int.fdiv (IntKind.wrap .u64 ((IntKind.wrap .u64 (((BitVec.ofInt (IntKind.bits .u64) x1 &&& BitVec.ofInt (IntKind.bits .u64) 4294967295).toNat:Nat):Int)) * (IntKind.wrap .u64 (((BitVec.ofInt (IntKind.bits .u64) y2 &&& BitVec.ofInt (IntKind.bits .u64) 4294967295).toNat:Nat):Int)))) (2 ^ (min 32 (IntKind.bits .u64)))))) (2 ^ (min 32 (IntKind.bits .u64)))))) + (Int.fdiv (IntKind.wrap .u64 ((IntKind.wrap .u64 (((BitVec.ofInt (IntKind.bits .u64) (IntKind.wrap .u64 ((IntKind.wrap .u64 ((Int.fdiv x1 (2 ^ (min 32 (IntKind.bits .u64)))) * (IntKind.wrap .u64 (((BitVec.ofInt (IntKind.bits .u64) y2 &&& BitVec.ofInt (IntKind.bits .u64) 4294967295).toNat:Nat):Int)))) + (Int.fdiv (IntKind.wrap .u64 ((IntKind.wrap .u64 (((BitVec.ofInt (IntKind.bits .u64) x1 &&& BitVec.ofInt (IntKind.bits .u64) 4294967295).toNat:Nat):Int)) * (IntKind.wrap .u64 (((BitVec.ofInt (IntKind.bits .u64) y2 &&& BitVec.ofInt (IntKind.bits .u64) 4294967295).toNat:Nat):Int)))) (2 ^ (min 32 (IntKind.bits .u64)))))) &&& BitVec.ofInt (IntKind.bits .u64) 4294967295).toNat:Nat):Int)) + (IntKind.wrap .u64 ((IntKind.wrap .u64 (((BitVec.ofInt (IntKind.bits .u64) x1 &&& BitVec.ofInt (IntKind.bits .u64) 4294967295).toNat:Nat):Int)) * (Int.fdiv y2 (2 ^ (min 32 (IntKind.bits .u64)))))))) (2 ^ (min 32 (IntKind.bits .u64))))),IntKind.wrap .u64 (x1 * y2))

def Qud (fu:Nat) (x1:Int) (y2:Int):Option (Int × Int) :=
  Qad (Qt6 fu x1 y2) fun x3=>some (x3.1,x3.2)

def Qmn (fu:Nat)   (k3:List Int → Int → Option ((List Int))) (Aa:List Int) (Ab:Int):Option ((List Int)) :=
  bif (decide (Ab < ((Aa.length:Int)))) then Qad (sls Aa Ab (Aa.length:Int)) fun Ad=>Qad (sls Aa 0 Ab) fun Ac=>k3 (cpd Aa Ab Ac) (w64 (Ab + (cpn Aa Ab Ac))) else some (Aa)
def Qf5 (fu:Nat)   : Nat → List Int → Int → Option ((List Int))
  | 0=>fun _ _=>none
  | n + 1=>Qmn fu  (Qf5 fu  n)

def Qbs (fu:Nat) (x1:List Int) (x8:Int × Int)  : Option ((List Int)) :=
  Qad (mk 8 (0:Int) (w64 x8.2)) fun Aa=>Qf5 fu fu (cpd Aa 0 x1) (cpn Aa 0 x1)

def Qf4 (fu:Nat) (x1:List Int) (Aa:Int)  : Option ((List Int)) :=
  Qad (Qud fu (IntKind.wrap .u64 ((x1.length:Int))) (IntKind.wrap .u64 Aa)) fun x8=>bif (decide (x8.1 > 0)) then none else bif (decide (x8.2 > 9223372036854775807)) then none else Qbs fu x1 x8

def Qff (fu:Nat) (x1:List Int) (Aa:Int):Option ((List Int)) :=
  bif (decide (Aa < 0)) then none else Qf4 fu x1 Aa

def Qoj (fu:Nat)  (r1:Request) (k1:List Int → Int → Option ((List Int))) (Ab:List Int) (Aa:Int):Option ((List Int)) :=
  bif (decide (Aa < ((r1.fItems.length:Int)))) then Qad (ix r1.fItems Aa) fun Ae=>Qad (Qff fu (([Aa]:List Int)) Ae.fCount) fun Ac=>Qad (Qh3 8 Ab Ac) fun Ad=>k1 Ad (w64 (Aa + 1)) else some (Ab)
def Qhj (fu:Nat)  (r1:Request):Nat → List Int → Int → Option ((List Int))
  | 0=>fun _ _=>none
  | n + 1=>Qoj fu r1 (Qhj fu r1 n)

def Qkd (fu:Nat) (r1:Request):Option ((List Int)) :=
  Qad (Qgr fu r1) fun Aa=>bif (!Aa) then some (([]:List Int)) else Qhj fu r1 fu (([]:List Int)) 0

def Qmr (fu:Nat)  (n1:Int) (k1:List Int → Int → Option ((List Int))) (Ab:List Int) (Aa:Int):Option ((List Int)) :=
  bif (decide (Aa < n1)) then Qad (Qh3 8 Ab (([Aa]:List Int))) fun Ac=>k1 Ac (w64 (Aa + 1)) else some (Ab)
def Qgv (fu:Nat)  (n1:Int):Nat → List Int → Int → Option ((List Int))
  | 0=>fun _ _=>none
  | n + 1=>Qmr fu n1 (Qgv fu n1 n)

def Qof (fu:Nat) (n1:Int):Option ((List Int)) :=
  Qgv fu n1 fu (([]:List Int)) 0

def Qft (fu:Nat)  (Ab:List Int) (Ac:List Int) (k1:Int → Option (Bool)) (Aa:Int):Option (Bool) :=
  bif (decide (Aa < ((Ab.length:Int)))) then Qad (ix Ab Aa) fun Ad=>Qad (ix Ac Aa) fun Ae=>bif (Ad != Ae) then some (false) else k1 (w64 (Aa + 1)) else some (true)
def Qct (fu:Nat)  (Aa:List Int) (Ab:List Int):Nat → Int → Option (Bool)
  | 0=>fun _=>none
  | n + 1=>Qft fu Aa Ab (Qct fu Aa Ab n)

def Qf6 (fu:Nat) (Aa:List Int) (Ab:List Int):Option (Bool) :=
  bif (((Aa.length:Int)) != ((Ab.length:Int))) then some (false) else Qct fu Aa Ab fu 0

def Qen (fu:Nat) (Ab:List Int):Option ((List Int)) :=
  Qad (Qh3 8 (([]:List Int)) Ab) fun Aa=>some (Aa)

def Qpu (fu:Nat) (u1:Int) (x2:Int):Option (Bool) :=
  Qad (Qca fu u1 0 (w64 (x2 - 1))) fun x5=>some (!x5)

def Qd9 (fu:Nat)  (Ab:List Int) (f5:Int → Option Bool) (k1:Int → Option (Int)) (Aa:Int):Option (Int) :=
  bif (decide (Aa < ((Ab.length:Int)))) then Qad (ix Ab Aa) fun Ac=>Qad (f5 Ac) fun Ad=>bif Ad then some (Aa) else k1 (w64 (Aa + 1)) else some ((-1))
def Qb1 (fu:Nat)  (Aa:List Int) (f5:Int → Option Bool):Nat → Int → Option (Int)
  | 0=>fun _=>none
  | n + 1=>Qd9 fu Aa f5 (Qb1 fu Aa f5 n)

def Qc6 (fu:Nat) (Aa:List Int) (f5:Int → Option Bool):Option (Int) :=
  Qb1 fu Aa f5 fu 0

def Qc3 (fu:Nat) (k3:List Int → Int → Int → Option ((List Int))) (Ac:Int) (Aa:List Int) (Ab:Int):Option ((List Int)) :=
  k3 Aa Ab (w64 (Ac + 1))

def Qdv (fu:Nat)  (f5:Int → Option Bool) (k3:List Int → Int → Int → Option ((List Int))) (Aa:List Int) (Ab:Int) (Ac:Int):Option ((List Int)) :=
  bif (decide (Ac < ((Aa.length:Int)))) then Qad (ix Aa Ac) fun Ad=>Qad (f5 Ad) fun Af=>bif (!Af) then Qad (ix Aa Ab) fun Ah=>Qc3 fu k3 Ac (Qjp Aa Ab Ad) (w64 (Ab + 1)) else Qc3 fu k3 Ac Aa Ab else Qad (sls Aa Ab (Aa.length:Int)) fun Ag=>Qad (sls (Q2r Aa Ab) 0 Ab) fun Ae=>some (Ae)
def Qbl (fu:Nat)  (f5:Int → Option Bool):Nat → List Int → Int → Int → Option ((List Int))
  | 0=>fun _ _ _=>none
  | n + 1=>Qdv fu f5 (Qbl fu f5 n)

def Qcx (fu:Nat) (Aa:List Int) (f5:Int → Option Bool):Option ((List Int)) :=
  Qad (Qc6 fu Aa f5) fun Ab=>bif (Ab == ((-1))) then some (Aa) else Qbl fu f5 fu Aa Ab (w64 (Ab + 1))

def Qox (fu:Nat) (r1:Request) (Ab:List Int):Option ((List Int)) :=
  Qad (Qkd fu r1) fun Ad=>Qad (Qen fu Ab) fun Ae=>Qad (Qcx fu Ae (fun Aa=>Qpu fu Aa ((Ad.length:Int)))) fun Ac=>some (Ac)

def Qjk (fu:Nat) (k3:List Item → Int → Option ((List Item))) (Ab:Int) (Aa:List Item):Option ((List Item)) :=
  k3 Aa (w64 (Ab + 1))

def Qld (fu:Nat)  (r1:Request) (Ac:List Int) (Ae:(List Int)) (k3:List Item → Int → Option ((List Item))) (Ab:List Item) (Aa:Int):Option ((List Item)) :=
  bif (decide (Aa < ((Ac.length:Int)))) then Qad (ix Ac Aa) fun Ad=>Qad (Qca fu Ad 0 (w64 (((Ae.length:Int)) - 1))) fun Ag=>bif Ag then Qad (ix Ae Ad) fun Ai=>Qad (ix r1.fItems Ai) fun Af=>Qad (Qh3 56 Ab (([Af]:List Item))) fun Ah=>Qjk fu k3 Aa Ah else Qjk fu k3 Aa Ab else some (Ab)
def Qe4 (fu:Nat)  (r1:Request) (Aa:List Int) (Ab:(List Int)):Nat → List Item → Int → Option ((List Item))
  | 0=>fun _ _=>none
  | n + 1=>Qld fu r1 Aa Ab (Qe4 fu r1 Aa Ab n)

def Qg9 (fu:Nat) (r1:Request) (Aa:List Int):Option ((List Item)) :=
  Qad (Qkd fu r1) fun Ab=>Qe4 fu r1 Aa Ab fu (([]:List Item)) 0

def Qru (fu:Nat) (x1:Item) (x2:Typ):Option (Bool) :=
  Qad (Qrj fu x1 x2) fun x8=>some (!x8)

def Qpz (fu:Nat) (Aa:Int) (h2:Int) (d3:Int)  : Option (Int) :=
  some (w64 ((w64 (Aa * h2)) * d3))

def Qn9 (fu:Nat) (Aa:Int) (h2:Int) (d3:Int):Option (Int) :=
  Qad (Qca fu Aa 0 2000) fun Ac=>bif (!Ac) then some (0) else Qad (Qca fu h2 0 2000) fun Ab=>bif (!Ab) then some (0) else Qad (Qca fu d3 0 2000) fun Ad=>bif (!Ad) then some (0) else Qpz fu Aa h2 d3

def Qjh (fu:Nat)  (Ad:(List Item)) (k1:Int → Int → Option (Int)) (Ac:Int) (Ab:Int):Option (Int) :=
  bif (decide (Ab < ((Ad.length:Int)))) then Qad (ix Ad Ab) fun Aa=>Qad (Qn9 fu Aa.fW Aa.fH Aa.fD) fun Ae=>k1 (w64 (Ac + Ae)) (w64 (Ab + 1)) else some (Ac)
def Qfn (fu:Nat)  (Aa:(List Item)):Nat → Int → Int → Option (Int)
  | 0=>fun _ _=>none
  | n + 1=>Qjh fu Aa (Qfn fu Aa n)

def Qng (fu:Nat) (r1:Request) (Aa:List Int):Option (Int) :=
  Qad (Qg9 fu r1 Aa) fun Ab=>Qfn fu Ab fu 0 0

def Qm4 (fu:Nat)  (Ab:(List Item)) (k1:Int → Int → Option (Int)) (Ac:Int) (Aa:Int):Option (Int) :=
  bif (decide (Aa < ((Ab.length:Int)))) then Qad (ix Ab Aa) fun Ad=>k1 (w64 (Ac + Ad.fGram)) (w64 (Aa + 1)) else some (Ac)
def Qgx (fu:Nat)  (Aa:(List Item)):Nat → Int → Int → Option (Int)
  | 0=>fun _ _=>none
  | n + 1=>Qm4 fu Aa (Qgx fu Aa n)

def Qn6 (fu:Nat) (r1:Request) (Aa:List Int):Option (Int) :=
  Qad (Qg9 fu r1 Aa) fun Ab=>Qgx fu Ab fu 0 0

def Qqg (fu:Nat) (r1:Request) (Aa:List Int) (t9:Typ):Option (Bool) :=
  Qad (Qng fu r1 Aa) fun Ac=>Qad (Qn9 fu t9.fW t9.fH t9.fD) fun Ab=>bif (decide (Ac ≤ Ab)) then Qad (Qn6 fu r1 Aa) fun Ad=>some (decide (Ad ≤ t9.fGram)) else some (false)

def Qq1 (fu:Nat) (r1:Request) (Aa:List Int) (t9:Typ)  : Option (Bool) :=
  Qad (Qg9 fu r1 Aa) fun Ae=>Qad (Qax fu Ae (fun Ad=>Qru fu Ad t9)) fun Ab=>bif (!Ab) then Qad (Qqg fu r1 Aa t9) fun Ac=>some (Ac) else some (false)

def Qnx (fu:Nat) (r1:Request) (Aa:List Int) (t9:Typ):Option (Bool) :=
  Qad (Qgr fu r1) fun Ac=>bif (!Ac) then some (false) else Qad (Qox fu r1 Aa) fun Ab=>bif (((Ab.length:Int)) != ((Aa.length:Int))) then some (false) else Qq1 fu r1 Aa t9

def Qjx (fu:Nat) (x1:List Int):Option (List Int):=Jer x1

def Qkb (fu:Nat) (Ab:List Int):Option ((List Int)) :=
  Qad (Qen fu Ab) fun x5=>Qad (Qc4 fu x5) fun Aa=>Qad (Qjx fu Aa) fun Ac=>some (Ac)

def Qk3 (fu:Nat)  (r1:Request) (k1:List Int → Int → Option ((List Int))) (Ab:List Int) (Aa:Int):Option ((List Int)) :=
  bif (decide (Aa < ((r1.fItems.length:Int)))) then Qad (ix r1.fItems Aa) fun Ad=>Qad (Qh3 8 Ab (([Ad.fClass]:List Int))) fun Ac=>k1 Ac (w64 (Aa + 1)) else Qad (Qkb fu Ab) fun Ae=>some (Ae)
def Qga (fu:Nat)  (r1:Request):Nat → List Int → Int → Option ((List Int))
  | 0=>fun _ _=>none
  | n + 1=>Qk3 fu r1 (Qga fu r1 n)

def Qpf (fu:Nat) (r1:Request):Option ((List Int)) :=
  Qad (Qgr fu r1) fun Aa=>bif (!Aa) then some (([]:List Int)) else Qga fu r1 fu (([]:List Int)) 0

def Qqp (fu:Nat) (Aa:List Pair) (a5:Int) (b6:Int):Option (Bool) :=
  Qad (Qg4 fu Aa a5 b6) fun x7=>bif x7 then Qad (Qg4 fu Aa b6 a5) fun Ab=>some (Ab) else some (false)

def Qjn (fu:Nat) (x1:Int) (x2:List Pair) (x8:Int):Option (Bool) :=
  Qad (Qqp fu x2 x8 x1) fun Aa=>some (!Aa)

def Qcp (fu:Nat) (Aa:List Int) (f5:Int → Option Bool):Option (Bool) :=
  Qad (Qc6 fu Aa f5) fun Ab=>some (decide (Ab ≥ 0))

def Qn3 (fu:Nat) (l1:List Int) (x5:List Pair) (Ab:Int):Option (Bool) :=
  Qad (Qcp fu l1 (fun Ac=>Qjn fu Ac x5 Ab)) fun Aa=>some (!Aa)

def Qdw (fu:Nat)  (Ab:List (List Int)) (f5:(List Int) → Option Bool) (k1:Int → Option (Int)) (Aa:Int):Option (Int) :=
  bif (decide (Aa < ((Ab.length:Int)))) then Qad (ix Ab Aa) fun Ac=>Qad (f5 Ac) fun Ad=>bif Ad then some (Aa) else k1 (w64 (Aa + 1)) else some ((-1))
def Qby (fu:Nat)  (Aa:List (List Int)) (f5:(List Int) → Option Bool):Nat → Int → Option (Int)
  | 0=>fun _=>none
  | n + 1=>Qdw fu Aa f5 (Qby fu Aa f5 n)

def Qdy (fu:Nat) (Aa:List (List Int)) (f5:(List Int) → Option Bool):Option (Int) :=
  Qby fu Aa f5 fu 0

def Qh6 (fu:Nat) (k3:List (List Int) → Int → Option ((List (List Int)))) (Ab:Int) (Aa:List (List Int)):Option ((List (List Int))) :=
  k3 Aa (w64 (Ab + 1))

def Qmw (fu:Nat)  (Ah:List Pair) (Ae:(List Int)) (k3:List (List Int) → Int → Option ((List (List Int)))) (Aa:List (List Int)) (Ab:Int):Option ((List (List Int))) :=
  bif (decide (Ab < ((Ae.length:Int)))) then Qad (ix Ae Ab) fun Ac=>Qad (Qca fu Ac 0 3) fun Ai=>bif (!Ai) then Qh6 fu k3 Ab Aa else Qad (Qdy fu Aa (fun Ag=>Qn3 fu Ag Ah Ac)) fun Ad=>bif (decide (Ad < 0)) then Qad (Qh3 24 Aa [([Ac]:List Int)]) fun Aj=>Qh6 fu k3 Ab Aj else Qad (ix Aa Ad) fun Ak=>Qad (Qh3 8 Ak (([Ac]:List Int))) fun Af=>Qad (ix Aa Ad) fun Al=>Qh6 fu k3 Ab (Qjp Aa Ad Af) else some (Aa)
def Qer (fu:Nat)  (Ab:List Pair) (Aa:(List Int)):Nat → List (List Int) → Int → Option ((List (List Int)))
  | 0=>fun _ _=>none
  | n + 1=>Qmw fu Ab Aa (Qer fu Ab Aa n)

def Qqs (fu:Nat) (Ac:List Pair) (Ab:List Int):Option ((List (List Int))) :=
  Qad (Qkb fu Ab) fun Aa=>Qer fu Ac Aa fu (([]:List (List Int))) 0

def Qnr (fu:Nat) (r1:Request):Option ((List (List Int))) :=
  Qad (Qgr fu r1) fun Aa=>bif (!Aa) then some (([]:List (List Int))) else Qad (Qpf fu r1) fun Ab=>Qad (Qqs fu r1.fPairs Ab) fun Ac=>some (Ac)

def Qfo (fu:Nat)  (Ab:List Int) (v5:Int) (k1:Int → Option (Int)) (Aa:Int):Option (Int) :=
  bif (decide (Aa < ((Ab.length:Int)))) then Qad (ix Ab Aa) fun Ac=>bif (v5 == Ac) then some (Aa) else k1 (w64 (Aa + 1)) else some ((-1))
def Qcs (fu:Nat)  (Aa:List Int) (v5:Int):Nat → Int → Option (Int)
  | 0=>fun _=>none
  | n + 1=>Qfo fu Aa v5 (Qcs fu Aa v5 n)

def Qhz (fu:Nat) (Aa:List Int) (v5:Int):Option (Int) :=
  Qcs fu Aa v5 fu 0

def Qdh (fu:Nat) (Aa:List Int) (v5:Int):Option (Bool) :=
  Qad (Qhz fu Aa v5) fun x6=>some (decide (x6 ≥ 0))

def Qi9 (fu:Nat) (y1:Item) (x2:Carton) (x8:List (List Int)):Option (Bool) :=
  bif (decide (x2.fGroup ≥ ((x8.length:Int)))) then some (true) else Qad (ix x8 x2.fGroup) fun Ab=>Qad (Qdh fu Ab y1.fClass) fun Aa=>some (!Aa)

def Qdn (fu:Nat) (k3:Typ → Bool → Int → Option (Typ × Bool)) (Ab:Int) (Ac:Typ) (Aa:Bool):Option (Typ × Bool) :=
  k3 Ac Aa (w64 (Ab + 1))

def Qjf (fu:Nat)  (r1:Request) (Ae:List Int) (k3:Typ → Bool → Int → Option (Typ × Bool)) (Ab:Typ) (Ad:Bool) (Aa:Int):Option (Typ × Bool) :=
  bif (decide (Aa < ((r1.fTypes.length:Int)))) then Qad (ix r1.fTypes Aa) fun Ac=>Qad (Qnx fu r1 Ae Ac) fun Af=>bif (!Af) then Qdn fu k3 Aa Ab Ad else bif (!Ad) then Qdn fu k3 Aa Ac true else bif (decide (Ac.fCost < Ab.fCost)) then Qdn fu k3 Aa Ac true else bif (Ac.fCost == Ab.fCost) then bif (decide (Ac.fId < Ab.fId)) then Qdn fu k3 Aa Ac true else Qdn fu k3 Aa Ab Ad else Qdn fu k3 Aa Ab Ad else some (Ab,Ad)
def Qeh (fu:Nat)  (r1:Request) (Aa:List Int):Nat → Typ → Bool → Int → Option (Typ × Bool)
  | 0=>fun _ _ _=>none
  | n + 1=>Qjf fu r1 Aa (Qeh fu r1 Aa n)

def Qnv (fu:Nat) (r1:Request) (Aa:List Int):Option (Typ × Bool) :=
  Qeh fu r1 Aa fu ((⟨0,0,0,0,0,0,0⟩:Typ)) false 0

def Qii (fu:Nat) (k3:Int → Option (Int)) (Aa:Int)  : Option (Int) :=
  k3 (w64 (Aa + 1))

def Qg0 (fu:Nat)  (r1:Request) (x5:Plan) (k6:Int → Option (Int)) (Aa:Int):Option (Int) :=
  bif (decide (Aa < ((x5.fCartons.length:Int)))) then Qad (ix x5.fCartons Aa) fun Ab=>Qad (Qnv fu r1 Ab.fUnits) fun Ac=>bif (Ac.1.fId != Ab.fType) then some (6) else k6 (w64 (Aa + 1)) else some (0)
def Qd0 (fu:Nat)  (r1:Request) (x5:Plan):Nat → Int → Option (Int)
  | 0=>fun _=>none
  | n + 1=>Qg0 fu r1 x5 (Qd0 fu r1 x5 n)

def Qg3 (fu:Nat)  (r1:Request) (x5:Plan) (Ac:(List (List Int))) (k5:Int → Option (Int)) (Aa:Int):Option (Int) :=
  bif (decide (Aa < ((x5.fCartons.length:Int)))) then Qad (ix x5.fCartons Aa) fun Ab=>Qad (Qg9 fu r1 Ab.fUnits) fun Ad=>Qad (Qax fu Ad (fun Ae=>Qi9 fu Ae Ab Ac)) fun Af=>bif Af then some (5) else k5 (w64 (Aa + 1)) else Qd0 fu r1 x5 fu 0
def Qdz (fu:Nat)  (r1:Request) (x5:Plan) (Aa:(List (List Int))):Nat → Int → Option (Int)
  | 0=>fun _=>none
  | n + 1=>Qg3 fu r1 x5 Aa (Qdz fu r1 x5 Aa n)

def Qg5 (fu:Nat)  (r1:Request) (x5:Plan) (k3:Int → Option (Int)) (Aa:Int):Option (Int) :=
  bif (decide (Aa < ((x5.fCartons.length:Int)))) then Qad (ix x5.fCartons Aa) fun Ac=>Qad (Qfp fu r1 Ac.fType) fun Ab=>bif (!Ab.2) then some (4) else Qad (Qnx fu r1 Ac.fUnits Ab.1) fun Ae=>bif (!Ae) then some (4) else Qii fu k3 Aa else Qad (Qnr fu r1) fun Ad=>Qdz fu r1 x5 Ad fu 0
def Qc5 (fu:Nat)  (r1:Request) (x5:Plan):Nat → Int → Option (Int)
  | 0=>fun _=>none
  | n + 1=>Qg5 fu r1 x5 (Qc5 fu r1 x5 n)

def Qh9 (fu:Nat) (r1:Request) (x5:Plan):Option (Int) :=
  Qc5 fu r1 x5 fu 0

def Qq4 (fu:Nat) (r1:Request) (x5:Carton) (Aa:Typ × Bool)  : Option (Int) :=
  Qad (Qn6 fu r1 x5.fUnits) fun Ab=>some (w64 (Aa.1.fTare + Ab))

def Qqb (fu:Nat) (r1:Request) (x5:Carton):Option (Int) :=
  Qad (Qfp fu r1 x5.fType) fun Aa=>bif (!Aa.2) then some (0) else Qad (Qgr fu r1) fun Ab=>bif (!Ab) then some (0) else Qq4 fu r1 x5 Aa

def Qqz (fu:Nat) (r1:Request) (x5:Carton) (Aa:Typ × Bool)  : Option (Box) :=
  Qad (Qqb fu r1 x5) fun Ab=>some ((⟨Aa.1.fW,Aa.1.fD,Aa.1.fH,Ab⟩:Box))

def Qkc (fu:Nat) (r1:Request) (x5:Carton):Option (Box) :=
  Qad (Qfp fu r1 x5.fType) fun Aa=>bif (!Aa.2) then some ((⟨0,0,0,0⟩:Box)) else Qad (Qgr fu r1) fun Ab=>bif (!Ab) then some ((⟨0,0,0,0⟩:Box)) else Qqz fu r1 x5 Aa

def Qpn (fu:Nat) (p1:Pallet) (b2:Box) (Aa:Spot)  : Option (Bool) :=
  bif (decide ((w64 (Aa.fX + b2.fW)) ≤ p1.fW)) then bif (decide ((w64 (Aa.fY + b2.fD)) ≤ p1.fD)) then some (decide ((w64 (Aa.fZ + b2.fH)) ≤ p1.fH)) else some (false) else some (false)

def Qoa (fu:Nat) (p1:Pallet) (b2:Box) (Aa:Spot):Option (Bool) :=
  Qad (Qb9 fu Aa.fX) fun Ag=>bif (!Ag) then some (false) else Qad (Qb9 fu Aa.fY) fun Ac=>bif (!Ac) then some (false) else Qad (Qb9 fu Aa.fZ) fun Ad=>bif (!Ad) then some (false) else Qad (Qcu fu b2.fW) fun Af=>bif (!Af) then some (false) else Qad (Qcu fu b2.fD) fun Ae=>bif (!Ae) then some (false) else Qad (Qcu fu b2.fH) fun Ab=>bif (!Ab) then some (false) else Qpn fu p1 b2 Aa

def Qol (fu:Nat) (b1:Box) (Aa:Spot):Option (Bool) :=
  Qad (Qb9 fu b1.fW) fun Ac=>bif Ac then Qad (Qb9 fu b1.fD) fun Ad=>bif Ad then Qad (Qb9 fu b1.fH) fun Ag=>bif Ag then Qad (Qb9 fu Aa.fX) fun Ab=>bif Ab then Qad (Qb9 fu Aa.fY) fun Af=>bif Af then Qad (Qb9 fu Aa.fZ) fun Ae=>some (Ae) else some (false) else some (false) else some (false) else some (false) else some (false)

def Qp8 (fu:Nat) (a1:Int) (Ab:Int) (b3:Int) (Aa:Int):Option (Bool) :=
  bif (decide (a1 < (w64 (b3 + Aa)))) then some (decide (b3 < (w64 (a1 + Ab)))) else some (false)

def Qot (fu:Nat) (a1:Box) (Aa:Spot) (b3:Box) (t4:Spot)  : Option (Bool) :=
  Qad (Qp8 fu Aa.fX a1.fW t4.fX b3.fW) fun Ab=>bif Ab then Qad (Qp8 fu Aa.fY a1.fD t4.fY b3.fD) fun Ac=>bif Ac then Qad (Qp8 fu Aa.fZ a1.fH t4.fZ b3.fH) fun Ad=>some (Ad) else some (false) else some (false)

def Qmg (fu:Nat) (a1:Box) (Aa:Spot) (b3:Box) (t4:Spot):Option (Bool) :=
  Qad (Qol fu a1 Aa) fun Ac=>bif (!Ac) then some (false) else Qad (Qol fu b3 t4) fun Ab=>bif (!Ab) then some (false) else bif (Aa.fPallet != t4.fPallet) then some (false) else Qot fu a1 Aa b3 t4

def Qj3 (fu:Nat) (k3:Int → Int → Option (Int)) (Ab:Int) (Aa:Int):Option (Int) :=
  k3 Aa (w64 (Ab + 1))

def Qlf (fu:Nat)  (Ad:List Spot) (k3:Int → Int → Option (Int)) (Ab:Int) (Aa:Int):Option (Int) :=
  bif (decide (Aa < ((Ad.length:Int)))) then Qad (ix Ad Aa) fun Ac=>Qad (Qca fu Ac.fPallet 0 999999) fun Ae=>bif Ae then Qj3 fu k3 Aa (if (w64 (Ac.fPallet + 1)) > Ab then w64 (Ac.fPallet + 1) else Ab) else Qj3 fu k3 Aa Ab else some (Ab)
def Qe5 (fu:Nat)  (Aa:List Spot):Nat → Int → Int → Option (Int)
  | 0=>fun _ _=>none
  | n + 1=>Qlf fu Aa (Qe5 fu Aa n)

def Qml (fu:Nat) (Aa:List Spot):Option (Int) :=
  Qe5 fu Aa fu 0 0

def Qir (fu:Nat) (k3:List Int → Int → Option ((List Int))) (Ab:Int) (Aa:List Int):Option ((List Int)) :=
  k3 Aa (w64 (Ab + 1))

def Qi8 (fu:Nat)  (x1:Plan) (Ac:Int) (k3:List Int → Int → Option ((List Int))) (Ab:List Int) (Aa:Int):Option ((List Int)) :=
  bif (decide (Aa < ((x1.fSpots.length:Int)))) then Qad (ix x1.fSpots Aa) fun Ae=>bif (Ae.fPallet == Ac) then Qad (Qh3 8 Ab (([Aa]:List Int))) fun Ad=>Qir fu k3 Aa Ad else Qir fu k3 Aa Ab else some (Ab)
def Qel (fu:Nat)  (x1:Plan) (Aa:Int):Nat → List Int → Int → Option ((List Int))
  | 0=>fun _ _=>none
  | n + 1=>Qi8 fu x1 Aa (Qel fu x1 Aa n)

def Qhg (fu:Nat) (x1:Plan) (Aa:Int):Option ((List Int)) :=
  bif (((x1.fSpots.length:Int)) != ((x1.fCartons.length:Int))) then some (([]:List Int)) else Qel fu x1 Aa fu (([]:List Int)) 0

def Qhu (fu:Nat)  (r1:Request) (x5:Plan) (Ab:(List Int)) (k1:Int → Int → Option (Int)) (Ac:Int) (Aa:Int):Option (Int) :=
  bif (decide (Aa < ((Ab.length:Int)))) then Qad (ix Ab Aa) fun Ad=>Qad (ix x5.fCartons Ad) fun Ae=>Qad (Qqb fu r1 Ae) fun Af=>k1 (w64 (Ac + Af)) (w64 (Aa + 1)) else some (Ac)
def Qed (fu:Nat)  (r1:Request) (x5:Plan) (Aa:(List Int)):Nat → Int → Int → Option (Int)
  | 0=>fun _ _=>none
  | n + 1=>Qhu fu r1 x5 Aa (Qed fu r1 x5 Aa n)

def Qhe (fu:Nat) (r1:Request) (x5:Plan) (Ab:Int):Option (Int) :=
  Qad (Qhg fu x5 Ab) fun Aa=>Qed fu r1 x5 Aa fu 0 0

def Qm2 (fu:Nat) (i1:Int) (x2:Plan) (Ad:List Int):Option (Bool) :=
  Qad (ix x2.fCartons i1) fun Ac=>Qad (ix Ad 0) fun Ab=>Qad (ix x2.fCartons Ab) fun Aa=>some (Ac.fGroup != Aa.fGroup)

def Qim (fu:Nat) (k4:Int → Option (Int)) (x5:Plan) (Ac:List Box) (Ab:Int) (k5:Int → Option (Int)) (Aa:Int):Option (Int) :=
  bif (decide (Aa < Ab)) then Qad (ix Ac Ab) fun Ag=>Qad (ix x5.fSpots Ab) fun Af=>Qad (ix Ac Aa) fun Ah=>Qad (ix x5.fSpots Aa) fun Ae=>Qad (Qmg fu Ag Af Ah Ae) fun Ad=>bif Ad then some (8) else k5 (w64 (Aa + 1)) else k4 (w64 (Ab + 1))
def Qes (fu:Nat) (k4:Int → Option (Int)) (x5:Plan) (Aa:List Box) (Ab:Int):Nat → Int → Option (Int)
  | 0=>fun _=>none
  | n + 1=>Qim fu k4 x5 Aa Ab (Qes fu k4 x5 Aa Ab n)

def Qki (fu:Nat) (Aa:Int → Option (Int)) (Ab:Int)  : Option (Int) :=
  Aa (w64 (Ab + 1))

def Qla (fu:Nat) (Ac:Int → Option (Int)) (x5:Plan) (Ae:Int) (Aa:(List Int))  : Option (Int) :=
  Qad (Qcp fu Aa (fun Ad=>Qm2 fu Ad x5 Aa)) fun Ab=>bif Ab then some (9) else Qki fu Ac Ae

def Qiq (fu:Nat)  (r1:Request) (x5:Plan) (Ae:Int) (Ad:Int → Option (Int)) (Aa:Int):Option (Int) :=
  bif (decide (Aa < Ae)) then Qad (Qhg fu x5 Aa) fun Ab=>bif (((Ab.length:Int)) == 0) then some (9) else Qad (Qhe fu r1 x5 Aa) fun Ac=>bif (decide (Ac > r1.fPallet.fGram)) then some (9) else Qla fu Ad x5 Aa Ab else some (0)
def Qc9 (fu:Nat)  (r1:Request) (x5:Plan) (Aa:Int):Nat → Int → Option (Int)
  | 0=>fun _=>none
  | n + 1=>Qiq fu r1 x5 Aa (Qc9 fu r1 x5 Aa n)

def Qis (fu:Nat)  (r1:Request) (x5:Plan) (Aa:List Box) (k4:Int → Option (Int)) (Ab:Int):Option (Int) :=
  bif (decide (Ab < ((Aa.length:Int)))) then Qes fu k4 x5 Aa Ab fu 0 else Qad (Qml fu x5.fSpots) fun Ac=>Qc9 fu r1 x5 Ac fu 0
def Qc7 (fu:Nat)  (r1:Request) (x5:Plan) (Aa:List Box):Nat → Int → Option (Int)
  | 0=>fun _=>none
  | n + 1=>Qis fu r1 x5 Aa (Qc7 fu r1 x5 Aa n)

def Qib (fu:Nat)  (r1:Request) (x5:Plan) (k1:List Box → Int → Option (Int)) (Ab:List Box) (Aa:Int):Option (Int) :=
  bif (decide (Aa < ((x5.fCartons.length:Int)))) then Qad (ix x5.fCartons Aa) fun Ad=>Qad (Qkc fu r1 Ad) fun Ac=>Qad (ix x5.fSpots Aa) fun Ae=>Qad (Qoa fu r1.fPallet Ac Ae) fun Af=>bif (!Af) then some (7) else Qad (Qh3 32 Ab (([Ac]:List Box))) fun Ag=>k1 Ag (w64 (Aa + 1)) else Qc7 fu r1 x5 Ab fu 0
def Qex (fu:Nat)  (r1:Request) (x5:Plan):Nat → List Box → Int → Option (Int)
  | 0=>fun _ _=>none
  | n + 1=>Qib fu r1 x5 (Qex fu r1 x5 n)

def Qmb (fu:Nat) (r1:Request) (x5:Plan):Option (Int) :=
  Qex fu r1 x5 fu (([]:List Box)) 0

def Qq9 (fu:Nat) (r1:Request) (x5:Plan)  : Option (Int) :=
  Qad (Qjt fu x5) fun Ad=>Qad (Qc4 fu Ad) fun Ac=>Qad (Qkd fu r1) fun Ab=>Qad (Qof fu ((Ab.length:Int))) fun Af=>Qad (Qf6 fu Ac Af) fun Ag=>bif (!Ag) then some (3) else Qad (Qh9 fu r1 x5) fun Aa=>bif (Aa != 0) then some (Aa) else Qad (Qmb fu r1 x5) fun Ae=>some (Ae)

def Qqc (fu:Nat) (r1:Request) (x5:Plan):Option (Int) :=
  Qad (Qgr fu r1) fun Aa=>bif (!Aa) then some (1) else Qad (Qqv fu x5) fun Ab=>bif (!Ab) then some (2) else Qad (Qbi fu x5.fCartons (fun Ac=>Qrp fu Ac)) fun Ad=>bif Ad then some (2) else Qq9 fu r1 x5

def Qhk (fu:Nat) (k4:Int → Option (Bool)) (Aa:Int)  : Option (Bool) :=
  k4 (w64 (Aa + 1))

def Qio (fu:Nat)  (x1:Carton) (k4:Int → Option (Bool)) (Aa:Int):Option (Bool) :=
  bif (decide (Aa < ((x1.fUnits.length:Int)))) then Qad (ix x1.fUnits Aa) fun Ab=>Qad (Qar fu Ab 0 999) fun Ac=>bif (!Ac) then some (false) else bif (decide (Aa > 0)) then Qad (ix x1.fUnits Aa) fun Ae=>Qad (ix x1.fUnits (w64 (Aa - 1))) fun Ad=>bif (decide (Ab ≤ Ad)) then some (false) else Qhk fu k4 Aa else Qhk fu k4 Aa else some (true)
def Qd2 (fu:Nat)  (x1:Carton):Nat → Int → Option (Bool)
  | 0=>fun _=>none
  | n + 1=>Qio fu x1 (Qd2 fu x1 n)

def Qk8 (fu:Nat) (x1:Carton)  : Option (Bool) :=
  Qd2 fu x1 fu 0

def Ql7 (fu:Nat) (x1:Carton):Option (Bool) :=
  Qad (Qnl fu x1.fType) fun Ab=>bif (!Ab) then some (false) else Qad (Qar fu x1.fGroup 0 3) fun Aa=>bif (!Aa) then some (false) else bif (decide (((x1.fUnits.length:Int)) > 100)) then some (false) else Qk8 fu x1

def Qp3 (fu:Nat) (k4:Int → Option (Bool)) (Aa:Int)  : Option (Bool) :=
  k4 (w64 (Aa + 1))

def Qmv (fu:Nat)  (x1:Plan) (k4:Int → Option (Bool)) (Aa:Int):Option (Bool) :=
  bif (decide (Aa < ((x1.fCartons.length:Int)))) then Qad (ix x1.fSpots Aa) fun Ab=>Qad (ix x1.fCartons Aa) fun Ag=>Qad (Ql7 fu Ag) fun Af=>bif (!Af) then some (false) else Qad (Qar fu Ab.fPallet 0 2000) fun Ae=>bif (!Ae) then some (false) else Qad (Qar fu Ab.fX 0 2000) fun Ac=>bif (!Ac) then some (false) else Qad (Qar fu Ab.fY 0 2000) fun Ad=>bif (!Ad) then some (false) else Qad (Qar fu Ab.fZ 0 2000) fun Ah=>bif (!Ah) then some (false) else Qp3 fu k4 Aa else some (true)
def Qfw (fu:Nat)  (x1:Plan):Nat → Int → Option (Bool)
  | 0=>fun _=>none
  | n + 1=>Qmv fu x1 (Qfw fu x1 n)

def Qps (fu:Nat) (x1:Plan)  : Option (Bool) :=
  Qfw fu x1 fu 0

def Qq8 (fu:Nat) (x1:Plan):Option (Bool) :=
  bif (((x1.fCartons.length:Int)) != ((x1.fSpots.length:Int))) then some (false) else bif (decide (((x1.fCartons.length:Int)) > 100)) then some (false) else Qps fu x1

def Qi5 (fu:Nat)  (x1:Plan) (k1:Int → Option (Bool)) (Aa:Int):Option (Bool) :=
  bif (decide (Aa < ((x1.fCartons.length:Int)))) then Qad (ix x1.fCartons Aa) fun Ab=>bif (((Ab.fUnits.length:Int)) == 0) then some (true) else k1 (w64 (Aa + 1)) else some (false)
def Qfq (fu:Nat)  (x1:Plan):Nat → Int → Option (Bool)
  | 0=>fun _=>none
  | n + 1=>Qi5 fu x1 (Qfq fu x1 n)

def Qny (fu:Nat) (x1:Plan):Option (Bool) :=
  Qfq fu x1 fu 0

def Qkz (fu:Nat)  (x1:Plan) (k1:List Int → Int → Option ((List Int))) (Ab:List Int) (Aa:Int):Option ((List Int)) :=
  bif (decide (Aa < ((x1.fCartons.length:Int)))) then Qad (ix x1.fCartons Aa) fun Ad=>Qad (Qh3 8 Ab Ad.fUnits) fun Ac=>k1 Ac (w64 (Aa + 1)) else some (Ab)
def Qgj (fu:Nat)  (x1:Plan):Nat → List Int → Int → Option ((List Int))
  | 0=>fun _ _=>none
  | n + 1=>Qkz fu x1 (Qgj fu x1 n)

def Qo0 (fu:Nat) (x1:Plan):Option ((List Int)) :=
  Qgj fu x1 fu (([]:List Int)) 0

def Qsm (fu:Nat) (Aa:Bool):Option (Int) :=
  bif Aa then some (1) else some (0)

def Qlb (fu:Nat)  (Ab:List Int) (x5:Int) (k1:Int → Int → Option (Int)) (Ac:Int) (Aa:Int):Option (Int) :=
  bif (decide (Aa < ((Ab.length:Int)))) then Qad (ix Ab Aa) fun Ad=>Qad (Qsm fu (Ad == x5)) fun Ae=>k1 (w64 (Ac + Ae)) (w64 (Aa + 1)) else some (Ac)
def Qgh (fu:Nat)  (Aa:List Int) (x5:Int):Nat → Int → Int → Option (Int)
  | 0=>fun _ _=>none
  | n + 1=>Qlb fu Aa x5 (Qgh fu Aa x5 n)

def Qpj (fu:Nat) (Aa:List Int) (x5:Int):Option (Int) :=
  Qgh fu Aa x5 fu 0 0

def Qi7 (fu:Nat)  (Ab:List Int) (Ad:(List Int)) (k1:Int → Option (Bool)) (Aa:Int):Option (Bool) :=
  bif (decide (Aa < ((Ab.length:Int)))) then Qad (Qpj fu Ad Aa) fun Ac=>bif (Ac != 1) then some (false) else k1 (w64 (Aa + 1)) else some (true)
def Qfh (fu:Nat)  (Aa:List Int) (Ab:(List Int)):Nat → Int → Option (Bool)
  | 0=>fun _=>none
  | n + 1=>Qi7 fu Aa Ab (Qfh fu Aa Ab n)

def Qnq (fu:Nat) (Aa:List Int) (x5:Plan):Option (Bool) :=
  Qad (Qo0 fu x5) fun Ab=>bif (((Ab.length:Int)) != ((Aa.length:Int))) then some (false) else Qfh fu Aa Ab fu 0

def Qmt (fu:Nat) (k7:Int → Option (Bool)) (Aa:Int)  : Option (Bool) :=
  k7 (w64 (Aa + 1))

def Qm9 (fu:Nat) (k7:Int → Option (Bool)) (r1:Request) (x5:Plan) (Aa:Int) (Ac:Typ) (Ae:Bool):Option (Bool) :=
  bif (!Ae) then some (false) else Qad (ix x5.fCartons Aa) fun Ab=>Qad (Qqd fu r1 Ab.fUnits Ac) fun Ad=>bif (!Ad) then some (false) else Qmt fu k7 Aa

def Qiy (fu:Nat)  (r1:Request) (x5:Plan) (k7:Int → Option (Bool)) (Aa:Int):Option (Bool) :=
  bif (decide (Aa < ((x5.fCartons.length:Int)))) then Qad (ix x5.fCartons Aa) fun Ac=>Qad (Qhl fu r1 Ac.fType) fun Ab=>Qm9 fu k7 r1 x5 Aa Ab.1 Ab.2 else some (true)
def Qdo (fu:Nat)  (r1:Request) (x5:Plan):Nat → Int → Option (Bool)
  | 0=>fun _=>none
  | n + 1=>Qiy fu r1 x5 (Qdo fu r1 x5 n)

def Qnm (fu:Nat) (r1:Request) (x5:Plan):Option (Bool) :=
  Qdo fu r1 x5 fu 0

def Qk6 (fu:Nat)  (Ab:List (List Int)) (Ad:Int) (k1:Int → Option (Int)) (Aa:Int):Option (Int) :=
  bif (decide (Aa < ((Ab.length:Int)))) then Qad (ix Ab Aa) fun Ac=>Qad (Qnk fu Ac Ad) fun Ae=>bif Ae then some (Aa) else k1 (w64 (Aa + 1)) else some ((-1))
def Qgg (fu:Nat)  (Aa:List (List Int)) (Ab:Int):Nat → Int → Option (Int)
  | 0=>fun _=>none
  | n + 1=>Qk6 fu Aa Ab (Qgg fu Aa Ab n)

def Qow (fu:Nat) (Aa:List (List Int)) (Ab:Int):Option (Int) :=
  Qgg fu Aa Ab fu 0

def Qmq (fu:Nat) (Ab:Int → Option (Bool)) (Aa:Int)  : Option (Bool) :=
  Ab (w64 (Aa + 1))

def Qmz (fu:Nat) (Aa:Int → Option (Bool)) (Ab:Int)  : Option (Bool) :=
  Aa (w64 (Ab + 1))

def Qnf (fu:Nat) (Ag:Int → Option (Bool)) (x9:Plan) (Ac:(List (List Int))) (Aa:Int) (Ae:Int) (Af:Item):Option (Bool) :=
  Qad (ix x9.fCartons Aa) fun Ad=>Qad (Qow fu Ac Af.fClass) fun Ab=>bif (Ab != Ad.fGroup) then some (false) else Qmz fu Ag Ae

def Qi0 (fu:Nat) (Ah:Int → Option (Bool)) (r1:Request) (Ae:List Int) (x9:Plan) (Ag:(List (List Int))) (Aa:Int) (Ai:Int → Option (Bool)) (Ab:Int):Option (Bool) :=
  Qad (ix x9.fCartons Aa) fun Ac=>bif (decide (Ab < ((Ac.fUnits.length:Int)))) then Qad (ix x9.fCartons Aa) fun Aj=>Qad (ix Ac.fUnits Ab) fun Af=>Qad (Qif fu r1 Ae Af) fun Ad=>Qnf fu Ai x9 Ag Aa Ab Ad.1 else Qmq fu Ah Aa
def Qdr (fu:Nat) (Ad:Int → Option (Bool)) (r1:Request) (Aa:List Int) (x9:Plan) (Ac:(List (List Int))) (Ab:Int):Nat → Int → Option (Bool)
  | 0=>fun _=>none
  | n + 1=>Qi0 fu Ad r1 Aa x9 Ac Ab (Qdr fu Ad r1 Aa x9 Ac Ab n)

def Qjc (fu:Nat)  (r1:Request) (Ab:List Int) (x9:Plan) (Ac:(List (List Int))) (Ad:Int → Option (Bool)) (Aa:Int):Option (Bool) :=
  bif (decide (Aa < ((x9.fCartons.length:Int)))) then Qdr fu Ad r1 Ab x9 Ac Aa fu 0 else some (true)
def Qch (fu:Nat)  (r1:Request) (Aa:List Int) (x9:Plan) (Ab:(List (List Int))):Nat → Int → Option (Bool)
  | 0=>fun _=>none
  | n + 1=>Qjc fu r1 Aa x9 Ab (Qch fu r1 Aa x9 Ab n)

def Qnt (fu:Nat) (r1:Request) (Aa:List Int) (x9:Plan):Option (Bool) :=
  Qad (Qgs fu r1) fun Ab=>Qch fu r1 Aa x9 Ab fu 0

def Qm5 (fu:Nat) (k7:Int → Option (Bool)) (Aa:Int)  : Option (Bool) :=
  k7 (w64 (Aa + 1))

def Qms (fu:Nat) (k7:Int → Option (Bool)) (x5:Plan) (Aa:Int) (Ad:Typ) (Ab:Bool):Option (Bool) :=
  bif (!Ab) then some (false) else Qad (ix x5.fCartons Aa) fun Ac=>bif (Ad.fId != Ac.fType) then some (false) else Qm5 fu k7 Aa

def Qi3 (fu:Nat)  (r1:Request) (x5:Plan) (k7:Int → Option (Bool)) (Aa:Int):Option (Bool) :=
  bif (decide (Aa < ((x5.fCartons.length:Int)))) then Qad (ix x5.fCartons Aa) fun Ac=>Qad (Qj6 fu r1 Ac.fUnits) fun Ab=>Qms fu k7 x5 Aa Ab.1 Ab.2 else some (true)
def Qdu (fu:Nat)  (r1:Request) (x5:Plan):Nat → Int → Option (Bool)
  | 0=>fun _=>none
  | n + 1=>Qi3 fu r1 x5 (Qdu fu r1 x5 n)

def Qno (fu:Nat) (r1:Request) (x5:Plan):Option (Bool) :=
  Qdu fu r1 x5 fu 0

def Qhq (fu:Nat) (b1:Box) (Aa:Spot):Option (Bool) :=
  Qad (Qar fu b1.fW 0 2000) fun Ac=>bif Ac then Qad (Qar fu b1.fD 0 2000) fun Ad=>bif Ad then Qad (Qar fu b1.fH 0 2000) fun Ag=>bif Ag then Qad (Qar fu Aa.fX 0 2000) fun Ab=>bif Ab then Qad (Qar fu Aa.fY 0 2000) fun Af=>bif Af then Qad (Qar fu Aa.fZ 0 2000) fun Ae=>some (Ae) else some (false) else some (false) else some (false) else some (false) else some (false)

def Qqn (fu:Nat) (p1:Pallet) (b2:Box) (Aa:Spot):Option (Bool) :=
  Qad (Qhq fu b2 Aa) fun Ab=>bif Ab then bif (decide (b2.fW > 0)) then bif (decide (b2.fD > 0)) then bif (decide (b2.fH > 0)) then bif (decide ((w64 (Aa.fX + b2.fW)) ≤ p1.fW)) then bif (decide ((w64 (Aa.fY + b2.fD)) ≤ p1.fD)) then some (decide ((w64 (Aa.fZ + b2.fH)) ≤ p1.fH)) else some (false) else some (false) else some (false) else some (false) else some (false) else some (false)

def Qip (fu:Nat)  (r1:Request) (x5:Plan) (k1:Int → Option (Bool)) (Aa:Int):Option (Bool) :=
  bif (decide (Aa < ((x5.fCartons.length:Int)))) then Qad (ix x5.fCartons Aa) fun Ab=>Qad (ix x5.fSpots Aa) fun Ac=>Qad (Qke fu r1 Ab) fun Ad=>Qad (Qqn fu r1.fPallet Ad Ac) fun Ae=>bif (!Ae) then some (false) else k1 (w64 (Aa + 1)) else some (true)
def Qeu (fu:Nat)  (r1:Request) (x5:Plan):Nat → Int → Option (Bool)
  | 0=>fun _=>none
  | n + 1=>Qip fu r1 x5 (Qeu fu r1 x5 n)

def Ql3 (fu:Nat) (r1:Request) (x5:Plan):Option (Bool) :=
  Qeu fu r1 x5 fu 0

def Qhf (fu:Nat) (a1:Int) (Ab:Int) (b3:Int) (Aa:Int):Option (Bool) :=
  bif (decide (a1 < (w64 (b3 + Aa)))) then some (decide (b3 < (w64 (a1 + Ab)))) else some (false)

def Qo5 (fu:Nat) (a1:Box) (Aa:Spot) (b3:Box) (t4:Spot):Option (Bool) :=
  Qad (Qhq fu a1 Aa) fun Ad=>bif Ad then Qad (Qhq fu b3 t4) fun Ae=>bif Ae then bif (Aa.fPallet == t4.fPallet) then Qad (Qhf fu Aa.fX a1.fW t4.fX b3.fW) fun Ab=>bif Ab then Qad (Qhf fu Aa.fY a1.fD t4.fY b3.fD) fun Af=>bif Af then Qad (Qhf fu Aa.fZ a1.fH t4.fZ b3.fH) fun Ac=>some (Ac) else some (false) else some (false) else some (false) else some (false) else some (false)

def Qiv (fu:Nat) (k3:Int → Option (Bool)) (r1:Request) (x5:Plan) (Ab:Int) (k4:Int → Option (Bool)) (Aa:Int):Option (Bool) :=
  bif (decide (Aa < Ab)) then Qad (ix x5.fCartons Ab) fun Af=>Qad (ix x5.fSpots Ab) fun Ac=>Qad (ix x5.fCartons Aa) fun Ag=>Qad (ix x5.fSpots Aa) fun Ah=>Qad (Qke fu r1 Af) fun Ae=>Qad (Qke fu r1 Ag) fun Ad=>Qad (Qo5 fu Ae Ac Ad Ah) fun Ai=>bif Ai then some (false) else k4 (w64 (Aa + 1)) else k3 (w64 (Ab + 1))
def Qfc (fu:Nat) (k3:Int → Option (Bool)) (r1:Request) (x5:Plan) (Aa:Int):Nat → Int → Option (Bool)
  | 0=>fun _=>none
  | n + 1=>Qiv fu k3 r1 x5 Aa (Qfc fu k3 r1 x5 Aa n)

def Qix (fu:Nat)  (r1:Request) (x5:Plan) (k3:Int → Option (Bool)) (Aa:Int):Option (Bool) :=
  bif (decide (Aa < ((x5.fCartons.length:Int)))) then Qfc fu k3 r1 x5 Aa fu 0 else some (true)
def Qdm (fu:Nat)  (r1:Request) (x5:Plan):Nat → Int → Option (Bool)
  | 0=>fun _=>none
  | n + 1=>Qix fu r1 x5 (Qdm fu r1 x5 n)

def Qn2 (fu:Nat) (r1:Request) (x5:Plan):Option (Bool) :=
  Qdm fu r1 x5 fu 0

def Qin (fu:Nat) (k5:List Int → Int → Option ((List Int))) (Ab:Int) (Aa:List Int):Option ((List Int)) :=
  k5 Aa (w64 (Ab + 1))

def Qm7 (fu:Nat) (k5:List Int → Int → Option ((List Int))) (x1:Plan) (Ac:Int) (Ab:List Int) (Aa:Int)  : Option ((List Int)) :=
  Qad (ix x1.fSpots Aa) fun Ae=>bif (Ae.fPallet == Ac) then Qad (Qh3 8 Ab (([Aa]:List Int))) fun Ad=>Qin fu k5 Aa Ad else Qin fu k5 Aa Ab

def Qgz (fu:Nat)  (x1:Plan) (Ac:Int) (k5:List Int → Int → Option ((List Int))) (Aa:List Int) (Ab:Int):Option ((List Int)) :=
  bif (decide (Ab < ((x1.fCartons.length:Int)))) then bif (((x1.fCartons.length:Int)) == ((x1.fSpots.length:Int))) then Qm7 fu k5 x1 Ac Aa Ab else some (Aa) else some (Aa)
def Qc1 (fu:Nat)  (x1:Plan) (Aa:Int):Nat → List Int → Int → Option ((List Int))
  | 0=>fun _ _=>none
  | n + 1=>Qgz fu x1 Aa (Qc1 fu x1 Aa n)

def Qj8 (fu:Nat) (x1:Plan) (Aa:Int):Option ((List Int)) :=
  Qc1 fu x1 Aa fu (([]:List Int)) 0

def Qhv (fu:Nat)  (r1:Request) (x5:Plan) (Ab:(List Int)) (k1:Int → Int → Option (Int)) (Ac:Int) (Aa:Int):Option (Int) :=
  bif (decide (Aa < ((Ab.length:Int)))) then Qad (ix Ab Aa) fun Ae=>Qad (ix x5.fCartons Ae) fun Ad=>Qad (Qp6 fu r1 Ad) fun Af=>k1 (w64 (Ac + Af)) (w64 (Aa + 1)) else some (Ac)
def Qef (fu:Nat)  (r1:Request) (x5:Plan) (Aa:(List Int)):Nat → Int → Int → Option (Int)
  | 0=>fun _ _=>none
  | n + 1=>Qhv fu r1 x5 Aa (Qef fu r1 x5 Aa n)

def Qjo (fu:Nat) (r1:Request) (x5:Plan) (Ab:Int):Option (Int) :=
  Qad (Qj8 fu x5 Ab) fun Aa=>Qef fu r1 x5 Aa fu 0 0

def Qjg (fu:Nat) (Ab:Int → Option (Bool)) (Aa:Int)  : Option (Bool) :=
  Ab (w64 (Aa + 1))

def Qhy (fu:Nat) (Ae:Int → Option (Bool)) (x5:Plan) (Ac:Int) (Ab:(List Int)) (Af:Int → Option (Bool)) (Aa:Int):Option (Bool) :=
  bif (decide (Aa < ((Ab.length:Int)))) then Qad (ix Ab Aa) fun Ad=>Qad (ix x5.fCartons Ad) fun Ag=>Qad (ix Ab 0) fun Ah=>Qad (ix x5.fCartons Ah) fun Ai=>bif (Ag.fGroup != Ai.fGroup) then some (false) else Af (w64 (Aa + 1)) else Qjg fu Ae Ac
def Qee (fu:Nat) (Ab:Int → Option (Bool)) (x5:Plan) (Aa:Int) (Ac:(List Int)):Nat → Int → Option (Bool)
  | 0=>fun _=>none
  | n + 1=>Qhy fu Ab x5 Aa Ac (Qee fu Ab x5 Aa Ac n)

def Qji (fu:Nat) (Ab:Int → Option (Bool)) (x5:Plan) (Aa:Int) (Ac:(List Int))  : Option (Bool) :=
  Qee fu Ab x5 Aa Ac fu 1

def Qhs (fu:Nat)  (r1:Request) (x5:Plan) (Ad:Int) (Ac:Int → Option (Bool)) (Aa:Int):Option (Bool) :=
  bif (decide (Aa < Ad)) then Qad (Qj8 fu x5 Aa) fun Ab=>bif (((Ab.length:Int)) == 0) then some (false) else Qad (Qjo fu r1 x5 Aa) fun Ae=>bif (decide (Ae > r1.fPallet.fGram)) then some (false) else Qji fu Ac x5 Aa Ab else some (true)
def Qb4 (fu:Nat)  (r1:Request) (x5:Plan) (Aa:Int):Nat → Int → Option (Bool)
  | 0=>fun _=>none
  | n + 1=>Qhs fu r1 x5 Aa (Qb4 fu r1 x5 Aa n)

def Qju (fu:Nat) (r1:Request) (x5:Plan):Option (Bool) :=
  Qad (Qmh fu x5.fSpots) fun Aa=>Qb4 fu r1 x5 Aa fu 0

def Qqj (fu:Nat) (r1:Request) (x5:Plan)  : Option (Int) :=
  Qad (Qcl fu r1) fun Aa=>Qad (Qnq fu Aa x5) fun Ac=>bif (!Ac) then some (3) else Qad (Qnm fu r1 x5) fun Ah=>bif (!Ah) then some (4) else Qad (Qnt fu r1 Aa x5) fun Ad=>bif (!Ad) then some (5) else Qad (Qno fu r1 x5) fun Ag=>bif (!Ag) then some (6) else Qad (Ql3 fu r1 x5) fun Af=>bif (!Af) then some (7) else Qad (Qn2 fu r1 x5) fun Ae=>bif (!Ae) then some (8) else Qad (Qju fu r1 x5) fun Ab=>bif (!Ab) then some (9) else some (0)

def Qr0 (fu:Nat) (r1:Request) (x5:Plan):Option (Int) :=
  Qad (Qem fu r1) fun Aa=>bif (Aa != 0) then some (1) else Qad (Qq8 fu x5) fun Ac=>bif (!Ac) then some (2) else Qad (Qny fu x5) fun Ab=>bif Ab then some (2) else Qqj fu r1 x5

def Qn4 (fu:Nat) (r1:Request) (x5:Plan):Option (Bool) :=
  Qad (Qqc fu r1 x5) fun Aa=>some (Aa == 0)

def Qh5 (fu:Nat) (Aa:Int):Option (ByteArray) :=
  Qad (Qca fu Aa 0 (w64 ((((([(⟨#[111,107]⟩:ByteArray),(⟨#[111,114,100,101,114]⟩:ByteArray),(⟨#[112,108,97,110]⟩:ByteArray),(⟨#[117,110,105,116,115]⟩:ByteArray),(⟨#[104,111,108,100,115]⟩:ByteArray),(⟨#[103,114,111,117,112]⟩:ByteArray),(⟨#[99,104,101,97,112]⟩:ByteArray),(⟨#[105,110,115,105,100,101]⟩:ByteArray),(⟨#[111,118,101,114,108,97,112]⟩:ByteArray),(⟨#[112,97,108,108,101,116]⟩:ByteArray)]:List ByteArray)).length:Int)) - 1))) fun x7=>bif (!x7) then some ((⟨#[]⟩:ByteArray)) else Qad (ix (([(⟨#[111,107]⟩:ByteArray),(⟨#[111,114,100,101,114]⟩:ByteArray),(⟨#[112,108,97,110]⟩:ByteArray),(⟨#[117,110,105,116,115]⟩:ByteArray),(⟨#[104,111,108,100,115]⟩:ByteArray),(⟨#[103,114,111,117,112]⟩:ByteArray),(⟨#[99,104,101,97,112]⟩:ByteArray),(⟨#[105,110,115,105,100,101]⟩:ByteArray),(⟨#[111,118,101,114,108,97,112]⟩:ByteArray),(⟨#[112,97,108,108,101,116]⟩:ByteArray)]:List ByteArray)) Aa) fun Ab=>some (Ab)

def Qqk (fu:Nat) (u1:Int) (x2:List Int):Option (Bool) :=
  Qad (Qdh fu x2 u1) fun x8=>some (x8)

def Qse (fu:Nat) (r1:Request) (x5:Plan):Option ((List Int)) :=
  Qad (Qjt fu x5) fun Ae=>Qad (Qkd fu r1) fun Aa=>Qad (Qof fu ((Aa.length:Int))) fun Ab=>Qad (Qcx fu Ab (fun Ad=>Qqk fu Ad Ae)) fun Ac=>some (Ac)

end Go.Proofs.YtkkfmjpbiimkbaaGreat
