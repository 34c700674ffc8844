/- FnPromise: what the functions that it reaches compute,on plain data. Printed by gen.py. -/
import Derived.Test.YthddjkokpfdbnaaGreatS13
import Derived.Test.YthddjkokpfdbnaaGreatS15
set_option linter.unusedVariables false
namespace Go.Proofs.YthddjkokpfdbnaaGreat
open Go
def d_laws_big (fu:Nat) (Aa:List U8):Option (Bool) :=
  some (decide (((Aa.length:Int)) > 1048576))

def d_spec_l1New_J1 (fu:Nat) (k3:Int → Int → Option (Cur)) (Ab:List U8) (Ad:Int) (Aa:Int)  : Option (Cur) :=
  obind (ix Ab Aa) fun Ac=>k3 (IntKind.wrap .i64 (((BitVec.ofInt (IntKind.bits .i64) (w64 ((w64 ((w64 (Ad * 131)) + (w64 Ac.n))) + 7)) &&& BitVec.ofInt (IntKind.bits .i64) 1073741823).toNat:Nat):Int)) (w64 (Aa + 1))

def d_spec_l1New_L1_B (fu:Nat)  (Aa:List U8) (k3:Int → Int → Option (Cur)) (Ac:Int) (Ab:Int):Option (Cur) :=
  bif (decide (Ab < ((Aa.length:Int)))) then bif (decide (Ab < 4000)) then d_spec_l1New_J1 fu k3 Aa Ac Ab else some ((⟨Aa,0,Ac⟩:Cur)) else some ((⟨Aa,0,Ac⟩:Cur))
def d_spec_l1New_L1 (fu:Nat)  (Aa:List U8):Nat → Int → Int → Option (Cur)
  | 0=>fun _ _=>none
  | n + 1=>d_spec_l1New_L1_B fu Aa (d_spec_l1New_L1 fu Aa n)

def d_spec_l1New (fu:Nat) (Aa:List U8):Option (Cur) :=
  d_spec_l1New_L1 fu Aa fu (w64 (26583 + ((Aa.length:Int)))) 0

def d_spec_l1Byte (fu:Nat) (c1:Cur):Option (Int × Cur) :=
  bif (decide (c1.fi < ((c1.fb.length:Int)))) then obind (ix c1.fb c1.fi) fun Aa=>some (IntKind.wrap .i64 (((BitVec.ofInt (IntKind.bits .i64) (w64 ((IntKind.wrap .i64 (((BitVec.ofInt (IntKind.bits .i64) (IntKind.wrap .i64 (((BitVec.ofInt (IntKind.bits .i64) (Int.fdiv (w64 ((w64 (c1.fh * 6364136223846793005)) + 1442695040888963407)) (2 ^ (min 33 (IntKind.bits .i64)))) ^^^ BitVec.ofInt (IntKind.bits .i64) (Int.fdiv (w64 ((w64 (c1.fh * 6364136223846793005)) + 1442695040888963407)) (2 ^ (min 45 (IntKind.bits .i64))))).toNat:Nat):Int)) &&& BitVec.ofInt (IntKind.bits .i64) 255).toNat:Nat):Int)) + (w64 Aa.n))) &&& BitVec.ofInt (IntKind.bits .i64) 255).toNat:Nat):Int),(⟨c1.fb,w64 (c1.fi + 1),w64 ((w64 (c1.fh * 6364136223846793005)) + 1442695040888963407)⟩:Cur)) else some (IntKind.wrap .i64 (((BitVec.ofInt (IntKind.bits .i64) (IntKind.wrap .i64 (((BitVec.ofInt (IntKind.bits .i64) (Int.fdiv (w64 ((w64 (c1.fh * 6364136223846793005)) + 1442695040888963407)) (2 ^ (min 33 (IntKind.bits .i64)))) ^^^ BitVec.ofInt (IntKind.bits .i64) (Int.fdiv (w64 ((w64 (c1.fh * 6364136223846793005)) + 1442695040888963407)) (2 ^ (min 45 (IntKind.bits .i64))))).toNat:Nat):Int)) &&& BitVec.ofInt (IntKind.bits .i64) 255).toNat:Nat):Int),(⟨c1.fb,c1.fi,w64 ((w64 (c1.fh * 6364136223846793005)) + 1442695040888963407)⟩:Cur))

def d_spec_l1Below (fu:Nat) (c1:Cur) (n7:Int):Option (Int × Cur) :=
  bif (decide (n7 ≤ 0)) then some (0,c1) else bif (decide (n7 ≤ 256)) then obind (d_spec_l1Byte fu c1) fun Ad=>obind (odiv n7) fun Af=>some (Int.tmod Ad.1 n7,(⟨c1.fb,Ad.2.fi,Ad.2.fh⟩:Cur)) else obind (d_spec_l1Byte fu c1) fun Ac=>obind (d_spec_l1Byte fu ((⟨c1.fb,Ac.2.fi,Ac.2.fh⟩:Cur))) fun Aa=>obind (d_spec_l1Byte fu ((⟨c1.fb,Aa.2.fi,Aa.2.fh⟩:Cur))) fun Ab=>obind (d_spec_l1Byte fu ((⟨c1.fb,Ab.2.fi,Ab.2.fh⟩:Cur))) fun Ae=>obind (odiv n7) fun Ag=>some (Int.tmod (w64 ((w64 ((w64 ((w64 (Ac.1 * 16777216)) + (w64 (Aa.1 * 65536)))) + (w64 (Ab.1 * 256)))) + Ae.1)) n7,(⟨c1.fb,Ae.2.fi,Ae.2.fh⟩:Cur))

def d_spec_l1Once (fu:Nat) (c1:Cur) (n7:Int):Option (Bool × Cur) :=
  obind (d_spec_l1Below fu c1 n7) fun x9=>some (x9.1 == 0,(⟨c1.fb,x9.2.fi,x9.2.fh⟩:Cur))

def d_spec_l1PickInt (fu:Nat) (c1:Cur) (Ab:List Int):Option (Int × Cur) :=
  obind (d_spec_l1Below fu c1 ((Ab.length:Int))) fun Aa=>obind (ix Ab Aa.1) fun Ac=>some (Ac,(⟨c1.fb,Aa.2.fi,Aa.2.fh⟩:Cur))

def d_spec_l2Right_J1 (fu:Nat) (Ac:Int → Int → List Pair → Int → Option (Request × Cur)) (Aa:Int) (Ae:Int) (Ab:Int) (Ad:List Pair):Option (Request × Cur) :=
  Ac Ae Ab Ad (w64 (Aa + 1))

def d_spec_l2Right_L1_B (fu:Nat) (k9:Int → Int → List Pair → Int → Option (Request × Cur)) (c1:Cur) (Ab:Int) (Ae:Int → Int → List Pair → Int → Option (Request × Cur)) (Ag:Int) (Af:Int) (Ad:List Pair) (Aa:Int):Option (Request × Cur) :=
  bif (decide (Aa ≤ Ab)) then bif (Ab == Aa) then obind (apnd 16 Ad (([(⟨Ab,Ab⟩:Pair)]:List Pair))) fun Ai=>d_spec_l2Right_J1 fu Ae Aa Ag Af Ai else obind (d_spec_l1Once fu ((⟨c1.fb,Ag,Af⟩:Cur)) 2) fun Ac=>bif Ac.1 then obind (apnd 16 Ad (([(⟨Ab,Aa⟩:Pair),(⟨Aa,Ab⟩:Pair)]:List Pair))) fun Ah=>d_spec_l2Right_J1 fu Ae Aa Ac.2.fi Ac.2.fh Ah else d_spec_l2Right_J1 fu Ae Aa Ac.2.fi Ac.2.fh Ad else k9 Ag Af Ad (w64 (Ab + 1))
def d_spec_l2Right_L1 (fu:Nat) (k9:Int → Int → List Pair → Int → Option (Request × Cur)) (c1:Cur) (Aa:Int):Nat → Int → Int → List Pair → Int → Option (Request × Cur)
  | 0=>fun _ _ _ _=>none
  | n + 1=>d_spec_l2Right_L1_B fu k9 c1 Aa (d_spec_l2Right_L1 fu k9 c1 Aa n)

def d_spec_l2Right_J2 (fu:Nat) (Af:Int → Int → List Item → Int → Int → Option (Request × Cur)) (Ae:Int) (Ac:Int) (Aa:Int) (Ab:List Item) (Ad:Int):Option (Request × Cur) :=
  Af Ac Aa Ab Ad (w64 (Ae + 1))

def d_spec_l2Right_J3 (fu:Nat) (Ag:Int → Int → List Item → Int → Int → Option (Request × Cur)) (Ac:List Item) (Ab:Int) (Af:Int) (Ae:Int) (Ad:Int) (Aa:Item):Option (Request × Cur) :=
  bif (decide ((w64 (Ab + Aa.fCount)) ≤ 12)) then obind (apnd 56 Ac (([Aa]:List Item))) fun Ah=>d_spec_l2Right_J2 fu Ag Af Ae Ad Ah (w64 (Ab + Aa.fCount)) else d_spec_l2Right_J2 fu Ag Af Ae Ad Ac Ab

def d_spec_l2Right_J4 (fu:Nat) (Ag:Int → Int → List Item → Int → Int → Option (Request × Cur)) (c1:Cur) (Ad:List Item) (Ae:Int) (Af:Int) (Ai:Int) (Ah:Int) (Ab:Item):Option (Request × Cur) :=
  obind (d_spec_l1Once fu ((⟨c1.fb,Ai,Ah⟩:Cur)) 3) fun Aa=>bif Aa.1 then obind (d_spec_l1Below fu ((⟨c1.fb,Aa.2.fi,Aa.2.fh⟩:Cur)) 8) fun Ac=>d_spec_l2Right_J3 fu Ag Ad Ae Af Ac.2.fi Ac.2.fh ((⟨Ab.fId,5,5,w64 (4 + Ac.1),Ab.fGram,Ab.fClass,Ab.fCount⟩:Item)) else d_spec_l2Right_J3 fu Ag Ad Ae Af Aa.2.fi Aa.2.fh Ab

def d_spec_l2Right_L2_B (fu:Nat)  (c1:Cur) (Al:Int × Cur) (Ao:Int × Cur) (Au:Int × Cur) (Ap:Int × Cur) (As:Int × Cur) (Aj:Int × Cur) (Av:List Pair) (At:List Typ) (Ar:Int × Cur) (Am:Int → Int → List Item → Int → Int → Option (Request × Cur)) (Ak:Int) (Ai:Int) (Ah:List Item) (Aq:Int) (Ad:Int):Option (Request × Cur) :=
  bif (decide (Ad < Ar.1)) then obind (d_spec_l1Below fu ((⟨c1.fb,Ak,Ai⟩:Cur)) 10) fun Ac=>obind (d_spec_l1Below fu ((⟨c1.fb,Ac.2.fi,Ac.2.fh⟩:Cur)) 10) fun Ab=>obind (d_spec_l1Below fu ((⟨c1.fb,Ab.2.fi,Ab.2.fh⟩:Cur)) 10) fun Aa=>obind (d_spec_l1Below fu ((⟨c1.fb,Aa.2.fi,Aa.2.fh⟩:Cur)) 60) fun Ag=>obind (d_spec_l1Below fu ((⟨c1.fb,Ag.2.fi,Ag.2.fh⟩:Cur)) (w64 (1 + Aj.1))) fun Af=>obind (d_spec_l1Below fu ((⟨c1.fb,Af.2.fi,Af.2.fh⟩:Cur)) 4) fun Ae=>d_spec_l2Right_J4 fu Am c1 Ah Aq Ad Ae.2.fi Ae.2.fh ((⟨w64 (3 * Ad),w64 (1 + Ac.1),w64 (1 + Ab.1),w64 (1 + Aa.1),w64 (1 + Ag.1),Af.1,w64 (1 + Ae.1)⟩:Item)) else some ((⟨Al.1,(⟨Ao.1,Au.1,Ap.1,As.1⟩:Pallet),w64 (1 + Aj.1),Av,At,7,Ah⟩:Request),(⟨c1.fb,Ak,Ai⟩:Cur))
def d_spec_l2Right_L2 (fu:Nat)  (c1:Cur) (Ae:Int × Cur) (Ab:Int × Cur) (Ah:Int × Cur) (Ac:Int × Cur) (Aa:Int × Cur) (Ag:Int × Cur) (Ai:List Pair) (Af:List Typ) (Ad:Int × Cur):Nat → Int → Int → List Item → Int → Int → Option (Request × Cur)
  | 0=>fun _ _ _ _ _=>none
  | n + 1=>d_spec_l2Right_L2_B fu c1 Ae Ab Ah Ac Aa Ag Ai Af Ad (d_spec_l2Right_L2 fu c1 Ae Ab Ah Ac Aa Ag Ai Af Ad n)

def d_spec_l2Right_L3_B (fu:Nat)  (c1:Cur) (Am:Int × Cur) (Ao:Int × Cur) (Au:Int × Cur) (Aq:Int × Cur) (At:Int × Cur) (As:Int × Cur) (Av:List Pair) (Al:Int × Cur) (Ar:Int → Int → List Typ → Int → Option (Request × Cur)) (Aj:Int) (Ai:Int) (Ak:List Typ) (Ag:Int):Option (Request × Cur) :=
  bif (decide (Ag < Al.1)) then obind (d_spec_l1Below fu ((⟨c1.fb,Aj,Ai⟩:Cur)) 9) fun Ah=>obind (d_spec_l1Below fu ((⟨c1.fb,Ah.2.fi,Ah.2.fh⟩:Cur)) 8) fun Ab=>obind (d_spec_l1Below fu ((⟨c1.fb,Ab.2.fi,Ab.2.fh⟩:Cur)) 9) fun Af=>obind (d_spec_l1Below fu ((⟨c1.fb,Af.2.fi,Af.2.fh⟩:Cur)) 5) fun Aa=>obind (d_spec_l1Below fu ((⟨c1.fb,Aa.2.fi,Aa.2.fh⟩:Cur)) 90) fun Ae=>obind (d_spec_l1Below fu ((⟨c1.fb,Ae.2.fi,Ae.2.fh⟩:Cur)) 20) fun Ac=>obind (apnd 56 Ak (([(⟨w64 (10 + Ag),w64 (4 + Ah.1),w64 (3 + Ab.1),w64 (3 + Af.1),Aa.1,w64 (20 + Ae.1),w64 (1 + Ac.1)⟩:Typ)]:List Typ))) fun Ap=>Ar Ac.2.fi Ac.2.fh Ap (w64 (Ag + 1)) else obind (d_spec_l1Below fu ((⟨c1.fb,Aj,Ai⟩:Cur)) 6) fun Ad=>d_spec_l2Right_L2 fu c1 Am Ao Au Aq At As Av Ak Ad fu Ad.2.fi Ad.2.fh (([]:List Item)) 0 0
def d_spec_l2Right_L3 (fu:Nat)  (c1:Cur) (Ae:Int × Cur) (Ab:Int × Cur) (Ag:Int × Cur) (Ad:Int × Cur) (Aa:Int × Cur) (Af:Int × Cur) (Ah:List Pair) (Ac:Int × Cur):Nat → Int → Int → List Typ → Int → Option (Request × Cur)
  | 0=>fun _ _ _ _=>none
  | n + 1=>d_spec_l2Right_L3_B fu c1 Ae Ab Ag Ad Aa Af Ah Ac (d_spec_l2Right_L3 fu c1 Ae Ab Ag Ad Aa Af Ah Ac n)

def d_spec_l2Right_J5 (fu:Nat) (c1:Cur) (Ah:Int × Cur) (Ad:Int × Cur) (Aj:Int × Cur) (Ae:Int × Cur) (Ac:Int × Cur) (Ai:Int × Cur) (Ak:List Pair) (Ag:Int) (Af:Int) (Ab:List Typ):Option (Request × Cur) :=
  obind (d_spec_l1Below fu ((⟨c1.fb,Ag,Af⟩:Cur)) 5) fun Aa=>d_spec_l2Right_L3 fu c1 Ah Ad Aj Ae Ac Ai Ak Aa fu Aa.2.fi Aa.2.fh Ab 0

def d_spec_l2Right_L4_B (fu:Nat)  (c1:Cur) (Am:Int × Cur) (Ak:Int × Cur) (Ao:Int × Cur) (Al:Int × Cur) (Ai:Int × Cur) (Ag:Int × Cur) (k9:Int → Int → List Pair → Int → Option (Request × Cur)) (Ad:Int) (Af:Int) (Ah:List Pair) (Ae:Int):Option (Request × Cur) :=
  bif (decide (Ae < (w64 (1 + Ag.1)))) then d_spec_l2Right_L1 fu k9 c1 Ae fu Ad Af Ah 0 else obind (d_spec_l1Below fu ((⟨c1.fb,Ad,Af⟩:Cur)) 8) fun Aa=>obind (d_spec_l1PickInt fu ((⟨c1.fb,Aa.2.fi,Aa.2.fh⟩:Cur)) (([60,100,140]:List Int))) fun Ab=>obind (d_spec_l1PickInt fu ((⟨c1.fb,Ab.2.fi,Ab.2.fh⟩:Cur)) (([9,20]:List Int))) fun Ac=>obind (apnd 56 (([]:List Typ)) (([(⟨7,12,10,11,Aa.1,Ab.1,Ac.1⟩:Typ)]:List Typ))) fun Aj=>d_spec_l2Right_J5 fu c1 Am Ak Ao Al Ai Ag Ah Ac.2.fi Ac.2.fh Aj
def d_spec_l2Right_L4 (fu:Nat)  (c1:Cur) (Ad:Int × Cur) (Ab:Int × Cur) (Af:Int × Cur) (Ac:Int × Cur) (Aa:Int × Cur) (Ae:Int × Cur):Nat → Int → Int → List Pair → Int → Option (Request × Cur)
  | 0=>fun _ _ _ _=>none
  | n + 1=>d_spec_l2Right_L4_B fu c1 Ad Ab Af Ac Aa Ae (d_spec_l2Right_L4 fu c1 Ad Ab Af Ac Aa Ae n)

def d_spec_l2Right (fu:Nat) (c1:Cur):Option (Request × Cur) :=
  obind (d_spec_l1Below fu c1 2) fun Ad=>obind (d_spec_l1PickInt fu ((⟨c1.fb,Ad.2.fi,Ad.2.fh⟩:Cur)) (([20,30,37]:List Int))) fun Ab=>obind (d_spec_l1PickInt fu ((⟨c1.fb,Ab.2.fi,Ab.2.fh⟩:Cur)) (([20,25,40]:List Int))) fun Af=>obind (d_spec_l1PickInt fu ((⟨c1.fb,Af.2.fi,Af.2.fh⟩:Cur)) (([15,24,50]:List Int))) fun Ac=>obind (d_spec_l1PickInt fu ((⟨c1.fb,Ac.2.fi,Ac.2.fh⟩:Cur)) (([150,400,5000]:List Int))) fun Aa=>obind (d_spec_l1Below fu ((⟨c1.fb,Aa.2.fi,Aa.2.fh⟩:Cur)) 4) fun Ae=>d_spec_l2Right_L4 fu c1 Ad Ab Af Ac Aa Ae fu Ae.2.fi Ae.2.fh (([]:List Pair)) 0

def d_spec_l1In (fu:Nat) (x1:Int) (Ab:Int) (Aa:Int):Option (Bool) :=
  bif (decide (x1 ≥ Ab)) then some (decide (x1 ≤ Aa)) else some (false)

def d_spec_l2Side (fu:Nat) (x1:Int):Option (Bool) :=
  obind (d_spec_l1In fu x1 1 2000) fun x2=>some (x2)

def d_spec_PalletOk (fu:Nat) (x1:Pallet):Option (Bool) :=
  obind (d_spec_l2Side fu x1.fW) fun x5=>bif x5 then obind (d_spec_l2Side fu x1.fD) fun Ac=>bif Ac then obind (d_spec_l2Side fu x1.fH) fun Ab=>bif Ab then obind (d_spec_l1In fu x1.fGram 1 100000) fun Aa=>some (Aa) else some (false) else some (false) else some (false)

def d_spec_l2Id (fu:Nat) (x1:Int):Option (Bool) :=
  obind (d_spec_l1In fu x1 0 999) fun x2=>some (x2)

def d_spec_TypeOk (fu:Nat) (x1:Typ):Option (Bool) :=
  obind (d_spec_l2Id fu x1.fId) fun x5=>bif x5 then obind (d_spec_l2Side fu x1.fW) fun Ac=>bif Ac then obind (d_spec_l2Side fu x1.fH) fun Ad=>bif Ad then obind (d_spec_l2Side fu x1.fD) fun Ab=>bif Ab then obind (d_spec_l1In fu x1.fTare 0 100000) fun Af=>bif Af then obind (d_spec_l1In fu x1.fGram 1 100000) fun Ae=>bif Ae then obind (d_spec_l1In fu x1.fCost 0 100000) fun Aa=>some (Aa) else some (false) else some (false) else some (false) else some (false) else some (false) else some (false)

def d_spec_ItemOk (fu:Nat) (x1:Item):Option (Bool) :=
  obind (d_spec_l2Id fu x1.fId) fun x5=>bif x5 then obind (d_spec_l2Side fu x1.fW) fun Ac=>bif Ac then obind (d_spec_l2Side fu x1.fH) fun Ad=>bif Ad then obind (d_spec_l2Side fu x1.fD) fun Ab=>bif Ab then obind (d_spec_l1In fu x1.fGram 1 100000) fun Af=>bif Af then obind (d_spec_l1In fu x1.fClass 0 3) fun Ae=>bif Ae then obind (d_spec_l1In fu x1.fCount 1 6) fun Aa=>some (Aa) else some (false) else some (false) else some (false) else some (false) else some (false) else some (false)

def d_spec_BoundsOk_J1 (fu:Nat) (k4:Int → Option (Bool)) (Aa:Int)  : Option (Bool) :=
  k4 (w64 (Aa + 1))

def d_spec_BoundsOk_L1_B (fu:Nat)  (r1:Request) (k7:Int → Int → Option (Bool)) (Ac:Int) (Aa:Int):Option (Bool) :=
  bif (decide (Aa < ((r1.fItems.length:Int)))) then obind (ix r1.fItems Aa) fun Ab=>obind (d_spec_ItemOk fu Ab) fun Ad=>bif (!Ad) then some (false) else obind (ix r1.fItems Aa) fun Ae=>k7 (w64 (Ac + Ab.fCount)) (w64 (Aa + 1)) else some (decide (Ac ≤ 12))
def d_spec_BoundsOk_L1 (fu:Nat)  (r1:Request):Nat → Int → Int → Option (Bool)
  | 0=>fun _ _=>none
  | n + 1=>d_spec_BoundsOk_L1_B fu r1 (d_spec_BoundsOk_L1 fu r1 n)

def d_spec_BoundsOk_L2_B (fu:Nat)  (r1:Request) (k6:Int → Option (Bool)) (Aa:Int):Option (Bool) :=
  bif (decide (Aa < ((r1.fTypes.length:Int)))) then obind (ix r1.fTypes Aa) fun Ac=>obind (d_spec_TypeOk fu Ac) fun Ab=>bif (!Ab) then some (false) else k6 (w64 (Aa + 1)) else d_spec_BoundsOk_L1 fu r1 fu 0 0
def d_spec_BoundsOk_L2 (fu:Nat)  (r1:Request):Nat → Int → Option (Bool)
  | 0=>fun _=>none
  | n + 1=>d_spec_BoundsOk_L2_B fu r1 (d_spec_BoundsOk_L2 fu r1 n)

def d_spec_BoundsOk_L3_B (fu:Nat)  (r1:Request) (k4:Int → Option (Bool)) (Aa:Int):Option (Bool) :=
  bif (decide (Aa < ((r1.fPairs.length:Int)))) then obind (ix r1.fPairs Aa) fun Ab=>obind (d_spec_l1In fu Ab.fA 0 3) fun Ac=>bif (!Ac) then some (false) else obind (ix r1.fPairs Aa) fun Ae=>obind (d_spec_l1In fu Ab.fB 0 3) fun Ad=>bif (!Ad) then some (false) else d_spec_BoundsOk_J1 fu k4 Aa else d_spec_BoundsOk_L2 fu r1 fu 0
def d_spec_BoundsOk_L3 (fu:Nat)  (r1:Request):Nat → Int → Option (Bool)
  | 0=>fun _=>none
  | n + 1=>d_spec_BoundsOk_L3_B fu r1 (d_spec_BoundsOk_L3 fu r1 n)

def d_spec_BoundsOk_J2 (fu:Nat) (r1:Request)  : Option (Bool) :=
  d_spec_BoundsOk_L3 fu r1 fu 0

def d_spec_BoundsOk (fu:Nat) (r1:Request):Option (Bool) :=
  obind (d_spec_l1In fu r1.fWay 0 1) fun Aa=>bif (!Aa) then some (false) else obind (d_spec_PalletOk fu r1.fPallet) fun Ab=>bif (!Ab) then some (false) else obind (d_spec_l1In fu r1.fClasses 1 4) fun Ae=>bif (!Ae) then some (false) else bif (decide (((r1.fPairs.length:Int)) > 16)) then some (false) else obind (d_spec_l1In fu ((r1.fTypes.length:Int)) 1 5) fun Ac=>bif (!Ac) then some (false) else obind (d_spec_l2Id fu r1.fMaster) fun Ad=>bif (!Ad) then some (false) else bif (decide (((r1.fItems.length:Int)) > 8)) then some (false) else d_spec_BoundsOk_J2 fu r1

def d_spec_MasterOf_L1_B (fu:Nat)  (r1:Request) (k1:Int → Option (Typ × Bool)) (Aa:Int):Option (Typ × Bool) :=
  bif (decide (Aa < ((r1.fTypes.length:Int)))) then obind (ix r1.fTypes Aa) fun Ab=>bif (Ab.fId == r1.fMaster) then obind (ix r1.fTypes Aa) fun Ac=>some (Ab,true) else k1 (w64 (Aa + 1)) else some ((⟨0,0,0,0,0,0,0⟩:Typ),false)
def d_spec_MasterOf_L1 (fu:Nat)  (r1:Request):Nat → Int → Option (Typ × Bool)
  | 0=>fun _=>none
  | n + 1=>d_spec_MasterOf_L1_B fu r1 (d_spec_MasterOf_L1 fu r1 n)

def d_spec_MasterOf (fu:Nat) (r1:Request):Option (Typ × Bool) :=
  d_spec_MasterOf_L1 fu r1 fu 0

def d_spec_l5Names_L1_B (fu:Nat) (k3:Int → Option (Bool)) (r1:Request) (Aa:Int) (k4:Int → Option (Bool)) (Ab:Int):Option (Bool) :=
  bif (decide (Ab < Aa)) then obind (ix r1.fTypes Aa) fun Ad=>obind (ix r1.fTypes Ab) fun Ac=>bif (Ad.fId == Ac.fId) then some (false) else k4 (w64 (Ab + 1)) else k3 (w64 (Aa + 1))
def d_spec_l5Names_L1 (fu:Nat) (k3:Int → Option (Bool)) (r1:Request) (Aa:Int):Nat → Int → Option (Bool)
  | 0=>fun _=>none
  | n + 1=>d_spec_l5Names_L1_B fu k3 r1 Aa (d_spec_l5Names_L1 fu k3 r1 Aa n)

def d_spec_l5Names_L2_B (fu:Nat) (k7:Int → Option (Bool)) (r1:Request) (Ab:Int) (k8:Int → Option (Bool)) (Aa:Int):Option (Bool) :=
  bif (decide (Aa < Ab)) then obind (ix r1.fItems Ab) fun Ad=>obind (ix r1.fItems Aa) fun Ac=>bif (Ad.fId == Ac.fId) then some (false) else k8 (w64 (Aa + 1)) else k7 (w64 (Ab + 1))
def d_spec_l5Names_L2 (fu:Nat) (k7:Int → Option (Bool)) (r1:Request) (Aa:Int):Nat → Int → Option (Bool)
  | 0=>fun _=>none
  | n + 1=>d_spec_l5Names_L2_B fu k7 r1 Aa (d_spec_l5Names_L2 fu k7 r1 Aa n)

def d_spec_l5Names_J1 (fu:Nat) (Ab:Int → Option (Bool)) (Aa:Int)  : Option (Bool) :=
  Ab (w64 (Aa + 1))

def d_spec_l5Names_L3_B (fu:Nat)  (r1:Request) (Ac:Int → Option (Bool)) (Aa:Int):Option (Bool) :=
  bif (decide (Aa < ((r1.fPairs.length:Int)))) then obind (ix r1.fPairs Aa) fun Ab=>bif (decide (Ab.fA ≥ r1.fClasses)) then some (false) else obind (ix r1.fPairs Aa) fun Ae=>bif (decide (Ab.fB ≥ r1.fClasses)) then some (false) else d_spec_l5Names_J1 fu Ac Aa else obind (d_spec_MasterOf fu r1) fun Ad=>some (Ad.2)
def d_spec_l5Names_L3 (fu:Nat)  (r1:Request):Nat → Int → Option (Bool)
  | 0=>fun _=>none
  | n + 1=>d_spec_l5Names_L3_B fu r1 (d_spec_l5Names_L3 fu r1 n)

def d_spec_l5Names_L4_B (fu:Nat)  (r1:Request) (k7:Int → Option (Bool)) (Aa:Int):Option (Bool) :=
  bif (decide (Aa < ((r1.fItems.length:Int)))) then obind (ix r1.fItems Aa) fun Ab=>bif (decide (Ab.fClass ≥ r1.fClasses)) then some (false) else d_spec_l5Names_L2 fu k7 r1 Aa fu 0 else d_spec_l5Names_L3 fu r1 fu 0
def d_spec_l5Names_L4 (fu:Nat)  (r1:Request):Nat → Int → Option (Bool)
  | 0=>fun _=>none
  | n + 1=>d_spec_l5Names_L4_B fu r1 (d_spec_l5Names_L4 fu r1 n)

def d_spec_l5Names_L5_B (fu:Nat)  (r1:Request) (k3:Int → Option (Bool)) (Aa:Int):Option (Bool) :=
  bif (decide (Aa < ((r1.fTypes.length:Int)))) then d_spec_l5Names_L1 fu k3 r1 Aa fu 0 else d_spec_l5Names_L4 fu r1 fu 0
def d_spec_l5Names_L5 (fu:Nat)  (r1:Request):Nat → Int → Option (Bool)
  | 0=>fun _=>none
  | n + 1=>d_spec_l5Names_L5_B fu r1 (d_spec_l5Names_L5 fu r1 n)

def d_spec_l5Names (fu:Nat) (r1:Request):Option (Bool) :=
  d_spec_l5Names_L5 fu r1 fu 0

def d_spec_Beside_J1 (fu:Nat) (k3:Int → Option (Bool)) (Aa:Int)  : Option (Bool) :=
  k3 (w64 (Aa + 1))

def d_spec_Beside_L1_B (fu:Nat)  (Ab:List Pair) (a5:Int) (b6:Int) (k3:Int → Option (Bool)) (Aa:Int):Option (Bool) :=
  bif (decide (Aa < ((Ab.length:Int)))) then obind (ix Ab Aa) fun Ac=>bif (Ac.fA == a5) then obind (ix Ab Aa) fun Ad=>bif (Ac.fB == b6) then some (true) else d_spec_Beside_J1 fu k3 Aa else d_spec_Beside_J1 fu k3 Aa else some (false)
def d_spec_Beside_L1 (fu:Nat)  (Aa:List Pair) (a5:Int) (b6:Int):Nat → Int → Option (Bool)
  | 0=>fun _=>none
  | n + 1=>d_spec_Beside_L1_B fu Aa a5 b6 (d_spec_Beside_L1 fu Aa a5 b6 n)

def d_spec_Beside (fu:Nat) (Aa:List Pair) (a5:Int) (b6:Int):Option (Bool) :=
  d_spec_Beside_L1 fu Aa a5 b6 fu 0

def d_spec_TableOk_J1 (fu:Nat) (Aa:Int → Option (Bool)) (Ab:Int)  : Option (Bool) :=
  Aa (w64 (Ab + 1))

def d_spec_TableOk_L1_B (fu:Nat) (k9:Int → Option (Bool)) (Ac:List Pair) (Aj:Int) (Aa:Int) (Ad:Int → Option (Bool)) (Ab:Int):Option (Bool) :=
  bif (decide (Ab < Aj)) then bif (Aa == Ab) then obind (d_spec_Beside fu Ac Aa Aa) fun Ag=>bif (!Ag) then some (false) else obind (d_spec_Beside fu Ac Aa Ab) fun Af=>obind (d_spec_Beside fu Ac Ab Aa) fun Ah=>bif (!(Af == Ah)) then some (false) else d_spec_TableOk_J1 fu Ad Ab else obind (d_spec_Beside fu Ac Aa Ab) fun Ae=>obind (d_spec_Beside fu Ac Ab Aa) fun Ai=>bif (!(Ae == Ai)) then some (false) else d_spec_TableOk_J1 fu Ad Ab else k9 (w64 (Aa + 1))
def d_spec_TableOk_L1 (fu:Nat) (k9:Int → Option (Bool)) (Aa:List Pair) (Ac:Int) (Ab:Int):Nat → Int → Option (Bool)
  | 0=>fun _=>none
  | n + 1=>d_spec_TableOk_L1_B fu k9 Aa Ac Ab (d_spec_TableOk_L1 fu k9 Aa Ac Ab n)

def d_spec_TableOk_L2_B (fu:Nat)  (Ac:List Pair) (Ab:Int) (k9:Int → Option (Bool)) (Aa:Int):Option (Bool) :=
  bif (decide (Aa < Ab)) then d_spec_TableOk_L1 fu k9 Ac Ab Aa fu 0 else some (true)
def d_spec_TableOk_L2 (fu:Nat)  (Aa:List Pair) (Ab:Int):Nat → Int → Option (Bool)
  | 0=>fun _=>none
  | n + 1=>d_spec_TableOk_L2_B fu Aa Ab (d_spec_TableOk_L2 fu Aa Ab n)

def d_spec_TableOk (fu:Nat) (Ab:List Pair) (Aa:Int):Option (Bool) :=
  obind (d_spec_l1In fu Aa 1 4) fun x6=>bif (!x6) then some (false) else d_spec_TableOk_L2 fu Ab Aa fu 0

def d_spec_l1Places_L1_B (fu:Nat)  (n1:Int) (k1:List Int → Int → Option ((List Int))) (Ab:List Int) (Aa:Int):Option ((List Int)) :=
  bif (decide (Aa < n1)) then obind (apnd 8 Ab (([Aa]:List Int))) fun Ac=>k1 Ac (w64 (Aa + 1)) else some (Ab)
def d_spec_l1Places_L1 (fu:Nat)  (n1:Int):Nat → List Int → Int → Option ((List Int))
  | 0=>fun _ _=>none
  | n + 1=>d_spec_l1Places_L1_B fu n1 (d_spec_l1Places_L1 fu n1 n)

def d_spec_l1Places (fu:Nat) (n1:Int):Option ((List Int)) :=
  d_spec_l1Places_L1 fu n1 fu (([]:List Int)) 0

def d_spec_l1Merge_J1 (fu:Nat) (k3:List Int → Int → Int → Option ((List Int))) (Ag:List Int) (Ai:Bool) (Ac:(List Int)) (Ae:(List Int)) (Ad:List Int) (Aa:Int) (Ab:Int)  : Option ((List Int)) :=
  bif (Ab == ((Ae.length:Int))) then obind (ix Ac Aa) fun Ap=>obind (apnd 8 Ad (([Ap]:List Int))) fun Ao=>k3 Ao (w64 (Aa + 1)) Ab else bif (Aa == ((Ac.length:Int))) then obind (ix Ae Ab) fun Al=>obind (apnd 8 Ad (([Al]:List Int))) fun Aq=>k3 Aq Aa (w64 (Ab + 1)) else obind (ix Ae Ab) fun Ah=>obind (ix Ag Ah) fun Ak=>obind (ix Ac Aa) fun Af=>obind (ix Ag Af) fun Aj=>bif (decide (Ak < Aj)) then bif (!Ai) then obind (ix Ae Ab) fun Bj=>obind (apnd 8 Ad (([Ah]:List Int))) fun At=>k3 At Aa (w64 (Ab + 1)) else obind (ix Ae Ab) fun Az=>obind (ix Ag Ah) fun Bh=>obind (ix Ac Aa) fun Be=>obind (ix Ag Af) fun Bl=>bif (decide (Ak > Aj)) then bif Ai then obind (ix Ae Ab) fun Ba=>obind (apnd 8 Ad (([Ah]:List Int))) fun Av=>k3 Av Aa (w64 (Ab + 1)) else obind (ix Ac Aa) fun Bf=>obind (apnd 8 Ad (([Af]:List Int))) fun Ar=>k3 Ar (w64 (Aa + 1)) Ab else obind (ix Ac Aa) fun Bk=>obind (apnd 8 Ad (([Af]:List Int))) fun Am=>k3 Am (w64 (Aa + 1)) Ab else obind (ix Ae Ab) fun Bi=>obind (ix Ag Ah) fun Ay=>obind (ix Ac Aa) fun Bd=>obind (ix Ag Af) fun Bb=>bif (decide (Ak > Aj)) then bif Ai then obind (ix Ae Ab) fun Ax=>obind (apnd 8 Ad (([Ah]:List Int))) fun Au=>k3 Au Aa (w64 (Ab + 1)) else obind (ix Ac Aa) fun Bg=>obind (apnd 8 Ad (([Af]:List Int))) fun Aw=>k3 Aw (w64 (Aa + 1)) Ab else obind (ix Ac Aa) fun Bc=>obind (apnd 8 Ad (([Af]:List Int))) fun As=>k3 As (w64 (Aa + 1)) Ab

def d_spec_l1Merge_L1_B (fu:Nat)  (Af:List Int) (Ag:Bool) (Aa:(List Int)) (Ab:(List Int)) (k3:List Int → Int → Int → Option ((List Int))) (Ad:List Int) (Ac:Int) (Ae:Int):Option ((List Int)) :=
  bif (decide (Ac < ((Aa.length:Int)))) then d_spec_l1Merge_J1 fu k3 Af Ag Aa Ab Ad Ac Ae else bif (decide (Ae < ((Ab.length:Int)))) then d_spec_l1Merge_J1 fu k3 Af Ag Aa Ab Ad Ac Ae else some (Ad)
def d_spec_l1Merge_L1 (fu:Nat)  (Ad:List Int) (Ac:Bool) (Aa:(List Int)) (Ab:(List Int)):Nat → List Int → Int → Int → Option ((List Int))
  | 0=>fun _ _ _=>none
  | n + 1=>d_spec_l1Merge_L1_B fu Ad Ac Aa Ab (d_spec_l1Merge_L1 fu Ad Ac Aa Ab n)

def d_spec_l1Merge_RB (fu:Nat) (self:List Int → List Int → Bool → Option ((List Int))) (Ab:List Int) (Aa:List Int) (Ac:Bool):Option ((List Int)) :=
  bif (decide (((Aa.length:Int)) < 2)) then obind (apnd 8 (([]:List Int)) Aa) fun Ah=>some (Ah) else obind (sls Aa 0 (w64 (Int.tdiv ((Aa.length:Int)) 2))) fun Af=>obind (self Ab Af Ac) fun Ad=>obind (sls Aa (w64 (Int.tdiv ((Aa.length:Int)) 2)) (Aa.length:Int)) fun Ae=>obind (self Ab Ae Ac) fun Ag=>d_spec_l1Merge_L1 fu Ab Ac Ad Ag fu (([]:List Int)) 0 0
def d_spec_l1Merge_R (fu:Nat):Nat → List Int → List Int → Bool → Option ((List Int))
  | 0=>fun _ _ _=>none
  | n + 1=>d_spec_l1Merge_RB fu (d_spec_l1Merge_R fu n)
def d_spec_l1Merge (fu:Nat) (Ac:List Int) (Aa:List Int) (Ab:Bool):Option ((List Int)):=d_spec_l1Merge_R fu fu Ac Aa Ab

def d_spec_SortUp (fu:Nat) (Aa:List Int):Option ((List Int)) :=
  obind (d_spec_l1Places fu ((Aa.length:Int))) fun x5=>obind (d_spec_l1Merge fu Aa x5 false) fun Ab=>some (Ab)

def d_spec_l5Sides (fu:Nat) (Aa:Int) (h2:Int) (d3:Int):Option ((List Int)) :=
  obind (d_spec_SortUp fu (([Aa,h2,d3]:List Int))) fun x9=>obind (ix x9 0) fun Af=>obind (ix (([Aa,h2,d3]:List Int)) Af) fun Ad=>obind (ix x9 1) fun Ab=>obind (ix (([Aa,h2,d3]:List Int)) Ab) fun Ag=>obind (ix x9 2) fun Ac=>obind (ix (([Aa,h2,d3]:List Int)) Ac) fun Ae=>some (([Ad,Ag,Ae]:List Int))

def d_spec_Fits (fu:Nat) (x1:Item) (t2:Typ):Option (Bool) :=
  obind (d_spec_l5Sides fu x1.fW x1.fH x1.fD) fun Aa=>obind (d_spec_l5Sides fu t2.fW t2.fH t2.fD) fun Ab=>obind (ix Aa 0) fun Af=>obind (ix Ab 0) fun Ah=>bif (decide (Af ≤ Ah)) then obind (ix Aa 1) fun Ag=>obind (ix Ab 1) fun Ad=>bif (decide (Ag ≤ Ad)) then obind (ix Aa 2) fun Ac=>obind (ix Ab 2) fun Ae=>bif (decide (Ac ≤ Ae)) then some (decide (x1.fGram ≤ t2.fGram)) else some (false) else some (false) else some (false)

def d_spec_Class_J1 (fu:Nat) (k4:Int → Option (Int)) (Aa:Int)  : Option (Int) :=
  k4 (w64 (Aa + 1))

def d_spec_Class_L1_B (fu:Nat)  (r1:Request) (k4:Int → Option (Int)) (Ab:Int):Option (Int) :=
  bif (decide (Ab < ((r1.fTypes.length:Int)))) then obind (ix r1.fTypes Ab) fun Aa=>bif (decide (Aa.fW > r1.fPallet.fW)) then some (6) else bif (decide (Aa.fD > r1.fPallet.fD)) then some (6) else bif (decide (Aa.fH > r1.fPallet.fH)) then some (6) else bif (decide ((w64 (Aa.fTare + Aa.fGram)) > r1.fPallet.fGram)) then some (6) else d_spec_Class_J1 fu k4 Ab else some (0)
def d_spec_Class_L1 (fu:Nat)  (r1:Request):Nat → Int → Option (Int)
  | 0=>fun _=>none
  | n + 1=>d_spec_Class_L1_B fu r1 (d_spec_Class_L1 fu r1 n)

def d_spec_Class_L2_B (fu:Nat)  (r1:Request) (Ab:Typ × Bool) (k1:Int → Option (Int)) (Aa:Int):Option (Int) :=
  bif (decide (Aa < ((r1.fItems.length:Int)))) then obind (ix r1.fItems Aa) fun Ad=>obind (d_spec_Fits fu Ad Ab.1) fun Ac=>bif (!Ac) then some (5) else k1 (w64 (Aa + 1)) else d_spec_Class_L1 fu r1 fu 0
def d_spec_Class_L2 (fu:Nat)  (r1:Request) (Aa:Typ × Bool):Nat → Int → Option (Int)
  | 0=>fun _=>none
  | n + 1=>d_spec_Class_L2_B fu r1 Aa (d_spec_Class_L2 fu r1 Aa n)

def d_spec_Class (fu:Nat) (r1:Request):Option (Int) :=
  obind (d_spec_BoundsOk fu r1) fun Aa=>bif (!Aa) then some (2) else obind (d_spec_l5Names fu r1) fun Ac=>bif (!Ac) then some (3) else obind (d_spec_TableOk fu r1.fPairs r1.fClasses) fun Ad=>bif (!Ad) then some (4) else obind (d_spec_MasterOf fu r1) fun Ab=>d_spec_Class_L2 fu r1 Ab fu 0

def d_spec_l5Good_J1 (fu:Nat) (k3:List Item → Int → Option (Request × Cur)) (Ab:Int) (Aa:List Item):Option (Request × Cur) :=
  k3 Aa (w64 (Ab + 1))

def d_spec_l5Good_L1_B (fu:Nat)  (c1:Cur) (Aa:Request × Cur) (Af:Typ × Bool) (k3:List Item → Int → Option (Request × Cur)) (Ac:List Item) (Ab:Int):Option (Request × Cur) :=
  bif (decide (Ab < ((Aa.1.fItems.length:Int)))) then obind (ix Aa.1.fItems Ab) fun Ad=>obind (d_spec_Fits fu Ad Af.1) fun Ag=>bif Ag then obind (ix Aa.1.fItems Ab) fun Ah=>obind (apnd 56 Ac (([Ad]:List Item))) fun Ae=>d_spec_l5Good_J1 fu k3 Ab Ae else d_spec_l5Good_J1 fu k3 Ab Ac else some ((⟨Aa.1.fWay,(⟨30,25,24,400⟩:Pallet),Aa.1.fClasses,Aa.1.fPairs,Aa.1.fTypes,Aa.1.fMaster,Ac⟩:Request),(⟨c1.fb,Aa.2.fi,Aa.2.fh⟩:Cur))
def d_spec_l5Good_L1 (fu:Nat)  (c1:Cur) (Ab:Request × Cur) (Aa:Typ × Bool):Nat → List Item → Int → Option (Request × Cur)
  | 0=>fun _ _=>none
  | n + 1=>d_spec_l5Good_L1_B fu c1 Ab Aa (d_spec_l5Good_L1 fu c1 Ab Aa n)

def d_spec_l5Good (fu:Nat) (c1:Cur):Option (Request × Cur) :=
  obind (d_spec_l2Right fu c1) fun Aa=>obind (d_spec_Class fu Aa.1) fun Ac=>bif (Ac != 0) then obind (d_spec_MasterOf fu ((⟨Aa.1.fWay,(⟨30,25,24,400⟩:Pallet),Aa.1.fClasses,Aa.1.fPairs,Aa.1.fTypes,Aa.1.fMaster,Aa.1.fItems⟩:Request))) fun Ab=>d_spec_l5Good_L1 fu c1 Aa Ab fu (([]:List Item)) 0 else some (Aa.1,(⟨c1.fb,Aa.2.fi,Aa.2.fh⟩:Cur))

def d_spec_l2Draw_J1 (fu:Nat) (c1:Cur) (Aa:Request × Cur) (Ag:Int) (Aj:Int) (Ah:Int) (Ac:Int) (Ai:List Pair) (Ak:List Typ) (Ae:Int) (Af:List Item) (Ad:Int) (Ab:Int):Option (Request × Cur) :=
  some ((⟨Ag,(⟨Aj,Aa.1.fPallet.fD,Aa.1.fPallet.fH,Ah⟩:Pallet),Ac,Ai,Ak,Ae,Af⟩:Request),(⟨c1.fb,Ad,Ab⟩:Cur))

def d_spec_l2Draw (fu:Nat) (c1:Cur):Option (Request × Cur) :=
  obind (d_spec_l2Right fu c1) fun Aa=>obind (d_spec_l1PickInt fu ((⟨c1.fb,Aa.2.fi,Aa.2.fh⟩:Cur)) (([(-1),0,2001,100001,1000,9223372036854775807]:List Int))) fun Ac=>obind (d_spec_l1Below fu ((⟨c1.fb,Ac.2.fi,Ac.2.fh⟩:Cur)) 20) fun Ab=>bif (Ab.1 == 0) then obind (d_spec_l1PickInt fu ((⟨c1.fb,Ab.2.fi,Ab.2.fh⟩:Cur)) (([(-1),2]:List Int))) fun Ae=>d_spec_l2Draw_J1 fu c1 Aa Ae.1 Aa.1.fPallet.fW Aa.1.fPallet.fGram Aa.1.fClasses Aa.1.fPairs Aa.1.fTypes Aa.1.fMaster Aa.1.fItems Ae.2.fi Ae.2.fh else bif (Ab.1 == 1) then d_spec_l2Draw_J1 fu c1 Aa Aa.1.fWay Ac.1 Aa.1.fPallet.fGram Aa.1.fClasses Aa.1.fPairs Aa.1.fTypes Aa.1.fMaster Aa.1.fItems Ab.2.fi Ab.2.fh else bif (Ab.1 == 2) then d_spec_l2Draw_J1 fu c1 Aa Aa.1.fWay Aa.1.fPallet.fW Ac.1 Aa.1.fClasses Aa.1.fPairs Aa.1.fTypes Aa.1.fMaster Aa.1.fItems Ab.2.fi Ab.2.fh else bif (Ab.1 == 3) then obind (d_spec_l1PickInt fu ((⟨c1.fb,Ab.2.fi,Ab.2.fh⟩:Cur)) (([0,5,1]:List Int))) fun Ag=>d_spec_l2Draw_J1 fu c1 Aa Aa.1.fWay Aa.1.fPallet.fW Aa.1.fPallet.fGram Ag.1 Aa.1.fPairs Aa.1.fTypes Aa.1.fMaster Aa.1.fItems Ag.2.fi Ag.2.fh else bif (Ab.1 == 4) then obind (d_spec_l1Below fu ((⟨c1.fb,Ab.2.fi,Ab.2.fh⟩:Cur)) 6) fun Ai=>obind (d_spec_l1Below fu ((⟨c1.fb,Ai.2.fi,Ai.2.fh⟩:Cur)) 4) fun Aj=>obind (apnd 16 Aa.1.fPairs (([(⟨w64 (Ai.1 - 1),Aj.1⟩:Pair)]:List Pair))) fun Al=>d_spec_l2Draw_J1 fu c1 Aa Aa.1.fWay Aa.1.fPallet.fW Aa.1.fPallet.fGram Aa.1.fClasses Al Aa.1.fTypes Aa.1.fMaster Aa.1.fItems Aj.2.fi Aj.2.fh else bif (Ab.1 == 5) then obind (ix Aa.1.fTypes 0) fun As=>d_spec_l2Draw_J1 fu c1 Aa Aa.1.fWay Aa.1.fPallet.fW Aa.1.fPallet.fGram Aa.1.fClasses Aa.1.fPairs (setx Aa.1.fTypes 0 ({ As with fH:=Ac.1 })) Aa.1.fMaster Aa.1.fItems Ab.2.fi Ab.2.fh else bif (Ab.1 == 6) then obind (d_spec_l1Below fu ((⟨c1.fb,Ab.2.fi,Ab.2.fh⟩:Cur)) ((Aa.1.fTypes.length:Int))) fun Ad=>obind (ix Aa.1.fTypes Ad.1) fun Ap=>d_spec_l2Draw_J1 fu c1 Aa Aa.1.fWay Aa.1.fPallet.fW Aa.1.fPallet.fGram Aa.1.fClasses Aa.1.fPairs (setx Aa.1.fTypes Ad.1 ({ Ap with fGram:=Ac.1 })) Aa.1.fMaster Aa.1.fItems Ad.2.fi Ad.2.fh else bif (Ab.1 == 7) then obind (d_spec_l1PickInt fu ((⟨c1.fb,Ab.2.fi,Ab.2.fh⟩:Cur)) (([8,(-1),1000]:List Int))) fun Ak=>d_spec_l2Draw_J1 fu c1 Aa Aa.1.fWay Aa.1.fPallet.fW Aa.1.fPallet.fGram Aa.1.fClasses Aa.1.fPairs Aa.1.fTypes Ak.1 Aa.1.fItems Ak.2.fi Ak.2.fh else bif (Ab.1 == 8) then obind (d_spec_l1Below fu ((⟨c1.fb,Ab.2.fi,Ab.2.fh⟩:Cur)) 5) fun Ah=>obind (d_spec_l1Below fu ((⟨c1.fb,Ah.2.fi,Ah.2.fh⟩:Cur)) 8) fun Af=>obind (apnd 56 Aa.1.fItems (([(⟨3,1,2,3,4,Ah.1,Af.1⟩:Item)]:List Item))) fun Am=>d_spec_l2Draw_J1 fu c1 Aa Aa.1.fWay Aa.1.fPallet.fW Aa.1.fPallet.fGram Aa.1.fClasses Aa.1.fPairs Aa.1.fTypes Aa.1.fMaster Am Af.2.fi Af.2.fh else bif (Ab.1 == 9) then bif (decide (((Aa.1.fItems.length:Int)) > 0)) then obind (ix Aa.1.fItems 0) fun Ar=>d_spec_l2Draw_J1 fu c1 Aa Aa.1.fWay Aa.1.fPallet.fW Aa.1.fPallet.fGram Aa.1.fClasses Aa.1.fPairs Aa.1.fTypes Aa.1.fMaster (setx Aa.1.fItems 0 ({ Ar with fD:=Ac.1 })) Ab.2.fi Ab.2.fh else d_spec_l2Draw_J1 fu c1 Aa Aa.1.fWay Aa.1.fPallet.fW Aa.1.fPallet.fGram Aa.1.fClasses Aa.1.fPairs Aa.1.fTypes Aa.1.fMaster Aa.1.fItems Ab.2.fi Ab.2.fh else bif (Ab.1 == 10) then bif (decide (((Aa.1.fPairs.length:Int)) > 0)) then obind (sls Aa.1.fPairs 1 (Aa.1.fPairs.length:Int)) fun At=>d_spec_l2Draw_J1 fu c1 Aa Aa.1.fWay Aa.1.fPallet.fW Aa.1.fPallet.fGram Aa.1.fClasses At Aa.1.fTypes Aa.1.fMaster Aa.1.fItems Ab.2.fi Ab.2.fh else d_spec_l2Draw_J1 fu c1 Aa Aa.1.fWay Aa.1.fPallet.fW Aa.1.fPallet.fGram Aa.1.fClasses Aa.1.fPairs Aa.1.fTypes Aa.1.fMaster Aa.1.fItems Ab.2.fi Ab.2.fh else bif (Ab.1 == 11) then obind (ix Aa.1.fTypes 0) fun Aq=>obind (apnd 56 Aa.1.fTypes (([Aq]:List Typ))) fun Ao=>d_spec_l2Draw_J1 fu c1 Aa Aa.1.fWay Aa.1.fPallet.fW Aa.1.fPallet.fGram Aa.1.fClasses Aa.1.fPairs Ao Aa.1.fMaster Aa.1.fItems Ab.2.fi Ab.2.fh else bif (Ab.1 == 12) then d_spec_l2Draw_J1 fu c1 Aa Aa.1.fWay Aa.1.fPallet.fW Aa.1.fPallet.fGram Aa.1.fClasses Aa.1.fPairs (([]:List Typ)) Aa.1.fMaster Aa.1.fItems Ab.2.fi Ab.2.fh else d_spec_l2Draw_J1 fu c1 Aa Aa.1.fWay Aa.1.fPallet.fW Aa.1.fPallet.fGram Aa.1.fClasses Aa.1.fPairs Aa.1.fTypes Aa.1.fMaster Aa.1.fItems Ab.2.fi Ab.2.fh

def d_spec_DrawClass (fu:Nat) (Ab:List U8):Option (Request) :=
  obind (d_spec_l1New fu Ab) fun x8=>obind (d_spec_l1Once fu ((⟨Ab,x8.fi,x8.fh⟩:Cur)) 2) fun Aa=>bif Aa.1 then obind (d_spec_l5Good fu ((⟨Ab,Aa.2.fi,Aa.2.fh⟩:Cur))) fun Ad=>some (Ad.1) else obind (d_spec_l2Draw fu ((⟨Ab,Aa.2.fi,Aa.2.fh⟩:Cur))) fun Ac=>some (Ac.1)

def d_spec_l6Units_L1_B (fu:Nat) (k3:List Int → Int → Option ((List Int))) (r1:Request) (Aa:Int) (k4:List Int → Int → Option ((List Int))) (Ac:List Int) (Ab:Int):Option ((List Int)) :=
  obind (ix r1.fItems Aa) fun Ae=>bif (decide (Ab < Ae.fCount)) then obind (apnd 8 Ac (([Aa]:List Int))) fun Ad=>k4 Ad (w64 (Ab + 1)) else k3 Ac (w64 (Aa + 1))
def d_spec_l6Units_L1 (fu:Nat) (k3:List Int → Int → Option ((List Int))) (r1:Request) (Aa:Int):Nat → List Int → Int → Option ((List Int))
  | 0=>fun _ _=>none
  | n + 1=>d_spec_l6Units_L1_B fu k3 r1 Aa (d_spec_l6Units_L1 fu k3 r1 Aa n)

def d_spec_l6Units_L2_B (fu:Nat)  (r1:Request) (k3:List Int → Int → Option ((List Int))) (Ab:List Int) (Aa:Int):Option ((List Int)) :=
  bif (decide (Aa < ((r1.fItems.length:Int)))) then d_spec_l6Units_L1 fu k3 r1 Aa fu Ab 0 else some (Ab)
def d_spec_l6Units_L2 (fu:Nat)  (r1:Request):Nat → List Int → Int → Option ((List Int))
  | 0=>fun _ _=>none
  | n + 1=>d_spec_l6Units_L2_B fu r1 (d_spec_l6Units_L2 fu r1 n)

def d_spec_l6Units (fu:Nat) (r1:Request):Option ((List Int)) :=
  d_spec_l6Units_L2 fu r1 fu (([]:List Int)) 0

def d_spec_l6Item (fu:Nat) (r1:Request) (Aa:List Int) (u9:Int):Option (Item × Bool) :=
  obind (d_spec_l1In fu u9 0 (w64 (((Aa.length:Int)) - 1))) fun Ab=>bif (!Ab) then some ((⟨0,0,0,0,0,0,0⟩:Item),false) else obind (ix Aa u9) fun Ad=>obind (ix r1.fItems Ad) fun Ac=>some (Ac,true)

def d_spec_Volume_J1 (fu:Nat) (Aa:Int) (h2:Int) (d3:Int)  : Option (Int) :=
  some (w64 ((w64 (Aa * h2)) * d3))

def d_spec_Volume (fu:Nat) (Aa:Int) (h2:Int) (d3:Int):Option (Int) :=
  obind (d_spec_l1In fu Aa 0 2000) fun Ac=>bif (!Ac) then some (0) else obind (d_spec_l1In fu h2 0 2000) fun Ab=>bif (!Ab) then some (0) else obind (d_spec_l1In fu d3 0 2000) fun Ad=>bif (!Ad) then some (0) else d_spec_Volume_J1 fu Aa h2 d3

def d_spec_l7Of_J1 (fu:Nat) (k7:L7 → Int → Option (L7)) (Aa:Int) (Ab:L7):Option (L7) :=
  k7 Ab (w64 (Aa + 1))

def d_spec_l7Of_J2 (fu:Nat) (k7:L7 → Int → Option (L7)) (Ab:L7) (Ac:Int) (Aa:Item):Option (L7) :=
  obind (d_spec_Volume fu Aa.fW Aa.fH Aa.fD) fun Ad=>d_spec_l7Of_J1 fu k7 Ac ((⟨w64 (Ab.fvol + Ad),w64 (Ab.fgram + Aa.fGram)⟩:L7))

def d_spec_l7Of_L1_B (fu:Nat)  (r1:Request) (Ae:List Int) (Ab:List Int) (k7:L7 → Int → Option (L7)) (Ac:L7) (Aa:Int):Option (L7) :=
  bif (decide (Aa < ((Ab.length:Int)))) then obind (ix Ab Aa) fun Ad=>obind (d_spec_l6Item fu r1 Ae Ad) fun Af=>d_spec_l7Of_J2 fu k7 Ac Aa Af.1 else some (Ac)
def d_spec_l7Of_L1 (fu:Nat)  (r1:Request) (Ab:List Int) (Aa:List Int):Nat → L7 → Int → Option (L7)
  | 0=>fun _ _=>none
  | n + 1=>d_spec_l7Of_L1_B fu r1 Ab Aa (d_spec_l7Of_L1 fu r1 Ab Aa n)

def d_spec_l7Of (fu:Nat) (r1:Request) (Ab:List Int) (Aa:List Int):Option (L7) :=
  d_spec_l7Of_L1 fu r1 Ab Aa fu ((⟨0,0⟩:L7)) 0

def d_spec_l7Room_J1 (fu:Nat) (m9:Typ) (Aa:L7):Option (Bool) :=
  obind (d_spec_Volume fu m9.fW m9.fH m9.fD) fun Ab=>bif (decide (Aa.fvol ≤ Ab)) then some (decide (Aa.fgram ≤ m9.fGram)) else some (false)

def d_spec_l7Room (fu:Nat) (r1:Request) (Ab:List Int) (m9:Typ) (Af:List Int) (Aa:Int):Option (Bool) :=
  obind (apnd 8 (([]:List Int)) Af) fun Ae=>obind (apnd 8 Ae (([Aa]:List Int))) fun Ad=>obind (d_spec_l7Of fu r1 Ab Ad) fun Ac=>d_spec_l7Room_J1 fu m9 Ac

def d_spec_l18May_J1 (fu:Nat) (k7:Int → Option (Bool)) (Aa:Int)  : Option (Bool) :=
  k7 (w64 (Aa + 1))

def d_spec_l18May_J2 (fu:Nat) (k7:Int → Option (Bool)) (r1:Request) (Ab:Item × Bool) (Ad:Int) (Aa:Item):Option (Bool) :=
  obind (d_spec_Beside fu r1.fPairs Ab.1.fClass Aa.fClass) fun Ae=>bif (!Ae) then some (false) else obind (d_spec_Beside fu r1.fPairs Aa.fClass Ab.1.fClass) fun Ac=>bif (!Ac) then some (false) else d_spec_l18May_J1 fu k7 Ad

def d_spec_l18May_L1_B (fu:Nat)  (r1:Request) (Ac:List Int) (Ab:List Int) (Af:Item × Bool) (k7:Int → Option (Bool)) (Aa:Int):Option (Bool) :=
  bif (decide (Aa < ((Ab.length:Int)))) then obind (ix Ab Aa) fun Ad=>obind (d_spec_l6Item fu r1 Ac Ad) fun Ae=>d_spec_l18May_J2 fu k7 r1 Af Aa Ae.1 else some (true)
def d_spec_l18May_L1 (fu:Nat)  (r1:Request) (Ab:List Int) (Aa:List Int) (Ac:Item × Bool):Nat → Int → Option (Bool)
  | 0=>fun _=>none
  | n + 1=>d_spec_l18May_L1_B fu r1 Ab Aa Ac (d_spec_l18May_L1 fu r1 Ab Aa Ac n)

def d_spec_l18May (fu:Nat) (r1:Request) (Aa:List Int) (Ab:List Int) (Ac:Int):Option (Bool) :=
  obind (d_spec_l6Item fu r1 Aa Ac) fun Ad=>d_spec_l18May_L1 fu r1 Aa Ab Ad fu 0

def d_spec_RivalBy_J1 (fu:Nat) (Aa:List (List Int) → Int → Option ((List (List Int)))) (Ac:Int) (Ab:List (List Int)):Option ((List (List Int))) :=
  Aa Ab (w64 (Ac + 1))

def d_spec_RivalBy_J2 (fu:Nat) (Aa:List Int → Int → Option ((List (List Int)))) (Ab:Int) (Ac:List Int):Option ((List (List Int))) :=
  Aa Ac (w64 (Ab + 1))

def d_spec_RivalBy_J3 (fu:Nat) (Af:List (List Int) → Int → Option ((List (List Int)))) (Aa:List (List Int)) (Ab:Int) (Ac:List Int) (Ae:Int):Option ((List (List Int))) :=
  bif (decide (Ae < ((Ac.length:Int)))) then obind (ix Ac Ae) fun Ad=>obind (ix Ac Ae) fun Ak=>obind (ix Aa Ad) fun Ah=>obind (apnd 8 Ah (([Ab]:List Int))) fun Ai=>obind (ix Aa Ad) fun Aj=>d_spec_RivalBy_J1 fu Af Ab (setx Aa Ad Ai) else obind (apnd 24 Aa [([Ab]:List Int)]) fun Ag=>d_spec_RivalBy_J1 fu Af Ab Ag

def d_spec_RivalBy_J4 (fu:Nat) (Ae:List (List Int) → Int → Option ((List (List Int)))) (Ac:List (List Int)) (Ad:Int) (Aa:List Int) (Ab:Int):Option ((List (List Int))) :=
  bif (decide (Ab < 0)) then d_spec_RivalBy_J3 fu Ae Ac Ad Aa (w64 ((w64 (Ab + ((Aa.length:Int)))) + 1)) else d_spec_RivalBy_J3 fu Ae Ac Ad Aa Ab

def d_spec_RivalBy_L1_B (fu:Nat) (Ai:List (List Int) → Int → Option ((List (List Int)))) (r1:Request) (Ag:List Int) (Ak:Typ × Bool) (Ah:(List Int)) (Ad:List (List Int)) (Ac:Int) (Ae:List Int → Int → Option ((List (List Int)))) (Aa:List Int) (Ab:Int):Option ((List (List Int))) :=
  bif (decide (Ab < ((Ad.length:Int)))) then obind (ix Ad Ab) fun Af=>obind (d_spec_l7Room fu r1 Ah Ak.1 Af Ac) fun Al=>bif Al then obind (ix Ad Ab) fun Aq=>obind (d_spec_l18May fu r1 Ah Af Ac) fun Ao=>bif Ao then obind (apnd 8 Aa (([Ab]:List Int))) fun Am=>d_spec_RivalBy_J2 fu Ae Ab Am else d_spec_RivalBy_J2 fu Ae Ab Aa else d_spec_RivalBy_J2 fu Ae Ab Aa else bif (decide (Ac < ((Ag.length:Int)))) then obind (ix Ag Ac) fun Aj=>obind (odiv (w64 (((Aa.length:Int)) + 1))) fun Ap=>d_spec_RivalBy_J4 fu Ai Ad Ac Aa (Int.tmod Aj (w64 (((Aa.length:Int)) + 1))) else d_spec_RivalBy_J4 fu Ai Ad Ac Aa 0
def d_spec_RivalBy_L1 (fu:Nat) (Ad:List (List Int) → Int → Option ((List (List Int)))) (r1:Request) (Ab:List Int) (Af:Typ × Bool) (Ae:(List Int)) (Aa:List (List Int)) (Ac:Int):Nat → List Int → Int → Option ((List (List Int)))
  | 0=>fun _ _=>none
  | n + 1=>d_spec_RivalBy_L1_B fu Ad r1 Ab Af Ae Aa Ac (d_spec_RivalBy_L1 fu Ad r1 Ab Af Ae Aa Ac n)

def d_spec_RivalBy_L2_B (fu:Nat)  (r1:Request) (Ad:List Int) (Af:Typ × Bool) (Ac:(List Int)) (Ae:List (List Int) → Int → Option ((List (List Int)))) (Aa:List (List Int)) (Ab:Int):Option ((List (List Int))) :=
  bif (decide (Ab < ((Ac.length:Int)))) then d_spec_RivalBy_L1 fu Ae r1 Ad Af Ac Aa Ab fu (([]:List Int)) 0 else some (Aa)
def d_spec_RivalBy_L2 (fu:Nat)  (r1:Request) (Aa:List Int) (Ac:Typ × Bool) (Ab:(List Int)):Nat → List (List Int) → Int → Option ((List (List Int)))
  | 0=>fun _ _=>none
  | n + 1=>d_spec_RivalBy_L2_B fu r1 Aa Ac Ab (d_spec_RivalBy_L2 fu r1 Aa Ac Ab n)

def d_spec_RivalBy (fu:Nat) (r1:Request) (Aa:List Int):Option ((List (List Int))) :=
  obind (d_spec_Class fu r1) fun Ad=>bif (Ad != 0) then some (([]:List (List Int))) else obind (d_spec_MasterOf fu r1) fun Ac=>obind (d_spec_l6Units fu r1) fun Ab=>d_spec_RivalBy_L2 fu r1 Aa Ac Ab fu (([]:List (List Int))) 0

def d_spec_l17Rival_J1 (fu:Nat) (x8:Request) (Aa:List (List Int)):Option (Request × (List (List Int))) :=
  some (x8,Aa)

def d_spec_l17Rival_L1_B (fu:Nat)  (Ac:List U8) (x8:Request) (k1:Int → Int → List Int → Int → Option (Request × (List (List Int)))) (Ag:Int) (Ad:Int) (Af:List Int) (Ae:Int):Option (Request × (List (List Int))) :=
  bif (decide (Ae < 12)) then obind (d_spec_l1Below fu ((⟨Ac,Ag,Ad⟩:Cur)) 5) fun Ab=>obind (apnd 8 Af (([Ab.1]:List Int))) fun Ap=>k1 Ab.2.fi Ab.2.fh Ap (w64 (Ae + 1)) else obind (d_spec_RivalBy fu x8 Af) fun Aa=>bif (decide (((Aa.length:Int)) > 1)) then obind (d_spec_l1Once fu ((⟨Ac,Ag,Ad⟩:Cur)) 6) fun Am=>bif Am.1 then obind (ix Aa 0) fun Ai=>obind (ix Aa 1) fun Aj=>obind (sls Aa 2 (Aa.length:Int)) fun Ah=>obind (apnd 8 (([]:List Int)) Ai) fun Ao=>obind (apnd 8 Ao Aj) fun Ak=>obind (apnd 24 (([Ak]:List (List Int))) Ah) fun Al=>d_spec_l17Rival_J1 fu x8 Al else d_spec_l17Rival_J1 fu x8 Aa else d_spec_l17Rival_J1 fu x8 Aa
def d_spec_l17Rival_L1 (fu:Nat)  (Aa:List U8) (x8:Request):Nat → Int → Int → List Int → Int → Option (Request × (List (List Int)))
  | 0=>fun _ _ _ _=>none
  | n + 1=>d_spec_l17Rival_L1_B fu Aa x8 (d_spec_l17Rival_L1 fu Aa x8 n)

def d_spec_l17Rival (fu:Nat) (Aa:List U8):Option (Request × (List (List Int))) :=
  obind (d_spec_DrawClass fu Aa) fun x8=>obind (d_spec_l1New fu Aa) fun Ab=>d_spec_l17Rival_L1 fu Aa x8 fu Ab.fi Ab.fh (([]:List Int)) 0

def d_spec_DrawIsRival (fu:Nat) (Aa:List U8):Option (Request × (List (List Int))) :=
  obind (d_spec_l17Rival fu Aa) fun x8=>some (x8.1,x8.2)

def d_impl_TypeById_1 (fu:Nat) (t1:Typ) (x2:Int):Option (Bool) :=
  some (t1.fId == x2)

def d_slices_IndexFunc_impl_Type_impl_Type_L1_B (fu:Nat)  (Ab:List Typ) (f5:Typ → Option Bool) (k1:Int → Option (Int)) (Aa:Int):Option (Int) :=
  bif (decide (Aa < ((Ab.length:Int)))) then obind (ix Ab Aa) fun Ac=>obind (f5 Ac) fun Ad=>bif Ad then some (Aa) else k1 (w64 (Aa + 1)) else some ((-1))
def d_slices_IndexFunc_impl_Type_impl_Type_L1 (fu:Nat)  (Aa:List Typ) (f5:Typ → Option Bool):Nat → Int → Option (Int)
  | 0=>fun _=>none
  | n + 1=>d_slices_IndexFunc_impl_Type_impl_Type_L1_B fu Aa f5 (d_slices_IndexFunc_impl_Type_impl_Type_L1 fu Aa f5 n)

def d_slices_IndexFunc_impl_Type_impl_Type (fu:Nat) (Aa:List Typ) (f5:Typ → Option Bool):Option (Int) :=
  d_slices_IndexFunc_impl_Type_impl_Type_L1 fu Aa f5 fu 0

def d_impl_TypeById (fu:Nat) (r1:Request) (Ac:Int):Option (Typ × Bool) :=
  obind (d_slices_IndexFunc_impl_Type_impl_Type fu r1.fTypes (fun Ab=>d_impl_TypeById_1 fu Ab Ac)) fun Aa=>bif (decide (Aa < 0)) then some ((⟨0,0,0,0,0,0,0⟩:Typ),false) else obind (ix r1.fTypes Aa) fun Ad=>some (Ad,true)

def d_impl_MasterOf (fu:Nat) (r1:Request):Option (Typ × Bool) :=
  obind (d_impl_TypeById fu r1 r1.fMaster) fun Aa=>some (Aa.1,Aa.2)

def d_impl_in (fu:Nat) (n1:Int) (Ab:Int) (Aa:Int):Option (Bool) :=
  bif (decide (n1 ≥ Ab)) then some (decide (n1 ≤ Aa)) else some (false)

def d_impl_isSide (fu:Nat) (n1:Int):Option (Bool) :=
  obind (d_impl_in fu n1 1 2000) fun x2=>some (x2)

def d_impl_PalletOk (fu:Nat) (x1:Pallet):Option (Bool) :=
  obind (d_impl_isSide fu x1.fW) fun x5=>bif x5 then obind (d_impl_isSide fu x1.fD) fun Ac=>bif Ac then obind (d_impl_isSide fu x1.fH) fun Ab=>bif Ab then obind (d_impl_in fu x1.fGram 1 100000) fun Aa=>some (Aa) else some (false) else some (false) else some (false)

def d_slices_IndexFunc_impl_Pair_impl_Pair_L1_B (fu:Nat)  (Ab:List Pair) (f5:Pair → Option Bool) (k1:Int → Option (Int)) (Aa:Int):Option (Int) :=
  bif (decide (Aa < ((Ab.length:Int)))) then obind (ix Ab Aa) fun Ac=>obind (f5 Ac) fun Ad=>bif Ad then some (Aa) else k1 (w64 (Aa + 1)) else some ((-1))
def d_slices_IndexFunc_impl_Pair_impl_Pair_L1 (fu:Nat)  (Aa:List Pair) (f5:Pair → Option Bool):Nat → Int → Option (Int)
  | 0=>fun _=>none
  | n + 1=>d_slices_IndexFunc_impl_Pair_impl_Pair_L1_B fu Aa f5 (d_slices_IndexFunc_impl_Pair_impl_Pair_L1 fu Aa f5 n)

def d_slices_IndexFunc_impl_Pair_impl_Pair (fu:Nat) (Aa:List Pair) (f5:Pair → Option Bool):Option (Int) :=
  d_slices_IndexFunc_impl_Pair_impl_Pair_L1 fu Aa f5 fu 0

def d_slices_ContainsFunc_impl_Pair_impl_Pair (fu:Nat) (Aa:List Pair) (f5:Pair → Option Bool):Option (Bool) :=
  obind (d_slices_IndexFunc_impl_Pair_impl_Pair fu Aa f5) fun Ab=>some (decide (Ab ≥ 0))

def d_impl_BoundsOk_1 (fu:Nat) (p1:Pair):Option (Bool) :=
  obind (d_impl_in fu p1.fA 0 3) fun x5=>bif (!x5) then some (true) else obind (d_impl_in fu p1.fB 0 3) fun Aa=>some (!Aa)

def d_slices_ContainsFunc_impl_Type_impl_Type (fu:Nat) (Aa:List Typ) (f5:Typ → Option Bool):Option (Bool) :=
  obind (d_slices_IndexFunc_impl_Type_impl_Type fu Aa f5) fun Ab=>some (decide (Ab ≥ 0))

def d_impl_TypeOk (fu:Nat) (x1:Typ):Option (Bool) :=
  obind (d_impl_in fu x1.fId 0 999) fun x5=>bif x5 then obind (d_impl_isSide fu x1.fW) fun Ac=>bif Ac then obind (d_impl_isSide fu x1.fH) fun Ad=>bif Ad then obind (d_impl_isSide fu x1.fD) fun Ab=>bif Ab then obind (d_impl_in fu x1.fTare 0 100000) fun Af=>bif Af then obind (d_impl_in fu x1.fGram 1 100000) fun Ae=>bif Ae then obind (d_impl_in fu x1.fCost 0 100000) fun Aa=>some (Aa) else some (false) else some (false) else some (false) else some (false) else some (false) else some (false)

def d_impl_BoundsOk_2 (fu:Nat) (t1:Typ):Option (Bool) :=
  obind (d_impl_TypeOk fu t1) fun x5=>some (!x5)

def d_impl_ItemOk (fu:Nat) (x1:Item):Option (Bool) :=
  obind (d_impl_in fu x1.fId 0 999) fun x5=>bif x5 then obind (d_impl_isSide fu x1.fW) fun Ac=>bif Ac then obind (d_impl_isSide fu x1.fH) fun Ad=>bif Ad then obind (d_impl_isSide fu x1.fD) fun Ab=>bif Ab then obind (d_impl_in fu x1.fGram 1 100000) fun Af=>bif Af then obind (d_impl_in fu x1.fClass 0 3) fun Ae=>bif Ae then obind (d_impl_in fu x1.fCount 1 6) fun Aa=>some (Aa) else some (false) else some (false) else some (false) else some (false) else some (false) else some (false)

def d_impl_BoundsOk_L1_B (fu:Nat)  (r1:Request) (k3:Int → Int → Option (Bool)) (Ab:Int) (Aa:Int):Option (Bool) :=
  bif (decide (Aa < ((r1.fItems.length:Int)))) then obind (ix r1.fItems Aa) fun Ac=>obind (d_impl_ItemOk fu Ac) fun Ad=>bif (!Ad) then some (false) else k3 (w64 (Ab + Ac.fCount)) (w64 (Aa + 1)) else some (decide (Ab ≤ 12))
def d_impl_BoundsOk_L1 (fu:Nat)  (r1:Request):Nat → Int → Int → Option (Bool)
  | 0=>fun _ _=>none
  | n + 1=>d_impl_BoundsOk_L1_B fu r1 (d_impl_BoundsOk_L1 fu r1 n)

def d_impl_BoundsOk_J1 (fu:Nat) (r1:Request)  : Option (Bool) :=
  d_impl_BoundsOk_L1 fu r1 fu 0 0

def d_impl_BoundsOk_J2 (fu:Nat) (r1:Request)  : Option (Bool) :=
  obind (d_slices_ContainsFunc_impl_Pair_impl_Pair fu r1.fPairs (fun Ac=>d_impl_BoundsOk_1 fu Ac)) fun Af=>bif Af then some (false) else obind (d_impl_in fu ((r1.fTypes.length:Int)) 1 5) fun Ad=>bif (!Ad) then some (false) else obind (d_slices_ContainsFunc_impl_Type_impl_Type fu r1.fTypes (fun Ae=>d_impl_BoundsOk_2 fu Ae)) fun Aa=>bif Aa then some (false) else obind (d_impl_in fu r1.fMaster 0 999) fun Ab=>bif (!Ab) then some (false) else bif (decide (((r1.fItems.length:Int)) > 8)) then some (false) else d_impl_BoundsOk_J1 fu r1

def d_impl_BoundsOk (fu:Nat) (r1:Request):Option (Bool) :=
  obind (d_impl_in fu r1.fWay 0 1) fun Ab=>bif (!Ab) then some (false) else obind (d_impl_PalletOk fu r1.fPallet) fun Ac=>bif (!Ac) then some (false) else obind (d_impl_in fu r1.fClasses 1 4) fun Aa=>bif (!Aa) then some (false) else bif (decide (((r1.fPairs.length:Int)) > 16)) then some (false) else d_impl_BoundsOk_J2 fu r1

def d_impl_namesOk_1 (fu:Nat) (q1:Typ) (x2:Typ):Option (Bool) :=
  some (q1.fId == x2.fId)

def d_impl_namesOk_2 (fu:Nat) (q1:Item) (x2:Item):Option (Bool) :=
  some (q1.fId == x2.fId)

def d_slices_IndexFunc_impl_Item_impl_Item_L1_B (fu:Nat)  (Ab:List Item) (f5:Item → Option Bool) (k1:Int → Option (Int)) (Aa:Int):Option (Int) :=
  bif (decide (Aa < ((Ab.length:Int)))) then obind (ix Ab Aa) fun Ac=>obind (f5 Ac) fun Ad=>bif Ad then some (Aa) else k1 (w64 (Aa + 1)) else some ((-1))
def d_slices_IndexFunc_impl_Item_impl_Item_L1 (fu:Nat)  (Aa:List Item) (f5:Item → Option Bool):Nat → Int → Option (Int)
  | 0=>fun _=>none
  | n + 1=>d_slices_IndexFunc_impl_Item_impl_Item_L1_B fu Aa f5 (d_slices_IndexFunc_impl_Item_impl_Item_L1 fu Aa f5 n)

def d_slices_IndexFunc_impl_Item_impl_Item (fu:Nat) (Aa:List Item) (f5:Item → Option Bool):Option (Int) :=
  d_slices_IndexFunc_impl_Item_impl_Item_L1 fu Aa f5 fu 0

def d_slices_ContainsFunc_impl_Item_impl_Item (fu:Nat) (Aa:List Item) (f5:Item → Option Bool):Option (Bool) :=
  obind (d_slices_IndexFunc_impl_Item_impl_Item fu Aa f5) fun Ab=>some (decide (Ab ≥ 0))

def d_impl_namesOk_3 (fu:Nat) (p1:Pair) (x2:Request):Option (Bool) :=
  bif (decide (p1.fA ≥ x2.fClasses)) then some (true) else some (decide (p1.fB ≥ x2.fClasses))

def d_impl_namesOk_J1 (fu:Nat) (k4:Int → Option (Bool)) (Aa:Int)  : Option (Bool) :=
  k4 (w64 (Aa + 1))

def d_impl_namesOk_L1_B (fu:Nat)  (r1:Request) (k4:Int → Option (Bool)) (Aa:Int):Option (Bool) :=
  bif (decide (Aa < ((r1.fItems.length:Int)))) then obind (ix r1.fItems Aa) fun Ab=>bif (decide (Ab.fClass ≥ r1.fClasses)) then some (false) else obind (sls r1.fItems 0 Aa) fun Ad=>obind (d_slices_ContainsFunc_impl_Item_impl_Item fu Ad (fun Ae=>d_impl_namesOk_2 fu Ae Ab)) fun Af=>bif Af then some (false) else d_impl_namesOk_J1 fu k4 Aa else obind (d_impl_MasterOf fu r1) fun Ah=>bif Ah.2 then obind (d_slices_ContainsFunc_impl_Pair_impl_Pair fu r1.fPairs (fun Ac=>d_impl_namesOk_3 fu Ac r1)) fun Ag=>some (!Ag) else some (false)
def d_impl_namesOk_L1 (fu:Nat)  (r1:Request):Nat → Int → Option (Bool)
  | 0=>fun _=>none
  | n + 1=>d_impl_namesOk_L1_B fu r1 (d_impl_namesOk_L1 fu r1 n)

def d_impl_namesOk_L2_B (fu:Nat)  (r1:Request) (k1:Int → Option (Bool)) (Aa:Int):Option (Bool) :=
  bif (decide (Aa < ((r1.fTypes.length:Int)))) then obind (ix r1.fTypes Aa) fun Ad=>obind (sls r1.fTypes 0 Aa) fun Ab=>obind (d_slices_ContainsFunc_impl_Type_impl_Type fu Ab (fun Ae=>d_impl_namesOk_1 fu Ae Ad)) fun Ac=>bif Ac then some (false) else k1 (w64 (Aa + 1)) else d_impl_namesOk_L1 fu r1 fu 0
def d_impl_namesOk_L2 (fu:Nat)  (r1:Request):Nat → Int → Option (Bool)
  | 0=>fun _=>none
  | n + 1=>d_impl_namesOk_L2_B fu r1 (d_impl_namesOk_L2 fu r1 n)

def d_impl_namesOk (fu:Nat) (r1:Request):Option (Bool) :=
  d_impl_namesOk_L2 fu r1 fu 0

def d_slices_Index_impl_Pair_impl_Pair_L1_B (fu:Nat)  (Ab:List Pair) (v5:Pair) (k1:Int → Option (Int)) (Aa:Int):Option (Int) :=
  bif (decide (Aa < ((Ab.length:Int)))) then obind (ix Ab Aa) fun Ac=>bif (decide (v5 = Ac)) then some (Aa) else k1 (w64 (Aa + 1)) else some ((-1))
def d_slices_Index_impl_Pair_impl_Pair_L1 (fu:Nat)  (Aa:List Pair) (v5:Pair):Nat → Int → Option (Int)
  | 0=>fun _=>none
  | n + 1=>d_slices_Index_impl_Pair_impl_Pair_L1_B fu Aa v5 (d_slices_Index_impl_Pair_impl_Pair_L1 fu Aa v5 n)

def d_slices_Index_impl_Pair_impl_Pair (fu:Nat) (Aa:List Pair) (v5:Pair):Option (Int) :=
  d_slices_Index_impl_Pair_impl_Pair_L1 fu Aa v5 fu 0

def d_slices_Contains_impl_Pair_impl_Pair (fu:Nat) (Aa:List Pair) (v5:Pair):Option (Bool) :=
  obind (d_slices_Index_impl_Pair_impl_Pair fu Aa v5) fun Ab=>some (decide (Ab ≥ 0))

def d_impl_Beside (fu:Nat) (Aa:List Pair) (a5:Int) (b6:Int):Option (Bool) :=
  obind (d_slices_Contains_impl_Pair_impl_Pair fu Aa ((⟨a5,b6⟩:Pair))) fun x7=>some (x7)

def d_impl_TableOk_L1_B (fu:Nat) (k3:Int → Option (Bool)) (Ac:List Pair) (Ae:Int) (Ab:Int) (k4:Int → Option (Bool)) (Aa:Int):Option (Bool) :=
  bif (decide (Aa < Ae)) then obind (d_impl_Beside fu Ac Ab Aa) fun Af=>obind (d_impl_Beside fu Ac Aa Ab) fun Ad=>bif (!(Af == Ad)) then some (false) else k4 (w64 (Aa + 1)) else k3 (w64 (Ab + 1))
def d_impl_TableOk_L1 (fu:Nat) (k3:Int → Option (Bool)) (Aa:List Pair) (Ac:Int) (Ab:Int):Nat → Int → Option (Bool)
  | 0=>fun _=>none
  | n + 1=>d_impl_TableOk_L1_B fu k3 Aa Ac Ab (d_impl_TableOk_L1 fu k3 Aa Ac Ab n)

def d_impl_TableOk_L2_B (fu:Nat)  (Ab:List Pair) (Ac:Int) (k3:Int → Option (Bool)) (Aa:Int):Option (Bool) :=
  bif (decide (Aa < Ac)) then obind (d_impl_Beside fu Ab Aa Aa) fun Ad=>bif (!Ad) then some (false) else d_impl_TableOk_L1 fu k3 Ab Ac Aa fu 0 else some (true)
def d_impl_TableOk_L2 (fu:Nat)  (Aa:List Pair) (Ab:Int):Nat → Int → Option (Bool)
  | 0=>fun _=>none
  | n + 1=>d_impl_TableOk_L2_B fu Aa Ab (d_impl_TableOk_L2 fu Aa Ab n)

def d_impl_TableOk (fu:Nat) (Ab:List Pair) (Aa:Int):Option (Bool) :=
  obind (d_impl_in fu Aa 1 4) fun x6=>bif (!x6) then some (false) else d_impl_TableOk_L2 fu Ab Aa fu 0

def d_slices_Sort_int_int (fu:Nat) (x1:List Int):Option (List Int):=sortI x1

def d_impl_Fits_J1 (fu:Nat) (x1:Item) (t2:Typ) (Ah:List Int) (Ai:List Int):Option (Bool) :=
  obind (d_slices_Sort_int_int fu Ah) fun Ab=>obind (d_slices_Sort_int_int fu Ai) fun Aa=>obind (ix Ab 0) fun Ag=>obind (ix Aa 0) fun Aj=>bif (decide (Ag ≤ Aj)) then obind (ix Ab 1) fun Ac=>obind (ix Aa 1) fun Ae=>bif (decide (Ac ≤ Ae)) then obind (ix Ab 2) fun Ad=>obind (ix Aa 2) fun Af=>bif (decide (Ad ≤ Af)) then some (decide (x1.fGram ≤ t2.fGram)) else some (false) else some (false) else some (false)

def d_impl_Fits (fu:Nat) (x1:Item) (t2:Typ):Option (Bool) :=
  d_impl_Fits_J1 fu x1 t2 (([x1.fW,x1.fH,x1.fD]:List Int)) (([t2.fW,t2.fH,t2.fD]:List Int))

def d_impl_Class_1 (fu:Nat) (x1:Item) (x2:Typ):Option (Bool) :=
  obind (d_impl_Fits fu x1 x2) fun x8=>some (!x8)

def d_impl_Class_2 (fu:Nat) (t1:Typ) (x2:Pallet):Option (Bool) :=
  bif (decide (t1.fW > x2.fW)) then some (true) else bif (decide (t1.fD > x2.fD)) then some (true) else bif (decide (t1.fH > x2.fH)) then some (true) else some (decide ((w64 (t1.fTare + t1.fGram)) > x2.fGram))

def d_impl_Class (fu:Nat) (r1:Request):Option (Int) :=
  obind (d_impl_MasterOf fu r1) fun Ag=>obind (d_impl_BoundsOk fu r1) fun Ah=>bif (!Ah) then some (2) else obind (d_impl_namesOk fu r1) fun Aa=>bif (!Aa) then some (3) else obind (d_impl_TableOk fu r1.fPairs r1.fClasses) fun Ad=>bif (!Ad) then some (4) else obind (d_slices_ContainsFunc_impl_Item_impl_Item fu r1.fItems (fun Af=>d_impl_Class_1 fu Af Ag.1)) fun Ab=>bif Ab then some (5) else obind (d_slices_ContainsFunc_impl_Type_impl_Type fu r1.fTypes (fun Ac=>d_impl_Class_2 fu Ac r1.fPallet)) fun Ae=>bif Ae then some (6) else some (0)

def d_impl_sound (fu:Nat) (r1:Request):Option (Bool) :=
  obind (d_impl_Class fu r1) fun Aa=>some (Aa == 0)

def d_bits_Mul64 (fu:Nat) (x1:Int) (y2:Int):Option (Int × Int) :=
  some (IntKind.wrap .u64 ((IntKind.wrap .u64 ((IntKind.wrap .u64 ((Int.fdiv x1 (2 ^ (min 32 (IntKind.bits .u64)))) * (Int.fdiv y2 (2 ^ (min 32 (IntKind.bits .u64)))))) + (Int.fdiv (IntKind.wrap .u64 ((IntKind.wrap .u64 ((Int.fdiv x1 (2 ^ (min 32 (IntKind.bits .u64)))) * (IntKind.wrap .u64 (((BitVec.ofInt (IntKind.bits .u64) y2 &&& BitVec.ofInt (IntKind.bits .u64) 4294967295).toNat:Nat):Int)))) + (Int.fdiv (IntKind.wrap .u64 ((IntKind.wrap .u64 (((BitVec.ofInt (IntKind.bits .u64) x1 &&& BitVec.ofInt (IntKind.bits .u64) 4294967295).toNat:Nat):Int)) * (IntKind.wrap .u64 (((BitVec.ofInt (IntKind.bits .u64) y2 &&& BitVec.ofInt (IntKind.bits .u64) 4294967295).toNat:Nat):Int)))) (2 ^ (min 32 (IntKind.bits .u64)))))) (2 ^ (min 32 (IntKind.bits .u64)))))) + (Int.fdiv (IntKind.wrap .u64 ((IntKind.wrap .u64 (((BitVec.ofInt (IntKind.bits .u64) (IntKind.wrap .u64 ((IntKind.wrap .u64 ((Int.fdiv x1 (2 ^ (min 32 (IntKind.bits .u64)))) * (IntKind.wrap .u64 (((BitVec.ofInt (IntKind.bits .u64) y2 &&& BitVec.ofInt (IntKind.bits .u64) 4294967295).toNat:Nat):Int)))) + (Int.fdiv (IntKind.wrap .u64 ((IntKind.wrap .u64 (((BitVec.ofInt (IntKind.bits .u64) x1 &&& BitVec.ofInt (IntKind.bits .u64) 4294967295).toNat:Nat):Int)) * (IntKind.wrap .u64 (((BitVec.ofInt (IntKind.bits .u64) y2 &&& BitVec.ofInt (IntKind.bits .u64) 4294967295).toNat:Nat):Int)))) (2 ^ (min 32 (IntKind.bits .u64)))))) &&& BitVec.ofInt (IntKind.bits .u64) 4294967295).toNat:Nat):Int)) + (IntKind.wrap .u64 ((IntKind.wrap .u64 (((BitVec.ofInt (IntKind.bits .u64) x1 &&& BitVec.ofInt (IntKind.bits .u64) 4294967295).toNat:Nat):Int)) * (Int.fdiv y2 (2 ^ (min 32 (IntKind.bits .u64)))))))) (2 ^ (min 32 (IntKind.bits .u64))))),IntKind.wrap .u64 (x1 * y2))

def d_bits_Mul (fu:Nat) (x1:Int) (y2:Int):Option (Int × Int) :=
  obind (d_bits_Mul64 fu x1 y2) fun x3=>some (x3.1,x3.2)

def d_slices_Repeat_int_int_L1_B (fu:Nat)   (k3:List Int → Int → Option ((List Int))) (Aa:List Int) (Ab:Int):Option ((List Int)) :=
  bif (decide (Ab < ((Aa.length:Int)))) then obind (sls Aa Ab (Aa.length:Int)) fun Ad=>obind (sls Aa 0 Ab) fun Ac=>k3 (cpd Aa Ab Ac) (w64 (Ab + (cpn Aa Ab Ac))) else some (Aa)
def d_slices_Repeat_int_int_L1 (fu:Nat)   : Nat → List Int → Int → Option ((List Int))
  | 0=>fun _ _=>none
  | n + 1=>d_slices_Repeat_int_int_L1_B fu  (d_slices_Repeat_int_int_L1 fu  n)

def d_slices_Repeat_int_int_J1 (fu:Nat) (x1:List Int) (x8:Int × Int)  : Option ((List Int)) :=
  obind (mk 8 (0:Int) (w64 x8.2)) fun Aa=>d_slices_Repeat_int_int_L1 fu fu (cpd Aa 0 x1) (cpn Aa 0 x1)

def d_slices_Repeat_int_int_J2 (fu:Nat) (x1:List Int) (Aa:Int)  : Option ((List Int)) :=
  obind (d_bits_Mul fu (IntKind.wrap .u64 ((x1.length:Int))) (IntKind.wrap .u64 Aa)) fun x8=>bif (decide (x8.1 > 0)) then none else bif (decide (x8.2 > 9223372036854775807)) then none else d_slices_Repeat_int_int_J1 fu x1 x8

def d_slices_Repeat_int_int (fu:Nat) (x1:List Int) (Aa:Int):Option ((List Int)) :=
  bif (decide (Aa < 0)) then none else d_slices_Repeat_int_int_J2 fu x1 Aa

def d_impl_Units_L1_B (fu:Nat)  (r1:Request) (k1:List Int → Int → Option ((List Int))) (Ab:List Int) (Aa:Int):Option ((List Int)) :=
  bif (decide (Aa < ((r1.fItems.length:Int)))) then obind (ix r1.fItems Aa) fun Ad=>obind (d_slices_Repeat_int_int fu (([Aa]:List Int)) Ad.fCount) fun Ae=>obind (apnd 8 Ab Ae) fun Ac=>k1 Ac (w64 (Aa + 1)) else some (Ab)
def d_impl_Units_L1 (fu:Nat)  (r1:Request):Nat → List Int → Int → Option ((List Int))
  | 0=>fun _ _=>none
  | n + 1=>d_impl_Units_L1_B fu r1 (d_impl_Units_L1 fu r1 n)

def d_impl_Units (fu:Nat) (r1:Request):Option ((List Int)) :=
  obind (d_impl_sound fu r1) fun Aa=>bif (!Aa) then some (([]:List Int)) else d_impl_Units_L1 fu r1 fu (([]:List Int)) 0

def d_impl_places_L1_B (fu:Nat)  (n1:Int) (k1:List Int → Int → Option ((List Int))) (Ab:List Int) (Aa:Int):Option ((List Int)) :=
  bif (decide (Aa < n1)) then obind (apnd 8 Ab (([Aa]:List Int))) fun Ac=>k1 Ac (w64 (Aa + 1)) else some (Ab)
def d_impl_places_L1 (fu:Nat)  (n1:Int):Nat → List Int → Int → Option ((List Int))
  | 0=>fun _ _=>none
  | n + 1=>d_impl_places_L1_B fu n1 (d_impl_places_L1 fu n1 n)

def d_impl_places (fu:Nat) (n1:Int):Option ((List Int)) :=
  d_impl_places_L1 fu n1 fu (([]:List Int)) 0

def d_impl_itemsOf_J1 (fu:Nat) (k3:List Item → Int → Option ((List Item))) (Aa:Int) (Ab:List Item):Option ((List Item)) :=
  k3 Ab (w64 (Aa + 1))

def d_impl_itemsOf_L1_B (fu:Nat)  (r1:Request) (Ac:List Int) (Ae:(List Int)) (k3:List Item → Int → Option ((List Item))) (Ab:List Item) (Aa:Int):Option ((List Item)) :=
  bif (decide (Aa < ((Ac.length:Int)))) then obind (ix Ac Aa) fun Ad=>obind (d_impl_in fu Ad 0 (w64 (((Ae.length:Int)) - 1))) fun Ai=>bif Ai then obind (ix Ae Ad) fun Af=>obind (ix r1.fItems Af) fun Ah=>obind (apnd 56 Ab (([Ah]:List Item))) fun Ag=>d_impl_itemsOf_J1 fu k3 Aa Ag else d_impl_itemsOf_J1 fu k3 Aa Ab else some (Ab)
def d_impl_itemsOf_L1 (fu:Nat)  (r1:Request) (Aa:List Int) (Ab:(List Int)):Nat → List Item → Int → Option ((List Item))
  | 0=>fun _ _=>none
  | n + 1=>d_impl_itemsOf_L1_B fu r1 Aa Ab (d_impl_itemsOf_L1 fu r1 Aa Ab n)

def d_impl_itemsOf (fu:Nat) (r1:Request) (Aa:List Int):Option ((List Item)) :=
  obind (d_impl_Units fu r1) fun Ab=>d_impl_itemsOf_L1 fu r1 Aa Ab fu (([]:List Item)) 0

def d_impl_Volume_J1 (fu:Nat) (Aa:Int) (h2:Int) (d3:Int)  : Option (Int) :=
  some (w64 ((w64 (Aa * h2)) * d3))

def d_impl_Volume (fu:Nat) (Aa:Int) (h2:Int) (d3:Int):Option (Int) :=
  obind (d_impl_in fu Aa 0 2000) fun Ac=>bif (!Ac) then some (0) else obind (d_impl_in fu h2 0 2000) fun Ab=>bif (!Ab) then some (0) else obind (d_impl_in fu d3 0 2000) fun Ad=>bif (!Ad) then some (0) else d_impl_Volume_J1 fu Aa h2 d3

def d_impl_VolumeOf_L1_B (fu:Nat)  (Ac:(List Item)) (k1:Int → Int → Option (Int)) (Ad:Int) (Ab:Int):Option (Int) :=
  bif (decide (Ab < ((Ac.length:Int)))) then obind (ix Ac Ab) fun Aa=>obind (d_impl_Volume fu Aa.fW Aa.fH Aa.fD) fun Ae=>k1 (w64 (Ad + Ae)) (w64 (Ab + 1)) else some (Ad)
def d_impl_VolumeOf_L1 (fu:Nat)  (Aa:(List Item)):Nat → Int → Int → Option (Int)
  | 0=>fun _ _=>none
  | n + 1=>d_impl_VolumeOf_L1_B fu Aa (d_impl_VolumeOf_L1 fu Aa n)

def d_impl_VolumeOf (fu:Nat) (r1:Request) (Aa:List Int):Option (Int) :=
  obind (d_impl_itemsOf fu r1 Aa) fun Ab=>d_impl_VolumeOf_L1 fu Ab fu 0 0

def d_impl_GramOf_L1_B (fu:Nat)  (Ab:(List Item)) (k1:Int → Int → Option (Int)) (Ac:Int) (Aa:Int):Option (Int) :=
  bif (decide (Aa < ((Ab.length:Int)))) then obind (ix Ab Aa) fun Ad=>k1 (w64 (Ac + Ad.fGram)) (w64 (Aa + 1)) else some (Ac)
def d_impl_GramOf_L1 (fu:Nat)  (Aa:(List Item)):Nat → Int → Int → Option (Int)
  | 0=>fun _ _=>none
  | n + 1=>d_impl_GramOf_L1_B fu Aa (d_impl_GramOf_L1 fu Aa n)

def d_impl_GramOf (fu:Nat) (r1:Request) (Aa:List Int):Option (Int) :=
  obind (d_impl_itemsOf fu r1 Aa) fun Ab=>d_impl_GramOf_L1 fu Ab fu 0 0

def d_impl_within (fu:Nat) (r1:Request) (Aa:List Int) (t9:Typ):Option (Bool) :=
  obind (d_impl_VolumeOf fu r1 Aa) fun Ad=>obind (d_impl_Volume fu t9.fW t9.fH t9.fD) fun Ac=>bif (decide (Ad ≤ Ac)) then obind (d_impl_GramOf fu r1 Aa) fun Ab=>some (decide (Ab ≤ t9.fGram)) else some (false)

def d_slices_Clone_int_int (fu:Nat) (Aa:List Int):Option ((List Int)) :=
  obind (apnd 8 (([]:List Int)) Aa) fun Ab=>some (Ab)

def d_impl_thereOf_1 (fu:Nat) (u1:Int) (x2:Int):Option (Bool) :=
  obind (d_impl_in fu u1 0 (w64 (x2 - 1))) fun x5=>some (!x5)

def d_slices_IndexFunc_int_int_L1_B (fu:Nat)  (Ab:List Int) (f5:Int → Option Bool) (k1:Int → Option (Int)) (Aa:Int):Option (Int) :=
  bif (decide (Aa < ((Ab.length:Int)))) then obind (ix Ab Aa) fun Ac=>obind (f5 Ac) fun Ad=>bif Ad then some (Aa) else k1 (w64 (Aa + 1)) else some ((-1))
def d_slices_IndexFunc_int_int_L1 (fu:Nat)  (Aa:List Int) (f5:Int → Option Bool):Nat → Int → Option (Int)
  | 0=>fun _=>none
  | n + 1=>d_slices_IndexFunc_int_int_L1_B fu Aa f5 (d_slices_IndexFunc_int_int_L1 fu Aa f5 n)

def d_slices_IndexFunc_int_int (fu:Nat) (Aa:List Int) (f5:Int → Option Bool):Option (Int) :=
  d_slices_IndexFunc_int_int_L1 fu Aa f5 fu 0

def d_slices_DeleteFunc_int_int_J1 (fu:Nat) (k3:List Int → Int → Int → Option ((List Int))) (Aa:Int) (Ac:List Int) (Ab:Int):Option ((List Int)) :=
  k3 Ac Ab (w64 (Aa + 1))

def d_slices_DeleteFunc_int_int_L1_B (fu:Nat)  (f5:Int → Option Bool) (k3:List Int → Int → Int → Option ((List Int))) (Aa:List Int) (Ab:Int) (Ac:Int):Option ((List Int)) :=
  bif (decide (Ac < ((Aa.length:Int)))) then obind (ix Aa Ac) fun Ad=>obind (f5 Ad) fun Af=>bif (!Af) then obind (ix Aa Ab) fun Ag=>d_slices_DeleteFunc_int_int_J1 fu k3 Ac (setx Aa Ab Ad) (w64 (Ab + 1)) else d_slices_DeleteFunc_int_int_J1 fu k3 Ac Aa Ab else obind (sls Aa Ab (Aa.length:Int)) fun Ah=>obind (sls (clrd Aa Ab) 0 Ab) fun Ae=>some (Ae)
def d_slices_DeleteFunc_int_int_L1 (fu:Nat)  (f5:Int → Option Bool):Nat → List Int → Int → Int → Option ((List Int))
  | 0=>fun _ _ _=>none
  | n + 1=>d_slices_DeleteFunc_int_int_L1_B fu f5 (d_slices_DeleteFunc_int_int_L1 fu f5 n)

def d_slices_DeleteFunc_int_int (fu:Nat) (Aa:List Int) (f5:Int → Option Bool):Option ((List Int)) :=
  obind (d_slices_IndexFunc_int_int fu Aa f5) fun Ab=>bif (Ab == ((-1))) then some (Aa) else d_slices_DeleteFunc_int_int_L1 fu f5 fu Aa Ab (w64 (Ab + 1))

def d_impl_thereOf (fu:Nat) (r1:Request) (Aa:List Int):Option ((List Int)) :=
  obind (d_impl_Units fu r1) fun Ac=>obind (d_slices_Clone_int_int fu Aa) fun Ae=>obind (d_slices_DeleteFunc_int_int fu Ae (fun Ab=>d_impl_thereOf_1 fu Ab ((Ac.length:Int)))) fun Ad=>some (Ad)

def d_slices_Equal_int_int_L1_B (fu:Nat)  (Ab:List Int) (Ae:List Int) (k1:Int → Option (Bool)) (Aa:Int):Option (Bool) :=
  bif (decide (Aa < ((Ab.length:Int)))) then obind (ix Ab Aa) fun Ac=>obind (ix Ae Aa) fun Ad=>bif (Ac != Ad) then some (false) else k1 (w64 (Aa + 1)) else some (true)
def d_slices_Equal_int_int_L1 (fu:Nat)  (Aa:List Int) (Ab:List Int):Nat → Int → Option (Bool)
  | 0=>fun _=>none
  | n + 1=>d_slices_Equal_int_int_L1_B fu Aa Ab (d_slices_Equal_int_int_L1 fu Aa Ab n)

def d_slices_Equal_int_int (fu:Nat) (Aa:List Int) (Ab:List Int):Option (Bool) :=
  bif (((Aa.length:Int)) != ((Ab.length:Int))) then some (false) else d_slices_Equal_int_int_L1 fu Aa Ab fu 0

def d_impl_IsPacking_J1 (fu:Nat) (k7:List Int → Int → Option (Bool)) (Aa:Int) (Ab:List Int):Option (Bool) :=
  k7 Ab (w64 (Aa + 1))

def d_impl_IsPacking_J2 (fu:Nat) (k7:List Int → Int → Option (Bool)) (Ad:List Int) (Ab:Int) (Ac:List Int)  : Option (Bool) :=
  obind (apnd 8 Ad Ac) fun Aa=>d_impl_IsPacking_J1 fu k7 Ab Aa

def d_impl_IsPacking_L1_B (fu:Nat)  (r1:Request) (Ag:List Int) (Ac:List (List Int)) (Ai:Typ × Bool) (k7:List Int → Int → Option (Bool)) (Ad:List Int) (Aa:Int):Option (Bool) :=
  bif (decide (Aa < ((Ac.length:Int)))) then obind (ix Ac Aa) fun Ab=>bif (((Ab.length:Int)) == 0) then some (false) else obind (d_impl_within fu r1 Ab Ai.1) fun Aj=>bif (!Aj) then some (false) else d_impl_IsPacking_J2 fu k7 Ad Aa Ab else obind (d_impl_thereOf fu r1 Ag) fun Ah=>obind (d_slices_Sort_int_int fu Ad) fun Ak=>obind (d_slices_Sort_int_int fu Ah) fun Ae=>obind (d_slices_Equal_int_int fu Ak Ae) fun Af=>some (Af)
def d_impl_IsPacking_L1 (fu:Nat)  (r1:Request) (Aa:List Int) (Ac:List (List Int)) (Ab:Typ × Bool):Nat → List Int → Int → Option (Bool)
  | 0=>fun _ _=>none
  | n + 1=>d_impl_IsPacking_L1_B fu r1 Aa Ac Ab (d_impl_IsPacking_L1 fu r1 Aa Ac Ab n)

def d_impl_IsPacking (fu:Nat) (r1:Request) (Aa:List Int) (Ad:List (List Int)):Option (Bool) :=
  obind (d_impl_sound fu r1) fun Ab=>bif (!Ab) then some (false) else obind (d_impl_MasterOf fu r1) fun Ac=>d_impl_IsPacking_L1 fu r1 Aa Ad Ac fu (([]:List Int)) 0

def d_impl_mutual (fu:Nat) (Aa:List Pair) (a5:Int) (b6:Int):Option (Bool) :=
  obind (d_impl_Beside fu Aa a5 b6) fun x7=>bif x7 then obind (d_impl_Beside fu Aa b6 a5) fun Ab=>some (Ab) else some (false)

def d_impl_mayLie_1_1 (fu:Nat) (y1:Item) (x2:Request) (Ab:Item):Option (Bool) :=
  obind (d_impl_mutual fu x2.fPairs Ab.fClass y1.fClass) fun Aa=>some (!Aa)

def d_impl_mayLie_1 (fu:Nat) (x1:Item) (x2:List Item) (x8:Request):Option (Bool) :=
  obind (d_slices_ContainsFunc_impl_Item_impl_Item fu x2 (fun Aa=>d_impl_mayLie_1_1 fu Aa x8 x1)) fun Ab=>some (Ab)

def d_impl_mayLie (fu:Nat) (r1:Request) (Ad:List Int) (u9:Int):Option (Bool) :=
  obind (d_impl_itemsOf fu r1 (([u9]:List Int))) fun Aa=>obind (d_impl_itemsOf fu r1 Ad) fun Ac=>obind (d_slices_ContainsFunc_impl_Item_impl_Item fu Ac (fun Ab=>d_impl_mayLie_1 fu Ab Aa r1)) fun Ae=>some (!Ae)

def d_impl_IsRival_1_1 (fu:Nat) (u1:Int) (x2:Request) (Ab:List Int):Option (Bool) :=
  obind (d_impl_mayLie fu x2 Ab u1) fun Aa=>some (!Aa)

def d_slices_ContainsFunc_int_int (fu:Nat) (Aa:List Int) (f5:Int → Option Bool):Option (Bool) :=
  obind (d_slices_IndexFunc_int_int fu Aa f5) fun Ab=>some (decide (Ab ≥ 0))

def d_impl_IsRival_1 (fu:Nat) (l1:List Int) (x5:Request):Option (Bool) :=
  obind (d_slices_ContainsFunc_int_int fu l1 (fun Ab=>d_impl_IsRival_1_1 fu Ab x5 l1)) fun Aa=>some (Aa)

def d_slices_IndexFunc_ints_int_L1_B (fu:Nat)  (Ab:List (List Int)) (f5:(List Int) → Option Bool) (k1:Int → Option (Int)) (Aa:Int):Option (Int) :=
  bif (decide (Aa < ((Ab.length:Int)))) then obind (ix Ab Aa) fun Ac=>obind (f5 Ac) fun Ad=>bif Ad then some (Aa) else k1 (w64 (Aa + 1)) else some ((-1))
def d_slices_IndexFunc_ints_int_L1 (fu:Nat)  (Aa:List (List Int)) (f5:(List Int) → Option Bool):Nat → Int → Option (Int)
  | 0=>fun _=>none
  | n + 1=>d_slices_IndexFunc_ints_int_L1_B fu Aa f5 (d_slices_IndexFunc_ints_int_L1 fu Aa f5 n)

def d_slices_IndexFunc_ints_int (fu:Nat) (Aa:List (List Int)) (f5:(List Int) → Option Bool):Option (Int) :=
  d_slices_IndexFunc_ints_int_L1 fu Aa f5 fu 0

def d_slices_ContainsFunc_ints_int (fu:Nat) (Aa:List (List Int)) (f5:(List Int) → Option Bool):Option (Bool) :=
  obind (d_slices_IndexFunc_ints_int fu Aa f5) fun Ab=>some (decide (Ab ≥ 0))

def d_impl_IsRival (fu:Nat) (r1:Request) (Aa:List (List Int)):Option (Bool) :=
  obind (d_impl_Units fu r1) fun Ab=>obind (d_impl_places fu ((Ab.length:Int))) fun Ac=>obind (d_impl_IsPacking fu r1 Ac Aa) fun Ae=>bif (!Ae) then some (false) else obind (d_slices_ContainsFunc_ints_int fu Aa (fun Af=>d_impl_IsRival_1 fu Af r1)) fun Ad=>some (!Ad)

def d_spec_Units (fu:Nat) (r1:Request):Option ((List Int)) :=
  obind (d_spec_Class fu r1) fun Aa=>bif (Aa != 0) then some (([]:List Int)) else obind (d_spec_l6Units fu r1) fun Ab=>some (Ab)

def d_spec_l7Known_J1 (fu:Nat) (k3:List Int → Int → Option ((List Int))) (Ab:Int) (Aa:List Int):Option ((List Int)) :=
  k3 Aa (w64 (Ab + 1))

def d_spec_l7Known_L1_B (fu:Nat)  (Af:List Int) (Ab:List Int) (k3:List Int → Int → Option ((List Int))) (Ac:List Int) (Aa:Int):Option ((List Int)) :=
  bif (decide (Aa < ((Ab.length:Int)))) then obind (ix Ab Aa) fun Ad=>obind (d_spec_l1In fu Ad 0 (w64 (((Af.length:Int)) - 1))) fun Ae=>bif Ae then obind (ix Ab Aa) fun Ah=>obind (apnd 8 Ac (([Ad]:List Int))) fun Ag=>d_spec_l7Known_J1 fu k3 Aa Ag else d_spec_l7Known_J1 fu k3 Aa Ac else some (Ac)
def d_spec_l7Known_L1 (fu:Nat)  (Ab:List Int) (Aa:List Int):Nat → List Int → Int → Option ((List Int))
  | 0=>fun _ _=>none
  | n + 1=>d_spec_l7Known_L1_B fu Ab Aa (d_spec_l7Known_L1 fu Ab Aa n)

def d_spec_l7Known (fu:Nat) (Ab:List Int) (Aa:List Int):Option ((List Int)) :=
  d_spec_l7Known_L1 fu Ab Aa fu (([]:List Int)) 0

def d_spec_l1Bit (fu:Nat) (Aa:Bool):Option (Int) :=
  bif Aa then some (1) else some (0)

def d_spec_l8Times_L1_B (fu:Nat)  (Ac:List Int) (x5:Int) (k1:Int → Int → Option (Int)) (Ab:Int) (Aa:Int):Option (Int) :=
  bif (decide (Aa < ((Ac.length:Int)))) then obind (ix Ac Aa) fun Ad=>obind (d_spec_l1Bit fu (Ad == x5)) fun Ae=>k1 (w64 (Ab + Ae)) (w64 (Aa + 1)) else some (Ab)
def d_spec_l8Times_L1 (fu:Nat)  (Aa:List Int) (x5:Int):Nat → Int → Int → Option (Int)
  | 0=>fun _ _=>none
  | n + 1=>d_spec_l8Times_L1_B fu Aa x5 (d_spec_l8Times_L1 fu Aa x5 n)

def d_spec_l8Times (fu:Nat) (Aa:List Int) (x5:Int):Option (Int) :=
  d_spec_l8Times_L1 fu Aa x5 fu 0 0

def d_spec_IsPacking_L1_B (fu:Nat)  (Ab:List Int) (Ag:(List Int)) (Af:Int → Option (Bool)) (Aa:Int):Option (Bool) :=
  bif (decide (Aa < ((Ab.length:Int)))) then obind (ix Ab Aa) fun Ac=>obind (ix Ab Aa) fun Ah=>obind (d_spec_l8Times fu Ab Ac) fun Ad=>obind (d_spec_l8Times fu Ag Ac) fun Ae=>bif (Ad != Ae) then some (false) else Af (w64 (Aa + 1)) else some (true)
def d_spec_IsPacking_L1 (fu:Nat)  (Ab:List Int) (Aa:(List Int)):Nat → Int → Option (Bool)
  | 0=>fun _=>none
  | n + 1=>d_spec_IsPacking_L1_B fu Ab Aa (d_spec_IsPacking_L1 fu Ab Aa n)

def d_spec_IsPacking_J1 (fu:Nat) (Ac:List Int) (Ad:(List Int)) (Ab:List Int):Option (Bool) :=
  obind (d_spec_l7Known fu Ad Ac) fun Aa=>bif (((Aa.length:Int)) != ((Ab.length:Int))) then some (false) else d_spec_IsPacking_L1 fu Ab Aa fu 0

def d_spec_IsPacking_J2 (fu:Nat) (Ac:List Int → Int → Option (Bool)) (Ab:Int) (Aa:List Int):Option (Bool) :=
  Ac Aa (w64 (Ab + 1))

def d_spec_IsPacking_J3 (fu:Nat) (Ab:List Int → Int → Option (Bool)) (Ac:List (List Int)) (Af:List Int) (Aa:Int)  : Option (Bool) :=
  obind (ix Ac Aa) fun Ad=>obind (apnd 8 Af Ad) fun Ae=>d_spec_IsPacking_J2 fu Ab Aa Ae

def d_spec_IsPacking_J4 (fu:Nat) (Ag:List Int → Int → Option (Bool)) (Ac:List (List Int)) (Aa:Typ × Bool) (Ae:List Int) (Ab:Int) (Ad:L7):Option (Bool) :=
  obind (ix Ac Ab) fun Af=>bif (((Af.length:Int)) == 0) then some (false) else obind (d_spec_Volume fu Aa.1.fW Aa.1.fH Aa.1.fD) fun Ah=>bif (decide (Ad.fvol > Ah)) then some (false) else bif (decide (Ad.fgram > Aa.1.fGram)) then some (false) else d_spec_IsPacking_J3 fu Ag Ac Ae Ab

def d_spec_IsPacking_L2_B (fu:Nat)  (r1:Request) (Ae:List Int) (Ab:List (List Int)) (Ag:Typ × Bool) (Ac:(List Int)) (Ah:List Int → Int → Option (Bool)) (Ad:List Int) (Aa:Int):Option (Bool) :=
  bif (decide (Aa < ((Ab.length:Int)))) then obind (ix Ab Aa) fun Ai=>obind (d_spec_l7Of fu r1 Ac Ai) fun Af=>d_spec_IsPacking_J4 fu Ah Ab Ag Ad Aa Af else d_spec_IsPacking_J1 fu Ae Ac Ad
def d_spec_IsPacking_L2 (fu:Nat)  (r1:Request) (Aa:List Int) (Ad:List (List Int)) (Ac:Typ × Bool) (Ab:(List Int)):Nat → List Int → Int → Option (Bool)
  | 0=>fun _ _=>none
  | n + 1=>d_spec_IsPacking_L2_B fu r1 Aa Ad Ac Ab (d_spec_IsPacking_L2 fu r1 Aa Ad Ac Ab n)

def d_spec_IsPacking (fu:Nat) (r1:Request) (Aa:List Int) (Ac:List (List Int)):Option (Bool) :=
  obind (d_spec_Class fu r1) fun Ae=>bif (Ae != 0) then some (false) else obind (d_spec_MasterOf fu r1) fun Ad=>obind (d_spec_l6Units fu r1) fun Ab=>d_spec_IsPacking_L2 fu r1 Aa Ac Ad Ab fu (([]:List Int)) 0

def d_spec_IsRival_J1 (fu:Nat) (Ab:Int → Option (Bool)) (Aa:Int)  : Option (Bool) :=
  Ab (w64 (Aa + 1))

def d_spec_IsRival_J2 (fu:Nat) (Aa:Int → Option (Bool)) (Ab:Int)  : Option (Bool) :=
  Aa (w64 (Ab + 1))

def d_spec_IsRival_J3 (fu:Nat) (Aa:Int → Option (Bool)) (Ab:Int)  : Option (Bool) :=
  Aa (w64 (Ab + 1))

def d_spec_IsRival_J4 (fu:Nat) (Ac:Int → Option (Bool)) (r1:Request) (Ad:Int) (Aa:Item) (Ab:Item):Option (Bool) :=
  obind (d_spec_Beside fu r1.fPairs Aa.fClass Ab.fClass) fun Ae=>bif (!Ae) then some (false) else d_spec_IsRival_J3 fu Ac Ad

def d_spec_IsRival_J5 (fu:Nat) (Ai:Int → Option (Bool)) (r1:Request) (Ae:List (List Int)) (Ag:(List Int)) (Ac:Int) (Aa:Int) (Af:Item):Option (Bool) :=
  obind (ix Ae Ac) fun Ad=>obind (ix Ad Aa) fun Ah=>obind (d_spec_l6Item fu r1 Ag Ah) fun Ab=>d_spec_IsRival_J4 fu Ai r1 Aa Af Ab.1

def d_spec_IsRival_L1_B (fu:Nat) (Ai:Int → Option (Bool)) (r1:Request) (Ab:List (List Int)) (Ac:(List Int)) (Aa:Int) (Af:Int) (Aj:Int → Option (Bool)) (Ae:Int):Option (Bool) :=
  obind (ix Ab Aa) fun Ad=>bif (decide (Ae < ((Ad.length:Int)))) then obind (ix Ab Aa) fun Ak=>obind (ix Ad Af) fun Ah=>obind (d_spec_l6Item fu r1 Ac Ah) fun Ag=>d_spec_IsRival_J5 fu Aj r1 Ab Ac Aa Ae Ag.1 else d_spec_IsRival_J2 fu Ai Af
def d_spec_IsRival_L1 (fu:Nat) (Ac:Int → Option (Bool)) (r1:Request) (Ab:List (List Int)) (Ad:(List Int)) (Aa:Int) (Ae:Int):Nat → Int → Option (Bool)
  | 0=>fun _=>none
  | n + 1=>d_spec_IsRival_L1_B fu Ac r1 Ab Ad Aa Ae (d_spec_IsRival_L1 fu Ac r1 Ab Ad Aa Ae n)

def d_spec_IsRival_L2_B (fu:Nat) (Af:Int → Option (Bool)) (r1:Request) (Ab:List (List Int)) (Ae:(List Int)) (Aa:Int) (Ad:Int → Option (Bool)) (Ac:Int):Option (Bool) :=
  obind (ix Ab Aa) fun Ag=>bif (decide (Ac < ((Ag.length:Int)))) then d_spec_IsRival_L1 fu Ad r1 Ab Ae Aa Ac fu 0 else d_spec_IsRival_J1 fu Af Aa
def d_spec_IsRival_L2 (fu:Nat) (Ac:Int → Option (Bool)) (r1:Request) (Ad:List (List Int)) (Ab:(List Int)) (Aa:Int):Nat → Int → Option (Bool)
  | 0=>fun _=>none
  | n + 1=>d_spec_IsRival_L2_B fu Ac r1 Ad Ab Aa (d_spec_IsRival_L2 fu Ac r1 Ad Ab Aa n)

def d_spec_IsRival_L3_B (fu:Nat)  (r1:Request) (Aa:List (List Int)) (Ac:(List Int)) (Ad:Int → Option (Bool)) (Ab:Int):Option (Bool) :=
  bif (decide (Ab < ((Aa.length:Int)))) then d_spec_IsRival_L2 fu Ad r1 Aa Ac Ab fu 0 else some (true)
def d_spec_IsRival_L3 (fu:Nat)  (r1:Request) (Ab:List (List Int)) (Aa:(List Int)):Nat → Int → Option (Bool)
  | 0=>fun _=>none
  | n + 1=>d_spec_IsRival_L3_B fu r1 Ab Aa (d_spec_IsRival_L3 fu r1 Ab Aa n)

def d_spec_IsRival (fu:Nat) (r1:Request) (Ab:List (List Int)):Option (Bool) :=
  obind (d_spec_Units fu r1) fun Aa=>obind (d_spec_l1Places fu ((Aa.length:Int))) fun Ac=>obind (d_spec_IsPacking fu r1 Ac Ab) fun Ad=>bif (!Ad) then some (false) else d_spec_IsRival_L3 fu r1 Ab Aa fu 0

def d_slices_Compact_int_int (fu:Nat) (x1:List Int):Option (List Int):=cmpI x1

def d_impl_kinds (fu:Nat) (Ab:List Int):Option ((List Int)) :=
  obind (d_slices_Clone_int_int fu Ab) fun x5=>obind (d_slices_Sort_int_int fu x5) fun Aa=>obind (d_slices_Compact_int_int fu Aa) fun Ac=>some (Ac)

def d_impl_Present_L1_B (fu:Nat)  (r1:Request) (k1:List Int → Int → Option ((List Int))) (Ab:List Int) (Aa:Int):Option ((List Int)) :=
  bif (decide (Aa < ((r1.fItems.length:Int)))) then obind (ix r1.fItems Aa) fun Ae=>obind (apnd 8 Ab (([Ae.fClass]:List Int))) fun Ad=>k1 Ad (w64 (Aa + 1)) else obind (d_impl_kinds fu Ab) fun Ac=>some (Ac)
def d_impl_Present_L1 (fu:Nat)  (r1:Request):Nat → List Int → Int → Option ((List Int))
  | 0=>fun _ _=>none
  | n + 1=>d_impl_Present_L1_B fu r1 (d_impl_Present_L1 fu r1 n)

def d_impl_Present (fu:Nat) (r1:Request):Option ((List Int)) :=
  obind (d_impl_sound fu r1) fun Aa=>bif (!Aa) then some (([]:List Int)) else d_impl_Present_L1 fu r1 fu (([]:List Int)) 0

def d_impl_Groups_1_1 (fu:Nat) (x1:Int) (x2:List Pair) (x8:Int):Option (Bool) :=
  obind (d_impl_mutual fu x2 x8 x1) fun Aa=>some (!Aa)

def d_impl_Groups_1 (fu:Nat) (l1:List Int) (x5:List Pair) (Ac:Int):Option (Bool) :=
  obind (d_slices_ContainsFunc_int_int fu l1 (fun Ab=>d_impl_Groups_1_1 fu Ab x5 Ac)) fun Aa=>some (!Aa)

def d_impl_Groups_J1 (fu:Nat) (k3:List (List Int) → Int → Option ((List (List Int)))) (Ab:Int) (Aa:List (List Int)):Option ((List (List Int))) :=
  k3 Aa (w64 (Ab + 1))

def d_impl_Groups_L1_B (fu:Nat)  (Af:List Pair) (Ae:(List Int)) (k3:List (List Int) → Int → Option ((List (List Int)))) (Aa:List (List Int)) (Ab:Int):Option ((List (List Int))) :=
  bif (decide (Ab < ((Ae.length:Int)))) then obind (ix Ae Ab) fun Ac=>obind (d_impl_in fu Ac 0 3) fun Ak=>bif (!Ak) then d_impl_Groups_J1 fu k3 Ab Aa else obind (d_slices_IndexFunc_ints_int fu Aa (fun Ag=>d_impl_Groups_1 fu Ag Af Ac)) fun Ad=>bif (decide (Ad < 0)) then obind (apnd 24 Aa [([Ac]:List Int)]) fun Ah=>d_impl_Groups_J1 fu k3 Ab Ah else obind (ix Aa Ad) fun Ai=>obind (apnd 8 Ai (([Ac]:List Int))) fun Aj=>obind (ix Aa Ad) fun Al=>d_impl_Groups_J1 fu k3 Ab (setx Aa Ad Aj) else some (Aa)
def d_impl_Groups_L1 (fu:Nat)  (Ab:List Pair) (Aa:(List Int)):Nat → List (List Int) → Int → Option ((List (List Int)))
  | 0=>fun _ _=>none
  | n + 1=>d_impl_Groups_L1_B fu Ab Aa (d_impl_Groups_L1 fu Ab Aa n)

def d_impl_Groups (fu:Nat) (Ab:List Pair) (Ac:List Int):Option ((List (List Int))) :=
  obind (d_impl_kinds fu Ac) fun Aa=>d_impl_Groups_L1 fu Ab Aa fu (([]:List (List Int))) 0

def d_impl_GroupsOf (fu:Nat) (r1:Request):Option ((List (List Int))) :=
  obind (d_impl_sound fu r1) fun Aa=>bif (!Aa) then some (([]:List (List Int))) else obind (d_impl_Present fu r1) fun Ab=>obind (d_impl_Groups fu r1.fPairs Ab) fun Ac=>some (Ac)

def d_slices_Index_int_int_L1_B (fu:Nat)  (Ab:List Int) (v5:Int) (k1:Int → Option (Int)) (Aa:Int):Option (Int) :=
  bif (decide (Aa < ((Ab.length:Int)))) then obind (ix Ab Aa) fun Ac=>bif (v5 == Ac) then some (Aa) else k1 (w64 (Aa + 1)) else some ((-1))
def d_slices_Index_int_int_L1 (fu:Nat)  (Aa:List Int) (v5:Int):Nat → Int → Option (Int)
  | 0=>fun _=>none
  | n + 1=>d_slices_Index_int_int_L1_B fu Aa v5 (d_slices_Index_int_int_L1 fu Aa v5 n)

def d_slices_Index_int_int (fu:Nat) (Aa:List Int) (v5:Int):Option (Int) :=
  d_slices_Index_int_int_L1 fu Aa v5 fu 0

def d_slices_Contains_int_int (fu:Nat) (Aa:List Int) (v5:Int):Option (Bool) :=
  obind (d_slices_Index_int_int fu Aa v5) fun x6=>some (decide (x6 ≥ 0))

def d_impl_UnitsOf_J1 (fu:Nat) (k3:List Int → Int → Option ((List Int))) (Aa:Int) (Ab:List Int):Option ((List Int)) :=
  k3 Ab (w64 (Aa + 1))

def d_impl_UnitsOf_L1_B (fu:Nat)  (r1:Request) (Ae:Int) (Ah:(List (List Int))) (Ac:(List Int)) (k3:List Int → Int → Option ((List Int))) (Ab:List Int) (Aa:Int):Option ((List Int)) :=
  bif (decide (Aa < ((Ac.length:Int)))) then obind (ix Ac Aa) fun Ad=>obind (ix Ah Ae) fun Ag=>obind (ix r1.fItems Ad) fun Ai=>obind (d_slices_Contains_int_int fu Ag Ai.fClass) fun Af=>bif Af then obind (apnd 8 Ab (([Aa]:List Int))) fun Aj=>d_impl_UnitsOf_J1 fu k3 Aa Aj else d_impl_UnitsOf_J1 fu k3 Aa Ab else some (Ab)
def d_impl_UnitsOf_L1 (fu:Nat)  (r1:Request) (Ab:Int) (Aa:(List (List Int))) (Ac:(List Int)):Nat → List Int → Int → Option ((List Int))
  | 0=>fun _ _=>none
  | n + 1=>d_impl_UnitsOf_L1_B fu r1 Ab Aa Ac (d_impl_UnitsOf_L1 fu r1 Ab Aa Ac n)

def d_impl_UnitsOf (fu:Nat) (r1:Request) (Ab:Int):Option ((List Int)) :=
  obind (d_impl_GroupsOf fu r1) fun Aa=>obind (d_impl_in fu Ab 0 (w64 (((Aa.length:Int)) - 1))) fun Ac=>bif (!Ac) then some (([]:List Int)) else obind (d_impl_Units fu r1) fun Ad=>d_impl_UnitsOf_L1 fu r1 Ab Aa Ad fu (([]:List Int)) 0

def d_impl_Room (fu:Nat) (r1:Request) (Ac:List Int) (u9:Int):Option (Bool) :=
  obind (d_impl_MasterOf fu r1) fun Ab=>obind (d_impl_sound fu r1) fun Ad=>bif Ad then obind (d_slices_Clone_int_int fu Ac) fun Af=>obind (apnd 8 Af (([u9]:List Int))) fun Ae=>obind (d_impl_within fu r1 Ae Ab.1) fun Aa=>some (Aa) else some (false)

def d_impl_NextFit_J1 (fu:Nat) (k3:List (List Int) → Int → Option ((List (List Int)))) (Ab:Int) (Aa:List (List Int)):Option ((List (List Int))) :=
  k3 Aa (w64 (Ab + 1))

def d_impl_NextFit_L1_B (fu:Nat)  (r1:Request) (Ae:(List Int)) (k3:List (List Int) → Int → Option ((List (List Int)))) (Aa:List (List Int)) (Ab:Int):Option ((List (List Int))) :=
  bif (decide (Ab < ((Ae.length:Int)))) then obind (ix Ae Ab) fun Ac=>bif (decide ((w64 (((Aa.length:Int)) - 1)) ≥ 0)) then obind (ix Aa (w64 (((Aa.length:Int)) - 1))) fun Ad=>obind (d_impl_Room fu r1 Ad Ac) fun Ah=>bif Ah then obind (ix Aa (w64 (((Aa.length:Int)) - 1))) fun Aj=>obind (apnd 8 Ad (([Ac]:List Int))) fun Ag=>obind (ix Aa (w64 (((Aa.length:Int)) - 1))) fun Ak=>d_impl_NextFit_J1 fu k3 Ab (setx Aa (w64 (((Aa.length:Int)) - 1)) Ag) else obind (apnd 24 Aa [([Ac]:List Int)]) fun Ai=>d_impl_NextFit_J1 fu k3 Ab Ai else obind (apnd 24 Aa [([Ac]:List Int)]) fun Af=>d_impl_NextFit_J1 fu k3 Ab Af else some (Aa)
def d_impl_NextFit_L1 (fu:Nat)  (r1:Request) (Aa:(List Int)):Nat → List (List Int) → Int → Option ((List (List Int)))
  | 0=>fun _ _=>none
  | n + 1=>d_impl_NextFit_L1_B fu r1 Aa (d_impl_NextFit_L1 fu r1 Aa n)

def d_impl_NextFit (fu:Nat) (r1:Request) (Aa:List Int):Option ((List (List Int))) :=
  obind (d_impl_thereOf fu r1 Aa) fun Ab=>d_impl_NextFit_L1 fu r1 Ab fu (([]:List (List Int))) 0

def d_impl_compare (fu:Nat) (a1:Int) (b2:Int):Option (Int) :=
  bif (decide (a1 < b2)) then some ((-1)) else bif (decide (a1 > b2)) then some (1) else some (0)

def d_impl_SortDown_1 (fu:Nat) (i1:Int) (j2:Int) (x3:List Int):Option (Int) :=
  obind (ix x3 j2) fun Aa=>obind (ix x3 i1) fun Ac=>obind (d_impl_compare fu Aa Ac) fun Ab=>some (Ab)

def d_slices_insertionSortCmpFunc_int_J1 (fu:Nat) (Ad:List Int → Int → Option ((List Int))) (Ab:List Int) (Aa:Int)  : Option ((List Int)) :=
  obind (ix Ab (w64 (Aa - 1))) fun Ac=>obind (ix Ab Aa) fun Ae=>obind (ix Ab Aa) fun Ag=>obind (ix (setx Ab Aa Ac) (w64 (Aa - 1))) fun Af=>Ad (setx (setx Ab Aa Ac) (w64 (Aa - 1)) Ae) (w64 (Aa - 1))

def d_slices_insertionSortCmpFunc_int_L1_B (fu:Nat) (k9:List Int → Int → Option ((List Int))) (a5:Int) (f7:Int → Int → Option Int) (Ac:Int) (Af:List Int → Int → Option ((List Int))) (Aa:List Int) (Ab:Int):Option ((List Int)) :=
  bif (decide (Ab > a5)) then obind (ix Aa Ab) fun Ad=>obind (ix Aa (w64 (Ab - 1))) fun Ag=>obind (f7 Ad Ag) fun Ae=>bif (decide (Ae < 0)) then d_slices_insertionSortCmpFunc_int_J1 fu Af Aa Ab else k9 Aa (w64 (Ac + 1)) else k9 Aa (w64 (Ac + 1))
def d_slices_insertionSortCmpFunc_int_L1 (fu:Nat) (k9:List Int → Int → Option ((List Int))) (a5:Int) (f7:Int → Int → Option Int) (Aa:Int):Nat → List Int → Int → Option ((List Int))
  | 0=>fun _ _=>none
  | n + 1=>d_slices_insertionSortCmpFunc_int_L1_B fu k9 a5 f7 Aa (d_slices_insertionSortCmpFunc_int_L1 fu k9 a5 f7 Aa n)

def d_slices_insertionSortCmpFunc_int_L2_B (fu:Nat)  (a5:Int) (b6:Int) (f7:Int → Int → Option Int) (k9:List Int → Int → Option ((List Int))) (Ab:List Int) (Aa:Int):Option ((List Int)) :=
  bif (decide (Aa < b6)) then d_slices_insertionSortCmpFunc_int_L1 fu k9 a5 f7 Aa fu Ab Aa else some (Ab)
def d_slices_insertionSortCmpFunc_int_L2 (fu:Nat)  (a5:Int) (b6:Int) (f7:Int → Int → Option Int):Nat → List Int → Int → Option ((List Int))
  | 0=>fun _ _=>none
  | n + 1=>d_slices_insertionSortCmpFunc_int_L2_B fu a5 b6 f7 (d_slices_insertionSortCmpFunc_int_L2 fu a5 b6 f7 n)

def d_slices_insertionSortCmpFunc_int (fu:Nat) (Aa:List Int) (a5:Int) (b6:Int) (f7:Int → Int → Option Int):Option ((List Int)) :=
  d_slices_insertionSortCmpFunc_int_L2 fu a5 b6 f7 fu Aa (w64 (a5 + 1))

def d_slices_symMergeCmpFunc_int (fu:Nat) (x0:List Int) (x1:Int) (x2:Int) (x3:Int) (x4:Int → Int → Option Int):Option ((List Int)):=none

def d_slices_stableCmpFunc_int_J1 (fu:Nat) (k6:List Int → Int → Option ((List Int))) (Ab:Int) (Aa:List Int):Option ((List Int)) :=
  k6 Aa (w64 (Ab * 2))

def d_slices_stableCmpFunc_int_L1_B (fu:Nat) (k6:List Int → Int → Option ((List Int))) (n5:Int) (f6:Int → Int → Option Int) (Aa:Int) (k7:List Int → Int → Int → Option ((List Int))) (Ad:List Int) (Ab:Int) (Ac:Int):Option ((List Int)) :=
  bif (decide (Ac ≤ n5)) then obind (d_slices_symMergeCmpFunc_int fu Ad Ab (w64 (Ab + Aa)) Ac f6) fun Af=>k7 Af Ac (w64 (Ac + (w64 (2 * Aa)))) else bif (decide ((w64 (Ab + Aa)) < n5)) then obind (d_slices_symMergeCmpFunc_int fu Ad Ab (w64 (Ab + Aa)) n5 f6) fun Ae=>d_slices_stableCmpFunc_int_J1 fu k6 Aa Ae else d_slices_stableCmpFunc_int_J1 fu k6 Aa Ad
def d_slices_stableCmpFunc_int_L1 (fu:Nat) (k6:List Int → Int → Option ((List Int))) (n5:Int) (f6:Int → Int → Option Int) (Aa:Int):Nat → List Int → Int → Int → Option ((List Int))
  | 0=>fun _ _ _=>none
  | n + 1=>d_slices_stableCmpFunc_int_L1_B fu k6 n5 f6 Aa (d_slices_stableCmpFunc_int_L1 fu k6 n5 f6 Aa n)

def d_slices_stableCmpFunc_int_L2_B (fu:Nat)  (n5:Int) (f6:Int → Int → Option Int) (k6:List Int → Int → Option ((List Int))) (Ab:List Int) (Aa:Int):Option ((List Int)) :=
  bif (decide (Aa < n5)) then d_slices_stableCmpFunc_int_L1 fu k6 n5 f6 Aa fu Ab 0 (w64 (2 * Aa)) else some (Ab)
def d_slices_stableCmpFunc_int_L2 (fu:Nat)  (n5:Int) (f6:Int → Int → Option Int):Nat → List Int → Int → Option ((List Int))
  | 0=>fun _ _=>none
  | n + 1=>d_slices_stableCmpFunc_int_L2_B fu n5 f6 (d_slices_stableCmpFunc_int_L2 fu n5 f6 n)

def d_slices_stableCmpFunc_int_L3_B (fu:Nat)  (n5:Int) (f6:Int → Int → Option Int) (k1:List Int → Int → Int → Option ((List Int))) (Ac:List Int) (Ab:Int) (Aa:Int):Option ((List Int)) :=
  bif (decide (Aa ≤ n5)) then obind (d_slices_insertionSortCmpFunc_int fu Ac Ab Aa f6) fun Ad=>k1 Ad Aa (w64 (Aa + 20)) else obind (d_slices_insertionSortCmpFunc_int fu Ac Ab n5 f6) fun Ae=>d_slices_stableCmpFunc_int_L2 fu n5 f6 fu Ae 20
def d_slices_stableCmpFunc_int_L3 (fu:Nat)  (n5:Int) (f6:Int → Int → Option Int):Nat → List Int → Int → Int → Option ((List Int))
  | 0=>fun _ _ _=>none
  | n + 1=>d_slices_stableCmpFunc_int_L3_B fu n5 f6 (d_slices_stableCmpFunc_int_L3 fu n5 f6 n)

def d_slices_stableCmpFunc_int (fu:Nat) (Aa:List Int) (n5:Int) (f6:Int → Int → Option Int):Option ((List Int)) :=
  d_slices_stableCmpFunc_int_L3 fu n5 f6 fu Aa 0 20

def d_slices_SortStableFunc_int_int (fu:Nat) (x1:List Int) (f5:Int → Int → Option Int):Option ((List Int)) :=
  obind (d_slices_stableCmpFunc_int fu x1 ((x1.length:Int)) f5) fun Aa=>some (Aa)

def d_impl_SortDown (fu:Nat) (Aa:List Int):Option ((List Int)) :=
  obind (d_impl_places fu ((Aa.length:Int))) fun x8=>obind (d_slices_SortStableFunc_int_int fu x8 (fun Ac Ad=>d_impl_SortDown_1 fu Ac Ad Aa)) fun Ab=>some (Ab)

def d_impl_FirstFit_1 (fu:Nat) (l1:List Int) (x5:Request) (Aa:Int):Option (Bool) :=
  obind (d_impl_Room fu x5 l1 Aa) fun Ab=>some (Ab)

def d_impl_FirstFit_J1 (fu:Nat) (k4:List (List Int) → Int → Option ((List (List Int)))) (Aa:Int) (Ab:List (List Int)):Option ((List (List Int))) :=
  k4 Ab (w64 (Aa + 1))

def d_impl_FirstFit_L1_B (fu:Nat)  (r1:Request) (Ag:(List Int)) (Ae:(List Int)) (k4:List (List Int) → Int → Option ((List (List Int)))) (Aa:List (List Int)) (Ab:Int):Option ((List (List Int))) :=
  bif (decide (Ab < ((Ae.length:Int)))) then obind (ix Ae Ab) fun Ah=>obind (ix Ag Ah) fun Ad=>obind (d_slices_IndexFunc_ints_int fu Aa (fun Aj=>d_impl_FirstFit_1 fu Aj r1 Ad)) fun Ac=>bif (decide (Ac < 0)) then obind (apnd 24 Aa [([Ad]:List Int)]) fun Ak=>d_impl_FirstFit_J1 fu k4 Ab Ak else obind (ix Aa Ac) fun Ai=>obind (apnd 8 Ai (([Ad]:List Int))) fun Af=>obind (ix Aa Ac) fun Al=>d_impl_FirstFit_J1 fu k4 Ab (setx Aa Ac Af) else some (Aa)
def d_impl_FirstFit_L1 (fu:Nat)  (r1:Request) (Aa:(List Int)) (Ab:(List Int)):Nat → List (List Int) → Int → Option ((List (List Int)))
  | 0=>fun _ _=>none
  | n + 1=>d_impl_FirstFit_L1_B fu r1 Aa Ab (d_impl_FirstFit_L1 fu r1 Aa Ab n)

def d_impl_FirstFit_L2_B (fu:Nat)  (r1:Request) (Ab:(List Int)) (k1:List Int → Int → Option ((List (List Int)))) (Ac:List Int) (Aa:Int):Option ((List (List Int))) :=
  bif (decide (Aa < ((Ab.length:Int)))) then obind (ix Ab Aa) fun Ag=>obind (d_impl_VolumeOf fu r1 (([Ag]:List Int))) fun Af=>obind (apnd 8 Ac (([Af]:List Int))) fun Ae=>k1 Ae (w64 (Aa + 1)) else obind (d_impl_SortDown fu Ac) fun Ad=>d_impl_FirstFit_L1 fu r1 Ab Ad fu (([]:List (List Int))) 0
def d_impl_FirstFit_L2 (fu:Nat)  (r1:Request) (Aa:(List Int)):Nat → List Int → Int → Option ((List (List Int)))
  | 0=>fun _ _=>none
  | n + 1=>d_impl_FirstFit_L2_B fu r1 Aa (d_impl_FirstFit_L2 fu r1 Aa n)

def d_impl_FirstFit (fu:Nat) (r1:Request) (Aa:List Int):Option ((List (List Int))) :=
  obind (d_impl_thereOf fu r1 Aa) fun Ab=>d_impl_FirstFit_L2 fu r1 Ab fu (([]:List Int)) 0

def d_impl_PackWay (fu:Nat) (r1:Request) (Aa:List Int):Option ((List (List Int))) :=
  bif (r1.fWay == 1) then obind (d_impl_NextFit fu r1 Aa) fun Ac=>some (Ac) else obind (d_impl_FirstFit fu r1 Aa) fun Ab=>some (Ab)

def d_impl_Holds_1 (fu:Nat) (x1:Item) (x2:Typ):Option (Bool) :=
  obind (d_impl_Fits fu x1 x2) fun x8=>some (!x8)

def d_impl_Holds_J1 (fu:Nat) (r1:Request) (Aa:List Int) (t9:Typ)  : Option (Bool) :=
  obind (d_impl_itemsOf fu r1 Aa) fun Ad=>obind (d_slices_ContainsFunc_impl_Item_impl_Item fu Ad (fun Ac=>d_impl_Holds_1 fu Ac t9)) fun Ae=>bif (!Ae) then obind (d_impl_within fu r1 Aa t9) fun Ab=>some (Ab) else some (false)

def d_impl_Holds (fu:Nat) (r1:Request) (Aa:List Int) (t9:Typ):Option (Bool) :=
  obind (d_impl_sound fu r1) fun Ab=>bif (!Ab) then some (false) else obind (d_impl_thereOf fu r1 Aa) fun Ac=>bif (((Ac.length:Int)) != ((Aa.length:Int))) then some (false) else d_impl_Holds_J1 fu r1 Aa t9

def d_impl_Cheapest_J1 (fu:Nat) (k3:Typ → Bool → Int → Option (Typ × Bool)) (Ab:Int) (Ac:Typ) (Aa:Bool):Option (Typ × Bool) :=
  k3 Ac Aa (w64 (Ab + 1))

def d_impl_Cheapest_L1_B (fu:Nat)  (r1:Request) (Ae:List Int) (k3:Typ → Bool → Int → Option (Typ × Bool)) (Ac:Typ) (Ad:Bool) (Aa:Int):Option (Typ × Bool) :=
  bif (decide (Aa < ((r1.fTypes.length:Int)))) then obind (ix r1.fTypes Aa) fun Ab=>obind (d_impl_Holds fu r1 Ae Ab) fun Af=>bif (!Af) then d_impl_Cheapest_J1 fu k3 Aa Ac Ad else bif (!Ad) then d_impl_Cheapest_J1 fu k3 Aa Ab true else bif (decide (Ab.fCost < Ac.fCost)) then d_impl_Cheapest_J1 fu k3 Aa Ab true else bif (Ab.fCost == Ac.fCost) then bif (decide (Ab.fId < Ac.fId)) then d_impl_Cheapest_J1 fu k3 Aa Ab true else d_impl_Cheapest_J1 fu k3 Aa Ac Ad else d_impl_Cheapest_J1 fu k3 Aa Ac Ad else some (Ac,Ad)
def d_impl_Cheapest_L1 (fu:Nat)  (r1:Request) (Aa:List Int):Nat → Typ → Bool → Int → Option (Typ × Bool)
  | 0=>fun _ _ _=>none
  | n + 1=>d_impl_Cheapest_L1_B fu r1 Aa (d_impl_Cheapest_L1 fu r1 Aa n)

def d_impl_Cheapest (fu:Nat) (r1:Request) (Aa:List Int):Option (Typ × Bool) :=
  d_impl_Cheapest_L1 fu r1 Aa fu ((⟨0,0,0,0,0,0,0⟩:Typ)) false 0

def d_impl_CartonsOf_L1_B (fu:Nat) (k3:List Carton → Int → Option ((List Carton))) (r1:Request) (Ae:Int) (Ac:(List (List Int))) (k4:List Carton → Int → Option ((List Carton))) (Ab:List Carton) (Aa:Int):Option ((List Carton)) :=
  bif (decide (Aa < ((Ac.length:Int)))) then obind (ix Ac Aa) fun Ad=>obind (d_impl_Cheapest fu r1 Ad) fun Ah=>obind (d_slices_Sort_int_int fu Ad) fun Ag=>obind (apnd 40 Ab [(⟨Ah.1.fId,Ae,Ag⟩:Carton)]) fun Af=>k4 Af (w64 (Aa + 1)) else k3 Ab (w64 (Ae + 1))
def d_impl_CartonsOf_L1 (fu:Nat) (k3:List Carton → Int → Option ((List Carton))) (r1:Request) (Aa:Int) (Ab:(List (List Int))):Nat → List Carton → Int → Option ((List Carton))
  | 0=>fun _ _=>none
  | n + 1=>d_impl_CartonsOf_L1_B fu k3 r1 Aa Ab (d_impl_CartonsOf_L1 fu k3 r1 Aa Ab n)

def d_impl_CartonsOf_L2_B (fu:Nat)  (r1:Request) (Ad:(List (List Int))) (k3:List Carton → Int → Option ((List Carton))) (Ab:List Carton) (Aa:Int):Option ((List Carton)) :=
  bif (decide (Aa < ((Ad.length:Int)))) then obind (d_impl_UnitsOf fu r1 Aa) fun Ae=>obind (d_impl_PackWay fu r1 Ae) fun Ac=>d_impl_CartonsOf_L1 fu k3 r1 Aa Ac fu Ab 0 else some (Ab)
def d_impl_CartonsOf_L2 (fu:Nat)  (r1:Request) (Aa:(List (List Int))):Nat → List Carton → Int → Option ((List Carton))
  | 0=>fun _ _=>none
  | n + 1=>d_impl_CartonsOf_L2_B fu r1 Aa (d_impl_CartonsOf_L2 fu r1 Aa n)

def d_impl_CartonsOf (fu:Nat) (r1:Request):Option ((List Carton)) :=
  obind (d_impl_GroupsOf fu r1) fun Aa=>d_impl_CartonsOf_L2 fu r1 Aa fu (([]:List Carton)) 0

def d_impl_CountIn_J1 (fu:Nat) (k3:Int → Int → Option (Int)) (Ab:Int) (Aa:Int):Option (Int) :=
  k3 Aa (w64 (Ab + 1))

def d_impl_CountIn_L1_B (fu:Nat)  (Ad:Int) (Ac:(List Carton)) (k3:Int → Int → Option (Int)) (Ab:Int) (Aa:Int):Option (Int) :=
  bif (decide (Aa < ((Ac.length:Int)))) then obind (ix Ac Aa) fun Ae=>bif (Ae.fGroup == Ad) then d_impl_CountIn_J1 fu k3 Aa (w64 (Ab + 1)) else d_impl_CountIn_J1 fu k3 Aa Ab else some (Ab)
def d_impl_CountIn_L1 (fu:Nat)  (Ab:Int) (Aa:(List Carton)):Nat → Int → Int → Option (Int)
  | 0=>fun _ _=>none
  | n + 1=>d_impl_CountIn_L1_B fu Ab Aa (d_impl_CountIn_L1 fu Ab Aa n)

def d_impl_CountIn (fu:Nat) (r1:Request) (Ab:Int):Option (Int) :=
  obind (d_impl_CartonsOf fu r1) fun Aa=>d_impl_CountIn_L1 fu Ab Aa fu 0 0

def d_impl_hasOf_1 (fu:Nat) (x1:Item) (x2:List Int):Option (Bool) :=
  obind (d_slices_Contains_int_int fu x2 x1.fClass) fun Aa=>some (Aa)

def d_impl_hasOf (fu:Nat) (r1:Request) (Ab:List Int) (Aa:List Int):Option (Bool) :=
  obind (d_impl_itemsOf fu r1 Aa) fun Ac=>obind (d_slices_ContainsFunc_impl_Item_impl_Item fu Ac (fun Ad=>d_impl_hasOf_1 fu Ad Ab)) fun Ae=>some (Ae)

def d_impl_Touching_J1 (fu:Nat) (k3:Int → Int → Option (Int)) (Aa:Int) (Ab:Int):Option (Int) :=
  k3 Ab (w64 (Aa + 1))

def d_impl_Touching_L1_B (fu:Nat)  (r1:Request) (Ac:List (List Int)) (Ad:Int) (Af:(List (List Int))) (k3:Int → Int → Option (Int)) (Ab:Int) (Aa:Int):Option (Int) :=
  bif (decide (Aa < ((Ac.length:Int)))) then obind (ix Ac Aa) fun Ae=>obind (ix Af Ad) fun Ag=>obind (d_impl_hasOf fu r1 Ag Ae) fun Ah=>bif Ah then d_impl_Touching_J1 fu k3 Aa (w64 (Ab + 1)) else d_impl_Touching_J1 fu k3 Aa Ab else some (Ab)
def d_impl_Touching_L1 (fu:Nat)  (r1:Request) (Ac:List (List Int)) (Ab:Int) (Aa:(List (List Int))):Nat → Int → Int → Option (Int)
  | 0=>fun _ _=>none
  | n + 1=>d_impl_Touching_L1_B fu r1 Ac Ab Aa (d_impl_Touching_L1 fu r1 Ac Ab Aa n)

def d_impl_Touching (fu:Nat) (r1:Request) (Ad:List (List Int)) (Ab:Int):Option (Int) :=
  obind (d_impl_GroupsOf fu r1) fun Aa=>obind (d_impl_in fu Ab 0 (w64 (((Aa.length:Int)) - 1))) fun Ac=>bif (!Ac) then some (0) else d_impl_Touching_L1 fu r1 Ad Ab Aa fu 0 0

def d_spec_Present_J1 (fu:Nat) (Aa:List Int → Int → Option ((List Int))) (Ab:Int) (Ac:List Int):Option ((List Int)) :=
  Aa Ac (w64 (Ab + 1))

def d_spec_Present_J2 (fu:Nat) (Aa:Bool → Int → Option ((List Int))) (Ab:Int) (Ac:Bool):Option ((List Int)) :=
  Aa Ac (w64 (Ab + 1))

def d_spec_Present_L1_B (fu:Nat) (Ad:List Int → Int → Option ((List Int))) (r1:Request) (Ac:List Int) (Aa:Int) (Ae:Bool → Int → Option ((List Int))) (Af:Bool) (Ab:Int):Option ((List Int)) :=
  bif (decide (Ab < ((r1.fItems.length:Int)))) then bif Af then d_spec_Present_J2 fu Ae Ab true else obind (ix r1.fItems Ab) fun Ag=>d_spec_Present_J2 fu Ae Ab (Ag.fClass == Aa) else bif Af then obind (apnd 8 Ac (([Aa]:List Int))) fun Ah=>d_spec_Present_J1 fu Ad Aa Ah else d_spec_Present_J1 fu Ad Aa Ac
def d_spec_Present_L1 (fu:Nat) (Aa:List Int → Int → Option ((List Int))) (r1:Request) (Ab:List Int) (Ac:Int):Nat → Bool → Int → Option ((List Int))
  | 0=>fun _ _=>none
  | n + 1=>d_spec_Present_L1_B fu Aa r1 Ab Ac (d_spec_Present_L1 fu Aa r1 Ab Ac n)

def d_spec_Present_L2_B (fu:Nat)  (r1:Request) (Ac:List Int → Int → Option ((List Int))) (Aa:List Int) (Ab:Int):Option ((List Int)) :=
  bif (decide (Ab < 4)) then d_spec_Present_L1 fu Ac r1 Aa Ab fu false 0 else some (Aa)
def d_spec_Present_L2 (fu:Nat)  (r1:Request):Nat → List Int → Int → Option ((List Int))
  | 0=>fun _ _=>none
  | n + 1=>d_spec_Present_L2_B fu r1 (d_spec_Present_L2 fu r1 n)

def d_spec_Present (fu:Nat) (r1:Request):Option ((List Int)) :=
  obind (d_spec_Class fu r1) fun Aa=>bif (Aa != 0) then some (([]:List Int)) else d_spec_Present_L2 fu r1 fu (([]:List Int)) 0

def d_spec_l1Has_L1_B (fu:Nat)  (Ab:List Int) (x5:Int) (k1:Int → Option (Bool)) (Aa:Int):Option (Bool) :=
  bif (decide (Aa < ((Ab.length:Int)))) then obind (ix Ab Aa) fun Ac=>bif (Ac == x5) then some (true) else k1 (w64 (Aa + 1)) else some (false)
def d_spec_l1Has_L1 (fu:Nat)  (Aa:List Int) (x5:Int):Nat → Int → Option (Bool)
  | 0=>fun _=>none
  | n + 1=>d_spec_l1Has_L1_B fu Aa x5 (d_spec_l1Has_L1 fu Aa x5 n)

def d_spec_l1Has (fu:Nat) (Aa:List Int) (x5:Int):Option (Bool) :=
  d_spec_l1Has_L1 fu Aa x5 fu 0

def d_spec_l3Joins_J1 (fu:Nat) (k3:Int → Option (Bool)) (Aa:Int)  : Option (Bool) :=
  k3 (w64 (Aa + 1))

def d_spec_l3Joins_L1_B (fu:Nat)  (Ac:List Pair) (Ab:List Int) (Ae:Int) (k3:Int → Option (Bool)) (Aa:Int):Option (Bool) :=
  bif (decide (Aa < ((Ab.length:Int)))) then obind (ix Ab Aa) fun Ad=>obind (d_spec_Beside fu Ac Ad Ae) fun Af=>bif (!Af) then some (false) else obind (ix Ab Aa) fun Ah=>obind (d_spec_Beside fu Ac Ae Ad) fun Ag=>bif (!Ag) then some (false) else d_spec_l3Joins_J1 fu k3 Aa else some (true)
def d_spec_l3Joins_L1 (fu:Nat)  (Aa:List Pair) (Ab:List Int) (Ac:Int):Nat → Int → Option (Bool)
  | 0=>fun _=>none
  | n + 1=>d_spec_l3Joins_L1_B fu Aa Ab Ac (d_spec_l3Joins_L1 fu Aa Ab Ac n)

def d_spec_l3Joins (fu:Nat) (Aa:List Pair) (Ab:List Int) (Ac:Int):Option (Bool) :=
  d_spec_l3Joins_L1 fu Aa Ab Ac fu 0

def d_spec_Groups_J1 (fu:Nat) (Ab:List (List Int) → Int → Option ((List (List Int)))) (Aa:Int) (Ac:List (List Int)):Option ((List (List Int))) :=
  Ab Ac (w64 (Aa + 1))

def d_spec_Groups_J2 (fu:Nat) (Ac:Int → Int → Option ((List (List Int)))) (Aa:Int) (Ab:Int):Option ((List (List Int))) :=
  Ac Ab (w64 (Aa - 1))

def d_spec_Groups_L1_B (fu:Nat) (Ae:List (List Int) → Int → Option ((List (List Int)))) (Ag:List Pair) (Ad:List (List Int)) (Aa:Int) (Af:Int → Int → Option ((List (List Int)))) (Ac:Int) (Ab:Int):Option ((List (List Int))) :=
  bif (decide (Ab ≥ 0)) then obind (ix Ad Ab) fun Ak=>obind (d_spec_l3Joins fu Ag Ak Aa) fun Al=>bif Al then d_spec_Groups_J2 fu Af Ab Ab else d_spec_Groups_J2 fu Af Ab Ac else bif (decide (Ac < 0)) then obind (apnd 24 Ad [([Aa]:List Int)]) fun Ah=>d_spec_Groups_J1 fu Ae Aa Ah else obind (ix Ad Ac) fun Ai=>obind (apnd 8 Ai (([Aa]:List Int))) fun Aj=>obind (ix Ad Ac) fun Am=>d_spec_Groups_J1 fu Ae Aa (setx Ad Ac Aj)
def d_spec_Groups_L1 (fu:Nat) (Ab:List (List Int) → Int → Option ((List (List Int)))) (Ad:List Pair) (Ac:List (List Int)) (Aa:Int):Nat → Int → Int → Option ((List (List Int)))
  | 0=>fun _ _=>none
  | n + 1=>d_spec_Groups_L1_B fu Ab Ad Ac Aa (d_spec_Groups_L1 fu Ab Ad Ac Aa n)

def d_spec_Groups_L2_B (fu:Nat)  (Ad:List Pair) (Ae:List Int) (Ac:List (List Int) → Int → Option ((List (List Int)))) (Ab:List (List Int)) (Aa:Int):Option ((List (List Int))) :=
  bif (decide (Aa < 4)) then obind (d_spec_l1Has fu Ae Aa) fun Af=>bif (!Af) then d_spec_Groups_J1 fu Ac Aa Ab else d_spec_Groups_L1 fu Ac Ad Ab Aa fu ((-1)) (w64 (((Ab.length:Int)) - 1)) else some (Ab)
def d_spec_Groups_L2 (fu:Nat)  (Aa:List Pair) (Ab:List Int):Nat → List (List Int) → Int → Option ((List (List Int)))
  | 0=>fun _ _=>none
  | n + 1=>d_spec_Groups_L2_B fu Aa Ab (d_spec_Groups_L2 fu Aa Ab n)

def d_spec_Groups (fu:Nat) (Aa:List Pair) (Ab:List Int):Option ((List (List Int))) :=
  d_spec_Groups_L2 fu Aa Ab fu (([]:List (List Int))) 0

def d_spec_GroupsOf (fu:Nat) (r1:Request):Option ((List (List Int))) :=
  obind (d_spec_Present fu r1) fun Aa=>obind (d_spec_Groups fu r1.fPairs Aa) fun Ab=>some (Ab)

def d_spec_UnitsOf_J1 (fu:Nat) (k3:List Int → Int → Option ((List Int))) (Aa:Int) (Ab:List Int):Option ((List Int)) :=
  k3 Ab (w64 (Aa + 1))

def d_spec_UnitsOf_L1_B (fu:Nat)  (r1:Request) (Ae:Int) (Ad:(List (List Int))) (Ac:(List Int)) (k3:List Int → Int → Option ((List Int))) (Ab:List Int) (Aa:Int):Option ((List Int)) :=
  bif (decide (Aa < ((Ac.length:Int)))) then obind (ix Ad Ae) fun Ag=>obind (ix Ac Aa) fun Ah=>obind (ix r1.fItems Ah) fun Ai=>obind (d_spec_l1Has fu Ag Ai.fClass) fun Af=>bif Af then obind (apnd 8 Ab (([Aa]:List Int))) fun Aj=>d_spec_UnitsOf_J1 fu k3 Aa Aj else d_spec_UnitsOf_J1 fu k3 Aa Ab else some (Ab)
def d_spec_UnitsOf_L1 (fu:Nat)  (r1:Request) (Ab:Int) (Aa:(List (List Int))) (Ac:(List Int)):Nat → List Int → Int → Option ((List Int))
  | 0=>fun _ _=>none
  | n + 1=>d_spec_UnitsOf_L1_B fu r1 Ab Aa Ac (d_spec_UnitsOf_L1 fu r1 Ab Aa Ac n)

def d_spec_UnitsOf (fu:Nat) (r1:Request) (Ab:Int):Option ((List Int)) :=
  obind (d_spec_GroupsOf fu r1) fun Aa=>obind (d_spec_l1In fu Ab 0 (w64 (((Aa.length:Int)) - 1))) fun Ac=>bif (!Ac) then some (([]:List Int)) else obind (d_spec_l6Units fu r1) fun Ad=>d_spec_UnitsOf_L1 fu r1 Ab Aa Ad fu (([]:List Int)) 0

def d_spec_Touching_J1 (fu:Nat) (Ab:Bool → Int → Option (Int)) (Ac:Int) (Aa:Bool):Option (Int) :=
  Ab Aa (w64 (Ac + 1))

def d_spec_Touching_L1_B (fu:Nat) (k9:Int → Int → Option (Int)) (Ac:List (List Int)) (Ai:(List Int)) (Aj:Int) (Ab:Int) (Ad:Bool → Int → Option (Int)) (Af:Bool) (Aa:Int):Option (Int) :=
  obind (ix Ac Ab) fun Ae=>bif (decide (Aa < ((Ae.length:Int)))) then bif Af then d_spec_Touching_J1 fu Ad Aa true else obind (ix Ac Ab) fun Al=>obind (ix Ae Aa) fun Ah=>obind (d_spec_l1Has fu Ai Ah) fun Ak=>d_spec_Touching_J1 fu Ad Aa Ak else obind (d_spec_l1Bit fu Af) fun Ag=>k9 (w64 (Aj + Ag)) (w64 (Ab + 1))
def d_spec_Touching_L1 (fu:Nat) (k9:Int → Int → Option (Int)) (Ac:List (List Int)) (Ab:(List Int)) (Ad:Int) (Aa:Int):Nat → Bool → Int → Option (Int)
  | 0=>fun _ _=>none
  | n + 1=>d_spec_Touching_L1_B fu k9 Ac Ab Ad Aa (d_spec_Touching_L1 fu k9 Ac Ab Ad Aa n)

def d_spec_Touching_L2_B (fu:Nat)  (Ab:List (List Int)) (Ad:(List Int)) (k9:Int → Int → Option (Int)) (Ac:Int) (Aa:Int):Option (Int) :=
  bif (decide (Aa < ((Ab.length:Int)))) then d_spec_Touching_L1 fu k9 Ab Ad Ac Aa fu false 0 else some (Ac)
def d_spec_Touching_L2 (fu:Nat)  (Ab:List (List Int)) (Aa:(List Int)):Nat → Int → Int → Option (Int)
  | 0=>fun _ _=>none
  | n + 1=>d_spec_Touching_L2_B fu Ab Aa (d_spec_Touching_L2 fu Ab Aa n)

def d_spec_Touching (fu:Nat) (r1:Request) (Ac:List (List Int)) (Ab:Int):Option (Int) :=
  obind (d_spec_UnitsOf fu r1 Ab) fun Aa=>d_spec_Touching_L2 fu Ac Aa fu 0 0

def d_spec_l7Next_J1 (fu:Nat) (k3:List (List Int) → Int → Option ((List (List Int)))) (Aa:Int) (Ab:List (List Int)):Option ((List (List Int))) :=
  k3 Ab (w64 (Aa + 1))

def d_spec_l7Next_L1_B (fu:Nat)  (r1:Request) (Ac:List Int) (Ai:Typ × Bool) (Ak:(List Int)) (k3:List (List Int) → Int → Option ((List (List Int)))) (Aa:List (List Int)) (Ab:Int):Option ((List (List Int))) :=
  bif (decide (Ab < ((Ac.length:Int)))) then bif (decide (((Aa.length:Int)) > 0)) then obind (ix Aa (w64 (((Aa.length:Int)) - 1))) fun Ae=>obind (ix Ac Ab) fun Ad=>obind (d_spec_l7Room fu r1 Ak Ai.1 Ae Ad) fun Ah=>bif Ah then obind (ix Aa (w64 (((Aa.length:Int)) - 1))) fun Am=>obind (ix Ac Ab) fun Ap=>obind (apnd 8 Ae (([Ad]:List Int))) fun Af=>obind (ix Aa (w64 (((Aa.length:Int)) - 1))) fun Aq=>d_spec_l7Next_J1 fu k3 Ab (setx Aa (w64 (((Aa.length:Int)) - 1)) Af) else obind (ix Ac Ab) fun Ao=>obind (apnd 24 Aa [([Ad]:List Int)]) fun Aj=>d_spec_l7Next_J1 fu k3 Ab Aj else obind (ix Ac Ab) fun Al=>obind (apnd 24 Aa [([Al]:List Int)]) fun Ag=>d_spec_l7Next_J1 fu k3 Ab Ag else some (Aa)
def d_spec_l7Next_L1 (fu:Nat)  (r1:Request) (Aa:List Int) (Ab:Typ × Bool) (Ac:(List Int)):Nat → List (List Int) → Int → Option ((List (List Int)))
  | 0=>fun _ _=>none
  | n + 1=>d_spec_l7Next_L1_B fu r1 Aa Ab Ac (d_spec_l7Next_L1 fu r1 Aa Ab Ac n)

def d_spec_l7Next (fu:Nat) (r1:Request) (Aa:List Int):Option ((List (List Int))) :=
  obind (d_spec_MasterOf fu r1) fun Ab=>obind (d_spec_l6Units fu r1) fun Ac=>d_spec_l7Next_L1 fu r1 Aa Ab Ac fu (([]:List (List Int))) 0

def d_spec_NextFit (fu:Nat) (r1:Request) (Aa:List Int):Option ((List (List Int))) :=
  obind (d_spec_Class fu r1) fun Ab=>bif (Ab != 0) then some (([]:List (List Int))) else obind (d_spec_l6Units fu r1) fun Ac=>obind (d_spec_l7Known fu Ac Aa) fun Ad=>obind (d_spec_l7Next fu r1 Ad) fun Ae=>some (Ae)

def d_spec_SortDown (fu:Nat) (Aa:List Int):Option ((List Int)) :=
  obind (d_spec_l1Places fu ((Aa.length:Int))) fun x5=>obind (d_spec_l1Merge fu Aa x5 true) fun Ab=>some (Ab)

def d_spec_l7First_J1 (fu:Nat) (Ab:List (List Int) → Int → Option ((List (List Int)))) (Aa:Int) (Ac:List (List Int)):Option ((List (List Int))) :=
  Ab Ac (w64 (Aa + 1))

def d_spec_l7First_J2 (fu:Nat) (Aa:Int → Int → Option ((List (List Int)))) (Ab:Int) (Ac:Int):Option ((List (List Int))) :=
  Aa Ac (w64 (Ab - 1))

def d_spec_l7First_L1_B (fu:Nat) (Af:List (List Int) → Int → Option ((List (List Int)))) (r1:Request) (Ak:Typ × Bool) (Al:(List Int)) (Aa:List (List Int)) (Ag:Int) (Ad:Int) (Ae:Int → Int → Option ((List (List Int)))) (Ab:Int) (Ac:Int):Option ((List (List Int))) :=
  bif (decide (Ac ≥ 0)) then obind (ix Aa Ac) fun Ai=>obind (d_spec_l7Room fu r1 Al Ak.1 Ai Ad) fun Ao=>bif Ao then d_spec_l7First_J2 fu Ae Ac Ac else d_spec_l7First_J2 fu Ae Ac Ab else bif (decide (Ab < 0)) then obind (apnd 24 Aa [([Ad]:List Int)]) fun Aj=>d_spec_l7First_J1 fu Af Ag Aj else obind (ix Aa Ab) fun Ah=>obind (apnd 8 Ah (([Ad]:List Int))) fun Am=>obind (ix Aa Ab) fun Ap=>d_spec_l7First_J1 fu Af Ag (setx Aa Ab Am)
def d_spec_l7First_L1 (fu:Nat) (Ab:List (List Int) → Int → Option ((List (List Int)))) (r1:Request) (Ac:Typ × Bool) (Ad:(List Int)) (Aa:List (List Int)) (Ae:Int) (Af:Int):Nat → Int → Int → Option ((List (List Int)))
  | 0=>fun _ _=>none
  | n + 1=>d_spec_l7First_L1_B fu Ab r1 Ac Ad Aa Ae Af (d_spec_l7First_L1 fu Ab r1 Ac Ad Aa Ae Af n)

def d_spec_l7First_L2_B (fu:Nat)  (r1:Request) (Ad:List Int) (Af:Typ × Bool) (Ah:(List Int)) (Ac:(List Int)) (Ae:List (List Int) → Int → Option ((List (List Int)))) (Aa:List (List Int)) (Ab:Int):Option ((List (List Int))) :=
  bif (decide (Ab < ((Ac.length:Int)))) then obind (ix Ac Ab) fun Ag=>obind (ix Ad Ag) fun Ai=>d_spec_l7First_L1 fu Ae r1 Af Ah Aa Ab Ai fu ((-1)) (w64 (((Aa.length:Int)) - 1)) else some (Aa)
def d_spec_l7First_L2 (fu:Nat)  (r1:Request) (Aa:List Int) (Ac:Typ × Bool) (Ad:(List Int)) (Ab:(List Int)):Nat → List (List Int) → Int → Option ((List (List Int)))
  | 0=>fun _ _=>none
  | n + 1=>d_spec_l7First_L2_B fu r1 Aa Ac Ad Ab (d_spec_l7First_L2 fu r1 Aa Ac Ad Ab n)

def d_spec_l7First_L3_B (fu:Nat)  (r1:Request) (Ab:List Int) (Ag:Typ × Bool) (Ac:(List Int)) (k1:List Int → Int → Option ((List (List Int)))) (Ad:List Int) (Aa:Int):Option ((List (List Int))) :=
  bif (decide (Aa < ((Ab.length:Int)))) then obind (sls Ab Aa (w64 (Aa + 1))) fun Af=>obind (d_spec_l7Of fu r1 Ac Af) fun Ae=>obind (apnd 8 Ad (([Ae.fvol]:List Int))) fun Ah=>k1 Ah (w64 (Aa + 1)) else obind (d_spec_SortDown fu Ad) fun Ai=>d_spec_l7First_L2 fu r1 Ab Ag Ac Ai fu (([]:List (List Int))) 0
def d_spec_l7First_L3 (fu:Nat)  (r1:Request) (Aa:List Int) (Ab:Typ × Bool) (Ac:(List Int)):Nat → List Int → Int → Option ((List (List Int)))
  | 0=>fun _ _=>none
  | n + 1=>d_spec_l7First_L3_B fu r1 Aa Ab Ac (d_spec_l7First_L3 fu r1 Aa Ab Ac n)

def d_spec_l7First (fu:Nat) (r1:Request) (Aa:List Int):Option ((List (List Int))) :=
  obind (d_spec_MasterOf fu r1) fun Ab=>obind (d_spec_l6Units fu r1) fun Ac=>d_spec_l7First_L3 fu r1 Aa Ab Ac fu (([]:List Int)) 0

def d_spec_FirstFit (fu:Nat) (r1:Request) (Aa:List Int):Option ((List (List Int))) :=
  obind (d_spec_Class fu r1) fun Ab=>bif (Ab != 0) then some (([]:List (List Int))) else obind (d_spec_l6Units fu r1) fun Ac=>obind (d_spec_l7Known fu Ac Aa) fun Ad=>obind (d_spec_l7First fu r1 Ad) fun Ae=>some (Ae)

def d_spec_PackWay (fu:Nat) (r1:Request) (Aa:List Int):Option ((List (List Int))) :=
  bif (r1.fWay == 1) then obind (d_spec_NextFit fu r1 Aa) fun Ac=>some (Ac) else obind (d_spec_FirstFit fu r1 Aa) fun Ab=>some (Ab)

def d_spec_Holds_J1 (fu:Nat) (r1:Request) (Ac:List Int) (t9:Typ) (Ab:(List Int))  : Option (Bool) :=
  obind (d_spec_l7Of fu r1 Ab Ac) fun Aa=>obind (d_spec_Volume fu t9.fW t9.fH t9.fD) fun Ad=>bif (decide (Aa.fvol ≤ Ad)) then some (decide (Aa.fgram ≤ t9.fGram)) else some (false)

def d_spec_Holds_J2 (fu:Nat) (Aa:Int → Option (Bool)) (Ab:Int)  : Option (Bool) :=
  Aa (w64 (Ab + 1))

def d_spec_Holds_J3 (fu:Nat) (Ae:Int → Option (Bool)) (t9:Typ) (Ab:Int) (Ad:Item) (Aa:Bool):Option (Bool) :=
  bif (!Aa) then some (false) else obind (d_spec_Fits fu Ad t9) fun Ac=>bif (!Ac) then some (false) else d_spec_Holds_J2 fu Ae Ab

def d_spec_Holds_L1_B (fu:Nat)  (r1:Request) (Aa:List Int) (t9:Typ) (Ad:(List Int)) (Ae:Int → Option (Bool)) (Ab:Int):Option (Bool) :=
  bif (decide (Ab < ((Aa.length:Int)))) then obind (ix Aa Ab) fun Af=>obind (d_spec_l6Item fu r1 Ad Af) fun Ac=>d_spec_Holds_J3 fu Ae t9 Ab Ac.1 Ac.2 else d_spec_Holds_J1 fu r1 Aa t9 Ad
def d_spec_Holds_L1 (fu:Nat)  (r1:Request) (Aa:List Int) (t9:Typ) (Ab:(List Int)):Nat → Int → Option (Bool)
  | 0=>fun _=>none
  | n + 1=>d_spec_Holds_L1_B fu r1 Aa t9 Ab (d_spec_Holds_L1 fu r1 Aa t9 Ab n)

def d_spec_Holds (fu:Nat) (r1:Request) (Aa:List Int) (t9:Typ):Option (Bool) :=
  obind (d_spec_Class fu r1) fun Ab=>bif (Ab != 0) then some (false) else obind (d_spec_l6Units fu r1) fun Ac=>d_spec_Holds_L1 fu r1 Aa t9 Ac fu 0

def d_spec_Cheapest_J1 (fu:Nat) (k3:Typ → Bool → Int → Option (Typ × Bool)) (Ab:Int) (Ac:Typ) (Aa:Bool):Option (Typ × Bool) :=
  k3 Ac Aa (w64 (Ab + 1))

def d_spec_Cheapest_L1_B (fu:Nat)  (r1:Request) (Ae:List Int) (k3:Typ → Bool → Int → Option (Typ × Bool)) (Ac:Typ) (Ad:Bool) (Aa:Int):Option (Typ × Bool) :=
  bif (decide (Aa < ((r1.fTypes.length:Int)))) then obind (ix r1.fTypes Aa) fun Ab=>obind (d_spec_Holds fu r1 Ae Ab) fun Af=>bif (!Af) then d_spec_Cheapest_J1 fu k3 Aa Ac Ad else bif (!Ad) then d_spec_Cheapest_J1 fu k3 Aa Ab true else bif (decide (Ab.fCost < Ac.fCost)) then d_spec_Cheapest_J1 fu k3 Aa Ab true else bif (Ab.fCost == Ac.fCost) then bif (decide (Ab.fId < Ac.fId)) then d_spec_Cheapest_J1 fu k3 Aa Ab true else d_spec_Cheapest_J1 fu k3 Aa Ac Ad else d_spec_Cheapest_J1 fu k3 Aa Ac Ad else some (Ac,Ad)
def d_spec_Cheapest_L1 (fu:Nat)  (r1:Request) (Aa:List Int):Nat → Typ → Bool → Int → Option (Typ × Bool)
  | 0=>fun _ _ _=>none
  | n + 1=>d_spec_Cheapest_L1_B fu r1 Aa (d_spec_Cheapest_L1 fu r1 Aa n)

def d_spec_Cheapest (fu:Nat) (r1:Request) (Aa:List Int):Option (Typ × Bool) :=
  d_spec_Cheapest_L1 fu r1 Aa fu ((⟨0,0,0,0,0,0,0⟩:Typ)) false 0

def d_spec_CartonsOf_J1 (fu:Nat) (Ac:List Carton → Int → Option ((List Carton))) (Ab:Int) (Aa:List Carton):Option ((List Carton)) :=
  Ac Aa (w64 (Ab + 1))

def d_spec_CartonsOf_J2 (fu:Nat) (Ab:List Carton → Int → Option ((List Carton))) (Ac:Int) (Aa:List Carton):Option ((List Carton)) :=
  Ab Aa (w64 (Ac + 1))

def d_spec_CartonsOf_L1_B (fu:Nat) (Ae:List Carton → Int → Option ((List Carton))) (Ap:Int) (Ak:(List (List Int))) (Am:List Carton) (Ac:Int) (Ah:Typ) (Ad:(List Int)) (Al:List Int → Int → Option ((List Carton))) (Ab:List Int) (Aa:Int):Option ((List Carton)) :=
  bif (decide (Aa < ((Ad.length:Int)))) then obind (ix Ak Ac) fun Ag=>obind (ix Ad Aa) fun Ai=>obind (ix Ag Ai) fun Af=>obind (apnd 8 Ab (([Af]:List Int))) fun Ao=>Al Ao (w64 (Aa + 1)) else obind (apnd 40 Am [(⟨Ah.fId,Ap,Ab⟩:Carton)]) fun Aj=>d_spec_CartonsOf_J2 fu Ae Ac Aj
def d_spec_CartonsOf_L1 (fu:Nat) (Aa:List Carton → Int → Option ((List Carton))) (Ag:Int) (Ac:(List (List Int))) (Af:List Carton) (Ad:Int) (Ab:Typ) (Ae:(List Int)):Nat → List Int → Int → Option ((List Carton))
  | 0=>fun _ _=>none
  | n + 1=>d_spec_CartonsOf_L1_B fu Aa Ag Ac Af Ad Ab Ae (d_spec_CartonsOf_L1 fu Aa Ag Ac Af Ad Ab Ae n)

def d_spec_CartonsOf_J3 (fu:Nat) (Ac:List Carton → Int → Option ((List Carton))) (Ah:Int) (Aa:(List (List Int))) (Ag:List Carton) (Ab:Int) (Ad:Typ):Option ((List Carton)) :=
  obind (ix Aa Ab) fun Ae=>obind (d_spec_SortUp fu Ae) fun Af=>d_spec_CartonsOf_L1 fu Ac Ah Aa Ag Ab Ad Af fu (([]:List Int)) 0

def d_spec_CartonsOf_L2_B (fu:Nat) (Af:List Carton → Int → Option ((List Carton))) (r1:Request) (Ad:Int) (Aa:(List (List Int))) (Ae:List Carton → Int → Option ((List Carton))) (Ac:List Carton) (Ab:Int):Option ((List Carton)) :=
  bif (decide (Ab < ((Aa.length:Int)))) then obind (ix Aa Ab) fun Ag=>obind (d_spec_Cheapest fu r1 Ag) fun Ah=>d_spec_CartonsOf_J3 fu Ae Ad Aa Ac Ab Ah.1 else d_spec_CartonsOf_J1 fu Af Ad Ac
def d_spec_CartonsOf_L2 (fu:Nat) (Ac:List Carton → Int → Option ((List Carton))) (r1:Request) (Ab:Int) (Aa:(List (List Int))):Nat → List Carton → Int → Option ((List Carton))
  | 0=>fun _ _=>none
  | n + 1=>d_spec_CartonsOf_L2_B fu Ac r1 Ab Aa (d_spec_CartonsOf_L2 fu Ac r1 Ab Aa n)

def d_spec_CartonsOf_L3_B (fu:Nat)  (r1:Request) (Ae:(List (List Int))) (Ac:List Carton → Int → Option ((List Carton))) (Ab:List Carton) (Aa:Int):Option ((List Carton)) :=
  bif (decide (Aa < ((Ae.length:Int)))) then obind (d_spec_UnitsOf fu r1 Aa) fun Af=>obind (d_spec_PackWay fu r1 Af) fun Ad=>d_spec_CartonsOf_L2 fu Ac r1 Aa Ad fu Ab 0 else some (Ab)
def d_spec_CartonsOf_L3 (fu:Nat)  (r1:Request) (Aa:(List (List Int))):Nat → List Carton → Int → Option ((List Carton))
  | 0=>fun _ _=>none
  | n + 1=>d_spec_CartonsOf_L3_B fu r1 Aa (d_spec_CartonsOf_L3 fu r1 Aa n)

def d_spec_CartonsOf (fu:Nat) (r1:Request):Option ((List Carton)) :=
  obind (d_spec_GroupsOf fu r1) fun Aa=>d_spec_CartonsOf_L3 fu r1 Aa fu (([]:List Carton)) 0

def d_spec_CountIn_L1_B (fu:Nat)  (Ae:Int) (Ac:(List Carton)) (k1:Int → Int → Option (Int)) (Ab:Int) (Aa:Int):Option (Int) :=
  bif (decide (Aa < ((Ac.length:Int)))) then obind (ix Ac Aa) fun Af=>obind (d_spec_l1Bit fu (Af.fGroup == Ae)) fun Ad=>k1 (w64 (Ab + Ad)) (w64 (Aa + 1)) else some (Ab)
def d_spec_CountIn_L1 (fu:Nat)  (Ab:Int) (Aa:(List Carton)):Nat → Int → Int → Option (Int)
  | 0=>fun _ _=>none
  | n + 1=>d_spec_CountIn_L1_B fu Ab Aa (d_spec_CountIn_L1 fu Ab Aa n)

def d_spec_CountIn (fu:Nat) (r1:Request) (Ab:Int):Option (Int) :=
  obind (d_spec_CartonsOf fu r1) fun Aa=>d_spec_CountIn_L1 fu Ab Aa fu 0 0

def d_impl_hasGroup (fu:Nat) (r1:Request) (Ac:Int):Option (Bool) :=
  obind (d_impl_GroupsOf fu r1) fun Ab=>obind (d_impl_in fu Ac 0 (w64 (((Ab.length:Int)) - 1))) fun Aa=>some (Aa)

def d_impl_masterRoom (fu:Nat) (r1:Request):Option (Int × Int) :=
  obind (d_impl_MasterOf fu r1) fun Aa=>obind (d_impl_Volume fu Aa.1.fW Aa.1.fH Aa.1.fD) fun Ab=>some (Ab,Aa.1.fGram)

def d_impl_SlackGram (fu:Nat) (r1:Request) (Aa:Int):Option (Bool) :=
  obind (d_impl_masterRoom fu r1) fun Ad=>obind (d_impl_hasGroup fu r1 Aa) fun Ab=>bif Ab then obind (d_impl_UnitsOf fu r1 Aa) fun Ac=>obind (d_impl_GramOf fu r1 Ac) fun Ae=>some (decide (Ae ≤ Ad.2)) else some (false)

def d_impl_SlackVolume (fu:Nat) (r1:Request) (Aa:Int):Option (Bool) :=
  obind (d_impl_masterRoom fu r1) fun Ad=>obind (d_impl_hasGroup fu r1 Aa) fun Ab=>bif Ab then obind (d_impl_UnitsOf fu r1 Aa) fun Ac=>obind (d_impl_VolumeOf fu r1 Ac) fun Ae=>some (decide (Ae ≤ Ad.1)) else some (false)

def d_impl_Promise_J1 (fu:Nat)  (Aa:Int):Option (Int) :=
  some (Aa)

def d_impl_Promise_J2 (fu:Nat) (r1:Request) (Ac:Int) (n6:Int) (Aa:Int):Option (Int) :=
  obind (d_impl_SlackGram fu r1 Ac) fun Ab=>bif Ab then bif (r1.fWay == 0) then d_impl_Promise_J1 fu (if (w64 (Int.tdiv (w64 (3 * (if 1000 < n6 then 1000 else n6))) 2)) < Aa then w64 (Int.tdiv (w64 (3 * (if 1000 < n6 then 1000 else n6))) 2) else Aa) else d_impl_Promise_J1 fu Aa else d_impl_Promise_J1 fu Aa

def d_impl_Promise_J3 (fu:Nat) (r1:Request) (Aa:Int) (n6:Int)  : Option (Int) :=
  obind (d_impl_SlackGram fu r1 Aa) fun Ab=>bif Ab then d_impl_Promise_J2 fu r1 Aa n6 (if (w64 ((w64 (2 * (if 1000 < n6 then 1000 else n6))) - 1)) < (w64 ((w64 (4 * (if 1000 < n6 then 1000 else n6))) - 1)) then w64 ((w64 (2 * (if 1000 < n6 then 1000 else n6))) - 1) else w64 ((w64 (4 * (if 1000 < n6 then 1000 else n6))) - 1)) else obind (d_impl_SlackVolume fu r1 Aa) fun Ac=>bif Ac then d_impl_Promise_J2 fu r1 Aa n6 (if (w64 ((w64 (2 * (if 1000 < n6 then 1000 else n6))) - 1)) < (w64 ((w64 (4 * (if 1000 < n6 then 1000 else n6))) - 1)) then w64 ((w64 (2 * (if 1000 < n6 then 1000 else n6))) - 1) else w64 ((w64 (4 * (if 1000 < n6 then 1000 else n6))) - 1)) else d_impl_Promise_J2 fu r1 Aa n6 (w64 ((w64 (4 * (if 1000 < n6 then 1000 else n6))) - 1))

def d_impl_Promise (fu:Nat) (r1:Request) (Aa:Int) (n6:Int):Option (Int) :=
  bif (decide (n6 < 1)) then some (0) else obind (d_impl_hasGroup fu r1 Aa) fun Ab=>bif (!Ab) then some (0) else d_impl_Promise_J3 fu r1 Aa n6

def d_impl_Mixes_1_J1 (fu:Nat) (k3:Int → Int → Option (Bool)) (Aa:Int) (Ab:Int):Option (Bool) :=
  k3 Ab (w64 (Aa + 1))

def d_impl_Mixes_1_L1_B (fu:Nat)  (l1:List Int) (x5:List (List Int)) (Ad:Request) (k3:Int → Int → Option (Bool)) (Ab:Int) (Aa:Int):Option (Bool) :=
  bif (decide (Aa < ((x5.length:Int)))) then obind (ix x5 Aa) fun Ae=>obind (d_impl_hasOf fu Ad Ae l1) fun Ac=>bif Ac then d_impl_Mixes_1_J1 fu k3 Aa (w64 (Ab + 1)) else d_impl_Mixes_1_J1 fu k3 Aa Ab else some (decide (Ab > 1))
def d_impl_Mixes_1_L1 (fu:Nat)  (l1:List Int) (x5:List (List Int)) (Aa:Request):Nat → Int → Int → Option (Bool)
  | 0=>fun _ _=>none
  | n + 1=>d_impl_Mixes_1_L1_B fu l1 x5 Aa (d_impl_Mixes_1_L1 fu l1 x5 Aa n)

def d_impl_Mixes_1 (fu:Nat) (l1:List Int) (x5:List (List Int)) (Aa:Request):Option (Bool) :=
  d_impl_Mixes_1_L1 fu l1 x5 Aa fu 0 0

def d_impl_Mixes (fu:Nat) (r1:Request) (Aa:List (List Int)):Option (Bool) :=
  obind (d_impl_GroupsOf fu r1) fun Ab=>obind (d_slices_ContainsFunc_ints_int fu Aa (fun Ad=>d_impl_Mixes_1 fu Ad Ab r1)) fun Ac=>some (Ac)

end Go.Proofs.YthddjkokpfdbnaaGreat
