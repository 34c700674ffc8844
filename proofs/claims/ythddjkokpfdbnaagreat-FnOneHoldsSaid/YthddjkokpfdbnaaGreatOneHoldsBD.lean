/- FnOneHolds: what the functions that it reaches compute,on plain data. Printed by gen.py. -/
import Derived.Test.YthddjkokpfdbnaaGreatS13
import Derived.Test.YthddjkokpfdbnaaGreatS15
set_option linter.unusedVariables false
namespace Go.Proofs.YthddjkokpfdbnaaGreat
open Go
def d_laws_big (fu:Nat) (Aa:List U8):Option (Bool) :=
  some (decide (((Aa.length:Int)) > 1048576))

def d_spec_l1New_J1 (fu:Nat) (k3:Int → Int → Option (Cur)) (Ac:List U8) (Ad:Int) (Aa:Int)  : Option (Cur) :=
  obind (ix Ac Aa) fun Ab=>k3 (IntKind.wrap .i64 (((BitVec.ofInt (IntKind.bits .i64) (w64 ((w64 ((w64 (Ad * 131)) + (w64 Ab.n))) + 7)) &&& BitVec.ofInt (IntKind.bits .i64) 1073741823).toNat:Nat):Int)) (w64 (Aa + 1))

def d_spec_l1New_L1_B (fu:Nat)  (Aa:List U8) (k3:Int → Int → Option (Cur)) (Ac:Int) (Ab:Int):Option (Cur) :=
  bif (decide (Ab < ((Aa.length:Int)))) then bif (decide (Ab < 4000)) then d_spec_l1New_J1 fu k3 Aa Ac Ab else some ((⟨Aa,0,Ac⟩:Cur)) else some ((⟨Aa,0,Ac⟩:Cur))
def d_spec_l1New_L1 (fu:Nat)  (Aa:List U8):Nat → Int → Int → Option (Cur)
  | 0=>fun _ _=>none
  | n + 1=>d_spec_l1New_L1_B fu Aa (d_spec_l1New_L1 fu Aa n)

def d_spec_l1New (fu:Nat) (Aa:List U8):Option (Cur) :=
  d_spec_l1New_L1 fu Aa fu (w64 (26583 + ((Aa.length:Int)))) 0

def d_spec_l1Byte (fu:Nat) (c1:Cur):Option (Int × Cur) :=
  bif (decide (c1.fi < ((c1.fb.length:Int)))) then obind (ix c1.fb c1.fi) fun Aa=>some (IntKind.wrap .i64 (((BitVec.ofInt (IntKind.bits .i64) (w64 ((IntKind.wrap .i64 (((BitVec.ofInt (IntKind.bits .i64) (IntKind.wrap .i64 (((BitVec.ofInt (IntKind.bits .i64) (Int.fdiv (w64 ((w64 (c1.fh * 6364136223846793005)) + 1442695040888963407)) (2 ^ (min 33 (IntKind.bits .i64)))) ^^^ BitVec.ofInt (IntKind.bits .i64) (Int.fdiv (w64 ((w64 (c1.fh * 6364136223846793005)) + 1442695040888963407)) (2 ^ (min 45 (IntKind.bits .i64))))).toNat:Nat):Int)) &&& BitVec.ofInt (IntKind.bits .i64) 255).toNat:Nat):Int)) + (w64 Aa.n))) &&& BitVec.ofInt (IntKind.bits .i64) 255).toNat:Nat):Int),(⟨c1.fb,w64 (c1.fi + 1),w64 ((w64 (c1.fh * 6364136223846793005)) + 1442695040888963407)⟩:Cur)) else some (IntKind.wrap .i64 (((BitVec.ofInt (IntKind.bits .i64) (IntKind.wrap .i64 (((BitVec.ofInt (IntKind.bits .i64) (Int.fdiv (w64 ((w64 (c1.fh * 6364136223846793005)) + 1442695040888963407)) (2 ^ (min 33 (IntKind.bits .i64)))) ^^^ BitVec.ofInt (IntKind.bits .i64) (Int.fdiv (w64 ((w64 (c1.fh * 6364136223846793005)) + 1442695040888963407)) (2 ^ (min 45 (IntKind.bits .i64))))).toNat:Nat):Int)) &&& BitVec.ofInt (IntKind.bits .i64) 255).toNat:Nat):Int),(⟨c1.fb,c1.fi,w64 ((w64 (c1.fh * 6364136223846793005)) + 1442695040888963407)⟩:Cur))

def d_spec_l1Below (fu:Nat) (c1:Cur) (n7:Int):Option (Int × Cur) :=
  bif (decide (n7 ≤ 0)) then some (0,c1) else bif (decide (n7 ≤ 256)) then obind (d_spec_l1Byte fu c1) fun Aa=>obind (odiv n7) fun Af=>some (Int.tmod Aa.1 n7,(⟨c1.fb,Aa.2.fi,Aa.2.fh⟩:Cur)) else obind (d_spec_l1Byte fu c1) fun Ac=>obind (d_spec_l1Byte fu ((⟨c1.fb,Ac.2.fi,Ac.2.fh⟩:Cur))) fun Ad=>obind (d_spec_l1Byte fu ((⟨c1.fb,Ad.2.fi,Ad.2.fh⟩:Cur))) fun Ab=>obind (d_spec_l1Byte fu ((⟨c1.fb,Ab.2.fi,Ab.2.fh⟩:Cur))) fun Ae=>obind (odiv n7) fun Ag=>some (Int.tmod (w64 ((w64 ((w64 ((w64 (Ac.1 * 16777216)) + (w64 (Ad.1 * 65536)))) + (w64 (Ab.1 * 256)))) + Ae.1)) n7,(⟨c1.fb,Ae.2.fi,Ae.2.fh⟩:Cur))

def d_spec_l1Once (fu:Nat) (c1:Cur) (n7:Int):Option (Bool × Cur) :=
  obind (d_spec_l1Below fu c1 n7) fun x9=>some (x9.1 == 0,(⟨c1.fb,x9.2.fi,x9.2.fh⟩:Cur))

def d_spec_l1PickInt (fu:Nat) (c1:Cur) (Ab:List Int):Option (Int × Cur) :=
  obind (d_spec_l1Below fu c1 ((Ab.length:Int))) fun Aa=>obind (ix Ab Aa.1) fun Ac=>some (Ac,(⟨c1.fb,Aa.2.fi,Aa.2.fh⟩:Cur))

def d_spec_l2Right_J1 (fu:Nat) (Ae:Int → Int → List Pair → Int → Option (Request × Cur)) (Ac:Int) (Aa:Int) (Ab:Int) (Ad:List Pair):Option (Request × Cur) :=
  Ae Aa Ab Ad (w64 (Ac + 1))

def d_spec_l2Right_L1_B (fu:Nat) (k9:Int → Int → List Pair → Int → Option (Request × Cur)) (c1:Cur) (Aa:Int) (Af:Int → Int → List Pair → Int → Option (Request × Cur)) (Ae:Int) (Ag:Int) (Ad:List Pair) (Ab:Int):Option (Request × Cur) :=
  bif (decide (Ab ≤ Aa)) then bif (Aa == Ab) then obind (apnd 16 Ad (([(⟨Aa,Aa⟩:Pair)]:List Pair))) fun Ai=>d_spec_l2Right_J1 fu Af Ab Ae Ag Ai else obind (d_spec_l1Once fu ((⟨c1.fb,Ae,Ag⟩:Cur)) 2) fun Ac=>bif Ac.1 then obind (apnd 16 Ad (([(⟨Aa,Ab⟩:Pair),(⟨Ab,Aa⟩:Pair)]:List Pair))) fun Ah=>d_spec_l2Right_J1 fu Af Ab Ac.2.fi Ac.2.fh Ah else d_spec_l2Right_J1 fu Af Ab Ac.2.fi Ac.2.fh Ad else k9 Ae Ag Ad (w64 (Aa + 1))
def d_spec_l2Right_L1 (fu:Nat) (k9:Int → Int → List Pair → Int → Option (Request × Cur)) (c1:Cur) (Aa:Int):Nat → Int → Int → List Pair → Int → Option (Request × Cur)
  | 0=>fun _ _ _ _=>none
  | n + 1=>d_spec_l2Right_L1_B fu k9 c1 Aa (d_spec_l2Right_L1 fu k9 c1 Aa n)

def d_spec_l2Right_J2 (fu:Nat) (Ae:Int → Int → List Item → Int → Int → Option (Request × Cur)) (Ac:Int) (Af:Int) (Ab:Int) (Aa:List Item) (Ad:Int):Option (Request × Cur) :=
  Ae Af Ab Aa Ad (w64 (Ac + 1))

def d_spec_l2Right_J3 (fu:Nat) (Ag:Int → Int → List Item → Int → Int → Option (Request × Cur)) (Ad:List Item) (Ab:Int) (Ae:Int) (Af:Int) (Ac:Int) (Aa:Item):Option (Request × Cur) :=
  bif (decide ((w64 (Ab + Aa.fCount)) ≤ 12)) then obind (apnd 56 Ad (([Aa]:List Item))) fun Ah=>d_spec_l2Right_J2 fu Ag Ae Af Ac Ah (w64 (Ab + Aa.fCount)) else d_spec_l2Right_J2 fu Ag Ae Af Ac Ad Ab

def d_spec_l2Right_J4 (fu:Nat) (Ag:Int → Int → List Item → Int → Int → Option (Request × Cur)) (c1:Cur) (Ad:List Item) (Ae:Int) (Af:Int) (Ai:Int) (Ah:Int) (Ab:Item):Option (Request × Cur) :=
  obind (d_spec_l1Once fu ((⟨c1.fb,Ai,Ah⟩:Cur)) 3) fun Aa=>bif Aa.1 then obind (d_spec_l1Below fu ((⟨c1.fb,Aa.2.fi,Aa.2.fh⟩:Cur)) 8) fun Ac=>d_spec_l2Right_J3 fu Ag Ad Ae Af Ac.2.fi Ac.2.fh ((⟨Ab.fId,5,5,w64 (4 + Ac.1),Ab.fGram,Ab.fClass,Ab.fCount⟩:Item)) else d_spec_l2Right_J3 fu Ag Ad Ae Af Aa.2.fi Aa.2.fh Ab

def d_spec_l2Right_L2_B (fu:Nat)  (c1:Cur) (Al:Int × Cur) (Ap:Int × Cur) (As:Int × Cur) (Aq:Int × Cur) (Ao:Int × Cur) (Ai:Int × Cur) (At:List Pair) (Av:List Typ) (Am:Int × Cur) (Ar:Int → Int → List Item → Int → Int → Option (Request × Cur)) (Aj:Int) (Ah:Int) (Ak:List Item) (Au:Int) (Ad:Int):Option (Request × Cur) :=
  bif (decide (Ad < Am.1)) then obind (d_spec_l1Below fu ((⟨c1.fb,Aj,Ah⟩:Cur)) 10) fun Ab=>obind (d_spec_l1Below fu ((⟨c1.fb,Ab.2.fi,Ab.2.fh⟩:Cur)) 10) fun Aa=>obind (d_spec_l1Below fu ((⟨c1.fb,Aa.2.fi,Aa.2.fh⟩:Cur)) 10) fun Ag=>obind (d_spec_l1Below fu ((⟨c1.fb,Ag.2.fi,Ag.2.fh⟩:Cur)) 60) fun Af=>obind (d_spec_l1Below fu ((⟨c1.fb,Af.2.fi,Af.2.fh⟩:Cur)) (w64 (1 + Ai.1))) fun Ac=>obind (d_spec_l1Below fu ((⟨c1.fb,Ac.2.fi,Ac.2.fh⟩:Cur)) 4) fun Ae=>d_spec_l2Right_J4 fu Ar c1 Ak Au Ad Ae.2.fi Ae.2.fh ((⟨w64 (3 * Ad),w64 (1 + Ab.1),w64 (1 + Aa.1),w64 (1 + Ag.1),w64 (1 + Af.1),Ac.1,w64 (1 + Ae.1)⟩:Item)) else some ((⟨Al.1,(⟨Ap.1,As.1,Aq.1,Ao.1⟩:Pallet),w64 (1 + Ai.1),At,Av,7,Ak⟩:Request),(⟨c1.fb,Aj,Ah⟩:Cur))
def d_spec_l2Right_L2 (fu:Nat)  (c1:Cur) (Ac:Int × Cur) (Ae:Int × Cur) (Aa:Int × Cur) (Af:Int × Cur) (Ab:Int × Cur) (Ad:Int × Cur) (Ag:List Pair) (Ah:List Typ) (Ai:Int × Cur):Nat → Int → Int → List Item → Int → Int → Option (Request × Cur)
  | 0=>fun _ _ _ _ _=>none
  | n + 1=>d_spec_l2Right_L2_B fu c1 Ac Ae Aa Af Ab Ad Ag Ah Ai (d_spec_l2Right_L2 fu c1 Ac Ae Aa Af Ab Ad Ag Ah Ai n)

def d_spec_l2Right_L3_B (fu:Nat)  (c1:Cur) (Al:Int × Cur) (Ar:Int × Cur) (At:Int × Cur) (As:Int × Cur) (Ap:Int × Cur) (Aq:Int × Cur) (Av:List Pair) (Ao:Int × Cur) (Am:Int → Int → List Typ → Int → Option (Request × Cur)) (Aj:Int) (Ai:Int) (Ak:List Typ) (Ad:Int):Option (Request × Cur) :=
  bif (decide (Ad < Ao.1)) then obind (d_spec_l1Below fu ((⟨c1.fb,Aj,Ai⟩:Cur)) 9) fun Ac=>obind (d_spec_l1Below fu ((⟨c1.fb,Ac.2.fi,Ac.2.fh⟩:Cur)) 8) fun Ah=>obind (d_spec_l1Below fu ((⟨c1.fb,Ah.2.fi,Ah.2.fh⟩:Cur)) 9) fun Aa=>obind (d_spec_l1Below fu ((⟨c1.fb,Aa.2.fi,Aa.2.fh⟩:Cur)) 5) fun Ae=>obind (d_spec_l1Below fu ((⟨c1.fb,Ae.2.fi,Ae.2.fh⟩:Cur)) 90) fun Af=>obind (d_spec_l1Below fu ((⟨c1.fb,Af.2.fi,Af.2.fh⟩:Cur)) 20) fun Ag=>obind (apnd 56 Ak (([(⟨w64 (10 + Ad),w64 (4 + Ac.1),w64 (3 + Ah.1),w64 (3 + Aa.1),Ae.1,w64 (20 + Af.1),w64 (1 + Ag.1)⟩:Typ)]:List Typ))) fun Au=>Am Ag.2.fi Ag.2.fh Au (w64 (Ad + 1)) else obind (d_spec_l1Below fu ((⟨c1.fb,Aj,Ai⟩:Cur)) 6) fun Ab=>d_spec_l2Right_L2 fu c1 Al Ar At As Ap Aq Av Ak Ab fu Ab.2.fi Ab.2.fh (([]:List Item)) 0 0
def d_spec_l2Right_L3 (fu:Nat)  (c1:Cur) (Ac:Int × Cur) (Ae:Int × Cur) (Aa:Int × Cur) (Af:Int × Cur) (Ab:Int × Cur) (Ad:Int × Cur) (Ag:List Pair) (Ah:Int × Cur):Nat → Int → Int → List Typ → Int → Option (Request × Cur)
  | 0=>fun _ _ _ _=>none
  | n + 1=>d_spec_l2Right_L3_B fu c1 Ac Ae Aa Af Ab Ad Ag Ah (d_spec_l2Right_L3 fu c1 Ac Ae Aa Af Ab Ad Ag Ah n)

def d_spec_l2Right_J5 (fu:Nat) (c1:Cur) (Ad:Int × Cur) (Ag:Int × Cur) (Ab:Int × Cur) (Ah:Int × Cur) (Ac:Int × Cur) (Ae:Int × Cur) (Ai:List Pair) (Af:Int) (Ak:Int) (Aj:List Typ):Option (Request × Cur) :=
  obind (d_spec_l1Below fu ((⟨c1.fb,Af,Ak⟩:Cur)) 5) fun Aa=>d_spec_l2Right_L3 fu c1 Ad Ag Ab Ah Ac Ae Ai Aa fu Aa.2.fi Aa.2.fh Aj 0

def d_spec_l2Right_L4_B (fu:Nat)  (c1:Cur) (Ak:Int × Cur) (Am:Int × Cur) (Ai:Int × Cur) (Ao:Int × Cur) (Aj:Int × Cur) (Af:Int × Cur) (k9:Int → Int → List Pair → Int → Option (Request × Cur)) (Ad:Int) (Ag:Int) (Ah:List Pair) (Ae:Int):Option (Request × Cur) :=
  bif (decide (Ae < (w64 (1 + Af.1)))) then d_spec_l2Right_L1 fu k9 c1 Ae fu Ad Ag Ah 0 else obind (d_spec_l1Below fu ((⟨c1.fb,Ad,Ag⟩:Cur)) 8) fun Aa=>obind (d_spec_l1PickInt fu ((⟨c1.fb,Aa.2.fi,Aa.2.fh⟩:Cur)) (([60,100,140]:List Int))) fun Ab=>obind (d_spec_l1PickInt fu ((⟨c1.fb,Ab.2.fi,Ab.2.fh⟩:Cur)) (([9,20]:List Int))) fun Ac=>obind (apnd 56 (([]:List Typ)) (([(⟨7,12,10,11,Aa.1,Ab.1,Ac.1⟩:Typ)]:List Typ))) fun Al=>d_spec_l2Right_J5 fu c1 Ak Am Ai Ao Aj Af Ah Ac.2.fi Ac.2.fh Al
def d_spec_l2Right_L4 (fu:Nat)  (c1:Cur) (Ac:Int × Cur) (Ae:Int × Cur) (Aa:Int × Cur) (Af:Int × Cur) (Ab:Int × Cur) (Ad:Int × Cur):Nat → Int → Int → List Pair → Int → Option (Request × Cur)
  | 0=>fun _ _ _ _=>none
  | n + 1=>d_spec_l2Right_L4_B fu c1 Ac Ae Aa Af Ab Ad (d_spec_l2Right_L4 fu c1 Ac Ae Aa Af Ab Ad n)

def d_spec_l2Right (fu:Nat) (c1:Cur):Option (Request × Cur) :=
  obind (d_spec_l1Below fu c1 2) fun Ac=>obind (d_spec_l1PickInt fu ((⟨c1.fb,Ac.2.fi,Ac.2.fh⟩:Cur)) (([20,30,37]:List Int))) fun Ae=>obind (d_spec_l1PickInt fu ((⟨c1.fb,Ae.2.fi,Ae.2.fh⟩:Cur)) (([20,25,40]:List Int))) fun Aa=>obind (d_spec_l1PickInt fu ((⟨c1.fb,Aa.2.fi,Aa.2.fh⟩:Cur)) (([15,24,50]:List Int))) fun Af=>obind (d_spec_l1PickInt fu ((⟨c1.fb,Af.2.fi,Af.2.fh⟩:Cur)) (([150,400,5000]:List Int))) fun Ab=>obind (d_spec_l1Below fu ((⟨c1.fb,Ab.2.fi,Ab.2.fh⟩:Cur)) 4) fun Ad=>d_spec_l2Right_L4 fu c1 Ac Ae Aa Af Ab Ad fu Ad.2.fi Ad.2.fh (([]:List Pair)) 0

def d_spec_l1In (fu:Nat) (x1:Int) (Ab:Int) (Aa:Int):Option (Bool) :=
  bif (decide (x1 ≥ Ab)) then some (decide (x1 ≤ Aa)) else some (false)

def d_spec_l2Side (fu:Nat) (x1:Int):Option (Bool) :=
  obind (d_spec_l1In fu x1 1 2000) fun x2=>some (x2)

def d_spec_PalletOk (fu:Nat) (x1:Pallet):Option (Bool) :=
  obind (d_spec_l2Side fu x1.fW) fun x5=>bif x5 then obind (d_spec_l2Side fu x1.fD) fun Ab=>bif Ab then obind (d_spec_l2Side fu x1.fH) fun Ac=>bif Ac then obind (d_spec_l1In fu x1.fGram 1 100000) fun Aa=>some (Aa) else some (false) else some (false) else some (false)

def d_spec_l2Id (fu:Nat) (x1:Int):Option (Bool) :=
  obind (d_spec_l1In fu x1 0 999) fun x2=>some (x2)

def d_spec_TypeOk (fu:Nat) (x1:Typ):Option (Bool) :=
  obind (d_spec_l2Id fu x1.fId) fun x5=>bif x5 then obind (d_spec_l2Side fu x1.fW) fun Ab=>bif Ab then obind (d_spec_l2Side fu x1.fH) fun Ad=>bif Ad then obind (d_spec_l2Side fu x1.fD) fun Ae=>bif Ae then obind (d_spec_l1In fu x1.fTare 0 100000) fun Af=>bif Af then obind (d_spec_l1In fu x1.fGram 1 100000) fun Aa=>bif Aa then obind (d_spec_l1In fu x1.fCost 0 100000) fun Ac=>some (Ac) else some (false) else some (false) else some (false) else some (false) else some (false) else some (false)

def d_spec_ItemOk (fu:Nat) (x1:Item):Option (Bool) :=
  obind (d_spec_l2Id fu x1.fId) fun x5=>bif x5 then obind (d_spec_l2Side fu x1.fW) fun Ab=>bif Ab then obind (d_spec_l2Side fu x1.fH) fun Ad=>bif Ad then obind (d_spec_l2Side fu x1.fD) fun Ae=>bif Ae then obind (d_spec_l1In fu x1.fGram 1 100000) fun Af=>bif Af then obind (d_spec_l1In fu x1.fClass 0 3) fun Aa=>bif Aa then obind (d_spec_l1In fu x1.fCount 1 6) fun Ac=>some (Ac) else some (false) else some (false) else some (false) else some (false) else some (false) else some (false)

def d_spec_BoundsOk_J1 (fu:Nat) (k4:Int → Option (Bool)) (Aa:Int)  : Option (Bool) :=
  k4 (w64 (Aa + 1))

def d_spec_BoundsOk_L1_B (fu:Nat)  (r1:Request) (k7:Int → Int → Option (Bool)) (Ac:Int) (Aa:Int):Option (Bool) :=
  bif (decide (Aa < ((r1.fItems.length:Int)))) then obind (ix r1.fItems Aa) fun Ab=>obind (d_spec_ItemOk fu Ab) fun Ad=>bif (!Ad) then some (false) else obind (ix r1.fItems Aa) fun Ae=>k7 (w64 (Ac + Ab.fCount)) (w64 (Aa + 1)) else some (decide (Ac ≤ 12))
def d_spec_BoundsOk_L1 (fu:Nat)  (r1:Request):Nat → Int → Int → Option (Bool)
  | 0=>fun _ _=>none
  | n + 1=>d_spec_BoundsOk_L1_B fu r1 (d_spec_BoundsOk_L1 fu r1 n)

def d_spec_BoundsOk_L2_B (fu:Nat)  (r1:Request) (k6:Int → Option (Bool)) (Aa:Int):Option (Bool) :=
  bif (decide (Aa < ((r1.fTypes.length:Int)))) then obind (ix r1.fTypes Aa) fun Ac=>obind (d_spec_TypeOk fu Ac) fun Ab=>bif (!Ab) then some (false) else k6 (w64 (Aa + 1)) else d_spec_BoundsOk_L1 fu r1 fu 0 0
def d_spec_BoundsOk_L2 (fu:Nat)  (r1:Request):Nat → Int → Option (Bool)
  | 0=>fun _=>none
  | n + 1=>d_spec_BoundsOk_L2_B fu r1 (d_spec_BoundsOk_L2 fu r1 n)

def d_spec_BoundsOk_L3_B (fu:Nat)  (r1:Request) (k4:Int → Option (Bool)) (Aa:Int):Option (Bool) :=
  bif (decide (Aa < ((r1.fPairs.length:Int)))) then obind (ix r1.fPairs Aa) fun Ab=>obind (d_spec_l1In fu Ab.fA 0 3) fun Ac=>bif (!Ac) then some (false) else obind (ix r1.fPairs Aa) fun Ae=>obind (d_spec_l1In fu Ab.fB 0 3) fun Ad=>bif (!Ad) then some (false) else d_spec_BoundsOk_J1 fu k4 Aa else d_spec_BoundsOk_L2 fu r1 fu 0
def d_spec_BoundsOk_L3 (fu:Nat)  (r1:Request):Nat → Int → Option (Bool)
  | 0=>fun _=>none
  | n + 1=>d_spec_BoundsOk_L3_B fu r1 (d_spec_BoundsOk_L3 fu r1 n)

def d_spec_BoundsOk_J2 (fu:Nat) (r1:Request)  : Option (Bool) :=
  d_spec_BoundsOk_L3 fu r1 fu 0

def d_spec_BoundsOk (fu:Nat) (r1:Request):Option (Bool) :=
  obind (d_spec_l1In fu r1.fWay 0 1) fun Ad=>bif (!Ad) then some (false) else obind (d_spec_PalletOk fu r1.fPallet) fun Ac=>bif (!Ac) then some (false) else obind (d_spec_l1In fu r1.fClasses 1 4) fun Aa=>bif (!Aa) then some (false) else bif (decide (((r1.fPairs.length:Int)) > 16)) then some (false) else obind (d_spec_l1In fu ((r1.fTypes.length:Int)) 1 5) fun Ae=>bif (!Ae) then some (false) else obind (d_spec_l2Id fu r1.fMaster) fun Ab=>bif (!Ab) then some (false) else bif (decide (((r1.fItems.length:Int)) > 8)) then some (false) else d_spec_BoundsOk_J2 fu r1

def d_spec_MasterOf_L1_B (fu:Nat)  (r1:Request) (k1:Int → Option (Typ × Bool)) (Aa:Int):Option (Typ × Bool) :=
  bif (decide (Aa < ((r1.fTypes.length:Int)))) then obind (ix r1.fTypes Aa) fun Ab=>bif (Ab.fId == r1.fMaster) then obind (ix r1.fTypes Aa) fun Ac=>some (Ab,true) else k1 (w64 (Aa + 1)) else some ((⟨0,0,0,0,0,0,0⟩:Typ),false)
def d_spec_MasterOf_L1 (fu:Nat)  (r1:Request):Nat → Int → Option (Typ × Bool)
  | 0=>fun _=>none
  | n + 1=>d_spec_MasterOf_L1_B fu r1 (d_spec_MasterOf_L1 fu r1 n)

def d_spec_MasterOf (fu:Nat) (r1:Request):Option (Typ × Bool) :=
  d_spec_MasterOf_L1 fu r1 fu 0

def d_spec_l5Names_L1_B (fu:Nat) (k3:Int → Option (Bool)) (r1:Request) (Ab:Int) (k4:Int → Option (Bool)) (Aa:Int):Option (Bool) :=
  bif (decide (Aa < Ab)) then obind (ix r1.fTypes Ab) fun Ad=>obind (ix r1.fTypes Aa) fun Ac=>bif (Ad.fId == Ac.fId) then some (false) else k4 (w64 (Aa + 1)) else k3 (w64 (Ab + 1))
def d_spec_l5Names_L1 (fu:Nat) (k3:Int → Option (Bool)) (r1:Request) (Aa:Int):Nat → Int → Option (Bool)
  | 0=>fun _=>none
  | n + 1=>d_spec_l5Names_L1_B fu k3 r1 Aa (d_spec_l5Names_L1 fu k3 r1 Aa n)

def d_spec_l5Names_L2_B (fu:Nat) (k7:Int → Option (Bool)) (r1:Request) (Ab:Int) (k8:Int → Option (Bool)) (Aa:Int):Option (Bool) :=
  bif (decide (Aa < Ab)) then obind (ix r1.fItems Ab) fun Ac=>obind (ix r1.fItems Aa) fun Ad=>bif (Ac.fId == Ad.fId) then some (false) else k8 (w64 (Aa + 1)) else k7 (w64 (Ab + 1))
def d_spec_l5Names_L2 (fu:Nat) (k7:Int → Option (Bool)) (r1:Request) (Aa:Int):Nat → Int → Option (Bool)
  | 0=>fun _=>none
  | n + 1=>d_spec_l5Names_L2_B fu k7 r1 Aa (d_spec_l5Names_L2 fu k7 r1 Aa n)

def d_spec_l5Names_J1 (fu:Nat) (Aa:Int → Option (Bool)) (Ab:Int)  : Option (Bool) :=
  Aa (w64 (Ab + 1))

def d_spec_l5Names_L3_B (fu:Nat)  (r1:Request) (Ad:Int → Option (Bool)) (Aa:Int):Option (Bool) :=
  bif (decide (Aa < ((r1.fPairs.length:Int)))) then obind (ix r1.fPairs Aa) fun Ab=>bif (decide (Ab.fA ≥ r1.fClasses)) then some (false) else obind (ix r1.fPairs Aa) fun Ae=>bif (decide (Ab.fB ≥ r1.fClasses)) then some (false) else d_spec_l5Names_J1 fu Ad Aa else obind (d_spec_MasterOf fu r1) fun Ac=>some (Ac.2)
def d_spec_l5Names_L3 (fu:Nat)  (r1:Request):Nat → Int → Option (Bool)
  | 0=>fun _=>none
  | n + 1=>d_spec_l5Names_L3_B fu r1 (d_spec_l5Names_L3 fu r1 n)

def d_spec_l5Names_L4_B (fu:Nat)  (r1:Request) (k7:Int → Option (Bool)) (Aa:Int):Option (Bool) :=
  bif (decide (Aa < ((r1.fItems.length:Int)))) then obind (ix r1.fItems Aa) fun Ab=>bif (decide (Ab.fClass ≥ r1.fClasses)) then some (false) else d_spec_l5Names_L2 fu k7 r1 Aa fu 0 else d_spec_l5Names_L3 fu r1 fu 0
def d_spec_l5Names_L4 (fu:Nat)  (r1:Request):Nat → Int → Option (Bool)
  | 0=>fun _=>none
  | n + 1=>d_spec_l5Names_L4_B fu r1 (d_spec_l5Names_L4 fu r1 n)

def d_spec_l5Names_L5_B (fu:Nat)  (r1:Request) (k3:Int → Option (Bool)) (Aa:Int):Option (Bool) :=
  bif (decide (Aa < ((r1.fTypes.length:Int)))) then d_spec_l5Names_L1 fu k3 r1 Aa fu 0 else d_spec_l5Names_L4 fu r1 fu 0
def d_spec_l5Names_L5 (fu:Nat)  (r1:Request):Nat → Int → Option (Bool)
  | 0=>fun _=>none
  | n + 1=>d_spec_l5Names_L5_B fu r1 (d_spec_l5Names_L5 fu r1 n)

def d_spec_l5Names (fu:Nat) (r1:Request):Option (Bool) :=
  d_spec_l5Names_L5 fu r1 fu 0

def d_spec_Beside_J1 (fu:Nat) (k3:Int → Option (Bool)) (Aa:Int)  : Option (Bool) :=
  k3 (w64 (Aa + 1))

def d_spec_Beside_L1_B (fu:Nat)  (Ab:List Pair) (a5:Int) (b6:Int) (k3:Int → Option (Bool)) (Aa:Int):Option (Bool) :=
  bif (decide (Aa < ((Ab.length:Int)))) then obind (ix Ab Aa) fun Ac=>bif (Ac.fA == a5) then obind (ix Ab Aa) fun Ad=>bif (Ac.fB == b6) then some (true) else d_spec_Beside_J1 fu k3 Aa else d_spec_Beside_J1 fu k3 Aa else some (false)
def d_spec_Beside_L1 (fu:Nat)  (Aa:List Pair) (a5:Int) (b6:Int):Nat → Int → Option (Bool)
  | 0=>fun _=>none
  | n + 1=>d_spec_Beside_L1_B fu Aa a5 b6 (d_spec_Beside_L1 fu Aa a5 b6 n)

def d_spec_Beside (fu:Nat) (Aa:List Pair) (a5:Int) (b6:Int):Option (Bool) :=
  d_spec_Beside_L1 fu Aa a5 b6 fu 0

def d_spec_TableOk_J1 (fu:Nat) (Aa:Int → Option (Bool)) (Ab:Int)  : Option (Bool) :=
  Aa (w64 (Ab + 1))

def d_spec_TableOk_L1_B (fu:Nat) (k9:Int → Option (Bool)) (Ac:List Pair) (Af:Int) (Ab:Int) (Ad:Int → Option (Bool)) (Aa:Int):Option (Bool) :=
  bif (decide (Aa < Af)) then bif (Ab == Aa) then obind (d_spec_Beside fu Ac Ab Ab) fun Ag=>bif (!Ag) then some (false) else obind (d_spec_Beside fu Ac Ab Aa) fun Aj=>obind (d_spec_Beside fu Ac Aa Ab) fun Ae=>bif (!(Aj == Ae)) then some (false) else d_spec_TableOk_J1 fu Ad Aa else obind (d_spec_Beside fu Ac Ab Aa) fun Ah=>obind (d_spec_Beside fu Ac Aa Ab) fun Ai=>bif (!(Ah == Ai)) then some (false) else d_spec_TableOk_J1 fu Ad Aa else k9 (w64 (Ab + 1))
def d_spec_TableOk_L1 (fu:Nat) (k9:Int → Option (Bool)) (Aa:List Pair) (Ab:Int) (Ac:Int):Nat → Int → Option (Bool)
  | 0=>fun _=>none
  | n + 1=>d_spec_TableOk_L1_B fu k9 Aa Ab Ac (d_spec_TableOk_L1 fu k9 Aa Ab Ac n)

def d_spec_TableOk_L2_B (fu:Nat)  (Ac:List Pair) (Aa:Int) (k9:Int → Option (Bool)) (Ab:Int):Option (Bool) :=
  bif (decide (Ab < Aa)) then d_spec_TableOk_L1 fu k9 Ac Aa Ab fu 0 else some (true)
def d_spec_TableOk_L2 (fu:Nat)  (Aa:List Pair) (Ab:Int):Nat → Int → Option (Bool)
  | 0=>fun _=>none
  | n + 1=>d_spec_TableOk_L2_B fu Aa Ab (d_spec_TableOk_L2 fu Aa Ab n)

def d_spec_TableOk (fu:Nat) (Ab:List Pair) (Aa:Int):Option (Bool) :=
  obind (d_spec_l1In fu Aa 1 4) fun x6=>bif (!x6) then some (false) else d_spec_TableOk_L2 fu Ab Aa fu 0

def d_spec_l1Places_L1_B (fu:Nat)  (n1:Int) (k1:List Int → Int → Option ((List Int))) (Ab:List Int) (Aa:Int):Option ((List Int)) :=
  bif (decide (Aa < n1)) then obind (apnd 8 Ab (([Aa]:List Int))) fun Ac=>k1 Ac (w64 (Aa + 1)) else some (Ab)
def d_spec_l1Places_L1 (fu:Nat)  (n1:Int):Nat → List Int → Int → Option ((List Int))
  | 0=>fun _ _=>none
  | n + 1=>d_spec_l1Places_L1_B fu n1 (d_spec_l1Places_L1 fu n1 n)

def d_spec_l1Places (fu:Nat) (n1:Int):Option ((List Int)) :=
  d_spec_l1Places_L1 fu n1 fu (([]:List Int)) 0

def d_spec_l1Merge_J1 (fu:Nat) (k3:List Int → Int → Int → Option ((List Int))) (Ag:List Int) (Ai:Bool) (Ac:(List Int)) (Ae:(List Int)) (Ad:List Int) (Aa:Int) (Ab:Int)  : Option ((List Int)) :=
  bif (Ab == ((Ae.length:Int))) then obind (ix Ac Aa) fun Aq=>obind (apnd 8 Ad (([Aq]:List Int))) fun Ap=>k3 Ap (w64 (Aa + 1)) Ab else bif (Aa == ((Ac.length:Int))) then obind (ix Ae Ab) fun Am=>obind (apnd 8 Ad (([Am]:List Int))) fun Al=>k3 Al Aa (w64 (Ab + 1)) else obind (ix Ae Ab) fun Ah=>obind (ix Ag Ah) fun Ak=>obind (ix Ac Aa) fun Af=>obind (ix Ag Af) fun Aj=>bif (decide (Ak < Aj)) then bif (!Ai) then obind (ix Ae Ab) fun Ay=>obind (apnd 8 Ad (([Ah]:List Int))) fun At=>k3 At Aa (w64 (Ab + 1)) else obind (ix Ae Ab) fun Bb=>obind (ix Ag Ah) fun Bh=>obind (ix Ac Aa) fun Bi=>obind (ix Ag Af) fun Ax=>bif (decide (Ak > Aj)) then bif Ai then obind (ix Ae Ab) fun Bk=>obind (apnd 8 Ad (([Ah]:List Int))) fun Ar=>k3 Ar Aa (w64 (Ab + 1)) else obind (ix Ac Aa) fun Bd=>obind (apnd 8 Ad (([Af]:List Int))) fun As=>k3 As (w64 (Aa + 1)) Ab else obind (ix Ac Aa) fun Bf=>obind (apnd 8 Ad (([Af]:List Int))) fun Aw=>k3 Aw (w64 (Aa + 1)) Ab else obind (ix Ae Ab) fun Az=>obind (ix Ag Ah) fun Bl=>obind (ix Ac Aa) fun Bg=>obind (ix Ag Af) fun Bc=>bif (decide (Ak > Aj)) then bif Ai then obind (ix Ae Ab) fun Be=>obind (apnd 8 Ad (([Ah]:List Int))) fun Au=>k3 Au Aa (w64 (Ab + 1)) else obind (ix Ac Aa) fun Bj=>obind (apnd 8 Ad (([Af]:List Int))) fun Av=>k3 Av (w64 (Aa + 1)) Ab else obind (ix Ac Aa) fun Ba=>obind (apnd 8 Ad (([Af]:List Int))) fun Ao=>k3 Ao (w64 (Aa + 1)) Ab

def d_spec_l1Merge_L1_B (fu:Nat)  (Af:List Int) (Ag:Bool) (Ad:(List Int)) (Ac:(List Int)) (k3:List Int → Int → Int → Option ((List Int))) (Ab:List Int) (Aa:Int) (Ae:Int):Option ((List Int)) :=
  bif (decide (Aa < ((Ad.length:Int)))) then d_spec_l1Merge_J1 fu k3 Af Ag Ad Ac Ab Aa Ae else bif (decide (Ae < ((Ac.length:Int)))) then d_spec_l1Merge_J1 fu k3 Af Ag Ad Ac Ab Aa Ae else some (Ab)
def d_spec_l1Merge_L1 (fu:Nat)  (Ab:List Int) (Ad:Bool) (Ac:(List Int)) (Aa:(List Int)):Nat → List Int → Int → Int → Option ((List Int))
  | 0=>fun _ _ _=>none
  | n + 1=>d_spec_l1Merge_L1_B fu Ab Ad Ac Aa (d_spec_l1Merge_L1 fu Ab Ad Ac Aa n)

def d_spec_l1Merge_RB (fu:Nat) (self:List Int → List Int → Bool → Option ((List Int))) (Ab:List Int) (Aa:List Int) (Ac:Bool):Option ((List Int)) :=
  bif (decide (((Aa.length:Int)) < 2)) then obind (apnd 8 (([]:List Int)) Aa) fun Ae=>some (Ae) else obind (sls Aa 0 (w64 (Int.tdiv ((Aa.length:Int)) 2))) fun Ah=>obind (self Ab Ah Ac) fun Ag=>obind (sls Aa (w64 (Int.tdiv ((Aa.length:Int)) 2)) (Aa.length:Int)) fun Ad=>obind (self Ab Ad Ac) fun Af=>d_spec_l1Merge_L1 fu Ab Ac Ag Af fu (([]:List Int)) 0 0
def d_spec_l1Merge_R (fu:Nat):Nat → List Int → List Int → Bool → Option ((List Int))
  | 0=>fun _ _ _=>none
  | n + 1=>d_spec_l1Merge_RB fu (d_spec_l1Merge_R fu n)
def d_spec_l1Merge (fu:Nat) (Aa:List Int) (Ab:List Int) (Ac:Bool):Option ((List Int)):=d_spec_l1Merge_R fu fu Aa Ab Ac

def d_spec_SortUp (fu:Nat) (Aa:List Int):Option ((List Int)) :=
  obind (d_spec_l1Places fu ((Aa.length:Int))) fun x5=>obind (d_spec_l1Merge fu Aa x5 false) fun Ab=>some (Ab)

def d_spec_l5Sides (fu:Nat) (Aa:Int) (h2:Int) (d3:Int):Option ((List Int)) :=
  obind (d_spec_SortUp fu (([Aa,h2,d3]:List Int))) fun x9=>obind (ix x9 0) fun Af=>obind (ix (([Aa,h2,d3]:List Int)) Af) fun Ac=>obind (ix x9 1) fun Ae=>obind (ix (([Aa,h2,d3]:List Int)) Ae) fun Ab=>obind (ix x9 2) fun Ad=>obind (ix (([Aa,h2,d3]:List Int)) Ad) fun Ag=>some (([Ac,Ab,Ag]:List Int))

def d_spec_Fits (fu:Nat) (x1:Item) (t2:Typ):Option (Bool) :=
  obind (d_spec_l5Sides fu x1.fW x1.fH x1.fD) fun Aa=>obind (d_spec_l5Sides fu t2.fW t2.fH t2.fD) fun Ab=>obind (ix Aa 0) fun Ah=>obind (ix Ab 0) fun Ac=>bif (decide (Ah ≤ Ac)) then obind (ix Aa 1) fun Af=>obind (ix Ab 1) fun Ad=>bif (decide (Af ≤ Ad)) then obind (ix Aa 2) fun Ae=>obind (ix Ab 2) fun Ag=>bif (decide (Ae ≤ Ag)) then some (decide (x1.fGram ≤ t2.fGram)) else some (false) else some (false) else some (false)

def d_spec_Class_J1 (fu:Nat) (k4:Int → Option (Int)) (Aa:Int)  : Option (Int) :=
  k4 (w64 (Aa + 1))

def d_spec_Class_L1_B (fu:Nat)  (r1:Request) (k4:Int → Option (Int)) (Ab:Int):Option (Int) :=
  bif (decide (Ab < ((r1.fTypes.length:Int)))) then obind (ix r1.fTypes Ab) fun Aa=>bif (decide (Aa.fW > r1.fPallet.fW)) then some (6) else bif (decide (Aa.fD > r1.fPallet.fD)) then some (6) else bif (decide (Aa.fH > r1.fPallet.fH)) then some (6) else bif (decide ((w64 (Aa.fTare + Aa.fGram)) > r1.fPallet.fGram)) then some (6) else d_spec_Class_J1 fu k4 Ab else some (0)
def d_spec_Class_L1 (fu:Nat)  (r1:Request):Nat → Int → Option (Int)
  | 0=>fun _=>none
  | n + 1=>d_spec_Class_L1_B fu r1 (d_spec_Class_L1 fu r1 n)

def d_spec_Class_L2_B (fu:Nat)  (r1:Request) (Ac:Typ × Bool) (k1:Int → Option (Int)) (Aa:Int):Option (Int) :=
  bif (decide (Aa < ((r1.fItems.length:Int)))) then obind (ix r1.fItems Aa) fun Ab=>obind (d_spec_Fits fu Ab Ac.1) fun Ad=>bif (!Ad) then some (5) else k1 (w64 (Aa + 1)) else d_spec_Class_L1 fu r1 fu 0
def d_spec_Class_L2 (fu:Nat)  (r1:Request) (Aa:Typ × Bool):Nat → Int → Option (Int)
  | 0=>fun _=>none
  | n + 1=>d_spec_Class_L2_B fu r1 Aa (d_spec_Class_L2 fu r1 Aa n)

def d_spec_Class (fu:Nat) (r1:Request):Option (Int) :=
  obind (d_spec_BoundsOk fu r1) fun Ad=>bif (!Ad) then some (2) else obind (d_spec_l5Names fu r1) fun Ab=>bif (!Ab) then some (3) else obind (d_spec_TableOk fu r1.fPairs r1.fClasses) fun Aa=>bif (!Aa) then some (4) else obind (d_spec_MasterOf fu r1) fun Ac=>d_spec_Class_L2 fu r1 Ac fu 0

def d_spec_l5Good_J1 (fu:Nat) (k3:List Item → Int → Option (Request × Cur)) (Aa:Int) (Ab:List Item):Option (Request × Cur) :=
  k3 Ab (w64 (Aa + 1))

def d_spec_l5Good_L1_B (fu:Nat)  (c1:Cur) (Aa:Request × Cur) (Af:Typ × Bool) (k3:List Item → Int → Option (Request × Cur)) (Ac:List Item) (Ab:Int):Option (Request × Cur) :=
  bif (decide (Ab < ((Aa.1.fItems.length:Int)))) then obind (ix Aa.1.fItems Ab) fun Ad=>obind (d_spec_Fits fu Ad Af.1) fun Ae=>bif Ae then obind (ix Aa.1.fItems Ab) fun Ah=>obind (apnd 56 Ac (([Ad]:List Item))) fun Ag=>d_spec_l5Good_J1 fu k3 Ab Ag else d_spec_l5Good_J1 fu k3 Ab Ac else some ((⟨Aa.1.fWay,(⟨30,25,24,400⟩:Pallet),Aa.1.fClasses,Aa.1.fPairs,Aa.1.fTypes,Aa.1.fMaster,Ac⟩:Request),(⟨c1.fb,Aa.2.fi,Aa.2.fh⟩:Cur))
def d_spec_l5Good_L1 (fu:Nat)  (c1:Cur) (Ab:Request × Cur) (Aa:Typ × Bool):Nat → List Item → Int → Option (Request × Cur)
  | 0=>fun _ _=>none
  | n + 1=>d_spec_l5Good_L1_B fu c1 Ab Aa (d_spec_l5Good_L1 fu c1 Ab Aa n)

def d_spec_l5Good (fu:Nat) (c1:Cur):Option (Request × Cur) :=
  obind (d_spec_l2Right fu c1) fun Aa=>obind (d_spec_Class fu Aa.1) fun Ab=>bif (Ab != 0) then obind (d_spec_MasterOf fu ((⟨Aa.1.fWay,(⟨30,25,24,400⟩:Pallet),Aa.1.fClasses,Aa.1.fPairs,Aa.1.fTypes,Aa.1.fMaster,Aa.1.fItems⟩:Request))) fun Ac=>d_spec_l5Good_L1 fu c1 Aa Ac fu (([]:List Item)) 0 else some (Aa.1,(⟨c1.fb,Aa.2.fi,Aa.2.fh⟩:Cur))

def d_spec_l2Draw_J1 (fu:Nat) (c1:Cur) (Aa:Request × Cur) (Aj:Int) (Ak:Int) (Ab:Int) (Ah:Int) (Af:List Pair) (Ae:List Typ) (Ai:Int) (Ac:List Item) (Ad:Int) (Ag:Int):Option (Request × Cur) :=
  some ((⟨Aj,(⟨Ak,Aa.1.fPallet.fD,Aa.1.fPallet.fH,Ab⟩:Pallet),Ah,Af,Ae,Ai,Ac⟩:Request),(⟨c1.fb,Ad,Ag⟩:Cur))

def d_spec_l2Draw (fu:Nat) (c1:Cur):Option (Request × Cur) :=
  obind (d_spec_l2Right fu c1) fun Aa=>obind (d_spec_l1PickInt fu ((⟨c1.fb,Aa.2.fi,Aa.2.fh⟩:Cur)) (([(-1),0,2001,100001,1000,9223372036854775807]:List Int))) fun Ac=>obind (d_spec_l1Below fu ((⟨c1.fb,Ac.2.fi,Ac.2.fh⟩:Cur)) 20) fun Ab=>bif (Ab.1 == 0) then obind (d_spec_l1PickInt fu ((⟨c1.fb,Ab.2.fi,Ab.2.fh⟩:Cur)) (([(-1),2]:List Int))) fun Aj=>d_spec_l2Draw_J1 fu c1 Aa Aj.1 Aa.1.fPallet.fW Aa.1.fPallet.fGram Aa.1.fClasses Aa.1.fPairs Aa.1.fTypes Aa.1.fMaster Aa.1.fItems Aj.2.fi Aj.2.fh else bif (Ab.1 == 1) then d_spec_l2Draw_J1 fu c1 Aa Aa.1.fWay Ac.1 Aa.1.fPallet.fGram Aa.1.fClasses Aa.1.fPairs Aa.1.fTypes Aa.1.fMaster Aa.1.fItems Ab.2.fi Ab.2.fh else bif (Ab.1 == 2) then d_spec_l2Draw_J1 fu c1 Aa Aa.1.fWay Aa.1.fPallet.fW Ac.1 Aa.1.fClasses Aa.1.fPairs Aa.1.fTypes Aa.1.fMaster Aa.1.fItems Ab.2.fi Ab.2.fh else bif (Ab.1 == 3) then obind (d_spec_l1PickInt fu ((⟨c1.fb,Ab.2.fi,Ab.2.fh⟩:Cur)) (([0,5,1]:List Int))) fun Ai=>d_spec_l2Draw_J1 fu c1 Aa Aa.1.fWay Aa.1.fPallet.fW Aa.1.fPallet.fGram Ai.1 Aa.1.fPairs Aa.1.fTypes Aa.1.fMaster Aa.1.fItems Ai.2.fi Ai.2.fh else bif (Ab.1 == 4) then obind (d_spec_l1Below fu ((⟨c1.fb,Ab.2.fi,Ab.2.fh⟩:Cur)) 6) fun Ah=>obind (d_spec_l1Below fu ((⟨c1.fb,Ah.2.fi,Ah.2.fh⟩:Cur)) 4) fun Ae=>obind (apnd 16 Aa.1.fPairs (([(⟨w64 (Ah.1 - 1),Ae.1⟩:Pair)]:List Pair))) fun Al=>d_spec_l2Draw_J1 fu c1 Aa Aa.1.fWay Aa.1.fPallet.fW Aa.1.fPallet.fGram Aa.1.fClasses Al Aa.1.fTypes Aa.1.fMaster Aa.1.fItems Ae.2.fi Ae.2.fh else bif (Ab.1 == 5) then obind (ix Aa.1.fTypes 0) fun Aq=>d_spec_l2Draw_J1 fu c1 Aa Aa.1.fWay Aa.1.fPallet.fW Aa.1.fPallet.fGram Aa.1.fClasses Aa.1.fPairs (setx Aa.1.fTypes 0 ({ Aq with fH:=Ac.1 })) Aa.1.fMaster Aa.1.fItems Ab.2.fi Ab.2.fh else bif (Ab.1 == 6) then obind (d_spec_l1Below fu ((⟨c1.fb,Ab.2.fi,Ab.2.fh⟩:Cur)) ((Aa.1.fTypes.length:Int))) fun Ad=>obind (ix Aa.1.fTypes Ad.1) fun Ap=>d_spec_l2Draw_J1 fu c1 Aa Aa.1.fWay Aa.1.fPallet.fW Aa.1.fPallet.fGram Aa.1.fClasses Aa.1.fPairs (setx Aa.1.fTypes Ad.1 ({ Ap with fGram:=Ac.1 })) Aa.1.fMaster Aa.1.fItems Ad.2.fi Ad.2.fh else bif (Ab.1 == 7) then obind (d_spec_l1PickInt fu ((⟨c1.fb,Ab.2.fi,Ab.2.fh⟩:Cur)) (([8,(-1),1000]:List Int))) fun Ak=>d_spec_l2Draw_J1 fu c1 Aa Aa.1.fWay Aa.1.fPallet.fW Aa.1.fPallet.fGram Aa.1.fClasses Aa.1.fPairs Aa.1.fTypes Ak.1 Aa.1.fItems Ak.2.fi Ak.2.fh else bif (Ab.1 == 8) then obind (d_spec_l1Below fu ((⟨c1.fb,Ab.2.fi,Ab.2.fh⟩:Cur)) 5) fun Ag=>obind (d_spec_l1Below fu ((⟨c1.fb,Ag.2.fi,Ag.2.fh⟩:Cur)) 8) fun Af=>obind (apnd 56 Aa.1.fItems (([(⟨3,1,2,3,4,Ag.1,Af.1⟩:Item)]:List Item))) fun Am=>d_spec_l2Draw_J1 fu c1 Aa Aa.1.fWay Aa.1.fPallet.fW Aa.1.fPallet.fGram Aa.1.fClasses Aa.1.fPairs Aa.1.fTypes Aa.1.fMaster Am Af.2.fi Af.2.fh else bif (Ab.1 == 9) then bif (decide (((Aa.1.fItems.length:Int)) > 0)) then obind (ix Aa.1.fItems 0) fun As=>d_spec_l2Draw_J1 fu c1 Aa Aa.1.fWay Aa.1.fPallet.fW Aa.1.fPallet.fGram Aa.1.fClasses Aa.1.fPairs Aa.1.fTypes Aa.1.fMaster (setx Aa.1.fItems 0 ({ As with fD:=Ac.1 })) Ab.2.fi Ab.2.fh else d_spec_l2Draw_J1 fu c1 Aa Aa.1.fWay Aa.1.fPallet.fW Aa.1.fPallet.fGram Aa.1.fClasses Aa.1.fPairs Aa.1.fTypes Aa.1.fMaster Aa.1.fItems Ab.2.fi Ab.2.fh else bif (Ab.1 == 10) then bif (decide (((Aa.1.fPairs.length:Int)) > 0)) then obind (sls Aa.1.fPairs 1 (Aa.1.fPairs.length:Int)) fun Ar=>d_spec_l2Draw_J1 fu c1 Aa Aa.1.fWay Aa.1.fPallet.fW Aa.1.fPallet.fGram Aa.1.fClasses Ar Aa.1.fTypes Aa.1.fMaster Aa.1.fItems Ab.2.fi Ab.2.fh else d_spec_l2Draw_J1 fu c1 Aa Aa.1.fWay Aa.1.fPallet.fW Aa.1.fPallet.fGram Aa.1.fClasses Aa.1.fPairs Aa.1.fTypes Aa.1.fMaster Aa.1.fItems Ab.2.fi Ab.2.fh else bif (Ab.1 == 11) then obind (ix Aa.1.fTypes 0) fun At=>obind (apnd 56 Aa.1.fTypes (([At]:List Typ))) fun Ao=>d_spec_l2Draw_J1 fu c1 Aa Aa.1.fWay Aa.1.fPallet.fW Aa.1.fPallet.fGram Aa.1.fClasses Aa.1.fPairs Ao Aa.1.fMaster Aa.1.fItems Ab.2.fi Ab.2.fh else bif (Ab.1 == 12) then d_spec_l2Draw_J1 fu c1 Aa Aa.1.fWay Aa.1.fPallet.fW Aa.1.fPallet.fGram Aa.1.fClasses Aa.1.fPairs (([]:List Typ)) Aa.1.fMaster Aa.1.fItems Ab.2.fi Ab.2.fh else d_spec_l2Draw_J1 fu c1 Aa Aa.1.fWay Aa.1.fPallet.fW Aa.1.fPallet.fGram Aa.1.fClasses Aa.1.fPairs Aa.1.fTypes Aa.1.fMaster Aa.1.fItems Ab.2.fi Ab.2.fh

def d_spec_DrawClass (fu:Nat) (Ab:List U8):Option (Request) :=
  obind (d_spec_l1New fu Ab) fun x8=>obind (d_spec_l1Once fu ((⟨Ab,x8.fi,x8.fh⟩:Cur)) 2) fun Aa=>bif Aa.1 then obind (d_spec_l5Good fu ((⟨Ab,Aa.2.fi,Aa.2.fh⟩:Cur))) fun Ac=>some (Ac.1) else obind (d_spec_l2Draw fu ((⟨Ab,Aa.2.fi,Aa.2.fh⟩:Cur))) fun Ad=>some (Ad.1)

def d_spec_l17Two (fu:Nat) (Aa:List U8):Option (Request × Int) :=
  obind (d_spec_DrawClass fu Aa) fun x8=>obind (d_spec_l1New fu Aa) fun Ab=>obind (d_spec_l1Below fu ((⟨Aa,Ab.fi,Ab.fh⟩:Cur)) 4) fun Ac=>some (x8,w64 (Ac.1 - 1))

def d_spec_DrawSlackGram (fu:Nat) (Aa:List U8):Option (Request × Int) :=
  obind (d_spec_l17Two fu Aa) fun x8=>some (x8.1,x8.2)

def d_impl_TypeById_1 (fu:Nat) (t1:Typ) (x2:Int):Option (Bool) :=
  some (t1.fId == x2)

def d_slices_IndexFunc_impl_Type_impl_Type_L1_B (fu:Nat)  (Ab:List Typ) (f5:Typ → Option Bool) (k1:Int → Option (Int)) (Aa:Int):Option (Int) :=
  bif (decide (Aa < ((Ab.length:Int)))) then obind (ix Ab Aa) fun Ac=>obind (f5 Ac) fun Ad=>bif Ad then some (Aa) else k1 (w64 (Aa + 1)) else some ((-1))
def d_slices_IndexFunc_impl_Type_impl_Type_L1 (fu:Nat)  (Aa:List Typ) (f5:Typ → Option Bool):Nat → Int → Option (Int)
  | 0=>fun _=>none
  | n + 1=>d_slices_IndexFunc_impl_Type_impl_Type_L1_B fu Aa f5 (d_slices_IndexFunc_impl_Type_impl_Type_L1 fu Aa f5 n)

def d_slices_IndexFunc_impl_Type_impl_Type (fu:Nat) (Aa:List Typ) (f5:Typ → Option Bool):Option (Int) :=
  d_slices_IndexFunc_impl_Type_impl_Type_L1 fu Aa f5 fu 0

def d_impl_TypeById (fu:Nat) (r1:Request) (Ac:Int):Option (Typ × Bool) :=
  obind (d_slices_IndexFunc_impl_Type_impl_Type fu r1.fTypes (fun Ab=>d_impl_TypeById_1 fu Ab Ac)) fun Aa=>bif (decide (Aa < 0)) then some ((⟨0,0,0,0,0,0,0⟩:Typ),false) else obind (ix r1.fTypes Aa) fun Ad=>some (Ad,true)

def d_impl_MasterOf (fu:Nat) (r1:Request):Option (Typ × Bool) :=
  obind (d_impl_TypeById fu r1 r1.fMaster) fun Aa=>some (Aa.1,Aa.2)

def d_impl_in (fu:Nat) (n1:Int) (Ab:Int) (Aa:Int):Option (Bool) :=
  bif (decide (n1 ≥ Ab)) then some (decide (n1 ≤ Aa)) else some (false)

def d_impl_Volume_J1 (fu:Nat) (Aa:Int) (h2:Int) (d3:Int)  : Option (Int) :=
  some (w64 ((w64 (Aa * h2)) * d3))

def d_impl_Volume (fu:Nat) (Aa:Int) (h2:Int) (d3:Int):Option (Int) :=
  obind (d_impl_in fu Aa 0 2000) fun Ac=>bif (!Ac) then some (0) else obind (d_impl_in fu h2 0 2000) fun Ad=>bif (!Ad) then some (0) else obind (d_impl_in fu d3 0 2000) fun Ab=>bif (!Ab) then some (0) else d_impl_Volume_J1 fu Aa h2 d3

def d_impl_masterRoom (fu:Nat) (r1:Request):Option (Int × Int) :=
  obind (d_impl_MasterOf fu r1) fun Aa=>obind (d_impl_Volume fu Aa.1.fW Aa.1.fH Aa.1.fD) fun Ab=>some (Ab,Aa.1.fGram)

def d_impl_isSide (fu:Nat) (n1:Int):Option (Bool) :=
  obind (d_impl_in fu n1 1 2000) fun x2=>some (x2)

def d_impl_PalletOk (fu:Nat) (x1:Pallet):Option (Bool) :=
  obind (d_impl_isSide fu x1.fW) fun x5=>bif x5 then obind (d_impl_isSide fu x1.fD) fun Ab=>bif Ab then obind (d_impl_isSide fu x1.fH) fun Ac=>bif Ac then obind (d_impl_in fu x1.fGram 1 100000) fun Aa=>some (Aa) else some (false) else some (false) else some (false)

def d_slices_IndexFunc_impl_Pair_impl_Pair_L1_B (fu:Nat)  (Ab:List Pair) (f5:Pair → Option Bool) (k1:Int → Option (Int)) (Aa:Int):Option (Int) :=
  bif (decide (Aa < ((Ab.length:Int)))) then obind (ix Ab Aa) fun Ac=>obind (f5 Ac) fun Ad=>bif Ad then some (Aa) else k1 (w64 (Aa + 1)) else some ((-1))
def d_slices_IndexFunc_impl_Pair_impl_Pair_L1 (fu:Nat)  (Aa:List Pair) (f5:Pair → Option Bool):Nat → Int → Option (Int)
  | 0=>fun _=>none
  | n + 1=>d_slices_IndexFunc_impl_Pair_impl_Pair_L1_B fu Aa f5 (d_slices_IndexFunc_impl_Pair_impl_Pair_L1 fu Aa f5 n)

def d_slices_IndexFunc_impl_Pair_impl_Pair (fu:Nat) (Aa:List Pair) (f5:Pair → Option Bool):Option (Int) :=
  d_slices_IndexFunc_impl_Pair_impl_Pair_L1 fu Aa f5 fu 0

def d_slices_ContainsFunc_impl_Pair_impl_Pair (fu:Nat) (Aa:List Pair) (f5:Pair → Option Bool):Option (Bool) :=
  obind (d_slices_IndexFunc_impl_Pair_impl_Pair fu Aa f5) fun Ab=>some (decide (Ab ≥ 0))

def d_impl_BoundsOk_1 (fu:Nat) (p1:Pair):Option (Bool) :=
  obind (d_impl_in fu p1.fA 0 3) fun x5=>bif (!x5) then some (true) else obind (d_impl_in fu p1.fB 0 3) fun Aa=>some (!Aa)

def d_slices_ContainsFunc_impl_Type_impl_Type (fu:Nat) (Aa:List Typ) (f5:Typ → Option Bool):Option (Bool) :=
  obind (d_slices_IndexFunc_impl_Type_impl_Type fu Aa f5) fun Ab=>some (decide (Ab ≥ 0))

def d_impl_TypeOk (fu:Nat) (x1:Typ):Option (Bool) :=
  obind (d_impl_in fu x1.fId 0 999) fun x5=>bif x5 then obind (d_impl_isSide fu x1.fW) fun Ab=>bif Ab then obind (d_impl_isSide fu x1.fH) fun Ad=>bif Ad then obind (d_impl_isSide fu x1.fD) fun Ae=>bif Ae then obind (d_impl_in fu x1.fTare 0 100000) fun Af=>bif Af then obind (d_impl_in fu x1.fGram 1 100000) fun Aa=>bif Aa then obind (d_impl_in fu x1.fCost 0 100000) fun Ac=>some (Ac) else some (false) else some (false) else some (false) else some (false) else some (false) else some (false)

def d_impl_BoundsOk_2 (fu:Nat) (t1:Typ):Option (Bool) :=
  obind (d_impl_TypeOk fu t1) fun x5=>some (!x5)

def d_impl_ItemOk (fu:Nat) (x1:Item):Option (Bool) :=
  obind (d_impl_in fu x1.fId 0 999) fun x5=>bif x5 then obind (d_impl_isSide fu x1.fW) fun Ab=>bif Ab then obind (d_impl_isSide fu x1.fH) fun Ad=>bif Ad then obind (d_impl_isSide fu x1.fD) fun Ae=>bif Ae then obind (d_impl_in fu x1.fGram 1 100000) fun Af=>bif Af then obind (d_impl_in fu x1.fClass 0 3) fun Aa=>bif Aa then obind (d_impl_in fu x1.fCount 1 6) fun Ac=>some (Ac) else some (false) else some (false) else some (false) else some (false) else some (false) else some (false)

def d_impl_BoundsOk_L1_B (fu:Nat)  (r1:Request) (k3:Int → Int → Option (Bool)) (Ac:Int) (Aa:Int):Option (Bool) :=
  bif (decide (Aa < ((r1.fItems.length:Int)))) then obind (ix r1.fItems Aa) fun Ab=>obind (d_impl_ItemOk fu Ab) fun Ad=>bif (!Ad) then some (false) else k3 (w64 (Ac + Ab.fCount)) (w64 (Aa + 1)) else some (decide (Ac ≤ 12))
def d_impl_BoundsOk_L1 (fu:Nat)  (r1:Request):Nat → Int → Int → Option (Bool)
  | 0=>fun _ _=>none
  | n + 1=>d_impl_BoundsOk_L1_B fu r1 (d_impl_BoundsOk_L1 fu r1 n)

def d_impl_BoundsOk_J1 (fu:Nat) (r1:Request)  : Option (Bool) :=
  d_impl_BoundsOk_L1 fu r1 fu 0 0

def d_impl_BoundsOk_J2 (fu:Nat) (r1:Request)  : Option (Bool) :=
  obind (d_slices_ContainsFunc_impl_Pair_impl_Pair fu r1.fPairs (fun Ad=>d_impl_BoundsOk_1 fu Ad)) fun Ae=>bif Ae then some (false) else obind (d_impl_in fu ((r1.fTypes.length:Int)) 1 5) fun Ab=>bif (!Ab) then some (false) else obind (d_slices_ContainsFunc_impl_Type_impl_Type fu r1.fTypes (fun Ac=>d_impl_BoundsOk_2 fu Ac)) fun Aa=>bif Aa then some (false) else obind (d_impl_in fu r1.fMaster 0 999) fun Af=>bif (!Af) then some (false) else bif (decide (((r1.fItems.length:Int)) > 8)) then some (false) else d_impl_BoundsOk_J1 fu r1

def d_impl_BoundsOk (fu:Nat) (r1:Request):Option (Bool) :=
  obind (d_impl_in fu r1.fWay 0 1) fun Ab=>bif (!Ab) then some (false) else obind (d_impl_PalletOk fu r1.fPallet) fun Aa=>bif (!Aa) then some (false) else obind (d_impl_in fu r1.fClasses 1 4) fun Ac=>bif (!Ac) then some (false) else bif (decide (((r1.fPairs.length:Int)) > 16)) then some (false) else d_impl_BoundsOk_J2 fu r1

def d_impl_namesOk_1 (fu:Nat) (q1:Typ) (x2:Typ):Option (Bool) :=
  some (q1.fId == x2.fId)

def d_impl_namesOk_2 (fu:Nat) (q1:Item) (x2:Item):Option (Bool) :=
  some (q1.fId == x2.fId)

def d_slices_IndexFunc_impl_Item_impl_Item_L1_B (fu:Nat)  (Ab:List Item) (f5:Item → Option Bool) (k1:Int → Option (Int)) (Aa:Int):Option (Int) :=
  bif (decide (Aa < ((Ab.length:Int)))) then obind (ix Ab Aa) fun Ac=>obind (f5 Ac) fun Ad=>bif Ad then some (Aa) else k1 (w64 (Aa + 1)) else some ((-1))
def d_slices_IndexFunc_impl_Item_impl_Item_L1 (fu:Nat)  (Aa:List Item) (f5:Item → Option Bool):Nat → Int → Option (Int)
  | 0=>fun _=>none
  | n + 1=>d_slices_IndexFunc_impl_Item_impl_Item_L1_B fu Aa f5 (d_slices_IndexFunc_impl_Item_impl_Item_L1 fu Aa f5 n)

def d_slices_IndexFunc_impl_Item_impl_Item (fu:Nat) (Aa:List Item) (f5:Item → Option Bool):Option (Int) :=
  d_slices_IndexFunc_impl_Item_impl_Item_L1 fu Aa f5 fu 0

def d_slices_ContainsFunc_impl_Item_impl_Item (fu:Nat) (Aa:List Item) (f5:Item → Option Bool):Option (Bool) :=
  obind (d_slices_IndexFunc_impl_Item_impl_Item fu Aa f5) fun Ab=>some (decide (Ab ≥ 0))

def d_impl_namesOk_3 (fu:Nat) (p1:Pair) (x2:Request):Option (Bool) :=
  bif (decide (p1.fA ≥ x2.fClasses)) then some (true) else some (decide (p1.fB ≥ x2.fClasses))

def d_impl_namesOk_J1 (fu:Nat) (k4:Int → Option (Bool)) (Aa:Int)  : Option (Bool) :=
  k4 (w64 (Aa + 1))

def d_impl_namesOk_L1_B (fu:Nat)  (r1:Request) (k4:Int → Option (Bool)) (Aa:Int):Option (Bool) :=
  bif (decide (Aa < ((r1.fItems.length:Int)))) then obind (ix r1.fItems Aa) fun Ab=>bif (decide (Ab.fClass ≥ r1.fClasses)) then some (false) else obind (sls r1.fItems 0 Aa) fun Ae=>obind (d_slices_ContainsFunc_impl_Item_impl_Item fu Ae (fun Ad=>d_impl_namesOk_2 fu Ad Ab)) fun Ac=>bif Ac then some (false) else d_impl_namesOk_J1 fu k4 Aa else obind (d_impl_MasterOf fu r1) fun Af=>bif Af.2 then obind (d_slices_ContainsFunc_impl_Pair_impl_Pair fu r1.fPairs (fun Ag=>d_impl_namesOk_3 fu Ag r1)) fun Ah=>some (!Ah) else some (false)
def d_impl_namesOk_L1 (fu:Nat)  (r1:Request):Nat → Int → Option (Bool)
  | 0=>fun _=>none
  | n + 1=>d_impl_namesOk_L1_B fu r1 (d_impl_namesOk_L1 fu r1 n)

def d_impl_namesOk_L2_B (fu:Nat)  (r1:Request) (k1:Int → Option (Bool)) (Aa:Int):Option (Bool) :=
  bif (decide (Aa < ((r1.fTypes.length:Int)))) then obind (ix r1.fTypes Aa) fun Ae=>obind (sls r1.fTypes 0 Aa) fun Ad=>obind (d_slices_ContainsFunc_impl_Type_impl_Type fu Ad (fun Ac=>d_impl_namesOk_1 fu Ac Ae)) fun Ab=>bif Ab then some (false) else k1 (w64 (Aa + 1)) else d_impl_namesOk_L1 fu r1 fu 0
def d_impl_namesOk_L2 (fu:Nat)  (r1:Request):Nat → Int → Option (Bool)
  | 0=>fun _=>none
  | n + 1=>d_impl_namesOk_L2_B fu r1 (d_impl_namesOk_L2 fu r1 n)

def d_impl_namesOk (fu:Nat) (r1:Request):Option (Bool) :=
  d_impl_namesOk_L2 fu r1 fu 0

def d_slices_Index_impl_Pair_impl_Pair_L1_B (fu:Nat)  (Ab:List Pair) (v5:Pair) (k1:Int → Option (Int)) (Aa:Int):Option (Int) :=
  bif (decide (Aa < ((Ab.length:Int)))) then obind (ix Ab Aa) fun Ac=>bif (decide (v5 = Ac)) then some (Aa) else k1 (w64 (Aa + 1)) else some ((-1))
def d_slices_Index_impl_Pair_impl_Pair_L1 (fu:Nat)  (Aa:List Pair) (v5:Pair):Nat → Int → Option (Int)
  | 0=>fun _=>none
  | n + 1=>d_slices_Index_impl_Pair_impl_Pair_L1_B fu Aa v5 (d_slices_Index_impl_Pair_impl_Pair_L1 fu Aa v5 n)

def d_slices_Index_impl_Pair_impl_Pair (fu:Nat) (Aa:List Pair) (v5:Pair):Option (Int) :=
  d_slices_Index_impl_Pair_impl_Pair_L1 fu Aa v5 fu 0

def d_slices_Contains_impl_Pair_impl_Pair (fu:Nat) (Aa:List Pair) (v5:Pair):Option (Bool) :=
  obind (d_slices_Index_impl_Pair_impl_Pair fu Aa v5) fun Ab=>some (decide (Ab ≥ 0))

def d_impl_Beside (fu:Nat) (Aa:List Pair) (a5:Int) (b6:Int):Option (Bool) :=
  obind (d_slices_Contains_impl_Pair_impl_Pair fu Aa ((⟨a5,b6⟩:Pair))) fun x7=>some (x7)

def d_impl_TableOk_L1_B (fu:Nat) (k3:Int → Option (Bool)) (Ac:List Pair) (Ad:Int) (Ab:Int) (k4:Int → Option (Bool)) (Aa:Int):Option (Bool) :=
  bif (decide (Aa < Ad)) then obind (d_impl_Beside fu Ac Ab Aa) fun Ae=>obind (d_impl_Beside fu Ac Aa Ab) fun Af=>bif (!(Ae == Af)) then some (false) else k4 (w64 (Aa + 1)) else k3 (w64 (Ab + 1))
def d_impl_TableOk_L1 (fu:Nat) (k3:Int → Option (Bool)) (Ab:List Pair) (Ac:Int) (Aa:Int):Nat → Int → Option (Bool)
  | 0=>fun _=>none
  | n + 1=>d_impl_TableOk_L1_B fu k3 Ab Ac Aa (d_impl_TableOk_L1 fu k3 Ab Ac Aa n)

def d_impl_TableOk_L2_B (fu:Nat)  (Ab:List Pair) (Ac:Int) (k3:Int → Option (Bool)) (Aa:Int):Option (Bool) :=
  bif (decide (Aa < Ac)) then obind (d_impl_Beside fu Ab Aa Aa) fun Ad=>bif (!Ad) then some (false) else d_impl_TableOk_L1 fu k3 Ab Ac Aa fu 0 else some (true)
def d_impl_TableOk_L2 (fu:Nat)  (Aa:List Pair) (Ab:Int):Nat → Int → Option (Bool)
  | 0=>fun _=>none
  | n + 1=>d_impl_TableOk_L2_B fu Aa Ab (d_impl_TableOk_L2 fu Aa Ab n)

def d_impl_TableOk (fu:Nat) (Ab:List Pair) (Aa:Int):Option (Bool) :=
  obind (d_impl_in fu Aa 1 4) fun x6=>bif (!x6) then some (false) else d_impl_TableOk_L2 fu Ab Aa fu 0

def d_slices_Sort_int_int (fu:Nat) (x1:List Int):Option (List Int):=sortI x1

def d_impl_Fits_J1 (fu:Nat) (x1:Item) (t2:Typ) (Ah:List Int) (Ae:List Int):Option (Bool) :=
  obind (d_slices_Sort_int_int fu Ah) fun Ab=>obind (d_slices_Sort_int_int fu Ae) fun Aa=>obind (ix Ab 0) fun Aj=>obind (ix Aa 0) fun Ag=>bif (decide (Aj ≤ Ag)) then obind (ix Ab 1) fun Ac=>obind (ix Aa 1) fun Af=>bif (decide (Ac ≤ Af)) then obind (ix Ab 2) fun Ai=>obind (ix Aa 2) fun Ad=>bif (decide (Ai ≤ Ad)) then some (decide (x1.fGram ≤ t2.fGram)) else some (false) else some (false) else some (false)

def d_impl_Fits (fu:Nat) (x1:Item) (t2:Typ):Option (Bool) :=
  d_impl_Fits_J1 fu x1 t2 (([x1.fW,x1.fH,x1.fD]:List Int)) (([t2.fW,t2.fH,t2.fD]:List Int))

def d_impl_Class_1 (fu:Nat) (x1:Item) (x2:Typ):Option (Bool) :=
  obind (d_impl_Fits fu x1 x2) fun x8=>some (!x8)

def d_impl_Class_2 (fu:Nat) (t1:Typ) (x2:Pallet):Option (Bool) :=
  bif (decide (t1.fW > x2.fW)) then some (true) else bif (decide (t1.fD > x2.fD)) then some (true) else bif (decide (t1.fH > x2.fH)) then some (true) else some (decide ((w64 (t1.fTare + t1.fGram)) > x2.fGram))

def d_impl_Class (fu:Nat) (r1:Request):Option (Int) :=
  obind (d_impl_MasterOf fu r1) fun Ae=>obind (d_impl_BoundsOk fu r1) fun Aa=>bif (!Aa) then some (2) else obind (d_impl_namesOk fu r1) fun Ab=>bif (!Ab) then some (3) else obind (d_impl_TableOk fu r1.fPairs r1.fClasses) fun Ag=>bif (!Ag) then some (4) else obind (d_slices_ContainsFunc_impl_Item_impl_Item fu r1.fItems (fun Ad=>d_impl_Class_1 fu Ad Ae.1)) fun Ac=>bif Ac then some (5) else obind (d_slices_ContainsFunc_impl_Type_impl_Type fu r1.fTypes (fun Ah=>d_impl_Class_2 fu Ah r1.fPallet)) fun Af=>bif Af then some (6) else some (0)

def d_impl_sound (fu:Nat) (r1:Request):Option (Bool) :=
  obind (d_impl_Class fu r1) fun Aa=>some (Aa == 0)

def d_slices_Clone_int_int (fu:Nat) (Aa:List Int):Option ((List Int)) :=
  obind (apnd 8 (([]:List Int)) Aa) fun Ab=>some (Ab)

def d_slices_Compact_int_int (fu:Nat) (x1:List Int):Option (List Int):=cmpI x1

def d_impl_kinds (fu:Nat) (Aa:List Int):Option ((List Int)) :=
  obind (d_slices_Clone_int_int fu Aa) fun x5=>obind (d_slices_Sort_int_int fu x5) fun Ac=>obind (d_slices_Compact_int_int fu Ac) fun Ab=>some (Ab)

def d_impl_Present_L1_B (fu:Nat)  (r1:Request) (k1:List Int → Int → Option ((List Int))) (Ab:List Int) (Aa:Int):Option ((List Int)) :=
  bif (decide (Aa < ((r1.fItems.length:Int)))) then obind (ix r1.fItems Aa) fun Ad=>obind (apnd 8 Ab (([Ad.fClass]:List Int))) fun Ae=>k1 Ae (w64 (Aa + 1)) else obind (d_impl_kinds fu Ab) fun Ac=>some (Ac)
def d_impl_Present_L1 (fu:Nat)  (r1:Request):Nat → List Int → Int → Option ((List Int))
  | 0=>fun _ _=>none
  | n + 1=>d_impl_Present_L1_B fu r1 (d_impl_Present_L1 fu r1 n)

def d_impl_Present (fu:Nat) (r1:Request):Option ((List Int)) :=
  obind (d_impl_sound fu r1) fun Aa=>bif (!Aa) then some (([]:List Int)) else d_impl_Present_L1 fu r1 fu (([]:List Int)) 0

def d_impl_mutual (fu:Nat) (Aa:List Pair) (a5:Int) (b6:Int):Option (Bool) :=
  obind (d_impl_Beside fu Aa a5 b6) fun x7=>bif x7 then obind (d_impl_Beside fu Aa b6 a5) fun Ab=>some (Ab) else some (false)

def d_impl_Groups_1_1 (fu:Nat) (x1:Int) (x2:List Pair) (x8:Int):Option (Bool) :=
  obind (d_impl_mutual fu x2 x8 x1) fun Aa=>some (!Aa)

def d_slices_IndexFunc_int_int_L1_B (fu:Nat)  (Ab:List Int) (f5:Int → Option Bool) (k1:Int → Option (Int)) (Aa:Int):Option (Int) :=
  bif (decide (Aa < ((Ab.length:Int)))) then obind (ix Ab Aa) fun Ac=>obind (f5 Ac) fun Ad=>bif Ad then some (Aa) else k1 (w64 (Aa + 1)) else some ((-1))
def d_slices_IndexFunc_int_int_L1 (fu:Nat)  (Aa:List Int) (f5:Int → Option Bool):Nat → Int → Option (Int)
  | 0=>fun _=>none
  | n + 1=>d_slices_IndexFunc_int_int_L1_B fu Aa f5 (d_slices_IndexFunc_int_int_L1 fu Aa f5 n)

def d_slices_IndexFunc_int_int (fu:Nat) (Aa:List Int) (f5:Int → Option Bool):Option (Int) :=
  d_slices_IndexFunc_int_int_L1 fu Aa f5 fu 0

def d_slices_ContainsFunc_int_int (fu:Nat) (Aa:List Int) (f5:Int → Option Bool):Option (Bool) :=
  obind (d_slices_IndexFunc_int_int fu Aa f5) fun Ab=>some (decide (Ab ≥ 0))

def d_impl_Groups_1 (fu:Nat) (l1:List Int) (x5:List Pair) (Ab:Int):Option (Bool) :=
  obind (d_slices_ContainsFunc_int_int fu l1 (fun Ac=>d_impl_Groups_1_1 fu Ac x5 Ab)) fun Aa=>some (!Aa)

def d_slices_IndexFunc_ints_int_L1_B (fu:Nat)  (Ab:List (List Int)) (f5:(List Int) → Option Bool) (k1:Int → Option (Int)) (Aa:Int):Option (Int) :=
  bif (decide (Aa < ((Ab.length:Int)))) then obind (ix Ab Aa) fun Ac=>obind (f5 Ac) fun Ad=>bif Ad then some (Aa) else k1 (w64 (Aa + 1)) else some ((-1))
def d_slices_IndexFunc_ints_int_L1 (fu:Nat)  (Aa:List (List Int)) (f5:(List Int) → Option Bool):Nat → Int → Option (Int)
  | 0=>fun _=>none
  | n + 1=>d_slices_IndexFunc_ints_int_L1_B fu Aa f5 (d_slices_IndexFunc_ints_int_L1 fu Aa f5 n)

def d_slices_IndexFunc_ints_int (fu:Nat) (Aa:List (List Int)) (f5:(List Int) → Option Bool):Option (Int) :=
  d_slices_IndexFunc_ints_int_L1 fu Aa f5 fu 0

def d_impl_Groups_J1 (fu:Nat) (k3:List (List Int) → Int → Option ((List (List Int)))) (Ab:Int) (Aa:List (List Int)):Option ((List (List Int))) :=
  k3 Aa (w64 (Ab + 1))

def d_impl_Groups_L1_B (fu:Nat)  (Ah:List Pair) (Ae:(List Int)) (k3:List (List Int) → Int → Option ((List (List Int)))) (Aa:List (List Int)) (Ab:Int):Option ((List (List Int))) :=
  bif (decide (Ab < ((Ae.length:Int)))) then obind (ix Ae Ab) fun Ac=>obind (d_impl_in fu Ac 0 3) fun Aj=>bif (!Aj) then d_impl_Groups_J1 fu k3 Ab Aa else obind (d_slices_IndexFunc_ints_int fu Aa (fun Ak=>d_impl_Groups_1 fu Ak Ah Ac)) fun Ad=>bif (decide (Ad < 0)) then obind (apnd 24 Aa [([Ac]:List Int)]) fun Ag=>d_impl_Groups_J1 fu k3 Ab Ag else obind (ix Aa Ad) fun Ai=>obind (apnd 8 Ai (([Ac]:List Int))) fun Af=>obind (ix Aa Ad) fun Al=>d_impl_Groups_J1 fu k3 Ab (setx Aa Ad Af) else some (Aa)
def d_impl_Groups_L1 (fu:Nat)  (Aa:List Pair) (Ab:(List Int)):Nat → List (List Int) → Int → Option ((List (List Int)))
  | 0=>fun _ _=>none
  | n + 1=>d_impl_Groups_L1_B fu Aa Ab (d_impl_Groups_L1 fu Aa Ab n)

def d_impl_Groups (fu:Nat) (Ab:List Pair) (Aa:List Int):Option ((List (List Int))) :=
  obind (d_impl_kinds fu Aa) fun Ac=>d_impl_Groups_L1 fu Ab Ac fu (([]:List (List Int))) 0

def d_impl_GroupsOf (fu:Nat) (r1:Request):Option ((List (List Int))) :=
  obind (d_impl_sound fu r1) fun Ac=>bif (!Ac) then some (([]:List (List Int))) else obind (d_impl_Present fu r1) fun Ab=>obind (d_impl_Groups fu r1.fPairs Ab) fun Aa=>some (Aa)

def d_impl_hasGroup (fu:Nat) (r1:Request) (Aa:Int):Option (Bool) :=
  obind (d_impl_GroupsOf fu r1) fun Ab=>obind (d_impl_in fu Aa 0 (w64 (((Ab.length:Int)) - 1))) fun Ac=>some (Ac)

def d_bits_Mul64 (fu:Nat) (x1:Int) (y2:Int):Option (Int × Int) :=
  some (IntKind.wrap .u64 ((IntKind.wrap .u64 ((IntKind.wrap .u64 ((Int.fdiv x1 (2 ^ (min 32 (IntKind.bits .u64)))) * (Int.fdiv y2 (2 ^ (min 32 (IntKind.bits .u64)))))) + (Int.fdiv (IntKind.wrap .u64 ((IntKind.wrap .u64 ((Int.fdiv x1 (2 ^ (min 32 (IntKind.bits .u64)))) * (IntKind.wrap .u64 (((BitVec.ofInt (IntKind.bits .u64) y2 &&& BitVec.ofInt (IntKind.bits .u64) 4294967295).toNat:Nat):Int)))) + (Int.fdiv (IntKind.wrap .u64 ((IntKind.wrap .u64 (((BitVec.ofInt (IntKind.bits .u64) x1 &&& BitVec.ofInt (IntKind.bits .u64) 4294967295).toNat:Nat):Int)) * (IntKind.wrap .u64 (((BitVec.ofInt (IntKind.bits .u64) y2 &&& BitVec.ofInt (IntKind.bits .u64) 4294967295).toNat:Nat):Int)))) (2 ^ (min 32 (IntKind.bits .u64)))))) (2 ^ (min 32 (IntKind.bits .u64)))))) + (Int.fdiv (IntKind.wrap .u64 ((IntKind.wrap .u64 (((BitVec.ofInt (IntKind.bits .u64) (IntKind.wrap .u64 ((IntKind.wrap .u64 ((Int.fdiv x1 (2 ^ (min 32 (IntKind.bits .u64)))) * (IntKind.wrap .u64 (((BitVec.ofInt (IntKind.bits .u64) y2 &&& BitVec.ofInt (IntKind.bits .u64) 4294967295).toNat:Nat):Int)))) + (Int.fdiv (IntKind.wrap .u64 ((IntKind.wrap .u64 (((BitVec.ofInt (IntKind.bits .u64) x1 &&& BitVec.ofInt (IntKind.bits .u64) 4294967295).toNat:Nat):Int)) * (IntKind.wrap .u64 (((BitVec.ofInt (IntKind.bits .u64) y2 &&& BitVec.ofInt (IntKind.bits .u64) 4294967295).toNat:Nat):Int)))) (2 ^ (min 32 (IntKind.bits .u64)))))) &&& BitVec.ofInt (IntKind.bits .u64) 4294967295).toNat:Nat):Int)) + (IntKind.wrap .u64 ((IntKind.wrap .u64 (((BitVec.ofInt (IntKind.bits .u64) x1 &&& BitVec.ofInt (IntKind.bits .u64) 4294967295).toNat:Nat):Int)) * (Int.fdiv y2 (2 ^ (min 32 (IntKind.bits .u64)))))))) (2 ^ (min 32 (IntKind.bits .u64))))),IntKind.wrap .u64 (x1 * y2))

def d_bits_Mul (fu:Nat) (x1:Int) (y2:Int):Option (Int × Int) :=
  obind (d_bits_Mul64 fu x1 y2) fun x3=>some (x3.1,x3.2)

def d_slices_Repeat_int_int_L1_B (fu:Nat)   (k3:List Int → Int → Option ((List Int))) (Aa:List Int) (Ab:Int):Option ((List Int)) :=
  bif (decide (Ab < ((Aa.length:Int)))) then obind (sls Aa Ab (Aa.length:Int)) fun Ad=>obind (sls Aa 0 Ab) fun Ac=>k3 (cpd Aa Ab Ac) (w64 (Ab + (cpn Aa Ab Ac))) else some (Aa)
def d_slices_Repeat_int_int_L1 (fu:Nat)   : Nat → List Int → Int → Option ((List Int))
  | 0=>fun _ _=>none
  | n + 1=>d_slices_Repeat_int_int_L1_B fu  (d_slices_Repeat_int_int_L1 fu  n)

def d_slices_Repeat_int_int_J1 (fu:Nat) (x1:List Int) (x8:Int × Int)  : Option ((List Int)) :=
  obind (mk 8 (0:Int) (w64 x8.2)) fun Aa=>d_slices_Repeat_int_int_L1 fu fu (cpd Aa 0 x1) (cpn Aa 0 x1)

def d_slices_Repeat_int_int_J2 (fu:Nat) (x1:List Int) (Aa:Int)  : Option ((List Int)) :=
  obind (d_bits_Mul fu (IntKind.wrap .u64 ((x1.length:Int))) (IntKind.wrap .u64 Aa)) fun x8=>bif (decide (x8.1 > 0)) then none else bif (decide (x8.2 > 9223372036854775807)) then none else d_slices_Repeat_int_int_J1 fu x1 x8

def d_slices_Repeat_int_int (fu:Nat) (x1:List Int) (Aa:Int):Option ((List Int)) :=
  bif (decide (Aa < 0)) then none else d_slices_Repeat_int_int_J2 fu x1 Aa

def d_impl_Units_L1_B (fu:Nat)  (r1:Request) (k1:List Int → Int → Option ((List Int))) (Ab:List Int) (Aa:Int):Option ((List Int)) :=
  bif (decide (Aa < ((r1.fItems.length:Int)))) then obind (ix r1.fItems Aa) fun Ac=>obind (d_slices_Repeat_int_int fu (([Aa]:List Int)) Ac.fCount) fun Ae=>obind (apnd 8 Ab Ae) fun Ad=>k1 Ad (w64 (Aa + 1)) else some (Ab)
def d_impl_Units_L1 (fu:Nat)  (r1:Request):Nat → List Int → Int → Option ((List Int))
  | 0=>fun _ _=>none
  | n + 1=>d_impl_Units_L1_B fu r1 (d_impl_Units_L1 fu r1 n)

def d_impl_Units (fu:Nat) (r1:Request):Option ((List Int)) :=
  obind (d_impl_sound fu r1) fun Aa=>bif (!Aa) then some (([]:List Int)) else d_impl_Units_L1 fu r1 fu (([]:List Int)) 0

def d_slices_Index_int_int_L1_B (fu:Nat)  (Ab:List Int) (v5:Int) (k1:Int → Option (Int)) (Aa:Int):Option (Int) :=
  bif (decide (Aa < ((Ab.length:Int)))) then obind (ix Ab Aa) fun Ac=>bif (v5 == Ac) then some (Aa) else k1 (w64 (Aa + 1)) else some ((-1))
def d_slices_Index_int_int_L1 (fu:Nat)  (Aa:List Int) (v5:Int):Nat → Int → Option (Int)
  | 0=>fun _=>none
  | n + 1=>d_slices_Index_int_int_L1_B fu Aa v5 (d_slices_Index_int_int_L1 fu Aa v5 n)

def d_slices_Index_int_int (fu:Nat) (Aa:List Int) (v5:Int):Option (Int) :=
  d_slices_Index_int_int_L1 fu Aa v5 fu 0

def d_slices_Contains_int_int (fu:Nat) (Aa:List Int) (v5:Int):Option (Bool) :=
  obind (d_slices_Index_int_int fu Aa v5) fun x6=>some (decide (x6 ≥ 0))

def d_impl_UnitsOf_J1 (fu:Nat) (k3:List Int → Int → Option ((List Int))) (Aa:Int) (Ab:List Int):Option ((List Int)) :=
  k3 Ab (w64 (Aa + 1))

def d_impl_UnitsOf_L1_B (fu:Nat)  (r1:Request) (Ae:Int) (Ai:(List (List Int))) (Ac:(List Int)) (k3:List Int → Int → Option ((List Int))) (Ab:List Int) (Aa:Int):Option ((List Int)) :=
  bif (decide (Aa < ((Ac.length:Int)))) then obind (ix Ac Aa) fun Ag=>obind (ix Ai Ae) fun Ad=>obind (ix r1.fItems Ag) fun Aj=>obind (d_slices_Contains_int_int fu Ad Aj.fClass) fun Af=>bif Af then obind (apnd 8 Ab (([Aa]:List Int))) fun Ah=>d_impl_UnitsOf_J1 fu k3 Aa Ah else d_impl_UnitsOf_J1 fu k3 Aa Ab else some (Ab)
def d_impl_UnitsOf_L1 (fu:Nat)  (r1:Request) (Aa:Int) (Ab:(List (List Int))) (Ac:(List Int)):Nat → List Int → Int → Option ((List Int))
  | 0=>fun _ _=>none
  | n + 1=>d_impl_UnitsOf_L1_B fu r1 Aa Ab Ac (d_impl_UnitsOf_L1 fu r1 Aa Ab Ac n)

def d_impl_UnitsOf (fu:Nat) (r1:Request) (Aa:Int):Option ((List Int)) :=
  obind (d_impl_GroupsOf fu r1) fun Ab=>obind (d_impl_in fu Aa 0 (w64 (((Ab.length:Int)) - 1))) fun Ac=>bif (!Ac) then some (([]:List Int)) else obind (d_impl_Units fu r1) fun Ad=>d_impl_UnitsOf_L1 fu r1 Aa Ab Ad fu (([]:List Int)) 0

def d_impl_itemsOf_J1 (fu:Nat) (k3:List Item → Int → Option ((List Item))) (Aa:Int) (Ab:List Item):Option ((List Item)) :=
  k3 Ab (w64 (Aa + 1))

def d_impl_itemsOf_L1_B (fu:Nat)  (r1:Request) (Ac:List Int) (Ad:(List Int)) (k3:List Item → Int → Option ((List Item))) (Ab:List Item) (Aa:Int):Option ((List Item)) :=
  bif (decide (Aa < ((Ac.length:Int)))) then obind (ix Ac Aa) fun Ae=>obind (d_impl_in fu Ae 0 (w64 (((Ad.length:Int)) - 1))) fun Ai=>bif Ai then obind (ix Ad Ae) fun Af=>obind (ix r1.fItems Af) fun Ag=>obind (apnd 56 Ab (([Ag]:List Item))) fun Ah=>d_impl_itemsOf_J1 fu k3 Aa Ah else d_impl_itemsOf_J1 fu k3 Aa Ab else some (Ab)
def d_impl_itemsOf_L1 (fu:Nat)  (r1:Request) (Ab:List Int) (Aa:(List Int)):Nat → List Item → Int → Option ((List Item))
  | 0=>fun _ _=>none
  | n + 1=>d_impl_itemsOf_L1_B fu r1 Ab Aa (d_impl_itemsOf_L1 fu r1 Ab Aa n)

def d_impl_itemsOf (fu:Nat) (r1:Request) (Ab:List Int):Option ((List Item)) :=
  obind (d_impl_Units fu r1) fun Aa=>d_impl_itemsOf_L1 fu r1 Ab Aa fu (([]:List Item)) 0

def d_impl_GramOf_L1_B (fu:Nat)  (Ab:(List Item)) (k1:Int → Int → Option (Int)) (Ac:Int) (Aa:Int):Option (Int) :=
  bif (decide (Aa < ((Ab.length:Int)))) then obind (ix Ab Aa) fun Ad=>k1 (w64 (Ac + Ad.fGram)) (w64 (Aa + 1)) else some (Ac)
def d_impl_GramOf_L1 (fu:Nat)  (Aa:(List Item)):Nat → Int → Int → Option (Int)
  | 0=>fun _ _=>none
  | n + 1=>d_impl_GramOf_L1_B fu Aa (d_impl_GramOf_L1 fu Aa n)

def d_impl_GramOf (fu:Nat) (r1:Request) (Ab:List Int):Option (Int) :=
  obind (d_impl_itemsOf fu r1 Ab) fun Aa=>d_impl_GramOf_L1 fu Aa fu 0 0

def d_impl_SlackGram (fu:Nat) (r1:Request) (Aa:Int):Option (Bool) :=
  obind (d_impl_masterRoom fu r1) fun Ac=>obind (d_impl_hasGroup fu r1 Aa) fun Ad=>bif Ad then obind (d_impl_UnitsOf fu r1 Aa) fun Ab=>obind (d_impl_GramOf fu r1 Ab) fun Ae=>some (decide (Ae ≤ Ac.2)) else some (false)

def d_impl_VolumeOf_L1_B (fu:Nat)  (Ad:(List Item)) (k1:Int → Int → Option (Int)) (Ac:Int) (Aa:Int):Option (Int) :=
  bif (decide (Aa < ((Ad.length:Int)))) then obind (ix Ad Aa) fun Ab=>obind (d_impl_Volume fu Ab.fW Ab.fH Ab.fD) fun Ae=>k1 (w64 (Ac + Ae)) (w64 (Aa + 1)) else some (Ac)
def d_impl_VolumeOf_L1 (fu:Nat)  (Aa:(List Item)):Nat → Int → Int → Option (Int)
  | 0=>fun _ _=>none
  | n + 1=>d_impl_VolumeOf_L1_B fu Aa (d_impl_VolumeOf_L1 fu Aa n)

def d_impl_VolumeOf (fu:Nat) (r1:Request) (Ab:List Int):Option (Int) :=
  obind (d_impl_itemsOf fu r1 Ab) fun Aa=>d_impl_VolumeOf_L1 fu Aa fu 0 0

def d_impl_SlackVolume (fu:Nat) (r1:Request) (Aa:Int):Option (Bool) :=
  obind (d_impl_masterRoom fu r1) fun Ac=>obind (d_impl_hasGroup fu r1 Aa) fun Ad=>bif Ad then obind (d_impl_UnitsOf fu r1 Aa) fun Ab=>obind (d_impl_VolumeOf fu r1 Ab) fun Ae=>some (decide (Ae ≤ Ac.1)) else some (false)

def d_spec_Present_J1 (fu:Nat) (Ac:List Int → Int → Option ((List Int))) (Ab:Int) (Aa:List Int):Option ((List Int)) :=
  Ac Aa (w64 (Ab + 1))

def d_spec_Present_J2 (fu:Nat) (Ab:Bool → Int → Option ((List Int))) (Ac:Int) (Aa:Bool):Option ((List Int)) :=
  Ab Aa (w64 (Ac + 1))

def d_spec_Present_L1_B (fu:Nat) (Ae:List Int → Int → Option ((List Int))) (r1:Request) (Ac:List Int) (Aa:Int) (Af:Bool → Int → Option ((List Int))) (Ad:Bool) (Ab:Int):Option ((List Int)) :=
  bif (decide (Ab < ((r1.fItems.length:Int)))) then bif Ad then d_spec_Present_J2 fu Af Ab true else obind (ix r1.fItems Ab) fun Ag=>d_spec_Present_J2 fu Af Ab (Ag.fClass == Aa) else bif Ad then obind (apnd 8 Ac (([Aa]:List Int))) fun Ah=>d_spec_Present_J1 fu Ae Aa Ah else d_spec_Present_J1 fu Ae Aa Ac
def d_spec_Present_L1 (fu:Nat) (Ac:List Int → Int → Option ((List Int))) (r1:Request) (Ab:List Int) (Aa:Int):Nat → Bool → Int → Option ((List Int))
  | 0=>fun _ _=>none
  | n + 1=>d_spec_Present_L1_B fu Ac r1 Ab Aa (d_spec_Present_L1 fu Ac r1 Ab Aa n)

def d_spec_Present_L2_B (fu:Nat)  (r1:Request) (Ac:List Int → Int → Option ((List Int))) (Ab:List Int) (Aa:Int):Option ((List Int)) :=
  bif (decide (Aa < 4)) then d_spec_Present_L1 fu Ac r1 Ab Aa fu false 0 else some (Ab)
def d_spec_Present_L2 (fu:Nat)  (r1:Request):Nat → List Int → Int → Option ((List Int))
  | 0=>fun _ _=>none
  | n + 1=>d_spec_Present_L2_B fu r1 (d_spec_Present_L2 fu r1 n)

def d_spec_Present (fu:Nat) (r1:Request):Option ((List Int)) :=
  obind (d_spec_Class fu r1) fun Aa=>bif (Aa != 0) then some (([]:List Int)) else d_spec_Present_L2 fu r1 fu (([]:List Int)) 0

def d_spec_l1Has_L1_B (fu:Nat)  (Ab:List Int) (x5:Int) (k1:Int → Option (Bool)) (Aa:Int):Option (Bool) :=
  bif (decide (Aa < ((Ab.length:Int)))) then obind (ix Ab Aa) fun Ac=>bif (Ac == x5) then some (true) else k1 (w64 (Aa + 1)) else some (false)
def d_spec_l1Has_L1 (fu:Nat)  (Aa:List Int) (x5:Int):Nat → Int → Option (Bool)
  | 0=>fun _=>none
  | n + 1=>d_spec_l1Has_L1_B fu Aa x5 (d_spec_l1Has_L1 fu Aa x5 n)

def d_spec_l1Has (fu:Nat) (Aa:List Int) (x5:Int):Option (Bool) :=
  d_spec_l1Has_L1 fu Aa x5 fu 0

def d_spec_l3Joins_J1 (fu:Nat) (k3:Int → Option (Bool)) (Aa:Int)  : Option (Bool) :=
  k3 (w64 (Aa + 1))

def d_spec_l3Joins_L1_B (fu:Nat)  (Ae:List Pair) (Ab:List Int) (Ac:Int) (k3:Int → Option (Bool)) (Aa:Int):Option (Bool) :=
  bif (decide (Aa < ((Ab.length:Int)))) then obind (ix Ab Aa) fun Ad=>obind (d_spec_Beside fu Ae Ad Ac) fun Ag=>bif (!Ag) then some (false) else obind (ix Ab Aa) fun Ah=>obind (d_spec_Beside fu Ae Ac Ad) fun Af=>bif (!Af) then some (false) else d_spec_l3Joins_J1 fu k3 Aa else some (true)
def d_spec_l3Joins_L1 (fu:Nat)  (Ab:List Pair) (Aa:List Int) (Ac:Int):Nat → Int → Option (Bool)
  | 0=>fun _=>none
  | n + 1=>d_spec_l3Joins_L1_B fu Ab Aa Ac (d_spec_l3Joins_L1 fu Ab Aa Ac n)

def d_spec_l3Joins (fu:Nat) (Ab:List Pair) (Aa:List Int) (Ac:Int):Option (Bool) :=
  d_spec_l3Joins_L1 fu Ab Aa Ac fu 0

def d_spec_Groups_J1 (fu:Nat) (Ab:List (List Int) → Int → Option ((List (List Int)))) (Aa:Int) (Ac:List (List Int)):Option ((List (List Int))) :=
  Ab Ac (w64 (Aa + 1))

def d_spec_Groups_J2 (fu:Nat) (Ac:Int → Int → Option ((List (List Int)))) (Aa:Int) (Ab:Int):Option ((List (List Int))) :=
  Ac Ab (w64 (Aa - 1))

def d_spec_Groups_L1_B (fu:Nat) (Ae:List (List Int) → Int → Option ((List (List Int)))) (Al:List Pair) (Ad:List (List Int)) (Ac:Int) (Af:Int → Int → Option ((List (List Int)))) (Aa:Int) (Ab:Int):Option ((List (List Int))) :=
  bif (decide (Ab ≥ 0)) then obind (ix Ad Ab) fun Ai=>obind (d_spec_l3Joins fu Al Ai Ac) fun Ak=>bif Ak then d_spec_Groups_J2 fu Af Ab Ab else d_spec_Groups_J2 fu Af Ab Aa else bif (decide (Aa < 0)) then obind (apnd 24 Ad [([Ac]:List Int)]) fun Ah=>d_spec_Groups_J1 fu Ae Ac Ah else obind (ix Ad Aa) fun Aj=>obind (apnd 8 Aj (([Ac]:List Int))) fun Ag=>obind (ix Ad Aa) fun Am=>d_spec_Groups_J1 fu Ae Ac (setx Ad Aa Ag)
def d_spec_Groups_L1 (fu:Nat) (Ad:List (List Int) → Int → Option ((List (List Int)))) (Ab:List Pair) (Ac:List (List Int)) (Aa:Int):Nat → Int → Int → Option ((List (List Int)))
  | 0=>fun _ _=>none
  | n + 1=>d_spec_Groups_L1_B fu Ad Ab Ac Aa (d_spec_Groups_L1 fu Ad Ab Ac Aa n)

def d_spec_Groups_L2_B (fu:Nat)  (Af:List Pair) (Ad:List Int) (Ac:List (List Int) → Int → Option ((List (List Int)))) (Ab:List (List Int)) (Aa:Int):Option ((List (List Int))) :=
  bif (decide (Aa < 4)) then obind (d_spec_l1Has fu Ad Aa) fun Ae=>bif (!Ae) then d_spec_Groups_J1 fu Ac Aa Ab else d_spec_Groups_L1 fu Ac Af Ab Aa fu ((-1)) (w64 (((Ab.length:Int)) - 1)) else some (Ab)
def d_spec_Groups_L2 (fu:Nat)  (Ab:List Pair) (Aa:List Int):Nat → List (List Int) → Int → Option ((List (List Int)))
  | 0=>fun _ _=>none
  | n + 1=>d_spec_Groups_L2_B fu Ab Aa (d_spec_Groups_L2 fu Ab Aa n)

def d_spec_Groups (fu:Nat) (Ab:List Pair) (Aa:List Int):Option ((List (List Int))) :=
  d_spec_Groups_L2 fu Ab Aa fu (([]:List (List Int))) 0

def d_spec_GroupsOf (fu:Nat) (r1:Request):Option ((List (List Int))) :=
  obind (d_spec_Present fu r1) fun Aa=>obind (d_spec_Groups fu r1.fPairs Aa) fun Ab=>some (Ab)

def d_spec_l17Group (fu:Nat) (r1:Request) (Aa:Int):Option (Bool) :=
  obind (d_spec_GroupsOf fu r1) fun Ab=>obind (d_spec_l1In fu Aa 0 (w64 (((Ab.length:Int)) - 1))) fun Ac=>some (Ac)

def d_spec_l6Units_L1_B (fu:Nat) (k3:List Int → Int → Option ((List Int))) (r1:Request) (Aa:Int) (k4:List Int → Int → Option ((List Int))) (Ab:List Int) (Ac:Int):Option ((List Int)) :=
  obind (ix r1.fItems Aa) fun Ad=>bif (decide (Ac < Ad.fCount)) then obind (apnd 8 Ab (([Aa]:List Int))) fun Ae=>k4 Ae (w64 (Ac + 1)) else k3 Ab (w64 (Aa + 1))
def d_spec_l6Units_L1 (fu:Nat) (k3:List Int → Int → Option ((List Int))) (r1:Request) (Aa:Int):Nat → List Int → Int → Option ((List Int))
  | 0=>fun _ _=>none
  | n + 1=>d_spec_l6Units_L1_B fu k3 r1 Aa (d_spec_l6Units_L1 fu k3 r1 Aa n)

def d_spec_l6Units_L2_B (fu:Nat)  (r1:Request) (k3:List Int → Int → Option ((List Int))) (Aa:List Int) (Ab:Int):Option ((List Int)) :=
  bif (decide (Ab < ((r1.fItems.length:Int)))) then d_spec_l6Units_L1 fu k3 r1 Ab fu Aa 0 else some (Aa)
def d_spec_l6Units_L2 (fu:Nat)  (r1:Request):Nat → List Int → Int → Option ((List Int))
  | 0=>fun _ _=>none
  | n + 1=>d_spec_l6Units_L2_B fu r1 (d_spec_l6Units_L2 fu r1 n)

def d_spec_l6Units (fu:Nat) (r1:Request):Option ((List Int)) :=
  d_spec_l6Units_L2 fu r1 fu (([]:List Int)) 0

def d_spec_UnitsOf_J1 (fu:Nat) (k3:List Int → Int → Option ((List Int))) (Aa:Int) (Ab:List Int):Option ((List Int)) :=
  k3 Ab (w64 (Aa + 1))

def d_spec_UnitsOf_L1_B (fu:Nat)  (r1:Request) (Ad:Int) (Ai:(List (List Int))) (Ac:(List Int)) (k3:List Int → Int → Option ((List Int))) (Ab:List Int) (Aa:Int):Option ((List Int)) :=
  bif (decide (Aa < ((Ac.length:Int)))) then obind (ix Ai Ad) fun Ah=>obind (ix Ac Aa) fun Ag=>obind (ix r1.fItems Ag) fun Aj=>obind (d_spec_l1Has fu Ah Aj.fClass) fun Ae=>bif Ae then obind (apnd 8 Ab (([Aa]:List Int))) fun Af=>d_spec_UnitsOf_J1 fu k3 Aa Af else d_spec_UnitsOf_J1 fu k3 Aa Ab else some (Ab)
def d_spec_UnitsOf_L1 (fu:Nat)  (r1:Request) (Aa:Int) (Ac:(List (List Int))) (Ab:(List Int)):Nat → List Int → Int → Option ((List Int))
  | 0=>fun _ _=>none
  | n + 1=>d_spec_UnitsOf_L1_B fu r1 Aa Ac Ab (d_spec_UnitsOf_L1 fu r1 Aa Ac Ab n)

def d_spec_UnitsOf (fu:Nat) (r1:Request) (Aa:Int):Option ((List Int)) :=
  obind (d_spec_GroupsOf fu r1) fun Ab=>obind (d_spec_l1In fu Aa 0 (w64 (((Ab.length:Int)) - 1))) fun Ad=>bif (!Ad) then some (([]:List Int)) else obind (d_spec_l6Units fu r1) fun Ac=>d_spec_UnitsOf_L1 fu r1 Aa Ab Ac fu (([]:List Int)) 0

def d_spec_Units (fu:Nat) (r1:Request):Option ((List Int)) :=
  obind (d_spec_Class fu r1) fun Ab=>bif (Ab != 0) then some (([]:List Int)) else obind (d_spec_l6Units fu r1) fun Aa=>some (Aa)

def d_spec_l6Item (fu:Nat) (r1:Request) (Aa:List Int) (u9:Int):Option (Item × Bool) :=
  obind (d_spec_l1In fu u9 0 (w64 (((Aa.length:Int)) - 1))) fun Ad=>bif (!Ad) then some ((⟨0,0,0,0,0,0,0⟩:Item),false) else obind (ix Aa u9) fun Ac=>obind (ix r1.fItems Ac) fun Ab=>some (Ab,true)

def d_spec_GramOf_J1 (fu:Nat) (k7:Int → Int → Option (Int)) (Aa:Int) (Ab:Int):Option (Int) :=
  k7 Ab (w64 (Aa + 1))

def d_spec_GramOf_J2 (fu:Nat) (k7:Int → Int → Option (Int)) (Ac:Int) (Aa:Int) (Ab:Item):Option (Int) :=
  d_spec_GramOf_J1 fu k7 Aa (w64 (Ac + Ab.fGram))

def d_spec_GramOf_L1_B (fu:Nat)  (r1:Request) (Ab:List Int) (Ae:(List Int)) (k7:Int → Int → Option (Int)) (Ac:Int) (Aa:Int):Option (Int) :=
  bif (decide (Aa < ((Ab.length:Int)))) then obind (ix Ab Aa) fun Af=>obind (d_spec_l6Item fu r1 Ae Af) fun Ad=>d_spec_GramOf_J2 fu k7 Ac Aa Ad.1 else some (Ac)
def d_spec_GramOf_L1 (fu:Nat)  (r1:Request) (Ab:List Int) (Aa:(List Int)):Nat → Int → Int → Option (Int)
  | 0=>fun _ _=>none
  | n + 1=>d_spec_GramOf_L1_B fu r1 Ab Aa (d_spec_GramOf_L1 fu r1 Ab Aa n)

def d_spec_GramOf (fu:Nat) (r1:Request) (Ab:List Int):Option (Int) :=
  obind (d_spec_Units fu r1) fun Aa=>d_spec_GramOf_L1 fu r1 Ab Aa fu 0 0

def d_spec_SlackGram (fu:Nat) (r1:Request) (Aa:Int):Option (Bool) :=
  obind (d_spec_MasterOf fu r1) fun Ad=>obind (d_spec_l17Group fu r1 Aa) fun Ac=>bif Ac then obind (d_spec_UnitsOf fu r1 Aa) fun Ae=>obind (d_spec_GramOf fu r1 Ae) fun Ab=>some (decide (Ab ≤ Ad.1.fGram)) else some (false)

def d_spec_Volume_J1 (fu:Nat) (Aa:Int) (h2:Int) (d3:Int)  : Option (Int) :=
  some (w64 ((w64 (Aa * h2)) * d3))

def d_spec_Volume (fu:Nat) (Aa:Int) (h2:Int) (d3:Int):Option (Int) :=
  obind (d_spec_l1In fu Aa 0 2000) fun Ac=>bif (!Ac) then some (0) else obind (d_spec_l1In fu h2 0 2000) fun Ad=>bif (!Ad) then some (0) else obind (d_spec_l1In fu d3 0 2000) fun Ab=>bif (!Ab) then some (0) else d_spec_Volume_J1 fu Aa h2 d3

def d_spec_VolumeOf_J1 (fu:Nat) (k7:Int → Int → Option (Int)) (Aa:Int) (Ab:Int):Option (Int) :=
  k7 Ab (w64 (Aa + 1))

def d_spec_VolumeOf_J2 (fu:Nat) (k7:Int → Int → Option (Int)) (Ab:Int) (Ad:Int) (Aa:Item):Option (Int) :=
  obind (d_spec_Volume fu Aa.fW Aa.fH Aa.fD) fun Ac=>d_spec_VolumeOf_J1 fu k7 Ad (w64 (Ab + Ac))

def d_spec_VolumeOf_L1_B (fu:Nat)  (r1:Request) (Ab:List Int) (Ae:(List Int)) (k7:Int → Int → Option (Int)) (Ac:Int) (Aa:Int):Option (Int) :=
  bif (decide (Aa < ((Ab.length:Int)))) then obind (ix Ab Aa) fun Ad=>obind (d_spec_l6Item fu r1 Ae Ad) fun Af=>d_spec_VolumeOf_J2 fu k7 Ac Aa Af.1 else some (Ac)
def d_spec_VolumeOf_L1 (fu:Nat)  (r1:Request) (Ab:List Int) (Aa:(List Int)):Nat → Int → Int → Option (Int)
  | 0=>fun _ _=>none
  | n + 1=>d_spec_VolumeOf_L1_B fu r1 Ab Aa (d_spec_VolumeOf_L1 fu r1 Ab Aa n)

def d_spec_VolumeOf (fu:Nat) (r1:Request) (Ab:List Int):Option (Int) :=
  obind (d_spec_Units fu r1) fun Aa=>d_spec_VolumeOf_L1 fu r1 Ab Aa fu 0 0

def d_spec_SlackVolume (fu:Nat) (r1:Request) (Ab:Int):Option (Bool) :=
  obind (d_spec_MasterOf fu r1) fun Aa=>obind (d_spec_l17Group fu r1 Ab) fun Ae=>bif Ae then obind (d_spec_UnitsOf fu r1 Ab) fun Af=>obind (d_spec_VolumeOf fu r1 Af) fun Ac=>obind (d_spec_Volume fu Aa.1.fW Aa.1.fH Aa.1.fD) fun Ad=>some (decide (Ac ≤ Ad)) else some (false)

def d_impl_thereOf_1 (fu:Nat) (u1:Int) (x2:Int):Option (Bool) :=
  obind (d_impl_in fu u1 0 (w64 (x2 - 1))) fun x5=>some (!x5)

def d_slices_DeleteFunc_int_int_J1 (fu:Nat) (k3:List Int → Int → Int → Option ((List Int))) (Ab:Int) (Ac:List Int) (Aa:Int):Option ((List Int)) :=
  k3 Ac Aa (w64 (Ab + 1))

def d_slices_DeleteFunc_int_int_L1_B (fu:Nat)  (f5:Int → Option Bool) (k3:List Int → Int → Int → Option ((List Int))) (Aa:List Int) (Ab:Int) (Ac:Int):Option ((List Int)) :=
  bif (decide (Ac < ((Aa.length:Int)))) then obind (ix Aa Ac) fun Ad=>obind (f5 Ad) fun Af=>bif (!Af) then obind (ix Aa Ab) fun Ah=>d_slices_DeleteFunc_int_int_J1 fu k3 Ac (setx Aa Ab Ad) (w64 (Ab + 1)) else d_slices_DeleteFunc_int_int_J1 fu k3 Ac Aa Ab else obind (sls Aa Ab (Aa.length:Int)) fun Ag=>obind (sls (clrd Aa Ab) 0 Ab) fun Ae=>some (Ae)
def d_slices_DeleteFunc_int_int_L1 (fu:Nat)  (f5:Int → Option Bool):Nat → List Int → Int → Int → Option ((List Int))
  | 0=>fun _ _ _=>none
  | n + 1=>d_slices_DeleteFunc_int_int_L1_B fu f5 (d_slices_DeleteFunc_int_int_L1 fu f5 n)

def d_slices_DeleteFunc_int_int (fu:Nat) (Aa:List Int) (f5:Int → Option Bool):Option ((List Int)) :=
  obind (d_slices_IndexFunc_int_int fu Aa f5) fun Ab=>bif (Ab == ((-1))) then some (Aa) else d_slices_DeleteFunc_int_int_L1 fu f5 fu Aa Ab (w64 (Ab + 1))

def d_impl_thereOf (fu:Nat) (r1:Request) (Ac:List Int):Option ((List Int)) :=
  obind (d_impl_Units fu r1) fun Ad=>obind (d_slices_Clone_int_int fu Ac) fun Aa=>obind (d_slices_DeleteFunc_int_int fu Aa (fun Ae=>d_impl_thereOf_1 fu Ae ((Ad.length:Int)))) fun Ab=>some (Ab)

def d_impl_within (fu:Nat) (r1:Request) (Aa:List Int) (t9:Typ):Option (Bool) :=
  obind (d_impl_VolumeOf fu r1 Aa) fun Ad=>obind (d_impl_Volume fu t9.fW t9.fH t9.fD) fun Ac=>bif (decide (Ad ≤ Ac)) then obind (d_impl_GramOf fu r1 Aa) fun Ab=>some (decide (Ab ≤ t9.fGram)) else some (false)

def d_impl_Room (fu:Nat) (r1:Request) (Ad:List Int) (u9:Int):Option (Bool) :=
  obind (d_impl_MasterOf fu r1) fun Ae=>obind (d_impl_sound fu r1) fun Ac=>bif Ac then obind (d_slices_Clone_int_int fu Ad) fun Aa=>obind (apnd 8 Aa (([u9]:List Int))) fun Ab=>obind (d_impl_within fu r1 Ab Ae.1) fun Af=>some (Af) else some (false)

def d_impl_NextFit_J1 (fu:Nat) (k3:List (List Int) → Int → Option ((List (List Int)))) (Aa:Int) (Ab:List (List Int)):Option ((List (List Int))) :=
  k3 Ab (w64 (Aa + 1))

def d_impl_NextFit_L1_B (fu:Nat)  (r1:Request) (Ae:(List Int)) (k3:List (List Int) → Int → Option ((List (List Int)))) (Aa:List (List Int)) (Ab:Int):Option ((List (List Int))) :=
  bif (decide (Ab < ((Ae.length:Int)))) then obind (ix Ae Ab) fun Ac=>bif (decide ((w64 (((Aa.length:Int)) - 1)) ≥ 0)) then obind (ix Aa (w64 (((Aa.length:Int)) - 1))) fun Ad=>obind (d_impl_Room fu r1 Ad Ac) fun Ag=>bif Ag then obind (ix Aa (w64 (((Aa.length:Int)) - 1))) fun Aj=>obind (apnd 8 Ad (([Ac]:List Int))) fun Ah=>obind (ix Aa (w64 (((Aa.length:Int)) - 1))) fun Ak=>d_impl_NextFit_J1 fu k3 Ab (setx Aa (w64 (((Aa.length:Int)) - 1)) Ah) else obind (apnd 24 Aa [([Ac]:List Int)]) fun Af=>d_impl_NextFit_J1 fu k3 Ab Af else obind (apnd 24 Aa [([Ac]:List Int)]) fun Ai=>d_impl_NextFit_J1 fu k3 Ab Ai else some (Aa)
def d_impl_NextFit_L1 (fu:Nat)  (r1:Request) (Aa:(List Int)):Nat → List (List Int) → Int → Option ((List (List Int)))
  | 0=>fun _ _=>none
  | n + 1=>d_impl_NextFit_L1_B fu r1 Aa (d_impl_NextFit_L1 fu r1 Aa n)

def d_impl_NextFit (fu:Nat) (r1:Request) (Ab:List Int):Option ((List (List Int))) :=
  obind (d_impl_thereOf fu r1 Ab) fun Aa=>d_impl_NextFit_L1 fu r1 Aa fu (([]:List (List Int))) 0

def d_impl_places_L1_B (fu:Nat)  (n1:Int) (k1:List Int → Int → Option ((List Int))) (Ab:List Int) (Aa:Int):Option ((List Int)) :=
  bif (decide (Aa < n1)) then obind (apnd 8 Ab (([Aa]:List Int))) fun Ac=>k1 Ac (w64 (Aa + 1)) else some (Ab)
def d_impl_places_L1 (fu:Nat)  (n1:Int):Nat → List Int → Int → Option ((List Int))
  | 0=>fun _ _=>none
  | n + 1=>d_impl_places_L1_B fu n1 (d_impl_places_L1 fu n1 n)

def d_impl_places (fu:Nat) (n1:Int):Option ((List Int)) :=
  d_impl_places_L1 fu n1 fu (([]:List Int)) 0

def d_impl_compare (fu:Nat) (a1:Int) (b2:Int):Option (Int) :=
  bif (decide (a1 < b2)) then some ((-1)) else bif (decide (a1 > b2)) then some (1) else some (0)

def d_impl_SortDown_1 (fu:Nat) (i1:Int) (j2:Int) (x3:List Int):Option (Int) :=
  obind (ix x3 j2) fun Ac=>obind (ix x3 i1) fun Ab=>obind (d_impl_compare fu Ac Ab) fun Aa=>some (Aa)

def d_slices_insertionSortCmpFunc_int_J1 (fu:Nat) (Ad:List Int → Int → Option ((List Int))) (Ab:List Int) (Aa:Int)  : Option ((List Int)) :=
  obind (ix Ab (w64 (Aa - 1))) fun Ac=>obind (ix Ab Aa) fun Ae=>obind (ix Ab Aa) fun Ag=>obind (ix (setx Ab Aa Ac) (w64 (Aa - 1))) fun Af=>Ad (setx (setx Ab Aa Ac) (w64 (Aa - 1)) Ae) (w64 (Aa - 1))

def d_slices_insertionSortCmpFunc_int_L1_B (fu:Nat) (k9:List Int → Int → Option ((List Int))) (a5:Int) (f7:Int → Int → Option Int) (Ac:Int) (Af:List Int → Int → Option ((List Int))) (Aa:List Int) (Ab:Int):Option ((List Int)) :=
  bif (decide (Ab > a5)) then obind (ix Aa Ab) fun Ae=>obind (ix Aa (w64 (Ab - 1))) fun Ad=>obind (f7 Ae Ad) fun Ag=>bif (decide (Ag < 0)) then d_slices_insertionSortCmpFunc_int_J1 fu Af Aa Ab else k9 Aa (w64 (Ac + 1)) else k9 Aa (w64 (Ac + 1))
def d_slices_insertionSortCmpFunc_int_L1 (fu:Nat) (k9:List Int → Int → Option ((List Int))) (a5:Int) (f7:Int → Int → Option Int) (Aa:Int):Nat → List Int → Int → Option ((List Int))
  | 0=>fun _ _=>none
  | n + 1=>d_slices_insertionSortCmpFunc_int_L1_B fu k9 a5 f7 Aa (d_slices_insertionSortCmpFunc_int_L1 fu k9 a5 f7 Aa n)

def d_slices_insertionSortCmpFunc_int_L2_B (fu:Nat)  (a5:Int) (b6:Int) (f7:Int → Int → Option Int) (k9:List Int → Int → Option ((List Int))) (Ab:List Int) (Aa:Int):Option ((List Int)) :=
  bif (decide (Aa < b6)) then d_slices_insertionSortCmpFunc_int_L1 fu k9 a5 f7 Aa fu Ab Aa else some (Ab)
def d_slices_insertionSortCmpFunc_int_L2 (fu:Nat)  (a5:Int) (b6:Int) (f7:Int → Int → Option Int):Nat → List Int → Int → Option ((List Int))
  | 0=>fun _ _=>none
  | n + 1=>d_slices_insertionSortCmpFunc_int_L2_B fu a5 b6 f7 (d_slices_insertionSortCmpFunc_int_L2 fu a5 b6 f7 n)

def d_slices_insertionSortCmpFunc_int (fu:Nat) (Aa:List Int) (a5:Int) (b6:Int) (f7:Int → Int → Option Int):Option ((List Int)) :=
  d_slices_insertionSortCmpFunc_int_L2 fu a5 b6 f7 fu Aa (w64 (a5 + 1))

def d_slices_symMergeCmpFunc_int (fu:Nat) (x0:List Int) (x1:Int) (x2:Int) (x3:Int) (x4:Int → Int → Option Int):Option ((List Int)):=none

def d_slices_stableCmpFunc_int_J1 (fu:Nat) (k6:List Int → Int → Option ((List Int))) (Ab:Int) (Aa:List Int):Option ((List Int)) :=
  k6 Aa (w64 (Ab * 2))

def d_slices_stableCmpFunc_int_L1_B (fu:Nat) (k6:List Int → Int → Option ((List Int))) (n5:Int) (f6:Int → Int → Option Int) (Aa:Int) (k7:List Int → Int → Int → Option ((List Int))) (Ad:List Int) (Ab:Int) (Ac:Int):Option ((List Int)) :=
  bif (decide (Ac ≤ n5)) then obind (d_slices_symMergeCmpFunc_int fu Ad Ab (w64 (Ab + Aa)) Ac f6) fun Af=>k7 Af Ac (w64 (Ac + (w64 (2 * Aa)))) else bif (decide ((w64 (Ab + Aa)) < n5)) then obind (d_slices_symMergeCmpFunc_int fu Ad Ab (w64 (Ab + Aa)) n5 f6) fun Ae=>d_slices_stableCmpFunc_int_J1 fu k6 Aa Ae else d_slices_stableCmpFunc_int_J1 fu k6 Aa Ad
def d_slices_stableCmpFunc_int_L1 (fu:Nat) (k6:List Int → Int → Option ((List Int))) (n5:Int) (f6:Int → Int → Option Int) (Aa:Int):Nat → List Int → Int → Int → Option ((List Int))
  | 0=>fun _ _ _=>none
  | n + 1=>d_slices_stableCmpFunc_int_L1_B fu k6 n5 f6 Aa (d_slices_stableCmpFunc_int_L1 fu k6 n5 f6 Aa n)

def d_slices_stableCmpFunc_int_L2_B (fu:Nat)  (n5:Int) (f6:Int → Int → Option Int) (k6:List Int → Int → Option ((List Int))) (Ab:List Int) (Aa:Int):Option ((List Int)) :=
  bif (decide (Aa < n5)) then d_slices_stableCmpFunc_int_L1 fu k6 n5 f6 Aa fu Ab 0 (w64 (2 * Aa)) else some (Ab)
def d_slices_stableCmpFunc_int_L2 (fu:Nat)  (n5:Int) (f6:Int → Int → Option Int):Nat → List Int → Int → Option ((List Int))
  | 0=>fun _ _=>none
  | n + 1=>d_slices_stableCmpFunc_int_L2_B fu n5 f6 (d_slices_stableCmpFunc_int_L2 fu n5 f6 n)

def d_slices_stableCmpFunc_int_L3_B (fu:Nat)  (n5:Int) (f6:Int → Int → Option Int) (k1:List Int → Int → Int → Option ((List Int))) (Ac:List Int) (Ab:Int) (Aa:Int):Option ((List Int)) :=
  bif (decide (Aa ≤ n5)) then obind (d_slices_insertionSortCmpFunc_int fu Ac Ab Aa f6) fun Ad=>k1 Ad Aa (w64 (Aa + 20)) else obind (d_slices_insertionSortCmpFunc_int fu Ac Ab n5 f6) fun Ae=>d_slices_stableCmpFunc_int_L2 fu n5 f6 fu Ae 20
def d_slices_stableCmpFunc_int_L3 (fu:Nat)  (n5:Int) (f6:Int → Int → Option Int):Nat → List Int → Int → Int → Option ((List Int))
  | 0=>fun _ _ _=>none
  | n + 1=>d_slices_stableCmpFunc_int_L3_B fu n5 f6 (d_slices_stableCmpFunc_int_L3 fu n5 f6 n)

def d_slices_stableCmpFunc_int (fu:Nat) (Aa:List Int) (n5:Int) (f6:Int → Int → Option Int):Option ((List Int)) :=
  d_slices_stableCmpFunc_int_L3 fu n5 f6 fu Aa 0 20

def d_slices_SortStableFunc_int_int (fu:Nat) (x1:List Int) (f5:Int → Int → Option Int):Option ((List Int)) :=
  obind (d_slices_stableCmpFunc_int fu x1 ((x1.length:Int)) f5) fun Aa=>some (Aa)

def d_impl_SortDown (fu:Nat) (Aa:List Int):Option ((List Int)) :=
  obind (d_impl_places fu ((Aa.length:Int))) fun x8=>obind (d_slices_SortStableFunc_int_int fu x8 (fun Ab Ac=>d_impl_SortDown_1 fu Ab Ac Aa)) fun Ad=>some (Ad)

def d_impl_FirstFit_1 (fu:Nat) (l1:List Int) (x5:Request) (Ab:Int):Option (Bool) :=
  obind (d_impl_Room fu x5 l1 Ab) fun Aa=>some (Aa)

def d_impl_FirstFit_J1 (fu:Nat) (k4:List (List Int) → Int → Option ((List (List Int)))) (Ab:Int) (Aa:List (List Int)):Option ((List (List Int))) :=
  k4 Aa (w64 (Ab + 1))

def d_impl_FirstFit_L1_B (fu:Nat)  (r1:Request) (Ai:(List Int)) (Ae:(List Int)) (k4:List (List Int) → Int → Option ((List (List Int)))) (Aa:List (List Int)) (Ac:Int):Option ((List (List Int))) :=
  bif (decide (Ac < ((Ae.length:Int)))) then obind (ix Ae Ac) fun Af=>obind (ix Ai Af) fun Ad=>obind (d_slices_IndexFunc_ints_int fu Aa (fun Ak=>d_impl_FirstFit_1 fu Ak r1 Ad)) fun Ab=>bif (decide (Ab < 0)) then obind (apnd 24 Aa [([Ad]:List Int)]) fun Ah=>d_impl_FirstFit_J1 fu k4 Ac Ah else obind (ix Aa Ab) fun Aj=>obind (apnd 8 Aj (([Ad]:List Int))) fun Ag=>obind (ix Aa Ab) fun Al=>d_impl_FirstFit_J1 fu k4 Ac (setx Aa Ab Ag) else some (Aa)
def d_impl_FirstFit_L1 (fu:Nat)  (r1:Request) (Aa:(List Int)) (Ab:(List Int)):Nat → List (List Int) → Int → Option ((List (List Int)))
  | 0=>fun _ _=>none
  | n + 1=>d_impl_FirstFit_L1_B fu r1 Aa Ab (d_impl_FirstFit_L1 fu r1 Aa Ab n)

def d_impl_FirstFit_L2_B (fu:Nat)  (r1:Request) (Aa:(List Int)) (k1:List Int → Int → Option ((List (List Int)))) (Ac:List Int) (Ab:Int):Option ((List (List Int))) :=
  bif (decide (Ab < ((Aa.length:Int)))) then obind (ix Aa Ab) fun Ag=>obind (d_impl_VolumeOf fu r1 (([Ag]:List Int))) fun Ae=>obind (apnd 8 Ac (([Ae]:List Int))) fun Af=>k1 Af (w64 (Ab + 1)) else obind (d_impl_SortDown fu Ac) fun Ad=>d_impl_FirstFit_L1 fu r1 Aa Ad fu (([]:List (List Int))) 0
def d_impl_FirstFit_L2 (fu:Nat)  (r1:Request) (Aa:(List Int)):Nat → List Int → Int → Option ((List (List Int)))
  | 0=>fun _ _=>none
  | n + 1=>d_impl_FirstFit_L2_B fu r1 Aa (d_impl_FirstFit_L2 fu r1 Aa n)

def d_impl_FirstFit (fu:Nat) (r1:Request) (Ab:List Int):Option ((List (List Int))) :=
  obind (d_impl_thereOf fu r1 Ab) fun Aa=>d_impl_FirstFit_L2 fu r1 Aa fu (([]:List Int)) 0

def d_impl_PackWay (fu:Nat) (r1:Request) (Aa:List Int):Option ((List (List Int))) :=
  bif (r1.fWay == 1) then obind (d_impl_NextFit fu r1 Aa) fun Ac=>some (Ac) else obind (d_impl_FirstFit fu r1 Aa) fun Ab=>some (Ab)

def d_impl_Holds_1 (fu:Nat) (x1:Item) (x2:Typ):Option (Bool) :=
  obind (d_impl_Fits fu x1 x2) fun x8=>some (!x8)

def d_impl_Holds_J1 (fu:Nat) (r1:Request) (Aa:List Int) (t9:Typ)  : Option (Bool) :=
  obind (d_impl_itemsOf fu r1 Aa) fun Ac=>obind (d_slices_ContainsFunc_impl_Item_impl_Item fu Ac (fun Ab=>d_impl_Holds_1 fu Ab t9)) fun Ae=>bif (!Ae) then obind (d_impl_within fu r1 Aa t9) fun Ad=>some (Ad) else some (false)

def d_impl_Holds (fu:Nat) (r1:Request) (Aa:List Int) (t9:Typ):Option (Bool) :=
  obind (d_impl_sound fu r1) fun Ab=>bif (!Ab) then some (false) else obind (d_impl_thereOf fu r1 Aa) fun Ac=>bif (((Ac.length:Int)) != ((Aa.length:Int))) then some (false) else d_impl_Holds_J1 fu r1 Aa t9

def d_impl_Cheapest_J1 (fu:Nat) (k3:Typ → Bool → Int → Option (Typ × Bool)) (Ac:Int) (Aa:Typ) (Ab:Bool):Option (Typ × Bool) :=
  k3 Aa Ab (w64 (Ac + 1))

def d_impl_Cheapest_L1_B (fu:Nat)  (r1:Request) (Af:List Int) (k3:Typ → Bool → Int → Option (Typ × Bool)) (Ac:Typ) (Ad:Bool) (Aa:Int):Option (Typ × Bool) :=
  bif (decide (Aa < ((r1.fTypes.length:Int)))) then obind (ix r1.fTypes Aa) fun Ab=>obind (d_impl_Holds fu r1 Af Ab) fun Ae=>bif (!Ae) then d_impl_Cheapest_J1 fu k3 Aa Ac Ad else bif (!Ad) then d_impl_Cheapest_J1 fu k3 Aa Ab true else bif (decide (Ab.fCost < Ac.fCost)) then d_impl_Cheapest_J1 fu k3 Aa Ab true else bif (Ab.fCost == Ac.fCost) then bif (decide (Ab.fId < Ac.fId)) then d_impl_Cheapest_J1 fu k3 Aa Ab true else d_impl_Cheapest_J1 fu k3 Aa Ac Ad else d_impl_Cheapest_J1 fu k3 Aa Ac Ad else some (Ac,Ad)
def d_impl_Cheapest_L1 (fu:Nat)  (r1:Request) (Aa:List Int):Nat → Typ → Bool → Int → Option (Typ × Bool)
  | 0=>fun _ _ _=>none
  | n + 1=>d_impl_Cheapest_L1_B fu r1 Aa (d_impl_Cheapest_L1 fu r1 Aa n)

def d_impl_Cheapest (fu:Nat) (r1:Request) (Aa:List Int):Option (Typ × Bool) :=
  d_impl_Cheapest_L1 fu r1 Aa fu ((⟨0,0,0,0,0,0,0⟩:Typ)) false 0

def d_impl_CartonsOf_L1_B (fu:Nat) (k3:List Carton → Int → Option ((List Carton))) (r1:Request) (Ab:Int) (Ae:(List (List Int))) (k4:List Carton → Int → Option ((List Carton))) (Ac:List Carton) (Aa:Int):Option ((List Carton)) :=
  bif (decide (Aa < ((Ae.length:Int)))) then obind (ix Ae Aa) fun Ad=>obind (d_impl_Cheapest fu r1 Ad) fun Ah=>obind (d_slices_Sort_int_int fu Ad) fun Af=>obind (apnd 40 Ac [(⟨Ah.1.fId,Ab,Af⟩:Carton)]) fun Ag=>k4 Ag (w64 (Aa + 1)) else k3 Ac (w64 (Ab + 1))
def d_impl_CartonsOf_L1 (fu:Nat) (k3:List Carton → Int → Option ((List Carton))) (r1:Request) (Ab:Int) (Aa:(List (List Int))):Nat → List Carton → Int → Option ((List Carton))
  | 0=>fun _ _=>none
  | n + 1=>d_impl_CartonsOf_L1_B fu k3 r1 Ab Aa (d_impl_CartonsOf_L1 fu k3 r1 Ab Aa n)

def d_impl_CartonsOf_L2_B (fu:Nat)  (r1:Request) (Ad:(List (List Int))) (k3:List Carton → Int → Option ((List Carton))) (Ab:List Carton) (Aa:Int):Option ((List Carton)) :=
  bif (decide (Aa < ((Ad.length:Int)))) then obind (d_impl_UnitsOf fu r1 Aa) fun Ac=>obind (d_impl_PackWay fu r1 Ac) fun Ae=>d_impl_CartonsOf_L1 fu k3 r1 Aa Ae fu Ab 0 else some (Ab)
def d_impl_CartonsOf_L2 (fu:Nat)  (r1:Request) (Aa:(List (List Int))):Nat → List Carton → Int → Option ((List Carton))
  | 0=>fun _ _=>none
  | n + 1=>d_impl_CartonsOf_L2_B fu r1 Aa (d_impl_CartonsOf_L2 fu r1 Aa n)

def d_impl_CartonsOf (fu:Nat) (r1:Request):Option ((List Carton)) :=
  obind (d_impl_GroupsOf fu r1) fun Aa=>d_impl_CartonsOf_L2 fu r1 Aa fu (([]:List Carton)) 0

def d_impl_CountIn_J1 (fu:Nat) (k3:Int → Int → Option (Int)) (Aa:Int) (Ab:Int):Option (Int) :=
  k3 Ab (w64 (Aa + 1))

def d_impl_CountIn_L1_B (fu:Nat)  (Ad:Int) (Ac:(List Carton)) (k3:Int → Int → Option (Int)) (Ab:Int) (Aa:Int):Option (Int) :=
  bif (decide (Aa < ((Ac.length:Int)))) then obind (ix Ac Aa) fun Ae=>bif (Ae.fGroup == Ad) then d_impl_CountIn_J1 fu k3 Aa (w64 (Ab + 1)) else d_impl_CountIn_J1 fu k3 Aa Ab else some (Ab)
def d_impl_CountIn_L1 (fu:Nat)  (Aa:Int) (Ab:(List Carton)):Nat → Int → Int → Option (Int)
  | 0=>fun _ _=>none
  | n + 1=>d_impl_CountIn_L1_B fu Aa Ab (d_impl_CountIn_L1 fu Aa Ab n)

def d_impl_CountIn (fu:Nat) (r1:Request) (Aa:Int):Option (Int) :=
  obind (d_impl_CartonsOf fu r1) fun Ab=>d_impl_CountIn_L1 fu Aa Ab fu 0 0

end Go.Proofs.YthddjkokpfdbnaaGreat
