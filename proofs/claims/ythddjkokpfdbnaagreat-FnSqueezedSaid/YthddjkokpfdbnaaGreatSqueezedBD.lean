/- FnSqueezed: what the functions that it reaches compute,on plain data. Printed by gen.py. -/
import Derived.Test.YthddjkokpfdbnaaGreatS13
import Derived.Test.YthddjkokpfdbnaaGreatS15
import Derived.Test.YthddjkokpfdbnaaGreatS18
set_option linter.unusedVariables false
namespace Go.Proofs.YthddjkokpfdbnaaGreat
open Go
def d_laws_big (fu:Nat) (Aa:List U8):Option (Bool) :=
  some (decide (((Aa.length:Int)) > 1048576))

def d_spec_l1New_J1 (fu:Nat) (k3:Int → Int → Option (Cur)) (Ad:List U8) (Ac:Int) (Aa:Int)  : Option (Cur) :=
  obind (ix Ad Aa) fun Ab=>k3 (IntKind.wrap .i64 (((BitVec.ofInt (IntKind.bits .i64) (w64 ((w64 ((w64 (Ac * 131)) + (w64 Ab.n))) + 7)) &&& BitVec.ofInt (IntKind.bits .i64) 1073741823).toNat:Nat):Int)) (w64 (Aa + 1))

def d_spec_l1New_L1_B (fu:Nat)  (Aa:List U8) (k3:Int → Int → Option (Cur)) (Ac:Int) (Ab:Int):Option (Cur) :=
  bif (decide (Ab < ((Aa.length:Int)))) then bif (decide (Ab < 4000)) then d_spec_l1New_J1 fu k3 Aa Ac Ab else some ((⟨Aa,0,Ac⟩:Cur)) else some ((⟨Aa,0,Ac⟩:Cur))
def d_spec_l1New_L1 (fu:Nat)  (Aa:List U8):Nat → Int → Int → Option (Cur)
  | 0=>fun _ _=>none
  | n + 1=>d_spec_l1New_L1_B fu Aa (d_spec_l1New_L1 fu Aa n)

def d_spec_l1New (fu:Nat) (Aa:List U8):Option (Cur) :=
  d_spec_l1New_L1 fu Aa fu (w64 (26583 + ((Aa.length:Int)))) 0

def d_spec_l1Byte (fu:Nat) (c1:Cur):Option (Int × Cur) :=
  bif (decide (c1.fi < ((c1.fb.length:Int)))) then obind (ix c1.fb c1.fi) fun Aa=>some (IntKind.wrap .i64 (((BitVec.ofInt (IntKind.bits .i64) (w64 ((IntKind.wrap .i64 (((BitVec.ofInt (IntKind.bits .i64) (IntKind.wrap .i64 (((BitVec.ofInt (IntKind.bits .i64) (Int.fdiv (w64 ((w64 (c1.fh * 6364136223846793005)) + 1442695040888963407)) (2 ^ (min 33 (IntKind.bits .i64)))) ^^^ BitVec.ofInt (IntKind.bits .i64) (Int.fdiv (w64 ((w64 (c1.fh * 6364136223846793005)) + 1442695040888963407)) (2 ^ (min 45 (IntKind.bits .i64))))).toNat:Nat):Int)) &&& BitVec.ofInt (IntKind.bits .i64) 255).toNat:Nat):Int)) + (w64 Aa.n))) &&& BitVec.ofInt (IntKind.bits .i64) 255).toNat:Nat):Int),(⟨c1.fb,w64 (c1.fi + 1),w64 ((w64 (c1.fh * 6364136223846793005)) + 1442695040888963407)⟩:Cur)) else some (IntKind.wrap .i64 (((BitVec.ofInt (IntKind.bits .i64) (IntKind.wrap .i64 (((BitVec.ofInt (IntKind.bits .i64) (Int.fdiv (w64 ((w64 (c1.fh * 6364136223846793005)) + 1442695040888963407)) (2 ^ (min 33 (IntKind.bits .i64)))) ^^^ BitVec.ofInt (IntKind.bits .i64) (Int.fdiv (w64 ((w64 (c1.fh * 6364136223846793005)) + 1442695040888963407)) (2 ^ (min 45 (IntKind.bits .i64))))).toNat:Nat):Int)) &&& BitVec.ofInt (IntKind.bits .i64) 255).toNat:Nat):Int),(⟨c1.fb,c1.fi,w64 ((w64 (c1.fh * 6364136223846793005)) + 1442695040888963407)⟩:Cur))

def d_spec_l1Below (fu:Nat) (c1:Cur) (n7:Int):Option (Int × Cur) :=
  bif (decide (n7 ≤ 0)) then some (0,c1) else bif (decide (n7 ≤ 256)) then obind (d_spec_l1Byte fu c1) fun Ad=>obind (odiv n7) fun Af=>some (Int.tmod Ad.1 n7,(⟨c1.fb,Ad.2.fi,Ad.2.fh⟩:Cur)) else obind (d_spec_l1Byte fu c1) fun Ac=>obind (d_spec_l1Byte fu ((⟨c1.fb,Ac.2.fi,Ac.2.fh⟩:Cur))) fun Ab=>obind (d_spec_l1Byte fu ((⟨c1.fb,Ab.2.fi,Ab.2.fh⟩:Cur))) fun Ae=>obind (d_spec_l1Byte fu ((⟨c1.fb,Ae.2.fi,Ae.2.fh⟩:Cur))) fun Aa=>obind (odiv n7) fun Ag=>some (Int.tmod (w64 ((w64 ((w64 ((w64 (Ac.1 * 16777216)) + (w64 (Ab.1 * 65536)))) + (w64 (Ae.1 * 256)))) + Aa.1)) n7,(⟨c1.fb,Aa.2.fi,Aa.2.fh⟩:Cur))

def d_spec_l1Once (fu:Nat) (c1:Cur) (n7:Int):Option (Bool × Cur) :=
  obind (d_spec_l1Below fu c1 n7) fun x9=>some (x9.1 == 0,(⟨c1.fb,x9.2.fi,x9.2.fh⟩:Cur))

def d_spec_l1PickInt (fu:Nat) (c1:Cur) (Ab:List Int):Option (Int × Cur) :=
  obind (d_spec_l1Below fu c1 ((Ab.length:Int))) fun Aa=>obind (ix Ab Aa.1) fun Ac=>some (Ac,(⟨c1.fb,Aa.2.fi,Aa.2.fh⟩:Cur))

def d_spec_l2Right_J1 (fu:Nat) (Ab:Int → Int → List Pair → Int → Option (Request × Cur)) (Ac:Int) (Aa:Int) (Ad:Int) (Ae:List Pair):Option (Request × Cur) :=
  Ab Aa Ad Ae (w64 (Ac + 1))

def d_spec_l2Right_L1_B (fu:Nat) (k9:Int → Int → List Pair → Int → Option (Request × Cur)) (c1:Cur) (Aa:Int) (Ae:Int → Int → List Pair → Int → Option (Request × Cur)) (Ag:Int) (Af:Int) (Ad:List Pair) (Ab:Int):Option (Request × Cur) :=
  bif (decide (Ab ≤ Aa)) then bif (Aa == Ab) then obind (apnd 16 Ad (([(⟨Aa,Aa⟩:Pair)]:List Pair))) fun Ah=>d_spec_l2Right_J1 fu Ae Ab Ag Af Ah else obind (d_spec_l1Once fu ((⟨c1.fb,Ag,Af⟩:Cur)) 2) fun Ac=>bif Ac.1 then obind (apnd 16 Ad (([(⟨Aa,Ab⟩:Pair),(⟨Ab,Aa⟩:Pair)]:List Pair))) fun Ai=>d_spec_l2Right_J1 fu Ae Ab Ac.2.fi Ac.2.fh Ai else d_spec_l2Right_J1 fu Ae Ab Ac.2.fi Ac.2.fh Ad else k9 Ag Af Ad (w64 (Aa + 1))
def d_spec_l2Right_L1 (fu:Nat) (k9:Int → Int → List Pair → Int → Option (Request × Cur)) (c1:Cur) (Aa:Int):Nat → Int → Int → List Pair → Int → Option (Request × Cur)
  | 0=>fun _ _ _ _=>none
  | n + 1=>d_spec_l2Right_L1_B fu k9 c1 Aa (d_spec_l2Right_L1 fu k9 c1 Aa n)

def d_spec_l2Right_J2 (fu:Nat) (Ab:Int → Int → List Item → Int → Int → Option (Request × Cur)) (Af:Int) (Ae:Int) (Ac:Int) (Ad:List Item) (Aa:Int):Option (Request × Cur) :=
  Ab Ae Ac Ad Aa (w64 (Af + 1))

def d_spec_l2Right_J3 (fu:Nat) (Af:Int → Int → List Item → Int → Int → Option (Request × Cur)) (Ad:List Item) (Ab:Int) (Ag:Int) (Ac:Int) (Ae:Int) (Aa:Item):Option (Request × Cur) :=
  bif (decide ((w64 (Ab + Aa.fCount)) ≤ 12)) then obind (apnd 56 Ad (([Aa]:List Item))) fun Ah=>d_spec_l2Right_J2 fu Af Ag Ac Ae Ah (w64 (Ab + Aa.fCount)) else d_spec_l2Right_J2 fu Af Ag Ac Ae Ad Ab

def d_spec_l2Right_J4 (fu:Nat) (Af:Int → Int → List Item → Int → Int → Option (Request × Cur)) (c1:Cur) (Ae:List Item) (Ad:Int) (Ag:Int) (Ah:Int) (Ai:Int) (Ab:Item):Option (Request × Cur) :=
  obind (d_spec_l1Once fu ((⟨c1.fb,Ah,Ai⟩:Cur)) 3) fun Aa=>bif Aa.1 then obind (d_spec_l1Below fu ((⟨c1.fb,Aa.2.fi,Aa.2.fh⟩:Cur)) 8) fun Ac=>d_spec_l2Right_J3 fu Af Ae Ad Ag Ac.2.fi Ac.2.fh ((⟨Ab.fId,5,5,w64 (4 + Ac.1),Ab.fGram,Ab.fClass,Ab.fCount⟩:Item)) else d_spec_l2Right_J3 fu Af Ae Ad Ag Aa.2.fi Aa.2.fh Ab

def d_spec_l2Right_L2_B (fu:Nat)  (c1:Cur) (Am:Int × Cur) (At:Int × Cur) (Ap:Int × Cur) (Ar:Int × Cur) (As:Int × Cur) (Ai:Int × Cur) (Av:List Pair) (Al:List Typ) (Ao:Int × Cur) (Aq:Int → Int → List Item → Int → Int → Option (Request × Cur)) (Aj:Int) (Ak:Int) (Ah:List Item) (Au:Int) (Af:Int):Option (Request × Cur) :=
  bif (decide (Af < Ao.1)) then obind (d_spec_l1Below fu ((⟨c1.fb,Aj,Ak⟩:Cur)) 10) fun Ad=>obind (d_spec_l1Below fu ((⟨c1.fb,Ad.2.fi,Ad.2.fh⟩:Cur)) 10) fun Ac=>obind (d_spec_l1Below fu ((⟨c1.fb,Ac.2.fi,Ac.2.fh⟩:Cur)) 10) fun Ag=>obind (d_spec_l1Below fu ((⟨c1.fb,Ag.2.fi,Ag.2.fh⟩:Cur)) 60) fun Ae=>obind (d_spec_l1Below fu ((⟨c1.fb,Ae.2.fi,Ae.2.fh⟩:Cur)) (w64 (1 + Ai.1))) fun Aa=>obind (d_spec_l1Below fu ((⟨c1.fb,Aa.2.fi,Aa.2.fh⟩:Cur)) 4) fun Ab=>d_spec_l2Right_J4 fu Aq c1 Ah Au Af Ab.2.fi Ab.2.fh ((⟨w64 (3 * Af),w64 (1 + Ad.1),w64 (1 + Ac.1),w64 (1 + Ag.1),w64 (1 + Ae.1),Aa.1,w64 (1 + Ab.1)⟩:Item)) else some ((⟨Am.1,(⟨At.1,Ap.1,Ar.1,As.1⟩:Pallet),w64 (1 + Ai.1),Av,Al,7,Ah⟩:Request),(⟨c1.fb,Aj,Ak⟩:Cur))
def d_spec_l2Right_L2 (fu:Nat)  (c1:Cur) (Ae:Int × Cur) (Aa:Int × Cur) (Ag:Int × Cur) (Af:Int × Cur) (Ab:Int × Cur) (Ac:Int × Cur) (Ah:List Pair) (Ad:List Typ) (Ai:Int × Cur):Nat → Int → Int → List Item → Int → Int → Option (Request × Cur)
  | 0=>fun _ _ _ _ _=>none
  | n + 1=>d_spec_l2Right_L2_B fu c1 Ae Aa Ag Af Ab Ac Ah Ad Ai (d_spec_l2Right_L2 fu c1 Ae Aa Ag Af Ab Ac Ah Ad Ai n)

def d_spec_l2Right_L3_B (fu:Nat)  (c1:Cur) (Al:Int × Cur) (At:Int × Cur) (Ap:Int × Cur) (Ar:Int × Cur) (As:Int × Cur) (Am:Int × Cur) (Av:List Pair) (Aq:Int × Cur) (Ao:Int → Int → List Typ → Int → Option (Request × Cur)) (Aj:Int) (Ak:Int) (Ai:List Typ) (Ac:Int):Option (Request × Cur) :=
  bif (decide (Ac < Aq.1)) then obind (d_spec_l1Below fu ((⟨c1.fb,Aj,Ak⟩:Cur)) 9) fun Ad=>obind (d_spec_l1Below fu ((⟨c1.fb,Ad.2.fi,Ad.2.fh⟩:Cur)) 8) fun Af=>obind (d_spec_l1Below fu ((⟨c1.fb,Af.2.fi,Af.2.fh⟩:Cur)) 9) fun Ah=>obind (d_spec_l1Below fu ((⟨c1.fb,Ah.2.fi,Ah.2.fh⟩:Cur)) 5) fun Aa=>obind (d_spec_l1Below fu ((⟨c1.fb,Aa.2.fi,Aa.2.fh⟩:Cur)) 90) fun Ag=>obind (d_spec_l1Below fu ((⟨c1.fb,Ag.2.fi,Ag.2.fh⟩:Cur)) 20) fun Ab=>obind (apnd 56 Ai (([(⟨w64 (10 + Ac),w64 (4 + Ad.1),w64 (3 + Af.1),w64 (3 + Ah.1),Aa.1,w64 (20 + Ag.1),w64 (1 + Ab.1)⟩:Typ)]:List Typ))) fun Au=>Ao Ab.2.fi Ab.2.fh Au (w64 (Ac + 1)) else obind (d_spec_l1Below fu ((⟨c1.fb,Aj,Ak⟩:Cur)) 6) fun Ae=>d_spec_l2Right_L2 fu c1 Al At Ap Ar As Am Av Ai Ae fu Ae.2.fi Ae.2.fh (([]:List Item)) 0 0
def d_spec_l2Right_L3 (fu:Nat)  (c1:Cur) (Ae:Int × Cur) (Aa:Int × Cur) (Ag:Int × Cur) (Af:Int × Cur) (Ab:Int × Cur) (Ac:Int × Cur) (Ah:List Pair) (Ad:Int × Cur):Nat → Int → Int → List Typ → Int → Option (Request × Cur)
  | 0=>fun _ _ _ _=>none
  | n + 1=>d_spec_l2Right_L3_B fu c1 Ae Aa Ag Af Ab Ac Ah Ad (d_spec_l2Right_L3 fu c1 Ae Aa Ag Af Ab Ac Ah Ad n)

def d_spec_l2Right_J5 (fu:Nat) (c1:Cur) (Ah:Int × Cur) (Ab:Int × Cur) (Aj:Int × Cur) (Ai:Int × Cur) (Ac:Int × Cur) (Ae:Int × Cur) (Ak:List Pair) (Ag:Int) (Ad:Int) (Af:List Typ):Option (Request × Cur) :=
  obind (d_spec_l1Below fu ((⟨c1.fb,Ag,Ad⟩:Cur)) 5) fun Aa=>d_spec_l2Right_L3 fu c1 Ah Ab Aj Ai Ac Ae Ak Aa fu Aa.2.fi Aa.2.fh Af 0

def d_spec_l2Right_L4_B (fu:Nat)  (c1:Cur) (Al:Int × Cur) (Ai:Int × Cur) (Ao:Int × Cur) (Ak:Int × Cur) (Aj:Int × Cur) (Ae:Int × Cur) (k9:Int → Int → List Pair → Int → Option (Request × Cur)) (Ah:Int) (Af:Int) (Ag:List Pair) (Ad:Int):Option (Request × Cur) :=
  bif (decide (Ad < (w64 (1 + Ae.1)))) then d_spec_l2Right_L1 fu k9 c1 Ad fu Ah Af Ag 0 else obind (d_spec_l1Below fu ((⟨c1.fb,Ah,Af⟩:Cur)) 8) fun Ab=>obind (d_spec_l1PickInt fu ((⟨c1.fb,Ab.2.fi,Ab.2.fh⟩:Cur)) (([60,100,140]:List Int))) fun Ac=>obind (d_spec_l1PickInt fu ((⟨c1.fb,Ac.2.fi,Ac.2.fh⟩:Cur)) (([9,20]:List Int))) fun Aa=>obind (apnd 56 (([]:List Typ)) (([(⟨7,12,10,11,Ab.1,Ac.1,Aa.1⟩:Typ)]:List Typ))) fun Am=>d_spec_l2Right_J5 fu c1 Al Ai Ao Ak Aj Ae Ag Aa.2.fi Aa.2.fh Am
def d_spec_l2Right_L4 (fu:Nat)  (c1:Cur) (Ad:Int × Cur) (Aa:Int × Cur) (Af:Int × Cur) (Ae:Int × Cur) (Ab:Int × Cur) (Ac:Int × Cur):Nat → Int → Int → List Pair → Int → Option (Request × Cur)
  | 0=>fun _ _ _ _=>none
  | n + 1=>d_spec_l2Right_L4_B fu c1 Ad Aa Af Ae Ab Ac (d_spec_l2Right_L4 fu c1 Ad Aa Af Ae Ab Ac n)

def d_spec_l2Right (fu:Nat) (c1:Cur):Option (Request × Cur) :=
  obind (d_spec_l1Below fu c1 2) fun Ad=>obind (d_spec_l1PickInt fu ((⟨c1.fb,Ad.2.fi,Ad.2.fh⟩:Cur)) (([20,30,37]:List Int))) fun Aa=>obind (d_spec_l1PickInt fu ((⟨c1.fb,Aa.2.fi,Aa.2.fh⟩:Cur)) (([20,25,40]:List Int))) fun Af=>obind (d_spec_l1PickInt fu ((⟨c1.fb,Af.2.fi,Af.2.fh⟩:Cur)) (([15,24,50]:List Int))) fun Ae=>obind (d_spec_l1PickInt fu ((⟨c1.fb,Ae.2.fi,Ae.2.fh⟩:Cur)) (([150,400,5000]:List Int))) fun Ab=>obind (d_spec_l1Below fu ((⟨c1.fb,Ab.2.fi,Ab.2.fh⟩:Cur)) 4) fun Ac=>d_spec_l2Right_L4 fu c1 Ad Aa Af Ae Ab Ac fu Ac.2.fi Ac.2.fh (([]:List Pair)) 0

def d_spec_l1In (fu:Nat) (x1:Int) (Ab:Int) (Aa:Int):Option (Bool) :=
  bif (decide (x1 ≥ Ab)) then some (decide (x1 ≤ Aa)) else some (false)

def d_spec_l2Side (fu:Nat) (x1:Int):Option (Bool) :=
  obind (d_spec_l1In fu x1 1 2000) fun x2=>some (x2)

def d_spec_PalletOk (fu:Nat) (x1:Pallet):Option (Bool) :=
  obind (d_spec_l2Side fu x1.fW) fun x5=>bif x5 then obind (d_spec_l2Side fu x1.fD) fun Ab=>bif Ab then obind (d_spec_l2Side fu x1.fH) fun Ac=>bif Ac then obind (d_spec_l1In fu x1.fGram 1 100000) fun Aa=>some (Aa) else some (false) else some (false) else some (false)

def d_spec_l2Id (fu:Nat) (x1:Int):Option (Bool) :=
  obind (d_spec_l1In fu x1 0 999) fun x2=>some (x2)

def d_spec_TypeOk (fu:Nat) (x1:Typ):Option (Bool) :=
  obind (d_spec_l2Id fu x1.fId) fun x5=>bif x5 then obind (d_spec_l2Side fu x1.fW) fun Ad=>bif Ad then obind (d_spec_l2Side fu x1.fH) fun Af=>bif Af then obind (d_spec_l2Side fu x1.fD) fun Aa=>bif Aa then obind (d_spec_l1In fu x1.fTare 0 100000) fun Ac=>bif Ac then obind (d_spec_l1In fu x1.fGram 1 100000) fun Ae=>bif Ae then obind (d_spec_l1In fu x1.fCost 0 100000) fun Ab=>some (Ab) else some (false) else some (false) else some (false) else some (false) else some (false) else some (false)

def d_spec_ItemOk (fu:Nat) (x1:Item):Option (Bool) :=
  obind (d_spec_l2Id fu x1.fId) fun x5=>bif x5 then obind (d_spec_l2Side fu x1.fW) fun Ad=>bif Ad then obind (d_spec_l2Side fu x1.fH) fun Af=>bif Af then obind (d_spec_l2Side fu x1.fD) fun Aa=>bif Aa then obind (d_spec_l1In fu x1.fGram 1 100000) fun Ac=>bif Ac then obind (d_spec_l1In fu x1.fClass 0 3) fun Ae=>bif Ae then obind (d_spec_l1In fu x1.fCount 1 6) fun Ab=>some (Ab) else some (false) else some (false) else some (false) else some (false) else some (false) else some (false)

def d_spec_BoundsOk_J1 (fu:Nat) (k4:Int → Option (Bool)) (Aa:Int)  : Option (Bool) :=
  k4 (w64 (Aa + 1))

def d_spec_BoundsOk_L1_B (fu:Nat)  (r1:Request) (k7:Int → Int → Option (Bool)) (Ab:Int) (Aa:Int):Option (Bool) :=
  bif (decide (Aa < ((r1.fItems.length:Int)))) then obind (ix r1.fItems Aa) fun Ac=>obind (d_spec_ItemOk fu Ac) fun Ad=>bif (!Ad) then some (false) else obind (ix r1.fItems Aa) fun Ae=>k7 (w64 (Ab + Ac.fCount)) (w64 (Aa + 1)) else some (decide (Ab ≤ 12))
def d_spec_BoundsOk_L1 (fu:Nat)  (r1:Request):Nat → Int → Int → Option (Bool)
  | 0=>fun _ _=>none
  | n + 1=>d_spec_BoundsOk_L1_B fu r1 (d_spec_BoundsOk_L1 fu r1 n)

def d_spec_BoundsOk_L2_B (fu:Nat)  (r1:Request) (k6:Int → Option (Bool)) (Aa:Int):Option (Bool) :=
  bif (decide (Aa < ((r1.fTypes.length:Int)))) then obind (ix r1.fTypes Aa) fun Ab=>obind (d_spec_TypeOk fu Ab) fun Ac=>bif (!Ac) then some (false) else k6 (w64 (Aa + 1)) else d_spec_BoundsOk_L1 fu r1 fu 0 0
def d_spec_BoundsOk_L2 (fu:Nat)  (r1:Request):Nat → Int → Option (Bool)
  | 0=>fun _=>none
  | n + 1=>d_spec_BoundsOk_L2_B fu r1 (d_spec_BoundsOk_L2 fu r1 n)

def d_spec_BoundsOk_L3_B (fu:Nat)  (r1:Request) (k4:Int → Option (Bool)) (Aa:Int):Option (Bool) :=
  bif (decide (Aa < ((r1.fPairs.length:Int)))) then obind (ix r1.fPairs Aa) fun Ab=>obind (d_spec_l1In fu Ab.fA 0 3) fun Ac=>bif (!Ac) then some (false) else obind (ix r1.fPairs Aa) fun Ae=>obind (d_spec_l1In fu Ab.fB 0 3) fun Ad=>bif (!Ad) then some (false) else d_spec_BoundsOk_J1 fu k4 Aa else d_spec_BoundsOk_L2 fu r1 fu 0
def d_spec_BoundsOk_L3 (fu:Nat)  (r1:Request):Nat → Int → Option (Bool)
  | 0=>fun _=>none
  | n + 1=>d_spec_BoundsOk_L3_B fu r1 (d_spec_BoundsOk_L3 fu r1 n)

def d_spec_BoundsOk_J2 (fu:Nat) (r1:Request)  : Option (Bool) :=
  d_spec_BoundsOk_L3 fu r1 fu 0

def d_spec_BoundsOk (fu:Nat) (r1:Request):Option (Bool) :=
  obind (d_spec_l1In fu r1.fWay 0 1) fun Ad=>bif (!Ad) then some (false) else obind (d_spec_PalletOk fu r1.fPallet) fun Aa=>bif (!Aa) then some (false) else obind (d_spec_l1In fu r1.fClasses 1 4) fun Ab=>bif (!Ab) then some (false) else bif (decide (((r1.fPairs.length:Int)) > 16)) then some (false) else obind (d_spec_l1In fu ((r1.fTypes.length:Int)) 1 5) fun Ae=>bif (!Ae) then some (false) else obind (d_spec_l2Id fu r1.fMaster) fun Ac=>bif (!Ac) then some (false) else bif (decide (((r1.fItems.length:Int)) > 8)) then some (false) else d_spec_BoundsOk_J2 fu r1

def d_spec_MasterOf_L1_B (fu:Nat)  (r1:Request) (k1:Int → Option (Typ × Bool)) (Aa:Int):Option (Typ × Bool) :=
  bif (decide (Aa < ((r1.fTypes.length:Int)))) then obind (ix r1.fTypes Aa) fun Ab=>bif (Ab.fId == r1.fMaster) then obind (ix r1.fTypes Aa) fun Ac=>some (Ab,true) else k1 (w64 (Aa + 1)) else some ((⟨0,0,0,0,0,0,0⟩:Typ),false)
def d_spec_MasterOf_L1 (fu:Nat)  (r1:Request):Nat → Int → Option (Typ × Bool)
  | 0=>fun _=>none
  | n + 1=>d_spec_MasterOf_L1_B fu r1 (d_spec_MasterOf_L1 fu r1 n)

def d_spec_MasterOf (fu:Nat) (r1:Request):Option (Typ × Bool) :=
  d_spec_MasterOf_L1 fu r1 fu 0

def d_spec_l5Names_L1_B (fu:Nat) (k3:Int → Option (Bool)) (r1:Request) (Ab:Int) (k4:Int → Option (Bool)) (Aa:Int):Option (Bool) :=
  bif (decide (Aa < Ab)) then obind (ix r1.fTypes Ab) fun Ac=>obind (ix r1.fTypes Aa) fun Ad=>bif (Ac.fId == Ad.fId) then some (false) else k4 (w64 (Aa + 1)) else k3 (w64 (Ab + 1))
def d_spec_l5Names_L1 (fu:Nat) (k3:Int → Option (Bool)) (r1:Request) (Aa:Int):Nat → Int → Option (Bool)
  | 0=>fun _=>none
  | n + 1=>d_spec_l5Names_L1_B fu k3 r1 Aa (d_spec_l5Names_L1 fu k3 r1 Aa n)

def d_spec_l5Names_L2_B (fu:Nat) (k7:Int → Option (Bool)) (r1:Request) (Ab:Int) (k8:Int → Option (Bool)) (Aa:Int):Option (Bool) :=
  bif (decide (Aa < Ab)) then obind (ix r1.fItems Ab) fun Ad=>obind (ix r1.fItems Aa) fun Ac=>bif (Ad.fId == Ac.fId) then some (false) else k8 (w64 (Aa + 1)) else k7 (w64 (Ab + 1))
def d_spec_l5Names_L2 (fu:Nat) (k7:Int → Option (Bool)) (r1:Request) (Aa:Int):Nat → Int → Option (Bool)
  | 0=>fun _=>none
  | n + 1=>d_spec_l5Names_L2_B fu k7 r1 Aa (d_spec_l5Names_L2 fu k7 r1 Aa n)

def d_spec_l5Names_J1 (fu:Nat) (Ab:Int → Option (Bool)) (Aa:Int)  : Option (Bool) :=
  Ab (w64 (Aa + 1))

def d_spec_l5Names_L3_B (fu:Nat)  (r1:Request) (Ad:Int → Option (Bool)) (Aa:Int):Option (Bool) :=
  bif (decide (Aa < ((r1.fPairs.length:Int)))) then obind (ix r1.fPairs Aa) fun Ab=>bif (decide (Ab.fA ≥ r1.fClasses)) then some (false) else obind (ix r1.fPairs Aa) fun Ae=>bif (decide (Ab.fB ≥ r1.fClasses)) then some (false) else d_spec_l5Names_J1 fu Ad Aa else obind (d_spec_MasterOf fu r1) fun Ac=>some (Ac.2)
def d_spec_l5Names_L3 (fu:Nat)  (r1:Request):Nat → Int → Option (Bool)
  | 0=>fun _=>none
  | n + 1=>d_spec_l5Names_L3_B fu r1 (d_spec_l5Names_L3 fu r1 n)

def d_spec_l5Names_L4_B (fu:Nat)  (r1:Request) (k7:Int → Option (Bool)) (Aa:Int):Option (Bool) :=
  bif (decide (Aa < ((r1.fItems.length:Int)))) then obind (ix r1.fItems Aa) fun Ab=>bif (decide (Ab.fClass ≥ r1.fClasses)) then some (false) else d_spec_l5Names_L2 fu k7 r1 Aa fu 0 else d_spec_l5Names_L3 fu r1 fu 0
def d_spec_l5Names_L4 (fu:Nat)  (r1:Request):Nat → Int → Option (Bool)
  | 0=>fun _=>none
  | n + 1=>d_spec_l5Names_L4_B fu r1 (d_spec_l5Names_L4 fu r1 n)

def d_spec_l5Names_L5_B (fu:Nat)  (r1:Request) (k3:Int → Option (Bool)) (Aa:Int):Option (Bool) :=
  bif (decide (Aa < ((r1.fTypes.length:Int)))) then d_spec_l5Names_L1 fu k3 r1 Aa fu 0 else d_spec_l5Names_L4 fu r1 fu 0
def d_spec_l5Names_L5 (fu:Nat)  (r1:Request):Nat → Int → Option (Bool)
  | 0=>fun _=>none
  | n + 1=>d_spec_l5Names_L5_B fu r1 (d_spec_l5Names_L5 fu r1 n)

def d_spec_l5Names (fu:Nat) (r1:Request):Option (Bool) :=
  d_spec_l5Names_L5 fu r1 fu 0

def d_spec_Beside_J1 (fu:Nat) (k3:Int → Option (Bool)) (Aa:Int)  : Option (Bool) :=
  k3 (w64 (Aa + 1))

def d_spec_Beside_L1_B (fu:Nat)  (Ab:List Pair) (a5:Int) (b6:Int) (k3:Int → Option (Bool)) (Aa:Int):Option (Bool) :=
  bif (decide (Aa < ((Ab.length:Int)))) then obind (ix Ab Aa) fun Ac=>bif (Ac.fA == a5) then obind (ix Ab Aa) fun Ad=>bif (Ac.fB == b6) then some (true) else d_spec_Beside_J1 fu k3 Aa else d_spec_Beside_J1 fu k3 Aa else some (false)
def d_spec_Beside_L1 (fu:Nat)  (Aa:List Pair) (a5:Int) (b6:Int):Nat → Int → Option (Bool)
  | 0=>fun _=>none
  | n + 1=>d_spec_Beside_L1_B fu Aa a5 b6 (d_spec_Beside_L1 fu Aa a5 b6 n)

def d_spec_Beside (fu:Nat) (Aa:List Pair) (a5:Int) (b6:Int):Option (Bool) :=
  d_spec_Beside_L1 fu Aa a5 b6 fu 0

def d_spec_TableOk_J1 (fu:Nat) (Aa:Int → Option (Bool)) (Ab:Int)  : Option (Bool) :=
  Aa (w64 (Ab + 1))

def d_spec_TableOk_L1_B (fu:Nat) (k9:Int → Option (Bool)) (Ac:List Pair) (Ai:Int) (Ab:Int) (Ad:Int → Option (Bool)) (Aa:Int):Option (Bool) :=
  bif (decide (Aa < Ai)) then bif (Ab == Aa) then obind (d_spec_Beside fu Ac Ab Ab) fun Ag=>bif (!Ag) then some (false) else obind (d_spec_Beside fu Ac Ab Aa) fun Aj=>obind (d_spec_Beside fu Ac Aa Ab) fun Ae=>bif (!(Aj == Ae)) then some (false) else d_spec_TableOk_J1 fu Ad Aa else obind (d_spec_Beside fu Ac Ab Aa) fun Ah=>obind (d_spec_Beside fu Ac Aa Ab) fun Af=>bif (!(Ah == Af)) then some (false) else d_spec_TableOk_J1 fu Ad Aa else k9 (w64 (Ab + 1))
def d_spec_TableOk_L1 (fu:Nat) (k9:Int → Option (Bool)) (Aa:List Pair) (Ac:Int) (Ab:Int):Nat → Int → Option (Bool)
  | 0=>fun _=>none
  | n + 1=>d_spec_TableOk_L1_B fu k9 Aa Ac Ab (d_spec_TableOk_L1 fu k9 Aa Ac Ab n)

def d_spec_TableOk_L2_B (fu:Nat)  (Ac:List Pair) (Ab:Int) (k9:Int → Option (Bool)) (Aa:Int):Option (Bool) :=
  bif (decide (Aa < Ab)) then d_spec_TableOk_L1 fu k9 Ac Ab Aa fu 0 else some (true)
def d_spec_TableOk_L2 (fu:Nat)  (Aa:List Pair) (Ab:Int):Nat → Int → Option (Bool)
  | 0=>fun _=>none
  | n + 1=>d_spec_TableOk_L2_B fu Aa Ab (d_spec_TableOk_L2 fu Aa Ab n)

def d_spec_TableOk (fu:Nat) (Ab:List Pair) (Aa:Int):Option (Bool) :=
  obind (d_spec_l1In fu Aa 1 4) fun x6=>bif (!x6) then some (false) else d_spec_TableOk_L2 fu Ab Aa fu 0

def d_spec_l1Places_L1_B (fu:Nat)  (n1:Int) (k1:List Int → Int → Option ((List Int))) (Ab:List Int) (Aa:Int):Option ((List Int)) :=
  bif (decide (Aa < n1)) then obind (apnd 8 Ab (([Aa]:List Int))) fun Ac=>k1 Ac (w64 (Aa + 1)) else some (Ab)
def d_spec_l1Places_L1 (fu:Nat)  (n1:Int):Nat → List Int → Int → Option ((List Int))
  | 0=>fun _ _=>none
  | n + 1=>d_spec_l1Places_L1_B fu n1 (d_spec_l1Places_L1 fu n1 n)

def d_spec_l1Places (fu:Nat) (n1:Int):Option ((List Int)) :=
  d_spec_l1Places_L1 fu n1 fu (([]:List Int)) 0

def d_spec_l1Merge_J1 (fu:Nat) (k3:List Int → Int → Int → Option ((List Int))) (Ag:List Int) (Ai:Bool) (Ac:(List Int)) (Ae:(List Int)) (Ad:List Int) (Aa:Int) (Ab:Int)  : Option ((List Int)) :=
  bif (Ab == ((Ae.length:Int))) then obind (ix Ac Aa) fun Av=>obind (apnd 8 Ad (([Av]:List Int))) fun At=>k3 At (w64 (Aa + 1)) Ab else bif (Aa == ((Ac.length:Int))) then obind (ix Ae Ab) fun Aq=>obind (apnd 8 Ad (([Aq]:List Int))) fun Al=>k3 Al Aa (w64 (Ab + 1)) else obind (ix Ae Ab) fun Ah=>obind (ix Ag Ah) fun Ak=>obind (ix Ac Aa) fun Af=>obind (ix Ag Af) fun Aj=>bif (decide (Ak < Aj)) then bif (!Ai) then obind (ix Ae Ab) fun Bc=>obind (apnd 8 Ad (([Ah]:List Int))) fun Ao=>k3 Ao Aa (w64 (Ab + 1)) else obind (ix Ae Ab) fun Bk=>obind (ix Ag Ah) fun Bb=>obind (ix Ac Aa) fun Bg=>obind (ix Ag Af) fun Bf=>bif (decide (Ak > Aj)) then bif Ai then obind (ix Ae Ab) fun Be=>obind (apnd 8 Ad (([Ah]:List Int))) fun Ap=>k3 Ap Aa (w64 (Ab + 1)) else obind (ix Ac Aa) fun Bl=>obind (apnd 8 Ad (([Af]:List Int))) fun As=>k3 As (w64 (Aa + 1)) Ab else obind (ix Ac Aa) fun Bj=>obind (apnd 8 Ad (([Af]:List Int))) fun Ar=>k3 Ar (w64 (Aa + 1)) Ab else obind (ix Ae Ab) fun Az=>obind (ix Ag Ah) fun Bh=>obind (ix Ac Aa) fun Ba=>obind (ix Ag Af) fun Ay=>bif (decide (Ak > Aj)) then bif Ai then obind (ix Ae Ab) fun Bi=>obind (apnd 8 Ad (([Ah]:List Int))) fun Am=>k3 Am Aa (w64 (Ab + 1)) else obind (ix Ac Aa) fun Bd=>obind (apnd 8 Ad (([Af]:List Int))) fun Aw=>k3 Aw (w64 (Aa + 1)) Ab else obind (ix Ac Aa) fun Ax=>obind (apnd 8 Ad (([Af]:List Int))) fun Au=>k3 Au (w64 (Aa + 1)) Ab

def d_spec_l1Merge_L1_B (fu:Nat)  (Af:List Int) (Ag:Bool) (Ac:(List Int)) (Ae:(List Int)) (k3:List Int → Int → Int → Option ((List Int))) (Aa:List Int) (Ab:Int) (Ad:Int):Option ((List Int)) :=
  bif (decide (Ab < ((Ac.length:Int)))) then d_spec_l1Merge_J1 fu k3 Af Ag Ac Ae Aa Ab Ad else bif (decide (Ad < ((Ae.length:Int)))) then d_spec_l1Merge_J1 fu k3 Af Ag Ac Ae Aa Ab Ad else some (Aa)
def d_spec_l1Merge_L1 (fu:Nat)  (Ac:List Int) (Ab:Bool) (Aa:(List Int)) (Ad:(List Int)):Nat → List Int → Int → Int → Option ((List Int))
  | 0=>fun _ _ _=>none
  | n + 1=>d_spec_l1Merge_L1_B fu Ac Ab Aa Ad (d_spec_l1Merge_L1 fu Ac Ab Aa Ad n)

def d_spec_l1Merge_RB (fu:Nat) (self:List Int → List Int → Bool → Option ((List Int))) (Ab:List Int) (Aa:List Int) (Ac:Bool):Option ((List Int)) :=
  bif (decide (((Aa.length:Int)) < 2)) then obind (apnd 8 (([]:List Int)) Aa) fun Ah=>some (Ah) else obind (sls Aa 0 (w64 (Int.tdiv ((Aa.length:Int)) 2))) fun Ae=>obind (self Ab Ae Ac) fun Af=>obind (sls Aa (w64 (Int.tdiv ((Aa.length:Int)) 2)) (Aa.length:Int)) fun Ad=>obind (self Ab Ad Ac) fun Ag=>d_spec_l1Merge_L1 fu Ab Ac Af Ag fu (([]:List Int)) 0 0
def d_spec_l1Merge_R (fu:Nat):Nat → List Int → List Int → Bool → Option ((List Int))
  | 0=>fun _ _ _=>none
  | n + 1=>d_spec_l1Merge_RB fu (d_spec_l1Merge_R fu n)
def d_spec_l1Merge (fu:Nat) (Ac:List Int) (Ab:List Int) (Aa:Bool):Option ((List Int)):=d_spec_l1Merge_R fu fu Ac Ab Aa

def d_spec_SortUp (fu:Nat) (Aa:List Int):Option ((List Int)) :=
  obind (d_spec_l1Places fu ((Aa.length:Int))) fun x5=>obind (d_spec_l1Merge fu Aa x5 false) fun Ab=>some (Ab)

def d_spec_l5Sides (fu:Nat) (Aa:Int) (h2:Int) (d3:Int):Option ((List Int)) :=
  obind (d_spec_SortUp fu (([Aa,h2,d3]:List Int))) fun x9=>obind (ix x9 0) fun Ac=>obind (ix (([Aa,h2,d3]:List Int)) Ac) fun Ab=>obind (ix x9 1) fun Ag=>obind (ix (([Aa,h2,d3]:List Int)) Ag) fun Af=>obind (ix x9 2) fun Ad=>obind (ix (([Aa,h2,d3]:List Int)) Ad) fun Ae=>some (([Ab,Af,Ae]:List Int))

def d_spec_Fits (fu:Nat) (x1:Item) (t2:Typ):Option (Bool) :=
  obind (d_spec_l5Sides fu x1.fW x1.fH x1.fD) fun Ab=>obind (d_spec_l5Sides fu t2.fW t2.fH t2.fD) fun Aa=>obind (ix Ab 0) fun Ag=>obind (ix Aa 0) fun Ah=>bif (decide (Ag ≤ Ah)) then obind (ix Ab 1) fun Ae=>obind (ix Aa 1) fun Ac=>bif (decide (Ae ≤ Ac)) then obind (ix Ab 2) fun Ad=>obind (ix Aa 2) fun Af=>bif (decide (Ad ≤ Af)) then some (decide (x1.fGram ≤ t2.fGram)) else some (false) else some (false) else some (false)

def d_spec_Class_J1 (fu:Nat) (k4:Int → Option (Int)) (Aa:Int)  : Option (Int) :=
  k4 (w64 (Aa + 1))

def d_spec_Class_L1_B (fu:Nat)  (r1:Request) (k4:Int → Option (Int)) (Ab:Int):Option (Int) :=
  bif (decide (Ab < ((r1.fTypes.length:Int)))) then obind (ix r1.fTypes Ab) fun Aa=>bif (decide (Aa.fW > r1.fPallet.fW)) then some (6) else bif (decide (Aa.fD > r1.fPallet.fD)) then some (6) else bif (decide (Aa.fH > r1.fPallet.fH)) then some (6) else bif (decide ((w64 (Aa.fTare + Aa.fGram)) > r1.fPallet.fGram)) then some (6) else d_spec_Class_J1 fu k4 Ab else some (0)
def d_spec_Class_L1 (fu:Nat)  (r1:Request):Nat → Int → Option (Int)
  | 0=>fun _=>none
  | n + 1=>d_spec_Class_L1_B fu r1 (d_spec_Class_L1 fu r1 n)

def d_spec_Class_L2_B (fu:Nat)  (r1:Request) (Ad:Typ × Bool) (k1:Int → Option (Int)) (Aa:Int):Option (Int) :=
  bif (decide (Aa < ((r1.fItems.length:Int)))) then obind (ix r1.fItems Aa) fun Ab=>obind (d_spec_Fits fu Ab Ad.1) fun Ac=>bif (!Ac) then some (5) else k1 (w64 (Aa + 1)) else d_spec_Class_L1 fu r1 fu 0
def d_spec_Class_L2 (fu:Nat)  (r1:Request) (Aa:Typ × Bool):Nat → Int → Option (Int)
  | 0=>fun _=>none
  | n + 1=>d_spec_Class_L2_B fu r1 Aa (d_spec_Class_L2 fu r1 Aa n)

def d_spec_Class (fu:Nat) (r1:Request):Option (Int) :=
  obind (d_spec_BoundsOk fu r1) fun Ac=>bif (!Ac) then some (2) else obind (d_spec_l5Names fu r1) fun Ab=>bif (!Ab) then some (3) else obind (d_spec_TableOk fu r1.fPairs r1.fClasses) fun Aa=>bif (!Aa) then some (4) else obind (d_spec_MasterOf fu r1) fun Ad=>d_spec_Class_L2 fu r1 Ad fu 0

def d_spec_l5Good_J1 (fu:Nat) (k3:List Item → Int → Option (Request × Cur)) (Aa:Int) (Ab:List Item):Option (Request × Cur) :=
  k3 Ab (w64 (Aa + 1))

def d_spec_l5Good_L1_B (fu:Nat)  (c1:Cur) (Aa:Request × Cur) (Ag:Typ × Bool) (k3:List Item → Int → Option (Request × Cur)) (Ac:List Item) (Ab:Int):Option (Request × Cur) :=
  bif (decide (Ab < ((Aa.1.fItems.length:Int)))) then obind (ix Aa.1.fItems Ab) fun Ad=>obind (d_spec_Fits fu Ad Ag.1) fun Af=>bif Af then obind (ix Aa.1.fItems Ab) fun Ah=>obind (apnd 56 Ac (([Ad]:List Item))) fun Ae=>d_spec_l5Good_J1 fu k3 Ab Ae else d_spec_l5Good_J1 fu k3 Ab Ac else some ((⟨Aa.1.fWay,(⟨30,25,24,400⟩:Pallet),Aa.1.fClasses,Aa.1.fPairs,Aa.1.fTypes,Aa.1.fMaster,Ac⟩:Request),(⟨c1.fb,Aa.2.fi,Aa.2.fh⟩:Cur))
def d_spec_l5Good_L1 (fu:Nat)  (c1:Cur) (Ab:Request × Cur) (Aa:Typ × Bool):Nat → List Item → Int → Option (Request × Cur)
  | 0=>fun _ _=>none
  | n + 1=>d_spec_l5Good_L1_B fu c1 Ab Aa (d_spec_l5Good_L1 fu c1 Ab Aa n)

def d_spec_l5Good (fu:Nat) (c1:Cur):Option (Request × Cur) :=
  obind (d_spec_l2Right fu c1) fun Aa=>obind (d_spec_Class fu Aa.1) fun Ac=>bif (Ac != 0) then obind (d_spec_MasterOf fu ((⟨Aa.1.fWay,(⟨30,25,24,400⟩:Pallet),Aa.1.fClasses,Aa.1.fPairs,Aa.1.fTypes,Aa.1.fMaster,Aa.1.fItems⟩:Request))) fun Ab=>d_spec_l5Good_L1 fu c1 Aa Ab fu (([]:List Item)) 0 else some (Aa.1,(⟨c1.fb,Aa.2.fi,Aa.2.fh⟩:Cur))

def d_spec_l2Draw_J1 (fu:Nat) (c1:Cur) (Aa:Request × Cur) (Ag:Int) (Af:Int) (Ab:Int) (Ah:Int) (Ak:List Pair) (Aj:List Typ) (Ac:Int) (Ad:List Item) (Ae:Int) (Ai:Int):Option (Request × Cur) :=
  some ((⟨Ag,(⟨Af,Aa.1.fPallet.fD,Aa.1.fPallet.fH,Ab⟩:Pallet),Ah,Ak,Aj,Ac,Ad⟩:Request),(⟨c1.fb,Ae,Ai⟩:Cur))

def d_spec_l2Draw (fu:Nat) (c1:Cur):Option (Request × Cur) :=
  obind (d_spec_l2Right fu c1) fun Aa=>obind (d_spec_l1PickInt fu ((⟨c1.fb,Aa.2.fi,Aa.2.fh⟩:Cur)) (([(-1),0,2001,100001,1000,9223372036854775807]:List Int))) fun Ac=>obind (d_spec_l1Below fu ((⟨c1.fb,Ac.2.fi,Ac.2.fh⟩:Cur)) 20) fun Ab=>bif (Ab.1 == 0) then obind (d_spec_l1PickInt fu ((⟨c1.fb,Ab.2.fi,Ab.2.fh⟩:Cur)) (([(-1),2]:List Int))) fun Ai=>d_spec_l2Draw_J1 fu c1 Aa Ai.1 Aa.1.fPallet.fW Aa.1.fPallet.fGram Aa.1.fClasses Aa.1.fPairs Aa.1.fTypes Aa.1.fMaster Aa.1.fItems Ai.2.fi Ai.2.fh else bif (Ab.1 == 1) then d_spec_l2Draw_J1 fu c1 Aa Aa.1.fWay Ac.1 Aa.1.fPallet.fGram Aa.1.fClasses Aa.1.fPairs Aa.1.fTypes Aa.1.fMaster Aa.1.fItems Ab.2.fi Ab.2.fh else bif (Ab.1 == 2) then d_spec_l2Draw_J1 fu c1 Aa Aa.1.fWay Aa.1.fPallet.fW Ac.1 Aa.1.fClasses Aa.1.fPairs Aa.1.fTypes Aa.1.fMaster Aa.1.fItems Ab.2.fi Ab.2.fh else bif (Ab.1 == 3) then obind (d_spec_l1PickInt fu ((⟨c1.fb,Ab.2.fi,Ab.2.fh⟩:Cur)) (([0,5,1]:List Int))) fun Af=>d_spec_l2Draw_J1 fu c1 Aa Aa.1.fWay Aa.1.fPallet.fW Aa.1.fPallet.fGram Af.1 Aa.1.fPairs Aa.1.fTypes Aa.1.fMaster Aa.1.fItems Af.2.fi Af.2.fh else bif (Ab.1 == 4) then obind (d_spec_l1Below fu ((⟨c1.fb,Ab.2.fi,Ab.2.fh⟩:Cur)) 6) fun Ag=>obind (d_spec_l1Below fu ((⟨c1.fb,Ag.2.fi,Ag.2.fh⟩:Cur)) 4) fun Ae=>obind (apnd 16 Aa.1.fPairs (([(⟨w64 (Ag.1 - 1),Ae.1⟩:Pair)]:List Pair))) fun Ap=>d_spec_l2Draw_J1 fu c1 Aa Aa.1.fWay Aa.1.fPallet.fW Aa.1.fPallet.fGram Aa.1.fClasses Ap Aa.1.fTypes Aa.1.fMaster Aa.1.fItems Ae.2.fi Ae.2.fh else bif (Ab.1 == 5) then obind (ix Aa.1.fTypes 0) fun Ar=>d_spec_l2Draw_J1 fu c1 Aa Aa.1.fWay Aa.1.fPallet.fW Aa.1.fPallet.fGram Aa.1.fClasses Aa.1.fPairs (setx Aa.1.fTypes 0 ({ Ar with fH:=Ac.1 })) Aa.1.fMaster Aa.1.fItems Ab.2.fi Ab.2.fh else bif (Ab.1 == 6) then obind (d_spec_l1Below fu ((⟨c1.fb,Ab.2.fi,Ab.2.fh⟩:Cur)) ((Aa.1.fTypes.length:Int))) fun Ad=>obind (ix Aa.1.fTypes Ad.1) fun Al=>d_spec_l2Draw_J1 fu c1 Aa Aa.1.fWay Aa.1.fPallet.fW Aa.1.fPallet.fGram Aa.1.fClasses Aa.1.fPairs (setx Aa.1.fTypes Ad.1 ({ Al with fGram:=Ac.1 })) Aa.1.fMaster Aa.1.fItems Ad.2.fi Ad.2.fh else bif (Ab.1 == 7) then obind (d_spec_l1PickInt fu ((⟨c1.fb,Ab.2.fi,Ab.2.fh⟩:Cur)) (([8,(-1),1000]:List Int))) fun Ak=>d_spec_l2Draw_J1 fu c1 Aa Aa.1.fWay Aa.1.fPallet.fW Aa.1.fPallet.fGram Aa.1.fClasses Aa.1.fPairs Aa.1.fTypes Ak.1 Aa.1.fItems Ak.2.fi Ak.2.fh else bif (Ab.1 == 8) then obind (d_spec_l1Below fu ((⟨c1.fb,Ab.2.fi,Ab.2.fh⟩:Cur)) 5) fun Ah=>obind (d_spec_l1Below fu ((⟨c1.fb,Ah.2.fi,Ah.2.fh⟩:Cur)) 8) fun Aj=>obind (apnd 56 Aa.1.fItems (([(⟨3,1,2,3,4,Ah.1,Aj.1⟩:Item)]:List Item))) fun Ao=>d_spec_l2Draw_J1 fu c1 Aa Aa.1.fWay Aa.1.fPallet.fW Aa.1.fPallet.fGram Aa.1.fClasses Aa.1.fPairs Aa.1.fTypes Aa.1.fMaster Ao Aj.2.fi Aj.2.fh else bif (Ab.1 == 9) then bif (decide (((Aa.1.fItems.length:Int)) > 0)) then obind (ix Aa.1.fItems 0) fun As=>d_spec_l2Draw_J1 fu c1 Aa Aa.1.fWay Aa.1.fPallet.fW Aa.1.fPallet.fGram Aa.1.fClasses Aa.1.fPairs Aa.1.fTypes Aa.1.fMaster (setx Aa.1.fItems 0 ({ As with fD:=Ac.1 })) Ab.2.fi Ab.2.fh else d_spec_l2Draw_J1 fu c1 Aa Aa.1.fWay Aa.1.fPallet.fW Aa.1.fPallet.fGram Aa.1.fClasses Aa.1.fPairs Aa.1.fTypes Aa.1.fMaster Aa.1.fItems Ab.2.fi Ab.2.fh else bif (Ab.1 == 10) then bif (decide (((Aa.1.fPairs.length:Int)) > 0)) then obind (sls Aa.1.fPairs 1 (Aa.1.fPairs.length:Int)) fun Aq=>d_spec_l2Draw_J1 fu c1 Aa Aa.1.fWay Aa.1.fPallet.fW Aa.1.fPallet.fGram Aa.1.fClasses Aq Aa.1.fTypes Aa.1.fMaster Aa.1.fItems Ab.2.fi Ab.2.fh else d_spec_l2Draw_J1 fu c1 Aa Aa.1.fWay Aa.1.fPallet.fW Aa.1.fPallet.fGram Aa.1.fClasses Aa.1.fPairs Aa.1.fTypes Aa.1.fMaster Aa.1.fItems Ab.2.fi Ab.2.fh else bif (Ab.1 == 11) then obind (ix Aa.1.fTypes 0) fun Am=>obind (apnd 56 Aa.1.fTypes (([Am]:List Typ))) fun At=>d_spec_l2Draw_J1 fu c1 Aa Aa.1.fWay Aa.1.fPallet.fW Aa.1.fPallet.fGram Aa.1.fClasses Aa.1.fPairs At Aa.1.fMaster Aa.1.fItems Ab.2.fi Ab.2.fh else bif (Ab.1 == 12) then d_spec_l2Draw_J1 fu c1 Aa Aa.1.fWay Aa.1.fPallet.fW Aa.1.fPallet.fGram Aa.1.fClasses Aa.1.fPairs (([]:List Typ)) Aa.1.fMaster Aa.1.fItems Ab.2.fi Ab.2.fh else d_spec_l2Draw_J1 fu c1 Aa Aa.1.fWay Aa.1.fPallet.fW Aa.1.fPallet.fGram Aa.1.fClasses Aa.1.fPairs Aa.1.fTypes Aa.1.fMaster Aa.1.fItems Ab.2.fi Ab.2.fh

def d_spec_DrawClass (fu:Nat) (Ab:List U8):Option (Request) :=
  obind (d_spec_l1New fu Ab) fun x8=>obind (d_spec_l1Once fu ((⟨Ab,x8.fi,x8.fh⟩:Cur)) 2) fun Aa=>bif Aa.1 then obind (d_spec_l5Good fu ((⟨Ab,Aa.2.fi,Aa.2.fh⟩:Cur))) fun Ad=>some (Ad.1) else obind (d_spec_l2Draw fu ((⟨Ab,Aa.2.fi,Aa.2.fh⟩:Cur))) fun Ac=>some (Ac.1)

def d_spec_l6Units_L1_B (fu:Nat) (k3:List Int → Int → Option ((List Int))) (r1:Request) (Aa:Int) (k4:List Int → Int → Option ((List Int))) (Ac:List Int) (Ab:Int):Option ((List Int)) :=
  obind (ix r1.fItems Aa) fun Ad=>bif (decide (Ab < Ad.fCount)) then obind (apnd 8 Ac (([Aa]:List Int))) fun Ae=>k4 Ae (w64 (Ab + 1)) else k3 Ac (w64 (Aa + 1))
def d_spec_l6Units_L1 (fu:Nat) (k3:List Int → Int → Option ((List Int))) (r1:Request) (Aa:Int):Nat → List Int → Int → Option ((List Int))
  | 0=>fun _ _=>none
  | n + 1=>d_spec_l6Units_L1_B fu k3 r1 Aa (d_spec_l6Units_L1 fu k3 r1 Aa n)

def d_spec_l6Units_L2_B (fu:Nat)  (r1:Request) (k3:List Int → Int → Option ((List Int))) (Aa:List Int) (Ab:Int):Option ((List Int)) :=
  bif (decide (Ab < ((r1.fItems.length:Int)))) then d_spec_l6Units_L1 fu k3 r1 Ab fu Aa 0 else some (Aa)
def d_spec_l6Units_L2 (fu:Nat)  (r1:Request):Nat → List Int → Int → Option ((List Int))
  | 0=>fun _ _=>none
  | n + 1=>d_spec_l6Units_L2_B fu r1 (d_spec_l6Units_L2 fu r1 n)

def d_spec_l6Units (fu:Nat) (r1:Request):Option ((List Int)) :=
  d_spec_l6Units_L2 fu r1 fu (([]:List Int)) 0

def d_spec_l6Item (fu:Nat) (r1:Request) (Aa:List Int) (u9:Int):Option (Item × Bool) :=
  obind (d_spec_l1In fu u9 0 (w64 (((Aa.length:Int)) - 1))) fun Ac=>bif (!Ac) then some ((⟨0,0,0,0,0,0,0⟩:Item),false) else obind (ix Aa u9) fun Ab=>obind (ix r1.fItems Ab) fun Ad=>some (Ad,true)

def d_spec_Volume_J1 (fu:Nat) (Aa:Int) (h2:Int) (d3:Int)  : Option (Int) :=
  some (w64 ((w64 (Aa * h2)) * d3))

def d_spec_Volume (fu:Nat) (Aa:Int) (h2:Int) (d3:Int):Option (Int) :=
  obind (d_spec_l1In fu Aa 0 2000) fun Ab=>bif (!Ab) then some (0) else obind (d_spec_l1In fu h2 0 2000) fun Ac=>bif (!Ac) then some (0) else obind (d_spec_l1In fu d3 0 2000) fun Ad=>bif (!Ad) then some (0) else d_spec_Volume_J1 fu Aa h2 d3

def d_spec_l7Of_J1 (fu:Nat) (k7:L7 → Int → Option (L7)) (Ab:Int) (Aa:L7):Option (L7) :=
  k7 Aa (w64 (Ab + 1))

def d_spec_l7Of_J2 (fu:Nat) (k7:L7 → Int → Option (L7)) (Ab:L7) (Ad:Int) (Aa:Item):Option (L7) :=
  obind (d_spec_Volume fu Aa.fW Aa.fH Aa.fD) fun Ac=>d_spec_l7Of_J1 fu k7 Ad ((⟨w64 (Ab.fvol + Ac),w64 (Ab.fgram + Aa.fGram)⟩:L7))

def d_spec_l7Of_L1_B (fu:Nat)  (r1:Request) (Ad:List Int) (Ab:List Int) (k7:L7 → Int → Option (L7)) (Ac:L7) (Aa:Int):Option (L7) :=
  bif (decide (Aa < ((Ab.length:Int)))) then obind (ix Ab Aa) fun Ae=>obind (d_spec_l6Item fu r1 Ad Ae) fun Af=>d_spec_l7Of_J2 fu k7 Ac Aa Af.1 else some (Ac)
def d_spec_l7Of_L1 (fu:Nat)  (r1:Request) (Ab:List Int) (Aa:List Int):Nat → L7 → Int → Option (L7)
  | 0=>fun _ _=>none
  | n + 1=>d_spec_l7Of_L1_B fu r1 Ab Aa (d_spec_l7Of_L1 fu r1 Ab Aa n)

def d_spec_l7Of (fu:Nat) (r1:Request) (Ab:List Int) (Aa:List Int):Option (L7) :=
  d_spec_l7Of_L1 fu r1 Ab Aa fu ((⟨0,0⟩:L7)) 0

def d_spec_l7Room_J1 (fu:Nat) (m9:Typ) (Aa:L7):Option (Bool) :=
  obind (d_spec_Volume fu m9.fW m9.fH m9.fD) fun Ab=>bif (decide (Aa.fvol ≤ Ab)) then some (decide (Aa.fgram ≤ m9.fGram)) else some (false)

def d_spec_l7Room (fu:Nat) (r1:Request) (Ad:List Int) (m9:Typ) (Aa:List Int) (Ae:Int):Option (Bool) :=
  obind (apnd 8 (([]:List Int)) Aa) fun Af=>obind (apnd 8 Af (([Ae]:List Int))) fun Ac=>obind (d_spec_l7Of fu r1 Ad Ac) fun Ab=>d_spec_l7Room_J1 fu m9 Ab

def d_spec_l18May_J1 (fu:Nat) (k7:Int → Option (Bool)) (Aa:Int)  : Option (Bool) :=
  k7 (w64 (Aa + 1))

def d_spec_l18May_J2 (fu:Nat) (k7:Int → Option (Bool)) (r1:Request) (Aa:Item × Bool) (Ae:Int) (Ab:Item):Option (Bool) :=
  obind (d_spec_Beside fu r1.fPairs Aa.1.fClass Ab.fClass) fun Ac=>bif (!Ac) then some (false) else obind (d_spec_Beside fu r1.fPairs Ab.fClass Aa.1.fClass) fun Ad=>bif (!Ad) then some (false) else d_spec_l18May_J1 fu k7 Ae

def d_spec_l18May_L1_B (fu:Nat)  (r1:Request) (Ae:List Int) (Ab:List Int) (Ac:Item × Bool) (k7:Int → Option (Bool)) (Aa:Int):Option (Bool) :=
  bif (decide (Aa < ((Ab.length:Int)))) then obind (ix Ab Aa) fun Af=>obind (d_spec_l6Item fu r1 Ae Af) fun Ad=>d_spec_l18May_J2 fu k7 r1 Ac Aa Ad.1 else some (true)
def d_spec_l18May_L1 (fu:Nat)  (r1:Request) (Ab:List Int) (Aa:List Int) (Ac:Item × Bool):Nat → Int → Option (Bool)
  | 0=>fun _=>none
  | n + 1=>d_spec_l18May_L1_B fu r1 Ab Aa Ac (d_spec_l18May_L1 fu r1 Ab Aa Ac n)

def d_spec_l18May (fu:Nat) (r1:Request) (Aa:List Int) (Ac:List Int) (Ab:Int):Option (Bool) :=
  obind (d_spec_l6Item fu r1 Aa Ab) fun Ad=>d_spec_l18May_L1 fu r1 Aa Ac Ad fu 0

def d_spec_RivalBy_J1 (fu:Nat) (Ab:List (List Int) → Int → Option ((List (List Int)))) (Aa:Int) (Ac:List (List Int)):Option ((List (List Int))) :=
  Ab Ac (w64 (Aa + 1))

def d_spec_RivalBy_J2 (fu:Nat) (Ab:List Int → Int → Option ((List (List Int)))) (Ac:Int) (Aa:List Int):Option ((List (List Int))) :=
  Ab Aa (w64 (Ac + 1))

def d_spec_RivalBy_J3 (fu:Nat) (Af:List (List Int) → Int → Option ((List (List Int)))) (Ab:List (List Int)) (Aa:Int) (Ac:List Int) (Ae:Int):Option ((List (List Int))) :=
  bif (decide (Ae < ((Ac.length:Int)))) then obind (ix Ac Ae) fun Ad=>obind (ix Ac Ae) fun Ak=>obind (ix Ab Ad) fun Ag=>obind (apnd 8 Ag (([Aa]:List Int))) fun Ah=>obind (ix Ab Ad) fun Aj=>d_spec_RivalBy_J1 fu Af Aa (setx Ab Ad Ah) else obind (apnd 24 Ab [([Aa]:List Int)]) fun Ai=>d_spec_RivalBy_J1 fu Af Aa Ai

def d_spec_RivalBy_J4 (fu:Nat) (Ae:List (List Int) → Int → Option ((List (List Int)))) (Ad:List (List Int)) (Ac:Int) (Aa:List Int) (Ab:Int):Option ((List (List Int))) :=
  bif (decide (Ab < 0)) then d_spec_RivalBy_J3 fu Ae Ad Ac Aa (w64 ((w64 (Ab + ((Aa.length:Int)))) + 1)) else d_spec_RivalBy_J3 fu Ae Ad Ac Aa Ab

def d_spec_RivalBy_L1_B (fu:Nat) (Ah:List (List Int) → Int → Option ((List (List Int)))) (r1:Request) (Af:List Int) (Ao:Typ × Bool) (Ag:(List Int)) (Ad:List (List Int)) (Ac:Int) (Ae:List Int → Int → Option ((List (List Int)))) (Aa:List Int) (Ab:Int):Option ((List (List Int))) :=
  bif (decide (Ab < ((Ad.length:Int)))) then obind (ix Ad Ab) fun Ai=>obind (d_spec_l7Room fu r1 Ag Ao.1 Ai Ac) fun Am=>bif Am then obind (ix Ad Ab) fun Ap=>obind (d_spec_l18May fu r1 Ag Ai Ac) fun Ak=>bif Ak then obind (apnd 8 Aa (([Ab]:List Int))) fun Al=>d_spec_RivalBy_J2 fu Ae Ab Al else d_spec_RivalBy_J2 fu Ae Ab Aa else d_spec_RivalBy_J2 fu Ae Ab Aa else bif (decide (Ac < ((Af.length:Int)))) then obind (ix Af Ac) fun Aj=>obind (odiv (w64 (((Aa.length:Int)) + 1))) fun Aq=>d_spec_RivalBy_J4 fu Ah Ad Ac Aa (Int.tmod Aj (w64 (((Aa.length:Int)) + 1))) else d_spec_RivalBy_J4 fu Ah Ad Ac Aa 0
def d_spec_RivalBy_L1 (fu:Nat) (Ae:List (List Int) → Int → Option ((List (List Int)))) (r1:Request) (Ac:List Int) (Af:Typ × Bool) (Ad:(List Int)) (Ab:List (List Int)) (Aa:Int):Nat → List Int → Int → Option ((List (List Int)))
  | 0=>fun _ _=>none
  | n + 1=>d_spec_RivalBy_L1_B fu Ae r1 Ac Af Ad Ab Aa (d_spec_RivalBy_L1 fu Ae r1 Ac Af Ad Ab Aa n)

def d_spec_RivalBy_L2_B (fu:Nat)  (r1:Request) (Ad:List Int) (Af:Typ × Bool) (Ac:(List Int)) (Ae:List (List Int) → Int → Option ((List (List Int)))) (Ab:List (List Int)) (Aa:Int):Option ((List (List Int))) :=
  bif (decide (Aa < ((Ac.length:Int)))) then d_spec_RivalBy_L1 fu Ae r1 Ad Af Ac Ab Aa fu (([]:List Int)) 0 else some (Ab)
def d_spec_RivalBy_L2 (fu:Nat)  (r1:Request) (Ab:List Int) (Aa:Typ × Bool) (Ac:(List Int)):Nat → List (List Int) → Int → Option ((List (List Int)))
  | 0=>fun _ _=>none
  | n + 1=>d_spec_RivalBy_L2_B fu r1 Ab Aa Ac (d_spec_RivalBy_L2 fu r1 Ab Aa Ac n)

def d_spec_RivalBy (fu:Nat) (r1:Request) (Ab:List Int):Option ((List (List Int))) :=
  obind (d_spec_Class fu r1) fun Ad=>bif (Ad != 0) then some (([]:List (List Int))) else obind (d_spec_MasterOf fu r1) fun Aa=>obind (d_spec_l6Units fu r1) fun Ac=>d_spec_RivalBy_L2 fu r1 Ab Aa Ac fu (([]:List (List Int))) 0

def d_spec_l17Rival_J1 (fu:Nat) (x8:Request) (Aa:List (List Int)):Option (Request × (List (List Int))) :=
  some (x8,Aa)

def d_spec_l17Rival_L1_B (fu:Nat)  (Ac:List U8) (x8:Request) (k1:Int → Int → List Int → Int → Option (Request × (List (List Int)))) (Ad:Int) (Af:Int) (Ae:List Int) (Ag:Int):Option (Request × (List (List Int))) :=
  bif (decide (Ag < 12)) then obind (d_spec_l1Below fu ((⟨Ac,Ad,Af⟩:Cur)) 5) fun Ab=>obind (apnd 8 Ae (([Ab.1]:List Int))) fun Aj=>k1 Ab.2.fi Ab.2.fh Aj (w64 (Ag + 1)) else obind (d_spec_RivalBy fu x8 Ae) fun Aa=>bif (decide (((Aa.length:Int)) > 1)) then obind (d_spec_l1Once fu ((⟨Ac,Ad,Af⟩:Cur)) 6) fun Ap=>bif Ap.1 then obind (ix Aa 0) fun Ah=>obind (ix Aa 1) fun Ai=>obind (sls Aa 2 (Aa.length:Int)) fun Al=>obind (apnd 8 (([]:List Int)) Ah) fun Am=>obind (apnd 8 Am Ai) fun Ak=>obind (apnd 24 (([Ak]:List (List Int))) Al) fun Ao=>d_spec_l17Rival_J1 fu x8 Ao else d_spec_l17Rival_J1 fu x8 Aa else d_spec_l17Rival_J1 fu x8 Aa
def d_spec_l17Rival_L1 (fu:Nat)  (Aa:List U8) (x8:Request):Nat → Int → Int → List Int → Int → Option (Request × (List (List Int)))
  | 0=>fun _ _ _ _=>none
  | n + 1=>d_spec_l17Rival_L1_B fu Aa x8 (d_spec_l17Rival_L1 fu Aa x8 n)

def d_spec_l17Rival (fu:Nat) (Aa:List U8):Option (Request × (List (List Int))) :=
  obind (d_spec_DrawClass fu Aa) fun x8=>obind (d_spec_l1New fu Aa) fun Ab=>d_spec_l17Rival_L1 fu Aa x8 fu Ab.fi Ab.fh (([]:List Int)) 0

def d_spec_DrawSqueeze (fu:Nat) (Aa:List U8):Option (Request × (List (List Int))) :=
  obind (d_spec_l17Rival fu Aa) fun x8=>some (x8.1,x8.2)

def d_impl_TypeById_1 (fu:Nat) (t1:Typ) (x2:Int):Option (Bool) :=
  some (t1.fId == x2)

def d_slices_IndexFunc_impl_Type_impl_Type_L1_B (fu:Nat)  (Ab:List Typ) (f5:Typ → Option Bool) (k1:Int → Option (Int)) (Aa:Int):Option (Int) :=
  bif (decide (Aa < ((Ab.length:Int)))) then obind (ix Ab Aa) fun Ad=>obind (f5 Ad) fun Ac=>bif Ac then some (Aa) else k1 (w64 (Aa + 1)) else some ((-1))
def d_slices_IndexFunc_impl_Type_impl_Type_L1 (fu:Nat)  (Aa:List Typ) (f5:Typ → Option Bool):Nat → Int → Option (Int)
  | 0=>fun _=>none
  | n + 1=>d_slices_IndexFunc_impl_Type_impl_Type_L1_B fu Aa f5 (d_slices_IndexFunc_impl_Type_impl_Type_L1 fu Aa f5 n)

def d_slices_IndexFunc_impl_Type_impl_Type (fu:Nat) (Aa:List Typ) (f5:Typ → Option Bool):Option (Int) :=
  d_slices_IndexFunc_impl_Type_impl_Type_L1 fu Aa f5 fu 0

def d_impl_TypeById (fu:Nat) (r1:Request) (Ad:Int):Option (Typ × Bool) :=
  obind (d_slices_IndexFunc_impl_Type_impl_Type fu r1.fTypes (fun Ac=>d_impl_TypeById_1 fu Ac Ad)) fun Aa=>bif (decide (Aa < 0)) then some ((⟨0,0,0,0,0,0,0⟩:Typ),false) else obind (ix r1.fTypes Aa) fun Ab=>some (Ab,true)

def d_impl_MasterOf (fu:Nat) (r1:Request):Option (Typ × Bool) :=
  obind (d_impl_TypeById fu r1 r1.fMaster) fun Aa=>some (Aa.1,Aa.2)

def d_impl_in (fu:Nat) (n1:Int) (Ab:Int) (Aa:Int):Option (Bool) :=
  bif (decide (n1 ≥ Ab)) then some (decide (n1 ≤ Aa)) else some (false)

def d_impl_isSide (fu:Nat) (n1:Int):Option (Bool) :=
  obind (d_impl_in fu n1 1 2000) fun x2=>some (x2)

def d_impl_PalletOk (fu:Nat) (x1:Pallet):Option (Bool) :=
  obind (d_impl_isSide fu x1.fW) fun x5=>bif x5 then obind (d_impl_isSide fu x1.fD) fun Ab=>bif Ab then obind (d_impl_isSide fu x1.fH) fun Ac=>bif Ac then obind (d_impl_in fu x1.fGram 1 100000) fun Aa=>some (Aa) else some (false) else some (false) else some (false)

def d_slices_IndexFunc_impl_Pair_impl_Pair_L1_B (fu:Nat)  (Ab:List Pair) (f5:Pair → Option Bool) (k1:Int → Option (Int)) (Aa:Int):Option (Int) :=
  bif (decide (Aa < ((Ab.length:Int)))) then obind (ix Ab Aa) fun Ad=>obind (f5 Ad) fun Ac=>bif Ac then some (Aa) else k1 (w64 (Aa + 1)) else some ((-1))
def d_slices_IndexFunc_impl_Pair_impl_Pair_L1 (fu:Nat)  (Aa:List Pair) (f5:Pair → Option Bool):Nat → Int → Option (Int)
  | 0=>fun _=>none
  | n + 1=>d_slices_IndexFunc_impl_Pair_impl_Pair_L1_B fu Aa f5 (d_slices_IndexFunc_impl_Pair_impl_Pair_L1 fu Aa f5 n)

def d_slices_IndexFunc_impl_Pair_impl_Pair (fu:Nat) (Aa:List Pair) (f5:Pair → Option Bool):Option (Int) :=
  d_slices_IndexFunc_impl_Pair_impl_Pair_L1 fu Aa f5 fu 0

def d_slices_ContainsFunc_impl_Pair_impl_Pair (fu:Nat) (Ab:List Pair) (f5:Pair → Option Bool):Option (Bool) :=
  obind (d_slices_IndexFunc_impl_Pair_impl_Pair fu Ab f5) fun Aa=>some (decide (Aa ≥ 0))

def d_impl_BoundsOk_1 (fu:Nat) (p1:Pair):Option (Bool) :=
  obind (d_impl_in fu p1.fA 0 3) fun x5=>bif (!x5) then some (true) else obind (d_impl_in fu p1.fB 0 3) fun Aa=>some (!Aa)

def d_slices_ContainsFunc_impl_Type_impl_Type (fu:Nat) (Ab:List Typ) (f5:Typ → Option Bool):Option (Bool) :=
  obind (d_slices_IndexFunc_impl_Type_impl_Type fu Ab f5) fun Aa=>some (decide (Aa ≥ 0))

def d_impl_TypeOk (fu:Nat) (x1:Typ):Option (Bool) :=
  obind (d_impl_in fu x1.fId 0 999) fun x5=>bif x5 then obind (d_impl_isSide fu x1.fW) fun Ad=>bif Ad then obind (d_impl_isSide fu x1.fH) fun Af=>bif Af then obind (d_impl_isSide fu x1.fD) fun Aa=>bif Aa then obind (d_impl_in fu x1.fTare 0 100000) fun Ac=>bif Ac then obind (d_impl_in fu x1.fGram 1 100000) fun Ae=>bif Ae then obind (d_impl_in fu x1.fCost 0 100000) fun Ab=>some (Ab) else some (false) else some (false) else some (false) else some (false) else some (false) else some (false)

def d_impl_BoundsOk_2 (fu:Nat) (t1:Typ):Option (Bool) :=
  obind (d_impl_TypeOk fu t1) fun x5=>some (!x5)

def d_impl_ItemOk (fu:Nat) (x1:Item):Option (Bool) :=
  obind (d_impl_in fu x1.fId 0 999) fun x5=>bif x5 then obind (d_impl_isSide fu x1.fW) fun Ad=>bif Ad then obind (d_impl_isSide fu x1.fH) fun Af=>bif Af then obind (d_impl_isSide fu x1.fD) fun Aa=>bif Aa then obind (d_impl_in fu x1.fGram 1 100000) fun Ac=>bif Ac then obind (d_impl_in fu x1.fClass 0 3) fun Ae=>bif Ae then obind (d_impl_in fu x1.fCount 1 6) fun Ab=>some (Ab) else some (false) else some (false) else some (false) else some (false) else some (false) else some (false)

def d_impl_BoundsOk_L1_B (fu:Nat)  (r1:Request) (k3:Int → Int → Option (Bool)) (Ab:Int) (Aa:Int):Option (Bool) :=
  bif (decide (Aa < ((r1.fItems.length:Int)))) then obind (ix r1.fItems Aa) fun Ac=>obind (d_impl_ItemOk fu Ac) fun Ad=>bif (!Ad) then some (false) else k3 (w64 (Ab + Ac.fCount)) (w64 (Aa + 1)) else some (decide (Ab ≤ 12))
def d_impl_BoundsOk_L1 (fu:Nat)  (r1:Request):Nat → Int → Int → Option (Bool)
  | 0=>fun _ _=>none
  | n + 1=>d_impl_BoundsOk_L1_B fu r1 (d_impl_BoundsOk_L1 fu r1 n)

def d_impl_BoundsOk_J1 (fu:Nat) (r1:Request)  : Option (Bool) :=
  d_impl_BoundsOk_L1 fu r1 fu 0 0

def d_impl_BoundsOk_J2 (fu:Nat) (r1:Request)  : Option (Bool) :=
  obind (d_slices_ContainsFunc_impl_Pair_impl_Pair fu r1.fPairs (fun Ad=>d_impl_BoundsOk_1 fu Ad)) fun Ac=>bif Ac then some (false) else obind (d_impl_in fu ((r1.fTypes.length:Int)) 1 5) fun Ab=>bif (!Ab) then some (false) else obind (d_slices_ContainsFunc_impl_Type_impl_Type fu r1.fTypes (fun Af=>d_impl_BoundsOk_2 fu Af)) fun Aa=>bif Aa then some (false) else obind (d_impl_in fu r1.fMaster 0 999) fun Ae=>bif (!Ae) then some (false) else bif (decide (((r1.fItems.length:Int)) > 8)) then some (false) else d_impl_BoundsOk_J1 fu r1

def d_impl_BoundsOk (fu:Nat) (r1:Request):Option (Bool) :=
  obind (d_impl_in fu r1.fWay 0 1) fun Ac=>bif (!Ac) then some (false) else obind (d_impl_PalletOk fu r1.fPallet) fun Ab=>bif (!Ab) then some (false) else obind (d_impl_in fu r1.fClasses 1 4) fun Aa=>bif (!Aa) then some (false) else bif (decide (((r1.fPairs.length:Int)) > 16)) then some (false) else d_impl_BoundsOk_J2 fu r1

def d_impl_namesOk_1 (fu:Nat) (q1:Typ) (x2:Typ):Option (Bool) :=
  some (q1.fId == x2.fId)

def d_impl_namesOk_2 (fu:Nat) (q1:Item) (x2:Item):Option (Bool) :=
  some (q1.fId == x2.fId)

def d_slices_IndexFunc_impl_Item_impl_Item_L1_B (fu:Nat)  (Ab:List Item) (f5:Item → Option Bool) (k1:Int → Option (Int)) (Aa:Int):Option (Int) :=
  bif (decide (Aa < ((Ab.length:Int)))) then obind (ix Ab Aa) fun Ad=>obind (f5 Ad) fun Ac=>bif Ac then some (Aa) else k1 (w64 (Aa + 1)) else some ((-1))
def d_slices_IndexFunc_impl_Item_impl_Item_L1 (fu:Nat)  (Aa:List Item) (f5:Item → Option Bool):Nat → Int → Option (Int)
  | 0=>fun _=>none
  | n + 1=>d_slices_IndexFunc_impl_Item_impl_Item_L1_B fu Aa f5 (d_slices_IndexFunc_impl_Item_impl_Item_L1 fu Aa f5 n)

def d_slices_IndexFunc_impl_Item_impl_Item (fu:Nat) (Aa:List Item) (f5:Item → Option Bool):Option (Int) :=
  d_slices_IndexFunc_impl_Item_impl_Item_L1 fu Aa f5 fu 0

def d_slices_ContainsFunc_impl_Item_impl_Item (fu:Nat) (Ab:List Item) (f5:Item → Option Bool):Option (Bool) :=
  obind (d_slices_IndexFunc_impl_Item_impl_Item fu Ab f5) fun Aa=>some (decide (Aa ≥ 0))

def d_impl_namesOk_3 (fu:Nat) (p1:Pair) (x2:Request):Option (Bool) :=
  bif (decide (p1.fA ≥ x2.fClasses)) then some (true) else some (decide (p1.fB ≥ x2.fClasses))

def d_impl_namesOk_J1 (fu:Nat) (k4:Int → Option (Bool)) (Aa:Int)  : Option (Bool) :=
  k4 (w64 (Aa + 1))

def d_impl_namesOk_L1_B (fu:Nat)  (r1:Request) (k4:Int → Option (Bool)) (Aa:Int):Option (Bool) :=
  bif (decide (Aa < ((r1.fItems.length:Int)))) then obind (ix r1.fItems Aa) fun Ab=>bif (decide (Ab.fClass ≥ r1.fClasses)) then some (false) else obind (sls r1.fItems 0 Aa) fun Ae=>obind (d_slices_ContainsFunc_impl_Item_impl_Item fu Ae (fun Ac=>d_impl_namesOk_2 fu Ac Ab)) fun Ag=>bif Ag then some (false) else d_impl_namesOk_J1 fu k4 Aa else obind (d_impl_MasterOf fu r1) fun Af=>bif Af.2 then obind (d_slices_ContainsFunc_impl_Pair_impl_Pair fu r1.fPairs (fun Ah=>d_impl_namesOk_3 fu Ah r1)) fun Ad=>some (!Ad) else some (false)
def d_impl_namesOk_L1 (fu:Nat)  (r1:Request):Nat → Int → Option (Bool)
  | 0=>fun _=>none
  | n + 1=>d_impl_namesOk_L1_B fu r1 (d_impl_namesOk_L1 fu r1 n)

def d_impl_namesOk_L2_B (fu:Nat)  (r1:Request) (k1:Int → Option (Bool)) (Aa:Int):Option (Bool) :=
  bif (decide (Aa < ((r1.fTypes.length:Int)))) then obind (ix r1.fTypes Aa) fun Ac=>obind (sls r1.fTypes 0 Aa) fun Ae=>obind (d_slices_ContainsFunc_impl_Type_impl_Type fu Ae (fun Ab=>d_impl_namesOk_1 fu Ab Ac)) fun Ad=>bif Ad then some (false) else k1 (w64 (Aa + 1)) else d_impl_namesOk_L1 fu r1 fu 0
def d_impl_namesOk_L2 (fu:Nat)  (r1:Request):Nat → Int → Option (Bool)
  | 0=>fun _=>none
  | n + 1=>d_impl_namesOk_L2_B fu r1 (d_impl_namesOk_L2 fu r1 n)

def d_impl_namesOk (fu:Nat) (r1:Request):Option (Bool) :=
  d_impl_namesOk_L2 fu r1 fu 0

def d_slices_Index_impl_Pair_impl_Pair_L1_B (fu:Nat)  (Ab:List Pair) (v5:Pair) (k1:Int → Option (Int)) (Aa:Int):Option (Int) :=
  bif (decide (Aa < ((Ab.length:Int)))) then obind (ix Ab Aa) fun Ac=>bif (decide (v5 = Ac)) then some (Aa) else k1 (w64 (Aa + 1)) else some ((-1))
def d_slices_Index_impl_Pair_impl_Pair_L1 (fu:Nat)  (Aa:List Pair) (v5:Pair):Nat → Int → Option (Int)
  | 0=>fun _=>none
  | n + 1=>d_slices_Index_impl_Pair_impl_Pair_L1_B fu Aa v5 (d_slices_Index_impl_Pair_impl_Pair_L1 fu Aa v5 n)

def d_slices_Index_impl_Pair_impl_Pair (fu:Nat) (Aa:List Pair) (v5:Pair):Option (Int) :=
  d_slices_Index_impl_Pair_impl_Pair_L1 fu Aa v5 fu 0

def d_slices_Contains_impl_Pair_impl_Pair (fu:Nat) (Ab:List Pair) (v5:Pair):Option (Bool) :=
  obind (d_slices_Index_impl_Pair_impl_Pair fu Ab v5) fun Aa=>some (decide (Aa ≥ 0))

def d_impl_Beside (fu:Nat) (Aa:List Pair) (a5:Int) (b6:Int):Option (Bool) :=
  obind (d_slices_Contains_impl_Pair_impl_Pair fu Aa ((⟨a5,b6⟩:Pair))) fun x7=>some (x7)

def d_impl_TableOk_L1_B (fu:Nat) (k3:Int → Option (Bool)) (Ac:List Pair) (Af:Int) (Ab:Int) (k4:Int → Option (Bool)) (Aa:Int):Option (Bool) :=
  bif (decide (Aa < Af)) then obind (d_impl_Beside fu Ac Ab Aa) fun Ae=>obind (d_impl_Beside fu Ac Aa Ab) fun Ad=>bif (!(Ae == Ad)) then some (false) else k4 (w64 (Aa + 1)) else k3 (w64 (Ab + 1))
def d_impl_TableOk_L1 (fu:Nat) (k3:Int → Option (Bool)) (Ab:List Pair) (Ac:Int) (Aa:Int):Nat → Int → Option (Bool)
  | 0=>fun _=>none
  | n + 1=>d_impl_TableOk_L1_B fu k3 Ab Ac Aa (d_impl_TableOk_L1 fu k3 Ab Ac Aa n)

def d_impl_TableOk_L2_B (fu:Nat)  (Ab:List Pair) (Ac:Int) (k3:Int → Option (Bool)) (Aa:Int):Option (Bool) :=
  bif (decide (Aa < Ac)) then obind (d_impl_Beside fu Ab Aa Aa) fun Ad=>bif (!Ad) then some (false) else d_impl_TableOk_L1 fu k3 Ab Ac Aa fu 0 else some (true)
def d_impl_TableOk_L2 (fu:Nat)  (Aa:List Pair) (Ab:Int):Nat → Int → Option (Bool)
  | 0=>fun _=>none
  | n + 1=>d_impl_TableOk_L2_B fu Aa Ab (d_impl_TableOk_L2 fu Aa Ab n)

def d_impl_TableOk (fu:Nat) (Ab:List Pair) (Aa:Int):Option (Bool) :=
  obind (d_impl_in fu Aa 1 4) fun x6=>bif (!x6) then some (false) else d_impl_TableOk_L2 fu Ab Aa fu 0

def d_slices_Sort_int_int (fu:Nat) (x1:List Int):Option (List Int):=sortI x1

def d_impl_Fits_J1 (fu:Nat) (x1:Item) (t2:Typ) (Ad:List Int) (Ae:List Int):Option (Bool) :=
  obind (d_slices_Sort_int_int fu Ad) fun Ab=>obind (d_slices_Sort_int_int fu Ae) fun Aa=>obind (ix Ab 0) fun Af=>obind (ix Aa 0) fun Ai=>bif (decide (Af ≤ Ai)) then obind (ix Ab 1) fun Ag=>obind (ix Aa 1) fun Ah=>bif (decide (Ag ≤ Ah)) then obind (ix Ab 2) fun Aj=>obind (ix Aa 2) fun Ac=>bif (decide (Aj ≤ Ac)) then some (decide (x1.fGram ≤ t2.fGram)) else some (false) else some (false) else some (false)

def d_impl_Fits (fu:Nat) (x1:Item) (t2:Typ):Option (Bool) :=
  d_impl_Fits_J1 fu x1 t2 (([x1.fW,x1.fH,x1.fD]:List Int)) (([t2.fW,t2.fH,t2.fD]:List Int))

def d_impl_Class_1 (fu:Nat) (x1:Item) (x2:Typ):Option (Bool) :=
  obind (d_impl_Fits fu x1 x2) fun x8=>some (!x8)

def d_impl_Class_2 (fu:Nat) (t1:Typ) (x2:Pallet):Option (Bool) :=
  bif (decide (t1.fW > x2.fW)) then some (true) else bif (decide (t1.fD > x2.fD)) then some (true) else bif (decide (t1.fH > x2.fH)) then some (true) else some (decide ((w64 (t1.fTare + t1.fGram)) > x2.fGram))

def d_impl_Class (fu:Nat) (r1:Request):Option (Int) :=
  obind (d_impl_MasterOf fu r1) fun Ac=>obind (d_impl_BoundsOk fu r1) fun Ag=>bif (!Ag) then some (2) else obind (d_impl_namesOk fu r1) fun Aa=>bif (!Aa) then some (3) else obind (d_impl_TableOk fu r1.fPairs r1.fClasses) fun Ae=>bif (!Ae) then some (4) else obind (d_slices_ContainsFunc_impl_Item_impl_Item fu r1.fItems (fun Af=>d_impl_Class_1 fu Af Ac.1)) fun Ah=>bif Ah then some (5) else obind (d_slices_ContainsFunc_impl_Type_impl_Type fu r1.fTypes (fun Ad=>d_impl_Class_2 fu Ad r1.fPallet)) fun Ab=>bif Ab then some (6) else some (0)

def d_impl_sound (fu:Nat) (r1:Request):Option (Bool) :=
  obind (d_impl_Class fu r1) fun Aa=>some (Aa == 0)

def d_bits_Mul64 (fu:Nat) (x1:Int) (y2:Int):Option (Int × Int) :=
  some (IntKind.wrap .u64 ((IntKind.wrap .u64 ((IntKind.wrap .u64 ((Int.fdiv x1 (2 ^ (min 32 (IntKind.bits .u64)))) * (Int.fdiv y2 (2 ^ (min 32 (IntKind.bits .u64)))))) + (Int.fdiv (IntKind.wrap .u64 ((IntKind.wrap .u64 ((Int.fdiv x1 (2 ^ (min 32 (IntKind.bits .u64)))) * (IntKind.wrap .u64 (((BitVec.ofInt (IntKind.bits .u64) y2 &&& BitVec.ofInt (IntKind.bits .u64) 4294967295).toNat:Nat):Int)))) + (Int.fdiv (IntKind.wrap .u64 ((IntKind.wrap .u64 (((BitVec.ofInt (IntKind.bits .u64) x1 &&& BitVec.ofInt (IntKind.bits .u64) 4294967295).toNat:Nat):Int)) * (IntKind.wrap .u64 (((BitVec.ofInt (IntKind.bits .u64) y2 &&& BitVec.ofInt (IntKind.bits .u64) 4294967295).toNat:Nat):Int)))) (2 ^ (min 32 (IntKind.bits .u64)))))) (2 ^ (min 32 (IntKind.bits .u64)))))) + (Int.fdiv (IntKind.wrap .u64 ((IntKind.wrap .u64 (((BitVec.ofInt (IntKind.bits .u64) (IntKind.wrap .u64 ((IntKind.wrap .u64 ((Int.fdiv x1 (2 ^ (min 32 (IntKind.bits .u64)))) * (IntKind.wrap .u64 (((BitVec.ofInt (IntKind.bits .u64) y2 &&& BitVec.ofInt (IntKind.bits .u64) 4294967295).toNat:Nat):Int)))) + (Int.fdiv (IntKind.wrap .u64 ((IntKind.wrap .u64 (((BitVec.ofInt (IntKind.bits .u64) x1 &&& BitVec.ofInt (IntKind.bits .u64) 4294967295).toNat:Nat):Int)) * (IntKind.wrap .u64 (((BitVec.ofInt (IntKind.bits .u64) y2 &&& BitVec.ofInt (IntKind.bits .u64) 4294967295).toNat:Nat):Int)))) (2 ^ (min 32 (IntKind.bits .u64)))))) &&& BitVec.ofInt (IntKind.bits .u64) 4294967295).toNat:Nat):Int)) + (IntKind.wrap .u64 ((IntKind.wrap .u64 (((BitVec.ofInt (IntKind.bits .u64) x1 &&& BitVec.ofInt (IntKind.bits .u64) 4294967295).toNat:Nat):Int)) * (Int.fdiv y2 (2 ^ (min 32 (IntKind.bits .u64)))))))) (2 ^ (min 32 (IntKind.bits .u64))))),IntKind.wrap .u64 (x1 * y2))

def d_bits_Mul (fu:Nat) (x1:Int) (y2:Int):Option (Int × Int) :=
  obind (d_bits_Mul64 fu x1 y2) fun x3=>some (x3.1,x3.2)

def d_slices_Repeat_int_int_L1_B (fu:Nat)   (k3:List Int → Int → Option ((List Int))) (Aa:List Int) (Ab:Int):Option ((List Int)) :=
  bif (decide (Ab < ((Aa.length:Int)))) then obind (sls Aa Ab (Aa.length:Int)) fun Ad=>obind (sls Aa 0 Ab) fun Ac=>k3 (cpd Aa Ab Ac) (w64 (Ab + (cpn Aa Ab Ac))) else some (Aa)
def d_slices_Repeat_int_int_L1 (fu:Nat)   : Nat → List Int → Int → Option ((List Int))
  | 0=>fun _ _=>none
  | n + 1=>d_slices_Repeat_int_int_L1_B fu  (d_slices_Repeat_int_int_L1 fu  n)

def d_slices_Repeat_int_int_J1 (fu:Nat) (x1:List Int) (x8:Int × Int)  : Option ((List Int)) :=
  obind (mk 8 (0:Int) (w64 x8.2)) fun Aa=>d_slices_Repeat_int_int_L1 fu fu (cpd Aa 0 x1) (cpn Aa 0 x1)

def d_slices_Repeat_int_int_J2 (fu:Nat) (x1:List Int) (Aa:Int)  : Option ((List Int)) :=
  obind (d_bits_Mul fu (IntKind.wrap .u64 ((x1.length:Int))) (IntKind.wrap .u64 Aa)) fun x8=>bif (decide (x8.1 > 0)) then none else bif (decide (x8.2 > 9223372036854775807)) then none else d_slices_Repeat_int_int_J1 fu x1 x8

def d_slices_Repeat_int_int (fu:Nat) (x1:List Int) (Aa:Int):Option ((List Int)) :=
  bif (decide (Aa < 0)) then none else d_slices_Repeat_int_int_J2 fu x1 Aa

def d_impl_Units_L1_B (fu:Nat)  (r1:Request) (k1:List Int → Int → Option ((List Int))) (Ab:List Int) (Aa:Int):Option ((List Int)) :=
  bif (decide (Aa < ((r1.fItems.length:Int)))) then obind (ix r1.fItems Aa) fun Ad=>obind (d_slices_Repeat_int_int fu (([Aa]:List Int)) Ad.fCount) fun Ac=>obind (apnd 8 Ab Ac) fun Ae=>k1 Ae (w64 (Aa + 1)) else some (Ab)
def d_impl_Units_L1 (fu:Nat)  (r1:Request):Nat → List Int → Int → Option ((List Int))
  | 0=>fun _ _=>none
  | n + 1=>d_impl_Units_L1_B fu r1 (d_impl_Units_L1 fu r1 n)

def d_impl_Units (fu:Nat) (r1:Request):Option ((List Int)) :=
  obind (d_impl_sound fu r1) fun Aa=>bif (!Aa) then some (([]:List Int)) else d_impl_Units_L1 fu r1 fu (([]:List Int)) 0

def d_impl_places_L1_B (fu:Nat)  (n1:Int) (k1:List Int → Int → Option ((List Int))) (Ab:List Int) (Aa:Int):Option ((List Int)) :=
  bif (decide (Aa < n1)) then obind (apnd 8 Ab (([Aa]:List Int))) fun Ac=>k1 Ac (w64 (Aa + 1)) else some (Ab)
def d_impl_places_L1 (fu:Nat)  (n1:Int):Nat → List Int → Int → Option ((List Int))
  | 0=>fun _ _=>none
  | n + 1=>d_impl_places_L1_B fu n1 (d_impl_places_L1 fu n1 n)

def d_impl_places (fu:Nat) (n1:Int):Option ((List Int)) :=
  d_impl_places_L1 fu n1 fu (([]:List Int)) 0

def d_impl_itemsOf_J1 (fu:Nat) (k3:List Item → Int → Option ((List Item))) (Aa:Int) (Ab:List Item):Option ((List Item)) :=
  k3 Ab (w64 (Aa + 1))

def d_impl_itemsOf_L1_B (fu:Nat)  (r1:Request) (Ae:List Int) (Ac:(List Int)) (k3:List Item → Int → Option ((List Item))) (Ab:List Item) (Aa:Int):Option ((List Item)) :=
  bif (decide (Aa < ((Ae.length:Int)))) then obind (ix Ae Aa) fun Ad=>obind (d_impl_in fu Ad 0 (w64 (((Ac.length:Int)) - 1))) fun Ah=>bif Ah then obind (ix Ac Ad) fun Ai=>obind (ix r1.fItems Ai) fun Ag=>obind (apnd 56 Ab (([Ag]:List Item))) fun Af=>d_impl_itemsOf_J1 fu k3 Aa Af else d_impl_itemsOf_J1 fu k3 Aa Ab else some (Ab)
def d_impl_itemsOf_L1 (fu:Nat)  (r1:Request) (Ab:List Int) (Aa:(List Int)):Nat → List Item → Int → Option ((List Item))
  | 0=>fun _ _=>none
  | n + 1=>d_impl_itemsOf_L1_B fu r1 Ab Aa (d_impl_itemsOf_L1 fu r1 Ab Aa n)

def d_impl_itemsOf (fu:Nat) (r1:Request) (Ab:List Int):Option ((List Item)) :=
  obind (d_impl_Units fu r1) fun Aa=>d_impl_itemsOf_L1 fu r1 Ab Aa fu (([]:List Item)) 0

def d_impl_Volume_J1 (fu:Nat) (Aa:Int) (h2:Int) (d3:Int)  : Option (Int) :=
  some (w64 ((w64 (Aa * h2)) * d3))

def d_impl_Volume (fu:Nat) (Aa:Int) (h2:Int) (d3:Int):Option (Int) :=
  obind (d_impl_in fu Aa 0 2000) fun Ab=>bif (!Ab) then some (0) else obind (d_impl_in fu h2 0 2000) fun Ac=>bif (!Ac) then some (0) else obind (d_impl_in fu d3 0 2000) fun Ad=>bif (!Ad) then some (0) else d_impl_Volume_J1 fu Aa h2 d3

def d_impl_VolumeOf_L1_B (fu:Nat)  (Ac:(List Item)) (k1:Int → Int → Option (Int)) (Ad:Int) (Aa:Int):Option (Int) :=
  bif (decide (Aa < ((Ac.length:Int)))) then obind (ix Ac Aa) fun Ab=>obind (d_impl_Volume fu Ab.fW Ab.fH Ab.fD) fun Ae=>k1 (w64 (Ad + Ae)) (w64 (Aa + 1)) else some (Ad)
def d_impl_VolumeOf_L1 (fu:Nat)  (Aa:(List Item)):Nat → Int → Int → Option (Int)
  | 0=>fun _ _=>none
  | n + 1=>d_impl_VolumeOf_L1_B fu Aa (d_impl_VolumeOf_L1 fu Aa n)

def d_impl_VolumeOf (fu:Nat) (r1:Request) (Ab:List Int):Option (Int) :=
  obind (d_impl_itemsOf fu r1 Ab) fun Aa=>d_impl_VolumeOf_L1 fu Aa fu 0 0

def d_impl_GramOf_L1_B (fu:Nat)  (Ac:(List Item)) (k1:Int → Int → Option (Int)) (Ab:Int) (Aa:Int):Option (Int) :=
  bif (decide (Aa < ((Ac.length:Int)))) then obind (ix Ac Aa) fun Ad=>k1 (w64 (Ab + Ad.fGram)) (w64 (Aa + 1)) else some (Ab)
def d_impl_GramOf_L1 (fu:Nat)  (Aa:(List Item)):Nat → Int → Int → Option (Int)
  | 0=>fun _ _=>none
  | n + 1=>d_impl_GramOf_L1_B fu Aa (d_impl_GramOf_L1 fu Aa n)

def d_impl_GramOf (fu:Nat) (r1:Request) (Ab:List Int):Option (Int) :=
  obind (d_impl_itemsOf fu r1 Ab) fun Aa=>d_impl_GramOf_L1 fu Aa fu 0 0

def d_impl_within (fu:Nat) (r1:Request) (Aa:List Int) (t9:Typ):Option (Bool) :=
  obind (d_impl_VolumeOf fu r1 Aa) fun Ad=>obind (d_impl_Volume fu t9.fW t9.fH t9.fD) fun Ac=>bif (decide (Ad ≤ Ac)) then obind (d_impl_GramOf fu r1 Aa) fun Ab=>some (decide (Ab ≤ t9.fGram)) else some (false)

def d_slices_Clone_int_int (fu:Nat) (Ab:List Int):Option ((List Int)) :=
  obind (apnd 8 (([]:List Int)) Ab) fun Aa=>some (Aa)

def d_impl_thereOf_1 (fu:Nat) (u1:Int) (x2:Int):Option (Bool) :=
  obind (d_impl_in fu u1 0 (w64 (x2 - 1))) fun x5=>some (!x5)

def d_slices_IndexFunc_int_int_L1_B (fu:Nat)  (Ab:List Int) (f5:Int → Option Bool) (k1:Int → Option (Int)) (Aa:Int):Option (Int) :=
  bif (decide (Aa < ((Ab.length:Int)))) then obind (ix Ab Aa) fun Ad=>obind (f5 Ad) fun Ac=>bif Ac then some (Aa) else k1 (w64 (Aa + 1)) else some ((-1))
def d_slices_IndexFunc_int_int_L1 (fu:Nat)  (Aa:List Int) (f5:Int → Option Bool):Nat → Int → Option (Int)
  | 0=>fun _=>none
  | n + 1=>d_slices_IndexFunc_int_int_L1_B fu Aa f5 (d_slices_IndexFunc_int_int_L1 fu Aa f5 n)

def d_slices_IndexFunc_int_int (fu:Nat) (Aa:List Int) (f5:Int → Option Bool):Option (Int) :=
  d_slices_IndexFunc_int_int_L1 fu Aa f5 fu 0

def d_slices_DeleteFunc_int_int_J1 (fu:Nat) (k3:List Int → Int → Int → Option ((List Int))) (Aa:Int) (Ac:List Int) (Ab:Int):Option ((List Int)) :=
  k3 Ac Ab (w64 (Aa + 1))

def d_slices_DeleteFunc_int_int_L1_B (fu:Nat)  (f5:Int → Option Bool) (k3:List Int → Int → Int → Option ((List Int))) (Aa:List Int) (Ab:Int) (Ac:Int):Option ((List Int)) :=
  bif (decide (Ac < ((Aa.length:Int)))) then obind (ix Aa Ac) fun Ad=>obind (f5 Ad) fun Af=>bif (!Af) then obind (ix Aa Ab) fun Ah=>d_slices_DeleteFunc_int_int_J1 fu k3 Ac (setx Aa Ab Ad) (w64 (Ab + 1)) else d_slices_DeleteFunc_int_int_J1 fu k3 Ac Aa Ab else obind (sls Aa Ab (Aa.length:Int)) fun Ag=>obind (sls (clrd Aa Ab) 0 Ab) fun Ae=>some (Ae)
def d_slices_DeleteFunc_int_int_L1 (fu:Nat)  (f5:Int → Option Bool):Nat → List Int → Int → Int → Option ((List Int))
  | 0=>fun _ _ _=>none
  | n + 1=>d_slices_DeleteFunc_int_int_L1_B fu f5 (d_slices_DeleteFunc_int_int_L1 fu f5 n)

def d_slices_DeleteFunc_int_int (fu:Nat) (Ab:List Int) (f5:Int → Option Bool):Option ((List Int)) :=
  obind (d_slices_IndexFunc_int_int fu Ab f5) fun Aa=>bif (Aa == ((-1))) then some (Ab) else d_slices_DeleteFunc_int_int_L1 fu f5 fu Ab Aa (w64 (Aa + 1))

def d_impl_thereOf (fu:Nat) (r1:Request) (Ae:List Int):Option ((List Int)) :=
  obind (d_impl_Units fu r1) fun Aa=>obind (d_slices_Clone_int_int fu Ae) fun Ac=>obind (d_slices_DeleteFunc_int_int fu Ac (fun Ad=>d_impl_thereOf_1 fu Ad ((Aa.length:Int)))) fun Ab=>some (Ab)

def d_slices_Equal_int_int_L1_B (fu:Nat)  (Ab:List Int) (Ac:List Int) (k1:Int → Option (Bool)) (Aa:Int):Option (Bool) :=
  bif (decide (Aa < ((Ab.length:Int)))) then obind (ix Ab Aa) fun Ae=>obind (ix Ac Aa) fun Ad=>bif (Ae != Ad) then some (false) else k1 (w64 (Aa + 1)) else some (true)
def d_slices_Equal_int_int_L1 (fu:Nat)  (Ab:List Int) (Aa:List Int):Nat → Int → Option (Bool)
  | 0=>fun _=>none
  | n + 1=>d_slices_Equal_int_int_L1_B fu Ab Aa (d_slices_Equal_int_int_L1 fu Ab Aa n)

def d_slices_Equal_int_int (fu:Nat) (Ab:List Int) (Aa:List Int):Option (Bool) :=
  bif (((Ab.length:Int)) != ((Aa.length:Int))) then some (false) else d_slices_Equal_int_int_L1 fu Ab Aa fu 0

def d_impl_IsPacking_J1 (fu:Nat) (k7:List Int → Int → Option (Bool)) (Aa:Int) (Ab:List Int):Option (Bool) :=
  k7 Ab (w64 (Aa + 1))

def d_impl_IsPacking_J2 (fu:Nat) (k7:List Int → Int → Option (Bool)) (Ac:List Int) (Aa:Int) (Ab:List Int)  : Option (Bool) :=
  obind (apnd 8 Ac Ab) fun Ad=>d_impl_IsPacking_J1 fu k7 Aa Ad

def d_impl_IsPacking_L1_B (fu:Nat)  (r1:Request) (Ak:List Int) (Ad:List (List Int)) (Af:Typ × Bool) (k7:List Int → Int → Option (Bool)) (Ac:List Int) (Ab:Int):Option (Bool) :=
  bif (decide (Ab < ((Ad.length:Int)))) then obind (ix Ad Ab) fun Aa=>bif (((Aa.length:Int)) == 0) then some (false) else obind (d_impl_within fu r1 Aa Af.1) fun Ai=>bif (!Ai) then some (false) else d_impl_IsPacking_J2 fu k7 Ac Ab Aa else obind (d_impl_thereOf fu r1 Ak) fun Ae=>obind (d_slices_Sort_int_int fu Ac) fun Ag=>obind (d_slices_Sort_int_int fu Ae) fun Ah=>obind (d_slices_Equal_int_int fu Ag Ah) fun Aj=>some (Aj)
def d_impl_IsPacking_L1 (fu:Nat)  (r1:Request) (Aa:List Int) (Ab:List (List Int)) (Ac:Typ × Bool):Nat → List Int → Int → Option (Bool)
  | 0=>fun _ _=>none
  | n + 1=>d_impl_IsPacking_L1_B fu r1 Aa Ab Ac (d_impl_IsPacking_L1 fu r1 Aa Ab Ac n)

def d_impl_IsPacking (fu:Nat) (r1:Request) (Ab:List Int) (Ac:List (List Int)):Option (Bool) :=
  obind (d_impl_sound fu r1) fun Aa=>bif (!Aa) then some (false) else obind (d_impl_MasterOf fu r1) fun Ad=>d_impl_IsPacking_L1 fu r1 Ab Ac Ad fu (([]:List Int)) 0

def d_impl_mutual (fu:Nat) (Aa:List Pair) (a5:Int) (b6:Int):Option (Bool) :=
  obind (d_impl_Beside fu Aa a5 b6) fun x7=>bif x7 then obind (d_impl_Beside fu Aa b6 a5) fun Ab=>some (Ab) else some (false)

def d_impl_mayLie_1_1 (fu:Nat) (y1:Item) (x2:Request) (Aa:Item):Option (Bool) :=
  obind (d_impl_mutual fu x2.fPairs Aa.fClass y1.fClass) fun Ab=>some (!Ab)

def d_impl_mayLie_1 (fu:Nat) (x1:Item) (x2:List Item) (x8:Request):Option (Bool) :=
  obind (d_slices_ContainsFunc_impl_Item_impl_Item fu x2 (fun Aa=>d_impl_mayLie_1_1 fu Aa x8 x1)) fun Ab=>some (Ab)

def d_impl_mayLie (fu:Nat) (r1:Request) (Aa:List Int) (u9:Int):Option (Bool) :=
  obind (d_impl_itemsOf fu r1 (([u9]:List Int))) fun Ab=>obind (d_impl_itemsOf fu r1 Aa) fun Ad=>obind (d_slices_ContainsFunc_impl_Item_impl_Item fu Ad (fun Ac=>d_impl_mayLie_1 fu Ac Ab r1)) fun Ae=>some (!Ae)

def d_impl_IsRival_1_1 (fu:Nat) (u1:Int) (x2:Request) (Aa:List Int):Option (Bool) :=
  obind (d_impl_mayLie fu x2 Aa u1) fun Ab=>some (!Ab)

def d_slices_ContainsFunc_int_int (fu:Nat) (Ab:List Int) (f5:Int → Option Bool):Option (Bool) :=
  obind (d_slices_IndexFunc_int_int fu Ab f5) fun Aa=>some (decide (Aa ≥ 0))

def d_impl_IsRival_1 (fu:Nat) (l1:List Int) (x5:Request):Option (Bool) :=
  obind (d_slices_ContainsFunc_int_int fu l1 (fun Aa=>d_impl_IsRival_1_1 fu Aa x5 l1)) fun Ab=>some (Ab)

def d_slices_IndexFunc_ints_int_L1_B (fu:Nat)  (Ab:List (List Int)) (f5:(List Int) → Option Bool) (k1:Int → Option (Int)) (Aa:Int):Option (Int) :=
  bif (decide (Aa < ((Ab.length:Int)))) then obind (ix Ab Aa) fun Ac=>obind (f5 Ac) fun Ad=>bif Ad then some (Aa) else k1 (w64 (Aa + 1)) else some ((-1))
def d_slices_IndexFunc_ints_int_L1 (fu:Nat)  (Aa:List (List Int)) (f5:(List Int) → Option Bool):Nat → Int → Option (Int)
  | 0=>fun _=>none
  | n + 1=>d_slices_IndexFunc_ints_int_L1_B fu Aa f5 (d_slices_IndexFunc_ints_int_L1 fu Aa f5 n)

def d_slices_IndexFunc_ints_int (fu:Nat) (Aa:List (List Int)) (f5:(List Int) → Option Bool):Option (Int) :=
  d_slices_IndexFunc_ints_int_L1 fu Aa f5 fu 0

def d_slices_ContainsFunc_ints_int (fu:Nat) (Ab:List (List Int)) (f5:(List Int) → Option Bool):Option (Bool) :=
  obind (d_slices_IndexFunc_ints_int fu Ab f5) fun Aa=>some (decide (Aa ≥ 0))

def d_impl_IsRival (fu:Nat) (r1:Request) (Aa:List (List Int)):Option (Bool) :=
  obind (d_impl_Units fu r1) fun Ac=>obind (d_impl_places fu ((Ac.length:Int))) fun Ae=>obind (d_impl_IsPacking fu r1 Ae Aa) fun Af=>bif (!Af) then some (false) else obind (d_slices_ContainsFunc_ints_int fu Aa (fun Ab=>d_impl_IsRival_1 fu Ab r1)) fun Ad=>some (!Ad)

def d_impl_cloneLists_L1_B (fu:Nat)  (l1:List (List Int)) (k1:List (List Int) → Int → Option ((List (List Int)))) (Ab:List (List Int)) (Aa:Int):Option ((List (List Int))) :=
  bif (decide (Aa < ((l1.length:Int)))) then obind (ix l1 Aa) fun Ae=>obind (d_slices_Clone_int_int fu Ae) fun Ad=>obind (apnd 24 Ab [Ad]) fun Ac=>k1 Ac (w64 (Aa + 1)) else some (Ab)
def d_impl_cloneLists_L1 (fu:Nat)  (l1:List (List Int)):Nat → List (List Int) → Int → Option ((List (List Int)))
  | 0=>fun _ _=>none
  | n + 1=>d_impl_cloneLists_L1_B fu l1 (d_impl_cloneLists_L1 fu l1 n)

def d_impl_cloneLists (fu:Nat) (l1:List (List Int)):Option ((List (List Int))) :=
  d_impl_cloneLists_L1 fu l1 fu (([]:List (List Int))) 0

def d_impl_Room (fu:Nat) (r1:Request) (Ad:List Int) (u9:Int):Option (Bool) :=
  obind (d_impl_MasterOf fu r1) fun Aa=>obind (d_impl_sound fu r1) fun Af=>bif Af then obind (d_slices_Clone_int_int fu Ad) fun Ae=>obind (apnd 8 Ae (([u9]:List Int))) fun Ab=>obind (d_impl_within fu r1 Ab Aa.1) fun Ac=>some (Ac) else some (false)

def d_slices_Delete_ints_int (fu:Nat) (x1:List (List Int)) (x2:Int) (x3:Int):Option (List (List Int)):=delI x1 x2 x3

def d_impl_without_J1 (fu:Nat) (Aa:List (List Int) → Int → Option ((List (List Int)) × Bool)) (Ac:Int) (Ab:List (List Int)):Option ((List (List Int)) × Bool) :=
  Aa Ab (w64 (Ac + 1))

def d_impl_without_J2 (fu:Nat) (Ag:List (List Int) → Int → Option ((List (List Int)) × Bool)) (Ac:List (List Int)) (Ab:List (List Int)) (Af:Int) (Ae:Int) (Aa:Int):Option ((List (List Int)) × Bool) :=
  bif (decide (Aa < 0)) then some (Ac,false) else obind (ix Ab Aa) fun Ah=>obind (apnd 8 Ah (([Ae]:List Int))) fun Ad=>obind (ix Ab Aa) fun Ai=>d_impl_without_J1 fu Ag Af (setx Ab Aa Ad)

def d_impl_without_J3 (fu:Nat) (Aa:Int → Option ((List (List Int)) × Bool)) (Ab:Int)  : Option ((List (List Int)) × Bool) :=
  Aa (w64 (Ab + 1))

def d_impl_without_L1_B (fu:Nat) (Ah:List (List Int) → Int → Option ((List (List Int)) × Bool)) (r1:Request) (Af:List (List Int)) (Ai:Int) (Ab:List (List Int)) (Ag:Int) (Ac:Int) (Ad:Int → Option ((List (List Int)) × Bool)) (Aa:Int):Option ((List (List Int)) × Bool) :=
  bif (decide (Aa < ((Ab.length:Int)))) then obind (ix Ab Aa) fun Ae=>bif (Aa != Ai) then obind (d_impl_Room fu r1 Ae Ac) fun Ak=>bif Ak then obind (d_impl_mayLie fu r1 Ae Ac) fun Aj=>bif Aj then d_impl_without_J2 fu Ah Af Ab Ag Ac Aa else d_impl_without_J3 fu Ad Aa else d_impl_without_J3 fu Ad Aa else d_impl_without_J3 fu Ad Aa else d_impl_without_J2 fu Ah Af Ab Ag Ac ((-1))
def d_impl_without_L1 (fu:Nat) (Af:List (List Int) → Int → Option ((List (List Int)) × Bool)) (r1:Request) (Aa:List (List Int)) (Ac:Int) (Ab:List (List Int)) (Ae:Int) (Ad:Int):Nat → Int → Option ((List (List Int)) × Bool)
  | 0=>fun _=>none
  | n + 1=>d_impl_without_L1_B fu Af r1 Aa Ac Ab Ae Ad (d_impl_without_L1 fu Af r1 Aa Ac Ab Ae Ad n)

def d_impl_without_L2_B (fu:Nat)  (r1:Request) (Af:List (List Int)) (Aa:Int) (Ad:List Int) (Ah:List (List Int) → Int → Option ((List (List Int)) × Bool)) (Ac:List (List Int)) (Ab:Int):Option ((List (List Int)) × Bool) :=
  bif (decide (Ab < ((Ad.length:Int)))) then obind (ix Ad Ab) fun Ag=>d_impl_without_L1 fu Ah r1 Af Aa Ac Ab Ag fu 0 else obind (d_slices_Delete_ints_int fu Ac Aa (w64 (Aa + 1))) fun Ae=>some (Ae,true)
def d_impl_without_L2 (fu:Nat)  (r1:Request) (Aa:List (List Int)) (Ab:Int) (Ac:List Int):Nat → List (List Int) → Int → Option ((List (List Int)) × Bool)
  | 0=>fun _ _=>none
  | n + 1=>d_impl_without_L2_B fu r1 Aa Ab Ac (d_impl_without_L2 fu r1 Aa Ab Ac n)

def d_impl_without (fu:Nat) (r1:Request) (Aa:List (List Int)) (Ab:Int):Option ((List (List Int)) × Bool) :=
  obind (d_impl_cloneLists fu Aa) fun Ad=>obind (ix Aa Ab) fun Ac=>d_impl_without_L2 fu r1 Aa Ab Ac fu Ad 0

def d_impl_Squeeze_L1_B (fu:Nat)  (r1:Request) (k1:List (List Int) → Int → Option ((List (List Int)))) (Ab:List (List Int)) (Aa:Int):Option ((List (List Int))) :=
  bif (decide (Aa ≥ 0)) then obind (d_impl_without fu r1 Ab Aa) fun Ac=>k1 Ac.1 (w64 (Aa - 1)) else some (Ab)
def d_impl_Squeeze_L1 (fu:Nat)  (r1:Request):Nat → List (List Int) → Int → Option ((List (List Int)))
  | 0=>fun _ _=>none
  | n + 1=>d_impl_Squeeze_L1_B fu r1 (d_impl_Squeeze_L1 fu r1 n)

def d_impl_Squeeze (fu:Nat) (r1:Request) (Aa:List (List Int)):Option ((List (List Int))) :=
  obind (d_impl_IsRival fu r1 Aa) fun Ab=>bif (!Ab) then some (([]:List (List Int))) else obind (d_impl_cloneLists fu Aa) fun Ac=>d_impl_Squeeze_L1 fu r1 fu Ac (w64 (((Aa.length:Int)) - 1))

def d_spec_Units (fu:Nat) (r1:Request):Option ((List Int)) :=
  obind (d_spec_Class fu r1) fun Ab=>bif (Ab != 0) then some (([]:List Int)) else obind (d_spec_l6Units fu r1) fun Aa=>some (Aa)

def d_spec_l7Known_J1 (fu:Nat) (k3:List Int → Int → Option ((List Int))) (Aa:Int) (Ab:List Int):Option ((List Int)) :=
  k3 Ab (w64 (Aa + 1))

def d_spec_l7Known_L1_B (fu:Nat)  (Ag:List Int) (Ac:List Int) (k3:List Int → Int → Option ((List Int))) (Ab:List Int) (Aa:Int):Option ((List Int)) :=
  bif (decide (Aa < ((Ac.length:Int)))) then obind (ix Ac Aa) fun Ad=>obind (d_spec_l1In fu Ad 0 (w64 (((Ag.length:Int)) - 1))) fun Ae=>bif Ae then obind (ix Ac Aa) fun Ah=>obind (apnd 8 Ab (([Ad]:List Int))) fun Af=>d_spec_l7Known_J1 fu k3 Aa Af else d_spec_l7Known_J1 fu k3 Aa Ab else some (Ab)
def d_spec_l7Known_L1 (fu:Nat)  (Aa:List Int) (Ab:List Int):Nat → List Int → Int → Option ((List Int))
  | 0=>fun _ _=>none
  | n + 1=>d_spec_l7Known_L1_B fu Aa Ab (d_spec_l7Known_L1 fu Aa Ab n)

def d_spec_l7Known (fu:Nat) (Aa:List Int) (Ab:List Int):Option ((List Int)) :=
  d_spec_l7Known_L1 fu Aa Ab fu (([]:List Int)) 0

def d_spec_l1Bit (fu:Nat) (Aa:Bool):Option (Int) :=
  bif Aa then some (1) else some (0)

def d_spec_l8Times_L1_B (fu:Nat)  (Ab:List Int) (x5:Int) (k1:Int → Int → Option (Int)) (Ac:Int) (Aa:Int):Option (Int) :=
  bif (decide (Aa < ((Ab.length:Int)))) then obind (ix Ab Aa) fun Ad=>obind (d_spec_l1Bit fu (Ad == x5)) fun Ae=>k1 (w64 (Ac + Ae)) (w64 (Aa + 1)) else some (Ac)
def d_spec_l8Times_L1 (fu:Nat)  (Aa:List Int) (x5:Int):Nat → Int → Int → Option (Int)
  | 0=>fun _ _=>none
  | n + 1=>d_spec_l8Times_L1_B fu Aa x5 (d_spec_l8Times_L1 fu Aa x5 n)

def d_spec_l8Times (fu:Nat) (Aa:List Int) (x5:Int):Option (Int) :=
  d_spec_l8Times_L1 fu Aa x5 fu 0 0

def d_spec_IsPacking_L1_B (fu:Nat)  (Ab:List Int) (Af:(List Int)) (Ad:Int → Option (Bool)) (Aa:Int):Option (Bool) :=
  bif (decide (Aa < ((Ab.length:Int)))) then obind (ix Ab Aa) fun Ac=>obind (ix Ab Aa) fun Ah=>obind (d_spec_l8Times fu Ab Ac) fun Ag=>obind (d_spec_l8Times fu Af Ac) fun Ae=>bif (Ag != Ae) then some (false) else Ad (w64 (Aa + 1)) else some (true)
def d_spec_IsPacking_L1 (fu:Nat)  (Aa:List Int) (Ab:(List Int)):Nat → Int → Option (Bool)
  | 0=>fun _=>none
  | n + 1=>d_spec_IsPacking_L1_B fu Aa Ab (d_spec_IsPacking_L1 fu Aa Ab n)

def d_spec_IsPacking_J1 (fu:Nat) (Ad:List Int) (Ac:(List Int)) (Aa:List Int):Option (Bool) :=
  obind (d_spec_l7Known fu Ac Ad) fun Ab=>bif (((Ab.length:Int)) != ((Aa.length:Int))) then some (false) else d_spec_IsPacking_L1 fu Aa Ab fu 0

def d_spec_IsPacking_J2 (fu:Nat) (Ab:List Int → Int → Option (Bool)) (Aa:Int) (Ac:List Int):Option (Bool) :=
  Ab Ac (w64 (Aa + 1))

def d_spec_IsPacking_J3 (fu:Nat) (Ac:List Int → Int → Option (Bool)) (Ae:List (List Int)) (Af:List Int) (Aa:Int)  : Option (Bool) :=
  obind (ix Ae Aa) fun Ab=>obind (apnd 8 Af Ab) fun Ad=>d_spec_IsPacking_J2 fu Ac Aa Ad

def d_spec_IsPacking_J4 (fu:Nat) (Ag:List Int → Int → Option (Bool)) (Ad:List (List Int)) (Aa:Typ × Bool) (Ah:List Int) (Ac:Int) (Ab:L7):Option (Bool) :=
  obind (ix Ad Ac) fun Af=>bif (((Af.length:Int)) == 0) then some (false) else obind (d_spec_Volume fu Aa.1.fW Aa.1.fH Aa.1.fD) fun Ae=>bif (decide (Ab.fvol > Ae)) then some (false) else bif (decide (Ab.fgram > Aa.1.fGram)) then some (false) else d_spec_IsPacking_J3 fu Ag Ad Ah Ac

def d_spec_IsPacking_L2_B (fu:Nat)  (r1:Request) (Ah:List Int) (Ab:List (List Int)) (Ae:Typ × Bool) (Ac:(List Int)) (Af:List Int → Int → Option (Bool)) (Ad:List Int) (Aa:Int):Option (Bool) :=
  bif (decide (Aa < ((Ab.length:Int)))) then obind (ix Ab Aa) fun Ag=>obind (d_spec_l7Of fu r1 Ac Ag) fun Ai=>d_spec_IsPacking_J4 fu Af Ab Ae Ad Aa Ai else d_spec_IsPacking_J1 fu Ah Ac Ad
def d_spec_IsPacking_L2 (fu:Nat)  (r1:Request) (Ab:List Int) (Ac:List (List Int)) (Ad:Typ × Bool) (Aa:(List Int)):Nat → List Int → Int → Option (Bool)
  | 0=>fun _ _=>none
  | n + 1=>d_spec_IsPacking_L2_B fu r1 Ab Ac Ad Aa (d_spec_IsPacking_L2 fu r1 Ab Ac Ad Aa n)

def d_spec_IsPacking (fu:Nat) (r1:Request) (Ae:List Int) (Ac:List (List Int)):Option (Bool) :=
  obind (d_spec_Class fu r1) fun Ad=>bif (Ad != 0) then some (false) else obind (d_spec_MasterOf fu r1) fun Ab=>obind (d_spec_l6Units fu r1) fun Aa=>d_spec_IsPacking_L2 fu r1 Ae Ac Ab Aa fu (([]:List Int)) 0

def d_spec_IsRival_J1 (fu:Nat) (Ab:Int → Option (Bool)) (Aa:Int)  : Option (Bool) :=
  Ab (w64 (Aa + 1))

def d_spec_IsRival_J2 (fu:Nat) (Aa:Int → Option (Bool)) (Ab:Int)  : Option (Bool) :=
  Aa (w64 (Ab + 1))

def d_spec_IsRival_J3 (fu:Nat) (Aa:Int → Option (Bool)) (Ab:Int)  : Option (Bool) :=
  Aa (w64 (Ab + 1))

def d_spec_IsRival_J4 (fu:Nat) (Ae:Int → Option (Bool)) (r1:Request) (Ac:Int) (Ad:Item) (Aa:Item):Option (Bool) :=
  obind (d_spec_Beside fu r1.fPairs Ad.fClass Aa.fClass) fun Ab=>bif (!Ab) then some (false) else d_spec_IsRival_J3 fu Ae Ac

def d_spec_IsRival_J5 (fu:Nat) (Af:Int → Option (Bool)) (r1:Request) (Ab:List (List Int)) (Ac:(List Int)) (Ad:Int) (Aa:Int) (Ag:Item):Option (Bool) :=
  obind (ix Ab Ad) fun Ah=>obind (ix Ah Aa) fun Ae=>obind (d_spec_l6Item fu r1 Ac Ae) fun Ai=>d_spec_IsRival_J4 fu Af r1 Aa Ag Ai.1

def d_spec_IsRival_L1_B (fu:Nat) (Ag:Int → Option (Bool)) (r1:Request) (Aa:List (List Int)) (Ac:(List Int)) (Ab:Int) (Ae:Int) (Ai:Int → Option (Bool)) (Af:Int):Option (Bool) :=
  obind (ix Aa Ab) fun Ad=>bif (decide (Af < ((Ad.length:Int)))) then obind (ix Aa Ab) fun Ak=>obind (ix Ad Ae) fun Aj=>obind (d_spec_l6Item fu r1 Ac Aj) fun Ah=>d_spec_IsRival_J5 fu Ai r1 Aa Ac Ab Af Ah.1 else d_spec_IsRival_J2 fu Ag Ae
def d_spec_IsRival_L1 (fu:Nat) (Aa:Int → Option (Bool)) (r1:Request) (Ab:List (List Int)) (Ac:(List Int)) (Ad:Int) (Ae:Int):Nat → Int → Option (Bool)
  | 0=>fun _=>none
  | n + 1=>d_spec_IsRival_L1_B fu Aa r1 Ab Ac Ad Ae (d_spec_IsRival_L1 fu Aa r1 Ab Ac Ad Ae n)

def d_spec_IsRival_L2_B (fu:Nat) (Ag:Int → Option (Bool)) (r1:Request) (Ab:List (List Int)) (Ae:(List Int)) (Aa:Int) (Ad:Int → Option (Bool)) (Ac:Int):Option (Bool) :=
  obind (ix Ab Aa) fun Af=>bif (decide (Ac < ((Af.length:Int)))) then d_spec_IsRival_L1 fu Ad r1 Ab Ae Aa Ac fu 0 else d_spec_IsRival_J1 fu Ag Aa
def d_spec_IsRival_L2 (fu:Nat) (Ad:Int → Option (Bool)) (r1:Request) (Aa:List (List Int)) (Ab:(List Int)) (Ac:Int):Nat → Int → Option (Bool)
  | 0=>fun _=>none
  | n + 1=>d_spec_IsRival_L2_B fu Ad r1 Aa Ab Ac (d_spec_IsRival_L2 fu Ad r1 Aa Ab Ac n)

def d_spec_IsRival_L3_B (fu:Nat)  (r1:Request) (Aa:List (List Int)) (Ac:(List Int)) (Ad:Int → Option (Bool)) (Ab:Int):Option (Bool) :=
  bif (decide (Ab < ((Aa.length:Int)))) then d_spec_IsRival_L2 fu Ad r1 Aa Ac Ab fu 0 else some (true)
def d_spec_IsRival_L3 (fu:Nat)  (r1:Request) (Aa:List (List Int)) (Ab:(List Int)):Nat → Int → Option (Bool)
  | 0=>fun _=>none
  | n + 1=>d_spec_IsRival_L3_B fu r1 Aa Ab (d_spec_IsRival_L3 fu r1 Aa Ab n)

def d_spec_IsRival (fu:Nat) (r1:Request) (Ab:List (List Int)):Option (Bool) :=
  obind (d_spec_Units fu r1) fun Aa=>obind (d_spec_l1Places fu ((Aa.length:Int))) fun Ac=>obind (d_spec_IsPacking fu r1 Ac Ab) fun Ad=>bif (!Ad) then some (false) else d_spec_IsRival_L3 fu r1 Ab Aa fu 0

def d_spec_l20Copy_L1_B (fu:Nat)  (Ac:List (List Int)) (k1:List (List Int) → Int → Option ((List (List Int)))) (Ab:List (List Int)) (Aa:Int):Option ((List (List Int))) :=
  bif (decide (Aa < ((Ac.length:Int)))) then obind (ix Ac Aa) fun Af=>obind (apnd 8 (([]:List Int)) Af) fun Ae=>obind (apnd 24 Ab [Ae]) fun Ad=>k1 Ad (w64 (Aa + 1)) else some (Ab)
def d_spec_l20Copy_L1 (fu:Nat)  (Aa:List (List Int)):Nat → List (List Int) → Int → Option ((List (List Int)))
  | 0=>fun _ _=>none
  | n + 1=>d_spec_l20Copy_L1_B fu Aa (d_spec_l20Copy_L1 fu Aa n)

def d_spec_l20Copy (fu:Nat) (Aa:List (List Int)):Option ((List (List Int))) :=
  d_spec_l20Copy_L1 fu Aa fu (([]:List (List Int))) 0

def d_spec_l20Empty_J1 (fu:Nat) (Aa:Int → Int → Option ((List (List Int)) × Bool)) (Ac:Int) (Ab:Int):Option ((List (List Int)) × Bool) :=
  Aa Ab (w64 (Ac - 1))

def d_spec_l20Empty_L1_B (fu:Nat) (k9:List (List Int) → Int → Option ((List (List Int)) × Bool)) (r1:Request) (Af:List Int) (m9:Typ) (Ak:List (List Int)) (Ah:Int) (Ac:List (List Int)) (Aj:Int) (Ae:Int) (Ad:Int → Int → Option ((List (List Int)) × Bool)) (Ab:Int) (Aa:Int):Option ((List (List Int)) × Bool) :=
  bif (decide (Aa ≥ 0)) then bif (Aa != Ah) then obind (ix Ac Aa) fun Ag=>obind (d_spec_l7Room fu r1 Af m9 Ag Ae) fun Ao=>bif Ao then obind (ix Ac Aa) fun Ap=>obind (d_spec_l18May fu r1 Af Ag Ae) fun Am=>bif Am then d_spec_l20Empty_J1 fu Ad Aa Aa else d_spec_l20Empty_J1 fu Ad Aa Ab else d_spec_l20Empty_J1 fu Ad Aa Ab else d_spec_l20Empty_J1 fu Ad Aa Ab else bif (decide (Ab < 0)) then some (Ak,false) else obind (ix Ac Ab) fun Ai=>obind (apnd 8 Ai (([Ae]:List Int))) fun Al=>obind (ix Ac Ab) fun Aq=>k9 (setx Ac Ab Al) (w64 (Aj + 1))
def d_spec_l20Empty_L1 (fu:Nat) (k9:List (List Int) → Int → Option ((List (List Int)) × Bool)) (r1:Request) (Ad:List Int) (m9:Typ) (Af:List (List Int)) (Aa:Int) (Ac:List (List Int)) (Ab:Int) (Ae:Int):Nat → Int → Int → Option ((List (List Int)) × Bool)
  | 0=>fun _ _=>none
  | n + 1=>d_spec_l20Empty_L1_B fu k9 r1 Ad m9 Af Aa Ac Ab Ae (d_spec_l20Empty_L1 fu k9 r1 Ad m9 Af Aa Ac Ab Ae n)

def d_spec_l20Empty_L2_B (fu:Nat)  (r1:Request) (Ah:List Int) (m9:Typ) (Ad:List (List Int)) (Aa:Int) (k9:List (List Int) → Int → Option ((List (List Int)) × Bool)) (Ab:List (List Int)) (Ac:Int):Option ((List (List Int)) × Bool) :=
  obind (ix Ad Aa) fun Ae=>bif (decide (Ac < ((Ae.length:Int)))) then obind (ix Ad Aa) fun Al=>obind (ix Ae Ac) fun Ai=>d_spec_l20Empty_L1 fu k9 r1 Ah m9 Ad Aa Ab Ac Ai fu ((-1)) (w64 (((Ab.length:Int)) - 1)) else obind (sls Ab 0 Aa) fun Ag=>obind (sls Ab (w64 (Aa + 1)) (Ab.length:Int)) fun Ak=>obind (apnd 24 (([]:List (List Int))) Ag) fun Af=>obind (apnd 24 Af Ak) fun Aj=>some (Aj,true)
def d_spec_l20Empty_L2 (fu:Nat)  (r1:Request) (Ac:List Int) (m9:Typ) (Aa:List (List Int)) (Ab:Int):Nat → List (List Int) → Int → Option ((List (List Int)) × Bool)
  | 0=>fun _ _=>none
  | n + 1=>d_spec_l20Empty_L2_B fu r1 Ac m9 Aa Ab (d_spec_l20Empty_L2 fu r1 Ac m9 Aa Ab n)

def d_spec_l20Empty (fu:Nat) (r1:Request) (Ac:List Int) (m9:Typ) (Aa:List (List Int)) (Ab:Int):Option ((List (List Int)) × Bool) :=
  obind (d_spec_l20Copy fu Aa) fun Ad=>d_spec_l20Empty_L2 fu r1 Ac m9 Aa Ab fu Ad 0

def d_spec_Squeeze_J1 (fu:Nat) (k3:List (List Int) → Int → Option ((List (List Int)))) (Ab:Int) (Aa:List (List Int)):Option ((List (List Int))) :=
  k3 Aa (w64 (Ab - 1))

def d_spec_Squeeze_L1_B (fu:Nat)  (r1:Request) (Ae:Typ × Bool) (Ad:(List Int)) (k3:List (List Int) → Int → Option ((List (List Int)))) (Ab:List (List Int)) (Aa:Int):Option ((List (List Int))) :=
  bif (decide (Aa ≥ 0)) then obind (d_spec_l20Empty fu r1 Ad Ae.1 Ab Aa) fun Ac=>bif Ac.2 then d_spec_Squeeze_J1 fu k3 Aa Ac.1 else d_spec_Squeeze_J1 fu k3 Aa Ab else some (Ab)
def d_spec_Squeeze_L1 (fu:Nat)  (r1:Request) (Aa:Typ × Bool) (Ab:(List Int)):Nat → List (List Int) → Int → Option ((List (List Int)))
  | 0=>fun _ _=>none
  | n + 1=>d_spec_Squeeze_L1_B fu r1 Aa Ab (d_spec_Squeeze_L1 fu r1 Aa Ab n)

def d_spec_Squeeze (fu:Nat) (r1:Request) (Aa:List (List Int)):Option ((List (List Int))) :=
  obind (d_spec_IsRival fu r1 Aa) fun Ab=>bif (!Ab) then some (([]:List (List Int))) else obind (d_spec_MasterOf fu r1) fun Ad=>obind (d_spec_l6Units fu r1) fun Ac=>obind (d_spec_l20Copy fu Aa) fun Ae=>d_spec_Squeeze_L1 fu r1 Ad Ac fu Ae (w64 (((Aa.length:Int)) - 1))

def d_impl_Spare (fu:Nat) (r1:Request) (Aa:List (List Int)):Option (Int) :=
  obind (d_impl_IsRival fu r1 Aa) fun Ab=>bif (!Ab) then some (0) else obind (d_impl_Squeeze fu r1 Aa) fun Ac=>some (w64 (((Aa.length:Int)) - ((Ac.length:Int))))

def d_spec_Spare (fu:Nat) (r1:Request) (Aa:List (List Int)):Option (Int) :=
  obind (d_spec_IsRival fu r1 Aa) fun Ab=>bif (!Ab) then some (0) else obind (d_spec_Squeeze fu r1 Aa) fun Ac=>some (w64 (((Aa.length:Int)) - ((Ac.length:Int))))

def d_impl_masterRoom (fu:Nat) (r1:Request):Option (Int × Int) :=
  obind (d_impl_MasterOf fu r1) fun Aa=>obind (d_impl_Volume fu Aa.1.fW Aa.1.fH Aa.1.fD) fun Ab=>some (Ab,Aa.1.fGram)

def d_impl_upBy (fu:Nat) (a1:Int) (b2:Int):Option (Int) :=
  obind (odiv b2) fun u3=>some (w64 (Int.tdiv (w64 ((w64 (a1 + b2)) - 1)) b2))

def d_impl_LowerVolume (fu:Nat) (r1:Request) (Ae:List Int):Option (Int) :=
  obind (d_impl_sound fu r1) fun Aa=>bif (!Aa) then some (0) else obind (d_impl_masterRoom fu r1) fun Ac=>obind (d_impl_VolumeOf fu r1 Ae) fun Ab=>obind (d_impl_upBy fu Ab Ac.1) fun Ad=>some (Ad)

def d_impl_LowerGram (fu:Nat) (r1:Request) (Ae:List Int):Option (Int) :=
  obind (d_impl_sound fu r1) fun Aa=>bif (!Aa) then some (0) else obind (d_impl_masterRoom fu r1) fun Ac=>obind (d_impl_GramOf fu r1 Ae) fun Ab=>obind (d_impl_upBy fu Ab Ac.2) fun Ad=>some (Ad)

def d_impl_LowerGreat_J1 (fu:Nat) (k7:Int → Int → Int → Option (Int)) (Ab:Int) (Ac:Int) (Aa:Int):Option (Int) :=
  k7 Ac Aa (w64 (Ab + 1))

def d_impl_LowerGreat_J2 (fu:Nat) (k7:Int → Int → Int → Option (Int)) (Ad:Int × Int) (Aa:Int) (Ab:Int) (Ae:Item) (Ac:Int):Option (Int) :=
  bif (decide ((w64 (2 * Ae.fGram)) > Ad.2)) then d_impl_LowerGreat_J1 fu k7 Ab Ac (w64 (Aa + 1)) else d_impl_LowerGreat_J1 fu k7 Ab Ac Aa

def d_impl_LowerGreat_L1_B (fu:Nat)  (Ae:Int × Int) (Af:(List Item)) (k7:Int → Int → Int → Option (Int)) (Ad:Int) (Ab:Int) (Ac:Int):Option (Int) :=
  bif (decide (Ac < ((Af.length:Int)))) then obind (ix Af Ac) fun Aa=>obind (d_impl_Volume fu Aa.fW Aa.fH Aa.fD) fun Ag=>bif (decide ((w64 (2 * Ag)) > Ae.1)) then d_impl_LowerGreat_J2 fu k7 Ae Ab Ac Aa (w64 (Ad + 1)) else d_impl_LowerGreat_J2 fu k7 Ae Ab Ac Aa Ad else some (if Ab > Ad then Ab else Ad)
def d_impl_LowerGreat_L1 (fu:Nat)  (Ab:Int × Int) (Aa:(List Item)):Nat → Int → Int → Int → Option (Int)
  | 0=>fun _ _ _=>none
  | n + 1=>d_impl_LowerGreat_L1_B fu Ab Aa (d_impl_LowerGreat_L1 fu Ab Aa n)

def d_impl_LowerGreat (fu:Nat) (r1:Request) (Ab:List Int):Option (Int) :=
  obind (d_impl_sound fu r1) fun Aa=>bif (!Aa) then some (0) else obind (d_impl_masterRoom fu r1) fun Ad=>obind (d_impl_itemsOf fu r1 Ab) fun Ac=>d_impl_LowerGreat_L1 fu Ad Ac fu 0 0 0

def d_impl_Lower (fu:Nat) (r1:Request) (Ac:List Int):Option (Int) :=
  obind (d_impl_LowerVolume fu r1 Ac) fun Aa=>obind (d_impl_LowerGram fu r1 Ac) fun Ab=>obind (d_impl_LowerGreat fu r1 Ac) fun Ad=>some (if Ad > (if Ab > Aa then Ab else Aa) then Ad else (if Ab > Aa then Ab else Aa))

end Go.Proofs.YthddjkokpfdbnaaGreat
