/- FnTexts: what the functions that it reaches compute,on plain data. Printed by gen.py. -/
import Derived.Test.YthkaklkinepfkaaGreatDoorS15
import Derived.Test.YthkaklkinepfkaaGreatDoorS17
set_option linter.unusedVariables false
namespace Go.Proofs.YthkaklkinepfkaaGreatDoor
open Go
def d_laws_big (fu:Nat) (Aa:List U8):Option (Bool) :=
  some (decide (((Aa.length:Int)) > 1048576))

def d_spec_l1New_J1 (fu:Nat) (k3:Int → Int → Option (Cur)) (Ac:List U8) (Ad:Int) (Aa:Int)  : Option (Cur) :=
  obind (ix Ac Aa) fun Ab=>k3 (IntKind.wrap .i64 (((BitVec.ofInt (IntKind.bits .i64) (w64 ((w64 ((w64 (Ad * 131)) + (w64 Ab.n))) + 7)) &&& BitVec.ofInt (IntKind.bits .i64) 1073741823).toNat:Nat):Int)) (w64 (Aa + 1))

def d_spec_l1New_L1_B (fu:Nat)  (Aa:List U8) (k3:Int → Int → Option (Cur)) (Ac:Int) (Ab:Int):Option (Cur) :=
  bif (decide (Ab < ((Aa.length:Int)))) then bif (decide (Ab < 4000)) then d_spec_l1New_J1 fu k3 Aa Ac Ab else some ((⟨Aa,0,Ac⟩:Cur)) else some ((⟨Aa,0,Ac⟩:Cur))
def d_spec_l1New_L1 (fu:Nat)  (Aa:List U8):Nat → Int → Int → Option (Cur)
  | 0=>fun _ _=>none
  | n + 1=>d_spec_l1New_L1_B fu Aa (d_spec_l1New_L1 fu Aa n)

def d_spec_l1New (fu:Nat) (Aa:List U8):Option (Cur) :=
  d_spec_l1New_L1 fu Aa fu (w64 (26583 + ((Aa.length:Int)))) 0

def d_spec_l1Byte (fu:Nat) (c1:Cur):Option (Int × Cur) :=
  bif (decide (c1.fi < ((c1.fb.length:Int)))) then obind (ix c1.fb c1.fi) fun Aa=>some (IntKind.wrap .i64 (((BitVec.ofInt (IntKind.bits .i64) (w64 ((IntKind.wrap .i64 (((BitVec.ofInt (IntKind.bits .i64) (IntKind.wrap .i64 (((BitVec.ofInt (IntKind.bits .i64) (Int.fdiv (w64 ((w64 (c1.fh * 6364136223846793005)) + 1442695040888963407)) (2 ^ (min 33 (IntKind.bits .i64)))) ^^^ BitVec.ofInt (IntKind.bits .i64) (Int.fdiv (w64 ((w64 (c1.fh * 6364136223846793005)) + 1442695040888963407)) (2 ^ (min 45 (IntKind.bits .i64))))).toNat:Nat):Int)) &&& BitVec.ofInt (IntKind.bits .i64) 255).toNat:Nat):Int)) + (w64 Aa.n))) &&& BitVec.ofInt (IntKind.bits .i64) 255).toNat:Nat):Int),(⟨c1.fb,w64 (c1.fi + 1),w64 ((w64 (c1.fh * 6364136223846793005)) + 1442695040888963407)⟩:Cur)) else some (IntKind.wrap .i64 (((BitVec.ofInt (IntKind.bits .i64) (IntKind.wrap .i64 (((BitVec.ofInt (IntKind.bits .i64) (Int.fdiv (w64 ((w64 (c1.fh * 6364136223846793005)) + 1442695040888963407)) (2 ^ (min 33 (IntKind.bits .i64)))) ^^^ BitVec.ofInt (IntKind.bits .i64) (Int.fdiv (w64 ((w64 (c1.fh * 6364136223846793005)) + 1442695040888963407)) (2 ^ (min 45 (IntKind.bits .i64))))).toNat:Nat):Int)) &&& BitVec.ofInt (IntKind.bits .i64) 255).toNat:Nat):Int),(⟨c1.fb,c1.fi,w64 ((w64 (c1.fh * 6364136223846793005)) + 1442695040888963407)⟩:Cur))

def d_spec_l1Below (fu:Nat) (c1:Cur) (n7:Int):Option (Int × Cur) :=
  bif (decide (n7 ≤ 0)) then some (0,c1) else bif (decide (n7 ≤ 256)) then obind (d_spec_l1Byte fu c1) fun Ae=>obind (odiv n7) fun Ag=>some (Int.tmod Ae.1 n7,(⟨c1.fb,Ae.2.fi,Ae.2.fh⟩:Cur)) else obind (d_spec_l1Byte fu c1) fun Ac=>obind (d_spec_l1Byte fu ((⟨c1.fb,Ac.2.fi,Ac.2.fh⟩:Cur))) fun Ab=>obind (d_spec_l1Byte fu ((⟨c1.fb,Ab.2.fi,Ab.2.fh⟩:Cur))) fun Aa=>obind (d_spec_l1Byte fu ((⟨c1.fb,Aa.2.fi,Aa.2.fh⟩:Cur))) fun Ad=>obind (odiv n7) fun Af=>some (Int.tmod (w64 ((w64 ((w64 ((w64 (Ac.1 * 16777216)) + (w64 (Ab.1 * 65536)))) + (w64 (Aa.1 * 256)))) + Ad.1)) n7,(⟨c1.fb,Ad.2.fi,Ad.2.fh⟩:Cur))

def d_spec_l1Once (fu:Nat) (c1:Cur) (n7:Int):Option (Bool × Cur) :=
  obind (d_spec_l1Below fu c1 n7) fun x9=>some (x9.1 == 0,(⟨c1.fb,x9.2.fi,x9.2.fh⟩:Cur))

def d_spec_l1PickInt (fu:Nat) (c1:Cur) (Ab:List Int):Option (Int × Cur) :=
  obind (d_spec_l1Below fu c1 ((Ab.length:Int))) fun Aa=>obind (ix Ab Aa.1) fun Ac=>some (Ac,(⟨c1.fb,Aa.2.fi,Aa.2.fh⟩:Cur))

def d_spec_l2Right_J1 (fu:Nat) (Ae:Int → Int → List Pair → Int → Option (Request × Cur)) (Ab:Int) (Aa:Int) (Ac:Int) (Ad:List Pair):Option (Request × Cur) :=
  Ae Aa Ac Ad (w64 (Ab + 1))

def d_spec_l2Right_L1_B (fu:Nat) (k9:Int → Int → List Pair → Int → Option (Request × Cur)) (c1:Cur) (Ab:Int) (Ag:Int → Int → List Pair → Int → Option (Request × Cur)) (Ae:Int) (Af:Int) (Ad:List Pair) (Aa:Int):Option (Request × Cur) :=
  bif (decide (Aa ≤ Ab)) then bif (Ab == Aa) then obind (apnd 16 Ad (([(⟨Ab,Ab⟩:Pair)]:List Pair))) fun Ah=>d_spec_l2Right_J1 fu Ag Aa Ae Af Ah else obind (d_spec_l1Once fu ((⟨c1.fb,Ae,Af⟩:Cur)) 2) fun Ac=>bif Ac.1 then obind (apnd 16 Ad (([(⟨Ab,Aa⟩:Pair),(⟨Aa,Ab⟩:Pair)]:List Pair))) fun Ai=>d_spec_l2Right_J1 fu Ag Aa Ac.2.fi Ac.2.fh Ai else d_spec_l2Right_J1 fu Ag Aa Ac.2.fi Ac.2.fh Ad else k9 Ae Af Ad (w64 (Ab + 1))
def d_spec_l2Right_L1 (fu:Nat) (k9:Int → Int → List Pair → Int → Option (Request × Cur)) (c1:Cur) (Aa:Int):Nat → Int → Int → List Pair → Int → Option (Request × Cur)
  | 0=>fun _ _ _ _=>none
  | n + 1=>d_spec_l2Right_L1_B fu k9 c1 Aa (d_spec_l2Right_L1 fu k9 c1 Aa n)

def d_spec_l2Right_J2 (fu:Nat) (Af:Int → Int → List Item → Int → Int → Option (Request × Cur)) (Ad:Int) (Aa:Int) (Ab:Int) (Ae:List Item) (Ac:Int):Option (Request × Cur) :=
  Af Aa Ab Ae Ac (w64 (Ad + 1))

def d_spec_l2Right_J3 (fu:Nat) (Af:Int → Int → List Item → Int → Int → Option (Request × Cur)) (Ag:List Item) (Aa:Int) (Ad:Int) (Ac:Int) (Ae:Int) (Ab:Item):Option (Request × Cur) :=
  bif (decide ((w64 (Aa + Ab.fCount)) ≤ 12)) then obind (apnd 56 Ag (([Ab]:List Item))) fun Ah=>d_spec_l2Right_J2 fu Af Ad Ac Ae Ah (w64 (Aa + Ab.fCount)) else d_spec_l2Right_J2 fu Af Ad Ac Ae Ag Aa

def d_spec_l2Right_J4 (fu:Nat) (Af:Int → Int → List Item → Int → Int → Option (Request × Cur)) (c1:Cur) (Ag:List Item) (Ae:Int) (Ad:Int) (Ai:Int) (Ah:Int) (Ab:Item):Option (Request × Cur) :=
  obind (d_spec_l1Once fu ((⟨c1.fb,Ai,Ah⟩:Cur)) 3) fun Aa=>bif Aa.1 then obind (d_spec_l1Below fu ((⟨c1.fb,Aa.2.fi,Aa.2.fh⟩:Cur)) 8) fun Ac=>d_spec_l2Right_J3 fu Af Ag Ae Ad Ac.2.fi Ac.2.fh ((⟨Ab.fId,5,5,w64 (4 + Ac.1),Ab.fGram,Ab.fClass,Ab.fCount⟩:Item)) else d_spec_l2Right_J3 fu Af Ag Ae Ad Aa.2.fi Aa.2.fh Ab

def d_spec_l2Right_L2_B (fu:Nat)  (c1:Cur) (Av:Int × Cur) (Al:Int × Cur) (Ar:Int × Cur) (Ao:Int × Cur) (Ap:Int × Cur) (Ai:Int × Cur) (At:List Pair) (As:List Typ) (Aq:Int × Cur) (Au:Int → Int → List Item → Int → Int → Option (Request × Cur)) (Ak:Int) (Ah:Int) (Aj:List Item) (Am:Int) (Af:Int):Option (Request × Cur) :=
  bif (decide (Af < Aq.1)) then obind (d_spec_l1Below fu ((⟨c1.fb,Ak,Ah⟩:Cur)) 10) fun Ab=>obind (d_spec_l1Below fu ((⟨c1.fb,Ab.2.fi,Ab.2.fh⟩:Cur)) 10) fun Ad=>obind (d_spec_l1Below fu ((⟨c1.fb,Ad.2.fi,Ad.2.fh⟩:Cur)) 10) fun Ae=>obind (d_spec_l1Below fu ((⟨c1.fb,Ae.2.fi,Ae.2.fh⟩:Cur)) 60) fun Ag=>obind (d_spec_l1Below fu ((⟨c1.fb,Ag.2.fi,Ag.2.fh⟩:Cur)) (w64 (1 + Ai.1))) fun Aa=>obind (d_spec_l1Below fu ((⟨c1.fb,Aa.2.fi,Aa.2.fh⟩:Cur)) 4) fun Ac=>d_spec_l2Right_J4 fu Au c1 Aj Am Af Ac.2.fi Ac.2.fh ((⟨w64 (3 * Af),w64 (1 + Ab.1),w64 (1 + Ad.1),w64 (1 + Ae.1),w64 (1 + Ag.1),Aa.1,w64 (1 + Ac.1)⟩:Item)) else some ((⟨Av.1,(⟨Al.1,Ar.1,Ao.1,Ap.1⟩:Pallet),w64 (1 + Ai.1),At,As,7,Aj⟩:Request),(⟨c1.fb,Ak,Ah⟩:Cur))
def d_spec_l2Right_L2 (fu:Nat)  (c1:Cur) (Ai:Int × Cur) (Ab:Int × Cur) (Ac:Int × Cur) (Ad:Int × Cur) (Aa:Int × Cur) (Ae:Int × Cur) (Ag:List Pair) (Af:List Typ) (Ah:Int × Cur):Nat → Int → Int → List Item → Int → Int → Option (Request × Cur)
  | 0=>fun _ _ _ _ _=>none
  | n + 1=>d_spec_l2Right_L2_B fu c1 Ai Ab Ac Ad Aa Ae Ag Af Ah (d_spec_l2Right_L2 fu c1 Ai Ab Ac Ad Aa Ae Ag Af Ah n)

def d_spec_l2Right_L3_B (fu:Nat)  (c1:Cur) (Av:Int × Cur) (Al:Int × Cur) (At:Int × Cur) (Am:Int × Cur) (Ap:Int × Cur) (As:Int × Cur) (Au:List Pair) (Ao:Int × Cur) (Ar:Int → Int → List Typ → Int → Option (Request × Cur)) (Ai:Int) (Aj:Int) (Ak:List Typ) (Af:Int):Option (Request × Cur) :=
  bif (decide (Af < Ao.1)) then obind (d_spec_l1Below fu ((⟨c1.fb,Ai,Aj⟩:Cur)) 9) fun Ag=>obind (d_spec_l1Below fu ((⟨c1.fb,Ag.2.fi,Ag.2.fh⟩:Cur)) 8) fun Ac=>obind (d_spec_l1Below fu ((⟨c1.fb,Ac.2.fi,Ac.2.fh⟩:Cur)) 9) fun Ad=>obind (d_spec_l1Below fu ((⟨c1.fb,Ad.2.fi,Ad.2.fh⟩:Cur)) 5) fun Ab=>obind (d_spec_l1Below fu ((⟨c1.fb,Ab.2.fi,Ab.2.fh⟩:Cur)) 90) fun Aa=>obind (d_spec_l1Below fu ((⟨c1.fb,Aa.2.fi,Aa.2.fh⟩:Cur)) 20) fun Ah=>obind (apnd 56 Ak (([(⟨w64 (10 + Af),w64 (4 + Ag.1),w64 (3 + Ac.1),w64 (3 + Ad.1),Ab.1,w64 (20 + Aa.1),w64 (1 + Ah.1)⟩:Typ)]:List Typ))) fun Aq=>Ar Ah.2.fi Ah.2.fh Aq (w64 (Af + 1)) else obind (d_spec_l1Below fu ((⟨c1.fb,Ai,Aj⟩:Cur)) 6) fun Ae=>d_spec_l2Right_L2 fu c1 Av Al At Am Ap As Au Ak Ae fu Ae.2.fi Ae.2.fh (([]:List Item)) 0 0
def d_spec_l2Right_L3 (fu:Nat)  (c1:Cur) (Ah:Int × Cur) (Ab:Int × Cur) (Ac:Int × Cur) (Ad:Int × Cur) (Aa:Int × Cur) (Ae:Int × Cur) (Af:List Pair) (Ag:Int × Cur):Nat → Int → Int → List Typ → Int → Option (Request × Cur)
  | 0=>fun _ _ _ _=>none
  | n + 1=>d_spec_l2Right_L3_B fu c1 Ah Ab Ac Ad Aa Ae Af Ag (d_spec_l2Right_L3 fu c1 Ah Ab Ac Ad Aa Ae Af Ag n)

def d_spec_l2Right_J5 (fu:Nat) (c1:Cur) (Ak:Int × Cur) (Ad:Int × Cur) (Af:Int × Cur) (Ag:Int × Cur) (Ac:Int × Cur) (Ah:Int × Cur) (Ai:List Pair) (Aj:Int) (Ab:Int) (Ae:List Typ):Option (Request × Cur) :=
  obind (d_spec_l1Below fu ((⟨c1.fb,Aj,Ab⟩:Cur)) 5) fun Aa=>d_spec_l2Right_L3 fu c1 Ak Ad Af Ag Ac Ah Ai Aa fu Aa.2.fi Aa.2.fh Ae 0

def d_spec_l2Right_L4_B (fu:Nat)  (c1:Cur) (Ao:Int × Cur) (Aj:Int × Cur) (Al:Int × Cur) (Am:Int × Cur) (Ak:Int × Cur) (Af:Int × Cur) (k9:Int → Int → List Pair → Int → Option (Request × Cur)) (Ad:Int) (Ag:Int) (Ah:List Pair) (Ae:Int):Option (Request × Cur) :=
  bif (decide (Ae < (w64 (1 + Af.1)))) then d_spec_l2Right_L1 fu k9 c1 Ae fu Ad Ag Ah 0 else obind (d_spec_l1Below fu ((⟨c1.fb,Ad,Ag⟩:Cur)) 8) fun Ab=>obind (d_spec_l1PickInt fu ((⟨c1.fb,Ab.2.fi,Ab.2.fh⟩:Cur)) (([60,100,140]:List Int))) fun Ac=>obind (d_spec_l1PickInt fu ((⟨c1.fb,Ac.2.fi,Ac.2.fh⟩:Cur)) (([9,20]:List Int))) fun Aa=>obind (apnd 56 (([]:List Typ)) (([(⟨7,12,10,11,Ab.1,Ac.1,Aa.1⟩:Typ)]:List Typ))) fun Ai=>d_spec_l2Right_J5 fu c1 Ao Aj Al Am Ak Af Ah Aa.2.fi Aa.2.fh Ai
def d_spec_l2Right_L4 (fu:Nat)  (c1:Cur) (Af:Int × Cur) (Ab:Int × Cur) (Ac:Int × Cur) (Ad:Int × Cur) (Aa:Int × Cur) (Ae:Int × Cur):Nat → Int → Int → List Pair → Int → Option (Request × Cur)
  | 0=>fun _ _ _ _=>none
  | n + 1=>d_spec_l2Right_L4_B fu c1 Af Ab Ac Ad Aa Ae (d_spec_l2Right_L4 fu c1 Af Ab Ac Ad Aa Ae n)

def d_spec_l2Right (fu:Nat) (c1:Cur):Option (Request × Cur) :=
  obind (d_spec_l1Below fu c1 2) fun Af=>obind (d_spec_l1PickInt fu ((⟨c1.fb,Af.2.fi,Af.2.fh⟩:Cur)) (([20,30,37]:List Int))) fun Ab=>obind (d_spec_l1PickInt fu ((⟨c1.fb,Ab.2.fi,Ab.2.fh⟩:Cur)) (([20,25,40]:List Int))) fun Ac=>obind (d_spec_l1PickInt fu ((⟨c1.fb,Ac.2.fi,Ac.2.fh⟩:Cur)) (([15,24,50]:List Int))) fun Ad=>obind (d_spec_l1PickInt fu ((⟨c1.fb,Ad.2.fi,Ad.2.fh⟩:Cur)) (([150,400,5000]:List Int))) fun Aa=>obind (d_spec_l1Below fu ((⟨c1.fb,Aa.2.fi,Aa.2.fh⟩:Cur)) 4) fun Ae=>d_spec_l2Right_L4 fu c1 Af Ab Ac Ad Aa Ae fu Ae.2.fi Ae.2.fh (([]:List Pair)) 0

def d_spec_l1In (fu:Nat) (x1:Int) (Aa:Int) (Ab:Int):Option (Bool) :=
  bif (decide (x1 ≥ Aa)) then some (decide (x1 ≤ Ab)) else some (false)

def d_spec_l2Side (fu:Nat) (x1:Int):Option (Bool) :=
  obind (d_spec_l1In fu x1 1 2000) fun x2=>some (x2)

def d_spec_PalletOk (fu:Nat) (x1:Pallet):Option (Bool) :=
  obind (d_spec_l2Side fu x1.fW) fun x5=>bif x5 then obind (d_spec_l2Side fu x1.fD) fun Ac=>bif Ac then obind (d_spec_l2Side fu x1.fH) fun Aa=>bif Aa then obind (d_spec_l1In fu x1.fGram 1 100000) fun Ab=>some (Ab) else some (false) else some (false) else some (false)

def d_spec_l2Id (fu:Nat) (x1:Int):Option (Bool) :=
  obind (d_spec_l1In fu x1 0 999) fun x2=>some (x2)

def d_spec_TypeOk (fu:Nat) (x1:Typ):Option (Bool) :=
  obind (d_spec_l2Id fu x1.fId) fun x5=>bif x5 then obind (d_spec_l2Side fu x1.fW) fun Af=>bif Af then obind (d_spec_l2Side fu x1.fH) fun Ac=>bif Ac then obind (d_spec_l2Side fu x1.fD) fun Aa=>bif Aa then obind (d_spec_l1In fu x1.fTare 0 100000) fun Ad=>bif Ad then obind (d_spec_l1In fu x1.fGram 1 100000) fun Ae=>bif Ae then obind (d_spec_l1In fu x1.fCost 0 100000) fun Ab=>some (Ab) else some (false) else some (false) else some (false) else some (false) else some (false) else some (false)

def d_spec_ItemOk (fu:Nat) (x1:Item):Option (Bool) :=
  obind (d_spec_l2Id fu x1.fId) fun x5=>bif x5 then obind (d_spec_l2Side fu x1.fW) fun Af=>bif Af then obind (d_spec_l2Side fu x1.fH) fun Ac=>bif Ac then obind (d_spec_l2Side fu x1.fD) fun Aa=>bif Aa then obind (d_spec_l1In fu x1.fGram 1 100000) fun Ad=>bif Ad then obind (d_spec_l1In fu x1.fClass 0 3) fun Ae=>bif Ae then obind (d_spec_l1In fu x1.fCount 1 6) fun Ab=>some (Ab) else some (false) else some (false) else some (false) else some (false) else some (false) else some (false)

def d_spec_BoundsOk_J1 (fu:Nat) (k4:Int → Option (Bool)) (Aa:Int)  : Option (Bool) :=
  k4 (w64 (Aa + 1))

def d_spec_BoundsOk_L1_B (fu:Nat)  (r1:Request) (k7:Int → Int → Option (Bool)) (Ac:Int) (Aa:Int):Option (Bool) :=
  bif (decide (Aa < ((r1.fItems.length:Int)))) then obind (ix r1.fItems Aa) fun Ab=>obind (d_spec_ItemOk fu Ab) fun Ad=>bif (!Ad) then some (false) else obind (ix r1.fItems Aa) fun Ae=>k7 (w64 (Ac + Ab.fCount)) (w64 (Aa + 1)) else some (decide (Ac ≤ 12))
def d_spec_BoundsOk_L1 (fu:Nat)  (r1:Request):Nat → Int → Int → Option (Bool)
  | 0=>fun _ _=>none
  | n + 1=>d_spec_BoundsOk_L1_B fu r1 (d_spec_BoundsOk_L1 fu r1 n)

def d_spec_BoundsOk_L2_B (fu:Nat)  (r1:Request) (k6:Int → Option (Bool)) (Aa:Int):Option (Bool) :=
  bif (decide (Aa < ((r1.fTypes.length:Int)))) then obind (ix r1.fTypes Aa) fun Ab=>obind (d_spec_TypeOk fu Ab) fun Ac=>bif (!Ac) then some (false) else k6 (w64 (Aa + 1)) else d_spec_BoundsOk_L1 fu r1 fu 0 0
def d_spec_BoundsOk_L2 (fu:Nat)  (r1:Request):Nat → Int → Option (Bool)
  | 0=>fun _=>none
  | n + 1=>d_spec_BoundsOk_L2_B fu r1 (d_spec_BoundsOk_L2 fu r1 n)

def d_spec_BoundsOk_L3_B (fu:Nat)  (r1:Request) (k4:Int → Option (Bool)) (Aa:Int):Option (Bool) :=
  bif (decide (Aa < ((r1.fPairs.length:Int)))) then obind (ix r1.fPairs Aa) fun Ab=>obind (d_spec_l1In fu Ab.fA 0 3) fun Ad=>bif (!Ad) then some (false) else obind (ix r1.fPairs Aa) fun Ae=>obind (d_spec_l1In fu Ab.fB 0 3) fun Ac=>bif (!Ac) then some (false) else d_spec_BoundsOk_J1 fu k4 Aa else d_spec_BoundsOk_L2 fu r1 fu 0
def d_spec_BoundsOk_L3 (fu:Nat)  (r1:Request):Nat → Int → Option (Bool)
  | 0=>fun _=>none
  | n + 1=>d_spec_BoundsOk_L3_B fu r1 (d_spec_BoundsOk_L3 fu r1 n)

def d_spec_BoundsOk_J2 (fu:Nat) (r1:Request)  : Option (Bool) :=
  d_spec_BoundsOk_L3 fu r1 fu 0

def d_spec_BoundsOk (fu:Nat) (r1:Request):Option (Bool) :=
  obind (d_spec_l1In fu r1.fWay 0 1) fun Ac=>bif (!Ac) then some (false) else obind (d_spec_PalletOk fu r1.fPallet) fun Ab=>bif (!Ab) then some (false) else obind (d_spec_l1In fu r1.fClasses 1 4) fun Ad=>bif (!Ad) then some (false) else bif (decide (((r1.fPairs.length:Int)) > 16)) then some (false) else obind (d_spec_l1In fu ((r1.fTypes.length:Int)) 1 5) fun Ae=>bif (!Ae) then some (false) else obind (d_spec_l2Id fu r1.fMaster) fun Aa=>bif (!Aa) then some (false) else bif (decide (((r1.fItems.length:Int)) > 8)) then some (false) else d_spec_BoundsOk_J2 fu r1

def d_spec_MasterOf_L1_B (fu:Nat)  (r1:Request) (k1:Int → Option (Typ × Bool)) (Aa:Int):Option (Typ × Bool) :=
  bif (decide (Aa < ((r1.fTypes.length:Int)))) then obind (ix r1.fTypes Aa) fun Ab=>bif (Ab.fId == r1.fMaster) then obind (ix r1.fTypes Aa) fun Ac=>some (Ab,true) else k1 (w64 (Aa + 1)) else some ((⟨0,0,0,0,0,0,0⟩:Typ),false)
def d_spec_MasterOf_L1 (fu:Nat)  (r1:Request):Nat → Int → Option (Typ × Bool)
  | 0=>fun _=>none
  | n + 1=>d_spec_MasterOf_L1_B fu r1 (d_spec_MasterOf_L1 fu r1 n)

def d_spec_MasterOf (fu:Nat) (r1:Request):Option (Typ × Bool) :=
  d_spec_MasterOf_L1 fu r1 fu 0

def d_spec_l5Names_L1_B (fu:Nat) (k3:Int → Option (Bool)) (r1:Request) (Aa:Int) (k4:Int → Option (Bool)) (Ab:Int):Option (Bool) :=
  bif (decide (Ab < Aa)) then obind (ix r1.fTypes Aa) fun Ad=>obind (ix r1.fTypes Ab) fun Ac=>bif (Ad.fId == Ac.fId) then some (false) else k4 (w64 (Ab + 1)) else k3 (w64 (Aa + 1))
def d_spec_l5Names_L1 (fu:Nat) (k3:Int → Option (Bool)) (r1:Request) (Aa:Int):Nat → Int → Option (Bool)
  | 0=>fun _=>none
  | n + 1=>d_spec_l5Names_L1_B fu k3 r1 Aa (d_spec_l5Names_L1 fu k3 r1 Aa n)

def d_spec_l5Names_L2_B (fu:Nat) (k7:Int → Option (Bool)) (r1:Request) (Ab:Int) (k8:Int → Option (Bool)) (Aa:Int):Option (Bool) :=
  bif (decide (Aa < Ab)) then obind (ix r1.fItems Ab) fun Ad=>obind (ix r1.fItems Aa) fun Ac=>bif (Ad.fId == Ac.fId) then some (false) else k8 (w64 (Aa + 1)) else k7 (w64 (Ab + 1))
def d_spec_l5Names_L2 (fu:Nat) (k7:Int → Option (Bool)) (r1:Request) (Aa:Int):Nat → Int → Option (Bool)
  | 0=>fun _=>none
  | n + 1=>d_spec_l5Names_L2_B fu k7 r1 Aa (d_spec_l5Names_L2 fu k7 r1 Aa n)

def d_spec_l5Names_J1 (fu:Nat) (Aa:Int → Option (Bool)) (Ab:Int)  : Option (Bool) :=
  Aa (w64 (Ab + 1))

def d_spec_l5Names_L3_B (fu:Nat)  (r1:Request) (Ac:Int → Option (Bool)) (Aa:Int):Option (Bool) :=
  bif (decide (Aa < ((r1.fPairs.length:Int)))) then obind (ix r1.fPairs Aa) fun Ab=>bif (decide (Ab.fA ≥ r1.fClasses)) then some (false) else obind (ix r1.fPairs Aa) fun Ae=>bif (decide (Ab.fB ≥ r1.fClasses)) then some (false) else d_spec_l5Names_J1 fu Ac Aa else obind (d_spec_MasterOf fu r1) fun Ad=>some (Ad.2)
def d_spec_l5Names_L3 (fu:Nat)  (r1:Request):Nat → Int → Option (Bool)
  | 0=>fun _=>none
  | n + 1=>d_spec_l5Names_L3_B fu r1 (d_spec_l5Names_L3 fu r1 n)

def d_spec_l5Names_L4_B (fu:Nat)  (r1:Request) (k7:Int → Option (Bool)) (Aa:Int):Option (Bool) :=
  bif (decide (Aa < ((r1.fItems.length:Int)))) then obind (ix r1.fItems Aa) fun Ab=>bif (decide (Ab.fClass ≥ r1.fClasses)) then some (false) else d_spec_l5Names_L2 fu k7 r1 Aa fu 0 else d_spec_l5Names_L3 fu r1 fu 0
def d_spec_l5Names_L4 (fu:Nat)  (r1:Request):Nat → Int → Option (Bool)
  | 0=>fun _=>none
  | n + 1=>d_spec_l5Names_L4_B fu r1 (d_spec_l5Names_L4 fu r1 n)

def d_spec_l5Names_L5_B (fu:Nat)  (r1:Request) (k3:Int → Option (Bool)) (Aa:Int):Option (Bool) :=
  bif (decide (Aa < ((r1.fTypes.length:Int)))) then d_spec_l5Names_L1 fu k3 r1 Aa fu 0 else d_spec_l5Names_L4 fu r1 fu 0
def d_spec_l5Names_L5 (fu:Nat)  (r1:Request):Nat → Int → Option (Bool)
  | 0=>fun _=>none
  | n + 1=>d_spec_l5Names_L5_B fu r1 (d_spec_l5Names_L5 fu r1 n)

def d_spec_l5Names (fu:Nat) (r1:Request):Option (Bool) :=
  d_spec_l5Names_L5 fu r1 fu 0

def d_spec_Beside_J1 (fu:Nat) (k3:Int → Option (Bool)) (Aa:Int)  : Option (Bool) :=
  k3 (w64 (Aa + 1))

def d_spec_Beside_L1_B (fu:Nat)  (Ab:List Pair) (a5:Int) (b6:Int) (k3:Int → Option (Bool)) (Aa:Int):Option (Bool) :=
  bif (decide (Aa < ((Ab.length:Int)))) then obind (ix Ab Aa) fun Ac=>bif (Ac.fA == a5) then obind (ix Ab Aa) fun Ad=>bif (Ac.fB == b6) then some (true) else d_spec_Beside_J1 fu k3 Aa else d_spec_Beside_J1 fu k3 Aa else some (false)
def d_spec_Beside_L1 (fu:Nat)  (Aa:List Pair) (a5:Int) (b6:Int):Nat → Int → Option (Bool)
  | 0=>fun _=>none
  | n + 1=>d_spec_Beside_L1_B fu Aa a5 b6 (d_spec_Beside_L1 fu Aa a5 b6 n)

def d_spec_Beside (fu:Nat) (Aa:List Pair) (a5:Int) (b6:Int):Option (Bool) :=
  d_spec_Beside_L1 fu Aa a5 b6 fu 0

def d_spec_TableOk_J1 (fu:Nat) (Aa:Int → Option (Bool)) (Ab:Int)  : Option (Bool) :=
  Aa (w64 (Ab + 1))

def d_spec_TableOk_L1_B (fu:Nat) (k9:Int → Option (Bool)) (Ac:List Pair) (Af:Int) (Ab:Int) (Ad:Int → Option (Bool)) (Aa:Int):Option (Bool) :=
  bif (decide (Aa < Af)) then bif (Ab == Aa) then obind (d_spec_Beside fu Ac Ab Ab) fun Ah=>bif (!Ah) then some (false) else obind (d_spec_Beside fu Ac Ab Aa) fun Ai=>obind (d_spec_Beside fu Ac Aa Ab) fun Ag=>bif (!(Ai == Ag)) then some (false) else d_spec_TableOk_J1 fu Ad Aa else obind (d_spec_Beside fu Ac Ab Aa) fun Aj=>obind (d_spec_Beside fu Ac Aa Ab) fun Ae=>bif (!(Aj == Ae)) then some (false) else d_spec_TableOk_J1 fu Ad Aa else k9 (w64 (Ab + 1))
def d_spec_TableOk_L1 (fu:Nat) (k9:Int → Option (Bool)) (Aa:List Pair) (Ab:Int) (Ac:Int):Nat → Int → Option (Bool)
  | 0=>fun _=>none
  | n + 1=>d_spec_TableOk_L1_B fu k9 Aa Ab Ac (d_spec_TableOk_L1 fu k9 Aa Ab Ac n)

def d_spec_TableOk_L2_B (fu:Nat)  (Ac:List Pair) (Aa:Int) (k9:Int → Option (Bool)) (Ab:Int):Option (Bool) :=
  bif (decide (Ab < Aa)) then d_spec_TableOk_L1 fu k9 Ac Aa Ab fu 0 else some (true)
def d_spec_TableOk_L2 (fu:Nat)  (Aa:List Pair) (Ab:Int):Nat → Int → Option (Bool)
  | 0=>fun _=>none
  | n + 1=>d_spec_TableOk_L2_B fu Aa Ab (d_spec_TableOk_L2 fu Aa Ab n)

def d_spec_TableOk (fu:Nat) (Ab:List Pair) (Aa:Int):Option (Bool) :=
  obind (d_spec_l1In fu Aa 1 4) fun x6=>bif (!x6) then some (false) else d_spec_TableOk_L2 fu Ab Aa fu 0

def d_spec_l1Places_L1_B (fu:Nat)  (n1:Int) (k1:List Int → Int → Option ((List Int))) (Ab:List Int) (Aa:Int):Option ((List Int)) :=
  bif (decide (Aa < n1)) then obind (apnd 8 Ab (([Aa]:List Int))) fun Ac=>k1 Ac (w64 (Aa + 1)) else some (Ab)
def d_spec_l1Places_L1 (fu:Nat)  (n1:Int):Nat → List Int → Int → Option ((List Int))
  | 0=>fun _ _=>none
  | n + 1=>d_spec_l1Places_L1_B fu n1 (d_spec_l1Places_L1 fu n1 n)

def d_spec_l1Places (fu:Nat) (n1:Int):Option ((List Int)) :=
  d_spec_l1Places_L1 fu n1 fu (([]:List Int)) 0

def d_spec_l1Merge_J1 (fu:Nat) (k3:List Int → Int → Int → Option ((List Int))) (Ah:List Int) (Ak:Bool) (Ac:(List Int)) (Ae:(List Int)) (Ad:List Int) (Aa:Int) (Ab:Int)  : Option ((List Int)) :=
  bif (Ab == ((Ae.length:Int))) then obind (ix Ac Aa) fun At=>obind (apnd 8 Ad (([At]:List Int))) fun Ar=>k3 Ar (w64 (Aa + 1)) Ab else bif (Aa == ((Ac.length:Int))) then obind (ix Ae Ab) fun Aq=>obind (apnd 8 Ad (([Aq]:List Int))) fun Am=>k3 Am Aa (w64 (Ab + 1)) else obind (ix Ae Ab) fun Ag=>obind (ix Ah Ag) fun Aj=>obind (ix Ac Aa) fun Af=>obind (ix Ah Af) fun Ai=>bif (decide (Aj < Ai)) then bif (!Ak) then obind (ix Ae Ab) fun Bi=>obind (apnd 8 Ad (([Ag]:List Int))) fun Ap=>k3 Ap Aa (w64 (Ab + 1)) else obind (ix Ae Ab) fun Bg=>obind (ix Ah Ag) fun Be=>obind (ix Ac Aa) fun Bk=>obind (ix Ah Af) fun Bj=>bif (decide (Aj > Ai)) then bif Ak then obind (ix Ae Ab) fun Ax=>obind (apnd 8 Ad (([Ag]:List Int))) fun Al=>k3 Al Aa (w64 (Ab + 1)) else obind (ix Ac Aa) fun Bl=>obind (apnd 8 Ad (([Af]:List Int))) fun As=>k3 As (w64 (Aa + 1)) Ab else obind (ix Ac Aa) fun Bb=>obind (apnd 8 Ad (([Af]:List Int))) fun Aw=>k3 Aw (w64 (Aa + 1)) Ab else obind (ix Ae Ab) fun Bc=>obind (ix Ah Ag) fun Az=>obind (ix Ac Aa) fun Bd=>obind (ix Ah Af) fun Bh=>bif (decide (Aj > Ai)) then bif Ak then obind (ix Ae Ab) fun Bf=>obind (apnd 8 Ad (([Ag]:List Int))) fun Av=>k3 Av Aa (w64 (Ab + 1)) else obind (ix Ac Aa) fun Ba=>obind (apnd 8 Ad (([Af]:List Int))) fun Au=>k3 Au (w64 (Aa + 1)) Ab else obind (ix Ac Aa) fun Ay=>obind (apnd 8 Ad (([Af]:List Int))) fun Ao=>k3 Ao (w64 (Aa + 1)) Ab

def d_spec_l1Merge_L1_B (fu:Nat)  (Af:List Int) (Ag:Bool) (Aa:(List Int)) (Ac:(List Int)) (k3:List Int → Int → Int → Option ((List Int))) (Ae:List Int) (Ad:Int) (Ab:Int):Option ((List Int)) :=
  bif (decide (Ad < ((Aa.length:Int)))) then d_spec_l1Merge_J1 fu k3 Af Ag Aa Ac Ae Ad Ab else bif (decide (Ab < ((Ac.length:Int)))) then d_spec_l1Merge_J1 fu k3 Af Ag Aa Ac Ae Ad Ab else some (Ae)
def d_spec_l1Merge_L1 (fu:Nat)  (Aa:List Int) (Ad:Bool) (Ac:(List Int)) (Ab:(List Int)):Nat → List Int → Int → Int → Option ((List Int))
  | 0=>fun _ _ _=>none
  | n + 1=>d_spec_l1Merge_L1_B fu Aa Ad Ac Ab (d_spec_l1Merge_L1 fu Aa Ad Ac Ab n)

def d_spec_l1Merge_RB (fu:Nat) (self:List Int → List Int → Bool → Option ((List Int))) (Ab:List Int) (Aa:List Int) (Ac:Bool):Option ((List Int)) :=
  bif (decide (((Aa.length:Int)) < 2)) then obind (apnd 8 (([]:List Int)) Aa) fun Af=>some (Af) else obind (sls Aa 0 (w64 (Int.tdiv ((Aa.length:Int)) 2))) fun Ah=>obind (self Ab Ah Ac) fun Ad=>obind (sls Aa (w64 (Int.tdiv ((Aa.length:Int)) 2)) (Aa.length:Int)) fun Ae=>obind (self Ab Ae Ac) fun Ag=>d_spec_l1Merge_L1 fu Ab Ac Ad Ag fu (([]:List Int)) 0 0
def d_spec_l1Merge_R (fu:Nat):Nat → List Int → List Int → Bool → Option ((List Int))
  | 0=>fun _ _ _=>none
  | n + 1=>d_spec_l1Merge_RB fu (d_spec_l1Merge_R fu n)
def d_spec_l1Merge (fu:Nat) (Aa:List Int) (Ac:List Int) (Ab:Bool):Option ((List Int)):=d_spec_l1Merge_R fu fu Aa Ac Ab

def d_spec_SortUp (fu:Nat) (Aa:List Int):Option ((List Int)) :=
  obind (d_spec_l1Places fu ((Aa.length:Int))) fun x5=>obind (d_spec_l1Merge fu Aa x5 false) fun Ab=>some (Ab)

def d_spec_l5Sides (fu:Nat) (Aa:Int) (h2:Int) (d3:Int):Option ((List Int)) :=
  obind (d_spec_SortUp fu (([Aa,h2,d3]:List Int))) fun x9=>obind (ix x9 0) fun Ag=>obind (ix (([Aa,h2,d3]:List Int)) Ag) fun Ae=>obind (ix x9 1) fun Ad=>obind (ix (([Aa,h2,d3]:List Int)) Ad) fun Af=>obind (ix x9 2) fun Ab=>obind (ix (([Aa,h2,d3]:List Int)) Ab) fun Ac=>some (([Ae,Af,Ac]:List Int))

def d_spec_Fits (fu:Nat) (x1:Item) (t2:Typ):Option (Bool) :=
  obind (d_spec_l5Sides fu x1.fW x1.fH x1.fD) fun Ab=>obind (d_spec_l5Sides fu t2.fW t2.fH t2.fD) fun Aa=>obind (ix Ab 0) fun Ac=>obind (ix Aa 0) fun Ae=>bif (decide (Ac ≤ Ae)) then obind (ix Ab 1) fun Ah=>obind (ix Aa 1) fun Ad=>bif (decide (Ah ≤ Ad)) then obind (ix Ab 2) fun Af=>obind (ix Aa 2) fun Ag=>bif (decide (Af ≤ Ag)) then some (decide (x1.fGram ≤ t2.fGram)) else some (false) else some (false) else some (false)

def d_spec_Class_J1 (fu:Nat) (k4:Int → Option (Int)) (Aa:Int)  : Option (Int) :=
  k4 (w64 (Aa + 1))

def d_spec_Class_L1_B (fu:Nat)  (r1:Request) (k4:Int → Option (Int)) (Ab:Int):Option (Int) :=
  bif (decide (Ab < ((r1.fTypes.length:Int)))) then obind (ix r1.fTypes Ab) fun Aa=>bif (decide (Aa.fW > r1.fPallet.fW)) then some (6) else bif (decide (Aa.fD > r1.fPallet.fD)) then some (6) else bif (decide (Aa.fH > r1.fPallet.fH)) then some (6) else bif (decide ((w64 (Aa.fTare + Aa.fGram)) > r1.fPallet.fGram)) then some (6) else d_spec_Class_J1 fu k4 Ab else some (0)
def d_spec_Class_L1 (fu:Nat)  (r1:Request):Nat → Int → Option (Int)
  | 0=>fun _=>none
  | n + 1=>d_spec_Class_L1_B fu r1 (d_spec_Class_L1 fu r1 n)

def d_spec_Class_L2_B (fu:Nat)  (r1:Request) (Ac:Typ × Bool) (k1:Int → Option (Int)) (Aa:Int):Option (Int) :=
  bif (decide (Aa < ((r1.fItems.length:Int)))) then obind (ix r1.fItems Aa) fun Ad=>obind (d_spec_Fits fu Ad Ac.1) fun Ab=>bif (!Ab) then some (5) else k1 (w64 (Aa + 1)) else d_spec_Class_L1 fu r1 fu 0
def d_spec_Class_L2 (fu:Nat)  (r1:Request) (Aa:Typ × Bool):Nat → Int → Option (Int)
  | 0=>fun _=>none
  | n + 1=>d_spec_Class_L2_B fu r1 Aa (d_spec_Class_L2 fu r1 Aa n)

def d_spec_Class (fu:Nat) (r1:Request):Option (Int) :=
  obind (d_spec_BoundsOk fu r1) fun Aa=>bif (!Aa) then some (2) else obind (d_spec_l5Names fu r1) fun Ab=>bif (!Ab) then some (3) else obind (d_spec_TableOk fu r1.fPairs r1.fClasses) fun Ac=>bif (!Ac) then some (4) else obind (d_spec_MasterOf fu r1) fun Ad=>d_spec_Class_L2 fu r1 Ad fu 0

def d_spec_l5Good_J1 (fu:Nat) (k3:List Item → Int → Option (Request × Cur)) (Aa:Int) (Ab:List Item):Option (Request × Cur) :=
  k3 Ab (w64 (Aa + 1))

def d_spec_l5Good_L1_B (fu:Nat)  (c1:Cur) (Aa:Request × Cur) (Ag:Typ × Bool) (k3:List Item → Int → Option (Request × Cur)) (Ac:List Item) (Ab:Int):Option (Request × Cur) :=
  bif (decide (Ab < ((Aa.1.fItems.length:Int)))) then obind (ix Aa.1.fItems Ab) fun Ad=>obind (d_spec_Fits fu Ad Ag.1) fun Af=>bif Af then obind (ix Aa.1.fItems Ab) fun Ah=>obind (apnd 56 Ac (([Ad]:List Item))) fun Ae=>d_spec_l5Good_J1 fu k3 Ab Ae else d_spec_l5Good_J1 fu k3 Ab Ac else some ((⟨Aa.1.fWay,(⟨30,25,24,400⟩:Pallet),Aa.1.fClasses,Aa.1.fPairs,Aa.1.fTypes,Aa.1.fMaster,Ac⟩:Request),(⟨c1.fb,Aa.2.fi,Aa.2.fh⟩:Cur))
def d_spec_l5Good_L1 (fu:Nat)  (c1:Cur) (Ab:Request × Cur) (Aa:Typ × Bool):Nat → List Item → Int → Option (Request × Cur)
  | 0=>fun _ _=>none
  | n + 1=>d_spec_l5Good_L1_B fu c1 Ab Aa (d_spec_l5Good_L1 fu c1 Ab Aa n)

def d_spec_l5Good (fu:Nat) (c1:Cur):Option (Request × Cur) :=
  obind (d_spec_l2Right fu c1) fun Aa=>obind (d_spec_Class fu Aa.1) fun Ab=>bif (Ab != 0) then obind (d_spec_MasterOf fu ((⟨Aa.1.fWay,(⟨30,25,24,400⟩:Pallet),Aa.1.fClasses,Aa.1.fPairs,Aa.1.fTypes,Aa.1.fMaster,Aa.1.fItems⟩:Request))) fun Ac=>d_spec_l5Good_L1 fu c1 Aa Ac fu (([]:List Item)) 0 else some (Aa.1,(⟨c1.fb,Aa.2.fi,Aa.2.fh⟩:Cur))

def d_spec_l2Draw_J1 (fu:Nat) (c1:Cur) (Aa:Request × Cur) (Ae:Int) (Ai:Int) (Ab:Int) (Ak:Int) (Ac:List Pair) (Aj:List Typ) (Af:Int) (Ag:List Item) (Ad:Int) (Ah:Int):Option (Request × Cur) :=
  some ((⟨Ae,(⟨Ai,Aa.1.fPallet.fD,Aa.1.fPallet.fH,Ab⟩:Pallet),Ak,Ac,Aj,Af,Ag⟩:Request),(⟨c1.fb,Ad,Ah⟩:Cur))

def d_spec_l2Draw (fu:Nat) (c1:Cur):Option (Request × Cur) :=
  obind (d_spec_l2Right fu c1) fun Aa=>obind (d_spec_l1PickInt fu ((⟨c1.fb,Aa.2.fi,Aa.2.fh⟩:Cur)) (([(-1),0,2001,100001,1000,9223372036854775807]:List Int))) fun Ac=>obind (d_spec_l1Below fu ((⟨c1.fb,Ac.2.fi,Ac.2.fh⟩:Cur)) 20) fun Ab=>bif (Ab.1 == 0) then obind (d_spec_l1PickInt fu ((⟨c1.fb,Ab.2.fi,Ab.2.fh⟩:Cur)) (([(-1),2]:List Int))) fun Ak=>d_spec_l2Draw_J1 fu c1 Aa Ak.1 Aa.1.fPallet.fW Aa.1.fPallet.fGram Aa.1.fClasses Aa.1.fPairs Aa.1.fTypes Aa.1.fMaster Aa.1.fItems Ak.2.fi Ak.2.fh else bif (Ab.1 == 1) then d_spec_l2Draw_J1 fu c1 Aa Aa.1.fWay Ac.1 Aa.1.fPallet.fGram Aa.1.fClasses Aa.1.fPairs Aa.1.fTypes Aa.1.fMaster Aa.1.fItems Ab.2.fi Ab.2.fh else bif (Ab.1 == 2) then d_spec_l2Draw_J1 fu c1 Aa Aa.1.fWay Aa.1.fPallet.fW Ac.1 Aa.1.fClasses Aa.1.fPairs Aa.1.fTypes Aa.1.fMaster Aa.1.fItems Ab.2.fi Ab.2.fh else bif (Ab.1 == 3) then obind (d_spec_l1PickInt fu ((⟨c1.fb,Ab.2.fi,Ab.2.fh⟩:Cur)) (([0,5,1]:List Int))) fun Ah=>d_spec_l2Draw_J1 fu c1 Aa Aa.1.fWay Aa.1.fPallet.fW Aa.1.fPallet.fGram Ah.1 Aa.1.fPairs Aa.1.fTypes Aa.1.fMaster Aa.1.fItems Ah.2.fi Ah.2.fh else bif (Ab.1 == 4) then obind (d_spec_l1Below fu ((⟨c1.fb,Ab.2.fi,Ab.2.fh⟩:Cur)) 6) fun Af=>obind (d_spec_l1Below fu ((⟨c1.fb,Af.2.fi,Af.2.fh⟩:Cur)) 4) fun Ag=>obind (apnd 16 Aa.1.fPairs (([(⟨w64 (Af.1 - 1),Ag.1⟩:Pair)]:List Pair))) fun Ao=>d_spec_l2Draw_J1 fu c1 Aa Aa.1.fWay Aa.1.fPallet.fW Aa.1.fPallet.fGram Aa.1.fClasses Ao Aa.1.fTypes Aa.1.fMaster Aa.1.fItems Ag.2.fi Ag.2.fh else bif (Ab.1 == 5) then obind (ix Aa.1.fTypes 0) fun Ap=>d_spec_l2Draw_J1 fu c1 Aa Aa.1.fWay Aa.1.fPallet.fW Aa.1.fPallet.fGram Aa.1.fClasses Aa.1.fPairs (setx Aa.1.fTypes 0 ({ Ap with fH:=Ac.1 })) Aa.1.fMaster Aa.1.fItems Ab.2.fi Ab.2.fh else bif (Ab.1 == 6) then obind (d_spec_l1Below fu ((⟨c1.fb,Ab.2.fi,Ab.2.fh⟩:Cur)) ((Aa.1.fTypes.length:Int))) fun Ad=>obind (ix Aa.1.fTypes Ad.1) fun At=>d_spec_l2Draw_J1 fu c1 Aa Aa.1.fWay Aa.1.fPallet.fW Aa.1.fPallet.fGram Aa.1.fClasses Aa.1.fPairs (setx Aa.1.fTypes Ad.1 ({ At with fGram:=Ac.1 })) Aa.1.fMaster Aa.1.fItems Ad.2.fi Ad.2.fh else bif (Ab.1 == 7) then obind (d_spec_l1PickInt fu ((⟨c1.fb,Ab.2.fi,Ab.2.fh⟩:Cur)) (([8,(-1),1000]:List Int))) fun Ae=>d_spec_l2Draw_J1 fu c1 Aa Aa.1.fWay Aa.1.fPallet.fW Aa.1.fPallet.fGram Aa.1.fClasses Aa.1.fPairs Aa.1.fTypes Ae.1 Aa.1.fItems Ae.2.fi Ae.2.fh else bif (Ab.1 == 8) then obind (d_spec_l1Below fu ((⟨c1.fb,Ab.2.fi,Ab.2.fh⟩:Cur)) 5) fun Ai=>obind (d_spec_l1Below fu ((⟨c1.fb,Ai.2.fi,Ai.2.fh⟩:Cur)) 8) fun Aj=>obind (apnd 56 Aa.1.fItems (([(⟨3,1,2,3,4,Ai.1,Aj.1⟩:Item)]:List Item))) fun Aq=>d_spec_l2Draw_J1 fu c1 Aa Aa.1.fWay Aa.1.fPallet.fW Aa.1.fPallet.fGram Aa.1.fClasses Aa.1.fPairs Aa.1.fTypes Aa.1.fMaster Aq Aj.2.fi Aj.2.fh else bif (Ab.1 == 9) then bif (decide (((Aa.1.fItems.length:Int)) > 0)) then obind (ix Aa.1.fItems 0) fun Am=>d_spec_l2Draw_J1 fu c1 Aa Aa.1.fWay Aa.1.fPallet.fW Aa.1.fPallet.fGram Aa.1.fClasses Aa.1.fPairs Aa.1.fTypes Aa.1.fMaster (setx Aa.1.fItems 0 ({ Am with fD:=Ac.1 })) Ab.2.fi Ab.2.fh else d_spec_l2Draw_J1 fu c1 Aa Aa.1.fWay Aa.1.fPallet.fW Aa.1.fPallet.fGram Aa.1.fClasses Aa.1.fPairs Aa.1.fTypes Aa.1.fMaster Aa.1.fItems Ab.2.fi Ab.2.fh else bif (Ab.1 == 10) then bif (decide (((Aa.1.fPairs.length:Int)) > 0)) then obind (sls Aa.1.fPairs 1 (Aa.1.fPairs.length:Int)) fun Al=>d_spec_l2Draw_J1 fu c1 Aa Aa.1.fWay Aa.1.fPallet.fW Aa.1.fPallet.fGram Aa.1.fClasses Al Aa.1.fTypes Aa.1.fMaster Aa.1.fItems Ab.2.fi Ab.2.fh else d_spec_l2Draw_J1 fu c1 Aa Aa.1.fWay Aa.1.fPallet.fW Aa.1.fPallet.fGram Aa.1.fClasses Aa.1.fPairs Aa.1.fTypes Aa.1.fMaster Aa.1.fItems Ab.2.fi Ab.2.fh else bif (Ab.1 == 11) then obind (ix Aa.1.fTypes 0) fun Ar=>obind (apnd 56 Aa.1.fTypes (([Ar]:List Typ))) fun As=>d_spec_l2Draw_J1 fu c1 Aa Aa.1.fWay Aa.1.fPallet.fW Aa.1.fPallet.fGram Aa.1.fClasses Aa.1.fPairs As Aa.1.fMaster Aa.1.fItems Ab.2.fi Ab.2.fh else bif (Ab.1 == 12) then d_spec_l2Draw_J1 fu c1 Aa Aa.1.fWay Aa.1.fPallet.fW Aa.1.fPallet.fGram Aa.1.fClasses Aa.1.fPairs (([]:List Typ)) Aa.1.fMaster Aa.1.fItems Ab.2.fi Ab.2.fh else d_spec_l2Draw_J1 fu c1 Aa Aa.1.fWay Aa.1.fPallet.fW Aa.1.fPallet.fGram Aa.1.fClasses Aa.1.fPairs Aa.1.fTypes Aa.1.fMaster Aa.1.fItems Ab.2.fi Ab.2.fh

def d_spec_DrawClass (fu:Nat) (Ab:List U8):Option (Request) :=
  obind (d_spec_l1New fu Ab) fun x8=>obind (d_spec_l1Once fu ((⟨Ab,x8.fi,x8.fh⟩:Cur)) 2) fun Aa=>bif Aa.1 then obind (d_spec_l5Good fu ((⟨Ab,Aa.2.fi,Aa.2.fh⟩:Cur))) fun Ac=>some (Ac.1) else obind (d_spec_l2Draw fu ((⟨Ab,Aa.2.fi,Aa.2.fh⟩:Cur))) fun Ad=>some (Ad.1)

def d_spec_Present_J1 (fu:Nat) (Ac:List Int → Int → Option ((List Int))) (Aa:Int) (Ab:List Int):Option ((List Int)) :=
  Ac Ab (w64 (Aa + 1))

def d_spec_Present_J2 (fu:Nat) (Ac:Bool → Int → Option ((List Int))) (Aa:Int) (Ab:Bool):Option ((List Int)) :=
  Ac Ab (w64 (Aa + 1))

def d_spec_Present_L1_B (fu:Nat) (Ae:List Int → Int → Option ((List Int))) (r1:Request) (Ad:List Int) (Ab:Int) (Af:Bool → Int → Option ((List Int))) (Ac:Bool) (Aa:Int):Option ((List Int)) :=
  bif (decide (Aa < ((r1.fItems.length:Int)))) then bif Ac then d_spec_Present_J2 fu Af Aa true else obind (ix r1.fItems Aa) fun Ah=>d_spec_Present_J2 fu Af Aa (Ah.fClass == Ab) else bif Ac then obind (apnd 8 Ad (([Ab]:List Int))) fun Ag=>d_spec_Present_J1 fu Ae Ab Ag else d_spec_Present_J1 fu Ae Ab Ad
def d_spec_Present_L1 (fu:Nat) (Ac:List Int → Int → Option ((List Int))) (r1:Request) (Ab:List Int) (Aa:Int):Nat → Bool → Int → Option ((List Int))
  | 0=>fun _ _=>none
  | n + 1=>d_spec_Present_L1_B fu Ac r1 Ab Aa (d_spec_Present_L1 fu Ac r1 Ab Aa n)

def d_spec_Present_L2_B (fu:Nat)  (r1:Request) (Ac:List Int → Int → Option ((List Int))) (Ab:List Int) (Aa:Int):Option ((List Int)) :=
  bif (decide (Aa < 4)) then d_spec_Present_L1 fu Ac r1 Ab Aa fu false 0 else some (Ab)
def d_spec_Present_L2 (fu:Nat)  (r1:Request):Nat → List Int → Int → Option ((List Int))
  | 0=>fun _ _=>none
  | n + 1=>d_spec_Present_L2_B fu r1 (d_spec_Present_L2 fu r1 n)

def d_spec_Present (fu:Nat) (r1:Request):Option ((List Int)) :=
  obind (d_spec_Class fu r1) fun Aa=>bif (Aa != 0) then some (([]:List Int)) else d_spec_Present_L2 fu r1 fu (([]:List Int)) 0

def d_spec_l1Has_L1_B (fu:Nat)  (Ab:List Int) (x5:Int) (k1:Int → Option (Bool)) (Aa:Int):Option (Bool) :=
  bif (decide (Aa < ((Ab.length:Int)))) then obind (ix Ab Aa) fun Ac=>bif (Ac == x5) then some (true) else k1 (w64 (Aa + 1)) else some (false)
def d_spec_l1Has_L1 (fu:Nat)  (Aa:List Int) (x5:Int):Nat → Int → Option (Bool)
  | 0=>fun _=>none
  | n + 1=>d_spec_l1Has_L1_B fu Aa x5 (d_spec_l1Has_L1 fu Aa x5 n)

def d_spec_l1Has (fu:Nat) (Aa:List Int) (x5:Int):Option (Bool) :=
  d_spec_l1Has_L1 fu Aa x5 fu 0

def d_spec_l3Joins_J1 (fu:Nat) (k3:Int → Option (Bool)) (Aa:Int)  : Option (Bool) :=
  k3 (w64 (Aa + 1))

def d_spec_l3Joins_L1_B (fu:Nat)  (Ac:List Pair) (Ab:List Int) (Ad:Int) (k3:Int → Option (Bool)) (Aa:Int):Option (Bool) :=
  bif (decide (Aa < ((Ab.length:Int)))) then obind (ix Ab Aa) fun Ae=>obind (d_spec_Beside fu Ac Ae Ad) fun Ag=>bif (!Ag) then some (false) else obind (ix Ab Aa) fun Ah=>obind (d_spec_Beside fu Ac Ad Ae) fun Af=>bif (!Af) then some (false) else d_spec_l3Joins_J1 fu k3 Aa else some (true)
def d_spec_l3Joins_L1 (fu:Nat)  (Aa:List Pair) (Ab:List Int) (Ac:Int):Nat → Int → Option (Bool)
  | 0=>fun _=>none
  | n + 1=>d_spec_l3Joins_L1_B fu Aa Ab Ac (d_spec_l3Joins_L1 fu Aa Ab Ac n)

def d_spec_l3Joins (fu:Nat) (Aa:List Pair) (Ab:List Int) (Ac:Int):Option (Bool) :=
  d_spec_l3Joins_L1 fu Aa Ab Ac fu 0

def d_spec_Groups_J1 (fu:Nat) (Ab:List (List Int) → Int → Option ((List (List Int)))) (Ac:Int) (Aa:List (List Int)):Option ((List (List Int))) :=
  Ab Aa (w64 (Ac + 1))

def d_spec_Groups_J2 (fu:Nat) (Ac:Int → Int → Option ((List (List Int)))) (Aa:Int) (Ab:Int):Option ((List (List Int))) :=
  Ac Ab (w64 (Aa - 1))

def d_spec_Groups_L1_B (fu:Nat) (Af:List (List Int) → Int → Option ((List (List Int)))) (Ag:List Pair) (Ad:List (List Int)) (Aa:Int) (Ae:Int → Int → Option ((List (List Int)))) (Ab:Int) (Ac:Int):Option ((List (List Int))) :=
  bif (decide (Ac ≥ 0)) then obind (ix Ad Ac) fun Ak=>obind (d_spec_l3Joins fu Ag Ak Aa) fun Al=>bif Al then d_spec_Groups_J2 fu Ae Ac Ac else d_spec_Groups_J2 fu Ae Ac Ab else bif (decide (Ab < 0)) then obind (apnd 24 Ad [([Aa]:List Int)]) fun Ah=>d_spec_Groups_J1 fu Af Aa Ah else obind (ix Ad Ab) fun Ai=>obind (apnd 8 Ai (([Aa]:List Int))) fun Aj=>obind (ix Ad Ab) fun Am=>d_spec_Groups_J1 fu Af Aa (setx Ad Ab Aj)
def d_spec_Groups_L1 (fu:Nat) (Ac:List (List Int) → Int → Option ((List (List Int)))) (Aa:List Pair) (Ab:List (List Int)) (Ad:Int):Nat → Int → Int → Option ((List (List Int)))
  | 0=>fun _ _=>none
  | n + 1=>d_spec_Groups_L1_B fu Ac Aa Ab Ad (d_spec_Groups_L1 fu Ac Aa Ab Ad n)

def d_spec_Groups_L2_B (fu:Nat)  (Ad:List Pair) (Ae:List Int) (Ac:List (List Int) → Int → Option ((List (List Int)))) (Ab:List (List Int)) (Aa:Int):Option ((List (List Int))) :=
  bif (decide (Aa < 4)) then obind (d_spec_l1Has fu Ae Aa) fun Af=>bif (!Af) then d_spec_Groups_J1 fu Ac Aa Ab else d_spec_Groups_L1 fu Ac Ad Ab Aa fu ((-1)) (w64 (((Ab.length:Int)) - 1)) else some (Ab)
def d_spec_Groups_L2 (fu:Nat)  (Aa:List Pair) (Ab:List Int):Nat → List (List Int) → Int → Option ((List (List Int)))
  | 0=>fun _ _=>none
  | n + 1=>d_spec_Groups_L2_B fu Aa Ab (d_spec_Groups_L2 fu Aa Ab n)

def d_spec_Groups (fu:Nat) (Aa:List Pair) (Ab:List Int):Option ((List (List Int))) :=
  d_spec_Groups_L2 fu Aa Ab fu (([]:List (List Int))) 0

def d_spec_GroupsOf (fu:Nat) (r1:Request):Option ((List (List Int))) :=
  obind (d_spec_Present fu r1) fun Ab=>obind (d_spec_Groups fu r1.fPairs Ab) fun Aa=>some (Aa)

def d_spec_l6Units_L1_B (fu:Nat) (k3:List Int → Int → Option ((List Int))) (r1:Request) (Aa:Int) (k4:List Int → Int → Option ((List Int))) (Ab:List Int) (Ac:Int):Option ((List Int)) :=
  obind (ix r1.fItems Aa) fun Ae=>bif (decide (Ac < Ae.fCount)) then obind (apnd 8 Ab (([Aa]:List Int))) fun Ad=>k4 Ad (w64 (Ac + 1)) else k3 Ab (w64 (Aa + 1))
def d_spec_l6Units_L1 (fu:Nat) (k3:List Int → Int → Option ((List Int))) (r1:Request) (Aa:Int):Nat → List Int → Int → Option ((List Int))
  | 0=>fun _ _=>none
  | n + 1=>d_spec_l6Units_L1_B fu k3 r1 Aa (d_spec_l6Units_L1 fu k3 r1 Aa n)

def d_spec_l6Units_L2_B (fu:Nat)  (r1:Request) (k3:List Int → Int → Option ((List Int))) (Ab:List Int) (Aa:Int):Option ((List Int)) :=
  bif (decide (Aa < ((r1.fItems.length:Int)))) then d_spec_l6Units_L1 fu k3 r1 Aa fu Ab 0 else some (Ab)
def d_spec_l6Units_L2 (fu:Nat)  (r1:Request):Nat → List Int → Int → Option ((List Int))
  | 0=>fun _ _=>none
  | n + 1=>d_spec_l6Units_L2_B fu r1 (d_spec_l6Units_L2 fu r1 n)

def d_spec_l6Units (fu:Nat) (r1:Request):Option ((List Int)) :=
  d_spec_l6Units_L2 fu r1 fu (([]:List Int)) 0

def d_spec_UnitsOf_J1 (fu:Nat) (k3:List Int → Int → Option ((List Int))) (Ab:Int) (Aa:List Int):Option ((List Int)) :=
  k3 Aa (w64 (Ab + 1))

def d_spec_UnitsOf_L1_B (fu:Nat)  (r1:Request) (Aj:Int) (Ae:(List (List Int))) (Ac:(List Int)) (k3:List Int → Int → Option ((List Int))) (Ab:List Int) (Aa:Int):Option ((List Int)) :=
  bif (decide (Aa < ((Ac.length:Int)))) then obind (ix Ae Aj) fun Ad=>obind (ix Ac Aa) fun Af=>obind (ix r1.fItems Af) fun Ag=>obind (d_spec_l1Has fu Ad Ag.fClass) fun Ai=>bif Ai then obind (apnd 8 Ab (([Aa]:List Int))) fun Ah=>d_spec_UnitsOf_J1 fu k3 Aa Ah else d_spec_UnitsOf_J1 fu k3 Aa Ab else some (Ab)
def d_spec_UnitsOf_L1 (fu:Nat)  (r1:Request) (Ab:Int) (Aa:(List (List Int))) (Ac:(List Int)):Nat → List Int → Int → Option ((List Int))
  | 0=>fun _ _=>none
  | n + 1=>d_spec_UnitsOf_L1_B fu r1 Ab Aa Ac (d_spec_UnitsOf_L1 fu r1 Ab Aa Ac n)

def d_spec_UnitsOf (fu:Nat) (r1:Request) (Aa:Int):Option ((List Int)) :=
  obind (d_spec_GroupsOf fu r1) fun Ab=>obind (d_spec_l1In fu Aa 0 (w64 (((Ab.length:Int)) - 1))) fun Ad=>bif (!Ad) then some (([]:List Int)) else obind (d_spec_l6Units fu r1) fun Ac=>d_spec_UnitsOf_L1 fu r1 Aa Ab Ac fu (([]:List Int)) 0

def d_spec_l7Known_J1 (fu:Nat) (k3:List Int → Int → Option ((List Int))) (Ab:Int) (Aa:List Int):Option ((List Int)) :=
  k3 Aa (w64 (Ab + 1))

def d_spec_l7Known_L1_B (fu:Nat)  (Ae:List Int) (Ab:List Int) (k3:List Int → Int → Option ((List Int))) (Ac:List Int) (Aa:Int):Option ((List Int)) :=
  bif (decide (Aa < ((Ab.length:Int)))) then obind (ix Ab Aa) fun Ad=>obind (d_spec_l1In fu Ad 0 (w64 (((Ae.length:Int)) - 1))) fun Ag=>bif Ag then obind (ix Ab Aa) fun Ah=>obind (apnd 8 Ac (([Ad]:List Int))) fun Af=>d_spec_l7Known_J1 fu k3 Aa Af else d_spec_l7Known_J1 fu k3 Aa Ac else some (Ac)
def d_spec_l7Known_L1 (fu:Nat)  (Aa:List Int) (Ab:List Int):Nat → List Int → Int → Option ((List Int))
  | 0=>fun _ _=>none
  | n + 1=>d_spec_l7Known_L1_B fu Aa Ab (d_spec_l7Known_L1 fu Aa Ab n)

def d_spec_l7Known (fu:Nat) (Aa:List Int) (Ab:List Int):Option ((List Int)) :=
  d_spec_l7Known_L1 fu Aa Ab fu (([]:List Int)) 0

def d_spec_l6Item (fu:Nat) (r1:Request) (Aa:List Int) (u9:Int):Option (Item × Bool) :=
  obind (d_spec_l1In fu u9 0 (w64 (((Aa.length:Int)) - 1))) fun Ab=>bif (!Ab) then some ((⟨0,0,0,0,0,0,0⟩:Item),false) else obind (ix Aa u9) fun Ac=>obind (ix r1.fItems Ac) fun Ad=>some (Ad,true)

def d_spec_Volume_J1 (fu:Nat) (Aa:Int) (h2:Int) (d3:Int)  : Option (Int) :=
  some (w64 ((w64 (Aa * h2)) * d3))

def d_spec_Volume (fu:Nat) (Aa:Int) (h2:Int) (d3:Int):Option (Int) :=
  obind (d_spec_l1In fu Aa 0 2000) fun Ac=>bif (!Ac) then some (0) else obind (d_spec_l1In fu h2 0 2000) fun Ab=>bif (!Ab) then some (0) else obind (d_spec_l1In fu d3 0 2000) fun Ad=>bif (!Ad) then some (0) else d_spec_Volume_J1 fu Aa h2 d3

def d_spec_l7Of_J1 (fu:Nat) (k7:L7 → Int → Option (L7)) (Ab:Int) (Aa:L7):Option (L7) :=
  k7 Aa (w64 (Ab + 1))

def d_spec_l7Of_J2 (fu:Nat) (k7:L7 → Int → Option (L7)) (Ab:L7) (Ac:Int) (Aa:Item):Option (L7) :=
  obind (d_spec_Volume fu Aa.fW Aa.fH Aa.fD) fun Ad=>d_spec_l7Of_J1 fu k7 Ac ((⟨w64 (Ab.fvol + Ad),w64 (Ab.fgram + Aa.fGram)⟩:L7))

def d_spec_l7Of_L1_B (fu:Nat)  (r1:Request) (Ad:List Int) (Ab:List Int) (k7:L7 → Int → Option (L7)) (Ac:L7) (Aa:Int):Option (L7) :=
  bif (decide (Aa < ((Ab.length:Int)))) then obind (ix Ab Aa) fun Ae=>obind (d_spec_l6Item fu r1 Ad Ae) fun Af=>d_spec_l7Of_J2 fu k7 Ac Aa Af.1 else some (Ac)
def d_spec_l7Of_L1 (fu:Nat)  (r1:Request) (Ab:List Int) (Aa:List Int):Nat → L7 → Int → Option (L7)
  | 0=>fun _ _=>none
  | n + 1=>d_spec_l7Of_L1_B fu r1 Ab Aa (d_spec_l7Of_L1 fu r1 Ab Aa n)

def d_spec_l7Of (fu:Nat) (r1:Request) (Ab:List Int) (Aa:List Int):Option (L7) :=
  d_spec_l7Of_L1 fu r1 Ab Aa fu ((⟨0,0⟩:L7)) 0

def d_spec_l7Room_J1 (fu:Nat) (m9:Typ) (Aa:L7):Option (Bool) :=
  obind (d_spec_Volume fu m9.fW m9.fH m9.fD) fun Ab=>bif (decide (Aa.fvol ≤ Ab)) then some (decide (Aa.fgram ≤ m9.fGram)) else some (false)

def d_spec_l7Room (fu:Nat) (r1:Request) (Aa:List Int) (m9:Typ) (Ab:List Int) (Ac:Int):Option (Bool) :=
  obind (apnd 8 (([]:List Int)) Ab) fun Ad=>obind (apnd 8 Ad (([Ac]:List Int))) fun Ae=>obind (d_spec_l7Of fu r1 Aa Ae) fun Af=>d_spec_l7Room_J1 fu m9 Af

def d_spec_l7Next_J1 (fu:Nat) (k3:List (List Int) → Int → Option ((List (List Int)))) (Aa:Int) (Ab:List (List Int)):Option ((List (List Int))) :=
  k3 Ab (w64 (Aa + 1))

def d_spec_l7Next_L1_B (fu:Nat)  (r1:Request) (Ac:List Int) (Ah:Typ × Bool) (Aj:(List Int)) (k3:List (List Int) → Int → Option ((List (List Int)))) (Aa:List (List Int)) (Ab:Int):Option ((List (List Int))) :=
  bif (decide (Ab < ((Ac.length:Int)))) then bif (decide (((Aa.length:Int)) > 0)) then obind (ix Aa (w64 (((Aa.length:Int)) - 1))) fun Ae=>obind (ix Ac Ab) fun Ad=>obind (d_spec_l7Room fu r1 Aj Ah.1 Ae Ad) fun Al=>bif Al then obind (ix Aa (w64 (((Aa.length:Int)) - 1))) fun Am=>obind (ix Ac Ab) fun Ao=>obind (apnd 8 Ae (([Ad]:List Int))) fun Ag=>obind (ix Aa (w64 (((Aa.length:Int)) - 1))) fun Aq=>d_spec_l7Next_J1 fu k3 Ab (setx Aa (w64 (((Aa.length:Int)) - 1)) Ag) else obind (ix Ac Ab) fun Ap=>obind (apnd 24 Aa [([Ad]:List Int)]) fun Ak=>d_spec_l7Next_J1 fu k3 Ab Ak else obind (ix Ac Ab) fun Af=>obind (apnd 24 Aa [([Af]:List Int)]) fun Ai=>d_spec_l7Next_J1 fu k3 Ab Ai else some (Aa)
def d_spec_l7Next_L1 (fu:Nat)  (r1:Request) (Ab:List Int) (Ac:Typ × Bool) (Aa:(List Int)):Nat → List (List Int) → Int → Option ((List (List Int)))
  | 0=>fun _ _=>none
  | n + 1=>d_spec_l7Next_L1_B fu r1 Ab Ac Aa (d_spec_l7Next_L1 fu r1 Ab Ac Aa n)

def d_spec_l7Next (fu:Nat) (r1:Request) (Ab:List Int):Option ((List (List Int))) :=
  obind (d_spec_MasterOf fu r1) fun Ac=>obind (d_spec_l6Units fu r1) fun Aa=>d_spec_l7Next_L1 fu r1 Ab Ac Aa fu (([]:List (List Int))) 0

def d_spec_NextFit (fu:Nat) (r1:Request) (Ad:List Int):Option ((List (List Int))) :=
  obind (d_spec_Class fu r1) fun Aa=>bif (Aa != 0) then some (([]:List (List Int))) else obind (d_spec_l6Units fu r1) fun Ac=>obind (d_spec_l7Known fu Ac Ad) fun Ae=>obind (d_spec_l7Next fu r1 Ae) fun Ab=>some (Ab)

def d_spec_SortDown (fu:Nat) (Aa:List Int):Option ((List Int)) :=
  obind (d_spec_l1Places fu ((Aa.length:Int))) fun x5=>obind (d_spec_l1Merge fu Aa x5 true) fun Ab=>some (Ab)

def d_spec_l7First_J1 (fu:Nat) (Aa:List (List Int) → Int → Option ((List (List Int)))) (Ab:Int) (Ac:List (List Int)):Option ((List (List Int))) :=
  Aa Ac (w64 (Ab + 1))

def d_spec_l7First_J2 (fu:Nat) (Ac:Int → Int → Option ((List (List Int)))) (Aa:Int) (Ab:Int):Option ((List (List Int))) :=
  Ac Ab (w64 (Aa - 1))

def d_spec_l7First_L1_B (fu:Nat) (Ag:List (List Int) → Int → Option ((List (List Int)))) (r1:Request) (Ah:Typ × Bool) (Ai:(List Int)) (Ab:List (List Int)) (Ae:Int) (Ad:Int) (Af:Int → Int → Option ((List (List Int)))) (Ac:Int) (Aa:Int):Option ((List (List Int))) :=
  bif (decide (Aa ≥ 0)) then obind (ix Ab Aa) fun Al=>obind (d_spec_l7Room fu r1 Ai Ah.1 Al Ad) fun Am=>bif Am then d_spec_l7First_J2 fu Af Aa Aa else d_spec_l7First_J2 fu Af Aa Ac else bif (decide (Ac < 0)) then obind (apnd 24 Ab [([Ad]:List Int)]) fun Aj=>d_spec_l7First_J1 fu Ag Ae Aj else obind (ix Ab Ac) fun Ak=>obind (apnd 8 Ak (([Ad]:List Int))) fun Ao=>obind (ix Ab Ac) fun Ap=>d_spec_l7First_J1 fu Ag Ae (setx Ab Ac Ao)
def d_spec_l7First_L1 (fu:Nat) (Ae:List (List Int) → Int → Option ((List (List Int)))) (r1:Request) (Ab:Typ × Bool) (Ac:(List Int)) (Ad:List (List Int)) (Aa:Int) (Af:Int):Nat → Int → Int → Option ((List (List Int)))
  | 0=>fun _ _=>none
  | n + 1=>d_spec_l7First_L1_B fu Ae r1 Ab Ac Ad Aa Af (d_spec_l7First_L1 fu Ae r1 Ab Ac Ad Aa Af n)

def d_spec_l7First_L2_B (fu:Nat)  (r1:Request) (Ai:List Int) (Ae:Typ × Bool) (Af:(List Int)) (Ac:(List Int)) (Ag:List (List Int) → Int → Option ((List (List Int)))) (Ab:List (List Int)) (Aa:Int):Option ((List (List Int))) :=
  bif (decide (Aa < ((Ac.length:Int)))) then obind (ix Ac Aa) fun Ad=>obind (ix Ai Ad) fun Ah=>d_spec_l7First_L1 fu Ag r1 Ae Af Ab Aa Ah fu ((-1)) (w64 (((Ab.length:Int)) - 1)) else some (Ab)
def d_spec_l7First_L2 (fu:Nat)  (r1:Request) (Ac:List Int) (Ad:Typ × Bool) (Aa:(List Int)) (Ab:(List Int)):Nat → List (List Int) → Int → Option ((List (List Int)))
  | 0=>fun _ _=>none
  | n + 1=>d_spec_l7First_L2_B fu r1 Ac Ad Aa Ab (d_spec_l7First_L2 fu r1 Ac Ad Aa Ab n)

def d_spec_l7First_L3_B (fu:Nat)  (r1:Request) (Ab:List Int) (Ae:Typ × Bool) (Ad:(List Int)) (k1:List Int → Int → Option ((List (List Int)))) (Ac:List Int) (Aa:Int):Option ((List (List Int))) :=
  bif (decide (Aa < ((Ab.length:Int)))) then obind (sls Ab Aa (w64 (Aa + 1))) fun Af=>obind (d_spec_l7Of fu r1 Ad Af) fun Ah=>obind (apnd 8 Ac (([Ah.fvol]:List Int))) fun Ai=>k1 Ai (w64 (Aa + 1)) else obind (d_spec_SortDown fu Ac) fun Ag=>d_spec_l7First_L2 fu r1 Ab Ae Ad Ag fu (([]:List (List Int))) 0
def d_spec_l7First_L3 (fu:Nat)  (r1:Request) (Ab:List Int) (Ac:Typ × Bool) (Aa:(List Int)):Nat → List Int → Int → Option ((List (List Int)))
  | 0=>fun _ _=>none
  | n + 1=>d_spec_l7First_L3_B fu r1 Ab Ac Aa (d_spec_l7First_L3 fu r1 Ab Ac Aa n)

def d_spec_l7First (fu:Nat) (r1:Request) (Ab:List Int):Option ((List (List Int))) :=
  obind (d_spec_MasterOf fu r1) fun Ac=>obind (d_spec_l6Units fu r1) fun Aa=>d_spec_l7First_L3 fu r1 Ab Ac Aa fu (([]:List Int)) 0

def d_spec_FirstFit (fu:Nat) (r1:Request) (Ad:List Int):Option ((List (List Int))) :=
  obind (d_spec_Class fu r1) fun Aa=>bif (Aa != 0) then some (([]:List (List Int))) else obind (d_spec_l6Units fu r1) fun Ac=>obind (d_spec_l7Known fu Ac Ad) fun Ae=>obind (d_spec_l7First fu r1 Ae) fun Ab=>some (Ab)

def d_spec_PackWay (fu:Nat) (r1:Request) (Aa:List Int):Option ((List (List Int))) :=
  bif (r1.fWay == 1) then obind (d_spec_NextFit fu r1 Aa) fun Ac=>some (Ac) else obind (d_spec_FirstFit fu r1 Aa) fun Ab=>some (Ab)

def d_spec_Holds_J1 (fu:Nat) (r1:Request) (Ad:List Int) (t9:Typ) (Ab:(List Int))  : Option (Bool) :=
  obind (d_spec_l7Of fu r1 Ab Ad) fun Aa=>obind (d_spec_Volume fu t9.fW t9.fH t9.fD) fun Ac=>bif (decide (Aa.fvol ≤ Ac)) then some (decide (Aa.fgram ≤ t9.fGram)) else some (false)

def d_spec_Holds_J2 (fu:Nat) (Aa:Int → Option (Bool)) (Ab:Int)  : Option (Bool) :=
  Aa (w64 (Ab + 1))

def d_spec_Holds_J3 (fu:Nat) (Ab:Int → Option (Bool)) (t9:Typ) (Ac:Int) (Aa:Item) (Ad:Bool):Option (Bool) :=
  bif (!Ad) then some (false) else obind (d_spec_Fits fu Aa t9) fun Ae=>bif (!Ae) then some (false) else d_spec_Holds_J2 fu Ab Ac

def d_spec_Holds_L1_B (fu:Nat)  (r1:Request) (Aa:List Int) (t9:Typ) (Ac:(List Int)) (Af:Int → Option (Bool)) (Ab:Int):Option (Bool) :=
  bif (decide (Ab < ((Aa.length:Int)))) then obind (ix Aa Ab) fun Ae=>obind (d_spec_l6Item fu r1 Ac Ae) fun Ad=>d_spec_Holds_J3 fu Af t9 Ab Ad.1 Ad.2 else d_spec_Holds_J1 fu r1 Aa t9 Ac
def d_spec_Holds_L1 (fu:Nat)  (r1:Request) (Ab:List Int) (t9:Typ) (Aa:(List Int)):Nat → Int → Option (Bool)
  | 0=>fun _=>none
  | n + 1=>d_spec_Holds_L1_B fu r1 Ab t9 Aa (d_spec_Holds_L1 fu r1 Ab t9 Aa n)

def d_spec_Holds (fu:Nat) (r1:Request) (Ac:List Int) (t9:Typ):Option (Bool) :=
  obind (d_spec_Class fu r1) fun Aa=>bif (Aa != 0) then some (false) else obind (d_spec_l6Units fu r1) fun Ab=>d_spec_Holds_L1 fu r1 Ac t9 Ab fu 0

def d_spec_Cheapest_J1 (fu:Nat) (k3:Typ → Bool → Int → Option (Typ × Bool)) (Aa:Int) (Ac:Typ) (Ab:Bool):Option (Typ × Bool) :=
  k3 Ac Ab (w64 (Aa + 1))

def d_spec_Cheapest_L1_B (fu:Nat)  (r1:Request) (Ae:List Int) (k3:Typ → Bool → Int → Option (Typ × Bool)) (Ac:Typ) (Ad:Bool) (Aa:Int):Option (Typ × Bool) :=
  bif (decide (Aa < ((r1.fTypes.length:Int)))) then obind (ix r1.fTypes Aa) fun Ab=>obind (d_spec_Holds fu r1 Ae Ab) fun Af=>bif (!Af) then d_spec_Cheapest_J1 fu k3 Aa Ac Ad else bif (!Ad) then d_spec_Cheapest_J1 fu k3 Aa Ab true else bif (decide (Ab.fCost < Ac.fCost)) then d_spec_Cheapest_J1 fu k3 Aa Ab true else bif (Ab.fCost == Ac.fCost) then bif (decide (Ab.fId < Ac.fId)) then d_spec_Cheapest_J1 fu k3 Aa Ab true else d_spec_Cheapest_J1 fu k3 Aa Ac Ad else d_spec_Cheapest_J1 fu k3 Aa Ac Ad else some (Ac,Ad)
def d_spec_Cheapest_L1 (fu:Nat)  (r1:Request) (Aa:List Int):Nat → Typ → Bool → Int → Option (Typ × Bool)
  | 0=>fun _ _ _=>none
  | n + 1=>d_spec_Cheapest_L1_B fu r1 Aa (d_spec_Cheapest_L1 fu r1 Aa n)

def d_spec_Cheapest (fu:Nat) (r1:Request) (Aa:List Int):Option (Typ × Bool) :=
  d_spec_Cheapest_L1 fu r1 Aa fu ((⟨0,0,0,0,0,0,0⟩:Typ)) false 0

def d_spec_CartonsOf_J1 (fu:Nat) (Ac:List Carton → Int → Option ((List Carton))) (Ab:Int) (Aa:List Carton):Option ((List Carton)) :=
  Ac Aa (w64 (Ab + 1))

def d_spec_CartonsOf_J2 (fu:Nat) (Ac:List Carton → Int → Option ((List Carton))) (Ab:Int) (Aa:List Carton):Option ((List Carton)) :=
  Ac Aa (w64 (Ab + 1))

def d_spec_CartonsOf_L1_B (fu:Nat) (Ae:List Carton → Int → Option ((List Carton))) (Am:Int) (Ak:(List (List Int))) (Aj:List Carton) (Ac:Int) (Ah:Typ) (Ad:(List Int)) (Al:List Int → Int → Option ((List Carton))) (Ab:List Int) (Aa:Int):Option ((List Carton)) :=
  bif (decide (Aa < ((Ad.length:Int)))) then obind (ix Ak Ac) fun Ap=>obind (ix Ad Aa) fun Ag=>obind (ix Ap Ag) fun Ai=>obind (apnd 8 Ab (([Ai]:List Int))) fun Ao=>Al Ao (w64 (Aa + 1)) else obind (apnd 40 Aj [(⟨Ah.fId,Am,Ab⟩:Carton)]) fun Af=>d_spec_CartonsOf_J2 fu Ae Ac Af
def d_spec_CartonsOf_L1 (fu:Nat) (Aa:List Carton → Int → Option ((List Carton))) (Ag:Int) (Ae:(List (List Int))) (Ac:List Carton) (Ad:Int) (Ab:Typ) (Af:(List Int)):Nat → List Int → Int → Option ((List Carton))
  | 0=>fun _ _=>none
  | n + 1=>d_spec_CartonsOf_L1_B fu Aa Ag Ae Ac Ad Ab Af (d_spec_CartonsOf_L1 fu Aa Ag Ae Ac Ad Ab Af n)

def d_spec_CartonsOf_J3 (fu:Nat) (Ac:List Carton → Int → Option ((List Carton))) (Ag:Int) (Ab:(List (List Int))) (Ae:List Carton) (Aa:Int) (Ad:Typ):Option ((List Carton)) :=
  obind (ix Ab Aa) fun Ah=>obind (d_spec_SortUp fu Ah) fun Af=>d_spec_CartonsOf_L1 fu Ac Ag Ab Ae Aa Ad Af fu (([]:List Int)) 0

def d_spec_CartonsOf_L2_B (fu:Nat) (Ah:List Carton → Int → Option ((List Carton))) (r1:Request) (Ad:Int) (Ab:(List (List Int))) (Ae:List Carton → Int → Option ((List Carton))) (Ac:List Carton) (Aa:Int):Option ((List Carton)) :=
  bif (decide (Aa < ((Ab.length:Int)))) then obind (ix Ab Aa) fun Ag=>obind (d_spec_Cheapest fu r1 Ag) fun Af=>d_spec_CartonsOf_J3 fu Ae Ad Ab Ac Aa Af.1 else d_spec_CartonsOf_J1 fu Ah Ad Ac
def d_spec_CartonsOf_L2 (fu:Nat) (Ac:List Carton → Int → Option ((List Carton))) (r1:Request) (Aa:Int) (Ab:(List (List Int))):Nat → List Carton → Int → Option ((List Carton))
  | 0=>fun _ _=>none
  | n + 1=>d_spec_CartonsOf_L2_B fu Ac r1 Aa Ab (d_spec_CartonsOf_L2 fu Ac r1 Aa Ab n)

def d_spec_CartonsOf_L3_B (fu:Nat)  (r1:Request) (Af:(List (List Int))) (Ae:List Carton → Int → Option ((List Carton))) (Ab:List Carton) (Aa:Int):Option ((List Carton)) :=
  bif (decide (Aa < ((Af.length:Int)))) then obind (d_spec_UnitsOf fu r1 Aa) fun Ac=>obind (d_spec_PackWay fu r1 Ac) fun Ad=>d_spec_CartonsOf_L2 fu Ae r1 Aa Ad fu Ab 0 else some (Ab)
def d_spec_CartonsOf_L3 (fu:Nat)  (r1:Request) (Aa:(List (List Int))):Nat → List Carton → Int → Option ((List Carton))
  | 0=>fun _ _=>none
  | n + 1=>d_spec_CartonsOf_L3_B fu r1 Aa (d_spec_CartonsOf_L3 fu r1 Aa n)

def d_spec_CartonsOf (fu:Nat) (r1:Request):Option ((List Carton)) :=
  obind (d_spec_GroupsOf fu r1) fun Aa=>d_spec_CartonsOf_L3 fu r1 Aa fu (([]:List Carton)) 0

def d_spec_TypeById_L1_B (fu:Nat)  (r1:Request) (Ac:Int) (k1:Int → Option (Typ × Bool)) (Aa:Int):Option (Typ × Bool) :=
  bif (decide (Aa < ((r1.fTypes.length:Int)))) then obind (ix r1.fTypes Aa) fun Ab=>bif (Ab.fId == Ac) then obind (ix r1.fTypes Aa) fun Ad=>some (Ab,true) else k1 (w64 (Aa + 1)) else some ((⟨0,0,0,0,0,0,0⟩:Typ),false)
def d_spec_TypeById_L1 (fu:Nat)  (r1:Request) (Aa:Int):Nat → Int → Option (Typ × Bool)
  | 0=>fun _=>none
  | n + 1=>d_spec_TypeById_L1_B fu r1 Aa (d_spec_TypeById_L1 fu r1 Aa n)

def d_spec_TypeById (fu:Nat) (r1:Request) (Aa:Int):Option (Typ × Bool) :=
  d_spec_TypeById_L1 fu r1 Aa fu 0

def d_spec_Units (fu:Nat) (r1:Request):Option ((List Int)) :=
  obind (d_spec_Class fu r1) fun Aa=>bif (Aa != 0) then some (([]:List Int)) else obind (d_spec_l6Units fu r1) fun Ab=>some (Ab)

def d_spec_GramOf_J1 (fu:Nat) (k7:Int → Int → Option (Int)) (Ab:Int) (Aa:Int):Option (Int) :=
  k7 Aa (w64 (Ab + 1))

def d_spec_GramOf_J2 (fu:Nat) (k7:Int → Int → Option (Int)) (Ab:Int) (Ac:Int) (Aa:Item):Option (Int) :=
  d_spec_GramOf_J1 fu k7 Ac (w64 (Ab + Aa.fGram))

def d_spec_GramOf_L1_B (fu:Nat)  (r1:Request) (Ab:List Int) (Ad:(List Int)) (k7:Int → Int → Option (Int)) (Ac:Int) (Aa:Int):Option (Int) :=
  bif (decide (Aa < ((Ab.length:Int)))) then obind (ix Ab Aa) fun Ae=>obind (d_spec_l6Item fu r1 Ad Ae) fun Af=>d_spec_GramOf_J2 fu k7 Ac Aa Af.1 else some (Ac)
def d_spec_GramOf_L1 (fu:Nat)  (r1:Request) (Aa:List Int) (Ab:(List Int)):Nat → Int → Int → Option (Int)
  | 0=>fun _ _=>none
  | n + 1=>d_spec_GramOf_L1_B fu r1 Aa Ab (d_spec_GramOf_L1 fu r1 Aa Ab n)

def d_spec_GramOf (fu:Nat) (r1:Request) (Aa:List Int):Option (Int) :=
  obind (d_spec_Units fu r1) fun Ab=>d_spec_GramOf_L1 fu r1 Aa Ab fu 0 0

def d_spec_Gross_J1 (fu:Nat) (r1:Request) (x5:Carton) (Aa:Typ × Bool)  : Option (Int) :=
  obind (d_spec_GramOf fu r1 x5.fUnits) fun Ab=>some (w64 (Aa.1.fTare + Ab))

def d_spec_Gross (fu:Nat) (r1:Request) (x5:Carton):Option (Int) :=
  obind (d_spec_TypeById fu r1 x5.fType) fun Aa=>obind (d_spec_Class fu r1) fun Ab=>bif (Ab != 0) then some (0) else bif (!Aa.2) then some (0) else d_spec_Gross_J1 fu r1 x5 Aa

def d_spec_BoxOf_J1 (fu:Nat) (r1:Request) (x5:Carton) (Aa:Typ × Bool)  : Option (Box) :=
  obind (d_spec_Gross fu r1 x5) fun Ab=>some ((⟨Aa.1.fW,Aa.1.fD,Aa.1.fH,Ab⟩:Box))

def d_spec_BoxOf (fu:Nat) (r1:Request) (x5:Carton):Option (Box) :=
  obind (d_spec_TypeById fu r1 x5.fType) fun Aa=>obind (d_spec_Class fu r1) fun Ab=>bif (Ab != 0) then some ((⟨0,0,0,0⟩:Box)) else bif (!Aa.2) then some ((⟨0,0,0,0⟩:Box)) else d_spec_BoxOf_J1 fu r1 x5 Aa

def d_spec_BoxesOk_J1 (fu:Nat) (k3:Int → Option (Bool)) (Aa:Int)  : Option (Bool) :=
  k3 (w64 (Aa + 1))

def d_spec_BoxesOk_L1_B (fu:Nat)  (p1:Pallet) (Ac:List Box) (k3:Int → Option (Bool)) (Ab:Int):Option (Bool) :=
  bif (decide (Ab < ((Ac.length:Int)))) then obind (ix Ac Ab) fun Aa=>obind (d_spec_l1In fu Aa.fW 1 p1.fW) fun Ad=>bif (!Ad) then some (false) else obind (d_spec_l1In fu Aa.fD 1 p1.fD) fun Ae=>bif (!Ae) then some (false) else obind (d_spec_l1In fu Aa.fH 1 p1.fH) fun Ag=>bif (!Ag) then some (false) else obind (d_spec_l1In fu Aa.fGram 1 p1.fGram) fun Af=>bif (!Af) then some (false) else d_spec_BoxesOk_J1 fu k3 Ab else some (true)
def d_spec_BoxesOk_L1 (fu:Nat)  (p1:Pallet) (Aa:List Box):Nat → Int → Option (Bool)
  | 0=>fun _=>none
  | n + 1=>d_spec_BoxesOk_L1_B fu p1 Aa (d_spec_BoxesOk_L1 fu p1 Aa n)

def d_spec_BoxesOk (fu:Nat) (p1:Pallet) (Ab:List Box):Option (Bool) :=
  obind (d_spec_PalletOk fu p1) fun Aa=>bif (!Aa) then some (false) else d_spec_BoxesOk_L1 fu p1 Ab fu 0

def d_spec_l1Max (fu:Nat) (a1:Int) (b2:Int):Option (Int) :=
  bif (decide (a1 > b2)) then some (a1) else some (b2)

def d_spec_l10Add (fu:Nat) (Aa:Shelf) (Af:Int) (b6:Box):Option (Shelf) :=
  obind (apnd 8 (([]:List Int)) Aa.fList) fun Ac=>obind (apnd 8 Ac (([Af]:List Int))) fun Ad=>obind (d_spec_l1Max fu Aa.fD b6.fD) fun Ae=>obind (d_spec_l1Max fu Aa.fH b6.fH) fun Ab=>some ((⟨Ad,w64 (Aa.fW + b6.fW),Ae,Ab,w64 (Aa.fGram + b6.fGram)⟩:Shelf))

def d_spec_Shelves_J1 (fu:Nat) (k4:List Shelf → Int → Option ((List Shelf))) (Ab:Int) (Aa:List Shelf):Option ((List Shelf)) :=
  k4 Aa (w64 (Ab + 1))

def d_spec_Shelves_L1_B (fu:Nat)  (p1:Pallet) (Ai:List Box) (Ac:(List Int)) (k4:List Shelf → Int → Option ((List Shelf))) (Aa:List Shelf) (Ab:Int):Option ((List Shelf)) :=
  bif (decide (Ab < ((Ac.length:Int)))) then obind (ix Ac Ab) fun Ae=>obind (ix Ai Ae) fun Ad=>bif (decide (((Aa.length:Int)) > 0)) then obind (ix Aa (w64 (((Aa.length:Int)) - 1))) fun Af=>bif (decide ((w64 (Af.fW + Ad.fW)) ≤ p1.fW)) then obind (ix Aa (w64 (((Aa.length:Int)) - 1))) fun Av=>bif (decide ((w64 (Af.fGram + Ad.fGram)) ≤ p1.fGram)) then obind (ix Aa (w64 (((Aa.length:Int)) - 1))) fun Au=>obind (ix Ac Ab) fun Ar=>obind (d_spec_l10Add fu Af Ae Ad) fun Am=>obind (ix Aa (w64 (((Aa.length:Int)) - 1))) fun At=>d_spec_Shelves_J1 fu k4 Ab (setx Aa (w64 (((Aa.length:Int)) - 1)) Am) else obind (ix Ac Ab) fun Aq=>obind (d_spec_l10Add fu ((⟨[],0,0,0,0⟩:Shelf)) Ae Ad) fun Ah=>obind (apnd 56 Aa [Ah]) fun Ao=>d_spec_Shelves_J1 fu k4 Ab Ao else obind (ix Ac Ab) fun Ap=>obind (d_spec_l10Add fu ((⟨[],0,0,0,0⟩:Shelf)) Ae Ad) fun Ag=>obind (apnd 56 Aa [Ag]) fun Aj=>d_spec_Shelves_J1 fu k4 Ab Aj else obind (ix Ac Ab) fun As=>obind (d_spec_l10Add fu ((⟨[],0,0,0,0⟩:Shelf)) Ae Ad) fun Al=>obind (apnd 56 Aa [Al]) fun Ak=>d_spec_Shelves_J1 fu k4 Ab Ak else some (Aa)
def d_spec_Shelves_L1 (fu:Nat)  (p1:Pallet) (Ab:List Box) (Aa:(List Int)):Nat → List Shelf → Int → Option ((List Shelf))
  | 0=>fun _ _=>none
  | n + 1=>d_spec_Shelves_L1_B fu p1 Ab Aa (d_spec_Shelves_L1 fu p1 Ab Aa n)

def d_spec_Shelves_L2_B (fu:Nat)  (p1:Pallet) (Aa:List Box) (k1:List Int → Int → Option ((List Shelf))) (Ac:List Int) (Ab:Int):Option ((List Shelf)) :=
  bif (decide (Ab < ((Aa.length:Int)))) then obind (ix Aa Ab) fun Af=>obind (apnd 8 Ac (([Af.fD]:List Int))) fun Ae=>k1 Ae (w64 (Ab + 1)) else obind (d_spec_SortDown fu Ac) fun Ad=>d_spec_Shelves_L1 fu p1 Aa Ad fu (([]:List Shelf)) 0
def d_spec_Shelves_L2 (fu:Nat)  (p1:Pallet) (Aa:List Box):Nat → List Int → Int → Option ((List Shelf))
  | 0=>fun _ _=>none
  | n + 1=>d_spec_Shelves_L2_B fu p1 Aa (d_spec_Shelves_L2 fu p1 Aa n)

def d_spec_Shelves (fu:Nat) (p1:Pallet) (Aa:List Box):Option ((List Shelf)) :=
  obind (d_spec_BoxesOk fu p1 Aa) fun Ab=>bif (!Ab) then some (([]:List Shelf)) else d_spec_Shelves_L2 fu p1 Aa fu (([]:List Int)) 0

def d_spec_l11Ok (fu:Nat) (p1:Pallet) (d2:Int) (h3:Int) (Aa:Int):Option (Bool) :=
  obind (d_spec_l1In fu d2 1 p1.fD) fun x8=>bif x8 then obind (d_spec_l1In fu h3 1 p1.fH) fun Ac=>bif Ac then obind (d_spec_l1In fu Aa 1 p1.fGram) fun Ab=>some (Ab) else some (false) else some (false)

def d_spec_ShelvesOk_L1_B (fu:Nat)  (p1:Pallet) (Ab:List Shelf) (k1:Int → Option (Bool)) (Aa:Int):Option (Bool) :=
  bif (decide (Aa < ((Ab.length:Int)))) then obind (ix Ab Aa) fun Ac=>obind (ix Ab Aa) fun Af=>obind (ix Ab Aa) fun Ae=>obind (d_spec_l11Ok fu p1 Ac.fD Ac.fH Ac.fGram) fun Ad=>bif (!Ad) then some (false) else k1 (w64 (Aa + 1)) else some (true)
def d_spec_ShelvesOk_L1 (fu:Nat)  (p1:Pallet) (Aa:List Shelf):Nat → Int → Option (Bool)
  | 0=>fun _=>none
  | n + 1=>d_spec_ShelvesOk_L1_B fu p1 Aa (d_spec_ShelvesOk_L1 fu p1 Aa n)

def d_spec_ShelvesOk (fu:Nat) (p1:Pallet) (Ab:List Shelf):Option (Bool) :=
  obind (d_spec_PalletOk fu p1) fun Aa=>bif (!Aa) then some (false) else d_spec_ShelvesOk_L1 fu p1 Ab fu 0

def d_spec_LayersOf_J1 (fu:Nat) (k7:List Layer → Int → Option ((List Layer))) (Ab:Int) (Aa:List Layer):Option ((List Layer)) :=
  k7 Aa (w64 (Ab + 1))

def d_spec_LayersOf_J2 (fu:Nat) (k7:List Layer → Int → Option ((List Layer))) (Ae:Int) (Ab:Shelf) (Ad:List Layer) (Ac:Int):Option ((List Layer)) :=
  obind (ix Ad (w64 (Ac - 1))) fun Aa=>obind (apnd 8 (([]:List Int)) Aa.fShelves) fun Ag=>obind (apnd 8 Ag (([Ae]:List Int))) fun Af=>obind (d_spec_l1Max fu Aa.fH Ab.fH) fun Ah=>obind (ix Ad (w64 (Ac - 1))) fun Ai=>d_spec_LayersOf_J1 fu k7 Ae (setx Ad (w64 (Ac - 1)) ((⟨Af,w64 (Aa.fD + Ab.fD),Ah,w64 (Aa.fGram + Ab.fGram)⟩:Layer)))

def d_spec_LayersOf_L1_B (fu:Nat)  (p1:Pallet) (Ae:List Shelf) (k7:List Layer → Int → Option ((List Layer))) (Aa:List Layer) (Ab:Int):Option ((List Layer)) :=
  bif (decide (Ab < ((Ae.length:Int)))) then obind (ix Ae Ab) fun Ac=>bif (((Aa.length:Int)) == 0) then obind (apnd 48 Aa [(⟨[],0,0,0⟩:Layer)]) fun Ah=>d_spec_LayersOf_J2 fu k7 Ab Ac Ah (w64 (((Aa.length:Int)) + 1)) else obind (ix Aa (w64 (((Aa.length:Int)) - 1))) fun Ad=>bif (decide ((w64 (Ad.fD + Ac.fD)) > p1.fD)) then obind (apnd 48 Aa [(⟨[],0,0,0⟩:Layer)]) fun Ag=>d_spec_LayersOf_J2 fu k7 Ab Ac Ag (w64 (((Aa.length:Int)) + 1)) else obind (ix Aa (w64 (((Aa.length:Int)) - 1))) fun Ai=>bif (decide ((w64 (Ad.fGram + Ac.fGram)) > p1.fGram)) then obind (apnd 48 Aa [(⟨[],0,0,0⟩:Layer)]) fun Af=>d_spec_LayersOf_J2 fu k7 Ab Ac Af (w64 (((Aa.length:Int)) + 1)) else d_spec_LayersOf_J2 fu k7 Ab Ac Aa ((Aa.length:Int)) else some (Aa)
def d_spec_LayersOf_L1 (fu:Nat)  (p1:Pallet) (Aa:List Shelf):Nat → List Layer → Int → Option ((List Layer))
  | 0=>fun _ _=>none
  | n + 1=>d_spec_LayersOf_L1_B fu p1 Aa (d_spec_LayersOf_L1 fu p1 Aa n)

def d_spec_LayersOf (fu:Nat) (p1:Pallet) (Aa:List Shelf):Option ((List Layer)) :=
  obind (d_spec_ShelvesOk fu p1 Aa) fun Ab=>bif (!Ab) then some (([]:List Layer)) else d_spec_LayersOf_L1 fu p1 Aa fu (([]:List Layer)) 0

def d_spec_StacksOk_L1_B (fu:Nat)  (p1:Pallet) (Ab:List Layer) (k1:Int → Option (Bool)) (Aa:Int):Option (Bool) :=
  bif (decide (Aa < ((Ab.length:Int)))) then obind (ix Ab Aa) fun Ac=>obind (ix Ab Aa) fun Af=>obind (ix Ab Aa) fun Ae=>obind (d_spec_l11Ok fu p1 Ac.fD Ac.fH Ac.fGram) fun Ad=>bif (!Ad) then some (false) else k1 (w64 (Aa + 1)) else some (true)
def d_spec_StacksOk_L1 (fu:Nat)  (p1:Pallet) (Aa:List Layer):Nat → Int → Option (Bool)
  | 0=>fun _=>none
  | n + 1=>d_spec_StacksOk_L1_B fu p1 Aa (d_spec_StacksOk_L1 fu p1 Aa n)

def d_spec_StacksOk (fu:Nat) (p1:Pallet) (Ab:List Layer):Option (Bool) :=
  obind (d_spec_PalletOk fu p1) fun Aa=>bif (!Aa) then some (false) else d_spec_StacksOk_L1 fu p1 Ab fu 0

def d_spec_LoadsOf_J1 (fu:Nat) (k7:List Load → Int → Option ((List Load))) (Aa:Int) (Ab:List Load):Option ((List Load)) :=
  k7 Ab (w64 (Aa + 1))

def d_spec_LoadsOf_J2 (fu:Nat) (k7:List Load → Int → Option ((List Load))) (Ae:Int) (Ad:Layer) (Ac:List Load) (Ab:Int):Option ((List Load)) :=
  obind (ix Ac (w64 (Ab - 1))) fun Aa=>obind (apnd 8 (([]:List Int)) Aa.fLayers) fun Ag=>obind (apnd 8 Ag (([Ae]:List Int))) fun Af=>obind (ix Ac (w64 (Ab - 1))) fun Ah=>d_spec_LoadsOf_J1 fu k7 Ae (setx Ac (w64 (Ab - 1)) ((⟨Af,w64 (Aa.fH + Ad.fH),w64 (Aa.fGram + Ad.fGram)⟩:Load)))

def d_spec_LoadsOf_L1_B (fu:Nat)  (p1:Pallet) (Ae:List Layer) (k7:List Load → Int → Option ((List Load))) (Aa:List Load) (Ac:Int):Option ((List Load)) :=
  bif (decide (Ac < ((Ae.length:Int)))) then obind (ix Ae Ac) fun Ab=>bif (((Aa.length:Int)) == 0) then obind (apnd 40 Aa [(⟨[],0,0⟩:Load)]) fun Ag=>d_spec_LoadsOf_J2 fu k7 Ac Ab Ag (w64 (((Aa.length:Int)) + 1)) else obind (ix Aa (w64 (((Aa.length:Int)) - 1))) fun Ad=>bif (decide ((w64 (Ad.fH + Ab.fH)) > p1.fH)) then obind (apnd 40 Aa [(⟨[],0,0⟩:Load)]) fun Ah=>d_spec_LoadsOf_J2 fu k7 Ac Ab Ah (w64 (((Aa.length:Int)) + 1)) else obind (ix Aa (w64 (((Aa.length:Int)) - 1))) fun Ai=>bif (decide ((w64 (Ad.fGram + Ab.fGram)) > p1.fGram)) then obind (apnd 40 Aa [(⟨[],0,0⟩:Load)]) fun Af=>d_spec_LoadsOf_J2 fu k7 Ac Ab Af (w64 (((Aa.length:Int)) + 1)) else d_spec_LoadsOf_J2 fu k7 Ac Ab Aa ((Aa.length:Int)) else some (Aa)
def d_spec_LoadsOf_L1 (fu:Nat)  (p1:Pallet) (Aa:List Layer):Nat → List Load → Int → Option ((List Load))
  | 0=>fun _ _=>none
  | n + 1=>d_spec_LoadsOf_L1_B fu p1 Aa (d_spec_LoadsOf_L1 fu p1 Aa n)

def d_spec_LoadsOf (fu:Nat) (p1:Pallet) (Aa:List Layer):Option ((List Load)) :=
  obind (d_spec_StacksOk fu p1 Aa) fun Ab=>bif (!Ab) then some (([]:List Load)) else d_spec_LoadsOf_L1 fu p1 Aa fu (([]:List Load)) 0

def d_spec_SpotsOf_L1_B (fu:Nat) (Ag:List Spot → Int → Int → Option ((List Spot))) (Ah:List Box) (Ai:Int) (Al:Int) (Ae:Int) (Ak:Int) (Aa:Shelf) (Am:List Spot → Int → Int → Option ((List Spot))) (Ad:List Spot) (Af:Int) (Ab:Int):Option ((List Spot)) :=
  bif (decide (Ab < ((Aa.fList.length:Int)))) then obind (ix Aa.fList Ab) fun Ac=>obind (ix Ad Ac) fun Ap=>obind (ix Aa.fList Ab) fun Ao=>obind (ix Ah Ac) fun Aj=>Am (setx Ad Ac ((⟨Ai,Af,Ae,Al⟩:Spot))) (w64 (Af + Aj.fW)) (w64 (Ab + 1)) else Ag Ad (w64 (Ae + Aa.fD)) (w64 (Ak + 1))
def d_spec_SpotsOf_L1 (fu:Nat) (Aa:List Spot → Int → Int → Option ((List Spot))) (Ac:List Box) (Ad:Int) (Af:Int) (Ab:Int) (Ae:Int) (Ag:Shelf):Nat → List Spot → Int → Int → Option ((List Spot))
  | 0=>fun _ _ _=>none
  | n + 1=>d_spec_SpotsOf_L1_B fu Aa Ac Ad Af Ab Ae Ag (d_spec_SpotsOf_L1 fu Aa Ac Ad Af Ab Ae Ag n)

def d_spec_SpotsOf_L2_B (fu:Nat) (Am:List Spot → Int → Int → Option ((List Spot))) (Ag:List Box) (Ai:(List Shelf)) (Ah:Int) (Ad:Int) (Al:Int) (Aa:Layer) (Ae:List Spot → Int → Int → Option ((List Spot))) (Ac:List Spot) (Af:Int) (Ab:Int):Option ((List Spot)) :=
  bif (decide (Ab < ((Aa.fShelves.length:Int)))) then obind (ix Aa.fShelves Ab) fun Aj=>obind (ix Ai Aj) fun Ak=>d_spec_SpotsOf_L1 fu Ae Ag Ah Ad Af Ab Ak fu Ac 0 0 else Am Ac (w64 (Ad + Aa.fH)) (w64 (Al + 1))
def d_spec_SpotsOf_L2 (fu:Nat) (Ag:List Spot → Int → Int → Option ((List Spot))) (Ab:List Box) (Ad:(List Shelf)) (Ac:Int) (Ae:Int) (Af:Int) (Aa:Layer):Nat → List Spot → Int → Int → Option ((List Spot))
  | 0=>fun _ _ _=>none
  | n + 1=>d_spec_SpotsOf_L2_B fu Ag Ab Ad Ac Ae Af Aa (d_spec_SpotsOf_L2 fu Ag Ab Ad Ac Ae Af Aa n)

def d_spec_SpotsOf_L3_B (fu:Nat) (Am:List Spot → Int → Option ((List Spot))) (Ag:List Box) (Ah:(List Shelf)) (Ak:(List Layer)) (Ad:(List Load)) (Aa:Int) (Al:List Spot → Int → Int → Option ((List Spot))) (Ac:List Spot) (Aj:Int) (Ab:Int):Option ((List Spot)) :=
  obind (ix Ad Aa) fun Ae=>bif (decide (Ab < ((Ae.fLayers.length:Int)))) then obind (ix Ad Aa) fun Ao=>obind (ix Ae.fLayers Ab) fun Ai=>obind (ix Ak Ai) fun Af=>d_spec_SpotsOf_L2 fu Al Ag Ah Aa Aj Ab Af fu Ac 0 0 else Am Ac (w64 (Aa + 1))
def d_spec_SpotsOf_L3 (fu:Nat) (Af:List Spot → Int → Option ((List Spot))) (Ab:List Box) (Ad:(List Shelf)) (Ae:(List Layer)) (Aa:(List Load)) (Ac:Int):Nat → List Spot → Int → Int → Option ((List Spot))
  | 0=>fun _ _ _=>none
  | n + 1=>d_spec_SpotsOf_L3_B fu Af Ab Ad Ae Aa Ac (d_spec_SpotsOf_L3 fu Af Ab Ad Ae Aa Ac n)

def d_spec_SpotsOf_L4_B (fu:Nat)  (Ad:List Box) (Ae:(List Shelf)) (Af:(List Layer)) (Aa:(List Load)) (Ag:List Spot → Int → Option ((List Spot))) (Ac:List Spot) (Ab:Int):Option ((List Spot)) :=
  bif (decide (Ab < ((Aa.length:Int)))) then d_spec_SpotsOf_L3 fu Ag Ad Ae Af Aa Ab fu Ac 0 0 else some (Ac)
def d_spec_SpotsOf_L4 (fu:Nat)  (Ab:List Box) (Ad:(List Shelf)) (Ac:(List Layer)) (Aa:(List Load)):Nat → List Spot → Int → Option ((List Spot))
  | 0=>fun _ _=>none
  | n + 1=>d_spec_SpotsOf_L4_B fu Ab Ad Ac Aa (d_spec_SpotsOf_L4 fu Ab Ad Ac Aa n)

def d_spec_SpotsOf (fu:Nat) (p1:Pallet) (Aa:List Box):Option ((List Spot)) :=
  obind (mk 32 (⟨(0:Int),(0:Int),(0:Int),(0:Int)⟩:Spot) ((Aa.length:Int))) fun Af=>obind (d_spec_BoxesOk fu p1 Aa) fun Ae=>bif (!Ae) then some (([]:List Spot)) else obind (d_spec_Shelves fu p1 Aa) fun Ab=>obind (d_spec_LayersOf fu p1 Ab) fun Ac=>obind (d_spec_LoadsOf fu p1 Ac) fun Ad=>d_spec_SpotsOf_L4 fu Aa Ab Ac Ad fu Af 0

def d_spec_Pallets_J1 (fu:Nat) (k3:Int → Int → Option (Int)) (Aa:Int) (Ab:Int):Option (Int) :=
  k3 Ab (w64 (Aa + 1))

def d_spec_Pallets_L1_B (fu:Nat)  (Ab:List Spot) (k3:Int → Int → Option (Int)) (Ac:Int) (Aa:Int):Option (Int) :=
  bif (decide (Aa < ((Ab.length:Int)))) then obind (ix Ab Aa) fun Ad=>obind (d_spec_l1In fu Ad.fPallet 0 999999) fun Ae=>bif Ae then obind (ix Ab Aa) fun Ag=>obind (d_spec_l1Max fu Ac (w64 (Ad.fPallet + 1))) fun Af=>d_spec_Pallets_J1 fu k3 Aa Af else d_spec_Pallets_J1 fu k3 Aa Ac else some (Ac)
def d_spec_Pallets_L1 (fu:Nat)  (Aa:List Spot):Nat → Int → Int → Option (Int)
  | 0=>fun _ _=>none
  | n + 1=>d_spec_Pallets_L1_B fu Aa (d_spec_Pallets_L1 fu Aa n)

def d_spec_Pallets (fu:Nat) (Aa:List Spot):Option (Int) :=
  d_spec_Pallets_L1 fu Aa fu 0 0

def d_spec_PlanOf_J1 (fu:Nat) (Ac:List Box → Int → Option (Plan × Bool)) (Ab:Int) (Aa:List Box):Option (Plan × Bool) :=
  Ac Aa (w64 (Ab + 1))

def d_spec_PlanOf_L1_B (fu:Nat) (Ag:List Spot → Int → Int → Option (Plan × Bool)) (Ae:Int) (Af:Int) (Ac:(List Spot)) (Ah:List Spot → Int → Option (Plan × Bool)) (Ad:List Spot) (Ab:Int):Option (Plan × Bool) :=
  bif (decide (Ab < ((Ac.length:Int)))) then obind (ix Ac Ab) fun Aa=>obind (apnd 32 Ad (([(⟨w64 (Aa.fPallet + Ae),Aa.fX,Aa.fY,Aa.fZ⟩:Spot)]:List Spot))) fun Aj=>Ah Aj (w64 (Ab + 1)) else obind (d_spec_Pallets fu Ac) fun Ai=>Ag Ad (w64 (Ae + Ai)) (w64 (Af + 1))
def d_spec_PlanOf_L1 (fu:Nat) (Ac:List Spot → Int → Int → Option (Plan × Bool)) (Ab:Int) (Aa:Int) (Ad:(List Spot)):Nat → List Spot → Int → Option (Plan × Bool)
  | 0=>fun _ _=>none
  | n + 1=>d_spec_PlanOf_L1_B fu Ac Ab Aa Ad (d_spec_PlanOf_L1 fu Ac Ab Aa Ad n)

def d_spec_PlanOf_L2_B (fu:Nat) (Ah:List Spot → Int → Int → Option (Plan × Bool)) (r1:Request) (Ab:(List Carton)) (Ag:List Spot) (Aj:Int) (Ad:Int) (Af:List Box → Int → Option (Plan × Bool)) (Ac:List Box) (Aa:Int):Option (Plan × Bool) :=
  bif (decide (Aa < ((Ab.length:Int)))) then obind (ix Ab Aa) fun Ae=>bif (Ae.fGroup == Ad) then obind (ix Ab Aa) fun Am=>obind (d_spec_BoxOf fu r1 Ae) fun Ai=>obind (apnd 32 Ac (([Ai]:List Box))) fun Al=>d_spec_PlanOf_J1 fu Af Aa Al else d_spec_PlanOf_J1 fu Af Aa Ac else obind (d_spec_SpotsOf fu r1.fPallet Ac) fun Ak=>d_spec_PlanOf_L1 fu Ah Aj Ad Ak fu Ag 0
def d_spec_PlanOf_L2 (fu:Nat) (Ad:List Spot → Int → Int → Option (Plan × Bool)) (r1:Request) (Ac:(List Carton)) (Aa:List Spot) (Ae:Int) (Ab:Int):Nat → List Box → Int → Option (Plan × Bool)
  | 0=>fun _ _=>none
  | n + 1=>d_spec_PlanOf_L2_B fu Ad r1 Ac Aa Ae Ab (d_spec_PlanOf_L2 fu Ad r1 Ac Aa Ae Ab n)

def d_spec_PlanOf_L3_B (fu:Nat)  (r1:Request) (Ac:(List Carton)) (Af:(List (List Int))) (Ad:List Spot → Int → Int → Option (Plan × Bool)) (Aa:List Spot) (Ae:Int) (Ab:Int):Option (Plan × Bool) :=
  bif (decide (Ab < ((Af.length:Int)))) then d_spec_PlanOf_L2 fu Ad r1 Ac Aa Ae Ab fu (([]:List Box)) 0 else some ((⟨Ac,Aa⟩:Plan),true)
def d_spec_PlanOf_L3 (fu:Nat)  (r1:Request) (Ab:(List Carton)) (Aa:(List (List Int))):Nat → List Spot → Int → Int → Option (Plan × Bool)
  | 0=>fun _ _ _=>none
  | n + 1=>d_spec_PlanOf_L3_B fu r1 Ab Aa (d_spec_PlanOf_L3 fu r1 Ab Aa n)

def d_spec_PlanOf (fu:Nat) (r1:Request):Option (Plan × Bool) :=
  obind (d_spec_Class fu r1) fun Ab=>bif (Ab != 0) then some ((⟨[],[]⟩:Plan),false) else obind (d_spec_CartonsOf fu r1) fun Ac=>obind (d_spec_GroupsOf fu r1) fun Aa=>d_spec_PlanOf_L3 fu r1 Ac Aa fu (([]:List Spot)) 0 0

def d_spec_l9Carton (fu:Nat) (x1:Carton):Option (Carton) :=
  obind (apnd 8 (([]:List Int)) x1.fUnits) fun Aa=>some ((⟨x1.fType,x1.fGroup,Aa⟩:Carton))

def d_spec_l13Draw_J1 (fu:Nat) (Ac:Request) (Ab:List Carton) (Aa:List Spot):Option (Request × Plan) :=
  some (Ac,(⟨Ab,Aa⟩:Plan))

def d_spec_l13Draw (fu:Nat) (Ae:List U8):Option (Request × Plan) :=
  obind (d_spec_DrawClass fu Ae) fun Ad=>obind (d_spec_PlanOf fu Ad) fun Aa=>obind (d_spec_l1New fu Ae) fun Ai=>bif (((Aa.1.fCartons.length:Int)) == 0) then some (Ad,Aa.1) else obind (d_spec_l1Below fu ((⟨Ae,Ai.fi,Ai.fh⟩:Cur)) ((Aa.1.fCartons.length:Int))) fun Ab=>obind (d_spec_l1Below fu ((⟨Ae,Ab.2.fi,Ab.2.fh⟩:Cur)) 14) fun Ac=>bif (Ac.1 == 0) then obind (ix Aa.1.fSpots Ab.1) fun Ah=>obind (ix Aa.1.fSpots Ab.1) fun Ba=>d_spec_l13Draw_J1 fu Ad Aa.1.fCartons (setx Aa.1.fSpots Ab.1 ({ Ah with fX:=w64 (Ah.fX + 1) })) else bif (Ac.1 == 1) then obind (d_spec_l1Below fu ((⟨Ae,Ac.2.fi,Ac.2.fh⟩:Cur)) 3) fun Av=>obind (ix Aa.1.fSpots Ab.1) fun Ay=>d_spec_l13Draw_J1 fu Ad Aa.1.fCartons (setx Aa.1.fSpots Ab.1 ({ Ay with fPallet:=Av.1 })) else bif (Ac.1 == 2) then obind (d_spec_l1PickInt fu ((⟨Ae,Ac.2.fi,Ac.2.fh⟩:Cur)) (([7,10,11,99,(-1)]:List Int))) fun At=>obind (ix Aa.1.fCartons Ab.1) fun Aj=>d_spec_l13Draw_J1 fu Ad (setx Aa.1.fCartons Ab.1 ((⟨At.1,Aj.fGroup,Aj.fUnits⟩:Carton))) Aa.1.fSpots else bif (Ac.1 == 3) then obind (ix Aa.1.fCartons Ab.1) fun Af=>obind (d_spec_l1Below fu ((⟨Ae,Ac.2.fi,Ac.2.fh⟩:Cur)) 14) fun Ax=>obind (apnd 8 Af.fUnits (([w64 (Ax.1 - 1)]:List Int))) fun Ap=>obind (ix Aa.1.fCartons Ab.1) fun Az=>d_spec_l13Draw_J1 fu Ad (setx Aa.1.fCartons Ab.1 ((⟨Af.fType,Af.fGroup,Ap⟩:Carton))) Aa.1.fSpots else bif (Ac.1 == 4) then obind (ix Aa.1.fCartons Ab.1) fun Ak=>d_spec_l13Draw_J1 fu Ad (setx Aa.1.fCartons Ab.1 ((⟨Ak.fType,Ak.fGroup,[]⟩:Carton))) Aa.1.fSpots else bif (Ac.1 == 5) then obind (sls Aa.1.fSpots 1 (Aa.1.fSpots.length:Int)) fun Au=>d_spec_l13Draw_J1 fu Ad Aa.1.fCartons Au else bif (Ac.1 == 6) then obind (d_spec_l1Below fu ((⟨Ae,Ac.2.fi,Ac.2.fh⟩:Cur)) 6) fun Aw=>obind (ix Aa.1.fCartons Ab.1) fun Ag=>d_spec_l13Draw_J1 fu Ad (setx Aa.1.fCartons Ab.1 ((⟨Ag.fType,w64 (Aw.1 - 1),Ag.fUnits⟩:Carton))) Aa.1.fSpots else bif (Ac.1 == 7) then obind (ix Aa.1.fCartons Ab.1) fun Am=>obind (d_spec_l9Carton fu Am) fun As=>obind (apnd 40 Aa.1.fCartons [As]) fun Al=>obind (apnd 32 Aa.1.fSpots (([(⟨9,0,0,0⟩:Spot)]:List Spot))) fun Ar=>d_spec_l13Draw_J1 fu Ad Al Ar else bif (Ac.1 == 8) then obind (d_spec_l1PickInt fu ((⟨Ae,Ac.2.fi,Ac.2.fh⟩:Cur)) (([0,2000,2001,(-1)]:List Int))) fun Aq=>obind (ix Aa.1.fSpots Ab.1) fun Ao=>d_spec_l13Draw_J1 fu Ad Aa.1.fCartons (setx Aa.1.fSpots Ab.1 ({ Ao with fZ:=Aq.1 })) else d_spec_l13Draw_J1 fu Ad Aa.1.fCartons Aa.1.fSpots

def d_spec_DrawPlanText (fu:Nat) (Aa:List U8):Option (Plan) :=
  obind (d_spec_l13Draw fu Aa) fun x8=>some (x8.2)

def d_impl_in (fu:Nat) (n1:Int) (Aa:Int) (Ab:Int):Option (Bool) :=
  bif (decide (n1 ≥ Aa)) then some (decide (n1 ≤ Ab)) else some (false)

def d_impl_unitsRight_J1 (fu:Nat) (k3:Int → Option (Bool)) (Aa:Int)  : Option (Bool) :=
  k3 (w64 (Aa + 1))

def d_impl_unitsRight_L1_B (fu:Nat)  (Ab:List Int) (k3:Int → Option (Bool)) (Aa:Int):Option (Bool) :=
  bif (decide (Aa < ((Ab.length:Int)))) then obind (ix Ab Aa) fun Ac=>obind (d_impl_in fu Ac 0 999) fun Ae=>bif (!Ae) then some (false) else bif (decide (Aa > 0)) then obind (ix Ab (w64 (Aa - 1))) fun Ad=>bif (decide (Ad ≥ Ac)) then some (false) else d_impl_unitsRight_J1 fu k3 Aa else d_impl_unitsRight_J1 fu k3 Aa else some (decide (((Ab.length:Int)) ≤ 100))
def d_impl_unitsRight_L1 (fu:Nat)  (Aa:List Int):Nat → Int → Option (Bool)
  | 0=>fun _=>none
  | n + 1=>d_impl_unitsRight_L1_B fu Aa (d_impl_unitsRight_L1 fu Aa n)

def d_impl_unitsRight (fu:Nat) (Aa:List Int):Option (Bool) :=
  d_impl_unitsRight_L1 fu Aa fu 0

def d_impl_isPlace (fu:Nat) (n1:Int):Option (Bool) :=
  obind (d_impl_in fu n1 0 2000) fun x2=>some (x2)

def d_impl_PlanOk_J1 (fu:Nat) (k4:Int → Option (Bool)) (Aa:Int)  : Option (Bool) :=
  k4 (w64 (Aa + 1))

def d_impl_PlanOk_L1_B (fu:Nat)  (x1:Plan) (k4:Int → Option (Bool)) (Aa:Int):Option (Bool) :=
  bif (decide (Aa < ((x1.fCartons.length:Int)))) then obind (ix x1.fCartons Aa) fun Ac=>obind (ix x1.fSpots Aa) fun Ab=>obind (d_impl_in fu Ac.fType 0 999) fun Aj=>bif (!Aj) then some (false) else obind (d_impl_in fu Ac.fGroup 0 3) fun Ae=>bif (!Ae) then some (false) else obind (d_impl_unitsRight fu Ac.fUnits) fun Ah=>bif (!Ah) then some (false) else obind (d_impl_isPlace fu Ab.fPallet) fun Ai=>bif (!Ai) then some (false) else obind (d_impl_isPlace fu Ab.fX) fun Af=>bif (!Af) then some (false) else obind (d_impl_isPlace fu Ab.fY) fun Ag=>bif (!Ag) then some (false) else obind (d_impl_isPlace fu Ab.fZ) fun Ad=>bif (!Ad) then some (false) else d_impl_PlanOk_J1 fu k4 Aa else some (true)
def d_impl_PlanOk_L1 (fu:Nat)  (x1:Plan):Nat → Int → Option (Bool)
  | 0=>fun _=>none
  | n + 1=>d_impl_PlanOk_L1_B fu x1 (d_impl_PlanOk_L1 fu x1 n)

def d_impl_PlanOk_J2 (fu:Nat) (x1:Plan)  : Option (Bool) :=
  d_impl_PlanOk_L1 fu x1 fu 0

def d_impl_PlanOk (fu:Nat) (x1:Plan):Option (Bool) :=
  bif (((x1.fSpots.length:Int)) != ((x1.fCartons.length:Int))) then some (false) else bif (decide (((x1.fCartons.length:Int)) > 100)) then some (false) else d_impl_PlanOk_J2 fu x1

def d_strconv_Itoa (fu:Nat) (x1:Int):Option ByteArray:=itoaO x1

def d_impl_Digits (fu:Nat) (n1:Int):Option (ByteArray) :=
  obind (d_strconv_Itoa fu n1) fun x2=>some (x2)

def d_impl_textLine_L1_B (fu:Nat)  (Ab:List Int) (k1:ByteArray → Int → Option (ByteArray × Bool)) (Ac:ByteArray) (Aa:Int):Option (ByteArray × Bool) :=
  bif (decide (Aa < ((Ab.length:Int)))) then obind (ix Ab Aa) fun Ad=>obind (d_impl_in fu Ad 0 999999) fun Ai=>bif (!Ai) then some ((⟨#[]⟩:ByteArray),false) else obind (d_impl_Digits fu Ad) fun Ag=>obind (scat ((⟨#[32]⟩:ByteArray)) Ag) fun Af=>obind (scat Ac Af) fun Ae=>k1 Ae (w64 (Aa + 1)) else obind (scat Ac ((⟨#[10]⟩:ByteArray))) fun Ah=>some (Ah,true)
def d_impl_textLine_L1 (fu:Nat)  (Aa:List Int):Nat → ByteArray → Int → Option (ByteArray × Bool)
  | 0=>fun _ _=>none
  | n + 1=>d_impl_textLine_L1_B fu Aa (d_impl_textLine_L1 fu Aa n)

def d_impl_textLine (fu:Nat) (Aa:ByteArray) (Ab:List Int):Option (ByteArray × Bool) :=
  d_impl_textLine_L1 fu Ab fu Aa 0

def d_impl_PlanText_L1_B (fu:Nat)  (x1:Plan) (k1:ByteArray → Int → Option (ByteArray)) (Ad:ByteArray) (Aa:Int):Option (ByteArray) :=
  bif (decide (Aa < ((x1.fCartons.length:Int)))) then obind (ix x1.fCartons Aa) fun Ac=>obind (ix x1.fSpots Aa) fun Ab=>obind (apnd 8 (([Ac.fType,Ac.fGroup,Ab.fPallet,Ab.fX,Ab.fY,Ab.fZ]:List Int)) Ac.fUnits) fun Ae=>obind (d_impl_textLine fu ((⟨#[99,97,114,116,111,110]⟩:ByteArray)) Ae) fun Ag=>obind (scat Ad Ag.1) fun Af=>k1 Af (w64 (Aa + 1)) else some (Ad)
def d_impl_PlanText_L1 (fu:Nat)  (x1:Plan):Nat → ByteArray → Int → Option (ByteArray)
  | 0=>fun _ _=>none
  | n + 1=>d_impl_PlanText_L1_B fu x1 (d_impl_PlanText_L1 fu x1 n)

def d_impl_PlanText (fu:Nat) (x1:Plan):Option (ByteArray) :=
  obind (d_impl_PlanOk fu x1) fun Aa=>bif (!Aa) then some ((⟨#[]⟩:ByteArray)) else d_impl_PlanText_L1 fu x1 fu ((⟨#[]⟩:ByteArray)) 0

def d_impl_Parts_J1 (fu:Nat) (k3:List ByteArray → Int → Int → Option ((List ByteArray))) (Ab:Int) (Aa:List ByteArray) (Ac:Int):Option ((List ByteArray)) :=
  k3 Aa Ac (w64 (Ab + 1))

def d_impl_Parts_L1_B (fu:Nat)  (Ab:ByteArray) (Ae:Int) (k3:List ByteArray → Int → Int → Option ((List ByteArray))) (Ac:List ByteArray) (Ad:Int) (Aa:Int):Option ((List ByteArray)) :=
  bif (decide (Aa < ((Ab.size:Int)))) then obind (sx Ab Aa) fun Ah=>bif (Ah == Ae) then obind (ssl Ab Ad Aa) fun Af=>obind (apnd 16 Ac (([Af]:List ByteArray))) fun Aj=>d_impl_Parts_J1 fu k3 Aa Aj (w64 (Aa + 1)) else d_impl_Parts_J1 fu k3 Aa Ac Ad else obind (ssl Ab Ad (Ab.size:Int)) fun Ai=>obind (apnd 16 Ac (([Ai]:List ByteArray))) fun Ag=>some (Ag)
def d_impl_Parts_L1 (fu:Nat)  (Aa:ByteArray) (Ab:Int):Nat → List ByteArray → Int → Int → Option ((List ByteArray))
  | 0=>fun _ _ _=>none
  | n + 1=>d_impl_Parts_L1_B fu Aa Ab (d_impl_Parts_L1 fu Aa Ab n)

def d_impl_Parts (fu:Nat) (Aa:ByteArray) (Ab:Int):Option ((List ByteArray)) :=
  d_impl_Parts_L1 fu Aa Ab fu (([]:List ByteArray)) 0 0

def d_strconv_Atoi (fu:Nat) (x1:ByteArray):Option (Int × Bool):=atoiO x1

def d_impl_Number_J1 (fu:Nat) (x2:Int × Bool)  : Option (Int × Bool) :=
  some (x2.1,true)

def d_impl_Number (fu:Nat) (Aa:ByteArray):Option (Int × Bool) :=
  obind (d_strconv_Atoi fu Aa) fun x2=>bif x2.2 then some (0,false) else obind (d_impl_in fu x2.1 0 999999) fun Ab=>bif (!Ab) then some (0,false) else obind (d_impl_Digits fu x2.1) fun Ac=>bif (!(Ac.toList == Aa.toList)) then some (0,false) else d_impl_Number_J1 fu x2

def d_impl_wordsOf_L1_B (fu:Nat)  (Ac:List ByteArray) (k2:List Int → Int → Option ((List Int) × Bool)) (Ad:List Int) (Aa:Int):Option ((List Int) × Bool) :=
  bif (decide (Aa < ((Ac.length:Int)))) then obind (ix Ac Aa) fun Af=>obind (d_impl_Number fu Af) fun Ab=>bif (!Ab.2) then some (([]:List Int),false) else obind (apnd 8 Ad (([Ab.1]:List Int))) fun Ae=>k2 Ae (w64 (Aa + 1)) else some (Ad,true)
def d_impl_wordsOf_L1 (fu:Nat)  (Aa:List ByteArray):Nat → List Int → Int → Option ((List Int) × Bool)
  | 0=>fun _ _=>none
  | n + 1=>d_impl_wordsOf_L1_B fu Aa (d_impl_wordsOf_L1 fu Aa n)

def d_impl_wordsOf_J1 (fu:Nat) (x4:(List ByteArray))  : Option ((List Int) × Bool) :=
  obind (sls x4 1 (x4.length:Int)) fun Aa=>d_impl_wordsOf_L1 fu Aa fu (([]:List Int)) 0

def d_impl_wordsOf (fu:Nat) (Aa:ByteArray) (Ac:ByteArray) (Ad:Int):Option ((List Int) × Bool) :=
  obind (d_impl_Parts fu Aa 32) fun x4=>obind (ix x4 0) fun Ab=>bif (!(Ab.toList == Ac.toList)) then some (([]:List Int),false) else bif (((x4.length:Int)) != (w64 (Ad + 1))) then some (([]:List Int),false) else d_impl_wordsOf_J1 fu x4

def d_impl_LineOf_J1 (fu:Nat) (Aa:(List Int) × Bool) (Af:Int) (Ag:Int) (Ae:List Int):Option (Carton × Spot × Bool) :=
  obind (ix Aa.1 2) fun Ab=>obind (ix Aa.1 3) fun Ad=>obind (ix Aa.1 4) fun Ah=>obind (ix Aa.1 5) fun Ac=>obind (d_impl_PlanOk fu ((⟨([(⟨Af,Ag,Ae⟩:Carton)]:List Carton),([(⟨Ab,Ad,Ah,Ac⟩:Spot)]:List Spot)⟩:Plan))) fun Ai=>bif (!Ai) then some ((⟨0,0,[]⟩:Carton),(⟨0,0,0,0⟩:Spot),false) else some ((⟨Af,Ag,Ae⟩:Carton),(⟨Ab,Ad,Ah,Ac⟩:Spot),true)

def d_impl_LineOf_J2 (fu:Nat) (Aa:(List Int) × Bool)  : Option (Carton × Spot × Bool) :=
  obind (ix Aa.1 0) fun Ad=>obind (ix Aa.1 1) fun Ac=>obind (sls Aa.1 6 (Aa.1.length:Int)) fun Ab=>d_impl_LineOf_J1 fu Aa Ad Ac Ab

def d_impl_LineOf (fu:Nat) (Aa:ByteArray):Option (Carton × Spot × Bool) :=
  obind (d_impl_Parts fu Aa 32) fun x8=>obind (d_impl_wordsOf fu Aa ((⟨#[99,97,114,116,111,110]⟩:ByteArray)) (w64 (((x8.length:Int)) - 1))) fun Ab=>bif (!Ab.2) then some ((⟨0,0,[]⟩:Carton),(⟨0,0,0,0⟩:Spot),false) else bif (decide ((w64 (((x8.length:Int)) - 1)) < 6)) then some ((⟨0,0,[]⟩:Carton),(⟨0,0,0,0⟩:Spot),false) else d_impl_LineOf_J2 fu Ab

def d_impl_ReadPlan_L1_B (fu:Nat)  (Ac:List ByteArray) (k2:List Carton → List Spot → Int → Option (Plan × Bool)) (Ad:List Carton) (Ae:List Spot) (Ab:Int):Option (Plan × Bool) :=
  bif (decide (Ab < ((Ac.length:Int)))) then obind (ix Ac Ab) fun Ag=>obind (d_impl_LineOf fu Ag) fun Aa=>bif (!Aa.2.2) then some ((⟨[],[]⟩:Plan),false) else obind (apnd 40 Ad [Aa.1]) fun Ah=>obind (apnd 32 Ae (([Aa.2.1]:List Spot))) fun Af=>k2 Ah Af (w64 (Ab + 1)) else some ((⟨Ad,Ae⟩:Plan),true)
def d_impl_ReadPlan_L1 (fu:Nat)  (Aa:List ByteArray):Nat → List Carton → List Spot → Int → Option (Plan × Bool)
  | 0=>fun _ _ _=>none
  | n + 1=>d_impl_ReadPlan_L1_B fu Aa (d_impl_ReadPlan_L1 fu Aa n)

def d_impl_ReadPlan_J1 (fu:Nat) (x5:(List ByteArray))  : Option (Plan × Bool) :=
  obind (sls x5 0 (w64 (((x5.length:Int)) - 1))) fun Aa=>d_impl_ReadPlan_L1 fu Aa fu (([]:List Carton)) (([]:List Spot)) 0

def d_impl_ReadPlan (fu:Nat) (Ab:ByteArray):Option (Plan × Bool) :=
  obind (d_impl_Parts fu Ab 10) fun x5=>obind (ix x5 (w64 (((x5.length:Int)) - 1))) fun Aa=>bif (!(Aa.toList == ((⟨#[]⟩:ByteArray)).toList)) then some ((⟨[],[]⟩:Plan),false) else bif (decide ((w64 (((x5.length:Int)) - 1)) > 100)) then some ((⟨[],[]⟩:Plan),false) else d_impl_ReadPlan_J1 fu x5

def d_spec_l13Carton_J1 (fu:Nat) (k4:Int → Option (Bool)) (Aa:Int)  : Option (Bool) :=
  k4 (w64 (Aa + 1))

def d_spec_l13Carton_L1_B (fu:Nat)  (x1:Carton) (k4:Int → Option (Bool)) (Aa:Int):Option (Bool) :=
  bif (decide (Aa < ((x1.fUnits.length:Int)))) then obind (ix x1.fUnits Aa) fun Ab=>obind (d_spec_l1In fu Ab 0 999) fun Ad=>bif (!Ad) then some (false) else bif (decide (Aa > 0)) then obind (ix x1.fUnits Aa) fun Ae=>obind (ix x1.fUnits (w64 (Aa - 1))) fun Ac=>bif (decide (Ab ≤ Ac)) then some (false) else d_spec_l13Carton_J1 fu k4 Aa else d_spec_l13Carton_J1 fu k4 Aa else some (true)
def d_spec_l13Carton_L1 (fu:Nat)  (x1:Carton):Nat → Int → Option (Bool)
  | 0=>fun _=>none
  | n + 1=>d_spec_l13Carton_L1_B fu x1 (d_spec_l13Carton_L1 fu x1 n)

def d_spec_l13Carton_J2 (fu:Nat) (x1:Carton)  : Option (Bool) :=
  d_spec_l13Carton_L1 fu x1 fu 0

def d_spec_l13Carton (fu:Nat) (x1:Carton):Option (Bool) :=
  obind (d_spec_l2Id fu x1.fType) fun Ab=>bif (!Ab) then some (false) else obind (d_spec_l1In fu x1.fGroup 0 3) fun Aa=>bif (!Aa) then some (false) else bif (decide (((x1.fUnits.length:Int)) > 100)) then some (false) else d_spec_l13Carton_J2 fu x1

def d_spec_PlanOk_J1 (fu:Nat) (k4:Int → Option (Bool)) (Aa:Int)  : Option (Bool) :=
  k4 (w64 (Aa + 1))

def d_spec_PlanOk_L1_B (fu:Nat)  (x1:Plan) (k4:Int → Option (Bool)) (Ab:Int):Option (Bool) :=
  bif (decide (Ab < ((x1.fCartons.length:Int)))) then obind (ix x1.fSpots Ab) fun Aa=>obind (ix x1.fCartons Ab) fun Ah=>obind (d_spec_l13Carton fu Ah) fun Ad=>bif (!Ad) then some (false) else obind (d_spec_l1In fu Aa.fPallet 0 2000) fun Ac=>bif (!Ac) then some (false) else obind (d_spec_l1In fu Aa.fX 0 2000) fun Ag=>bif (!Ag) then some (false) else obind (d_spec_l1In fu Aa.fY 0 2000) fun Af=>bif (!Af) then some (false) else obind (d_spec_l1In fu Aa.fZ 0 2000) fun Ae=>bif (!Ae) then some (false) else d_spec_PlanOk_J1 fu k4 Ab else some (true)
def d_spec_PlanOk_L1 (fu:Nat)  (x1:Plan):Nat → Int → Option (Bool)
  | 0=>fun _=>none
  | n + 1=>d_spec_PlanOk_L1_B fu x1 (d_spec_PlanOk_L1 fu x1 n)

def d_spec_PlanOk_J2 (fu:Nat) (x1:Plan)  : Option (Bool) :=
  d_spec_PlanOk_L1 fu x1 fu 0

def d_spec_PlanOk (fu:Nat) (x1:Plan):Option (Bool) :=
  bif (((x1.fCartons.length:Int)) != ((x1.fSpots.length:Int))) then some (false) else bif (decide (((x1.fCartons.length:Int)) > 100)) then some (false) else d_spec_PlanOk_J2 fu x1

def d_spec_Digits_J1 (fu:Nat) (k3:Int → ByteArray → Option (ByteArray)) (Ad:Int) (Ae:ByteArray) (Ab:Int):Option (ByteArray) :=
  obind (bstr (([(⟨w8 (w64 (48 + Ab))⟩:U8)]:List U8))) fun Aa=>obind (scat Aa Ae) fun Ac=>k3 (w64 (Int.tdiv Ad 10)) Ac

def d_spec_Digits_L1_B (fu:Nat)  (n1:Int) (k3:Int → ByteArray → Option (ByteArray)) (Aa:Int) (Ab:ByteArray):Option (ByteArray) :=
  bif (Aa != 0) then bif (decide ((Int.tmod Aa 10) < 0)) then d_spec_Digits_J1 fu k3 Aa Ab (w64 (0 - (Int.tmod Aa 10))) else d_spec_Digits_J1 fu k3 Aa Ab (Int.tmod Aa 10) else bif (decide (n1 < 0)) then obind (scat ((⟨#[45]⟩:ByteArray)) Ab) fun Ac=>some (Ac) else some (Ab)
def d_spec_Digits_L1 (fu:Nat)  (n1:Int):Nat → Int → ByteArray → Option (ByteArray)
  | 0=>fun _ _=>none
  | n + 1=>d_spec_Digits_L1_B fu n1 (d_spec_Digits_L1 fu n1 n)

def d_spec_Digits (fu:Nat) (n1:Int):Option (ByteArray) :=
  bif (n1 == 0) then some ((⟨#[48]⟩:ByteArray)) else d_spec_Digits_L1 fu n1 fu n1 ((⟨#[]⟩:ByteArray))

def d_spec_l14Line_L1_B (fu:Nat)  (Ab:List Int) (k1:ByteArray → Int → Option (ByteArray)) (Ac:ByteArray) (Aa:Int):Option (ByteArray) :=
  bif (decide (Aa < ((Ab.length:Int)))) then obind (scat Ac ((⟨#[32]⟩:ByteArray))) fun Ae=>obind (ix Ab Aa) fun Ag=>obind (d_spec_Digits fu Ag) fun Ad=>obind (scat Ae Ad) fun Af=>k1 Af (w64 (Aa + 1)) else some (Ac)
def d_spec_l14Line_L1 (fu:Nat)  (Aa:List Int):Nat → ByteArray → Int → Option (ByteArray)
  | 0=>fun _ _=>none
  | n + 1=>d_spec_l14Line_L1_B fu Aa (d_spec_l14Line_L1 fu Aa n)

def d_spec_l14Line (fu:Nat) (x1:Carton) (Aa:Spot):Option (ByteArray) :=
  obind (apnd 8 (([x1.fType,x1.fGroup,Aa.fPallet,Aa.fX,Aa.fY,Aa.fZ]:List Int)) x1.fUnits) fun Ab=>d_spec_l14Line_L1 fu Ab fu ((⟨#[99,97,114,116,111,110]⟩:ByteArray)) 0

def d_spec_PlanText_L1_B (fu:Nat)  (x1:Plan) (k1:ByteArray → Int → Option (ByteArray)) (Ab:ByteArray) (Aa:Int):Option (ByteArray) :=
  bif (decide (Aa < ((x1.fCartons.length:Int)))) then obind (ix x1.fCartons Aa) fun Ad=>obind (ix x1.fSpots Aa) fun Ag=>obind (d_spec_l14Line fu Ad Ag) fun Af=>obind (scat Ab Af) fun Ac=>obind (scat Ac ((⟨#[10]⟩:ByteArray))) fun Ae=>k1 Ae (w64 (Aa + 1)) else some (Ab)
def d_spec_PlanText_L1 (fu:Nat)  (x1:Plan):Nat → ByteArray → Int → Option (ByteArray)
  | 0=>fun _ _=>none
  | n + 1=>d_spec_PlanText_L1_B fu x1 (d_spec_PlanText_L1 fu x1 n)

def d_spec_PlanText (fu:Nat) (x1:Plan):Option (ByteArray) :=
  obind (d_spec_PlanOk fu x1) fun Aa=>bif (!Aa) then some ((⟨#[]⟩:ByteArray)) else d_spec_PlanText_L1 fu x1 fu ((⟨#[]⟩:ByteArray)) 0

def d_spec_l1Same_L1_B (fu:Nat)  (a1:List Int) (b5:List Int) (k1:Int → Option (Bool)) (Aa:Int):Option (Bool) :=
  bif (decide (Aa < ((a1.length:Int)))) then obind (ix a1 Aa) fun Ac=>obind (ix b5 Aa) fun Ab=>bif (Ac != Ab) then some (false) else k1 (w64 (Aa + 1)) else some (true)
def d_spec_l1Same_L1 (fu:Nat)  (a1:List Int) (b5:List Int):Nat → Int → Option (Bool)
  | 0=>fun _=>none
  | n + 1=>d_spec_l1Same_L1_B fu a1 b5 (d_spec_l1Same_L1 fu a1 b5 n)

def d_spec_l1Same (fu:Nat) (a1:List Int) (b5:List Int):Option (Bool) :=
  bif (((a1.length:Int)) != ((b5.length:Int))) then some (false) else d_spec_l1Same_L1 fu a1 b5 fu 0

def d_spec_PlanSame_J1 (fu:Nat) (k4:Int → Option (Bool)) (Aa:Int)  : Option (Bool) :=
  k4 (w64 (Aa + 1))

def d_spec_PlanSame_L1_B (fu:Nat)  (a1:Plan) (b5:Plan) (k6:Int → Option (Bool)) (Aa:Int):Option (Bool) :=
  bif (decide (Aa < ((a1.fSpots.length:Int)))) then obind (ix a1.fSpots Aa) fun Ac=>obind (ix b5.fSpots Aa) fun Ab=>bif (!(decide (Ac = Ab))) then some (false) else k6 (w64 (Aa + 1)) else some (true)
def d_spec_PlanSame_L1 (fu:Nat)  (a1:Plan) (b5:Plan):Nat → Int → Option (Bool)
  | 0=>fun _=>none
  | n + 1=>d_spec_PlanSame_L1_B fu a1 b5 (d_spec_PlanSame_L1 fu a1 b5 n)

def d_spec_PlanSame_L2_B (fu:Nat)  (a1:Plan) (b5:Plan) (k4:Int → Option (Bool)) (Aa:Int):Option (Bool) :=
  bif (decide (Aa < ((a1.fCartons.length:Int)))) then obind (ix a1.fCartons Aa) fun Ab=>obind (ix b5.fCartons Aa) fun Ac=>bif (Ab.fType != Ac.fType) then some (false) else obind (ix a1.fCartons Aa) fun Ag=>obind (ix b5.fCartons Aa) fun Ah=>bif (Ab.fGroup != Ac.fGroup) then some (false) else obind (ix a1.fCartons Aa) fun Ae=>obind (ix b5.fCartons Aa) fun Af=>obind (d_spec_l1Same fu Ab.fUnits Ac.fUnits) fun Ad=>bif (!Ad) then some (false) else d_spec_PlanSame_J1 fu k4 Aa else d_spec_PlanSame_L1 fu a1 b5 fu 0
def d_spec_PlanSame_L2 (fu:Nat)  (a1:Plan) (b5:Plan):Nat → Int → Option (Bool)
  | 0=>fun _=>none
  | n + 1=>d_spec_PlanSame_L2_B fu a1 b5 (d_spec_PlanSame_L2 fu a1 b5 n)

def d_spec_PlanSame_J2 (fu:Nat) (a1:Plan) (b5:Plan)  : Option (Bool) :=
  d_spec_PlanSame_L2 fu a1 b5 fu 0

def d_spec_PlanSame (fu:Nat) (a1:Plan) (b5:Plan):Option (Bool) :=
  bif (((a1.fCartons.length:Int)) != ((b5.fCartons.length:Int))) then some (false) else bif (((a1.fSpots.length:Int)) != ((b5.fSpots.length:Int))) then some (false) else d_spec_PlanSame_J2 fu a1 b5

def d_spec_l1Pick (fu:Nat) (c1:Cur) (Ab:List ByteArray):Option (ByteArray × Cur) :=
  obind (d_spec_l1Below fu c1 ((Ab.length:Int))) fun Aa=>obind (ix Ab Aa.1) fun Ac=>some (Ac,(⟨c1.fb,Aa.2.fi,Aa.2.fh⟩:Cur))

def d_spec_l14Bend (fu:Nat) (c1:Cur) (Ac:ByteArray):Option (ByteArray × Cur) :=
  obind (btsO Ac) fun b9=>obind (d_spec_l1Below fu c1 (w64 (((b9.length:Int)) + 1))) fun Ab=>obind (d_spec_l1Below fu ((⟨c1.fb,Ab.2.fi,Ab.2.fh⟩:Cur)) 7) fun Aa=>bif (Aa.1 == 0) then obind (sls b9 0 Ab.1) fun Aj=>obind (bstr Aj) fun Ak=>some (Ak,(⟨c1.fb,Aa.2.fi,Aa.2.fh⟩:Cur)) else bif (Aa.1 == 1) then obind (sls b9 0 Ab.1) fun Am=>obind (bstr Am) fun Ai=>obind (sls b9 Ab.1 (b9.length:Int)) fun Ap=>obind (bstr Ap) fun Af=>obind (d_spec_l1Pick fu ((⟨c1.fb,Aa.2.fi,Aa.2.fh⟩:Cur)) (([(⟨#[32]⟩:ByteArray),(⟨#[48]⟩:ByteArray),(⟨#[49]⟩:ByteArray),(⟨#[120]⟩:ByteArray),(⟨#[10]⟩:ByteArray),(⟨#[32,51]⟩:ByteArray)]:List ByteArray))) fun Ad=>obind (scat Ai Ad.1) fun Ag=>obind (scat Ag Af) fun Ah=>some (Ah,(⟨c1.fb,Ad.2.fi,Ad.2.fh⟩:Cur)) else bif (Aa.1 == 2) then bif (decide (Ab.1 < ((b9.length:Int)))) then obind (sls b9 0 Ab.1) fun Ar=>obind (bstr Ar) fun Ao=>obind (sls b9 (w64 (Ab.1 + 1)) (b9.length:Int)) fun Ae=>obind (bstr Ae) fun Al=>obind (scat Ao Al) fun Aq=>some (Aq,(⟨c1.fb,Aa.2.fi,Aa.2.fh⟩:Cur)) else some (Ac,(⟨c1.fb,Aa.2.fi,Aa.2.fh⟩:Cur)) else some (Ac,(⟨c1.fb,Aa.2.fi,Aa.2.fh⟩:Cur))

def d_spec_DrawReadPlan (fu:Nat) (Aa:List U8):Option (ByteArray) :=
  obind (d_spec_l13Draw fu Aa) fun x5=>obind (d_spec_l1New fu Aa) fun Ab=>obind (d_spec_PlanText fu x5.2) fun Ac=>obind (d_spec_l14Bend fu ((⟨Aa,Ab.fi,Ab.fh⟩:Cur)) Ac) fun Ad=>some (Ad.1)

def d_spec_Parts_J1 (fu:Nat) (k3:List ByteArray → Int → Int → Option ((List ByteArray))) (Aa:Int) (Ab:List ByteArray) (Ac:Int):Option ((List ByteArray)) :=
  k3 Ab Ac (w64 (Aa + 1))

def d_spec_Parts_L1_B (fu:Nat)  (Ab:ByteArray) (Ae:Int) (k3:List ByteArray → Int → Int → Option ((List ByteArray))) (Ac:List ByteArray) (Ad:Int) (Aa:Int):Option ((List ByteArray)) :=
  bif (decide (Aa ≤ ((Ab.size:Int)))) then bif (Aa == ((Ab.size:Int))) then obind (ssl Ab Ad Aa) fun Aj=>obind (apnd 16 Ac (([Aj]:List ByteArray))) fun Af=>d_spec_Parts_J1 fu k3 Aa Af (w64 (Aa + 1)) else obind (sx Ab Aa) fun Ai=>bif (Ai == Ae) then obind (ssl Ab Ad Aa) fun Ag=>obind (apnd 16 Ac (([Ag]:List ByteArray))) fun Ah=>d_spec_Parts_J1 fu k3 Aa Ah (w64 (Aa + 1)) else d_spec_Parts_J1 fu k3 Aa Ac Ad else some (Ac)
def d_spec_Parts_L1 (fu:Nat)  (Aa:ByteArray) (Ab:Int):Nat → List ByteArray → Int → Int → Option ((List ByteArray))
  | 0=>fun _ _ _=>none
  | n + 1=>d_spec_Parts_L1_B fu Aa Ab (d_spec_Parts_L1 fu Aa Ab n)

def d_spec_Parts (fu:Nat) (Aa:ByteArray) (Ab:Int):Option ((List ByteArray)) :=
  d_spec_Parts_L1 fu Aa Ab fu (([]:List ByteArray)) 0 0

def d_spec_Number_J1 (fu:Nat) (k8:Int → Int → Option (Int × Bool)) (Aa:Int) (Ab:Int):Option (Int × Bool) :=
  k8 Ab (w64 (Aa + 1))

def d_spec_Number_J2 (fu:Nat) (k8:Int → Int → Option (Int × Bool)) (Ab:ByteArray) (Ad:Int) (Aa:Int)  : Option (Int × Bool) :=
  obind (sx Ab Aa) fun Ac=>d_spec_Number_J1 fu k8 Aa (w64 ((w64 ((w64 (10 * Ad)) + (w64 Ac))) - 48))

def d_spec_Number_L1_B (fu:Nat)  (Aa:ByteArray) (k8:Int → Int → Option (Int × Bool)) (Ac:Int) (Ab:Int):Option (Int × Bool) :=
  bif (decide (Ab < ((Aa.size:Int)))) then obind (sx Aa Ab) fun Ad=>bif (decide (Ad < 48)) then some (0,false) else obind (sx Aa Ab) fun Af=>bif (decide (Af > 57)) then some (0,false) else d_spec_Number_J2 fu k8 Aa Ac Ab else obind (d_spec_Digits fu Ac) fun Ae=>bif (!(Ae.toList == Aa.toList)) then some (0,false) else some (Ac,true)
def d_spec_Number_L1 (fu:Nat)  (Aa:ByteArray):Nat → Int → Int → Option (Int × Bool)
  | 0=>fun _ _=>none
  | n + 1=>d_spec_Number_L1_B fu Aa (d_spec_Number_L1 fu Aa n)

def d_spec_Number_J3 (fu:Nat) (Aa:ByteArray)  : Option (Int × Bool) :=
  d_spec_Number_L1 fu Aa fu 0 0

def d_spec_Number (fu:Nat) (Aa:ByteArray):Option (Int × Bool) :=
  bif (decide (((Aa.size:Int)) < 1)) then some (0,false) else bif (decide (((Aa.size:Int)) > 6)) then some (0,false) else d_spec_Number_J3 fu Aa

def d_spec_LineOf_J1 (fu:Nat) (Ab:Int) (Ae:Int) (Ag:List Int) (Aa:Int) (Af:Int) (Ac:Int) (Ad:Int)  : Option (Carton × Spot × Bool) :=
  some ((⟨Ab,Ae,Ag⟩:Carton),(⟨Aa,Af,Ac,Ad⟩:Spot),true)

def d_spec_LineOf_J2 (fu:Nat) (Ak:ByteArray) (Aa:List Int) (Ad:Int) (Ag:Int) (Ah:List Int):Option (Carton × Spot × Bool) :=
  obind (ix Aa 2) fun Ab=>obind (ix Aa 3) fun Ac=>obind (ix Aa 4) fun Ae=>obind (ix Aa 5) fun Af=>obind (d_spec_PlanOk fu ((⟨([(⟨Ad,Ag,Ah⟩:Carton)]:List Carton),([(⟨Ab,Ac,Ae,Af⟩:Spot)]:List Spot)⟩:Plan))) fun Aj=>bif (!Aj) then some ((⟨0,0,[]⟩:Carton),(⟨0,0,0,0⟩:Spot),false) else obind (d_spec_l14Line fu ((⟨Ad,Ag,Ah⟩:Carton)) ((⟨Ab,Ac,Ae,Af⟩:Spot))) fun Ai=>bif (!(Ai.toList == Ak.toList)) then some ((⟨0,0,[]⟩:Carton),(⟨0,0,0,0⟩:Spot),false) else d_spec_LineOf_J1 fu Ad Ag Ah Ab Ac Ae Af

def d_spec_LineOf_L1_B (fu:Nat)  (Ah:ByteArray) (x8:(List ByteArray)) (k1:List Int → Int → Option (Carton × Spot × Bool)) (Aa:List Int) (Ab:Int):Option (Carton × Spot × Bool) :=
  bif (decide (Ab < ((x8.length:Int)))) then obind (ix x8 Ab) fun Ag=>obind (d_spec_Number fu Ag) fun Ac=>bif (!Ac.2) then some ((⟨0,0,[]⟩:Carton),(⟨0,0,0,0⟩:Spot),false) else obind (apnd 8 Aa (([Ac.1]:List Int))) fun Ae=>k1 Ae (w64 (Ab + 1)) else bif (decide (((Aa.length:Int)) < 6)) then some ((⟨0,0,[]⟩:Carton),(⟨0,0,0,0⟩:Spot),false) else obind (ix Aa 0) fun Ai=>obind (ix Aa 1) fun Af=>obind (sls Aa 6 (Aa.length:Int)) fun Aj=>obind (apnd 8 (([]:List Int)) Aj) fun Ad=>d_spec_LineOf_J2 fu Ah Aa Ai Af Ad
def d_spec_LineOf_L1 (fu:Nat)  (Aa:ByteArray) (x8:(List ByteArray)):Nat → List Int → Int → Option (Carton × Spot × Bool)
  | 0=>fun _ _=>none
  | n + 1=>d_spec_LineOf_L1_B fu Aa x8 (d_spec_LineOf_L1 fu Aa x8 n)

def d_spec_LineOf (fu:Nat) (Aa:ByteArray):Option (Carton × Spot × Bool) :=
  obind (d_spec_Parts fu Aa 32) fun x8=>d_spec_LineOf_L1 fu Aa x8 fu (([]:List Int)) 1

def d_spec_ReadPlan_L1_B (fu:Nat)  (x5:(List ByteArray)) (k1:List Carton → List Spot → Int → Option (Plan × Bool)) (Ac:List Carton) (Ad:List Spot) (Ab:Int):Option (Plan × Bool) :=
  bif (decide (Ab < (w64 (((x5.length:Int)) - 1)))) then obind (ix x5 Ab) fun Ae=>obind (d_spec_LineOf fu Ae) fun Aa=>bif (!Aa.2.2) then some ((⟨[],[]⟩:Plan),false) else obind (apnd 40 Ac [Aa.1]) fun Ah=>obind (apnd 32 Ad (([Aa.2.1]:List Spot))) fun Ag=>k1 Ah Ag (w64 (Ab + 1)) else obind (ix x5 (w64 (((x5.length:Int)) - 1))) fun Ai=>bif (!(Ai.toList == ((⟨#[]⟩:ByteArray)).toList)) then some ((⟨[],[]⟩:Plan),false) else obind (d_spec_PlanOk fu ((⟨Ac,Ad⟩:Plan))) fun Af=>bif (!Af) then some ((⟨[],[]⟩:Plan),false) else some ((⟨Ac,Ad⟩:Plan),true)
def d_spec_ReadPlan_L1 (fu:Nat)  (x5:(List ByteArray)):Nat → List Carton → List Spot → Int → Option (Plan × Bool)
  | 0=>fun _ _ _=>none
  | n + 1=>d_spec_ReadPlan_L1_B fu x5 (d_spec_ReadPlan_L1 fu x5 n)

def d_spec_ReadPlan (fu:Nat) (Aa:ByteArray):Option (Plan × Bool) :=
  obind (d_spec_Parts fu Aa 10) fun x5=>d_spec_ReadPlan_L1 fu x5 fu (([]:List Carton)) (([]:List Spot)) 0

def d_spec_DrawLineOf_J1 (fu:Nat) (Ab:List U8) (x5:Request × Plan) (Aa:Cur)  : Option (ByteArray) :=
  obind (ix x5.2.fCartons 0) fun Af=>obind (ix x5.2.fSpots 0) fun Ad=>obind (d_spec_l14Line fu Af Ad) fun Ac=>obind (d_spec_l14Bend fu ((⟨Ab,Aa.fi,Aa.fh⟩:Cur)) Ac) fun Ae=>some (Ae.1)

def d_spec_DrawLineOf (fu:Nat) (Aa:List U8):Option (ByteArray) :=
  obind (d_spec_l13Draw fu Aa) fun x5=>obind (d_spec_l1New fu Aa) fun Ab=>bif (((x5.2.fCartons.length:Int)) == 0) then obind (d_spec_l1Pick fu ((⟨Aa,Ab.fi,Ab.fh⟩:Cur)) (([(⟨#[]⟩:ByteArray),(⟨#[99,97,114,116,111,110]⟩:ByteArray),(⟨#[99,97,114,116,111,110,32,49,32,48,32,48,32,48,32,48,32,48]⟩:ByteArray),(⟨#[99,97,114,116,111,110,32,49,32,48,32,48,32,48,32,48,32,48,32,50,32,49]⟩:ByteArray)]:List ByteArray))) fun Ac=>some (Ac.1) else bif (((x5.2.fSpots.length:Int)) == 0) then obind (d_spec_l1Pick fu ((⟨Aa,Ab.fi,Ab.fh⟩:Cur)) (([(⟨#[]⟩:ByteArray),(⟨#[99,97,114,116,111,110]⟩:ByteArray),(⟨#[99,97,114,116,111,110,32,49,32,48,32,48,32,48,32,48,32,48]⟩:ByteArray),(⟨#[99,97,114,116,111,110,32,49,32,48,32,48,32,48,32,48,32,48,32,50,32,49]⟩:ByteArray)]:List ByteArray))) fun Ad=>some (Ad.1) else d_spec_DrawLineOf_J1 fu Aa x5 Ab

end Go.Proofs.YthkaklkinepfkaaGreatDoor
