/- FnRenamed: what the functions that it reaches compute,on plain data. Printed by gen.py. -/
import Derived.Test.YthkaklkinepfkaaGreatDoorS11
import Derived.Test.YthkaklkinepfkaaGreatDoorS15
import Derived.Test.YthkaklkinepfkaaGreatDoorS22
set_option linter.unusedVariables false
namespace Go.Proofs.YthkaklkinepfkaaGreatDoor
open Go
def d_laws_big (fu:Nat) (Aa:List U8):Option (Bool) :=
  some (decide (((Aa.length:Int)) > 1048576))

def d_spec_l1New_J1 (fu:Nat) (k3:Int → Int → Option (Cur)) (Ad:List U8) (Ac:Int) (Aa:Int)  : Option (Cur) :=
  obind (ix Ad Aa) fun Ab=>k3 (IntKind.wrap .i64 (((BitVec.ofInt (IntKind.bits .i64) (w64 ((w64 ((w64 (Ac * 131)) + (w64 Ab.n))) + 7)) &&& BitVec.ofInt (IntKind.bits .i64) 1073741823).toNat:Nat):Int)) (w64 (Aa + 1))

def d_spec_l1New_L1_B (fu:Nat)  (Aa:List U8) (k3:Int → Int → Option (Cur)) (Ab:Int) (Ac:Int):Option (Cur) :=
  bif (decide (Ac < ((Aa.length:Int)))) then bif (decide (Ac < 4000)) then d_spec_l1New_J1 fu k3 Aa Ab Ac else some ((⟨Aa,0,Ab⟩:Cur)) else some ((⟨Aa,0,Ab⟩:Cur))
def d_spec_l1New_L1 (fu:Nat)  (Aa:List U8):Nat → Int → Int → Option (Cur)
  | 0=>fun _ _=>none
  | n + 1=>d_spec_l1New_L1_B fu Aa (d_spec_l1New_L1 fu Aa n)

def d_spec_l1New (fu:Nat) (Aa:List U8):Option (Cur) :=
  d_spec_l1New_L1 fu Aa fu (w64 (26583 + ((Aa.length:Int)))) 0

def d_spec_l1Byte (fu:Nat) (c1:Cur):Option (Int × Cur) :=
  bif (decide (c1.fi < ((c1.fb.length:Int)))) then obind (ix c1.fb c1.fi) fun Aa=>some (IntKind.wrap .i64 (((BitVec.ofInt (IntKind.bits .i64) (w64 ((IntKind.wrap .i64 (((BitVec.ofInt (IntKind.bits .i64) (IntKind.wrap .i64 (((BitVec.ofInt (IntKind.bits .i64) (Int.fdiv (w64 ((w64 (c1.fh * 6364136223846793005)) + 1442695040888963407)) (2 ^ (min 33 (IntKind.bits .i64)))) ^^^ BitVec.ofInt (IntKind.bits .i64) (Int.fdiv (w64 ((w64 (c1.fh * 6364136223846793005)) + 1442695040888963407)) (2 ^ (min 45 (IntKind.bits .i64))))).toNat:Nat):Int)) &&& BitVec.ofInt (IntKind.bits .i64) 255).toNat:Nat):Int)) + (w64 Aa.n))) &&& BitVec.ofInt (IntKind.bits .i64) 255).toNat:Nat):Int),(⟨c1.fb,w64 (c1.fi + 1),w64 ((w64 (c1.fh * 6364136223846793005)) + 1442695040888963407)⟩:Cur)) else some (IntKind.wrap .i64 (((BitVec.ofInt (IntKind.bits .i64) (IntKind.wrap .i64 (((BitVec.ofInt (IntKind.bits .i64) (Int.fdiv (w64 ((w64 (c1.fh * 6364136223846793005)) + 1442695040888963407)) (2 ^ (min 33 (IntKind.bits .i64)))) ^^^ BitVec.ofInt (IntKind.bits .i64) (Int.fdiv (w64 ((w64 (c1.fh * 6364136223846793005)) + 1442695040888963407)) (2 ^ (min 45 (IntKind.bits .i64))))).toNat:Nat):Int)) &&& BitVec.ofInt (IntKind.bits .i64) 255).toNat:Nat):Int),(⟨c1.fb,c1.fi,w64 ((w64 (c1.fh * 6364136223846793005)) + 1442695040888963407)⟩:Cur))

def d_spec_l1Below (fu:Nat) (c1:Cur) (n7:Int):Option (Int × Cur) :=
  bif (decide (n7 ≤ 0)) then some (0,c1) else bif (decide (n7 ≤ 256)) then obind (d_spec_l1Byte fu c1) fun Aa=>obind (odiv n7) fun Af=>some (Int.tmod Aa.1 n7,(⟨c1.fb,Aa.2.fi,Aa.2.fh⟩:Cur)) else obind (d_spec_l1Byte fu c1) fun Ac=>obind (d_spec_l1Byte fu ((⟨c1.fb,Ac.2.fi,Ac.2.fh⟩:Cur))) fun Ad=>obind (d_spec_l1Byte fu ((⟨c1.fb,Ad.2.fi,Ad.2.fh⟩:Cur))) fun Ab=>obind (d_spec_l1Byte fu ((⟨c1.fb,Ab.2.fi,Ab.2.fh⟩:Cur))) fun Ae=>obind (odiv n7) fun Ag=>some (Int.tmod (w64 ((w64 ((w64 ((w64 (Ac.1 * 16777216)) + (w64 (Ad.1 * 65536)))) + (w64 (Ab.1 * 256)))) + Ae.1)) n7,(⟨c1.fb,Ae.2.fi,Ae.2.fh⟩:Cur))

def d_spec_l1Once (fu:Nat) (c1:Cur) (n7:Int):Option (Bool × Cur) :=
  obind (d_spec_l1Below fu c1 n7) fun x9=>some (x9.1 == 0,(⟨c1.fb,x9.2.fi,x9.2.fh⟩:Cur))

def d_spec_l1PickInt (fu:Nat) (c1:Cur) (Ab:List Int):Option (Int × Cur) :=
  obind (d_spec_l1Below fu c1 ((Ab.length:Int))) fun Aa=>obind (ix Ab Aa.1) fun Ac=>some (Ac,(⟨c1.fb,Aa.2.fi,Aa.2.fh⟩:Cur))

def d_spec_l2Right_J1 (fu:Nat) (Ab:Int → Int → List Pair → Int → Option (Request × Cur)) (Ad:Int) (Ae:Int) (Aa:Int) (Ac:List Pair):Option (Request × Cur) :=
  Ab Ae Aa Ac (w64 (Ad + 1))

def d_spec_l2Right_L1_B (fu:Nat) (k9:Int → Int → List Pair → Int → Option (Request × Cur)) (c1:Cur) (Aa:Int) (Ae:Int → Int → List Pair → Int → Option (Request × Cur)) (Af:Int) (Ag:Int) (Ad:List Pair) (Ab:Int):Option (Request × Cur) :=
  bif (decide (Ab ≤ Aa)) then bif (Aa == Ab) then obind (apnd 16 Ad (([(⟨Aa,Aa⟩:Pair)]:List Pair))) fun Ah=>d_spec_l2Right_J1 fu Ae Ab Af Ag Ah else obind (d_spec_l1Once fu ((⟨c1.fb,Af,Ag⟩:Cur)) 2) fun Ac=>bif Ac.1 then obind (apnd 16 Ad (([(⟨Aa,Ab⟩:Pair),(⟨Ab,Aa⟩:Pair)]:List Pair))) fun Ai=>d_spec_l2Right_J1 fu Ae Ab Ac.2.fi Ac.2.fh Ai else d_spec_l2Right_J1 fu Ae Ab Ac.2.fi Ac.2.fh Ad else k9 Af Ag Ad (w64 (Aa + 1))
def d_spec_l2Right_L1 (fu:Nat) (k9:Int → Int → List Pair → Int → Option (Request × Cur)) (c1:Cur) (Aa:Int):Nat → Int → Int → List Pair → Int → Option (Request × Cur)
  | 0=>fun _ _ _ _=>none
  | n + 1=>d_spec_l2Right_L1_B fu k9 c1 Aa (d_spec_l2Right_L1 fu k9 c1 Aa n)

def d_spec_l2Right_J2 (fu:Nat) (Ac:Int → Int → List Item → Int → Int → Option (Request × Cur)) (Ae:Int) (Ad:Int) (Aa:Int) (Af:List Item) (Ab:Int):Option (Request × Cur) :=
  Ac Ad Aa Af Ab (w64 (Ae + 1))

def d_spec_l2Right_J3 (fu:Nat) (Ac:Int → Int → List Item → Int → Int → Option (Request × Cur)) (Ae:List Item) (Aa:Int) (Ad:Int) (Ag:Int) (Af:Int) (Ab:Item):Option (Request × Cur) :=
  bif (decide ((w64 (Aa + Ab.fCount)) ≤ 12)) then obind (apnd 56 Ae (([Ab]:List Item))) fun Ah=>d_spec_l2Right_J2 fu Ac Ad Ag Af Ah (w64 (Aa + Ab.fCount)) else d_spec_l2Right_J2 fu Ac Ad Ag Af Ae Aa

def d_spec_l2Right_J4 (fu:Nat) (Ad:Int → Int → List Item → Int → Int → Option (Request × Cur)) (c1:Cur) (Af:List Item) (Ag:Int) (Ae:Int) (Ai:Int) (Ah:Int) (Ab:Item):Option (Request × Cur) :=
  obind (d_spec_l1Once fu ((⟨c1.fb,Ai,Ah⟩:Cur)) 3) fun Aa=>bif Aa.1 then obind (d_spec_l1Below fu ((⟨c1.fb,Aa.2.fi,Aa.2.fh⟩:Cur)) 8) fun Ac=>d_spec_l2Right_J3 fu Ad Af Ag Ae Ac.2.fi Ac.2.fh ((⟨Ab.fId,5,5,w64 (4 + Ac.1),Ab.fGram,Ab.fClass,Ab.fCount⟩:Item)) else d_spec_l2Right_J3 fu Ad Af Ag Ae Aa.2.fi Aa.2.fh Ab

def d_spec_l2Right_L2_B (fu:Nat)  (c1:Cur) (Av:Int × Cur) (Ap:Int × Cur) (Ar:Int × Cur) (Aq:Int × Cur) (Ao:Int × Cur) (Aj:Int × Cur) (Al:List Pair) (At:List Typ) (Am:Int × Cur) (Au:Int → Int → List Item → Int → Int → Option (Request × Cur)) (Ai:Int) (Ah:Int) (Ak:List Item) (As:Int) (Af:Int):Option (Request × Cur) :=
  bif (decide (Af < Am.1)) then obind (d_spec_l1Below fu ((⟨c1.fb,Ai,Ah⟩:Cur)) 10) fun Ae=>obind (d_spec_l1Below fu ((⟨c1.fb,Ae.2.fi,Ae.2.fh⟩:Cur)) 10) fun Ac=>obind (d_spec_l1Below fu ((⟨c1.fb,Ac.2.fi,Ac.2.fh⟩:Cur)) 10) fun Ag=>obind (d_spec_l1Below fu ((⟨c1.fb,Ag.2.fi,Ag.2.fh⟩:Cur)) 60) fun Ab=>obind (d_spec_l1Below fu ((⟨c1.fb,Ab.2.fi,Ab.2.fh⟩:Cur)) (w64 (1 + Aj.1))) fun Ad=>obind (d_spec_l1Below fu ((⟨c1.fb,Ad.2.fi,Ad.2.fh⟩:Cur)) 4) fun Aa=>d_spec_l2Right_J4 fu Au c1 Ak As Af Aa.2.fi Aa.2.fh ((⟨w64 (3 * Af),w64 (1 + Ae.1),w64 (1 + Ac.1),w64 (1 + Ag.1),w64 (1 + Ab.1),Ad.1,w64 (1 + Aa.1)⟩:Item)) else some ((⟨Av.1,(⟨Ap.1,Ar.1,Aq.1,Ao.1⟩:Pallet),w64 (1 + Aj.1),Al,At,7,Ak⟩:Request),(⟨c1.fb,Ai,Ah⟩:Cur))
def d_spec_l2Right_L2 (fu:Nat)  (c1:Cur) (Ac:Int × Cur) (Aa:Int × Cur) (Af:Int × Cur) (Ae:Int × Cur) (Ah:Int × Cur) (Ab:Int × Cur) (Ad:List Pair) (Ai:List Typ) (Ag:Int × Cur):Nat → Int → Int → List Item → Int → Int → Option (Request × Cur)
  | 0=>fun _ _ _ _ _=>none
  | n + 1=>d_spec_l2Right_L2_B fu c1 Ac Aa Af Ae Ah Ab Ad Ai Ag (d_spec_l2Right_L2 fu c1 Ac Aa Af Ae Ah Ab Ad Ai Ag n)

def d_spec_l2Right_L3_B (fu:Nat)  (c1:Cur) (Au:Int × Cur) (Aq:Int × Cur) (At:Int × Cur) (As:Int × Cur) (Ao:Int × Cur) (Ar:Int × Cur) (Am:List Pair) (Al:Int × Cur) (Av:Int → Int → List Typ → Int → Option (Request × Cur)) (Ak:Int) (Ai:Int) (Aj:List Typ) (Ae:Int):Option (Request × Cur) :=
  bif (decide (Ae < Al.1)) then obind (d_spec_l1Below fu ((⟨c1.fb,Ak,Ai⟩:Cur)) 9) fun Ad=>obind (d_spec_l1Below fu ((⟨c1.fb,Ad.2.fi,Ad.2.fh⟩:Cur)) 8) fun Ah=>obind (d_spec_l1Below fu ((⟨c1.fb,Ah.2.fi,Ah.2.fh⟩:Cur)) 9) fun Aa=>obind (d_spec_l1Below fu ((⟨c1.fb,Aa.2.fi,Aa.2.fh⟩:Cur)) 5) fun Ac=>obind (d_spec_l1Below fu ((⟨c1.fb,Ac.2.fi,Ac.2.fh⟩:Cur)) 90) fun Ag=>obind (d_spec_l1Below fu ((⟨c1.fb,Ag.2.fi,Ag.2.fh⟩:Cur)) 20) fun Af=>obind (apnd 56 Aj (([(⟨w64 (10 + Ae),w64 (4 + Ad.1),w64 (3 + Ah.1),w64 (3 + Aa.1),Ac.1,w64 (20 + Ag.1),w64 (1 + Af.1)⟩:Typ)]:List Typ))) fun Ap=>Av Af.2.fi Af.2.fh Ap (w64 (Ae + 1)) else obind (d_spec_l1Below fu ((⟨c1.fb,Ak,Ai⟩:Cur)) 6) fun Ab=>d_spec_l2Right_L2 fu c1 Au Aq At As Ao Ar Am Aj Ab fu Ab.2.fi Ab.2.fh (([]:List Item)) 0 0
def d_spec_l2Right_L3 (fu:Nat)  (c1:Cur) (Ad:Int × Cur) (Ab:Int × Cur) (Ag:Int × Cur) (Af:Int × Cur) (Ah:Int × Cur) (Ac:Int × Cur) (Ae:List Pair) (Aa:Int × Cur):Nat → Int → Int → List Typ → Int → Option (Request × Cur)
  | 0=>fun _ _ _ _=>none
  | n + 1=>d_spec_l2Right_L3_B fu c1 Ad Ab Ag Af Ah Ac Ae Aa (d_spec_l2Right_L3 fu c1 Ad Ab Ag Af Ah Ac Ae Aa n)

def d_spec_l2Right_J5 (fu:Nat) (c1:Cur) (Af:Int × Cur) (Ac:Int × Cur) (Ai:Int × Cur) (Ah:Int × Cur) (Aj:Int × Cur) (Ad:Int × Cur) (Ag:List Pair) (Ak:Int) (Ab:Int) (Ae:List Typ):Option (Request × Cur) :=
  obind (d_spec_l1Below fu ((⟨c1.fb,Ak,Ab⟩:Cur)) 5) fun Aa=>d_spec_l2Right_L3 fu c1 Af Ac Ai Ah Aj Ad Ag Aa fu Aa.2.fi Aa.2.fh Ae 0

def d_spec_l2Right_L4_B (fu:Nat)  (c1:Cur) (Aj:Int × Cur) (Ai:Int × Cur) (Al:Int × Cur) (Am:Int × Cur) (Ao:Int × Cur) (Ad:Int × Cur) (k9:Int → Int → List Pair → Int → Option (Request × Cur)) (Ah:Int) (Af:Int) (Ag:List Pair) (Ae:Int):Option (Request × Cur) :=
  bif (decide (Ae < (w64 (1 + Ad.1)))) then d_spec_l2Right_L1 fu k9 c1 Ae fu Ah Af Ag 0 else obind (d_spec_l1Below fu ((⟨c1.fb,Ah,Af⟩:Cur)) 8) fun Ab=>obind (d_spec_l1PickInt fu ((⟨c1.fb,Ab.2.fi,Ab.2.fh⟩:Cur)) (([60,100,140]:List Int))) fun Ac=>obind (d_spec_l1PickInt fu ((⟨c1.fb,Ac.2.fi,Ac.2.fh⟩:Cur)) (([9,20]:List Int))) fun Aa=>obind (apnd 56 (([]:List Typ)) (([(⟨7,12,10,11,Ab.1,Ac.1,Aa.1⟩:Typ)]:List Typ))) fun Ak=>d_spec_l2Right_J5 fu c1 Aj Ai Al Am Ao Ad Ag Aa.2.fi Aa.2.fh Ak
def d_spec_l2Right_L4 (fu:Nat)  (c1:Cur) (Ac:Int × Cur) (Aa:Int × Cur) (Ae:Int × Cur) (Ad:Int × Cur) (Af:Int × Cur) (Ab:Int × Cur):Nat → Int → Int → List Pair → Int → Option (Request × Cur)
  | 0=>fun _ _ _ _=>none
  | n + 1=>d_spec_l2Right_L4_B fu c1 Ac Aa Ae Ad Af Ab (d_spec_l2Right_L4 fu c1 Ac Aa Ae Ad Af Ab n)

def d_spec_l2Right (fu:Nat) (c1:Cur):Option (Request × Cur) :=
  obind (d_spec_l1Below fu c1 2) fun Ac=>obind (d_spec_l1PickInt fu ((⟨c1.fb,Ac.2.fi,Ac.2.fh⟩:Cur)) (([20,30,37]:List Int))) fun Aa=>obind (d_spec_l1PickInt fu ((⟨c1.fb,Aa.2.fi,Aa.2.fh⟩:Cur)) (([20,25,40]:List Int))) fun Ae=>obind (d_spec_l1PickInt fu ((⟨c1.fb,Ae.2.fi,Ae.2.fh⟩:Cur)) (([15,24,50]:List Int))) fun Ad=>obind (d_spec_l1PickInt fu ((⟨c1.fb,Ad.2.fi,Ad.2.fh⟩:Cur)) (([150,400,5000]:List Int))) fun Af=>obind (d_spec_l1Below fu ((⟨c1.fb,Af.2.fi,Af.2.fh⟩:Cur)) 4) fun Ab=>d_spec_l2Right_L4 fu c1 Ac Aa Ae Ad Af Ab fu Ab.2.fi Ab.2.fh (([]:List Pair)) 0

def d_spec_l1In (fu:Nat) (x1:Int) (Ab:Int) (Aa:Int):Option (Bool) :=
  bif (decide (x1 ≥ Ab)) then some (decide (x1 ≤ Aa)) else some (false)

def d_spec_l2Side (fu:Nat) (x1:Int):Option (Bool) :=
  obind (d_spec_l1In fu x1 1 2000) fun x2=>some (x2)

def d_spec_PalletOk (fu:Nat) (x1:Pallet):Option (Bool) :=
  obind (d_spec_l2Side fu x1.fW) fun x5=>bif x5 then obind (d_spec_l2Side fu x1.fD) fun Ac=>bif Ac then obind (d_spec_l2Side fu x1.fH) fun Ab=>bif Ab then obind (d_spec_l1In fu x1.fGram 1 100000) fun Aa=>some (Aa) else some (false) else some (false) else some (false)

def d_spec_l2Id (fu:Nat) (x1:Int):Option (Bool) :=
  obind (d_spec_l1In fu x1 0 999) fun x2=>some (x2)

def d_spec_TypeOk (fu:Nat) (x1:Typ):Option (Bool) :=
  obind (d_spec_l2Id fu x1.fId) fun x5=>bif x5 then obind (d_spec_l2Side fu x1.fW) fun Ad=>bif Ad then obind (d_spec_l2Side fu x1.fH) fun Aa=>bif Aa then obind (d_spec_l2Side fu x1.fD) fun Ac=>bif Ac then obind (d_spec_l1In fu x1.fTare 0 100000) fun Ab=>bif Ab then obind (d_spec_l1In fu x1.fGram 1 100000) fun Af=>bif Af then obind (d_spec_l1In fu x1.fCost 0 100000) fun Ae=>some (Ae) else some (false) else some (false) else some (false) else some (false) else some (false) else some (false)

def d_spec_ItemOk (fu:Nat) (x1:Item):Option (Bool) :=
  obind (d_spec_l2Id fu x1.fId) fun x5=>bif x5 then obind (d_spec_l2Side fu x1.fW) fun Ad=>bif Ad then obind (d_spec_l2Side fu x1.fH) fun Aa=>bif Aa then obind (d_spec_l2Side fu x1.fD) fun Ac=>bif Ac then obind (d_spec_l1In fu x1.fGram 1 100000) fun Ab=>bif Ab then obind (d_spec_l1In fu x1.fClass 0 3) fun Af=>bif Af then obind (d_spec_l1In fu x1.fCount 1 6) fun Ae=>some (Ae) else some (false) else some (false) else some (false) else some (false) else some (false) else some (false)

def d_spec_BoundsOk_J1 (fu:Nat) (k4:Int → Option (Bool)) (Aa:Int)  : Option (Bool) :=
  k4 (w64 (Aa + 1))

def d_spec_BoundsOk_L1_B (fu:Nat)  (r1:Request) (k7:Int → Int → Option (Bool)) (Ab:Int) (Aa:Int):Option (Bool) :=
  bif (decide (Aa < ((r1.fItems.length:Int)))) then obind (ix r1.fItems Aa) fun Ac=>obind (d_spec_ItemOk fu Ac) fun Ad=>bif (!Ad) then some (false) else obind (ix r1.fItems Aa) fun Ae=>k7 (w64 (Ab + Ac.fCount)) (w64 (Aa + 1)) else some (decide (Ab ≤ 12))
def d_spec_BoundsOk_L1 (fu:Nat)  (r1:Request):Nat → Int → Int → Option (Bool)
  | 0=>fun _ _=>none
  | n + 1=>d_spec_BoundsOk_L1_B fu r1 (d_spec_BoundsOk_L1 fu r1 n)

def d_spec_BoundsOk_L2_B (fu:Nat)  (r1:Request) (k6:Int → Option (Bool)) (Aa:Int):Option (Bool) :=
  bif (decide (Aa < ((r1.fTypes.length:Int)))) then obind (ix r1.fTypes Aa) fun Ac=>obind (d_spec_TypeOk fu Ac) fun Ab=>bif (!Ab) then some (false) else k6 (w64 (Aa + 1)) else d_spec_BoundsOk_L1 fu r1 fu 0 0
def d_spec_BoundsOk_L2 (fu:Nat)  (r1:Request):Nat → Int → Option (Bool)
  | 0=>fun _=>none
  | n + 1=>d_spec_BoundsOk_L2_B fu r1 (d_spec_BoundsOk_L2 fu r1 n)

def d_spec_BoundsOk_L3_B (fu:Nat)  (r1:Request) (k4:Int → Option (Bool)) (Aa:Int):Option (Bool) :=
  bif (decide (Aa < ((r1.fPairs.length:Int)))) then obind (ix r1.fPairs Aa) fun Ab=>obind (d_spec_l1In fu Ab.fA 0 3) fun Ad=>bif (!Ad) then some (false) else obind (ix r1.fPairs Aa) fun Ae=>obind (d_spec_l1In fu Ab.fB 0 3) fun Ac=>bif (!Ac) then some (false) else d_spec_BoundsOk_J1 fu k4 Aa else d_spec_BoundsOk_L2 fu r1 fu 0
def d_spec_BoundsOk_L3 (fu:Nat)  (r1:Request):Nat → Int → Option (Bool)
  | 0=>fun _=>none
  | n + 1=>d_spec_BoundsOk_L3_B fu r1 (d_spec_BoundsOk_L3 fu r1 n)

def d_spec_BoundsOk_J2 (fu:Nat) (r1:Request)  : Option (Bool) :=
  d_spec_BoundsOk_L3 fu r1 fu 0

def d_spec_BoundsOk (fu:Nat) (r1:Request):Option (Bool) :=
  obind (d_spec_l1In fu r1.fWay 0 1) fun Aa=>bif (!Aa) then some (false) else obind (d_spec_PalletOk fu r1.fPallet) fun Ad=>bif (!Ad) then some (false) else obind (d_spec_l1In fu r1.fClasses 1 4) fun Ab=>bif (!Ab) then some (false) else bif (decide (((r1.fPairs.length:Int)) > 16)) then some (false) else obind (d_spec_l1In fu ((r1.fTypes.length:Int)) 1 5) fun Ae=>bif (!Ae) then some (false) else obind (d_spec_l2Id fu r1.fMaster) fun Ac=>bif (!Ac) then some (false) else bif (decide (((r1.fItems.length:Int)) > 8)) then some (false) else d_spec_BoundsOk_J2 fu r1

def d_spec_MasterOf_L1_B (fu:Nat)  (r1:Request) (k1:Int → Option (Typ × Bool)) (Aa:Int):Option (Typ × Bool) :=
  bif (decide (Aa < ((r1.fTypes.length:Int)))) then obind (ix r1.fTypes Aa) fun Ab=>bif (Ab.fId == r1.fMaster) then obind (ix r1.fTypes Aa) fun Ac=>some (Ab,true) else k1 (w64 (Aa + 1)) else some ((⟨0,0,0,0,0,0,0⟩:Typ),false)
def d_spec_MasterOf_L1 (fu:Nat)  (r1:Request):Nat → Int → Option (Typ × Bool)
  | 0=>fun _=>none
  | n + 1=>d_spec_MasterOf_L1_B fu r1 (d_spec_MasterOf_L1 fu r1 n)

def d_spec_MasterOf (fu:Nat) (r1:Request):Option (Typ × Bool) :=
  d_spec_MasterOf_L1 fu r1 fu 0

def d_spec_l5Names_L1_B (fu:Nat) (k3:Int → Option (Bool)) (r1:Request) (Aa:Int) (k4:Int → Option (Bool)) (Ab:Int):Option (Bool) :=
  bif (decide (Ab < Aa)) then obind (ix r1.fTypes Aa) fun Ac=>obind (ix r1.fTypes Ab) fun Ad=>bif (Ac.fId == Ad.fId) then some (false) else k4 (w64 (Ab + 1)) else k3 (w64 (Aa + 1))
def d_spec_l5Names_L1 (fu:Nat) (k3:Int → Option (Bool)) (r1:Request) (Aa:Int):Nat → Int → Option (Bool)
  | 0=>fun _=>none
  | n + 1=>d_spec_l5Names_L1_B fu k3 r1 Aa (d_spec_l5Names_L1 fu k3 r1 Aa n)

def d_spec_l5Names_L2_B (fu:Nat) (k7:Int → Option (Bool)) (r1:Request) (Ab:Int) (k8:Int → Option (Bool)) (Aa:Int):Option (Bool) :=
  bif (decide (Aa < Ab)) then obind (ix r1.fItems Ab) fun Ac=>obind (ix r1.fItems Aa) fun Ad=>bif (Ac.fId == Ad.fId) then some (false) else k8 (w64 (Aa + 1)) else k7 (w64 (Ab + 1))
def d_spec_l5Names_L2 (fu:Nat) (k7:Int → Option (Bool)) (r1:Request) (Aa:Int):Nat → Int → Option (Bool)
  | 0=>fun _=>none
  | n + 1=>d_spec_l5Names_L2_B fu k7 r1 Aa (d_spec_l5Names_L2 fu k7 r1 Aa n)

def d_spec_l5Names_J1 (fu:Nat) (Aa:Int → Option (Bool)) (Ab:Int)  : Option (Bool) :=
  Aa (w64 (Ab + 1))

def d_spec_l5Names_L3_B (fu:Nat)  (r1:Request) (Ac:Int → Option (Bool)) (Aa:Int):Option (Bool) :=
  bif (decide (Aa < ((r1.fPairs.length:Int)))) then obind (ix r1.fPairs Aa) fun Ab=>bif (decide (Ab.fA ≥ r1.fClasses)) then some (false) else obind (ix r1.fPairs Aa) fun Ae=>bif (decide (Ab.fB ≥ r1.fClasses)) then some (false) else d_spec_l5Names_J1 fu Ac Aa else obind (d_spec_MasterOf fu r1) fun Ad=>some (Ad.2)
def d_spec_l5Names_L3 (fu:Nat)  (r1:Request):Nat → Int → Option (Bool)
  | 0=>fun _=>none
  | n + 1=>d_spec_l5Names_L3_B fu r1 (d_spec_l5Names_L3 fu r1 n)

def d_spec_l5Names_L4_B (fu:Nat)  (r1:Request) (k7:Int → Option (Bool)) (Aa:Int):Option (Bool) :=
  bif (decide (Aa < ((r1.fItems.length:Int)))) then obind (ix r1.fItems Aa) fun Ab=>bif (decide (Ab.fClass ≥ r1.fClasses)) then some (false) else d_spec_l5Names_L2 fu k7 r1 Aa fu 0 else d_spec_l5Names_L3 fu r1 fu 0
def d_spec_l5Names_L4 (fu:Nat)  (r1:Request):Nat → Int → Option (Bool)
  | 0=>fun _=>none
  | n + 1=>d_spec_l5Names_L4_B fu r1 (d_spec_l5Names_L4 fu r1 n)

def d_spec_l5Names_L5_B (fu:Nat)  (r1:Request) (k3:Int → Option (Bool)) (Aa:Int):Option (Bool) :=
  bif (decide (Aa < ((r1.fTypes.length:Int)))) then d_spec_l5Names_L1 fu k3 r1 Aa fu 0 else d_spec_l5Names_L4 fu r1 fu 0
def d_spec_l5Names_L5 (fu:Nat)  (r1:Request):Nat → Int → Option (Bool)
  | 0=>fun _=>none
  | n + 1=>d_spec_l5Names_L5_B fu r1 (d_spec_l5Names_L5 fu r1 n)

def d_spec_l5Names (fu:Nat) (r1:Request):Option (Bool) :=
  d_spec_l5Names_L5 fu r1 fu 0

def d_spec_Beside_J1 (fu:Nat) (k3:Int → Option (Bool)) (Aa:Int)  : Option (Bool) :=
  k3 (w64 (Aa + 1))

def d_spec_Beside_L1_B (fu:Nat)  (Ab:List Pair) (a5:Int) (b6:Int) (k3:Int → Option (Bool)) (Aa:Int):Option (Bool) :=
  bif (decide (Aa < ((Ab.length:Int)))) then obind (ix Ab Aa) fun Ac=>bif (Ac.fA == a5) then obind (ix Ab Aa) fun Ad=>bif (Ac.fB == b6) then some (true) else d_spec_Beside_J1 fu k3 Aa else d_spec_Beside_J1 fu k3 Aa else some (false)
def d_spec_Beside_L1 (fu:Nat)  (Aa:List Pair) (a5:Int) (b6:Int):Nat → Int → Option (Bool)
  | 0=>fun _=>none
  | n + 1=>d_spec_Beside_L1_B fu Aa a5 b6 (d_spec_Beside_L1 fu Aa a5 b6 n)

def d_spec_Beside (fu:Nat) (Aa:List Pair) (a5:Int) (b6:Int):Option (Bool) :=
  d_spec_Beside_L1 fu Aa a5 b6 fu 0

def d_spec_TableOk_J1 (fu:Nat) (Aa:Int → Option (Bool)) (Ab:Int)  : Option (Bool) :=
  Aa (w64 (Ab + 1))

def d_spec_TableOk_L1_B (fu:Nat) (k9:Int → Option (Bool)) (Ac:List Pair) (Ah:Int) (Ab:Int) (Ad:Int → Option (Bool)) (Aa:Int):Option (Bool) :=
  bif (decide (Aa < Ah)) then bif (Ab == Aa) then obind (d_spec_Beside fu Ac Ab Ab) fun Ai=>bif (!Ai) then some (false) else obind (d_spec_Beside fu Ac Ab Aa) fun Ag=>obind (d_spec_Beside fu Ac Aa Ab) fun Aj=>bif (!(Ag == Aj)) then some (false) else d_spec_TableOk_J1 fu Ad Aa else obind (d_spec_Beside fu Ac Ab Aa) fun Ae=>obind (d_spec_Beside fu Ac Aa Ab) fun Af=>bif (!(Ae == Af)) then some (false) else d_spec_TableOk_J1 fu Ad Aa else k9 (w64 (Ab + 1))
def d_spec_TableOk_L1 (fu:Nat) (k9:Int → Option (Bool)) (Ac:List Pair) (Aa:Int) (Ab:Int):Nat → Int → Option (Bool)
  | 0=>fun _=>none
  | n + 1=>d_spec_TableOk_L1_B fu k9 Ac Aa Ab (d_spec_TableOk_L1 fu k9 Ac Aa Ab n)

def d_spec_TableOk_L2_B (fu:Nat)  (Ac:List Pair) (Aa:Int) (k9:Int → Option (Bool)) (Ab:Int):Option (Bool) :=
  bif (decide (Ab < Aa)) then d_spec_TableOk_L1 fu k9 Ac Aa Ab fu 0 else some (true)
def d_spec_TableOk_L2 (fu:Nat)  (Ab:List Pair) (Aa:Int):Nat → Int → Option (Bool)
  | 0=>fun _=>none
  | n + 1=>d_spec_TableOk_L2_B fu Ab Aa (d_spec_TableOk_L2 fu Ab Aa n)

def d_spec_TableOk (fu:Nat) (Ab:List Pair) (Aa:Int):Option (Bool) :=
  obind (d_spec_l1In fu Aa 1 4) fun x6=>bif (!x6) then some (false) else d_spec_TableOk_L2 fu Ab Aa fu 0

def d_spec_l1Places_L1_B (fu:Nat)  (n1:Int) (k1:List Int → Int → Option ((List Int))) (Ab:List Int) (Aa:Int):Option ((List Int)) :=
  bif (decide (Aa < n1)) then obind (apnd 8 Ab (([Aa]:List Int))) fun Ac=>k1 Ac (w64 (Aa + 1)) else some (Ab)
def d_spec_l1Places_L1 (fu:Nat)  (n1:Int):Nat → List Int → Int → Option ((List Int))
  | 0=>fun _ _=>none
  | n + 1=>d_spec_l1Places_L1_B fu n1 (d_spec_l1Places_L1 fu n1 n)

def d_spec_l1Places (fu:Nat) (n1:Int):Option ((List Int)) :=
  d_spec_l1Places_L1 fu n1 fu (([]:List Int)) 0

def d_spec_l1Merge_J1 (fu:Nat) (k3:List Int → Int → Int → Option ((List Int))) (Ag:List Int) (Aj:Bool) (Ac:(List Int)) (Ae:(List Int)) (Ad:List Int) (Aa:Int) (Ab:Int)  : Option ((List Int)) :=
  bif (Ab == ((Ae.length:Int))) then obind (ix Ac Aa) fun Aw=>obind (apnd 8 Ad (([Aw]:List Int))) fun Au=>k3 Au (w64 (Aa + 1)) Ab else bif (Aa == ((Ac.length:Int))) then obind (ix Ae Ab) fun Ao=>obind (apnd 8 Ad (([Ao]:List Int))) fun Aq=>k3 Aq Aa (w64 (Ab + 1)) else obind (ix Ae Ab) fun Ah=>obind (ix Ag Ah) fun Ak=>obind (ix Ac Aa) fun Af=>obind (ix Ag Af) fun Ai=>bif (decide (Ak < Ai)) then bif (!Aj) then obind (ix Ae Ab) fun Ay=>obind (apnd 8 Ad (([Ah]:List Int))) fun Al=>k3 Al Aa (w64 (Ab + 1)) else obind (ix Ae Ab) fun Bk=>obind (ix Ag Ah) fun Az=>obind (ix Ac Aa) fun Bg=>obind (ix Ag Af) fun Bb=>bif (decide (Ak > Ai)) then bif Aj then obind (ix Ae Ab) fun Bl=>obind (apnd 8 Ad (([Ah]:List Int))) fun Ar=>k3 Ar Aa (w64 (Ab + 1)) else obind (ix Ac Aa) fun Bi=>obind (apnd 8 Ad (([Af]:List Int))) fun Av=>k3 Av (w64 (Aa + 1)) Ab else obind (ix Ac Aa) fun Ba=>obind (apnd 8 Ad (([Af]:List Int))) fun As=>k3 As (w64 (Aa + 1)) Ab else obind (ix Ae Ab) fun Bj=>obind (ix Ag Ah) fun Bc=>obind (ix Ac Aa) fun Ax=>obind (ix Ag Af) fun Bh=>bif (decide (Ak > Ai)) then bif Aj then obind (ix Ae Ab) fun Bd=>obind (apnd 8 Ad (([Ah]:List Int))) fun Am=>k3 Am Aa (w64 (Ab + 1)) else obind (ix Ac Aa) fun Be=>obind (apnd 8 Ad (([Af]:List Int))) fun Ap=>k3 Ap (w64 (Aa + 1)) Ab else obind (ix Ac Aa) fun Bf=>obind (apnd 8 Ad (([Af]:List Int))) fun At=>k3 At (w64 (Aa + 1)) Ab

def d_spec_l1Merge_L1_B (fu:Nat)  (Ag:List Int) (Af:Bool) (Ae:(List Int)) (Ac:(List Int)) (k3:List Int → Int → Int → Option ((List Int))) (Ab:List Int) (Aa:Int) (Ad:Int):Option ((List Int)) :=
  bif (decide (Aa < ((Ae.length:Int)))) then d_spec_l1Merge_J1 fu k3 Ag Af Ae Ac Ab Aa Ad else bif (decide (Ad < ((Ac.length:Int)))) then d_spec_l1Merge_J1 fu k3 Ag Af Ae Ac Ab Aa Ad else some (Ab)
def d_spec_l1Merge_L1 (fu:Nat)  (Ab:List Int) (Ac:Bool) (Aa:(List Int)) (Ad:(List Int)):Nat → List Int → Int → Int → Option ((List Int))
  | 0=>fun _ _ _=>none
  | n + 1=>d_spec_l1Merge_L1_B fu Ab Ac Aa Ad (d_spec_l1Merge_L1 fu Ab Ac Aa Ad n)

def d_spec_l1Merge_RB (fu:Nat) (self:List Int → List Int → Bool → Option ((List Int))) (Ac:List Int) (Aa:List Int) (Ab:Bool):Option ((List Int)) :=
  bif (decide (((Aa.length:Int)) < 2)) then obind (apnd 8 (([]:List Int)) Aa) fun Ad=>some (Ad) else obind (sls Aa 0 (w64 (Int.tdiv ((Aa.length:Int)) 2))) fun Ag=>obind (self Ac Ag Ab) fun Ah=>obind (sls Aa (w64 (Int.tdiv ((Aa.length:Int)) 2)) (Aa.length:Int)) fun Ae=>obind (self Ac Ae Ab) fun Af=>d_spec_l1Merge_L1 fu Ac Ab Ah Af fu (([]:List Int)) 0 0
def d_spec_l1Merge_R (fu:Nat):Nat → List Int → List Int → Bool → Option ((List Int))
  | 0=>fun _ _ _=>none
  | n + 1=>d_spec_l1Merge_RB fu (d_spec_l1Merge_R fu n)
def d_spec_l1Merge (fu:Nat) (Aa:List Int) (Ab:List Int) (Ac:Bool):Option ((List Int)):=d_spec_l1Merge_R fu fu Aa Ab Ac

def d_spec_SortUp (fu:Nat) (Aa:List Int):Option ((List Int)) :=
  obind (d_spec_l1Places fu ((Aa.length:Int))) fun x5=>obind (d_spec_l1Merge fu Aa x5 false) fun Ab=>some (Ab)

def d_spec_l5Sides (fu:Nat) (Aa:Int) (h2:Int) (d3:Int):Option ((List Int)) :=
  obind (d_spec_SortUp fu (([Aa,h2,d3]:List Int))) fun x9=>obind (ix x9 0) fun Ae=>obind (ix (([Aa,h2,d3]:List Int)) Ae) fun Ac=>obind (ix x9 1) fun Af=>obind (ix (([Aa,h2,d3]:List Int)) Af) fun Ab=>obind (ix x9 2) fun Ag=>obind (ix (([Aa,h2,d3]:List Int)) Ag) fun Ad=>some (([Ac,Ab,Ad]:List Int))

def d_spec_Fits (fu:Nat) (x1:Item) (t2:Typ):Option (Bool) :=
  obind (d_spec_l5Sides fu x1.fW x1.fH x1.fD) fun Aa=>obind (d_spec_l5Sides fu t2.fW t2.fH t2.fD) fun Ab=>obind (ix Aa 0) fun Ae=>obind (ix Ab 0) fun Af=>bif (decide (Ae ≤ Af)) then obind (ix Aa 1) fun Ac=>obind (ix Ab 1) fun Ad=>bif (decide (Ac ≤ Ad)) then obind (ix Aa 2) fun Ah=>obind (ix Ab 2) fun Ag=>bif (decide (Ah ≤ Ag)) then some (decide (x1.fGram ≤ t2.fGram)) else some (false) else some (false) else some (false)

def d_spec_Class_J1 (fu:Nat) (k4:Int → Option (Int)) (Aa:Int)  : Option (Int) :=
  k4 (w64 (Aa + 1))

def d_spec_Class_L1_B (fu:Nat)  (r1:Request) (k4:Int → Option (Int)) (Ab:Int):Option (Int) :=
  bif (decide (Ab < ((r1.fTypes.length:Int)))) then obind (ix r1.fTypes Ab) fun Aa=>bif (decide (Aa.fW > r1.fPallet.fW)) then some (6) else bif (decide (Aa.fD > r1.fPallet.fD)) then some (6) else bif (decide (Aa.fH > r1.fPallet.fH)) then some (6) else bif (decide ((w64 (Aa.fTare + Aa.fGram)) > r1.fPallet.fGram)) then some (6) else d_spec_Class_J1 fu k4 Ab else some (0)
def d_spec_Class_L1 (fu:Nat)  (r1:Request):Nat → Int → Option (Int)
  | 0=>fun _=>none
  | n + 1=>d_spec_Class_L1_B fu r1 (d_spec_Class_L1 fu r1 n)

def d_spec_Class_L2_B (fu:Nat)  (r1:Request) (Ad:Typ × Bool) (k1:Int → Option (Int)) (Aa:Int):Option (Int) :=
  bif (decide (Aa < ((r1.fItems.length:Int)))) then obind (ix r1.fItems Aa) fun Ac=>obind (d_spec_Fits fu Ac Ad.1) fun Ab=>bif (!Ab) then some (5) else k1 (w64 (Aa + 1)) else d_spec_Class_L1 fu r1 fu 0
def d_spec_Class_L2 (fu:Nat)  (r1:Request) (Aa:Typ × Bool):Nat → Int → Option (Int)
  | 0=>fun _=>none
  | n + 1=>d_spec_Class_L2_B fu r1 Aa (d_spec_Class_L2 fu r1 Aa n)

def d_spec_Class (fu:Nat) (r1:Request):Option (Int) :=
  obind (d_spec_BoundsOk fu r1) fun Ab=>bif (!Ab) then some (2) else obind (d_spec_l5Names fu r1) fun Ad=>bif (!Ad) then some (3) else obind (d_spec_TableOk fu r1.fPairs r1.fClasses) fun Ac=>bif (!Ac) then some (4) else obind (d_spec_MasterOf fu r1) fun Aa=>d_spec_Class_L2 fu r1 Aa fu 0

def d_spec_l5Good_J1 (fu:Nat) (k3:List Item → Int → Option (Request × Cur)) (Aa:Int) (Ab:List Item):Option (Request × Cur) :=
  k3 Ab (w64 (Aa + 1))

def d_spec_l5Good_L1_B (fu:Nat)  (c1:Cur) (Aa:Request × Cur) (Ag:Typ × Bool) (k3:List Item → Int → Option (Request × Cur)) (Ac:List Item) (Ab:Int):Option (Request × Cur) :=
  bif (decide (Ab < ((Aa.1.fItems.length:Int)))) then obind (ix Aa.1.fItems Ab) fun Ad=>obind (d_spec_Fits fu Ad Ag.1) fun Af=>bif Af then obind (ix Aa.1.fItems Ab) fun Ah=>obind (apnd 56 Ac (([Ad]:List Item))) fun Ae=>d_spec_l5Good_J1 fu k3 Ab Ae else d_spec_l5Good_J1 fu k3 Ab Ac else some ((⟨Aa.1.fWay,(⟨30,25,24,400⟩:Pallet),Aa.1.fClasses,Aa.1.fPairs,Aa.1.fTypes,Aa.1.fMaster,Ac⟩:Request),(⟨c1.fb,Aa.2.fi,Aa.2.fh⟩:Cur))
def d_spec_l5Good_L1 (fu:Nat)  (c1:Cur) (Aa:Request × Cur) (Ab:Typ × Bool):Nat → List Item → Int → Option (Request × Cur)
  | 0=>fun _ _=>none
  | n + 1=>d_spec_l5Good_L1_B fu c1 Aa Ab (d_spec_l5Good_L1 fu c1 Aa Ab n)

def d_spec_l5Good (fu:Nat) (c1:Cur):Option (Request × Cur) :=
  obind (d_spec_l2Right fu c1) fun Aa=>obind (d_spec_Class fu Aa.1) fun Ab=>bif (Ab != 0) then obind (d_spec_MasterOf fu ((⟨Aa.1.fWay,(⟨30,25,24,400⟩:Pallet),Aa.1.fClasses,Aa.1.fPairs,Aa.1.fTypes,Aa.1.fMaster,Aa.1.fItems⟩:Request))) fun Ac=>d_spec_l5Good_L1 fu c1 Aa Ac fu (([]:List Item)) 0 else some (Aa.1,(⟨c1.fb,Aa.2.fi,Aa.2.fh⟩:Cur))

def d_spec_l2Draw_J1 (fu:Nat) (c1:Cur) (Aa:Request × Cur) (Af:Int) (Ac:Int) (Ad:Int) (Ai:Int) (Ab:List Pair) (Ag:List Typ) (Ah:Int) (Ak:List Item) (Ae:Int) (Aj:Int):Option (Request × Cur) :=
  some ((⟨Af,(⟨Ac,Aa.1.fPallet.fD,Aa.1.fPallet.fH,Ad⟩:Pallet),Ai,Ab,Ag,Ah,Ak⟩:Request),(⟨c1.fb,Ae,Aj⟩:Cur))

def d_spec_l2Draw (fu:Nat) (c1:Cur):Option (Request × Cur) :=
  obind (d_spec_l2Right fu c1) fun Aa=>obind (d_spec_l1PickInt fu ((⟨c1.fb,Aa.2.fi,Aa.2.fh⟩:Cur)) (([(-1),0,2001,100001,1000,9223372036854775807]:List Int))) fun Ac=>obind (d_spec_l1Below fu ((⟨c1.fb,Ac.2.fi,Ac.2.fh⟩:Cur)) 20) fun Ab=>bif (Ab.1 == 0) then obind (d_spec_l1PickInt fu ((⟨c1.fb,Ab.2.fi,Ab.2.fh⟩:Cur)) (([(-1),2]:List Int))) fun Ae=>d_spec_l2Draw_J1 fu c1 Aa Ae.1 Aa.1.fPallet.fW Aa.1.fPallet.fGram Aa.1.fClasses Aa.1.fPairs Aa.1.fTypes Aa.1.fMaster Aa.1.fItems Ae.2.fi Ae.2.fh else bif (Ab.1 == 1) then d_spec_l2Draw_J1 fu c1 Aa Aa.1.fWay Ac.1 Aa.1.fPallet.fGram Aa.1.fClasses Aa.1.fPairs Aa.1.fTypes Aa.1.fMaster Aa.1.fItems Ab.2.fi Ab.2.fh else bif (Ab.1 == 2) then d_spec_l2Draw_J1 fu c1 Aa Aa.1.fWay Aa.1.fPallet.fW Ac.1 Aa.1.fClasses Aa.1.fPairs Aa.1.fTypes Aa.1.fMaster Aa.1.fItems Ab.2.fi Ab.2.fh else bif (Ab.1 == 3) then obind (d_spec_l1PickInt fu ((⟨c1.fb,Ab.2.fi,Ab.2.fh⟩:Cur)) (([0,5,1]:List Int))) fun Aj=>d_spec_l2Draw_J1 fu c1 Aa Aa.1.fWay Aa.1.fPallet.fW Aa.1.fPallet.fGram Aj.1 Aa.1.fPairs Aa.1.fTypes Aa.1.fMaster Aa.1.fItems Aj.2.fi Aj.2.fh else bif (Ab.1 == 4) then obind (d_spec_l1Below fu ((⟨c1.fb,Ab.2.fi,Ab.2.fh⟩:Cur)) 6) fun Af=>obind (d_spec_l1Below fu ((⟨c1.fb,Af.2.fi,Af.2.fh⟩:Cur)) 4) fun Ai=>obind (apnd 16 Aa.1.fPairs (([(⟨w64 (Af.1 - 1),Ai.1⟩:Pair)]:List Pair))) fun Ar=>d_spec_l2Draw_J1 fu c1 Aa Aa.1.fWay Aa.1.fPallet.fW Aa.1.fPallet.fGram Aa.1.fClasses Ar Aa.1.fTypes Aa.1.fMaster Aa.1.fItems Ai.2.fi Ai.2.fh else bif (Ab.1 == 5) then obind (ix Aa.1.fTypes 0) fun At=>d_spec_l2Draw_J1 fu c1 Aa Aa.1.fWay Aa.1.fPallet.fW Aa.1.fPallet.fGram Aa.1.fClasses Aa.1.fPairs (setx Aa.1.fTypes 0 ({ At with fH:=Ac.1 })) Aa.1.fMaster Aa.1.fItems Ab.2.fi Ab.2.fh else bif (Ab.1 == 6) then obind (d_spec_l1Below fu ((⟨c1.fb,Ab.2.fi,Ab.2.fh⟩:Cur)) ((Aa.1.fTypes.length:Int))) fun Ad=>obind (ix Aa.1.fTypes Ad.1) fun Am=>d_spec_l2Draw_J1 fu c1 Aa Aa.1.fWay Aa.1.fPallet.fW Aa.1.fPallet.fGram Aa.1.fClasses Aa.1.fPairs (setx Aa.1.fTypes Ad.1 ({ Am with fGram:=Ac.1 })) Aa.1.fMaster Aa.1.fItems Ad.2.fi Ad.2.fh else bif (Ab.1 == 7) then obind (d_spec_l1PickInt fu ((⟨c1.fb,Ab.2.fi,Ab.2.fh⟩:Cur)) (([8,(-1),1000]:List Int))) fun Ah=>d_spec_l2Draw_J1 fu c1 Aa Aa.1.fWay Aa.1.fPallet.fW Aa.1.fPallet.fGram Aa.1.fClasses Aa.1.fPairs Aa.1.fTypes Ah.1 Aa.1.fItems Ah.2.fi Ah.2.fh else bif (Ab.1 == 8) then obind (d_spec_l1Below fu ((⟨c1.fb,Ab.2.fi,Ab.2.fh⟩:Cur)) 5) fun Ak=>obind (d_spec_l1Below fu ((⟨c1.fb,Ak.2.fi,Ak.2.fh⟩:Cur)) 8) fun Ag=>obind (apnd 56 Aa.1.fItems (([(⟨3,1,2,3,4,Ak.1,Ag.1⟩:Item)]:List Item))) fun Ap=>d_spec_l2Draw_J1 fu c1 Aa Aa.1.fWay Aa.1.fPallet.fW Aa.1.fPallet.fGram Aa.1.fClasses Aa.1.fPairs Aa.1.fTypes Aa.1.fMaster Ap Ag.2.fi Ag.2.fh else bif (Ab.1 == 9) then bif (decide (((Aa.1.fItems.length:Int)) > 0)) then obind (ix Aa.1.fItems 0) fun Aq=>d_spec_l2Draw_J1 fu c1 Aa Aa.1.fWay Aa.1.fPallet.fW Aa.1.fPallet.fGram Aa.1.fClasses Aa.1.fPairs Aa.1.fTypes Aa.1.fMaster (setx Aa.1.fItems 0 ({ Aq with fD:=Ac.1 })) Ab.2.fi Ab.2.fh else d_spec_l2Draw_J1 fu c1 Aa Aa.1.fWay Aa.1.fPallet.fW Aa.1.fPallet.fGram Aa.1.fClasses Aa.1.fPairs Aa.1.fTypes Aa.1.fMaster Aa.1.fItems Ab.2.fi Ab.2.fh else bif (Ab.1 == 10) then bif (decide (((Aa.1.fPairs.length:Int)) > 0)) then obind (sls Aa.1.fPairs 1 (Aa.1.fPairs.length:Int)) fun Al=>d_spec_l2Draw_J1 fu c1 Aa Aa.1.fWay Aa.1.fPallet.fW Aa.1.fPallet.fGram Aa.1.fClasses Al Aa.1.fTypes Aa.1.fMaster Aa.1.fItems Ab.2.fi Ab.2.fh else d_spec_l2Draw_J1 fu c1 Aa Aa.1.fWay Aa.1.fPallet.fW Aa.1.fPallet.fGram Aa.1.fClasses Aa.1.fPairs Aa.1.fTypes Aa.1.fMaster Aa.1.fItems Ab.2.fi Ab.2.fh else bif (Ab.1 == 11) then obind (ix Aa.1.fTypes 0) fun As=>obind (apnd 56 Aa.1.fTypes (([As]:List Typ))) fun Ao=>d_spec_l2Draw_J1 fu c1 Aa Aa.1.fWay Aa.1.fPallet.fW Aa.1.fPallet.fGram Aa.1.fClasses Aa.1.fPairs Ao Aa.1.fMaster Aa.1.fItems Ab.2.fi Ab.2.fh else bif (Ab.1 == 12) then d_spec_l2Draw_J1 fu c1 Aa Aa.1.fWay Aa.1.fPallet.fW Aa.1.fPallet.fGram Aa.1.fClasses Aa.1.fPairs (([]:List Typ)) Aa.1.fMaster Aa.1.fItems Ab.2.fi Ab.2.fh else d_spec_l2Draw_J1 fu c1 Aa Aa.1.fWay Aa.1.fPallet.fW Aa.1.fPallet.fGram Aa.1.fClasses Aa.1.fPairs Aa.1.fTypes Aa.1.fMaster Aa.1.fItems Ab.2.fi Ab.2.fh

def d_spec_DrawClass (fu:Nat) (Ab:List U8):Option (Request) :=
  obind (d_spec_l1New fu Ab) fun x8=>obind (d_spec_l1Once fu ((⟨Ab,x8.fi,x8.fh⟩:Cur)) 2) fun Aa=>bif Aa.1 then obind (d_spec_l5Good fu ((⟨Ab,Aa.2.fi,Aa.2.fh⟩:Cur))) fun Ac=>some (Ac.1) else obind (d_spec_l2Draw fu ((⟨Ab,Aa.2.fi,Aa.2.fh⟩:Cur))) fun Ad=>some (Ad.1)

def d_spec_DrawPlanOf (fu:Nat) (Aa:List U8):Option (Request) :=
  obind (d_spec_DrawClass fu Aa) fun x8=>some (x8)

def d_impl_TypeById_1 (fu:Nat) (t1:Typ) (x2:Int):Option (Bool) :=
  some (t1.fId == x2)

def d_slices_IndexFunc_impl_Type_impl_Type_L1_B (fu:Nat)  (Ab:List Typ) (f5:Typ → Option Bool) (k1:Int → Option (Int)) (Aa:Int):Option (Int) :=
  bif (decide (Aa < ((Ab.length:Int)))) then obind (ix Ab Aa) fun Ad=>obind (f5 Ad) fun Ac=>bif Ac then some (Aa) else k1 (w64 (Aa + 1)) else some ((-1))
def d_slices_IndexFunc_impl_Type_impl_Type_L1 (fu:Nat)  (Aa:List Typ) (f5:Typ → Option Bool):Nat → Int → Option (Int)
  | 0=>fun _=>none
  | n + 1=>d_slices_IndexFunc_impl_Type_impl_Type_L1_B fu Aa f5 (d_slices_IndexFunc_impl_Type_impl_Type_L1 fu Aa f5 n)

def d_slices_IndexFunc_impl_Type_impl_Type (fu:Nat) (Aa:List Typ) (f5:Typ → Option Bool):Option (Int) :=
  d_slices_IndexFunc_impl_Type_impl_Type_L1 fu Aa f5 fu 0

def d_impl_TypeById (fu:Nat) (r1:Request) (Ac:Int):Option (Typ × Bool) :=
  obind (d_slices_IndexFunc_impl_Type_impl_Type fu r1.fTypes (fun Ab=>d_impl_TypeById_1 fu Ab Ac)) fun Aa=>bif (decide (Aa < 0)) then some ((⟨0,0,0,0,0,0,0⟩:Typ),false) else obind (ix r1.fTypes Aa) fun Ad=>some (Ad,true)

def d_impl_MasterOf (fu:Nat) (r1:Request):Option (Typ × Bool) :=
  obind (d_impl_TypeById fu r1 r1.fMaster) fun Aa=>some (Aa.1,Aa.2)

def d_impl_in (fu:Nat) (n1:Int) (Ab:Int) (Aa:Int):Option (Bool) :=
  bif (decide (n1 ≥ Ab)) then some (decide (n1 ≤ Aa)) else some (false)

def d_impl_isSide (fu:Nat) (n1:Int):Option (Bool) :=
  obind (d_impl_in fu n1 1 2000) fun x2=>some (x2)

def d_impl_PalletOk (fu:Nat) (x1:Pallet):Option (Bool) :=
  obind (d_impl_isSide fu x1.fW) fun x5=>bif x5 then obind (d_impl_isSide fu x1.fD) fun Ac=>bif Ac then obind (d_impl_isSide fu x1.fH) fun Ab=>bif Ab then obind (d_impl_in fu x1.fGram 1 100000) fun Aa=>some (Aa) else some (false) else some (false) else some (false)

def d_slices_IndexFunc_impl_Pair_impl_Pair_L1_B (fu:Nat)  (Ab:List Pair) (f5:Pair → Option Bool) (k1:Int → Option (Int)) (Aa:Int):Option (Int) :=
  bif (decide (Aa < ((Ab.length:Int)))) then obind (ix Ab Aa) fun Ad=>obind (f5 Ad) fun Ac=>bif Ac then some (Aa) else k1 (w64 (Aa + 1)) else some ((-1))
def d_slices_IndexFunc_impl_Pair_impl_Pair_L1 (fu:Nat)  (Aa:List Pair) (f5:Pair → Option Bool):Nat → Int → Option (Int)
  | 0=>fun _=>none
  | n + 1=>d_slices_IndexFunc_impl_Pair_impl_Pair_L1_B fu Aa f5 (d_slices_IndexFunc_impl_Pair_impl_Pair_L1 fu Aa f5 n)

def d_slices_IndexFunc_impl_Pair_impl_Pair (fu:Nat) (Aa:List Pair) (f5:Pair → Option Bool):Option (Int) :=
  d_slices_IndexFunc_impl_Pair_impl_Pair_L1 fu Aa f5 fu 0

def d_slices_ContainsFunc_impl_Pair_impl_Pair (fu:Nat) (Aa:List Pair) (f5:Pair → Option Bool):Option (Bool) :=
  obind (d_slices_IndexFunc_impl_Pair_impl_Pair fu Aa f5) fun Ab=>some (decide (Ab ≥ 0))

def d_impl_BoundsOk_1 (fu:Nat) (p1:Pair):Option (Bool) :=
  obind (d_impl_in fu p1.fA 0 3) fun x5=>bif (!x5) then some (true) else obind (d_impl_in fu p1.fB 0 3) fun Aa=>some (!Aa)

def d_slices_ContainsFunc_impl_Type_impl_Type (fu:Nat) (Aa:List Typ) (f5:Typ → Option Bool):Option (Bool) :=
  obind (d_slices_IndexFunc_impl_Type_impl_Type fu Aa f5) fun Ab=>some (decide (Ab ≥ 0))

def d_impl_TypeOk (fu:Nat) (x1:Typ):Option (Bool) :=
  obind (d_impl_in fu x1.fId 0 999) fun x5=>bif x5 then obind (d_impl_isSide fu x1.fW) fun Ad=>bif Ad then obind (d_impl_isSide fu x1.fH) fun Aa=>bif Aa then obind (d_impl_isSide fu x1.fD) fun Ac=>bif Ac then obind (d_impl_in fu x1.fTare 0 100000) fun Ab=>bif Ab then obind (d_impl_in fu x1.fGram 1 100000) fun Af=>bif Af then obind (d_impl_in fu x1.fCost 0 100000) fun Ae=>some (Ae) else some (false) else some (false) else some (false) else some (false) else some (false) else some (false)

def d_impl_BoundsOk_2 (fu:Nat) (t1:Typ):Option (Bool) :=
  obind (d_impl_TypeOk fu t1) fun x5=>some (!x5)

def d_impl_ItemOk (fu:Nat) (x1:Item):Option (Bool) :=
  obind (d_impl_in fu x1.fId 0 999) fun x5=>bif x5 then obind (d_impl_isSide fu x1.fW) fun Ad=>bif Ad then obind (d_impl_isSide fu x1.fH) fun Aa=>bif Aa then obind (d_impl_isSide fu x1.fD) fun Ac=>bif Ac then obind (d_impl_in fu x1.fGram 1 100000) fun Ab=>bif Ab then obind (d_impl_in fu x1.fClass 0 3) fun Af=>bif Af then obind (d_impl_in fu x1.fCount 1 6) fun Ae=>some (Ae) else some (false) else some (false) else some (false) else some (false) else some (false) else some (false)

def d_impl_BoundsOk_L1_B (fu:Nat)  (r1:Request) (k3:Int → Int → Option (Bool)) (Ac:Int) (Aa:Int):Option (Bool) :=
  bif (decide (Aa < ((r1.fItems.length:Int)))) then obind (ix r1.fItems Aa) fun Ab=>obind (d_impl_ItemOk fu Ab) fun Ad=>bif (!Ad) then some (false) else k3 (w64 (Ac + Ab.fCount)) (w64 (Aa + 1)) else some (decide (Ac ≤ 12))
def d_impl_BoundsOk_L1 (fu:Nat)  (r1:Request):Nat → Int → Int → Option (Bool)
  | 0=>fun _ _=>none
  | n + 1=>d_impl_BoundsOk_L1_B fu r1 (d_impl_BoundsOk_L1 fu r1 n)

def d_impl_BoundsOk_J1 (fu:Nat) (r1:Request)  : Option (Bool) :=
  d_impl_BoundsOk_L1 fu r1 fu 0 0

def d_impl_BoundsOk_J2 (fu:Nat) (r1:Request)  : Option (Bool) :=
  obind (d_slices_ContainsFunc_impl_Pair_impl_Pair fu r1.fPairs (fun Aa=>d_impl_BoundsOk_1 fu Aa)) fun Ad=>bif Ad then some (false) else obind (d_impl_in fu ((r1.fTypes.length:Int)) 1 5) fun Ab=>bif (!Ab) then some (false) else obind (d_slices_ContainsFunc_impl_Type_impl_Type fu r1.fTypes (fun Ac=>d_impl_BoundsOk_2 fu Ac)) fun Ae=>bif Ae then some (false) else obind (d_impl_in fu r1.fMaster 0 999) fun Af=>bif (!Af) then some (false) else bif (decide (((r1.fItems.length:Int)) > 8)) then some (false) else d_impl_BoundsOk_J1 fu r1

def d_impl_BoundsOk (fu:Nat) (r1:Request):Option (Bool) :=
  obind (d_impl_in fu r1.fWay 0 1) fun Ac=>bif (!Ac) then some (false) else obind (d_impl_PalletOk fu r1.fPallet) fun Aa=>bif (!Aa) then some (false) else obind (d_impl_in fu r1.fClasses 1 4) fun Ab=>bif (!Ab) then some (false) else bif (decide (((r1.fPairs.length:Int)) > 16)) then some (false) else d_impl_BoundsOk_J2 fu r1

def d_impl_namesOk_1 (fu:Nat) (q1:Typ) (x2:Typ):Option (Bool) :=
  some (q1.fId == x2.fId)

def d_impl_namesOk_2 (fu:Nat) (q1:Item) (x2:Item):Option (Bool) :=
  some (q1.fId == x2.fId)

def d_slices_IndexFunc_impl_Item_impl_Item_L1_B (fu:Nat)  (Ab:List Item) (f5:Item → Option Bool) (k1:Int → Option (Int)) (Aa:Int):Option (Int) :=
  bif (decide (Aa < ((Ab.length:Int)))) then obind (ix Ab Aa) fun Ad=>obind (f5 Ad) fun Ac=>bif Ac then some (Aa) else k1 (w64 (Aa + 1)) else some ((-1))
def d_slices_IndexFunc_impl_Item_impl_Item_L1 (fu:Nat)  (Aa:List Item) (f5:Item → Option Bool):Nat → Int → Option (Int)
  | 0=>fun _=>none
  | n + 1=>d_slices_IndexFunc_impl_Item_impl_Item_L1_B fu Aa f5 (d_slices_IndexFunc_impl_Item_impl_Item_L1 fu Aa f5 n)

def d_slices_IndexFunc_impl_Item_impl_Item (fu:Nat) (Aa:List Item) (f5:Item → Option Bool):Option (Int) :=
  d_slices_IndexFunc_impl_Item_impl_Item_L1 fu Aa f5 fu 0

def d_slices_ContainsFunc_impl_Item_impl_Item (fu:Nat) (Aa:List Item) (f5:Item → Option Bool):Option (Bool) :=
  obind (d_slices_IndexFunc_impl_Item_impl_Item fu Aa f5) fun Ab=>some (decide (Ab ≥ 0))

def d_impl_namesOk_3 (fu:Nat) (p1:Pair) (x2:Request):Option (Bool) :=
  bif (decide (p1.fA ≥ x2.fClasses)) then some (true) else some (decide (p1.fB ≥ x2.fClasses))

def d_impl_namesOk_J1 (fu:Nat) (k4:Int → Option (Bool)) (Aa:Int)  : Option (Bool) :=
  k4 (w64 (Aa + 1))

def d_impl_namesOk_L1_B (fu:Nat)  (r1:Request) (k4:Int → Option (Bool)) (Aa:Int):Option (Bool) :=
  bif (decide (Aa < ((r1.fItems.length:Int)))) then obind (ix r1.fItems Aa) fun Ab=>bif (decide (Ab.fClass ≥ r1.fClasses)) then some (false) else obind (sls r1.fItems 0 Aa) fun Ad=>obind (d_slices_ContainsFunc_impl_Item_impl_Item fu Ad (fun Ah=>d_impl_namesOk_2 fu Ah Ab)) fun Ae=>bif Ae then some (false) else d_impl_namesOk_J1 fu k4 Aa else obind (d_impl_MasterOf fu r1) fun Ac=>bif Ac.2 then obind (d_slices_ContainsFunc_impl_Pair_impl_Pair fu r1.fPairs (fun Ag=>d_impl_namesOk_3 fu Ag r1)) fun Af=>some (!Af) else some (false)
def d_impl_namesOk_L1 (fu:Nat)  (r1:Request):Nat → Int → Option (Bool)
  | 0=>fun _=>none
  | n + 1=>d_impl_namesOk_L1_B fu r1 (d_impl_namesOk_L1 fu r1 n)

def d_impl_namesOk_L2_B (fu:Nat)  (r1:Request) (k1:Int → Option (Bool)) (Aa:Int):Option (Bool) :=
  bif (decide (Aa < ((r1.fTypes.length:Int)))) then obind (ix r1.fTypes Aa) fun Ad=>obind (sls r1.fTypes 0 Aa) fun Ab=>obind (d_slices_ContainsFunc_impl_Type_impl_Type fu Ab (fun Ae=>d_impl_namesOk_1 fu Ae Ad)) fun Ac=>bif Ac then some (false) else k1 (w64 (Aa + 1)) else d_impl_namesOk_L1 fu r1 fu 0
def d_impl_namesOk_L2 (fu:Nat)  (r1:Request):Nat → Int → Option (Bool)
  | 0=>fun _=>none
  | n + 1=>d_impl_namesOk_L2_B fu r1 (d_impl_namesOk_L2 fu r1 n)

def d_impl_namesOk (fu:Nat) (r1:Request):Option (Bool) :=
  d_impl_namesOk_L2 fu r1 fu 0

def d_slices_Index_impl_Pair_impl_Pair_L1_B (fu:Nat)  (Ab:List Pair) (v5:Pair) (k1:Int → Option (Int)) (Aa:Int):Option (Int) :=
  bif (decide (Aa < ((Ab.length:Int)))) then obind (ix Ab Aa) fun Ac=>bif (decide (v5 = Ac)) then some (Aa) else k1 (w64 (Aa + 1)) else some ((-1))
def d_slices_Index_impl_Pair_impl_Pair_L1 (fu:Nat)  (Aa:List Pair) (v5:Pair):Nat → Int → Option (Int)
  | 0=>fun _=>none
  | n + 1=>d_slices_Index_impl_Pair_impl_Pair_L1_B fu Aa v5 (d_slices_Index_impl_Pair_impl_Pair_L1 fu Aa v5 n)

def d_slices_Index_impl_Pair_impl_Pair (fu:Nat) (Aa:List Pair) (v5:Pair):Option (Int) :=
  d_slices_Index_impl_Pair_impl_Pair_L1 fu Aa v5 fu 0

def d_slices_Contains_impl_Pair_impl_Pair (fu:Nat) (Aa:List Pair) (v5:Pair):Option (Bool) :=
  obind (d_slices_Index_impl_Pair_impl_Pair fu Aa v5) fun Ab=>some (decide (Ab ≥ 0))

def d_impl_Beside (fu:Nat) (Aa:List Pair) (a5:Int) (b6:Int):Option (Bool) :=
  obind (d_slices_Contains_impl_Pair_impl_Pair fu Aa ((⟨a5,b6⟩:Pair))) fun x7=>some (x7)

def d_impl_TableOk_L1_B (fu:Nat) (k3:Int → Option (Bool)) (Ac:List Pair) (Ae:Int) (Ab:Int) (k4:Int → Option (Bool)) (Aa:Int):Option (Bool) :=
  bif (decide (Aa < Ae)) then obind (d_impl_Beside fu Ac Ab Aa) fun Af=>obind (d_impl_Beside fu Ac Aa Ab) fun Ad=>bif (!(Af == Ad)) then some (false) else k4 (w64 (Aa + 1)) else k3 (w64 (Ab + 1))
def d_impl_TableOk_L1 (fu:Nat) (k3:Int → Option (Bool)) (Ac:List Pair) (Ab:Int) (Aa:Int):Nat → Int → Option (Bool)
  | 0=>fun _=>none
  | n + 1=>d_impl_TableOk_L1_B fu k3 Ac Ab Aa (d_impl_TableOk_L1 fu k3 Ac Ab Aa n)

def d_impl_TableOk_L2_B (fu:Nat)  (Ac:List Pair) (Ab:Int) (k3:Int → Option (Bool)) (Aa:Int):Option (Bool) :=
  bif (decide (Aa < Ab)) then obind (d_impl_Beside fu Ac Aa Aa) fun Ad=>bif (!Ad) then some (false) else d_impl_TableOk_L1 fu k3 Ac Ab Aa fu 0 else some (true)
def d_impl_TableOk_L2 (fu:Nat)  (Ab:List Pair) (Aa:Int):Nat → Int → Option (Bool)
  | 0=>fun _=>none
  | n + 1=>d_impl_TableOk_L2_B fu Ab Aa (d_impl_TableOk_L2 fu Ab Aa n)

def d_impl_TableOk (fu:Nat) (Ab:List Pair) (Aa:Int):Option (Bool) :=
  obind (d_impl_in fu Aa 1 4) fun x6=>bif (!x6) then some (false) else d_impl_TableOk_L2 fu Ab Aa fu 0

def d_slices_Sort_int_int (fu:Nat) (x1:List Int):Option (List Int):=sortI x1

def d_impl_Fits_J1 (fu:Nat) (x1:Item) (t2:Typ) (Ac:List Int) (Ag:List Int):Option (Bool) :=
  obind (d_slices_Sort_int_int fu Ac) fun Ab=>obind (d_slices_Sort_int_int fu Ag) fun Aa=>obind (ix Ab 0) fun Af=>obind (ix Aa 0) fun Ae=>bif (decide (Af ≤ Ae)) then obind (ix Ab 1) fun Ai=>obind (ix Aa 1) fun Ad=>bif (decide (Ai ≤ Ad)) then obind (ix Ab 2) fun Ah=>obind (ix Aa 2) fun Aj=>bif (decide (Ah ≤ Aj)) then some (decide (x1.fGram ≤ t2.fGram)) else some (false) else some (false) else some (false)

def d_impl_Fits (fu:Nat) (x1:Item) (t2:Typ):Option (Bool) :=
  d_impl_Fits_J1 fu x1 t2 (([x1.fW,x1.fH,x1.fD]:List Int)) (([t2.fW,t2.fH,t2.fD]:List Int))

def d_impl_Class_1 (fu:Nat) (x1:Item) (x2:Typ):Option (Bool) :=
  obind (d_impl_Fits fu x1 x2) fun x8=>some (!x8)

def d_impl_Class_2 (fu:Nat) (t1:Typ) (x2:Pallet):Option (Bool) :=
  bif (decide (t1.fW > x2.fW)) then some (true) else bif (decide (t1.fD > x2.fD)) then some (true) else bif (decide (t1.fH > x2.fH)) then some (true) else some (decide ((w64 (t1.fTare + t1.fGram)) > x2.fGram))

def d_impl_Class (fu:Nat) (r1:Request):Option (Int) :=
  obind (d_impl_MasterOf fu r1) fun Ag=>obind (d_impl_BoundsOk fu r1) fun Ae=>bif (!Ae) then some (2) else obind (d_impl_namesOk fu r1) fun Ac=>bif (!Ac) then some (3) else obind (d_impl_TableOk fu r1.fPairs r1.fClasses) fun Ad=>bif (!Ad) then some (4) else obind (d_slices_ContainsFunc_impl_Item_impl_Item fu r1.fItems (fun Ah=>d_impl_Class_1 fu Ah Ag.1)) fun Aa=>bif Aa then some (5) else obind (d_slices_ContainsFunc_impl_Type_impl_Type fu r1.fTypes (fun Af=>d_impl_Class_2 fu Af r1.fPallet)) fun Ab=>bif Ab then some (6) else some (0)

def d_impl_sound (fu:Nat) (r1:Request):Option (Bool) :=
  obind (d_impl_Class fu r1) fun Aa=>some (Aa == 0)

def d_slices_Clone_int_int (fu:Nat) (Aa:List Int):Option ((List Int)) :=
  obind (apnd 8 (([]:List Int)) Aa) fun Ab=>some (Ab)

def d_slices_Compact_int_int (fu:Nat) (x1:List Int):Option (List Int):=cmpI x1

def d_impl_kinds (fu:Nat) (Aa:List Int):Option ((List Int)) :=
  obind (d_slices_Clone_int_int fu Aa) fun x5=>obind (d_slices_Sort_int_int fu x5) fun Ab=>obind (d_slices_Compact_int_int fu Ab) fun Ac=>some (Ac)

def d_impl_Present_L1_B (fu:Nat)  (r1:Request) (k1:List Int → Int → Option ((List Int))) (Ab:List Int) (Aa:Int):Option ((List Int)) :=
  bif (decide (Aa < ((r1.fItems.length:Int)))) then obind (ix r1.fItems Aa) fun Ac=>obind (apnd 8 Ab (([Ac.fClass]:List Int))) fun Ae=>k1 Ae (w64 (Aa + 1)) else obind (d_impl_kinds fu Ab) fun Ad=>some (Ad)
def d_impl_Present_L1 (fu:Nat)  (r1:Request):Nat → List Int → Int → Option ((List Int))
  | 0=>fun _ _=>none
  | n + 1=>d_impl_Present_L1_B fu r1 (d_impl_Present_L1 fu r1 n)

def d_impl_Present (fu:Nat) (r1:Request):Option ((List Int)) :=
  obind (d_impl_sound fu r1) fun Aa=>bif (!Aa) then some (([]:List Int)) else d_impl_Present_L1 fu r1 fu (([]:List Int)) 0

def d_impl_mutual (fu:Nat) (Aa:List Pair) (a5:Int) (b6:Int):Option (Bool) :=
  obind (d_impl_Beside fu Aa a5 b6) fun x7=>bif x7 then obind (d_impl_Beside fu Aa b6 a5) fun Ab=>some (Ab) else some (false)

def d_impl_Groups_1_1 (fu:Nat) (x1:Int) (x2:List Pair) (x8:Int):Option (Bool) :=
  obind (d_impl_mutual fu x2 x8 x1) fun Aa=>some (!Aa)

def d_slices_IndexFunc_int_int_L1_B (fu:Nat)  (Ab:List Int) (f5:Int → Option Bool) (k1:Int → Option (Int)) (Aa:Int):Option (Int) :=
  bif (decide (Aa < ((Ab.length:Int)))) then obind (ix Ab Aa) fun Ad=>obind (f5 Ad) fun Ac=>bif Ac then some (Aa) else k1 (w64 (Aa + 1)) else some ((-1))
def d_slices_IndexFunc_int_int_L1 (fu:Nat)  (Aa:List Int) (f5:Int → Option Bool):Nat → Int → Option (Int)
  | 0=>fun _=>none
  | n + 1=>d_slices_IndexFunc_int_int_L1_B fu Aa f5 (d_slices_IndexFunc_int_int_L1 fu Aa f5 n)

def d_slices_IndexFunc_int_int (fu:Nat) (Aa:List Int) (f5:Int → Option Bool):Option (Int) :=
  d_slices_IndexFunc_int_int_L1 fu Aa f5 fu 0

def d_slices_ContainsFunc_int_int (fu:Nat) (Aa:List Int) (f5:Int → Option Bool):Option (Bool) :=
  obind (d_slices_IndexFunc_int_int fu Aa f5) fun Ab=>some (decide (Ab ≥ 0))

def d_impl_Groups_1 (fu:Nat) (l1:List Int) (x5:List Pair) (Ac:Int):Option (Bool) :=
  obind (d_slices_ContainsFunc_int_int fu l1 (fun Ab=>d_impl_Groups_1_1 fu Ab x5 Ac)) fun Aa=>some (!Aa)

def d_slices_IndexFunc_ints_int_L1_B (fu:Nat)  (Ab:List (List Int)) (f5:(List Int) → Option Bool) (k1:Int → Option (Int)) (Aa:Int):Option (Int) :=
  bif (decide (Aa < ((Ab.length:Int)))) then obind (ix Ab Aa) fun Ad=>obind (f5 Ad) fun Ac=>bif Ac then some (Aa) else k1 (w64 (Aa + 1)) else some ((-1))
def d_slices_IndexFunc_ints_int_L1 (fu:Nat)  (Aa:List (List Int)) (f5:(List Int) → Option Bool):Nat → Int → Option (Int)
  | 0=>fun _=>none
  | n + 1=>d_slices_IndexFunc_ints_int_L1_B fu Aa f5 (d_slices_IndexFunc_ints_int_L1 fu Aa f5 n)

def d_slices_IndexFunc_ints_int (fu:Nat) (Aa:List (List Int)) (f5:(List Int) → Option Bool):Option (Int) :=
  d_slices_IndexFunc_ints_int_L1 fu Aa f5 fu 0

def d_impl_Groups_J1 (fu:Nat) (k3:List (List Int) → Int → Option ((List (List Int)))) (Ab:Int) (Aa:List (List Int)):Option ((List (List Int))) :=
  k3 Aa (w64 (Ab + 1))

def d_impl_Groups_L1_B (fu:Nat)  (Ak:List Pair) (Ae:(List Int)) (k3:List (List Int) → Int → Option ((List (List Int)))) (Aa:List (List Int)) (Ab:Int):Option ((List (List Int))) :=
  bif (decide (Ab < ((Ae.length:Int)))) then obind (ix Ae Ab) fun Ac=>obind (d_impl_in fu Ac 0 3) fun Aj=>bif (!Aj) then d_impl_Groups_J1 fu k3 Ab Aa else obind (d_slices_IndexFunc_ints_int fu Aa (fun Ag=>d_impl_Groups_1 fu Ag Ak Ac)) fun Ad=>bif (decide (Ad < 0)) then obind (apnd 24 Aa [([Ac]:List Int)]) fun Ai=>d_impl_Groups_J1 fu k3 Ab Ai else obind (ix Aa Ad) fun Ah=>obind (apnd 8 Ah (([Ac]:List Int))) fun Af=>obind (ix Aa Ad) fun Al=>d_impl_Groups_J1 fu k3 Ab (setx Aa Ad Af) else some (Aa)
def d_impl_Groups_L1 (fu:Nat)  (Ab:List Pair) (Aa:(List Int)):Nat → List (List Int) → Int → Option ((List (List Int)))
  | 0=>fun _ _=>none
  | n + 1=>d_impl_Groups_L1_B fu Ab Aa (d_impl_Groups_L1 fu Ab Aa n)

def d_impl_Groups (fu:Nat) (Ac:List Pair) (Aa:List Int):Option ((List (List Int))) :=
  obind (d_impl_kinds fu Aa) fun Ab=>d_impl_Groups_L1 fu Ac Ab fu (([]:List (List Int))) 0

def d_impl_GroupsOf (fu:Nat) (r1:Request):Option ((List (List Int))) :=
  obind (d_impl_sound fu r1) fun Ab=>bif (!Ab) then some (([]:List (List Int))) else obind (d_impl_Present fu r1) fun Aa=>obind (d_impl_Groups fu r1.fPairs Aa) fun Ac=>some (Ac)

def d_bits_Mul64 (fu:Nat) (x1:Int) (y2:Int):Option (Int × Int) :=
  some (IntKind.wrap .u64 ((IntKind.wrap .u64 ((IntKind.wrap .u64 ((Int.fdiv x1 (2 ^ (min 32 (IntKind.bits .u64)))) * (Int.fdiv y2 (2 ^ (min 32 (IntKind.bits .u64)))))) + (Int.fdiv (IntKind.wrap .u64 ((IntKind.wrap .u64 ((Int.fdiv x1 (2 ^ (min 32 (IntKind.bits .u64)))) * (IntKind.wrap .u64 (((BitVec.ofInt (IntKind.bits .u64) y2 &&& BitVec.ofInt (IntKind.bits .u64) 4294967295).toNat:Nat):Int)))) + (Int.fdiv (IntKind.wrap .u64 ((IntKind.wrap .u64 (((BitVec.ofInt (IntKind.bits .u64) x1 &&& BitVec.ofInt (IntKind.bits .u64) 4294967295).toNat:Nat):Int)) * (IntKind.wrap .u64 (((BitVec.ofInt (IntKind.bits .u64) y2 &&& BitVec.ofInt (IntKind.bits .u64) 4294967295).toNat:Nat):Int)))) (2 ^ (min 32 (IntKind.bits .u64)))))) (2 ^ (min 32 (IntKind.bits .u64)))))) + (Int.fdiv (IntKind.wrap .u64 ((IntKind.wrap .u64 (((BitVec.ofInt (IntKind.bits .u64) (IntKind.wrap .u64 ((IntKind.wrap .u64 ((Int.fdiv x1 (2 ^ (min 32 (IntKind.bits .u64)))) * (IntKind.wrap .u64 (((BitVec.ofInt (IntKind.bits .u64) y2 &&& BitVec.ofInt (IntKind.bits .u64) 4294967295).toNat:Nat):Int)))) + (Int.fdiv (IntKind.wrap .u64 ((IntKind.wrap .u64 (((BitVec.ofInt (IntKind.bits .u64) x1 &&& BitVec.ofInt (IntKind.bits .u64) 4294967295).toNat:Nat):Int)) * (IntKind.wrap .u64 (((BitVec.ofInt (IntKind.bits .u64) y2 &&& BitVec.ofInt (IntKind.bits .u64) 4294967295).toNat:Nat):Int)))) (2 ^ (min 32 (IntKind.bits .u64)))))) &&& BitVec.ofInt (IntKind.bits .u64) 4294967295).toNat:Nat):Int)) + (IntKind.wrap .u64 ((IntKind.wrap .u64 (((BitVec.ofInt (IntKind.bits .u64) x1 &&& BitVec.ofInt (IntKind.bits .u64) 4294967295).toNat:Nat):Int)) * (Int.fdiv y2 (2 ^ (min 32 (IntKind.bits .u64)))))))) (2 ^ (min 32 (IntKind.bits .u64))))),IntKind.wrap .u64 (x1 * y2))

def d_bits_Mul (fu:Nat) (x1:Int) (y2:Int):Option (Int × Int) :=
  obind (d_bits_Mul64 fu x1 y2) fun x3=>some (x3.1,x3.2)

def d_slices_Repeat_int_int_L1_B (fu:Nat)   (k3:List Int → Int → Option ((List Int))) (Aa:List Int) (Ab:Int):Option ((List Int)) :=
  bif (decide (Ab < ((Aa.length:Int)))) then obind (sls Aa Ab (Aa.length:Int)) fun Ad=>obind (sls Aa 0 Ab) fun Ac=>k3 (cpd Aa Ab Ac) (w64 (Ab + (cpn Aa Ab Ac))) else some (Aa)
def d_slices_Repeat_int_int_L1 (fu:Nat)   : Nat → List Int → Int → Option ((List Int))
  | 0=>fun _ _=>none
  | n + 1=>d_slices_Repeat_int_int_L1_B fu  (d_slices_Repeat_int_int_L1 fu  n)

def d_slices_Repeat_int_int_J1 (fu:Nat) (x1:List Int) (x8:Int × Int)  : Option ((List Int)) :=
  obind (mk 8 (0:Int) (w64 x8.2)) fun Aa=>d_slices_Repeat_int_int_L1 fu fu (cpd Aa 0 x1) (cpn Aa 0 x1)

def d_slices_Repeat_int_int_J2 (fu:Nat) (x1:List Int) (Aa:Int)  : Option ((List Int)) :=
  obind (d_bits_Mul fu (IntKind.wrap .u64 ((x1.length:Int))) (IntKind.wrap .u64 Aa)) fun x8=>bif (decide (x8.1 > 0)) then none else bif (decide (x8.2 > 9223372036854775807)) then none else d_slices_Repeat_int_int_J1 fu x1 x8

def d_slices_Repeat_int_int (fu:Nat) (x1:List Int) (Aa:Int):Option ((List Int)) :=
  bif (decide (Aa < 0)) then none else d_slices_Repeat_int_int_J2 fu x1 Aa

def d_impl_Units_L1_B (fu:Nat)  (r1:Request) (k1:List Int → Int → Option ((List Int))) (Ab:List Int) (Aa:Int):Option ((List Int)) :=
  bif (decide (Aa < ((r1.fItems.length:Int)))) then obind (ix r1.fItems Aa) fun Ae=>obind (d_slices_Repeat_int_int fu (([Aa]:List Int)) Ae.fCount) fun Ad=>obind (apnd 8 Ab Ad) fun Ac=>k1 Ac (w64 (Aa + 1)) else some (Ab)
def d_impl_Units_L1 (fu:Nat)  (r1:Request):Nat → List Int → Int → Option ((List Int))
  | 0=>fun _ _=>none
  | n + 1=>d_impl_Units_L1_B fu r1 (d_impl_Units_L1 fu r1 n)

def d_impl_Units (fu:Nat) (r1:Request):Option ((List Int)) :=
  obind (d_impl_sound fu r1) fun Aa=>bif (!Aa) then some (([]:List Int)) else d_impl_Units_L1 fu r1 fu (([]:List Int)) 0

def d_slices_Index_int_int_L1_B (fu:Nat)  (Ab:List Int) (v5:Int) (k1:Int → Option (Int)) (Aa:Int):Option (Int) :=
  bif (decide (Aa < ((Ab.length:Int)))) then obind (ix Ab Aa) fun Ac=>bif (v5 == Ac) then some (Aa) else k1 (w64 (Aa + 1)) else some ((-1))
def d_slices_Index_int_int_L1 (fu:Nat)  (Aa:List Int) (v5:Int):Nat → Int → Option (Int)
  | 0=>fun _=>none
  | n + 1=>d_slices_Index_int_int_L1_B fu Aa v5 (d_slices_Index_int_int_L1 fu Aa v5 n)

def d_slices_Index_int_int (fu:Nat) (Aa:List Int) (v5:Int):Option (Int) :=
  d_slices_Index_int_int_L1 fu Aa v5 fu 0

def d_slices_Contains_int_int (fu:Nat) (Aa:List Int) (v5:Int):Option (Bool) :=
  obind (d_slices_Index_int_int fu Aa v5) fun x6=>some (decide (x6 ≥ 0))

def d_impl_UnitsOf_J1 (fu:Nat) (k3:List Int → Int → Option ((List Int))) (Aa:Int) (Ab:List Int):Option ((List Int)) :=
  k3 Ab (w64 (Aa + 1))

def d_impl_UnitsOf_L1_B (fu:Nat)  (r1:Request) (Ag:Int) (Ai:(List (List Int))) (Ac:(List Int)) (k3:List Int → Int → Option ((List Int))) (Ab:List Int) (Aa:Int):Option ((List Int)) :=
  bif (decide (Aa < ((Ac.length:Int)))) then obind (ix Ac Aa) fun Af=>obind (ix Ai Ag) fun Aj=>obind (ix r1.fItems Af) fun Ae=>obind (d_slices_Contains_int_int fu Aj Ae.fClass) fun Ad=>bif Ad then obind (apnd 8 Ab (([Aa]:List Int))) fun Ah=>d_impl_UnitsOf_J1 fu k3 Aa Ah else d_impl_UnitsOf_J1 fu k3 Aa Ab else some (Ab)
def d_impl_UnitsOf_L1 (fu:Nat)  (r1:Request) (Ac:Int) (Aa:(List (List Int))) (Ab:(List Int)):Nat → List Int → Int → Option ((List Int))
  | 0=>fun _ _=>none
  | n + 1=>d_impl_UnitsOf_L1_B fu r1 Ac Aa Ab (d_impl_UnitsOf_L1 fu r1 Ac Aa Ab n)

def d_impl_UnitsOf (fu:Nat) (r1:Request) (Ab:Int):Option ((List Int)) :=
  obind (d_impl_GroupsOf fu r1) fun Aa=>obind (d_impl_in fu Ab 0 (w64 (((Aa.length:Int)) - 1))) fun Ad=>bif (!Ad) then some (([]:List Int)) else obind (d_impl_Units fu r1) fun Ac=>d_impl_UnitsOf_L1 fu r1 Ab Aa Ac fu (([]:List Int)) 0

def d_impl_thereOf_1 (fu:Nat) (u1:Int) (x2:Int):Option (Bool) :=
  obind (d_impl_in fu u1 0 (w64 (x2 - 1))) fun x5=>some (!x5)

def d_slices_DeleteFunc_int_int_J1 (fu:Nat) (k3:List Int → Int → Int → Option ((List Int))) (Ac:Int) (Ab:List Int) (Aa:Int):Option ((List Int)) :=
  k3 Ab Aa (w64 (Ac + 1))

def d_slices_DeleteFunc_int_int_L1_B (fu:Nat)  (f5:Int → Option Bool) (k3:List Int → Int → Int → Option ((List Int))) (Aa:List Int) (Ab:Int) (Ac:Int):Option ((List Int)) :=
  bif (decide (Ac < ((Aa.length:Int)))) then obind (ix Aa Ac) fun Ad=>obind (f5 Ad) fun Ae=>bif (!Ae) then obind (ix Aa Ab) fun Ag=>d_slices_DeleteFunc_int_int_J1 fu k3 Ac (setx Aa Ab Ad) (w64 (Ab + 1)) else d_slices_DeleteFunc_int_int_J1 fu k3 Ac Aa Ab else obind (sls Aa Ab (Aa.length:Int)) fun Ah=>obind (sls (clrd Aa Ab) 0 Ab) fun Af=>some (Af)
def d_slices_DeleteFunc_int_int_L1 (fu:Nat)  (f5:Int → Option Bool):Nat → List Int → Int → Int → Option ((List Int))
  | 0=>fun _ _ _=>none
  | n + 1=>d_slices_DeleteFunc_int_int_L1_B fu f5 (d_slices_DeleteFunc_int_int_L1 fu f5 n)

def d_slices_DeleteFunc_int_int (fu:Nat) (Aa:List Int) (f5:Int → Option Bool):Option ((List Int)) :=
  obind (d_slices_IndexFunc_int_int fu Aa f5) fun Ab=>bif (Ab == ((-1))) then some (Aa) else d_slices_DeleteFunc_int_int_L1 fu f5 fu Aa Ab (w64 (Ab + 1))

def d_impl_thereOf (fu:Nat) (r1:Request) (Ac:List Int):Option ((List Int)) :=
  obind (d_impl_Units fu r1) fun Aa=>obind (d_slices_Clone_int_int fu Ac) fun Ad=>obind (d_slices_DeleteFunc_int_int fu Ad (fun Ae=>d_impl_thereOf_1 fu Ae ((Aa.length:Int)))) fun Ab=>some (Ab)

def d_impl_itemsOf_J1 (fu:Nat) (k3:List Item → Int → Option ((List Item))) (Aa:Int) (Ab:List Item):Option ((List Item)) :=
  k3 Ab (w64 (Aa + 1))

def d_impl_itemsOf_L1_B (fu:Nat)  (r1:Request) (Ae:List Int) (Ad:(List Int)) (k3:List Item → Int → Option ((List Item))) (Ab:List Item) (Aa:Int):Option ((List Item)) :=
  bif (decide (Aa < ((Ae.length:Int)))) then obind (ix Ae Aa) fun Ac=>obind (d_impl_in fu Ac 0 (w64 (((Ad.length:Int)) - 1))) fun Af=>bif Af then obind (ix Ad Ac) fun Ai=>obind (ix r1.fItems Ai) fun Ah=>obind (apnd 56 Ab (([Ah]:List Item))) fun Ag=>d_impl_itemsOf_J1 fu k3 Aa Ag else d_impl_itemsOf_J1 fu k3 Aa Ab else some (Ab)
def d_impl_itemsOf_L1 (fu:Nat)  (r1:Request) (Ab:List Int) (Aa:(List Int)):Nat → List Item → Int → Option ((List Item))
  | 0=>fun _ _=>none
  | n + 1=>d_impl_itemsOf_L1_B fu r1 Ab Aa (d_impl_itemsOf_L1 fu r1 Ab Aa n)

def d_impl_itemsOf (fu:Nat) (r1:Request) (Ab:List Int):Option ((List Item)) :=
  obind (d_impl_Units fu r1) fun Aa=>d_impl_itemsOf_L1 fu r1 Ab Aa fu (([]:List Item)) 0

def d_impl_Volume_J1 (fu:Nat) (Aa:Int) (h2:Int) (d3:Int)  : Option (Int) :=
  some (w64 ((w64 (Aa * h2)) * d3))

def d_impl_Volume (fu:Nat) (Aa:Int) (h2:Int) (d3:Int):Option (Int) :=
  obind (d_impl_in fu Aa 0 2000) fun Ad=>bif (!Ad) then some (0) else obind (d_impl_in fu h2 0 2000) fun Ab=>bif (!Ab) then some (0) else obind (d_impl_in fu d3 0 2000) fun Ac=>bif (!Ac) then some (0) else d_impl_Volume_J1 fu Aa h2 d3

def d_impl_VolumeOf_L1_B (fu:Nat)  (Ad:(List Item)) (k1:Int → Int → Option (Int)) (Ac:Int) (Ab:Int):Option (Int) :=
  bif (decide (Ab < ((Ad.length:Int)))) then obind (ix Ad Ab) fun Aa=>obind (d_impl_Volume fu Aa.fW Aa.fH Aa.fD) fun Ae=>k1 (w64 (Ac + Ae)) (w64 (Ab + 1)) else some (Ac)
def d_impl_VolumeOf_L1 (fu:Nat)  (Aa:(List Item)):Nat → Int → Int → Option (Int)
  | 0=>fun _ _=>none
  | n + 1=>d_impl_VolumeOf_L1_B fu Aa (d_impl_VolumeOf_L1 fu Aa n)

def d_impl_VolumeOf (fu:Nat) (r1:Request) (Ab:List Int):Option (Int) :=
  obind (d_impl_itemsOf fu r1 Ab) fun Aa=>d_impl_VolumeOf_L1 fu Aa fu 0 0

def d_impl_GramOf_L1_B (fu:Nat)  (Ab:(List Item)) (k1:Int → Int → Option (Int)) (Ac:Int) (Aa:Int):Option (Int) :=
  bif (decide (Aa < ((Ab.length:Int)))) then obind (ix Ab Aa) fun Ad=>k1 (w64 (Ac + Ad.fGram)) (w64 (Aa + 1)) else some (Ac)
def d_impl_GramOf_L1 (fu:Nat)  (Aa:(List Item)):Nat → Int → Int → Option (Int)
  | 0=>fun _ _=>none
  | n + 1=>d_impl_GramOf_L1_B fu Aa (d_impl_GramOf_L1 fu Aa n)

def d_impl_GramOf (fu:Nat) (r1:Request) (Ab:List Int):Option (Int) :=
  obind (d_impl_itemsOf fu r1 Ab) fun Aa=>d_impl_GramOf_L1 fu Aa fu 0 0

def d_impl_within (fu:Nat) (r1:Request) (Aa:List Int) (t9:Typ):Option (Bool) :=
  obind (d_impl_VolumeOf fu r1 Aa) fun Ad=>obind (d_impl_Volume fu t9.fW t9.fH t9.fD) fun Ab=>bif (decide (Ad ≤ Ab)) then obind (d_impl_GramOf fu r1 Aa) fun Ac=>some (decide (Ac ≤ t9.fGram)) else some (false)

def d_impl_Room (fu:Nat) (r1:Request) (Ac:List Int) (u9:Int):Option (Bool) :=
  obind (d_impl_MasterOf fu r1) fun Ab=>obind (d_impl_sound fu r1) fun Af=>bif Af then obind (d_slices_Clone_int_int fu Ac) fun Aa=>obind (apnd 8 Aa (([u9]:List Int))) fun Ae=>obind (d_impl_within fu r1 Ae Ab.1) fun Ad=>some (Ad) else some (false)

def d_impl_NextFit_J1 (fu:Nat) (k3:List (List Int) → Int → Option ((List (List Int)))) (Ab:Int) (Aa:List (List Int)):Option ((List (List Int))) :=
  k3 Aa (w64 (Ab + 1))

def d_impl_NextFit_L1_B (fu:Nat)  (r1:Request) (Ad:(List Int)) (k3:List (List Int) → Int → Option ((List (List Int)))) (Aa:List (List Int)) (Ab:Int):Option ((List (List Int))) :=
  bif (decide (Ab < ((Ad.length:Int)))) then obind (ix Ad Ab) fun Ac=>bif (decide ((w64 (((Aa.length:Int)) - 1)) ≥ 0)) then obind (ix Aa (w64 (((Aa.length:Int)) - 1))) fun Ae=>obind (d_impl_Room fu r1 Ae Ac) fun Ai=>bif Ai then obind (ix Aa (w64 (((Aa.length:Int)) - 1))) fun Ak=>obind (apnd 8 Ae (([Ac]:List Int))) fun Ag=>obind (ix Aa (w64 (((Aa.length:Int)) - 1))) fun Aj=>d_impl_NextFit_J1 fu k3 Ab (setx Aa (w64 (((Aa.length:Int)) - 1)) Ag) else obind (apnd 24 Aa [([Ac]:List Int)]) fun Ah=>d_impl_NextFit_J1 fu k3 Ab Ah else obind (apnd 24 Aa [([Ac]:List Int)]) fun Af=>d_impl_NextFit_J1 fu k3 Ab Af else some (Aa)
def d_impl_NextFit_L1 (fu:Nat)  (r1:Request) (Aa:(List Int)):Nat → List (List Int) → Int → Option ((List (List Int)))
  | 0=>fun _ _=>none
  | n + 1=>d_impl_NextFit_L1_B fu r1 Aa (d_impl_NextFit_L1 fu r1 Aa n)

def d_impl_NextFit (fu:Nat) (r1:Request) (Aa:List Int):Option ((List (List Int))) :=
  obind (d_impl_thereOf fu r1 Aa) fun Ab=>d_impl_NextFit_L1 fu r1 Ab fu (([]:List (List Int))) 0

def d_impl_places_L1_B (fu:Nat)  (n1:Int) (k1:List Int → Int → Option ((List Int))) (Ab:List Int) (Aa:Int):Option ((List Int)) :=
  bif (decide (Aa < n1)) then obind (apnd 8 Ab (([Aa]:List Int))) fun Ac=>k1 Ac (w64 (Aa + 1)) else some (Ab)
def d_impl_places_L1 (fu:Nat)  (n1:Int):Nat → List Int → Int → Option ((List Int))
  | 0=>fun _ _=>none
  | n + 1=>d_impl_places_L1_B fu n1 (d_impl_places_L1 fu n1 n)

def d_impl_places (fu:Nat) (n1:Int):Option ((List Int)) :=
  d_impl_places_L1 fu n1 fu (([]:List Int)) 0

def d_impl_compare (fu:Nat) (a1:Int) (b2:Int):Option (Int) :=
  bif (decide (a1 < b2)) then some ((-1)) else bif (decide (a1 > b2)) then some (1) else some (0)

def d_impl_SortDown_1 (fu:Nat) (i1:Int) (j2:Int) (x3:List Int):Option (Int) :=
  obind (ix x3 j2) fun Ab=>obind (ix x3 i1) fun Ac=>obind (d_impl_compare fu Ab Ac) fun Aa=>some (Aa)

def d_slices_insertionSortCmpFunc_int_J1 (fu:Nat) (Ae:List Int → Int → Option ((List Int))) (Ab:List Int) (Aa:Int)  : Option ((List Int)) :=
  obind (ix Ab (w64 (Aa - 1))) fun Ac=>obind (ix Ab Aa) fun Ad=>obind (ix Ab Aa) fun Af=>obind (ix (setx Ab Aa Ac) (w64 (Aa - 1))) fun Ag=>Ae (setx (setx Ab Aa Ac) (w64 (Aa - 1)) Ad) (w64 (Aa - 1))

def d_slices_insertionSortCmpFunc_int_L1_B (fu:Nat) (k9:List Int → Int → Option ((List Int))) (a5:Int) (f7:Int → Int → Option Int) (Ac:Int) (Ae:List Int → Int → Option ((List Int))) (Aa:List Int) (Ab:Int):Option ((List Int)) :=
  bif (decide (Ab > a5)) then obind (ix Aa Ab) fun Ag=>obind (ix Aa (w64 (Ab - 1))) fun Af=>obind (f7 Ag Af) fun Ad=>bif (decide (Ad < 0)) then d_slices_insertionSortCmpFunc_int_J1 fu Ae Aa Ab else k9 Aa (w64 (Ac + 1)) else k9 Aa (w64 (Ac + 1))
def d_slices_insertionSortCmpFunc_int_L1 (fu:Nat) (k9:List Int → Int → Option ((List Int))) (a5:Int) (f7:Int → Int → Option Int) (Aa:Int):Nat → List Int → Int → Option ((List Int))
  | 0=>fun _ _=>none
  | n + 1=>d_slices_insertionSortCmpFunc_int_L1_B fu k9 a5 f7 Aa (d_slices_insertionSortCmpFunc_int_L1 fu k9 a5 f7 Aa n)

def d_slices_insertionSortCmpFunc_int_L2_B (fu:Nat)  (a5:Int) (b6:Int) (f7:Int → Int → Option Int) (k9:List Int → Int → Option ((List Int))) (Ab:List Int) (Aa:Int):Option ((List Int)) :=
  bif (decide (Aa < b6)) then d_slices_insertionSortCmpFunc_int_L1 fu k9 a5 f7 Aa fu Ab Aa else some (Ab)
def d_slices_insertionSortCmpFunc_int_L2 (fu:Nat)  (a5:Int) (b6:Int) (f7:Int → Int → Option Int):Nat → List Int → Int → Option ((List Int))
  | 0=>fun _ _=>none
  | n + 1=>d_slices_insertionSortCmpFunc_int_L2_B fu a5 b6 f7 (d_slices_insertionSortCmpFunc_int_L2 fu a5 b6 f7 n)

def d_slices_insertionSortCmpFunc_int (fu:Nat) (Aa:List Int) (a5:Int) (b6:Int) (f7:Int → Int → Option Int):Option ((List Int)) :=
  d_slices_insertionSortCmpFunc_int_L2 fu a5 b6 f7 fu Aa (w64 (a5 + 1))

def d_slices_symMergeCmpFunc_int (fu:Nat) (x0:List Int) (x1:Int) (x2:Int) (x3:Int) (x4:Int → Int → Option Int):Option ((List Int)):=none

def d_slices_stableCmpFunc_int_J1 (fu:Nat) (k6:List Int → Int → Option ((List Int))) (Ab:Int) (Aa:List Int):Option ((List Int)) :=
  k6 Aa (w64 (Ab * 2))

def d_slices_stableCmpFunc_int_L1_B (fu:Nat) (k6:List Int → Int → Option ((List Int))) (n5:Int) (f6:Int → Int → Option Int) (Aa:Int) (k7:List Int → Int → Int → Option ((List Int))) (Ad:List Int) (Ab:Int) (Ac:Int):Option ((List Int)) :=
  bif (decide (Ac ≤ n5)) then obind (d_slices_symMergeCmpFunc_int fu Ad Ab (w64 (Ab + Aa)) Ac f6) fun Af=>k7 Af Ac (w64 (Ac + (w64 (2 * Aa)))) else bif (decide ((w64 (Ab + Aa)) < n5)) then obind (d_slices_symMergeCmpFunc_int fu Ad Ab (w64 (Ab + Aa)) n5 f6) fun Ae=>d_slices_stableCmpFunc_int_J1 fu k6 Aa Ae else d_slices_stableCmpFunc_int_J1 fu k6 Aa Ad
def d_slices_stableCmpFunc_int_L1 (fu:Nat) (k6:List Int → Int → Option ((List Int))) (n5:Int) (f6:Int → Int → Option Int) (Aa:Int):Nat → List Int → Int → Int → Option ((List Int))
  | 0=>fun _ _ _=>none
  | n + 1=>d_slices_stableCmpFunc_int_L1_B fu k6 n5 f6 Aa (d_slices_stableCmpFunc_int_L1 fu k6 n5 f6 Aa n)

def d_slices_stableCmpFunc_int_L2_B (fu:Nat)  (n5:Int) (f6:Int → Int → Option Int) (k6:List Int → Int → Option ((List Int))) (Ab:List Int) (Aa:Int):Option ((List Int)) :=
  bif (decide (Aa < n5)) then d_slices_stableCmpFunc_int_L1 fu k6 n5 f6 Aa fu Ab 0 (w64 (2 * Aa)) else some (Ab)
def d_slices_stableCmpFunc_int_L2 (fu:Nat)  (n5:Int) (f6:Int → Int → Option Int):Nat → List Int → Int → Option ((List Int))
  | 0=>fun _ _=>none
  | n + 1=>d_slices_stableCmpFunc_int_L2_B fu n5 f6 (d_slices_stableCmpFunc_int_L2 fu n5 f6 n)

def d_slices_stableCmpFunc_int_L3_B (fu:Nat)  (n5:Int) (f6:Int → Int → Option Int) (k1:List Int → Int → Int → Option ((List Int))) (Ac:List Int) (Ab:Int) (Aa:Int):Option ((List Int)) :=
  bif (decide (Aa ≤ n5)) then obind (d_slices_insertionSortCmpFunc_int fu Ac Ab Aa f6) fun Ad=>k1 Ad Aa (w64 (Aa + 20)) else obind (d_slices_insertionSortCmpFunc_int fu Ac Ab n5 f6) fun Ae=>d_slices_stableCmpFunc_int_L2 fu n5 f6 fu Ae 20
def d_slices_stableCmpFunc_int_L3 (fu:Nat)  (n5:Int) (f6:Int → Int → Option Int):Nat → List Int → Int → Int → Option ((List Int))
  | 0=>fun _ _ _=>none
  | n + 1=>d_slices_stableCmpFunc_int_L3_B fu n5 f6 (d_slices_stableCmpFunc_int_L3 fu n5 f6 n)

def d_slices_stableCmpFunc_int (fu:Nat) (Aa:List Int) (n5:Int) (f6:Int → Int → Option Int):Option ((List Int)) :=
  d_slices_stableCmpFunc_int_L3 fu n5 f6 fu Aa 0 20

def d_slices_SortStableFunc_int_int (fu:Nat) (x1:List Int) (f5:Int → Int → Option Int):Option ((List Int)) :=
  obind (d_slices_stableCmpFunc_int fu x1 ((x1.length:Int)) f5) fun Aa=>some (Aa)

def d_impl_SortDown (fu:Nat) (Aa:List Int):Option ((List Int)) :=
  obind (d_impl_places fu ((Aa.length:Int))) fun x8=>obind (d_slices_SortStableFunc_int_int fu x8 (fun Ad Ab=>d_impl_SortDown_1 fu Ad Ab Aa)) fun Ac=>some (Ac)

def d_impl_FirstFit_1 (fu:Nat) (l1:List Int) (x5:Request) (Aa:Int):Option (Bool) :=
  obind (d_impl_Room fu x5 l1 Aa) fun Ab=>some (Ab)

def d_impl_FirstFit_J1 (fu:Nat) (k4:List (List Int) → Int → Option ((List (List Int)))) (Ab:Int) (Aa:List (List Int)):Option ((List (List Int))) :=
  k4 Aa (w64 (Ab + 1))

def d_impl_FirstFit_L1_B (fu:Nat)  (r1:Request) (Af:(List Int)) (Ae:(List Int)) (k4:List (List Int) → Int → Option ((List (List Int)))) (Aa:List (List Int)) (Ab:Int):Option ((List (List Int))) :=
  bif (decide (Ab < ((Ae.length:Int)))) then obind (ix Ae Ab) fun Ah=>obind (ix Af Ah) fun Ad=>obind (d_slices_IndexFunc_ints_int fu Aa (fun Ak=>d_impl_FirstFit_1 fu Ak r1 Ad)) fun Ac=>bif (decide (Ac < 0)) then obind (apnd 24 Aa [([Ad]:List Int)]) fun Ag=>d_impl_FirstFit_J1 fu k4 Ab Ag else obind (ix Aa Ac) fun Ai=>obind (apnd 8 Ai (([Ad]:List Int))) fun Aj=>obind (ix Aa Ac) fun Al=>d_impl_FirstFit_J1 fu k4 Ab (setx Aa Ac Aj) else some (Aa)
def d_impl_FirstFit_L1 (fu:Nat)  (r1:Request) (Ab:(List Int)) (Aa:(List Int)):Nat → List (List Int) → Int → Option ((List (List Int)))
  | 0=>fun _ _=>none
  | n + 1=>d_impl_FirstFit_L1_B fu r1 Ab Aa (d_impl_FirstFit_L1 fu r1 Ab Aa n)

def d_impl_FirstFit_L2_B (fu:Nat)  (r1:Request) (Aa:(List Int)) (k1:List Int → Int → Option ((List (List Int)))) (Ac:List Int) (Ab:Int):Option ((List (List Int))) :=
  bif (decide (Ab < ((Aa.length:Int)))) then obind (ix Aa Ab) fun Ae=>obind (d_impl_VolumeOf fu r1 (([Ae]:List Int))) fun Af=>obind (apnd 8 Ac (([Af]:List Int))) fun Ad=>k1 Ad (w64 (Ab + 1)) else obind (d_impl_SortDown fu Ac) fun Ag=>d_impl_FirstFit_L1 fu r1 Aa Ag fu (([]:List (List Int))) 0
def d_impl_FirstFit_L2 (fu:Nat)  (r1:Request) (Aa:(List Int)):Nat → List Int → Int → Option ((List (List Int)))
  | 0=>fun _ _=>none
  | n + 1=>d_impl_FirstFit_L2_B fu r1 Aa (d_impl_FirstFit_L2 fu r1 Aa n)

def d_impl_FirstFit (fu:Nat) (r1:Request) (Ab:List Int):Option ((List (List Int))) :=
  obind (d_impl_thereOf fu r1 Ab) fun Aa=>d_impl_FirstFit_L2 fu r1 Aa fu (([]:List Int)) 0

def d_impl_PackWay (fu:Nat) (r1:Request) (Aa:List Int):Option ((List (List Int))) :=
  bif (r1.fWay == 1) then obind (d_impl_NextFit fu r1 Aa) fun Ac=>some (Ac) else obind (d_impl_FirstFit fu r1 Aa) fun Ab=>some (Ab)

def d_impl_Holds_1 (fu:Nat) (x1:Item) (x2:Typ):Option (Bool) :=
  obind (d_impl_Fits fu x1 x2) fun x8=>some (!x8)

def d_impl_Holds_J1 (fu:Nat) (r1:Request) (Aa:List Int) (t9:Typ)  : Option (Bool) :=
  obind (d_impl_itemsOf fu r1 Aa) fun Ac=>obind (d_slices_ContainsFunc_impl_Item_impl_Item fu Ac (fun Ae=>d_impl_Holds_1 fu Ae t9)) fun Ad=>bif (!Ad) then obind (d_impl_within fu r1 Aa t9) fun Ab=>some (Ab) else some (false)

def d_impl_Holds (fu:Nat) (r1:Request) (Aa:List Int) (t9:Typ):Option (Bool) :=
  obind (d_impl_sound fu r1) fun Ac=>bif (!Ac) then some (false) else obind (d_impl_thereOf fu r1 Aa) fun Ab=>bif (((Ab.length:Int)) != ((Aa.length:Int))) then some (false) else d_impl_Holds_J1 fu r1 Aa t9

def d_impl_Cheapest_J1 (fu:Nat) (k3:Typ → Bool → Int → Option (Typ × Bool)) (Aa:Int) (Ab:Typ) (Ac:Bool):Option (Typ × Bool) :=
  k3 Ab Ac (w64 (Aa + 1))

def d_impl_Cheapest_L1_B (fu:Nat)  (r1:Request) (Ae:List Int) (k3:Typ → Bool → Int → Option (Typ × Bool)) (Ab:Typ) (Ad:Bool) (Aa:Int):Option (Typ × Bool) :=
  bif (decide (Aa < ((r1.fTypes.length:Int)))) then obind (ix r1.fTypes Aa) fun Ac=>obind (d_impl_Holds fu r1 Ae Ac) fun Af=>bif (!Af) then d_impl_Cheapest_J1 fu k3 Aa Ab Ad else bif (!Ad) then d_impl_Cheapest_J1 fu k3 Aa Ac true else bif (decide (Ac.fCost < Ab.fCost)) then d_impl_Cheapest_J1 fu k3 Aa Ac true else bif (Ac.fCost == Ab.fCost) then bif (decide (Ac.fId < Ab.fId)) then d_impl_Cheapest_J1 fu k3 Aa Ac true else d_impl_Cheapest_J1 fu k3 Aa Ab Ad else d_impl_Cheapest_J1 fu k3 Aa Ab Ad else some (Ab,Ad)
def d_impl_Cheapest_L1 (fu:Nat)  (r1:Request) (Aa:List Int):Nat → Typ → Bool → Int → Option (Typ × Bool)
  | 0=>fun _ _ _=>none
  | n + 1=>d_impl_Cheapest_L1_B fu r1 Aa (d_impl_Cheapest_L1 fu r1 Aa n)

def d_impl_Cheapest (fu:Nat) (r1:Request) (Aa:List Int):Option (Typ × Bool) :=
  d_impl_Cheapest_L1 fu r1 Aa fu ((⟨0,0,0,0,0,0,0⟩:Typ)) false 0

def d_impl_CartonsOf_L1_B (fu:Nat) (k3:List Carton → Int → Option ((List Carton))) (r1:Request) (Ad:Int) (Ab:(List (List Int))) (k4:List Carton → Int → Option ((List Carton))) (Ae:List Carton) (Aa:Int):Option ((List Carton)) :=
  bif (decide (Aa < ((Ab.length:Int)))) then obind (ix Ab Aa) fun Ac=>obind (d_impl_Cheapest fu r1 Ac) fun Af=>obind (d_slices_Sort_int_int fu Ac) fun Ag=>obind (apnd 40 Ae [(⟨Af.1.fId,Ad,Ag⟩:Carton)]) fun Ah=>k4 Ah (w64 (Aa + 1)) else k3 Ae (w64 (Ad + 1))
def d_impl_CartonsOf_L1 (fu:Nat) (k3:List Carton → Int → Option ((List Carton))) (r1:Request) (Aa:Int) (Ab:(List (List Int))):Nat → List Carton → Int → Option ((List Carton))
  | 0=>fun _ _=>none
  | n + 1=>d_impl_CartonsOf_L1_B fu k3 r1 Aa Ab (d_impl_CartonsOf_L1 fu k3 r1 Aa Ab n)

def d_impl_CartonsOf_L2_B (fu:Nat)  (r1:Request) (Ad:(List (List Int))) (k3:List Carton → Int → Option ((List Carton))) (Ab:List Carton) (Aa:Int):Option ((List Carton)) :=
  bif (decide (Aa < ((Ad.length:Int)))) then obind (d_impl_UnitsOf fu r1 Aa) fun Ac=>obind (d_impl_PackWay fu r1 Ac) fun Ae=>d_impl_CartonsOf_L1 fu k3 r1 Aa Ae fu Ab 0 else some (Ab)
def d_impl_CartonsOf_L2 (fu:Nat)  (r1:Request) (Aa:(List (List Int))):Nat → List Carton → Int → Option ((List Carton))
  | 0=>fun _ _=>none
  | n + 1=>d_impl_CartonsOf_L2_B fu r1 Aa (d_impl_CartonsOf_L2 fu r1 Aa n)

def d_impl_CartonsOf (fu:Nat) (r1:Request):Option ((List Carton)) :=
  obind (d_impl_GroupsOf fu r1) fun Aa=>d_impl_CartonsOf_L2 fu r1 Aa fu (([]:List Carton)) 0

def d_impl_Gross_J1 (fu:Nat) (r1:Request) (x5:Carton) (Ab:Typ × Bool)  : Option (Int) :=
  obind (d_impl_GramOf fu r1 x5.fUnits) fun Aa=>some (w64 (Ab.1.fTare + Aa))

def d_impl_Gross (fu:Nat) (r1:Request) (x5:Carton):Option (Int) :=
  obind (d_impl_TypeById fu r1 x5.fType) fun Aa=>bif (!Aa.2) then some (0) else obind (d_impl_sound fu r1) fun Ab=>bif (!Ab) then some (0) else d_impl_Gross_J1 fu r1 x5 Aa

def d_impl_BoxOf_J1 (fu:Nat) (r1:Request) (x5:Carton) (Aa:Typ × Bool)  : Option (Box) :=
  obind (d_impl_Gross fu r1 x5) fun Ab=>some ((⟨Aa.1.fW,Aa.1.fD,Aa.1.fH,Ab⟩:Box))

def d_impl_BoxOf (fu:Nat) (r1:Request) (x5:Carton):Option (Box) :=
  obind (d_impl_TypeById fu r1 x5.fType) fun Aa=>bif (!Aa.2) then some ((⟨0,0,0,0⟩:Box)) else obind (d_impl_sound fu r1) fun Ab=>bif (!Ab) then some ((⟨0,0,0,0⟩:Box)) else d_impl_BoxOf_J1 fu r1 x5 Aa

def d_impl_BoxesOk_1 (fu:Nat) (b1:Box) (x2:Pallet):Option (Bool) :=
  obind (d_impl_in fu b1.fW 1 x2.fW) fun x8=>bif (!x8) then some (true) else obind (d_impl_in fu b1.fD 1 x2.fD) fun Ac=>bif (!Ac) then some (true) else obind (d_impl_in fu b1.fH 1 x2.fH) fun Aa=>bif (!Aa) then some (true) else obind (d_impl_in fu b1.fGram 1 x2.fGram) fun Ab=>some (!Ab)

def d_slices_IndexFunc_impl_Box_impl_Box_L1_B (fu:Nat)  (Ab:List Box) (f5:Box → Option Bool) (k1:Int → Option (Int)) (Aa:Int):Option (Int) :=
  bif (decide (Aa < ((Ab.length:Int)))) then obind (ix Ab Aa) fun Ad=>obind (f5 Ad) fun Ac=>bif Ac then some (Aa) else k1 (w64 (Aa + 1)) else some ((-1))
def d_slices_IndexFunc_impl_Box_impl_Box_L1 (fu:Nat)  (Aa:List Box) (f5:Box → Option Bool):Nat → Int → Option (Int)
  | 0=>fun _=>none
  | n + 1=>d_slices_IndexFunc_impl_Box_impl_Box_L1_B fu Aa f5 (d_slices_IndexFunc_impl_Box_impl_Box_L1 fu Aa f5 n)

def d_slices_IndexFunc_impl_Box_impl_Box (fu:Nat) (Aa:List Box) (f5:Box → Option Bool):Option (Int) :=
  d_slices_IndexFunc_impl_Box_impl_Box_L1 fu Aa f5 fu 0

def d_slices_ContainsFunc_impl_Box_impl_Box (fu:Nat) (Aa:List Box) (f5:Box → Option Bool):Option (Bool) :=
  obind (d_slices_IndexFunc_impl_Box_impl_Box fu Aa f5) fun Ab=>some (decide (Ab ≥ 0))

def d_impl_BoxesOk (fu:Nat) (p1:Pallet) (Aa:List Box):Option (Bool) :=
  obind (d_impl_PalletOk fu p1) fun Ac=>bif Ac then obind (d_slices_ContainsFunc_impl_Box_impl_Box fu Aa (fun Ad=>d_impl_BoxesOk_1 fu Ad p1)) fun Ab=>some (!Ab) else some (false)

def d_impl_Shelves_J1 (fu:Nat) (k8:List Shelf → Int → Option ((List Shelf))) (Ab:Int) (Aa:List Shelf):Option ((List Shelf)) :=
  k8 Aa (w64 (Ab + 1))

def d_impl_Shelves_J2 (fu:Nat) (k8:List Shelf → Int → Option ((List Shelf))) (Ak:Int) (Aj:Int) (Ac:Box) (Ag:List Shelf) (Ad:Int):Option ((List Shelf)) :=
  obind (ix Ag Ad) fun Ab=>obind (apnd 8 Ab.fList (([Aj]:List Int))) fun Ae=>obind (some ((⟨((⟨Ae,Ab.fW,Ab.fD,Ab.fH,Ab.fGram⟩:Shelf)).fList,w64 ((((⟨Ae,Ab.fW,Ab.fD,Ab.fH,Ab.fGram⟩:Shelf)).fW) + Ac.fW),((⟨Ae,Ab.fW,Ab.fD,Ab.fH,Ab.fGram⟩:Shelf)).fD,((⟨Ae,Ab.fW,Ab.fD,Ab.fH,Ab.fGram⟩:Shelf)).fH,((⟨Ae,Ab.fW,Ab.fD,Ab.fH,Ab.fGram⟩:Shelf)).fGram⟩:Shelf))) fun Aa=>obind (some (setx (setx Ag Ad ((⟨Ae,Ab.fW,Ab.fD,Ab.fH,Ab.fGram⟩:Shelf))) Ad Aa)) fun Ah=>obind (some ((⟨((⟨Aa.fList,Aa.fW,if Ac.fD > Aa.fD then Ac.fD else Aa.fD,Aa.fH,Aa.fGram⟩:Shelf)).fList,((⟨Aa.fList,Aa.fW,if Ac.fD > Aa.fD then Ac.fD else Aa.fD,Aa.fH,Aa.fGram⟩:Shelf)).fW,((⟨Aa.fList,Aa.fW,if Ac.fD > Aa.fD then Ac.fD else Aa.fD,Aa.fH,Aa.fGram⟩:Shelf)).fD,if Ac.fH > (((⟨Aa.fList,Aa.fW,if Ac.fD > Aa.fD then Ac.fD else Aa.fD,Aa.fH,Aa.fGram⟩:Shelf)).fH) then Ac.fH else ((⟨Aa.fList,Aa.fW,if Ac.fD > Aa.fD then Ac.fD else Aa.fD,Aa.fH,Aa.fGram⟩:Shelf)).fH,((⟨Aa.fList,Aa.fW,if Ac.fD > Aa.fD then Ac.fD else Aa.fD,Aa.fH,Aa.fGram⟩:Shelf)).fGram⟩:Shelf))) fun Af=>obind (some (setx (setx Ah Ad ((⟨Aa.fList,Aa.fW,if Ac.fD > Aa.fD then Ac.fD else Aa.fD,Aa.fH,Aa.fGram⟩:Shelf))) Ad Af)) fun Ai=>d_impl_Shelves_J1 fu k8 Ak (setx Ai Ad ((⟨Af.fList,Af.fW,Af.fD,Af.fH,w64 (Af.fGram + Ac.fGram)⟩:Shelf)))

def d_impl_Shelves_L1_B (fu:Nat)  (p1:Pallet) (Ah:List Box) (Ae:(List Int)) (k8:List Shelf → Int → Option ((List Shelf))) (Aa:List Shelf) (Ac:Int):Option ((List Shelf)) :=
  bif (decide (Ac < ((Ae.length:Int)))) then obind (ix Ae Ac) fun Ad=>obind (ix Ah Ad) fun Ab=>bif (decide ((w64 (((Aa.length:Int)) - 1)) < 0)) then obind (apnd 56 Aa [(⟨[],0,0,0,0⟩:Shelf)]) fun Aj=>d_impl_Shelves_J2 fu k8 Ac Ad Ab Aj (w64 ((w64 (((Aa.length:Int)) - 1)) + 1)) else obind (ix Aa (w64 (((Aa.length:Int)) - 1))) fun Af=>bif (decide ((w64 (Af.fW + Ab.fW)) > p1.fW)) then obind (apnd 56 Aa [(⟨[],0,0,0,0⟩:Shelf)]) fun Ai=>d_impl_Shelves_J2 fu k8 Ac Ad Ab Ai (w64 ((w64 (((Aa.length:Int)) - 1)) + 1)) else obind (ix Aa (w64 (((Aa.length:Int)) - 1))) fun Ak=>bif (decide ((w64 (Af.fGram + Ab.fGram)) > p1.fGram)) then obind (apnd 56 Aa [(⟨[],0,0,0,0⟩:Shelf)]) fun Ag=>d_impl_Shelves_J2 fu k8 Ac Ad Ab Ag (w64 ((w64 (((Aa.length:Int)) - 1)) + 1)) else d_impl_Shelves_J2 fu k8 Ac Ad Ab Aa (w64 (((Aa.length:Int)) - 1)) else some (Aa)
def d_impl_Shelves_L1 (fu:Nat)  (p1:Pallet) (Ab:List Box) (Aa:(List Int)):Nat → List Shelf → Int → Option ((List Shelf))
  | 0=>fun _ _=>none
  | n + 1=>d_impl_Shelves_L1_B fu p1 Ab Aa (d_impl_Shelves_L1 fu p1 Ab Aa n)

def d_impl_Shelves_L2_B (fu:Nat)  (p1:Pallet) (Ab:List Box) (k1:List Int → Int → Option ((List Shelf))) (Ac:List Int) (Aa:Int):Option ((List Shelf)) :=
  bif (decide (Aa < ((Ab.length:Int)))) then obind (ix Ab Aa) fun Ae=>obind (apnd 8 Ac (([Ae.fD]:List Int))) fun Af=>k1 Af (w64 (Aa + 1)) else obind (d_impl_SortDown fu Ac) fun Ad=>d_impl_Shelves_L1 fu p1 Ab Ad fu (([]:List Shelf)) 0
def d_impl_Shelves_L2 (fu:Nat)  (p1:Pallet) (Aa:List Box):Nat → List Int → Int → Option ((List Shelf))
  | 0=>fun _ _=>none
  | n + 1=>d_impl_Shelves_L2_B fu p1 Aa (d_impl_Shelves_L2 fu p1 Aa n)

def d_impl_Shelves (fu:Nat) (p1:Pallet) (Aa:List Box):Option ((List Shelf)) :=
  obind (d_impl_BoxesOk fu p1 Aa) fun Ab=>bif (!Ab) then some (([]:List Shelf)) else d_impl_Shelves_L2 fu p1 Aa fu (([]:List Int)) 0

def d_impl_ShelvesOk_1 (fu:Nat) (Aa:Shelf) (x5:Pallet):Option (Bool) :=
  obind (d_impl_in fu Aa.fD 1 x5.fD) fun Ad=>bif (!Ad) then some (true) else obind (d_impl_in fu Aa.fH 1 x5.fH) fun Ab=>bif (!Ab) then some (true) else obind (d_impl_in fu Aa.fGram 1 x5.fGram) fun Ac=>some (!Ac)

def d_slices_IndexFunc_impl_Shelf_impl_Shelf_L1_B (fu:Nat)  (Ab:List Shelf) (f5:Shelf → Option Bool) (k1:Int → Option (Int)) (Aa:Int):Option (Int) :=
  bif (decide (Aa < ((Ab.length:Int)))) then obind (ix Ab Aa) fun Ad=>obind (f5 Ad) fun Ac=>bif Ac then some (Aa) else k1 (w64 (Aa + 1)) else some ((-1))
def d_slices_IndexFunc_impl_Shelf_impl_Shelf_L1 (fu:Nat)  (Aa:List Shelf) (f5:Shelf → Option Bool):Nat → Int → Option (Int)
  | 0=>fun _=>none
  | n + 1=>d_slices_IndexFunc_impl_Shelf_impl_Shelf_L1_B fu Aa f5 (d_slices_IndexFunc_impl_Shelf_impl_Shelf_L1 fu Aa f5 n)

def d_slices_IndexFunc_impl_Shelf_impl_Shelf (fu:Nat) (Aa:List Shelf) (f5:Shelf → Option Bool):Option (Int) :=
  d_slices_IndexFunc_impl_Shelf_impl_Shelf_L1 fu Aa f5 fu 0

def d_slices_ContainsFunc_impl_Shelf_impl_Shelf (fu:Nat) (Aa:List Shelf) (f5:Shelf → Option Bool):Option (Bool) :=
  obind (d_slices_IndexFunc_impl_Shelf_impl_Shelf fu Aa f5) fun Ab=>some (decide (Ab ≥ 0))

def d_impl_ShelvesOk (fu:Nat) (p1:Pallet) (Aa:List Shelf):Option (Bool) :=
  obind (d_impl_PalletOk fu p1) fun Ac=>bif Ac then obind (d_slices_ContainsFunc_impl_Shelf_impl_Shelf fu Aa (fun Ad=>d_impl_ShelvesOk_1 fu Ad p1)) fun Ab=>some (!Ab) else some (false)

def d_impl_LayersOf_J1 (fu:Nat) (k7:List Layer → Int → Option ((List Layer))) (Ab:Int) (Aa:List Layer):Option ((List Layer)) :=
  k7 Aa (w64 (Ab + 1))

def d_impl_LayersOf_J2 (fu:Nat) (k7:List Layer → Int → Option ((List Layer))) (Af:Int) (Ac:Shelf) (Ag:List Layer) (Ad:Int):Option ((List Layer)) :=
  obind (ix Ag Ad) fun Ab=>obind (apnd 8 Ab.fShelves (([Af]:List Int))) fun Ae=>obind (some ((⟨((⟨Ae,Ab.fD,Ab.fH,Ab.fGram⟩:Layer)).fShelves,w64 ((((⟨Ae,Ab.fD,Ab.fH,Ab.fGram⟩:Layer)).fD) + Ac.fD),((⟨Ae,Ab.fD,Ab.fH,Ab.fGram⟩:Layer)).fH,((⟨Ae,Ab.fD,Ab.fH,Ab.fGram⟩:Layer)).fGram⟩:Layer))) fun Aa=>obind (some (setx (setx Ag Ad ((⟨Ae,Ab.fD,Ab.fH,Ab.fGram⟩:Layer))) Ad Aa)) fun Ah=>obind (some ((⟨((⟨Aa.fShelves,Aa.fD,if Ac.fH > Aa.fH then Ac.fH else Aa.fH,Aa.fGram⟩:Layer)).fShelves,((⟨Aa.fShelves,Aa.fD,if Ac.fH > Aa.fH then Ac.fH else Aa.fH,Aa.fGram⟩:Layer)).fD,((⟨Aa.fShelves,Aa.fD,if Ac.fH > Aa.fH then Ac.fH else Aa.fH,Aa.fGram⟩:Layer)).fH,w64 ((((⟨Aa.fShelves,Aa.fD,if Ac.fH > Aa.fH then Ac.fH else Aa.fH,Aa.fGram⟩:Layer)).fGram) + Ac.fGram)⟩:Layer))) fun Aj=>obind (some (setx (setx Ah Ad ((⟨Aa.fShelves,Aa.fD,if Ac.fH > Aa.fH then Ac.fH else Aa.fH,Aa.fGram⟩:Layer))) Ad Aj)) fun Ai=>d_impl_LayersOf_J1 fu k7 Af Ai

def d_impl_LayersOf_L1_B (fu:Nat)  (p1:Pallet) (Ae:List Shelf) (k7:List Layer → Int → Option ((List Layer))) (Aa:List Layer) (Ac:Int):Option ((List Layer)) :=
  bif (decide (Ac < ((Ae.length:Int)))) then obind (ix Ae Ac) fun Ab=>bif (decide ((w64 (((Aa.length:Int)) - 1)) < 0)) then obind (apnd 48 Aa [(⟨[],0,0,0⟩:Layer)]) fun Af=>d_impl_LayersOf_J2 fu k7 Ac Ab Af (w64 ((w64 (((Aa.length:Int)) - 1)) + 1)) else obind (ix Aa (w64 (((Aa.length:Int)) - 1))) fun Ad=>bif (decide ((w64 (Ad.fD + Ab.fD)) > p1.fD)) then obind (apnd 48 Aa [(⟨[],0,0,0⟩:Layer)]) fun Ag=>d_impl_LayersOf_J2 fu k7 Ac Ab Ag (w64 ((w64 (((Aa.length:Int)) - 1)) + 1)) else obind (ix Aa (w64 (((Aa.length:Int)) - 1))) fun Ai=>bif (decide ((w64 (Ad.fGram + Ab.fGram)) > p1.fGram)) then obind (apnd 48 Aa [(⟨[],0,0,0⟩:Layer)]) fun Ah=>d_impl_LayersOf_J2 fu k7 Ac Ab Ah (w64 ((w64 (((Aa.length:Int)) - 1)) + 1)) else d_impl_LayersOf_J2 fu k7 Ac Ab Aa (w64 (((Aa.length:Int)) - 1)) else some (Aa)
def d_impl_LayersOf_L1 (fu:Nat)  (p1:Pallet) (Aa:List Shelf):Nat → List Layer → Int → Option ((List Layer))
  | 0=>fun _ _=>none
  | n + 1=>d_impl_LayersOf_L1_B fu p1 Aa (d_impl_LayersOf_L1 fu p1 Aa n)

def d_impl_LayersOf (fu:Nat) (p1:Pallet) (Aa:List Shelf):Option ((List Layer)) :=
  obind (d_impl_ShelvesOk fu p1 Aa) fun Ab=>bif (!Ab) then some (([]:List Layer)) else d_impl_LayersOf_L1 fu p1 Aa fu (([]:List Layer)) 0

def d_impl_StacksOk_1 (fu:Nat) (x1:Layer) (x5:Pallet):Option (Bool) :=
  obind (d_impl_in fu x1.fD 1 x5.fD) fun Ac=>bif (!Ac) then some (true) else obind (d_impl_in fu x1.fH 1 x5.fH) fun Aa=>bif (!Aa) then some (true) else obind (d_impl_in fu x1.fGram 1 x5.fGram) fun Ab=>some (!Ab)

def d_slices_IndexFunc_impl_Layer_impl_Layer_L1_B (fu:Nat)  (Ab:List Layer) (f5:Layer → Option Bool) (k1:Int → Option (Int)) (Aa:Int):Option (Int) :=
  bif (decide (Aa < ((Ab.length:Int)))) then obind (ix Ab Aa) fun Ad=>obind (f5 Ad) fun Ac=>bif Ac then some (Aa) else k1 (w64 (Aa + 1)) else some ((-1))
def d_slices_IndexFunc_impl_Layer_impl_Layer_L1 (fu:Nat)  (Aa:List Layer) (f5:Layer → Option Bool):Nat → Int → Option (Int)
  | 0=>fun _=>none
  | n + 1=>d_slices_IndexFunc_impl_Layer_impl_Layer_L1_B fu Aa f5 (d_slices_IndexFunc_impl_Layer_impl_Layer_L1 fu Aa f5 n)

def d_slices_IndexFunc_impl_Layer_impl_Layer (fu:Nat) (Aa:List Layer) (f5:Layer → Option Bool):Option (Int) :=
  d_slices_IndexFunc_impl_Layer_impl_Layer_L1 fu Aa f5 fu 0

def d_slices_ContainsFunc_impl_Layer_impl_Layer (fu:Nat) (Aa:List Layer) (f5:Layer → Option Bool):Option (Bool) :=
  obind (d_slices_IndexFunc_impl_Layer_impl_Layer fu Aa f5) fun Ab=>some (decide (Ab ≥ 0))

def d_impl_StacksOk (fu:Nat) (p1:Pallet) (Aa:List Layer):Option (Bool) :=
  obind (d_impl_PalletOk fu p1) fun Ac=>bif Ac then obind (d_slices_ContainsFunc_impl_Layer_impl_Layer fu Aa (fun Ad=>d_impl_StacksOk_1 fu Ad p1)) fun Ab=>some (!Ab) else some (false)

def d_impl_LoadsOf_J1 (fu:Nat) (k7:List Load → Int → Option ((List Load))) (Aa:Int) (Ab:List Load):Option ((List Load)) :=
  k7 Ab (w64 (Aa + 1))

def d_impl_LoadsOf_J2 (fu:Nat) (k7:List Load → Int → Option ((List Load))) (Ag:Int) (Ae:Layer) (Af:List Load) (Ad:Int):Option ((List Load)) :=
  obind (ix Af Ad) fun Aa=>obind (apnd 8 Aa.fLayers (([Ag]:List Int))) fun Ab=>obind (some ((⟨((⟨Ab,Aa.fH,Aa.fGram⟩:Load)).fLayers,w64 ((((⟨Ab,Aa.fH,Aa.fGram⟩:Load)).fH) + Ae.fH),((⟨Ab,Aa.fH,Aa.fGram⟩:Load)).fGram⟩:Load))) fun Ac=>obind (some (setx (setx Af Ad ((⟨Ab,Aa.fH,Aa.fGram⟩:Load))) Ad Ac)) fun Ah=>d_impl_LoadsOf_J1 fu k7 Ag (setx Ah Ad ((⟨Ac.fLayers,Ac.fH,w64 (Ac.fGram + Ae.fGram)⟩:Load)))

def d_impl_LoadsOf_L1_B (fu:Nat)  (p1:Pallet) (Ae:List Layer) (k7:List Load → Int → Option ((List Load))) (Aa:List Load) (Ac:Int):Option ((List Load)) :=
  bif (decide (Ac < ((Ae.length:Int)))) then obind (ix Ae Ac) fun Ab=>bif (decide ((w64 (((Aa.length:Int)) - 1)) < 0)) then obind (apnd 40 Aa [(⟨[],0,0⟩:Load)]) fun Ag=>d_impl_LoadsOf_J2 fu k7 Ac Ab Ag (w64 ((w64 (((Aa.length:Int)) - 1)) + 1)) else obind (ix Aa (w64 (((Aa.length:Int)) - 1))) fun Ad=>bif (decide ((w64 (Ad.fH + Ab.fH)) > p1.fH)) then obind (apnd 40 Aa [(⟨[],0,0⟩:Load)]) fun Ah=>d_impl_LoadsOf_J2 fu k7 Ac Ab Ah (w64 ((w64 (((Aa.length:Int)) - 1)) + 1)) else obind (ix Aa (w64 (((Aa.length:Int)) - 1))) fun Ai=>bif (decide ((w64 (Ad.fGram + Ab.fGram)) > p1.fGram)) then obind (apnd 40 Aa [(⟨[],0,0⟩:Load)]) fun Af=>d_impl_LoadsOf_J2 fu k7 Ac Ab Af (w64 ((w64 (((Aa.length:Int)) - 1)) + 1)) else d_impl_LoadsOf_J2 fu k7 Ac Ab Aa (w64 (((Aa.length:Int)) - 1)) else some (Aa)
def d_impl_LoadsOf_L1 (fu:Nat)  (p1:Pallet) (Aa:List Layer):Nat → List Load → Int → Option ((List Load))
  | 0=>fun _ _=>none
  | n + 1=>d_impl_LoadsOf_L1_B fu p1 Aa (d_impl_LoadsOf_L1 fu p1 Aa n)

def d_impl_LoadsOf (fu:Nat) (p1:Pallet) (Aa:List Layer):Option ((List Load)) :=
  obind (d_impl_StacksOk fu p1 Aa) fun Ab=>bif (!Ab) then some (([]:List Load)) else d_impl_LoadsOf_L1 fu p1 Aa fu (([]:List Load)) 0

def d_impl_SpotsOf_L1_B (fu:Nat) (Ao:List Spot → Int → Int → Option ((List Spot))) (Ap:List Box) (Ak:(List Shelf)) (Ai:Int) (Aq:Int) (Af:Int) (Ag:Int) (Am:Int) (Ad:Shelf) (Aj:List Spot → Int → Int → Option ((List Spot))) (Aa:List Spot) (Ae:Int) (Ac:Int):Option ((List Spot)) :=
  bif (decide (Ac < ((Ad.fList.length:Int)))) then obind (ix Ad.fList Ac) fun Ab=>obind (ix Aa Ab) fun Ar=>obind (ix Ap Ab) fun Al=>Aj (setx Aa Ab ((⟨Ai,Ae,Af,Aq⟩:Spot))) (w64 (Ae + Al.fW)) (w64 (Ac + 1)) else obind (ix Ak Am) fun Ah=>Ao Aa (w64 (Af + Ah.fD)) (w64 (Ag + 1))
def d_impl_SpotsOf_L1 (fu:Nat) (Ag:List Spot → Int → Int → Option ((List Spot))) (Ah:List Box) (Ad:(List Shelf)) (Ac:Int) (Ai:Int) (Ae:Int) (Aa:Int) (Af:Int) (Ab:Shelf):Nat → List Spot → Int → Int → Option ((List Spot))
  | 0=>fun _ _ _=>none
  | n + 1=>d_impl_SpotsOf_L1_B fu Ag Ah Ad Ac Ai Ae Aa Af Ab (d_impl_SpotsOf_L1 fu Ag Ah Ad Ac Ai Ae Aa Af Ab n)

def d_impl_SpotsOf_L2_B (fu:Nat) (Ag:List Spot → Int → Int → Option ((List Spot))) (Aq:List Box) (Ad:(List Shelf)) (Al:(List Layer)) (Ak:Int) (Ac:Int) (Ai:Int) (Am:Int) (Ae:Layer) (Ap:List Spot → Int → Int → Option ((List Spot))) (Ab:List Spot) (Ao:Int) (Aa:Int):Option ((List Spot)) :=
  bif (decide (Aa < ((Ae.fShelves.length:Int)))) then obind (ix Ae.fShelves Aa) fun Af=>obind (ix Ad Af) fun Aj=>d_impl_SpotsOf_L1 fu Ap Aq Ad Ak Ac Ao Aa Af Aj fu Ab 0 0 else obind (ix Al Am) fun Ah=>Ag Ab (w64 (Ac + Ah.fH)) (w64 (Ai + 1))
def d_impl_SpotsOf_L2 (fu:Nat) (Aa:List Spot → Int → Int → Option ((List Spot))) (Ah:List Box) (Af:(List Shelf)) (Ad:(List Layer)) (Ac:Int) (Ai:Int) (Ab:Int) (Ae:Int) (Ag:Layer):Nat → List Spot → Int → Int → Option ((List Spot))
  | 0=>fun _ _ _=>none
  | n + 1=>d_impl_SpotsOf_L2_B fu Aa Ah Af Ad Ac Ai Ab Ae Ag (d_impl_SpotsOf_L2 fu Aa Ah Af Ad Ac Ai Ab Ae Ag n)

def d_impl_SpotsOf_L3_B (fu:Nat) (Ak:List Spot → Int → Option ((List Spot))) (Aj:List Box) (Ah:(List Shelf)) (Ad:(List Layer)) (Ab:Int) (Ae:Load) (Ag:List Spot → Int → Int → Option ((List Spot))) (Af:List Spot) (Al:Int) (Aa:Int):Option ((List Spot)) :=
  bif (decide (Aa < ((Ae.fLayers.length:Int)))) then obind (ix Ae.fLayers Aa) fun Ac=>obind (ix Ad Ac) fun Ai=>d_impl_SpotsOf_L2 fu Ag Aj Ah Ad Ab Al Aa Ac Ai fu Af 0 0 else Ak Af (w64 (Ab + 1))
def d_impl_SpotsOf_L3 (fu:Nat) (Af:List Spot → Int → Option ((List Spot))) (Ae:List Box) (Ac:(List Shelf)) (Ab:(List Layer)) (Aa:Int) (Ad:Load):Nat → List Spot → Int → Int → Option ((List Spot))
  | 0=>fun _ _ _=>none
  | n + 1=>d_impl_SpotsOf_L3_B fu Af Ae Ac Ab Aa Ad (d_impl_SpotsOf_L3 fu Af Ae Ac Ab Aa Ad n)

def d_impl_SpotsOf_L4_B (fu:Nat)  (Ag:List Box) (Ae:(List Shelf)) (Ad:(List Layer)) (Ac:(List Load)) (Ah:List Spot → Int → Option ((List Spot))) (Ab:List Spot) (Aa:Int):Option ((List Spot)) :=
  bif (decide (Aa < ((Ac.length:Int)))) then obind (ix Ac Aa) fun Af=>d_impl_SpotsOf_L3 fu Ah Ag Ae Ad Aa Af fu Ab 0 0 else some (Ab)
def d_impl_SpotsOf_L4 (fu:Nat)  (Ad:List Box) (Ac:(List Shelf)) (Aa:(List Layer)) (Ab:(List Load)):Nat → List Spot → Int → Option ((List Spot))
  | 0=>fun _ _=>none
  | n + 1=>d_impl_SpotsOf_L4_B fu Ad Ac Aa Ab (d_impl_SpotsOf_L4 fu Ad Ac Aa Ab n)

def d_impl_SpotsOf (fu:Nat) (p1:Pallet) (Aa:List Box):Option ((List Spot)) :=
  obind (d_impl_BoxesOk fu p1 Aa) fun Ad=>bif (!Ad) then some (([]:List Spot)) else obind (d_impl_Shelves fu p1 Aa) fun Ac=>obind (d_impl_LayersOf fu p1 Ac) fun Ab=>obind (mk 32 (⟨(0:Int),(0:Int),(0:Int),(0:Int)⟩:Spot) ((Aa.length:Int))) fun Af=>obind (d_impl_LoadsOf fu p1 Ab) fun Ae=>d_impl_SpotsOf_L4 fu Aa Ac Ab Ae fu Af 0

def d_impl_Pallets_J1 (fu:Nat) (k3:Int → Int → Option (Int)) (Ab:Int) (Aa:Int):Option (Int) :=
  k3 Aa (w64 (Ab + 1))

def d_impl_Pallets_L1_B (fu:Nat)  (Ad:List Spot) (k3:Int → Int → Option (Int)) (Ab:Int) (Aa:Int):Option (Int) :=
  bif (decide (Aa < ((Ad.length:Int)))) then obind (ix Ad Aa) fun Ac=>obind (d_impl_in fu Ac.fPallet 0 999999) fun Ae=>bif Ae then d_impl_Pallets_J1 fu k3 Aa (if (w64 (Ac.fPallet + 1)) > Ab then w64 (Ac.fPallet + 1) else Ab) else d_impl_Pallets_J1 fu k3 Aa Ab else some (Ab)
def d_impl_Pallets_L1 (fu:Nat)  (Aa:List Spot):Nat → Int → Int → Option (Int)
  | 0=>fun _ _=>none
  | n + 1=>d_impl_Pallets_L1_B fu Aa (d_impl_Pallets_L1 fu Aa n)

def d_impl_Pallets (fu:Nat) (Aa:List Spot):Option (Int) :=
  d_impl_Pallets_L1 fu Aa fu 0 0

def d_impl_PlanOf_J1 (fu:Nat) (Aa:List Box → Int → Option (Plan × Bool)) (Ab:Int) (Ac:List Box):Option (Plan × Bool) :=
  Aa Ac (w64 (Ab + 1))

def d_impl_PlanOf_L1_B (fu:Nat) (Ag:List Spot → Int → Int → Option (Plan × Bool)) (Ae:Int) (Aj:Int) (Ad:(List Spot)) (Af:Int) (Ah:List Spot → Int → Option (Plan × Bool)) (Ac:List Spot) (Ab:Int):Option (Plan × Bool) :=
  bif (decide (Ab < ((Ad.length:Int)))) then obind (ix Ad Ab) fun Aa=>obind (apnd 32 Ac (([(⟨w64 (Aa.fPallet + Ae),Aa.fX,Aa.fY,Aa.fZ⟩:Spot)]:List Spot))) fun Ai=>Ah Ai (w64 (Ab + 1)) else Ag Ac (w64 (Ae + Af)) (w64 (Aj + 1))
def d_impl_PlanOf_L1 (fu:Nat) (Ab:List Spot → Int → Int → Option (Plan × Bool)) (Ad:Int) (Ae:Int) (Ac:(List Spot)) (Aa:Int):Nat → List Spot → Int → Option (Plan × Bool)
  | 0=>fun _ _=>none
  | n + 1=>d_impl_PlanOf_L1_B fu Ab Ad Ae Ac Aa (d_impl_PlanOf_L1 fu Ab Ad Ae Ac Aa n)

def d_impl_PlanOf_L2_B (fu:Nat) (Ai:List Spot → Int → Int → Option (Plan × Bool)) (r1:Request) (Ac:(List Carton)) (Ak:List Spot) (Al:Int) (Ag:Int) (Ae:List Box → Int → Option (Plan × Bool)) (Ab:List Box) (Aa:Int):Option (Plan × Bool) :=
  bif (decide (Aa < ((Ac.length:Int)))) then obind (ix Ac Aa) fun Af=>bif (Af.fGroup == Ag) then obind (d_impl_BoxOf fu r1 Af) fun Am=>obind (apnd 32 Ab (([Am]:List Box))) fun Aj=>d_impl_PlanOf_J1 fu Ae Aa Aj else d_impl_PlanOf_J1 fu Ae Aa Ab else obind (d_impl_SpotsOf fu r1.fPallet Ab) fun Ad=>obind (d_impl_Pallets fu Ad) fun Ah=>d_impl_PlanOf_L1 fu Ai Al Ag Ad Ah fu Ak 0
def d_impl_PlanOf_L2 (fu:Nat) (Aa:List Spot → Int → Int → Option (Plan × Bool)) (r1:Request) (Ae:(List Carton)) (Ab:List Spot) (Ac:Int) (Ad:Int):Nat → List Box → Int → Option (Plan × Bool)
  | 0=>fun _ _=>none
  | n + 1=>d_impl_PlanOf_L2_B fu Aa r1 Ae Ab Ac Ad (d_impl_PlanOf_L2 fu Aa r1 Ae Ab Ac Ad n)

def d_impl_PlanOf_L3_B (fu:Nat)  (r1:Request) (Ac:(List Carton)) (Ae:(List (List Int))) (Ad:List Spot → Int → Int → Option (Plan × Bool)) (Aa:List Spot) (Af:Int) (Ab:Int):Option (Plan × Bool) :=
  bif (decide (Ab < ((Ae.length:Int)))) then d_impl_PlanOf_L2 fu Ad r1 Ac Aa Af Ab fu (([]:List Box)) 0 else some ((⟨Ac,Aa⟩:Plan),true)
def d_impl_PlanOf_L3 (fu:Nat)  (r1:Request) (Aa:(List Carton)) (Ab:(List (List Int))):Nat → List Spot → Int → Int → Option (Plan × Bool)
  | 0=>fun _ _ _=>none
  | n + 1=>d_impl_PlanOf_L3_B fu r1 Aa Ab (d_impl_PlanOf_L3 fu r1 Aa Ab n)

def d_impl_PlanOf (fu:Nat) (r1:Request):Option (Plan × Bool) :=
  obind (d_impl_sound fu r1) fun Aa=>bif (!Aa) then some ((⟨[],[]⟩:Plan),false) else obind (d_impl_CartonsOf fu r1) fun Ab=>obind (d_impl_GroupsOf fu r1) fun Ac=>d_impl_PlanOf_L3 fu r1 Ab Ac fu (([]:List Spot)) 0 0

def d_spec_Present_J1 (fu:Nat) (Ab:List Int → Int → Option ((List Int))) (Aa:Int) (Ac:List Int):Option ((List Int)) :=
  Ab Ac (w64 (Aa + 1))

def d_spec_Present_J2 (fu:Nat) (Aa:Bool → Int → Option ((List Int))) (Ab:Int) (Ac:Bool):Option ((List Int)) :=
  Aa Ac (w64 (Ab + 1))

def d_spec_Present_L1_B (fu:Nat) (Ac:List Int → Int → Option ((List Int))) (r1:Request) (Ae:List Int) (Aa:Int) (Af:Bool → Int → Option ((List Int))) (Ad:Bool) (Ab:Int):Option ((List Int)) :=
  bif (decide (Ab < ((r1.fItems.length:Int)))) then bif Ad then d_spec_Present_J2 fu Af Ab true else obind (ix r1.fItems Ab) fun Ah=>d_spec_Present_J2 fu Af Ab (Ah.fClass == Aa) else bif Ad then obind (apnd 8 Ae (([Aa]:List Int))) fun Ag=>d_spec_Present_J1 fu Ac Aa Ag else d_spec_Present_J1 fu Ac Aa Ae
def d_spec_Present_L1 (fu:Nat) (Ab:List Int → Int → Option ((List Int))) (r1:Request) (Ac:List Int) (Aa:Int):Nat → Bool → Int → Option ((List Int))
  | 0=>fun _ _=>none
  | n + 1=>d_spec_Present_L1_B fu Ab r1 Ac Aa (d_spec_Present_L1 fu Ab r1 Ac Aa n)

def d_spec_Present_L2_B (fu:Nat)  (r1:Request) (Ac:List Int → Int → Option ((List Int))) (Ab:List Int) (Aa:Int):Option ((List Int)) :=
  bif (decide (Aa < 4)) then d_spec_Present_L1 fu Ac r1 Ab Aa fu false 0 else some (Ab)
def d_spec_Present_L2 (fu:Nat)  (r1:Request):Nat → List Int → Int → Option ((List Int))
  | 0=>fun _ _=>none
  | n + 1=>d_spec_Present_L2_B fu r1 (d_spec_Present_L2 fu r1 n)

def d_spec_Present (fu:Nat) (r1:Request):Option ((List Int)) :=
  obind (d_spec_Class fu r1) fun Aa=>bif (Aa != 0) then some (([]:List Int)) else d_spec_Present_L2 fu r1 fu (([]:List Int)) 0

def d_spec_l1Has_L1_B (fu:Nat)  (Ab:List Int) (x5:Int) (k1:Int → Option (Bool)) (Aa:Int):Option (Bool) :=
  bif (decide (Aa < ((Ab.length:Int)))) then obind (ix Ab Aa) fun Ac=>bif (Ac == x5) then some (true) else k1 (w64 (Aa + 1)) else some (false)
def d_spec_l1Has_L1 (fu:Nat)  (Aa:List Int) (x5:Int):Nat → Int → Option (Bool)
  | 0=>fun _=>none
  | n + 1=>d_spec_l1Has_L1_B fu Aa x5 (d_spec_l1Has_L1 fu Aa x5 n)

def d_spec_l1Has (fu:Nat) (Aa:List Int) (x5:Int):Option (Bool) :=
  d_spec_l1Has_L1 fu Aa x5 fu 0

def d_spec_l3Joins_J1 (fu:Nat) (k3:Int → Option (Bool)) (Aa:Int)  : Option (Bool) :=
  k3 (w64 (Aa + 1))

def d_spec_l3Joins_L1_B (fu:Nat)  (Ae:List Pair) (Ab:List Int) (Ad:Int) (k3:Int → Option (Bool)) (Aa:Int):Option (Bool) :=
  bif (decide (Aa < ((Ab.length:Int)))) then obind (ix Ab Aa) fun Ac=>obind (d_spec_Beside fu Ae Ac Ad) fun Ag=>bif (!Ag) then some (false) else obind (ix Ab Aa) fun Ah=>obind (d_spec_Beside fu Ae Ad Ac) fun Af=>bif (!Af) then some (false) else d_spec_l3Joins_J1 fu k3 Aa else some (true)
def d_spec_l3Joins_L1 (fu:Nat)  (Ac:List Pair) (Ab:List Int) (Aa:Int):Nat → Int → Option (Bool)
  | 0=>fun _=>none
  | n + 1=>d_spec_l3Joins_L1_B fu Ac Ab Aa (d_spec_l3Joins_L1 fu Ac Ab Aa n)

def d_spec_l3Joins (fu:Nat) (Ac:List Pair) (Ab:List Int) (Aa:Int):Option (Bool) :=
  d_spec_l3Joins_L1 fu Ac Ab Aa fu 0

def d_spec_Groups_J1 (fu:Nat) (Ac:List (List Int) → Int → Option ((List (List Int)))) (Aa:Int) (Ab:List (List Int)):Option ((List (List Int))) :=
  Ac Ab (w64 (Aa + 1))

def d_spec_Groups_J2 (fu:Nat) (Aa:Int → Int → Option ((List (List Int)))) (Ac:Int) (Ab:Int):Option ((List (List Int))) :=
  Aa Ab (w64 (Ac - 1))

def d_spec_Groups_L1_B (fu:Nat) (Ae:List (List Int) → Int → Option ((List (List Int)))) (Al:List Pair) (Ac:List (List Int)) (Ad:Int) (Af:Int → Int → Option ((List (List Int)))) (Ab:Int) (Aa:Int):Option ((List (List Int))) :=
  bif (decide (Aa ≥ 0)) then obind (ix Ac Aa) fun Ak=>obind (d_spec_l3Joins fu Al Ak Ad) fun Ai=>bif Ai then d_spec_Groups_J2 fu Af Aa Aa else d_spec_Groups_J2 fu Af Aa Ab else bif (decide (Ab < 0)) then obind (apnd 24 Ac [([Ad]:List Int)]) fun Aj=>d_spec_Groups_J1 fu Ae Ad Aj else obind (ix Ac Ab) fun Ag=>obind (apnd 8 Ag (([Ad]:List Int))) fun Ah=>obind (ix Ac Ab) fun Am=>d_spec_Groups_J1 fu Ae Ad (setx Ac Ab Ah)
def d_spec_Groups_L1 (fu:Nat) (Ac:List (List Int) → Int → Option ((List (List Int)))) (Ad:List Pair) (Ab:List (List Int)) (Aa:Int):Nat → Int → Int → Option ((List (List Int)))
  | 0=>fun _ _=>none
  | n + 1=>d_spec_Groups_L1_B fu Ac Ad Ab Aa (d_spec_Groups_L1 fu Ac Ad Ab Aa n)

def d_spec_Groups_L2_B (fu:Nat)  (Af:List Pair) (Ad:List Int) (Ac:List (List Int) → Int → Option ((List (List Int)))) (Aa:List (List Int)) (Ab:Int):Option ((List (List Int))) :=
  bif (decide (Ab < 4)) then obind (d_spec_l1Has fu Ad Ab) fun Ae=>bif (!Ae) then d_spec_Groups_J1 fu Ac Ab Aa else d_spec_Groups_L1 fu Ac Af Aa Ab fu ((-1)) (w64 (((Aa.length:Int)) - 1)) else some (Aa)
def d_spec_Groups_L2 (fu:Nat)  (Ab:List Pair) (Aa:List Int):Nat → List (List Int) → Int → Option ((List (List Int)))
  | 0=>fun _ _=>none
  | n + 1=>d_spec_Groups_L2_B fu Ab Aa (d_spec_Groups_L2 fu Ab Aa n)

def d_spec_Groups (fu:Nat) (Ab:List Pair) (Aa:List Int):Option ((List (List Int))) :=
  d_spec_Groups_L2 fu Ab Aa fu (([]:List (List Int))) 0

def d_spec_GroupsOf (fu:Nat) (r1:Request):Option ((List (List Int))) :=
  obind (d_spec_Present fu r1) fun Aa=>obind (d_spec_Groups fu r1.fPairs Aa) fun Ab=>some (Ab)

def d_spec_l6Units_L1_B (fu:Nat) (k3:List Int → Int → Option ((List Int))) (r1:Request) (Aa:Int) (k4:List Int → Int → Option ((List Int))) (Ab:List Int) (Ac:Int):Option ((List Int)) :=
  obind (ix r1.fItems Aa) fun Ae=>bif (decide (Ac < Ae.fCount)) then obind (apnd 8 Ab (([Aa]:List Int))) fun Ad=>k4 Ad (w64 (Ac + 1)) else k3 Ab (w64 (Aa + 1))
def d_spec_l6Units_L1 (fu:Nat) (k3:List Int → Int → Option ((List Int))) (r1:Request) (Aa:Int):Nat → List Int → Int → Option ((List Int))
  | 0=>fun _ _=>none
  | n + 1=>d_spec_l6Units_L1_B fu k3 r1 Aa (d_spec_l6Units_L1 fu k3 r1 Aa n)

def d_spec_l6Units_L2_B (fu:Nat)  (r1:Request) (k3:List Int → Int → Option ((List Int))) (Aa:List Int) (Ab:Int):Option ((List Int)) :=
  bif (decide (Ab < ((r1.fItems.length:Int)))) then d_spec_l6Units_L1 fu k3 r1 Ab fu Aa 0 else some (Aa)
def d_spec_l6Units_L2 (fu:Nat)  (r1:Request):Nat → List Int → Int → Option ((List Int))
  | 0=>fun _ _=>none
  | n + 1=>d_spec_l6Units_L2_B fu r1 (d_spec_l6Units_L2 fu r1 n)

def d_spec_l6Units (fu:Nat) (r1:Request):Option ((List Int)) :=
  d_spec_l6Units_L2 fu r1 fu (([]:List Int)) 0

def d_spec_UnitsOf_J1 (fu:Nat) (k3:List Int → Int → Option ((List Int))) (Ab:Int) (Aa:List Int):Option ((List Int)) :=
  k3 Aa (w64 (Ab + 1))

def d_spec_UnitsOf_L1_B (fu:Nat)  (r1:Request) (Ah:Int) (Aj:(List (List Int))) (Ac:(List Int)) (k3:List Int → Int → Option ((List Int))) (Ab:List Int) (Aa:Int):Option ((List Int)) :=
  bif (decide (Aa < ((Ac.length:Int)))) then obind (ix Aj Ah) fun Af=>obind (ix Ac Aa) fun Ag=>obind (ix r1.fItems Ag) fun Ad=>obind (d_spec_l1Has fu Af Ad.fClass) fun Ae=>bif Ae then obind (apnd 8 Ab (([Aa]:List Int))) fun Ai=>d_spec_UnitsOf_J1 fu k3 Aa Ai else d_spec_UnitsOf_J1 fu k3 Aa Ab else some (Ab)
def d_spec_UnitsOf_L1 (fu:Nat)  (r1:Request) (Ac:Int) (Aa:(List (List Int))) (Ab:(List Int)):Nat → List Int → Int → Option ((List Int))
  | 0=>fun _ _=>none
  | n + 1=>d_spec_UnitsOf_L1_B fu r1 Ac Aa Ab (d_spec_UnitsOf_L1 fu r1 Ac Aa Ab n)

def d_spec_UnitsOf (fu:Nat) (r1:Request) (Ab:Int):Option ((List Int)) :=
  obind (d_spec_GroupsOf fu r1) fun Aa=>obind (d_spec_l1In fu Ab 0 (w64 (((Aa.length:Int)) - 1))) fun Ad=>bif (!Ad) then some (([]:List Int)) else obind (d_spec_l6Units fu r1) fun Ac=>d_spec_UnitsOf_L1 fu r1 Ab Aa Ac fu (([]:List Int)) 0

def d_spec_l7Known_J1 (fu:Nat) (k3:List Int → Int → Option ((List Int))) (Aa:Int) (Ab:List Int):Option ((List Int)) :=
  k3 Ab (w64 (Aa + 1))

def d_spec_l7Known_L1_B (fu:Nat)  (Ae:List Int) (Ac:List Int) (k3:List Int → Int → Option ((List Int))) (Ab:List Int) (Aa:Int):Option ((List Int)) :=
  bif (decide (Aa < ((Ac.length:Int)))) then obind (ix Ac Aa) fun Ad=>obind (d_spec_l1In fu Ad 0 (w64 (((Ae.length:Int)) - 1))) fun Ag=>bif Ag then obind (ix Ac Aa) fun Ah=>obind (apnd 8 Ab (([Ad]:List Int))) fun Af=>d_spec_l7Known_J1 fu k3 Aa Af else d_spec_l7Known_J1 fu k3 Aa Ab else some (Ab)
def d_spec_l7Known_L1 (fu:Nat)  (Aa:List Int) (Ab:List Int):Nat → List Int → Int → Option ((List Int))
  | 0=>fun _ _=>none
  | n + 1=>d_spec_l7Known_L1_B fu Aa Ab (d_spec_l7Known_L1 fu Aa Ab n)

def d_spec_l7Known (fu:Nat) (Aa:List Int) (Ab:List Int):Option ((List Int)) :=
  d_spec_l7Known_L1 fu Aa Ab fu (([]:List Int)) 0

def d_spec_l6Item (fu:Nat) (r1:Request) (Aa:List Int) (u9:Int):Option (Item × Bool) :=
  obind (d_spec_l1In fu u9 0 (w64 (((Aa.length:Int)) - 1))) fun Ab=>bif (!Ab) then some ((⟨0,0,0,0,0,0,0⟩:Item),false) else obind (ix Aa u9) fun Ac=>obind (ix r1.fItems Ac) fun Ad=>some (Ad,true)

def d_spec_Volume_J1 (fu:Nat) (Aa:Int) (h2:Int) (d3:Int)  : Option (Int) :=
  some (w64 ((w64 (Aa * h2)) * d3))

def d_spec_Volume (fu:Nat) (Aa:Int) (h2:Int) (d3:Int):Option (Int) :=
  obind (d_spec_l1In fu Aa 0 2000) fun Ad=>bif (!Ad) then some (0) else obind (d_spec_l1In fu h2 0 2000) fun Ab=>bif (!Ab) then some (0) else obind (d_spec_l1In fu d3 0 2000) fun Ac=>bif (!Ac) then some (0) else d_spec_Volume_J1 fu Aa h2 d3

def d_spec_l7Of_J1 (fu:Nat) (k7:L7 → Int → Option (L7)) (Ab:Int) (Aa:L7):Option (L7) :=
  k7 Aa (w64 (Ab + 1))

def d_spec_l7Of_J2 (fu:Nat) (k7:L7 → Int → Option (L7)) (Ab:L7) (Ad:Int) (Aa:Item):Option (L7) :=
  obind (d_spec_Volume fu Aa.fW Aa.fH Aa.fD) fun Ac=>d_spec_l7Of_J1 fu k7 Ad ((⟨w64 (Ab.fvol + Ac),w64 (Ab.fgram + Aa.fGram)⟩:L7))

def d_spec_l7Of_L1_B (fu:Nat)  (r1:Request) (Ad:List Int) (Ab:List Int) (k7:L7 → Int → Option (L7)) (Ac:L7) (Aa:Int):Option (L7) :=
  bif (decide (Aa < ((Ab.length:Int)))) then obind (ix Ab Aa) fun Af=>obind (d_spec_l6Item fu r1 Ad Af) fun Ae=>d_spec_l7Of_J2 fu k7 Ac Aa Ae.1 else some (Ac)
def d_spec_l7Of_L1 (fu:Nat)  (r1:Request) (Ab:List Int) (Aa:List Int):Nat → L7 → Int → Option (L7)
  | 0=>fun _ _=>none
  | n + 1=>d_spec_l7Of_L1_B fu r1 Ab Aa (d_spec_l7Of_L1 fu r1 Ab Aa n)

def d_spec_l7Of (fu:Nat) (r1:Request) (Ab:List Int) (Aa:List Int):Option (L7) :=
  d_spec_l7Of_L1 fu r1 Ab Aa fu ((⟨0,0⟩:L7)) 0

def d_spec_l7Room_J1 (fu:Nat) (m9:Typ) (Aa:L7):Option (Bool) :=
  obind (d_spec_Volume fu m9.fW m9.fH m9.fD) fun Ab=>bif (decide (Aa.fvol ≤ Ab)) then some (decide (Aa.fgram ≤ m9.fGram)) else some (false)

def d_spec_l7Room (fu:Nat) (r1:Request) (Ac:List Int) (m9:Typ) (Af:List Int) (Ae:Int):Option (Bool) :=
  obind (apnd 8 (([]:List Int)) Af) fun Ad=>obind (apnd 8 Ad (([Ae]:List Int))) fun Ab=>obind (d_spec_l7Of fu r1 Ac Ab) fun Aa=>d_spec_l7Room_J1 fu m9 Aa

def d_spec_l7Next_J1 (fu:Nat) (k3:List (List Int) → Int → Option ((List (List Int)))) (Aa:Int) (Ab:List (List Int)):Option ((List (List Int))) :=
  k3 Ab (w64 (Aa + 1))

def d_spec_l7Next_L1_B (fu:Nat)  (r1:Request) (Ac:List Int) (Ah:Typ × Bool) (Ak:(List Int)) (k3:List (List Int) → Int → Option ((List (List Int)))) (Aa:List (List Int)) (Ab:Int):Option ((List (List Int))) :=
  bif (decide (Ab < ((Ac.length:Int)))) then bif (decide (((Aa.length:Int)) > 0)) then obind (ix Aa (w64 (((Aa.length:Int)) - 1))) fun Ae=>obind (ix Ac Ab) fun Ad=>obind (d_spec_l7Room fu r1 Ak Ah.1 Ae Ad) fun Af=>bif Af then obind (ix Aa (w64 (((Aa.length:Int)) - 1))) fun Ao=>obind (ix Ac Ab) fun Aq=>obind (apnd 8 Ae (([Ad]:List Int))) fun Al=>obind (ix Aa (w64 (((Aa.length:Int)) - 1))) fun Ap=>d_spec_l7Next_J1 fu k3 Ab (setx Aa (w64 (((Aa.length:Int)) - 1)) Al) else obind (ix Ac Ab) fun Am=>obind (apnd 24 Aa [([Ad]:List Int)]) fun Ag=>d_spec_l7Next_J1 fu k3 Ab Ag else obind (ix Ac Ab) fun Aj=>obind (apnd 24 Aa [([Aj]:List Int)]) fun Ai=>d_spec_l7Next_J1 fu k3 Ab Ai else some (Aa)
def d_spec_l7Next_L1 (fu:Nat)  (r1:Request) (Ac:List Int) (Aa:Typ × Bool) (Ab:(List Int)):Nat → List (List Int) → Int → Option ((List (List Int)))
  | 0=>fun _ _=>none
  | n + 1=>d_spec_l7Next_L1_B fu r1 Ac Aa Ab (d_spec_l7Next_L1 fu r1 Ac Aa Ab n)

def d_spec_l7Next (fu:Nat) (r1:Request) (Ac:List Int):Option ((List (List Int))) :=
  obind (d_spec_MasterOf fu r1) fun Aa=>obind (d_spec_l6Units fu r1) fun Ab=>d_spec_l7Next_L1 fu r1 Ac Aa Ab fu (([]:List (List Int))) 0

def d_spec_NextFit (fu:Nat) (r1:Request) (Ac:List Int):Option ((List (List Int))) :=
  obind (d_spec_Class fu r1) fun Ab=>bif (Ab != 0) then some (([]:List (List Int))) else obind (d_spec_l6Units fu r1) fun Ae=>obind (d_spec_l7Known fu Ae Ac) fun Ad=>obind (d_spec_l7Next fu r1 Ad) fun Aa=>some (Aa)

def d_spec_SortDown (fu:Nat) (Aa:List Int):Option ((List Int)) :=
  obind (d_spec_l1Places fu ((Aa.length:Int))) fun x5=>obind (d_spec_l1Merge fu Aa x5 true) fun Ab=>some (Ab)

def d_spec_l7First_J1 (fu:Nat) (Ac:List (List Int) → Int → Option ((List (List Int)))) (Ab:Int) (Aa:List (List Int)):Option ((List (List Int))) :=
  Ac Aa (w64 (Ab + 1))

def d_spec_l7First_J2 (fu:Nat) (Aa:Int → Int → Option ((List (List Int)))) (Ac:Int) (Ab:Int):Option ((List (List Int))) :=
  Aa Ab (w64 (Ac - 1))

def d_spec_l7First_L1_B (fu:Nat) (Ae:List (List Int) → Int → Option ((List (List Int)))) (r1:Request) (Ah:Typ × Bool) (Ak:(List Int)) (Ab:List (List Int)) (Ag:Int) (Ad:Int) (Af:Int → Int → Option ((List (List Int)))) (Ac:Int) (Aa:Int):Option ((List (List Int))) :=
  bif (decide (Aa ≥ 0)) then obind (ix Ab Aa) fun Aj=>obind (d_spec_l7Room fu r1 Ak Ah.1 Aj Ad) fun Ao=>bif Ao then d_spec_l7First_J2 fu Af Aa Aa else d_spec_l7First_J2 fu Af Aa Ac else bif (decide (Ac < 0)) then obind (apnd 24 Ab [([Ad]:List Int)]) fun Am=>d_spec_l7First_J1 fu Ae Ag Am else obind (ix Ab Ac) fun Ai=>obind (apnd 8 Ai (([Ad]:List Int))) fun Al=>obind (ix Ab Ac) fun Ap=>d_spec_l7First_J1 fu Ae Ag (setx Ab Ac Al)
def d_spec_l7First_L1 (fu:Nat) (Af:List (List Int) → Int → Option ((List (List Int)))) (r1:Request) (Ab:Typ × Bool) (Ad:(List Int)) (Ac:List (List Int)) (Ae:Int) (Aa:Int):Nat → Int → Int → Option ((List (List Int)))
  | 0=>fun _ _=>none
  | n + 1=>d_spec_l7First_L1_B fu Af r1 Ab Ad Ac Ae Aa (d_spec_l7First_L1 fu Af r1 Ab Ad Ac Ae Aa n)

def d_spec_l7First_L2_B (fu:Nat)  (r1:Request) (Ah:List Int) (Af:Typ × Bool) (Ag:(List Int)) (Ac:(List Int)) (Ai:List (List Int) → Int → Option ((List (List Int)))) (Aa:List (List Int)) (Ab:Int):Option ((List (List Int))) :=
  bif (decide (Ab < ((Ac.length:Int)))) then obind (ix Ac Ab) fun Ad=>obind (ix Ah Ad) fun Ae=>d_spec_l7First_L1 fu Ai r1 Af Ag Aa Ab Ae fu ((-1)) (w64 (((Aa.length:Int)) - 1)) else some (Aa)
def d_spec_l7First_L2 (fu:Nat)  (r1:Request) (Ad:List Int) (Ab:Typ × Bool) (Ac:(List Int)) (Aa:(List Int)):Nat → List (List Int) → Int → Option ((List (List Int)))
  | 0=>fun _ _=>none
  | n + 1=>d_spec_l7First_L2_B fu r1 Ad Ab Ac Aa (d_spec_l7First_L2 fu r1 Ad Ab Ac Aa n)

def d_spec_l7First_L3_B (fu:Nat)  (r1:Request) (Ab:List Int) (Ah:Typ × Bool) (Ad:(List Int)) (k1:List Int → Int → Option ((List (List Int)))) (Ac:List Int) (Aa:Int):Option ((List (List Int))) :=
  bif (decide (Aa < ((Ab.length:Int)))) then obind (sls Ab Aa (w64 (Aa + 1))) fun Ag=>obind (d_spec_l7Of fu r1 Ad Ag) fun Af=>obind (apnd 8 Ac (([Af.fvol]:List Int))) fun Ai=>k1 Ai (w64 (Aa + 1)) else obind (d_spec_SortDown fu Ac) fun Ae=>d_spec_l7First_L2 fu r1 Ab Ah Ad Ae fu (([]:List (List Int))) 0
def d_spec_l7First_L3 (fu:Nat)  (r1:Request) (Ac:List Int) (Aa:Typ × Bool) (Ab:(List Int)):Nat → List Int → Int → Option ((List (List Int)))
  | 0=>fun _ _=>none
  | n + 1=>d_spec_l7First_L3_B fu r1 Ac Aa Ab (d_spec_l7First_L3 fu r1 Ac Aa Ab n)

def d_spec_l7First (fu:Nat) (r1:Request) (Ac:List Int):Option ((List (List Int))) :=
  obind (d_spec_MasterOf fu r1) fun Aa=>obind (d_spec_l6Units fu r1) fun Ab=>d_spec_l7First_L3 fu r1 Ac Aa Ab fu (([]:List Int)) 0

def d_spec_FirstFit (fu:Nat) (r1:Request) (Ac:List Int):Option ((List (List Int))) :=
  obind (d_spec_Class fu r1) fun Ab=>bif (Ab != 0) then some (([]:List (List Int))) else obind (d_spec_l6Units fu r1) fun Ae=>obind (d_spec_l7Known fu Ae Ac) fun Ad=>obind (d_spec_l7First fu r1 Ad) fun Aa=>some (Aa)

def d_spec_PackWay (fu:Nat) (r1:Request) (Aa:List Int):Option ((List (List Int))) :=
  bif (r1.fWay == 1) then obind (d_spec_NextFit fu r1 Aa) fun Ac=>some (Ac) else obind (d_spec_FirstFit fu r1 Aa) fun Ab=>some (Ab)

def d_spec_Holds_J1 (fu:Nat) (r1:Request) (Ab:List Int) (t9:Typ) (Ac:(List Int))  : Option (Bool) :=
  obind (d_spec_l7Of fu r1 Ac Ab) fun Aa=>obind (d_spec_Volume fu t9.fW t9.fH t9.fD) fun Ad=>bif (decide (Aa.fvol ≤ Ad)) then some (decide (Aa.fgram ≤ t9.fGram)) else some (false)

def d_spec_Holds_J2 (fu:Nat) (Aa:Int → Option (Bool)) (Ab:Int)  : Option (Bool) :=
  Aa (w64 (Ab + 1))

def d_spec_Holds_J3 (fu:Nat) (Aa:Int → Option (Bool)) (t9:Typ) (Ab:Int) (Ac:Item) (Ad:Bool):Option (Bool) :=
  bif (!Ad) then some (false) else obind (d_spec_Fits fu Ac t9) fun Ae=>bif (!Ae) then some (false) else d_spec_Holds_J2 fu Aa Ab

def d_spec_Holds_L1_B (fu:Nat)  (r1:Request) (Ab:List Int) (t9:Typ) (Ad:(List Int)) (Ae:Int → Option (Bool)) (Aa:Int):Option (Bool) :=
  bif (decide (Aa < ((Ab.length:Int)))) then obind (ix Ab Aa) fun Af=>obind (d_spec_l6Item fu r1 Ad Af) fun Ac=>d_spec_Holds_J3 fu Ae t9 Aa Ac.1 Ac.2 else d_spec_Holds_J1 fu r1 Ab t9 Ad
def d_spec_Holds_L1 (fu:Nat)  (r1:Request) (Aa:List Int) (t9:Typ) (Ab:(List Int)):Nat → Int → Option (Bool)
  | 0=>fun _=>none
  | n + 1=>d_spec_Holds_L1_B fu r1 Aa t9 Ab (d_spec_Holds_L1 fu r1 Aa t9 Ab n)

def d_spec_Holds (fu:Nat) (r1:Request) (Ab:List Int) (t9:Typ):Option (Bool) :=
  obind (d_spec_Class fu r1) fun Aa=>bif (Aa != 0) then some (false) else obind (d_spec_l6Units fu r1) fun Ac=>d_spec_Holds_L1 fu r1 Ab t9 Ac fu 0

def d_spec_Cheapest_J1 (fu:Nat) (k3:Typ → Bool → Int → Option (Typ × Bool)) (Ac:Int) (Aa:Typ) (Ab:Bool):Option (Typ × Bool) :=
  k3 Aa Ab (w64 (Ac + 1))

def d_spec_Cheapest_L1_B (fu:Nat)  (r1:Request) (Ae:List Int) (k3:Typ → Bool → Int → Option (Typ × Bool)) (Ab:Typ) (Ad:Bool) (Aa:Int):Option (Typ × Bool) :=
  bif (decide (Aa < ((r1.fTypes.length:Int)))) then obind (ix r1.fTypes Aa) fun Ac=>obind (d_spec_Holds fu r1 Ae Ac) fun Af=>bif (!Af) then d_spec_Cheapest_J1 fu k3 Aa Ab Ad else bif (!Ad) then d_spec_Cheapest_J1 fu k3 Aa Ac true else bif (decide (Ac.fCost < Ab.fCost)) then d_spec_Cheapest_J1 fu k3 Aa Ac true else bif (Ac.fCost == Ab.fCost) then bif (decide (Ac.fId < Ab.fId)) then d_spec_Cheapest_J1 fu k3 Aa Ac true else d_spec_Cheapest_J1 fu k3 Aa Ab Ad else d_spec_Cheapest_J1 fu k3 Aa Ab Ad else some (Ab,Ad)
def d_spec_Cheapest_L1 (fu:Nat)  (r1:Request) (Aa:List Int):Nat → Typ → Bool → Int → Option (Typ × Bool)
  | 0=>fun _ _ _=>none
  | n + 1=>d_spec_Cheapest_L1_B fu r1 Aa (d_spec_Cheapest_L1 fu r1 Aa n)

def d_spec_Cheapest (fu:Nat) (r1:Request) (Aa:List Int):Option (Typ × Bool) :=
  d_spec_Cheapest_L1 fu r1 Aa fu ((⟨0,0,0,0,0,0,0⟩:Typ)) false 0

def d_spec_CartonsOf_J1 (fu:Nat) (Ac:List Carton → Int → Option ((List Carton))) (Ab:Int) (Aa:List Carton):Option ((List Carton)) :=
  Ac Aa (w64 (Ab + 1))

def d_spec_CartonsOf_J2 (fu:Nat) (Ab:List Carton → Int → Option ((List Carton))) (Aa:Int) (Ac:List Carton):Option ((List Carton)) :=
  Ab Ac (w64 (Aa + 1))

def d_spec_CartonsOf_L1_B (fu:Nat) (Am:List Carton → Int → Option ((List Carton))) (Ap:Int) (Ag:(List (List Int))) (Ae:List Carton) (Ab:Int) (Ak:Typ) (Ac:(List Int)) (Af:List Int → Int → Option ((List Carton))) (Ad:List Int) (Aa:Int):Option ((List Carton)) :=
  bif (decide (Aa < ((Ac.length:Int)))) then obind (ix Ag Ab) fun Ah=>obind (ix Ac Aa) fun Al=>obind (ix Ah Al) fun Ao=>obind (apnd 8 Ad (([Ao]:List Int))) fun Aj=>Af Aj (w64 (Aa + 1)) else obind (apnd 40 Ae [(⟨Ak.fId,Ap,Ad⟩:Carton)]) fun Ai=>d_spec_CartonsOf_J2 fu Am Ab Ai
def d_spec_CartonsOf_L1 (fu:Nat) (Af:List Carton → Int → Option ((List Carton))) (Ag:Int) (Ac:(List (List Int))) (Ab:List Carton) (Aa:Int) (Ad:Typ) (Ae:(List Int)):Nat → List Int → Int → Option ((List Carton))
  | 0=>fun _ _=>none
  | n + 1=>d_spec_CartonsOf_L1_B fu Af Ag Ac Ab Aa Ad Ae (d_spec_CartonsOf_L1 fu Af Ag Ac Ab Aa Ad Ae n)

def d_spec_CartonsOf_J3 (fu:Nat) (Ag:List Carton → Int → Option ((List Carton))) (Ah:Int) (Ab:(List (List Int))) (Ac:List Carton) (Aa:Int) (Ae:Typ):Option ((List Carton)) :=
  obind (ix Ab Aa) fun Ad=>obind (d_spec_SortUp fu Ad) fun Af=>d_spec_CartonsOf_L1 fu Ag Ah Ab Ac Aa Ae Af fu (([]:List Int)) 0

def d_spec_CartonsOf_L2_B (fu:Nat) (Ah:List Carton → Int → Option ((List Carton))) (r1:Request) (Ad:Int) (Ab:(List (List Int))) (Ag:List Carton → Int → Option ((List Carton))) (Ac:List Carton) (Aa:Int):Option ((List Carton)) :=
  bif (decide (Aa < ((Ab.length:Int)))) then obind (ix Ab Aa) fun Af=>obind (d_spec_Cheapest fu r1 Af) fun Ae=>d_spec_CartonsOf_J3 fu Ag Ad Ab Ac Aa Ae.1 else d_spec_CartonsOf_J1 fu Ah Ad Ac
def d_spec_CartonsOf_L2 (fu:Nat) (Ac:List Carton → Int → Option ((List Carton))) (r1:Request) (Aa:Int) (Ab:(List (List Int))):Nat → List Carton → Int → Option ((List Carton))
  | 0=>fun _ _=>none
  | n + 1=>d_spec_CartonsOf_L2_B fu Ac r1 Aa Ab (d_spec_CartonsOf_L2 fu Ac r1 Aa Ab n)

def d_spec_CartonsOf_L3_B (fu:Nat)  (r1:Request) (Ae:(List (List Int))) (Af:List Carton → Int → Option ((List Carton))) (Ab:List Carton) (Aa:Int):Option ((List Carton)) :=
  bif (decide (Aa < ((Ae.length:Int)))) then obind (d_spec_UnitsOf fu r1 Aa) fun Ac=>obind (d_spec_PackWay fu r1 Ac) fun Ad=>d_spec_CartonsOf_L2 fu Af r1 Aa Ad fu Ab 0 else some (Ab)
def d_spec_CartonsOf_L3 (fu:Nat)  (r1:Request) (Aa:(List (List Int))):Nat → List Carton → Int → Option ((List Carton))
  | 0=>fun _ _=>none
  | n + 1=>d_spec_CartonsOf_L3_B fu r1 Aa (d_spec_CartonsOf_L3 fu r1 Aa n)

def d_spec_CartonsOf (fu:Nat) (r1:Request):Option ((List Carton)) :=
  obind (d_spec_GroupsOf fu r1) fun Aa=>d_spec_CartonsOf_L3 fu r1 Aa fu (([]:List Carton)) 0

def d_spec_TypeById_L1_B (fu:Nat)  (r1:Request) (Ac:Int) (k1:Int → Option (Typ × Bool)) (Aa:Int):Option (Typ × Bool) :=
  bif (decide (Aa < ((r1.fTypes.length:Int)))) then obind (ix r1.fTypes Aa) fun Ab=>bif (Ab.fId == Ac) then obind (ix r1.fTypes Aa) fun Ad=>some (Ab,true) else k1 (w64 (Aa + 1)) else some ((⟨0,0,0,0,0,0,0⟩:Typ),false)
def d_spec_TypeById_L1 (fu:Nat)  (r1:Request) (Aa:Int):Nat → Int → Option (Typ × Bool)
  | 0=>fun _=>none
  | n + 1=>d_spec_TypeById_L1_B fu r1 Aa (d_spec_TypeById_L1 fu r1 Aa n)

def d_spec_TypeById (fu:Nat) (r1:Request) (Aa:Int):Option (Typ × Bool) :=
  d_spec_TypeById_L1 fu r1 Aa fu 0

def d_spec_Units (fu:Nat) (r1:Request):Option ((List Int)) :=
  obind (d_spec_Class fu r1) fun Aa=>bif (Aa != 0) then some (([]:List Int)) else obind (d_spec_l6Units fu r1) fun Ab=>some (Ab)

def d_spec_GramOf_J1 (fu:Nat) (k7:Int → Int → Option (Int)) (Aa:Int) (Ab:Int):Option (Int) :=
  k7 Ab (w64 (Aa + 1))

def d_spec_GramOf_J2 (fu:Nat) (k7:Int → Int → Option (Int)) (Ac:Int) (Aa:Int) (Ab:Item):Option (Int) :=
  d_spec_GramOf_J1 fu k7 Aa (w64 (Ac + Ab.fGram))

def d_spec_GramOf_L1_B (fu:Nat)  (r1:Request) (Ac:List Int) (Ad:(List Int)) (k7:Int → Int → Option (Int)) (Ab:Int) (Aa:Int):Option (Int) :=
  bif (decide (Aa < ((Ac.length:Int)))) then obind (ix Ac Aa) fun Ae=>obind (d_spec_l6Item fu r1 Ad Ae) fun Af=>d_spec_GramOf_J2 fu k7 Ab Aa Af.1 else some (Ab)
def d_spec_GramOf_L1 (fu:Nat)  (r1:Request) (Ab:List Int) (Aa:(List Int)):Nat → Int → Int → Option (Int)
  | 0=>fun _ _=>none
  | n + 1=>d_spec_GramOf_L1_B fu r1 Ab Aa (d_spec_GramOf_L1 fu r1 Ab Aa n)

def d_spec_GramOf (fu:Nat) (r1:Request) (Ab:List Int):Option (Int) :=
  obind (d_spec_Units fu r1) fun Aa=>d_spec_GramOf_L1 fu r1 Ab Aa fu 0 0

def d_spec_Gross_J1 (fu:Nat) (r1:Request) (x5:Carton) (Ab:Typ × Bool)  : Option (Int) :=
  obind (d_spec_GramOf fu r1 x5.fUnits) fun Aa=>some (w64 (Ab.1.fTare + Aa))

def d_spec_Gross (fu:Nat) (r1:Request) (x5:Carton):Option (Int) :=
  obind (d_spec_TypeById fu r1 x5.fType) fun Aa=>obind (d_spec_Class fu r1) fun Ab=>bif (Ab != 0) then some (0) else bif (!Aa.2) then some (0) else d_spec_Gross_J1 fu r1 x5 Aa

def d_spec_BoxOf_J1 (fu:Nat) (r1:Request) (x5:Carton) (Aa:Typ × Bool)  : Option (Box) :=
  obind (d_spec_Gross fu r1 x5) fun Ab=>some ((⟨Aa.1.fW,Aa.1.fD,Aa.1.fH,Ab⟩:Box))

def d_spec_BoxOf (fu:Nat) (r1:Request) (x5:Carton):Option (Box) :=
  obind (d_spec_TypeById fu r1 x5.fType) fun Aa=>obind (d_spec_Class fu r1) fun Ab=>bif (Ab != 0) then some ((⟨0,0,0,0⟩:Box)) else bif (!Aa.2) then some ((⟨0,0,0,0⟩:Box)) else d_spec_BoxOf_J1 fu r1 x5 Aa

def d_spec_BoxesOk_J1 (fu:Nat) (k3:Int → Option (Bool)) (Aa:Int)  : Option (Bool) :=
  k3 (w64 (Aa + 1))

def d_spec_BoxesOk_L1_B (fu:Nat)  (p1:Pallet) (Ac:List Box) (k3:Int → Option (Bool)) (Ab:Int):Option (Bool) :=
  bif (decide (Ab < ((Ac.length:Int)))) then obind (ix Ac Ab) fun Aa=>obind (d_spec_l1In fu Aa.fW 1 p1.fW) fun Ae=>bif (!Ae) then some (false) else obind (d_spec_l1In fu Aa.fD 1 p1.fD) fun Ag=>bif (!Ag) then some (false) else obind (d_spec_l1In fu Aa.fH 1 p1.fH) fun Ad=>bif (!Ad) then some (false) else obind (d_spec_l1In fu Aa.fGram 1 p1.fGram) fun Af=>bif (!Af) then some (false) else d_spec_BoxesOk_J1 fu k3 Ab else some (true)
def d_spec_BoxesOk_L1 (fu:Nat)  (p1:Pallet) (Aa:List Box):Nat → Int → Option (Bool)
  | 0=>fun _=>none
  | n + 1=>d_spec_BoxesOk_L1_B fu p1 Aa (d_spec_BoxesOk_L1 fu p1 Aa n)

def d_spec_BoxesOk (fu:Nat) (p1:Pallet) (Ab:List Box):Option (Bool) :=
  obind (d_spec_PalletOk fu p1) fun Aa=>bif (!Aa) then some (false) else d_spec_BoxesOk_L1 fu p1 Ab fu 0

def d_spec_l1Max (fu:Nat) (a1:Int) (b2:Int):Option (Int) :=
  bif (decide (a1 > b2)) then some (a1) else some (b2)

def d_spec_l10Add (fu:Nat) (Aa:Shelf) (Ab:Int) (b6:Box):Option (Shelf) :=
  obind (apnd 8 (([]:List Int)) Aa.fList) fun Ad=>obind (apnd 8 Ad (([Ab]:List Int))) fun Ae=>obind (d_spec_l1Max fu Aa.fD b6.fD) fun Ac=>obind (d_spec_l1Max fu Aa.fH b6.fH) fun Af=>some ((⟨Ae,w64 (Aa.fW + b6.fW),Ac,Af,w64 (Aa.fGram + b6.fGram)⟩:Shelf))

def d_spec_Shelves_J1 (fu:Nat) (k4:List Shelf → Int → Option ((List Shelf))) (Aa:Int) (Ab:List Shelf):Option ((List Shelf)) :=
  k4 Ab (w64 (Aa + 1))

def d_spec_Shelves_L1_B (fu:Nat)  (p1:Pallet) (Ao:List Box) (Ac:(List Int)) (k4:List Shelf → Int → Option ((List Shelf))) (Aa:List Shelf) (Ab:Int):Option ((List Shelf)) :=
  bif (decide (Ab < ((Ac.length:Int)))) then obind (ix Ac Ab) fun Ae=>obind (ix Ao Ae) fun Ad=>bif (decide (((Aa.length:Int)) > 0)) then obind (ix Aa (w64 (((Aa.length:Int)) - 1))) fun Af=>bif (decide ((w64 (Af.fW + Ad.fW)) ≤ p1.fW)) then obind (ix Aa (w64 (((Aa.length:Int)) - 1))) fun Ap=>bif (decide ((w64 (Af.fGram + Ad.fGram)) ≤ p1.fGram)) then obind (ix Aa (w64 (((Aa.length:Int)) - 1))) fun Av=>obind (ix Ac Ab) fun Ar=>obind (d_spec_l10Add fu Af Ae Ad) fun Am=>obind (ix Aa (w64 (((Aa.length:Int)) - 1))) fun As=>d_spec_Shelves_J1 fu k4 Ab (setx Aa (w64 (((Aa.length:Int)) - 1)) Am) else obind (ix Ac Ab) fun Aq=>obind (d_spec_l10Add fu ((⟨[],0,0,0,0⟩:Shelf)) Ae Ad) fun Ah=>obind (apnd 56 Aa [Ah]) fun Aj=>d_spec_Shelves_J1 fu k4 Ab Aj else obind (ix Ac Ab) fun At=>obind (d_spec_l10Add fu ((⟨[],0,0,0,0⟩:Shelf)) Ae Ad) fun Ak=>obind (apnd 56 Aa [Ak]) fun Ag=>d_spec_Shelves_J1 fu k4 Ab Ag else obind (ix Ac Ab) fun Au=>obind (d_spec_l10Add fu ((⟨[],0,0,0,0⟩:Shelf)) Ae Ad) fun Ai=>obind (apnd 56 Aa [Ai]) fun Al=>d_spec_Shelves_J1 fu k4 Ab Al else some (Aa)
def d_spec_Shelves_L1 (fu:Nat)  (p1:Pallet) (Ab:List Box) (Aa:(List Int)):Nat → List Shelf → Int → Option ((List Shelf))
  | 0=>fun _ _=>none
  | n + 1=>d_spec_Shelves_L1_B fu p1 Ab Aa (d_spec_Shelves_L1 fu p1 Ab Aa n)

def d_spec_Shelves_L2_B (fu:Nat)  (p1:Pallet) (Aa:List Box) (k1:List Int → Int → Option ((List Shelf))) (Ac:List Int) (Ab:Int):Option ((List Shelf)) :=
  bif (decide (Ab < ((Aa.length:Int)))) then obind (ix Aa Ab) fun Ad=>obind (apnd 8 Ac (([Ad.fD]:List Int))) fun Ae=>k1 Ae (w64 (Ab + 1)) else obind (d_spec_SortDown fu Ac) fun Af=>d_spec_Shelves_L1 fu p1 Aa Af fu (([]:List Shelf)) 0
def d_spec_Shelves_L2 (fu:Nat)  (p1:Pallet) (Aa:List Box):Nat → List Int → Int → Option ((List Shelf))
  | 0=>fun _ _=>none
  | n + 1=>d_spec_Shelves_L2_B fu p1 Aa (d_spec_Shelves_L2 fu p1 Aa n)

def d_spec_Shelves (fu:Nat) (p1:Pallet) (Aa:List Box):Option ((List Shelf)) :=
  obind (d_spec_BoxesOk fu p1 Aa) fun Ab=>bif (!Ab) then some (([]:List Shelf)) else d_spec_Shelves_L2 fu p1 Aa fu (([]:List Int)) 0

def d_spec_l11Ok (fu:Nat) (p1:Pallet) (d2:Int) (h3:Int) (Ab:Int):Option (Bool) :=
  obind (d_spec_l1In fu d2 1 p1.fD) fun x8=>bif x8 then obind (d_spec_l1In fu h3 1 p1.fH) fun Ac=>bif Ac then obind (d_spec_l1In fu Ab 1 p1.fGram) fun Aa=>some (Aa) else some (false) else some (false)

def d_spec_ShelvesOk_L1_B (fu:Nat)  (p1:Pallet) (Ab:List Shelf) (k1:Int → Option (Bool)) (Aa:Int):Option (Bool) :=
  bif (decide (Aa < ((Ab.length:Int)))) then obind (ix Ab Aa) fun Ac=>obind (ix Ab Aa) fun Ae=>obind (ix Ab Aa) fun Af=>obind (d_spec_l11Ok fu p1 Ac.fD Ac.fH Ac.fGram) fun Ad=>bif (!Ad) then some (false) else k1 (w64 (Aa + 1)) else some (true)
def d_spec_ShelvesOk_L1 (fu:Nat)  (p1:Pallet) (Aa:List Shelf):Nat → Int → Option (Bool)
  | 0=>fun _=>none
  | n + 1=>d_spec_ShelvesOk_L1_B fu p1 Aa (d_spec_ShelvesOk_L1 fu p1 Aa n)

def d_spec_ShelvesOk (fu:Nat) (p1:Pallet) (Ab:List Shelf):Option (Bool) :=
  obind (d_spec_PalletOk fu p1) fun Aa=>bif (!Aa) then some (false) else d_spec_ShelvesOk_L1 fu p1 Ab fu 0

def d_spec_LayersOf_J1 (fu:Nat) (k7:List Layer → Int → Option ((List Layer))) (Ab:Int) (Aa:List Layer):Option ((List Layer)) :=
  k7 Aa (w64 (Ab + 1))

def d_spec_LayersOf_J2 (fu:Nat) (k7:List Layer → Int → Option ((List Layer))) (Ae:Int) (Ac:Shelf) (Ad:List Layer) (Ab:Int):Option ((List Layer)) :=
  obind (ix Ad (w64 (Ab - 1))) fun Aa=>obind (apnd 8 (([]:List Int)) Aa.fShelves) fun Ah=>obind (apnd 8 Ah (([Ae]:List Int))) fun Ag=>obind (d_spec_l1Max fu Aa.fH Ac.fH) fun Af=>obind (ix Ad (w64 (Ab - 1))) fun Ai=>d_spec_LayersOf_J1 fu k7 Ae (setx Ad (w64 (Ab - 1)) ((⟨Ag,w64 (Aa.fD + Ac.fD),Af,w64 (Aa.fGram + Ac.fGram)⟩:Layer)))

def d_spec_LayersOf_L1_B (fu:Nat)  (p1:Pallet) (Ae:List Shelf) (k7:List Layer → Int → Option ((List Layer))) (Aa:List Layer) (Ab:Int):Option ((List Layer)) :=
  bif (decide (Ab < ((Ae.length:Int)))) then obind (ix Ae Ab) fun Ac=>bif (((Aa.length:Int)) == 0) then obind (apnd 48 Aa [(⟨[],0,0,0⟩:Layer)]) fun Ah=>d_spec_LayersOf_J2 fu k7 Ab Ac Ah (w64 (((Aa.length:Int)) + 1)) else obind (ix Aa (w64 (((Aa.length:Int)) - 1))) fun Ad=>bif (decide ((w64 (Ad.fD + Ac.fD)) > p1.fD)) then obind (apnd 48 Aa [(⟨[],0,0,0⟩:Layer)]) fun Af=>d_spec_LayersOf_J2 fu k7 Ab Ac Af (w64 (((Aa.length:Int)) + 1)) else obind (ix Aa (w64 (((Aa.length:Int)) - 1))) fun Ai=>bif (decide ((w64 (Ad.fGram + Ac.fGram)) > p1.fGram)) then obind (apnd 48 Aa [(⟨[],0,0,0⟩:Layer)]) fun Ag=>d_spec_LayersOf_J2 fu k7 Ab Ac Ag (w64 (((Aa.length:Int)) + 1)) else d_spec_LayersOf_J2 fu k7 Ab Ac Aa ((Aa.length:Int)) else some (Aa)
def d_spec_LayersOf_L1 (fu:Nat)  (p1:Pallet) (Aa:List Shelf):Nat → List Layer → Int → Option ((List Layer))
  | 0=>fun _ _=>none
  | n + 1=>d_spec_LayersOf_L1_B fu p1 Aa (d_spec_LayersOf_L1 fu p1 Aa n)

def d_spec_LayersOf (fu:Nat) (p1:Pallet) (Aa:List Shelf):Option ((List Layer)) :=
  obind (d_spec_ShelvesOk fu p1 Aa) fun Ab=>bif (!Ab) then some (([]:List Layer)) else d_spec_LayersOf_L1 fu p1 Aa fu (([]:List Layer)) 0

def d_spec_StacksOk_L1_B (fu:Nat)  (p1:Pallet) (Ab:List Layer) (k1:Int → Option (Bool)) (Aa:Int):Option (Bool) :=
  bif (decide (Aa < ((Ab.length:Int)))) then obind (ix Ab Aa) fun Ac=>obind (ix Ab Aa) fun Ae=>obind (ix Ab Aa) fun Af=>obind (d_spec_l11Ok fu p1 Ac.fD Ac.fH Ac.fGram) fun Ad=>bif (!Ad) then some (false) else k1 (w64 (Aa + 1)) else some (true)
def d_spec_StacksOk_L1 (fu:Nat)  (p1:Pallet) (Aa:List Layer):Nat → Int → Option (Bool)
  | 0=>fun _=>none
  | n + 1=>d_spec_StacksOk_L1_B fu p1 Aa (d_spec_StacksOk_L1 fu p1 Aa n)

def d_spec_StacksOk (fu:Nat) (p1:Pallet) (Ab:List Layer):Option (Bool) :=
  obind (d_spec_PalletOk fu p1) fun Aa=>bif (!Aa) then some (false) else d_spec_StacksOk_L1 fu p1 Ab fu 0

def d_spec_LoadsOf_J1 (fu:Nat) (k7:List Load → Int → Option ((List Load))) (Ab:Int) (Aa:List Load):Option ((List Load)) :=
  k7 Aa (w64 (Ab + 1))

def d_spec_LoadsOf_J2 (fu:Nat) (k7:List Load → Int → Option ((List Load))) (Ae:Int) (Ad:Layer) (Ab:List Load) (Aa:Int):Option ((List Load)) :=
  obind (ix Ab (w64 (Aa - 1))) fun Ac=>obind (apnd 8 (([]:List Int)) Ac.fLayers) fun Ag=>obind (apnd 8 Ag (([Ae]:List Int))) fun Af=>obind (ix Ab (w64 (Aa - 1))) fun Ah=>d_spec_LoadsOf_J1 fu k7 Ae (setx Ab (w64 (Aa - 1)) ((⟨Af,w64 (Ac.fH + Ad.fH),w64 (Ac.fGram + Ad.fGram)⟩:Load)))

def d_spec_LoadsOf_L1_B (fu:Nat)  (p1:Pallet) (Ae:List Layer) (k7:List Load → Int → Option ((List Load))) (Aa:List Load) (Ac:Int):Option ((List Load)) :=
  bif (decide (Ac < ((Ae.length:Int)))) then obind (ix Ae Ac) fun Ab=>bif (((Aa.length:Int)) == 0) then obind (apnd 40 Aa [(⟨[],0,0⟩:Load)]) fun Ah=>d_spec_LoadsOf_J2 fu k7 Ac Ab Ah (w64 (((Aa.length:Int)) + 1)) else obind (ix Aa (w64 (((Aa.length:Int)) - 1))) fun Ad=>bif (decide ((w64 (Ad.fH + Ab.fH)) > p1.fH)) then obind (apnd 40 Aa [(⟨[],0,0⟩:Load)]) fun Ag=>d_spec_LoadsOf_J2 fu k7 Ac Ab Ag (w64 (((Aa.length:Int)) + 1)) else obind (ix Aa (w64 (((Aa.length:Int)) - 1))) fun Ai=>bif (decide ((w64 (Ad.fGram + Ab.fGram)) > p1.fGram)) then obind (apnd 40 Aa [(⟨[],0,0⟩:Load)]) fun Af=>d_spec_LoadsOf_J2 fu k7 Ac Ab Af (w64 (((Aa.length:Int)) + 1)) else d_spec_LoadsOf_J2 fu k7 Ac Ab Aa ((Aa.length:Int)) else some (Aa)
def d_spec_LoadsOf_L1 (fu:Nat)  (p1:Pallet) (Aa:List Layer):Nat → List Load → Int → Option ((List Load))
  | 0=>fun _ _=>none
  | n + 1=>d_spec_LoadsOf_L1_B fu p1 Aa (d_spec_LoadsOf_L1 fu p1 Aa n)

def d_spec_LoadsOf (fu:Nat) (p1:Pallet) (Aa:List Layer):Option ((List Load)) :=
  obind (d_spec_StacksOk fu p1 Aa) fun Ab=>bif (!Ab) then some (([]:List Load)) else d_spec_LoadsOf_L1 fu p1 Aa fu (([]:List Load)) 0

def d_spec_SpotsOf_L1_B (fu:Nat) (Ak:List Spot → Int → Int → Option ((List Spot))) (Al:List Box) (Ag:Int) (Am:Int) (Af:Int) (Aj:Int) (Ab:Shelf) (Ai:List Spot → Int → Int → Option ((List Spot))) (Ad:List Spot) (Ae:Int) (Aa:Int):Option ((List Spot)) :=
  bif (decide (Aa < ((Ab.fList.length:Int)))) then obind (ix Ab.fList Aa) fun Ac=>obind (ix Ad Ac) fun Ao=>obind (ix Ab.fList Aa) fun Ap=>obind (ix Al Ac) fun Ah=>Ai (setx Ad Ac ((⟨Ag,Ae,Af,Am⟩:Spot))) (w64 (Ae + Ah.fW)) (w64 (Aa + 1)) else Ak Ad (w64 (Af + Ab.fD)) (w64 (Aj + 1))
def d_spec_SpotsOf_L1 (fu:Nat) (Ad:List Spot → Int → Int → Option ((List Spot))) (Ae:List Box) (Aa:Int) (Ag:Int) (Ab:Int) (Ac:Int) (Af:Shelf):Nat → List Spot → Int → Int → Option ((List Spot))
  | 0=>fun _ _ _=>none
  | n + 1=>d_spec_SpotsOf_L1_B fu Ad Ae Aa Ag Ab Ac Af (d_spec_SpotsOf_L1 fu Ad Ae Aa Ag Ab Ac Af n)

def d_spec_SpotsOf_L2_B (fu:Nat) (Ae:List Spot → Int → Int → Option ((List Spot))) (Al:List Box) (Ah:(List Shelf)) (Af:Int) (Ad:Int) (Ag:Int) (Ab:Layer) (Aj:List Spot → Int → Int → Option ((List Spot))) (Ac:List Spot) (Ai:Int) (Aa:Int):Option ((List Spot)) :=
  bif (decide (Aa < ((Ab.fShelves.length:Int)))) then obind (ix Ab.fShelves Aa) fun Ak=>obind (ix Ah Ak) fun Am=>d_spec_SpotsOf_L1 fu Aj Al Af Ad Ai Aa Am fu Ac 0 0 else Ae Ac (w64 (Ad + Ab.fH)) (w64 (Ag + 1))
def d_spec_SpotsOf_L2 (fu:Nat) (Aa:List Spot → Int → Int → Option ((List Spot))) (Af:List Box) (Ad:(List Shelf)) (Ab:Int) (Ag:Int) (Ac:Int) (Ae:Layer):Nat → List Spot → Int → Int → Option ((List Spot))
  | 0=>fun _ _ _=>none
  | n + 1=>d_spec_SpotsOf_L2_B fu Aa Af Ad Ab Ag Ac Ae (d_spec_SpotsOf_L2 fu Aa Af Ad Ab Ag Ac Ae n)

def d_spec_SpotsOf_L3_B (fu:Nat) (Al:List Spot → Int → Option ((List Spot))) (Aj:List Box) (Ag:(List Shelf)) (Ak:(List Layer)) (Ae:(List Load)) (Aa:Int) (Af:List Spot → Int → Int → Option ((List Spot))) (Ac:List Spot) (Am:Int) (Ab:Int):Option ((List Spot)) :=
  obind (ix Ae Aa) fun Ad=>bif (decide (Ab < ((Ad.fLayers.length:Int)))) then obind (ix Ae Aa) fun Ao=>obind (ix Ad.fLayers Ab) fun Ah=>obind (ix Ak Ah) fun Ai=>d_spec_SpotsOf_L2 fu Af Aj Ag Aa Am Ab Ai fu Ac 0 0 else Al Ac (w64 (Aa + 1))
def d_spec_SpotsOf_L3 (fu:Nat) (Af:List Spot → Int → Option ((List Spot))) (Ae:List Box) (Ab:(List Shelf)) (Ad:(List Layer)) (Ac:(List Load)) (Aa:Int):Nat → List Spot → Int → Int → Option ((List Spot))
  | 0=>fun _ _ _=>none
  | n + 1=>d_spec_SpotsOf_L3_B fu Af Ae Ab Ad Ac Aa (d_spec_SpotsOf_L3 fu Af Ae Ab Ad Ac Aa n)

def d_spec_SpotsOf_L4_B (fu:Nat)  (Af:List Box) (Ad:(List Shelf)) (Ae:(List Layer)) (Ab:(List Load)) (Ag:List Spot → Int → Option ((List Spot))) (Ac:List Spot) (Aa:Int):Option ((List Spot)) :=
  bif (decide (Aa < ((Ab.length:Int)))) then d_spec_SpotsOf_L3 fu Ag Af Ad Ae Ab Aa fu Ac 0 0 else some (Ac)
def d_spec_SpotsOf_L4 (fu:Nat)  (Ac:List Box) (Ad:(List Shelf)) (Ab:(List Layer)) (Aa:(List Load)):Nat → List Spot → Int → Option ((List Spot))
  | 0=>fun _ _=>none
  | n + 1=>d_spec_SpotsOf_L4_B fu Ac Ad Ab Aa (d_spec_SpotsOf_L4 fu Ac Ad Ab Aa n)

def d_spec_SpotsOf (fu:Nat) (p1:Pallet) (Aa:List Box):Option ((List Spot)) :=
  obind (mk 32 (⟨(0:Int),(0:Int),(0:Int),(0:Int)⟩:Spot) ((Aa.length:Int))) fun Ae=>obind (d_spec_BoxesOk fu p1 Aa) fun Ad=>bif (!Ad) then some (([]:List Spot)) else obind (d_spec_Shelves fu p1 Aa) fun Ab=>obind (d_spec_LayersOf fu p1 Ab) fun Ac=>obind (d_spec_LoadsOf fu p1 Ac) fun Af=>d_spec_SpotsOf_L4 fu Aa Ab Ac Af fu Ae 0

def d_spec_Pallets_J1 (fu:Nat) (k3:Int → Int → Option (Int)) (Ab:Int) (Aa:Int):Option (Int) :=
  k3 Aa (w64 (Ab + 1))

def d_spec_Pallets_L1_B (fu:Nat)  (Ab:List Spot) (k3:Int → Int → Option (Int)) (Ac:Int) (Aa:Int):Option (Int) :=
  bif (decide (Aa < ((Ab.length:Int)))) then obind (ix Ab Aa) fun Ad=>obind (d_spec_l1In fu Ad.fPallet 0 999999) fun Af=>bif Af then obind (ix Ab Aa) fun Ag=>obind (d_spec_l1Max fu Ac (w64 (Ad.fPallet + 1))) fun Ae=>d_spec_Pallets_J1 fu k3 Aa Ae else d_spec_Pallets_J1 fu k3 Aa Ac else some (Ac)
def d_spec_Pallets_L1 (fu:Nat)  (Aa:List Spot):Nat → Int → Int → Option (Int)
  | 0=>fun _ _=>none
  | n + 1=>d_spec_Pallets_L1_B fu Aa (d_spec_Pallets_L1 fu Aa n)

def d_spec_Pallets (fu:Nat) (Aa:List Spot):Option (Int) :=
  d_spec_Pallets_L1 fu Aa fu 0 0

def d_spec_PlanOf_J1 (fu:Nat) (Ab:List Box → Int → Option (Plan × Bool)) (Aa:Int) (Ac:List Box):Option (Plan × Bool) :=
  Ab Ac (w64 (Aa + 1))

def d_spec_PlanOf_L1_B (fu:Nat) (Ag:List Spot → Int → Int → Option (Plan × Bool)) (Ad:Int) (Af:Int) (Ab:(List Spot)) (Aj:List Spot → Int → Option (Plan × Bool)) (Ae:List Spot) (Ac:Int):Option (Plan × Bool) :=
  bif (decide (Ac < ((Ab.length:Int)))) then obind (ix Ab Ac) fun Aa=>obind (apnd 32 Ae (([(⟨w64 (Aa.fPallet + Ad),Aa.fX,Aa.fY,Aa.fZ⟩:Spot)]:List Spot))) fun Ai=>Aj Ai (w64 (Ac + 1)) else obind (d_spec_Pallets fu Ab) fun Ah=>Ag Ae (w64 (Ad + Ah)) (w64 (Af + 1))
def d_spec_PlanOf_L1 (fu:Nat) (Ab:List Spot → Int → Int → Option (Plan × Bool)) (Aa:Int) (Ad:Int) (Ac:(List Spot)):Nat → List Spot → Int → Option (Plan × Bool)
  | 0=>fun _ _=>none
  | n + 1=>d_spec_PlanOf_L1_B fu Ab Aa Ad Ac (d_spec_PlanOf_L1 fu Ab Aa Ad Ac n)

def d_spec_PlanOf_L2_B (fu:Nat) (Ai:List Spot → Int → Int → Option (Plan × Bool)) (r1:Request) (Ac:(List Carton)) (Al:List Spot) (Ag:Int) (Ae:Int) (Af:List Box → Int → Option (Plan × Bool)) (Ab:List Box) (Aa:Int):Option (Plan × Bool) :=
  bif (decide (Aa < ((Ac.length:Int)))) then obind (ix Ac Aa) fun Ad=>bif (Ad.fGroup == Ae) then obind (ix Ac Aa) fun Am=>obind (d_spec_BoxOf fu r1 Ad) fun Aj=>obind (apnd 32 Ab (([Aj]:List Box))) fun Ah=>d_spec_PlanOf_J1 fu Af Aa Ah else d_spec_PlanOf_J1 fu Af Aa Ab else obind (d_spec_SpotsOf fu r1.fPallet Ab) fun Ak=>d_spec_PlanOf_L1 fu Ai Ag Ae Ak fu Al 0
def d_spec_PlanOf_L2 (fu:Nat) (Ac:List Spot → Int → Int → Option (Plan × Bool)) (r1:Request) (Ae:(List Carton)) (Ad:List Spot) (Aa:Int) (Ab:Int):Nat → List Box → Int → Option (Plan × Bool)
  | 0=>fun _ _=>none
  | n + 1=>d_spec_PlanOf_L2_B fu Ac r1 Ae Ad Aa Ab (d_spec_PlanOf_L2 fu Ac r1 Ae Ad Aa Ab n)

def d_spec_PlanOf_L3_B (fu:Nat)  (r1:Request) (Ac:(List Carton)) (Af:(List (List Int))) (Ae:List Spot → Int → Int → Option (Plan × Bool)) (Ab:List Spot) (Ad:Int) (Aa:Int):Option (Plan × Bool) :=
  bif (decide (Aa < ((Af.length:Int)))) then d_spec_PlanOf_L2 fu Ae r1 Ac Ab Ad Aa fu (([]:List Box)) 0 else some ((⟨Ac,Ab⟩:Plan),true)
def d_spec_PlanOf_L3 (fu:Nat)  (r1:Request) (Aa:(List Carton)) (Ab:(List (List Int))):Nat → List Spot → Int → Int → Option (Plan × Bool)
  | 0=>fun _ _ _=>none
  | n + 1=>d_spec_PlanOf_L3_B fu r1 Aa Ab (d_spec_PlanOf_L3 fu r1 Aa Ab n)

def d_spec_PlanOf (fu:Nat) (r1:Request):Option (Plan × Bool) :=
  obind (d_spec_Class fu r1) fun Aa=>bif (Aa != 0) then some ((⟨[],[]⟩:Plan),false) else obind (d_spec_CartonsOf fu r1) fun Ab=>obind (d_spec_GroupsOf fu r1) fun Ac=>d_spec_PlanOf_L3 fu r1 Ab Ac fu (([]:List Spot)) 0 0

def d_strconv_Itoa (fu:Nat) (x1:Int):Option ByteArray:=itoaO x1

def d_impl_Digits (fu:Nat) (n1:Int):Option (ByteArray) :=
  obind (d_strconv_Itoa fu n1) fun x2=>some (x2)

def d_impl_textLine_L1_B (fu:Nat)  (Ad:List Int) (k1:ByteArray → Int → Option (ByteArray × Bool)) (Ac:ByteArray) (Aa:Int):Option (ByteArray × Bool) :=
  bif (decide (Aa < ((Ad.length:Int)))) then obind (ix Ad Aa) fun Ab=>obind (d_impl_in fu Ab 0 999999) fun Ae=>bif (!Ae) then some ((⟨#[]⟩:ByteArray),false) else obind (d_impl_Digits fu Ab) fun Ah=>obind (scat ((⟨#[32]⟩:ByteArray)) Ah) fun Af=>obind (scat Ac Af) fun Ag=>k1 Ag (w64 (Aa + 1)) else obind (scat Ac ((⟨#[10]⟩:ByteArray))) fun Ai=>some (Ai,true)
def d_impl_textLine_L1 (fu:Nat)  (Aa:List Int):Nat → ByteArray → Int → Option (ByteArray × Bool)
  | 0=>fun _ _=>none
  | n + 1=>d_impl_textLine_L1_B fu Aa (d_impl_textLine_L1 fu Aa n)

def d_impl_textLine (fu:Nat) (Aa:ByteArray) (Ab:List Int):Option (ByteArray × Bool) :=
  d_impl_textLine_L1 fu Ab fu Aa 0

def d_impl_OrderText_1_J1 (fu:Nat) (o8:List ByteArray) (Aa:ByteArray × Bool) (Ab:Bool):Option ((Bool × (List ByteArray))) :=
  obind (apnd 16 o8 (([Aa.1]:List ByteArray))) fun Ac=>some ((Ab,Ac))

def d_impl_OrderText_1 (fu:Nat) (Ab:ByteArray) (Ac:List Int) (g6:Bool) (o8:List ByteArray):Option ((Bool × (List ByteArray))) :=
  obind (d_impl_textLine fu Ab Ac) fun Aa=>bif g6 then d_impl_OrderText_1_J1 fu o8 Aa Aa.2 else d_impl_OrderText_1_J1 fu o8 Aa false

def d_strings_Join (fu:Nat) (x1:List ByteArray) (x2:ByteArray):Option ByteArray:=joinO x1 x2

def d_impl_OrderText_L1_B (fu:Nat)  (r1:Request) (k3:List ByteArray → Bool → Int → Option (ByteArray)) (Ae:List ByteArray) (Ad:Bool) (Ab:Int):Option (ByteArray) :=
  bif (decide (Ab < ((r1.fItems.length:Int)))) then obind (ix r1.fItems Ab) fun Aa=>obind (d_impl_OrderText_1 fu ((⟨#[105,116,101,109]⟩:ByteArray)) (([Aa.fId,Aa.fW,Aa.fH,Aa.fD,Aa.fGram,Aa.fClass,Aa.fCount]:List Int)) Ad Ae) fun Ac=>k3 Ac.2 Ac.1 (w64 (Ab + 1)) else bif (!Ad) then some ((⟨#[]⟩:ByteArray)) else obind (d_strings_Join fu Ae ((⟨#[]⟩:ByteArray))) fun Af=>some (Af)
def d_impl_OrderText_L1 (fu:Nat)  (r1:Request):Nat → List ByteArray → Bool → Int → Option (ByteArray)
  | 0=>fun _ _ _=>none
  | n + 1=>d_impl_OrderText_L1_B fu r1 (d_impl_OrderText_L1 fu r1 n)

def d_impl_OrderText_L2_B (fu:Nat)  (r1:Request) (k2:List ByteArray → Bool → Int → Option (ByteArray)) (Ad:List ByteArray) (Af:Bool) (Ab:Int):Option (ByteArray) :=
  bif (decide (Ab < ((r1.fTypes.length:Int)))) then obind (ix r1.fTypes Ab) fun Aa=>obind (d_impl_OrderText_1 fu ((⟨#[116,121,112,101]⟩:ByteArray)) (([Aa.fId,Aa.fW,Aa.fH,Aa.fD,Aa.fTare,Aa.fGram,Aa.fCost]:List Int)) Af Ad) fun Ae=>k2 Ae.2 Ae.1 (w64 (Ab + 1)) else obind (d_impl_OrderText_1 fu ((⟨#[109,97,115,116,101,114]⟩:ByteArray)) (([r1.fMaster]:List Int)) Af Ad) fun Ac=>d_impl_OrderText_L1 fu r1 fu Ac.2 Ac.1 0
def d_impl_OrderText_L2 (fu:Nat)  (r1:Request):Nat → List ByteArray → Bool → Int → Option (ByteArray)
  | 0=>fun _ _ _=>none
  | n + 1=>d_impl_OrderText_L2_B fu r1 (d_impl_OrderText_L2 fu r1 n)

def d_impl_OrderText_L3_B (fu:Nat)  (r1:Request) (k1:List ByteArray → Bool → Int → Option (ByteArray)) (Ac:List ByteArray) (Ae:Bool) (Aa:Int):Option (ByteArray) :=
  bif (decide (Aa < ((r1.fPairs.length:Int)))) then obind (ix r1.fPairs Aa) fun Ad=>obind (d_impl_OrderText_1 fu ((⟨#[119,105,116,104]⟩:ByteArray)) (([Ad.fA,Ad.fB]:List Int)) Ae Ac) fun Ab=>k1 Ab.2 Ab.1 (w64 (Aa + 1)) else d_impl_OrderText_L2 fu r1 fu Ac Ae 0
def d_impl_OrderText_L3 (fu:Nat)  (r1:Request):Nat → List ByteArray → Bool → Int → Option (ByteArray)
  | 0=>fun _ _ _=>none
  | n + 1=>d_impl_OrderText_L3_B fu r1 (d_impl_OrderText_L3 fu r1 n)

def d_impl_OrderText (fu:Nat) (r1:Request):Option (ByteArray) :=
  obind (d_impl_in fu r1.fWay 0 1) fun Ad=>bif (!Ad) then some ((⟨#[]⟩:ByteArray)) else obind (ix (([(⟨#[119,97,121,32,102,105,114,115,116,10]⟩:ByteArray),(⟨#[119,97,121,32,110,101,120,116,10]⟩:ByteArray)]:List ByteArray)) r1.fWay) fun Ac=>obind (d_impl_OrderText_1 fu ((⟨#[112,97,108,108,101,116]⟩:ByteArray)) (([r1.fPallet.fW,r1.fPallet.fD,r1.fPallet.fH,r1.fPallet.fGram]:List Int)) true (([Ac]:List ByteArray))) fun Ab=>obind (d_impl_OrderText_1 fu ((⟨#[99,108,97,115,115,101,115]⟩:ByteArray)) (([r1.fClasses]:List Int)) Ab.1 Ab.2) fun Aa=>d_impl_OrderText_L3 fu r1 fu Aa.2 Aa.1 0

def d_impl_Parts_J1 (fu:Nat) (k3:List ByteArray → Int → Int → Option ((List ByteArray))) (Ab:Int) (Ac:List ByteArray) (Aa:Int):Option ((List ByteArray)) :=
  k3 Ac Aa (w64 (Ab + 1))

def d_impl_Parts_L1_B (fu:Nat)  (Ab:ByteArray) (Ai:Int) (k3:List ByteArray → Int → Int → Option ((List ByteArray))) (Ad:List ByteArray) (Ac:Int) (Aa:Int):Option ((List ByteArray)) :=
  bif (decide (Aa < ((Ab.size:Int)))) then obind (sx Ab Aa) fun Ag=>bif (Ag == Ai) then obind (ssl Ab Ac Aa) fun Af=>obind (apnd 16 Ad (([Af]:List ByteArray))) fun Ae=>d_impl_Parts_J1 fu k3 Aa Ae (w64 (Aa + 1)) else d_impl_Parts_J1 fu k3 Aa Ad Ac else obind (ssl Ab Ac (Ab.size:Int)) fun Aj=>obind (apnd 16 Ad (([Aj]:List ByteArray))) fun Ah=>some (Ah)
def d_impl_Parts_L1 (fu:Nat)  (Aa:ByteArray) (Ab:Int):Nat → List ByteArray → Int → Int → Option ((List ByteArray))
  | 0=>fun _ _ _=>none
  | n + 1=>d_impl_Parts_L1_B fu Aa Ab (d_impl_Parts_L1 fu Aa Ab n)

def d_impl_Parts (fu:Nat) (Aa:ByteArray) (Ab:Int):Option ((List ByteArray)) :=
  d_impl_Parts_L1 fu Aa Ab fu (([]:List ByteArray)) 0 0

def d_strconv_Atoi (fu:Nat) (x1:ByteArray):Option (Int × Bool):=atoiO x1

def d_impl_Number_J1 (fu:Nat) (x2:Int × Bool)  : Option (Int × Bool) :=
  some (x2.1,true)

def d_impl_Number (fu:Nat) (Aa:ByteArray):Option (Int × Bool) :=
  obind (d_strconv_Atoi fu Aa) fun x2=>bif x2.2 then some (0,false) else obind (d_impl_in fu x2.1 0 999999) fun Ab=>bif (!Ab) then some (0,false) else obind (d_impl_Digits fu x2.1) fun Ac=>bif (!(Ac.toList == Aa.toList)) then some (0,false) else d_impl_Number_J1 fu x2

def d_impl_wordsOf_L1_B (fu:Nat)  (Ac:List ByteArray) (k2:List Int → Int → Option ((List Int) × Bool)) (Ad:List Int) (Aa:Int):Option ((List Int) × Bool) :=
  bif (decide (Aa < ((Ac.length:Int)))) then obind (ix Ac Aa) fun Ae=>obind (d_impl_Number fu Ae) fun Ab=>bif (!Ab.2) then some (([]:List Int),false) else obind (apnd 8 Ad (([Ab.1]:List Int))) fun Af=>k2 Af (w64 (Aa + 1)) else some (Ad,true)
def d_impl_wordsOf_L1 (fu:Nat)  (Aa:List ByteArray):Nat → List Int → Int → Option ((List Int) × Bool)
  | 0=>fun _ _=>none
  | n + 1=>d_impl_wordsOf_L1_B fu Aa (d_impl_wordsOf_L1 fu Aa n)

def d_impl_wordsOf_J1 (fu:Nat) (x4:(List ByteArray))  : Option ((List Int) × Bool) :=
  obind (sls x4 1 (x4.length:Int)) fun Aa=>d_impl_wordsOf_L1 fu Aa fu (([]:List Int)) 0

def d_impl_wordsOf (fu:Nat) (Aa:ByteArray) (Ac:ByteArray) (Ab:Int):Option ((List Int) × Bool) :=
  obind (d_impl_Parts fu Aa 32) fun x4=>obind (ix x4 0) fun Ad=>bif (!(Ad.toList == Ac.toList)) then some (([]:List Int),false) else bif (((x4.length:Int)) != (w64 (Ab + 1))) then some (([]:List Int),false) else d_impl_wordsOf_J1 fu x4

def d_impl_putLine (fu:Nat) (r1:Request) (Ac:ByteArray):Option (Int × Request) :=
  bif (Ac.toList == ((⟨#[119,97,121,32,102,105,114,115,116]⟩:ByteArray)).toList) then some (0,(⟨0,r1.fPallet,r1.fClasses,r1.fPairs,r1.fTypes,r1.fMaster,r1.fItems⟩:Request)) else bif (Ac.toList == ((⟨#[119,97,121,32,110,101,120,116]⟩:ByteArray)).toList) then some (0,(⟨1,r1.fPallet,r1.fClasses,r1.fPairs,r1.fTypes,r1.fMaster,r1.fItems⟩:Request)) else obind (d_impl_wordsOf fu Ac ((⟨#[112,97,108,108,101,116]⟩:ByteArray)) 4) fun Ad=>bif Ad.2 then obind (ix Ad.1 0) fun Bf=>obind (ix Ad.1 1) fun Bb=>obind (ix Ad.1 2) fun Aj=>obind (ix Ad.1 3) fun Az=>some (1,(⟨r1.fWay,(⟨Bf,Bb,Aj,Az⟩:Pallet),r1.fClasses,r1.fPairs,r1.fTypes,r1.fMaster,r1.fItems⟩:Request)) else obind (d_impl_wordsOf fu Ac ((⟨#[99,108,97,115,115,101,115]⟩:ByteArray)) 1) fun Ag=>bif Ag.2 then obind (ix Ag.1 0) fun Aq=>some (2,(⟨r1.fWay,r1.fPallet,Aq,r1.fPairs,r1.fTypes,r1.fMaster,r1.fItems⟩:Request)) else obind (d_impl_wordsOf fu Ac ((⟨#[119,105,116,104]⟩:ByteArray)) 2) fun Ae=>bif Ae.2 then obind (ix Ae.1 0) fun Ai=>obind (ix Ae.1 1) fun Ao=>obind (apnd 16 r1.fPairs (([(⟨Ai,Ao⟩:Pair)]:List Pair))) fun Ar=>some (3,(⟨r1.fWay,r1.fPallet,r1.fClasses,Ar,r1.fTypes,r1.fMaster,r1.fItems⟩:Request)) else obind (d_impl_wordsOf fu Ac ((⟨#[116,121,112,101]⟩:ByteArray)) 7) fun Ab=>bif Ab.2 then obind (ix Ab.1 0) fun Ay=>obind (ix Ab.1 1) fun Am=>obind (ix Ab.1 2) fun Al=>obind (ix Ab.1 3) fun Ba=>obind (ix Ab.1 4) fun Ap=>obind (ix Ab.1 5) fun Ax=>obind (ix Ab.1 6) fun At=>obind (apnd 56 r1.fTypes (([(⟨Ay,Am,Al,Ba,Ap,Ax,At⟩:Typ)]:List Typ))) fun Au=>some (4,(⟨r1.fWay,r1.fPallet,r1.fClasses,r1.fPairs,Au,r1.fMaster,r1.fItems⟩:Request)) else obind (d_impl_wordsOf fu Ac ((⟨#[109,97,115,116,101,114]⟩:ByteArray)) 1) fun Af=>bif Af.2 then obind (ix Af.1 0) fun Bd=>some (5,(⟨r1.fWay,r1.fPallet,r1.fClasses,r1.fPairs,r1.fTypes,Bd,r1.fItems⟩:Request)) else obind (d_impl_wordsOf fu Ac ((⟨#[105,116,101,109]⟩:ByteArray)) 7) fun Aa=>bif Aa.2 then obind (ix Aa.1 0) fun Aw=>obind (ix Aa.1 1) fun Av=>obind (ix Aa.1 2) fun Ak=>obind (ix Aa.1 3) fun Bc=>obind (ix Aa.1 4) fun Ah=>obind (ix Aa.1 5) fun Bg=>obind (ix Aa.1 6) fun As=>obind (apnd 56 r1.fItems (([(⟨Aw,Av,Ak,Bc,Ah,Bg,As⟩:Item)]:List Item))) fun Be=>some (6,(⟨r1.fWay,r1.fPallet,r1.fClasses,r1.fPairs,r1.fTypes,r1.fMaster,Be⟩:Request)) else some ((-1),r1)

def d_impl_mayFollow_J1 (fu:Nat)   : Option (Bool) :=
  some (false)

def d_impl_mayFollow (fu:Nat) (Aa:Int) (Ab:Int):Option (Bool) :=
  bif (Ab == 0) then bif (Ab == 0) then some (Aa == (w64 (Ab - 1))) else bif (Ab == 3) then bif (Aa == 2) then some (true) else some (Aa == 3) else bif (Ab == 4) then obind (d_impl_in fu Aa 2 4) fun Af=>some (Af) else bif (Ab == 5) then obind (d_impl_in fu Aa 2 4) fun Ac=>some (Ac) else bif (Ab == 6) then bif (Aa == 5) then some (true) else some (Aa == 6) else d_impl_mayFollow_J1 fu else bif (Ab == 1) then bif (Ab == 1) then some (Aa == (w64 (Ab - 1))) else bif (Ab == 3) then bif (Aa == 2) then some (true) else some (Aa == 3) else bif (Ab == 4) then obind (d_impl_in fu Aa 2 4) fun Ae=>some (Ae) else bif (Ab == 5) then obind (d_impl_in fu Aa 2 4) fun Ah=>some (Ah) else bif (Ab == 6) then bif (Aa == 5) then some (true) else some (Aa == 6) else d_impl_mayFollow_J1 fu else bif (Ab == 2) then some (Aa == (w64 (Ab - 1))) else bif (Ab == 3) then bif (Aa == 2) then some (true) else some (Aa == 3) else bif (Ab == 4) then obind (d_impl_in fu Aa 2 4) fun Ag=>some (Ag) else bif (Ab == 5) then obind (d_impl_in fu Aa 2 4) fun Ad=>some (Ad) else bif (Ab == 6) then bif (Aa == 5) then some (true) else some (Aa == 6) else d_impl_mayFollow_J1 fu

def d_impl_ReadOrder_L1_B (fu:Nat)  (x5:(List ByteArray)) (Ao:List ByteArray) (k1:Int → Int → Int → Int → Int → Int → List Pair → List Typ → Int → List Item → Int → Int → Option (Request × Int)) (Ae:Int) (Aj:Int) (Af:Int) (Ac:Int) (Ag:Int) (Ah:Int) (Ad:List Pair) (Ak:List Typ) (Am:Int) (Ai:List Item) (Al:Int) (Ab:Int):Option (Request × Int) :=
  bif (decide (Ab < ((Ao.length:Int)))) then obind (ix Ao Ab) fun Ap=>obind (d_impl_putLine fu ((⟨Ae,(⟨Aj,Af,Ac,Ag⟩:Pallet),Ah,Ad,Ak,Am,Ai⟩:Request)) Ap) fun Aa=>obind (d_impl_mayFollow fu Al Aa.1) fun Aq=>bif (!Aq) then some ((⟨0,(⟨0,0,0,0⟩:Pallet),0,[],[],0,[]⟩:Request),Ab) else k1 Aa.2.fWay Aa.2.fPallet.fW Aa.2.fPallet.fD Aa.2.fPallet.fH Aa.2.fPallet.fGram Aa.2.fClasses Aa.2.fPairs Aa.2.fTypes Aa.2.fMaster Aa.2.fItems Aa.1 (w64 (Ab + 1)) else bif (decide (Al < 5)) then some ((⟨0,(⟨0,0,0,0⟩:Pallet),0,[],[],0,[]⟩:Request),w64 (((x5.length:Int)) - 1)) else obind (ix x5 (w64 (((x5.length:Int)) - 1))) fun Ar=>bif (!(Ar.toList == ((⟨#[]⟩:ByteArray)).toList)) then some ((⟨0,(⟨0,0,0,0⟩:Pallet),0,[],[],0,[]⟩:Request),w64 (((x5.length:Int)) - 1)) else some ((⟨Ae,(⟨Aj,Af,Ac,Ag⟩:Pallet),Ah,Ad,Ak,Am,Ai⟩:Request),(-1))
def d_impl_ReadOrder_L1 (fu:Nat)  (x5:(List ByteArray)) (Aa:List ByteArray):Nat → Int → Int → Int → Int → Int → Int → List Pair → List Typ → Int → List Item → Int → Int → Option (Request × Int)
  | 0=>fun _ _ _ _ _ _ _ _ _ _ _ _=>none
  | n + 1=>d_impl_ReadOrder_L1_B fu x5 Aa (d_impl_ReadOrder_L1 fu x5 Aa n)

def d_impl_ReadOrder (fu:Nat) (Aa:ByteArray):Option (Request × Int) :=
  obind (d_impl_Parts fu Aa 10) fun x5=>bif (decide ((w64 (((x5.length:Int)) - 1)) > 60)) then some ((⟨0,(⟨0,0,0,0⟩:Pallet),0,[],[],0,[]⟩:Request),60) else obind (sls x5 0 (w64 (((x5.length:Int)) - 1))) fun Ab=>d_impl_ReadOrder_L1 fu x5 Ab fu 0 0 0 0 0 0 (([]:List Pair)) (([]:List Typ)) 0 (([]:List Item)) ((-1)) 0

def d_impl_ClassOf (fu:Nat) (Aa:ByteArray):Option (Int) :=
  obind (d_impl_ReadOrder fu Aa) fun x2=>bif (decide (x2.2 ≥ 0)) then some (1) else obind (d_impl_Class fu x2.1) fun Ab=>some (Ab)

def d_impl_unitsRight_J1 (fu:Nat) (k3:Int → Option (Bool)) (Aa:Int)  : Option (Bool) :=
  k3 (w64 (Aa + 1))

def d_impl_unitsRight_L1_B (fu:Nat)  (Ab:List Int) (k3:Int → Option (Bool)) (Aa:Int):Option (Bool) :=
  bif (decide (Aa < ((Ab.length:Int)))) then obind (ix Ab Aa) fun Ac=>obind (d_impl_in fu Ac 0 999) fun Ad=>bif (!Ad) then some (false) else bif (decide (Aa > 0)) then obind (ix Ab (w64 (Aa - 1))) fun Ae=>bif (decide (Ae ≥ Ac)) then some (false) else d_impl_unitsRight_J1 fu k3 Aa else d_impl_unitsRight_J1 fu k3 Aa else some (decide (((Ab.length:Int)) ≤ 100))
def d_impl_unitsRight_L1 (fu:Nat)  (Aa:List Int):Nat → Int → Option (Bool)
  | 0=>fun _=>none
  | n + 1=>d_impl_unitsRight_L1_B fu Aa (d_impl_unitsRight_L1 fu Aa n)

def d_impl_unitsRight (fu:Nat) (Aa:List Int):Option (Bool) :=
  d_impl_unitsRight_L1 fu Aa fu 0

def d_impl_isPlace (fu:Nat) (n1:Int):Option (Bool) :=
  obind (d_impl_in fu n1 0 2000) fun x2=>some (x2)

def d_impl_PlanOk_J1 (fu:Nat) (k4:Int → Option (Bool)) (Aa:Int)  : Option (Bool) :=
  k4 (w64 (Aa + 1))

def d_impl_PlanOk_L1_B (fu:Nat)  (x1:Plan) (k4:Int → Option (Bool)) (Aa:Int):Option (Bool) :=
  bif (decide (Aa < ((x1.fCartons.length:Int)))) then obind (ix x1.fCartons Aa) fun Ac=>obind (ix x1.fSpots Aa) fun Ab=>obind (d_impl_in fu Ac.fType 0 999) fun Ae=>bif (!Ae) then some (false) else obind (d_impl_in fu Ac.fGroup 0 3) fun Ad=>bif (!Ad) then some (false) else obind (d_impl_unitsRight fu Ac.fUnits) fun Aj=>bif (!Aj) then some (false) else obind (d_impl_isPlace fu Ab.fPallet) fun Ai=>bif (!Ai) then some (false) else obind (d_impl_isPlace fu Ab.fX) fun Ah=>bif (!Ah) then some (false) else obind (d_impl_isPlace fu Ab.fY) fun Af=>bif (!Af) then some (false) else obind (d_impl_isPlace fu Ab.fZ) fun Ag=>bif (!Ag) then some (false) else d_impl_PlanOk_J1 fu k4 Aa else some (true)
def d_impl_PlanOk_L1 (fu:Nat)  (x1:Plan):Nat → Int → Option (Bool)
  | 0=>fun _=>none
  | n + 1=>d_impl_PlanOk_L1_B fu x1 (d_impl_PlanOk_L1 fu x1 n)

def d_impl_PlanOk_J2 (fu:Nat) (x1:Plan)  : Option (Bool) :=
  d_impl_PlanOk_L1 fu x1 fu 0

def d_impl_PlanOk (fu:Nat) (x1:Plan):Option (Bool) :=
  bif (((x1.fSpots.length:Int)) != ((x1.fCartons.length:Int))) then some (false) else bif (decide (((x1.fCartons.length:Int)) > 100)) then some (false) else d_impl_PlanOk_J2 fu x1

def d_impl_PlanText_L1_B (fu:Nat)  (x1:Plan) (k1:ByteArray → Int → Option (ByteArray)) (Ad:ByteArray) (Aa:Int):Option (ByteArray) :=
  bif (decide (Aa < ((x1.fCartons.length:Int)))) then obind (ix x1.fCartons Aa) fun Ac=>obind (ix x1.fSpots Aa) fun Ab=>obind (apnd 8 (([Ac.fType,Ac.fGroup,Ab.fPallet,Ab.fX,Ab.fY,Ab.fZ]:List Int)) Ac.fUnits) fun Ag=>obind (d_impl_textLine fu ((⟨#[99,97,114,116,111,110]⟩:ByteArray)) Ag) fun Ae=>obind (scat Ad Ae.1) fun Af=>k1 Af (w64 (Aa + 1)) else some (Ad)
def d_impl_PlanText_L1 (fu:Nat)  (x1:Plan):Nat → ByteArray → Int → Option (ByteArray)
  | 0=>fun _ _=>none
  | n + 1=>d_impl_PlanText_L1_B fu x1 (d_impl_PlanText_L1 fu x1 n)

def d_impl_PlanText (fu:Nat) (x1:Plan):Option (ByteArray) :=
  obind (d_impl_PlanOk fu x1) fun Aa=>bif (!Aa) then some ((⟨#[]⟩:ByteArray)) else d_impl_PlanText_L1 fu x1 fu ((⟨#[]⟩:ByteArray)) 0

def d_impl_Pack (fu:Nat) (Aa:ByteArray):Option (ByteArray × Int) :=
  obind (d_impl_ClassOf fu Aa) fun x2=>bif (x2 != 0) then some ((⟨#[]⟩:ByteArray),x2) else obind (d_impl_ReadOrder fu Aa) fun x7=>obind (d_impl_PlanOf fu x7.1) fun Ab=>obind (d_impl_PlanText fu Ab.1) fun Ac=>some (Ac,0)

end Go.Proofs.YthkaklkinepfkaaGreatDoor
