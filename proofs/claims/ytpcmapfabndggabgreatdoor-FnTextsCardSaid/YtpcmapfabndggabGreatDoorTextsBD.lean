/- FnTexts: what the functions that it reaches compute,on plain data. Printed by gen.py. -/
import Derived.Test.YtpcmapfabndggabGreatDoorS13
import Derived.Test.YtpcmapfabndggabGreatDoorS15
import Derived.Test.YtpcmapfabndggabGreatDoorS22
import Derived.Test.YtpcmapfabndggabGreatDoorS24
set_option linter.unusedVariables false
namespace Go.Proofs.YtpcmapfabndggabGreatDoor
open Go
def d_laws_big (fu:Nat) (Aa:List U8):Option (Bool) :=
  some (decide (((Aa.length:Int)) > 1048576))

def d_spec_l1New_J1 (fu:Nat) (k3:Int → Int → Option (Cur)) (Ab:List U8) (Ad:Int) (Aa:Int)  : Option (Cur) :=
  obind (ix Ab Aa) fun Ac=>k3 (IntKind.wrap .i64 (((BitVec.ofInt (IntKind.bits .i64) (w64 ((w64 ((w64 (Ad * 131)) + (w64 Ac.n))) + 7)) &&& BitVec.ofInt (IntKind.bits .i64) 1073741823).toNat:Nat):Int)) (w64 (Aa + 1))

def d_spec_l1New_L1_B (fu:Nat)  (Aa:List U8) (k3:Int → Int → Option (Cur)) (Ac:Int) (Ab:Int):Option (Cur) :=
  bif (decide (Ab < ((Aa.length:Int)))) then bif (decide (Ab < 4000)) then d_spec_l1New_J1 fu k3 Aa Ac Ab else some ((⟨Aa,0,Ac⟩:Cur)) else some ((⟨Aa,0,Ac⟩:Cur))
def d_spec_l1New_L1 (fu:Nat)  (Aa:List U8):Nat → Int → Int → Option (Cur)
  | 0=>fun _ _=>none
  | n + 1=>d_spec_l1New_L1_B fu Aa (d_spec_l1New_L1 fu Aa n)

def d_spec_l1New (fu:Nat) (Aa:List U8):Option (Cur) :=
  d_spec_l1New_L1 fu Aa fu (w64 (26583 + ((Aa.length:Int)))) 0

def d_spec_l1Byte (fu:Nat) (c1:Cur):Option (Int × Cur) :=
  bif (decide (c1.fi < ((c1.fb.length:Int)))) then obind (ix c1.fb c1.fi) fun Aa=>some (IntKind.wrap .i64 (((BitVec.ofInt (IntKind.bits .i64) (w64 ((IntKind.wrap .i64 (((BitVec.ofInt (IntKind.bits .i64) (IntKind.wrap .i64 (((BitVec.ofInt (IntKind.bits .i64) (Int.fdiv (w64 ((w64 (c1.fh * 6364136223846793005)) + 1442695040888963407)) (2 ^ (min 33 (IntKind.bits .i64)))) ^^^ BitVec.ofInt (IntKind.bits .i64) (Int.fdiv (w64 ((w64 (c1.fh * 6364136223846793005)) + 1442695040888963407)) (2 ^ (min 45 (IntKind.bits .i64))))).toNat:Nat):Int)) &&& BitVec.ofInt (IntKind.bits .i64) 255).toNat:Nat):Int)) + (w64 Aa.n))) &&& BitVec.ofInt (IntKind.bits .i64) 255).toNat:Nat):Int),(⟨c1.fb,w64 (c1.fi + 1),w64 ((w64 (c1.fh * 6364136223846793005)) + 1442695040888963407)⟩:Cur)) else some (IntKind.wrap .i64 (((BitVec.ofInt (IntKind.bits .i64) (IntKind.wrap .i64 (((BitVec.ofInt (IntKind.bits .i64) (Int.fdiv (w64 ((w64 (c1.fh * 6364136223846793005)) + 1442695040888963407)) (2 ^ (min 33 (IntKind.bits .i64)))) ^^^ BitVec.ofInt (IntKind.bits .i64) (Int.fdiv (w64 ((w64 (c1.fh * 6364136223846793005)) + 1442695040888963407)) (2 ^ (min 45 (IntKind.bits .i64))))).toNat:Nat):Int)) &&& BitVec.ofInt (IntKind.bits .i64) 255).toNat:Nat):Int),(⟨c1.fb,c1.fi,w64 ((w64 (c1.fh * 6364136223846793005)) + 1442695040888963407)⟩:Cur))

def d_spec_l1Below (fu:Nat) (c1:Cur) (n7:Int):Option (Int × Cur) :=
  bif (decide (n7 ≤ 0)) then some (0,c1) else bif (decide (n7 ≤ 256)) then obind (d_spec_l1Byte fu c1) fun Ab=>obind (odiv n7) fun Af=>some (Int.tmod Ab.1 n7,(⟨c1.fb,Ab.2.fi,Ab.2.fh⟩:Cur)) else obind (d_spec_l1Byte fu c1) fun Ae=>obind (d_spec_l1Byte fu ((⟨c1.fb,Ae.2.fi,Ae.2.fh⟩:Cur))) fun Ad=>obind (d_spec_l1Byte fu ((⟨c1.fb,Ad.2.fi,Ad.2.fh⟩:Cur))) fun Ac=>obind (d_spec_l1Byte fu ((⟨c1.fb,Ac.2.fi,Ac.2.fh⟩:Cur))) fun Aa=>obind (odiv n7) fun Ag=>some (Int.tmod (w64 ((w64 ((w64 ((w64 (Ae.1 * 16777216)) + (w64 (Ad.1 * 65536)))) + (w64 (Ac.1 * 256)))) + Aa.1)) n7,(⟨c1.fb,Aa.2.fi,Aa.2.fh⟩:Cur))

def d_spec_l1Once (fu:Nat) (c1:Cur) (n7:Int):Option (Bool × Cur) :=
  obind (d_spec_l1Below fu c1 n7) fun x9=>some (x9.1 == 0,(⟨c1.fb,x9.2.fi,x9.2.fh⟩:Cur))

def d_spec_l1PickInt (fu:Nat) (c1:Cur) (Ab:List Int):Option (Int × Cur) :=
  obind (d_spec_l1Below fu c1 ((Ab.length:Int))) fun Aa=>obind (ix Ab Aa.1) fun Ac=>some (Ac,(⟨c1.fb,Aa.2.fi,Aa.2.fh⟩:Cur))

def d_spec_l2Right_J1 (fu:Nat) (Ad:Int → Int → List Pair → Int → Option (Request × Cur)) (Ab:Int) (Ae:Int) (Aa:Int) (Ac:List Pair):Option (Request × Cur) :=
  Ad Ae Aa Ac (w64 (Ab + 1))

def d_spec_l2Right_L1_B (fu:Nat) (k9:Int → Int → List Pair → Int → Option (Request × Cur)) (c1:Cur) (Aa:Int) (Ag:Int → Int → List Pair → Int → Option (Request × Cur)) (Af:Int) (Ae:Int) (Ad:List Pair) (Ab:Int):Option (Request × Cur) :=
  bif (decide (Ab ≤ Aa)) then bif (Aa == Ab) then obind (apnd 16 Ad (([(⟨Aa,Aa⟩:Pair)]:List Pair))) fun Ai=>d_spec_l2Right_J1 fu Ag Ab Af Ae Ai else obind (d_spec_l1Once fu ((⟨c1.fb,Af,Ae⟩:Cur)) 2) fun Ac=>bif Ac.1 then obind (apnd 16 Ad (([(⟨Aa,Ab⟩:Pair),(⟨Ab,Aa⟩:Pair)]:List Pair))) fun Ah=>d_spec_l2Right_J1 fu Ag Ab Ac.2.fi Ac.2.fh Ah else d_spec_l2Right_J1 fu Ag Ab Ac.2.fi Ac.2.fh Ad else k9 Af Ae Ad (w64 (Aa + 1))
def d_spec_l2Right_L1 (fu:Nat) (k9:Int → Int → List Pair → Int → Option (Request × Cur)) (c1:Cur) (Aa:Int):Nat → Int → Int → List Pair → Int → Option (Request × Cur)
  | 0=>fun _ _ _ _=>none
  | n + 1=>d_spec_l2Right_L1_B fu k9 c1 Aa (d_spec_l2Right_L1 fu k9 c1 Aa n)

def d_spec_l2Right_J2 (fu:Nat) (Af:Int → Int → List Item → Int → Int → Option (Request × Cur)) (Ae:Int) (Ab:Int) (Ac:Int) (Ad:List Item) (Aa:Int):Option (Request × Cur) :=
  Af Ab Ac Ad Aa (w64 (Ae + 1))

def d_spec_l2Right_J3 (fu:Nat) (Ag:Int → Int → List Item → Int → Int → Option (Request × Cur)) (Ad:List Item) (Ab:Int) (Af:Int) (Ae:Int) (Ac:Int) (Aa:Item):Option (Request × Cur) :=
  bif (decide ((w64 (Ab + Aa.fCount)) ≤ 12)) then obind (apnd 56 Ad (([Aa]:List Item))) fun Ah=>d_spec_l2Right_J2 fu Ag Af Ae Ac Ah (w64 (Ab + Aa.fCount)) else d_spec_l2Right_J2 fu Ag Af Ae Ac Ad Ab

def d_spec_l2Right_J4 (fu:Nat) (Ag:Int → Int → List Item → Int → Int → Option (Request × Cur)) (c1:Cur) (Ad:List Item) (Af:Int) (Ae:Int) (Ah:Int) (Ai:Int) (Ab:Item):Option (Request × Cur) :=
  obind (d_spec_l1Once fu ((⟨c1.fb,Ah,Ai⟩:Cur)) 3) fun Aa=>bif Aa.1 then obind (d_spec_l1Below fu ((⟨c1.fb,Aa.2.fi,Aa.2.fh⟩:Cur)) 8) fun Ac=>d_spec_l2Right_J3 fu Ag Ad Af Ae Ac.2.fi Ac.2.fh ((⟨Ab.fId,5,5,w64 (4 + Ac.1),Ab.fGram,Ab.fClass,Ab.fCount⟩:Item)) else d_spec_l2Right_J3 fu Ag Ad Af Ae Aa.2.fi Aa.2.fh Ab

def d_spec_l2Right_L2_B (fu:Nat)  (c1:Cur) (Am:Int × Cur) (As:Int × Cur) (Al:Int × Cur) (Ap:Int × Cur) (At:Int × Cur) (Ak:Int × Cur) (Ar:List Pair) (Ao:List Typ) (Au:Int × Cur) (Aq:Int → Int → List Item → Int → Int → Option (Request × Cur)) (Ah:Int) (Ai:Int) (Aj:List Item) (Av:Int) (Ae:Int):Option (Request × Cur) :=
  bif (decide (Ae < Au.1)) then obind (d_spec_l1Below fu ((⟨c1.fb,Ah,Ai⟩:Cur)) 10) fun Ac=>obind (d_spec_l1Below fu ((⟨c1.fb,Ac.2.fi,Ac.2.fh⟩:Cur)) 10) fun Ad=>obind (d_spec_l1Below fu ((⟨c1.fb,Ad.2.fi,Ad.2.fh⟩:Cur)) 10) fun Ag=>obind (d_spec_l1Below fu ((⟨c1.fb,Ag.2.fi,Ag.2.fh⟩:Cur)) 60) fun Aa=>obind (d_spec_l1Below fu ((⟨c1.fb,Aa.2.fi,Aa.2.fh⟩:Cur)) (w64 (1 + Ak.1))) fun Ab=>obind (d_spec_l1Below fu ((⟨c1.fb,Ab.2.fi,Ab.2.fh⟩:Cur)) 4) fun Af=>d_spec_l2Right_J4 fu Aq c1 Aj Av Ae Af.2.fi Af.2.fh ((⟨w64 (3 * Ae),w64 (1 + Ac.1),w64 (1 + Ad.1),w64 (1 + Ag.1),w64 (1 + Aa.1),Ab.1,w64 (1 + Af.1)⟩:Item)) else some ((⟨Am.1,(⟨As.1,Al.1,Ap.1,At.1⟩:Pallet),w64 (1 + Ak.1),Ar,Ao,7,Aj⟩:Request),(⟨c1.fb,Ah,Ai⟩:Cur))
def d_spec_l2Right_L2 (fu:Nat)  (c1:Cur) (Ab:Int × Cur) (Ag:Int × Cur) (Af:Int × Cur) (Ah:Int × Cur) (Aa:Int × Cur) (Ai:Int × Cur) (Ac:List Pair) (Ad:List Typ) (Ae:Int × Cur):Nat → Int → Int → List Item → Int → Int → Option (Request × Cur)
  | 0=>fun _ _ _ _ _=>none
  | n + 1=>d_spec_l2Right_L2_B fu c1 Ab Ag Af Ah Aa Ai Ac Ad Ae (d_spec_l2Right_L2 fu c1 Ab Ag Af Ah Aa Ai Ac Ad Ae n)

def d_spec_l2Right_L3_B (fu:Nat)  (c1:Cur) (Ao:Int × Cur) (Ar:Int × Cur) (Al:Int × Cur) (Ap:Int × Cur) (At:Int × Cur) (Au:Int × Cur) (Aq:List Pair) (Av:Int × Cur) (As:Int → Int → List Typ → Int → Option (Request × Cur)) (Ai:Int) (Ak:Int) (Aj:List Typ) (Aa:Int):Option (Request × Cur) :=
  bif (decide (Aa < Av.1)) then obind (d_spec_l1Below fu ((⟨c1.fb,Ai,Ak⟩:Cur)) 9) fun Ad=>obind (d_spec_l1Below fu ((⟨c1.fb,Ad.2.fi,Ad.2.fh⟩:Cur)) 8) fun Ab=>obind (d_spec_l1Below fu ((⟨c1.fb,Ab.2.fi,Ab.2.fh⟩:Cur)) 9) fun Ae=>obind (d_spec_l1Below fu ((⟨c1.fb,Ae.2.fi,Ae.2.fh⟩:Cur)) 5) fun Af=>obind (d_spec_l1Below fu ((⟨c1.fb,Af.2.fi,Af.2.fh⟩:Cur)) 90) fun Ag=>obind (d_spec_l1Below fu ((⟨c1.fb,Ag.2.fi,Ag.2.fh⟩:Cur)) 20) fun Ac=>obind (apnd 56 Aj (([(⟨w64 (10 + Aa),w64 (4 + Ad.1),w64 (3 + Ab.1),w64 (3 + Ae.1),Af.1,w64 (20 + Ag.1),w64 (1 + Ac.1)⟩:Typ)]:List Typ))) fun Am=>As Ac.2.fi Ac.2.fh Am (w64 (Aa + 1)) else obind (d_spec_l1Below fu ((⟨c1.fb,Ai,Ak⟩:Cur)) 6) fun Ah=>d_spec_l2Right_L2 fu c1 Ao Ar Al Ap At Au Aq Aj Ah fu Ah.2.fi Ah.2.fh (([]:List Item)) 0 0
def d_spec_l2Right_L3 (fu:Nat)  (c1:Cur) (Ab:Int × Cur) (Ae:Int × Cur) (Ad:Int × Cur) (Af:Int × Cur) (Aa:Int × Cur) (Ag:Int × Cur) (Ac:List Pair) (Ah:Int × Cur):Nat → Int → Int → List Typ → Int → Option (Request × Cur)
  | 0=>fun _ _ _ _=>none
  | n + 1=>d_spec_l2Right_L3_B fu c1 Ab Ae Ad Af Aa Ag Ac Ah (d_spec_l2Right_L3 fu c1 Ab Ae Ad Af Aa Ag Ac Ah n)

def d_spec_l2Right_J5 (fu:Nat) (c1:Cur) (Ac:Int × Cur) (Ag:Int × Cur) (Af:Int × Cur) (Ai:Int × Cur) (Ab:Int × Cur) (Aj:Int × Cur) (Ad:List Pair) (Ak:Int) (Ae:Int) (Ah:List Typ):Option (Request × Cur) :=
  obind (d_spec_l1Below fu ((⟨c1.fb,Ak,Ae⟩:Cur)) 5) fun Aa=>d_spec_l2Right_L3 fu c1 Ac Ag Af Ai Ab Aj Ad Aa fu Aa.2.fi Aa.2.fh Ah 0

def d_spec_l2Right_L4_B (fu:Nat)  (c1:Cur) (Aj:Int × Cur) (Am:Int × Cur) (Al:Int × Cur) (Ao:Int × Cur) (Ai:Int × Cur) (Ah:Int × Cur) (k9:Int → Int → List Pair → Int → Option (Request × Cur)) (Ad:Int) (Ae:Int) (Ag:List Pair) (Af:Int):Option (Request × Cur) :=
  bif (decide (Af < (w64 (1 + Ah.1)))) then d_spec_l2Right_L1 fu k9 c1 Af fu Ad Ae Ag 0 else obind (d_spec_l1Below fu ((⟨c1.fb,Ad,Ae⟩:Cur)) 8) fun Ac=>obind (d_spec_l1PickInt fu ((⟨c1.fb,Ac.2.fi,Ac.2.fh⟩:Cur)) (([60,100,140]:List Int))) fun Ab=>obind (d_spec_l1PickInt fu ((⟨c1.fb,Ab.2.fi,Ab.2.fh⟩:Cur)) (([9,20]:List Int))) fun Aa=>obind (apnd 56 (([]:List Typ)) (([(⟨7,12,10,11,Ac.1,Ab.1,Aa.1⟩:Typ)]:List Typ))) fun Ak=>d_spec_l2Right_J5 fu c1 Aj Am Al Ao Ai Ah Ag Aa.2.fi Aa.2.fh Ak
def d_spec_l2Right_L4 (fu:Nat)  (c1:Cur) (Ab:Int × Cur) (Ad:Int × Cur) (Ac:Int × Cur) (Ae:Int × Cur) (Aa:Int × Cur) (Af:Int × Cur):Nat → Int → Int → List Pair → Int → Option (Request × Cur)
  | 0=>fun _ _ _ _=>none
  | n + 1=>d_spec_l2Right_L4_B fu c1 Ab Ad Ac Ae Aa Af (d_spec_l2Right_L4 fu c1 Ab Ad Ac Ae Aa Af n)

def d_spec_l2Right (fu:Nat) (c1:Cur):Option (Request × Cur) :=
  obind (d_spec_l1Below fu c1 2) fun Ab=>obind (d_spec_l1PickInt fu ((⟨c1.fb,Ab.2.fi,Ab.2.fh⟩:Cur)) (([20,30,37]:List Int))) fun Ad=>obind (d_spec_l1PickInt fu ((⟨c1.fb,Ad.2.fi,Ad.2.fh⟩:Cur)) (([20,25,40]:List Int))) fun Ac=>obind (d_spec_l1PickInt fu ((⟨c1.fb,Ac.2.fi,Ac.2.fh⟩:Cur)) (([15,24,50]:List Int))) fun Ae=>obind (d_spec_l1PickInt fu ((⟨c1.fb,Ae.2.fi,Ae.2.fh⟩:Cur)) (([150,400,5000]:List Int))) fun Aa=>obind (d_spec_l1Below fu ((⟨c1.fb,Aa.2.fi,Aa.2.fh⟩:Cur)) 4) fun Af=>d_spec_l2Right_L4 fu c1 Ab Ad Ac Ae Aa Af fu Af.2.fi Af.2.fh (([]:List Pair)) 0

def d_spec_l1In (fu:Nat) (x1:Int) (Aa:Int) (Ab:Int):Option (Bool) :=
  bif (decide (x1 ≥ Aa)) then some (decide (x1 ≤ Ab)) else some (false)

def d_spec_l2Side (fu:Nat) (x1:Int):Option (Bool) :=
  obind (d_spec_l1In fu x1 1 2000) fun x2=>some (x2)

def d_spec_PalletOk (fu:Nat) (x1:Pallet):Option (Bool) :=
  obind (d_spec_l2Side fu x1.fW) fun x5=>bif x5 then obind (d_spec_l2Side fu x1.fD) fun Aa=>bif Aa then obind (d_spec_l2Side fu x1.fH) fun Ab=>bif Ab then obind (d_spec_l1In fu x1.fGram 1 100000) fun Ac=>some (Ac) else some (false) else some (false) else some (false)

def d_spec_l2Id (fu:Nat) (x1:Int):Option (Bool) :=
  obind (d_spec_l1In fu x1 0 999) fun x2=>some (x2)

def d_spec_TypeOk (fu:Nat) (x1:Typ):Option (Bool) :=
  obind (d_spec_l2Id fu x1.fId) fun x5=>bif x5 then obind (d_spec_l2Side fu x1.fW) fun Aa=>bif Aa then obind (d_spec_l2Side fu x1.fH) fun Af=>bif Af then obind (d_spec_l2Side fu x1.fD) fun Ac=>bif Ac then obind (d_spec_l1In fu x1.fTare 0 100000) fun Ad=>bif Ad then obind (d_spec_l1In fu x1.fGram 1 100000) fun Ab=>bif Ab then obind (d_spec_l1In fu x1.fCost 0 100000) fun Ae=>some (Ae) else some (false) else some (false) else some (false) else some (false) else some (false) else some (false)

def d_spec_ItemOk (fu:Nat) (x1:Item):Option (Bool) :=
  obind (d_spec_l2Id fu x1.fId) fun x5=>bif x5 then obind (d_spec_l2Side fu x1.fW) fun Aa=>bif Aa then obind (d_spec_l2Side fu x1.fH) fun Af=>bif Af then obind (d_spec_l2Side fu x1.fD) fun Ac=>bif Ac then obind (d_spec_l1In fu x1.fGram 1 100000) fun Ad=>bif Ad then obind (d_spec_l1In fu x1.fClass 0 3) fun Ab=>bif Ab then obind (d_spec_l1In fu x1.fCount 1 6) fun Ae=>some (Ae) else some (false) else some (false) else some (false) else some (false) else some (false) else some (false)

def d_spec_BoundsOk_J1 (fu:Nat) (k4:Int → Option (Bool)) (Aa:Int)  : Option (Bool) :=
  k4 (w64 (Aa + 1))

def d_spec_BoundsOk_L1_B (fu:Nat)  (r1:Request) (k7:Int → Int → Option (Bool)) (Ac:Int) (Aa:Int):Option (Bool) :=
  bif (decide (Aa < ((r1.fItems.length:Int)))) then obind (ix r1.fItems Aa) fun Ab=>obind (d_spec_ItemOk fu Ab) fun Ad=>bif (!Ad) then some (false) else obind (ix r1.fItems Aa) fun Ae=>k7 (w64 (Ac + Ab.fCount)) (w64 (Aa + 1)) else some (decide (Ac ≤ 12))
def d_spec_BoundsOk_L1 (fu:Nat)  (r1:Request):Nat → Int → Int → Option (Bool)
  | 0=>fun _ _=>none
  | n + 1=>d_spec_BoundsOk_L1_B fu r1 (d_spec_BoundsOk_L1 fu r1 n)

def d_spec_BoundsOk_L2_B (fu:Nat)  (r1:Request) (k6:Int → Option (Bool)) (Aa:Int):Option (Bool) :=
  bif (decide (Aa < ((r1.fTypes.length:Int)))) then obind (ix r1.fTypes Aa) fun Ab=>obind (d_spec_TypeOk fu Ab) fun Ac=>bif (!Ac) then some (false) else k6 (w64 (Aa + 1)) else d_spec_BoundsOk_L1 fu r1 fu 0 0
def d_spec_BoundsOk_L2 (fu:Nat)  (r1:Request):Nat → Int → Option (Bool)
  | 0=>fun _=>none
  | n + 1=>d_spec_BoundsOk_L2_B fu r1 (d_spec_BoundsOk_L2 fu r1 n)

def d_spec_BoundsOk_L3_B (fu:Nat)  (r1:Request) (k4:Int → Option (Bool)) (Aa:Int):Option (Bool) :=
  bif (decide (Aa < ((r1.fPairs.length:Int)))) then obind (ix r1.fPairs Aa) fun Ab=>obind (d_spec_l1In fu Ab.fA 0 3) fun Ac=>bif (!Ac) then some (false) else obind (ix r1.fPairs Aa) fun Ae=>obind (d_spec_l1In fu Ab.fB 0 3) fun Ad=>bif (!Ad) then some (false) else d_spec_BoundsOk_J1 fu k4 Aa else d_spec_BoundsOk_L2 fu r1 fu 0
def d_spec_BoundsOk_L3 (fu:Nat)  (r1:Request):Nat → Int → Option (Bool)
  | 0=>fun _=>none
  | n + 1=>d_spec_BoundsOk_L3_B fu r1 (d_spec_BoundsOk_L3 fu r1 n)

def d_spec_BoundsOk_J2 (fu:Nat) (r1:Request)  : Option (Bool) :=
  d_spec_BoundsOk_L3 fu r1 fu 0

def d_spec_BoundsOk (fu:Nat) (r1:Request):Option (Bool) :=
  obind (d_spec_l1In fu r1.fWay 0 1) fun Ac=>bif (!Ac) then some (false) else obind (d_spec_PalletOk fu r1.fPallet) fun Aa=>bif (!Aa) then some (false) else obind (d_spec_l1In fu r1.fClasses 1 4) fun Ad=>bif (!Ad) then some (false) else bif (decide (((r1.fPairs.length:Int)) > 16)) then some (false) else obind (d_spec_l1In fu ((r1.fTypes.length:Int)) 1 5) fun Ab=>bif (!Ab) then some (false) else obind (d_spec_l2Id fu r1.fMaster) fun Ae=>bif (!Ae) then some (false) else bif (decide (((r1.fItems.length:Int)) > 8)) then some (false) else d_spec_BoundsOk_J2 fu r1

def d_spec_MasterOf_L1_B (fu:Nat)  (r1:Request) (k1:Int → Option (Typ × Bool)) (Aa:Int):Option (Typ × Bool) :=
  bif (decide (Aa < ((r1.fTypes.length:Int)))) then obind (ix r1.fTypes Aa) fun Ab=>bif (Ab.fId == r1.fMaster) then obind (ix r1.fTypes Aa) fun Ac=>some (Ab,true) else k1 (w64 (Aa + 1)) else some ((⟨0,0,0,0,0,0,0⟩:Typ),false)
def d_spec_MasterOf_L1 (fu:Nat)  (r1:Request):Nat → Int → Option (Typ × Bool)
  | 0=>fun _=>none
  | n + 1=>d_spec_MasterOf_L1_B fu r1 (d_spec_MasterOf_L1 fu r1 n)

def d_spec_MasterOf (fu:Nat) (r1:Request):Option (Typ × Bool) :=
  d_spec_MasterOf_L1 fu r1 fu 0

def d_spec_l5Names_L1_B (fu:Nat) (k3:Int → Option (Bool)) (r1:Request) (Aa:Int) (k4:Int → Option (Bool)) (Ab:Int):Option (Bool) :=
  bif (decide (Ab < Aa)) then obind (ix r1.fTypes Aa) fun Ad=>obind (ix r1.fTypes Ab) fun Ac=>bif (Ad.fId == Ac.fId) then some (false) else k4 (w64 (Ab + 1)) else k3 (w64 (Aa + 1))
def d_spec_l5Names_L1 (fu:Nat) (k3:Int → Option (Bool)) (r1:Request) (Aa:Int):Nat → Int → Option (Bool)
  | 0=>fun _=>none
  | n + 1=>d_spec_l5Names_L1_B fu k3 r1 Aa (d_spec_l5Names_L1 fu k3 r1 Aa n)

def d_spec_l5Names_L2_B (fu:Nat) (k7:Int → Option (Bool)) (r1:Request) (Aa:Int) (k8:Int → Option (Bool)) (Ab:Int):Option (Bool) :=
  bif (decide (Ab < Aa)) then obind (ix r1.fItems Aa) fun Ac=>obind (ix r1.fItems Ab) fun Ad=>bif (Ac.fId == Ad.fId) then some (false) else k8 (w64 (Ab + 1)) else k7 (w64 (Aa + 1))
def d_spec_l5Names_L2 (fu:Nat) (k7:Int → Option (Bool)) (r1:Request) (Aa:Int):Nat → Int → Option (Bool)
  | 0=>fun _=>none
  | n + 1=>d_spec_l5Names_L2_B fu k7 r1 Aa (d_spec_l5Names_L2 fu k7 r1 Aa n)

def d_spec_l5Names_J1 (fu:Nat) (Aa:Int → Option (Bool)) (Ab:Int)  : Option (Bool) :=
  Aa (w64 (Ab + 1))

def d_spec_l5Names_L3_B (fu:Nat)  (r1:Request) (Ad:Int → Option (Bool)) (Aa:Int):Option (Bool) :=
  bif (decide (Aa < ((r1.fPairs.length:Int)))) then obind (ix r1.fPairs Aa) fun Ab=>bif (decide (Ab.fA ≥ r1.fClasses)) then some (false) else obind (ix r1.fPairs Aa) fun Ae=>bif (decide (Ab.fB ≥ r1.fClasses)) then some (false) else d_spec_l5Names_J1 fu Ad Aa else obind (d_spec_MasterOf fu r1) fun Ac=>some (Ac.2)
def d_spec_l5Names_L3 (fu:Nat)  (r1:Request):Nat → Int → Option (Bool)
  | 0=>fun _=>none
  | n + 1=>d_spec_l5Names_L3_B fu r1 (d_spec_l5Names_L3 fu r1 n)

def d_spec_l5Names_L4_B (fu:Nat)  (r1:Request) (k7:Int → Option (Bool)) (Aa:Int):Option (Bool) :=
  bif (decide (Aa < ((r1.fItems.length:Int)))) then obind (ix r1.fItems Aa) fun Ab=>bif (decide (Ab.fClass ≥ r1.fClasses)) then some (false) else d_spec_l5Names_L2 fu k7 r1 Aa fu 0 else d_spec_l5Names_L3 fu r1 fu 0
def d_spec_l5Names_L4 (fu:Nat)  (r1:Request):Nat → Int → Option (Bool)
  | 0=>fun _=>none
  | n + 1=>d_spec_l5Names_L4_B fu r1 (d_spec_l5Names_L4 fu r1 n)

def d_spec_l5Names_L5_B (fu:Nat)  (r1:Request) (k3:Int → Option (Bool)) (Aa:Int):Option (Bool) :=
  bif (decide (Aa < ((r1.fTypes.length:Int)))) then d_spec_l5Names_L1 fu k3 r1 Aa fu 0 else d_spec_l5Names_L4 fu r1 fu 0
def d_spec_l5Names_L5 (fu:Nat)  (r1:Request):Nat → Int → Option (Bool)
  | 0=>fun _=>none
  | n + 1=>d_spec_l5Names_L5_B fu r1 (d_spec_l5Names_L5 fu r1 n)

def d_spec_l5Names (fu:Nat) (r1:Request):Option (Bool) :=
  d_spec_l5Names_L5 fu r1 fu 0

def d_spec_Beside_J1 (fu:Nat) (k3:Int → Option (Bool)) (Aa:Int)  : Option (Bool) :=
  k3 (w64 (Aa + 1))

def d_spec_Beside_L1_B (fu:Nat)  (Ab:List Pair) (a5:Int) (b6:Int) (k3:Int → Option (Bool)) (Aa:Int):Option (Bool) :=
  bif (decide (Aa < ((Ab.length:Int)))) then obind (ix Ab Aa) fun Ac=>bif (Ac.fA == a5) then obind (ix Ab Aa) fun Ad=>bif (Ac.fB == b6) then some (true) else d_spec_Beside_J1 fu k3 Aa else d_spec_Beside_J1 fu k3 Aa else some (false)
def d_spec_Beside_L1 (fu:Nat)  (Aa:List Pair) (a5:Int) (b6:Int):Nat → Int → Option (Bool)
  | 0=>fun _=>none
  | n + 1=>d_spec_Beside_L1_B fu Aa a5 b6 (d_spec_Beside_L1 fu Aa a5 b6 n)

def d_spec_Beside (fu:Nat) (Aa:List Pair) (a5:Int) (b6:Int):Option (Bool) :=
  d_spec_Beside_L1 fu Aa a5 b6 fu 0

def d_spec_TableOk_J1 (fu:Nat) (Aa:Int → Option (Bool)) (Ab:Int)  : Option (Bool) :=
  Aa (w64 (Ab + 1))

def d_spec_TableOk_L1_B (fu:Nat) (k9:Int → Option (Bool)) (Ac:List Pair) (Aj:Int) (Aa:Int) (Ad:Int → Option (Bool)) (Ab:Int):Option (Bool) :=
  bif (decide (Ab < Aj)) then bif (Aa == Ab) then obind (d_spec_Beside fu Ac Aa Aa) fun Ae=>bif (!Ae) then some (false) else obind (d_spec_Beside fu Ac Aa Ab) fun Af=>obind (d_spec_Beside fu Ac Ab Aa) fun Ai=>bif (!(Af == Ai)) then some (false) else d_spec_TableOk_J1 fu Ad Ab else obind (d_spec_Beside fu Ac Aa Ab) fun Ah=>obind (d_spec_Beside fu Ac Ab Aa) fun Ag=>bif (!(Ah == Ag)) then some (false) else d_spec_TableOk_J1 fu Ad Ab else k9 (w64 (Aa + 1))
def d_spec_TableOk_L1 (fu:Nat) (k9:Int → Option (Bool)) (Ac:List Pair) (Ab:Int) (Aa:Int):Nat → Int → Option (Bool)
  | 0=>fun _=>none
  | n + 1=>d_spec_TableOk_L1_B fu k9 Ac Ab Aa (d_spec_TableOk_L1 fu k9 Ac Ab Aa n)

def d_spec_TableOk_L2_B (fu:Nat)  (Ac:List Pair) (Ab:Int) (k9:Int → Option (Bool)) (Aa:Int):Option (Bool) :=
  bif (decide (Aa < Ab)) then d_spec_TableOk_L1 fu k9 Ac Ab Aa fu 0 else some (true)
def d_spec_TableOk_L2 (fu:Nat)  (Ab:List Pair) (Aa:Int):Nat → Int → Option (Bool)
  | 0=>fun _=>none
  | n + 1=>d_spec_TableOk_L2_B fu Ab Aa (d_spec_TableOk_L2 fu Ab Aa n)

def d_spec_TableOk (fu:Nat) (Ab:List Pair) (Aa:Int):Option (Bool) :=
  obind (d_spec_l1In fu Aa 1 4) fun x6=>bif (!x6) then some (false) else d_spec_TableOk_L2 fu Ab Aa fu 0

def d_spec_l1Places_L1_B (fu:Nat)  (n1:Int) (k1:List Int → Int → Option ((List Int))) (Ab:List Int) (Aa:Int):Option ((List Int)) :=
  bif (decide (Aa < n1)) then obind (apnd 8 Ab (([Aa]:List Int))) fun Ac=>k1 Ac (w64 (Aa + 1)) else some (Ab)
def d_spec_l1Places_L1 (fu:Nat)  (n1:Int):Nat → List Int → Int → Option ((List Int))
  | 0=>fun _ _=>none
  | n + 1=>d_spec_l1Places_L1_B fu n1 (d_spec_l1Places_L1 fu n1 n)

def d_spec_l1Places (fu:Nat) (n1:Int):Option ((List Int)) :=
  d_spec_l1Places_L1 fu n1 fu (([]:List Int)) 0

def d_spec_l1Merge_J1 (fu:Nat) (k3:List Int → Int → Int → Option ((List Int))) (Ah:List Int) (Aj:Bool) (Ad:(List Int)) (Ae:(List Int)) (Ac:List Int) (Aa:Int) (Ab:Int)  : Option ((List Int)) :=
  bif (Ab == ((Ae.length:Int))) then obind (ix Ad Aa) fun Am=>obind (apnd 8 Ac (([Am]:List Int))) fun Aw=>k3 Aw (w64 (Aa + 1)) Ab else bif (Aa == ((Ad.length:Int))) then obind (ix Ae Ab) fun Ap=>obind (apnd 8 Ac (([Ap]:List Int))) fun At=>k3 At Aa (w64 (Ab + 1)) else obind (ix Ae Ab) fun Ag=>obind (ix Ah Ag) fun Ak=>obind (ix Ad Aa) fun Af=>obind (ix Ah Af) fun Ai=>bif (decide (Ak < Ai)) then bif (!Aj) then obind (ix Ae Ab) fun Bf=>obind (apnd 8 Ac (([Ag]:List Int))) fun As=>k3 As Aa (w64 (Ab + 1)) else obind (ix Ae Ab) fun Bi=>obind (ix Ah Ag) fun Bg=>obind (ix Ad Aa) fun Be=>obind (ix Ah Af) fun Bl=>bif (decide (Ak > Ai)) then bif Aj then obind (ix Ae Ab) fun Bh=>obind (apnd 8 Ac (([Ag]:List Int))) fun Ar=>k3 Ar Aa (w64 (Ab + 1)) else obind (ix Ad Aa) fun Ay=>obind (apnd 8 Ac (([Af]:List Int))) fun Av=>k3 Av (w64 (Aa + 1)) Ab else obind (ix Ad Aa) fun Ax=>obind (apnd 8 Ac (([Af]:List Int))) fun Al=>k3 Al (w64 (Aa + 1)) Ab else obind (ix Ae Ab) fun Bb=>obind (ix Ah Ag) fun Az=>obind (ix Ad Aa) fun Ba=>obind (ix Ah Af) fun Bd=>bif (decide (Ak > Ai)) then bif Aj then obind (ix Ae Ab) fun Bk=>obind (apnd 8 Ac (([Ag]:List Int))) fun Au=>k3 Au Aa (w64 (Ab + 1)) else obind (ix Ad Aa) fun Bj=>obind (apnd 8 Ac (([Af]:List Int))) fun Aq=>k3 Aq (w64 (Aa + 1)) Ab else obind (ix Ad Aa) fun Bc=>obind (apnd 8 Ac (([Af]:List Int))) fun Ao=>k3 Ao (w64 (Aa + 1)) Ab

def d_spec_l1Merge_L1_B (fu:Nat)  (Af:List Int) (Ag:Bool) (Ac:(List Int)) (Ab:(List Int)) (k3:List Int → Int → Int → Option ((List Int))) (Aa:List Int) (Ad:Int) (Ae:Int):Option ((List Int)) :=
  bif (decide (Ad < ((Ac.length:Int)))) then d_spec_l1Merge_J1 fu k3 Af Ag Ac Ab Aa Ad Ae else bif (decide (Ae < ((Ab.length:Int)))) then d_spec_l1Merge_J1 fu k3 Af Ag Ac Ab Aa Ad Ae else some (Aa)
def d_spec_l1Merge_L1 (fu:Nat)  (Ab:List Int) (Ad:Bool) (Ac:(List Int)) (Aa:(List Int)):Nat → List Int → Int → Int → Option ((List Int))
  | 0=>fun _ _ _=>none
  | n + 1=>d_spec_l1Merge_L1_B fu Ab Ad Ac Aa (d_spec_l1Merge_L1 fu Ab Ad Ac Aa n)

def d_spec_l1Merge_RB (fu:Nat) (self:List Int → List Int → Bool → Option ((List Int))) (Ab:List Int) (Aa:List Int) (Ac:Bool):Option ((List Int)) :=
  bif (decide (((Aa.length:Int)) < 2)) then obind (apnd 8 (([]:List Int)) Aa) fun Ah=>some (Ah) else obind (sls Aa 0 (w64 (Int.tdiv ((Aa.length:Int)) 2))) fun Ag=>obind (self Ab Ag Ac) fun Af=>obind (sls Aa (w64 (Int.tdiv ((Aa.length:Int)) 2)) (Aa.length:Int)) fun Ae=>obind (self Ab Ae Ac) fun Ad=>d_spec_l1Merge_L1 fu Ab Ac Af Ad fu (([]:List Int)) 0 0
def d_spec_l1Merge_R (fu:Nat):Nat → List Int → List Int → Bool → Option ((List Int))
  | 0=>fun _ _ _=>none
  | n + 1=>d_spec_l1Merge_RB fu (d_spec_l1Merge_R fu n)
def d_spec_l1Merge (fu:Nat) (Aa:List Int) (Ac:List Int) (Ab:Bool):Option ((List Int)):=d_spec_l1Merge_R fu fu Aa Ac Ab

def d_spec_SortUp (fu:Nat) (Aa:List Int):Option ((List Int)) :=
  obind (d_spec_l1Places fu ((Aa.length:Int))) fun x5=>obind (d_spec_l1Merge fu Aa x5 false) fun Ab=>some (Ab)

def d_spec_l5Sides (fu:Nat) (Aa:Int) (h2:Int) (d3:Int):Option ((List Int)) :=
  obind (d_spec_SortUp fu (([Aa,h2,d3]:List Int))) fun x9=>obind (ix x9 0) fun Ag=>obind (ix (([Aa,h2,d3]:List Int)) Ag) fun Ac=>obind (ix x9 1) fun Ad=>obind (ix (([Aa,h2,d3]:List Int)) Ad) fun Ab=>obind (ix x9 2) fun Ae=>obind (ix (([Aa,h2,d3]:List Int)) Ae) fun Af=>some (([Ac,Ab,Af]:List Int))

def d_spec_Fits (fu:Nat) (x1:Item) (t2:Typ):Option (Bool) :=
  obind (d_spec_l5Sides fu x1.fW x1.fH x1.fD) fun Aa=>obind (d_spec_l5Sides fu t2.fW t2.fH t2.fD) fun Ab=>obind (ix Aa 0) fun Ag=>obind (ix Ab 0) fun Ad=>bif (decide (Ag ≤ Ad)) then obind (ix Aa 1) fun Ah=>obind (ix Ab 1) fun Af=>bif (decide (Ah ≤ Af)) then obind (ix Aa 2) fun Ac=>obind (ix Ab 2) fun Ae=>bif (decide (Ac ≤ Ae)) then some (decide (x1.fGram ≤ t2.fGram)) else some (false) else some (false) else some (false)

def d_spec_Class_J1 (fu:Nat) (k4:Int → Option (Int)) (Aa:Int)  : Option (Int) :=
  k4 (w64 (Aa + 1))

def d_spec_Class_L1_B (fu:Nat)  (r1:Request) (k4:Int → Option (Int)) (Ab:Int):Option (Int) :=
  bif (decide (Ab < ((r1.fTypes.length:Int)))) then obind (ix r1.fTypes Ab) fun Aa=>bif (decide (Aa.fW > r1.fPallet.fW)) then some (6) else bif (decide (Aa.fD > r1.fPallet.fD)) then some (6) else bif (decide (Aa.fH > r1.fPallet.fH)) then some (6) else bif (decide ((w64 (Aa.fTare + Aa.fGram)) > r1.fPallet.fGram)) then some (6) else d_spec_Class_J1 fu k4 Ab else some (0)
def d_spec_Class_L1 (fu:Nat)  (r1:Request):Nat → Int → Option (Int)
  | 0=>fun _=>none
  | n + 1=>d_spec_Class_L1_B fu r1 (d_spec_Class_L1 fu r1 n)

def d_spec_Class_L2_B (fu:Nat)  (r1:Request) (Ac:Typ × Bool) (k1:Int → Option (Int)) (Aa:Int):Option (Int) :=
  bif (decide (Aa < ((r1.fItems.length:Int)))) then obind (ix r1.fItems Aa) fun Ad=>obind (d_spec_Fits fu Ad Ac.1) fun Ab=>bif (!Ab) then some (5) else k1 (w64 (Aa + 1)) else d_spec_Class_L1 fu r1 fu 0
def d_spec_Class_L2 (fu:Nat)  (r1:Request) (Aa:Typ × Bool):Nat → Int → Option (Int)
  | 0=>fun _=>none
  | n + 1=>d_spec_Class_L2_B fu r1 Aa (d_spec_Class_L2 fu r1 Aa n)

def d_spec_Class (fu:Nat) (r1:Request):Option (Int) :=
  obind (d_spec_BoundsOk fu r1) fun Ac=>bif (!Ac) then some (2) else obind (d_spec_l5Names fu r1) fun Aa=>bif (!Aa) then some (3) else obind (d_spec_TableOk fu r1.fPairs r1.fClasses) fun Ad=>bif (!Ad) then some (4) else obind (d_spec_MasterOf fu r1) fun Ab=>d_spec_Class_L2 fu r1 Ab fu 0

def d_spec_l5Good_J1 (fu:Nat) (k3:List Item → Int → Option (Request × Cur)) (Ab:Int) (Aa:List Item):Option (Request × Cur) :=
  k3 Aa (w64 (Ab + 1))

def d_spec_l5Good_L1_B (fu:Nat)  (c1:Cur) (Aa:Request × Cur) (Af:Typ × Bool) (k3:List Item → Int → Option (Request × Cur)) (Ac:List Item) (Ab:Int):Option (Request × Cur) :=
  bif (decide (Ab < ((Aa.1.fItems.length:Int)))) then obind (ix Aa.1.fItems Ab) fun Ad=>obind (d_spec_Fits fu Ad Af.1) fun Ag=>bif Ag then obind (ix Aa.1.fItems Ab) fun Ah=>obind (apnd 56 Ac (([Ad]:List Item))) fun Ae=>d_spec_l5Good_J1 fu k3 Ab Ae else d_spec_l5Good_J1 fu k3 Ab Ac else some ((⟨Aa.1.fWay,(⟨30,25,24,400⟩:Pallet),Aa.1.fClasses,Aa.1.fPairs,Aa.1.fTypes,Aa.1.fMaster,Ac⟩:Request),(⟨c1.fb,Aa.2.fi,Aa.2.fh⟩:Cur))
def d_spec_l5Good_L1 (fu:Nat)  (c1:Cur) (Ab:Request × Cur) (Aa:Typ × Bool):Nat → List Item → Int → Option (Request × Cur)
  | 0=>fun _ _=>none
  | n + 1=>d_spec_l5Good_L1_B fu c1 Ab Aa (d_spec_l5Good_L1 fu c1 Ab Aa n)

def d_spec_l5Good (fu:Nat) (c1:Cur):Option (Request × Cur) :=
  obind (d_spec_l2Right fu c1) fun Aa=>obind (d_spec_Class fu Aa.1) fun Ac=>bif (Ac != 0) then obind (d_spec_MasterOf fu ((⟨Aa.1.fWay,(⟨30,25,24,400⟩:Pallet),Aa.1.fClasses,Aa.1.fPairs,Aa.1.fTypes,Aa.1.fMaster,Aa.1.fItems⟩:Request))) fun Ab=>d_spec_l5Good_L1 fu c1 Aa Ab fu (([]:List Item)) 0 else some (Aa.1,(⟨c1.fb,Aa.2.fi,Aa.2.fh⟩:Cur))

def d_spec_l2Draw_J1 (fu:Nat) (c1:Cur) (Aa:Request × Cur) (Ag:Int) (Ai:Int) (Ad:Int) (Af:Int) (Ac:List Pair) (Ab:List Typ) (Ae:Int) (Aj:List Item) (Ak:Int) (Ah:Int):Option (Request × Cur) :=
  some ((⟨Ag,(⟨Ai,Aa.1.fPallet.fD,Aa.1.fPallet.fH,Ad⟩:Pallet),Af,Ac,Ab,Ae,Aj⟩:Request),(⟨c1.fb,Ak,Ah⟩:Cur))

def d_spec_l2Draw (fu:Nat) (c1:Cur):Option (Request × Cur) :=
  obind (d_spec_l2Right fu c1) fun Aa=>obind (d_spec_l1PickInt fu ((⟨c1.fb,Aa.2.fi,Aa.2.fh⟩:Cur)) (([(-1),0,2001,100001,1000,9223372036854775807]:List Int))) fun Ac=>obind (d_spec_l1Below fu ((⟨c1.fb,Ac.2.fi,Ac.2.fh⟩:Cur)) 20) fun Ab=>bif (Ab.1 == 0) then obind (d_spec_l1PickInt fu ((⟨c1.fb,Ab.2.fi,Ab.2.fh⟩:Cur)) (([(-1),2]:List Int))) fun Af=>d_spec_l2Draw_J1 fu c1 Aa Af.1 Aa.1.fPallet.fW Aa.1.fPallet.fGram Aa.1.fClasses Aa.1.fPairs Aa.1.fTypes Aa.1.fMaster Aa.1.fItems Af.2.fi Af.2.fh else bif (Ab.1 == 1) then d_spec_l2Draw_J1 fu c1 Aa Aa.1.fWay Ac.1 Aa.1.fPallet.fGram Aa.1.fClasses Aa.1.fPairs Aa.1.fTypes Aa.1.fMaster Aa.1.fItems Ab.2.fi Ab.2.fh else bif (Ab.1 == 2) then d_spec_l2Draw_J1 fu c1 Aa Aa.1.fWay Aa.1.fPallet.fW Ac.1 Aa.1.fClasses Aa.1.fPairs Aa.1.fTypes Aa.1.fMaster Aa.1.fItems Ab.2.fi Ab.2.fh else bif (Ab.1 == 3) then obind (d_spec_l1PickInt fu ((⟨c1.fb,Ab.2.fi,Ab.2.fh⟩:Cur)) (([0,5,1]:List Int))) fun Ak=>d_spec_l2Draw_J1 fu c1 Aa Aa.1.fWay Aa.1.fPallet.fW Aa.1.fPallet.fGram Ak.1 Aa.1.fPairs Aa.1.fTypes Aa.1.fMaster Aa.1.fItems Ak.2.fi Ak.2.fh else bif (Ab.1 == 4) then obind (d_spec_l1Below fu ((⟨c1.fb,Ab.2.fi,Ab.2.fh⟩:Cur)) 6) fun Ai=>obind (d_spec_l1Below fu ((⟨c1.fb,Ai.2.fi,Ai.2.fh⟩:Cur)) 4) fun Aj=>obind (apnd 16 Aa.1.fPairs (([(⟨w64 (Ai.1 - 1),Aj.1⟩:Pair)]:List Pair))) fun As=>d_spec_l2Draw_J1 fu c1 Aa Aa.1.fWay Aa.1.fPallet.fW Aa.1.fPallet.fGram Aa.1.fClasses As Aa.1.fTypes Aa.1.fMaster Aa.1.fItems Aj.2.fi Aj.2.fh else bif (Ab.1 == 5) then obind (ix Aa.1.fTypes 0) fun Ao=>d_spec_l2Draw_J1 fu c1 Aa Aa.1.fWay Aa.1.fPallet.fW Aa.1.fPallet.fGram Aa.1.fClasses Aa.1.fPairs (setx Aa.1.fTypes 0 ({ Ao with fH:=Ac.1 })) Aa.1.fMaster Aa.1.fItems Ab.2.fi Ab.2.fh else bif (Ab.1 == 6) then obind (d_spec_l1Below fu ((⟨c1.fb,Ab.2.fi,Ab.2.fh⟩:Cur)) ((Aa.1.fTypes.length:Int))) fun Ad=>obind (ix Aa.1.fTypes Ad.1) fun Am=>d_spec_l2Draw_J1 fu c1 Aa Aa.1.fWay Aa.1.fPallet.fW Aa.1.fPallet.fGram Aa.1.fClasses Aa.1.fPairs (setx Aa.1.fTypes Ad.1 ({ Am with fGram:=Ac.1 })) Aa.1.fMaster Aa.1.fItems Ad.2.fi Ad.2.fh else bif (Ab.1 == 7) then obind (d_spec_l1PickInt fu ((⟨c1.fb,Ab.2.fi,Ab.2.fh⟩:Cur)) (([8,(-1),1000]:List Int))) fun Ag=>d_spec_l2Draw_J1 fu c1 Aa Aa.1.fWay Aa.1.fPallet.fW Aa.1.fPallet.fGram Aa.1.fClasses Aa.1.fPairs Aa.1.fTypes Ag.1 Aa.1.fItems Ag.2.fi Ag.2.fh else bif (Ab.1 == 8) then obind (d_spec_l1Below fu ((⟨c1.fb,Ab.2.fi,Ab.2.fh⟩:Cur)) 5) fun Ae=>obind (d_spec_l1Below fu ((⟨c1.fb,Ae.2.fi,Ae.2.fh⟩:Cur)) 8) fun Ah=>obind (apnd 56 Aa.1.fItems (([(⟨3,1,2,3,4,Ae.1,Ah.1⟩:Item)]:List Item))) fun Aq=>d_spec_l2Draw_J1 fu c1 Aa Aa.1.fWay Aa.1.fPallet.fW Aa.1.fPallet.fGram Aa.1.fClasses Aa.1.fPairs Aa.1.fTypes Aa.1.fMaster Aq Ah.2.fi Ah.2.fh else bif (Ab.1 == 9) then bif (decide (((Aa.1.fItems.length:Int)) > 0)) then obind (ix Aa.1.fItems 0) fun At=>d_spec_l2Draw_J1 fu c1 Aa Aa.1.fWay Aa.1.fPallet.fW Aa.1.fPallet.fGram Aa.1.fClasses Aa.1.fPairs Aa.1.fTypes Aa.1.fMaster (setx Aa.1.fItems 0 ({ At with fD:=Ac.1 })) Ab.2.fi Ab.2.fh else d_spec_l2Draw_J1 fu c1 Aa Aa.1.fWay Aa.1.fPallet.fW Aa.1.fPallet.fGram Aa.1.fClasses Aa.1.fPairs Aa.1.fTypes Aa.1.fMaster Aa.1.fItems Ab.2.fi Ab.2.fh else bif (Ab.1 == 10) then bif (decide (((Aa.1.fPairs.length:Int)) > 0)) then obind (sls Aa.1.fPairs 1 (Aa.1.fPairs.length:Int)) fun Al=>d_spec_l2Draw_J1 fu c1 Aa Aa.1.fWay Aa.1.fPallet.fW Aa.1.fPallet.fGram Aa.1.fClasses Al Aa.1.fTypes Aa.1.fMaster Aa.1.fItems Ab.2.fi Ab.2.fh else d_spec_l2Draw_J1 fu c1 Aa Aa.1.fWay Aa.1.fPallet.fW Aa.1.fPallet.fGram Aa.1.fClasses Aa.1.fPairs Aa.1.fTypes Aa.1.fMaster Aa.1.fItems Ab.2.fi Ab.2.fh else bif (Ab.1 == 11) then obind (ix Aa.1.fTypes 0) fun Ar=>obind (apnd 56 Aa.1.fTypes (([Ar]:List Typ))) fun Ap=>d_spec_l2Draw_J1 fu c1 Aa Aa.1.fWay Aa.1.fPallet.fW Aa.1.fPallet.fGram Aa.1.fClasses Aa.1.fPairs Ap Aa.1.fMaster Aa.1.fItems Ab.2.fi Ab.2.fh else bif (Ab.1 == 12) then d_spec_l2Draw_J1 fu c1 Aa Aa.1.fWay Aa.1.fPallet.fW Aa.1.fPallet.fGram Aa.1.fClasses Aa.1.fPairs (([]:List Typ)) Aa.1.fMaster Aa.1.fItems Ab.2.fi Ab.2.fh else d_spec_l2Draw_J1 fu c1 Aa Aa.1.fWay Aa.1.fPallet.fW Aa.1.fPallet.fGram Aa.1.fClasses Aa.1.fPairs Aa.1.fTypes Aa.1.fMaster Aa.1.fItems Ab.2.fi Ab.2.fh

def d_spec_DrawClass (fu:Nat) (Ab:List U8):Option (Request) :=
  obind (d_spec_l1New fu Ab) fun x8=>obind (d_spec_l1Once fu ((⟨Ab,x8.fi,x8.fh⟩:Cur)) 2) fun Aa=>bif Aa.1 then obind (d_spec_l5Good fu ((⟨Ab,Aa.2.fi,Aa.2.fh⟩:Cur))) fun Ad=>some (Ad.1) else obind (d_spec_l2Draw fu ((⟨Ab,Aa.2.fi,Aa.2.fh⟩:Cur))) fun Ac=>some (Ac.1)

def d_spec_Present_J1 (fu:Nat) (Aa:List Int → Int → Option ((List Int))) (Ab:Int) (Ac:List Int):Option ((List Int)) :=
  Aa Ac (w64 (Ab + 1))

def d_spec_Present_J2 (fu:Nat) (Aa:Bool → Int → Option ((List Int))) (Ab:Int) (Ac:Bool):Option ((List Int)) :=
  Aa Ac (w64 (Ab + 1))

def d_spec_Present_L1_B (fu:Nat) (Ac:List Int → Int → Option ((List Int))) (r1:Request) (Af:List Int) (Ab:Int) (Ae:Bool → Int → Option ((List Int))) (Ad:Bool) (Aa:Int):Option ((List Int)) :=
  bif (decide (Aa < ((r1.fItems.length:Int)))) then bif Ad then d_spec_Present_J2 fu Ae Aa true else obind (ix r1.fItems Aa) fun Ag=>d_spec_Present_J2 fu Ae Aa (Ag.fClass == Ab) else bif Ad then obind (apnd 8 Af (([Ab]:List Int))) fun Ah=>d_spec_Present_J1 fu Ac Ab Ah else d_spec_Present_J1 fu Ac Ab Af
def d_spec_Present_L1 (fu:Nat) (Aa:List Int → Int → Option ((List Int))) (r1:Request) (Ac:List Int) (Ab:Int):Nat → Bool → Int → Option ((List Int))
  | 0=>fun _ _=>none
  | n + 1=>d_spec_Present_L1_B fu Aa r1 Ac Ab (d_spec_Present_L1 fu Aa r1 Ac Ab n)

def d_spec_Present_L2_B (fu:Nat)  (r1:Request) (Ac:List Int → Int → Option ((List Int))) (Ab:List Int) (Aa:Int):Option ((List Int)) :=
  bif (decide (Aa < 4)) then d_spec_Present_L1 fu Ac r1 Ab Aa fu false 0 else some (Ab)
def d_spec_Present_L2 (fu:Nat)  (r1:Request):Nat → List Int → Int → Option ((List Int))
  | 0=>fun _ _=>none
  | n + 1=>d_spec_Present_L2_B fu r1 (d_spec_Present_L2 fu r1 n)

def d_spec_Present (fu:Nat) (r1:Request):Option ((List Int)) :=
  obind (d_spec_Class fu r1) fun Aa=>bif (Aa != 0) then some (([]:List Int)) else d_spec_Present_L2 fu r1 fu (([]:List Int)) 0

def d_spec_l1Has_L1_B (fu:Nat)  (Ab:List Int) (x5:Int) (k1:Int → Option (Bool)) (Aa:Int):Option (Bool) :=
  bif (decide (Aa < ((Ab.length:Int)))) then obind (ix Ab Aa) fun Ac=>bif (Ac == x5) then some (true) else k1 (w64 (Aa + 1)) else some (false)
def d_spec_l1Has_L1 (fu:Nat)  (Aa:List Int) (x5:Int):Nat → Int → Option (Bool)
  | 0=>fun _=>none
  | n + 1=>d_spec_l1Has_L1_B fu Aa x5 (d_spec_l1Has_L1 fu Aa x5 n)

def d_spec_l1Has (fu:Nat) (Aa:List Int) (x5:Int):Option (Bool) :=
  d_spec_l1Has_L1 fu Aa x5 fu 0

def d_spec_l3Joins_J1 (fu:Nat) (k3:Int → Option (Bool)) (Aa:Int)  : Option (Bool) :=
  k3 (w64 (Aa + 1))

def d_spec_l3Joins_L1_B (fu:Nat)  (Ae:List Pair) (Ab:List Int) (Ad:Int) (k3:Int → Option (Bool)) (Aa:Int):Option (Bool) :=
  bif (decide (Aa < ((Ab.length:Int)))) then obind (ix Ab Aa) fun Ac=>obind (d_spec_Beside fu Ae Ac Ad) fun Af=>bif (!Af) then some (false) else obind (ix Ab Aa) fun Ah=>obind (d_spec_Beside fu Ae Ad Ac) fun Ag=>bif (!Ag) then some (false) else d_spec_l3Joins_J1 fu k3 Aa else some (true)
def d_spec_l3Joins_L1 (fu:Nat)  (Ac:List Pair) (Aa:List Int) (Ab:Int):Nat → Int → Option (Bool)
  | 0=>fun _=>none
  | n + 1=>d_spec_l3Joins_L1_B fu Ac Aa Ab (d_spec_l3Joins_L1 fu Ac Aa Ab n)

def d_spec_l3Joins (fu:Nat) (Ac:List Pair) (Aa:List Int) (Ab:Int):Option (Bool) :=
  d_spec_l3Joins_L1 fu Ac Aa Ab fu 0

def d_spec_Groups_J1 (fu:Nat) (Ab:List (List Int) → Int → Option ((List (List Int)))) (Aa:Int) (Ac:List (List Int)):Option ((List (List Int))) :=
  Ab Ac (w64 (Aa + 1))

def d_spec_Groups_J2 (fu:Nat) (Ab:Int → Int → Option ((List (List Int)))) (Aa:Int) (Ac:Int):Option ((List (List Int))) :=
  Ab Ac (w64 (Aa - 1))

def d_spec_Groups_L1_B (fu:Nat) (Ae:List (List Int) → Int → Option ((List (List Int)))) (Al:List Pair) (Ab:List (List Int)) (Ad:Int) (Af:Int → Int → Option ((List (List Int)))) (Ac:Int) (Aa:Int):Option ((List (List Int))) :=
  bif (decide (Aa ≥ 0)) then obind (ix Ab Aa) fun Ak=>obind (d_spec_l3Joins fu Al Ak Ad) fun Ah=>bif Ah then d_spec_Groups_J2 fu Af Aa Aa else d_spec_Groups_J2 fu Af Aa Ac else bif (decide (Ac < 0)) then obind (apnd 24 Ab [([Ad]:List Int)]) fun Ag=>d_spec_Groups_J1 fu Ae Ad Ag else obind (ix Ab Ac) fun Aj=>obind (apnd 8 Aj (([Ad]:List Int))) fun Ai=>obind (ix Ab Ac) fun Am=>d_spec_Groups_J1 fu Ae Ad (setx Ab Ac Ai)
def d_spec_Groups_L1 (fu:Nat) (Ab:List (List Int) → Int → Option ((List (List Int)))) (Ad:List Pair) (Ac:List (List Int)) (Aa:Int):Nat → Int → Int → Option ((List (List Int)))
  | 0=>fun _ _=>none
  | n + 1=>d_spec_Groups_L1_B fu Ab Ad Ac Aa (d_spec_Groups_L1 fu Ab Ad Ac Aa n)

def d_spec_Groups_L2_B (fu:Nat)  (Af:List Pair) (Ad:List Int) (Ac:List (List Int) → Int → Option ((List (List Int)))) (Aa:List (List Int)) (Ab:Int):Option ((List (List Int))) :=
  bif (decide (Ab < 4)) then obind (d_spec_l1Has fu Ad Ab) fun Ae=>bif (!Ae) then d_spec_Groups_J1 fu Ac Ab Aa else d_spec_Groups_L1 fu Ac Af Aa Ab fu ((-1)) (w64 (((Aa.length:Int)) - 1)) else some (Aa)
def d_spec_Groups_L2 (fu:Nat)  (Ab:List Pair) (Aa:List Int):Nat → List (List Int) → Int → Option ((List (List Int)))
  | 0=>fun _ _=>none
  | n + 1=>d_spec_Groups_L2_B fu Ab Aa (d_spec_Groups_L2 fu Ab Aa n)

def d_spec_Groups (fu:Nat) (Ab:List Pair) (Aa:List Int):Option ((List (List Int))) :=
  d_spec_Groups_L2 fu Ab Aa fu (([]:List (List Int))) 0

def d_spec_GroupsOf (fu:Nat) (r1:Request):Option ((List (List Int))) :=
  obind (d_spec_Present fu r1) fun Ab=>obind (d_spec_Groups fu r1.fPairs Ab) fun Aa=>some (Aa)

def d_spec_l6Units_L1_B (fu:Nat) (k3:List Int → Int → Option ((List Int))) (r1:Request) (Aa:Int) (k4:List Int → Int → Option ((List Int))) (Ac:List Int) (Ab:Int):Option ((List Int)) :=
  obind (ix r1.fItems Aa) fun Ae=>bif (decide (Ab < Ae.fCount)) then obind (apnd 8 Ac (([Aa]:List Int))) fun Ad=>k4 Ad (w64 (Ab + 1)) else k3 Ac (w64 (Aa + 1))
def d_spec_l6Units_L1 (fu:Nat) (k3:List Int → Int → Option ((List Int))) (r1:Request) (Aa:Int):Nat → List Int → Int → Option ((List Int))
  | 0=>fun _ _=>none
  | n + 1=>d_spec_l6Units_L1_B fu k3 r1 Aa (d_spec_l6Units_L1 fu k3 r1 Aa n)

def d_spec_l6Units_L2_B (fu:Nat)  (r1:Request) (k3:List Int → Int → Option ((List Int))) (Aa:List Int) (Ab:Int):Option ((List Int)) :=
  bif (decide (Ab < ((r1.fItems.length:Int)))) then d_spec_l6Units_L1 fu k3 r1 Ab fu Aa 0 else some (Aa)
def d_spec_l6Units_L2 (fu:Nat)  (r1:Request):Nat → List Int → Int → Option ((List Int))
  | 0=>fun _ _=>none
  | n + 1=>d_spec_l6Units_L2_B fu r1 (d_spec_l6Units_L2 fu r1 n)

def d_spec_l6Units (fu:Nat) (r1:Request):Option ((List Int)) :=
  d_spec_l6Units_L2 fu r1 fu (([]:List Int)) 0

def d_spec_UnitsOf_J1 (fu:Nat) (k3:List Int → Int → Option ((List Int))) (Ab:Int) (Aa:List Int):Option ((List Int)) :=
  k3 Aa (w64 (Ab + 1))

def d_spec_UnitsOf_L1_B (fu:Nat)  (r1:Request) (Aj:Int) (Ae:(List (List Int))) (Ac:(List Int)) (k3:List Int → Int → Option ((List Int))) (Ab:List Int) (Aa:Int):Option ((List Int)) :=
  bif (decide (Aa < ((Ac.length:Int)))) then obind (ix Ae Aj) fun Ah=>obind (ix Ac Aa) fun Af=>obind (ix r1.fItems Af) fun Ad=>obind (d_spec_l1Has fu Ah Ad.fClass) fun Ai=>bif Ai then obind (apnd 8 Ab (([Aa]:List Int))) fun Ag=>d_spec_UnitsOf_J1 fu k3 Aa Ag else d_spec_UnitsOf_J1 fu k3 Aa Ab else some (Ab)
def d_spec_UnitsOf_L1 (fu:Nat)  (r1:Request) (Ac:Int) (Aa:(List (List Int))) (Ab:(List Int)):Nat → List Int → Int → Option ((List Int))
  | 0=>fun _ _=>none
  | n + 1=>d_spec_UnitsOf_L1_B fu r1 Ac Aa Ab (d_spec_UnitsOf_L1 fu r1 Ac Aa Ab n)

def d_spec_UnitsOf (fu:Nat) (r1:Request) (Ab:Int):Option ((List Int)) :=
  obind (d_spec_GroupsOf fu r1) fun Aa=>obind (d_spec_l1In fu Ab 0 (w64 (((Aa.length:Int)) - 1))) fun Ac=>bif (!Ac) then some (([]:List Int)) else obind (d_spec_l6Units fu r1) fun Ad=>d_spec_UnitsOf_L1 fu r1 Ab Aa Ad fu (([]:List Int)) 0

def d_spec_l7Known_J1 (fu:Nat) (k3:List Int → Int → Option ((List Int))) (Aa:Int) (Ab:List Int):Option ((List Int)) :=
  k3 Ab (w64 (Aa + 1))

def d_spec_l7Known_L1_B (fu:Nat)  (Af:List Int) (Ac:List Int) (k3:List Int → Int → Option ((List Int))) (Ab:List Int) (Aa:Int):Option ((List Int)) :=
  bif (decide (Aa < ((Ac.length:Int)))) then obind (ix Ac Aa) fun Ad=>obind (d_spec_l1In fu Ad 0 (w64 (((Af.length:Int)) - 1))) fun Ae=>bif Ae then obind (ix Ac Aa) fun Ah=>obind (apnd 8 Ab (([Ad]:List Int))) fun Ag=>d_spec_l7Known_J1 fu k3 Aa Ag else d_spec_l7Known_J1 fu k3 Aa Ab else some (Ab)
def d_spec_l7Known_L1 (fu:Nat)  (Ab:List Int) (Aa:List Int):Nat → List Int → Int → Option ((List Int))
  | 0=>fun _ _=>none
  | n + 1=>d_spec_l7Known_L1_B fu Ab Aa (d_spec_l7Known_L1 fu Ab Aa n)

def d_spec_l7Known (fu:Nat) (Ab:List Int) (Aa:List Int):Option ((List Int)) :=
  d_spec_l7Known_L1 fu Ab Aa fu (([]:List Int)) 0

def d_spec_l6Item (fu:Nat) (r1:Request) (Aa:List Int) (u9:Int):Option (Item × Bool) :=
  obind (d_spec_l1In fu u9 0 (w64 (((Aa.length:Int)) - 1))) fun Ab=>bif (!Ab) then some ((⟨0,0,0,0,0,0,0⟩:Item),false) else obind (ix Aa u9) fun Ac=>obind (ix r1.fItems Ac) fun Ad=>some (Ad,true)

def d_spec_Volume_J1 (fu:Nat) (Aa:Int) (h2:Int) (d3:Int)  : Option (Int) :=
  some (w64 ((w64 (Aa * h2)) * d3))

def d_spec_Volume (fu:Nat) (Aa:Int) (h2:Int) (d3:Int):Option (Int) :=
  obind (d_spec_l1In fu Aa 0 2000) fun Ac=>bif (!Ac) then some (0) else obind (d_spec_l1In fu h2 0 2000) fun Ab=>bif (!Ab) then some (0) else obind (d_spec_l1In fu d3 0 2000) fun Ad=>bif (!Ad) then some (0) else d_spec_Volume_J1 fu Aa h2 d3

def d_spec_l7Of_J1 (fu:Nat) (k7:L7 → Int → Option (L7)) (Ab:Int) (Aa:L7):Option (L7) :=
  k7 Aa (w64 (Ab + 1))

def d_spec_l7Of_J2 (fu:Nat) (k7:L7 → Int → Option (L7)) (Ab:L7) (Ac:Int) (Aa:Item):Option (L7) :=
  obind (d_spec_Volume fu Aa.fW Aa.fH Aa.fD) fun Ad=>d_spec_l7Of_J1 fu k7 Ac ((⟨w64 (Ab.fvol + Ad),w64 (Ab.fgram + Aa.fGram)⟩:L7))

def d_spec_l7Of_L1_B (fu:Nat)  (r1:Request) (Af:List Int) (Ab:List Int) (k7:L7 → Int → Option (L7)) (Ac:L7) (Aa:Int):Option (L7) :=
  bif (decide (Aa < ((Ab.length:Int)))) then obind (ix Ab Aa) fun Ae=>obind (d_spec_l6Item fu r1 Af Ae) fun Ad=>d_spec_l7Of_J2 fu k7 Ac Aa Ad.1 else some (Ac)
def d_spec_l7Of_L1 (fu:Nat)  (r1:Request) (Ab:List Int) (Aa:List Int):Nat → L7 → Int → Option (L7)
  | 0=>fun _ _=>none
  | n + 1=>d_spec_l7Of_L1_B fu r1 Ab Aa (d_spec_l7Of_L1 fu r1 Ab Aa n)

def d_spec_l7Of (fu:Nat) (r1:Request) (Ab:List Int) (Aa:List Int):Option (L7) :=
  d_spec_l7Of_L1 fu r1 Ab Aa fu ((⟨0,0⟩:L7)) 0

def d_spec_l7Room_J1 (fu:Nat) (m9:Typ) (Aa:L7):Option (Bool) :=
  obind (d_spec_Volume fu m9.fW m9.fH m9.fD) fun Ab=>bif (decide (Aa.fvol ≤ Ab)) then some (decide (Aa.fgram ≤ m9.fGram)) else some (false)

def d_spec_l7Room (fu:Nat) (r1:Request) (Ab:List Int) (m9:Typ) (Aa:List Int) (Af:Int):Option (Bool) :=
  obind (apnd 8 (([]:List Int)) Aa) fun Ad=>obind (apnd 8 Ad (([Af]:List Int))) fun Ae=>obind (d_spec_l7Of fu r1 Ab Ae) fun Ac=>d_spec_l7Room_J1 fu m9 Ac

def d_spec_l7Next_J1 (fu:Nat) (k3:List (List Int) → Int → Option ((List (List Int)))) (Aa:Int) (Ab:List (List Int)):Option ((List (List Int))) :=
  k3 Ab (w64 (Aa + 1))

def d_spec_l7Next_L1_B (fu:Nat)  (r1:Request) (Ac:List Int) (Ah:Typ × Bool) (Af:(List Int)) (k3:List (List Int) → Int → Option ((List (List Int)))) (Aa:List (List Int)) (Ab:Int):Option ((List (List Int))) :=
  bif (decide (Ab < ((Ac.length:Int)))) then bif (decide (((Aa.length:Int)) > 0)) then obind (ix Aa (w64 (((Aa.length:Int)) - 1))) fun Ae=>obind (ix Ac Ab) fun Ad=>obind (d_spec_l7Room fu r1 Af Ah.1 Ae Ad) fun Aj=>bif Aj then obind (ix Aa (w64 (((Aa.length:Int)) - 1))) fun Ao=>obind (ix Ac Ab) fun Aq=>obind (apnd 8 Ae (([Ad]:List Int))) fun Ag=>obind (ix Aa (w64 (((Aa.length:Int)) - 1))) fun Am=>d_spec_l7Next_J1 fu k3 Ab (setx Aa (w64 (((Aa.length:Int)) - 1)) Ag) else obind (ix Ac Ab) fun Ap=>obind (apnd 24 Aa [([Ad]:List Int)]) fun Ak=>d_spec_l7Next_J1 fu k3 Ab Ak else obind (ix Ac Ab) fun Al=>obind (apnd 24 Aa [([Al]:List Int)]) fun Ai=>d_spec_l7Next_J1 fu k3 Ab Ai else some (Aa)
def d_spec_l7Next_L1 (fu:Nat)  (r1:Request) (Aa:List Int) (Ac:Typ × Bool) (Ab:(List Int)):Nat → List (List Int) → Int → Option ((List (List Int)))
  | 0=>fun _ _=>none
  | n + 1=>d_spec_l7Next_L1_B fu r1 Aa Ac Ab (d_spec_l7Next_L1 fu r1 Aa Ac Ab n)

def d_spec_l7Next (fu:Nat) (r1:Request) (Aa:List Int):Option ((List (List Int))) :=
  obind (d_spec_MasterOf fu r1) fun Ac=>obind (d_spec_l6Units fu r1) fun Ab=>d_spec_l7Next_L1 fu r1 Aa Ac Ab fu (([]:List (List Int))) 0

def d_spec_NextFit (fu:Nat) (r1:Request) (Ae:List Int):Option ((List (List Int))) :=
  obind (d_spec_Class fu r1) fun Ab=>bif (Ab != 0) then some (([]:List (List Int))) else obind (d_spec_l6Units fu r1) fun Aa=>obind (d_spec_l7Known fu Aa Ae) fun Ac=>obind (d_spec_l7Next fu r1 Ac) fun Ad=>some (Ad)

def d_spec_SortDown (fu:Nat) (Aa:List Int):Option ((List Int)) :=
  obind (d_spec_l1Places fu ((Aa.length:Int))) fun x5=>obind (d_spec_l1Merge fu Aa x5 true) fun Ab=>some (Ab)

def d_spec_l7First_J1 (fu:Nat) (Ac:List (List Int) → Int → Option ((List (List Int)))) (Aa:Int) (Ab:List (List Int)):Option ((List (List Int))) :=
  Ac Ab (w64 (Aa + 1))

def d_spec_l7First_J2 (fu:Nat) (Ac:Int → Int → Option ((List (List Int)))) (Ab:Int) (Aa:Int):Option ((List (List Int))) :=
  Ac Aa (w64 (Ab - 1))

def d_spec_l7First_L1_B (fu:Nat) (Ag:List (List Int) → Int → Option ((List (List Int)))) (r1:Request) (Ak:Typ × Bool) (Ai:(List Int)) (Ab:List (List Int)) (Ae:Int) (Ad:Int) (Af:Int → Int → Option ((List (List Int)))) (Aa:Int) (Ac:Int):Option ((List (List Int))) :=
  bif (decide (Ac ≥ 0)) then obind (ix Ab Ac) fun Am=>obind (d_spec_l7Room fu r1 Ai Ak.1 Am Ad) fun Ao=>bif Ao then d_spec_l7First_J2 fu Af Ac Ac else d_spec_l7First_J2 fu Af Ac Aa else bif (decide (Aa < 0)) then obind (apnd 24 Ab [([Ad]:List Int)]) fun Al=>d_spec_l7First_J1 fu Ag Ae Al else obind (ix Ab Aa) fun Aj=>obind (apnd 8 Aj (([Ad]:List Int))) fun Ah=>obind (ix Ab Aa) fun Ap=>d_spec_l7First_J1 fu Ag Ae (setx Ab Aa Ah)
def d_spec_l7First_L1 (fu:Nat) (Af:List (List Int) → Int → Option ((List (List Int)))) (r1:Request) (Ac:Typ × Bool) (Aa:(List Int)) (Ab:List (List Int)) (Ae:Int) (Ad:Int):Nat → Int → Int → Option ((List (List Int)))
  | 0=>fun _ _=>none
  | n + 1=>d_spec_l7First_L1_B fu Af r1 Ac Aa Ab Ae Ad (d_spec_l7First_L1 fu Af r1 Ac Aa Ab Ae Ad n)

def d_spec_l7First_L2_B (fu:Nat)  (r1:Request) (Ai:List Int) (Af:Typ × Bool) (Ad:(List Int)) (Ac:(List Int)) (Ah:List (List Int) → Int → Option ((List (List Int)))) (Aa:List (List Int)) (Ab:Int):Option ((List (List Int))) :=
  bif (decide (Ab < ((Ac.length:Int)))) then obind (ix Ac Ab) fun Ae=>obind (ix Ai Ae) fun Ag=>d_spec_l7First_L1 fu Ah r1 Af Ad Aa Ab Ag fu ((-1)) (w64 (((Aa.length:Int)) - 1)) else some (Aa)
def d_spec_l7First_L2 (fu:Nat)  (r1:Request) (Aa:List Int) (Ad:Typ × Bool) (Ab:(List Int)) (Ac:(List Int)):Nat → List (List Int) → Int → Option ((List (List Int)))
  | 0=>fun _ _=>none
  | n + 1=>d_spec_l7First_L2_B fu r1 Aa Ad Ab Ac (d_spec_l7First_L2 fu r1 Aa Ad Ab Ac n)

def d_spec_l7First_L3_B (fu:Nat)  (r1:Request) (Ab:List Int) (Ah:Typ × Bool) (Ac:(List Int)) (k1:List Int → Int → Option ((List (List Int)))) (Ad:List Int) (Aa:Int):Option ((List (List Int))) :=
  bif (decide (Aa < ((Ab.length:Int)))) then obind (sls Ab Aa (w64 (Aa + 1))) fun Ag=>obind (d_spec_l7Of fu r1 Ac Ag) fun Ae=>obind (apnd 8 Ad (([Ae.fvol]:List Int))) fun Ai=>k1 Ai (w64 (Aa + 1)) else obind (d_spec_SortDown fu Ad) fun Af=>d_spec_l7First_L2 fu r1 Ab Ah Ac Af fu (([]:List (List Int))) 0
def d_spec_l7First_L3 (fu:Nat)  (r1:Request) (Aa:List Int) (Ac:Typ × Bool) (Ab:(List Int)):Nat → List Int → Int → Option ((List (List Int)))
  | 0=>fun _ _=>none
  | n + 1=>d_spec_l7First_L3_B fu r1 Aa Ac Ab (d_spec_l7First_L3 fu r1 Aa Ac Ab n)

def d_spec_l7First (fu:Nat) (r1:Request) (Aa:List Int):Option ((List (List Int))) :=
  obind (d_spec_MasterOf fu r1) fun Ac=>obind (d_spec_l6Units fu r1) fun Ab=>d_spec_l7First_L3 fu r1 Aa Ac Ab fu (([]:List Int)) 0

def d_spec_FirstFit (fu:Nat) (r1:Request) (Ae:List Int):Option ((List (List Int))) :=
  obind (d_spec_Class fu r1) fun Ab=>bif (Ab != 0) then some (([]:List (List Int))) else obind (d_spec_l6Units fu r1) fun Aa=>obind (d_spec_l7Known fu Aa Ae) fun Ac=>obind (d_spec_l7First fu r1 Ac) fun Ad=>some (Ad)

def d_spec_PackWay (fu:Nat) (r1:Request) (Aa:List Int):Option ((List (List Int))) :=
  bif (r1.fWay == 1) then obind (d_spec_NextFit fu r1 Aa) fun Ab=>some (Ab) else obind (d_spec_FirstFit fu r1 Aa) fun Ac=>some (Ac)

def d_spec_Holds_J1 (fu:Nat) (r1:Request) (Ac:List Int) (t9:Typ) (Ab:(List Int))  : Option (Bool) :=
  obind (d_spec_l7Of fu r1 Ab Ac) fun Aa=>obind (d_spec_Volume fu t9.fW t9.fH t9.fD) fun Ad=>bif (decide (Aa.fvol ≤ Ad)) then some (decide (Aa.fgram ≤ t9.fGram)) else some (false)

def d_spec_Holds_J2 (fu:Nat) (Aa:Int → Option (Bool)) (Ab:Int)  : Option (Bool) :=
  Aa (w64 (Ab + 1))

def d_spec_Holds_J3 (fu:Nat) (Aa:Int → Option (Bool)) (t9:Typ) (Ad:Int) (Ab:Item) (Ac:Bool):Option (Bool) :=
  bif (!Ac) then some (false) else obind (d_spec_Fits fu Ab t9) fun Ae=>bif (!Ae) then some (false) else d_spec_Holds_J2 fu Aa Ad

def d_spec_Holds_L1_B (fu:Nat)  (r1:Request) (Aa:List Int) (t9:Typ) (Ac:(List Int)) (Ae:Int → Option (Bool)) (Ab:Int):Option (Bool) :=
  bif (decide (Ab < ((Aa.length:Int)))) then obind (ix Aa Ab) fun Af=>obind (d_spec_l6Item fu r1 Ac Af) fun Ad=>d_spec_Holds_J3 fu Ae t9 Ab Ad.1 Ad.2 else d_spec_Holds_J1 fu r1 Aa t9 Ac
def d_spec_Holds_L1 (fu:Nat)  (r1:Request) (Ab:List Int) (t9:Typ) (Aa:(List Int)):Nat → Int → Option (Bool)
  | 0=>fun _=>none
  | n + 1=>d_spec_Holds_L1_B fu r1 Ab t9 Aa (d_spec_Holds_L1 fu r1 Ab t9 Aa n)

def d_spec_Holds (fu:Nat) (r1:Request) (Ac:List Int) (t9:Typ):Option (Bool) :=
  obind (d_spec_Class fu r1) fun Aa=>bif (Aa != 0) then some (false) else obind (d_spec_l6Units fu r1) fun Ab=>d_spec_Holds_L1 fu r1 Ac t9 Ab fu 0

def d_spec_Cheapest_J1 (fu:Nat) (k3:Typ → Bool → Int → Option (Typ × Bool)) (Ab:Int) (Aa:Typ) (Ac:Bool):Option (Typ × Bool) :=
  k3 Aa Ac (w64 (Ab + 1))

def d_spec_Cheapest_L1_B (fu:Nat)  (r1:Request) (Af:List Int) (k3:Typ → Bool → Int → Option (Typ × Bool)) (Ac:Typ) (Ad:Bool) (Aa:Int):Option (Typ × Bool) :=
  bif (decide (Aa < ((r1.fTypes.length:Int)))) then obind (ix r1.fTypes Aa) fun Ab=>obind (d_spec_Holds fu r1 Af Ab) fun Ae=>bif (!Ae) then d_spec_Cheapest_J1 fu k3 Aa Ac Ad else bif (!Ad) then d_spec_Cheapest_J1 fu k3 Aa Ab true else bif (decide (Ab.fCost < Ac.fCost)) then d_spec_Cheapest_J1 fu k3 Aa Ab true else bif (Ab.fCost == Ac.fCost) then bif (decide (Ab.fId < Ac.fId)) then d_spec_Cheapest_J1 fu k3 Aa Ab true else d_spec_Cheapest_J1 fu k3 Aa Ac Ad else d_spec_Cheapest_J1 fu k3 Aa Ac Ad else some (Ac,Ad)
def d_spec_Cheapest_L1 (fu:Nat)  (r1:Request) (Aa:List Int):Nat → Typ → Bool → Int → Option (Typ × Bool)
  | 0=>fun _ _ _=>none
  | n + 1=>d_spec_Cheapest_L1_B fu r1 Aa (d_spec_Cheapest_L1 fu r1 Aa n)

def d_spec_Cheapest (fu:Nat) (r1:Request) (Aa:List Int):Option (Typ × Bool) :=
  d_spec_Cheapest_L1 fu r1 Aa fu ((⟨0,0,0,0,0,0,0⟩:Typ)) false 0

def d_spec_CartonsOf_J1 (fu:Nat) (Aa:List Carton → Int → Option ((List Carton))) (Ab:Int) (Ac:List Carton):Option ((List Carton)) :=
  Aa Ac (w64 (Ab + 1))

def d_spec_CartonsOf_J2 (fu:Nat) (Aa:List Carton → Int → Option ((List Carton))) (Ab:Int) (Ac:List Carton):Option ((List Carton)) :=
  Aa Ac (w64 (Ab + 1))

def d_spec_CartonsOf_L1_B (fu:Nat) (Ah:List Carton → Int → Option ((List Carton))) (Ao:Int) (Af:(List (List Int))) (Ag:List Carton) (Ab:Int) (Aj:Typ) (Ac:(List Int)) (Ak:List Int → Int → Option ((List Carton))) (Ad:List Int) (Aa:Int):Option ((List Carton)) :=
  bif (decide (Aa < ((Ac.length:Int)))) then obind (ix Af Ab) fun Al=>obind (ix Ac Aa) fun Ai=>obind (ix Al Ai) fun Ae=>obind (apnd 8 Ad (([Ae]:List Int))) fun Am=>Ak Am (w64 (Aa + 1)) else obind (apnd 40 Ag [(⟨Aj.fId,Ao,Ad⟩:Carton)]) fun Ap=>d_spec_CartonsOf_J2 fu Ah Ab Ap
def d_spec_CartonsOf_L1 (fu:Nat) (Ac:List Carton → Int → Option ((List Carton))) (Ag:Int) (Aa:(List (List Int))) (Ab:List Carton) (Ad:Int) (Af:Typ) (Ae:(List Int)):Nat → List Int → Int → Option ((List Carton))
  | 0=>fun _ _=>none
  | n + 1=>d_spec_CartonsOf_L1_B fu Ac Ag Aa Ab Ad Af Ae (d_spec_CartonsOf_L1 fu Ac Ag Aa Ab Ad Af Ae n)

def d_spec_CartonsOf_J3 (fu:Nat) (Ad:List Carton → Int → Option ((List Carton))) (Ah:Int) (Aa:(List (List Int))) (Ac:List Carton) (Ab:Int) (Af:Typ):Option ((List Carton)) :=
  obind (ix Aa Ab) fun Ag=>obind (d_spec_SortUp fu Ag) fun Ae=>d_spec_CartonsOf_L1 fu Ad Ah Aa Ac Ab Af Ae fu (([]:List Int)) 0

def d_spec_CartonsOf_L2_B (fu:Nat) (Af:List Carton → Int → Option ((List Carton))) (r1:Request) (Ad:Int) (Aa:(List (List Int))) (Ae:List Carton → Int → Option ((List Carton))) (Ac:List Carton) (Ab:Int):Option ((List Carton)) :=
  bif (decide (Ab < ((Aa.length:Int)))) then obind (ix Aa Ab) fun Ag=>obind (d_spec_Cheapest fu r1 Ag) fun Ah=>d_spec_CartonsOf_J3 fu Ae Ad Aa Ac Ab Ah.1 else d_spec_CartonsOf_J1 fu Af Ad Ac
def d_spec_CartonsOf_L2 (fu:Nat) (Aa:List Carton → Int → Option ((List Carton))) (r1:Request) (Ab:Int) (Ac:(List (List Int))):Nat → List Carton → Int → Option ((List Carton))
  | 0=>fun _ _=>none
  | n + 1=>d_spec_CartonsOf_L2_B fu Aa r1 Ab Ac (d_spec_CartonsOf_L2 fu Aa r1 Ab Ac n)

def d_spec_CartonsOf_L3_B (fu:Nat)  (r1:Request) (Af:(List (List Int))) (Ad:List Carton → Int → Option ((List Carton))) (Ab:List Carton) (Aa:Int):Option ((List Carton)) :=
  bif (decide (Aa < ((Af.length:Int)))) then obind (d_spec_UnitsOf fu r1 Aa) fun Ae=>obind (d_spec_PackWay fu r1 Ae) fun Ac=>d_spec_CartonsOf_L2 fu Ad r1 Aa Ac fu Ab 0 else some (Ab)
def d_spec_CartonsOf_L3 (fu:Nat)  (r1:Request) (Aa:(List (List Int))):Nat → List Carton → Int → Option ((List Carton))
  | 0=>fun _ _=>none
  | n + 1=>d_spec_CartonsOf_L3_B fu r1 Aa (d_spec_CartonsOf_L3 fu r1 Aa n)

def d_spec_CartonsOf (fu:Nat) (r1:Request):Option ((List Carton)) :=
  obind (d_spec_GroupsOf fu r1) fun Aa=>d_spec_CartonsOf_L3 fu r1 Aa fu (([]:List Carton)) 0

def d_spec_TypeById_L1_B (fu:Nat)  (r1:Request) (Ac:Int) (k1:Int → Option (Typ × Bool)) (Aa:Int):Option (Typ × Bool) :=
  bif (decide (Aa < ((r1.fTypes.length:Int)))) then obind (ix r1.fTypes Aa) fun Ab=>bif (Ab.fId == Ac) then obind (ix r1.fTypes Aa) fun Ad=>some (Ab,true) else k1 (w64 (Aa + 1)) else some ((⟨0,0,0,0,0,0,0⟩:Typ),false)
def d_spec_TypeById_L1 (fu:Nat)  (r1:Request) (Aa:Int):Nat → Int → Option (Typ × Bool)
  | 0=>fun _=>none
  | n + 1=>d_spec_TypeById_L1_B fu r1 Aa (d_spec_TypeById_L1 fu r1 Aa n)

def d_spec_TypeById (fu:Nat) (r1:Request) (Aa:Int):Option (Typ × Bool) :=
  d_spec_TypeById_L1 fu r1 Aa fu 0

def d_spec_Units (fu:Nat) (r1:Request):Option ((List Int)) :=
  obind (d_spec_Class fu r1) fun Aa=>bif (Aa != 0) then some (([]:List Int)) else obind (d_spec_l6Units fu r1) fun Ab=>some (Ab)

def d_spec_GramOf_J1 (fu:Nat) (k7:Int → Int → Option (Int)) (Ab:Int) (Aa:Int):Option (Int) :=
  k7 Aa (w64 (Ab + 1))

def d_spec_GramOf_J2 (fu:Nat) (k7:Int → Int → Option (Int)) (Ab:Int) (Ac:Int) (Aa:Item):Option (Int) :=
  d_spec_GramOf_J1 fu k7 Ac (w64 (Ab + Aa.fGram))

def d_spec_GramOf_L1_B (fu:Nat)  (r1:Request) (Ac:List Int) (Ad:(List Int)) (k7:Int → Int → Option (Int)) (Ab:Int) (Aa:Int):Option (Int) :=
  bif (decide (Aa < ((Ac.length:Int)))) then obind (ix Ac Aa) fun Af=>obind (d_spec_l6Item fu r1 Ad Af) fun Ae=>d_spec_GramOf_J2 fu k7 Ab Aa Ae.1 else some (Ab)
def d_spec_GramOf_L1 (fu:Nat)  (r1:Request) (Aa:List Int) (Ab:(List Int)):Nat → Int → Int → Option (Int)
  | 0=>fun _ _=>none
  | n + 1=>d_spec_GramOf_L1_B fu r1 Aa Ab (d_spec_GramOf_L1 fu r1 Aa Ab n)

def d_spec_GramOf (fu:Nat) (r1:Request) (Aa:List Int):Option (Int) :=
  obind (d_spec_Units fu r1) fun Ab=>d_spec_GramOf_L1 fu r1 Aa Ab fu 0 0

def d_spec_Gross_J1 (fu:Nat) (r1:Request) (x5:Carton) (Ab:Typ × Bool)  : Option (Int) :=
  obind (d_spec_GramOf fu r1 x5.fUnits) fun Aa=>some (w64 (Ab.1.fTare + Aa))

def d_spec_Gross (fu:Nat) (r1:Request) (x5:Carton):Option (Int) :=
  obind (d_spec_TypeById fu r1 x5.fType) fun Aa=>obind (d_spec_Class fu r1) fun Ab=>bif (Ab != 0) then some (0) else bif (!Aa.2) then some (0) else d_spec_Gross_J1 fu r1 x5 Aa

def d_spec_BoxOf_J1 (fu:Nat) (r1:Request) (x5:Carton) (Aa:Typ × Bool)  : Option (Box) :=
  obind (d_spec_Gross fu r1 x5) fun Ab=>some ((⟨Aa.1.fW,Aa.1.fD,Aa.1.fH,Ab⟩:Box))

def d_spec_BoxOf (fu:Nat) (r1:Request) (x5:Carton):Option (Box) :=
  obind (d_spec_TypeById fu r1 x5.fType) fun Aa=>obind (d_spec_Class fu r1) fun Ab=>bif (Ab != 0) then some ((⟨0,0,0,0⟩:Box)) else bif (!Aa.2) then some ((⟨0,0,0,0⟩:Box)) else d_spec_BoxOf_J1 fu r1 x5 Aa

def d_spec_BoxesOk_J1 (fu:Nat) (k3:Int → Option (Bool)) (Aa:Int)  : Option (Bool) :=
  k3 (w64 (Aa + 1))

def d_spec_BoxesOk_L1_B (fu:Nat)  (p1:Pallet) (Ac:List Box) (k3:Int → Option (Bool)) (Ab:Int):Option (Bool) :=
  bif (decide (Ab < ((Ac.length:Int)))) then obind (ix Ac Ab) fun Aa=>obind (d_spec_l1In fu Aa.fW 1 p1.fW) fun Ag=>bif (!Ag) then some (false) else obind (d_spec_l1In fu Aa.fD 1 p1.fD) fun Af=>bif (!Af) then some (false) else obind (d_spec_l1In fu Aa.fH 1 p1.fH) fun Ad=>bif (!Ad) then some (false) else obind (d_spec_l1In fu Aa.fGram 1 p1.fGram) fun Ae=>bif (!Ae) then some (false) else d_spec_BoxesOk_J1 fu k3 Ab else some (true)
def d_spec_BoxesOk_L1 (fu:Nat)  (p1:Pallet) (Aa:List Box):Nat → Int → Option (Bool)
  | 0=>fun _=>none
  | n + 1=>d_spec_BoxesOk_L1_B fu p1 Aa (d_spec_BoxesOk_L1 fu p1 Aa n)

def d_spec_BoxesOk (fu:Nat) (p1:Pallet) (Aa:List Box):Option (Bool) :=
  obind (d_spec_PalletOk fu p1) fun Ab=>bif (!Ab) then some (false) else d_spec_BoxesOk_L1 fu p1 Aa fu 0

def d_spec_l1Max (fu:Nat) (a1:Int) (b2:Int):Option (Int) :=
  bif (decide (a1 > b2)) then some (a1) else some (b2)

def d_spec_l10Add (fu:Nat) (Aa:Shelf) (Ae:Int) (b6:Box):Option (Shelf) :=
  obind (apnd 8 (([]:List Int)) Aa.fList) fun Ad=>obind (apnd 8 Ad (([Ae]:List Int))) fun Af=>obind (d_spec_l1Max fu Aa.fD b6.fD) fun Ab=>obind (d_spec_l1Max fu Aa.fH b6.fH) fun Ac=>some ((⟨Af,w64 (Aa.fW + b6.fW),Ab,Ac,w64 (Aa.fGram + b6.fGram)⟩:Shelf))

def d_spec_Shelves_J1 (fu:Nat) (k4:List Shelf → Int → Option ((List Shelf))) (Ab:Int) (Aa:List Shelf):Option ((List Shelf)) :=
  k4 Aa (w64 (Ab + 1))

def d_spec_Shelves_L1_B (fu:Nat)  (p1:Pallet) (Ah:List Box) (Ac:(List Int)) (k4:List Shelf → Int → Option ((List Shelf))) (Aa:List Shelf) (Ab:Int):Option ((List Shelf)) :=
  bif (decide (Ab < ((Ac.length:Int)))) then obind (ix Ac Ab) fun Ae=>obind (ix Ah Ae) fun Ad=>bif (decide (((Aa.length:Int)) > 0)) then obind (ix Aa (w64 (((Aa.length:Int)) - 1))) fun Af=>bif (decide ((w64 (Af.fW + Ad.fW)) ≤ p1.fW)) then obind (ix Aa (w64 (((Aa.length:Int)) - 1))) fun As=>bif (decide ((w64 (Af.fGram + Ad.fGram)) ≤ p1.fGram)) then obind (ix Aa (w64 (((Aa.length:Int)) - 1))) fun Ap=>obind (ix Ac Ab) fun Au=>obind (d_spec_l10Add fu Af Ae Ad) fun Ai=>obind (ix Aa (w64 (((Aa.length:Int)) - 1))) fun Av=>d_spec_Shelves_J1 fu k4 Ab (setx Aa (w64 (((Aa.length:Int)) - 1)) Ai) else obind (ix Ac Ab) fun At=>obind (d_spec_l10Add fu ((⟨[],0,0,0,0⟩:Shelf)) Ae Ad) fun Ak=>obind (apnd 56 Aa [Ak]) fun Am=>d_spec_Shelves_J1 fu k4 Ab Am else obind (ix Ac Ab) fun Ar=>obind (d_spec_l10Add fu ((⟨[],0,0,0,0⟩:Shelf)) Ae Ad) fun Al=>obind (apnd 56 Aa [Al]) fun Ag=>d_spec_Shelves_J1 fu k4 Ab Ag else obind (ix Ac Ab) fun Aq=>obind (d_spec_l10Add fu ((⟨[],0,0,0,0⟩:Shelf)) Ae Ad) fun Ao=>obind (apnd 56 Aa [Ao]) fun Aj=>d_spec_Shelves_J1 fu k4 Ab Aj else some (Aa)
def d_spec_Shelves_L1 (fu:Nat)  (p1:Pallet) (Ab:List Box) (Aa:(List Int)):Nat → List Shelf → Int → Option ((List Shelf))
  | 0=>fun _ _=>none
  | n + 1=>d_spec_Shelves_L1_B fu p1 Ab Aa (d_spec_Shelves_L1 fu p1 Ab Aa n)

def d_spec_Shelves_L2_B (fu:Nat)  (p1:Pallet) (Ab:List Box) (k1:List Int → Int → Option ((List Shelf))) (Ac:List Int) (Aa:Int):Option ((List Shelf)) :=
  bif (decide (Aa < ((Ab.length:Int)))) then obind (ix Ab Aa) fun Af=>obind (apnd 8 Ac (([Af.fD]:List Int))) fun Ae=>k1 Ae (w64 (Aa + 1)) else obind (d_spec_SortDown fu Ac) fun Ad=>d_spec_Shelves_L1 fu p1 Ab Ad fu (([]:List Shelf)) 0
def d_spec_Shelves_L2 (fu:Nat)  (p1:Pallet) (Aa:List Box):Nat → List Int → Int → Option ((List Shelf))
  | 0=>fun _ _=>none
  | n + 1=>d_spec_Shelves_L2_B fu p1 Aa (d_spec_Shelves_L2 fu p1 Aa n)

def d_spec_Shelves (fu:Nat) (p1:Pallet) (Aa:List Box):Option ((List Shelf)) :=
  obind (d_spec_BoxesOk fu p1 Aa) fun Ab=>bif (!Ab) then some (([]:List Shelf)) else d_spec_Shelves_L2 fu p1 Aa fu (([]:List Int)) 0

def d_spec_l11Ok (fu:Nat) (p1:Pallet) (d2:Int) (h3:Int) (Ac:Int):Option (Bool) :=
  obind (d_spec_l1In fu d2 1 p1.fD) fun x8=>bif x8 then obind (d_spec_l1In fu h3 1 p1.fH) fun Aa=>bif Aa then obind (d_spec_l1In fu Ac 1 p1.fGram) fun Ab=>some (Ab) else some (false) else some (false)

def d_spec_ShelvesOk_L1_B (fu:Nat)  (p1:Pallet) (Ab:List Shelf) (k1:Int → Option (Bool)) (Aa:Int):Option (Bool) :=
  bif (decide (Aa < ((Ab.length:Int)))) then obind (ix Ab Aa) fun Ac=>obind (ix Ab Aa) fun Ae=>obind (ix Ab Aa) fun Af=>obind (d_spec_l11Ok fu p1 Ac.fD Ac.fH Ac.fGram) fun Ad=>bif (!Ad) then some (false) else k1 (w64 (Aa + 1)) else some (true)
def d_spec_ShelvesOk_L1 (fu:Nat)  (p1:Pallet) (Aa:List Shelf):Nat → Int → Option (Bool)
  | 0=>fun _=>none
  | n + 1=>d_spec_ShelvesOk_L1_B fu p1 Aa (d_spec_ShelvesOk_L1 fu p1 Aa n)

def d_spec_ShelvesOk (fu:Nat) (p1:Pallet) (Aa:List Shelf):Option (Bool) :=
  obind (d_spec_PalletOk fu p1) fun Ab=>bif (!Ab) then some (false) else d_spec_ShelvesOk_L1 fu p1 Aa fu 0

def d_spec_LayersOf_J1 (fu:Nat) (k7:List Layer → Int → Option ((List Layer))) (Aa:Int) (Ab:List Layer):Option ((List Layer)) :=
  k7 Ab (w64 (Aa + 1))

def d_spec_LayersOf_J2 (fu:Nat) (k7:List Layer → Int → Option ((List Layer))) (Ae:Int) (Ac:Shelf) (Ad:List Layer) (Ab:Int):Option ((List Layer)) :=
  obind (ix Ad (w64 (Ab - 1))) fun Aa=>obind (apnd 8 (([]:List Int)) Aa.fShelves) fun Ah=>obind (apnd 8 Ah (([Ae]:List Int))) fun Ag=>obind (d_spec_l1Max fu Aa.fH Ac.fH) fun Af=>obind (ix Ad (w64 (Ab - 1))) fun Ai=>d_spec_LayersOf_J1 fu k7 Ae (setx Ad (w64 (Ab - 1)) ((⟨Ag,w64 (Aa.fD + Ac.fD),Af,w64 (Aa.fGram + Ac.fGram)⟩:Layer)))

def d_spec_LayersOf_L1_B (fu:Nat)  (p1:Pallet) (Ad:List Shelf) (k7:List Layer → Int → Option ((List Layer))) (Aa:List Layer) (Ac:Int):Option ((List Layer)) :=
  bif (decide (Ac < ((Ad.length:Int)))) then obind (ix Ad Ac) fun Ab=>bif (((Aa.length:Int)) == 0) then obind (apnd 48 Aa [(⟨[],0,0,0⟩:Layer)]) fun Af=>d_spec_LayersOf_J2 fu k7 Ac Ab Af (w64 (((Aa.length:Int)) + 1)) else obind (ix Aa (w64 (((Aa.length:Int)) - 1))) fun Ae=>bif (decide ((w64 (Ae.fD + Ab.fD)) > p1.fD)) then obind (apnd 48 Aa [(⟨[],0,0,0⟩:Layer)]) fun Ag=>d_spec_LayersOf_J2 fu k7 Ac Ab Ag (w64 (((Aa.length:Int)) + 1)) else obind (ix Aa (w64 (((Aa.length:Int)) - 1))) fun Ai=>bif (decide ((w64 (Ae.fGram + Ab.fGram)) > p1.fGram)) then obind (apnd 48 Aa [(⟨[],0,0,0⟩:Layer)]) fun Ah=>d_spec_LayersOf_J2 fu k7 Ac Ab Ah (w64 (((Aa.length:Int)) + 1)) else d_spec_LayersOf_J2 fu k7 Ac Ab Aa ((Aa.length:Int)) else some (Aa)
def d_spec_LayersOf_L1 (fu:Nat)  (p1:Pallet) (Aa:List Shelf):Nat → List Layer → Int → Option ((List Layer))
  | 0=>fun _ _=>none
  | n + 1=>d_spec_LayersOf_L1_B fu p1 Aa (d_spec_LayersOf_L1 fu p1 Aa n)

def d_spec_LayersOf (fu:Nat) (p1:Pallet) (Aa:List Shelf):Option ((List Layer)) :=
  obind (d_spec_ShelvesOk fu p1 Aa) fun Ab=>bif (!Ab) then some (([]:List Layer)) else d_spec_LayersOf_L1 fu p1 Aa fu (([]:List Layer)) 0

def d_spec_StacksOk_L1_B (fu:Nat)  (p1:Pallet) (Ab:List Layer) (k1:Int → Option (Bool)) (Aa:Int):Option (Bool) :=
  bif (decide (Aa < ((Ab.length:Int)))) then obind (ix Ab Aa) fun Ac=>obind (ix Ab Aa) fun Ae=>obind (ix Ab Aa) fun Af=>obind (d_spec_l11Ok fu p1 Ac.fD Ac.fH Ac.fGram) fun Ad=>bif (!Ad) then some (false) else k1 (w64 (Aa + 1)) else some (true)
def d_spec_StacksOk_L1 (fu:Nat)  (p1:Pallet) (Aa:List Layer):Nat → Int → Option (Bool)
  | 0=>fun _=>none
  | n + 1=>d_spec_StacksOk_L1_B fu p1 Aa (d_spec_StacksOk_L1 fu p1 Aa n)

def d_spec_StacksOk (fu:Nat) (p1:Pallet) (Aa:List Layer):Option (Bool) :=
  obind (d_spec_PalletOk fu p1) fun Ab=>bif (!Ab) then some (false) else d_spec_StacksOk_L1 fu p1 Aa fu 0

def d_spec_LoadsOf_J1 (fu:Nat) (k7:List Load → Int → Option ((List Load))) (Ab:Int) (Aa:List Load):Option ((List Load)) :=
  k7 Aa (w64 (Ab + 1))

def d_spec_LoadsOf_J2 (fu:Nat) (k7:List Load → Int → Option ((List Load))) (Ae:Int) (Ad:Layer) (Ac:List Load) (Ab:Int):Option ((List Load)) :=
  obind (ix Ac (w64 (Ab - 1))) fun Aa=>obind (apnd 8 (([]:List Int)) Aa.fLayers) fun Af=>obind (apnd 8 Af (([Ae]:List Int))) fun Ag=>obind (ix Ac (w64 (Ab - 1))) fun Ah=>d_spec_LoadsOf_J1 fu k7 Ae (setx Ac (w64 (Ab - 1)) ((⟨Ag,w64 (Aa.fH + Ad.fH),w64 (Aa.fGram + Ad.fGram)⟩:Load)))

def d_spec_LoadsOf_L1_B (fu:Nat)  (p1:Pallet) (Ae:List Layer) (k7:List Load → Int → Option ((List Load))) (Aa:List Load) (Ac:Int):Option ((List Load)) :=
  bif (decide (Ac < ((Ae.length:Int)))) then obind (ix Ae Ac) fun Ab=>bif (((Aa.length:Int)) == 0) then obind (apnd 40 Aa [(⟨[],0,0⟩:Load)]) fun Ah=>d_spec_LoadsOf_J2 fu k7 Ac Ab Ah (w64 (((Aa.length:Int)) + 1)) else obind (ix Aa (w64 (((Aa.length:Int)) - 1))) fun Ad=>bif (decide ((w64 (Ad.fH + Ab.fH)) > p1.fH)) then obind (apnd 40 Aa [(⟨[],0,0⟩:Load)]) fun Af=>d_spec_LoadsOf_J2 fu k7 Ac Ab Af (w64 (((Aa.length:Int)) + 1)) else obind (ix Aa (w64 (((Aa.length:Int)) - 1))) fun Ai=>bif (decide ((w64 (Ad.fGram + Ab.fGram)) > p1.fGram)) then obind (apnd 40 Aa [(⟨[],0,0⟩:Load)]) fun Ag=>d_spec_LoadsOf_J2 fu k7 Ac Ab Ag (w64 (((Aa.length:Int)) + 1)) else d_spec_LoadsOf_J2 fu k7 Ac Ab Aa ((Aa.length:Int)) else some (Aa)
def d_spec_LoadsOf_L1 (fu:Nat)  (p1:Pallet) (Aa:List Layer):Nat → List Load → Int → Option ((List Load))
  | 0=>fun _ _=>none
  | n + 1=>d_spec_LoadsOf_L1_B fu p1 Aa (d_spec_LoadsOf_L1 fu p1 Aa n)

def d_spec_LoadsOf (fu:Nat) (p1:Pallet) (Aa:List Layer):Option ((List Load)) :=
  obind (d_spec_StacksOk fu p1 Aa) fun Ab=>bif (!Ab) then some (([]:List Load)) else d_spec_LoadsOf_L1 fu p1 Aa fu (([]:List Load)) 0

def d_spec_SpotsOf_L1_B (fu:Nat) (Ai:List Spot → Int → Int → Option ((List Spot))) (Am:List Box) (Ak:Int) (Al:Int) (Af:Int) (Aj:Int) (Aa:Shelf) (Ag:List Spot → Int → Int → Option ((List Spot))) (Ac:List Spot) (Ae:Int) (Ab:Int):Option ((List Spot)) :=
  bif (decide (Ab < ((Aa.fList.length:Int)))) then obind (ix Aa.fList Ab) fun Ad=>obind (ix Ac Ad) fun Ap=>obind (ix Aa.fList Ab) fun Ao=>obind (ix Am Ad) fun Ah=>Ag (setx Ac Ad ((⟨Ak,Ae,Af,Al⟩:Spot))) (w64 (Ae + Ah.fW)) (w64 (Ab + 1)) else Ai Ac (w64 (Af + Aa.fD)) (w64 (Aj + 1))
def d_spec_SpotsOf_L1 (fu:Nat) (Aa:List Spot → Int → Int → Option ((List Spot))) (Af:List Box) (Ad:Int) (Ae:Int) (Ag:Int) (Ac:Int) (Ab:Shelf):Nat → List Spot → Int → Int → Option ((List Spot))
  | 0=>fun _ _ _=>none
  | n + 1=>d_spec_SpotsOf_L1_B fu Aa Af Ad Ae Ag Ac Ab (d_spec_SpotsOf_L1 fu Aa Af Ad Ae Ag Ac Ab n)

def d_spec_SpotsOf_L2_B (fu:Nat) (Aj:List Spot → Int → Int → Option ((List Spot))) (Al:List Box) (Ag:(List Shelf)) (Ak:Int) (Ad:Int) (Ah:Int) (Aa:Layer) (Ae:List Spot → Int → Int → Option ((List Spot))) (Ac:List Spot) (Ai:Int) (Ab:Int):Option ((List Spot)) :=
  bif (decide (Ab < ((Aa.fShelves.length:Int)))) then obind (ix Aa.fShelves Ab) fun Am=>obind (ix Ag Am) fun Af=>d_spec_SpotsOf_L1 fu Ae Al Ak Ad Ai Ab Af fu Ac 0 0 else Aj Ac (w64 (Ad + Aa.fH)) (w64 (Ah + 1))
def d_spec_SpotsOf_L2 (fu:Nat) (Ad:List Spot → Int → Int → Option ((List Spot))) (Ag:List Box) (Ab:(List Shelf)) (Ae:Int) (Af:Int) (Ac:Int) (Aa:Layer):Nat → List Spot → Int → Int → Option ((List Spot))
  | 0=>fun _ _ _=>none
  | n + 1=>d_spec_SpotsOf_L2_B fu Ad Ag Ab Ae Af Ac Aa (d_spec_SpotsOf_L2 fu Ad Ag Ab Ae Af Ac Aa n)

def d_spec_SpotsOf_L3_B (fu:Nat) (Al:List Spot → Int → Option ((List Spot))) (Am:List Box) (Aj:(List Shelf)) (Ah:(List Layer)) (Ad:(List Load)) (Aa:Int) (Ak:List Spot → Int → Int → Option ((List Spot))) (Ae:List Spot) (Af:Int) (Ab:Int):Option ((List Spot)) :=
  obind (ix Ad Aa) fun Ac=>bif (decide (Ab < ((Ac.fLayers.length:Int)))) then obind (ix Ad Aa) fun Ao=>obind (ix Ac.fLayers Ab) fun Ai=>obind (ix Ah Ai) fun Ag=>d_spec_SpotsOf_L2 fu Ak Am Aj Aa Af Ab Ag fu Ae 0 0 else Al Ae (w64 (Aa + 1))
def d_spec_SpotsOf_L3 (fu:Nat) (Ae:List Spot → Int → Option ((List Spot))) (Af:List Box) (Ab:(List Shelf)) (Aa:(List Layer)) (Ac:(List Load)) (Ad:Int):Nat → List Spot → Int → Int → Option ((List Spot))
  | 0=>fun _ _ _=>none
  | n + 1=>d_spec_SpotsOf_L3_B fu Ae Af Ab Aa Ac Ad (d_spec_SpotsOf_L3 fu Ae Af Ab Aa Ac Ad n)

def d_spec_SpotsOf_L4_B (fu:Nat)  (Ag:List Box) (Ae:(List Shelf)) (Ad:(List Layer)) (Ab:(List Load)) (Af:List Spot → Int → Option ((List Spot))) (Aa:List Spot) (Ac:Int):Option ((List Spot)) :=
  bif (decide (Ac < ((Ab.length:Int)))) then d_spec_SpotsOf_L3 fu Af Ag Ae Ad Ab Ac fu Aa 0 0 else some (Aa)
def d_spec_SpotsOf_L4 (fu:Nat)  (Aa:List Box) (Ad:(List Shelf)) (Ac:(List Layer)) (Ab:(List Load)):Nat → List Spot → Int → Option ((List Spot))
  | 0=>fun _ _=>none
  | n + 1=>d_spec_SpotsOf_L4_B fu Aa Ad Ac Ab (d_spec_SpotsOf_L4 fu Aa Ad Ac Ab n)

def d_spec_SpotsOf (fu:Nat) (p1:Pallet) (Aa:List Box):Option ((List Spot)) :=
  obind (mk 32 (⟨(0:Int),(0:Int),(0:Int),(0:Int)⟩:Spot) ((Aa.length:Int))) fun Af=>obind (d_spec_BoxesOk fu p1 Aa) fun Ae=>bif (!Ae) then some (([]:List Spot)) else obind (d_spec_Shelves fu p1 Aa) fun Ac=>obind (d_spec_LayersOf fu p1 Ac) fun Ab=>obind (d_spec_LoadsOf fu p1 Ab) fun Ad=>d_spec_SpotsOf_L4 fu Aa Ac Ab Ad fu Af 0

def d_spec_Pallets_J1 (fu:Nat) (k3:Int → Int → Option (Int)) (Ab:Int) (Aa:Int):Option (Int) :=
  k3 Aa (w64 (Ab + 1))

def d_spec_Pallets_L1_B (fu:Nat)  (Ac:List Spot) (k3:Int → Int → Option (Int)) (Ab:Int) (Aa:Int):Option (Int) :=
  bif (decide (Aa < ((Ac.length:Int)))) then obind (ix Ac Aa) fun Ad=>obind (d_spec_l1In fu Ad.fPallet 0 999999) fun Ae=>bif Ae then obind (ix Ac Aa) fun Ag=>obind (d_spec_l1Max fu Ab (w64 (Ad.fPallet + 1))) fun Af=>d_spec_Pallets_J1 fu k3 Aa Af else d_spec_Pallets_J1 fu k3 Aa Ab else some (Ab)
def d_spec_Pallets_L1 (fu:Nat)  (Aa:List Spot):Nat → Int → Int → Option (Int)
  | 0=>fun _ _=>none
  | n + 1=>d_spec_Pallets_L1_B fu Aa (d_spec_Pallets_L1 fu Aa n)

def d_spec_Pallets (fu:Nat) (Aa:List Spot):Option (Int) :=
  d_spec_Pallets_L1 fu Aa fu 0 0

def d_spec_PlanOf_J1 (fu:Nat) (Aa:List Box → Int → Option (Plan × Bool)) (Ac:Int) (Ab:List Box):Option (Plan × Bool) :=
  Aa Ab (w64 (Ac + 1))

def d_spec_PlanOf_L1_B (fu:Nat) (Ag:List Spot → Int → Int → Option (Plan × Bool)) (Ae:Int) (Af:Int) (Ac:(List Spot)) (Ai:List Spot → Int → Option (Plan × Bool)) (Ad:List Spot) (Ab:Int):Option (Plan × Bool) :=
  bif (decide (Ab < ((Ac.length:Int)))) then obind (ix Ac Ab) fun Aa=>obind (apnd 32 Ad (([(⟨w64 (Aa.fPallet + Ae),Aa.fX,Aa.fY,Aa.fZ⟩:Spot)]:List Spot))) fun Ah=>Ai Ah (w64 (Ab + 1)) else obind (d_spec_Pallets fu Ac) fun Aj=>Ag Ad (w64 (Ae + Aj)) (w64 (Af + 1))
def d_spec_PlanOf_L1 (fu:Nat) (Aa:List Spot → Int → Int → Option (Plan × Bool)) (Ab:Int) (Ad:Int) (Ac:(List Spot)):Nat → List Spot → Int → Option (Plan × Bool)
  | 0=>fun _ _=>none
  | n + 1=>d_spec_PlanOf_L1_B fu Aa Ab Ad Ac (d_spec_PlanOf_L1 fu Aa Ab Ad Ac n)

def d_spec_PlanOf_L2_B (fu:Nat) (Ai:List Spot → Int → Int → Option (Plan × Bool)) (r1:Request) (Ac:(List Carton)) (Aj:List Spot) (Ag:Int) (Ae:Int) (Af:List Box → Int → Option (Plan × Bool)) (Ab:List Box) (Aa:Int):Option (Plan × Bool) :=
  bif (decide (Aa < ((Ac.length:Int)))) then obind (ix Ac Aa) fun Ad=>bif (Ad.fGroup == Ae) then obind (ix Ac Aa) fun Am=>obind (d_spec_BoxOf fu r1 Ad) fun Ak=>obind (apnd 32 Ab (([Ak]:List Box))) fun Ah=>d_spec_PlanOf_J1 fu Af Aa Ah else d_spec_PlanOf_J1 fu Af Aa Ab else obind (d_spec_SpotsOf fu r1.fPallet Ab) fun Al=>d_spec_PlanOf_L1 fu Ai Ag Ae Al fu Aj 0
def d_spec_PlanOf_L2 (fu:Nat) (Ad:List Spot → Int → Int → Option (Plan × Bool)) (r1:Request) (Ae:(List Carton)) (Ac:List Spot) (Ab:Int) (Aa:Int):Nat → List Box → Int → Option (Plan × Bool)
  | 0=>fun _ _=>none
  | n + 1=>d_spec_PlanOf_L2_B fu Ad r1 Ae Ac Ab Aa (d_spec_PlanOf_L2 fu Ad r1 Ae Ac Ab Aa n)

def d_spec_PlanOf_L3_B (fu:Nat)  (r1:Request) (Ac:(List Carton)) (Af:(List (List Int))) (Ae:List Spot → Int → Int → Option (Plan × Bool)) (Ab:List Spot) (Ad:Int) (Aa:Int):Option (Plan × Bool) :=
  bif (decide (Aa < ((Af.length:Int)))) then d_spec_PlanOf_L2 fu Ae r1 Ac Ab Ad Aa fu (([]:List Box)) 0 else some ((⟨Ac,Ab⟩:Plan),true)
def d_spec_PlanOf_L3 (fu:Nat)  (r1:Request) (Ab:(List Carton)) (Aa:(List (List Int))):Nat → List Spot → Int → Int → Option (Plan × Bool)
  | 0=>fun _ _ _=>none
  | n + 1=>d_spec_PlanOf_L3_B fu r1 Ab Aa (d_spec_PlanOf_L3 fu r1 Ab Aa n)

def d_spec_PlanOf (fu:Nat) (r1:Request):Option (Plan × Bool) :=
  obind (d_spec_Class fu r1) fun Aa=>bif (Aa != 0) then some ((⟨[],[]⟩:Plan),false) else obind (d_spec_CartonsOf fu r1) fun Ac=>obind (d_spec_GroupsOf fu r1) fun Ab=>d_spec_PlanOf_L3 fu r1 Ac Ab fu (([]:List Spot)) 0 0

def d_spec_l9Carton (fu:Nat) (x1:Carton):Option (Carton) :=
  obind (apnd 8 (([]:List Int)) x1.fUnits) fun Aa=>some ((⟨x1.fType,x1.fGroup,Aa⟩:Carton))

def d_spec_l13Draw_J1 (fu:Nat) (Ab:Request) (Ac:List Carton) (Aa:List Spot):Option (Request × Plan) :=
  some (Ab,(⟨Ac,Aa⟩:Plan))

def d_spec_l13Draw (fu:Nat) (Ae:List U8):Option (Request × Plan) :=
  obind (d_spec_DrawClass fu Ae) fun Ad=>obind (d_spec_PlanOf fu Ad) fun Aa=>obind (d_spec_l1New fu Ae) fun Ah=>bif (((Aa.1.fCartons.length:Int)) == 0) then some (Ad,Aa.1) else obind (d_spec_l1Below fu ((⟨Ae,Ah.fi,Ah.fh⟩:Cur)) ((Aa.1.fCartons.length:Int))) fun Ab=>obind (d_spec_l1Below fu ((⟨Ae,Ab.2.fi,Ab.2.fh⟩:Cur)) 14) fun Ac=>bif (Ac.1 == 0) then obind (ix Aa.1.fSpots Ab.1) fun Ag=>obind (ix Aa.1.fSpots Ab.1) fun Az=>d_spec_l13Draw_J1 fu Ad Aa.1.fCartons (setx Aa.1.fSpots Ab.1 ({ Ag with fX:=w64 (Ag.fX + 1) })) else bif (Ac.1 == 1) then obind (d_spec_l1Below fu ((⟨Ae,Ac.2.fi,Ac.2.fh⟩:Cur)) 3) fun Ao=>obind (ix Aa.1.fSpots Ab.1) fun Al=>d_spec_l13Draw_J1 fu Ad Aa.1.fCartons (setx Aa.1.fSpots Ab.1 ({ Al with fPallet:=Ao.1 })) else bif (Ac.1 == 2) then obind (d_spec_l1PickInt fu ((⟨Ae,Ac.2.fi,Ac.2.fh⟩:Cur)) (([7,10,11,99,(-1)]:List Int))) fun At=>obind (ix Aa.1.fCartons Ab.1) fun Aj=>d_spec_l13Draw_J1 fu Ad (setx Aa.1.fCartons Ab.1 ((⟨At.1,Aj.fGroup,Aj.fUnits⟩:Carton))) Aa.1.fSpots else bif (Ac.1 == 3) then obind (ix Aa.1.fCartons Ab.1) fun Af=>obind (d_spec_l1Below fu ((⟨Ae,Ac.2.fi,Ac.2.fh⟩:Cur)) 14) fun Ar=>obind (apnd 8 Af.fUnits (([w64 (Ar.1 - 1)]:List Int))) fun Ax=>obind (ix Aa.1.fCartons Ab.1) fun Ba=>d_spec_l13Draw_J1 fu Ad (setx Aa.1.fCartons Ab.1 ((⟨Af.fType,Af.fGroup,Ax⟩:Carton))) Aa.1.fSpots else bif (Ac.1 == 4) then obind (ix Aa.1.fCartons Ab.1) fun Ai=>d_spec_l13Draw_J1 fu Ad (setx Aa.1.fCartons Ab.1 ((⟨Ai.fType,Ai.fGroup,[]⟩:Carton))) Aa.1.fSpots else bif (Ac.1 == 5) then obind (sls Aa.1.fSpots 1 (Aa.1.fSpots.length:Int)) fun Aq=>d_spec_l13Draw_J1 fu Ad Aa.1.fCartons Aq else bif (Ac.1 == 6) then obind (d_spec_l1Below fu ((⟨Ae,Ac.2.fi,Ac.2.fh⟩:Cur)) 6) fun Av=>obind (ix Aa.1.fCartons Ab.1) fun Ak=>d_spec_l13Draw_J1 fu Ad (setx Aa.1.fCartons Ab.1 ((⟨Ak.fType,w64 (Av.1 - 1),Ak.fUnits⟩:Carton))) Aa.1.fSpots else bif (Ac.1 == 7) then obind (ix Aa.1.fCartons Ab.1) fun As=>obind (d_spec_l9Carton fu As) fun Am=>obind (apnd 40 Aa.1.fCartons [Am]) fun Au=>obind (apnd 32 Aa.1.fSpots (([(⟨9,0,0,0⟩:Spot)]:List Spot))) fun Ap=>d_spec_l13Draw_J1 fu Ad Au Ap else bif (Ac.1 == 8) then obind (d_spec_l1PickInt fu ((⟨Ae,Ac.2.fi,Ac.2.fh⟩:Cur)) (([0,2000,2001,(-1)]:List Int))) fun Aw=>obind (ix Aa.1.fSpots Ab.1) fun Ay=>d_spec_l13Draw_J1 fu Ad Aa.1.fCartons (setx Aa.1.fSpots Ab.1 ({ Ay with fZ:=Aw.1 })) else d_spec_l13Draw_J1 fu Ad Aa.1.fCartons Aa.1.fSpots

def d_spec_DrawPlanText (fu:Nat) (Aa:List U8):Option (Plan) :=
  obind (d_spec_l13Draw fu Aa) fun x8=>some (x8.2)

def d_impl_in (fu:Nat) (n1:Int) (Aa:Int) (Ab:Int):Option (Bool) :=
  bif (decide (n1 ≥ Aa)) then some (decide (n1 ≤ Ab)) else some (false)

def d_impl_unitsRight_J1 (fu:Nat) (k3:Int → Option (Bool)) (Aa:Int)  : Option (Bool) :=
  k3 (w64 (Aa + 1))

def d_impl_unitsRight_L1_B (fu:Nat)  (Ab:List Int) (k3:Int → Option (Bool)) (Aa:Int):Option (Bool) :=
  bif (decide (Aa < ((Ab.length:Int)))) then obind (ix Ab Aa) fun Ac=>obind (d_impl_in fu Ac 0 999) fun Ad=>bif (!Ad) then some (false) else bif (decide (Aa > 0)) then obind (ix Ab (w64 (Aa - 1))) fun Ae=>bif (decide (Ae ≥ Ac)) then some (false) else d_impl_unitsRight_J1 fu k3 Aa else d_impl_unitsRight_J1 fu k3 Aa else some (decide (((Ab.length:Int)) ≤ 100))
def d_impl_unitsRight_L1 (fu:Nat)  (Aa:List Int):Nat → Int → Option (Bool)
  | 0=>fun _=>none
  | n + 1=>d_impl_unitsRight_L1_B fu Aa (d_impl_unitsRight_L1 fu Aa n)

def d_impl_unitsRight (fu:Nat) (Aa:List Int):Option (Bool) :=
  d_impl_unitsRight_L1 fu Aa fu 0

def d_impl_isPlace (fu:Nat) (n1:Int):Option (Bool) :=
  obind (d_impl_in fu n1 0 2000) fun x2=>some (x2)

def d_impl_PlanOk_J1 (fu:Nat) (k4:Int → Option (Bool)) (Aa:Int)  : Option (Bool) :=
  k4 (w64 (Aa + 1))

def d_impl_PlanOk_L1_B (fu:Nat)  (x1:Plan) (k4:Int → Option (Bool)) (Aa:Int):Option (Bool) :=
  bif (decide (Aa < ((x1.fCartons.length:Int)))) then obind (ix x1.fCartons Aa) fun Ac=>obind (ix x1.fSpots Aa) fun Ab=>obind (d_impl_in fu Ac.fType 0 999) fun Ae=>bif (!Ae) then some (false) else obind (d_impl_in fu Ac.fGroup 0 3) fun Aj=>bif (!Aj) then some (false) else obind (d_impl_unitsRight fu Ac.fUnits) fun Af=>bif (!Af) then some (false) else obind (d_impl_isPlace fu Ab.fPallet) fun Ag=>bif (!Ag) then some (false) else obind (d_impl_isPlace fu Ab.fX) fun Ai=>bif (!Ai) then some (false) else obind (d_impl_isPlace fu Ab.fY) fun Ah=>bif (!Ah) then some (false) else obind (d_impl_isPlace fu Ab.fZ) fun Ad=>bif (!Ad) then some (false) else d_impl_PlanOk_J1 fu k4 Aa else some (true)
def d_impl_PlanOk_L1 (fu:Nat)  (x1:Plan):Nat → Int → Option (Bool)
  | 0=>fun _=>none
  | n + 1=>d_impl_PlanOk_L1_B fu x1 (d_impl_PlanOk_L1 fu x1 n)

def d_impl_PlanOk_J2 (fu:Nat) (x1:Plan)  : Option (Bool) :=
  d_impl_PlanOk_L1 fu x1 fu 0

def d_impl_PlanOk (fu:Nat) (x1:Plan):Option (Bool) :=
  bif (((x1.fSpots.length:Int)) != ((x1.fCartons.length:Int))) then some (false) else bif (decide (((x1.fCartons.length:Int)) > 100)) then some (false) else d_impl_PlanOk_J2 fu x1

def d_strconv_Itoa (fu:Nat) (x1:Int):Option ByteArray:=itoaO x1

def d_impl_Digits (fu:Nat) (n1:Int):Option (ByteArray) :=
  obind (d_strconv_Itoa fu n1) fun x2=>some (x2)

def d_impl_textLine_L1_B (fu:Nat)  (Ad:List Int) (k1:ByteArray → Int → Option (ByteArray × Bool)) (Ab:ByteArray) (Aa:Int):Option (ByteArray × Bool) :=
  bif (decide (Aa < ((Ad.length:Int)))) then obind (ix Ad Aa) fun Ac=>obind (d_impl_in fu Ac 0 999999) fun Ae=>bif (!Ae) then some ((⟨#[]⟩:ByteArray),false) else obind (d_impl_Digits fu Ac) fun Ag=>obind (scat ((⟨#[32]⟩:ByteArray)) Ag) fun Ai=>obind (scat Ab Ai) fun Af=>k1 Af (w64 (Aa + 1)) else obind (scat Ab ((⟨#[10]⟩:ByteArray))) fun Ah=>some (Ah,true)
def d_impl_textLine_L1 (fu:Nat)  (Aa:List Int):Nat → ByteArray → Int → Option (ByteArray × Bool)
  | 0=>fun _ _=>none
  | n + 1=>d_impl_textLine_L1_B fu Aa (d_impl_textLine_L1 fu Aa n)

def d_impl_textLine (fu:Nat) (Aa:ByteArray) (Ab:List Int):Option (ByteArray × Bool) :=
  d_impl_textLine_L1 fu Ab fu Aa 0

def d_impl_PlanText_L1_B (fu:Nat)  (x1:Plan) (k1:ByteArray → Int → Option (ByteArray)) (Ad:ByteArray) (Ab:Int):Option (ByteArray) :=
  bif (decide (Ab < ((x1.fCartons.length:Int)))) then obind (ix x1.fCartons Ab) fun Ac=>obind (ix x1.fSpots Ab) fun Aa=>obind (apnd 8 (([Ac.fType,Ac.fGroup,Aa.fPallet,Aa.fX,Aa.fY,Aa.fZ]:List Int)) Ac.fUnits) fun Ag=>obind (d_impl_textLine fu ((⟨#[99,97,114,116,111,110]⟩:ByteArray)) Ag) fun Af=>obind (scat Ad Af.1) fun Ae=>k1 Ae (w64 (Ab + 1)) else some (Ad)
def d_impl_PlanText_L1 (fu:Nat)  (x1:Plan):Nat → ByteArray → Int → Option (ByteArray)
  | 0=>fun _ _=>none
  | n + 1=>d_impl_PlanText_L1_B fu x1 (d_impl_PlanText_L1 fu x1 n)

def d_impl_PlanText (fu:Nat) (x1:Plan):Option (ByteArray) :=
  obind (d_impl_PlanOk fu x1) fun Aa=>bif (!Aa) then some ((⟨#[]⟩:ByteArray)) else d_impl_PlanText_L1 fu x1 fu ((⟨#[]⟩:ByteArray)) 0

def d_impl_Parts_J1 (fu:Nat) (k3:List ByteArray → Int → Int → Option ((List ByteArray))) (Aa:Int) (Ac:List ByteArray) (Ab:Int):Option ((List ByteArray)) :=
  k3 Ac Ab (w64 (Aa + 1))

def d_impl_Parts_L1_B (fu:Nat)  (Ab:ByteArray) (Af:Int) (k3:List ByteArray → Int → Int → Option ((List ByteArray))) (Ad:List ByteArray) (Ac:Int) (Aa:Int):Option ((List ByteArray)) :=
  bif (decide (Aa < ((Ab.size:Int)))) then obind (sx Ab Aa) fun Aj=>bif (Aj == Af) then obind (ssl Ab Ac Aa) fun Ah=>obind (apnd 16 Ad (([Ah]:List ByteArray))) fun Ag=>d_impl_Parts_J1 fu k3 Aa Ag (w64 (Aa + 1)) else d_impl_Parts_J1 fu k3 Aa Ad Ac else obind (ssl Ab Ac (Ab.size:Int)) fun Ai=>obind (apnd 16 Ad (([Ai]:List ByteArray))) fun Ae=>some (Ae)
def d_impl_Parts_L1 (fu:Nat)  (Aa:ByteArray) (Ab:Int):Nat → List ByteArray → Int → Int → Option ((List ByteArray))
  | 0=>fun _ _ _=>none
  | n + 1=>d_impl_Parts_L1_B fu Aa Ab (d_impl_Parts_L1 fu Aa Ab n)

def d_impl_Parts (fu:Nat) (Aa:ByteArray) (Ab:Int):Option ((List ByteArray)) :=
  d_impl_Parts_L1 fu Aa Ab fu (([]:List ByteArray)) 0 0

def d_strconv_Atoi (fu:Nat) (x1:ByteArray):Option (Int × Bool):=atoiO x1

def d_impl_Number_J1 (fu:Nat) (x2:Int × Bool)  : Option (Int × Bool) :=
  some (x2.1,true)

def d_impl_Number (fu:Nat) (Aa:ByteArray):Option (Int × Bool) :=
  obind (d_strconv_Atoi fu Aa) fun x2=>bif x2.2 then some (0,false) else obind (d_impl_in fu x2.1 0 999999) fun Ab=>bif (!Ab) then some (0,false) else obind (d_impl_Digits fu x2.1) fun Ac=>bif (!(Ac.toList == Aa.toList)) then some (0,false) else d_impl_Number_J1 fu x2

def d_impl_wordsOf_L1_B (fu:Nat)  (Ac:List ByteArray) (k2:List Int → Int → Option ((List Int) × Bool)) (Ad:List Int) (Aa:Int):Option ((List Int) × Bool) :=
  bif (decide (Aa < ((Ac.length:Int)))) then obind (ix Ac Aa) fun Ae=>obind (d_impl_Number fu Ae) fun Ab=>bif (!Ab.2) then some (([]:List Int),false) else obind (apnd 8 Ad (([Ab.1]:List Int))) fun Af=>k2 Af (w64 (Aa + 1)) else some (Ad,true)
def d_impl_wordsOf_L1 (fu:Nat)  (Aa:List ByteArray):Nat → List Int → Int → Option ((List Int) × Bool)
  | 0=>fun _ _=>none
  | n + 1=>d_impl_wordsOf_L1_B fu Aa (d_impl_wordsOf_L1 fu Aa n)

def d_impl_wordsOf_J1 (fu:Nat) (x4:(List ByteArray))  : Option ((List Int) × Bool) :=
  obind (sls x4 1 (x4.length:Int)) fun Aa=>d_impl_wordsOf_L1 fu Aa fu (([]:List Int)) 0

def d_impl_wordsOf (fu:Nat) (Aa:ByteArray) (Ac:ByteArray) (Ab:Int):Option ((List Int) × Bool) :=
  obind (d_impl_Parts fu Aa 32) fun x4=>obind (ix x4 0) fun Ad=>bif (!(Ad.toList == Ac.toList)) then some (([]:List Int),false) else bif (((x4.length:Int)) != (w64 (Ab + 1))) then some (([]:List Int),false) else d_impl_wordsOf_J1 fu x4

def d_impl_LineOf_J1 (fu:Nat) (Aa:(List Int) × Bool) (Af:Int) (Ag:Int) (Ae:List Int):Option (Carton × Spot × Bool) :=
  obind (ix Aa.1 2) fun Ab=>obind (ix Aa.1 3) fun Ah=>obind (ix Aa.1 4) fun Ac=>obind (ix Aa.1 5) fun Ad=>obind (d_impl_PlanOk fu ((⟨([(⟨Af,Ag,Ae⟩:Carton)]:List Carton),([(⟨Ab,Ah,Ac,Ad⟩:Spot)]:List Spot)⟩:Plan))) fun Ai=>bif (!Ai) then some ((⟨0,0,[]⟩:Carton),(⟨0,0,0,0⟩:Spot),false) else some ((⟨Af,Ag,Ae⟩:Carton),(⟨Ab,Ah,Ac,Ad⟩:Spot),true)

def d_impl_LineOf_J2 (fu:Nat) (Aa:(List Int) × Bool)  : Option (Carton × Spot × Bool) :=
  obind (ix Aa.1 0) fun Ac=>obind (ix Aa.1 1) fun Ad=>obind (sls Aa.1 6 (Aa.1.length:Int)) fun Ab=>d_impl_LineOf_J1 fu Aa Ac Ad Ab

def d_impl_LineOf (fu:Nat) (Aa:ByteArray):Option (Carton × Spot × Bool) :=
  obind (d_impl_Parts fu Aa 32) fun x8=>obind (d_impl_wordsOf fu Aa ((⟨#[99,97,114,116,111,110]⟩:ByteArray)) (w64 (((x8.length:Int)) - 1))) fun Ab=>bif (!Ab.2) then some ((⟨0,0,[]⟩:Carton),(⟨0,0,0,0⟩:Spot),false) else bif (decide ((w64 (((x8.length:Int)) - 1)) < 6)) then some ((⟨0,0,[]⟩:Carton),(⟨0,0,0,0⟩:Spot),false) else d_impl_LineOf_J2 fu Ab

def d_impl_ReadPlan_L1_B (fu:Nat)  (Ad:List ByteArray) (k2:List Carton → List Spot → Int → Option (Plan × Bool)) (Ae:List Carton) (Ac:List Spot) (Aa:Int):Option (Plan × Bool) :=
  bif (decide (Aa < ((Ad.length:Int)))) then obind (ix Ad Aa) fun Ag=>obind (d_impl_LineOf fu Ag) fun Ab=>bif (!Ab.2.2) then some ((⟨[],[]⟩:Plan),false) else obind (apnd 40 Ae [Ab.1]) fun Ah=>obind (apnd 32 Ac (([Ab.2.1]:List Spot))) fun Af=>k2 Ah Af (w64 (Aa + 1)) else some ((⟨Ae,Ac⟩:Plan),true)
def d_impl_ReadPlan_L1 (fu:Nat)  (Aa:List ByteArray):Nat → List Carton → List Spot → Int → Option (Plan × Bool)
  | 0=>fun _ _ _=>none
  | n + 1=>d_impl_ReadPlan_L1_B fu Aa (d_impl_ReadPlan_L1 fu Aa n)

def d_impl_ReadPlan_J1 (fu:Nat) (x5:(List ByteArray))  : Option (Plan × Bool) :=
  obind (sls x5 0 (w64 (((x5.length:Int)) - 1))) fun Aa=>d_impl_ReadPlan_L1 fu Aa fu (([]:List Carton)) (([]:List Spot)) 0

def d_impl_ReadPlan (fu:Nat) (Aa:ByteArray):Option (Plan × Bool) :=
  obind (d_impl_Parts fu Aa 10) fun x5=>obind (ix x5 (w64 (((x5.length:Int)) - 1))) fun Ab=>bif (!(Ab.toList == ((⟨#[]⟩:ByteArray)).toList)) then some ((⟨[],[]⟩:Plan),false) else bif (decide ((w64 (((x5.length:Int)) - 1)) > 100)) then some ((⟨[],[]⟩:Plan),false) else d_impl_ReadPlan_J1 fu x5

def d_spec_l13Carton_J1 (fu:Nat) (k4:Int → Option (Bool)) (Aa:Int)  : Option (Bool) :=
  k4 (w64 (Aa + 1))

def d_spec_l13Carton_L1_B (fu:Nat)  (x1:Carton) (k4:Int → Option (Bool)) (Aa:Int):Option (Bool) :=
  bif (decide (Aa < ((x1.fUnits.length:Int)))) then obind (ix x1.fUnits Aa) fun Ab=>obind (d_spec_l1In fu Ab 0 999) fun Ad=>bif (!Ad) then some (false) else bif (decide (Aa > 0)) then obind (ix x1.fUnits Aa) fun Ae=>obind (ix x1.fUnits (w64 (Aa - 1))) fun Ac=>bif (decide (Ab ≤ Ac)) then some (false) else d_spec_l13Carton_J1 fu k4 Aa else d_spec_l13Carton_J1 fu k4 Aa else some (true)
def d_spec_l13Carton_L1 (fu:Nat)  (x1:Carton):Nat → Int → Option (Bool)
  | 0=>fun _=>none
  | n + 1=>d_spec_l13Carton_L1_B fu x1 (d_spec_l13Carton_L1 fu x1 n)

def d_spec_l13Carton_J2 (fu:Nat) (x1:Carton)  : Option (Bool) :=
  d_spec_l13Carton_L1 fu x1 fu 0

def d_spec_l13Carton (fu:Nat) (x1:Carton):Option (Bool) :=
  obind (d_spec_l2Id fu x1.fType) fun Ab=>bif (!Ab) then some (false) else obind (d_spec_l1In fu x1.fGroup 0 3) fun Aa=>bif (!Aa) then some (false) else bif (decide (((x1.fUnits.length:Int)) > 100)) then some (false) else d_spec_l13Carton_J2 fu x1

def d_spec_PlanOk_J1 (fu:Nat) (k4:Int → Option (Bool)) (Aa:Int)  : Option (Bool) :=
  k4 (w64 (Aa + 1))

def d_spec_PlanOk_L1_B (fu:Nat)  (x1:Plan) (k4:Int → Option (Bool)) (Ab:Int):Option (Bool) :=
  bif (decide (Ab < ((x1.fCartons.length:Int)))) then obind (ix x1.fSpots Ab) fun Aa=>obind (ix x1.fCartons Ab) fun Ah=>obind (d_spec_l13Carton fu Ah) fun Af=>bif (!Af) then some (false) else obind (d_spec_l1In fu Aa.fPallet 0 2000) fun Ac=>bif (!Ac) then some (false) else obind (d_spec_l1In fu Aa.fX 0 2000) fun Ag=>bif (!Ag) then some (false) else obind (d_spec_l1In fu Aa.fY 0 2000) fun Ae=>bif (!Ae) then some (false) else obind (d_spec_l1In fu Aa.fZ 0 2000) fun Ad=>bif (!Ad) then some (false) else d_spec_PlanOk_J1 fu k4 Ab else some (true)
def d_spec_PlanOk_L1 (fu:Nat)  (x1:Plan):Nat → Int → Option (Bool)
  | 0=>fun _=>none
  | n + 1=>d_spec_PlanOk_L1_B fu x1 (d_spec_PlanOk_L1 fu x1 n)

def d_spec_PlanOk_J2 (fu:Nat) (x1:Plan)  : Option (Bool) :=
  d_spec_PlanOk_L1 fu x1 fu 0

def d_spec_PlanOk (fu:Nat) (x1:Plan):Option (Bool) :=
  bif (((x1.fCartons.length:Int)) != ((x1.fSpots.length:Int))) then some (false) else bif (decide (((x1.fCartons.length:Int)) > 100)) then some (false) else d_spec_PlanOk_J2 fu x1

def d_spec_Digits_J1 (fu:Nat) (k3:Int → ByteArray → Option (ByteArray)) (Aa:Int) (Ad:ByteArray) (Ab:Int):Option (ByteArray) :=
  obind (bstr (([(⟨w8 (w64 (48 + Ab))⟩:U8)]:List U8))) fun Ae=>obind (scat Ae Ad) fun Ac=>k3 (w64 (Int.tdiv Aa 10)) Ac

def d_spec_Digits_L1_B (fu:Nat)  (n1:Int) (k3:Int → ByteArray → Option (ByteArray)) (Aa:Int) (Ab:ByteArray):Option (ByteArray) :=
  bif (Aa != 0) then bif (decide ((Int.tmod Aa 10) < 0)) then d_spec_Digits_J1 fu k3 Aa Ab (w64 (0 - (Int.tmod Aa 10))) else d_spec_Digits_J1 fu k3 Aa Ab (Int.tmod Aa 10) else bif (decide (n1 < 0)) then obind (scat ((⟨#[45]⟩:ByteArray)) Ab) fun Ac=>some (Ac) else some (Ab)
def d_spec_Digits_L1 (fu:Nat)  (n1:Int):Nat → Int → ByteArray → Option (ByteArray)
  | 0=>fun _ _=>none
  | n + 1=>d_spec_Digits_L1_B fu n1 (d_spec_Digits_L1 fu n1 n)

def d_spec_Digits (fu:Nat) (n1:Int):Option (ByteArray) :=
  bif (n1 == 0) then some ((⟨#[48]⟩:ByteArray)) else d_spec_Digits_L1 fu n1 fu n1 ((⟨#[]⟩:ByteArray))

def d_spec_l14Line_L1_B (fu:Nat)  (Ab:List Int) (k1:ByteArray → Int → Option (ByteArray)) (Ac:ByteArray) (Aa:Int):Option (ByteArray) :=
  bif (decide (Aa < ((Ab.length:Int)))) then obind (scat Ac ((⟨#[32]⟩:ByteArray))) fun Af=>obind (ix Ab Aa) fun Ag=>obind (d_spec_Digits fu Ag) fun Ae=>obind (scat Af Ae) fun Ad=>k1 Ad (w64 (Aa + 1)) else some (Ac)
def d_spec_l14Line_L1 (fu:Nat)  (Aa:List Int):Nat → ByteArray → Int → Option (ByteArray)
  | 0=>fun _ _=>none
  | n + 1=>d_spec_l14Line_L1_B fu Aa (d_spec_l14Line_L1 fu Aa n)

def d_spec_l14Line (fu:Nat) (x1:Carton) (Aa:Spot):Option (ByteArray) :=
  obind (apnd 8 (([x1.fType,x1.fGroup,Aa.fPallet,Aa.fX,Aa.fY,Aa.fZ]:List Int)) x1.fUnits) fun Ab=>d_spec_l14Line_L1 fu Ab fu ((⟨#[99,97,114,116,111,110]⟩:ByteArray)) 0

def d_spec_PlanText_L1_B (fu:Nat)  (x1:Plan) (k1:ByteArray → Int → Option (ByteArray)) (Ab:ByteArray) (Aa:Int):Option (ByteArray) :=
  bif (decide (Aa < ((x1.fCartons.length:Int)))) then obind (ix x1.fCartons Aa) fun Ad=>obind (ix x1.fSpots Aa) fun Ac=>obind (d_spec_l14Line fu Ad Ac) fun Af=>obind (scat Ab Af) fun Ag=>obind (scat Ag ((⟨#[10]⟩:ByteArray))) fun Ae=>k1 Ae (w64 (Aa + 1)) else some (Ab)
def d_spec_PlanText_L1 (fu:Nat)  (x1:Plan):Nat → ByteArray → Int → Option (ByteArray)
  | 0=>fun _ _=>none
  | n + 1=>d_spec_PlanText_L1_B fu x1 (d_spec_PlanText_L1 fu x1 n)

def d_spec_PlanText (fu:Nat) (x1:Plan):Option (ByteArray) :=
  obind (d_spec_PlanOk fu x1) fun Aa=>bif (!Aa) then some ((⟨#[]⟩:ByteArray)) else d_spec_PlanText_L1 fu x1 fu ((⟨#[]⟩:ByteArray)) 0

def d_spec_l1Same_L1_B (fu:Nat)  (a1:List Int) (b5:List Int) (k1:Int → Option (Bool)) (Aa:Int):Option (Bool) :=
  bif (decide (Aa < ((a1.length:Int)))) then obind (ix a1 Aa) fun Ab=>obind (ix b5 Aa) fun Ac=>bif (Ab != Ac) then some (false) else k1 (w64 (Aa + 1)) else some (true)
def d_spec_l1Same_L1 (fu:Nat)  (a1:List Int) (b5:List Int):Nat → Int → Option (Bool)
  | 0=>fun _=>none
  | n + 1=>d_spec_l1Same_L1_B fu a1 b5 (d_spec_l1Same_L1 fu a1 b5 n)

def d_spec_l1Same (fu:Nat) (a1:List Int) (b5:List Int):Option (Bool) :=
  bif (((a1.length:Int)) != ((b5.length:Int))) then some (false) else d_spec_l1Same_L1 fu a1 b5 fu 0

def d_spec_PlanSame_J1 (fu:Nat) (k4:Int → Option (Bool)) (Aa:Int)  : Option (Bool) :=
  k4 (w64 (Aa + 1))

def d_spec_PlanSame_L1_B (fu:Nat)  (a1:Plan) (b5:Plan) (k6:Int → Option (Bool)) (Aa:Int):Option (Bool) :=
  bif (decide (Aa < ((a1.fSpots.length:Int)))) then obind (ix a1.fSpots Aa) fun Ac=>obind (ix b5.fSpots Aa) fun Ab=>bif (!(decide (Ac = Ab))) then some (false) else k6 (w64 (Aa + 1)) else some (true)
def d_spec_PlanSame_L1 (fu:Nat)  (a1:Plan) (b5:Plan):Nat → Int → Option (Bool)
  | 0=>fun _=>none
  | n + 1=>d_spec_PlanSame_L1_B fu a1 b5 (d_spec_PlanSame_L1 fu a1 b5 n)

def d_spec_PlanSame_L2_B (fu:Nat)  (a1:Plan) (b5:Plan) (k4:Int → Option (Bool)) (Aa:Int):Option (Bool) :=
  bif (decide (Aa < ((a1.fCartons.length:Int)))) then obind (ix a1.fCartons Aa) fun Ab=>obind (ix b5.fCartons Aa) fun Ac=>bif (Ab.fType != Ac.fType) then some (false) else obind (ix a1.fCartons Aa) fun Ae=>obind (ix b5.fCartons Aa) fun Ah=>bif (Ab.fGroup != Ac.fGroup) then some (false) else obind (ix a1.fCartons Aa) fun Af=>obind (ix b5.fCartons Aa) fun Ag=>obind (d_spec_l1Same fu Ab.fUnits Ac.fUnits) fun Ad=>bif (!Ad) then some (false) else d_spec_PlanSame_J1 fu k4 Aa else d_spec_PlanSame_L1 fu a1 b5 fu 0
def d_spec_PlanSame_L2 (fu:Nat)  (a1:Plan) (b5:Plan):Nat → Int → Option (Bool)
  | 0=>fun _=>none
  | n + 1=>d_spec_PlanSame_L2_B fu a1 b5 (d_spec_PlanSame_L2 fu a1 b5 n)

def d_spec_PlanSame_J2 (fu:Nat) (a1:Plan) (b5:Plan)  : Option (Bool) :=
  d_spec_PlanSame_L2 fu a1 b5 fu 0

def d_spec_PlanSame (fu:Nat) (a1:Plan) (b5:Plan):Option (Bool) :=
  bif (((a1.fCartons.length:Int)) != ((b5.fCartons.length:Int))) then some (false) else bif (((a1.fSpots.length:Int)) != ((b5.fSpots.length:Int))) then some (false) else d_spec_PlanSame_J2 fu a1 b5

def d_spec_l1Pick (fu:Nat) (c1:Cur) (Ab:List ByteArray):Option (ByteArray × Cur) :=
  obind (d_spec_l1Below fu c1 ((Ab.length:Int))) fun Aa=>obind (ix Ab Aa.1) fun Ac=>some (Ac,(⟨c1.fb,Aa.2.fi,Aa.2.fh⟩:Cur))

def d_spec_l14Bend (fu:Nat) (c1:Cur) (Ac:ByteArray):Option (ByteArray × Cur) :=
  obind (btsO Ac) fun b9=>obind (d_spec_l1Below fu c1 (w64 (((b9.length:Int)) + 1))) fun Ab=>obind (d_spec_l1Below fu ((⟨c1.fb,Ab.2.fi,Ab.2.fh⟩:Cur)) 7) fun Aa=>bif (Aa.1 == 0) then obind (sls b9 0 Ab.1) fun Aj=>obind (bstr Aj) fun Al=>some (Al,(⟨c1.fb,Aa.2.fi,Aa.2.fh⟩:Cur)) else bif (Aa.1 == 1) then obind (sls b9 0 Ab.1) fun Ai=>obind (bstr Ai) fun Am=>obind (sls b9 Ab.1 (b9.length:Int)) fun Ak=>obind (bstr Ak) fun Af=>obind (d_spec_l1Pick fu ((⟨c1.fb,Aa.2.fi,Aa.2.fh⟩:Cur)) (([(⟨#[32]⟩:ByteArray),(⟨#[48]⟩:ByteArray),(⟨#[49]⟩:ByteArray),(⟨#[120]⟩:ByteArray),(⟨#[10]⟩:ByteArray),(⟨#[32,51]⟩:ByteArray)]:List ByteArray))) fun Ad=>obind (scat Am Ad.1) fun Ar=>obind (scat Ar Af) fun Ao=>some (Ao,(⟨c1.fb,Ad.2.fi,Ad.2.fh⟩:Cur)) else bif (Aa.1 == 2) then bif (decide (Ab.1 < ((b9.length:Int)))) then obind (sls b9 0 Ab.1) fun Ag=>obind (bstr Ag) fun Aq=>obind (sls b9 (w64 (Ab.1 + 1)) (b9.length:Int)) fun Ae=>obind (bstr Ae) fun Ah=>obind (scat Aq Ah) fun Ap=>some (Ap,(⟨c1.fb,Aa.2.fi,Aa.2.fh⟩:Cur)) else some (Ac,(⟨c1.fb,Aa.2.fi,Aa.2.fh⟩:Cur)) else some (Ac,(⟨c1.fb,Aa.2.fi,Aa.2.fh⟩:Cur))

def d_spec_DrawReadPlan (fu:Nat) (Aa:List U8):Option (ByteArray) :=
  obind (d_spec_l13Draw fu Aa) fun x5=>obind (d_spec_l1New fu Aa) fun Ab=>obind (d_spec_PlanText fu x5.2) fun Ac=>obind (d_spec_l14Bend fu ((⟨Aa,Ab.fi,Ab.fh⟩:Cur)) Ac) fun Ad=>some (Ad.1)

def d_spec_Parts_J1 (fu:Nat) (k3:List ByteArray → Int → Int → Option ((List ByteArray))) (Ac:Int) (Aa:List ByteArray) (Ab:Int):Option ((List ByteArray)) :=
  k3 Aa Ab (w64 (Ac + 1))

def d_spec_Parts_L1_B (fu:Nat)  (Ab:ByteArray) (Ae:Int) (k3:List ByteArray → Int → Int → Option ((List ByteArray))) (Ac:List ByteArray) (Ad:Int) (Aa:Int):Option ((List ByteArray)) :=
  bif (decide (Aa ≤ ((Ab.size:Int)))) then bif (Aa == ((Ab.size:Int))) then obind (ssl Ab Ad Aa) fun Af=>obind (apnd 16 Ac (([Af]:List ByteArray))) fun Aj=>d_spec_Parts_J1 fu k3 Aa Aj (w64 (Aa + 1)) else obind (sx Ab Aa) fun Ah=>bif (Ah == Ae) then obind (ssl Ab Ad Aa) fun Ag=>obind (apnd 16 Ac (([Ag]:List ByteArray))) fun Ai=>d_spec_Parts_J1 fu k3 Aa Ai (w64 (Aa + 1)) else d_spec_Parts_J1 fu k3 Aa Ac Ad else some (Ac)
def d_spec_Parts_L1 (fu:Nat)  (Aa:ByteArray) (Ab:Int):Nat → List ByteArray → Int → Int → Option ((List ByteArray))
  | 0=>fun _ _ _=>none
  | n + 1=>d_spec_Parts_L1_B fu Aa Ab (d_spec_Parts_L1 fu Aa Ab n)

def d_spec_Parts (fu:Nat) (Aa:ByteArray) (Ab:Int):Option ((List ByteArray)) :=
  d_spec_Parts_L1 fu Aa Ab fu (([]:List ByteArray)) 0 0

def d_spec_Number_J1 (fu:Nat) (k8:Int → Int → Option (Int × Bool)) (Aa:Int) (Ab:Int):Option (Int × Bool) :=
  k8 Ab (w64 (Aa + 1))

def d_spec_Number_J2 (fu:Nat) (k8:Int → Int → Option (Int × Bool)) (Ab:ByteArray) (Ad:Int) (Aa:Int)  : Option (Int × Bool) :=
  obind (sx Ab Aa) fun Ac=>d_spec_Number_J1 fu k8 Aa (w64 ((w64 ((w64 (10 * Ad)) + (w64 Ac))) - 48))

def d_spec_Number_L1_B (fu:Nat)  (Aa:ByteArray) (k8:Int → Int → Option (Int × Bool)) (Ac:Int) (Ab:Int):Option (Int × Bool) :=
  bif (decide (Ab < ((Aa.size:Int)))) then obind (sx Aa Ab) fun Ad=>bif (decide (Ad < 48)) then some (0,false) else obind (sx Aa Ab) fun Ae=>bif (decide (Ae > 57)) then some (0,false) else d_spec_Number_J2 fu k8 Aa Ac Ab else obind (d_spec_Digits fu Ac) fun Af=>bif (!(Af.toList == Aa.toList)) then some (0,false) else some (Ac,true)
def d_spec_Number_L1 (fu:Nat)  (Aa:ByteArray):Nat → Int → Int → Option (Int × Bool)
  | 0=>fun _ _=>none
  | n + 1=>d_spec_Number_L1_B fu Aa (d_spec_Number_L1 fu Aa n)

def d_spec_Number_J3 (fu:Nat) (Aa:ByteArray)  : Option (Int × Bool) :=
  d_spec_Number_L1 fu Aa fu 0 0

def d_spec_Number (fu:Nat) (Aa:ByteArray):Option (Int × Bool) :=
  bif (decide (((Aa.size:Int)) < 1)) then some (0,false) else bif (decide (((Aa.size:Int)) > 6)) then some (0,false) else d_spec_Number_J3 fu Aa

def d_spec_LineOf_J1 (fu:Nat) (Ad:Int) (Af:Int) (Ag:List Int) (Ab:Int) (Ae:Int) (Ac:Int) (Aa:Int)  : Option (Carton × Spot × Bool) :=
  some ((⟨Ad,Af,Ag⟩:Carton),(⟨Ab,Ae,Ac,Aa⟩:Spot),true)

def d_spec_LineOf_J2 (fu:Nat) (Ai:ByteArray) (Aa:List Int) (Af:Int) (Ah:Int) (Ac:List Int):Option (Carton × Spot × Bool) :=
  obind (ix Aa 2) fun Ad=>obind (ix Aa 3) fun Ag=>obind (ix Aa 4) fun Ae=>obind (ix Aa 5) fun Ab=>obind (d_spec_PlanOk fu ((⟨([(⟨Af,Ah,Ac⟩:Carton)]:List Carton),([(⟨Ad,Ag,Ae,Ab⟩:Spot)]:List Spot)⟩:Plan))) fun Ak=>bif (!Ak) then some ((⟨0,0,[]⟩:Carton),(⟨0,0,0,0⟩:Spot),false) else obind (d_spec_l14Line fu ((⟨Af,Ah,Ac⟩:Carton)) ((⟨Ad,Ag,Ae,Ab⟩:Spot))) fun Aj=>bif (!(Aj.toList == Ai.toList)) then some ((⟨0,0,[]⟩:Carton),(⟨0,0,0,0⟩:Spot),false) else d_spec_LineOf_J1 fu Af Ah Ac Ad Ag Ae Ab

def d_spec_LineOf_L1_B (fu:Nat)  (Ad:ByteArray) (x8:(List ByteArray)) (k1:List Int → Int → Option (Carton × Spot × Bool)) (Aa:List Int) (Ab:Int):Option (Carton × Spot × Bool) :=
  bif (decide (Ab < ((x8.length:Int)))) then obind (ix x8 Ab) fun Ah=>obind (d_spec_Number fu Ah) fun Ac=>bif (!Ac.2) then some ((⟨0,0,[]⟩:Carton),(⟨0,0,0,0⟩:Spot),false) else obind (apnd 8 Aa (([Ac.1]:List Int))) fun Ae=>k1 Ae (w64 (Ab + 1)) else bif (decide (((Aa.length:Int)) < 6)) then some ((⟨0,0,[]⟩:Carton),(⟨0,0,0,0⟩:Spot),false) else obind (ix Aa 0) fun Aj=>obind (ix Aa 1) fun Ag=>obind (sls Aa 6 (Aa.length:Int)) fun Ai=>obind (apnd 8 (([]:List Int)) Ai) fun Af=>d_spec_LineOf_J2 fu Ad Aa Aj Ag Af
def d_spec_LineOf_L1 (fu:Nat)  (Aa:ByteArray) (x8:(List ByteArray)):Nat → List Int → Int → Option (Carton × Spot × Bool)
  | 0=>fun _ _=>none
  | n + 1=>d_spec_LineOf_L1_B fu Aa x8 (d_spec_LineOf_L1 fu Aa x8 n)

def d_spec_LineOf (fu:Nat) (Aa:ByteArray):Option (Carton × Spot × Bool) :=
  obind (d_spec_Parts fu Aa 32) fun x8=>d_spec_LineOf_L1 fu Aa x8 fu (([]:List Int)) 1

def d_spec_ReadPlan_L1_B (fu:Nat)  (x5:(List ByteArray)) (k1:List Carton → List Spot → Int → Option (Plan × Bool)) (Ac:List Carton) (Ad:List Spot) (Ab:Int):Option (Plan × Bool) :=
  bif (decide (Ab < (w64 (((x5.length:Int)) - 1)))) then obind (ix x5 Ab) fun Af=>obind (d_spec_LineOf fu Af) fun Aa=>bif (!Aa.2.2) then some ((⟨[],[]⟩:Plan),false) else obind (apnd 40 Ac [Aa.1]) fun Ag=>obind (apnd 32 Ad (([Aa.2.1]:List Spot))) fun Ai=>k1 Ag Ai (w64 (Ab + 1)) else obind (ix x5 (w64 (((x5.length:Int)) - 1))) fun Ah=>bif (!(Ah.toList == ((⟨#[]⟩:ByteArray)).toList)) then some ((⟨[],[]⟩:Plan),false) else obind (d_spec_PlanOk fu ((⟨Ac,Ad⟩:Plan))) fun Ae=>bif (!Ae) then some ((⟨[],[]⟩:Plan),false) else some ((⟨Ac,Ad⟩:Plan),true)
def d_spec_ReadPlan_L1 (fu:Nat)  (x5:(List ByteArray)):Nat → List Carton → List Spot → Int → Option (Plan × Bool)
  | 0=>fun _ _ _=>none
  | n + 1=>d_spec_ReadPlan_L1_B fu x5 (d_spec_ReadPlan_L1 fu x5 n)

def d_spec_ReadPlan (fu:Nat) (Aa:ByteArray):Option (Plan × Bool) :=
  obind (d_spec_Parts fu Aa 10) fun x5=>d_spec_ReadPlan_L1 fu x5 fu (([]:List Carton)) (([]:List Spot)) 0

def d_spec_DrawLineOf_J1 (fu:Nat) (Ad:List U8) (x5:Request × Plan) (Aa:Cur)  : Option (ByteArray) :=
  obind (ix x5.2.fCartons 0) fun Ac=>obind (ix x5.2.fSpots 0) fun Ae=>obind (d_spec_l14Line fu Ac Ae) fun Af=>obind (d_spec_l14Bend fu ((⟨Ad,Aa.fi,Aa.fh⟩:Cur)) Af) fun Ab=>some (Ab.1)

def d_spec_DrawLineOf (fu:Nat) (Ab:List U8):Option (ByteArray) :=
  obind (d_spec_l13Draw fu Ab) fun x5=>obind (d_spec_l1New fu Ab) fun Aa=>bif (((x5.2.fCartons.length:Int)) == 0) then obind (d_spec_l1Pick fu ((⟨Ab,Aa.fi,Aa.fh⟩:Cur)) (([(⟨#[]⟩:ByteArray),(⟨#[99,97,114,116,111,110]⟩:ByteArray),(⟨#[99,97,114,116,111,110,32,49,32,48,32,48,32,48,32,48,32,48]⟩:ByteArray),(⟨#[99,97,114,116,111,110,32,49,32,48,32,48,32,48,32,48,32,48,32,50,32,49]⟩:ByteArray)]:List ByteArray))) fun Ac=>some (Ac.1) else bif (((x5.2.fSpots.length:Int)) == 0) then obind (d_spec_l1Pick fu ((⟨Ab,Aa.fi,Aa.fh⟩:Cur)) (([(⟨#[]⟩:ByteArray),(⟨#[99,97,114,116,111,110]⟩:ByteArray),(⟨#[99,97,114,116,111,110,32,49,32,48,32,48,32,48,32,48,32,48]⟩:ByteArray),(⟨#[99,97,114,116,111,110,32,49,32,48,32,48,32,48,32,48,32,48,32,50,32,49]⟩:ByteArray)]:List ByteArray))) fun Ad=>some (Ad.1) else d_spec_DrawLineOf_J1 fu Ab x5 Aa

end Go.Proofs.YtpcmapfabndggabGreatDoor
