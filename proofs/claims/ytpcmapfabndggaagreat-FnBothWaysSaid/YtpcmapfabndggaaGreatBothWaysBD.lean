/- FnBothWays: what the functions that it reaches compute,on plain data. Printed by gen.py. -/
import Derived.Test.YtpcmapfabndggaaGreatS13
import Derived.Test.YtpcmapfabndggaaGreatS15
set_option linter.unusedVariables false
namespace Go.Proofs.YtpcmapfabndggaaGreat
open Go
def d_laws_big (fu:Nat) (Aa:List U8):Option (Bool) :=
  some (decide (((Aa.length:Int)) > 1048576))

def d_spec_l1New_J1 (fu:Nat) (k3:Int → Int → Option (Cur)) (Ad:List U8) (Ac:Int) (Aa:Int)  : Option (Cur) :=
  obind (ix Ad Aa) fun Ab=>k3 (IntKind.wrap .i64 (((BitVec.ofInt (IntKind.bits .i64) (w64 ((w64 ((w64 (Ac * 131)) + (w64 Ab.n))) + 7)) &&& BitVec.ofInt (IntKind.bits .i64) 1073741823).toNat:Nat):Int)) (w64 (Aa + 1))

def d_spec_l1New_L1_B (fu:Nat)  (Aa:List U8) (k3:Int → Int → Option (Cur)) (Ac:Int) (Ab:Int):Option (Cur) :=
  bif (decide (Ab < ((Aa.length:Int)))) then bif (decide (Ab < 4000)) then d_spec_l1New_J1 fu k3 Aa Ac Ab else some ((⟨Aa,0,Ac⟩:Cur)) else some ((⟨Aa,0,Ac⟩:Cur))
def d_spec_l1New_L1 (fu:Nat)  (Aa:List U8):Nat → Int → Int → Option (Cur)
  | 0=>fun _ _=>none
  | n + 1=>d_spec_l1New_L1_B fu Aa (d_spec_l1New_L1 fu Aa n)

def d_spec_l1New (fu:Nat) (Aa:List U8):Option (Cur) :=
  d_spec_l1New_L1 fu Aa fu (w64 (26583 + ((Aa.length:Int)))) 0

def d_spec_l1Byte (fu:Nat) (c1:Cur):Option (Int × Cur) :=
  bif (decide (c1.fi < ((c1.fb.length:Int)))) then obind (ix c1.fb c1.fi) fun Aa=>some (IntKind.wrap .i64 (((BitVec.ofInt (IntKind.bits .i64) (w64 ((IntKind.wrap .i64 (((BitVec.ofInt (IntKind.bits .i64) (IntKind.wrap .i64 (((BitVec.ofInt (IntKind.bits .i64) (Int.fdiv (w64 ((w64 (c1.fh * 6364136223846793005)) + 1442695040888963407)) (2 ^ (min 33 (IntKind.bits .i64)))) ^^^ BitVec.ofInt (IntKind.bits .i64) (Int.fdiv (w64 ((w64 (c1.fh * 6364136223846793005)) + 1442695040888963407)) (2 ^ (min 45 (IntKind.bits .i64))))).toNat:Nat):Int)) &&& BitVec.ofInt (IntKind.bits .i64) 255).toNat:Nat):Int)) + (w64 Aa.n))) &&& BitVec.ofInt (IntKind.bits .i64) 255).toNat:Nat):Int),(⟨c1.fb,w64 (c1.fi + 1),w64 ((w64 (c1.fh * 6364136223846793005)) + 1442695040888963407)⟩:Cur)) else some (IntKind.wrap .i64 (((BitVec.ofInt (IntKind.bits .i64) (IntKind.wrap .i64 (((BitVec.ofInt (IntKind.bits .i64) (Int.fdiv (w64 ((w64 (c1.fh * 6364136223846793005)) + 1442695040888963407)) (2 ^ (min 33 (IntKind.bits .i64)))) ^^^ BitVec.ofInt (IntKind.bits .i64) (Int.fdiv (w64 ((w64 (c1.fh * 6364136223846793005)) + 1442695040888963407)) (2 ^ (min 45 (IntKind.bits .i64))))).toNat:Nat):Int)) &&& BitVec.ofInt (IntKind.bits .i64) 255).toNat:Nat):Int),(⟨c1.fb,c1.fi,w64 ((w64 (c1.fh * 6364136223846793005)) + 1442695040888963407)⟩:Cur))

def d_spec_l1Below (fu:Nat) (c1:Cur) (n7:Int):Option (Int × Cur) :=
  bif (decide (n7 ≤ 0)) then some (0,c1) else bif (decide (n7 ≤ 256)) then obind (d_spec_l1Byte fu c1) fun Ab=>obind (odiv n7) fun Ag=>some (Int.tmod Ab.1 n7,(⟨c1.fb,Ab.2.fi,Ab.2.fh⟩:Cur)) else obind (d_spec_l1Byte fu c1) fun Ac=>obind (d_spec_l1Byte fu ((⟨c1.fb,Ac.2.fi,Ac.2.fh⟩:Cur))) fun Ae=>obind (d_spec_l1Byte fu ((⟨c1.fb,Ae.2.fi,Ae.2.fh⟩:Cur))) fun Aa=>obind (d_spec_l1Byte fu ((⟨c1.fb,Aa.2.fi,Aa.2.fh⟩:Cur))) fun Ad=>obind (odiv n7) fun Af=>some (Int.tmod (w64 ((w64 ((w64 ((w64 (Ac.1 * 16777216)) + (w64 (Ae.1 * 65536)))) + (w64 (Aa.1 * 256)))) + Ad.1)) n7,(⟨c1.fb,Ad.2.fi,Ad.2.fh⟩:Cur))

def d_spec_l1Once (fu:Nat) (c1:Cur) (n7:Int):Option (Bool × Cur) :=
  obind (d_spec_l1Below fu c1 n7) fun x9=>some (x9.1 == 0,(⟨c1.fb,x9.2.fi,x9.2.fh⟩:Cur))

def d_spec_l1PickInt (fu:Nat) (c1:Cur) (Ab:List Int):Option (Int × Cur) :=
  obind (d_spec_l1Below fu c1 ((Ab.length:Int))) fun Aa=>obind (ix Ab Aa.1) fun Ac=>some (Ac,(⟨c1.fb,Aa.2.fi,Aa.2.fh⟩:Cur))

def d_spec_l2Right_J1 (fu:Nat) (Ad:Int → Int → List Pair → Int → Option (Request × Cur)) (Ac:Int) (Aa:Int) (Ab:Int) (Ae:List Pair):Option (Request × Cur) :=
  Ad Aa Ab Ae (w64 (Ac + 1))

def d_spec_l2Right_L1_B (fu:Nat) (k9:Int → Int → List Pair → Int → Option (Request × Cur)) (c1:Cur) (Aa:Int) (Ag:Int → Int → List Pair → Int → Option (Request × Cur)) (Ae:Int) (Af:Int) (Ad:List Pair) (Ab:Int):Option (Request × Cur) :=
  bif (decide (Ab ≤ Aa)) then bif (Aa == Ab) then obind (apnd 16 Ad (([(⟨Aa,Aa⟩:Pair)]:List Pair))) fun Ah=>d_spec_l2Right_J1 fu Ag Ab Ae Af Ah else obind (d_spec_l1Once fu ((⟨c1.fb,Ae,Af⟩:Cur)) 2) fun Ac=>bif Ac.1 then obind (apnd 16 Ad (([(⟨Aa,Ab⟩:Pair),(⟨Ab,Aa⟩:Pair)]:List Pair))) fun Ai=>d_spec_l2Right_J1 fu Ag Ab Ac.2.fi Ac.2.fh Ai else d_spec_l2Right_J1 fu Ag Ab Ac.2.fi Ac.2.fh Ad else k9 Ae Af Ad (w64 (Aa + 1))
def d_spec_l2Right_L1 (fu:Nat) (k9:Int → Int → List Pair → Int → Option (Request × Cur)) (c1:Cur) (Aa:Int):Nat → Int → Int → List Pair → Int → Option (Request × Cur)
  | 0=>fun _ _ _ _=>none
  | n + 1=>d_spec_l2Right_L1_B fu k9 c1 Aa (d_spec_l2Right_L1 fu k9 c1 Aa n)

def d_spec_l2Right_J2 (fu:Nat) (Ac:Int → Int → List Item → Int → Int → Option (Request × Cur)) (Aa:Int) (Ae:Int) (Ad:Int) (Ab:List Item) (Af:Int):Option (Request × Cur) :=
  Ac Ae Ad Ab Af (w64 (Aa + 1))

def d_spec_l2Right_J3 (fu:Nat) (Ae:Int → Int → List Item → Int → Int → Option (Request × Cur)) (Ad:List Item) (Aa:Int) (Ac:Int) (Ag:Int) (Af:Int) (Ab:Item):Option (Request × Cur) :=
  bif (decide ((w64 (Aa + Ab.fCount)) ≤ 12)) then obind (apnd 56 Ad (([Ab]:List Item))) fun Ah=>d_spec_l2Right_J2 fu Ae Ac Ag Af Ah (w64 (Aa + Ab.fCount)) else d_spec_l2Right_J2 fu Ae Ac Ag Af Ad Aa

def d_spec_l2Right_J4 (fu:Nat) (Ag:Int → Int → List Item → Int → Int → Option (Request × Cur)) (c1:Cur) (Af:List Item) (Ad:Int) (Ae:Int) (Ah:Int) (Ai:Int) (Ab:Item):Option (Request × Cur) :=
  obind (d_spec_l1Once fu ((⟨c1.fb,Ah,Ai⟩:Cur)) 3) fun Aa=>bif Aa.1 then obind (d_spec_l1Below fu ((⟨c1.fb,Aa.2.fi,Aa.2.fh⟩:Cur)) 8) fun Ac=>d_spec_l2Right_J3 fu Ag Af Ad Ae Ac.2.fi Ac.2.fh ((⟨Ab.fId,5,5,w64 (4 + Ac.1),Ab.fGram,Ab.fClass,Ab.fCount⟩:Item)) else d_spec_l2Right_J3 fu Ag Af Ad Ae Aa.2.fi Aa.2.fh Ab

def d_spec_l2Right_L2_B (fu:Nat)  (c1:Cur) (Au:Int × Cur) (As:Int × Cur) (At:Int × Cur) (Av:Int × Cur) (Ar:Int × Cur) (Aj:Int × Cur) (Am:List Pair) (Aq:List Typ) (Ao:Int × Cur) (Ap:Int → Int → List Item → Int → Int → Option (Request × Cur)) (Ah:Int) (Ak:Int) (Ai:List Item) (Al:Int) (Ac:Int):Option (Request × Cur) :=
  bif (decide (Ac < Ao.1)) then obind (d_spec_l1Below fu ((⟨c1.fb,Ah,Ak⟩:Cur)) 10) fun Ab=>obind (d_spec_l1Below fu ((⟨c1.fb,Ab.2.fi,Ab.2.fh⟩:Cur)) 10) fun Aa=>obind (d_spec_l1Below fu ((⟨c1.fb,Aa.2.fi,Aa.2.fh⟩:Cur)) 10) fun Ag=>obind (d_spec_l1Below fu ((⟨c1.fb,Ag.2.fi,Ag.2.fh⟩:Cur)) 60) fun Ad=>obind (d_spec_l1Below fu ((⟨c1.fb,Ad.2.fi,Ad.2.fh⟩:Cur)) (w64 (1 + Aj.1))) fun Ae=>obind (d_spec_l1Below fu ((⟨c1.fb,Ae.2.fi,Ae.2.fh⟩:Cur)) 4) fun Af=>d_spec_l2Right_J4 fu Ap c1 Ai Al Ac Af.2.fi Af.2.fh ((⟨w64 (3 * Ac),w64 (1 + Ab.1),w64 (1 + Aa.1),w64 (1 + Ag.1),w64 (1 + Ad.1),Ae.1,w64 (1 + Af.1)⟩:Item)) else some ((⟨Au.1,(⟨As.1,At.1,Av.1,Ar.1⟩:Pallet),w64 (1 + Aj.1),Am,Aq,7,Ai⟩:Request),(⟨c1.fb,Ah,Ak⟩:Cur))
def d_spec_l2Right_L2 (fu:Nat)  (c1:Cur) (Ad:Int × Cur) (Af:Int × Cur) (Aa:Int × Cur) (Ai:Int × Cur) (Ag:Int × Cur) (Ab:Int × Cur) (Ac:List Pair) (Ah:List Typ) (Ae:Int × Cur):Nat → Int → Int → List Item → Int → Int → Option (Request × Cur)
  | 0=>fun _ _ _ _ _=>none
  | n + 1=>d_spec_l2Right_L2_B fu c1 Ad Af Aa Ai Ag Ab Ac Ah Ae (d_spec_l2Right_L2 fu c1 Ad Af Aa Ai Ag Ab Ac Ah Ae n)

def d_spec_l2Right_L3_B (fu:Nat)  (c1:Cur) (At:Int × Cur) (Aq:Int × Cur) (As:Int × Cur) (Av:Int × Cur) (Ao:Int × Cur) (Ap:Int × Cur) (Al:List Pair) (Au:Int × Cur) (Am:Int → Int → List Typ → Int → Option (Request × Cur)) (Ak:Int) (Ai:Int) (Aj:List Typ) (Ab:Int):Option (Request × Cur) :=
  bif (decide (Ab < Au.1)) then obind (d_spec_l1Below fu ((⟨c1.fb,Ak,Ai⟩:Cur)) 9) fun Af=>obind (d_spec_l1Below fu ((⟨c1.fb,Af.2.fi,Af.2.fh⟩:Cur)) 8) fun Ae=>obind (d_spec_l1Below fu ((⟨c1.fb,Ae.2.fi,Ae.2.fh⟩:Cur)) 9) fun Ad=>obind (d_spec_l1Below fu ((⟨c1.fb,Ad.2.fi,Ad.2.fh⟩:Cur)) 5) fun Ag=>obind (d_spec_l1Below fu ((⟨c1.fb,Ag.2.fi,Ag.2.fh⟩:Cur)) 90) fun Ah=>obind (d_spec_l1Below fu ((⟨c1.fb,Ah.2.fi,Ah.2.fh⟩:Cur)) 20) fun Ac=>obind (apnd 56 Aj (([(⟨w64 (10 + Ab),w64 (4 + Af.1),w64 (3 + Ae.1),w64 (3 + Ad.1),Ag.1,w64 (20 + Ah.1),w64 (1 + Ac.1)⟩:Typ)]:List Typ))) fun Ar=>Am Ac.2.fi Ac.2.fh Ar (w64 (Ab + 1)) else obind (d_spec_l1Below fu ((⟨c1.fb,Ak,Ai⟩:Cur)) 6) fun Aa=>d_spec_l2Right_L2 fu c1 At Aq As Av Ao Ap Al Aj Aa fu Aa.2.fi Aa.2.fh (([]:List Item)) 0 0
def d_spec_l2Right_L3 (fu:Nat)  (c1:Cur) (Ad:Int × Cur) (Ae:Int × Cur) (Aa:Int × Cur) (Ah:Int × Cur) (Af:Int × Cur) (Ab:Int × Cur) (Ac:List Pair) (Ag:Int × Cur):Nat → Int → Int → List Typ → Int → Option (Request × Cur)
  | 0=>fun _ _ _ _=>none
  | n + 1=>d_spec_l2Right_L3_B fu c1 Ad Ae Aa Ah Af Ab Ac Ag (d_spec_l2Right_L3 fu c1 Ad Ae Aa Ah Af Ab Ac Ag n)

def d_spec_l2Right_J5 (fu:Nat) (c1:Cur) (Ae:Int × Cur) (Ag:Int × Cur) (Ab:Int × Cur) (Ak:Int × Cur) (Ai:Int × Cur) (Ac:Int × Cur) (Ad:List Pair) (Ah:Int) (Af:Int) (Aj:List Typ):Option (Request × Cur) :=
  obind (d_spec_l1Below fu ((⟨c1.fb,Ah,Af⟩:Cur)) 5) fun Aa=>d_spec_l2Right_L3 fu c1 Ae Ag Ab Ak Ai Ac Ad Aa fu Aa.2.fi Aa.2.fh Aj 0

def d_spec_l2Right_L4_B (fu:Nat)  (c1:Cur) (Aj:Int × Cur) (Ak:Int × Cur) (Ai:Int × Cur) (Ao:Int × Cur) (Al:Int × Cur) (Ae:Int × Cur) (k9:Int → Int → List Pair → Int → Option (Request × Cur)) (Ah:Int) (Ad:Int) (Af:List Pair) (Ag:Int):Option (Request × Cur) :=
  bif (decide (Ag < (w64 (1 + Ae.1)))) then d_spec_l2Right_L1 fu k9 c1 Ag fu Ah Ad Af 0 else obind (d_spec_l1Below fu ((⟨c1.fb,Ah,Ad⟩:Cur)) 8) fun Ac=>obind (d_spec_l1PickInt fu ((⟨c1.fb,Ac.2.fi,Ac.2.fh⟩:Cur)) (([60,100,140]:List Int))) fun Aa=>obind (d_spec_l1PickInt fu ((⟨c1.fb,Aa.2.fi,Aa.2.fh⟩:Cur)) (([9,20]:List Int))) fun Ab=>obind (apnd 56 (([]:List Typ)) (([(⟨7,12,10,11,Ac.1,Aa.1,Ab.1⟩:Typ)]:List Typ))) fun Am=>d_spec_l2Right_J5 fu c1 Aj Ak Ai Ao Al Ae Af Ab.2.fi Ab.2.fh Am
def d_spec_l2Right_L4 (fu:Nat)  (c1:Cur) (Ac:Int × Cur) (Ad:Int × Cur) (Aa:Int × Cur) (Af:Int × Cur) (Ae:Int × Cur) (Ab:Int × Cur):Nat → Int → Int → List Pair → Int → Option (Request × Cur)
  | 0=>fun _ _ _ _=>none
  | n + 1=>d_spec_l2Right_L4_B fu c1 Ac Ad Aa Af Ae Ab (d_spec_l2Right_L4 fu c1 Ac Ad Aa Af Ae Ab n)

def d_spec_l2Right (fu:Nat) (c1:Cur):Option (Request × Cur) :=
  obind (d_spec_l1Below fu c1 2) fun Ac=>obind (d_spec_l1PickInt fu ((⟨c1.fb,Ac.2.fi,Ac.2.fh⟩:Cur)) (([20,30,37]:List Int))) fun Ad=>obind (d_spec_l1PickInt fu ((⟨c1.fb,Ad.2.fi,Ad.2.fh⟩:Cur)) (([20,25,40]:List Int))) fun Aa=>obind (d_spec_l1PickInt fu ((⟨c1.fb,Aa.2.fi,Aa.2.fh⟩:Cur)) (([15,24,50]:List Int))) fun Af=>obind (d_spec_l1PickInt fu ((⟨c1.fb,Af.2.fi,Af.2.fh⟩:Cur)) (([150,400,5000]:List Int))) fun Ae=>obind (d_spec_l1Below fu ((⟨c1.fb,Ae.2.fi,Ae.2.fh⟩:Cur)) 4) fun Ab=>d_spec_l2Right_L4 fu c1 Ac Ad Aa Af Ae Ab fu Ab.2.fi Ab.2.fh (([]:List Pair)) 0

def d_spec_l1In (fu:Nat) (x1:Int) (Aa:Int) (Ab:Int):Option (Bool) :=
  bif (decide (x1 ≥ Aa)) then some (decide (x1 ≤ Ab)) else some (false)

def d_spec_l2Side (fu:Nat) (x1:Int):Option (Bool) :=
  obind (d_spec_l1In fu x1 1 2000) fun x2=>some (x2)

def d_spec_PalletOk (fu:Nat) (x1:Pallet):Option (Bool) :=
  obind (d_spec_l2Side fu x1.fW) fun x5=>bif x5 then obind (d_spec_l2Side fu x1.fD) fun Ab=>bif Ab then obind (d_spec_l2Side fu x1.fH) fun Aa=>bif Aa then obind (d_spec_l1In fu x1.fGram 1 100000) fun Ac=>some (Ac) else some (false) else some (false) else some (false)

def d_spec_l2Id (fu:Nat) (x1:Int):Option (Bool) :=
  obind (d_spec_l1In fu x1 0 999) fun x2=>some (x2)

def d_spec_TypeOk (fu:Nat) (x1:Typ):Option (Bool) :=
  obind (d_spec_l2Id fu x1.fId) fun x5=>bif x5 then obind (d_spec_l2Side fu x1.fW) fun Ae=>bif Ae then obind (d_spec_l2Side fu x1.fH) fun Aa=>bif Aa then obind (d_spec_l2Side fu x1.fD) fun Af=>bif Af then obind (d_spec_l1In fu x1.fTare 0 100000) fun Ac=>bif Ac then obind (d_spec_l1In fu x1.fGram 1 100000) fun Ab=>bif Ab then obind (d_spec_l1In fu x1.fCost 0 100000) fun Ad=>some (Ad) else some (false) else some (false) else some (false) else some (false) else some (false) else some (false)

def d_spec_ItemOk (fu:Nat) (x1:Item):Option (Bool) :=
  obind (d_spec_l2Id fu x1.fId) fun x5=>bif x5 then obind (d_spec_l2Side fu x1.fW) fun Ae=>bif Ae then obind (d_spec_l2Side fu x1.fH) fun Aa=>bif Aa then obind (d_spec_l2Side fu x1.fD) fun Af=>bif Af then obind (d_spec_l1In fu x1.fGram 1 100000) fun Ac=>bif Ac then obind (d_spec_l1In fu x1.fClass 0 3) fun Ab=>bif Ab then obind (d_spec_l1In fu x1.fCount 1 6) fun Ad=>some (Ad) else some (false) else some (false) else some (false) else some (false) else some (false) else some (false)

def d_spec_BoundsOk_J1 (fu:Nat) (k4:Int → Option (Bool)) (Aa:Int)  : Option (Bool) :=
  k4 (w64 (Aa + 1))

def d_spec_BoundsOk_L1_B (fu:Nat)  (r1:Request) (k7:Int → Int → Option (Bool)) (Ab:Int) (Aa:Int):Option (Bool) :=
  bif (decide (Aa < ((r1.fItems.length:Int)))) then obind (ix r1.fItems Aa) fun Ac=>obind (d_spec_ItemOk fu Ac) fun Ad=>bif (!Ad) then some (false) else obind (ix r1.fItems Aa) fun Ae=>k7 (w64 (Ab + Ac.fCount)) (w64 (Aa + 1)) else some (decide (Ab ≤ 12))
def d_spec_BoundsOk_L1 (fu:Nat)  (r1:Request):Nat → Int → Int → Option (Bool)
  | 0=>fun _ _=>none
  | n + 1=>d_spec_BoundsOk_L1_B fu r1 (d_spec_BoundsOk_L1 fu r1 n)

def d_spec_BoundsOk_L2_B (fu:Nat)  (r1:Request) (k6:Int → Option (Bool)) (Aa:Int):Option (Bool) :=
  bif (decide (Aa < ((r1.fTypes.length:Int)))) then obind (ix r1.fTypes Aa) fun Ab=>obind (d_spec_TypeOk fu Ab) fun Ac=>bif (!Ac) then some (false) else k6 (w64 (Aa + 1)) else d_spec_BoundsOk_L1 fu r1 fu 0 0
def d_spec_BoundsOk_L2 (fu:Nat)  (r1:Request):Nat → Int → Option (Bool)
  | 0=>fun _=>none
  | n + 1=>d_spec_BoundsOk_L2_B fu r1 (d_spec_BoundsOk_L2 fu r1 n)

def d_spec_BoundsOk_L3_B (fu:Nat)  (r1:Request) (k4:Int → Option (Bool)) (Aa:Int):Option (Bool) :=
  bif (decide (Aa < ((r1.fPairs.length:Int)))) then obind (ix r1.fPairs Aa) fun Ab=>obind (d_spec_l1In fu Ab.fA 0 3) fun Ad=>bif (!Ad) then some (false) else obind (ix r1.fPairs Aa) fun Ae=>obind (d_spec_l1In fu Ab.fB 0 3) fun Ac=>bif (!Ac) then some (false) else d_spec_BoundsOk_J1 fu k4 Aa else d_spec_BoundsOk_L2 fu r1 fu 0
def d_spec_BoundsOk_L3 (fu:Nat)  (r1:Request):Nat → Int → Option (Bool)
  | 0=>fun _=>none
  | n + 1=>d_spec_BoundsOk_L3_B fu r1 (d_spec_BoundsOk_L3 fu r1 n)

def d_spec_BoundsOk_J2 (fu:Nat) (r1:Request)  : Option (Bool) :=
  d_spec_BoundsOk_L3 fu r1 fu 0

def d_spec_BoundsOk (fu:Nat) (r1:Request):Option (Bool) :=
  obind (d_spec_l1In fu r1.fWay 0 1) fun Ab=>bif (!Ab) then some (false) else obind (d_spec_PalletOk fu r1.fPallet) fun Ae=>bif (!Ae) then some (false) else obind (d_spec_l1In fu r1.fClasses 1 4) fun Ad=>bif (!Ad) then some (false) else bif (decide (((r1.fPairs.length:Int)) > 16)) then some (false) else obind (d_spec_l1In fu ((r1.fTypes.length:Int)) 1 5) fun Ac=>bif (!Ac) then some (false) else obind (d_spec_l2Id fu r1.fMaster) fun Aa=>bif (!Aa) then some (false) else bif (decide (((r1.fItems.length:Int)) > 8)) then some (false) else d_spec_BoundsOk_J2 fu r1

def d_spec_MasterOf_L1_B (fu:Nat)  (r1:Request) (k1:Int → Option (Typ × Bool)) (Aa:Int):Option (Typ × Bool) :=
  bif (decide (Aa < ((r1.fTypes.length:Int)))) then obind (ix r1.fTypes Aa) fun Ab=>bif (Ab.fId == r1.fMaster) then obind (ix r1.fTypes Aa) fun Ac=>some (Ab,true) else k1 (w64 (Aa + 1)) else some ((⟨0,0,0,0,0,0,0⟩:Typ),false)
def d_spec_MasterOf_L1 (fu:Nat)  (r1:Request):Nat → Int → Option (Typ × Bool)
  | 0=>fun _=>none
  | n + 1=>d_spec_MasterOf_L1_B fu r1 (d_spec_MasterOf_L1 fu r1 n)

def d_spec_MasterOf (fu:Nat) (r1:Request):Option (Typ × Bool) :=
  d_spec_MasterOf_L1 fu r1 fu 0

def d_spec_l5Names_L1_B (fu:Nat) (k3:Int → Option (Bool)) (r1:Request) (Ab:Int) (k4:Int → Option (Bool)) (Aa:Int):Option (Bool) :=
  bif (decide (Aa < Ab)) then obind (ix r1.fTypes Ab) fun Ac=>obind (ix r1.fTypes Aa) fun Ad=>bif (Ac.fId == Ad.fId) then some (false) else k4 (w64 (Aa + 1)) else k3 (w64 (Ab + 1))
def d_spec_l5Names_L1 (fu:Nat) (k3:Int → Option (Bool)) (r1:Request) (Aa:Int):Nat → Int → Option (Bool)
  | 0=>fun _=>none
  | n + 1=>d_spec_l5Names_L1_B fu k3 r1 Aa (d_spec_l5Names_L1 fu k3 r1 Aa n)

def d_spec_l5Names_L2_B (fu:Nat) (k7:Int → Option (Bool)) (r1:Request) (Aa:Int) (k8:Int → Option (Bool)) (Ab:Int):Option (Bool) :=
  bif (decide (Ab < Aa)) then obind (ix r1.fItems Aa) fun Ad=>obind (ix r1.fItems Ab) fun Ac=>bif (Ad.fId == Ac.fId) then some (false) else k8 (w64 (Ab + 1)) else k7 (w64 (Aa + 1))
def d_spec_l5Names_L2 (fu:Nat) (k7:Int → Option (Bool)) (r1:Request) (Aa:Int):Nat → Int → Option (Bool)
  | 0=>fun _=>none
  | n + 1=>d_spec_l5Names_L2_B fu k7 r1 Aa (d_spec_l5Names_L2 fu k7 r1 Aa n)

def d_spec_l5Names_J1 (fu:Nat) (Ab:Int → Option (Bool)) (Aa:Int)  : Option (Bool) :=
  Ab (w64 (Aa + 1))

def d_spec_l5Names_L3_B (fu:Nat)  (r1:Request) (Ac:Int → Option (Bool)) (Aa:Int):Option (Bool) :=
  bif (decide (Aa < ((r1.fPairs.length:Int)))) then obind (ix r1.fPairs Aa) fun Ab=>bif (decide (Ab.fA ≥ r1.fClasses)) then some (false) else obind (ix r1.fPairs Aa) fun Ae=>bif (decide (Ab.fB ≥ r1.fClasses)) then some (false) else d_spec_l5Names_J1 fu Ac Aa else obind (d_spec_MasterOf fu r1) fun Ad=>some (Ad.2)
def d_spec_l5Names_L3 (fu:Nat)  (r1:Request):Nat → Int → Option (Bool)
  | 0=>fun _=>none
  | n + 1=>d_spec_l5Names_L3_B fu r1 (d_spec_l5Names_L3 fu r1 n)

def d_spec_l5Names_L4_B (fu:Nat)  (r1:Request) (k7:Int → Option (Bool)) (Aa:Int):Option (Bool) :=
  bif (decide (Aa < ((r1.fItems.length:Int)))) then obind (ix r1.fItems Aa) fun Ab=>bif (decide (Ab.fClass ≥ r1.fClasses)) then some (false) else d_spec_l5Names_L2 fu k7 r1 Aa fu 0 else d_spec_l5Names_L3 fu r1 fu 0
def d_spec_l5Names_L4 (fu:Nat)  (r1:Request):Nat → Int → Option (Bool)
  | 0=>fun _=>none
  | n + 1=>d_spec_l5Names_L4_B fu r1 (d_spec_l5Names_L4 fu r1 n)

def d_spec_l5Names_L5_B (fu:Nat)  (r1:Request) (k3:Int → Option (Bool)) (Aa:Int):Option (Bool) :=
  bif (decide (Aa < ((r1.fTypes.length:Int)))) then d_spec_l5Names_L1 fu k3 r1 Aa fu 0 else d_spec_l5Names_L4 fu r1 fu 0
def d_spec_l5Names_L5 (fu:Nat)  (r1:Request):Nat → Int → Option (Bool)
  | 0=>fun _=>none
  | n + 1=>d_spec_l5Names_L5_B fu r1 (d_spec_l5Names_L5 fu r1 n)

def d_spec_l5Names (fu:Nat) (r1:Request):Option (Bool) :=
  d_spec_l5Names_L5 fu r1 fu 0

def d_spec_Beside_J1 (fu:Nat) (k3:Int → Option (Bool)) (Aa:Int)  : Option (Bool) :=
  k3 (w64 (Aa + 1))

def d_spec_Beside_L1_B (fu:Nat)  (Ab:List Pair) (a5:Int) (b6:Int) (k3:Int → Option (Bool)) (Aa:Int):Option (Bool) :=
  bif (decide (Aa < ((Ab.length:Int)))) then obind (ix Ab Aa) fun Ac=>bif (Ac.fA == a5) then obind (ix Ab Aa) fun Ad=>bif (Ac.fB == b6) then some (true) else d_spec_Beside_J1 fu k3 Aa else d_spec_Beside_J1 fu k3 Aa else some (false)
def d_spec_Beside_L1 (fu:Nat)  (Aa:List Pair) (a5:Int) (b6:Int):Nat → Int → Option (Bool)
  | 0=>fun _=>none
  | n + 1=>d_spec_Beside_L1_B fu Aa a5 b6 (d_spec_Beside_L1 fu Aa a5 b6 n)

def d_spec_Beside (fu:Nat) (Aa:List Pair) (a5:Int) (b6:Int):Option (Bool) :=
  d_spec_Beside_L1 fu Aa a5 b6 fu 0

def d_spec_TableOk_J1 (fu:Nat) (Aa:Int → Option (Bool)) (Ab:Int)  : Option (Bool) :=
  Aa (w64 (Ab + 1))

def d_spec_TableOk_L1_B (fu:Nat) (k9:Int → Option (Bool)) (Ac:List Pair) (Aj:Int) (Aa:Int) (Ad:Int → Option (Bool)) (Ab:Int):Option (Bool) :=
  bif (decide (Ab < Aj)) then bif (Aa == Ab) then obind (d_spec_Beside fu Ac Aa Aa) fun Ae=>bif (!Ae) then some (false) else obind (d_spec_Beside fu Ac Aa Ab) fun Ai=>obind (d_spec_Beside fu Ac Ab Aa) fun Af=>bif (!(Ai == Af)) then some (false) else d_spec_TableOk_J1 fu Ad Ab else obind (d_spec_Beside fu Ac Aa Ab) fun Ag=>obind (d_spec_Beside fu Ac Ab Aa) fun Ah=>bif (!(Ag == Ah)) then some (false) else d_spec_TableOk_J1 fu Ad Ab else k9 (w64 (Aa + 1))
def d_spec_TableOk_L1 (fu:Nat) (k9:Int → Option (Bool)) (Aa:List Pair) (Ac:Int) (Ab:Int):Nat → Int → Option (Bool)
  | 0=>fun _=>none
  | n + 1=>d_spec_TableOk_L1_B fu k9 Aa Ac Ab (d_spec_TableOk_L1 fu k9 Aa Ac Ab n)

def d_spec_TableOk_L2_B (fu:Nat)  (Ac:List Pair) (Ab:Int) (k9:Int → Option (Bool)) (Aa:Int):Option (Bool) :=
  bif (decide (Aa < Ab)) then d_spec_TableOk_L1 fu k9 Ac Ab Aa fu 0 else some (true)
def d_spec_TableOk_L2 (fu:Nat)  (Aa:List Pair) (Ab:Int):Nat → Int → Option (Bool)
  | 0=>fun _=>none
  | n + 1=>d_spec_TableOk_L2_B fu Aa Ab (d_spec_TableOk_L2 fu Aa Ab n)

def d_spec_TableOk (fu:Nat) (Ab:List Pair) (Aa:Int):Option (Bool) :=
  obind (d_spec_l1In fu Aa 1 4) fun x6=>bif (!x6) then some (false) else d_spec_TableOk_L2 fu Ab Aa fu 0

def d_spec_l1Places_L1_B (fu:Nat)  (n1:Int) (k1:List Int → Int → Option ((List Int))) (Ab:List Int) (Aa:Int):Option ((List Int)) :=
  bif (decide (Aa < n1)) then obind (apnd 8 Ab (([Aa]:List Int))) fun Ac=>k1 Ac (w64 (Aa + 1)) else some (Ab)
def d_spec_l1Places_L1 (fu:Nat)  (n1:Int):Nat → List Int → Int → Option ((List Int))
  | 0=>fun _ _=>none
  | n + 1=>d_spec_l1Places_L1_B fu n1 (d_spec_l1Places_L1 fu n1 n)

def d_spec_l1Places (fu:Nat) (n1:Int):Option ((List Int)) :=
  d_spec_l1Places_L1 fu n1 fu (([]:List Int)) 0

def d_spec_l1Merge_J1 (fu:Nat) (k3:List Int → Int → Int → Option ((List Int))) (Ag:List Int) (Aj:Bool) (Ad:(List Int)) (Ae:(List Int)) (Ac:List Int) (Aa:Int) (Ab:Int)  : Option ((List Int)) :=
  bif (Ab == ((Ae.length:Int))) then obind (ix Ad Aa) fun Ap=>obind (apnd 8 Ac (([Ap]:List Int))) fun Aq=>k3 Aq (w64 (Aa + 1)) Ab else bif (Aa == ((Ad.length:Int))) then obind (ix Ae Ab) fun Al=>obind (apnd 8 Ac (([Al]:List Int))) fun As=>k3 As Aa (w64 (Ab + 1)) else obind (ix Ae Ab) fun Ah=>obind (ix Ag Ah) fun Ai=>obind (ix Ad Aa) fun Af=>obind (ix Ag Af) fun Ak=>bif (decide (Ai < Ak)) then bif (!Aj) then obind (ix Ae Ab) fun Ay=>obind (apnd 8 Ac (([Ah]:List Int))) fun Au=>k3 Au Aa (w64 (Ab + 1)) else obind (ix Ae Ab) fun Be=>obind (ix Ag Ah) fun Bh=>obind (ix Ad Aa) fun Ax=>obind (ix Ag Af) fun Bb=>bif (decide (Ai > Ak)) then bif Aj then obind (ix Ae Ab) fun Az=>obind (apnd 8 Ac (([Ah]:List Int))) fun Aw=>k3 Aw Aa (w64 (Ab + 1)) else obind (ix Ad Aa) fun Bd=>obind (apnd 8 Ac (([Af]:List Int))) fun Ar=>k3 Ar (w64 (Aa + 1)) Ab else obind (ix Ad Aa) fun Bc=>obind (apnd 8 Ac (([Af]:List Int))) fun Am=>k3 Am (w64 (Aa + 1)) Ab else obind (ix Ae Ab) fun Bk=>obind (ix Ag Ah) fun Bi=>obind (ix Ad Aa) fun Ba=>obind (ix Ag Af) fun Bg=>bif (decide (Ai > Ak)) then bif Aj then obind (ix Ae Ab) fun Bf=>obind (apnd 8 Ac (([Ah]:List Int))) fun Av=>k3 Av Aa (w64 (Ab + 1)) else obind (ix Ad Aa) fun Bj=>obind (apnd 8 Ac (([Af]:List Int))) fun Ao=>k3 Ao (w64 (Aa + 1)) Ab else obind (ix Ad Aa) fun Bl=>obind (apnd 8 Ac (([Af]:List Int))) fun At=>k3 At (w64 (Aa + 1)) Ab

def d_spec_l1Merge_L1_B (fu:Nat)  (Ag:List Int) (Af:Bool) (Aa:(List Int)) (Ad:(List Int)) (k3:List Int → Int → Int → Option ((List Int))) (Ac:List Int) (Ae:Int) (Ab:Int):Option ((List Int)) :=
  bif (decide (Ae < ((Aa.length:Int)))) then d_spec_l1Merge_J1 fu k3 Ag Af Aa Ad Ac Ae Ab else bif (decide (Ab < ((Ad.length:Int)))) then d_spec_l1Merge_J1 fu k3 Ag Af Aa Ad Ac Ae Ab else some (Ac)
def d_spec_l1Merge_L1 (fu:Nat)  (Ac:List Int) (Ad:Bool) (Aa:(List Int)) (Ab:(List Int)):Nat → List Int → Int → Int → Option ((List Int))
  | 0=>fun _ _ _=>none
  | n + 1=>d_spec_l1Merge_L1_B fu Ac Ad Aa Ab (d_spec_l1Merge_L1 fu Ac Ad Aa Ab n)

def d_spec_l1Merge_RB (fu:Nat) (self:List Int → List Int → Bool → Option ((List Int))) (Ac:List Int) (Aa:List Int) (Ab:Bool):Option ((List Int)) :=
  bif (decide (((Aa.length:Int)) < 2)) then obind (apnd 8 (([]:List Int)) Aa) fun Ad=>some (Ad) else obind (sls Aa 0 (w64 (Int.tdiv ((Aa.length:Int)) 2))) fun Ag=>obind (self Ac Ag Ab) fun Af=>obind (sls Aa (w64 (Int.tdiv ((Aa.length:Int)) 2)) (Aa.length:Int)) fun Ae=>obind (self Ac Ae Ab) fun Ah=>d_spec_l1Merge_L1 fu Ac Ab Af Ah fu (([]:List Int)) 0 0
def d_spec_l1Merge_R (fu:Nat):Nat → List Int → List Int → Bool → Option ((List Int))
  | 0=>fun _ _ _=>none
  | n + 1=>d_spec_l1Merge_RB fu (d_spec_l1Merge_R fu n)
def d_spec_l1Merge (fu:Nat) (Ab:List Int) (Aa:List Int) (Ac:Bool):Option ((List Int)):=d_spec_l1Merge_R fu fu Ab Aa Ac

def d_spec_SortUp (fu:Nat) (Aa:List Int):Option ((List Int)) :=
  obind (d_spec_l1Places fu ((Aa.length:Int))) fun x5=>obind (d_spec_l1Merge fu Aa x5 false) fun Ab=>some (Ab)

def d_spec_l5Sides (fu:Nat) (Aa:Int) (h2:Int) (d3:Int):Option ((List Int)) :=
  obind (d_spec_SortUp fu (([Aa,h2,d3]:List Int))) fun x9=>obind (ix x9 0) fun Ae=>obind (ix (([Aa,h2,d3]:List Int)) Ae) fun Ad=>obind (ix x9 1) fun Ag=>obind (ix (([Aa,h2,d3]:List Int)) Ag) fun Ab=>obind (ix x9 2) fun Ac=>obind (ix (([Aa,h2,d3]:List Int)) Ac) fun Af=>some (([Ad,Ab,Af]:List Int))

def d_spec_Fits (fu:Nat) (x1:Item) (t2:Typ):Option (Bool) :=
  obind (d_spec_l5Sides fu x1.fW x1.fH x1.fD) fun Ab=>obind (d_spec_l5Sides fu t2.fW t2.fH t2.fD) fun Aa=>obind (ix Ab 0) fun Ag=>obind (ix Aa 0) fun Ad=>bif (decide (Ag ≤ Ad)) then obind (ix Ab 1) fun Ac=>obind (ix Aa 1) fun Ae=>bif (decide (Ac ≤ Ae)) then obind (ix Ab 2) fun Af=>obind (ix Aa 2) fun Ah=>bif (decide (Af ≤ Ah)) then some (decide (x1.fGram ≤ t2.fGram)) else some (false) else some (false) else some (false)

def d_spec_Class_J1 (fu:Nat) (k4:Int → Option (Int)) (Aa:Int)  : Option (Int) :=
  k4 (w64 (Aa + 1))

def d_spec_Class_L1_B (fu:Nat)  (r1:Request) (k4:Int → Option (Int)) (Ab:Int):Option (Int) :=
  bif (decide (Ab < ((r1.fTypes.length:Int)))) then obind (ix r1.fTypes Ab) fun Aa=>bif (decide (Aa.fW > r1.fPallet.fW)) then some (6) else bif (decide (Aa.fD > r1.fPallet.fD)) then some (6) else bif (decide (Aa.fH > r1.fPallet.fH)) then some (6) else bif (decide ((w64 (Aa.fTare + Aa.fGram)) > r1.fPallet.fGram)) then some (6) else d_spec_Class_J1 fu k4 Ab else some (0)
def d_spec_Class_L1 (fu:Nat)  (r1:Request):Nat → Int → Option (Int)
  | 0=>fun _=>none
  | n + 1=>d_spec_Class_L1_B fu r1 (d_spec_Class_L1 fu r1 n)

def d_spec_Class_L2_B (fu:Nat)  (r1:Request) (Ac:Typ × Bool) (k1:Int → Option (Int)) (Aa:Int):Option (Int) :=
  bif (decide (Aa < ((r1.fItems.length:Int)))) then obind (ix r1.fItems Aa) fun Ad=>obind (d_spec_Fits fu Ad Ac.1) fun Ab=>bif (!Ab) then some (5) else k1 (w64 (Aa + 1)) else d_spec_Class_L1 fu r1 fu 0
def d_spec_Class_L2 (fu:Nat)  (r1:Request) (Aa:Typ × Bool):Nat → Int → Option (Int)
  | 0=>fun _=>none
  | n + 1=>d_spec_Class_L2_B fu r1 Aa (d_spec_Class_L2 fu r1 Aa n)

def d_spec_Class (fu:Nat) (r1:Request):Option (Int) :=
  obind (d_spec_BoundsOk fu r1) fun Ab=>bif (!Ab) then some (2) else obind (d_spec_l5Names fu r1) fun Aa=>bif (!Aa) then some (3) else obind (d_spec_TableOk fu r1.fPairs r1.fClasses) fun Ac=>bif (!Ac) then some (4) else obind (d_spec_MasterOf fu r1) fun Ad=>d_spec_Class_L2 fu r1 Ad fu 0

def d_spec_l5Good_J1 (fu:Nat) (k3:List Item → Int → Option (Request × Cur)) (Aa:Int) (Ab:List Item):Option (Request × Cur) :=
  k3 Ab (w64 (Aa + 1))

def d_spec_l5Good_L1_B (fu:Nat)  (c1:Cur) (Aa:Request × Cur) (Af:Typ × Bool) (k3:List Item → Int → Option (Request × Cur)) (Ac:List Item) (Ab:Int):Option (Request × Cur) :=
  bif (decide (Ab < ((Aa.1.fItems.length:Int)))) then obind (ix Aa.1.fItems Ab) fun Ad=>obind (d_spec_Fits fu Ad Af.1) fun Ae=>bif Ae then obind (ix Aa.1.fItems Ab) fun Ah=>obind (apnd 56 Ac (([Ad]:List Item))) fun Ag=>d_spec_l5Good_J1 fu k3 Ab Ag else d_spec_l5Good_J1 fu k3 Ab Ac else some ((⟨Aa.1.fWay,(⟨30,25,24,400⟩:Pallet),Aa.1.fClasses,Aa.1.fPairs,Aa.1.fTypes,Aa.1.fMaster,Ac⟩:Request),(⟨c1.fb,Aa.2.fi,Aa.2.fh⟩:Cur))
def d_spec_l5Good_L1 (fu:Nat)  (c1:Cur) (Aa:Request × Cur) (Ab:Typ × Bool):Nat → List Item → Int → Option (Request × Cur)
  | 0=>fun _ _=>none
  | n + 1=>d_spec_l5Good_L1_B fu c1 Aa Ab (d_spec_l5Good_L1 fu c1 Aa Ab n)

def d_spec_l5Good (fu:Nat) (c1:Cur):Option (Request × Cur) :=
  obind (d_spec_l2Right fu c1) fun Aa=>obind (d_spec_Class fu Aa.1) fun Ab=>bif (Ab != 0) then obind (d_spec_MasterOf fu ((⟨Aa.1.fWay,(⟨30,25,24,400⟩:Pallet),Aa.1.fClasses,Aa.1.fPairs,Aa.1.fTypes,Aa.1.fMaster,Aa.1.fItems⟩:Request))) fun Ac=>d_spec_l5Good_L1 fu c1 Aa Ac fu (([]:List Item)) 0 else some (Aa.1,(⟨c1.fb,Aa.2.fi,Aa.2.fh⟩:Cur))

def d_spec_l2Draw_J1 (fu:Nat) (c1:Cur) (Aa:Request × Cur) (Ab:Int) (Ac:Int) (Ae:Int) (Aj:Int) (Ad:List Pair) (Ah:List Typ) (Ak:Int) (Af:List Item) (Ag:Int) (Ai:Int):Option (Request × Cur) :=
  some ((⟨Ab,(⟨Ac,Aa.1.fPallet.fD,Aa.1.fPallet.fH,Ae⟩:Pallet),Aj,Ad,Ah,Ak,Af⟩:Request),(⟨c1.fb,Ag,Ai⟩:Cur))

def d_spec_l2Draw (fu:Nat) (c1:Cur):Option (Request × Cur) :=
  obind (d_spec_l2Right fu c1) fun Aa=>obind (d_spec_l1PickInt fu ((⟨c1.fb,Aa.2.fi,Aa.2.fh⟩:Cur)) (([(-1),0,2001,100001,1000,9223372036854775807]:List Int))) fun Ac=>obind (d_spec_l1Below fu ((⟨c1.fb,Ac.2.fi,Ac.2.fh⟩:Cur)) 20) fun Ab=>bif (Ab.1 == 0) then obind (d_spec_l1PickInt fu ((⟨c1.fb,Ab.2.fi,Ab.2.fh⟩:Cur)) (([(-1),2]:List Int))) fun Ak=>d_spec_l2Draw_J1 fu c1 Aa Ak.1 Aa.1.fPallet.fW Aa.1.fPallet.fGram Aa.1.fClasses Aa.1.fPairs Aa.1.fTypes Aa.1.fMaster Aa.1.fItems Ak.2.fi Ak.2.fh else bif (Ab.1 == 1) then d_spec_l2Draw_J1 fu c1 Aa Aa.1.fWay Ac.1 Aa.1.fPallet.fGram Aa.1.fClasses Aa.1.fPairs Aa.1.fTypes Aa.1.fMaster Aa.1.fItems Ab.2.fi Ab.2.fh else bif (Ab.1 == 2) then d_spec_l2Draw_J1 fu c1 Aa Aa.1.fWay Aa.1.fPallet.fW Ac.1 Aa.1.fClasses Aa.1.fPairs Aa.1.fTypes Aa.1.fMaster Aa.1.fItems Ab.2.fi Ab.2.fh else bif (Ab.1 == 3) then obind (d_spec_l1PickInt fu ((⟨c1.fb,Ab.2.fi,Ab.2.fh⟩:Cur)) (([0,5,1]:List Int))) fun Af=>d_spec_l2Draw_J1 fu c1 Aa Aa.1.fWay Aa.1.fPallet.fW Aa.1.fPallet.fGram Af.1 Aa.1.fPairs Aa.1.fTypes Aa.1.fMaster Aa.1.fItems Af.2.fi Af.2.fh else bif (Ab.1 == 4) then obind (d_spec_l1Below fu ((⟨c1.fb,Ab.2.fi,Ab.2.fh⟩:Cur)) 6) fun Ai=>obind (d_spec_l1Below fu ((⟨c1.fb,Ai.2.fi,Ai.2.fh⟩:Cur)) 4) fun Ah=>obind (apnd 16 Aa.1.fPairs (([(⟨w64 (Ai.1 - 1),Ah.1⟩:Pair)]:List Pair))) fun At=>d_spec_l2Draw_J1 fu c1 Aa Aa.1.fWay Aa.1.fPallet.fW Aa.1.fPallet.fGram Aa.1.fClasses At Aa.1.fTypes Aa.1.fMaster Aa.1.fItems Ah.2.fi Ah.2.fh else bif (Ab.1 == 5) then obind (ix Aa.1.fTypes 0) fun Al=>d_spec_l2Draw_J1 fu c1 Aa Aa.1.fWay Aa.1.fPallet.fW Aa.1.fPallet.fGram Aa.1.fClasses Aa.1.fPairs (setx Aa.1.fTypes 0 ({ Al with fH:=Ac.1 })) Aa.1.fMaster Aa.1.fItems Ab.2.fi Ab.2.fh else bif (Ab.1 == 6) then obind (d_spec_l1Below fu ((⟨c1.fb,Ab.2.fi,Ab.2.fh⟩:Cur)) ((Aa.1.fTypes.length:Int))) fun Ad=>obind (ix Aa.1.fTypes Ad.1) fun Ap=>d_spec_l2Draw_J1 fu c1 Aa Aa.1.fWay Aa.1.fPallet.fW Aa.1.fPallet.fGram Aa.1.fClasses Aa.1.fPairs (setx Aa.1.fTypes Ad.1 ({ Ap with fGram:=Ac.1 })) Aa.1.fMaster Aa.1.fItems Ad.2.fi Ad.2.fh else bif (Ab.1 == 7) then obind (d_spec_l1PickInt fu ((⟨c1.fb,Ab.2.fi,Ab.2.fh⟩:Cur)) (([8,(-1),1000]:List Int))) fun Aj=>d_spec_l2Draw_J1 fu c1 Aa Aa.1.fWay Aa.1.fPallet.fW Aa.1.fPallet.fGram Aa.1.fClasses Aa.1.fPairs Aa.1.fTypes Aj.1 Aa.1.fItems Aj.2.fi Aj.2.fh else bif (Ab.1 == 8) then obind (d_spec_l1Below fu ((⟨c1.fb,Ab.2.fi,Ab.2.fh⟩:Cur)) 5) fun Ag=>obind (d_spec_l1Below fu ((⟨c1.fb,Ag.2.fi,Ag.2.fh⟩:Cur)) 8) fun Ae=>obind (apnd 56 Aa.1.fItems (([(⟨3,1,2,3,4,Ag.1,Ae.1⟩:Item)]:List Item))) fun As=>d_spec_l2Draw_J1 fu c1 Aa Aa.1.fWay Aa.1.fPallet.fW Aa.1.fPallet.fGram Aa.1.fClasses Aa.1.fPairs Aa.1.fTypes Aa.1.fMaster As Ae.2.fi Ae.2.fh else bif (Ab.1 == 9) then bif (decide (((Aa.1.fItems.length:Int)) > 0)) then obind (ix Aa.1.fItems 0) fun Am=>d_spec_l2Draw_J1 fu c1 Aa Aa.1.fWay Aa.1.fPallet.fW Aa.1.fPallet.fGram Aa.1.fClasses Aa.1.fPairs Aa.1.fTypes Aa.1.fMaster (setx Aa.1.fItems 0 ({ Am with fD:=Ac.1 })) Ab.2.fi Ab.2.fh else d_spec_l2Draw_J1 fu c1 Aa Aa.1.fWay Aa.1.fPallet.fW Aa.1.fPallet.fGram Aa.1.fClasses Aa.1.fPairs Aa.1.fTypes Aa.1.fMaster Aa.1.fItems Ab.2.fi Ab.2.fh else bif (Ab.1 == 10) then bif (decide (((Aa.1.fPairs.length:Int)) > 0)) then obind (sls Aa.1.fPairs 1 (Aa.1.fPairs.length:Int)) fun Aq=>d_spec_l2Draw_J1 fu c1 Aa Aa.1.fWay Aa.1.fPallet.fW Aa.1.fPallet.fGram Aa.1.fClasses Aq Aa.1.fTypes Aa.1.fMaster Aa.1.fItems Ab.2.fi Ab.2.fh else d_spec_l2Draw_J1 fu c1 Aa Aa.1.fWay Aa.1.fPallet.fW Aa.1.fPallet.fGram Aa.1.fClasses Aa.1.fPairs Aa.1.fTypes Aa.1.fMaster Aa.1.fItems Ab.2.fi Ab.2.fh else bif (Ab.1 == 11) then obind (ix Aa.1.fTypes 0) fun Ao=>obind (apnd 56 Aa.1.fTypes (([Ao]:List Typ))) fun Ar=>d_spec_l2Draw_J1 fu c1 Aa Aa.1.fWay Aa.1.fPallet.fW Aa.1.fPallet.fGram Aa.1.fClasses Aa.1.fPairs Ar Aa.1.fMaster Aa.1.fItems Ab.2.fi Ab.2.fh else bif (Ab.1 == 12) then d_spec_l2Draw_J1 fu c1 Aa Aa.1.fWay Aa.1.fPallet.fW Aa.1.fPallet.fGram Aa.1.fClasses Aa.1.fPairs (([]:List Typ)) Aa.1.fMaster Aa.1.fItems Ab.2.fi Ab.2.fh else d_spec_l2Draw_J1 fu c1 Aa Aa.1.fWay Aa.1.fPallet.fW Aa.1.fPallet.fGram Aa.1.fClasses Aa.1.fPairs Aa.1.fTypes Aa.1.fMaster Aa.1.fItems Ab.2.fi Ab.2.fh

def d_spec_DrawClass (fu:Nat) (Ab:List U8):Option (Request) :=
  obind (d_spec_l1New fu Ab) fun x8=>obind (d_spec_l1Once fu ((⟨Ab,x8.fi,x8.fh⟩:Cur)) 2) fun Aa=>bif Aa.1 then obind (d_spec_l5Good fu ((⟨Ab,Aa.2.fi,Aa.2.fh⟩:Cur))) fun Ad=>some (Ad.1) else obind (d_spec_l2Draw fu ((⟨Ab,Aa.2.fi,Aa.2.fh⟩:Cur))) fun Ac=>some (Ac.1)

def d_spec_DrawPlanOf (fu:Nat) (Aa:List U8):Option (Request) :=
  obind (d_spec_DrawClass fu Aa) fun x8=>some (x8)

def d_impl_TypeById_1 (fu:Nat) (t1:Typ) (x2:Int):Option (Bool) :=
  some (t1.fId == x2)

def d_slices_IndexFunc_impl_Type_impl_Type_L1_B (fu:Nat)  (Ab:List Typ) (f5:Typ → Option Bool) (k1:Int → Option (Int)) (Aa:Int):Option (Int) :=
  bif (decide (Aa < ((Ab.length:Int)))) then obind (ix Ab Aa) fun Ad=>obind (f5 Ad) fun Ac=>bif Ac then some (Aa) else k1 (w64 (Aa + 1)) else some ((-1))
def d_slices_IndexFunc_impl_Type_impl_Type_L1 (fu:Nat)  (Aa:List Typ) (f5:Typ → Option Bool):Nat → Int → Option (Int)
  | 0=>fun _=>none
  | n + 1=>d_slices_IndexFunc_impl_Type_impl_Type_L1_B fu Aa f5 (d_slices_IndexFunc_impl_Type_impl_Type_L1 fu Aa f5 n)

def d_slices_IndexFunc_impl_Type_impl_Type (fu:Nat) (Aa:List Typ) (f5:Typ → Option Bool):Option (Int) :=
  d_slices_IndexFunc_impl_Type_impl_Type_L1 fu Aa f5 fu 0

def d_impl_TypeById (fu:Nat) (r1:Request) (Ad:Int):Option (Typ × Bool) :=
  obind (d_slices_IndexFunc_impl_Type_impl_Type fu r1.fTypes (fun Ac=>d_impl_TypeById_1 fu Ac Ad)) fun Aa=>bif (decide (Aa < 0)) then some ((⟨0,0,0,0,0,0,0⟩:Typ),false) else obind (ix r1.fTypes Aa) fun Ab=>some (Ab,true)

def d_impl_MasterOf (fu:Nat) (r1:Request):Option (Typ × Bool) :=
  obind (d_impl_TypeById fu r1 r1.fMaster) fun Aa=>some (Aa.1,Aa.2)

def d_impl_in (fu:Nat) (n1:Int) (Aa:Int) (Ab:Int):Option (Bool) :=
  bif (decide (n1 ≥ Aa)) then some (decide (n1 ≤ Ab)) else some (false)

def d_impl_isSide (fu:Nat) (n1:Int):Option (Bool) :=
  obind (d_impl_in fu n1 1 2000) fun x2=>some (x2)

def d_impl_PalletOk (fu:Nat) (x1:Pallet):Option (Bool) :=
  obind (d_impl_isSide fu x1.fW) fun x5=>bif x5 then obind (d_impl_isSide fu x1.fD) fun Ab=>bif Ab then obind (d_impl_isSide fu x1.fH) fun Aa=>bif Aa then obind (d_impl_in fu x1.fGram 1 100000) fun Ac=>some (Ac) else some (false) else some (false) else some (false)

def d_slices_IndexFunc_impl_Pair_impl_Pair_L1_B (fu:Nat)  (Ab:List Pair) (f5:Pair → Option Bool) (k1:Int → Option (Int)) (Aa:Int):Option (Int) :=
  bif (decide (Aa < ((Ab.length:Int)))) then obind (ix Ab Aa) fun Ad=>obind (f5 Ad) fun Ac=>bif Ac then some (Aa) else k1 (w64 (Aa + 1)) else some ((-1))
def d_slices_IndexFunc_impl_Pair_impl_Pair_L1 (fu:Nat)  (Aa:List Pair) (f5:Pair → Option Bool):Nat → Int → Option (Int)
  | 0=>fun _=>none
  | n + 1=>d_slices_IndexFunc_impl_Pair_impl_Pair_L1_B fu Aa f5 (d_slices_IndexFunc_impl_Pair_impl_Pair_L1 fu Aa f5 n)

def d_slices_IndexFunc_impl_Pair_impl_Pair (fu:Nat) (Aa:List Pair) (f5:Pair → Option Bool):Option (Int) :=
  d_slices_IndexFunc_impl_Pair_impl_Pair_L1 fu Aa f5 fu 0

def d_slices_ContainsFunc_impl_Pair_impl_Pair (fu:Nat) (Ab:List Pair) (f5:Pair → Option Bool):Option (Bool) :=
  obind (d_slices_IndexFunc_impl_Pair_impl_Pair fu Ab f5) fun Aa=>some (decide (Aa ≥ 0))

def d_impl_BoundsOk_1 (fu:Nat) (p1:Pair):Option (Bool) :=
  obind (d_impl_in fu p1.fA 0 3) fun x5=>bif (!x5) then some (true) else obind (d_impl_in fu p1.fB 0 3) fun Aa=>some (!Aa)

def d_slices_ContainsFunc_impl_Type_impl_Type (fu:Nat) (Ab:List Typ) (f5:Typ → Option Bool):Option (Bool) :=
  obind (d_slices_IndexFunc_impl_Type_impl_Type fu Ab f5) fun Aa=>some (decide (Aa ≥ 0))

def d_impl_TypeOk (fu:Nat) (x1:Typ):Option (Bool) :=
  obind (d_impl_in fu x1.fId 0 999) fun x5=>bif x5 then obind (d_impl_isSide fu x1.fW) fun Ae=>bif Ae then obind (d_impl_isSide fu x1.fH) fun Aa=>bif Aa then obind (d_impl_isSide fu x1.fD) fun Af=>bif Af then obind (d_impl_in fu x1.fTare 0 100000) fun Ac=>bif Ac then obind (d_impl_in fu x1.fGram 1 100000) fun Ab=>bif Ab then obind (d_impl_in fu x1.fCost 0 100000) fun Ad=>some (Ad) else some (false) else some (false) else some (false) else some (false) else some (false) else some (false)

def d_impl_BoundsOk_2 (fu:Nat) (t1:Typ):Option (Bool) :=
  obind (d_impl_TypeOk fu t1) fun x5=>some (!x5)

def d_impl_ItemOk (fu:Nat) (x1:Item):Option (Bool) :=
  obind (d_impl_in fu x1.fId 0 999) fun x5=>bif x5 then obind (d_impl_isSide fu x1.fW) fun Ae=>bif Ae then obind (d_impl_isSide fu x1.fH) fun Aa=>bif Aa then obind (d_impl_isSide fu x1.fD) fun Af=>bif Af then obind (d_impl_in fu x1.fGram 1 100000) fun Ac=>bif Ac then obind (d_impl_in fu x1.fClass 0 3) fun Ab=>bif Ab then obind (d_impl_in fu x1.fCount 1 6) fun Ad=>some (Ad) else some (false) else some (false) else some (false) else some (false) else some (false) else some (false)

def d_impl_BoundsOk_L1_B (fu:Nat)  (r1:Request) (k3:Int → Int → Option (Bool)) (Ac:Int) (Aa:Int):Option (Bool) :=
  bif (decide (Aa < ((r1.fItems.length:Int)))) then obind (ix r1.fItems Aa) fun Ab=>obind (d_impl_ItemOk fu Ab) fun Ad=>bif (!Ad) then some (false) else k3 (w64 (Ac + Ab.fCount)) (w64 (Aa + 1)) else some (decide (Ac ≤ 12))
def d_impl_BoundsOk_L1 (fu:Nat)  (r1:Request):Nat → Int → Int → Option (Bool)
  | 0=>fun _ _=>none
  | n + 1=>d_impl_BoundsOk_L1_B fu r1 (d_impl_BoundsOk_L1 fu r1 n)

def d_impl_BoundsOk_J1 (fu:Nat) (r1:Request)  : Option (Bool) :=
  d_impl_BoundsOk_L1 fu r1 fu 0 0

def d_impl_BoundsOk_J2 (fu:Nat) (r1:Request)  : Option (Bool) :=
  obind (d_slices_ContainsFunc_impl_Pair_impl_Pair fu r1.fPairs (fun Aa=>d_impl_BoundsOk_1 fu Aa)) fun Ad=>bif Ad then some (false) else obind (d_impl_in fu ((r1.fTypes.length:Int)) 1 5) fun Ab=>bif (!Ab) then some (false) else obind (d_slices_ContainsFunc_impl_Type_impl_Type fu r1.fTypes (fun Af=>d_impl_BoundsOk_2 fu Af)) fun Ae=>bif Ae then some (false) else obind (d_impl_in fu r1.fMaster 0 999) fun Ac=>bif (!Ac) then some (false) else bif (decide (((r1.fItems.length:Int)) > 8)) then some (false) else d_impl_BoundsOk_J1 fu r1

def d_impl_BoundsOk (fu:Nat) (r1:Request):Option (Bool) :=
  obind (d_impl_in fu r1.fWay 0 1) fun Aa=>bif (!Aa) then some (false) else obind (d_impl_PalletOk fu r1.fPallet) fun Ac=>bif (!Ac) then some (false) else obind (d_impl_in fu r1.fClasses 1 4) fun Ab=>bif (!Ab) then some (false) else bif (decide (((r1.fPairs.length:Int)) > 16)) then some (false) else d_impl_BoundsOk_J2 fu r1

def d_impl_namesOk_1 (fu:Nat) (q1:Typ) (x2:Typ):Option (Bool) :=
  some (q1.fId == x2.fId)

def d_impl_namesOk_2 (fu:Nat) (q1:Item) (x2:Item):Option (Bool) :=
  some (q1.fId == x2.fId)

def d_slices_IndexFunc_impl_Item_impl_Item_L1_B (fu:Nat)  (Ab:List Item) (f5:Item → Option Bool) (k1:Int → Option (Int)) (Aa:Int):Option (Int) :=
  bif (decide (Aa < ((Ab.length:Int)))) then obind (ix Ab Aa) fun Ad=>obind (f5 Ad) fun Ac=>bif Ac then some (Aa) else k1 (w64 (Aa + 1)) else some ((-1))
def d_slices_IndexFunc_impl_Item_impl_Item_L1 (fu:Nat)  (Aa:List Item) (f5:Item → Option Bool):Nat → Int → Option (Int)
  | 0=>fun _=>none
  | n + 1=>d_slices_IndexFunc_impl_Item_impl_Item_L1_B fu Aa f5 (d_slices_IndexFunc_impl_Item_impl_Item_L1 fu Aa f5 n)

def d_slices_IndexFunc_impl_Item_impl_Item (fu:Nat) (Aa:List Item) (f5:Item → Option Bool):Option (Int) :=
  d_slices_IndexFunc_impl_Item_impl_Item_L1 fu Aa f5 fu 0

def d_slices_ContainsFunc_impl_Item_impl_Item (fu:Nat) (Ab:List Item) (f5:Item → Option Bool):Option (Bool) :=
  obind (d_slices_IndexFunc_impl_Item_impl_Item fu Ab f5) fun Aa=>some (decide (Aa ≥ 0))

def d_impl_namesOk_3 (fu:Nat) (p1:Pair) (x2:Request):Option (Bool) :=
  bif (decide (p1.fA ≥ x2.fClasses)) then some (true) else some (decide (p1.fB ≥ x2.fClasses))

def d_impl_namesOk_J1 (fu:Nat) (k4:Int → Option (Bool)) (Aa:Int)  : Option (Bool) :=
  k4 (w64 (Aa + 1))

def d_impl_namesOk_L1_B (fu:Nat)  (r1:Request) (k4:Int → Option (Bool)) (Aa:Int):Option (Bool) :=
  bif (decide (Aa < ((r1.fItems.length:Int)))) then obind (ix r1.fItems Aa) fun Ab=>bif (decide (Ab.fClass ≥ r1.fClasses)) then some (false) else obind (sls r1.fItems 0 Aa) fun Af=>obind (d_slices_ContainsFunc_impl_Item_impl_Item fu Af (fun Ah=>d_impl_namesOk_2 fu Ah Ab)) fun Ae=>bif Ae then some (false) else d_impl_namesOk_J1 fu k4 Aa else obind (d_impl_MasterOf fu r1) fun Ad=>bif Ad.2 then obind (d_slices_ContainsFunc_impl_Pair_impl_Pair fu r1.fPairs (fun Ag=>d_impl_namesOk_3 fu Ag r1)) fun Ac=>some (!Ac) else some (false)
def d_impl_namesOk_L1 (fu:Nat)  (r1:Request):Nat → Int → Option (Bool)
  | 0=>fun _=>none
  | n + 1=>d_impl_namesOk_L1_B fu r1 (d_impl_namesOk_L1 fu r1 n)

def d_impl_namesOk_L2_B (fu:Nat)  (r1:Request) (k1:Int → Option (Bool)) (Aa:Int):Option (Bool) :=
  bif (decide (Aa < ((r1.fTypes.length:Int)))) then obind (ix r1.fTypes Aa) fun Ab=>obind (sls r1.fTypes 0 Aa) fun Ad=>obind (d_slices_ContainsFunc_impl_Type_impl_Type fu Ad (fun Ae=>d_impl_namesOk_1 fu Ae Ab)) fun Ac=>bif Ac then some (false) else k1 (w64 (Aa + 1)) else d_impl_namesOk_L1 fu r1 fu 0
def d_impl_namesOk_L2 (fu:Nat)  (r1:Request):Nat → Int → Option (Bool)
  | 0=>fun _=>none
  | n + 1=>d_impl_namesOk_L2_B fu r1 (d_impl_namesOk_L2 fu r1 n)

def d_impl_namesOk (fu:Nat) (r1:Request):Option (Bool) :=
  d_impl_namesOk_L2 fu r1 fu 0

def d_slices_Index_impl_Pair_impl_Pair_L1_B (fu:Nat)  (Ab:List Pair) (v5:Pair) (k1:Int → Option (Int)) (Aa:Int):Option (Int) :=
  bif (decide (Aa < ((Ab.length:Int)))) then obind (ix Ab Aa) fun Ac=>bif (decide (v5 = Ac)) then some (Aa) else k1 (w64 (Aa + 1)) else some ((-1))
def d_slices_Index_impl_Pair_impl_Pair_L1 (fu:Nat)  (Aa:List Pair) (v5:Pair):Nat → Int → Option (Int)
  | 0=>fun _=>none
  | n + 1=>d_slices_Index_impl_Pair_impl_Pair_L1_B fu Aa v5 (d_slices_Index_impl_Pair_impl_Pair_L1 fu Aa v5 n)

def d_slices_Index_impl_Pair_impl_Pair (fu:Nat) (Aa:List Pair) (v5:Pair):Option (Int) :=
  d_slices_Index_impl_Pair_impl_Pair_L1 fu Aa v5 fu 0

def d_slices_Contains_impl_Pair_impl_Pair (fu:Nat) (Ab:List Pair) (v5:Pair):Option (Bool) :=
  obind (d_slices_Index_impl_Pair_impl_Pair fu Ab v5) fun Aa=>some (decide (Aa ≥ 0))

def d_impl_Beside (fu:Nat) (Aa:List Pair) (a5:Int) (b6:Int):Option (Bool) :=
  obind (d_slices_Contains_impl_Pair_impl_Pair fu Aa ((⟨a5,b6⟩:Pair))) fun x7=>some (x7)

def d_impl_TableOk_L1_B (fu:Nat) (k3:Int → Option (Bool)) (Ac:List Pair) (Af:Int) (Ab:Int) (k4:Int → Option (Bool)) (Aa:Int):Option (Bool) :=
  bif (decide (Aa < Af)) then obind (d_impl_Beside fu Ac Ab Aa) fun Ae=>obind (d_impl_Beside fu Ac Aa Ab) fun Ad=>bif (!(Ae == Ad)) then some (false) else k4 (w64 (Aa + 1)) else k3 (w64 (Ab + 1))
def d_impl_TableOk_L1 (fu:Nat) (k3:Int → Option (Bool)) (Aa:List Pair) (Ac:Int) (Ab:Int):Nat → Int → Option (Bool)
  | 0=>fun _=>none
  | n + 1=>d_impl_TableOk_L1_B fu k3 Aa Ac Ab (d_impl_TableOk_L1 fu k3 Aa Ac Ab n)

def d_impl_TableOk_L2_B (fu:Nat)  (Ab:List Pair) (Ac:Int) (k3:Int → Option (Bool)) (Aa:Int):Option (Bool) :=
  bif (decide (Aa < Ac)) then obind (d_impl_Beside fu Ab Aa Aa) fun Ad=>bif (!Ad) then some (false) else d_impl_TableOk_L1 fu k3 Ab Ac Aa fu 0 else some (true)
def d_impl_TableOk_L2 (fu:Nat)  (Aa:List Pair) (Ab:Int):Nat → Int → Option (Bool)
  | 0=>fun _=>none
  | n + 1=>d_impl_TableOk_L2_B fu Aa Ab (d_impl_TableOk_L2 fu Aa Ab n)

def d_impl_TableOk (fu:Nat) (Ab:List Pair) (Aa:Int):Option (Bool) :=
  obind (d_impl_in fu Aa 1 4) fun x6=>bif (!x6) then some (false) else d_impl_TableOk_L2 fu Ab Aa fu 0

def d_slices_Sort_int_int (fu:Nat) (x1:List Int):Option (List Int):=sortI x1

def d_impl_Fits_J1 (fu:Nat) (x1:Item) (t2:Typ) (Ac:List Int) (Ag:List Int):Option (Bool) :=
  obind (d_slices_Sort_int_int fu Ac) fun Aa=>obind (d_slices_Sort_int_int fu Ag) fun Ab=>obind (ix Aa 0) fun Ad=>obind (ix Ab 0) fun Aj=>bif (decide (Ad ≤ Aj)) then obind (ix Aa 1) fun Ae=>obind (ix Ab 1) fun Af=>bif (decide (Ae ≤ Af)) then obind (ix Aa 2) fun Ai=>obind (ix Ab 2) fun Ah=>bif (decide (Ai ≤ Ah)) then some (decide (x1.fGram ≤ t2.fGram)) else some (false) else some (false) else some (false)

def d_impl_Fits (fu:Nat) (x1:Item) (t2:Typ):Option (Bool) :=
  d_impl_Fits_J1 fu x1 t2 (([x1.fW,x1.fH,x1.fD]:List Int)) (([t2.fW,t2.fH,t2.fD]:List Int))

def d_impl_Class_1 (fu:Nat) (x1:Item) (x2:Typ):Option (Bool) :=
  obind (d_impl_Fits fu x1 x2) fun x8=>some (!x8)

def d_impl_Class_2 (fu:Nat) (t1:Typ) (x2:Pallet):Option (Bool) :=
  bif (decide (t1.fW > x2.fW)) then some (true) else bif (decide (t1.fD > x2.fD)) then some (true) else bif (decide (t1.fH > x2.fH)) then some (true) else some (decide ((w64 (t1.fTare + t1.fGram)) > x2.fGram))

def d_impl_Class (fu:Nat) (r1:Request):Option (Int) :=
  obind (d_impl_MasterOf fu r1) fun Ae=>obind (d_impl_BoundsOk fu r1) fun Ab=>bif (!Ab) then some (2) else obind (d_impl_namesOk fu r1) fun Ac=>bif (!Ac) then some (3) else obind (d_impl_TableOk fu r1.fPairs r1.fClasses) fun Ah=>bif (!Ah) then some (4) else obind (d_slices_ContainsFunc_impl_Item_impl_Item fu r1.fItems (fun Ag=>d_impl_Class_1 fu Ag Ae.1)) fun Ad=>bif Ad then some (5) else obind (d_slices_ContainsFunc_impl_Type_impl_Type fu r1.fTypes (fun Aa=>d_impl_Class_2 fu Aa r1.fPallet)) fun Af=>bif Af then some (6) else some (0)

def d_impl_sound (fu:Nat) (r1:Request):Option (Bool) :=
  obind (d_impl_Class fu r1) fun Aa=>some (Aa == 0)

def d_slices_Clone_int_int (fu:Nat) (Ab:List Int):Option ((List Int)) :=
  obind (apnd 8 (([]:List Int)) Ab) fun Aa=>some (Aa)

def d_slices_Compact_int_int (fu:Nat) (x1:List Int):Option (List Int):=cmpI x1

def d_impl_kinds (fu:Nat) (Ac:List Int):Option ((List Int)) :=
  obind (d_slices_Clone_int_int fu Ac) fun x5=>obind (d_slices_Sort_int_int fu x5) fun Ab=>obind (d_slices_Compact_int_int fu Ab) fun Aa=>some (Aa)

def d_impl_Present_L1_B (fu:Nat)  (r1:Request) (k1:List Int → Int → Option ((List Int))) (Ab:List Int) (Aa:Int):Option ((List Int)) :=
  bif (decide (Aa < ((r1.fItems.length:Int)))) then obind (ix r1.fItems Aa) fun Ad=>obind (apnd 8 Ab (([Ad.fClass]:List Int))) fun Ae=>k1 Ae (w64 (Aa + 1)) else obind (d_impl_kinds fu Ab) fun Ac=>some (Ac)
def d_impl_Present_L1 (fu:Nat)  (r1:Request):Nat → List Int → Int → Option ((List Int))
  | 0=>fun _ _=>none
  | n + 1=>d_impl_Present_L1_B fu r1 (d_impl_Present_L1 fu r1 n)

def d_impl_Present (fu:Nat) (r1:Request):Option ((List Int)) :=
  obind (d_impl_sound fu r1) fun Aa=>bif (!Aa) then some (([]:List Int)) else d_impl_Present_L1 fu r1 fu (([]:List Int)) 0

def d_impl_mutual (fu:Nat) (Aa:List Pair) (a5:Int) (b6:Int):Option (Bool) :=
  obind (d_impl_Beside fu Aa a5 b6) fun x7=>bif x7 then obind (d_impl_Beside fu Aa b6 a5) fun Ab=>some (Ab) else some (false)

def d_impl_Groups_1_1 (fu:Nat) (x1:Int) (x2:List Pair) (x8:Int):Option (Bool) :=
  obind (d_impl_mutual fu x2 x8 x1) fun Aa=>some (!Aa)

def d_slices_IndexFunc_int_int_L1_B (fu:Nat)  (Ab:List Int) (f5:Int → Option Bool) (k1:Int → Option (Int)) (Aa:Int):Option (Int) :=
  bif (decide (Aa < ((Ab.length:Int)))) then obind (ix Ab Aa) fun Ad=>obind (f5 Ad) fun Ac=>bif Ac then some (Aa) else k1 (w64 (Aa + 1)) else some ((-1))
def d_slices_IndexFunc_int_int_L1 (fu:Nat)  (Aa:List Int) (f5:Int → Option Bool):Nat → Int → Option (Int)
  | 0=>fun _=>none
  | n + 1=>d_slices_IndexFunc_int_int_L1_B fu Aa f5 (d_slices_IndexFunc_int_int_L1 fu Aa f5 n)

def d_slices_IndexFunc_int_int (fu:Nat) (Aa:List Int) (f5:Int → Option Bool):Option (Int) :=
  d_slices_IndexFunc_int_int_L1 fu Aa f5 fu 0

def d_slices_ContainsFunc_int_int (fu:Nat) (Ab:List Int) (f5:Int → Option Bool):Option (Bool) :=
  obind (d_slices_IndexFunc_int_int fu Ab f5) fun Aa=>some (decide (Aa ≥ 0))

def d_impl_Groups_1 (fu:Nat) (l1:List Int) (x5:List Pair) (Aa:Int):Option (Bool) :=
  obind (d_slices_ContainsFunc_int_int fu l1 (fun Ac=>d_impl_Groups_1_1 fu Ac x5 Aa)) fun Ab=>some (!Ab)

def d_slices_IndexFunc_ints_int_L1_B (fu:Nat)  (Ab:List (List Int)) (f5:(List Int) → Option Bool) (k1:Int → Option (Int)) (Aa:Int):Option (Int) :=
  bif (decide (Aa < ((Ab.length:Int)))) then obind (ix Ab Aa) fun Ad=>obind (f5 Ad) fun Ac=>bif Ac then some (Aa) else k1 (w64 (Aa + 1)) else some ((-1))
def d_slices_IndexFunc_ints_int_L1 (fu:Nat)  (Aa:List (List Int)) (f5:(List Int) → Option Bool):Nat → Int → Option (Int)
  | 0=>fun _=>none
  | n + 1=>d_slices_IndexFunc_ints_int_L1_B fu Aa f5 (d_slices_IndexFunc_ints_int_L1 fu Aa f5 n)

def d_slices_IndexFunc_ints_int (fu:Nat) (Aa:List (List Int)) (f5:(List Int) → Option Bool):Option (Int) :=
  d_slices_IndexFunc_ints_int_L1 fu Aa f5 fu 0

def d_impl_Groups_J1 (fu:Nat) (k3:List (List Int) → Int → Option ((List (List Int)))) (Ab:Int) (Aa:List (List Int)):Option ((List (List Int))) :=
  k3 Aa (w64 (Ab + 1))

def d_impl_Groups_L1_B (fu:Nat)  (Ai:List Pair) (Ae:(List Int)) (k3:List (List Int) → Int → Option ((List (List Int)))) (Aa:List (List Int)) (Ab:Int):Option ((List (List Int))) :=
  bif (decide (Ab < ((Ae.length:Int)))) then obind (ix Ae Ab) fun Ad=>obind (d_impl_in fu Ad 0 3) fun Ah=>bif (!Ah) then d_impl_Groups_J1 fu k3 Ab Aa else obind (d_slices_IndexFunc_ints_int fu Aa (fun Ak=>d_impl_Groups_1 fu Ak Ai Ad)) fun Ac=>bif (decide (Ac < 0)) then obind (apnd 24 Aa [([Ad]:List Int)]) fun Aj=>d_impl_Groups_J1 fu k3 Ab Aj else obind (ix Aa Ac) fun Af=>obind (apnd 8 Af (([Ad]:List Int))) fun Ag=>obind (ix Aa Ac) fun Al=>d_impl_Groups_J1 fu k3 Ab (setx Aa Ac Ag) else some (Aa)
def d_impl_Groups_L1 (fu:Nat)  (Aa:List Pair) (Ab:(List Int)):Nat → List (List Int) → Int → Option ((List (List Int)))
  | 0=>fun _ _=>none
  | n + 1=>d_impl_Groups_L1_B fu Aa Ab (d_impl_Groups_L1 fu Aa Ab n)

def d_impl_Groups (fu:Nat) (Aa:List Pair) (Ac:List Int):Option ((List (List Int))) :=
  obind (d_impl_kinds fu Ac) fun Ab=>d_impl_Groups_L1 fu Aa Ab fu (([]:List (List Int))) 0

def d_impl_GroupsOf (fu:Nat) (r1:Request):Option ((List (List Int))) :=
  obind (d_impl_sound fu r1) fun Ab=>bif (!Ab) then some (([]:List (List Int))) else obind (d_impl_Present fu r1) fun Ac=>obind (d_impl_Groups fu r1.fPairs Ac) fun Aa=>some (Aa)

def d_bits_Mul64 (fu:Nat) (x1:Int) (y2:Int):Option (Int × Int) :=
  some (IntKind.wrap .u64 ((IntKind.wrap .u64 ((IntKind.wrap .u64 ((Int.fdiv x1 (2 ^ (min 32 (IntKind.bits .u64)))) * (Int.fdiv y2 (2 ^ (min 32 (IntKind.bits .u64)))))) + (Int.fdiv (IntKind.wrap .u64 ((IntKind.wrap .u64 ((Int.fdiv x1 (2 ^ (min 32 (IntKind.bits .u64)))) * (IntKind.wrap .u64 (((BitVec.ofInt (IntKind.bits .u64) y2 &&& BitVec.ofInt (IntKind.bits .u64) 4294967295).toNat:Nat):Int)))) + (Int.fdiv (IntKind.wrap .u64 ((IntKind.wrap .u64 (((BitVec.ofInt (IntKind.bits .u64) x1 &&& BitVec.ofInt (IntKind.bits .u64) 4294967295).toNat:Nat):Int)) * (IntKind.wrap .u64 (((BitVec.ofInt (IntKind.bits .u64) y2 &&& BitVec.ofInt (IntKind.bits .u64) 4294967295).toNat:Nat):Int)))) (2 ^ (min 32 (IntKind.bits .u64)))))) (2 ^ (min 32 (IntKind.bits .u64)))))) + (Int.fdiv (IntKind.wrap .u64 ((IntKind.wrap .u64 (((BitVec.ofInt (IntKind.bits .u64) (IntKind.wrap .u64 ((IntKind.wrap .u64 ((Int.fdiv x1 (2 ^ (min 32 (IntKind.bits .u64)))) * (IntKind.wrap .u64 (((BitVec.ofInt (IntKind.bits .u64) y2 &&& BitVec.ofInt (IntKind.bits .u64) 4294967295).toNat:Nat):Int)))) + (Int.fdiv (IntKind.wrap .u64 ((IntKind.wrap .u64 (((BitVec.ofInt (IntKind.bits .u64) x1 &&& BitVec.ofInt (IntKind.bits .u64) 4294967295).toNat:Nat):Int)) * (IntKind.wrap .u64 (((BitVec.ofInt (IntKind.bits .u64) y2 &&& BitVec.ofInt (IntKind.bits .u64) 4294967295).toNat:Nat):Int)))) (2 ^ (min 32 (IntKind.bits .u64)))))) &&& BitVec.ofInt (IntKind.bits .u64) 4294967295).toNat:Nat):Int)) + (IntKind.wrap .u64 ((IntKind.wrap .u64 (((BitVec.ofInt (IntKind.bits .u64) x1 &&& BitVec.ofInt (IntKind.bits .u64) 4294967295).toNat:Nat):Int)) * (Int.fdiv y2 (2 ^ (min 32 (IntKind.bits .u64)))))))) (2 ^ (min 32 (IntKind.bits .u64))))),IntKind.wrap .u64 (x1 * y2))

def d_bits_Mul (fu:Nat) (x1:Int) (y2:Int):Option (Int × Int) :=
  obind (d_bits_Mul64 fu x1 y2) fun x3=>some (x3.1,x3.2)

def d_slices_Repeat_int_int_L1_B (fu:Nat)   (k3:List Int → Int → Option ((List Int))) (Aa:List Int) (Ab:Int):Option ((List Int)) :=
  bif (decide (Ab < ((Aa.length:Int)))) then obind (sls Aa Ab (Aa.length:Int)) fun Ad=>obind (sls Aa 0 Ab) fun Ac=>k3 (cpd Aa Ab Ac) (w64 (Ab + (cpn Aa Ab Ac))) else some (Aa)
def d_slices_Repeat_int_int_L1 (fu:Nat)   : Nat → List Int → Int → Option ((List Int))
  | 0=>fun _ _=>none
  | n + 1=>d_slices_Repeat_int_int_L1_B fu  (d_slices_Repeat_int_int_L1 fu  n)

def d_slices_Repeat_int_int_J1 (fu:Nat) (x1:List Int) (x8:Int × Int)  : Option ((List Int)) :=
  obind (mk 8 (0:Int) (w64 x8.2)) fun Aa=>d_slices_Repeat_int_int_L1 fu fu (cpd Aa 0 x1) (cpn Aa 0 x1)

def d_slices_Repeat_int_int_J2 (fu:Nat) (x1:List Int) (Aa:Int)  : Option ((List Int)) :=
  obind (d_bits_Mul fu (IntKind.wrap .u64 ((x1.length:Int))) (IntKind.wrap .u64 Aa)) fun x8=>bif (decide (x8.1 > 0)) then none else bif (decide (x8.2 > 9223372036854775807)) then none else d_slices_Repeat_int_int_J1 fu x1 x8

def d_slices_Repeat_int_int (fu:Nat) (x1:List Int) (Aa:Int):Option ((List Int)) :=
  bif (decide (Aa < 0)) then none else d_slices_Repeat_int_int_J2 fu x1 Aa

def d_impl_Units_L1_B (fu:Nat)  (r1:Request) (k1:List Int → Int → Option ((List Int))) (Ab:List Int) (Aa:Int):Option ((List Int)) :=
  bif (decide (Aa < ((r1.fItems.length:Int)))) then obind (ix r1.fItems Aa) fun Ad=>obind (d_slices_Repeat_int_int fu (([Aa]:List Int)) Ad.fCount) fun Ac=>obind (apnd 8 Ab Ac) fun Ae=>k1 Ae (w64 (Aa + 1)) else some (Ab)
def d_impl_Units_L1 (fu:Nat)  (r1:Request):Nat → List Int → Int → Option ((List Int))
  | 0=>fun _ _=>none
  | n + 1=>d_impl_Units_L1_B fu r1 (d_impl_Units_L1 fu r1 n)

def d_impl_Units (fu:Nat) (r1:Request):Option ((List Int)) :=
  obind (d_impl_sound fu r1) fun Aa=>bif (!Aa) then some (([]:List Int)) else d_impl_Units_L1 fu r1 fu (([]:List Int)) 0

def d_slices_Index_int_int_L1_B (fu:Nat)  (Ab:List Int) (v5:Int) (k1:Int → Option (Int)) (Aa:Int):Option (Int) :=
  bif (decide (Aa < ((Ab.length:Int)))) then obind (ix Ab Aa) fun Ac=>bif (v5 == Ac) then some (Aa) else k1 (w64 (Aa + 1)) else some ((-1))
def d_slices_Index_int_int_L1 (fu:Nat)  (Aa:List Int) (v5:Int):Nat → Int → Option (Int)
  | 0=>fun _=>none
  | n + 1=>d_slices_Index_int_int_L1_B fu Aa v5 (d_slices_Index_int_int_L1 fu Aa v5 n)

def d_slices_Index_int_int (fu:Nat) (Aa:List Int) (v5:Int):Option (Int) :=
  d_slices_Index_int_int_L1 fu Aa v5 fu 0

def d_slices_Contains_int_int (fu:Nat) (Aa:List Int) (v5:Int):Option (Bool) :=
  obind (d_slices_Index_int_int fu Aa v5) fun x6=>some (decide (x6 ≥ 0))

def d_impl_UnitsOf_J1 (fu:Nat) (k3:List Int → Int → Option ((List Int))) (Aa:Int) (Ab:List Int):Option ((List Int)) :=
  k3 Ab (w64 (Aa + 1))

def d_impl_UnitsOf_L1_B (fu:Nat)  (r1:Request) (Ai:Int) (Ah:(List (List Int))) (Ac:(List Int)) (k3:List Int → Int → Option ((List Int))) (Ab:List Int) (Aa:Int):Option ((List Int)) :=
  bif (decide (Aa < ((Ac.length:Int)))) then obind (ix Ac Aa) fun Af=>obind (ix Ah Ai) fun Ad=>obind (ix r1.fItems Af) fun Ae=>obind (d_slices_Contains_int_int fu Ad Ae.fClass) fun Ag=>bif Ag then obind (apnd 8 Ab (([Aa]:List Int))) fun Aj=>d_impl_UnitsOf_J1 fu k3 Aa Aj else d_impl_UnitsOf_J1 fu k3 Aa Ab else some (Ab)
def d_impl_UnitsOf_L1 (fu:Nat)  (r1:Request) (Ab:Int) (Aa:(List (List Int))) (Ac:(List Int)):Nat → List Int → Int → Option ((List Int))
  | 0=>fun _ _=>none
  | n + 1=>d_impl_UnitsOf_L1_B fu r1 Ab Aa Ac (d_impl_UnitsOf_L1 fu r1 Ab Aa Ac n)

def d_impl_UnitsOf (fu:Nat) (r1:Request) (Ab:Int):Option ((List Int)) :=
  obind (d_impl_GroupsOf fu r1) fun Aa=>obind (d_impl_in fu Ab 0 (w64 (((Aa.length:Int)) - 1))) fun Ad=>bif (!Ad) then some (([]:List Int)) else obind (d_impl_Units fu r1) fun Ac=>d_impl_UnitsOf_L1 fu r1 Ab Aa Ac fu (([]:List Int)) 0

def d_impl_thereOf_1 (fu:Nat) (u1:Int) (x2:Int):Option (Bool) :=
  obind (d_impl_in fu u1 0 (w64 (x2 - 1))) fun x5=>some (!x5)

def d_slices_DeleteFunc_int_int_J1 (fu:Nat) (k3:List Int → Int → Int → Option ((List Int))) (Aa:Int) (Ac:List Int) (Ab:Int):Option ((List Int)) :=
  k3 Ac Ab (w64 (Aa + 1))

def d_slices_DeleteFunc_int_int_L1_B (fu:Nat)  (f5:Int → Option Bool) (k3:List Int → Int → Int → Option ((List Int))) (Aa:List Int) (Ab:Int) (Ac:Int):Option ((List Int)) :=
  bif (decide (Ac < ((Aa.length:Int)))) then obind (ix Aa Ac) fun Ad=>obind (f5 Ad) fun Ae=>bif (!Ae) then obind (ix Aa Ab) fun Ah=>d_slices_DeleteFunc_int_int_J1 fu k3 Ac (setx Aa Ab Ad) (w64 (Ab + 1)) else d_slices_DeleteFunc_int_int_J1 fu k3 Ac Aa Ab else obind (sls Aa Ab (Aa.length:Int)) fun Ag=>obind (sls (clrd Aa Ab) 0 Ab) fun Af=>some (Af)
def d_slices_DeleteFunc_int_int_L1 (fu:Nat)  (f5:Int → Option Bool):Nat → List Int → Int → Int → Option ((List Int))
  | 0=>fun _ _ _=>none
  | n + 1=>d_slices_DeleteFunc_int_int_L1_B fu f5 (d_slices_DeleteFunc_int_int_L1 fu f5 n)

def d_slices_DeleteFunc_int_int (fu:Nat) (Ab:List Int) (f5:Int → Option Bool):Option ((List Int)) :=
  obind (d_slices_IndexFunc_int_int fu Ab f5) fun Aa=>bif (Aa == ((-1))) then some (Ab) else d_slices_DeleteFunc_int_int_L1 fu f5 fu Ab Aa (w64 (Aa + 1))

def d_impl_thereOf (fu:Nat) (r1:Request) (Ac:List Int):Option ((List Int)) :=
  obind (d_impl_Units fu r1) fun Ab=>obind (d_slices_Clone_int_int fu Ac) fun Aa=>obind (d_slices_DeleteFunc_int_int fu Aa (fun Ad=>d_impl_thereOf_1 fu Ad ((Ab.length:Int)))) fun Ae=>some (Ae)

def d_impl_itemsOf_J1 (fu:Nat) (k3:List Item → Int → Option ((List Item))) (Ab:Int) (Aa:List Item):Option ((List Item)) :=
  k3 Aa (w64 (Ab + 1))

def d_impl_itemsOf_L1_B (fu:Nat)  (r1:Request) (Ad:List Int) (Ac:(List Int)) (k3:List Item → Int → Option ((List Item))) (Ab:List Item) (Aa:Int):Option ((List Item)) :=
  bif (decide (Aa < ((Ad.length:Int)))) then obind (ix Ad Aa) fun Ae=>obind (d_impl_in fu Ae 0 (w64 (((Ac.length:Int)) - 1))) fun Af=>bif Af then obind (ix Ac Ae) fun Ai=>obind (ix r1.fItems Ai) fun Ah=>obind (apnd 56 Ab (([Ah]:List Item))) fun Ag=>d_impl_itemsOf_J1 fu k3 Aa Ag else d_impl_itemsOf_J1 fu k3 Aa Ab else some (Ab)
def d_impl_itemsOf_L1 (fu:Nat)  (r1:Request) (Aa:List Int) (Ab:(List Int)):Nat → List Item → Int → Option ((List Item))
  | 0=>fun _ _=>none
  | n + 1=>d_impl_itemsOf_L1_B fu r1 Aa Ab (d_impl_itemsOf_L1 fu r1 Aa Ab n)

def d_impl_itemsOf (fu:Nat) (r1:Request) (Aa:List Int):Option ((List Item)) :=
  obind (d_impl_Units fu r1) fun Ab=>d_impl_itemsOf_L1 fu r1 Aa Ab fu (([]:List Item)) 0

def d_impl_Volume_J1 (fu:Nat) (Aa:Int) (h2:Int) (d3:Int)  : Option (Int) :=
  some (w64 ((w64 (Aa * h2)) * d3))

def d_impl_Volume (fu:Nat) (Aa:Int) (h2:Int) (d3:Int):Option (Int) :=
  obind (d_impl_in fu Aa 0 2000) fun Ab=>bif (!Ab) then some (0) else obind (d_impl_in fu h2 0 2000) fun Ac=>bif (!Ac) then some (0) else obind (d_impl_in fu d3 0 2000) fun Ad=>bif (!Ad) then some (0) else d_impl_Volume_J1 fu Aa h2 d3

def d_impl_VolumeOf_L1_B (fu:Nat)  (Ac:(List Item)) (k1:Int → Int → Option (Int)) (Ad:Int) (Ab:Int):Option (Int) :=
  bif (decide (Ab < ((Ac.length:Int)))) then obind (ix Ac Ab) fun Aa=>obind (d_impl_Volume fu Aa.fW Aa.fH Aa.fD) fun Ae=>k1 (w64 (Ad + Ae)) (w64 (Ab + 1)) else some (Ad)
def d_impl_VolumeOf_L1 (fu:Nat)  (Aa:(List Item)):Nat → Int → Int → Option (Int)
  | 0=>fun _ _=>none
  | n + 1=>d_impl_VolumeOf_L1_B fu Aa (d_impl_VolumeOf_L1 fu Aa n)

def d_impl_VolumeOf (fu:Nat) (r1:Request) (Aa:List Int):Option (Int) :=
  obind (d_impl_itemsOf fu r1 Aa) fun Ab=>d_impl_VolumeOf_L1 fu Ab fu 0 0

def d_impl_GramOf_L1_B (fu:Nat)  (Ac:(List Item)) (k1:Int → Int → Option (Int)) (Ab:Int) (Aa:Int):Option (Int) :=
  bif (decide (Aa < ((Ac.length:Int)))) then obind (ix Ac Aa) fun Ad=>k1 (w64 (Ab + Ad.fGram)) (w64 (Aa + 1)) else some (Ab)
def d_impl_GramOf_L1 (fu:Nat)  (Aa:(List Item)):Nat → Int → Int → Option (Int)
  | 0=>fun _ _=>none
  | n + 1=>d_impl_GramOf_L1_B fu Aa (d_impl_GramOf_L1 fu Aa n)

def d_impl_GramOf (fu:Nat) (r1:Request) (Aa:List Int):Option (Int) :=
  obind (d_impl_itemsOf fu r1 Aa) fun Ab=>d_impl_GramOf_L1 fu Ab fu 0 0

def d_impl_within (fu:Nat) (r1:Request) (Aa:List Int) (t9:Typ):Option (Bool) :=
  obind (d_impl_VolumeOf fu r1 Aa) fun Ab=>obind (d_impl_Volume fu t9.fW t9.fH t9.fD) fun Ad=>bif (decide (Ab ≤ Ad)) then obind (d_impl_GramOf fu r1 Aa) fun Ac=>some (decide (Ac ≤ t9.fGram)) else some (false)

def d_impl_Room (fu:Nat) (r1:Request) (Aa:List Int) (u9:Int):Option (Bool) :=
  obind (d_impl_MasterOf fu r1) fun Ad=>obind (d_impl_sound fu r1) fun Ac=>bif Ac then obind (d_slices_Clone_int_int fu Aa) fun Ae=>obind (apnd 8 Ae (([u9]:List Int))) fun Ab=>obind (d_impl_within fu r1 Ab Ad.1) fun Af=>some (Af) else some (false)

def d_impl_NextFit_J1 (fu:Nat) (k3:List (List Int) → Int → Option ((List (List Int)))) (Ab:Int) (Aa:List (List Int)):Option ((List (List Int))) :=
  k3 Aa (w64 (Ab + 1))

def d_impl_NextFit_L1_B (fu:Nat)  (r1:Request) (Ad:(List Int)) (k3:List (List Int) → Int → Option ((List (List Int)))) (Aa:List (List Int)) (Ab:Int):Option ((List (List Int))) :=
  bif (decide (Ab < ((Ad.length:Int)))) then obind (ix Ad Ab) fun Ac=>bif (decide ((w64 (((Aa.length:Int)) - 1)) ≥ 0)) then obind (ix Aa (w64 (((Aa.length:Int)) - 1))) fun Ae=>obind (d_impl_Room fu r1 Ae Ac) fun Af=>bif Af then obind (ix Aa (w64 (((Aa.length:Int)) - 1))) fun Aj=>obind (apnd 8 Ae (([Ac]:List Int))) fun Ag=>obind (ix Aa (w64 (((Aa.length:Int)) - 1))) fun Ak=>d_impl_NextFit_J1 fu k3 Ab (setx Aa (w64 (((Aa.length:Int)) - 1)) Ag) else obind (apnd 24 Aa [([Ac]:List Int)]) fun Ai=>d_impl_NextFit_J1 fu k3 Ab Ai else obind (apnd 24 Aa [([Ac]:List Int)]) fun Ah=>d_impl_NextFit_J1 fu k3 Ab Ah else some (Aa)
def d_impl_NextFit_L1 (fu:Nat)  (r1:Request) (Aa:(List Int)):Nat → List (List Int) → Int → Option ((List (List Int)))
  | 0=>fun _ _=>none
  | n + 1=>d_impl_NextFit_L1_B fu r1 Aa (d_impl_NextFit_L1 fu r1 Aa n)

def d_impl_NextFit (fu:Nat) (r1:Request) (Ab:List Int):Option ((List (List Int))) :=
  obind (d_impl_thereOf fu r1 Ab) fun Aa=>d_impl_NextFit_L1 fu r1 Aa fu (([]:List (List Int))) 0

def d_impl_places_L1_B (fu:Nat)  (n1:Int) (k1:List Int → Int → Option ((List Int))) (Ab:List Int) (Aa:Int):Option ((List Int)) :=
  bif (decide (Aa < n1)) then obind (apnd 8 Ab (([Aa]:List Int))) fun Ac=>k1 Ac (w64 (Aa + 1)) else some (Ab)
def d_impl_places_L1 (fu:Nat)  (n1:Int):Nat → List Int → Int → Option ((List Int))
  | 0=>fun _ _=>none
  | n + 1=>d_impl_places_L1_B fu n1 (d_impl_places_L1 fu n1 n)

def d_impl_places (fu:Nat) (n1:Int):Option ((List Int)) :=
  d_impl_places_L1 fu n1 fu (([]:List Int)) 0

def d_impl_compare (fu:Nat) (a1:Int) (b2:Int):Option (Int) :=
  bif (decide (a1 < b2)) then some ((-1)) else bif (decide (a1 > b2)) then some (1) else some (0)

def d_impl_SortDown_1 (fu:Nat) (i1:Int) (j2:Int) (x3:List Int):Option (Int) :=
  obind (ix x3 j2) fun Ab=>obind (ix x3 i1) fun Ac=>obind (d_impl_compare fu Ab Ac) fun Aa=>some (Aa)

def d_slices_insertionSortCmpFunc_int_J1 (fu:Nat) (Ad:List Int → Int → Option ((List Int))) (Ab:List Int) (Aa:Int)  : Option ((List Int)) :=
  obind (ix Ab (w64 (Aa - 1))) fun Ac=>obind (ix Ab Aa) fun Ae=>obind (ix Ab Aa) fun Af=>obind (ix (setx Ab Aa Ac) (w64 (Aa - 1))) fun Ag=>Ad (setx (setx Ab Aa Ac) (w64 (Aa - 1)) Ae) (w64 (Aa - 1))

def d_slices_insertionSortCmpFunc_int_L1_B (fu:Nat) (k9:List Int → Int → Option ((List Int))) (a5:Int) (f7:Int → Int → Option Int) (Ac:Int) (Af:List Int → Int → Option ((List Int))) (Aa:List Int) (Ab:Int):Option ((List Int)) :=
  bif (decide (Ab > a5)) then obind (ix Aa Ab) fun Ad=>obind (ix Aa (w64 (Ab - 1))) fun Ae=>obind (f7 Ad Ae) fun Ag=>bif (decide (Ag < 0)) then d_slices_insertionSortCmpFunc_int_J1 fu Af Aa Ab else k9 Aa (w64 (Ac + 1)) else k9 Aa (w64 (Ac + 1))
def d_slices_insertionSortCmpFunc_int_L1 (fu:Nat) (k9:List Int → Int → Option ((List Int))) (a5:Int) (f7:Int → Int → Option Int) (Aa:Int):Nat → List Int → Int → Option ((List Int))
  | 0=>fun _ _=>none
  | n + 1=>d_slices_insertionSortCmpFunc_int_L1_B fu k9 a5 f7 Aa (d_slices_insertionSortCmpFunc_int_L1 fu k9 a5 f7 Aa n)

def d_slices_insertionSortCmpFunc_int_L2_B (fu:Nat)  (a5:Int) (b6:Int) (f7:Int → Int → Option Int) (k9:List Int → Int → Option ((List Int))) (Ab:List Int) (Aa:Int):Option ((List Int)) :=
  bif (decide (Aa < b6)) then d_slices_insertionSortCmpFunc_int_L1 fu k9 a5 f7 Aa fu Ab Aa else some (Ab)
def d_slices_insertionSortCmpFunc_int_L2 (fu:Nat)  (a5:Int) (b6:Int) (f7:Int → Int → Option Int):Nat → List Int → Int → Option ((List Int))
  | 0=>fun _ _=>none
  | n + 1=>d_slices_insertionSortCmpFunc_int_L2_B fu a5 b6 f7 (d_slices_insertionSortCmpFunc_int_L2 fu a5 b6 f7 n)

def d_slices_insertionSortCmpFunc_int (fu:Nat) (Aa:List Int) (a5:Int) (b6:Int) (f7:Int → Int → Option Int):Option ((List Int)) :=
  d_slices_insertionSortCmpFunc_int_L2 fu a5 b6 f7 fu Aa (w64 (a5 + 1))

def d_slices_symMergeCmpFunc_int (fu:Nat) (x0:List Int) (x1:Int) (x2:Int) (x3:Int) (x4:Int → Int → Option Int):Option ((List Int)):=none

def d_slices_stableCmpFunc_int_J1 (fu:Nat) (k6:List Int → Int → Option ((List Int))) (Aa:Int) (Ab:List Int):Option ((List Int)) :=
  k6 Ab (w64 (Aa * 2))

def d_slices_stableCmpFunc_int_L1_B (fu:Nat) (k6:List Int → Int → Option ((List Int))) (n5:Int) (f6:Int → Int → Option Int) (Aa:Int) (k7:List Int → Int → Int → Option ((List Int))) (Ad:List Int) (Ab:Int) (Ac:Int):Option ((List Int)) :=
  bif (decide (Ac ≤ n5)) then obind (d_slices_symMergeCmpFunc_int fu Ad Ab (w64 (Ab + Aa)) Ac f6) fun Ae=>k7 Ae Ac (w64 (Ac + (w64 (2 * Aa)))) else bif (decide ((w64 (Ab + Aa)) < n5)) then obind (d_slices_symMergeCmpFunc_int fu Ad Ab (w64 (Ab + Aa)) n5 f6) fun Af=>d_slices_stableCmpFunc_int_J1 fu k6 Aa Af else d_slices_stableCmpFunc_int_J1 fu k6 Aa Ad
def d_slices_stableCmpFunc_int_L1 (fu:Nat) (k6:List Int → Int → Option ((List Int))) (n5:Int) (f6:Int → Int → Option Int) (Aa:Int):Nat → List Int → Int → Int → Option ((List Int))
  | 0=>fun _ _ _=>none
  | n + 1=>d_slices_stableCmpFunc_int_L1_B fu k6 n5 f6 Aa (d_slices_stableCmpFunc_int_L1 fu k6 n5 f6 Aa n)

def d_slices_stableCmpFunc_int_L2_B (fu:Nat)  (n5:Int) (f6:Int → Int → Option Int) (k6:List Int → Int → Option ((List Int))) (Ab:List Int) (Aa:Int):Option ((List Int)) :=
  bif (decide (Aa < n5)) then d_slices_stableCmpFunc_int_L1 fu k6 n5 f6 Aa fu Ab 0 (w64 (2 * Aa)) else some (Ab)
def d_slices_stableCmpFunc_int_L2 (fu:Nat)  (n5:Int) (f6:Int → Int → Option Int):Nat → List Int → Int → Option ((List Int))
  | 0=>fun _ _=>none
  | n + 1=>d_slices_stableCmpFunc_int_L2_B fu n5 f6 (d_slices_stableCmpFunc_int_L2 fu n5 f6 n)

def d_slices_stableCmpFunc_int_L3_B (fu:Nat)  (n5:Int) (f6:Int → Int → Option Int) (k1:List Int → Int → Int → Option ((List Int))) (Ab:List Int) (Ac:Int) (Aa:Int):Option ((List Int)) :=
  bif (decide (Aa ≤ n5)) then obind (d_slices_insertionSortCmpFunc_int fu Ab Ac Aa f6) fun Ad=>k1 Ad Aa (w64 (Aa + 20)) else obind (d_slices_insertionSortCmpFunc_int fu Ab Ac n5 f6) fun Ae=>d_slices_stableCmpFunc_int_L2 fu n5 f6 fu Ae 20
def d_slices_stableCmpFunc_int_L3 (fu:Nat)  (n5:Int) (f6:Int → Int → Option Int):Nat → List Int → Int → Int → Option ((List Int))
  | 0=>fun _ _ _=>none
  | n + 1=>d_slices_stableCmpFunc_int_L3_B fu n5 f6 (d_slices_stableCmpFunc_int_L3 fu n5 f6 n)

def d_slices_stableCmpFunc_int (fu:Nat) (Aa:List Int) (n5:Int) (f6:Int → Int → Option Int):Option ((List Int)) :=
  d_slices_stableCmpFunc_int_L3 fu n5 f6 fu Aa 0 20

def d_slices_SortStableFunc_int_int (fu:Nat) (x1:List Int) (f5:Int → Int → Option Int):Option ((List Int)) :=
  obind (d_slices_stableCmpFunc_int fu x1 ((x1.length:Int)) f5) fun Aa=>some (Aa)

def d_impl_SortDown (fu:Nat) (Aa:List Int):Option ((List Int)) :=
  obind (d_impl_places fu ((Aa.length:Int))) fun x8=>obind (d_slices_SortStableFunc_int_int fu x8 (fun Ac Ab=>d_impl_SortDown_1 fu Ac Ab Aa)) fun Ad=>some (Ad)

def d_impl_FirstFit_1 (fu:Nat) (l1:List Int) (x5:Request) (Ab:Int):Option (Bool) :=
  obind (d_impl_Room fu x5 l1 Ab) fun Aa=>some (Aa)

def d_impl_FirstFit_J1 (fu:Nat) (k4:List (List Int) → Int → Option ((List (List Int)))) (Ab:Int) (Aa:List (List Int)):Option ((List (List Int))) :=
  k4 Aa (w64 (Ab + 1))

def d_impl_FirstFit_L1_B (fu:Nat)  (r1:Request) (Ah:(List Int)) (Ae:(List Int)) (k4:List (List Int) → Int → Option ((List (List Int)))) (Aa:List (List Int)) (Ab:Int):Option ((List (List Int))) :=
  bif (decide (Ab < ((Ae.length:Int)))) then obind (ix Ae Ab) fun Ag=>obind (ix Ah Ag) fun Ad=>obind (d_slices_IndexFunc_ints_int fu Aa (fun Ak=>d_impl_FirstFit_1 fu Ak r1 Ad)) fun Ac=>bif (decide (Ac < 0)) then obind (apnd 24 Aa [([Ad]:List Int)]) fun Ai=>d_impl_FirstFit_J1 fu k4 Ab Ai else obind (ix Aa Ac) fun Aj=>obind (apnd 8 Aj (([Ad]:List Int))) fun Af=>obind (ix Aa Ac) fun Al=>d_impl_FirstFit_J1 fu k4 Ab (setx Aa Ac Af) else some (Aa)
def d_impl_FirstFit_L1 (fu:Nat)  (r1:Request) (Ab:(List Int)) (Aa:(List Int)):Nat → List (List Int) → Int → Option ((List (List Int)))
  | 0=>fun _ _=>none
  | n + 1=>d_impl_FirstFit_L1_B fu r1 Ab Aa (d_impl_FirstFit_L1 fu r1 Ab Aa n)

def d_impl_FirstFit_L2_B (fu:Nat)  (r1:Request) (Aa:(List Int)) (k1:List Int → Int → Option ((List (List Int)))) (Ac:List Int) (Ab:Int):Option ((List (List Int))) :=
  bif (decide (Ab < ((Aa.length:Int)))) then obind (ix Aa Ab) fun Ad=>obind (d_impl_VolumeOf fu r1 (([Ad]:List Int))) fun Ag=>obind (apnd 8 Ac (([Ag]:List Int))) fun Ae=>k1 Ae (w64 (Ab + 1)) else obind (d_impl_SortDown fu Ac) fun Af=>d_impl_FirstFit_L1 fu r1 Aa Af fu (([]:List (List Int))) 0
def d_impl_FirstFit_L2 (fu:Nat)  (r1:Request) (Aa:(List Int)):Nat → List Int → Int → Option ((List (List Int)))
  | 0=>fun _ _=>none
  | n + 1=>d_impl_FirstFit_L2_B fu r1 Aa (d_impl_FirstFit_L2 fu r1 Aa n)

def d_impl_FirstFit (fu:Nat) (r1:Request) (Aa:List Int):Option ((List (List Int))) :=
  obind (d_impl_thereOf fu r1 Aa) fun Ab=>d_impl_FirstFit_L2 fu r1 Ab fu (([]:List Int)) 0

def d_impl_PackWay (fu:Nat) (r1:Request) (Aa:List Int):Option ((List (List Int))) :=
  bif (r1.fWay == 1) then obind (d_impl_NextFit fu r1 Aa) fun Ab=>some (Ab) else obind (d_impl_FirstFit fu r1 Aa) fun Ac=>some (Ac)

def d_impl_Holds_1 (fu:Nat) (x1:Item) (x2:Typ):Option (Bool) :=
  obind (d_impl_Fits fu x1 x2) fun x8=>some (!x8)

def d_impl_Holds_J1 (fu:Nat) (r1:Request) (Aa:List Int) (t9:Typ)  : Option (Bool) :=
  obind (d_impl_itemsOf fu r1 Aa) fun Ac=>obind (d_slices_ContainsFunc_impl_Item_impl_Item fu Ac (fun Ae=>d_impl_Holds_1 fu Ae t9)) fun Ad=>bif (!Ad) then obind (d_impl_within fu r1 Aa t9) fun Ab=>some (Ab) else some (false)

def d_impl_Holds (fu:Nat) (r1:Request) (Aa:List Int) (t9:Typ):Option (Bool) :=
  obind (d_impl_sound fu r1) fun Ab=>bif (!Ab) then some (false) else obind (d_impl_thereOf fu r1 Aa) fun Ac=>bif (((Ac.length:Int)) != ((Aa.length:Int))) then some (false) else d_impl_Holds_J1 fu r1 Aa t9

def d_impl_Cheapest_J1 (fu:Nat) (k3:Typ → Bool → Int → Option (Typ × Bool)) (Ab:Int) (Aa:Typ) (Ac:Bool):Option (Typ × Bool) :=
  k3 Aa Ac (w64 (Ab + 1))

def d_impl_Cheapest_L1_B (fu:Nat)  (r1:Request) (Ae:List Int) (k3:Typ → Bool → Int → Option (Typ × Bool)) (Ab:Typ) (Ad:Bool) (Aa:Int):Option (Typ × Bool) :=
  bif (decide (Aa < ((r1.fTypes.length:Int)))) then obind (ix r1.fTypes Aa) fun Ac=>obind (d_impl_Holds fu r1 Ae Ac) fun Af=>bif (!Af) then d_impl_Cheapest_J1 fu k3 Aa Ab Ad else bif (!Ad) then d_impl_Cheapest_J1 fu k3 Aa Ac true else bif (decide (Ac.fCost < Ab.fCost)) then d_impl_Cheapest_J1 fu k3 Aa Ac true else bif (Ac.fCost == Ab.fCost) then bif (decide (Ac.fId < Ab.fId)) then d_impl_Cheapest_J1 fu k3 Aa Ac true else d_impl_Cheapest_J1 fu k3 Aa Ab Ad else d_impl_Cheapest_J1 fu k3 Aa Ab Ad else some (Ab,Ad)
def d_impl_Cheapest_L1 (fu:Nat)  (r1:Request) (Aa:List Int):Nat → Typ → Bool → Int → Option (Typ × Bool)
  | 0=>fun _ _ _=>none
  | n + 1=>d_impl_Cheapest_L1_B fu r1 Aa (d_impl_Cheapest_L1 fu r1 Aa n)

def d_impl_Cheapest (fu:Nat) (r1:Request) (Aa:List Int):Option (Typ × Bool) :=
  d_impl_Cheapest_L1 fu r1 Aa fu ((⟨0,0,0,0,0,0,0⟩:Typ)) false 0

def d_impl_CartonsOf_L1_B (fu:Nat) (k3:List Carton → Int → Option ((List Carton))) (r1:Request) (Ac:Int) (Ae:(List (List Int))) (k4:List Carton → Int → Option ((List Carton))) (Ad:List Carton) (Aa:Int):Option ((List Carton)) :=
  bif (decide (Aa < ((Ae.length:Int)))) then obind (ix Ae Aa) fun Ab=>obind (d_impl_Cheapest fu r1 Ab) fun Ah=>obind (d_slices_Sort_int_int fu Ab) fun Ag=>obind (apnd 40 Ad [(⟨Ah.1.fId,Ac,Ag⟩:Carton)]) fun Af=>k4 Af (w64 (Aa + 1)) else k3 Ad (w64 (Ac + 1))
def d_impl_CartonsOf_L1 (fu:Nat) (k3:List Carton → Int → Option ((List Carton))) (r1:Request) (Ab:Int) (Aa:(List (List Int))):Nat → List Carton → Int → Option ((List Carton))
  | 0=>fun _ _=>none
  | n + 1=>d_impl_CartonsOf_L1_B fu k3 r1 Ab Aa (d_impl_CartonsOf_L1 fu k3 r1 Ab Aa n)

def d_impl_CartonsOf_L2_B (fu:Nat)  (r1:Request) (Ad:(List (List Int))) (k3:List Carton → Int → Option ((List Carton))) (Ab:List Carton) (Aa:Int):Option ((List Carton)) :=
  bif (decide (Aa < ((Ad.length:Int)))) then obind (d_impl_UnitsOf fu r1 Aa) fun Ac=>obind (d_impl_PackWay fu r1 Ac) fun Ae=>d_impl_CartonsOf_L1 fu k3 r1 Aa Ae fu Ab 0 else some (Ab)
def d_impl_CartonsOf_L2 (fu:Nat)  (r1:Request) (Aa:(List (List Int))):Nat → List Carton → Int → Option ((List Carton))
  | 0=>fun _ _=>none
  | n + 1=>d_impl_CartonsOf_L2_B fu r1 Aa (d_impl_CartonsOf_L2 fu r1 Aa n)

def d_impl_CartonsOf (fu:Nat) (r1:Request):Option ((List Carton)) :=
  obind (d_impl_GroupsOf fu r1) fun Aa=>d_impl_CartonsOf_L2 fu r1 Aa fu (([]:List Carton)) 0

def d_impl_Gross_J1 (fu:Nat) (r1:Request) (x5:Carton) (Aa:Typ × Bool)  : Option (Int) :=
  obind (d_impl_GramOf fu r1 x5.fUnits) fun Ab=>some (w64 (Aa.1.fTare + Ab))

def d_impl_Gross (fu:Nat) (r1:Request) (x5:Carton):Option (Int) :=
  obind (d_impl_TypeById fu r1 x5.fType) fun Aa=>bif (!Aa.2) then some (0) else obind (d_impl_sound fu r1) fun Ab=>bif (!Ab) then some (0) else d_impl_Gross_J1 fu r1 x5 Aa

def d_impl_BoxOf_J1 (fu:Nat) (r1:Request) (x5:Carton) (Aa:Typ × Bool)  : Option (Box) :=
  obind (d_impl_Gross fu r1 x5) fun Ab=>some ((⟨Aa.1.fW,Aa.1.fD,Aa.1.fH,Ab⟩:Box))

def d_impl_BoxOf (fu:Nat) (r1:Request) (x5:Carton):Option (Box) :=
  obind (d_impl_TypeById fu r1 x5.fType) fun Aa=>bif (!Aa.2) then some ((⟨0,0,0,0⟩:Box)) else obind (d_impl_sound fu r1) fun Ab=>bif (!Ab) then some ((⟨0,0,0,0⟩:Box)) else d_impl_BoxOf_J1 fu r1 x5 Aa

def d_impl_BoxesOk_1 (fu:Nat) (b1:Box) (x2:Pallet):Option (Bool) :=
  obind (d_impl_in fu b1.fW 1 x2.fW) fun x8=>bif (!x8) then some (true) else obind (d_impl_in fu b1.fD 1 x2.fD) fun Ab=>bif (!Ab) then some (true) else obind (d_impl_in fu b1.fH 1 x2.fH) fun Aa=>bif (!Aa) then some (true) else obind (d_impl_in fu b1.fGram 1 x2.fGram) fun Ac=>some (!Ac)

def d_slices_IndexFunc_impl_Box_impl_Box_L1_B (fu:Nat)  (Ab:List Box) (f5:Box → Option Bool) (k1:Int → Option (Int)) (Aa:Int):Option (Int) :=
  bif (decide (Aa < ((Ab.length:Int)))) then obind (ix Ab Aa) fun Ad=>obind (f5 Ad) fun Ac=>bif Ac then some (Aa) else k1 (w64 (Aa + 1)) else some ((-1))
def d_slices_IndexFunc_impl_Box_impl_Box_L1 (fu:Nat)  (Aa:List Box) (f5:Box → Option Bool):Nat → Int → Option (Int)
  | 0=>fun _=>none
  | n + 1=>d_slices_IndexFunc_impl_Box_impl_Box_L1_B fu Aa f5 (d_slices_IndexFunc_impl_Box_impl_Box_L1 fu Aa f5 n)

def d_slices_IndexFunc_impl_Box_impl_Box (fu:Nat) (Aa:List Box) (f5:Box → Option Bool):Option (Int) :=
  d_slices_IndexFunc_impl_Box_impl_Box_L1 fu Aa f5 fu 0

def d_slices_ContainsFunc_impl_Box_impl_Box (fu:Nat) (Ab:List Box) (f5:Box → Option Bool):Option (Bool) :=
  obind (d_slices_IndexFunc_impl_Box_impl_Box fu Ab f5) fun Aa=>some (decide (Aa ≥ 0))

def d_impl_BoxesOk (fu:Nat) (p1:Pallet) (Ac:List Box):Option (Bool) :=
  obind (d_impl_PalletOk fu p1) fun Aa=>bif Aa then obind (d_slices_ContainsFunc_impl_Box_impl_Box fu Ac (fun Ad=>d_impl_BoxesOk_1 fu Ad p1)) fun Ab=>some (!Ab) else some (false)

def d_impl_Shelves_J1 (fu:Nat) (k8:List Shelf → Int → Option ((List Shelf))) (Ab:Int) (Aa:List Shelf):Option ((List Shelf)) :=
  k8 Aa (w64 (Ab + 1))

def d_impl_Shelves_J2 (fu:Nat) (k8:List Shelf → Int → Option ((List Shelf))) (Ak:Int) (Ah:Int) (Ac:Box) (Ag:List Shelf) (Ad:Int):Option ((List Shelf)) :=
  obind (ix Ag Ad) fun Ab=>obind (apnd 8 Ab.fList (([Ah]:List Int))) fun Af=>obind (some ((⟨((⟨Af,Ab.fW,Ab.fD,Ab.fH,Ab.fGram⟩:Shelf)).fList,w64 ((((⟨Af,Ab.fW,Ab.fD,Ab.fH,Ab.fGram⟩:Shelf)).fW) + Ac.fW),((⟨Af,Ab.fW,Ab.fD,Ab.fH,Ab.fGram⟩:Shelf)).fD,((⟨Af,Ab.fW,Ab.fD,Ab.fH,Ab.fGram⟩:Shelf)).fH,((⟨Af,Ab.fW,Ab.fD,Ab.fH,Ab.fGram⟩:Shelf)).fGram⟩:Shelf))) fun Aa=>obind (some (setx (setx Ag Ad ((⟨Af,Ab.fW,Ab.fD,Ab.fH,Ab.fGram⟩:Shelf))) Ad Aa)) fun Aj=>obind (some ((⟨((⟨Aa.fList,Aa.fW,if Ac.fD > Aa.fD then Ac.fD else Aa.fD,Aa.fH,Aa.fGram⟩:Shelf)).fList,((⟨Aa.fList,Aa.fW,if Ac.fD > Aa.fD then Ac.fD else Aa.fD,Aa.fH,Aa.fGram⟩:Shelf)).fW,((⟨Aa.fList,Aa.fW,if Ac.fD > Aa.fD then Ac.fD else Aa.fD,Aa.fH,Aa.fGram⟩:Shelf)).fD,if Ac.fH > (((⟨Aa.fList,Aa.fW,if Ac.fD > Aa.fD then Ac.fD else Aa.fD,Aa.fH,Aa.fGram⟩:Shelf)).fH) then Ac.fH else ((⟨Aa.fList,Aa.fW,if Ac.fD > Aa.fD then Ac.fD else Aa.fD,Aa.fH,Aa.fGram⟩:Shelf)).fH,((⟨Aa.fList,Aa.fW,if Ac.fD > Aa.fD then Ac.fD else Aa.fD,Aa.fH,Aa.fGram⟩:Shelf)).fGram⟩:Shelf))) fun Ae=>obind (some (setx (setx Aj Ad ((⟨Aa.fList,Aa.fW,if Ac.fD > Aa.fD then Ac.fD else Aa.fD,Aa.fH,Aa.fGram⟩:Shelf))) Ad Ae)) fun Ai=>d_impl_Shelves_J1 fu k8 Ak (setx Ai Ad ((⟨Ae.fList,Ae.fW,Ae.fD,Ae.fH,w64 (Ae.fGram + Ac.fGram)⟩:Shelf)))

def d_impl_Shelves_L1_B (fu:Nat)  (p1:Pallet) (Ai:List Box) (Ae:(List Int)) (k8:List Shelf → Int → Option ((List Shelf))) (Aa:List Shelf) (Ab:Int):Option ((List Shelf)) :=
  bif (decide (Ab < ((Ae.length:Int)))) then obind (ix Ae Ab) fun Ad=>obind (ix Ai Ad) fun Ac=>bif (decide ((w64 (((Aa.length:Int)) - 1)) < 0)) then obind (apnd 56 Aa [(⟨[],0,0,0,0⟩:Shelf)]) fun Ag=>d_impl_Shelves_J2 fu k8 Ab Ad Ac Ag (w64 ((w64 (((Aa.length:Int)) - 1)) + 1)) else obind (ix Aa (w64 (((Aa.length:Int)) - 1))) fun Af=>bif (decide ((w64 (Af.fW + Ac.fW)) > p1.fW)) then obind (apnd 56 Aa [(⟨[],0,0,0,0⟩:Shelf)]) fun Aj=>d_impl_Shelves_J2 fu k8 Ab Ad Ac Aj (w64 ((w64 (((Aa.length:Int)) - 1)) + 1)) else obind (ix Aa (w64 (((Aa.length:Int)) - 1))) fun Ak=>bif (decide ((w64 (Af.fGram + Ac.fGram)) > p1.fGram)) then obind (apnd 56 Aa [(⟨[],0,0,0,0⟩:Shelf)]) fun Ah=>d_impl_Shelves_J2 fu k8 Ab Ad Ac Ah (w64 ((w64 (((Aa.length:Int)) - 1)) + 1)) else d_impl_Shelves_J2 fu k8 Ab Ad Ac Aa (w64 (((Aa.length:Int)) - 1)) else some (Aa)
def d_impl_Shelves_L1 (fu:Nat)  (p1:Pallet) (Ab:List Box) (Aa:(List Int)):Nat → List Shelf → Int → Option ((List Shelf))
  | 0=>fun _ _=>none
  | n + 1=>d_impl_Shelves_L1_B fu p1 Ab Aa (d_impl_Shelves_L1 fu p1 Ab Aa n)

def d_impl_Shelves_L2_B (fu:Nat)  (p1:Pallet) (Aa:List Box) (k1:List Int → Int → Option ((List Shelf))) (Ac:List Int) (Ab:Int):Option ((List Shelf)) :=
  bif (decide (Ab < ((Aa.length:Int)))) then obind (ix Aa Ab) fun Af=>obind (apnd 8 Ac (([Af.fD]:List Int))) fun Ae=>k1 Ae (w64 (Ab + 1)) else obind (d_impl_SortDown fu Ac) fun Ad=>d_impl_Shelves_L1 fu p1 Aa Ad fu (([]:List Shelf)) 0
def d_impl_Shelves_L2 (fu:Nat)  (p1:Pallet) (Aa:List Box):Nat → List Int → Int → Option ((List Shelf))
  | 0=>fun _ _=>none
  | n + 1=>d_impl_Shelves_L2_B fu p1 Aa (d_impl_Shelves_L2 fu p1 Aa n)

def d_impl_Shelves (fu:Nat) (p1:Pallet) (Aa:List Box):Option ((List Shelf)) :=
  obind (d_impl_BoxesOk fu p1 Aa) fun Ab=>bif (!Ab) then some (([]:List Shelf)) else d_impl_Shelves_L2 fu p1 Aa fu (([]:List Int)) 0

def d_impl_ShelvesOk_1 (fu:Nat) (Aa:Shelf) (x5:Pallet):Option (Bool) :=
  obind (d_impl_in fu Aa.fD 1 x5.fD) fun Ac=>bif (!Ac) then some (true) else obind (d_impl_in fu Aa.fH 1 x5.fH) fun Ab=>bif (!Ab) then some (true) else obind (d_impl_in fu Aa.fGram 1 x5.fGram) fun Ad=>some (!Ad)

def d_slices_IndexFunc_impl_Shelf_impl_Shelf_L1_B (fu:Nat)  (Ab:List Shelf) (f5:Shelf → Option Bool) (k1:Int → Option (Int)) (Aa:Int):Option (Int) :=
  bif (decide (Aa < ((Ab.length:Int)))) then obind (ix Ab Aa) fun Ac=>obind (f5 Ac) fun Ad=>bif Ad then some (Aa) else k1 (w64 (Aa + 1)) else some ((-1))
def d_slices_IndexFunc_impl_Shelf_impl_Shelf_L1 (fu:Nat)  (Aa:List Shelf) (f5:Shelf → Option Bool):Nat → Int → Option (Int)
  | 0=>fun _=>none
  | n + 1=>d_slices_IndexFunc_impl_Shelf_impl_Shelf_L1_B fu Aa f5 (d_slices_IndexFunc_impl_Shelf_impl_Shelf_L1 fu Aa f5 n)

def d_slices_IndexFunc_impl_Shelf_impl_Shelf (fu:Nat) (Aa:List Shelf) (f5:Shelf → Option Bool):Option (Int) :=
  d_slices_IndexFunc_impl_Shelf_impl_Shelf_L1 fu Aa f5 fu 0

def d_slices_ContainsFunc_impl_Shelf_impl_Shelf (fu:Nat) (Ab:List Shelf) (f5:Shelf → Option Bool):Option (Bool) :=
  obind (d_slices_IndexFunc_impl_Shelf_impl_Shelf fu Ab f5) fun Aa=>some (decide (Aa ≥ 0))

def d_impl_ShelvesOk (fu:Nat) (p1:Pallet) (Ac:List Shelf):Option (Bool) :=
  obind (d_impl_PalletOk fu p1) fun Aa=>bif Aa then obind (d_slices_ContainsFunc_impl_Shelf_impl_Shelf fu Ac (fun Ad=>d_impl_ShelvesOk_1 fu Ad p1)) fun Ab=>some (!Ab) else some (false)

def d_impl_LayersOf_J1 (fu:Nat) (k7:List Layer → Int → Option ((List Layer))) (Aa:Int) (Ab:List Layer):Option ((List Layer)) :=
  k7 Ab (w64 (Aa + 1))

def d_impl_LayersOf_J2 (fu:Nat) (k7:List Layer → Int → Option ((List Layer))) (Ag:Int) (Ac:Shelf) (Af:List Layer) (Ad:Int):Option ((List Layer)) :=
  obind (ix Af Ad) fun Ab=>obind (apnd 8 Ab.fShelves (([Ag]:List Int))) fun Ae=>obind (some ((⟨((⟨Ae,Ab.fD,Ab.fH,Ab.fGram⟩:Layer)).fShelves,w64 ((((⟨Ae,Ab.fD,Ab.fH,Ab.fGram⟩:Layer)).fD) + Ac.fD),((⟨Ae,Ab.fD,Ab.fH,Ab.fGram⟩:Layer)).fH,((⟨Ae,Ab.fD,Ab.fH,Ab.fGram⟩:Layer)).fGram⟩:Layer))) fun Aa=>obind (some (setx (setx Af Ad ((⟨Ae,Ab.fD,Ab.fH,Ab.fGram⟩:Layer))) Ad Aa)) fun Aj=>obind (some ((⟨((⟨Aa.fShelves,Aa.fD,if Ac.fH > Aa.fH then Ac.fH else Aa.fH,Aa.fGram⟩:Layer)).fShelves,((⟨Aa.fShelves,Aa.fD,if Ac.fH > Aa.fH then Ac.fH else Aa.fH,Aa.fGram⟩:Layer)).fD,((⟨Aa.fShelves,Aa.fD,if Ac.fH > Aa.fH then Ac.fH else Aa.fH,Aa.fGram⟩:Layer)).fH,w64 ((((⟨Aa.fShelves,Aa.fD,if Ac.fH > Aa.fH then Ac.fH else Aa.fH,Aa.fGram⟩:Layer)).fGram) + Ac.fGram)⟩:Layer))) fun Ai=>obind (some (setx (setx Aj Ad ((⟨Aa.fShelves,Aa.fD,if Ac.fH > Aa.fH then Ac.fH else Aa.fH,Aa.fGram⟩:Layer))) Ad Ai)) fun Ah=>d_impl_LayersOf_J1 fu k7 Ag Ah

def d_impl_LayersOf_L1_B (fu:Nat)  (p1:Pallet) (Ad:List Shelf) (k7:List Layer → Int → Option ((List Layer))) (Aa:List Layer) (Ab:Int):Option ((List Layer)) :=
  bif (decide (Ab < ((Ad.length:Int)))) then obind (ix Ad Ab) fun Ac=>bif (decide ((w64 (((Aa.length:Int)) - 1)) < 0)) then obind (apnd 48 Aa [(⟨[],0,0,0⟩:Layer)]) fun Ag=>d_impl_LayersOf_J2 fu k7 Ab Ac Ag (w64 ((w64 (((Aa.length:Int)) - 1)) + 1)) else obind (ix Aa (w64 (((Aa.length:Int)) - 1))) fun Ae=>bif (decide ((w64 (Ae.fD + Ac.fD)) > p1.fD)) then obind (apnd 48 Aa [(⟨[],0,0,0⟩:Layer)]) fun Af=>d_impl_LayersOf_J2 fu k7 Ab Ac Af (w64 ((w64 (((Aa.length:Int)) - 1)) + 1)) else obind (ix Aa (w64 (((Aa.length:Int)) - 1))) fun Ai=>bif (decide ((w64 (Ae.fGram + Ac.fGram)) > p1.fGram)) then obind (apnd 48 Aa [(⟨[],0,0,0⟩:Layer)]) fun Ah=>d_impl_LayersOf_J2 fu k7 Ab Ac Ah (w64 ((w64 (((Aa.length:Int)) - 1)) + 1)) else d_impl_LayersOf_J2 fu k7 Ab Ac Aa (w64 (((Aa.length:Int)) - 1)) else some (Aa)
def d_impl_LayersOf_L1 (fu:Nat)  (p1:Pallet) (Aa:List Shelf):Nat → List Layer → Int → Option ((List Layer))
  | 0=>fun _ _=>none
  | n + 1=>d_impl_LayersOf_L1_B fu p1 Aa (d_impl_LayersOf_L1 fu p1 Aa n)

def d_impl_LayersOf (fu:Nat) (p1:Pallet) (Aa:List Shelf):Option ((List Layer)) :=
  obind (d_impl_ShelvesOk fu p1 Aa) fun Ab=>bif (!Ab) then some (([]:List Layer)) else d_impl_LayersOf_L1 fu p1 Aa fu (([]:List Layer)) 0

def d_impl_StacksOk_1 (fu:Nat) (x1:Layer) (x5:Pallet):Option (Bool) :=
  obind (d_impl_in fu x1.fD 1 x5.fD) fun Ab=>bif (!Ab) then some (true) else obind (d_impl_in fu x1.fH 1 x5.fH) fun Aa=>bif (!Aa) then some (true) else obind (d_impl_in fu x1.fGram 1 x5.fGram) fun Ac=>some (!Ac)

def d_slices_IndexFunc_impl_Layer_impl_Layer_L1_B (fu:Nat)  (Ab:List Layer) (f5:Layer → Option Bool) (k1:Int → Option (Int)) (Aa:Int):Option (Int) :=
  bif (decide (Aa < ((Ab.length:Int)))) then obind (ix Ab Aa) fun Ac=>obind (f5 Ac) fun Ad=>bif Ad then some (Aa) else k1 (w64 (Aa + 1)) else some ((-1))
def d_slices_IndexFunc_impl_Layer_impl_Layer_L1 (fu:Nat)  (Aa:List Layer) (f5:Layer → Option Bool):Nat → Int → Option (Int)
  | 0=>fun _=>none
  | n + 1=>d_slices_IndexFunc_impl_Layer_impl_Layer_L1_B fu Aa f5 (d_slices_IndexFunc_impl_Layer_impl_Layer_L1 fu Aa f5 n)

def d_slices_IndexFunc_impl_Layer_impl_Layer (fu:Nat) (Aa:List Layer) (f5:Layer → Option Bool):Option (Int) :=
  d_slices_IndexFunc_impl_Layer_impl_Layer_L1 fu Aa f5 fu 0

def d_slices_ContainsFunc_impl_Layer_impl_Layer (fu:Nat) (Ab:List Layer) (f5:Layer → Option Bool):Option (Bool) :=
  obind (d_slices_IndexFunc_impl_Layer_impl_Layer fu Ab f5) fun Aa=>some (decide (Aa ≥ 0))

def d_impl_StacksOk (fu:Nat) (p1:Pallet) (Ac:List Layer):Option (Bool) :=
  obind (d_impl_PalletOk fu p1) fun Aa=>bif Aa then obind (d_slices_ContainsFunc_impl_Layer_impl_Layer fu Ac (fun Ad=>d_impl_StacksOk_1 fu Ad p1)) fun Ab=>some (!Ab) else some (false)

def d_impl_LoadsOf_J1 (fu:Nat) (k7:List Load → Int → Option ((List Load))) (Ab:Int) (Aa:List Load):Option ((List Load)) :=
  k7 Aa (w64 (Ab + 1))

def d_impl_LoadsOf_J2 (fu:Nat) (k7:List Load → Int → Option ((List Load))) (Af:Int) (Ag:Layer) (Ae:List Load) (Ab:Int):Option ((List Load)) :=
  obind (ix Ae Ab) fun Aa=>obind (apnd 8 Aa.fLayers (([Af]:List Int))) fun Ac=>obind (some ((⟨((⟨Ac,Aa.fH,Aa.fGram⟩:Load)).fLayers,w64 ((((⟨Ac,Aa.fH,Aa.fGram⟩:Load)).fH) + Ag.fH),((⟨Ac,Aa.fH,Aa.fGram⟩:Load)).fGram⟩:Load))) fun Ad=>obind (some (setx (setx Ae Ab ((⟨Ac,Aa.fH,Aa.fGram⟩:Load))) Ab Ad)) fun Ah=>d_impl_LoadsOf_J1 fu k7 Af (setx Ah Ab ((⟨Ad.fLayers,Ad.fH,w64 (Ad.fGram + Ag.fGram)⟩:Load)))

def d_impl_LoadsOf_L1_B (fu:Nat)  (p1:Pallet) (Ad:List Layer) (k7:List Load → Int → Option ((List Load))) (Aa:List Load) (Ab:Int):Option ((List Load)) :=
  bif (decide (Ab < ((Ad.length:Int)))) then obind (ix Ad Ab) fun Ac=>bif (decide ((w64 (((Aa.length:Int)) - 1)) < 0)) then obind (apnd 40 Aa [(⟨[],0,0⟩:Load)]) fun Ah=>d_impl_LoadsOf_J2 fu k7 Ab Ac Ah (w64 ((w64 (((Aa.length:Int)) - 1)) + 1)) else obind (ix Aa (w64 (((Aa.length:Int)) - 1))) fun Ae=>bif (decide ((w64 (Ae.fH + Ac.fH)) > p1.fH)) then obind (apnd 40 Aa [(⟨[],0,0⟩:Load)]) fun Af=>d_impl_LoadsOf_J2 fu k7 Ab Ac Af (w64 ((w64 (((Aa.length:Int)) - 1)) + 1)) else obind (ix Aa (w64 (((Aa.length:Int)) - 1))) fun Ai=>bif (decide ((w64 (Ae.fGram + Ac.fGram)) > p1.fGram)) then obind (apnd 40 Aa [(⟨[],0,0⟩:Load)]) fun Ag=>d_impl_LoadsOf_J2 fu k7 Ab Ac Ag (w64 ((w64 (((Aa.length:Int)) - 1)) + 1)) else d_impl_LoadsOf_J2 fu k7 Ab Ac Aa (w64 (((Aa.length:Int)) - 1)) else some (Aa)
def d_impl_LoadsOf_L1 (fu:Nat)  (p1:Pallet) (Aa:List Layer):Nat → List Load → Int → Option ((List Load))
  | 0=>fun _ _=>none
  | n + 1=>d_impl_LoadsOf_L1_B fu p1 Aa (d_impl_LoadsOf_L1 fu p1 Aa n)

def d_impl_LoadsOf (fu:Nat) (p1:Pallet) (Aa:List Layer):Option ((List Load)) :=
  obind (d_impl_StacksOk fu p1 Aa) fun Ab=>bif (!Ab) then some (([]:List Load)) else d_impl_LoadsOf_L1 fu p1 Aa fu (([]:List Load)) 0

def d_impl_SpotsOf_L1_B (fu:Nat) (Ao:List Spot → Int → Int → Option ((List Spot))) (Ap:List Box) (Ai:(List Shelf)) (Ak:Int) (Ah:Int) (Ae:Int) (Ag:Int) (Aj:Int) (Ad:Shelf) (Aq:List Spot → Int → Int → Option ((List Spot))) (Ac:List Spot) (Af:Int) (Aa:Int):Option ((List Spot)) :=
  bif (decide (Aa < ((Ad.fList.length:Int)))) then obind (ix Ad.fList Aa) fun Ab=>obind (ix Ac Ab) fun Ar=>obind (ix Ap Ab) fun Am=>Aq (setx Ac Ab ((⟨Ak,Af,Ae,Ah⟩:Spot))) (w64 (Af + Am.fW)) (w64 (Aa + 1)) else obind (ix Ai Aj) fun Al=>Ao Ac (w64 (Ae + Al.fD)) (w64 (Ag + 1))
def d_impl_SpotsOf_L1 (fu:Nat) (Ag:List Spot → Int → Int → Option ((List Spot))) (Ah:List Box) (Ac:(List Shelf)) (Ae:Int) (Ab:Int) (Ai:Int) (Aa:Int) (Ad:Int) (Af:Shelf):Nat → List Spot → Int → Int → Option ((List Spot))
  | 0=>fun _ _ _=>none
  | n + 1=>d_impl_SpotsOf_L1_B fu Ag Ah Ac Ae Ab Ai Aa Ad Af (d_impl_SpotsOf_L1 fu Ag Ah Ac Ae Ab Ai Aa Ad Af n)

def d_impl_SpotsOf_L2_B (fu:Nat) (Ap:List Spot → Int → Int → Option ((List Spot))) (Aj:List Box) (Ac:(List Shelf)) (Ak:(List Layer)) (Ah:Int) (Ab:Int) (Al:Int) (Aq:Int) (Ad:Layer) (Ai:List Spot → Int → Int → Option ((List Spot))) (Af:List Spot) (Ao:Int) (Aa:Int):Option ((List Spot)) :=
  bif (decide (Aa < ((Ad.fShelves.length:Int)))) then obind (ix Ad.fShelves Aa) fun Ae=>obind (ix Ac Ae) fun Ag=>d_impl_SpotsOf_L1 fu Ai Aj Ac Ah Ab Ao Aa Ae Ag fu Af 0 0 else obind (ix Ak Aq) fun Am=>Ap Af (w64 (Ab + Am.fH)) (w64 (Al + 1))
def d_impl_SpotsOf_L2 (fu:Nat) (Ah:List Spot → Int → Int → Option ((List Spot))) (Ae:List Box) (Ab:(List Shelf)) (Af:(List Layer)) (Ad:Int) (Aa:Int) (Ag:Int) (Ai:Int) (Ac:Layer):Nat → List Spot → Int → Int → Option ((List Spot))
  | 0=>fun _ _ _=>none
  | n + 1=>d_impl_SpotsOf_L2_B fu Ah Ae Ab Af Ad Aa Ag Ai Ac (d_impl_SpotsOf_L2 fu Ah Ae Ab Af Ad Aa Ag Ai Ac n)

def d_impl_SpotsOf_L3_B (fu:Nat) (Ak:List Spot → Int → Option ((List Spot))) (Aj:List Box) (Ah:(List Shelf)) (Ad:(List Layer)) (Ac:Int) (Ab:Load) (Al:List Spot → Int → Int → Option ((List Spot))) (Ae:List Spot) (Ag:Int) (Aa:Int):Option ((List Spot)) :=
  bif (decide (Aa < ((Ab.fLayers.length:Int)))) then obind (ix Ab.fLayers Aa) fun Af=>obind (ix Ad Af) fun Ai=>d_impl_SpotsOf_L2 fu Al Aj Ah Ad Ac Ag Aa Af Ai fu Ae 0 0 else Ak Ae (w64 (Ac + 1))
def d_impl_SpotsOf_L3 (fu:Nat) (Ae:List Spot → Int → Option ((List Spot))) (Ad:List Box) (Ab:(List Shelf)) (Af:(List Layer)) (Ac:Int) (Aa:Load):Nat → List Spot → Int → Int → Option ((List Spot))
  | 0=>fun _ _ _=>none
  | n + 1=>d_impl_SpotsOf_L3_B fu Ae Ad Ab Af Ac Aa (d_impl_SpotsOf_L3 fu Ae Ad Ab Af Ac Aa n)

def d_impl_SpotsOf_L4_B (fu:Nat)  (Af:List Box) (Ae:(List Shelf)) (Ah:(List Layer)) (Ab:(List Load)) (Ag:List Spot → Int → Option ((List Spot))) (Ac:List Spot) (Aa:Int):Option ((List Spot)) :=
  bif (decide (Aa < ((Ab.length:Int)))) then obind (ix Ab Aa) fun Ad=>d_impl_SpotsOf_L3 fu Ag Af Ae Ah Aa Ad fu Ac 0 0 else some (Ac)
def d_impl_SpotsOf_L4 (fu:Nat)  (Ac:List Box) (Ab:(List Shelf)) (Aa:(List Layer)) (Ad:(List Load)):Nat → List Spot → Int → Option ((List Spot))
  | 0=>fun _ _=>none
  | n + 1=>d_impl_SpotsOf_L4_B fu Ac Ab Aa Ad (d_impl_SpotsOf_L4 fu Ac Ab Aa Ad n)

def d_impl_SpotsOf (fu:Nat) (p1:Pallet) (Aa:List Box):Option ((List Spot)) :=
  obind (d_impl_BoxesOk fu p1 Aa) fun Ae=>bif (!Ae) then some (([]:List Spot)) else obind (d_impl_Shelves fu p1 Aa) fun Ab=>obind (d_impl_LayersOf fu p1 Ab) fun Ac=>obind (mk 32 (⟨(0:Int),(0:Int),(0:Int),(0:Int)⟩:Spot) ((Aa.length:Int))) fun Af=>obind (d_impl_LoadsOf fu p1 Ac) fun Ad=>d_impl_SpotsOf_L4 fu Aa Ab Ac Ad fu Af 0

def d_impl_Pallets_J1 (fu:Nat) (k3:Int → Int → Option (Int)) (Ab:Int) (Aa:Int):Option (Int) :=
  k3 Aa (w64 (Ab + 1))

def d_impl_Pallets_L1_B (fu:Nat)  (Ad:List Spot) (k3:Int → Int → Option (Int)) (Ab:Int) (Aa:Int):Option (Int) :=
  bif (decide (Aa < ((Ad.length:Int)))) then obind (ix Ad Aa) fun Ac=>obind (d_impl_in fu Ac.fPallet 0 999999) fun Ae=>bif Ae then d_impl_Pallets_J1 fu k3 Aa (if (w64 (Ac.fPallet + 1)) > Ab then w64 (Ac.fPallet + 1) else Ab) else d_impl_Pallets_J1 fu k3 Aa Ab else some (Ab)
def d_impl_Pallets_L1 (fu:Nat)  (Aa:List Spot):Nat → Int → Int → Option (Int)
  | 0=>fun _ _=>none
  | n + 1=>d_impl_Pallets_L1_B fu Aa (d_impl_Pallets_L1 fu Aa n)

def d_impl_Pallets (fu:Nat) (Aa:List Spot):Option (Int) :=
  d_impl_Pallets_L1 fu Aa fu 0 0

def d_impl_PlanOf_J1 (fu:Nat) (Aa:List Box → Int → Option (Plan × Bool)) (Ab:Int) (Ac:List Box):Option (Plan × Bool) :=
  Aa Ac (w64 (Ab + 1))

def d_impl_PlanOf_L1_B (fu:Nat) (Ag:List Spot → Int → Int → Option (Plan × Bool)) (Ad:Int) (Ai:Int) (Ae:(List Spot)) (Ah:Int) (Af:List Spot → Int → Option (Plan × Bool)) (Ac:List Spot) (Ab:Int):Option (Plan × Bool) :=
  bif (decide (Ab < ((Ae.length:Int)))) then obind (ix Ae Ab) fun Aa=>obind (apnd 32 Ac (([(⟨w64 (Aa.fPallet + Ad),Aa.fX,Aa.fY,Aa.fZ⟩:Spot)]:List Spot))) fun Aj=>Af Aj (w64 (Ab + 1)) else Ag Ac (w64 (Ad + Ah)) (w64 (Ai + 1))
def d_impl_PlanOf_L1 (fu:Nat) (Aa:List Spot → Int → Int → Option (Plan × Bool)) (Ad:Int) (Ac:Int) (Ae:(List Spot)) (Ab:Int):Nat → List Spot → Int → Option (Plan × Bool)
  | 0=>fun _ _=>none
  | n + 1=>d_impl_PlanOf_L1_B fu Aa Ad Ac Ae Ab (d_impl_PlanOf_L1 fu Aa Ad Ac Ae Ab n)

def d_impl_PlanOf_L2_B (fu:Nat) (Ah:List Spot → Int → Int → Option (Plan × Bool)) (r1:Request) (Af:(List Carton)) (Am:List Spot) (Al:Int) (Ad:Int) (Ac:List Box → Int → Option (Plan × Bool)) (Ab:List Box) (Aa:Int):Option (Plan × Bool) :=
  bif (decide (Aa < ((Af.length:Int)))) then obind (ix Af Aa) fun Ae=>bif (Ae.fGroup == Ad) then obind (d_impl_BoxOf fu r1 Ae) fun Aj=>obind (apnd 32 Ab (([Aj]:List Box))) fun Ak=>d_impl_PlanOf_J1 fu Ac Aa Ak else d_impl_PlanOf_J1 fu Ac Aa Ab else obind (d_impl_SpotsOf fu r1.fPallet Ab) fun Ag=>obind (d_impl_Pallets fu Ag) fun Ai=>d_impl_PlanOf_L1 fu Ah Al Ad Ag Ai fu Am 0
def d_impl_PlanOf_L2 (fu:Nat) (Aa:List Spot → Int → Int → Option (Plan × Bool)) (r1:Request) (Ac:(List Carton)) (Ae:List Spot) (Ad:Int) (Ab:Int):Nat → List Box → Int → Option (Plan × Bool)
  | 0=>fun _ _=>none
  | n + 1=>d_impl_PlanOf_L2_B fu Aa r1 Ac Ae Ad Ab (d_impl_PlanOf_L2 fu Aa r1 Ac Ae Ad Ab n)

def d_impl_PlanOf_L3_B (fu:Nat)  (r1:Request) (Ab:(List Carton)) (Af:(List (List Int))) (Ad:List Spot → Int → Int → Option (Plan × Bool)) (Ac:List Spot) (Ae:Int) (Aa:Int):Option (Plan × Bool) :=
  bif (decide (Aa < ((Af.length:Int)))) then d_impl_PlanOf_L2 fu Ad r1 Ab Ac Ae Aa fu (([]:List Box)) 0 else some ((⟨Ab,Ac⟩:Plan),true)
def d_impl_PlanOf_L3 (fu:Nat)  (r1:Request) (Ab:(List Carton)) (Aa:(List (List Int))):Nat → List Spot → Int → Int → Option (Plan × Bool)
  | 0=>fun _ _ _=>none
  | n + 1=>d_impl_PlanOf_L3_B fu r1 Ab Aa (d_impl_PlanOf_L3 fu r1 Ab Aa n)

def d_impl_PlanOf (fu:Nat) (r1:Request):Option (Plan × Bool) :=
  obind (d_impl_sound fu r1) fun Aa=>bif (!Aa) then some ((⟨[],[]⟩:Plan),false) else obind (d_impl_CartonsOf fu r1) fun Ac=>obind (d_impl_GroupsOf fu r1) fun Ab=>d_impl_PlanOf_L3 fu r1 Ac Ab fu (([]:List Spot)) 0 0

def d_impl_unitsRight_J1 (fu:Nat) (k3:Int → Option (Bool)) (Aa:Int)  : Option (Bool) :=
  k3 (w64 (Aa + 1))

def d_impl_unitsRight_L1_B (fu:Nat)  (Ab:List Int) (k3:Int → Option (Bool)) (Aa:Int):Option (Bool) :=
  bif (decide (Aa < ((Ab.length:Int)))) then obind (ix Ab Aa) fun Ac=>obind (d_impl_in fu Ac 0 999) fun Ad=>bif (!Ad) then some (false) else bif (decide (Aa > 0)) then obind (ix Ab (w64 (Aa - 1))) fun Ae=>bif (decide (Ae ≥ Ac)) then some (false) else d_impl_unitsRight_J1 fu k3 Aa else d_impl_unitsRight_J1 fu k3 Aa else some (decide (((Ab.length:Int)) ≤ 100))
def d_impl_unitsRight_L1 (fu:Nat)  (Aa:List Int):Nat → Int → Option (Bool)
  | 0=>fun _=>none
  | n + 1=>d_impl_unitsRight_L1_B fu Aa (d_impl_unitsRight_L1 fu Aa n)

def d_impl_unitsRight (fu:Nat) (Aa:List Int):Option (Bool) :=
  d_impl_unitsRight_L1 fu Aa fu 0

def d_impl_isPlace (fu:Nat) (n1:Int):Option (Bool) :=
  obind (d_impl_in fu n1 0 2000) fun x2=>some (x2)

def d_impl_PlanOk_J1 (fu:Nat) (k4:Int → Option (Bool)) (Aa:Int)  : Option (Bool) :=
  k4 (w64 (Aa + 1))

def d_impl_PlanOk_L1_B (fu:Nat)  (x1:Plan) (k4:Int → Option (Bool)) (Ab:Int):Option (Bool) :=
  bif (decide (Ab < ((x1.fCartons.length:Int)))) then obind (ix x1.fCartons Ab) fun Ac=>obind (ix x1.fSpots Ab) fun Aa=>obind (d_impl_in fu Ac.fType 0 999) fun Af=>bif (!Af) then some (false) else obind (d_impl_in fu Ac.fGroup 0 3) fun Ah=>bif (!Ah) then some (false) else obind (d_impl_unitsRight fu Ac.fUnits) fun Ad=>bif (!Ad) then some (false) else obind (d_impl_isPlace fu Aa.fPallet) fun Ae=>bif (!Ae) then some (false) else obind (d_impl_isPlace fu Aa.fX) fun Ag=>bif (!Ag) then some (false) else obind (d_impl_isPlace fu Aa.fY) fun Ai=>bif (!Ai) then some (false) else obind (d_impl_isPlace fu Aa.fZ) fun Aj=>bif (!Aj) then some (false) else d_impl_PlanOk_J1 fu k4 Ab else some (true)
def d_impl_PlanOk_L1 (fu:Nat)  (x1:Plan):Nat → Int → Option (Bool)
  | 0=>fun _=>none
  | n + 1=>d_impl_PlanOk_L1_B fu x1 (d_impl_PlanOk_L1 fu x1 n)

def d_impl_PlanOk_J2 (fu:Nat) (x1:Plan)  : Option (Bool) :=
  d_impl_PlanOk_L1 fu x1 fu 0

def d_impl_PlanOk (fu:Nat) (x1:Plan):Option (Bool) :=
  bif (((x1.fSpots.length:Int)) != ((x1.fCartons.length:Int))) then some (false) else bif (decide (((x1.fCartons.length:Int)) > 100)) then some (false) else d_impl_PlanOk_J2 fu x1

def d_slices_IndexFunc_impl_Carton_impl_Carton_L1_B (fu:Nat)  (Ab:List Carton) (f5:Carton → Option Bool) (k1:Int → Option (Int)) (Aa:Int):Option (Int) :=
  bif (decide (Aa < ((Ab.length:Int)))) then obind (ix Ab Aa) fun Ac=>obind (f5 Ac) fun Ad=>bif Ad then some (Aa) else k1 (w64 (Aa + 1)) else some ((-1))
def d_slices_IndexFunc_impl_Carton_impl_Carton_L1 (fu:Nat)  (Aa:List Carton) (f5:Carton → Option Bool):Nat → Int → Option (Int)
  | 0=>fun _=>none
  | n + 1=>d_slices_IndexFunc_impl_Carton_impl_Carton_L1_B fu Aa f5 (d_slices_IndexFunc_impl_Carton_impl_Carton_L1 fu Aa f5 n)

def d_slices_IndexFunc_impl_Carton_impl_Carton (fu:Nat) (Aa:List Carton) (f5:Carton → Option Bool):Option (Int) :=
  d_slices_IndexFunc_impl_Carton_impl_Carton_L1 fu Aa f5 fu 0

def d_slices_ContainsFunc_impl_Carton_impl_Carton (fu:Nat) (Ab:List Carton) (f5:Carton → Option Bool):Option (Bool) :=
  obind (d_slices_IndexFunc_impl_Carton_impl_Carton fu Ab f5) fun Aa=>some (decide (Aa ≥ 0))

def d_impl_Check_1 (fu:Nat) (c1:Carton):Option (Bool) :=
  some (((c1.fUnits.length:Int)) == 0)

def d_impl_allUnits_L1_B (fu:Nat)  (x1:Plan) (k1:List Int → Int → Option ((List Int))) (Ab:List Int) (Aa:Int):Option ((List Int)) :=
  bif (decide (Aa < ((x1.fCartons.length:Int)))) then obind (ix x1.fCartons Aa) fun Ad=>obind (apnd 8 Ab Ad.fUnits) fun Ac=>k1 Ac (w64 (Aa + 1)) else some (Ab)
def d_impl_allUnits_L1 (fu:Nat)  (x1:Plan):Nat → List Int → Int → Option ((List Int))
  | 0=>fun _ _=>none
  | n + 1=>d_impl_allUnits_L1_B fu x1 (d_impl_allUnits_L1 fu x1 n)

def d_impl_allUnits (fu:Nat) (x1:Plan):Option ((List Int)) :=
  d_impl_allUnits_L1 fu x1 fu (([]:List Int)) 0

def d_slices_Equal_int_int_L1_B (fu:Nat)  (Ab:List Int) (Ae:List Int) (k1:Int → Option (Bool)) (Aa:Int):Option (Bool) :=
  bif (decide (Aa < ((Ab.length:Int)))) then obind (ix Ab Aa) fun Ad=>obind (ix Ae Aa) fun Ac=>bif (Ad != Ac) then some (false) else k1 (w64 (Aa + 1)) else some (true)
def d_slices_Equal_int_int_L1 (fu:Nat)  (Ab:List Int) (Aa:List Int):Nat → Int → Option (Bool)
  | 0=>fun _=>none
  | n + 1=>d_slices_Equal_int_int_L1_B fu Ab Aa (d_slices_Equal_int_int_L1 fu Ab Aa n)

def d_slices_Equal_int_int (fu:Nat) (Ab:List Int) (Aa:List Int):Option (Bool) :=
  bif (((Ab.length:Int)) != ((Aa.length:Int))) then some (false) else d_slices_Equal_int_int_L1 fu Ab Aa fu 0

def d_impl_cartonFault_1 (fu:Nat) (y1:Item) (x2:Carton) (x8:List (List Int)):Option (Bool) :=
  bif (decide (x2.fGroup ≥ ((x8.length:Int)))) then some (true) else obind (ix x8 x2.fGroup) fun Aa=>obind (d_slices_Contains_int_int fu Aa y1.fClass) fun Ab=>some (!Ab)

def d_impl_cartonFault_J1 (fu:Nat) (k3:Int → Option (Int)) (Aa:Int)  : Option (Int) :=
  k3 (w64 (Aa + 1))

def d_impl_cartonFault_L1_B (fu:Nat)  (r1:Request) (x5:Plan) (k6:Int → Option (Int)) (Aa:Int):Option (Int) :=
  bif (decide (Aa < ((x5.fCartons.length:Int)))) then obind (ix x5.fCartons Aa) fun Ab=>obind (d_impl_Cheapest fu r1 Ab.fUnits) fun Ac=>bif (Ac.1.fId != Ab.fType) then some (6) else k6 (w64 (Aa + 1)) else some (0)
def d_impl_cartonFault_L1 (fu:Nat)  (r1:Request) (x5:Plan):Nat → Int → Option (Int)
  | 0=>fun _=>none
  | n + 1=>d_impl_cartonFault_L1_B fu r1 x5 (d_impl_cartonFault_L1 fu r1 x5 n)

def d_impl_cartonFault_L2_B (fu:Nat)  (r1:Request) (x5:Plan) (Ae:(List (List Int))) (k5:Int → Option (Int)) (Aa:Int):Option (Int) :=
  bif (decide (Aa < ((x5.fCartons.length:Int)))) then obind (ix x5.fCartons Aa) fun Ab=>obind (d_impl_itemsOf fu r1 Ab.fUnits) fun Ac=>obind (d_slices_ContainsFunc_impl_Item_impl_Item fu Ac (fun Ad=>d_impl_cartonFault_1 fu Ad Ab Ae)) fun Af=>bif Af then some (5) else k5 (w64 (Aa + 1)) else d_impl_cartonFault_L1 fu r1 x5 fu 0
def d_impl_cartonFault_L2 (fu:Nat)  (r1:Request) (x5:Plan) (Aa:(List (List Int))):Nat → Int → Option (Int)
  | 0=>fun _=>none
  | n + 1=>d_impl_cartonFault_L2_B fu r1 x5 Aa (d_impl_cartonFault_L2 fu r1 x5 Aa n)

def d_impl_cartonFault_L3_B (fu:Nat)  (r1:Request) (x5:Plan) (k3:Int → Option (Int)) (Aa:Int):Option (Int) :=
  bif (decide (Aa < ((x5.fCartons.length:Int)))) then obind (ix x5.fCartons Aa) fun Ab=>obind (d_impl_TypeById fu r1 Ab.fType) fun Ac=>bif (!Ac.2) then some (4) else obind (d_impl_Holds fu r1 Ab.fUnits Ac.1) fun Ad=>bif (!Ad) then some (4) else d_impl_cartonFault_J1 fu k3 Aa else obind (d_impl_GroupsOf fu r1) fun Ae=>d_impl_cartonFault_L2 fu r1 x5 Ae fu 0
def d_impl_cartonFault_L3 (fu:Nat)  (r1:Request) (x5:Plan):Nat → Int → Option (Int)
  | 0=>fun _=>none
  | n + 1=>d_impl_cartonFault_L3_B fu r1 x5 (d_impl_cartonFault_L3 fu r1 x5 n)

def d_impl_cartonFault (fu:Nat) (r1:Request) (x5:Plan):Option (Int) :=
  d_impl_cartonFault_L3 fu r1 x5 fu 0

def d_impl_Within_J1 (fu:Nat) (p1:Pallet) (b2:Box) (Aa:Spot)  : Option (Bool) :=
  bif (decide ((w64 (Aa.fX + b2.fW)) ≤ p1.fW)) then bif (decide ((w64 (Aa.fY + b2.fD)) ≤ p1.fD)) then some (decide ((w64 (Aa.fZ + b2.fH)) ≤ p1.fH)) else some (false) else some (false)

def d_impl_Within (fu:Nat) (p1:Pallet) (b2:Box) (Aa:Spot):Option (Bool) :=
  obind (d_impl_isPlace fu Aa.fX) fun Ab=>bif (!Ab) then some (false) else obind (d_impl_isPlace fu Aa.fY) fun Af=>bif (!Af) then some (false) else obind (d_impl_isPlace fu Aa.fZ) fun Ac=>bif (!Ac) then some (false) else obind (d_impl_isSide fu b2.fW) fun Ae=>bif (!Ae) then some (false) else obind (d_impl_isSide fu b2.fD) fun Ag=>bif (!Ag) then some (false) else obind (d_impl_isSide fu b2.fH) fun Ad=>bif (!Ad) then some (false) else d_impl_Within_J1 fu p1 b2 Aa

def d_impl_placed (fu:Nat) (b1:Box) (Aa:Spot):Option (Bool) :=
  obind (d_impl_isPlace fu b1.fW) fun Af=>bif Af then obind (d_impl_isPlace fu b1.fD) fun Ac=>bif Ac then obind (d_impl_isPlace fu b1.fH) fun Ab=>bif Ab then obind (d_impl_isPlace fu Aa.fX) fun Ad=>bif Ad then obind (d_impl_isPlace fu Aa.fY) fun Ag=>bif Ag then obind (d_impl_isPlace fu Aa.fZ) fun Ae=>some (Ae) else some (false) else some (false) else some (false) else some (false) else some (false)

def d_impl_cross (fu:Nat) (a1:Int) (Aa:Int) (b3:Int) (Ab:Int):Option (Bool) :=
  bif (decide (a1 < (w64 (b3 + Ab)))) then some (decide (b3 < (w64 (a1 + Aa)))) else some (false)

def d_impl_Overlap_J1 (fu:Nat) (a1:Box) (Aa:Spot) (b3:Box) (t4:Spot)  : Option (Bool) :=
  obind (d_impl_cross fu Aa.fX a1.fW t4.fX b3.fW) fun Ac=>bif Ac then obind (d_impl_cross fu Aa.fY a1.fD t4.fY b3.fD) fun Ab=>bif Ab then obind (d_impl_cross fu Aa.fZ a1.fH t4.fZ b3.fH) fun Ad=>some (Ad) else some (false) else some (false)

def d_impl_Overlap (fu:Nat) (a1:Box) (Aa:Spot) (b3:Box) (t4:Spot):Option (Bool) :=
  obind (d_impl_placed fu a1 Aa) fun Ab=>bif (!Ab) then some (false) else obind (d_impl_placed fu b3 t4) fun Ac=>bif (!Ac) then some (false) else bif (Aa.fPallet != t4.fPallet) then some (false) else d_impl_Overlap_J1 fu a1 Aa b3 t4

def d_impl_OnPallet_J1 (fu:Nat) (k3:List Int → Int → Option ((List Int))) (Ab:Int) (Aa:List Int):Option ((List Int)) :=
  k3 Aa (w64 (Ab + 1))

def d_impl_OnPallet_L1_B (fu:Nat)  (x1:Plan) (Ad:Int) (k3:List Int → Int → Option ((List Int))) (Ab:List Int) (Aa:Int):Option ((List Int)) :=
  bif (decide (Aa < ((x1.fSpots.length:Int)))) then obind (ix x1.fSpots Aa) fun Ac=>bif (Ac.fPallet == Ad) then obind (apnd 8 Ab (([Aa]:List Int))) fun Ae=>d_impl_OnPallet_J1 fu k3 Aa Ae else d_impl_OnPallet_J1 fu k3 Aa Ab else some (Ab)
def d_impl_OnPallet_L1 (fu:Nat)  (x1:Plan) (Aa:Int):Nat → List Int → Int → Option ((List Int))
  | 0=>fun _ _=>none
  | n + 1=>d_impl_OnPallet_L1_B fu x1 Aa (d_impl_OnPallet_L1 fu x1 Aa n)

def d_impl_OnPallet (fu:Nat) (x1:Plan) (Aa:Int):Option ((List Int)) :=
  bif (((x1.fSpots.length:Int)) != ((x1.fCartons.length:Int))) then some (([]:List Int)) else d_impl_OnPallet_L1 fu x1 Aa fu (([]:List Int)) 0

def d_impl_PalletGram_L1_B (fu:Nat)  (r1:Request) (x5:Plan) (Ab:(List Int)) (k1:Int → Int → Option (Int)) (Ac:Int) (Aa:Int):Option (Int) :=
  bif (decide (Aa < ((Ab.length:Int)))) then obind (ix Ab Aa) fun Ae=>obind (ix x5.fCartons Ae) fun Af=>obind (d_impl_Gross fu r1 Af) fun Ad=>k1 (w64 (Ac + Ad)) (w64 (Aa + 1)) else some (Ac)
def d_impl_PalletGram_L1 (fu:Nat)  (r1:Request) (x5:Plan) (Aa:(List Int)):Nat → Int → Int → Option (Int)
  | 0=>fun _ _=>none
  | n + 1=>d_impl_PalletGram_L1_B fu r1 x5 Aa (d_impl_PalletGram_L1 fu r1 x5 Aa n)

def d_impl_PalletGram (fu:Nat) (r1:Request) (x5:Plan) (Ab:Int):Option (Int) :=
  obind (d_impl_OnPallet fu x5 Ab) fun Aa=>d_impl_PalletGram_L1 fu r1 x5 Aa fu 0 0

def d_impl_spotFault_1 (fu:Nat) (i1:Int) (x2:Plan) (Aa:List Int):Option (Bool) :=
  obind (ix x2.fCartons i1) fun Ab=>obind (ix Aa 0) fun Ac=>obind (ix x2.fCartons Ac) fun Ad=>some (Ab.fGroup != Ad.fGroup)

def d_impl_spotFault_L1_B (fu:Nat) (k4:Int → Option (Int)) (x5:Plan) (Ac:List Box) (Ab:Int) (k5:Int → Option (Int)) (Aa:Int):Option (Int) :=
  bif (decide (Aa < Ab)) then obind (ix Ac Ab) fun Ag=>obind (ix x5.fSpots Ab) fun Af=>obind (ix Ac Aa) fun Ah=>obind (ix x5.fSpots Aa) fun Ae=>obind (d_impl_Overlap fu Ag Af Ah Ae) fun Ad=>bif Ad then some (8) else k5 (w64 (Aa + 1)) else k4 (w64 (Ab + 1))
def d_impl_spotFault_L1 (fu:Nat) (k4:Int → Option (Int)) (x5:Plan) (Aa:List Box) (Ab:Int):Nat → Int → Option (Int)
  | 0=>fun _=>none
  | n + 1=>d_impl_spotFault_L1_B fu k4 x5 Aa Ab (d_impl_spotFault_L1 fu k4 x5 Aa Ab n)

def d_impl_spotFault_J1 (fu:Nat) (Aa:Int → Option (Int)) (Ab:Int)  : Option (Int) :=
  Aa (w64 (Ab + 1))

def d_impl_spotFault_J2 (fu:Nat) (Ad:Int → Option (Int)) (x5:Plan) (Ae:Int) (Aa:(List Int))  : Option (Int) :=
  obind (d_slices_ContainsFunc_int_int fu Aa (fun Ac=>d_impl_spotFault_1 fu Ac x5 Aa)) fun Ab=>bif Ab then some (9) else d_impl_spotFault_J1 fu Ad Ae

def d_impl_spotFault_L2_B (fu:Nat)  (r1:Request) (x5:Plan) (Ae:Int) (Ac:Int → Option (Int)) (Aa:Int):Option (Int) :=
  bif (decide (Aa < Ae)) then obind (d_impl_OnPallet fu x5 Aa) fun Ab=>bif (((Ab.length:Int)) == 0) then some (9) else obind (d_impl_PalletGram fu r1 x5 Aa) fun Ad=>bif (decide (Ad > r1.fPallet.fGram)) then some (9) else d_impl_spotFault_J2 fu Ac x5 Aa Ab else some (0)
def d_impl_spotFault_L2 (fu:Nat)  (r1:Request) (x5:Plan) (Aa:Int):Nat → Int → Option (Int)
  | 0=>fun _=>none
  | n + 1=>d_impl_spotFault_L2_B fu r1 x5 Aa (d_impl_spotFault_L2 fu r1 x5 Aa n)

def d_impl_spotFault_L3_B (fu:Nat)  (r1:Request) (x5:Plan) (Aa:List Box) (k4:Int → Option (Int)) (Ab:Int):Option (Int) :=
  bif (decide (Ab < ((Aa.length:Int)))) then d_impl_spotFault_L1 fu k4 x5 Aa Ab fu 0 else obind (d_impl_Pallets fu x5.fSpots) fun Ac=>d_impl_spotFault_L2 fu r1 x5 Ac fu 0
def d_impl_spotFault_L3 (fu:Nat)  (r1:Request) (x5:Plan) (Aa:List Box):Nat → Int → Option (Int)
  | 0=>fun _=>none
  | n + 1=>d_impl_spotFault_L3_B fu r1 x5 Aa (d_impl_spotFault_L3 fu r1 x5 Aa n)

def d_impl_spotFault_L4_B (fu:Nat)  (r1:Request) (x5:Plan) (k1:List Box → Int → Option (Int)) (Ab:List Box) (Aa:Int):Option (Int) :=
  bif (decide (Aa < ((x5.fCartons.length:Int)))) then obind (ix x5.fCartons Aa) fun Ae=>obind (d_impl_BoxOf fu r1 Ae) fun Ac=>obind (ix x5.fSpots Aa) fun Af=>obind (d_impl_Within fu r1.fPallet Ac Af) fun Ad=>bif (!Ad) then some (7) else obind (apnd 32 Ab (([Ac]:List Box))) fun Ag=>k1 Ag (w64 (Aa + 1)) else d_impl_spotFault_L3 fu r1 x5 Ab fu 0
def d_impl_spotFault_L4 (fu:Nat)  (r1:Request) (x5:Plan):Nat → List Box → Int → Option (Int)
  | 0=>fun _ _=>none
  | n + 1=>d_impl_spotFault_L4_B fu r1 x5 (d_impl_spotFault_L4 fu r1 x5 n)

def d_impl_spotFault (fu:Nat) (r1:Request) (x5:Plan):Option (Int) :=
  d_impl_spotFault_L4 fu r1 x5 fu (([]:List Box)) 0

def d_impl_Check_J1 (fu:Nat) (r1:Request) (x5:Plan)  : Option (Int) :=
  obind (d_impl_allUnits fu x5) fun Ab=>obind (d_slices_Sort_int_int fu Ab) fun Ad=>obind (d_impl_Units fu r1) fun Ae=>obind (d_impl_places fu ((Ae.length:Int))) fun Ac=>obind (d_slices_Equal_int_int fu Ad Ac) fun Ag=>bif (!Ag) then some (3) else obind (d_impl_cartonFault fu r1 x5) fun Aa=>bif (Aa != 0) then some (Aa) else obind (d_impl_spotFault fu r1 x5) fun Af=>some (Af)

def d_impl_Check (fu:Nat) (r1:Request) (x5:Plan):Option (Int) :=
  obind (d_impl_sound fu r1) fun Ad=>bif (!Ad) then some (1) else obind (d_impl_PlanOk fu x5) fun Ac=>bif (!Ac) then some (2) else obind (d_slices_ContainsFunc_impl_Carton_impl_Carton fu x5.fCartons (fun Aa=>d_impl_Check_1 fu Aa)) fun Ab=>bif Ab then some (2) else d_impl_Check_J1 fu r1 x5

def d_impl_Feasible (fu:Nat) (r1:Request) (x5:Plan):Option (Bool) :=
  obind (d_impl_Check fu r1 x5) fun Aa=>some (Aa == 0)

def d_impl_masterRoom (fu:Nat) (r1:Request):Option (Int × Int) :=
  obind (d_impl_MasterOf fu r1) fun Aa=>obind (d_impl_Volume fu Aa.1.fW Aa.1.fH Aa.1.fD) fun Ab=>some (Ab,Aa.1.fGram)

def d_impl_upBy (fu:Nat) (a1:Int) (b2:Int):Option (Int) :=
  obind (odiv b2) fun u3=>some (w64 (Int.tdiv (w64 ((w64 (a1 + b2)) - 1)) b2))

def d_impl_LowerVolume (fu:Nat) (r1:Request) (Ad:List Int):Option (Int) :=
  obind (d_impl_sound fu r1) fun Ac=>bif (!Ac) then some (0) else obind (d_impl_masterRoom fu r1) fun Aa=>obind (d_impl_VolumeOf fu r1 Ad) fun Ae=>obind (d_impl_upBy fu Ae Aa.1) fun Ab=>some (Ab)

def d_impl_LowerGram (fu:Nat) (r1:Request) (Ad:List Int):Option (Int) :=
  obind (d_impl_sound fu r1) fun Ac=>bif (!Ac) then some (0) else obind (d_impl_masterRoom fu r1) fun Aa=>obind (d_impl_GramOf fu r1 Ad) fun Ae=>obind (d_impl_upBy fu Ae Aa.2) fun Ab=>some (Ab)

def d_impl_LowerGreat_J1 (fu:Nat) (k7:Int → Int → Int → Option (Int)) (Aa:Int) (Ac:Int) (Ab:Int):Option (Int) :=
  k7 Ac Ab (w64 (Aa + 1))

def d_impl_LowerGreat_J2 (fu:Nat) (k7:Int → Int → Int → Option (Int)) (Ad:Int × Int) (Ac:Int) (Ab:Int) (Ae:Item) (Aa:Int):Option (Int) :=
  bif (decide ((w64 (2 * Ae.fGram)) > Ad.2)) then d_impl_LowerGreat_J1 fu k7 Ab Aa (w64 (Ac + 1)) else d_impl_LowerGreat_J1 fu k7 Ab Aa Ac

def d_impl_LowerGreat_L1_B (fu:Nat)  (Ae:Int × Int) (Af:(List Item)) (k7:Int → Int → Int → Option (Int)) (Ab:Int) (Ad:Int) (Ac:Int):Option (Int) :=
  bif (decide (Ac < ((Af.length:Int)))) then obind (ix Af Ac) fun Aa=>obind (d_impl_Volume fu Aa.fW Aa.fH Aa.fD) fun Ag=>bif (decide ((w64 (2 * Ag)) > Ae.1)) then d_impl_LowerGreat_J2 fu k7 Ae Ad Ac Aa (w64 (Ab + 1)) else d_impl_LowerGreat_J2 fu k7 Ae Ad Ac Aa Ab else some (if Ad > Ab then Ad else Ab)
def d_impl_LowerGreat_L1 (fu:Nat)  (Aa:Int × Int) (Ab:(List Item)):Nat → Int → Int → Int → Option (Int)
  | 0=>fun _ _ _=>none
  | n + 1=>d_impl_LowerGreat_L1_B fu Aa Ab (d_impl_LowerGreat_L1 fu Aa Ab n)

def d_impl_LowerGreat (fu:Nat) (r1:Request) (Ab:List Int):Option (Int) :=
  obind (d_impl_sound fu r1) fun Ac=>bif (!Ac) then some (0) else obind (d_impl_masterRoom fu r1) fun Aa=>obind (d_impl_itemsOf fu r1 Ab) fun Ad=>d_impl_LowerGreat_L1 fu Aa Ad fu 0 0 0

def d_impl_Lower (fu:Nat) (r1:Request) (Ac:List Int):Option (Int) :=
  obind (d_impl_LowerVolume fu r1 Ac) fun Aa=>obind (d_impl_LowerGram fu r1 Ac) fun Ab=>obind (d_impl_LowerGreat fu r1 Ac) fun Ad=>some (if Ad > (if Ab > Aa then Ab else Aa) then Ad else (if Ab > Aa then Ab else Aa))

end Go.Proofs.YtpcmapfabndggaaGreat
