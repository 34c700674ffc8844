/- FnNoMix: what the functions that it reaches compute,on plain data. Printed by gen.py. -/
import Derived.Test.YtkkfmjpbiimkbaaGreatS13
import Derived.Test.YtkkfmjpbiimkbaaGreatS15
set_option linter.unusedVariables false
namespace Go.Proofs.YtkkfmjpbiimkbaaGreat
open Go
def d_laws_big (fu:Nat) (Aa:List U8):Option (Bool) :=
  some (decide (((Aa.length:Int)) > 1048576))

def d_spec_l1New_J1 (fu:Nat) (k3:Int → Int → Option (Cur)) (Ab:List U8) (Ad:Int) (Aa:Int)  : Option (Cur) :=
  obind (ix Ab Aa) fun Ac=>k3 (IntKind.wrap .i64 (((BitVec.ofInt (IntKind.bits .i64) (w64 ((w64 ((w64 (Ad * 131)) + (w64 Ac.n))) + 7)) &&& BitVec.ofInt (IntKind.bits .i64) 1073741823).toNat:Nat):Int)) (w64 (Aa + 1))

def d_spec_l1New_L1_B (fu:Nat)  (Aa:List U8) (k3:Int → Int → Option (Cur)) (Ac:Int) (Ab:Int):Option (Cur) :=
  bif (decide (Ab < ((Aa.length:Int)))) then bif (decide (Ab < 4000)) then d_spec_l1New_J1 fu k3 Aa Ac Ab else some ((⟨Aa,0,Ac⟩:Cur)) else some ((⟨Aa,0,Ac⟩:Cur))
def d_spec_l1New_L1 (fu:Nat)  (Aa:List U8):Nat → Int → Int → Option (Cur)
  | 0=>fun _ _=>none
  | n + 1=>d_spec_l1New_L1_B fu Aa (d_spec_l1New_L1 fu Aa n)

def d_spec_l1New (fu:Nat) (Aa:List U8):Option (Cur) :=
  d_spec_l1New_L1 fu Aa fu (w64 (26583 + ((Aa.length:Int)))) 0

def d_spec_l1Byte (fu:Nat) (c1:Cur):Option (Int × Cur) :=
  bif (decide (c1.fi < ((c1.fb.length:Int)))) then obind (ix c1.fb c1.fi) fun Aa=>some (IntKind.wrap .i64 (((BitVec.ofInt (IntKind.bits .i64) (w64 ((IntKind.wrap .i64 (((BitVec.ofInt (IntKind.bits .i64) (IntKind.wrap .i64 (((BitVec.ofInt (IntKind.bits .i64) (Int.fdiv (w64 ((w64 (c1.fh * 6364136223846793005)) + 1442695040888963407)) (2 ^ (min 33 (IntKind.bits .i64)))) ^^^ BitVec.ofInt (IntKind.bits .i64) (Int.fdiv (w64 ((w64 (c1.fh * 6364136223846793005)) + 1442695040888963407)) (2 ^ (min 45 (IntKind.bits .i64))))).toNat:Nat):Int)) &&& BitVec.ofInt (IntKind.bits .i64) 255).toNat:Nat):Int)) + (w64 Aa.n))) &&& BitVec.ofInt (IntKind.bits .i64) 255).toNat:Nat):Int),(⟨c1.fb,w64 (c1.fi + 1),w64 ((w64 (c1.fh * 6364136223846793005)) + 1442695040888963407)⟩:Cur)) else some (IntKind.wrap .i64 (((BitVec.ofInt (IntKind.bits .i64) (IntKind.wrap .i64 (((BitVec.ofInt (IntKind.bits .i64) (Int.fdiv (w64 ((w64 (c1.fh * 6364136223846793005)) + 1442695040888963407)) (2 ^ (min 33 (IntKind.bits .i64)))) ^^^ BitVec.ofInt (IntKind.bits .i64) (Int.fdiv (w64 ((w64 (c1.fh * 6364136223846793005)) + 1442695040888963407)) (2 ^ (min 45 (IntKind.bits .i64))))).toNat:Nat):Int)) &&& BitVec.ofInt (IntKind.bits .i64) 255).toNat:Nat):Int),(⟨c1.fb,c1.fi,w64 ((w64 (c1.fh * 6364136223846793005)) + 1442695040888963407)⟩:Cur))

def d_spec_l1Below (fu:Nat) (c1:Cur) (n7:Int):Option (Int × Cur) :=
  bif (decide (n7 ≤ 0)) then some (0,c1) else bif (decide (n7 ≤ 256)) then obind (d_spec_l1Byte fu c1) fun Ad=>obind (odiv n7) fun Af=>some (Int.tmod Ad.1 n7,(⟨c1.fb,Ad.2.fi,Ad.2.fh⟩:Cur)) else obind (d_spec_l1Byte fu c1) fun Aa=>obind (d_spec_l1Byte fu ((⟨c1.fb,Aa.2.fi,Aa.2.fh⟩:Cur))) fun Ac=>obind (d_spec_l1Byte fu ((⟨c1.fb,Ac.2.fi,Ac.2.fh⟩:Cur))) fun Ae=>obind (d_spec_l1Byte fu ((⟨c1.fb,Ae.2.fi,Ae.2.fh⟩:Cur))) fun Ab=>obind (odiv n7) fun Ag=>some (Int.tmod (w64 ((w64 ((w64 ((w64 (Aa.1 * 16777216)) + (w64 (Ac.1 * 65536)))) + (w64 (Ae.1 * 256)))) + Ab.1)) n7,(⟨c1.fb,Ab.2.fi,Ab.2.fh⟩:Cur))

def d_spec_l1Once (fu:Nat) (c1:Cur) (n7:Int):Option (Bool × Cur) :=
  obind (d_spec_l1Below fu c1 n7) fun x9=>some (x9.1 == 0,(⟨c1.fb,x9.2.fi,x9.2.fh⟩:Cur))

def d_spec_l1PickInt (fu:Nat) (c1:Cur) (Ab:List Int):Option (Int × Cur) :=
  obind (d_spec_l1Below fu c1 ((Ab.length:Int))) fun Aa=>obind (ix Ab Aa.1) fun Ac=>some (Ac,(⟨c1.fb,Aa.2.fi,Aa.2.fh⟩:Cur))

def d_spec_l2Right_J1 (fu:Nat) (Ac:Int → Int → List Pair → Int → Option (Request × Cur)) (Ae:Int) (Ad:Int) (Ab:Int) (Aa:List Pair):Option (Request × Cur) :=
  Ac Ad Ab Aa (w64 (Ae + 1))

def d_spec_l2Right_L1_B (fu:Nat) (k9:Int → Int → List Pair → Int → Option (Request × Cur)) (c1:Cur) (Aa:Int) (Ae:Int → Int → List Pair → Int → Option (Request × Cur)) (Af:Int) (Ag:Int) (Ad:List Pair) (Ab:Int):Option (Request × Cur) :=
  bif (decide (Ab ≤ Aa)) then bif (Aa == Ab) then obind (apnd 16 Ad (([(⟨Aa,Aa⟩:Pair)]:List Pair))) fun Ai=>d_spec_l2Right_J1 fu Ae Ab Af Ag Ai else obind (d_spec_l1Once fu ((⟨c1.fb,Af,Ag⟩:Cur)) 2) fun Ac=>bif Ac.1 then obind (apnd 16 Ad (([(⟨Aa,Ab⟩:Pair),(⟨Ab,Aa⟩:Pair)]:List Pair))) fun Ah=>d_spec_l2Right_J1 fu Ae Ab Ac.2.fi Ac.2.fh Ah else d_spec_l2Right_J1 fu Ae Ab Ac.2.fi Ac.2.fh Ad else k9 Af Ag Ad (w64 (Aa + 1))
def d_spec_l2Right_L1 (fu:Nat) (k9:Int → Int → List Pair → Int → Option (Request × Cur)) (c1:Cur) (Aa:Int):Nat → Int → Int → List Pair → Int → Option (Request × Cur)
  | 0=>fun _ _ _ _=>none
  | n + 1=>d_spec_l2Right_L1_B fu k9 c1 Aa (d_spec_l2Right_L1 fu k9 c1 Aa n)

def d_spec_l2Right_J2 (fu:Nat) (Ae:Int → Int → List Item → Int → Int → Option (Request × Cur)) (Aa:Int) (Af:Int) (Ad:Int) (Ab:List Item) (Ac:Int):Option (Request × Cur) :=
  Ae Af Ad Ab Ac (w64 (Aa + 1))

def d_spec_l2Right_J3 (fu:Nat) (Af:Int → Int → List Item → Int → Int → Option (Request × Cur)) (Ag:List Item) (Ab:Int) (Ac:Int) (Ae:Int) (Ad:Int) (Aa:Item):Option (Request × Cur) :=
  bif (decide ((w64 (Ab + Aa.fCount)) ≤ 12)) then obind (apnd 56 Ag (([Aa]:List Item))) fun Ah=>d_spec_l2Right_J2 fu Af Ac Ae Ad Ah (w64 (Ab + Aa.fCount)) else d_spec_l2Right_J2 fu Af Ac Ae Ad Ag Ab

def d_spec_l2Right_J4 (fu:Nat) (Ae:Int → Int → List Item → Int → Int → Option (Request × Cur)) (c1:Cur) (Af:List Item) (Ag:Int) (Ad:Int) (Ai:Int) (Ah:Int) (Ab:Item):Option (Request × Cur) :=
  obind (d_spec_l1Once fu ((⟨c1.fb,Ai,Ah⟩:Cur)) 3) fun Aa=>bif Aa.1 then obind (d_spec_l1Below fu ((⟨c1.fb,Aa.2.fi,Aa.2.fh⟩:Cur)) 8) fun Ac=>d_spec_l2Right_J3 fu Ae Af Ag Ad Ac.2.fi Ac.2.fh ((⟨Ab.fId,5,5,w64 (4 + Ac.1),Ab.fGram,Ab.fClass,Ab.fCount⟩:Item)) else d_spec_l2Right_J3 fu Ae Af Ag Ad Aa.2.fi Aa.2.fh Ab

def d_spec_l2Right_L2_B (fu:Nat)  (c1:Cur) (Av:Int × Cur) (Am:Int × Cur) (Ap:Int × Cur) (Ar:Int × Cur) (Al:Int × Cur) (Ak:Int × Cur) (Aq:List Pair) (As:List Typ) (At:Int × Cur) (Au:Int → Int → List Item → Int → Int → Option (Request × Cur)) (Aj:Int) (Ah:Int) (Ai:List Item) (Ao:Int) (Ae:Int):Option (Request × Cur) :=
  bif (decide (Ae < At.1)) then obind (d_spec_l1Below fu ((⟨c1.fb,Aj,Ah⟩:Cur)) 10) fun Ab=>obind (d_spec_l1Below fu ((⟨c1.fb,Ab.2.fi,Ab.2.fh⟩:Cur)) 10) fun Ag=>obind (d_spec_l1Below fu ((⟨c1.fb,Ag.2.fi,Ag.2.fh⟩:Cur)) 10) fun Af=>obind (d_spec_l1Below fu ((⟨c1.fb,Af.2.fi,Af.2.fh⟩:Cur)) 60) fun Aa=>obind (d_spec_l1Below fu ((⟨c1.fb,Aa.2.fi,Aa.2.fh⟩:Cur)) (w64 (1 + Ak.1))) fun Ad=>obind (d_spec_l1Below fu ((⟨c1.fb,Ad.2.fi,Ad.2.fh⟩:Cur)) 4) fun Ac=>d_spec_l2Right_J4 fu Au c1 Ai Ao Ae Ac.2.fi Ac.2.fh ((⟨w64 (3 * Ae),w64 (1 + Ab.1),w64 (1 + Ag.1),w64 (1 + Af.1),w64 (1 + Aa.1),Ad.1,w64 (1 + Ac.1)⟩:Item)) else some ((⟨Av.1,(⟨Am.1,Ap.1,Ar.1,Al.1⟩:Pallet),w64 (1 + Ak.1),Aq,As,7,Ai⟩:Request),(⟨c1.fb,Aj,Ah⟩:Cur))
def d_spec_l2Right_L2 (fu:Nat)  (c1:Cur) (Ae:Int × Cur) (Ag:Int × Cur) (Af:Int × Cur) (Aa:Int × Cur) (Ad:Int × Cur) (Ai:Int × Cur) (Ah:List Pair) (Ab:List Typ) (Ac:Int × Cur):Nat → Int → Int → List Item → Int → Int → Option (Request × Cur)
  | 0=>fun _ _ _ _ _=>none
  | n + 1=>d_spec_l2Right_L2_B fu c1 Ae Ag Af Aa Ad Ai Ah Ab Ac (d_spec_l2Right_L2 fu c1 Ae Ag Af Aa Ad Ai Ah Ab Ac n)

def d_spec_l2Right_L3_B (fu:Nat)  (c1:Cur) (Au:Int × Cur) (Ap:Int × Cur) (Aq:Int × Cur) (As:Int × Cur) (Am:Int × Cur) (Ao:Int × Cur) (Ar:List Pair) (At:Int × Cur) (Av:Int → Int → List Typ → Int → Option (Request × Cur)) (Aj:Int) (Ai:Int) (Ak:List Typ) (Af:Int):Option (Request × Cur) :=
  bif (decide (Af < At.1)) then obind (d_spec_l1Below fu ((⟨c1.fb,Aj,Ai⟩:Cur)) 9) fun Aa=>obind (d_spec_l1Below fu ((⟨c1.fb,Aa.2.fi,Aa.2.fh⟩:Cur)) 8) fun Ae=>obind (d_spec_l1Below fu ((⟨c1.fb,Ae.2.fi,Ae.2.fh⟩:Cur)) 9) fun Ad=>obind (d_spec_l1Below fu ((⟨c1.fb,Ad.2.fi,Ad.2.fh⟩:Cur)) 5) fun Ab=>obind (d_spec_l1Below fu ((⟨c1.fb,Ab.2.fi,Ab.2.fh⟩:Cur)) 90) fun Ah=>obind (d_spec_l1Below fu ((⟨c1.fb,Ah.2.fi,Ah.2.fh⟩:Cur)) 20) fun Ac=>obind (apnd 56 Ak (([(⟨w64 (10 + Af),w64 (4 + Aa.1),w64 (3 + Ae.1),w64 (3 + Ad.1),Ab.1,w64 (20 + Ah.1),w64 (1 + Ac.1)⟩:Typ)]:List Typ))) fun Al=>Av Ac.2.fi Ac.2.fh Al (w64 (Af + 1)) else obind (d_spec_l1Below fu ((⟨c1.fb,Aj,Ai⟩:Cur)) 6) fun Ag=>d_spec_l2Right_L2 fu c1 Au Ap Aq As Am Ao Ar Ak Ag fu Ag.2.fi Ag.2.fh (([]:List Item)) 0 0
def d_spec_l2Right_L3 (fu:Nat)  (c1:Cur) (Ad:Int × Cur) (Af:Int × Cur) (Ae:Int × Cur) (Aa:Int × Cur) (Ac:Int × Cur) (Ah:Int × Cur) (Ag:List Pair) (Ab:Int × Cur):Nat → Int → Int → List Typ → Int → Option (Request × Cur)
  | 0=>fun _ _ _ _=>none
  | n + 1=>d_spec_l2Right_L3_B fu c1 Ad Af Ae Aa Ac Ah Ag Ab (d_spec_l2Right_L3 fu c1 Ad Af Ae Aa Ac Ah Ag Ab n)

def d_spec_l2Right_J5 (fu:Nat) (c1:Cur) (Ae:Int × Cur) (Ai:Int × Cur) (Af:Int × Cur) (Ab:Int × Cur) (Ad:Int × Cur) (Ak:Int × Cur) (Aj:List Pair) (Ag:Int) (Ac:Int) (Ah:List Typ):Option (Request × Cur) :=
  obind (d_spec_l1Below fu ((⟨c1.fb,Ag,Ac⟩:Cur)) 5) fun Aa=>d_spec_l2Right_L3 fu c1 Ae Ai Af Ab Ad Ak Aj Aa fu Aa.2.fi Aa.2.fh Ah 0

def d_spec_l2Right_L4_B (fu:Nat)  (c1:Cur) (Ak:Int × Cur) (Ao:Int × Cur) (Al:Int × Cur) (Ai:Int × Cur) (Aj:Int × Cur) (Ae:Int × Cur) (k9:Int → Int → List Pair → Int → Option (Request × Cur)) (Ah:Int) (Af:Int) (Ag:List Pair) (Ad:Int):Option (Request × Cur) :=
  bif (decide (Ad < (w64 (1 + Ae.1)))) then d_spec_l2Right_L1 fu k9 c1 Ad fu Ah Af Ag 0 else obind (d_spec_l1Below fu ((⟨c1.fb,Ah,Af⟩:Cur)) 8) fun Ab=>obind (d_spec_l1PickInt fu ((⟨c1.fb,Ab.2.fi,Ab.2.fh⟩:Cur)) (([60,100,140]:List Int))) fun Ac=>obind (d_spec_l1PickInt fu ((⟨c1.fb,Ac.2.fi,Ac.2.fh⟩:Cur)) (([9,20]:List Int))) fun Aa=>obind (apnd 56 (([]:List Typ)) (([(⟨7,12,10,11,Ab.1,Ac.1,Aa.1⟩:Typ)]:List Typ))) fun Am=>d_spec_l2Right_J5 fu c1 Ak Ao Al Ai Aj Ae Ag Aa.2.fi Aa.2.fh Am
def d_spec_l2Right_L4 (fu:Nat)  (c1:Cur) (Ac:Int × Cur) (Ae:Int × Cur) (Ad:Int × Cur) (Aa:Int × Cur) (Ab:Int × Cur) (Af:Int × Cur):Nat → Int → Int → List Pair → Int → Option (Request × Cur)
  | 0=>fun _ _ _ _=>none
  | n + 1=>d_spec_l2Right_L4_B fu c1 Ac Ae Ad Aa Ab Af (d_spec_l2Right_L4 fu c1 Ac Ae Ad Aa Ab Af n)

def d_spec_l2Right (fu:Nat) (c1:Cur):Option (Request × Cur) :=
  obind (d_spec_l1Below fu c1 2) fun Ac=>obind (d_spec_l1PickInt fu ((⟨c1.fb,Ac.2.fi,Ac.2.fh⟩:Cur)) (([20,30,37]:List Int))) fun Ae=>obind (d_spec_l1PickInt fu ((⟨c1.fb,Ae.2.fi,Ae.2.fh⟩:Cur)) (([20,25,40]:List Int))) fun Ad=>obind (d_spec_l1PickInt fu ((⟨c1.fb,Ad.2.fi,Ad.2.fh⟩:Cur)) (([15,24,50]:List Int))) fun Aa=>obind (d_spec_l1PickInt fu ((⟨c1.fb,Aa.2.fi,Aa.2.fh⟩:Cur)) (([150,400,5000]:List Int))) fun Ab=>obind (d_spec_l1Below fu ((⟨c1.fb,Ab.2.fi,Ab.2.fh⟩:Cur)) 4) fun Af=>d_spec_l2Right_L4 fu c1 Ac Ae Ad Aa Ab Af fu Af.2.fi Af.2.fh (([]:List Pair)) 0

def d_spec_l1In (fu:Nat) (x1:Int) (Aa:Int) (Ab:Int):Option (Bool) :=
  bif (decide (x1 ≥ Aa)) then some (decide (x1 ≤ Ab)) else some (false)

def d_spec_l2Side (fu:Nat) (x1:Int):Option (Bool) :=
  obind (d_spec_l1In fu x1 1 2000) fun x2=>some (x2)

def d_spec_PalletOk (fu:Nat) (x1:Pallet):Option (Bool) :=
  obind (d_spec_l2Side fu x1.fW) fun x5=>bif x5 then obind (d_spec_l2Side fu x1.fD) fun Ab=>bif Ab then obind (d_spec_l2Side fu x1.fH) fun Ac=>bif Ac then obind (d_spec_l1In fu x1.fGram 1 100000) fun Aa=>some (Aa) else some (false) else some (false) else some (false)

def d_spec_l2Id (fu:Nat) (x1:Int):Option (Bool) :=
  obind (d_spec_l1In fu x1 0 999) fun x2=>some (x2)

def d_spec_TypeOk (fu:Nat) (x1:Typ):Option (Bool) :=
  obind (d_spec_l2Id fu x1.fId) fun x5=>bif x5 then obind (d_spec_l2Side fu x1.fW) fun Ad=>bif Ad then obind (d_spec_l2Side fu x1.fH) fun Aa=>bif Aa then obind (d_spec_l2Side fu x1.fD) fun Af=>bif Af then obind (d_spec_l1In fu x1.fTare 0 100000) fun Ab=>bif Ab then obind (d_spec_l1In fu x1.fGram 1 100000) fun Ae=>bif Ae then obind (d_spec_l1In fu x1.fCost 0 100000) fun Ac=>some (Ac) else some (false) else some (false) else some (false) else some (false) else some (false) else some (false)

def d_spec_ItemOk (fu:Nat) (x1:Item):Option (Bool) :=
  obind (d_spec_l2Id fu x1.fId) fun x5=>bif x5 then obind (d_spec_l2Side fu x1.fW) fun Ad=>bif Ad then obind (d_spec_l2Side fu x1.fH) fun Aa=>bif Aa then obind (d_spec_l2Side fu x1.fD) fun Af=>bif Af then obind (d_spec_l1In fu x1.fGram 1 100000) fun Ab=>bif Ab then obind (d_spec_l1In fu x1.fClass 0 3) fun Ae=>bif Ae then obind (d_spec_l1In fu x1.fCount 1 6) fun Ac=>some (Ac) else some (false) else some (false) else some (false) else some (false) else some (false) else some (false)

def d_spec_BoundsOk_J1 (fu:Nat) (k4:Int → Option (Bool)) (Aa:Int)  : Option (Bool) :=
  k4 (w64 (Aa + 1))

def d_spec_BoundsOk_L1_B (fu:Nat)  (r1:Request) (k7:Int → Int → Option (Bool)) (Ac:Int) (Aa:Int):Option (Bool) :=
  bif (decide (Aa < ((r1.fItems.length:Int)))) then obind (ix r1.fItems Aa) fun Ab=>obind (d_spec_ItemOk fu Ab) fun Ad=>bif (!Ad) then some (false) else obind (ix r1.fItems Aa) fun Ae=>k7 (w64 (Ac + Ab.fCount)) (w64 (Aa + 1)) else some (decide (Ac ≤ 12))
def d_spec_BoundsOk_L1 (fu:Nat)  (r1:Request):Nat → Int → Int → Option (Bool)
  | 0=>fun _ _=>none
  | n + 1=>d_spec_BoundsOk_L1_B fu r1 (d_spec_BoundsOk_L1 fu r1 n)

def d_spec_BoundsOk_L2_B (fu:Nat)  (r1:Request) (k6:Int → Option (Bool)) (Aa:Int):Option (Bool) :=
  bif (decide (Aa < ((r1.fTypes.length:Int)))) then obind (ix r1.fTypes Aa) fun Ab=>obind (d_spec_TypeOk fu Ab) fun Ac=>bif (!Ac) then some (false) else k6 (w64 (Aa + 1)) else d_spec_BoundsOk_L1 fu r1 fu 0 0
def d_spec_BoundsOk_L2 (fu:Nat)  (r1:Request):Nat → Int → Option (Bool)
  | 0=>fun _=>none
  | n + 1=>d_spec_BoundsOk_L2_B fu r1 (d_spec_BoundsOk_L2 fu r1 n)

def d_spec_BoundsOk_L3_B (fu:Nat)  (r1:Request) (k4:Int → Option (Bool)) (Aa:Int):Option (Bool) :=
  bif (decide (Aa < ((r1.fPairs.length:Int)))) then obind (ix r1.fPairs Aa) fun Ab=>obind (d_spec_l1In fu Ab.fA 0 3) fun Ad=>bif (!Ad) then some (false) else obind (ix r1.fPairs Aa) fun Ae=>obind (d_spec_l1In fu Ab.fB 0 3) fun Ac=>bif (!Ac) then some (false) else d_spec_BoundsOk_J1 fu k4 Aa else d_spec_BoundsOk_L2 fu r1 fu 0
def d_spec_BoundsOk_L3 (fu:Nat)  (r1:Request):Nat → Int → Option (Bool)
  | 0=>fun _=>none
  | n + 1=>d_spec_BoundsOk_L3_B fu r1 (d_spec_BoundsOk_L3 fu r1 n)

def d_spec_BoundsOk_J2 (fu:Nat) (r1:Request)  : Option (Bool) :=
  d_spec_BoundsOk_L3 fu r1 fu 0

def d_spec_BoundsOk (fu:Nat) (r1:Request):Option (Bool) :=
  obind (d_spec_l1In fu r1.fWay 0 1) fun Aa=>bif (!Aa) then some (false) else obind (d_spec_PalletOk fu r1.fPallet) fun Ab=>bif (!Ab) then some (false) else obind (d_spec_l1In fu r1.fClasses 1 4) fun Ac=>bif (!Ac) then some (false) else bif (decide (((r1.fPairs.length:Int)) > 16)) then some (false) else obind (d_spec_l1In fu ((r1.fTypes.length:Int)) 1 5) fun Ae=>bif (!Ae) then some (false) else obind (d_spec_l2Id fu r1.fMaster) fun Ad=>bif (!Ad) then some (false) else bif (decide (((r1.fItems.length:Int)) > 8)) then some (false) else d_spec_BoundsOk_J2 fu r1

def d_spec_MasterOf_L1_B (fu:Nat)  (r1:Request) (k1:Int → Option (Typ × Bool)) (Aa:Int):Option (Typ × Bool) :=
  bif (decide (Aa < ((r1.fTypes.length:Int)))) then obind (ix r1.fTypes Aa) fun Ab=>bif (Ab.fId == r1.fMaster) then obind (ix r1.fTypes Aa) fun Ac=>some (Ab,true) else k1 (w64 (Aa + 1)) else some ((⟨0,0,0,0,0,0,0⟩:Typ),false)
def d_spec_MasterOf_L1 (fu:Nat)  (r1:Request):Nat → Int → Option (Typ × Bool)
  | 0=>fun _=>none
  | n + 1=>d_spec_MasterOf_L1_B fu r1 (d_spec_MasterOf_L1 fu r1 n)

def d_spec_MasterOf (fu:Nat) (r1:Request):Option (Typ × Bool) :=
  d_spec_MasterOf_L1 fu r1 fu 0

def d_spec_l5Names_L1_B (fu:Nat) (k3:Int → Option (Bool)) (r1:Request) (Ab:Int) (k4:Int → Option (Bool)) (Aa:Int):Option (Bool) :=
  bif (decide (Aa < Ab)) then obind (ix r1.fTypes Ab) fun Ac=>obind (ix r1.fTypes Aa) fun Ad=>bif (Ac.fId == Ad.fId) then some (false) else k4 (w64 (Aa + 1)) else k3 (w64 (Ab + 1))
def d_spec_l5Names_L1 (fu:Nat) (k3:Int → Option (Bool)) (r1:Request) (Aa:Int):Nat → Int → Option (Bool)
  | 0=>fun _=>none
  | n + 1=>d_spec_l5Names_L1_B fu k3 r1 Aa (d_spec_l5Names_L1 fu k3 r1 Aa n)

def d_spec_l5Names_L2_B (fu:Nat) (k7:Int → Option (Bool)) (r1:Request) (Ab:Int) (k8:Int → Option (Bool)) (Aa:Int):Option (Bool) :=
  bif (decide (Aa < Ab)) then obind (ix r1.fItems Ab) fun Ad=>obind (ix r1.fItems Aa) fun Ac=>bif (Ad.fId == Ac.fId) then some (false) else k8 (w64 (Aa + 1)) else k7 (w64 (Ab + 1))
def d_spec_l5Names_L2 (fu:Nat) (k7:Int → Option (Bool)) (r1:Request) (Aa:Int):Nat → Int → Option (Bool)
  | 0=>fun _=>none
  | n + 1=>d_spec_l5Names_L2_B fu k7 r1 Aa (d_spec_l5Names_L2 fu k7 r1 Aa n)

def d_spec_l5Names_J1 (fu:Nat) (Aa:Int → Option (Bool)) (Ab:Int)  : Option (Bool) :=
  Aa (w64 (Ab + 1))

def d_spec_l5Names_L3_B (fu:Nat)  (r1:Request) (Ac:Int → Option (Bool)) (Aa:Int):Option (Bool) :=
  bif (decide (Aa < ((r1.fPairs.length:Int)))) then obind (ix r1.fPairs Aa) fun Ab=>bif (decide (Ab.fA ≥ r1.fClasses)) then some (false) else obind (ix r1.fPairs Aa) fun Ae=>bif (decide (Ab.fB ≥ r1.fClasses)) then some (false) else d_spec_l5Names_J1 fu Ac Aa else obind (d_spec_MasterOf fu r1) fun Ad=>some (Ad.2)
def d_spec_l5Names_L3 (fu:Nat)  (r1:Request):Nat → Int → Option (Bool)
  | 0=>fun _=>none
  | n + 1=>d_spec_l5Names_L3_B fu r1 (d_spec_l5Names_L3 fu r1 n)

def d_spec_l5Names_L4_B (fu:Nat)  (r1:Request) (k7:Int → Option (Bool)) (Aa:Int):Option (Bool) :=
  bif (decide (Aa < ((r1.fItems.length:Int)))) then obind (ix r1.fItems Aa) fun Ab=>bif (decide (Ab.fClass ≥ r1.fClasses)) then some (false) else d_spec_l5Names_L2 fu k7 r1 Aa fu 0 else d_spec_l5Names_L3 fu r1 fu 0
def d_spec_l5Names_L4 (fu:Nat)  (r1:Request):Nat → Int → Option (Bool)
  | 0=>fun _=>none
  | n + 1=>d_spec_l5Names_L4_B fu r1 (d_spec_l5Names_L4 fu r1 n)

def d_spec_l5Names_L5_B (fu:Nat)  (r1:Request) (k3:Int → Option (Bool)) (Aa:Int):Option (Bool) :=
  bif (decide (Aa < ((r1.fTypes.length:Int)))) then d_spec_l5Names_L1 fu k3 r1 Aa fu 0 else d_spec_l5Names_L4 fu r1 fu 0
def d_spec_l5Names_L5 (fu:Nat)  (r1:Request):Nat → Int → Option (Bool)
  | 0=>fun _=>none
  | n + 1=>d_spec_l5Names_L5_B fu r1 (d_spec_l5Names_L5 fu r1 n)

def d_spec_l5Names (fu:Nat) (r1:Request):Option (Bool) :=
  d_spec_l5Names_L5 fu r1 fu 0

def d_spec_Beside_J1 (fu:Nat) (k3:Int → Option (Bool)) (Aa:Int)  : Option (Bool) :=
  k3 (w64 (Aa + 1))

def d_spec_Beside_L1_B (fu:Nat)  (Ab:List Pair) (a5:Int) (b6:Int) (k3:Int → Option (Bool)) (Aa:Int):Option (Bool) :=
  bif (decide (Aa < ((Ab.length:Int)))) then obind (ix Ab Aa) fun Ac=>bif (Ac.fA == a5) then obind (ix Ab Aa) fun Ad=>bif (Ac.fB == b6) then some (true) else d_spec_Beside_J1 fu k3 Aa else d_spec_Beside_J1 fu k3 Aa else some (false)
def d_spec_Beside_L1 (fu:Nat)  (Aa:List Pair) (a5:Int) (b6:Int):Nat → Int → Option (Bool)
  | 0=>fun _=>none
  | n + 1=>d_spec_Beside_L1_B fu Aa a5 b6 (d_spec_Beside_L1 fu Aa a5 b6 n)

def d_spec_Beside (fu:Nat) (Aa:List Pair) (a5:Int) (b6:Int):Option (Bool) :=
  d_spec_Beside_L1 fu Aa a5 b6 fu 0

def d_spec_TableOk_J1 (fu:Nat) (Aa:Int → Option (Bool)) (Ab:Int)  : Option (Bool) :=
  Aa (w64 (Ab + 1))

def d_spec_TableOk_L1_B (fu:Nat) (k9:Int → Option (Bool)) (Ac:List Pair) (Aj:Int) (Ab:Int) (Ad:Int → Option (Bool)) (Aa:Int):Option (Bool) :=
  bif (decide (Aa < Aj)) then bif (Ab == Aa) then obind (d_spec_Beside fu Ac Ab Ab) fun Ag=>bif (!Ag) then some (false) else obind (d_spec_Beside fu Ac Ab Aa) fun Ai=>obind (d_spec_Beside fu Ac Aa Ab) fun Ah=>bif (!(Ai == Ah)) then some (false) else d_spec_TableOk_J1 fu Ad Aa else obind (d_spec_Beside fu Ac Ab Aa) fun Af=>obind (d_spec_Beside fu Ac Aa Ab) fun Ae=>bif (!(Af == Ae)) then some (false) else d_spec_TableOk_J1 fu Ad Aa else k9 (w64 (Ab + 1))
def d_spec_TableOk_L1 (fu:Nat) (k9:Int → Option (Bool)) (Ac:List Pair) (Aa:Int) (Ab:Int):Nat → Int → Option (Bool)
  | 0=>fun _=>none
  | n + 1=>d_spec_TableOk_L1_B fu k9 Ac Aa Ab (d_spec_TableOk_L1 fu k9 Ac Aa Ab n)

def d_spec_TableOk_L2_B (fu:Nat)  (Ac:List Pair) (Aa:Int) (k9:Int → Option (Bool)) (Ab:Int):Option (Bool) :=
  bif (decide (Ab < Aa)) then d_spec_TableOk_L1 fu k9 Ac Aa Ab fu 0 else some (true)
def d_spec_TableOk_L2 (fu:Nat)  (Ab:List Pair) (Aa:Int):Nat → Int → Option (Bool)
  | 0=>fun _=>none
  | n + 1=>d_spec_TableOk_L2_B fu Ab Aa (d_spec_TableOk_L2 fu Ab Aa n)

def d_spec_TableOk (fu:Nat) (Ab:List Pair) (Aa:Int):Option (Bool) :=
  obind (d_spec_l1In fu Aa 1 4) fun x6=>bif (!x6) then some (false) else d_spec_TableOk_L2 fu Ab Aa fu 0

def d_spec_l1Places_L1_B (fu:Nat)  (n1:Int) (k1:List Int → Int → Option ((List Int))) (Ab:List Int) (Aa:Int):Option ((List Int)) :=
  bif (decide (Aa < n1)) then obind (apnd 8 Ab (([Aa]:List Int))) fun Ac=>k1 Ac (w64 (Aa + 1)) else some (Ab)
def d_spec_l1Places_L1 (fu:Nat)  (n1:Int):Nat → List Int → Int → Option ((List Int))
  | 0=>fun _ _=>none
  | n + 1=>d_spec_l1Places_L1_B fu n1 (d_spec_l1Places_L1 fu n1 n)

def d_spec_l1Places (fu:Nat) (n1:Int):Option ((List Int)) :=
  d_spec_l1Places_L1 fu n1 fu (([]:List Int)) 0

def d_spec_l1Merge_J1 (fu:Nat) (k3:List Int → Int → Int → Option ((List Int))) (Ah:List Int) (Ai:Bool) (Ac:(List Int)) (Ae:(List Int)) (Ad:List Int) (Aa:Int) (Ab:Int)  : Option ((List Int)) :=
  bif (Ab == ((Ae.length:Int))) then obind (ix Ac Aa) fun Aw=>obind (apnd 8 Ad (([Aw]:List Int))) fun Am=>k3 Am (w64 (Aa + 1)) Ab else bif (Aa == ((Ac.length:Int))) then obind (ix Ae Ab) fun Ap=>obind (apnd 8 Ad (([Ap]:List Int))) fun Au=>k3 Au Aa (w64 (Ab + 1)) else obind (ix Ae Ab) fun Ag=>obind (ix Ah Ag) fun Aj=>obind (ix Ac Aa) fun Af=>obind (ix Ah Af) fun Ak=>bif (decide (Aj < Ak)) then bif (!Ai) then obind (ix Ae Ab) fun Bd=>obind (apnd 8 Ad (([Ag]:List Int))) fun Av=>k3 Av Aa (w64 (Ab + 1)) else obind (ix Ae Ab) fun Bc=>obind (ix Ah Ag) fun Be=>obind (ix Ac Aa) fun Bl=>obind (ix Ah Af) fun Bb=>bif (decide (Aj > Ak)) then bif Ai then obind (ix Ae Ab) fun Bj=>obind (apnd 8 Ad (([Ag]:List Int))) fun As=>k3 As Aa (w64 (Ab + 1)) else obind (ix Ac Aa) fun Ay=>obind (apnd 8 Ad (([Af]:List Int))) fun Aq=>k3 Aq (w64 (Aa + 1)) Ab else obind (ix Ac Aa) fun Ax=>obind (apnd 8 Ad (([Af]:List Int))) fun Ar=>k3 Ar (w64 (Aa + 1)) Ab else obind (ix Ae Ab) fun Bh=>obind (ix Ah Ag) fun Bk=>obind (ix Ac Aa) fun Ba=>obind (ix Ah Af) fun Az=>bif (decide (Aj > Ak)) then bif Ai then obind (ix Ae Ab) fun Bi=>obind (apnd 8 Ad (([Ag]:List Int))) fun Ao=>k3 Ao Aa (w64 (Ab + 1)) else obind (ix Ac Aa) fun Bg=>obind (apnd 8 Ad (([Af]:List Int))) fun Al=>k3 Al (w64 (Aa + 1)) Ab else obind (ix Ac Aa) fun Bf=>obind (apnd 8 Ad (([Af]:List Int))) fun At=>k3 At (w64 (Aa + 1)) Ab

def d_spec_l1Merge_L1_B (fu:Nat)  (Ag:List Int) (Af:Bool) (Ab:(List Int)) (Ac:(List Int)) (k3:List Int → Int → Int → Option ((List Int))) (Ae:List Int) (Aa:Int) (Ad:Int):Option ((List Int)) :=
  bif (decide (Aa < ((Ab.length:Int)))) then d_spec_l1Merge_J1 fu k3 Ag Af Ab Ac Ae Aa Ad else bif (decide (Ad < ((Ac.length:Int)))) then d_spec_l1Merge_J1 fu k3 Ag Af Ab Ac Ae Aa Ad else some (Ae)
def d_spec_l1Merge_L1 (fu:Nat)  (Ad:List Int) (Aa:Bool) (Ac:(List Int)) (Ab:(List Int)):Nat → List Int → Int → Int → Option ((List Int))
  | 0=>fun _ _ _=>none
  | n + 1=>d_spec_l1Merge_L1_B fu Ad Aa Ac Ab (d_spec_l1Merge_L1 fu Ad Aa Ac Ab n)

def d_spec_l1Merge_RB (fu:Nat) (self:List Int → List Int → Bool → Option ((List Int))) (Ac:List Int) (Aa:List Int) (Ab:Bool):Option ((List Int)) :=
  bif (decide (((Aa.length:Int)) < 2)) then obind (apnd 8 (([]:List Int)) Aa) fun Af=>some (Af) else obind (sls Aa 0 (w64 (Int.tdiv ((Aa.length:Int)) 2))) fun Ah=>obind (self Ac Ah Ab) fun Ad=>obind (sls Aa (w64 (Int.tdiv ((Aa.length:Int)) 2)) (Aa.length:Int)) fun Ag=>obind (self Ac Ag Ab) fun Ae=>d_spec_l1Merge_L1 fu Ac Ab Ad Ae fu (([]:List Int)) 0 0
def d_spec_l1Merge_R (fu:Nat):Nat → List Int → List Int → Bool → Option ((List Int))
  | 0=>fun _ _ _=>none
  | n + 1=>d_spec_l1Merge_RB fu (d_spec_l1Merge_R fu n)
def d_spec_l1Merge (fu:Nat) (Ab:List Int) (Ac:List Int) (Aa:Bool):Option ((List Int)):=d_spec_l1Merge_R fu fu Ab Ac Aa

def d_spec_SortUp (fu:Nat) (Aa:List Int):Option ((List Int)) :=
  obind (d_spec_l1Places fu ((Aa.length:Int))) fun x5=>obind (d_spec_l1Merge fu Aa x5 false) fun Ab=>some (Ab)

def d_spec_l5Sides (fu:Nat) (Aa:Int) (h2:Int) (d3:Int):Option ((List Int)) :=
  obind (d_spec_SortUp fu (([Aa,h2,d3]:List Int))) fun x9=>obind (ix x9 0) fun Ab=>obind (ix (([Aa,h2,d3]:List Int)) Ab) fun Ag=>obind (ix x9 1) fun Ae=>obind (ix (([Aa,h2,d3]:List Int)) Ae) fun Ac=>obind (ix x9 2) fun Ad=>obind (ix (([Aa,h2,d3]:List Int)) Ad) fun Af=>some (([Ag,Ac,Af]:List Int))

def d_spec_Fits (fu:Nat) (x1:Item) (t2:Typ):Option (Bool) :=
  obind (d_spec_l5Sides fu x1.fW x1.fH x1.fD) fun Ab=>obind (d_spec_l5Sides fu t2.fW t2.fH t2.fD) fun Aa=>obind (ix Ab 0) fun Ae=>obind (ix Aa 0) fun Ag=>bif (decide (Ae ≤ Ag)) then obind (ix Ab 1) fun Ad=>obind (ix Aa 1) fun Af=>bif (decide (Ad ≤ Af)) then obind (ix Ab 2) fun Ah=>obind (ix Aa 2) fun Ac=>bif (decide (Ah ≤ Ac)) then some (decide (x1.fGram ≤ t2.fGram)) else some (false) else some (false) else some (false)

def d_spec_Class_J1 (fu:Nat) (k4:Int → Option (Int)) (Aa:Int)  : Option (Int) :=
  k4 (w64 (Aa + 1))

def d_spec_Class_L1_B (fu:Nat)  (r1:Request) (k4:Int → Option (Int)) (Ab:Int):Option (Int) :=
  bif (decide (Ab < ((r1.fTypes.length:Int)))) then obind (ix r1.fTypes Ab) fun Aa=>bif (decide (Aa.fW > r1.fPallet.fW)) then some (6) else bif (decide (Aa.fD > r1.fPallet.fD)) then some (6) else bif (decide (Aa.fH > r1.fPallet.fH)) then some (6) else bif (decide ((w64 (Aa.fTare + Aa.fGram)) > r1.fPallet.fGram)) then some (6) else d_spec_Class_J1 fu k4 Ab else some (0)
def d_spec_Class_L1 (fu:Nat)  (r1:Request):Nat → Int → Option (Int)
  | 0=>fun _=>none
  | n + 1=>d_spec_Class_L1_B fu r1 (d_spec_Class_L1 fu r1 n)

def d_spec_Class_L2_B (fu:Nat)  (r1:Request) (Ab:Typ × Bool) (k1:Int → Option (Int)) (Aa:Int):Option (Int) :=
  bif (decide (Aa < ((r1.fItems.length:Int)))) then obind (ix r1.fItems Aa) fun Ad=>obind (d_spec_Fits fu Ad Ab.1) fun Ac=>bif (!Ac) then some (5) else k1 (w64 (Aa + 1)) else d_spec_Class_L1 fu r1 fu 0
def d_spec_Class_L2 (fu:Nat)  (r1:Request) (Aa:Typ × Bool):Nat → Int → Option (Int)
  | 0=>fun _=>none
  | n + 1=>d_spec_Class_L2_B fu r1 Aa (d_spec_Class_L2 fu r1 Aa n)

def d_spec_Class (fu:Nat) (r1:Request):Option (Int) :=
  obind (d_spec_BoundsOk fu r1) fun Ac=>bif (!Ac) then some (2) else obind (d_spec_l5Names fu r1) fun Ab=>bif (!Ab) then some (3) else obind (d_spec_TableOk fu r1.fPairs r1.fClasses) fun Ad=>bif (!Ad) then some (4) else obind (d_spec_MasterOf fu r1) fun Aa=>d_spec_Class_L2 fu r1 Aa fu 0

def d_spec_l5Good_J1 (fu:Nat) (k3:List Item → Int → Option (Request × Cur)) (Aa:Int) (Ab:List Item):Option (Request × Cur) :=
  k3 Ab (w64 (Aa + 1))

def d_spec_l5Good_L1_B (fu:Nat)  (c1:Cur) (Aa:Request × Cur) (Ag:Typ × Bool) (k3:List Item → Int → Option (Request × Cur)) (Ac:List Item) (Ab:Int):Option (Request × Cur) :=
  bif (decide (Ab < ((Aa.1.fItems.length:Int)))) then obind (ix Aa.1.fItems Ab) fun Ad=>obind (d_spec_Fits fu Ad Ag.1) fun Ae=>bif Ae then obind (ix Aa.1.fItems Ab) fun Ah=>obind (apnd 56 Ac (([Ad]:List Item))) fun Af=>d_spec_l5Good_J1 fu k3 Ab Af else d_spec_l5Good_J1 fu k3 Ab Ac else some ((⟨Aa.1.fWay,(⟨30,25,24,400⟩:Pallet),Aa.1.fClasses,Aa.1.fPairs,Aa.1.fTypes,Aa.1.fMaster,Ac⟩:Request),(⟨c1.fb,Aa.2.fi,Aa.2.fh⟩:Cur))
def d_spec_l5Good_L1 (fu:Nat)  (c1:Cur) (Aa:Request × Cur) (Ab:Typ × Bool):Nat → List Item → Int → Option (Request × Cur)
  | 0=>fun _ _=>none
  | n + 1=>d_spec_l5Good_L1_B fu c1 Aa Ab (d_spec_l5Good_L1 fu c1 Aa Ab n)

def d_spec_l5Good (fu:Nat) (c1:Cur):Option (Request × Cur) :=
  obind (d_spec_l2Right fu c1) fun Aa=>obind (d_spec_Class fu Aa.1) fun Ac=>bif (Ac != 0) then obind (d_spec_MasterOf fu ((⟨Aa.1.fWay,(⟨30,25,24,400⟩:Pallet),Aa.1.fClasses,Aa.1.fPairs,Aa.1.fTypes,Aa.1.fMaster,Aa.1.fItems⟩:Request))) fun Ab=>d_spec_l5Good_L1 fu c1 Aa Ab fu (([]:List Item)) 0 else some (Aa.1,(⟨c1.fb,Aa.2.fi,Aa.2.fh⟩:Cur))

def d_spec_l2Draw_J1 (fu:Nat) (c1:Cur) (Aa:Request × Cur) (Ah:Int) (Ag:Int) (Ae:Int) (Ai:Int) (Af:List Pair) (Ac:List Typ) (Aj:Int) (Ak:List Item) (Ad:Int) (Ab:Int):Option (Request × Cur) :=
  some ((⟨Ah,(⟨Ag,Aa.1.fPallet.fD,Aa.1.fPallet.fH,Ae⟩:Pallet),Ai,Af,Ac,Aj,Ak⟩:Request),(⟨c1.fb,Ad,Ab⟩:Cur))

def d_spec_l2Draw (fu:Nat) (c1:Cur):Option (Request × Cur) :=
  obind (d_spec_l2Right fu c1) fun Aa=>obind (d_spec_l1PickInt fu ((⟨c1.fb,Aa.2.fi,Aa.2.fh⟩:Cur)) (([(-1),0,2001,100001,1000,9223372036854775807]:List Int))) fun Ac=>obind (d_spec_l1Below fu ((⟨c1.fb,Ac.2.fi,Ac.2.fh⟩:Cur)) 20) fun Ab=>bif (Ab.1 == 0) then obind (d_spec_l1PickInt fu ((⟨c1.fb,Ab.2.fi,Ab.2.fh⟩:Cur)) (([(-1),2]:List Int))) fun Ah=>d_spec_l2Draw_J1 fu c1 Aa Ah.1 Aa.1.fPallet.fW Aa.1.fPallet.fGram Aa.1.fClasses Aa.1.fPairs Aa.1.fTypes Aa.1.fMaster Aa.1.fItems Ah.2.fi Ah.2.fh else bif (Ab.1 == 1) then d_spec_l2Draw_J1 fu c1 Aa Aa.1.fWay Ac.1 Aa.1.fPallet.fGram Aa.1.fClasses Aa.1.fPairs Aa.1.fTypes Aa.1.fMaster Aa.1.fItems Ab.2.fi Ab.2.fh else bif (Ab.1 == 2) then d_spec_l2Draw_J1 fu c1 Aa Aa.1.fWay Aa.1.fPallet.fW Ac.1 Aa.1.fClasses Aa.1.fPairs Aa.1.fTypes Aa.1.fMaster Aa.1.fItems Ab.2.fi Ab.2.fh else bif (Ab.1 == 3) then obind (d_spec_l1PickInt fu ((⟨c1.fb,Ab.2.fi,Ab.2.fh⟩:Cur)) (([0,5,1]:List Int))) fun Ag=>d_spec_l2Draw_J1 fu c1 Aa Aa.1.fWay Aa.1.fPallet.fW Aa.1.fPallet.fGram Ag.1 Aa.1.fPairs Aa.1.fTypes Aa.1.fMaster Aa.1.fItems Ag.2.fi Ag.2.fh else bif (Ab.1 == 4) then obind (d_spec_l1Below fu ((⟨c1.fb,Ab.2.fi,Ab.2.fh⟩:Cur)) 6) fun Ak=>obind (d_spec_l1Below fu ((⟨c1.fb,Ak.2.fi,Ak.2.fh⟩:Cur)) 4) fun Ae=>obind (apnd 16 Aa.1.fPairs (([(⟨w64 (Ak.1 - 1),Ae.1⟩:Pair)]:List Pair))) fun Al=>d_spec_l2Draw_J1 fu c1 Aa Aa.1.fWay Aa.1.fPallet.fW Aa.1.fPallet.fGram Aa.1.fClasses Al Aa.1.fTypes Aa.1.fMaster Aa.1.fItems Ae.2.fi Ae.2.fh else bif (Ab.1 == 5) then obind (ix Aa.1.fTypes 0) fun Ap=>d_spec_l2Draw_J1 fu c1 Aa Aa.1.fWay Aa.1.fPallet.fW Aa.1.fPallet.fGram Aa.1.fClasses Aa.1.fPairs (setx Aa.1.fTypes 0 ({ Ap with fH:=Ac.1 })) Aa.1.fMaster Aa.1.fItems Ab.2.fi Ab.2.fh else bif (Ab.1 == 6) then obind (d_spec_l1Below fu ((⟨c1.fb,Ab.2.fi,Ab.2.fh⟩:Cur)) ((Aa.1.fTypes.length:Int))) fun Ad=>obind (ix Aa.1.fTypes Ad.1) fun At=>d_spec_l2Draw_J1 fu c1 Aa Aa.1.fWay Aa.1.fPallet.fW Aa.1.fPallet.fGram Aa.1.fClasses Aa.1.fPairs (setx Aa.1.fTypes Ad.1 ({ At with fGram:=Ac.1 })) Aa.1.fMaster Aa.1.fItems Ad.2.fi Ad.2.fh else bif (Ab.1 == 7) then obind (d_spec_l1PickInt fu ((⟨c1.fb,Ab.2.fi,Ab.2.fh⟩:Cur)) (([8,(-1),1000]:List Int))) fun Ai=>d_spec_l2Draw_J1 fu c1 Aa Aa.1.fWay Aa.1.fPallet.fW Aa.1.fPallet.fGram Aa.1.fClasses Aa.1.fPairs Aa.1.fTypes Ai.1 Aa.1.fItems Ai.2.fi Ai.2.fh else bif (Ab.1 == 8) then obind (d_spec_l1Below fu ((⟨c1.fb,Ab.2.fi,Ab.2.fh⟩:Cur)) 5) fun Aj=>obind (d_spec_l1Below fu ((⟨c1.fb,Aj.2.fi,Aj.2.fh⟩:Cur)) 8) fun Af=>obind (apnd 56 Aa.1.fItems (([(⟨3,1,2,3,4,Aj.1,Af.1⟩:Item)]:List Item))) fun Ar=>d_spec_l2Draw_J1 fu c1 Aa Aa.1.fWay Aa.1.fPallet.fW Aa.1.fPallet.fGram Aa.1.fClasses Aa.1.fPairs Aa.1.fTypes Aa.1.fMaster Ar Af.2.fi Af.2.fh else bif (Ab.1 == 9) then bif (decide (((Aa.1.fItems.length:Int)) > 0)) then obind (ix Aa.1.fItems 0) fun Ao=>d_spec_l2Draw_J1 fu c1 Aa Aa.1.fWay Aa.1.fPallet.fW Aa.1.fPallet.fGram Aa.1.fClasses Aa.1.fPairs Aa.1.fTypes Aa.1.fMaster (setx Aa.1.fItems 0 ({ Ao with fD:=Ac.1 })) Ab.2.fi Ab.2.fh else d_spec_l2Draw_J1 fu c1 Aa Aa.1.fWay Aa.1.fPallet.fW Aa.1.fPallet.fGram Aa.1.fClasses Aa.1.fPairs Aa.1.fTypes Aa.1.fMaster Aa.1.fItems Ab.2.fi Ab.2.fh else bif (Ab.1 == 10) then bif (decide (((Aa.1.fPairs.length:Int)) > 0)) then obind (sls Aa.1.fPairs 1 (Aa.1.fPairs.length:Int)) fun Aq=>d_spec_l2Draw_J1 fu c1 Aa Aa.1.fWay Aa.1.fPallet.fW Aa.1.fPallet.fGram Aa.1.fClasses Aq Aa.1.fTypes Aa.1.fMaster Aa.1.fItems Ab.2.fi Ab.2.fh else d_spec_l2Draw_J1 fu c1 Aa Aa.1.fWay Aa.1.fPallet.fW Aa.1.fPallet.fGram Aa.1.fClasses Aa.1.fPairs Aa.1.fTypes Aa.1.fMaster Aa.1.fItems Ab.2.fi Ab.2.fh else bif (Ab.1 == 11) then obind (ix Aa.1.fTypes 0) fun As=>obind (apnd 56 Aa.1.fTypes (([As]:List Typ))) fun Am=>d_spec_l2Draw_J1 fu c1 Aa Aa.1.fWay Aa.1.fPallet.fW Aa.1.fPallet.fGram Aa.1.fClasses Aa.1.fPairs Am Aa.1.fMaster Aa.1.fItems Ab.2.fi Ab.2.fh else bif (Ab.1 == 12) then d_spec_l2Draw_J1 fu c1 Aa Aa.1.fWay Aa.1.fPallet.fW Aa.1.fPallet.fGram Aa.1.fClasses Aa.1.fPairs (([]:List Typ)) Aa.1.fMaster Aa.1.fItems Ab.2.fi Ab.2.fh else d_spec_l2Draw_J1 fu c1 Aa Aa.1.fWay Aa.1.fPallet.fW Aa.1.fPallet.fGram Aa.1.fClasses Aa.1.fPairs Aa.1.fTypes Aa.1.fMaster Aa.1.fItems Ab.2.fi Ab.2.fh

def d_spec_DrawClass (fu:Nat) (Ab:List U8):Option (Request) :=
  obind (d_spec_l1New fu Ab) fun x8=>obind (d_spec_l1Once fu ((⟨Ab,x8.fi,x8.fh⟩:Cur)) 2) fun Aa=>bif Aa.1 then obind (d_spec_l5Good fu ((⟨Ab,Aa.2.fi,Aa.2.fh⟩:Cur))) fun Ac=>some (Ac.1) else obind (d_spec_l2Draw fu ((⟨Ab,Aa.2.fi,Aa.2.fh⟩:Cur))) fun Ad=>some (Ad.1)

def d_spec_l6Units_L1_B (fu:Nat) (k3:List Int → Int → Option ((List Int))) (r1:Request) (Aa:Int) (k4:List Int → Int → Option ((List Int))) (Ac:List Int) (Ab:Int):Option ((List Int)) :=
  obind (ix r1.fItems Aa) fun Ad=>bif (decide (Ab < Ad.fCount)) then obind (apnd 8 Ac (([Aa]:List Int))) fun Ae=>k4 Ae (w64 (Ab + 1)) else k3 Ac (w64 (Aa + 1))
def d_spec_l6Units_L1 (fu:Nat) (k3:List Int → Int → Option ((List Int))) (r1:Request) (Aa:Int):Nat → List Int → Int → Option ((List Int))
  | 0=>fun _ _=>none
  | n + 1=>d_spec_l6Units_L1_B fu k3 r1 Aa (d_spec_l6Units_L1 fu k3 r1 Aa n)

def d_spec_l6Units_L2_B (fu:Nat)  (r1:Request) (k3:List Int → Int → Option ((List Int))) (Aa:List Int) (Ab:Int):Option ((List Int)) :=
  bif (decide (Ab < ((r1.fItems.length:Int)))) then d_spec_l6Units_L1 fu k3 r1 Ab fu Aa 0 else some (Aa)
def d_spec_l6Units_L2 (fu:Nat)  (r1:Request):Nat → List Int → Int → Option ((List Int))
  | 0=>fun _ _=>none
  | n + 1=>d_spec_l6Units_L2_B fu r1 (d_spec_l6Units_L2 fu r1 n)

def d_spec_l6Units (fu:Nat) (r1:Request):Option ((List Int)) :=
  d_spec_l6Units_L2 fu r1 fu (([]:List Int)) 0

def d_spec_l6Item (fu:Nat) (r1:Request) (Aa:List Int) (u9:Int):Option (Item × Bool) :=
  obind (d_spec_l1In fu u9 0 (w64 (((Aa.length:Int)) - 1))) fun Ab=>bif (!Ab) then some ((⟨0,0,0,0,0,0,0⟩:Item),false) else obind (ix Aa u9) fun Ad=>obind (ix r1.fItems Ad) fun Ac=>some (Ac,true)

def d_spec_Volume_J1 (fu:Nat) (Aa:Int) (h2:Int) (d3:Int)  : Option (Int) :=
  some (w64 ((w64 (Aa * h2)) * d3))

def d_spec_Volume (fu:Nat) (Aa:Int) (h2:Int) (d3:Int):Option (Int) :=
  obind (d_spec_l1In fu Aa 0 2000) fun Ad=>bif (!Ad) then some (0) else obind (d_spec_l1In fu h2 0 2000) fun Ac=>bif (!Ac) then some (0) else obind (d_spec_l1In fu d3 0 2000) fun Ab=>bif (!Ab) then some (0) else d_spec_Volume_J1 fu Aa h2 d3

def d_spec_l7Of_J1 (fu:Nat) (k7:L7 → Int → Option (L7)) (Ab:Int) (Aa:L7):Option (L7) :=
  k7 Aa (w64 (Ab + 1))

def d_spec_l7Of_J2 (fu:Nat) (k7:L7 → Int → Option (L7)) (Ab:L7) (Ad:Int) (Aa:Item):Option (L7) :=
  obind (d_spec_Volume fu Aa.fW Aa.fH Aa.fD) fun Ac=>d_spec_l7Of_J1 fu k7 Ad ((⟨w64 (Ab.fvol + Ac),w64 (Ab.fgram + Aa.fGram)⟩:L7))

def d_spec_l7Of_L1_B (fu:Nat)  (r1:Request) (Af:List Int) (Ac:List Int) (k7:L7 → Int → Option (L7)) (Ab:L7) (Aa:Int):Option (L7) :=
  bif (decide (Aa < ((Ac.length:Int)))) then obind (ix Ac Aa) fun Ae=>obind (d_spec_l6Item fu r1 Af Ae) fun Ad=>d_spec_l7Of_J2 fu k7 Ab Aa Ad.1 else some (Ab)
def d_spec_l7Of_L1 (fu:Nat)  (r1:Request) (Aa:List Int) (Ab:List Int):Nat → L7 → Int → Option (L7)
  | 0=>fun _ _=>none
  | n + 1=>d_spec_l7Of_L1_B fu r1 Aa Ab (d_spec_l7Of_L1 fu r1 Aa Ab n)

def d_spec_l7Of (fu:Nat) (r1:Request) (Aa:List Int) (Ab:List Int):Option (L7) :=
  d_spec_l7Of_L1 fu r1 Aa Ab fu ((⟨0,0⟩:L7)) 0

def d_spec_l7Room_J1 (fu:Nat) (m9:Typ) (Aa:L7):Option (Bool) :=
  obind (d_spec_Volume fu m9.fW m9.fH m9.fD) fun Ab=>bif (decide (Aa.fvol ≤ Ab)) then some (decide (Aa.fgram ≤ m9.fGram)) else some (false)

def d_spec_l7Room (fu:Nat) (r1:Request) (Ae:List Int) (m9:Typ) (Af:List Int) (Ac:Int):Option (Bool) :=
  obind (apnd 8 (([]:List Int)) Af) fun Ad=>obind (apnd 8 Ad (([Ac]:List Int))) fun Aa=>obind (d_spec_l7Of fu r1 Ae Aa) fun Ab=>d_spec_l7Room_J1 fu m9 Ab

def d_spec_l18May_J1 (fu:Nat) (k7:Int → Option (Bool)) (Aa:Int)  : Option (Bool) :=
  k7 (w64 (Aa + 1))

def d_spec_l18May_J2 (fu:Nat) (k7:Int → Option (Bool)) (r1:Request) (Aa:Item × Bool) (Ad:Int) (Ab:Item):Option (Bool) :=
  obind (d_spec_Beside fu r1.fPairs Aa.1.fClass Ab.fClass) fun Ac=>bif (!Ac) then some (false) else obind (d_spec_Beside fu r1.fPairs Ab.fClass Aa.1.fClass) fun Ae=>bif (!Ae) then some (false) else d_spec_l18May_J1 fu k7 Ad

def d_spec_l18May_L1_B (fu:Nat)  (r1:Request) (Af:List Int) (Ab:List Int) (Ac:Item × Bool) (k7:Int → Option (Bool)) (Aa:Int):Option (Bool) :=
  bif (decide (Aa < ((Ab.length:Int)))) then obind (ix Ab Aa) fun Ae=>obind (d_spec_l6Item fu r1 Af Ae) fun Ad=>d_spec_l18May_J2 fu k7 r1 Ac Aa Ad.1 else some (true)
def d_spec_l18May_L1 (fu:Nat)  (r1:Request) (Ac:List Int) (Ab:List Int) (Aa:Item × Bool):Nat → Int → Option (Bool)
  | 0=>fun _=>none
  | n + 1=>d_spec_l18May_L1_B fu r1 Ac Ab Aa (d_spec_l18May_L1 fu r1 Ac Ab Aa n)

def d_spec_l18May (fu:Nat) (r1:Request) (Aa:List Int) (Ad:List Int) (Ab:Int):Option (Bool) :=
  obind (d_spec_l6Item fu r1 Aa Ab) fun Ac=>d_spec_l18May_L1 fu r1 Aa Ad Ac fu 0

def d_spec_RivalBy_J1 (fu:Nat) (Aa:List (List Int) → Int → Option ((List (List Int)))) (Ab:Int) (Ac:List (List Int)):Option ((List (List Int))) :=
  Aa Ac (w64 (Ab + 1))

def d_spec_RivalBy_J2 (fu:Nat) (Ab:List Int → Int → Option ((List (List Int)))) (Aa:Int) (Ac:List Int):Option ((List (List Int))) :=
  Ab Ac (w64 (Aa + 1))

def d_spec_RivalBy_J3 (fu:Nat) (Af:List (List Int) → Int → Option ((List (List Int)))) (Aa:List (List Int)) (Ab:Int) (Ae:List Int) (Ac:Int):Option ((List (List Int))) :=
  bif (decide (Ac < ((Ae.length:Int)))) then obind (ix Ae Ac) fun Ad=>obind (ix Ae Ac) fun Ak=>obind (ix Aa Ad) fun Ag=>obind (apnd 8 Ag (([Ab]:List Int))) fun Ah=>obind (ix Aa Ad) fun Aj=>d_spec_RivalBy_J1 fu Af Ab (setx Aa Ad Ah) else obind (apnd 24 Aa [([Ab]:List Int)]) fun Ai=>d_spec_RivalBy_J1 fu Af Ab Ai

def d_spec_RivalBy_J4 (fu:Nat) (Ae:List (List Int) → Int → Option ((List (List Int)))) (Ac:List (List Int)) (Ad:Int) (Ab:List Int) (Aa:Int):Option ((List (List Int))) :=
  bif (decide (Aa < 0)) then d_spec_RivalBy_J3 fu Ae Ac Ad Ab (w64 ((w64 (Aa + ((Ab.length:Int)))) + 1)) else d_spec_RivalBy_J3 fu Ae Ac Ad Ab Aa

def d_spec_RivalBy_L1_B (fu:Nat) (Af:List (List Int) → Int → Option ((List (List Int)))) (r1:Request) (Ag:List Int) (Ak:Typ × Bool) (Ah:(List Int)) (Ad:List (List Int)) (Ac:Int) (Ae:List Int → Int → Option ((List (List Int)))) (Ab:List Int) (Aa:Int):Option ((List (List Int))) :=
  bif (decide (Aa < ((Ad.length:Int)))) then obind (ix Ad Aa) fun Ai=>obind (d_spec_l7Room fu r1 Ah Ak.1 Ai Ac) fun Al=>bif Al then obind (ix Ad Aa) fun Ap=>obind (d_spec_l18May fu r1 Ah Ai Ac) fun Ao=>bif Ao then obind (apnd 8 Ab (([Aa]:List Int))) fun Am=>d_spec_RivalBy_J2 fu Ae Aa Am else d_spec_RivalBy_J2 fu Ae Aa Ab else d_spec_RivalBy_J2 fu Ae Aa Ab else bif (decide (Ac < ((Ag.length:Int)))) then obind (ix Ag Ac) fun Aj=>obind (odiv (w64 (((Ab.length:Int)) + 1))) fun Aq=>d_spec_RivalBy_J4 fu Af Ad Ac Ab (Int.tmod Aj (w64 (((Ab.length:Int)) + 1))) else d_spec_RivalBy_J4 fu Af Ad Ac Ab 0
def d_spec_RivalBy_L1 (fu:Nat) (Ac:List (List Int) → Int → Option ((List (List Int)))) (r1:Request) (Ad:List Int) (Ae:Typ × Bool) (Af:(List Int)) (Aa:List (List Int)) (Ab:Int):Nat → List Int → Int → Option ((List (List Int)))
  | 0=>fun _ _=>none
  | n + 1=>d_spec_RivalBy_L1_B fu Ac r1 Ad Ae Af Aa Ab (d_spec_RivalBy_L1 fu Ac r1 Ad Ae Af Aa Ab n)

def d_spec_RivalBy_L2_B (fu:Nat)  (r1:Request) (Ae:List Int) (Af:Typ × Bool) (Ac:(List Int)) (Ad:List (List Int) → Int → Option ((List (List Int)))) (Aa:List (List Int)) (Ab:Int):Option ((List (List Int))) :=
  bif (decide (Ab < ((Ac.length:Int)))) then d_spec_RivalBy_L1 fu Ad r1 Ae Af Ac Aa Ab fu (([]:List Int)) 0 else some (Aa)
def d_spec_RivalBy_L2 (fu:Nat)  (r1:Request) (Aa:List Int) (Ab:Typ × Bool) (Ac:(List Int)):Nat → List (List Int) → Int → Option ((List (List Int)))
  | 0=>fun _ _=>none
  | n + 1=>d_spec_RivalBy_L2_B fu r1 Aa Ab Ac (d_spec_RivalBy_L2 fu r1 Aa Ab Ac n)

def d_spec_RivalBy (fu:Nat) (r1:Request) (Aa:List Int):Option ((List (List Int))) :=
  obind (d_spec_Class fu r1) fun Ac=>bif (Ac != 0) then some (([]:List (List Int))) else obind (d_spec_MasterOf fu r1) fun Ab=>obind (d_spec_l6Units fu r1) fun Ad=>d_spec_RivalBy_L2 fu r1 Aa Ab Ad fu (([]:List (List Int))) 0

def d_spec_l17Rival_J1 (fu:Nat) (x8:Request) (Aa:List (List Int)):Option (Request × (List (List Int))) :=
  some (x8,Aa)

def d_spec_l17Rival_L1_B (fu:Nat)  (Ac:List U8) (x8:Request) (k1:Int → Int → List Int → Int → Option (Request × (List (List Int)))) (Ag:Int) (Ad:Int) (Af:List Int) (Ae:Int):Option (Request × (List (List Int))) :=
  bif (decide (Ae < 12)) then obind (d_spec_l1Below fu ((⟨Ac,Ag,Ad⟩:Cur)) 5) fun Ab=>obind (apnd 8 Af (([Ab.1]:List Int))) fun Ap=>k1 Ab.2.fi Ab.2.fh Ap (w64 (Ae + 1)) else obind (d_spec_RivalBy fu x8 Af) fun Aa=>bif (decide (((Aa.length:Int)) > 1)) then obind (d_spec_l1Once fu ((⟨Ac,Ag,Ad⟩:Cur)) 6) fun Aj=>bif Aj.1 then obind (ix Aa 0) fun Ao=>obind (ix Aa 1) fun Al=>obind (sls Aa 2 (Aa.length:Int)) fun Am=>obind (apnd 8 (([]:List Int)) Ao) fun Ah=>obind (apnd 8 Ah Al) fun Ai=>obind (apnd 24 (([Ai]:List (List Int))) Am) fun Ak=>d_spec_l17Rival_J1 fu x8 Ak else d_spec_l17Rival_J1 fu x8 Aa else d_spec_l17Rival_J1 fu x8 Aa
def d_spec_l17Rival_L1 (fu:Nat)  (Aa:List U8) (x8:Request):Nat → Int → Int → List Int → Int → Option (Request × (List (List Int)))
  | 0=>fun _ _ _ _=>none
  | n + 1=>d_spec_l17Rival_L1_B fu Aa x8 (d_spec_l17Rival_L1 fu Aa x8 n)

def d_spec_l17Rival (fu:Nat) (Aa:List U8):Option (Request × (List (List Int))) :=
  obind (d_spec_DrawClass fu Aa) fun x8=>obind (d_spec_l1New fu Aa) fun Ab=>d_spec_l17Rival_L1 fu Aa x8 fu Ab.fi Ab.fh (([]:List Int)) 0

def d_spec_DrawMixes (fu:Nat) (Aa:List U8):Option (Request × (List (List Int))) :=
  obind (d_spec_l17Rival fu Aa) fun x8=>some (x8.1,x8.2)

def d_impl_TypeById_1 (fu:Nat) (t1:Typ) (x2:Int):Option (Bool) :=
  some (t1.fId == x2)

def d_slices_IndexFunc_impl_Type_impl_Type_L1_B (fu:Nat)  (Ab:List Typ) (f5:Typ → Option Bool) (k1:Int → Option (Int)) (Aa:Int):Option (Int) :=
  bif (decide (Aa < ((Ab.length:Int)))) then obind (ix Ab Aa) fun Ad=>obind (f5 Ad) fun Ac=>bif Ac then some (Aa) else k1 (w64 (Aa + 1)) else some ((-1))
def d_slices_IndexFunc_impl_Type_impl_Type_L1 (fu:Nat)  (Aa:List Typ) (f5:Typ → Option Bool):Nat → Int → Option (Int)
  | 0=>fun _=>none
  | n + 1=>d_slices_IndexFunc_impl_Type_impl_Type_L1_B fu Aa f5 (d_slices_IndexFunc_impl_Type_impl_Type_L1 fu Aa f5 n)

def d_slices_IndexFunc_impl_Type_impl_Type (fu:Nat) (Aa:List Typ) (f5:Typ → Option Bool):Option (Int) :=
  d_slices_IndexFunc_impl_Type_impl_Type_L1 fu Aa f5 fu 0

def d_impl_TypeById (fu:Nat) (r1:Request) (Ab:Int):Option (Typ × Bool) :=
  obind (d_slices_IndexFunc_impl_Type_impl_Type fu r1.fTypes (fun Ac=>d_impl_TypeById_1 fu Ac Ab)) fun Aa=>bif (decide (Aa < 0)) then some ((⟨0,0,0,0,0,0,0⟩:Typ),false) else obind (ix r1.fTypes Aa) fun Ad=>some (Ad,true)

def d_impl_MasterOf (fu:Nat) (r1:Request):Option (Typ × Bool) :=
  obind (d_impl_TypeById fu r1 r1.fMaster) fun Aa=>some (Aa.1,Aa.2)

def d_impl_in (fu:Nat) (n1:Int) (Aa:Int) (Ab:Int):Option (Bool) :=
  bif (decide (n1 ≥ Aa)) then some (decide (n1 ≤ Ab)) else some (false)

def d_impl_isSide (fu:Nat) (n1:Int):Option (Bool) :=
  obind (d_impl_in fu n1 1 2000) fun x2=>some (x2)

def d_impl_PalletOk (fu:Nat) (x1:Pallet):Option (Bool) :=
  obind (d_impl_isSide fu x1.fW) fun x5=>bif x5 then obind (d_impl_isSide fu x1.fD) fun Ab=>bif Ab then obind (d_impl_isSide fu x1.fH) fun Ac=>bif Ac then obind (d_impl_in fu x1.fGram 1 100000) fun Aa=>some (Aa) else some (false) else some (false) else some (false)

def d_slices_IndexFunc_impl_Pair_impl_Pair_L1_B (fu:Nat)  (Ab:List Pair) (f5:Pair → Option Bool) (k1:Int → Option (Int)) (Aa:Int):Option (Int) :=
  bif (decide (Aa < ((Ab.length:Int)))) then obind (ix Ab Aa) fun Ad=>obind (f5 Ad) fun Ac=>bif Ac then some (Aa) else k1 (w64 (Aa + 1)) else some ((-1))
def d_slices_IndexFunc_impl_Pair_impl_Pair_L1 (fu:Nat)  (Aa:List Pair) (f5:Pair → Option Bool):Nat → Int → Option (Int)
  | 0=>fun _=>none
  | n + 1=>d_slices_IndexFunc_impl_Pair_impl_Pair_L1_B fu Aa f5 (d_slices_IndexFunc_impl_Pair_impl_Pair_L1 fu Aa f5 n)

def d_slices_IndexFunc_impl_Pair_impl_Pair (fu:Nat) (Aa:List Pair) (f5:Pair → Option Bool):Option (Int) :=
  d_slices_IndexFunc_impl_Pair_impl_Pair_L1 fu Aa f5 fu 0

def d_slices_ContainsFunc_impl_Pair_impl_Pair (fu:Nat) (Aa:List Pair) (f5:Pair → Option Bool):Option (Bool) :=
  obind (d_slices_IndexFunc_impl_Pair_impl_Pair fu Aa f5) fun Ab=>some (decide (Ab ≥ 0))

def d_impl_BoundsOk_1 (fu:Nat) (p1:Pair):Option (Bool) :=
  obind (d_impl_in fu p1.fA 0 3) fun x5=>bif (!x5) then some (true) else obind (d_impl_in fu p1.fB 0 3) fun Aa=>some (!Aa)

def d_slices_ContainsFunc_impl_Type_impl_Type (fu:Nat) (Aa:List Typ) (f5:Typ → Option Bool):Option (Bool) :=
  obind (d_slices_IndexFunc_impl_Type_impl_Type fu Aa f5) fun Ab=>some (decide (Ab ≥ 0))

def d_impl_TypeOk (fu:Nat) (x1:Typ):Option (Bool) :=
  obind (d_impl_in fu x1.fId 0 999) fun x5=>bif x5 then obind (d_impl_isSide fu x1.fW) fun Ad=>bif Ad then obind (d_impl_isSide fu x1.fH) fun Aa=>bif Aa then obind (d_impl_isSide fu x1.fD) fun Af=>bif Af then obind (d_impl_in fu x1.fTare 0 100000) fun Ab=>bif Ab then obind (d_impl_in fu x1.fGram 1 100000) fun Ae=>bif Ae then obind (d_impl_in fu x1.fCost 0 100000) fun Ac=>some (Ac) else some (false) else some (false) else some (false) else some (false) else some (false) else some (false)

def d_impl_BoundsOk_2 (fu:Nat) (t1:Typ):Option (Bool) :=
  obind (d_impl_TypeOk fu t1) fun x5=>some (!x5)

def d_impl_ItemOk (fu:Nat) (x1:Item):Option (Bool) :=
  obind (d_impl_in fu x1.fId 0 999) fun x5=>bif x5 then obind (d_impl_isSide fu x1.fW) fun Ad=>bif Ad then obind (d_impl_isSide fu x1.fH) fun Aa=>bif Aa then obind (d_impl_isSide fu x1.fD) fun Af=>bif Af then obind (d_impl_in fu x1.fGram 1 100000) fun Ab=>bif Ab then obind (d_impl_in fu x1.fClass 0 3) fun Ae=>bif Ae then obind (d_impl_in fu x1.fCount 1 6) fun Ac=>some (Ac) else some (false) else some (false) else some (false) else some (false) else some (false) else some (false)

def d_impl_BoundsOk_L1_B (fu:Nat)  (r1:Request) (k3:Int → Int → Option (Bool)) (Ab:Int) (Aa:Int):Option (Bool) :=
  bif (decide (Aa < ((r1.fItems.length:Int)))) then obind (ix r1.fItems Aa) fun Ac=>obind (d_impl_ItemOk fu Ac) fun Ad=>bif (!Ad) then some (false) else k3 (w64 (Ab + Ac.fCount)) (w64 (Aa + 1)) else some (decide (Ab ≤ 12))
def d_impl_BoundsOk_L1 (fu:Nat)  (r1:Request):Nat → Int → Int → Option (Bool)
  | 0=>fun _ _=>none
  | n + 1=>d_impl_BoundsOk_L1_B fu r1 (d_impl_BoundsOk_L1 fu r1 n)

def d_impl_BoundsOk_J1 (fu:Nat) (r1:Request)  : Option (Bool) :=
  d_impl_BoundsOk_L1 fu r1 fu 0 0

def d_impl_BoundsOk_J2 (fu:Nat) (r1:Request)  : Option (Bool) :=
  obind (d_slices_ContainsFunc_impl_Pair_impl_Pair fu r1.fPairs (fun Aa=>d_impl_BoundsOk_1 fu Aa)) fun Ad=>bif Ad then some (false) else obind (d_impl_in fu ((r1.fTypes.length:Int)) 1 5) fun Ab=>bif (!Ab) then some (false) else obind (d_slices_ContainsFunc_impl_Type_impl_Type fu r1.fTypes (fun Af=>d_impl_BoundsOk_2 fu Af)) fun Ac=>bif Ac then some (false) else obind (d_impl_in fu r1.fMaster 0 999) fun Ae=>bif (!Ae) then some (false) else bif (decide (((r1.fItems.length:Int)) > 8)) then some (false) else d_impl_BoundsOk_J1 fu r1

def d_impl_BoundsOk (fu:Nat) (r1:Request):Option (Bool) :=
  obind (d_impl_in fu r1.fWay 0 1) fun Ab=>bif (!Ab) then some (false) else obind (d_impl_PalletOk fu r1.fPallet) fun Ac=>bif (!Ac) then some (false) else obind (d_impl_in fu r1.fClasses 1 4) fun Aa=>bif (!Aa) then some (false) else bif (decide (((r1.fPairs.length:Int)) > 16)) then some (false) else d_impl_BoundsOk_J2 fu r1

def d_impl_namesOk_1 (fu:Nat) (q1:Typ) (x2:Typ):Option (Bool) :=
  some (q1.fId == x2.fId)

def d_impl_namesOk_2 (fu:Nat) (q1:Item) (x2:Item):Option (Bool) :=
  some (q1.fId == x2.fId)

def d_slices_IndexFunc_impl_Item_impl_Item_L1_B (fu:Nat)  (Ab:List Item) (f5:Item → Option Bool) (k1:Int → Option (Int)) (Aa:Int):Option (Int) :=
  bif (decide (Aa < ((Ab.length:Int)))) then obind (ix Ab Aa) fun Ad=>obind (f5 Ad) fun Ac=>bif Ac then some (Aa) else k1 (w64 (Aa + 1)) else some ((-1))
def d_slices_IndexFunc_impl_Item_impl_Item_L1 (fu:Nat)  (Aa:List Item) (f5:Item → Option Bool):Nat → Int → Option (Int)
  | 0=>fun _=>none
  | n + 1=>d_slices_IndexFunc_impl_Item_impl_Item_L1_B fu Aa f5 (d_slices_IndexFunc_impl_Item_impl_Item_L1 fu Aa f5 n)

def d_slices_IndexFunc_impl_Item_impl_Item (fu:Nat) (Aa:List Item) (f5:Item → Option Bool):Option (Int) :=
  d_slices_IndexFunc_impl_Item_impl_Item_L1 fu Aa f5 fu 0

def d_slices_ContainsFunc_impl_Item_impl_Item (fu:Nat) (Aa:List Item) (f5:Item → Option Bool):Option (Bool) :=
  obind (d_slices_IndexFunc_impl_Item_impl_Item fu Aa f5) fun Ab=>some (decide (Ab ≥ 0))

def d_impl_namesOk_3 (fu:Nat) (p1:Pair) (x2:Request):Option (Bool) :=
  bif (decide (p1.fA ≥ x2.fClasses)) then some (true) else some (decide (p1.fB ≥ x2.fClasses))

def d_impl_namesOk_J1 (fu:Nat) (k4:Int → Option (Bool)) (Aa:Int)  : Option (Bool) :=
  k4 (w64 (Aa + 1))

def d_impl_namesOk_L1_B (fu:Nat)  (r1:Request) (k4:Int → Option (Bool)) (Aa:Int):Option (Bool) :=
  bif (decide (Aa < ((r1.fItems.length:Int)))) then obind (ix r1.fItems Aa) fun Ab=>bif (decide (Ab.fClass ≥ r1.fClasses)) then some (false) else obind (sls r1.fItems 0 Aa) fun Ac=>obind (d_slices_ContainsFunc_impl_Item_impl_Item fu Ac (fun Ad=>d_impl_namesOk_2 fu Ad Ab)) fun Af=>bif Af then some (false) else d_impl_namesOk_J1 fu k4 Aa else obind (d_impl_MasterOf fu r1) fun Ag=>bif Ag.2 then obind (d_slices_ContainsFunc_impl_Pair_impl_Pair fu r1.fPairs (fun Ae=>d_impl_namesOk_3 fu Ae r1)) fun Ah=>some (!Ah) else some (false)
def d_impl_namesOk_L1 (fu:Nat)  (r1:Request):Nat → Int → Option (Bool)
  | 0=>fun _=>none
  | n + 1=>d_impl_namesOk_L1_B fu r1 (d_impl_namesOk_L1 fu r1 n)

def d_impl_namesOk_L2_B (fu:Nat)  (r1:Request) (k1:Int → Option (Bool)) (Aa:Int):Option (Bool) :=
  bif (decide (Aa < ((r1.fTypes.length:Int)))) then obind (ix r1.fTypes Aa) fun Ab=>obind (sls r1.fTypes 0 Aa) fun Ad=>obind (d_slices_ContainsFunc_impl_Type_impl_Type fu Ad (fun Ae=>d_impl_namesOk_1 fu Ae Ab)) fun Ac=>bif Ac then some (false) else k1 (w64 (Aa + 1)) else d_impl_namesOk_L1 fu r1 fu 0
def d_impl_namesOk_L2 (fu:Nat)  (r1:Request):Nat → Int → Option (Bool)
  | 0=>fun _=>none
  | n + 1=>d_impl_namesOk_L2_B fu r1 (d_impl_namesOk_L2 fu r1 n)

def d_impl_namesOk (fu:Nat) (r1:Request):Option (Bool) :=
  d_impl_namesOk_L2 fu r1 fu 0

def d_slices_Index_impl_Pair_impl_Pair_L1_B (fu:Nat)  (Ab:List Pair) (v5:Pair) (k1:Int → Option (Int)) (Aa:Int):Option (Int) :=
  bif (decide (Aa < ((Ab.length:Int)))) then obind (ix Ab Aa) fun Ac=>bif (decide (v5 = Ac)) then some (Aa) else k1 (w64 (Aa + 1)) else some ((-1))
def d_slices_Index_impl_Pair_impl_Pair_L1 (fu:Nat)  (Aa:List Pair) (v5:Pair):Nat → Int → Option (Int)
  | 0=>fun _=>none
  | n + 1=>d_slices_Index_impl_Pair_impl_Pair_L1_B fu Aa v5 (d_slices_Index_impl_Pair_impl_Pair_L1 fu Aa v5 n)

def d_slices_Index_impl_Pair_impl_Pair (fu:Nat) (Aa:List Pair) (v5:Pair):Option (Int) :=
  d_slices_Index_impl_Pair_impl_Pair_L1 fu Aa v5 fu 0

def d_slices_Contains_impl_Pair_impl_Pair (fu:Nat) (Aa:List Pair) (v5:Pair):Option (Bool) :=
  obind (d_slices_Index_impl_Pair_impl_Pair fu Aa v5) fun Ab=>some (decide (Ab ≥ 0))

def d_impl_Beside (fu:Nat) (Aa:List Pair) (a5:Int) (b6:Int):Option (Bool) :=
  obind (d_slices_Contains_impl_Pair_impl_Pair fu Aa ((⟨a5,b6⟩:Pair))) fun x7=>some (x7)

def d_impl_TableOk_L1_B (fu:Nat) (k3:Int → Option (Bool)) (Ac:List Pair) (Af:Int) (Ab:Int) (k4:Int → Option (Bool)) (Aa:Int):Option (Bool) :=
  bif (decide (Aa < Af)) then obind (d_impl_Beside fu Ac Ab Aa) fun Ad=>obind (d_impl_Beside fu Ac Aa Ab) fun Ae=>bif (!(Ad == Ae)) then some (false) else k4 (w64 (Aa + 1)) else k3 (w64 (Ab + 1))
def d_impl_TableOk_L1 (fu:Nat) (k3:Int → Option (Bool)) (Ac:List Pair) (Aa:Int) (Ab:Int):Nat → Int → Option (Bool)
  | 0=>fun _=>none
  | n + 1=>d_impl_TableOk_L1_B fu k3 Ac Aa Ab (d_impl_TableOk_L1 fu k3 Ac Aa Ab n)

def d_impl_TableOk_L2_B (fu:Nat)  (Ac:List Pair) (Ab:Int) (k3:Int → Option (Bool)) (Aa:Int):Option (Bool) :=
  bif (decide (Aa < Ab)) then obind (d_impl_Beside fu Ac Aa Aa) fun Ad=>bif (!Ad) then some (false) else d_impl_TableOk_L1 fu k3 Ac Ab Aa fu 0 else some (true)
def d_impl_TableOk_L2 (fu:Nat)  (Ab:List Pair) (Aa:Int):Nat → Int → Option (Bool)
  | 0=>fun _=>none
  | n + 1=>d_impl_TableOk_L2_B fu Ab Aa (d_impl_TableOk_L2 fu Ab Aa n)

def d_impl_TableOk (fu:Nat) (Ab:List Pair) (Aa:Int):Option (Bool) :=
  obind (d_impl_in fu Aa 1 4) fun x6=>bif (!x6) then some (false) else d_impl_TableOk_L2 fu Ab Aa fu 0

def d_slices_Sort_int_int (fu:Nat) (x1:List Int):Option (List Int):=sortI x1

def d_impl_Fits_J1 (fu:Nat) (x1:Item) (t2:Typ) (Ag:List Int) (Ai:List Int):Option (Bool) :=
  obind (d_slices_Sort_int_int fu Ag) fun Aa=>obind (d_slices_Sort_int_int fu Ai) fun Ab=>obind (ix Aa 0) fun Ad=>obind (ix Ab 0) fun Ah=>bif (decide (Ad ≤ Ah)) then obind (ix Aa 1) fun Aj=>obind (ix Ab 1) fun Af=>bif (decide (Aj ≤ Af)) then obind (ix Aa 2) fun Ac=>obind (ix Ab 2) fun Ae=>bif (decide (Ac ≤ Ae)) then some (decide (x1.fGram ≤ t2.fGram)) else some (false) else some (false) else some (false)

def d_impl_Fits (fu:Nat) (x1:Item) (t2:Typ):Option (Bool) :=
  d_impl_Fits_J1 fu x1 t2 (([x1.fW,x1.fH,x1.fD]:List Int)) (([t2.fW,t2.fH,t2.fD]:List Int))

def d_impl_Class_1 (fu:Nat) (x1:Item) (x2:Typ):Option (Bool) :=
  obind (d_impl_Fits fu x1 x2) fun x8=>some (!x8)

def d_impl_Class_2 (fu:Nat) (t1:Typ) (x2:Pallet):Option (Bool) :=
  bif (decide (t1.fW > x2.fW)) then some (true) else bif (decide (t1.fD > x2.fD)) then some (true) else bif (decide (t1.fH > x2.fH)) then some (true) else some (decide ((w64 (t1.fTare + t1.fGram)) > x2.fGram))

def d_impl_Class (fu:Nat) (r1:Request):Option (Int) :=
  obind (d_impl_MasterOf fu r1) fun Ah=>obind (d_impl_BoundsOk fu r1) fun Af=>bif (!Af) then some (2) else obind (d_impl_namesOk fu r1) fun Ae=>bif (!Ae) then some (3) else obind (d_impl_TableOk fu r1.fPairs r1.fClasses) fun Ac=>bif (!Ac) then some (4) else obind (d_slices_ContainsFunc_impl_Item_impl_Item fu r1.fItems (fun Ab=>d_impl_Class_1 fu Ab Ah.1)) fun Aa=>bif Aa then some (5) else obind (d_slices_ContainsFunc_impl_Type_impl_Type fu r1.fTypes (fun Ad=>d_impl_Class_2 fu Ad r1.fPallet)) fun Ag=>bif Ag then some (6) else some (0)

def d_impl_sound (fu:Nat) (r1:Request):Option (Bool) :=
  obind (d_impl_Class fu r1) fun Aa=>some (Aa == 0)

def d_slices_Clone_int_int (fu:Nat) (Aa:List Int):Option ((List Int)) :=
  obind (apnd 8 (([]:List Int)) Aa) fun Ab=>some (Ab)

def d_slices_Compact_int_int (fu:Nat) (x1:List Int):Option (List Int):=cmpI x1

def d_impl_kinds (fu:Nat) (Aa:List Int):Option ((List Int)) :=
  obind (d_slices_Clone_int_int fu Aa) fun x5=>obind (d_slices_Sort_int_int fu x5) fun Ab=>obind (d_slices_Compact_int_int fu Ab) fun Ac=>some (Ac)

def d_impl_Present_L1_B (fu:Nat)  (r1:Request) (k1:List Int → Int → Option ((List Int))) (Ab:List Int) (Aa:Int):Option ((List Int)) :=
  bif (decide (Aa < ((r1.fItems.length:Int)))) then obind (ix r1.fItems Aa) fun Ae=>obind (apnd 8 Ab (([Ae.fClass]:List Int))) fun Ac=>k1 Ac (w64 (Aa + 1)) else obind (d_impl_kinds fu Ab) fun Ad=>some (Ad)
def d_impl_Present_L1 (fu:Nat)  (r1:Request):Nat → List Int → Int → Option ((List Int))
  | 0=>fun _ _=>none
  | n + 1=>d_impl_Present_L1_B fu r1 (d_impl_Present_L1 fu r1 n)

def d_impl_Present (fu:Nat) (r1:Request):Option ((List Int)) :=
  obind (d_impl_sound fu r1) fun Aa=>bif (!Aa) then some (([]:List Int)) else d_impl_Present_L1 fu r1 fu (([]:List Int)) 0

def d_impl_mutual (fu:Nat) (Aa:List Pair) (a5:Int) (b6:Int):Option (Bool) :=
  obind (d_impl_Beside fu Aa a5 b6) fun x7=>bif x7 then obind (d_impl_Beside fu Aa b6 a5) fun Ab=>some (Ab) else some (false)

def d_impl_Groups_1_1 (fu:Nat) (x1:Int) (x2:List Pair) (x8:Int):Option (Bool) :=
  obind (d_impl_mutual fu x2 x8 x1) fun Aa=>some (!Aa)

def d_slices_IndexFunc_int_int_L1_B (fu:Nat)  (Ab:List Int) (f5:Int → Option Bool) (k1:Int → Option (Int)) (Aa:Int):Option (Int) :=
  bif (decide (Aa < ((Ab.length:Int)))) then obind (ix Ab Aa) fun Ad=>obind (f5 Ad) fun Ac=>bif Ac then some (Aa) else k1 (w64 (Aa + 1)) else some ((-1))
def d_slices_IndexFunc_int_int_L1 (fu:Nat)  (Aa:List Int) (f5:Int → Option Bool):Nat → Int → Option (Int)
  | 0=>fun _=>none
  | n + 1=>d_slices_IndexFunc_int_int_L1_B fu Aa f5 (d_slices_IndexFunc_int_int_L1 fu Aa f5 n)

def d_slices_IndexFunc_int_int (fu:Nat) (Aa:List Int) (f5:Int → Option Bool):Option (Int) :=
  d_slices_IndexFunc_int_int_L1 fu Aa f5 fu 0

def d_slices_ContainsFunc_int_int (fu:Nat) (Aa:List Int) (f5:Int → Option Bool):Option (Bool) :=
  obind (d_slices_IndexFunc_int_int fu Aa f5) fun Ab=>some (decide (Ab ≥ 0))

def d_impl_Groups_1 (fu:Nat) (l1:List Int) (x5:List Pair) (Aa:Int):Option (Bool) :=
  obind (d_slices_ContainsFunc_int_int fu l1 (fun Ac=>d_impl_Groups_1_1 fu Ac x5 Aa)) fun Ab=>some (!Ab)

def d_slices_IndexFunc_ints_int_L1_B (fu:Nat)  (Ab:List (List Int)) (f5:(List Int) → Option Bool) (k1:Int → Option (Int)) (Aa:Int):Option (Int) :=
  bif (decide (Aa < ((Ab.length:Int)))) then obind (ix Ab Aa) fun Ac=>obind (f5 Ac) fun Ad=>bif Ad then some (Aa) else k1 (w64 (Aa + 1)) else some ((-1))
def d_slices_IndexFunc_ints_int_L1 (fu:Nat)  (Aa:List (List Int)) (f5:(List Int) → Option Bool):Nat → Int → Option (Int)
  | 0=>fun _=>none
  | n + 1=>d_slices_IndexFunc_ints_int_L1_B fu Aa f5 (d_slices_IndexFunc_ints_int_L1 fu Aa f5 n)

def d_slices_IndexFunc_ints_int (fu:Nat) (Aa:List (List Int)) (f5:(List Int) → Option Bool):Option (Int) :=
  d_slices_IndexFunc_ints_int_L1 fu Aa f5 fu 0

def d_impl_Groups_J1 (fu:Nat) (k3:List (List Int) → Int → Option ((List (List Int)))) (Ab:Int) (Aa:List (List Int)):Option ((List (List Int))) :=
  k3 Aa (w64 (Ab + 1))

def d_impl_Groups_L1_B (fu:Nat)  (Ak:List Pair) (Ae:(List Int)) (k3:List (List Int) → Int → Option ((List (List Int)))) (Aa:List (List Int)) (Ab:Int):Option ((List (List Int))) :=
  bif (decide (Ab < ((Ae.length:Int)))) then obind (ix Ae Ab) fun Ad=>obind (d_impl_in fu Ad 0 3) fun Af=>bif (!Af) then d_impl_Groups_J1 fu k3 Ab Aa else obind (d_slices_IndexFunc_ints_int fu Aa (fun Ai=>d_impl_Groups_1 fu Ai Ak Ad)) fun Ac=>bif (decide (Ac < 0)) then obind (apnd 24 Aa [([Ad]:List Int)]) fun Ag=>d_impl_Groups_J1 fu k3 Ab Ag else obind (ix Aa Ac) fun Aj=>obind (apnd 8 Aj (([Ad]:List Int))) fun Ah=>obind (ix Aa Ac) fun Al=>d_impl_Groups_J1 fu k3 Ab (setx Aa Ac Ah) else some (Aa)
def d_impl_Groups_L1 (fu:Nat)  (Ab:List Pair) (Aa:(List Int)):Nat → List (List Int) → Int → Option ((List (List Int)))
  | 0=>fun _ _=>none
  | n + 1=>d_impl_Groups_L1_B fu Ab Aa (d_impl_Groups_L1 fu Ab Aa n)

def d_impl_Groups (fu:Nat) (Ac:List Pair) (Ab:List Int):Option ((List (List Int))) :=
  obind (d_impl_kinds fu Ab) fun Aa=>d_impl_Groups_L1 fu Ac Aa fu (([]:List (List Int))) 0

def d_impl_GroupsOf (fu:Nat) (r1:Request):Option ((List (List Int))) :=
  obind (d_impl_sound fu r1) fun Aa=>bif (!Aa) then some (([]:List (List Int))) else obind (d_impl_Present fu r1) fun Ab=>obind (d_impl_Groups fu r1.fPairs Ab) fun Ac=>some (Ac)

def d_bits_Mul64 (fu:Nat) (x1:Int) (y2:Int):Option (Int × Int) :=
  some (IntKind.wrap .u64 ((IntKind.wrap .u64 ((IntKind.wrap .u64 ((Int.fdiv x1 (2 ^ (min 32 (IntKind.bits .u64)))) * (Int.fdiv y2 (2 ^ (min 32 (IntKind.bits .u64)))))) + (Int.fdiv (IntKind.wrap .u64 ((IntKind.wrap .u64 ((Int.fdiv x1 (2 ^ (min 32 (IntKind.bits .u64)))) * (IntKind.wrap .u64 (((BitVec.ofInt (IntKind.bits .u64) y2 &&& BitVec.ofInt (IntKind.bits .u64) 4294967295).toNat:Nat):Int)))) + (Int.fdiv (IntKind.wrap .u64 ((IntKind.wrap .u64 (((BitVec.ofInt (IntKind.bits .u64) x1 &&& BitVec.ofInt (IntKind.bits .u64) 4294967295).toNat:Nat):Int)) * (IntKind.wrap .u64 (((BitVec.ofInt (IntKind.bits .u64) y2 &&& BitVec.ofInt (IntKind.bits .u64) 4294967295).toNat:Nat):Int)))) (2 ^ (min 32 (IntKind.bits .u64)))))) (2 ^ (min 32 (IntKind.bits .u64)))))) + (Int.fdiv (IntKind.wrap .u64 ((IntKind.wrap .u64 (((BitVec.ofInt (IntKind.bits .u64) (IntKind.wrap .u64 ((IntKind.wrap .u64 ((Int.fdiv x1 (2 ^ (min 32 (IntKind.bits .u64)))) * (IntKind.wrap .u64 (((BitVec.ofInt (IntKind.bits .u64) y2 &&& BitVec.ofInt (IntKind.bits .u64) 4294967295).toNat:Nat):Int)))) + (Int.fdiv (IntKind.wrap .u64 ((IntKind.wrap .u64 (((BitVec.ofInt (IntKind.bits .u64) x1 &&& BitVec.ofInt (IntKind.bits .u64) 4294967295).toNat:Nat):Int)) * (IntKind.wrap .u64 (((BitVec.ofInt (IntKind.bits .u64) y2 &&& BitVec.ofInt (IntKind.bits .u64) 4294967295).toNat:Nat):Int)))) (2 ^ (min 32 (IntKind.bits .u64)))))) &&& BitVec.ofInt (IntKind.bits .u64) 4294967295).toNat:Nat):Int)) + (IntKind.wrap .u64 ((IntKind.wrap .u64 (((BitVec.ofInt (IntKind.bits .u64) x1 &&& BitVec.ofInt (IntKind.bits .u64) 4294967295).toNat:Nat):Int)) * (Int.fdiv y2 (2 ^ (min 32 (IntKind.bits .u64)))))))) (2 ^ (min 32 (IntKind.bits .u64))))),IntKind.wrap .u64 (x1 * y2))

def d_bits_Mul (fu:Nat) (x1:Int) (y2:Int):Option (Int × Int) :=
  obind (d_bits_Mul64 fu x1 y2) fun x3=>some (x3.1,x3.2)

def d_slices_Repeat_int_int_L1_B (fu:Nat)   (k3:List Int → Int → Option ((List Int))) (Aa:List Int) (Ab:Int):Option ((List Int)) :=
  bif (decide (Ab < ((Aa.length:Int)))) then obind (sls Aa Ab (Aa.length:Int)) fun Ad=>obind (sls Aa 0 Ab) fun Ac=>k3 (cpd Aa Ab Ac) (w64 (Ab + (cpn Aa Ab Ac))) else some (Aa)
def d_slices_Repeat_int_int_L1 (fu:Nat)   : Nat → List Int → Int → Option ((List Int))
  | 0=>fun _ _=>none
  | n + 1=>d_slices_Repeat_int_int_L1_B fu  (d_slices_Repeat_int_int_L1 fu  n)

def d_slices_Repeat_int_int_J1 (fu:Nat) (x1:List Int) (x8:Int × Int)  : Option ((List Int)) :=
  obind (mk 8 (0:Int) (w64 x8.2)) fun Aa=>d_slices_Repeat_int_int_L1 fu fu (cpd Aa 0 x1) (cpn Aa 0 x1)

def d_slices_Repeat_int_int_J2 (fu:Nat) (x1:List Int) (Aa:Int)  : Option ((List Int)) :=
  obind (d_bits_Mul fu (IntKind.wrap .u64 ((x1.length:Int))) (IntKind.wrap .u64 Aa)) fun x8=>bif (decide (x8.1 > 0)) then none else bif (decide (x8.2 > 9223372036854775807)) then none else d_slices_Repeat_int_int_J1 fu x1 x8

def d_slices_Repeat_int_int (fu:Nat) (x1:List Int) (Aa:Int):Option ((List Int)) :=
  bif (decide (Aa < 0)) then none else d_slices_Repeat_int_int_J2 fu x1 Aa

def d_impl_Units_L1_B (fu:Nat)  (r1:Request) (k1:List Int → Int → Option ((List Int))) (Ab:List Int) (Aa:Int):Option ((List Int)) :=
  bif (decide (Aa < ((r1.fItems.length:Int)))) then obind (ix r1.fItems Aa) fun Ac=>obind (d_slices_Repeat_int_int fu (([Aa]:List Int)) Ac.fCount) fun Ae=>obind (apnd 8 Ab Ae) fun Ad=>k1 Ad (w64 (Aa + 1)) else some (Ab)
def d_impl_Units_L1 (fu:Nat)  (r1:Request):Nat → List Int → Int → Option ((List Int))
  | 0=>fun _ _=>none
  | n + 1=>d_impl_Units_L1_B fu r1 (d_impl_Units_L1 fu r1 n)

def d_impl_Units (fu:Nat) (r1:Request):Option ((List Int)) :=
  obind (d_impl_sound fu r1) fun Aa=>bif (!Aa) then some (([]:List Int)) else d_impl_Units_L1 fu r1 fu (([]:List Int)) 0

def d_impl_itemsOf_J1 (fu:Nat) (k3:List Item → Int → Option ((List Item))) (Aa:Int) (Ab:List Item):Option ((List Item)) :=
  k3 Ab (w64 (Aa + 1))

def d_impl_itemsOf_L1_B (fu:Nat)  (r1:Request) (Ac:List Int) (Ae:(List Int)) (k3:List Item → Int → Option ((List Item))) (Ab:List Item) (Aa:Int):Option ((List Item)) :=
  bif (decide (Aa < ((Ac.length:Int)))) then obind (ix Ac Aa) fun Ad=>obind (d_impl_in fu Ad 0 (w64 (((Ae.length:Int)) - 1))) fun Ah=>bif Ah then obind (ix Ae Ad) fun Ag=>obind (ix r1.fItems Ag) fun Ai=>obind (apnd 56 Ab (([Ai]:List Item))) fun Af=>d_impl_itemsOf_J1 fu k3 Aa Af else d_impl_itemsOf_J1 fu k3 Aa Ab else some (Ab)
def d_impl_itemsOf_L1 (fu:Nat)  (r1:Request) (Ab:List Int) (Aa:(List Int)):Nat → List Item → Int → Option ((List Item))
  | 0=>fun _ _=>none
  | n + 1=>d_impl_itemsOf_L1_B fu r1 Ab Aa (d_impl_itemsOf_L1 fu r1 Ab Aa n)

def d_impl_itemsOf (fu:Nat) (r1:Request) (Ab:List Int):Option ((List Item)) :=
  obind (d_impl_Units fu r1) fun Aa=>d_impl_itemsOf_L1 fu r1 Ab Aa fu (([]:List Item)) 0

def d_slices_Index_int_int_L1_B (fu:Nat)  (Ab:List Int) (v5:Int) (k1:Int → Option (Int)) (Aa:Int):Option (Int) :=
  bif (decide (Aa < ((Ab.length:Int)))) then obind (ix Ab Aa) fun Ac=>bif (v5 == Ac) then some (Aa) else k1 (w64 (Aa + 1)) else some ((-1))
def d_slices_Index_int_int_L1 (fu:Nat)  (Aa:List Int) (v5:Int):Nat → Int → Option (Int)
  | 0=>fun _=>none
  | n + 1=>d_slices_Index_int_int_L1_B fu Aa v5 (d_slices_Index_int_int_L1 fu Aa v5 n)

def d_slices_Index_int_int (fu:Nat) (Aa:List Int) (v5:Int):Option (Int) :=
  d_slices_Index_int_int_L1 fu Aa v5 fu 0

def d_slices_Contains_int_int (fu:Nat) (Aa:List Int) (v5:Int):Option (Bool) :=
  obind (d_slices_Index_int_int fu Aa v5) fun x6=>some (decide (x6 ≥ 0))

def d_impl_hasOf_1 (fu:Nat) (x1:Item) (x2:List Int):Option (Bool) :=
  obind (d_slices_Contains_int_int fu x2 x1.fClass) fun Aa=>some (Aa)

def d_impl_hasOf (fu:Nat) (r1:Request) (Aa:List Int) (Ad:List Int):Option (Bool) :=
  obind (d_impl_itemsOf fu r1 Ad) fun Ae=>obind (d_slices_ContainsFunc_impl_Item_impl_Item fu Ae (fun Ab=>d_impl_hasOf_1 fu Ab Aa)) fun Ac=>some (Ac)

def d_impl_Mixes_1_J1 (fu:Nat) (k3:Int → Int → Option (Bool)) (Ab:Int) (Aa:Int):Option (Bool) :=
  k3 Aa (w64 (Ab + 1))

def d_impl_Mixes_1_L1_B (fu:Nat)  (l1:List Int) (x5:List (List Int)) (Ad:Request) (k3:Int → Int → Option (Bool)) (Ab:Int) (Aa:Int):Option (Bool) :=
  bif (decide (Aa < ((x5.length:Int)))) then obind (ix x5 Aa) fun Ac=>obind (d_impl_hasOf fu Ad Ac l1) fun Ae=>bif Ae then d_impl_Mixes_1_J1 fu k3 Aa (w64 (Ab + 1)) else d_impl_Mixes_1_J1 fu k3 Aa Ab else some (decide (Ab > 1))
def d_impl_Mixes_1_L1 (fu:Nat)  (l1:List Int) (x5:List (List Int)) (Aa:Request):Nat → Int → Int → Option (Bool)
  | 0=>fun _ _=>none
  | n + 1=>d_impl_Mixes_1_L1_B fu l1 x5 Aa (d_impl_Mixes_1_L1 fu l1 x5 Aa n)

def d_impl_Mixes_1 (fu:Nat) (l1:List Int) (x5:List (List Int)) (Aa:Request):Option (Bool) :=
  d_impl_Mixes_1_L1 fu l1 x5 Aa fu 0 0

def d_slices_ContainsFunc_ints_int (fu:Nat) (Aa:List (List Int)) (f5:(List Int) → Option Bool):Option (Bool) :=
  obind (d_slices_IndexFunc_ints_int fu Aa f5) fun Ab=>some (decide (Ab ≥ 0))

def d_impl_Mixes (fu:Nat) (r1:Request) (Ac:List (List Int)):Option (Bool) :=
  obind (d_impl_GroupsOf fu r1) fun Aa=>obind (d_slices_ContainsFunc_ints_int fu Ac (fun Ad=>d_impl_Mixes_1 fu Ad Aa r1)) fun Ab=>some (Ab)

def d_spec_Units (fu:Nat) (r1:Request):Option ((List Int)) :=
  obind (d_spec_Class fu r1) fun Aa=>bif (Aa != 0) then some (([]:List Int)) else obind (d_spec_l6Units fu r1) fun Ab=>some (Ab)

def d_spec_Present_J1 (fu:Nat) (Ab:List Int → Int → Option ((List Int))) (Ac:Int) (Aa:List Int):Option ((List Int)) :=
  Ab Aa (w64 (Ac + 1))

def d_spec_Present_J2 (fu:Nat) (Aa:Bool → Int → Option ((List Int))) (Ac:Int) (Ab:Bool):Option ((List Int)) :=
  Aa Ab (w64 (Ac + 1))

def d_spec_Present_L1_B (fu:Nat) (Ae:List Int → Int → Option ((List Int))) (r1:Request) (Ac:List Int) (Aa:Int) (Ad:Bool → Int → Option ((List Int))) (Af:Bool) (Ab:Int):Option ((List Int)) :=
  bif (decide (Ab < ((r1.fItems.length:Int)))) then bif Af then d_spec_Present_J2 fu Ad Ab true else obind (ix r1.fItems Ab) fun Ag=>d_spec_Present_J2 fu Ad Ab (Ag.fClass == Aa) else bif Af then obind (apnd 8 Ac (([Aa]:List Int))) fun Ah=>d_spec_Present_J1 fu Ae Aa Ah else d_spec_Present_J1 fu Ae Aa Ac
def d_spec_Present_L1 (fu:Nat) (Aa:List Int → Int → Option ((List Int))) (r1:Request) (Ab:List Int) (Ac:Int):Nat → Bool → Int → Option ((List Int))
  | 0=>fun _ _=>none
  | n + 1=>d_spec_Present_L1_B fu Aa r1 Ab Ac (d_spec_Present_L1 fu Aa r1 Ab Ac n)

def d_spec_Present_L2_B (fu:Nat)  (r1:Request) (Ac:List Int → Int → Option ((List Int))) (Aa:List Int) (Ab:Int):Option ((List Int)) :=
  bif (decide (Ab < 4)) then d_spec_Present_L1 fu Ac r1 Aa Ab fu false 0 else some (Aa)
def d_spec_Present_L2 (fu:Nat)  (r1:Request):Nat → List Int → Int → Option ((List Int))
  | 0=>fun _ _=>none
  | n + 1=>d_spec_Present_L2_B fu r1 (d_spec_Present_L2 fu r1 n)

def d_spec_Present (fu:Nat) (r1:Request):Option ((List Int)) :=
  obind (d_spec_Class fu r1) fun Aa=>bif (Aa != 0) then some (([]:List Int)) else d_spec_Present_L2 fu r1 fu (([]:List Int)) 0

def d_spec_l1Has_L1_B (fu:Nat)  (Ab:List Int) (x5:Int) (k1:Int → Option (Bool)) (Aa:Int):Option (Bool) :=
  bif (decide (Aa < ((Ab.length:Int)))) then obind (ix Ab Aa) fun Ac=>bif (Ac == x5) then some (true) else k1 (w64 (Aa + 1)) else some (false)
def d_spec_l1Has_L1 (fu:Nat)  (Aa:List Int) (x5:Int):Nat → Int → Option (Bool)
  | 0=>fun _=>none
  | n + 1=>d_spec_l1Has_L1_B fu Aa x5 (d_spec_l1Has_L1 fu Aa x5 n)

def d_spec_l1Has (fu:Nat) (Aa:List Int) (x5:Int):Option (Bool) :=
  d_spec_l1Has_L1 fu Aa x5 fu 0

def d_spec_l3Joins_J1 (fu:Nat) (k3:Int → Option (Bool)) (Aa:Int)  : Option (Bool) :=
  k3 (w64 (Aa + 1))

def d_spec_l3Joins_L1_B (fu:Nat)  (Ae:List Pair) (Ab:List Int) (Ac:Int) (k3:Int → Option (Bool)) (Aa:Int):Option (Bool) :=
  bif (decide (Aa < ((Ab.length:Int)))) then obind (ix Ab Aa) fun Ad=>obind (d_spec_Beside fu Ae Ad Ac) fun Ag=>bif (!Ag) then some (false) else obind (ix Ab Aa) fun Ah=>obind (d_spec_Beside fu Ae Ac Ad) fun Af=>bif (!Af) then some (false) else d_spec_l3Joins_J1 fu k3 Aa else some (true)
def d_spec_l3Joins_L1 (fu:Nat)  (Ac:List Pair) (Ab:List Int) (Aa:Int):Nat → Int → Option (Bool)
  | 0=>fun _=>none
  | n + 1=>d_spec_l3Joins_L1_B fu Ac Ab Aa (d_spec_l3Joins_L1 fu Ac Ab Aa n)

def d_spec_l3Joins (fu:Nat) (Ac:List Pair) (Ab:List Int) (Aa:Int):Option (Bool) :=
  d_spec_l3Joins_L1 fu Ac Ab Aa fu 0

def d_spec_Groups_J1 (fu:Nat) (Ac:List (List Int) → Int → Option ((List (List Int)))) (Ab:Int) (Aa:List (List Int)):Option ((List (List Int))) :=
  Ac Aa (w64 (Ab + 1))

def d_spec_Groups_J2 (fu:Nat) (Aa:Int → Int → Option ((List (List Int)))) (Ab:Int) (Ac:Int):Option ((List (List Int))) :=
  Aa Ac (w64 (Ab - 1))

def d_spec_Groups_L1_B (fu:Nat) (Af:List (List Int) → Int → Option ((List (List Int)))) (Ah:List Pair) (Aa:List (List Int)) (Ac:Int) (Ae:Int → Int → Option ((List (List Int)))) (Ad:Int) (Ab:Int):Option ((List (List Int))) :=
  bif (decide (Ab ≥ 0)) then obind (ix Aa Ab) fun Ak=>obind (d_spec_l3Joins fu Ah Ak Ac) fun Ag=>bif Ag then d_spec_Groups_J2 fu Ae Ab Ab else d_spec_Groups_J2 fu Ae Ab Ad else bif (decide (Ad < 0)) then obind (apnd 24 Aa [([Ac]:List Int)]) fun Ai=>d_spec_Groups_J1 fu Af Ac Ai else obind (ix Aa Ad) fun Al=>obind (apnd 8 Al (([Ac]:List Int))) fun Aj=>obind (ix Aa Ad) fun Am=>d_spec_Groups_J1 fu Af Ac (setx Aa Ad Aj)
def d_spec_Groups_L1 (fu:Nat) (Ac:List (List Int) → Int → Option ((List (List Int)))) (Ad:List Pair) (Aa:List (List Int)) (Ab:Int):Nat → Int → Int → Option ((List (List Int)))
  | 0=>fun _ _=>none
  | n + 1=>d_spec_Groups_L1_B fu Ac Ad Aa Ab (d_spec_Groups_L1 fu Ac Ad Aa Ab n)

def d_spec_Groups_L2_B (fu:Nat)  (Af:List Pair) (Ae:List Int) (Ac:List (List Int) → Int → Option ((List (List Int)))) (Aa:List (List Int)) (Ab:Int):Option ((List (List Int))) :=
  bif (decide (Ab < 4)) then obind (d_spec_l1Has fu Ae Ab) fun Ad=>bif (!Ad) then d_spec_Groups_J1 fu Ac Ab Aa else d_spec_Groups_L1 fu Ac Af Aa Ab fu ((-1)) (w64 (((Aa.length:Int)) - 1)) else some (Aa)
def d_spec_Groups_L2 (fu:Nat)  (Ab:List Pair) (Aa:List Int):Nat → List (List Int) → Int → Option ((List (List Int)))
  | 0=>fun _ _=>none
  | n + 1=>d_spec_Groups_L2_B fu Ab Aa (d_spec_Groups_L2 fu Ab Aa n)

def d_spec_Groups (fu:Nat) (Ab:List Pair) (Aa:List Int):Option ((List (List Int))) :=
  d_spec_Groups_L2 fu Ab Aa fu (([]:List (List Int))) 0

def d_spec_GroupsOf (fu:Nat) (r1:Request):Option ((List (List Int))) :=
  obind (d_spec_Present fu r1) fun Aa=>obind (d_spec_Groups fu r1.fPairs Aa) fun Ab=>some (Ab)

def d_spec_GroupOf_L1_B (fu:Nat)  (Ab:List (List Int)) (Ae:Int) (k1:Int → Option (Int)) (Aa:Int):Option (Int) :=
  bif (decide (Aa < ((Ab.length:Int)))) then obind (ix Ab Aa) fun Ac=>obind (d_spec_l1Has fu Ac Ae) fun Ad=>bif Ad then some (Aa) else k1 (w64 (Aa + 1)) else some ((-1))
def d_spec_GroupOf_L1 (fu:Nat)  (Aa:List (List Int)) (Ab:Int):Nat → Int → Option (Int)
  | 0=>fun _=>none
  | n + 1=>d_spec_GroupOf_L1_B fu Aa Ab (d_spec_GroupOf_L1 fu Aa Ab n)

def d_spec_GroupOf (fu:Nat) (Aa:List (List Int)) (Ab:Int):Option (Int) :=
  d_spec_GroupOf_L1 fu Aa Ab fu 0

def d_spec_Mixes_J1 (fu:Nat) (Ab:Int → Option (Bool)) (Aa:Int)  : Option (Bool) :=
  Ab (w64 (Aa + 1))

def d_spec_Mixes_J2 (fu:Nat) (Aa:Int → Option (Bool)) (Ab:Int)  : Option (Bool) :=
  Aa (w64 (Ab + 1))

def d_spec_Mixes_J3 (fu:Nat) (Ab:Int → Option (Bool)) (Aa:Int)  : Option (Bool) :=
  Ab (w64 (Aa + 1))

def d_spec_Mixes_J4 (fu:Nat) (Aa:Int → Option (Bool)) (Ac:(List (List Int))) (Ab:Int) (Ag:Item) (Ai:Bool) (Af:Item) (Ae:Bool):Option (Bool) :=
  bif Ai then bif Ae then obind (d_spec_GroupOf fu Ac Ag.fClass) fun Ah=>obind (d_spec_GroupOf fu Ac Af.fClass) fun Ad=>bif (Ah != Ad) then some (true) else d_spec_Mixes_J3 fu Aa Ab else d_spec_Mixes_J3 fu Aa Ab else d_spec_Mixes_J3 fu Aa Ab

def d_spec_Mixes_J5 (fu:Nat) (Ac:Int → Option (Bool)) (r1:Request) (Ae:List (List Int)) (Ag:(List Int)) (Ah:(List (List Int))) (Ai:Int) (Aa:Int) (Af:Item) (Ak:Bool):Option (Bool) :=
  obind (ix Ae Ai) fun Ad=>obind (ix Ad Aa) fun Aj=>obind (d_spec_l6Item fu r1 Ag Aj) fun Ab=>d_spec_Mixes_J4 fu Ac Ah Aa Af Ak Ab.1 Ab.2

def d_spec_Mixes_L1_B (fu:Nat) (Ai:Int → Option (Bool)) (r1:Request) (Ac:List (List Int)) (Ae:(List Int)) (Aj:(List (List Int))) (Af:Int) (Aa:Int) (Ag:Int → Option (Bool)) (Ab:Int):Option (Bool) :=
  bif (decide (Ab < Aa)) then obind (ix Ac Af) fun Ak=>obind (ix Ak Aa) fun Ah=>obind (d_spec_l6Item fu r1 Ae Ah) fun Ad=>d_spec_Mixes_J5 fu Ag r1 Ac Ae Aj Af Ab Ad.1 Ad.2 else d_spec_Mixes_J2 fu Ai Aa
def d_spec_Mixes_L1 (fu:Nat) (Ab:Int → Option (Bool)) (r1:Request) (Aa:List (List Int)) (Ad:(List Int)) (Ae:(List (List Int))) (Af:Int) (Ac:Int):Nat → Int → Option (Bool)
  | 0=>fun _=>none
  | n + 1=>d_spec_Mixes_L1_B fu Ab r1 Aa Ad Ae Af Ac (d_spec_Mixes_L1 fu Ab r1 Aa Ad Ae Af Ac n)

def d_spec_Mixes_L2_B (fu:Nat) (Ae:Int → Option (Bool)) (r1:Request) (Ab:List (List Int)) (Ag:(List Int)) (Ah:(List (List Int))) (Aa:Int) (Af:Int → Option (Bool)) (Ac:Int):Option (Bool) :=
  obind (ix Ab Aa) fun Ad=>bif (decide (Ac < ((Ad.length:Int)))) then d_spec_Mixes_L1 fu Af r1 Ab Ag Ah Aa Ac fu 0 else d_spec_Mixes_J1 fu Ae Aa
def d_spec_Mixes_L2 (fu:Nat) (Aa:Int → Option (Bool)) (r1:Request) (Ab:List (List Int)) (Ac:(List Int)) (Ad:(List (List Int))) (Ae:Int):Nat → Int → Option (Bool)
  | 0=>fun _=>none
  | n + 1=>d_spec_Mixes_L2_B fu Aa r1 Ab Ac Ad Ae (d_spec_Mixes_L2 fu Aa r1 Ab Ac Ad Ae n)

def d_spec_Mixes_L3_B (fu:Nat)  (r1:Request) (Aa:List (List Int)) (Ad:(List Int)) (Ae:(List (List Int))) (Ac:Int → Option (Bool)) (Ab:Int):Option (Bool) :=
  bif (decide (Ab < ((Aa.length:Int)))) then d_spec_Mixes_L2 fu Ac r1 Aa Ad Ae Ab fu 0 else some (false)
def d_spec_Mixes_L3 (fu:Nat)  (r1:Request) (Ac:List (List Int)) (Aa:(List Int)) (Ab:(List (List Int))):Nat → Int → Option (Bool)
  | 0=>fun _=>none
  | n + 1=>d_spec_Mixes_L3_B fu r1 Ac Aa Ab (d_spec_Mixes_L3 fu r1 Ac Aa Ab n)

def d_spec_Mixes (fu:Nat) (r1:Request) (Ac:List (List Int)):Option (Bool) :=
  obind (d_spec_Units fu r1) fun Aa=>obind (d_spec_GroupsOf fu r1) fun Ab=>d_spec_Mixes_L3 fu r1 Ac Aa Ab fu 0

def d_impl_places_L1_B (fu:Nat)  (n1:Int) (k1:List Int → Int → Option ((List Int))) (Ab:List Int) (Aa:Int):Option ((List Int)) :=
  bif (decide (Aa < n1)) then obind (apnd 8 Ab (([Aa]:List Int))) fun Ac=>k1 Ac (w64 (Aa + 1)) else some (Ab)
def d_impl_places_L1 (fu:Nat)  (n1:Int):Nat → List Int → Int → Option ((List Int))
  | 0=>fun _ _=>none
  | n + 1=>d_impl_places_L1_B fu n1 (d_impl_places_L1 fu n1 n)

def d_impl_places (fu:Nat) (n1:Int):Option ((List Int)) :=
  d_impl_places_L1 fu n1 fu (([]:List Int)) 0

def d_impl_Volume_J1 (fu:Nat) (Aa:Int) (h2:Int) (d3:Int)  : Option (Int) :=
  some (w64 ((w64 (Aa * h2)) * d3))

def d_impl_Volume (fu:Nat) (Aa:Int) (h2:Int) (d3:Int):Option (Int) :=
  obind (d_impl_in fu Aa 0 2000) fun Ad=>bif (!Ad) then some (0) else obind (d_impl_in fu h2 0 2000) fun Ac=>bif (!Ac) then some (0) else obind (d_impl_in fu d3 0 2000) fun Ab=>bif (!Ab) then some (0) else d_impl_Volume_J1 fu Aa h2 d3

def d_impl_VolumeOf_L1_B (fu:Nat)  (Ad:(List Item)) (k1:Int → Int → Option (Int)) (Ac:Int) (Ab:Int):Option (Int) :=
  bif (decide (Ab < ((Ad.length:Int)))) then obind (ix Ad Ab) fun Aa=>obind (d_impl_Volume fu Aa.fW Aa.fH Aa.fD) fun Ae=>k1 (w64 (Ac + Ae)) (w64 (Ab + 1)) else some (Ac)
def d_impl_VolumeOf_L1 (fu:Nat)  (Aa:(List Item)):Nat → Int → Int → Option (Int)
  | 0=>fun _ _=>none
  | n + 1=>d_impl_VolumeOf_L1_B fu Aa (d_impl_VolumeOf_L1 fu Aa n)

def d_impl_VolumeOf (fu:Nat) (r1:Request) (Ab:List Int):Option (Int) :=
  obind (d_impl_itemsOf fu r1 Ab) fun Aa=>d_impl_VolumeOf_L1 fu Aa fu 0 0

def d_impl_GramOf_L1_B (fu:Nat)  (Ab:(List Item)) (k1:Int → Int → Option (Int)) (Ac:Int) (Aa:Int):Option (Int) :=
  bif (decide (Aa < ((Ab.length:Int)))) then obind (ix Ab Aa) fun Ad=>k1 (w64 (Ac + Ad.fGram)) (w64 (Aa + 1)) else some (Ac)
def d_impl_GramOf_L1 (fu:Nat)  (Aa:(List Item)):Nat → Int → Int → Option (Int)
  | 0=>fun _ _=>none
  | n + 1=>d_impl_GramOf_L1_B fu Aa (d_impl_GramOf_L1 fu Aa n)

def d_impl_GramOf (fu:Nat) (r1:Request) (Ab:List Int):Option (Int) :=
  obind (d_impl_itemsOf fu r1 Ab) fun Aa=>d_impl_GramOf_L1 fu Aa fu 0 0

def d_impl_within (fu:Nat) (r1:Request) (Aa:List Int) (t9:Typ):Option (Bool) :=
  obind (d_impl_VolumeOf fu r1 Aa) fun Ac=>obind (d_impl_Volume fu t9.fW t9.fH t9.fD) fun Ab=>bif (decide (Ac ≤ Ab)) then obind (d_impl_GramOf fu r1 Aa) fun Ad=>some (decide (Ad ≤ t9.fGram)) else some (false)

def d_impl_thereOf_1 (fu:Nat) (u1:Int) (x2:Int):Option (Bool) :=
  obind (d_impl_in fu u1 0 (w64 (x2 - 1))) fun x5=>some (!x5)

def d_slices_DeleteFunc_int_int_J1 (fu:Nat) (k3:List Int → Int → Int → Option ((List Int))) (Ac:Int) (Ab:List Int) (Aa:Int):Option ((List Int)) :=
  k3 Ab Aa (w64 (Ac + 1))

def d_slices_DeleteFunc_int_int_L1_B (fu:Nat)  (f5:Int → Option Bool) (k3:List Int → Int → Int → Option ((List Int))) (Aa:List Int) (Ab:Int) (Ac:Int):Option ((List Int)) :=
  bif (decide (Ac < ((Aa.length:Int)))) then obind (ix Aa Ac) fun Ad=>obind (f5 Ad) fun Ae=>bif (!Ae) then obind (ix Aa Ab) fun Ah=>d_slices_DeleteFunc_int_int_J1 fu k3 Ac (setx Aa Ab Ad) (w64 (Ab + 1)) else d_slices_DeleteFunc_int_int_J1 fu k3 Ac Aa Ab else obind (sls Aa Ab (Aa.length:Int)) fun Ag=>obind (sls (clrd Aa Ab) 0 Ab) fun Af=>some (Af)
def d_slices_DeleteFunc_int_int_L1 (fu:Nat)  (f5:Int → Option Bool):Nat → List Int → Int → Int → Option ((List Int))
  | 0=>fun _ _ _=>none
  | n + 1=>d_slices_DeleteFunc_int_int_L1_B fu f5 (d_slices_DeleteFunc_int_int_L1 fu f5 n)

def d_slices_DeleteFunc_int_int (fu:Nat) (Aa:List Int) (f5:Int → Option Bool):Option ((List Int)) :=
  obind (d_slices_IndexFunc_int_int fu Aa f5) fun Ab=>bif (Ab == ((-1))) then some (Aa) else d_slices_DeleteFunc_int_int_L1 fu f5 fu Aa Ab (w64 (Ab + 1))

def d_impl_thereOf (fu:Nat) (r1:Request) (Aa:List Int):Option ((List Int)) :=
  obind (d_impl_Units fu r1) fun Ad=>obind (d_slices_Clone_int_int fu Aa) fun Ae=>obind (d_slices_DeleteFunc_int_int fu Ae (fun Ac=>d_impl_thereOf_1 fu Ac ((Ad.length:Int)))) fun Ab=>some (Ab)

def d_slices_Equal_int_int_L1_B (fu:Nat)  (Ab:List Int) (Ae:List Int) (k1:Int → Option (Bool)) (Aa:Int):Option (Bool) :=
  bif (decide (Aa < ((Ab.length:Int)))) then obind (ix Ab Aa) fun Ac=>obind (ix Ae Aa) fun Ad=>bif (Ac != Ad) then some (false) else k1 (w64 (Aa + 1)) else some (true)
def d_slices_Equal_int_int_L1 (fu:Nat)  (Aa:List Int) (Ab:List Int):Nat → Int → Option (Bool)
  | 0=>fun _=>none
  | n + 1=>d_slices_Equal_int_int_L1_B fu Aa Ab (d_slices_Equal_int_int_L1 fu Aa Ab n)

def d_slices_Equal_int_int (fu:Nat) (Aa:List Int) (Ab:List Int):Option (Bool) :=
  bif (((Aa.length:Int)) != ((Ab.length:Int))) then some (false) else d_slices_Equal_int_int_L1 fu Aa Ab fu 0

def d_impl_IsPacking_J1 (fu:Nat) (k7:List Int → Int → Option (Bool)) (Ab:Int) (Aa:List Int):Option (Bool) :=
  k7 Aa (w64 (Ab + 1))

def d_impl_IsPacking_J2 (fu:Nat) (k7:List Int → Int → Option (Bool)) (Aa:List Int) (Ad:Int) (Ac:List Int)  : Option (Bool) :=
  obind (apnd 8 Aa Ac) fun Ab=>d_impl_IsPacking_J1 fu k7 Ad Ab

def d_impl_IsPacking_L1_B (fu:Nat)  (r1:Request) (Ah:List Int) (Ad:List (List Int)) (Ai:Typ × Bool) (k7:List Int → Int → Option (Bool)) (Ac:List Int) (Aa:Int):Option (Bool) :=
  bif (decide (Aa < ((Ad.length:Int)))) then obind (ix Ad Aa) fun Ab=>bif (((Ab.length:Int)) == 0) then some (false) else obind (d_impl_within fu r1 Ab Ai.1) fun Aj=>bif (!Aj) then some (false) else d_impl_IsPacking_J2 fu k7 Ac Aa Ab else obind (d_impl_thereOf fu r1 Ah) fun Ag=>obind (d_slices_Sort_int_int fu Ac) fun Ak=>obind (d_slices_Sort_int_int fu Ag) fun Af=>obind (d_slices_Equal_int_int fu Ak Af) fun Ae=>some (Ae)
def d_impl_IsPacking_L1 (fu:Nat)  (r1:Request) (Ac:List Int) (Aa:List (List Int)) (Ab:Typ × Bool):Nat → List Int → Int → Option (Bool)
  | 0=>fun _ _=>none
  | n + 1=>d_impl_IsPacking_L1_B fu r1 Ac Aa Ab (d_impl_IsPacking_L1 fu r1 Ac Aa Ab n)

def d_impl_IsPacking (fu:Nat) (r1:Request) (Ac:List Int) (Aa:List (List Int)):Option (Bool) :=
  obind (d_impl_sound fu r1) fun Ad=>bif (!Ad) then some (false) else obind (d_impl_MasterOf fu r1) fun Ab=>d_impl_IsPacking_L1 fu r1 Ac Aa Ab fu (([]:List Int)) 0

def d_impl_mayLie_1_1 (fu:Nat) (y1:Item) (x2:Request) (Ab:Item):Option (Bool) :=
  obind (d_impl_mutual fu x2.fPairs Ab.fClass y1.fClass) fun Aa=>some (!Aa)

def d_impl_mayLie_1 (fu:Nat) (x1:Item) (x2:List Item) (x8:Request):Option (Bool) :=
  obind (d_slices_ContainsFunc_impl_Item_impl_Item fu x2 (fun Ab=>d_impl_mayLie_1_1 fu Ab x8 x1)) fun Aa=>some (Aa)

def d_impl_mayLie (fu:Nat) (r1:Request) (Ae:List Int) (u9:Int):Option (Bool) :=
  obind (d_impl_itemsOf fu r1 (([u9]:List Int))) fun Aa=>obind (d_impl_itemsOf fu r1 Ae) fun Ab=>obind (d_slices_ContainsFunc_impl_Item_impl_Item fu Ab (fun Ac=>d_impl_mayLie_1 fu Ac Aa r1)) fun Ad=>some (!Ad)

def d_impl_IsRival_1_1 (fu:Nat) (u1:Int) (x2:Request) (Ab:List Int):Option (Bool) :=
  obind (d_impl_mayLie fu x2 Ab u1) fun Aa=>some (!Aa)

def d_impl_IsRival_1 (fu:Nat) (l1:List Int) (x5:Request):Option (Bool) :=
  obind (d_slices_ContainsFunc_int_int fu l1 (fun Aa=>d_impl_IsRival_1_1 fu Aa x5 l1)) fun Ab=>some (Ab)

def d_impl_IsRival (fu:Nat) (r1:Request) (Aa:List (List Int)):Option (Bool) :=
  obind (d_impl_Units fu r1) fun Ae=>obind (d_impl_places fu ((Ae.length:Int))) fun Ab=>obind (d_impl_IsPacking fu r1 Ab Aa) fun Af=>bif (!Af) then some (false) else obind (d_slices_ContainsFunc_ints_int fu Aa (fun Ad=>d_impl_IsRival_1 fu Ad r1)) fun Ac=>some (!Ac)

def d_spec_l7Known_J1 (fu:Nat) (k3:List Int → Int → Option ((List Int))) (Aa:Int) (Ab:List Int):Option ((List Int)) :=
  k3 Ab (w64 (Aa + 1))

def d_spec_l7Known_L1_B (fu:Nat)  (Ag:List Int) (Ab:List Int) (k3:List Int → Int → Option ((List Int))) (Ac:List Int) (Aa:Int):Option ((List Int)) :=
  bif (decide (Aa < ((Ab.length:Int)))) then obind (ix Ab Aa) fun Ad=>obind (d_spec_l1In fu Ad 0 (w64 (((Ag.length:Int)) - 1))) fun Ae=>bif Ae then obind (ix Ab Aa) fun Ah=>obind (apnd 8 Ac (([Ad]:List Int))) fun Af=>d_spec_l7Known_J1 fu k3 Aa Af else d_spec_l7Known_J1 fu k3 Aa Ac else some (Ac)
def d_spec_l7Known_L1 (fu:Nat)  (Aa:List Int) (Ab:List Int):Nat → List Int → Int → Option ((List Int))
  | 0=>fun _ _=>none
  | n + 1=>d_spec_l7Known_L1_B fu Aa Ab (d_spec_l7Known_L1 fu Aa Ab n)

def d_spec_l7Known (fu:Nat) (Aa:List Int) (Ab:List Int):Option ((List Int)) :=
  d_spec_l7Known_L1 fu Aa Ab fu (([]:List Int)) 0

def d_spec_l1Bit (fu:Nat) (Aa:Bool):Option (Int) :=
  bif Aa then some (1) else some (0)

def d_spec_l8Times_L1_B (fu:Nat)  (Ab:List Int) (x5:Int) (k1:Int → Int → Option (Int)) (Ac:Int) (Aa:Int):Option (Int) :=
  bif (decide (Aa < ((Ab.length:Int)))) then obind (ix Ab Aa) fun Ad=>obind (d_spec_l1Bit fu (Ad == x5)) fun Ae=>k1 (w64 (Ac + Ae)) (w64 (Aa + 1)) else some (Ac)
def d_spec_l8Times_L1 (fu:Nat)  (Aa:List Int) (x5:Int):Nat → Int → Int → Option (Int)
  | 0=>fun _ _=>none
  | n + 1=>d_spec_l8Times_L1_B fu Aa x5 (d_spec_l8Times_L1 fu Aa x5 n)

def d_spec_l8Times (fu:Nat) (Aa:List Int) (x5:Int):Option (Int) :=
  d_spec_l8Times_L1 fu Aa x5 fu 0 0

def d_spec_IsPacking_L1_B (fu:Nat)  (Ab:List Int) (Ae:(List Int)) (Af:Int → Option (Bool)) (Aa:Int):Option (Bool) :=
  bif (decide (Aa < ((Ab.length:Int)))) then obind (ix Ab Aa) fun Ac=>obind (ix Ab Aa) fun Ah=>obind (d_spec_l8Times fu Ab Ac) fun Ad=>obind (d_spec_l8Times fu Ae Ac) fun Ag=>bif (Ad != Ag) then some (false) else Af (w64 (Aa + 1)) else some (true)
def d_spec_IsPacking_L1 (fu:Nat)  (Ab:List Int) (Aa:(List Int)):Nat → Int → Option (Bool)
  | 0=>fun _=>none
  | n + 1=>d_spec_IsPacking_L1_B fu Ab Aa (d_spec_IsPacking_L1 fu Ab Aa n)

def d_spec_IsPacking_J1 (fu:Nat) (Ac:List Int) (Ad:(List Int)) (Ab:List Int):Option (Bool) :=
  obind (d_spec_l7Known fu Ad Ac) fun Aa=>bif (((Aa.length:Int)) != ((Ab.length:Int))) then some (false) else d_spec_IsPacking_L1 fu Ab Aa fu 0

def d_spec_IsPacking_J2 (fu:Nat) (Ab:List Int → Int → Option (Bool)) (Ac:Int) (Aa:List Int):Option (Bool) :=
  Ab Aa (w64 (Ac + 1))

def d_spec_IsPacking_J3 (fu:Nat) (Ad:List Int → Int → Option (Bool)) (Ac:List (List Int)) (Ab:List Int) (Aa:Int)  : Option (Bool) :=
  obind (ix Ac Aa) fun Ae=>obind (apnd 8 Ab Ae) fun Af=>d_spec_IsPacking_J2 fu Ad Aa Af

def d_spec_IsPacking_J4 (fu:Nat) (Af:List Int → Int → Option (Bool)) (Ab:List (List Int)) (Aa:Typ × Bool) (Ae:List Int) (Ad:Int) (Ac:L7):Option (Bool) :=
  obind (ix Ab Ad) fun Ah=>bif (((Ah.length:Int)) == 0) then some (false) else obind (d_spec_Volume fu Aa.1.fW Aa.1.fH Aa.1.fD) fun Ag=>bif (decide (Ac.fvol > Ag)) then some (false) else bif (decide (Ac.fgram > Aa.1.fGram)) then some (false) else d_spec_IsPacking_J3 fu Af Ab Ae Ad

def d_spec_IsPacking_L2_B (fu:Nat)  (r1:Request) (Af:List Int) (Aa:List (List Int)) (Ah:Typ × Bool) (Ad:(List Int)) (Ag:List Int → Int → Option (Bool)) (Ac:List Int) (Ab:Int):Option (Bool) :=
  bif (decide (Ab < ((Aa.length:Int)))) then obind (ix Aa Ab) fun Ae=>obind (d_spec_l7Of fu r1 Ad Ae) fun Ai=>d_spec_IsPacking_J4 fu Ag Aa Ah Ac Ab Ai else d_spec_IsPacking_J1 fu Af Ad Ac
def d_spec_IsPacking_L2 (fu:Nat)  (r1:Request) (Ac:List Int) (Aa:List (List Int)) (Ab:Typ × Bool) (Ad:(List Int)):Nat → List Int → Int → Option (Bool)
  | 0=>fun _ _=>none
  | n + 1=>d_spec_IsPacking_L2_B fu r1 Ac Aa Ab Ad (d_spec_IsPacking_L2 fu r1 Ac Aa Ab Ad n)

def d_spec_IsPacking (fu:Nat) (r1:Request) (Aa:List Int) (Ac:List (List Int)):Option (Bool) :=
  obind (d_spec_Class fu r1) fun Ab=>bif (Ab != 0) then some (false) else obind (d_spec_MasterOf fu r1) fun Ae=>obind (d_spec_l6Units fu r1) fun Ad=>d_spec_IsPacking_L2 fu r1 Aa Ac Ae Ad fu (([]:List Int)) 0

def d_spec_IsRival_J1 (fu:Nat) (Ab:Int → Option (Bool)) (Aa:Int)  : Option (Bool) :=
  Ab (w64 (Aa + 1))

def d_spec_IsRival_J2 (fu:Nat) (Ab:Int → Option (Bool)) (Aa:Int)  : Option (Bool) :=
  Ab (w64 (Aa + 1))

def d_spec_IsRival_J3 (fu:Nat) (Ab:Int → Option (Bool)) (Aa:Int)  : Option (Bool) :=
  Ab (w64 (Aa + 1))

def d_spec_IsRival_J4 (fu:Nat) (Aa:Int → Option (Bool)) (r1:Request) (Ab:Int) (Ad:Item) (Ae:Item):Option (Bool) :=
  obind (d_spec_Beside fu r1.fPairs Ad.fClass Ae.fClass) fun Ac=>bif (!Ac) then some (false) else d_spec_IsRival_J3 fu Aa Ab

def d_spec_IsRival_J5 (fu:Nat) (Ab:Int → Option (Bool)) (r1:Request) (Ad:List (List Int)) (Ag:(List Int)) (Ai:Int) (Aa:Int) (Af:Item):Option (Bool) :=
  obind (ix Ad Ai) fun Ae=>obind (ix Ae Aa) fun Ah=>obind (d_spec_l6Item fu r1 Ag Ah) fun Ac=>d_spec_IsRival_J4 fu Ab r1 Aa Af Ac.1

def d_spec_IsRival_L1_B (fu:Nat) (Ah:Int → Option (Bool)) (r1:Request) (Aa:List (List Int)) (Af:(List Int)) (Ab:Int) (Ae:Int) (Ag:Int → Option (Bool)) (Ad:Int):Option (Bool) :=
  obind (ix Aa Ab) fun Ac=>bif (decide (Ad < ((Ac.length:Int)))) then obind (ix Aa Ab) fun Ak=>obind (ix Ac Ae) fun Ai=>obind (d_spec_l6Item fu r1 Af Ai) fun Aj=>d_spec_IsRival_J5 fu Ag r1 Aa Af Ab Ad Aj.1 else d_spec_IsRival_J2 fu Ah Ae
def d_spec_IsRival_L1 (fu:Nat) (Ac:Int → Option (Bool)) (r1:Request) (Aa:List (List Int)) (Ad:(List Int)) (Ae:Int) (Ab:Int):Nat → Int → Option (Bool)
  | 0=>fun _=>none
  | n + 1=>d_spec_IsRival_L1_B fu Ac r1 Aa Ad Ae Ab (d_spec_IsRival_L1 fu Ac r1 Aa Ad Ae Ab n)

def d_spec_IsRival_L2_B (fu:Nat) (Ad:Int → Option (Bool)) (r1:Request) (Ab:List (List Int)) (Af:(List Int)) (Aa:Int) (Ae:Int → Option (Bool)) (Ac:Int):Option (Bool) :=
  obind (ix Ab Aa) fun Ag=>bif (decide (Ac < ((Ag.length:Int)))) then d_spec_IsRival_L1 fu Ae r1 Ab Af Aa Ac fu 0 else d_spec_IsRival_J1 fu Ad Aa
def d_spec_IsRival_L2 (fu:Nat) (Ad:Int → Option (Bool)) (r1:Request) (Ac:List (List Int)) (Aa:(List Int)) (Ab:Int):Nat → Int → Option (Bool)
  | 0=>fun _=>none
  | n + 1=>d_spec_IsRival_L2_B fu Ad r1 Ac Aa Ab (d_spec_IsRival_L2 fu Ad r1 Ac Aa Ab n)

def d_spec_IsRival_L3_B (fu:Nat)  (r1:Request) (Ab:List (List Int)) (Ac:(List Int)) (Ad:Int → Option (Bool)) (Aa:Int):Option (Bool) :=
  bif (decide (Aa < ((Ab.length:Int)))) then d_spec_IsRival_L2 fu Ad r1 Ab Ac Aa fu 0 else some (true)
def d_spec_IsRival_L3 (fu:Nat)  (r1:Request) (Ab:List (List Int)) (Aa:(List Int)):Nat → Int → Option (Bool)
  | 0=>fun _=>none
  | n + 1=>d_spec_IsRival_L3_B fu r1 Ab Aa (d_spec_IsRival_L3 fu r1 Ab Aa n)

def d_spec_IsRival (fu:Nat) (r1:Request) (Ab:List (List Int)):Option (Bool) :=
  obind (d_spec_Units fu r1) fun Aa=>obind (d_spec_l1Places fu ((Aa.length:Int))) fun Ac=>obind (d_spec_IsPacking fu r1 Ac Ab) fun Ad=>bif (!Ad) then some (false) else d_spec_IsRival_L3 fu r1 Ab Aa fu 0

def d_impl_Transitive_1 (fu:Nat) (c1:Int) (x2:List Pair) (x8:Int) (Ab:Int):Option (Bool) :=
  obind (d_impl_Beside fu x2 x8 c1) fun Ac=>bif Ac then obind (d_impl_Beside fu x2 Ab c1) fun Aa=>some (!Aa) else some (false)

def d_impl_Transitive_J1 (fu:Nat) (Aa:Int → Option (Bool)) (Ab:Int)  : Option (Bool) :=
  Aa (w64 (Ab + 1))

def d_impl_Transitive_L1_B (fu:Nat) (k9:Int → Option (Bool)) (Af:List Pair) (Ab:(List Int)) (Ah:Int) (Ad:Int) (Ac:Int → Option (Bool)) (Aa:Int):Option (Bool) :=
  bif (decide (Aa < ((Ab.length:Int)))) then obind (ix Ab Aa) fun Ae=>obind (d_impl_Beside fu Af Ae Ad) fun Aj=>bif (!Aj) then d_impl_Transitive_J1 fu Ac Aa else obind (d_slices_ContainsFunc_int_int fu Ab (fun Ag=>d_impl_Transitive_1 fu Ag Af Ad Ae)) fun Ai=>bif Ai then some (false) else d_impl_Transitive_J1 fu Ac Aa else k9 (w64 (Ah + 1))
def d_impl_Transitive_L1 (fu:Nat) (k9:Int → Option (Bool)) (Ad:List Pair) (Aa:(List Int)) (Ac:Int) (Ab:Int):Nat → Int → Option (Bool)
  | 0=>fun _=>none
  | n + 1=>d_impl_Transitive_L1_B fu k9 Ad Aa Ac Ab (d_impl_Transitive_L1 fu k9 Ad Aa Ac Ab n)

def d_impl_Transitive_L2_B (fu:Nat)  (Ad:List Pair) (Aa:(List Int)) (k9:Int → Option (Bool)) (Ab:Int):Option (Bool) :=
  bif (decide (Ab < ((Aa.length:Int)))) then obind (ix Aa Ab) fun Ac=>d_impl_Transitive_L1 fu k9 Ad Aa Ab Ac fu 0 else some (true)
def d_impl_Transitive_L2 (fu:Nat)  (Ab:List Pair) (Aa:(List Int)):Nat → Int → Option (Bool)
  | 0=>fun _=>none
  | n + 1=>d_impl_Transitive_L2_B fu Ab Aa (d_impl_Transitive_L2 fu Ab Aa n)

def d_impl_Transitive (fu:Nat) (Ac:List Pair) (Aa:List Int):Option (Bool) :=
  obind (d_impl_kinds fu Aa) fun Ab=>d_impl_Transitive_L2 fu Ac Ab fu 0

def d_spec_Transitive_J1 (fu:Nat) (Aa:Int → Option (Bool)) (Ab:Int)  : Option (Bool) :=
  Aa (w64 (Ab + 1))

def d_spec_Transitive_L1_B (fu:Nat) (Ak:Int → Option (Bool)) (Ae:List Pair) (Aa:List Int) (Ag:Int) (Ad:Int) (Ac:Int → Option (Bool)) (Ab:Int):Option (Bool) :=
  bif (decide (Ab < ((Aa.length:Int)))) then obind (ix Aa Ag) fun Af=>obind (ix Aa Ad) fun Ai=>obind (d_spec_Beside fu Ae Af Ai) fun Am=>bif Am then obind (ix Aa Ad) fun Ap=>obind (ix Aa Ab) fun Ah=>obind (d_spec_Beside fu Ae Ai Ah) fun Al=>bif Al then obind (ix Aa Ag) fun Aq=>obind (ix Aa Ab) fun Ao=>obind (d_spec_Beside fu Ae Af Ah) fun Aj=>bif (!Aj) then some (false) else d_spec_Transitive_J1 fu Ac Ab else d_spec_Transitive_J1 fu Ac Ab else d_spec_Transitive_J1 fu Ac Ab else Ak (w64 (Ad + 1))
def d_spec_Transitive_L1 (fu:Nat) (Ab:Int → Option (Bool)) (Ae:List Pair) (Aa:List Int) (Ad:Int) (Ac:Int):Nat → Int → Option (Bool)
  | 0=>fun _=>none
  | n + 1=>d_spec_Transitive_L1_B fu Ab Ae Aa Ad Ac (d_spec_Transitive_L1 fu Ab Ae Aa Ad Ac n)

def d_spec_Transitive_L2_B (fu:Nat) (Ad:Int → Option (Bool)) (Af:List Pair) (Aa:List Int) (Ac:Int) (Ae:Int → Option (Bool)) (Ab:Int):Option (Bool) :=
  bif (decide (Ab < ((Aa.length:Int)))) then d_spec_Transitive_L1 fu Ae Af Aa Ac Ab fu 0 else Ad (w64 (Ac + 1))
def d_spec_Transitive_L2 (fu:Nat) (Aa:Int → Option (Bool)) (Ad:List Pair) (Ac:List Int) (Ab:Int):Nat → Int → Option (Bool)
  | 0=>fun _=>none
  | n + 1=>d_spec_Transitive_L2_B fu Aa Ad Ac Ab (d_spec_Transitive_L2 fu Aa Ad Ac Ab n)

def d_spec_Transitive_L3_B (fu:Nat)  (Ad:List Pair) (Aa:List Int) (Ac:Int → Option (Bool)) (Ab:Int):Option (Bool) :=
  bif (decide (Ab < ((Aa.length:Int)))) then d_spec_Transitive_L2 fu Ac Ad Aa Ab fu 0 else some (true)
def d_spec_Transitive_L3 (fu:Nat)  (Ab:List Pair) (Aa:List Int):Nat → Int → Option (Bool)
  | 0=>fun _=>none
  | n + 1=>d_spec_Transitive_L3_B fu Ab Aa (d_spec_Transitive_L3 fu Ab Aa n)

def d_spec_Transitive (fu:Nat) (Ab:List Pair) (Aa:List Int):Option (Bool) :=
  d_spec_Transitive_L3 fu Ab Aa fu 0

end Go.Proofs.YtkkfmjpbiimkbaaGreat
