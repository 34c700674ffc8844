/- FnDepths: what the functions that it reaches compute,on plain data. Printed by gen.py. -/
import Derived.Test.YthddjkokpfdbnaaS13
import Derived.Test.YthddjkokpfdbnaaS15
set_option linter.unusedVariables false
namespace Go.Proofs.Ythddjkokpfdbnaa
open Go
def d_laws_big (fu:Nat) (Aa:List U8):Option (Bool) :=
  some (decide (((Aa.length:Int)) > 1048576))

def d_spec_l1New_J1 (fu:Nat) (k3:Int → Int → Option (Cur)) (Ad:List U8) (Ac:Int) (Aa:Int)  : Option (Cur) :=
  obind (ix Ad Aa) fun Ab=>k3 (IntKind.wrap .i64 (((BitVec.ofInt (IntKind.bits .i64) (w64 ((w64 ((w64 (Ac * 131)) + (w64 Ab.n))) + 7)) &&& BitVec.ofInt (IntKind.bits .i64) 1073741823).toNat:Nat):Int)) (w64 (Aa + 1))

def d_spec_l1New_L1_B (fu:Nat)  (Aa:List U8) (k3:Int → Int → Option (Cur)) (Ab:Int) (Ac:Int):Option (Cur) :=
  bif (decide (Ac < ((Aa.length:Int)))) then bif (decide (Ac < 4000)) then d_spec_l1New_J1 fu k3 Aa Ab Ac else some ((⟨Aa,0,Ab⟩:Cur)) else some ((⟨Aa,0,Ab⟩:Cur))
def d_spec_l1New_L1 (fu:Nat)  (Aa:List U8):Nat → Int → Int → Option (Cur)
  | 0=>fun _ _=>none
  | n + 1=>d_spec_l1New_L1_B fu Aa (d_spec_l1New_L1 fu Aa n)

def d_spec_l1New (fu:Nat) (Aa:List U8):Option (Cur) :=
  d_spec_l1New_L1 fu Aa fu (w64 (26583 + ((Aa.length:Int)))) 0

def d_spec_l1Byte (fu:Nat) (c1:Cur):Option (Int × Cur) :=
  bif (decide (c1.fi < ((c1.fb.length:Int)))) then obind (ix c1.fb c1.fi) fun Aa=>some (IntKind.wrap .i64 (((BitVec.ofInt (IntKind.bits .i64) (w64 ((IntKind.wrap .i64 (((BitVec.ofInt (IntKind.bits .i64) (IntKind.wrap .i64 (((BitVec.ofInt (IntKind.bits .i64) (Int.fdiv (w64 ((w64 (c1.fh * 6364136223846793005)) + 1442695040888963407)) (2 ^ (min 33 (IntKind.bits .i64)))) ^^^ BitVec.ofInt (IntKind.bits .i64) (Int.fdiv (w64 ((w64 (c1.fh * 6364136223846793005)) + 1442695040888963407)) (2 ^ (min 45 (IntKind.bits .i64))))).toNat:Nat):Int)) &&& BitVec.ofInt (IntKind.bits .i64) 255).toNat:Nat):Int)) + (w64 Aa.n))) &&& BitVec.ofInt (IntKind.bits .i64) 255).toNat:Nat):Int),(⟨c1.fb,w64 (c1.fi + 1),w64 ((w64 (c1.fh * 6364136223846793005)) + 1442695040888963407)⟩:Cur)) else some (IntKind.wrap .i64 (((BitVec.ofInt (IntKind.bits .i64) (IntKind.wrap .i64 (((BitVec.ofInt (IntKind.bits .i64) (Int.fdiv (w64 ((w64 (c1.fh * 6364136223846793005)) + 1442695040888963407)) (2 ^ (min 33 (IntKind.bits .i64)))) ^^^ BitVec.ofInt (IntKind.bits .i64) (Int.fdiv (w64 ((w64 (c1.fh * 6364136223846793005)) + 1442695040888963407)) (2 ^ (min 45 (IntKind.bits .i64))))).toNat:Nat):Int)) &&& BitVec.ofInt (IntKind.bits .i64) 255).toNat:Nat):Int),(⟨c1.fb,c1.fi,w64 ((w64 (c1.fh * 6364136223846793005)) + 1442695040888963407)⟩:Cur))

def d_spec_l1Below (fu:Nat) (c1:Cur) (n7:Int):Option (Int × Cur) :=
  bif (decide (n7 ≤ 0)) then some (0,c1) else bif (decide (n7 ≤ 256)) then obind (d_spec_l1Byte fu c1) fun Ae=>obind (odiv n7) fun Af=>some (Int.tmod Ae.1 n7,(⟨c1.fb,Ae.2.fi,Ae.2.fh⟩:Cur)) else obind (d_spec_l1Byte fu c1) fun Aa=>obind (d_spec_l1Byte fu ((⟨c1.fb,Aa.2.fi,Aa.2.fh⟩:Cur))) fun Ad=>obind (d_spec_l1Byte fu ((⟨c1.fb,Ad.2.fi,Ad.2.fh⟩:Cur))) fun Ab=>obind (d_spec_l1Byte fu ((⟨c1.fb,Ab.2.fi,Ab.2.fh⟩:Cur))) fun Ac=>obind (odiv n7) fun Ag=>some (Int.tmod (w64 ((w64 ((w64 ((w64 (Aa.1 * 16777216)) + (w64 (Ad.1 * 65536)))) + (w64 (Ab.1 * 256)))) + Ac.1)) n7,(⟨c1.fb,Ac.2.fi,Ac.2.fh⟩:Cur))

def d_spec_l1PickInt (fu:Nat) (c1:Cur) (Ab:List Int):Option (Int × Cur) :=
  obind (d_spec_l1Below fu c1 ((Ab.length:Int))) fun Aa=>obind (ix Ab Aa.1) fun Ac=>some (Ac,(⟨c1.fb,Aa.2.fi,Aa.2.fh⟩:Cur))

def d_spec_l1Once (fu:Nat) (c1:Cur) (n7:Int):Option (Bool × Cur) :=
  obind (d_spec_l1Below fu c1 n7) fun x9=>some (x9.1 == 0,(⟨c1.fb,x9.2.fi,x9.2.fh⟩:Cur))

def d_spec_l10Boxes_J1 (fu:Nat) (c1:Cur) (Aa:List Box) (Ac:Pallet) (Ab:Int) (Ad:Int):Option (Pallet × (List Box) × Cur) :=
  some (Ac,Aa,(⟨c1.fb,Ab,Ad⟩:Cur))

def d_spec_l10Boxes_J2 (fu:Nat) (c1:Cur) (Af:Int × Cur) (Ah:Int × Cur) (Ad:Int × Cur) (Ae:Int × Cur) (Ag:Int) (Ai:Int) (Ac:List Box):Option (Pallet × (List Box) × Cur) :=
  obind (d_spec_l1Once fu ((⟨c1.fb,Ag,Ai⟩:Cur)) 24) fun Aa=>bif Aa.1 then obind (d_spec_l1PickInt fu ((⟨c1.fb,Aa.2.fi,Aa.2.fh⟩:Cur)) (([0,2001]:List Int))) fun Ab=>d_spec_l10Boxes_J1 fu c1 Ac ((⟨w64 (10 + Af.1),Ab.1,w64 (6 + Ad.1),Ae.1⟩:Pallet)) Ab.2.fi Ab.2.fh else d_spec_l10Boxes_J1 fu c1 Ac ((⟨w64 (10 + Af.1),w64 (8 + Ah.1),w64 (6 + Ad.1),Ae.1⟩:Pallet)) Aa.2.fi Aa.2.fh

def d_spec_l10Boxes_L1_B (fu:Nat)  (c1:Cur) (Ac:Int × Cur) (Af:Int × Cur) (Aj:Int × Cur) (Ak:Int × Cur) (Ao:Int × Cur) (k1:Int → Int → List Box → Int → Option (Pallet × (List Box) × Cur)) (Ae:Int) (Ad:Int) (Aa:List Box) (Ap:Int):Option (Pallet × (List Box) × Cur) :=
  bif (decide (Ap < Ao.1)) then obind (d_spec_l1Below fu ((⟨c1.fb,Ae,Ad⟩:Cur)) 9) fun Ai=>obind (d_spec_l1Below fu ((⟨c1.fb,Ai.2.fi,Ai.2.fh⟩:Cur)) 8) fun Am=>obind (d_spec_l1Below fu ((⟨c1.fb,Am.2.fi,Am.2.fh⟩:Cur)) 6) fun Ag=>obind (d_spec_l1Below fu ((⟨c1.fb,Ag.2.fi,Ag.2.fh⟩:Cur)) 20) fun Ah=>obind (apnd 32 Aa (([(⟨w64 (1 + Ai.1),w64 (1 + Am.1),w64 (1 + Ag.1),w64 (1 + Ah.1)⟩:Box)]:List Box))) fun Ar=>k1 Ah.2.fi Ah.2.fh Ar (w64 (Ap + 1)) else bif (decide (Ao.1 > 0)) then obind (d_spec_l1Once fu ((⟨c1.fb,Ae,Ad⟩:Cur)) 12) fun Ab=>bif Ab.1 then obind (d_spec_l1PickInt fu ((⟨c1.fb,Ab.2.fi,Ab.2.fh⟩:Cur)) (([0,w64 (10 + Ac.1),w64 ((w64 (10 + Ac.1)) + 1),(-1)]:List Int))) fun Al=>obind (ix Aa 0) fun Aq=>d_spec_l10Boxes_J2 fu c1 Ac Af Aj Ak Al.2.fi Al.2.fh (setx Aa 0 ({ Aq with fW:=Al.1 })) else d_spec_l10Boxes_J2 fu c1 Ac Af Aj Ak Ab.2.fi Ab.2.fh Aa else d_spec_l10Boxes_J2 fu c1 Ac Af Aj Ak Ae Ad Aa
def d_spec_l10Boxes_L1 (fu:Nat)  (c1:Cur) (Ae:Int × Cur) (Ab:Int × Cur) (Ac:Int × Cur) (Ad:Int × Cur) (Aa:Int × Cur):Nat → Int → Int → List Box → Int → Option (Pallet × (List Box) × Cur)
  | 0=>fun _ _ _ _=>none
  | n + 1=>d_spec_l10Boxes_L1_B fu c1 Ae Ab Ac Ad Aa (d_spec_l10Boxes_L1 fu c1 Ae Ab Ac Ad Aa n)

def d_spec_l10Boxes (fu:Nat) (c1:Cur):Option (Pallet × (List Box) × Cur) :=
  obind (d_spec_l1Below fu c1 15) fun Ae=>obind (d_spec_l1Below fu ((⟨c1.fb,Ae.2.fi,Ae.2.fh⟩:Cur)) 15) fun Ab=>obind (d_spec_l1Below fu ((⟨c1.fb,Ab.2.fi,Ab.2.fh⟩:Cur)) 12) fun Ac=>obind (d_spec_l1PickInt fu ((⟨c1.fb,Ac.2.fi,Ac.2.fh⟩:Cur)) (([40,90,400]:List Int))) fun Ad=>obind (d_spec_l1Below fu ((⟨c1.fb,Ad.2.fi,Ad.2.fh⟩:Cur)) 12) fun Aa=>d_spec_l10Boxes_L1 fu c1 Ae Ab Ac Ad Aa fu Aa.2.fi Aa.2.fh (([]:List Box)) 0

def d_spec_DrawDepthPromise (fu:Nat) (Aa:List U8):Option (Pallet × (List Box)) :=
  obind (d_spec_l1New fu Aa) fun x8=>obind (d_spec_l10Boxes fu ((⟨Aa,x8.fi,x8.fh⟩:Cur))) fun Ab=>some (Ab.1,Ab.2.1)

def d_impl_in (fu:Nat) (n1:Int) (Aa:Int) (Ab:Int):Option (Bool) :=
  bif (decide (n1 ≥ Aa)) then some (decide (n1 ≤ Ab)) else some (false)

def d_impl_isSide (fu:Nat) (n1:Int):Option (Bool) :=
  obind (d_impl_in fu n1 1 2000) fun x2=>some (x2)

def d_impl_PalletOk (fu:Nat) (x1:Pallet):Option (Bool) :=
  obind (d_impl_isSide fu x1.fW) fun x5=>bif x5 then obind (d_impl_isSide fu x1.fD) fun Ab=>bif Ab then obind (d_impl_isSide fu x1.fH) fun Ac=>bif Ac then obind (d_impl_in fu x1.fGram 1 100000) fun Aa=>some (Aa) else some (false) else some (false) else some (false)

def d_impl_BoxesOk_1 (fu:Nat) (b1:Box) (x2:Pallet):Option (Bool) :=
  obind (d_impl_in fu b1.fW 1 x2.fW) fun x8=>bif (!x8) then some (true) else obind (d_impl_in fu b1.fD 1 x2.fD) fun Ac=>bif (!Ac) then some (true) else obind (d_impl_in fu b1.fH 1 x2.fH) fun Ab=>bif (!Ab) then some (true) else obind (d_impl_in fu b1.fGram 1 x2.fGram) fun Aa=>some (!Aa)

def d_slices_IndexFunc_impl_Box_impl_Box_L1_B (fu:Nat)  (Ab:List Box) (f5:Box → Option Bool) (k1:Int → Option (Int)) (Aa:Int):Option (Int) :=
  bif (decide (Aa < ((Ab.length:Int)))) then obind (ix Ab Aa) fun Ac=>obind (f5 Ac) fun Ad=>bif Ad then some (Aa) else k1 (w64 (Aa + 1)) else some ((-1))
def d_slices_IndexFunc_impl_Box_impl_Box_L1 (fu:Nat)  (Aa:List Box) (f5:Box → Option Bool):Nat → Int → Option (Int)
  | 0=>fun _=>none
  | n + 1=>d_slices_IndexFunc_impl_Box_impl_Box_L1_B fu Aa f5 (d_slices_IndexFunc_impl_Box_impl_Box_L1 fu Aa f5 n)

def d_slices_IndexFunc_impl_Box_impl_Box (fu:Nat) (Aa:List Box) (f5:Box → Option Bool):Option (Int) :=
  d_slices_IndexFunc_impl_Box_impl_Box_L1 fu Aa f5 fu 0

def d_slices_ContainsFunc_impl_Box_impl_Box (fu:Nat) (Aa:List Box) (f5:Box → Option Bool):Option (Bool) :=
  obind (d_slices_IndexFunc_impl_Box_impl_Box fu Aa f5) fun Ab=>some (decide (Ab ≥ 0))

def d_impl_BoxesOk (fu:Nat) (p1:Pallet) (Ac:List Box):Option (Bool) :=
  obind (d_impl_PalletOk fu p1) fun Ad=>bif Ad then obind (d_slices_ContainsFunc_impl_Box_impl_Box fu Ac (fun Ab=>d_impl_BoxesOk_1 fu Ab p1)) fun Aa=>some (!Aa) else some (false)

def d_impl_Deepest_L1_B (fu:Nat)  (Ad:List Box) (k1:Int → Int → Option (Int)) (Ab:Int) (Aa:Int):Option (Int) :=
  bif (decide (Aa < ((Ad.length:Int)))) then obind (ix Ad Aa) fun Ac=>k1 (if Ac.fD > Ab then Ac.fD else Ab) (w64 (Aa + 1)) else some (Ab)
def d_impl_Deepest_L1 (fu:Nat)  (Aa:List Box):Nat → Int → Int → Option (Int)
  | 0=>fun _ _=>none
  | n + 1=>d_impl_Deepest_L1_B fu Aa (d_impl_Deepest_L1 fu Aa n)

def d_impl_Deepest (fu:Nat) (Aa:List Box):Option (Int) :=
  d_impl_Deepest_L1 fu Aa fu 0 0

def d_impl_Volume_J1 (fu:Nat) (Aa:Int) (h2:Int) (d3:Int)  : Option (Int) :=
  some (w64 ((w64 (Aa * h2)) * d3))

def d_impl_Volume (fu:Nat) (Aa:Int) (h2:Int) (d3:Int):Option (Int) :=
  obind (d_impl_in fu Aa 0 2000) fun Ac=>bif (!Ac) then some (0) else obind (d_impl_in fu h2 0 2000) fun Ab=>bif (!Ab) then some (0) else obind (d_impl_in fu d3 0 2000) fun Ad=>bif (!Ad) then some (0) else d_impl_Volume_J1 fu Aa h2 d3

def d_impl_AreaOf_L1_B (fu:Nat)  (Ab:List Box) (k1:Int → Int → Option (Int)) (Ad:Int) (Aa:Int):Option (Int) :=
  bif (decide (Aa < ((Ab.length:Int)))) then obind (ix Ab Aa) fun Ac=>obind (d_impl_Volume fu Ac.fW 1 Ac.fD) fun Ae=>k1 (w64 (Ad + Ae)) (w64 (Aa + 1)) else some (Ad)
def d_impl_AreaOf_L1 (fu:Nat)  (Aa:List Box):Nat → Int → Int → Option (Int)
  | 0=>fun _ _=>none
  | n + 1=>d_impl_AreaOf_L1_B fu Aa (d_impl_AreaOf_L1 fu Aa n)

def d_impl_AreaOf (fu:Nat) (Aa:List Box):Option (Int) :=
  d_impl_AreaOf_L1 fu Aa fu 0 0

def d_impl_DepthPromise (fu:Nat) (p1:Pallet) (Aa:List Box):Option (Int) :=
  obind (d_impl_BoxesOk fu p1 Aa) fun Ad=>bif (!Ad) then some (0) else obind (d_impl_Deepest fu Aa) fun Ac=>obind (d_impl_AreaOf fu Aa) fun Ab=>obind (odiv p1.fW) fun Ae=>some (w64 (Ac + (w64 (Int.tdiv (w64 (2 * Ab)) p1.fW))))

def d_spec_l1In (fu:Nat) (x1:Int) (Aa:Int) (Ab:Int):Option (Bool) :=
  bif (decide (x1 ≥ Aa)) then some (decide (x1 ≤ Ab)) else some (false)

def d_spec_l2Side (fu:Nat) (x1:Int):Option (Bool) :=
  obind (d_spec_l1In fu x1 1 2000) fun x2=>some (x2)

def d_spec_PalletOk (fu:Nat) (x1:Pallet):Option (Bool) :=
  obind (d_spec_l2Side fu x1.fW) fun x5=>bif x5 then obind (d_spec_l2Side fu x1.fD) fun Ab=>bif Ab then obind (d_spec_l2Side fu x1.fH) fun Ac=>bif Ac then obind (d_spec_l1In fu x1.fGram 1 100000) fun Aa=>some (Aa) else some (false) else some (false) else some (false)

def d_spec_BoxesOk_J1 (fu:Nat) (k3:Int → Option (Bool)) (Aa:Int)  : Option (Bool) :=
  k3 (w64 (Aa + 1))

def d_spec_BoxesOk_L1_B (fu:Nat)  (p1:Pallet) (Ac:List Box) (k3:Int → Option (Bool)) (Ab:Int):Option (Bool) :=
  bif (decide (Ab < ((Ac.length:Int)))) then obind (ix Ac Ab) fun Aa=>obind (d_spec_l1In fu Aa.fW 1 p1.fW) fun Ag=>bif (!Ag) then some (false) else obind (d_spec_l1In fu Aa.fD 1 p1.fD) fun Af=>bif (!Af) then some (false) else obind (d_spec_l1In fu Aa.fH 1 p1.fH) fun Ae=>bif (!Ae) then some (false) else obind (d_spec_l1In fu Aa.fGram 1 p1.fGram) fun Ad=>bif (!Ad) then some (false) else d_spec_BoxesOk_J1 fu k3 Ab else some (true)
def d_spec_BoxesOk_L1 (fu:Nat)  (p1:Pallet) (Aa:List Box):Nat → Int → Option (Bool)
  | 0=>fun _=>none
  | n + 1=>d_spec_BoxesOk_L1_B fu p1 Aa (d_spec_BoxesOk_L1 fu p1 Aa n)

def d_spec_BoxesOk (fu:Nat) (p1:Pallet) (Aa:List Box):Option (Bool) :=
  obind (d_spec_PalletOk fu p1) fun Ab=>bif (!Ab) then some (false) else d_spec_BoxesOk_L1 fu p1 Aa fu 0

def d_spec_l1Max (fu:Nat) (a1:Int) (b2:Int):Option (Int) :=
  bif (decide (a1 > b2)) then some (a1) else some (b2)

def d_spec_Deepest_L1_B (fu:Nat)  (Ab:List Box) (k1:Int → Int → Option (Int)) (Ac:Int) (Aa:Int):Option (Int) :=
  bif (decide (Aa < ((Ab.length:Int)))) then obind (ix Ab Aa) fun Ae=>obind (d_spec_l1Max fu Ac Ae.fD) fun Ad=>k1 Ad (w64 (Aa + 1)) else some (Ac)
def d_spec_Deepest_L1 (fu:Nat)  (Aa:List Box):Nat → Int → Int → Option (Int)
  | 0=>fun _ _=>none
  | n + 1=>d_spec_Deepest_L1_B fu Aa (d_spec_Deepest_L1 fu Aa n)

def d_spec_Deepest (fu:Nat) (Aa:List Box):Option (Int) :=
  d_spec_Deepest_L1 fu Aa fu 0 0

def d_spec_AreaOf_J1 (fu:Nat) (k3:Int → Int → Option (Int)) (Aa:Int) (Ab:Int):Option (Int) :=
  k3 Ab (w64 (Aa + 1))

def d_spec_AreaOf_L1_B (fu:Nat)  (Ab:List Box) (k3:Int → Int → Option (Int)) (Ac:Int) (Aa:Int):Option (Int) :=
  bif (decide (Aa < ((Ab.length:Int)))) then obind (ix Ab Aa) fun Ad=>obind (d_spec_l1In fu Ad.fW 0 2000) fun Af=>bif Af then obind (ix Ab Aa) fun Ai=>obind (d_spec_l1In fu Ad.fD 0 2000) fun Ae=>bif Ae then obind (ix Ab Aa) fun Ah=>obind (ix Ab Aa) fun Ag=>d_spec_AreaOf_J1 fu k3 Aa (w64 (Ac + (w64 (Ad.fW * Ad.fD)))) else d_spec_AreaOf_J1 fu k3 Aa Ac else d_spec_AreaOf_J1 fu k3 Aa Ac else some (Ac)
def d_spec_AreaOf_L1 (fu:Nat)  (Aa:List Box):Nat → Int → Int → Option (Int)
  | 0=>fun _ _=>none
  | n + 1=>d_spec_AreaOf_L1_B fu Aa (d_spec_AreaOf_L1 fu Aa n)

def d_spec_AreaOf (fu:Nat) (Aa:List Box):Option (Int) :=
  d_spec_AreaOf_L1 fu Aa fu 0 0

def d_spec_DepthPromise (fu:Nat) (p1:Pallet) (Aa:List Box):Option (Int) :=
  obind (d_spec_BoxesOk fu p1 Aa) fun Ad=>bif (!Ad) then some (0) else obind (d_spec_Deepest fu Aa) fun Ac=>obind (d_spec_AreaOf fu Aa) fun Ab=>obind (odiv p1.fW) fun Ae=>some (w64 (Ac + (w64 (Int.tdiv (w64 (2 * Ab)) p1.fW))))

def d_impl_Light_L1_B (fu:Nat)  (p1:Pallet) (Aa:List Box) (k1:Int → Int → Option (Bool)) (Ad:Int) (Ab:Int):Option (Bool) :=
  bif (decide (Ab < ((Aa.length:Int)))) then obind (ix Aa Ab) fun Ac=>k1 (w64 (Ad + (if 100000 < Ac.fGram then 100000 else Ac.fGram))) (w64 (Ab + 1)) else obind (d_impl_BoxesOk fu p1 Aa) fun Ae=>bif Ae then some (decide (Ad ≤ p1.fGram)) else some (false)
def d_impl_Light_L1 (fu:Nat)  (p1:Pallet) (Aa:List Box):Nat → Int → Int → Option (Bool)
  | 0=>fun _ _=>none
  | n + 1=>d_impl_Light_L1_B fu p1 Aa (d_impl_Light_L1 fu p1 Aa n)

def d_impl_Light (fu:Nat) (p1:Pallet) (Aa:List Box):Option (Bool) :=
  d_impl_Light_L1 fu p1 Aa fu 0 0

def d_spec_Light_L1_B (fu:Nat)  (p1:Pallet) (Ac:List Box) (k1:Int → Int → Option (Bool)) (Ab:Int) (Aa:Int):Option (Bool) :=
  bif (decide (Aa < ((Ac.length:Int)))) then obind (ix Ac Aa) fun Ad=>k1 (w64 (Ab + Ad.fGram)) (w64 (Aa + 1)) else some (decide (Ab ≤ p1.fGram))
def d_spec_Light_L1 (fu:Nat)  (p1:Pallet) (Aa:List Box):Nat → Int → Int → Option (Bool)
  | 0=>fun _ _=>none
  | n + 1=>d_spec_Light_L1_B fu p1 Aa (d_spec_Light_L1 fu p1 Aa n)

def d_spec_Light (fu:Nat) (p1:Pallet) (Aa:List Box):Option (Bool) :=
  obind (d_spec_BoxesOk fu p1 Aa) fun Ab=>bif (!Ab) then some (false) else d_spec_Light_L1 fu p1 Aa fu 0 0

def d_impl_upBy (fu:Nat) (a1:Int) (b2:Int):Option (Int) :=
  obind (odiv b2) fun u3=>some (w64 (Int.tdiv (w64 ((w64 (a1 + b2)) - 1)) b2))

def d_impl_AreaNeeds (fu:Nat) (p1:Pallet) (Aa:List Box):Option (Int) :=
  obind (d_impl_BoxesOk fu p1 Aa) fun Ac=>bif (!Ac) then some (0) else obind (d_impl_AreaOf fu Aa) fun Ad=>obind (d_impl_upBy fu Ad (w64 (p1.fW * p1.fD))) fun Ab=>some (Ab)

def d_spec_l8Up (fu:Nat) (n1:Int) (Aa:Int):Option (Int) :=
  obind (odiv Aa) fun u3=>some (w64 (Int.tdiv (w64 ((w64 (n1 + Aa)) - 1)) Aa))

def d_spec_AreaNeeds (fu:Nat) (p1:Pallet) (Aa:List Box):Option (Int) :=
  obind (d_spec_BoxesOk fu p1 Aa) fun Ac=>bif (!Ac) then some (0) else obind (d_spec_AreaOf fu Aa) fun Ad=>obind (d_spec_l8Up fu Ad (w64 (p1.fW * p1.fD))) fun Ab=>some (Ab)

def d_impl_places_L1_B (fu:Nat)  (n1:Int) (k1:List Int → Int → Option ((List Int))) (Ab:List Int) (Aa:Int):Option ((List Int)) :=
  bif (decide (Aa < n1)) then obind (apnd 8 Ab (([Aa]:List Int))) fun Ac=>k1 Ac (w64 (Aa + 1)) else some (Ab)
def d_impl_places_L1 (fu:Nat)  (n1:Int):Nat → List Int → Int → Option ((List Int))
  | 0=>fun _ _=>none
  | n + 1=>d_impl_places_L1_B fu n1 (d_impl_places_L1 fu n1 n)

def d_impl_places (fu:Nat) (n1:Int):Option ((List Int)) :=
  d_impl_places_L1 fu n1 fu (([]:List Int)) 0

def d_impl_compare (fu:Nat) (a1:Int) (b2:Int):Option (Int) :=
  bif (decide (a1 < b2)) then some ((-1)) else bif (decide (a1 > b2)) then some (1) else some (0)

def d_impl_SortDown_1 (fu:Nat) (i1:Int) (j2:Int) (x3:List Int):Option (Int) :=
  obind (ix x3 j2) fun Ab=>obind (ix x3 i1) fun Aa=>obind (d_impl_compare fu Ab Aa) fun Ac=>some (Ac)

def d_slices_insertionSortCmpFunc_int_J1 (fu:Nat) (Ae:List Int → Int → Option ((List Int))) (Ab:List Int) (Aa:Int)  : Option ((List Int)) :=
  obind (ix Ab (w64 (Aa - 1))) fun Ac=>obind (ix Ab Aa) fun Ad=>obind (ix Ab Aa) fun Ag=>obind (ix (setx Ab Aa Ac) (w64 (Aa - 1))) fun Af=>Ae (setx (setx Ab Aa Ac) (w64 (Aa - 1)) Ad) (w64 (Aa - 1))

def d_slices_insertionSortCmpFunc_int_L1_B (fu:Nat) (k9:List Int → Int → Option ((List Int))) (a5:Int) (f7:Int → Int → Option Int) (Ac:Int) (Ae:List Int → Int → Option ((List Int))) (Aa:List Int) (Ab:Int):Option ((List Int)) :=
  bif (decide (Ab > a5)) then obind (ix Aa Ab) fun Ad=>obind (ix Aa (w64 (Ab - 1))) fun Af=>obind (f7 Ad Af) fun Ag=>bif (decide (Ag < 0)) then d_slices_insertionSortCmpFunc_int_J1 fu Ae Aa Ab else k9 Aa (w64 (Ac + 1)) else k9 Aa (w64 (Ac + 1))
def d_slices_insertionSortCmpFunc_int_L1 (fu:Nat) (k9:List Int → Int → Option ((List Int))) (a5:Int) (f7:Int → Int → Option Int) (Aa:Int):Nat → List Int → Int → Option ((List Int))
  | 0=>fun _ _=>none
  | n + 1=>d_slices_insertionSortCmpFunc_int_L1_B fu k9 a5 f7 Aa (d_slices_insertionSortCmpFunc_int_L1 fu k9 a5 f7 Aa n)

def d_slices_insertionSortCmpFunc_int_L2_B (fu:Nat)  (a5:Int) (b6:Int) (f7:Int → Int → Option Int) (k9:List Int → Int → Option ((List Int))) (Ab:List Int) (Aa:Int):Option ((List Int)) :=
  bif (decide (Aa < b6)) then d_slices_insertionSortCmpFunc_int_L1 fu k9 a5 f7 Aa fu Ab Aa else some (Ab)
def d_slices_insertionSortCmpFunc_int_L2 (fu:Nat)  (a5:Int) (b6:Int) (f7:Int → Int → Option Int):Nat → List Int → Int → Option ((List Int))
  | 0=>fun _ _=>none
  | n + 1=>d_slices_insertionSortCmpFunc_int_L2_B fu a5 b6 f7 (d_slices_insertionSortCmpFunc_int_L2 fu a5 b6 f7 n)

def d_slices_insertionSortCmpFunc_int (fu:Nat) (Aa:List Int) (a5:Int) (b6:Int) (f7:Int → Int → Option Int):Option ((List Int)) :=
  d_slices_insertionSortCmpFunc_int_L2 fu a5 b6 f7 fu Aa (w64 (a5 + 1))

def d_slices_symMergeCmpFunc_int (fu:Nat) (x0:List Int) (x1:Int) (x2:Int) (x3:Int) (x4:Int → Int → Option Int):Option ((List Int)):=none

def d_slices_stableCmpFunc_int_J1 (fu:Nat) (k6:List Int → Int → Option ((List Int))) (Aa:Int) (Ab:List Int):Option ((List Int)) :=
  k6 Ab (w64 (Aa * 2))

def d_slices_stableCmpFunc_int_L1_B (fu:Nat) (k6:List Int → Int → Option ((List Int))) (n5:Int) (f6:Int → Int → Option Int) (Aa:Int) (k7:List Int → Int → Int → Option ((List Int))) (Ad:List Int) (Ab:Int) (Ac:Int):Option ((List Int)) :=
  bif (decide (Ac ≤ n5)) then obind (d_slices_symMergeCmpFunc_int fu Ad Ab (w64 (Ab + Aa)) Ac f6) fun Af=>k7 Af Ac (w64 (Ac + (w64 (2 * Aa)))) else bif (decide ((w64 (Ab + Aa)) < n5)) then obind (d_slices_symMergeCmpFunc_int fu Ad Ab (w64 (Ab + Aa)) n5 f6) fun Ae=>d_slices_stableCmpFunc_int_J1 fu k6 Aa Ae else d_slices_stableCmpFunc_int_J1 fu k6 Aa Ad
def d_slices_stableCmpFunc_int_L1 (fu:Nat) (k6:List Int → Int → Option ((List Int))) (n5:Int) (f6:Int → Int → Option Int) (Aa:Int):Nat → List Int → Int → Int → Option ((List Int))
  | 0=>fun _ _ _=>none
  | n + 1=>d_slices_stableCmpFunc_int_L1_B fu k6 n5 f6 Aa (d_slices_stableCmpFunc_int_L1 fu k6 n5 f6 Aa n)

def d_slices_stableCmpFunc_int_L2_B (fu:Nat)  (n5:Int) (f6:Int → Int → Option Int) (k6:List Int → Int → Option ((List Int))) (Ab:List Int) (Aa:Int):Option ((List Int)) :=
  bif (decide (Aa < n5)) then d_slices_stableCmpFunc_int_L1 fu k6 n5 f6 Aa fu Ab 0 (w64 (2 * Aa)) else some (Ab)
def d_slices_stableCmpFunc_int_L2 (fu:Nat)  (n5:Int) (f6:Int → Int → Option Int):Nat → List Int → Int → Option ((List Int))
  | 0=>fun _ _=>none
  | n + 1=>d_slices_stableCmpFunc_int_L2_B fu n5 f6 (d_slices_stableCmpFunc_int_L2 fu n5 f6 n)

def d_slices_stableCmpFunc_int_L3_B (fu:Nat)  (n5:Int) (f6:Int → Int → Option Int) (k1:List Int → Int → Int → Option ((List Int))) (Ac:List Int) (Ab:Int) (Aa:Int):Option ((List Int)) :=
  bif (decide (Aa ≤ n5)) then obind (d_slices_insertionSortCmpFunc_int fu Ac Ab Aa f6) fun Ad=>k1 Ad Aa (w64 (Aa + 20)) else obind (d_slices_insertionSortCmpFunc_int fu Ac Ab n5 f6) fun Ae=>d_slices_stableCmpFunc_int_L2 fu n5 f6 fu Ae 20
def d_slices_stableCmpFunc_int_L3 (fu:Nat)  (n5:Int) (f6:Int → Int → Option Int):Nat → List Int → Int → Int → Option ((List Int))
  | 0=>fun _ _ _=>none
  | n + 1=>d_slices_stableCmpFunc_int_L3_B fu n5 f6 (d_slices_stableCmpFunc_int_L3 fu n5 f6 n)

def d_slices_stableCmpFunc_int (fu:Nat) (Aa:List Int) (n5:Int) (f6:Int → Int → Option Int):Option ((List Int)) :=
  d_slices_stableCmpFunc_int_L3 fu n5 f6 fu Aa 0 20

def d_slices_SortStableFunc_int_int (fu:Nat) (x1:List Int) (f5:Int → Int → Option Int):Option ((List Int)) :=
  obind (d_slices_stableCmpFunc_int fu x1 ((x1.length:Int)) f5) fun Aa=>some (Aa)

def d_impl_SortDown (fu:Nat) (Aa:List Int):Option ((List Int)) :=
  obind (d_impl_places fu ((Aa.length:Int))) fun x8=>obind (d_slices_SortStableFunc_int_int fu x8 (fun Ac Ad=>d_impl_SortDown_1 fu Ac Ad Aa)) fun Ab=>some (Ab)

def d_impl_Shelves_J1 (fu:Nat) (k8:List Shelf → Int → Option ((List Shelf))) (Ab:Int) (Aa:List Shelf):Option ((List Shelf)) :=
  k8 Aa (w64 (Ab + 1))

def d_impl_Shelves_J2 (fu:Nat) (k8:List Shelf → Int → Option ((List Shelf))) (Ah:Int) (Ak:Int) (Ac:Box) (Ag:List Shelf) (Ad:Int):Option ((List Shelf)) :=
  obind (ix Ag Ad) fun Ab=>obind (apnd 8 Ab.fList (([Ak]:List Int))) fun Af=>obind (some ((⟨((⟨Af,Ab.fW,Ab.fD,Ab.fH,Ab.fGram⟩:Shelf)).fList,w64 ((((⟨Af,Ab.fW,Ab.fD,Ab.fH,Ab.fGram⟩:Shelf)).fW) + Ac.fW),((⟨Af,Ab.fW,Ab.fD,Ab.fH,Ab.fGram⟩:Shelf)).fD,((⟨Af,Ab.fW,Ab.fD,Ab.fH,Ab.fGram⟩:Shelf)).fH,((⟨Af,Ab.fW,Ab.fD,Ab.fH,Ab.fGram⟩:Shelf)).fGram⟩:Shelf))) fun Aa=>obind (some (setx (setx Ag Ad ((⟨Af,Ab.fW,Ab.fD,Ab.fH,Ab.fGram⟩:Shelf))) Ad Aa)) fun Ai=>obind (some ((⟨((⟨Aa.fList,Aa.fW,if Ac.fD > Aa.fD then Ac.fD else Aa.fD,Aa.fH,Aa.fGram⟩:Shelf)).fList,((⟨Aa.fList,Aa.fW,if Ac.fD > Aa.fD then Ac.fD else Aa.fD,Aa.fH,Aa.fGram⟩:Shelf)).fW,((⟨Aa.fList,Aa.fW,if Ac.fD > Aa.fD then Ac.fD else Aa.fD,Aa.fH,Aa.fGram⟩:Shelf)).fD,if Ac.fH > (((⟨Aa.fList,Aa.fW,if Ac.fD > Aa.fD then Ac.fD else Aa.fD,Aa.fH,Aa.fGram⟩:Shelf)).fH) then Ac.fH else ((⟨Aa.fList,Aa.fW,if Ac.fD > Aa.fD then Ac.fD else Aa.fD,Aa.fH,Aa.fGram⟩:Shelf)).fH,((⟨Aa.fList,Aa.fW,if Ac.fD > Aa.fD then Ac.fD else Aa.fD,Aa.fH,Aa.fGram⟩:Shelf)).fGram⟩:Shelf))) fun Ae=>obind (some (setx (setx Ai Ad ((⟨Aa.fList,Aa.fW,if Ac.fD > Aa.fD then Ac.fD else Aa.fD,Aa.fH,Aa.fGram⟩:Shelf))) Ad Ae)) fun Aj=>d_impl_Shelves_J1 fu k8 Ah (setx Aj Ad ((⟨Ae.fList,Ae.fW,Ae.fD,Ae.fH,w64 (Ae.fGram + Ac.fGram)⟩:Shelf)))

def d_impl_Shelves_L1_B (fu:Nat)  (p1:Pallet) (Ag:List Box) (Ae:(List Int)) (k8:List Shelf → Int → Option ((List Shelf))) (Aa:List Shelf) (Ac:Int):Option ((List Shelf)) :=
  bif (decide (Ac < ((Ae.length:Int)))) then obind (ix Ae Ac) fun Ad=>obind (ix Ag Ad) fun Ab=>bif (decide ((w64 (((Aa.length:Int)) - 1)) < 0)) then obind (apnd 56 Aa [(⟨[],0,0,0,0⟩:Shelf)]) fun Ah=>d_impl_Shelves_J2 fu k8 Ac Ad Ab Ah (w64 ((w64 (((Aa.length:Int)) - 1)) + 1)) else obind (ix Aa (w64 (((Aa.length:Int)) - 1))) fun Af=>bif (decide ((w64 (Af.fW + Ab.fW)) > p1.fW)) then obind (apnd 56 Aa [(⟨[],0,0,0,0⟩:Shelf)]) fun Ai=>d_impl_Shelves_J2 fu k8 Ac Ad Ab Ai (w64 ((w64 (((Aa.length:Int)) - 1)) + 1)) else obind (ix Aa (w64 (((Aa.length:Int)) - 1))) fun Ak=>bif (decide ((w64 (Af.fGram + Ab.fGram)) > p1.fGram)) then obind (apnd 56 Aa [(⟨[],0,0,0,0⟩:Shelf)]) fun Aj=>d_impl_Shelves_J2 fu k8 Ac Ad Ab Aj (w64 ((w64 (((Aa.length:Int)) - 1)) + 1)) else d_impl_Shelves_J2 fu k8 Ac Ad Ab Aa (w64 (((Aa.length:Int)) - 1)) else some (Aa)
def d_impl_Shelves_L1 (fu:Nat)  (p1:Pallet) (Ab:List Box) (Aa:(List Int)):Nat → List Shelf → Int → Option ((List Shelf))
  | 0=>fun _ _=>none
  | n + 1=>d_impl_Shelves_L1_B fu p1 Ab Aa (d_impl_Shelves_L1 fu p1 Ab Aa n)

def d_impl_Shelves_L2_B (fu:Nat)  (p1:Pallet) (Aa:List Box) (k1:List Int → Int → Option ((List Shelf))) (Ac:List Int) (Ab:Int):Option ((List Shelf)) :=
  bif (decide (Ab < ((Aa.length:Int)))) then obind (ix Aa Ab) fun Af=>obind (apnd 8 Ac (([Af.fD]:List Int))) fun Ae=>k1 Ae (w64 (Ab + 1)) else obind (d_impl_SortDown fu Ac) fun Ad=>d_impl_Shelves_L1 fu p1 Aa Ad fu (([]:List Shelf)) 0
def d_impl_Shelves_L2 (fu:Nat)  (p1:Pallet) (Aa:List Box):Nat → List Int → Int → Option ((List Shelf))
  | 0=>fun _ _=>none
  | n + 1=>d_impl_Shelves_L2_B fu p1 Aa (d_impl_Shelves_L2 fu p1 Aa n)

def d_impl_Shelves (fu:Nat) (p1:Pallet) (Aa:List Box):Option ((List Shelf)) :=
  obind (d_impl_BoxesOk fu p1 Aa) fun Ab=>bif (!Ab) then some (([]:List Shelf)) else d_impl_Shelves_L2 fu p1 Aa fu (([]:List Int)) 0

def d_impl_ShelvesOk_1 (fu:Nat) (Aa:Shelf) (x5:Pallet):Option (Bool) :=
  obind (d_impl_in fu Aa.fD 1 x5.fD) fun Ad=>bif (!Ad) then some (true) else obind (d_impl_in fu Aa.fH 1 x5.fH) fun Ac=>bif (!Ac) then some (true) else obind (d_impl_in fu Aa.fGram 1 x5.fGram) fun Ab=>some (!Ab)

def d_slices_IndexFunc_impl_Shelf_impl_Shelf_L1_B (fu:Nat)  (Ab:List Shelf) (f5:Shelf → Option Bool) (k1:Int → Option (Int)) (Aa:Int):Option (Int) :=
  bif (decide (Aa < ((Ab.length:Int)))) then obind (ix Ab Aa) fun Ac=>obind (f5 Ac) fun Ad=>bif Ad then some (Aa) else k1 (w64 (Aa + 1)) else some ((-1))
def d_slices_IndexFunc_impl_Shelf_impl_Shelf_L1 (fu:Nat)  (Aa:List Shelf) (f5:Shelf → Option Bool):Nat → Int → Option (Int)
  | 0=>fun _=>none
  | n + 1=>d_slices_IndexFunc_impl_Shelf_impl_Shelf_L1_B fu Aa f5 (d_slices_IndexFunc_impl_Shelf_impl_Shelf_L1 fu Aa f5 n)

def d_slices_IndexFunc_impl_Shelf_impl_Shelf (fu:Nat) (Aa:List Shelf) (f5:Shelf → Option Bool):Option (Int) :=
  d_slices_IndexFunc_impl_Shelf_impl_Shelf_L1 fu Aa f5 fu 0

def d_slices_ContainsFunc_impl_Shelf_impl_Shelf (fu:Nat) (Aa:List Shelf) (f5:Shelf → Option Bool):Option (Bool) :=
  obind (d_slices_IndexFunc_impl_Shelf_impl_Shelf fu Aa f5) fun Ab=>some (decide (Ab ≥ 0))

def d_impl_ShelvesOk (fu:Nat) (p1:Pallet) (Ac:List Shelf):Option (Bool) :=
  obind (d_impl_PalletOk fu p1) fun Ad=>bif Ad then obind (d_slices_ContainsFunc_impl_Shelf_impl_Shelf fu Ac (fun Ab=>d_impl_ShelvesOk_1 fu Ab p1)) fun Aa=>some (!Aa) else some (false)

def d_impl_LayersOf_J1 (fu:Nat) (k7:List Layer → Int → Option ((List Layer))) (Ab:Int) (Aa:List Layer):Option ((List Layer)) :=
  k7 Aa (w64 (Ab + 1))

def d_impl_LayersOf_J2 (fu:Nat) (k7:List Layer → Int → Option ((List Layer))) (Ag:Int) (Ac:Shelf) (Af:List Layer) (Ae:Int):Option ((List Layer)) :=
  obind (ix Af Ae) fun Ab=>obind (apnd 8 Ab.fShelves (([Ag]:List Int))) fun Ad=>obind (some ((⟨((⟨Ad,Ab.fD,Ab.fH,Ab.fGram⟩:Layer)).fShelves,w64 ((((⟨Ad,Ab.fD,Ab.fH,Ab.fGram⟩:Layer)).fD) + Ac.fD),((⟨Ad,Ab.fD,Ab.fH,Ab.fGram⟩:Layer)).fH,((⟨Ad,Ab.fD,Ab.fH,Ab.fGram⟩:Layer)).fGram⟩:Layer))) fun Aa=>obind (some (setx (setx Af Ae ((⟨Ad,Ab.fD,Ab.fH,Ab.fGram⟩:Layer))) Ae Aa)) fun Aj=>obind (some ((⟨((⟨Aa.fShelves,Aa.fD,if Ac.fH > Aa.fH then Ac.fH else Aa.fH,Aa.fGram⟩:Layer)).fShelves,((⟨Aa.fShelves,Aa.fD,if Ac.fH > Aa.fH then Ac.fH else Aa.fH,Aa.fGram⟩:Layer)).fD,((⟨Aa.fShelves,Aa.fD,if Ac.fH > Aa.fH then Ac.fH else Aa.fH,Aa.fGram⟩:Layer)).fH,w64 ((((⟨Aa.fShelves,Aa.fD,if Ac.fH > Aa.fH then Ac.fH else Aa.fH,Aa.fGram⟩:Layer)).fGram) + Ac.fGram)⟩:Layer))) fun Ai=>obind (some (setx (setx Aj Ae ((⟨Aa.fShelves,Aa.fD,if Ac.fH > Aa.fH then Ac.fH else Aa.fH,Aa.fGram⟩:Layer))) Ae Ai)) fun Ah=>d_impl_LayersOf_J1 fu k7 Ag Ah

def d_impl_LayersOf_L1_B (fu:Nat)  (p1:Pallet) (Ad:List Shelf) (k7:List Layer → Int → Option ((List Layer))) (Aa:List Layer) (Ac:Int):Option ((List Layer)) :=
  bif (decide (Ac < ((Ad.length:Int)))) then obind (ix Ad Ac) fun Ab=>bif (decide ((w64 (((Aa.length:Int)) - 1)) < 0)) then obind (apnd 48 Aa [(⟨[],0,0,0⟩:Layer)]) fun Ag=>d_impl_LayersOf_J2 fu k7 Ac Ab Ag (w64 ((w64 (((Aa.length:Int)) - 1)) + 1)) else obind (ix Aa (w64 (((Aa.length:Int)) - 1))) fun Ae=>bif (decide ((w64 (Ae.fD + Ab.fD)) > p1.fD)) then obind (apnd 48 Aa [(⟨[],0,0,0⟩:Layer)]) fun Af=>d_impl_LayersOf_J2 fu k7 Ac Ab Af (w64 ((w64 (((Aa.length:Int)) - 1)) + 1)) else obind (ix Aa (w64 (((Aa.length:Int)) - 1))) fun Ai=>bif (decide ((w64 (Ae.fGram + Ab.fGram)) > p1.fGram)) then obind (apnd 48 Aa [(⟨[],0,0,0⟩:Layer)]) fun Ah=>d_impl_LayersOf_J2 fu k7 Ac Ab Ah (w64 ((w64 (((Aa.length:Int)) - 1)) + 1)) else d_impl_LayersOf_J2 fu k7 Ac Ab Aa (w64 (((Aa.length:Int)) - 1)) else some (Aa)
def d_impl_LayersOf_L1 (fu:Nat)  (p1:Pallet) (Aa:List Shelf):Nat → List Layer → Int → Option ((List Layer))
  | 0=>fun _ _=>none
  | n + 1=>d_impl_LayersOf_L1_B fu p1 Aa (d_impl_LayersOf_L1 fu p1 Aa n)

def d_impl_LayersOf (fu:Nat) (p1:Pallet) (Aa:List Shelf):Option ((List Layer)) :=
  obind (d_impl_ShelvesOk fu p1 Aa) fun Ab=>bif (!Ab) then some (([]:List Layer)) else d_impl_LayersOf_L1 fu p1 Aa fu (([]:List Layer)) 0

def d_impl_Sum_J1 (fu:Nat) (k3:Int → Int → Option (Int)) (Ab:Int) (Aa:Int):Option (Int) :=
  k3 Aa (w64 (Ab + 1))

def d_impl_Sum_L1_B (fu:Nat)  (Ac:List Int) (k3:Int → Int → Option (Int)) (Ab:Int) (Aa:Int):Option (Int) :=
  bif (decide (Aa < ((Ac.length:Int)))) then obind (ix Ac Aa) fun Ad=>obind (d_impl_in fu Ad ((-1000000000)) 1000000000) fun Ae=>bif Ae then d_impl_Sum_J1 fu k3 Aa (w64 (Ab + Ad)) else d_impl_Sum_J1 fu k3 Aa Ab else some (Ab)
def d_impl_Sum_L1 (fu:Nat)  (Aa:List Int):Nat → Int → Int → Option (Int)
  | 0=>fun _ _=>none
  | n + 1=>d_impl_Sum_L1_B fu Aa (d_impl_Sum_L1 fu Aa n)

def d_impl_Sum (fu:Nat) (Aa:List Int):Option (Int) :=
  d_impl_Sum_L1 fu Aa fu 0 0

def d_impl_DepthOf_L1_B (fu:Nat)  (Ac:List Shelf) (k1:List Int → Int → Option (Int)) (Ab:List Int) (Aa:Int):Option (Int) :=
  bif (decide (Aa < ((Ac.length:Int)))) then obind (ix Ac Aa) fun Af=>obind (apnd 8 Ab (([Af.fD]:List Int))) fun Ae=>k1 Ae (w64 (Aa + 1)) else obind (d_impl_Sum fu Ab) fun Ad=>some (Ad)
def d_impl_DepthOf_L1 (fu:Nat)  (Aa:List Shelf):Nat → List Int → Int → Option (Int)
  | 0=>fun _ _=>none
  | n + 1=>d_impl_DepthOf_L1_B fu Aa (d_impl_DepthOf_L1 fu Aa n)

def d_impl_DepthOf (fu:Nat) (Aa:List Shelf):Option (Int) :=
  d_impl_DepthOf_L1 fu Aa fu (([]:List Int)) 0

def d_impl_LayersPromise_J1 (fu:Nat) (n6:Int)  : Option (Int) :=
  some (w64 ((w64 (4 * n6)) + 1))

def d_impl_LayersPromise (fu:Nat) (p1:Pallet) (Ab:List Box) (n6:Int):Option (Int) :=
  obind (d_impl_BoxesOk fu p1 Ab) fun Ac=>bif (!Ac) then some (0) else obind (d_impl_in fu n6 0 1000) fun Aa=>bif (!Aa) then some (0) else d_impl_LayersPromise_J1 fu n6

end Go.Proofs.Ythddjkokpfdbnaa
