/- FnTampered: what the.. -/
import Derived.Test.YtpcmapfabndggaaGreatS13
import Derived.Test.YtpcmapfabndggaaGreatS15
set_option linter.unusedVariables false
namespace Go.Proofs.YtpcmapfabndggaaGreat
open Go
def Qva (fu:Nat) (Aa:List U8):Option (Bool) :=
  some (decide ((Aa.length:Int)>1048576))
def Qro (fu:Nat) (k3:Int→Int→Option (Cur)) (Ad:List U8) (Ab:Int) (Aa:Int)  : Option (Cur) :=
  Qac (ix Ad Aa) λAc=>k3 (IntKind.wrap .i64 (((BitVec.ofInt (IntKind.bits .i64) (w64 ((w64 ((w64 (Ab*131))+(w64 Ac.n)))+7)) &&& BitVec.ofInt (IntKind.bits .i64) 1073741823).toNat:Nat):Int)) (w64 (Aa+1))
def Qow (fu:Nat)  (Aa:List U8) (k3:Int→Int→Option (Cur)) (Ab:Int) (Ac:Int):Option (Cur) :=
  bif (decide (Ac<(Aa.length:Int))) then bif (decide (Ac<4000)) then Qro fu k3 Aa Ab Ac else some (⟨Aa,0,Ab⟩:Cur) else some (⟨Aa,0,Ab⟩:Cur)
def Qhk (fu:Nat)  (Aa:List U8):Nat→Int→Int→Option (Cur)
  | 0=>λ_ _=>none
  | n+1=>Qow fu Aa (Qhk fu Aa n)
def Qsj (fu:Nat) (Aa:List U8):Option (Cur) :=
  Qhk fu Aa fu (w64 (26583+(Aa.length:Int))) 0
def Qh2 (fu:Nat) (c1:Cur):Option (Int×Cur) :=
  bif (decide (c1.fi<(c1.fb.length:Int))) then Qac (ix c1.fb c1.fi) λAa=>some (IntKind.wrap .i64 (((BitVec.ofInt (IntKind.bits .i64) (w64 ((IntKind.wrap .i64 (((BitVec.ofInt (IntKind.bits .i64) (IntKind.wrap .i64 (((BitVec.ofInt (IntKind.bits .i64) (Int.fdiv (w64 ((w64 (c1.fh*6364136223846793005))+1442695040888963407)) (2 ^ (min 33 (IntKind.bits .i64)))) ^^^ BitVec.ofInt (IntKind.bits .i64) (Int.fdiv (w64 ((w64 (c1.fh*6364136223846793005))+1442695040888963407)) (2 ^ (min 45 (IntKind.bits .i64))))).toNat:Nat):Int)) &&& BitVec.ofInt (IntKind.bits .i64) 255).toNat:Nat):Int))+(w64 Aa.n))) &&& BitVec.ofInt (IntKind.bits .i64) 255).toNat:Nat):Int),(⟨c1.fb,w64 (c1.fi+1),w64 ((w64 (c1.fh*6364136223846793005))+1442695040888963407)⟩:Cur)) else some (IntKind.wrap .i64 (((BitVec.ofInt (IntKind.bits .i64) (IntKind.wrap .i64 (((BitVec.ofInt (IntKind.bits .i64) (Int.fdiv (w64 ((w64 (c1.fh*6364136223846793005))+1442695040888963407)) (2 ^ (min 33 (IntKind.bits .i64)))) ^^^ BitVec.ofInt (IntKind.bits .i64) (Int.fdiv (w64 ((w64 (c1.fh*6364136223846793005))+1442695040888963407)) (2 ^ (min 45 (IntKind.bits .i64))))).toNat:Nat):Int)) &&& BitVec.ofInt (IntKind.bits .i64) 255).toNat:Nat):Int),(⟨c1.fb,c1.fi,w64 ((w64 (c1.fh*6364136223846793005))+1442695040888963407)⟩:Cur))
def Qaw (fu:Nat) (c1:Cur) (n7:Int):Option (Int×Cur) :=
  bif (decide (n7≤0)) then some (0,c1) else bif (decide (n7≤256)) then Qac (Qh2 fu c1) λAe=>Qac (Jdz n7) λAf=>some (Int.tmod Ae.1 n7,(⟨c1.fb,Ae.2.fi,Ae.2.fh⟩:Cur)) else Qac (Qh2 fu c1) λAc=>Qac (Qh2 fu (⟨c1.fb,Ac.2.fi,Ac.2.fh⟩:Cur)) λAd=>Qac (Qh2 fu (⟨c1.fb,Ad.2.fi,Ad.2.fh⟩:Cur)) λAb=>Qac (Qh2 fu (⟨c1.fb,Ab.2.fi,Ab.2.fh⟩:Cur)) λAa=>Qac (Jdz n7) λAg=>some (Int.tmod (w64 ((w64 ((w64 ((w64 (Ac.1*16777216))+(w64 (Ad.1*65536))))+(w64 (Ab.1*256))))+Aa.1)) n7,(⟨c1.fb,Aa.2.fi,Aa.2.fh⟩:Cur))
def Qlo (fu:Nat) (c1:Cur) (n7:Int):Option (Bool×Cur) :=
  Qac (Qaw fu c1 n7) λx9=>some (x9.1==0,(⟨c1.fb,x9.2.fi,x9.2.fh⟩:Cur))
def Qcs (fu:Nat) (c1:Cur) (Ab:List Int):Option (Int×Cur) :=
  Qac (Qaw fu c1 (Ab.length:Int)) λAa=>Qac (ix Ab Aa.1) λAc=>some (Ac,(⟨c1.fb,Aa.2.fi,Aa.2.fh⟩:Cur))
def Qid (fu:Nat) (Ae:Int→Int→List Pair→Int→Option (Request×Cur)) (Ac:Int) (Ab:Int) (Aa:Int) (Ad:List Pair):Option (Request×Cur) :=
  Ae Ab Aa Ad (w64 (Ac+1))
def Qmh (fu:Nat) (k9:Int→Int→List Pair→Int→Option (Request×Cur)) (c1:Cur) (Aa:Int) (Ag:Int→Int→List Pair→Int→Option (Request×Cur)) (Af:Int) (Ae:Int) (Ad:List Pair) (Ab:Int):Option (Request×Cur) :=
  bif (decide (Ab≤Aa)) then bif (Aa==Ab) then Qac (Qgz 16 Ad (([(⟨Aa,Aa⟩:Pair)]:List Pair))) λAi=>Qid fu Ag Ab Af Ae Ai else Qac (Qlo fu (⟨c1.fb,Af,Ae⟩:Cur) 2) λAc=>bif Ac.1 then Qac (Qgz 16 Ad (([(⟨Aa,Ab⟩:Pair),(⟨Ab,Aa⟩:Pair)]:List Pair))) λAh=>Qid fu Ag Ab Ac.2.fi Ac.2.fh Ah else Qid fu Ag Ab Ac.2.fi Ac.2.fh Ad else k9 Af Ae Ad (w64 (Aa+1))
def Qfz (fu:Nat) (k9:Int→Int→List Pair→Int→Option (Request×Cur)) (c1:Cur) (Aa:Int):Nat→Int→Int→List Pair→Int→Option (Request×Cur)
  | 0=>λ_ _ _ _=>none
  | n+1=>Qmh fu k9 c1 Aa (Qfz fu k9 c1 Aa n)
def Qki (fu:Nat) (Aa:Int→Int→List Item→Int→Int→Option (Request×Cur)) (Ab:Int) (Ad:Int) (Ac:Int) (Af:List Item) (Ae:Int):Option (Request×Cur) :=
  Aa Ad Ac Af Ae (w64 (Ab+1))
def Qic (fu:Nat) (Ad:Int→Int→List Item→Int→Int→Option (Request×Cur)) (Ac:List Item) (Aa:Int) (Ae:Int) (Ag:Int) (Af:Int) (Ab:Item):Option (Request×Cur) :=
  bif (decide ((w64 (Aa+Ab.fO))≤12)) then Qac (Qgz 56 Ac (([Ab]:List Item))) λAh=>Qki fu Ad Ae Ag Af Ah (w64 (Aa+Ab.fO)) else Qki fu Ad Ae Ag Af Ac Aa
def Qo6 (fu:Nat) (Ae:Int→Int→List Item→Int→Int→Option (Request×Cur)) (c1:Cur) (Ad:List Item) (Ag:Int) (Af:Int) (Ah:Int) (Ai:Int) (Ab:Item):Option (Request×Cur) :=
  Qac (Qlo fu (⟨c1.fb,Ah,Ai⟩:Cur) 3) λAa=>bif Aa.1 then Qac (Qaw fu (⟨c1.fb,Aa.2.fi,Aa.2.fh⟩:Cur) 8) λAc=>Qic fu Ae Ad Ag Af Ac.2.fi Ac.2.fh (⟨Ab.qQ,5,5,w64 (4+Ac.1),Ab.fQ,Ab.fM,Ab.fO⟩:Item) else Qic fu Ae Ad Ag Af Aa.2.fi Aa.2.fh Ab
def Qll (fu:Nat)  (c1:Cur) (Au:Int×Cur) (As:Int×Cur) (Av:Int×Cur) (Al:Int×Cur) (At:Int×Cur) (Ai:Int×Cur) (Ap:List Pair) (Aq:List Typ) (Ar:Int×Cur) (Am:Int→Int→List Item→Int→Int→Option (Request×Cur)) (Aj:Int) (Ah:Int) (Ak:List Item) (Ao:Int) (Ae:Int):Option (Request×Cur) :=
  bif (decide (Ae<Ar.1)) then Qac (Qaw fu (⟨c1.fb,Aj,Ah⟩:Cur) 10) λAf=>Qac (Qaw fu (⟨c1.fb,Af.2.fi,Af.2.fh⟩:Cur) 10) λAc=>Qac (Qaw fu (⟨c1.fb,Ac.2.fi,Ac.2.fh⟩:Cur) 10) λAg=>Qac (Qaw fu (⟨c1.fb,Ag.2.fi,Ag.2.fh⟩:Cur) 60) λAd=>Qac (Qaw fu (⟨c1.fb,Ad.2.fi,Ad.2.fh⟩:Cur) (w64 (1+Ai.1))) λAa=>Qac (Qaw fu (⟨c1.fb,Aa.2.fi,Aa.2.fh⟩:Cur) 4) λAb=>Qo6 fu Am c1 Ak Ao Ae Ab.2.fi Ab.2.fh (⟨w64 (3*Ae),w64 (1+Af.1),w64 (1+Ac.1),w64 (1+Ag.1),w64 (1+Ad.1),Aa.1,w64 (1+Ab.1)⟩:Item) else some ((⟨Au.1,(⟨As.1,Av.1,Al.1,At.1⟩:Pallet),w64 (1+Ai.1),Ap,Aq,7,Ak⟩:Request),(⟨c1.fb,Aj,Ah⟩:Cur))
def Qde (fu:Nat)  (c1:Cur) (Ac:Int×Cur) (Ai:Int×Cur) (Ah:Int×Cur) (Ab:Int×Cur) (Aa:Int×Cur) (Ad:Int×Cur) (Ae:List Pair) (Af:List Typ) (Ag:Int×Cur):Nat→Int→Int→List Item→Int→Int→Option (Request×Cur)
  | 0=>λ_ _ _ _ _=>none
  | n+1=>Qll fu c1 Ac Ai Ah Ab Aa Ad Ae Af Ag (Qde fu c1 Ac Ai Ah Ab Aa Ad Ae Af Ag n)
def Qlc (fu:Nat)  (c1:Cur) (At:Int×Cur) (Ap:Int×Cur) (Av:Int×Cur) (Al:Int×Cur) (Aq:Int×Cur) (Am:Int×Cur) (Ao:List Pair) (Ar:Int×Cur) (Au:Int→Int→List Typ→Int→Option (Request×Cur)) (Ak:Int) (Ai:Int) (Aj:List Typ) (Ae:Int):Option (Request×Cur) :=
  bif (decide (Ae<Ar.1)) then Qac (Qaw fu (⟨c1.fb,Ak,Ai⟩:Cur) 9) λAb=>Qac (Qaw fu (⟨c1.fb,Ab.2.fi,Ab.2.fh⟩:Cur) 8) λAc=>Qac (Qaw fu (⟨c1.fb,Ac.2.fi,Ac.2.fh⟩:Cur) 9) λAg=>Qac (Qaw fu (⟨c1.fb,Ag.2.fi,Ag.2.fh⟩:Cur) 5) λAf=>Qac (Qaw fu (⟨c1.fb,Af.2.fi,Af.2.fh⟩:Cur) 90) λAa=>Qac (Qaw fu (⟨c1.fb,Aa.2.fi,Aa.2.fh⟩:Cur) 20) λAh=>Qac (Qgz 56 Aj (([(⟨w64 (10+Ae),w64 (4+Ab.1),w64 (3+Ac.1),w64 (3+Ag.1),Af.1,w64 (20+Aa.1),w64 (1+Ah.1)⟩:Typ)]:List Typ))) λAs=>Au Ah.2.fi Ah.2.fh As (w64 (Ae+1)) else Qac (Qaw fu (⟨c1.fb,Ak,Ai⟩:Cur) 6) λAd=>Qde fu c1 At Ap Av Al Aq Am Ao Aj Ad fu Ad.2.fi Ad.2.fh (([]:List Item)) 0 0
def Qg0 (fu:Nat)  (c1:Cur) (Ad:Int×Cur) (Ah:Int×Cur) (Ag:Int×Cur) (Ab:Int×Cur) (Aa:Int×Cur) (Ae:Int×Cur) (Af:List Pair) (Ac:Int×Cur):Nat→Int→Int→List Typ→Int→Option (Request×Cur)
  | 0=>λ_ _ _ _=>none
  | n+1=>Qlc fu c1 Ad Ah Ag Ab Aa Ae Af Ac (Qg0 fu c1 Ad Ah Ag Ab Aa Ae Af Ac n)
def Qoo (fu:Nat) (c1:Cur) (Aj:Int×Cur) (Ak:Int×Cur) (Ah:Int×Cur) (Ab:Int×Cur) (Ac:Int×Cur) (Ad:Int×Cur) (Af:List Pair) (Ae:Int) (Ai:Int) (Ag:List Typ):Option (Request×Cur) :=
  Qac (Qaw fu (⟨c1.fb,Ae,Ai⟩:Cur) 5) λAa=>Qg0 fu c1 Aj Ak Ah Ab Ac Ad Af Aa fu Aa.2.fi Aa.2.fh Ag 0
def Qln (fu:Nat)  (c1:Cur) (Am:Int×Cur) (Ao:Int×Cur) (Ak:Int×Cur) (Ai:Int×Cur) (Aj:Int×Cur) (Af:Int×Cur) (k9:Int→Int→List Pair→Int→Option (Request×Cur)) (Ad:Int) (Ah:Int) (Ag:List Pair) (Ae:Int):Option (Request×Cur) :=
  bif (decide (Ae<(w64 (1+Af.1)))) then Qfz fu k9 c1 Ae fu Ad Ah Ag 0 else Qac (Qaw fu (⟨c1.fb,Ad,Ah⟩:Cur) 8) λAb=>Qac (Qcs fu (⟨c1.fb,Ab.2.fi,Ab.2.fh⟩:Cur) (([60,100,140]:List Int))) λAa=>Qac (Qcs fu (⟨c1.fb,Aa.2.fi,Aa.2.fh⟩:Cur) (([9,20]:List Int))) λAc=>Qac (Qgz 56 (([]:List Typ)) (([(⟨7,12,10,11,Ab.1,Aa.1,Ac.1⟩:Typ)]:List Typ))) λAl=>Qoo fu c1 Am Ao Ak Ai Aj Af Ag Ac.2.fi Ac.2.fh Al
def Qd4 (fu:Nat)  (c1:Cur) (Ac:Int×Cur) (Af:Int×Cur) (Ae:Int×Cur) (Ab:Int×Cur) (Aa:Int×Cur) (Ad:Int×Cur):Nat→Int→Int→List Pair→Int→Option (Request×Cur)
  | 0=>λ_ _ _ _=>none
  | n+1=>Qln fu c1 Ac Af Ae Ab Aa Ad (Qd4 fu c1 Ac Af Ae Ab Aa Ad n)
def Qm4 (fu:Nat) (c1:Cur):Option (Request×Cur) :=
  Qac (Qaw fu c1 2) λAc=>Qac (Qcs fu (⟨c1.fb,Ac.2.fi,Ac.2.fh⟩:Cur) (([20,30,37]:List Int))) λAf=>Qac (Qcs fu (⟨c1.fb,Af.2.fi,Af.2.fh⟩:Cur) (([20,25,40]:List Int))) λAe=>Qac (Qcs fu (⟨c1.fb,Ae.2.fi,Ae.2.fh⟩:Cur) (([15,24,50]:List Int))) λAb=>Qac (Qcs fu (⟨c1.fb,Ab.2.fi,Ab.2.fh⟩:Cur) (([150,400,5000]:List Int))) λAa=>Qac (Qaw fu (⟨c1.fb,Aa.2.fi,Aa.2.fh⟩:Cur) 4) λAd=>Qd4 fu c1 Ac Af Ae Ab Aa Ad fu Ad.2.fi Ad.2.fh (([]:List Pair)) 0
def Qbe (fu:Nat) (x1:Int) (Aa:Int) (Ab:Int):Option (Bool) :=
  bif (decide (x1≥Aa)) then some (decide (x1≤Ab)) else some (false)
def Qet (fu:Nat) (x1:Int):Option (Bool) :=
  Qac (Qbe fu x1 1 2000) λx2=>some (x2)
def Qhm (fu:Nat) (x1:Pallet):Option (Bool) :=
  Qac (Qet fu x1.fW) λx5=>bif x5 then Qac (Qet fu x1.fD) λAb=>bif Ab then Qac (Qet fu x1.fH) λAa=>bif Aa then Qac (Qbe fu x1.fQ 1 100000) λAc=>some (Ac) else some (false) else some (false) else some (false)
def Qqp (fu:Nat) (x1:Int):Option (Bool) :=
  Qac (Qbe fu x1 0 999) λx2=>some (x2)
def Qrr (fu:Nat) (x1:Typ):Option (Bool) :=
  Qac (Qqp fu x1.qQ) λx5=>bif x5 then Qac (Qet fu x1.fW) λAa=>bif Aa then Qac (Qet fu x1.fH) λAd=>bif Ad then Qac (Qet fu x1.fD) λAf=>bif Af then Qac (Qbe fu x1.ft 0 100000) λAb=>bif Ab then Qac (Qbe fu x1.fQ 1 100000) λAe=>bif Ae then Qac (Qbe fu x1.fK 0 100000) λAc=>some (Ac) else some (false) else some (false) else some (false) else some (false) else some (false) else some (false)
def Qrn (fu:Nat) (x1:Item):Option (Bool) :=
  Qac (Qqp fu x1.qQ) λx5=>bif x5 then Qac (Qet fu x1.fW) λAa=>bif Aa then Qac (Qet fu x1.fH) λAd=>bif Ad then Qac (Qet fu x1.fD) λAf=>bif Af then Qac (Qbe fu x1.fQ 1 100000) λAb=>bif Ab then Qac (Qbe fu x1.fM 0 3) λAe=>bif Ae then Qac (Qbe fu x1.fO 1 6) λAc=>some (Ac) else some (false) else some (false) else some (false) else some (false) else some (false) else some (false)
def Qnu (fu:Nat) (k4:Int→Option (Bool)) (Aa:Int)  : Option (Bool) :=
  k4 (w64 (Aa+1))
def Qjz (fu:Nat)  (r1:Request) (k7:Int→Int→Option (Bool)) (Ab:Int) (Aa:Int):Option (Bool) :=
  bif (decide (Aa<(r1.fU.length:Int))) then Qac (ix r1.fU Aa) λAc=>Qac (Qrn fu Ac) λAd=>bif (!Ad) then some (false) else Qac (ix r1.fU Aa) λAe=>k7 (w64 (Ab+Ac.fO)) (w64 (Aa+1)) else some (decide (Ab≤12))
def Qed (fu:Nat)  (r1:Request):Nat→Int→Int→Option (Bool)
  | 0=>λ_ _=>none
  | n+1=>Qjz fu r1 (Qed fu r1 n)
def Qjy (fu:Nat)  (r1:Request) (k6:Int→Option (Bool)) (Aa:Int):Option (Bool) :=
  bif (decide (Aa<(r1.fR.length:Int))) then Qac (ix r1.fR Aa) λAc=>Qac (Qrr fu Ac) λAb=>bif (!Ab) then some (false) else k6 (w64 (Aa+1)) else Qed fu r1 fu 0 0
def Qea (fu:Nat)  (r1:Request):Nat→Int→Option (Bool)
  | 0=>λ_=>none
  | n+1=>Qjy fu r1 (Qea fu r1 n)
def Qj1 (fu:Nat)  (r1:Request) (k4:Int→Option (Bool)) (Aa:Int):Option (Bool) :=
  bif (decide (Aa<(r1.fP.length:Int))) then Qac (ix r1.fP Aa) λAb=>Qac (Qbe fu Ab.fA 0 3) λAc=>bif (!Ac) then some (false) else Qac (ix r1.fP Aa) λAe=>Qac (Qbe fu Ab.fB 0 3) λAd=>bif (!Ad) then some (false) else Qnu fu k4 Aa else Qea fu r1 fu 0
def Qd9 (fu:Nat)  (r1:Request):Nat→Int→Option (Bool)
  | 0=>λ_=>none
  | n+1=>Qj1 fu r1 (Qd9 fu r1 n)
def Qnr (fu:Nat) (r1:Request)  : Option (Bool) :=
  Qd9 fu r1 fu 0
def Qn5 (fu:Nat) (r1:Request):Option (Bool) :=
  Qac (Qbe fu r1.qY 0 1) λAa=>bif (!Aa) then some (false) else Qac (Qhm fu r1.fJ) λAc=>bif (!Ac) then some (false) else Qac (Qbe fu r1.fG 1 4) λAb=>bif (!Ab) then some (false) else bif (decide ((r1.fP.length:Int)>16)) then some (false) else Qac (Qbe fu (r1.fR.length:Int) 1 5) λAd=>bif (!Ad) then some (false) else Qac (Qqp fu r1.fL) λAe=>bif (!Ae) then some (false) else bif (decide ((r1.fU.length:Int)>8)) then some (false) else Qnr fu r1
def Qjt (fu:Nat)  (r1:Request) (k1:Int→Option (Typ×Bool)) (Aa:Int):Option (Typ×Bool) :=
  bif (decide (Aa<(r1.fR.length:Int))) then Qac (ix r1.fR Aa) λAb=>bif (Ab.qQ==r1.fL) then Qac (ix r1.fR Aa) λAc=>some (Ab,true) else k1 (w64 (Aa+1)) else some ((⟨0,0,0,0,0,0,0⟩:Typ),false)
def Qf3 (fu:Nat)  (r1:Request):Nat→Int→Option (Typ×Bool)
  | 0=>λ_=>none
  | n+1=>Qjt fu r1 (Qf3 fu r1 n)
def Qgb (fu:Nat) (r1:Request):Option (Typ×Bool) :=
  Qf3 fu r1 fu 0
def Ql6 (fu:Nat) (k3:Int→Option (Bool)) (r1:Request) (Aa:Int) (k4:Int→Option (Bool)) (Ab:Int):Option (Bool) :=
  bif (decide (Ab<Aa)) then Qac (ix r1.fR Aa) λAd=>Qac (ix r1.fR Ab) λAc=>bif (Ad.qQ==Ac.qQ) then some (false) else k4 (w64 (Ab+1)) else k3 (w64 (Aa+1))
def Qer (fu:Nat) (k3:Int→Option (Bool)) (r1:Request) (Aa:Int):Nat→Int→Option (Bool)
  | 0=>λ_=>none
  | n+1=>Ql6 fu k3 r1 Aa (Qer fu k3 r1 Aa n)
def Ql7 (fu:Nat) (k7:Int→Option (Bool)) (r1:Request) (Aa:Int) (k8:Int→Option (Bool)) (Ab:Int):Option (Bool) :=
  bif (decide (Ab<Aa)) then Qac (ix r1.fU Aa) λAc=>Qac (ix r1.fU Ab) λAd=>bif (Ac.qQ==Ad.qQ) then some (false) else k8 (w64 (Ab+1)) else k7 (w64 (Aa+1))
def Qep (fu:Nat) (k7:Int→Option (Bool)) (r1:Request) (Aa:Int):Nat→Int→Option (Bool)
  | 0=>λ_=>none
  | n+1=>Ql7 fu k7 r1 Aa (Qep fu k7 r1 Aa n)
def Qpe (fu:Nat) (Ab:Int→Option (Bool)) (Aa:Int)  : Option (Bool) :=
  Ab (w64 (Aa+1))
def Qk9 (fu:Nat)  (r1:Request) (Ad:Int→Option (Bool)) (Aa:Int):Option (Bool) :=
  bif (decide (Aa<(r1.fP.length:Int))) then Qac (ix r1.fP Aa) λAb=>bif (decide (Ab.fA≥r1.fG)) then some (false) else Qac (ix r1.fP Aa) λAe=>bif (decide (Ab.fB≥r1.fG)) then some (false) else Qpe fu Ad Aa else Qac (Qgb fu r1) λAc=>some (Ac.2)
def Qd6 (fu:Nat)  (r1:Request):Nat→Int→Option (Bool)
  | 0=>λ_=>none
  | n+1=>Qk9 fu r1 (Qd6 fu r1 n)
def Ql4 (fu:Nat)  (r1:Request) (k7:Int→Option (Bool)) (Aa:Int):Option (Bool) :=
  bif (decide (Aa<(r1.fU.length:Int))) then Qac (ix r1.fU Aa) λAb=>bif (decide (Ab.fM≥r1.fG)) then some (false) else Qep fu k7 r1 Aa fu 0 else Qd6 fu r1 fu 0
def Qbu (fu:Nat)  (r1:Request):Nat→Int→Option (Bool)
  | 0=>λ_=>none
  | n+1=>Ql4 fu r1 (Qbu fu r1 n)
def Ql0 (fu:Nat)  (r1:Request) (k3:Int→Option (Bool)) (Aa:Int):Option (Bool) :=
  bif (decide (Aa<(r1.fR.length:Int))) then Qer fu k3 r1 Aa fu 0 else Qbu fu r1 fu 0
def Qb1 (fu:Nat)  (r1:Request):Nat→Int→Option (Bool)
  | 0=>λ_=>none
  | n+1=>Ql0 fu r1 (Qb1 fu r1 n)
def Qph (fu:Nat) (r1:Request):Option (Bool) :=
  Qb1 fu r1 fu 0
def Qmx (fu:Nat) (k3:Int→Option (Bool)) (Aa:Int)  : Option (Bool) :=
  k3 (w64 (Aa+1))
def Qm8 (fu:Nat)  (Ab:List Pair) (a5:Int) (b6:Int) (k3:Int→Option (Bool)) (Aa:Int):Option (Bool) :=
  bif (decide (Aa<(Ab.length:Int))) then Qac (ix Ab Aa) λAc=>bif (Ac.fA==a5) then Qac (ix Ab Aa) λAd=>bif (Ac.fB==b6) then some (true) else Qmx fu k3 Aa else Qmx fu k3 Aa else some (false)
def Qgq (fu:Nat)  (Aa:List Pair) (a5:Int) (b6:Int):Nat→Int→Option (Bool)
  | 0=>λ_=>none
  | n+1=>Qm8 fu Aa a5 b6 (Qgq fu Aa a5 b6 n)
def Qgi (fu:Nat) (Aa:List Pair) (a5:Int) (b6:Int):Option (Bool) :=
  Qgq fu Aa a5 b6 fu 0
def Qkp (fu:Nat) (Ab:Int→Option (Bool)) (Aa:Int)  : Option (Bool) :=
  Ab (w64 (Aa+1))
def Qk3 (fu:Nat) (k9:Int→Option (Bool)) (Ac:List Pair) (Aj:Int) (Aa:Int) (Ad:Int→Option (Bool)) (Ab:Int):Option (Bool) :=
  bif (decide (Ab<Aj)) then bif (Aa==Ab) then Qac (Qgi fu Ac Aa Aa) λAh=>bif (!Ah) then some (false) else Qac (Qgi fu Ac Aa Ab) λAe=>Qac (Qgi fu Ac Ab Aa) λAg=>bif (!(Ae==Ag)) then some (false) else Qkp fu Ad Ab else Qac (Qgi fu Ac Aa Ab) λAi=>Qac (Qgi fu Ac Ab Aa) λAf=>bif (!(Ai==Af)) then some (false) else Qkp fu Ad Ab else k9 (w64 (Aa+1))
def Qeo (fu:Nat) (k9:Int→Option (Bool)) (Ac:List Pair) (Aa:Int) (Ab:Int):Nat→Int→Option (Bool)
  | 0=>λ_=>none
  | n+1=>Qk3 fu k9 Ac Aa Ab (Qeo fu k9 Ac Aa Ab n)
def Qlf (fu:Nat)  (Ac:List Pair) (Aa:Int) (k9:Int→Option (Bool)) (Ab:Int):Option (Bool) :=
  bif (decide (Ab<Aa)) then Qeo fu k9 Ac Aa Ab fu 0 else some (true)
def Qd3 (fu:Nat)  (Ab:List Pair) (Aa:Int):Nat→Int→Option (Bool)
  | 0=>λ_=>none
  | n+1=>Qlf fu Ab Aa (Qd3 fu Ab Aa n)
def Qps (fu:Nat) (Ab:List Pair) (Aa:Int):Option (Bool) :=
  Qac (Qbe fu Aa 1 4) λx6=>bif (!x6) then some (false) else Qd3 fu Ab Aa fu 0
def Qju (fu:Nat)  (n1:Int) (k1:List Int→Int→Option ((List Int))) (Ab:List Int) (Aa:Int):Option ((List Int)) :=
  bif (decide (Aa<n1)) then Qac (Qgz 8 Ab (([Aa]:List Int))) λAc=>k1 Ac (w64 (Aa+1)) else some (Ab)
def Qf8 (fu:Nat)  (n1:Int):Nat→List Int→Int→Option ((List Int))
  | 0=>λ_ _=>none
  | n+1=>Qju fu n1 (Qf8 fu n1 n)
def Qkj (fu:Nat) (n1:Int):Option ((List Int)) :=
  Qf8 fu n1 fu (([]:List Int)) 0
def Qib (fu:Nat) (k3:List Int→Int→Int→Option ((List Int))) (Ag:List Int) (Aj:Bool) (Ad:(List Int)) (Ae:(List Int)) (Ac:List Int) (Aa:Int) (Ab:Int)  : Option ((List Int)) :=
  bif (Ab==(Ae.length:Int)) then Qac (ix Ad Aa) λAr=>Qac (Qgz 8 Ac (([Ar]:List Int))) λAs=>k3 As (w64 (Aa+1)) Ab else bif (Aa==(Ad.length:Int)) then Qac (ix Ae Ab) λAm=>Qac (Qgz 8 Ac (([Am]:List Int))) λAp=>k3 Ap Aa (w64 (Ab+1)) else Qac (ix Ae Ab) λAh=>Qac (ix Ag Ah) λAk=>Qac (ix Ad Aa) λAf=>Qac (ix Ag Af) λAi=>bif (decide (Ak<Ai)) then bif (!Aj) then Qac (ix Ae Ab) λBk=>Qac (Qgz 8 Ac (([Ah]:List Int))) λAu=>k3 Au Aa (w64 (Ab+1)) else Qac (ix Ae Ab) λBd=>Qac (ix Ag Ah) λBh=>Qac (ix Ad Aa) λBg=>Qac (ix Ag Af) λBj=>bif (decide (Ak>Ai)) then bif Aj then Qac (ix Ae Ab) λBe=>Qac (Qgz 8 Ac (([Ah]:List Int))) λAq=>k3 Aq Aa (w64 (Ab+1)) else Qac (ix Ad Aa) λAz=>Qac (Qgz 8 Ac (([Af]:List Int))) λAl=>k3 Al (w64 (Aa+1)) Ab else Qac (ix Ad Aa) λBf=>Qac (Qgz 8 Ac (([Af]:List Int))) λAv=>k3 Av (w64 (Aa+1)) Ab else Qac (ix Ae Ab) λBa=>Qac (ix Ag Ah) λBb=>Qac (ix Ad Aa) λBc=>Qac (ix Ag Af) λAx=>bif (decide (Ak>Ai)) then bif Aj then Qac (ix Ae Ab) λAy=>Qac (Qgz 8 Ac (([Ah]:List Int))) λAo=>k3 Ao Aa (w64 (Ab+1)) else Qac (ix Ad Aa) λBl=>Qac (Qgz 8 Ac (([Af]:List Int))) λAt=>k3 At (w64 (Aa+1)) Ab else Qac (ix Ad Aa) λBi=>Qac (Qgz 8 Ac (([Af]:List Int))) λAw=>k3 Aw (w64 (Aa+1)) Ab
def Qk6 (fu:Nat)  (Ag:List Int) (Af:Bool) (Ac:(List Int)) (Aa:(List Int)) (k3:List Int→Int→Int→Option ((List Int))) (Ab:List Int) (Ad:Int) (Ae:Int):Option ((List Int)) :=
  bif (decide (Ad<(Ac.length:Int))) then Qib fu k3 Ag Af Ac Aa Ab Ad Ae else bif (decide (Ae<(Aa.length:Int))) then Qib fu k3 Ag Af Ac Aa Ab Ad Ae else some (Ab)
def Qc1 (fu:Nat)  (Aa:List Int) (Ac:Bool) (Ad:(List Int)) (Ab:(List Int)):Nat→List Int→Int→Int→Option ((List Int))
  | 0=>λ_ _ _=>none
  | n+1=>Qk6 fu Aa Ac Ad Ab (Qc1 fu Aa Ac Ad Ab n)
def Qr3 (fu:Nat) (self:List Int→List Int→Bool→Option ((List Int))) (Ab:List Int) (Aa:List Int) (Ac:Bool):Option ((List Int)) :=
  bif (decide ((Aa.length:Int)<2)) then Qac (Qgz 8 (([]:List Int)) Aa) λAh=>some (Ah) else Qac (sls Aa 0 (w64 (Int.tdiv (Aa.length:Int) 2))) λAe=>Qac (self Ab Ae Ac) λAg=>Qac (sls Aa (w64 (Int.tdiv (Aa.length:Int) 2)) (Aa.length:Int)) λAf=>Qac (self Ab Af Ac) λAd=>Qc1 fu Ab Ac Ag Ad fu (([]:List Int)) 0 0
def Qiu (fu:Nat):Nat→List Int→List Int→Bool→Option ((List Int))
  | 0=>λ_ _ _=>none
  | n+1=>Qr3 fu (Qiu fu n)
def Qp7 (fu:Nat) (Aa:List Int) (Ac:List Int) (Ab:Bool):Option ((List Int)):=Qiu fu fu Aa Ac Ab
def Qou (fu:Nat) (Aa:List Int):Option ((List Int)) :=
  Qac (Qkj fu (Aa.length:Int)) λx5=>Qac (Qp7 fu Aa x5 false) λAb=>some (Ab)
def Qm0 (fu:Nat) (Aa:Int) (h2:Int) (d3:Int):Option ((List Int)) :=
  Qac (Qou fu (([Aa,h2,d3]:List Int))) λx9=>Qac (ix x9 0) λAf=>Qac (ix (([Aa,h2,d3]:List Int)) Af) λAg=>Qac (ix x9 1) λAd=>Qac (ix (([Aa,h2,d3]:List Int)) Ad) λAb=>Qac (ix x9 2) λAe=>Qac (ix (([Aa,h2,d3]:List Int)) Ae) λAc=>some (([Ag,Ab,Ac]:List Int))
def Qqm (fu:Nat) (x1:Item) (t2:Typ):Option (Bool) :=
  Qac (Qm0 fu x1.fW x1.fH x1.fD) λAa=>Qac (Qm0 fu t2.fW t2.fH t2.fD) λAb=>Qac (ix Aa 0) λAd=>Qac (ix Ab 0) λAg=>bif (decide (Ad≤Ag)) then Qac (ix Aa 1) λAh=>Qac (ix Ab 1) λAf=>bif (decide (Ah≤Af)) then Qac (ix Aa 2) λAe=>Qac (ix Ab 2) λAc=>bif (decide (Ae≤Ac)) then some (decide (x1.fQ≤t2.fQ)) else some (false) else some (false) else some (false)
def Qrh (fu:Nat) (k4:Int→Option (Int)) (Aa:Int)  : Option (Int) :=
  k4 (w64 (Aa+1))
def Qok (fu:Nat)  (r1:Request) (k4:Int→Option (Int)) (Ab:Int):Option (Int) :=
  bif (decide (Ab<(r1.fR.length:Int))) then Qac (ix r1.fR Ab) λAa=>bif (decide (Aa.fW>r1.fJ.fW)) then some (6) else bif (decide (Aa.fD>r1.fJ.fD)) then some (6) else bif (decide (Aa.fH>r1.fJ.fH)) then some (6) else bif (decide ((w64 (Aa.ft+Aa.fQ))>r1.fJ.fQ)) then some (6) else Qrh fu k4 Ab else some (0)
def Qgd (fu:Nat)  (r1:Request):Nat→Int→Option (Int)
  | 0=>λ_=>none
  | n+1=>Qok fu r1 (Qgd fu r1 n)
def Qo4 (fu:Nat)  (r1:Request) (Ad:Typ×Bool) (k1:Int→Option (Int)) (Aa:Int):Option (Int) :=
  bif (decide (Aa<(r1.fU.length:Int))) then Qac (ix r1.fU Aa) λAb=>Qac (Qqm fu Ab Ad.1) λAc=>bif (!Ac) then some (5) else k1 (w64 (Aa+1)) else Qgd fu r1 fu 0
def Qho (fu:Nat)  (r1:Request) (Aa:Typ×Bool):Nat→Int→Option (Int)
  | 0=>λ_=>none
  | n+1=>Qo4 fu r1 Aa (Qho fu r1 Aa n)
def Qfu (fu:Nat) (r1:Request):Option (Int) :=
  Qac (Qn5 fu r1) λAa=>bif (!Aa) then some (2) else Qac (Qph fu r1) λAd=>bif (!Ad) then some (3) else Qac (Qps fu r1.fP r1.fG) λAc=>bif (!Ac) then some (4) else Qac (Qgb fu r1) λAb=>Qho fu r1 Ab fu 0
def Qmy (fu:Nat) (k3:List Item→Int→Option (Request×Cur)) (Ab:Int) (Aa:List Item):Option (Request×Cur) :=
  k3 Aa (w64 (Ab+1))
def Qnp (fu:Nat)  (c1:Cur) (Aa:Request×Cur) (Ag:Typ×Bool) (k3:List Item→Int→Option (Request×Cur)) (Ac:List Item) (Ab:Int):Option (Request×Cur) :=
  bif (decide (Ab<(Aa.1.fU.length:Int))) then Qac (ix Aa.1.fU Ab) λAd=>Qac (Qqm fu Ad Ag.1) λAe=>bif Ae then Qac (ix Aa.1.fU Ab) λAh=>Qac (Qgz 56 Ac (([Ad]:List Item))) λAf=>Qmy fu k3 Ab Af else Qmy fu k3 Ab Ac else some ((⟨Aa.1.qY,(⟨30,25,24,400⟩:Pallet),Aa.1.fG,Aa.1.fP,Aa.1.fR,Aa.1.fL,Ac⟩:Request),(⟨c1.fb,Aa.2.fi,Aa.2.fh⟩:Cur))
def Qgk (fu:Nat)  (c1:Cur) (Aa:Request×Cur) (Ab:Typ×Bool):Nat→List Item→Int→Option (Request×Cur)
  | 0=>λ_ _=>none
  | n+1=>Qnp fu c1 Aa Ab (Qgk fu c1 Aa Ab n)
def Qrc (fu:Nat) (c1:Cur):Option (Request×Cur) :=
  Qac (Qm4 fu c1) λAa=>Qac (Qfu fu Aa.1) λAb=>bif (Ab != 0) then Qac (Qgb fu ((⟨Aa.1.qY,(⟨30,25,24,400⟩:Pallet),Aa.1.fG,Aa.1.fP,Aa.1.fR,Aa.1.fL,Aa.1.fU⟩:Request))) λAc=>Qgk fu c1 Aa Ac fu (([]:List Item)) 0 else some (Aa.1,(⟨c1.fb,Aa.2.fi,Aa.2.fh⟩:Cur))
def Qbi (fu:Nat) (c1:Cur) (Aa:Request×Cur) (Aj:Int) (Ag:Int) (Ae:Int) (Ak:Int) (Ai:List Pair) (Ad:List Typ) (Af:Int) (Ac:List Item) (Ab:Int) (Ah:Int):Option (Request×Cur) :=
  some ((⟨Aj,(⟨Ag,Aa.1.fJ.fD,Aa.1.fJ.fH,Ae⟩:Pallet),Ak,Ai,Ad,Af,Ac⟩:Request),(⟨c1.fb,Ab,Ah⟩:Cur))
def Qq3 (fu:Nat) (c1:Cur):Option (Request×Cur) :=
  Qac (Qm4 fu c1) λAa=>Qac (Qcs fu (⟨c1.fb,Aa.2.fi,Aa.2.fh⟩:Cur) (([(-1),0,2001,100001,1000,9223372036854775807]:List Int))) λAc=>Qac (Qaw fu (⟨c1.fb,Ac.2.fi,Ac.2.fh⟩:Cur) 20) λAb=>bif (Ab.1==0) then Qac (Qcs fu (⟨c1.fb,Ab.2.fi,Ab.2.fh⟩:Cur) (([(-1),2]:List Int))) λAe=>Qbi fu c1 Aa Ae.1 Aa.1.fJ.fW Aa.1.fJ.fQ Aa.1.fG Aa.1.fP Aa.1.fR Aa.1.fL Aa.1.fU Ae.2.fi Ae.2.fh else bif (Ab.1==1) then Qbi fu c1 Aa Aa.1.qY Ac.1 Aa.1.fJ.fQ Aa.1.fG Aa.1.fP Aa.1.fR Aa.1.fL Aa.1.fU Ab.2.fi Ab.2.fh else bif (Ab.1==2) then Qbi fu c1 Aa Aa.1.qY Aa.1.fJ.fW Ac.1 Aa.1.fG Aa.1.fP Aa.1.fR Aa.1.fL Aa.1.fU Ab.2.fi Ab.2.fh else bif (Ab.1==3) then Qac (Qcs fu (⟨c1.fb,Ab.2.fi,Ab.2.fh⟩:Cur) (([0,5,1]:List Int))) λAj=>Qbi fu c1 Aa Aa.1.qY Aa.1.fJ.fW Aa.1.fJ.fQ Aj.1 Aa.1.fP Aa.1.fR Aa.1.fL Aa.1.fU Aj.2.fi Aj.2.fh else bif (Ab.1==4) then Qac (Qaw fu (⟨c1.fb,Ab.2.fi,Ab.2.fh⟩:Cur) 6) λAf=>Qac (Qaw fu (⟨c1.fb,Af.2.fi,Af.2.fh⟩:Cur) 4) λAk=>Qac (Qgz 16 Aa.1.fP (([(⟨w64 (Af.1 - 1),Ak.1⟩:Pair)]:List Pair))) λAp=>Qbi fu c1 Aa Aa.1.qY Aa.1.fJ.fW Aa.1.fJ.fQ Aa.1.fG Ap Aa.1.fR Aa.1.fL Aa.1.fU Ak.2.fi Ak.2.fh else bif (Ab.1==5) then Qac (ix Aa.1.fR 0) λAt=>Qbi fu c1 Aa Aa.1.qY Aa.1.fJ.fW Aa.1.fJ.fQ Aa.1.fG Aa.1.fP (Qe5 Aa.1.fR 0 ({ At with fH:=Ac.1 })) Aa.1.fL Aa.1.fU Ab.2.fi Ab.2.fh else bif (Ab.1==6) then Qac (Qaw fu (⟨c1.fb,Ab.2.fi,Ab.2.fh⟩:Cur) (Aa.1.fR.length:Int)) λAd=>Qac (ix Aa.1.fR Ad.1) λAq=>Qbi fu c1 Aa Aa.1.qY Aa.1.fJ.fW Aa.1.fJ.fQ Aa.1.fG Aa.1.fP (Qe5 Aa.1.fR Ad.1 ({ Aq with fQ:=Ac.1 })) Aa.1.fL Aa.1.fU Ad.2.fi Ad.2.fh else bif (Ab.1==7) then Qac (Qcs fu (⟨c1.fb,Ab.2.fi,Ab.2.fh⟩:Cur) (([8,(-1),1000]:List Int))) λAh=>Qbi fu c1 Aa Aa.1.qY Aa.1.fJ.fW Aa.1.fJ.fQ Aa.1.fG Aa.1.fP Aa.1.fR Ah.1 Aa.1.fU Ah.2.fi Ah.2.fh else bif (Ab.1==8) then Qac (Qaw fu (⟨c1.fb,Ab.2.fi,Ab.2.fh⟩:Cur) 5) λAi=>Qac (Qaw fu (⟨c1.fb,Ai.2.fi,Ai.2.fh⟩:Cur) 8) λAg=>Qac (Qgz 56 Aa.1.fU (([(⟨3,1,2,3,4,Ai.1,Ag.1⟩:Item)]:List Item))) λAm=>Qbi fu c1 Aa Aa.1.qY Aa.1.fJ.fW Aa.1.fJ.fQ Aa.1.fG Aa.1.fP Aa.1.fR Aa.1.fL Am Ag.2.fi Ag.2.fh else bif (Ab.1==9) then bif (decide ((Aa.1.fU.length:Int)>0)) then Qac (ix Aa.1.fU 0) λAr=>Qbi fu c1 Aa Aa.1.qY Aa.1.fJ.fW Aa.1.fJ.fQ Aa.1.fG Aa.1.fP Aa.1.fR Aa.1.fL (Qe5 Aa.1.fU 0 ({ Ar with fD:=Ac.1 })) Ab.2.fi Ab.2.fh else Qbi fu c1 Aa Aa.1.qY Aa.1.fJ.fW Aa.1.fJ.fQ Aa.1.fG Aa.1.fP Aa.1.fR Aa.1.fL Aa.1.fU Ab.2.fi Ab.2.fh else bif (Ab.1==10) then bif (decide ((Aa.1.fP.length:Int)>0)) then Qac (sls Aa.1.fP 1 (Aa.1.fP.length:Int)) λAo=>Qbi fu c1 Aa Aa.1.qY Aa.1.fJ.fW Aa.1.fJ.fQ Aa.1.fG Ao Aa.1.fR Aa.1.fL Aa.1.fU Ab.2.fi Ab.2.fh else Qbi fu c1 Aa Aa.1.qY Aa.1.fJ.fW Aa.1.fJ.fQ Aa.1.fG Aa.1.fP Aa.1.fR Aa.1.fL Aa.1.fU Ab.2.fi Ab.2.fh else bif (Ab.1==11) then Qac (ix Aa.1.fR 0) λAs=>Qac (Qgz 56 Aa.1.fR (([As]:List Typ))) λAl=>Qbi fu c1 Aa Aa.1.qY Aa.1.fJ.fW Aa.1.fJ.fQ Aa.1.fG Aa.1.fP Al Aa.1.fL Aa.1.fU Ab.2.fi Ab.2.fh else bif (Ab.1==12) then Qbi fu c1 Aa Aa.1.qY Aa.1.fJ.fW Aa.1.fJ.fQ Aa.1.fG Aa.1.fP (([]:List Typ)) Aa.1.fL Aa.1.fU Ab.2.fi Ab.2.fh else Qbi fu c1 Aa Aa.1.qY Aa.1.fJ.fW Aa.1.fJ.fQ Aa.1.fG Aa.1.fP Aa.1.fR Aa.1.fL Aa.1.fU Ab.2.fi Ab.2.fh
def Qmw (fu:Nat) (Ab:List U8):Option (Request) :=
  Qac (Qsj fu Ab) λx8=>Qac (Qlo fu (⟨Ab,x8.fi,x8.fh⟩:Cur) 2) λAa=>bif Aa.1 then Qac (Qrc fu (⟨Ab,Aa.2.fi,Aa.2.fh⟩:Cur)) λAd=>some (Ad.1) else Qac (Qq3 fu (⟨Ab,Aa.2.fi,Aa.2.fh⟩:Cur)) λAc=>some (Ac.1)
def Qov (fu:Nat) (Aa:List U8):Option (Request) :=
  Qac (Qmw fu Aa) λx8=>some (x8)
def Qpd (fu:Nat) (t1:Typ) (x2:Int):Option (Bool) :=
  some (t1.qQ==x2)
def Qci (fu:Nat)  (Ab:List Typ) (f5:Typ→Option Bool) (k1:Int→Option (Int)) (Aa:Int):Option (Int) :=
  bif (decide (Aa<(Ab.length:Int))) then Qac (ix Ab Aa) λAc=>Qac (f5 Ac) λAd=>bif Ad then some (Aa) else k1 (w64 (Aa+1)) else some ((-1))
def Qba (fu:Nat)  (Aa:List Typ) (f5:Typ→Option Bool):Nat→Int→Option (Int)
  | 0=>λ_=>none
  | n+1=>Qci fu Aa f5 (Qba fu Aa f5 n)
def Qbm (fu:Nat) (Aa:List Typ) (f5:Typ→Option Bool):Option (Int) :=
  Qba fu Aa f5 fu 0
def Qhh (fu:Nat) (r1:Request) (Ad:Int):Option (Typ×Bool) :=
  Qac (Qbm fu r1.fR (λAc=>Qpd fu Ac Ad)) λAa=>bif (decide (Aa<0)) then some ((⟨0,0,0,0,0,0,0⟩:Typ),false) else Qac (ix r1.fR Aa) λAb=>some (Ab,true)
def Qig (fu:Nat) (r1:Request):Option (Typ×Bool) :=
  Qac (Qhh fu r1 r1.fL) λAa=>some (Aa.1,Aa.2)
def Qbh (fu:Nat) (n1:Int) (Aa:Int) (Ab:Int):Option (Bool) :=
  bif (decide (n1≥Aa)) then some (decide (n1≤Ab)) else some (false)
def Qc5 (fu:Nat) (n1:Int):Option (Bool) :=
  Qac (Qbh fu n1 1 2000) λx2=>some (x2)
def Qe7 (fu:Nat) (x1:Pallet):Option (Bool) :=
  Qac (Qc5 fu x1.fW) λx5=>bif x5 then Qac (Qc5 fu x1.fD) λAb=>bif Ab then Qac (Qc5 fu x1.fH) λAa=>bif Aa then Qac (Qbh fu x1.fQ 1 100000) λAc=>some (Ac) else some (false) else some (false) else some (false)
def Qcj (fu:Nat)  (Ab:List Pair) (f5:Pair→Option Bool) (k1:Int→Option (Int)) (Aa:Int):Option (Int) :=
  bif (decide (Aa<(Ab.length:Int))) then Qac (ix Ab Aa) λAc=>Qac (f5 Ac) λAd=>bif Ad then some (Aa) else k1 (w64 (Aa+1)) else some ((-1))
def Qbb (fu:Nat)  (Aa:List Pair) (f5:Pair→Option Bool):Nat→Int→Option (Int)
  | 0=>λ_=>none
  | n+1=>Qcj fu Aa f5 (Qbb fu Aa f5 n)
def Qcc (fu:Nat) (Aa:List Pair) (f5:Pair→Option Bool):Option (Int) :=
  Qbb fu Aa f5 fu 0
def Qbc (fu:Nat) (Aa:List Pair) (f5:Pair→Option Bool):Option (Bool) :=
  Qac (Qcc fu Aa f5) λAb=>some (decide (Ab≥0))
def Qkn (fu:Nat) (p1:Pair):Option (Bool) :=
  Qac (Qbh fu p1.fA 0 3) λx5=>bif (!x5) then some (true) else Qac (Qbh fu p1.fB 0 3) λAa=>some (!Aa)
def Qau (fu:Nat) (Aa:List Typ) (f5:Typ→Option Bool):Option (Bool) :=
  Qac (Qbm fu Aa f5) λAb=>some (decide (Ab≥0))
def Qrq (fu:Nat) (x1:Typ):Option (Bool) :=
  Qac (Qbh fu x1.qQ 0 999) λx5=>bif x5 then Qac (Qc5 fu x1.fW) λAa=>bif Aa then Qac (Qc5 fu x1.fH) λAd=>bif Ad then Qac (Qc5 fu x1.fD) λAf=>bif Af then Qac (Qbh fu x1.ft 0 100000) λAb=>bif Ab then Qac (Qbh fu x1.fQ 1 100000) λAe=>bif Ae then Qac (Qbh fu x1.fK 0 100000) λAc=>some (Ac) else some (false) else some (false) else some (false) else some (false) else some (false) else some (false)
def Qkf (fu:Nat) (t1:Typ):Option (Bool) :=
  Qac (Qrq fu t1) λx5=>some (!x5)
def Qrk (fu:Nat) (x1:Item):Option (Bool) :=
  Qac (Qbh fu x1.qQ 0 999) λx5=>bif x5 then Qac (Qc5 fu x1.fW) λAa=>bif Aa then Qac (Qc5 fu x1.fH) λAd=>bif Ad then Qac (Qc5 fu x1.fD) λAf=>bif Af then Qac (Qbh fu x1.fQ 1 100000) λAb=>bif Ab then Qac (Qbh fu x1.fM 0 3) λAe=>bif Ae then Qac (Qbh fu x1.fO 1 6) λAc=>some (Ac) else some (false) else some (false) else some (false) else some (false) else some (false) else some (false)
def Qjm (fu:Nat)  (r1:Request) (k3:Int→Int→Option (Bool)) (Ac:Int) (Aa:Int):Option (Bool) :=
  bif (decide (Aa<(r1.fU.length:Int))) then Qac (ix r1.fU Aa) λAb=>Qac (Qrk fu Ab) λAd=>bif (!Ad) then some (false) else k3 (w64 (Ac+Ab.fO)) (w64 (Aa+1)) else some (decide (Ac≤12))
def Qe3 (fu:Nat)  (r1:Request):Nat→Int→Int→Option (Bool)
  | 0=>λ_ _=>none
  | n+1=>Qjm fu r1 (Qe3 fu r1 n)
def Qnq (fu:Nat) (r1:Request)  : Option (Bool) :=
  Qe3 fu r1 fu 0 0
def Qnc (fu:Nat) (r1:Request)  : Option (Bool) :=
  Qac (Qbc fu r1.fP (λAa=>Qkn fu Aa)) λAf=>bif Af then some (false) else Qac (Qbh fu (r1.fR.length:Int) 1 5) λAd=>bif (!Ad) then some (false) else Qac (Qau fu r1.fR (λAe=>Qkf fu Ae)) λAb=>bif Ab then some (false) else Qac (Qbh fu r1.fL 0 999) λAc=>bif (!Ac) then some (false) else bif (decide ((r1.fU.length:Int)>8)) then some (false) else Qnq fu r1
def Qn0 (fu:Nat) (r1:Request):Option (Bool) :=
  Qac (Qbh fu r1.qY 0 1) λAc=>bif (!Ac) then some (false) else Qac (Qe7 fu r1.fJ) λAa=>bif (!Aa) then some (false) else Qac (Qbh fu r1.fG 1 4) λAb=>bif (!Ab) then some (false) else bif (decide ((r1.fP.length:Int)>16)) then some (false) else Qnc fu r1
def Qqd (fu:Nat) (q1:Typ) (x2:Typ):Option (Bool) :=
  some (q1.qQ==x2.qQ)
def Qql (fu:Nat) (q1:Item) (x2:Item):Option (Bool) :=
  some (q1.qQ==x2.qQ)
def Qch (fu:Nat)  (Ab:List Item) (f5:Item→Option Bool) (k1:Int→Option (Int)) (Aa:Int):Option (Int) :=
  bif (decide (Aa<(Ab.length:Int))) then Qac (ix Ab Aa) λAc=>Qac (f5 Ac) λAd=>bif Ad then some (Aa) else k1 (w64 (Aa+1)) else some ((-1))
def Qa9 (fu:Nat)  (Aa:List Item) (f5:Item→Option Bool):Nat→Int→Option (Int)
  | 0=>λ_=>none
  | n+1=>Qch fu Aa f5 (Qa9 fu Aa f5 n)
def Qb8 (fu:Nat) (Aa:List Item) (f5:Item→Option Bool):Option (Int) :=
  Qa9 fu Aa f5 fu 0
def Qav (fu:Nat) (Aa:List Item) (f5:Item→Option Bool):Option (Bool) :=
  Qac (Qb8 fu Aa f5) λAb=>some (decide (Ab≥0))
def Qmu (fu:Nat) (p1:Pair) (x2:Request):Option (Bool) :=
  bif (decide (p1.fA≥x2.fG)) then some (true) else some (decide (p1.fB≥x2.fG))
def Qo8 (fu:Nat) (k4:Int→Option (Bool)) (Aa:Int)  : Option (Bool) :=
  k4 (w64 (Aa+1))
def Ql5 (fu:Nat)  (r1:Request) (k4:Int→Option (Bool)) (Aa:Int):Option (Bool) :=
  bif (decide (Aa<(r1.fU.length:Int))) then Qac (ix r1.fU Aa) λAb=>bif (decide (Ab.fM≥r1.fG)) then some (false) else Qac (sls r1.fU 0 Aa) λAg=>Qac (Qav fu Ag (λAf=>Qql fu Af Ab)) λAd=>bif Ad then some (false) else Qo8 fu k4 Aa else Qac (Qig fu r1) λAe=>bif Ae.2 then Qac (Qbc fu r1.fP (λAc=>Qmu fu Ac r1)) λAh=>some (!Ah) else some (false)
def Qdx (fu:Nat)  (r1:Request):Nat→Int→Option (Bool)
  | 0=>λ_=>none
  | n+1=>Ql5 fu r1 (Qdx fu r1 n)
def Qk1 (fu:Nat)  (r1:Request) (k1:Int→Option (Bool)) (Aa:Int):Option (Bool) :=
  bif (decide (Aa<(r1.fR.length:Int))) then Qac (ix r1.fR Aa) λAe=>Qac (sls r1.fR 0 Aa) λAb=>Qac (Qau fu Ab (λAc=>Qqd fu Ac Ae)) λAd=>bif Ad then some (false) else k1 (w64 (Aa+1)) else Qdx fu r1 fu 0
def Qfo (fu:Nat)  (r1:Request):Nat→Int→Option (Bool)
  | 0=>λ_=>none
  | n+1=>Qk1 fu r1 (Qfo fu r1 n)
def Qpr (fu:Nat) (r1:Request):Option (Bool) :=
  Qfo fu r1 fu 0
def Qc4 (fu:Nat)  (Ab:List Pair) (v5:Pair) (k1:Int→Option (Int)) (Aa:Int):Option (Int) :=
  bif (decide (Aa<(Ab.length:Int))) then Qac (ix Ab Aa) λAc=>bif (decide (v5=Ac)) then some (Aa) else k1 (w64 (Aa+1)) else some ((-1))
def Qbf (fu:Nat)  (Aa:List Pair) (v5:Pair):Nat→Int→Option (Int)
  | 0=>λ_=>none
  | n+1=>Qc4 fu Aa v5 (Qbf fu Aa v5 n)
def Qdt (fu:Nat) (Aa:List Pair) (v5:Pair):Option (Int) :=
  Qbf fu Aa v5 fu 0
def Qdd (fu:Nat) (Ab:List Pair) (v5:Pair):Option (Bool) :=
  Qac (Qdt fu Ab v5) λAa=>some (decide (Aa≥0))
def Qhz (fu:Nat) (Aa:List Pair) (a5:Int) (b6:Int):Option (Bool) :=
  Qac (Qdd fu Aa (⟨a5,b6⟩:Pair)) λx7=>some (x7)
def Ql9 (fu:Nat) (k3:Int→Option (Bool)) (Ac:List Pair) (Af:Int) (Ab:Int) (k4:Int→Option (Bool)) (Aa:Int):Option (Bool) :=
  bif (decide (Aa<Af)) then Qac (Qhz fu Ac Ab Aa) λAe=>Qac (Qhz fu Ac Aa Ab) λAd=>bif (!(Ae==Ad)) then some (false) else k4 (w64 (Aa+1)) else k3 (w64 (Ab+1))
def Qfq (fu:Nat) (k3:Int→Option (Bool)) (Ac:List Pair) (Ab:Int) (Aa:Int):Nat→Int→Option (Bool)
  | 0=>λ_=>none
  | n+1=>Ql9 fu k3 Ac Ab Aa (Qfq fu k3 Ac Ab Aa n)
def Qlp (fu:Nat)  (Ac:List Pair) (Ab:Int) (k3:Int→Option (Bool)) (Aa:Int):Option (Bool) :=
  bif (decide (Aa<Ab)) then Qac (Qhz fu Ac Aa Aa) λAd=>bif (!Ad) then some (false) else Qfq fu k3 Ac Ab Aa fu 0 else some (true)
def Qfl (fu:Nat)  (Ab:List Pair) (Aa:Int):Nat→Int→Option (Bool)
  | 0=>λ_=>none
  | n+1=>Qlp fu Ab Aa (Qfl fu Ab Aa n)
def Qp5 (fu:Nat) (Ab:List Pair) (Aa:Int):Option (Bool) :=
  Qac (Qbh fu Aa 1 4) λx6=>bif (!x6) then some (false) else Qfl fu Ab Aa fu 0
def Qck (fu:Nat) (x1:List Int):Option (List Int):=Q3s x1
def Qr9 (fu:Nat) (x1:Item) (t2:Typ) (Ag:List Int) (Ac:List Int):Option (Bool) :=
  Qac (Qck fu Ag) λAb=>Qac (Qck fu Ac) λAa=>Qac (ix Ab 0) λAj=>Qac (ix Aa 0) λAd=>bif (decide (Aj≤Ad)) then Qac (ix Ab 1) λAi=>Qac (ix Aa 1) λAe=>bif (decide (Ai≤Ae)) then Qac (ix Ab 2) λAh=>Qac (ix Aa 2) λAf=>bif (decide (Ah≤Af)) then some (decide (x1.fQ≤t2.fQ)) else some (false) else some (false) else some (false)
def Qrw (fu:Nat) (x1:Item) (t2:Typ):Option (Bool) :=
  Qr9 fu x1 t2 (([x1.fW,x1.fH,x1.fD]:List Int)) (([t2.fW,t2.fH,t2.fD]:List Int))
def Qpx (fu:Nat) (x1:Item) (x2:Typ):Option (Bool) :=
  Qac (Qrw fu x1 x2) λx8=>some (!x8)
def Qpv (fu:Nat) (t1:Typ) (x2:Pallet):Option (Bool) :=
  bif (decide (t1.fW>x2.fW)) then some (true) else bif (decide (t1.fD>x2.fD)) then some (true) else bif (decide (t1.fH>x2.fH)) then some (true) else some (decide ((w64 (t1.ft+t1.fQ))>x2.fQ))
def Qsl (fu:Nat) (r1:Request):Option (Int) :=
  Qac (Qig fu r1) λAc=>Qac (Qn0 fu r1) λAh=>bif (!Ah) then some (2) else Qac (Qpr fu r1) λAf=>bif (!Af) then some (3) else Qac (Qp5 fu r1.fP r1.fG) λAa=>bif (!Aa) then some (4) else Qac (Qav fu r1.fU (λAe=>Qpx fu Ae Ac.1)) λAg=>bif Ag then some (5) else Qac (Qau fu r1.fR (λAd=>Qpv fu Ad r1.fJ)) λAb=>bif Ab then some (6) else some (0)
def Qfn (fu:Nat) (r1:Request):Option (Bool) :=
  Qac (Qsl fu r1) λAa=>some (Aa==0)
def Qdc (fu:Nat) (Ab:List Int):Option ((List Int)) :=
  Qac (Qgz 8 (([]:List Int)) Ab) λAa=>some (Aa)
def Qkg (fu:Nat) (x1:List Int):Option (List Int):=Jif x1
def Qkw (fu:Nat) (Ab:List Int):Option ((List Int)) :=
  Qac (Qdc fu Ab) λx5=>Qac (Qck fu x5) λAa=>Qac (Qkg fu Aa) λAc=>some (Ac)
def Qlb (fu:Nat)  (r1:Request) (k1:List Int→Int→Option ((List Int))) (Ab:List Int) (Aa:Int):Option ((List Int)) :=
  bif (decide (Aa<(r1.fU.length:Int))) then Qac (ix r1.fU Aa) λAe=>Qac (Qgz 8 Ab (([Ae.fM]:List Int))) λAc=>k1 Ac (w64 (Aa+1)) else Qac (Qkw fu Ab) λAd=>some (Ad)
def Qg8 (fu:Nat)  (r1:Request):Nat→List Int→Int→Option ((List Int))
  | 0=>λ_ _=>none
  | n+1=>Qlb fu r1 (Qg8 fu r1 n)
def Qp1 (fu:Nat) (r1:Request):Option ((List Int)) :=
  Qac (Qfn fu r1) λAa=>bif (!Aa) then some (([]:List Int)) else Qg8 fu r1 fu (([]:List Int)) 0
def Qrg (fu:Nat) (Aa:List Pair) (a5:Int) (b6:Int):Option (Bool) :=
  Qac (Qhz fu Aa a5 b6) λx7=>bif x7 then Qac (Qhz fu Aa b6 a5) λAb=>some (Ab) else some (false)
def Qkk (fu:Nat) (x1:Int) (x2:List Pair) (x8:Int):Option (Bool) :=
  Qac (Qrg fu x2 x8 x1) λAa=>some (!Aa)
def Qem (fu:Nat)  (Ab:List Int) (f5:Int→Option Bool) (k1:Int→Option (Int)) (Aa:Int):Option (Int) :=
  bif (decide (Aa<(Ab.length:Int))) then Qac (ix Ab Aa) λAc=>Qac (f5 Ac) λAd=>bif Ad then some (Aa) else k1 (w64 (Aa+1)) else some ((-1))
def Qce (fu:Nat)  (Aa:List Int) (f5:Int→Option Bool):Nat→Int→Option (Int)
  | 0=>λ_=>none
  | n+1=>Qem fu Aa f5 (Qce fu Aa f5 n)
def Qdo (fu:Nat) (Aa:List Int) (f5:Int→Option Bool):Option (Int) :=
  Qce fu Aa f5 fu 0
def Qc2 (fu:Nat) (Aa:List Int) (f5:Int→Option Bool):Option (Bool) :=
  Qac (Qdo fu Aa f5) λAb=>some (decide (Ab≥0))
def Qoa (fu:Nat) (l1:List Int) (x5:List Pair) (Ac:Int):Option (Bool) :=
  Qac (Qc2 fu l1 (λAb=>Qkk fu Ab x5 Ac)) λAa=>some (!Aa)
def Qef (fu:Nat)  (Ab:List (List Int)) (f5:(List Int)→Option Bool) (k1:Int→Option (Int)) (Aa:Int):Option (Int) :=
  bif (decide (Aa<(Ab.length:Int))) then Qac (ix Ab Aa) λAc=>Qac (f5 Ac) λAd=>bif Ad then some (Aa) else k1 (w64 (Aa+1)) else some ((-1))
def Qb3 (fu:Nat)  (Aa:List (List Int)) (f5:(List Int)→Option Bool):Nat→Int→Option (Int)
  | 0=>λ_=>none
  | n+1=>Qef fu Aa f5 (Qb3 fu Aa f5 n)
def Qdf (fu:Nat) (Aa:List (List Int)) (f5:(List Int)→Option Bool):Option (Int) :=
  Qb3 fu Aa f5 fu 0
def Qit (fu:Nat) (k3:List (List Int)→Int→Option ((List (List Int)))) (Ab:Int) (Aa:List (List Int)):Option ((List (List Int))) :=
  k3 Aa (w64 (Ab+1))
def Qnj (fu:Nat)  (Ai:List Pair) (Ae:(List Int)) (k3:List (List Int)→Int→Option ((List (List Int)))) (Aa:List (List Int)) (Ab:Int):Option ((List (List Int))) :=
  bif (decide (Ab<(Ae.length:Int))) then Qac (ix Ae Ab) λAd=>Qac (Qbh fu Ad 0 3) λAh=>bif (!Ah) then Qit fu k3 Ab Aa else Qac (Qdf fu Aa (λAg=>Qoa fu Ag Ai Ad)) λAc=>bif (decide (Ac<0)) then Qac (Qgz 24 Aa [([Ad]:List Int)]) λAf=>Qit fu k3 Ab Af else Qac (ix Aa Ac) λAj=>Qac (Qgz 8 Aj (([Ad]:List Int))) λAk=>Qac (ix Aa Ac) λAl=>Qit fu k3 Ab (Qe5 Aa Ac Ak) else some (Aa)
def Qfd (fu:Nat)  (Ab:List Pair) (Aa:(List Int)):Nat→List (List Int)→Int→Option ((List (List Int)))
  | 0=>λ_ _=>none
  | n+1=>Qnj fu Ab Aa (Qfd fu Ab Aa n)
def Qrf (fu:Nat) (Ac:List Pair) (Aa:List Int):Option ((List (List Int))) :=
  Qac (Qkw fu Aa) λAb=>Qfd fu Ac Ab fu (([]:List (List Int))) 0
def Qhe (fu:Nat) (r1:Request):Option ((List (List Int))) :=
  Qac (Qfn fu r1) λAb=>bif (!Ab) then some (([]:List (List Int))) else Qac (Qp1 fu r1) λAc=>Qac (Qrf fu r1.fP Ac) λAa=>some (Aa)
def Qu4 (fu:Nat) (x1:Int) (y2:Int):Option (Int×Int) :=
  some (IntKind.wrap .u64 ((IntKind.wrap .u64 ((IntKind.wrap .u64 ((Int.fdiv x1 (2 ^ (min 32 (IntKind.bits .u64))))*(Int.fdiv y2 (2 ^ (min 32 (IntKind.bits .u64))))))+(Int.fdiv (IntKind.wrap .u64 ((IntKind.wrap .u64 ((Int.fdiv x1 (2 ^ (min 32 (IntKind.bits .u64))))*(IntKind.wrap .u64 (((BitVec.ofInt (IntKind.bits .u64) y2 &&& BitVec.ofInt (IntKind.bits .u64) 4294967295).toNat:Nat):Int))))+(Int.fdiv (IntKind.wrap .u64 ((IntKind.wrap .u64 (((BitVec.ofInt (IntKind.bits .u64) x1 &&& BitVec.ofInt (IntKind.bits .u64) 4294967295).toNat:Nat):Int))*(IntKind.wrap .u64 (((BitVec.ofInt (IntKind.bits .u64) y2 &&& BitVec.ofInt (IntKind.bits .u64) 4294967295).toNat:Nat):Int)))) (2 ^ (min 32 (IntKind.bits .u64)))))) (2 ^ (min 32 (IntKind.bits .u64))))))+(Int.fdiv (IntKind.wrap .u64 ((IntKind.wrap .u64 (((BitVec.ofInt (IntKind.bits .u64) (IntKind.wrap .u64 ((IntKind.wrap .u64 ((Int.fdiv x1 (2 ^ (min 32 (IntKind.bits .u64))))*(IntKind.wrap .u64 (((BitVec.ofInt (IntKind.bits .u64) y2 &&& BitVec.ofInt (IntKind.bits .u64) 4294967295).toNat:Nat):Int))))+(Int.fdiv (IntKind.wrap .u64 ((IntKind.wrap .u64 (((BitVec.ofInt (IntKind.bits .u64) x1 &&& BitVec.ofInt (IntKind.bits .u64) 4294967295).toNat:Nat):Int))*(IntKind.wrap .u64 (((BitVec.ofInt (IntKind.bits .u64) y2 &&& BitVec.ofInt (IntKind.bits .u64) 4294967295).toNat:Nat):Int)))) (2 ^ (min 32 (IntKind.bits .u64)))))) &&& BitVec.ofInt (IntKind.bits .u64) 4294967295).toNat:Nat):Int))+(IntKind.wrap .u64 ((IntKind.wrap .u64 (((BitVec.ofInt (IntKind.bits .u64) x1 &&& BitVec.ofInt (IntKind.bits .u64) 4294967295).toNat:Nat):Int))*(Int.fdiv y2 (2 ^ (min 32 (IntKind.bits .u64)))))))) (2 ^ (min 32 (IntKind.bits .u64))))),IntKind.wrap .u64 (x1*y2))
def Qvc (fu:Nat) (x1:Int) (y2:Int):Option (Int×Int) :=
  Qac (Qu4 fu x1 y2) λx3=>some (x3.1,x3.2)
def Qna (fu:Nat)   (k3:List Int→Int→Option ((List Int))) (Aa:List Int) (Ab:Int):Option ((List Int)) :=
  bif (decide (Ab<(Aa.length:Int))) then Qac (sls Aa Ab (Aa.length:Int)) λAd=>Qac (sls Aa 0 Ab) λAc=>k3 (cpd Aa Ab Ac) (w64 (Ab+(cpn Aa Ab Ac))) else some (Aa)
def Qgt (fu:Nat)   : Nat→List Int→Int→Option ((List Int))
  | 0=>λ_ _=>none
  | n+1=>Qna fu  (Qgt fu  n)
def Qby (fu:Nat) (x1:List Int) (x8:Int×Int)  : Option ((List Int)) :=
  Qac (mk 8 (0:Int) (w64 x8.2)) λAa=>Qgt fu fu (cpd Aa 0 x1) (cpn Aa 0 x1)
def Qgv (fu:Nat) (x1:List Int) (Aa:Int)  : Option ((List Int)) :=
  Qac (Qvc fu (IntKind.wrap .u64 (x1.length:Int)) (IntKind.wrap .u64 Aa)) λx8=>bif (decide (x8.1>0)) then none else bif (decide (x8.2>9223372036854775807)) then none else Qby fu x1 x8
def Qgg (fu:Nat) (x1:List Int) (Aa:Int):Option ((List Int)) :=
  bif (decide (Aa<0)) then none else Qgv fu x1 Aa
def Qoz (fu:Nat)  (r1:Request) (k1:List Int→Int→Option ((List Int))) (Ab:List Int) (Aa:Int):Option ((List Int)) :=
  bif (decide (Aa<(r1.fU.length:Int))) then Qac (ix r1.fU Aa) λAe=>Qac (Qgg fu (([Aa]:List Int)) Ae.fO) λAc=>Qac (Qgz 8 Ab Ac) λAd=>k1 Ad (w64 (Aa+1)) else some (Ab)
def Qif (fu:Nat)  (r1:Request):Nat→List Int→Int→Option ((List Int))
  | 0=>λ_ _=>none
  | n+1=>Qoz fu r1 (Qif fu r1 n)
def Qkz (fu:Nat) (r1:Request):Option ((List Int)) :=
  Qac (Qfn fu r1) λAa=>bif (!Aa) then some (([]:List Int)) else Qif fu r1 fu (([]:List Int)) 0
def Qf6 (fu:Nat)  (Ab:List Int) (v5:Int) (k1:Int→Option (Int)) (Aa:Int):Option (Int) :=
  bif (decide (Aa<(Ab.length:Int))) then Qac (ix Ab Aa) λAc=>bif (v5==Ac) then some (Aa) else k1 (w64 (Aa+1)) else some ((-1))
def Qc9 (fu:Nat)  (Aa:List Int) (v5:Int):Nat→Int→Option (Int)
  | 0=>λ_=>none
  | n+1=>Qf6 fu Aa v5 (Qc9 fu Aa v5 n)
def Qil (fu:Nat) (Aa:List Int) (v5:Int):Option (Int) :=
  Qc9 fu Aa v5 fu 0
def Qdz (fu:Nat) (Aa:List Int) (v5:Int):Option (Bool) :=
  Qac (Qil fu Aa v5) λx6=>some (decide (x6≥0))
def Qj8 (fu:Nat) (k3:List Int→Int→Option ((List Int))) (Aa:Int) (Ab:List Int):Option ((List Int)) :=
  k3 Ab (w64 (Aa+1))
def Qmd (fu:Nat)  (r1:Request) (Ad:Int) (Ae:(List (List Int))) (Ac:(List Int)) (k3:List Int→Int→Option ((List Int))) (Ab:List Int) (Aa:Int):Option ((List Int)) :=
  bif (decide (Aa<(Ac.length:Int))) then Qac (ix Ac Aa) λAg=>Qac (ix Ae Ad) λAf=>Qac (ix r1.fU Ag) λAi=>Qac (Qdz fu Af Ai.fM) λAj=>bif Aj then Qac (Qgz 8 Ab (([Aa]:List Int))) λAh=>Qj8 fu k3 Aa Ah else Qj8 fu k3 Aa Ab else some (Ab)
def Qfm (fu:Nat)  (r1:Request) (Ab:Int) (Aa:(List (List Int))) (Ac:(List Int)):Nat→List Int→Int→Option ((List Int))
  | 0=>λ_ _=>none
  | n+1=>Qmd fu r1 Ab Aa Ac (Qfm fu r1 Ab Aa Ac n)
def Qp2 (fu:Nat) (r1:Request) (Ab:Int):Option ((List Int)) :=
  Qac (Qhe fu r1) λAa=>Qac (Qbh fu Ab 0 (w64 ((Aa.length:Int) - 1))) λAc=>bif (!Ac) then some (([]:List Int)) else Qac (Qkz fu r1) λAd=>Qfm fu r1 Ab Aa Ad fu (([]:List Int)) 0
def Qqi (fu:Nat) (u1:Int) (x2:Int):Option (Bool) :=
  Qac (Qbh fu u1 0 (w64 (x2 - 1))) λx5=>some (!x5)
def Qdn (fu:Nat) (k3:List Int→Int→Int→Option ((List Int))) (Ab:Int) (Aa:List Int) (Ac:Int):Option ((List Int)) :=
  k3 Aa Ac (w64 (Ab+1))
def Qeg (fu:Nat)  (f5:Int→Option Bool) (k3:List Int→Int→Int→Option ((List Int))) (Aa:List Int) (Ab:Int) (Ac:Int):Option ((List Int)) :=
  bif (decide (Ac<(Aa.length:Int))) then Qac (ix Aa Ac) λAd=>Qac (f5 Ad) λAf=>bif (!Af) then Qac (ix Aa Ab) λAg=>Qdn fu k3 Ac (Qe5 Aa Ab Ad) (w64 (Ab+1)) else Qdn fu k3 Ac Aa Ab else Qac (sls Aa Ab (Aa.length:Int)) λAh=>Qac (sls (Q41 Aa Ab) 0 Ab) λAe=>some (Ae)
def Qbn (fu:Nat)  (f5:Int→Option Bool):Nat→List Int→Int→Int→Option ((List Int))
  | 0=>λ_ _ _=>none
  | n+1=>Qeg fu f5 (Qbn fu f5 n)
def Qej (fu:Nat) (Aa:List Int) (f5:Int→Option Bool):Option ((List Int)) :=
  Qac (Qdo fu Aa f5) λAb=>bif (Ab==((-1))) then some (Aa) else Qbn fu f5 fu Aa Ab (w64 (Ab+1))
def Qjh (fu:Nat) (r1:Request) (Ad:List Int):Option ((List Int)) :=
  Qac (Qkz fu r1) λAe=>Qac (Qdc fu Ad) λAb=>Qac (Qej fu Ab (λAa=>Qqi fu Aa (Ae.length:Int))) λAc=>some (Ac)
def Qkv (fu:Nat) (k3:List Item→Int→Option ((List Item))) (Aa:Int) (Ab:List Item):Option ((List Item)) :=
  k3 Ab (w64 (Aa+1))
def Qlz (fu:Nat)  (r1:Request) (Ad:List Int) (Ae:(List Int)) (k3:List Item→Int→Option ((List Item))) (Ab:List Item) (Aa:Int):Option ((List Item)) :=
  bif (decide (Aa<(Ad.length:Int))) then Qac (ix Ad Aa) λAc=>Qac (Qbh fu Ac 0 (w64 ((Ae.length:Int) - 1))) λAh=>bif Ah then Qac (ix Ae Ac) λAf=>Qac (ix r1.fU Af) λAi=>Qac (Qgz 56 Ab (([Ai]:List Item))) λAg=>Qkv fu k3 Aa Ag else Qkv fu k3 Aa Ab else some (Ab)
def Qf1 (fu:Nat)  (r1:Request) (Ab:List Int) (Aa:(List Int)):Nat→List Item→Int→Option ((List Item))
  | 0=>λ_ _=>none
  | n+1=>Qlz fu r1 Ab Aa (Qf1 fu r1 Ab Aa n)
def Qh5 (fu:Nat) (r1:Request) (Ab:List Int):Option ((List Item)) :=
  Qac (Qkz fu r1) λAa=>Qf1 fu r1 Ab Aa fu (([]:List Item)) 0
def Qqh (fu:Nat) (Aa:Int) (h2:Int) (d3:Int)  : Option (Int) :=
  some (w64 ((w64 (Aa*h2))*d3))
def Qo9 (fu:Nat) (Aa:Int) (h2:Int) (d3:Int):Option (Int) :=
  Qac (Qbh fu Aa 0 2000) λAd=>bif (!Ad) then some (0) else Qac (Qbh fu h2 0 2000) λAb=>bif (!Ab) then some (0) else Qac (Qbh fu d3 0 2000) λAc=>bif (!Ac) then some (0) else Qqh fu Aa h2 d3
def Qjn (fu:Nat)  (Ad:(List Item)) (k1:Int→Int→Option (Int)) (Ac:Int) (Ab:Int):Option (Int) :=
  bif (decide (Ab<(Ad.length:Int))) then Qac (ix Ad Ab) λAa=>Qac (Qo9 fu Aa.fW Aa.fH Aa.fD) λAe=>k1 (w64 (Ac+Ae)) (w64 (Ab+1)) else some (Ac)
def Qgc (fu:Nat)  (Aa:(List Item)):Nat→Int→Int→Option (Int)
  | 0=>λ_ _=>none
  | n+1=>Qjn fu Aa (Qgc fu Aa n)
def Qj7 (fu:Nat) (r1:Request) (Ab:List Int):Option (Int) :=
  Qac (Qh5 fu r1 Ab) λAa=>Qgc fu Aa fu 0 0
def Qnm (fu:Nat)  (Ac:(List Item)) (k1:Int→Int→Option (Int)) (Ab:Int) (Aa:Int):Option (Int) :=
  bif (decide (Aa<(Ac.length:Int))) then Qac (ix Ac Aa) λAd=>k1 (w64 (Ab+Ad.fQ)) (w64 (Aa+1)) else some (Ab)
def Qhu (fu:Nat)  (Aa:(List Item)):Nat→Int→Int→Option (Int)
  | 0=>λ_ _=>none
  | n+1=>Qnm fu Aa (Qhu fu Aa n)
def Qo5 (fu:Nat) (r1:Request) (Ab:List Int):Option (Int) :=
  Qac (Qh5 fu r1 Ab) λAa=>Qhu fu Aa fu 0 0
def Qpb (fu:Nat) (r1:Request) (Aa:List Int) (t9:Typ):Option (Bool) :=
  Qac (Qj7 fu r1 Aa) λAc=>Qac (Qo9 fu t9.fW t9.fH t9.fD) λAd=>bif (decide (Ac≤Ad)) then Qac (Qo5 fu r1 Aa) λAb=>some (decide (Ab≤t9.fQ)) else some (false)
def Qrx (fu:Nat) (r1:Request) (Ac:List Int) (u9:Int):Option (Bool) :=
  Qac (Qig fu r1) λAd=>Qac (Qfn fu r1) λAa=>bif Aa then Qac (Qdc fu Ac) λAf=>Qac (Qgz 8 Af (([u9]:List Int))) λAb=>Qac (Qpb fu r1 Ab Ad.1) λAe=>some (Ae) else some (false)
def Qh9 (fu:Nat) (k3:List (List Int)→Int→Option ((List (List Int)))) (Ab:Int) (Aa:List (List Int)):Option ((List (List Int))) :=
  k3 Aa (w64 (Ab+1))
def Qk8 (fu:Nat)  (r1:Request) (Ae:(List Int)) (k3:List (List Int)→Int→Option ((List (List Int)))) (Aa:List (List Int)) (Ab:Int):Option ((List (List Int))) :=
  bif (decide (Ab<(Ae.length:Int))) then Qac (ix Ae Ab) λAc=>bif (decide ((w64 ((Aa.length:Int) - 1))≥0)) then Qac (ix Aa (w64 ((Aa.length:Int) - 1))) λAd=>Qac (Qrx fu r1 Ad Ac) λAh=>bif Ah then Qac (ix Aa (w64 ((Aa.length:Int) - 1))) λAk=>Qac (Qgz 8 Ad (([Ac]:List Int))) λAf=>Qac (ix Aa (w64 ((Aa.length:Int) - 1))) λAj=>Qh9 fu k3 Ab (Qe5 Aa (w64 ((Aa.length:Int) - 1)) Af) else Qac (Qgz 24 Aa [([Ac]:List Int)]) λAg=>Qh9 fu k3 Ab Ag else Qac (Qgz 24 Aa [([Ac]:List Int)]) λAi=>Qh9 fu k3 Ab Ai else some (Aa)
def Qeu (fu:Nat)  (r1:Request) (Aa:(List Int)):Nat→List (List Int)→Int→Option ((List (List Int)))
  | 0=>λ_ _=>none
  | n+1=>Qk8 fu r1 Aa (Qeu fu r1 Aa n)
def Qp6 (fu:Nat) (r1:Request) (Ab:List Int):Option ((List (List Int))) :=
  Qac (Qjh fu r1 Ab) λAa=>Qeu fu r1 Aa fu (([]:List (List Int))) 0
def Qnl (fu:Nat)  (n1:Int) (k1:List Int→Int→Option ((List Int))) (Ab:List Int) (Aa:Int):Option ((List Int)) :=
  bif (decide (Aa<n1)) then Qac (Qgz 8 Ab (([Aa]:List Int))) λAc=>k1 Ac (w64 (Aa+1)) else some (Ab)
def Qht (fu:Nat)  (n1:Int):Nat→List Int→Int→Option ((List Int))
  | 0=>λ_ _=>none
  | n+1=>Qnl fu n1 (Qht fu n1 n)
def Qor (fu:Nat) (n1:Int):Option ((List Int)) :=
  Qht fu n1 fu (([]:List Int)) 0
def Qpz (fu:Nat) (a1:Int) (b2:Int):Option (Int) :=
  bif (decide (a1<b2)) then some ((-1)) else bif (decide (a1>b2)) then some (1) else some (0)
def Qfv (fu:Nat) (i1:Int) (j2:Int) (x3:List Int):Option (Int) :=
  Qac (ix x3 j2) λAb=>Qac (ix x3 i1) λAa=>Qac (Qpz fu Ab Aa) λAc=>some (Ac)
def Qdl (fu:Nat) (Ae:List Int→Int→Option ((List Int))) (Ab:List Int) (Aa:Int)  : Option ((List Int)) :=
  Qac (ix Ab (w64 (Aa - 1))) λAc=>Qac (ix Ab Aa) λAd=>Qac (ix Ab Aa) λAf=>Qac (ix (Qe5 Ab Aa Ac) (w64 (Aa - 1))) λAg=>Ae (Qe5 (Qe5 Ab Aa Ac) (w64 (Aa - 1)) Ad) (w64 (Aa - 1))
def Qda (fu:Nat) (k9:List Int→Int→Option ((List Int))) (a5:Int) (f7:Int→Int→Option Int) (Ac:Int) (Ag:List Int→Int→Option ((List Int))) (Aa:List Int) (Ab:Int):Option ((List Int)) :=
  bif (decide (Ab>a5)) then Qac (ix Aa Ab) λAd=>Qac (ix Aa (w64 (Ab - 1))) λAf=>Qac (f7 Ad Af) λAe=>bif (decide (Ae<0)) then Qdl fu Ag Aa Ab else k9 Aa (w64 (Ac+1)) else k9 Aa (w64 (Ac+1))
def Qbd (fu:Nat) (k9:List Int→Int→Option ((List Int))) (a5:Int) (f7:Int→Int→Option Int) (Aa:Int):Nat→List Int→Int→Option ((List Int))
  | 0=>λ_ _=>none
  | n+1=>Qda fu k9 a5 f7 Aa (Qbd fu k9 a5 f7 Aa n)
def Qcb (fu:Nat)  (a5:Int) (b6:Int) (f7:Int→Int→Option Int) (k9:List Int→Int→Option ((List Int))) (Ab:List Int) (Aa:Int):Option ((List Int)) :=
  bif (decide (Aa<b6)) then Qbd fu k9 a5 f7 Aa fu Ab Aa else some (Ab)
def Qao (fu:Nat)  (a5:Int) (b6:Int) (f7:Int→Int→Option Int):Nat→List Int→Int→Option ((List Int))
  | 0=>λ_ _=>none
  | n+1=>Qcb fu a5 b6 f7 (Qao fu a5 b6 f7 n)
def Qb6 (fu:Nat) (Aa:List Int) (a5:Int) (b6:Int) (f7:Int→Int→Option Int):Option ((List Int)) :=
  Qao fu a5 b6 f7 fu Aa (w64 (a5+1))
def Qh0 (fu:Nat) (x0:List Int) (x1:Int) (x2:Int) (x3:Int) (x4:Int→Int→Option Int):Option ((List Int)):=none
def Qfc (fu:Nat) (k6:List Int→Int→Option ((List Int))) (Ab:Int) (Aa:List Int):Option ((List Int)) :=
  k6 Aa (w64 (Ab*2))
def Qkq (fu:Nat) (k6:List Int→Int→Option ((List Int))) (n5:Int) (f6:Int→Int→Option Int) (Aa:Int) (k7:List Int→Int→Int→Option ((List Int))) (Ad:List Int) (Ab:Int) (Ac:Int):Option ((List Int)) :=
  bif (decide (Ac≤n5)) then Qac (Qh0 fu Ad Ab (w64 (Ab+Aa)) Ac f6) λAf=>k7 Af Ac (w64 (Ac+(w64 (2*Aa)))) else bif (decide ((w64 (Ab+Aa))<n5)) then Qac (Qh0 fu Ad Ab (w64 (Ab+Aa)) n5 f6) λAe=>Qfc fu k6 Aa Ae else Qfc fu k6 Aa Ad
def Qfb (fu:Nat) (k6:List Int→Int→Option ((List Int))) (n5:Int) (f6:Int→Int→Option Int) (Aa:Int):Nat→List Int→Int→Int→Option ((List Int))
  | 0=>λ_ _ _=>none
  | n+1=>Qkq fu k6 n5 f6 Aa (Qfb fu k6 n5 f6 Aa n)
def Qg4 (fu:Nat)  (n5:Int) (f6:Int→Int→Option Int) (k6:List Int→Int→Option ((List Int))) (Ab:List Int) (Aa:Int):Option ((List Int)) :=
  bif (decide (Aa<n5)) then Qfb fu k6 n5 f6 Aa fu Ab 0 (w64 (2*Aa)) else some (Ab)
def Qcf (fu:Nat)  (n5:Int) (f6:Int→Int→Option Int):Nat→List Int→Int→Option ((List Int))
  | 0=>λ_ _=>none
  | n+1=>Qg4 fu n5 f6 (Qcf fu n5 f6 n)
def Qg7 (fu:Nat)  (n5:Int) (f6:Int→Int→Option Int) (k1:List Int→Int→Int→Option ((List Int))) (Ab:List Int) (Ac:Int) (Aa:Int):Option ((List Int)) :=
  bif (decide (Aa≤n5)) then Qac (Qb6 fu Ab Ac Aa f6) λAd=>k1 Ad Aa (w64 (Aa+20)) else Qac (Qb6 fu Ab Ac n5 f6) λAe=>Qcf fu n5 f6 fu Ae 20
def Qds (fu:Nat)  (n5:Int) (f6:Int→Int→Option Int):Nat→List Int→Int→Int→Option ((List Int))
  | 0=>λ_ _ _=>none
  | n+1=>Qg7 fu n5 f6 (Qds fu n5 f6 n)
def Qgu (fu:Nat) (Aa:List Int) (n5:Int) (f6:Int→Int→Option Int):Option ((List Int)) :=
  Qds fu n5 f6 fu Aa 0 20
def Qev (fu:Nat) (x1:List Int) (f5:Int→Int→Option Int):Option ((List Int)) :=
  Qac (Qgu fu x1 (x1.length:Int) f5) λAa=>some (Aa)
def Qhg (fu:Nat) (Aa:List Int):Option ((List Int)) :=
  Qac (Qor fu (Aa.length:Int)) λx8=>Qac (Qev fu x8 (λAc Ab=>Qfv fu Ac Ab Aa)) λAd=>some (Ad)
def Qkb (fu:Nat) (l1:List Int) (x5:Request) (Aa:Int):Option (Bool) :=
  Qac (Qrx fu x5 l1 Aa) λAb=>some (Ab)
def Qjc (fu:Nat) (k4:List (List Int)→Int→Option ((List (List Int)))) (Aa:Int) (Ab:List (List Int)):Option ((List (List Int))) :=
  k4 Ab (w64 (Aa+1))
def Qjx (fu:Nat)  (r1:Request) (Ai:(List Int)) (Ae:(List Int)) (k4:List (List Int)→Int→Option ((List (List Int)))) (Aa:List (List Int)) (Ab:Int):Option ((List (List Int))) :=
  bif (decide (Ab<(Ae.length:Int))) then Qac (ix Ae Ab) λAh=>Qac (ix Ai Ah) λAd=>Qac (Qdf fu Aa (λAf=>Qkb fu Af r1 Ad)) λAc=>bif (decide (Ac<0)) then Qac (Qgz 24 Aa [([Ad]:List Int)]) λAk=>Qjc fu k4 Ab Ak else Qac (ix Aa Ac) λAg=>Qac (Qgz 8 Ag (([Ad]:List Int))) λAj=>Qac (ix Aa Ac) λAl=>Qjc fu k4 Ab (Qe5 Aa Ac Aj) else some (Aa)
def Qc6 (fu:Nat)  (r1:Request) (Aa:(List Int)) (Ab:(List Int)):Nat→List (List Int)→Int→Option ((List (List Int)))
  | 0=>λ_ _=>none
  | n+1=>Qjx fu r1 Aa Ab (Qc6 fu r1 Aa Ab n)
def Qjw (fu:Nat)  (r1:Request) (Ab:(List Int)) (k1:List Int→Int→Option ((List (List Int)))) (Ac:List Int) (Aa:Int):Option ((List (List Int))) :=
  bif (decide (Aa<(Ab.length:Int))) then Qac (ix Ab Aa) λAd=>Qac (Qj7 fu r1 (([Ad]:List Int))) λAf=>Qac (Qgz 8 Ac (([Af]:List Int))) λAg=>k1 Ag (w64 (Aa+1)) else Qac (Qhg fu Ac) λAe=>Qc6 fu r1 Ab Ae fu (([]:List (List Int))) 0
def Qge (fu:Nat)  (r1:Request) (Aa:(List Int)):Nat→List Int→Int→Option ((List (List Int)))
  | 0=>λ_ _=>none
  | n+1=>Qjw fu r1 Aa (Qge fu r1 Aa n)
def Qoe (fu:Nat) (r1:Request) (Ab:List Int):Option ((List (List Int))) :=
  Qac (Qjh fu r1 Ab) λAa=>Qge fu r1 Aa fu (([]:List Int)) 0
def Qpl (fu:Nat) (r1:Request) (Aa:List Int):Option ((List (List Int))) :=
  bif (r1.qY==1) then Qac (Qp6 fu r1 Aa) λAc=>some (Ac) else Qac (Qoe fu r1 Aa) λAb=>some (Ab)
def Qr6 (fu:Nat) (x1:Item) (x2:Typ):Option (Bool) :=
  Qac (Qrw fu x1 x2) λx8=>some (!x8)
def Qqz (fu:Nat) (r1:Request) (Aa:List Int) (t9:Typ)  : Option (Bool) :=
  Qac (Qh5 fu r1 Aa) λAb=>Qac (Qav fu Ab (λAd=>Qr6 fu Ad t9)) λAe=>bif (!Ae) then Qac (Qpb fu r1 Aa t9) λAc=>some (Ac) else some (false)
def Qqu (fu:Nat) (r1:Request) (Aa:List Int) (t9:Typ):Option (Bool) :=
  Qac (Qfn fu r1) λAc=>bif (!Ac) then some (false) else Qac (Qjh fu r1 Aa) λAb=>bif ((Ab.length:Int) != (Aa.length:Int)) then some (false) else Qqz fu r1 Aa t9
def Qeb (fu:Nat) (k3:Typ→Bool→Int→Option (Typ×Bool)) (Ac:Int) (Ab:Typ) (Aa:Bool):Option (Typ×Bool) :=
  k3 Ab Aa (w64 (Ac+1))
def Qjr (fu:Nat)  (r1:Request) (Ae:List Int) (k3:Typ→Bool→Int→Option (Typ×Bool)) (Ab:Typ) (Ad:Bool) (Aa:Int):Option (Typ×Bool) :=
  bif (decide (Aa<(r1.fR.length:Int))) then Qac (ix r1.fR Aa) λAc=>Qac (Qqu fu r1 Ae Ac) λAf=>bif (!Af) then Qeb fu k3 Aa Ab Ad else bif (!Ad) then Qeb fu k3 Aa Ac true else bif (decide (Ac.fK<Ab.fK)) then Qeb fu k3 Aa Ac true else bif (Ac.fK==Ab.fK) then bif (decide (Ac.qQ<Ab.qQ)) then Qeb fu k3 Aa Ac true else Qeb fu k3 Aa Ab Ad else Qeb fu k3 Aa Ab Ad else some (Ab,Ad)
def Qe4 (fu:Nat)  (r1:Request) (Aa:List Int):Nat→Typ→Bool→Int→Option (Typ×Bool)
  | 0=>λ_ _ _=>none
  | n+1=>Qjr fu r1 Aa (Qe4 fu r1 Aa n)
def Qkm (fu:Nat) (r1:Request) (Aa:List Int):Option (Typ×Bool) :=
  Qe4 fu r1 Aa fu (⟨0,0,0,0,0,0,0⟩:Typ) false 0
def Qi9 (fu:Nat) (k3:List Carton→Int→Option ((List Carton))) (r1:Request) (Ac:Int) (Ae:(List (List Int))) (k4:List Carton→Int→Option ((List Carton))) (Ad:List Carton) (Aa:Int):Option ((List Carton)) :=
  bif (decide (Aa<(Ae.length:Int))) then Qac (ix Ae Aa) λAb=>Qac (Qkm fu r1 Ab) λAf=>Qac (Qck fu Ab) λAh=>Qac (Qgz 40 Ad [(⟨Af.1.qQ,Ac,Ah⟩:Carton)]) λAg=>k4 Ag (w64 (Aa+1)) else k3 Ad (w64 (Ac+1))
def Qfg (fu:Nat) (k3:List Carton→Int→Option ((List Carton))) (r1:Request) (Aa:Int) (Ab:(List (List Int))):Nat→List Carton→Int→Option ((List Carton))
  | 0=>λ_ _=>none
  | n+1=>Qi9 fu k3 r1 Aa Ab (Qfg fu k3 r1 Aa Ab n)
def Qjb (fu:Nat)  (r1:Request) (Ad:(List (List Int))) (k3:List Carton→Int→Option ((List Carton))) (Ab:List Carton) (Aa:Int):Option ((List Carton)) :=
  bif (decide (Aa<(Ad.length:Int))) then Qac (Qp2 fu r1 Aa) λAc=>Qac (Qpl fu r1 Ac) λAe=>Qfg fu k3 r1 Aa Ae fu Ab 0 else some (Ab)
def Qc7 (fu:Nat)  (r1:Request) (Aa:(List (List Int))):Nat→List Carton→Int→Option ((List Carton))
  | 0=>λ_ _=>none
  | n+1=>Qjb fu r1 Aa (Qc7 fu r1 Aa n)
def Qmq (fu:Nat) (r1:Request):Option ((List Carton)) :=
  Qac (Qhe fu r1) λAa=>Qc7 fu r1 Aa fu (([]:List Carton)) 0
def Qq0 (fu:Nat) (r1:Request) (x5:Carton) (Aa:Typ×Bool)  : Option (Int) :=
  Qac (Qo5 fu r1 x5.f0) λAb=>some (w64 (Aa.1.ft+Ab))
def Qqw (fu:Nat) (r1:Request) (x5:Carton):Option (Int) :=
  Qac (Qhh fu r1 x5.qJ) λAa=>bif (!Aa.2) then some (0) else Qac (Qfn fu r1) λAb=>bif (!Ab) then some (0) else Qq0 fu r1 x5 Aa
def Qra (fu:Nat) (r1:Request) (x5:Carton) (Aa:Typ×Bool)  : Option (Box) :=
  Qac (Qqw fu r1 x5) λAb=>some (⟨Aa.1.fW,Aa.1.fD,Aa.1.fH,Ab⟩:Box)
def Qqr (fu:Nat) (r1:Request) (x5:Carton):Option (Box) :=
  Qac (Qhh fu r1 x5.qJ) λAa=>bif (!Aa.2) then some (⟨0,0,0,0⟩:Box) else Qac (Qfn fu r1) λAb=>bif (!Ab) then some (⟨0,0,0,0⟩:Box) else Qra fu r1 x5 Aa
def Qmz (fu:Nat) (b1:Box) (x2:Pallet):Option (Bool) :=
  Qac (Qbh fu b1.fW 1 x2.fW) λx8=>bif (!x8) then some (true) else Qac (Qbh fu b1.fD 1 x2.fD) λAc=>bif (!Ac) then some (true) else Qac (Qbh fu b1.fH 1 x2.fH) λAa=>bif (!Aa) then some (true) else Qac (Qbh fu b1.fQ 1 x2.fQ) λAb=>some (!Ab)
def Qcu (fu:Nat)  (Ab:List Box) (f5:Box→Option Bool) (k1:Int→Option (Int)) (Aa:Int):Option (Int) :=
  bif (decide (Aa<(Ab.length:Int))) then Qac (ix Ab Aa) λAc=>Qac (f5 Ac) λAd=>bif Ad then some (Aa) else k1 (w64 (Aa+1)) else some ((-1))
def Qa3 (fu:Nat)  (Aa:List Box) (f5:Box→Option Bool):Nat→Int→Option (Int)
  | 0=>λ_=>none
  | n+1=>Qcu fu Aa f5 (Qa3 fu Aa f5 n)
def Qdi (fu:Nat) (Aa:List Box) (f5:Box→Option Bool):Option (Int) :=
  Qa3 fu Aa f5 fu 0
def Qb4 (fu:Nat) (Aa:List Box) (f5:Box→Option Bool):Option (Bool) :=
  Qac (Qdi fu Aa f5) λAb=>some (decide (Ab≥0))
def Qm6 (fu:Nat) (p1:Pallet) (Ab:List Box):Option (Bool) :=
  Qac (Qe7 fu p1) λAc=>bif Ac then Qac (Qb4 fu Ab (λAd=>Qmz fu Ad p1)) λAa=>some (!Aa) else some (false)
def Qol (fu:Nat) (k8:List Shelf→Int→Option ((List Shelf))) (Aa:Int) (Ab:List Shelf):Option ((List Shelf)) :=
  k8 Ab (w64 (Aa+1))
def Qd0 (fu:Nat) (k8:List Shelf→Int→Option ((List Shelf))) (Ah:Int) (Aj:Int) (Ac:Box) (Ag:List Shelf) (Af:Int):Option ((List Shelf)) :=
  Qac (ix Ag Af) λAb=>Qac (Qgz 8 Ab.f9 (([Aj]:List Int))) λAd=>Qac (some ((⟨(⟨Ad,Ab.fW,Ab.fD,Ab.fH,Ab.fQ⟩:Shelf).f9,w64 (((⟨Ad,Ab.fW,Ab.fD,Ab.fH,Ab.fQ⟩:Shelf).fW)+Ac.fW),(⟨Ad,Ab.fW,Ab.fD,Ab.fH,Ab.fQ⟩:Shelf).fD,(⟨Ad,Ab.fW,Ab.fD,Ab.fH,Ab.fQ⟩:Shelf).fH,(⟨Ad,Ab.fW,Ab.fD,Ab.fH,Ab.fQ⟩:Shelf).fQ⟩:Shelf))) λAa=>Qac (some (Qe5 (Qe5 Ag Af (⟨Ad,Ab.fW,Ab.fD,Ab.fH,Ab.fQ⟩:Shelf)) Af Aa)) λAk=>Qac (some ((⟨(⟨Aa.f9,Aa.fW,if Ac.fD>Aa.fD then Ac.fD else Aa.fD,Aa.fH,Aa.fQ⟩:Shelf).f9,(⟨Aa.f9,Aa.fW,if Ac.fD>Aa.fD then Ac.fD else Aa.fD,Aa.fH,Aa.fQ⟩:Shelf).fW,(⟨Aa.f9,Aa.fW,if Ac.fD>Aa.fD then Ac.fD else Aa.fD,Aa.fH,Aa.fQ⟩:Shelf).fD,if Ac.fH>((⟨Aa.f9,Aa.fW,if Ac.fD>Aa.fD then Ac.fD else Aa.fD,Aa.fH,Aa.fQ⟩:Shelf).fH) then Ac.fH else (⟨Aa.f9,Aa.fW,if Ac.fD>Aa.fD then Ac.fD else Aa.fD,Aa.fH,Aa.fQ⟩:Shelf).fH,(⟨Aa.f9,Aa.fW,if Ac.fD>Aa.fD then Ac.fD else Aa.fD,Aa.fH,Aa.fQ⟩:Shelf).fQ⟩:Shelf))) λAe=>Qac (some (Qe5 (Qe5 Ak Af (⟨Aa.f9,Aa.fW,if Ac.fD>Aa.fD then Ac.fD else Aa.fD,Aa.fH,Aa.fQ⟩:Shelf)) Af Ae)) λAi=>Qol fu k8 Ah (Qe5 Ai Af (⟨Ae.f9,Ae.fW,Ae.fD,Ae.fH,w64 (Ae.fQ+Ac.fQ)⟩:Shelf))
def Qk5 (fu:Nat)  (p1:Pallet) (Ai:List Box) (Af:(List Int)) (k8:List Shelf→Int→Option ((List Shelf))) (Aa:List Shelf) (Ab:Int):Option ((List Shelf)) :=
  bif (decide (Ab<(Af.length:Int))) then Qac (ix Af Ab) λAd=>Qac (ix Ai Ad) λAc=>bif (decide ((w64 ((Aa.length:Int) - 1))<0)) then Qac (Qgz 56 Aa [(⟨[],0,0,0,0⟩:Shelf)]) λAh=>Qd0 fu k8 Ab Ad Ac Ah (w64 ((w64 ((Aa.length:Int) - 1))+1)) else Qac (ix Aa (w64 ((Aa.length:Int) - 1))) λAe=>bif (decide ((w64 (Ae.fW+Ac.fW))>p1.fW)) then Qac (Qgz 56 Aa [(⟨[],0,0,0,0⟩:Shelf)]) λAg=>Qd0 fu k8 Ab Ad Ac Ag (w64 ((w64 ((Aa.length:Int) - 1))+1)) else Qac (ix Aa (w64 ((Aa.length:Int) - 1))) λAk=>bif (decide ((w64 (Ae.fQ+Ac.fQ))>p1.fQ)) then Qac (Qgz 56 Aa [(⟨[],0,0,0,0⟩:Shelf)]) λAj=>Qd0 fu k8 Ab Ad Ac Aj (w64 ((w64 ((Aa.length:Int) - 1))+1)) else Qd0 fu k8 Ab Ad Ac Aa (w64 ((Aa.length:Int) - 1)) else some (Aa)
def Qb9 (fu:Nat)  (p1:Pallet) (Aa:List Box) (Ab:(List Int)):Nat→List Shelf→Int→Option ((List Shelf))
  | 0=>λ_ _=>none
  | n+1=>Qk5 fu p1 Aa Ab (Qb9 fu p1 Aa Ab n)
def Qk0 (fu:Nat)  (p1:Pallet) (Ab:List Box) (k1:List Int→Int→Option ((List Shelf))) (Ac:List Int) (Aa:Int):Option ((List Shelf)) :=
  bif (decide (Aa<(Ab.length:Int))) then Qac (ix Ab Aa) λAd=>Qac (Qgz 8 Ac (([Ad.fD]:List Int))) λAe=>k1 Ae (w64 (Aa+1)) else Qac (Qhg fu Ac) λAf=>Qb9 fu p1 Ab Af fu (([]:List Shelf)) 0
def Qg2 (fu:Nat)  (p1:Pallet) (Aa:List Box):Nat→List Int→Int→Option ((List Shelf))
  | 0=>λ_ _=>none
  | n+1=>Qk0 fu p1 Aa (Qg2 fu p1 Aa n)
def Qp3 (fu:Nat) (p1:Pallet) (Aa:List Box):Option ((List Shelf)) :=
  Qac (Qm6 fu p1 Aa) λAb=>bif (!Ab) then some (([]:List Shelf)) else Qg2 fu p1 Aa fu (([]:List Int)) 0
def Qnn (fu:Nat) (Aa:Shelf) (x5:Pallet):Option (Bool) :=
  Qac (Qbh fu Aa.fD 1 x5.fD) λAd=>bif (!Ad) then some (true) else Qac (Qbh fu Aa.fH 1 x5.fH) λAb=>bif (!Ab) then some (true) else Qac (Qbh fu Aa.fQ 1 x5.fQ) λAc=>some (!Ac)
def Qca (fu:Nat)  (Ab:List Shelf) (f5:Shelf→Option Bool) (k1:Int→Option (Int)) (Aa:Int):Option (Int) :=
  bif (decide (Aa<(Ab.length:Int))) then Qac (ix Ab Aa) λAc=>Qac (f5 Ac) λAd=>bif Ad then some (Aa) else k1 (w64 (Aa+1)) else some ((-1))
def Qat (fu:Nat)  (Aa:List Shelf) (f5:Shelf→Option Bool):Nat→Int→Option (Int)
  | 0=>λ_=>none
  | n+1=>Qca fu Aa f5 (Qat fu Aa f5 n)
def Qcx (fu:Nat) (Aa:List Shelf) (f5:Shelf→Option Bool):Option (Int) :=
  Qat fu Aa f5 fu 0
def Qbo (fu:Nat) (Aa:List Shelf) (f5:Shelf→Option Bool):Option (Bool) :=
  Qac (Qcx fu Aa f5) λAb=>some (decide (Ab≥0))
def Qmv (fu:Nat) (p1:Pallet) (Ab:List Shelf):Option (Bool) :=
  Qac (Qe7 fu p1) λAc=>bif Ac then Qac (Qbo fu Ab (λAd=>Qnn fu Ad p1)) λAa=>some (!Aa) else some (false)
def Qnh (fu:Nat) (k7:List Layer→Int→Option ((List Layer))) (Ab:Int) (Aa:List Layer):Option ((List Layer)) :=
  k7 Aa (w64 (Ab+1))
def Qdk (fu:Nat) (k7:List Layer→Int→Option ((List Layer))) (Ag:Int) (Ac:Shelf) (Af:List Layer) (Ae:Int):Option ((List Layer)) :=
  Qac (ix Af Ae) λAb=>Qac (Qgz 8 Ab.fE (([Ag]:List Int))) λAd=>Qac (some ((⟨(⟨Ad,Ab.fD,Ab.fH,Ab.fQ⟩:Layer).fE,w64 (((⟨Ad,Ab.fD,Ab.fH,Ab.fQ⟩:Layer).fD)+Ac.fD),(⟨Ad,Ab.fD,Ab.fH,Ab.fQ⟩:Layer).fH,(⟨Ad,Ab.fD,Ab.fH,Ab.fQ⟩:Layer).fQ⟩:Layer))) λAa=>Qac (some (Qe5 (Qe5 Af Ae (⟨Ad,Ab.fD,Ab.fH,Ab.fQ⟩:Layer)) Ae Aa)) λAh=>Qac (some ((⟨(⟨Aa.fE,Aa.fD,if Ac.fH>Aa.fH then Ac.fH else Aa.fH,Aa.fQ⟩:Layer).fE,(⟨Aa.fE,Aa.fD,if Ac.fH>Aa.fH then Ac.fH else Aa.fH,Aa.fQ⟩:Layer).fD,(⟨Aa.fE,Aa.fD,if Ac.fH>Aa.fH then Ac.fH else Aa.fH,Aa.fQ⟩:Layer).fH,w64 (((⟨Aa.fE,Aa.fD,if Ac.fH>Aa.fH then Ac.fH else Aa.fH,Aa.fQ⟩:Layer).fQ)+Ac.fQ)⟩:Layer))) λAi=>Qac (some (Qe5 (Qe5 Ah Ae (⟨Aa.fE,Aa.fD,if Ac.fH>Aa.fH then Ac.fH else Aa.fH,Aa.fQ⟩:Layer)) Ae Ai)) λAj=>Qnh fu k7 Ag Aj
def Qjq (fu:Nat)  (p1:Pallet) (Ae:List Shelf) (k7:List Layer→Int→Option ((List Layer))) (Aa:List Layer) (Ab:Int):Option ((List Layer)) :=
  bif (decide (Ab<(Ae.length:Int))) then Qac (ix Ae Ab) λAc=>bif (decide ((w64 ((Aa.length:Int) - 1))<0)) then Qac (Qgz 48 Aa [(⟨[],0,0,0⟩:Layer)]) λAf=>Qdk fu k7 Ab Ac Af (w64 ((w64 ((Aa.length:Int) - 1))+1)) else Qac (ix Aa (w64 ((Aa.length:Int) - 1))) λAd=>bif (decide ((w64 (Ad.fD+Ac.fD))>p1.fD)) then Qac (Qgz 48 Aa [(⟨[],0,0,0⟩:Layer)]) λAg=>Qdk fu k7 Ab Ac Ag (w64 ((w64 ((Aa.length:Int) - 1))+1)) else Qac (ix Aa (w64 ((Aa.length:Int) - 1))) λAi=>bif (decide ((w64 (Ad.fQ+Ac.fQ))>p1.fQ)) then Qac (Qgz 48 Aa [(⟨[],0,0,0⟩:Layer)]) λAh=>Qdk fu k7 Ab Ac Ah (w64 ((w64 ((Aa.length:Int) - 1))+1)) else Qdk fu k7 Ab Ac Aa (w64 ((Aa.length:Int) - 1)) else some (Aa)
def Qcd (fu:Nat)  (p1:Pallet) (Aa:List Shelf):Nat→List Layer→Int→Option ((List Layer))
  | 0=>λ_ _=>none
  | n+1=>Qjq fu p1 Aa (Qcd fu p1 Aa n)
def Qn3 (fu:Nat) (p1:Pallet) (Aa:List Shelf):Option ((List Layer)) :=
  Qac (Qmv fu p1 Aa) λAb=>bif (!Ab) then some (([]:List Layer)) else Qcd fu p1 Aa fu (([]:List Layer)) 0
def Qoi (fu:Nat) (x1:Layer) (x5:Pallet):Option (Bool) :=
  Qac (Qbh fu x1.fD 1 x5.fD) λAc=>bif (!Ac) then some (true) else Qac (Qbh fu x1.fH 1 x5.fH) λAa=>bif (!Aa) then some (true) else Qac (Qbh fu x1.fQ 1 x5.fQ) λAb=>some (!Ab)
def Qb7 (fu:Nat)  (Ab:List Layer) (f5:Layer→Option Bool) (k1:Int→Option (Int)) (Aa:Int):Option (Int) :=
  bif (decide (Aa<(Ab.length:Int))) then Qac (ix Ab Aa) λAc=>Qac (f5 Ac) λAd=>bif Ad then some (Aa) else k1 (w64 (Aa+1)) else some ((-1))
def Qas (fu:Nat)  (Aa:List Layer) (f5:Layer→Option Bool):Nat→Int→Option (Int)
  | 0=>λ_=>none
  | n+1=>Qb7 fu Aa f5 (Qas fu Aa f5 n)
def Qcz (fu:Nat) (Aa:List Layer) (f5:Layer→Option Bool):Option (Int) :=
  Qas fu Aa f5 fu 0
def Qbs (fu:Nat) (Aa:List Layer) (f5:Layer→Option Bool):Option (Bool) :=
  Qac (Qcz fu Aa f5) λAb=>some (decide (Ab≥0))
def Qob (fu:Nat) (p1:Pallet) (Ab:List Layer):Option (Bool) :=
  Qac (Qe7 fu p1) λAc=>bif Ac then Qac (Qbs fu Ab (λAd=>Qoi fu Ad p1)) λAa=>some (!Aa) else some (false)
def Qo2 (fu:Nat) (k7:List Load→Int→Option ((List Load))) (Aa:Int) (Ab:List Load):Option ((List Load)) :=
  k7 Ab (w64 (Aa+1))
def Qd1 (fu:Nat) (k7:List Load→Int→Option ((List Load))) (Ag:Int) (Af:Layer) (Ae:List Load) (Ad:Int):Option ((List Load)) :=
  Qac (ix Ae Ad) λAa=>Qac (Qgz 8 Aa.f8 (([Ag]:List Int))) λAc=>Qac (some ((⟨(⟨Ac,Aa.fH,Aa.fQ⟩:Load).f8,w64 (((⟨Ac,Aa.fH,Aa.fQ⟩:Load).fH)+Af.fH),(⟨Ac,Aa.fH,Aa.fQ⟩:Load).fQ⟩:Load))) λAb=>Qac (some (Qe5 (Qe5 Ae Ad (⟨Ac,Aa.fH,Aa.fQ⟩:Load)) Ad Ab)) λAh=>Qo2 fu k7 Ag (Qe5 Ah Ad (⟨Ab.f8,Ab.fH,w64 (Ab.fQ+Af.fQ)⟩:Load))
def Qlq (fu:Nat)  (p1:Pallet) (Ad:List Layer) (k7:List Load→Int→Option ((List Load))) (Aa:List Load) (Ab:Int):Option ((List Load)) :=
  bif (decide (Ab<(Ad.length:Int))) then Qac (ix Ad Ab) λAc=>bif (decide ((w64 ((Aa.length:Int) - 1))<0)) then Qac (Qgz 40 Aa [(⟨[],0,0⟩:Load)]) λAg=>Qd1 fu k7 Ab Ac Ag (w64 ((w64 ((Aa.length:Int) - 1))+1)) else Qac (ix Aa (w64 ((Aa.length:Int) - 1))) λAe=>bif (decide ((w64 (Ae.fH+Ac.fH))>p1.fH)) then Qac (Qgz 40 Aa [(⟨[],0,0⟩:Load)]) λAh=>Qd1 fu k7 Ab Ac Ah (w64 ((w64 ((Aa.length:Int) - 1))+1)) else Qac (ix Aa (w64 ((Aa.length:Int) - 1))) λAi=>bif (decide ((w64 (Ae.fQ+Ac.fQ))>p1.fQ)) then Qac (Qgz 40 Aa [(⟨[],0,0⟩:Load)]) λAf=>Qd1 fu k7 Ab Ac Af (w64 ((w64 ((Aa.length:Int) - 1))+1)) else Qd1 fu k7 Ab Ac Aa (w64 ((Aa.length:Int) - 1)) else some (Aa)
def Qcp (fu:Nat)  (p1:Pallet) (Aa:List Layer):Nat→List Load→Int→Option ((List Load))
  | 0=>λ_ _=>none
  | n+1=>Qlq fu p1 Aa (Qcp fu p1 Aa n)
def Qpy (fu:Nat) (p1:Pallet) (Aa:List Layer):Option ((List Load)) :=
  Qac (Qob fu p1 Aa) λAb=>bif (!Ab) then some (([]:List Load)) else Qcp fu p1 Aa fu (([]:List Load)) 0
def Qla (fu:Nat) (Ah:List Spot→Int→Int→Option ((List Spot))) (Am:List Box) (Ao:(List Shelf)) (Aq:Int) (Ag:Int) (Ad:Int) (Ap:Int) (Al:Int) (Af:Shelf) (Ai:List Spot→Int→Int→Option ((List Spot))) (Ab:List Spot) (Ae:Int) (Aa:Int):Option ((List Spot)) :=
  bif (decide (Aa<(Af.f9.length:Int))) then Qac (ix Af.f9 Aa) λAc=>Qac (ix Ab Ac) λAr=>Qac (ix Am Ac) λAk=>Ai (Qe5 Ab Ac (⟨Aq,Ae,Ad,Ag⟩:Spot)) (w64 (Ae+Ak.fW)) (w64 (Aa+1)) else Qac (ix Ao Al) λAj=>Ah Ab (w64 (Ad+Aj.fD)) (w64 (Ap+1))
def Qg9 (fu:Nat) (Ab:List Spot→Int→Int→Option ((List Spot))) (Af:List Box) (Ag:(List Shelf)) (Ai:Int) (Aa:Int) (Ac:Int) (Ah:Int) (Ae:Int) (Ad:Shelf):Nat→List Spot→Int→Int→Option ((List Spot))
  | 0=>λ_ _ _=>none
  | n+1=>Qla fu Ab Af Ag Ai Aa Ac Ah Ae Ad (Qg9 fu Ab Af Ag Ai Aa Ac Ah Ae Ad n)
def Ql8 (fu:Nat) (Aj:List Spot→Int→Int→Option ((List Spot))) (Ao:List Box) (Af:(List Shelf)) (Aq:(List Layer)) (Ap:Int) (Ab:Int) (Am:Int) (Al:Int) (Ae:Layer) (Ah:List Spot→Int→Int→Option ((List Spot))) (Ac:List Spot) (Ai:Int) (Aa:Int):Option ((List Spot)) :=
  bif (decide (Aa<(Ae.fE.length:Int))) then Qac (ix Ae.fE Aa) λAd=>Qac (ix Af Ad) λAk=>Qg9 fu Ah Ao Af Ap Ab Ai Aa Ad Ak fu Ac 0 0 else Qac (ix Aq Al) λAg=>Aj Ac (w64 (Ab+Ag.fH)) (w64 (Am+1))
def Qdw (fu:Nat) (Ab:List Spot→Int→Int→Option ((List Spot))) (Af:List Box) (Ag:(List Shelf)) (Ai:(List Layer)) (Ah:Int) (Aa:Int) (Ae:Int) (Ac:Int) (Ad:Layer):Nat→List Spot→Int→Int→Option ((List Spot))
  | 0=>λ_ _ _=>none
  | n+1=>Ql8 fu Ab Af Ag Ai Ah Aa Ae Ac Ad (Qdw fu Ab Af Ag Ai Ah Aa Ae Ac Ad n)
def Ql3 (fu:Nat) (Ah:List Spot→Int→Option ((List Spot))) (Ak:List Box) (Al:(List Shelf)) (Af:(List Layer)) (Ae:Int) (Ad:Load) (Ai:List Spot→Int→Int→Option ((List Spot))) (Ac:List Spot) (Ag:Int) (Aa:Int):Option ((List Spot)) :=
  bif (decide (Aa<(Ad.f8.length:Int))) then Qac (ix Ad.f8 Aa) λAb=>Qac (ix Af Ab) λAj=>Qdw fu Ai Ak Al Af Ae Ag Aa Ab Aj fu Ac 0 0 else Ah Ac (w64 (Ae+1))
def Qcn (fu:Nat) (Aa:List Spot→Int→Option ((List Spot))) (Ab:List Box) (Ac:(List Shelf)) (Af:(List Layer)) (Ae:Int) (Ad:Load):Nat→List Spot→Int→Int→Option ((List Spot))
  | 0=>λ_ _ _=>none
  | n+1=>Ql3 fu Aa Ab Ac Af Ae Ad (Qcn fu Aa Ab Ac Af Ae Ad n)
def Qlj (fu:Nat)  (Ae:List Box) (Af:(List Shelf)) (Ah:(List Layer)) (Ab:(List Load)) (Ad:List Spot→Int→Option ((List Spot))) (Ac:List Spot) (Aa:Int):Option ((List Spot)) :=
  bif (decide (Aa<(Ab.length:Int))) then Qac (ix Ab Aa) λAg=>Qcn fu Ad Ae Af Ah Aa Ag fu Ac 0 0 else some (Ac)
def Qbt (fu:Nat)  (Aa:List Box) (Ab:(List Shelf)) (Ad:(List Layer)) (Ac:(List Load)):Nat→List Spot→Int→Option ((List Spot))
  | 0=>λ_ _=>none
  | n+1=>Qlj fu Aa Ab Ad Ac (Qbt fu Aa Ab Ad Ac n)
def Qm2 (fu:Nat) (p1:Pallet) (Aa:List Box):Option ((List Spot)) :=
  Qac (Qm6 fu p1 Aa) λAe=>bif (!Ae) then some (([]:List Spot)) else Qac (Qp3 fu p1 Aa) λAb=>Qac (Qn3 fu p1 Ab) λAc=>Qac (mk 32 (⟨(0:Int),(0:Int),(0:Int),(0:Int)⟩:Spot) (Aa.length:Int)) λAd=>Qac (Qpy fu p1 Ac) λAf=>Qbt fu Aa Ab Ac Af fu Ad 0
def Qkr (fu:Nat) (k3:Int→Int→Option (Int)) (Aa:Int) (Ab:Int):Option (Int) :=
  k3 Ab (w64 (Aa+1))
def Qk4 (fu:Nat)  (Ad:List Spot) (k3:Int→Int→Option (Int)) (Ab:Int) (Aa:Int):Option (Int) :=
  bif (decide (Aa<(Ad.length:Int))) then Qac (ix Ad Aa) λAc=>Qac (Qbh fu Ac.fJ 0 999999) λAe=>bif Ae then Qkr fu k3 Aa (if (w64 (Ac.fJ+1))>Ab then w64 (Ac.fJ+1) else Ab) else Qkr fu k3 Aa Ab else some (Ab)
def Qfp (fu:Nat)  (Aa:List Spot):Nat→Int→Int→Option (Int)
  | 0=>λ_ _=>none
  | n+1=>Qk4 fu Aa (Qfp fu Aa n)
def Qh6 (fu:Nat) (Aa:List Spot):Option (Int) :=
  Qfp fu Aa fu 0 0
def Qmt (fu:Nat) (Ab:List Box→Int→Option (Plan×Bool)) (Ac:Int) (Aa:List Box):Option (Plan×Bool) :=
  Ab Aa (w64 (Ac+1))
def Qnv (fu:Nat) (Aj:List Spot→Int→Int→Option (Plan×Bool)) (Ac:Int) (Af:Int) (Ad:(List Spot)) (Ai:Int) (Ag:List Spot→Int→Option (Plan×Bool)) (Ae:List Spot) (Ab:Int):Option (Plan×Bool) :=
  bif (decide (Ab<(Ad.length:Int))) then Qac (ix Ad Ab) λAa=>Qac (Qgz 32 Ae (([(⟨w64 (Aa.fJ+Ac),Aa.fX,Aa.fY,Aa.fZ⟩:Spot)]:List Spot))) λAh=>Ag Ah (w64 (Ab+1)) else Aj Ae (w64 (Ac+Ai)) (w64 (Af+1))
def Qgm (fu:Nat) (Ae:List Spot→Int→Int→Option (Plan×Bool)) (Aa:Int) (Ac:Int) (Ab:(List Spot)) (Ad:Int):Nat→List Spot→Int→Option (Plan×Bool)
  | 0=>λ_ _=>none
  | n+1=>Qnv fu Ae Aa Ac Ab Ad (Qgm fu Ae Aa Ac Ab Ad n)
def Qnt (fu:Nat) (Am:List Spot→Int→Int→Option (Plan×Bool)) (r1:Request) (Af:(List Carton)) (Ai:List Spot) (Ah:Int) (Ae:Int) (Ad:List Box→Int→Option (Plan×Bool)) (Ab:List Box) (Aa:Int):Option (Plan×Bool) :=
  bif (decide (Aa<(Af.length:Int))) then Qac (ix Af Aa) λAg=>bif (Ag.fF==Ae) then Qac (Qqr fu r1 Ag) λAk=>Qac (Qgz 32 Ab (([Ak]:List Box))) λAj=>Qmt fu Ad Aa Aj else Qmt fu Ad Aa Ab else Qac (Qm2 fu r1.fJ Ab) λAc=>Qac (Qh6 fu Ac) λAl=>Qgm fu Am Ah Ae Ac Al fu Ai 0
def Qgo (fu:Nat) (Ae:List Spot→Int→Int→Option (Plan×Bool)) (r1:Request) (Ad:(List Carton)) (Ab:List Spot) (Aa:Int) (Ac:Int):Nat→List Box→Int→Option (Plan×Bool)
  | 0=>λ_ _=>none
  | n+1=>Qnt fu Ae r1 Ad Ab Aa Ac (Qgo fu Ae r1 Ad Ab Aa Ac n)
def Qnf (fu:Nat)  (r1:Request) (Ac:(List Carton)) (Ad:(List (List Int))) (Af:List Spot→Int→Int→Option (Plan×Bool)) (Aa:List Spot) (Ae:Int) (Ab:Int):Option (Plan×Bool) :=
  bif (decide (Ab<(Ad.length:Int))) then Qgo fu Af r1 Ac Aa Ae Ab fu (([]:List Box)) 0 else some ((⟨Ac,Aa⟩:Plan),true)
def Qcr (fu:Nat)  (r1:Request) (Ab:(List Carton)) (Aa:(List (List Int))):Nat→List Spot→Int→Int→Option (Plan×Bool)
  | 0=>λ_ _ _=>none
  | n+1=>Qnf fu r1 Ab Aa (Qcr fu r1 Ab Aa n)
def Qh1 (fu:Nat) (r1:Request):Option (Plan×Bool) :=
  Qac (Qfn fu r1) λAc=>bif (!Ac) then some ((⟨[],[]⟩:Plan),false) else Qac (Qmq fu r1) λAb=>Qac (Qhe fu r1) λAa=>Qcr fu r1 Ab Aa fu (([]:List Spot)) 0 0
def Qkh (fu:Nat) (Aa:List Int→Int→Option ((List Int))) (Ac:Int) (Ab:List Int):Option ((List Int)) :=
  Aa Ab (w64 (Ac+1))
def Qka (fu:Nat) (Ab:Bool→Int→Option ((List Int))) (Aa:Int) (Ac:Bool):Option ((List Int)) :=
  Ab Ac (w64 (Aa+1))
def Qmg (fu:Nat) (Ae:List Int→Int→Option ((List Int))) (r1:Request) (Ac:List Int) (Aa:Int) (Ad:Bool→Int→Option ((List Int))) (Af:Bool) (Ab:Int):Option ((List Int)) :=
  bif (decide (Ab<(r1.fU.length:Int))) then bif Af then Qka fu Ad Ab true else Qac (ix r1.fU Ab) λAh=>Qka fu Ad Ab (Ah.fM==Aa) else bif Af then Qac (Qgz 8 Ac (([Aa]:List Int))) λAg=>Qkh fu Ae Aa Ag else Qkh fu Ae Aa Ac
def Qeq (fu:Nat) (Aa:List Int→Int→Option ((List Int))) (r1:Request) (Ab:List Int) (Ac:Int):Nat→Bool→Int→Option ((List Int))
  | 0=>λ_ _=>none
  | n+1=>Qmg fu Aa r1 Ab Ac (Qeq fu Aa r1 Ab Ac n)
def Qlu (fu:Nat)  (r1:Request) (Ac:List Int→Int→Option ((List Int))) (Aa:List Int) (Ab:Int):Option ((List Int)) :=
  bif (decide (Ab<4)) then Qeq fu Ac r1 Aa Ab fu false 0 else some (Aa)
def Qd2 (fu:Nat)  (r1:Request):Nat→List Int→Int→Option ((List Int))
  | 0=>λ_ _=>none
  | n+1=>Qlu fu r1 (Qd2 fu r1 n)
def Qpj (fu:Nat) (r1:Request):Option ((List Int)) :=
  Qac (Qfu fu r1) λAa=>bif (Aa != 0) then some (([]:List Int)) else Qd2 fu r1 fu (([]:List Int)) 0
def Qpc (fu:Nat)  (Ab:List Int) (x5:Int) (k1:Int→Option (Bool)) (Aa:Int):Option (Bool) :=
  bif (decide (Aa<(Ab.length:Int))) then Qac (ix Ab Aa) λAc=>bif (Ac==x5) then some (true) else k1 (w64 (Aa+1)) else some (false)
def Qii (fu:Nat)  (Aa:List Int) (x5:Int):Nat→Int→Option (Bool)
  | 0=>λ_=>none
  | n+1=>Qpc fu Aa x5 (Qii fu Aa x5 n)
def Qqv (fu:Nat) (Aa:List Int) (x5:Int):Option (Bool) :=
  Qii fu Aa x5 fu 0
def Qpa (fu:Nat) (k3:Int→Option (Bool)) (Aa:Int)  : Option (Bool) :=
  k3 (w64 (Aa+1))
def Qme (fu:Nat)  (Ad:List Pair) (Ab:List Int) (Ac:Int) (k3:Int→Option (Bool)) (Aa:Int):Option (Bool) :=
  bif (decide (Aa<(Ab.length:Int))) then Qac (ix Ab Aa) λAe=>Qac (Qgi fu Ad Ae Ac) λAf=>bif (!Af) then some (false) else Qac (ix Ab Aa) λAh=>Qac (Qgi fu Ad Ac Ae) λAg=>bif (!Ag) then some (false) else Qpa fu k3 Aa else some (true)
def Qfx (fu:Nat)  (Ac:List Pair) (Ab:List Int) (Aa:Int):Nat→Int→Option (Bool)
  | 0=>λ_=>none
  | n+1=>Qme fu Ac Ab Aa (Qfx fu Ac Ab Aa n)
def Qpn (fu:Nat) (Ac:List Pair) (Ab:List Int) (Aa:Int):Option (Bool) :=
  Qfx fu Ac Ab Aa fu 0
def Qhs (fu:Nat) (Aa:List (List Int)→Int→Option ((List (List Int)))) (Ac:Int) (Ab:List (List Int)):Option ((List (List Int))) :=
  Aa Ab (w64 (Ac+1))
def Qmm (fu:Nat) (Ab:Int→Int→Option ((List (List Int)))) (Aa:Int) (Ac:Int):Option ((List (List Int))) :=
  Ab Ac (w64 (Aa - 1))
def Qne (fu:Nat) (Af:List (List Int)→Int→Option ((List (List Int)))) (Aj:List Pair) (Ac:List (List Int)) (Aa:Int) (Ae:Int→Int→Option ((List (List Int)))) (Ab:Int) (Ad:Int):Option ((List (List Int))) :=
  bif (decide (Ad≥0)) then Qac (ix Ac Ad) λAg=>Qac (Qpn fu Aj Ag Aa) λAk=>bif Ak then Qmm fu Ae Ad Ad else Qmm fu Ae Ad Ab else bif (decide (Ab<0)) then Qac (Qgz 24 Ac [([Aa]:List Int)]) λAi=>Qhs fu Af Aa Ai else Qac (ix Ac Ab) λAl=>Qac (Qgz 8 Al (([Aa]:List Int))) λAh=>Qac (ix Ac Ab) λAm=>Qhs fu Af Aa (Qe5 Ac Ab Ah)
def Qe8 (fu:Nat) (Aa:List (List Int)→Int→Option ((List (List Int)))) (Ad:List Pair) (Ab:List (List Int)) (Ac:Int):Nat→Int→Int→Option ((List (List Int)))
  | 0=>λ_ _=>none
  | n+1=>Qne fu Aa Ad Ab Ac (Qe8 fu Aa Ad Ab Ac n)
def Qns (fu:Nat)  (Af:List Pair) (Ad:List Int) (Ac:List (List Int)→Int→Option ((List (List Int)))) (Ab:List (List Int)) (Aa:Int):Option ((List (List Int))) :=
  bif (decide (Aa<4)) then Qac (Qqv fu Ad Aa) λAe=>bif (!Ae) then Qhs fu Ac Aa Ab else Qe8 fu Ac Af Ab Aa fu ((-1)) (w64 ((Ab.length:Int) - 1)) else some (Ab)
def Qel (fu:Nat)  (Ab:List Pair) (Aa:List Int):Nat→List (List Int)→Int→Option ((List (List Int)))
  | 0=>λ_ _=>none
  | n+1=>Qns fu Ab Aa (Qel fu Ab Aa n)
def Qq2 (fu:Nat) (Ab:List Pair) (Aa:List Int):Option ((List (List Int))) :=
  Qel fu Ab Aa fu (([]:List (List Int))) 0
def Qij (fu:Nat) (r1:Request):Option ((List (List Int))) :=
  Qac (Qpj fu r1) λAa=>Qac (Qq2 fu r1.fP Aa) λAb=>some (Ab)
def Qly (fu:Nat) (k3:List Int→Int→Option ((List Int))) (r1:Request) (Aa:Int) (k4:List Int→Int→Option ((List Int))) (Ac:List Int) (Ab:Int):Option ((List Int)) :=
  Qac (ix r1.fU Aa) λAd=>bif (decide (Ab<Ad.fO)) then Qac (Qgz 8 Ac (([Aa]:List Int))) λAe=>k4 Ae (w64 (Ab+1)) else k3 Ac (w64 (Aa+1))
def Qg3 (fu:Nat) (k3:List Int→Int→Option ((List Int))) (r1:Request) (Aa:Int):Nat→List Int→Int→Option ((List Int))
  | 0=>λ_ _=>none
  | n+1=>Qly fu k3 r1 Aa (Qg3 fu k3 r1 Aa n)
def Qmc (fu:Nat)  (r1:Request) (k3:List Int→Int→Option ((List Int))) (Ab:List Int) (Aa:Int):Option ((List Int)) :=
  bif (decide (Aa<(r1.fU.length:Int))) then Qg3 fu k3 r1 Aa fu Ab 0 else some (Ab)
def Qes (fu:Nat)  (r1:Request):Nat→List Int→Int→Option ((List Int))
  | 0=>λ_ _=>none
  | n+1=>Qmc fu r1 (Qes fu r1 n)
def Qdh (fu:Nat) (r1:Request):Option ((List Int)) :=
  Qes fu r1 fu (([]:List Int)) 0
def Qkl (fu:Nat) (k3:List Int→Int→Option ((List Int))) (Aa:Int) (Ab:List Int):Option ((List Int)) :=
  k3 Ab (w64 (Aa+1))
def Ql2 (fu:Nat)  (r1:Request) (Ae:Int) (Af:(List (List Int))) (Ac:(List Int)) (k3:List Int→Int→Option ((List Int))) (Ab:List Int) (Aa:Int):Option ((List Int)) :=
  bif (decide (Aa<(Ac.length:Int))) then Qac (ix Af Ae) λAi=>Qac (ix Ac Aa) λAg=>Qac (ix r1.fU Ag) λAd=>Qac (Qqv fu Ai Ad.fM) λAj=>bif Aj then Qac (Qgz 8 Ab (([Aa]:List Int))) λAh=>Qkl fu k3 Aa Ah else Qkl fu k3 Aa Ab else some (Ab)
def Qf0 (fu:Nat)  (r1:Request) (Ab:Int) (Aa:(List (List Int))) (Ac:(List Int)):Nat→List Int→Int→Option ((List Int))
  | 0=>λ_ _=>none
  | n+1=>Ql2 fu r1 Ab Aa Ac (Qf0 fu r1 Ab Aa Ac n)
def Qp8 (fu:Nat) (r1:Request) (Ab:Int):Option ((List Int)) :=
  Qac (Qij fu r1) λAa=>Qac (Qbe fu Ab 0 (w64 ((Aa.length:Int) - 1))) λAc=>bif (!Ac) then some (([]:List Int)) else Qac (Qdh fu r1) λAd=>Qf0 fu r1 Ab Aa Ad fu (([]:List Int)) 0
def Qkc (fu:Nat) (k3:List Int→Int→Option ((List Int))) (Aa:Int) (Ab:List Int):Option ((List Int)) :=
  k3 Ab (w64 (Aa+1))
def Qlg (fu:Nat)  (Ag:List Int) (Ac:List Int) (k3:List Int→Int→Option ((List Int))) (Ab:List Int) (Aa:Int):Option ((List Int)) :=
  bif (decide (Aa<(Ac.length:Int))) then Qac (ix Ac Aa) λAd=>Qac (Qbe fu Ad 0 (w64 ((Ag.length:Int) - 1))) λAe=>bif Ae then Qac (ix Ac Aa) λAh=>Qac (Qgz 8 Ab (([Ad]:List Int))) λAf=>Qkc fu k3 Aa Af else Qkc fu k3 Aa Ab else some (Ab)
def Qfy (fu:Nat)  (Aa:List Int) (Ab:List Int):Nat→List Int→Int→Option ((List Int))
  | 0=>λ_ _=>none
  | n+1=>Qlg fu Aa Ab (Qfy fu Aa Ab n)
def Qm5 (fu:Nat) (Aa:List Int) (Ab:List Int):Option ((List Int)) :=
  Qfy fu Aa Ab fu (([]:List Int)) 0
def Qli (fu:Nat) (r1:Request) (Aa:List Int) (u9:Int):Option (Item×Bool) :=
  Qac (Qbe fu u9 0 (w64 ((Aa.length:Int) - 1))) λAd=>bif (!Ad) then some ((⟨0,0,0,0,0,0,0⟩:Item),false) else Qac (ix Aa u9) λAc=>Qac (ix r1.fU Ac) λAb=>some (Ab,true)
def Qqe (fu:Nat) (Aa:Int) (h2:Int) (d3:Int)  : Option (Int) :=
  some (w64 ((w64 (Aa*h2))*d3))
def Qmb (fu:Nat) (Aa:Int) (h2:Int) (d3:Int):Option (Int) :=
  Qac (Qbe fu Aa 0 2000) λAd=>bif (!Ad) then some (0) else Qac (Qbe fu h2 0 2000) λAb=>bif (!Ab) then some (0) else Qac (Qbe fu d3 0 2000) λAc=>bif (!Ac) then some (0) else Qqe fu Aa h2 d3
def Qsa (fu:Nat) (k7:L7→Int→Option (L7)) (Aa:Int) (Ab:L7):Option (L7) :=
  k7 Ab (w64 (Aa+1))
def Qsf (fu:Nat) (k7:L7→Int→Option (L7)) (Ab:L7) (Ad:Int) (Aa:Item):Option (L7) :=
  Qac (Qmb fu Aa.fW Aa.fH Aa.fD) λAc=>Qsa fu k7 Ad (⟨w64 (Ab.fvol+Ac),w64 (Ab.fgram+Aa.fQ)⟩:L7)
def Qqc (fu:Nat)  (r1:Request) (Af:List Int) (Ab:List Int) (k7:L7→Int→Option (L7)) (Ac:L7) (Aa:Int):Option (L7) :=
  bif (decide (Aa<(Ab.length:Int))) then Qac (ix Ab Aa) λAe=>Qac (Qli fu r1 Af Ae) λAd=>Qsf fu k7 Ac Aa Ad.1 else some (Ac)
def Qhc (fu:Nat)  (r1:Request) (Aa:List Int) (Ab:List Int):Nat→L7→Int→Option (L7)
  | 0=>λ_ _=>none
  | n+1=>Qqc fu r1 Aa Ab (Qhc fu r1 Aa Ab n)
def Qqo (fu:Nat) (r1:Request) (Aa:List Int) (Ab:List Int):Option (L7) :=
  Qhc fu r1 Aa Ab fu (⟨0,0⟩:L7) 0
def Qqa (fu:Nat) (m9:Typ) (Aa:L7):Option (Bool) :=
  Qac (Qmb fu m9.fW m9.fH m9.fD) λAb=>bif (decide (Aa.fvol≤Ab)) then some (decide (Aa.fgram≤m9.fQ)) else some (false)
def Qot (fu:Nat) (r1:Request) (Af:List Int) (m9:Typ) (Aa:List Int) (Ab:Int):Option (Bool) :=
  Qac (Qgz 8 (([]:List Int)) Aa) λAc=>Qac (Qgz 8 Ac (([Ab]:List Int))) λAe=>Qac (Qqo fu r1 Af Ae) λAd=>Qqa fu m9 Ad
def Qiv (fu:Nat) (k3:List (List Int)→Int→Option ((List (List Int)))) (Ab:Int) (Aa:List (List Int)):Option ((List (List Int))) :=
  k3 Aa (w64 (Ab+1))
def Qm9 (fu:Nat)  (r1:Request) (Ac:List Int) (Al:Typ×Bool) (Aj:(List Int)) (k3:List (List Int)→Int→Option ((List (List Int)))) (Aa:List (List Int)) (Ab:Int):Option ((List (List Int))) :=
  bif (decide (Ab<(Ac.length:Int))) then bif (decide ((Aa.length:Int)>0)) then Qac (ix Aa (w64 ((Aa.length:Int) - 1))) λAe=>Qac (ix Ac Ab) λAd=>Qac (Qot fu r1 Aj Al.1 Ae Ad) λAg=>bif Ag then Qac (ix Aa (w64 ((Aa.length:Int) - 1))) λAp=>Qac (ix Ac Ab) λAq=>Qac (Qgz 8 Ae (([Ad]:List Int))) λAh=>Qac (ix Aa (w64 ((Aa.length:Int) - 1))) λAm=>Qiv fu k3 Ab (Qe5 Aa (w64 ((Aa.length:Int) - 1)) Ah) else Qac (ix Ac Ab) λAo=>Qac (Qgz 24 Aa [([Ad]:List Int)]) λAi=>Qiv fu k3 Ab Ai else Qac (ix Ac Ab) λAf=>Qac (Qgz 24 Aa [([Af]:List Int)]) λAk=>Qiv fu k3 Ab Ak else some (Aa)
def Qgn (fu:Nat)  (r1:Request) (Ac:List Int) (Ab:Typ×Bool) (Aa:(List Int)):Nat→List (List Int)→Int→Option ((List (List Int)))
  | 0=>λ_ _=>none
  | n+1=>Qm9 fu r1 Ac Ab Aa (Qgn fu r1 Ac Ab Aa n)
def Qsy (fu:Nat) (r1:Request) (Ac:List Int):Option ((List (List Int))) :=
  Qac (Qgb fu r1) λAb=>Qac (Qdh fu r1) λAa=>Qgn fu r1 Ac Ab Aa fu (([]:List (List Int))) 0
def Qpo (fu:Nat) (r1:Request) (Ad:List Int):Option ((List (List Int))) :=
  Qac (Qfu fu r1) λAe=>bif (Ae != 0) then some (([]:List (List Int))) else Qac (Qdh fu r1) λAb=>Qac (Qm5 fu Ab Ad) λAc=>Qac (Qsy fu r1 Ac) λAa=>some (Aa)
def Qhl (fu:Nat) (Aa:List Int):Option ((List Int)) :=
  Qac (Qkj fu (Aa.length:Int)) λx5=>Qac (Qp7 fu Aa x5 true) λAb=>some (Ab)
def Qkd (fu:Nat) (Ab:List (List Int)→Int→Option ((List (List Int)))) (Ac:Int) (Aa:List (List Int)):Option ((List (List Int))) :=
  Ab Aa (w64 (Ac+1))
def Qke (fu:Nat) (Ac:Int→Int→Option ((List (List Int)))) (Ab:Int) (Aa:Int):Option ((List (List Int))) :=
  Ac Aa (w64 (Ab - 1))
def Qlw (fu:Nat) (Ag:List (List Int)→Int→Option ((List (List Int)))) (r1:Request) (Am:Typ×Bool) (Al:(List Int)) (Ac:List (List Int)) (Ae:Int) (Ad:Int) (Af:Int→Int→Option ((List (List Int)))) (Ab:Int) (Aa:Int):Option ((List (List Int))) :=
  bif (decide (Aa≥0)) then Qac (ix Ac Aa) λAi=>Qac (Qot fu r1 Al Am.1 Ai Ad) λAj=>bif Aj then Qke fu Af Aa Aa else Qke fu Af Aa Ab else bif (decide (Ab<0)) then Qac (Qgz 24 Ac [([Ad]:List Int)]) λAh=>Qkd fu Ag Ae Ah else Qac (ix Ac Ab) λAk=>Qac (Qgz 8 Ak (([Ad]:List Int))) λAo=>Qac (ix Ac Ab) λAp=>Qkd fu Ag Ae (Qe5 Ac Ab Ao)
def Qfw (fu:Nat) (Ad:List (List Int)→Int→Option ((List (List Int)))) (r1:Request) (Af:Typ×Bool) (Ab:(List Int)) (Ae:List (List Int)) (Aa:Int) (Ac:Int):Nat→Int→Int→Option ((List (List Int)))
  | 0=>λ_ _=>none
  | n+1=>Qlw fu Ad r1 Af Ab Ae Aa Ac (Qfw fu Ad r1 Af Ab Ae Aa Ac n)
def Qlt (fu:Nat)  (r1:Request) (Ag:List Int) (Ai:Typ×Bool) (Ae:(List Int)) (Ac:(List Int)) (Af:List (List Int)→Int→Option ((List (List Int)))) (Ab:List (List Int)) (Aa:Int):Option ((List (List Int))) :=
  bif (decide (Aa<(Ac.length:Int))) then Qac (ix Ac Aa) λAh=>Qac (ix Ag Ah) λAd=>Qfw fu Af r1 Ai Ae Ab Aa Ad fu ((-1)) (w64 ((Ab.length:Int) - 1)) else some (Ab)
def Qc0 (fu:Nat)  (r1:Request) (Ad:List Int) (Ac:Typ×Bool) (Ab:(List Int)) (Aa:(List Int)):Nat→List (List Int)→Int→Option ((List (List Int)))
  | 0=>λ_ _=>none
  | n+1=>Qlt fu r1 Ad Ac Ab Aa (Qc0 fu r1 Ad Ac Ab Aa n)
def Qlx (fu:Nat)  (r1:Request) (Ab:List Int) (Ai:Typ×Bool) (Ad:(List Int)) (k1:List Int→Int→Option ((List (List Int)))) (Ac:List Int) (Aa:Int):Option ((List (List Int))) :=
  bif (decide (Aa<(Ab.length:Int))) then Qac (sls Ab Aa (w64 (Aa+1))) λAg=>Qac (Qqo fu r1 Ad Ag) λAf=>Qac (Qgz 8 Ac (([Af.fvol]:List Int))) λAe=>k1 Ae (w64 (Aa+1)) else Qac (Qhl fu Ac) λAh=>Qc0 fu r1 Ab Ai Ad Ah fu (([]:List (List Int))) 0
def Qg1 (fu:Nat)  (r1:Request) (Ac:List Int) (Ab:Typ×Bool) (Aa:(List Int)):Nat→List Int→Int→Option ((List (List Int)))
  | 0=>λ_ _=>none
  | n+1=>Qlx fu r1 Ac Ab Aa (Qg1 fu r1 Ac Ab Aa n)
def Qr7 (fu:Nat) (r1:Request) (Ac:List Int):Option ((List (List Int))) :=
  Qac (Qgb fu r1) λAb=>Qac (Qdh fu r1) λAa=>Qg1 fu r1 Ac Ab Aa fu (([]:List Int)) 0
def Qn1 (fu:Nat) (r1:Request) (Ad:List Int):Option ((List (List Int))) :=
  Qac (Qfu fu r1) λAe=>bif (Ae != 0) then some (([]:List (List Int))) else Qac (Qdh fu r1) λAb=>Qac (Qm5 fu Ab Ad) λAc=>Qac (Qr7 fu r1 Ac) λAa=>some (Aa)
def Qpu (fu:Nat) (r1:Request) (Aa:List Int):Option ((List (List Int))) :=
  bif (r1.qY==1) then Qac (Qpo fu r1 Aa) λAc=>some (Ac) else Qac (Qn1 fu r1 Aa) λAb=>some (Ab)
def Qq5 (fu:Nat) (r1:Request) (Ab:List Int) (t9:Typ) (Ad:(List Int))  : Option (Bool) :=
  Qac (Qqo fu r1 Ad Ab) λAa=>Qac (Qmb fu t9.fW t9.fH t9.fD) λAc=>bif (decide (Aa.fvol≤Ac)) then some (decide (Aa.fgram≤t9.fQ)) else some (false)
def Qrp (fu:Nat) (Ab:Int→Option (Bool)) (Aa:Int)  : Option (Bool) :=
  Ab (w64 (Aa+1))
def Qrd (fu:Nat) (Ac:Int→Option (Bool)) (t9:Typ) (Ad:Int) (Ae:Item) (Aa:Bool):Option (Bool) :=
  bif (!Aa) then some (false) else Qac (Qqm fu Ae t9) λAb=>bif (!Ab) then some (false) else Qrp fu Ac Ad
def Qo7 (fu:Nat)  (r1:Request) (Aa:List Int) (t9:Typ) (Ad:(List Int)) (Ae:Int→Option (Bool)) (Ab:Int):Option (Bool) :=
  bif (decide (Ab<(Aa.length:Int))) then Qac (ix Aa Ab) λAf=>Qac (Qli fu r1 Ad Af) λAc=>Qrd fu Ae t9 Ab Ac.1 Ac.2 else Qq5 fu r1 Aa t9 Ad
def Qf5 (fu:Nat)  (r1:Request) (Aa:List Int) (t9:Typ) (Ab:(List Int)):Nat→Int→Option (Bool)
  | 0=>λ_=>none
  | n+1=>Qo7 fu r1 Aa t9 Ab (Qf5 fu r1 Aa t9 Ab n)
def Qsk (fu:Nat) (r1:Request) (Aa:List Int) (t9:Typ):Option (Bool) :=
  Qac (Qfu fu r1) λAb=>bif (Ab != 0) then some (false) else Qac (Qdh fu r1) λAc=>Qf5 fu r1 Aa t9 Ac fu 0
def Qec (fu:Nat) (k3:Typ→Bool→Int→Option (Typ×Bool)) (Ac:Int) (Aa:Typ) (Ab:Bool):Option (Typ×Bool) :=
  k3 Aa Ab (w64 (Ac+1))
def Qj2 (fu:Nat)  (r1:Request) (Ae:List Int) (k3:Typ→Bool→Int→Option (Typ×Bool)) (Ab:Typ) (Ad:Bool) (Aa:Int):Option (Typ×Bool) :=
  bif (decide (Aa<(r1.fR.length:Int))) then Qac (ix r1.fR Aa) λAc=>Qac (Qsk fu r1 Ae Ac) λAf=>bif (!Af) then Qec fu k3 Aa Ab Ad else bif (!Ad) then Qec fu k3 Aa Ac true else bif (decide (Ac.fK<Ab.fK)) then Qec fu k3 Aa Ac true else bif (Ac.fK==Ab.fK) then bif (decide (Ac.qQ<Ab.qQ)) then Qec fu k3 Aa Ac true else Qec fu k3 Aa Ab Ad else Qec fu k3 Aa Ab Ad else some (Ab,Ad)
def Qe2 (fu:Nat)  (r1:Request) (Aa:List Int):Nat→Typ→Bool→Int→Option (Typ×Bool)
  | 0=>λ_ _ _=>none
  | n+1=>Qj2 fu r1 Aa (Qe2 fu r1 Aa n)
def Qn4 (fu:Nat) (r1:Request) (Aa:List Int):Option (Typ×Bool) :=
  Qe2 fu r1 Aa fu (⟨0,0,0,0,0,0,0⟩:Typ) false 0
def Qmk (fu:Nat) (Ab:List Carton→Int→Option ((List Carton))) (Aa:Int) (Ac:List Carton):Option ((List Carton)) :=
  Ab Ac (w64 (Aa+1))
def Qik (fu:Nat) (Ab:List Carton→Int→Option ((List Carton))) (Ac:Int) (Aa:List Carton):Option ((List Carton)) :=
  Ab Aa (w64 (Ac+1))
def Qi2 (fu:Nat) (Af:List Carton→Int→Option ((List Carton))) (Ah:Int) (Ao:(List (List Int))) (Aj:List Carton) (Ad:Int) (Ak:Typ) (Ac:(List Int)) (Al:List Int→Int→Option ((List Carton))) (Ab:List Int) (Aa:Int):Option ((List Carton)) :=
  bif (decide (Aa<(Ac.length:Int))) then Qac (ix Ao Ad) λAi=>Qac (ix Ac Aa) λAm=>Qac (ix Ai Am) λAg=>Qac (Qgz 8 Ab (([Ag]:List Int))) λAe=>Al Ae (w64 (Aa+1)) else Qac (Qgz 40 Aj [(⟨Ak.qQ,Ah,Ab⟩:Carton)]) λAp=>Qik fu Af Ad Ap
def Qff (fu:Nat) (Aa:List Carton→Int→Option ((List Carton))) (Ad:Int) (Ag:(List (List Int))) (Ae:List Carton) (Ac:Int) (Af:Typ) (Ab:(List Int)):Nat→List Int→Int→Option ((List Carton))
  | 0=>λ_ _=>none
  | n+1=>Qi2 fu Aa Ad Ag Ae Ac Af Ab (Qff fu Aa Ad Ag Ae Ac Af Ab n)
def Qk2 (fu:Nat) (Ac:List Carton→Int→Option ((List Carton))) (Ae:Int) (Ab:(List (List Int))) (Af:List Carton) (Aa:Int) (Ag:Typ):Option ((List Carton)) :=
  Qac (ix Ab Aa) λAh=>Qac (Qou fu Ah) λAd=>Qff fu Ac Ae Ab Af Aa Ag Ad fu (([]:List Int)) 0
def Qi7 (fu:Nat) (Ae:List Carton→Int→Option ((List Carton))) (r1:Request) (Ac:Int) (Ab:(List (List Int))) (Af:List Carton→Int→Option ((List Carton))) (Ad:List Carton) (Aa:Int):Option ((List Carton)) :=
  bif (decide (Aa<(Ab.length:Int))) then Qac (ix Ab Aa) λAh=>Qac (Qn4 fu r1 Ah) λAg=>Qk2 fu Af Ac Ab Ad Aa Ag.1 else Qmk fu Ae Ac Ad
def Qcg (fu:Nat) (Ac:List Carton→Int→Option ((List Carton))) (r1:Request) (Ab:Int) (Aa:(List (List Int))):Nat→List Carton→Int→Option ((List Carton))
  | 0=>λ_ _=>none
  | n+1=>Qi7 fu Ac r1 Ab Aa (Qcg fu Ac r1 Ab Aa n)
def Qiy (fu:Nat)  (r1:Request) (Ad:(List (List Int))) (Ac:List Carton→Int→Option ((List Carton))) (Ab:List Carton) (Aa:Int):Option ((List Carton)) :=
  bif (decide (Aa<(Ad.length:Int))) then Qac (Qp8 fu r1 Aa) λAf=>Qac (Qpu fu r1 Af) λAe=>Qcg fu Ac r1 Aa Ae fu Ab 0 else some (Ab)
def Qbg (fu:Nat)  (r1:Request) (Aa:(List (List Int))):Nat→List Carton→Int→Option ((List Carton))
  | 0=>λ_ _=>none
  | n+1=>Qiy fu r1 Aa (Qbg fu r1 Aa n)
def Qmo (fu:Nat) (r1:Request):Option ((List Carton)) :=
  Qac (Qij fu r1) λAa=>Qbg fu r1 Aa fu (([]:List Carton)) 0
def Qjs (fu:Nat)  (r1:Request) (Ac:Int) (k1:Int→Option (Typ×Bool)) (Aa:Int):Option (Typ×Bool) :=
  bif (decide (Aa<(r1.fR.length:Int))) then Qac (ix r1.fR Aa) λAb=>bif (Ab.qQ==Ac) then Qac (ix r1.fR Aa) λAd=>some (Ab,true) else k1 (w64 (Aa+1)) else some ((⟨0,0,0,0,0,0,0⟩:Typ),false)
def Qga (fu:Nat)  (r1:Request) (Aa:Int):Nat→Int→Option (Typ×Bool)
  | 0=>λ_=>none
  | n+1=>Qjs fu r1 Aa (Qga fu r1 Aa n)
def Qku (fu:Nat) (r1:Request) (Aa:Int):Option (Typ×Bool) :=
  Qga fu r1 Aa fu 0
def Qsn (fu:Nat) (r1:Request):Option ((List Int)) :=
  Qac (Qfu fu r1) λAa=>bif (Aa != 0) then some (([]:List Int)) else Qac (Qdh fu r1) λAb=>some (Ab)
def Qqk (fu:Nat) (k7:Int→Int→Option (Int)) (Ab:Int) (Aa:Int):Option (Int) :=
  k7 Aa (w64 (Ab+1))
def Qqj (fu:Nat) (k7:Int→Int→Option (Int)) (Ac:Int) (Aa:Int) (Ab:Item):Option (Int) :=
  Qqk fu k7 Aa (w64 (Ac+Ab.fQ))
def Qnw (fu:Nat)  (r1:Request) (Ac:List Int) (Af:(List Int)) (k7:Int→Int→Option (Int)) (Ab:Int) (Aa:Int):Option (Int) :=
  bif (decide (Aa<(Ac.length:Int))) then Qac (ix Ac Aa) λAe=>Qac (Qli fu r1 Af Ae) λAd=>Qqj fu k7 Ab Aa Ad.1 else some (Ab)
def Qe9 (fu:Nat)  (r1:Request) (Ab:List Int) (Aa:(List Int)):Nat→Int→Int→Option (Int)
  | 0=>λ_ _=>none
  | n+1=>Qnw fu r1 Ab Aa (Qe9 fu r1 Ab Aa n)
def Qrb (fu:Nat) (r1:Request) (Ab:List Int):Option (Int) :=
  Qac (Qsn fu r1) λAa=>Qe9 fu r1 Ab Aa fu 0 0
def Qru (fu:Nat) (r1:Request) (x5:Carton) (Aa:Typ×Bool)  : Option (Int) :=
  Qac (Qrb fu r1 x5.f0) λAb=>some (w64 (Aa.1.ft+Ab))
def Qsh (fu:Nat) (r1:Request) (x5:Carton):Option (Int) :=
  Qac (Qku fu r1 x5.qJ) λAa=>Qac (Qfu fu r1) λAb=>bif (Ab != 0) then some (0) else bif (!Aa.2) then some (0) else Qru fu r1 x5 Aa
def Qq9 (fu:Nat) (r1:Request) (x5:Carton) (Aa:Typ×Bool)  : Option (Box) :=
  Qac (Qsh fu r1 x5) λAb=>some (⟨Aa.1.fW,Aa.1.fD,Aa.1.fH,Ab⟩:Box)
def Qsg (fu:Nat) (r1:Request) (x5:Carton):Option (Box) :=
  Qac (Qku fu r1 x5.qJ) λAa=>Qac (Qfu fu r1) λAb=>bif (Ab != 0) then some (⟨0,0,0,0⟩:Box) else bif (!Aa.2) then some (⟨0,0,0,0⟩:Box) else Qq9 fu r1 x5 Aa
def Qo3 (fu:Nat) (k3:Int→Option (Bool)) (Aa:Int)  : Option (Bool) :=
  k3 (w64 (Aa+1))
def Qma (fu:Nat)  (p1:Pallet) (Ac:List Box) (k3:Int→Option (Bool)) (Ab:Int):Option (Bool) :=
  bif (decide (Ab<(Ac.length:Int))) then Qac (ix Ac Ab) λAa=>Qac (Qbe fu Aa.fW 1 p1.fW) λAf=>bif (!Af) then some (false) else Qac (Qbe fu Aa.fD 1 p1.fD) λAe=>bif (!Ae) then some (false) else Qac (Qbe fu Aa.fH 1 p1.fH) λAg=>bif (!Ag) then some (false) else Qac (Qbe fu Aa.fQ 1 p1.fQ) λAd=>bif (!Ad) then some (false) else Qo3 fu k3 Ab else some (true)
def Qfs (fu:Nat)  (p1:Pallet) (Aa:List Box):Nat→Int→Option (Bool)
  | 0=>λ_=>none
  | n+1=>Qma fu p1 Aa (Qfs fu p1 Aa n)
def Qm3 (fu:Nat) (p1:Pallet) (Aa:List Box):Option (Bool) :=
  Qac (Qhm fu p1) λAb=>bif (!Ab) then some (false) else Qfs fu p1 Aa fu 0
def Qkx (fu:Nat) (a1:Int) (b2:Int):Option (Int) :=
  bif (decide (a1>b2)) then some (a1) else some (b2)
def Qhb (fu:Nat) (Aa:Shelf) (Ad:Int) (b6:Box):Option (Shelf) :=
  Qac (Qgz 8 (([]:List Int)) Aa.f9) λAc=>Qac (Qgz 8 Ac (([Ad]:List Int))) λAb=>Qac (Qkx fu Aa.fD b6.fD) λAe=>Qac (Qkx fu Aa.fH b6.fH) λAf=>some (⟨Ab,w64 (Aa.fW+b6.fW),Ae,Af,w64 (Aa.fQ+b6.fQ)⟩:Shelf)
def Qg6 (fu:Nat) (k4:List Shelf→Int→Option ((List Shelf))) (Aa:Int) (Ab:List Shelf):Option ((List Shelf)) :=
  k4 Ab (w64 (Aa+1))
def Qk7 (fu:Nat)  (p1:Pallet) (Ah:List Box) (Ad:(List Int)) (k4:List Shelf→Int→Option ((List Shelf))) (Aa:List Shelf) (Ab:Int):Option ((List Shelf)) :=
  bif (decide (Ab<(Ad.length:Int))) then Qac (ix Ad Ab) λAe=>Qac (ix Ah Ae) λAc=>bif (decide ((Aa.length:Int)>0)) then Qac (ix Aa (w64 ((Aa.length:Int) - 1))) λAf=>bif (decide ((w64 (Af.fW+Ac.fW))≤p1.fW)) then Qac (ix Aa (w64 ((Aa.length:Int) - 1))) λAt=>bif (decide ((w64 (Af.fQ+Ac.fQ))≤p1.fQ)) then Qac (ix Aa (w64 ((Aa.length:Int) - 1))) λAu=>Qac (ix Ad Ab) λAp=>Qac (Qhb fu Af Ae Ac) λAo=>Qac (ix Aa (w64 ((Aa.length:Int) - 1))) λAs=>Qg6 fu k4 Ab (Qe5 Aa (w64 ((Aa.length:Int) - 1)) Ao) else Qac (ix Ad Ab) λAv=>Qac (Qhb fu (⟨[],0,0,0,0⟩:Shelf) Ae Ac) λAj=>Qac (Qgz 56 Aa [Aj]) λAl=>Qg6 fu k4 Ab Al else Qac (ix Ad Ab) λAr=>Qac (Qhb fu (⟨[],0,0,0,0⟩:Shelf) Ae Ac) λAi=>Qac (Qgz 56 Aa [Ai]) λAg=>Qg6 fu k4 Ab Ag else Qac (ix Ad Ab) λAq=>Qac (Qhb fu (⟨[],0,0,0,0⟩:Shelf) Ae Ac) λAm=>Qac (Qgz 56 Aa [Am]) λAk=>Qg6 fu k4 Ab Ak else some (Aa)
def Qen (fu:Nat)  (p1:Pallet) (Aa:List Box) (Ab:(List Int)):Nat→List Shelf→Int→Option ((List Shelf))
  | 0=>λ_ _=>none
  | n+1=>Qk7 fu p1 Aa Ab (Qen fu p1 Aa Ab n)
def Qmf (fu:Nat)  (p1:Pallet) (Aa:List Box) (k1:List Int→Int→Option ((List Shelf))) (Ac:List Int) (Ab:Int):Option ((List Shelf)) :=
  bif (decide (Ab<(Aa.length:Int))) then Qac (ix Aa Ab) λAe=>Qac (Qgz 8 Ac (([Ae.fD]:List Int))) λAd=>k1 Ad (w64 (Ab+1)) else Qac (Qhl fu Ac) λAf=>Qen fu p1 Aa Af fu (([]:List Shelf)) 0
def Qg5 (fu:Nat)  (p1:Pallet) (Aa:List Box):Nat→List Int→Int→Option ((List Shelf))
  | 0=>λ_ _=>none
  | n+1=>Qmf fu p1 Aa (Qg5 fu p1 Aa n)
def Qpk (fu:Nat) (p1:Pallet) (Aa:List Box):Option ((List Shelf)) :=
  Qac (Qm3 fu p1 Aa) λAb=>bif (!Ab) then some (([]:List Shelf)) else Qg5 fu p1 Aa fu (([]:List Int)) 0
def Qqq (fu:Nat) (p1:Pallet) (d2:Int) (h3:Int) (Ab:Int):Option (Bool) :=
  Qac (Qbe fu d2 1 p1.fD) λx8=>bif x8 then Qac (Qbe fu h3 1 p1.fH) λAc=>bif Ac then Qac (Qbe fu Ab 1 p1.fQ) λAa=>some (Aa) else some (false) else some (false)
def Qiw (fu:Nat)  (p1:Pallet) (Ab:List Shelf) (k1:Int→Option (Bool)) (Aa:Int):Option (Bool) :=
  bif (decide (Aa<(Ab.length:Int))) then Qac (ix Ab Aa) λAc=>Qac (ix Ab Aa) λAf=>Qac (ix Ab Aa) λAe=>Qac (Qqq fu p1 Ac.fD Ac.fH Ac.fQ) λAd=>bif (!Ad) then some (false) else k1 (w64 (Aa+1)) else some (true)
def Qfh (fu:Nat)  (p1:Pallet) (Aa:List Shelf):Nat→Int→Option (Bool)
  | 0=>λ_=>none
  | n+1=>Qiw fu p1 Aa (Qfh fu p1 Aa n)
def Qmr (fu:Nat) (p1:Pallet) (Aa:List Shelf):Option (Bool) :=
  Qac (Qhm fu p1) λAb=>bif (!Ab) then some (false) else Qfh fu p1 Aa fu 0
def Qnk (fu:Nat) (k7:List Layer→Int→Option ((List Layer))) (Ab:Int) (Aa:List Layer):Option ((List Layer)) :=
  k7 Aa (w64 (Ab+1))
def Qdj (fu:Nat) (k7:List Layer→Int→Option ((List Layer))) (Ae:Int) (Ac:Shelf) (Ad:List Layer) (Ab:Int):Option ((List Layer)) :=
  Qac (ix Ad (w64 (Ab - 1))) λAa=>Qac (Qgz 8 (([]:List Int)) Aa.fE) λAh=>Qac (Qgz 8 Ah (([Ae]:List Int))) λAf=>Qac (Qkx fu Aa.fH Ac.fH) λAg=>Qac (ix Ad (w64 (Ab - 1))) λAi=>Qnk fu k7 Ae (Qe5 Ad (w64 (Ab - 1)) (⟨Af,w64 (Aa.fD+Ac.fD),Ag,w64 (Aa.fQ+Ac.fQ)⟩:Layer))
def Qjo (fu:Nat)  (p1:Pallet) (Ad:List Shelf) (k7:List Layer→Int→Option ((List Layer))) (Aa:List Layer) (Ac:Int):Option ((List Layer)) :=
  bif (decide (Ac<(Ad.length:Int))) then Qac (ix Ad Ac) λAb=>bif ((Aa.length:Int)==0) then Qac (Qgz 48 Aa [(⟨[],0,0,0⟩:Layer)]) λAh=>Qdj fu k7 Ac Ab Ah (w64 ((Aa.length:Int)+1)) else Qac (ix Aa (w64 ((Aa.length:Int) - 1))) λAe=>bif (decide ((w64 (Ae.fD+Ab.fD))>p1.fD)) then Qac (Qgz 48 Aa [(⟨[],0,0,0⟩:Layer)]) λAg=>Qdj fu k7 Ac Ab Ag (w64 ((Aa.length:Int)+1)) else Qac (ix Aa (w64 ((Aa.length:Int) - 1))) λAi=>bif (decide ((w64 (Ae.fQ+Ab.fQ))>p1.fQ)) then Qac (Qgz 48 Aa [(⟨[],0,0,0⟩:Layer)]) λAf=>Qdj fu k7 Ac Ab Af (w64 ((Aa.length:Int)+1)) else Qdj fu k7 Ac Ab Aa (Aa.length:Int) else some (Aa)
def Qbr (fu:Nat)  (p1:Pallet) (Aa:List Shelf):Nat→List Layer→Int→Option ((List Layer))
  | 0=>λ_ _=>none
  | n+1=>Qjo fu p1 Aa (Qbr fu p1 Aa n)
def Qn6 (fu:Nat) (p1:Pallet) (Aa:List Shelf):Option ((List Layer)) :=
  Qac (Qmr fu p1 Aa) λAb=>bif (!Ab) then some (([]:List Layer)) else Qbr fu p1 Aa fu (([]:List Layer)) 0
def Qjk (fu:Nat)  (p1:Pallet) (Ab:List Layer) (k1:Int→Option (Bool)) (Aa:Int):Option (Bool) :=
  bif (decide (Aa<(Ab.length:Int))) then Qac (ix Ab Aa) λAc=>Qac (ix Ab Aa) λAf=>Qac (ix Ab Aa) λAe=>Qac (Qqq fu p1 Ac.fD Ac.fH Ac.fQ) λAd=>bif (!Ad) then some (false) else k1 (w64 (Aa+1)) else some (true)
def Qf4 (fu:Nat)  (p1:Pallet) (Aa:List Layer):Nat→Int→Option (Bool)
  | 0=>λ_=>none
  | n+1=>Qjk fu p1 Aa (Qf4 fu p1 Aa n)
def Qoc (fu:Nat) (p1:Pallet) (Aa:List Layer):Option (Bool) :=
  Qac (Qhm fu p1) λAb=>bif (!Ab) then some (false) else Qf4 fu p1 Aa fu 0
def Qoq (fu:Nat) (k7:List Load→Int→Option ((List Load))) (Ab:Int) (Aa:List Load):Option ((List Load)) :=
  k7 Aa (w64 (Ab+1))
def Qdv (fu:Nat) (k7:List Load→Int→Option ((List Load))) (Ad:Int) (Ae:Layer) (Ac:List Load) (Aa:Int):Option ((List Load)) :=
  Qac (ix Ac (w64 (Aa - 1))) λAb=>Qac (Qgz 8 (([]:List Int)) Ab.f8) λAg=>Qac (Qgz 8 Ag (([Ad]:List Int))) λAf=>Qac (ix Ac (w64 (Aa - 1))) λAh=>Qoq fu k7 Ad (Qe5 Ac (w64 (Aa - 1)) (⟨Af,w64 (Ab.fH+Ae.fH),w64 (Ab.fQ+Ae.fQ)⟩:Load))
def Qlm (fu:Nat)  (p1:Pallet) (Ad:List Layer) (k7:List Load→Int→Option ((List Load))) (Aa:List Load) (Ab:Int):Option ((List Load)) :=
  bif (decide (Ab<(Ad.length:Int))) then Qac (ix Ad Ab) λAc=>bif ((Aa.length:Int)==0) then Qac (Qgz 40 Aa [(⟨[],0,0⟩:Load)]) λAh=>Qdv fu k7 Ab Ac Ah (w64 ((Aa.length:Int)+1)) else Qac (ix Aa (w64 ((Aa.length:Int) - 1))) λAe=>bif (decide ((w64 (Ae.fH+Ac.fH))>p1.fH)) then Qac (Qgz 40 Aa [(⟨[],0,0⟩:Load)]) λAg=>Qdv fu k7 Ab Ac Ag (w64 ((Aa.length:Int)+1)) else Qac (ix Aa (w64 ((Aa.length:Int) - 1))) λAi=>bif (decide ((w64 (Ae.fQ+Ac.fQ))>p1.fQ)) then Qac (Qgz 40 Aa [(⟨[],0,0⟩:Load)]) λAf=>Qdv fu k7 Ab Ac Af (w64 ((Aa.length:Int)+1)) else Qdv fu k7 Ab Ac Aa (Aa.length:Int) else some (Aa)
def Qb0 (fu:Nat)  (p1:Pallet) (Aa:List Layer):Nat→List Load→Int→Option ((List Load))
  | 0=>λ_ _=>none
  | n+1=>Qlm fu p1 Aa (Qb0 fu p1 Aa n)
def Qpm (fu:Nat) (p1:Pallet) (Aa:List Layer):Option ((List Load)) :=
  Qac (Qoc fu p1 Aa) λAb=>bif (!Ab) then some (([]:List Load)) else Qb0 fu p1 Aa fu (([]:List Load)) 0
def Qmi (fu:Nat) (Ah:List Spot→Int→Int→Option ((List Spot))) (Aj:List Box) (Am:Int) (Ai:Int) (Ae:Int) (Al:Int) (Ab:Shelf) (Ak:List Spot→Int→Int→Option ((List Spot))) (Ad:List Spot) (Af:Int) (Aa:Int):Option ((List Spot)) :=
  bif (decide (Aa<(Ab.f9.length:Int))) then Qac (ix Ab.f9 Aa) λAc=>Qac (ix Ad Ac) λAo=>Qac (ix Ab.f9 Aa) λAp=>Qac (ix Aj Ac) λAg=>Ak (Qe5 Ad Ac (⟨Am,Af,Ae,Ai⟩:Spot)) (w64 (Af+Ag.fW)) (w64 (Aa+1)) else Ah Ad (w64 (Ae+Ab.fD)) (w64 (Al+1))
def Qha (fu:Nat) (Aa:List Spot→Int→Int→Option ((List Spot))) (Ad:List Box) (Af:Int) (Ab:Int) (Ag:Int) (Ae:Int) (Ac:Shelf):Nat→List Spot→Int→Int→Option ((List Spot))
  | 0=>λ_ _ _=>none
  | n+1=>Qmi fu Aa Ad Af Ab Ag Ae Ac (Qha fu Aa Ad Af Ab Ag Ae Ac n)
def Qls (fu:Nat) (Ag:List Spot→Int→Int→Option ((List Spot))) (Ak:List Box) (Ai:(List Shelf)) (Al:Int) (Ac:Int) (Aj:Int) (Aa:Layer) (Af:List Spot→Int→Int→Option ((List Spot))) (Ad:List Spot) (Am:Int) (Ab:Int):Option ((List Spot)) :=
  bif (decide (Ab<(Aa.fE.length:Int))) then Qac (ix Aa.fE Ab) λAe=>Qac (ix Ai Ae) λAh=>Qha fu Af Ak Al Ac Am Ab Ah fu Ad 0 0 else Ag Ad (w64 (Ac+Aa.fH)) (w64 (Aj+1))
def Qdy (fu:Nat) (Ac:List Spot→Int→Int→Option ((List Spot))) (Af:List Box) (Ad:(List Shelf)) (Ag:Int) (Ab:Int) (Ae:Int) (Aa:Layer):Nat→List Spot→Int→Int→Option ((List Spot))
  | 0=>λ_ _ _=>none
  | n+1=>Qls fu Ac Af Ad Ag Ab Ae Aa (Qdy fu Ac Af Ad Ag Ab Ae Aa n)
def Qlr (fu:Nat) (Ag:List Spot→Int→Option ((List Spot))) (Am:List Box) (Ak:(List Shelf)) (Ah:(List Layer)) (Ad:(List Load)) (Aa:Int) (Ai:List Spot→Int→Int→Option ((List Spot))) (Ae:List Spot) (Aj:Int) (Ab:Int):Option ((List Spot)) :=
  Qac (ix Ad Aa) λAc=>bif (decide (Ab<(Ac.f8.length:Int))) then Qac (ix Ad Aa) λAo=>Qac (ix Ac.f8 Ab) λAl=>Qac (ix Ah Al) λAf=>Qdy fu Ai Am Ak Aa Aj Ab Af fu Ae 0 0 else Ag Ae (w64 (Aa+1))
def Qcm (fu:Nat) (Aa:List Spot→Int→Option ((List Spot))) (Ae:List Box) (Ad:(List Shelf)) (Ab:(List Layer)) (Ac:(List Load)) (Af:Int):Nat→List Spot→Int→Int→Option ((List Spot))
  | 0=>λ_ _ _=>none
  | n+1=>Qlr fu Aa Ae Ad Ab Ac Af (Qcm fu Aa Ae Ad Ab Ac Af n)
def Qlh (fu:Nat)  (Ag:List Box) (Af:(List Shelf)) (Ae:(List Layer)) (Ab:(List Load)) (Ad:List Spot→Int→Option ((List Spot))) (Aa:List Spot) (Ac:Int):Option ((List Spot)) :=
  bif (decide (Ac<(Ab.length:Int))) then Qcm fu Ad Ag Af Ae Ab Ac fu Aa 0 0 else some (Aa)
def Qbv (fu:Nat)  (Ab:List Box) (Ac:(List Shelf)) (Aa:(List Layer)) (Ad:(List Load)):Nat→List Spot→Int→Option ((List Spot))
  | 0=>λ_ _=>none
  | n+1=>Qlh fu Ab Ac Aa Ad (Qbv fu Ab Ac Aa Ad n)
def Qm1 (fu:Nat) (p1:Pallet) (Aa:List Box):Option ((List Spot)) :=
  Qac (mk 32 (⟨(0:Int),(0:Int),(0:Int),(0:Int)⟩:Spot) (Aa.length:Int)) λAd=>Qac (Qm3 fu p1 Aa) λAf=>bif (!Af) then some (([]:List Spot)) else Qac (Qpk fu p1 Aa) λAc=>Qac (Qn6 fu p1 Ac) λAb=>Qac (Qpm fu p1 Ab) λAe=>Qbv fu Aa Ac Ab Ae fu Ad 0
def Qkt (fu:Nat) (k3:Int→Int→Option (Int)) (Aa:Int) (Ab:Int):Option (Int) :=
  k3 Ab (w64 (Aa+1))
def Qlv (fu:Nat)  (Ab:List Spot) (k3:Int→Int→Option (Int)) (Ac:Int) (Aa:Int):Option (Int) :=
  bif (decide (Aa<(Ab.length:Int))) then Qac (ix Ab Aa) λAd=>Qac (Qbe fu Ad.fJ 0 999999) λAf=>bif Af then Qac (ix Ab Aa) λAg=>Qac (Qkx fu Ac (w64 (Ad.fJ+1))) λAe=>Qkt fu k3 Aa Ae else Qkt fu k3 Aa Ac else some (Ac)
def Qft (fu:Nat)  (Aa:List Spot):Nat→Int→Int→Option (Int)
  | 0=>λ_ _=>none
  | n+1=>Qlv fu Aa (Qft fu Aa n)
def Qpq (fu:Nat) (Aa:List Spot):Option (Int) :=
  Qft fu Aa fu 0 0
def Qmn (fu:Nat) (Ab:List Box→Int→Option (Plan×Bool)) (Aa:Int) (Ac:List Box):Option (Plan×Bool) :=
  Ab Ac (w64 (Aa+1))
def Qng (fu:Nat) (Aj:List Spot→Int→Int→Option (Plan×Bool)) (Ae:Int) (Af:Int) (Ac:(List Spot)) (Ah:List Spot→Int→Option (Plan×Bool)) (Ad:List Spot) (Ab:Int):Option (Plan×Bool) :=
  bif (decide (Ab<(Ac.length:Int))) then Qac (ix Ac Ab) λAa=>Qac (Qgz 32 Ad (([(⟨w64 (Aa.fJ+Ae),Aa.fX,Aa.fY,Aa.fZ⟩:Spot)]:List Spot))) λAi=>Ah Ai (w64 (Ab+1)) else Qac (Qpq fu Ac) λAg=>Aj Ad (w64 (Ae+Ag)) (w64 (Af+1))
def Qgr (fu:Nat) (Ac:List Spot→Int→Int→Option (Plan×Bool)) (Ad:Int) (Aa:Int) (Ab:(List Spot)):Nat→List Spot→Int→Option (Plan×Bool)
  | 0=>λ_ _=>none
  | n+1=>Qng fu Ac Ad Aa Ab (Qgr fu Ac Ad Aa Ab n)
def Qnd (fu:Nat) (Ak:List Spot→Int→Int→Option (Plan×Bool)) (r1:Request) (Ac:(List Carton)) (Ag:List Spot) (Al:Int) (Ae:Int) (Ad:List Box→Int→Option (Plan×Bool)) (Ab:List Box) (Aa:Int):Option (Plan×Bool) :=
  bif (decide (Aa<(Ac.length:Int))) then Qac (ix Ac Aa) λAf=>bif (Af.fF==Ae) then Qac (ix Ac Aa) λAm=>Qac (Qsg fu r1 Af) λAj=>Qac (Qgz 32 Ab (([Aj]:List Box))) λAh=>Qmn fu Ad Aa Ah else Qmn fu Ad Aa Ab else Qac (Qm1 fu r1.fJ Ab) λAi=>Qgr fu Ak Al Ae Ai fu Ag 0
def Qgl (fu:Nat) (Ad:List Spot→Int→Int→Option (Plan×Bool)) (r1:Request) (Ab:(List Carton)) (Aa:List Spot) (Ae:Int) (Ac:Int):Nat→List Box→Int→Option (Plan×Bool)
  | 0=>λ_ _=>none
  | n+1=>Qnd fu Ad r1 Ab Aa Ae Ac (Qgl fu Ad r1 Ab Aa Ae Ac n)
def Qno (fu:Nat)  (r1:Request) (Ab:(List Carton)) (Ad:(List (List Int))) (Ae:List Spot→Int→Int→Option (Plan×Bool)) (Aa:List Spot) (Af:Int) (Ac:Int):Option (Plan×Bool) :=
  bif (decide (Ac<(Ad.length:Int))) then Qgl fu Ae r1 Ab Aa Af Ac fu (([]:List Box)) 0 else some ((⟨Ab,Aa⟩:Plan),true)
def Qcq (fu:Nat)  (r1:Request) (Ab:(List Carton)) (Aa:(List (List Int))):Nat→List Spot→Int→Int→Option (Plan×Bool)
  | 0=>λ_ _ _=>none
  | n+1=>Qno fu r1 Ab Aa (Qcq fu r1 Ab Aa n)
def Qrl (fu:Nat) (r1:Request):Option (Plan×Bool) :=
  Qac (Qfu fu r1) λAc=>bif (Ac != 0) then some ((⟨[],[]⟩:Plan),false) else Qac (Qmo fu r1) λAb=>Qac (Qij fu r1) λAa=>Qcq fu r1 Ab Aa fu (([]:List Spot)) 0 0
def Qtq (fu:Nat) (Aa:List U8) (i5:Int):Option (Int) :=
  bif (decide (i5<(Aa.length:Int))) then Qac (ix Aa i5) λx7=>some (w64 x7.n) else some (Int.tmod (w64 ((w64 (i5*7))+(Aa.length:Int))) 256)
def Qhv (fu:Nat) (k3:Int→Option (Bool)) (Aa:Int)  : Option (Bool) :=
  k3 (w64 (Aa+1))
def Qip (fu:Nat)  (Ab:List Int) (k3:Int→Option (Bool)) (Aa:Int):Option (Bool) :=
  bif (decide (Aa<(Ab.length:Int))) then Qac (ix Ab Aa) λAc=>Qac (Qbh fu Ac 0 999) λAd=>bif (!Ad) then some (false) else bif (decide (Aa>0)) then Qac (ix Ab (w64 (Aa - 1))) λAe=>bif (decide (Ae≥Ac)) then some (false) else Qhv fu k3 Aa else Qhv fu k3 Aa else some (decide ((Ab.length:Int)≤100))
def Qd7 (fu:Nat)  (Aa:List Int):Nat→Int→Option (Bool)
  | 0=>λ_=>none
  | n+1=>Qip fu Aa (Qd7 fu Aa n)
def Qks (fu:Nat) (Aa:List Int):Option (Bool) :=
  Qd7 fu Aa fu 0
def Qcl (fu:Nat) (n1:Int):Option (Bool) :=
  Qac (Qbh fu n1 0 2000) λx2=>some (x2)
def Qqg (fu:Nat) (k4:Int→Option (Bool)) (Aa:Int)  : Option (Bool) :=
  k4 (w64 (Aa+1))
def Qni (fu:Nat)  (x1:Plan) (k4:Int→Option (Bool)) (Aa:Int):Option (Bool) :=
  bif (decide (Aa<(x1.fV.length:Int))) then Qac (ix x1.fV Aa) λAc=>Qac (ix x1.fT Aa) λAb=>Qac (Qbh fu Ac.qJ 0 999) λAh=>bif (!Ah) then some (false) else Qac (Qbh fu Ac.fF 0 3) λAg=>bif (!Ag) then some (false) else Qac (Qks fu Ac.f0) λAi=>bif (!Ai) then some (false) else Qac (Qcl fu Ab.fJ) λAd=>bif (!Ad) then some (false) else Qac (Qcl fu Ab.fX) λAj=>bif (!Aj) then some (false) else Qac (Qcl fu Ab.fY) λAf=>bif (!Af) then some (false) else Qac (Qcl fu Ab.fZ) λAe=>bif (!Ae) then some (false) else Qqg fu k4 Aa else some (true)
def Qgp (fu:Nat)  (x1:Plan):Nat→Int→Option (Bool)
  | 0=>λ_=>none
  | n+1=>Qni fu x1 (Qgp fu x1 n)
def Qqf (fu:Nat) (x1:Plan)  : Option (Bool) :=
  Qgp fu x1 fu 0
def Qqy (fu:Nat) (x1:Plan):Option (Bool) :=
  bif ((x1.fT.length:Int) != (x1.fV.length:Int)) then some (false) else bif (decide ((x1.fV.length:Int)>100)) then some (false) else Qqf fu x1
def Qb2 (fu:Nat)  (Ab:List Carton) (f5:Carton→Option Bool) (k1:Int→Option (Int)) (Aa:Int):Option (Int) :=
  bif (decide (Aa<(Ab.length:Int))) then Qac (ix Ab Aa) λAc=>Qac (f5 Ac) λAd=>bif Ad then some (Aa) else k1 (w64 (Aa+1)) else some ((-1))
def Qax (fu:Nat)  (Aa:List Carton) (f5:Carton→Option Bool):Nat→Int→Option (Int)
  | 0=>λ_=>none
  | n+1=>Qb2 fu Aa f5 (Qax fu Aa f5 n)
def Qbx (fu:Nat) (Aa:List Carton) (f5:Carton→Option Bool):Option (Int) :=
  Qax fu Aa f5 fu 0
def Qbl (fu:Nat) (Aa:List Carton) (f5:Carton→Option Bool):Option (Bool) :=
  Qac (Qbx fu Aa f5) λAb=>some (decide (Ab≥0))
def Qsc (fu:Nat) (c1:Carton):Option (Bool) :=
  some ((c1.f0.length:Int)==0)
def Qjv (fu:Nat)  (x1:Plan) (k1:List Int→Int→Option ((List Int))) (Ab:List Int) (Aa:Int):Option ((List Int)) :=
  bif (decide (Aa<(x1.fV.length:Int))) then Qac (ix x1.fV Aa) λAd=>Qac (Qgz 8 Ab Ad.f0) λAc=>k1 Ac (w64 (Aa+1)) else some (Ab)
def Qgf (fu:Nat)  (x1:Plan):Nat→List Int→Int→Option ((List Int))
  | 0=>λ_ _=>none
  | n+1=>Qjv fu x1 (Qgf fu x1 n)
def Qof (fu:Nat) (x1:Plan):Option ((List Int)) :=
  Qgf fu x1 fu (([]:List Int)) 0
def Qf9 (fu:Nat)  (Ab:List Int) (Ad:List Int) (k1:Int→Option (Bool)) (Aa:Int):Option (Bool) :=
  bif (decide (Aa<(Ab.length:Int))) then Qac (ix Ab Aa) λAc=>Qac (ix Ad Aa) λAe=>bif (Ac != Ae) then some (false) else k1 (w64 (Aa+1)) else some (true)
def Qc8 (fu:Nat)  (Ab:List Int) (Aa:List Int):Nat→Int→Option (Bool)
  | 0=>λ_=>none
  | n+1=>Qf9 fu Ab Aa (Qc8 fu Ab Aa n)
def Qgx (fu:Nat) (Ab:List Int) (Aa:List Int):Option (Bool) :=
  bif ((Ab.length:Int) != (Aa.length:Int)) then some (false) else Qc8 fu Ab Aa fu 0
def Qj5 (fu:Nat) (y1:Item) (x2:Carton) (x8:List (List Int)):Option (Bool) :=
  bif (decide (x2.fF≥(x8.length:Int))) then some (true) else Qac (ix x8 x2.fF) λAb=>Qac (Qdz fu Ab y1.fM) λAa=>some (!Aa)
def Qi6 (fu:Nat) (k3:Int→Option (Int)) (Aa:Int)  : Option (Int) :=
  k3 (w64 (Aa+1))
def Qh4 (fu:Nat)  (r1:Request) (x5:Plan) (k6:Int→Option (Int)) (Aa:Int):Option (Int) :=
  bif (decide (Aa<(x5.fV.length:Int))) then Qac (ix x5.fV Aa) λAb=>Qac (Qkm fu r1 Ab.f0) λAc=>bif (Ac.1.qQ != Ab.qJ) then some (6) else k6 (w64 (Aa+1)) else some (0)
def Qeh (fu:Nat)  (r1:Request) (x5:Plan):Nat→Int→Option (Int)
  | 0=>λ_=>none
  | n+1=>Qh4 fu r1 x5 (Qeh fu r1 x5 n)
def Qhx (fu:Nat)  (r1:Request) (x5:Plan) (Ac:(List (List Int))) (k5:Int→Option (Int)) (Aa:Int):Option (Int) :=
  bif (decide (Aa<(x5.fV.length:Int))) then Qac (ix x5.fV Aa) λAb=>Qac (Qh5 fu r1 Ab.f0) λAe=>Qac (Qav fu Ae (λAf=>Qj5 fu Af Ab Ac)) λAd=>bif Ad then some (5) else k5 (w64 (Aa+1)) else Qeh fu r1 x5 fu 0
def Qek (fu:Nat)  (r1:Request) (x5:Plan) (Aa:(List (List Int))):Nat→Int→Option (Int)
  | 0=>λ_=>none
  | n+1=>Qhx fu r1 x5 Aa (Qek fu r1 x5 Aa n)
def Qhy (fu:Nat)  (r1:Request) (x5:Plan) (k3:Int→Option (Int)) (Aa:Int):Option (Int) :=
  bif (decide (Aa<(x5.fV.length:Int))) then Qac (ix x5.fV Aa) λAc=>Qac (Qhh fu r1 Ac.qJ) λAb=>bif (!Ab.2) then some (4) else Qac (Qqu fu r1 Ac.f0 Ab.1) λAd=>bif (!Ad) then some (4) else Qi6 fu k3 Aa else Qac (Qhe fu r1) λAe=>Qek fu r1 x5 Ae fu 0
def Qdm (fu:Nat)  (r1:Request) (x5:Plan):Nat→Int→Option (Int)
  | 0=>λ_=>none
  | n+1=>Qhy fu r1 x5 (Qdm fu r1 x5 n)
def Qja (fu:Nat) (r1:Request) (x5:Plan):Option (Int) :=
  Qdm fu r1 x5 fu 0
def Qqb (fu:Nat) (p1:Pallet) (b2:Box) (Aa:Spot)  : Option (Bool) :=
  bif (decide ((w64 (Aa.fX+b2.fW))≤p1.fW)) then bif (decide ((w64 (Aa.fY+b2.fD))≤p1.fD)) then some (decide ((w64 (Aa.fZ+b2.fH))≤p1.fH)) else some (false) else some (false)
def Qrv (fu:Nat) (p1:Pallet) (b2:Box) (Aa:Spot):Option (Bool) :=
  Qac (Qcl fu Aa.fX) λAd=>bif (!Ad) then some (false) else Qac (Qcl fu Aa.fY) λAb=>bif (!Ab) then some (false) else Qac (Qcl fu Aa.fZ) λAc=>bif (!Ac) then some (false) else Qac (Qc5 fu b2.fW) λAg=>bif (!Ag) then some (false) else Qac (Qc5 fu b2.fD) λAe=>bif (!Ae) then some (false) else Qac (Qc5 fu b2.fH) λAf=>bif (!Af) then some (false) else Qqb fu p1 b2 Aa
def Qos (fu:Nat) (b1:Box) (Aa:Spot):Option (Bool) :=
  Qac (Qcl fu b1.fW) λAc=>bif Ac then Qac (Qcl fu b1.fD) λAf=>bif Af then Qac (Qcl fu b1.fH) λAg=>bif Ag then Qac (Qcl fu Aa.fX) λAb=>bif Ab then Qac (Qcl fu Aa.fY) λAe=>bif Ae then Qac (Qcl fu Aa.fZ) λAd=>some (Ad) else some (false) else some (false) else some (false) else some (false) else some (false)
def Qn7 (fu:Nat) (a1:Int) (Aa:Int) (b3:Int) (Ab:Int):Option (Bool) :=
  bif (decide (a1<(w64 (b3+Ab)))) then some (decide (b3<(w64 (a1+Aa)))) else some (false)
def Qop (fu:Nat) (a1:Box) (Aa:Spot) (b3:Box) (t4:Spot)  : Option (Bool) :=
  Qac (Qn7 fu Aa.fX a1.fW t4.fX b3.fW) λAc=>bif Ac then Qac (Qn7 fu Aa.fY a1.fD t4.fY b3.fD) λAb=>bif Ab then Qac (Qn7 fu Aa.fZ a1.fH t4.fZ b3.fH) λAd=>some (Ad) else some (false) else some (false)
def Qpi (fu:Nat) (a1:Box) (Aa:Spot) (b3:Box) (t4:Spot):Option (Bool) :=
  Qac (Qos fu a1 Aa) λAb=>bif (!Ab) then some (false) else Qac (Qos fu b3 t4) λAc=>bif (!Ac) then some (false) else bif (Aa.fJ != t4.fJ) then some (false) else Qop fu a1 Aa b3 t4
def Qiz (fu:Nat) (k3:List Int→Int→Option ((List Int))) (Ab:Int) (Aa:List Int):Option ((List Int)) :=
  k3 Aa (w64 (Ab+1))
def Qjl (fu:Nat)  (x1:Plan) (Ac:Int) (k3:List Int→Int→Option ((List Int))) (Ab:List Int) (Aa:Int):Option ((List Int)) :=
  bif (decide (Aa<(x1.fT.length:Int))) then Qac (ix x1.fT Aa) λAe=>bif (Ae.fJ==Ac) then Qac (Qgz 8 Ab (([Aa]:List Int))) λAd=>Qiz fu k3 Aa Ad else Qiz fu k3 Aa Ab else some (Ab)
def Qez (fu:Nat)  (x1:Plan) (Aa:Int):Nat→List Int→Int→Option ((List Int))
  | 0=>λ_ _=>none
  | n+1=>Qjl fu x1 Aa (Qez fu x1 Aa n)
def Qko (fu:Nat) (x1:Plan) (Aa:Int):Option ((List Int)) :=
  bif ((x1.fT.length:Int) != (x1.fV.length:Int)) then some (([]:List Int)) else Qez fu x1 Aa fu (([]:List Int)) 0
def Qim (fu:Nat)  (r1:Request) (x5:Plan) (Ac:(List Int)) (k1:Int→Int→Option (Int)) (Ab:Int) (Aa:Int):Option (Int) :=
  bif (decide (Aa<(Ac.length:Int))) then Qac (ix Ac Aa) λAe=>Qac (ix x5.fV Ae) λAf=>Qac (Qqw fu r1 Af) λAd=>k1 (w64 (Ab+Ad)) (w64 (Aa+1)) else some (Ab)
def Qey (fu:Nat)  (r1:Request) (x5:Plan) (Aa:(List Int)):Nat→Int→Int→Option (Int)
  | 0=>λ_ _=>none
  | n+1=>Qim fu r1 x5 Aa (Qey fu r1 x5 Aa n)
def Qj6 (fu:Nat) (r1:Request) (x5:Plan) (Ab:Int):Option (Int) :=
  Qac (Qko fu x5 Ab) λAa=>Qey fu r1 x5 Aa fu 0 0
def Qm7 (fu:Nat) (i1:Int) (x2:Plan) (Ad:List Int):Option (Bool) :=
  Qac (ix x2.fV i1) λAa=>Qac (ix Ad 0) λAc=>Qac (ix x2.fV Ac) λAb=>some (Aa.fF != Ab.fF)
def Qi3 (fu:Nat) (k4:Int→Option (Int)) (x5:Plan) (Ac:List Box) (Ab:Int) (k5:Int→Option (Int)) (Aa:Int):Option (Int) :=
  bif (decide (Aa<Ab)) then Qac (ix Ac Ab) λAd=>Qac (ix x5.fT Ab) λAg=>Qac (ix Ac Aa) λAf=>Qac (ix x5.fT Aa) λAe=>Qac (Qpi fu Ad Ag Af Ae) λAh=>bif Ah then some (8) else k5 (w64 (Aa+1)) else k4 (w64 (Ab+1))
def Qfi (fu:Nat) (k4:Int→Option (Int)) (x5:Plan) (Ab:List Box) (Aa:Int):Nat→Int→Option (Int)
  | 0=>λ_=>none
  | n+1=>Qi3 fu k4 x5 Ab Aa (Qfi fu k4 x5 Ab Aa n)
def Qlk (fu:Nat) (Ab:Int→Option (Int)) (Aa:Int)  : Option (Int) :=
  Ab (w64 (Aa+1))
def Ql1 (fu:Nat) (Ad:Int→Option (Int)) (x5:Plan) (Ac:Int) (Aa:(List Int))  : Option (Int) :=
  Qac (Qc2 fu Aa (λAb=>Qm7 fu Ab x5 Aa)) λAe=>bif Ae then some (9) else Qlk fu Ad Ac
def Qi1 (fu:Nat)  (r1:Request) (x5:Plan) (Ae:Int) (Ad:Int→Option (Int)) (Aa:Int):Option (Int) :=
  bif (decide (Aa<Ae)) then Qac (Qko fu x5 Aa) λAb=>bif ((Ab.length:Int)==0) then some (9) else Qac (Qj6 fu r1 x5 Aa) λAc=>bif (decide (Ac>r1.fJ.fQ)) then some (9) else Ql1 fu Ad x5 Aa Ab else some (0)
def Qdp (fu:Nat)  (r1:Request) (x5:Plan) (Aa:Int):Nat→Int→Option (Int)
  | 0=>λ_=>none
  | n+1=>Qi1 fu r1 x5 Aa (Qdp fu r1 x5 Aa n)
def Qi5 (fu:Nat)  (r1:Request) (x5:Plan) (Ab:List Box) (k4:Int→Option (Int)) (Aa:Int):Option (Int) :=
  bif (decide (Aa<(Ab.length:Int))) then Qfi fu k4 x5 Ab Aa fu 0 else Qac (Qh6 fu x5.fT) λAc=>Qdp fu r1 x5 Ac fu 0
def Qdq (fu:Nat)  (r1:Request) (x5:Plan) (Aa:List Box):Nat→Int→Option (Int)
  | 0=>λ_=>none
  | n+1=>Qi5 fu r1 x5 Aa (Qdq fu r1 x5 Aa n)
def Qi0 (fu:Nat)  (r1:Request) (x5:Plan) (k1:List Box→Int→Option (Int)) (Ac:List Box) (Aa:Int):Option (Int) :=
  bif (decide (Aa<(x5.fV.length:Int))) then Qac (ix x5.fV Aa) λAd=>Qac (Qqr fu r1 Ad) λAb=>Qac (ix x5.fT Aa) λAf=>Qac (Qrv fu r1.fJ Ab Af) λAg=>bif (!Ag) then some (7) else Qac (Qgz 32 Ac (([Ab]:List Box))) λAe=>k1 Ae (w64 (Aa+1)) else Qdq fu r1 x5 Ac fu 0
def Qfk (fu:Nat)  (r1:Request) (x5:Plan):Nat→List Box→Int→Option (Int)
  | 0=>λ_ _=>none
  | n+1=>Qi0 fu r1 x5 (Qfk fu r1 x5 n)
def Qmp (fu:Nat) (r1:Request) (x5:Plan):Option (Int) :=
  Qfk fu r1 x5 fu (([]:List Box)) 0
def Qq4 (fu:Nat) (r1:Request) (x5:Plan)  : Option (Int) :=
  Qac (Qof fu x5) λAg=>Qac (Qck fu Ag) λAb=>Qac (Qkz fu r1) λAe=>Qac (Qor fu (Ae.length:Int)) λAc=>Qac (Qgx fu Ab Ac) λAd=>bif (!Ad) then some (3) else Qac (Qja fu r1 x5) λAa=>bif (Aa != 0) then some (Aa) else Qac (Qmp fu r1 x5) λAf=>some (Af)
def Qqt (fu:Nat) (r1:Request) (x5:Plan):Option (Int) :=
  Qac (Qfn fu r1) λAc=>bif (!Ac) then some (1) else Qac (Qqy fu x5) λAb=>bif (!Ab) then some (2) else Qac (Qbl fu x5.fV (λAd=>Qsc fu Ad)) λAa=>bif Aa then some (2) else Qq4 fu r1 x5
def Qhj (fu:Nat) (r1:Request) (x5:Plan):Option (Bool) :=
  Qac (Qqt fu r1 x5) λAa=>some (Aa==0)
end Go.Proofs.YtpcmapfabndggaaGreat
