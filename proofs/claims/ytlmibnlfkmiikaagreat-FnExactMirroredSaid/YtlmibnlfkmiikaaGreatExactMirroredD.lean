/- FnExactMirrored: what the functions that it reaches compute,on plain data. Printed by gen.py. -/
import Derived.Test.YtlmibnlfkmiikaaGreatExactFrontBD
set_option linter.unusedVariables false
namespace Go.Proofs.YtlmibnlfkmiikaaGreat
open Go
def d_spec_Mirrored_L1_B (fu:Nat)  (r1:Request) (x5:Plan) (Af:Plan) (k1:List Spot → Int → Option (Plan)) (Ab:List Spot) (Aa:Int):Option (Plan) :=
  bif (decide (Aa < ((Ab.length:Int)))) then obind (ix x5.fSpots Aa) fun Ae=>obind (ix x5.fCartons Aa) fun Ag=>obind (d_spec_BoxOf fu r1 Ag) fun Ac=>obind (ix Ab Aa) fun Ad=>k1 (setx Ab Aa ({ Ad with fX:=w64 ((w64 (r1.fPallet.fW - Ae.fX)) - Ac.fW) })) (w64 (Aa + 1)) else some ((⟨Af.fCartons,Ab⟩:Plan))
def d_spec_Mirrored_L1 (fu:Nat)  (r1:Request) (x5:Plan) (Aa:Plan):Nat → List Spot → Int → Option (Plan)
  | 0=>fun _ _=>none
  | n + 1=>d_spec_Mirrored_L1_B fu r1 x5 Aa (d_spec_Mirrored_L1 fu r1 x5 Aa n)
theorem d_spec_Mirrored_L1_s (fu:Nat)  (r1:Request) (x5:Plan) (Aa:Plan) (n:Nat):d_spec_Mirrored_L1 fu r1 x5 Aa (n + 1) = d_spec_Mirrored_L1_B fu r1 x5 Aa (d_spec_Mirrored_L1 fu r1 x5 Aa n):=z

def d_spec_Mirrored (fu:Nat) (r1:Request) (x5:Plan):Option (Plan) :=
  obind (d_spec_l13Copy fu x5) fun Aa=>obind (d_spec_Feasible fu r1 x5) fun Ab=>bif (!Ab) then some (Aa) else d_spec_Mirrored_L1 fu r1 x5 Aa fu Aa.fSpots 0

def d_impl_Mirrored_1 (fu:Nat) (b1:Box) (Aa:Spot) (x3:Request):Option (Spot) :=
  some ((⟨Aa.fPallet,w64 ((w64 (x3.fPallet.fW - Aa.fX)) - b1.fW),Aa.fY,Aa.fZ⟩:Spot))

def d_impl_Mirrored (fu:Nat) (r1:Request) (x5:Plan):Option (Plan) :=
  obind (d_impl_turned fu r1 x5 (fun Ab Aa=>d_impl_Mirrored_1 fu Ab Aa r1)) fun Ac=>some (Ac)

def d_laws_FnExactMirrored_J1 (fu:Nat) (Ac:List Carton) (Ad:List Spot) (Aa:Int × Plan) (Ag:List Carton) (Af:List Spot):Option (Bool) :=
  obind (d_laws_eqPlan fu ((⟨Ag,Af⟩:Plan)) ((⟨Ac,Ad⟩:Plan))) fun Ae=>bif (!Ae) then some (false) else obind (d_laws_heldPlan fu Aa.2 1) fun Ab=>bif (decide (Ab < 0)) then some (false) else bif (Ab != Aa.1) then some (false) else some (true)

def d_laws_FnExactMirrored_J2 (fu:Nat) (Ae:Request) (Af:Plan) (Ag:List Carton) (Aj:List Spot) (Ah:Plan)  : Option (Bool) :=
  obind (d_laws_markPlan fu Ah 1) fun Aa=>obind (d_laws_heldPlan fu Aa.2 1) fun Ab=>bif (decide (Ab < 0)) then some (false) else bif (Ab != Aa.1) then some (false) else obind (d_laws_toRequest fu Ae) fun Ai=>obind (d_laws_toPlan fu Af) fun Ad=>obind (d_impl_Mirrored fu Ai Ad) fun Ac=>d_laws_FnExactMirrored_J1 fu Ag Aj Aa Ac.fCartons Ac.fSpots

def d_laws_FnExactMirrored_J3 (fu:Nat) (Aa:Request) (Ab:Plan) (Ad:List Carton) (Ae:List Spot):Option (Bool) :=
  obind (d_laws_toRequest fu Aa) fun Af=>obind (d_laws_toPlan fu Ab) fun Ag=>obind (d_impl_Mirrored fu Af Ag) fun Ac=>obind (d_laws_eqPlan fu Ac ((⟨Ad,Ae⟩:Plan))) fun Ap=>bif (!Ap) then some (false) else obind (d_laws_toRequest fu Aa) fun Ak=>obind (d_laws_eqRequest fu Af Ak) fun Ah=>bif (!Ah) then some (false) else obind (d_laws_toPlan fu Ab) fun Aj=>obind (d_laws_eqPlan fu Ag Aj) fun Ai=>bif (!Ai) then some (false) else obind (d_laws_markRequest fu Af 1) fun Al=>obind (d_laws_markPlan fu Ag Al.1) fun Ao=>bif (decide (Ao.1 < 0)) then some (false) else obind (d_laws_eqPlan fu Ac ((⟨Ad,Ae⟩:Plan))) fun Am=>bif (!Am) then some (false) else d_laws_FnExactMirrored_J2 fu Aa Ab Ad Ae Ac

def d_laws_FnExactMirrored (fu:Nat) (Aa:Request) (Ab:Plan):Option (Bool) :=
  obind (d_laws_szRequest fu Aa 1048576) fun Ac=>bif (decide (Ac < 0)) then some (true) else obind (d_laws_szPlan fu Ab Ac) fun Af=>bif (decide (Af < 0)) then some (true) else obind (d_laws_toRequest fu Aa) fun Ae=>obind (d_laws_toPlan fu Ab) fun Ag=>obind (d_spec_Mirrored fu Ae Ag) fun Ad=>d_laws_FnExactMirrored_J3 fu Aa Ab Ad.fCartons Ad.fSpots

end Go.Proofs.YtlmibnlfkmiikaaGreat
