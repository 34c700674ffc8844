/- FnExactFront: what the functions that it reaches compute,on plain data. Printed by gen.py. -/
import Derived.Test.YtlmibnlfkmiikaaGreatExactFrontBD
set_option linter.unusedVariables false
namespace Go.Proofs.YtlmibnlfkmiikaaGreat
open Go
def d_laws_FnExactFront_J1 (fu:Nat) (Ag:List Carton) (Ad:List Spot) (Aa:Int × Plan) (Ac:List Carton) (Af:List Spot):Option (Bool) :=
  obind (d_laws_eqPlan fu ((⟨Ac,Af⟩:Plan)) ((⟨Ag,Ad⟩:Plan))) fun Ae=>bif (!Ae) then some (false) else obind (d_laws_heldPlan fu Aa.2 1) fun Ab=>bif (decide (Ab < 0)) then some (false) else bif (Ab != Aa.1) then some (false) else some (true)

def d_laws_FnExactFront_J2 (fu:Nat) (Ad:Request) (Ai:Plan) (Af:List Carton) (Ae:List Spot) (Ah:Plan)  : Option (Bool) :=
  obind (d_laws_markPlan fu Ah 1) fun Aa=>obind (d_laws_heldPlan fu Aa.2 1) fun Ac=>bif (decide (Ac < 0)) then some (false) else bif (Ac != Aa.1) then some (false) else obind (d_laws_toRequest fu Ad) fun Aj=>obind (d_laws_toPlan fu Ai) fun Ag=>obind (d_impl_Front fu Aj Ag) fun Ab=>d_laws_FnExactFront_J1 fu Af Ae Aa Ab.fCartons Ab.fSpots

def d_laws_FnExactFront_J3 (fu:Nat) (Ab:Request) (Ag:Plan) (Ad:List Carton) (Ac:List Spot):Option (Bool) :=
  obind (d_laws_toRequest fu Ab) fun Ae=>obind (d_laws_toPlan fu Ag) fun Aa=>obind (d_impl_Front fu Ae Aa) fun Af=>obind (d_laws_eqPlan fu Af ((⟨Ad,Ac⟩:Plan))) fun Ap=>bif (!Ap) then some (false) else obind (d_laws_toRequest fu Ab) fun Ak=>obind (d_laws_eqRequest fu Ae Ak) fun Am=>bif (!Am) then some (false) else obind (d_laws_toPlan fu Ag) fun Al=>obind (d_laws_eqPlan fu Aa Al) fun Aj=>bif (!Aj) then some (false) else obind (d_laws_markRequest fu Ae 1) fun Ah=>obind (d_laws_markPlan fu Aa Ah.1) fun Ao=>bif (decide (Ao.1 < 0)) then some (false) else obind (d_laws_eqPlan fu Af ((⟨Ad,Ac⟩:Plan))) fun Ai=>bif (!Ai) then some (false) else d_laws_FnExactFront_J2 fu Ab Ag Ad Ac Af

def d_laws_FnExactFront (fu:Nat) (Aa:Request) (Ab:Plan):Option (Bool) :=
  obind (d_laws_szRequest fu Aa 1048576) fun Ad=>bif (decide (Ad < 0)) then some (true) else obind (d_laws_szPlan fu Ab Ad) fun Ae=>bif (decide (Ae < 0)) then some (true) else obind (d_laws_toRequest fu Aa) fun Af=>obind (d_laws_toPlan fu Ab) fun Ag=>obind (d_spec_Front fu Af Ag) fun Ac=>d_laws_FnExactFront_J3 fu Aa Ab Ac.fCartons Ac.fSpots

end Go.Proofs.YtlmibnlfkmiikaaGreat
