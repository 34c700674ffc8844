/- FnTexts: what the functions that it reaches compute,on plain data. Printed by gen.py. -/
import Derived.Test.YthkaklkinepfkaaGreatDoorTextsBD
set_option linter.unusedVariables false
namespace Go.Proofs.YthkaklkinepfkaaGreatDoor
open Go
def d_laws_FnTexts_J1 (fu:Nat) (Ac:ByteArray) (Aa:Carton × Spot × Bool)  : Option (Bool) :=
  bif (!Aa.2.2) then some (true) else obind (d_impl_PlanText fu ((⟨([Aa.1]:List Carton),([Aa.2.1]:List Spot)⟩:Plan))) fun Ab=>obind (scat Ac ((⟨#[10]⟩:ByteArray))) fun Ad=>some (Ab.toList == Ad.toList)

def d_laws_FnTexts_J2 (fu:Nat) (Ae:List U8)  : Option (Bool) :=
  obind (d_spec_DrawReadPlan fu Ae) fun Ac=>obind (d_impl_ReadPlan fu Ac) fun Ad=>obind (d_spec_ReadPlan fu Ac) fun Ag=>obind (d_spec_DrawLineOf fu Ae) fun Aa=>obind (d_impl_LineOf fu Aa) fun Ab=>obind (d_spec_LineOf fu Aa) fun Af=>bif (!(Ad.2 == Ag.2)) then some (false) else bif Ad.2 then obind (d_impl_PlanText fu Ad.1) fun Ah=>bif (!(Ah.toList == Ac.toList)) then some (false) else bif (!(Ab.2.2 == Af.2.2)) then some (false) else d_laws_FnTexts_J1 fu Aa Ab else bif (!(Ab.2.2 == Af.2.2)) then some (false) else d_laws_FnTexts_J1 fu Aa Ab

def d_laws_FnTexts (fu:Nat) (Aa:List U8):Option (Bool) :=
  obind (d_laws_big fu Aa) fun x5=>bif x5 then some (true) else obind (d_spec_DrawPlanText fu Aa) fun Ab=>obind (d_impl_PlanText fu Ab) fun Ac=>obind (d_impl_ReadPlan fu Ac) fun Ad=>obind (d_spec_PlanText fu Ab) fun Af=>bif (!(Ac.toList == Af.toList)) then some (false) else bif (!Ad.2) then some (false) else obind (d_spec_PlanOk fu Ab) fun Ag=>bif Ag then obind (d_spec_PlanSame fu Ab Ad.1) fun Ae=>bif (!Ae) then some (false) else d_laws_FnTexts_J2 fu Aa else d_laws_FnTexts_J2 fu Aa

end Go.Proofs.YthkaklkinepfkaaGreatDoor
