/- FnTexts: what the functions that it reaches compute,on plain data. Printed by gen.py. -/
import Derived.Test.YtpcmapfabndggabGreatDoorTextsBD
set_option linter.unusedVariables false
namespace Go.Proofs.YtpcmapfabndggabGreatDoor
open Go
def d_laws_FnTexts_J1 (fu:Nat) (Ac:ByteArray) (Aa:Carton × Spot × Bool)  : Option (Bool) :=
  bif (!Aa.2.2) then some (true) else obind (d_impl_PlanText fu ((⟨([Aa.1]:List Carton),([Aa.2.1]:List Spot)⟩:Plan))) fun Ab=>obind (scat Ac ((⟨#[10]⟩:ByteArray))) fun Ad=>some (Ab.toList == Ad.toList)

def d_laws_FnTexts_J2 (fu:Nat) (Af:List U8)  : Option (Bool) :=
  obind (d_spec_DrawReadPlan fu Af) fun Ad=>obind (d_impl_ReadPlan fu Ad) fun Ac=>obind (d_spec_ReadPlan fu Ad) fun Ah=>obind (d_spec_DrawLineOf fu Af) fun Ab=>obind (d_impl_LineOf fu Ab) fun Aa=>obind (d_spec_LineOf fu Ab) fun Ae=>bif (!(Ac.2 == Ah.2)) then some (false) else bif Ac.2 then obind (d_impl_PlanText fu Ac.1) fun Ag=>bif (!(Ag.toList == Ad.toList)) then some (false) else bif (!(Aa.2.2 == Ae.2.2)) then some (false) else d_laws_FnTexts_J1 fu Ab Aa else bif (!(Aa.2.2 == Ae.2.2)) then some (false) else d_laws_FnTexts_J1 fu Ab Aa

def d_laws_FnTexts (fu:Nat) (Ab:List U8):Option (Bool) :=
  obind (d_laws_big fu Ab) fun x5=>bif x5 then some (true) else obind (d_spec_DrawPlanText fu Ab) fun Aa=>obind (d_impl_PlanText fu Aa) fun Ac=>obind (d_impl_ReadPlan fu Ac) fun Ad=>obind (d_spec_PlanText fu Aa) fun Ae=>bif (!(Ac.toList == Ae.toList)) then some (false) else bif (!Ad.2) then some (false) else obind (d_spec_PlanOk fu Aa) fun Af=>bif Af then obind (d_spec_PlanSame fu Aa Ad.1) fun Ag=>bif (!Ag) then some (false) else d_laws_FnTexts_J2 fu Ab else d_laws_FnTexts_J2 fu Ab

end Go.Proofs.YtpcmapfabndggabGreatDoor
