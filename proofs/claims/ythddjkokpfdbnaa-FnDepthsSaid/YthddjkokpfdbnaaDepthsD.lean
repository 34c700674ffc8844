/- FnDepths: what the functions that it reaches compute,on plain data. Printed by gen.py. -/
import Derived.Test.YthddjkokpfdbnaaDepthsBD
set_option linter.unusedVariables false
namespace Go.Proofs.Ythddjkokpfdbnaa
open Go
def d_laws_FnDepths_J1 (fu:Nat) (Aa:Pallet × (List Box)) (Ac:Int) (Ab:(List Layer)) (Ad:Int)  : Option (Bool) :=
  bif (decide (Ad ≤ Ac)) then obind (d_impl_AreaNeeds fu Aa.1 Aa.2) fun Ag=>obind (d_impl_LayersPromise fu Aa.1 Aa.2 Ag) fun Ae=>bif (decide (((Ab.length:Int)) ≤ Ae)) then obind (d_impl_AreaNeeds fu Aa.1 Aa.2) fun Af=>some (decide (((Ab.length:Int)) ≥ Af)) else some (false) else some (false)

def d_laws_FnDepths_J2 (fu:Nat) (Aa:Pallet × (List Box)) (Ad:Int)  : Option (Bool) :=
  obind (d_spec_Light fu Aa.1 Aa.2) fun Af=>bif (!Af) then some (true) else obind (d_impl_Shelves fu Aa.1 Aa.2) fun Ac=>obind (d_impl_LayersOf fu Aa.1 Ac) fun Ae=>obind (d_impl_DepthOf fu Ac) fun Ab=>bif (decide (((Ac.length:Int)) > 1)) then obind (d_impl_Deepest fu Aa.2) fun Ah=>obind (d_impl_AreaOf fu Aa.2) fun Ag=>bif (decide ((w64 (Aa.1.fW * (w64 (Ab - Ah)))) ≥ (w64 (2 * Ag)))) then some (false) else d_laws_FnDepths_J1 fu Aa Ad Ae Ab else d_laws_FnDepths_J1 fu Aa Ad Ae Ab

def d_laws_FnDepths (fu:Nat) (Ac:List U8):Option (Bool) :=
  obind (d_laws_big fu Ac) fun x5=>bif x5 then some (true) else obind (d_spec_DrawDepthPromise fu Ac) fun Aa=>obind (d_impl_DepthPromise fu Aa.1 Aa.2) fun Ab=>obind (d_spec_DepthPromise fu Aa.1 Aa.2) fun Ag=>bif (Ab != Ag) then some (false) else obind (d_impl_Light fu Aa.1 Aa.2) fun Ae=>obind (d_spec_Light fu Aa.1 Aa.2) fun Af=>bif (!(Ae == Af)) then some (false) else obind (d_impl_AreaNeeds fu Aa.1 Aa.2) fun Ad=>obind (d_spec_AreaNeeds fu Aa.1 Aa.2) fun Ah=>bif (Ad != Ah) then some (false) else d_laws_FnDepths_J2 fu Aa Ab

end Go.Proofs.Ythddjkokpfdbnaa
