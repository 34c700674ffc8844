/- FnOneHolds: what the functions that it reaches compute,on plain data. Printed by gen.py. -/
import Derived.Test.YthddjkokpfdbnaaGreatOneHoldsBD
set_option linter.unusedVariables false
namespace Go.Proofs.YthddjkokpfdbnaaGreat
open Go
def d_laws_FnOneHolds_J1 (fu:Nat) (Ab:Bool) (Ac:Bool) (Aa:Int)  : Option (Bool) :=
  bif (decide (Aa ≥ 1)) then bif Ab then bif Ac then bif ((Aa == 1) == true) then bif (!Ab) then some (true) else bif (!Ac) then some (true) else some (Aa == 1) else some (false) else bif ((Aa == 1) == (Aa == 1)) then bif (!Ab) then some (true) else bif (!Ac) then some (true) else some (Aa == 1) else some (false) else bif ((Aa == 1) == (Aa == 1)) then bif (!Ab) then some (true) else bif (!Ac) then some (true) else some (Aa == 1) else some (false) else some (false)

def d_laws_FnOneHolds_J2 (fu:Nat) (Aa:Request × Int) (Ab:Bool) (Ad:Bool)  : Option (Bool) :=
  obind (d_impl_CountIn fu Aa.1 Aa.2) fun Ac=>bif (decide (Aa.2 < 0)) then bif (Ac == 0) then bif (!Ab) then some (!Ad) else some (false) else some (false) else obind (d_impl_GroupsOf fu Aa.1) fun Ae=>bif (decide (Aa.2 ≥ ((Ae.length:Int)))) then bif (Ac == 0) then bif (!Ab) then some (!Ad) else some (false) else some (false) else d_laws_FnOneHolds_J1 fu Ab Ad Ac

def d_laws_FnOneHolds (fu:Nat) (Ac:List U8):Option (Bool) :=
  obind (d_laws_big fu Ac) fun x5=>bif x5 then some (true) else obind (d_spec_DrawSlackGram fu Ac) fun Aa=>obind (d_impl_SlackGram fu Aa.1 Aa.2) fun Ab=>obind (d_impl_SlackVolume fu Aa.1 Aa.2) fun Ad=>obind (d_spec_SlackGram fu Aa.1 Aa.2) fun Ae=>bif (!(Ab == Ae)) then some (false) else obind (d_spec_SlackVolume fu Aa.1 Aa.2) fun Af=>bif (!(Ad == Af)) then some (false) else d_laws_FnOneHolds_J2 fu Aa Ab Ad

end Go.Proofs.YthddjkokpfdbnaaGreat
