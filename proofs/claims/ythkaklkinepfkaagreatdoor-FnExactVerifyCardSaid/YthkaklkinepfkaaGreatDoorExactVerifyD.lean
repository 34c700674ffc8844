/- FnExactVerify: what the functions that it reaches compute,on plain data. Printed by gen.py. -/
import Derived.Test.YthkaklkinepfkaaGreatDoorExactVerifyBD
set_option linter.unusedVariables false
namespace Go.Proofs.YthkaklkinepfkaaGreatDoor
open Go
def d_laws_FnExactVerify (fu:Nat) (Aa:ByteArray) (Ab:ByteArray):Option (Bool) :=
  bif (decide (((Aa.size:Int)) > 1048576)) then some (true) else bif (decide (((Ab.size:Int)) > 1048576)) then some (true) else obind (d_spec_Verify fu Aa Ab) fun x5=>obind (d_impl_Verify fu Aa Ab) fun Ac=>bif (Ac.1 != x5.1) then some (false) else bif (Ac.2 != x5.2) then some (false) else some (true)

end Go.Proofs.YthkaklkinepfkaaGreatDoor
