/- FnExactPack: what the functions that it reaches compute,on plain data. Printed by gen.py. -/
import Derived.Test.YthkaklkinepfkaaGreatDoorExactPackBD
set_option linter.unusedVariables false
namespace Go.Proofs.YthkaklkinepfkaaGreatDoor
open Go
def d_laws_FnExactPack (fu:Nat) (Aa:ByteArray):Option (Bool) :=
  bif (decide (((Aa.size:Int)) > 1048576)) then some (true) else obind (d_spec_Pack fu Aa) fun x3=>obind (d_impl_Pack fu Aa) fun x7=>bif (!(x7.1.toList == x3.1.toList)) then some (false) else bif (x7.2 != x3.2) then some (false) else some (true)

end Go.Proofs.YthkaklkinepfkaaGreatDoor
