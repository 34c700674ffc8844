/- FnExactPackText: what the functions that it reaches compute,on plain data. Printed by gen.py. -/
import Derived.Test.YthkaklkinepfkaaGreatDoorExactPackTextBD
set_option linter.unusedVariables false
namespace Go.Proofs.YthkaklkinepfkaaGreatDoor
open Go
def d_laws_FnExactPackText (fu:Nat) (Aa:ByteArray):Option (Bool) :=
  bif (decide (((Aa.size:Int)) > 1048576)) then some (true) else obind (d_spec_PackText fu Aa) fun x3=>obind (d_impl_PackText fu Aa) fun x7=>bif (!(x7.toList == x3.toList)) then some (false) else some (true)

end Go.Proofs.YthkaklkinepfkaaGreatDoor
