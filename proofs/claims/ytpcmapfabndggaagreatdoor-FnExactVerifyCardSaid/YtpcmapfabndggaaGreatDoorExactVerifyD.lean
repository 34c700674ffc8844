/- FnExactVerify: what the functions that it reaches compute,on plain data. Printed by gen.py. -/
import Derived.Test.YtpcmapfabndggaaGreatDoorExactVerifyBD
set_option linter.unusedVariables false
namespace Go.Proofs.YtpcmapfabndggaaGreatDoor
open Go
def d_laws_FnExactVerify (fu:Nat) (Ab:ByteArray) (Aa:ByteArray):Option (Bool) :=
  bif (decide (((Ab.size:Int)) > 1048576)) then some (true) else bif (decide (((Aa.size:Int)) > 1048576)) then some (true) else obind (d_spec_Verify fu Ab Aa) fun x5=>obind (d_impl_Verify fu Ab Aa) fun Ac=>bif (Ac.1 != x5.1) then some (false) else bif (Ac.2 != x5.2) then some (false) else some (true)

end Go.Proofs.YtpcmapfabndggaaGreatDoor
