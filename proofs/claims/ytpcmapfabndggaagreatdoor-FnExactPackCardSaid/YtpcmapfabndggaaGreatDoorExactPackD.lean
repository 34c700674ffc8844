/- FnExactPack: what th.. -/
import Derived.Test.YtpcmapfabndggaaGreatDoorExactPackBD
set_option linter.unusedVariables false
namespace Go.Proofs.YtpcmapfabndggaaGreatDoor
open Go
def Ql5 (fu:Nat) (Aa:ByteArray):Option (Bool) :=
  bif (decide (((Aa.size:Int))>1048576)) then some (true) else Qac (Qr0 fu Aa) λx3=>Qac (Qr4 fu Aa) λx7=>bif (!(x7.1.toList==x3.1.toList)) then some (false) else bif (x7.2 != x3.2) then some (false) else some (true)
end Go.Proofs.YtpcmapfabndggaaGreatDoor
