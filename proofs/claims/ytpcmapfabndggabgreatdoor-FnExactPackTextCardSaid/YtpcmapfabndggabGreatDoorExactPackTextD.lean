/- FnExactPackText: wha.. -/
import Derived.Test.YtpcmapfabndggabGreatDoorExactPackTextBD
set_option linter.unusedVariables false
namespace Go.Proofs.YtpcmapfabndggabGreatDoor
open Go
def Qhr (fu:Nat) (Aa:ByteArray):Option (Bool) :=
  bif (decide (((Aa.size:Int))>1048576)) then some (true) else Qac (Qm9 fu Aa) λx3=>Qac (Qna fu Aa) λx7=>bif (!(x7.toList==x3.toList)) then some (false) else some (true)
end Go.Proofs.YtpcmapfabndggabGreatDoor
