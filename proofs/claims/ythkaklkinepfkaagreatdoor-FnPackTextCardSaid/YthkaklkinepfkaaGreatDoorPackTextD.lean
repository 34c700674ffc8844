/- FnPackText: what the.. -/
import Derived.Test.YthkaklkinepfkaaGreatDoorPackTextBD
set_option linter.unusedVariables false
namespace Go.Proofs.YthkaklkinepfkaaGreatDoor
open Go
def Qj5 (fu:Nat) (Ae:List U8):Option (Bool) :=
  Qab (Qw9 fu Ae) λx5=>bif x5 then some (true) else Qab (Qml fu Ae) λAc=>Qab (Qoo fu Ac) λAb=>Qab (Qo9 fu Ac) λAi=>bif (!(Ab.toList==Ai.toList)) then some (false) else Qab (Qs2 fu Ac) λAa=>Qab (Qoi fu Ab) λAd=>bif (Aa.2==0) then bif (Ab.toList==Aa.1.toList) then some (Ad.2) else some (false) else bif (!Ad.2) then Qab (Ql3 fu Aa.2) λAh=>Qab (Qs5 (⟨#[33,32]⟩:ByteArray) Ah) λAf=>Qab (Qs5 Af (⟨#[10]⟩:ByteArray)) λAg=>bif (Ab.toList==Ag.toList) then some (Aa.1.toList==(⟨#[]⟩:ByteArray).toList) else some (false) else some (false)
end Go.Proofs.YthkaklkinepfkaaGreatDoor
