/- FnPackText: what the.. -/
import Derived.Test.YtndfoffokpdjeaaGreatDoorPackTextBD
set_option linter.unusedVariables false
namespace Go.Proofs.YtndfoffokpdjeaaGreatDoor
open Go
def Qj3 (fu:Nat) (Ad:List U8):Option (Bool) :=
  Qab (Qwp fu Ad) λx5=>bif x5 then some (true) else Qab (Qm4 fu Ad) λAc=>Qab (Qos fu Ac) λAa=>Qab (Qok fu Ac) λAi=>bif (!(Aa.toList==Ai.toList)) then some (false) else Qab (Qst fu Ac) λAb=>Qab (Qo2 fu Aa) λAe=>bif (Ab.2==0) then bif (Aa.toList==Ab.1.toList) then some (Ae.2) else some (false) else bif (!Ae.2) then Qab (Ql2 fu Ab.2) λAh=>Qab (Qs5 (⟨#[33,32]⟩:ByteArray) Ah) λAg=>Qab (Qs5 Ag (⟨#[10]⟩:ByteArray)) λAf=>bif (Aa.toList==Af.toList) then some (Ab.1.toList==(⟨#[]⟩:ByteArray).toList) else some (false) else some (false)
end Go.Proofs.YtndfoffokpdjeaaGreatDoor
