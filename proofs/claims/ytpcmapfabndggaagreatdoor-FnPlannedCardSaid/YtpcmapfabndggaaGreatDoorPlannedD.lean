/- FnPlanned: what the .. -/
import Derived.Test.YtpcmapfabndggaaGreatDoorPlannedBD
set_option linter.unusedVariables false
namespace Go.Proofs.YtpcmapfabndggaaGreatDoor
open Go
def Qqp (fu:Nat) (Ac:List U8):Option (Bool) :=
  Qac (Qv4 fu Ac) λx5=>bif x5 then some (true) else Qac (Qpa fu Ac) λAb=>Qac (Qrk fu Ab) λAa=>Qac (Qrv fu Ab) λAd=>bif (!(Aa.2==Ad.2)) then some (false) else bif (!Aa.2) then bif ((Aa.1.fV.length:Int)==0) then Qac (Qol fu Ab Aa.1) λAi=>some (Ai==1) else some (false) else Qac (Qos fu Ab Aa.1) λAh=>bif Ah then Qac (Qla fu Aa.1) λAg=>bif Ag then Qac (Qts fu Ab Aa.1) λAf=>bif ((Af.length:Int)==0) then Qac (Qoy fu Aa.1) λAj=>Qac (Qom fu Aa.1) λAe=>some (Aj.toList==Ae.toList) else some (false) else some (false) else some (false)
end Go.Proofs.YtpcmapfabndggaaGreatDoor
