/- FnPlanned: what the .. -/
import Derived.Test.YtpcmapfabndggaaGreatDoorPlannedBD
set_option linter.unusedVariables false
namespace Go.Proofs.YtpcmapfabndggaaGreatDoor
open Go
def Qq0 (fu:Nat) (Ac:List U8):Option (Bool) :=
  Qac (Qv3 fu Ac) λx5=>bif x5 then some (true) else Qac (Qpc fu Ac) λAb=>Qac (Qr4 fu Ab) λAa=>Qac (Qry fu Ab) λAd=>bif (!(Aa.2==Ad.2)) then some (false) else bif (!Aa.2) then bif ((Aa.1.fV.length:Int)==0) then Qac (Qoh fu Ab Aa.1) λAi=>some (Ai==1) else some (false) else Qac (Qom fu Ab Aa.1) λAh=>bif Ah then Qac (Qlj fu Aa.1) λAg=>bif Ag then Qac (Qto fu Ab Aa.1) λAj=>bif ((Aj.length:Int)==0) then Qac (Qog fu Aa.1) λAf=>Qac (Qoj fu Aa.1) λAe=>some (Af.toList==Ae.toList) else some (false) else some (false) else some (false)
end Go.Proofs.YtpcmapfabndggaaGreatDoor
