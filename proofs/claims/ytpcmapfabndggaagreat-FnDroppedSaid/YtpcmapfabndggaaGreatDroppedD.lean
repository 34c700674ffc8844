/- FnDropped: what the .. -/
import Derived.Test.YtpcmapfabndggaaGreatDroppedBD
set_option linter.unusedVariables false
namespace Go.Proofs.YtpcmapfabndggaaGreat
open Go
def Qle (fu:Nat) (k3:Int → Option (Bool)) (Aa:Int)  : Option (Bool) :=
  k3 (w64 (Aa + 1))
def Qi4 (fu:Nat)  (Aa:Request × Plan) (Ag:Plan) (k5:List Carton → List Spot → Int → Option (Bool)) (Ab:List Carton) (Ac:List Spot) (Ae:Int):Option (Bool) :=
  bif (decide (Ae < (Aa.2.fU.length:Int))) then Qac (Qgv fu Aa.1 (⟨Ab,Ac⟩:Plan)) λAd=>k5 Ad.fQ Ad.fU (w64 (Ae + 1)) else Qac (Qg4 fu Aa.1 Ag) λAf=>bif Af then Qac (Qg4 fu Aa.1 (⟨Ab,Ac⟩:Plan)) λAj=>bif Aj then Qac (Qgv fu Aa.1 (⟨Ab,Ac⟩:Plan)) λAi=>Qac (Qgw fu Ai (⟨Ab,Ac⟩:Plan)) λAh=>some (Ah) else some (false) else some (false)
def Qd0 (fu:Nat)  (Ab:Request × Plan) (Aa:Plan):Nat → List Carton → List Spot → Int → Option (Bool)
  | 0=>λ_ _ _=>none
  | n + 1=>Qi4 fu Ab Aa (Qd0 fu Ab Aa n)
def Qi5 (fu:Nat)  (Ac:Request × Plan) (Ab:Plan) (k3:Int → Option (Bool)) (Aa:Int):Option (Bool) :=
  bif (decide (Aa < (Ac.2.fU.length:Int))) then Qac (ix Ab.fU Aa) λAe=>Qac (ix Ac.2.fU Aa) λAd=>bif (decide (Ae.fZ > Ad.fZ)) then some (false) else Qac (ix Ab.fU Aa) λAf=>Qac (ix Ac.2.fU Aa) λAi=>bif (Ae.fX != Ad.fX) then some (false) else Qac (ix Ab.fU Aa) λAg=>Qac (ix Ac.2.fU Aa) λAh=>bif (Ae.fJ != Ad.fJ) then some (false) else Qle fu k3 Aa else Qd0 fu Ac Ab fu Ab.fQ Ab.fU 0
def Qd2 (fu:Nat)  (Ab:Request × Plan) (Aa:Plan):Nat → Int → Option (Bool)
  | 0=>λ_=>none
  | n + 1=>Qi5 fu Ab Aa (Qd2 fu Ab Aa n)
def Qqv (fu:Nat) (Ac:List U8):Option (Bool) :=
  Qac (Qu4 fu Ac) λx5=>bif x5 then some (true) else Qac (Qno fu Ac) λAa=>Qac (Qgv fu Aa.1 Aa.2) λAb=>Qac (Qpu fu Aa.1 Aa.2) λAe=>Qac (Qgw fu Ab Ae) λAf=>bif (!Af) then some (false) else Qac (Qj6 fu Aa.1 Aa.2) λAg=>bif (!Ag) then Qac (Qgw fu Ab Aa.2) λAd=>some (Ad) else Qd2 fu Aa Ab fu 0
end Go.Proofs.YtpcmapfabndggaaGreat
