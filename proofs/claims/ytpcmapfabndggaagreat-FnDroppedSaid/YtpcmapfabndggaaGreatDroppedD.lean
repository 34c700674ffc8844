/- FnDropped: what the .. -/
import Derived.Test.YtpcmapfabndggaaGreatDroppedBD
set_option linter.unusedVariables false
namespace Go.Proofs.YtpcmapfabndggaaGreat
open Go
def Ql1 (fu:Nat) (k3:Int → Option (Bool)) (Aa:Int)  : Option (Bool) :=
  k3 (w64 (Aa + 1))
def Qi2 (fu:Nat)  (Aa:Request × Plan) (Ah:Plan) (k5:List Carton → List Spot → Int → Option (Bool)) (Ab:List Carton) (Ac:List Spot) (Ad:Int):Option (Bool) :=
  bif (decide (Ad < (Aa.2.fU.length:Int))) then Qac (Qgv fu Aa.1 (⟨Ab,Ac⟩:Plan)) λAe=>k5 Ae.fQ Ae.fU (w64 (Ad + 1)) else Qac (Qgx fu Aa.1 Ah) λAf=>bif Af then Qac (Qgx fu Aa.1 (⟨Ab,Ac⟩:Plan)) λAg=>bif Ag then Qac (Qgv fu Aa.1 (⟨Ab,Ac⟩:Plan)) λAi=>Qac (Qg1 fu Ai (⟨Ab,Ac⟩:Plan)) λAj=>some (Aj) else some (false) else some (false)
def Qd0 (fu:Nat)  (Aa:Request × Plan) (Ab:Plan):Nat → List Carton → List Spot → Int → Option (Bool)
  | 0=>λ_ _ _=>none
  | n + 1=>Qi2 fu Aa Ab (Qd0 fu Aa Ab n)
def Qi5 (fu:Nat)  (Ac:Request × Plan) (Ab:Plan) (k3:Int → Option (Bool)) (Aa:Int):Option (Bool) :=
  bif (decide (Aa < (Ac.2.fU.length:Int))) then Qac (ix Ab.fU Aa) λAe=>Qac (ix Ac.2.fU Aa) λAd=>bif (decide (Ae.fZ > Ad.fZ)) then some (false) else Qac (ix Ab.fU Aa) λAi=>Qac (ix Ac.2.fU Aa) λAh=>bif (Ae.fX != Ad.fX) then some (false) else Qac (ix Ab.fU Aa) λAf=>Qac (ix Ac.2.fU Aa) λAg=>bif (Ae.fJ != Ad.fJ) then some (false) else Ql1 fu k3 Aa else Qd0 fu Ac Ab fu Ab.fQ Ab.fU 0
def Qd1 (fu:Nat)  (Aa:Request × Plan) (Ab:Plan):Nat → Int → Option (Bool)
  | 0=>λ_=>none
  | n + 1=>Qi5 fu Aa Ab (Qd1 fu Aa Ab n)
def Qqh (fu:Nat) (Ac:List U8):Option (Bool) :=
  Qac (Qu4 fu Ac) λx5=>bif x5 then some (true) else Qac (Qnq fu Ac) λAa=>Qac (Qgv fu Aa.1 Aa.2) λAb=>Qac (Qqe fu Aa.1 Aa.2) λAf=>Qac (Qg1 fu Ab Af) λAd=>bif (!Ad) then some (false) else Qac (Qkw fu Aa.1 Aa.2) λAg=>bif (!Ag) then Qac (Qg1 fu Ab Aa.2) λAe=>some (Ae) else Qd1 fu Aa Ab fu 0
end Go.Proofs.YtpcmapfabndggaaGreat
