/- FnRenamed: what the .. -/
import Derived.Test.YtndfoffokpdjeaaGreatDoorRenamedBD
set_option linter.unusedVariables false
namespace Go.Proofs.YtndfoffokpdjeaaGreatDoor
open Go
def Qic (fu:Nat)  (Aa:Request) (Ag:Plan×Bool) (Ai:List Item) (k2:List Typ→Int→Option (Bool)) (Ac:List Typ) (Ab:Int):Option (Bool) :=
  bif (decide (Ab<(Ac.length:Int))) then Qab (ix Ac Ab) λAf=>Qab (ix Ac Ab) λAl=>k2 (Qim Ac Ab ({ Af with fE:=w64 (Af.fE+1) })) (w64 (Ab+1)) else Qab (Qel fu (⟨Aa.fO,Aa.fJ,Aa.fU,Aa.fT,Aa.fG,Aa.fR,Ai⟩:Request)) λAj=>Qab (Qkx fu Aj) λAd=>Qab (Qel fu (⟨Aa.fO,Aa.fJ,Aa.fU,Aa.fT,Ac,Aa.fR,Aa.fV⟩:Request)) λAk=>Qab (Qkx fu Ak) λAe=>bif (Ad.2==0) then bif (Ae.2==0) then Qab (Qhf fu Ag.1) λAh=>bif (Ad.1.toList==Ah.toList) then some (Ae.1.toList==Ad.1.toList) else some (false) else some (false) else some (false)
def Qdw (fu:Nat)  (Ac:Request) (Ab:Plan×Bool) (Aa:List Item):Nat→List Typ→Int→Option (Bool)
  | 0=>λ_ _=>none
  | n+1=>Qic fu Ac Ab Aa (Qdw fu Ac Ab Aa n)
def Qia (fu:Nat)  (Ac:Request) (Af:Plan×Bool) (k1:List Item→Int→Option (Bool)) (Ab:List Item) (Aa:Int):Option (Bool) :=
  bif (decide (Aa<(Ab.length:Int))) then Qab (ix Ab Aa) λAd=>k1 (Qim Ab Aa ({ Ad with f0:=w64 (900 - (w64 (7*Aa))) })) (w64 (Aa+1)) else Qab (Qfd 56 (([]:List Typ)) Ac.fG) λAe=>Qdw fu Ac Af Ab fu Ae 0
def Qdy (fu:Nat)  (Ab:Request) (Aa:Plan×Bool):Nat→List Item→Int→Option (Bool)
  | 0=>λ_ _=>none
  | n+1=>Qia fu Ab Aa (Qdy fu Ab Aa n)
def Qpi (fu:Nat) (Ac:List U8):Option (Bool) :=
  Qab (Qth fu Ac) λx5=>bif x5 then some (true) else Qab (Qnd fu Ac) λAb=>Qab (Qn8 fu Ab) λAa=>Qab (Qp9 fu Ab) λAd=>bif (!(Aa.2==Ad.2)) then some (false) else bif (!Aa.2) then some ((Aa.1.fK.length:Int)==0) else Qab (Qfd 56 (([]:List Item)) Ab.fV) λAe=>Qdy fu Ab Aa fu Ae 0
end Go.Proofs.YtndfoffokpdjeaaGreatDoor
