/- FnRenamed: what the functions that it reaches compute,on plain data. Printed by gen.py. -/
import Derived.Test.YthkaklkinepfkaaGreatDoorRenamedBD
set_option linter.unusedVariables false
namespace Go.Proofs.YthkaklkinepfkaaGreatDoor
open Go
def d_laws_FnRenamed_L1_B (fu:Nat)  (Aa:Request) (Ah:Plan × Bool) (Aj:List Item) (k2:List Typ → Int → Option (Bool)) (Ac:List Typ) (Ab:Int):Option (Bool) :=
  bif (decide (Ab < ((Ac.length:Int)))) then obind (ix Ac Ab) fun Ae=>obind (ix Ac Ab) fun Al=>k2 (setx Ac Ab ({ Ae with fCost:=w64 (Ae.fCost + 1) })) (w64 (Ab + 1)) else obind (d_impl_OrderText fu ((⟨Aa.fWay,Aa.fPallet,Aa.fClasses,Aa.fPairs,Aa.fTypes,Aa.fMaster,Aj⟩:Request))) fun Ak=>obind (d_impl_Pack fu Ak) fun Ad=>obind (d_impl_OrderText fu ((⟨Aa.fWay,Aa.fPallet,Aa.fClasses,Aa.fPairs,Ac,Aa.fMaster,Aa.fItems⟩:Request))) fun Ai=>obind (d_impl_Pack fu Ai) fun Af=>bif (Ad.2 == 0) then bif (Af.2 == 0) then obind (d_impl_PlanText fu Ah.1) fun Ag=>bif (Ad.1.toList == Ag.toList) then some (Af.1.toList == Ad.1.toList) else some (false) else some (false) else some (false)
def d_laws_FnRenamed_L1 (fu:Nat)  (Ac:Request) (Aa:Plan × Bool) (Ab:List Item):Nat → List Typ → Int → Option (Bool)
  | 0=>fun _ _=>none
  | n + 1=>d_laws_FnRenamed_L1_B fu Ac Aa Ab (d_laws_FnRenamed_L1 fu Ac Aa Ab n)

def d_laws_FnRenamed_L2_B (fu:Nat)  (Ac:Request) (Ae:Plan × Bool) (k1:List Item → Int → Option (Bool)) (Ab:List Item) (Aa:Int):Option (Bool) :=
  bif (decide (Aa < ((Ab.length:Int)))) then obind (ix Ab Aa) fun Af=>k1 (setx Ab Aa ({ Af with fId:=w64 (900 - (w64 (7 * Aa))) })) (w64 (Aa + 1)) else obind (apnd 56 (([]:List Typ)) Ac.fTypes) fun Ad=>d_laws_FnRenamed_L1 fu Ac Ae Ab fu Ad 0
def d_laws_FnRenamed_L2 (fu:Nat)  (Ab:Request) (Aa:Plan × Bool):Nat → List Item → Int → Option (Bool)
  | 0=>fun _ _=>none
  | n + 1=>d_laws_FnRenamed_L2_B fu Ab Aa (d_laws_FnRenamed_L2 fu Ab Aa n)

def d_laws_FnRenamed (fu:Nat) (Ac:List U8):Option (Bool) :=
  obind (d_laws_big fu Ac) fun x5=>bif x5 then some (true) else obind (d_spec_DrawPlanOf fu Ac) fun Ab=>obind (d_impl_PlanOf fu Ab) fun Aa=>obind (d_spec_PlanOf fu Ab) fun Ae=>bif (!(Aa.2 == Ae.2)) then some (false) else bif (!Aa.2) then some (((Aa.1.fCartons.length:Int)) == 0) else obind (apnd 56 (([]:List Item)) Ab.fItems) fun Ad=>d_laws_FnRenamed_L2 fu Ab Aa fu Ad 0

end Go.Proofs.YthkaklkinepfkaaGreatDoor
