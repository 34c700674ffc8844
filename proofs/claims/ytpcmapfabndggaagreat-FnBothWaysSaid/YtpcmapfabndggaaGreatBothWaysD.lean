/- FnBothWays: what the functions that it reaches compute,on plain data. Printed by gen.py. -/
import Derived.Test.YtpcmapfabndggaaGreatBothWaysBD
set_option linter.unusedVariables false
namespace Go.Proofs.YtpcmapfabndggaaGreat
open Go
def d_laws_FnBothWays_L1_B (fu:Nat)  (Ac:Request) (Ae:Plan × Bool) (Ad:Plan × Bool) (Ag:(List (List Int))) (k2:Int → Int → Option (Bool)) (Aa:Int) (Ab:Int):Option (Bool) :=
  bif (decide (Ab < ((Ag.length:Int)))) then obind (d_impl_UnitsOf fu Ac Ab) fun Af=>obind (d_impl_Lower fu Ac Af) fun Ah=>k2 (w64 (Aa + Ah)) (w64 (Ab + 1)) else bif (decide (((Ae.1.fCartons.length:Int)) ≥ Aa)) then some (decide (((Ad.1.fCartons.length:Int)) ≥ Aa)) else some (false)
def d_laws_FnBothWays_L1 (fu:Nat)  (Ab:Request) (Ad:Plan × Bool) (Ac:Plan × Bool) (Aa:(List (List Int))):Nat → Int → Int → Option (Bool)
  | 0=>fun _ _=>none
  | n + 1=>d_laws_FnBothWays_L1_B fu Ab Ad Ac Aa (d_laws_FnBothWays_L1 fu Ab Ad Ac Aa n)

def d_laws_FnBothWays_J1 (fu:Nat) (Aa:Request) (Ad:Plan × Bool) (Ac:Plan × Bool)  : Option (Bool) :=
  obind (d_impl_GroupsOf fu Aa) fun Ab=>d_laws_FnBothWays_L1 fu Aa Ad Ac Ab fu 0 0

def d_laws_FnBothWays (fu:Nat) (Ad:List U8):Option (Bool) :=
  obind (d_laws_big fu Ad) fun x5=>bif x5 then some (true) else obind (d_spec_DrawPlanOf fu Ad) fun Aa=>obind (d_impl_Class fu Aa) fun Ag=>obind (d_spec_Class fu Aa) fun Ai=>bif (Ag != Ai) then some (false) else obind (d_impl_PlanOf fu Aa) fun Ac=>obind (d_impl_PlanOf fu ((⟨w64 (1 - Aa.fWay),Aa.fPallet,Aa.fClasses,Aa.fPairs,Aa.fTypes,Aa.fMaster,Aa.fItems⟩:Request))) fun Ab=>obind (d_spec_Class fu Aa) fun Aj=>bif (Aj != 0) then some (!Ac.2) else bif (!Ac.2) then some (false) else bif (!Ab.2) then some (false) else obind (d_impl_Feasible fu Aa Ac.1) fun Ah=>bif (!Ah) then some (false) else obind (d_impl_Feasible fu ((⟨w64 (1 - Aa.fWay),Aa.fPallet,Aa.fClasses,Aa.fPairs,Aa.fTypes,Aa.fMaster,Aa.fItems⟩:Request)) Ab.1) fun Ae=>bif (!Ae) then some (false) else obind (d_impl_Feasible fu Aa Ab.1) fun Af=>bif (!Af) then some (false) else d_laws_FnBothWays_J1 fu Aa Ac Ab

end Go.Proofs.YtpcmapfabndggaaGreat
