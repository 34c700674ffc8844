/- FnSlackTotal: what the functions that it reaches compute,on plain data. Printed by gen.py. -/
import Derived.Test.YthddjkokpfdbnaaGreatSlackTotalBD
set_option linter.unusedVariables false
namespace Go.Proofs.YthddjkokpfdbnaaGreat
open Go
def d_laws_FnSlackTotal_J1 (fu:Nat) (k7:Bool → Int → Option (Bool)) (Ab:Int) (Aa:Bool):Option (Bool) :=
  k7 Aa (w64 (Ab + 1))

def d_laws_FnSlackTotal_J2 (fu:Nat) (k7:Bool → Int → Option (Bool)) (Aa:Request × (List (List Int))) (Ab:Int) (Ad:Bool):Option (Bool) :=
  obind (d_impl_Touching fu Aa.1 Aa.2 Ab) fun Ac=>obind (d_impl_Promise fu Aa.1 Ab Ac) fun Ae=>obind (d_spec_Promise fu Aa.1 Ab Ac) fun Af=>bif (Ae != Af) then some (false) else d_laws_FnSlackTotal_J1 fu k7 Ab Ad

def d_laws_FnSlackTotal_J3 (fu:Nat) (Aa:Request × (List (List Int))) (Ac:(List (List Int)))  : Option (Bool) :=
  obind (d_impl_CartonsOf fu Aa.1) fun Ab=>bif (Aa.1.fWay == 0) then some (decide ((w64 (2 * ((Ab.length:Int)))) ≤ (w64 (3 * ((Aa.2.length:Int)))))) else some (decide (((Ab.length:Int)) ≤ (w64 ((w64 (2 * ((Aa.2.length:Int)))) - ((Ac.length:Int))))))

def d_laws_FnSlackTotal_L1_B (fu:Nat)  (Aa:Request × (List (List Int))) (Ae:Bool) (Ab:(List (List Int))) (k7:Bool → Int → Option (Bool)) (Ad:Bool) (Ac:Int):Option (Bool) :=
  bif (decide (Ac < ((Ab.length:Int)))) then bif Ad then obind (d_impl_SlackGram fu Aa.1 Ac) fun Ai=>d_laws_FnSlackTotal_J2 fu k7 Aa Ac Ai else d_laws_FnSlackTotal_J2 fu k7 Aa Ac false else bif (!Ae) then obind (d_spec_GroupsOf fu Aa.1) fun Af=>some (((Ab.length:Int)) == ((Af.length:Int))) else bif (!Ad) then obind (d_spec_GroupsOf fu Aa.1) fun Ag=>some (((Ab.length:Int)) == ((Ag.length:Int))) else obind (d_impl_Mixes fu Aa.1 Aa.2) fun Ah=>bif Ah then obind (d_spec_GroupsOf fu Aa.1) fun Aj=>some (((Ab.length:Int)) == ((Aj.length:Int))) else d_laws_FnSlackTotal_J3 fu Aa Ab
def d_laws_FnSlackTotal_L1 (fu:Nat)  (Aa:Request × (List (List Int))) (Ab:Bool) (Ac:(List (List Int))):Nat → Bool → Int → Option (Bool)
  | 0=>fun _ _=>none
  | n + 1=>d_laws_FnSlackTotal_L1_B fu Aa Ab Ac (d_laws_FnSlackTotal_L1 fu Aa Ab Ac n)

def d_laws_FnSlackTotal (fu:Nat) (Ac:List U8):Option (Bool) :=
  obind (d_laws_big fu Ac) fun x5=>bif x5 then some (true) else obind (d_spec_DrawIsRival fu Ac) fun Aa=>obind (d_impl_IsRival fu Aa.1 Aa.2) fun Ab=>obind (d_spec_IsRival fu Aa.1 Aa.2) fun Ad=>bif (!(Ab == Ad)) then some (false) else obind (d_impl_GroupsOf fu Aa.1) fun Ae=>d_laws_FnSlackTotal_L1 fu Aa Ab Ae fu true 0

end Go.Proofs.YthddjkokpfdbnaaGreat
