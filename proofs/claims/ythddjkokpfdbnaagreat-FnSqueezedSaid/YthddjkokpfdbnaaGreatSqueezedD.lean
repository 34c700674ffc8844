/- FnSqueezed: what the functions that it reaches compute,on plain data. Printed by gen.py. -/
import Derived.Test.YthddjkokpfdbnaaGreatSqueezedBD
set_option linter.unusedVariables false
namespace Go.Proofs.YthddjkokpfdbnaaGreat
open Go
def d_laws_FnSqueezed_L1_B (fu:Nat)  (Aa:Request × (List (List Int))) (Ab:(List (List Int))) (Ag:(List Int)) (k2:List Int → Int → Option (Bool)) (Ad:List Int) (Ac:Int):Option (Bool) :=
  bif (decide (Ac < ((Ag.length:Int)))) then obind (apnd 8 Ad (([Ac]:List Int))) fun Ah=>k2 Ah (w64 (Ac + 1)) else obind (d_impl_IsRival fu Aa.1 Ab) fun Ai=>bif Ai then bif (decide (((Ab.length:Int)) ≤ ((Aa.2.length:Int)))) then obind (d_impl_Spare fu Aa.1 Aa.2) fun Ae=>bif (Ae == (w64 (((Aa.2.length:Int)) - ((Ab.length:Int))))) then obind (d_impl_Lower fu Aa.1 Ad) fun Af=>some (decide (((Ab.length:Int)) ≥ Af)) else some (false) else some (false) else some (false)
def d_laws_FnSqueezed_L1 (fu:Nat)  (Ab:Request × (List (List Int))) (Aa:(List (List Int))) (Ac:(List Int)):Nat → List Int → Int → Option (Bool)
  | 0=>fun _ _=>none
  | n + 1=>d_laws_FnSqueezed_L1_B fu Ab Aa Ac (d_laws_FnSqueezed_L1 fu Ab Aa Ac n)

def d_laws_FnSqueezed_J1 (fu:Nat) (Aa:Request × (List (List Int))) (Ab:(List (List Int)))  : Option (Bool) :=
  obind (d_spec_IsRival fu Aa.1 Aa.2) fun Ae=>bif (!Ae) then bif (((Ab.length:Int)) == 0) then obind (d_impl_Spare fu Aa.1 Aa.2) fun Ac=>some (Ac == 0) else some (false) else obind (d_impl_Units fu Aa.1) fun Ad=>d_laws_FnSqueezed_L1 fu Aa Ab Ad fu (([]:List Int)) 0

def d_laws_FnSqueezed (fu:Nat) (Ab:List U8):Option (Bool) :=
  obind (d_laws_big fu Ab) fun x5=>bif x5 then some (true) else obind (d_spec_DrawSqueeze fu Ab) fun Aa=>obind (d_impl_Squeeze fu Aa.1 Aa.2) fun Ac=>obind (d_spec_Squeeze fu Aa.1 Aa.2) fun Ae=>bif (((Ac.length:Int)) != ((Ae.length:Int))) then some (false) else obind (d_impl_Spare fu Aa.1 Aa.2) fun Ad=>obind (d_spec_Spare fu Aa.1 Aa.2) fun Af=>bif (Ad != Af) then some (false) else d_laws_FnSqueezed_J1 fu Aa Ac

end Go.Proofs.YthddjkokpfdbnaaGreat
