/- FnRivals: what the functions that it reaches compute,on plain data. Printed by gen.py. -/
import Derived.Test.YthddjkokpfdbnaaGreatRivalsBD
set_option linter.unusedVariables false
namespace Go.Proofs.YthddjkokpfdbnaaGreat
open Go
def d_laws_FnRivals_L1_B (fu:Nat)  (Aa:Request × (List Int)) (Ab:(List (List Int))) (Ad:(List Int)) (k1:List Int → Int → Option (Bool)) (Ae:List Int) (Ac:Int):Option (Bool) :=
  bif (decide (Ac < ((Ad.length:Int)))) then obind (apnd 8 Ae (([Ac]:List Int))) fun Aj=>k1 Aj (w64 (Ac + 1)) else obind (d_impl_IsRival fu Aa.1 Ab) fun Ah=>bif Ah then obind (d_impl_OneEach fu Aa.1) fun Al=>obind (d_impl_IsRival fu Aa.1 Al) fun Ak=>bif Ak then obind (d_impl_Ours fu Aa.1) fun Af=>obind (d_impl_IsRival fu Aa.1 Af) fun Ao=>bif Ao then obind (d_impl_Ours fu Aa.1) fun Ai=>obind (d_impl_Mixes fu Aa.1 Ai) fun Ag=>bif (!Ag) then obind (d_impl_Lower fu Aa.1 Ae) fun Am=>bif (decide (((Ab.length:Int)) ≥ Am)) then some (decide (((Ab.length:Int)) ≤ ((Ad.length:Int)))) else some (false) else some (false) else some (false) else some (false) else some (false)
def d_laws_FnRivals_L1 (fu:Nat)  (Aa:Request × (List Int)) (Ab:(List (List Int))) (Ac:(List Int)):Nat → List Int → Int → Option (Bool)
  | 0=>fun _ _=>none
  | n + 1=>d_laws_FnRivals_L1_B fu Aa Ab Ac (d_laws_FnRivals_L1 fu Aa Ab Ac n)

def d_laws_FnRivals (fu:Nat) (Ac:List U8):Option (Bool) :=
  obind (d_laws_big fu Ac) fun x5=>bif x5 then some (true) else obind (d_spec_DrawRivalBy fu Ac) fun Aa=>obind (d_impl_RivalBy fu Aa.1 Aa.2) fun Ab=>obind (d_spec_RivalBy fu Aa.1 Aa.2) fun Ah=>bif (((Ab.length:Int)) != ((Ah.length:Int))) then some (false) else obind (d_spec_Class fu Aa.1) fun Ag=>bif (Ag != 0) then bif (((Ab.length:Int)) == 0) then obind (d_impl_OneEach fu Aa.1) fun Af=>bif (((Af.length:Int)) == 0) then obind (d_impl_Ours fu Aa.1) fun Ae=>some (((Ae.length:Int)) == 0) else some (false) else some (false) else obind (d_impl_Units fu Aa.1) fun Ad=>d_laws_FnRivals_L1 fu Aa Ab Ad fu (([]:List Int)) 0

end Go.Proofs.YthddjkokpfdbnaaGreat
