/- FnPromise: what the functions that it reaches compute,on plain data. Printed by gen.py. -/
import Derived.Test.YthddjkokpfdbnaaGreatPromiseBD
set_option linter.unusedVariables false
namespace Go.Proofs.YthddjkokpfdbnaaGreat
open Go
def d_laws_FnPromise_J1 (fu:Nat) (Ac:Int → Int → Option (Bool)) (Aa:Int) (Ab:Int):Option (Bool) :=
  Ac Ab (w64 (Aa + 1))

def d_laws_FnPromise_J2 (fu:Nat) (Ad:Int → Int → Option (Bool)) (Ac:Int) (Aa:Int) (Ab:Int)  : Option (Bool) :=
  d_laws_FnPromise_J1 fu Ad Aa (w64 (Ac + Ab))

def d_laws_FnPromise_J3 (fu:Nat) (Ae:Int → Int → Option (Bool)) (Af:Request × (List (List Int))) (Ag:Bool) (Ad:Int) (Ac:Int) (Aa:Int) (Ab:Int)  : Option (Bool) :=
  bif Ag then obind (d_impl_Promise fu Af.1 Ac Ab) fun Ah=>bif (decide (Aa > Ah)) then some (false) else bif (decide (Aa < 1)) then some (false) else bif (decide (Ab < 1)) then some (false) else bif (decide (Aa > (w64 ((w64 (4 * Ab)) - 1)))) then some (false) else d_laws_FnPromise_J2 fu Ae Ad Ac Aa else d_laws_FnPromise_J2 fu Ae Ad Ac Aa

def d_laws_FnPromise_L1_B (fu:Nat)  (Aa:Request × (List (List Int))) (Ag:Bool) (Ac:(List (List Int))) (Aq:Int → Int → Option (Bool)) (Ab:Int) (Ad:Int):Option (Bool) :=
  bif (decide (Ad < ((Ac.length:Int)))) then obind (d_impl_CountIn fu Aa.1 Ad) fun Af=>obind (d_impl_Touching fu Aa.1 Aa.2 Ad) fun Ae=>obind (d_spec_Touching fu Aa.1 Aa.2 Ad) fun Ao=>bif (Ae != Ao) then some (false) else obind (d_spec_CountIn fu Aa.1 Ad) fun Ak=>bif (Af != Ak) then some (false) else d_laws_FnPromise_J3 fu Aq Aa Ag Ab Ad Af Ae else bif (!Ag) then obind (d_spec_Class fu Aa.1) fun Ap=>bif (Ap != 0) then some (true) else obind (d_impl_CartonsOf fu Aa.1) fun Ah=>some (Ab == ((Ah.length:Int))) else obind (d_impl_CartonsOf fu Aa.1) fun Ai=>bif (Ab == ((Ai.length:Int))) then bif (((Aa.2.length:Int)) == 0) then bif (Ab == 0) then obind (d_impl_Mixes fu Aa.1 Aa.2) fun Al=>bif Al then some (true) else bif (decide (Ab ≤ (w64 ((w64 (4 * ((Aa.2.length:Int)))) - ((Ac.length:Int)))))) then some (true) else some (((Aa.2.length:Int)) == 0) else bif (decide (Ab ≤ (w64 (((Ac.length:Int)) * (w64 ((w64 (4 * ((Aa.2.length:Int)))) - 1)))))) then obind (d_impl_Mixes fu Aa.1 Aa.2) fun Aj=>bif Aj then some (true) else bif (decide (Ab ≤ (w64 ((w64 (4 * ((Aa.2.length:Int)))) - ((Ac.length:Int)))))) then some (true) else some (((Aa.2.length:Int)) == 0) else some (false) else bif (decide (Ab ≤ (w64 (((Ac.length:Int)) * (w64 ((w64 (4 * ((Aa.2.length:Int)))) - 1)))))) then obind (d_impl_Mixes fu Aa.1 Aa.2) fun Am=>bif Am then some (true) else bif (decide (Ab ≤ (w64 ((w64 (4 * ((Aa.2.length:Int)))) - ((Ac.length:Int)))))) then some (true) else some (((Aa.2.length:Int)) == 0) else some (false) else some (false)
def d_laws_FnPromise_L1 (fu:Nat)  (Ab:Request × (List (List Int))) (Aa:Bool) (Ac:(List (List Int))):Nat → Int → Int → Option (Bool)
  | 0=>fun _ _=>none
  | n + 1=>d_laws_FnPromise_L1_B fu Ab Aa Ac (d_laws_FnPromise_L1 fu Ab Aa Ac n)

def d_laws_FnPromise (fu:Nat) (Ab:List U8):Option (Bool) :=
  obind (d_laws_big fu Ab) fun x5=>bif x5 then some (true) else obind (d_spec_DrawIsRival fu Ab) fun Aa=>obind (d_impl_IsRival fu Aa.1 Aa.2) fun Ac=>obind (d_spec_IsRival fu Aa.1 Aa.2) fun Ae=>bif (!(Ac == Ae)) then some (false) else obind (d_impl_GroupsOf fu Aa.1) fun Ad=>d_laws_FnPromise_L1 fu Aa Ac Ad fu 0 0

end Go.Proofs.YthddjkokpfdbnaaGreat
