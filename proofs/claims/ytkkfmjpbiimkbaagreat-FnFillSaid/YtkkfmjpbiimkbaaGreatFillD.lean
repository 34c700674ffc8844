/- FnFill: what the functions that it reaches compute,on plain data. Printed by gen.py. -/
import Derived.Test.YtkkfmjpbiimkbaaGreatFillBD
set_option linter.unusedVariables false
namespace Go.Proofs.YtkkfmjpbiimkbaaGreat
open Go
def d_laws_FnFill_J1 (fu:Nat) (k5:Int → Option (Bool)) (Aa:Int)  : Option (Bool) :=
  k5 (w64 (Aa + 1))

def d_laws_FnFill_L1_B (fu:Nat)  (Aa:Request × (List Carton)) (Ac:(List Int)) (k5:Int → Option (Bool)) (Ab:Int):Option (Bool) :=
  bif (decide (Ab < ((Aa.2.length:Int)))) then bif (((Ac.length:Int)) != ((Aa.2.length:Int))) then some (false) else obind (ix Ac Ab) fun Af=>obind (ix Aa.2 Ab) fun Ad=>obind (d_impl_Fill fu Aa.1 Ad) fun Ae=>bif (Af != Ae) then some (false) else d_laws_FnFill_J1 fu k5 Ab else some (((Ac.length:Int)) == ((Aa.2.length:Int)))
def d_laws_FnFill_L1 (fu:Nat)  (Aa:Request × (List Carton)) (Ab:(List Int)):Nat → Int → Option (Bool)
  | 0=>fun _=>none
  | n + 1=>d_laws_FnFill_L1_B fu Aa Ab (d_laws_FnFill_L1 fu Aa Ab n)

def d_laws_FnFill_J2 (fu:Nat) (Ab:List U8)  : Option (Bool) :=
  obind (d_spec_DrawFills fu Ab) fun Aa=>obind (d_impl_Fills fu Aa.1 Aa.2) fun Ac=>d_laws_FnFill_L1 fu Aa Ac fu 0

def d_laws_FnFill_J3 (fu:Nat) (Ac:List U8) (Ab:Request × Carton) (Aa:Int) (Ae:Typ × Bool)  : Option (Bool) :=
  obind (d_impl_Holds fu Ab.1 Ab.2.fUnits Ae.1) fun Ad=>bif Ad then bif (decide (Aa > 1000)) then some (false) else bif (decide (Aa < 0)) then some (false) else d_laws_FnFill_J2 fu Ac else d_laws_FnFill_J2 fu Ac

def d_laws_FnFill (fu:Nat) (Ac:List U8):Option (Bool) :=
  obind (d_laws_big fu Ac) fun x5=>bif x5 then some (true) else obind (d_spec_DrawFill fu Ac) fun Aa=>obind (d_impl_Fill fu Aa.1 Aa.2) fun Ab=>obind (d_spec_Fill fu Aa.1 Aa.2) fun Ae=>bif (Ab != Ae) then some (false) else obind (d_impl_TypeById fu Aa.1 Aa.2.fType) fun Ad=>bif (!Ad.2) then some (Ab == 0) else obind (d_spec_Class fu Aa.1) fun Af=>bif (Af != 0) then some (Ab == 0) else d_laws_FnFill_J3 fu Ac Aa Ab Ad

end Go.Proofs.YtkkfmjpbiimkbaaGreat
