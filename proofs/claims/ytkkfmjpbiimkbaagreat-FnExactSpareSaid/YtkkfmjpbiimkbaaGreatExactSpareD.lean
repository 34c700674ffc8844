/- FnExactSpare: what the functions that it reaches compute,on plain data. Printed by gen.py. -/
import Derived.Test.YtkkfmjpbiimkbaaGreatExactSqueezeBD
set_option linter.unusedVariables false
namespace Go.Proofs.YtkkfmjpbiimkbaaGreat
open Go
def d_spec_Spare (fu:Nat) (r1:Request) (Aa:List (List Int)):Option (Int) :=
  obind (d_spec_IsRival fu r1 Aa) fun Ac=>bif (!Ac) then some (0) else obind (d_spec_Squeeze fu r1 Aa) fun Ab=>some (w64 (((Aa.length:Int)) - ((Ab.length:Int))))

def d_impl_Spare (fu:Nat) (r1:Request) (Aa:List (List Int)):Option (Int) :=
  obind (d_impl_IsRival fu r1 Aa) fun Ac=>bif (!Ac) then some (0) else obind (d_impl_Squeeze fu r1 Aa) fun Ab=>some (w64 (((Aa.length:Int)) - ((Ab.length:Int))))

def d_laws_FnExactSpare (fu:Nat) (Aa:Request) (Ab:List (List Int)):Option (Bool) :=
  obind (d_laws_szRequest fu Aa 1048576) fun Ad=>bif (decide (Ad < 0)) then some (true) else obind (d_laws_szIntSS fu Ab Ad) fun Ao=>bif (decide (Ao < 0)) then some (true) else obind (d_laws_toRequest fu Aa) fun Ag=>obind (d_laws_toIntSS fu Ab) fun Ai=>obind (d_spec_Spare fu Ag Ai) fun Ak=>obind (d_laws_toRequest fu Aa) fun Ae=>obind (d_laws_toIntSS fu Ab) fun Ac=>obind (d_impl_Spare fu Ae Ac) fun Aj=>bif (Aj != Ak) then some (false) else obind (d_laws_toRequest fu Aa) fun Am=>obind (d_laws_eqRequest fu Ae Am) fun Al=>bif (!Al) then some (false) else obind (d_laws_toIntSS fu Ab) fun Af=>obind (d_laws_eqIntSS fu Ac Af) fun Ah=>bif (!Ah) then some (false) else some (true)

end Go.Proofs.YtkkfmjpbiimkbaaGreat
