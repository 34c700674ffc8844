/- FnExactCountIn: what the functions that it reaches compute,on plain data. Printed by gen.py. -/
import Derived.Test.YtkkfmjpbiimkbaaGreatExactCountInBD
set_option linter.unusedVariables false
namespace Go.Proofs.YtkkfmjpbiimkbaaGreat
open Go
def d_laws_FnExactCountIn (fu:Nat) (Aa:Request) (Ac:Int):Option (Bool) :=
  obind (d_laws_szRequest fu Aa 1048576) fun Ad=>bif (decide (Ad < 0)) then some (true) else obind (d_laws_toRequest fu Aa) fun Ai=>obind (d_spec_CountIn fu Ai Ac) fun Af=>obind (d_laws_toRequest fu Aa) fun Ab=>obind (d_impl_CountIn fu Ab Ac) fun Ag=>bif (Ag != Af) then some (false) else obind (d_laws_toRequest fu Aa) fun Ae=>obind (d_laws_eqRequest fu Ab Ae) fun Ah=>bif (!Ah) then some (false) else some (true)

end Go.Proofs.YtkkfmjpbiimkbaaGreat
