/- FnExactOneEach: what the functions that it reaches compute,on plain data. Printed by gen.py. -/
import Derived.Test.YtcboeijpplllfaaGreatExactOneEachBD
set_option linter.unusedVariables false
namespace Go.Proofs.YtcboeijpplllfaaGreat
open Go
def d_laws_FnExactOneEach_J1 (fu:Nat) (Af:Request) (Ah:(List (List Int))) (Ae:(List (List Int)))  : Option (Bool) :=
  obind (d_laws_markIntSS fu Ae 1) fun Aa=>obind (d_laws_heldIntSS fu Aa.2 1) fun Ab=>bif (decide (Ab < 0)) then some (false) else bif (Ab != Aa.1) then some (false) else obind (d_laws_toRequest fu Af) fun Ag=>obind (d_impl_OneEach fu Ag) fun Ai=>obind (d_laws_eqIntSS fu Ai Ah) fun Ad=>bif (!Ad) then some (false) else obind (d_laws_heldIntSS fu Aa.2 1) fun Ac=>bif (decide (Ac < 0)) then some (false) else bif (Ac != Aa.1) then some (false) else some (true)

def d_laws_FnExactOneEach (fu:Nat) (Aa:Request):Option (Bool) :=
  obind (d_laws_szRequest fu Aa 1048576) fun Ag=>bif (decide (Ag < 0)) then some (true) else obind (d_laws_toRequest fu Aa) fun Ak=>obind (d_spec_OneEach fu Ak) fun Ad=>obind (d_laws_toRequest fu Aa) fun Ab=>obind (d_impl_OneEach fu Ab) fun Ac=>obind (d_laws_eqIntSS fu Ac Ad) fun Af=>bif (!Af) then some (false) else obind (d_laws_toRequest fu Aa) fun Aj=>obind (d_laws_eqRequest fu Ab Aj) fun Ah=>bif (!Ah) then some (false) else obind (d_laws_markRequest fu Ab 1) fun Ae=>bif (decide (Ae.1 < 0)) then some (false) else obind (d_laws_eqIntSS fu Ac Ad) fun Ai=>bif (!Ai) then some (false) else d_laws_FnExactOneEach_J1 fu Aa Ad Ac

end Go.Proofs.YtcboeijpplllfaaGreat
