/- FnExactSqueeze: what the functions that it reaches compute,on plain data. Printed by gen.py. -/
import Derived.Test.YtkkfmjpbiimkbaaGreatExactSqueezeBD
set_option linter.unusedVariables false
namespace Go.Proofs.YtkkfmjpbiimkbaaGreat
open Go
def d_laws_FnExactSqueeze_J1 (fu:Nat) (Ak:Request) (Ae:List (List Int)) (Aj:(List (List Int))) (Ah:(List (List Int)))  : Option (Bool) :=
  obind (d_laws_markIntSS fu Ah 1) fun Aa=>obind (d_laws_heldIntSS fu Aa.2 1) fun Ab=>bif (decide (Ab < 0)) then some (false) else bif (Ab != Aa.1) then some (false) else obind (d_laws_toRequest fu Ak) fun Ai=>obind (d_laws_toIntSS fu Ae) fun Af=>obind (d_impl_Squeeze fu Ai Af) fun Ag=>obind (d_laws_eqIntSS fu Ag Aj) fun Ad=>bif (!Ad) then some (false) else obind (d_laws_heldIntSS fu Aa.2 1) fun Ac=>bif (decide (Ac < 0)) then some (false) else bif (Ac != Aa.1) then some (false) else some (true)

def d_laws_FnExactSqueeze (fu:Nat) (Ab:Request) (Aa:List (List Int)):Option (Bool) :=
  obind (d_laws_szRequest fu Ab 1048576) fun Ag=>bif (decide (Ag < 0)) then some (true) else obind (d_laws_szIntSS fu Aa Ag) fun Ah=>bif (decide (Ah < 0)) then some (true) else obind (d_laws_toRequest fu Ab) fun Ar=>obind (d_laws_toIntSS fu Aa) fun Ai=>obind (d_spec_Squeeze fu Ar Ai) fun Af=>obind (d_laws_toRequest fu Ab) fun Ae=>obind (d_laws_toIntSS fu Aa) fun Ac=>obind (d_impl_Squeeze fu Ae Ac) fun Ad=>obind (d_laws_eqIntSS fu Ad Af) fun Ap=>bif (!Ap) then some (false) else obind (d_laws_toRequest fu Ab) fun Al=>obind (d_laws_eqRequest fu Ae Al) fun Aj=>bif (!Aj) then some (false) else obind (d_laws_toIntSS fu Aa) fun Ak=>obind (d_laws_eqIntSS fu Ac Ak) fun Am=>bif (!Am) then some (false) else obind (d_laws_markRequest fu Ae 1) fun Ao=>obind (d_laws_markIntSS fu Ac Ao.1) fun Aq=>bif (decide (Aq.1 < 0)) then some (false) else obind (d_laws_eqIntSS fu Ad Af) fun As=>bif (!As) then some (false) else d_laws_FnExactSqueeze_J1 fu Ab Aa Af Ad

end Go.Proofs.YtkkfmjpbiimkbaaGreat
