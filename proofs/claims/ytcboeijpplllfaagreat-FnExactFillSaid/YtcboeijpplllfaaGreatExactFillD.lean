/- FnExactFill: what the functions that it reaches compute,on plain data. Printed by gen.py. -/
import Derived.Test.YtcboeijpplllfaaGreatExactFillBD
set_option linter.unusedVariables false
namespace Go.Proofs.YtcboeijpplllfaaGreat
open Go
def d_laws_FnExactFill (fu:Nat) (Ab:Request) (Aa:Carton):Option (Bool) :=
  obind (d_laws_szRequest fu Ab 1048576) fun Ac=>bif (decide (Ac < 0)) then some (true) else obind (d_laws_szCarton fu Aa Ac) fun Ao=>bif (decide (Ao < 0)) then some (true) else obind (d_laws_toRequest fu Ab) fun Ah=>obind (d_laws_toCarton fu Aa) fun Ag=>obind (d_spec_Fill fu Ah Ag) fun Al=>obind (d_laws_toRequest fu Ab) fun Ae=>obind (d_laws_toCarton fu Aa) fun Ad=>obind (d_impl_Fill fu Ae Ad) fun Aj=>bif (Aj != Al) then some (false) else obind (d_laws_toRequest fu Ab) fun Am=>obind (d_laws_eqRequest fu Ae Am) fun Af=>bif (!Af) then some (false) else obind (d_laws_toCarton fu Aa) fun Ak=>obind (d_laws_eqCarton fu Ad Ak) fun Ai=>bif (!Ai) then some (false) else some (true)

end Go.Proofs.YtcboeijpplllfaaGreat
