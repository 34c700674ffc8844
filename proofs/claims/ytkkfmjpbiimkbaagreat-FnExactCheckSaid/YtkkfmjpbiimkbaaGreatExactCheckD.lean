/- FnExactCheck: what the functions that it reaches compute,on plain data. Printed by gen.py. -/
import Derived.Test.YtkkfmjpbiimkbaaGreatExactFeasibleBD
set_option linter.unusedVariables false
namespace Go.Proofs.YtkkfmjpbiimkbaaGreat
open Go
def d_laws_FnExactCheck (fu:Nat) (Aa:Request) (Ab:Plan):Option (Bool) :=
  obind (d_laws_szRequest fu Aa 1048576) fun Ae=>bif (decide (Ae < 0)) then some (true) else obind (d_laws_szPlan fu Ab Ae) fun Aj=>bif (decide (Aj < 0)) then some (true) else obind (d_laws_toRequest fu Aa) fun Ao=>obind (d_laws_toPlan fu Ab) fun Af=>obind (d_spec_Check fu Ao Af) fun Am=>obind (d_laws_toRequest fu Aa) fun Ac=>obind (d_laws_toPlan fu Ab) fun Ad=>obind (d_impl_Check fu Ac Ad) fun Ak=>bif (Ak != Am) then some (false) else obind (d_laws_toRequest fu Aa) fun Ai=>obind (d_laws_eqRequest fu Ac Ai) fun Al=>bif (!Al) then some (false) else obind (d_laws_toPlan fu Ab) fun Ah=>obind (d_laws_eqPlan fu Ad Ah) fun Ag=>bif (!Ag) then some (false) else some (true)

end Go.Proofs.YtkkfmjpbiimkbaaGreat
