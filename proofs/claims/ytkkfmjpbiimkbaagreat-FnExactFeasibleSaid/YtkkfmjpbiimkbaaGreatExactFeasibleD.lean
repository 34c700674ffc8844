/- FnExactFeasible: what the functions that it reaches compute,on plain data. Printed by gen.py. -/
import Derived.Test.YtkkfmjpbiimkbaaGreatExactFeasibleBD
set_option linter.unusedVariables false
namespace Go.Proofs.YtkkfmjpbiimkbaaGreat
open Go
def d_laws_FnExactFeasible (fu:Nat) (Aa:Request) (Ab:Plan):Option (Bool) :=
  obind (d_laws_szRequest fu Aa 1048576) fun Ac=>bif (decide (Ac < 0)) then some (true) else obind (d_laws_szPlan fu Ab Ac) fun Aj=>bif (decide (Aj < 0)) then some (true) else obind (d_laws_toRequest fu Aa) fun Af=>obind (d_laws_toPlan fu Ab) fun Ai=>obind (d_spec_Feasible fu Af Ai) fun Ah=>obind (d_laws_toRequest fu Aa) fun Ad=>obind (d_laws_toPlan fu Ab) fun Ae=>obind (d_impl_Feasible fu Ad Ae) fun Al=>bif (!(Al == Ah)) then some (false) else obind (d_laws_toRequest fu Aa) fun Ao=>obind (d_laws_eqRequest fu Ad Ao) fun Ag=>bif (!Ag) then some (false) else obind (d_laws_toPlan fu Ab) fun Ak=>obind (d_laws_eqPlan fu Ae Ak) fun Am=>bif (!Am) then some (false) else some (true)

end Go.Proofs.YtkkfmjpbiimkbaaGreat
