/- FnNoMix: what the functions that it reaches compute,on plain data. Printed by gen.py. -/
import Derived.Test.YtkkfmjpbiimkbaaGreatNoMixBD
set_option linter.unusedVariables false
namespace Go.Proofs.YtkkfmjpbiimkbaaGreat
open Go
def d_laws_FnNoMix_J1 (fu:Nat) (Aa:Request × (List (List Int))) (Ai:Bool)  : Option (Bool) :=
  obind (d_spec_IsRival fu Aa.1 Aa.2) fun Ac=>bif (!Ac) then obind (d_impl_Present fu Aa.1) fun Ah=>obind (d_impl_Transitive fu Aa.1.fPairs Ah) fun Ab=>obind (d_spec_Present fu Aa.1) fun Am=>obind (d_spec_Transitive fu Aa.1.fPairs Am) fun Ag=>some (Ab == Ag) else obind (d_impl_Present fu Aa.1) fun Ae=>obind (d_impl_Transitive fu Aa.1.fPairs Ae) fun Ak=>bif (!Ak) then obind (d_impl_Present fu Aa.1) fun Aj=>obind (d_impl_Transitive fu Aa.1.fPairs Aj) fun Al=>obind (d_spec_Present fu Aa.1) fun Ad=>obind (d_spec_Transitive fu Aa.1.fPairs Ad) fun Af=>some (Al == Af) else some (!Ai)

def d_laws_FnNoMix (fu:Nat) (Ab:List U8):Option (Bool) :=
  obind (d_laws_big fu Ab) fun x5=>bif x5 then some (true) else obind (d_spec_DrawMixes fu Ab) fun Aa=>obind (d_impl_Mixes fu Aa.1 Aa.2) fun Ac=>obind (d_spec_Mixes fu Aa.1 Aa.2) fun Ae=>bif (!(Ac == Ae)) then some (false) else obind (d_impl_IsRival fu Aa.1 Aa.2) fun Af=>obind (d_spec_IsRival fu Aa.1 Aa.2) fun Ad=>bif (!(Af == Ad)) then some (false) else d_laws_FnNoMix_J1 fu Aa Ac

end Go.Proofs.YtkkfmjpbiimkbaaGreat
