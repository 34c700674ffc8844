/- FnMirrored: what the.. -/
import Derived.Test.YthddjkokpfdbnaaGreatMirroredBD
set_option linter.unusedVariables false
namespace Go.Proofs.YthddjkokpfdbnaaGreat
open Go
def Qjo (fu:Nat) (Aa:Request × Plan) (Ac:Plan) (Ab:Plan)  : Option (Bool) :=
  Qac (Qhp fu Aa.1 Aa.2) fun Ag=>bif (!Ag) then Qac (Qdx fu Ac Aa.2) fun Ah=>bif Ah then Qac (Qdx fu Ab Aa.2) fun Ai=>some (Ai) else some (false) else Qac (Qh0 fu Aa.1 Ac) fun Ae=>bif Ae then Qac (Qh0 fu Aa.1 Ab) fun Al=>bif Al then Qac (Qhs fu Aa.1 Ac) fun Aj=>Qac (Qdx fu Aj Aa.2) fun Ad=>bif Ad then Qac (Qoh fu Aa.1 Ab) fun Ao=>Qac (Qdx fu Ao Aa.2) fun Ak=>bif Ak then Qac (Qoh fu Aa.1 Ac) fun Ap=>Qac (Qhs fu Aa.1 Ab) fun Am=>Qac (Qdx fu Ap Am) fun Af=>some (Af) else some (false) else some (false) else some (false) else some (false)
def Qos (fu:Nat) (Ac:List U8):Option (Bool) :=
  Qac (Quw fu Ac) fun x5=>bif x5 then some (true) else Qac (Qlc fu Ac) fun Aa=>Qac (Qhs fu Aa.1 Aa.2) fun Ad=>Qac (Qoh fu Aa.1 Aa.2) fun Ab=>Qac (Qny fu Aa.1 Aa.2) fun Ag=>Qac (Qdx fu Ad Ag) fun Ae=>bif (!Ae) then some (false) else Qac (Qsq fu Aa.1 Aa.2) fun Ah=>Qac (Qdx fu Ab Ah) fun Af=>bif (!Af) then some (false) else Qjo fu Aa Ad Ab
end Go.Proofs.YthddjkokpfdbnaaGreat
