/- Regions that draw their order, where one operation waits for all others: what is held is asked ahead of it alone. Own lemmas, over any program. -/
import Derived.Test.YtkkfmjpbiimkbaaGreatS16
set_option linter.unusedSimpArgs false
set_option linter.unusedVariables false
namespace Go.Proofs.YtkkfmjpbiimkbaaGreat
open Go Go.RowKit
open Enc (rd ow)
section
variable {P:Program} {ops:Array Oper} {Q:Exit → Act → World → Prop} {rest:List Oper} {o:Oper} {a:Act} {w:World} {N:Nat} {L:List (Nat × Value)}
variable {X:List Nat} {w0:World} {M:List (List Nat × World)} {d:Nat} {S:World → Prop} {fuel:Nat} {listed:Array Bool} {z:Nat}
end
end Go.Proofs.YtkkfmjpbiimkbaaGreat
