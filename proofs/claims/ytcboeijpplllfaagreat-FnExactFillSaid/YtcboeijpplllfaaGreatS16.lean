/- A list of the call's own, from a place on: the elements ahead of the place have been handed on. Own lemmas, over any program. -/
import Derived.Test.YtcboeijpplllfaaGreatS11
set_option linter.unusedSimpArgs false
set_option linter.unusedVariables false
namespace Go.Proofs.YtcboeijpplllfaaGreat
open Go Go.RowKit
open Enc (rd ow)
section
variable {α:Type} [Enc α]
end
section
variable {P:Program} {ops:Array Oper} {Q:Exit → Act → World → Prop} {rest:List Oper} {o:Oper} {a:Act} {w:World} {N:Nat} {L:List (Nat × Value)}
variable {X:List Nat} {w0:World} {M:List (List Nat × World)} {d:Nat}
end
end Go.Proofs.YtcboeijpplllfaaGreat
