/- A list of the call's.. -/
import Derived.Test.YtpcmapfabndggaaGreatS11
set_option linter.unusedSimpArgs false
set_option linter.unusedVariables false
namespace Go.Proofs.YtpcmapfabndggaaGreat
open Go Go.RowKit
open Enc (rd ow)
section
variable {α:Type} [Enc α]
end
section
variable {P:Program} {ops:Array Oper} {Q:Exit → Act → World → Prop} {rest:List Oper} {o:Oper} {a:Act} {w:World} {N:Nat} {L:List (Nat × Value)}
variable {X:List Nat} {w0:World} {M:List (List Nat × World)} {d:Nat}
end
end Go.Proofs.YtpcmapfabndggaaGreat
