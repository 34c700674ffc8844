/- Regions that draw their order, where one operation waits for all others: what is held is asked ahead of it alone. Own lemmas, over any program. -/
import Derived.Test.YtcboeijpplllfaaGreatS16
set_option linter.unusedSimpArgs false
set_option linter.unusedVariables false
namespace Go.Proofs.YtcboeijpplllfaaGreat
open Go Go.RowKit
open Enc (rd ow)
section
variable {P:Program} {ops:Array Oper} {Q:Exit → Act → World → Prop} {rest:List Oper} {o:Oper} {a:Act} {w:World} {N:Nat} {L:List (Nat × Value)}
variable {X:List Nat} {w0:World} {M:List (List Nat × World)} {d:Nat} {S:World → Prop} {fuel:Nat} {listed:Array Bool} {z:Nat}
def anyQ (P:Program) (ops:Array Oper) (Q:Exit → Act → World → Prop) (S:World → Prop) (z:Nat):Nat → Array Bool → Act → World → Prop
 | 0,l,a,w=>Region.ready .any ops l = [] ∧ Q .normal a w
 | n + 1,l,a,w=>(Region.ready .any ops l = [] → Q .normal a w) ∧
  ∀ i ∈ Region.ready .any ops l,wpOp P ops Q i (fun a' w'=>(i ≠ z → S w') ∧ anyQ P ops Q S z n (l.setIfInBounds i true) a' w') a w
end
end Go.Proofs.YtcboeijpplllfaaGreat
