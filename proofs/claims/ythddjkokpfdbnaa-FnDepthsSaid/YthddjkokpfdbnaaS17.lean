/- Regions that draw their order, where one operation waits for all others: what is held is asked ahead of it alone. Own lemmas, over any program. -/
import Derived.Test.YthddjkokpfdbnaaS16
set_option linter.unusedSimpArgs false
set_option linter.unusedVariables false
namespace Go.Proofs.Ythddjkokpfdbnaa
open Go Go.RowKit
open Enc (rd ow)
section
variable {P:Program} {ops:Array Oper} {Q:Exit → Act → World → Prop} {rest:List Oper} {o:Oper} {a:Act} {w:World} {N:Nat} {L:List (Nat × Value)}
variable {X:List Nat} {w0:World} {M:List (List Nat × World)} {d:Nat} {S:World → Prop} {fuel:Nat} {listed:Array Bool} {z:Nat}
theorem nd_new {F G:List Nat} {n:Nat} (hF:F.Nodup) (hG:G.Nodup) (h1:∀ b ∈ F,b < n) (h2:∀ b ∈ G,n ≤ b):(F ++ G).Nodup :=
 List.nodup_append.2 ⟨hF,hG,fun a ha b hb e=>by have:=h1 a ha; have:=h2 b hb; omega⟩
end
end Go.Proofs.Ythddjkokpfdbnaa
