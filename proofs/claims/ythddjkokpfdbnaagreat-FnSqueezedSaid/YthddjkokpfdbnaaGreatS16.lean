/- A list of the call's own, from a place on: the elements ahead of the place have been handed on. Own lemmas, over any program. -/
import Derived.Test.YthddjkokpfdbnaaGreatS11
set_option linter.unusedSimpArgs false
set_option linter.unusedVariables false
namespace Go.Proofs.YthddjkokpfdbnaaGreat
open Go Go.RowKit
open Enc (rd ow)
section
variable {α:Type} [Enc α]
def owP (w:World) (F:List Nat) (v:Value) (xs:List α) (k:Int):Prop :=
 0 ≤ k ∧ ((v = .slice none 0 0 ∧ xs = [] ∧ F = []) ∨ ∃ g off cap c e Gs,v = .slice (some ⟨g,off,none⟩) xs.length cap ∧ xs.length ≤ cap ∧ cap ≤ maxLen ∧ w.heap[g]? = some (.cells c e (0,0)) ∧
  off + cap * Enc.sz α ≤ c.size ∧ owL w Gs (((c.toList.drop off).take (xs.length * Enc.sz α)).drop (k.toNat * Enc.sz α)) (xs.drop k.toNat) ∧ F = g :: Gs.flatten ∧ F.Nodup)
theorem owP_of {w:World} {F:List Nat} {v:Value} {xs:List α} (h:ow w F [v] xs):owP w F v xs 0:=by
 refine ⟨Int.le_refl _,?_⟩
 rcases h with ⟨h1,h2,h3⟩ | ⟨g,off,cap,c,e,Gs,hv,h1,h2,h3,h4,h5,h6,h7⟩
 · exact .inl ⟨(List.cons.inj h1).1,h2,h3⟩
 · exact .inr ⟨g,off,cap,c,e,Gs,(List.cons.inj hv).1,h1,h2,h3,h4,by simpa using h5,h6,h7⟩
theorem owP_agr {u w:World} {F:List Nat} {v:Value} {xs:List α} {k:Int} (h:owP u F v xs k) (hA:Agr F u w):owP w F v xs k:=by
 obtain ⟨h0,h⟩:=h
 refine ⟨h0,?_⟩
 rcases h with h | ⟨g,off,cap,c,e,Gs,rfl,h1,h2,h3,h4,h5,rfl,h6⟩
 · exact .inl h
 · exact .inr ⟨g,off,cap,c,e,Gs,rfl,h1,h2,(hA g (by simp)).trans h3,h4,owL_agr (hA.sub (fun b hb=>List.mem_cons_of_mem _ hb)) h5,rfl,h6⟩
end
section
variable {P:Program} {ops:Array Oper} {Q:Exit → Act → World → Prop} {rest:List Oper} {o:Oper} {a:Act} {w:World} {N:Nat} {L:List (Nat × Value)}
variable {X:List Nat} {w0:World} {M:List (List Nat × World)} {d:Nat}
end
end Go.Proofs.YthddjkokpfdbnaaGreat
