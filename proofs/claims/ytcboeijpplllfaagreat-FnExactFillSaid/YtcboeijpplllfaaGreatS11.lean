/- An element of a nested list of the call's own, taken out and put back; stores into it. Own lemmas, over any program. -/
import Derived.Test.YtcboeijpplllfaaGreatS10
set_option linter.unusedSimpArgs false
set_option linter.unusedVariables false
namespace Go.Proofs.YtcboeijpplllfaaGreat
open Go Go.RowKit
open Enc (rd ow)
open Arg (argv)
open Ret (retv)
section
variable {α:Type} [Enc α]
omit [Enc α] in
end
section
variable {P:Program} {ops:Array Oper} {Q:Exit → Act → World → Prop} {rest:List Oper} {o:Oper} {a:Act} {w:World} {N:Nat} {L:List (Nat × Value)}
variable {X:List Nat} {w0:World} {M:List (List Nat × World)} {d:Nat}
theorem St.part {F A B:List Nat} {u:World} (h:St X w0 w ((F,u) :: M)) (hp:F.Perm (A ++ B)):St X w0 w ((A,w) :: (B,w) :: M):=by
 have e:(fps ((F,u) :: M)).Perm (fps ((A,w) :: (B,w) :: M)):=by
  simp only [fps,List.flatMap_cons]
  rw [← List.append_assoc]
  exact hp.append_right _
 refine ⟨h.ext,?_,fun b hb=>h.lt b (e.mem_iff.2 hb),fun b hb=>h.lo b (e.mem_iff.2 hb),e.nodup_iff.1 h.nd⟩
 intro p hq
 simp only [List.mem_cons] at hq
 rcases hq with rfl | rfl | hq
 · exact Agr.refl _ _
 · exact Agr.refl _ _
 · exact h.ok p (by simp [hq])
theorem St.whole {F A B:List Nat} {u v:World} (h:St X w0 w ((A,u) :: (B,v) :: M)) (hp:F.Perm (A ++ B)):St X w0 w ((F,w) :: M):=by
 have h1:=h.join2
 have e:(fps ((A ++ B,w) :: M)).Perm (fps ((F,w) :: M)):=by
  simp only [fps,List.flatMap_cons]
  exact hp.symm.append_right _
 refine ⟨h1.ext,?_,fun b hb=>h1.lt b (e.mem_iff.2 hb),fun b hb=>h1.lo b (e.mem_iff.2 hb),e.nodup_iff.1 h1.nd⟩
 intro p hq
 simp only [List.mem_cons] at hq
 rcases hq with rfl | hq
 · exact Agr.refl _ _
 · exact h1.ok p (by simp [hq])
end
end Go.Proofs.YtcboeijpplllfaaGreat
