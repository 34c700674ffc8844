/- Plain lemmas on the combinators that the printed data-level functions are made of. Own lemmas; no program in sight. -/
import Derived.Test.YtcboeijpplllfaaGreatS7
set_option linter.unusedSimpArgs false
set_option linter.unusedVariables false
namespace Go.Proofs.YtcboeijpplllfaaGreat
open Go
open Enc (rd ow)
open Arg (argv)
open Ret (retv)
open Wf (wf)
@[simp] theorem ob_some {α β:Type} (x:α) (k:α → Option β):obind (some x) k = k x:=rfl
@[simp] theorem ob_none {α β:Type} (k:α → Option β):obind none k = none:=rfl
theorem w64_id {n:Int} (h1:-9223372036854775808 ≤ n) (h2:n ≤ 9223372036854775807):w64 n = n:=by
 simp only [w64,IntKind.wrap_i64]; omega
theorem ix_nat {α:Type} (l:List α) (i:Nat):ix l (i:Int) = l[i]?:=by simp [ix]
theorem mk_some {α:Type} {bytes:Nat} {z:α} {n:Nat} (h:bytes * n ≤ 140737488355328):mk bytes z (n:Int) = some (List.replicate n z):=by
 unfold mk
 have h':(bytes:Int) * (n:Int) ≤ 140737488355328:=by rw [← Int.natCast_mul]; omega
 rw [if_pos ⟨Int.natCast_nonneg n,h'⟩,Int.toNat_natCast]
theorem bif_true {α:Type} {c:Bool} (h:c = true) (a b:α):(bif c then a else b) = a:=by rw [h]; rfl
theorem bif_false {α:Type} {c:Bool} (h:c = false) (a b:α):(bif c then a else b) = b:=by rw [h]; rfl
end Go.Proofs.YtcboeijpplllfaaGreat
