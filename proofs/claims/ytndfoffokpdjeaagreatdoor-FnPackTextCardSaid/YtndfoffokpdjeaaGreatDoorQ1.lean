/- Plain lemmas on the .. -/
import Derived.Test.YtndfoffokpdjeaaGreatDoorS7
set_option linter.unusedSimpArgs false
set_option linter.unusedVariables false
namespace Go.Proofs.YtndfoffokpdjeaaGreatDoor
open Go
open Enc (rd ow)
open Arg (argv)
open Ret (retv)
open Wf (wf)
@[simp] theorem Qaa {α β:Type} (x:α) (k:α→Option β):Qab (some x) k=k x:=rfl
@[simp] theorem Jmj {α β:Type} (k:α→Option β):Qab none k=none:=rfl
theorem Jfy {α β:Type} {m:Option α} {x:α} {k:α→Option β} (h:m=some x):Qab m k=k x:=by rw [h]; rfl
theorem Qam {n:Int} (h1:-9223372036854775808≤n) (h2:n≤9223372036854775807):w64 n=n:=by
 simp only [w64,IntKind.wrap_i64]; omega
theorem Qh2 {α:Type} (l:List α) (i:Nat):ix l (i:Int)=l[i]?:=by simp [ix]
theorem Jgq {α:Type} {l:List α} {i:Nat} {x:α} (h:l[i]? = some x):ix l (i:Int)=some x:=by rw [Qh2,h]
theorem Jae {α:Type} {bytes:Nat} {z:α} {n:Nat} (h:bytes*n≤140737488355328):mk bytes z (n:Int)=some (List.replicate n z):=by
 unfold mk
 have h':(bytes:Int)*(n:Int)≤140737488355328:=by rw [← Int.natCast_mul]; omega
 rw [if_pos ⟨Int.natCast_nonneg n,h'⟩,Int.toNat_natCast]
theorem Qao {α:Type} {c:Bool} (h:c=true) (a b:α):(bif c then a else b)=a:=by rw [h]; rfl
theorem Qaf {α:Type} {c:Bool} (h:c=false) (a b:α):(bif c then a else b)=b:=by rw [h]; rfl
end Go.Proofs.YtndfoffokpdjeaaGreatDoor
