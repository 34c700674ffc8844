/- Facts on a whole program out of its first words; generic, no program in sight. Own lemmas. -/
import Derived.JoinedOf
set_option linter.unusedSimpArgs false
set_option linter.unusedVariables false
namespace Go.Proofs.YtcboeijpplllfaaGreat
open Go
theorem make_of {P:Program} {l:List Char} {ws:List (List Char)} (h:P.initOrder = String.ofList l) (h2:wordsSigns l = ws):wordsSigns P.initOrder.toList = ws:=by rw [h,String.toList_ofList,h2]
theorem mk_of {P:Program} {ws:List (List Char)} (h:wordsSigns P.initOrder.toList = ws) (h2:(match behindMainWord ws with | c :: _=>c == "cut".toList | []=>false) = true):P.make = some .cut:=by
 unfold Program.make
 rw [h]
 revert h2
 cases behindMainWord ws with
 | nil=>simp
 | cons c r =>
  intro h2
  have:c = "cut".toList:=by simpa using h2
  subst this
  rfl
theorem may_of {P:Program} {ws:List (List Char)} (h:wordsSigns P.initOrder.toList = ws) (h2:(match behindMainWord ws with | c :: _=>c == "cut".toList | []=>false) = true) (h3:P.laysLater = false) (h4:P.bearsReflect = false) (h5:P.doorRows = []):P.mayEnter = true:=by
 unfold Program.mayEnter Program.doorFits
 rw [h,h3,h4,h5]
 revert h2
 cases behindMainWord ws with
 | nil=>simp
 | cons c r =>
  intro h2
  have:c = "cut".toList:=by simpa using h2
  subst this
  rfl
theorem lf_of {P:Program} {ws:List (List Char)} (h:wordsSigns P.initOrder.toList = ws) (h2:(match behindMainWord ws with | c :: _=>c == "cut".toList | []=>false) = true):P.liftsFinal = false:=by
 unfold Program.liftsFinal Program.headLifts
 rw [h]
 revert h2
 cases behindMainWord ws with
 | nil=>simp
 | cons c r =>
  intro h2
  have:c = "cut".toList:=by simpa using h2
  subst this
  rfl
theorem beq_of {α:Type} [BEq α] {x y z:α} (h:x = y) (h2:(y == z) = true):(x == z) = true:=by rw [h]; exact h2
theorem beq_of' {α:Type} [BEq α] {x y z:α} (h:x = y) (h2:(z == y) = true):(z == x) = true:=by rw [h]; exact h2
end Go.Proofs.YtcboeijpplllfaaGreat
