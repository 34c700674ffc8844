/- FnRenamed: the walks.. -/
import Derived.Test.YtndfoffokpdjeaaGreatDoorRenamedBT
set_option maxRecDepth 20000
set_option linter.unusedSimpArgs false
set_option linter.unusedVariables false
set_option linter.unnecessarySimpa false
namespace Go.Proofs.YtndfoffokpdjeaaGreatDoor
open Go Go.RowKit
open Enc (rd ow)
open Arg (argv)
open Ret (retv)
open Go.Proofs.Tryz
theorem Q5s (fu:Nat) {w0:World} (Aa:List U8) {v2:Value} {F3:List Nat} (Ab:rd w0 F3 [v2] Aa) {r:Bool}
    (h:Qth fu Aa=some r) :
    Calls Tryz.prog 6 #[v2] w0 λe w=>e=.returned (.bool (r))∧Ext [] w0 w:=by
 refine eg (vs:=[_]) func6 z ntmps6 z λk m=>?_;unfold Qth at h;refine gc 14 [lF (α:=U8) Ab] k z λk=>fS h k m z z
end Go.Proofs.YtndfoffokpdjeaaGreatDoor
