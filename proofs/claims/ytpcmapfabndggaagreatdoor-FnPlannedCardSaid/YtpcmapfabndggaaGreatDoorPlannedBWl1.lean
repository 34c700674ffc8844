/- FnPlanned: the walks.. -/
import Derived.Test.YtpcmapfabndggaaGreatDoorPlannedBT
set_option maxRecDepth 20000
set_option linter.unusedSimpArgs false
set_option linter.unusedVariables false
set_option linter.unnecessarySimpa false
namespace Go.Proofs.YtpcmapfabndggaaGreatDoor
open Go Go.RowKit
open Enc (rd ow)
open Arg (argv)
open Ret (retv)
open Go.Proofs.Tryz
theorem Q8l (fu:Nat) {w0:World} (Aa:List U8) {v2:Value} {F3:List Nat} (Ab:rd w0 F3 [v2] Aa) {r:Bool}
    (h:Qv4 fu Aa=some r) :
    Calls Tryz.prog 6 #[v2] w0 λe w=>e=.returned (.bool (r))∧Ext [] w0 w:=by
 refine en (vs:=[_]) func6 z ntmps6 z λa k m=>?_;unfold Qv4 at h;refine wr (pN 1 k z λa k=>nn (wr (pN 1 k z λa k=>sv k z (Qa2 (α:=U8) Ab k underlying22 z z) λa k=>pN 2 k z λa k=>nn (wp_ret (fS h k m z z)))))
end Go.Proofs.YtpcmapfabndggaaGreatDoor
