/- FnTexts: the walks of functions that it reaches (TextsBWl,part 1). Printed by gen.py. -/
import Derived.Test.YtpcmapfabndggabGreatDoorTextsBT
set_option maxRecDepth 20000
set_option linter.unusedSimpArgs false
set_option linter.unusedVariables false
set_option linter.unnecessarySimpa false
namespace Go.Proofs.YtpcmapfabndggabGreatDoor
open Go Go.RowKit
open Enc (rd ow)
open Arg (argv)
open Ret (retv)
open Go.Proofs.Tryz


theorem c_laws_big (fu:Nat) {w0:World} (Aa:List U8) {v2:Value} {F3:List Nat} (Ab:rd w0 F3 [v2] Aa) {r:Bool}
    (h:d_laws_big fu Aa = some r) :
    Calls Tryz.prog 7 #[v2] w0 fun e w=>e = .returned (.bool (r)) ∧ Ext [] w0 w:=by
 refine en (vs:=[_]) func7 z ntmps7 z fun a k m=>?_;unfold d_laws_big at h;refine wr (pN 1 k z fun a k=>nn (wr (pN 1 k z fun a k=>sv k z (r_len (α:=U8) Ab k underlying24 z z) fun a k=>pN 2 k z fun a k=>nn (wp_ret (fS h k m z z)))))

end Go.Proofs.YtpcmapfabndggabGreatDoor
