/- FnExactPack: the walks of functions that it reaches (ExactPackW,part 1). Printed by gen.py. -/
import Derived.Test.YthkaklkinepfkaaGreatDoorExactPackBWi3
import Derived.Test.YthkaklkinepfkaaGreatDoorExactPackBWs3
import Derived.Test.YthkaklkinepfkaaGreatDoorExactPackD
set_option maxRecDepth 20000
set_option linter.unusedSimpArgs false
set_option linter.unusedVariables false
set_option linter.unnecessarySimpa false
namespace Go.Proofs.YthkaklkinepfkaaGreatDoor
open Go Go.RowKit
open Enc (rd ow)
open Arg (argv)
open Ret (retv)
open Go.Proofs.Tryz


theorem c_laws_FnExactPack (fu:Nat) {w0:World} (hT:Te Tryz.prog w0) (Ab:ByteArray)  {r:Bool}
    (h:d_laws_FnExactPack fu Ab = some r) :
    Calls Tryz.prog 5 #[.string (Ab)] w0 fun e w=>e = .returned (.bool (r)) ∧ Ext [] w0 w:=by
 refine en (vs:=[_]) func5 z ntmps5 z fun a k m=>?_;unfold d_laws_FnExactPack at h;refine wr (pN 1 k z fun a k=>nn (wp_seq (wr (pN 1 k z fun a k=>sv k z (r_lenS k underlying9 z z) fun a k=>pN 1 k z fun a k=>nn (cI h k z (fun Ac h=>?_) fun Ac h=>?_)))))
 · refine wr (pN 1 k z fun a k=>nn (wp_ret (rt_then ?_)));refine fS h k m z z
 refine wp_skip (nm_then ?_);refine wr (pN 1 k z fun a k=>oE h fun x3 Ae h=>cC k m call23 z (c_spec_Pack fu _  Ae) fun w6 e a k m=>pN 5 k z fun a k=>nn (wr (pN 1 k z fun a k=>oE h fun x7 Ad h=>cC k m call24 z (c_impl_Pack fu (m.te hT) _  Ad) fun Ag e a k m=>pN 5 k z fun a k=>nn (wp_seq (wr (pN 4 k z fun a k=>bsplit (!(x7.1.toList == x3.1.toList)) (fun Aa=>?_) (fun Aa=>?_)))))))
 · have h:=bif_t Aa h;refine rB k 23 z Aa fun k=>pN 4 k z fun a k=>?_;have k:=k.keep [27] z;refine nn (wp_cond_true (k.ev z) (wr (pN 1 k z fun a k=>nn (wp_ret (rt_then ?_)))));refine fS h k m z z
 have h:=bif_f Aa h;refine rB k 23 z Aa fun k=>pN 4 k z fun a k=>?_;have k:=k.keep [27] z;refine nn (cI h k z (fun Af h=>?_) fun Af h=>?_)
 · refine wr (pN 1 k z fun a k=>nn (wp_ret (rt_then ?_)));refine fS h k m z z
 refine wp_skip (nm_then ?_);refine wr (pN 1 k z fun a k=>nn (wp_ret (fS h k m z z)))

end Go.Proofs.YthkaklkinepfkaaGreatDoor
