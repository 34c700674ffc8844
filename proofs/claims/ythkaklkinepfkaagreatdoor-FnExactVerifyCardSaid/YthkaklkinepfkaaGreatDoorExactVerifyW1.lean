/- FnExactVerify: the walks of functions that it reaches (ExactVerifyW,part 1). Printed by gen.py. -/
import Derived.Test.YthkaklkinepfkaaGreatDoorExactVerifyBWi6
import Derived.Test.YthkaklkinepfkaaGreatDoorExactVerifyBWs6
import Derived.Test.YthkaklkinepfkaaGreatDoorExactVerifyD
set_option maxRecDepth 20000
set_option linter.unusedSimpArgs false
set_option linter.unusedVariables false
set_option linter.unnecessarySimpa false
namespace Go.Proofs.YthkaklkinepfkaaGreatDoor
open Go Go.RowKit
open Enc (rd ow)
open Arg (argv)
open Ret (retv)
open Go.Proofs.Tryz


theorem c_laws_FnExactVerify (fu:Nat) {w0:World} (hT:Te Tryz.prog w0) (Ab:ByteArray) (Ac:ByteArray)  {r:Bool}
    (h:d_laws_FnExactVerify fu Ab Ac = some r) :
    Calls Tryz.prog 4 #[.string (Ab),.string (Ac)] w0 fun e w=>e = .returned (.bool (r)) ∧ Ext [] w0 w:=by
 refine en (vs:=[_,_]) func4 z ntmps4 z fun a k m=>?_;unfold d_laws_FnExactVerify at h;refine wr (pN 1 k z fun a k=>nn (wp_seq (wr (pN 1 k z fun a k=>sv k z (r_lenS k underlying9 z z) fun a k=>pN 1 k z fun a k=>nn (cI h k z (fun Ad h=>?_) fun Ad h=>?_)))))
 · refine wr (pN 1 k z fun a k=>nn (wp_ret (rt_then ?_)));refine fS h k m z z
 refine wp_skip (nm_then ?_);refine wp_seq (wr (pN 1 k z fun a k=>sv k z (r_lenS k underlying9 z z) fun a k=>pN 1 k z fun a k=>nn (cI h k z (fun Ag h=>?_) fun Ag h=>?_)))
 · refine wr (pN 1 k z fun a k=>nn (wp_ret (rt_then ?_)));refine fS h k m z z
 refine wp_skip (nm_then ?_);refine wr (pN 2 k z fun a k=>oE h fun x5 Ah h=>cC k m call21 z (c_spec_Verify fu _ _  Ah) fun w9 e a k m=>pN 5 k z fun a k=>nn (wr (pN 2 k z fun a k=>oE h fun Af Ae h=>cC k m call22 z (c_impl_Verify fu (m.te hT) _ _  Ae) fun Aj e a k m=>pN 5 k z fun a k=>nn (wp_seq (wr (pN 4 k z fun a k=>bsplit (Af.1 != x5.1) (fun Aa=>?_) (fun Aa=>?_)))))))
 · have h:=bif_t Aa h;refine rB k 30 z Aa fun k=>pN 4 k z fun a k=>?_;have k:=k.keep [34] z;refine nn (wp_cond_true (k.ev z) (wr (pN 1 k z fun a k=>nn (wp_ret (rt_then ?_)))));refine fS h k m z z
 have h:=bif_f Aa h;refine rB k 30 z Aa fun k=>pN 4 k z fun a k=>?_;have k:=k.keep [34] z;refine nn (cI h k z (fun Ai h=>?_) fun Ai h=>?_)
 · refine wr (pN 1 k z fun a k=>nn (wp_ret (rt_then ?_)));refine fS h k m z z
 refine wp_skip (nm_then ?_);refine wr (pN 1 k z fun a k=>nn (wp_ret (fS h k m z z)))

end Go.Proofs.YthkaklkinepfkaaGreatDoor
