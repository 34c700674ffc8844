/- FnDepths: the walks of functions that it reaches (DepthsBWi,part 2). Printed by gen.py. -/
import Derived.Test.YthddjkokpfdbnaaDepthsBWi1
set_option maxRecDepth 20000
set_option linter.unusedSimpArgs false
set_option linter.unusedVariables false
set_option linter.unnecessarySimpa false
namespace Go.Proofs.Ythddjkokpfdbnaa
open Go Go.RowKit
open Enc (rd ow)
open Arg (argv)
open Ret (retv)
open Go.Proofs.Try

theorem c_impl_LayersPromise (fu:Nat) {w0:World} (p1:Pallet) (Ab:List Box) (n6:Int) {v3:Value} {F4:List Nat} (Ac:rd w0 F4 [v3] Ab) {r:Int}
    (h:d_impl_LayersPromise fu p1 Ab n6 = some r) :
    Calls Try.prog 17 #[.agg (Flat.e (p1)).toArray,v3,I n6] w0 fun e w=>e = .returned (I r) ∧ Ext [] w0 w:=by
 refine enter (vs:=[_,_,_]) func17 z ntmps17 z fun a k=>?_;have m:=St.start w0;unfold d_impl_LayersPromise at h;refine wr (s_box (cs:=[I p1.fW,I p1.fD,I p1.fH,I p1.fGram]) m k z z z z z z fun b7 w9 a k m e Ad=>pN 1 k z fun a k=>nn (c_cut (fun a w=>K 19 [(2,I n6)] a ∧ St [] w0 w [] ∧ d_impl_LayersPromise_J1 fu n6 = some r) ?_ ?_))
 · rintro a Aj ⟨k,m,h⟩;unfold d_impl_LayersPromise_J1 at h;refine wr (pN 4 k z fun a k=>nn (wp_ret (fS h k m z z)))
 refine wr (sv k z (r_ldB ta25 m 0 Ad 0 k z z z z z z) fun a k=>pN 1 k z fun a k=>oE h fun Ah Af h=>cE k m call20 z z z (c_impl_BoxesOk fu (p1:Pallet) _ (m.r Ac) Af) fun Al e a k m=>pN 2 k z fun a k=>bsplit (!Ah) (fun Aa=>?_) (fun Aa=>?_))
 · have h:=bif_t Aa h;refine rB k 11 z Aa fun k=>pN 4 k z fun a k=>nn (wp_cond_true (k.ev z) (wr (pN 1 k z fun a k=>nn (wp_ret (rt_then ?_)))));refine fS h k m z z
 have h:=bif_f Aa h;refine rB k 11 z Aa fun k=>pN 1 k z fun a k=>oE h fun Ai Ag h=>cE k m call30 z z z (c_impl_in fu _ _ _  Ag) fun Ak e a k m=>pN 2 k z fun a k=>nn (cI h k z (fun Ae h=>?_) fun Ae h=>?_)
 · refine wr (pN 1 k z fun a k=>nn (wp_ret (rt_then ?_)));refine fS h k m z z
 refine wp_skip (nm_then ?_);exact ⟨k.keep [2] z,m.sel [] z (by decide),h⟩

end Go.Proofs.Ythddjkokpfdbnaa
