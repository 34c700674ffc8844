/- FnTampered: the walk.. -/
import Derived.Test.YtpcmapfabndggaaGreatTamperedBT
set_option maxRecDepth 20000
set_option linter.unusedSimpArgs false
set_option linter.unusedVariables false
set_option linter.unnecessarySimpa false
namespace Go.Proofs.YtpcmapfabndggaaGreat
open Go Go.RowKit
open Enc (rd ow)
open Arg (argv)
open Ret (retv)
open Go.Proofs.Tryz
theorem Q7u (fu:Nat) {w0:World} (Aa:List U8) {v2:Value} {F3:List Nat} (Ab:rd w0 F3 [v2] Aa) {r:Bool}
    (h:Qva fu Aa=some r) :
    Calls Tryz.prog 6 #[v2] w0 λe w=>e=.returned (.bool (r))∧Ext [] w0 w:=by
 refine en (vs:=[_]) func6 z ntmps6 z λa k m=>?_;unfold Qva at h;refine wr (pN 1 k z λa k=>nn (wr (pN 1 k z λa k=>sv k z (Qa5 (α:=U8) Ab k underlying22 z z) λa k=>pN 2 k z λa k=>nn (wp_ret (fS h k m z z)))))
theorem Q7x (fu:Nat) {w0:World} (Ac:List U8) (i5:Int) {v2:Value} {F3:List Nat} (Aa:rd w0 F3 [v2] Ac) {r:Int}
    (h:Qtq fu Ac i5=some r) :
    Calls Tryz.prog 21 #[v2,I i5] w0 λe w=>e=.returned (I r)∧Ext [] w0 w:=by
 refine en (vs:=[_,_]) func21 z ntmps21 z λa k m=>?_;unfold Qtq at h;refine wr (pN 1 k z λa k=>nn (wp_seq (wr (pN 2 k z λa k=>sv k z (Qa5 (α:=U8) Aa k underlying22 z z) λa k=>pN 1 k z λa k=>nn (cI h k z (λAd h=>?_) λAd h=>?_)))))
 · refine wr (pN 2 k z λa k=>oE h λx7 Ab h=>sv k z (Qak Aa Ab k Jjh z z z) λa k=>sv k z (Qap Aa (m.a00 (Enc.rd_lt Aa)) Ab 0 t15 k z z z z) λa k=>sv k z (Jga k underlying5 underlying3 z z) λa k=>pN 1 k z λa k=>nn (wp_ret (Qad ?_)));refine fS h k m z z
 refine wp_skip (Qaa ?_);refine wr (pN 3 k z λa k=>sv k z (Qa5 (α:=U8) Aa k underlying22 z z) λa k=>pN 3 k z λa k=>nn (wp_ret (fS h k m z z)))
end Go.Proofs.YtpcmapfabndggaaGreat
