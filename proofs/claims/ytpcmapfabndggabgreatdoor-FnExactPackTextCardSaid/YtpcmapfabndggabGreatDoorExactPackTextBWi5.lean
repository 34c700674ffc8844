/- FnExactPackText: the.. -/
import Derived.Test.YtpcmapfabndggabGreatDoorExactPackTextBWi4
set_option maxRecDepth 20000
set_option linter.unusedSimpArgs false
set_option linter.unusedVariables false
set_option linter.unnecessarySimpa false
namespace Go.Proofs.YtpcmapfabndggabGreatDoor
open Go Go.RowKit
open Enc (rd ow)
open Arg (argv)
open Ret (retv)
open Go.Proofs.Tryz
theorem Qxa (fu:Nat) {w0:World} (Ac:Int)  {r:ByteArray}
    (h:Qpg fu Ac=some r) :
    Calls Tryz.prog 43 #[I Ac] w0 λe w=>e=.returned (.string (r))∧Ext [] w0 w:=by
 refine en (vs:=[_]) func43 z ntmps43 z λa k m=>?_;unfold Qpg at h;refine wr (pN 1 k z λa k=>nn (wr ?_));refine Jgc (cs:=[.string (⟨#[111,107]⟩:ByteArray),.string (⟨#[116,101,120,116]⟩:ByteArray),.string (⟨#[98,111,117,110,100,115]⟩:ByteArray),.string (⟨#[110,97,109,101,115]⟩:ByteArray),.string (⟨#[116,97,98,108,101]⟩:ByteArray),.string (⟨#[117,110,105,116]⟩:ByteArray),.string (⟨#[112,97,108,108,101,116]⟩:ByteArray)]) (ps:=[(0,.const (.string (⟨#[111,107]⟩:ByteArray))),(1,.const (.string (⟨#[116,101,120,116]⟩:ByteArray))),(2,.const (.string (⟨#[98,111,117,110,100,115]⟩:ByteArray))),(3,.const (.string (⟨#[110,97,109,101,115]⟩:ByteArray))),(4,.const (.string (⟨#[116,97,98,108,101]⟩:ByteArray))),(5,.const (.string (⟨#[117,110,105,116]⟩:ByteArray))),(6,.const (.string (⟨#[112,97,108,108,101,116]⟩:ByteArray)))]) Q6f m k z z z z z z z (by decide) z (by exact fC z (fC z (fC z (fC z (fC z (fC z (fC z fN))))))) λg2 w3 e5 a k m e Af=>?_
 have Aa:=Qbe Af ([(⟨#[111,107]⟩:ByteArray),(⟨#[116,101,120,116]⟩:ByteArray),(⟨#[98,111,117,110,100,115]⟩:ByteArray),(⟨#[110,97,109,101,115]⟩:ByteArray),(⟨#[116,97,98,108,101]⟩:ByteArray),(⟨#[117,110,105,116]⟩:ByteArray),(⟨#[112,97,108,108,101,116]⟩:ByteArray)]:List ByteArray) z z z;refine pN 1 k z λa k=>nn (wp_seq (wr (pN 2 k z λa k=>sv k z (Qba (α:=ByteArray) (Enc.ow_rd Aa) k underlying58 z z) λa k=>pN 1 k z λa k=>oE h λx7 Ae h=>cC k m call48 z (Qa9 fu _ _ _  Ae) λAh e a k m=>pN 1 k z λa k=>nn (cI h k z (λAd h=>?_) λAd h=>?_))))
 · refine wr (pN 1 k z λa k=>nn (wp_ret (Qad ?_)));refine fS h k m z z
 refine wp_skip (Qaa ?_);refine wr (pN 2 k z λa k=>oE h λAg Ab h=>sv k z (Qai (Enc.ow_rd Aa) Ab k Q3z z z z) λa k=>sv k z (Qaj (Enc.ow_rd Aa) (m.a 0 z) Ab 0 t19 k z z z z) λa k=>pN 1 k z λa k=>nn (wp_ret (fS h k m z z)))
theorem Qy6 (fu:Nat) {w0:World} (Aa:Int)  {r:ByteArray}
    (h:Qrd fu Aa=some r) :
    Calls Tryz.prog 22 #[I Aa] w0 λe w=>e=.returned (.string (r))∧Ext [] w0 w:=by
 refine en (vs:=[_]) func22 z ntmps22 z λa k m=>?_;unfold Qrd at h;refine wr (pN 1 k z λa k=>nn (wr (pN 1 k z λa k=>oE h λx2 Ab h=>cC k m call43 z (Qxa fu _  Ab) λw5 e a k m=>oE h λAd Ac h=>sv k z (Qvl Ac k z z z) λa k=>pN 1 k z λa k=>nn (wp_ret (fS h k m z z)))))
theorem Qx3 (fu:Nat) {w0:World} (hT:Te Tryz.prog w0) (Aa:ByteArray)  {r:ByteArray}
    (h:Qna fu Aa=some r) :
    Calls Tryz.prog 6 #[.string (Aa)] w0 λe w=>e=.returned (.string (r))∧Ext [] w0 w:=by
 refine en (vs:=[_]) func6 z ntmps6 z λa k m=>?_;unfold Qna at h;refine wr (pN 1 k z λa k=>nn (wr (pN 1 k z λa k=>oE h λx2 Ab h=>cC k m call21 z (Q3q fu (m.te hT) _  Ab) λw5 e a k m=>pN 5 k z λa k=>nn (wp_seq (wr (pN 2 k z λa k=>nn (cI h k z (λAe h=>?_) λAe h=>?_)))))))
 · refine wr (pN 1 k z λa k=>oE h λx7 Ad h=>cC k m call22 z (Qy6 fu _  Ad) λAg e a k m=>oE h λAf Ac h=>sv k z (Qvl Ac k z z z) λa k=>pN 1 k z λa k=>nn (wp_ret (Qad ?_)));refine fS h k m z z
 refine wp_skip (Qaa ?_);refine wr (pN 2 k z λa k=>nn (wp_ret (fS h k m z z)))
end Go.Proofs.YtpcmapfabndggabGreatDoor
