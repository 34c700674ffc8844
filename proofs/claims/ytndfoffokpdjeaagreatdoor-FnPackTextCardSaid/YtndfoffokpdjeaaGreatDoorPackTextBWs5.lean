/- FnPackText: the walk.. -/
import Derived.Test.YtndfoffokpdjeaaGreatDoorPackTextBWs4
set_option maxRecDepth 20000
set_option linter.unusedSimpArgs false
set_option linter.unusedVariables false
set_option linter.unnecessarySimpa false
namespace Go.Proofs.YtndfoffokpdjeaaGreatDoor
open Go Go.RowKit
open Enc (rd ow)
open Arg (argv)
open Ret (retv)
open Go.Proofs.Tryz
theorem Qx5 (fu) {w0} (Ac) {r} (h:Qln fu Ac=some r):cS 61 [I Ac] w0 (.string (r)):=by
 refine eg func61 z ntmps61 z λk m=>uc 7 k z λk=>Q7t (cs:=[.string (⟨#[111,107]⟩:ByteArray),.string (⟨#[116,101,120,116]⟩:ByteArray),.string (⟨#[98,111,117,110,100,115]⟩:ByteArray),.string (⟨#[110,97,109,101,115]⟩:ByteArray),.string (⟨#[116,97,98,108,101]⟩:ByteArray),.string (⟨#[117,110,105,116]⟩:ByteArray),.string (⟨#[112,97,108,108,101,116]⟩:ByteArray)]) (ps:=[(0,.const (.string (⟨#[111,107]⟩:ByteArray))),(1,.const (.string (⟨#[116,101,120,116]⟩:ByteArray))),(2,.const (.string (⟨#[98,111,117,110,100,115]⟩:ByteArray))),(3,.const (.string (⟨#[110,97,109,101,115]⟩:ByteArray))),(4,.const (.string (⟨#[116,97,98,108,101]⟩:ByteArray))),(5,.const (.string (⟨#[117,110,105,116]⟩:ByteArray))),(6,.const (.string (⟨#[112,97,108,108,101,116]⟩:ByteArray)))]) Qyn m k z z z z z z z (by decide) z (by exact fC z (fC z (fC z (fC z (fC z (fC z (fC z fN))))))) λg2 w3 e5 a k m e Ad=>?_;have Aa:=Qai Ad ([(⟨#[111,107]⟩:ByteArray),(⟨#[116,101,120,116]⟩:ByteArray),(⟨#[98,111,117,110,100,115]⟩:ByteArray),(⟨#[110,97,109,101,115]⟩:ByteArray),(⟨#[116,97,98,108,101]⟩:ByteArray),(⟨#[117,110,105,116]⟩:ByteArray),(⟨#[112,97,108,108,101,116]⟩:ByteArray)]:List ByteArray) z z z;refine oE h λx7 Ae h=>gl 10 [lF (Enc.ow_rd Aa)] k z λk=>cC k m call68 z (Qat fu _ _ _  Ae) λAg e a k m=>ul 3 k z λk=>cJ h k z (λh=>?_) λh=>?_
 · refine uc 7 k z λk=>fS h k m z z
 refine oE h λAh Ab h=>gc 12 [iF (Enc.ow_rd Aa) Ab,eF (m.q Aa 0 z) Ab 0] k z λk=>fS h k m z z
theorem Qz8 (fu) {w0} (Aa) {r} (h:Qok fu Aa=some r):cS 23 [.string (Aa)] w0 (.string (r)):=by
 refine eg func23 z ntmps23 z λk m=>oE h λx2 Ac h=>uc 8 k z λk=>cC k m call9 z (Q5k fu _  Ac) λw5 e a k m=>ul 14 k z λk=>cJ h k z (λh=>?_) λh=>?_
 · refine oE h λx7 Af h=>uc 3 k z λk=>cC k m call61 z (Qx5 fu _  Af) λAg e a k m=>oE h λAi Ad h=>sv k z (Qsz Ad k z z z) λa k=>oE h λAh Ae h=>sv k z (Qsz Ae k z z z) λa k=>ul 5 k z λk=>fS h k m z z
 refine uc 9 k z λk=>fS h k m z z
end Go.Proofs.YtndfoffokpdjeaaGreatDoor
