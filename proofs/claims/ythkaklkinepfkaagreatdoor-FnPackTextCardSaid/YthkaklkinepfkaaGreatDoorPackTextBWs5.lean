/- FnPackText: the walk.. -/
import Derived.Test.YthkaklkinepfkaaGreatDoorPackTextBWs4
set_option maxRecDepth 20000
set_option linter.unusedSimpArgs false
set_option linter.unusedVariables false
set_option linter.unnecessarySimpa false
namespace Go.Proofs.YthkaklkinepfkaaGreatDoor
open Go Go.RowKit
open Enc (rd ow)
open Arg (argv)
open Ret (retv)
open Go.Proofs.Tryz
theorem Qxw (fu) {w0} (Ab) {r} (h:Qlm fu Ab=some r):cS 53 [I Ab] w0 (.string (r)):=by
 refine eg func53 z ntmps53 z λk m=>uc 7 k z λk=>Q6m (cs:=[.string (⟨#[111,107]⟩:ByteArray),.string (⟨#[116,101,120,116]⟩:ByteArray),.string (⟨#[98,111,117,110,100,115]⟩:ByteArray),.string (⟨#[110,97,109,101,115]⟩:ByteArray),.string (⟨#[116,97,98,108,101]⟩:ByteArray),.string (⟨#[117,110,105,116]⟩:ByteArray),.string (⟨#[112,97,108,108,101,116]⟩:ByteArray)]) (ps:=[(0,.const (.string (⟨#[111,107]⟩:ByteArray))),(1,.const (.string (⟨#[116,101,120,116]⟩:ByteArray))),(2,.const (.string (⟨#[98,111,117,110,100,115]⟩:ByteArray))),(3,.const (.string (⟨#[110,97,109,101,115]⟩:ByteArray))),(4,.const (.string (⟨#[116,97,98,108,101]⟩:ByteArray))),(5,.const (.string (⟨#[117,110,105,116]⟩:ByteArray))),(6,.const (.string (⟨#[112,97,108,108,101,116]⟩:ByteArray)))]) Qyh m k z z z z z z z (by decide) z (by exact fC z (fC z (fC z (fC z (fC z (fC z (fC z fN))))))) λg2 w3 e5 a k m e Ad=>?_;have Aa:=Qai Ad ([(⟨#[111,107]⟩:ByteArray),(⟨#[116,101,120,116]⟩:ByteArray),(⟨#[98,111,117,110,100,115]⟩:ByteArray),(⟨#[110,97,109,101,115]⟩:ByteArray),(⟨#[116,97,98,108,101]⟩:ByteArray),(⟨#[117,110,105,116]⟩:ByteArray),(⟨#[112,97,108,108,101,116]⟩:ByteArray)]:List ByteArray) z z z;refine oE h λx7 Af h=>gl 10 [lF (Enc.ow_rd Aa)] k z λk=>cC k m call39 z (Qau fu _ _ _  Af) λAg e a k m=>ul 3 k z λk=>cJ h k z (λh=>?_) λh=>?_
 · refine uc 7 k z λk=>fS h k m z z
 refine oE h λAh Ac h=>gc 12 [iF (Enc.ow_rd Aa) Ac,eF (m.q Aa 0 z) Ac 0] k z λk=>fS h k m z z
theorem Qz4 (fu) {w0} (Aa) {r} (h:Qo9 fu Aa=some r):cS 25 [.string (Aa)] w0 (.string (r)):=by
 refine eg func25 z ntmps25 z λk m=>oE h λx2 Ae h=>uc 8 k z λk=>cC k m call23 z (Q52 fu _  Ae) λw5 e a k m=>ul 14 k z λk=>cJ h k z (λh=>?_) λh=>?_
 · refine oE h λx7 Af h=>uc 3 k z λk=>cC k m call53 z (Qxw fu _  Af) λAg e a k m=>oE h λAh Ad h=>sv k z (Qsw Ad k z z z) λa k=>oE h λAi Ac h=>sv k z (Qsw Ac k z z z) λa k=>ul 5 k z λk=>fS h k m z z
 refine uc 9 k z λk=>fS h k m z z
end Go.Proofs.YthkaklkinepfkaaGreatDoor
