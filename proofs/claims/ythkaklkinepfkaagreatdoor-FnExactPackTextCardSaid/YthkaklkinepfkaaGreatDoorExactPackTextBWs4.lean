/- FnExactPackText: the walks of functions that it reaches (ExactPackTextBWs,part 4). Printed by gen.py. -/
import Derived.Test.YthkaklkinepfkaaGreatDoorExactPackTextBWs3
set_option maxRecDepth 20000
set_option linter.unusedSimpArgs false
set_option linter.unusedVariables false
set_option linter.unnecessarySimpa false
namespace Go.Proofs.YthkaklkinepfkaaGreatDoor
open Go Go.RowKit
open Enc (rd ow)
open Arg (argv)
open Ret (retv)
open Go.Proofs.Tryz

theorem c_spec_ClassText (fu) {w0} (Ab) {r} (h:d_spec_ClassText fu Ab = some r):cS 53 [I Ab] w0 (.string (r)):=by
 refine eg func53 z ntmps53 z fun k m=>uc 7 k z fun k=>s_bs (cs:=[.string ((⟨#[111,107]⟩:ByteArray)),.string ((⟨#[116,101,120,116]⟩:ByteArray)),.string ((⟨#[98,111,117,110,100,115]⟩:ByteArray)),.string ((⟨#[110,97,109,101,115]⟩:ByteArray)),.string ((⟨#[116,97,98,108,101]⟩:ByteArray)),.string ((⟨#[117,110,105,116]⟩:ByteArray)),.string ((⟨#[112,97,108,108,101,116]⟩:ByteArray))]) (ps:=[(0,.const (.string ((⟨#[111,107]⟩:ByteArray)))),(1,.const (.string ((⟨#[116,101,120,116]⟩:ByteArray)))),(2,.const (.string ((⟨#[98,111,117,110,100,115]⟩:ByteArray)))),(3,.const (.string ((⟨#[110,97,109,101,115]⟩:ByteArray)))),(4,.const (.string ((⟨#[116,97,98,108,101]⟩:ByteArray)))),(5,.const (.string ((⟨#[117,110,105,116]⟩:ByteArray)))),(6,.const (.string ((⟨#[112,97,108,108,101,116]⟩:ByteArray))))]) te68 m k z z z z z z z (by decide) z (by exact fC z (fC z (fC z (fC z (fC z (fC z (fC z fN))))))) fun g2 w3 e5 a k m e Ae=>?_;have Aa:=ow_bx Ae ([(⟨#[111,107]⟩:ByteArray),(⟨#[116,101,120,116]⟩:ByteArray),(⟨#[98,111,117,110,100,115]⟩:ByteArray),(⟨#[110,97,109,101,115]⟩:ByteArray),(⟨#[116,97,98,108,101]⟩:ByteArray),(⟨#[117,110,105,116]⟩:ByteArray),(⟨#[112,97,108,108,101,116]⟩:ByteArray)]:List ByteArray) z z z;refine oE h fun x7 Ad h=>gl 10 [lF (Enc.ow_rd Aa)] k z fun k=>cC k m call39 z (c_spec_l1In fu _ _ _  Ad) fun Ah e a k m=>ul 3 k z fun k=>cJ h k z (fun h=>?_) fun h=>?_
 · refine uc 7 k z fun k=>fS h k m z z
 refine oE h fun Ag Ac h=>gc 12 [iF (Enc.ow_rd Aa) Ac,eF (m.q Aa 0 z) Ac 0] k z fun k=>fS h k m z z
theorem c_spec_PackText (fu) {w0} (Aa) {r} (h:d_spec_PackText fu Aa = some r):cS 25 [.string (Aa)] w0 (.string (r)):=by
 refine eg func25 z ntmps25 z fun k m=>oE h fun x2 Ac h=>uc 8 k z fun k=>cC k m call23 z (c_spec_Pack fu _  Ac) fun w5 e a k m=>ul 14 k z fun k=>cJ h k z (fun h=>?_) fun h=>?_
 · refine oE h fun x7 Ab h=>uc 3 k z fun k=>cC k m call53 z (c_spec_ClassText fu _  Ab) fun Ai e a k m=>oE h fun Ah Ad h=>sv k z (r_cat Ad k z z z) fun a k=>oE h fun Ag Af h=>sv k z (r_cat Af k z z z) fun a k=>ul 5 k z fun k=>fS h k m z z
 refine uc 9 k z fun k=>fS h k m z z

end Go.Proofs.YthkaklkinepfkaaGreatDoor
