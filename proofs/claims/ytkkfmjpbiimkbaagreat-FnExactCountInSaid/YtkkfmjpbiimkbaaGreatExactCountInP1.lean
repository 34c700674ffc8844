import Derived.Test.YtkkfmjpbiimkbaaGreatExactCountInD
import Derived.Test.YtkkfmjpbiimkbaaGreatExactCountInBP2
set_option linter.unusedSimpArgs false
set_option linter.unusedVariables false
/- The plain law of FnExactCountIn. -/
namespace Go.Proofs.YtkkfmjpbiimkbaaGreat
open Go
open Enc (rd ow)
open Arg (argv)
open Ret (retv)
open Wf (wf)
theorem fnExactCountIn_pure (r:Request) (k:Int) (hr:wf r) (_:wf k):∃ fu,d_laws_FnExactCountIn fu r k = some true:=by
 refine ⟨2097153,?_⟩
 unfold d_laws_FnExactCountIn
 rcases szReq 2097153 r hr with ⟨y,h1,h2⟩ | ⟨y,h1,h2,h3,hp,ht,hi⟩
 · rw [h1,ob_some,bif_true (by simp; omega)]
 rw [h1,ob_some,bif_false (by simp; omega)]
 have hs:Sm 2097153 r:=⟨by omega,hp,ht,hi⟩
 simp only [toReq hs,ob_some,s_cnt hs,i_cnt hs,eqReq hs]
 simp
end Go.Proofs.YtkkfmjpbiimkbaaGreat
