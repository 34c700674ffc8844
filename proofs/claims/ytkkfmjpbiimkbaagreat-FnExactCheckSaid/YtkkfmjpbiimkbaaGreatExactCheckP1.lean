import Derived.Test.YtkkfmjpbiimkbaaGreatExactCheckD
import Derived.Test.YtkkfmjpbiimkbaaGreatExactFeasibleBP2
set_option linter.unusedSimpArgs false
set_option linter.unusedVariables false
/- FnExactCheck holds at every input. -/
namespace Go.Proofs.YtkkfmjpbiimkbaaGreat
open Go
open Enc (rd ow)
open Arg (argv)
open Ret (retv)
open Wf (wf)
theorem fnExactCheck_pure (x0:Request) (x1:Plan) (w0:wf x0) (w1:wf x1):∃ fu,d_laws_FnExactCheck fu x0 x1 = some true:=by
 refine ⟨2097153,?_⟩
 unfold d_laws_FnExactCheck
 rcases szReq 2097153 x0 w0 with ⟨y,h1,h2⟩ | ⟨y,h1,h2,h3,hp,ht,hi⟩
 · rw [h1,ob_some,bif_true (by simp; omega)]
 rw [h1,ob_some,bif_false (by simp; omega)]
 rcases szPln 2097153 x1 y w1 h2 h3 (by omega) with ⟨z,h4,h5⟩ | ⟨z,h4,h5,h6,h7⟩
 · rw [h4,ob_some,bif_true (by simp; omega)]
 rw [h4,ob_some,bif_false (by simp; omega)]
 have hs:Sm 2097153 x0:=⟨by omega,hp,ht,hi⟩
 simp [toReq hs,toPln (fu:=2097153) h7 (by omega),s_check hs h7,i_check hs h7,eqReq hs,eqPln (fu:=2097153) h7 (by omega)]
end Go.Proofs.YtkkfmjpbiimkbaaGreat
