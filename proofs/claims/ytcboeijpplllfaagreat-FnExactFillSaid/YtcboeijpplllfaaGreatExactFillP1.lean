/- ExactFillP: plain lemmas, part 1. -/
import Derived.Test.YtcboeijpplllfaaGreatExactFillD
import Derived.Test.YtcboeijpplllfaaGreatExactFillBP1
set_option linter.unusedSimpArgs false
set_option linter.unusedVariables false
namespace Go.Proofs.YtcboeijpplllfaaGreat
open Go
open Enc (rd ow)
open Arg (argv)
open Ret (retv)
open Wf (wf)
theorem fnExactFill_pure (r:Request) (x:Carton) (hr:wf r) (hx:wf x):∃ fu,d_laws_FnExactFill fu r x = some true:=by
 refine ⟨2097153,?_⟩
 unfold d_laws_FnExactFill
 rcases szReq 2097153 r hr with ⟨y,h1,h2⟩ | ⟨y,h1,h2,h3,hp,ht,hi⟩
 · rw [h1,ob_some,bif_true (by simp; omega)]
 rw [h1,ob_some,bif_false (by simp; omega)]
 rcases szCar 2097153 x y hx h2 h3 with ⟨z,h4,h5⟩ | ⟨h4,h5⟩
 · rw [h4,ob_some,bif_true (by simp; omega)]
 have hs:Sm 2097153 r:=⟨by omega,hp,ht,hi⟩
 have hl:x.fUnits.length ≤ 1048576:=by omega
 rw [h4,ob_some,bif_false (by simp; omega)]
 simp only [toReq hs,toCar 2097153 x hl (by omega),ob_some,s_fill hs x hl,i_fill hs x hl,eqReq hs,eqCar 2097153 x hl (by omega)]
 simp
end Go.Proofs.YtcboeijpplllfaaGreat
