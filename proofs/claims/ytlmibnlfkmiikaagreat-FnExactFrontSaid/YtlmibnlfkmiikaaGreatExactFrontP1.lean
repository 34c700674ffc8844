import Derived.Test.YtlmibnlfkmiikaaGreatExactFrontD
import Derived.Test.YtlmibnlfkmiikaaGreatExactFrontBP3
set_option linter.unusedSimpArgs false
set_option linter.unusedVariables false
/- FnExactFront holds at every input. -/
namespace Go.Proofs.YtlmibnlfkmiikaaGreat
open Go
open Enc (rd ow)
open Arg (argv)
open Ret (retv)
open Wf (wf)
theorem fnExactFront_pure (x0:Request) (x1:Plan) (w0:wf x0) (w1:wf x1):∃ fu,d_laws_FnExactFront fu x0 x1 = some true:=by
 refine ⟨2097153,?_⟩
 unfold d_laws_FnExactFront d_laws_FnExactFront_J3 d_laws_FnExactFront_J2 d_laws_FnExactFront_J1
 rcases szReq 2097153 x0 w0 with ⟨y,h1,h2⟩ | ⟨y,h1,h2,h3,hp,ht,hi⟩
 · rw [h1,ob_some,bif_true (by simp; omega)]
 rw [h1,ob_some,bif_false (by simp; omega)]
 rcases szPln 2097153 x1 y w1 h2 h3 (by omega) with ⟨z,h4,h5⟩ | ⟨z,h4,h5,h6,h7⟩
 · rw [h4,ob_some,bif_true (by simp; omega)]
 rw [h4,ob_some,bif_false (by simp; omega)]
 have hs:Sm 2097153 x0:=⟨by omega,hp,ht,hi⟩
 have hR:Sp (turnM x0 x1 (froF x0)):=turnM_sp h7 _
 obtain ⟨k,x',hk,hk0,hk1⟩:=markReq hs 1 (by omega) (by omega)
 obtain ⟨k2,x2,hk2,hk20,hk21⟩:=markPln (fu:=2097153) h7 (by omega) k hk0 (by omega)
 have e1:decide (k2 < 0) = false:=by simp; omega
 have e2:decide (mkN 1 (turnM x0 x1 (froF x0)) < 0) = false:=by have:=mkN_bd hR; simp; omega
 have eq:=eqPln (fu:=2097153) hR (by omega)
 simp only [toReq hs,ob_some,toPln (fu:=2097153) h7 (by omega),s_fro hs h7,i_fro hs h7,eqReq hs,eqPln (fu:=2097153) h7 (by omega),hk,hk2,markPlX (fu:=2097153) hR (by omega) 1 (by omega) (by omega),heldPlX (fu:=2097153) hR (by omega) 1 (by omega) (by omega)]
 simp [e1,e2,eq]
end Go.Proofs.YtlmibnlfkmiikaaGreat
