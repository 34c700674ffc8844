import Derived.Test.YtlmibnlfkmiikaaGreatExactMirroredD
import Derived.Test.YtlmibnlfkmiikaaGreatExactFrontBP3
set_option linter.unusedSimpArgs false
set_option linter.unusedVariables false
/- Copies of plans; plans that are turned: by spec and by impl. -/
namespace Go.Proofs.YtlmibnlfkmiikaaGreat
open Go
open Enc (rd ow)
open Arg (argv)
open Ret (retv)
open Wf (wf)
theorem i_mir {fu:Nat} {r:Request} (h:Sm fu r) {x:Plan} (hx:Sp x):d_impl_Mirrored fu r x = some (turnM r x (mirF r)):=by
 unfold d_impl_Mirrored
 rw [i_turned h hx (fun b s=>d_impl_Mirrored_1 fu b s r) (mirF r) (fun b s=>rfl)]; rfl
theorem s_mir {fu:Nat} {r:Request} (h:Sm fu r) {x:Plan} (hx:Sp x):d_spec_Mirrored fu r x = some (turnM r x (mirF r)):=by
 have hfu:=h.fu
 have hc:=hx.cars
 unfold d_spec_Mirrored turnM
 rw [s_copyP hx (by omega),ob_some,s_feas h hx,ob_some]
 cases hb:feaB r x
 · rfl
 · have el:=feas_len hb
   have hz:=cs_len el
   rw [Bool.not_true,cond_false,cond_true]
   have:=turn_loop (cs x) (fun n o i=>d_spec_Mirrored_L1 fu r x x n o i) (fun p=>mirF r (boxM r p.1) p.2) (fun o=>some (⟨x.fCartons,o⟩:Plan)) (by omega) ?_ ?_ fu (by omega)
   · rw [cs_spots el] at this
     exact this
   · intro n out i p hp hd ho e
     obtain ⟨e1,e2⟩:=zip_ix hp
     have hu:=hx.units p.1 (ix_mem e1)
     rw [← ho] at hd
     simp only [d_spec_Mirrored_L1_s]
     unfold d_spec_Mirrored_L1_B
     rw [hd,cond_true,e2,ob_some,e1,ob_some,s_boxM h _ hu,ob_some,e,ob_some]
     rfl
   · intro n out ho hd
     rw [← ho] at hd ⊢
     simp only [d_spec_Mirrored_L1_s]
     unfold d_spec_Mirrored_L1_B
     rw [hd,cond_false]
end Go.Proofs.YtlmibnlfkmiikaaGreat
/- FnExactMirrored holds at every input. -/
namespace Go.Proofs.YtlmibnlfkmiikaaGreat
open Go
open Enc (rd ow)
open Arg (argv)
open Ret (retv)
open Wf (wf)
theorem fnExactMirrored_pure (x0:Request) (x1:Plan) (w0:wf x0) (w1:wf x1):∃ fu,d_laws_FnExactMirrored fu x0 x1 = some true:=by
 refine ⟨2097153,?_⟩
 unfold d_laws_FnExactMirrored d_laws_FnExactMirrored_J3 d_laws_FnExactMirrored_J2 d_laws_FnExactMirrored_J1
 rcases szReq 2097153 x0 w0 with ⟨y,h1,h2⟩ | ⟨y,h1,h2,h3,hp,ht,hi⟩
 · rw [h1,ob_some,bif_true (by simp; omega)]
 rw [h1,ob_some,bif_false (by simp; omega)]
 rcases szPln 2097153 x1 y w1 h2 h3 (by omega) with ⟨z,h4,h5⟩ | ⟨z,h4,h5,h6,h7⟩
 · rw [h4,ob_some,bif_true (by simp; omega)]
 rw [h4,ob_some,bif_false (by simp; omega)]
 have hs:Sm 2097153 x0:=⟨by omega,hp,ht,hi⟩
 have hR:Sp (turnM x0 x1 (mirF x0)):=turnM_sp h7 _
 obtain ⟨k,x',hk,hk0,hk1⟩:=markReq hs 1 (by omega) (by omega)
 obtain ⟨k2,x2,hk2,hk20,hk21⟩:=markPln (fu:=2097153) h7 (by omega) k hk0 (by omega)
 have e1:decide (k2 < 0) = false:=by simp; omega
 have e2:decide (mkN 1 (turnM x0 x1 (mirF x0)) < 0) = false:=by have:=mkN_bd hR; simp; omega
 have eq:=eqPln (fu:=2097153) hR (by omega)
 simp only [toReq hs,ob_some,toPln (fu:=2097153) h7 (by omega),s_mir hs h7,i_mir hs h7,eqReq hs,eqPln (fu:=2097153) h7 (by omega),hk,hk2,markPlX (fu:=2097153) hR (by omega) 1 (by omega) (by omega),heldPlX (fu:=2097153) hR (by omega) 1 (by omega) (by omega)]
 simp [e1,e2,eq]
end Go.Proofs.YtlmibnlfkmiikaaGreat
