import Derived.Test.YthddjkokpfdbnaaGreatOneHoldsD
import Derived.Test.YthddjkokpfdbnaaGreatOneHoldsBP3
set_option linter.unusedSimpArgs false
set_option linter.unusedVariables false
/- The plain law of FnOneHolds: a group that one carton can hold lies in one. -/
namespace Go.Proofs.YthddjkokpfdbnaaGreat
open Go
open Enc (rd ow)
open Arg (argv)
open Ret (retv)
open Wf (wf)
theorem dr_two {fu:Nat} {b:List U8} (hb:b.length ≤ 1048576) (hf:2097153 ≤ fu):Tot (d_spec_l17Two fu b) fun x=>SmR x.1:=by
 unfold d_spec_l17Two
 refine Tot.bind (dr_class hb hf) fun r hr=>Tot.bind (dr_new hb (by omega)) fun c hc=>Tot.bind (dr_below hc.re' _) fun x hx=>Tot.mk hr
theorem one_holds {r:Request} {k:Int} (h1:slgM r k = true) (h2:slvM r k = true):cntM r k = 1:=by
 unfold slgM at h1
 unfold slvM at h2
 rw [Bool.and_eq_true] at h1 h2
 have hk:=h1.1
 unfold hasG at hk
 rw [inb_iff] at hk
 have hr:0 ≤ k ∧ k < (grpM r).length:=by omega
 have hw:witB r (uofM r k) (masM r) = true:=by
  unfold witB
  rw [Bool.and_eq_true]
  exact ⟨h2.2,h1.2⟩
 rw [cnt_len hr,pw_one (by rw [thr_uof]; exact uof_ne hr) (by rw [thr_uof]; exact hw)]
 rfl
theorem fnOneHolds_pure (b:List U8) (_:wf b):∃ fu,d_laws_FnOneHolds fu b = some true:=by
 refine ⟨2097153,?_⟩
 unfold d_laws_FnOneHolds
 rw [s_big,ob_some]
 by_cases hb:(b.length:Int) > 1048576
 · rw [bif_true (by simpa using hb)]
 rw [bif_false (by simpa using hb)]
 obtain ⟨y,hy,hr⟩:=dr_two (fu:=2097153) (b:=b) (by omega) (by omega)
 obtain ⟨r,k⟩:=y
 have hr:SmR r:=hr
 have hs:=hr.sm (fu:=2097153) (by omega)
 unfold d_spec_DrawSlackGram d_laws_FnOneHolds_J2
 rw [hy,ob_some,ob_some]
 simp only [i_slg hs,s_slg hs,i_slv hs,s_slv hs,i_cnt hs,i_grp hs,ob_some]
 rw [bif_false (by simp),bif_false (by simp)]
 have hno:¬ (0 ≤ k ∧ k < (grpM r).length) → slgM r k = false ∧ slvM r k = false:=by
  intro h
  have e:hasG r k = false:=by
   unfold hasG
   rw [← Bool.not_eq_true,inb_iff]
   omega
  unfold slgM slvM
  rw [e]
  exact ⟨rfl,rfl⟩
 by_cases h1:k < 0
 · obtain ⟨e1,e2⟩:=hno (by omega)
   rw [bif_true (by simpa using h1),cnt_out (by omega),e1,e2]; rfl
 · rw [bif_false (by simpa using h1)]
   by_cases h2:k ≥ (grpM r).length
   · obtain ⟨e1,e2⟩:=hno (by omega)
     rw [bif_true (by simpa using h2),cnt_out (by omega),e1,e2]; rfl
   · rw [bif_false (by simpa using h2)]
     have hg:=cnt_ge (r:=r) (k:=k) (by omega)
     unfold d_laws_FnOneHolds_J1
     rw [bif_true (by simpa using hg)]
     cases hx:slgM r k
     · simp
     · cases hy:slvM r k
       · simp
       · rw [one_holds hx hy]; rfl
end Go.Proofs.YthddjkokpfdbnaaGreat
