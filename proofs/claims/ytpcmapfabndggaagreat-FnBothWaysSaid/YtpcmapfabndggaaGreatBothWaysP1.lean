import Derived.Test.YtpcmapfabndggaaGreatBothWaysD
import Derived.Test.YtpcmapfabndggaaGreatBothWaysBP4
set_option linter.unusedSimpArgs false
set_option linter.unusedVariables false
/- The plain law of FnBothWays. -/
namespace Go.Proofs.YtpcmapfabndggaaGreat
open Go
open Enc (rd ow)
open Arg (argv)
open Ret (retv)
open Wf (wf)
theorem fnBothWays_pure (b:List U8) (_:wf b):∃ fu,d_laws_FnBothWays fu b = some true:=by
 refine ⟨2097153,?_⟩
 unfold d_laws_FnBothWays d_laws_FnBothWays_J1
 rw [s_big,ob_some]
 by_cases hb:(b.length:Int) > 1048576
 · rw [bif_true (by simpa using hb)]
 rw [bif_false (by simpa using hb)]
 obtain ⟨r,hy,hr⟩:=dr_class (fu:=2097153) (b:=b) (by omega) (by omega)
 have hs:=hr.sm (fu:=2097153) (by omega)
 unfold d_spec_DrawPlanOf
 rw [hy,ob_some,ob_some]
 have hs2:Sm 2097153 (wy r (w64 (1 - r.fWay))):=⟨hs.fu,hs.pairs,hs.types,hs.items⟩
 show (obind (d_impl_Class 2097153 r) fun x35=>obind (d_spec_Class 2097153 r) fun x39=>bif (x35 != x39) then some (false) else obind (d_impl_PlanOf 2097153 r) fun x51=>obind (d_impl_PlanOf 2097153 (wy r (w64 (1 - r.fWay)))) fun x71=>obind (d_spec_Class 2097153 r) fun x91=>bif (x91 != 0) then some (!x51.2) else bif (!x51.2) then some (false) else bif (!x71.2) then some (false) else obind (d_impl_Feasible 2097153 r x51.1) fun x182=>bif (!x182) then some (false) else obind (d_impl_Feasible 2097153 (wy r (w64 (1 - r.fWay))) x71.1) fun x187=>bif (!x187) then some (false) else obind (d_impl_Feasible 2097153 r x71.1) fun x192=>bif (!x192) then some (false) else obind (d_impl_GroupsOf 2097153 r) fun x114=>d_laws_FnBothWays_L1 2097153 r x51 x71 x114 2097153 0 0) = some true
 simp only [i_cls hs,s_cls hs,i_plan hs,i_plan hs2,i_grp hs,ob_some,bne_self_eq_false,cond_false]
 by_cases hc:clsM r = 0
 rotate_left
 · rw [bif_true (by simpa using hc)]
   have:(plnM r).2 = false:=by
    unfold plnM
    rw [show (clsM r == 0) = false by simpa using hc]; rfl
   rw [this]; rfl
 · have hw:inb (w64 (1 - r.fWay)) 0 1 = true:=by
     have hb:=(clsM_zero hc).1
     unfold bouB at hb
     simp only [Bool.and_eq_true] at hb
     have h1:=hb.1.1.1.1.1.1.1.1.1
     rw [inb_iff] at h1 ⊢
     rw [w64_id (by omega) (by omega)]
     omega
   have hq:=cls_wy hc hw
   have hc2:clsM (wy r (w64 (1 - r.fWay))) = 0:=by rw [hq,hc]
   have e1:(plnM r).2 = true:=by
    unfold plnM
    rw [show (clsM r == 0) = true by simpa using hc]; rfl
   have e2:(plnM (wy r (w64 (1 - r.fWay)))).2 = true:=by
    unfold plnM
    rw [show (clsM (wy r (w64 (1 - r.fWay))) == 0) = true by simpa using hc2]; rfl
   have f1:feaB r (plnM r).1 = true:=fea_iff.2 (pln_fea hc)
   have f2:feaB (wy r (w64 (1 - r.fWay))) (plnM (wy r (w64 (1 - r.fWay)))).1 = true:=fea_iff.2 (pln_fea hc2)
   have f3:feaB r (plnM (wy r (w64 (1 - r.fWay)))).1 = true:=by rw [← fea_wy hq]; exact f2
   rw [bif_false (by simpa using hc),e1,e2]
   simp only [Bool.not_true,cond_false,i_feas hs (pln_sp r),i_feas hs2 (pln_sp _),i_feas hs (pln_sp _),f1,f2,f3,ob_some]
   have hg:=(grpM_ok r).1
   have c1:(plnM r).1.fCartons = crtL r:=pln_car hc
   have c2:(plnM (wy r (w64 (1 - r.fWay)))).1.fCartons = crtL (wy r (w64 (1 - r.fWay))):=pln_car hc2
   have hl1:=low_crt hc (ints 0 (grpM r).length) fun k hk=>by have:=ints_mem.1 hk; omega
   have hl2:sumI ((ints 0 (grpM r).length).map fun k=>lowM r (uofM r k)) ≤ (crtL (wy r (w64 (1 - r.fWay)))).length:=by
    have:=low_crt hc2 (ints 0 (grpM (wy r (w64 (1 - r.fWay)))).length) fun k hk=>by have:=ints_mem.1 hk; omega
    rw [low_wy hq,uof_wy hq,grp_wy hq] at this
    unfold crtL
    rw [grp_wy hq]
    exact this
   have hnn:∀ k,0 ≤ lowM r (uofM r k) ∧ lowM r (uofM r k) ≤ 1000:=fun k=>by
    have h1:lowM r (uofM r k) ≤ (pwM r (uofM r k)).length:=low_le hc (fun c hcm=>(pw_q c hcm).2.2) (by
     have:=pw_flat r (uofM r k)
     rw [thr_uof] at this
     exact this)
    have h2:=(pwM_ok (r:=r) (uofM_len r k)).1
    have h3:=(cntB_bd (grtB r) (itsM r (uofM r k))).1
    unfold lowM at h1 ⊢
    have m1:=mxI_ge (mxI (upM (volM r (uofM r k)) (volT (masM r))) (upM (grmM r (uofM r k)) (masM r).fGram)) (mxI (cntB (grtB r) (itsM r (uofM r k))) (cntB (hvyB r) (itsM r (uofM r k))))
    have m2:=mxI_ge (cntB (grtB r) (itsM r (uofM r k))) (cntB (hvyB r) (itsM r (uofM r k)))
    omega
   have key:=lpNI ((grpM r).length:Int) (fun n (s:Int) i=>d_laws_FnBothWays_L1 2097153 r (plnM r) (plnM (wy r (w64 (1 - r.fWay)))) (grpM r) n s i) (fun ks s=>bif (decide (((plnM r).1.fCartons.length:Int) ≥ s + sumI (ks.map fun k=>lowM r (uofM r k)))) then some (decide (((plnM (wy r (w64 (1 - r.fWay)))).1.fCartons.length:Int) ≥ s + sumI (ks.map fun k=>lowM r (uofM r k)))) else some false) (fun ks s=>0 ≤ s ∧ s + 1000 * ks.length ≤ 100000) (by omega) ?_ ?_ (grpM r).length 2097153 0 0 (by omega) (by omega) (by omega) ⟨by omega,by rw [ints_len]; omega⟩
   · rw [key,c1,c2,Int.zero_add,bif_true (by simpa [crtL] using hl1)]
     simpa using hl2
   · intro n s i ks h0 h1 hd hI ih
     obtain ⟨j1,j2⟩:=hI
     simp only [List.length_cons] at j2
     have:=hnn i
     simp only [d_laws_FnBothWays_L1.eq_2]
     unfold d_laws_FnBothWays_L1_B
     rw [hd,cond_true,i_uof hs,ob_some,i_low hs hc (by have:=uofM_len r i; omega),ob_some,w64_id (n:=s + _) (by omega) (by omega),ih _ ⟨by omega,by omega⟩,List.map_cons,sumI_cons,Int.add_assoc]
   · intro n s i hd hI
     simp only [d_laws_FnBothWays_L1.eq_2]
     unfold d_laws_FnBothWays_L1_B
     rw [hd,cond_false]
     simp
end Go.Proofs.YtpcmapfabndggaaGreat
