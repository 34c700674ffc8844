/- TextsP: plain lemmas, part 1. -/
import Derived.Test.YthkaklkinepfkaaGreatDoorTextsD
import Derived.Test.YthkaklkinepfkaaGreatDoorTextsBP5
set_option linter.unusedSimpArgs false
set_option linter.unusedVariables false
namespace Go.Proofs.YthkaklkinepfkaaGreatDoor
open Go
open Enc (rd ow)
open Arg (argv)
open Ret (retv)
open Wf (wf)
theorem dr_readPlan {b:List U8} (hb:b.length ≤ 1048576):Tot (d_spec_DrawReadPlan 2097153 b) fun s=>s.size ≤ 1048576:=by
 unfold d_spec_DrawReadPlan
 refine Tot.bind (dr_l13 hb (by omega)) fun x hx=>Tot.bind (dr_new hb (by omega)) fun c hc=>?_
 rw [s_text hx.2.sp (by omega),ob_some]
 have:=txt_size (x:=x.2)
 exact Tot.bind (dr_bend hc.re' (by omega)) fun t ht=>Tot.mk (by omega)
theorem dr_lineOf {b:List U8} (hb:b.length ≤ 1048576):Tot (d_spec_DrawLineOf 2097153 b) fun s=>s.size ≤ 1048576:=by
 unfold d_spec_DrawLineOf d_spec_DrawLineOf_J1
 refine Tot.bind (dr_l13N hb (by omega)) fun x hx=>Tot.bind (dr_new hb (by omega)) fun c hc=>?_
 have hpk:∀ {k:ByteArray × Cur → Option ByteArray},(k = fun x=>some x.1) → Tot (obind (d_spec_l1Pick 2097153 ((⟨b,c.fi,c.fh⟩:Cur)) (([(⟨#[]⟩:ByteArray),(⟨#[99,97,114,116,111,110]⟩:ByteArray),(⟨#[99,97,114,116,111,110,32,49,32,48,32,48,32,48,32,48,32,48]⟩:ByteArray),(⟨#[99,97,114,116,111,110,32,49,32,48,32,48,32,48,32,48,32,48,32,50,32,49]⟩:ByteArray)]:List ByteArray))) k) fun s=>s.size ≤ 1048576:=by
  rintro k rfl
  refine Tot.bind (dr_pickS hc.re' _ (by simp)) fun p hp=>Tot.mk ?_
  have:=hp.1
  simp only [List.mem_cons,List.not_mem_nil,or_false] at this
  rcases this with e | e | e | e <;> rw [e] <;> decide
 refine Tot.bif (fun _=>hpk rfl) fun h1=>Tot.bif (fun _=>hpk rfl) fun h2=>?_
 have l1:0 < x.2.fCartons.length:=by
  simp only [beq_eq_false_iff_ne] at h1
  omega
 have l2:0 < x.2.fSpots.length:=by
  simp only [beq_eq_false_iff_ne] at h2
  omega
 refine Tot.ix ⟨by omega,by omega⟩ fun q hq=>Tot.ix ⟨by omega,by omega⟩ fun s hs=>?_
 have n1:=hx.2.2.1 q hq
 have n2:=hx.2.2.2 s hs
 refine Tot.bind (dr_line (c:=q) (s:=s) (by omega) (fun n hn=>?_) (by have:=hx.2.1.2.2 q hq; omega)) fun t ht=>Tot.bind (dr_bend hc.re' (by omega)) fun u hu=>Tot.mk (by omega)
 unfold numsL at hn
 rcases List.mem_append.1 hn with hn | hn
 · obtain ⟨a1,a2,_⟩:=n1
   obtain ⟨b1,b2,b3,b4⟩:=n2
   simp only [List.mem_cons,List.not_mem_nil,or_false] at hn
   rcases hn with rfl | rfl | rfl | rfl | rfl | rfl <;> assumption
 · exact n1.2.2 n hn
theorem fnTexts_pure (b:List U8) (_:wf b):∃ fu,d_laws_FnTexts fu b = some true:=by
 refine ⟨2097153,?_⟩
 unfold d_laws_FnTexts d_laws_FnTexts_J2 d_laws_FnTexts_J1
 rw [s_big,ob_some]
 by_cases hb:(b.length:Int) > 1048576
 · rw [bif_true (by simpa using hb)]
 rw [bif_false (by simpa using hb)]
 obtain ⟨y,hy,hr,hp⟩:=dr_l13 (fu:=2097153) (b:=b) (by omega) (by omega)
 obtain ⟨t,ht,hts⟩:=dr_readPlan (b:=b) (by omega)
 obtain ⟨u,hu,hus⟩:=dr_lineOf (b:=b) (by omega)
 have hsp:=hp.sp
 unfold d_spec_DrawPlanText
 rw [hy]
 simp only [ob_some,i_text hsp (fu:=2097153) (by omega),s_text hsp (fu:=2097153) (by omega),ht,hu,i_rpl hts,s_rpl hts,i_lof hus,s_lof hus,s_pok hsp (fu:=2097153) (by omega)]
 have hsz:(txtM y.2).size ≤ 1048576:=Nat.le_trans txt_size (by omega)
 rw [i_rpl hsz,ob_some]
 have hlast:(bif (!(lofM u).2.2) then some true else obind (d_impl_PlanText 2097153 ⟨[(lofM u).1],[(lofM u).2.1]⟩) fun x183=>obind (scat u ((⟨#[10]⟩:ByteArray))) fun sv187=>some (x183.toList == sv187.toList)) = some true:=by
  cases hl:(lofM u).2.2 with
  | false=>rfl
  | true =>
   have hk:=(lofM_ok hl).1
   unfold okO at hk
   rw [Bool.and_eq_true] at hk
   have hcl:(lofM u).1.fUnits.length ≤ 100:=cok_len hk.1
   rw [Bool.not_true,cond_false,i_text (sp1p (by omega)) (by omega),ob_some]
   show obind (scat u nl1) _ = _
   rw [scat_ok (by show _ + 1 ≤ _; omega),ob_some,txt_one hus hl]
   simp
 have h2:(bif (!((rplM t).2 == (rplM t).2)) then some false else bif (rplM t).2 then obind (d_impl_PlanText 2097153 (rplM t).1) fun x191=>bif (!(x191.toList == t.toList)) then some false else bif (!((lofM u).2.2 == (lofM u).2.2)) then some false else bif (!(lofM u).2.2) then some true else obind (d_impl_PlanText 2097153 ⟨[(lofM u).1],[(lofM u).2.1]⟩) fun x183=>obind (scat u ((⟨#[10]⟩:ByteArray))) fun sv187=>some (x183.toList == sv187.toList) else bif (!((lofM u).2.2 == (lofM u).2.2)) then some false else bif (!(lofM u).2.2) then some true else obind (d_impl_PlanText 2097153 ⟨[(lofM u).1],[(lofM u).2.1]⟩) fun x183=>obind (scat u ((⟨#[10]⟩:ByteArray))) fun sv187=>some (x183.toList == sv187.toList)) = some true:=by
  rw [bif_false (by simp),bif_false (c:=!((lofM u).2.2 == (lofM u).2.2)) (by simp),hlast]
  cases hq:(rplM t).2 with
  | false=>rfl
  | true =>
   rw [cond_true,i_text (rpl_sp t) (by omega),ob_some,(txt_rpl hts hq).1]
   simp
 cases hk:pokB y.2 with
 | false =>
  rw [txt_no hk,rpl_emp]
  simp only [beq_self_eq_true,Bool.not_true,cond_false]
  simpa using h2
 | true =>
  rw [rpl_txt hk]
  simp only [beq_self_eq_true,Bool.not_true,cond_false,cond_true,s_same hsp (fu:=2097153) (by omega),ob_some]
  simpa using h2
end Go.Proofs.YthkaklkinepfkaaGreatDoor
