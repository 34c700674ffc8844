import Derived.Test.YthddjkokpfdbnaaGreatRivalsD
import Derived.Test.YthddjkokpfdbnaaGreatRivalsBP3
set_option linter.unusedSimpArgs false
set_option linter.unusedVariables false
/- The plain law of FnRivals: what others do is a packing, so is ours, and one each. -/
namespace Go.Proofs.YthddjkokpfdbnaaGreat
open Go
open Enc (rd ow)
open Arg (argv)
open Ret (retv)
open Wf (wf)
theorem dr_rby {fu:Nat} {b:List U8} (hb:b.length ≤ 1048576) (hf:2097153 ≤ fu):Tot (d_spec_DrawRivalBy fu b) fun x=>SmR x.1 ∧ x.2.length ≤ 20:=by
 unfold d_spec_DrawRivalBy
 refine Tot.bind (dr_class hb hf) fun r hr=>Tot.bind (dr_new hb (by omega)) fun c hc=>Tot.bind (dr_below hc.re' _) fun v hv=>?_
 obtain ⟨v0,v1⟩:=hv.1
 have v1:=v1 (by omega)
 have L1:=lpT v.1 (fun n (s:Int × Int × List Int) i=>d_spec_DrawRivalBy_L1 fu b r v n s.1 s.2.1 s.2.2 i) (fun x:Request × List Int=>SmR x.1 ∧ x.2.length ≤ 20) (fun i s=>0 ≤ s.1 ∧ (s.2.2.length:Int) ≤ i ∧ i ≤ v.1) (by omega) ?_ ?_ (v.1 - 0).toNat fu (v.2.fi,v.2.fh,[]) 0 (by omega) rfl (by omega) ⟨hv.2.2.1,by simp,by omega⟩
 · exact L1
 · intro n ⟨f1,f2,ps⟩ i h0 h1 hI ih
   obtain ⟨j1,j2,j3⟩:0 ≤ f1 ∧ (ps.length:Int) ≤ i ∧ i ≤ v.1:=hI
   simp only [d_spec_DrawRivalBy_L1.eq_2]
   unfold d_spec_DrawRivalBy_L1_B
   rw [bif_true (by simpa using h1)]
   refine Tot.bind (dr_pick (b:=b) (c:=⟨b,f1,f2⟩) ⟨rfl,j1,hb⟩ _ (by simp)) fun x hx=>Tot.ap (by simp; omega) ?_
   exact ih (x.2.fi,x.2.fh,_) ⟨hx.2.2.1,by simp; omega,by omega⟩
 · intro n ⟨f1,f2,ps⟩ i h0 h1 hI
   obtain ⟨j1,j2,j3⟩:0 ≤ f1 ∧ (ps.length:Int) ≤ i ∧ i ≤ v.1:=hI
   simp only [d_spec_DrawRivalBy_L1.eq_2]
   unfold d_spec_DrawRivalBy_L1_B
   rw [bif_false (by simpa using h1)]
   exact Tot.mk ⟨hr,by simp; omega⟩
theorem smc_of {cs:List (List Int)} (h1:cs.length ≤ 48) (h2:∀ c ∈ cs,c.length ≤ 24):cs.length ≤ 1048576 ∧ (∀ x ∈ cs,x.length ≤ 1048576) ∧ lensL cs ≤ 1048576:=by
 have key:∀ (l:List (List Int)),(∀ c ∈ l,c.length ≤ 24) → lensL l ≤ 24 * l.length:=by
  intro l
  induction l with
  | nil=>simp [lensL]
  | cons x xs ih =>
   intro hx
   have h1:=ih fun c hc=>hx c (by simp [hc])
   have h2:=hx x (by simp)
   simp only [lensL,List.length_cons]; omega
 have:=key cs h2
 exact ⟨by omega,fun x hx=>by have:=h2 x hx; omega,by omega⟩
theorem fnRivals_pure (b:List U8) (_:wf b):∃ fu,d_laws_FnRivals fu b = some true:=by
 refine ⟨2097153,?_⟩
 unfold d_laws_FnRivals
 rw [s_big,ob_some]
 by_cases hb:(b.length:Int) > 1048576
 · rw [bif_true (by simpa using hb)]
 rw [bif_false (by simpa using hb)]
 obtain ⟨y,hy,hr,hpl⟩:=dr_rby (fu:=2097153) (b:=b) (by omega) (by omega)
 obtain ⟨r,ps⟩:=y
 have hr:SmR r:=hr
 have hpl:ps.length ≤ 20:=hpl
 have hs:=hr.sm (fu:=2097153) (by omega)
 have hul:=untM_len r
 rw [hy,ob_some]
 simp only [i_rby hs ps (by omega),s_rby hs ps (by omega),s_cls hs,i_one hs,i_ours hs,i_unt hs,ob_some]
 rw [bif_false (by simp)]
 by_cases hc:clsM r = 0
 rotate_left
 · have hu:untM r = []:=by unfold untM; rw [show (clsM r == 0) = false by simpa using hc]; rfl
   have e1:rbyM r ps = []:=by unfold rbyM; rw [hu]; rfl
   have e2:oneM (untM r).length = []:=by rw [hu]; rfl
   have e3:ourM r = []:=by
    have hg:grpM r = []:=by
     unfold grpM prsM
     rw [show (clsM r == 0) = false by simpa using hc]; rfl
    unfold ourM crtL
    rw [hg]; rfl
   rw [bif_true (by simpa using hc),e1,e2,e3]; rfl
 rw [bif_false (by simpa using hc)]
 obtain ⟨q1,q2⟩:=rby_riv hc ps
 obtain ⟨p1,p2,p3⟩:=riv_parts q1
 have hlow:=low_le p1 (fun c h=>(p2 c h).2.1) p3
 obtain ⟨o1,o2⟩:=rby_ok r ps
 obtain ⟨a1,a2,a3⟩:=smc_of (cs:=rbyM r ps) (by omega) (fun c hc=>by have:=(o2 c hc).1; omega)
 obtain ⟨b1,b2,b3⟩:=smc_of (cs:=oneM (untM r).length) (by unfold oneM; rw [List.length_map,ints_len]; omega) (fun c hc=>by
  unfold oneM at hc
  obtain ⟨u,_,rfl⟩:=List.mem_map.1 hc
  simp)
 obtain ⟨u1,u2⟩:=our_ok r
 obtain ⟨d1,d2,d3⟩:=smc_of (cs:=ourM r) (by omega) (fun c hc=>by have:=u2 c hc; omega)
 rw [lp_every (untM r).length (by omega) (fun n o i=>d_laws_FnRivals_L1 2097153 (r,ps) (rbyM r ps) (untM r) n o i) (fun o=>d_laws_FnRivals_L1_B 2097153 (r,ps) (rbyM r ps) (untM r) (fun _ _=>none) o ((untM r).length:Int)) ?_ ?_ 2097153 (by omega)]
 · unfold d_laws_FnRivals_L1_B
   rw [bif_false (by simp)]
   simp only [i_one hs,i_ours hs,i_rival hs (rbyM r ps) a1 a2 a3,i_rival hs (oneM (untM r).length) b1 b2 b3,i_rival hs (ourM r) d1 d2 d3,i_mix hs (ourM r) d1 d2,q1,one_riv hc,our_riv hc,our_mix,ob_some,cond_true,Bool.not_false,i_low hs p1 (us:=ints 0 (untM r).length) (by rw [ints_len]; omega)]
   rw [bif_true (by simp; omega)]
   simp only [Option.some.injEq,decide_eq_true_eq]
   omega
 · intro k o i hd
   simp only [d_laws_FnRivals_L1.eq_2]
   unfold d_laws_FnRivals_L1_B
   rw [hd,cond_true]
 · intro k o i hd
   simp only [d_laws_FnRivals_L1.eq_2]
   unfold d_laws_FnRivals_L1_B
   rw [hd,cond_false,bif_false (by simp)]
end Go.Proofs.YthddjkokpfdbnaaGreat
