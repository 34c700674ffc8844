import Derived.Test.YthddjkokpfdbnaaDepthsD
import Derived.Test.YthddjkokpfdbnaaDepthsBP2
set_option linter.unusedSimpArgs false
set_option linter.unusedVariables false
/- The plain law of FnDepths. -/
namespace Go.Proofs.Ythddjkokpfdbnaa
open Go
open Enc (rd ow)
open Arg (argv)
open Ret (retv)
open Wf (wf)
theorem dr_boxes {fu:Nat} {b:List U8} {c:Cur} (h:CO b c) (hf:1001 ≤ fu):Tot (d_spec_l10Boxes fu c) fun x=>x.2.1.length ≤ 12:=by
 unfold d_spec_l10Boxes
 refine Tot.bind (dr_below h _) fun x1 h1=>Tot.bind (dr_below (h.re h1.2) _) fun x2 h2=>Tot.bind (dr_below (h.re h2.2) _) fun x3 h3=>Tot.bind (dr_pick (h.re h3.2) _ (by simp)) fun x4 h4=>Tot.bind (dr_below (h.re h4.2) _) fun x5 h5=>?_
 obtain ⟨n0,n1⟩:=h5.1
 have n1:=n1 (by omega)
 have hJ:∀ (f1 f2:Int) (out:List Box),CO b ⟨c.fb,f1,f2⟩ → out.length ≤ 12 → Tot (d_spec_l10Boxes_J2 fu c x1 x2 x3 x4 f1 f2 out) fun x=>x.2.1.length ≤ 12:=by
  intro f1 f2 out hc ho
  unfold d_spec_l10Boxes_J2 d_spec_l10Boxes_J1
  exact Tot.bind (dr_once hc _) fun y hy=>Tot.bif (fun _=>Tot.bind (dr_pick (hc.re hy) _ (by simp)) fun z hz=>Tot.mk ho) (fun _=>Tot.mk ho)
 refine lpT x5.1 (fun n (s:Int × Int × List Box) i=>d_spec_l10Boxes_L1 fu c x1 x2 x3 x4 x5 n s.1 s.2.1 s.2.2 i) (fun x:Pallet × List Box × Cur=>x.2.1.length ≤ 12) (fun i s=>CO b ⟨c.fb,s.1,s.2.1⟩ ∧ (s.2.2.length:Int) = i ∧ i ≤ x5.1) (by omega) ?_ ?_ (x5.1 - 0).toNat fu (x5.2.fi,x5.2.fh,[]) 0 (by omega) rfl (by omega) ⟨h.re h5.2,by simp,by omega⟩
 · intro n ⟨f1,f2,o⟩ i i0 i1 hI ih
   obtain ⟨j1,j2,j3⟩:CO b ⟨c.fb,f1,f2⟩ ∧ (o.length:Int) = i ∧ i ≤ x5.1:=hI
   simp only [d_spec_l10Boxes_L1.eq_2]
   unfold d_spec_l10Boxes_L1_B
   rw [bif_true (by simpa using i1)]
   refine Tot.bind (dr_below j1 _) fun y1 k1=>Tot.bind (dr_below (j1.re k1.2) _) fun y2 k2=>Tot.bind (dr_below (j1.re k2.2) _) fun y3 k3=>Tot.bind (dr_below (j1.re k3.2) _) fun y4 k4=>Tot.ap (by simp; omega) ?_
   exact ih (y4.2.fi,y4.2.fh,_) ⟨j1.re k4.2,by simp; omega,by omega⟩
 · intro n ⟨f1,f2,o⟩ i i0 i1 hI
   obtain ⟨j1,j2,j3⟩:CO b ⟨c.fb,f1,f2⟩ ∧ (o.length:Int) = i ∧ i ≤ x5.1:=hI
   simp only [d_spec_l10Boxes_L1.eq_2]
   unfold d_spec_l10Boxes_L1_B
   rw [bif_false (by simp; omega)]
   refine Tot.bif (fun hc=>?_) fun _=>hJ _ _ _ j1 (by omega)
   have hc:x5.1 > 0:=by simpa using hc
   refine Tot.bind (dr_once j1 _) fun y hy=>Tot.bif (fun _=>Tot.bind (dr_pick (j1.re hy) _ (by simp)) fun z hz=>Tot.ix ⟨by omega,by omega⟩ fun q _=>?_) fun _=>hJ _ _ _ (j1.re hy) (by omega)
   exact hJ _ _ _ (j1.re hz.2) (by simp [setx]; omega)
theorem fold_sum (f:Box → Int):∀ (l:List Box) (n:Int),l.foldl (fun n b=>n + f b) n = n + sumI (l.map f)
 | [],n=>by simp
 | b :: l,n=>by rw [List.foldl_cons,fold_sum f l,List.map_cons,sumI_cons]; omega
theorem box_in {p:Pallet} {l:List Box} (hb:bosB p l = true) {b:Box} (h:b ∈ l):(1 ≤ b.fW ∧ b.fW ≤ 2000) ∧ (1 ≤ b.fD ∧ b.fD ≤ 2000) ∧ (1 ≤ b.fGram ∧ b.fGram ≤ 100000):=by
 obtain ⟨pw,pd,ph,pg⟩:=pal_bd (bos_pal hb)
 unfold bosB at hb
 simp only [Bool.and_eq_true] at hb
 have:=List.all_eq_true.1 hb.2 b h
 simp only [bokB,Bool.and_eq_true,inb_iff] at this
 omega
theorem area_eq {p:Pallet} {l:List Box} (hb:bosB p l = true):areaOf l = areaI l ∧ 0 ≤ areaI l ∧ areaI l ≤ 4000000 * l.length:=by
 have e:areaOf l = areaI l:=by
  unfold areaOf areaI
  rw [fold_sum boxArea l 0,Int.zero_add]
  congr 1
  refine List.map_congr_left fun b hm=>?_
  have:=box_in hb hm
  unfold boxArea
  rw [if_pos ⟨inB_iff.2 (by omega),inB_iff.2 (by omega)⟩]
 refine ⟨e,?_,?_⟩
 · rw [← e]; unfold areaOf; rw [fold_sum boxArea l 0,Int.zero_add]
   exact sumI_nn _ _ fun b _=>(boxArea_le b).1
 · rw [← e]; unfold areaOf; rw [fold_sum boxArea l 0,Int.zero_add]
   exact sumI_le _ _ _ fun b _=>(boxArea_le b).2
theorem deepest_ge:∀ (l:List Box) (n:Int),n ≤ l.foldl (fun n b=>if b.fD > n then b.fD else n) n ∧ ∀ b ∈ l,b.fD ≤ l.foldl (fun n b=>if b.fD > n then b.fD else n) n
 | [],n=>⟨Int.le_refl _,by simp⟩
 | b :: l,n=>by
  rw [List.foldl_cons]
  obtain ⟨h1,h2⟩:=deepest_ge l (if b.fD > n then b.fD else n)
  have h3:n ≤ (if b.fD > n then b.fD else n) ∧ b.fD ≤ (if b.fD > n then b.fD else n):=by split <;> omega
  refine ⟨by omega,fun c hc=>?_⟩
  rcases List.mem_cons.1 hc with rfl | hc
  · omega
  · exact h2 c hc
theorem deepest_le:∀ (l:List Box) (n m:Int),n ≤ m → (∀ b ∈ l,b.fD ≤ m) → l.foldl (fun n b=>if b.fD > n then b.fD else n) n ≤ m
 | [],_,_,h,_=>h
 | b :: l,n,m,h,hl=>by
  rw [List.foldl_cons]
  refine deepest_le l _ m ?_ fun c hc=>hl c (by simp [hc])
  have:=hl b (by simp)
  split <;> omega
theorem gram_eq:∀ (l:List Box) (n:Int),0 ≤ n → (∀ b ∈ l,0 ≤ b.fGram ∧ b.fGram ≤ 100000) → n + 100000 * l.length ≤ 1000000000 → gramSum l n = n + sumI (l.map (·.fGram))
 | [],n,_,_,_=>by simp [gramSum]
 | b :: l,n,h0,h,hn=>by
  have hb:=h b (by simp)
  simp only [List.length_cons] at hn
  have ih:=gram_eq l (n + b.fGram) (by omega) (fun c hc=>h c (by simp [hc])) (by omega)
  unfold gramSum at ih ⊢
  rw [List.foldl_cons,w64_id (by omega) (by omega),ih,List.map_cons,sumI_cons]; omega
theorem i_depth {fu:Nat} (hfu:2097153 ≤ fu) {l:List Shelf} (hl:l.length ≤ 1000) (hd:∀ s ∈ l,0 ≤ s.fD ∧ s.fD ≤ 2000):d_impl_DepthOf fu l = some (sumI (l.map (·.fD))):=by
 unfold d_impl_DepthOf
 have key:=lpI l (fun n (o:List Int) i=>d_impl_DepthOf_L1 fu l n o i) (fun xs o=>obind (d_impl_Sum fu (o ++ xs.map (·.fD))) fun x=>some x) (fun xs o=>o.length + xs.length ≤ 1000) (by omega) ?_ ?_ fu [] (by simp; omega) (by omega)
 · rw [key,List.nil_append]
   have hS:d_impl_Sum fu (l.map (·.fD)) = some (sumI (l.map (·.fD))):=by
    unfold d_impl_Sum
    have k2:=lpI (l.map (·.fD)) (fun n (s:Int) i=>d_impl_Sum_L1 fu (l.map (·.fD)) n s i) (fun xs s=>some (s + sumI xs)) (fun xs s=>(0 ≤ s ∧ s + 2000 * xs.length ≤ 1000000000) ∧ ∀ x ∈ xs,0 ≤ x ∧ x ≤ 2000) (by simp; omega) ?_ ?_ fu 0 ⟨by simp; omega,fun x hx=>by
     obtain ⟨s,hs,rfl⟩:=List.mem_map.1 hx
     exact hd s hs⟩ (by simp; omega)
    · simpa using k2
    · intro n s i x xs hx hd' hI ih
      obtain ⟨⟨j0,j1⟩,j2⟩:=hI
      simp only [List.length_cons] at j1
      have hx2:=j2 x (by simp)
      simp only [d_impl_Sum_L1.eq_2]
      unfold d_impl_Sum_L1_B d_impl_Sum_J1
      rw [hd',cond_true,hx,ob_some,in_eq,ob_some,show inB x (-1000000000) 1000000000 = true from inB_iff.2 (by omega),cond_true,w64_id (n:=s + x) (by omega) (by omega),ih _ ⟨⟨by omega,by omega⟩,fun y hy=>j2 y (by simp [hy])⟩,sumI_cons]
      congr 1; omega
    · intro n s i hd' _
      simp only [d_impl_Sum_L1.eq_2]
      unfold d_impl_Sum_L1_B
      rw [hd',cond_false]; simp
   rw [hS]; rfl
 · intro n o i x xs hx hd' hI ih
   simp only [List.length_cons] at hI
   simp only [d_impl_DepthOf_L1.eq_2]
   unfold d_impl_DepthOf_L1_B
   rw [hd',cond_true,hx,ob_some,ap1 (by simp; omega),ob_some,ih _ (by simp; omega)]
   simp
 · intro n o i hd' _
   simp only [d_impl_DepthOf_L1.eq_2]
   unfold d_impl_DepthOf_L1_B
   rw [hd',cond_false]; simp
theorem up_bd {a b:Int} (ha:0 ≤ a ∧ a ≤ 4000000000) (hb:1 ≤ b ∧ b ≤ 8000000000):w64 (Int.tdiv (w64 (w64 (a + b) - 1)) b) = upM a b:=by
 unfold upM
 rw [w64_id (n:=a + b) (by omega) (by omega),w64_id (n:=a + b - 1) (by omega) (by omega)]
 have h0:0 ≤ Int.tdiv (a + b - 1) b:=Int.tdiv_nonneg (by omega) (by omega)
 have h1:Int.tdiv (a + b - 1) b ≤ a + b - 1:=by
  rw [Int.tdiv_eq_ediv_of_nonneg (by omega)]
  exact Int.ediv_le_self _ (by omega)
 rw [w64_id (by omega) (by omega)]
theorem fnDepths_pure (b:List U8) (_:wf b):∃ fu,d_laws_FnDepths fu b = some true:=by
 refine ⟨2097153,?_⟩
 unfold d_laws_FnDepths
 rw [show d_laws_big 2097153 b = some (decide ((b.length:Int) > 1048576)) from rfl,ob_some]
 by_cases hbb:(b.length:Int) > 1048576
 · rw [bif_true (by simpa using hbb)]
 rw [bif_false (by simpa using hbb)]
 obtain ⟨c,hc,hC⟩:=dr_new (fu:=2097153) (b:=b) (by omega) (by omega)
 obtain ⟨y,hy,hyl⟩:=dr_boxes (fu:=2097153) (c:=⟨b,c.fi,c.fh⟩) hC.re' (by omega)
 obtain ⟨p,l,c2⟩:=y
 have hl:l.length ≤ 12:=hyl
 unfold d_spec_DrawDepthPromise
 rw [hc,ob_some,hy,ob_some,ob_some]
 have hbi:=implBoxesOk_eq 2097153 p l (by omega) (by omega)
 have hbs:=specBoxesOk_eq 2097153 p l (by omega) (by omega)
 rw [bos_eq] at hbi hbs
 have hai:=implAreaOf_eq 2097153 l (by omega) (by omega)
 have has:=specAreaOf_eq 2097153 l (by omega) (by omega)
 have hdi:=implDeepest_eq 2097153 l (by omega) (by omega)
 have hds:=specDeepest_eq 2097153 l (by omega) (by omega)
 have hlt:=light_eq 2097153 p l (by omega) (by omega)
 have hls:=specLight_eq 2097153 p l (by omega) (by omega)
 rw [bos_eq] at hls
 rw [hls] at hlt
 cases hb:bosB p l
 · rw [hb] at hbi hbs hls hlt
   unfold d_impl_DepthPromise d_spec_DepthPromise d_impl_AreaNeeds d_spec_AreaNeeds d_laws_FnDepths_J2
   simp only [hbi,hbs,hls,hlt,ob_some]
   rfl
 · obtain ⟨ea,a0,a1⟩:=area_eq hb
   obtain ⟨pw,pd,ph,pg⟩:=pal_bd (bos_pal hb)
   rw [ea] at hai has
   have hm:=deepest_ge l 0
   have hm2:=deepest_le l 0 2000 (by omega) fun b hbm=>(box_in hb hbm).2.1.2
   have hWD:1 ≤ p.fW * p.fD ∧ p.fW * p.fD ≤ 4000000:=by
    have h1:=Int.mul_le_mul pw.1 pd.1 (by omega) (by omega:0 ≤ p.fW)
    have h2:=Int.mul_le_mul pw.2 pd.2 (by omega) (by omega:(0:Int) ≤ 2000)
    omega
   have hq:0 ≤ Int.tdiv (2 * areaI l) p.fW ∧ Int.tdiv (2 * areaI l) p.fW ≤ 2 * areaI l:=by
    rw [Int.tdiv_eq_ediv_of_nonneg (by omega)]
    exact ⟨Int.ediv_nonneg (by omega) (by omega),Int.ediv_le_self _ (by omega)⟩
   have hup:=up_bd (a:=areaI l) (b:=p.fW * p.fD) (by omega) (by omega)
   have hai':d_impl_AreaNeeds 2097153 p l = some (upM (areaI l) (p.fW * p.fD)):=by
    unfold d_impl_AreaNeeds d_impl_upBy
    rw [hbi,hb,ob_some,Bool.not_true,cond_false,hai,ob_some,w64_id (n:=p.fW * p.fD) (by omega) (by omega),odiv_ok (by omega),ob_some,hup,ob_some]
   have has':d_spec_AreaNeeds 2097153 p l = some (upM (areaI l) (p.fW * p.fD)):=by
    unfold d_spec_AreaNeeds d_spec_l8Up
    rw [hbs,hb,ob_some,Bool.not_true,cond_false,has,ob_some,w64_id (n:=p.fW * p.fD) (by omega) (by omega),odiv_ok (by omega),ob_some,hup,ob_some]
   have hD:deepest l = l.foldl (fun n b=>if b.fD > n then b.fD else n) 0:=rfl
   rw [← hD] at hm hm2
   have hpi:d_impl_DepthPromise 2097153 p l = some (deepest l + Int.tdiv (2 * areaI l) p.fW):=by
    unfold d_impl_DepthPromise
    rw [hbi,hb,ob_some,Bool.not_true,cond_false,hdi,ob_some,hai,ob_some,odiv_ok (by omega),ob_some,w64_id (n:=2 * areaI l) (by omega) (by omega),w64_id (n:=Int.tdiv _ _) (by omega) (by omega),w64_id (by omega) (by omega)]
   have hps:d_spec_DepthPromise 2097153 p l = some (deepest l + Int.tdiv (2 * areaI l) p.fW):=by
    unfold d_spec_DepthPromise
    rw [hbs,hb,ob_some,Bool.not_true,cond_false,hds,ob_some,has,ob_some,odiv_ok (by omega),ob_some,w64_id (n:=2 * areaI l) (by omega) (by omega),w64_id (n:=Int.tdiv _ _) (by omega) (by omega),w64_id (by omega) (by omega)]
   unfold d_laws_FnDepths_J2
   simp only [hpi,hps,hls,hlt,hai',has',ob_some,bne_self_eq_false,cond_false,beq_self_eq_true,Bool.not_true]
   cases hlg:bosB p l && decide (gramSum l 0 ≤ p.fGram)
   · rfl
   · rw [Bool.not_true,cond_false]
     have hg:sumI (l.map (·.fGram)) ≤ p.fGram:=by
      rw [hb,Bool.true_and,decide_eq_true_eq,gram_eq l 0 (by omega) (fun b hbm=>by have:=(box_in hb hbm).2.2; omega) (by omega)] at hlg
      omega
     obtain ⟨r1,r2,r3,r4,r5,r6,r7⟩:=depths hb hg hm.1 hm.2
     obtain ⟨q1,q2,q3⟩:=shM_all hb
     have hlay:=(lyM_all r1).2.2
     have hdd:∀ s ∈ shM p l,0 ≤ s.fD ∧ s.fD ≤ 2000:=fun s hs=>by have:=(r1 s hs).1; omega
     have hsd0:=sumI_nn (fun s:Shelf=>s.fD) (shM p l) fun s hs=>(hdd s hs).1
     have hsd1:=sumI_le (fun s:Shelf=>s.fD) (shM p l) 2000 fun s hs=>(hdd s hs).2
     rw [i_shelves (by omega) p l (by omega),ob_some,i_layers (by omega) (bos_pal hb) r1 (by omega),ob_some,i_depth (by omega) (by omega) hdd,ob_some]
     have hlp:d_impl_LayersPromise 2097153 p l (upM (areaI l) (p.fW * p.fD)) = some (4 * upM (areaI l) (p.fW * p.fD) + 1):=by
      unfold d_impl_LayersPromise d_impl_LayersPromise_J1
      rw [hbi,hb,ob_some,Bool.not_true,cond_false,in_eq,ob_some,show inB (upM (areaI l) (p.fW * p.fD)) 0 1000 = true from inB_iff.2 (by omega),Bool.not_true,cond_false,w64_id (n:=4 * _) (by omega) (by omega),w64_id (by omega) (by omega)]
     have hJ:d_laws_FnDepths_J1 2097153 (p,l) (deepest l + Int.tdiv (2 * areaI l) p.fW) (lyM p (shM p l)) (sumI ((shM p l).map (·.fD))) = some true:=by
      unfold d_laws_FnDepths_J1
      simp only [hai',ob_some,hlp]
      rw [bif_true (by simpa using r3),bif_true (by simpa using r4)]
      simpa using r5
     by_cases h1:1 < (shM p l).length
     · have r2:=r2 h1
       rw [bif_true (by simp; omega)]
       simp only [hdi,hai,ob_some]
       have e1:sumI ((shM p l).map (·.fD)) - deepest l ≤ 24000:=by omega
       have e2:-2000 ≤ sumI ((shM p l).map (·.fD)) - deepest l:=by omega
       have e3:p.fW * (sumI ((shM p l).map (·.fD)) - deepest l) ≤ p.fW * 24000:=Int.mul_le_mul_of_nonneg_left e1 (by omega)
       have e4:p.fW * (-2000) ≤ p.fW * (sumI ((shM p l).map (·.fD)) - deepest l):=Int.mul_le_mul_of_nonneg_left e2 (by omega)
       rw [w64_id (n:=sumI _ - _) (by omega) (by omega),w64_id (n:=p.fW * _) (by omega) (by omega),w64_id (n:=2 * areaI l) (by omega) (by omega),bif_false (by simpa using r2)]
       exact hJ
     · rw [bif_false (by simp; omega)]
       exact hJ
end Go.Proofs.Ythddjkokpfdbnaa
