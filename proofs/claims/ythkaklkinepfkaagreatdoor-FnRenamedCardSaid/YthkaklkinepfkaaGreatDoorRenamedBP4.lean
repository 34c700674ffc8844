/- RenamedBP: plain lemmas, part 4. -/
import Derived.Test.YthkaklkinepfkaaGreatDoorRenamedBP3
set_option linter.unusedSimpArgs false
set_option linter.unusedVariables false
namespace Go.Proofs.YthkaklkinepfkaaGreatDoor
open Go
open Enc (rd ow)
open Arg (argv)
open Ret (retv)
open Wf (wf)
def CT (l:List Typ):Prop:=∀ t ∈ l,t.fCost ≤ 1000
theorem CT.app {l:List Typ} {y:Typ} (h:CT l) (hy:y.fCost ≤ 1000):CT (l ++ [y]):=fun t ht=>by
 rcases List.mem_append.1 ht with ht | ht
 · exact h t ht
 · rw [List.mem_singleton.1 ht]; exact hy
theorem CT.set {l:List Typ} {i:Int} {y:Typ} (h:CT l) (hy:y.fCost ≤ 1000):CT (setx l i y):=fun t ht=>by
 unfold setx at ht
 rcases List.mem_or_eq_of_mem_set ht with ht | rfl
 · exact h t ht
 · exact hy
theorem dr_rightC {fu:Nat} {b:List U8} {c:Cur} (h:CO b c) (hf:1048577 ≤ fu):Tot (d_spec_l2Right fu c) fun x=>(x.1.fPairs.length ≤ 40 ∧ (1 ≤ x.1.fTypes.length ∧ x.1.fTypes.length ≤ 8) ∧ x.1.fItems.length ≤ 8) ∧ CO b x.2 ∧ CT x.1.fTypes:=by
 unfold d_spec_l2Right
 refine Tot.bind (dr_below h _) fun x1 h1=>Tot.bind (dr_pick (h.re h1.2) _ (by simp)) fun x2 h2=>Tot.bind (dr_pick (h.re h2.2) _ (by simp)) fun x3 h3=>Tot.bind (dr_pick (h.re h3.2) _ (by simp)) fun x4 h4=>Tot.bind (dr_pick (h.re h4.2) _ (by simp)) fun x5 h5=>Tot.bind (dr_below (h.re h5.2) _) fun x6 h6=>?_
 have hb:=h.2.2
 have hcb:=h.1
 obtain ⟨c0,c1⟩:=h6.1
 have c1:=c1 (by omega)
 have ew:w64 (1 + x6.1) = 1 + x6.1:=w64_id (by omega) (by omega)
 have L4:=lpT (1 + x6.1) (fun n (s:Int × Int × List Pair) i=>d_spec_l2Right_L4 fu c x1 x2 x3 x4 x5 x6 n s.1 s.2.1 s.2.2 i) (fun x:Request × Cur=>(x.1.fPairs.length ≤ 40 ∧ (1 ≤ x.1.fTypes.length ∧ x.1.fTypes.length ≤ 8) ∧ x.1.fItems.length ≤ 8) ∧ CO b x.2 ∧ CT x.1.fTypes)
  (fun i s=>0 ≤ s.1 ∧ (s.2.2.length:Int) ≤ 8 * i ∧ i ≤ 4) (by omega) ?_ ?_ (1 + x6.1 - 0).toNat fu (x6.2.fi,x6.2.fh,[]) 0 (by omega) rfl (by omega) ⟨h6.2.2.1,by simp,by omega⟩
 · exact L4
 · intro n ⟨f1,f2,ps⟩ a ha0 ha1 hI ih
   obtain ⟨i1,i2,i3⟩:0 ≤ f1 ∧ (ps.length:Int) ≤ 8 * a ∧ a ≤ 4:=hI
   simp only [d_spec_l2Right_L4.eq_2]
   unfold d_spec_l2Right_L4_B
   rw [ew,bif_true (by simpa using ha1)]
   have L1:=lpT (a + 1) (fun m (s:Int × Int × List Pair) i=>d_spec_l2Right_L1 fu (d_spec_l2Right_L4 fu c x1 x2 x3 x4 x5 x6 n) c a m s.1 s.2.1 s.2.2 i) (fun x:Request × Cur=>(x.1.fPairs.length ≤ 40 ∧ (1 ≤ x.1.fTypes.length ∧ x.1.fTypes.length ≤ 8) ∧ x.1.fItems.length ≤ 8) ∧ CO b x.2 ∧ CT x.1.fTypes)
    (fun i s=>0 ≤ s.1 ∧ (s.2.2.length:Int) ≤ 8 * a + 2 * i ∧ i ≤ a + 1) (by omega) ?_ ?_ (a + 1 - 0).toNat fu (f1,f2,ps) 0 (by omega) rfl (by omega) ⟨i1,by simp; omega,by omega⟩
   · exact L1
   · intro m ⟨g1,g2,qs⟩ i hi0 hi1 hI ih2
     obtain ⟨j1,j2,j3⟩:0 ≤ g1 ∧ (qs.length:Int) ≤ 8 * a + 2 * i ∧ i ≤ a + 1:=hI
     simp only [d_spec_l2Right_L1.eq_2]
     unfold d_spec_l2Right_L1_B
     rw [bif_true (by simp; omega)]
     unfold d_spec_l2Right_J1
     refine Tot.bif (fun hc=>?_) fun hc=>?_
     · refine Tot.ap (by simp; omega) ?_
       exact ih2 (g1,g2,_) ⟨j1,by simp; omega,by omega⟩
     · refine Tot.bind (dr_once (b:=b) (c:=⟨c.fb,g1,g2⟩) ⟨hcb,j1,hb⟩ 2) fun y hy=>?_
       refine Tot.bif (fun hc=>?_) fun hc=>?_
       · refine Tot.ap (by simp; omega) ?_
         exact ih2 (y.2.fi,y.2.fh,_) ⟨hy.2.1,by simp; omega,by omega⟩
       · exact ih2 (y.2.fi,y.2.fh,_) ⟨hy.2.1,by simp; omega,by omega⟩
   · intro m ⟨g1,g2,qs⟩ i hi0 hi1 hI
     obtain ⟨j1,j2,j3⟩:0 ≤ g1 ∧ (qs.length:Int) ≤ 8 * a + 2 * i ∧ i ≤ a + 1:=hI
     simp only [d_spec_l2Right_L1.eq_2]
     unfold d_spec_l2Right_L1_B
     rw [bif_false (by simp; omega)]
     have:i = a + 1:=by omega
     exact ih (g1,g2,qs) ⟨j1,by simp; omega,by omega⟩
 · intro n ⟨f1,f2,ps⟩ a ha0 ha1 hI
   obtain ⟨i1,i2,i3⟩:0 ≤ f1 ∧ (ps.length:Int) ≤ 8 * a ∧ a ≤ 4:=hI
   simp only [d_spec_l2Right_L4.eq_2]
   unfold d_spec_l2Right_L4_B
   rw [ew,bif_false (by simpa using ha1)]
   refine Tot.bind (dr_below (b:=b) (c:=⟨c.fb,f1,f2⟩) ⟨hcb,i1,hb⟩ _) fun y1 g1=>Tot.bind (dr_pick (h.re g1.2) _ (by simp)) fun y2 g2=>Tot.bind (dr_pick (h.re g2.2) _ (by simp)) fun y3 g3=>Tot.ap (by simp) ?_
   unfold d_spec_l2Right_J5
   refine Tot.bind (dr_below (h.re g3.2) _) fun y4 g4=>?_
   obtain ⟨e0,e1⟩:=g4.1
   have e1:=e1 (by omega)
   have L3:=lpT y4.1 (fun m (s':Int × Int × List Typ) i=>d_spec_l2Right_L3 fu c x1 x2 x3 x4 x5 x6 ps y4 m s'.1 s'.2.1 s'.2.2 i) (fun x:Request × Cur=>(x.1.fPairs.length ≤ 40 ∧ (1 ≤ x.1.fTypes.length ∧ x.1.fTypes.length ≤ 8) ∧ x.1.fItems.length ≤ 8) ∧ CO b x.2 ∧ CT x.1.fTypes)
    (fun i s=>0 ≤ s.1 ∧ (s.2.2.length:Int) = 1 + i ∧ i ≤ y4.1 ∧ CT s.2.2) (by omega) ?_ ?_ (y4.1 - 0).toNat fu (y4.2.fi,y4.2.fh,([]:List Typ) ++ [(⟨7,12,10,11,y1.1,y2.1,y3.1⟩:Typ)]) 0 (by omega) rfl (by omega) ⟨g4.2.2.1,by simp,by omega,fun t ht=>by
    have hc3:=g3.1
    simp only [List.mem_cons,List.not_mem_nil,or_false] at hc3
    simp only [List.nil_append,List.mem_singleton] at ht
    rw [ht]
    show y3.1 ≤ 1000
    omega⟩
   · exact L3
   · intro m ⟨g1,g2,ts⟩ i hi0 hi1 hI ih2
     obtain ⟨j1,j2,j3,j4⟩:0 ≤ g1 ∧ (ts.length:Int) = 1 + i ∧ i ≤ y4.1 ∧ CT ts:=hI
     simp only [d_spec_l2Right_L3.eq_2]
     unfold d_spec_l2Right_L3_B
     rw [bif_true (by simp; omega)]
     refine Tot.bind (dr_below (b:=b) (c:=⟨c.fb,g1,g2⟩) ⟨hcb,j1,hb⟩ _) fun z1 f1=>Tot.bind (dr_below (h.re f1.2) _) fun z2 f2=>Tot.bind (dr_below (h.re f2.2) _) fun z3 f3=>Tot.bind (dr_below (h.re f3.2) _) fun z4 f4=>Tot.bind (dr_below (h.re f4.2) _) fun z5 f5=>Tot.bind (dr_below (h.re f5.2) _) fun z6 f6=>Tot.ap (by simp; omega) ?_
     have hc6:=f6.1.2 (by omega)
     have hc60:=f6.1.1
     exact ih2 (z6.2.fi,z6.2.fh,_) ⟨f6.2.2.1,by simp; omega,by omega,fun t ht=>by
      rcases List.mem_append.1 ht with ht | ht
      · exact j4 t ht
      · rw [List.mem_singleton.1 ht]
        show w64 (1 + z6.1) ≤ 1000
        rw [w64_id (by omega) (by omega)]
        omega⟩
   · intro m ⟨g1,g2,ts⟩ i hi0 hi1 hI
     obtain ⟨j1,j2,j3,j4⟩:0 ≤ g1 ∧ (ts.length:Int) = 1 + i ∧ i ≤ y4.1 ∧ CT ts:=hI
     simp only [d_spec_l2Right_L3.eq_2]
     unfold d_spec_l2Right_L3_B
     rw [bif_false (by simp; omega)]
     refine Tot.bind (dr_below (b:=b) (c:=⟨c.fb,g1,g2⟩) ⟨hcb,j1,hb⟩ _) fun z f=>?_
     obtain ⟨q0,q1⟩:=f.1
     have q1:=q1 (by omega)
     have L2:=lpT z.1 (fun m (t:Int × Int × List Item × Int) i=>d_spec_l2Right_L2 fu c x1 x2 x3 x4 x5 x6 ps ts z m t.1 t.2.1 t.2.2.1 t.2.2.2 i) (fun x:Request × Cur=>(x.1.fPairs.length ≤ 40 ∧ (1 ≤ x.1.fTypes.length ∧ x.1.fTypes.length ≤ 8) ∧ x.1.fItems.length ≤ 8) ∧ CO b x.2 ∧ CT x.1.fTypes)
      (fun i t=>0 ≤ t.1 ∧ (t.2.2.1.length:Int) ≤ i ∧ i ≤ z.1) (by omega) ?_ ?_ (z.1 - 0).toNat fu (z.2.fi,z.2.fh,[],0) 0 (by omega) rfl (by omega) ⟨f.2.2.1,by simp,by omega⟩
     · exact L2
     · intro m' ⟨k4,k5,is,un⟩ i' hi0 hi1 hI ih2
       obtain ⟨k1,k2,k3⟩:0 ≤ k4 ∧ (is.length:Int) ≤ i' ∧ i' ≤ z.1:=hI
       simp only [d_spec_l2Right_L2.eq_2]
       unfold d_spec_l2Right_L2_B
       rw [bif_true (by simp; omega)]
       refine Tot.bind (dr_below (b:=b) (c:=⟨c.fb,k4,k5⟩) ⟨hcb,k1,hb⟩ _) fun w1 v1=>Tot.bind (dr_below (h.re v1.2) _) fun w2 v2=>Tot.bind (dr_below (h.re v2.2) _) fun w3 v3=>Tot.bind (dr_below (h.re v3.2) _) fun w4 v4=>Tot.bind (dr_below (h.re v4.2) _) fun w5 v5=>Tot.bind (dr_below (h.re v5.2) _) fun w6 v6=>?_
       unfold d_spec_l2Right_J4
       have J3:∀ (p q:Int) (x:Item),0 ≤ p → Tot (d_spec_l2Right_J3 fu (d_spec_l2Right_L2 fu c x1 x2 x3 x4 x5 x6 ps ts z m') is un i' p q x) (fun x:Request × Cur=>(x.1.fPairs.length ≤ 40 ∧ (1 ≤ x.1.fTypes.length ∧ x.1.fTypes.length ≤ 8) ∧ x.1.fItems.length ≤ 8) ∧ CO b x.2 ∧ CT x.1.fTypes):=by
        intro p q x hp
        unfold d_spec_l2Right_J3 d_spec_l2Right_J2
        refine Tot.bif (fun hc=>?_) fun hc=>?_
        · refine Tot.ap (by simp; omega) ?_
          exact ih2 (p,q,_,_) ⟨hp,by simp; omega,by omega⟩
        · exact ih2 (p,q,_,_) ⟨hp,by simp; omega,by omega⟩
       refine Tot.bind (dr_once (h.re v6.2) _) fun w7 v7=>?_
       refine Tot.bif (fun hc=>?_) fun hc=>?_
       · refine Tot.bind (dr_below (h.re v7) _) fun w8 v8=>?_
         exact J3 _ _ _ v8.2.2.1
       · exact J3 _ _ _ v7.2.1
     · intro m' ⟨k4,k5,is,un⟩ i' hi0 hi1 hI
       obtain ⟨k1,k2,k3⟩:0 ≤ k4 ∧ (is.length:Int) ≤ i' ∧ i' ≤ z.1:=hI
       simp only [d_spec_l2Right_L2.eq_2]
       unfold d_spec_l2Right_L2_B
       rw [bif_false (by simp; omega)]
       exact Tot.mk ⟨⟨by simp; omega,by simp; omega,by simp; omega⟩,⟨hcb,k1,hb⟩,j4⟩
theorem dr_goodC {fu:Nat} {b:List U8} {c:Cur} (h:CO b c) (hf:2097153 ≤ fu):Tot (d_spec_l5Good fu c) fun x=>SmR x.1 ∧ CT x.1.fTypes ∧ CO b x.2:=by
 unfold d_spec_l5Good
 refine Tot.bind (dr_rightC h (by omega)) fun x hx=>?_
 obtain ⟨⟨a1,a2,a3⟩,hc,ht⟩:=hx
 have hs:SmR x.1:=⟨by omega,by omega,by omega⟩
 rw [s_cls (hs.sm hf),ob_some]
 refine Tot.bif (fun _=>?_) fun _=>Tot.mk ⟨hs,ht,h.re hc⟩
 have hs2:Sm fu (⟨x.1.fWay,(⟨30,25,24,400⟩:Pallet),x.1.fClasses,x.1.fPairs,x.1.fTypes,x.1.fMaster,x.1.fItems⟩:Request):=⟨hf,by simp; omega,by simp; omega,by simp; omega⟩
 rw [s_mas hs2,ob_some]
 generalize othM _ = t
 refine lpT (x.1.fItems.length:Int) (fun n s i=>d_spec_l5Good_L1 fu c x t n s i) _ (fun i s=>(s.length:Int) ≤ i ∧ i ≤ x.1.fItems.length) (by omega) ?_ ?_ _ fu [] 0 (by omega) rfl (by omega) ⟨by simp,by omega⟩
 · intro n s i h0 h1 hI ih
   simp only [d_spec_l5Good_L1.eq_2]
   unfold d_spec_l5Good_L1_B d_spec_l5Good_J1
   rw [bif_true (by simpa using h1)]
   refine Tot.ix ⟨h0,h1⟩ fun y hy=>?_
   rw [s_fit hf,ob_some]
   refine Tot.bif (fun _=>?_) fun _=>ih _ ⟨by omega,by omega⟩
   refine Tot.ix ⟨h0,h1⟩ fun y hy=>Tot.ap (by simp; omega) ?_
   exact ih _ ⟨by simp; omega,by omega⟩
 · intro n s i h0 h1 hI
   simp only [d_spec_l5Good_L1.eq_2]
   unfold d_spec_l5Good_L1_B
   rw [bif_false (by simp; omega)]
   exact Tot.mk ⟨⟨by simp; omega,by simp; omega,by simp; omega⟩,ht,h.re hc⟩
theorem dr_drawC {fu:Nat} {b:List U8} {c:Cur} (h:CO b c) (hf:2097153 ≤ fu):Tot (d_spec_l2Draw fu c) fun x=>SmR x.1 ∧ CT x.1.fTypes ∧ CO b x.2:=by
 unfold d_spec_l2Draw
 refine Tot.bind (dr_rightC h (by omega)) fun x hx=>?_
 obtain ⟨⟨a1,a2,a3⟩,hc,ht⟩:=hx
 obtain ⟨c1,c2,c3⟩:=h
 have h:CO b c:=⟨c1,c2,c3⟩
 refine Tot.bind (dr_pick (h.re hc) _ (by simp)) fun y hy=>Tot.bind (dr_below (h.re hy.2) _) fun z hz=>?_
 have J:∀ (f264 f265 f266 f267:Int) (f268:List Pair) (f273:List Typ) (f278:Int) (f279:List Item) (f286 f287:Int),f268.length ≤ 64 → (f273.length ≤ 64 ∧ CT f273) → f279.length ≤ 64 → 0 ≤ f286 → Tot (d_spec_l2Draw_J1 fu c x f264 f265 f266 f267 f268 f273 f278 f279 f286 f287) fun x=>SmR x.1 ∧ CT x.1.fTypes ∧ CO b x.2:=by
  intro f264 f265 f266 f267 f268 f273 f278 f279 f286 f287 q1 q2 q3 q4
  exact Tot.mk ⟨⟨q1,q2.1,q3⟩,q2.2,c1,q4,c3⟩
 have hz0:=hz.2.2.1
 refine Tot.bif (fun _=>?_) fun _=>?_
 · exact Tot.bind (dr_pick (h.re hz.2) _ (by simp)) fun y hy=>J _ _ _ _ _ _ _ _ _ _ (by omega) ⟨by omega,ht⟩ (by omega) hy.2.2.1
 refine Tot.bif (fun _=>?_) fun _=>?_
 · exact J _ _ _ _ _ _ _ _ _ _ (by omega) ⟨by omega,ht⟩ (by omega) hz0
 refine Tot.bif (fun _=>?_) fun _=>?_
 · exact J _ _ _ _ _ _ _ _ _ _ (by omega) ⟨by omega,ht⟩ (by omega) hz0
 refine Tot.bif (fun _=>?_) fun _=>?_
 · exact Tot.bind (dr_pick (h.re hz.2) _ (by simp)) fun y hy=>J _ _ _ _ _ _ _ _ _ _ (by omega) ⟨by omega,ht⟩ (by omega) hy.2.2.1
 refine Tot.bif (fun _=>?_) fun _=>?_
 · exact Tot.bind (dr_below (h.re hz.2) _) fun y hy=>Tot.bind (dr_below (h.re hy.2) _) fun v hv=>Tot.ap (by simp; omega) (J _ _ _ _ _ _ _ _ _ _ (by simp; omega) ⟨by omega,ht⟩ (by omega) hv.2.2.1)
 refine Tot.bif (fun _=>?_) fun _=>?_
 · exact Tot.ix (by omega) fun y hy=>J _ _ _ _ _ _ _ _ _ _ (by omega) ⟨by rw [setx_lenD]; omega,CT.set ht (ht y hy)⟩ (by omega) hz0
 refine Tot.bif (fun _=>?_) fun _=>?_
 · exact Tot.bind (dr_below (h.re hz.2) _) fun y hy=>Tot.ix ⟨hy.1.1,hy.1.2 (by omega)⟩ fun v hv=>J _ _ _ _ _ _ _ _ _ _ (by omega) ⟨by rw [setx_lenD]; omega,CT.set ht (ht v hv)⟩ (by omega) hy.2.2.1
 refine Tot.bif (fun _=>?_) fun _=>?_
 · exact Tot.bind (dr_pick (h.re hz.2) _ (by simp)) fun y hy=>J _ _ _ _ _ _ _ _ _ _ (by omega) ⟨by omega,ht⟩ (by omega) hy.2.2.1
 refine Tot.bif (fun _=>?_) fun _=>?_
 · exact Tot.bind (dr_below (h.re hz.2) _) fun y hy=>Tot.bind (dr_below (h.re hy.2) _) fun v hv=>Tot.ap (by simp; omega) (J _ _ _ _ _ _ _ _ _ _ (by omega) ⟨by omega,ht⟩ (by simp; omega) hv.2.2.1)
 refine Tot.bif (fun _=>?_) fun _=>?_
 · refine Tot.bif (fun hc=>?_) fun _=>?_
   · have:=of_decide_eq_true hc
     exact Tot.ix (by omega) fun y hy=>J _ _ _ _ _ _ _ _ _ _ (by omega) ⟨by omega,ht⟩ (by rw [setx_lenD]; omega) hz0
   · exact J _ _ _ _ _ _ _ _ _ _ (by omega) ⟨by omega,ht⟩ (by omega) hz0
 refine Tot.bif (fun _=>?_) fun _=>?_
 · refine Tot.bif (fun hc=>?_) fun _=>?_
   · have:=of_decide_eq_true hc
     rw [sls_from1 (by omega),ob_some]
     exact J _ _ _ _ _ _ _ _ _ _ (by simp; omega) ⟨by omega,ht⟩ (by omega) hz0
   · exact J _ _ _ _ _ _ _ _ _ _ (by omega) ⟨by omega,ht⟩ (by omega) hz0
 refine Tot.bif (fun _=>?_) fun _=>?_
 · exact Tot.ix (by omega) fun y hy=>Tot.ap (by simp; omega) (J _ _ _ _ _ _ _ _ _ _ (by omega) ⟨by simp; omega,CT.app ht (ht y hy)⟩ (by omega) hz0)
 refine Tot.bif (fun _=>?_) fun _=>?_
 · exact J _ _ _ _ _ _ _ _ _ _ (by omega) ⟨by simp,by intro t h; simp at h⟩ (by omega) hz0
 · exact J _ _ _ _ _ _ _ _ _ _ (by omega) ⟨by omega,ht⟩ (by omega) hz0
theorem dr_classC {fu:Nat} {b:List U8} (hb:b.length ≤ 1048576) (hf:2097153 ≤ fu):Tot (d_spec_DrawClass fu b) fun r=>SmR r ∧ CT r.fTypes:=by
 unfold d_spec_DrawClass
 refine Tot.bind (dr_new hb (by omega)) fun x hx=>Tot.bind (dr_once hx.re' _) fun y hy=>?_
 refine Tot.bif (fun _=>?_) fun _=>?_
 · exact Tot.bind (dr_goodC hy.re' hf) fun z hz=>Tot.mk ⟨hz.1,hz.2.1⟩
 · exact Tot.bind (dr_drawC hy.re' hf) fun z hz=>Tot.mk ⟨hz.1,hz.2.1⟩
def numB (n:Int):ByteArray:=⟨(Lib.itoa n).toArray⟩
theorem numB_size {n:Int} (h:0 ≤ n ∧ n ≤ 999999):(numB n).size ≤ 21:=by
 have:=Lib.itoa_length_le n (by omega) (by omega)
 unfold numB ByteArray.size
 simpa using this
theorem scat_ok {x y:ByteArray} (h:x.size + y.size ≤ 1000000000):scat x y = some (x ++ y):=by
 unfold scat
 rw [if_pos (by omega)]
theorem i_digits (fu:Nat) {n:Int} (h:0 ≤ n ∧ n ≤ 999999):d_impl_Digits fu n = some (numB n):=by
 unfold d_impl_Digits d_strconv_Itoa itoaO
 rw [if_pos (by omega)]; rfl
def sp1:ByteArray:=⟨#[32]⟩
def nl1:ByteArray:=⟨#[10]⟩
def lineL (o:ByteArray) (l:List Int):ByteArray:=l.foldl (fun o n=>o ++ (sp1 ++ numB n)) o
theorem line_size:∀ (l:List Int) (o:ByteArray),(∀ n ∈ l,0 ≤ n ∧ n ≤ 999999) → (lineL o l).size ≤ o.size + 22 * l.length
 | [],o,_=>by simp [lineL]
 | n :: l,o,h=>by
  have h1:=numB_size (h n (by simp))
  have h2:=line_size l (o ++ (sp1 ++ numB n)) fun m hm=>h m (by simp [hm])
  have e:(o ++ (sp1 ++ numB n)).size = o.size + (1 + (numB n).size):=by
   rw [ByteArray.size_append,ByteArray.size_append]; rfl
  rw [e] at h2
  show (lineL (o ++ (sp1 ++ numB n)) l).size ≤ _
  simp only [List.length_cons]
  omega
theorem i_line {fu:Nat} {l:List Int} (o:ByteArray) (hl:l.length ≤ 1000) (hf:l.length < fu) (ho:o.size ≤ 1000000) (h:∀ n ∈ l,0 ≤ n ∧ n ≤ 999999):d_impl_textLine fu o l = some (lineL o l ++ nl1,true):=by
 unfold d_impl_textLine
 have key:=lpI l (fun n (o:ByteArray) i=>d_impl_textLine_L1 fu l n o i) (fun xs o=>some (lineL o xs ++ nl1,true)) (fun xs o=>(∀ n ∈ xs,0 ≤ n ∧ n ≤ 999999) ∧ o.size + 22 * xs.length ≤ 2000000) (by omega) ?_ ?_ fu o ⟨h,by omega⟩ (by omega)
 · exact key
 · intro n o i x xs hx hd hI ih
   obtain ⟨i1,i2⟩:=hI
   simp only [List.length_cons] at i2
   have hxb:=i1 x (by simp)
   have hs:=numB_size hxb
   have e:(o ++ (sp1 ++ numB x)).size = o.size + (1 + (numB x).size):=by
    rw [ByteArray.size_append,ByteArray.size_append]; rfl
   have hsz:sp1.size = 1:=rfl
   simp only [d_impl_textLine_L1.eq_2]
   unfold d_impl_textLine_L1_B
   rw [hd,cond_true,hx,ob_some,i_in,ob_some,show inb x 0 999999 = true from inb_iff.2 hxb,Bool.not_true,cond_false,i_digits fu hxb,ob_some]
   show (obind (scat sp1 (numB x)) fun sv58=>obind (scat o sv58) fun sv60=>d_impl_textLine_L1 fu l n sv60 (w64 (i + 1))) = _
   rw [scat_ok (by omega),ob_some,scat_ok (by rw [ByteArray.size_append,hsz]; omega),ob_some,ih _ ⟨fun m hm=>i1 m (by simp [hm]),by omega⟩]
   rfl
 · intro n o i hd hI
   have i2:=hI.2
   simp only [d_impl_textLine_L1.eq_2]
   unfold d_impl_textLine_L1_B
   rw [hd,cond_false]
   show (obind (scat o nl1) fun sv62=>some (sv62,true)) = _
   rw [scat_ok (by rw [show nl1.size = 1 from rfl]; simp at i2; omega)]
   rfl
def carB:ByteArray:=⟨#[99,97,114,116,111,110]⟩
def numsL (c:Carton) (s:Spot):List Int:=[c.fType,c.fGroup,s.fPallet,s.fX,s.fY,s.fZ] ++ c.fUnits
theorem inc_bd:∀ (l pre:List Int),incP pre l = true → ∀ n ∈ l,0 ≤ n ∧ n ≤ 999
 | [],_,_,n,hn=>by simp at hn
 | x :: l,pre,h,n,hn=>by
  unfold incP at h
  simp only [Bool.and_eq_true,inb_iff] at h
  rcases List.mem_cons.1 hn with rfl | hn
  · exact h.1
  · exact inc_bd l _ h.2.2 n hn
theorem nums_ok {c:Carton} {s:Spot} (hc:cokB c = true) (hs:sokB s = true):(∀ n ∈ numsL c s,0 ≤ n ∧ n ≤ 999999) ∧ (numsL c s).length ≤ 106:=by
 unfold cokB uriB at hc
 unfold sokB at hs
 simp only [Bool.and_eq_true,inb_iff,decide_eq_true_eq] at hc hs
 obtain ⟨h1,h2,h3,h4⟩:=hc
 refine ⟨fun n hn=>?_,by simp [numsL]; omega⟩
 unfold numsL at hn
 rcases List.mem_append.1 hn with hn | hn
 · simp only [List.mem_cons,List.not_mem_nil,or_false] at hn
   omega
 · have:=inc_bd _ _ h3 n hn
   omega
def txtF (o:ByteArray) (p:Carton × Spot):ByteArray:=o ++ (lineL carB (numsL p.1 p.2) ++ nl1)
def txtM (x:Plan):ByteArray:=bif pokB x then (x.fCartons.zip x.fSpots).foldl txtF ⟨#[]⟩ else ⟨#[]⟩
theorem line_nl {c:Carton} {s:Spot} (h:(∀ n ∈ numsL c s,0 ≤ n ∧ n ≤ 999999) ∧ (numsL c s).length ≤ 106):(lineL carB (numsL c s)).size ≤ 2400 ∧ (lineL carB (numsL c s) ++ nl1).size ≤ 2401:=by
 have:=line_size (numsL c s) carB h.1
 rw [show carB.size = 6 from rfl] at this
 refine ⟨by omega,?_⟩
 rw [ByteArray.size_append,show nl1.size = 1 from rfl]
 omega
theorem i_text {fu:Nat} {x:Plan} (h:Sp x) (hf:2097153 ≤ fu):d_impl_PlanText fu x = some (txtM x):=by
 unfold d_impl_PlanText txtM
 rw [i_pok h (by omega),ob_some]
 cases hp:pokB x
 · rfl
 · rw [Bool.not_true,cond_false,cond_true]
   have hpp:=hp
   unfold pokB at hpp
   simp only [Bool.and_eq_true,decide_eq_true_eq,beq_iff_eq] at hpp
   obtain ⟨p1,p2,p3⟩:=hpp
   have hz:(x.fCartons.zip x.fSpots).length = x.fCartons.length:=by simp; omega
   have key:=lpPI (x.fCartons.zip x.fSpots) (fun n (o:ByteArray) i=>d_impl_PlanText_L1 fu x n o i) (fun _ xs o=>some (xs.foldl txtF o)) (fun _ xs o=>(∀ p ∈ xs,(∀ n ∈ numsL p.1 p.2,0 ≤ n ∧ n ≤ 999999) ∧ (numsL p.1 p.2).length ≤ 106) ∧ o.size + 2401 * xs.length ≤ 1000000) (by omega) ?_ ?_ fu ⟨#[]⟩ ⟨fun p hp=>by
    have:=List.all_eq_true.1 p3 p hp
    rw [Bool.and_eq_true] at this
    exact nums_ok this.1 this.2,by rw [hz]; show 0 + _ ≤ _; omega⟩ (by omega)
   · exact key
   · intro n o pre p xs e hq hd hI ih
     obtain ⟨i1,i2⟩:=hI
     simp only [List.length_cons] at i2
     obtain ⟨e1,e2⟩:=zip_ix hq
     rw [hz] at hd
     have hn:=i1 p (by simp)
     have hsz:=line_nl hn
     have hlen:[p.1.fType,p.1.fGroup,p.2.fPallet,p.2.fX,p.2.fY,p.2.fZ].length + p.1.fUnits.length ≤ 106:=by
      have:=hn.2
      unfold numsL at this
      rwa [List.length_append] at this
     simp only [d_impl_PlanText_L1.eq_2]
     unfold d_impl_PlanText_L1_B
     rw [hd,cond_true,e1,ob_some,e2,ob_some,ap1 (by omega),ob_some]
     show (obind (d_impl_textLine fu carB (numsL p.1 p.2)) fun x141=>obind (scat o x141.1) fun sv145=>d_impl_PlanText_L1 fu x n sv145 (w64 ((pre.length:Int) + 1))) = _
     rw [i_line carB (by omega) (by omega) (by decide) hn.1,ob_some]
     show (obind (scat o (lineL carB (numsL p.1 p.2) ++ nl1)) fun sv145=>d_impl_PlanText_L1 fu x n sv145 (w64 ((pre.length:Int) + 1))) = _
     rw [scat_ok (by omega),ob_some]
     exact ih _ ⟨fun q hq=>i1 q (by simp [hq]),by rw [ByteArray.size_append]; omega⟩
   · intro n o hd _
     rw [hz] at hd ⊢
     simp only [d_impl_PlanText_L1.eq_2]
     unfold d_impl_PlanText_L1_B
     rw [hd,cond_false]; rfl
theorem ba_loop (b:ByteArray):∀ (m i:Nat) (r:List UInt8),b.size - i = m → ByteArray.toList.loop b i r = r.reverse ++ b.data.toList.drop i:=by
 intro m
 induction m with
 | zero =>
  intro i r h
  rw [ByteArray.toList.loop,if_neg (by omega)]
  have:b.data.toList.length ≤ i:=by have:b.size = b.data.size:=rfl; simp; omega
  rw [List.drop_of_length_le this]; simp
 | succ m ih =>
  intro i r h
  rw [ByteArray.toList.loop,if_pos (by omega),ih (i + 1) _ (by omega)]
  have hs:b.size = b.data.size:=rfl
  have hi:i < b.data.toList.length:=by simp; omega
  rw [List.drop_eq_getElem_cons hi]
  have:b.get! i = b.data.toList[i]:=by
   unfold ByteArray.get!
   simp [Array.getElem!_eq_getD,Array.getD]
   rw [dif_pos (by omega)]
  rw [this]; simp
theorem ba_list (b:ByteArray):b.toList = b.data.toList:=by
 unfold ByteArray.toList
 rw [ba_loop b _ 0 [] rfl]; simp
theorem ba_eq (a b:ByteArray):(a.toList == b.toList) = decide (a = b):=by
 rw [ba_list,ba_list]
 by_cases h:a = b
 · subst h; simp
 · rw [decide_eq_false h]
   have:a.data.toList ≠ b.data.toList:=fun e=>h (ByteArray.ext (Array.ext' e))
   simpa using this
theorem dd_dig:∀ (u:Nat),∀ b ∈ Lib.decDigits u,48 ≤ b.toNat ∧ b.toNat ≤ 57:=by
 intro u
 induction u using Nat.strongRecOn with
 | _ u ih =>
  intro b hb
  have one:∀ d:Nat,d < 10 → 48 ≤ (UInt8.ofNat (48 + d)).toNat ∧ (UInt8.ofNat (48 + d)).toNat ≤ 57:=fun d hd=>by
   rw [UInt8.toNat_ofNat']; omega
  rw [Lib.decDigits] at hb
  split at hb
  · rename_i h
    rw [List.mem_singleton.1 hb]
    exact one u h
  · rename_i h
    rcases List.mem_append.1 hb with hb | hb
    · exact ih (u / 10) (by omega) b hb
    · rw [List.mem_singleton.1 hb]
      exact one _ (by omega)
theorem decFrom_app:∀ (l r:List UInt8) (acc:Nat),Lib.decFrom acc (l ++ r) = (Lib.decFrom acc l).bind fun n=>Lib.decFrom n r
 | [],r,acc=>rfl
 | b :: l,r,acc=>by
  simp only [List.cons_append,Lib.decFrom]
  cases Lib.digitVal b with
  | none=>rfl
  | some d=>exact decFrom_app l r _
theorem dd_val:∀ (u:Nat),Lib.decFrom 0 (Lib.decDigits u) = some u:=by
 intro u
 induction u using Nat.strongRecOn with
 | _ u ih =>
  have one:∀ d:Nat,d < 10 → Lib.digitVal (UInt8.ofNat (48 + d)) = some d:=fun d hd=>by
   unfold Lib.digitVal
   have:(UInt8.ofNat (48 + d)).toNat = 48 + d:=by rw [UInt8.toNat_ofNat']; omega
   rw [this,if_pos (by omega)]
   congr 1; omega
  rw [Lib.decDigits]
  split
  · rename_i h
    simp only [Lib.decFrom,one u h]
    congr 1; omega
  · rename_i h
    rw [decFrom_app,ih (u / 10) (by omega)]
    simp only [Option.bind_some,Lib.decFrom,one (u % 10) (by omega)]
    congr 1; omega
theorem dd_len:∀ (k u:Nat),u < 10 ^ (k + 1) → 1 ≤ (Lib.decDigits u).length ∧ (Lib.decDigits u).length ≤ k + 1
 | 0,u,h=>by
  rw [Lib.decDigits,dif_pos (by omega)]; simp
 | k + 1,u,h=>by
  rw [Lib.decDigits]
  split
  · simp
  · have:=dd_len k (u / 10) (by
      rw [Nat.pow_succ] at h
      omega)
    simp only [List.length_append,List.length_singleton]
    omega
theorem atoi_dd {u:Nat} (h:u ≤ 999999):Lib.atoiAll (Lib.decDigits u) = .ok (u:Int):=by
 have hl:=dd_len 5 u (by omega)
 rw [Lib.atoiAll_short _ (by omega)]
 have hv:=dd_val u
 have hd:=dd_dig u
 cases hc:Lib.decDigits u with
 | nil=>rw [hc] at hl; simp at hl
 | cons b r =>
  rw [hc] at hv hd
  have hb:=hd b (by simp)
  have n1:¬ (b == 45) = true:=fun e=>by rw [beq_iff_eq.1 e] at hb; exact absurd hb (by decide)
  have n2:¬ (b == 43) = true:=fun e=>by rw [beq_iff_eq.1 e] at hb; exact absurd hb (by decide)
  unfold Lib.atoi
  show Lib.NumEnd.ofOption (if (b == 45) = true then _ else if (b == 43) = true then _ else Option.map _ (Lib.decNat (b :: r))) = _
  rw [if_neg n1,if_neg n2]
  unfold Lib.decNat
  rw [if_neg (by simp),hv]
  rfl
theorem numB_dd {u:Nat}:numB (u:Int) = ⟨(Lib.decDigits u).toArray⟩:=by
 unfold numB Lib.itoa
 rw [if_neg (by omega),Int.toNat_natCast]
theorem i_num {fu:Nat} {s:ByteArray} (hs:s.size ≤ 1048576):∃ r,d_impl_Number fu s = some r ∧ ((∃ u:Nat,u ≤ 999999 ∧ s = numB u ∧ r = ((u:Int),true)) ∨ ((∀ u:Nat,u ≤ 999999 → s ≠ numB u) ∧ r = (0,false))):=by
 unfold d_impl_Number d_strconv_Atoi atoiO d_impl_Number_J1
 rw [if_pos hs,ob_some]
 by_cases he:∃ u:Nat,u ≤ 999999 ∧ s = numB u
 · obtain ⟨u,hu,rfl⟩:=he
   have e:(numB (u:Int)).data.toList = Lib.decDigits u:=by rw [numB_dd]
   rw [e,atoi_dd hu]
   simp only [cond_false,i_in,ob_some,show inb (u:Int) 0 999999 = true from inb_iff.2 (by omega),Bool.not_true]
   rw [i_digits fu (by omega),ob_some,ba_eq,decide_eq_true rfl]
   exact ⟨_,rfl,.inl ⟨u,hu,rfl,rfl⟩⟩
 · have hne:∀ u:Nat,u ≤ 999999 → s ≠ numB u:=fun u hu e=>he ⟨u,hu,e⟩
   refine ⟨(0,false),?_,.inr ⟨hne,rfl⟩⟩
   cases ha:Lib.atoiAll s.data.toList
   case ok v =>
    simp only [cond_false,i_in,ob_some]
    cases hv:inb v 0 999999
    · rfl
    · have hv':=inb_iff.1 hv
      rw [Bool.not_true,cond_false,i_digits fu hv',ob_some,ba_eq,decide_eq_false (fun e=>by
       obtain ⟨u,rfl⟩:∃ u:Nat,v = u:=⟨v.toNat,by omega⟩
       exact hne u (by omega) e.symm)]
      rfl
   all_goals rfl
theorem sx_at {s:ByteArray} {pre l:List UInt8} {b:UInt8} (h:s.data.toList = pre ++ b :: l):sx s (pre.length:Int) = some (b.toNat:Int):=by
 have hl:s.data.toList[pre.length]? = some b:=by rw [h]; simp
 have hs:s.data.toList.length = s.size:=Array.length_toList
 have hi:pre.length < s.size:=by rw [← hs,h]; simp
 unfold sx
 rw [if_pos (by omega),Int.toNat_natCast,getElem?_pos s pre.length hi]
 have e:s[pre.length] = b:=by
  have:s.data.toList[pre.length]? = some s[pre.length]:=by
   rw [Array.getElem?_toList]
   exact Array.getElem?_eq_getElem hi
  rw [hl] at this
  exact (Option.some.inj this).symm
 rw [e]; rfl
def ofL (l:List UInt8):ByteArray:=⟨l.toArray⟩
theorem ofL_list (l:List UInt8):(ofL l).data.toList = l:=rfl
theorem ba_len (s:ByteArray):s.data.toList.length = s.size:=Array.length_toList
def cut (b:UInt8):List UInt8 → List UInt8 × List (List UInt8)
 | []=>([],[])
 | c :: l=>if c = b then ([],(cut b l).1 :: (cut b l).2) else (c :: (cut b l).1,(cut b l).2)
def pts (b:UInt8) (l:List UInt8):List (List UInt8):=(cut b l).1 :: (cut b l).2
def parts (b:UInt8) (s:ByteArray):List ByteArray:=(pts b s.data.toList).map ofL
theorem cut_app {b:UInt8}:∀ {w:List UInt8} (r:List UInt8),b ∉ w → cut b (w ++ r) = (w ++ (cut b r).1,(cut b r).2)
 | [],r,_=>rfl
 | c :: w,r,h=>by
  have h1:c ≠ b:=fun e=>h (by simp [e])
  show cut b (c :: (w ++ r)) = _
  rw [cut,if_neg h1,cut_app r fun e=>h (List.mem_cons_of_mem _ e)]
  rfl
theorem cut_sep (b:UInt8) (r:List UInt8):cut b (b :: r) = ([],(cut b r).1 :: (cut b r).2):=by rw [cut,if_pos rfl]
theorem cut_len (b:UInt8):∀ (l:List UInt8),(cut b l).2.length ≤ l.length
 | []=>Nat.le_refl _
 | c :: l=>by
  have ih:=cut_len b l
  rw [cut]
  split <;> simp only [List.length_cons] <;> omega
theorem cut_mem (b:UInt8):∀ (l:List UInt8),(cut b l).1.length ≤ l.length ∧ ∀ x ∈ (cut b l).2,x.length ≤ l.length
 | []=>⟨by simp [cut],by simp [cut]⟩
 | c :: l=>by
  have ih:=cut_mem b l
  rw [cut]
  split
  · exact ⟨by simp,fun x hx=>by
      simp only [List.length_cons]
      rcases List.mem_cons.1 hx with e | e
      · rw [e]; omega
      · have:=ih.2 x e; omega⟩
  · exact ⟨by simp only [List.length_cons]; omega,fun x hx=>by
      have:=ih.2 x hx
      simp only [List.length_cons]; omega⟩
theorem parts_len (b:UInt8) (s:ByteArray):1 ≤ (parts b s).length ∧ (parts b s).length ≤ s.size + 1:=by
 have:=cut_len b s.data.toList
 rw [ba_len] at this
 unfold parts pts
 simp only [List.length_map,List.length_cons]
 omega
theorem parts_size {b:UInt8} {s x:ByteArray} (h:x ∈ parts b s):x.size ≤ s.size:=by
 obtain ⟨l,hl,rfl⟩:=List.mem_map.1 h
 have:=cut_mem b s.data.toList
 rw [ba_len] at this
 show l.toArray.size ≤ _
 rw [List.size_toArray]
 rcases List.mem_cons.1 hl with rfl | e
 · exact this.1
 · exact this.2 l e
theorem ssl_at {s:ByteArray} {pre acc l:List UInt8} (h:s.data.toList = pre ++ (acc ++ l)):ssl s (pre.length:Int) ((pre.length:Int) + (acc.length:Int)) = some (ofL acc):=by
 have hs:=ba_len s
 rw [h] at hs
 simp only [List.length_append] at hs
 unfold ssl
 rw [if_pos (by omega)]
 congr 1
 apply ByteArray.ext
 apply Array.ext'
 rw [show ((pre.length:Int) + (acc.length:Int)).toNat = pre.length + acc.length by omega,Int.toNat_natCast,ByteArray.data_extract,Array.toList_extract,h]
 show _ = acc
 rw [List.extract_eq_take_drop,Nat.add_sub_cancel_left,List.drop_left,List.take_left]
theorem ap16 {x:ByteArray} {out:List ByteArray} (h:out.length ≤ 2000000):apnd 16 out [x] = some (out ++ [x]):=by
 unfold apnd
 rw [if_pos (by simp only [List.length_singleton]; omega)]
theorem i_partsL {fu:Nat} {s:ByteArray} {b:UInt8} (hs:s.size ≤ 1048576):∀ (l pre acc:List UInt8) (out:List ByteArray) (k:Nat),s.data.toList = pre ++ (acc ++ l) → l.length < k → out.length + l.length ≤ 1048576 →
    d_impl_Parts_L1 fu s (b.toNat:Int) k out (pre.length:Int) ((pre.length:Int) + (acc.length:Int)) = some (out ++ ofL (acc ++ (cut b l).1) :: (cut b l).2.map ofL)
 | [],pre,acc,out,k,h,hk,ho=>by
  obtain ⟨k,rfl⟩:∃ j,k = j + 1:=⟨k - 1,by omega⟩
  have hz:=ba_len s
  rw [h] at hz
  simp only [List.length_append,List.length_nil] at hz
  rw [d_impl_Parts_L1.eq_2]
  unfold d_impl_Parts_L1_B
  rw [bif_false (by simp; omega),show (s.size:Int) = (pre.length:Int) + (acc.length:Int) by omega,ssl_at h,ob_some,ap16 (by omega),ob_some]
  simp [cut]
 | c :: l,pre,acc,out,k,h,hk,ho=>by
  obtain ⟨k,rfl⟩:∃ j,k = j + 1:=⟨k - 1,by omega⟩
  have hz:=ba_len s
  rw [h] at hz
  simp only [List.length_append,List.length_cons] at hz ho
  have hx:sx s ((pre.length:Int) + (acc.length:Int)) = some (c.toNat:Int):=by
   have:=sx_at (s:=s) (pre:=pre ++ acc) (l:=l) (b:=c) (by rw [h]; simp)
   rw [← this]; simp
  rw [d_impl_Parts_L1.eq_2]
  unfold d_impl_Parts_L1_B d_impl_Parts_J1
  rw [bif_true (by simp; omega),hx,ob_some,w64_id (by omega) (by omega)]
  by_cases hc:c = b
  · subst hc
    rw [bif_true (by simp),ssl_at h,ob_some,ap16 (by omega),ob_some]
    have:=i_partsL (fu:=fu) (b:=c) hs l (pre ++ (acc ++ [c])) [] (out ++ [ofL acc]) k (by rw [h]; simp) (by simp at hk; omega) (by simp; omega)
    rw [show ((pre.length:Int) + (acc.length:Int) + 1) = (((pre ++ (acc ++ [c])).length:Nat):Int) + (([]:List UInt8).length:Int) by simp; omega]
    rw [show ((((pre ++ (acc ++ [c])).length:Nat):Int) + (([]:List UInt8).length:Int)) = (((pre ++ (acc ++ [c])).length:Nat):Int) by simp] at this ⊢
    rw [this,cut_sep]
    simp
  · rw [bif_false (by simpa using fun e=>hc (UInt8.toNat_inj.1 (by omega)))]
    have:=i_partsL (fu:=fu) (b:=b) hs l pre (acc ++ [c]) out k (by rw [h]; simp) (by simp at hk; omega) (by omega)
    rw [show ((pre.length:Int) + (acc.length:Int) + 1) = (pre.length:Int) + (((acc ++ [c]).length:Nat):Int) by simp; omega,this,cut,if_neg hc]
    simp
theorem i_parts {s:ByteArray} {b:UInt8} (hs:s.size ≤ 1048576):d_impl_Parts 2097153 s (b.toNat:Int) = some (parts b s):=by
 unfold d_impl_Parts
 have hz:=ba_len s
 exact i_partsL (b:=b) hs s.data.toList [] [] [] 2097153 rfl (by omega) (by simp; omega)
def nmv (x:ByteArray):Int × Bool:=(d_impl_Number 2097153 x).getD (0,false)
theorem nmv_i {x:ByteArray} (h:x.size ≤ 1048576):d_impl_Number 2097153 x = some (nmv x):=by
 obtain ⟨r,h1,_⟩:=i_num (fu:=2097153) h
 unfold nmv
 rw [h1]; rfl
theorem nmv_is {x:ByteArray} (h:x.size ≤ 1048576) (ht:(nmv x).2 = true):x = numB (nmv x).1 ∧ 0 ≤ (nmv x).1 ∧ (nmv x).1 ≤ 999999:=by
 obtain ⟨r,h1,h2⟩:=i_num (fu:=2097153) h
 rw [nmv_i h] at h1
 rw [Option.some.inj h1] at ht ⊢
 rcases h2 with ⟨u,hu,e,rfl⟩ | ⟨_,rfl⟩
 · exact ⟨e,by simp only; omega,by simp only; omega⟩
 · simp at ht
theorem nmv_num {n:Int} (h:0 ≤ n ∧ n ≤ 999999):nmv (numB n) = (n,true):=by
 have hs:(numB n).size ≤ 1048576:=Nat.le_trans (numB_size h) (by omega)
 obtain ⟨r,h1,h2⟩:=i_num (fu:=2097153) hs
 obtain ⟨u,rfl⟩:∃ u:Nat,n = u:=⟨n.toNat,by omega⟩
 rw [nmv_i hs] at h1
 rw [Option.some.inj h1]
 rcases h2 with ⟨v,hv,e,rfl⟩ | ⟨h3,_⟩
 · have e1:(numB (u:Int)).data.toList = Lib.decDigits u:=by rw [numB_dd]
   have e2:(numB (v:Int)).data.toList = Lib.decDigits v:=by rw [numB_dd]
   have:=dd_val u
   rw [← e1,e,e2,dd_val v] at this
   rw [Option.some.inj this]
 · exact absurd rfl (h3 u (by omega))
def nms:List ByteArray → Option (List Int)
 | []=>some []
 | x :: xs=>if (nmv x).2 = true then (nms xs).map ((nmv x).1 :: ·) else none
def rsL (o:List Int):Option (List Int) → List Int × Bool
 | some ns=>(o ++ ns,true)
 | none=>([],false)
def wrd (w:ByteArray) (k:Nat) (line:ByteArray):Option (List Int) :=
 match parts 32 line with
 | []=>none
 | p :: ps=>if p = w ∧ ps.length = k then nms ps else none
theorem i_wordsL {fu k:Nat} {xs:List ByteArray} (hx:∀ x ∈ xs,x.size ≤ 1048576) (hl:xs.length ≤ 1048577) (hk:xs.length < k):d_impl_wordsOf_L1 2097153 xs k [] 0 = some (rsL [] (nms xs)):=by
 have key:=lpI xs (fun n (o:List Int) i=>d_impl_wordsOf_L1 2097153 xs n o i) (fun xs o=>some (rsL o (nms xs))) (fun xs o=>(∀ x ∈ xs,x.size ≤ 1048576) ∧ o.length + xs.length ≤ 1048577) (by omega) ?_ ?_ k [] ⟨hx,by simpa using hl⟩ (by omega)
 · exact key
 · intro n o i x xs hx hd hI ih
   obtain ⟨i1,i2⟩:=hI
   simp only [List.length_cons] at i2
   simp only [d_impl_wordsOf_L1.eq_2]
   unfold d_impl_wordsOf_L1_B
   rw [hd,cond_true,hx,ob_some,nmv_i (i1 x (by simp)),ob_some,nms]
   cases hv:(nmv x).2 with
   | false=>rfl
   | true =>
    rw [if_pos rfl,Bool.not_true,cond_false]
    have:apnd 8 o [(nmv x).1] = some (o ++ [(nmv x).1]):=by
     unfold apnd
     rw [if_pos (by simp only [List.length_singleton]; omega)]
    rw [this,ob_some,ih _ ⟨fun y hy=>i1 y (by simp [hy]),by simp only [List.length_append,List.length_singleton]; omega⟩]
    cases nms xs with
    | none=>rfl
    | some ns=>simp [rsL]
 · intro n o i hd hI
   simp only [d_impl_wordsOf_L1.eq_2]
   unfold d_impl_wordsOf_L1_B
   rw [hd,cond_false]
   simp [nms,rsL]
theorem i_words {line w:ByteArray} {k:Nat} (h:line.size ≤ 1048576) (hk:k ≤ 1048576):d_impl_wordsOf 2097153 line w (k:Int) = some (rsL [] (wrd w k line)):=by
 unfold d_impl_wordsOf wrd
 have e:=i_parts (b:=32) h
 have hl:=(parts_len 32 line).2
 have hs:=fun x hx=>Nat.le_trans (parts_size (b:=32) (s:=line) (x:=x) hx) h
 rw [show ((32:UInt8).toNat:Int) = 32 from rfl] at e
 rw [e,ob_some]
 cases hp:parts 32 line with
 | nil=>have:=(parts_len 32 line).1; rw [hp] at this; simp at this
 | cons p ps =>
  rw [hp] at hl hs
  simp only [List.length_cons] at hl
  rw [show ix (p :: ps) 0 = some p from rfl,ob_some,ba_eq,w64_id (by omega) (by omega)]
  simp only
  by_cases h1:p = w
  · rw [decide_eq_true h1,Bool.not_true,cond_false]
    by_cases h2:ps.length = k
    · rw [if_pos ⟨h1,h2⟩,bif_false (by simp; omega)]
      unfold d_impl_wordsOf_J1
      have:sls (p :: ps) 1 (((p :: ps).length:Nat):Int) = some ps:=by
       unfold sls
       rw [if_pos (by simp only [List.length_cons]; omega),show (1:Int).toNat = 1 from rfl,Int.toNat_natCast]
       simp
      rw [this,ob_some,i_wordsL (fu:=0) (fun x hx=>hs x (by simp [hx])) (by omega) (by omega)]
    · rw [if_neg (fun e=>h2 e.2),bif_true (by simp; omega)]; rfl
  · rw [decide_eq_false h1,if_neg (fun e=>h1 e.1)]; rfl
theorem nms_some:∀ {xs:List ByteArray} {ns:List Int},(∀ x ∈ xs,x.size ≤ 1048576) → nms xs = some ns → xs = ns.map numB ∧ ∀ n ∈ ns,0 ≤ n ∧ n ≤ 999999
 | [],ns,_,h=>by obtain rfl:=Option.some.inj h; simp
 | x :: xs,ns,hx,h=>by
  rw [nms] at h
  split at h
  · rename_i hv
    cases hn:nms xs with
    | none=>rw [hn] at h; simp at h
    | some ms =>
     rw [hn] at h
     obtain rfl:=Option.some.inj h
     have:=nms_some (fun y hy=>hx y (by simp [hy])) hn
     have h1:=nmv_is (hx x (by simp)) hv
     exact ⟨by rw [List.map_cons,← this.1,← h1.1],fun n hn=>by
      rcases List.mem_cons.1 hn with rfl | hn
      · exact h1.2
      · exact this.2 n hn⟩
  · simp at h
theorem nms_num:∀ {ns:List Int},(∀ n ∈ ns,0 ≤ n ∧ n ≤ 999999) → nms (ns.map numB) = some ns
 | [],_=>rfl
 | n :: ns,h=>by
  rw [List.map_cons,nms,nmv_num (h n (by simp)),nms_num fun m hm=>h m (by simp [hm])]
  rfl
theorem wrd_len {w line:ByteArray} {k:Nat} {ns:List Int} (hs:line.size ≤ 1048576) (h:wrd w k line = some ns):ns.length = k ∧ (∀ n ∈ ns,0 ≤ n ∧ n ≤ 999999) ∧ parts 32 line = w :: ns.map numB:=by
 unfold wrd at h
 split at h
 · simp at h
 · rename_i p ps hp
   split at h
   · rename_i h1
     have:=nms_some (fun x hx=>Nat.le_trans (parts_size (b:=32) (s:=line) (by rw [hp]; simp [hx])) hs) h
     refine ⟨?_,this.2,by rw [hp,h1.1,← this.1]⟩
     rw [← h1.2,this.1,List.length_map]
   · simp at h
theorem wrd_of {w line:ByteArray} {ns:List Int} (h:∀ n ∈ ns,0 ≤ n ∧ n ≤ 999999) (hp:parts 32 line = w :: ns.map numB):wrd w ns.length line = some ns:=by
 unfold wrd
 rw [hp]
 show (if w = w ∧ (ns.map numB).length = ns.length then nms (ns.map numB) else none) = _
 rw [if_pos ⟨rfl,by rw [List.length_map]⟩,nms_num h]
theorem wrd_ne {w v line:ByteArray} {k j:Nat} {ns:List Int} (hs:line.size ≤ 1048576) (h:wrd w k line = some ns) (hv:v ≠ w):wrd v j line = none:=by
 have:=(wrd_len hs h).2.2
 unfold wrd
 rw [this]
 exact if_neg fun e=>hv e.1.symm
def wWF:ByteArray:=⟨#[119,97,121,32,102,105,114,115,116]⟩
def wWN:ByteArray:=⟨#[119,97,121,32,110,101,120,116]⟩
def wPal:ByteArray:=⟨#[112,97,108,108,101,116]⟩
def wCls:ByteArray:=⟨#[99,108,97,115,115,101,115]⟩
def wWth:ByteArray:=⟨#[119,105,116,104]⟩
def wTyp:ByteArray:=⟨#[116,121,112,101]⟩
def wMas:ByteArray:=⟨#[109,97,115,116,101,114]⟩
def wItm:ByteArray:=⟨#[105,116,101,109]⟩
def emB:ByteArray:=⟨#[]⟩
def R0:Request:=⟨0,⟨0,0,0,0⟩,0,[],[],0,[]⟩
def nt1:List Int → Int
 | [a]=>a
 | _=>0
def pal4:List Int → Pallet
 | [a,b,c,d]=>⟨a,b,c,d⟩
 | _=>⟨0,0,0,0⟩
def pair2:List Int → Pair
 | [a,b]=>⟨a,b⟩
 | _=>⟨0,0⟩
def typ7:List Int → Typ
 | [a,b,c,d,e,f,g]=>⟨a,b,c,d,e,f,g⟩
 | _=>⟨0,0,0,0,0,0,0⟩
def itm7:List Int → Item
 | [a,b,c,d,e,f,g]=>⟨a,b,c,d,e,f,g⟩
 | _=>⟨0,0,0,0,0,0,0⟩
theorem len1 {l:List Int} (h:l.length = 1):∃ a,l = [a]:=List.length_eq_one_iff.1 h
theorem len2 {l:List Int} (h:l.length = 2):∃ a b,l = [a,b]:=by
 match l,h with
 | [a,b],_=>exact ⟨a,b,rfl⟩
theorem len4 {l:List Int} (h:l.length = 4):∃ a b c d,l = [a,b,c,d]:=by
 match l,h with
 | [a,b,c,d],_=>exact ⟨a,b,c,d,rfl⟩
theorem len7 {l:List Int} (h:l.length = 7):∃ a b c d e f g,l = [a,b,c,d,e,f,g]:=by
 match l,h with
 | [a,b,c,d,e,f,g],_=>exact ⟨a,b,c,d,e,f,g,rfl⟩
def ptl (r:Request) (l:ByteArray):Int × Request :=
 if l = wWF then (0,⟨0,r.fPallet,r.fClasses,r.fPairs,r.fTypes,r.fMaster,r.fItems⟩) else
 if l = wWN then (0,⟨1,r.fPallet,r.fClasses,r.fPairs,r.fTypes,r.fMaster,r.fItems⟩) else
 match wrd wPal 4 l with
 | some n=>(1,⟨r.fWay,pal4 n,r.fClasses,r.fPairs,r.fTypes,r.fMaster,r.fItems⟩)
 | none=>match wrd wCls 1 l with
  | some n=>(2,⟨r.fWay,r.fPallet,nt1 n,r.fPairs,r.fTypes,r.fMaster,r.fItems⟩)
  | none=>match wrd wWth 2 l with
   | some n=>(3,⟨r.fWay,r.fPallet,r.fClasses,r.fPairs ++ [pair2 n],r.fTypes,r.fMaster,r.fItems⟩)
   | none=>match wrd wTyp 7 l with
    | some n=>(4,⟨r.fWay,r.fPallet,r.fClasses,r.fPairs,r.fTypes ++ [typ7 n],r.fMaster,r.fItems⟩)
    | none=>match wrd wMas 1 l with
     | some n=>(5,⟨r.fWay,r.fPallet,r.fClasses,r.fPairs,r.fTypes,nt1 n,r.fItems⟩)
     | none=>match wrd wItm 7 l with
      | some n=>(6,⟨r.fWay,r.fPallet,r.fClasses,r.fPairs,r.fTypes,r.fMaster,r.fItems ++ [itm7 n]⟩)
      | none=>(-1,r)
theorem i_wk {line w:ByteArray} {k:Nat} {kk:Int} (h:line.size ≤ 1048576) (hk:k ≤ 1048576) (e:(k:Int) = kk):d_impl_wordsOf 2097153 line w kk = some (rsL [] (wrd w k line)):=e ▸ i_words h hk
theorem obR {β:Type} (k:List Int × Bool → Option β):obind (some (rsL [] none)) k = k ([],false):=rfl
theorem i_put {r:Request} {l:ByteArray} (hl:l.size ≤ 1048576) (hp:r.fPairs.length ≤ 1000) (ht:r.fTypes.length ≤ 1000) (hi:r.fItems.length ≤ 1000):d_impl_putLine 2097153 r l = some (ptl r l):=by
 unfold ptl
 show (bif (l.toList == wWF.toList) then _ else bif (l.toList == wWN.toList) then _ else obind (d_impl_wordsOf 2097153 l wPal 4) _) = _
 rw [ba_eq,ba_eq]
 by_cases h1:l = wWF
 · rw [decide_eq_true h1,if_pos h1]; rfl
 rw [decide_eq_false h1,if_neg h1,cond_false]
 by_cases h2:l = wWN
 · rw [decide_eq_true h2,if_pos h2]; rfl
 rw [decide_eq_false h2,if_neg h2,cond_false,i_wk (k:=4) (kk:=4) hl (by omega) rfl]
 cases h3:wrd wPal 4 l with
 | some n =>
  obtain ⟨a,b,c,d,rfl⟩:=len4 (wrd_len hl h3).1
  rfl
 | none =>
 rw [obR,bif_false rfl]
 show obind (d_impl_wordsOf 2097153 l wCls 1) _ = _
 rw [i_wk (k:=1) (kk:=1) hl (by omega) rfl]
 cases h4:wrd wCls 1 l with
 | some n =>
  obtain ⟨a,rfl⟩:=len1 (wrd_len hl h4).1
  rfl
 | none =>
 rw [obR,bif_false rfl]
 show obind (d_impl_wordsOf 2097153 l wWth 2) _ = _
 rw [i_wk (k:=2) (kk:=2) hl (by omega) rfl]
 cases h5:wrd wWth 2 l with
 | some n =>
  obtain ⟨a,b,rfl⟩:=len2 (wrd_len hl h5).1
  show obind (apnd 16 r.fPairs [(⟨a,b⟩:Pair)]) _ = _
  rw [ap1 (by simp only [List.length_singleton]; omega)]
  rfl
 | none =>
 rw [obR,bif_false rfl]
 show obind (d_impl_wordsOf 2097153 l wTyp 7) _ = _
 rw [i_wk (k:=7) (kk:=7) hl (by omega) rfl]
 cases h6:wrd wTyp 7 l with
 | some n =>
  obtain ⟨a,b,c,d,e,f,g,rfl⟩:=len7 (wrd_len hl h6).1
  show obind (apnd 56 r.fTypes [(⟨a,b,c,d,e,f,g⟩:Typ)]) _ = _
  rw [ap1 (by simp only [List.length_singleton]; omega)]
  rfl
 | none =>
 rw [obR,bif_false rfl]
 show obind (d_impl_wordsOf 2097153 l wMas 1) _ = _
 rw [i_wk (k:=1) (kk:=1) hl (by omega) rfl]
 cases h7:wrd wMas 1 l with
 | some n =>
  obtain ⟨a,rfl⟩:=len1 (wrd_len hl h7).1
  rfl
 | none =>
 rw [obR,bif_false rfl]
 show obind (d_impl_wordsOf 2097153 l wItm 7) _ = _
 rw [i_wk (k:=7) (kk:=7) hl (by omega) rfl]
 cases h8:wrd wItm 7 l with
 | some n =>
  obtain ⟨a,b,c,d,e,f,g,rfl⟩:=len7 (wrd_len hl h8).1
  show obind (apnd 56 r.fItems [(⟨a,b,c,d,e,f,g⟩:Item)]) _ = _
  rw [ap1 (by simp only [List.length_singleton]; omega)]
  rfl
 | none=>rfl
def mf (last k:Int):Bool :=
 if k = 0 then last == -1 else if k = 1 then last == 0 else if k = 2 then last == 1 else if k = 3 then last == 2 || last == 3 else if k = 4 then inb last 2 4 else if k = 5 then inb last 2 4 else if k = 6 then last == 5 || last == 6 else false
theorem ptl_cases (r:Request) (l:ByteArray):((ptl r l).1 = 0 ∧ (l = wWF ∨ l = wWN)) ∨ ((ptl r l).1 = 1 ∧ ∃ n,wrd wPal 4 l = some n) ∨ ((ptl r l).1 = 2 ∧ ∃ n,wrd wCls 1 l = some n) ∨ ((ptl r l).1 = 3 ∧ ∃ n,wrd wWth 2 l = some n) ∨
    ((ptl r l).1 = 4 ∧ ∃ n,wrd wTyp 7 l = some n) ∨ ((ptl r l).1 = 5 ∧ ∃ n,wrd wMas 1 l = some n) ∨ ((ptl r l).1 = 6 ∧ ∃ n,wrd wItm 7 l = some n) ∨ (ptl r l).1 = -1:=by
 unfold ptl
 split
 · rename_i h; exact .inl ⟨rfl,.inl h⟩
 split
 · rename_i h; exact .inl ⟨rfl,.inr h⟩
 split
 · rename_i h; exact .inr (.inl ⟨rfl,_,h⟩)
 split
 · rename_i h; exact .inr (.inr (.inl ⟨rfl,_,h⟩))
 split
 · rename_i h; exact .inr (.inr (.inr (.inl ⟨rfl,_,h⟩)))
 split
 · rename_i h; exact .inr (.inr (.inr (.inr (.inl ⟨rfl,_,h⟩))))
 split
 · rename_i h; exact .inr (.inr (.inr (.inr (.inr (.inl ⟨rfl,_,h⟩)))))
 split
 · rename_i h; exact .inr (.inr (.inr (.inr (.inr (.inr (.inl ⟨rfl,_,h⟩))))))
 exact .inr (.inr (.inr (.inr (.inr (.inr (.inr rfl))))))
theorem i_mayF {last k:Int} (h:-1 ≤ k ∧ k ≤ 6):d_impl_mayFollow 2097153 last k = some (mf last k):=by
 have:k = -1 ∨ k = 0 ∨ k = 1 ∨ k = 2 ∨ k = 3 ∨ k = 4 ∨ k = 5 ∨ k = 6:=by omega
 unfold d_impl_mayFollow d_impl_mayFollow_J1
 simp only [i_in,ob_some]
 rcases this with rfl | rfl | rfl | rfl | rfl | rfl | rfl | rfl
 · rfl
 · rfl
 · rfl
 · rfl
 · show (bif (last == 2) then some true else some (last == 3)) = some (last == 2 || last == 3)
   cases last == 2 <;> rfl
 · rfl
 · rfl
 · show (bif (last == 5) then some true else some (last == 6)) = some (last == 5 || last == 6)
   cases last == 5 <;> rfl
theorem ptl_len (r:Request) (l:ByteArray):(ptl r l).2.fPairs.length ≤ r.fPairs.length + 1 ∧ (ptl r l).2.fTypes.length ≤ r.fTypes.length + 1 ∧ (ptl r l).2.fItems.length ≤ r.fItems.length + 1:=by
 unfold ptl
 repeat' split
 all_goals simp
theorem ptl_rng (r:Request) (l:ByteArray):-1 ≤ (ptl r l).1 ∧ (ptl r l).1 ≤ 6:=by
 have:=ptl_cases r l
 omega
def mach (z:ByteArray):List ByteArray → Int → Request → Int → Request × Int
 | [],last,r,i=>if last < 5 then (R0,i) else if z = emB then (r,-1) else (R0,i)
 | l :: ls,last,r,i=>bif mf last (ptl r l).1 then mach z ls (ptl r l).1 (ptl r l).2 (i + 1) else (R0,i)
def rdM (s:ByteArray):Request × Int :=
 if 61 < (parts 10 s).length then (R0,60) else mach ((parts 10 s).getLastD emB) (parts 10 s).dropLast (-1) R0 0
theorem parts_ls (b:UInt8) (s:ByteArray):∃ ls z,parts b s = ls ++ [z] ∧ (parts b s).dropLast = ls ∧ (parts b s).getLastD emB = z:=by
 have h:=(parts_len b s).1
 have hn:parts b s ≠ []:=fun e=>by rw [e] at h; simp at h
 refine ⟨_,(parts b s).getLast hn,(List.dropLast_concat_getLast hn).symm,rfl,?_⟩
 rw [List.getLastD_eq_getLast?,List.getLast?_eq_some_getLast hn]; rfl
theorem sls_ls {α:Type} {ls:List α} {z:α}:sls (ls ++ [z]) 0 (ls.length:Int) = some ls:=by
 rw [sls_some (by simp; omega)]
 simp
theorem ix_ls {α:Type} {ls:List α} {z:α}:ix (ls ++ [z]) (ls.length:Int) = some z:=by
 rw [ix_nat]; simp
theorem i_read {s:ByteArray} (hs:s.size ≤ 1048576):d_impl_ReadOrder 2097153 s = some (rdM s):=by
 unfold d_impl_ReadOrder rdM
 have e:=i_parts (b:=10) hs
 rw [show ((10:UInt8).toNat:Int) = 10 from rfl] at e
 rw [e,ob_some]
 obtain ⟨ls,z,h1,h2,h3⟩:=parts_ls 10 s
 have hsz:=fun x hx=>Nat.le_trans (parts_size (b:=10) (s:=s) (x:=x) hx) hs
 have hn:=(parts_len 10 s).2
 rw [h2,h3]
 rw [h1] at hsz hn ⊢
 simp only [List.length_append,List.length_singleton] at hn ⊢
 rw [w64_id (by omega) (by omega),show ((ls.length + 1:Nat):Int) - 1 = ls.length by omega]
 by_cases h61:61 < ls.length + 1
 · rw [bif_true (by simp; omega),if_pos h61]; rfl
 rw [bif_false (by simp; omega),if_neg h61,sls_ls,ob_some]
 have key:=lpPI ls (fun n (o:Request × Int) i=>d_impl_ReadOrder_L1 2097153 (ls ++ [z]) ls n o.1.fWay o.1.fPallet.fW o.1.fPallet.fD o.1.fPallet.fH o.1.fPallet.fGram o.1.fClasses o.1.fPairs o.1.fTypes o.1.fMaster o.1.fItems o.2 i) (fun pre xs o=>some (mach z xs o.2 o.1 (pre.length:Int))) (fun pre xs o=>o.1.fPairs.length ≤ pre.length ∧ o.1.fTypes.length ≤ pre.length ∧ o.1.fItems.length ≤ pre.length) (by omega) ?_ ?_ 2097153 (R0,-1) ⟨by simp [R0],by simp [R0],by simp [R0]⟩ (by omega)
 · exact key
 · intro n o pre x xs e hx hd hI ih
   have hpl:pre.length < ls.length:=by rw [e]; simp
   have hxs:x.size ≤ 1048576:=hsz x (by rw [e]; simp)
   simp only [d_impl_ReadOrder_L1.eq_2]
   unfold d_impl_ReadOrder_L1_B
   rw [hd,cond_true,hx,ob_some]
   show obind (d_impl_putLine 2097153 o.1 x) _ = _
   rw [i_put hxs (by omega) (by omega) (by omega),ob_some,i_mayF (ptl_rng _ _),ob_some]
   cases hm:mf o.2 (ptl o.1 x).1 with
   | false =>
    rw [Bool.not_false,cond_true,mach,hm]; rfl
   | true =>
    rw [Bool.not_true,cond_false]
    have hl:=ptl_len o.1 x
    have:=ih ((ptl o.1 x).2,(ptl o.1 x).1) ⟨by simp; omega,by simp; omega,by simp; omega⟩
    rw [mach,hm,cond_true]
    simp only at this
    rw [this]
    simp
 · intro n o hd hI
   simp only [d_impl_ReadOrder_L1.eq_2]
   unfold d_impl_ReadOrder_L1_B
   rw [hd,cond_false,mach]
   simp only [List.length_append,List.length_singleton]
   rw [w64_id (by omega) (by omega),show ((ls.length + 1:Nat):Int) - 1 = ls.length by omega,ix_ls,ob_some]
   by_cases h5:o.2 < 5
   · rw [bif_true (by simpa using h5),if_pos h5]; rfl
   rw [bif_false (by simpa using h5),if_neg h5]
   show (bif (!(z.toList == emB.toList)) then _ else _) = _
   rw [ba_eq]
   by_cases hz:z = emB
   · rw [decide_eq_true hz,if_pos hz]; rfl
   · rw [decide_eq_false hz,if_neg hz]; rfl
theorem ptl_itm {l:ByteArray} {n:List Int} (hl:l.size ≤ 1048576) (h:wrd wItm 7 l = some n) (r:Request):ptl r l = (6,⟨r.fWay,r.fPallet,r.fClasses,r.fPairs,r.fTypes,r.fMaster,r.fItems ++ [itm7 n]⟩):=by
 have hp:=(wrd_len hl h).2.2
 unfold ptl
 rw [if_neg (fun e=>by rw [e] at hp; revert hp; exact fun hp=>absurd (List.cons.inj hp).1 (by decide)),if_neg (fun e=>by rw [e] at hp; exact absurd (List.cons.inj hp).1 (by decide)),wrd_ne hl h (v:=wPal) (by decide),wrd_ne hl h (v:=wCls) (by decide),wrd_ne hl h (v:=wWth) (by decide),wrd_ne hl h (v:=wTyp) (by decide),wrd_ne hl h (v:=wMas) (by decide),h]
theorem ptl_mas {l:ByteArray} {n:List Int} (hl:l.size ≤ 1048576) (h:wrd wMas 1 l = some n) (r:Request):ptl r l = (5,⟨r.fWay,r.fPallet,r.fClasses,r.fPairs,r.fTypes,nt1 n,r.fItems⟩):=by
 have hp:=(wrd_len hl h).2.2
 unfold ptl
 rw [if_neg (fun e=>by rw [e] at hp; exact absurd (List.cons.inj hp).1 (by decide)),if_neg (fun e=>by rw [e] at hp; exact absurd (List.cons.inj hp).1 (by decide)),wrd_ne hl h (v:=wPal) (by decide),wrd_ne hl h (v:=wCls) (by decide),wrd_ne hl h (v:=wWth) (by decide),wrd_ne hl h (v:=wTyp) (by decide),h]
theorem ptl_typ {l:ByteArray} {n:List Int} (hl:l.size ≤ 1048576) (h:wrd wTyp 7 l = some n) (r:Request):ptl r l = (4,⟨r.fWay,r.fPallet,r.fClasses,r.fPairs,r.fTypes ++ [typ7 n],r.fMaster,r.fItems⟩):=by
 have hp:=(wrd_len hl h).2.2
 unfold ptl
 rw [if_neg (fun e=>by rw [e] at hp; exact absurd (List.cons.inj hp).1 (by decide)),if_neg (fun e=>by rw [e] at hp; exact absurd (List.cons.inj hp).1 (by decide)),wrd_ne hl h (v:=wPal) (by decide),wrd_ne hl h (v:=wCls) (by decide),wrd_ne hl h (v:=wWth) (by decide),h]
theorem ptl_wth {l:ByteArray} {n:List Int} (hl:l.size ≤ 1048576) (h:wrd wWth 2 l = some n) (r:Request):ptl r l = (3,⟨r.fWay,r.fPallet,r.fClasses,r.fPairs ++ [pair2 n],r.fTypes,r.fMaster,r.fItems⟩):=by
 have hp:=(wrd_len hl h).2.2
 unfold ptl
 rw [if_neg (fun e=>by rw [e] at hp; exact absurd (List.cons.inj hp).1 (by decide)),if_neg (fun e=>by rw [e] at hp; exact absurd (List.cons.inj hp).1 (by decide)),wrd_ne hl h (v:=wPal) (by decide),wrd_ne hl h (v:=wCls) (by decide),h]
theorem ptl_cls {l:ByteArray} {n:List Int} (hl:l.size ≤ 1048576) (h:wrd wCls 1 l = some n) (r:Request):ptl r l = (2,⟨r.fWay,r.fPallet,nt1 n,r.fPairs,r.fTypes,r.fMaster,r.fItems⟩):=by
 have hp:=(wrd_len hl h).2.2
 unfold ptl
 rw [if_neg (fun e=>by rw [e] at hp; exact absurd (List.cons.inj hp).1 (by decide)),if_neg (fun e=>by rw [e] at hp; exact absurd (List.cons.inj hp).1 (by decide)),wrd_ne hl h (v:=wPal) (by decide),h]
theorem ptl_pal {l:ByteArray} {n:List Int} (hl:l.size ≤ 1048576) (h:wrd wPal 4 l = some n) (r:Request):ptl r l = (1,⟨r.fWay,pal4 n,r.fClasses,r.fPairs,r.fTypes,r.fMaster,r.fItems⟩):=by
 have hp:=(wrd_len hl h).2.2
 unfold ptl
 rw [if_neg (fun e=>by rw [e] at hp; exact absurd (List.cons.inj hp).1 (by decide)),if_neg (fun e=>by rw [e] at hp; exact absurd (List.cons.inj hp).1 (by decide)),h]
theorem mach_yes {z l:ByteArray} {ls:List ByteArray} {last i k:Int} {r q:Request} (h:ptl r l = (k,q)) (hm:mf last k = true):mach z (l :: ls) last r i = mach z ls k q (i + 1):=by
 rw [mach,h,hm]; rfl
theorem ba_l {a b:ByteArray} (h:a.data.toList = b.data.toList):a = b:=ByteArray.ext (Array.ext' h)
theorem app_l (a b:ByteArray):(a ++ b).data.toList = a.data.toList ++ b.data.toList:=by rw [ByteArray.data_append]; simp
theorem line_list:∀ (l:List Int) (o:ByteArray),(lineL o l).data.toList = o.data.toList ++ (l.map fun n=>32 :: (numB n).data.toList).flatten
 | [],o=>by simp [lineL]
 | n :: l,o=>by
  show (lineL (o ++ (sp1 ++ numB n)) l).data.toList = _
  rw [line_list l,app_l,app_l]
  simp [sp1]
def palL (p:Pallet):List Int:=[p.fW,p.fD,p.fH,p.fGram]
def typL (t:Typ):List Int:=[t.fId,t.fW,t.fH,t.fD,t.fTare,t.fGram,t.fCost]
def itmL (x:Item):List Int:=[x.fId,x.fW,x.fH,x.fD,x.fGram,x.fClass,x.fCount]
def rowsM (r:Request):List (ByteArray × List Int) :=
 [(wPal,palL r.fPallet),(wCls,[r.fClasses])] ++ (r.fPairs.map (fun p=>(wWth,[p.fA,p.fB])) ++ (r.fTypes.map (fun t=>(wTyp,typL t)) ++ ((wMas,[r.fMaster]) :: r.fItems.map fun x=>(wItm,itmL x))))
def numOk (l:List Int):Bool:=l.all fun n=>inb n 0 999999
def otxF:List (ByteArray × List Int) → ByteArray → ByteArray
 | [],o=>o
 | p :: ps,o=>if numOk p.2 = true then otxF ps (o ++ (lineL p.1 p.2 ++ nl1)) else emB
def wayB (w:Int):ByteArray:=(if w = 0 then wWF else wWN) ++ nl1
def otxM (r:Request):ByteArray:=bif inb r.fWay 0 1 then otxF (rowsM r) (wayB r.fWay) else emB
theorem rows_len {r:Request} (h1:r.fPairs.length ≤ 64) (h2:r.fTypes.length ≤ 64) (h3:r.fItems.length ≤ 64):(rowsM r).length ≤ 200 ∧ ∀ p ∈ rowsM r,p.1.size ≤ 7 ∧ p.2.length ≤ 7:=by
 refine ⟨by simp [rowsM]; omega,fun p hp=>?_⟩
 unfold rowsM at hp
 simp only [List.mem_append,List.mem_cons,List.not_mem_nil,or_false,List.mem_map] at hp
 rcases hp with (rfl | rfl) | ⟨_,_,rfl⟩ | ⟨_,_,rfl⟩ | rfl | ⟨_,_,rfl⟩
 · exact ⟨(by decide:wPal.size ≤ 7),by simp [palL]⟩
 · exact ⟨(by decide:wCls.size ≤ 7),by simp⟩
 · exact ⟨(by decide:wWth.size ≤ 7),by simp⟩
 · exact ⟨(by decide:wTyp.size ≤ 7),by simp [typL]⟩
 · exact ⟨(by decide:wMas.size ≤ 7),by simp⟩
 · exact ⟨(by decide:wItm.size ≤ 7),by simp [itmL]⟩
theorem numOk_mem {l:List Int} (h:numOk l = true):∀ n ∈ l,0 ≤ n ∧ n ≤ 999999:=fun n hn=>inb_iff.1 (List.all_eq_true.1 h n hn)
theorem row_size {w:ByteArray} {l:List Int} (h:numOk l = true) (hw:w.size ≤ 7) (hl:l.length ≤ 7):(lineL w l ++ nl1).size ≤ 165:=by
 have:=line_size l w (numOk_mem h)
 rw [ByteArray.size_append,show nl1.size = 1 from rfl]
 omega
theorem otx_size:∀ (ps:List (ByteArray × List Int)) (o:ByteArray),(∀ p ∈ ps,p.1.size ≤ 7 ∧ p.2.length ≤ 7) → (otxF ps o).size ≤ o.size + 165 * ps.length
 | [],o,_=>by simp [otxF]
 | p :: ps,o,h=>by
  unfold otxF
  have hp:=h p (by simp)
  split
  · rename_i hk
    have h1:=row_size hk hp.1 hp.2
    have h2:=otx_size ps (o ++ (lineL p.1 p.2 ++ nl1)) fun q hq=>h q (by simp [hq])
    rw [ByteArray.size_append] at h2
    simp only [List.length_cons]
    omega
  · show 0 ≤ _; omega
theorem pts_cons {b:UInt8} {w:List UInt8} (r:List UInt8) (h:b ∉ w):pts b (w ++ b :: r) = w :: pts b r:=by
 unfold pts
 rw [cut_app _ h,cut_sep]
 simp
theorem pts_one {b:UInt8} {w:List UInt8} (h:b ∉ w):pts b w = [w]:=by
 have:=cut_app [] h
 rw [List.append_nil] at this
 unfold pts
 rw [this]
 simp [cut]
theorem pts_words:∀ (l:List (List UInt8)) (w:List UInt8),32 ∉ w → (∀ x ∈ l,(32:UInt8) ∉ x) → pts 32 (w ++ (l.map fun x=>32 :: x).flatten) = w :: l
 | [],w,hw,_=>by simpa using pts_one hw
 | x :: l,w,hw,h=>by
  rw [List.map_cons,List.flatten_cons,List.cons_append,pts_cons _ hw,pts_words l x (h x (by simp)) fun y hy=>h y (by simp [hy])]
theorem pts_lines:∀ (l:List (List UInt8)),(∀ x ∈ l,(10:UInt8) ∉ x) → pts 10 (l.map fun x=>x ++ [10]).flatten = l ++ [[]]
 | [],_=>rfl
 | x :: l,h=>by
  have:((x :: l).map fun x=>x ++ [10]).flatten = x ++ 10 :: (l.map fun x=>x ++ [10]).flatten:=by simp
  rw [this,pts_cons _ (h x (by simp)),pts_lines l fun y hy=>h y (by simp [hy])]
  rfl
theorem numB_free {n:Int} (h:0 ≤ n):(32:UInt8) ∉ (numB n).data.toList ∧ (10:UInt8) ∉ (numB n).data.toList:=by
 obtain ⟨u,rfl⟩:∃ u:Nat,n = u:=⟨n.toNat,by omega⟩
 have e:(numB (u:Int)).data.toList = Lib.decDigits u:=by rw [numB_dd]
 rw [e]
 have:=dd_dig u
 exact ⟨fun hm=>absurd (this _ hm).1 (by decide),fun hm=>absurd (this _ hm).1 (by decide)⟩
theorem line_pts {p:ByteArray} {n:List Int} (hp:(32:UInt8) ∉ p.data.toList) (h:∀ x ∈ n,0 ≤ x):parts 32 (lineL p n) = p :: n.map numB:=by
 unfold parts
 have e:(lineL p n).data.toList = p.data.toList ++ ((n.map fun n=>(numB n).data.toList).map fun x=>32 :: x).flatten:=by
  rw [line_list,List.map_map]; rfl
 rw [e,pts_words _ _ hp fun x hx=>by
  obtain ⟨m,hm,rfl⟩:=List.mem_map.1 hx
  exact (numB_free (h m hm)).1]
 rw [List.map_cons,List.map_map]
 rfl
end Go.Proofs.YthkaklkinepfkaaGreatDoor
