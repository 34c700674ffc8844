import Derived.Test.YtpcmapfabndggaaGreatBothWaysBP3
set_option linter.unusedSimpArgs false
set_option linter.unusedVariables false
/- A plan whose places are turned, each by itself, is right still. -/
namespace Go.Proofs.YtpcmapfabndggaaGreat
open Go
open Enc (rd ow)
open Arg (argv)
open Ret (retv)
open Wf (wf)
structure FeaI (r:Request) (x:Plan):Prop where
 c:clsM r = 0
 pok:pokB x = true
 emp:empB x = false
 once:onceB r x = true
 ch:x.fCartons.all (chB r) = true
 cg:x.fCartons.all (cgB r) = true
 cc:x.fCartons.all (ccB r) = true
 ins:(cs x).all (insP r) = true
 apr:aprL r [] (cs x) = true
 pl:(ints 0 (palM x.fSpots).toNat).all (plB r x) = true
theorem fea_iff {r:Request} {x:Plan}:feaB r x = true ↔ FeaI r x:=by
 unfold feaB chkM
 constructor
 · intro h
   have e:∀ (b:Bool) (n:Int) (m:Int),n ≠ 0 → ((bif b then n else m) == 0) = true → b = false ∧ (m == 0) = true:=by
    intro b n m hn hb
    cases b
    · exact ⟨rfl,hb⟩
    · simp at hb; exact absurd hb hn
   obtain ⟨h1,h⟩:=e _ _ _ (by decide) h
   obtain ⟨h2,h⟩:=e _ _ _ (by decide) h
   obtain ⟨h3,h⟩:=e _ _ _ (by decide) h
   obtain ⟨h4,h⟩:=e _ _ _ (by decide) h
   obtain ⟨h5,h⟩:=e _ _ _ (by decide) h
   obtain ⟨h6,h⟩:=e _ _ _ (by decide) h
   obtain ⟨h7,h⟩:=e _ _ _ (by decide) h
   obtain ⟨h8,h⟩:=e _ _ _ (by decide) h
   obtain ⟨h9,h⟩:=e _ _ _ (by decide) h
   obtain ⟨h10,h⟩:=e _ _ _ (by decide) h
   exact ⟨by simpa using h1,by simpa using h2,h3,by simpa using h4,by simpa using h5,by simpa using h6,by simpa using h7,by simpa using h8,by simpa using h9,by simpa using h10⟩
 · rintro ⟨h1,h2,h3,h4,h5,h6,h7,h8,h9,h10⟩
   rw [h1,h2,h3,h4,h5,h6,h7,h8,h9,h10]; rfl
theorem apr_fro {r:Request}:∀ (l pre:List (Carton × Spot)),(pre ++ l).Pairwise (fun a c=>ovP r c a = false) → aprL r pre l = true
 | [],_,_=>rfl
 | p :: l,pre,h=>by
  unfold aprL
  rw [Bool.and_eq_true]
  refine ⟨List.all_eq_true.2 fun q hq=>?_,apr_fro l (pre ++ [p]) (by simpa using h)⟩
  rw [(List.pairwise_append.1 h).2.2 q hq p (by simp)]; rfl
end Go.Proofs.YtpcmapfabndggaaGreat
/- The plan that is made is right. -/
namespace Go.Proofs.YtpcmapfabndggaaGreat
open Go
open Enc (rd ow)
open Arg (argv)
open Ret (retv)
open Wf (wf)
def shf (n:Int) (t:Spot):Spot:=⟨t.fPallet + n,t.fX,t.fY,t.fZ⟩
structure Acc (r:Request) (C:List Carton) (S:List Spot) (n:Int):Prop where
 len:S.length = C.length
 ins:∀ q ∈ C.zip S,(0 ≤ q.2.fPallet ∧ q.2.fPallet < n) ∧ (0 ≤ q.2.fX ∧ q.2.fX + (boxM r q.1).fW ≤ r.fPallet.fW) ∧ (0 ≤ q.2.fY ∧ q.2.fY + (boxM r q.1).fD ≤ r.fPallet.fD) ∧ (0 ≤ q.2.fZ ∧ q.2.fZ + (boxM r q.1).fH ≤ r.fPallet.fH)
 apr:(C.zip S).Pairwise fun a c=>Apt (boxM r a.1) a.2 (boxM r c.1) c.2
 occ:∀ k,0 ≤ k → k < n → ∃ q ∈ C.zip S,q.2.fPallet = k
 grp:∀ a ∈ C.zip S,∀ c ∈ C.zip S,a.2.fPallet = c.2.fPallet → a.1.fGroup = c.1.fGroup
 grm:∀ k,sumI (((C.zip S).filter fun q=>q.2.fPallet == k).map fun q=>(boxM r q.1).fGram) ≤ r.fPallet.fGram
 nn:0 ≤ n ∧ n ≤ C.length
theorem acc_nil {r:Request} (hc:clsM r = 0):Acc r [] [] 0:=by
 have hp:palB r.fPallet = true:=by
  have:=(clsM_zero hc).1
  unfold bouB at this
  simp only [Bool.and_eq_true] at this
  simp_all
 have:=pal_bd hp
 exact ⟨rfl,by simp,by simp,fun k h0 h1=>by omega,by simp,fun k=>by simp; omega,by simp⟩
theorem acc_step {r:Request} (hc:clsM r = 0) {C:List Carton} {S:List Spot} {n:Int} (A:Acc r C S n) {k:Int} (hk:0 ≤ k ∧ k < (grpM r).length):Acc r (C ++ crtK r k) (S ++ (spM r.fPallet (bxsK r k)).map (shf n)) (n + palM (spM r.fPallet (bxsK r k))):=by
 have g:=sp_geo (bxs_ok hc hk)
 have hpal:=sp_pals g (by have:=bxs_len r k; omega)
 rw [hpal]
 generalize ((ldM r.fPallet (lyM r.fPallet (shM r.fPallet (bxsK r k)))).length:Int) = N at g
 rw [bxs_eq hk] at g
 generalize hT:spM r.fPallet (bxsK r k) = T
 rw [show spM r.fPallet ((crtK r k).map (boxM r)) = T by rw [← bxs_eq hk,hT]] at g
 have hD:∀ c ∈ crtK r k,c.fGroup = k:=fun c hc=>by
  unfold crtK at hc
  obtain ⟨l,_,rfl⟩:=List.mem_map.1 hc
  rfl
 generalize crtK r k = D at g hD
 have hlen:T.length = D.length:=by have:=g.len; simpa using this
 have hN:=g.nn
 rw [List.length_map] at hN
 have hA:=A.nn
 have hz:(C ++ D).zip (S ++ T.map (shf n)) = C.zip S ++ (D.zip T).map (Prod.map id (shf n)):=by rw [List.zip_append A.len.symm,List.zip_map_right]
 have hzb:(D.map (boxM r)).zip T = (D.zip T).map (Prod.map (boxM r) id):=List.zip_map_left ..
 have gi:∀ q ∈ D.zip T,_:=fun q hq=>g.ins (Prod.map (boxM r) id q) (by rw [hzb]; exact List.mem_map.2 ⟨q,hq,rfl⟩)
 have ga:=g.apr
 have gg:=g.grm
 have go:=g.occ
 rw [hzb] at ga gg go
 refine ⟨by simp [A.len,hlen],fun q hq=>?_,?_,fun j j0 j1=>?_,fun a ha c hc' e=>?_,fun j=>?_,by simp; omega⟩
 · rw [hz] at hq
   rcases List.mem_append.1 hq with hq | hq
   · obtain ⟨h1,h2⟩:=A.ins q hq
     exact ⟨by omega,h2⟩
   · obtain ⟨a,ha,rfl⟩:=List.mem_map.1 hq
     obtain ⟨h1,h2⟩:=gi a ha
     exact ⟨by simp only [Prod.map,shf,id] at h1 ⊢; omega,h2⟩
 · rw [hz]
   refine List.pairwise_append.2 ⟨A.apr,List.pairwise_map.2 ((List.pairwise_map.1 ga).imp fun {a c} h=>?_),fun a ha c hc'=>?_⟩
   · simp only [Apt,Prod.map,shf,id] at h ⊢
     omega
   · obtain ⟨d,hd,rfl⟩:=List.mem_map.1 hc'
     have h1:=(A.ins a ha).1
     have h2:=(gi d hd).1
     refine .inl ?_
     simp only [Prod.map,shf,id] at h2 ⊢
     omega
 · rw [hz]
   by_cases h:j < n
   · obtain ⟨q,hq,e⟩:=A.occ j j0 h
     exact ⟨q,List.mem_append_left _ hq,e⟩
   · obtain ⟨q,hq,e⟩:=go (j - n) (by omega) (by omega)
     obtain ⟨d,hd,rfl⟩:=List.mem_map.1 hq
     refine ⟨_,List.mem_append_right _ (List.mem_map.2 ⟨d,hd,rfl⟩),?_⟩
     simp only [Prod.map,shf,id] at e ⊢
     omega
 · rw [hz] at ha hc'
   rcases List.mem_append.1 ha with ha | ha <;> rcases List.mem_append.1 hc' with hc' | hc'
   · exact A.grp a ha c hc' e
   · obtain ⟨d,hd,rfl⟩:=List.mem_map.1 hc'
     have h1:=(A.ins a ha).1
     have h2:=(gi d hd).1
     simp only [Prod.map,shf,id] at e h2
     omega
   · obtain ⟨d,hd,rfl⟩:=List.mem_map.1 ha
     have h1:=(A.ins c hc').1
     have h2:=(gi d hd).1
     simp only [Prod.map,shf,id] at e h2
     omega
   · obtain ⟨d,hd,rfl⟩:=List.mem_map.1 ha
     obtain ⟨d',hd',rfl⟩:=List.mem_map.1 hc'
     simp only [Prod.map,id,hD _ (List.of_mem_zip hd).1,hD _ (List.of_mem_zip hd').1]
 · rw [hz,List.filter_append,List.map_append,sumI_append]
   have hp:(0:Int) ≤ r.fPallet.fGram:=by have:=(pal_bd (bos_pal (bxs_ok hc hk))).2.2.2; omega
   by_cases h:j < n
   · have e:((D.zip T).map (Prod.map id (shf n))).filter (fun q=>q.2.fPallet == j) = []:=List.filter_eq_nil_iff.2 fun q hq=>by
       obtain ⟨d,hd,rfl⟩:=List.mem_map.1 hq
       have h2:=(gi d hd).1
       simp only [Prod.map,shf,id,beq_iff_eq] at h2 ⊢
       omega
     rw [e]
     have:=A.grm j
     simpa using this
   · have e:(C.zip S).filter (fun q=>q.2.fPallet == j) = []:=List.filter_eq_nil_iff.2 fun q hq=>by
       have h2:=(A.ins q hq).1
       simp only [beq_iff_eq]
       omega
     have h3:=gg (j - n)
     rw [List.filter_map,List.map_map] at h3
     rw [e,List.filter_map,List.map_map,List.map_nil,sumI_nil,Int.zero_add]
     have e2:((fun q:Carton × Spot=>q.2.fPallet == j) ∘ Prod.map id (shf n)) = ((fun q:Box × Spot=>q.2.fPallet == j - n) ∘ Prod.map (boxM r) id):=by
      funext q
      simp only [Function.comp,Prod.map,shf,id]
      rw [Bool.eq_iff_iff,beq_iff_eq,beq_iff_eq]
      omega
     rw [e2]
     exact h3
theorem acc_all {r:Request} (hc:clsM r = 0):∀ (ks:List Int) (C:List Carton) (s:List Spot × Int),(∀ k ∈ ks,0 ≤ k ∧ k < (grpM r).length) → Acc r C s.1 s.2 → Acc r (C ++ crtF r ks) (ks.foldl (plS r) s).1 (ks.foldl (plS r) s).2
 | [],C,s,_,A=>by simpa [crtF] using A
 | k :: ks,C,s,h,A=>by
  rw [List.foldl_cons,crtF,← List.append_assoc]
  exact acc_all hc ks _ _ (fun j hj=>h j (by simp [hj])) (acc_step hc A (h k (by simp)))
theorem pln_acc {r:Request} (hc:clsM r = 0):∃ n,Acc r (plnM r).1.fCartons (plnM r).1.fSpots n:=by
 unfold plnM
 rw [show (clsM r == 0) = true by simp [hc],cond_true]
 exact ⟨_,acc_all hc (ints 0 (grpM r).length) [] ([],0) (fun k hk=>by have:=ints_mem.1 hk; omega) (acc_nil hc)⟩
theorem incP_of:∀ (l pre:List Int),(pre ++ l).Pairwise (· < ·) → (∀ x ∈ l,0 ≤ x ∧ x ≤ 999) → incP pre l = true
 | [],_,_,_=>rfl
 | x :: l,pre,hp,hb=>by
  unfold incP
  rw [Bool.and_eq_true,Bool.and_eq_true,inb_iff]
  refine ⟨hb x (by simp),?_,incP_of l (pre ++ [x]) (by simpa using hp) fun y hy=>hb y (by simp [hy])⟩
  cases he:pre.getLast? with
  | none=>rfl
  | some y =>
   have hy:=List.mem_of_getLast? he
   have:=(List.pairwise_append.1 hp).2.2 y hy x (by simp)
   simpa using this
theorem srtI_lt {l:List Int} (h:l.Nodup):(srtI l).Pairwise (· < ·):=by
 have h1:=mergeSort_le l
 have h2:(srtI l).Nodup:=(srtI_perm l).nodup_iff.2 h
 exact (List.Pairwise.and h1 h2).imp fun h=>by have:=h.1; have:=h.2; omega
theorem pw_nodup {r:Request} {k:Int} {l:List Int} (hl:l ∈ pwM r (uofM r k)):l.Nodup:=by
 have h:=pw_flat r (uofM r k)
 rw [thr_uof] at h
 have:=h.nodup_iff.2 (uof_nodup r k)
 exact (List.pairwise_flatten.1 this).1 l hl
theorem chp_perm {r:Request} {a b:List Int} (h:a.Perm b):chpM r a = chpM r b:=by
 unfold chpM
 have e:chp r a = chp r b:=by
  funext s t
  unfold chp
  rw [hld_perm h]
 rw [e]
theorem pln_car {r:Request} (hc:clsM r = 0):(plnM r).1.fCartons = crtL r:=by
 unfold plnM
 rw [show (clsM r == 0) = true by simp [hc],cond_true]
theorem crt_ok {r:Request} {c:Carton} (h:c ∈ crtL r):cokB c = true ∧ chB r c = true ∧ cgB r c = true ∧ ccB r c = true ∧ c.fUnits ≠ []:=by
 have hgc:=our_gc h
 obtain ⟨k,hk,l,hl,rfl⟩:=crtF_mem.1 h
 have hk':=ints_mem.1 hk
 have hq:=pw_q l hl
 obtain ⟨hc,h2,h3,h4,h5⟩:=chp_pw hq
 have hz:=clsM_zero hc
 have ht:=bou_types hz.1 _ h3
 simp only [typB,Bool.and_eq_true,inb_iff] at ht
 have hg4:=(grpM_ok r).1
 have hp:=srtI_perm l
 have hun:=untM_len r
 obtain ⟨g1,g2,g3⟩:=hgc
 refine ⟨?_,?_,?_,?_,g1.1⟩
 · unfold cokB uriB
   simp only [Bool.and_eq_true,inb_iff,decide_eq_true_eq]
   refine ⟨by simp only [crtM]; omega,by simp only [crtM]; omega,incP_of _ _ (srtI_lt (pw_nodup hl)) fun x hx=>?_,?_⟩
   · have:=(uof_mem (g3 x hx)).1
     omega
   · have:=crt_units h
     omega
 · unfold chB
   show (match typM r (chpM r l).1.fId with | some t=>hldB r (srtI l) t | none=>false) = true
   rw [h5]
   simp only [hld_perm hp,h4]
 · unfold cgB
   refine List.all_eq_true.2 fun u hu=>?_
   obtain ⟨_,g,hg,hag⟩:=uof_mem (g3 u hu)
   have e:=gof_at (ix_some hg).2.2 hag
   have:=(ix_some hg).1
   unfold clsZ at e
   rw [e,beq_iff_eq]
   omega
 · unfold ccB
   show ((chpM r (srtI l)).2 && (chpM r (srtI l)).1.fId == (chpM r l).1.fId) = true
   rw [chp_perm hp,h2]; simp
theorem on_zip {x:Plan} (el:x.fSpots.length = x.fCartons.length) (k:Int) (f:Carton → Int):(onM x k).map (fun i=>f (carM x i)) = ((cs x).filter fun q=>q.2.fPallet == k).map fun q=>f q.1:=by
 have key:∀ (C:List Carton) (S:List Spot) (pre:List Carton),x.fCartons = pre ++ C → S.length = C.length → (onL k pre.length S).map (fun i=>f (carM x i)) = ((C.zip S).filter fun q=>q.2.fPallet == k).map fun q=>f q.1:=by
  intro C
  induction C with
  | nil=>intro S pre _ h; rw [show S = [] from List.eq_nil_of_length_eq_zero (by simpa using h)]; rfl
  | cons c C ih =>
   intro S pre he h
   match S,h with
   | s :: S,h =>
    have h1:=ih S (pre ++ [c]) (by simp [he]) (by simpa using h)
    have e3:(((pre ++ [c]).length:Nat):Int) = (pre.length:Int) + 1:=by simp
    rw [e3] at h1
    have h2:carM x (pre.length:Int) = c:=by unfold carM; rw [ix_nat,he]; simp
    rw [List.zip_cons_cons,List.filter_cons]
    unfold onL
    cases s.fPallet == k
    · simpa using h1
    · simp [h1,h2]
 unfold onM cs
 rw [show (x.fSpots.length == x.fCartons.length) = true by simp [el],cond_true]
 exact key x.fCartons x.fSpots [] rfl el
theorem box_bd {r:Request} (hc:clsM r = 0) {c:Carton} (h:c ∈ crtL r):(1 ≤ (boxM r c).fW ∧ 1 ≤ (boxM r c).fD ∧ 1 ≤ (boxM r c).fH) ∧ (boxM r c).fGram = grsM r c:=by
 obtain ⟨k,hk,l,hl,rfl⟩:=crtF_mem.1 h
 have hb:=(box_crt (pw_q l hl) k).2
 obtain ⟨_,h2,h3,h4,h5⟩:=chp_pw (pw_q l hl)
 simp only [bokB,Bool.and_eq_true,inb_iff] at hb
 refine ⟨⟨hb.1.1,hb.2.1.1,hb.2.2.1.1⟩,?_⟩
 unfold boxM grsM crtM
 simp only [h5,show (clsM r == 0) = true by simp [hc],cond_true]
theorem pln_fea {r:Request} (hc:clsM r = 0):FeaI r (plnM r).1:=by
 obtain ⟨n,A⟩:=pln_acc hc
 obtain ⟨l1,l2,l3⟩:=pln_len r
 have hcar:=pln_car hc
 have hp:palB r.fPallet = true:=by
  have:=(clsM_zero hc).1
  unfold bouB at this
  simp only [Bool.and_eq_true] at this
  simp_all
 obtain ⟨p1,p2,p3,p4⟩:=pal_bd hp
 have hn:=A.nn
 generalize plnM r = X at *
 obtain ⟨x,b⟩:=X
 simp only at *
 have hpal:palM x.fSpots = n:=by
  refine pal_eq ⟨hn.1,by omega⟩ (fun s hs=>?_) fun k k0 k1=>?_
  · obtain ⟨q,hq,rfl⟩:=zip_snd l1 hs
    exact (A.ins q hq).1
  · obtain ⟨q,hq,e⟩:=A.occ k k0 k1
    exact ⟨q.2,(List.of_mem_zip hq).2,e⟩
 have hcm:∀ q ∈ cs x,q.1 ∈ crtL r:=fun q hq=>by rw [← hcar]; exact (List.of_mem_zip hq).1
 have hbd:∀ q ∈ cs x,((0 ≤ q.2.fPallet ∧ q.2.fPallet < 2000) ∧ (0 ≤ q.2.fX ∧ q.2.fX + (boxM r q.1).fW ≤ r.fPallet.fW) ∧ (0 ≤ q.2.fY ∧ q.2.fY + (boxM r q.1).fD ≤ r.fPallet.fD) ∧ (0 ≤ q.2.fZ ∧ q.2.fZ + (boxM r q.1).fH ≤ r.fPallet.fH)) ∧ (1 ≤ (boxM r q.1).fW ∧ 1 ≤ (boxM r q.1).fD ∧ 1 ≤ (boxM r q.1).fH):=fun q hq=>by
  obtain ⟨h1,h2⟩:=A.ins q hq
  exact ⟨⟨by omega,h2⟩,(box_bd hc (hcm q hq)).1⟩
 refine ⟨hc,?_,?_,?_,?_,?_,?_,?_,?_,?_⟩
 · unfold pokB
   rw [Bool.and_eq_true,Bool.and_eq_true,beq_iff_eq,decide_eq_true_eq]
   refine ⟨l1,by omega,List.all_eq_true.2 fun q hq=>?_⟩
   rw [Bool.and_eq_true]
   refine ⟨(crt_ok (hcm q hq)).1,?_⟩
   obtain ⟨h1,h2⟩:=hbd q hq
   unfold sokB
   simp only [Bool.and_eq_true,inb_iff]
   omega
 · unfold empB
   rw [hcar]
   refine List.any_eq_false.2 fun c hc'=>?_
   have:=(crt_ok hc').2.2.2.2
   have:=List.length_pos_iff.2 this
   simp only [beq_iff_eq]
   omega
 · rw [once_iff,hcar]
   exact (our_flatF r _).trans (uof_all r)
 · rw [hcar]; exact List.all_eq_true.2 fun c h=>(crt_ok h).2.1
 · rw [hcar]; exact List.all_eq_true.2 fun c h=>(crt_ok h).2.2.1
 · rw [hcar]; exact List.all_eq_true.2 fun c h=>(crt_ok h).2.2.2.1
 · refine List.all_eq_true.2 fun q hq=>?_
   obtain ⟨h1,h2⟩:=hbd q hq
   unfold insP winB knoB
   simp only [Bool.and_eq_true,inb_iff,decide_eq_true_eq]
   rw [w64_id (by omega) (by omega),w64_id (by omega) (by omega),w64_id (by omega) (by omega)]
   omega
 · refine apr_fro _ _ ?_
   rw [List.nil_append]
   refine A.apr.imp_of_mem fun {a c} ha hc' hs=>?_
   obtain ⟨h1,h2⟩:=hbd a ha
   obtain ⟨k1,k2⟩:=hbd c hc'
   rw [← Bool.not_eq_true]
   intro ho
   unfold ovP ovlB crsB knoB at ho
   simp only [Bool.and_eq_true,inb_iff,decide_eq_true_eq,beq_iff_eq] at ho
   obtain ⟨_,_,o3,⟨o4,o5⟩,⟨o6,o7⟩,o8,o9⟩:=ho
   rw [w64_id (by omega) (by omega)] at o4 o5 o6 o7 o8 o9
   unfold Apt at hs
   omega
 · rw [hpal]
   refine List.all_eq_true.2 fun k hk=>?_
   have hk:=ints_mem.1 hk
   have hon:=on_zip l1 k
   have hne:onM x k ≠ []:=fun e=>by
    obtain ⟨q,hq,e1⟩:=A.occ k (by omega) (by omega)
    have h1:=hon fun _=>0
    rw [e] at h1
    have h2:q ∈ (cs x).filter fun q=>q.2.fPallet == k:=List.mem_filter.2 ⟨hq,by simp [e1]⟩
    have h3:=List.map_eq_nil_iff.1 h1.symm
    rw [h3] at h2
    simp at h2
   have hpos:=List.length_pos_iff.2 hne
   have h0:(((onM x k).length:Int) == 0) = false:=by simp; exact hne
   obtain ⟨i0,c0,e1,e2,rest,e3⟩:=on_cars h0
   unfold plB
   rw [h0,Bool.not_false,Bool.true_and,Bool.and_eq_true]
   constructor
   · have e:pgM r x k = sumI (((cs x).filter fun q=>q.2.fPallet == k).map fun q=>(boxM r q.1).fGram):=by
       unfold pgM
       rw [hon]
       congr 1
       exact List.map_congr_left fun q hq=>((box_bd hc (hcm q ((List.mem_filter.1 hq).1))).2).symm
     have:=A.grm k
     rw [e]
     simp only [Bool.not_eq_true',decide_eq_false_iff_not]
     exact Int.not_lt.2 this
   · have hall:∀ i ∈ onM x k,∃ q ∈ cs x,q.2.fPallet = k ∧ q.1 = carM x i:=fun i hi=>by
       obtain ⟨c,s,h1,h2,h3⟩:=onM_mem hi
       exact ⟨(c,s),List.mem_iff_getElem?.2 ⟨i.toNat,List.getElem?_zip_eq_some.2 ⟨(ix_some h1).2.2,(ix_some h2).2.2⟩⟩,h3,by unfold carM; rw [h1]; rfl⟩
     refine List.all_eq_true.2 fun i hi=>?_
     obtain ⟨q,hq,q1,q2⟩:=hall i hi
     rw [e1]
     obtain ⟨q',hq',q1',q2'⟩:=hall i0 (by rw [e3]; simp)
     rw [Option.getD_some,← q2,← q2',beq_iff_eq]
     exact A.grp q hq q' hq' (by rw [q1,q1'])
end Go.Proofs.YtpcmapfabndggaaGreat
/- An order with another way: what does not depend on the way. -/
namespace Go.Proofs.YtpcmapfabndggaaGreat
open Go
open Enc (rd ow)
open Arg (argv)
open Ret (retv)
open Wf (wf)
def wy (r:Request) (w:Int):Request:=⟨w,r.fPallet,r.fClasses,r.fPairs,r.fTypes,r.fMaster,r.fItems⟩
theorem cls_wy {r:Request} (hc:clsM r = 0) {w:Int} (hw:inb w 0 1 = true):clsM (wy r w) = clsM r:=by
 have hb:=(clsM_zero hc).1
 have e:bouB (wy r w) = bouB r:=by
  rw [hb]
  unfold bouB at hb ⊢
  simp only [Bool.and_eq_true] at hb ⊢
  simp only [wy,hw,true_and]
  simp_all
 unfold clsM
 rw [e]
 rfl
section
variable {r:Request} {w:Int}
theorem unt_wy (h:clsM (wy r w) = clsM r):untM (wy r w) = untM r:=by unfold untM; rw [h]; rfl
theorem itm_wy (h:clsM (wy r w) = clsM r):itmM (wy r w) = itmM r:=by funext u; unfold itmM; rw [unt_wy h]; rfl
theorem its_wy (h:clsM (wy r w) = clsM r):itsM (wy r w) = itsM r:=by funext us; unfold itsM; rw [itm_wy h]
theorem vol_wy (h:clsM (wy r w) = clsM r):volM (wy r w) = volM r:=by funext us; unfold volM; rw [its_wy h]
theorem grm_wy (h:clsM (wy r w) = clsM r):grmM (wy r w) = grmM r:=by funext us; unfold grmM; rw [its_wy h]
theorem wit_wy (h:clsM (wy r w) = clsM r):witB (wy r w) = witB r:=by funext us t; unfold witB; rw [vol_wy h,grm_wy h]
theorem itmZ_wy (h:clsM (wy r w) = clsM r):itmZ (wy r w) = itmZ r:=by funext u; unfold itmZ; rw [itm_wy h]
theorem hld_wy (h:clsM (wy r w) = clsM r):hldB (wy r w) = hldB r:=by
 funext us t
 have e:uOk (wy r w) t = uOk r t:=by funext u; unfold uOk; rw [itm_wy h,itmZ_wy h]
 unfold hldB
 rw [h,wit_wy h,e]
theorem chp_wy (h:clsM (wy r w) = clsM r):chpM (wy r w) = chpM r:=by
 funext us
 have e:chp (wy r w) us = chp r us:=by funext s t; unfold chp; rw [hld_wy h]
 unfold chpM
 rw [e]; rfl
theorem grp_wy (h:clsM (wy r w) = clsM r):grpM (wy r w) = grpM r:=by unfold grpM prsM; rw [h]; rfl
theorem ofG_wy (g:List Int):∀ (us:List Int) (u:Int),ofG (wy r w) g u us = ofG r g u us
 | [],_=>rfl
 | i :: us,u=>by
  unfold ofG
  rw [ofG_wy g us]; rfl
theorem uof_wy (h:clsM (wy r w) = clsM r):uofM (wy r w) = uofM r:=by
 funext k
 unfold uofM
 rw [grp_wy h,unt_wy h]
 cases ix (grpM r) k with
 | none=>rfl
 | some g=>exact ofG_wy g _ _
theorem box_wy (h:clsM (wy r w) = clsM r):boxM (wy r w) = boxM r:=by
 funext c
 unfold boxM
 rw [h,grm_wy h]; rfl
theorem grs_wy (h:clsM (wy r w) = clsM r):grsM (wy r w) = grsM r:=by
 funext c
 unfold grsM
 rw [h,grm_wy h]; rfl
theorem apr_wy (h:clsM (wy r w) = clsM r):∀ (l pre:List (Carton × Spot)),aprL (wy r w) pre l = aprL r pre l
 | [],_=>rfl
 | p :: l,pre=>by
  unfold aprL
  rw [apr_wy h l]
  have e:∀ q,ovP (wy r w) p q = ovP r p q:=fun q=>by unfold ovP; rw [box_wy h]
  simp only [e]
theorem low_wy (h:clsM (wy r w) = clsM r):lowM (wy r w) = lowM r:=by
 funext us
 have e1:grtB (wy r w) = grtB r:=rfl
 have e2:hvyB (wy r w) = hvyB r:=rfl
 unfold lowM
 rw [vol_wy h,grm_wy h,its_wy h,e1,e2]; rfl
theorem fea_wy (h:clsM (wy r w) = clsM r) (x:Plan):feaB (wy r w) x = feaB r x:=by
 unfold feaB chkM
 have e1:onceB (wy r w) x = onceB r x:=by unfold onceB; rw [unt_wy h]
 have e2:chB (wy r w) = chB r:=by funext c; unfold chB; rw [hld_wy h]; rfl
 have e3:cgB (wy r w) = cgB r:=by funext c; unfold cgB; rw [grp_wy h,itmZ_wy h]
 have e4:ccB (wy r w) = ccB r:=by funext c; unfold ccB; rw [chp_wy h]
 have e5:insP (wy r w) = insP r:=by funext c; unfold insP; rw [box_wy h]; rfl
 have e6:plB (wy r w) x = plB r x:=by
  funext k
  have e:pgM (wy r w) x k = pgM r x k:=by unfold pgM; rw [grs_wy h]
  unfold plB
  rw [e]; rfl
 rw [h,e1,e2,e3,e4,e5,e6,apr_wy h]
end
theorem low_crt {r:Request} (hc:clsM r = 0):∀ (ks:List Int),(∀ k ∈ ks,0 ≤ k ∧ k < (grpM r).length) → sumI (ks.map fun k=>lowM r (uofM r k)) ≤ (crtF r ks).length
 | [],_=>by simp [crtF]
 | k :: ks,h=>by
  have ih:=low_crt hc ks fun j hj=>h j (by simp [hj])
  have h1:lowM r (uofM r k) ≤ (pwM r (uofM r k)).length:=low_le hc (fun c hcm=>(pw_q c hcm).2.2) (by
   have:=pw_flat r (uofM r k)
   rw [thr_uof] at this
   exact this)
  rw [List.map_cons,sumI_cons,crtF,List.length_append]
  have h2:(crtK r k).length = (pwM r (uofM r k)).length:=by unfold crtK; rw [List.length_map]
  omega
end Go.Proofs.YtpcmapfabndggaaGreat
/- 'in' of spec and of impl: between two bounds. -/
namespace Go.Proofs.YtpcmapfabndggaaGreat
open Go
open Enc (rd ow)
open Arg (argv)
open Ret (retv)
open Wf (wf)
def inB (n lo hi:Int):Bool:=decide (lo ≤ n ∧ n ≤ hi)
theorem inB_iff {n lo hi:Int}:inB n lo hi = true ↔ lo ≤ n ∧ n ≤ hi:=by simp [inB]
theorem l1In_eq (fu:Nat) (n lo hi:Int):d_spec_l1In fu n lo hi = some (inB n lo hi):=by
 unfold d_spec_l1In inB
 by_cases h:n ≥ lo
 · rw [bif_true (by simpa using h)]
   have:lo ≤ n:=h
   simp [this]
 · rw [bif_false (by simpa using h)]
   have:¬ lo ≤ n:=h
   simp [this]
theorem in_eq (fu:Nat) (n lo hi:Int):d_impl_in fu n lo hi = some (inB n lo hi):=l1In_eq fu n lo hi
end Go.Proofs.YtpcmapfabndggaaGreat
/- PalletOk and BoxesOk of spec and of impl, as one Bool. -/
namespace Go.Proofs.YtpcmapfabndggaaGreat
open Go
open Enc (rd ow)
open Arg (argv)
open Ret (retv)
open Wf (wf)
def palletB (p:Pallet):Bool:=inB p.fW 1 2000 && (inB p.fD 1 2000 && (inB p.fH 1 2000 && inB p.fGram 1 100000))
def boxB (p:Pallet) (b:Box):Bool:=inB b.fW 1 p.fW && (inB b.fD 1 p.fD && (inB b.fH 1 p.fH && inB b.fGram 1 p.fGram))
def boxesB (p:Pallet) (l:List Box):Bool:=palletB p && l.all (boxB p)
theorem implPalletOk_eq (fu:Nat) (p:Pallet):d_impl_PalletOk fu p = some (palletB p):=by
 unfold d_impl_PalletOk d_impl_isSide palletB
 simp only [in_eq,ob_some]
 cases inB p.fW 1 2000 <;> cases inB p.fD 1 2000 <;> cases inB p.fH 1 2000 <;> rfl
theorem boxesOk1_eq (fu:Nat) (b:Box) (p:Pallet):d_impl_BoxesOk_1 fu b p = some (!boxB p b):=by
 unfold d_impl_BoxesOk_1 boxB
 simp only [in_eq,ob_some]
 cases inB b.fW 1 p.fW <;> cases inB b.fD 1 p.fD <;> cases inB b.fH 1 p.fH <;> rfl
theorem containsBox_eq (fu:Nat) (l:List Box) (f:Box → Option Bool) (g:Box → Bool) (hg:∀ b,f b = some (g b)) (h:l.length ≤ 1048576) (hf:l.length < fu) :
    d_slices_ContainsFunc_impl_Box_impl_Box fu l f = some (l.any g):=by
 unfold d_slices_ContainsFunc_impl_Box_impl_Box d_slices_IndexFunc_impl_Box_impl_Box
 have key:∀ (m i n:Nat),l.length - i = m → i ≤ l.length → m < n → ∃ r,d_slices_IndexFunc_impl_Box_impl_Box_L1 fu l f n i = some r ∧ decide (r ≥ 0) = (l.drop i).any g:=by
  intro m
  induction m with
  | zero =>
   intro i n hm hi hn
   obtain ⟨n,rfl⟩:∃ k,n = k + 1:=⟨n - 1,by omega⟩
   rw [d_slices_IndexFunc_impl_Box_impl_Box_L1.eq_2]
   unfold d_slices_IndexFunc_impl_Box_impl_Box_L1_B
   rw [bif_false (by simp; omega),List.drop_eq_nil_of_le (by omega)]
   exact ⟨_,rfl,rfl⟩
  | succ m ih =>
   intro i n hm hi hn
   obtain ⟨n,rfl⟩:∃ k,n = k + 1:=⟨n - 1,by omega⟩
   have hlt:i < l.length:=by omega
   rw [d_slices_IndexFunc_impl_Box_impl_Box_L1.eq_2]
   unfold d_slices_IndexFunc_impl_Box_impl_Box_L1_B
   rw [bif_true (by simpa using hlt),ob_of (ix_at (List.getElem?_eq_getElem hlt)),hg,ob_some,List.drop_eq_getElem_cons hlt,List.any_cons]
   cases hgx:g l[i]
   · rw [bif_false rfl,w64_id (by omega) (by omega),Bool.false_or]
     have:=ih (i + 1) n (by omega) (by omega) (by omega)
     simpa using this
   · rw [bif_true rfl]
     exact ⟨_,rfl,by simp⟩
 obtain ⟨r,h1,h2⟩:=key l.length 0 fu (by omega) (by omega) hf
 have h1':d_slices_IndexFunc_impl_Box_impl_Box_L1 fu l f fu 0 = some r:=h1
 rw [h1',ob_some,h2]
 rfl
theorem implBoxesOk_eq (fu:Nat) (p:Pallet) (l:List Box) (h:l.length ≤ 1048576) (hf:l.length < fu):d_impl_BoxesOk fu p l = some (boxesB p l):=by
 unfold d_impl_BoxesOk boxesB
 rw [implPalletOk_eq,ob_some]
 cases palletB p
 · rfl
 rw [bif_true rfl,containsBox_eq fu l _ (fun b=>!boxB p b) (fun b=>boxesOk1_eq fu b p) h hf,ob_some,Bool.true_and]
 congr 1
 induction l with
 | nil=>rfl
 | cons x xs ih =>
  simp only [List.any_cons,List.all_cons,Bool.not_or,Bool.not_not]
  rw [ih (by simp at h; omega) (by simp at hf; omega)]
end Go.Proofs.YtpcmapfabndggaaGreat
/- Shelves and layers of impl. -/
namespace Go.Proofs.YtpcmapfabndggaaGreat
open Go
open Enc (rd ow)
open Arg (argv)
open Ret (retv)
open Wf (wf)
theorem bos_eq (p:Pallet) (l:List Box):boxesB p l = bosB p l:=by
 have e:∀ a b c:Int,inB a b c = inb a b c:=fun a b c=>Bool.eq_iff_iff.2 (by rw [inB_iff,inb_iff])
 have e2:boxB p = bokB p:=by funext b; unfold boxB bokB; simp only [e]
 unfold boxesB bosB palletB palB
 simp only [e,e2]
theorem mx_if (a b:Int):(if b > a then b else a) = mxI a b:=by unfold mxI; split <;> split <;> omega
theorem setx_nat {α:Type} (l:List α) (j:Nat) (a:α):setx l (j:Int) a = l.set j a:=by simp [setx]
theorem i_shJ2 {fu:Nat} {k8:List Shelf → Int → Option (List Shelf)} {x i:Int} {b:Box} {o:List Shelf} {j:Nat} {s:Shelf} (hs:o[j]? = some s) (hl:s.fList.length ≤ 1000000)
    (h1:-1000000000 ≤ s.fW + b.fW ∧ s.fW + b.fW ≤ 1000000000) (h2:-1000000000 ≤ s.fGram + b.fGram ∧ s.fGram + b.fGram ≤ 1000000000):d_impl_Shelves_J2 fu k8 x i b o (j:Int) = k8 (o.set j (shAdd s i b)) (w64 (x + 1)):=by
 unfold d_impl_Shelves_J2 d_impl_Shelves_J1
 rw [ix_nat,hs,ob_some,ap1 (by simp; omega),ob_some]
 simp only [ob_some,setx_nat,List.set_set,mx_if]
 rw [w64_id (n:=s.fW + b.fW) (by omega) (by omega),w64_id (n:=s.fGram + b.fGram) (by omega) (by omega)]
 rfl
theorem i_shelves {fu:Nat} (hfu:2097153 ≤ fu) (p:Pallet) (l:List Box) (hl:l.length < 20):d_impl_Shelves fu p l = some (shM p l):=by
 unfold d_impl_Shelves shM
 rw [implBoxesOk_eq fu p l (by omega) (by omega),ob_some,bos_eq]
 cases hb:bosB p l
 · rfl
 · rw [Bool.not_true,cond_false,cond_true]
   have key:=lpI l (fun n (o:List Int) i=>d_impl_Shelves_L2 fu p l n o i) (fun xs o=>obind (d_impl_SortDown fu (o ++ xs.map (·.fD))) fun x=>d_impl_Shelves_L1 fu p l x fu [] 0) (fun xs o=>o.length + xs.length ≤ 1000) (by omega) ?_ ?_ fu [] (by simp; omega) (by omega)
   · rw [key,List.nil_append,i_down hfu (by simp; omega),ob_some,List.length_map]
     have hsl:=srt_len (dnk (l.map (·.fD))) l.length
     have hsm:=fun x=>srt_mem (k:=dnk (l.map (·.fD))) (n:=l.length) (x:=x)
     generalize srt (dnk (l.map (·.fD))) l.length = S at hsl hsm ⊢
     refine lpI S (fun n (o:List Shelf) i=>d_impl_Shelves_L1 fu p l S n o i) (fun xs o=>some (xs.foldl (shS p l) o)) (fun xs o=>(∀ i ∈ xs,0 ≤ i ∧ i < l.length) ∧ (∀ s ∈ o,ShI p l.length s) ∧ ((o.map (·.fList)).flatten).length + xs.length ≤ 1000 ∧ o.length + xs.length ≤ 1000) (by omega) ?_ ?_ fu [] ⟨fun i hi=>(hsm i).1 hi,by simp,by simp; omega,by simp; omega⟩ (by omega)
     · intro n o i x xs hx hd hI ih
       obtain ⟨i1,i2,i3,i4⟩:=hI
       simp only [List.length_cons] at i3 i4
       have hxi:=i1 x (by simp)
       obtain ⟨hbx,b1,b2,b3,b4⟩:=bok_at hb hxi
       obtain ⟨p1,p2,p3,p4⟩:=pal_bd (bos_pal hb)
       have hflat:((shS p l o x).map (·.fList)).flatten = (o.map (·.fList)).flatten ++ [x]:=nxG_flat (fun s=>rfl) rfl
       have hlen:(shS p l o x).length ≤ o.length + 1:=nxG_len _ _ _ _
       have ih':=ih (shS p l o x) ⟨fun j hj=>i1 j (by simp [hj]),shS_all hb hxi i2,by rw [hflat,List.length_append,List.length_singleton]; omega,by omega⟩
       simp only [d_impl_Shelves_L1.eq_2]
       unfold d_impl_Shelves_L1_B
       rw [hd,cond_true,hx,ob_some,hbx,ob_some,List.foldl_cons,← ih']
       have hnew:∀ o':List Shelf,o'.length ≤ 1000 → d_impl_Shelves_J2 fu (fun o i=>d_impl_Shelves_L1 fu p l S n o i) i x (bxA l x) (o' ++ [zSh]) ((o'.length:Nat):Int) = d_impl_Shelves_L1 fu p l S n (o' ++ [shAdd zSh x (bxA l x)]) (w64 (i + 1)):=fun o' ho'=>by
        rw [i_shJ2 (s:=zSh) (by simp) (by simp [zSh]) (by simp [zSh]; omega) (by simp [zSh]; omega)]
        simp
       by_cases he:o = []
       · subst he
         rw [bif_true (by decide),ap1 (by simp),ob_some]
         exact hnew [] (by simp)
       · obtain ⟨s,e1,e2⟩:=last_at he
         have hp:=List.length_pos_iff.2 he
         have hsm':=List.mem_of_getLast? e1
         have hs:=i2 s hsm'
         have hsl':=flat_le (fun s:Shelf=>s.fList) o s hsm'
         have eS:shS p l o x = bif shFit p (bxA l x) s then o.set (o.length - 1) (shAdd s x (bxA l x)) else o ++ [shAdd zSh x (bxA l x)]:=nxG_some e1
         have e3:w64 ((o.length:Int) - 1) = ((o.length - 1:Nat):Int):=by rw [w64_id (by omega) (by omega)]; omega
         have e4:w64 (((o.length - 1:Nat):Int) + 1) = ((o.length:Nat):Int):=by rw [w64_id (by omega) (by omega)]; omega
         have e5:o[o.length - 1]? = some s:=by rw [← List.getLast?_eq_getElem?]; exact e1
         obtain ⟨s1,s2,s3,s4,s5,s6⟩:=hs
         rw [e3,e4,bif_false (by simp),ix_nat,e5,ob_some,w64_id (n:=s.fW + _) (by omega) (by omega),w64_id (n:=s.fGram + _) (by omega) (by omega),ap1 (by simp; omega),ob_some,eS]
         unfold shFit
         have c1:decide (s.fW + (bxA l x).fW > p.fW) = !decide (s.fW + (bxA l x).fW ≤ p.fW):=by
          by_cases h:s.fW + (bxA l x).fW ≤ p.fW <;> simp [h] <;> omega
         have c2:decide (s.fGram + (bxA l x).fGram > p.fGram) = !decide (s.fGram + (bxA l x).fGram ≤ p.fGram):=by
          by_cases h:s.fGram + (bxA l x).fGram ≤ p.fGram <;> simp [h] <;> omega
         rw [c1,c2,ob_some]
         have h1:=hnew o (by omega)
         have h2:d_impl_Shelves_J2 fu (fun o i=>d_impl_Shelves_L1 fu p l S n o i) i x (bxA l x) o ((o.length - 1:Nat):Int) = d_impl_Shelves_L1 fu p l S n (o.set (o.length - 1) (shAdd s x (bxA l x))) (w64 (i + 1)):=i_shJ2 e5 (by omega) (by omega) (by omega)
         cases decide (s.fW + (bxA l x).fW ≤ p.fW)
         · exact h1
         · cases decide (s.fGram + (bxA l x).fGram ≤ p.fGram)
           · exact h1
           · exact h2
     · intro n o i hd _
       simp only [d_impl_Shelves_L1.eq_2]
       unfold d_impl_Shelves_L1_B
       rw [hd,cond_false]; rfl
   · intro n o i x xs hx hd hI ih
     simp only [List.length_cons] at hI
     simp only [d_impl_Shelves_L2.eq_2]
     unfold d_impl_Shelves_L2_B
     rw [hd,cond_true,hx,ob_some,ap1 (by simp; omega),ob_some,ih _ (by simp; omega)]
     simp
   · intro n o i hd _
     simp only [d_impl_Shelves_L2.eq_2]
     unfold d_impl_Shelves_L2_B
     rw [hd,cond_false]; simp
theorem i_lyJ2 {fu:Nat} {k7:List Layer → Int → Option (List Layer)} {i:Int} {b:Shelf} {o:List Layer} {j:Nat} {s:Layer} (hs:o[j]? = some s) (hl:s.fShelves.length ≤ 1000000)
    (h1:-1000000000 ≤ s.fD + b.fD ∧ s.fD + b.fD ≤ 1000000000) (h2:-1000000000 ≤ s.fGram + b.fGram ∧ s.fGram + b.fGram ≤ 1000000000):d_impl_LayersOf_J2 fu k7 i b o (j:Int) = k7 (o.set j (lyAdd s i b)) (w64 (i + 1)):=by
 unfold d_impl_LayersOf_J2 d_impl_LayersOf_J1
 rw [ix_nat,hs,ob_some,ap1 (by simp; omega),ob_some]
 simp only [ob_some,setx_nat,List.set_set,mx_if]
 rw [w64_id (n:=s.fD + b.fD) (by omega) (by omega),w64_id (n:=s.fGram + b.fGram) (by omega) (by omega)]
 rfl
theorem containsShelf_eq (fu:Nat) (l:List Shelf) (f:Shelf → Option Bool) (g:Shelf → Bool) (hg:∀ b,f b = some (g b)) (h:l.length ≤ 1048576) (hf:l.length < fu) :
    d_slices_ContainsFunc_impl_Shelf_impl_Shelf fu l f = some (l.any g):=by
 unfold d_slices_ContainsFunc_impl_Shelf_impl_Shelf d_slices_IndexFunc_impl_Shelf_impl_Shelf
 have key:∀ (m i n:Nat),l.length - i = m → i ≤ l.length → m < n → ∃ r,d_slices_IndexFunc_impl_Shelf_impl_Shelf_L1 fu l f n i = some r ∧ decide (r ≥ 0) = (l.drop i).any g:=by
  intro m
  induction m with
  | zero =>
   intro i n hm hi hn
   obtain ⟨n,rfl⟩:∃ k,n = k + 1:=⟨n - 1,by omega⟩
   rw [d_slices_IndexFunc_impl_Shelf_impl_Shelf_L1.eq_2]
   unfold d_slices_IndexFunc_impl_Shelf_impl_Shelf_L1_B
   rw [bif_false (by simp; omega),List.drop_eq_nil_of_le (by omega)]
   exact ⟨_,rfl,rfl⟩
  | succ m ih =>
   intro i n hm hi hn
   obtain ⟨n,rfl⟩:∃ k,n = k + 1:=⟨n - 1,by omega⟩
   have hlt:i < l.length:=by omega
   rw [d_slices_IndexFunc_impl_Shelf_impl_Shelf_L1.eq_2]
   unfold d_slices_IndexFunc_impl_Shelf_impl_Shelf_L1_B
   rw [bif_true (by simpa using hlt),ob_of (ix_at (List.getElem?_eq_getElem hlt)),hg,ob_some,List.drop_eq_getElem_cons hlt,List.any_cons]
   cases hgx:g l[i]
   · rw [bif_false rfl,w64_id (by omega) (by omega),Bool.false_or]
     have:=ih (i + 1) n (by omega) (by omega) (by omega)
     simpa using this
   · rw [bif_true rfl]
     exact ⟨_,rfl,by simp⟩
 obtain ⟨r,h1,h2⟩:=key l.length 0 fu (by omega) (by omega) hf
 have h1':d_slices_IndexFunc_impl_Shelf_impl_Shelf_L1 fu l f fu 0 = some r:=h1
 rw [h1',ob_some,h2]
 rfl
theorem i_sho {fu:Nat} (p:Pallet) (l:List Shelf) (hl:l.length ≤ 1048576) (hf:l.length < fu):d_impl_ShelvesOk fu p l = some (palB p && l.all fun s=>okL p s.fD s.fH s.fGram):=by
 unfold d_impl_ShelvesOk
 have e:∀ a b c:Int,inB a b c = inb a b c:=fun a b c=>Bool.eq_iff_iff.2 (by rw [inB_iff,inb_iff])
 have ep:palletB p = palB p:=by unfold palletB palB; simp only [e]
 rw [implPalletOk_eq,ob_some,ep,containsShelf_eq fu l _ (fun s=>!okL p s.fD s.fH s.fGram) (fun s=>by
  unfold d_impl_ShelvesOk_1 okL
  simp only [in_eq,ob_some,e]
  cases inb s.fD 1 p.fD <;> cases inb s.fH 1 p.fH <;> rfl) hl hf,ob_some]
 cases palB p
 · rfl
 · rw [cond_true,Bool.true_and]
   congr 1
   rw [Bool.eq_iff_iff]
   simp
theorem i_layers {fu:Nat} (hfu:2097153 ≤ fu) {p:Pallet} (hp:palB p = true) {l:List Shelf} (hb:OkS p l) (hl:l.length ≤ 1000):d_impl_LayersOf fu p l = some (lyM p l):=by
 unfold d_impl_LayersOf lyM
 rw [i_sho p l (by omega) (by omega),hp,okS_b hb,ob_some,Bool.and_self,Bool.not_true,cond_false]
 obtain ⟨p1,p2,p3,p4⟩:=pal_bd hp
 refine lpNI (l.length:Int) (fun n (o:List Layer) i=>d_impl_LayersOf_L1 fu p l n o i) (fun xs o=>some (xs.foldl (lyS p l) o)) (fun xs o=>(∀ s ∈ o,LyI p l.length s) ∧ ((o.map (·.fShelves)).flatten).length + xs.length ≤ 1000 ∧ o.length + xs.length ≤ 1000) (by omega) ?_ ?_ l.length fu [] 0 (by omega) (by omega) (by omega) ⟨by simp,by simp [ints_len]; omega,by simp [ints_len]; omega⟩
 · intro n o i xs x0 x1 hd hI ih
   obtain ⟨i2,i3,i4⟩:=hI
   simp only [List.length_cons] at i3 i4
   obtain ⟨hbx,b1,b2,b3,_⟩:=shA_at hb ⟨x0,x1⟩
   have hflat:((lyS p l o i).map (·.fShelves)).flatten = (o.map (·.fShelves)).flatten ++ [i]:=nxG_flat (fun s=>rfl) rfl
   have hlen:(lyS p l o i).length ≤ o.length + 1:=nxG_len _ _ _ _
   have ih':=ih (lyS p l o i) ⟨lyS_all hb ⟨x0,x1⟩ i2,by rw [hflat,List.length_append,List.length_singleton]; omega,by omega⟩
   simp only [d_impl_LayersOf_L1.eq_2]
   unfold d_impl_LayersOf_L1_B
   rw [hd,cond_true,hbx,ob_some,List.foldl_cons,← ih']
   have hnew:∀ o':List Layer,o'.length ≤ 1000 → d_impl_LayersOf_J2 fu (fun o i=>d_impl_LayersOf_L1 fu p l n o i) i (shA l i) (o' ++ [zLy]) ((o'.length:Nat):Int) = d_impl_LayersOf_L1 fu p l n (o' ++ [lyAdd zLy i (shA l i)]) (w64 (i + 1)):=fun o' ho'=>by
    rw [i_lyJ2 (s:=zLy) (by simp) (by simp [zLy]) (by simp [zLy]; omega) (by simp [zLy]; omega)]
    simp
   by_cases he:o = []
   · subst he
     rw [bif_true (by decide),ap1 (by simp),ob_some]
     exact hnew [] (by simp)
   · obtain ⟨s,e1,e2⟩:=last_at he
     have hp:=List.length_pos_iff.2 he
     have hsm':=List.mem_of_getLast? e1
     have hs:=i2 s hsm'
     have hsl':=flat_le (fun s:Layer=>s.fShelves) o s hsm'
     have eS:lyS p l o i = bif lyFit p (shA l i) s then o.set (o.length - 1) (lyAdd s i (shA l i)) else o ++ [lyAdd zLy i (shA l i)]:=nxG_some e1
     have e3:w64 ((o.length:Int) - 1) = ((o.length - 1:Nat):Int):=by rw [w64_id (by omega) (by omega)]; omega
     have e4:w64 (((o.length - 1:Nat):Int) + 1) = ((o.length:Nat):Int):=by rw [w64_id (by omega) (by omega)]; omega
     have e5:o[o.length - 1]? = some s:=by rw [← List.getLast?_eq_getElem?]; exact e1
     obtain ⟨s1,s2,s4,s5,s6⟩:=hs
     rw [e3,e4,bif_false (by simp),ix_nat,e5,ob_some,w64_id (n:=s.fD + _) (by omega) (by omega),w64_id (n:=s.fGram + _) (by omega) (by omega),ap1 (by simp; omega),ob_some,eS]
     unfold lyFit
     have c1:decide (s.fD + (shA l i).fD > p.fD) = !decide (s.fD + (shA l i).fD ≤ p.fD):=by
      by_cases h:s.fD + (shA l i).fD ≤ p.fD <;> simp [h] <;> omega
     have c2:decide (s.fGram + (shA l i).fGram > p.fGram) = !decide (s.fGram + (shA l i).fGram ≤ p.fGram):=by
      by_cases h:s.fGram + (shA l i).fGram ≤ p.fGram <;> simp [h] <;> omega
     rw [c1,c2,ob_some]
     have h1:=hnew o (by omega)
     have h2:d_impl_LayersOf_J2 fu (fun o i=>d_impl_LayersOf_L1 fu p l n o i) i (shA l i) o ((o.length - 1:Nat):Int) = d_impl_LayersOf_L1 fu p l n (o.set (o.length - 1) (lyAdd s i (shA l i))) (w64 (i + 1)):=i_lyJ2 e5 (by omega) (by omega) (by omega)
     cases decide (s.fD + (shA l i).fD ≤ p.fD)
     · exact h1
     · cases decide (s.fGram + (shA l i).fGram ≤ p.fGram)
       · exact h1
       · exact h2
 · intro n o i hd _
   simp only [d_impl_LayersOf_L1.eq_2]
   unfold d_impl_LayersOf_L1_B
   rw [hd,cond_false]; rfl
end Go.Proofs.YtpcmapfabndggaaGreat
/- Loads, spots and the plan of impl. -/
namespace Go.Proofs.YtpcmapfabndggaaGreat
open Go
open Enc (rd ow)
open Arg (argv)
open Ret (retv)
open Wf (wf)
theorem i_ldJ2 {fu:Nat} {k7:List Load → Int → Option (List Load)} {i:Int} {b:Layer} {o:List Load} {j:Nat} {s:Load} (hs:o[j]? = some s) (hl:s.fLayers.length ≤ 1000000)
    (h1:-1000000000 ≤ s.fH + b.fH ∧ s.fH + b.fH ≤ 1000000000) (h2:-1000000000 ≤ s.fGram + b.fGram ∧ s.fGram + b.fGram ≤ 1000000000):d_impl_LoadsOf_J2 fu k7 i b o (j:Int) = k7 (o.set j (ldAdd s i b)) (w64 (i + 1)):=by
 unfold d_impl_LoadsOf_J2 d_impl_LoadsOf_J1
 rw [ix_nat,hs,ob_some,ap1 (by simp; omega),ob_some]
 simp only [ob_some,setx_nat,List.set_set,mx_if]
 rw [w64_id (n:=s.fH + b.fH) (by omega) (by omega),w64_id (n:=s.fGram + b.fGram) (by omega) (by omega)]
 rfl
theorem containsLayer_eq (fu:Nat) (l:List Layer) (f:Layer → Option Bool) (g:Layer → Bool) (hg:∀ b,f b = some (g b)) (h:l.length ≤ 1048576) (hf:l.length < fu) :
    d_slices_ContainsFunc_impl_Layer_impl_Layer fu l f = some (l.any g):=by
 unfold d_slices_ContainsFunc_impl_Layer_impl_Layer d_slices_IndexFunc_impl_Layer_impl_Layer
 have key:∀ (m i n:Nat),l.length - i = m → i ≤ l.length → m < n → ∃ r,d_slices_IndexFunc_impl_Layer_impl_Layer_L1 fu l f n i = some r ∧ decide (r ≥ 0) = (l.drop i).any g:=by
  intro m
  induction m with
  | zero =>
   intro i n hm hi hn
   obtain ⟨n,rfl⟩:∃ k,n = k + 1:=⟨n - 1,by omega⟩
   rw [d_slices_IndexFunc_impl_Layer_impl_Layer_L1.eq_2]
   unfold d_slices_IndexFunc_impl_Layer_impl_Layer_L1_B
   rw [bif_false (by simp; omega),List.drop_eq_nil_of_le (by omega)]
   exact ⟨_,rfl,rfl⟩
  | succ m ih =>
   intro i n hm hi hn
   obtain ⟨n,rfl⟩:∃ k,n = k + 1:=⟨n - 1,by omega⟩
   have hlt:i < l.length:=by omega
   rw [d_slices_IndexFunc_impl_Layer_impl_Layer_L1.eq_2]
   unfold d_slices_IndexFunc_impl_Layer_impl_Layer_L1_B
   rw [bif_true (by simpa using hlt),ob_of (ix_at (List.getElem?_eq_getElem hlt)),hg,ob_some,List.drop_eq_getElem_cons hlt,List.any_cons]
   cases hgx:g l[i]
   · rw [bif_false rfl,w64_id (by omega) (by omega),Bool.false_or]
     have:=ih (i + 1) n (by omega) (by omega) (by omega)
     simpa using this
   · rw [bif_true rfl]
     exact ⟨_,rfl,by simp⟩
 obtain ⟨r,h1,h2⟩:=key l.length 0 fu (by omega) (by omega) hf
 have h1':d_slices_IndexFunc_impl_Layer_impl_Layer_L1 fu l f fu 0 = some r:=h1
 rw [h1',ob_some,h2]
 rfl
theorem i_sto {fu:Nat} (p:Pallet) (l:List Layer) (hl:l.length ≤ 1048576) (hf:l.length < fu):d_impl_StacksOk fu p l = some (palB p && l.all fun s=>okL p s.fD s.fH s.fGram):=by
 unfold d_impl_StacksOk
 have e:∀ a b c:Int,inB a b c = inb a b c:=fun a b c=>Bool.eq_iff_iff.2 (by rw [inB_iff,inb_iff])
 have ep:palletB p = palB p:=by unfold palletB palB; simp only [e]
 rw [implPalletOk_eq,ob_some,ep,containsLayer_eq fu l _ (fun s=>!okL p s.fD s.fH s.fGram) (fun s=>by
  unfold d_impl_StacksOk_1 okL
  simp only [in_eq,ob_some,e]
  cases inb s.fD 1 p.fD <;> cases inb s.fH 1 p.fH <;> rfl) hl hf,ob_some]
 cases palB p
 · rfl
 · rw [cond_true,Bool.true_and]
   congr 1
   rw [Bool.eq_iff_iff]
   simp
theorem i_loads {fu:Nat} (hfu:2097153 ≤ fu) {p:Pallet} (hp:palB p = true) {l:List Layer} (hb:OkY p l) (hl:l.length ≤ 1000):d_impl_LoadsOf fu p l = some (ldM p l):=by
 unfold d_impl_LoadsOf ldM
 rw [i_sto p l (by omega) (by omega),hp,okY_b hb,ob_some,Bool.and_self,Bool.not_true,cond_false]
 obtain ⟨p1,p2,p3,p4⟩:=pal_bd hp
 refine lpNI (l.length:Int) (fun n (o:List Load) i=>d_impl_LoadsOf_L1 fu p l n o i) (fun xs o=>some (xs.foldl (ldS p l) o)) (fun xs o=>(∀ s ∈ o,LdI p l.length s) ∧ ((o.map (·.fLayers)).flatten).length + xs.length ≤ 1000 ∧ o.length + xs.length ≤ 1000) (by omega) ?_ ?_ l.length fu [] 0 (by omega) (by omega) (by omega) ⟨by simp,by simp [ints_len]; omega,by simp [ints_len]; omega⟩
 · intro n o i xs x0 x1 hd hI ih
   obtain ⟨i2,i3,i4⟩:=hI
   simp only [List.length_cons] at i3 i4
   obtain ⟨hbx,b1,b2,b3,_⟩:=lyA_at hb ⟨x0,x1⟩
   have hflat:((ldS p l o i).map (·.fLayers)).flatten = (o.map (·.fLayers)).flatten ++ [i]:=nxG_flat (fun s=>rfl) rfl
   have hlen:(ldS p l o i).length ≤ o.length + 1:=nxG_len _ _ _ _
   have ih':=ih (ldS p l o i) ⟨ldS_all hb ⟨x0,x1⟩ i2,by rw [hflat,List.length_append,List.length_singleton]; omega,by omega⟩
   simp only [d_impl_LoadsOf_L1.eq_2]
   unfold d_impl_LoadsOf_L1_B
   rw [hd,cond_true,hbx,ob_some,List.foldl_cons,← ih']
   have hnew:∀ o':List Load,o'.length ≤ 1000 → d_impl_LoadsOf_J2 fu (fun o i=>d_impl_LoadsOf_L1 fu p l n o i) i (lyA l i) (o' ++ [zLd]) ((o'.length:Nat):Int) = d_impl_LoadsOf_L1 fu p l n (o' ++ [ldAdd zLd i (lyA l i)]) (w64 (i + 1)):=fun o' ho'=>by
    rw [i_ldJ2 (s:=zLd) (by simp) (by simp [zLd]) (by simp [zLd]; omega) (by simp [zLd]; omega)]
    simp
   by_cases he:o = []
   · subst he
     rw [bif_true (by decide),ap1 (by simp),ob_some]
     exact hnew [] (by simp)
   · obtain ⟨s,e1,e2⟩:=last_at he
     have hp:=List.length_pos_iff.2 he
     have hsm':=List.mem_of_getLast? e1
     have hs:=i2 s hsm'
     have hsl':=flat_le (fun s:Load=>s.fLayers) o s hsm'
     have eS:ldS p l o i = bif ldFit p (lyA l i) s then o.set (o.length - 1) (ldAdd s i (lyA l i)) else o ++ [ldAdd zLd i (lyA l i)]:=nxG_some e1
     have e3:w64 ((o.length:Int) - 1) = ((o.length - 1:Nat):Int):=by rw [w64_id (by omega) (by omega)]; omega
     have e4:w64 (((o.length - 1:Nat):Int) + 1) = ((o.length:Nat):Int):=by rw [w64_id (by omega) (by omega)]; omega
     have e5:o[o.length - 1]? = some s:=by rw [← List.getLast?_eq_getElem?]; exact e1
     obtain ⟨s1,s2,s4,s5⟩:=hs
     rw [e3,e4,bif_false (by simp),ix_nat,e5,ob_some,w64_id (n:=s.fH + _) (by omega) (by omega),w64_id (n:=s.fGram + _) (by omega) (by omega),ap1 (by simp; omega),ob_some,eS]
     unfold ldFit
     have c1:decide (s.fH + (lyA l i).fH > p.fH) = !decide (s.fH + (lyA l i).fH ≤ p.fH):=by
      by_cases h:s.fH + (lyA l i).fH ≤ p.fH <;> simp [h] <;> omega
     have c2:decide (s.fGram + (lyA l i).fGram > p.fGram) = !decide (s.fGram + (lyA l i).fGram ≤ p.fGram):=by
      by_cases h:s.fGram + (lyA l i).fGram ≤ p.fGram <;> simp [h] <;> omega
     rw [c1,c2,ob_some]
     have h1:=hnew o (by omega)
     have h2:d_impl_LoadsOf_J2 fu (fun o i=>d_impl_LoadsOf_L1 fu p l n o i) i (lyA l i) o ((o.length - 1:Nat):Int) = d_impl_LoadsOf_L1 fu p l n (o.set (o.length - 1) (ldAdd s i (lyA l i))) (w64 (i + 1)):=i_ldJ2 e5 (by omega) (by omega) (by omega)
     cases decide (s.fH + (lyA l i).fH ≤ p.fH)
     · exact h1
     · cases decide (s.fGram + (lyA l i).fGram ≤ p.fGram)
       · exact h1
       · exact h2
 · intro n o i hd _
   simp only [d_impl_LoadsOf_L1.eq_2]
   unfold d_impl_LoadsOf_L1_B
   rw [hd,cond_false]; rfl
theorem i_spotsOf {fu:Nat} (hfu:2097153 ≤ fu) (p:Pallet) (l:List Box) (hl:l.length < 20):d_impl_SpotsOf fu p l = some (spM p l):=by
 unfold d_impl_SpotsOf spM
 rw [implBoxesOk_eq fu p l (by omega) (by omega),ob_some,bos_eq]
 cases hb:bosB p l
 · rfl
 · obtain ⟨a1,a2,a3⟩:=shM_all hb
   have hS:=okS_sh hb
   obtain ⟨y1,y2,y3⟩:=lyM_all hS
   have hY:=okY_ly hS
   obtain ⟨d1,d2,d3⟩:=ldM_all hY
   have hpb:=bos_pal hb
   obtain ⟨q1,q2,q3,q4⟩:=pal_bd hpb
   rw [Bool.not_true,cond_false,cond_true,i_shelves hfu p l hl,ob_some,i_layers hfu hpb hS (by omega),ob_some,mk_some (by omega),ob_some,i_loads hfu hpb hY (by omega),ob_some]
   have f1:∀ s ∈ shM p l,s.fList.length ≤ 1000:=fun s hs=>by
    have:=flat_le (fun s:Shelf=>s.fList) _ s hs
    rw [a2,srt_len] at this; omega
   have f2:∀ s ∈ lyM p (shM p l),s.fShelves.length ≤ 1000:=fun s hs=>by
    have:=flat_le (fun s:Layer=>s.fShelves) _ s hs
    rw [y2,ints_len] at this; omega
   have f3:∀ s ∈ ldM p (lyM p (shM p l)),s.fLayers.length ≤ 1000:=fun s hs=>by
    have:=flat_le (fun s:Load=>s.fLayers) _ s hs
    rw [d2,ints_len] at this; omega
   generalize ldM p (lyM p (shM p l)) = ld at d1 d3 f3 ⊢
   generalize lyM p (shM p l) = ly at y1 y3 hY d1 d3 f2 ⊢
   generalize shM p l = sh at a1 a3 hS y1 y3 f1 ⊢
   have L4:=lpNI (ld.length:Int) (fun n (out:List Spot) o=>d_impl_SpotsOf_L4 fu l sh ly ld n out o) (fun os out=>some (spO l sh ly ld os out)) (fun os out=>out.length = l.length) (by omega) ?_ ?_ ld.length fu (List.replicate l.length zSp) 0 (by omega) (by omega) (by omega) (by simp)
   · exact L4
   · intro n out o os o0 o1 hd hI ih
     obtain ⟨x,hx⟩:=ix_in (l:=ld) o0 o1
     have ex:ldA ld o = x:=by unfold ldA; rw [hx]; rfl
     have hxm:=d1 x (ix_mem hx)
     have hxl:=f3 x (ix_mem hx)
     simp only [d_impl_SpotsOf_L4.eq_2]
     unfold d_impl_SpotsOf_L4_B
     rw [hd,cond_true,hx,ob_some]
     have L3:=lpI x.fLayers (fun m (s:List Spot × Int) i=>d_impl_SpotsOf_L3 fu (d_impl_SpotsOf_L4 fu l sh ly ld n) l sh ly o x m s.1 s.2 i) (fun is s=>d_impl_SpotsOf_L4 fu l sh ly ld n (spY l sh ly o is s).1 (w64 (o + 1))) (fun is s=>s.1.length = l.length ∧ (∀ i ∈ is,0 ≤ i ∧ i < ly.length) ∧ 0 ≤ s.2 ∧ s.2 + 2000 * is.length ≤ 2000000) (by omega) ?_ ?_ fu (out,0) ⟨hI,hxm.inn,by simp,by simp; omega⟩ (by omega)
     · refine L3.trans ?_
       rw [ih _ (by rw [spY_len]; exact hI)]
       simp only [spO,List.foldl_cons,ex]
     · intro m ⟨out,z⟩ i j is hj hd hI ih
       obtain ⟨i1,i2,i3,i4⟩:out.length = l.length ∧ (∀ i ∈ j :: is,0 ≤ i ∧ i < ly.length) ∧ 0 ≤ z ∧ z + 2000 * ((j :: is).length:Int) ≤ 2000000:=hI
       simp only [List.length_cons] at i4
       obtain ⟨hly,t1,t2,t3,hmem⟩:=lyA_at hY (i2 j (by simp))
       have hyi:=y1 _ hmem
       have hyl:=f2 _ hmem
       simp only [d_impl_SpotsOf_L3.eq_2]
       unfold d_impl_SpotsOf_L3_B
       rw [hd,cond_true,hj,ob_some,hly,ob_some]
       have L2:=lpI (lyA ly j).fShelves (fun q (s:List Spot × Int) k=>d_impl_SpotsOf_L2 fu (d_impl_SpotsOf_L3 fu (d_impl_SpotsOf_L4 fu l sh ly ld n) l sh ly o x m) l sh ly o z i j (lyA ly j) q s.1 s.2 k) (fun ks s=>d_impl_SpotsOf_L3 fu (d_impl_SpotsOf_L4 fu l sh ly ld n) l sh ly o x m (spS l sh o z ks s).1 (w64 (z + (lyA ly j).fH)) (w64 (i + 1))) (fun ks s=>s.1.length = l.length ∧ (∀ i ∈ ks,0 ≤ i ∧ i < sh.length) ∧ 0 ≤ s.2 ∧ s.2 + 2000 * ks.length ≤ 2000000) (by omega) ?_ ?_ fu (out,0) ⟨i1,hyi.inn,by simp,by simp; omega⟩ (by omega)
       · refine L2.trans ?_
         rw [w64_id (n:=z + _) (by omega) (by omega)]
         exact ih ((spS l sh o z (lyA ly j).fShelves (out,0)).1,z + (lyA ly j).fH) ⟨by rw [spS_len]; exact i1,fun i hi=>i2 i (by simp [hi]),by simp; omega,by simp; omega⟩
       · intro q ⟨out,y⟩ k b ks hb2 hd hI ih
         obtain ⟨i1,i2,i3,i4⟩:out.length = l.length ∧ (∀ i ∈ b :: ks,0 ≤ i ∧ i < sh.length) ∧ 0 ≤ y ∧ y + 2000 * ((b :: ks).length:Int) ≤ 2000000:=hI
         simp only [List.length_cons] at i4
         obtain ⟨hsh,u1,u2,u3,hmem2⟩:=shA_at hS (i2 b (by simp))
         have hsi:=a1 _ hmem2
         have hsl:=f1 _ hmem2
         simp only [d_impl_SpotsOf_L2.eq_2]
         unfold d_impl_SpotsOf_L2_B
         rw [hd,cond_true,hb2,ob_some,hsh,ob_some]
         have L1:=lpI (shA sh b).fList (fun q' (s:List Spot × Int) k'=>d_impl_SpotsOf_L1 fu (d_impl_SpotsOf_L2 fu (d_impl_SpotsOf_L3 fu (d_impl_SpotsOf_L4 fu l sh ly ld n) l sh ly o x m) l sh ly o z i j (lyA ly j) q) l sh o z y k b (shA sh b) q' s.1 s.2 k') (fun bs s=>d_impl_SpotsOf_L2 fu (d_impl_SpotsOf_L3 fu (d_impl_SpotsOf_L4 fu l sh ly ld n) l sh ly o x m) l sh ly o z i j (lyA ly j) q (spB l o y z bs s).1 (w64 (y + (shA sh b).fD)) (w64 (k + 1))) (fun bs s=>s.1.length = l.length ∧ (∀ i ∈ bs,0 ≤ i ∧ i < l.length) ∧ 0 ≤ s.2 ∧ s.2 + 2000 * bs.length ≤ 2000000) (by omega) ?_ ?_ fu (out,0) ⟨i1,hsi.inn,by simp,by simp; omega⟩ (by omega)
         · refine L1.trans ?_
           rw [w64_id (n:=y + _) (by omega) (by omega)]
           exact ih ((spB l o y z (shA sh b).fList (out,0)).1,y + (shA sh b).fD) ⟨by rw [spB_len]; exact i1,fun i hi=>i2 i (by simp [hi]),by simp; omega,by simp; omega⟩
         · intro q' ⟨out,x'⟩ k' c bs hc hd hI ih
           obtain ⟨i1,i2,i3,i4⟩:out.length = l.length ∧ (∀ i ∈ c :: bs,0 ≤ i ∧ i < l.length) ∧ 0 ≤ x' ∧ x' + 2000 * ((c :: bs).length:Int) ≤ 2000000:=hI
           simp only [List.length_cons] at i4
           have hcr:=i2 c (by simp)
           obtain ⟨hbx,v1,v2,v3,v4⟩:=bok_at hb hcr
           obtain ⟨sp,hsp⟩:=ix_in (l:=out) hcr.1 (by omega)
           simp only [d_impl_SpotsOf_L1.eq_2]
           unfold d_impl_SpotsOf_L1_B
           rw [hd,cond_true,hc,ob_some,hsp,ob_some,hbx,ob_some,w64_id (n:=x' + _) (by omega) (by omega)]
           exact ih (setx out c ⟨o,x',y,z⟩,x' + (bxA l c).fW) ⟨by rw [setx_len']; exact i1,fun i hi=>i2 i (by simp [hi]),by simp; omega,by simp; omega⟩
         · intro q' ⟨out,x'⟩ k' hd _
           simp only [d_impl_SpotsOf_L1.eq_2]
           unfold d_impl_SpotsOf_L1_B
           rw [hd,cond_false,hsh,ob_some]; rfl
       · intro q ⟨out,y⟩ k hd _
         simp only [d_impl_SpotsOf_L2.eq_2]
         unfold d_impl_SpotsOf_L2_B
         rw [hd,cond_false,hly,ob_some]; rfl
     · intro m ⟨out,z⟩ i hd _
       simp only [d_impl_SpotsOf_L3.eq_2]
       unfold d_impl_SpotsOf_L3_B
       rw [hd,cond_false]; rfl
   · intro n out o hd _
     simp only [d_impl_SpotsOf_L4.eq_2]
     unfold d_impl_SpotsOf_L4_B
     rw [hd,cond_false]; rfl
theorem bxs_few {r:Request} {k:Int} (h:0 ≤ k ∧ k < (grpM r).length):(bxsK r k).length ≤ 12:=by
 rw [bxs_eq h,List.length_map]
 exact crtK_len k
theorem i_plan {fu:Nat} {r:Request} (h:Sm fu r):d_impl_PlanOf fu r = some (plnM r):=by
 have hfu:=h.fu
 have hg:=(grpM_ok r).1
 have hcl:=crtL_len r
 unfold d_impl_PlanOf plnM
 rw [i_sound h,ob_some]
 cases hc:clsM r == 0
 · rfl
 · have hz:clsM r = 0:=by simpa using hc
   rw [Bool.not_true,cond_false,cond_true,i_crt h,ob_some,i_grp h,ob_some]
   have L3:=lpNI ((grpM r).length:Int) (fun n (s:List Spot × Int) k=>d_impl_PlanOf_L3 fu r (crtL r) (grpM r) n s.1 s.2 k) (fun ks s=>some ((⟨crtL r,(ks.foldl (plS r) s).1⟩:Plan),true)) (fun ks s=>(∀ k ∈ ks,0 ≤ k ∧ k < (grpM r).length) ∧ s.1.length + 48 * ks.length ≤ 1000 ∧ 0 ≤ s.2 ∧ s.2 + 1000000 * ks.length ≤ 10000000) (by omega) ?_ ?_ (grpM r).length fu ([],0) 0 (by omega) (by omega) (by omega) ⟨fun k hk=>by have:=ints_mem.1 hk; omega,by simp [ints_len]; omega,by simp,by simp [ints_len]; omega⟩
   · exact L3
   · intro n ⟨sp,base⟩ k ks k0 k1 hd hI ih
     obtain ⟨i1,i2,i3,i4⟩:(∀ j ∈ k :: ks,0 ≤ j ∧ j < (grpM r).length) ∧ sp.length + 48 * (k :: ks).length ≤ 1000 ∧ 0 ≤ base ∧ base + 1000000 * ((k :: ks).length:Int) ≤ 10000000:=hI
     simp only [List.length_cons] at i2 i4
     simp only [d_impl_PlanOf_L3.eq_2]
     unfold d_impl_PlanOf_L3_B
     rw [hd,cond_true]
     have L2:=lpI (crtL r) (fun m (bs:List Box) i=>d_impl_PlanOf_L2 fu (d_impl_PlanOf_L3 fu r (crtL r) (grpM r) n) r (crtL r) sp base k m bs i) (fun cs bs=>obind (d_impl_SpotsOf fu r.fPallet (bs ++ (cs.filter fun c=>c.fGroup == k).map (boxM r))) fun x=>obind (d_impl_Pallets fu x) fun y=>d_impl_PlanOf_L1 fu (d_impl_PlanOf_L3 fu r (crtL r) (grpM r) n) base k x y fu sp 0) (fun cs bs=>bs.length + cs.length ≤ 48 ∧ ∀ c ∈ cs,c.fUnits.length ≤ 12) (by omega) ?_ ?_ fu [] ⟨by simpa using hcl,fun c hc=>crt_units hc⟩ (by omega)
     · refine L2.trans ?_
       have hbl:=bxs_len r k
       have hbf:=bxs_few (r:=r) (k:=k) ⟨k0,k1⟩
       rw [List.nil_append,show ((crtL r).filter fun c=>c.fGroup == k).map (boxM r) = bxsK r k from rfl,i_spotsOf hfu _ _ (by omega),ob_some]
       have hsl:=spM_len (bxs_ok hz ⟨k0,k1⟩)
       have hpb:=palM_bd (spM r.fPallet (bxsK r k))
       have hps:∀ s ∈ spM r.fPallet (bxsK r k),s ∈ spM r.fPallet (bxsK r k):=fun _ h=>h
       have ih':=ih (plS r (sp,base) k) ⟨fun j hj=>i1 j (by simp [hj]),by simp [plS]; omega,by simp [plS]; omega,by simp [plS]; omega⟩
       rw [List.foldl_cons,← ih']
       have hS:=i_pals (fu:=fu) (l:=spM r.fPallet (bxsK r k)) (by omega) (by omega)
       have hwf:∀ s ∈ spM r.fPallet (bxsK r k),w64 (s.fPallet + base) = s.fPallet + base:=by
        intro s hs
        have:=sp_pal (p:=r.fPallet) (l:=bxsK r k) (by omega) s hs
        exact w64_id (by omega) (by omega)
       generalize hSP:spM r.fPallet (bxsK r k) = S at hsl hpb hS hwf ⊢
       rw [hS,ob_some]
       have L1:=lpI S (fun m (o:List Spot) i=>d_impl_PlanOf_L1 fu (d_impl_PlanOf_L3 fu r (crtL r) (grpM r) n) base k S (palM S) m o i) (fun xs o=>d_impl_PlanOf_L3 fu r (crtL r) (grpM r) n (o ++ xs.map (fun t=>⟨t.fPallet + base,t.fX,t.fY,t.fZ⟩)) (base + palM S) (w64 (k + 1))) (fun xs o=>o.length + xs.length ≤ 1000 ∧ ∀ s ∈ xs,w64 (s.fPallet + base) = s.fPallet + base) (by omega) ?_ ?_ fu sp ⟨by omega,hwf⟩ (by omega)
       · refine L1.trans ?_
         simp only [plS,hSP]
       · intro m o i x xs hx hd hI ih
         obtain ⟨j1,j2⟩:=hI
         simp only [List.length_cons] at j1
         simp only [d_impl_PlanOf_L1.eq_2]
         unfold d_impl_PlanOf_L1_B
         rw [hd,cond_true,hx,ob_some,j2 x (by simp),ap1 (by simp; omega),ob_some,ih _ ⟨by simp; omega,fun s hs=>j2 s (by simp [hs])⟩]
         simp
       · intro m o i hd hI
         simp only [d_impl_PlanOf_L1.eq_2]
         unfold d_impl_PlanOf_L1_B
         rw [hd,cond_false,w64_id (n:=base + _) (by omega) (by omega)]
         simp
     · intro m bs i c cs hx hd hI ih
       obtain ⟨j1,j2⟩:=hI
       simp only [List.length_cons] at j1
       have hcu:=j2 c (by simp)
       simp only [d_impl_PlanOf_L2.eq_2]
       unfold d_impl_PlanOf_L2_B d_impl_PlanOf_J1
       rw [hd,cond_true,hx,ob_some,i_boxM h c (by omega),ob_some,ap1 (by simp; omega),ob_some,ih _ ⟨by simp; omega,fun c hc=>j2 c (by simp [hc])⟩,ih _ ⟨by omega,fun c hc=>j2 c (by simp [hc])⟩,List.filter_cons]
       cases c.fGroup == k <;> simp
     · intro m bs i hd _
       simp only [d_impl_PlanOf_L2.eq_2]
       unfold d_impl_PlanOf_L2_B
       rw [hd,cond_false]; simp
   · intro n ⟨sp,base⟩ k hd _
     simp only [d_impl_PlanOf_L3.eq_2]
     unfold d_impl_PlanOf_L3_B
     rw [hd,cond_false]; rfl
end Go.Proofs.YtpcmapfabndggaaGreat
/- The master carton's room, by impl. -/
namespace Go.Proofs.YtpcmapfabndggaaGreat
open Go
open Enc (rd ow)
open Arg (argv)
open Ret (retv)
open Wf (wf)
theorem i_room {fu:Nat} {r:Request} (h:Sm fu r):d_impl_masterRoom fu r = some (volT (masM r),(masM r).fGram):=by
 unfold d_impl_masterRoom
 rw [i_mas h,ob_some,i_vol,ob_some]; rfl
end Go.Proofs.YtpcmapfabndggaaGreat
/- Lower of impl. -/
namespace Go.Proofs.YtpcmapfabndggaaGreat
open Go
open Enc (rd ow)
open Arg (argv)
open Ret (retv)
open Wf (wf)
theorem i_up {fu:Nat} {a b:Int} (ha:0 ≤ a ∧ a ≤ 4000000000000000000) (hb:1 ≤ b ∧ b ≤ 8000000000):d_impl_upBy fu a b = some (upM a b):=by
 unfold d_impl_upBy upM
 rw [odiv_ok (by omega),ob_some,w64_id (n:=a + b) (by omega) (by omega),w64_id (n:=a + b - 1) (by omega) (by omega)]
 have h0:0 ≤ Int.tdiv (a + b - 1) b:=Int.tdiv_nonneg (by omega) (by omega)
 have h1:Int.tdiv (a + b - 1) b ≤ a + b - 1:=by
  rw [Int.tdiv_eq_ediv_of_nonneg (by omega)]
  exact Int.ediv_le_self _ (by omega)
 rw [w64_id (by omega) (by omega)]
theorem i_low {fu:Nat} {r:Request} (h:Sm fu r) (hc:clsM r = 0) {us:List Int} (hl:us.length ≤ 1000):d_impl_Lower fu r us = some (lowM r us):=by
 have hfu:=h.fu
 have hm:=(mas_typ hc).2.2
 have hv1:=volT_pos hm
 have hv2:volT (masM r) ≤ 8000000000:=(volB_nn _ _ _).2
 have hg:=hm
 simp only [typB,Bool.and_eq_true,inb_iff] at hg
 have hvb:=volM_bd r us
 have hgb:=grmM_bd r us
 have hil:=itsM_len r us
 have hz:(!(clsM r == 0)) = false:=by simp [hc]
 unfold d_impl_Lower d_impl_LowerVolume d_impl_LowerGram d_impl_LowerGreat
 simp only [i_sound h,ob_some,hz,cond_false,i_room h,i_volOf h us (by omega) (by omega),i_grm h us (by omega) (by omega),i_items h us (by omega) (by omega)]
 rw [i_up (by omega) (by omega),ob_some,ob_some,i_up (by omega) (by omega),ob_some,ob_some]
 have key:=lpI (itsM r us) (fun n (s:Int × Int) i=>d_impl_LowerGreat_L1 fu (volT (masM r),(masM r).fGram) (itsM r us) n s.1 s.2 i) (fun xs s=>some (mxI (s.1 + cntB (grtB r) xs) (s.2 + cntB (hvyB r) xs))) (fun xs s=>(0 ≤ s.1 ∧ 0 ≤ s.2 ∧ s.1 + xs.length ≤ 2000 ∧ s.2 + xs.length ≤ 2000) ∧ ∀ x ∈ xs,0 ≤ x.fGram ∧ x.fGram ≤ 100000) (by omega) ?_ ?_ fu (0,0) ⟨by simp; omega,fun x hx=>grm_mem hx⟩ (by omega)
 · rw [key,ob_some]
   unfold lowM mxI
   simp only [Int.zero_add]
   congr 1
   generalize upM (volM r us) (volT (masM r)) = a,upM (grmM r us) (masM r).fGram = b,cntB (grtB r) (itsM r us) = c,cntB (hvyB r) (itsM r us) = d
   have m:∀ x y:Int,(if x > y then x else y) = max x y:=fun x y=>by rw [Int.max_def]; split <;> split <;> omega
   simp only [m]
   omega
 · intro n ⟨s1,s2⟩ i x xs hx hd hI ih
   obtain ⟨⟨i1,i2,i3,i4⟩,i5⟩:(0 ≤ s1 ∧ 0 ≤ s2 ∧ s1 + ((x :: xs).length:Int) ≤ 2000 ∧ s2 + ((x :: xs).length:Int) ≤ 2000) ∧ ∀ y ∈ x :: xs,0 ≤ y.fGram ∧ y.fGram ≤ 100000:=hI
   simp only [List.length_cons] at i3 i4
   have hxg:=i5 x (by simp)
   have hxv:=volB_nn x.fW x.fH x.fD
   simp only [d_impl_LowerGreat_L1.eq_2]
   unfold d_impl_LowerGreat_L1_B d_impl_LowerGreat_J2 d_impl_LowerGreat_J1
   rw [hd,cond_true,hx,ob_some,i_vol,ob_some,w64_id (n:=2 * volB _ _ _) (by omega) (by omega),w64_id (n:=2 * x.fGram) (by omega) (by omega),w64_id (n:=s1 + 1) (by omega) (by omega),w64_id (n:=s2 + 1) (by omega) (by omega)]
   have I:∀ p q:Int,(p = s1 ∨ p = s1 + 1) → (q = s2 ∨ q = s2 + 1) → d_impl_LowerGreat_L1 fu (volT (masM r),(masM r).fGram) (itsM r us) n p q (w64 (i + 1)) = some (mxI (p + cntB (grtB r) xs) (q + cntB (hvyB r) xs)):=fun p q hp hq=>ih (p,q) ⟨by simp; omega,fun y hy=>i5 y (by simp [hy])⟩
   have e1:decide (2 * volB x.fW x.fH x.fD > volT (masM r)) = grtB r x:=rfl
   have e2:decide (2 * x.fGram > (masM r).fGram) = hvyB r x:=rfl
   simp only [e1,e2,cntB]
   rw [I _ _ (.inr rfl) (.inr rfl),I _ _ (.inr rfl) (.inl rfl),I _ _ (.inl rfl) (.inr rfl),I _ _ (.inl rfl) (.inl rfl)]
   cases grtB r x <;> cases hvyB r x <;> simp [bitI,Int.add_assoc]
 · intro n ⟨s1,s2⟩ i hd hI
   simp only [d_impl_LowerGreat_L1.eq_2]
   unfold d_impl_LowerGreat_L1_B
   rw [hd,cond_false]
   simp only [cntB,Int.add_zero]
   unfold mxI
   congr 1
   split <;> split <;> omega
end Go.Proofs.YtpcmapfabndggaaGreat
/- What is drawn is there, and in bounds. -/
namespace Go.Proofs.YtpcmapfabndggaaGreat
open Go
open Enc (rd ow)
open Arg (argv)
open Ret (retv)
open Wf (wf)
def Tot {α:Type} (o:Option α) (Q:α → Prop):Prop:=∃ x,o = some x ∧ Q x
theorem Tot.mk {α:Type} {x:α} {Q:α → Prop} (h:Q x):Tot (some x) Q:=⟨x,rfl,h⟩
theorem Tot.of {α:Type} {o:Option α} {x:α} {Q:α → Prop} (e:o = some x) (h:Q x):Tot o Q:=⟨x,e,h⟩
theorem Tot.bind {α β:Type} {m:Option α} {k:α → Option β} {R:α → Prop} {Q:β → Prop} (h:Tot m R) (hk:∀ x,R x → Tot (k x) Q):Tot (obind m k) Q:=by
 obtain ⟨x,rfl,hx⟩:=h
 exact hk x hx
theorem Tot.bif {α:Type} {c:Bool} {a b:Option α} {Q:α → Prop} (h1:c = true → Tot a Q) (h2:c = false → Tot b Q):Tot (bif c then a else b) Q:=by
 cases c
 · exact h2 rfl
 · exact h1 rfl
theorem Tot.imp {α:Type} {o:Option α} {Q R:α → Prop} (h:Tot o Q) (hi:∀ x,Q x → R x):Tot o R:=by
 obtain ⟨x,e,hx⟩:=h
 exact ⟨x,e,hi x hx⟩
theorem Tot.ap {α β:Type} {bytes:Nat} {xs ys:List α} {k:List α → Option β} {Q:β → Prop} (h:(xs.length + ys.length) * bytes ≤ 140737488355328) (hk:Tot (k (xs ++ ys)) Q):Tot (obind (apnd bytes xs ys) k) Q:=by
 rw [ap1 h]; exact hk
theorem Tot.ix {α β:Type} {l:List α} {i:Int} {k:α → Option β} {Q:β → Prop} (h:0 ≤ i ∧ i < l.length) (hk:∀ x,x ∈ l → Tot (k x) Q):Tot (obind (ix l i) k) Q:=by
 have e:=ix_i (l:=l) (i:=i.toNat) (by omega)
 rw [show ((i.toNat:Nat):Int) = i by omega] at e
 rw [e]
 exact hk _ (List.getElem_mem _)
theorem lpT {σ β:Type} (b:Int) (L:Nat → σ → Int → Option β) (Q:β → Prop) (I:Int → σ → Prop) (hb:b ≤ 1099511627776)
    (hs:∀ n s (i:Int),0 ≤ i → i < b → I i s → (∀ s',I (i + 1) s' → Tot (L n s' (w64 (i + 1))) Q) → Tot (L (n + 1) s i) Q)
    (he:∀ n s (i:Int),0 ≤ i → b ≤ i → I i s → Tot (L (n + 1) s i) Q):∀ (m:Nat) n s (a:Int),0 ≤ a → (b - a).toNat = m → m < n → I a s → Tot (L n s a) Q:=by
 intro m
 induction m with
 | zero =>
  intro n s a ha hm hn hI
  obtain ⟨n,rfl⟩:∃ k,n = k + 1:=⟨n - 1,by omega⟩
  exact he n s a ha (by omega) hI
 | succ m ih =>
  intro n s a ha hm hn hI
  obtain ⟨n,rfl⟩:∃ k,n = k + 1:=⟨n - 1,by omega⟩
  refine hs n s a ha (by omega) hI fun s' hI'=>?_
  rw [w64_id (by omega) (by omega)]
  exact ih n s' (a + 1) (by omega) (by omega) (by omega) hI'
def CO (b:List U8) (c:Cur):Prop:=c.fb = b ∧ 0 ≤ c.fi ∧ b.length ≤ 1048576
theorem CO.re {b:List U8} {c c':Cur} (h:CO b c) (h':CO b c'):CO b ⟨c.fb,c'.fi,c'.fh⟩:=⟨h.1,h'.2⟩
theorem CO.re' {b:List U8} {c':Cur} (h':CO b c'):CO b ⟨b,c'.fi,c'.fh⟩:=⟨rfl,h'.2⟩
theorem and255 (x:Int):0 ≤ IntKind.wrap .i64 (((BitVec.ofInt (IntKind.bits .i64) x &&& BitVec.ofInt (IntKind.bits .i64) 255).toNat:Nat):Int) ∧ IntKind.wrap .i64 (((BitVec.ofInt (IntKind.bits .i64) x &&& BitVec.ofInt (IntKind.bits .i64) 255).toNat:Nat):Int) ≤ 255:=by
 have h:(BitVec.ofInt (IntKind.bits .i64) x &&& BitVec.ofInt (IntKind.bits .i64) 255).toNat ≤ 255:=by
  rw [BitVec.toNat_and]
  have h2:(BitVec.ofInt (IntKind.bits .i64) 255).toNat = 255:=by decide
  rw [h2]
  exact Nat.and_le_right
 have e:=w64_id (n:=(((BitVec.ofInt (IntKind.bits .i64) x &&& BitVec.ofInt (IntKind.bits .i64) 255).toNat:Nat):Int)) (by omega) (by omega)
 unfold w64 at e
 rw [e]
 omega
theorem dr_byte {fu:Nat} {b:List U8} {c:Cur} (h:CO b c):Tot (d_spec_l1Byte fu c) fun x=>(0 ≤ x.1 ∧ x.1 ≤ 255) ∧ CO b x.2:=by
 obtain ⟨h1,h2,h3⟩:=h
 unfold d_spec_l1Byte
 refine Tot.bif (fun hc=>?_) fun hc=>?_
 · have hlt:=of_decide_eq_true hc
   refine Tot.ix ⟨h2,hlt⟩ fun x _=>Tot.mk ⟨and255 _,h1,?_,h3⟩
   show 0 ≤ w64 (c.fi + 1)
   rw [h1] at hlt
   rw [w64_id (by omega) (by omega)]; omega
 · exact Tot.mk ⟨and255 _,h1,h2,h3⟩
theorem dr_below {fu:Nat} {b:List U8} {c:Cur} (h:CO b c) (n:Int):Tot (d_spec_l1Below fu c n) fun x=>(0 ≤ x.1 ∧ (0 < n → x.1 < n)) ∧ CO b x.2:=by
 unfold d_spec_l1Below
 refine Tot.bif (fun hc=>?_) fun hc=>?_
 · have hlt:=of_decide_eq_true hc
   exact Tot.mk ⟨⟨Int.le_refl _,fun h=>by omega⟩,h⟩
 · have hn:0 < n:=by simpa using hc
   refine Tot.bif (fun hc=>?_) fun hc=>?_
   · refine Tot.bind (dr_byte h) fun x hx=>?_
     rw [odiv_ok (by omega),ob_some]
     exact Tot.mk ⟨⟨Int.tmod_nonneg _ hx.1.1,fun _=>Int.tmod_lt_of_pos _ hn⟩,h.re hx.2⟩
   · refine Tot.bind (dr_byte h) fun x hx=>Tot.bind (dr_byte (h.re hx.2)) fun y hy=>Tot.bind (dr_byte (h.re hy.2)) fun z hz=>Tot.bind (dr_byte (h.re hz.2)) fun q hq=>?_
     rw [odiv_ok (by omega),ob_some]
     obtain ⟨⟨x0,x1⟩,_⟩:=hx
     obtain ⟨⟨y0,y1⟩,_⟩:=hy
     obtain ⟨⟨z0,z1⟩,_⟩:=hz
     obtain ⟨⟨q0,q1⟩,hq2⟩:=hq
     refine Tot.mk ⟨⟨?_,fun _=>Int.tmod_lt_of_pos _ hn⟩,h.re hq2⟩
     apply Int.tmod_nonneg
     simp only [w64_id (n:=x.1 * 16777216) (by omega) (by omega),w64_id (n:=y.1 * 65536) (by omega) (by omega),w64_id (n:=z.1 * 256) (by omega) (by omega)]
     rw [w64_id (n:=x.1 * 16777216 + y.1 * 65536) (by omega) (by omega),w64_id (n:=x.1 * 16777216 + y.1 * 65536 + z.1 * 256) (by omega) (by omega),w64_id (by omega) (by omega)]
     omega
theorem dr_once {fu:Nat} {b:List U8} {c:Cur} (h:CO b c) (n:Int):Tot (d_spec_l1Once fu c n) fun x=>CO b x.2:=by
 unfold d_spec_l1Once
 exact Tot.bind (dr_below h n) fun x hx=>Tot.mk (h.re hx.2)
theorem dr_pick {fu:Nat} {b:List U8} {c:Cur} (h:CO b c) (l:List Int) (hl:0 < l.length):Tot (d_spec_l1PickInt fu c l) fun x=>x.1 ∈ l ∧ CO b x.2:=by
 unfold d_spec_l1PickInt
 exact Tot.bind (dr_below h _) fun x hx=>Tot.ix ⟨hx.1.1,hx.1.2 (by omega)⟩ fun y hy=>Tot.mk ⟨hy,h.re hx.2⟩
theorem dr_new {fu:Nat} {b:List U8} (hb:b.length ≤ 1048576) (hf:1048577 ≤ fu):Tot (d_spec_l1New fu b) (CO b):=by
 unfold d_spec_l1New
 refine lpT (b.length:Int) (fun n s i=>d_spec_l1New_L1 fu b n s i) (CO b) (fun _ _=>True) (by omega) ?_ ?_ b.length fu _ 0 (by omega) (by omega) (by omega) trivial
 · intro n s i h0 h1 _ ih
   simp only [d_spec_l1New_L1.eq_2]
   unfold d_spec_l1New_L1_B d_spec_l1New_J1
   rw [bif_true (by simpa using h1)]
   refine Tot.bif (fun hc=>?_) fun hc=>?_
   · exact Tot.ix ⟨h0,h1⟩ fun x _=>ih _ trivial
   · exact Tot.mk ⟨rfl,by simp,hb⟩
 · intro n s i h0 h1 _
   simp only [d_spec_l1New_L1.eq_2]
   unfold d_spec_l1New_L1_B
   rw [bif_false (by simp; omega)]
   exact Tot.mk ⟨rfl,by simp,hb⟩
end Go.Proofs.YtpcmapfabndggaaGreat
/- An order that is drawn is there, and small. -/
namespace Go.Proofs.YtpcmapfabndggaaGreat
open Go
open Enc (rd ow)
open Arg (argv)
open Ret (retv)
open Wf (wf)
def SmR (r:Request):Prop:=r.fPairs.length ≤ 64 ∧ r.fTypes.length ≤ 64 ∧ r.fItems.length ≤ 64
theorem SmR.sm {r:Request} (h:SmR r) {fu:Nat} (hf:2097153 ≤ fu):Sm fu r:=⟨hf,by have:=h.1; omega,by have:=h.2.1; omega,by have:=h.2.2; omega⟩
theorem dr_right {fu:Nat} {b:List U8} {c:Cur} (h:CO b c) (hf:1048577 ≤ fu):Tot (d_spec_l2Right fu c) fun x=>(x.1.fPairs.length ≤ 40 ∧ (1 ≤ x.1.fTypes.length ∧ x.1.fTypes.length ≤ 8) ∧ x.1.fItems.length ≤ 8) ∧ CO b x.2:=by
 unfold d_spec_l2Right
 refine Tot.bind (dr_below h _) fun x1 h1=>Tot.bind (dr_pick (h.re h1.2) _ (by simp)) fun x2 h2=>Tot.bind (dr_pick (h.re h2.2) _ (by simp)) fun x3 h3=>Tot.bind (dr_pick (h.re h3.2) _ (by simp)) fun x4 h4=>Tot.bind (dr_pick (h.re h4.2) _ (by simp)) fun x5 h5=>Tot.bind (dr_below (h.re h5.2) _) fun x6 h6=>?_
 have hb:=h.2.2
 have hcb:=h.1
 obtain ⟨c0,c1⟩:=h6.1
 have c1:=c1 (by omega)
 have ew:w64 (1 + x6.1) = 1 + x6.1:=w64_id (by omega) (by omega)
 have L4:=lpT (1 + x6.1) (fun n (s:Int × Int × List Pair) i=>d_spec_l2Right_L4 fu c x1 x2 x3 x4 x5 x6 n s.1 s.2.1 s.2.2 i) (fun x:Request × Cur=>(x.1.fPairs.length ≤ 40 ∧ (1 ≤ x.1.fTypes.length ∧ x.1.fTypes.length ≤ 8) ∧ x.1.fItems.length ≤ 8) ∧ CO b x.2)
  (fun i s=>0 ≤ s.1 ∧ (s.2.2.length:Int) ≤ 8 * i ∧ i ≤ 4) (by omega) ?_ ?_ (1 + x6.1 - 0).toNat fu (x6.2.fi,x6.2.fh,[]) 0 (by omega) rfl (by omega) ⟨h6.2.2.1,by simp,by omega⟩
 · exact L4
 · intro n ⟨f1,f2,ps⟩ a ha0 ha1 hI ih
   obtain ⟨i1,i2,i3⟩:0 ≤ f1 ∧ (ps.length:Int) ≤ 8 * a ∧ a ≤ 4:=hI
   simp only [d_spec_l2Right_L4.eq_2]
   unfold d_spec_l2Right_L4_B
   rw [ew,bif_true (by simpa using ha1)]
   have L1:=lpT (a + 1) (fun m (s:Int × Int × List Pair) i=>d_spec_l2Right_L1 fu (d_spec_l2Right_L4 fu c x1 x2 x3 x4 x5 x6 n) c a m s.1 s.2.1 s.2.2 i) (fun x:Request × Cur=>(x.1.fPairs.length ≤ 40 ∧ (1 ≤ x.1.fTypes.length ∧ x.1.fTypes.length ≤ 8) ∧ x.1.fItems.length ≤ 8) ∧ CO b x.2)
    (fun i s=>0 ≤ s.1 ∧ (s.2.2.length:Int) ≤ 8 * a + 2 * i ∧ i ≤ a + 1) (by omega) ?_ ?_ (a + 1 - 0).toNat fu (f1,f2,ps) 0 (by omega) rfl (by omega) ⟨i1,by simp; omega,by omega⟩
   · exact L1
   · intro m ⟨g1,g2,qs⟩ i hi0 hi1 hI ih2
     obtain ⟨j1,j2,j3⟩:0 ≤ g1 ∧ (qs.length:Int) ≤ 8 * a + 2 * i ∧ i ≤ a + 1:=hI
     simp only [d_spec_l2Right_L1.eq_2]
     unfold d_spec_l2Right_L1_B
     rw [bif_true (by simp; omega)]
     unfold d_spec_l2Right_J1
     refine Tot.bif (fun hc=>?_) fun hc=>?_
     · refine Tot.ap (by simp; omega) ?_
       exact ih2 (g1,g2,_) ⟨j1,by simp; omega,by omega⟩
     · refine Tot.bind (dr_once (b:=b) (c:=⟨c.fb,g1,g2⟩) ⟨hcb,j1,hb⟩ 2) fun y hy=>?_
       refine Tot.bif (fun hc=>?_) fun hc=>?_
       · refine Tot.ap (by simp; omega) ?_
         exact ih2 (y.2.fi,y.2.fh,_) ⟨hy.2.1,by simp; omega,by omega⟩
       · exact ih2 (y.2.fi,y.2.fh,_) ⟨hy.2.1,by simp; omega,by omega⟩
   · intro m ⟨g1,g2,qs⟩ i hi0 hi1 hI
     obtain ⟨j1,j2,j3⟩:0 ≤ g1 ∧ (qs.length:Int) ≤ 8 * a + 2 * i ∧ i ≤ a + 1:=hI
     simp only [d_spec_l2Right_L1.eq_2]
     unfold d_spec_l2Right_L1_B
     rw [bif_false (by simp; omega)]
     have:i = a + 1:=by omega
     exact ih (g1,g2,qs) ⟨j1,by simp; omega,by omega⟩
 · intro n ⟨f1,f2,ps⟩ a ha0 ha1 hI
   obtain ⟨i1,i2,i3⟩:0 ≤ f1 ∧ (ps.length:Int) ≤ 8 * a ∧ a ≤ 4:=hI
   simp only [d_spec_l2Right_L4.eq_2]
   unfold d_spec_l2Right_L4_B
   rw [ew,bif_false (by simpa using ha1)]
   refine Tot.bind (dr_below (b:=b) (c:=⟨c.fb,f1,f2⟩) ⟨hcb,i1,hb⟩ _) fun y1 g1=>Tot.bind (dr_pick (h.re g1.2) _ (by simp)) fun y2 g2=>Tot.bind (dr_pick (h.re g2.2) _ (by simp)) fun y3 g3=>Tot.ap (by simp) ?_
   unfold d_spec_l2Right_J5
   refine Tot.bind (dr_below (h.re g3.2) _) fun y4 g4=>?_
   obtain ⟨e0,e1⟩:=g4.1
   have e1:=e1 (by omega)
   have L3:=lpT y4.1 (fun m (s':Int × Int × List Typ) i=>d_spec_l2Right_L3 fu c x1 x2 x3 x4 x5 x6 ps y4 m s'.1 s'.2.1 s'.2.2 i) (fun x:Request × Cur=>(x.1.fPairs.length ≤ 40 ∧ (1 ≤ x.1.fTypes.length ∧ x.1.fTypes.length ≤ 8) ∧ x.1.fItems.length ≤ 8) ∧ CO b x.2)
    (fun i s=>0 ≤ s.1 ∧ (s.2.2.length:Int) = 1 + i ∧ i ≤ y4.1) (by omega) ?_ ?_ (y4.1 - 0).toNat fu (y4.2.fi,y4.2.fh,([]:List Typ) ++ [(⟨7,12,10,11,y1.1,y2.1,y3.1⟩:Typ)]) 0 (by omega) rfl (by omega) ⟨g4.2.2.1,by simp,by omega⟩
   · exact L3
   · intro m ⟨g1,g2,ts⟩ i hi0 hi1 hI ih2
     obtain ⟨j1,j2,j3⟩:0 ≤ g1 ∧ (ts.length:Int) = 1 + i ∧ i ≤ y4.1:=hI
     simp only [d_spec_l2Right_L3.eq_2]
     unfold d_spec_l2Right_L3_B
     rw [bif_true (by simp; omega)]
     refine Tot.bind (dr_below (b:=b) (c:=⟨c.fb,g1,g2⟩) ⟨hcb,j1,hb⟩ _) fun z1 f1=>Tot.bind (dr_below (h.re f1.2) _) fun z2 f2=>Tot.bind (dr_below (h.re f2.2) _) fun z3 f3=>Tot.bind (dr_below (h.re f3.2) _) fun z4 f4=>Tot.bind (dr_below (h.re f4.2) _) fun z5 f5=>Tot.bind (dr_below (h.re f5.2) _) fun z6 f6=>Tot.ap (by simp; omega) ?_
     exact ih2 (z6.2.fi,z6.2.fh,_) ⟨f6.2.2.1,by simp; omega,by omega⟩
   · intro m ⟨g1,g2,ts⟩ i hi0 hi1 hI
     obtain ⟨j1,j2,j3⟩:0 ≤ g1 ∧ (ts.length:Int) = 1 + i ∧ i ≤ y4.1:=hI
     simp only [d_spec_l2Right_L3.eq_2]
     unfold d_spec_l2Right_L3_B
     rw [bif_false (by simp; omega)]
     refine Tot.bind (dr_below (b:=b) (c:=⟨c.fb,g1,g2⟩) ⟨hcb,j1,hb⟩ _) fun z f=>?_
     obtain ⟨q0,q1⟩:=f.1
     have q1:=q1 (by omega)
     have L2:=lpT z.1 (fun m (t:Int × Int × List Item × Int) i=>d_spec_l2Right_L2 fu c x1 x2 x3 x4 x5 x6 ps ts z m t.1 t.2.1 t.2.2.1 t.2.2.2 i) (fun x:Request × Cur=>(x.1.fPairs.length ≤ 40 ∧ (1 ≤ x.1.fTypes.length ∧ x.1.fTypes.length ≤ 8) ∧ x.1.fItems.length ≤ 8) ∧ CO b x.2)
      (fun i t=>0 ≤ t.1 ∧ (t.2.2.1.length:Int) ≤ i ∧ i ≤ z.1) (by omega) ?_ ?_ (z.1 - 0).toNat fu (z.2.fi,z.2.fh,[],0) 0 (by omega) rfl (by omega) ⟨f.2.2.1,by simp,by omega⟩
     · exact L2
     · intro m' ⟨k4,k5,is,un⟩ i' hi0 hi1 hI ih2
       obtain ⟨k1,k2,k3⟩:0 ≤ k4 ∧ (is.length:Int) ≤ i' ∧ i' ≤ z.1:=hI
       simp only [d_spec_l2Right_L2.eq_2]
       unfold d_spec_l2Right_L2_B
       rw [bif_true (by simp; omega)]
       refine Tot.bind (dr_below (b:=b) (c:=⟨c.fb,k4,k5⟩) ⟨hcb,k1,hb⟩ _) fun w1 v1=>Tot.bind (dr_below (h.re v1.2) _) fun w2 v2=>Tot.bind (dr_below (h.re v2.2) _) fun w3 v3=>Tot.bind (dr_below (h.re v3.2) _) fun w4 v4=>Tot.bind (dr_below (h.re v4.2) _) fun w5 v5=>Tot.bind (dr_below (h.re v5.2) _) fun w6 v6=>?_
       unfold d_spec_l2Right_J4
       have J3:∀ (p q:Int) (x:Item),0 ≤ p → Tot (d_spec_l2Right_J3 fu (d_spec_l2Right_L2 fu c x1 x2 x3 x4 x5 x6 ps ts z m') is un i' p q x) (fun x:Request × Cur=>(x.1.fPairs.length ≤ 40 ∧ (1 ≤ x.1.fTypes.length ∧ x.1.fTypes.length ≤ 8) ∧ x.1.fItems.length ≤ 8) ∧ CO b x.2):=by
        intro p q x hp
        unfold d_spec_l2Right_J3 d_spec_l2Right_J2
        refine Tot.bif (fun hc=>?_) fun hc=>?_
        · refine Tot.ap (by simp; omega) ?_
          exact ih2 (p,q,_,_) ⟨hp,by simp; omega,by omega⟩
        · exact ih2 (p,q,_,_) ⟨hp,by simp; omega,by omega⟩
       refine Tot.bind (dr_once (h.re v6.2) _) fun w7 v7=>?_
       refine Tot.bif (fun hc=>?_) fun hc=>?_
       · refine Tot.bind (dr_below (h.re v7) _) fun w8 v8=>?_
         exact J3 _ _ _ v8.2.2.1
       · exact J3 _ _ _ v7.2.1
     · intro m' ⟨k4,k5,is,un⟩ i' hi0 hi1 hI
       obtain ⟨k1,k2,k3⟩:0 ≤ k4 ∧ (is.length:Int) ≤ i' ∧ i' ≤ z.1:=hI
       simp only [d_spec_l2Right_L2.eq_2]
       unfold d_spec_l2Right_L2_B
       rw [bif_false (by simp; omega)]
       exact Tot.mk ⟨⟨by simp; omega,by simp; omega,by simp; omega⟩,hcb,k1,hb⟩
theorem dr_good {fu:Nat} {b:List U8} {c:Cur} (h:CO b c) (hf:2097153 ≤ fu):Tot (d_spec_l5Good fu c) fun x=>SmR x.1 ∧ CO b x.2:=by
 unfold d_spec_l5Good
 refine Tot.bind (dr_right h (by omega)) fun x hx=>?_
 obtain ⟨⟨a1,a2,a3⟩,hc⟩:=hx
 have hs:SmR x.1:=⟨by omega,by omega,by omega⟩
 rw [s_cls (hs.sm hf),ob_some]
 refine Tot.bif (fun _=>?_) fun _=>Tot.mk ⟨hs,h.re hc⟩
 have hs2:Sm fu (⟨x.1.fWay,(⟨30,25,24,400⟩:Pallet),x.1.fClasses,x.1.fPairs,x.1.fTypes,x.1.fMaster,x.1.fItems⟩:Request):=⟨hf,by simp; omega,by simp; omega,by simp; omega⟩
 rw [s_mas hs2,ob_some]
 generalize othM _ = t
 refine lpT (x.1.fItems.length:Int) (fun n s i=>d_spec_l5Good_L1 fu c x t n s i) _ (fun i s=>(s.length:Int) ≤ i ∧ i ≤ x.1.fItems.length) (by omega) ?_ ?_ _ fu [] 0 (by omega) rfl (by omega) ⟨by simp,by omega⟩
 · intro n s i h0 h1 hI ih
   simp only [d_spec_l5Good_L1.eq_2]
   unfold d_spec_l5Good_L1_B d_spec_l5Good_J1
   rw [bif_true (by simpa using h1)]
   refine Tot.ix ⟨h0,h1⟩ fun y hy=>?_
   rw [s_fit hf,ob_some]
   refine Tot.bif (fun _=>?_) fun _=>ih _ ⟨by omega,by omega⟩
   refine Tot.ix ⟨h0,h1⟩ fun y hy=>Tot.ap (by simp; omega) ?_
   exact ih _ ⟨by simp; omega,by omega⟩
 · intro n s i h0 h1 hI
   simp only [d_spec_l5Good_L1.eq_2]
   unfold d_spec_l5Good_L1_B
   rw [bif_false (by simp; omega)]
   exact Tot.mk ⟨⟨by simp; omega,by simp; omega,by simp; omega⟩,h.re hc⟩
theorem setx_lenD {α:Type} (l:List α) (i:Int) (y:α):(setx l i y).length = l.length:=by simp [setx]
theorem sls_from1 {α:Type} {l:List α} (h:0 < l.length):sls l 1 (l.length:Int) = some (l.drop 1):=by
 rw [sls_some (by omega)]
 congr 1
 exact List.take_of_length_le (by simp)
theorem dr_draw {fu:Nat} {b:List U8} {c:Cur} (h:CO b c) (hf:2097153 ≤ fu):Tot (d_spec_l2Draw fu c) fun x=>SmR x.1 ∧ CO b x.2:=by
 unfold d_spec_l2Draw
 refine Tot.bind (dr_right h (by omega)) fun x hx=>?_
 obtain ⟨⟨a1,a2,a3⟩,hc⟩:=hx
 obtain ⟨c1,c2,c3⟩:=h
 have h:CO b c:=⟨c1,c2,c3⟩
 refine Tot.bind (dr_pick (h.re hc) _ (by simp)) fun y hy=>Tot.bind (dr_below (h.re hy.2) _) fun z hz=>?_
 have J:∀ (f264 f265 f266 f267:Int) (f268:List Pair) (f273:List Typ) (f278:Int) (f279:List Item) (f286 f287:Int),f268.length ≤ 64 → f273.length ≤ 64 → f279.length ≤ 64 → 0 ≤ f286 → Tot (d_spec_l2Draw_J1 fu c x f264 f265 f266 f267 f268 f273 f278 f279 f286 f287) fun x=>SmR x.1 ∧ CO b x.2:=by
  intro f264 f265 f266 f267 f268 f273 f278 f279 f286 f287 q1 q2 q3 q4
  exact Tot.mk ⟨⟨q1,q2,q3⟩,c1,q4,c3⟩
 have hz0:=hz.2.2.1
 refine Tot.bif (fun _=>?_) fun _=>?_
 · exact Tot.bind (dr_pick (h.re hz.2) _ (by simp)) fun y hy=>J _ _ _ _ _ _ _ _ _ _ (by omega) (by omega) (by omega) hy.2.2.1
 refine Tot.bif (fun _=>?_) fun _=>?_
 · exact J _ _ _ _ _ _ _ _ _ _ (by omega) (by omega) (by omega) hz0
 refine Tot.bif (fun _=>?_) fun _=>?_
 · exact J _ _ _ _ _ _ _ _ _ _ (by omega) (by omega) (by omega) hz0
 refine Tot.bif (fun _=>?_) fun _=>?_
 · exact Tot.bind (dr_pick (h.re hz.2) _ (by simp)) fun y hy=>J _ _ _ _ _ _ _ _ _ _ (by omega) (by omega) (by omega) hy.2.2.1
 refine Tot.bif (fun _=>?_) fun _=>?_
 · exact Tot.bind (dr_below (h.re hz.2) _) fun y hy=>Tot.bind (dr_below (h.re hy.2) _) fun v hv=>Tot.ap (by simp; omega) (J _ _ _ _ _ _ _ _ _ _ (by simp; omega) (by omega) (by omega) hv.2.2.1)
 refine Tot.bif (fun _=>?_) fun _=>?_
 · exact Tot.ix (by omega) fun y hy=>J _ _ _ _ _ _ _ _ _ _ (by omega) (by rw [setx_lenD]; omega) (by omega) hz0
 refine Tot.bif (fun _=>?_) fun _=>?_
 · exact Tot.bind (dr_below (h.re hz.2) _) fun y hy=>Tot.ix ⟨hy.1.1,hy.1.2 (by omega)⟩ fun v hv=>J _ _ _ _ _ _ _ _ _ _ (by omega) (by rw [setx_lenD]; omega) (by omega) hy.2.2.1
 refine Tot.bif (fun _=>?_) fun _=>?_
 · exact Tot.bind (dr_pick (h.re hz.2) _ (by simp)) fun y hy=>J _ _ _ _ _ _ _ _ _ _ (by omega) (by omega) (by omega) hy.2.2.1
 refine Tot.bif (fun _=>?_) fun _=>?_
 · exact Tot.bind (dr_below (h.re hz.2) _) fun y hy=>Tot.bind (dr_below (h.re hy.2) _) fun v hv=>Tot.ap (by simp; omega) (J _ _ _ _ _ _ _ _ _ _ (by omega) (by omega) (by simp; omega) hv.2.2.1)
 refine Tot.bif (fun _=>?_) fun _=>?_
 · refine Tot.bif (fun hc=>?_) fun _=>?_
   · have:=of_decide_eq_true hc
     exact Tot.ix (by omega) fun y hy=>J _ _ _ _ _ _ _ _ _ _ (by omega) (by omega) (by rw [setx_lenD]; omega) hz0
   · exact J _ _ _ _ _ _ _ _ _ _ (by omega) (by omega) (by omega) hz0
 refine Tot.bif (fun _=>?_) fun _=>?_
 · refine Tot.bif (fun hc=>?_) fun _=>?_
   · have:=of_decide_eq_true hc
     rw [sls_from1 (by omega),ob_some]
     exact J _ _ _ _ _ _ _ _ _ _ (by simp; omega) (by omega) (by omega) hz0
   · exact J _ _ _ _ _ _ _ _ _ _ (by omega) (by omega) (by omega) hz0
 refine Tot.bif (fun _=>?_) fun _=>?_
 · exact Tot.ix (by omega) fun y hy=>Tot.ap (by simp; omega) (J _ _ _ _ _ _ _ _ _ _ (by omega) (by simp; omega) (by omega) hz0)
 refine Tot.bif (fun _=>?_) fun _=>?_
 · exact J _ _ _ _ _ _ _ _ _ _ (by omega) (by simp) (by omega) hz0
 · exact J _ _ _ _ _ _ _ _ _ _ (by omega) (by omega) (by omega) hz0
theorem dr_class {fu:Nat} {b:List U8} (hb:b.length ≤ 1048576) (hf:2097153 ≤ fu):Tot (d_spec_DrawClass fu b) SmR:=by
 unfold d_spec_DrawClass
 refine Tot.bind (dr_new hb (by omega)) fun x hx=>Tot.bind (dr_once hx.re' _) fun y hy=>?_
 refine Tot.bif (fun _=>?_) fun _=>?_
 · exact Tot.bind (dr_good hy.re' hf) fun z hz=>Tot.mk hz.1
 · exact Tot.bind (dr_draw hy.re' hf) fun z hz=>Tot.mk hz.1
theorem s_big (fu:Nat) (b:List U8):d_laws_big fu b = some (decide ((b.length:Int) > 1048576)):=rfl
end Go.Proofs.YtpcmapfabndggaaGreat
/- Plans that are made are small. -/
namespace Go.Proofs.YtpcmapfabndggaaGreat
open Go
open Enc (rd ow)
open Arg (argv)
open Ret (retv)
open Wf (wf)
theorem pln_sp (r:Request):Sp (plnM r).1:=by
 obtain ⟨l1,l2,l3⟩:=pln_len r
 refine ⟨by omega,fun c hc=>by have:=l3 c hc; omega,?_,by omega⟩
 have key:∀ l:List Carton,(∀ c ∈ l,c.fUnits.length ≤ 12) → lensC l ≤ 12 * l.length:=by
  intro l
  induction l with
  | nil=>intro _; simp [lensC]
  | cons c l ih =>
   intro h
   have h1:=ih fun d hd=>h d (by simp [hd])
   have h2:=h c (by simp)
   simp only [lensC,List.length_cons]
   omega
 have:=key _ l3
 omega
end Go.Proofs.YtpcmapfabndggaaGreat
