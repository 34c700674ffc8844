/- TextsBP: plain lemmas, part 4. -/
import Derived.Test.YthkaklkinepfkaaGreatDoorTextsBP3
set_option linter.unusedSimpArgs false
set_option linter.unusedVariables false
namespace Go.Proofs.YthkaklkinepfkaaGreatDoor
open Go
open Enc (rd ow)
open Arg (argv)
open Ret (retv)
open Wf (wf)
def Gc (r:Request) (c:List Int):Prop:=c ≠ [] ∧ witB r c (masM r) = true ∧ allBes r c = true
theorem bes_self {r:Request} {u:Int} (h:0 ≤ u ∧ u < (untM r).length):besB r.fPairs (clsZ r u) (clsZ r u) = true:=by
 have hc:=cls_in h
 have hz:=clsM_zero hc
 have hm:=itmZ_mem h
 have ht:=hz.2.2.1
 have hn:=hz.2.1
 have hcl:(itmZ r u).fClass < r.fClasses:=by
  unfold namB at hn
  simp only [Bool.and_eq_true] at hn
  have key:∀ (l pre:List Item),nodC r.fClasses pre l = true → ∀ x ∈ l,x.fClass < r.fClasses:=by
   intro l
   induction l with
   | nil=>intro _ _ x hx; simp at hx
   | cons y l ih =>
    intro pre h x hx
    simp only [nodC,Bool.and_eq_true,Bool.not_eq_true',decide_eq_false_iff_not] at h
    rcases List.mem_cons.1 hx with rfl | hx
    · omega
    · exact ih _ h.2 x hx
  exact key r.fItems [] hn.1.1.2 _ hm
 have hi:=(bou_items hz.1).1 _ hm
 simp only [itmB,Bool.and_eq_true,inb_iff] at hi
 unfold tabB at ht
 simp only [Bool.and_eq_true] at ht
 have:=List.all_eq_true.1 ht.2 (itmZ r u).fClass (ints_mem.2 ⟨by omega,by omega⟩)
 simp only [Bool.and_eq_true] at this
 exact this.1
theorem grp_mut (r:Request):∀ g ∈ grpM r,∀ x ∈ g,∀ y ∈ g,x ≠ y → mutB r.fPairs x y = true:=by
 have key:∀ (l:List Int) (out:List (List Int)),(∀ g ∈ out,∀ x ∈ g,∀ y ∈ g,x ≠ y → mutB r.fPairs x y = true) → ∀ g ∈ l.foldl (putG r.fPairs) out,∀ x ∈ g,∀ y ∈ g,x ≠ y → mutB r.fPairs x y = true:=by
  intro l
  induction l with
  | nil=>intro out h; exact h
  | cons c l ih =>
   intro out h
   rw [List.foldl_cons]
   refine ih _ ?_
   unfold putG
   cases hf:fstI (fun g=>g.all (mutB r.fPairs c)) out with
   | some k =>
    obtain ⟨g0,hg0,hall⟩:=fstI_lt hf
    have hall:=List.all_eq_true.1 hall
    have hm:=List.mem_of_getElem? hg0
    simp only [hg0,Option.getD_some]
    intro g hg x hx y hy hxy
    rcases List.mem_or_eq_of_mem_set hg with hg | rfl
    · exact h g hg x hx y hy hxy
    · rcases List.mem_append.1 hx with hx | hx <;> rcases List.mem_append.1 hy with hy | hy
      · exact h g0 hm x hx y hy hxy
      · rw [List.mem_singleton.1 hy,mutB_comm]; exact hall x hx
      · rw [List.mem_singleton.1 hx]; exact hall y hy
      · rw [List.mem_singleton.1 hx,List.mem_singleton.1 hy] at hxy; exact absurd rfl hxy
   | none =>
    intro g hg x hx y hy hxy
    rcases List.mem_append.1 hg with hg | hg
    · exact h g hg x hx y hy hxy
    · rw [List.mem_singleton.1 hg] at hx hy
      rw [List.mem_singleton.1 hx,List.mem_singleton.1 hy] at hxy; exact absurd rfl hxy
 exact key (prsM r) [] (by simp)
theorem uof_mem {r:Request} {k u:Int} (h:u ∈ uofM r k):(0 ≤ u ∧ u < (untM r).length) ∧ ∃ g,ix (grpM r) k = some g ∧ clsZ r u ∈ g:=by
 unfold uofM at h
 cases hg:ix (grpM r) k with
 | none=>rw [hg] at h; simp at h
 | some g =>
  rw [hg] at h
  obtain ⟨j,i,x,h1,h2,h3,h4⟩:=(ofG_mem r g (untM r) 0 u).1 h
  have hj:=(List.getElem?_eq_some_iff.1 h1).1
  have hu:0 ≤ u ∧ u < (untM r).length:=by omega
  refine ⟨hu,g,rfl,?_⟩
  have hm:itmM r u = some x:=by
   unfold itmM
   rw [h2,Int.zero_add,ix_nat,h1,ob_some,h3]
  unfold clsZ itmZ
  rw [hm]
  simpa using h4
theorem thr_uof (r:Request) (k:Int):thrM r (uofM r k) = uofM r k:=by
 unfold thrM
 refine List.filter_eq_self.2 fun u hu=>?_
 have:=(uof_mem hu).1
 rw [inb_iff]; omega
theorem bes_same {r:Request} {k:Int} {l:List Int} (h:∀ u ∈ l,u ∈ uofM r k):allBes r l = true:=by
 unfold allBes
 refine List.all_eq_true.2 fun x hx=>List.all_eq_true.2 fun y hy=>?_
 obtain ⟨hx1,g,hg,hxg⟩:=uof_mem (h x hx)
 obtain ⟨hy1,g',hg',hyg⟩:=uof_mem (h y hy)
 rw [hg] at hg'
 cases hg'
 by_cases e:clsZ r x = clsZ r y
 · rw [← e]; exact bes_self hx1
 · have:=grp_mut r g (ix_mem hg) _ hxg _ hyg e
   unfold mutB at this
   rw [Bool.and_eq_true] at this
   exact this.1
theorem bes_perm {r:Request} {a b:List Int} (h:a.Perm b) (hb:allBes r b = true):allBes r a = true:=by
 unfold allBes at *
 exact List.all_eq_true.2 fun x hx=>List.all_eq_true.2 fun y hy=>List.all_eq_true.1 (List.all_eq_true.1 hb x (h.mem_iff.1 hx)) y (h.mem_iff.1 hy)
theorem our_gc {r:Request} {c:Carton} (h:c ∈ crtL r):Gc r c.fUnits ∧ (0 ≤ c.fGroup ∧ c.fGroup < (grpM r).length) ∧ ∀ u ∈ c.fUnits,u ∈ uofM r c.fGroup:=by
 obtain ⟨k,hk,l,hl,rfl⟩:=crtF_mem.1 h
 have hk':=ints_mem.1 hk
 obtain ⟨q1,q2,q3⟩:=pw_q l hl
 rw [thr_uof] at q2
 have hp:=srtI_perm l
 refine ⟨⟨fun e=>q1 ?_,?_,?_⟩,by simp only [crtM]; omega,fun u hu=>q2 u (hp.mem_iff.1 hu)⟩
 · have:(srtI l).length = 0:=by rw [show srtI l = [] from e]; rfl
   rw [srtI_len] at this
   exact List.eq_nil_of_length_eq_zero this
 · show witB r (srtI l) (masM r) = true
   rw [wit_perm hp]; exact q3
 · exact bes_perm hp (bes_same q2)
theorem ofG_lt (r:Request) (g:List Int):∀ (us:List Int) (u:Int),(ofG r g u us).Pairwise (· < ·) ∧ ∀ x ∈ ofG r g u us,u ≤ x
 | [],_=>by simp [ofG]
 | i :: us,u=>by
  obtain ⟨h1,h2⟩:=ofG_lt r g us (u + 1)
  have no:(ofG r g (u + 1) us).Pairwise (· < ·) ∧ ∀ x ∈ ofG r g (u + 1) us,u ≤ x:=⟨h1,fun x hx=>by have:=h2 x hx; omega⟩
  have yes:(u :: ofG r g (u + 1) us).Pairwise (· < ·) ∧ ∀ x ∈ u :: ofG r g (u + 1) us,u ≤ x:=by
   refine ⟨List.pairwise_cons.2 ⟨fun x hx=>by have:=h2 x hx; omega,h1⟩,fun x hx=>?_⟩
   rcases List.mem_cons.1 hx with rfl | hx
   · omega
   · have:=h2 x hx; omega
  rw [ofG]
  cases ix r.fItems i with
  | none=>exact no
  | some x =>
   simp only
   cases g.contains x.fClass
   · exact no
   · exact yes
theorem uof_nodup (r:Request) (k:Int):(uofM r k).Nodup:=by
 unfold uofM
 split
 · exact ((ofG_lt r _ (untM r) 0).1).imp fun h=>by omega
 · simp
theorem our_flatF (r:Request):∀ (ks:List Int),((crtF r ks).map (·.fUnits)).flatten.Perm (ks.map (uofM r)).flatten
 | []=>by simp [crtF]
 | k :: ks=>by
  have ih:=our_flatF r ks
  have h1:((crtK r k).map (·.fUnits)).flatten.Perm (uofM r k):=by
   have h2:=pw_flat r (uofM r k)
   rw [thr_uof] at h2
   refine List.Perm.trans ?_ h2
   unfold crtK
   generalize pwM r (uofM r k) = L
   induction L with
   | nil=>simp
   | cons l L ihL=>simp only [List.map_cons,List.flatten_cons]; exact (srtI_perm l).append ihL
  rw [crtF,List.map_append,List.flatten_append,List.map_cons,List.flatten_cons]
  exact h1.append ih
theorem uof_all (r:Request):((ints 0 (grpM r).length).map (uofM r)).flatten.Perm (ints 0 (untM r).length):=by
 refine (List.perm_ext_iff_of_nodup ?_ (ints_nodup _ _)).2 fun u=>?_
 · refine List.pairwise_flatten.2 ⟨fun l hl=>?_,?_⟩
   · obtain ⟨k,_,rfl⟩:=List.mem_map.1 hl
     exact uof_nodup r k
   · refine List.pairwise_map.2 ((ints_lt 0 (grpM r).length).imp_of_mem fun {a b} ha hb hab=>?_)
     intro x hx y hy e
     subst e
     obtain ⟨_,g,hg,hxg⟩:=uof_mem hx
     obtain ⟨_,g',hg',hyg⟩:=uof_mem hy
     have:=grp_apart (ix_some hg).2.2 (ix_some hg').2.2 hxg hyg
     have h1:=(ix_some hg).1
     have h2:=(ix_some hg').1
     omega
 · constructor
   · intro h
     obtain ⟨l,hl,hu⟩:=List.mem_flatten.1 h
     obtain ⟨k,_,rfl⟩:=List.mem_map.1 hl
     have:=(uof_mem hu).1
     exact ints_mem.2 (by omega)
   · intro h
     have hu:=ints_mem.1 h
     have hi:=itmZ_in (r:=r) (u:=u) (by omega)
     obtain ⟨i,g,hg,hcg,_⟩:=gof_prs (itm_prs hi)
     refine List.mem_flatten.2 ⟨uofM r i,List.mem_map.2 ⟨i,ints_mem.2 ⟨by omega,by have:=(List.getElem?_eq_some_iff.1 hg).1; omega⟩,rfl⟩,?_⟩
     have hg':ix (grpM r) (i:Int) = some g:=by rw [ix_nat,hg]
     have:=uof_has hg' u
     unfold inG at this
     rw [hi] at this
     have e:g.contains (itmZ r u).fClass = true:=by simpa using hcg
     simp only [e] at this
     simpa using this
structure FeaI (r:Request) (x:Plan):Prop where
 c:clsM r = 0
 pok:pokB x = true
 emp:empB x = false
 once:onceB r x = true
 ch:x.fCartons.all (chB r) = true
 cg:x.fCartons.all (cgB r) = true
 cc:x.fCartons.all (ccB r) = true
 ins:(cs x).all (insP r) = true
 apr:aprL r [] (cs x) = true
 pl:(ints 0 (palM x.fSpots).toNat).all (plB r x) = true
theorem apr_fro {r:Request}:∀ (l pre:List (Carton × Spot)),(pre ++ l).Pairwise (fun a c=>ovP r c a = false) → aprL r pre l = true
 | [],_,_=>rfl
 | p :: l,pre,h=>by
  unfold aprL
  rw [Bool.and_eq_true]
  refine ⟨List.all_eq_true.2 fun q hq=>?_,apr_fro l (pre ++ [p]) (by simpa using h)⟩
  rw [(List.pairwise_append.1 h).2.2 q hq p (by simp)]; rfl
def shf (n:Int) (t:Spot):Spot:=⟨t.fPallet + n,t.fX,t.fY,t.fZ⟩
structure Acc (r:Request) (C:List Carton) (S:List Spot) (n:Int):Prop where
 len:S.length = C.length
 ins:∀ q ∈ C.zip S,(0 ≤ q.2.fPallet ∧ q.2.fPallet < n) ∧ (0 ≤ q.2.fX ∧ q.2.fX + (boxM r q.1).fW ≤ r.fPallet.fW) ∧ (0 ≤ q.2.fY ∧ q.2.fY + (boxM r q.1).fD ≤ r.fPallet.fD) ∧ (0 ≤ q.2.fZ ∧ q.2.fZ + (boxM r q.1).fH ≤ r.fPallet.fH)
 apr:(C.zip S).Pairwise fun a c=>Apt (boxM r a.1) a.2 (boxM r c.1) c.2
 occ:∀ k,0 ≤ k → k < n → ∃ q ∈ C.zip S,q.2.fPallet = k
 grp:∀ a ∈ C.zip S,∀ c ∈ C.zip S,a.2.fPallet = c.2.fPallet → a.1.fGroup = c.1.fGroup
 grm:∀ k,sumI (((C.zip S).filter fun q=>q.2.fPallet == k).map fun q=>(boxM r q.1).fGram) ≤ r.fPallet.fGram
 nn:0 ≤ n ∧ n ≤ C.length
theorem acc_nil {r:Request} (hc:clsM r = 0):Acc r [] [] 0:=by
 have hp:palB r.fPallet = true:=by
  have:=(clsM_zero hc).1
  unfold bouB at this
  simp only [Bool.and_eq_true] at this
  simp_all
 have:=pal_bd hp
 exact ⟨rfl,by simp,by simp,fun k h0 h1=>by omega,by simp,fun k=>by simp; omega,by simp⟩
theorem acc_step {r:Request} (hc:clsM r = 0) {C:List Carton} {S:List Spot} {n:Int} (A:Acc r C S n) {k:Int} (hk:0 ≤ k ∧ k < (grpM r).length):Acc r (C ++ crtK r k) (S ++ (spM r.fPallet (bxsK r k)).map (shf n)) (n + palM (spM r.fPallet (bxsK r k))):=by
 have g:=sp_geo (bxs_ok hc hk)
 have hpal:=sp_pals g (by have:=bxs_len r k; omega)
 rw [hpal]
 generalize ((ldM r.fPallet (lyM r.fPallet (shM r.fPallet (bxsK r k)))).length:Int) = N at g
 rw [bxs_eq hk] at g
 generalize hT:spM r.fPallet (bxsK r k) = T
 rw [show spM r.fPallet ((crtK r k).map (boxM r)) = T by rw [← bxs_eq hk,hT]] at g
 have hD:∀ c ∈ crtK r k,c.fGroup = k:=fun c hc=>by
  unfold crtK at hc
  obtain ⟨l,_,rfl⟩:=List.mem_map.1 hc
  rfl
 generalize crtK r k = D at g hD
 have hlen:T.length = D.length:=by have:=g.len; simpa using this
 have hN:=g.nn
 rw [List.length_map] at hN
 have hA:=A.nn
 have hz:(C ++ D).zip (S ++ T.map (shf n)) = C.zip S ++ (D.zip T).map (Prod.map id (shf n)):=by rw [List.zip_append A.len.symm,List.zip_map_right]
 have hzb:(D.map (boxM r)).zip T = (D.zip T).map (Prod.map (boxM r) id):=List.zip_map_left ..
 have gi:∀ q ∈ D.zip T,_:=fun q hq=>g.ins (Prod.map (boxM r) id q) (by rw [hzb]; exact List.mem_map.2 ⟨q,hq,rfl⟩)
 have ga:=g.apr
 have gg:=g.grm
 have go:=g.occ
 rw [hzb] at ga gg go
 refine ⟨by simp [A.len,hlen],fun q hq=>?_,?_,fun j j0 j1=>?_,fun a ha c hc' e=>?_,fun j=>?_,by simp; omega⟩
 · rw [hz] at hq
   rcases List.mem_append.1 hq with hq | hq
   · obtain ⟨h1,h2⟩:=A.ins q hq
     exact ⟨by omega,h2⟩
   · obtain ⟨a,ha,rfl⟩:=List.mem_map.1 hq
     obtain ⟨h1,h2⟩:=gi a ha
     exact ⟨by simp only [Prod.map,shf,id] at h1 ⊢; omega,h2⟩
 · rw [hz]
   refine List.pairwise_append.2 ⟨A.apr,List.pairwise_map.2 ((List.pairwise_map.1 ga).imp fun {a c} h=>?_),fun a ha c hc'=>?_⟩
   · simp only [Apt,Prod.map,shf,id] at h ⊢
     omega
   · obtain ⟨d,hd,rfl⟩:=List.mem_map.1 hc'
     have h1:=(A.ins a ha).1
     have h2:=(gi d hd).1
     refine .inl ?_
     simp only [Prod.map,shf,id] at h2 ⊢
     omega
 · rw [hz]
   by_cases h:j < n
   · obtain ⟨q,hq,e⟩:=A.occ j j0 h
     exact ⟨q,List.mem_append_left _ hq,e⟩
   · obtain ⟨q,hq,e⟩:=go (j - n) (by omega) (by omega)
     obtain ⟨d,hd,rfl⟩:=List.mem_map.1 hq
     refine ⟨_,List.mem_append_right _ (List.mem_map.2 ⟨d,hd,rfl⟩),?_⟩
     simp only [Prod.map,shf,id] at e ⊢
     omega
 · rw [hz] at ha hc'
   rcases List.mem_append.1 ha with ha | ha <;> rcases List.mem_append.1 hc' with hc' | hc'
   · exact A.grp a ha c hc' e
   · obtain ⟨d,hd,rfl⟩:=List.mem_map.1 hc'
     have h1:=(A.ins a ha).1
     have h2:=(gi d hd).1
     simp only [Prod.map,shf,id] at e h2
     omega
   · obtain ⟨d,hd,rfl⟩:=List.mem_map.1 ha
     have h1:=(A.ins c hc').1
     have h2:=(gi d hd).1
     simp only [Prod.map,shf,id] at e h2
     omega
   · obtain ⟨d,hd,rfl⟩:=List.mem_map.1 ha
     obtain ⟨d',hd',rfl⟩:=List.mem_map.1 hc'
     simp only [Prod.map,id,hD _ (List.of_mem_zip hd).1,hD _ (List.of_mem_zip hd').1]
 · rw [hz,List.filter_append,List.map_append,sumI_append]
   have hp:(0:Int) ≤ r.fPallet.fGram:=by have:=(pal_bd (bos_pal (bxs_ok hc hk))).2.2.2; omega
   by_cases h:j < n
   · have e:((D.zip T).map (Prod.map id (shf n))).filter (fun q=>q.2.fPallet == j) = []:=List.filter_eq_nil_iff.2 fun q hq=>by
       obtain ⟨d,hd,rfl⟩:=List.mem_map.1 hq
       have h2:=(gi d hd).1
       simp only [Prod.map,shf,id,beq_iff_eq] at h2 ⊢
       omega
     rw [e]
     have:=A.grm j
     simpa using this
   · have e:(C.zip S).filter (fun q=>q.2.fPallet == j) = []:=List.filter_eq_nil_iff.2 fun q hq=>by
       have h2:=(A.ins q hq).1
       simp only [beq_iff_eq]
       omega
     have h3:=gg (j - n)
     rw [List.filter_map,List.map_map] at h3
     rw [e,List.filter_map,List.map_map,List.map_nil,sumI_nil,Int.zero_add]
     have e2:((fun q:Carton × Spot=>q.2.fPallet == j) ∘ Prod.map id (shf n)) = ((fun q:Box × Spot=>q.2.fPallet == j - n) ∘ Prod.map (boxM r) id):=by
      funext q
      simp only [Function.comp,Prod.map,shf,id]
      rw [Bool.eq_iff_iff,beq_iff_eq,beq_iff_eq]
      omega
     rw [e2]
     exact h3
theorem acc_all {r:Request} (hc:clsM r = 0):∀ (ks:List Int) (C:List Carton) (s:List Spot × Int),(∀ k ∈ ks,0 ≤ k ∧ k < (grpM r).length) → Acc r C s.1 s.2 → Acc r (C ++ crtF r ks) (ks.foldl (plS r) s).1 (ks.foldl (plS r) s).2
 | [],C,s,_,A=>by simpa [crtF] using A
 | k :: ks,C,s,h,A=>by
  rw [List.foldl_cons,crtF,← List.append_assoc]
  exact acc_all hc ks _ _ (fun j hj=>h j (by simp [hj])) (acc_step hc A (h k (by simp)))
theorem pln_acc {r:Request} (hc:clsM r = 0):∃ n,Acc r (plnM r).1.fCartons (plnM r).1.fSpots n:=by
 unfold plnM
 rw [show (clsM r == 0) = true by simp [hc],cond_true]
 exact ⟨_,acc_all hc (ints 0 (grpM r).length) [] ([],0) (fun k hk=>by have:=ints_mem.1 hk; omega) (acc_nil hc)⟩
theorem incP_of:∀ (l pre:List Int),(pre ++ l).Pairwise (· < ·) → (∀ x ∈ l,0 ≤ x ∧ x ≤ 999) → incP pre l = true
 | [],_,_,_=>rfl
 | x :: l,pre,hp,hb=>by
  unfold incP
  rw [Bool.and_eq_true,Bool.and_eq_true,inb_iff]
  refine ⟨hb x (by simp),?_,incP_of l (pre ++ [x]) (by simpa using hp) fun y hy=>hb y (by simp [hy])⟩
  cases he:pre.getLast? with
  | none=>rfl
  | some y =>
   have hy:=List.mem_of_getLast? he
   have:=(List.pairwise_append.1 hp).2.2 y hy x (by simp)
   simpa using this
theorem srtI_lt {l:List Int} (h:l.Nodup):(srtI l).Pairwise (· < ·):=by
 have h1:=mergeSort_le l
 have h2:(srtI l).Nodup:=(srtI_perm l).nodup_iff.2 h
 exact (List.Pairwise.and h1 h2).imp fun h=>by have:=h.1; have:=h.2; omega
theorem pw_nodup {r:Request} {k:Int} {l:List Int} (hl:l ∈ pwM r (uofM r k)):l.Nodup:=by
 have h:=pw_flat r (uofM r k)
 rw [thr_uof] at h
 have:=h.nodup_iff.2 (uof_nodup r k)
 exact (List.pairwise_flatten.1 this).1 l hl
theorem chp_perm {r:Request} {a b:List Int} (h:a.Perm b):chpM r a = chpM r b:=by
 unfold chpM
 have e:chp r a = chp r b:=by
  funext s t
  unfold chp
  rw [hld_perm h]
 rw [e]
theorem pln_car {r:Request} (hc:clsM r = 0):(plnM r).1.fCartons = crtL r:=by
 unfold plnM
 rw [show (clsM r == 0) = true by simp [hc],cond_true]
theorem crt_ok {r:Request} {c:Carton} (h:c ∈ crtL r):cokB c = true ∧ chB r c = true ∧ cgB r c = true ∧ ccB r c = true ∧ c.fUnits ≠ []:=by
 have hgc:=our_gc h
 obtain ⟨k,hk,l,hl,rfl⟩:=crtF_mem.1 h
 have hk':=ints_mem.1 hk
 have hq:=pw_q l hl
 obtain ⟨hc,h2,h3,h4,h5⟩:=chp_pw hq
 have hz:=clsM_zero hc
 have ht:=bou_types hz.1 _ h3
 simp only [typB,Bool.and_eq_true,inb_iff] at ht
 have hg4:=(grpM_ok r).1
 have hp:=srtI_perm l
 have hun:=untM_len r
 obtain ⟨g1,g2,g3⟩:=hgc
 refine ⟨?_,?_,?_,?_,g1.1⟩
 · unfold cokB uriB
   simp only [Bool.and_eq_true,inb_iff,decide_eq_true_eq]
   refine ⟨by simp only [crtM]; omega,by simp only [crtM]; omega,incP_of _ _ (srtI_lt (pw_nodup hl)) fun x hx=>?_,?_⟩
   · have:=(uof_mem (g3 x hx)).1
     omega
   · have:=crt_units h
     omega
 · unfold chB
   show (match typM r (chpM r l).1.fId with | some t=>hldB r (srtI l) t | none=>false) = true
   rw [h5]
   simp only [hld_perm hp,h4]
 · unfold cgB
   refine List.all_eq_true.2 fun u hu=>?_
   obtain ⟨_,g,hg,hag⟩:=uof_mem (g3 u hu)
   have e:=gof_at (ix_some hg).2.2 hag
   have:=(ix_some hg).1
   unfold clsZ at e
   rw [e,beq_iff_eq]
   omega
 · unfold ccB
   show ((chpM r (srtI l)).2 && (chpM r (srtI l)).1.fId == (chpM r l).1.fId) = true
   rw [chp_perm hp,h2]; simp
theorem on_zip {x:Plan} (el:x.fSpots.length = x.fCartons.length) (k:Int) (f:Carton → Int):(onM x k).map (fun i=>f (carM x i)) = ((cs x).filter fun q=>q.2.fPallet == k).map fun q=>f q.1:=by
 have key:∀ (C:List Carton) (S:List Spot) (pre:List Carton),x.fCartons = pre ++ C → S.length = C.length → (onL k pre.length S).map (fun i=>f (carM x i)) = ((C.zip S).filter fun q=>q.2.fPallet == k).map fun q=>f q.1:=by
  intro C
  induction C with
  | nil=>intro S pre _ h; rw [show S = [] from List.eq_nil_of_length_eq_zero (by simpa using h)]; rfl
  | cons c C ih =>
   intro S pre he h
   match S,h with
   | s :: S,h =>
    have h1:=ih S (pre ++ [c]) (by simp [he]) (by simpa using h)
    have e3:(((pre ++ [c]).length:Nat):Int) = (pre.length:Int) + 1:=by simp
    rw [e3] at h1
    have h2:carM x (pre.length:Int) = c:=by unfold carM; rw [ix_nat,he]; simp
    rw [List.zip_cons_cons,List.filter_cons]
    unfold onL
    cases s.fPallet == k
    · simpa using h1
    · simp [h1,h2]
 unfold onM cs
 rw [show (x.fSpots.length == x.fCartons.length) = true by simp [el],cond_true]
 exact key x.fCartons x.fSpots [] rfl el
theorem box_bd {r:Request} (hc:clsM r = 0) {c:Carton} (h:c ∈ crtL r):(1 ≤ (boxM r c).fW ∧ 1 ≤ (boxM r c).fD ∧ 1 ≤ (boxM r c).fH) ∧ (boxM r c).fGram = grsM r c:=by
 obtain ⟨k,hk,l,hl,rfl⟩:=crtF_mem.1 h
 have hb:=(box_crt (pw_q l hl) k).2
 obtain ⟨_,h2,h3,h4,h5⟩:=chp_pw (pw_q l hl)
 simp only [bokB,Bool.and_eq_true,inb_iff] at hb
 refine ⟨⟨hb.1.1,hb.2.1.1,hb.2.2.1.1⟩,?_⟩
 unfold boxM grsM crtM
 simp only [h5,show (clsM r == 0) = true by simp [hc],cond_true]
theorem pln_fea {r:Request} (hc:clsM r = 0):FeaI r (plnM r).1:=by
 obtain ⟨n,A⟩:=pln_acc hc
 obtain ⟨l1,l2,l3⟩:=pln_len r
 have hcar:=pln_car hc
 have hp:palB r.fPallet = true:=by
  have:=(clsM_zero hc).1
  unfold bouB at this
  simp only [Bool.and_eq_true] at this
  simp_all
 obtain ⟨p1,p2,p3,p4⟩:=pal_bd hp
 have hn:=A.nn
 generalize plnM r = X at *
 obtain ⟨x,b⟩:=X
 simp only at *
 have hpal:palM x.fSpots = n:=by
  refine pal_eq ⟨hn.1,by omega⟩ (fun s hs=>?_) fun k k0 k1=>?_
  · obtain ⟨q,hq,rfl⟩:=zip_snd l1 hs
    exact (A.ins q hq).1
  · obtain ⟨q,hq,e⟩:=A.occ k k0 k1
    exact ⟨q.2,(List.of_mem_zip hq).2,e⟩
 have hcm:∀ q ∈ cs x,q.1 ∈ crtL r:=fun q hq=>by rw [← hcar]; exact (List.of_mem_zip hq).1
 have hbd:∀ q ∈ cs x,((0 ≤ q.2.fPallet ∧ q.2.fPallet < 2000) ∧ (0 ≤ q.2.fX ∧ q.2.fX + (boxM r q.1).fW ≤ r.fPallet.fW) ∧ (0 ≤ q.2.fY ∧ q.2.fY + (boxM r q.1).fD ≤ r.fPallet.fD) ∧ (0 ≤ q.2.fZ ∧ q.2.fZ + (boxM r q.1).fH ≤ r.fPallet.fH)) ∧ (1 ≤ (boxM r q.1).fW ∧ 1 ≤ (boxM r q.1).fD ∧ 1 ≤ (boxM r q.1).fH):=fun q hq=>by
  obtain ⟨h1,h2⟩:=A.ins q hq
  exact ⟨⟨by omega,h2⟩,(box_bd hc (hcm q hq)).1⟩
 refine ⟨hc,?_,?_,?_,?_,?_,?_,?_,?_,?_⟩
 · unfold pokB
   rw [Bool.and_eq_true,Bool.and_eq_true,beq_iff_eq,decide_eq_true_eq]
   refine ⟨l1,by omega,List.all_eq_true.2 fun q hq=>?_⟩
   rw [Bool.and_eq_true]
   refine ⟨(crt_ok (hcm q hq)).1,?_⟩
   obtain ⟨h1,h2⟩:=hbd q hq
   unfold sokB
   simp only [Bool.and_eq_true,inb_iff]
   omega
 · unfold empB
   rw [hcar]
   refine List.any_eq_false.2 fun c hc'=>?_
   have:=(crt_ok hc').2.2.2.2
   have:=List.length_pos_iff.2 this
   simp only [beq_iff_eq]
   omega
 · rw [once_iff,hcar]
   exact (our_flatF r _).trans (uof_all r)
 · rw [hcar]; exact List.all_eq_true.2 fun c h=>(crt_ok h).2.1
 · rw [hcar]; exact List.all_eq_true.2 fun c h=>(crt_ok h).2.2.1
 · rw [hcar]; exact List.all_eq_true.2 fun c h=>(crt_ok h).2.2.2.1
 · refine List.all_eq_true.2 fun q hq=>?_
   obtain ⟨h1,h2⟩:=hbd q hq
   unfold insP winB knoB
   simp only [Bool.and_eq_true,inb_iff,decide_eq_true_eq]
   rw [w64_id (by omega) (by omega),w64_id (by omega) (by omega),w64_id (by omega) (by omega)]
   omega
 · refine apr_fro _ _ ?_
   rw [List.nil_append]
   refine A.apr.imp_of_mem fun {a c} ha hc' hs=>?_
   obtain ⟨h1,h2⟩:=hbd a ha
   obtain ⟨k1,k2⟩:=hbd c hc'
   rw [← Bool.not_eq_true]
   intro ho
   unfold ovP ovlB crsB knoB at ho
   simp only [Bool.and_eq_true,inb_iff,decide_eq_true_eq,beq_iff_eq] at ho
   obtain ⟨_,_,o3,⟨o4,o5⟩,⟨o6,o7⟩,o8,o9⟩:=ho
   rw [w64_id (by omega) (by omega)] at o4 o5 o6 o7 o8 o9
   unfold Apt at hs
   omega
 · rw [hpal]
   refine List.all_eq_true.2 fun k hk=>?_
   have hk:=ints_mem.1 hk
   have hon:=on_zip l1 k
   have hne:onM x k ≠ []:=fun e=>by
    obtain ⟨q,hq,e1⟩:=A.occ k (by omega) (by omega)
    have h1:=hon fun _=>0
    rw [e] at h1
    have h2:q ∈ (cs x).filter fun q=>q.2.fPallet == k:=List.mem_filter.2 ⟨hq,by simp [e1]⟩
    have h3:=List.map_eq_nil_iff.1 h1.symm
    rw [h3] at h2
    simp at h2
   have hpos:=List.length_pos_iff.2 hne
   have h0:(((onM x k).length:Int) == 0) = false:=by simp; exact hne
   obtain ⟨i0,c0,e1,e2,rest,e3⟩:=on_cars h0
   unfold plB
   rw [h0,Bool.not_false,Bool.true_and,Bool.and_eq_true]
   constructor
   · have e:pgM r x k = sumI (((cs x).filter fun q=>q.2.fPallet == k).map fun q=>(boxM r q.1).fGram):=by
       unfold pgM
       rw [hon]
       congr 1
       exact List.map_congr_left fun q hq=>((box_bd hc (hcm q ((List.mem_filter.1 hq).1))).2).symm
     have:=A.grm k
     rw [e]
     simp only [Bool.not_eq_true',decide_eq_false_iff_not]
     exact Int.not_lt.2 this
   · have hall:∀ i ∈ onM x k,∃ q ∈ cs x,q.2.fPallet = k ∧ q.1 = carM x i:=fun i hi=>by
       obtain ⟨c,s,h1,h2,h3⟩:=onM_mem hi
       exact ⟨(c,s),List.mem_iff_getElem?.2 ⟨i.toNat,List.getElem?_zip_eq_some.2 ⟨(ix_some h1).2.2,(ix_some h2).2.2⟩⟩,h3,by unfold carM; rw [h1]; rfl⟩
     refine List.all_eq_true.2 fun i hi=>?_
     obtain ⟨q,hq,q1,q2⟩:=hall i hi
     rw [e1]
     obtain ⟨q',hq',q1',q2'⟩:=hall i0 (by rw [e3]; simp)
     rw [Option.getD_some,← q2,← q2',beq_iff_eq]
     exact A.grp q hq q' hq' (by rw [q1,q1'])
def numB (n:Int):ByteArray:=⟨(Lib.itoa n).toArray⟩
theorem numB_size {n:Int} (h:0 ≤ n ∧ n ≤ 999999):(numB n).size ≤ 21:=by
 have:=Lib.itoa_length_le n (by omega) (by omega)
 unfold numB ByteArray.size
 simpa using this
theorem scat_ok {x y:ByteArray} (h:x.size + y.size ≤ 1000000000):scat x y = some (x ++ y):=by
 unfold scat
 rw [if_pos (by omega)]
theorem i_digits (fu:Nat) {n:Int} (h:0 ≤ n ∧ n ≤ 999999):d_impl_Digits fu n = some (numB n):=by
 unfold d_impl_Digits d_strconv_Itoa itoaO
 rw [if_pos (by omega)]; rfl
theorem w8_id {n:Int} (h:0 ≤ n ∧ n ≤ 255):w8 n = n:=by
 unfold w8
 simp only [IntKind.wrap_u8]
 omega
theorem bstr_one {n:Int} (h:0 ≤ n ∧ n ≤ 255):bstr [(⟨n⟩:U8)] = some ⟨[UInt8.ofNat n.toNat].toArray⟩:=by
 unfold bstr
 rw [if_pos (fun b hb=>by rw [List.mem_singleton.1 hb]; exact h)]
 rfl
theorem dig_step {u:Nat} (out:ByteArray):(⟨[UInt8.ofNat (48 + u % 10)].toArray⟩:ByteArray) ++ out = ⟨([UInt8.ofNat (48 + u % 10)] ++ out.data.toList).toArray⟩:=by
 apply ByteArray.ext
 rw [ByteArray.data_append]
 apply Array.ext'
 simp
theorem s_digL {fu:Nat} {n1:Int} (h1:0 ≤ n1):∀ (u:Nat) (k:Nat) (out:ByteArray),u ≤ 999999 → u + 2 ≤ k → out.size + u ≤ 2000000 → 0 < u → d_spec_Digits_L1 fu n1 k (u:Int) out = some ⟨(Lib.decDigits u ++ out.data.toList).toArray⟩:=by
 intro u
 induction u using Nat.strongRecOn with
 | _ u ih =>
  intro k out hu hk ho h0
  obtain ⟨k,rfl⟩:∃ j,k = j + 1:=⟨k - 1,by omega⟩
  have em:Int.tmod (u:Int) 10 = ((u % 10:Nat):Int):=by
   rw [Int.tmod_eq_emod_of_nonneg (by omega)]; omega
  have ed:w64 (Int.tdiv (u:Int) 10) = ((u / 10:Nat):Int):=by
   rw [Int.tdiv_eq_ediv_of_nonneg (by omega),w64_id (by omega) (by omega)]; omega
  rw [d_spec_Digits_L1.eq_2]
  unfold d_spec_Digits_L1_B d_spec_Digits_J1
  rw [bif_true (bne_iff_ne.2 (by omega)),em,bif_false (decide_eq_false (by omega)),w64_id (n:=48 + _) (by omega) (by omega),w8_id (by omega),bstr_one (by omega),ob_some,show ((48:Int) + ((u % 10:Nat):Int)).toNat = 48 + u % 10 by omega]
  have hs1:(⟨[UInt8.ofNat (48 + u % 10)].toArray⟩:ByteArray).size = 1:=rfl
  rw [scat_ok (by rw [hs1]; omega),ob_some,ed,dig_step]
  by_cases hlt:u < 10
  · have e0:u / 10 = 0:=by omega
    rw [e0]
    obtain ⟨k,rfl⟩:∃ j,k = j + 1:=⟨k - 1,by omega⟩
    rw [d_spec_Digits_L1.eq_2]
    unfold d_spec_Digits_L1_B
    rw [bif_false (by decide),bif_false (decide_eq_false (by omega)),Lib.decDigits,dif_pos hlt,Nat.mod_eq_of_lt hlt]
  · have:=ih (u / 10) (by omega) k (⟨([UInt8.ofNat (48 + u % 10)] ++ out.data.toList).toArray⟩:ByteArray) (by omega) (by omega) (by
      show ([UInt8.ofNat (48 + u % 10)] ++ out.data.toList).toArray.size + _ ≤ _
      have e:out.data.toList.length = out.size:=Array.length_toList
      simp only [List.size_toArray,List.length_append,List.length_singleton,e]
      omega) (by omega)
    rw [this]
    conv=>rhs; rw [Lib.decDigits,dif_neg hlt]
    simp
theorem s_digits {fu:Nat} (hfu:2097153 ≤ fu) {n:Int} (h:0 ≤ n ∧ n ≤ 999999):d_spec_Digits fu n = some (numB n):=by
 unfold d_spec_Digits numB
 by_cases h0:n = 0
 · subst h0
   rw [bif_true (by simp)]
   have:Lib.itoa 0 = [48]:=by
    unfold Lib.itoa
    rw [if_neg (by omega),Lib.decDigits,dif_pos (by decide)]; rfl
   rw [this]
 · rw [bif_false (by simpa using h0)]
   obtain ⟨u,rfl⟩:∃ u:Nat,n = u:=⟨n.toNat,by omega⟩
   have:=s_digL (fu:=fu) (n1:=(u:Int)) (by omega) u fu ⟨#[]⟩ (by omega) (by omega) (by
    show 0 + u ≤ _
    omega) (by omega)
   rw [this]
   have e:Lib.itoa (u:Int) = Lib.decDigits u:=by
    unfold Lib.itoa
    rw [if_neg (by omega),Int.toNat_natCast]
   rw [e]; simp
def sp1:ByteArray:=⟨#[32]⟩
def nl1:ByteArray:=⟨#[10]⟩
def lineL (o:ByteArray) (l:List Int):ByteArray:=l.foldl (fun o n=>o ++ (sp1 ++ numB n)) o
theorem line_size:∀ (l:List Int) (o:ByteArray),(∀ n ∈ l,0 ≤ n ∧ n ≤ 999999) → (lineL o l).size ≤ o.size + 22 * l.length
 | [],o,_=>by simp [lineL]
 | n :: l,o,h=>by
  have h1:=numB_size (h n (by simp))
  have h2:=line_size l (o ++ (sp1 ++ numB n)) fun m hm=>h m (by simp [hm])
  have e:(o ++ (sp1 ++ numB n)).size = o.size + (1 + (numB n).size):=by
   rw [ByteArray.size_append,ByteArray.size_append]; rfl
  rw [e] at h2
  show (lineL (o ++ (sp1 ++ numB n)) l).size ≤ _
  simp only [List.length_cons]
  omega
theorem i_line {fu:Nat} {l:List Int} (o:ByteArray) (hl:l.length ≤ 1000) (hf:l.length < fu) (ho:o.size ≤ 1000000) (h:∀ n ∈ l,0 ≤ n ∧ n ≤ 999999):d_impl_textLine fu o l = some (lineL o l ++ nl1,true):=by
 unfold d_impl_textLine
 have key:=lpI l (fun n (o:ByteArray) i=>d_impl_textLine_L1 fu l n o i) (fun xs o=>some (lineL o xs ++ nl1,true)) (fun xs o=>(∀ n ∈ xs,0 ≤ n ∧ n ≤ 999999) ∧ o.size + 22 * xs.length ≤ 2000000) (by omega) ?_ ?_ fu o ⟨h,by omega⟩ (by omega)
 · exact key
 · intro n o i x xs hx hd hI ih
   obtain ⟨i1,i2⟩:=hI
   simp only [List.length_cons] at i2
   have hxb:=i1 x (by simp)
   have hs:=numB_size hxb
   have e:(o ++ (sp1 ++ numB x)).size = o.size + (1 + (numB x).size):=by
    rw [ByteArray.size_append,ByteArray.size_append]; rfl
   have hsz:sp1.size = 1:=rfl
   simp only [d_impl_textLine_L1.eq_2]
   unfold d_impl_textLine_L1_B
   rw [hd,cond_true,hx,ob_some,i_in,ob_some,show inb x 0 999999 = true from inb_iff.2 hxb,Bool.not_true,cond_false,i_digits fu hxb,ob_some]
   show (obind (scat sp1 (numB x)) fun sv58=>obind (scat o sv58) fun sv60=>d_impl_textLine_L1 fu l n sv60 (w64 (i + 1))) = _
   rw [scat_ok (by omega),ob_some,scat_ok (by rw [ByteArray.size_append,hsz]; omega),ob_some,ih _ ⟨fun m hm=>i1 m (by simp [hm]),by omega⟩]
   rfl
 · intro n o i hd hI
   have i2:=hI.2
   simp only [d_impl_textLine_L1.eq_2]
   unfold d_impl_textLine_L1_B
   rw [hd,cond_false]
   show (obind (scat o nl1) fun sv62=>some (sv62,true)) = _
   rw [scat_ok (by rw [show nl1.size = 1 from rfl]; simp at i2; omega)]
   rfl
def carB:ByteArray:=⟨#[99,97,114,116,111,110]⟩
def numsL (c:Carton) (s:Spot):List Int:=[c.fType,c.fGroup,s.fPallet,s.fX,s.fY,s.fZ] ++ c.fUnits
theorem inc_bd:∀ (l pre:List Int),incP pre l = true → ∀ n ∈ l,0 ≤ n ∧ n ≤ 999
 | [],_,_,n,hn=>by simp at hn
 | x :: l,pre,h,n,hn=>by
  unfold incP at h
  simp only [Bool.and_eq_true,inb_iff] at h
  rcases List.mem_cons.1 hn with rfl | hn
  · exact h.1
  · exact inc_bd l _ h.2.2 n hn
theorem nums_ok {c:Carton} {s:Spot} (hc:cokB c = true) (hs:sokB s = true):(∀ n ∈ numsL c s,0 ≤ n ∧ n ≤ 999999) ∧ (numsL c s).length ≤ 106:=by
 unfold cokB uriB at hc
 unfold sokB at hs
 simp only [Bool.and_eq_true,inb_iff,decide_eq_true_eq] at hc hs
 obtain ⟨h1,h2,h3,h4⟩:=hc
 refine ⟨fun n hn=>?_,by simp [numsL]; omega⟩
 unfold numsL at hn
 rcases List.mem_append.1 hn with hn | hn
 · simp only [List.mem_cons,List.not_mem_nil,or_false] at hn
   omega
 · have:=inc_bd _ _ h3 n hn
   omega
theorem s_line {fu:Nat} (hfu:2097153 ≤ fu) {c:Carton} {s:Spot} (h:(∀ n ∈ numsL c s,0 ≤ n ∧ n ≤ 999999) ∧ (numsL c s).length ≤ 106):d_spec_l14Line fu c s = some (lineL carB (numsL c s)):=by
 obtain ⟨h1,h2⟩:=h
 unfold d_spec_l14Line
 have hlen:[c.fType,c.fGroup,s.fPallet,s.fX,s.fY,s.fZ].length + c.fUnits.length ≤ 106:=by
  have:=h2
  unfold numsL at this
  rwa [List.length_append] at this
 rw [ap1 (by omega),ob_some]
 show d_spec_l14Line_L1 fu (numsL c s) fu carB 0 = _
 generalize numsL c s = l at h1 h2
 refine lpI l (fun n (o:ByteArray) i=>d_spec_l14Line_L1 fu l n o i) (fun xs o=>some (lineL o xs)) (fun xs o=>(∀ n ∈ xs,0 ≤ n ∧ n ≤ 999999) ∧ o.size + 22 * xs.length ≤ 2000000) (by omega) ?_ ?_ fu carB ⟨h1,by rw [show carB.size = 6 from rfl]; omega⟩ (by omega)
 · intro n o i x xs hx hd hI ih
   obtain ⟨i1,i2⟩:=hI
   simp only [List.length_cons] at i2
   have hxb:=i1 x (by simp)
   have hs:=numB_size hxb
   have e:(o ++ (sp1 ++ numB x)).size = o.size + (1 + (numB x).size):=by
    rw [ByteArray.size_append,ByteArray.size_append]; rfl
   have hsz:sp1.size = 1:=rfl
   simp only [d_spec_l14Line_L1.eq_2]
   unfold d_spec_l14Line_L1_B
   rw [hd,cond_true]
   show (obind (scat o sp1) fun sv56=>obind (ix l i) fun x58=>obind (d_spec_Digits fu x58) fun x60=>obind (scat sv56 x60) fun sv64=>d_spec_l14Line_L1 fu l n sv64 (w64 (i + 1))) = _
   rw [scat_ok (by omega),ob_some,hx,ob_some,s_digits hfu hxb,ob_some,scat_ok (by rw [ByteArray.size_append,hsz]; omega),ob_some,ByteArray.append_assoc,ih _ ⟨fun m hm=>i1 m (by simp [hm]),by omega⟩]
   rfl
 · intro n o i hd _
   simp only [d_spec_l14Line_L1.eq_2]
   unfold d_spec_l14Line_L1_B
   rw [hd,cond_false]; rfl
def txtF (o:ByteArray) (p:Carton × Spot):ByteArray:=o ++ (lineL carB (numsL p.1 p.2) ++ nl1)
def txtM (x:Plan):ByteArray:=bif pokB x then (x.fCartons.zip x.fSpots).foldl txtF ⟨#[]⟩ else ⟨#[]⟩
theorem line_nl {c:Carton} {s:Spot} (h:(∀ n ∈ numsL c s,0 ≤ n ∧ n ≤ 999999) ∧ (numsL c s).length ≤ 106):(lineL carB (numsL c s)).size ≤ 2400 ∧ (lineL carB (numsL c s) ++ nl1).size ≤ 2401:=by
 have:=line_size (numsL c s) carB h.1
 rw [show carB.size = 6 from rfl] at this
 refine ⟨by omega,?_⟩
 rw [ByteArray.size_append,show nl1.size = 1 from rfl]
 omega
theorem i_text {fu:Nat} {x:Plan} (h:Sp x) (hf:2097153 ≤ fu):d_impl_PlanText fu x = some (txtM x):=by
 unfold d_impl_PlanText txtM
 rw [i_pok h (by omega),ob_some]
 cases hp:pokB x
 · rfl
 · rw [Bool.not_true,cond_false,cond_true]
   have hpp:=hp
   unfold pokB at hpp
   simp only [Bool.and_eq_true,decide_eq_true_eq,beq_iff_eq] at hpp
   obtain ⟨p1,p2,p3⟩:=hpp
   have hz:(x.fCartons.zip x.fSpots).length = x.fCartons.length:=by simp; omega
   have key:=lpPI (x.fCartons.zip x.fSpots) (fun n (o:ByteArray) i=>d_impl_PlanText_L1 fu x n o i) (fun _ xs o=>some (xs.foldl txtF o)) (fun _ xs o=>(∀ p ∈ xs,(∀ n ∈ numsL p.1 p.2,0 ≤ n ∧ n ≤ 999999) ∧ (numsL p.1 p.2).length ≤ 106) ∧ o.size + 2401 * xs.length ≤ 1000000) (by omega) ?_ ?_ fu ⟨#[]⟩ ⟨fun p hp=>by
    have:=List.all_eq_true.1 p3 p hp
    rw [Bool.and_eq_true] at this
    exact nums_ok this.1 this.2,by rw [hz]; show 0 + _ ≤ _; omega⟩ (by omega)
   · exact key
   · intro n o pre p xs e hq hd hI ih
     obtain ⟨i1,i2⟩:=hI
     simp only [List.length_cons] at i2
     obtain ⟨e1,e2⟩:=zip_ix hq
     rw [hz] at hd
     have hn:=i1 p (by simp)
     have hsz:=line_nl hn
     have hlen:[p.1.fType,p.1.fGroup,p.2.fPallet,p.2.fX,p.2.fY,p.2.fZ].length + p.1.fUnits.length ≤ 106:=by
      have:=hn.2
      unfold numsL at this
      rwa [List.length_append] at this
     simp only [d_impl_PlanText_L1.eq_2]
     unfold d_impl_PlanText_L1_B
     rw [hd,cond_true,e1,ob_some,e2,ob_some,ap1 (by omega),ob_some]
     show (obind (d_impl_textLine fu carB (numsL p.1 p.2)) fun x141=>obind (scat o x141.1) fun sv145=>d_impl_PlanText_L1 fu x n sv145 (w64 ((pre.length:Int) + 1))) = _
     rw [i_line carB (by omega) (by omega) (by decide) hn.1,ob_some]
     show (obind (scat o (lineL carB (numsL p.1 p.2) ++ nl1)) fun sv145=>d_impl_PlanText_L1 fu x n sv145 (w64 ((pre.length:Int) + 1))) = _
     rw [scat_ok (by omega),ob_some]
     exact ih _ ⟨fun q hq=>i1 q (by simp [hq]),by rw [ByteArray.size_append]; omega⟩
   · intro n o hd _
     rw [hz] at hd ⊢
     simp only [d_impl_PlanText_L1.eq_2]
     unfold d_impl_PlanText_L1_B
     rw [hd,cond_false]; rfl
theorem s_text {fu:Nat} {x:Plan} (h:Sp x) (hf:2097153 ≤ fu):d_spec_PlanText fu x = some (txtM x):=by
 unfold d_spec_PlanText txtM
 rw [s_pok h (by omega),ob_some]
 cases hp:pokB x
 · rfl
 · rw [Bool.not_true,cond_false,cond_true]
   have hpp:=hp
   unfold pokB at hpp
   simp only [Bool.and_eq_true,decide_eq_true_eq,beq_iff_eq] at hpp
   obtain ⟨p1,p2,p3⟩:=hpp
   have hz:(x.fCartons.zip x.fSpots).length = x.fCartons.length:=by simp; omega
   have key:=lpPI (x.fCartons.zip x.fSpots) (fun n (o:ByteArray) i=>d_spec_PlanText_L1 fu x n o i) (fun _ xs o=>some (xs.foldl txtF o)) (fun _ xs o=>(∀ p ∈ xs,(∀ n ∈ numsL p.1 p.2,0 ≤ n ∧ n ≤ 999999) ∧ (numsL p.1 p.2).length ≤ 106) ∧ o.size + 2401 * xs.length ≤ 1000000) (by omega) ?_ ?_ fu ⟨#[]⟩ ⟨fun p hp=>by
    have:=List.all_eq_true.1 p3 p hp
    rw [Bool.and_eq_true] at this
    exact nums_ok this.1 this.2,by rw [hz]; show 0 + _ ≤ _; omega⟩ (by omega)
   · exact key
   · intro n o pre p xs e hq hd hI ih
     obtain ⟨i1,i2⟩:=hI
     simp only [List.length_cons] at i2
     obtain ⟨e1,e2⟩:=zip_ix hq
     rw [hz] at hd
     have hn:=i1 p (by simp)
     have hsz:=line_nl hn
     simp only [d_spec_PlanText_L1.eq_2]
     unfold d_spec_PlanText_L1_B
     rw [hd,cond_true,e1,ob_some,e2,ob_some,s_line hf hn,ob_some,scat_ok (by omega),ob_some]
     show (obind (scat (o ++ lineL carB (numsL p.1 p.2)) nl1) fun sv91=>d_spec_PlanText_L1 fu x n sv91 (w64 ((pre.length:Int) + 1))) = _
     rw [scat_ok (by rw [ByteArray.size_append,show nl1.size = 1 from rfl]; omega),ob_some,ByteArray.append_assoc]
     exact ih _ ⟨fun q hq=>i1 q (by simp [hq]),by rw [ByteArray.size_append]; omega⟩
   · intro n o hd _
     rw [hz] at hd ⊢
     simp only [d_spec_PlanText_L1.eq_2]
     unfold d_spec_PlanText_L1_B
     rw [hd,cond_false]; rfl
def btsL (s:ByteArray):List U8:=s.data.toList.map fun b=>(⟨(b.toNat:Int)⟩:U8)
theorem bts_len (s:ByteArray):(btsL s).length = s.size:=by unfold btsL; rw [List.length_map]; exact Array.length_toList
theorem bts_some {s:ByteArray} (h:s.size ≤ 1000000000):btsO s = some (btsL s):=by unfold btsO btsL; rw [if_pos h]
theorem bts_mem {s:ByteArray} {x:U8} (h:x ∈ btsL s):0 ≤ x.n ∧ x.n ≤ 255:=by
 obtain ⟨b,_,rfl⟩:=List.mem_map.1 h
 have:=b.toNat_lt
 exact ⟨by simp only; omega,by simp only; omega⟩
theorem bstr_ok {l:List U8} (h:∀ x ∈ l,0 ≤ x.n ∧ x.n ≤ 255):Tot (bstr l) fun r=>r.size = l.length:=by
 unfold bstr
 rw [if_pos h]
 exact Tot.mk (by show (List.map _ _).toArray.size = _; simp)
theorem dr_pickS {fu:Nat} {b:List U8} {c:Cur} (h:CO b c) (l:List ByteArray) (hl:0 < l.length):Tot (d_spec_l1Pick fu c l) fun x=>x.1 ∈ l ∧ CO b x.2:=by
 unfold d_spec_l1Pick
 exact Tot.bind (dr_below h _) fun x hx=>Tot.ix ⟨hx.1.1,hx.1.2 (by omega)⟩ fun y hy=>Tot.mk ⟨hy,h.re hx.2⟩
theorem bts_to {s:ByteArray} {i:Int} (h:0 ≤ i ∧ i ≤ s.size):Tot (sls (btsL s) 0 i) fun l=>(∀ x ∈ l,0 ≤ x.n ∧ x.n ≤ 255) ∧ l.length ≤ s.size:=by
 have hl:=bts_len s
 rw [sls_some ⟨by omega,h.1,by omega⟩]
 refine Tot.mk ⟨fun x hx=>bts_mem (List.mem_of_mem_drop (List.mem_of_mem_take hx)),?_⟩
 simp only [List.length_take,List.length_drop]
 omega
theorem bts_from {s:ByteArray} {i:Int} (h:0 ≤ i ∧ i ≤ s.size):Tot (sls (btsL s) i ((btsL s).length:Int)) fun l=>(∀ x ∈ l,0 ≤ x.n ∧ x.n ≤ 255) ∧ l.length ≤ s.size:=by
 have hl:=bts_len s
 rw [sls_some ⟨h.1,by omega,by omega⟩]
 refine Tot.mk ⟨fun x hx=>bts_mem (List.mem_of_mem_drop (List.mem_of_mem_take hx)),?_⟩
 simp only [List.length_take,List.length_drop]
 omega
theorem Tot.sc {β:Type} {x y:ByteArray} {k:ByteArray → Option β} {Q:β → Prop} (h:x.size + y.size ≤ 1000000000) (hk:∀ z,z.size = x.size + y.size → Tot (k z) Q):Tot (obind (scat x y) k) Q:=by
 rw [scat_ok h]; exact hk _ (ByteArray.size_append)
theorem dr_bend {fu:Nat} {b:List U8} {c:Cur} (h:CO b c) {s:ByteArray} (hs:s.size ≤ 400000):Tot (d_spec_l14Bend fu c s) fun x=>x.1.size ≤ 800010 ∧ CO b x.2:=by
 have hl:=bts_len s
 unfold d_spec_l14Bend
 rw [bts_some (by omega),ob_some]
 refine Tot.bind (dr_below h _) fun i hi=>?_
 have hi0:=hi.1.1
 have hi1:=hi.1.2 (by rw [w64_id (by omega) (by omega)]; omega)
 rw [w64_id (by omega) (by omega)] at hi1
 refine Tot.bind (dr_below (h.re hi.2) _) fun k hk=>?_
 refine Tot.bif (fun _=>?_) fun _=>?_
 · exact Tot.bind (bts_to ⟨hi0,by omega⟩) fun l h1=>Tot.bind (bstr_ok h1.1) fun r hr=>Tot.mk ⟨by simp only; omega,h.re hk.2⟩
 refine Tot.bif (fun _=>?_) fun _=>?_
 · exact Tot.bind (bts_to ⟨hi0,by omega⟩) fun l h1=>Tot.bind (bstr_ok h1.1) fun r hr=>Tot.bind (bts_from ⟨hi0,by omega⟩) fun l2 h2=>Tot.bind (bstr_ok h2.1) fun r2 hr2 =>
     Tot.bind (dr_pickS (h.re hk.2) _ (by simp)) fun p hp=>by
      have hps:p.1.size ≤ 2:=by
       have:=hp.1
       simp only [List.mem_cons,List.not_mem_nil,or_false] at this
       rcases this with e | e | e | e | e | e <;> rw [e] <;> decide
      exact Tot.sc (by omega) fun x hx=>Tot.sc (by omega) fun y hy=>Tot.mk ⟨by simp only; omega,h.re hp.2⟩
 refine Tot.bif (fun _=>?_) fun _=>?_
 · refine Tot.bif (fun hc=>?_) fun _=>?_
   · have hlt:=of_decide_eq_true hc
     refine Tot.bind (bts_to ⟨hi0,by omega⟩) fun l h1=>Tot.bind (bstr_ok h1.1) fun r hr=>?_
     rw [w64_id (n:=i.1 + 1) (by omega) (by omega)]
     exact Tot.bind (bts_from ⟨by omega,by omega⟩) fun l2 h2=>Tot.bind (bstr_ok h2.1) fun r2 hr2=>Tot.sc (by omega) fun y hy=>Tot.mk ⟨by simp only; omega,h.re hk.2⟩
   · exact Tot.mk ⟨by simp only; omega,h.re hk.2⟩
 · exact Tot.mk ⟨by simp only; omega,h.re hk.2⟩
theorem txt_size {x:Plan}:(txtM x).size ≤ 240200:=by
 have key:∀ (l:List (Carton × Spot)) (o:ByteArray),(∀ p ∈ l,(lineL carB (numsL p.1 p.2) ++ nl1).size ≤ 2401) → (l.foldl txtF o).size ≤ o.size + 2401 * l.length:=by
  intro l
  induction l with
  | nil=>intro o _; simp
  | cons p l ih =>
   intro o h
   have h1:=h p (by simp)
   have h2:=ih (txtF o p) fun q hq=>h q (by simp [hq])
   have e:(txtF o p).size = o.size + (lineL carB (numsL p.1 p.2) ++ nl1).size:=by unfold txtF; rw [ByteArray.size_append]
   rw [List.foldl_cons,List.length_cons]
   omega
 unfold txtM
 cases hp:pokB x
 · show (0:Nat) ≤ _; omega
 · rw [cond_true]
   unfold pokB at hp
   simp only [Bool.and_eq_true,decide_eq_true_eq,beq_iff_eq] at hp
   obtain ⟨p1,p2,p3⟩:=hp
   have:=key (x.fCartons.zip x.fSpots) ⟨#[]⟩ fun p hp=>by
    have:=List.all_eq_true.1 p3 p hp
    rw [Bool.and_eq_true] at this
    exact (line_nl (nums_ok this.1 this.2)).2
   have hz:(x.fCartons.zip x.fSpots).length = x.fCartons.length:=by simp; omega
   rw [hz] at this
   have e0:(⟨#[]⟩:ByteArray).size = 0:=rfl
   omega
theorem dr_digE {out:ByteArray} {d:Nat} (n1:Int) (ho:out.size ≤ 100):Tot (bif (decide (n1 < 0)) then obind (scat ((⟨#[45]⟩:ByteArray)) out) fun sv54=>some (sv54) else some (out)) fun x=>x.size ≤ out.size + d + 1:=by
 refine Tot.bif (fun _=>?_) fun _=>Tot.mk (by omega)
 exact Tot.sc (by show 1 + _ ≤ _; omega) fun z hz=>Tot.mk (by
  rw [show (⟨#[45]⟩:ByteArray).size = 1 from rfl] at hz
  omega)
theorem dr_digL {fu:Nat} {n1:Int}:∀ (d:Nat) (n:Int) (k:Nat) (out:ByteArray),-(10 ^ d:Nat) < n → n < (10 ^ d:Nat) → d ≤ 7 → d < k → out.size + d ≤ 50 → Tot (d_spec_Digits_L1 fu n1 k n out) fun x=>x.size ≤ out.size + d + 1
 | 0,n,k,out,h1,h2,hd,hk,ho=>by
  obtain ⟨k,rfl⟩:∃ j,k = j + 1:=⟨k - 1,by omega⟩
  have e:n = 0:=by simp at h1 h2; omega
  rw [d_spec_Digits_L1.eq_2]
  unfold d_spec_Digits_L1_B
  rw [bif_false (by simp [e])]
  exact dr_digE (d:=0) (out:=out) n1 (by omega)
 | d + 1,n,k,out,h1,h2,hd,hk,ho=>by
  obtain ⟨k,rfl⟩:∃ j,k = j + 1:=⟨k - 1,by omega⟩
  rw [d_spec_Digits_L1.eq_2]
  unfold d_spec_Digits_L1_B d_spec_Digits_J1
  by_cases h0:n = 0
  · rw [bif_false (by simp [h0])]
    exact dr_digE (d:=d + 1) (out:=out) n1 (by omega)
  rw [bif_true (bne_iff_ne.2 h0)]
  have hp:10 ^ (d + 1) = 10 * 10 ^ d:=by rw [Nat.pow_succ]; omega
  have hb:10 ^ d ≤ 10 ^ 6:=Nat.pow_le_pow_right (by omega) (by omega)
  rw [hp] at h1 h2
  have hj:∀ t:Int,0 ≤ t ∧ t ≤ 9 → -(10 ^ d:Nat) < Int.tdiv n 10 ∧ Int.tdiv n 10 < (10 ^ d:Nat) → Tot (obind (bstr (([(⟨w8 (w64 (48 + t))⟩:U8)]:List U8))) fun sv48=>obind (scat sv48 out) fun sv50=>d_spec_Digits_L1 fu n1 k (w64 (Int.tdiv n 10)) sv50) fun x=>x.size ≤ out.size + (d + 1) + 1:=fun t ht hq=>by
   rw [w64_id (n:=48 + t) (by omega) (by omega),w8_id (by omega),bstr_one (by omega),ob_some]
   have hs1:(⟨[UInt8.ofNat (48 + t).toNat].toArray⟩:ByteArray).size = 1:=rfl
   refine Tot.sc (by rw [hs1]; omega) fun z hz=>?_
   rw [hs1] at hz
   rw [w64_id (by omega) (by omega)]
   exact (dr_digL d _ k z hq.1 hq.2 (by omega) (by omega) (by omega)).imp fun x hx=>by omega
  rcases Int.le_total 0 n with hn | hn
  · have e1:=Int.tmod_eq_emod_of_nonneg (b:=10) hn
    have e2:=Int.tdiv_eq_ediv_of_nonneg (b:=10) hn
    rw [e1,bif_false (by simp; omega)]
    exact hj _ (by omega) (by rw [e2]; omega)
  · obtain ⟨m,rfl⟩:∃ m:Int,n = -m:=⟨-n,by omega⟩
    have hm:0 ≤ m:=by omega
    have e1:=Int.tmod_eq_emod_of_nonneg (b:=10) hm
    have e2:=Int.tdiv_eq_ediv_of_nonneg (b:=10) hm
    have hq:-((10 ^ d:Nat):Int) < Int.tdiv (-m) 10 ∧ Int.tdiv (-m) 10 < (10 ^ d:Nat):=by rw [Int.neg_tdiv,e2]; omega
    rw [Int.neg_tmod,e1]
    refine Tot.bif (fun _=>?_) fun hc=>?_
    · rw [w64_id (n:=0 - _) (by omega) (by omega)]
      exact hj _ (by omega) hq
    · exact hj _ (by simp at hc; omega) hq
theorem dr_dig {fu:Nat} (hf:100 ≤ fu) {n:Int} (h:-1000000 ≤ n ∧ n ≤ 1000000):Tot (d_spec_Digits fu n) fun x=>x.size ≤ 8:=by
 unfold d_spec_Digits
 refine Tot.bif (fun _=>Tot.mk (by decide)) fun _=>?_
 have:=dr_digL (fu:=fu) (n1:=n) 7 n fu ⟨#[]⟩ (by omega) (by omega) (by omega) (by omega) (by decide)
 exact this.imp fun x hx=>by rw [show (⟨#[]⟩:ByteArray).size = 0 from rfl] at hx; omega
theorem dr_line {fu:Nat} (hf:2097153 ≤ fu) {c:Carton} {s:Spot} (h:∀ n ∈ numsL c s,-1000000 ≤ n ∧ n ≤ 1000000) (hl:c.fUnits.length ≤ 100):Tot (d_spec_l14Line fu c s) fun x=>x.size ≤ 2000:=by
 unfold d_spec_l14Line
 have hlen:[c.fType,c.fGroup,s.fPallet,s.fX,s.fY,s.fZ].length + c.fUnits.length ≤ 106:=by simp; omega
 refine Tot.ap (by omega) ?_
 show Tot (d_spec_l14Line_L1 fu (numsL c s) fu carB 0) _
 have h2:(numsL c s).length ≤ 106:=by unfold numsL; rw [List.length_append]; exact hlen
 generalize numsL c s = l at h h2
 have key:=lpT (l.length:Int) (fun n (o:ByteArray) i=>d_spec_l14Line_L1 fu l n o i) (fun x=>x.size ≤ 2000) (fun i o=>(o.size:Int) ≤ 6 + 9 * i ∧ i ≤ l.length) (by omega) ?_ ?_ l.length fu carB 0 (by omega) (by omega) (by omega) ⟨by decide,by omega⟩
 · exact key
 · intro n o i h0 h1 hI ih
   simp only [d_spec_l14Line_L1.eq_2]
   unfold d_spec_l14Line_L1_B
   rw [bif_true (by simpa using h1)]
   refine Tot.sc (by show _ + 1 ≤ _; omega) fun z hz=>?_
   rw [show (⟨#[32]⟩:ByteArray).size = 1 from rfl] at hz
   exact Tot.ix ⟨h0,h1⟩ fun x hx=>Tot.bind (dr_dig (by omega) (h x hx)) fun t ht=>Tot.sc (by omega) fun y hy=>ih y ⟨by omega,by omega⟩
 · intro n o i h0 h1 hI
   simp only [d_spec_l14Line_L1.eq_2]
   unfold d_spec_l14Line_L1_B
   rw [bif_false (by simp; omega)]
   exact Tot.mk (by omega)
theorem ba_loop (b:ByteArray):∀ (m i:Nat) (r:List UInt8),b.size - i = m → ByteArray.toList.loop b i r = r.reverse ++ b.data.toList.drop i:=by
 intro m
 induction m with
 | zero =>
  intro i r h
  rw [ByteArray.toList.loop,if_neg (by omega)]
  have:b.data.toList.length ≤ i:=by have:b.size = b.data.size:=rfl; simp; omega
  rw [List.drop_of_length_le this]; simp
 | succ m ih =>
  intro i r h
  rw [ByteArray.toList.loop,if_pos (by omega),ih (i + 1) _ (by omega)]
  have hs:b.size = b.data.size:=rfl
  have hi:i < b.data.toList.length:=by simp; omega
  rw [List.drop_eq_getElem_cons hi]
  have:b.get! i = b.data.toList[i]:=by
   unfold ByteArray.get!
   simp [Array.getElem!_eq_getD,Array.getD]
   rw [dif_pos (by omega)]
  rw [this]; simp
theorem ba_list (b:ByteArray):b.toList = b.data.toList:=by
 unfold ByteArray.toList
 rw [ba_loop b _ 0 [] rfl]; simp
theorem ba_eq (a b:ByteArray):(a.toList == b.toList) = decide (a = b):=by
 rw [ba_list,ba_list]
 by_cases h:a = b
 · subst h; simp
 · rw [decide_eq_false h]
   have:a.data.toList ≠ b.data.toList:=fun e=>h (ByteArray.ext (Array.ext' e))
   simpa using this
theorem dd_dig:∀ (u:Nat),∀ b ∈ Lib.decDigits u,48 ≤ b.toNat ∧ b.toNat ≤ 57:=by
 intro u
 induction u using Nat.strongRecOn with
 | _ u ih =>
  intro b hb
  have one:∀ d:Nat,d < 10 → 48 ≤ (UInt8.ofNat (48 + d)).toNat ∧ (UInt8.ofNat (48 + d)).toNat ≤ 57:=fun d hd=>by
   rw [UInt8.toNat_ofNat']; omega
  rw [Lib.decDigits] at hb
  split at hb
  · rename_i h
    rw [List.mem_singleton.1 hb]
    exact one u h
  · rename_i h
    rcases List.mem_append.1 hb with hb | hb
    · exact ih (u / 10) (by omega) b hb
    · rw [List.mem_singleton.1 hb]
      exact one _ (by omega)
theorem decFrom_app:∀ (l r:List UInt8) (acc:Nat),Lib.decFrom acc (l ++ r) = (Lib.decFrom acc l).bind fun n=>Lib.decFrom n r
 | [],r,acc=>rfl
 | b :: l,r,acc=>by
  simp only [List.cons_append,Lib.decFrom]
  cases Lib.digitVal b with
  | none=>rfl
  | some d=>exact decFrom_app l r _
theorem dd_val:∀ (u:Nat),Lib.decFrom 0 (Lib.decDigits u) = some u:=by
 intro u
 induction u using Nat.strongRecOn with
 | _ u ih =>
  have one:∀ d:Nat,d < 10 → Lib.digitVal (UInt8.ofNat (48 + d)) = some d:=fun d hd=>by
   unfold Lib.digitVal
   have:(UInt8.ofNat (48 + d)).toNat = 48 + d:=by rw [UInt8.toNat_ofNat']; omega
   rw [this,if_pos (by omega)]
   congr 1; omega
  rw [Lib.decDigits]
  split
  · rename_i h
    simp only [Lib.decFrom,one u h]
    congr 1; omega
  · rename_i h
    rw [decFrom_app,ih (u / 10) (by omega)]
    simp only [Option.bind_some,Lib.decFrom,one (u % 10) (by omega)]
    congr 1; omega
theorem dd_len:∀ (k u:Nat),u < 10 ^ (k + 1) → 1 ≤ (Lib.decDigits u).length ∧ (Lib.decDigits u).length ≤ k + 1
 | 0,u,h=>by
  rw [Lib.decDigits,dif_pos (by omega)]; simp
 | k + 1,u,h=>by
  rw [Lib.decDigits]
  split
  · simp
  · have:=dd_len k (u / 10) (by
      rw [Nat.pow_succ] at h
      omega)
    simp only [List.length_append,List.length_singleton]
    omega
theorem atoi_dd {u:Nat} (h:u ≤ 999999):Lib.atoiAll (Lib.decDigits u) = .ok (u:Int):=by
 have hl:=dd_len 5 u (by omega)
 rw [Lib.atoiAll_short _ (by omega)]
 have hv:=dd_val u
 have hd:=dd_dig u
 cases hc:Lib.decDigits u with
 | nil=>rw [hc] at hl; simp at hl
 | cons b r =>
  rw [hc] at hv hd
  have hb:=hd b (by simp)
  have n1:¬ (b == 45) = true:=fun e=>by rw [beq_iff_eq.1 e] at hb; exact absurd hb (by decide)
  have n2:¬ (b == 43) = true:=fun e=>by rw [beq_iff_eq.1 e] at hb; exact absurd hb (by decide)
  unfold Lib.atoi
  show Lib.NumEnd.ofOption (if (b == 45) = true then _ else if (b == 43) = true then _ else Option.map _ (Lib.decNat (b :: r))) = _
  rw [if_neg n1,if_neg n2]
  unfold Lib.decNat
  rw [if_neg (by simp),hv]
  rfl
theorem numB_dd {u:Nat}:numB (u:Int) = ⟨(Lib.decDigits u).toArray⟩:=by
 unfold numB Lib.itoa
 rw [if_neg (by omega),Int.toNat_natCast]
theorem i_num {fu:Nat} {s:ByteArray} (hs:s.size ≤ 1048576):∃ r,d_impl_Number fu s = some r ∧ ((∃ u:Nat,u ≤ 999999 ∧ s = numB u ∧ r = ((u:Int),true)) ∨ ((∀ u:Nat,u ≤ 999999 → s ≠ numB u) ∧ r = (0,false))):=by
 unfold d_impl_Number d_strconv_Atoi atoiO d_impl_Number_J1
 rw [if_pos hs,ob_some]
 by_cases he:∃ u:Nat,u ≤ 999999 ∧ s = numB u
 · obtain ⟨u,hu,rfl⟩:=he
   have e:(numB (u:Int)).data.toList = Lib.decDigits u:=by rw [numB_dd]
   rw [e,atoi_dd hu]
   simp only [cond_false,i_in,ob_some,show inb (u:Int) 0 999999 = true from inb_iff.2 (by omega),Bool.not_true]
   rw [i_digits fu (by omega),ob_some,ba_eq,decide_eq_true rfl]
   exact ⟨_,rfl,.inl ⟨u,hu,rfl,rfl⟩⟩
 · have hne:∀ u:Nat,u ≤ 999999 → s ≠ numB u:=fun u hu e=>he ⟨u,hu,e⟩
   refine ⟨(0,false),?_,.inr ⟨hne,rfl⟩⟩
   cases ha:Lib.atoiAll s.data.toList
   case ok v =>
    simp only [cond_false,i_in,ob_some]
    cases hv:inb v 0 999999
    · rfl
    · have hv':=inb_iff.1 hv
      rw [Bool.not_true,cond_false,i_digits fu hv',ob_some,ba_eq,decide_eq_false (fun e=>by
       obtain ⟨u,rfl⟩:∃ u:Nat,v = u:=⟨v.toNat,by omega⟩
       exact hne u (by omega) e.symm)]
      rfl
   all_goals rfl
theorem sx_at {s:ByteArray} {pre l:List UInt8} {b:UInt8} (h:s.data.toList = pre ++ b :: l):sx s (pre.length:Int) = some (b.toNat:Int):=by
 have hl:s.data.toList[pre.length]? = some b:=by rw [h]; simp
 have hs:s.data.toList.length = s.size:=Array.length_toList
 have hi:pre.length < s.size:=by rw [← hs,h]; simp
 unfold sx
 rw [if_pos (by omega),Int.toNat_natCast,getElem?_pos s pre.length hi]
 have e:s[pre.length] = b:=by
  have:s.data.toList[pre.length]? = some s[pre.length]:=by
   rw [Array.getElem?_toList]
   exact Array.getElem?_eq_getElem hi
  rw [hl] at this
  exact (Option.some.inj this).symm
 rw [e]; rfl
theorem s_numL {s:ByteArray}:∀ (l pre:List UInt8) (n k:Nat),s.data.toList = pre ++ l → s.size ≤ 6 → l.length < k → n < 10 ^ pre.length →
    d_spec_Number_L1 2097153 s k (n:Int) (pre.length:Int) = match Lib.decFrom n l with | none=>some (0,false) | some m=>bif decide (numB (m:Int) = s) then some ((m:Int),true) else some (0,false)
 | [],pre,n,k,h,hs,hk,hn=>by
  obtain ⟨k,rfl⟩:∃ j,k = j + 1:=⟨k - 1,by omega⟩
  have hsz:s.size = pre.length:=by
   have:s.data.toList.length = s.size:=Array.length_toList
   rw [← this,h]; simp
  have hn6:n < 10 ^ 6:=Nat.lt_of_lt_of_le hn (Nat.pow_le_pow_right (by omega) (by omega))
  rw [d_spec_Number_L1.eq_2]
  unfold d_spec_Number_L1_B
  rw [bif_false (by simp; omega),s_digits (by omega) (by omega),ob_some,ba_eq]
  simp only [Lib.decFrom]
  cases decide (numB (n:Int) = s) <;> rfl
 | b :: l,pre,n,k,h,hs,hk,hn=>by
  obtain ⟨k,rfl⟩:∃ j,k = j + 1:=⟨k - 1,by omega⟩
  have hsz:s.size = pre.length + (l.length + 1):=by
   have:s.data.toList.length = s.size:=Array.length_toList
   rw [← this,h]; simp
  have hp:10 ^ pre.length ≤ 10 ^ 5:=Nat.pow_le_pow_right (by omega) (by omega)
  have hb:b.toNat < 256:=b.toNat_lt
  have hx:=sx_at h
  rw [d_spec_Number_L1.eq_2]
  unfold d_spec_Number_L1_B d_spec_Number_J2 d_spec_Number_J1
  rw [bif_true (by simp; omega)]
  simp only [hx,ob_some]
  unfold Lib.decFrom Lib.digitVal
  by_cases h1:b.toNat < 48
  · rw [bif_true (by simp; omega),if_neg (by omega)]
  · rw [bif_false (by simp; omega)]
    by_cases h2:b.toNat > 57
    · rw [bif_true (by simp; omega),if_neg (by omega)]
    · rw [bif_false (by simp; omega),if_pos (by omega)]
      have e:w64 (w64 (w64 (10 * (n:Int)) + w64 (b.toNat:Int)) - 48) = ((n * 10 + (b.toNat - 48):Nat):Int):=by
       rw [w64_id (n:=10 * (n:Int)) (by omega) (by omega),w64_id (n:=(b.toNat:Int)) (by omega) (by omega),w64_id (n:=_ + (b.toNat:Int)) (by omega) (by omega),w64_id (by omega) (by omega)]
       omega
      have e2:w64 ((pre.length:Int) + 1) = (((pre ++ [b]).length:Nat):Int):=by
       rw [w64_id (by omega) (by omega)]; simp
      rw [e,e2]
      exact s_numL l (pre ++ [b]) _ k (by simp [h]) hs (by simp at hk; omega) (by
       rw [List.length_append,List.length_singleton,Nat.pow_succ]
       omega)
theorem s_num {s:ByteArray} (hs:s.size ≤ 1048576):d_spec_Number 2097153 s = d_impl_Number 2097153 s:=by
 obtain ⟨r,h1,h2⟩:=i_num (fu:=2097153) hs
 rw [h1]
 unfold d_spec_Number d_spec_Number_J3
 have hlen:s.data.toList.length = s.size:=Array.length_toList
 have hB:∀ u:Nat,u ≤ 999999 → 1 ≤ (numB (u:Int)).size ∧ (numB (u:Int)).size ≤ 6:=fun u hu=>by
  have:=dd_len 5 u (by omega)
  rw [numB_dd]
  exact this
 by_cases l1:(s.size:Int) < 1
 · rw [bif_true (by simpa using l1)]
   rcases h2 with ⟨u,hu,rfl,_⟩ | ⟨_,rfl⟩
   · have:=hB u hu; omega
   · rfl
 · rw [bif_false (by simpa using l1)]
   by_cases l2:(s.size:Int) > 6
   · rw [bif_true (by simpa using l2)]
     rcases h2 with ⟨u,hu,rfl,_⟩ | ⟨_,rfl⟩
     · have:=hB u hu; omega
     · rfl
   · rw [bif_false (by simpa using l2)]
     have:=s_numL (s:=s) s.data.toList [] 0 2097153 rfl (by omega) (by omega) (by simp)
     rw [show ((([]:List UInt8).length:Nat):Int) = 0 from rfl,show (((0:Nat):Nat):Int) = 0 from rfl] at this
     rw [this]
     rcases h2 with ⟨u,hu,rfl,rfl⟩ | ⟨hne,rfl⟩
     · have e:(numB (u:Int)).data.toList = Lib.decDigits u:=by rw [numB_dd]
       rw [e,dd_val u]
       simp
     · cases hd:Lib.decFrom 0 s.data.toList with
       | none=>rfl
       | some m =>
        have hm:=Lib.decFrom_lt _ _ _ hd
        have hp:10 ^ s.data.toList.length ≤ 10 ^ 6:=Nat.pow_le_pow_right (by omega) (by omega)
        simp only
        rw [decide_eq_false (fun e=>hne m (by omega) e.symm)]
        rfl
def ofL (l:List UInt8):ByteArray:=⟨l.toArray⟩
theorem ba_len (s:ByteArray):s.data.toList.length = s.size:=Array.length_toList
def cut (b:UInt8):List UInt8 → List UInt8 × List (List UInt8)
 | []=>([],[])
 | c :: l=>if c = b then ([],(cut b l).1 :: (cut b l).2) else (c :: (cut b l).1,(cut b l).2)
def pts (b:UInt8) (l:List UInt8):List (List UInt8):=(cut b l).1 :: (cut b l).2
def parts (b:UInt8) (s:ByteArray):List ByteArray:=(pts b s.data.toList).map ofL
theorem cut_app {b:UInt8}:∀ {w:List UInt8} (r:List UInt8),b ∉ w → cut b (w ++ r) = (w ++ (cut b r).1,(cut b r).2)
 | [],r,_=>rfl
 | c :: w,r,h=>by
  have h1:c ≠ b:=fun e=>h (by simp [e])
  show cut b (c :: (w ++ r)) = _
  rw [cut,if_neg h1,cut_app r fun e=>h (List.mem_cons_of_mem _ e)]
  rfl
theorem cut_sep (b:UInt8) (r:List UInt8):cut b (b :: r) = ([],(cut b r).1 :: (cut b r).2):=by rw [cut,if_pos rfl]
theorem cut_join (b:UInt8):∀ (l:List UInt8),l = (cut b l).1 ++ ((cut b l).2.map fun x=>b :: x).flatten
 | []=>rfl
 | c :: l=>by
  have ih:=cut_join b l
  rw [cut]
  split
  · rename_i h
    rw [h]
    show b :: l = [] ++ (b :: (cut b l).1) ++ _
    simp only [List.nil_append,List.cons_append]
    rw [← ih]
  · show c :: l = c :: ((cut b l).1 ++ _)
    rw [← ih]
theorem cut_len (b:UInt8):∀ (l:List UInt8),(cut b l).2.length ≤ l.length
 | []=>Nat.le_refl _
 | c :: l=>by
  have ih:=cut_len b l
  rw [cut]
  split <;> simp only [List.length_cons] <;> omega
theorem cut_mem (b:UInt8):∀ (l:List UInt8),(cut b l).1.length ≤ l.length ∧ ∀ x ∈ (cut b l).2,x.length ≤ l.length
 | []=>⟨by simp [cut],by simp [cut]⟩
 | c :: l=>by
  have ih:=cut_mem b l
  rw [cut]
  split
  · exact ⟨by simp,fun x hx=>by
      simp only [List.length_cons]
      rcases List.mem_cons.1 hx with e | e
      · rw [e]; omega
      · have:=ih.2 x e; omega⟩
  · exact ⟨by simp only [List.length_cons]; omega,fun x hx=>by
      have:=ih.2 x hx
      simp only [List.length_cons]; omega⟩
theorem parts_len (b:UInt8) (s:ByteArray):1 ≤ (parts b s).length ∧ (parts b s).length ≤ s.size + 1:=by
 have:=cut_len b s.data.toList
 rw [ba_len] at this
 unfold parts pts
 simp only [List.length_map,List.length_cons]
 omega
theorem parts_size {b:UInt8} {s x:ByteArray} (h:x ∈ parts b s):x.size ≤ s.size:=by
 obtain ⟨l,hl,rfl⟩:=List.mem_map.1 h
 have:=cut_mem b s.data.toList
 rw [ba_len] at this
 show l.toArray.size ≤ _
 rw [List.size_toArray]
 rcases List.mem_cons.1 hl with rfl | e
 · exact this.1
 · exact this.2 l e
theorem ssl_at {s:ByteArray} {pre acc l:List UInt8} (h:s.data.toList = pre ++ (acc ++ l)):ssl s (pre.length:Int) ((pre.length:Int) + (acc.length:Int)) = some (ofL acc):=by
 have hs:=ba_len s
 rw [h] at hs
 simp only [List.length_append] at hs
 unfold ssl
 rw [if_pos (by omega)]
 congr 1
 apply ByteArray.ext
 apply Array.ext'
 rw [show ((pre.length:Int) + (acc.length:Int)).toNat = pre.length + acc.length by omega,Int.toNat_natCast,ByteArray.data_extract,Array.toList_extract,h]
 show _ = acc
 rw [List.extract_eq_take_drop,Nat.add_sub_cancel_left,List.drop_left,List.take_left]
theorem ap16 {x:ByteArray} {out:List ByteArray} (h:out.length ≤ 2000000):apnd 16 out [x] = some (out ++ [x]):=by
 unfold apnd
 rw [if_pos (by simp only [List.length_singleton]; omega)]
theorem i_partsL {fu:Nat} {s:ByteArray} {b:UInt8} (hs:s.size ≤ 1048576):∀ (l pre acc:List UInt8) (out:List ByteArray) (k:Nat),s.data.toList = pre ++ (acc ++ l) → l.length < k → out.length + l.length ≤ 1048576 →
    d_impl_Parts_L1 fu s (b.toNat:Int) k out (pre.length:Int) ((pre.length:Int) + (acc.length:Int)) = some (out ++ ofL (acc ++ (cut b l).1) :: (cut b l).2.map ofL)
 | [],pre,acc,out,k,h,hk,ho=>by
  obtain ⟨k,rfl⟩:∃ j,k = j + 1:=⟨k - 1,by omega⟩
  have hz:=ba_len s
  rw [h] at hz
  simp only [List.length_append,List.length_nil] at hz
  rw [d_impl_Parts_L1.eq_2]
  unfold d_impl_Parts_L1_B
  rw [bif_false (by simp; omega),show (s.size:Int) = (pre.length:Int) + (acc.length:Int) by omega,ssl_at h,ob_some,ap16 (by omega),ob_some]
  simp [cut]
 | c :: l,pre,acc,out,k,h,hk,ho=>by
  obtain ⟨k,rfl⟩:∃ j,k = j + 1:=⟨k - 1,by omega⟩
  have hz:=ba_len s
  rw [h] at hz
  simp only [List.length_append,List.length_cons] at hz ho
  have hx:sx s ((pre.length:Int) + (acc.length:Int)) = some (c.toNat:Int):=by
   have:=sx_at (s:=s) (pre:=pre ++ acc) (l:=l) (b:=c) (by rw [h]; simp)
   rw [← this]; simp
  rw [d_impl_Parts_L1.eq_2]
  unfold d_impl_Parts_L1_B d_impl_Parts_J1
  rw [bif_true (by simp; omega),hx,ob_some,w64_id (by omega) (by omega)]
  by_cases hc:c = b
  · subst hc
    rw [bif_true (by simp),ssl_at h,ob_some,ap16 (by omega),ob_some]
    have:=i_partsL (fu:=fu) (b:=c) hs l (pre ++ (acc ++ [c])) [] (out ++ [ofL acc]) k (by rw [h]; simp) (by simp at hk; omega) (by simp; omega)
    rw [show ((pre.length:Int) + (acc.length:Int) + 1) = (((pre ++ (acc ++ [c])).length:Nat):Int) + (([]:List UInt8).length:Int) by simp; omega]
    rw [show ((((pre ++ (acc ++ [c])).length:Nat):Int) + (([]:List UInt8).length:Int)) = (((pre ++ (acc ++ [c])).length:Nat):Int) by simp] at this ⊢
    rw [this,cut_sep]
    simp
  · rw [bif_false (by simpa using fun e=>hc (UInt8.toNat_inj.1 (by omega)))]
    have:=i_partsL (fu:=fu) (b:=b) hs l pre (acc ++ [c]) out k (by rw [h]; simp) (by simp at hk; omega) (by omega)
    rw [show ((pre.length:Int) + (acc.length:Int) + 1) = (pre.length:Int) + (((acc ++ [c]).length:Nat):Int) by simp; omega,this,cut,if_neg hc]
    simp
theorem i_parts {s:ByteArray} {b:UInt8} (hs:s.size ≤ 1048576):d_impl_Parts 2097153 s (b.toNat:Int) = some (parts b s):=by
 unfold d_impl_Parts
 have hz:=ba_len s
 exact i_partsL (b:=b) hs s.data.toList [] [] [] 2097153 rfl (by omega) (by simp; omega)
theorem s_partsL {fu:Nat} {s:ByteArray} {b:UInt8} (hs:s.size ≤ 1048576):∀ (l pre acc:List UInt8) (out:List ByteArray) (k:Nat),s.data.toList = pre ++ (acc ++ l) → l.length + 1 < k → out.length + l.length ≤ 1048576 →
    d_spec_Parts_L1 fu s (b.toNat:Int) k out (pre.length:Int) ((pre.length:Int) + (acc.length:Int)) = some (out ++ ofL (acc ++ (cut b l).1) :: (cut b l).2.map ofL)
 | [],pre,acc,out,k,h,hk,ho=>by
  obtain ⟨k,rfl⟩:∃ j,k = j + 2:=⟨k - 2,by simp at hk; omega⟩
  have hz:=ba_len s
  rw [h] at hz
  simp only [List.length_append,List.length_nil] at hz
  rw [d_spec_Parts_L1.eq_2]
  unfold d_spec_Parts_L1_B d_spec_Parts_J1
  rw [bif_true (by simp; omega),bif_true (by simp; omega),ssl_at h,ob_some,ap16 (by omega),ob_some,w64_id (by omega) (by omega),d_spec_Parts_L1.eq_2]
  unfold d_spec_Parts_L1_B
  rw [bif_false (by simp; omega)]
  simp [cut]
 | c :: l,pre,acc,out,k,h,hk,ho=>by
  obtain ⟨k,rfl⟩:∃ j,k = j + 1:=⟨k - 1,by omega⟩
  have hz:=ba_len s
  rw [h] at hz
  simp only [List.length_append,List.length_cons] at hz ho
  have hx:sx s ((pre.length:Int) + (acc.length:Int)) = some (c.toNat:Int):=by
   have:=sx_at (s:=s) (pre:=pre ++ acc) (l:=l) (b:=c) (by rw [h]; simp)
   rw [← this]; simp
  rw [d_spec_Parts_L1.eq_2]
  unfold d_spec_Parts_L1_B d_spec_Parts_J1
  rw [bif_true (by simp; omega),bif_false (by simp; omega),hx,ob_some,w64_id (by omega) (by omega)]
  by_cases hc:c = b
  · subst hc
    rw [bif_true (by simp),ssl_at h,ob_some,ap16 (by omega),ob_some]
    have:=s_partsL (fu:=fu) (b:=c) hs l (pre ++ (acc ++ [c])) [] (out ++ [ofL acc]) k (by rw [h]; simp) (by simp at hk; omega) (by simp; omega)
    rw [show ((pre.length:Int) + (acc.length:Int) + 1) = (((pre ++ (acc ++ [c])).length:Nat):Int) + (([]:List UInt8).length:Int) by simp; omega]
    rw [show ((((pre ++ (acc ++ [c])).length:Nat):Int) + (([]:List UInt8).length:Int)) = (((pre ++ (acc ++ [c])).length:Nat):Int) by simp] at this ⊢
    rw [this,cut_sep]
    simp
  · rw [bif_false (by simpa using fun e=>hc (UInt8.toNat_inj.1 (by omega)))]
    have:=s_partsL (fu:=fu) (b:=b) hs l pre (acc ++ [c]) out k (by rw [h]; simp) (by simp at hk; omega) (by omega)
    rw [show ((pre.length:Int) + (acc.length:Int) + 1) = (pre.length:Int) + (((acc ++ [c]).length:Nat):Int) by simp; omega,this,cut,if_neg hc]
    simp
theorem s_parts {s:ByteArray} {b:UInt8} (hs:s.size ≤ 1048576):d_spec_Parts 2097153 s (b.toNat:Int) = some (parts b s):=by
 unfold d_spec_Parts
 have hz:=ba_len s
 exact s_partsL (b:=b) hs s.data.toList [] [] [] 2097153 rfl (by omega) (by simp; omega)
def nmv (x:ByteArray):Int × Bool:=(d_impl_Number 2097153 x).getD (0,false)
theorem nmv_i {x:ByteArray} (h:x.size ≤ 1048576):d_impl_Number 2097153 x = some (nmv x):=by
 obtain ⟨r,h1,_⟩:=i_num (fu:=2097153) h
 unfold nmv
 rw [h1]; rfl
theorem nmv_s {x:ByteArray} (h:x.size ≤ 1048576):d_spec_Number 2097153 x = some (nmv x):=by rw [s_num h,nmv_i h]
theorem nmv_is {x:ByteArray} (h:x.size ≤ 1048576) (ht:(nmv x).2 = true):x = numB (nmv x).1 ∧ 0 ≤ (nmv x).1 ∧ (nmv x).1 ≤ 999999:=by
 obtain ⟨r,h1,h2⟩:=i_num (fu:=2097153) h
 rw [nmv_i h] at h1
 rw [Option.some.inj h1] at ht ⊢
 rcases h2 with ⟨u,hu,e,rfl⟩ | ⟨_,rfl⟩
 · exact ⟨e,by simp only; omega,by simp only; omega⟩
 · simp at ht
theorem nmv_num {n:Int} (h:0 ≤ n ∧ n ≤ 999999):nmv (numB n) = (n,true):=by
 have hs:(numB n).size ≤ 1048576:=Nat.le_trans (numB_size h) (by omega)
 obtain ⟨r,h1,h2⟩:=i_num (fu:=2097153) hs
 obtain ⟨u,rfl⟩:∃ u:Nat,n = u:=⟨n.toNat,by omega⟩
 rw [nmv_i hs] at h1
 rw [Option.some.inj h1]
 rcases h2 with ⟨v,hv,e,rfl⟩ | ⟨h3,_⟩
 · have e1:(numB (u:Int)).data.toList = Lib.decDigits u:=by rw [numB_dd]
   have e2:(numB (v:Int)).data.toList = Lib.decDigits v:=by rw [numB_dd]
   have:=dd_val u
   rw [← e1,e,e2,dd_val v] at this
   rw [Option.some.inj this]
 · exact absurd rfl (h3 u (by omega))
def nms:List ByteArray → Option (List Int)
 | []=>some []
 | x :: xs=>if (nmv x).2 = true then (nms xs).map ((nmv x).1 :: ·) else none
def rsL (o:List Int):Option (List Int) → List Int × Bool
 | some ns=>(o ++ ns,true)
 | none=>([],false)
def wrd (w:ByteArray) (k:Nat) (line:ByteArray):Option (List Int) :=
 match parts 32 line with
 | []=>none
 | p :: ps=>if p = w ∧ ps.length = k then nms ps else none
theorem i_wordsL {fu k:Nat} {xs:List ByteArray} (hx:∀ x ∈ xs,x.size ≤ 1048576) (hl:xs.length ≤ 1048577) (hk:xs.length < k):d_impl_wordsOf_L1 2097153 xs k [] 0 = some (rsL [] (nms xs)):=by
 have key:=lpI xs (fun n (o:List Int) i=>d_impl_wordsOf_L1 2097153 xs n o i) (fun xs o=>some (rsL o (nms xs))) (fun xs o=>(∀ x ∈ xs,x.size ≤ 1048576) ∧ o.length + xs.length ≤ 1048577) (by omega) ?_ ?_ k [] ⟨hx,by simpa using hl⟩ (by omega)
 · exact key
 · intro n o i x xs hx hd hI ih
   obtain ⟨i1,i2⟩:=hI
   simp only [List.length_cons] at i2
   simp only [d_impl_wordsOf_L1.eq_2]
   unfold d_impl_wordsOf_L1_B
   rw [hd,cond_true,hx,ob_some,nmv_i (i1 x (by simp)),ob_some,nms]
   cases hv:(nmv x).2 with
   | false=>rfl
   | true =>
    rw [if_pos rfl,Bool.not_true,cond_false]
    have:apnd 8 o [(nmv x).1] = some (o ++ [(nmv x).1]):=by
     unfold apnd
     rw [if_pos (by simp only [List.length_singleton]; omega)]
    rw [this,ob_some,ih _ ⟨fun y hy=>i1 y (by simp [hy]),by simp only [List.length_append,List.length_singleton]; omega⟩]
    cases nms xs with
    | none=>rfl
    | some ns=>simp [rsL]
 · intro n o i hd hI
   simp only [d_impl_wordsOf_L1.eq_2]
   unfold d_impl_wordsOf_L1_B
   rw [hd,cond_false]
   simp [nms,rsL]
theorem i_words {line w:ByteArray} {k:Nat} (h:line.size ≤ 1048576) (hk:k ≤ 1048576):d_impl_wordsOf 2097153 line w (k:Int) = some (rsL [] (wrd w k line)):=by
 unfold d_impl_wordsOf wrd
 have e:=i_parts (b:=32) h
 have hl:=(parts_len 32 line).2
 have hs:=fun x hx=>Nat.le_trans (parts_size (b:=32) (s:=line) (x:=x) hx) h
 rw [show ((32:UInt8).toNat:Int) = 32 from rfl] at e
 rw [e,ob_some]
 cases hp:parts 32 line with
 | nil=>have:=(parts_len 32 line).1; rw [hp] at this; simp at this
 | cons p ps =>
  rw [hp] at hl hs
  simp only [List.length_cons] at hl
  rw [show ix (p :: ps) 0 = some p from rfl,ob_some,ba_eq,w64_id (by omega) (by omega)]
  simp only
  by_cases h1:p = w
  · rw [decide_eq_true h1,Bool.not_true,cond_false]
    by_cases h2:ps.length = k
    · rw [if_pos ⟨h1,h2⟩,bif_false (by simp; omega)]
      unfold d_impl_wordsOf_J1
      have:sls (p :: ps) 1 (((p :: ps).length:Nat):Int) = some ps:=by
       unfold sls
       rw [if_pos (by simp only [List.length_cons]; omega),show (1:Int).toNat = 1 from rfl,Int.toNat_natCast]
       simp
      rw [this,ob_some,i_wordsL (fu:=0) (fun x hx=>hs x (by simp [hx])) (by omega) (by omega)]
    · rw [if_neg (fun e=>h2 e.2),bif_true (by simp; omega)]; rfl
  · rw [decide_eq_false h1,if_neg (fun e=>h1 e.1)]; rfl
theorem nms_some:∀ {xs:List ByteArray} {ns:List Int},(∀ x ∈ xs,x.size ≤ 1048576) → nms xs = some ns → xs = ns.map numB ∧ ∀ n ∈ ns,0 ≤ n ∧ n ≤ 999999
 | [],ns,_,h=>by obtain rfl:=Option.some.inj h; simp
 | x :: xs,ns,hx,h=>by
  rw [nms] at h
  split at h
  · rename_i hv
    cases hn:nms xs with
    | none=>rw [hn] at h; simp at h
    | some ms =>
     rw [hn] at h
     obtain rfl:=Option.some.inj h
     have:=nms_some (fun y hy=>hx y (by simp [hy])) hn
     have h1:=nmv_is (hx x (by simp)) hv
     exact ⟨by rw [List.map_cons,← this.1,← h1.1],fun n hn=>by
      rcases List.mem_cons.1 hn with rfl | hn
      · exact h1.2
      · exact this.2 n hn⟩
  · simp at h
theorem nms_num:∀ {ns:List Int},(∀ n ∈ ns,0 ≤ n ∧ n ≤ 999999) → nms (ns.map numB) = some ns
 | [],_=>rfl
 | n :: ns,h=>by
  rw [List.map_cons,nms,nmv_num (h n (by simp)),nms_num fun m hm=>h m (by simp [hm])]
  rfl
end Go.Proofs.YthkaklkinepfkaaGreatDoor
