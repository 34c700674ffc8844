/- PlannedBP: plain lem.. -/
import Derived.Test.YtpcmapfabndggaaGreatDoorPlannedBP4
set_option linter.unusedSimpArgs false
set_option linter.unusedVariables false
namespace Go.Proofs.YtpcmapfabndggaaGreatDoor
open Go
open Enc (rd ow)
open Arg (argv)
open Ret (retv)
open Wf (wf)
def shf (n:Int) (t:Spot):Spot:=⟨t.fJ+n,t.fX,t.fY,t.fZ⟩
structure Acc (r:Request) (C:List Carton) (S:List Spot) (n:Int):Prop where
 len:S.length=C.length
 ins:∀ q∈C.zip S,(0≤q.2.fJ∧q.2.fJ<n)∧(0≤q.2.fX∧q.2.fX+(Qs5 r q.1).fW≤r.fJ.fW)∧(0≤q.2.fY∧q.2.fY+(Qs5 r q.1).fD≤r.fJ.fD)∧(0≤q.2.fZ∧q.2.fZ+(Qs5 r q.1).fH≤r.fJ.fH)
 apr:(C.zip S).Pairwise λa c=>Apt (Qs5 r a.1) a.2 (Qs5 r c.1) c.2
 occ:∀ k,0≤k→k<n→∃ q∈C.zip S,q.2.fJ=k
 grp:∀ a∈C.zip S,∀ c∈C.zip S,a.2.fJ=c.2.fJ→a.1.fM=c.1.fM
 grm:∀ k,Qsp (((C.zip S).filter λq=>q.2.fJ==k).map λq=>(Qs5 r q.1).fQ)≤r.fJ.fQ
 nn:0≤n∧n≤C.length
theorem Jgm {r:Request} (hc:Qhg r=0):Acc r [] [] 0:=by
 have hp:Qv8 r.fJ=true:=by
  have:=(Qez hc).1
  unfold Q4n at this
  simp only [Bool.and_eq_true] at this
  simp_all
 have:=Qu5 hp
 exact ⟨rfl,by simp,by simp,λk h0 h1=>by omega,by simp,λk=>by simp; omega,by simp⟩
theorem Jdl {r:Request} (hc:Qhg r=0) {C:List Carton} {S:List Spot} {n:Int} (A:Acc r C S n) {k:Int} (hk:0≤k∧k<(Qhv r).length):Acc r (C++Q1w r k) (S++(spM r.fJ (Qxx r k)).map (shf n)) (n+Qzp (spM r.fJ (Qxx r k))):=by
 have g:=Ji1 (Q46 hc hk)
 have hpal:=Jfq g (by have:=Q6r r k; omega)
 rw [hpal]
 generalize ((ldM r.fJ (lyM r.fJ (shM r.fJ (Qxx r k)))).length:Int)=N at g
 rw [Q2z hk] at g
 generalize hT:spM r.fJ (Qxx r k)=T
 rw [show spM r.fJ ((Q1w r k).map (Qs5 r))=T by rw [← Q2z hk,hT]] at g
 have hD:∀ c∈Q1w r k,c.fM=k:=λc hc=>by
  unfold Q1w at hc
  obtain ⟨l,_,rfl⟩:=List.mem_map.1 hc
  rfl
 generalize Q1w r k=D at g hD
 have hlen:T.length=D.length:=by have:=g.len; simpa using this
 have hN:=g.nn
 rw [List.length_map] at hN
 have hA:=A.nn
 have hz:(C++D).zip (S++T.map (shf n))=C.zip S++(D.zip T).map (Prod.map id (shf n)):=by rw [List.zip_append A.len.symm,List.zip_map_right]
 have hzb:(D.map (Qs5 r)).zip T=(D.zip T).map (Prod.map (Qs5 r) id):=List.zip_map_left ..
 have gi:∀ q∈D.zip T,_:=λq hq=>g.ins (Prod.map (Qs5 r) id q) (by rw [hzb]; exact List.mem_map.2 ⟨q,hq,rfl⟩)
 have ga:=g.apr
 have gg:=g.grm
 have go:=g.occ
 rw [hzb] at ga gg go
 refine ⟨by simp [A.len,hlen],λq hq=>?_,?_,λj j0 j1=>?_,λa ha c hc' e=>?_,λj=>?_,by simp; omega⟩
 · rw [hz] at hq
   rcases List.mem_append.1 hq with hq | hq
   · obtain ⟨h1,h2⟩:=A.ins q hq
     exact ⟨by omega,h2⟩
   · obtain ⟨a,ha,rfl⟩:=List.mem_map.1 hq
     obtain ⟨h1,h2⟩:=gi a ha
     exact ⟨by simp only [Prod.map,shf,id] at h1 ⊢; omega,h2⟩
 · rw [hz]
   refine List.pairwise_append.2 ⟨A.apr,List.pairwise_map.2 ((List.pairwise_map.1 ga).imp fun {a c} h=>?_),λa ha c hc'=>?_⟩
   · simp only [Apt,Prod.map,shf,id] at h ⊢
     omega
   · obtain ⟨d,hd,rfl⟩:=List.mem_map.1 hc'
     have h1:=(A.ins a ha).1
     have h2:=(gi d hd).1
     refine .inl ?_
     simp only [Prod.map,shf,id] at h2 ⊢
     omega
 · rw [hz]
   by_cases h:j<n
   · obtain ⟨q,hq,e⟩:=A.occ j j0 h
     exact ⟨q,List.mem_append_left _ hq,e⟩
   · obtain ⟨q,hq,e⟩:=go (j - n) (by omega) (by omega)
     obtain ⟨d,hd,rfl⟩:=List.mem_map.1 hq
     refine ⟨_,List.mem_append_right _ (List.mem_map.2 ⟨d,hd,rfl⟩),?_⟩
     simp only [Prod.map,shf,id] at e ⊢
     omega
 · rw [hz] at ha hc'
   rcases List.mem_append.1 ha with ha | ha <;> rcases List.mem_append.1 hc' with hc' | hc'
   · exact A.grp a ha c hc' e
   · obtain ⟨d,hd,rfl⟩:=List.mem_map.1 hc'
     have h1:=(A.ins a ha).1
     have h2:=(gi d hd).1
     simp only [Prod.map,shf,id] at e h2
     omega
   · obtain ⟨d,hd,rfl⟩:=List.mem_map.1 ha
     have h1:=(A.ins c hc').1
     have h2:=(gi d hd).1
     simp only [Prod.map,shf,id] at e h2
     omega
   · obtain ⟨d,hd,rfl⟩:=List.mem_map.1 ha
     obtain ⟨d',hd',rfl⟩:=List.mem_map.1 hc'
     simp only [Prod.map,id,hD _ (List.of_mem_zip hd).1,hD _ (List.of_mem_zip hd').1]
 · rw [hz,List.filter_append,List.map_append,Qof]
   have hp:(0:Int)≤r.fJ.fQ:=by have:=(Qu5 (Qyf (Q46 hc hk))).2.2.2; omega
   by_cases h:j<n
   · have e:((D.zip T).map (Prod.map id (shf n))).filter (λq=>q.2.fJ==j)=[]:=List.filter_eq_nil_iff.2 λq hq=>by
       obtain ⟨d,hd,rfl⟩:=List.mem_map.1 hq
       have h2:=(gi d hd).1
       simp only [Prod.map,shf,id,beq_iff_eq] at h2 ⊢
       omega
     rw [e]
     have:=A.grm j
     simpa using this
   · have e:(C.zip S).filter (λq=>q.2.fJ==j)=[]:=List.filter_eq_nil_iff.2 λq hq=>by
       have h2:=(A.ins q hq).1
       simp only [beq_iff_eq]
       omega
     have h3:=gg (j - n)
     rw [List.filter_map,List.map_map] at h3
     rw [e,List.filter_map,List.map_map,List.map_nil,Quy,Int.zero_add]
     have e2:((λq:Carton×Spot=>q.2.fJ==j) ∘ Prod.map id (shf n))=((λq:Box×Spot=>q.2.fJ==j - n) ∘ Prod.map (Qs5 r) id):=by
      funext q
      simp only [Function.comp,Prod.map,shf,id]
      rw [Bool.eq_iff_iff,beq_iff_eq,beq_iff_eq]
      omega
     rw [e2]
     exact h3
theorem Jad {r:Request} (hc:Qhg r=0):∀ (ks:List Int) (C:List Carton) (s:List Spot×Int),(∀ k∈ks,0≤k∧k<(Qhv r).length)→Acc r C s.1 s.2→Acc r (C++Qzm r ks) (ks.foldl (plS r) s).1 (ks.foldl (plS r) s).2
 | [],C,s,_,A=>by simpa [Qzm] using A
 | k::ks,C,s,h,A=>by
  rw [List.foldl_cons,Qzm,← List.append_assoc]
  exact Jad hc ks _ _ (λj hj=>h j (by simp [hj])) (Jdl hc A (h k (by simp)))
theorem Jfh {r:Request} (hc:Qhg r=0):∃ n,Acc r (Q1f r).1.fV (Q1f r).1.fF n:=by
 unfold Q1f
 rw [show (Qhg r==0)=true by simp [hc],cond_true]
 exact ⟨_,Jad hc (Qf5 0 (Qhv r).length) [] ([],0) (λk hk=>by have:=Qc5.1 hk; omega) (Jgm hc)⟩
theorem Jbo:∀ (l pre:List Int),(pre++l).Pairwise (·<·)→(∀ x∈l,0≤x∧x≤999)→Q88 pre l=true
 | [],_,_,_=>rfl
 | x::l,pre,hp,hb=>by
  unfold Q88
  rw [Bool.and_eq_true,Bool.and_eq_true,Qcu]
  refine ⟨hb x (by simp),?_,Jbo l (pre++[x]) (by simpa using hp) λy hy=>hb y (by simp [hy])⟩
  cases he:pre.getLast? with
  | none=>rfl
  | some y =>
   have hy:=List.mem_of_getLast? he
   have:=(List.pairwise_append.1 hp).2.2 y hy x (by simp)
   simpa using this
theorem Jf8 {l:List Int} (h:l.Nodup):(Q80 l).Pairwise (·<·):=by
 have h1:=Qq7 l
 have h2:(Q80 l).Nodup:=(Qtp l).nodup_iff.2 h
 exact (List.Pairwise.and h1 h2).imp λh=>by have:=h.1; have:=h.2; omega
theorem Jda {r:Request} {k:Int} {l:List Int} (hl:l∈pwM r (Qv6 r k)):l.Nodup:=by
 have h:=Q9z r (Qv6 r k)
 rw [Q6h] at h
 have:=h.nodup_iff.2 (Q47 r k)
 exact (List.pairwise_flatten.1 this).1 l hl
theorem Jdp {r:Request} {a b:List Int} (h:a.Perm b):Qwy r a=Qwy r b:=by
 unfold Qwy
 have e:chp r a=chp r b:=by
  funext s t
  unfold chp
  rw [Q7d h]
 rw [e]
theorem Jgd {r:Request} (hc:Qhg r=0):(Q1f r).1.fV=Qvs r:=by
 unfold Q1f
 rw [show (Qhg r==0)=true by simp [hc],cond_true]
theorem Q5w {r:Request} {c:Carton} (h:c∈Qvs r):Q83 c=true∧chB r c=true∧cgB r c=true∧ccB r c=true∧c.fO≠[]:=by
 have hgc:=Jh5 h
 obtain ⟨k,hk,l,hl,rfl⟩:=Qxl.1 h
 have hk':=Qc5.1 hk
 have hq:=Jik l hl
 obtain ⟨hc,h2,h3,h4,h5⟩:=Q98 hq
 have hz:=Qez hc
 have ht:=Qw1 hz.1 _ h3
 simp only [Q2w,Bool.and_eq_true,Qcu] at ht
 have hg4:=(Qt5 r).1
 have hp:=Qtp l
 have hun:=Qv1 r
 obtain ⟨g1,g2,g3⟩:=hgc
 refine ⟨?_,?_,?_,?_,g1.1⟩
 · unfold Q83 Jf2
   simp only [Bool.and_eq_true,Qcu,decide_eq_true_eq]
   refine ⟨by simp only [Q6w]; omega,by simp only [Q6w]; omega,Jbo _ _ (Jf8 (Jda hl)) λx hx=>?_,?_⟩
   · have:=(Qvj (g3 x hx)).1
     omega
   · have:=Qxd h
     omega
 · unfold chB
   show (match Qty r (Qwy r l).1.qQ with | some t=>Qzj r (Q80 l) t | none=>false)=true
   rw [h5]
   simp only [Q7d hp,h4]
 · unfold cgB
   refine List.all_eq_true.2 λu hu=>?_
   obtain ⟨_,g,hg,hag⟩:=Qvj (g3 u hu)
   have e:=Jel (Qal hg).2.2 hag
   have:=(Qal hg).1
   unfold Jdy at e
   rw [e,beq_iff_eq]
   omega
 · unfold ccB
   show ((Qwy r (Q80 l)).2&&(Qwy r (Q80 l)).1.qQ==(Qwy r l).1.qQ)=true
   rw [Jdp hp,h2]; simp
theorem Jio {x:Plan} (el:x.fF.length=x.fV.length) (k:Int) (f:Carton→Int):(onM x k).map (λi=>f (Q21 x i))=((cs x).filter λq=>q.2.fJ==k).map λq=>f q.1:=by
 have key:∀ (C:List Carton) (S:List Spot) (pre:List Carton),x.fV=pre++C→S.length=C.length→(onL k pre.length S).map (λi=>f (Q21 x i))=((C.zip S).filter λq=>q.2.fJ==k).map λq=>f q.1:=by
  intro C
  induction C with
  | nil=>intro S pre _ h; rw [show S=[] from List.eq_nil_of_length_eq_zero (by simpa using h)]; rfl
  | cons c C ih =>
   intro S pre he h
   match S,h with
   | s::S,h =>
    have h1:=ih S (pre++[c]) (by simp [he]) (by simpa using h)
    have e3:(((pre++[c]).length:Nat):Int)=(pre.length:Int)+1:=by simp
    rw [e3] at h1
    have h2:Q21 x (pre.length:Int)=c:=by unfold Q21; rw [Qi4,he]; simp
    rw [List.zip_cons_cons,List.filter_cons]
    unfold onL
    cases s.fJ==k
    · simpa using h1
    · simp [h1,h2]
 unfold onM cs
 rw [show (x.fF.length==x.fV.length)=true by simp [el],cond_true]
 exact key x.fV x.fF [] rfl el
theorem Jfd {r:Request} (hc:Qhg r=0) {c:Carton} (h:c∈Qvs r):(1≤(Qs5 r c).fW∧1≤(Qs5 r c).fD∧1≤(Qs5 r c).fH)∧(Qs5 r c).fQ=Q8w r c:=by
 obtain ⟨k,hk,l,hl,rfl⟩:=Qxl.1 h
 have hb:=(Q91 (Jik l hl) k).2
 obtain ⟨_,h2,h3,h4,h5⟩:=Q98 (Jik l hl)
 simp only [Jco,Bool.and_eq_true,Qcu] at hb
 refine ⟨⟨hb.1.1,hb.2.1.1,hb.2.2.1.1⟩,?_⟩
 unfold Qs5 Q8w Q6w
 simp only [h5,show (Qhg r==0)=true by simp [hc],cond_true]
theorem Jf0 {r:Request} (hc:Qhg r=0):FeaI r (Q1f r).1:=by
 obtain ⟨n,A⟩:=Jfh hc
 obtain ⟨l1,l2,l3⟩:=Q9w r
 have hcar:=Jgd hc
 have hp:Qv8 r.fJ=true:=by
  have:=(Qez hc).1
  unfold Q4n at this
  simp only [Bool.and_eq_true] at this
  simp_all
 obtain ⟨p1,p2,p3,p4⟩:=Qu5 hp
 have hn:=A.nn
 generalize Q1f r=X at *
 obtain ⟨x,b⟩:=X
 simp only at *
 have hpal:Qzp x.fF=n:=by
  refine Jeb ⟨hn.1,by omega⟩ (λs hs=>?_) λk k0 k1=>?_
  · obtain ⟨q,hq,rfl⟩:=Jce l1 hs
    exact (A.ins q hq).1
  · obtain ⟨q,hq,e⟩:=A.occ k k0 k1
    exact ⟨q.2,(List.of_mem_zip hq).2,e⟩
 have hcm:∀ q∈cs x,q.1∈Qvs r:=λq hq=>by rw [← hcar]; exact (List.of_mem_zip hq).1
 have hbd:∀ q∈cs x,((0≤q.2.fJ∧q.2.fJ<2000)∧(0≤q.2.fX∧q.2.fX+(Qs5 r q.1).fW≤r.fJ.fW)∧(0≤q.2.fY∧q.2.fY+(Qs5 r q.1).fD≤r.fJ.fD)∧(0≤q.2.fZ∧q.2.fZ+(Qs5 r q.1).fH≤r.fJ.fH))∧(1≤(Qs5 r q.1).fW∧1≤(Qs5 r q.1).fD∧1≤(Qs5 r q.1).fH):=λq hq=>by
  obtain ⟨h1,h2⟩:=A.ins q hq
  exact ⟨⟨by omega,h2⟩,(Jfd hc (hcm q hq)).1⟩
 refine ⟨hc,?_,?_,?_,?_,?_,?_,?_,?_,?_⟩
 · unfold Q41
   rw [Bool.and_eq_true,Bool.and_eq_true,beq_iff_eq,decide_eq_true_eq]
   refine ⟨l1,by omega,List.all_eq_true.2 λq hq=>?_⟩
   rw [Bool.and_eq_true]
   refine ⟨(Q5w (hcm q hq)).1,?_⟩
   obtain ⟨h1,h2⟩:=hbd q hq
   unfold Jem
   simp only [Bool.and_eq_true,Qcu]
   omega
 · unfold Jie
   rw [hcar]
   refine List.any_eq_false.2 λc hc'=>?_
   have:=(Q5w hc').2.2.2.2
   have:=List.length_pos_iff.2 this
   simp only [beq_iff_eq]
   omega
 · rw [Q7z,hcar]
   exact (Q5b r _).trans (Jfz r)
 · rw [hcar]; exact List.all_eq_true.2 λc h=>(Q5w h).2.1
 · rw [hcar]; exact List.all_eq_true.2 λc h=>(Q5w h).2.2.1
 · rw [hcar]; exact List.all_eq_true.2 λc h=>(Q5w h).2.2.2.1
 · refine List.all_eq_true.2 λq hq=>?_
   obtain ⟨h1,h2⟩:=hbd q hq
   unfold Jg7 Jh8 Jct
   simp only [Bool.and_eq_true,Qcu,decide_eq_true_eq]
   rw [Qbe (by omega) (by omega),Qbe (by omega) (by omega),Qbe (by omega) (by omega)]
   omega
 · refine Q93 _ _ ?_
   rw [List.nil_append]
   refine A.apr.imp_of_mem fun {a c} ha hc' hs=>?_
   obtain ⟨h1,h2⟩:=hbd a ha
   obtain ⟨k1,k2⟩:=hbd c hc'
   rw [← Bool.not_eq_true]
   intro ho
   unfold ovP Jis Jfe Jct at ho
   simp only [Bool.and_eq_true,Qcu,decide_eq_true_eq,beq_iff_eq] at ho
   obtain ⟨_,_,o3,⟨o4,o5⟩,⟨o6,o7⟩,o8,o9⟩:=ho
   rw [Qbe (by omega) (by omega)] at o4 o5 o6 o7 o8 o9
   unfold Apt at hs
   omega
 · rw [hpal]
   refine List.all_eq_true.2 λk hk=>?_
   have hk:=Qc5.1 hk
   have hon:=Jio l1 k
   have hne:onM x k≠[]:=λe=>by
    obtain ⟨q,hq,e1⟩:=A.occ k (by omega) (by omega)
    have h1:=hon λ_=>0
    rw [e] at h1
    have h2:q∈(cs x).filter λq=>q.2.fJ==k:=List.mem_filter.2 ⟨hq,by simp [e1]⟩
    have h3:=List.map_eq_nil_iff.1 h1.symm
    rw [h3] at h2
    simp at h2
   have hpos:=List.length_pos_iff.2 hne
   have h0:(((onM x k).length:Int)==0)=false:=by simp; exact hne
   obtain ⟨i0,c0,e1,e2,rest,e3⟩:=Jae h0
   unfold plB
   rw [h0,Bool.not_false,Bool.true_and,Bool.and_eq_true]
   constructor
   · have e:pgM r x k=Qsp (((cs x).filter λq=>q.2.fJ==k).map λq=>(Qs5 r q.1).fQ):=by
       unfold pgM
       rw [hon]
       congr 1
       exact List.map_congr_left λq hq=>((Jfd hc (hcm q ((List.mem_filter.1 hq).1))).2).symm
     have:=A.grm k
     rw [e]
     simp only [Bool.not_eq_true',decide_eq_false_iff_not]
     exact Int.not_lt.2 this
   · have hall:∀ i∈onM x k,∃ q∈cs x,q.2.fJ=k∧q.1=Q21 x i:=λi hi=>by
       obtain ⟨c,s,h1,h2,h3⟩:=Q3s hi
       exact ⟨(c,s),List.mem_iff_getElem?.2 ⟨i.toNat,List.getElem?_zip_eq_some.2 ⟨(Qal h1).2.2,(Qal h2).2.2⟩⟩,h3,by unfold Q21; rw [h1]; rfl⟩
     refine List.all_eq_true.2 λi hi=>?_
     obtain ⟨q,hq,q1,q2⟩:=hall i hi
     rw [e1]
     obtain ⟨q',hq',q1',q2'⟩:=hall i0 (by rw [e3]; simp)
     rw [Option.getD_some,← q2,← q2',beq_iff_eq]
     exact A.grp q hq q' hq' (by rw [q1,q1'])
def inB (n lo hi:Int):Bool:=decide (lo≤n∧n≤hi)
theorem Q6u {n lo hi:Int}:inB n lo hi=true↔lo≤n∧n≤hi:=by simp [inB]
theorem Jgr (fu:Nat) (n lo hi:Int):Qa1 fu n lo hi=some (inB n lo hi):=by
 unfold Qa1 inB
 by_cases h:n≥lo
 · rw [Qbj (by simpa using h)]
   have:lo≤n:=h
   simp [this]
 · rw [Qau (by simpa using h)]
   have:¬ lo≤n:=h
   simp [this]
theorem Jc1 (fu:Nat) (n lo hi:Int):Qbk fu n lo hi=some (inB n lo hi):=Jgr fu n lo hi
def Qus (p:Pallet):Bool:=inB p.fW 1 2000&&(inB p.fD 1 2000&&(inB p.fH 1 2000&&inB p.fQ 1 100000))
def Jg3 (p:Pallet) (b:Box):Bool:=inB b.fW 1 p.fW&&(inB b.fD 1 p.fD&&(inB b.fH 1 p.fH&&inB b.fQ 1 p.fQ))
def Q67 (p:Pallet) (l:List Box):Bool:=Qus p&&l.all (Jg3 p)
theorem Qtr (fu:Nat) (p:Pallet):Qe9 fu p=some (Qus p):=by
 unfold Qe9 Qc3 Qus
 simp only [Jc1,Qab]
 cases inB p.fW 1 2000 <;> cases inB p.fD 1 2000 <;> cases inB p.fH 1 2000 <;> rfl
theorem Q52 (fu:Nat) (b:Box) (p:Pallet):Qm3 fu b p=some (!Jg3 p b):=by
 unfold Qm3 Jg3
 simp only [Jc1,Qab]
 cases inB b.fW 1 p.fW <;> cases inB b.fD 1 p.fD <;> cases inB b.fH 1 p.fH <;> rfl
theorem Q1u (fu:Nat) (l:List Box) (f:Box→Option Bool) (g:Box→Bool) (hg:∀ b,f b=some (g b)) (h:l.length≤1048576) (hf:l.length<fu) :
    Qb3 fu l f=some (l.any g):=by
 unfold Qb3 Qdm
 have key:∀ (m i n:Nat),l.length - i=m→i≤l.length→m<n→∃ r,Qa4 fu l f n i=some r∧decide (r≥0)=(l.drop i).any g:=by
  intro m
  induction m with
  | zero =>
   intro i n hm hi hn
   obtain ⟨n,rfl⟩:∃ k,n=k+1:=⟨n - 1,by omega⟩
   rw [Qa4.eq_2]
   unfold Qcv
   rw [Qau (by simp; omega),List.drop_eq_nil_of_le (by omega)]
   exact ⟨_,rfl,rfl⟩
  | succ m ih =>
   intro i n hm hi hn
   obtain ⟨n,rfl⟩:∃ k,n=k+1:=⟨n - 1,by omega⟩
   have hlt:i<l.length:=by omega
   rw [Qa4.eq_2]
   unfold Qcv
   rw [Qbj (by simpa using hlt),Jg1 (Jck (List.getElem?_eq_getElem hlt)),hg,Qab,List.drop_eq_getElem_cons hlt,List.any_cons]
   cases hgx:g l[i]
   · rw [Qau rfl,Qbe (by omega) (by omega),Bool.false_or]
     have:=ih (i+1) n (by omega) (by omega) (by omega)
     simpa using this
   · rw [Qbj rfl]
     exact ⟨_,rfl,by simp⟩
 obtain ⟨r,h1,h2⟩:=key l.length 0 fu (by omega) (by omega) hf
 have h1':Qa4 fu l f fu 0=some r:=h1
 rw [h1',Qab,h2]
 rfl
theorem Qwg (fu:Nat) (p:Pallet) (l:List Box) (h:l.length≤1048576) (hf:l.length<fu):Qne fu p l=some (Q67 p l):=by
 unfold Qne Q67
 rw [Qtr,Qab]
 cases Qus p
 · rfl
 rw [Qbj rfl,Q1u fu l _ (λb=>!Jg3 p b) (λb=>Q52 fu b p) h hf,Qab,Bool.true_and]
 congr 1
 induction l with
 | nil=>rfl
 | cons x xs ih =>
  simp only [List.any_cons,List.all_cons,Bool.not_or,Bool.not_not]
  rw [ih (by simp at h; omega) (by simp at hf; omega)]
theorem Je2 (p:Pallet) (l:List Box):Q67 p l=Qzt p l:=by
 have e:∀ a b c:Int,inB a b c=inb a b c:=λa b c=>Bool.eq_iff_iff.2 (by rw [Q6u,Qcu])
 have e2:Jg3 p=Jco p:=by funext b; unfold Jg3 Jco; simp only [e]
 unfold Q67 Qzt Qus Qv8
 simp only [e,e2]
theorem Jf5 (a b:Int):(if b>a then b else a)=mxI a b:=by unfold mxI; split <;> split <;> omega
theorem Q27 {α:Type} (l:List α) (j:Nat) (a:α):Qhe l (j:Int) a=l.set j a:=by simp [Qhe]
theorem Jer {fu:Nat} {k8:List Shelf→Int→Option (List Shelf)} {x i:Int} {b:Box} {o:List Shelf} {j:Nat} {s:Shelf} (hs:o[j]? = some s) (hl:s.f9.length≤1000000)
    (h1:-1000000000≤s.fW+b.fW∧s.fW+b.fW≤1000000000) (h2:-1000000000≤s.fQ+b.fQ∧s.fQ+b.fQ≤1000000000):Qdz fu k8 x i b o (j:Int)=k8 (o.set j (Qq3 s i b)) (w64 (x+1)):=by
 unfold Qdz Qpn
 rw [Qi4,hs,Qab,ap1 (by simp; omega),Qab]
 simp only [Qab,Q27,List.set_set,Jf5]
 rw [Qbe (n:=s.fW+b.fW) (by omega) (by omega),Qbe (n:=s.fQ+b.fQ) (by omega) (by omega)]
 rfl
theorem Q9p {fu:Nat} (hfu:2097153≤fu) (p:Pallet) (l:List Box) (hl:l.length<20):Qqf fu p l=some (shM p l):=by
 unfold Qqf shM
 rw [Qwg fu p l (by omega) (by omega),Qab,Je2]
 cases hb:Qzt p l
 · rfl
 · rw [Bool.not_true,cond_false,cond_true]
   have key:=lpI l (λn (o:List Int) i=>Qg2 fu p l n o i) (λxs o=>Qac (Qho fu (o++xs.map (·.fD))) λx=>Qb9 fu p l x fu [] 0) (λxs o=>o.length+xs.length≤1000) (by omega) ?_ ?_ fu [] (by simp; omega) (by omega)
   · rw [key,List.nil_append,Jet hfu (by simp; omega),Qab,List.length_map]
     have hsl:=Qt6 (dnk (l.map (·.fD))) l.length
     have hsm:=λx=>Qyj (k:=dnk (l.map (·.fD))) (n:=l.length) (x:=x)
     generalize srt (dnk (l.map (·.fD))) l.length=S at hsl hsm ⊢
     refine lpI S (λn (o:List Shelf) i=>Qb9 fu p l S n o i) (λxs o=>some (xs.foldl (shS p l) o)) (λxs o=>(∀ i∈xs,0≤i∧i<l.length)∧(∀ s∈o,ShI p l.length s)∧((o.map (·.f9)).flatten).length+xs.length≤1000∧o.length+xs.length≤1000) (by omega) ?_ ?_ fu [] ⟨λi hi=>(hsm i).1 hi,by simp,by simp; omega,by simp; omega⟩ (by omega)
     · intro n o i x xs hx hd hI ih
       obtain ⟨i1,i2,i3,i4⟩:=hI
       simp only [List.length_cons] at i3 i4
       have hxi:=i1 x (by simp)
       obtain ⟨hbx,b1,b2,b3,b4⟩:=Qyy hb hxi
       obtain ⟨p1,p2,p3,p4⟩:=Qu5 (Qyf hb)
       have hflat:((shS p l o x).map (·.f9)).flatten=(o.map (·.f9)).flatten++[x]:=Qtd (λs=>rfl) rfl
       have hlen:(shS p l o x).length≤o.length+1:=Quk _ _ _ _
       have ih':=ih (shS p l o x) ⟨λj hj=>i1 j (by simp [hj]),Q6t hb hxi i2,by rw [hflat,List.length_append,List.length_singleton]; omega,by omega⟩
       simp only [Qb9.eq_2]
       unfold Qlz
       rw [hd,cond_true,hx,Qab,hbx,Qab,List.foldl_cons,← ih']
       have hnew:∀ o':List Shelf,o'.length≤1000→Qdz fu (λo i=>Qb9 fu p l S n o i) i x (bxA l x) (o'++[zSh]) ((o'.length:Nat):Int)=Qb9 fu p l S n (o'++[Qq3 zSh x (bxA l x)]) (w64 (i+1)):=λo' ho'=>by
        rw [Jer (s:=zSh) (by simp) (by simp [zSh]) (by simp [zSh]; omega) (by simp [zSh]; omega)]
        simp
       by_cases he:o=[]
       · subst he
         rw [Qbj (by decide),ap1 (by simp),Qab]
         exact hnew [] (by simp)
       · obtain ⟨s,e1,e2⟩:=Qvm he
         have hp:=List.length_pos_iff.2 he
         have hsm':=List.mem_of_getLast? e1
         have hs:=i2 s hsm'
         have hsl':=Qsh (λs:Shelf=>s.f9) o s hsm'
         have eS:shS p l o x=bif Q8k p (bxA l x) s then o.set (o.length - 1) (Qq3 s x (bxA l x)) else o++[Qq3 zSh x (bxA l x)]:=Qv3 e1
         have e3:w64 ((o.length:Int) - 1)=((o.length - 1:Nat):Int):=by rw [Qbe (by omega) (by omega)]; omega
         have e4:w64 (((o.length - 1:Nat):Int)+1)=((o.length:Nat):Int):=by rw [Qbe (by omega) (by omega)]; omega
         have e5:o[o.length - 1]? = some s:=by rw [← List.getLast?_eq_getElem?]; exact e1
         obtain ⟨s1,s2,s3,s4,s5,s6⟩:=hs
         rw [e3,e4,Qau (by simp),Qi4,e5,Qab,Qbe (n:=s.fW+_) (by omega) (by omega),Qbe (n:=s.fQ+_) (by omega) (by omega),ap1 (by simp; omega),Qab,eS]
         unfold Q8k
         have c1:decide (s.fW+(bxA l x).fW>p.fW)=!decide (s.fW+(bxA l x).fW≤p.fW):=by
          by_cases h:s.fW+(bxA l x).fW≤p.fW <;> simp [h] <;> omega
         have c2:decide (s.fQ+(bxA l x).fQ>p.fQ)=!decide (s.fQ+(bxA l x).fQ≤p.fQ):=by
          by_cases h:s.fQ+(bxA l x).fQ≤p.fQ <;> simp [h] <;> omega
         rw [c1,c2,Qab]
         have h1:=hnew o (by omega)
         have h2:Qdz fu (λo i=>Qb9 fu p l S n o i) i x (bxA l x) o ((o.length - 1:Nat):Int)=Qb9 fu p l S n (o.set (o.length - 1) (Qq3 s x (bxA l x))) (w64 (i+1)):=Jer e5 (by omega) (by omega) (by omega)
         cases decide (s.fW+(bxA l x).fW≤p.fW)
         · exact h1
         · cases decide (s.fQ+(bxA l x).fQ≤p.fQ)
           · exact h1
           · exact h2
     · intro n o i hd _
       simp only [Qb9.eq_2]
       unfold Qlz
       rw [hd,cond_false]; rfl
   · intro n o i x xs hx hd hI ih
     simp only [List.length_cons] at hI
     simp only [Qg2.eq_2]
     unfold Ql8
     rw [hd,cond_true,hx,Qab,ap1 (by simp; omega),Qab,ih _ (by simp; omega)]
     simp
   · intro n o i hd _
     simp only [Qg2.eq_2]
     unfold Ql8
     rw [hd,cond_false]; simp
theorem Jes {fu:Nat} {k7:List Layer→Int→Option (List Layer)} {i:Int} {b:Shelf} {o:List Layer} {j:Nat} {s:Layer} (hs:o[j]? = some s) (hl:s.fE.length≤1000000)
    (h1:-1000000000≤s.fD+b.fD∧s.fD+b.fD≤1000000000) (h2:-1000000000≤s.fQ+b.fQ∧s.fQ+b.fQ≤1000000000):Qdl fu k7 i b o (j:Int)=k7 (o.set j (Qsf s i b)) (w64 (i+1)):=by
 unfold Qdl Qnr
 rw [Qi4,hs,Qab,ap1 (by simp; omega),Qab]
 simp only [Qab,Q27,List.set_set,Jf5]
 rw [Qbe (n:=s.fD+b.fD) (by omega) (by omega),Qbe (n:=s.fQ+b.fQ) (by omega) (by omega)]
 rfl
theorem Qy9 (fu:Nat) (l:List Shelf) (f:Shelf→Option Bool) (g:Shelf→Bool) (hg:∀ b,f b=some (g b)) (h:l.length≤1048576) (hf:l.length<fu) :
    Qbr fu l f=some (l.any g):=by
 unfold Qbr Qcy
 have key:∀ (m i n:Nat),l.length - i=m→i≤l.length→m<n→∃ r,Qat fu l f n i=some r∧decide (r≥0)=(l.drop i).any g:=by
  intro m
  induction m with
  | zero =>
   intro i n hm hi hn
   obtain ⟨n,rfl⟩:∃ k,n=k+1:=⟨n - 1,by omega⟩
   rw [Qat.eq_2]
   unfold Qcd
   rw [Qau (by simp; omega),List.drop_eq_nil_of_le (by omega)]
   exact ⟨_,rfl,rfl⟩
  | succ m ih =>
   intro i n hm hi hn
   obtain ⟨n,rfl⟩:∃ k,n=k+1:=⟨n - 1,by omega⟩
   have hlt:i<l.length:=by omega
   rw [Qat.eq_2]
   unfold Qcd
   rw [Qbj (by simpa using hlt),Jg1 (Jck (List.getElem?_eq_getElem hlt)),hg,Qab,List.drop_eq_getElem_cons hlt,List.any_cons]
   cases hgx:g l[i]
   · rw [Qau rfl,Qbe (by omega) (by omega),Bool.false_or]
     have:=ih (i+1) n (by omega) (by omega) (by omega)
     simpa using this
   · rw [Qbj rfl]
     exact ⟨_,rfl,by simp⟩
 obtain ⟨r,h1,h2⟩:=key l.length 0 fu (by omega) (by omega) hf
 have h1':Qat fu l f fu 0=some r:=h1
 rw [h1',Qab,h2]
 rfl
theorem Jk6 {fu:Nat} (p:Pallet) (l:List Shelf) (hl:l.length≤1048576) (hf:l.length<fu):Qmw fu p l=some (Qv8 p&&l.all λs=>okL p s.fD s.fH s.fQ):=by
 unfold Qmw
 have e:∀ a b c:Int,inB a b c=inb a b c:=λa b c=>Bool.eq_iff_iff.2 (by rw [Q6u,Qcu])
 have ep:Qus p=Qv8 p:=by unfold Qus Qv8; simp only [e]
 rw [Qtr,Qab,ep,Qy9 fu l _ (λs=>!okL p s.fD s.fH s.fQ) (λs=>by
  unfold Qno okL
  simp only [Jc1,Qab,e]
  cases inb s.fD 1 p.fD <;> cases inb s.fH 1 p.fH <;> rfl) hl hf,Qab]
 cases Qv8 p
 · rfl
 · rw [cond_true,Bool.true_and]
   congr 1
   rw [Bool.eq_iff_iff]
   simp
theorem Jc5 {fu:Nat} (hfu:2097153≤fu) {p:Pallet} (hp:Qv8 p=true) {l:List Shelf} (hb:OkS p l) (hl:l.length≤1000):Qog fu p l=some (lyM p l):=by
 unfold Qog lyM
 rw [Jk6 p l (by omega) (by omega),hp,Jij hb,Qab,Bool.and_self,Bool.not_true,cond_false]
 obtain ⟨p1,p2,p3,p4⟩:=Qu5 hp
 refine Q8j (l.length:Int) (λn (o:List Layer) i=>Qb8 fu p l n o i) (λxs o=>some (xs.foldl (lyS p l) o)) (λxs o=>(∀ s∈o,LyI p l.length s)∧((o.map (·.fE)).flatten).length+xs.length≤1000∧o.length+xs.length≤1000) (by omega) ?_ ?_ l.length fu [] 0 (by omega) (by omega) (by omega) ⟨by simp,by simp [Qcs]; omega,by simp [Qcs]; omega⟩
 · intro n o i xs x0 x1 hd hI ih
   obtain ⟨i2,i3,i4⟩:=hI
   simp only [List.length_cons] at i3 i4
   obtain ⟨hbx,b1,b2,b3,_⟩:=Q4x hb ⟨x0,x1⟩
   have hflat:((lyS p l o i).map (·.fE)).flatten=(o.map (·.fE)).flatten++[i]:=Qtd (λs=>rfl) rfl
   have hlen:(lyS p l o i).length≤o.length+1:=Quk _ _ _ _
   have ih':=ih (lyS p l o i) ⟨Q51 hb ⟨x0,x1⟩ i2,by rw [hflat,List.length_append,List.length_singleton]; omega,by omega⟩
   simp only [Qb8.eq_2]
   unfold Qjr
   rw [hd,cond_true,hbx,Qab,List.foldl_cons,← ih']
   have hnew:∀ o':List Layer,o'.length≤1000→Qdl fu (λo i=>Qb8 fu p l n o i) i (shA l i) (o'++[zLy]) ((o'.length:Nat):Int)=Qb8 fu p l n (o'++[Qsf zLy i (shA l i)]) (w64 (i+1)):=λo' ho'=>by
    rw [Jes (s:=zLy) (by simp) (by simp [zLy]) (by simp [zLy]; omega) (by simp [zLy]; omega)]
    simp
   by_cases he:o=[]
   · subst he
     rw [Qbj (by decide),ap1 (by simp),Qab]
     exact hnew [] (by simp)
   · obtain ⟨s,e1,e2⟩:=Qvm he
     have hp:=List.length_pos_iff.2 he
     have hsm':=List.mem_of_getLast? e1
     have hs:=i2 s hsm'
     have hsl':=Qsh (λs:Layer=>s.fE) o s hsm'
     have eS:lyS p l o i=bif Q8q p (shA l i) s then o.set (o.length - 1) (Qsf s i (shA l i)) else o++[Qsf zLy i (shA l i)]:=Qv3 e1
     have e3:w64 ((o.length:Int) - 1)=((o.length - 1:Nat):Int):=by rw [Qbe (by omega) (by omega)]; omega
     have e4:w64 (((o.length - 1:Nat):Int)+1)=((o.length:Nat):Int):=by rw [Qbe (by omega) (by omega)]; omega
     have e5:o[o.length - 1]? = some s:=by rw [← List.getLast?_eq_getElem?]; exact e1
     obtain ⟨s1,s2,s4,s5,s6⟩:=hs
     rw [e3,e4,Qau (by simp),Qi4,e5,Qab,Qbe (n:=s.fD+_) (by omega) (by omega),Qbe (n:=s.fQ+_) (by omega) (by omega),ap1 (by simp; omega),Qab,eS]
     unfold Q8q
     have c1:decide (s.fD+(shA l i).fD>p.fD)=!decide (s.fD+(shA l i).fD≤p.fD):=by
      by_cases h:s.fD+(shA l i).fD≤p.fD <;> simp [h] <;> omega
     have c2:decide (s.fQ+(shA l i).fQ>p.fQ)=!decide (s.fQ+(shA l i).fQ≤p.fQ):=by
      by_cases h:s.fQ+(shA l i).fQ≤p.fQ <;> simp [h] <;> omega
     rw [c1,c2,Qab]
     have h1:=hnew o (by omega)
     have h2:Qdl fu (λo i=>Qb8 fu p l n o i) i (shA l i) o ((o.length - 1:Nat):Int)=Qb8 fu p l n (o.set (o.length - 1) (Qsf s i (shA l i))) (w64 (i+1)):=Jes e5 (by omega) (by omega) (by omega)
     cases decide (s.fD+(shA l i).fD≤p.fD)
     · exact h1
     · cases decide (s.fQ+(shA l i).fQ≤p.fQ)
       · exact h1
       · exact h2
 · intro n o i hd _
   simp only [Qb8.eq_2]
   unfold Qjr
   rw [hd,cond_false]; rfl
theorem Jew {fu:Nat} {k7:List Load→Int→Option (List Load)} {i:Int} {b:Layer} {o:List Load} {j:Nat} {s:Load} (hs:o[j]? = some s) (hl:s.f8.length≤1000000)
    (h1:-1000000000≤s.fH+b.fH∧s.fH+b.fH≤1000000000) (h2:-1000000000≤s.fQ+b.fQ∧s.fQ+b.fQ≤1000000000):Qd4 fu k7 i b o (j:Int)=k7 (o.set j (Qtv s i b)) (w64 (i+1)):=by
 unfold Qd4 Qpp
 rw [Qi4,hs,Qab,ap1 (by simp; omega),Qab]
 simp only [Qab,Q27,List.set_set,Jf5]
 rw [Qbe (n:=s.fH+b.fH) (by omega) (by omega),Qbe (n:=s.fQ+b.fQ) (by omega) (by omega)]
 rfl
theorem Qy5 (fu:Nat) (l:List Layer) (f:Layer→Option Bool) (g:Layer→Bool) (hg:∀ b,f b=some (g b)) (h:l.length≤1048576) (hf:l.length<fu) :
    Qbq fu l f=some (l.any g):=by
 unfold Qbq Qcx
 have key:∀ (m i n:Nat),l.length - i=m→i≤l.length→m<n→∃ r,Qas fu l f n i=some r∧decide (r≥0)=(l.drop i).any g:=by
  intro m
  induction m with
  | zero =>
   intro i n hm hi hn
   obtain ⟨n,rfl⟩:∃ k,n=k+1:=⟨n - 1,by omega⟩
   rw [Qas.eq_2]
   unfold Qcb
   rw [Qau (by simp; omega),List.drop_eq_nil_of_le (by omega)]
   exact ⟨_,rfl,rfl⟩
  | succ m ih =>
   intro i n hm hi hn
   obtain ⟨n,rfl⟩:∃ k,n=k+1:=⟨n - 1,by omega⟩
   have hlt:i<l.length:=by omega
   rw [Qas.eq_2]
   unfold Qcb
   rw [Qbj (by simpa using hlt),Jg1 (Jck (List.getElem?_eq_getElem hlt)),hg,Qab,List.drop_eq_getElem_cons hlt,List.any_cons]
   cases hgx:g l[i]
   · rw [Qau rfl,Qbe (by omega) (by omega),Bool.false_or]
     have:=ih (i+1) n (by omega) (by omega) (by omega)
     simpa using this
   · rw [Qbj rfl]
     exact ⟨_,rfl,by simp⟩
 obtain ⟨r,h1,h2⟩:=key l.length 0 fu (by omega) (by omega) hf
 have h1':Qas fu l f fu 0=some r:=h1
 rw [h1',Qab,h2]
 rfl
theorem Jk7 {fu:Nat} (p:Pallet) (l:List Layer) (hl:l.length≤1048576) (hf:l.length<fu):Qoc fu p l=some (Qv8 p&&l.all λs=>okL p s.fD s.fH s.fQ):=by
 unfold Qoc
 have e:∀ a b c:Int,inB a b c=inb a b c:=λa b c=>Bool.eq_iff_iff.2 (by rw [Q6u,Qcu])
 have ep:Qus p=Qv8 p:=by unfold Qus Qv8; simp only [e]
 rw [Qtr,Qab,ep,Qy5 fu l _ (λs=>!okL p s.fD s.fH s.fQ) (λs=>by
  unfold Qo2 okL
  simp only [Jc1,Qab,e]
  cases inb s.fD 1 p.fD <;> cases inb s.fH 1 p.fH <;> rfl) hl hf,Qab]
 cases Qv8 p
 · rfl
 · rw [cond_true,Bool.true_and]
   congr 1
   rw [Bool.eq_iff_iff]
   simp
theorem Jf6 {fu:Nat} (hfu:2097153≤fu) {p:Pallet} (hp:Qv8 p=true) {l:List Layer} (hb:OkY p l) (hl:l.length≤1000):Qp2 fu p l=some (ldM p l):=by
 unfold Qp2 ldM
 rw [Jk7 p l (by omega) (by omega),hp,Jhy hb,Qab,Bool.and_self,Bool.not_true,cond_false]
 obtain ⟨p1,p2,p3,p4⟩:=Qu5 hp
 refine Q8j (l.length:Int) (λn (o:List Load) i=>Qcn fu p l n o i) (λxs o=>some (xs.foldl (ldS p l) o)) (λxs o=>(∀ s∈o,LdI p l.length s)∧((o.map (·.f8)).flatten).length+xs.length≤1000∧o.length+xs.length≤1000) (by omega) ?_ ?_ l.length fu [] 0 (by omega) (by omega) (by omega) ⟨by simp,by simp [Qcs]; omega,by simp [Qcs]; omega⟩
 · intro n o i xs x0 x1 hd hI ih
   obtain ⟨i2,i3,i4⟩:=hI
   simp only [List.length_cons] at i3 i4
   obtain ⟨hbx,b1,b2,b3,_⟩:=Q5v hb ⟨x0,x1⟩
   have hflat:((ldS p l o i).map (·.f8)).flatten=(o.map (·.f8)).flatten++[i]:=Qtd (λs=>rfl) rfl
   have hlen:(ldS p l o i).length≤o.length+1:=Quk _ _ _ _
   have ih':=ih (ldS p l o i) ⟨Q6n hb ⟨x0,x1⟩ i2,by rw [hflat,List.length_append,List.length_singleton]; omega,by omega⟩
   simp only [Qcn.eq_2]
   unfold Qly
   rw [hd,cond_true,hbx,Qab,List.foldl_cons,← ih']
   have hnew:∀ o':List Load,o'.length≤1000→Qd4 fu (λo i=>Qcn fu p l n o i) i (lyA l i) (o'++[zLd]) ((o'.length:Nat):Int)=Qcn fu p l n (o'++[Qtv zLd i (lyA l i)]) (w64 (i+1)):=λo' ho'=>by
    rw [Jew (s:=zLd) (by simp) (by simp [zLd]) (by simp [zLd]; omega) (by simp [zLd]; omega)]
    simp
   by_cases he:o=[]
   · subst he
     rw [Qbj (by decide),ap1 (by simp),Qab]
     exact hnew [] (by simp)
   · obtain ⟨s,e1,e2⟩:=Qvm he
     have hp:=List.length_pos_iff.2 he
     have hsm':=List.mem_of_getLast? e1
     have hs:=i2 s hsm'
     have hsl':=Qsh (λs:Load=>s.f8) o s hsm'
     have eS:ldS p l o i=bif Q82 p (lyA l i) s then o.set (o.length - 1) (Qtv s i (lyA l i)) else o++[Qtv zLd i (lyA l i)]:=Qv3 e1
     have e3:w64 ((o.length:Int) - 1)=((o.length - 1:Nat):Int):=by rw [Qbe (by omega) (by omega)]; omega
     have e4:w64 (((o.length - 1:Nat):Int)+1)=((o.length:Nat):Int):=by rw [Qbe (by omega) (by omega)]; omega
     have e5:o[o.length - 1]? = some s:=by rw [← List.getLast?_eq_getElem?]; exact e1
     obtain ⟨s1,s2,s4,s5⟩:=hs
     rw [e3,e4,Qau (by simp),Qi4,e5,Qab,Qbe (n:=s.fH+_) (by omega) (by omega),Qbe (n:=s.fQ+_) (by omega) (by omega),ap1 (by simp; omega),Qab,eS]
     unfold Q82
     have c1:decide (s.fH+(lyA l i).fH>p.fH)=!decide (s.fH+(lyA l i).fH≤p.fH):=by
      by_cases h:s.fH+(lyA l i).fH≤p.fH <;> simp [h] <;> omega
     have c2:decide (s.fQ+(lyA l i).fQ>p.fQ)=!decide (s.fQ+(lyA l i).fQ≤p.fQ):=by
      by_cases h:s.fQ+(lyA l i).fQ≤p.fQ <;> simp [h] <;> omega
     rw [c1,c2,Qab]
     have h1:=hnew o (by omega)
     have h2:Qd4 fu (λo i=>Qcn fu p l n o i) i (lyA l i) o ((o.length - 1:Nat):Int)=Qcn fu p l n (o.set (o.length - 1) (Qtv s i (lyA l i))) (w64 (i+1)):=Jew e5 (by omega) (by omega) (by omega)
     cases decide (s.fH+(lyA l i).fH≤p.fH)
     · exact h1
     · cases decide (s.fQ+(lyA l i).fQ≤p.fQ)
       · exact h1
       · exact h2
 · intro n o i hd _
   simp only [Qcn.eq_2]
   unfold Qly
   rw [hd,cond_false]; rfl
theorem Jap {fu:Nat} (hfu:2097153≤fu) (p:Pallet) (l:List Box) (hl:l.length<20):Qnb fu p l=some (spM p l):=by
 unfold Qnb spM
 rw [Qwg fu p l (by omega) (by omega),Qab,Je2]
 cases hb:Qzt p l
 · rfl
 · obtain ⟨a1,a2,a3⟩:=Qz4 hb
   have hS:=Q8a hb
   obtain ⟨y1,y2,y3⟩:=Q0v hS
   have hY:=Q61 hS
   obtain ⟨d1,d2,d3⟩:=Q4i hY
   have hpb:=Qyf hb
   obtain ⟨q1,q2,q3,q4⟩:=Qu5 hpb
   rw [Bool.not_true,cond_false,cond_true,Q9p hfu p l hl,Qab,Jc5 hfu hpb hS (by omega),Qab,Ja5 (by omega),Qab,Jf6 hfu hpb hY (by omega),Qab]
   have f1:∀ s∈shM p l,s.f9.length≤1000:=λs hs=>by
    have:=Qsh (λs:Shelf=>s.f9) _ s hs
    rw [a2,Qt6] at this; omega
   have f2:∀ s∈lyM p (shM p l),s.fE.length≤1000:=λs hs=>by
    have:=Qsh (λs:Layer=>s.fE) _ s hs
    rw [y2,Qcs] at this; omega
   have f3:∀ s∈ldM p (lyM p (shM p l)),s.f8.length≤1000:=λs hs=>by
    have:=Qsh (λs:Load=>s.f8) _ s hs
    rw [d2,Qcs] at this; omega
   generalize ldM p (lyM p (shM p l))=ld at d1 d3 f3 ⊢
   generalize lyM p (shM p l)=ly at y1 y3 hY d1 d3 f2 ⊢
   generalize shM p l=sh at a1 a3 hS y1 y3 f1 ⊢
   have L4:=Q8j (ld.length:Int) (λn (out:List Spot) o=>Qbv fu l sh ly ld n out o) (λos out=>some (spO l sh ly ld os out)) (λos out=>out.length=l.length) (by omega) ?_ ?_ ld.length fu (List.replicate l.length zSp) 0 (by omega) (by omega) (by omega) (by simp)
   · exact L4
   · intro n out o os o0 o1 hd hI ih
     obtain ⟨x,hx⟩:=Q3k (l:=ld) o0 o1
     have ex:ldA ld o=x:=by unfold ldA; rw [hx]; rfl
     have hxm:=d1 x (Qf7 hx)
     have hxl:=f3 x (Qf7 hx)
     simp only [Qbv.eq_2]
     unfold Qmg
     rw [hd,cond_true,hx,Qab]
     have L3:=lpI x.f8 (λm (s:List Spot×Int) i=>Qcm fu (Qbv fu l sh ly ld n) l sh ly o x m s.1 s.2 i) (λis s=>Qbv fu l sh ly ld n (spY l sh ly o is s).1 (w64 (o+1))) (λis s=>s.1.length=l.length∧(∀ i∈is,0≤i∧i<ly.length)∧0≤s.2∧s.2+2000*is.length≤2000000) (by omega) ?_ ?_ fu (out,0) ⟨hI,hxm.inn,by simp,by simp; omega⟩ (by omega)
     · refine L3.trans ?_
       rw [ih _ (by rw [Q4k]; exact hI)]
       simp only [spO,List.foldl_cons,ex]
     · intro m ⟨out,z⟩ i j is hj hd hI ih
       obtain ⟨i1,i2,i3,i4⟩:out.length=l.length∧(∀ i∈j::is,0≤i∧i<ly.length)∧0≤z∧z+2000*((j::is).length:Int)≤2000000:=hI
       simp only [List.length_cons] at i4
       obtain ⟨hly,t1,t2,t3,hmem⟩:=Q5v hY (i2 j (by simp))
       have hyi:=y1 _ hmem
       have hyl:=f2 _ hmem
       simp only [Qcm.eq_2]
       unfold Qlm
       rw [hd,cond_true,hj,Qab,hly,Qab]
       have L2:=lpI (lyA ly j).fE (λq (s:List Spot×Int) k=>Qdx fu (Qcm fu (Qbv fu l sh ly ld n) l sh ly o x m) l sh ly o z i j (lyA ly j) q s.1 s.2 k) (λks s=>Qcm fu (Qbv fu l sh ly ld n) l sh ly o x m (spS l sh o z ks s).1 (w64 (z+(lyA ly j).fH)) (w64 (i+1))) (λks s=>s.1.length=l.length∧(∀ i∈ks,0≤i∧i<sh.length)∧0≤s.2∧s.2+2000*ks.length≤2000000) (by omega) ?_ ?_ fu (out,0) ⟨i1,hyi.inn,by simp,by simp; omega⟩ (by omega)
       · refine L2.trans ?_
         rw [Qbe (n:=z+_) (by omega) (by omega)]
         exact ih ((spS l sh o z (lyA ly j).fE (out,0)).1,z+(lyA ly j).fH) ⟨by rw [Q4a]; exact i1,λi hi=>i2 i (by simp [hi]),by simp; omega,by simp; omega⟩
       · intro q ⟨out,y⟩ k b ks hb2 hd hI ih
         obtain ⟨i1,i2,i3,i4⟩:out.length=l.length∧(∀ i∈b::ks,0≤i∧i<sh.length)∧0≤y∧y+2000*((b::ks).length:Int)≤2000000:=hI
         simp only [List.length_cons] at i4
         obtain ⟨hsh,u1,u2,u3,hmem2⟩:=Q4x hS (i2 b (by simp))
         have hsi:=a1 _ hmem2
         have hsl:=f1 _ hmem2
         simp only [Qdx.eq_2]
         unfold Qlb
         rw [hd,cond_true,hb2,Qab,hsh,Qab]
         have L1:=lpI (shA sh b).f9 (λq' (s:List Spot×Int) k'=>Qg5 fu (Qdx fu (Qcm fu (Qbv fu l sh ly ld n) l sh ly o x m) l sh ly o z i j (lyA ly j) q) l sh o z y k b (shA sh b) q' s.1 s.2 k') (λbs s=>Qdx fu (Qcm fu (Qbv fu l sh ly ld n) l sh ly o x m) l sh ly o z i j (lyA ly j) q (spB l o y z bs s).1 (w64 (y+(shA sh b).fD)) (w64 (k+1))) (λbs s=>s.1.length=l.length∧(∀ i∈bs,0≤i∧i<l.length)∧0≤s.2∧s.2+2000*bs.length≤2000000) (by omega) ?_ ?_ fu (out,0) ⟨i1,hsi.inn,by simp,by simp; omega⟩ (by omega)
         · refine L1.trans ?_
           rw [Qbe (n:=y+_) (by omega) (by omega)]
           exact ih ((spB l o y z (shA sh b).f9 (out,0)).1,y+(shA sh b).fD) ⟨by rw [Q26]; exact i1,λi hi=>i2 i (by simp [hi]),by simp; omega,by simp; omega⟩
         · intro q' ⟨out,x'⟩ k' c bs hc hd hI ih
           obtain ⟨i1,i2,i3,i4⟩:out.length=l.length∧(∀ i∈c::bs,0≤i∧i<l.length)∧0≤x'∧x'+2000*((c::bs).length:Int)≤2000000:=hI
           simp only [List.length_cons] at i4
           have hcr:=i2 c (by simp)
           obtain ⟨hbx,v1,v2,v3,v4⟩:=Qyy hb hcr
           obtain ⟨sp,hsp⟩:=Q3k (l:=out) hcr.1 (by omega)
           simp only [Qg5.eq_2]
           unfold Qlj
           rw [hd,cond_true,hc,Qab,hsp,Qab,hbx,Qab,Qbe (n:=x'+_) (by omega) (by omega)]
           exact ih (Qhe out c ⟨o,x',y,z⟩,x'+(bxA l c).fW) ⟨by rw [Qxh]; exact i1,λi hi=>i2 i (by simp [hi]),by simp; omega,by simp; omega⟩
         · intro q' ⟨out,x'⟩ k' hd _
           simp only [Qg5.eq_2]
           unfold Qlj
           rw [hd,cond_false,hsh,Qab]; rfl
       · intro q ⟨out,y⟩ k hd _
         simp only [Qdx.eq_2]
         unfold Qlb
         rw [hd,cond_false,hly,Qab]; rfl
     · intro m ⟨out,z⟩ i hd _
       simp only [Qcm.eq_2]
       unfold Qlm
       rw [hd,cond_false]; rfl
   · intro n out o hd _
     simp only [Qbv.eq_2]
     unfold Qmg
     rw [hd,cond_false]; rfl
theorem Jgj {r:Request} {k:Int} (h:0≤k∧k<(Qhv r).length):(Qxx r k).length≤12:=by
 rw [Q2z h,List.length_map]
 exact Q7h k
theorem Jig {fu:Nat} {r:Request} (h:Sm fu r):Qrk fu r=some (Q1f r):=by
 have hfu:=h.fu
 have hg:=(Qt5 r).1
 have hcl:=Qzr r
 unfold Qrk Q1f
 rw [Qux h,Qab]
 cases hc:Qhg r==0
 · rfl
 · have hz:Qhg r=0:=by simpa using hc
   rw [Bool.not_true,cond_false,cond_true,Jle h,Qab,Jdk h,Qab]
   have L3:=Q8j ((Qhv r).length:Int) (λn (s:List Spot×Int) k=>Qcr fu r (Qvs r) (Qhv r) n s.1 s.2 k) (λks s=>some ((⟨Qvs r,(ks.foldl (plS r) s).1⟩:Plan),true)) (λks s=>(∀ k∈ks,0≤k∧k<(Qhv r).length)∧s.1.length+48*ks.length≤1000∧0≤s.2∧s.2+1000000*ks.length≤10000000) (by omega) ?_ ?_ (Qhv r).length fu ([],0) 0 (by omega) (by omega) (by omega) ⟨λk hk=>by have:=Qc5.1 hk; omega,by simp [Qcs]; omega,by simp,by simp [Qcs]; omega⟩
   · exact L3
   · intro n ⟨sp,base⟩ k ks k0 k1 hd hI ih
     obtain ⟨i1,i2,i3,i4⟩:(∀ j∈k::ks,0≤j∧j<(Qhv r).length)∧sp.length+48*(k::ks).length≤1000∧0≤base∧base+1000000*((k::ks).length:Int)≤10000000:=hI
     simp only [List.length_cons] at i2 i4
     simp only [Qcr.eq_2]
     unfold Qn8
     rw [hd,cond_true]
     have L2:=lpI (Qvs r) (λm (bs:List Box) i=>Qgn fu (Qcr fu r (Qvs r) (Qhv r) n) r (Qvs r) sp base k m bs i) (λcs bs=>Qac (Qnb fu r.fJ (bs++(cs.filter λc=>c.fM==k).map (Qs5 r))) λx=>Qac (Qjj fu x) λy=>Qgt fu (Qcr fu r (Qvs r) (Qhv r) n) base k x y fu sp 0) (λcs bs=>bs.length+cs.length≤48∧∀ c∈cs,c.fO.length≤12) (by omega) ?_ ?_ fu [] ⟨by simpa using hcl,λc hc=>Qxd hc⟩ (by omega)
     · refine L2.trans ?_
       have hbl:=Q6r r k
       have hbf:=Jgj (r:=r) (k:=k) ⟨k0,k1⟩
       rw [List.nil_append,show ((Qvs r).filter λc=>c.fM==k).map (Qs5 r)=Qxx r k from rfl,Jap hfu _ _ (by omega),Qab]
       have hsl:=Q3y (Q46 hz ⟨k0,k1⟩)
       have hpb:=Q6m (spM r.fJ (Qxx r k))
       have hps:∀ s∈spM r.fJ (Qxx r k),s∈spM r.fJ (Qxx r k):=λ_ h=>h
       have ih':=ih (plS r (sp,base) k) ⟨λj hj=>i1 j (by simp [hj]),by simp [plS]; omega,by simp [plS]; omega,by simp [plS]; omega⟩
       rw [List.foldl_cons,← ih']
       have hS:=Jex (fu:=fu) (l:=spM r.fJ (Qxx r k)) (by omega) (by omega)
       have hwf:∀ s∈spM r.fJ (Qxx r k),w64 (s.fJ+base)=s.fJ+base:=by
        intro s hs
        have:=Je9 (p:=r.fJ) (l:=Qxx r k) (by omega) s hs
        exact Qbe (by omega) (by omega)
       generalize hSP:spM r.fJ (Qxx r k)=S at hsl hpb hS hwf ⊢
       rw [hS,Qab]
       have L1:=lpI S (λm (o:List Spot) i=>Qgt fu (Qcr fu r (Qvs r) (Qhv r) n) base k S (Qzp S) m o i) (λxs o=>Qcr fu r (Qvs r) (Qhv r) n (o++xs.map (λt=>⟨t.fJ+base,t.fX,t.fY,t.fZ⟩)) (base+Qzp S) (w64 (k+1))) (λxs o=>o.length+xs.length≤1000∧∀ s∈xs,w64 (s.fJ+base)=s.fJ+base) (by omega) ?_ ?_ fu sp ⟨by omega,hwf⟩ (by omega)
       · refine L1.trans ?_
         simp only [plS,hSP]
       · intro m o i x xs hx hd hI ih
         obtain ⟨j1,j2⟩:=hI
         simp only [List.length_cons] at j1
         simp only [Qgt.eq_2]
         unfold Qny
         rw [hd,cond_true,hx,Qab,j2 x (by simp),ap1 (by simp; omega),Qab,ih _ ⟨by simp; omega,λs hs=>j2 s (by simp [hs])⟩]
         simp
       · intro m o i hd hI
         simp only [Qgt.eq_2]
         unfold Qny
         rw [hd,cond_false,Qbe (n:=base+_) (by omega) (by omega)]
         simp
     · intro m bs i c cs hx hd hI ih
       obtain ⟨j1,j2⟩:=hI
       simp only [List.length_cons] at j1
       have hcu:=j2 c (by simp)
       simp only [Qgn.eq_2]
       unfold Qn5 Qmt
       rw [hd,cond_true,hx,Qab,Je4 h c (by omega),Qab,ap1 (by simp; omega),Qab,ih _ ⟨by simp; omega,λc hc=>j2 c (by simp [hc])⟩,ih _ ⟨by omega,λc hc=>j2 c (by simp [hc])⟩,List.filter_cons]
       cases c.fM==k <;> simp
     · intro m bs i hd _
       simp only [Qgn.eq_2]
       unfold Qn5
       rw [hd,cond_false]; simp
   · intro n ⟨sp,base⟩ k hd _
     simp only [Qcr.eq_2]
     unfold Qn8
     rw [hd,cond_false]; rfl
theorem Jii (r:Request):Sp (Q1f r).1:=by
 obtain ⟨l1,l2,l3⟩:=Q9w r
 refine ⟨by omega,λc hc=>by have:=l3 c hc; omega,?_,by omega⟩
 have key:∀ l:List Carton,(∀ c∈l,c.fO.length≤12)→Q8s l≤12*l.length:=by
  intro l
  induction l with
  | nil=>intro _; simp [Q8s]
  | cons c l ih =>
   intro h
   have h1:=ih λd hd=>h d (by simp [hd])
   have h2:=h c (by simp)
   simp only [Q8s,List.length_cons]
   omega
 have:=key _ l3
 omega
def Tot {α:Type} (o:Option α) (Q:α→Prop):Prop:=∃ x,o=some x∧Q x
theorem Tot.mk {α:Type} {x:α} {Q:α→Prop} (h:Q x):Tot (some x) Q:=⟨x,rfl,h⟩
theorem Tot.of {α:Type} {o:Option α} {x:α} {Q:α→Prop} (e:o=some x) (h:Q x):Tot o Q:=⟨x,e,h⟩
theorem Tot.bind {α β:Type} {m:Option α} {k:α→Option β} {R:α→Prop} {Q:β→Prop} (h:Tot m R) (hk:∀ x,R x→Tot (k x) Q):Tot (Qac m k) Q:=by
 obtain ⟨x,rfl,hx⟩:=h
 exact hk x hx
theorem Tot.bif {α:Type} {c:Bool} {a b:Option α} {Q:α→Prop} (h1:c=true→Tot a Q) (h2:c=false→Tot b Q):Tot (bif c then a else b) Q:=by
 cases c
 · exact h2 rfl
 · exact h1 rfl
theorem Tot.imp {α:Type} {o:Option α} {Q R:α→Prop} (h:Tot o Q) (hi:∀ x,Q x→R x):Tot o R:=by
 obtain ⟨x,e,hx⟩:=h
 exact ⟨x,e,hi x hx⟩
theorem Tot.ap {α β:Type} {bytes:Nat} {xs ys:List α} {k:List α→Option β} {Q:β→Prop} (h:(xs.length+ys.length)*bytes≤140737488355328) (hk:Tot (k (xs++ys)) Q):Tot (Qac (Qg4 bytes xs ys) k) Q:=by
 rw [ap1 h]; exact hk
theorem Tot.ix {α β:Type} {l:List α} {i:Int} {k:α→Option β} {Q:β→Prop} (h:0≤i∧i<l.length) (hk:∀ x,x∈l→Tot (k x) Q):Tot (Qac (ix l i) k) Q:=by
 have e:=Qzw (l:=l) (i:=i.toNat) (by omega)
 rw [show ((i.toNat:Nat):Int)=i by omega] at e
 rw [e]
 exact hk _ (List.getElem_mem _)
theorem lpT {σ β:Type} (b:Int) (L:Nat→σ→Int→Option β) (Q:β→Prop) (I:Int→σ→Prop) (hb:b≤1099511627776)
    (hs:∀ n s (i:Int),0≤i→i<b→I i s→(∀ s',I (i+1) s'→Tot (L n s' (w64 (i+1))) Q)→Tot (L (n+1) s i) Q)
    (he:∀ n s (i:Int),0≤i→b≤i→I i s→Tot (L (n+1) s i) Q):∀ (m:Nat) n s (a:Int),0≤a→(b - a).toNat=m→m<n→I a s→Tot (L n s a) Q:=by
 intro m
 induction m with
 | zero =>
  intro n s a ha hm hn hI
  obtain ⟨n,rfl⟩:∃ k,n=k+1:=⟨n - 1,by omega⟩
  exact he n s a ha (by omega) hI
 | succ m ih =>
  intro n s a ha hm hn hI
  obtain ⟨n,rfl⟩:∃ k,n=k+1:=⟨n - 1,by omega⟩
  refine hs n s a ha (by omega) hI λs' hI'=>?_
  rw [Qbe (by omega) (by omega)]
  exact ih n s' (a+1) (by omega) (by omega) (by omega) hI'
def CO (b:List U8) (c:Cur):Prop:=c.fb=b∧0≤c.fi∧b.length≤1048576
theorem CO.re {b:List U8} {c c':Cur} (h:CO b c) (h':CO b c'):CO b ⟨c.fb,c'.fi,c'.fh⟩:=⟨h.1,h'.2⟩
theorem CO.re' {b:List U8} {c':Cur} (h':CO b c'):CO b ⟨b,c'.fi,c'.fh⟩:=⟨rfl,h'.2⟩
theorem Jep (x:Int):0≤IntKind.wrap .i64 (((BitVec.ofInt (IntKind.bits .i64) x &&& BitVec.ofInt (IntKind.bits .i64) 255).toNat:Nat):Int)∧IntKind.wrap .i64 (((BitVec.ofInt (IntKind.bits .i64) x &&& BitVec.ofInt (IntKind.bits .i64) 255).toNat:Nat):Int)≤255:=by
 have h:(BitVec.ofInt (IntKind.bits .i64) x &&& BitVec.ofInt (IntKind.bits .i64) 255).toNat≤255:=by
  rw [BitVec.toNat_and]
  have h2:(BitVec.ofInt (IntKind.bits .i64) 255).toNat=255:=by decide
  rw [h2]
  exact Nat.and_le_right
 have e:=Qbe (n:=(((BitVec.ofInt (IntKind.bits .i64) x &&& BitVec.ofInt (IntKind.bits .i64) 255).toNat:Nat):Int)) (by omega) (by omega)
 unfold w64 at e
 rw [e]
 omega
theorem Q1e {fu:Nat} {b:List U8} {c:Cur} (h:CO b c):Tot (Qh6 fu c) λx=>(0≤x.1∧x.1≤255)∧CO b x.2:=by
 obtain ⟨h1,h2,h3⟩:=h
 unfold Qh6
 refine Tot.bif (λhc=>?_) λhc=>?_
 · have hlt:=of_decide_eq_true hc
   refine Tot.ix ⟨h2,hlt⟩ λx _=>Tot.mk ⟨Jep _,h1,?_,h3⟩
   show 0≤w64 (c.fi+1)
   rw [h1] at hlt
   rw [Qbe (by omega) (by omega)]; omega
 · exact Tot.mk ⟨Jep _,h1,h2,h3⟩
theorem Qe7 {fu:Nat} {b:List U8} {c:Cur} (h:CO b c) (n:Int):Tot (Qaz fu c n) λx=>(0≤x.1∧(0<n→x.1<n))∧CO b x.2:=by
 unfold Qaz
 refine Tot.bif (λhc=>?_) λhc=>?_
 · have hlt:=of_decide_eq_true hc
   exact Tot.mk ⟨⟨Int.le_refl _,λh=>by omega⟩,h⟩
 · have hn:0<n:=by simpa using hc
   refine Tot.bif (λhc=>?_) λhc=>?_
   · refine Tot.bind (Q1e h) λx hx=>?_
     rw [Jaf (by omega),Qab]
     exact Tot.mk ⟨⟨Int.tmod_nonneg _ hx.1.1,λ_=>Int.tmod_lt_of_pos _ hn⟩,h.re hx.2⟩
   · refine Tot.bind (Q1e h) λx hx=>Tot.bind (Q1e (h.re hx.2)) λy hy=>Tot.bind (Q1e (h.re hy.2)) λz hz=>Tot.bind (Q1e (h.re hz.2)) λq hq=>?_
     rw [Jaf (by omega),Qab]
     obtain ⟨⟨x0,x1⟩,_⟩:=hx
     obtain ⟨⟨y0,y1⟩,_⟩:=hy
     obtain ⟨⟨z0,z1⟩,_⟩:=hz
     obtain ⟨⟨q0,q1⟩,hq2⟩:=hq
     refine Tot.mk ⟨⟨?_,λ_=>Int.tmod_lt_of_pos _ hn⟩,h.re hq2⟩
     apply Int.tmod_nonneg
     simp only [Qbe (n:=x.1*16777216) (by omega) (by omega),Qbe (n:=y.1*65536) (by omega) (by omega),Qbe (n:=z.1*256) (by omega) (by omega)]
     rw [Qbe (n:=x.1*16777216+y.1*65536) (by omega) (by omega),Qbe (n:=x.1*16777216+y.1*65536+z.1*256) (by omega) (by omega),Qbe (by omega) (by omega)]
     omega
theorem Q6o {fu:Nat} {b:List U8} {c:Cur} (h:CO b c) (n:Int):Tot (Qmo fu c n) λx=>CO b x.2:=by
 unfold Qmo
 exact Tot.bind (Qe7 h n) λx hx=>Tot.mk (h.re hx.2)
theorem Qt8 {fu:Nat} {b:List U8} {c:Cur} (h:CO b c) (l:List Int) (hl:0<l.length):Tot (Qcp fu c l) λx=>x.1∈l∧CO b x.2:=by
 unfold Qcp
 exact Tot.bind (Qe7 h _) λx hx=>Tot.ix ⟨hx.1.1,hx.1.2 (by omega)⟩ λy hy=>Tot.mk ⟨hy,h.re hx.2⟩
theorem Jhq {fu:Nat} {b:List U8} (hb:b.length≤1048576) (hf:1048577≤fu):Tot (Qs3 fu b) (CO b):=by
 unfold Qs3
 refine lpT (b.length:Int) (λn s i=>Qhq fu b n s i) (CO b) (λ_ _=>True) (by omega) ?_ ?_ b.length fu _ 0 (by omega) (by omega) (by omega) trivial
 · intro n s i h0 h1 _ ih
   simp only [Qhq.eq_2]
   unfold Qo8 Qrt
   rw [Qbj (by simpa using h1)]
   refine Tot.bif (λhc=>?_) λhc=>?_
   · exact Tot.ix ⟨h0,h1⟩ λx _=>ih _ trivial
   · exact Tot.mk ⟨rfl,by simp,hb⟩
 · intro n s i h0 h1 _
   simp only [Qhq.eq_2]
   unfold Qo8
   rw [Qau (by simp; omega)]
   exact Tot.mk ⟨rfl,by simp,hb⟩
def SmR (r:Request):Prop:=r.fT.length≤64∧r.fR.length≤64∧r.fU.length≤64
theorem SmR.sm {r:Request} (h:SmR r) {fu:Nat} (hf:2097153≤fu):Sm fu r:=⟨hf,by have:=h.1; omega,by have:=h.2.1; omega,by have:=h.2.2; omega⟩
theorem Q66 {fu:Nat} {b:List U8} {c:Cur} (h:CO b c) (hf:1048577≤fu):Tot (Qnd fu c) λx=>(x.1.fT.length≤40∧(1≤x.1.fR.length∧x.1.fR.length≤8)∧x.1.fU.length≤8)∧CO b x.2:=by
 unfold Qnd
 refine Tot.bind (Qe7 h _) λx1 h1=>Tot.bind (Qt8 (h.re h1.2) _ (by simp)) λx2 h2=>Tot.bind (Qt8 (h.re h2.2) _ (by simp)) λx3 h3=>Tot.bind (Qt8 (h.re h3.2) _ (by simp)) λx4 h4=>Tot.bind (Qt8 (h.re h4.2) _ (by simp)) λx5 h5=>Tot.bind (Qe7 (h.re h5.2) _) λx6 h6=>?_
 have hb:=h.2.2
 have hcb:=h.1
 obtain ⟨c0,c1⟩:=h6.1
 have c1:=c1 (by omega)
 have ew:w64 (1+x6.1)=1+x6.1:=Qbe (by omega) (by omega)
 have L4:=lpT (1+x6.1) (λn (s:Int×Int×List Pair) i=>Qd2 fu c x1 x2 x3 x4 x5 x6 n s.1 s.2.1 s.2.2 i) (λx:Request×Cur=>(x.1.fT.length≤40∧(1≤x.1.fR.length∧x.1.fR.length≤8)∧x.1.fU.length≤8)∧CO b x.2)
  (λi s=>0≤s.1∧(s.2.2.length:Int)≤8*i∧i≤4) (by omega) ?_ ?_ (1+x6.1 - 0).toNat fu (x6.2.fi,x6.2.fh,[]) 0 (by omega) rfl (by omega) ⟨h6.2.2.1,by simp,by omega⟩
 · exact L4
 · intro n ⟨f1,f2,ps⟩ a ha0 ha1 hI ih
   obtain ⟨i1,i2,i3⟩:0≤f1∧(ps.length:Int)≤8*a∧a≤4:=hI
   simp only [Qd2.eq_2]
   unfold Qmq
   rw [ew,Qbj (by simpa using ha1)]
   have L1:=lpT (a+1) (λm (s:Int×Int×List Pair) i=>Qfw fu (Qd2 fu c x1 x2 x3 x4 x5 x6 n) c a m s.1 s.2.1 s.2.2 i) (λx:Request×Cur=>(x.1.fT.length≤40∧(1≤x.1.fR.length∧x.1.fR.length≤8)∧x.1.fU.length≤8)∧CO b x.2)
    (λi s=>0≤s.1∧(s.2.2.length:Int)≤8*a+2*i∧i≤a+1) (by omega) ?_ ?_ (a+1 - 0).toNat fu (f1,f2,ps) 0 (by omega) rfl (by omega) ⟨i1,by simp; omega,by omega⟩
   · exact L1
   · intro m ⟨g1,g2,qs⟩ i hi0 hi1 hI ih2
     obtain ⟨j1,j2,j3⟩:0≤g1∧(qs.length:Int)≤8*a+2*i∧i≤a+1:=hI
     simp only [Qfw.eq_2]
     unfold Qma
     rw [Qbj (by simp; omega)]
     unfold Qia
     refine Tot.bif (λhc=>?_) λhc=>?_
     · refine Tot.ap (by simp; omega) ?_
       exact ih2 (g1,g2,_) ⟨j1,by simp; omega,by omega⟩
     · refine Tot.bind (Q6o (b:=b) (c:=⟨c.fb,g1,g2⟩) ⟨hcb,j1,hb⟩ 2) λy hy=>?_
       refine Tot.bif (λhc=>?_) λhc=>?_
       · refine Tot.ap (by simp; omega) ?_
         exact ih2 (y.2.fi,y.2.fh,_) ⟨hy.2.1,by simp; omega,by omega⟩
       · exact ih2 (y.2.fi,y.2.fh,_) ⟨hy.2.1,by simp; omega,by omega⟩
   · intro m ⟨g1,g2,qs⟩ i hi0 hi1 hI
     obtain ⟨j1,j2,j3⟩:0≤g1∧(qs.length:Int)≤8*a+2*i∧i≤a+1:=hI
     simp only [Qfw.eq_2]
     unfold Qma
     rw [Qau (by simp; omega)]
     have:i=a+1:=by omega
     exact ih (g1,g2,qs) ⟨j1,by simp; omega,by omega⟩
 · intro n ⟨f1,f2,ps⟩ a ha0 ha1 hI
   obtain ⟨i1,i2,i3⟩:0≤f1∧(ps.length:Int)≤8*a∧a≤4:=hI
   simp only [Qd2.eq_2]
   unfold Qmq
   rw [ew,Qau (by simpa using ha1)]
   refine Tot.bind (Qe7 (b:=b) (c:=⟨c.fb,f1,f2⟩) ⟨hcb,i1,hb⟩ _) λy1 g1=>Tot.bind (Qt8 (h.re g1.2) _ (by simp)) λy2 g2=>Tot.bind (Qt8 (h.re g2.2) _ (by simp)) λy3 g3=>Tot.ap (by simp) ?_
   unfold Qpk
   refine Tot.bind (Qe7 (h.re g3.2) _) λy4 g4=>?_
   obtain ⟨e0,e1⟩:=g4.1
   have e1:=e1 (by omega)
   have L3:=lpT y4.1 (λm (s':Int×Int×List Typ) i=>Qhd fu c x1 x2 x3 x4 x5 x6 ps y4 m s'.1 s'.2.1 s'.2.2 i) (λx:Request×Cur=>(x.1.fT.length≤40∧(1≤x.1.fR.length∧x.1.fR.length≤8)∧x.1.fU.length≤8)∧CO b x.2)
    (λi s=>0≤s.1∧(s.2.2.length:Int)=1+i∧i≤y4.1) (by omega) ?_ ?_ (y4.1 - 0).toNat fu (y4.2.fi,y4.2.fh,([]:List Typ)++[(⟨7,12,10,11,y1.1,y2.1,y3.1⟩:Typ)]) 0 (by omega) rfl (by omega) ⟨g4.2.2.1,by simp,by omega⟩
   · exact L3
   · intro m ⟨g1,g2,ts⟩ i hi0 hi1 hI ih2
     obtain ⟨j1,j2,j3⟩:0≤g1∧(ts.length:Int)=1+i∧i≤y4.1:=hI
     simp only [Qhd.eq_2]
     unfold Qlu
     rw [Qbj (by simp; omega)]
     refine Tot.bind (Qe7 (b:=b) (c:=⟨c.fb,g1,g2⟩) ⟨hcb,j1,hb⟩ _) λz1 f1=>Tot.bind (Qe7 (h.re f1.2) _) λz2 f2=>Tot.bind (Qe7 (h.re f2.2) _) λz3 f3=>Tot.bind (Qe7 (h.re f3.2) _) λz4 f4=>Tot.bind (Qe7 (h.re f4.2) _) λz5 f5=>Tot.bind (Qe7 (h.re f5.2) _) λz6 f6=>Tot.ap (by simp; omega) ?_
     exact ih2 (z6.2.fi,z6.2.fh,_) ⟨f6.2.2.1,by simp; omega,by omega⟩
   · intro m ⟨g1,g2,ts⟩ i hi0 hi1 hI
     obtain ⟨j1,j2,j3⟩:0≤g1∧(ts.length:Int)=1+i∧i≤y4.1:=hI
     simp only [Qhd.eq_2]
     unfold Qlu
     rw [Qau (by simp; omega)]
     refine Tot.bind (Qe7 (b:=b) (c:=⟨c.fb,g1,g2⟩) ⟨hcb,j1,hb⟩ _) λz f=>?_
     obtain ⟨q0,q1⟩:=f.1
     have q1:=q1 (by omega)
     have L2:=lpT z.1 (λm (t:Int×Int×List Item×Int) i=>Qdg fu c x1 x2 x3 x4 x5 x6 ps ts z m t.1 t.2.1 t.2.2.1 t.2.2.2 i) (λx:Request×Cur=>(x.1.fT.length≤40∧(1≤x.1.fR.length∧x.1.fR.length≤8)∧x.1.fU.length≤8)∧CO b x.2)
      (λi t=>0≤t.1∧(t.2.2.1.length:Int)≤i∧i≤z.1) (by omega) ?_ ?_ (z.1 - 0).toNat fu (z.2.fi,z.2.fh,[],0) 0 (by omega) rfl (by omega) ⟨f.2.2.1,by simp,by omega⟩
     · exact L2
     · intro m' ⟨k4,k5,is,un⟩ i' hi0 hi1 hI ih2
       obtain ⟨k1,k2,k3⟩:0≤k4∧(is.length:Int)≤i'∧i'≤z.1:=hI
       simp only [Qdg.eq_2]
       unfold Ql9
       rw [Qbj (by simp; omega)]
       refine Tot.bind (Qe7 (b:=b) (c:=⟨c.fb,k4,k5⟩) ⟨hcb,k1,hb⟩ _) λw1 v1=>Tot.bind (Qe7 (h.re v1.2) _) λw2 v2=>Tot.bind (Qe7 (h.re v2.2) _) λw3 v3=>Tot.bind (Qe7 (h.re v3.2) _) λw4 v4=>Tot.bind (Qe7 (h.re v4.2) _) λw5 v5=>Tot.bind (Qe7 (h.re v5.2) _) λw6 v6=>?_
       unfold Qpg
       have J3:∀ (p q:Int) (x:Item),0≤p→Tot (Qic fu (Qdg fu c x1 x2 x3 x4 x5 x6 ps ts z m') is un i' p q x) (λx:Request×Cur=>(x.1.fT.length≤40∧(1≤x.1.fR.length∧x.1.fR.length≤8)∧x.1.fU.length≤8)∧CO b x.2):=by
        intro p q x hp
        unfold Qic Qkp
        refine Tot.bif (λhc=>?_) λhc=>?_
        · refine Tot.ap (by simp; omega) ?_
          exact ih2 (p,q,_,_) ⟨hp,by simp; omega,by omega⟩
        · exact ih2 (p,q,_,_) ⟨hp,by simp; omega,by omega⟩
       refine Tot.bind (Q6o (h.re v6.2) _) λw7 v7=>?_
       refine Tot.bif (λhc=>?_) λhc=>?_
       · refine Tot.bind (Qe7 (h.re v7) _) λw8 v8=>?_
         exact J3 _ _ _ v8.2.2.1
       · exact J3 _ _ _ v7.2.1
     · intro m' ⟨k4,k5,is,un⟩ i' hi0 hi1 hI
       obtain ⟨k1,k2,k3⟩:0≤k4∧(is.length:Int)≤i'∧i'≤z.1:=hI
       simp only [Qdg.eq_2]
       unfold Ql9
       rw [Qau (by simp; omega)]
       exact Tot.mk ⟨⟨by simp; omega,by simp; omega,by simp; omega⟩,hcb,k1,hb⟩
theorem Jgy {fu:Nat} {b:List U8} {c:Cur} (h:CO b c) (hf:2097153≤fu):Tot (Qr4 fu c) λx=>SmR x.1∧CO b x.2:=by
 unfold Qr4
 refine Tot.bind (Q66 h (by omega)) λx hx=>?_
 obtain ⟨⟨a1,a2,a3⟩,hc⟩:=hx
 have hs:SmR x.1:=⟨by omega,by omega,by omega⟩
 rw [Q35 (hs.sm hf),Qab]
 refine Tot.bif (λ_=>?_) λ_=>Tot.mk ⟨hs,h.re hc⟩
 have hs2:Sm fu (⟨x.1.qY,(⟨30,25,24,400⟩:Pallet),x.1.fG,x.1.fT,x.1.fR,x.1.fP,x.1.fU⟩:Request):=⟨hf,by simp; omega,by simp; omega,by simp; omega⟩
 rw [Jbg hs2,Qab]
 generalize Qzh _=t
 refine lpT (x.1.fU.length:Int) (λn s i=>Qgu fu c x t n s i) _ (λi s=>(s.length:Int)≤i∧i≤x.1.fU.length) (by omega) ?_ ?_ _ fu [] 0 (by omega) rfl (by omega) ⟨by simp,by omega⟩
 · intro n s i h0 h1 hI ih
   simp only [Qgu.eq_2]
   unfold Qnz Qmu
   rw [Qbj (by simpa using h1)]
   refine Tot.ix ⟨h0,h1⟩ λy hy=>?_
   rw [Jgi hf,Qab]
   refine Tot.bif (λ_=>?_) λ_=>ih _ ⟨by omega,by omega⟩
   refine Tot.ix ⟨h0,h1⟩ λy hy=>Tot.ap (by simp; omega) ?_
   exact ih _ ⟨by simp; omega,by omega⟩
 · intro n s i h0 h1 hI
   simp only [Qgu.eq_2]
   unfold Qnz
   rw [Qau (by simp; omega)]
   exact Tot.mk ⟨⟨by simp; omega,by simp; omega,by simp; omega⟩,h.re hc⟩
theorem Q02 {α:Type} (l:List α) (i:Int) (y:α):(Qhe l i y).length=l.length:=by simp [Qhe]
theorem Q92 {α:Type} {l:List α} (h:0<l.length):sls l 1 (l.length:Int)=some (l.drop 1):=by
 rw [Quo (by omega)]
 congr 1
 exact List.take_of_length_le (by simp)
theorem Jf1 {fu:Nat} {b:List U8} {c:Cur} (h:CO b c) (hf:2097153≤fu):Tot (Qru fu c) λx=>SmR x.1∧CO b x.2:=by
 unfold Qru
 refine Tot.bind (Q66 h (by omega)) λx hx=>?_
 obtain ⟨⟨a1,a2,a3⟩,hc⟩:=hx
 obtain ⟨c1,c2,c3⟩:=h
 have h:CO b c:=⟨c1,c2,c3⟩
 refine Tot.bind (Qt8 (h.re hc) _ (by simp)) λy hy=>Tot.bind (Qe7 (h.re hy.2) _) λz hz=>?_
 have J:∀ (f264 f265 f266 f267:Int) (f268:List Pair) (f273:List Typ) (f278:Int) (f279:List Item) (f286 f287:Int),f268.length≤64→f273.length≤64→f279.length≤64→0≤f286→Tot (Qbl fu c x f264 f265 f266 f267 f268 f273 f278 f279 f286 f287) λx=>SmR x.1∧CO b x.2:=by
  intro f264 f265 f266 f267 f268 f273 f278 f279 f286 f287 q1 q2 q3 q4
  exact Tot.mk ⟨⟨q1,q2,q3⟩,c1,q4,c3⟩
 have hz0:=hz.2.2.1
 refine Tot.bif (λ_=>?_) λ_=>?_
 · exact Tot.bind (Qt8 (h.re hz.2) _ (by simp)) λy hy=>J _ _ _ _ _ _ _ _ _ _ (by omega) (by omega) (by omega) hy.2.2.1
 refine Tot.bif (λ_=>?_) λ_=>?_
 · exact J _ _ _ _ _ _ _ _ _ _ (by omega) (by omega) (by omega) hz0
 refine Tot.bif (λ_=>?_) λ_=>?_
 · exact J _ _ _ _ _ _ _ _ _ _ (by omega) (by omega) (by omega) hz0
 refine Tot.bif (λ_=>?_) λ_=>?_
 · exact Tot.bind (Qt8 (h.re hz.2) _ (by simp)) λy hy=>J _ _ _ _ _ _ _ _ _ _ (by omega) (by omega) (by omega) hy.2.2.1
 refine Tot.bif (λ_=>?_) λ_=>?_
 · exact Tot.bind (Qe7 (h.re hz.2) _) λy hy=>Tot.bind (Qe7 (h.re hy.2) _) λv hv=>Tot.ap (by simp; omega) (J _ _ _ _ _ _ _ _ _ _ (by simp; omega) (by omega) (by omega) hv.2.2.1)
 refine Tot.bif (λ_=>?_) λ_=>?_
 · exact Tot.ix (by omega) λy hy=>J _ _ _ _ _ _ _ _ _ _ (by omega) (by rw [Q02]; omega) (by omega) hz0
 refine Tot.bif (λ_=>?_) λ_=>?_
 · exact Tot.bind (Qe7 (h.re hz.2) _) λy hy=>Tot.ix ⟨hy.1.1,hy.1.2 (by omega)⟩ λv hv=>J _ _ _ _ _ _ _ _ _ _ (by omega) (by rw [Q02]; omega) (by omega) hy.2.2.1
 refine Tot.bif (λ_=>?_) λ_=>?_
 · exact Tot.bind (Qt8 (h.re hz.2) _ (by simp)) λy hy=>J _ _ _ _ _ _ _ _ _ _ (by omega) (by omega) (by omega) hy.2.2.1
 refine Tot.bif (λ_=>?_) λ_=>?_
 · exact Tot.bind (Qe7 (h.re hz.2) _) λy hy=>Tot.bind (Qe7 (h.re hy.2) _) λv hv=>Tot.ap (by simp; omega) (J _ _ _ _ _ _ _ _ _ _ (by omega) (by omega) (by simp; omega) hv.2.2.1)
 refine Tot.bif (λ_=>?_) λ_=>?_
 · refine Tot.bif (λhc=>?_) λ_=>?_
   · have:=of_decide_eq_true hc
     exact Tot.ix (by omega) λy hy=>J _ _ _ _ _ _ _ _ _ _ (by omega) (by omega) (by rw [Q02]; omega) hz0
   · exact J _ _ _ _ _ _ _ _ _ _ (by omega) (by omega) (by omega) hz0
 refine Tot.bif (λ_=>?_) λ_=>?_
 · refine Tot.bif (λhc=>?_) λ_=>?_
   · have:=of_decide_eq_true hc
     rw [Q92 (by omega),Qab]
     exact J _ _ _ _ _ _ _ _ _ _ (by simp; omega) (by omega) (by omega) hz0
   · exact J _ _ _ _ _ _ _ _ _ _ (by omega) (by omega) (by omega) hz0
 refine Tot.bif (λ_=>?_) λ_=>?_
 · exact Tot.ix (by omega) λy hy=>Tot.ap (by simp; omega) (J _ _ _ _ _ _ _ _ _ _ (by omega) (by simp; omega) (by omega) hz0)
 refine Tot.bif (λ_=>?_) λ_=>?_
 · exact J _ _ _ _ _ _ _ _ _ _ (by omega) (by simp) (by omega) hz0
 · exact J _ _ _ _ _ _ _ _ _ _ (by omega) (by omega) (by omega) hz0
theorem Jdg {fu:Nat} {b:List U8} (hb:b.length≤1048576) (hf:2097153≤fu):Tot (Qna fu b) SmR:=by
 unfold Qna
 refine Tot.bind (Jhq hb (by omega)) λx hx=>Tot.bind (Q6o hx.re' _) λy hy=>?_
 refine Tot.bif (λ_=>?_) λ_=>?_
 · exact Tot.bind (Jgy hy.re' hf) λz hz=>Tot.mk hz.1
 · exact Tot.bind (Jf1 hy.re' hf) λz hz=>Tot.mk hz.1
theorem Jld (fu:Nat) (b:List U8):Qv4 fu b=some (decide ((b.length:Int)>1048576)):=rfl
def Q6s (n:Int):ByteArray:=⟨(Lib.itoa n).toArray⟩
theorem Q0a {n:Int} (h:0≤n∧n≤999999):(Q6s n).size≤21:=by
 have:=Lib.itoa_length_le n (by omega) (by omega)
 unfold Q6s ByteArray.size
 simpa using this
theorem Quz {x y:ByteArray} (h:x.size+y.size≤1000000000):Q1g x y=some (x++y):=by
 unfold Q1g
 rw [if_pos (by omega)]
theorem Jcx (fu:Nat) {n:Int} (h:0≤n∧n≤999999):Qr3 fu n=some (Q6s n):=by
 unfold Qr3 Qt9 Jcv
 rw [if_pos (by omega)]; rfl
theorem Jjq {n:Int} (h:0≤n∧n≤255):w8 n=n:=by
 unfold w8
 simp only [IntKind.wrap_u8]
 omega
theorem Jdh {n:Int} (h:0≤n∧n≤255):Ji9 [(⟨n⟩:U8)]=some ⟨[UInt8.ofNat n.toNat].toArray⟩:=by
 unfold Ji9
 rw [if_pos ⟨by simp,λb hb=>by rw [List.mem_singleton.1 hb]; exact h⟩]
 rfl
theorem Jde {u:Nat} (out:ByteArray):(⟨[UInt8.ofNat (48+u % 10)].toArray⟩:ByteArray)++out=⟨([UInt8.ofNat (48+u % 10)]++out.data.toList).toArray⟩:=by
 apply ByteArray.ext
 rw [ByteArray.data_append]
 apply Array.ext'
 simp
theorem Jir {fu:Nat} {n1:Int} (h1:0≤n1):∀ (u:Nat) (k:Nat) (out:ByteArray),u≤999999→u+2≤k→out.size+u≤2000000→0<u→Qgm fu n1 k (u:Int) out=some ⟨(Lib.decDigits u++out.data.toList).toArray⟩:=by
 intro u
 induction u using Nat.strongRecOn with
 | _ u ih =>
  intro k out hu hk ho h0
  obtain ⟨k,rfl⟩:∃ j,k=j+1:=⟨k - 1,by omega⟩
  have em:Int.tmod (u:Int) 10=((u % 10:Nat):Int):=by
   rw [Int.tmod_eq_emod_of_nonneg (by omega)]; omega
  have ed:w64 (Int.tdiv (u:Int) 10)=((u / 10:Nat):Int):=by
   rw [Int.tdiv_eq_ediv_of_nonneg (by omega),Qbe (by omega) (by omega)]; omega
  rw [Qgm.eq_2]
  unfold Qnn Qm4
  rw [Qbj (bne_iff_ne.2 (by omega)),em,Qau (decide_eq_false (by omega)),Qbe (n:=48+_) (by omega) (by omega),Jjq (by omega),Jdh (by omega),Qab,show ((48:Int)+((u % 10:Nat):Int)).toNat=48+u % 10 by omega]
  have hs1:(⟨[UInt8.ofNat (48+u % 10)].toArray⟩:ByteArray).size=1:=rfl
  rw [Quz (by rw [hs1]; omega),Qab,ed,Jde]
  by_cases hlt:u<10
  · have e0:u / 10=0:=by omega
    rw [e0]
    obtain ⟨k,rfl⟩:∃ j,k=j+1:=⟨k - 1,by omega⟩
    rw [Qgm.eq_2]
    unfold Qnn
    rw [Qau (by decide),Qau (decide_eq_false (by omega)),Lib.decDigits,dif_pos hlt,Nat.mod_eq_of_lt hlt]
  · have:=ih (u / 10) (by omega) k (⟨([UInt8.ofNat (48+u % 10)]++out.data.toList).toArray⟩:ByteArray) (by omega) (by omega) (by
      show ([UInt8.ofNat (48+u % 10)]++out.data.toList).toArray.size+_≤_
      have e:out.data.toList.length=out.size:=Array.length_toList
      simp only [List.size_toArray,List.length_append,List.length_singleton,e]
      omega) (by omega)
    rw [this]
    conv=>rhs; rw [Lib.decDigits,dif_neg hlt]
    simp
theorem Jdu {fu:Nat} (hfu:2097153≤fu) {n:Int} (h:0≤n∧n≤999999):Qpb fu n=some (Q6s n):=by
 unfold Qpb Q6s
 by_cases h0:n=0
 · subst h0
   rw [Qbj (by simp)]
   have:Lib.itoa 0=[48]:=by
    unfold Lib.itoa
    rw [if_neg (by omega),Lib.decDigits,dif_pos (by decide)]; rfl
   rw [this]
 · rw [Qau (by simpa using h0)]
   obtain ⟨u,rfl⟩:∃ u:Nat,n=u:=⟨n.toNat,by omega⟩
   have:=Jir (fu:=fu) (n1:=(u:Int)) (by omega) u fu ⟨#[]⟩ (by omega) (by omega) (by
    show 0+u≤_
    omega) (by omega)
   rw [this]
   have e:Lib.itoa (u:Int)=Lib.decDigits u:=by
    unfold Lib.itoa
    rw [if_neg (by omega),Int.toNat_natCast]
   rw [e]; simp
def sp1:ByteArray:=⟨#[32]⟩
def nl1:ByteArray:=⟨#[10]⟩
def Qzi (o:ByteArray) (l:List Int):ByteArray:=l.foldl (λo n=>o++(sp1++Q6s n)) o
theorem Q45:∀ (l:List Int) (o:ByteArray),(∀ n∈l,0≤n∧n≤999999)→(Qzi o l).size≤o.size+22*l.length
 | [],o,_=>by simp [Qzi]
 | n::l,o,h=>by
  have h1:=Q0a (h n (by simp))
  have h2:=Q45 l (o++(sp1++Q6s n)) λm hm=>h m (by simp [hm])
  have e:(o++(sp1++Q6s n)).size=o.size+(1+(Q6s n).size):=by
   rw [ByteArray.size_append,ByteArray.size_append]; rfl
  rw [e] at h2
  show (Qzi (o++(sp1++Q6s n)) l).size≤_
  simp only [List.length_cons]
  omega
theorem Jiq {fu:Nat} {l:List Int} (o:ByteArray) (hl:l.length≤1000) (hf:l.length<fu) (ho:o.size≤1000000) (h:∀ n∈l,0≤n∧n≤999999):Qkj fu o l=some (Qzi o l++nl1,true):=by
 unfold Qkj
 have key:=lpI l (λn (o:ByteArray) i=>Qe4 fu l n o i) (λxs o=>some (Qzi o xs++nl1,true)) (λxs o=>(∀ n∈xs,0≤n∧n≤999999)∧o.size+22*xs.length≤2000000) (by omega) ?_ ?_ fu o ⟨h,by omega⟩ (by omega)
 · exact key
 · intro n o i x xs hx hd hI ih
   obtain ⟨i1,i2⟩:=hI
   simp only [List.length_cons] at i2
   have hxb:=i1 x (by simp)
   have hs:=Q0a hxb
   have e:(o++(sp1++Q6s x)).size=o.size+(1+(Q6s x).size):=by
    rw [ByteArray.size_append,ByteArray.size_append]; rfl
   have hsz:sp1.size=1:=rfl
   simp only [Qe4.eq_2]
   unfold Qjy
   rw [hd,cond_true,hx,Qab,Q42,Qab,show inb x 0 999999=true from Qcu.2 hxb,Bool.not_true,cond_false,Jcx fu hxb,Qab]
   show (Qac (Q1g sp1 (Q6s x)) λsv58=>Qac (Q1g o sv58) λsv60=>Qe4 fu l n sv60 (w64 (i+1)))=_
   rw [Quz (by omega),Qab,Quz (by rw [ByteArray.size_append,hsz]; omega),Qab,ih _ ⟨λm hm=>i1 m (by simp [hm]),by omega⟩]
   rfl
 · intro n o i hd hI
   have i2:=hI.2
   simp only [Qe4.eq_2]
   unfold Qjy
   rw [hd,cond_false]
   show (Qac (Q1g o nl1) λsv62=>some (sv62,true))=_
   rw [Quz (by rw [show nl1.size=1 from rfl]; simp at i2; omega)]
   rfl
def Q81:ByteArray:=⟨#[99,97,114,116,111,110]⟩
def Qth (c:Carton) (s:Spot):List Int:=[c.qJ,c.fM,s.fJ,s.fX,s.fY,s.fZ]++c.fO
theorem Jfa:∀ (l pre:List Int),Q88 pre l=true→∀ n∈l,0≤n∧n≤999
 | [],_,_,n,hn=>by simp at hn
 | x::l,pre,h,n,hn=>by
  unfold Q88 at h
  simp only [Bool.and_eq_true,Qcu] at h
  rcases List.mem_cons.1 hn with rfl | hn
  · exact h.1
  · exact Jfa l _ h.2.2 n hn
theorem Jbc {c:Carton} {s:Spot} (hc:Q83 c=true) (hs:Jem s=true):(∀ n∈Qth c s,0≤n∧n≤999999)∧(Qth c s).length≤106:=by
 unfold Q83 Jf2 at hc
 unfold Jem at hs
 simp only [Bool.and_eq_true,Qcu,decide_eq_true_eq] at hc hs
 obtain ⟨h1,h2,h3,h4⟩:=hc
 refine ⟨λn hn=>?_,by simp [Qth]; omega⟩
 unfold Qth at hn
 rcases List.mem_append.1 hn with hn | hn
 · simp only [List.mem_cons,List.not_mem_nil,or_false] at hn
   omega
 · have:=Jfa _ _ h3 n hn
   omega
theorem Jib {fu:Nat} (hfu:2097153≤fu) {c:Carton} {s:Spot} (h:(∀ n∈Qth c s,0≤n∧n≤999999)∧(Qth c s).length≤106):Qpy fu c s=some (Qzi Q81 (Qth c s)):=by
 obtain ⟨h1,h2⟩:=h
 unfold Qpy
 have hlen:[c.qJ,c.fM,s.fJ,s.fX,s.fY,s.fZ].length+c.fO.length≤106:=by
  have:=h2
  unfold Qth at this
  rwa [List.length_append] at this
 rw [ap1 (by omega),Qab]
 show Qeq fu (Qth c s) fu Q81 0=_
 generalize Qth c s=l at h1 h2
 refine lpI l (λn (o:ByteArray) i=>Qeq fu l n o i) (λxs o=>some (Qzi o xs)) (λxs o=>(∀ n∈xs,0≤n∧n≤999999)∧o.size+22*xs.length≤2000000) (by omega) ?_ ?_ fu Q81 ⟨h1,by rw [show Q81.size=6 from rfl]; omega⟩ (by omega)
 · intro n o i x xs hx hd hI ih
   obtain ⟨i1,i2⟩:=hI
   simp only [List.length_cons] at i2
   have hxb:=i1 x (by simp)
   have hs:=Q0a hxb
   have e:(o++(sp1++Q6s x)).size=o.size+(1+(Q6s x).size):=by
    rw [ByteArray.size_append,ByteArray.size_append]; rfl
   have hsz:sp1.size=1:=rfl
   simp only [Qeq.eq_2]
   unfold Qmd
   rw [hd,cond_true]
   show (Qac (Q1g o sp1) λsv56=>Qac (ix l i) λx58=>Qac (Qpb fu x58) λx60=>Qac (Q1g sv56 x60) λsv64=>Qeq fu l n sv64 (w64 (i+1)))=_
   rw [Quz (by omega),Qab,hx,Qab,Jdu hfu hxb,Qab,Quz (by rw [ByteArray.size_append,hsz]; omega),Qab,ByteArray.append_assoc,ih _ ⟨λm hm=>i1 m (by simp [hm]),by omega⟩]
   rfl
 · intro n o i hd _
   simp only [Qeq.eq_2]
   unfold Qmd
   rw [hd,cond_false]; rfl
def Jlc (o:ByteArray) (p:Carton×Spot):ByteArray:=o++(Qzi Q81 (Qth p.1 p.2)++nl1)
def Jjn (x:Plan):ByteArray:=bif Q41 x then (x.fV.zip x.fF).foldl Jlc ⟨#[]⟩ else ⟨#[]⟩
theorem Jav {c:Carton} {s:Spot} (h:(∀ n∈Qth c s,0≤n∧n≤999999)∧(Qth c s).length≤106):(Qzi Q81 (Qth c s)).size≤2400∧(Qzi Q81 (Qth c s)++nl1).size≤2401:=by
 have:=Q45 (Qth c s) Q81 h.1
 rw [show Q81.size=6 from rfl] at this
 refine ⟨by omega,?_⟩
 rw [ByteArray.size_append,show nl1.size=1 from rfl]
 omega
theorem Jhm {fu:Nat} {x:Plan} (h:Sp x) (hf:2097153≤fu):Qoy fu x=some (Jjn x):=by
 unfold Qoy Jjn
 rw [Jgo h (by omega),Qab]
 cases hp:Q41 x
 · rfl
 · rw [Bool.not_true,cond_false,cond_true]
   have hpp:=hp
   unfold Q41 at hpp
   simp only [Bool.and_eq_true,decide_eq_true_eq,beq_iff_eq] at hpp
   obtain ⟨p1,p2,p3⟩:=hpp
   have hz:(x.fV.zip x.fF).length=x.fV.length:=by simp; omega
   have key:=Jek (x.fV.zip x.fF) (λn (o:ByteArray) i=>Qec fu x n o i) (λ_ xs o=>some (xs.foldl Jlc o)) (λ_ xs o=>(∀ p∈xs,(∀ n∈Qth p.1 p.2,0≤n∧n≤999999)∧(Qth p.1 p.2).length≤106)∧o.size+2401*xs.length≤1000000) (by omega) ?_ ?_ fu ⟨#[]⟩ ⟨λp hp=>by
    have:=List.all_eq_true.1 p3 p hp
    rw [Bool.and_eq_true] at this
    exact Jbc this.1 this.2,by rw [hz]; show 0+_≤_; omega⟩ (by omega)
   · exact key
   · intro n o pre p xs e hq hd hI ih
     obtain ⟨i1,i2⟩:=hI
     simp only [List.length_cons] at i2
     obtain ⟨e1,e2⟩:=Q00 hq
     rw [hz] at hd
     have hn:=i1 p (by simp)
     have hsz:=Jav hn
     have hlen:[p.1.qJ,p.1.fM,p.2.fJ,p.2.fX,p.2.fY,p.2.fZ].length+p.1.fO.length≤106:=by
      have:=hn.2
      unfold Qth at this
      rwa [List.length_append] at this
     simp only [Qec.eq_2]
     unfold Qj0
     rw [hd,cond_true,e1,Qab,e2,Qab,ap1 (by omega),Qab]
     show (Qac (Qkj fu Q81 (Qth p.1 p.2)) λx141=>Qac (Q1g o x141.1) λsv145=>Qec fu x n sv145 (w64 ((pre.length:Int)+1)))=_
     rw [Jiq Q81 (by omega) (by omega) (by decide) hn.1,Qab]
     show (Qac (Q1g o (Qzi Q81 (Qth p.1 p.2)++nl1)) λsv145=>Qec fu x n sv145 (w64 ((pre.length:Int)+1)))=_
     rw [Quz (by omega),Qab]
     exact ih _ ⟨λq hq=>i1 q (by simp [hq]),by rw [ByteArray.size_append]; omega⟩
   · intro n o hd _
     rw [hz] at hd ⊢
     simp only [Qec.eq_2]
     unfold Qj0
     rw [hd,cond_false]; rfl
theorem Jic {fu:Nat} {x:Plan} (h:Sp x) (hf:2097153≤fu):Qom fu x=some (Jjn x):=by
 unfold Qom Jjn
 rw [Jku h (by omega),Qab]
 cases hp:Q41 x
 · rfl
 · rw [Bool.not_true,cond_false,cond_true]
   have hpp:=hp
   unfold Q41 at hpp
   simp only [Bool.and_eq_true,decide_eq_true_eq,beq_iff_eq] at hpp
   obtain ⟨p1,p2,p3⟩:=hpp
   have hz:(x.fV.zip x.fF).length=x.fV.length:=by simp; omega
   have key:=Jek (x.fV.zip x.fF) (λn (o:ByteArray) i=>Qe2 fu x n o i) (λ_ xs o=>some (xs.foldl Jlc o)) (λ_ xs o=>(∀ p∈xs,(∀ n∈Qth p.1 p.2,0≤n∧n≤999999)∧(Qth p.1 p.2).length≤106)∧o.size+2401*xs.length≤1000000) (by omega) ?_ ?_ fu ⟨#[]⟩ ⟨λp hp=>by
    have:=List.all_eq_true.1 p3 p hp
    rw [Bool.and_eq_true] at this
    exact Jbc this.1 this.2,by rw [hz]; show 0+_≤_; omega⟩ (by omega)
   · exact key
   · intro n o pre p xs e hq hd hI ih
     obtain ⟨i1,i2⟩:=hI
     simp only [List.length_cons] at i2
     obtain ⟨e1,e2⟩:=Q00 hq
     rw [hz] at hd
     have hn:=i1 p (by simp)
     have hsz:=Jav hn
     simp only [Qe2.eq_2]
     unfold Qjp
     rw [hd,cond_true,e1,Qab,e2,Qab,Jib hf hn,Qab,Quz (by omega),Qab]
     show (Qac (Q1g (o++Qzi Q81 (Qth p.1 p.2)) nl1) λsv91=>Qe2 fu x n sv91 (w64 ((pre.length:Int)+1)))=_
     rw [Quz (by rw [ByteArray.size_append,show nl1.size=1 from rfl]; omega),Qab,ByteArray.append_assoc]
     exact ih _ ⟨λq hq=>i1 q (by simp [hq]),by rw [ByteArray.size_append]; omega⟩
   · intro n o hd _
     rw [hz] at hd ⊢
     simp only [Qe2.eq_2]
     unfold Qjp
     rw [hd,cond_false]; rfl
end Go.Proofs.YtpcmapfabndggaaGreatDoor
