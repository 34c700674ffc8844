import Derived.Test.YtpcmapfabndggaaGreatTamperedBP4
set_option linter.unusedSimpArgs false
set_option linter.unusedVariables false
/- The plan that is made is right. -/
namespace Go.Proofs.YtpcmapfabndggaaGreat
open Go
open Enc (rd ow)
open Arg (argv)
open Ret (retv)
open Wf (wf)
def shf (n:Int) (t:Spot):Spot:=⟨t.fJ+n,t.fX,t.fY,t.fZ⟩
structure Acc (r:Request) (C:List Carton) (S:List Spot) (n:Int):Prop where
 len:S.length=C.length
 ins:∀ q∈C.zip S,(0≤q.2.fJ∧q.2.fJ<n)∧(0≤q.2.fX∧q.2.fX+(Qse r q.1).fW≤r.fJ.fW)∧(0≤q.2.fY∧q.2.fY+(Qse r q.1).fD≤r.fJ.fD)∧(0≤q.2.fZ∧q.2.fZ+(Qse r q.1).fH≤r.fJ.fH)
 apr:(C.zip S).Pairwise λa c=>Apt (Qse r a.1) a.2 (Qse r c.1) c.2
 occ:∀ k,0≤k→k<n→∃ q∈C.zip S,q.2.fJ=k
 grp:∀ a∈C.zip S,∀ c∈C.zip S,a.2.fJ=c.2.fJ→a.1.fF=c.1.fF
 grm:∀ k,Qsb (((C.zip S).filter λq=>q.2.fJ==k).map λq=>(Qse r q.1).fQ)≤r.fJ.fQ
 nn:0≤n∧n≤C.length
theorem Jfp {r:Request} (hc:Qhd r=0):Acc r [] [] 0:=by
 have hp:Qur r.fJ=true:=by
  have:=(Qei hc).1
  unfold Q28 at this
  simp only [Bool.and_eq_true] at this
  simp_all
 have:=Qt8 hp
 exact ⟨rfl,by simp,by simp,λk h0 h1=>by omega,by simp,λk=>by simp; omega,by simp⟩
theorem Jck {r:Request} (hc:Qhd r=0) {C:List Carton} {S:List Spot} {n:Int} (A:Acc r C S n) {k:Int} (hk:0≤k∧k<(Qhr r).length):Acc r (C++Q1d r k) (S++(spM r.fJ (Qw3 r k)).map (shf n)) (n+Qxk (spM r.fJ (Qw3 r k))):=by
 have g:=Jgr (Q4l hc hk)
 have hpal:=Jft g (by have:=Q53 r k; omega)
 rw [hpal]
 generalize ((ldM r.fJ (lyM r.fJ (shM r.fJ (Qw3 r k)))).length:Int)=N at g
 rw [Q10 hk] at g
 generalize hT:spM r.fJ (Qw3 r k)=T
 rw [show spM r.fJ ((Q1d r k).map (Qse r))=T by rw [← Q10 hk,hT]] at g
 have hD:∀ c∈Q1d r k,c.fF=k:=λc hc=>by
  unfold Q1d at hc
  obtain ⟨l,_,rfl⟩:=List.mem_map.1 hc
  rfl
 generalize Q1d r k=D at g hD
 have hlen:T.length=D.length:=by have:=g.len; simpa using this
 have hN:=g.nn
 rw [List.length_map] at hN
 have hA:=A.nn
 have hz:(C++D).zip (S++T.map (shf n))=C.zip S++(D.zip T).map (Prod.map id (shf n)):=by rw [List.zip_append A.len.symm,List.zip_map_right]
 have hzb:(D.map (Qse r)).zip T=(D.zip T).map (Prod.map (Qse r) id):=List.zip_map_left ..
 have gi:∀ q∈D.zip T,_:=λq hq=>g.ins (Prod.map (Qse r) id q) (by rw [hzb]; exact List.mem_map.2 ⟨q,hq,rfl⟩)
 have ga:=g.apr
 have gg:=g.grm
 have go:=g.occ
 rw [hzb] at ga gg go
 refine ⟨by simp [A.len,hlen],λq hq=>?_,?_,λj j0 j1=>?_,λa ha c hc' e=>?_,λj=>?_,by simp; omega⟩
 · rw [hz] at hq
   rcases List.mem_append.1 hq with hq | hq
   · obtain ⟨h1,h2⟩:=A.ins q hq
     exact ⟨by omega,h2⟩
   · obtain ⟨a,ha,rfl⟩:=List.mem_map.1 hq
     obtain ⟨h1,h2⟩:=gi a ha
     exact ⟨by simp only [Prod.map,shf,id] at h1 ⊢; omega,h2⟩
 · rw [hz]
   refine List.pairwise_append.2 ⟨A.apr,List.pairwise_map.2 ((List.pairwise_map.1 ga).imp fun {a c} h=>?_),λa ha c hc'=>?_⟩
   · simp only [Apt,Prod.map,shf,id] at h ⊢
     omega
   · obtain ⟨d,hd,rfl⟩:=List.mem_map.1 hc'
     have h1:=(A.ins a ha).1
     have h2:=(gi d hd).1
     refine .inl ?_
     simp only [Prod.map,shf,id] at h2 ⊢
     omega
 · rw [hz]
   by_cases h:j<n
   · obtain ⟨q,hq,e⟩:=A.occ j j0 h
     exact ⟨q,List.mem_append_left _ hq,e⟩
   · obtain ⟨q,hq,e⟩:=go (j - n) (by omega) (by omega)
     obtain ⟨d,hd,rfl⟩:=List.mem_map.1 hq
     refine ⟨_,List.mem_append_right _ (List.mem_map.2 ⟨d,hd,rfl⟩),?_⟩
     simp only [Prod.map,shf,id] at e ⊢
     omega
 · rw [hz] at ha hc'
   rcases List.mem_append.1 ha with ha | ha <;> rcases List.mem_append.1 hc' with hc' | hc'
   · exact A.grp a ha c hc' e
   · obtain ⟨d,hd,rfl⟩:=List.mem_map.1 hc'
     have h1:=(A.ins a ha).1
     have h2:=(gi d hd).1
     simp only [Prod.map,shf,id] at e h2
     omega
   · obtain ⟨d,hd,rfl⟩:=List.mem_map.1 ha
     have h1:=(A.ins c hc').1
     have h2:=(gi d hd).1
     simp only [Prod.map,shf,id] at e h2
     omega
   · obtain ⟨d,hd,rfl⟩:=List.mem_map.1 ha
     obtain ⟨d',hd',rfl⟩:=List.mem_map.1 hc'
     simp only [Prod.map,id,hD _ (List.of_mem_zip hd).1,hD _ (List.of_mem_zip hd').1]
 · rw [hz,List.filter_append,List.map_append,Qod]
   have hp:(0:Int)≤r.fJ.fQ:=by have:=(Qt8 (Qxp (Q4l hc hk))).2.2.2; omega
   by_cases h:j<n
   · have e:((D.zip T).map (Prod.map id (shf n))).filter (λq=>q.2.fJ==j)=[]:=List.filter_eq_nil_iff.2 λq hq=>by
       obtain ⟨d,hd,rfl⟩:=List.mem_map.1 hq
       have h2:=(gi d hd).1
       simp only [Prod.map,shf,id,beq_iff_eq] at h2 ⊢
       omega
     rw [e]
     have:=A.grm j
     simpa using this
   · have e:(C.zip S).filter (λq=>q.2.fJ==j)=[]:=List.filter_eq_nil_iff.2 λq hq=>by
       have h2:=(A.ins q hq).1
       simp only [beq_iff_eq]
       omega
     have h3:=gg (j - n)
     rw [List.filter_map,List.map_map] at h3
     rw [e,List.filter_map,List.map_map,List.map_nil,Qt6,Int.zero_add]
     have e2:((λq:Carton×Spot=>q.2.fJ==j) ∘ Prod.map id (shf n))=((λq:Box×Spot=>q.2.fJ==j - n) ∘ Prod.map (Qse r) id):=by
      funext q
      simp only [Function.comp,Prod.map,shf,id]
      rw [Bool.eq_iff_iff,beq_iff_eq,beq_iff_eq]
      omega
     rw [e2]
     exact h3
theorem Q95 {r:Request} (hc:Qhd r=0):∀ (ks:List Int) (C:List Carton) (s:List Spot×Int),(∀ k∈ks,0≤k∧k<(Qhr r).length)→Acc r C s.1 s.2→Acc r (C++Qyi r ks) (ks.foldl (plS r) s).1 (ks.foldl (plS r) s).2
 | [],C,s,_,A=>by simpa [Qyi] using A
 | k::ks,C,s,h,A=>by
  rw [List.foldl_cons,Qyi,← List.append_assoc]
  exact Q95 hc ks _ _ (λj hj=>h j (by simp [hj])) (Jck hc A (h k (by simp)))
theorem Jff {r:Request} (hc:Qhd r=0):∃ n,Acc r (Q0a r).1.fV (Q0a r).1.fT n:=by
 unfold Q0a
 rw [show (Qhd r==0)=true by simp [hc],cond_true]
 exact ⟨_,Q95 hc (Qf2 0 (Qhr r).length) [] ([],0) (λk hk=>by have:=Qc3.1 hk; omega) (Jfp hc)⟩
theorem Jbj:∀ (l pre:List Int),(pre++l).Pairwise (·<·)→(∀ x∈l,0≤x∧x≤999)→Jeu pre l=true
 | [],_,_,_=>rfl
 | x::l,pre,hp,hb=>by
  unfold Jeu
  rw [Bool.and_eq_true,Bool.and_eq_true,Qco]
  refine ⟨hb x (by simp),?_,Jbj l (pre++[x]) (by simpa using hp) λy hy=>hb y (by simp [hy])⟩
  cases he:pre.getLast? with
  | none=>rfl
  | some y =>
   have hy:=List.mem_of_getLast? he
   have:=(List.pairwise_append.1 hp).2.2 y hy x (by simp)
   simpa using this
theorem Jev {l:List Int} (h:l.Nodup):(Q73 l).Pairwise (·<·):=by
 have h1:=Qqs l
 have h2:(Q73 l).Nodup:=(Qs9 l).nodup_iff.2 h
 exact (List.Pairwise.and h1 h2).imp λh=>by have:=h.1; have:=h.2; omega
theorem Jda {r:Request} {k:Int} {l:List Int} (hl:l∈pwM r (Qve r k)):l.Nodup:=by
 have h:=Q9n r (Qve r k)
 rw [Q52] at h
 have:=h.nodup_iff.2 (Q33 r k)
 exact (List.pairwise_flatten.1 this).1 l hl
theorem Jb6 {r:Request} {a b:List Int} (h:a.Perm b):Qvs r a=Qvs r b:=by
 unfold Qvs
 have e:chp r a=chp r b:=by
  funext s t
  unfold chp
  rw [Q6y h]
 rw [e]
theorem Je6 {r:Request} (hc:Qhd r=0):(Q0a r).1.fV=Quv r:=by
 unfold Q0a
 rw [show (Qhd r==0)=true by simp [hc],cond_true]
theorem Q4e {r:Request} {c:Carton} (h:c∈Quv r):Jgg c=true∧chB r c=true∧cgB r c=true∧ccB r c=true∧c.f0≠[]:=by
 have hgc:=Jgz h
 obtain ⟨k,hk,l,hl,rfl⟩:=Qwo.1 h
 have hk':=Qc3.1 hk
 have hq:=Jgv l hl
 obtain ⟨hc,h2,h3,h4,h5⟩:=Q8v hq
 have hz:=Qei hc
 have ht:=Qwy hz.1 _ h3
 simp only [Q13,Bool.and_eq_true,Qco] at ht
 have hg4:=(Qtk r).1
 have hp:=Qs9 l
 have hun:=Qws r
 obtain ⟨g1,g2,g3⟩:=hgc
 refine ⟨?_,?_,?_,?_,g1.1⟩
 · unfold Jgg Jht
   simp only [Bool.and_eq_true,Qco,decide_eq_true_eq]
   refine ⟨by simp only [Q5p]; omega,by simp only [Q5p]; omega,Jbj _ _ (Jev (Jda hl)) λx hx=>?_,?_⟩
   · have:=(Qu6 (g3 x hx)).1
     omega
   · have:=Qwl h
     omega
 · unfold chB
   show (match Qtc r (Qvs r l).1.qQ with | some t=>Qyx r (Q73 l) t | none=>false)=true
   rw [h5]
   simp only [Q6y hp,h4]
 · unfold cgB
   refine List.all_eq_true.2 λu hu=>?_
   obtain ⟨_,g,hg,hag⟩:=Qu6 (g3 u hu)
   have e:=Jdu (Qaj hg).2.2 hag
   have:=(Qaj hg).1
   unfold Jcw at e
   rw [e,beq_iff_eq]
   omega
 · unfold ccB
   show ((Qvs r (Q73 l)).2&&(Qvs r (Q73 l)).1.qQ==(Qvs r l).1.qQ)=true
   rw [Jb6 hp,h2]; simp
theorem Jhu {x:Plan} (el:x.fT.length=x.fV.length) (k:Int) (f:Carton→Int):(onM x k).map (λi=>f (Q2r x i))=((cs x).filter λq=>q.2.fJ==k).map λq=>f q.1:=by
 have key:∀ (C:List Carton) (S:List Spot) (pre:List Carton),x.fV=pre++C→S.length=C.length→(onL k pre.length S).map (λi=>f (Q2r x i))=((C.zip S).filter λq=>q.2.fJ==k).map λq=>f q.1:=by
  intro C
  induction C with
  | nil=>intro S pre _ h; rw [show S=[] from List.eq_nil_of_length_eq_zero (by simpa using h)]; rfl
  | cons c C ih =>
   intro S pre he h
   match S,h with
   | s::S,h =>
    have h1:=ih S (pre++[c]) (by simp [he]) (by simpa using h)
    have e3:(((pre++[c]).length:Nat):Int)=(pre.length:Int)+1:=by simp
    rw [e3] at h1
    have h2:Q2r x (pre.length:Int)=c:=by unfold Q2r; rw [Qix,he]; simp
    rw [List.zip_cons_cons,List.filter_cons]
    unfold onL
    cases s.fJ==k
    · simpa using h1
    · simp [h1,h2]
 unfold onM cs
 rw [show (x.fT.length==x.fV.length)=true by simp [el],cond_true]
 exact key x.fV x.fT [] rfl el
theorem Jec {r:Request} (hc:Qhd r=0) {c:Carton} (h:c∈Quv r):(1≤(Qse r c).fW∧1≤(Qse r c).fD∧1≤(Qse r c).fH)∧(Qse r c).fQ=Q8a r c:=by
 obtain ⟨k,hk,l,hl,rfl⟩:=Qwo.1 h
 have hb:=(Jat (Jgv l hl) k).2
 obtain ⟨_,h2,h3,h4,h5⟩:=Q8v (Jgv l hl)
 simp only [Jbp,Bool.and_eq_true,Qco] at hb
 refine ⟨⟨hb.1.1,hb.2.1.1,hb.2.2.1.1⟩,?_⟩
 unfold Qse Q8a Q5p
 simp only [h5,show (Qhd r==0)=true by simp [hc],cond_true]
theorem Jfg {r:Request} (hc:Qhd r=0):FeaI r (Q0a r).1:=by
 obtain ⟨n,A⟩:=Jff hc
 obtain ⟨l1,l2,l3⟩:=Q48 r
 have hcar:=Je6 hc
 have hp:Qur r.fJ=true:=by
  have:=(Qei hc).1
  unfold Q28 at this
  simp only [Bool.and_eq_true] at this
  simp_all
 obtain ⟨p1,p2,p3,p4⟩:=Qt8 hp
 have hn:=A.nn
 generalize Q0a r=X at *
 obtain ⟨x,b⟩:=X
 simp only at *
 have hpal:Qxk x.fT=n:=by
  refine Jdx ⟨hn.1,by omega⟩ (λs hs=>?_) λk k0 k1=>?_
  · obtain ⟨q,hq,rfl⟩:=Jbo l1 hs
    exact (A.ins q hq).1
  · obtain ⟨q,hq,e⟩:=A.occ k k0 k1
    exact ⟨q.2,(List.of_mem_zip hq).2,e⟩
 have hcm:∀ q∈cs x,q.1∈Quv r:=λq hq=>by rw [← hcar]; exact (List.of_mem_zip hq).1
 have hbd:∀ q∈cs x,((0≤q.2.fJ∧q.2.fJ<2000)∧(0≤q.2.fX∧q.2.fX+(Qse r q.1).fW≤r.fJ.fW)∧(0≤q.2.fY∧q.2.fY+(Qse r q.1).fD≤r.fJ.fD)∧(0≤q.2.fZ∧q.2.fZ+(Qse r q.1).fH≤r.fJ.fH))∧(1≤(Qse r q.1).fW∧1≤(Qse r q.1).fD∧1≤(Qse r q.1).fH):=λq hq=>by
  obtain ⟨h1,h2⟩:=A.ins q hq
  exact ⟨⟨by omega,h2⟩,(Jec hc (hcm q hq)).1⟩
 refine ⟨hc,?_,?_,?_,?_,?_,?_,?_,?_,?_⟩
 · unfold Q7z
   rw [Bool.and_eq_true,Bool.and_eq_true,beq_iff_eq,decide_eq_true_eq]
   refine ⟨l1,by omega,List.all_eq_true.2 λq hq=>?_⟩
   rw [Bool.and_eq_true]
   refine ⟨(Q4e (hcm q hq)).1,?_⟩
   obtain ⟨h1,h2⟩:=hbd q hq
   unfold Jgm
   simp only [Bool.and_eq_true,Qco]
   omega
 · unfold Jfy
   rw [hcar]
   refine List.any_eq_false.2 λc hc'=>?_
   have:=(Q4e hc').2.2.2.2
   have:=List.length_pos_iff.2 this
   simp only [beq_iff_eq]
   omega
 · rw [Q3a,hcar]
   exact (Q4w r _).trans (Jes r)
 · rw [hcar]; exact List.all_eq_true.2 λc h=>(Q4e h).2.1
 · rw [hcar]; exact List.all_eq_true.2 λc h=>(Q4e h).2.2.1
 · rw [hcar]; exact List.all_eq_true.2 λc h=>(Q4e h).2.2.2.1
 · refine List.all_eq_true.2 λq hq=>?_
   obtain ⟨h1,h2⟩:=hbd q hq
   unfold Q8e Jdh Q7v
   simp only [Bool.and_eq_true,Qco,decide_eq_true_eq]
   rw [Qa4 (by omega) (by omega),Qa4 (by omega) (by omega),Qa4 (by omega) (by omega)]
   omega
 · refine Jbh _ _ ?_
   rw [List.nil_append]
   refine A.apr.imp_of_mem fun {a c} ha hc' hs=>?_
   obtain ⟨h1,h2⟩:=hbd a ha
   obtain ⟨k1,k2⟩:=hbd c hc'
   rw [← Bool.not_eq_true]
   intro ho
   unfold ovP Jgb Jbv Q7v at ho
   simp only [Bool.and_eq_true,Qco,decide_eq_true_eq,beq_iff_eq] at ho
   obtain ⟨_,_,o3,⟨o4,o5⟩,⟨o6,o7⟩,o8,o9⟩:=ho
   rw [Qa4 (by omega) (by omega)] at o4 o5 o6 o7 o8 o9
   unfold Apt at hs
   omega
 · rw [hpal]
   refine List.all_eq_true.2 λk hk=>?_
   have hk:=Qc3.1 hk
   have hon:=Jhu l1 k
   have hne:onM x k≠[]:=λe=>by
    obtain ⟨q,hq,e1⟩:=A.occ k (by omega) (by omega)
    have h1:=hon λ_=>0
    rw [e] at h1
    have h2:q∈(cs x).filter λq=>q.2.fJ==k:=List.mem_filter.2 ⟨hq,by simp [e1]⟩
    have h3:=List.map_eq_nil_iff.1 h1.symm
    rw [h3] at h2
    simp at h2
   have hpos:=List.length_pos_iff.2 hne
   have h0:(((onM x k).length:Int)==0)=false:=by simp; exact hne
   obtain ⟨i0,c0,e1,e2,rest,e3⟩:=Ja5 h0
   unfold plB
   rw [h0,Bool.not_false,Bool.true_and,Bool.and_eq_true]
   constructor
   · have e:pgM r x k=Qsb (((cs x).filter λq=>q.2.fJ==k).map λq=>(Qse r q.1).fQ):=by
       unfold pgM
       rw [hon]
       congr 1
       exact List.map_congr_left λq hq=>((Jec hc (hcm q ((List.mem_filter.1 hq).1))).2).symm
     have:=A.grm k
     rw [e]
     simp only [Bool.not_eq_true',decide_eq_false_iff_not]
     exact Int.not_lt.2 this
   · have hall:∀ i∈onM x k,∃ q∈cs x,q.2.fJ=k∧q.1=Q2r x i:=λi hi=>by
       obtain ⟨c,s,h1,h2,h3⟩:=Q3f hi
       exact ⟨(c,s),List.mem_iff_getElem?.2 ⟨i.toNat,List.getElem?_zip_eq_some.2 ⟨(Qaj h1).2.2,(Qaj h2).2.2⟩⟩,h3,by unfold Q2r; rw [h1]; rfl⟩
     refine List.all_eq_true.2 λi hi=>?_
     obtain ⟨q,hq,q1,q2⟩:=hall i hi
     rw [e1]
     obtain ⟨q',hq',q1',q2'⟩:=hall i0 (by rw [e3]; simp)
     rw [Option.getD_some,← q2,← q2',beq_iff_eq]
     exact A.grp q hq q' hq' (by rw [q1,q1'])
end Go.Proofs.YtpcmapfabndggaaGreat
/- Plans that are tampered with are not right. -/
namespace Go.Proofs.YtpcmapfabndggaaGreat
open Go
open Enc (rd ow)
open Arg (argv)
open Ret (retv)
open Wf (wf)
theorem Q66 {r:Request} {x y:Plan} (hf:Q0x r x=true) (h:(Qtd y.fV).length≠(Qtd x.fV).length):Q0x r y=false:=by
 rw [← Bool.not_eq_true]
 intro hy
 have h1:=(Q3a.1 (Qv1.1 hf).once).length_eq
 have h2:=(Q3a.1 (Qv1.1 hy).once).length_eq
 omega
theorem Q4f:∀ (l:List Carton) (i:Nat) (c d:Carton),l[i]? = some c→(Qtd (l.set i d)).length+c.f0.length=(Qtd l).length+d.f0.length
 | [],i,c,d,h=>by simp at h
 | a::l,0,c,d,h=>by
  simp only [List.getElem?_cons_zero,Option.some.injEq] at h
  subst h
  simp only [List.set_cons_zero,Qtd,List.map_cons,List.flatten_cons,List.length_append]
  omega
 | a::l,i+1,c,d,h=>by
  have ih:=Q4f l i c d (by simpa using h)
  simp only [Qtd] at ih
  simp only [List.set_cons_succ,Qtd,List.map_cons,List.flatten_cons,List.length_append]
  omega
theorem Qx4 {r:Request} {x:Plan} (hf:Q0x r x=true) {c:Carton} (h:c∈x.fV):1≤c.f0.length:=by
 have he:=(Qv1.1 hf).emp
 unfold Jfy at he
 have:=List.any_eq_false.1 he c h
 simp only [beq_iff_eq] at this
 omega
theorem Jcb {r:Request} {x:Plan} (hf:Q0x r x=true) {i:Nat} {c:Carton} (hi:x.fV[i]? = some c) (s:List Spot) {d:Carton} (hd:d.f0.length+1=c.f0.length):Q0x r ⟨x.fV.set i d,s⟩=false:=by
 refine Q66 hf ?_
 have:=Q4f x.fV i c d hi
 show (Qtd (x.fV.set i d)).length≠_
 omega
theorem Jcr {r:Request} {x:Plan} (hf:Q0x r x=true) {c:Carton} (hc:c∈x.fV) (s:List Spot):Q0x r ⟨x.fV++[c],s⟩=false:=by
 refine Q66 hf ?_
 have:=Qx4 hf hc
 show (Qtd (x.fV++[c])).length≠_
 simp only [Qtd,List.map_append,List.map_cons,List.map_nil,List.flatten_append,List.flatten_cons,List.flatten_nil,List.append_nil,List.length_append]
 omega
theorem Q31 {x:Plan} {i:Nat} {c:Carton} {s:Spot} (hc:x.fV[i]? = some c) (hs:x.fT[i]? = some s):(cs x)[i]? = some (c,s):=List.getElem?_zip_eq_some.2 ⟨hc,hs⟩
theorem Jfm {r:Request} {x:Plan} (hf:Q0x r x=true) {i:Nat} {c:Carton} {s:Spot} (hc:x.fV[i]? = some c) (hs:x.fT[i]? = some s):Jdn r ⟨x.fV,x.fT.set i ⟨s.fJ,r.fJ.fW,s.fY,s.fZ⟩⟩=7:=by
 have hI:=Qv1.1 hf
 have el:=Jbw hf
 obtain ⟨p1,p2,p3⟩:=Jfb hf
 have hin:=List.all_eq_true.1 hI.ins (c,s) (List.mem_of_getElem? (Q31 hc hs))
 have hw:0<(Qse r c).fW∧(Qse r c).fW≤r.fJ.fW:=by
  unfold Q8e Jdh Q7v at hin
  simp only [Bool.and_eq_true,Qco,decide_eq_true_eq] at hin
  obtain ⟨⟨k1,k2,k3,k4,k5,k6⟩,h1,h2,h3,h4,h5,h6⟩:=hin
  rw [Qa4 (by omega) (by omega)] at h4
  omega
 have hil:=(List.getElem?_eq_some_iff.1 hs).1
 have hpok:=hI.pok
 have e1:Q7z ⟨x.fV,x.fT.set i ⟨s.fJ,r.fJ.fW,s.fY,s.fZ⟩⟩=true:=by
  unfold Q7z at hpok ⊢
  simp only [Bool.and_eq_true] at hpok ⊢
  refine ⟨by simpa using el,hpok.2.1,List.all_eq_true.2 λq hq=>?_⟩
  obtain ⟨j,hj⟩:=List.mem_iff_getElem?.1 hq
  obtain ⟨j1,j2⟩:=List.getElem?_zip_eq_some.1 hj
  by_cases e:i=j
  · subst e
    rw [List.getElem?_set,if_pos rfl,if_pos hil] at j2
    have h1:=List.all_eq_true.1 hpok.2.2 (c,s) (List.mem_of_getElem? (Q31 hc hs))
    rw [Bool.and_eq_true] at h1 ⊢
    rw [hc] at j1
    rw [← Option.some.inj j1,← Option.some.inj j2]
    refine ⟨h1.1,?_⟩
    have h2:=h1.2
    unfold Jgm at h2 ⊢
    simp only [Bool.and_eq_true,Qco] at h2 ⊢
    omega
  · rw [List.getElem?_set,if_neg e] at j2
    exact List.all_eq_true.1 hpok.2.2 q (List.mem_of_getElem? (List.getElem?_zip_eq_some.2 ⟨j1,j2⟩))
 have e2:(cs ⟨x.fV,x.fT.set i ⟨s.fJ,r.fJ.fW,s.fY,s.fZ⟩⟩).all (Q8e r)=false:=by
  refine List.all_eq_false.2 ⟨(c,⟨s.fJ,r.fJ.fW,s.fY,s.fZ⟩),List.mem_of_getElem? (Q31 (x:=⟨x.fV,x.fT.set i ⟨s.fJ,r.fJ.fW,s.fY,s.fZ⟩⟩) (i:=i) hc (by
   show (x.fT.set i _)[i]? = _
   rw [List.getElem?_set,if_pos rfl,if_pos hil])),?_⟩
  rw [Bool.not_eq_true,← Bool.not_eq_true]
  unfold Q8e Jdh
  simp only [Bool.and_eq_true,decide_eq_true_eq]
  rintro ⟨_,_,_,_,h,_⟩
  rw [Qa4 (by omega) (by omega)] at h
  omega
 unfold Jdn
 have e3:Jfy ⟨x.fV,x.fT.set i ⟨s.fJ,r.fJ.fW,s.fY,s.fZ⟩⟩=false:=hI.emp
 have e4:Q5i r ⟨x.fV,x.fT.set i ⟨s.fJ,r.fJ.fW,s.fY,s.fZ⟩⟩=true:=hI.once
 rw [e1,e2,e3,e4,hI.c,hI.ch,hI.cg,hI.cc]
 rfl
theorem Jh6 {r:Request} {x:Plan} (hf:Q0x r x=true) {i j:Nat} (hij:i≠j) {c d:Carton} {s t:Spot} (hc:x.fV[i]? = some c) (hs:x.fT[i]? = some s) (hd:x.fV[j]? = some d) (ht:x.fT[j]? = some t):Q0x r ⟨x.fV,x.fT.set i t⟩=false:=by
 have hil:=(List.getElem?_eq_some_iff.1 hs).1
 have g1:=Q31 (x:=⟨x.fV,x.fT.set i t⟩) (i:=i) (s:=t) hc (by
  show (x.fT.set i _)[i]? = _
  rw [List.getElem?_set,if_pos rfl,if_pos hil])
 have g2:=Q31 (x:=⟨x.fV,x.fT.set i t⟩) (i:=j) (s:=t) hd (by
  show (x.fT.set i _)[j]? = _
  rw [List.getElem?_set,if_neg hij,ht])
 rw [← Bool.not_eq_true]
 intro hy
 have hI:=Qv1.1 hy
 have hpw:=Jd3 (r:=r) (cs ⟨x.fV,x.fT.set i t⟩) [] List.Pairwise.nil hI.apr
 rw [List.nil_append,List.pairwise_iff_getElem] at hpw
 have i1:=List.all_eq_true.1 hI.ins _ (List.mem_of_getElem? g1)
 have i2:=List.all_eq_true.1 hI.ins _ (List.mem_of_getElem? g2)
 have key:∀ a b:Carton,Q8e r (a,t)=true→Q8e r (b,t)=true→ovP r (a,t) (b,t)=true:=λa b h1 h2=>by
  unfold Q8e Jdh Q7v at h1 h2
  unfold ovP Jgb Jbv Q7v
  simp only [Bool.and_eq_true,Qco,decide_eq_true_eq,beq_iff_eq] at h1 h2 ⊢
  obtain ⟨⟨k1,k2,k3,k4,k5,k6⟩,h11,h12,h13,h14,h15,h16⟩:=h1
  obtain ⟨⟨l1,l2,l3,l4,l5,l6⟩,h21,h22,h23,h24,h25,h26⟩:=h2
  rw [Qa4 (by omega) (by omega),Qa4 (by omega) (by omega),Qa4 (by omega) (by omega),Qa4 (by omega) (by omega),Qa4 (by omega) (by omega),Qa4 (by omega) (by omega)]
  simp only [true_and]
  omega
 obtain ⟨a1,a2⟩:=List.getElem?_eq_some_iff.1 g1
 obtain ⟨b1,b2⟩:=List.getElem?_eq_some_iff.1 g2
 rcases Nat.lt_or_gt_of_ne hij with hlt | hlt
 · have:=hpw i j a1 b1 hlt
   rw [a2,b2,key d c i2 i1] at this
   cases this
 · have:=hpw j i b1 a1 hlt
   rw [a2,b2,key c d i1 i2] at this
   cases this
end Go.Proofs.YtpcmapfabndggaaGreat
/- 'in' of spec and of impl: between two bounds. -/
namespace Go.Proofs.YtpcmapfabndggaaGreat
open Go
open Enc (rd ow)
open Arg (argv)
open Ret (retv)
open Wf (wf)
def inB (n lo hi:Int):Bool:=decide (lo≤n∧n≤hi)
theorem Q5v {n lo hi:Int}:inB n lo hi=true↔lo≤n∧n≤hi:=by simp [inB]
theorem Jfx (fu:Nat) (n lo hi:Int):Qbe fu n lo hi=some (inB n lo hi):=by
 unfold Qbe inB
 by_cases h:n≥lo
 · rw [Qbj (by simpa using h)]
   have:lo≤n:=h
   simp [this]
 · rw [Qay (by simpa using h)]
   have:¬ lo≤n:=h
   simp [this]
theorem Jcx (fu:Nat) (n lo hi:Int):Qbh fu n lo hi=some (inB n lo hi):=Jfx fu n lo hi
end Go.Proofs.YtpcmapfabndggaaGreat
/- PalletOk and BoxesOk of spec and of impl, as one Bool. -/
namespace Go.Proofs.YtpcmapfabndggaaGreat
open Go
open Enc (rd ow)
open Arg (argv)
open Ret (retv)
open Wf (wf)
def Qt3 (p:Pallet):Bool:=inB p.fW 1 2000&&(inB p.fD 1 2000&&(inB p.fH 1 2000&&inB p.fQ 1 100000))
def Jgc (p:Pallet) (b:Box):Bool:=inB b.fW 1 p.fW&&(inB b.fD 1 p.fD&&(inB b.fH 1 p.fH&&inB b.fQ 1 p.fQ))
def Q6p (p:Pallet) (l:List Box):Bool:=Qt3 p&&l.all (Jgc p)
theorem Qs1 (fu:Nat) (p:Pallet):Qe7 fu p=some (Qt3 p):=by
 unfold Qe7 Qc5 Qt3
 simp only [Jcx,Qab]
 cases inB p.fW 1 2000 <;> cases inB p.fD 1 2000 <;> cases inB p.fH 1 2000 <;> rfl
theorem Q5y (fu:Nat) (b:Box) (p:Pallet):Qmz fu b p=some (!Jgc p b):=by
 unfold Qmz Jgc
 simp only [Jcx,Qab]
 cases inB b.fW 1 p.fW <;> cases inB b.fD 1 p.fD <;> cases inB b.fH 1 p.fH <;> rfl
theorem Q1c (fu:Nat) (l:List Box) (f:Box→Option Bool) (g:Box→Bool) (hg:∀ b,f b=some (g b)) (h:l.length≤1048576) (hf:l.length<fu) :
    Qb4 fu l f=some (l.any g):=by
 unfold Qb4 Qdi
 have key:∀ (m i n:Nat),l.length - i=m→i≤l.length→m<n→∃ r,Qa3 fu l f n i=some r∧decide (r≥0)=(l.drop i).any g:=by
  intro m
  induction m with
  | zero =>
   intro i n hm hi hn
   obtain ⟨n,rfl⟩:∃ k,n=k+1:=⟨n - 1,by omega⟩
   rw [Qa3.eq_2]
   unfold Qcu
   rw [Qay (by simp; omega),List.drop_eq_nil_of_le (by omega)]
   exact ⟨_,rfl,rfl⟩
  | succ m ih =>
   intro i n hm hi hn
   obtain ⟨n,rfl⟩:∃ k,n=k+1:=⟨n - 1,by omega⟩
   have hlt:i<l.length:=by omega
   rw [Qa3.eq_2]
   unfold Qcu
   rw [Qbj (by simpa using hlt),Jel (Ja0 (List.getElem?_eq_getElem hlt)),hg,Qab,List.drop_eq_getElem_cons hlt,List.any_cons]
   cases hgx:g l[i]
   · rw [Qay rfl,Qa4 (by omega) (by omega),Bool.false_or]
     have:=ih (i+1) n (by omega) (by omega) (by omega)
     simpa using this
   · rw [Qbj rfl]
     exact ⟨_,rfl,by simp⟩
 obtain ⟨r,h1,h2⟩:=key l.length 0 fu (by omega) (by omega) hf
 have h1':Qa3 fu l f fu 0=some r:=h1
 rw [h1',Qab,h2]
 rfl
theorem Qvn (fu:Nat) (p:Pallet) (l:List Box) (h:l.length≤1048576) (hf:l.length<fu):Qm6 fu p l=some (Q6p p l):=by
 unfold Qm6 Q6p
 rw [Qs1,Qab]
 cases Qt3 p
 · rfl
 rw [Qbj rfl,Q1c fu l _ (λb=>!Jgc p b) (λb=>Q5y fu b p) h hf,Qab,Bool.true_and]
 congr 1
 induction l with
 | nil=>rfl
 | cons x xs ih =>
  simp only [List.any_cons,List.all_cons,Bool.not_or,Bool.not_not]
  rw [ih (by simp at h; omega) (by simp at hf; omega)]
end Go.Proofs.YtpcmapfabndggaaGreat
/- Shelves and layers of impl. -/
namespace Go.Proofs.YtpcmapfabndggaaGreat
open Go
open Enc (rd ow)
open Arg (argv)
open Ret (retv)
open Wf (wf)
theorem Jdr (p:Pallet) (l:List Box):Q6p p l=Qyz p l:=by
 have e:∀ a b c:Int,inB a b c=inb a b c:=λa b c=>Bool.eq_iff_iff.2 (by rw [Q5v,Qco])
 have e2:Jgc p=Jbp p:=by funext b; unfold Jgc Jbp; simp only [e]
 unfold Q6p Qyz Qt3 Qur
 simp only [e,e2]
theorem Jfc (a b:Int):(if b>a then b else a)=mxI a b:=by unfold mxI; split <;> split <;> omega
theorem Q26 {α:Type} (l:List α) (j:Nat) (a:α):Qe5 l (j:Int) a=l.set j a:=by simp [Qe5]
theorem Jdm {fu:Nat} {k8:List Shelf→Int→Option (List Shelf)} {x i:Int} {b:Box} {o:List Shelf} {j:Nat} {s:Shelf} (hs:o[j]? = some s) (hl:s.f9.length≤1000000)
    (h1:-1000000000≤s.fW+b.fW∧s.fW+b.fW≤1000000000) (h2:-1000000000≤s.fQ+b.fQ∧s.fQ+b.fQ≤1000000000):Qd0 fu k8 x i b o (j:Int)=k8 (o.set j (Qqn s i b)) (w64 (x+1)):=by
 unfold Qd0 Qol
 rw [Qix,hs,Qab,ap1 (by simp; omega),Qab]
 simp only [Qab,Q26,List.set_set,Jfc]
 rw [Qa4 (n:=s.fW+b.fW) (by omega) (by omega),Qa4 (n:=s.fQ+b.fQ) (by omega) (by omega)]
 rfl
theorem Jba {fu:Nat} (hfu:2097153≤fu) (p:Pallet) (l:List Box) (hl:l.length<20):Qp3 fu p l=some (shM p l):=by
 unfold Qp3 shM
 rw [Qvn fu p l (by omega) (by omega),Qab,Jdr]
 cases hb:Qyz p l
 · rfl
 · rw [Bool.not_true,cond_false,cond_true]
   have key:=lpI l (λn (o:List Int) i=>Qg2 fu p l n o i) (λxs o=>Qac (Qhg fu (o++xs.map (·.fD))) λx=>Qb9 fu p l x fu [] 0) (λxs o=>o.length+xs.length≤1000) (by omega) ?_ ?_ fu [] (by simp; omega) (by omega)
   · rw [key,List.nil_append,Jeb hfu (by simp; omega),Qab,List.length_map]
     have hsl:=Qtn (dnk (l.map (·.fD))) l.length
     have hsm:=λx=>Qxn (k:=dnk (l.map (·.fD))) (n:=l.length) (x:=x)
     generalize srt (dnk (l.map (·.fD))) l.length=S at hsl hsm ⊢
     refine lpI S (λn (o:List Shelf) i=>Qb9 fu p l S n o i) (λxs o=>some (xs.foldl (shS p l) o)) (λxs o=>(∀ i∈xs,0≤i∧i<l.length)∧(∀ s∈o,ShI p l.length s)∧((o.map (·.f9)).flatten).length+xs.length≤1000∧o.length+xs.length≤1000) (by omega) ?_ ?_ fu [] ⟨λi hi=>(hsm i).1 hi,by simp,by simp; omega,by simp; omega⟩ (by omega)
     · intro n o i x xs hx hd hI ih
       obtain ⟨i1,i2,i3,i4⟩:=hI
       simp only [List.length_cons] at i3 i4
       have hxi:=i1 x (by simp)
       obtain ⟨hbx,b1,b2,b3,b4⟩:=Qx9 hb hxi
       obtain ⟨p1,p2,p3,p4⟩:=Qt8 (Qxp hb)
       have hflat:((shS p l o x).map (·.f9)).flatten=(o.map (·.f9)).flatten++[x]:=Qsw (λs=>rfl) rfl
       have hlen:(shS p l o x).length≤o.length+1:=Qty _ _ _ _
       have ih':=ih (shS p l o x) ⟨λj hj=>i1 j (by simp [hj]),Q5m hb hxi i2,by rw [hflat,List.length_append,List.length_singleton]; omega,by omega⟩
       simp only [Qb9.eq_2]
       unfold Qk5
       rw [hd,cond_true,hx,Qab,hbx,Qab,List.foldl_cons,← ih']
       have hnew:∀ o':List Shelf,o'.length≤1000→Qd0 fu (λo i=>Qb9 fu p l S n o i) i x (bxA l x) (o'++[zSh]) ((o'.length:Nat):Int)=Qb9 fu p l S n (o'++[Qqn zSh x (bxA l x)]) (w64 (i+1)):=λo' ho'=>by
        rw [Jdm (s:=zSh) (by simp) (by simp [zSh]) (by simp [zSh]; omega) (by simp [zSh]; omega)]
        simp
       by_cases he:o=[]
       · subst he
         rw [Qbj (by decide),ap1 (by simp),Qab]
         exact hnew [] (by simp)
       · obtain ⟨s,e1,e2⟩:=Qul he
         have hp:=List.length_pos_iff.2 he
         have hsm':=List.mem_of_getLast? e1
         have hs:=i2 s hsm'
         have hsl':=Qr4 (λs:Shelf=>s.f9) o s hsm'
         have eS:shS p l o x=bif Q75 p (bxA l x) s then o.set (o.length - 1) (Qqn s x (bxA l x)) else o++[Qqn zSh x (bxA l x)]:=Qvb e1
         have e3:w64 ((o.length:Int) - 1)=((o.length - 1:Nat):Int):=by rw [Qa4 (by omega) (by omega)]; omega
         have e4:w64 (((o.length - 1:Nat):Int)+1)=((o.length:Nat):Int):=by rw [Qa4 (by omega) (by omega)]; omega
         have e5:o[o.length - 1]? = some s:=by rw [← List.getLast?_eq_getElem?]; exact e1
         obtain ⟨s1,s2,s3,s4,s5,s6⟩:=hs
         rw [e3,e4,Qay (by simp),Qix,e5,Qab,Qa4 (n:=s.fW+_) (by omega) (by omega),Qa4 (n:=s.fQ+_) (by omega) (by omega),ap1 (by simp; omega),Qab,eS]
         unfold Q75
         have c1:decide (s.fW+(bxA l x).fW>p.fW)=!decide (s.fW+(bxA l x).fW≤p.fW):=by
          by_cases h:s.fW+(bxA l x).fW≤p.fW <;> simp [h] <;> omega
         have c2:decide (s.fQ+(bxA l x).fQ>p.fQ)=!decide (s.fQ+(bxA l x).fQ≤p.fQ):=by
          by_cases h:s.fQ+(bxA l x).fQ≤p.fQ <;> simp [h] <;> omega
         rw [c1,c2,Qab]
         have h1:=hnew o (by omega)
         have h2:Qd0 fu (λo i=>Qb9 fu p l S n o i) i x (bxA l x) o ((o.length - 1:Nat):Int)=Qb9 fu p l S n (o.set (o.length - 1) (Qqn s x (bxA l x))) (w64 (i+1)):=Jdm e5 (by omega) (by omega) (by omega)
         cases decide (s.fW+(bxA l x).fW≤p.fW)
         · exact h1
         · cases decide (s.fQ+(bxA l x).fQ≤p.fQ)
           · exact h1
           · exact h2
     · intro n o i hd _
       simp only [Qb9.eq_2]
       unfold Qk5
       rw [hd,cond_false]; rfl
   · intro n o i x xs hx hd hI ih
     simp only [List.length_cons] at hI
     simp only [Qg2.eq_2]
     unfold Qk0
     rw [hd,cond_true,hx,Qab,ap1 (by simp; omega),Qab,ih _ (by simp; omega)]
     simp
   · intro n o i hd _
     simp only [Qg2.eq_2]
     unfold Qk0
     rw [hd,cond_false]; simp
theorem Jdf {fu:Nat} {k7:List Layer→Int→Option (List Layer)} {i:Int} {b:Shelf} {o:List Layer} {j:Nat} {s:Layer} (hs:o[j]? = some s) (hl:s.fE.length≤1000000)
    (h1:-1000000000≤s.fD+b.fD∧s.fD+b.fD≤1000000000) (h2:-1000000000≤s.fQ+b.fQ∧s.fQ+b.fQ≤1000000000):Qdk fu k7 i b o (j:Int)=k7 (o.set j (Qry s i b)) (w64 (i+1)):=by
 unfold Qdk Qnh
 rw [Qix,hs,Qab,ap1 (by simp; omega),Qab]
 simp only [Qab,Q26,List.set_set,Jfc]
 rw [Qa4 (n:=s.fD+b.fD) (by omega) (by omega),Qa4 (n:=s.fQ+b.fQ) (by omega) (by omega)]
 rfl
theorem Qyt (fu:Nat) (l:List Shelf) (f:Shelf→Option Bool) (g:Shelf→Bool) (hg:∀ b,f b=some (g b)) (h:l.length≤1048576) (hf:l.length<fu) :
    Qbo fu l f=some (l.any g):=by
 unfold Qbo Qcx
 have key:∀ (m i n:Nat),l.length - i=m→i≤l.length→m<n→∃ r,Qat fu l f n i=some r∧decide (r≥0)=(l.drop i).any g:=by
  intro m
  induction m with
  | zero =>
   intro i n hm hi hn
   obtain ⟨n,rfl⟩:∃ k,n=k+1:=⟨n - 1,by omega⟩
   rw [Qat.eq_2]
   unfold Qca
   rw [Qay (by simp; omega),List.drop_eq_nil_of_le (by omega)]
   exact ⟨_,rfl,rfl⟩
  | succ m ih =>
   intro i n hm hi hn
   obtain ⟨n,rfl⟩:∃ k,n=k+1:=⟨n - 1,by omega⟩
   have hlt:i<l.length:=by omega
   rw [Qat.eq_2]
   unfold Qca
   rw [Qbj (by simpa using hlt),Jel (Ja0 (List.getElem?_eq_getElem hlt)),hg,Qab,List.drop_eq_getElem_cons hlt,List.any_cons]
   cases hgx:g l[i]
   · rw [Qay rfl,Qa4 (by omega) (by omega),Bool.false_or]
     have:=ih (i+1) n (by omega) (by omega) (by omega)
     simpa using this
   · rw [Qbj rfl]
     exact ⟨_,rfl,by simp⟩
 obtain ⟨r,h1,h2⟩:=key l.length 0 fu (by omega) (by omega) hf
 have h1':Qat fu l f fu 0=some r:=h1
 rw [h1',Qab,h2]
 rfl
theorem Jjq {fu:Nat} (p:Pallet) (l:List Shelf) (hl:l.length≤1048576) (hf:l.length<fu):Qmv fu p l=some (Qur p&&l.all λs=>okL p s.fD s.fH s.fQ):=by
 unfold Qmv
 have e:∀ a b c:Int,inB a b c=inb a b c:=λa b c=>Bool.eq_iff_iff.2 (by rw [Q5v,Qco])
 have ep:Qt3 p=Qur p:=by unfold Qt3 Qur; simp only [e]
 rw [Qs1,Qab,ep,Qyt fu l _ (λs=>!okL p s.fD s.fH s.fQ) (λs=>by
  unfold Qnn okL
  simp only [Jcx,Qab,e]
  cases inb s.fD 1 p.fD <;> cases inb s.fH 1 p.fH <;> rfl) hl hf,Qab]
 cases Qur p
 · rfl
 · rw [cond_true,Bool.true_and]
   congr 1
   rw [Bool.eq_iff_iff]
   simp
theorem Jc2 {fu:Nat} (hfu:2097153≤fu) {p:Pallet} (hp:Qur p=true) {l:List Shelf} (hb:OkS p l) (hl:l.length≤1000):Qn3 fu p l=some (lyM p l):=by
 unfold Qn3 lyM
 rw [Jjq p l (by omega) (by omega),hp,Jho hb,Qab,Bool.and_self,Bool.not_true,cond_false]
 obtain ⟨p1,p2,p3,p4⟩:=Qt8 hp
 refine Q70 (l.length:Int) (λn (o:List Layer) i=>Qcd fu p l n o i) (λxs o=>some (xs.foldl (lyS p l) o)) (λxs o=>(∀ s∈o,LyI p l.length s)∧((o.map (·.fE)).flatten).length+xs.length≤1000∧o.length+xs.length≤1000) (by omega) ?_ ?_ l.length fu [] 0 (by omega) (by omega) (by omega) ⟨by simp,by simp [Qcy]; omega,by simp [Qcy]; omega⟩
 · intro n o i xs x0 x1 hd hI ih
   obtain ⟨i2,i3,i4⟩:=hI
   simp only [List.length_cons] at i3 i4
   obtain ⟨hbx,b1,b2,b3,_⟩:=Q4h hb ⟨x0,x1⟩
   have hflat:((lyS p l o i).map (·.fE)).flatten=(o.map (·.fE)).flatten++[i]:=Qsw (λs=>rfl) rfl
   have hlen:(lyS p l o i).length≤o.length+1:=Qty _ _ _ _
   have ih':=ih (lyS p l o i) ⟨Q46 hb ⟨x0,x1⟩ i2,by rw [hflat,List.length_append,List.length_singleton]; omega,by omega⟩
   simp only [Qcd.eq_2]
   unfold Qjq
   rw [hd,cond_true,hbx,Qab,List.foldl_cons,← ih']
   have hnew:∀ o':List Layer,o'.length≤1000→Qdk fu (λo i=>Qcd fu p l n o i) i (shA l i) (o'++[zLy]) ((o'.length:Nat):Int)=Qcd fu p l n (o'++[Qry zLy i (shA l i)]) (w64 (i+1)):=λo' ho'=>by
    rw [Jdf (s:=zLy) (by simp) (by simp [zLy]) (by simp [zLy]; omega) (by simp [zLy]; omega)]
    simp
   by_cases he:o=[]
   · subst he
     rw [Qbj (by decide),ap1 (by simp),Qab]
     exact hnew [] (by simp)
   · obtain ⟨s,e1,e2⟩:=Qul he
     have hp:=List.length_pos_iff.2 he
     have hsm':=List.mem_of_getLast? e1
     have hs:=i2 s hsm'
     have hsl':=Qr4 (λs:Layer=>s.fE) o s hsm'
     have eS:lyS p l o i=bif Q78 p (shA l i) s then o.set (o.length - 1) (Qry s i (shA l i)) else o++[Qry zLy i (shA l i)]:=Qvb e1
     have e3:w64 ((o.length:Int) - 1)=((o.length - 1:Nat):Int):=by rw [Qa4 (by omega) (by omega)]; omega
     have e4:w64 (((o.length - 1:Nat):Int)+1)=((o.length:Nat):Int):=by rw [Qa4 (by omega) (by omega)]; omega
     have e5:o[o.length - 1]? = some s:=by rw [← List.getLast?_eq_getElem?]; exact e1
     obtain ⟨s1,s2,s4,s5,s6⟩:=hs
     rw [e3,e4,Qay (by simp),Qix,e5,Qab,Qa4 (n:=s.fD+_) (by omega) (by omega),Qa4 (n:=s.fQ+_) (by omega) (by omega),ap1 (by simp; omega),Qab,eS]
     unfold Q78
     have c1:decide (s.fD+(shA l i).fD>p.fD)=!decide (s.fD+(shA l i).fD≤p.fD):=by
      by_cases h:s.fD+(shA l i).fD≤p.fD <;> simp [h] <;> omega
     have c2:decide (s.fQ+(shA l i).fQ>p.fQ)=!decide (s.fQ+(shA l i).fQ≤p.fQ):=by
      by_cases h:s.fQ+(shA l i).fQ≤p.fQ <;> simp [h] <;> omega
     rw [c1,c2,Qab]
     have h1:=hnew o (by omega)
     have h2:Qdk fu (λo i=>Qcd fu p l n o i) i (shA l i) o ((o.length - 1:Nat):Int)=Qcd fu p l n (o.set (o.length - 1) (Qry s i (shA l i))) (w64 (i+1)):=Jdf e5 (by omega) (by omega) (by omega)
     cases decide (s.fD+(shA l i).fD≤p.fD)
     · exact h1
     · cases decide (s.fQ+(shA l i).fQ≤p.fQ)
       · exact h1
       · exact h2
 · intro n o i hd _
   simp only [Qcd.eq_2]
   unfold Qjq
   rw [hd,cond_false]; rfl
end Go.Proofs.YtpcmapfabndggaaGreat
/- Loads, spots and the plan of impl. -/
namespace Go.Proofs.YtpcmapfabndggaaGreat
open Go
open Enc (rd ow)
open Arg (argv)
open Ret (retv)
open Wf (wf)
theorem Jd4 {fu:Nat} {k7:List Load→Int→Option (List Load)} {i:Int} {b:Layer} {o:List Load} {j:Nat} {s:Load} (hs:o[j]? = some s) (hl:s.f8.length≤1000000)
    (h1:-1000000000≤s.fH+b.fH∧s.fH+b.fH≤1000000000) (h2:-1000000000≤s.fQ+b.fQ∧s.fQ+b.fQ≤1000000000):Qd1 fu k7 i b o (j:Int)=k7 (o.set j (Qs8 s i b)) (w64 (i+1)):=by
 unfold Qd1 Qo2
 rw [Qix,hs,Qab,ap1 (by simp; omega),Qab]
 simp only [Qab,Q26,List.set_set,Jfc]
 rw [Qa4 (n:=s.fH+b.fH) (by omega) (by omega),Qa4 (n:=s.fQ+b.fQ) (by omega) (by omega)]
 rfl
theorem Qyh (fu:Nat) (l:List Layer) (f:Layer→Option Bool) (g:Layer→Bool) (hg:∀ b,f b=some (g b)) (h:l.length≤1048576) (hf:l.length<fu) :
    Qbs fu l f=some (l.any g):=by
 unfold Qbs Qcz
 have key:∀ (m i n:Nat),l.length - i=m→i≤l.length→m<n→∃ r,Qas fu l f n i=some r∧decide (r≥0)=(l.drop i).any g:=by
  intro m
  induction m with
  | zero =>
   intro i n hm hi hn
   obtain ⟨n,rfl⟩:∃ k,n=k+1:=⟨n - 1,by omega⟩
   rw [Qas.eq_2]
   unfold Qb7
   rw [Qay (by simp; omega),List.drop_eq_nil_of_le (by omega)]
   exact ⟨_,rfl,rfl⟩
  | succ m ih =>
   intro i n hm hi hn
   obtain ⟨n,rfl⟩:∃ k,n=k+1:=⟨n - 1,by omega⟩
   have hlt:i<l.length:=by omega
   rw [Qas.eq_2]
   unfold Qb7
   rw [Qbj (by simpa using hlt),Jel (Ja0 (List.getElem?_eq_getElem hlt)),hg,Qab,List.drop_eq_getElem_cons hlt,List.any_cons]
   cases hgx:g l[i]
   · rw [Qay rfl,Qa4 (by omega) (by omega),Bool.false_or]
     have:=ih (i+1) n (by omega) (by omega) (by omega)
     simpa using this
   · rw [Qbj rfl]
     exact ⟨_,rfl,by simp⟩
 obtain ⟨r,h1,h2⟩:=key l.length 0 fu (by omega) (by omega) hf
 have h1':Qas fu l f fu 0=some r:=h1
 rw [h1',Qab,h2]
 rfl
theorem Jka {fu:Nat} (p:Pallet) (l:List Layer) (hl:l.length≤1048576) (hf:l.length<fu):Qob fu p l=some (Qur p&&l.all λs=>okL p s.fD s.fH s.fQ):=by
 unfold Qob
 have e:∀ a b c:Int,inB a b c=inb a b c:=λa b c=>Bool.eq_iff_iff.2 (by rw [Q5v,Qco])
 have ep:Qt3 p=Qur p:=by unfold Qt3 Qur; simp only [e]
 rw [Qs1,Qab,ep,Qyh fu l _ (λs=>!okL p s.fD s.fH s.fQ) (λs=>by
  unfold Qoi okL
  simp only [Jcx,Qab,e]
  cases inb s.fD 1 p.fD <;> cases inb s.fH 1 p.fH <;> rfl) hl hf,Qab]
 cases Qur p
 · rfl
 · rw [cond_true,Bool.true_and]
   congr 1
   rw [Bool.eq_iff_iff]
   simp
theorem Jfa {fu:Nat} (hfu:2097153≤fu) {p:Pallet} (hp:Qur p=true) {l:List Layer} (hb:OkY p l) (hl:l.length≤1000):Qpy fu p l=some (ldM p l):=by
 unfold Qpy ldM
 rw [Jka p l (by omega) (by omega),hp,Jic hb,Qab,Bool.and_self,Bool.not_true,cond_false]
 obtain ⟨p1,p2,p3,p4⟩:=Qt8 hp
 refine Q70 (l.length:Int) (λn (o:List Load) i=>Qcp fu p l n o i) (λxs o=>some (xs.foldl (ldS p l) o)) (λxs o=>(∀ s∈o,LdI p l.length s)∧((o.map (·.f8)).flatten).length+xs.length≤1000∧o.length+xs.length≤1000) (by omega) ?_ ?_ l.length fu [] 0 (by omega) (by omega) (by omega) ⟨by simp,by simp [Qcy]; omega,by simp [Qcy]; omega⟩
 · intro n o i xs x0 x1 hd hI ih
   obtain ⟨i2,i3,i4⟩:=hI
   simp only [List.length_cons] at i3 i4
   obtain ⟨hbx,b1,b2,b3,_⟩:=Q4y hb ⟨x0,x1⟩
   have hflat:((ldS p l o i).map (·.f8)).flatten=(o.map (·.f8)).flatten++[i]:=Qsw (λs=>rfl) rfl
   have hlen:(ldS p l o i).length≤o.length+1:=Qty _ _ _ _
   have ih':=ih (ldS p l o i) ⟨Q5g hb ⟨x0,x1⟩ i2,by rw [hflat,List.length_append,List.length_singleton]; omega,by omega⟩
   simp only [Qcp.eq_2]
   unfold Qlq
   rw [hd,cond_true,hbx,Qab,List.foldl_cons,← ih']
   have hnew:∀ o':List Load,o'.length≤1000→Qd1 fu (λo i=>Qcp fu p l n o i) i (lyA l i) (o'++[zLd]) ((o'.length:Nat):Int)=Qcp fu p l n (o'++[Qs8 zLd i (lyA l i)]) (w64 (i+1)):=λo' ho'=>by
    rw [Jd4 (s:=zLd) (by simp) (by simp [zLd]) (by simp [zLd]; omega) (by simp [zLd]; omega)]
    simp
   by_cases he:o=[]
   · subst he
     rw [Qbj (by decide),ap1 (by simp),Qab]
     exact hnew [] (by simp)
   · obtain ⟨s,e1,e2⟩:=Qul he
     have hp:=List.length_pos_iff.2 he
     have hsm':=List.mem_of_getLast? e1
     have hs:=i2 s hsm'
     have hsl':=Qr4 (λs:Load=>s.f8) o s hsm'
     have eS:ldS p l o i=bif Q7w p (lyA l i) s then o.set (o.length - 1) (Qs8 s i (lyA l i)) else o++[Qs8 zLd i (lyA l i)]:=Qvb e1
     have e3:w64 ((o.length:Int) - 1)=((o.length - 1:Nat):Int):=by rw [Qa4 (by omega) (by omega)]; omega
     have e4:w64 (((o.length - 1:Nat):Int)+1)=((o.length:Nat):Int):=by rw [Qa4 (by omega) (by omega)]; omega
     have e5:o[o.length - 1]? = some s:=by rw [← List.getLast?_eq_getElem?]; exact e1
     obtain ⟨s1,s2,s4,s5⟩:=hs
     rw [e3,e4,Qay (by simp),Qix,e5,Qab,Qa4 (n:=s.fH+_) (by omega) (by omega),Qa4 (n:=s.fQ+_) (by omega) (by omega),ap1 (by simp; omega),Qab,eS]
     unfold Q7w
     have c1:decide (s.fH+(lyA l i).fH>p.fH)=!decide (s.fH+(lyA l i).fH≤p.fH):=by
      by_cases h:s.fH+(lyA l i).fH≤p.fH <;> simp [h] <;> omega
     have c2:decide (s.fQ+(lyA l i).fQ>p.fQ)=!decide (s.fQ+(lyA l i).fQ≤p.fQ):=by
      by_cases h:s.fQ+(lyA l i).fQ≤p.fQ <;> simp [h] <;> omega
     rw [c1,c2,Qab]
     have h1:=hnew o (by omega)
     have h2:Qd1 fu (λo i=>Qcp fu p l n o i) i (lyA l i) o ((o.length - 1:Nat):Int)=Qcp fu p l n (o.set (o.length - 1) (Qs8 s i (lyA l i))) (w64 (i+1)):=Jd4 e5 (by omega) (by omega) (by omega)
     cases decide (s.fH+(lyA l i).fH≤p.fH)
     · exact h1
     · cases decide (s.fQ+(lyA l i).fQ≤p.fQ)
       · exact h1
       · exact h2
 · intro n o i hd _
   simp only [Qcp.eq_2]
   unfold Qlq
   rw [hd,cond_false]; rfl
theorem Q9h {fu:Nat} (hfu:2097153≤fu) (p:Pallet) (l:List Box) (hl:l.length<20):Qm2 fu p l=some (spM p l):=by
 unfold Qm2 spM
 rw [Qvn fu p l (by omega) (by omega),Qab,Jdr]
 cases hb:Qyz p l
 · rfl
 · obtain ⟨a1,a2,a3⟩:=Qzi hb
   have hS:=Q6g hb
   obtain ⟨y1,y2,y3⟩:=Qzl hS
   have hY:=Q59 hS
   obtain ⟨d1,d2,d3⟩:=Q2f hY
   have hpb:=Qxp hb
   obtain ⟨q1,q2,q3,q4⟩:=Qt8 hpb
   rw [Bool.not_true,cond_false,cond_true,Jba hfu p l hl,Qab,Jc2 hfu hpb hS (by omega),Qab,Jbe (by omega),Qab,Jfa hfu hpb hY (by omega),Qab]
   have f1:∀ s∈shM p l,s.f9.length≤1000:=λs hs=>by
    have:=Qr4 (λs:Shelf=>s.f9) _ s hs
    rw [a2,Qtn] at this; omega
   have f2:∀ s∈lyM p (shM p l),s.fE.length≤1000:=λs hs=>by
    have:=Qr4 (λs:Layer=>s.fE) _ s hs
    rw [y2,Qcy] at this; omega
   have f3:∀ s∈ldM p (lyM p (shM p l)),s.f8.length≤1000:=λs hs=>by
    have:=Qr4 (λs:Load=>s.f8) _ s hs
    rw [d2,Qcy] at this; omega
   generalize ldM p (lyM p (shM p l))=ld at d1 d3 f3 ⊢
   generalize lyM p (shM p l)=ly at y1 y3 hY d1 d3 f2 ⊢
   generalize shM p l=sh at a1 a3 hS y1 y3 f1 ⊢
   have L4:=Q70 (ld.length:Int) (λn (out:List Spot) o=>Qbt fu l sh ly ld n out o) (λos out=>some (spO l sh ly ld os out)) (λos out=>out.length=l.length) (by omega) ?_ ?_ ld.length fu (List.replicate l.length zSp) 0 (by omega) (by omega) (by omega) (by simp)
   · exact L4
   · intro n out o os o0 o1 hd hI ih
     obtain ⟨x,hx⟩:=Q0e (l:=ld) o0 o1
     have ex:ldA ld o=x:=by unfold ldA; rw [hx]; rfl
     have hxm:=d1 x (Qfe hx)
     have hxl:=f3 x (Qfe hx)
     simp only [Qbt.eq_2]
     unfold Qlj
     rw [hd,cond_true,hx,Qab]
     have L3:=lpI x.f8 (λm (s:List Spot×Int) i=>Qcn fu (Qbt fu l sh ly ld n) l sh ly o x m s.1 s.2 i) (λis s=>Qbt fu l sh ly ld n (spY l sh ly o is s).1 (w64 (o+1))) (λis s=>s.1.length=l.length∧(∀ i∈is,0≤i∧i<ly.length)∧0≤s.2∧s.2+2000*is.length≤2000000) (by omega) ?_ ?_ fu (out,0) ⟨hI,hxm.inn,by simp,by simp; omega⟩ (by omega)
     · refine L3.trans ?_
       rw [ih _ (by rw [Q3d]; exact hI)]
       simp only [spO,List.foldl_cons,ex]
     · intro m ⟨out,z⟩ i j is hj hd hI ih
       obtain ⟨i1,i2,i3,i4⟩:out.length=l.length∧(∀ i∈j::is,0≤i∧i<ly.length)∧0≤z∧z+2000*((j::is).length:Int)≤2000000:=hI
       simp only [List.length_cons] at i4
       obtain ⟨hly,t1,t2,t3,hmem⟩:=Q4y hY (i2 j (by simp))
       have hyi:=y1 _ hmem
       have hyl:=f2 _ hmem
       simp only [Qcn.eq_2]
       unfold Ql3
       rw [hd,cond_true,hj,Qab,hly,Qab]
       have L2:=lpI (lyA ly j).fE (λq (s:List Spot×Int) k=>Qdw fu (Qcn fu (Qbt fu l sh ly ld n) l sh ly o x m) l sh ly o z i j (lyA ly j) q s.1 s.2 k) (λks s=>Qcn fu (Qbt fu l sh ly ld n) l sh ly o x m (spS l sh o z ks s).1 (w64 (z+(lyA ly j).fH)) (w64 (i+1))) (λks s=>s.1.length=l.length∧(∀ i∈ks,0≤i∧i<sh.length)∧0≤s.2∧s.2+2000*ks.length≤2000000) (by omega) ?_ ?_ fu (out,0) ⟨i1,hyi.inn,by simp,by simp; omega⟩ (by omega)
       · refine L2.trans ?_
         rw [Qa4 (n:=z+_) (by omega) (by omega)]
         exact ih ((spS l sh o z (lyA ly j).fE (out,0)).1,z+(lyA ly j).fH) ⟨by rw [Q29]; exact i1,λi hi=>i2 i (by simp [hi]),by simp; omega,by simp; omega⟩
       · intro q ⟨out,y⟩ k b ks hb2 hd hI ih
         obtain ⟨i1,i2,i3,i4⟩:out.length=l.length∧(∀ i∈b::ks,0≤i∧i<sh.length)∧0≤y∧y+2000*((b::ks).length:Int)≤2000000:=hI
         simp only [List.length_cons] at i4
         obtain ⟨hsh,u1,u2,u3,hmem2⟩:=Q4h hS (i2 b (by simp))
         have hsi:=a1 _ hmem2
         have hsl:=f1 _ hmem2
         simp only [Qdw.eq_2]
         unfold Ql8
         rw [hd,cond_true,hb2,Qab,hsh,Qab]
         have L1:=lpI (shA sh b).f9 (λq' (s:List Spot×Int) k'=>Qg9 fu (Qdw fu (Qcn fu (Qbt fu l sh ly ld n) l sh ly o x m) l sh ly o z i j (lyA ly j) q) l sh o z y k b (shA sh b) q' s.1 s.2 k') (λbs s=>Qdw fu (Qcn fu (Qbt fu l sh ly ld n) l sh ly o x m) l sh ly o z i j (lyA ly j) q (spB l o y z bs s).1 (w64 (y+(shA sh b).fD)) (w64 (k+1))) (λbs s=>s.1.length=l.length∧(∀ i∈bs,0≤i∧i<l.length)∧0≤s.2∧s.2+2000*bs.length≤2000000) (by omega) ?_ ?_ fu (out,0) ⟨i1,hsi.inn,by simp,by simp; omega⟩ (by omega)
         · refine L1.trans ?_
           rw [Qa4 (n:=y+_) (by omega) (by omega)]
           exact ih ((spB l o y z (shA sh b).f9 (out,0)).1,y+(shA sh b).fD) ⟨by rw [Q2q]; exact i1,λi hi=>i2 i (by simp [hi]),by simp; omega,by simp; omega⟩
         · intro q' ⟨out,x'⟩ k' c bs hc hd hI ih
           obtain ⟨i1,i2,i3,i4⟩:out.length=l.length∧(∀ i∈c::bs,0≤i∧i<l.length)∧0≤x'∧x'+2000*((c::bs).length:Int)≤2000000:=hI
           simp only [List.length_cons] at i4
           have hcr:=i2 c (by simp)
           obtain ⟨hbx,v1,v2,v3,v4⟩:=Qx9 hb hcr
           obtain ⟨sp,hsp⟩:=Q0e (l:=out) hcr.1 (by omega)
           simp only [Qg9.eq_2]
           unfold Qla
           rw [hd,cond_true,hc,Qab,hsp,Qab,hbx,Qab,Qa4 (n:=x'+_) (by omega) (by omega)]
           exact ih (Qe5 out c ⟨o,x',y,z⟩,x'+(bxA l c).fW) ⟨by rw [Qwe]; exact i1,λi hi=>i2 i (by simp [hi]),by simp; omega,by simp; omega⟩
         · intro q' ⟨out,x'⟩ k' hd _
           simp only [Qg9.eq_2]
           unfold Qla
           rw [hd,cond_false,hsh,Qab]; rfl
       · intro q ⟨out,y⟩ k hd _
         simp only [Qdw.eq_2]
         unfold Ql8
         rw [hd,cond_false,hly,Qab]; rfl
     · intro m ⟨out,z⟩ i hd _
       simp only [Qcn.eq_2]
       unfold Ql3
       rw [hd,cond_false]; rfl
   · intro n out o hd _
     simp only [Qbt.eq_2]
     unfold Qlj
     rw [hd,cond_false]; rfl
theorem Je8 {r:Request} {k:Int} (h:0≤k∧k<(Qhr r).length):(Qw3 r k).length≤12:=by
 rw [Q10 h,List.length_map]
 exact Q7q k
theorem Jd9 {fu:Nat} {r:Request} (h:Sm fu r):Qh1 fu r=some (Q0a r):=by
 have hfu:=h.fu
 have hg:=(Qtk r).1
 have hcl:=Qy3 r
 unfold Qh1 Q0a
 rw [Qtw h,Qab]
 cases hc:Qhd r==0
 · rfl
 · have hz:Qhd r=0:=by simpa using hc
   rw [Bool.not_true,cond_false,cond_true,Jjl h,Qab,Jcy h,Qab]
   have L3:=Q70 ((Qhr r).length:Int) (λn (s:List Spot×Int) k=>Qcr fu r (Quv r) (Qhr r) n s.1 s.2 k) (λks s=>some ((⟨Quv r,(ks.foldl (plS r) s).1⟩:Plan),true)) (λks s=>(∀ k∈ks,0≤k∧k<(Qhr r).length)∧s.1.length+48*ks.length≤1000∧0≤s.2∧s.2+1000000*ks.length≤10000000) (by omega) ?_ ?_ (Qhr r).length fu ([],0) 0 (by omega) (by omega) (by omega) ⟨λk hk=>by have:=Qc3.1 hk; omega,by simp [Qcy]; omega,by simp,by simp [Qcy]; omega⟩
   · exact L3
   · intro n ⟨sp,base⟩ k ks k0 k1 hd hI ih
     obtain ⟨i1,i2,i3,i4⟩:(∀ j∈k::ks,0≤j∧j<(Qhr r).length)∧sp.length+48*(k::ks).length≤1000∧0≤base∧base+1000000*((k::ks).length:Int)≤10000000:=hI
     simp only [List.length_cons] at i2 i4
     simp only [Qcr.eq_2]
     unfold Qnf
     rw [hd,cond_true]
     have L2:=lpI (Quv r) (λm (bs:List Box) i=>Qgo fu (Qcr fu r (Quv r) (Qhr r) n) r (Quv r) sp base k m bs i) (λcs bs=>Qac (Qm2 fu r.fJ (bs++(cs.filter λc=>c.fF==k).map (Qse r))) λx=>Qac (Qh6 fu x) λy=>Qgm fu (Qcr fu r (Quv r) (Qhr r) n) base k x y fu sp 0) (λcs bs=>bs.length+cs.length≤48∧∀ c∈cs,c.f0.length≤12) (by omega) ?_ ?_ fu [] ⟨by simpa using hcl,λc hc=>Qwl hc⟩ (by omega)
     · refine L2.trans ?_
       have hbl:=Q53 r k
       have hbf:=Je8 (r:=r) (k:=k) ⟨k0,k1⟩
       rw [List.nil_append,show ((Quv r).filter λc=>c.fF==k).map (Qse r)=Qw3 r k from rfl,Q9h hfu _ _ (by omega),Qab]
       have hsl:=Q2h (Q4l hz ⟨k0,k1⟩)
       have hpb:=Q5a (spM r.fJ (Qw3 r k))
       have hps:∀ s∈spM r.fJ (Qw3 r k),s∈spM r.fJ (Qw3 r k):=λ_ h=>h
       have ih':=ih (plS r (sp,base) k) ⟨λj hj=>i1 j (by simp [hj]),by simp [plS]; omega,by simp [plS]; omega,by simp [plS]; omega⟩
       rw [List.foldl_cons,← ih']
       have hS:=Q9j (fu:=fu) (l:=spM r.fJ (Qw3 r k)) (by omega) (by omega)
       have hwf:∀ s∈spM r.fJ (Qw3 r k),w64 (s.fJ+base)=s.fJ+base:=by
        intro s hs
        have:=Jd6 (p:=r.fJ) (l:=Qw3 r k) (by omega) s hs
        exact Qa4 (by omega) (by omega)
       generalize hSP:spM r.fJ (Qw3 r k)=S at hsl hpb hS hwf ⊢
       rw [hS,Qab]
       have L1:=lpI S (λm (o:List Spot) i=>Qgm fu (Qcr fu r (Quv r) (Qhr r) n) base k S (Qxk S) m o i) (λxs o=>Qcr fu r (Quv r) (Qhr r) n (o++xs.map (λt=>⟨t.fJ+base,t.fX,t.fY,t.fZ⟩)) (base+Qxk S) (w64 (k+1))) (λxs o=>o.length+xs.length≤1000∧∀ s∈xs,w64 (s.fJ+base)=s.fJ+base) (by omega) ?_ ?_ fu sp ⟨by omega,hwf⟩ (by omega)
       · refine L1.trans ?_
         simp only [plS,hSP]
       · intro m o i x xs hx hd hI ih
         obtain ⟨j1,j2⟩:=hI
         simp only [List.length_cons] at j1
         simp only [Qgm.eq_2]
         unfold Qnv
         rw [hd,cond_true,hx,Qab,j2 x (by simp),ap1 (by simp; omega),Qab,ih _ ⟨by simp; omega,λs hs=>j2 s (by simp [hs])⟩]
         simp
       · intro m o i hd hI
         simp only [Qgm.eq_2]
         unfold Qnv
         rw [hd,cond_false,Qa4 (n:=base+_) (by omega) (by omega)]
         simp
     · intro m bs i c cs hx hd hI ih
       obtain ⟨j1,j2⟩:=hI
       simp only [List.length_cons] at j1
       have hcu:=j2 c (by simp)
       simp only [Qgo.eq_2]
       unfold Qnt Qmt
       rw [hd,cond_true,hx,Qab,Jdb h c (by omega),Qab,ap1 (by simp; omega),Qab,ih _ ⟨by simp; omega,λc hc=>j2 c (by simp [hc])⟩,ih _ ⟨by omega,λc hc=>j2 c (by simp [hc])⟩,List.filter_cons]
       cases c.fF==k <;> simp
     · intro m bs i hd _
       simp only [Qgo.eq_2]
       unfold Qnt
       rw [hd,cond_false]; simp
   · intro n ⟨sp,base⟩ k hd _
     simp only [Qcr.eq_2]
     unfold Qnf
     rw [hd,cond_false]; rfl
end Go.Proofs.YtpcmapfabndggaaGreat
/- Plans that are made are small. -/
namespace Go.Proofs.YtpcmapfabndggaaGreat
open Go
open Enc (rd ow)
open Arg (argv)
open Ret (retv)
open Wf (wf)
theorem Jg8 (r:Request):Sp (Q0a r).1:=by
 obtain ⟨l1,l2,l3⟩:=Q48 r
 refine ⟨by omega,λc hc=>by have:=l3 c hc; omega,?_,by omega⟩
 have key:∀ l:List Carton,(∀ c∈l,c.f0.length≤12)→Q2b l≤12*l.length:=by
  intro l
  induction l with
  | nil=>intro _; simp [Q2b]
  | cons c l ih =>
   intro h
   have h1:=ih λd hd=>h d (by simp [hd])
   have h2:=h c (by simp)
   simp only [Q2b,List.length_cons]
   omega
 have:=key _ l3
 omega
end Go.Proofs.YtpcmapfabndggaaGreat
/- What is drawn is there, and in bounds. -/
namespace Go.Proofs.YtpcmapfabndggaaGreat
open Go
open Enc (rd ow)
open Arg (argv)
open Ret (retv)
open Wf (wf)
def Tot {α:Type} (o:Option α) (Q:α→Prop):Prop:=∃ x,o=some x∧Q x
theorem Tot.mk {α:Type} {x:α} {Q:α→Prop} (h:Q x):Tot (some x) Q:=⟨x,rfl,h⟩
theorem Tot.of {α:Type} {o:Option α} {x:α} {Q:α→Prop} (e:o=some x) (h:Q x):Tot o Q:=⟨x,e,h⟩
theorem Tot.bind {α β:Type} {m:Option α} {k:α→Option β} {R:α→Prop} {Q:β→Prop} (h:Tot m R) (hk:∀ x,R x→Tot (k x) Q):Tot (Qac m k) Q:=by
 obtain ⟨x,rfl,hx⟩:=h
 exact hk x hx
theorem Tot.bif {α:Type} {c:Bool} {a b:Option α} {Q:α→Prop} (h1:c=true→Tot a Q) (h2:c=false→Tot b Q):Tot (bif c then a else b) Q:=by
 cases c
 · exact h2 rfl
 · exact h1 rfl
theorem Tot.imp {α:Type} {o:Option α} {Q R:α→Prop} (h:Tot o Q) (hi:∀ x,Q x→R x):Tot o R:=by
 obtain ⟨x,e,hx⟩:=h
 exact ⟨x,e,hi x hx⟩
theorem Tot.ap {α β:Type} {bytes:Nat} {xs ys:List α} {k:List α→Option β} {Q:β→Prop} (h:(xs.length+ys.length)*bytes≤140737488355328) (hk:Tot (k (xs++ys)) Q):Tot (Qac (Qgz bytes xs ys) k) Q:=by
 rw [ap1 h]; exact hk
theorem Tot.ix {α β:Type} {l:List α} {i:Int} {k:α→Option β} {Q:β→Prop} (h:0≤i∧i<l.length) (hk:∀ x,x∈l→Tot (k x) Q):Tot (Qac (ix l i) k) Q:=by
 have e:=Qy2 (l:=l) (i:=i.toNat) (by omega)
 rw [show ((i.toNat:Nat):Int)=i by omega] at e
 rw [e]
 exact hk _ (List.getElem_mem _)
theorem lpT {σ β:Type} (b:Int) (L:Nat→σ→Int→Option β) (Q:β→Prop) (I:Int→σ→Prop) (hb:b≤1099511627776)
    (hs:∀ n s (i:Int),0≤i→i<b→I i s→(∀ s',I (i+1) s'→Tot (L n s' (w64 (i+1))) Q)→Tot (L (n+1) s i) Q)
    (he:∀ n s (i:Int),0≤i→b≤i→I i s→Tot (L (n+1) s i) Q):∀ (m:Nat) n s (a:Int),0≤a→(b - a).toNat=m→m<n→I a s→Tot (L n s a) Q:=by
 intro m
 induction m with
 | zero =>
  intro n s a ha hm hn hI
  obtain ⟨n,rfl⟩:∃ k,n=k+1:=⟨n - 1,by omega⟩
  exact he n s a ha (by omega) hI
 | succ m ih =>
  intro n s a ha hm hn hI
  obtain ⟨n,rfl⟩:∃ k,n=k+1:=⟨n - 1,by omega⟩
  refine hs n s a ha (by omega) hI λs' hI'=>?_
  rw [Qa4 (by omega) (by omega)]
  exact ih n s' (a+1) (by omega) (by omega) (by omega) hI'
def CO (b:List U8) (c:Cur):Prop:=c.fb=b∧0≤c.fi∧b.length≤1048576
theorem CO.re {b:List U8} {c c':Cur} (h:CO b c) (h':CO b c'):CO b ⟨c.fb,c'.fi,c'.fh⟩:=⟨h.1,h'.2⟩
theorem CO.re' {b:List U8} {c':Cur} (h':CO b c'):CO b ⟨b,c'.fi,c'.fh⟩:=⟨rfl,h'.2⟩
theorem Jea (x:Int):0≤IntKind.wrap .i64 (((BitVec.ofInt (IntKind.bits .i64) x &&& BitVec.ofInt (IntKind.bits .i64) 255).toNat:Nat):Int)∧IntKind.wrap .i64 (((BitVec.ofInt (IntKind.bits .i64) x &&& BitVec.ofInt (IntKind.bits .i64) 255).toNat:Nat):Int)≤255:=by
 have h:(BitVec.ofInt (IntKind.bits .i64) x &&& BitVec.ofInt (IntKind.bits .i64) 255).toNat≤255:=by
  rw [BitVec.toNat_and]
  have h2:(BitVec.ofInt (IntKind.bits .i64) 255).toNat=255:=by decide
  rw [h2]
  exact Nat.and_le_right
 have e:=Qa4 (n:=(((BitVec.ofInt (IntKind.bits .i64) x &&& BitVec.ofInt (IntKind.bits .i64) 255).toNat:Nat):Int)) (by omega) (by omega)
 unfold w64 at e
 rw [e]
 omega
theorem Qzn {fu:Nat} {b:List U8} {c:Cur} (h:CO b c):Tot (Qh2 fu c) λx=>(0≤x.1∧x.1≤255)∧CO b x.2:=by
 obtain ⟨h1,h2,h3⟩:=h
 unfold Qh2
 refine Tot.bif (λhc=>?_) λhc=>?_
 · have hlt:=of_decide_eq_true hc
   refine Tot.ix ⟨h2,hlt⟩ λx _=>Tot.mk ⟨Jea _,h1,?_,h3⟩
   show 0≤w64 (c.fi+1)
   rw [h1] at hlt
   rw [Qa4 (by omega) (by omega)]; omega
 · exact Tot.mk ⟨Jea _,h1,h2,h3⟩
theorem Qe0 {fu:Nat} {b:List U8} {c:Cur} (h:CO b c) (n:Int):Tot (Qaw fu c n) λx=>(0≤x.1∧(0<n→x.1<n))∧CO b x.2:=by
 unfold Qaw
 refine Tot.bif (λhc=>?_) λhc=>?_
 · have hlt:=of_decide_eq_true hc
   exact Tot.mk ⟨⟨Int.le_refl _,λh=>by omega⟩,h⟩
 · have hn:0<n:=by simpa using hc
   refine Tot.bif (λhc=>?_) λhc=>?_
   · refine Tot.bind (Qzn h) λx hx=>?_
     rw [Q3c (by omega),Qab]
     exact Tot.mk ⟨⟨Int.tmod_nonneg _ hx.1.1,λ_=>Int.tmod_lt_of_pos _ hn⟩,h.re hx.2⟩
   · refine Tot.bind (Qzn h) λx hx=>Tot.bind (Qzn (h.re hx.2)) λy hy=>Tot.bind (Qzn (h.re hy.2)) λz hz=>Tot.bind (Qzn (h.re hz.2)) λq hq=>?_
     rw [Q3c (by omega),Qab]
     obtain ⟨⟨x0,x1⟩,_⟩:=hx
     obtain ⟨⟨y0,y1⟩,_⟩:=hy
     obtain ⟨⟨z0,z1⟩,_⟩:=hz
     obtain ⟨⟨q0,q1⟩,hq2⟩:=hq
     refine Tot.mk ⟨⟨?_,λ_=>Int.tmod_lt_of_pos _ hn⟩,h.re hq2⟩
     apply Int.tmod_nonneg
     simp only [Qa4 (n:=x.1*16777216) (by omega) (by omega),Qa4 (n:=y.1*65536) (by omega) (by omega),Qa4 (n:=z.1*256) (by omega) (by omega)]
     rw [Qa4 (n:=x.1*16777216+y.1*65536) (by omega) (by omega),Qa4 (n:=x.1*16777216+y.1*65536+z.1*256) (by omega) (by omega),Qa4 (by omega) (by omega)]
     omega
theorem Q5z {fu:Nat} {b:List U8} {c:Cur} (h:CO b c) (n:Int):Tot (Qlo fu c n) λx=>CO b x.2:=by
 unfold Qlo
 exact Tot.bind (Qe0 h n) λx hx=>Tot.mk (h.re hx.2)
theorem Qtl {fu:Nat} {b:List U8} {c:Cur} (h:CO b c) (l:List Int) (hl:0<l.length):Tot (Qcs fu c l) λx=>x.1∈l∧CO b x.2:=by
 unfold Qcs
 exact Tot.bind (Qe0 h _) λx hx=>Tot.ix ⟨hx.1.1,hx.1.2 (by omega)⟩ λy hy=>Tot.mk ⟨hy,h.re hx.2⟩
theorem Jgu {fu:Nat} {b:List U8} (hb:b.length≤1048576) (hf:1048577≤fu):Tot (Qsj fu b) (CO b):=by
 unfold Qsj
 refine lpT (b.length:Int) (λn s i=>Qhk fu b n s i) (CO b) (λ_ _=>True) (by omega) ?_ ?_ b.length fu _ 0 (by omega) (by omega) (by omega) trivial
 · intro n s i h0 h1 _ ih
   simp only [Qhk.eq_2]
   unfold Qow Qro
   rw [Qbj (by simpa using h1)]
   refine Tot.bif (λhc=>?_) λhc=>?_
   · exact Tot.ix ⟨h0,h1⟩ λx _=>ih _ trivial
   · exact Tot.mk ⟨rfl,by simp,hb⟩
 · intro n s i h0 h1 _
   simp only [Qhk.eq_2]
   unfold Qow
   rw [Qay (by simp; omega)]
   exact Tot.mk ⟨rfl,by simp,hb⟩
end Go.Proofs.YtpcmapfabndggaaGreat
/- An order that is drawn is there, and small. -/
namespace Go.Proofs.YtpcmapfabndggaaGreat
open Go
open Enc (rd ow)
open Arg (argv)
open Ret (retv)
open Wf (wf)
def SmR (r:Request):Prop:=r.fP.length≤64∧r.fR.length≤64∧r.fU.length≤64
theorem SmR.sm {r:Request} (h:SmR r) {fu:Nat} (hf:2097153≤fu):Sm fu r:=⟨hf,by have:=h.1; omega,by have:=h.2.1; omega,by have:=h.2.2; omega⟩
theorem Q6n {fu:Nat} {b:List U8} {c:Cur} (h:CO b c) (hf:1048577≤fu):Tot (Qm4 fu c) λx=>(x.1.fP.length≤40∧(1≤x.1.fR.length∧x.1.fR.length≤8)∧x.1.fU.length≤8)∧CO b x.2:=by
 unfold Qm4
 refine Tot.bind (Qe0 h _) λx1 h1=>Tot.bind (Qtl (h.re h1.2) _ (by simp)) λx2 h2=>Tot.bind (Qtl (h.re h2.2) _ (by simp)) λx3 h3=>Tot.bind (Qtl (h.re h3.2) _ (by simp)) λx4 h4=>Tot.bind (Qtl (h.re h4.2) _ (by simp)) λx5 h5=>Tot.bind (Qe0 (h.re h5.2) _) λx6 h6=>?_
 have hb:=h.2.2
 have hcb:=h.1
 obtain ⟨c0,c1⟩:=h6.1
 have c1:=c1 (by omega)
 have ew:w64 (1+x6.1)=1+x6.1:=Qa4 (by omega) (by omega)
 have L4:=lpT (1+x6.1) (λn (s:Int×Int×List Pair) i=>Qd4 fu c x1 x2 x3 x4 x5 x6 n s.1 s.2.1 s.2.2 i) (λx:Request×Cur=>(x.1.fP.length≤40∧(1≤x.1.fR.length∧x.1.fR.length≤8)∧x.1.fU.length≤8)∧CO b x.2)
  (λi s=>0≤s.1∧(s.2.2.length:Int)≤8*i∧i≤4) (by omega) ?_ ?_ (1+x6.1 - 0).toNat fu (x6.2.fi,x6.2.fh,[]) 0 (by omega) rfl (by omega) ⟨h6.2.2.1,by simp,by omega⟩
 · exact L4
 · intro n ⟨f1,f2,ps⟩ a ha0 ha1 hI ih
   obtain ⟨i1,i2,i3⟩:0≤f1∧(ps.length:Int)≤8*a∧a≤4:=hI
   simp only [Qd4.eq_2]
   unfold Qln
   rw [ew,Qbj (by simpa using ha1)]
   have L1:=lpT (a+1) (λm (s:Int×Int×List Pair) i=>Qfz fu (Qd4 fu c x1 x2 x3 x4 x5 x6 n) c a m s.1 s.2.1 s.2.2 i) (λx:Request×Cur=>(x.1.fP.length≤40∧(1≤x.1.fR.length∧x.1.fR.length≤8)∧x.1.fU.length≤8)∧CO b x.2)
    (λi s=>0≤s.1∧(s.2.2.length:Int)≤8*a+2*i∧i≤a+1) (by omega) ?_ ?_ (a+1 - 0).toNat fu (f1,f2,ps) 0 (by omega) rfl (by omega) ⟨i1,by simp; omega,by omega⟩
   · exact L1
   · intro m ⟨g1,g2,qs⟩ i hi0 hi1 hI ih2
     obtain ⟨j1,j2,j3⟩:0≤g1∧(qs.length:Int)≤8*a+2*i∧i≤a+1:=hI
     simp only [Qfz.eq_2]
     unfold Qmh
     rw [Qbj (by simp; omega)]
     unfold Qid
     refine Tot.bif (λhc=>?_) λhc=>?_
     · refine Tot.ap (by simp; omega) ?_
       exact ih2 (g1,g2,_) ⟨j1,by simp; omega,by omega⟩
     · refine Tot.bind (Q5z (b:=b) (c:=⟨c.fb,g1,g2⟩) ⟨hcb,j1,hb⟩ 2) λy hy=>?_
       refine Tot.bif (λhc=>?_) λhc=>?_
       · refine Tot.ap (by simp; omega) ?_
         exact ih2 (y.2.fi,y.2.fh,_) ⟨hy.2.1,by simp; omega,by omega⟩
       · exact ih2 (y.2.fi,y.2.fh,_) ⟨hy.2.1,by simp; omega,by omega⟩
   · intro m ⟨g1,g2,qs⟩ i hi0 hi1 hI
     obtain ⟨j1,j2,j3⟩:0≤g1∧(qs.length:Int)≤8*a+2*i∧i≤a+1:=hI
     simp only [Qfz.eq_2]
     unfold Qmh
     rw [Qay (by simp; omega)]
     have:i=a+1:=by omega
     exact ih (g1,g2,qs) ⟨j1,by simp; omega,by omega⟩
 · intro n ⟨f1,f2,ps⟩ a ha0 ha1 hI
   obtain ⟨i1,i2,i3⟩:0≤f1∧(ps.length:Int)≤8*a∧a≤4:=hI
   simp only [Qd4.eq_2]
   unfold Qln
   rw [ew,Qay (by simpa using ha1)]
   refine Tot.bind (Qe0 (b:=b) (c:=⟨c.fb,f1,f2⟩) ⟨hcb,i1,hb⟩ _) λy1 g1=>Tot.bind (Qtl (h.re g1.2) _ (by simp)) λy2 g2=>Tot.bind (Qtl (h.re g2.2) _ (by simp)) λy3 g3=>Tot.ap (by simp) ?_
   unfold Qoo
   refine Tot.bind (Qe0 (h.re g3.2) _) λy4 g4=>?_
   obtain ⟨e0,e1⟩:=g4.1
   have e1:=e1 (by omega)
   have L3:=lpT y4.1 (λm (s':Int×Int×List Typ) i=>Qg0 fu c x1 x2 x3 x4 x5 x6 ps y4 m s'.1 s'.2.1 s'.2.2 i) (λx:Request×Cur=>(x.1.fP.length≤40∧(1≤x.1.fR.length∧x.1.fR.length≤8)∧x.1.fU.length≤8)∧CO b x.2)
    (λi s=>0≤s.1∧(s.2.2.length:Int)=1+i∧i≤y4.1) (by omega) ?_ ?_ (y4.1 - 0).toNat fu (y4.2.fi,y4.2.fh,([]:List Typ)++[(⟨7,12,10,11,y1.1,y2.1,y3.1⟩:Typ)]) 0 (by omega) rfl (by omega) ⟨g4.2.2.1,by simp,by omega⟩
   · exact L3
   · intro m ⟨g1,g2,ts⟩ i hi0 hi1 hI ih2
     obtain ⟨j1,j2,j3⟩:0≤g1∧(ts.length:Int)=1+i∧i≤y4.1:=hI
     simp only [Qg0.eq_2]
     unfold Qlc
     rw [Qbj (by simp; omega)]
     refine Tot.bind (Qe0 (b:=b) (c:=⟨c.fb,g1,g2⟩) ⟨hcb,j1,hb⟩ _) λz1 f1=>Tot.bind (Qe0 (h.re f1.2) _) λz2 f2=>Tot.bind (Qe0 (h.re f2.2) _) λz3 f3=>Tot.bind (Qe0 (h.re f3.2) _) λz4 f4=>Tot.bind (Qe0 (h.re f4.2) _) λz5 f5=>Tot.bind (Qe0 (h.re f5.2) _) λz6 f6=>Tot.ap (by simp; omega) ?_
     exact ih2 (z6.2.fi,z6.2.fh,_) ⟨f6.2.2.1,by simp; omega,by omega⟩
   · intro m ⟨g1,g2,ts⟩ i hi0 hi1 hI
     obtain ⟨j1,j2,j3⟩:0≤g1∧(ts.length:Int)=1+i∧i≤y4.1:=hI
     simp only [Qg0.eq_2]
     unfold Qlc
     rw [Qay (by simp; omega)]
     refine Tot.bind (Qe0 (b:=b) (c:=⟨c.fb,g1,g2⟩) ⟨hcb,j1,hb⟩ _) λz f=>?_
     obtain ⟨q0,q1⟩:=f.1
     have q1:=q1 (by omega)
     have L2:=lpT z.1 (λm (t:Int×Int×List Item×Int) i=>Qde fu c x1 x2 x3 x4 x5 x6 ps ts z m t.1 t.2.1 t.2.2.1 t.2.2.2 i) (λx:Request×Cur=>(x.1.fP.length≤40∧(1≤x.1.fR.length∧x.1.fR.length≤8)∧x.1.fU.length≤8)∧CO b x.2)
      (λi t=>0≤t.1∧(t.2.2.1.length:Int)≤i∧i≤z.1) (by omega) ?_ ?_ (z.1 - 0).toNat fu (z.2.fi,z.2.fh,[],0) 0 (by omega) rfl (by omega) ⟨f.2.2.1,by simp,by omega⟩
     · exact L2
     · intro m' ⟨k4,k5,is,un⟩ i' hi0 hi1 hI ih2
       obtain ⟨k1,k2,k3⟩:0≤k4∧(is.length:Int)≤i'∧i'≤z.1:=hI
       simp only [Qde.eq_2]
       unfold Qll
       rw [Qbj (by simp; omega)]
       refine Tot.bind (Qe0 (b:=b) (c:=⟨c.fb,k4,k5⟩) ⟨hcb,k1,hb⟩ _) λw1 v1=>Tot.bind (Qe0 (h.re v1.2) _) λw2 v2=>Tot.bind (Qe0 (h.re v2.2) _) λw3 v3=>Tot.bind (Qe0 (h.re v3.2) _) λw4 v4=>Tot.bind (Qe0 (h.re v4.2) _) λw5 v5=>Tot.bind (Qe0 (h.re v5.2) _) λw6 v6=>?_
       unfold Qo6
       have J3:∀ (p q:Int) (x:Item),0≤p→Tot (Qic fu (Qde fu c x1 x2 x3 x4 x5 x6 ps ts z m') is un i' p q x) (λx:Request×Cur=>(x.1.fP.length≤40∧(1≤x.1.fR.length∧x.1.fR.length≤8)∧x.1.fU.length≤8)∧CO b x.2):=by
        intro p q x hp
        unfold Qic Qki
        refine Tot.bif (λhc=>?_) λhc=>?_
        · refine Tot.ap (by simp; omega) ?_
          exact ih2 (p,q,_,_) ⟨hp,by simp; omega,by omega⟩
        · exact ih2 (p,q,_,_) ⟨hp,by simp; omega,by omega⟩
       refine Tot.bind (Q5z (h.re v6.2) _) λw7 v7=>?_
       refine Tot.bif (λhc=>?_) λhc=>?_
       · refine Tot.bind (Qe0 (h.re v7) _) λw8 v8=>?_
         exact J3 _ _ _ v8.2.2.1
       · exact J3 _ _ _ v7.2.1
     · intro m' ⟨k4,k5,is,un⟩ i' hi0 hi1 hI
       obtain ⟨k1,k2,k3⟩:0≤k4∧(is.length:Int)≤i'∧i'≤z.1:=hI
       simp only [Qde.eq_2]
       unfold Qll
       rw [Qay (by simp; omega)]
       exact Tot.mk ⟨⟨by simp; omega,by simp; omega,by simp; omega⟩,hcb,k1,hb⟩
theorem Jfr {fu:Nat} {b:List U8} {c:Cur} (h:CO b c) (hf:2097153≤fu):Tot (Qrc fu c) λx=>SmR x.1∧CO b x.2:=by
 unfold Qrc
 refine Tot.bind (Q6n h (by omega)) λx hx=>?_
 obtain ⟨⟨a1,a2,a3⟩,hc⟩:=hx
 have hs:SmR x.1:=⟨by omega,by omega,by omega⟩
 rw [Q2z (hs.sm hf),Qab]
 refine Tot.bif (λ_=>?_) λ_=>Tot.mk ⟨hs,h.re hc⟩
 have hs2:Sm fu (⟨x.1.qY,(⟨30,25,24,400⟩:Pallet),x.1.fG,x.1.fP,x.1.fR,x.1.fL,x.1.fU⟩:Request):=⟨hf,by simp; omega,by simp; omega,by simp; omega⟩
 rw [Q9l hs2,Qab]
 generalize Qyf _=t
 refine lpT (x.1.fU.length:Int) (λn s i=>Qgk fu c x t n s i) _ (λi s=>(s.length:Int)≤i∧i≤x.1.fU.length) (by omega) ?_ ?_ _ fu [] 0 (by omega) rfl (by omega) ⟨by simp,by omega⟩
 · intro n s i h0 h1 hI ih
   simp only [Qgk.eq_2]
   unfold Qnp Qmy
   rw [Qbj (by simpa using h1)]
   refine Tot.ix ⟨h0,h1⟩ λy hy=>?_
   rw [Jer hf,Qab]
   refine Tot.bif (λ_=>?_) λ_=>ih _ ⟨by omega,by omega⟩
   refine Tot.ix ⟨h0,h1⟩ λy hy=>Tot.ap (by simp; omega) ?_
   exact ih _ ⟨by simp; omega,by omega⟩
 · intro n s i h0 h1 hI
   simp only [Qgk.eq_2]
   unfold Qnp
   rw [Qay (by simp; omega)]
   exact Tot.mk ⟨⟨by simp; omega,by simp; omega,by simp; omega⟩,h.re hc⟩
theorem Qzp {α:Type} (l:List α) (i:Int) (y:α):(Qe5 l i y).length=l.length:=by simp [Qe5]
theorem Jas {α:Type} {l:List α} (h:0<l.length):sls l 1 (l.length:Int)=some (l.drop 1):=by
 rw [Qtj (by omega)]
 congr 1
 exact List.take_of_length_le (by simp)
theorem Jf2 {fu:Nat} {b:List U8} {c:Cur} (h:CO b c) (hf:2097153≤fu):Tot (Qq3 fu c) λx=>SmR x.1∧CO b x.2:=by
 unfold Qq3
 refine Tot.bind (Q6n h (by omega)) λx hx=>?_
 obtain ⟨⟨a1,a2,a3⟩,hc⟩:=hx
 obtain ⟨c1,c2,c3⟩:=h
 have h:CO b c:=⟨c1,c2,c3⟩
 refine Tot.bind (Qtl (h.re hc) _ (by simp)) λy hy=>Tot.bind (Qe0 (h.re hy.2) _) λz hz=>?_
 have J:∀ (f264 f265 f266 f267:Int) (f268:List Pair) (f273:List Typ) (f278:Int) (f279:List Item) (f286 f287:Int),f268.length≤64→f273.length≤64→f279.length≤64→0≤f286→Tot (Qbi fu c x f264 f265 f266 f267 f268 f273 f278 f279 f286 f287) λx=>SmR x.1∧CO b x.2:=by
  intro f264 f265 f266 f267 f268 f273 f278 f279 f286 f287 q1 q2 q3 q4
  exact Tot.mk ⟨⟨q1,q2,q3⟩,c1,q4,c3⟩
 have hz0:=hz.2.2.1
 refine Tot.bif (λ_=>?_) λ_=>?_
 · exact Tot.bind (Qtl (h.re hz.2) _ (by simp)) λy hy=>J _ _ _ _ _ _ _ _ _ _ (by omega) (by omega) (by omega) hy.2.2.1
 refine Tot.bif (λ_=>?_) λ_=>?_
 · exact J _ _ _ _ _ _ _ _ _ _ (by omega) (by omega) (by omega) hz0
 refine Tot.bif (λ_=>?_) λ_=>?_
 · exact J _ _ _ _ _ _ _ _ _ _ (by omega) (by omega) (by omega) hz0
 refine Tot.bif (λ_=>?_) λ_=>?_
 · exact Tot.bind (Qtl (h.re hz.2) _ (by simp)) λy hy=>J _ _ _ _ _ _ _ _ _ _ (by omega) (by omega) (by omega) hy.2.2.1
 refine Tot.bif (λ_=>?_) λ_=>?_
 · exact Tot.bind (Qe0 (h.re hz.2) _) λy hy=>Tot.bind (Qe0 (h.re hy.2) _) λv hv=>Tot.ap (by simp; omega) (J _ _ _ _ _ _ _ _ _ _ (by simp; omega) (by omega) (by omega) hv.2.2.1)
 refine Tot.bif (λ_=>?_) λ_=>?_
 · exact Tot.ix (by omega) λy hy=>J _ _ _ _ _ _ _ _ _ _ (by omega) (by rw [Qzp]; omega) (by omega) hz0
 refine Tot.bif (λ_=>?_) λ_=>?_
 · exact Tot.bind (Qe0 (h.re hz.2) _) λy hy=>Tot.ix ⟨hy.1.1,hy.1.2 (by omega)⟩ λv hv=>J _ _ _ _ _ _ _ _ _ _ (by omega) (by rw [Qzp]; omega) (by omega) hy.2.2.1
 refine Tot.bif (λ_=>?_) λ_=>?_
 · exact Tot.bind (Qtl (h.re hz.2) _ (by simp)) λy hy=>J _ _ _ _ _ _ _ _ _ _ (by omega) (by omega) (by omega) hy.2.2.1
 refine Tot.bif (λ_=>?_) λ_=>?_
 · exact Tot.bind (Qe0 (h.re hz.2) _) λy hy=>Tot.bind (Qe0 (h.re hy.2) _) λv hv=>Tot.ap (by simp; omega) (J _ _ _ _ _ _ _ _ _ _ (by omega) (by omega) (by simp; omega) hv.2.2.1)
 refine Tot.bif (λ_=>?_) λ_=>?_
 · refine Tot.bif (λhc=>?_) λ_=>?_
   · have:=of_decide_eq_true hc
     exact Tot.ix (by omega) λy hy=>J _ _ _ _ _ _ _ _ _ _ (by omega) (by omega) (by rw [Qzp]; omega) hz0
   · exact J _ _ _ _ _ _ _ _ _ _ (by omega) (by omega) (by omega) hz0
 refine Tot.bif (λ_=>?_) λ_=>?_
 · refine Tot.bif (λhc=>?_) λ_=>?_
   · have:=of_decide_eq_true hc
     rw [Jas (by omega),Qab]
     exact J _ _ _ _ _ _ _ _ _ _ (by simp; omega) (by omega) (by omega) hz0
   · exact J _ _ _ _ _ _ _ _ _ _ (by omega) (by omega) (by omega) hz0
 refine Tot.bif (λ_=>?_) λ_=>?_
 · exact Tot.ix (by omega) λy hy=>Tot.ap (by simp; omega) (J _ _ _ _ _ _ _ _ _ _ (by omega) (by simp; omega) (by omega) hz0)
 refine Tot.bif (λ_=>?_) λ_=>?_
 · exact J _ _ _ _ _ _ _ _ _ _ (by omega) (by simp) (by omega) hz0
 · exact J _ _ _ _ _ _ _ _ _ _ (by omega) (by omega) (by omega) hz0
theorem Jb7 {fu:Nat} {b:List U8} (hb:b.length≤1048576) (hf:2097153≤fu):Tot (Qmw fu b) SmR:=by
 unfold Qmw
 refine Tot.bind (Jgu hb (by omega)) λx hx=>Tot.bind (Q5z hx.re' _) λy hy=>?_
 refine Tot.bif (λ_=>?_) λ_=>?_
 · exact Tot.bind (Jfr hy.re' hf) λz hz=>Tot.mk hz.1
 · exact Tot.bind (Jf2 hy.re' hf) λz hz=>Tot.mk hz.1
theorem Jju (fu:Nat) (b:List U8):Qva fu b=some (decide ((b.length:Int)>1048576)):=rfl
end Go.Proofs.YtpcmapfabndggaaGreat
