/- PlannedBP: plain lem.. -/
import Derived.Test.YtpcmapfabndggaaGreatDoorPlannedBP3
set_option linter.unusedSimpArgs false
set_option linter.unusedVariables false
namespace Go.Proofs.YtpcmapfabndggaaGreatDoor
open Go
open Enc (rd ow)
open Arg (argv)
open Ret (retv)
open Wf (wf)
theorem Q4v {a b:List Int} (h:a.Perm b):Qsp a=Qsp b:=by
 induction h with
 | nil=>rfl
 | cons x _ ih=>simp [ih]
 | swap x y l=>simp; omega
 | trans _ _ h1 h2=>rw [h1,h2]
theorem Q8d {r:Request} {a b:List Int} (h:a.Perm b):(Qyz r a).Perm (Qyz r b):=h.filterMap _
theorem Jdw {r:Request} {a b:List Int} (h:a.Perm b):Qxw r a=Qxw r b:=Q4v ((Q8d h).map _)
theorem Q7e {r:Request} {a b:List Int} (h:a.Perm b):Qxr r a=Qxr r b:=Q4v ((Q8d h).map _)
theorem Q7m {r:Request} {a b:List Int} (h:a.Perm b) (t:Typ):Q1h r a t=Q1h r b t:=by unfold Q1h; rw [Jdw h,Q7e h]
theorem Q7d {r:Request} {a b:List Int} (h:a.Perm b) (t:Typ):Qzj r a t=Qzj r b t:=by
 unfold Qzj
 rw [Q7m h]
 congr 2
 apply Bool.eq_iff_iff.2
 simp only [List.all_eq_true]
 exact ⟨λk u hu=>k u (h.mem_iff.2 hu),λk u hu=>k u (h.mem_iff.1 hu)⟩
theorem Q8h {f:Typ→Int}:∀ (xs pre:List Typ) (t:Typ),Q86 f pre xs=true→t∈xs→(∀ y∈pre,f y≠f t)∧xs.find? (λy=>f y==f t)=some t
 | [],_,_,_,h=>by simp at h
 | x::xs,pre,t,hn,h=>by
  simp only [Q86,Bool.and_eq_true,Bool.not_eq_true'] at hn
  have hx:=List.any_eq_false.1 hn.1
  rcases List.mem_cons.1 h with rfl | h
  · exact ⟨λy hy e=>hx y hy (by simp [e]),by simp⟩
  · have ih:=Q8h xs (pre++[x]) t hn.2 h
    refine ⟨λy hy=>ih.1 y (by simp [hy]),?_⟩
    have:=ih.1 x (by simp)
    have e:(f x==f t)=false:=by simpa using this
    rw [List.find?_cons,e]
    exact ih.2
theorem Jdc {r:Request} (hc:Qhg r=0) {t:Typ} (ht:t∈r.fR):Qty r t.qQ=some t:=by
 have h:=(Qez hc).2.1
 unfold Q84 at h
 simp only [Bool.and_eq_true] at h
 exact (Q8h r.fR [] t h.1.1.1 ht).2
theorem Q71 (r:Request) (us:List Int):∀ (l:List Typ) (s:Typ×Bool),(∀ t∈l,t∈r.fR)→(s.2=true→s.1∈r.fR∧Qzj r us s.1=true)→(l.foldl (chp r us) s).2=true→(l.foldl (chp r us) s).1∈r.fR∧Qzj r us (l.foldl (chp r us) s).1=true
 | [],s,_,h,h2=>h h2
 | t::l,s,hl,h,h2=>by
  rw [List.foldl_cons] at h2 ⊢
  refine Q71 r us l _ (λx hx=>hl x (by simp [hx])) (λh3=>?_) h2
  unfold chp at h3 ⊢
  cases hh:Qzj r us t&&(!s.2||(decide (t.fK<s.1.fK)||(t.fK==s.1.fK&&decide (t.qQ<s.1.qQ))))
  · rw [hh,cond_false] at h3
    rw [cond_false]
    exact h h3
  · rw [Bool.and_eq_true] at hh
    rw [cond_true]
    exact ⟨hl t (by simp),hh.1⟩
theorem Jdf {r:Request} {us l:List Int} (h:Qc r (Qvp r us) l):Qzj r l (Qxv r)=true:=by
 obtain ⟨h1,h2,h3⟩:=h
 obtain ⟨u,hu⟩:=List.exists_mem_of_ne_nil _ h1
 have hc:=Q4r (Q1d (h2 u hu))
 have hz:=Qez hc
 unfold Qzj
 rw [show (Qhg r==0)=true by simp [hc],Bool.true_and,h3,Bool.and_true,List.all_eq_true]
 intro v hv
 have hv':=Q1d (h2 v hv)
 unfold uOk
 rw [Qvc hv',Bool.and_eq_true]
 exact ⟨rfl,hz.2.2.2.1 _ (Qzx hv')⟩
theorem Q98 {r:Request} {us l:List Int} (h:Qc r (Qvp r us) l):Qhg r=0∧(Qwy r l).2=true∧(Qwy r l).1∈r.fR∧Qzj r l (Qwy r l).1=true∧Qty r (Qwy r l).1.qQ=some (Qwy r l).1:=by
 obtain ⟨u,hu⟩:=List.exists_mem_of_ne_nil _ h.1
 have hc:=Q4r (Q1d (h.2.1 u hu))
 have h2:=Q7v (Q9n hc).2.1 (Jdf h)
 have h3:=Q71 r l r.fR (Jh9,false) (λ_ h=>h) (by simp) h2
 exact ⟨hc,h2,h3.1,h3.2,Jdc hc h3.1⟩
theorem Jga {r:Request} {us l:List Int} (h:Qc r (Qvp r us) l):1≤Qxr r l:=by
 obtain ⟨h1,h2,_⟩:=h
 match l,h1 with
 | u::l,_ =>
  have hu:=Q1d (h2 u (by simp))
  have hc:=Q4r hu
  have:=(Qr2 (Qez hc).1).1 _ (Qzx hu)
  simp only [Qyk,Bool.and_eq_true,Qcu] at this
  have h3:=(Q53 r l).1
  rw [Q7b]
  omega
theorem Q91 {r:Request} {us l:List Int} (h:Qc r (Qvp r us) l) (k:Int):Qs5 r (Q6w r k l)=⟨(Qwy r l).1.fW,(Qwy r l).1.fD,(Qwy r l).1.fH,(Qwy r l).1.ft+Qxr r l⟩∧Jco r.fJ (Qs5 r (Q6w r k l))=true:=by
 obtain ⟨hc,_,ht,hh,hf⟩:=Q98 h
 have hz:=Qez hc
 have e:Qs5 r (Q6w r k l)=⟨(Qwy r l).1.fW,(Qwy r l).1.fD,(Qwy r l).1.fH,(Qwy r l).1.ft+Qxr r l⟩:=by
  unfold Qs5 Q6w
  simp only [hf,show (Qhg r==0)=true by simp [hc],cond_true,Q7e (Qtp l)]
 refine ⟨e,?_⟩
 have ht1:=Qw1 hz.1 _ ht
 have ht2:=hz.2.2.2.2 _ ht
 simp only [Q2w,Bool.and_eq_true,Qcu] at ht1
 simp only [Q87,Bool.or_eq_false_iff,decide_eq_false_iff_not] at ht2
 rw [Qbe (by omega) (by omega)] at ht2
 have hg:=Jga h
 unfold Qzj at hh
 simp only [Bool.and_eq_true] at hh
 have hw:=hh.2.2
 unfold Q1h at hw
 simp only [Bool.and_eq_true,decide_eq_true_eq] at hw
 rw [e]
 simp only [Jco,Bool.and_eq_true,Qcu]
 omega
def Qxx (r:Request) (k:Int):List Box:=((Qvs r).filter λc=>c.fM==k).map (Qs5 r)
def plS (r:Request) (s:List Spot×Int) (k:Int):List Spot×Int:=(s.1++(spM r.fJ (Qxx r k)).map (λt=>⟨t.fJ+s.2,t.fX,t.fY,t.fZ⟩),s.2+Qzp (spM r.fJ (Qxx r k)))
def Q1f (r:Request):Plan×Bool:=bif Qhg r==0 then (⟨Qvs r,((Qf5 0 (Qhv r).length).foldl (plS r) ([],0)).1⟩,true) else (⟨[],[]⟩,false)
theorem Qz0 (r:Request) (k:Int):∀ (ks:List Int),ks.Nodup→((Qzm r ks).filter λc=>c.fM==k)=bif ks.contains k then Q1w r k else []
 | [],_=>rfl
 | j::ks,hn=>by
  obtain ⟨h1,h2⟩:=List.nodup_cons.1 hn
  have ih:=Qz0 r k ks h2
  rw [Qzm,List.filter_append,ih]
  have hj:∀ c∈Q1w r j,c.fM=j:=by
   intro c hc
   unfold Q1w at hc
   obtain ⟨l,_,rfl⟩:=List.mem_map.1 hc
   rfl
  by_cases e:k=j
  · subst e
    have e1:(Q1w r k).filter (λc=>c.fM==k)=Q1w r k:=List.filter_eq_self.2 λc hc=>by simp [hj c hc]
    have e2:ks.contains k=false:=by simpa using h1
    rw [e1,e2]
    simp
  · have e1:(Q1w r j).filter (λc=>c.fM==k)=[]:=List.filter_eq_nil_iff.2 λc hc=>by simp [hj c hc]; omega
    rw [e1]
    have e2:(j::ks).contains k=ks.contains k:=by simp [e]
    rw [e2]; rfl
theorem Q2z {r:Request} {k:Int} (h:0≤k∧k<(Qhv r).length):Qxx r k=(Q1w r k).map (Qs5 r):=by
 unfold Qxx Qvs
 rw [Qz0 r k _ (Qtk _ _)]
 rw [show (Qf5 0 (Qhv r).length).contains k=true by rw [List.contains_iff_mem,Qc5]; omega]
 rfl
theorem Q46 {r:Request} (hc:Qhg r=0) {k:Int} (h:0≤k∧k<(Qhv r).length):Qzt r.fJ (Qxx r k)=true:=by
 have hb:=(Qez hc).1
 unfold Q4n at hb
 simp only [Bool.and_eq_true] at hb
 unfold Qzt
 rw [Q2z h,Bool.and_eq_true]
 refine ⟨hb.1.1.1.1.1.1.1.1.2,List.all_eq_true.2 λb hb=>?_⟩
 unfold Q1w at hb
 rw [List.map_map] at hb
 obtain ⟨l,hl,rfl⟩:=List.mem_map.1 hb
 exact (Q91 (Jik l hl) k).2
theorem Q6r (r:Request) (k:Int):(Qxx r k).length≤48:=by
 have h1:=List.length_filter_le (λc:Carton=>c.fM==k) (Qvs r)
 have h2:=Qzr r
 unfold Qxx
 rw [List.length_map]
 omega
theorem Jfb {r:Request} (hc:Qhg r=0):∀ (ks:List Int) (s:List Spot×Int),(∀ k∈ks,0≤k∧k<(Qhv r).length)→(ks.foldl (plS r) s).1.length=s.1.length+(Qzm r ks).length
 | [],s,_=>by simp [Qzm]
 | k::ks,s,h=>by
  rw [List.foldl_cons,Jfb hc ks _ λj hj=>h j (by simp [hj])]
  have hk:=h k (by simp)
  have h1:=Q3y (Q46 hc hk)
  rw [Q2z hk,List.length_map] at h1
  simp only [plS,Qzm,List.length_append,List.length_map,Q2z hk,h1]
  omega
theorem Q9w (r:Request):(Q1f r).1.fF.length=(Q1f r).1.fV.length∧(Q1f r).1.fV.length≤48∧∀ c∈(Q1f r).1.fV,c.fO.length≤12:=by
 unfold Q1f
 cases hc:Qhg r==0
 · exact ⟨rfl,by simp,by simp⟩
 · rw [cond_true]
   have:=Jfb (r:=r) (by simpa using hc) (Qf5 0 (Qhv r).length) ([],0) λk hk=>by have:=Qc5.1 hk; omega
   exact ⟨by rw [this]; simp [Qvs],Qzr r,λc hc=>Qxd hc⟩
theorem Jil {fu:Nat} {r:Request} (h:Sm fu r):Qrv fu r=some (Q1f r):=by
 have hfu:=h.fu
 have hg:=(Qt5 r).1
 have hcl:=Qzr r
 unfold Qrv Q1f
 rw [Q35 h,Qab]
 cases hc:Qhg r==0
 · rw [show (Qhg r != 0)=true by simp only [bne,hc]; rfl]; rfl
 · have hz:Qhg r=0:=by simpa using hc
   rw [show (Qhg r != 0)=false by simp [hz],cond_false,cond_true,Jkt h,Qab,Jfw h,Qab]
   have L3:=Q8j ((Qhv r).length:Int) (λn (s:List Spot×Int) k=>Qcq fu r (Qvs r) (Qhv r) n s.1 s.2 k) (λks s=>some ((⟨Qvs r,(ks.foldl (plS r) s).1⟩:Plan),true)) (λks s=>(∀ k∈ks,0≤k∧k<(Qhv r).length)∧s.1.length+48*ks.length≤1000∧0≤s.2∧s.2+1000000*ks.length≤10000000) (by omega) ?_ ?_ (Qhv r).length fu ([],0) 0 (by omega) (by omega) (by omega) ⟨λk hk=>by have:=Qc5.1 hk; omega,by simp [Qcs]; omega,by simp,by simp [Qcs]; omega⟩
   · exact L3
   · intro n ⟨sp,base⟩ k ks k0 k1 hd hI ih
     obtain ⟨i1,i2,i3,i4⟩:(∀ j∈k::ks,0≤j∧j<(Qhv r).length)∧sp.length+48*(k::ks).length≤1000∧0≤base∧base+1000000*((k::ks).length:Int)≤10000000:=hI
     simp only [List.length_cons] at i2 i4
     simp only [Qcq.eq_2]
     unfold Qn1
     rw [hd,cond_true]
     have L2:=lpI (Qvs r) (λm (bs:List Box) i=>Qgl fu (Qcq fu r (Qvs r) (Qhv r) n) r (Qvs r) sp base k m bs i) (λcs bs=>Qac (Qnc fu r.fJ (bs++(cs.filter λc=>c.fM==k).map (Qs5 r))) λx=>Qgo fu (Qcq fu r (Qvs r) (Qhv r) n) base k x fu sp 0) (λcs bs=>bs.length+cs.length≤48∧∀ c∈cs,c.fO.length≤12) (by omega) ?_ ?_ fu [] ⟨by simpa using hcl,λc hc=>Qxd hc⟩ (by omega)
     · refine L2.trans ?_
       have hbl:=Q6r r k
       rw [List.nil_append,show ((Qvs r).filter λc=>c.fM==k).map (Qs5 r)=Qxx r k from rfl,Jg2 hfu _ _ (by omega),Qab]
       have hsl:=Q3y (Q46 hz ⟨k0,k1⟩)
       have hpb:=Q6m (spM r.fJ (Qxx r k))
       have hps:∀ s∈spM r.fJ (Qxx r k),s∈spM r.fJ (Qxx r k):=λ_ h=>h
       have ih':=ih (plS r (sp,base) k) ⟨λj hj=>i1 j (by simp [hj]),by simp [plS]; omega,by simp [plS]; omega,by simp [plS]; omega⟩
       rw [List.foldl_cons,← ih']
       have hS:=Jho (fu:=fu) (l:=spM r.fJ (Qxx r k)) (by omega) (by omega)
       have hwf:∀ s∈spM r.fJ (Qxx r k),w64 (s.fJ+base)=s.fJ+base:=by
        intro s hs
        have:=Je9 (p:=r.fJ) (l:=Qxx r k) (by omega) s hs
        exact Qbe (by omega) (by omega)
       generalize hSP:spM r.fJ (Qxx r k)=S at hsl hpb hS hwf ⊢
       have L1:=lpI S (λm (o:List Spot) i=>Qgo fu (Qcq fu r (Qvs r) (Qhv r) n) base k S m o i) (λxs o=>Qcq fu r (Qvs r) (Qhv r) n (o++xs.map (λt=>⟨t.fJ+base,t.fX,t.fY,t.fZ⟩)) (base+Qzp S) (w64 (k+1))) (λxs o=>o.length+xs.length≤1000∧∀ s∈xs,w64 (s.fJ+base)=s.fJ+base) (by omega) ?_ ?_ fu sp ⟨by omega,hwf⟩ (by omega)
       · refine L1.trans ?_
         simp only [plS,hSP]
       · intro m o i x xs hx hd hI ih
         obtain ⟨j1,j2⟩:=hI
         simp only [List.length_cons] at j1
         simp only [Qgo.eq_2]
         unfold Qnu
         rw [hd,cond_true,hx,Qab,j2 x (by simp),ap1 (by simp; omega),Qab,ih _ ⟨by simp; omega,λs hs=>j2 s (by simp [hs])⟩]
         simp
       · intro m o i hd hI
         simp only [Qgo.eq_2]
         unfold Qnu
         rw [hd,cond_false,hS,Qab,Qbe (n:=base+_) (by omega) (by omega)]
         simp
     · intro m bs i c cs hx hd hI ih
       obtain ⟨j1,j2⟩:=hI
       simp only [List.length_cons] at j1
       have hcu:=j2 c (by simp)
       simp only [Qgl.eq_2]
       unfold Qni Qm5
       rw [hd,cond_true,hx,Qab,Qab,Jh3 h c (by omega),Qab,ap1 (by simp; omega),Qab,ih _ ⟨by simp; omega,λc hc=>j2 c (by simp [hc])⟩,ih _ ⟨by omega,λc hc=>j2 c (by simp [hc])⟩,List.filter_cons]
       cases c.fM==k <;> simp
     · intro m bs i hd _
       simp only [Qgl.eq_2]
       unfold Qni
       rw [hd,cond_false]; simp
   · intro n ⟨sp,base⟩ k hd _
     simp only [Qcq.eq_2]
     unfold Qn1
     rw [hd,cond_false]; rfl
def pcB (l:List Box) (o y z:Int):List Int→Int→List (Int×Spot)
 | [],_=>[]
 | b::bs,x=>(b,⟨o,x,y,z⟩)::pcB l o y z bs (x+(bxA l b).fW)
def pcS (l:List Box) (sh:List Shelf) (o z:Int):List Int→Int→List (Int×Spot)
 | [],_=>[]
 | j::js,y=>pcB l o y z (shA sh j).f9 0++pcS l sh o z js (y+(shA sh j).fD)
def pcY (l:List Box) (sh:List Shelf) (ly:List Layer) (o:Int):List Int→Int→List (Int×Spot)
 | [],_=>[]
 | i::is,z=>pcS l sh o z (lyA ly i).fE 0++pcY l sh ly o is (z+(lyA ly i).fH)
def pcO (l:List Box) (sh:List Shelf) (ly:List Layer) (ld:List Load):List Int→List (Int×Spot)
 | []=>[]
 | o::os=>pcY l sh ly o (ldA ld o).f8 0++pcO l sh ly ld os
def Jej (out:List Spot) (p:Int×Spot):List Spot:=Qhe out p.1 p.2
theorem Jec (l:List Box) (o y z:Int):∀ (is:List Int) (s:List Spot×Int),(spB l o y z is s).1=(pcB l o y z is s.2).foldl Jej s.1
 | [],s=>rfl
 | b::is,s=>by
  show (spB l o y z is (Qhe s.1 b ⟨o,s.2,y,z⟩,s.2+(bxA l b).fW)).1=_
  rw [Jec l o y z is]; rfl
theorem Jev (l:List Box) (sh:List Shelf) (o z:Int):∀ (js:List Int) (s:List Spot×Int),(spS l sh o z js s).1=(pcS l sh o z js s.2).foldl Jej s.1
 | [],s=>rfl
 | j::js,s=>by
  show (spS l sh o z js ((spB l o s.2 z (shA sh j).f9 (s.1,0)).1,s.2+(shA sh j).fD)).1=_
  rw [Jev l sh o z js,Jec,pcS,List.foldl_append]
theorem Jeo (l:List Box) (sh:List Shelf) (ly:List Layer) (o:Int):∀ (is:List Int) (s:List Spot×Int),(spY l sh ly o is s).1=(pcY l sh ly o is s.2).foldl Jej s.1
 | [],s=>rfl
 | i::is,s=>by
  show (spY l sh ly o is ((spS l sh o s.2 (lyA ly i).fE (s.1,0)).1,s.2+(lyA ly i).fH)).1=_
  rw [Jeo l sh ly o is,Jev,pcY,List.foldl_append]
theorem Je0 (l:List Box) (sh:List Shelf) (ly:List Layer) (ld:List Load):∀ (os:List Int) (out:List Spot),spO l sh ly ld os out=(pcO l sh ly ld os).foldl Jej out
 | [],out=>rfl
 | o::os,out=>by
  show spO l sh ly ld os (spY l sh ly o (ldA ld o).f8 (out,0)).1=_
  rw [Je0 l sh ly ld os,Jeo,pcO,List.foldl_append]
theorem Jbv (l:List Box) (o y z:Int):∀ (is:List Int) (x:Int),(pcB l o y z is x).map (·.1)=is
 | [],_=>rfl
 | b::is,x=>by rw [pcB,List.map_cons,Jbv l o y z is]
theorem Jau (l:List Box) (sh:List Shelf) (o z:Int):∀ (js:List Int) (y:Int),(pcS l sh o z js y).map (·.1)=(js.map λj=>(shA sh j).f9).flatten
 | [],_=>rfl
 | j::js,y=>by rw [pcS,List.map_append,Jbv,Jau l sh o z js,List.map_cons,List.flatten_cons]
theorem Q3x (l:List Box) (sh:List Shelf) (ly:List Layer) (o:Int):∀ (is:List Int) (z:Int),(pcY l sh ly o is z).map (·.1)=(((is.map λi=>(lyA ly i).fE).flatten).map λj=>(shA sh j).f9).flatten
 | [],_=>rfl
 | i::is,z=>by rw [pcY,List.map_append,Jau,Q3x l sh ly o is,List.map_cons,List.flatten_cons,List.map_append,List.flatten_append]
theorem Jbu (l:List Box) (sh:List Shelf) (ly:List Layer) (ld:List Load):∀ (os:List Int),(pcO l sh ly ld os).map (·.1)=(((((os.map λo=>(ldA ld o).f8).flatten).map λi=>(lyA ly i).fE).flatten).map λj=>(shA sh j).f9).flatten
 | []=>rfl
 | o::os=>by rw [pcO,List.map_append,Q3x,Jbu l sh ly ld os,List.map_cons,List.flatten_cons,List.map_append,List.flatten_append,List.map_append,List.flatten_append]
theorem Q0i {α β:Type} (l:List α) (d:α) (f:α→β):(Qf5 0 l.length).map (λp=>f ((ix l p).getD d))=l.map f:=by
 have key:∀ (xs pre:List α),l=pre++xs→(Qf5 pre.length xs.length).map (λp=>f ((ix l p).getD d))=xs.map f:=by
  intro xs
  induction xs with
  | nil=>intro pre _; rfl
  | cons x xs ih =>
   intro pre he
   have h1:=ih (pre++[x]) (by simp [he])
   have h2:ix l (pre.length:Int)=some x:=by rw [Qi4,he]; simp
   rw [List.length_cons]
   unfold Qf5
   rw [List.map_cons,List.map_cons,h2]
   have h3:(((pre++[x]).length:Nat):Int)=(pre.length:Int)+1:=by simp
   rw [h3] at h1
   rw [h1]; rfl
 exact key l [] rfl
structure ShQ (l:List Box) (s:Shelf):Prop where
 w:s.fW=Qsp (s.f9.map λi=>(bxA l i).fW)
 m:∀ i∈s.f9,(bxA l i).fD≤s.fD∧(bxA l i).fH≤s.fH
 g:s.fQ=Qsp (s.f9.map λi=>(bxA l i).fQ)
theorem Q9g (p:Pallet) (l:List Box):∀ (is:List Int) (out:List Shelf),(∀ s∈out,ShQ l s)→∀ s∈is.foldl (shS p l) out,ShQ l s
 | [],_,h=>h
 | i::is,out,h=>by
  rw [List.foldl_cons]
  refine Q9g p l is _ (Qx2 h (λs hs _=>?_) ?_)
  · have m1:=Qu1 s.fD (bxA l i).fD
    have m2:=Qu1 s.fH (bxA l i).fH
    refine ⟨?_,λj hj=>?_,?_⟩
    · simp only [Qq3,List.map_append,Qof,hs.w,List.map_cons,List.map_nil,Qf0,Quy]; omega
    · simp only [Qq3,List.mem_append,List.mem_singleton] at hj ⊢
      rcases hj with hj | rfl
      · have:=hs.m j hj; omega
      · omega
    · simp only [Qq3,List.map_append,Qof,hs.g,List.map_cons,List.map_nil,Qf0,Quy]; omega
  · have m1:=Qu1 0 (bxA l i).fD
    have m2:=Qu1 0 (bxA l i).fH
    refine ⟨by simp [Qq3,zSh],λj hj=>?_,by simp [Qq3,zSh]⟩
    simp only [Qq3,zSh,List.nil_append,List.mem_singleton] at hj ⊢
    subst hj; omega
structure LyQ (sh:List Shelf) (x:Layer):Prop where
 d:x.fD=Qsp (x.fE.map λj=>(shA sh j).fD)
 m:∀ j∈x.fE,(shA sh j).fH≤x.fH
 g:x.fQ=Qsp (x.fE.map λj=>(shA sh j).fQ)
theorem Jca (p:Pallet) (l:List Shelf):∀ (is:List Int) (out:List Layer),(∀ s∈out,LyQ l s)→∀ s∈is.foldl (lyS p l) out,LyQ l s
 | [],_,h=>h
 | i::is,out,h=>by
  rw [List.foldl_cons]
  refine Jca p l is _ (Qx2 h (λs hs _=>?_) ?_)
  · have m2:=Qu1 s.fH (shA l i).fH
    refine ⟨?_,λj hj=>?_,?_⟩
    · simp only [Qsf,List.map_append,Qof,hs.d,List.map_cons,List.map_nil,Qf0,Quy]; omega
    · simp only [Qsf,List.mem_append,List.mem_singleton] at hj ⊢
      rcases hj with hj | rfl
      · have:=hs.m j hj; omega
      · omega
    · simp only [Qsf,List.map_append,Qof,hs.g,List.map_cons,List.map_nil,Qf0,Quy]; omega
  · have m2:=Qu1 0 (shA l i).fH
    refine ⟨by simp [Qsf,zLy],λj hj=>?_,by simp [Qsf,zLy]⟩
    simp only [Qsf,zLy,List.nil_append,List.mem_singleton] at hj ⊢
    subst hj; omega
structure LdQ (ly:List Layer) (x:Load):Prop where
 h:x.fH=Qsp (x.f8.map λj=>(lyA ly j).fH)
 g:x.fQ=Qsp (x.f8.map λj=>(lyA ly j).fQ)
theorem Jbe (p:Pallet) (l:List Layer):∀ (is:List Int) (out:List Load),(∀ s∈out,LdQ l s)→∀ s∈is.foldl (ldS p l) out,LdQ l s
 | [],_,h=>h
 | i::is,out,h=>by
  rw [List.foldl_cons]
  refine Jbe p l is _ (Qx2 h (λs hs _=>?_) ⟨by simp [Qtv,zLd],by simp [Qtv,zLd]⟩)
  refine ⟨?_,?_⟩
  · simp only [Qtv,List.map_append,Qof,hs.h,List.map_cons,List.map_nil,Qf0,Quy]; omega
  · simp only [Qtv,List.map_append,Qof,hs.g,List.map_cons,List.map_nil,Qf0,Quy]; omega
def Apt (b:Box) (s:Spot) (c:Box) (t:Spot):Prop:=s.fJ≠t.fJ∨(s.fX+b.fW≤t.fX∨t.fX+c.fW≤s.fX)∨(s.fY+b.fD≤t.fY∨t.fY+c.fD≤s.fY)∨(s.fZ+b.fH≤t.fZ∨t.fZ+c.fH≤s.fZ)
theorem Apt.symm {b c:Box} {s t:Spot} (h:Apt b s c t):Apt c t b s:=by unfold Apt at h ⊢; omega
structure Geo (p:Pallet) (l:List Box) (sh:List Shelf) (ly:List Layer) (ld:List Load):Prop where
 b:∀ j∈Qf5 0 sh.length,ShQ l (shA sh j)∧ShI p l.length (shA sh j)
 s:∀ i∈Qf5 0 ly.length,LyQ sh (lyA ly i)∧LyI p sh.length (lyA ly i)
 y:∀ o∈Qf5 0 ld.length,LdQ ly (ldA ld o)∧LdI p ly.length (ldA ld o)
 ok:Qzt p l=true
section
variable {p:Pallet} {l:List Box} {sh:List Shelf} {ly:List Layer} {ld:List Load}
theorem Q7n (o y z:Int):∀ (is:List Int) (x:Int),(∀ i∈is,1≤(bxA l i).fW)→∀ q∈pcB l o y z is x,q.1∈is∧q.2.fJ=o∧q.2.fY=y∧q.2.fZ=z∧x≤q.2.fX∧q.2.fX+(bxA l q.1).fW≤x+Qsp (is.map λi=>(bxA l i).fW)
 | [],_,_,q,hq=>by simp [pcB] at hq
 | b::is,x,h,q,hq=>by
  have hb:=h b (by simp)
  have h0:0≤Qsp (is.map λi=>(bxA l i).fW):=Q0e _ _ λi hi=>by have:=h i (by simp [hi]); omega
  rw [List.map_cons,Qf0]
  rw [pcB] at hq
  rcases List.mem_cons.1 hq with rfl | hq
  · exact ⟨by simp,rfl,rfl,rfl,Int.le_refl _,by show x+(bxA l b).fW≤_; omega⟩
  · obtain ⟨h1,h2,h3,h4,h5,h6⟩:=Q7n o y z is _ (λi hi=>h i (by simp [hi])) q hq
    exact ⟨by simp [h1],h2,h3,h4,by omega,by omega⟩
def Je1 (l:List Box) (a c:Int×Spot):Prop:=Apt (bxA l a.1) a.2 (bxA l c.1) c.2
theorem Je5 (o y z:Int):∀ (is:List Int) (x:Int),(∀ i∈is,1≤(bxA l i).fW)→(pcB l o y z is x).Pairwise (Je1 l)
 | [],_,_=>List.Pairwise.nil
 | b::is,x,h=>by
  rw [pcB]
  refine List.Pairwise.cons (λq hq=>?_) (Je5 o y z is _ λi hi=>h i (by simp [hi]))
  obtain ⟨_,_,_,_,h5,_⟩:=Q7n o y z is _ (λi hi=>h i (by simp [hi])) q hq
  exact .inr (.inl (.inl h5))
theorem Q7w (hg:Geo p l sh ly ld) (o z H:Int):∀ (js:List Int) (y:Int),(∀ j∈js,j∈Qf5 0 sh.length∧(shA sh j).fH≤H)→∀ q∈pcS l sh o z js y,q.2.fJ=o∧q.2.fZ=z∧(bxA l q.1).fH≤H∧0≤q.2.fX∧q.2.fX+(bxA l q.1).fW≤p.fW∧y≤q.2.fY∧q.2.fY+(bxA l q.1).fD≤y+Qsp (js.map λj=>(shA sh j).fD)
 | [],_,_,q,hq=>by simp [pcS] at hq
 | j::js,y,h,q,hq=>by
  obtain ⟨hj,hH⟩:=h j (by simp)
  obtain ⟨a1,a2⟩:=hg.b j hj
  have h0:0≤Qsp (js.map λj=>(shA sh j).fD):=Q0e _ _ λi hi=>by have:=(hg.b i (h i (by simp [hi])).1).2.d; omega
  have hD:=a2.d
  rw [List.map_cons,Qf0]
  rw [pcS] at hq
  rcases List.mem_append.1 hq with hq | hq
  · obtain ⟨h1,h2,h3,h4,h5,h6⟩:=Q7n o y z _ 0 (λi hi=>(Qyy hg.ok (a2.inn i hi)).2.1.1) q hq
    have h7:=a1.m _ h1
    have h8:=a1.w
    have h9:=a2.w
    exact ⟨h2,h4,by omega,h5,by omega,by omega,by omega⟩
  · obtain ⟨h1,h2,h3,h4,h5,h6,h7⟩:=Q7w hg o z H js _ (λi hi=>h i (by simp [hi])) q hq
    exact ⟨h1,h2,h3,h4,h5,by omega,by omega⟩
theorem Jea (hg:Geo p l sh ly ld) (o z H:Int):∀ (js:List Int) (y:Int),(∀ j∈js,j∈Qf5 0 sh.length∧(shA sh j).fH≤H)→(pcS l sh o z js y).Pairwise (Je1 l)
 | [],_,_=>List.Pairwise.nil
 | j::js,y,h=>by
  obtain ⟨hj,hH⟩:=h j (by simp)
  obtain ⟨a1,a2⟩:=hg.b j hj
  rw [pcS]
  refine List.pairwise_append.2 ⟨Je5 o y z _ _ λi hi=>(Qyy hg.ok (a2.inn i hi)).2.1.1,Jea hg o z H js _ λi hi=>h i (by simp [hi]),λa ha c hc=>?_⟩
  obtain ⟨h1,h2,h3,h4,h5,h6⟩:=Q7n o y z _ 0 (λi hi=>(Qyy hg.ok (a2.inn i hi)).2.1.1) a ha
  obtain ⟨_,_,_,_,_,k6,_⟩:=Q7w hg o z H js _ (λi hi=>h i (by simp [hi])) c hc
  have h7:=a1.m _ h1
  exact .inr (.inr (.inl (.inl (by omega))))
theorem Q1b (hg:Geo p l sh ly ld) (o:Int):∀ (is:List Int) (z:Int),(∀ i∈is,i∈Qf5 0 ly.length)→∀ q∈pcY l sh ly o is z,q.2.fJ=o∧(0≤q.2.fX∧q.2.fX+(bxA l q.1).fW≤p.fW)∧(0≤q.2.fY∧q.2.fY+(bxA l q.1).fD≤p.fD)∧z≤q.2.fZ∧q.2.fZ+(bxA l q.1).fH≤z+Qsp (is.map λi=>(lyA ly i).fH)
 | [],_,_,q,hq=>by simp [pcY] at hq
 | i::is,z,h,q,hq=>by
  obtain ⟨a1,a2⟩:=hg.s i (h i (by simp))
  have h0:0≤Qsp (is.map λi=>(lyA ly i).fH):=Q0e _ _ λk hk=>by have:=(hg.s k (h k (by simp [hk]))).2.h; omega
  have hD:=a2.h
  rw [List.map_cons,Qf0]
  rw [pcY] at hq
  rcases List.mem_append.1 hq with hq | hq
  · obtain ⟨h1,h2,h3,h4,h5,h6,h7⟩:=Q7w hg o z _ _ 0 (λj hj=>⟨Qc5.2 (by have:=a2.inn j hj; omega),a1.m j hj⟩) q hq
    have h8:=a1.d
    have h9:=a2.d
    exact ⟨h1,⟨h4,h5⟩,⟨h6,by omega⟩,by omega,by omega⟩
  · obtain ⟨h1,h2,h3,h4,h5⟩:=Q1b hg o is _ (λk hk=>h k (by simp [hk])) q hq
    exact ⟨h1,h2,h3,by omega,by omega⟩
theorem Jey (hg:Geo p l sh ly ld) (o:Int):∀ (is:List Int) (z:Int),(∀ i∈is,i∈Qf5 0 ly.length)→(pcY l sh ly o is z).Pairwise (Je1 l)
 | [],_,_=>List.Pairwise.nil
 | i::is,z,h=>by
  obtain ⟨a1,a2⟩:=hg.s i (h i (by simp))
  have hk:∀ j∈(lyA ly i).fE,j∈Qf5 0 sh.length∧(shA sh j).fH≤(lyA ly i).fH:=λj hj=>⟨Qc5.2 (by have:=a2.inn j hj; omega),a1.m j hj⟩
  rw [pcY]
  refine List.pairwise_append.2 ⟨Jea hg o z _ _ 0 hk,Jey hg o is _ λk hk=>h k (by simp [hk]),λa ha c hc=>?_⟩
  obtain ⟨_,h2,h3,_⟩:=Q7w hg o z _ _ 0 hk a ha
  obtain ⟨_,_,_,k4,_⟩:=Q1b hg o is _ (λk hk=>h k (by simp [hk])) c hc
  exact .inr (.inr (.inr (.inl (by omega))))
theorem Q6p (hg:Geo p l sh ly ld) {o:Int} (ho:o∈Qf5 0 ld.length):∀ i∈(ldA ld o).f8,i∈Qf5 0 ly.length:=λi hi=>Qc5.2 (by have:=(hg.y o ho).2.inn i hi; omega)
theorem Q8f (hg:Geo p l sh ly ld):∀ (os:List Int),(∀ o∈os,o∈Qf5 0 ld.length)→∀ q∈pcO l sh ly ld os,q.2.fJ∈os∧(0≤q.2.fX∧q.2.fX+(bxA l q.1).fW≤p.fW)∧(0≤q.2.fY∧q.2.fY+(bxA l q.1).fD≤p.fD)∧(0≤q.2.fZ∧q.2.fZ+(bxA l q.1).fH≤p.fH)
 | [],_,q,hq=>by simp [pcO] at hq
 | o::os,h,q,hq=>by
  rw [pcO] at hq
  rcases List.mem_append.1 hq with hq | hq
  · have ho:=h o (by simp)
    obtain ⟨h1,h2,h3,h4,h5⟩:=Q1b hg o _ 0 (Q6p hg ho) q hq
    obtain ⟨a1,a2⟩:=hg.y o ho
    have h8:=a1.h
    have h9:=a2.h
    exact ⟨by simp [h1],h2,h3,h4,by omega⟩
  · obtain ⟨h1,h2⟩:=Q8f hg os (λk hk=>h k (by simp [hk])) q hq
    exact ⟨by simp [h1],h2⟩
theorem Jeu (hg:Geo p l sh ly ld):∀ (os:List Int),os.Nodup→(∀ o∈os,o∈Qf5 0 ld.length)→(pcO l sh ly ld os).Pairwise (Je1 l)
 | [],_,_=>List.Pairwise.nil
 | o::os,hn,h=>by
  obtain ⟨n1,n2⟩:=List.nodup_cons.1 hn
  have ho:=h o (by simp)
  rw [pcO]
  refine List.pairwise_append.2 ⟨Jey hg o _ 0 (Q6p hg ho),Jeu hg os n2 λk hk=>h k (by simp [hk]),λa ha c hc=>?_⟩
  obtain ⟨h1,_⟩:=Q1b hg o _ 0 (Q6p hg ho) a ha
  obtain ⟨k1,_⟩:=Q8f hg os (λk hk=>h k (by simp [hk])) c hc
  exact .inl λe=>n1 (by rw [← h1,e]; exact k1)
theorem Q5e (L:List (List Int)):Qsp L.flatten=Qsp (L.map Qsp):=by
 induction L with
 | nil=>rfl
 | cons x L ih=>rw [List.flatten_cons,Qof,ih,List.map_cons,Qf0]
theorem Jkw (hg:Geo p l sh ly ld) (o z:Int) (is:List Int) (h:∀ i∈is,i∈Qf5 0 ly.length):Qsp ((pcY l sh ly o is z).map λq=>(bxA l q.1).fQ)=Qsp (is.map λi=>(lyA ly i).fQ):=by
 have e:(pcY l sh ly o is z).map (λq=>(bxA l q.1).fQ)=((pcY l sh ly o is z).map (·.1)).map λi=>(bxA l i).fQ:=by rw [List.map_map]; rfl
 rw [e,Q3x,List.map_flatten,Q5e,List.map_map,List.map_map,List.map_flatten,Q5e,List.map_map,List.map_map]
 congr 1
 refine List.map_congr_left λi hi=>?_
 obtain ⟨a1,a2⟩:=hg.s i (h i hi)
 rw [a1.g]
 show Qsp _=_
 congr 1
 refine List.map_congr_left λj hj=>?_
 obtain ⟨b1,_⟩:=hg.b j (Qc5.2 (by have:=a2.inn j hj; omega))
 rw [b1.g]; rfl
theorem Jiz (hg:Geo p l sh ly ld) (k:Int):∀ (os:List Int),os.Nodup→(∀ o∈os,o∈Qf5 0 ld.length)→Qsp (((pcO l sh ly ld os).filter λq=>q.2.fJ==k).map λq=>(bxA l q.1).fQ)≤p.fQ
 | [],_,_=>by
  have:=Qu5 (Qyf hg.ok)
  simp [pcO]; omega
 | o::os,hn,h=>by
  obtain ⟨n1,n2⟩:=List.nodup_cons.1 hn
  have ho:=h o (by simp)
  rw [pcO,List.filter_append]
  by_cases e:o=k
  · subst e
    rw [List.filter_eq_self.2 λq hq=>by simp [(Q1b hg o _ 0 (Q6p hg ho) q hq).1],List.filter_eq_nil_iff.2 λq hq=>by
     have:=(Q8f hg os (λk hk=>h k (by simp [hk])) q hq).1
     intro e
     rw [beq_iff_eq] at e
     exact n1 (e ▸ this),List.append_nil,Jkw hg _ _ _ (Q6p hg ho),← (hg.y o ho).1.g]
    exact (hg.y o ho).2.g.2
  · rw [List.filter_eq_nil_iff.2 λq hq=>by simp [(Q1b hg o _ 0 (Q6p hg ho) q hq).1,e],List.nil_append]
    exact Jiz hg k os n2 λk hk=>h k (by simp [hk])
theorem Q9b (hg:Geo p l sh ly ld):∀ (os:List Int),(∀ o∈os,o∈Qf5 0 ld.length)→∀ o∈os,∃ q∈pcO l sh ly ld os,q.2.fJ=o
 | [],_,o,ho=>by simp at ho
 | a::os,h,o,ho=>by
  rw [pcO]
  rcases List.mem_cons.1 ho with rfl | ho
  · obtain ⟨a1,a2⟩:=hg.y o (h o (by simp))
    obtain ⟨i,hi⟩:=List.exists_mem_of_ne_nil _ a2.ne
    have hli:=Q6p hg (h o (by simp))
    obtain ⟨_,b2⟩:=hg.s i (hli i hi)
    obtain ⟨j,hj⟩:=List.exists_mem_of_ne_nil _ b2.ne
    obtain ⟨_,c2⟩:=hg.b j (Qc5.2 (by have:=b2.inn j hj; omega))
    obtain ⟨b,hb⟩:=List.exists_mem_of_ne_nil _ c2.ne
    have:b∈(pcY l sh ly o (ldA ld o).f8 0).map (·.1):=by
     rw [Q3x]
     exact List.mem_flatten.2 ⟨_,List.mem_map.2 ⟨j,List.mem_flatten.2 ⟨_,List.mem_map.2 ⟨i,hi,rfl⟩,hj⟩,rfl⟩,hb⟩
    obtain ⟨q,hq,_⟩:=List.mem_map.1 this
    exact ⟨q,List.mem_append_left _ hq,(Q1b hg o _ 0 hli q hq).1⟩
  · obtain ⟨q,hq,e⟩:=Q9b hg os (λk hk=>h k (by simp [hk])) o ho
    exact ⟨q,List.mem_append_right _ hq,e⟩
end
theorem Jb3 {α:Type} (l:List α) {i j:Int} (y:α) (h:i≠j) (h0:0≤i):ix (Qhe l i y) j=ix l j:=by
 unfold ix Qhe
 by_cases hj:0≤j
 · rw [if_pos hj,if_pos hj,List.getElem?_set_ne (by omega)]
 · rw [if_neg hj,if_neg hj]
theorem Q5s:∀ (P:List (Int×Spot)) (out:List Spot) (i:Int),(∀ q∈P,q.1≠i∧0≤q.1)→ix (P.foldl Jej out) i=ix out i
 | [],_,_,_=>rfl
 | q::P,out,i,h=>by
  rw [List.foldl_cons,Q5s P _ i λr hr=>h r (by simp [hr])]
  exact Jb3 _ _ (h q (by simp)).1 (h q (by simp)).2
theorem Q9t:∀ (P:List (Int×Spot)) (out:List Spot),(P.map (·.1)).Nodup→(∀ q∈P,0≤q.1∧q.1<out.length)→∀ q∈P,ix (P.foldl Jej out) q.1=some q.2
 | [],_,_,_,q,hq=>by simp at hq
 | a::P,out,hn,h,q,hq=>by
  rw [List.map_cons] at hn
  obtain ⟨n1,n2⟩:=List.nodup_cons.1 hn
  rw [List.foldl_cons]
  rcases List.mem_cons.1 hq with rfl | hq
  · rw [Q5s P _ q.1 λr hr=>⟨λe=>n1 (List.mem_map.2 ⟨r,hr,e⟩),(h r (by simp [hr])).1⟩]
    obtain ⟨x,hx⟩:=Q3k (l:=out) (h q (by simp)).1 (h q (by simp)).2
    exact Qeg _ hx
  · exact Q9t P _ n2 (λr hr=>by
      have:=h r (by simp [hr])
      rw [show (Jej out a).length=out.length from Qxh _ _ _]; exact this) q hq
structure SpI (p:Pallet) (l:List Box) (S:List Spot) (N:Int):Prop where
 len:S.length=l.length
 ins:∀ q∈l.zip S,(0≤q.2.fJ∧q.2.fJ<N)∧(0≤q.2.fX∧q.2.fX+q.1.fW≤p.fW)∧(0≤q.2.fY∧q.2.fY+q.1.fD≤p.fD)∧(0≤q.2.fZ∧q.2.fZ+q.1.fH≤p.fH)
 apr:(l.zip S).Pairwise λa c=>Apt a.1 a.2 c.1 c.2
 occ:∀ k,0≤k→k<N→∃ q∈l.zip S,q.2.fJ=k
 grm:∀ k,Qsp (((l.zip S).filter λq=>q.2.fJ==k).map (·.1.fQ))≤p.fQ
 nn:0≤N∧N≤l.length
theorem Q8n {a b:List Int} (h:a.Perm b):Qsp a=Qsp b:=by
 induction h with
 | nil=>rfl
 | cons x _ ih=>simp [ih]
 | swap x y l=>simp only [Qf0]; omega
 | trans _ _ h1 h2=>exact h1.trans h2
theorem Jd8 {α:Type} {R:α→α→Prop} (hs:∀ x y,R x y→R y x) (hr:∀ x,R x x):∀ (P:List α),P.Pairwise R→∀ x∈P,∀ y∈P,R x y
 | [],_,x,hx,_,_=>by simp at hx
 | a::P,h,x,hx,y,hy=>by
  obtain ⟨h1,h2⟩:=List.pairwise_cons.1 h
  rcases List.mem_cons.1 hx with ex | hx'
  · rcases List.mem_cons.1 hy with ey | hy'
    · rw [ex,ey]; exact hr _
    · rw [ex]; exact h1 y hy'
  · rcases List.mem_cons.1 hy with ey | hy'
    · rw [ey]; exact hs _ _ (h1 x hx')
    · exact Jd8 hs hr P h2 x hx' y hy'
theorem Ji1 {p:Pallet} {l:List Box} (h:Qzt p l=true):SpI p l (spM p l) (ldM p (lyM p (shM p l))).length:=by
 have hS:=Q8a h
 have hY:=Q61 hS
 obtain ⟨a1,a2,a3⟩:=Qz4 h
 obtain ⟨b1,b2,b3⟩:=Q0v hS
 obtain ⟨c1,c2,c3⟩:=Q4i hY
 have q1:∀ s∈shM p l,ShQ l s:=by
  unfold shM
  rw [h,cond_true]
  exact Q9g p l _ _ (by simp)
 have q2:∀ s∈lyM p (shM p l),LyQ (shM p l) s:=Jca p _ _ _ (by simp)
 have q3:∀ s∈ldM p (lyM p (shM p l)),LdQ (lyM p (shM p l)) s:=Jbe p _ _ _ (by simp)
 have e:spM p l=(pcO l (shM p l) (lyM p (shM p l)) (ldM p (lyM p (shM p l))) (Qf5 0 (ldM p (lyM p (shM p l))).length)).foldl Jej (List.replicate l.length zSp):=by
  unfold spM
  rw [h,cond_true,Je0]
 have hlen:=Q3y h
 generalize hsh:shM p l=sh at *
 generalize hly:lyM p sh=ly at *
 generalize hld:ldM p ly=ld at *
 have at_mem:∀ {α:Type} (L:List α) (d:α) (j:Int),j∈Qf5 0 L.length→(ix L j).getD d∈L:=λL d j hj=>by
  have hj:=Qc5.1 hj
  obtain ⟨x,hx⟩:=Q3k (l:=L) (i:=j) hj.1 (by omega)
  rw [hx]; exact Qf7 hx
 have hg:Geo p l sh ly ld:=⟨λj hj=>⟨q1 _ (at_mem sh zSh j hj),a1 _ (at_mem sh zSh j hj)⟩,λj hj=>⟨q2 _ (at_mem ly zLy j hj),b1 _ (at_mem ly zLy j hj)⟩,λj hj=>⟨q3 _ (at_mem ld zLd j hj),c1 _ (at_mem ld zLd j hj)⟩,h⟩
 have hf:(pcO l sh ly ld (Qf5 0 ld.length)).map (·.1)=srt (dnk (l.map (·.fD))) l.length:=by
  rw [Jbu]
  have e1:(Qf5 0 ld.length).map (λo=>(ldA ld o).f8)=ld.map (·.f8):=Q0i ld zLd (·.f8)
  have e2:(Qf5 0 ly.length).map (λo=>(lyA ly o).fE)=ly.map (·.fE):=Q0i ly zLy (·.fE)
  have e3:(Qf5 0 sh.length).map (λo=>(shA sh o).f9)=sh.map (·.f9):=Q0i sh zSh (·.f9)
  rw [e1,c2,e2,b2,e3,a2]
 have hin:=Q8f hg (Qf5 0 ld.length) λ_ h=>h
 have hpw:=Jeu hg (Qf5 0 ld.length) (Qtk _ _) λ_ h=>h
 have hgr:=λk=>Jiz hg k (Qf5 0 ld.length) (Qtk _ _) λ_ h=>h
 have hoc:=Q9b hg (Qf5 0 ld.length) λ_ h=>h
 generalize pcO l sh ly ld (Qf5 0 ld.length)=P at *
 have hperm:(P.map (·.1)).Perm (Qf5 0 l.length):=by rw [hf]; exact Qur _ _
 have hbd:∀ q∈P,0≤q.1∧q.1<l.length:=λq hq=>by
  have:=Qc5.1 (hperm.mem_iff.1 (List.mem_map.2 ⟨q,hq,rfl⟩))
  omega
 have hget:∀ q∈P,ix (spM p l) q.1=some q.2:=by
  rw [e]
  exact Q9t P _ (hperm.nodup_iff.2 (Qtk _ _)) (by simpa using hbd)
 generalize hSS:spM p l=S at *
 have hz:l.zip S=(Qf5 0 l.length).map λi=>(bxA l i,(ix S i).getD zSp):=by
  have e1:(Qf5 0 l.length).map (λi=>bxA l i)=l:=by
   have:=Q0i l zBx (λx=>x)
   rwa [List.map_id'] at this
  have e2:(Qf5 0 l.length).map (λi=>(ix S i).getD zSp)=S:=by
   have:=Q0i S zSp (λx=>x)
   rwa [List.map_id',hlen] at this
  have:((Qf5 0 l.length).map (λi=>bxA l i)).zip ((Qf5 0 l.length).map λi=>(ix S i).getD zSp)=(Qf5 0 l.length).map λi=>(bxA l i,(ix S i).getD zSp):=by
   rw [List.zip_map']
  rw [← this,e1,e2]
 have hP:(l.zip S).Perm (P.map λq=>(bxA l q.1,q.2)):=by
  have e1:P.map (λq=>(bxA l q.1,q.2))=(P.map (·.1)).map λi=>(bxA l i,(ix S i).getD zSp):=by
   rw [List.map_map]
   exact List.map_congr_left λq hq=>by simp [hget q hq]
  rw [hz,e1]
  exact (hperm.map _).symm
 refine ⟨hlen,λq hq=>?_,?_,λk k0 k1=>?_,λk=>?_,by omega,by omega⟩
 · obtain ⟨a,ha,rfl⟩:=List.mem_map.1 (hP.mem_iff.1 hq)
   obtain ⟨h1,h2⟩:=hin a ha
   have:=Qc5.1 h1
   exact ⟨by show 0≤a.2.fJ∧a.2.fJ<_; omega,h2⟩
 · rw [hz]
   refine List.pairwise_map.2 ((Qtk 0 l.length).imp_of_mem fun {i j} hi hj hij=>?_)
   obtain ⟨a,ha,rfl⟩:=List.mem_map.1 (hperm.mem_iff.2 hi)
   obtain ⟨c,hc,rfl⟩:=List.mem_map.1 (hperm.mem_iff.2 hj)
   rw [hget a ha,hget c hc]
   have key:∀ {x y:Int×Spot},x∈P→y∈P→x.1≠y.1→Je1 l x y:=by
    have hs:P.Pairwise λx y=>x.1≠y.1→Je1 l x y:=hpw.imp (S:=λx y=>x.1≠y.1→Je1 l x y) λh _=>h
    intro x y hx hy
    exact Jd8 (R:=λx y=>x.1≠y.1→Je1 l x y) (λx y h hne=>(h λe=>hne e.symm).symm) (λx hne=>absurd rfl hne) P hs x hx y hy
   exact key ha hc hij
 · obtain ⟨q,hq,e⟩:=hoc k (Qc5.2 (by omega))
   exact ⟨(bxA l q.1,q.2),hP.mem_iff.2 (List.mem_map.2 ⟨q,hq,rfl⟩),e⟩
 · have h1:=((hP.filter λq=>q.2.fJ==k).map (·.1.fQ))
   rw [Q8n h1,List.filter_map,List.map_map]
   exact hgr k
theorem Jbr {N:Int} (hN:N≤1000000):∀ (l:List Spot) (n:Int),0≤n→n≤N→(∀ s∈l,0≤s.fJ∧s.fJ<N)→n≤l.foldl Q33 n∧l.foldl Q33 n≤N∧∀ s∈l,s.fJ+1≤l.foldl Q33 n
 | [],n,_,h,_=>⟨Int.le_refl _,h,by simp⟩
 | s::l,n,h0,h1,h=>by
  have hs:=h s (by simp)
  have e:Q33 n s=if s.fJ+1>n then s.fJ+1 else n:=by
   unfold Q33
   rw [show inb s.fJ 0 999999=true from Qcu.2 (by omega),cond_true]
  have hb:n≤Q33 n s∧Q33 n s≤N∧s.fJ+1≤Q33 n s:=by rw [e]; split <;> omega
  rw [List.foldl_cons]
  obtain ⟨a,b,c⟩:=Jbr hN l (Q33 n s) (by omega) hb.2.1 λt ht=>h t (by simp [ht])
  refine ⟨by omega,b,λt ht=>?_⟩
  rcases List.mem_cons.1 ht with rfl | ht
  · omega
  · exact c t ht
theorem Jeb {S:List Spot} {N:Int} (hN:0≤N∧N≤1000000) (h:∀ s∈S,0≤s.fJ∧s.fJ<N) (ho:∀ k,0≤k→k<N→∃ s∈S,s.fJ=k):Qzp S=N:=by
 obtain ⟨a,b,c⟩:=Jbr hN.2 S 0 (Int.le_refl _) hN.1 h
 unfold Qzp
 by_cases h0:N=0
 · omega
 · obtain ⟨s,hs,e⟩:=ho (N - 1) (by omega) (by omega)
   have:=c s hs
   omega
theorem Jce {α β:Type} {a:List α} {b:List β} (h:b.length=a.length) {y:β} (hy:y∈b):∃ q∈a.zip b,q.2=y:=by
 obtain ⟨i,hi⟩:=List.mem_iff_getElem?.1 hy
 have hlt:=(List.getElem?_eq_some_iff.1 hi).1
 exact ⟨(a[i]'(by omega),y),List.mem_iff_getElem?.2 ⟨i,List.getElem?_zip_eq_some.2 ⟨List.getElem?_eq_getElem _,hi⟩⟩,rfl⟩
theorem Jfq {p:Pallet} {l:List Box} {S:List Spot} {N:Int} (g:SpI p l S N) (hl:l.length≤1000):Qzp S=N:=by
 have h:=g.nn
 refine Jeb ⟨h.1,by omega⟩ (λs hs=>?_) λk k0 k1=>?_
 · obtain ⟨q,hq,rfl⟩:=Jce g.len hs
   exact (g.ins q hq).1
 · obtain ⟨q,hq,e⟩:=g.occ k k0 k1
   exact ⟨q.2,(List.of_mem_zip hq).2,e⟩
def inU (r:Request) (cs:List (List Int)):Prop:=∀ c∈cs,∀ y∈c,0≤y∧y<(Qja r).length
theorem Q6c {c:List Int} {cs:List (List Int)} (h:c∈cs):c.length≤cs.flatten.length:=by
 induction cs with
 | nil=>simp at h
 | cons x xs ih =>
  rw [List.flatten_cons,List.length_append]
  rcases List.mem_cons.1 h with e | h
  · subst e; omega
  · have:=ih h; omega
theorem Ja9 {out:List (List Int)} {j u:Int} {c:List Int} (h:ix out j=some c):(Qhe out j (c++[u])).flatten.Perm (out.flatten++[u]):=by
 obtain ⟨h0,h1,h2⟩:=Qal h
 exact Qw2 h2
structure Ez (r:Request) (k:Int) (c0:List Int) (T:List Int) (us:List Int) (out:List (List Int)):Prop where
 src:ix out k=some c0
 all:(out.flatten++us).Perm (T++c0)
 inn:inU r out
 inu:∀ u∈us,0≤u∧u<(Qja r).length
 len:out.length≤12
 tot:(T++c0).length≤24
theorem Ez.step {r:Request} {k:Int} {c0 T us:List Int} {out:List (List Int)} {u j:Int} {c:List Int} (h:Ez r k c0 T (u::us) out) (hj:ix out j=some c) (hjk:j≠k):Ez r k c0 T us (Qhe out j (c++[u])):=by
 obtain ⟨j0,j1,j2⟩:=Qal hj
 obtain ⟨k0,k1,k2⟩:=Qal h.src
 refine ⟨?_,?_,?_,λv hv=>h.inu v (by simp [hv]),by unfold Qhe; simp; exact h.len,h.tot⟩
 · unfold ix Qhe
   rw [if_pos k0,List.getElem?_set,if_neg (by omega)]
   exact k2
 · refine ((Ja9 (u:=u) hj).append_right us).trans ?_
   simpa using h.all
 · intro d hd y hy
   unfold Qhe at hd
   rcases List.mem_or_eq_of_mem_set hd with hd | rfl
   · exact h.inn d hd y hy
   · rcases List.mem_append.1 hy with hy | hy
     · exact h.inn c (Qf7 hj) y hy
     · rw [List.mem_singleton.1 hy]; exact h.inu u (by simp)
structure Rz (r:Request) (cs:List (List Int)):Prop where
 len:cs.length≤12
 tot:cs.flatten.length≤12
 inn:inU r cs
theorem Rz.ez {r:Request} {cs:List (List Int)} (h:Rz r cs) {k:Int} {c:List Int} (hk:ix cs k=some c):Ez r k c cs.flatten c cs :=
 ⟨hk,List.Perm.refl _,h.inn,h.inn c (Qf7 hk),h.len,by have:=Q6c (Qf7 hk); have:=h.tot; rw [List.length_append]; omega⟩
def Gc (r:Request) (c:List Int):Prop:=c≠[]∧Q1h r c (Qxv r)=true∧Q2m r c=true
theorem Jdi {r:Request} {u:Int} (h:0≤u∧u<(Qja r).length):Qt1 r.fT (Jdy r u) (Jdy r u)=true:=by
 have hc:=Q4r h
 have hz:=Qez hc
 have hm:=Qzx h
 have ht:=hz.2.2.1
 have hn:=hz.2.1
 have hcl:(Qu0 r u).fL<r.fG:=by
  unfold Q84 at hn
  simp only [Bool.and_eq_true] at hn
  have key:∀ (l pre:List Item),Q85 r.fG pre l=true→∀ x∈l,x.fL<r.fG:=by
   intro l
   induction l with
   | nil=>intro _ _ x hx; simp at hx
   | cons y l ih =>
    intro pre h x hx
    simp only [Q85,Bool.and_eq_true,Bool.not_eq_true',decide_eq_false_iff_not] at h
    rcases List.mem_cons.1 hx with rfl | hx
    · omega
    · exact ih _ h.2 x hx
  exact key r.fU [] hn.1.1.2 _ hm
 have hi:=(Qr2 hz.1).1 _ hm
 simp only [Qyk,Bool.and_eq_true,Qcu] at hi
 unfold Jcp at ht
 simp only [Bool.and_eq_true] at ht
 have:=List.all_eq_true.1 ht.2 (Qu0 r u).fL (Qc5.2 ⟨by omega,by omega⟩)
 simp only [Bool.and_eq_true] at this
 exact this.1
theorem Jgp (r:Request):∀ g∈Qhv r,∀ x∈g,∀ y∈g,x≠y→Qyg r.fT x y=true:=by
 have key:∀ (l:List Int) (out:List (List Int)),(∀ g∈out,∀ x∈g,∀ y∈g,x≠y→Qyg r.fT x y=true)→∀ g∈l.foldl (Q50 r.fT) out,∀ x∈g,∀ y∈g,x≠y→Qyg r.fT x y=true:=by
  intro l
  induction l with
  | nil=>intro out h; exact h
  | cons c l ih =>
   intro out h
   rw [List.foldl_cons]
   refine ih _ ?_
   unfold Q50
   cases hf:Qxb (λg=>g.all (Qyg r.fT c)) out with
   | some k =>
    obtain ⟨g0,hg0,hall⟩:=Quv hf
    have hall:=List.all_eq_true.1 hall
    have hm:=List.mem_of_getElem? hg0
    simp only [hg0,Option.getD_some]
    intro g hg x hx y hy hxy
    rcases List.mem_or_eq_of_mem_set hg with hg | rfl
    · exact h g hg x hx y hy hxy
    · rcases List.mem_append.1 hx with hx | hx <;> rcases List.mem_append.1 hy with hy | hy
      · exact h g0 hm x hx y hy hxy
      · rw [List.mem_singleton.1 hy,Jcd]; exact hall x hx
      · rw [List.mem_singleton.1 hx]; exact hall y hy
      · rw [List.mem_singleton.1 hx,List.mem_singleton.1 hy] at hxy; exact absurd rfl hxy
   | none =>
    intro g hg x hx y hy hxy
    rcases List.mem_append.1 hg with hg | hg
    · exact h g hg x hx y hy hxy
    · rw [List.mem_singleton.1 hg] at hx hy
      rw [List.mem_singleton.1 hx,List.mem_singleton.1 hy] at hxy; exact absurd rfl hxy
 exact key (Q0c r) [] (by simp)
theorem Qvj {r:Request} {k u:Int} (h:u∈Qv6 r k):(0≤u∧u<(Qja r).length)∧∃ g,ix (Qhv r) k=some g∧Jdy r u∈g:=by
 unfold Qv6 at h
 cases hg:ix (Qhv r) k with
 | none=>rw [hg] at h; simp at h
 | some g =>
  rw [hg] at h
  obtain ⟨j,i,x,h1,h2,h3,h4⟩:=(Q6d r g (Qja r) 0 u).1 h
  have hj:=(List.getElem?_eq_some_iff.1 h1).1
  have hu:0≤u∧u<(Qja r).length:=by omega
  refine ⟨hu,g,rfl,?_⟩
  have hm:Qz1 r u=some x:=by
   unfold Qz1
   rw [h2,Int.zero_add,Qi4,h1,Qab,h3]
  unfold Jdy Qu0
  rw [hm]
  simpa using h4
theorem Q6h (r:Request) (k:Int):Qvp r (Qv6 r k)=Qv6 r k:=by
 unfold Qvp
 refine List.filter_eq_self.2 λu hu=>?_
 have:=(Qvj hu).1
 rw [Qcu]; omega
theorem Jd4 {r:Request} {k:Int} {l:List Int} (h:∀ u∈l,u∈Qv6 r k):Q2m r l=true:=by
 unfold Q2m
 refine List.all_eq_true.2 λx hx=>List.all_eq_true.2 λy hy=>?_
 obtain ⟨hx1,g,hg,hxg⟩:=Qvj (h x hx)
 obtain ⟨hy1,g',hg',hyg⟩:=Qvj (h y hy)
 rw [hg] at hg'
 cases hg'
 by_cases e:Jdy r x=Jdy r y
 · rw [← e]; exact Jdi hx1
 · have:=Jgp r g (Qf7 hg) _ hxg _ hyg e
   unfold Qyg at this
   rw [Bool.and_eq_true] at this
   exact this.1
theorem Jc6 {r:Request} {a b:List Int} (h:a.Perm b) (hb:Q2m r b=true):Q2m r a=true:=by
 unfold Q2m at *
 exact List.all_eq_true.2 λx hx=>List.all_eq_true.2 λy hy=>List.all_eq_true.1 (List.all_eq_true.1 hb x (h.mem_iff.1 hx)) y (h.mem_iff.1 hy)
theorem Jh5 {r:Request} {c:Carton} (h:c∈Qvs r):Gc r c.fO∧(0≤c.fM∧c.fM<(Qhv r).length)∧∀ u∈c.fO,u∈Qv6 r c.fM:=by
 obtain ⟨k,hk,l,hl,rfl⟩:=Qxl.1 h
 have hk':=Qc5.1 hk
 obtain ⟨q1,q2,q3⟩:=Jik l hl
 rw [Q6h] at q2
 have hp:=Qtp l
 refine ⟨⟨λe=>q1 ?_,?_,?_⟩,by simp only [Q6w]; omega,λu hu=>q2 u (hp.mem_iff.1 hu)⟩
 · have:(Q80 l).length=0:=by rw [show Q80 l=[] from e]; rfl
   rw [Q74] at this
   exact List.eq_nil_of_length_eq_zero this
 · show Q1h r (Q80 l) (Qxv r)=true
   rw [Q7m hp]; exact q3
 · exact Jc6 hp (Jd4 q2)
theorem Je6 (r:Request) (g:List Int):∀ (us:List Int) (u:Int),(ofG r g u us).Pairwise (·<·)∧∀ x∈ofG r g u us,u≤x
 | [],_=>by simp [ofG]
 | i::us,u=>by
  obtain ⟨h1,h2⟩:=Je6 r g us (u+1)
  have no:(ofG r g (u+1) us).Pairwise (·<·)∧∀ x∈ofG r g (u+1) us,u≤x:=⟨h1,λx hx=>by have:=h2 x hx; omega⟩
  have yes:(u::ofG r g (u+1) us).Pairwise (·<·)∧∀ x∈u::ofG r g (u+1) us,u≤x:=by
   refine ⟨List.pairwise_cons.2 ⟨λx hx=>by have:=h2 x hx; omega,h1⟩,λx hx=>?_⟩
   rcases List.mem_cons.1 hx with rfl | hx
   · omega
   · have:=h2 x hx; omega
  rw [ofG]
  cases ix r.fU i with
  | none=>exact no
  | some x =>
   simp only
   cases g.contains x.fL
   · exact no
   · exact yes
theorem Q47 (r:Request) (k:Int):(Qv6 r k).Nodup:=by
 unfold Qv6
 split
 · exact ((Je6 r _ (Qja r) 0).1).imp λh=>by omega
 · simp
theorem Q5b (r:Request):∀ (ks:List Int),((Qzm r ks).map (·.fO)).flatten.Perm (ks.map (Qv6 r)).flatten
 | []=>by simp [Qzm]
 | k::ks=>by
  have ih:=Q5b r ks
  have h1:((Q1w r k).map (·.fO)).flatten.Perm (Qv6 r k):=by
   have h2:=Q9z r (Qv6 r k)
   rw [Q6h] at h2
   refine List.Perm.trans ?_ h2
   unfold Q1w
   generalize pwM r (Qv6 r k)=L
   induction L with
   | nil=>simp
   | cons l L ihL=>simp only [List.map_cons,List.flatten_cons]; exact (Qtp l).append ihL
  rw [Qzm,List.map_append,List.flatten_append,List.map_cons,List.flatten_cons]
  exact h1.append ih
theorem Jfz (r:Request):((Qf5 0 (Qhv r).length).map (Qv6 r)).flatten.Perm (Qf5 0 (Qja r).length):=by
 refine (List.perm_ext_iff_of_nodup ?_ (Qtk _ _)).2 λu=>?_
 · refine List.pairwise_flatten.2 ⟨λl hl=>?_,?_⟩
   · obtain ⟨k,_,rfl⟩:=List.mem_map.1 hl
     exact Q47 r k
   · refine List.pairwise_map.2 ((Qun 0 (Qhv r).length).imp_of_mem fun {a b} ha hb hab=>?_)
     intro x hx y hy e
     subst e
     obtain ⟨_,g,hg,hxg⟩:=Qvj hx
     obtain ⟨_,g',hg',hyg⟩:=Qvj hy
     have:=Q07 (Qal hg).2.2 (Qal hg').2.2 hxg hyg
     have h1:=(Qal hg).1
     have h2:=(Qal hg').1
     omega
 · constructor
   · intro h
     obtain ⟨l,hl,hu⟩:=List.mem_flatten.1 h
     obtain ⟨k,_,rfl⟩:=List.mem_map.1 hl
     have:=(Qvj hu).1
     exact Qc5.2 (by omega)
   · intro h
     have hu:=Qc5.1 h
     have hi:=Qvc (r:=r) (u:=u) (by omega)
     obtain ⟨i,g,hg,hcg,_⟩:=Jbj (Jac hi)
     refine List.mem_flatten.2 ⟨Qv6 r i,List.mem_map.2 ⟨i,Qc5.2 ⟨by omega,by have:=(List.getElem?_eq_some_iff.1 hg).1; omega⟩,rfl⟩,?_⟩
     have hg':ix (Qhv r) (i:Int)=some g:=by rw [Qi4,hg]
     have:=Jgt hg' u
     unfold inG at this
     rw [hi] at this
     have e:g.contains (Qu0 r u).fL=true:=by simpa using hcg
     simp only [e] at this
     simpa using this
def Jhv (r:Request) (x:Plan):Bool:=Jg4 r x==0
theorem Jhk {fu:Nat} {r:Request} (h:Sm fu r) {x:Plan} (hx:Sp x):Qos fu r x=some (Jhv r x):=by
 unfold Qos Jhv
 rw [Jcb h hx]; rfl
structure FeaI (r:Request) (x:Plan):Prop where
 c:Qhg r=0
 pok:Q41 x=true
 emp:Jie x=false
 once:Q8u r x=true
 ch:x.fV.all (chB r)=true
 cg:x.fV.all (cgB r)=true
 cc:x.fV.all (ccB r)=true
 ins:(cs x).all (Jg7 r)=true
 apr:Jcu r [] (cs x)=true
 pl:(Qf5 0 (Qzp x.fF).toNat).all (plB r x)=true
theorem Jgg {r:Request} {x:Plan}:Jhv r x=true↔FeaI r x:=by
 unfold Jhv Jg4
 constructor
 · intro h
   have e:∀ (b:Bool) (n:Int) (m:Int),n≠0→((bif b then n else m)==0)=true→b=false∧(m==0)=true:=by
    intro b n m hn hb
    cases b
    · exact ⟨rfl,hb⟩
    · simp at hb; exact absurd hb hn
   obtain ⟨h1,h⟩:=e _ _ _ (by decide) h
   obtain ⟨h2,h⟩:=e _ _ _ (by decide) h
   obtain ⟨h3,h⟩:=e _ _ _ (by decide) h
   obtain ⟨h4,h⟩:=e _ _ _ (by decide) h
   obtain ⟨h5,h⟩:=e _ _ _ (by decide) h
   obtain ⟨h6,h⟩:=e _ _ _ (by decide) h
   obtain ⟨h7,h⟩:=e _ _ _ (by decide) h
   obtain ⟨h8,h⟩:=e _ _ _ (by decide) h
   obtain ⟨h9,h⟩:=e _ _ _ (by decide) h
   obtain ⟨h10,h⟩:=e _ _ _ (by decide) h
   exact ⟨by simpa using h1,by simpa using h2,h3,by simpa using h4,by simpa using h5,by simpa using h6,by simpa using h7,by simpa using h8,by simpa using h9,by simpa using h10⟩
 · rintro ⟨h1,h2,h3,h4,h5,h6,h7,h8,h9,h10⟩
   rw [h1,h2,h3,h4,h5,h6,h7,h8,h9,h10]; rfl
theorem Q93 {r:Request}:∀ (l pre:List (Carton×Spot)),(pre++l).Pairwise (λa c=>ovP r c a=false)→Jcu r pre l=true
 | [],_,_=>rfl
 | p::l,pre,h=>by
  unfold Jcu
  rw [Bool.and_eq_true]
  refine ⟨List.all_eq_true.2 λq hq=>?_,Q93 l (pre++[p]) (by simpa using h)⟩
  rw [(List.pairwise_append.1 h).2.2 q hq p (by simp)]; rfl
end Go.Proofs.YtpcmapfabndggaaGreatDoor
