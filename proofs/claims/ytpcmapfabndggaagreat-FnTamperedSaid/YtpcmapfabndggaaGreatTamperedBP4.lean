import Derived.Test.YtpcmapfabndggaaGreatTamperedBP3
set_option linter.unusedSimpArgs false
set_option linter.unusedVariables false
/- The plan of an order, by spec. -/
namespace Go.Proofs.YtpcmapfabndggaaGreat
open Go
open Enc (rd ow)
open Arg (argv)
open Ret (retv)
open Wf (wf)
theorem Q34 {a b:List Int} (h:a.Perm b):Qsb a=Qsb b:=by
 induction h with
 | nil=>rfl
 | cons x _ ih=>simp [ih]
 | swap x y l=>simp; omega
 | trans _ _ h1 h2=>rw [h1,h2]
theorem Q55 {r:Request} {a b:List Int} (h:a.Perm b):(Qyb r a).Perm (Qyb r b):=h.filterMap _
theorem Jcj {r:Request} {a b:List Int} (h:a.Perm b):Qwz r a=Qwz r b:=Q34 ((Q55 h).map _)
theorem Q61 {r:Request} {a b:List Int} (h:a.Perm b):Qwa r a=Qwa r b:=Q34 ((Q55 h).map _)
theorem Q6d {r:Request} {a b:List Int} (h:a.Perm b) (t:Typ):Q0p r a t=Q0p r b t:=by unfold Q0p; rw [Jcj h,Q61 h]
theorem Q6y {r:Request} {a b:List Int} (h:a.Perm b) (t:Typ):Qyx r a t=Qyx r b t:=by
 unfold Qyx
 rw [Q6d h]
 congr 2
 apply Bool.eq_iff_iff.2
 simp only [List.all_eq_true]
 exact ⟨λk u hu=>k u (h.mem_iff.2 hu),λk u hu=>k u (h.mem_iff.1 hu)⟩
theorem Q63 {f:Typ→Int}:∀ (xs pre:List Typ) (t:Typ),Q8g f pre xs=true→t∈xs→(∀ y∈pre,f y≠f t)∧xs.find? (λy=>f y==f t)=some t
 | [],_,_,_,h=>by simp at h
 | x::xs,pre,t,hn,h=>by
  simp only [Q8g,Bool.and_eq_true,Bool.not_eq_true'] at hn
  have hx:=List.any_eq_false.1 hn.1
  rcases List.mem_cons.1 h with rfl | h
  · exact ⟨λy hy e=>hx y hy (by simp [e]),by simp⟩
  · have ih:=Q63 xs (pre++[x]) t hn.2 h
    refine ⟨λy hy=>ih.1 y (by simp [hy]),?_⟩
    have:=ih.1 x (by simp)
    have e:(f x==f t)=false:=by simpa using this
    rw [List.find?_cons,e]
    exact ih.2
theorem Jcn {r:Request} (hc:Qhd r=0) {t:Typ} (ht:t∈r.fR):Qtc r t.qQ=some t:=by
 have h:=(Qei hc).2.1
 unfold Q8h at h
 simp only [Bool.and_eq_true] at h
 exact (Q63 r.fR [] t h.1.1.1 ht).2
theorem Q62 (r:Request) (us:List Int):∀ (l:List Typ) (s:Typ×Bool),(∀ t∈l,t∈r.fR)→(s.2=true→s.1∈r.fR∧Qyx r us s.1=true)→(l.foldl (chp r us) s).2=true→(l.foldl (chp r us) s).1∈r.fR∧Qyx r us (l.foldl (chp r us) s).1=true
 | [],s,_,h,h2=>h h2
 | t::l,s,hl,h,h2=>by
  rw [List.foldl_cons] at h2 ⊢
  refine Q62 r us l _ (λx hx=>hl x (by simp [hx])) (λh3=>?_) h2
  unfold chp at h3 ⊢
  cases hh:Qyx r us t&&(!s.2||(decide (t.fK<s.1.fK)||(t.fK==s.1.fK&&decide (t.qQ<s.1.qQ))))
  · rw [hh,cond_false] at h3
    rw [cond_false]
    exact h h3
  · rw [Bool.and_eq_true] at hh
    rw [cond_true]
    exact ⟨hl t (by simp),hh.1⟩
theorem Jby {r:Request} {us l:List Int} (h:Qc r (Quk r us) l):Qyx r l (Qw0 r)=true:=by
 obtain ⟨h1,h2,h3⟩:=h
 obtain ⟨u,hu⟩:=List.exists_mem_of_ne_nil _ h1
 have hc:=Q4d (Qzz (h2 u hu))
 have hz:=Qei hc
 unfold Qyx
 rw [show (Qhd r==0)=true by simp [hc],Bool.true_and,h3,Bool.and_true,List.all_eq_true]
 intro v hv
 have hv':=Qzz (h2 v hv)
 unfold uOk
 rw [Quo hv',Bool.and_eq_true]
 exact ⟨rfl,hz.2.2.2.1 _ (Qy4 hv')⟩
theorem Q8v {r:Request} {us l:List Int} (h:Qc r (Quk r us) l):Qhd r=0∧(Qvs r l).2=true∧(Qvs r l).1∈r.fR∧Qyx r l (Qvs r l).1=true∧Qtc r (Qvs r l).1.qQ=some (Qvs r l).1:=by
 obtain ⟨u,hu⟩:=List.exists_mem_of_ne_nil _ h.1
 have hc:=Q4d (Qzz (h.2.1 u hu))
 have h2:=Q58 (Q8s hc).2.1 (Jby h)
 have h3:=Q62 r l r.fR (Jhn,false) (λ_ h=>h) (by simp) h2
 exact ⟨hc,h2,h3.1,h3.2,Jcn hc h3.1⟩
theorem Jeq {r:Request} {us l:List Int} (h:Qc r (Quk r us) l):1≤Qwa r l:=by
 obtain ⟨h1,h2,_⟩:=h
 match l,h1 with
 | u::l,_ =>
  have hu:=Qzz (h2 u (by simp))
  have hc:=Q4d hu
  have:=(Qrt (Qei hc).1).1 _ (Qy4 hu)
  simp only [Qxr,Bool.and_eq_true,Qco] at this
  have h3:=(Q5t r l).1
  rw [Q6q]
  omega
theorem Jat {r:Request} {us l:List Int} (h:Qc r (Quk r us) l) (k:Int):Qse r (Q5p r k l)=⟨(Qvs r l).1.fW,(Qvs r l).1.fD,(Qvs r l).1.fH,(Qvs r l).1.ft+Qwa r l⟩∧Jbp r.fJ (Qse r (Q5p r k l))=true:=by
 obtain ⟨hc,_,ht,hh,hf⟩:=Q8v h
 have hz:=Qei hc
 have e:Qse r (Q5p r k l)=⟨(Qvs r l).1.fW,(Qvs r l).1.fD,(Qvs r l).1.fH,(Qvs r l).1.ft+Qwa r l⟩:=by
  unfold Qse Q5p
  simp only [hf,show (Qhd r==0)=true by simp [hc],cond_true,Q61 (Qs9 l)]
 refine ⟨e,?_⟩
 have ht1:=Qwy hz.1 _ ht
 have ht2:=hz.2.2.2.2 _ ht
 simp only [Q13,Bool.and_eq_true,Qco] at ht1
 simp only [Q8f,Bool.or_eq_false_iff,decide_eq_false_iff_not] at ht2
 rw [Qa4 (by omega) (by omega)] at ht2
 have hg:=Jeq h
 unfold Qyx at hh
 simp only [Bool.and_eq_true] at hh
 have hw:=hh.2.2
 unfold Q0p at hw
 simp only [Bool.and_eq_true,decide_eq_true_eq] at hw
 rw [e]
 simp only [Jbp,Bool.and_eq_true,Qco]
 omega
def Qw3 (r:Request) (k:Int):List Box:=((Quv r).filter λc=>c.fF==k).map (Qse r)
def plS (r:Request) (s:List Spot×Int) (k:Int):List Spot×Int:=(s.1++(spM r.fJ (Qw3 r k)).map (λt=>⟨t.fJ+s.2,t.fX,t.fY,t.fZ⟩),s.2+Qxk (spM r.fJ (Qw3 r k)))
def Q0a (r:Request):Plan×Bool:=bif Qhd r==0 then (⟨Quv r,((Qf2 0 (Qhr r).length).foldl (plS r) ([],0)).1⟩,true) else (⟨[],[]⟩,false)
theorem Qz2 (r:Request) (k:Int):∀ (ks:List Int),ks.Nodup→((Qyi r ks).filter λc=>c.fF==k)=bif ks.contains k then Q1d r k else []
 | [],_=>rfl
 | j::ks,hn=>by
  obtain ⟨h1,h2⟩:=List.nodup_cons.1 hn
  have ih:=Qz2 r k ks h2
  rw [Qyi,List.filter_append,ih]
  have hj:∀ c∈Q1d r j,c.fF=j:=by
   intro c hc
   unfold Q1d at hc
   obtain ⟨l,_,rfl⟩:=List.mem_map.1 hc
   rfl
  by_cases e:k=j
  · subst e
    have e1:(Q1d r k).filter (λc=>c.fF==k)=Q1d r k:=List.filter_eq_self.2 λc hc=>by simp [hj c hc]
    have e2:ks.contains k=false:=by simpa using h1
    rw [e1,e2]
    simp
  · have e1:(Q1d r j).filter (λc=>c.fF==k)=[]:=List.filter_eq_nil_iff.2 λc hc=>by simp [hj c hc]; omega
    rw [e1]
    have e2:(j::ks).contains k=ks.contains k:=by simp [e]
    rw [e2]; rfl
theorem Q10 {r:Request} {k:Int} (h:0≤k∧k<(Qhr r).length):Qw3 r k=(Q1d r k).map (Qse r):=by
 unfold Qw3 Quv
 rw [Qz2 r k _ (Qsz _ _)]
 rw [show (Qf2 0 (Qhr r).length).contains k=true by rw [List.contains_iff_mem,Qc3]; omega]
 rfl
theorem Q4l {r:Request} (hc:Qhd r=0) {k:Int} (h:0≤k∧k<(Qhr r).length):Qyz r.fJ (Qw3 r k)=true:=by
 have hb:=(Qei hc).1
 unfold Q28 at hb
 simp only [Bool.and_eq_true] at hb
 unfold Qyz
 rw [Q10 h,Bool.and_eq_true]
 refine ⟨hb.1.1.1.1.1.1.1.1.2,List.all_eq_true.2 λb hb=>?_⟩
 unfold Q1d at hb
 rw [List.map_map] at hb
 obtain ⟨l,hl,rfl⟩:=List.mem_map.1 hb
 exact (Jat (Jgv l hl) k).2
theorem Q53 (r:Request) (k:Int):(Qw3 r k).length≤48:=by
 have h1:=List.length_filter_le (λc:Carton=>c.fF==k) (Quv r)
 have h2:=Qy3 r
 unfold Qw3
 rw [List.length_map]
 omega
theorem Jdc {r:Request} (hc:Qhd r=0):∀ (ks:List Int) (s:List Spot×Int),(∀ k∈ks,0≤k∧k<(Qhr r).length)→(ks.foldl (plS r) s).1.length=s.1.length+(Qyi r ks).length
 | [],s,_=>by simp [Qyi]
 | k::ks,s,h=>by
  rw [List.foldl_cons,Jdc hc ks _ λj hj=>h j (by simp [hj])]
  have hk:=h k (by simp)
  have h1:=Q2h (Q4l hc hk)
  rw [Q10 hk,List.length_map] at h1
  simp only [plS,Qyi,List.length_append,List.length_map,Q10 hk,h1]
  omega
theorem Q48 (r:Request):(Q0a r).1.fT.length=(Q0a r).1.fV.length∧(Q0a r).1.fV.length≤48∧∀ c∈(Q0a r).1.fV,c.f0.length≤12:=by
 unfold Q0a
 cases hc:Qhd r==0
 · exact ⟨rfl,by simp,by simp⟩
 · rw [cond_true]
   have:=Jdc (r:=r) (by simpa using hc) (Qf2 0 (Qhr r).length) ([],0) λk hk=>by have:=Qc3.1 hk; omega
   exact ⟨by rw [this]; simp [Quv],Qy3 r,λc hc=>Qwl hc⟩
theorem Jg0 {fu:Nat} {r:Request} (h:Sm fu r):Qrl fu r=some (Q0a r):=by
 have hfu:=h.fu
 have hg:=(Qtk r).1
 have hcl:=Qy3 r
 unfold Qrl Q0a
 rw [Q2z h,Qab]
 cases hc:Qhd r==0
 · rw [show (Qhd r != 0)=true by simp only [bne,hc]; rfl]; rfl
 · have hz:Qhd r=0:=by simpa using hc
   rw [show (Qhd r != 0)=false by simp [hz],cond_false,cond_true,Jiq h,Qab,Jfd h,Qab]
   have L3:=Q70 ((Qhr r).length:Int) (λn (s:List Spot×Int) k=>Qcq fu r (Quv r) (Qhr r) n s.1 s.2 k) (λks s=>some ((⟨Quv r,(ks.foldl (plS r) s).1⟩:Plan),true)) (λks s=>(∀ k∈ks,0≤k∧k<(Qhr r).length)∧s.1.length+48*ks.length≤1000∧0≤s.2∧s.2+1000000*ks.length≤10000000) (by omega) ?_ ?_ (Qhr r).length fu ([],0) 0 (by omega) (by omega) (by omega) ⟨λk hk=>by have:=Qc3.1 hk; omega,by simp [Qcy]; omega,by simp,by simp [Qcy]; omega⟩
   · exact L3
   · intro n ⟨sp,base⟩ k ks k0 k1 hd hI ih
     obtain ⟨i1,i2,i3,i4⟩:(∀ j∈k::ks,0≤j∧j<(Qhr r).length)∧sp.length+48*(k::ks).length≤1000∧0≤base∧base+1000000*((k::ks).length:Int)≤10000000:=hI
     simp only [List.length_cons] at i2 i4
     simp only [Qcq.eq_2]
     unfold Qno
     rw [hd,cond_true]
     have L2:=lpI (Quv r) (λm (bs:List Box) i=>Qgl fu (Qcq fu r (Quv r) (Qhr r) n) r (Quv r) sp base k m bs i) (λcs bs=>Qac (Qm1 fu r.fJ (bs++(cs.filter λc=>c.fF==k).map (Qse r))) λx=>Qgr fu (Qcq fu r (Quv r) (Qhr r) n) base k x fu sp 0) (λcs bs=>bs.length+cs.length≤48∧∀ c∈cs,c.f0.length≤12) (by omega) ?_ ?_ fu [] ⟨by simpa using hcl,λc hc=>Qwl hc⟩ (by omega)
     · refine L2.trans ?_
       have hbl:=Q53 r k
       rw [List.nil_append,show ((Quv r).filter λc=>c.fF==k).map (Qse r)=Qw3 r k from rfl,Jfl hfu _ _ (by omega),Qab]
       have hsl:=Q2h (Q4l hz ⟨k0,k1⟩)
       have hpb:=Q5a (spM r.fJ (Qw3 r k))
       have hps:∀ s∈spM r.fJ (Qw3 r k),s∈spM r.fJ (Qw3 r k):=λ_ h=>h
       have ih':=ih (plS r (sp,base) k) ⟨λj hj=>i1 j (by simp [hj]),by simp [plS]; omega,by simp [plS]; omega,by simp [plS]; omega⟩
       rw [List.foldl_cons,← ih']
       have hS:=Jhk (fu:=fu) (l:=spM r.fJ (Qw3 r k)) (by omega) (by omega)
       have hwf:∀ s∈spM r.fJ (Qw3 r k),w64 (s.fJ+base)=s.fJ+base:=by
        intro s hs
        have:=Jd6 (p:=r.fJ) (l:=Qw3 r k) (by omega) s hs
        exact Qa4 (by omega) (by omega)
       generalize hSP:spM r.fJ (Qw3 r k)=S at hsl hpb hS hwf ⊢
       have L1:=lpI S (λm (o:List Spot) i=>Qgr fu (Qcq fu r (Quv r) (Qhr r) n) base k S m o i) (λxs o=>Qcq fu r (Quv r) (Qhr r) n (o++xs.map (λt=>⟨t.fJ+base,t.fX,t.fY,t.fZ⟩)) (base+Qxk S) (w64 (k+1))) (λxs o=>o.length+xs.length≤1000∧∀ s∈xs,w64 (s.fJ+base)=s.fJ+base) (by omega) ?_ ?_ fu sp ⟨by omega,hwf⟩ (by omega)
       · refine L1.trans ?_
         simp only [plS,hSP]
       · intro m o i x xs hx hd hI ih
         obtain ⟨j1,j2⟩:=hI
         simp only [List.length_cons] at j1
         simp only [Qgr.eq_2]
         unfold Qng
         rw [hd,cond_true,hx,Qab,j2 x (by simp),ap1 (by simp; omega),Qab,ih _ ⟨by simp; omega,λs hs=>j2 s (by simp [hs])⟩]
         simp
       · intro m o i hd hI
         simp only [Qgr.eq_2]
         unfold Qng
         rw [hd,cond_false,hS,Qab,Qa4 (n:=base+_) (by omega) (by omega)]
         simp
     · intro m bs i c cs hx hd hI ih
       obtain ⟨j1,j2⟩:=hI
       simp only [List.length_cons] at j1
       have hcu:=j2 c (by simp)
       simp only [Qgl.eq_2]
       unfold Qnd Qmn
       rw [hd,cond_true,hx,Qab,Qab,Jhf h c (by omega),Qab,ap1 (by simp; omega),Qab,ih _ ⟨by simp; omega,λc hc=>j2 c (by simp [hc])⟩,ih _ ⟨by omega,λc hc=>j2 c (by simp [hc])⟩,List.filter_cons]
       cases c.fF==k <;> simp
     · intro m bs i hd _
       simp only [Qgl.eq_2]
       unfold Qnd
       rw [hd,cond_false]; simp
   · intro n ⟨sp,base⟩ k hd _
     simp only [Qcq.eq_2]
     unfold Qno
     rw [hd,cond_false]; rfl
end Go.Proofs.YtpcmapfabndggaaGreat
/- Where boxes stand: inside, apart from one another, and no pallet too heavy. -/
namespace Go.Proofs.YtpcmapfabndggaaGreat
open Go
open Enc (rd ow)
open Arg (argv)
open Ret (retv)
open Wf (wf)
def pcB (l:List Box) (o y z:Int):List Int→Int→List (Int×Spot)
 | [],_=>[]
 | b::bs,x=>(b,⟨o,x,y,z⟩)::pcB l o y z bs (x+(bxA l b).fW)
def pcS (l:List Box) (sh:List Shelf) (o z:Int):List Int→Int→List (Int×Spot)
 | [],_=>[]
 | j::js,y=>pcB l o y z (shA sh j).f9 0++pcS l sh o z js (y+(shA sh j).fD)
def pcY (l:List Box) (sh:List Shelf) (ly:List Layer) (o:Int):List Int→Int→List (Int×Spot)
 | [],_=>[]
 | i::is,z=>pcS l sh o z (lyA ly i).fE 0++pcY l sh ly o is (z+(lyA ly i).fH)
def pcO (l:List Box) (sh:List Shelf) (ly:List Layer) (ld:List Load):List Int→List (Int×Spot)
 | []=>[]
 | o::os=>pcY l sh ly o (ldA ld o).f8 0++pcO l sh ly ld os
def Jdq (out:List Spot) (p:Int×Spot):List Spot:=Qe5 out p.1 p.2
theorem Jd2 (l:List Box) (o y z:Int):∀ (is:List Int) (s:List Spot×Int),(spB l o y z is s).1=(pcB l o y z is s.2).foldl Jdq s.1
 | [],s=>rfl
 | b::is,s=>by
  show (spB l o y z is (Qe5 s.1 b ⟨o,s.2,y,z⟩,s.2+(bxA l b).fW)).1=_
  rw [Jd2 l o y z is]; rfl
theorem Jed (l:List Box) (sh:List Shelf) (o z:Int):∀ (js:List Int) (s:List Spot×Int),(spS l sh o z js s).1=(pcS l sh o z js s.2).foldl Jdq s.1
 | [],s=>rfl
 | j::js,s=>by
  show (spS l sh o z js ((spB l o s.2 z (shA sh j).f9 (s.1,0)).1,s.2+(shA sh j).fD)).1=_
  rw [Jed l sh o z js,Jd2,pcS,List.foldl_append]
theorem Jd7 (l:List Box) (sh:List Shelf) (ly:List Layer) (o:Int):∀ (is:List Int) (s:List Spot×Int),(spY l sh ly o is s).1=(pcY l sh ly o is s.2).foldl Jdq s.1
 | [],s=>rfl
 | i::is,s=>by
  show (spY l sh ly o is ((spS l sh o s.2 (lyA ly i).fE (s.1,0)).1,s.2+(lyA ly i).fH)).1=_
  rw [Jd7 l sh ly o is,Jed,pcY,List.foldl_append]
theorem Jef (l:List Box) (sh:List Shelf) (ly:List Layer) (ld:List Load):∀ (os:List Int) (out:List Spot),spO l sh ly ld os out=(pcO l sh ly ld os).foldl Jdq out
 | [],out=>rfl
 | o::os,out=>by
  show spO l sh ly ld os (spY l sh ly o (ldA ld o).f8 (out,0)).1=_
  rw [Jef l sh ly ld os,Jd7,pcO,List.foldl_append]
theorem Q86 (l:List Box) (o y z:Int):∀ (is:List Int) (x:Int),(pcB l o y z is x).map (·.1)=is
 | [],_=>rfl
 | b::is,x=>by rw [pcB,List.map_cons,Q86 l o y z is]
theorem Q80 (l:List Box) (sh:List Shelf) (o z:Int):∀ (js:List Int) (y:Int),(pcS l sh o z js y).map (·.1)=(js.map λj=>(shA sh j).f9).flatten
 | [],_=>rfl
 | j::js,y=>by rw [pcS,List.map_append,Q86,Q80 l sh o z js,List.map_cons,List.flatten_cons]
theorem Q3t (l:List Box) (sh:List Shelf) (ly:List Layer) (o:Int):∀ (is:List Int) (z:Int),(pcY l sh ly o is z).map (·.1)=(((is.map λi=>(lyA ly i).fE).flatten).map λj=>(shA sh j).f9).flatten
 | [],_=>rfl
 | i::is,z=>by rw [pcY,List.map_append,Q80,Q3t l sh ly o is,List.map_cons,List.flatten_cons,List.map_append,List.flatten_append]
theorem Q94 (l:List Box) (sh:List Shelf) (ly:List Layer) (ld:List Load):∀ (os:List Int),(pcO l sh ly ld os).map (·.1)=(((((os.map λo=>(ldA ld o).f8).flatten).map λi=>(lyA ly i).fE).flatten).map λj=>(shA sh j).f9).flatten
 | []=>rfl
 | o::os=>by rw [pcO,List.map_append,Q3t,Q94 l sh ly ld os,List.map_cons,List.flatten_cons,List.map_append,List.flatten_append,List.map_append,List.flatten_append]
theorem Qz7 {α β:Type} (l:List α) (d:α) (f:α→β):(Qf2 0 l.length).map (λp=>f ((ix l p).getD d))=l.map f:=by
 have key:∀ (xs pre:List α),l=pre++xs→(Qf2 pre.length xs.length).map (λp=>f ((ix l p).getD d))=xs.map f:=by
  intro xs
  induction xs with
  | nil=>intro pre _; rfl
  | cons x xs ih =>
   intro pre he
   have h1:=ih (pre++[x]) (by simp [he])
   have h2:ix l (pre.length:Int)=some x:=by rw [Qix,he]; simp
   rw [List.length_cons]
   unfold Qf2
   rw [List.map_cons,List.map_cons,h2]
   have h3:(((pre++[x]).length:Nat):Int)=(pre.length:Int)+1:=by simp
   rw [h3] at h1
   rw [h1]; rfl
 exact key l [] rfl
structure ShQ (l:List Box) (s:Shelf):Prop where
 w:s.fW=Qsb (s.f9.map λi=>(bxA l i).fW)
 m:∀ i∈s.f9,(bxA l i).fD≤s.fD∧(bxA l i).fH≤s.fH
 g:s.fQ=Qsb (s.f9.map λi=>(bxA l i).fQ)
theorem Q9f (p:Pallet) (l:List Box):∀ (is:List Int) (out:List Shelf),(∀ s∈out,ShQ l s)→∀ s∈is.foldl (shS p l) out,ShQ l s
 | [],_,h=>h
 | i::is,out,h=>by
  rw [List.foldl_cons]
  refine Q9f p l is _ (Qxd h (λs hs _=>?_) ?_)
  · have m1:=Qt9 s.fD (bxA l i).fD
    have m2:=Qt9 s.fH (bxA l i).fH
    refine ⟨?_,λj hj=>?_,?_⟩
    · simp only [Qqn,List.map_append,Qod,hs.w,List.map_cons,List.map_nil,Qfr,Qt6]; omega
    · simp only [Qqn,List.mem_append,List.mem_singleton] at hj ⊢
      rcases hj with hj | rfl
      · have:=hs.m j hj; omega
      · omega
    · simp only [Qqn,List.map_append,Qod,hs.g,List.map_cons,List.map_nil,Qfr,Qt6]; omega
  · have m1:=Qt9 0 (bxA l i).fD
    have m2:=Qt9 0 (bxA l i).fH
    refine ⟨by simp [Qqn,zSh],λj hj=>?_,by simp [Qqn,zSh]⟩
    simp only [Qqn,zSh,List.nil_append,List.mem_singleton] at hj ⊢
    subst hj; omega
structure LyQ (sh:List Shelf) (x:Layer):Prop where
 d:x.fD=Qsb (x.fE.map λj=>(shA sh j).fD)
 m:∀ j∈x.fE,(shA sh j).fH≤x.fH
 g:x.fQ=Qsb (x.fE.map λj=>(shA sh j).fQ)
theorem Q8j (p:Pallet) (l:List Shelf):∀ (is:List Int) (out:List Layer),(∀ s∈out,LyQ l s)→∀ s∈is.foldl (lyS p l) out,LyQ l s
 | [],_,h=>h
 | i::is,out,h=>by
  rw [List.foldl_cons]
  refine Q8j p l is _ (Qxd h (λs hs _=>?_) ?_)
  · have m2:=Qt9 s.fH (shA l i).fH
    refine ⟨?_,λj hj=>?_,?_⟩
    · simp only [Qry,List.map_append,Qod,hs.d,List.map_cons,List.map_nil,Qfr,Qt6]; omega
    · simp only [Qry,List.mem_append,List.mem_singleton] at hj ⊢
      rcases hj with hj | rfl
      · have:=hs.m j hj; omega
      · omega
    · simp only [Qry,List.map_append,Qod,hs.g,List.map_cons,List.map_nil,Qfr,Qt6]; omega
  · have m2:=Qt9 0 (shA l i).fH
    refine ⟨by simp [Qry,zLy],λj hj=>?_,by simp [Qry,zLy]⟩
    simp only [Qry,zLy,List.nil_append,List.mem_singleton] at hj ⊢
    subst hj; omega
structure LdQ (ly:List Layer) (x:Load):Prop where
 h:x.fH=Qsb (x.f8.map λj=>(lyA ly j).fH)
 g:x.fQ=Qsb (x.f8.map λj=>(lyA ly j).fQ)
theorem Jao (p:Pallet) (l:List Layer):∀ (is:List Int) (out:List Load),(∀ s∈out,LdQ l s)→∀ s∈is.foldl (ldS p l) out,LdQ l s
 | [],_,h=>h
 | i::is,out,h=>by
  rw [List.foldl_cons]
  refine Jao p l is _ (Qxd h (λs hs _=>?_) ⟨by simp [Qs8,zLd],by simp [Qs8,zLd]⟩)
  refine ⟨?_,?_⟩
  · simp only [Qs8,List.map_append,Qod,hs.h,List.map_cons,List.map_nil,Qfr,Qt6]; omega
  · simp only [Qs8,List.map_append,Qod,hs.g,List.map_cons,List.map_nil,Qfr,Qt6]; omega
def Apt (b:Box) (s:Spot) (c:Box) (t:Spot):Prop:=s.fJ≠t.fJ∨(s.fX+b.fW≤t.fX∨t.fX+c.fW≤s.fX)∨(s.fY+b.fD≤t.fY∨t.fY+c.fD≤s.fY)∨(s.fZ+b.fH≤t.fZ∨t.fZ+c.fH≤s.fZ)
theorem Apt.symm {b c:Box} {s t:Spot} (h:Apt b s c t):Apt c t b s:=by unfold Apt at h ⊢; omega
structure Geo (p:Pallet) (l:List Box) (sh:List Shelf) (ly:List Layer) (ld:List Load):Prop where
 b:∀ j∈Qf2 0 sh.length,ShQ l (shA sh j)∧ShI p l.length (shA sh j)
 s:∀ i∈Qf2 0 ly.length,LyQ sh (lyA ly i)∧LyI p sh.length (lyA ly i)
 y:∀ o∈Qf2 0 ld.length,LdQ ly (ldA ld o)∧LdI p ly.length (ldA ld o)
 ok:Qyz p l=true
section
variable {p:Pallet} {l:List Box} {sh:List Shelf} {ly:List Layer} {ld:List Load}
theorem Q6w (o y z:Int):∀ (is:List Int) (x:Int),(∀ i∈is,1≤(bxA l i).fW)→∀ q∈pcB l o y z is x,q.1∈is∧q.2.fJ=o∧q.2.fY=y∧q.2.fZ=z∧x≤q.2.fX∧q.2.fX+(bxA l q.1).fW≤x+Qsb (is.map λi=>(bxA l i).fW)
 | [],_,_,q,hq=>by simp [pcB] at hq
 | b::is,x,h,q,hq=>by
  have hb:=h b (by simp)
  have h0:0≤Qsb (is.map λi=>(bxA l i).fW):=Q0m _ _ λi hi=>by have:=h i (by simp [hi]); omega
  rw [List.map_cons,Qfr]
  rw [pcB] at hq
  rcases List.mem_cons.1 hq with rfl | hq
  · exact ⟨by simp,rfl,rfl,rfl,Int.le_refl _,by show x+(bxA l b).fW≤_; omega⟩
  · obtain ⟨h1,h2,h3,h4,h5,h6⟩:=Q6w o y z is _ (λi hi=>h i (by simp [hi])) q hq
    exact ⟨by simp [h1],h2,h3,h4,by omega,by omega⟩
def Jdj (l:List Box) (a c:Int×Spot):Prop:=Apt (bxA l a.1) a.2 (bxA l c.1) c.2
theorem Jee (o y z:Int):∀ (is:List Int) (x:Int),(∀ i∈is,1≤(bxA l i).fW)→(pcB l o y z is x).Pairwise (Jdj l)
 | [],_,_=>List.Pairwise.nil
 | b::is,x,h=>by
  rw [pcB]
  refine List.Pairwise.cons (λq hq=>?_) (Jee o y z is _ λi hi=>h i (by simp [hi]))
  obtain ⟨_,_,_,_,h5,_⟩:=Q6w o y z is _ (λi hi=>h i (by simp [hi])) q hq
  exact .inr (.inl (.inl h5))
theorem Q6r (hg:Geo p l sh ly ld) (o z H:Int):∀ (js:List Int) (y:Int),(∀ j∈js,j∈Qf2 0 sh.length∧(shA sh j).fH≤H)→∀ q∈pcS l sh o z js y,q.2.fJ=o∧q.2.fZ=z∧(bxA l q.1).fH≤H∧0≤q.2.fX∧q.2.fX+(bxA l q.1).fW≤p.fW∧y≤q.2.fY∧q.2.fY+(bxA l q.1).fD≤y+Qsb (js.map λj=>(shA sh j).fD)
 | [],_,_,q,hq=>by simp [pcS] at hq
 | j::js,y,h,q,hq=>by
  obtain ⟨hj,hH⟩:=h j (by simp)
  obtain ⟨a1,a2⟩:=hg.b j hj
  have h0:0≤Qsb (js.map λj=>(shA sh j).fD):=Q0m _ _ λi hi=>by have:=(hg.b i (h i (by simp [hi])).1).2.d; omega
  have hD:=a2.d
  rw [List.map_cons,Qfr]
  rw [pcS] at hq
  rcases List.mem_append.1 hq with hq | hq
  · obtain ⟨h1,h2,h3,h4,h5,h6⟩:=Q6w o y z _ 0 (λi hi=>(Qx9 hg.ok (a2.inn i hi)).2.1.1) q hq
    have h7:=a1.m _ h1
    have h8:=a1.w
    have h9:=a2.w
    exact ⟨h2,h4,by omega,h5,by omega,by omega,by omega⟩
  · obtain ⟨h1,h2,h3,h4,h5,h6,h7⟩:=Q6r hg o z H js _ (λi hi=>h i (by simp [hi])) q hq
    exact ⟨h1,h2,h3,h4,h5,by omega,by omega⟩
theorem Jdd (hg:Geo p l sh ly ld) (o z H:Int):∀ (js:List Int) (y:Int),(∀ j∈js,j∈Qf2 0 sh.length∧(shA sh j).fH≤H)→(pcS l sh o z js y).Pairwise (Jdj l)
 | [],_,_=>List.Pairwise.nil
 | j::js,y,h=>by
  obtain ⟨hj,hH⟩:=h j (by simp)
  obtain ⟨a1,a2⟩:=hg.b j hj
  rw [pcS]
  refine List.pairwise_append.2 ⟨Jee o y z _ _ λi hi=>(Qx9 hg.ok (a2.inn i hi)).2.1.1,Jdd hg o z H js _ λi hi=>h i (by simp [hi]),λa ha c hc=>?_⟩
  obtain ⟨h1,h2,h3,h4,h5,h6⟩:=Q6w o y z _ 0 (λi hi=>(Qx9 hg.ok (a2.inn i hi)).2.1.1) a ha
  obtain ⟨_,_,_,_,_,k6,_⟩:=Q6r hg o z H js _ (λi hi=>h i (by simp [hi])) c hc
  have h7:=a1.m _ h1
  exact .inr (.inr (.inl (.inl (by omega))))
theorem Qzx (hg:Geo p l sh ly ld) (o:Int):∀ (is:List Int) (z:Int),(∀ i∈is,i∈Qf2 0 ly.length)→∀ q∈pcY l sh ly o is z,q.2.fJ=o∧(0≤q.2.fX∧q.2.fX+(bxA l q.1).fW≤p.fW)∧(0≤q.2.fY∧q.2.fY+(bxA l q.1).fD≤p.fD)∧z≤q.2.fZ∧q.2.fZ+(bxA l q.1).fH≤z+Qsb (is.map λi=>(lyA ly i).fH)
 | [],_,_,q,hq=>by simp [pcY] at hq
 | i::is,z,h,q,hq=>by
  obtain ⟨a1,a2⟩:=hg.s i (h i (by simp))
  have h0:0≤Qsb (is.map λi=>(lyA ly i).fH):=Q0m _ _ λk hk=>by have:=(hg.s k (h k (by simp [hk]))).2.h; omega
  have hD:=a2.h
  rw [List.map_cons,Qfr]
  rw [pcY] at hq
  rcases List.mem_append.1 hq with hq | hq
  · obtain ⟨h1,h2,h3,h4,h5,h6,h7⟩:=Q6r hg o z _ _ 0 (λj hj=>⟨Qc3.2 (by have:=a2.inn j hj; omega),a1.m j hj⟩) q hq
    have h8:=a1.d
    have h9:=a2.d
    exact ⟨h1,⟨h4,h5⟩,⟨h6,by omega⟩,by omega,by omega⟩
  · obtain ⟨h1,h2,h3,h4,h5⟩:=Qzx hg o is _ (λk hk=>h k (by simp [hk])) q hq
    exact ⟨h1,h2,h3,by omega,by omega⟩
theorem Jeh (hg:Geo p l sh ly ld) (o:Int):∀ (is:List Int) (z:Int),(∀ i∈is,i∈Qf2 0 ly.length)→(pcY l sh ly o is z).Pairwise (Jdj l)
 | [],_,_=>List.Pairwise.nil
 | i::is,z,h=>by
  obtain ⟨a1,a2⟩:=hg.s i (h i (by simp))
  have hk:∀ j∈(lyA ly i).fE,j∈Qf2 0 sh.length∧(shA sh j).fH≤(lyA ly i).fH:=λj hj=>⟨Qc3.2 (by have:=a2.inn j hj; omega),a1.m j hj⟩
  rw [pcY]
  refine List.pairwise_append.2 ⟨Jdd hg o z _ _ 0 hk,Jeh hg o is _ λk hk=>h k (by simp [hk]),λa ha c hc=>?_⟩
  obtain ⟨_,h2,h3,_⟩:=Q6r hg o z _ _ 0 hk a ha
  obtain ⟨_,_,_,k4,_⟩:=Qzx hg o is _ (λk hk=>h k (by simp [hk])) c hc
  exact .inr (.inr (.inr (.inl (by omega))))
theorem Q45 (hg:Geo p l sh ly ld) {o:Int} (ho:o∈Qf2 0 ld.length):∀ i∈(ldA ld o).f8,i∈Qf2 0 ly.length:=λi hi=>Qc3.2 (by have:=(hg.y o ho).2.inn i hi; omega)
theorem Q6v (hg:Geo p l sh ly ld):∀ (os:List Int),(∀ o∈os,o∈Qf2 0 ld.length)→∀ q∈pcO l sh ly ld os,q.2.fJ∈os∧(0≤q.2.fX∧q.2.fX+(bxA l q.1).fW≤p.fW)∧(0≤q.2.fY∧q.2.fY+(bxA l q.1).fD≤p.fD)∧(0≤q.2.fZ∧q.2.fZ+(bxA l q.1).fH≤p.fH)
 | [],_,q,hq=>by simp [pcO] at hq
 | o::os,h,q,hq=>by
  rw [pcO] at hq
  rcases List.mem_append.1 hq with hq | hq
  · have ho:=h o (by simp)
    obtain ⟨h1,h2,h3,h4,h5⟩:=Qzx hg o _ 0 (Q45 hg ho) q hq
    obtain ⟨a1,a2⟩:=hg.y o ho
    have h8:=a1.h
    have h9:=a2.h
    exact ⟨by simp [h1],h2,h3,h4,by omega⟩
  · obtain ⟨h1,h2⟩:=Q6v hg os (λk hk=>h k (by simp [hk])) q hq
    exact ⟨by simp [h1],h2⟩
theorem Jd8 (hg:Geo p l sh ly ld):∀ (os:List Int),os.Nodup→(∀ o∈os,o∈Qf2 0 ld.length)→(pcO l sh ly ld os).Pairwise (Jdj l)
 | [],_,_=>List.Pairwise.nil
 | o::os,hn,h=>by
  obtain ⟨n1,n2⟩:=List.nodup_cons.1 hn
  have ho:=h o (by simp)
  rw [pcO]
  refine List.pairwise_append.2 ⟨Jeh hg o _ 0 (Q45 hg ho),Jd8 hg os n2 λk hk=>h k (by simp [hk]),λa ha c hc=>?_⟩
  obtain ⟨h1,_⟩:=Qzx hg o _ 0 (Q45 hg ho) a ha
  obtain ⟨k1,_⟩:=Q6v hg os (λk hk=>h k (by simp [hk])) c hc
  exact .inl λe=>n1 (by rw [← h1,e]; exact k1)
theorem Q4s (L:List (List Int)):Qsb L.flatten=Qsb (L.map Qsb):=by
 induction L with
 | nil=>rfl
 | cons x L ih=>rw [List.flatten_cons,Qod,ih,List.map_cons,Qfr]
theorem Ji9 (hg:Geo p l sh ly ld) (o z:Int) (is:List Int) (h:∀ i∈is,i∈Qf2 0 ly.length):Qsb ((pcY l sh ly o is z).map λq=>(bxA l q.1).fQ)=Qsb (is.map λi=>(lyA ly i).fQ):=by
 have e:(pcY l sh ly o is z).map (λq=>(bxA l q.1).fQ)=((pcY l sh ly o is z).map (·.1)).map λi=>(bxA l i).fQ:=by rw [List.map_map]; rfl
 rw [e,Q3t,List.map_flatten,Q4s,List.map_map,List.map_map,List.map_flatten,Q4s,List.map_map,List.map_map]
 congr 1
 refine List.map_congr_left λi hi=>?_
 obtain ⟨a1,a2⟩:=hg.s i (h i hi)
 rw [a1.g]
 show Qsb _=_
 congr 1
 refine List.map_congr_left λj hj=>?_
 obtain ⟨b1,_⟩:=hg.b j (Qc3.2 (by have:=a2.inn j hj; omega))
 rw [b1.g]; rfl
theorem Jhx (hg:Geo p l sh ly ld) (k:Int):∀ (os:List Int),os.Nodup→(∀ o∈os,o∈Qf2 0 ld.length)→Qsb (((pcO l sh ly ld os).filter λq=>q.2.fJ==k).map λq=>(bxA l q.1).fQ)≤p.fQ
 | [],_,_=>by
  have:=Qt8 (Qxp hg.ok)
  simp [pcO]; omega
 | o::os,hn,h=>by
  obtain ⟨n1,n2⟩:=List.nodup_cons.1 hn
  have ho:=h o (by simp)
  rw [pcO,List.filter_append]
  by_cases e:o=k
  · subst e
    rw [List.filter_eq_self.2 λq hq=>by simp [(Qzx hg o _ 0 (Q45 hg ho) q hq).1],List.filter_eq_nil_iff.2 λq hq=>by
     have:=(Q6v hg os (λk hk=>h k (by simp [hk])) q hq).1
     intro e
     rw [beq_iff_eq] at e
     exact n1 (e ▸ this),List.append_nil,Ji9 hg _ _ _ (Q45 hg ho),← (hg.y o ho).1.g]
    exact (hg.y o ho).2.g.2
  · rw [List.filter_eq_nil_iff.2 λq hq=>by simp [(Qzx hg o _ 0 (Q45 hg ho) q hq).1,e],List.nil_append]
    exact Jhx hg k os n2 λk hk=>h k (by simp [hk])
theorem Q9m (hg:Geo p l sh ly ld):∀ (os:List Int),(∀ o∈os,o∈Qf2 0 ld.length)→∀ o∈os,∃ q∈pcO l sh ly ld os,q.2.fJ=o
 | [],_,o,ho=>by simp at ho
 | a::os,h,o,ho=>by
  rw [pcO]
  rcases List.mem_cons.1 ho with rfl | ho
  · obtain ⟨a1,a2⟩:=hg.y o (h o (by simp))
    obtain ⟨i,hi⟩:=List.exists_mem_of_ne_nil _ a2.ne
    have hli:=Q45 hg (h o (by simp))
    obtain ⟨_,b2⟩:=hg.s i (hli i hi)
    obtain ⟨j,hj⟩:=List.exists_mem_of_ne_nil _ b2.ne
    obtain ⟨_,c2⟩:=hg.b j (Qc3.2 (by have:=b2.inn j hj; omega))
    obtain ⟨b,hb⟩:=List.exists_mem_of_ne_nil _ c2.ne
    have:b∈(pcY l sh ly o (ldA ld o).f8 0).map (·.1):=by
     rw [Q3t]
     exact List.mem_flatten.2 ⟨_,List.mem_map.2 ⟨j,List.mem_flatten.2 ⟨_,List.mem_map.2 ⟨i,hi,rfl⟩,hj⟩,rfl⟩,hb⟩
    obtain ⟨q,hq,_⟩:=List.mem_map.1 this
    exact ⟨q,List.mem_append_left _ hq,(Qzx hg o _ 0 hli q hq).1⟩
  · obtain ⟨q,hq,e⟩:=Q9m hg os (λk hk=>h k (by simp [hk])) o ho
    exact ⟨q,List.mem_append_right _ hq,e⟩
end
theorem Q9k {α:Type} (l:List α) {i j:Int} (y:α) (h:i≠j) (h0:0≤i):ix (Qe5 l i y) j=ix l j:=by
 unfold ix Qe5
 by_cases hj:0≤j
 · rw [if_pos hj,if_pos hj,List.getElem?_set_ne (by omega)]
 · rw [if_neg hj,if_neg hj]
theorem Q30:∀ (P:List (Int×Spot)) (out:List Spot) (i:Int),(∀ q∈P,q.1≠i∧0≤q.1)→ix (P.foldl Jdq out) i=ix out i
 | [],_,_,_=>rfl
 | q::P,out,i,h=>by
  rw [List.foldl_cons,Q30 P _ i λr hr=>h r (by simp [hr])]
  exact Q9k _ _ (h q (by simp)).1 (h q (by simp)).2
theorem Q88:∀ (P:List (Int×Spot)) (out:List Spot),(P.map (·.1)).Nodup→(∀ q∈P,0≤q.1∧q.1<out.length)→∀ q∈P,ix (P.foldl Jdq out) q.1=some q.2
 | [],_,_,_,q,hq=>by simp at hq
 | a::P,out,hn,h,q,hq=>by
  rw [List.map_cons] at hn
  obtain ⟨n1,n2⟩:=List.nodup_cons.1 hn
  rw [List.foldl_cons]
  rcases List.mem_cons.1 hq with rfl | hq
  · rw [Q30 P _ q.1 λr hr=>⟨λe=>n1 (List.mem_map.2 ⟨r,hr,e⟩),(h r (by simp [hr])).1⟩]
    obtain ⟨x,hx⟩:=Q0e (l:=out) (h q (by simp)).1 (h q (by simp)).2
    exact Qee _ hx
  · exact Q88 P _ n2 (λr hr=>by
      have:=h r (by simp [hr])
      rw [show (Jdq out a).length=out.length from Qwe _ _ _]; exact this) q hq
structure SpI (p:Pallet) (l:List Box) (S:List Spot) (N:Int):Prop where
 len:S.length=l.length
 ins:∀ q∈l.zip S,(0≤q.2.fJ∧q.2.fJ<N)∧(0≤q.2.fX∧q.2.fX+q.1.fW≤p.fW)∧(0≤q.2.fY∧q.2.fY+q.1.fD≤p.fD)∧(0≤q.2.fZ∧q.2.fZ+q.1.fH≤p.fH)
 apr:(l.zip S).Pairwise λa c=>Apt a.1 a.2 c.1 c.2
 occ:∀ k,0≤k→k<N→∃ q∈l.zip S,q.2.fJ=k
 grm:∀ k,Qsb (((l.zip S).filter λq=>q.2.fJ==k).map (·.1.fQ))≤p.fQ
 nn:0≤N∧N≤l.length
theorem Q7y {a b:List Int} (h:a.Perm b):Qsb a=Qsb b:=by
 induction h with
 | nil=>rfl
 | cons x _ ih=>simp [ih]
 | swap x y l=>simp only [Qfr]; omega
 | trans _ _ h1 h2=>exact h1.trans h2
theorem Jd1 {α:Type} {R:α→α→Prop} (hs:∀ x y,R x y→R y x) (hr:∀ x,R x x):∀ (P:List α),P.Pairwise R→∀ x∈P,∀ y∈P,R x y
 | [],_,x,hx,_,_=>by simp at hx
 | a::P,h,x,hx,y,hy=>by
  obtain ⟨h1,h2⟩:=List.pairwise_cons.1 h
  rcases List.mem_cons.1 hx with ex | hx'
  · rcases List.mem_cons.1 hy with ey | hy'
    · rw [ex,ey]; exact hr _
    · rw [ex]; exact h1 y hy'
  · rcases List.mem_cons.1 hy with ey | hy'
    · rw [ey]; exact hs _ _ (h1 x hx')
    · exact Jd1 hs hr P h2 x hx' y hy'
theorem Jgr {p:Pallet} {l:List Box} (h:Qyz p l=true):SpI p l (spM p l) (ldM p (lyM p (shM p l))).length:=by
 have hS:=Q6g h
 have hY:=Q59 hS
 obtain ⟨a1,a2,a3⟩:=Qzi h
 obtain ⟨b1,b2,b3⟩:=Qzl hS
 obtain ⟨c1,c2,c3⟩:=Q2f hY
 have q1:∀ s∈shM p l,ShQ l s:=by
  unfold shM
  rw [h,cond_true]
  exact Q9f p l _ _ (by simp)
 have q2:∀ s∈lyM p (shM p l),LyQ (shM p l) s:=Q8j p _ _ _ (by simp)
 have q3:∀ s∈ldM p (lyM p (shM p l)),LdQ (lyM p (shM p l)) s:=Jao p _ _ _ (by simp)
 have e:spM p l=(pcO l (shM p l) (lyM p (shM p l)) (ldM p (lyM p (shM p l))) (Qf2 0 (ldM p (lyM p (shM p l))).length)).foldl Jdq (List.replicate l.length zSp):=by
  unfold spM
  rw [h,cond_true,Jef]
 have hlen:=Q2h h
 generalize hsh:shM p l=sh at *
 generalize hly:lyM p sh=ly at *
 generalize hld:ldM p ly=ld at *
 have at_mem:∀ {α:Type} (L:List α) (d:α) (j:Int),j∈Qf2 0 L.length→(ix L j).getD d∈L:=λL d j hj=>by
  have hj:=Qc3.1 hj
  obtain ⟨x,hx⟩:=Q0e (l:=L) (i:=j) hj.1 (by omega)
  rw [hx]; exact Qfe hx
 have hg:Geo p l sh ly ld:=⟨λj hj=>⟨q1 _ (at_mem sh zSh j hj),a1 _ (at_mem sh zSh j hj)⟩,λj hj=>⟨q2 _ (at_mem ly zLy j hj),b1 _ (at_mem ly zLy j hj)⟩,λj hj=>⟨q3 _ (at_mem ld zLd j hj),c1 _ (at_mem ld zLd j hj)⟩,h⟩
 have hf:(pcO l sh ly ld (Qf2 0 ld.length)).map (·.1)=srt (dnk (l.map (·.fD))) l.length:=by
  rw [Q94]
  have e1:(Qf2 0 ld.length).map (λo=>(ldA ld o).f8)=ld.map (·.f8):=Qz7 ld zLd (·.f8)
  have e2:(Qf2 0 ly.length).map (λo=>(lyA ly o).fE)=ly.map (·.fE):=Qz7 ly zLy (·.fE)
  have e3:(Qf2 0 sh.length).map (λo=>(shA sh o).f9)=sh.map (·.f9):=Qz7 sh zSh (·.f9)
  rw [e1,c2,e2,b2,e3,a2]
 have hin:=Q6v hg (Qf2 0 ld.length) λ_ h=>h
 have hpw:=Jd8 hg (Qf2 0 ld.length) (Qsz _ _) λ_ h=>h
 have hgr:=λk=>Jhx hg k (Qf2 0 ld.length) (Qsz _ _) λ_ h=>h
 have hoc:=Q9m hg (Qf2 0 ld.length) λ_ h=>h
 generalize pcO l sh ly ld (Qf2 0 ld.length)=P at *
 have hperm:(P.map (·.1)).Perm (Qf2 0 l.length):=by rw [hf]; exact Qt4 _ _
 have hbd:∀ q∈P,0≤q.1∧q.1<l.length:=λq hq=>by
  have:=Qc3.1 (hperm.mem_iff.1 (List.mem_map.2 ⟨q,hq,rfl⟩))
  omega
 have hget:∀ q∈P,ix (spM p l) q.1=some q.2:=by
  rw [e]
  exact Q88 P _ (hperm.nodup_iff.2 (Qsz _ _)) (by simpa using hbd)
 generalize hSS:spM p l=S at *
 have hz:l.zip S=(Qf2 0 l.length).map λi=>(bxA l i,(ix S i).getD zSp):=by
  have e1:(Qf2 0 l.length).map (λi=>bxA l i)=l:=by
   have:=Qz7 l zBx (λx=>x)
   rwa [List.map_id'] at this
  have e2:(Qf2 0 l.length).map (λi=>(ix S i).getD zSp)=S:=by
   have:=Qz7 S zSp (λx=>x)
   rwa [List.map_id',hlen] at this
  have:((Qf2 0 l.length).map (λi=>bxA l i)).zip ((Qf2 0 l.length).map λi=>(ix S i).getD zSp)=(Qf2 0 l.length).map λi=>(bxA l i,(ix S i).getD zSp):=by
   rw [List.zip_map']
  rw [← this,e1,e2]
 have hP:(l.zip S).Perm (P.map λq=>(bxA l q.1,q.2)):=by
  have e1:P.map (λq=>(bxA l q.1,q.2))=(P.map (·.1)).map λi=>(bxA l i,(ix S i).getD zSp):=by
   rw [List.map_map]
   exact List.map_congr_left λq hq=>by simp [hget q hq]
  rw [hz,e1]
  exact (hperm.map _).symm
 refine ⟨hlen,λq hq=>?_,?_,λk k0 k1=>?_,λk=>?_,by omega,by omega⟩
 · obtain ⟨a,ha,rfl⟩:=List.mem_map.1 (hP.mem_iff.1 hq)
   obtain ⟨h1,h2⟩:=hin a ha
   have:=Qc3.1 h1
   exact ⟨by show 0≤a.2.fJ∧a.2.fJ<_; omega,h2⟩
 · rw [hz]
   refine List.pairwise_map.2 ((Qsz 0 l.length).imp_of_mem fun {i j} hi hj hij=>?_)
   obtain ⟨a,ha,rfl⟩:=List.mem_map.1 (hperm.mem_iff.2 hi)
   obtain ⟨c,hc,rfl⟩:=List.mem_map.1 (hperm.mem_iff.2 hj)
   rw [hget a ha,hget c hc]
   have key:∀ {x y:Int×Spot},x∈P→y∈P→x.1≠y.1→Jdj l x y:=by
    have hs:P.Pairwise λx y=>x.1≠y.1→Jdj l x y:=hpw.imp (S:=λx y=>x.1≠y.1→Jdj l x y) λh _=>h
    intro x y hx hy
    exact Jd1 (R:=λx y=>x.1≠y.1→Jdj l x y) (λx y h hne=>(h λe=>hne e.symm).symm) (λx hne=>absurd rfl hne) P hs x hx y hy
   exact key ha hc hij
 · obtain ⟨q,hq,e⟩:=hoc k (Qc3.2 (by omega))
   exact ⟨(bxA l q.1,q.2),hP.mem_iff.2 (List.mem_map.2 ⟨q,hq,rfl⟩),e⟩
 · have h1:=((hP.filter λq=>q.2.fJ==k).map (·.1.fQ))
   rw [Q7y h1,List.filter_map,List.map_map]
   exact hgr k
theorem Q8l {N:Int} (hN:N≤1000000):∀ (l:List Spot) (n:Int),0≤n→n≤N→(∀ s∈l,0≤s.fJ∧s.fJ<N)→n≤l.foldl Q3q n∧l.foldl Q3q n≤N∧∀ s∈l,s.fJ+1≤l.foldl Q3q n
 | [],n,_,h,_=>⟨Int.le_refl _,h,by simp⟩
 | s::l,n,h0,h1,h=>by
  have hs:=h s (by simp)
  have e:Q3q n s=if s.fJ+1>n then s.fJ+1 else n:=by
   unfold Q3q
   rw [show inb s.fJ 0 999999=true from Qco.2 (by omega),cond_true]
  have hb:n≤Q3q n s∧Q3q n s≤N∧s.fJ+1≤Q3q n s:=by rw [e]; split <;> omega
  rw [List.foldl_cons]
  obtain ⟨a,b,c⟩:=Q8l hN l (Q3q n s) (by omega) hb.2.1 λt ht=>h t (by simp [ht])
  refine ⟨by omega,b,λt ht=>?_⟩
  rcases List.mem_cons.1 ht with rfl | ht
  · omega
  · exact c t ht
theorem Jdx {S:List Spot} {N:Int} (hN:0≤N∧N≤1000000) (h:∀ s∈S,0≤s.fJ∧s.fJ<N) (ho:∀ k,0≤k→k<N→∃ s∈S,s.fJ=k):Qxk S=N:=by
 obtain ⟨a,b,c⟩:=Q8l hN.2 S 0 (Int.le_refl _) hN.1 h
 unfold Qxk
 by_cases h0:N=0
 · omega
 · obtain ⟨s,hs,e⟩:=ho (N - 1) (by omega) (by omega)
   have:=c s hs
   omega
theorem Jbo {α β:Type} {a:List α} {b:List β} (h:b.length=a.length) {y:β} (hy:y∈b):∃ q∈a.zip b,q.2=y:=by
 obtain ⟨i,hi⟩:=List.mem_iff_getElem?.1 hy
 have hlt:=(List.getElem?_eq_some_iff.1 hi).1
 exact ⟨(a[i]'(by omega),y),List.mem_iff_getElem?.2 ⟨i,List.getElem?_zip_eq_some.2 ⟨List.getElem?_eq_getElem _,hi⟩⟩,rfl⟩
theorem Jft {p:Pallet} {l:List Box} {S:List Spot} {N:Int} (g:SpI p l S N) (hl:l.length≤1000):Qxk S=N:=by
 have h:=g.nn
 refine Jdx ⟨h.1,by omega⟩ (λs hs=>?_) λk k0 k1=>?_
 · obtain ⟨q,hq,rfl⟩:=Jbo g.len hs
   exact (g.ins q hq).1
 · obtain ⟨q,hq,e⟩:=g.occ k k0 k1
   exact ⟨q.2,(List.of_mem_zip hq).2,e⟩
end Go.Proofs.YtpcmapfabndggaaGreat
/- Squeeze and Spare of spec and of impl. -/
namespace Go.Proofs.YtpcmapfabndggaaGreat
open Go
open Enc (rd ow)
open Arg (argv)
open Ret (retv)
open Wf (wf)
def inU (r:Request) (cs:List (List Int)):Prop:=∀ c∈cs,∀ y∈c,0≤y∧y<(Qje r).length
theorem Q5q {c:List Int} {cs:List (List Int)} (h:c∈cs):c.length≤cs.flatten.length:=by
 induction cs with
 | nil=>simp at h
 | cons x xs ih =>
  rw [List.flatten_cons,List.length_append]
  rcases List.mem_cons.1 h with e | h
  · subst e; omega
  · have:=ih h; omega
theorem Jac {out:List (List Int)} {j u:Int} {c:List Int} (h:ix out j=some c):(Qe5 out j (c++[u])).flatten.Perm (out.flatten++[u]):=by
 obtain ⟨h0,h1,h2⟩:=Qaj h
 exact Qwg h2
structure Ez (r:Request) (k:Int) (c0:List Int) (T:List Int) (us:List Int) (out:List (List Int)):Prop where
 src:ix out k=some c0
 all:(out.flatten++us).Perm (T++c0)
 inn:inU r out
 inu:∀ u∈us,0≤u∧u<(Qje r).length
 len:out.length≤12
 tot:(T++c0).length≤24
theorem Ez.step {r:Request} {k:Int} {c0 T us:List Int} {out:List (List Int)} {u j:Int} {c:List Int} (h:Ez r k c0 T (u::us) out) (hj:ix out j=some c) (hjk:j≠k):Ez r k c0 T us (Qe5 out j (c++[u])):=by
 obtain ⟨j0,j1,j2⟩:=Qaj hj
 obtain ⟨k0,k1,k2⟩:=Qaj h.src
 refine ⟨?_,?_,?_,λv hv=>h.inu v (by simp [hv]),by unfold Qe5; simp; exact h.len,h.tot⟩
 · unfold ix Qe5
   rw [if_pos k0,List.getElem?_set,if_neg (by omega)]
   exact k2
 · refine ((Jac (u:=u) hj).append_right us).trans ?_
   simpa using h.all
 · intro d hd y hy
   unfold Qe5 at hd
   rcases List.mem_or_eq_of_mem_set hd with hd | rfl
   · exact h.inn d hd y hy
   · rcases List.mem_append.1 hy with hy | hy
     · exact h.inn c (Qfe hj) y hy
     · rw [List.mem_singleton.1 hy]; exact h.inu u (by simp)
structure Rz (r:Request) (cs:List (List Int)):Prop where
 len:cs.length≤12
 tot:cs.flatten.length≤12
 inn:inU r cs
theorem Rz.ez {r:Request} {cs:List (List Int)} (h:Rz r cs) {k:Int} {c:List Int} (hk:ix cs k=some c):Ez r k c cs.flatten c cs :=
 ⟨hk,List.Perm.refl _,h.inn,h.inn c (Qfe hk),h.len,by have:=Q5q (Qfe hk); have:=h.tot; rw [List.length_append]; omega⟩
end Go.Proofs.YtpcmapfabndggaaGreat
/- Lower bounds: no packing has fewer cartons. -/
namespace Go.Proofs.YtpcmapfabndggaaGreat
open Go
open Enc (rd ow)
open Arg (argv)
open Ret (retv)
open Wf (wf)
end Go.Proofs.YtpcmapfabndggaaGreat
/- Ours of spec and of impl. -/
namespace Go.Proofs.YtpcmapfabndggaaGreat
open Go
open Enc (rd ow)
open Arg (argv)
open Ret (retv)
open Wf (wf)
end Go.Proofs.YtpcmapfabndggaaGreat
/- What is held: lists of numbers. -/
namespace Go.Proofs.YtpcmapfabndggaaGreat
open Go
open Enc (rd ow)
open Arg (argv)
open Ret (retv)
open Wf (wf)
end Go.Proofs.YtpcmapfabndggaaGreat
/- Lists of lists of numbers in the laws: what is marked and held. -/
namespace Go.Proofs.YtpcmapfabndggaaGreat
open Go
open Enc (rd ow)
open Arg (argv)
open Ret (retv)
open Wf (wf)
end Go.Proofs.YtpcmapfabndggaaGreat
/- The plain law of FnExactOneEach. -/
namespace Go.Proofs.YtpcmapfabndggaaGreat
open Go
open Enc (rd ow)
open Arg (argv)
open Ret (retv)
open Wf (wf)
end Go.Proofs.YtpcmapfabndggaaGreat
/- What is squeezed is a packing still; so are others' picks, one each, and ours. -/
namespace Go.Proofs.YtpcmapfabndggaaGreat
open Go
open Enc (rd ow)
open Arg (argv)
open Ret (retv)
open Wf (wf)
def Gc (r:Request) (c:List Int):Prop:=c≠[]∧Q0p r c (Qw0 r)=true∧Q1r r c=true
theorem Jb3 {r:Request} {u:Int} (h:0≤u∧u<(Qje r).length):Qtg r.fP (Jcw r u) (Jcw r u)=true:=by
 have hc:=Q4d h
 have hz:=Qei hc
 have hm:=Qy4 h
 have ht:=hz.2.2.1
 have hn:=hz.2.1
 have hcl:(Qua r u).fM<r.fG:=by
  unfold Q8h at hn
  simp only [Bool.and_eq_true] at hn
  have key:∀ (l pre:List Item),Q8c r.fG pre l=true→∀ x∈l,x.fM<r.fG:=by
   intro l
   induction l with
   | nil=>intro _ _ x hx; simp at hx
   | cons y l ih =>
    intro pre h x hx
    simp only [Q8c,Bool.and_eq_true,Bool.not_eq_true',decide_eq_false_iff_not] at h
    rcases List.mem_cons.1 hx with rfl | hx
    · omega
    · exact ih _ h.2 x hx
  exact key r.fU [] hn.1.1.2 _ hm
 have hi:=(Qrt hz.1).1 _ hm
 simp only [Qxr,Bool.and_eq_true,Qco] at hi
 unfold Jbq at ht
 simp only [Bool.and_eq_true] at ht
 have:=List.all_eq_true.1 ht.2 (Qua r u).fM (Qc3.2 ⟨by omega,by omega⟩)
 simp only [Bool.and_eq_true] at this
 exact this.1
theorem Jep (r:Request):∀ g∈Qhr r,∀ x∈g,∀ y∈g,x≠y→Qxf r.fP x y=true:=by
 have key:∀ (l:List Int) (out:List (List Int)),(∀ g∈out,∀ x∈g,∀ y∈g,x≠y→Qxf r.fP x y=true)→∀ g∈l.foldl (Q44 r.fP) out,∀ x∈g,∀ y∈g,x≠y→Qxf r.fP x y=true:=by
  intro l
  induction l with
  | nil=>intro out h; exact h
  | cons c l ih =>
   intro out h
   rw [List.foldl_cons]
   refine ih _ ?_
   unfold Q44
   cases hf:Qwj (λg=>g.all (Qxf r.fP c)) out with
   | some k =>
    obtain ⟨g0,hg0,hall⟩:=Qtz hf
    have hall:=List.all_eq_true.1 hall
    have hm:=List.mem_of_getElem? hg0
    simp only [hg0,Option.getD_some]
    intro g hg x hx y hy hxy
    rcases List.mem_or_eq_of_mem_set hg with hg | rfl
    · exact h g hg x hx y hy hxy
    · rcases List.mem_append.1 hx with hx | hx <;> rcases List.mem_append.1 hy with hy | hy
      · exact h g0 hm x hx y hy hxy
      · rw [List.mem_singleton.1 hy,Jay]; exact hall x hx
      · rw [List.mem_singleton.1 hx]; exact hall y hy
      · rw [List.mem_singleton.1 hx,List.mem_singleton.1 hy] at hxy; exact absurd rfl hxy
   | none =>
    intro g hg x hx y hy hxy
    rcases List.mem_append.1 hg with hg | hg
    · exact h g hg x hx y hy hxy
    · rw [List.mem_singleton.1 hg] at hx hy
      rw [List.mem_singleton.1 hx,List.mem_singleton.1 hy] at hxy; exact absurd rfl hxy
 exact key (Qz6 r) [] (by simp)
theorem Qu6 {r:Request} {k u:Int} (h:u∈Qve r k):(0≤u∧u<(Qje r).length)∧∃ g,ix (Qhr r) k=some g∧Jcw r u∈g:=by
 unfold Qve at h
 cases hg:ix (Qhr r) k with
 | none=>rw [hg] at h; simp at h
 | some g =>
  rw [hg] at h
  obtain ⟨j,i,x,h1,h2,h3,h4⟩:=(Q5b r g (Qje r) 0 u).1 h
  have hj:=(List.getElem?_eq_some_iff.1 h1).1
  have hu:0≤u∧u<(Qje r).length:=by omega
  refine ⟨hu,g,rfl,?_⟩
  have hm:Qzv r u=some x:=by
   unfold Qzv
   rw [h2,Int.zero_add,Qix,h1,Qab,h3]
  unfold Jcw Qua
  rw [hm]
  simpa using h4
theorem Q52 (r:Request) (k:Int):Quk r (Qve r k)=Qve r k:=by
 unfold Quk
 refine List.filter_eq_self.2 λu hu=>?_
 have:=(Qu6 hu).1
 rw [Qco]; omega
theorem Jbz {r:Request} {k:Int} {l:List Int} (h:∀ u∈l,u∈Qve r k):Q1r r l=true:=by
 unfold Q1r
 refine List.all_eq_true.2 λx hx=>List.all_eq_true.2 λy hy=>?_
 obtain ⟨hx1,g,hg,hxg⟩:=Qu6 (h x hx)
 obtain ⟨hy1,g',hg',hyg⟩:=Qu6 (h y hy)
 rw [hg] at hg'
 cases hg'
 by_cases e:Jcw r x=Jcw r y
 · rw [← e]; exact Jb3 hx1
 · have:=Jep r g (Qfe hg) _ hxg _ hyg e
   unfold Qxf at this
   rw [Bool.and_eq_true] at this
   exact this.1
theorem Jcd {r:Request} {a b:List Int} (h:a.Perm b) (hb:Q1r r b=true):Q1r r a=true:=by
 unfold Q1r at *
 exact List.all_eq_true.2 λx hx=>List.all_eq_true.2 λy hy=>List.all_eq_true.1 (List.all_eq_true.1 hb x (h.mem_iff.1 hx)) y (h.mem_iff.1 hy)
theorem Jgz {r:Request} {c:Carton} (h:c∈Quv r):Gc r c.f0∧(0≤c.fF∧c.fF<(Qhr r).length)∧∀ u∈c.f0,u∈Qve r c.fF:=by
 obtain ⟨k,hk,l,hl,rfl⟩:=Qwo.1 h
 have hk':=Qc3.1 hk
 obtain ⟨q1,q2,q3⟩:=Jgv l hl
 rw [Q52] at q2
 have hp:=Qs9 l
 refine ⟨⟨λe=>q1 ?_,?_,?_⟩,by simp only [Q5p]; omega,λu hu=>q2 u (hp.mem_iff.1 hu)⟩
 · have:(Q73 l).length=0:=by rw [show Q73 l=[] from e]; rfl
   rw [Q7n] at this
   exact List.eq_nil_of_length_eq_zero this
 · show Q0p r (Q73 l) (Qw0 r)=true
   rw [Q6d hp]; exact q3
 · exact Jcd hp (Jbz q2)
theorem Jdl (r:Request) (g:List Int):∀ (us:List Int) (u:Int),(ofG r g u us).Pairwise (·<·)∧∀ x∈ofG r g u us,u≤x
 | [],_=>by simp [ofG]
 | i::us,u=>by
  obtain ⟨h1,h2⟩:=Jdl r g us (u+1)
  have no:(ofG r g (u+1) us).Pairwise (·<·)∧∀ x∈ofG r g (u+1) us,u≤x:=⟨h1,λx hx=>by have:=h2 x hx; omega⟩
  have yes:(u::ofG r g (u+1) us).Pairwise (·<·)∧∀ x∈u::ofG r g (u+1) us,u≤x:=by
   refine ⟨List.pairwise_cons.2 ⟨λx hx=>by have:=h2 x hx; omega,h1⟩,λx hx=>?_⟩
   rcases List.mem_cons.1 hx with rfl | hx
   · omega
   · have:=h2 x hx; omega
  rw [ofG]
  cases ix r.fU i with
  | none=>exact no
  | some x =>
   simp only
   cases g.contains x.fM
   · exact no
   · exact yes
theorem Q33 (r:Request) (k:Int):(Qve r k).Nodup:=by
 unfold Qve
 split
 · exact ((Jdl r _ (Qje r) 0).1).imp λh=>by omega
 · simp
theorem Q4w (r:Request):∀ (ks:List Int),((Qyi r ks).map (·.f0)).flatten.Perm (ks.map (Qve r)).flatten
 | []=>by simp [Qyi]
 | k::ks=>by
  have ih:=Q4w r ks
  have h1:((Q1d r k).map (·.f0)).flatten.Perm (Qve r k):=by
   have h2:=Q9n r (Qve r k)
   rw [Q52] at h2
   refine List.Perm.trans ?_ h2
   unfold Q1d
   generalize pwM r (Qve r k)=L
   induction L with
   | nil=>simp
   | cons l L ihL=>simp only [List.map_cons,List.flatten_cons]; exact (Qs9 l).append ihL
  rw [Qyi,List.map_append,List.flatten_append,List.map_cons,List.flatten_cons]
  exact h1.append ih
theorem Jes (r:Request):((Qf2 0 (Qhr r).length).map (Qve r)).flatten.Perm (Qf2 0 (Qje r).length):=by
 refine (List.perm_ext_iff_of_nodup ?_ (Qsz _ _)).2 λu=>?_
 · refine List.pairwise_flatten.2 ⟨λl hl=>?_,?_⟩
   · obtain ⟨k,_,rfl⟩:=List.mem_map.1 hl
     exact Q33 r k
   · refine List.pairwise_map.2 ((Qt5 0 (Qhr r).length).imp_of_mem fun {a b} ha hb hab=>?_)
     intro x hx y hy e
     subst e
     obtain ⟨_,g,hg,hxg⟩:=Qu6 hx
     obtain ⟨_,g',hg',hyg⟩:=Qu6 hy
     have:=Qzr (Qaj hg).2.2 (Qaj hg').2.2 hxg hyg
     have h1:=(Qaj hg).1
     have h2:=(Qaj hg').1
     omega
 · constructor
   · intro h
     obtain ⟨l,hl,hu⟩:=List.mem_flatten.1 h
     obtain ⟨k,_,rfl⟩:=List.mem_map.1 hl
     have:=(Qu6 hu).1
     exact Qc3.2 (by omega)
   · intro h
     have hu:=Qc3.1 h
     have hi:=Quo (r:=r) (u:=u) (by omega)
     obtain ⟨i,g,hg,hcg,_⟩:=Jbc (Ja1 hi)
     refine List.mem_flatten.2 ⟨Qve r i,List.mem_map.2 ⟨i,Qc3.2 ⟨by omega,by have:=(List.getElem?_eq_some_iff.1 hg).1; omega⟩,rfl⟩,?_⟩
     have hg':ix (Qhr r) (i:Int)=some g:=by rw [Qix,hg]
     have:=Jfs hg' u
     unfold inG at this
     rw [hi] at this
     have e:g.contains (Qua r u).fM=true:=by simpa using hcg
     simp only [e] at this
     simpa using this
end Go.Proofs.YtpcmapfabndggaaGreat
/- Feasible, by spec and by impl. -/
namespace Go.Proofs.YtpcmapfabndggaaGreat
open Go
open Enc (rd ow)
open Arg (argv)
open Ret (retv)
open Wf (wf)
def Q0x (r:Request) (x:Plan):Bool:=Jdn r x==0
theorem Q64 {fu:Nat} {r:Request} (h:Sm fu r) {x:Plan} (hx:Sp x):Qhj fu r x=some (Q0x r x):=by
 unfold Qhj Q0x
 rw [Jai h hx]; rfl
end Go.Proofs.YtpcmapfabndggaaGreat
/- Copies of plans; plans that are turned: by spec and by impl. -/
namespace Go.Proofs.YtpcmapfabndggaaGreat
open Go
open Enc (rd ow)
open Arg (argv)
open Ret (retv)
open Wf (wf)
theorem Jbw {r:Request} {x:Plan} (h:Q0x r x=true):x.fT.length=x.fV.length:=by
 unfold Q0x Jdn at h
 cases hp:Q7z x
 · rw [hp] at h
   cases hc:Qhd r==0 <;> rw [hc] at h <;> simp at h
 · exact Q5s hp
end Go.Proofs.YtpcmapfabndggaaGreat
/- A plan whose places are turned, each by itself, is right still. -/
namespace Go.Proofs.YtpcmapfabndggaaGreat
open Go
open Enc (rd ow)
open Arg (argv)
open Ret (retv)
open Wf (wf)
structure FeaI (r:Request) (x:Plan):Prop where
 c:Qhd r=0
 pok:Q7z x=true
 emp:Jfy x=false
 once:Q5i r x=true
 ch:x.fV.all (chB r)=true
 cg:x.fV.all (cgB r)=true
 cc:x.fV.all (ccB r)=true
 ins:(cs x).all (Q8e r)=true
 apr:Q8d r [] (cs x)=true
 pl:(Qf2 0 (Qxk x.fT).toNat).all (plB r x)=true
theorem Qv1 {r:Request} {x:Plan}:Q0x r x=true↔FeaI r x:=by
 unfold Q0x Jdn
 constructor
 · intro h
   have e:∀ (b:Bool) (n:Int) (m:Int),n≠0→((bif b then n else m)==0)=true→b=false∧(m==0)=true:=by
    intro b n m hn hb
    cases b
    · exact ⟨rfl,hb⟩
    · simp at hb; exact absurd hb hn
   obtain ⟨h1,h⟩:=e _ _ _ (by decide) h
   obtain ⟨h2,h⟩:=e _ _ _ (by decide) h
   obtain ⟨h3,h⟩:=e _ _ _ (by decide) h
   obtain ⟨h4,h⟩:=e _ _ _ (by decide) h
   obtain ⟨h5,h⟩:=e _ _ _ (by decide) h
   obtain ⟨h6,h⟩:=e _ _ _ (by decide) h
   obtain ⟨h7,h⟩:=e _ _ _ (by decide) h
   obtain ⟨h8,h⟩:=e _ _ _ (by decide) h
   obtain ⟨h9,h⟩:=e _ _ _ (by decide) h
   obtain ⟨h10,h⟩:=e _ _ _ (by decide) h
   exact ⟨by simpa using h1,by simpa using h2,h3,by simpa using h4,by simpa using h5,by simpa using h6,by simpa using h7,by simpa using h8,by simpa using h9,by simpa using h10⟩
 · rintro ⟨h1,h2,h3,h4,h5,h6,h7,h8,h9,h10⟩
   rw [h1,h2,h3,h4,h5,h6,h7,h8,h9,h10]; rfl
theorem Jd3 {r:Request}:∀ (l pre:List (Carton×Spot)),pre.Pairwise (λa c=>ovP r c a=false)→Q8d r pre l=true→(pre++l).Pairwise λa c=>ovP r c a=false
 | [],pre,h,_=>by simpa using h
 | p::l,pre,h,hk=>by
  unfold Q8d at hk
  rw [Bool.and_eq_true] at hk
  have:=Jd3 l (pre++[p]) (List.pairwise_append.2 ⟨h,List.pairwise_singleton _ _,λa ha c hc=>by
   rw [List.mem_singleton.1 hc]
   have:=List.all_eq_true.1 hk.1 a ha
   simpa using this⟩) hk.2
  simpa using this
theorem Jbh {r:Request}:∀ (l pre:List (Carton×Spot)),(pre++l).Pairwise (λa c=>ovP r c a=false)→Q8d r pre l=true
 | [],_,_=>rfl
 | p::l,pre,h=>by
  unfold Q8d
  rw [Bool.and_eq_true]
  refine ⟨List.all_eq_true.2 λq hq=>?_,Jbh l (pre++[p]) (by simpa using h)⟩
  rw [(List.pairwise_append.1 h).2.2 q hq p (by simp)]; rfl
theorem Jfb {r:Request} {x:Plan} (hf:Q0x r x=true):r.fJ.fW≤2000∧r.fJ.fD≤2000∧r.fJ.fH≤2000:=by
 have hp:Qur r.fJ=true:=by
  have:=(Qei (Qv1.1 hf).c).1
  unfold Q28 at this
  simp only [Bool.and_eq_true] at this
  simp_all
 simp only [Qur,Bool.and_eq_true,Qco] at hp
 exact ⟨by omega,by omega,by omega⟩
end Go.Proofs.YtpcmapfabndggaaGreat
