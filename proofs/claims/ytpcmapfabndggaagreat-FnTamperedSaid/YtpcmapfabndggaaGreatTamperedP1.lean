import Derived.Test.YtpcmapfabndggaaGreatTamperedD
import Derived.Test.YtpcmapfabndggaaGreatTamperedBP5
set_option linter.unusedSimpArgs false
set_option linter.unusedVariables false
/- The plain law of FnTampered. -/
namespace Go.Proofs.YtpcmapfabndggaaGreat
open Go
open Enc (rd ow)
open Arg (argv)
open Ret (retv)
open Wf (wf)
theorem Jh8 {fu:Nat} {b:List U8} (hw:wf b) (hb:b.length≤1048576):∃ a,Qtq fu b 2=some a∧0≤a:=by
 unfold Qtq
 by_cases h:(2:Int)<(b.length:Int)
 · rw [Qbj (by simpa using h)]
   obtain ⟨x,hx⟩:=Q0e (l:=b) (i:=2) (by omega) h
   have h2:0≤x.n∧x.n≤255:=hw.2 x (Qfe hx)
   rw [hx,Qab,Qa4 (by omega) (by omega)]
   exact ⟨_,rfl,h2.1⟩
 · rw [Qay (by simpa using h)]
   exact ⟨_,rfl,Int.tmod_nonneg _ (by rw [show w64 (2*7)=14 from rfl,Qa4 (by omega) (by omega)]; omega)⟩
theorem Jb8 {α:Type} {l:List α} {i:Int} (h:0≤i∧i<l.length):∃ x,ix l i=some x∧l[i.toNat]? = some x:=by
 obtain ⟨x,hx⟩:=Q0e (l:=l) h.1 h.2
 exact ⟨x,hx,(Qaj hx).2.2⟩
theorem Jdt {a n:Int} (ha:0≤a) (hn:0<n):0≤Int.tmod a n∧Int.tmod a n<n:=⟨Int.tmod_nonneg _ ha,Int.tmod_lt_of_pos _ hn⟩
theorem Qzg (b:List U8) (hw:wf b):∃ fu,Qo0 fu b=some true:=by
 refine ⟨2097153,?_⟩
 unfold Qo0
 rw [Jju,Qab]
 by_cases hb:(b.length:Int)>1048576
 · rw [Qbj (by simpa using hb)]
 rw [Qay (by simpa using hb)]
 obtain ⟨r,hy,hr⟩:=Jb7 (fu:=2097153) (b:=b) (by omega) (by omega)
 have hs:=hr.sm (fu:=2097153) (by omega)
 unfold Qov
 rw [hy,Qab,Qab,Jd9 hs,Qab,Jg0 hs,Qab]
 simp only [beq_self_eq_true,Bool.not_true,cond_false]
 obtain ⟨l1,l2,l3⟩:=Q48 r
 unfold Qhw
 by_cases hc:Qhd r=0
 rotate_left
 · have e:Q0a r=(⟨[],[]⟩,false):=by
     unfold Q0a
     rw [show (Qhd r==0)=false by simpa using hc]; rfl
   rw [e]; rfl
 have e1:(Q0a r).2=true:=by
  unfold Q0a
  rw [show (Qhd r==0)=true by simpa using hc]; rfl
 rw [e1,Bool.not_true,cond_false]
 have hf:Q0x r (Q0a r).1=true:=Qv1.2 (Jfg hc)
 have hsp:=Jg8 r
 have hi:=Jd9 hs
 generalize hX:Q0a r=X at *
 obtain ⟨x,ok⟩:=X
 simp only at l1 l2 l3 e1 hf hsp ⊢
 by_cases hn:x.fV.length=0
 · rw [Qbj (by simpa using hn)]
   simpa using hn
 rw [Qay (by simpa using hn)]
 unfold Qj0
 obtain ⟨a,ha,ha0⟩:=Jh8 (fu:=2097153) hw (by omega)
 rw [ha,Qab,Q3c (by show (x.fV.length:Int)≠0; omega),Qab,hi,Qab]
 have hm:=Jdt (a:=a) (n:=(x.fV.length:Int)) ha0 (by omega)
 generalize hM:Int.tmod a (x.fV.length:Int)=m at hm
 obtain ⟨c,c1,c2⟩:=Jb8 (l:=x.fV) hm
 obtain ⟨s,s1,s2⟩:=Jb8 (l:=x.fT) (i:=m) (by omega)
 have hce:=Qx4 hf (Qfe c1)
 have hcu:=l3 c (Qfe c1)
 simp only [hM,c1,Qab,hi]
 rw [Qtj (by omega),Qab,ap1 (by simp; omega),Qab]
 unfold Qj3
 have hpp:=Q9j (fu:=2097153) (l:=x.fT) (by omega) (by omega)
 simp only [hpp,Qab]
 rw [ ap1 (by simp; omega),Qab]
 unfold Qjp
 simp only [hM,hi,Qab,s1]
 have hm2:=Jdt (a:=w64 (m+1)) (n:=(x.fT.length:Int)) (by rw [Qa4 (by omega) (by omega)]; omega) (by omega)
 obtain ⟨t,t1,t2⟩:=Jb8 (l:=x.fT) hm2
 rw [Q3c (by omega),Qab,t1,Qab]
 have hE:∀ X:Plan,X.fV=x.fV→X.fT.length≤1000→Sp X:=λX h1 h2=>by
  refine ⟨by rw [h1]; exact hsp.cars,by rw [h1]; exact hsp.units,by rw [h1]; exact hsp.all,by omega⟩
 have hea:Q0x r ⟨Qe5 x.fV m ⟨c.qJ,c.fF,(c.f0.drop (1:Int).toNat).take ((c.f0.length:Int).toNat - (1:Int).toNat)⟩,x.fT⟩=false:=by
  unfold Qe5
  exact Jcb hf c2 _ (by simp; omega)
 have heb:Q0x r ⟨x.fV++[c],x.fT++[⟨Qxk x.fT,0,0,0⟩]⟩=false:=Jcr hf (Qfe c1) _
 have hec:Jdn r ⟨x.fV,Qe5 x.fT m { s with fX:=r.fJ.fW }⟩=7:=by
  unfold Qe5
  exact Jfm hf c2 s2
 have hL:∀ (l:List Carton),(∀ d∈l,d.f0.length≤12)→Q2b l≤12*l.length:=by
  intro l
  induction l with
  | nil=>intro _; simp [Q2b]
  | cons c l ih =>
   intro h
   have h1:=ih λd hd=>h d (by simp [hd])
   have h2:=h c (by simp)
   simp only [Q2b,List.length_cons]
   omega
 have hgen:∀ X:Plan,X.fV.length≤100→(∀ d∈X.fV,d.f0.length≤12)→X.fT.length≤100→Sp X:=λX h1 h2 h3=>by
  have:=hL _ h2
  exact ⟨by omega,λc hc=>by have:=h2 c hc; omega,by omega,by omega⟩
 have hsa:Sp ⟨Qe5 x.fV m ⟨c.qJ,c.fF,(c.f0.drop (1:Int).toNat).take ((c.f0.length:Int).toNat - (1:Int).toNat)⟩,x.fT⟩:=hgen _ (by simp [Qe5]; omega) (λd hd=>by
  rcases List.mem_or_eq_of_mem_set hd with hd | rfl
  · exact l3 d hd
  · simp; omega) (by show x.fT.length≤100; omega)
 have hsb:Sp ⟨x.fV++[c],x.fT++[⟨Qxk x.fT,0,0,0⟩]⟩:=hgen _ (by simp; omega) (λd hd=>by
  rcases List.mem_append.1 hd with hd | hd
  · exact l3 d hd
  · rw [List.mem_singleton.1 hd]; exact hcu) (by simp; omega)
 have hsc:Sp ⟨x.fV,Qe5 x.fT m { s with fX:=r.fJ.fW }⟩:=hgen _ (by show x.fV.length≤100; omega) l3 (by simp [Qe5]; omega)
 have hsd:Sp ⟨x.fV,Qe5 x.fT m t⟩:=hgen _ (by show x.fV.length≤100; omega) l3 (by simp [Qe5]; omega)
 have hJ3:Qgj 2097153 r (x,ok) a (x,ok) c ((c.f0.drop (1:Int).toNat).take ((c.f0.length:Int).toNat - (1:Int).toNat)) (x.fV++[c]) (x.fT++[⟨Qxk x.fT,0,0,0⟩]) (x,ok) s false=some true:=by
  unfold Qgj Qj4 Qex
  simp only [hM,cond_false,Q64 hs hsa,Q64 hs hsb,Jai hs hsc,Q64 hs hsp,hea,heb,hec,hf,Qab,Bool.not_false,cond_true,beq_self_eq_true]
 by_cases hlen:((Qe5 x.fT m t).length:Int)>1
 · rw [Qbj (by simpa using hlen),Q64 hs hsd,Qab]
   simp only [Qe5,List.length_set] at hlen
   have hed:Q0x r ⟨x.fV,Qe5 x.fT m t⟩=false:=by
    unfold Qe5
    obtain ⟨d,d1,d2⟩:=Jb8 (l:=x.fV) (i:=Int.tmod (w64 (m+1)) (x.fT.length:Int)) (by omega)
    refine Jh6 hf (j:=(Int.tmod (w64 (m+1)) (x.fT.length:Int)).toNat) ?_ c2 s2 d2 t2
    rw [Qa4 (by omega) (by omega)] at hm2 ⊢
    intro e
    have e2:Int.tmod (m+1) (x.fT.length:Int)=m:=by omega
    by_cases h:m+1<(x.fT.length:Int)
    · rw [Int.tmod_eq_of_lt (by omega) h] at e2
      omega
    · have:m+1=(x.fT.length:Int):=by omega
      rw [this,Int.tmod_self] at e2
      omega
   rw [hed]
   exact hJ3
 · rw [Qay (by simpa using hlen)]
   exact hJ3
end Go.Proofs.YtpcmapfabndggaaGreat
