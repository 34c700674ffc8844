/- PlannedBP: plain lem.. -/
import Derived.Test.YtpcmapfabndggaaGreatDoorPlannedBP1
set_option linter.unusedSimpArgs false
set_option linter.unusedVariables false
namespace Go.Proofs.YtpcmapfabndggaaGreatDoor
open Go
open Enc (rd ow)
open Arg (argv)
open Ret (retv)
open Wf (wf)
theorem Q41 (r:Request) (u:Int):0≤(Qu4 r u).fQ∧(Qu4 r u).fQ≤100000:=by
 unfold Qu4
 cases hm:Q0w r u with
 | none=>simp [Q8r]
 | some x=>exact Q3w (r:=r) (us:=[u]) (by simp [Qyw,List.filterMap_cons,hm])
theorem Jki {fu:Nat} {r:Request} (h:Sm fu r) (us:List Int) (hl:us.length≤1048576) (hf:us.length<fu):Qr2 fu r us=some (Qw8 r us):=by
 unfold Qr2
 rw [Jlb h,Qab]
 have key:=lpI us (λn s i=>Qfe fu r us (Qi4 r) n s i) (λl n=>some (n+Qw8 r l)) (λl n=>0≤n∧n+100000*l.length≤100000*1048576) (by omega) ?_ ?_ fu 0 ⟨by omega,by omega⟩ hf
 · simpa using key
 · intro n s i x xs hx hd hI ih
   simp only [Qfe.eq_2]
   unfold Qnz Qqu Qqn
   simp only [hd,cond_true,hx,Qab,Q9r]
   have hv:=Q41 r x
   have h2:=hI.2
   simp only [List.length_cons] at h2
   rw [Qbe (by omega) (by omega),ih _ ⟨by omega,by omega⟩]
   congr 1
   have e:Qw8 r (x::xs)=(Qu4 r x).fQ+Qw8 r xs:=by
    unfold Qw8 Qyw Qu4
    cases hm:Q0w r x with
    | none=>simp [List.filterMap_cons,hm,Q8r]
    | some y=>simp [List.filterMap_cons,hm]
   rw [e]
   omega
 · intro n s i hd _
   simp only [Qfe.eq_2]
   unfold Qnz
   simp only [hd,cond_false]
   simp [Qw8,Qyw]
theorem Jix {fu:Nat} {r:Request} (h:Sm fu r) (us:List Int) (hl:us.length≤1048576) (hf:us.length<fu):Qpl fu r us=some (Qw8 r us):=by
 unfold Qpl
 rw [Q4d h us hl hf,Qab]
 have hlen:=Qw2 r us
 have key:=lpI (Qyw r us) (λn s i=>Qhw fu (Qyw r us) n s i) (λl n=>some (n+Qsr (l.map (·.fQ)))) (λl n=>0≤n∧n+100000*l.length≤100000*1048576∧∀ x∈l,0≤x.fQ∧x.fQ≤100000) (by omega) ?_ ?_ fu 0 ⟨by omega,by omega,λx hx=>Q3w hx⟩ (by omega)
 · simpa [Qw8] using key
 · intro n s i x xs hx hd hI ih
   simp only [Qhw.eq_2]
   unfold Qn5
   simp only [hd,cond_true,hx,Qab]
   have hv:=hI.2.2 x (by simp)
   have h2:=hI.2.1
   simp only [List.length_cons] at h2
   rw [Qbe (by omega) (by omega),ih _ ⟨by omega,by omega,λy hy=>hI.2.2 y (by simp [hy])⟩]
   simp only [List.map_cons,Qfy]
   congr 1
   omega
 · intro n s i hd _
   simp only [Qhw.eq_2]
   unfold Qn5
   simp only [hd,cond_false]
   simp
theorem Jdu (r:Request) (x:Int) (xs:List Int):Qxv r (x::xs)=Jca (Qu4 r x)+Qxv r xs:=by
 unfold Qxv Qyw Qu4
 cases hm:Q0w r x with
 | none=>simp [List.filterMap_cons,hm,Jds]
 | some y=>simp [List.filterMap_cons,hm]
theorem Q7f (r:Request) (x:Int) (xs:List Int):Qw8 r (x::xs)=(Qu4 r x).fQ+Qw8 r xs:=by
 unfold Qw8 Qyw Qu4
 cases hm:Q0w r x with
 | none=>simp [List.filterMap_cons,hm,Q8r]
 | some y=>simp [List.filterMap_cons,hm]
theorem Jbi {fu:Nat} (r:Request) (us:List Int) (hl:us.length≤1048576) (hf:us.length<fu):Qq4 fu r (Qi4 r) us=some ⟨Qxv r us,Qw8 r us⟩:=by
 unfold Qq4
 have key:=lpI us (λn s i=>Qhh fu r (Qi4 r) us n s i) (λl s=>some (⟨s.fvol+Qxv r l,s.fgram+Qw8 r l⟩:L7))
  (λl s=>0≤s.fvol∧s.fvol+8000000000*l.length≤8000000000*1048576∧0≤s.fgram∧s.fgram+100000*l.length≤100000*1048576) (by omega) ?_ ?_ fu ⟨0,0⟩ ⟨by simp,by simp; omega,by simp,by simp; omega⟩ hf
 · simpa using key
 · intro n s i x xs hx hd hI ih
   simp only [Qhh.eq_2]
   unfold Qqr Qsp Qss
   simp only [hd,cond_true,hx,Qab,Q9r,Jgp]
   have hv:=Q9o (Qu4 r x).fW (Qu4 r x).fH (Qu4 r x).fD
   have hg:=Q41 r x
   obtain ⟨a1,a2,a3,a4⟩:=hI
   simp only [List.length_cons] at a2 a4
   rw [Qbe (n:=s.fvol+_) (by omega) (by omega),Qbe (n:=s.fgram+_) (by omega) (by omega),ih _ ⟨by simp; omega,by simp; omega,by simp; omega,by simp; omega⟩,Jdu,Q7f,show Q8w (Qu4 r x).fW (Qu4 r x).fH (Qu4 r x).fD=Jca (Qu4 r x) from rfl]
   simp only [Option.some.injEq,L7.mk.injEq]
   constructor <;> omega
 · intro n s i hd _
   simp only [Qhh.eq_2]
   unfold Qqr
   simp only [hd,cond_false]
   simp [Qxv,Qw8,Qyw]
def Q1g (r:Request) (us:List Int) (t:Typ):Bool:=decide (Qxv r us≤Jcs t)&&decide (Qw8 r us≤t.fQ)
theorem Q7k {fu:Nat} (r:Request) (t:Typ) (us:List Int) (u:Int) (hl:us.length<1048576) (hf:us.length+1<fu):Qo5 fu r (Qi4 r) t us u=some (Q1g r (us++[u]) t):=by
 unfold Qo5 Qqx Q1g
 rw [ap1 (by simp; omega),Qab,List.nil_append,ap1 (by simp; omega),Qab,Jbi r _ (by simp; omega) (by simp; omega),Qab,Jgp,Qab]
 show (bif decide (Qxv r (us++[u])≤Jcs t) then _ else _)=_
 cases decide (Qxv r (us++[u])≤Jcs t) <;> simp
theorem Q68 {fu:Nat} {r:Request} (h:Sm fu r) (t:Typ) (us:List Int) (hl:us.length≤1048576):Qpd fu r us t=some (Q1g r us t):=by
 have hfu:=h.fu
 unfold Qpd Q1g
 rw [Jbl h us hl (by omega),Qab,Jis,Qab,Jix h us hl (by omega)]
 show (bif decide (Qxv r us≤Jcs t) then _ else _)=_
 cases decide (Qxv r us≤Jcs t) <;> simp
theorem Jfa {r:Request}:(Qzi (Qty r r.fP)).1=Qxx r:=rfl
theorem Jbb {fu:Nat} {r:Request} (h:Sm fu r) (us:List Int) (u:Int) (hl:us.length<1048576):Qsh fu r us u=some (Qhg r==0&&Q1g r (us++[u]) (Qxx r)):=by
 have hfu:=h.fu
 unfold Qsh Qdc
 rw [Jfi h,Qab,Qul h,Qab]
 cases hc:Qhg r==0
 · rfl
 · rw [cond_true,ap1 (by simp; omega),Qab,Qab,List.nil_append,ap1 (by simp; omega),Qab,Q68 h _ _ (by simp; omega)]
   rfl
def Qvb (r:Request) (us:List Int):List Int:=us.filter λu=>inb u 0 (((Qi4 r).length:Int) - 1)
def Jjn (a b:List Int):Bool:=decide ((a.mergeSort λx y=>decide (x≤y))=b.mergeSort λx y=>decide (x≤y))
theorem Jdk {a b:List Int}:Jjn a b=true↔a.Perm b:=by
 unfold Jjn
 rw [decide_eq_true_iff]
 constructor
 · intro h
   have h1:=List.mergeSort_perm a λx y=>decide (x≤y)
   rw [h] at h1
   exact h1.symm.trans (List.mergeSort_perm b _)
 · intro h
   exact Q94 (((List.mergeSort_perm a _).trans h).trans (List.mergeSort_perm b _).symm) (Qq7 a) (Qq7 b)
theorem Q6j {fu:Nat} {r:Request} (h:Sm fu r) (us:List Int) (hl:us.length≤1048576):Qji fu r us=some (Qvb r us):=by
 have hfu:=h.fu
 unfold Qji Qdc Qvb
 rw [Jcf h,Qab,ap1 (by simp; omega),Qab,Qab,List.nil_append,Jh6 _ (λu=>!inb u 0 (((Qi4 r).length:Int) - 1)) ?_ hl (by omega),Qab]
 · simp
 · intro u _
   unfold Qqt
   rw [Q3a,Q5d,Qab]
theorem Jb5 {fu:Nat} {r:Request} (h:Sm fu r) (us:List Int) (hl:us.length≤1048576):Qnd fu (Qi4 r) us=some (Qvb r us):=by
 have hfu:=h.fu
 unfold Qnd Qvb
 have:=lpI us (λn out i=>Qfs fu (Qi4 r) us n out i) (λxs out=>some (out++xs.filter λu=>inb u 0 (((Qi4 r).length:Int) - 1))) (λxs out=>out.length+xs.length≤1048576) (by omega) ?_ ?_ fu [] (by simpa using hl) (by omega)
 · simpa using this
 · intro n out i x xs hx hd hI ih
   simp only [List.length_cons] at hI
   simp only [Qfs.eq_2]
   unfold Qmm Qkx
   rw [hd,cond_true,hx,Qab,Q3a,Q3r,Qab,Qab,List.filter_cons]
   cases hb:inb x 0 (((Qi4 r).length:Int) - 1)
   · rw [cond_false,ih _ (by omega)]; simp
   · rw [cond_true,ap1 (by simp; omega),Qab,ih _ (by simp; omega)]; simp
 · intro n out i hd hI
   simp only [Qfs.eq_2]
   unfold Qmm
   simp only [hd,cond_false]
   simp
theorem Jby:∀ (a b:List Int),a.length=b.length→((a.zip b).all λp=>p.1==p.2)=decide (a=b)
 | [],[],_=>rfl
 | [],_::_,h=>by simp at h
 | _::_,[],h=>by simp at h
 | x::a,y::b,h=>by
  rw [List.zip_cons_cons,List.all_cons,Jby a b (by simpa using h)]
  by_cases hx:x=y <;> simp [hx]
theorem Jfr {fu:Nat} (a b:List Int) (hl:a.length≤1048576) (hf:a.length<fu):Qg1 fu a b=some (decide (a=b)):=by
 unfold Qg1
 by_cases h:a.length=b.length
 · rw [Qaw (by simp [h])]
   have hz:(a.zip b).length=a.length:=by rw [List.length_zip]; omega
   have:=lp (a.zip b) (λn (_:Unit) i=>Qc7 fu a b n i) (λl _=>some (l.all λp=>p.1==p.2)) (by omega) ?_ ?_ fu () (by omega)
   · rw [Jby a b h] at this
     exact this
   · intro n _ i p xs hp hd ih
     obtain ⟨h1,_,h2⟩:=Qal hp
     rw [List.getElem?_zip_eq_some] at h2
     rw [hz] at hd
     have e1:ix a i=some p.1:=by unfold ix; rw [if_pos h1]; exact h2.1
     have e2:ix b i=some p.2:=by unfold ix; rw [if_pos h1]; exact h2.2
     simp only [Qc7.eq_2]
     unfold Qga
     rw [hd,cond_true,e1,Qab,e2,Qab,ih (),List.all_cons]
     by_cases hx:p.1=p.2
     · rw [Qaw (by simp [hx])]; simp [hx]
     · rw [Qbj (by simpa using hx)]; simp [hx]
   · intro n _ i hd
     rw [hz] at hd
     simp only [Qc7.eq_2]
     unfold Qga
     simp [hd]
 · rw [Qbj (by simp; omega)]
   have:a≠b:=λe=>h (by rw [e])
   simp [this]
theorem Q2l {xs:List Int} (h:xs.length≤1048576):Q3p xs=some (xs.mergeSort λx y=>decide (x≤y)):=by
 unfold Q3p
 rw [if_pos (by omega)]
theorem Qxa (r:Request) (us:List Int):(Qvb r us).length≤us.length:=List.length_filter_le _ _
def Jc0 (r:Request) (u:Int):Int:=(Qu4 r u).fL
def Q20 (r:Request) (c:List Int):Bool:=c.all λx=>c.all λy=>Qt1 r.fT (Jc0 r x) (Jc0 r y)
theorem Qz7 {r:Request} {us:List Int} {u:Int} (h:u∈Qvb r us):0≤u∧u<(Qi4 r).length:=by
 unfold Qvb at h
 have:=(List.mem_filter.1 h).2
 rw [Qcu] at this
 omega
theorem Qvk {r:Request} {u:Int} (h:0≤u∧u<(Qi4 r).length):Q0w r u=some (Qu4 r u):=by
 obtain ⟨_,x,_,_,hx⟩:=Q6r h
 unfold Qu4
 rw [hx]; rfl
theorem Q3s {r:Request}:∀ {l:List Int},(∀ u∈l,0≤u∧u<(Qi4 r).length)→Qyw r l=l.map (Qu4 r)
 | [],_=>rfl
 | u::l,h=>by
  have ih:=Q3s (r:=r) (l:=l) λv hv=>h v (by simp [hv])
  unfold Qyw at ih ⊢
  rw [List.filterMap_cons,Qvk (h u (by simp)),ih,List.map_cons]
theorem Jgc {α:Type} (l:List α) (L:Nat→Int→Option Bool) (g:α→Bool) (fin:Option Bool) (hl:l.length≤1099511627776)
    (hs:∀ n (i:Int) x,ix l i=some x→decide (i<(l.length:Int))=true→L (n+1) i=bif g x then L n (w64 (i+1)) else some false)
    (he:∀ n (i:Int),decide (i<(l.length:Int))=false→L (n+1) i=fin):∀ n,l.length<n→L n 0=bif l.all g then fin else some false:=by
 intro n hn
 refine lp l (λn (_:Unit) i=>L n i) (λxs _=>bif xs.all g then fin else some false) hl ?_ ?_ n () hn
 · intro n s i x xs hx hd ih
   rw [hs n i x hx hd,ih (),List.all_cons]
   cases g x <;> rfl
 · intro n s i hd
   rw [he n i hd]; rfl
structure Sep (p:List Pair) (P:List Int) (out:List (List Int)):Prop where
 ne:∀ g∈out,g≠[]
 inn:∀ g∈out,∀ x∈g,x∈P
 one:∀ g∈out,∀ x∈g,∀ y∈g,x≠y→Qx5 p x y=true
 two:∀ (i j:Nat) (g h:List Int),out[i]? = some g→out[j]? = some h→i≠j→∀ x∈g,∀ y∈h,Qx5 p x y=false
theorem Q36 {α:Type} {p q:α→Bool}:∀ {l:List α},(∀ x∈l,p x=q x)→l.all p=l.all q
 | [],_=>rfl
 | x::xs,h=>by rw [List.all_cons,List.all_cons,h x (by simp),Q36 λy hy=>h y (by simp [hy])]
def uOk (r:Request) (t:Typ) (u:Int):Bool:=(Q0w r u).isSome&&Q13 (Qu4 r u) t
def Qzd (r:Request) (us:List Int) (t:Typ):Bool:=Qhg r==0&&(us.all (uOk r t)&&Q1g r us t)
theorem Qyf {r:Request} {u:Int}:(Q0w r u).isSome=true↔0≤u∧u<(Qi4 r).length:=by
 constructor
 · intro h
   apply Decidable.byContradiction
   intro hn
   rw [Q28 hn] at h
   cases h
 · intro h
   rw [Qvk h]; rfl
theorem Jbf {fu:Nat} {r:Request} (h:Sm fu r) (us:List Int) (t:Typ) (hl:us.length≤1048576):Qrb fu r us t=some (Qzd r us t):=by
 have hfu:=h.fu
 have hil:=Qw2 r us
 unfold Qrb Qzd
 rw [Qul h,Qab]
 cases hc:Qhg r==0
 · rfl
 · rw [Bool.not_true,cond_false,Q6j h us hl,Qab,Bool.true_and]
   by_cases ha:∀ u∈us,0≤u∧u<(Qi4 r).length
   · have e:Qvb r us=us:=List.filter_eq_self.2 λu hu=>by have:=ha u hu; simp; omega
     have e0:((us.length:Int) != (us.length:Int))=false:=by simp
     rw [e,e0,cond_false]
     unfold Qsd
     rw [Q4d h us hl (by omega),Qab,Qxr _ (λx=>!Q13 x t) ?_ (by omega) (by omega),Qab]
     · rw [Q68 h t us hl,Qab,Q3s ha,List.any_map]
       have e1:us.all (uOk r t)=!(us.any ((λx=>!Q13 x t) ∘ Qu4 r)):=by
        rw [List.not_any_eq_all_not]
        apply Q36
        intro u hu
        simp only [uOk,Qyf.2 (ha u hu),Bool.true_and,Function.comp,Bool.not_not]
       rw [e1]
       cases us.any ((λx=>!Q13 x t) ∘ Qu4 r) <;> simp
     · intro x _
       unfold Qsu
       rw [Jht,Qab]
   · have hlt:(Qvb r us).length<us.length:=by
       apply Decidable.byContradiction
       intro hn
       apply ha
       have e:(us.filter λu=>inb u 0 (((Qi4 r).length:Int) - 1)).length=us.length:=by
        have:=List.length_filter_le (λu=>inb u 0 (((Qi4 r).length:Int) - 1)) us
        have e':Qvb r us=us.filter λu=>inb u 0 (((Qi4 r).length:Int) - 1):=rfl
        rw [e'] at hn
        omega
       intro u hu
       have:=List.length_filter_eq_length_iff.1 e u hu
       simp at this
       omega
     have e0:(((Qvb r us).length:Int) != (us.length:Int))=true:=by simp; omega
     rw [e0,cond_true]
     have e1:us.all (uOk r t)=false:=by
      apply Bool.eq_false_iff.2
      intro he
      apply ha
      intro u hu
      have:=List.all_eq_true.1 he u hu
      simp only [uOk,Bool.and_eq_true] at this
      exact Qyf.1 this.1
     rw [e1,Bool.false_and]
theorem Jfm {fu:Nat} {r:Request} (h:Sm fu r) (us:List Int) (t:Typ) (hl:us.length≤1048576):Qsv fu r us t=some (Qzd r us t):=by
 have hfu:=h.fu
 unfold Qsv Qzd
 rw [Q3g h,Qab]
 cases hc:Qhg r==0
 · have:(Qhg r != 0)=true:=by simp only [bne,hc]; rfl
   rw [this]; rfl
 · have:(Qhg r != 0)=false:=by simp only [bne,hc]; rfl
   have hz:Qhg r=0:=by simpa using hc
   have hu:Qdj fu r=some (Qi4 r):=Jhr h hz
   rw [this,cond_false,hu,Qab,Bool.true_and]
   have key:=lp us (λn (_:Unit) i=>Qge fu r us t (Qi4 r) n i) (λl _=>some (l.all (uOk r t)&&Q1g r us t)) (by omega) ?_ ?_ fu () (by omega)
   · exact key
   · intro n _ i x xs hx hd ih
     simp only [Qge.eq_2]
     unfold Qpn Qrs Qrn
     simp only [hd,cond_true,hx,Qab,Q9r,ih (),List.all_cons,uOk]
     cases (Q0w r x).isSome
     · rfl
     · simp only [Bool.not_true,cond_false,Jf7 (show 2097153≤fu by omega),Qab]
       cases Q13 (Qu4 r x) t <;> rfl
   · intro n _ i hd
     simp only [Qge.eq_2]
     unfold Qpn Qrx
     simp only [hd,cond_false,Jbi r us hl (show us.length<fu by omega),Qab,Jgp]
     show (bif decide (Qxv r us≤Jcs t) then _ else _)=_
     unfold Q1g
     cases decide (Qxv r us≤Jcs t) <;> simp
def chp (r:Request) (us:List Int) (s:Typ×Bool) (t:Typ):Typ×Bool :=
 bif Qzd r us t&&(!s.2||(decide (t.fK<s.1.fK)||(t.fK==s.1.fK&&decide (t.qQ<s.1.qQ)))) then (t,true) else s
def Qwy (r:Request) (us:List Int):Typ×Bool:=r.fR.foldl (chp r us) (Jhp,false)
theorem Jag {fu:Nat} {r:Request} (h:Sm fu r) (us:List Int) (hl:us.length≤1048576):Qke fu r us=some (Qwy r us):=by
 have hfu:=h.fu
 have ht:=h.types
 unfold Qke
 have key:=lp r.fR (λn (s:Typ×Bool) i=>Qe6 fu r us n s.1 s.2 i) (λl s=>some (l.foldl (chp r us) s)) (by omega) ?_ ?_ fu (Jhp,false) (by omega)
 · exact key
 · intro n s i x xs hx hd ih
   simp only [Qe6.eq_2]
   unfold Qjn Qef
   have ih':=λa b=>ih (a,b)
   simp only at ih'
   obtain ⟨b,f⟩:=s
   simp only [hd,cond_true,hx,Qab,Jbf h us x hl,ih',List.foldl_cons,chp]
   cases Qzd r us x <;> cases f <;> cases decide (x.fK<b.fK) <;> cases x.fK==b.fK <;> cases decide (x.qQ<b.qQ) <;> rfl
 · intro n s i hd
   simp only [Qe6.eq_2]
   unfold Qjn
   simp only [hd,cond_false]
   rfl
theorem Jfl {fu:Nat} {r:Request} (h:Sm fu r) (us:List Int) (hl:us.length≤1048576):Qoi fu r us=some (Qwy r us):=by
 have hfu:=h.fu
 have ht:=h.types
 unfold Qoi
 have key:=lp r.fR (λn (s:Typ×Bool) i=>Qe1 fu r us n s.1 s.2 i) (λl s=>some (l.foldl (chp r us) s)) (by omega) ?_ ?_ fu (Jhp,false) (by omega)
 · exact key
 · intro n s i x xs hx hd ih
   simp only [Qe1.eq_2]
   unfold Qj6 Qea
   have ih':=λa b=>ih (a,b)
   simp only at ih'
   obtain ⟨b,f⟩:=s
   simp only [hd,cond_true,hx,Qab,Jfm h us x hl,ih',List.foldl_cons,chp]
   cases Qzd r us x <;> cases f <;> cases decide (x.fK<b.fK) <;> cases x.fK==b.fK <;> cases decide (x.qQ<b.qQ) <;> rfl
 · intro n s i hd
   simp only [Qe1.eq_2]
   unfold Qj6
   simp only [hd,cond_false]
   rfl
theorem Q44 {fu:Nat} {r:Request} (h:Sm fu r) (id:Int):Qkf fu r id=some (Qzi (Qty r id)):=by
 have hfu:=h.fu
 have ht:=h.types
 unfold Qkf Qty
 refine lp r.fR (λn (_:Unit) i=>Qgf fu r id n i) (λl _=>some (Qzi (l.find? λt=>t.qQ==id))) (by omega) ?_ ?_ fu () (by omega)
 · intro n s i x xs hx hd ih
   simp only [Qgf.eq_2]
   unfold Qjw
   simp only [hd,cond_true,hx,Qab,ih (),List.find?_cons]
   cases x.qQ==id <;> rfl
 · intro n s i hd
   simp only [Qgf.eq_2]
   unfold Qjw
   simp only [hd,cond_false]
   rfl
def Jln:Box:=⟨0,0,0,0⟩
def Q8l (r:Request) (x:Carton):Int:=match Qty r x.qJ with
 | some t=>bif Qhg r==0 then t.ft+Qw8 r x.fO else 0
 | none=>0
def Qs6 (r:Request) (x:Carton):Box:=match Qty r x.qJ with
 | some t=>bif Qhg r==0 then ⟨t.fW,t.fD,t.fH,t.ft+Qw8 r x.fO⟩ else Jln
 | none=>Jln
theorem Ji4 {r:Request} (hc:Qhg r=0) {id:Int} {t:Typ} (ht:Qty r id=some t):Q2z t=true∧t∈r.fR∧t.qQ=id:=by
 have hm:=List.mem_of_find?_eq_some ht
 have hp:=List.find?_some ht
 exact ⟨Qxt (Qez hc).1 t hm,hm,by simpa using hp⟩
theorem Jbd {r:Request} (hc:Qhg r=0) {id:Int} {t:Typ} (ht:Qty r id=some t):0≤t.ft∧t.ft≤100000:=by
 have:=(Ji4 hc ht).1
 simp only [Q2z,Bool.and_eq_true,Qcu] at this
 omega
theorem Q7n {r:Request} (hc:Qhg r=0) {id:Int} {t:Typ} (ht:Qty r id=some t) (us:List Int) (hl:us.length≤1048576):w64 (t.ft+Qw8 r us)=t.ft+Qw8 r us:=by
 have h1:=Jbd hc ht
 have h2:=Q6e r us
 exact Qbe (by omega) (by omega)
theorem Q9b {fu:Nat} {r:Request} (h:Sm fu r) (x:Carton) (hl:x.fO.length≤1048576):Qra fu r x=some (Q8l r x):=by
 have hfu:=h.fu
 unfold Qra Q8l
 rw [Qxp h,Qab,Q2t]
 cases ht:Qty r x.qJ with
 | none=>rfl
 | some t =>
  rw [Qul h]
  simp only [Option.isSome_some,Bool.not_true,cond_false,Qab]
  cases hc:Qhg r==0
  · rfl
  · have hc':Qhg r=0:=by simpa using hc
    unfold Qrp
    rw [Jix h _ hl (by omega)]
    simp only [Bool.not_true,cond_false,cond_true,Qab,Qzi,Q7n hc' ht _ hl]
theorem Jft {fu:Nat} {r:Request} (h:Sm fu r) (x:Carton) (hl:x.fO.length≤1048576):Qsy fu r x=some (Q8l r x):=by
 have hfu:=h.fu
 unfold Qsy Q8l
 rw [Q44 h,Qab,Q2t,Q3g h,Qab]
 cases hc:Qhg r==0
 · have:(Qhg r != 0)=true:=by simp only [bne,hc]; rfl
   rw [this]
   cases Qty r x.qJ <;> rfl
 · have hc':Qhg r=0:=by simpa using hc
   rw [show (Qhg r != 0)=false by simp [hc'],cond_false]
   cases ht:Qty r x.qJ with
   | none=>rfl
   | some t =>
    unfold Qrf
    rw [Jki h _ hl (by omega)]
    simp only [Option.isSome_some,Bool.not_true,cond_false,cond_true,Qab,Qzi,Q7n hc' ht _ hl]
theorem Jem {fu:Nat} {r:Request} (h:Sm fu r) (x:Carton) (hl:x.fO.length≤1048576):Qrc fu r x=some (Qs6 r x):=by
 unfold Qrc Qs6
 rw [Qxp h,Qab,Q2t]
 cases ht:Qty r x.qJ with
 | none=>rfl
 | some t =>
  rw [Qul h]
  simp only [Option.isSome_some,Bool.not_true,cond_false,Qab]
  cases hc:Qhg r==0
  · rfl
  · unfold Qrg
    rw [Q9b h x hl]
    simp only [Q8l,ht,hc,Bool.not_true,cond_false,cond_true,Qab,Qzi]
theorem Jh2 {fu:Nat} {r:Request} (h:Sm fu r) (x:Carton) (hl:x.fO.length≤1048576):Qs1 fu r x=some (Qs6 r x):=by
 unfold Qs1 Qs6
 rw [Q44 h,Qab,Q2t,Q3g h,Qab]
 cases hc:Qhg r==0
 · have:(Qhg r != 0)=true:=by simp only [bne,hc]; rfl
   rw [this]
   cases Qty r x.qJ <;> rfl
 · have hc':Qhg r=0:=by simpa using hc
   rw [show (Qhg r != 0)=false by simp [hc'],cond_false]
   cases ht:Qty r x.qJ with
   | none=>rfl
   | some t =>
    unfold Qro
    rw [Jft h x hl]
    simp only [Q8l,ht,hc,Option.isSome_some,Bool.not_true,cond_false,cond_true,Qab,Qzi]
def Jcn (b:Box) (s:Spot):Bool:=inb b.fW 0 2000&&(inb b.fD 0 2000&&(inb b.fH 0 2000&&(inb s.fX 0 2000&&(inb s.fY 0 2000&&inb s.fZ 0 2000))))
def Jil (p:Pallet) (b:Box) (s:Spot):Bool :=
 Jcn b s&&(decide (b.fW>0)&&(decide (b.fD>0)&&(decide (b.fH>0)&&(decide (w64 (s.fX+b.fW)≤p.fW)&&(decide (w64 (s.fY+b.fD)≤p.fD)&&decide (w64 (s.fZ+b.fH)≤p.fH))))))
def Jfd (a la b lb:Int):Bool:=decide (a<w64 (b+lb))&&decide (b<w64 (a+la))
def Jie (a:Box) (s:Spot) (b:Box) (t:Spot):Bool :=
 Jcn a s&&(Jcn b t&&(s.fJ==t.fJ&&(Jfd s.fX a.fW t.fX b.fW&&(Jfd s.fY a.fD t.fY b.fD&&Jfd s.fZ a.fH t.fZ b.fH))))
theorem Q6o (fu:Nat) (n:Int):Qck fu n=some (inb n 0 2000):=by unfold Qck; rw [Q5d]; rfl
theorem Jk2 (fu:Nat) (b:Box) (s:Spot):Qpf fu b s=some (Jcn b s):=by
 unfold Qpf Jcn
 simp only [Q6o,Qab]
 cases inb b.fW 0 2000 <;> cases inb b.fD 0 2000 <;> cases inb b.fH 0 2000 <;> cases inb s.fX 0 2000 <;> cases inb s.fY 0 2000 <;> cases inb s.fZ 0 2000 <;> rfl
theorem Jdt (n:Int):inb n 1 2000=(inb n 0 2000&&decide (n>0)):=by
 apply Bool.eq_iff_iff.2
 simp only [Qcu,Bool.and_eq_true,decide_eq_true_eq]
 omega
theorem Jkr (fu:Nat) (p:Pallet) (b:Box) (s:Spot):Qrm fu p b s=some (Jil p b s):=by
 unfold Qrm Qqq Jil Jcn
 simp only [Q6o,Q7j,Qab,Jdt]
 cases inb b.fW 0 2000 <;> cases inb b.fD 0 2000 <;> cases inb b.fH 0 2000 <;> cases inb s.fX 0 2000 <;> cases inb s.fY 0 2000 <;> cases inb s.fZ 0 2000 <;> simp
 all_goals cases decide (0<b.fW) <;> cases decide (0<b.fD) <;> cases decide (0<b.fH) <;> simp
 all_goals cases decide (w64 (s.fX+b.fW)≤p.fW) <;> cases decide (w64 (s.fY+b.fD)≤p.fD) <;> simp
theorem Jlg (fu:Nat) (a la b lb:Int):Qou fu a la b lb=some (Jfd a la b lb):=by
 unfold Qou Jfd
 cases decide (a<w64 (b+lb)) <;> rfl
theorem Jk7 (fu:Nat) (a:Box) (s:Spot) (b:Box) (t:Spot):Qp4 fu a s b t=some (Jie a s b t):=by
 unfold Qp4 Qpr Jie
 simp only [Jk2,Jlg,Qab,bne]
 cases Jcn a s <;> cases Jcn b t <;> cases s.fJ==t.fJ <;> cases Jfd s.fX a.fW t.fX b.fW <;> cases Jfd s.fY a.fD t.fY b.fD <;> rfl
def Q4g (n:Int) (s:Spot):Int:=bif inb s.fJ 0 999999 then (if s.fJ+1>n then s.fJ+1 else n) else n
def Qzp (l:List Spot):Int:=l.foldl Q4g 0
theorem Jgt {n:Int} (s:Spot) (h:0≤n∧n≤1000000):0≤Q4g n s∧Q4g n s≤1000000:=by
 unfold Q4g
 cases hi:inb s.fJ 0 999999
 · exact h
 · have:=Qcu.1 hi
   simp only [cond_true]
   split <;> omega
theorem Jbr:∀ (l:List Spot) {n:Int},0≤n∧n≤1000000→0≤l.foldl Q4g n∧l.foldl Q4g n≤1000000
 | [],_,h=>h
 | s::l,_,h=>Jbr l (Jgt s h)
theorem Q6g (l:List Spot):0≤Qzp l∧Qzp l≤1000000:=Jbr l (by omega)
theorem Jd7 {fu:Nat} {l:List Spot} (hl:l.length≤1048576) (hf:l.length<fu):Qjj fu l=some (Qzp l):=by
 unfold Qjj
 have key:=lp l (λn (s:Int) i=>Qfw fu l n s i) (λl s=>some (l.foldl Q4g s)) (by omega) ?_ ?_ fu 0 hf
 · exact key
 · intro n s i x xs hx hd ih
   simp only [Qfw.eq_2]
   unfold Qk4 Qkc
   simp only [hd,cond_true,hx,Qab,Q5d,ih,List.foldl_cons]
   unfold Q4g
   cases hi:inb x.fJ 0 999999
   · rfl
   · have:=Qcu.1 hi
     simp only [cond_true]
     rw [Qbe (by omega) (by omega)]
 · intro n s i hd
   simp only [Qfw.eq_2]
   unfold Qk4
   simp only [hd,cond_false]
   rfl
theorem Jc4 (fu:Nat) (a b:Int):Qk1 fu a b=some (if a>b then a else b):=by
 unfold Qk1
 by_cases h:a>b
 · simp [h]
 · simp [h]
theorem Jh1 {fu:Nat} {l:List Spot} (hl:l.length≤1048576) (hf:l.length<fu):Qqj fu l=some (Qzp l):=by
 unfold Qqj
 have key:=lp l (λn (s:Int) i=>Qf0 fu l n s i) (λl s=>some (l.foldl Q4g s)) (by omega) ?_ ?_ fu 0 hf
 · exact key
 · intro n s i x xs hx hd ih
   simp only [Qf0.eq_2]
   unfold Qlt Qkm
   simp only [hd,cond_true,hx,Qab,Q3r,Jc4,ih,List.foldl_cons]
   unfold Q4g
   cases hi:inb x.fJ 0 999999
   · rfl
   · have:=Qcu.1 hi
     simp only [cond_true]
     rw [Qbe (by omega) (by omega)]
     congr 2
     split <;> split <;> omega
 · intro n s i hd
   simp only [Qf0.eq_2]
   unfold Qlt
   simp only [hd,cond_false]
   rfl
def Jee (g:List Int→Bool) (out:List (List Int)) (u:Int):List (List Int):=match Qw6 g out with
 | some i=>match out[i]? with
  | some x=>out.set i (x++[u])
  | none=>out
 | none=>out++[[u]]
def Q22 (r:Request) (u:Int) (l:List Int):Bool:=Q1g r (l++[u]) (Qxx r)
def Jg8 (r:Request) (out:List (List Int)) (u:Int):List (List Int):=Jee (Q22 r u) out u
def Q7x (r:Request) (out:List (List Int)) (u:Int):List (List Int):=match out.getLast? with
 | some l=>bif Q22 r u l then out.set (out.length - 1) (l++[u]) else out++[[u]]
 | none=>[[u]]
theorem Qxj {r:Request} {out:List (List Int)} {l:List Int} (u:Int) (h:out.getLast? = some l):Q7x r out u=bif Q22 r u l then out.set (out.length - 1) (l++[u]) else out++[[u]]:=by unfold Q7x; rw [h]
def Je6 (r:Request) (us:List Int):List Int:=(srt (dnk (us.map λu=>Qxv r [u])) us.length).map λp=>(ix us p).getD 0
def nfM (r:Request) (us:List Int):List (List Int):=(Qvb r us).foldl (Q7x r) []
def ffM (r:Request) (us:List Int):List (List Int):=(Je6 r (Qvb r us)).foldl (Jg8 r) []
def pwM (r:Request) (us:List Int):List (List Int):=bif r.qY==1 then nfM r us else ffM r us
theorem Q56 {g:List Int→Bool} {out:List (List Int)} {n:Nat} (u:Int) (h:okG n out):okG (n+1) (Jee g out u):=by
 obtain ⟨h1,h2⟩:=h
 unfold Jee
 split
 · rename_i i hi
   split
   · rename_i x hx
     refine ⟨by simp; omega,λl hl=>?_⟩
     rcases List.mem_or_eq_of_mem_set hl with hl | rfl
     · have:=h2 l hl; omega
     · have:=h2 x (List.mem_of_getElem? hx); simp; omega
   · exact ⟨by omega,λl hl=>by have:=h2 l hl; omega⟩
 · refine ⟨by simp; omega,λl hl=>?_⟩
   rcases List.mem_append.1 hl with hl | hl
   · have:=h2 l hl; omega
   · rw [List.mem_singleton.1 hl]; simp
theorem Q55 {r:Request} {out:List (List Int)} {n:Nat} (u:Int) (h:okG n out):okG (n+1) (Q7x r out u):=by
 obtain ⟨h1,h2⟩:=h
 unfold Q7x
 split
 · rename_i x hx
   have hm:=List.mem_of_getLast? hx
   cases Q22 r u x
   · refine ⟨by simp; omega,λl hl=>?_⟩
     rcases List.mem_append.1 hl with hl | hl
     · have:=h2 l hl; omega
     · rw [List.mem_singleton.1 hl]; simp
   · refine ⟨by simp; omega,λl hl=>?_⟩
     rcases List.mem_or_eq_of_mem_set hl with hl | rfl
     · have:=h2 l hl; omega
     · have:=h2 x hm; simp; omega
 · exact ⟨by simp,λl hl=>by rw [List.mem_singleton.1 hl]; simp⟩
theorem Q54 {F:List (List Int)→Int→List (List Int)} (hF:∀ out n u,okG n out→okG (n+1) (F out u)):∀ (l:List Int) {out:List (List Int)} {n:Nat},okG n out→okG (n+l.length) (l.foldl F out)
 | [],_,_,h=>h
 | u::l,out,n,h=>by
  have:=Q54 hF l (hF out n u h)
  rw [List.foldl_cons,List.length_cons,show n+(l.length+1)=n+1+l.length by omega]
  exact this
theorem Jhx {r:Request} {us:List Int} (h:us.length≤12):(Qvb r us).length≤12:=Nat.le_trans (Qxa r us) h
theorem Jd1 (r:Request) (us:List Int):(Je6 r us).length=us.length:=by simp [Je6,Qt5]
theorem Q8f {r:Request} {us:List Int} (h:us.length≤12):okG 12 (pwM r us):=by
 have ht:=Jhx (r:=r) h
 have h0:okG 0 ([]:List (List Int)):=⟨by simp,by simp⟩
 unfold pwM
 cases r.qY==1
 · have:=Q54 (F:=Jg8 r) (λout n u ho=>Q56 u ho) (Je6 r (Qvb r us)) h0
   rw [Jd1] at this
   exact ⟨by have:=this.1; simp only [cond_false]; unfold ffM; omega,λl hl=>by have:=this.2 l hl; omega⟩
 · have:=Q54 (F:=Q7x r) (λout n u ho=>Q55 u ho) (Qvb r us) h0
   exact ⟨by have:=this.1; simp only [cond_true]; unfold nfM; omega,λl hl=>by have:=this.2 l hl; omega⟩
theorem Jal {g:List Int→Bool} {out:List (List Int)} {c:Int} {n:Nat} (h:okG n out) (hn:n≤1048576) {β:Type} (k:List (List Int)→Option β) (a:Int) (ha:a=match Qw6 g out with | some i=>(i:Int) | none=>-1) :
    (bif (decide (a<0)) then Qac (Qg8 24 out [([c]:List Int)]) λx=>k x else Qac (ix out a) λx=>Qac (Qg8 8 x (([c]:List Int))) λy=>Qac (ix out a) λz=>k (Qg2 out a y))=k (Jee g out c):=by
 obtain ⟨h1,h2⟩:=h
 unfold Jee
 cases hf:Qw6 g out with
 | none =>
  rw [hf] at ha
  simp only at ha
  subst ha
  rw [Qbj (by simp),ap1 (by simp; omega),Qab]
 | some i =>
  rw [hf] at ha
  simp only at ha
  subst ha
  obtain ⟨x,hx,_⟩:=Qum hf
  have:=h2 x (List.mem_of_getElem? hx)
  rw [Qaw (by simp),Qi5,hx,Qab,ap1 (by simp; omega),Qab,Qab]
  simp [Qg2,hx]
theorem Q29 {r:Request} (h:(Qhg r==0)=false) (us:List Int):Qvb r us=[]:=by
 unfold Qvb Qi4
 rw [h]
 apply List.filter_eq_nil_iff.2
 intro u _
 simp; omega
theorem Jdg {fu:Nat} {r:Request} (h:Sm fu r) (hc:Qhg r=0):Qdj fu r=some (Qi4 r):=Jhr h hc
theorem Qvi {α:Type} {out:List α} (h:out≠[]):∃ l,out.getLast? = some l∧ix out ((out.length:Int) - 1)=some l:=by
 cases hl:out.getLast? with
 | none=>exact absurd (List.getLast?_eq_none_iff.1 hl) h
 | some l =>
  have hp:=List.length_pos_iff.2 h
  refine ⟨l,rfl,?_⟩
  rw [show (out.length:Int) - 1=((out.length - 1:Nat):Int) by omega,Qi5,← List.getLast?_eq_getElem?,hl]
theorem Ji1 {fu:Nat} {r:Request} (h:Sm fu r) (us:List Int) (hl:us.length≤1048575):Qqe fu r us=some (nfM r us):=by
 have hfu:=h.fu
 have htl:=Qxa r us
 unfold Qqe nfM
 rw [Q6j h us (by omega),Qab]
 cases hc:Qhg r==0
 · rw [Q29 hc]
   obtain ⟨m,rfl⟩:∃ m,fu=m+1:=⟨fu - 1,by omega⟩
   rw [Qex.eq_2]; rfl
 · have key:=lpI (Qvb r us) (λn (o:List (List Int)) i=>Qex fu r (Qvb r us) n o i) (λxs o=>some (xs.foldl (Q7x r) o)) (λxs o=>∃ m,m+xs.length≤1048575∧okG m o) (by omega) ?_ ?_ fu [] ⟨0,by omega,by simp,by simp⟩ (by omega)
   · exact key
   · intro n o i u xs hx hd hI ih
     obtain ⟨m,hm,ho⟩:=hI
     simp only [List.length_cons] at hm
     have h1:=ho.1
     have h2:=ho.2
     have hI':=ih (Q7x r o u) ⟨m+1,by omega,Q55 u ho⟩
     simp only [Qex.eq_2]
     unfold Qlf Qh9
     rw [hd,cond_true,hx,Qab,List.foldl_cons,← hI',Qbe (by omega) (by omega)]
     by_cases he:o=[]
     · subst he
       rw [decide_eq_false (by simp),cond_false,ap1 (by simp),Qab]; rfl
     · obtain ⟨l,e1,e2⟩:=Qvi he
       have hp:=List.length_pos_iff.2 he
       have hll:=h2 l (List.mem_of_getLast? e1)
       rw [decide_eq_true (by omega),cond_true,e2,Qab,Jbb h l u (by omega),Qab,hc,Bool.true_and]
       rw [Qxj u e1]
       unfold Q22
       cases Q1g r (l++[u]) (Qxx r)
       · rw [cond_false,cond_false,ap1 (by simp; omega),Qab]
       · rw [cond_true,cond_true,Qab,ap1 (by simp; omega),Qab,Qab]
         rw [show Qg2 o ((o.length:Int) - 1) (l++[u])=o.set (o.length - 1) (l++[u]) by unfold Qg2; congr 1; omega]
   · intro n o i hd _
     simp only [Qex.eq_2]
     unfold Qlf
     rw [hd,cond_false]; rfl
theorem Jjg {fu:Nat} {r:Request} (h:Sm fu r) (us:List Int) (hl:us.length≤1048575):Qp3 fu r us=some (nfM r us):=by
 have hfu:=h.fu
 have htl:=Qxa r us
 unfold Qp3 nfM
 rw [Q3g h,Qab]
 cases hc:Qhg r==0
 · rw [show (Qhg r != 0)=true by simp only [bne,hc]; rfl,cond_true,Q29 hc]; rfl
 · have hz:Qhg r=0:=by simpa using hc
   rw [show (Qhg r != 0)=false by simp [hz],cond_false,Jdg h hz,Qab,Jb5 h us (by omega),Qab]
   unfold Qtg
   rw [Jbj h,Qab,Jdg h hz,Qab]
   have key:=lpI (Qvb r us) (λn (o:List (List Int)) i=>Qgo fu r (Qvb r us) (Qzi (Qty r r.fP)) (Qi4 r) n o i) (λxs o=>some (xs.foldl (Q7x r) o)) (λxs o=>∃ m,m+xs.length≤1048575∧okG m o) (by omega) ?_ ?_ fu [] ⟨0,by omega,by simp,by simp⟩ (by omega)
   · rw [key]; rfl
   · intro n o i u xs hx hd hI ih
     obtain ⟨m,hm,ho⟩:=hI
     simp only [List.length_cons] at hm
     have h1:=ho.1
     have h2:=ho.2
     have hI':=ih (Q7x r o u) ⟨m+1,by omega,Q55 u ho⟩
     simp only [Qgo.eq_2]
     unfold Qnx Qiu
     rw [hd,cond_true,List.foldl_cons,← hI',Qbe (by omega) (by omega)]
     by_cases he:o=[]
     · subst he
       rw [decide_eq_false (by simp),cond_false,hx,Qab,ap1 (by simp),Qab]; rfl
     · obtain ⟨l,e1,e2⟩:=Qvi he
       have hp:=List.length_pos_iff.2 he
       have hll:=h2 l (List.mem_of_getLast? e1)
       rw [decide_eq_true (by omega),cond_true,e2,Qab,hx,Qab,Jfa,Q7k r _ l u (by omega) (by omega),Qab]
       rw [Qxj u e1]
       unfold Q22
       cases Q1g r (l++[u]) (Qxx r)
       · rw [cond_false,cond_false,Qab,ap1 (by simp; omega),Qab]
       · rw [cond_true,cond_true,Qab,Qab,ap1 (by simp; omega),Qab,Qab]
         rw [show Qg2 o ((o.length:Int) - 1) (l++[u])=o.set (o.length - 1) (l++[u]) by unfold Qg2; congr 1; omega]
   · intro n o i hd _
     simp only [Qgo.eq_2]
     unfold Qnx
     rw [hd,cond_false]; rfl
theorem Jbh {us:List Int} {p:Int} (h:0≤p∧p<us.length):ix us p=some ((ix us p).getD 0):=by
 have:=Qzs (l:=us) (i:=p.toNat) (by omega)
 rw [show ((p.toNat:Nat):Int)=p by omega] at this
 rw [this]; rfl
theorem Qx3 {α β γ:Type} (f:γ→β→γ) (g:α→β):∀ (l:List α) (s:γ),(l.map g).foldl f s=l.foldl (λs x=>f s (g x)) s
 | [],_=>rfl
 | x::l,s=>by rw [List.map_cons,List.foldl_cons,List.foldl_cons,Qx3 f g l]
theorem Jfh {fu:Nat} {r:Request} (h:Sm fu r) (us:List Int) (hl:us.length<20):Qov fu r us=some (ffM r us):=by
 have hfu:=h.fu
 have htl:=Qxa r us
 unfold Qov ffM Je6
 rw [Q6j h us (by omega),Qab]
 obtain ⟨t,ht⟩:∃ t,t=Qvb r us:=⟨_,rfl⟩
 rw [← ht] at htl ⊢
 have key:=lpI t (λn (o:List Int) i=>Qgd fu r t n o i) (λxs o=>Qac (Qho fu (o++xs.map λu=>Qxv r [u])) λx=>Qc3 fu r t x fu [] 0) (λxs o=>o.length+xs.length≤20) (by omega) ?_ ?_ fu [] (by simp; omega) (by omega)
 · rw [key,List.nil_append,Jei hfu (by simp; omega),Qab,Qx3,List.length_map]
   have hsl:=Qt5 (dnk (t.map λu=>Qxv r [u])) t.length
   have hsm:=λx=>Qx1 (k:=dnk (t.map λu=>Qxv r [u])) (n:=t.length) (x:=x)
   generalize srt (dnk (t.map λu=>Qxv r [u])) t.length=S at hsl hsm ⊢
   cases hc:Qhg r==0
   · have:t=[]:=by rw [ht]; exact Q29 hc us
     subst this
     have:S=[]:=List.length_eq_zero_iff.1 (by simpa using hsl)
     subst this
     obtain ⟨m,rfl⟩:∃ m,fu=m+1:=⟨fu - 1,by omega⟩
     rw [Qc3.eq_2]; rfl
   · have key1:=lpI S (λn (o:List (List Int)) i=>Qc3 fu r t S n o i) (λxs o=>some (xs.foldl (λs p=>Jg8 r s ((ix t p).getD 0)) o)) (λxs o=>(∃ m,m+xs.length≤20∧okG m o)∧∀ p∈xs,0≤p∧p<t.length) (by omega) ?_ ?_ fu [] ⟨⟨0,by omega,by simp,by simp⟩,λp hp=>(hsm p).1 hp⟩ (by omega)
     · exact key1
     · intro n o i p xs hx hd hI ih
       obtain ⟨⟨m,hm,ho⟩,hin⟩:=hI
       simp only [List.length_cons] at hm
       have hp:=Jbh (hin p (by simp))
       simp only [Qc3.eq_2]
       unfold Qj4 Qiy
       rw [hd,cond_true,hx,Qab,hp,Qab,List.foldl_cons]
       generalize (ix t p).getD 0=u
       rw [Q4t (λy=>Qkl fu y r u) (Q22 r u) (λl hl=>by
        have:=ho.2 l hl
        unfold Qkl Q22
        rw [Jbb h l u (by omega),Qab,hc,Bool.true_and]) (by have:=ho.1; omega) (by have:=ho.1; omega),Qab]
       refine (Jal (g:=Q22 r u) (c:=u) ho (by omega) (λx=>Qc3 fu r t S n x (w64 (i+1))) (Qyk (Q22 r u) o 0) (by
        rw [Q31]
        cases Qw6 (Q22 r u) o <;> simp)).trans ?_
       exact ih _ ⟨⟨m+1,by omega,Q56 u ho⟩,λq hq=>hin q (by simp [hq])⟩
     · intro n o i hd _
       simp only [Qc3.eq_2]
       unfold Qj4
       rw [hd,cond_false]; rfl
 · intro n o i u xs hx hd hI ih
   simp only [List.length_cons] at hI
   simp only [Qgd.eq_2]
   unfold Qjr
   rw [hd,cond_true,hx,Qab,Jbl h [u] (by simp) (by simp; omega),Qab,ap1 (by simp; omega),Qab,ih _ (by simp; omega)]
   simp
 · intro n o i hd _
   simp only [Qgd.eq_2]
   unfold Qjr
   rw [hd,cond_false]; simp
theorem Jff {fu:Nat} {r:Request} (h:Sm fu r) (us:List Int) (hl:us.length<20):Qok fu r us=some (ffM r us):=by
 have hfu:=h.fu
 have htl:=Qxa r us
 unfold Qok ffM Je6
 rw [Q3g h,Qab]
 cases hc:Qhg r==0
 · rw [show (Qhg r != 0)=true by simp only [bne,hc]; rfl,cond_true,Q29 hc]; rfl
 · have hz:Qhg r=0:=by simpa using hc
   rw [show (Qhg r != 0)=false by simp [hz],cond_false,Jdg h hz,Qab,Jb5 h us (by omega),Qab]
   unfold Qso
   rw [Jbj h,Qab,Jdg h hz,Qab]
   generalize Qvb r us=t at htl ⊢
   have key:=lpI t (λn (o:List Int) i=>Qg9 fu r t (Qzi (Qty r r.fP)) (Qi4 r) n o i) (λxs o=>Qac (Qhp fu (o++xs.map λu=>Qxv r [u])) λx=>Qc0 fu r t (Qzi (Qty r r.fP)) (Qi4 r) x fu [] 0) (λxs o=>o.length+xs.length≤20) (by omega) ?_ ?_ fu [] (by simp; omega) (by omega)
   · rw [key,List.nil_append,Jec hfu (by simp; omega),Qab,Qx3,List.length_map]
     have hsl:=Qt5 (dnk (t.map λu=>Qxv r [u])) t.length
     have hsm:=λx=>Qx1 (k:=dnk (t.map λu=>Qxv r [u])) (n:=t.length) (x:=x)
     generalize srt (dnk (t.map λu=>Qxv r [u])) t.length=S at hsl hsm ⊢
     have key1:=lpI S (λn (o:List (List Int)) i=>Qc0 fu r t (Qzi (Qty r r.fP)) (Qi4 r) S n o i) (λxs o=>some (xs.foldl (λs p=>Jg8 r s ((ix t p).getD 0)) o)) (λxs o=>(∃ m,m+xs.length≤20∧okG m o)∧∀ p∈xs,0≤p∧p<t.length) (by omega) ?_ ?_ fu [] ⟨⟨0,by omega,by simp,by simp⟩,λp hp=>(hsm p).1 hp⟩ (by omega)
     · rw [key1]; rfl
     · intro n o i p xs hx hd hI ih
       obtain ⟨⟨m,hm,ho⟩,hin⟩:=hI
       simp only [List.length_cons] at hm
       have hp:=Jbh (hin p (by simp))
       have ho1:=ho.1
       simp only [Qc0.eq_2]
       unfold Qll
       rw [hd,cond_true,hx,Qab,hp,Qab,List.foldl_cons]
       generalize (ix t p).getD 0=u
       obtain ⟨K,hK⟩:∃ K,K=Qc0 fu r t (Qzi (Qty r r.fP)) (Qi4 r) S n:=⟨_,rfl⟩
       rw [← hK] at ih ⊢
       obtain ⟨R,hR⟩:∃ R:Int→Option (List (List Int)),R=λa=>bif (decide (a<0)) then Qac (Qg8 24 o [([u]:List Int)]) λx=>K x (w64 (i+1)) else Qac (ix o a) λx=>Qac (Qg8 8 x (([u]:List Int))) λy=>Qac (ix o a) λz=>K (Qg2 o a y) (w64 (i+1)):=⟨_,rfl⟩
       have hD:=lpD o.length (λn a j=>Qfn fu K r (Qzi (Qty r r.fP)) (Qi4 r) o i u n a j) (λxs a=>R (xs.foldl (Je8 (Q22 r u) o) a)) (by omega) ?_ ?_ fu (-1) (by omega)
       · rw [hD,hR]
         refine (Jal (g:=Q22 r u) (c:=u) ho (by omega) (λx=>K x (w64 (i+1))) _ ?_).trans (ih _ ⟨⟨m+1,by omega,Q56 u ho⟩,λq hq=>hin q (by simp [hq])⟩)
         rw [Q1d (Q22 r u) o o.length (-1) (Nat.le_refl _),List.take_length]
         cases Qw6 (Q22 r u) o <;> rfl
       · intro n a j xs h0 h1 hd ih
         simp only [Qfn.eq_2]
         unfold Qly Qkp
         obtain ⟨j,rfl⟩:∃ q:Nat,j=q:=⟨j.toNat,by omega⟩
         have hj:j<o.length:=by omega
         have hg:=ho.2 _ (List.getElem_mem hj)
         rw [hd,cond_true,Qzs hj,Qab,Jfa,Q7k r _ _ u (by omega) (by omega),Qab]
         have e:Je8 (Q22 r u) o a (j:Int)=bif Q1g r (o[j]++[u]) (Qxx r) then (j:Int) else a:=by unfold Je8 atB Q22; rw [Qzs hj]
         simp only [ih,List.foldl_cons,e]
         cases Q1g r (o[j]++[u]) (Qxx r) <;> rfl
       · intro n a j hd
         simp only [Qfn.eq_2]
         unfold Qly Qks
         rw [hd,cond_false,hR]; rfl
     · intro n o i hd _
       simp only [Qc0.eq_2]
       unfold Qll
       rw [hd,cond_false]; rfl
   · intro n o i u xs hx hd hI ih
     simp only [List.length_cons] at hI
     obtain ⟨i0,i1,i2⟩:=Qal hx
     have e:sls t i (w64 (i+1))=some [u]:=by
      rw [Qbe (by omega) (by omega),Quz (by omega)]
      congr 1
      rw [show (i+1).toNat - i.toNat=1 by omega]
      have hlt:=(List.getElem?_eq_some_iff.1 i2).1
      have heq:=(List.getElem?_eq_some_iff.1 i2).2
      rw [List.drop_eq_getElem_cons hlt,heq]; rfl
     simp only [Qg9.eq_2]
     unfold Qlv
     rw [hd,cond_true,e,Qab,Jbi r [u] (by simp) (by simp; omega),Qab,ap1 (by simp; omega),Qab,ih _ (by simp; omega)]
     simp
   · intro n o i hd _
     simp only [Qg9.eq_2]
     unfold Qlv
     rw [hd,cond_false]; simp
theorem Jkj {fu:Nat} {r:Request} (h:Sm fu r) (us:List Int) (hl:us.length<20):Qp2 fu r us=some (pwM r us):=by
 unfold Qp2 pwM
 rw [Ji1 h us (by omega),Jfh h us hl]
 cases r.qY==1 <;> rfl
theorem Jk5 {fu:Nat} {r:Request} (h:Sm fu r) (us:List Int) (hl:us.length<20):Qp1 fu r us=some (pwM r us):=by
 unfold Qp1 pwM
 rw [Jjg h us (by omega),Jff h us hl]
 cases r.qY==1 <;> rfl
theorem Q39 {α:Type} {l:List α} {i:Int} (h0:0≤i) (h1:i<l.length):∃ x,ix l i=some x:=by
 obtain ⟨j,rfl⟩:∃ j:Nat,i=j:=⟨i.toNat,by omega⟩
 exact ⟨_,Qzs (by omega)⟩
def Jcm (p:Pallet) (b:Box):Bool:=inb b.fW 1 p.fW&&(inb b.fD 1 p.fD&&(inb b.fH 1 p.fH&&inb b.fQ 1 p.fQ))
def Qzy (p:Pallet) (l:List Box):Bool:=Qv7 p&&l.all (Jcm p)
theorem Jjf {fu:Nat} (p:Pallet) (l:List Box) (hl:l.length≤1048576) (hf:l.length<fu):Qng fu p l=some (Qzy p l):=by
 unfold Qng Qzy
 rw [Jdi,Qab]
 cases Qv7 p
 · rfl
 · rw [Bool.not_true,cond_false,Bool.true_and]
   have:=Jgc l (λn i=>Qf1 fu p l n i) (Jcm p) (some true) (by omega) ?_ ?_ fu hf
   · rw [this]
     cases l.all (Jcm p) <;> rfl
   · intro n i x hx hd
     simp only [Qf1.eq_2]
     unfold Qmd Qpm Jcm
     simp only [hd,cond_true,hx,Qab,Q3r]
     cases inb x.fW 1 p.fW <;> cases inb x.fD 1 p.fD <;> cases inb x.fH 1 p.fH <;> cases inb x.fQ 1 p.fQ <;> rfl
   · intro n i hd
     simp only [Qf1.eq_2]
     unfold Qmd
     rw [hd,cond_false]
def nxG {σ:Type} (fits:σ→Bool) (add:σ→σ) (z:σ) (out:List σ):List σ:=match out.getLast? with
 | some s=>bif fits s then out.set (out.length - 1) (add s) else out++[add z]
 | none=>[add z]
theorem Qv4 {σ:Type} {fits:σ→Bool} {add:σ→σ} {z:σ} {out:List σ} {s:σ} (h:out.getLast? = some s):nxG fits add z out=bif fits s then out.set (out.length - 1) (add s) else out++[add z]:=by unfold nxG; rw [h]
theorem Quv {σ:Type} (fits:σ→Bool) (add:σ→σ) (z:σ) (out:List σ):(nxG fits add z out).length≤out.length+1:=by
 unfold nxG
 split
 · cases fits _ <;> simp
 · simp
theorem Qx9 {σ:Type} {fits:σ→Bool} {add:σ→σ} {z:σ} {out:List σ} {I:σ→Prop} (h:∀ s∈out,I s) (ha:∀ s,I s→fits s=true→I (add s)) (hz:I (add z)):∀ s∈nxG fits add z out,I s:=by
 intro s hs
 unfold nxG at hs
 split at hs
 · rename_i x hx
   have hm:=List.mem_of_getLast? hx
   cases hf:fits x
   · rw [hf,cond_false] at hs
     rcases List.mem_append.1 hs with hs | hs
     · exact h s hs
     · rw [List.mem_singleton.1 hs]; exact hz
   · rw [hf,cond_true] at hs
     rcases List.mem_or_eq_of_mem_set hs with hs | rfl
     · exact h s hs
     · exact ha x (h x hm) hf
 · rw [List.mem_singleton.1 hs]; exact hz
theorem Qtd {σ:Type} {fits:σ→Bool} {add:σ→σ} {z:σ} {out:List σ} {f:σ→List Int} {i:Int} (ha:∀ s,f (add s)=f s++[i]) (hz:f z=[]):((nxG fits add z out).map f).flatten=(out.map f).flatten++[i]:=by
 unfold nxG
 split
 · rename_i x hx
   cases fits x
   · rw [cond_false,List.map_append,List.flatten_append]
     simp [ha,hz]
   · rw [cond_true]
     have hne:out≠[]:=by intro e; rw [e] at hx; simp at hx
     have e:out=out.dropLast++[x]:=by
      have h1:=List.dropLast_concat_getLast hne
      rw [List.getLast?_eq_some_getLast hne] at hx
      rw [Option.some.inj hx] at h1
      exact h1.symm
     obtain ⟨d,hd⟩:∃ d,out=d++[x]:=⟨_,e⟩
     rw [hd]
     simp [ha]
 · rename_i hx
   have:out=[]:=List.getLast?_eq_none_iff.1 hx
   subst this
   simp [ha,hz]
def mxI (a b:Int):Int:=if a>b then a else b
theorem Qu2 (a b:Int):a≤mxI a b∧b≤mxI a b∧(mxI a b=a∨mxI a b=b):=by unfold mxI; split <;> omega
def zBx:Box:=⟨0,0,0,0⟩
def bxA (l:List Box) (i:Int):Box:=(ix l i).getD zBx
def zSh:Shelf:=⟨[],0,0,0,0⟩
def Qq3 (s:Shelf) (i:Int) (b:Box):Shelf:=⟨s.f9++[i],s.fW+b.fW,mxI s.fD b.fD,mxI s.fH b.fH,s.fQ+b.fQ⟩
def Q8j (p:Pallet) (b:Box) (s:Shelf):Bool:=decide (s.fW+b.fW≤p.fW)&&decide (s.fQ+b.fQ≤p.fQ)
def shS (p:Pallet) (l:List Box) (out:List Shelf) (i:Int):List Shelf:=nxG (Q8j p (bxA l i)) (λs=>Qq3 s i (bxA l i)) zSh out
def shM (p:Pallet) (l:List Box):List Shelf:=bif Qzy p l then (srt (dnk (l.map (·.fD))) l.length).foldl (shS p l) [] else []
structure ShI (p:Pallet) (n:Nat) (s:Shelf):Prop where
 ne:s.f9≠[]
 inn:∀ i∈s.f9,0≤i∧i<n
 w:1≤s.fW∧s.fW≤p.fW
 d:1≤s.fD∧s.fD≤p.fD
 h:1≤s.fH∧s.fH≤p.fH
 g:1≤s.fQ∧s.fQ≤p.fQ
theorem Qyu {p:Pallet} {l:List Box} (h:Qzy p l=true) {i:Int} (hi:0≤i∧i<l.length):ix l i=some (bxA l i)∧(1≤(bxA l i).fW∧(bxA l i).fW≤p.fW)∧(1≤(bxA l i).fD∧(bxA l i).fD≤p.fD)∧(1≤(bxA l i).fH∧(bxA l i).fH≤p.fH)∧(1≤(bxA l i).fQ∧(bxA l i).fQ≤p.fQ):=by
 obtain ⟨x,hx⟩:=Q39 (l:=l) hi.1 hi.2
 have e:bxA l i=x:=by unfold bxA; rw [hx]; rfl
 unfold Qzy at h
 simp only [Bool.and_eq_true] at h
 have:=List.all_eq_true.1 h.2 x (Qgb hx)
 simp only [Jcm,Bool.and_eq_true,Qcu] at this
 rw [e]
 exact ⟨hx,this.1,this.2.1,this.2.2.1,this.2.2.2⟩
theorem Qu0 {p:Pallet} (h:Qv7 p=true):(1≤p.fW∧p.fW≤2000)∧(1≤p.fD∧p.fD≤2000)∧(1≤p.fH∧p.fH≤2000)∧(1≤p.fQ∧p.fQ≤100000):=by
 simp only [Qv7,Bool.and_eq_true,Qcu] at h
 exact ⟨h.1,h.2.1,h.2.2.1,h.2.2.2⟩
theorem Qyn {p:Pallet} {l:List Box} (h:Qzy p l=true):Qv7 p=true:=by
 unfold Qzy at h
 simp only [Bool.and_eq_true] at h
 exact h.1
theorem Q59 {p:Pallet} {l:List Box} (hb:Qzy p l=true) {out:List Shelf} {i:Int} (hi:0≤i∧i<l.length) (h:∀ s∈out,ShI p l.length s):∀ s∈shS p l out i,ShI p l.length s:=by
 obtain ⟨_,b1,b2,b3,b4⟩:=Qyu hb hi
 refine Qx9 h (λs hs hf=>?_) ⟨by simp [Qq3],λj hj=>?_,?_,?_,?_,?_⟩
 · unfold Q8j at hf
   simp only [Bool.and_eq_true,decide_eq_true_eq] at hf
   obtain ⟨s1,s2,s3,s4,s5,s6⟩:=hs
   have m1:=Qu2 s.fD (bxA l i).fD
   have m2:=Qu2 s.fH (bxA l i).fH
   refine ⟨by simp [Qq3],λj hj=>?_,?_,?_,?_,?_⟩
   · simp only [Qq3,List.mem_append,List.mem_singleton] at hj
     rcases hj with hj | rfl
     · exact s2 j hj
     · exact hi
   · simp only [Qq3]; omega
   · simp only [Qq3]; omega
   · simp only [Qq3]; omega
   · simp only [Qq3]; omega
 · simp only [Qq3,zSh,List.nil_append,List.mem_singleton] at hj
   rw [hj]; exact hi
 · simp only [Qq3,zSh]; omega
 · have:=Qu2 0 (bxA l i).fD
   simp only [Qq3,zSh]; omega
 · have:=Qu2 0 (bxA l i).fH
   simp only [Qq3,zSh]; omega
 · simp only [Qq3,zSh]; omega
theorem Q9c {p:Pallet} {l:List Box} (hb:Qzy p l=true):∀ (is:List Int) (out:List Shelf),(∀ i∈is,0≤i∧i<l.length)→(∀ s∈out,ShI p l.length s)→(∀ s∈is.foldl (shS p l) out,ShI p l.length s)∧((is.foldl (shS p l) out).map (·.f9)).flatten=(out.map (·.f9)).flatten++is∧(is.foldl (shS p l) out).length≤out.length+is.length
 | [],out,_,h=>⟨h,by simp,by simp⟩
 | i::is,out,hi,h=>by
  rw [List.foldl_cons]
  obtain ⟨h1,h2,h3⟩:=Q9c hb is (shS p l out i) (λj hj=>hi j (by simp [hj])) (Q59 hb (hi i (by simp)) h)
  have h4:((shS p l out i).map (·.f9)).flatten=(out.map (·.f9)).flatten++[i]:=Qtd (λs=>rfl) rfl
  have h5:(shS p l out i).length≤out.length+1:=Quv _ _ _ _
  refine ⟨h1,by rw [h2,h4]; simp,by simp; omega⟩
theorem Q0k {p:Pallet} {l:List Box} (hb:Qzy p l=true):(∀ s∈shM p l,ShI p l.length s)∧((shM p l).map (·.f9)).flatten=srt (dnk (l.map (·.fD))) l.length∧(shM p l).length≤l.length:=by
 unfold shM
 rw [hb,cond_true]
 obtain ⟨h1,h2,h3⟩:=Q9c hb (srt (dnk (l.map (·.fD))) l.length) [] (λi hi=>Qx1.1 hi) (by simp)
 refine ⟨h1,by simpa using h2,?_⟩
 rw [Qt5] at h3
 simpa using h3
theorem Jik {fu:Nat} (s:Shelf) (i:Int) (b:Box) (hl:s.f9.length≤1000000) (h1:-1000000000≤s.fW+b.fW∧s.fW+b.fW≤1000000000) (h2:-1000000000≤s.fQ+b.fQ∧s.fQ+b.fQ≤1000000000):Qhi fu s i b=some (Qq3 s i b):=by
 unfold Qhi
 rw [ap1 (by simp; omega),Qab,ap1 (by simp; omega),Qab,Jc4,Qab,Jc4,Qab,Qbe (by omega) (by omega),Qbe (by omega) (by omega)]
 rfl
theorem Qsi {σ:Type} (f:σ→List Int):∀ (l:List σ) (s:σ),s∈l→(f s).length≤((l.map f).flatten).length
 | [],_,h=>by simp at h
 | x::l,s,h=>by
  simp only [List.map_cons,List.flatten_cons,List.length_append]
  rcases List.mem_cons.1 h with rfl | h
  · omega
  · have:=Qsi f l s h; omega
theorem Ja9 {fu:Nat} (hfu:2097153≤fu) (p:Pallet) (l:List Box) (hl:l.length≤1000):Qp8 fu p l=some (shM p l):=by
 unfold Qp8 shM
 rw [Jjf p l (by omega) (by omega),Qab]
 cases hb:Qzy p l
 · rfl
 · rw [Bool.not_true,cond_false,cond_true]
   have key:=lpI l (λn (o:List Int) i=>Qhe fu p l n o i) (λxs o=>Qac (Qhp fu (o++xs.map (·.fD))) λx=>Qeu fu p l x fu [] 0) (λxs o=>o.length+xs.length≤1000) (by omega) ?_ ?_ fu [] (by simp; omega) (by omega)
   · rw [key,List.nil_append,Jec hfu (by simp; omega),Qab,List.length_map]
     have hsl:=Qt5 (dnk (l.map (·.fD))) l.length
     have hsm:=λx=>Qx1 (k:=dnk (l.map (·.fD))) (n:=l.length) (x:=x)
     generalize srt (dnk (l.map (·.fD))) l.length=S at hsl hsm ⊢
     have L1:=lpI S (λn (o:List Shelf) i=>Qeu fu p l S n o i) (λxs o=>some (xs.foldl (shS p l) o)) (λxs o=>(∀ i∈xs,0≤i∧i<l.length)∧(∀ s∈o,ShI p l.length s)∧((o.map (·.f9)).flatten).length+xs.length≤1000∧o.length+xs.length≤1000) (by omega) ?_ ?_ fu [] ⟨λi hi=>(hsm i).1 hi,by simp,by simp; omega,by simp; omega⟩ (by omega)
     · exact L1
     · intro n o i x xs hx hd hI ih
       obtain ⟨i1,i2,i3,i4⟩:=hI
       simp only [List.length_cons] at i3 i4
       have hxi:=i1 x (by simp)
       obtain ⟨hbx,b1,b2,b3,b4⟩:=Qyu hb hxi
       obtain ⟨p1,p2,p3,p4⟩:=Qu0 (Qyn hb)
       have hn:Qhi fu zSh x (bxA l x)=some (Qq3 zSh x (bxA l x)):=Jik zSh x _ (by simp [zSh]) (by simp [zSh]; omega) (by simp [zSh]; omega)
       have hn':Qhi fu (⟨[],0,0,0,0⟩:Shelf) x (bxA l x)=some (Qq3 zSh x (bxA l x)):=hn
       have hflat:((shS p l o x).map (·.f9)).flatten=(o.map (·.f9)).flatten++[x]:=Qtd (λs=>rfl) rfl
       have hlen:(shS p l o x).length≤o.length+1:=Quv _ _ _ _
       have ih':=ih (shS p l o x) ⟨λj hj=>i1 j (by simp [hj]),Q59 hb hxi i2,by rw [hflat,List.length_append,List.length_singleton]; omega,by omega⟩
       simp only [Qeu.eq_2]
       unfold Ql5 Qg5
       rw [hd,cond_true,hx,Qab,hbx,Qab,List.foldl_cons,← ih',hn',Qab]
       by_cases he:o=[]
       · subst he
         rw [Qaw (by simp),Qab,ap1 (by simp),Qab]; rfl
       · obtain ⟨s,e1,e2⟩:=Qvi he
         have hp:=List.length_pos_iff.2 he
         have hsm':=List.mem_of_getLast? e1
         have hs:=i2 s hsm'
         have hsl':=Qsi (λs:Shelf=>s.f9) o s hsm'
         rw [Qbe (n:=(o.length:Int) - 1) (by omega) (by omega),e2,Qab,Qbj (by simp; omega)]
         obtain ⟨s1,s2,s3,s4,s5,s6⟩:=hs
         rw [Qbe (n:=s.fW+_) (by omega) (by omega),Qbe (n:=s.fQ+_) (by omega) (by omega),Qab,Qab,Qab,Jik (fu:=fu) s x (bxA l x) (by omega) (by omega) (by omega)]
         simp only [Qab]
         rw [ap1 (by simp; omega),Qab]
         have eS:shS p l o x=bif Q8j p (bxA l x) s then o.set (o.length - 1) (Qq3 s x (bxA l x)) else o++[Qq3 zSh x (bxA l x)]:=Qv4 e1
         rw [eS]
         unfold Q8j
         rw [show Qg2 o ((o.length:Int) - 1) (Qq3 s x (bxA l x))=o.set (o.length - 1) (Qq3 s x (bxA l x)) by unfold Qg2; congr 1; omega]
         cases decide (s.fW+(bxA l x).fW≤p.fW) <;> cases decide (s.fQ+(bxA l x).fQ≤p.fQ) <;> rfl
     · intro n o i hd _
       simp only [Qeu.eq_2]
       unfold Ql5
       rw [hd,cond_false]; rfl
   · intro n o i x xs hx hd hI ih
     simp only [List.length_cons] at hI
     simp only [Qhe.eq_2]
     unfold Ql1
     rw [hd,cond_true,hx,Qab,ap1 (by simp; omega),Qab,ih _ (by simp; omega)]
     simp
   · intro n o i hd _
     simp only [Qhe.eq_2]
     unfold Ql1
     rw [hd,cond_false]; simp
end Go.Proofs.YtpcmapfabndggaaGreatDoor
