/- PlannedBP: plain lem.. -/
import Derived.Test.YtpcmapfabndggaaGreatDoorPlannedBP1
set_option linter.unusedSimpArgs false
set_option linter.unusedVariables false
namespace Go.Proofs.YtpcmapfabndggaaGreatDoor
open Go
open Enc (rd ow)
open Arg (argv)
open Ret (retv)
open Wf (wf)
theorem Q5l (r:Request) (u:Int):0≤(Qu0 r u).fQ∧(Qu0 r u).fQ≤100000:=by
 unfold Qu0
 cases hm:Qz1 r u with
 | none=>simp [Q8m]
 | some x=>exact Q4j (r:=r) (us:=[u]) (by simp [Qyz,List.filterMap_cons,hm])
theorem Jlg {fu:Nat} {r:Request} (h:Sm fu r) (us:List Int) (hl:us.length≤1048576) (hf:us.length<fu):Qr5 fu r us=some (Qxr r us):=by
 unfold Qr5
 rw [Jkl h,Qab]
 have key:=lpI us (λn s i=>Qfb fu r us (Qja r) n s i) (λl n=>some (n+Qxr r l)) (λl n=>0≤n∧n+100000*l.length≤100000*1048576) (by omega) ?_ ?_ fu 0 ⟨by omega,by omega⟩ hf
 · simpa using key
 · intro n s i x xs hx hd hI ih
   simp only [Qfb.eq_2]
   unfold Qns Qq1 Qqv
   simp only [hd,cond_true,hx,Qab,Q9d]
   have hv:=Q5l r x
   have h2:=hI.2
   simp only [List.length_cons] at h2
   rw [Qbe (by omega) (by omega),ih _ ⟨by omega,by omega⟩]
   congr 1
   have e:Qxr r (x::xs)=(Qu0 r x).fQ+Qxr r xs:=by
    unfold Qxr Qyz Qu0
    cases hm:Qz1 r x with
    | none=>simp [List.filterMap_cons,hm,Q8m]
    | some y=>simp [List.filterMap_cons,hm]
   rw [e]
   omega
 · intro n s i hd _
   simp only [Qfb.eq_2]
   unfold Qns
   simp only [hd,cond_false]
   simp [Qxr,Qyz]
theorem Jh6 {fu:Nat} {r:Request} (h:Sm fu r) (us:List Int) (hl:us.length≤1048576) (hf:us.length<fu):Qo6 fu r us=some (Qxr r us):=by
 unfold Qo6
 rw [Q3a h us hl hf,Qab]
 have hlen:=Qxk r us
 have key:=lpI (Qyz r us) (λn s i=>Qhy fu (Qyz r us) n s i) (λl n=>some (n+Qsp (l.map (·.fQ)))) (λl n=>0≤n∧n+100000*l.length≤100000*1048576∧∀ x∈l,0≤x.fQ∧x.fQ≤100000) (by omega) ?_ ?_ fu 0 ⟨by omega,by omega,λx hx=>Q4j hx⟩ (by omega)
 · simpa [Qxr] using key
 · intro n s i x xs hx hd hI ih
   simp only [Qhy.eq_2]
   unfold Qn3
   simp only [hd,cond_true,hx,Qab]
   have hv:=hI.2.2 x (by simp)
   have h2:=hI.2.1
   simp only [List.length_cons] at h2
   rw [Qbe (by omega) (by omega),ih _ ⟨by omega,by omega,λy hy=>hI.2.2 y (by simp [hy])⟩]
   simp only [List.map_cons,Qf0]
   congr 1
   omega
 · intro n s i hd _
   simp only [Qhy.eq_2]
   unfold Qn3
   simp only [hd,cond_false]
   simp
theorem Jc2 (r:Request) (x:Int) (xs:List Int):Qxw r (x::xs)=Jat (Qu0 r x)+Qxw r xs:=by
 unfold Qxw Qyz Qu0
 cases hm:Qz1 r x with
 | none=>simp [List.filterMap_cons,hm,Jd5]
 | some y=>simp [List.filterMap_cons,hm]
theorem Q7b (r:Request) (x:Int) (xs:List Int):Qxr r (x::xs)=(Qu0 r x).fQ+Qxr r xs:=by
 unfold Qxr Qyz Qu0
 cases hm:Qz1 r x with
 | none=>simp [List.filterMap_cons,hm,Q8m]
 | some y=>simp [List.filterMap_cons,hm]
theorem Jb9 {fu:Nat} (r:Request) (us:List Int) (hl:us.length≤1048576) (hf:us.length<fu):Qq4 fu r (Qja r) us=some ⟨Qxw r us,Qxr r us⟩:=by
 unfold Qq4
 have key:=lpI us (λn s i=>Qhi fu r (Qja r) us n s i) (λl s=>some (⟨s.fvol+Qxw r l,s.fgram+Qxr r l⟩:L7))
  (λl s=>0≤s.fvol∧s.fvol+8000000000*l.length≤8000000000*1048576∧0≤s.fgram∧s.fgram+100000*l.length≤100000*1048576) (by omega) ?_ ?_ fu ⟨0,0⟩ ⟨by simp,by simp; omega,by simp,by simp; omega⟩ hf
 · simpa using key
 · intro n s i x xs hx hd hI ih
   simp only [Qhi.eq_2]
   unfold Qqz Qst Qso
   simp only [hd,cond_true,hx,Qab,Q9d,Jgf]
   have hv:=Jch (Qu0 r x).fW (Qu0 r x).fH (Qu0 r x).fD
   have hg:=Q5l r x
   obtain ⟨a1,a2,a3,a4⟩:=hI
   simp only [List.length_cons] at a2 a4
   rw [Qbe (n:=s.fvol+_) (by omega) (by omega),Qbe (n:=s.fgram+_) (by omega) (by omega),ih _ ⟨by simp; omega,by simp; omega,by simp; omega,by simp; omega⟩,Jc2,Q7b,show Q8t (Qu0 r x).fW (Qu0 r x).fH (Qu0 r x).fD=Jat (Qu0 r x) from rfl]
   simp only [Option.some.injEq,L7.mk.injEq]
   constructor <;> omega
 · intro n s i hd _
   simp only [Qhi.eq_2]
   unfold Qqz
   simp only [hd,cond_false]
   simp [Qxw,Qxr,Qyz]
def Q1h (r:Request) (us:List Int) (t:Typ):Bool:=decide (Qxw r us≤Jcn t)&&decide (Qxr r us≤t.fQ)
theorem Q63 {fu:Nat} (r:Request) (t:Typ) (us:List Int) (u:Int) (hl:us.length<1048576) (hf:us.length+1<fu):Qps fu r (Qja r) t us u=some (Q1h r (us++[u]) t):=by
 unfold Qps Qqy Q1h
 rw [ap1 (by simp; omega),Qab,List.nil_append,ap1 (by simp; omega),Qab,Jb9 r _ (by simp; omega) (by simp; omega),Qab,Jgf,Qab]
 show (bif decide (Qxw r (us++[u])≤Jcn t) then _ else _)=_
 cases decide (Qxw r (us++[u])≤Jcn t) <;> simp
theorem Q73 {fu:Nat} {r:Request} (h:Sm fu r) (t:Typ) (us:List Int) (hl:us.length≤1048576):Qo9 fu r us t=some (Q1h r us t):=by
 have hfu:=h.fu
 unfold Qo9 Q1h
 rw [Jbl h us hl (by omega),Qab,Jiy,Qab,Jh6 h us hl (by omega)]
 show (bif decide (Qxw r us≤Jcn t) then _ else _)=_
 cases decide (Qxw r us≤Jcn t) <;> simp
theorem Jeq {r:Request}:(Qzh (Qty r r.fP)).1=Qxv r:=rfl
theorem Jcm {fu:Nat} {r:Request} (h:Sm fu r) (us:List Int) (u:Int) (hl:us.length<1048576):Qsk fu r us u=some (Qhg r==0&&Q1h r (us++[u]) (Qxv r)):=by
 have hfu:=h.fu
 unfold Qsk Qdc
 rw [Jgq h,Qab,Qux h,Qab]
 cases hc:Qhg r==0
 · rfl
 · rw [cond_true,ap1 (by simp; omega),Qab,Qab,List.nil_append,ap1 (by simp; omega),Qab,Q73 h _ _ (by simp; omega)]
   rfl
def Qvp (r:Request) (us:List Int):List Int:=us.filter λu=>inb u 0 (((Qja r).length:Int) - 1)
def Jjk (a b:List Int):Bool:=decide ((a.mergeSort λx y=>decide (x≤y))=b.mergeSort λx y=>decide (x≤y))
theorem Jdm {a b:List Int}:Jjk a b=true↔a.Perm b:=by
 unfold Jjk
 rw [decide_eq_true_iff]
 constructor
 · intro h
   have h1:=List.mergeSort_perm a λx y=>decide (x≤y)
   rw [h] at h1
   exact h1.symm.trans (List.mergeSort_perm b _)
 · intro h
   exact Q9v (((List.mergeSort_perm a _).trans h).trans (List.mergeSort_perm b _).symm) (Qq7 a) (Qq7 b)
theorem Q6b {fu:Nat} {r:Request} (h:Sm fu r) (us:List Int) (hl:us.length≤1048576):Qji fu r us=some (Qvp r us):=by
 have hfu:=h.fu
 unfold Qji Qdc Qvp
 rw [Ja6 h,Qab,ap1 (by simp; omega),Qab,Qab,List.nil_append,Jhr _ (λu=>!inb u 0 (((Qja r).length:Int) - 1)) ?_ hl (by omega),Qab]
 · simp
 · intro u _
   unfold Qqq
   rw [Q4m,Q42,Qab]
theorem Ja1 {fu:Nat} {r:Request} (h:Sm fu r) (us:List Int) (hl:us.length≤1048576):Qnh fu (Qja r) us=some (Qvp r us):=by
 have hfu:=h.fu
 unfold Qnh Qvp
 have:=lpI us (λn out i=>Qfr fu (Qja r) us n out i) (λxs out=>some (out++xs.filter λu=>inb u 0 (((Qja r).length:Int) - 1))) (λxs out=>out.length+xs.length≤1048576) (by omega) ?_ ?_ fu [] (by simpa using hl) (by omega)
 · simpa using this
 · intro n out i x xs hx hd hI ih
   simp only [List.length_cons] at hI
   simp only [Qfr.eq_2]
   unfold Ql4 Qkr
   rw [hd,cond_true,hx,Qab,Q4m,Q32,Qab,Qab,List.filter_cons]
   cases hb:inb x 0 (((Qja r).length:Int) - 1)
   · rw [cond_false,ih _ (by omega)]; simp
   · rw [cond_true,ap1 (by simp; omega),Qab,ih _ (by simp; omega)]; simp
 · intro n out i hd hI
   simp only [Qfr.eq_2]
   unfold Ql4
   simp only [hd,cond_false]
   simp
theorem Q9m:∀ (a b:List Int),a.length=b.length→((a.zip b).all λp=>p.1==p.2)=decide (a=b)
 | [],[],_=>rfl
 | [],_::_,h=>by simp at h
 | _::_,[],h=>by simp at h
 | x::a,y::b,h=>by
  rw [List.zip_cons_cons,List.all_cons,Q9m a b (by simpa using h)]
  by_cases hx:x=y <;> simp [hx]
theorem Jfg {fu:Nat} (a b:List Int) (hl:a.length≤1048576) (hf:a.length<fu):Qg1 fu a b=some (decide (a=b)):=by
 unfold Qg1
 by_cases h:a.length=b.length
 · rw [Qau (by simp [h])]
   have hz:(a.zip b).length=a.length:=by rw [List.length_zip]; omega
   have:=lp (a.zip b) (λn (_:Unit) i=>Qda fu a b n i) (λl _=>some (l.all λp=>p.1==p.2)) (by omega) ?_ ?_ fu () (by omega)
   · rw [Q9m a b h] at this
     exact this
   · intro n _ i p xs hp hd ih
     obtain ⟨h1,_,h2⟩:=Qal hp
     rw [List.getElem?_zip_eq_some] at h2
     rw [hz] at hd
     have e1:ix a i=some p.1:=by unfold ix; rw [if_pos h1]; exact h2.1
     have e2:ix b i=some p.2:=by unfold ix; rw [if_pos h1]; exact h2.2
     simp only [Qda.eq_2]
     unfold Qf8
     rw [hd,cond_true,e1,Qab,e2,Qab,ih (),List.all_cons]
     by_cases hx:p.1=p.2
     · rw [Qau (by simp [hx])]; simp [hx]
     · rw [Qbj (by simpa using hx)]; simp [hx]
   · intro n _ i hd
     rw [hz] at hd
     simp only [Qda.eq_2]
     unfold Qf8
     simp [hd]
 · rw [Qbj (by simp; omega)]
   have:a≠b:=λe=>h (by rw [e])
   simp [this]
theorem Q2t {xs:List Int} (h:xs.length≤1048576):Q3i xs=some (xs.mergeSort λx y=>decide (x≤y)):=by
 unfold Q3i
 rw [if_pos (by omega)]
theorem Qw5 (r:Request) (us:List Int):(Qvp r us).length≤us.length:=List.length_filter_le _ _
def Jdy (r:Request) (u:Int):Int:=(Qu0 r u).fL
def Q2m (r:Request) (c:List Int):Bool:=c.all λx=>c.all λy=>Qt1 r.fT (Jdy r x) (Jdy r y)
theorem Q1d {r:Request} {us:List Int} {u:Int} (h:u∈Qvp r us):0≤u∧u<(Qja r).length:=by
 unfold Qvp at h
 have:=(List.mem_filter.1 h).2
 rw [Qcu] at this
 omega
theorem Qvc {r:Request} {u:Int} (h:0≤u∧u<(Qja r).length):Qz1 r u=some (Qu0 r u):=by
 obtain ⟨_,x,_,_,hx⟩:=Q6v h
 unfold Qu0
 rw [hx]; rfl
theorem Q25 {r:Request}:∀ {l:List Int},(∀ u∈l,0≤u∧u<(Qja r).length)→Qyz r l=l.map (Qu0 r)
 | [],_=>rfl
 | u::l,h=>by
  have ih:=Q25 (r:=r) (l:=l) λv hv=>h v (by simp [hv])
  unfold Qyz at ih ⊢
  rw [List.filterMap_cons,Qvc (h u (by simp)),ih,List.map_cons]
theorem Jfx {α:Type} (l:List α) (L:Nat→Int→Option Bool) (g:α→Bool) (fin:Option Bool) (hl:l.length≤1099511627776)
    (hs:∀ n (i:Int) x,ix l i=some x→decide (i<(l.length:Int))=true→L (n+1) i=bif g x then L n (w64 (i+1)) else some false)
    (he:∀ n (i:Int),decide (i<(l.length:Int))=false→L (n+1) i=fin):∀ n,l.length<n→L n 0=bif l.all g then fin else some false:=by
 intro n hn
 refine lp l (λn (_:Unit) i=>L n i) (λxs _=>bif xs.all g then fin else some false) hl ?_ ?_ n () hn
 · intro n s i x xs hx hd ih
   rw [hs n i x hx hd,ih (),List.all_cons]
   cases g x <;> rfl
 · intro n s i hd
   rw [he n i hd]; rfl
structure Sep (p:List Pair) (P:List Int) (out:List (List Int)):Prop where
 ne:∀ g∈out,g≠[]
 inn:∀ g∈out,∀ x∈g,x∈P
 one:∀ g∈out,∀ x∈g,∀ y∈g,x≠y→Qyg p x y=true
 two:∀ (i j:Nat) (g h:List Int),out[i]? = some g→out[j]? = some h→i≠j→∀ x∈g,∀ y∈h,Qyg p x y=false
theorem Q3w {α:Type} {p q:α→Bool}:∀ {l:List α},(∀ x∈l,p x=q x)→l.all p=l.all q
 | [],_=>rfl
 | x::xs,h=>by rw [List.all_cons,List.all_cons,h x (by simp),Q3w λy hy=>h y (by simp [hy])]
def uOk (r:Request) (t:Typ) (u:Int):Bool:=(Qz1 r u).isSome&&Q17 (Qu0 r u) t
def Qzj (r:Request) (us:List Int) (t:Typ):Bool:=Qhg r==0&&(us.all (uOk r t)&&Q1h r us t)
theorem Qxz {r:Request} {u:Int}:(Qz1 r u).isSome=true↔0≤u∧u<(Qja r).length:=by
 constructor
 · intro h
   apply Decidable.byContradiction
   intro hn
   rw [Q29 hn] at h
   cases h
 · intro h
   rw [Qvc h]; rfl
theorem Jak {fu:Nat} {r:Request} (h:Sm fu r) (us:List Int) (t:Typ) (hl:us.length≤1048576):Qra fu r us t=some (Qzj r us t):=by
 have hfu:=h.fu
 have hil:=Qxk r us
 unfold Qra Qzj
 rw [Qux h,Qab]
 cases hc:Qhg r==0
 · rfl
 · rw [Bool.not_true,cond_false,Q6b h us hl,Qab,Bool.true_and]
   by_cases ha:∀ u∈us,0≤u∧u<(Qja r).length
   · have e:Qvp r us=us:=List.filter_eq_self.2 λu hu=>by have:=ha u hu; simp; omega
     have e0:((us.length:Int) != (us.length:Int))=false:=by simp
     rw [e,e0,cond_false]
     unfold Qrp
     rw [Q3a h us hl (by omega),Qab,Qxf _ (λx=>!Q17 x t) ?_ (by omega) (by omega),Qab]
     · rw [Q73 h t us hl,Qab,Q25 ha,List.any_map]
       have e1:us.all (uOk r t)=!(us.any ((λx=>!Q17 x t) ∘ Qu0 r)):=by
        rw [List.not_any_eq_all_not]
        apply Q3w
        intro u hu
        simp only [uOk,Qxz.2 (ha u hu),Bool.true_and,Function.comp,Bool.not_not]
       rw [e1]
       cases us.any ((λx=>!Q17 x t) ∘ Qu0 r) <;> simp
     · intro x _
       unfold Qsu
       rw [Jhs,Qab]
   · have hlt:(Qvp r us).length<us.length:=by
       apply Decidable.byContradiction
       intro hn
       apply ha
       have e:(us.filter λu=>inb u 0 (((Qja r).length:Int) - 1)).length=us.length:=by
        have:=List.length_filter_le (λu=>inb u 0 (((Qja r).length:Int) - 1)) us
        have e':Qvp r us=us.filter λu=>inb u 0 (((Qja r).length:Int) - 1):=rfl
        rw [e'] at hn
        omega
       intro u hu
       have:=List.length_filter_eq_length_iff.1 e u hu
       simp at this
       omega
     have e0:(((Qvp r us).length:Int) != (us.length:Int))=true:=by simp; omega
     rw [e0,cond_true]
     have e1:us.all (uOk r t)=false:=by
      apply Bool.eq_false_iff.2
      intro he
      apply ha
      intro u hu
      have:=List.all_eq_true.1 he u hu
      simp only [uOk,Bool.and_eq_true] at this
      exact Qxz.1 this.1
     rw [e1,Bool.false_and]
theorem Jg0 {fu:Nat} {r:Request} (h:Sm fu r) (us:List Int) (t:Typ) (hl:us.length≤1048576):Qsz fu r us t=some (Qzj r us t):=by
 have hfu:=h.fu
 unfold Qsz Qzj
 rw [Q35 h,Qab]
 cases hc:Qhg r==0
 · have:(Qhg r != 0)=true:=by simp only [bne,hc]; rfl
   rw [this]; rfl
 · have:(Qhg r != 0)=false:=by simp only [bne,hc]; rfl
   have hz:Qhg r=0:=by simpa using hc
   have hu:Qdk fu r=some (Qja r):=Jhx h hz
   rw [this,cond_false,hu,Qab,Bool.true_and]
   have key:=lp us (λn (_:Unit) i=>Qgf fu r us t (Qja r) n i) (λl _=>some (l.all (uOk r t)&&Q1h r us t)) (by omega) ?_ ?_ fu () (by omega)
   · exact key
   · intro n _ i x xs hx hd ih
     simp only [Qgf.eq_2]
     unfold Qo3 Qsd Qr6
     simp only [hd,cond_true,hx,Qab,Q9d,ih (),List.all_cons,uOk]
     cases (Qz1 r x).isSome
     · rfl
     · simp only [Bool.not_true,cond_false,Jgi (show 2097153≤fu by omega),Qab]
       cases Q17 (Qu0 r x) t <;> rfl
   · intro n _ i hd
     simp only [Qgf.eq_2]
     unfold Qo3 Qrq
     simp only [hd,cond_false,Jb9 r us hl (show us.length<fu by omega),Qab,Jgf]
     show (bif decide (Qxw r us≤Jcn t) then _ else _)=_
     unfold Q1h
     cases decide (Qxw r us≤Jcn t) <;> simp
def chp (r:Request) (us:List Int) (s:Typ×Bool) (t:Typ):Typ×Bool :=
 bif Qzj r us t&&(!s.2||(decide (t.fK<s.1.fK)||(t.fK==s.1.fK&&decide (t.qQ<s.1.qQ)))) then (t,true) else s
def Qwy (r:Request) (us:List Int):Typ×Bool:=r.fR.foldl (chp r us) (Jh9,false)
theorem Jax {fu:Nat} {r:Request} (h:Sm fu r) (us:List Int) (hl:us.length≤1048576):Qki fu r us=some (Qwy r us):=by
 have hfu:=h.fu
 have ht:=h.types
 unfold Qki
 have key:=lp r.fR (λn (s:Typ×Bool) i=>Qe5 fu r us n s.1 s.2 i) (λl s=>some (l.foldl (chp r us) s)) (by omega) ?_ ?_ fu (Jh9,false) (by omega)
 · exact key
 · intro n s i x xs hx hd ih
   simp only [Qe5.eq_2]
   unfold Qjw Qea
   have ih':=λa b=>ih (a,b)
   simp only at ih'
   obtain ⟨b,f⟩:=s
   simp only [hd,cond_true,hx,Qab,Jak h us x hl,ih',List.foldl_cons,chp]
   cases Qzj r us x <;> cases f <;> cases decide (x.fK<b.fK) <;> cases x.fK==b.fK <;> cases decide (x.qQ<b.qQ) <;> rfl
 · intro n s i hd
   simp only [Qe5.eq_2]
   unfold Qjw
   simp only [hd,cond_false]
   rfl
theorem Jfs {fu:Nat} {r:Request} (h:Sm fu r) (us:List Int) (hl:us.length≤1048576):Qot fu r us=some (Qwy r us):=by
 have hfu:=h.fu
 have ht:=h.types
 unfold Qot
 have key:=lp r.fR (λn (s:Typ×Bool) i=>Qe6 fu r us n s.1 s.2 i) (λl s=>some (l.foldl (chp r us) s)) (by omega) ?_ ?_ fu (Jh9,false) (by omega)
 · exact key
 · intro n s i x xs hx hd ih
   simp only [Qe6.eq_2]
   unfold Qjv Qef
   have ih':=λa b=>ih (a,b)
   simp only at ih'
   obtain ⟨b,f⟩:=s
   simp only [hd,cond_true,hx,Qab,Jg0 h us x hl,ih',List.foldl_cons,chp]
   cases Qzj r us x <;> cases f <;> cases decide (x.fK<b.fK) <;> cases x.fK==b.fK <;> cases decide (x.qQ<b.qQ) <;> rfl
 · intro n s i hd
   simp only [Qe6.eq_2]
   unfold Qjv
   simp only [hd,cond_false]
   rfl
theorem Q4w {fu:Nat} {r:Request} (h:Sm fu r) (id:Int):Qke fu r id=some (Qzh (Qty r id)):=by
 have hfu:=h.fu
 have ht:=h.types
 unfold Qke Qty
 refine lp r.fR (λn (_:Unit) i=>Qge fu r id n i) (λl _=>some (Qzh (l.find? λt=>t.qQ==id))) (by omega) ?_ ?_ fu () (by omega)
 · intro n s i x xs hx hd ih
   simp only [Qge.eq_2]
   unfold Qjq
   simp only [hd,cond_true,hx,Qab,ih (),List.find?_cons]
   cases x.qQ==id <;> rfl
 · intro n s i hd
   simp only [Qge.eq_2]
   unfold Qjq
   simp only [hd,cond_false]
   rfl
def Jlw:Box:=⟨0,0,0,0⟩
def Q8w (r:Request) (x:Carton):Int:=match Qty r x.qJ with
 | some t=>bif Qhg r==0 then t.ft+Qxr r x.fO else 0
 | none=>0
def Qs5 (r:Request) (x:Carton):Box:=match Qty r x.qJ with
 | some t=>bif Qhg r==0 then ⟨t.fW,t.fD,t.fH,t.ft+Qxr r x.fO⟩ else Jlw
 | none=>Jlw
theorem Jjd {r:Request} (hc:Qhg r=0) {id:Int} {t:Typ} (ht:Qty r id=some t):Q2w t=true∧t∈r.fR∧t.qQ=id:=by
 have hm:=List.mem_of_find?_eq_some ht
 have hp:=List.find?_some ht
 exact ⟨Qw1 (Qez hc).1 t hm,hm,by simpa using hp⟩
theorem Jb1 {r:Request} (hc:Qhg r=0) {id:Int} {t:Typ} (ht:Qty r id=some t):0≤t.ft∧t.ft≤100000:=by
 have:=(Jjd hc ht).1
 simp only [Q2w,Bool.and_eq_true,Qcu] at this
 omega
theorem Q7o {r:Request} (hc:Qhg r=0) {id:Int} {t:Typ} (ht:Qty r id=some t) (us:List Int) (hl:us.length≤1048576):w64 (t.ft+Qxr r us)=t.ft+Qxr r us:=by
 have h1:=Jb1 hc ht
 have h2:=Q53 r us
 exact Qbe (by omega) (by omega)
theorem Jbb {fu:Nat} {r:Request} (h:Sm fu r) (x:Carton) (hl:x.fO.length≤1048576):Qrc fu r x=some (Q8w r x):=by
 have hfu:=h.fu
 unfold Qrc Q8w
 rw [Qw7 h,Qab,Q2r]
 cases ht:Qty r x.qJ with
 | none=>rfl
 | some t =>
  rw [Qux h]
  simp only [Option.isSome_some,Bool.not_true,cond_false,Qab]
  cases hc:Qhg r==0
  · rfl
  · have hc':Qhg r=0:=by simpa using hc
    unfold Qrx
    rw [Jh6 h _ hl (by omega)]
    simp only [Bool.not_true,cond_false,cond_true,Qab,Qzh,Q7o hc' ht _ hl]
theorem Jgz {fu:Nat} {r:Request} (h:Sm fu r) (x:Carton) (hl:x.fO.length≤1048576):Qsw fu r x=some (Q8w r x):=by
 have hfu:=h.fu
 unfold Qsw Q8w
 rw [Q4w h,Qab,Q2r,Q35 h,Qab]
 cases hc:Qhg r==0
 · have:(Qhg r != 0)=true:=by simp only [bne,hc]; rfl
   rw [this]
   cases Qty r x.qJ <;> rfl
 · have hc':Qhg r=0:=by simpa using hc
   rw [show (Qhg r != 0)=false by simp [hc'],cond_false]
   cases ht:Qty r x.qJ with
   | none=>rfl
   | some t =>
    unfold Qrw
    rw [Jlg h _ hl (by omega)]
    simp only [Option.isSome_some,Bool.not_true,cond_false,cond_true,Qab,Qzh,Q7o hc' ht _ hl]
theorem Je4 {fu:Nat} {r:Request} (h:Sm fu r) (x:Carton) (hl:x.fO.length≤1048576):Qq6 fu r x=some (Qs5 r x):=by
 unfold Qq6 Qs5
 rw [Qw7 h,Qab,Q2r]
 cases ht:Qty r x.qJ with
 | none=>rfl
 | some t =>
  rw [Qux h]
  simp only [Option.isSome_some,Bool.not_true,cond_false,Qab]
  cases hc:Qhg r==0
  · rfl
  · unfold Qrs
    rw [Jbb h x hl]
    simp only [Q8w,ht,hc,Bool.not_true,cond_false,cond_true,Qab,Qzh]
theorem Jh3 {fu:Nat} {r:Request} (h:Sm fu r) (x:Carton) (hl:x.fO.length≤1048576):Qsv fu r x=some (Qs5 r x):=by
 unfold Qsv Qs5
 rw [Q4w h,Qab,Q2r,Q35 h,Qab]
 cases hc:Qhg r==0
 · have:(Qhg r != 0)=true:=by simp only [bne,hc]; rfl
   rw [this]
   cases Qty r x.qJ <;> rfl
 · have hc':Qhg r=0:=by simpa using hc
   rw [show (Qhg r != 0)=false by simp [hc'],cond_false]
   cases ht:Qty r x.qJ with
   | none=>rfl
   | some t =>
    unfold Qrm
    rw [Jgz h x hl]
    simp only [Q8w,ht,hc,Option.isSome_some,Bool.not_true,cond_false,cond_true,Qab,Qzh]
def Jct (b:Box) (s:Spot):Bool:=inb b.fW 0 2000&&(inb b.fD 0 2000&&(inb b.fH 0 2000&&(inb s.fX 0 2000&&(inb s.fY 0 2000&&inb s.fZ 0 2000))))
def Jh8 (p:Pallet) (b:Box) (s:Spot):Bool :=
 Jct b s&&(decide (b.fW>0)&&(decide (b.fD>0)&&(decide (b.fH>0)&&(decide (w64 (s.fX+b.fW)≤p.fW)&&(decide (w64 (s.fY+b.fD)≤p.fD)&&decide (w64 (s.fZ+b.fH)≤p.fH))))))
def Jfe (a la b lb:Int):Bool:=decide (a<w64 (b+lb))&&decide (b<w64 (a+la))
def Jis (a:Box) (s:Spot) (b:Box) (t:Spot):Bool :=
 Jct a s&&(Jct b t&&(s.fJ==t.fJ&&(Jfe s.fX a.fW t.fX b.fW&&(Jfe s.fY a.fD t.fY b.fD&&Jfe s.fZ a.fH t.fZ b.fH))))
theorem Q55 (fu:Nat) (n:Int):Qck fu n=some (inb n 0 2000):=by unfold Qck; rw [Q42]; rfl
theorem Jla (fu:Nat) (b:Box) (s:Spot):Qpj fu b s=some (Jct b s):=by
 unfold Qpj Jct
 simp only [Q55,Qab]
 cases inb b.fW 0 2000 <;> cases inb b.fD 0 2000 <;> cases inb b.fH 0 2000 <;> cases inb s.fX 0 2000 <;> cases inb s.fY 0 2000 <;> cases inb s.fZ 0 2000 <;> rfl
theorem Jdv (n:Int):inb n 1 2000=(inb n 0 2000&&decide (n>0)):=by
 apply Bool.eq_iff_iff.2
 simp only [Qcu,Bool.and_eq_true,decide_eq_true_eq]
 omega
theorem Jj1 (fu:Nat) (p:Pallet) (b:Box) (s:Spot):Qrg fu p b s=some (Jh8 p b s):=by
 unfold Qrg Qqn Jh8 Jct
 simp only [Q55,Q8i,Qab,Jdv]
 cases inb b.fW 0 2000 <;> cases inb b.fD 0 2000 <;> cases inb b.fH 0 2000 <;> cases inb s.fX 0 2000 <;> cases inb s.fY 0 2000 <;> cases inb s.fZ 0 2000 <;> simp
 all_goals cases decide (0<b.fW) <;> cases decide (0<b.fD) <;> cases decide (0<b.fH) <;> simp
 all_goals cases decide (w64 (s.fX+b.fW)≤p.fW) <;> cases decide (w64 (s.fY+b.fD)≤p.fD) <;> simp
theorem Jjr (fu:Nat) (a la b lb:Int):Qoi fu a la b lb=some (Jfe a la b lb):=by
 unfold Qoi Jfe
 cases decide (a<w64 (b+lb)) <;> rfl
theorem Jk0 (fu:Nat) (a:Box) (s:Spot) (b:Box) (t:Spot):Qqm fu a s b t=some (Jis a s b t):=by
 unfold Qqm Qpc Jis
 simp only [Jla,Jjr,Qab,bne]
 cases Jct a s <;> cases Jct b t <;> cases s.fJ==t.fJ <;> cases Jfe s.fX a.fW t.fX b.fW <;> cases Jfe s.fY a.fD t.fY b.fD <;> rfl
def Q33 (n:Int) (s:Spot):Int:=bif inb s.fJ 0 999999 then (if s.fJ+1>n then s.fJ+1 else n) else n
def Qzp (l:List Spot):Int:=l.foldl Q33 0
theorem Jfi {n:Int} (s:Spot) (h:0≤n∧n≤1000000):0≤Q33 n s∧Q33 n s≤1000000:=by
 unfold Q33
 cases hi:inb s.fJ 0 999999
 · exact h
 · have:=Qcu.1 hi
   simp only [cond_true]
   split <;> omega
theorem Ja4:∀ (l:List Spot) {n:Int},0≤n∧n≤1000000→0≤l.foldl Q33 n∧l.foldl Q33 n≤1000000
 | [],_,h=>h
 | s::l,_,h=>Ja4 l (Jfi s h)
theorem Q6m (l:List Spot):0≤Qzp l∧Qzp l≤1000000:=Ja4 l (by omega)
theorem Jex {fu:Nat} {l:List Spot} (hl:l.length≤1048576) (hf:l.length<fu):Qjj fu l=some (Qzp l):=by
 unfold Qjj
 have key:=lp l (λn (s:Int) i=>Qfp fu l n s i) (λl s=>some (l.foldl Q33 s)) (by omega) ?_ ?_ fu 0 hf
 · exact key
 · intro n s i x xs hx hd ih
   simp only [Qfp.eq_2]
   unfold Qlv Qkf
   simp only [hd,cond_true,hx,Qab,Q42,ih,List.foldl_cons]
   unfold Q33
   cases hi:inb x.fJ 0 999999
   · rfl
   · have:=Qcu.1 hi
     simp only [cond_true]
     rw [Qbe (by omega) (by omega)]
 · intro n s i hd
   simp only [Qfp.eq_2]
   unfold Qlv
   simp only [hd,cond_false]
   rfl
theorem Jc8 (fu:Nat) (a b:Int):Qk1 fu a b=some (if a>b then a else b):=by
 unfold Qk1
 by_cases h:a>b
 · simp [h]
 · simp [h]
theorem Jho {fu:Nat} {l:List Spot} (hl:l.length≤1048576) (hf:l.length<fu):Qql fu l=some (Qzp l):=by
 unfold Qql
 have key:=lp l (λn (s:Int) i=>Qfx fu l n s i) (λl s=>some (l.foldl Q33 s)) (by omega) ?_ ?_ fu 0 hf
 · exact key
 · intro n s i x xs hx hd ih
   simp only [Qfx.eq_2]
   unfold Qk4 Qkx
   simp only [hd,cond_true,hx,Qab,Q32,Jc8,ih,List.foldl_cons]
   unfold Q33
   cases hi:inb x.fJ 0 999999
   · rfl
   · have:=Qcu.1 hi
     simp only [cond_true]
     rw [Qbe (by omega) (by omega)]
     congr 2
     split <;> split <;> omega
 · intro n s i hd
   simp only [Qfx.eq_2]
   unfold Qk4
   simp only [hd,cond_false]
   rfl
def Jei (g:List Int→Bool) (out:List (List Int)) (u:Int):List (List Int):=match Qxb g out with
 | some i=>match out[i]? with
  | some x=>out.set i (x++[u])
  | none=>out
 | none=>out++[[u]]
def Q36 (r:Request) (u:Int) (l:List Int):Bool:=Q1h r (l++[u]) (Qxv r)
def Jg8 (r:Request) (out:List (List Int)) (u:Int):List (List Int):=Jei (Q36 r u) out u
def Q68 (r:Request) (out:List (List Int)) (u:Int):List (List Int):=match out.getLast? with
 | some l=>bif Q36 r u l then out.set (out.length - 1) (l++[u]) else out++[[u]]
 | none=>[[u]]
theorem Qw9 {r:Request} {out:List (List Int)} {l:List Int} (u:Int) (h:out.getLast? = some l):Q68 r out u=bif Q36 r u l then out.set (out.length - 1) (l++[u]) else out++[[u]]:=by unfold Q68; rw [h]
def Jed (r:Request) (us:List Int):List Int:=(srt (dnk (us.map λu=>Qxw r [u])) us.length).map λp=>(ix us p).getD 0
def nfM (r:Request) (us:List Int):List (List Int):=(Qvp r us).foldl (Q68 r) []
def ffM (r:Request) (us:List Int):List (List Int):=(Jed r (Qvp r us)).foldl (Jg8 r) []
def pwM (r:Request) (us:List Int):List (List Int):=bif r.qY==1 then nfM r us else ffM r us
theorem Q6f {g:List Int→Bool} {out:List (List Int)} {n:Nat} (u:Int) (h:okG n out):okG (n+1) (Jei g out u):=by
 obtain ⟨h1,h2⟩:=h
 unfold Jei
 split
 · rename_i i hi
   split
   · rename_i x hx
     refine ⟨by simp; omega,λl hl=>?_⟩
     rcases List.mem_or_eq_of_mem_set hl with hl | rfl
     · have:=h2 l hl; omega
     · have:=h2 x (List.mem_of_getElem? hx); simp; omega
   · exact ⟨by omega,λl hl=>by have:=h2 l hl; omega⟩
 · refine ⟨by simp; omega,λl hl=>?_⟩
   rcases List.mem_append.1 hl with hl | hl
   · have:=h2 l hl; omega
   · rw [List.mem_singleton.1 hl]; simp
theorem Q6k {r:Request} {out:List (List Int)} {n:Nat} (u:Int) (h:okG n out):okG (n+1) (Q68 r out u):=by
 obtain ⟨h1,h2⟩:=h
 unfold Q68
 split
 · rename_i x hx
   have hm:=List.mem_of_getLast? hx
   cases Q36 r u x
   · refine ⟨by simp; omega,λl hl=>?_⟩
     rcases List.mem_append.1 hl with hl | hl
     · have:=h2 l hl; omega
     · rw [List.mem_singleton.1 hl]; simp
   · refine ⟨by simp; omega,λl hl=>?_⟩
     rcases List.mem_or_eq_of_mem_set hl with hl | rfl
     · have:=h2 l hl; omega
     · have:=h2 x hm; simp; omega
 · exact ⟨by simp,λl hl=>by rw [List.mem_singleton.1 hl]; simp⟩
theorem Q56 {F:List (List Int)→Int→List (List Int)} (hF:∀ out n u,okG n out→okG (n+1) (F out u)):∀ (l:List Int) {out:List (List Int)} {n:Nat},okG n out→okG (n+l.length) (l.foldl F out)
 | [],_,_,h=>h
 | u::l,out,n,h=>by
  have:=Q56 hF l (hF out n u h)
  rw [List.foldl_cons,List.length_cons,show n+(l.length+1)=n+1+l.length by omega]
  exact this
theorem Jin {r:Request} {us:List Int} (h:us.length≤12):(Qvp r us).length≤12:=Nat.le_trans (Qw5 r us) h
theorem Jdz (r:Request) (us:List Int):(Jed r us).length=us.length:=by simp [Jed,Qt6]
theorem Q79 {r:Request} {us:List Int} (h:us.length≤12):okG 12 (pwM r us):=by
 have ht:=Jin (r:=r) h
 have h0:okG 0 ([]:List (List Int)):=⟨by simp,by simp⟩
 unfold pwM
 cases r.qY==1
 · have:=Q56 (F:=Jg8 r) (λout n u ho=>Q6f u ho) (Jed r (Qvp r us)) h0
   rw [Jdz] at this
   exact ⟨by have:=this.1; simp only [cond_false]; unfold ffM; omega,λl hl=>by have:=this.2 l hl; omega⟩
 · have:=Q56 (F:=Q68 r) (λout n u ho=>Q6k u ho) (Qvp r us) h0
   exact ⟨by have:=this.1; simp only [cond_true]; unfold nfM; omega,λl hl=>by have:=this.2 l hl; omega⟩
theorem Q96 {g:List Int→Bool} {out:List (List Int)} {c:Int} {n:Nat} (h:okG n out) (hn:n≤1048576) {β:Type} (k:List (List Int)→Option β) (a:Int) (ha:a=match Qxb g out with | some i=>(i:Int) | none=>-1) :
    (bif (decide (a<0)) then Qac (Qg4 24 out [([c]:List Int)]) λx=>k x else Qac (ix out a) λx=>Qac (Qg4 8 x (([c]:List Int))) λy=>Qac (ix out a) λz=>k (Qhe out a y))=k (Jei g out c):=by
 obtain ⟨h1,h2⟩:=h
 unfold Jei
 cases hf:Qxb g out with
 | none =>
  rw [hf] at ha
  simp only at ha
  subst ha
  rw [Qbj (by simp),ap1 (by simp; omega),Qab]
 | some i =>
  rw [hf] at ha
  simp only at ha
  subst ha
  obtain ⟨x,hx,_⟩:=Quv hf
  have:=h2 x (List.mem_of_getElem? hx)
  rw [Qau (by simp),Qi4,hx,Qab,ap1 (by simp; omega),Qab,Qab]
  simp [Qhe,hx]
theorem Q3c {r:Request} (h:(Qhg r==0)=false) (us:List Int):Qvp r us=[]:=by
 unfold Qvp Qja
 rw [h]
 apply List.filter_eq_nil_iff.2
 intro u _
 simp; omega
theorem Jdx {fu:Nat} {r:Request} (h:Sm fu r) (hc:Qhg r=0):Qdk fu r=some (Qja r):=Jhx h hc
theorem Qvm {α:Type} {out:List α} (h:out≠[]):∃ l,out.getLast? = some l∧ix out ((out.length:Int) - 1)=some l:=by
 cases hl:out.getLast? with
 | none=>exact absurd (List.getLast?_eq_none_iff.1 hl) h
 | some l =>
  have hp:=List.length_pos_iff.2 h
  refine ⟨l,rfl,?_⟩
  rw [show (out.length:Int) - 1=((out.length - 1:Nat):Int) by omega,Qi4,← List.getLast?_eq_getElem?,hl]
theorem Jhw {fu:Nat} {r:Request} (h:Sm fu r) (us:List Int) (hl:us.length≤1048575):Qqk fu r us=some (nfM r us):=by
 have hfu:=h.fu
 have htl:=Qw5 r us
 unfold Qqk nfM
 rw [Q6b h us (by omega),Qab]
 cases hc:Qhg r==0
 · rw [Q3c hc]
   obtain ⟨m,rfl⟩:∃ m,fu=m+1:=⟨fu - 1,by omega⟩
   rw [Qew.eq_2]; rfl
 · have key:=lpI (Qvp r us) (λn (o:List (List Int)) i=>Qew fu r (Qvp r us) n o i) (λxs o=>some (xs.foldl (Q68 r) o)) (λxs o=>∃ m,m+xs.length≤1048575∧okG m o) (by omega) ?_ ?_ fu [] ⟨0,by omega,by simp,by simp⟩ (by omega)
   · exact key
   · intro n o i u xs hx hd hI ih
     obtain ⟨m,hm,ho⟩:=hI
     simp only [List.length_cons] at hm
     have h1:=ho.1
     have h2:=ho.2
     have hI':=ih (Q68 r o u) ⟨m+1,by omega,Q6k u ho⟩
     simp only [Qew.eq_2]
     unfold Qmh Qid
     rw [hd,cond_true,hx,Qab,List.foldl_cons,← hI',Qbe (by omega) (by omega)]
     by_cases he:o=[]
     · subst he
       rw [decide_eq_false (by simp),cond_false,ap1 (by simp),Qab]; rfl
     · obtain ⟨l,e1,e2⟩:=Qvm he
       have hp:=List.length_pos_iff.2 he
       have hll:=h2 l (List.mem_of_getLast? e1)
       rw [decide_eq_true (by omega),cond_true,e2,Qab,Jcm h l u (by omega),Qab,hc,Bool.true_and]
       rw [Qw9 u e1]
       unfold Q36
       cases Q1h r (l++[u]) (Qxv r)
       · rw [cond_false,cond_false,ap1 (by simp; omega),Qab]
       · rw [cond_true,cond_true,Qab,ap1 (by simp; omega),Qab,Qab]
         rw [show Qhe o ((o.length:Int) - 1) (l++[u])=o.set (o.length - 1) (l++[u]) by unfold Qhe; congr 1; omega]
   · intro n o i hd _
     simp only [Qew.eq_2]
     unfold Qmh
     rw [hd,cond_false]; rfl
theorem Jhh {fu:Nat} {r:Request} (h:Sm fu r) (us:List Int) (hl:us.length≤1048575):Qqg fu r us=some (nfM r us):=by
 have hfu:=h.fu
 have htl:=Qw5 r us
 unfold Qqg nfM
 rw [Q35 h,Qab]
 cases hc:Qhg r==0
 · rw [show (Qhg r != 0)=true by simp only [bne,hc]; rfl,cond_true,Q3c hc]; rfl
 · have hz:Qhg r=0:=by simpa using hc
   rw [show (Qhg r != 0)=false by simp [hz],cond_false,Jdx h hz,Qab,Ja1 h us (by omega),Qab]
   unfold Qte
   rw [Jbg h,Qab,Jdx h hz,Qab]
   have key:=lpI (Qvp r us) (λn (o:List (List Int)) i=>Qgq fu r (Qvp r us) (Qzh (Qty r r.fP)) (Qja r) n o i) (λxs o=>some (xs.foldl (Q68 r) o)) (λxs o=>∃ m,m+xs.length≤1048575∧okG m o) (by omega) ?_ ?_ fu [] ⟨0,by omega,by simp,by simp⟩ (by omega)
   · rw [key]; rfl
   · intro n o i u xs hx hd hI ih
     obtain ⟨m,hm,ho⟩:=hI
     simp only [List.length_cons] at hm
     have h1:=ho.1
     have h2:=ho.2
     have hI':=ih (Q68 r o u) ⟨m+1,by omega,Q6k u ho⟩
     simp only [Qgq.eq_2]
     unfold Qn4 Qiu
     rw [hd,cond_true,List.foldl_cons,← hI',Qbe (by omega) (by omega)]
     by_cases he:o=[]
     · subst he
       rw [decide_eq_false (by simp),cond_false,hx,Qab,ap1 (by simp),Qab]; rfl
     · obtain ⟨l,e1,e2⟩:=Qvm he
       have hp:=List.length_pos_iff.2 he
       have hll:=h2 l (List.mem_of_getLast? e1)
       rw [decide_eq_true (by omega),cond_true,e2,Qab,hx,Qab,Jeq,Q63 r _ l u (by omega) (by omega),Qab]
       rw [Qw9 u e1]
       unfold Q36
       cases Q1h r (l++[u]) (Qxv r)
       · rw [cond_false,cond_false,Qab,ap1 (by simp; omega),Qab]
       · rw [cond_true,cond_true,Qab,Qab,ap1 (by simp; omega),Qab,Qab]
         rw [show Qhe o ((o.length:Int) - 1) (l++[u])=o.set (o.length - 1) (l++[u]) by unfold Qhe; congr 1; omega]
   · intro n o i hd _
     simp only [Qgq.eq_2]
     unfold Qn4
     rw [hd,cond_false]; rfl
theorem Q99 {us:List Int} {p:Int} (h:0≤p∧p<us.length):ix us p=some ((ix us p).getD 0):=by
 have:=Qzw (l:=us) (i:=p.toNat) (by omega)
 rw [show ((p.toNat:Nat):Int)=p by omega] at this
 rw [this]; rfl
theorem Qyd {α β γ:Type} (f:γ→β→γ) (g:α→β):∀ (l:List α) (s:γ),(l.map g).foldl f s=l.foldl (λs x=>f s (g x)) s
 | [],_=>rfl
 | x::l,s=>by rw [List.map_cons,List.foldl_cons,List.foldl_cons,Qyd f g l]
theorem Jgx {fu:Nat} {r:Request} (h:Sm fu r) (us:List Int) (hl:us.length<20):Qoj fu r us=some (ffM r us):=by
 have hfu:=h.fu
 have htl:=Qw5 r us
 unfold Qoj ffM Jed
 rw [Q6b h us (by omega),Qab]
 obtain ⟨t,ht⟩:∃ t,t=Qvp r us:=⟨_,rfl⟩
 rw [← ht] at htl ⊢
 have key:=lpI t (λn (o:List Int) i=>Qgh fu r t n o i) (λxs o=>Qac (Qho fu (o++xs.map λu=>Qxw r [u])) λx=>Qc4 fu r t x fu [] 0) (λxs o=>o.length+xs.length≤20) (by omega) ?_ ?_ fu [] (by simp; omega) (by omega)
 · rw [key,List.nil_append,Jet hfu (by simp; omega),Qab,Qyd,List.length_map]
   have hsl:=Qt6 (dnk (t.map λu=>Qxw r [u])) t.length
   have hsm:=λx=>Qyj (k:=dnk (t.map λu=>Qxw r [u])) (n:=t.length) (x:=x)
   generalize srt (dnk (t.map λu=>Qxw r [u])) t.length=S at hsl hsm ⊢
   cases hc:Qhg r==0
   · have:t=[]:=by rw [ht]; exact Q3c hc us
     subst this
     have:S=[]:=List.length_eq_zero_iff.1 (by simpa using hsl)
     subst this
     obtain ⟨m,rfl⟩:∃ m,fu=m+1:=⟨fu - 1,by omega⟩
     rw [Qc4.eq_2]; rfl
   · have key1:=lpI S (λn (o:List (List Int)) i=>Qc4 fu r t S n o i) (λxs o=>some (xs.foldl (λs p=>Jg8 r s ((ix t p).getD 0)) o)) (λxs o=>(∃ m,m+xs.length≤20∧okG m o)∧∀ p∈xs,0≤p∧p<t.length) (by omega) ?_ ?_ fu [] ⟨⟨0,by omega,by simp,by simp⟩,λp hp=>(hsm p).1 hp⟩ (by omega)
     · exact key1
     · intro n o i p xs hx hd hI ih
       obtain ⟨⟨m,hm,ho⟩,hin⟩:=hI
       simp only [List.length_cons] at hm
       have hp:=Q99 (hin p (by simp))
       simp only [Qc4.eq_2]
       unfold Qjs Qjb
       rw [hd,cond_true,hx,Qab,hp,Qab,List.foldl_cons]
       generalize (ix t p).getD 0=u
       rw [Q5n (λy=>Qkw fu y r u) (Q36 r u) (λl hl=>by
        have:=ho.2 l hl
        unfold Qkw Q36
        rw [Jcm h l u (by omega),Qab,hc,Bool.true_and]) (by have:=ho.1; omega) (by have:=ho.1; omega),Qab]
       refine (Q96 (g:=Q36 r u) (c:=u) ho (by omega) (λx=>Qc4 fu r t S n x (w64 (i+1))) (Qyi (Q36 r u) o 0) (by
        rw [Q3v]
        cases Qxb (Q36 r u) o <;> simp)).trans ?_
       exact ih _ ⟨⟨m+1,by omega,Q6f u ho⟩,λq hq=>hin q (by simp [hq])⟩
     · intro n o i hd _
       simp only [Qc4.eq_2]
       unfold Qjs
       rw [hd,cond_false]; rfl
 · intro n o i u xs hx hd hI ih
   simp only [List.length_cons] at hI
   simp only [Qgh.eq_2]
   unfold Qjx
   rw [hd,cond_true,hx,Qab,Jbl h [u] (by simp) (by simp; omega),Qab,ap1 (by simp; omega),Qab,ih _ (by simp; omega)]
   simp
 · intro n o i hd _
   simp only [Qgh.eq_2]
   unfold Qjx
   rw [hd,cond_false]; simp
theorem Jge {fu:Nat} {r:Request} (h:Sm fu r) (us:List Int) (hl:us.length<20):Qow fu r us=some (ffM r us):=by
 have hfu:=h.fu
 have htl:=Qw5 r us
 unfold Qow ffM Jed
 rw [Q35 h,Qab]
 cases hc:Qhg r==0
 · rw [show (Qhg r != 0)=true by simp only [bne,hc]; rfl,cond_true,Q3c hc]; rfl
 · have hz:Qhg r=0:=by simpa using hc
   rw [show (Qhg r != 0)=false by simp [hz],cond_false,Jdx h hz,Qab,Ja1 h us (by omega),Qab]
   unfold Qsq
   rw [Jbg h,Qab,Jdx h hz,Qab]
   generalize Qvp r us=t at htl ⊢
   have key:=lpI t (λn (o:List Int) i=>Qg3 fu r t (Qzh (Qty r r.fP)) (Qja r) n o i) (λxs o=>Qac (Qhl fu (o++xs.map λu=>Qxw r [u])) λx=>Qc2 fu r t (Qzh (Qty r r.fP)) (Qja r) x fu [] 0) (λxs o=>o.length+xs.length≤20) (by omega) ?_ ?_ fu [] (by simp; omega) (by omega)
   · rw [key,List.nil_append,Jen hfu (by simp; omega),Qab,Qyd,List.length_map]
     have hsl:=Qt6 (dnk (t.map λu=>Qxw r [u])) t.length
     have hsm:=λx=>Qyj (k:=dnk (t.map λu=>Qxw r [u])) (n:=t.length) (x:=x)
     generalize srt (dnk (t.map λu=>Qxw r [u])) t.length=S at hsl hsm ⊢
     have key1:=lpI S (λn (o:List (List Int)) i=>Qc2 fu r t (Qzh (Qty r r.fP)) (Qja r) S n o i) (λxs o=>some (xs.foldl (λs p=>Jg8 r s ((ix t p).getD 0)) o)) (λxs o=>(∃ m,m+xs.length≤20∧okG m o)∧∀ p∈xs,0≤p∧p<t.length) (by omega) ?_ ?_ fu [] ⟨⟨0,by omega,by simp,by simp⟩,λp hp=>(hsm p).1 hp⟩ (by omega)
     · rw [key1]; rfl
     · intro n o i p xs hx hd hI ih
       obtain ⟨⟨m,hm,ho⟩,hin⟩:=hI
       simp only [List.length_cons] at hm
       have hp:=Q99 (hin p (by simp))
       have ho1:=ho.1
       simp only [Qc2.eq_2]
       unfold Qmc
       rw [hd,cond_true,hx,Qab,hp,Qab,List.foldl_cons]
       generalize (ix t p).getD 0=u
       obtain ⟨K,hK⟩:∃ K,K=Qc2 fu r t (Qzh (Qty r r.fP)) (Qja r) S n:=⟨_,rfl⟩
       rw [← hK] at ih ⊢
       obtain ⟨R,hR⟩:∃ R:Int→Option (List (List Int)),R=λa=>bif (decide (a<0)) then Qac (Qg4 24 o [([u]:List Int)]) λx=>K x (w64 (i+1)) else Qac (ix o a) λx=>Qac (Qg4 8 x (([u]:List Int))) λy=>Qac (ix o a) λz=>K (Qhe o a y) (w64 (i+1)):=⟨_,rfl⟩
       have hD:=lpD o.length (λn a j=>Qfq fu K r (Qzh (Qty r r.fP)) (Qja r) o i u n a j) (λxs a=>R (xs.foldl (Jef (Q36 r u) o) a)) (by omega) ?_ ?_ fu (-1) (by omega)
       · rw [hD,hR]
         refine (Q96 (g:=Q36 r u) (c:=u) ho (by omega) (λx=>K x (w64 (i+1))) _ ?_).trans (ih _ ⟨⟨m+1,by omega,Q6f u ho⟩,λq hq=>hin q (by simp [hq])⟩)
         rw [Q0o (Q36 r u) o o.length (-1) (Nat.le_refl _),List.take_length]
         cases Qxb (Q36 r u) o <;> rfl
       · intro n a j xs h0 h1 hd ih
         simp only [Qfq.eq_2]
         unfold Qlo Qkm
         obtain ⟨j,rfl⟩:∃ q:Nat,j=q:=⟨j.toNat,by omega⟩
         have hj:j<o.length:=by omega
         have hg:=ho.2 _ (List.getElem_mem hj)
         rw [hd,cond_true,Qzw hj,Qab,Jeq,Q63 r _ _ u (by omega) (by omega),Qab]
         have e:Jef (Q36 r u) o a (j:Int)=bif Q1h r (o[j]++[u]) (Qxv r) then (j:Int) else a:=by unfold Jef atB Q36; rw [Qzw hj]
         simp only [ih,List.foldl_cons,e]
         cases Q1h r (o[j]++[u]) (Qxv r) <;> rfl
       · intro n a j hd
         simp only [Qfq.eq_2]
         unfold Qlo Qkz
         rw [hd,cond_false,hR]; rfl
     · intro n o i hd _
       simp only [Qc2.eq_2]
       unfold Qmc
       rw [hd,cond_false]; rfl
   · intro n o i u xs hx hd hI ih
     simp only [List.length_cons] at hI
     obtain ⟨i0,i1,i2⟩:=Qal hx
     have e:sls t i (w64 (i+1))=some [u]:=by
      rw [Qbe (by omega) (by omega),Quo (by omega)]
      congr 1
      rw [show (i+1).toNat - i.toNat=1 by omega]
      have hlt:=(List.getElem?_eq_some_iff.1 i2).1
      have heq:=(List.getElem?_eq_some_iff.1 i2).2
      rw [List.drop_eq_getElem_cons hlt,heq]; rfl
     simp only [Qg3.eq_2]
     unfold Qme
     rw [hd,cond_true,e,Qab,Jb9 r [u] (by simp) (by simp; omega),Qab,ap1 (by simp; omega),Qab,ih _ (by simp; omega)]
     simp
   · intro n o i hd _
     simp only [Qg3.eq_2]
     unfold Qme
     rw [hd,cond_false]; simp
theorem Jlb {fu:Nat} {r:Request} (h:Sm fu r) (us:List Int) (hl:us.length<20):Qp7 fu r us=some (pwM r us):=by
 unfold Qp7 pwM
 rw [Jhw h us (by omega),Jgx h us hl]
 cases r.qY==1 <;> rfl
theorem Jkj {fu:Nat} {r:Request} (h:Sm fu r) (us:List Int) (hl:us.length<20):Qp4 fu r us=some (pwM r us):=by
 unfold Qp4 pwM
 rw [Jhh h us (by omega),Jge h us hl]
 cases r.qY==1 <;> rfl
theorem Q3k {α:Type} {l:List α} {i:Int} (h0:0≤i) (h1:i<l.length):∃ x,ix l i=some x:=by
 obtain ⟨j,rfl⟩:∃ j:Nat,i=j:=⟨i.toNat,by omega⟩
 exact ⟨_,Qzw (by omega)⟩
def Jco (p:Pallet) (b:Box):Bool:=inb b.fW 1 p.fW&&(inb b.fD 1 p.fD&&(inb b.fH 1 p.fH&&inb b.fQ 1 p.fQ))
def Qzt (p:Pallet) (l:List Box):Bool:=Qv8 p&&l.all (Jco p)
theorem Ji7 {fu:Nat} (p:Pallet) (l:List Box) (hl:l.length≤1048576) (hf:l.length<fu):Qnf fu p l=some (Qzt p l):=by
 unfold Qnf Qzt
 rw [Jd7,Qab]
 cases Qv8 p
 · rfl
 · rw [Bool.not_true,cond_false,Bool.true_and]
   have:=Jfx l (λn i=>Qf1 fu p l n i) (Jco p) (some true) (by omega) ?_ ?_ fu hf
   · rw [this]
     cases l.all (Jco p) <;> rfl
   · intro n i x hx hd
     simp only [Qf1.eq_2]
     unfold Qlr Qpe Jco
     simp only [hd,cond_true,hx,Qab,Q32]
     cases inb x.fW 1 p.fW <;> cases inb x.fD 1 p.fD <;> cases inb x.fH 1 p.fH <;> cases inb x.fQ 1 p.fQ <;> rfl
   · intro n i hd
     simp only [Qf1.eq_2]
     unfold Qlr
     rw [hd,cond_false]
def nxG {σ:Type} (fits:σ→Bool) (add:σ→σ) (z:σ) (out:List σ):List σ:=match out.getLast? with
 | some s=>bif fits s then out.set (out.length - 1) (add s) else out++[add z]
 | none=>[add z]
theorem Qv3 {σ:Type} {fits:σ→Bool} {add:σ→σ} {z:σ} {out:List σ} {s:σ} (h:out.getLast? = some s):nxG fits add z out=bif fits s then out.set (out.length - 1) (add s) else out++[add z]:=by unfold nxG; rw [h]
theorem Quk {σ:Type} (fits:σ→Bool) (add:σ→σ) (z:σ) (out:List σ):(nxG fits add z out).length≤out.length+1:=by
 unfold nxG
 split
 · cases fits _ <;> simp
 · simp
theorem Qx2 {σ:Type} {fits:σ→Bool} {add:σ→σ} {z:σ} {out:List σ} {I:σ→Prop} (h:∀ s∈out,I s) (ha:∀ s,I s→fits s=true→I (add s)) (hz:I (add z)):∀ s∈nxG fits add z out,I s:=by
 intro s hs
 unfold nxG at hs
 split at hs
 · rename_i x hx
   have hm:=List.mem_of_getLast? hx
   cases hf:fits x
   · rw [hf,cond_false] at hs
     rcases List.mem_append.1 hs with hs | hs
     · exact h s hs
     · rw [List.mem_singleton.1 hs]; exact hz
   · rw [hf,cond_true] at hs
     rcases List.mem_or_eq_of_mem_set hs with hs | rfl
     · exact h s hs
     · exact ha x (h x hm) hf
 · rw [List.mem_singleton.1 hs]; exact hz
theorem Qtd {σ:Type} {fits:σ→Bool} {add:σ→σ} {z:σ} {out:List σ} {f:σ→List Int} {i:Int} (ha:∀ s,f (add s)=f s++[i]) (hz:f z=[]):((nxG fits add z out).map f).flatten=(out.map f).flatten++[i]:=by
 unfold nxG
 split
 · rename_i x hx
   cases fits x
   · rw [cond_false,List.map_append,List.flatten_append]
     simp [ha,hz]
   · rw [cond_true]
     have hne:out≠[]:=by intro e; rw [e] at hx; simp at hx
     have e:out=out.dropLast++[x]:=by
      have h1:=List.dropLast_concat_getLast hne
      rw [List.getLast?_eq_some_getLast hne] at hx
      rw [Option.some.inj hx] at h1
      exact h1.symm
     obtain ⟨d,hd⟩:∃ d,out=d++[x]:=⟨_,e⟩
     rw [hd]
     simp [ha]
 · rename_i hx
   have:out=[]:=List.getLast?_eq_none_iff.1 hx
   subst this
   simp [ha,hz]
def mxI (a b:Int):Int:=if a>b then a else b
theorem Qu1 (a b:Int):a≤mxI a b∧b≤mxI a b∧(mxI a b=a∨mxI a b=b):=by unfold mxI; split <;> omega
def zBx:Box:=⟨0,0,0,0⟩
def bxA (l:List Box) (i:Int):Box:=(ix l i).getD zBx
def zSh:Shelf:=⟨[],0,0,0,0⟩
def Qq3 (s:Shelf) (i:Int) (b:Box):Shelf:=⟨s.f9++[i],s.fW+b.fW,mxI s.fD b.fD,mxI s.fH b.fH,s.fQ+b.fQ⟩
def Q8k (p:Pallet) (b:Box) (s:Shelf):Bool:=decide (s.fW+b.fW≤p.fW)&&decide (s.fQ+b.fQ≤p.fQ)
def shS (p:Pallet) (l:List Box) (out:List Shelf) (i:Int):List Shelf:=nxG (Q8k p (bxA l i)) (λs=>Qq3 s i (bxA l i)) zSh out
def shM (p:Pallet) (l:List Box):List Shelf:=bif Qzt p l then (srt (dnk (l.map (·.fD))) l.length).foldl (shS p l) [] else []
structure ShI (p:Pallet) (n:Nat) (s:Shelf):Prop where
 ne:s.f9≠[]
 inn:∀ i∈s.f9,0≤i∧i<n
 w:1≤s.fW∧s.fW≤p.fW
 d:1≤s.fD∧s.fD≤p.fD
 h:1≤s.fH∧s.fH≤p.fH
 g:1≤s.fQ∧s.fQ≤p.fQ
theorem Qyy {p:Pallet} {l:List Box} (h:Qzt p l=true) {i:Int} (hi:0≤i∧i<l.length):ix l i=some (bxA l i)∧(1≤(bxA l i).fW∧(bxA l i).fW≤p.fW)∧(1≤(bxA l i).fD∧(bxA l i).fD≤p.fD)∧(1≤(bxA l i).fH∧(bxA l i).fH≤p.fH)∧(1≤(bxA l i).fQ∧(bxA l i).fQ≤p.fQ):=by
 obtain ⟨x,hx⟩:=Q3k (l:=l) hi.1 hi.2
 have e:bxA l i=x:=by unfold bxA; rw [hx]; rfl
 unfold Qzt at h
 simp only [Bool.and_eq_true] at h
 have:=List.all_eq_true.1 h.2 x (Qf7 hx)
 simp only [Jco,Bool.and_eq_true,Qcu] at this
 rw [e]
 exact ⟨hx,this.1,this.2.1,this.2.2.1,this.2.2.2⟩
theorem Qu5 {p:Pallet} (h:Qv8 p=true):(1≤p.fW∧p.fW≤2000)∧(1≤p.fD∧p.fD≤2000)∧(1≤p.fH∧p.fH≤2000)∧(1≤p.fQ∧p.fQ≤100000):=by
 simp only [Qv8,Bool.and_eq_true,Qcu] at h
 exact ⟨h.1,h.2.1,h.2.2.1,h.2.2.2⟩
theorem Qyf {p:Pallet} {l:List Box} (h:Qzt p l=true):Qv8 p=true:=by
 unfold Qzt at h
 simp only [Bool.and_eq_true] at h
 exact h.1
theorem Q6t {p:Pallet} {l:List Box} (hb:Qzt p l=true) {out:List Shelf} {i:Int} (hi:0≤i∧i<l.length) (h:∀ s∈out,ShI p l.length s):∀ s∈shS p l out i,ShI p l.length s:=by
 obtain ⟨_,b1,b2,b3,b4⟩:=Qyy hb hi
 refine Qx2 h (λs hs hf=>?_) ⟨by simp [Qq3],λj hj=>?_,?_,?_,?_,?_⟩
 · unfold Q8k at hf
   simp only [Bool.and_eq_true,decide_eq_true_eq] at hf
   obtain ⟨s1,s2,s3,s4,s5,s6⟩:=hs
   have m1:=Qu1 s.fD (bxA l i).fD
   have m2:=Qu1 s.fH (bxA l i).fH
   refine ⟨by simp [Qq3],λj hj=>?_,?_,?_,?_,?_⟩
   · simp only [Qq3,List.mem_append,List.mem_singleton] at hj
     rcases hj with hj | rfl
     · exact s2 j hj
     · exact hi
   · simp only [Qq3]; omega
   · simp only [Qq3]; omega
   · simp only [Qq3]; omega
   · simp only [Qq3]; omega
 · simp only [Qq3,zSh,List.nil_append,List.mem_singleton] at hj
   rw [hj]; exact hi
 · simp only [Qq3,zSh]; omega
 · have:=Qu1 0 (bxA l i).fD
   simp only [Qq3,zSh]; omega
 · have:=Qu1 0 (bxA l i).fH
   simp only [Qq3,zSh]; omega
 · simp only [Qq3,zSh]; omega
theorem Jbi {p:Pallet} {l:List Box} (hb:Qzt p l=true):∀ (is:List Int) (out:List Shelf),(∀ i∈is,0≤i∧i<l.length)→(∀ s∈out,ShI p l.length s)→(∀ s∈is.foldl (shS p l) out,ShI p l.length s)∧((is.foldl (shS p l) out).map (·.f9)).flatten=(out.map (·.f9)).flatten++is∧(is.foldl (shS p l) out).length≤out.length+is.length
 | [],out,_,h=>⟨h,by simp,by simp⟩
 | i::is,out,hi,h=>by
  rw [List.foldl_cons]
  obtain ⟨h1,h2,h3⟩:=Jbi hb is (shS p l out i) (λj hj=>hi j (by simp [hj])) (Q6t hb (hi i (by simp)) h)
  have h4:((shS p l out i).map (·.f9)).flatten=(out.map (·.f9)).flatten++[i]:=Qtd (λs=>rfl) rfl
  have h5:(shS p l out i).length≤out.length+1:=Quk _ _ _ _
  refine ⟨h1,by rw [h2,h4]; simp,by simp; omega⟩
theorem Qz4 {p:Pallet} {l:List Box} (hb:Qzt p l=true):(∀ s∈shM p l,ShI p l.length s)∧((shM p l).map (·.f9)).flatten=srt (dnk (l.map (·.fD))) l.length∧(shM p l).length≤l.length:=by
 unfold shM
 rw [hb,cond_true]
 obtain ⟨h1,h2,h3⟩:=Jbi hb (srt (dnk (l.map (·.fD))) l.length) [] (λi hi=>Qyj.1 hi) (by simp)
 refine ⟨h1,by simpa using h2,?_⟩
 rw [Qt6] at h3
 simpa using h3
theorem Jid {fu:Nat} (s:Shelf) (i:Int) (b:Box) (hl:s.f9.length≤1000000) (h1:-1000000000≤s.fW+b.fW∧s.fW+b.fW≤1000000000) (h2:-1000000000≤s.fQ+b.fQ∧s.fQ+b.fQ≤1000000000):Qhh fu s i b=some (Qq3 s i b):=by
 unfold Qhh
 rw [ap1 (by simp; omega),Qab,ap1 (by simp; omega),Qab,Jc8,Qab,Jc8,Qab,Qbe (by omega) (by omega),Qbe (by omega) (by omega)]
 rfl
theorem Qsh {σ:Type} (f:σ→List Int):∀ (l:List σ) (s:σ),s∈l→(f s).length≤((l.map f).flatten).length
 | [],_,h=>by simp at h
 | x::l,s,h=>by
  simp only [List.map_cons,List.flatten_cons,List.length_append]
  rcases List.mem_cons.1 h with rfl | h
  · omega
  · have:=Qsh f l s h; omega
theorem Q9e {fu:Nat} (hfu:2097153≤fu) (p:Pallet) (l:List Box) (hl:l.length≤1000):Qpz fu p l=some (shM p l):=by
 unfold Qpz shM
 rw [Ji7 p l (by omega) (by omega),Qab]
 cases hb:Qzt p l
 · rfl
 · rw [Bool.not_true,cond_false,cond_true]
   have key:=lpI l (λn (o:List Int) i=>Qg9 fu p l n o i) (λxs o=>Qac (Qhl fu (o++xs.map (·.fD))) λx=>Qex fu p l x fu [] 0) (λxs o=>o.length+xs.length≤1000) (by omega) ?_ ?_ fu [] (by simp; omega) (by omega)
   · rw [key,List.nil_append,Jen hfu (by simp; omega),Qab,List.length_map]
     have hsl:=Qt6 (dnk (l.map (·.fD))) l.length
     have hsm:=λx=>Qyj (k:=dnk (l.map (·.fD))) (n:=l.length) (x:=x)
     generalize srt (dnk (l.map (·.fD))) l.length=S at hsl hsm ⊢
     have L1:=lpI S (λn (o:List Shelf) i=>Qex fu p l S n o i) (λxs o=>some (xs.foldl (shS p l) o)) (λxs o=>(∀ i∈xs,0≤i∧i<l.length)∧(∀ s∈o,ShI p l.length s)∧((o.map (·.f9)).flatten).length+xs.length≤1000∧o.length+xs.length≤1000) (by omega) ?_ ?_ fu [] ⟨λi hi=>(hsm i).1 hi,by simp,by simp; omega,by simp; omega⟩ (by omega)
     · exact L1
     · intro n o i x xs hx hd hI ih
       obtain ⟨i1,i2,i3,i4⟩:=hI
       simp only [List.length_cons] at i3 i4
       have hxi:=i1 x (by simp)
       obtain ⟨hbx,b1,b2,b3,b4⟩:=Qyy hb hxi
       obtain ⟨p1,p2,p3,p4⟩:=Qu5 (Qyf hb)
       have hn:Qhh fu zSh x (bxA l x)=some (Qq3 zSh x (bxA l x)):=Jid zSh x _ (by simp [zSh]) (by simp [zSh]; omega) (by simp [zSh]; omega)
       have hn':Qhh fu (⟨[],0,0,0,0⟩:Shelf) x (bxA l x)=some (Qq3 zSh x (bxA l x)):=hn
       have hflat:((shS p l o x).map (·.f9)).flatten=(o.map (·.f9)).flatten++[x]:=Qtd (λs=>rfl) rfl
       have hlen:(shS p l o x).length≤o.length+1:=Quk _ _ _ _
       have ih':=ih (shS p l o x) ⟨λj hj=>i1 j (by simp [hj]),Q6t hb hxi i2,by rw [hflat,List.length_append,List.length_singleton]; omega,by omega⟩
       simp only [Qex.eq_2]
       unfold Qli Qhf
       rw [hd,cond_true,hx,Qab,hbx,Qab,List.foldl_cons,← ih',hn',Qab]
       by_cases he:o=[]
       · subst he
         rw [Qau (by simp),Qab,ap1 (by simp),Qab]; rfl
       · obtain ⟨s,e1,e2⟩:=Qvm he
         have hp:=List.length_pos_iff.2 he
         have hsm':=List.mem_of_getLast? e1
         have hs:=i2 s hsm'
         have hsl':=Qsh (λs:Shelf=>s.f9) o s hsm'
         rw [Qbe (n:=(o.length:Int) - 1) (by omega) (by omega),e2,Qab,Qbj (by simp; omega)]
         obtain ⟨s1,s2,s3,s4,s5,s6⟩:=hs
         rw [Qbe (n:=s.fW+_) (by omega) (by omega),Qbe (n:=s.fQ+_) (by omega) (by omega),Qab,Qab,Qab,Jid (fu:=fu) s x (bxA l x) (by omega) (by omega) (by omega)]
         simp only [Qab]
         rw [ap1 (by simp; omega),Qab]
         have eS:shS p l o x=bif Q8k p (bxA l x) s then o.set (o.length - 1) (Qq3 s x (bxA l x)) else o++[Qq3 zSh x (bxA l x)]:=Qv3 e1
         rw [eS]
         unfold Q8k
         rw [show Qhe o ((o.length:Int) - 1) (Qq3 s x (bxA l x))=o.set (o.length - 1) (Qq3 s x (bxA l x)) by unfold Qhe; congr 1; omega]
         cases decide (s.fW+(bxA l x).fW≤p.fW) <;> cases decide (s.fQ+(bxA l x).fQ≤p.fQ) <;> rfl
     · intro n o i hd _
       simp only [Qex.eq_2]
       unfold Qli
       rw [hd,cond_false]; rfl
   · intro n o i x xs hx hd hI ih
     simp only [List.length_cons] at hI
     simp only [Qg9.eq_2]
     unfold Qmk
     rw [hd,cond_true,hx,Qab,ap1 (by simp; omega),Qab,ih _ (by simp; omega)]
     simp
   · intro n o i hd _
     simp only [Qg9.eq_2]
     unfold Qmk
     rw [hd,cond_false]; simp
end Go.Proofs.YtpcmapfabndggaaGreatDoor
