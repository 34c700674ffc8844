/- ExactPackBP: plain l.. -/
import Derived.Test.YtpcmapfabndggaaGreatDoorExactPackBP1
set_option linter.unusedSimpArgs false
set_option linter.unusedVariables false
namespace Go.Proofs.YtpcmapfabndggaaGreatDoor
open Go
open Enc (rd ow)
open Arg (argv)
open Ret (retv)
open Wf (wf)
theorem Q2r (r:Request) (u:Int):0≤(Qvf r u).fQ∧(Qvf r u).fQ≤100000:=by
 unfold Qvf
 cases hm:Q11 r u with
 | none=>simp [Q5z]
 | some x=>exact Q1k (r:=r) (us:=[u]) (by simp [Qwc,List.filterMap_cons,hm])
theorem Jgk {fu:Nat} {r:Request} (h:Sm fu r) (us:List Int) (hl:us.length≤1048576) (hf:us.length<fu):Qqd fu r us=some (Qu6 r us):=by
 unfold Qqd
 rw [Jhk h,Qab]
 have key:=lpI us (λn s i=>Qer fu r us (Qm0 r) n s i) (λl n=>some (n+Qu6 r l)) (λl n=>0≤n∧n+100000*l.length≤100000*1048576) (by omega) ?_ ?_ fu 0 ⟨by omega,by omega⟩ hf
 · simpa using key
 · intro n s i x xs hx hd hI ih
   simp only [Qer.eq_2]
   unfold Qmn Qpp Qpj
   simp only [hd,cond_true,hx,Qab,Q6y]
   have hv:=Q2r r x
   have h2:=hI.2
   simp only [List.length_cons] at h2
   rw [Qa1 (by omega) (by omega),ih _ ⟨by omega,by omega⟩]
   congr 1
   have e:Qu6 r (x::xs)=(Qvf r x).fQ+Qu6 r xs:=by
    unfold Qu6 Qwc Qvf
    cases hm:Q11 r x with
    | none=>simp [List.filterMap_cons,hm,Q5z]
    | some y=>simp [List.filterMap_cons,hm]
   rw [e]
   omega
 · intro n s i hd _
   simp only [Qer.eq_2]
   unfold Qmn
   simp only [hd,cond_false]
   simp [Qu6,Qwc]
theorem Jdy {fu:Nat} {r:Request} (h:Sm fu r) (us:List Int) (hl:us.length≤1048576) (hf:us.length<fu):Qnv fu r us=some (Qu6 r us):=by
 unfold Qnv
 rw [Q3g h us hl hf,Qab]
 have hlen:=Qxc r us
 have key:=lpI (Qwc r us) (λn s i=>Qg3 fu (Qwc r us) n s i) (λl n=>some (n+Qw1 (l.map (·.fQ)))) (λl n=>0≤n∧n+100000*l.length≤100000*1048576∧∀ x∈l,0≤x.fQ∧x.fQ≤100000) (by omega) ?_ ?_ fu 0 ⟨by omega,by omega,λx hx=>Q1k hx⟩ (by omega)
 · simpa [Qu6] using key
 · intro n s i x xs hx hd hI ih
   simp only [Qg3.eq_2]
   unfold Qme
   simp only [hd,cond_true,hx,Qab]
   have hv:=hI.2.2 x (by simp)
   have h2:=hI.2.1
   simp only [List.length_cons] at h2
   rw [Qa1 (by omega) (by omega),ih _ ⟨by omega,by omega,λy hy=>hI.2.2 y (by simp [hy])⟩]
   simp only [List.map_cons,Qrf]
   congr 1
   omega
 · intro n s i hd _
   simp only [Qg3.eq_2]
   unfold Qme
   simp only [hd,cond_false]
   simp
theorem Q9x (r:Request) (x:Int) (xs:List Int):Qwk r (x::xs)=Q59 (Qvf r x)+Qwk r xs:=by
 unfold Qwk Qwc Qvf
 cases hm:Q11 r x with
 | none=>simp [List.filterMap_cons,hm,Q9l]
 | some y=>simp [List.filterMap_cons,hm]
theorem Q32 (r:Request) (x:Int) (xs:List Int):Qu6 r (x::xs)=(Qvf r x).fQ+Qu6 r xs:=by
 unfold Qu6 Qwc Qvf
 cases hm:Q11 r x with
 | none=>simp [List.filterMap_cons,hm,Q5z]
 | some y=>simp [List.filterMap_cons,hm]
theorem Q7t {fu:Nat} (r:Request) (us:List Int) (hl:us.length≤1048576) (hf:us.length<fu):Qpt fu r (Qm0 r) us=some ⟨Qwk r us,Qu6 r us⟩:=by
 unfold Qpt
 have key:=lpI us (λn s i=>Qgp fu r (Qm0 r) us n s i) (λl s=>some (⟨s.fvol+Qwk r l,s.fgram+Qu6 r l⟩:L7))
  (λl s=>0≤s.fvol∧s.fvol+8000000000*l.length≤8000000000*1048576∧0≤s.fgram∧s.fgram+100000*l.length≤100000*1048576) (by omega) ?_ ?_ fu ⟨0,0⟩ ⟨by simp,by simp; omega,by simp,by simp; omega⟩ hf
 · simpa using key
 · intro n s i x xs hx hd hI ih
   simp only [Qgp.eq_2]
   unfold Qpk Qq1 Qq3
   simp only [hd,cond_true,hx,Qab,Q6y,Jcy]
   have hv:=Q7x (Qvf r x).fW (Qvf r x).fH (Qvf r x).fD
   have hg:=Q2r r x
   obtain ⟨a1,a2,a3,a4⟩:=hI
   simp only [List.length_cons] at a2 a4
   rw [Qa1 (n:=s.fvol+_) (by omega) (by omega),Qa1 (n:=s.fgram+_) (by omega) (by omega),ih _ ⟨by simp; omega,by simp; omega,by simp; omega,by simp; omega⟩,Q9x,Q32,show Q51 (Qvf r x).fW (Qvf r x).fH (Qvf r x).fD=Q59 (Qvf r x) from rfl]
   simp only [Option.some.injEq,L7.mk.injEq]
   constructor <;> omega
 · intro n s i hd _
   simp only [Qgp.eq_2]
   unfold Qpk
   simp only [hd,cond_false]
   simp [Qwk,Qu6,Qwc]
def Q18 (r:Request) (us:List Int) (t:Typ):Bool:=decide (Qwk r us≤Q8z t)&&decide (Qu6 r us≤t.fQ)
theorem Q4g {fu:Nat} (r:Request) (t:Typ) (us:List Int) (u:Int) (hl:us.length<1048576) (hf:us.length+1<fu):Qn9 fu r (Qm0 r) t us u=some (Q18 r (us++[u]) t):=by
 unfold Qn9 Qpd Q18
 rw [ap1 (by simp; omega),Qab,List.nil_append,ap1 (by simp; omega),Qab,Q7t r _ (by simp; omega) (by simp; omega),Qab,Jcy,Qab]
 show (bif decide (Qwk r (us++[u])≤Q8z t) then _ else _)=_
 cases decide (Qwk r (us++[u])≤Q8z t) <;> simp
theorem Q4s {fu:Nat} {r:Request} (h:Sm fu r) (t:Typ) (us:List Int) (hl:us.length≤1048576):Qoc fu r us t=some (Q18 r us t):=by
 have hfu:=h.fu
 unfold Qoc Q18
 rw [Q6s h us hl (by omega),Qab,Jfj,Qab,Jdy h us hl (by omega)]
 show (bif decide (Qwk r us≤Q8z t) then _ else _)=_
 cases decide (Qwk r us≤Q8z t) <;> simp
theorem Jba {r:Request}:(Qyl (Qsw r r.fT)).1=Qv6 r:=rfl
theorem Q8j {fu:Nat} {r:Request} (h:Sm fu r) (us:List Int) (u:Int) (hl:us.length<1048576):Qqw fu r us u=some (Qht r==0&&Q18 r (us++[u]) (Qv6 r)):=by
 have hfu:=h.fu
 unfold Qqw Qcx
 rw [Jbj h,Qab,Qt0 h,Qab]
 cases hc:Qht r==0
 · rfl
 · rw [cond_true,ap1 (by simp; omega),Qab,Qab,List.nil_append,ap1 (by simp; omega),Qab,Q4s h _ _ (by simp; omega)]
   rfl
def Qut (r:Request) (us:List Int):List Int:=us.filter λu=>inb u 0 (((Qm0 r).length:Int) - 1)
theorem Q26 {fu:Nat} {r:Request} (h:Sm fu r) (us:List Int) (hl:us.length≤1048576):Qii fu r us=some (Qut r us):=by
 have hfu:=h.fu
 unfold Qii Qcx Qut
 rw [Jcz h,Qab,ap1 (by simp; omega),Qab,Qab,List.nil_append,Jgl _ (λu=>!inb u 0 (((Qm0 r).length:Int) - 1)) ?_ hl (by omega),Qab]
 · simp
 · intro u _
   unfold Qpc
   rw [Q02,Q0g,Qab]
theorem Q6c {fu:Nat} {r:Request} (h:Sm fu r) (us:List Int) (hl:us.length≤1048576):Ql0 fu (Qm0 r) us=some (Qut r us):=by
 have hfu:=h.fu
 unfold Ql0 Qut
 have:=lpI us (λn out i=>Qfc fu (Qm0 r) us n out i) (λxs out=>some (out++xs.filter λu=>inb u 0 (((Qm0 r).length:Int) - 1))) (λxs out=>out.length+xs.length≤1048576) (by omega) ?_ ?_ fu [] (by simpa using hl) (by omega)
 · simpa using this
 · intro n out i x xs hx hd hI ih
   simp only [List.length_cons] at hI
   simp only [Qfc.eq_2]
   unfold Qk4 Qjo
   rw [hd,cond_true,hx,Qab,Q02,Q08,Qab,Qab,List.filter_cons]
   cases hb:inb x 0 (((Qm0 r).length:Int) - 1)
   · rw [cond_false,ih _ (by omega)]; simp
   · rw [cond_true,ap1 (by simp; omega),Qab,ih _ (by simp; omega)]; simp
 · intro n out i hd hI
   simp only [Qfc.eq_2]
   unfold Qk4
   simp only [hd,cond_false]
   simp
theorem Q5n {xs:List Int} (h:xs.length≤1048576):Q1c xs=some (xs.mergeSort λx y=>decide (x≤y)):=by
 unfold Q1c
 rw [if_pos (by omega)]
theorem Qu1 (r:Request) (us:List Int):(Qut r us).length≤us.length:=List.length_filter_le _ _
theorem Qx5 {r:Request} {us:List Int} {u:Int} (h:u∈Qut r us):0≤u∧u<(Qm0 r).length:=by
 unfold Qut at h
 have:=(List.mem_filter.1 h).2
 rw [Qdx] at this
 omega
theorem Qvt {r:Request} {u:Int} (h:0≤u∧u<(Qm0 r).length):Q11 r u=some (Qvf r u):=by
 obtain ⟨_,x,_,_,hx⟩:=Q3u h
 unfold Qvf
 rw [hx]; rfl
theorem Q5j {r:Request}:∀ {l:List Int},(∀ u∈l,0≤u∧u<(Qm0 r).length)→Qwc r l=l.map (Qvf r)
 | [],_=>rfl
 | u::l,h=>by
  have ih:=Q5j (r:=r) (l:=l) λv hv=>h v (by simp [hv])
  unfold Qwc at ih ⊢
  rw [List.filterMap_cons,Qvt (h u (by simp)),ih,List.map_cons]
theorem Jbo {α:Type} (l:List α) (L:Nat→Int→Option Bool) (g:α→Bool) (fin:Option Bool) (hl:l.length≤1099511627776)
    (hs:∀ n (i:Int) x,ix l i=some x→decide (i<(l.length:Int))=true→L (n+1) i=bif g x then L n (w64 (i+1)) else some false)
    (he:∀ n (i:Int),decide (i<(l.length:Int))=false→L (n+1) i=fin):∀ n,l.length<n→L n 0=bif l.all g then fin else some false:=by
 intro n hn
 refine lp l (λn (_:Unit) i=>L n i) (λxs _=>bif xs.all g then fin else some false) hl ?_ ?_ n () hn
 · intro n s i x xs hx hd ih
   rw [hs n i x hx hd,ih (),List.all_cons]
   cases g x <;> rfl
 · intro n s i hd
   rw [he n i hd]; rfl
structure Sep (p:List Pair) (P:List Int) (out:List (List Int)):Prop where
 ne:∀ g∈out,g≠[]
 inn:∀ g∈out,∀ x∈g,x∈P
 one:∀ g∈out,∀ x∈g,∀ y∈g,x≠y→Q1l p x y=true
 two:∀ (i j:Nat) (g h:List Int),out[i]? = some g→out[j]? = some h→i≠j→∀ x∈g,∀ y∈h,Q1l p x y=false
theorem Q35 {α:Type} {p q:α→Bool}:∀ {l:List α},(∀ x∈l,p x=q x)→l.all p=l.all q
 | [],_=>rfl
 | x::xs,h=>by rw [List.all_cons,List.all_cons,h x (by simp),Q35 λy hy=>h y (by simp [hy])]
def uOk (r:Request) (t:Typ) (u:Int):Bool:=(Q11 r u).isSome&&Qzq (Qvf r u) t
def Q2x (r:Request) (us:List Int) (t:Typ):Bool:=Qht r==0&&(us.all (uOk r t)&&Q18 r us t)
theorem Qz6 {r:Request} {u:Int}:(Q11 r u).isSome=true↔0≤u∧u<(Qm0 r).length:=by
 constructor
 · intro h
   apply Decidable.byContradiction
   intro hn
   rw [Q1f hn] at h
   cases h
 · intro h
   rw [Qvt h]; rfl
theorem Jch {fu:Nat} {r:Request} (h:Sm fu r) (us:List Int) (t:Typ) (hl:us.length≤1048576):Qra fu r us t=some (Q2x r us t):=by
 have hfu:=h.fu
 have hil:=Qxc r us
 unfold Qra Q2x
 rw [Qt0 h,Qab]
 cases hc:Qht r==0
 · rfl
 · rw [Bool.not_true,cond_false,Q26 h us hl,Qab,Bool.true_and]
   by_cases ha:∀ u∈us,0≤u∧u<(Qm0 r).length
   · have e:Qut r us=us:=List.filter_eq_self.2 λu hu=>by have:=ha u hu; simp; omega
     have e0:((us.length:Int) != (us.length:Int))=false:=by simp
     rw [e,e0,cond_false]
     unfold Qqg
     rw [Q3g h us hl (by omega),Qab,Qxn _ (λx=>!Qzq x t) ?_ (by omega) (by omega),Qab]
     · rw [Q4s h t us hl,Qab,Q5j ha,List.any_map]
       have e1:us.all (uOk r t)=!(us.any ((λx=>!Qzq x t) ∘ Qvf r)):=by
        rw [List.not_any_eq_all_not]
        apply Q35
        intro u hu
        simp only [uOk,Qz6.2 (ha u hu),Bool.true_and,Function.comp,Bool.not_not]
       rw [e1]
       cases us.any ((λx=>!Qzq x t) ∘ Qvf r) <;> simp
     · intro x _
       unfold Qq6
       rw [Jfi,Qab]
   · have hlt:(Qut r us).length<us.length:=by
       apply Decidable.byContradiction
       intro hn
       apply ha
       have e:(us.filter λu=>inb u 0 (((Qm0 r).length:Int) - 1)).length=us.length:=by
        have:=List.length_filter_le (λu=>inb u 0 (((Qm0 r).length:Int) - 1)) us
        have e':Qut r us=us.filter λu=>inb u 0 (((Qm0 r).length:Int) - 1):=rfl
        rw [e'] at hn
        omega
       intro u hu
       have:=List.length_filter_eq_length_iff.1 e u hu
       simp at this
       omega
     have e0:(((Qut r us).length:Int) != (us.length:Int))=true:=by simp; omega
     rw [e0,cond_true]
     have e1:us.all (uOk r t)=false:=by
      apply Bool.eq_false_iff.2
      intro he
      apply ha
      intro u hu
      have:=List.all_eq_true.1 he u hu
      simp only [uOk,Bool.and_eq_true] at this
      exact Qz6.1 this.1
     rw [e1,Bool.false_and]
theorem Jcm {fu:Nat} {r:Request} (h:Sm fu r) (us:List Int) (t:Typ) (hl:us.length≤1048576):Qrb fu r us t=some (Q2x r us t):=by
 have hfu:=h.fu
 unfold Qrb Q2x
 rw [Q0p h,Qab]
 cases hc:Qht r==0
 · have:(Qht r != 0)=true:=by simp only [bne,hc]; rfl
   rw [this]; rfl
 · have:(Qht r != 0)=false:=by simp only [bne,hc]; rfl
   have hz:Qht r=0:=by simpa using hc
   have hu:Qc4 fu r=some (Qm0 r):=Je7 h hz
   rw [this,cond_false,hu,Qab,Bool.true_and]
   have key:=lp us (λn (_:Unit) i=>Qfo fu r us t (Qm0 r) n i) (λl _=>some (l.all (uOk r t)&&Q18 r us t)) (by omega) ?_ ?_ fu () (by omega)
   · exact key
   · intro n _ i x xs hx hd ih
     simp only [Qfo.eq_2]
     unfold Qoa Qqk Qqm
     simp only [hd,cond_true,hx,Qab,Q6y,ih (),List.all_cons,uOk]
     cases (Q11 r x).isSome
     · rfl
     · simp only [Bool.not_true,cond_false,Jdt (show 2097153≤fu by omega),Qab]
       cases Qzq (Qvf r x) t <;> rfl
   · intro n _ i hd
     simp only [Qfo.eq_2]
     unfold Qoa Qqq
     simp only [hd,cond_false,Q7t r us hl (show us.length<fu by omega),Qab,Jcy]
     show (bif decide (Qwk r us≤Q8z t) then _ else _)=_
     unfold Q18
     cases decide (Qwk r us≤Q8z t) <;> simp
def chp (r:Request) (us:List Int) (s:Typ×Bool) (t:Typ):Typ×Bool :=
 bif Q2x r us t&&(!s.2||(decide (t.fL<s.1.fL)||(t.fL==s.1.fL&&decide (t.f8<s.1.f8)))) then (t,true) else s
def Qz2 (r:Request) (us:List Int):Typ×Bool:=r.fG.foldl (chp r us) (Jez,false)
theorem Jcp {fu:Nat} {r:Request} (h:Sm fu r) (us:List Int) (hl:us.length≤1048576):Qm1 fu r us=some (Qz2 r us):=by
 have hfu:=h.fu
 have ht:=h.types
 unfold Qm1
 have key:=lp r.fG (λn (s:Typ×Bool) i=>Qei fu r us n s.1 s.2 i) (λl s=>some (l.foldl (chp r us) s)) (by omega) ?_ ?_ fu (Jez,false) (by omega)
 · exact key
 · intro n s i x xs hx hd ih
   simp only [Qei.eq_2]
   unfold Qi0 Qdv
   have ih':=λa b=>ih (a,b)
   simp only at ih'
   obtain ⟨b,f⟩:=s
   simp only [hd,cond_true,hx,Qab,Jch h us x hl,ih',List.foldl_cons,chp]
   cases Q2x r us x <;> cases f <;> cases decide (x.fL<b.fL) <;> cases x.fL==b.fL <;> cases decide (x.f8<b.f8) <;> rfl
 · intro n s i hd
   simp only [Qei.eq_2]
   unfold Qi0
   simp only [hd,cond_false]
   rfl
theorem Jby {fu:Nat} {r:Request} (h:Sm fu r) (us:List Int) (hl:us.length≤1048576):Qm3 fu r us=some (Qz2 r us):=by
 have hfu:=h.fu
 have ht:=h.types
 unfold Qm3
 have key:=lp r.fG (λn (s:Typ×Bool) i=>Qeh fu r us n s.1 s.2 i) (λl s=>some (l.foldl (chp r us) s)) (by omega) ?_ ?_ fu (Jez,false) (by omega)
 · exact key
 · intro n s i x xs hx hd ih
   simp only [Qeh.eq_2]
   unfold Qis Qdt
   have ih':=λa b=>ih (a,b)
   simp only at ih'
   obtain ⟨b,f⟩:=s
   simp only [hd,cond_true,hx,Qab,Jcm h us x hl,ih',List.foldl_cons,chp]
   cases Q2x r us x <;> cases f <;> cases decide (x.fL<b.fL) <;> cases x.fL==b.fL <;> cases decide (x.f8<b.f8) <;> rfl
 · intro n s i hd
   simp only [Qeh.eq_2]
   unfold Qis
   simp only [hd,cond_false]
   rfl
theorem Q2n {fu:Nat} {r:Request} (h:Sm fu r) (id:Int):Qjc fu r id=some (Qyl (Qsw r id)):=by
 have hfu:=h.fu
 have ht:=h.types
 unfold Qjc Qsw
 refine lp r.fG (λn (_:Unit) i=>Qfq fu r id n i) (λl _=>some (Qyl (l.find? λt=>t.f8==id))) (by omega) ?_ ?_ fu () (by omega)
 · intro n s i x xs hx hd ih
   simp only [Qfq.eq_2]
   unfold Qim
   simp only [hd,cond_true,hx,Qab,ih (),List.find?_cons]
   cases x.f8==id <;> rfl
 · intro n s i hd
   simp only [Qfq.eq_2]
   unfold Qim
   simp only [hd,cond_false]
   rfl
def Jh0:Box:=⟨0,0,0,0⟩
def Jdj (r:Request) (x:Carton):Int:=match Qsw r x.fe with
 | some t=>bif Qht r==0 then t.fO+Qu6 r x.f9 else 0
 | none=>0
def Q48 (r:Request) (x:Carton):Box:=match Qsw r x.fe with
 | some t=>bif Qht r==0 then ⟨t.fW,t.fD,t.fH,t.fO+Qu6 r x.f9⟩ else Jh0
 | none=>Jh0
theorem Jd4 {r:Request} (hc:Qht r=0) {id:Int} {t:Typ} (ht:Qsw r id=some t):Q1i t=true∧t∈r.fG∧t.f8=id:=by
 have hm:=List.mem_of_find?_eq_some ht
 have hp:=List.find?_some ht
 exact ⟨Qyp (Qgy hc).1 t hm,hm,by simpa using hp⟩
theorem Jcl {r:Request} (hc:Qht r=0) {id:Int} {t:Typ} (ht:Qsw r id=some t):0≤t.fO∧t.fO≤100000:=by
 have:=(Jd4 hc ht).1
 simp only [Q1i,Bool.and_eq_true,Qdx] at this
 omega
theorem Q4c {r:Request} (hc:Qht r=0) {id:Int} {t:Typ} (ht:Qsw r id=some t) (us:List Int) (hl:us.length≤1048576):w64 (t.fO+Qu6 r us)=t.fO+Qu6 r us:=by
 have h1:=Jcl hc ht
 have h2:=Q6u r us
 exact Qa1 (by omega) (by omega)
theorem Jcj {fu:Nat} {r:Request} (h:Sm fu r) (x:Carton) (hl:x.f9.length≤1048576):Qrc fu r x=some (Jdj r x):=by
 have hfu:=h.fu
 unfold Qrc Jdj
 rw [Qye h,Qab,Q0e]
 cases ht:Qsw r x.fe with
 | none=>rfl
 | some t =>
  rw [Qt0 h]
  simp only [Option.isSome_some,Bool.not_true,cond_false,Qab]
  cases hc:Qht r==0
  · rfl
  · have hc':Qht r=0:=by simpa using hc
    unfold Qqe
    rw [Jdy h _ hl (by omega)]
    simp only [Bool.not_true,cond_false,cond_true,Qab,Qyl,Q4c hc' ht _ hl]
theorem Jb3 {fu:Nat} {r:Request} (h:Sm fu r) (x:Carton) (hl:x.f9.length≤1048576):Qre fu r x=some (Jdj r x):=by
 have hfu:=h.fu
 unfold Qre Jdj
 rw [Q2n h,Qab,Q0e,Q0p h,Qab]
 cases hc:Qht r==0
 · have:(Qht r != 0)=true:=by simp only [bne,hc]; rfl
   rw [this]
   cases Qsw r x.fe <;> rfl
 · have hc':Qht r=0:=by simpa using hc
   rw [show (Qht r != 0)=false by simp [hc'],cond_false]
   cases ht:Qsw r x.fe with
   | none=>rfl
   | some t =>
    unfold Qqh
    rw [Jgk h _ hl (by omega)]
    simp only [Option.isSome_some,Bool.not_true,cond_false,cond_true,Qab,Qyl,Q4c hc' ht _ hl]
theorem Jeq {fu:Nat} {r:Request} (h:Sm fu r) (x:Carton) (hl:x.f9.length≤1048576):Qq7 fu r x=some (Q48 r x):=by
 unfold Qq7 Q48
 rw [Qye h,Qab,Q0e]
 cases ht:Qsw r x.fe with
 | none=>rfl
 | some t =>
  rw [Qt0 h]
  simp only [Option.isSome_some,Bool.not_true,cond_false,Qab]
  cases hc:Qht r==0
  · rfl
  · unfold Qp5
    rw [Jcj h x hl]
    simp only [Jdj,ht,hc,Bool.not_true,cond_false,cond_true,Qab,Qyl]
theorem Jfo {fu:Nat} {r:Request} (h:Sm fu r) (x:Carton) (hl:x.f9.length≤1048576):Qq8 fu r x=some (Q48 r x):=by
 unfold Qq8 Q48
 rw [Q2n h,Qab,Q0e,Q0p h,Qab]
 cases hc:Qht r==0
 · have:(Qht r != 0)=true:=by simp only [bne,hc]; rfl
   rw [this]
   cases Qsw r x.fe <;> rfl
 · have hc':Qht r=0:=by simpa using hc
   rw [show (Qht r != 0)=false by simp [hc'],cond_false]
   cases ht:Qsw r x.fe with
   | none=>rfl
   | some t =>
    unfold Qp4
    rw [Jb3 h x hl]
    simp only [Jdj,ht,hc,Option.isSome_some,Bool.not_true,cond_false,cond_true,Qab,Qyl]
theorem Jbr (fu:Nat) (n:Int):Qha fu n=some (inb n 0 2000):=by unfold Qha; rw [Q0g]; rfl
def Q85 (n:Int) (s:Spot):Int:=bif inb s.fJ 0 999999 then (if s.fJ+1>n then s.fJ+1 else n) else n
def Jap (l:List Spot):Int:=l.foldl Q85 0
theorem Jca {n:Int} (s:Spot) (h:0≤n∧n≤1000000):0≤Q85 n s∧Q85 n s≤1000000:=by
 unfold Q85
 cases hi:inb s.fJ 0 999999
 · exact h
 · have:=Qdx.1 hi
   simp only [cond_true]
   split <;> omega
theorem Q7g:∀ (l:List Spot) {n:Int},0≤n∧n≤1000000→0≤l.foldl Q85 n∧l.foldl Q85 n≤1000000
 | [],_,h=>h
 | s::l,_,h=>Q7g l (Jca s h)
theorem Q7d (l:List Spot):0≤Jap l∧Jap l≤1000000:=Q7g l (by omega)
theorem Jeg {fu:Nat} {l:List Spot} (hl:l.length≤1048576) (hf:l.length<fu):Qlx fu l=some (Jap l):=by
 unfold Qlx
 have key:=lp l (λn (s:Int) i=>Qe8 fu l n s i) (λl s=>some (l.foldl Q85 s)) (by omega) ?_ ?_ fu 0 hf
 · exact key
 · intro n s i x xs hx hd ih
   simp only [Qe8.eq_2]
   unfold Qj9 Qjf
   simp only [hd,cond_true,hx,Qab,Q0g,ih,List.foldl_cons]
   unfold Q85
   cases hi:inb x.fJ 0 999999
   · rfl
   · have:=Qdx.1 hi
     simp only [cond_true]
     rw [Qa1 (by omega) (by omega)]
 · intro n s i hd
   simp only [Qe8.eq_2]
   unfold Qj9
   simp only [hd,cond_false]
   rfl
theorem Q9o (fu:Nat) (a b:Int):Qju fu a b=some (if a>b then a else b):=by
 unfold Qju
 by_cases h:a>b
 · simp [h]
 · simp [h]
theorem Jfm {fu:Nat} {l:List Spot} (hl:l.length≤1048576) (hf:l.length<fu):Qon fu l=some (Jap l):=by
 unfold Qon
 have key:=lp l (λn (s:Int) i=>Qfd fu l n s i) (λl s=>some (l.foldl Q85 s)) (by omega) ?_ ?_ fu 0 hf
 · exact key
 · intro n s i x xs hx hd ih
   simp only [Qfd.eq_2]
   unfold Qkp Qjd
   simp only [hd,cond_true,hx,Qab,Q08,Q9o,ih,List.foldl_cons]
   unfold Q85
   cases hi:inb x.fJ 0 999999
   · rfl
   · have:=Qdx.1 hi
     simp only [cond_true]
     rw [Qa1 (by omega) (by omega)]
     congr 2
     split <;> split <;> omega
 · intro n s i hd
   simp only [Qfd.eq_2]
   unfold Qkp
   simp only [hd,cond_false]
   rfl
def Jde (g:List Int→Bool) (out:List (List Int)) (u:Int):List (List Int):=match Qxe g out with
 | some i=>match out[i]? with
  | some x=>out.set i (x++[u])
  | none=>out
 | none=>out++[[u]]
def Q13 (r:Request) (u:Int) (l:List Int):Bool:=Q18 r (l++[u]) (Qv6 r)
def Jdk (r:Request) (out:List (List Int)) (u:Int):List (List Int):=Jde (Q13 r u) out u
def Q55 (r:Request) (out:List (List Int)) (u:Int):List (List Int):=match out.getLast? with
 | some l=>bif Q13 r u l then out.set (out.length - 1) (l++[u]) else out++[[u]]
 | none=>[[u]]
theorem Qyr {r:Request} {out:List (List Int)} {l:List Int} (u:Int) (h:out.getLast? = some l):Q55 r out u=bif Q13 r u l then out.set (out.length - 1) (l++[u]) else out++[[u]]:=by unfold Q55; rw [h]
def Jai (r:Request) (us:List Int):List Int:=(srt (dnk (us.map λu=>Qwk r [u])) us.length).map λp=>(ix us p).getD 0
def nfM (r:Request) (us:List Int):List (List Int):=(Qut r us).foldl (Q55 r) []
def ffM (r:Request) (us:List Int):List (List Int):=(Jai r (Qut r us)).foldl (Jdk r) []
def pwM (r:Request) (us:List Int):List (List Int):=bif r.ff==1 then nfM r us else ffM r us
theorem Q3a {g:List Int→Bool} {out:List (List Int)} {n:Nat} (u:Int) (h:okG n out):okG (n+1) (Jde g out u):=by
 obtain ⟨h1,h2⟩:=h
 unfold Jde
 split
 · rename_i i hi
   split
   · rename_i x hx
     refine ⟨by simp; omega,λl hl=>?_⟩
     rcases List.mem_or_eq_of_mem_set hl with hl | rfl
     · have:=h2 l hl; omega
     · have:=h2 x (List.mem_of_getElem? hx); simp; omega
   · exact ⟨by omega,λl hl=>by have:=h2 l hl; omega⟩
 · refine ⟨by simp; omega,λl hl=>?_⟩
   rcases List.mem_append.1 hl with hl | hl
   · have:=h2 l hl; omega
   · rw [List.mem_singleton.1 hl]; simp
theorem Q3v {r:Request} {out:List (List Int)} {n:Nat} (u:Int) (h:okG n out):okG (n+1) (Q55 r out u):=by
 obtain ⟨h1,h2⟩:=h
 unfold Q55
 split
 · rename_i x hx
   have hm:=List.mem_of_getLast? hx
   cases Q13 r u x
   · refine ⟨by simp; omega,λl hl=>?_⟩
     rcases List.mem_append.1 hl with hl | hl
     · have:=h2 l hl; omega
     · rw [List.mem_singleton.1 hl]; simp
   · refine ⟨by simp; omega,λl hl=>?_⟩
     rcases List.mem_or_eq_of_mem_set hl with hl | rfl
     · have:=h2 l hl; omega
     · have:=h2 x hm; simp; omega
 · exact ⟨by simp,λl hl=>by rw [List.mem_singleton.1 hl]; simp⟩
theorem Q27 {F:List (List Int)→Int→List (List Int)} (hF:∀ out n u,okG n out→okG (n+1) (F out u)):∀ (l:List Int) {out:List (List Int)} {n:Nat},okG n out→okG (n+l.length) (l.foldl F out)
 | [],_,_,h=>h
 | u::l,out,n,h=>by
  have:=Q27 hF l (hF out n u h)
  rw [List.foldl_cons,List.length_cons,show n+(l.length+1)=n+1+l.length by omega]
  exact this
theorem Jef {r:Request} {us:List Int} (h:us.length≤12):(Qut r us).length≤12:=Nat.le_trans (Qu1 r us) h
theorem Q9j (r:Request) (us:List Int):(Jai r us).length=us.length:=by simp [Jai,Qsj]
theorem Q5a {r:Request} {us:List Int} (h:us.length≤12):okG 12 (pwM r us):=by
 have ht:=Jef (r:=r) h
 have h0:okG 0 ([]:List (List Int)):=⟨by simp,by simp⟩
 unfold pwM
 cases r.ff==1
 · have:=Q27 (F:=Jdk r) (λout n u ho=>Q3a u ho) (Jai r (Qut r us)) h0
   rw [Q9j] at this
   exact ⟨by have:=this.1; simp only [cond_false]; unfold ffM; omega,λl hl=>by have:=this.2 l hl; omega⟩
 · have:=Q27 (F:=Q55 r) (λout n u ho=>Q3v u ho) (Qut r us) h0
   exact ⟨by have:=this.1; simp only [cond_true]; unfold nfM; omega,λl hl=>by have:=this.2 l hl; omega⟩
theorem Q8k {g:List Int→Bool} {out:List (List Int)} {c:Int} {n:Nat} (h:okG n out) (hn:n≤1048576) {β:Type} (k:List (List Int)→Option β) (a:Int) (ha:a=match Qxe g out with | some i=>(i:Int) | none=>-1) :
    (bif (decide (a<0)) then Qac (Qfi 24 out [([c]:List Int)]) λx=>k x else Qac (ix out a) λx=>Qac (Qfi 8 x (([c]:List Int))) λy=>Qac (ix out a) λz=>k (Qhn out a y))=k (Jde g out c):=by
 obtain ⟨h1,h2⟩:=h
 unfold Jde
 cases hf:Qxe g out with
 | none =>
  rw [hf] at ha
  simp only at ha
  subst ha
  rw [Qa0 (by simp),ap1 (by simp; omega),Qab]
 | some i =>
  rw [hf] at ha
  simp only at ha
  subst ha
  obtain ⟨x,hx,_⟩:=Qx6 hf
  have:=h2 x (List.mem_of_getElem? hx)
  rw [Qam (by simp),Qlg,hx,Qab,ap1 (by simp; omega),Qab,Qab]
  simp [Qhn,hx]
theorem Q1x {r:Request} (h:(Qht r==0)=false) (us:List Int):Qut r us=[]:=by
 unfold Qut Qm0
 rw [h]
 apply List.filter_eq_nil_iff.2
 intro u _
 simp; omega
theorem Q96 {fu:Nat} {r:Request} (h:Sm fu r) (hc:Qht r=0):Qc4 fu r=some (Qm0 r):=Je7 h hc
theorem Qtr {α:Type} {out:List α} (h:out≠[]):∃ l,out.getLast? = some l∧ix out ((out.length:Int) - 1)=some l:=by
 cases hl:out.getLast? with
 | none=>exact absurd (List.getLast?_eq_none_iff.1 hl) h
 | some l =>
  have hp:=List.length_pos_iff.2 h
  refine ⟨l,rfl,?_⟩
  rw [show (out.length:Int) - 1=((out.length - 1:Nat):Int) by omega,Qlg,← List.getLast?_eq_getElem?,hl]
theorem Jd2 {fu:Nat} {r:Request} (h:Sm fu r) (us:List Int) (hl:us.length≤1048575):Qoq fu r us=some (nfM r us):=by
 have hfu:=h.fu
 have htl:=Qu1 r us
 unfold Qoq nfM
 rw [Q26 h us (by omega),Qab]
 cases hc:Qht r==0
 · rw [Q1x hc]
   obtain ⟨m,rfl⟩:∃ m,fu=m+1:=⟨fu - 1,by omega⟩
   rw [Qee.eq_2]; rfl
 · have key:=lpI (Qut r us) (λn (o:List (List Int)) i=>Qee fu r (Qut r us) n o i) (λxs o=>some (xs.foldl (Q55 r) o)) (λxs o=>∃ m,m+xs.length≤1048575∧okG m o) (by omega) ?_ ?_ fu [] ⟨0,by omega,by simp,by simp⟩ (by omega)
   · exact key
   · intro n o i u xs hx hd hI ih
     obtain ⟨m,hm,ho⟩:=hI
     simp only [List.length_cons] at hm
     have h1:=ho.1
     have h2:=ho.2
     have hI':=ih (Q55 r o u) ⟨m+1,by omega,Q3v u ho⟩
     simp only [Qee.eq_2]
     unfold Qk8 Qhc
     rw [hd,cond_true,hx,Qab,List.foldl_cons,← hI',Qa1 (by omega) (by omega)]
     by_cases he:o=[]
     · subst he
       rw [decide_eq_false (by simp),cond_false,ap1 (by simp),Qab]; rfl
     · obtain ⟨l,e1,e2⟩:=Qtr he
       have hp:=List.length_pos_iff.2 he
       have hll:=h2 l (List.mem_of_getLast? e1)
       rw [decide_eq_true (by omega),cond_true,e2,Qab,Q8j h l u (by omega),Qab,hc,Bool.true_and]
       rw [Qyr u e1]
       unfold Q13
       cases Q18 r (l++[u]) (Qv6 r)
       · rw [cond_false,cond_false,ap1 (by simp; omega),Qab]
       · rw [cond_true,cond_true,Qab,ap1 (by simp; omega),Qab,Qab]
         rw [show Qhn o ((o.length:Int) - 1) (l++[u])=o.set (o.length - 1) (l++[u]) by unfold Qhn; congr 1; omega]
   · intro n o i hd _
     simp only [Qee.eq_2]
     unfold Qk8
     rw [hd,cond_false]; rfl
theorem Jfq {fu:Nat} {r:Request} (h:Sm fu r) (us:List Int) (hl:us.length≤1048575):Qo0 fu r us=some (nfM r us):=by
 have hfu:=h.fu
 have htl:=Qu1 r us
 unfold Qo0 nfM
 rw [Q0p h,Qab]
 cases hc:Qht r==0
 · rw [show (Qht r != 0)=true by simp only [bne,hc]; rfl,cond_true,Q1x hc]; rfl
 · have hz:Qht r=0:=by simpa using hc
   rw [show (Qht r != 0)=false by simp [hz],cond_false,Q96 h hz,Qab,Q6c h us (by omega),Qab]
   unfold Qrs
   rw [Q9c h,Qab,Q96 h hz,Qab]
   have key:=lpI (Qut r us) (λn (o:List (List Int)) i=>Qfw fu r (Qut r us) (Qyl (Qsw r r.fT)) (Qm0 r) n o i) (λxs o=>some (xs.foldl (Q55 r) o)) (λxs o=>∃ m,m+xs.length≤1048575∧okG m o) (by omega) ?_ ?_ fu [] ⟨0,by omega,by simp,by simp⟩ (by omega)
   · rw [key]; rfl
   · intro n o i u xs hx hd hI ih
     obtain ⟨m,hm,ho⟩:=hI
     simp only [List.length_cons] at hm
     have h1:=ho.1
     have h2:=ho.2
     have hI':=ih (Q55 r o u) ⟨m+1,by omega,Q3v u ho⟩
     simp only [Qfw.eq_2]
     unfold Qmb Qhv
     rw [hd,cond_true,List.foldl_cons,← hI',Qa1 (by omega) (by omega)]
     by_cases he:o=[]
     · subst he
       rw [decide_eq_false (by simp),cond_false,hx,Qab,ap1 (by simp),Qab]; rfl
     · obtain ⟨l,e1,e2⟩:=Qtr he
       have hp:=List.length_pos_iff.2 he
       have hll:=h2 l (List.mem_of_getLast? e1)
       rw [decide_eq_true (by omega),cond_true,e2,Qab,hx,Qab,Jba,Q4g r _ l u (by omega) (by omega),Qab]
       rw [Qyr u e1]
       unfold Q13
       cases Q18 r (l++[u]) (Qv6 r)
       · rw [cond_false,cond_false,Qab,ap1 (by simp; omega),Qab]
       · rw [cond_true,cond_true,Qab,Qab,ap1 (by simp; omega),Qab,Qab]
         rw [show Qhn o ((o.length:Int) - 1) (l++[u])=o.set (o.length - 1) (l++[u]) by unfold Qhn; congr 1; omega]
   · intro n o i hd _
     simp only [Qfw.eq_2]
     unfold Qmb
     rw [hd,cond_false]; rfl
theorem Q6b {us:List Int} {p:Int} (h:0≤p∧p<us.length):ix us p=some ((ix us p).getD 0):=by
 have:=Qzu (l:=us) (i:=p.toNat) (by omega)
 rw [show ((p.toNat:Nat):Int)=p by omega] at this
 rw [this]; rfl
theorem Qv3 {α β γ:Type} (f:γ→β→γ) (g:α→β):∀ (l:List α) (s:γ),(l.map g).foldl f s=l.foldl (λs x=>f s (g x)) s
 | [],_=>rfl
 | x::l,s=>by rw [List.map_cons,List.foldl_cons,List.foldl_cons,Qv3 f g l]
theorem Jc7 {fu:Nat} {r:Request} (h:Sm fu r) (us:List Int) (hl:us.length<20):Qne fu r us=some (ffM r us):=by
 have hfu:=h.fu
 have htl:=Qu1 r us
 unfold Qne ffM Jai
 rw [Q26 h us (by omega),Qab]
 obtain ⟨t,ht⟩:∃ t,t=Qut r us:=⟨_,rfl⟩
 rw [← ht] at htl ⊢
 have key:=lpI t (λn (o:List Int) i=>Qfj fu r t n o i) (λxs o=>Qac (Qgw fu (o++xs.map λu=>Qwk r [u])) λx=>Qcs fu r t x fu [] 0) (λxs o=>o.length+xs.length≤20) (by omega) ?_ ?_ fu [] (by simp; omega) (by omega)
 · rw [key,List.nil_append,Ja8 hfu (by simp; omega),Qab,Qv3,List.length_map]
   have hsl:=Qsj (dnk (t.map λu=>Qwk r [u])) t.length
   have hsm:=λx=>Qvq (k:=dnk (t.map λu=>Qwk r [u])) (n:=t.length) (x:=x)
   generalize srt (dnk (t.map λu=>Qwk r [u])) t.length=S at hsl hsm ⊢
   cases hc:Qht r==0
   · have:t=[]:=by rw [ht]; exact Q1x hc us
     subst this
     have:S=[]:=List.length_eq_zero_iff.1 (by simpa using hsl)
     subst this
     obtain ⟨m,rfl⟩:∃ m,fu=m+1:=⟨fu - 1,by omega⟩
     rw [Qcs.eq_2]; rfl
   · have key1:=lpI S (λn (o:List (List Int)) i=>Qcs fu r t S n o i) (λxs o=>some (xs.foldl (λs p=>Jdk r s ((ix t p).getD 0)) o)) (λxs o=>(∃ m,m+xs.length≤20∧okG m o)∧∀ p∈xs,0≤p∧p<t.length) (by omega) ?_ ?_ fu [] ⟨⟨0,by omega,by simp,by simp⟩,λp hp=>(hsm p).1 hp⟩ (by omega)
     · exact key1
     · intro n o i p xs hx hd hI ih
       obtain ⟨⟨m,hm,ho⟩,hin⟩:=hI
       simp only [List.length_cons] at hm
       have hp:=Q6b (hin p (by simp))
       simp only [Qcs.eq_2]
       unfold Qil Qhz
       rw [hd,cond_true,hx,Qab,hp,Qab,List.foldl_cons]
       generalize (ix t p).getD 0=u
       rw [Q17 (λy=>Qi3 fu y r u) (Q13 r u) (λl hl=>by
        have:=ho.2 l hl
        unfold Qi3 Q13
        rw [Q8j h l u (by omega),Qab,hc,Bool.true_and]) (by have:=ho.1; omega) (by have:=ho.1; omega),Qab]
       refine (Q8k (g:=Q13 r u) (c:=u) ho (by omega) (λx=>Qcs fu r t S n x (w64 (i+1))) (Qwb (Q13 r u) o 0) (by
        rw [Q10]
        cases Qxe (Q13 r u) o <;> simp)).trans ?_
       exact ih _ ⟨⟨m+1,by omega,Q3a u ho⟩,λq hq=>hin q (by simp [hq])⟩
     · intro n o i hd _
       simp only [Qcs.eq_2]
       unfold Qil
       rw [hd,cond_false]; rfl
 · intro n o i u xs hx hd hI ih
   simp only [List.length_cons] at hI
   simp only [Qfj.eq_2]
   unfold Qiu
   rw [hd,cond_true,hx,Qab,Q6s h [u] (by simp) (by simp; omega),Qab,ap1 (by simp; omega),Qab,ih _ (by simp; omega)]
   simp
 · intro n o i hd _
   simp only [Qfj.eq_2]
   unfold Qiu
   rw [hd,cond_false]; simp
theorem Jb5 {fu:Nat} {r:Request} (h:Sm fu r) (us:List Int) (hl:us.length<20):Qna fu r us=some (ffM r us):=by
 have hfu:=h.fu
 have htl:=Qu1 r us
 unfold Qna ffM Jai
 rw [Q0p h,Qab]
 cases hc:Qht r==0
 · rw [show (Qht r != 0)=true by simp only [bne,hc]; rfl,cond_true,Q1x hc]; rfl
 · have hz:Qht r=0:=by simpa using hc
   rw [show (Qht r != 0)=false by simp [hz],cond_false,Q96 h hz,Qab,Q6c h us (by omega),Qab]
   unfold Qq5
   rw [Q9c h,Qab,Q96 h hz,Qab]
   generalize Qut r us=t at htl ⊢
   have key:=lpI t (λn (o:List Int) i=>Qgi fu r t (Qyl (Qsw r r.fT)) (Qm0 r) n o i) (λxs o=>Qac (Qgs fu (o++xs.map λu=>Qwk r [u])) λx=>Qcp fu r t (Qyl (Qsw r r.fT)) (Qm0 r) x fu [] 0) (λxs o=>o.length+xs.length≤20) (by omega) ?_ ?_ fu [] (by simp; omega) (by omega)
   · rw [key,List.nil_append,Ja1 hfu (by simp; omega),Qab,Qv3,List.length_map]
     have hsl:=Qsj (dnk (t.map λu=>Qwk r [u])) t.length
     have hsm:=λx=>Qvq (k:=dnk (t.map λu=>Qwk r [u])) (n:=t.length) (x:=x)
     generalize srt (dnk (t.map λu=>Qwk r [u])) t.length=S at hsl hsm ⊢
     have key1:=lpI S (λn (o:List (List Int)) i=>Qcp fu r t (Qyl (Qsw r r.fT)) (Qm0 r) S n o i) (λxs o=>some (xs.foldl (λs p=>Jdk r s ((ix t p).getD 0)) o)) (λxs o=>(∃ m,m+xs.length≤20∧okG m o)∧∀ p∈xs,0≤p∧p<t.length) (by omega) ?_ ?_ fu [] ⟨⟨0,by omega,by simp,by simp⟩,λp hp=>(hsm p).1 hp⟩ (by omega)
     · rw [key1]; rfl
     · intro n o i p xs hx hd hI ih
       obtain ⟨⟨m,hm,ho⟩,hin⟩:=hI
       simp only [List.length_cons] at hm
       have hp:=Q6b (hin p (by simp))
       have ho1:=ho.1
       simp only [Qcp.eq_2]
       unfold Qkn
       rw [hd,cond_true,hx,Qab,hp,Qab,List.foldl_cons]
       generalize (ix t p).getD 0=u
       obtain ⟨K,hK⟩:∃ K,K=Qcp fu r t (Qyl (Qsw r r.fT)) (Qm0 r) S n:=⟨_,rfl⟩
       rw [← hK] at ih ⊢
       obtain ⟨R,hR⟩:∃ R:Int→Option (List (List Int)),R=λa=>bif (decide (a<0)) then Qac (Qfi 24 o [([u]:List Int)]) λx=>K x (w64 (i+1)) else Qac (ix o a) λx=>Qac (Qfi 8 x (([u]:List Int))) λy=>Qac (ix o a) λz=>K (Qhn o a y) (w64 (i+1)):=⟨_,rfl⟩
       have hD:=lpD o.length (λn a j=>Qe3 fu K r (Qyl (Qsw r r.fT)) (Qm0 r) o i u n a j) (λxs a=>R (xs.foldl (Jax (Q13 r u) o) a)) (by omega) ?_ ?_ fu (-1) (by omega)
       · rw [hD,hR]
         refine (Q8k (g:=Q13 r u) (c:=u) ho (by omega) (λx=>K x (w64 (i+1))) _ ?_).trans (ih _ ⟨⟨m+1,by omega,Q3a u ho⟩,λq hq=>hin q (by simp [hq])⟩)
         rw [Qyf (Q13 r u) o o.length (-1) (Nat.le_refl _),List.take_length]
         cases Qxe (Q13 r u) o <;> rfl
       · intro n a j xs h0 h1 hd ih
         simp only [Qe3.eq_2]
         unfold Qkr Qjk
         obtain ⟨j,rfl⟩:∃ q:Nat,j=q:=⟨j.toNat,by omega⟩
         have hj:j<o.length:=by omega
         have hg:=ho.2 _ (List.getElem_mem hj)
         rw [hd,cond_true,Qzu hj,Qab,Jba,Q4g r _ _ u (by omega) (by omega),Qab]
         have e:Jax (Q13 r u) o a (j:Int)=bif Q18 r (o[j]++[u]) (Qv6 r) then (j:Int) else a:=by unfold Jax atB Q13; rw [Qzu hj]
         simp only [ih,List.foldl_cons,e]
         cases Q18 r (o[j]++[u]) (Qv6 r) <;> rfl
       · intro n a j hd
         simp only [Qe3.eq_2]
         unfold Qkr Qjl
         rw [hd,cond_false,hR]; rfl
     · intro n o i hd _
       simp only [Qcp.eq_2]
       unfold Qkn
       rw [hd,cond_false]; rfl
   · intro n o i u xs hx hd hI ih
     simp only [List.length_cons] at hI
     obtain ⟨i0,i1,i2⟩:=Qan hx
     have e:sls t i (w64 (i+1))=some [u]:=by
      rw [Qa1 (by omega) (by omega),Qs0 (by omega)]
      congr 1
      rw [show (i+1).toNat - i.toNat=1 by omega]
      have hlt:=(List.getElem?_eq_some_iff.1 i2).1
      have heq:=(List.getElem?_eq_some_iff.1 i2).2
      rw [List.drop_eq_getElem_cons hlt,heq]; rfl
     simp only [Qgi.eq_2]
     unfold Qkc
     rw [hd,cond_true,e,Qab,Q7t r [u] (by simp) (by simp; omega),Qab,ap1 (by simp; omega),Qab,ih _ (by simp; omega)]
     simp
   · intro n o i hd _
     simp only [Qgi.eq_2]
     unfold Qkc
     rw [hd,cond_false]; simp
theorem Jgs {fu:Nat} {r:Request} (h:Sm fu r) (us:List Int) (hl:us.length<20):Qoy fu r us=some (pwM r us):=by
 unfold Qoy pwM
 rw [Jd2 h us (by omega),Jc7 h us hl]
 cases r.ff==1 <;> rfl
theorem Jgy {fu:Nat} {r:Request} (h:Sm fu r) (us:List Int) (hl:us.length<20):Qo5 fu r us=some (pwM r us):=by
 unfold Qo5 pwM
 rw [Jfq h us (by omega),Jb5 h us hl]
 cases r.ff==1 <;> rfl
theorem Q3o {α:Type} {l:List α} {i:Int} (h0:0≤i) (h1:i<l.length):∃ x,ix l i=some x:=by
 obtain ⟨j,rfl⟩:∃ j:Nat,i=j:=⟨i.toNat,by omega⟩
 exact ⟨_,Qzu (by omega)⟩
def Q88 (p:Pallet) (b:Box):Bool:=inb b.fW 1 p.fW&&(inb b.fD 1 p.fD&&(inb b.fH 1 p.fH&&inb b.fQ 1 p.fQ))
def Qyu (p:Pallet) (l:List Box):Bool:=Quj p&&l.all (Q88 p)
theorem Je9 {fu:Nat} (p:Pallet) (l:List Box) (hl:l.length≤1048576) (hf:l.length<fu):Qlz fu p l=some (Qyu p l):=by
 unfold Qlz Qyu
 rw [Q9q,Qab]
 cases Quj p
 · rfl
 · rw [Bool.not_true,cond_false,Bool.true_and]
   have:=Jbo l (λn i=>Qe4 fu p l n i) (Q88 p) (some true) (by omega) ?_ ?_ fu hf
   · rw [this]
     cases l.all (Q88 p) <;> rfl
   · intro n i x hx hd
     simp only [Qe4.eq_2]
     unfold Qki Qn2 Q88
     simp only [hd,cond_true,hx,Qab,Q08]
     cases inb x.fW 1 p.fW <;> cases inb x.fD 1 p.fD <;> cases inb x.fH 1 p.fH <;> cases inb x.fQ 1 p.fQ <;> rfl
   · intro n i hd
     simp only [Qe4.eq_2]
     unfold Qki
     rw [hd,cond_false]
def nxG {σ:Type} (fits:σ→Bool) (add:σ→σ) (z:σ) (out:List σ):List σ:=match out.getLast? with
 | some s=>bif fits s then out.set (out.length - 1) (add s) else out++[add z]
 | none=>[add z]
theorem Qt3 {σ:Type} {fits:σ→Bool} {add:σ→σ} {z:σ} {out:List σ} {s:σ} (h:out.getLast? = some s):nxG fits add z out=bif fits s then out.set (out.length - 1) (add s) else out++[add z]:=by unfold nxG; rw [h]
theorem Qs4 {σ:Type} (fits:σ→Bool) (add:σ→σ) (z:σ) (out:List σ):(nxG fits add z out).length≤out.length+1:=by
 unfold nxG
 split
 · cases fits _ <;> simp
 · simp
theorem Q3m {σ:Type} {fits:σ→Bool} {add:σ→σ} {z:σ} {out:List σ} {I:σ→Prop} (h:∀ s∈out,I s) (ha:∀ s,I s→fits s=true→I (add s)) (hz:I (add z)):∀ s∈nxG fits add z out,I s:=by
 intro s hs
 unfold nxG at hs
 split at hs
 · rename_i x hx
   have hm:=List.mem_of_getLast? hx
   cases hf:fits x
   · rw [hf,cond_false] at hs
     rcases List.mem_append.1 hs with hs | hs
     · exact h s hs
     · rw [List.mem_singleton.1 hs]; exact hz
   · rw [hf,cond_true] at hs
     rcases List.mem_or_eq_of_mem_set hs with hs | rfl
     · exact h s hs
     · exact ha x (h x hm) hf
 · rw [List.mem_singleton.1 hs]; exact hz
theorem Qrq {σ:Type} {fits:σ→Bool} {add:σ→σ} {z:σ} {out:List σ} {f:σ→List Int} {i:Int} (ha:∀ s,f (add s)=f s++[i]) (hz:f z=[]):((nxG fits add z out).map f).flatten=(out.map f).flatten++[i]:=by
 unfold nxG
 split
 · rename_i x hx
   cases fits x
   · rw [cond_false,List.map_append,List.flatten_append]
     simp [ha,hz]
   · rw [cond_true]
     have hne:out≠[]:=by intro e; rw [e] at hx; simp at hx
     have e:out=out.dropLast++[x]:=by
      have h1:=List.dropLast_concat_getLast hne
      rw [List.getLast?_eq_some_getLast hne] at hx
      rw [Option.some.inj hx] at h1
      exact h1.symm
     obtain ⟨d,hd⟩:∃ d,out=d++[x]:=⟨_,e⟩
     rw [hd]
     simp [ha]
 · rename_i hx
   have:out=[]:=List.getLast?_eq_none_iff.1 hx
   subst this
   simp [ha,hz]
def mxI (a b:Int):Int:=if a>b then a else b
theorem Qz7 (a b:Int):a≤mxI a b∧b≤mxI a b∧(mxI a b=a∨mxI a b=b):=by unfold mxI; split <;> omega
def zBx:Box:=⟨0,0,0,0⟩
def bxA (l:List Box) (i:Int):Box:=(ix l i).getD zBx
def zSh:Shelf:=⟨[],0,0,0,0⟩
def Qrh (s:Shelf) (i:Int) (b:Box):Shelf:=⟨s.f0++[i],s.fW+b.fW,mxI s.fD b.fD,mxI s.fH b.fH,s.fQ+b.fQ⟩
def Q5x (p:Pallet) (b:Box) (s:Shelf):Bool:=decide (s.fW+b.fW≤p.fW)&&decide (s.fQ+b.fQ≤p.fQ)
def shS (p:Pallet) (l:List Box) (out:List Shelf) (i:Int):List Shelf:=nxG (Q5x p (bxA l i)) (λs=>Qrh s i (bxA l i)) zSh out
def shM (p:Pallet) (l:List Box):List Shelf:=bif Qyu p l then (srt (dnk (l.map (·.fD))) l.length).foldl (shS p l) [] else []
structure ShI (p:Pallet) (n:Nat) (s:Shelf):Prop where
 ne:s.f0≠[]
 inn:∀ i∈s.f0,0≤i∧i<n
 w:1≤s.fW∧s.fW≤p.fW
 d:1≤s.fD∧s.fD≤p.fD
 h:1≤s.fH∧s.fH≤p.fH
 g:1≤s.fQ∧s.fQ≤p.fQ
theorem Q2e {p:Pallet} {l:List Box} (h:Qyu p l=true) {i:Int} (hi:0≤i∧i<l.length):ix l i=some (bxA l i)∧(1≤(bxA l i).fW∧(bxA l i).fW≤p.fW)∧(1≤(bxA l i).fD∧(bxA l i).fD≤p.fD)∧(1≤(bxA l i).fH∧(bxA l i).fH≤p.fH)∧(1≤(bxA l i).fQ∧(bxA l i).fQ≤p.fQ):=by
 obtain ⟨x,hx⟩:=Q3o (l:=l) hi.1 hi.2
 have e:bxA l i=x:=by unfold bxA; rw [hx]; rfl
 unfold Qyu at h
 simp only [Bool.and_eq_true] at h
 have:=List.all_eq_true.1 h.2 x (Qmc hx)
 simp only [Q88,Bool.and_eq_true,Qdx] at this
 rw [e]
 exact ⟨hx,this.1,this.2.1,this.2.2.1,this.2.2.2⟩
theorem Qwg {p:Pallet} (h:Quj p=true):(1≤p.fW∧p.fW≤2000)∧(1≤p.fD∧p.fD≤2000)∧(1≤p.fH∧p.fH≤2000)∧(1≤p.fQ∧p.fQ≤100000):=by
 simp only [Quj,Bool.and_eq_true,Qdx] at h
 exact ⟨h.1,h.2.1,h.2.2.1,h.2.2.2⟩
theorem Q0q {p:Pallet} {l:List Box} (h:Qyu p l=true):Quj p=true:=by
 unfold Qyu at h
 simp only [Bool.and_eq_true] at h
 exact h.1
theorem Q3t {p:Pallet} {l:List Box} (hb:Qyu p l=true) {out:List Shelf} {i:Int} (hi:0≤i∧i<l.length) (h:∀ s∈out,ShI p l.length s):∀ s∈shS p l out i,ShI p l.length s:=by
 obtain ⟨_,b1,b2,b3,b4⟩:=Q2e hb hi
 refine Q3m h (λs hs hf=>?_) ⟨by simp [Qrh],λj hj=>?_,?_,?_,?_,?_⟩
 · unfold Q5x at hf
   simp only [Bool.and_eq_true,decide_eq_true_eq] at hf
   obtain ⟨s1,s2,s3,s4,s5,s6⟩:=hs
   have m1:=Qz7 s.fD (bxA l i).fD
   have m2:=Qz7 s.fH (bxA l i).fH
   refine ⟨by simp [Qrh],λj hj=>?_,?_,?_,?_,?_⟩
   · simp only [Qrh,List.mem_append,List.mem_singleton] at hj
     rcases hj with hj | rfl
     · exact s2 j hj
     · exact hi
   · simp only [Qrh]; omega
   · simp only [Qrh]; omega
   · simp only [Qrh]; omega
   · simp only [Qrh]; omega
 · simp only [Qrh,zSh,List.nil_append,List.mem_singleton] at hj
   rw [hj]; exact hi
 · simp only [Qrh,zSh]; omega
 · have:=Qz7 0 (bxA l i).fD
   simp only [Qrh,zSh]; omega
 · have:=Qz7 0 (bxA l i).fH
   simp only [Qrh,zSh]; omega
 · simp only [Qrh,zSh]; omega
theorem Q8t {p:Pallet} {l:List Box} (hb:Qyu p l=true):∀ (is:List Int) (out:List Shelf),(∀ i∈is,0≤i∧i<l.length)→(∀ s∈out,ShI p l.length s)→(∀ s∈is.foldl (shS p l) out,ShI p l.length s)∧((is.foldl (shS p l) out).map (·.f0)).flatten=(out.map (·.f0)).flatten++is∧(is.foldl (shS p l) out).length≤out.length+is.length
 | [],out,_,h=>⟨h,by simp,by simp⟩
 | i::is,out,hi,h=>by
  rw [List.foldl_cons]
  obtain ⟨h1,h2,h3⟩:=Q8t hb is (shS p l out i) (λj hj=>hi j (by simp [hj])) (Q3t hb (hi i (by simp)) h)
  have h4:((shS p l out i).map (·.f0)).flatten=(out.map (·.f0)).flatten++[i]:=Qrq (λs=>rfl) rfl
  have h5:(shS p l out i).length≤out.length+1:=Qs4 _ _ _ _
  refine ⟨h1,by rw [h2,h4]; simp,by simp; omega⟩
theorem Q1t {p:Pallet} {l:List Box} (hb:Qyu p l=true):(∀ s∈shM p l,ShI p l.length s)∧((shM p l).map (·.f0)).flatten=srt (dnk (l.map (·.fD))) l.length∧(shM p l).length≤l.length:=by
 unfold shM
 rw [hb,cond_true]
 obtain ⟨h1,h2,h3⟩:=Q8t hb (srt (dnk (l.map (·.fD))) l.length) [] (λi hi=>Qvq.1 hi) (by simp)
 refine ⟨h1,by simpa using h2,?_⟩
 rw [Qsj] at h3
 simpa using h3
theorem Jd3 {fu:Nat} (s:Shelf) (i:Int) (b:Box) (hl:s.f0.length≤1000000) (h1:-1000000000≤s.fW+b.fW∧s.fW+b.fW≤1000000000) (h2:-1000000000≤s.fQ+b.fQ∧s.fQ+b.fQ≤1000000000):Qgq fu s i b=some (Qrh s i b):=by
 unfold Qgq
 rw [ap1 (by simp; omega),Qab,ap1 (by simp; omega),Qab,Q9o,Qab,Q9o,Qab,Qa1 (by omega) (by omega),Qa1 (by omega) (by omega)]
 rfl
theorem Qq0 {σ:Type} (f:σ→List Int):∀ (l:List σ) (s:σ),s∈l→(f s).length≤((l.map f).flatten).length
 | [],_,h=>by simp at h
 | x::l,s,h=>by
  simp only [List.map_cons,List.flatten_cons,List.length_append]
  rcases List.mem_cons.1 h with rfl | h
  · omega
  · have:=Qq0 f l s h; omega
theorem Q7b {fu:Nat} (hfu:2097153≤fu) (p:Pallet) (l:List Box) (hl:l.length≤1000):Qor fu p l=some (shM p l):=by
 unfold Qor shM
 rw [Je9 p l (by omega) (by omega),Qab]
 cases hb:Qyu p l
 · rfl
 · rw [Bool.not_true,cond_false,cond_true]
   have key:=lpI l (λn (o:List Int) i=>Qgn fu p l n o i) (λxs o=>Qac (Qgs fu (o++xs.map (·.fD))) λx=>Qd8 fu p l x fu [] 0) (λxs o=>o.length+xs.length≤1000) (by omega) ?_ ?_ fu [] (by simp; omega) (by omega)
   · rw [key,List.nil_append,Ja1 hfu (by simp; omega),Qab,List.length_map]
     have hsl:=Qsj (dnk (l.map (·.fD))) l.length
     have hsm:=λx=>Qvq (k:=dnk (l.map (·.fD))) (n:=l.length) (x:=x)
     generalize srt (dnk (l.map (·.fD))) l.length=S at hsl hsm ⊢
     have L1:=lpI S (λn (o:List Shelf) i=>Qd8 fu p l S n o i) (λxs o=>some (xs.foldl (shS p l) o)) (λxs o=>(∀ i∈xs,0≤i∧i<l.length)∧(∀ s∈o,ShI p l.length s)∧((o.map (·.f0)).flatten).length+xs.length≤1000∧o.length+xs.length≤1000) (by omega) ?_ ?_ fu [] ⟨λi hi=>(hsm i).1 hi,by simp,by simp; omega,by simp; omega⟩ (by omega)
     · exact L1
     · intro n o i x xs hx hd hI ih
       obtain ⟨i1,i2,i3,i4⟩:=hI
       simp only [List.length_cons] at i3 i4
       have hxi:=i1 x (by simp)
       obtain ⟨hbx,b1,b2,b3,b4⟩:=Q2e hb hxi
       obtain ⟨p1,p2,p3,p4⟩:=Qwg (Q0q hb)
       have hn:Qgq fu zSh x (bxA l x)=some (Qrh zSh x (bxA l x)):=Jd3 zSh x _ (by simp [zSh]) (by simp [zSh]; omega) (by simp [zSh]; omega)
       have hn':Qgq fu (⟨[],0,0,0,0⟩:Shelf) x (bxA l x)=some (Qrh zSh x (bxA l x)):=hn
       have hflat:((shS p l o x).map (·.f0)).flatten=(o.map (·.f0)).flatten++[x]:=Qrq (λs=>rfl) rfl
       have hlen:(shS p l o x).length≤o.length+1:=Qs4 _ _ _ _
       have ih':=ih (shS p l o x) ⟨λj hj=>i1 j (by simp [hj]),Q3t hb hxi i2,by rw [hflat,List.length_append,List.length_singleton]; omega,by omega⟩
       simp only [Qd8.eq_2]
       unfold Qj8 Qgh
       rw [hd,cond_true,hx,Qab,hbx,Qab,List.foldl_cons,← ih',hn',Qab]
       by_cases he:o=[]
       · subst he
         rw [Qam (by simp),Qab,ap1 (by simp),Qab]; rfl
       · obtain ⟨s,e1,e2⟩:=Qtr he
         have hp:=List.length_pos_iff.2 he
         have hsm':=List.mem_of_getLast? e1
         have hs:=i2 s hsm'
         have hsl':=Qq0 (λs:Shelf=>s.f0) o s hsm'
         rw [Qa1 (n:=(o.length:Int) - 1) (by omega) (by omega),e2,Qab,Qa0 (by simp; omega)]
         obtain ⟨s1,s2,s3,s4,s5,s6⟩:=hs
         rw [Qa1 (n:=s.fW+_) (by omega) (by omega),Qa1 (n:=s.fQ+_) (by omega) (by omega),Qab,Qab,Qab,Jd3 (fu:=fu) s x (bxA l x) (by omega) (by omega) (by omega)]
         simp only [Qab]
         rw [ap1 (by simp; omega),Qab]
         have eS:shS p l o x=bif Q5x p (bxA l x) s then o.set (o.length - 1) (Qrh s x (bxA l x)) else o++[Qrh zSh x (bxA l x)]:=Qt3 e1
         rw [eS]
         unfold Q5x
         rw [show Qhn o ((o.length:Int) - 1) (Qrh s x (bxA l x))=o.set (o.length - 1) (Qrh s x (bxA l x)) by unfold Qhn; congr 1; omega]
         cases decide (s.fW+(bxA l x).fW≤p.fW) <;> cases decide (s.fQ+(bxA l x).fQ≤p.fQ) <;> rfl
     · intro n o i hd _
       simp only [Qd8.eq_2]
       unfold Qj8
       rw [hd,cond_false]; rfl
   · intro n o i x xs hx hd hI ih
     simp only [List.length_cons] at hI
     simp only [Qgn.eq_2]
     unfold Qkb
     rw [hd,cond_true,hx,Qab,ap1 (by simp; omega),Qab,ih _ (by simp; omega)]
     simp
   · intro n o i hd _
     simp only [Qgn.eq_2]
     unfold Qkb
     rw [hd,cond_false]; simp
def okL (p:Pallet) (d h g:Int):Bool:=inb d 1 p.fD&&(inb h 1 p.fH&&inb g 1 p.fQ)
theorem Je5 (fu:Nat) (p:Pallet) (d h g:Int):Qpy fu p d h g=some (okL p d h g):=by
 unfold Qpy okL
 simp only [Q08,Qab]
 cases inb d 1 p.fD <;> cases inb h 1 p.fH <;> rfl
theorem Jhd {fu:Nat} (p:Pallet) (l:List Shelf) (hl:l.length≤1048576) (hf:l.length<fu):Qls fu p l=some (Quj p&&l.all λs=>okL p s.fD s.fH s.fQ):=by
 unfold Qls
 rw [Q9q,Qab]
 cases Quj p
 · rfl
 · rw [Bool.not_true,cond_false,Bool.true_and]
   have:=Jbo l (λn i=>Qey fu p l n i) (λs=>okL p s.fD s.fH s.fQ) (some true) (by omega) ?_ ?_ fu hf
   · rw [this]
     cases l.all λs=>okL p s.fD s.fH s.fQ <;> rfl
   · intro n i x hx hd
     simp only [Qey.eq_2]
     unfold Qh5
     simp only [hd,cond_true,hx,Qab,Je5]
     cases okL p x.fD x.fH x.fQ <;> rfl
   · intro n i hd
     simp only [Qey.eq_2]
     unfold Qh5
     rw [hd,cond_false]
theorem Jgd {fu:Nat} (p:Pallet) (l:List Layer) (hl:l.length≤1048576) (hf:l.length<fu):Qm6 fu p l=some (Quj p&&l.all λs=>okL p s.fD s.fH s.fQ):=by
 unfold Qm6
 rw [Q9q,Qab]
 cases Quj p
 · rfl
 · rw [Bool.not_true,cond_false,Bool.true_and]
   have:=Jbo l (λn i=>Qfv fu p l n i) (λs=>okL p s.fD s.fH s.fQ) (some true) (by omega) ?_ ?_ fu hf
   · rw [this]
     cases l.all λs=>okL p s.fD s.fH s.fQ <;> rfl
   · intro n i x hx hd
     simp only [Qfv.eq_2]
     unfold Qiy
     simp only [hd,cond_true,hx,Qab,Je5]
     cases okL p x.fD x.fH x.fQ <;> rfl
   · intro n i hd
     simp only [Qfv.eq_2]
     unfold Qiy
     rw [hd,cond_false]
def shA (l:List Shelf) (i:Int):Shelf:=(ix l i).getD zSh
def zLy:Layer:=⟨[],0,0,0⟩
def Qso (x:Layer) (i:Int) (s:Shelf):Layer:=⟨x.fP++[i],x.fD+s.fD,mxI x.fH s.fH,x.fQ+s.fQ⟩
def Q5y (p:Pallet) (s:Shelf) (x:Layer):Bool:=decide (x.fD+s.fD≤p.fD)&&decide (x.fQ+s.fQ≤p.fQ)
def lyS (p:Pallet) (l:List Shelf) (out:List Layer) (i:Int):List Layer:=nxG (Q5y p (shA l i)) (λs=>Qso s i (shA l i)) zLy out
def lyM (p:Pallet) (l:List Shelf):List Layer:=(Qnm 0 l.length).foldl (lyS p l) []
structure LyI (p:Pallet) (n:Nat) (s:Layer):Prop where
 ne:s.fP≠[]
 inn:∀ i∈s.fP,0≤i∧i<n
 d:1≤s.fD∧s.fD≤p.fD
 h:1≤s.fH∧s.fH≤p.fH
 g:1≤s.fQ∧s.fQ≤p.fQ
def OkS (p:Pallet) (l:List Shelf):Prop:=∀ s∈l,(1≤s.fD∧s.fD≤p.fD)∧(1≤s.fH∧s.fH≤p.fH)∧(1≤s.fQ∧s.fQ≤p.fQ)
theorem Q2o {p:Pallet} {l:List Shelf} (h:OkS p l) {i:Int} (hi:0≤i∧i<l.length):ix l i=some (shA l i)∧(1≤(shA l i).fD∧(shA l i).fD≤p.fD)∧(1≤(shA l i).fH∧(shA l i).fH≤p.fH)∧(1≤(shA l i).fQ∧(shA l i).fQ≤p.fQ)∧shA l i∈l:=by
 obtain ⟨x,hx⟩:=Q3o (l:=l) hi.1 hi.2
 have e:shA l i=x:=by unfold shA; rw [hx]; rfl
 rw [e]
 exact ⟨hx,(h x (Qmc hx)).1,(h x (Qmc hx)).2.1,(h x (Qmc hx)).2.2,Qmc hx⟩
theorem Q3r {p:Pallet} {l:List Shelf} (hb:OkS p l) {out:List Layer} {i:Int} (hi:0≤i∧i<l.length) (h:∀ s∈out,LyI p l.length s):∀ s∈lyS p l out i,LyI p l.length s:=by
 obtain ⟨_,b1,b2,b3,_⟩:=Q2o hb hi
 refine Q3m h (λs hs hf=>?_) ⟨by simp [Qso],λj hj=>?_,?_,?_,?_⟩
 · unfold Q5y at hf
   simp only [Bool.and_eq_true,decide_eq_true_eq] at hf
   obtain ⟨s1,s2,s4,s5,s6⟩:=hs
   have m2:=Qz7 s.fH (shA l i).fH
   refine ⟨by simp [Qso],λj hj=>?_,?_,?_,?_⟩
   · simp only [Qso,List.mem_append,List.mem_singleton] at hj
     rcases hj with hj | rfl
     · exact s2 j hj
     · exact hi
   · simp only [Qso]; omega
   · simp only [Qso]; omega
   · simp only [Qso]; omega
 · simp only [Qso,zLy,List.nil_append,List.mem_singleton] at hj
   rw [hj]; exact hi
 · simp only [Qso,zLy]; omega
 · have:=Qz7 0 (shA l i).fH
   simp only [Qso,zLy]; omega
 · simp only [Qso,zLy]; omega
theorem Q74 {p:Pallet} {l:List Shelf} (hb:OkS p l):∀ (is:List Int) (out:List Layer),(∀ i∈is,0≤i∧i<l.length)→(∀ s∈out,LyI p l.length s)→(∀ s∈is.foldl (lyS p l) out,LyI p l.length s)∧((is.foldl (lyS p l) out).map (·.fP)).flatten=(out.map (·.fP)).flatten++is∧(is.foldl (lyS p l) out).length≤out.length+is.length
 | [],out,_,h=>⟨h,by simp,by simp⟩
 | i::is,out,hi,h=>by
  rw [List.foldl_cons]
  obtain ⟨h1,h2,h3⟩:=Q74 hb is (lyS p l out i) (λj hj=>hi j (by simp [hj])) (Q3r hb (hi i (by simp)) h)
  have h4:((lyS p l out i).map (·.fP)).flatten=(out.map (·.fP)).flatten++[i]:=Qrq (λs=>rfl) rfl
  have h5:(lyS p l out i).length≤out.length+1:=Qs4 _ _ _ _
  refine ⟨h1,by rw [h2,h4]; simp,by simp; omega⟩
theorem Q1e {p:Pallet} {l:List Shelf} (hb:OkS p l):(∀ s∈lyM p l,LyI p l.length s)∧((lyM p l).map (·.fP)).flatten=Qnm 0 l.length∧(lyM p l).length≤l.length:=by
 unfold lyM
 obtain ⟨h1,h2,h3⟩:=Q74 hb (Qnm 0 l.length) [] (λi hi=>by have:=Qie.1 hi; omega) (by simp)
 refine ⟨h1,by simpa using h2,?_⟩
 rw [Qcn] at h3
 simpa using h3
theorem Jdz {p:Pallet} {l:List Shelf} (h:OkS p l):(l.all λs=>okL p s.fD s.fH s.fQ)=true:=by
 refine List.all_eq_true.2 λs hs=>?_
 unfold okL
 simp only [Bool.and_eq_true,Qdx]
 exact ⟨(h s hs).1,(h s hs).2.1,(h s hs).2.2⟩
theorem Q99 {fu:Nat} (hfu:2097153≤fu) {p:Pallet} (hp:Quj p=true) {l:List Shelf} (hb:OkS p l) (hl:l.length≤1000):Qm9 fu p l=some (lyM p l):=by
 unfold Qm9 lyM
 rw [Jhd p l (by omega) (by omega),hp,Jdz hb,Qab,Bool.and_self,Bool.not_true,cond_false]
 obtain ⟨p1,p2,p3,p4⟩:=Qwg hp
 have L1:=Q5o (l.length:Int) (λn (o:List Layer) i=>Qbj fu p l n o i) (λxs o=>some (xs.foldl (lyS p l) o)) (λxs o=>(∀ s∈o,LyI p l.length s)∧((o.map (·.fP)).flatten).length+xs.length≤1000∧o.length+xs.length≤1000) (by omega) ?_ ?_ l.length fu [] 0 (by omega) (by omega) (by omega) ⟨by simp,by simp [Qcn]; omega,by simp [Qcn]; omega⟩
 · exact L1
 · intro n o i xs x0 x1 hd hI ih
   obtain ⟨i2,i3,i4⟩:=hI
   simp only [List.length_cons] at i3 i4
   obtain ⟨hbx,b1,b2,b3,_⟩:=Q2o hb ⟨x0,x1⟩
   have hflat:((lyS p l o i).map (·.fP)).flatten=(o.map (·.fP)).flatten++[i]:=Qrq (λs=>rfl) rfl
   have hlen:(lyS p l o i).length≤o.length+1:=Qs4 _ _ _ _
   have ih':=ih (lyS p l o i) ⟨Q3r hb ⟨x0,x1⟩ i2,by rw [hflat,List.length_append,List.length_singleton]; omega,by omega⟩
   have J:∀ (o':List Layer) (x:Layer),o'.length≤1000→(x.fP.length≤1000)→(0≤x.fD∧x.fD≤2000)→(0≤x.fQ∧x.fQ≤100000)→Qc6 fu (Qbj fu p l n) i (shA l i) (o'++[x]) ((o'.length:Int)+1)=Qbj fu p l n (o'++[Qso x i (shA l i)]) (w64 (i+1)):=by
    intro o' x h1 h2 h3 h4
    unfold Qc6 Qmr
    have e1:w64 ((o'.length:Int)+1 - 1)=(o'.length:Int):=by rw [Qa1 (by omega) (by omega)]; omega
    have e2:ix (o'++[x]) (o'.length:Int)=some x:=by rw [Qlg]; simp
    rw [e1,e2,Qab,ap1 (by simp; omega),Qab,ap1 (by simp; omega),Qab,Q9o,Qab,Qab,Qa1 (n:=x.fD+_) (by omega) (by omega),Qa1 (n:=x.fQ+_) (by omega) (by omega)]
    have e3:∀ y:Layer,Qhn (o'++[x]) (o'.length:Int) y=o'++[y]:=by intro y; simp [Qhn]
    rw [e3]
    rfl
   simp only [Qbj.eq_2]
   unfold Qik
   rw [hd,cond_true,hbx,Qab,List.foldl_cons,← ih']
   by_cases he:o=[]
   · subst he
     rw [Qa0 (by simp),ap1 (by simp),Qab]
     have:=J [] zLy (by simp) (by simp [zLy]) (by simp [zLy]) (by simp [zLy])
     rw [Qa1 (by simp) (by simp)]
     exact this
   · obtain ⟨s,e1,e2⟩:=Qtr he
     have hpl:=List.length_pos_iff.2 he
     have hsm':=List.mem_of_getLast? e1
     have hs:=i2 s hsm'
     have hsl':=Qq0 (λs:Layer=>s.fP) o s hsm'
     obtain ⟨s1,s2,s4,s5,s6⟩:=hs
     have eS:lyS p l o i=bif Q5y p (shA l i) s then o.set (o.length - 1) (Qso s i (shA l i)) else o++[Qso zLy i (shA l i)]:=Qt3 e1
     have eo:o=o.dropLast++[s]:=by
      have h1:=List.dropLast_concat_getLast he
      rw [List.getLast?_eq_some_getLast he] at e1
      rw [Option.some.inj e1] at h1
      exact h1.symm
     have e3:Qc6 fu (Qbj fu p l n) i (shA l i) o (o.length:Int)=Qbj fu p l n (o.set (o.length - 1) (Qso s i (shA l i))) (w64 (i+1)):=by
      obtain ⟨d,hd⟩:∃ d,o=d++[s]:=⟨_,eo⟩
      rw [hd] at i4 ⊢
      simp only [List.length_append,List.length_singleton] at i4
      have:=J d s (by omega) (by omega) (by omega) (by omega)
      rw [show (((d++[s]).length:Nat):Int)=(d.length:Int)+1 by simp,this]
      congr 1
      simp
     have e4:Qc6 fu (Qbj fu p l n) i (shA l i) (o++[zLy]) (w64 ((o.length:Int)+1))=Qbj fu p l n (o++[Qso zLy i (shA l i)]) (w64 (i+1)):=by
      rw [Qa1 (by omega) (by omega)]
      exact J o zLy (by omega) (by simp [zLy]) (by simp [zLy]) (by simp [zLy])
     rw [Qa1 (n:=(o.length:Int) - 1) (by omega) (by omega),e2,Qab,Qam (by simp; omega),Qab,Qa1 (n:=s.fD+_) (by omega) (by omega),Qa1 (n:=s.fQ+_) (by omega) (by omega),ap1 (by simp; omega),Qab,e3]
     rw [show (⟨[],0,0,0⟩:Layer)=zLy from rfl,e4,eS]
     unfold Q5y
     by_cases c1:s.fD+(shA l i).fD≤p.fD
     · rw [Qam (c:=decide (s.fD+(shA l i).fD>p.fD)) (by simp; omega),decide_eq_true c1]
       by_cases c2:s.fQ+(shA l i).fQ≤p.fQ
       · rw [Qam (c:=decide (s.fQ+(shA l i).fQ>p.fQ)) (by simp; omega),decide_eq_true c2]; rfl
       · rw [Qa0 (c:=decide (s.fQ+(shA l i).fQ>p.fQ)) (by simp; omega),decide_eq_false c2]; rfl
     · rw [Qa0 (c:=decide (s.fD+(shA l i).fD>p.fD)) (by simp; omega),decide_eq_false c1]; rfl
 · intro n o i hd _
   simp only [Qbj.eq_2]
   unfold Qik
   rw [hd,cond_false]; rfl
def lyA (l:List Layer) (i:Int):Layer:=(ix l i).getD zLy
def zLd:Load:=⟨[],0,0⟩
def Qs2 (x:Load) (i:Int) (s:Layer):Load:=⟨x.fK++[i],x.fH+s.fH,x.fQ+s.fQ⟩
def Q5r (p:Pallet) (s:Layer) (x:Load):Bool:=decide (x.fH+s.fH≤p.fH)&&decide (x.fQ+s.fQ≤p.fQ)
def ldS (p:Pallet) (l:List Layer) (out:List Load) (i:Int):List Load:=nxG (Q5r p (lyA l i)) (λs=>Qs2 s i (lyA l i)) zLd out
def ldM (p:Pallet) (l:List Layer):List Load:=(Qnm 0 l.length).foldl (ldS p l) []
structure LdI (p:Pallet) (n:Nat) (s:Load):Prop where
 ne:s.fK≠[]
 inn:∀ i∈s.fK,0≤i∧i<n
 h:1≤s.fH∧s.fH≤p.fH
 g:1≤s.fQ∧s.fQ≤p.fQ
def OkY (p:Pallet) (l:List Layer):Prop:=∀ s∈l,(1≤s.fD∧s.fD≤p.fD)∧(1≤s.fH∧s.fH≤p.fH)∧(1≤s.fQ∧s.fQ≤p.fQ)
theorem Q2d {p:Pallet} {l:List Layer} (h:OkY p l) {i:Int} (hi:0≤i∧i<l.length):ix l i=some (lyA l i)∧(1≤(lyA l i).fD∧(lyA l i).fD≤p.fD)∧(1≤(lyA l i).fH∧(lyA l i).fH≤p.fH)∧(1≤(lyA l i).fQ∧(lyA l i).fQ≤p.fQ)∧lyA l i∈l:=by
 obtain ⟨x,hx⟩:=Q3o (l:=l) hi.1 hi.2
 have e:lyA l i=x:=by unfold lyA; rw [hx]; rfl
 rw [e]
 exact ⟨hx,(h x (Qmc hx)).1,(h x (Qmc hx)).2.1,(h x (Qmc hx)).2.2,Qmc hx⟩
theorem Q3p {p:Pallet} {l:List Layer} (hb:OkY p l) {out:List Load} {i:Int} (hi:0≤i∧i<l.length) (h:∀ s∈out,LdI p l.length s):∀ s∈ldS p l out i,LdI p l.length s:=by
 obtain ⟨_,b1,b2,b3,_⟩:=Q2d hb hi
 refine Q3m h (λs hs hf=>?_) ⟨by simp [Qs2],λj hj=>?_,?_,?_⟩
 · unfold Q5r at hf
   simp only [Bool.and_eq_true,decide_eq_true_eq] at hf
   obtain ⟨s1,s2,s5,s6⟩:=hs
   refine ⟨by simp [Qs2],λj hj=>?_,?_,?_⟩
   · simp only [Qs2,List.mem_append,List.mem_singleton] at hj
     rcases hj with hj | rfl
     · exact s2 j hj
     · exact hi
   · simp only [Qs2]; omega
   · simp only [Qs2]; omega
 · simp only [Qs2,zLd,List.nil_append,List.mem_singleton] at hj
   rw [hj]; exact hi
 · simp only [Qs2,zLd]; omega
 · simp only [Qs2,zLd]; omega
theorem Q7z {p:Pallet} {l:List Layer} (hb:OkY p l):∀ (is:List Int) (out:List Load),(∀ i∈is,0≤i∧i<l.length)→(∀ s∈out,LdI p l.length s)→(∀ s∈is.foldl (ldS p l) out,LdI p l.length s)∧((is.foldl (ldS p l) out).map (·.fK)).flatten=(out.map (·.fK)).flatten++is∧(is.foldl (ldS p l) out).length≤out.length+is.length
 | [],out,_,h=>⟨h,by simp,by simp⟩
 | i::is,out,hi,h=>by
  rw [List.foldl_cons]
  obtain ⟨h1,h2,h3⟩:=Q7z hb is (ldS p l out i) (λj hj=>hi j (by simp [hj])) (Q3p hb (hi i (by simp)) h)
  have h4:((ldS p l out i).map (·.fK)).flatten=(out.map (·.fK)).flatten++[i]:=Qrq (λs=>rfl) rfl
  have h5:(ldS p l out i).length≤out.length+1:=Qs4 _ _ _ _
  refine ⟨h1,by rw [h2,h4]; simp,by simp; omega⟩
theorem Q3l {p:Pallet} {l:List Layer} (hb:OkY p l):(∀ s∈ldM p l,LdI p l.length s)∧((ldM p l).map (·.fK)).flatten=Qnm 0 l.length∧(ldM p l).length≤l.length:=by
 unfold ldM
 obtain ⟨h1,h2,h3⟩:=Q7z hb (Qnm 0 l.length) [] (λi hi=>by have:=Qie.1 hi; omega) (by simp)
 refine ⟨h1,by simpa using h2,?_⟩
 rw [Qcn] at h3
 simpa using h3
theorem Je4 {p:Pallet} {l:List Layer} (h:OkY p l):(l.all λs=>okL p s.fD s.fH s.fQ)=true:=by
 refine List.all_eq_true.2 λs hs=>?_
 unfold okL
 simp only [Bool.and_eq_true,Qdx]
 exact ⟨(h s hs).1,(h s hs).2.1,(h s hs).2.2⟩
theorem Jbv {fu:Nat} (hfu:2097153≤fu) {p:Pallet} (hp:Quj p=true) {l:List Layer} (hb:OkY p l) (hl:l.length≤1000):Qo8 fu p l=some (ldM p l):=by
 unfold Qo8 ldM
 rw [Jgd p l (by omega) (by omega),hp,Je4 hb,Qab,Bool.and_self,Bool.not_true,cond_false]
 obtain ⟨p1,p2,p3,p4⟩:=Qwg hp
 have L1:=Q5o (l.length:Int) (λn (o:List Load) i=>Qbu fu p l n o i) (λxs o=>some (xs.foldl (ldS p l) o)) (λxs o=>(∀ s∈o,LdI p l.length s)∧((o.map (·.fK)).flatten).length+xs.length≤1000∧o.length+xs.length≤1000) (by omega) ?_ ?_ l.length fu [] 0 (by omega) (by omega) (by omega) ⟨by simp,by simp [Qcn]; omega,by simp [Qcn]; omega⟩
 · exact L1
 · intro n o i xs x0 x1 hd hI ih
   obtain ⟨i2,i3,i4⟩:=hI
   simp only [List.length_cons] at i3 i4
   obtain ⟨hbx,b1,b2,b3,_⟩:=Q2d hb ⟨x0,x1⟩
   have hflat:((ldS p l o i).map (·.fK)).flatten=(o.map (·.fK)).flatten++[i]:=Qrq (λs=>rfl) rfl
   have hlen:(ldS p l o i).length≤o.length+1:=Qs4 _ _ _ _
   have ih':=ih (ldS p l o i) ⟨Q3p hb ⟨x0,x1⟩ i2,by rw [hflat,List.length_append,List.length_singleton]; omega,by omega⟩
   have J:∀ (o':List Load) (x:Load),o'.length≤1000→(x.fK.length≤1000)→(0≤x.fH∧x.fH≤2000)→(0≤x.fQ∧x.fQ≤100000)→Qdj fu (Qbu fu p l n) i (lyA l i) (o'++[x]) ((o'.length:Int)+1)=Qbu fu p l n (o'++[Qs2 x i (lyA l i)]) (w64 (i+1)):=by
    intro o' x h1 h2 h3 h4
    unfold Qdj Qn5
    have e1:w64 ((o'.length:Int)+1 - 1)=(o'.length:Int):=by rw [Qa1 (by omega) (by omega)]; omega
    have e2:ix (o'++[x]) (o'.length:Int)=some x:=by rw [Qlg]; simp
    rw [e1,e2,Qab,ap1 (by simp; omega),Qab,ap1 (by simp; omega),Qab,Qab,Qa1 (n:=x.fH+_) (by omega) (by omega),Qa1 (n:=x.fQ+_) (by omega) (by omega)]
    have e3:∀ y:Load,Qhn (o'++[x]) (o'.length:Int) y=o'++[y]:=by intro y; simp [Qhn]
    rw [e3]
    rfl
   simp only [Qbu.eq_2]
   unfold Qjv
   rw [hd,cond_true,hbx,Qab,List.foldl_cons,← ih']
   by_cases he:o=[]
   · subst he
     rw [Qa0 (by simp),ap1 (by simp),Qab]
     have:=J [] zLd (by simp) (by simp [zLd]) (by simp [zLd]) (by simp [zLd])
     rw [Qa1 (by simp) (by simp)]
     exact this
   · obtain ⟨s,e1,e2⟩:=Qtr he
     have hpl:=List.length_pos_iff.2 he
     have hsm':=List.mem_of_getLast? e1
     have hs:=i2 s hsm'
     have hsl':=Qq0 (λs:Load=>s.fK) o s hsm'
     obtain ⟨s1,s2,s5,s6⟩:=hs
     have eS:ldS p l o i=bif Q5r p (lyA l i) s then o.set (o.length - 1) (Qs2 s i (lyA l i)) else o++[Qs2 zLd i (lyA l i)]:=Qt3 e1
     have eo:o=o.dropLast++[s]:=by
      have h1:=List.dropLast_concat_getLast he
      rw [List.getLast?_eq_some_getLast he] at e1
      rw [Option.some.inj e1] at h1
      exact h1.symm
     have e3:Qdj fu (Qbu fu p l n) i (lyA l i) o (o.length:Int)=Qbu fu p l n (o.set (o.length - 1) (Qs2 s i (lyA l i))) (w64 (i+1)):=by
      obtain ⟨d,hd⟩:∃ d,o=d++[s]:=⟨_,eo⟩
      rw [hd] at i4 ⊢
      simp only [List.length_append,List.length_singleton] at i4
      have:=J d s (by omega) (by omega) (by omega) (by omega)
      rw [show (((d++[s]).length:Nat):Int)=(d.length:Int)+1 by simp,this]
      congr 1
      simp
     have e4:Qdj fu (Qbu fu p l n) i (lyA l i) (o++[zLd]) (w64 ((o.length:Int)+1))=Qbu fu p l n (o++[Qs2 zLd i (lyA l i)]) (w64 (i+1)):=by
      rw [Qa1 (by omega) (by omega)]
      exact J o zLd (by omega) (by simp [zLd]) (by simp [zLd]) (by simp [zLd])
     rw [Qa1 (n:=(o.length:Int) - 1) (by omega) (by omega),e2,Qab,Qam (by simp; omega),Qab,Qa1 (n:=s.fH+_) (by omega) (by omega),Qa1 (n:=s.fQ+_) (by omega) (by omega),ap1 (by simp; omega),Qab,e3]
     rw [show (⟨[],0,0⟩:Load)=zLd from rfl,e4,eS]
     unfold Q5r
     by_cases c1:s.fH+(lyA l i).fH≤p.fH
     · rw [Qam (c:=decide (s.fH+(lyA l i).fH>p.fH)) (by simp; omega),decide_eq_true c1]
       by_cases c2:s.fQ+(lyA l i).fQ≤p.fQ
       · rw [Qam (c:=decide (s.fQ+(lyA l i).fQ>p.fQ)) (by simp; omega),decide_eq_true c2]; rfl
       · rw [Qa0 (c:=decide (s.fQ+(lyA l i).fQ>p.fQ)) (by simp; omega),decide_eq_false c2]; rfl
     · rw [Qa0 (c:=decide (s.fH+(lyA l i).fH>p.fH)) (by simp; omega),decide_eq_false c1]; rfl
 · intro n o i hd _
   simp only [Qbu.eq_2]
   unfold Qjv
   rw [hd,cond_false]; rfl
end Go.Proofs.YtpcmapfabndggaaGreatDoor
