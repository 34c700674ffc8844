/- ExactPackTextBP: pla.. -/
import Derived.Test.YtpcmapfabndggabGreatDoorExactPackTextBP1
set_option linter.unusedSimpArgs false
set_option linter.unusedVariables false
namespace Go.Proofs.YtpcmapfabndggabGreatDoor
open Go
open Enc (rd ow)
open Arg (argv)
open Ret (retv)
open Wf (wf)
theorem Q2m (r:Request) (u:Int):0≤(Qvo r u).fQ∧(Qvo r u).fQ≤100000:=by
 unfold Qvo
 cases hm:Q2b r u with
 | none=>simp [Q5z]
 | some x=>exact Q01 (r:=r) (us:=[u]) (by simp [Qwj,List.filterMap_cons,hm])
theorem Jid {fu:Nat} {r:Request} (h:Sm fu r) (us:List Int) (hl:us.length≤1048576) (hf:us.length<fu):Qqj fu r us=some (Qvd r us):=by
 unfold Qqj
 rw [Jhu h,Qab]
 have key:=lpI us (λn s i=>Qet fu r us (Qmz r) n s i) (λl n=>some (n+Qvd r l)) (λl n=>0≤n∧n+100000*l.length≤100000*1048576) (by omega) ?_ ?_ fu 0 ⟨by omega,by omega⟩ hf
 · simpa using key
 · intro n s i x xs hx hd hI ih
   simp only [Qet.eq_2]
   unfold Qmh Qpp Qpl
   simp only [hd,cond_true,hx,Qab,Q8x]
   have hv:=Q2m r x
   have h2:=hI.2
   simp only [List.length_cons] at h2
   rw [Qa1 (by omega) (by omega),ih _ ⟨by omega,by omega⟩]
   congr 1
   have e:Qvd r (x::xs)=(Qvo r x).fQ+Qvd r xs:=by
    unfold Qvd Qwj Qvo
    cases hm:Q2b r x with
    | none=>simp [List.filterMap_cons,hm,Q5z]
    | some y=>simp [List.filterMap_cons,hm]
   rw [e]
   omega
 · intro n s i hd _
   simp only [Qet.eq_2]
   unfold Qmh
   simp only [hd,cond_false]
   simp [Qvd,Qwj]
theorem Jec {fu:Nat} {r:Request} (h:Sm fu r) (us:List Int) (hl:us.length≤1048576) (hf:us.length<fu):Qoc fu r us=some (Qvd r us):=by
 unfold Qoc
 rw [Q3v h us hl hf,Qab]
 have hlen:=Qxn r us
 have key:=lpI (Qwj r us) (λn s i=>Qg1 fu (Qwj r us) n s i) (λl n=>some (n+Qw1 (l.map (·.fQ)))) (λl n=>0≤n∧n+100000*l.length≤100000*1048576∧∀ x∈l,0≤x.fQ∧x.fQ≤100000) (by omega) ?_ ?_ fu 0 ⟨by omega,by omega,λx hx=>Q01 hx⟩ (by omega)
 · simpa [Qvd] using key
 · intro n s i x xs hx hd hI ih
   simp only [Qg1.eq_2]
   unfold Ql7
   simp only [hd,cond_true,hx,Qab]
   have hv:=hI.2.2 x (by simp)
   have h2:=hI.2.1
   simp only [List.length_cons] at h2
   rw [Qa1 (by omega) (by omega),ih _ ⟨by omega,by omega,λy hy=>hI.2.2 y (by simp [hy])⟩]
   simp only [List.map_cons,Qrk]
   congr 1
   omega
 · intro n s i hd _
   simp only [Qg1.eq_2]
   unfold Ql7
   simp only [hd,cond_false]
   simp
theorem Jah (r:Request) (x:Int) (xs:List Int):Qwp r (x::xs)=Q63 (Qvo r x)+Qwp r xs:=by
 unfold Qwp Qwj Qvo
 cases hm:Q2b r x with
 | none=>simp [List.filterMap_cons,hm,Q9k]
 | some y=>simp [List.filterMap_cons,hm]
theorem Q48 (r:Request) (x:Int) (xs:List Int):Qvd r (x::xs)=(Qvo r x).fQ+Qvd r xs:=by
 unfold Qvd Qwj Qvo
 cases hm:Q2b r x with
 | none=>simp [List.filterMap_cons,hm,Q5z]
 | some y=>simp [List.filterMap_cons,hm]
theorem Q7o {fu:Nat} (r:Request) (us:List Int) (hl:us.length≤1048576) (hf:us.length<fu):Qpy fu r (Qmz r) us=some ⟨Qwp r us,Qvd r us⟩:=by
 unfold Qpy
 have key:=lpI us (λn s i=>Qgr fu r (Qmz r) us n s i) (λl s=>some (⟨s.fvol+Qwp r l,s.fgram+Qvd r l⟩:L7))
  (λl s=>0≤s.fvol∧s.fvol+8000000000*l.length≤8000000000*1048576∧0≤s.fgram∧s.fgram+100000*l.length≤100000*1048576) (by omega) ?_ ?_ fu ⟨0,0⟩ ⟨by simp,by simp; omega,by simp,by simp; omega⟩ hf
 · simpa using key
 · intro n s i x xs hx hd hI ih
   simp only [Qgr.eq_2]
   unfold Qpt Qq9 Qra
   simp only [hd,cond_true,hx,Qab,Q8x,Jbs]
   have hv:=Q6u (Qvo r x).fW (Qvo r x).fH (Qvo r x).fD
   have hg:=Q2m r x
   obtain ⟨a1,a2,a3,a4⟩:=hI
   simp only [List.length_cons] at a2 a4
   rw [Qa1 (n:=s.fvol+_) (by omega) (by omega),Qa1 (n:=s.fgram+_) (by omega) (by omega),ih _ ⟨by simp; omega,by simp; omega,by simp; omega,by simp; omega⟩,Jah,Q48,show Q5x (Qvo r x).fW (Qvo r x).fH (Qvo r x).fD=Q63 (Qvo r x) from rfl]
   simp only [Option.some.injEq,L7.mk.injEq]
   constructor <;> omega
 · intro n s i hd _
   simp only [Qgr.eq_2]
   unfold Qpt
   simp only [hd,cond_false]
   simp [Qwp,Qvd,Qwj]
def Q27 (r:Request) (us:List Int) (t:Typ):Bool:=decide (Qwp r us≤Q9f t)&&decide (Qvd r us≤t.fQ)
theorem Q5g {fu:Nat} (r:Request) (t:Typ) (us:List Int) (u:Int) (hl:us.length<1048576) (hf:us.length+1<fu):Qn4 fu r (Qmz r) t us u=some (Q27 r (us++[u]) t):=by
 unfold Qn4 Qpi Q27
 rw [ap1 (by simp; omega),Qab,List.nil_append,ap1 (by simp; omega),Qab,Q7o r _ (by simp; omega) (by simp; omega),Qab,Jbs,Qab]
 show (bif decide (Qwp r (us++[u])≤Q9f t) then _ else _)=_
 cases decide (Qwp r (us++[u])≤Q9f t) <;> simp
theorem Q4u {fu:Nat} {r:Request} (h:Sm fu r) (t:Typ) (us:List Int) (hl:us.length≤1048576):Qn7 fu r us t=some (Q27 r us t):=by
 have hfu:=h.fu
 unfold Qn7 Q27
 rw [Q8g h us hl (by omega),Qab,Jek,Qab,Jec h us hl (by omega)]
 show (bif decide (Qwp r us≤Q9f t) then _ else _)=_
 cases decide (Qwp r us≤Q9f t) <;> simp
theorem Ja6 {r:Request}:(Qxz (Qs0 r r.fT)).1=Qwb r:=rfl
theorem Q85 {fu:Nat} {r:Request} (h:Sm fu r) (us:List Int) (u:Int) (hl:us.length<1048576):Qq2 fu r us u=some (Qhu r==0&&Q27 r (us++[u]) (Qwb r)):=by
 have hfu:=h.fu
 unfold Qq2 Qcx
 rw [Jb2 h,Qab,Qt2 h,Qab]
 cases hc:Qhu r==0
 · rfl
 · rw [cond_true,ap1 (by simp; omega),Qab,Qab,List.nil_append,ap1 (by simp; omega),Qab,Q4u h _ _ (by simp; omega)]
   rfl
def Qux (r:Request) (us:List Int):List Int:=us.filter λu=>inb u 0 (((Qmz r).length:Int) - 1)
theorem Q3n {fu:Nat} {r:Request} (h:Sm fu r) (us:List Int) (hl:us.length≤1048576):Qij fu r us=some (Qux r us):=by
 have hfu:=h.fu
 unfold Qij Qcx Qux
 rw [Jbx h,Qab,ap1 (by simp; omega),Qab,Qab,List.nil_append,Jg1 _ (λu=>!inb u 0 (((Qmz r).length:Int) - 1)) ?_ hl (by omega),Qab]
 · simp
 · intro u _
   unfold Qpr
   rw [Q09,Q0l,Qab]
theorem Q8s {fu:Nat} {r:Request} (h:Sm fu r) (us:List Int) (hl:us.length≤1048576):Ql2 fu (Qmz r) us=some (Qux r us):=by
 have hfu:=h.fu
 unfold Ql2 Qux
 have:=lpI us (λn out i=>Qe2 fu (Qmz r) us n out i) (λxs out=>some (out++xs.filter λu=>inb u 0 (((Qmz r).length:Int) - 1))) (λxs out=>out.length+xs.length≤1048576) (by omega) ?_ ?_ fu [] (by simpa using hl) (by omega)
 · simpa using this
 · intro n out i x xs hx hd hI ih
   simp only [List.length_cons] at hI
   simp only [Qe2.eq_2]
   unfold Qk0 Qi3
   rw [hd,cond_true,hx,Qab,Q09,Q0h,Qab,Qab,List.filter_cons]
   cases hb:inb x 0 (((Qmz r).length:Int) - 1)
   · rw [cond_false,ih _ (by omega)]; simp
   · rw [cond_true,ap1 (by simp; omega),Qab,ih _ (by simp; omega)]; simp
 · intro n out i hd hI
   simp only [Qe2.eq_2]
   unfold Qk0
   simp only [hd,cond_false]
   simp
theorem Q5v {xs:List Int} (h:xs.length≤1048576):Q13 xs=some (xs.mergeSort λx y=>decide (x≤y)):=by
 unfold Q13
 rw [if_pos (by omega)]
theorem Qvf (r:Request) (us:List Int):(Qux r us).length≤us.length:=List.length_filter_le _ _
theorem Qyd {r:Request} {us:List Int} {u:Int} (h:u∈Qux r us):0≤u∧u<(Qmz r).length:=by
 unfold Qux at h
 have:=(List.mem_filter.1 h).2
 rw [Qdc] at this
 omega
theorem Qvv {r:Request} {u:Int} (h:0≤u∧u<(Qmz r).length):Q2b r u=some (Qvo r u):=by
 obtain ⟨_,x,_,_,hx⟩:=Q30 h
 unfold Qvo
 rw [hx]; rfl
theorem Q4w {r:Request}:∀ {l:List Int},(∀ u∈l,0≤u∧u<(Qmz r).length)→Qwj r l=l.map (Qvo r)
 | [],_=>rfl
 | u::l,h=>by
  have ih:=Q4w (r:=r) (l:=l) λv hv=>h v (by simp [hv])
  unfold Qwj at ih ⊢
  rw [List.filterMap_cons,Qvv (h u (by simp)),ih,List.map_cons]
theorem Jch {α:Type} (l:List α) (L:Nat→Int→Option Bool) (g:α→Bool) (fin:Option Bool) (hl:l.length≤1099511627776)
    (hs:∀ n (i:Int) x,ix l i=some x→decide (i<(l.length:Int))=true→L (n+1) i=bif g x then L n (w64 (i+1)) else some false)
    (he:∀ n (i:Int),decide (i<(l.length:Int))=false→L (n+1) i=fin):∀ n,l.length<n→L n 0=bif l.all g then fin else some false:=by
 intro n hn
 refine lp l (λn (_:Unit) i=>L n i) (λxs _=>bif xs.all g then fin else some false) hl ?_ ?_ n () hn
 · intro n s i x xs hx hd ih
   rw [hs n i x hx hd,ih (),List.all_cons]
   cases g x <;> rfl
 · intro n s i hd
   rw [he n i hd]; rfl
structure Sep (p:List Pair) (P:List Int) (out:List (List Int)):Prop where
 ne:∀ g∈out,g≠[]
 inn:∀ g∈out,∀ x∈g,x∈P
 one:∀ g∈out,∀ x∈g,∀ y∈g,x≠y→Q15 p x y=true
 two:∀ (i j:Nat) (g h:List Int),out[i]? = some g→out[j]? = some h→i≠j→∀ x∈g,∀ y∈h,Q15 p x y=false
theorem Q43 {α:Type} {p q:α→Bool}:∀ {l:List α},(∀ x∈l,p x=q x)→l.all p=l.all q
 | [],_=>rfl
 | x::xs,h=>by rw [List.all_cons,List.all_cons,h x (by simp),Q43 λy hy=>h y (by simp [hy])]
def uOk (r:Request) (t:Typ) (u:Int):Bool:=(Q2b r u).isSome&&Qzd (Qvo r u) t
def Q2s (r:Request) (us:List Int) (t:Typ):Bool:=Qhu r==0&&(us.all (uOk r t)&&Q27 r us t)
theorem Qz8 {r:Request} {u:Int}:(Q2b r u).isSome=true↔0≤u∧u<(Qmz r).length:=by
 constructor
 · intro h
   apply Decidable.byContradiction
   intro hn
   rw [Q1r hn] at h
   cases h
 · intro h
   rw [Qvv h]; rfl
theorem Jb0 {fu:Nat} {r:Request} (h:Sm fu r) (us:List Int) (t:Typ) (hl:us.length≤1048576):Qre fu r us t=some (Q2s r us t):=by
 have hfu:=h.fu
 have hil:=Qxn r us
 unfold Qre Q2s
 rw [Qt2 h,Qab]
 cases hc:Qhu r==0
 · rfl
 · rw [Bool.not_true,cond_false,Q3n h us hl,Qab,Bool.true_and]
   by_cases ha:∀ u∈us,0≤u∧u<(Qmz r).length
   · have e:Qux r us=us:=List.filter_eq_self.2 λu hu=>by have:=ha u hu; simp; omega
     have e0:((us.length:Int) != (us.length:Int))=false:=by simp
     rw [e,e0,cond_false]
     unfold Qp8
     rw [Q3v h us hl (by omega),Qab,Qx9 _ (λx=>!Qzd x t) ?_ (by omega) (by omega),Qab]
     · rw [Q4u h t us hl,Qab,Q4w ha,List.any_map]
       have e1:us.all (uOk r t)=!(us.any ((λx=>!Qzd x t) ∘ Qvo r)):=by
        rw [List.not_any_eq_all_not]
        apply Q43
        intro u hu
        simp only [uOk,Qz8.2 (ha u hu),Bool.true_and,Function.comp,Bool.not_not]
       rw [e1]
       cases us.any ((λx=>!Qzd x t) ∘ Qvo r) <;> simp
     · intro x _
       unfold Qrc
       rw [Jft,Qab]
   · have hlt:(Qux r us).length<us.length:=by
       apply Decidable.byContradiction
       intro hn
       apply ha
       have e:(us.filter λu=>inb u 0 (((Qmz r).length:Int) - 1)).length=us.length:=by
        have:=List.length_filter_le (λu=>inb u 0 (((Qmz r).length:Int) - 1)) us
        have e':Qux r us=us.filter λu=>inb u 0 (((Qmz r).length:Int) - 1):=rfl
        rw [e'] at hn
        omega
       intro u hu
       have:=List.length_filter_eq_length_iff.1 e u hu
       simp at this
       omega
     have e0:(((Qux r us).length:Int) != (us.length:Int))=true:=by simp; omega
     rw [e0,cond_true]
     have e1:us.all (uOk r t)=false:=by
      apply Bool.eq_false_iff.2
      intro he
      apply ha
      intro u hu
      have:=List.all_eq_true.1 he u hu
      simp only [uOk,Bool.and_eq_true] at this
      exact Qz8.1 this.1
     rw [e1,Bool.false_and]
theorem Jcl {fu:Nat} {r:Request} (h:Sm fu r) (us:List Int) (t:Typ) (hl:us.length≤1048576):Qrl fu r us t=some (Q2s r us t):=by
 have hfu:=h.fu
 unfold Qrl Q2s
 rw [Q16 h,Qab]
 cases hc:Qhu r==0
 · have:(Qhu r != 0)=true:=by simp only [bne,hc]; rfl
   rw [this]; rfl
 · have:(Qhu r != 0)=false:=by simp only [bne,hc]; rfl
   have hz:Qhu r=0:=by simpa using hc
   have hu:Qc4 fu r=some (Qmz r):=Jea h hz
   rw [this,cond_false,hu,Qab,Bool.true_and]
   have key:=lp us (λn (_:Unit) i=>Qfs fu r us t (Qmz r) n i) (λl _=>some (l.all (uOk r t)&&Q27 r us t)) (by omega) ?_ ?_ fu () (by omega)
   · exact key
   · intro n _ i x xs hx hd ih
     simp only [Qfs.eq_2]
     unfold Qnz Qqv Qqf
     simp only [hd,cond_true,hx,Qab,Q8x,ih (),List.all_cons,uOk]
     cases (Q2b r x).isSome
     · rfl
     · simp only [Bool.not_true,cond_false,Jfo (show 2097153≤fu by omega),Qab]
       cases Qzd (Qvo r x) t <;> rfl
   · intro n _ i hd
     simp only [Qfs.eq_2]
     unfold Qnz Qqc
     simp only [hd,cond_false,Q7o r us hl (show us.length<fu by omega),Qab,Jbs]
     show (bif decide (Qwp r us≤Q9f t) then _ else _)=_
     unfold Q27
     cases decide (Qwp r us≤Q9f t) <;> simp
def chp (r:Request) (us:List Int) (s:Typ×Bool) (t:Typ):Typ×Bool :=
 bif Q2s r us t&&(!s.2||(decide (t.fL<s.1.fL)||(t.fL==s.1.fL&&decide (t.f4<s.1.f4)))) then (t,true) else s
def Q0b (r:Request) (us:List Int):Typ×Bool:=r.fG.foldl (chp r us) (Jfn,false)
theorem Jct {fu:Nat} {r:Request} (h:Sm fu r) (us:List Int) (hl:us.length≤1048576):Qng fu r us=some (Q0b r us):=by
 have hfu:=h.fu
 have ht:=h.types
 unfold Qng
 have key:=lp r.fG (λn (s:Typ×Bool) i=>Qej fu r us n s.1 s.2 i) (λl s=>some (l.foldl (chp r us) s)) (by omega) ?_ ?_ fu (Jfn,false) (by omega)
 · exact key
 · intro n s i x xs hx hd ih
   simp only [Qej.eq_2]
   unfold Qix Qdv
   have ih':=λa b=>ih (a,b)
   simp only at ih'
   obtain ⟨b,f⟩:=s
   simp only [hd,cond_true,hx,Qab,Jb0 h us x hl,ih',List.foldl_cons,chp]
   cases Q2s r us x <;> cases f <;> cases decide (x.fL<b.fL) <;> cases x.fL==b.fL <;> cases decide (x.f4<b.f4) <;> rfl
 · intro n s i hd
   simp only [Qej.eq_2]
   unfold Qix
   simp only [hd,cond_false]
   rfl
theorem Jcs {fu:Nat} {r:Request} (h:Sm fu r) (us:List Int) (hl:us.length≤1048576):Qm5 fu r us=some (Q0b r us):=by
 have hfu:=h.fu
 have ht:=h.types
 unfold Qm5
 have key:=lp r.fG (λn (s:Typ×Bool) i=>Qei fu r us n s.1 s.2 i) (λl s=>some (l.foldl (chp r us) s)) (by omega) ?_ ?_ fu (Jfn,false) (by omega)
 · exact key
 · intro n s i x xs hx hd ih
   simp only [Qei.eq_2]
   unfold Qis Qdw
   have ih':=λa b=>ih (a,b)
   simp only at ih'
   obtain ⟨b,f⟩:=s
   simp only [hd,cond_true,hx,Qab,Jcl h us x hl,ih',List.foldl_cons,chp]
   cases Q2s r us x <;> cases f <;> cases decide (x.fL<b.fL) <;> cases x.fL==b.fL <;> cases decide (x.f4<b.f4) <;> rfl
 · intro n s i hd
   simp only [Qei.eq_2]
   unfold Qis
   simp only [hd,cond_false]
   rfl
theorem Q2e {fu:Nat} {r:Request} (h:Sm fu r) (id:Int):Qjj fu r id=some (Qxz (Qs0 r id)):=by
 have hfu:=h.fu
 have ht:=h.types
 unfold Qjj Qs0
 refine lp r.fG (λn (_:Unit) i=>Qfm fu r id n i) (λl _=>some (Qxz (l.find? λt=>t.f4==id))) (by omega) ?_ ?_ fu () (by omega)
 · intro n s i x xs hx hd ih
   simp only [Qfm.eq_2]
   unfold Qiz
   simp only [hd,cond_true,hx,Qab,ih (),List.find?_cons]
   cases x.f4==id <;> rfl
 · intro n s i hd
   simp only [Qfm.eq_2]
   unfold Qiz
   simp only [hd,cond_false]
   rfl
def Jil:Box:=⟨0,0,0,0⟩
def Jdp (r:Request) (x:Carton):Int:=match Qs0 r x.fc with
 | some t=>bif Qhu r==0 then t.fO+Qvd r x.f8 else 0
 | none=>0
def Q4p (r:Request) (x:Carton):Box:=match Qs0 r x.fc with
 | some t=>bif Qhu r==0 then ⟨t.fW,t.fD,t.fH,t.fO+Qvd r x.f8⟩ else Jil
 | none=>Jil
theorem Je2 {r:Request} (hc:Qhu r=0) {id:Int} {t:Typ} (ht:Qs0 r id=some t):Q1d t=true∧t∈r.fG∧t.f4=id:=by
 have hm:=List.mem_of_find?_eq_some ht
 have hp:=List.find?_some ht
 exact ⟨Qxu (Qgv hc).1 t hm,hm,by simpa using hp⟩
theorem Jdg {r:Request} (hc:Qhu r=0) {id:Int} {t:Typ} (ht:Qs0 r id=some t):0≤t.fO∧t.fO≤100000:=by
 have:=(Je2 hc ht).1
 simp only [Q1d,Bool.and_eq_true,Qdc] at this
 omega
theorem Q5f {r:Request} (hc:Qhu r=0) {id:Int} {t:Typ} (ht:Qs0 r id=some t) (us:List Int) (hl:us.length≤1048576):w64 (t.fO+Qvd r us)=t.fO+Qvd r us:=by
 have h1:=Jdg hc ht
 have h2:=Q74 r us
 exact Qa1 (by omega) (by omega)
theorem Jbu {fu:Nat} {r:Request} (h:Sm fu r) (x:Carton) (hl:x.f8.length≤1048576):Qrj fu r x=some (Jdp r x):=by
 have hfu:=h.fu
 unfold Qrj Jdp
 rw [Qxx h,Qab,Q0p]
 cases ht:Qs0 r x.fc with
 | none=>rfl
 | some t =>
  rw [Qt2 h]
  simp only [Option.isSome_some,Bool.not_true,cond_false,Qab]
  cases hc:Qhu r==0
  · rfl
  · have hc':Qhu r=0:=by simpa using hc
    unfold Qql
    rw [Jec h _ hl (by omega)]
    simp only [Bool.not_true,cond_false,cond_true,Qab,Qxz,Q5f hc' ht _ hl]
theorem Jca {fu:Nat} {r:Request} (h:Sm fu r) (x:Carton) (hl:x.f8.length≤1048576):Qri fu r x=some (Jdp r x):=by
 have hfu:=h.fu
 unfold Qri Jdp
 rw [Q2e h,Qab,Q0p,Q16 h,Qab]
 cases hc:Qhu r==0
 · have:(Qhu r != 0)=true:=by simp only [bne,hc]; rfl
   rw [this]
   cases Qs0 r x.fc <;> rfl
 · have hc':Qhu r=0:=by simpa using hc
   rw [show (Qhu r != 0)=false by simp [hc'],cond_false]
   cases ht:Qs0 r x.fc with
   | none=>rfl
   | some t =>
    unfold Qqt
    rw [Jid h _ hl (by omega)]
    simp only [Option.isSome_some,Bool.not_true,cond_false,cond_true,Qab,Qxz,Q5f hc' ht _ hl]
theorem Jfh {fu:Nat} {r:Request} (h:Sm fu r) (x:Carton) (hl:x.f8.length≤1048576):Qrh fu r x=some (Q4p r x):=by
 unfold Qrh Q4p
 rw [Qxx h,Qab,Q0p]
 cases ht:Qs0 r x.fc with
 | none=>rfl
 | some t =>
  rw [Qt2 h]
  simp only [Option.isSome_some,Bool.not_true,cond_false,Qab]
  cases hc:Qhu r==0
  · rfl
  · unfold Qqu
    rw [Jbu h x hl]
    simp only [Jdp,ht,hc,Bool.not_true,cond_false,cond_true,Qab,Qxz]
theorem Jfz {fu:Nat} {r:Request} (h:Sm fu r) (x:Carton) (hl:x.f8.length≤1048576):Qrg fu r x=some (Q4p r x):=by
 unfold Qrg Q4p
 rw [Q2e h,Qab,Q0p,Q16 h,Qab]
 cases hc:Qhu r==0
 · have:(Qhu r != 0)=true:=by simp only [bne,hc]; rfl
   rw [this]
   cases Qs0 r x.fc <;> rfl
 · have hc':Qhu r=0:=by simpa using hc
   rw [show (Qhu r != 0)=false by simp [hc'],cond_false]
   cases ht:Qs0 r x.fc with
   | none=>rfl
   | some t =>
    unfold Qqn
    rw [Jca h x hl]
    simp only [Jdp,ht,hc,Option.isSome_some,Bool.not_true,cond_false,cond_true,Qab,Qxz]
theorem Jb7 (fu:Nat) (n:Int):Qg9 fu n=some (inb n 0 2000):=by unfold Qg9; rw [Q0l]; rfl
def Q9e (n:Int) (s:Spot):Int:=bif inb s.fJ 0 999999 then (if s.fJ+1>n then s.fJ+1 else n) else n
def Jax (l:List Spot):Int:=l.foldl Q9e 0
theorem Jck {n:Int} (s:Spot) (h:0≤n∧n≤1000000):0≤Q9e n s∧Q9e n s≤1000000:=by
 unfold Q9e
 cases hi:inb s.fJ 0 999999
 · exact h
 · have:=Qdc.1 hi
   simp only [cond_true]
   split <;> omega
theorem Q8q:∀ (l:List Spot) {n:Int},0≤n∧n≤1000000→0≤l.foldl Q9e n∧l.foldl Q9e n≤1000000
 | [],_,h=>h
 | s::l,_,h=>Q8q l (Jck s h)
theorem Q6t (l:List Spot):0≤Jax l∧Jax l≤1000000:=Q8q l (by omega)
theorem Jej {fu:Nat} {l:List Spot} (hl:l.length≤1048576) (hf:l.length<fu):Ql4 fu l=some (Jax l):=by
 unfold Ql4
 have key:=lp l (λn (s:Int) i=>Qe1 fu l n s i) (λl s=>some (l.foldl Q9e s)) (by omega) ?_ ?_ fu 0 hf
 · exact key
 · intro n s i x xs hx hd ih
   simp only [Qe1.eq_2]
   unfold Qkq Qjl
   simp only [hd,cond_true,hx,Qab,Q0l,ih,List.foldl_cons]
   unfold Q9e
   cases hi:inb x.fJ 0 999999
   · rfl
   · have:=Qdc.1 hi
     simp only [cond_true]
     rw [Qa1 (by omega) (by omega)]
 · intro n s i hd
   simp only [Qe1.eq_2]
   unfold Qkq
   simp only [hd,cond_false]
   rfl
theorem Q93 (fu:Nat) (a b:Int):Qjt fu a b=some (if a>b then a else b):=by
 unfold Qjt
 by_cases h:a>b
 · simp [h]
 · simp [h]
theorem Jfv {fu:Nat} {l:List Spot} (hl:l.length≤1048576) (hf:l.length<fu):Qoo fu l=some (Jax l):=by
 unfold Qoo
 have key:=lp l (λn (s:Int) i=>Qfb fu l n s i) (λl s=>some (l.foldl Q9e s)) (by omega) ?_ ?_ fu 0 hf
 · exact key
 · intro n s i x xs hx hd ih
   simp only [Qfb.eq_2]
   unfold Qk6 Qjf
   simp only [hd,cond_true,hx,Qab,Q0h,Q93,ih,List.foldl_cons]
   unfold Q9e
   cases hi:inb x.fJ 0 999999
   · rfl
   · have:=Qdc.1 hi
     simp only [cond_true]
     rw [Qa1 (by omega) (by omega)]
     congr 2
     split <;> split <;> omega
 · intro n s i hd
   simp only [Qfb.eq_2]
   unfold Qk6
   simp only [hd,cond_false]
   rfl
def Jdv (g:List Int→Bool) (out:List (List Int)) (u:Int):List (List Int):=match Qxf g out with
 | some i=>match out[i]? with
  | some x=>out.set i (x++[u])
  | none=>out
 | none=>out++[[u]]
def Q2a (r:Request) (u:Int) (l:List Int):Bool:=Q27 r (l++[u]) (Qwb r)
def Jdt (r:Request) (out:List (List Int)) (u:Int):List (List Int):=Jdv (Q2a r u) out u
def Q6g (r:Request) (out:List (List Int)) (u:Int):List (List Int):=match out.getLast? with
 | some l=>bif Q2a r u l then out.set (out.length - 1) (l++[u]) else out++[[u]]
 | none=>[[u]]
theorem Qyi {r:Request} {out:List (List Int)} {l:List Int} (u:Int) (h:out.getLast? = some l):Q6g r out u=bif Q2a r u l then out.set (out.length - 1) (l++[u]) else out++[[u]]:=by unfold Q6g; rw [h]
def Jbi (r:Request) (us:List Int):List Int:=(srt (dnk (us.map λu=>Qwp r [u])) us.length).map λp=>(ix us p).getD 0
def nfM (r:Request) (us:List Int):List (List Int):=(Qux r us).foldl (Q6g r) []
def ffM (r:Request) (us:List Int):List (List Int):=(Jbi r (Qux r us)).foldl (Jdt r) []
def pwM (r:Request) (us:List Int):List (List Int):=bif r.fe==1 then nfM r us else ffM r us
theorem Q36 {g:List Int→Bool} {out:List (List Int)} {n:Nat} (u:Int) (h:okG n out):okG (n+1) (Jdv g out u):=by
 obtain ⟨h1,h2⟩:=h
 unfold Jdv
 split
 · rename_i i hi
   split
   · rename_i x hx
     refine ⟨by simp; omega,λl hl=>?_⟩
     rcases List.mem_or_eq_of_mem_set hl with hl | rfl
     · have:=h2 l hl; omega
     · have:=h2 x (List.mem_of_getElem? hx); simp; omega
   · exact ⟨by omega,λl hl=>by have:=h2 l hl; omega⟩
 · refine ⟨by simp; omega,λl hl=>?_⟩
   rcases List.mem_append.1 hl with hl | hl
   · have:=h2 l hl; omega
   · rw [List.mem_singleton.1 hl]; simp
theorem Q38 {r:Request} {out:List (List Int)} {n:Nat} (u:Int) (h:okG n out):okG (n+1) (Q6g r out u):=by
 obtain ⟨h1,h2⟩:=h
 unfold Q6g
 split
 · rename_i x hx
   have hm:=List.mem_of_getLast? hx
   cases Q2a r u x
   · refine ⟨by simp; omega,λl hl=>?_⟩
     rcases List.mem_append.1 hl with hl | hl
     · have:=h2 l hl; omega
     · rw [List.mem_singleton.1 hl]; simp
   · refine ⟨by simp; omega,λl hl=>?_⟩
     rcases List.mem_or_eq_of_mem_set hl with hl | rfl
     · have:=h2 l hl; omega
     · have:=h2 x hm; simp; omega
 · exact ⟨by simp,λl hl=>by rw [List.mem_singleton.1 hl]; simp⟩
theorem Q3j {F:List (List Int)→Int→List (List Int)} (hF:∀ out n u,okG n out→okG (n+1) (F out u)):∀ (l:List Int) {out:List (List Int)} {n:Nat},okG n out→okG (n+l.length) (l.foldl F out)
 | [],_,_,h=>h
 | u::l,out,n,h=>by
  have:=Q3j hF l (hF out n u h)
  rw [List.foldl_cons,List.length_cons,show n+(l.length+1)=n+1+l.length by omega]
  exact this
theorem Jd5 {r:Request} {us:List Int} (h:us.length≤12):(Qux r us).length≤12:=Nat.le_trans (Qvf r us) h
theorem Q91 (r:Request) (us:List Int):(Jbi r us).length=us.length:=by simp [Jbi,Qsw]
theorem Q44 {r:Request} {us:List Int} (h:us.length≤12):okG 12 (pwM r us):=by
 have ht:=Jd5 (r:=r) h
 have h0:okG 0 ([]:List (List Int)):=⟨by simp,by simp⟩
 unfold pwM
 cases r.fe==1
 · have:=Q3j (F:=Jdt r) (λout n u ho=>Q36 u ho) (Jbi r (Qux r us)) h0
   rw [Q91] at this
   exact ⟨by have:=this.1; simp only [cond_false]; unfold ffM; omega,λl hl=>by have:=this.2 l hl; omega⟩
 · have:=Q3j (F:=Q6g r) (λout n u ho=>Q38 u ho) (Qux r us) h0
   exact ⟨by have:=this.1; simp only [cond_true]; unfold nfM; omega,λl hl=>by have:=this.2 l hl; omega⟩
theorem Q7f {g:List Int→Bool} {out:List (List Int)} {c:Int} {n:Nat} (h:okG n out) (hn:n≤1048576) {β:Type} (k:List (List Int)→Option β) (a:Int) (ha:a=match Qxf g out with | some i=>(i:Int) | none=>-1) :
    (bif (decide (a<0)) then Qac (Qfh 24 out [([c]:List Int)]) λx=>k x else Qac (ix out a) λx=>Qac (Qfh 8 x (([c]:List Int))) λy=>Qac (ix out a) λz=>k (Qhs out a y))=k (Jdv g out c):=by
 obtain ⟨h1,h2⟩:=h
 unfold Jdv
 cases hf:Qxf g out with
 | none =>
  rw [hf] at ha
  simp only at ha
  subst ha
  rw [Qa0 (by simp),ap1 (by simp; omega),Qab]
 | some i =>
  rw [hf] at ha
  simp only at ha
  subst ha
  obtain ⟨x,hx,_⟩:=Qx0 hf
  have:=h2 x (List.mem_of_getElem? hx)
  rw [Qam (by simp),Qlf,hx,Qab,ap1 (by simp; omega),Qab,Qab]
  simp [Qhs,hx]
theorem Q19 {r:Request} (h:(Qhu r==0)=false) (us:List Int):Qux r us=[]:=by
 unfold Qux Qmz
 rw [h]
 apply List.filter_eq_nil_iff.2
 intro u _
 simp; omega
theorem Q9v {fu:Nat} {r:Request} (h:Sm fu r) (hc:Qhu r=0):Qc4 fu r=some (Qmz r):=Jea h hc
theorem Qt7 {α:Type} {out:List α} (h:out≠[]):∃ l,out.getLast? = some l∧ix out ((out.length:Int) - 1)=some l:=by
 cases hl:out.getLast? with
 | none=>exact absurd (List.getLast?_eq_none_iff.1 hl) h
 | some l =>
  have hp:=List.length_pos_iff.2 h
  refine ⟨l,rfl,?_⟩
  rw [show (out.length:Int) - 1=((out.length - 1:Nat):Int) by omega,Qlf,← List.getLast?_eq_getElem?,hl]
theorem Jep {fu:Nat} {r:Request} (h:Sm fu r) (us:List Int) (hl:us.length≤1048575):Qo8 fu r us=some (nfM r us):=by
 have hfu:=h.fu
 have htl:=Qvf r us
 unfold Qo8 nfM
 rw [Q3n h us (by omega),Qab]
 cases hc:Qhu r==0
 · rw [Q19 hc]
   obtain ⟨m,rfl⟩:∃ m,fu=m+1:=⟨fu - 1,by omega⟩
   rw [Qd5.eq_2]; rfl
 · have key:=lpI (Qux r us) (λn (o:List (List Int)) i=>Qd5 fu r (Qux r us) n o i) (λxs o=>some (xs.foldl (Q6g r) o)) (λxs o=>∃ m,m+xs.length≤1048575∧okG m o) (by omega) ?_ ?_ fu [] ⟨0,by omega,by simp,by simp⟩ (by omega)
   · exact key
   · intro n o i u xs hx hd hI ih
     obtain ⟨m,hm,ho⟩:=hI
     simp only [List.length_cons] at hm
     have h1:=ho.1
     have h2:=ho.2
     have hI':=ih (Q6g r o u) ⟨m+1,by omega,Q38 u ho⟩
     simp only [Qd5.eq_2]
     unfold Qjz Qhb
     rw [hd,cond_true,hx,Qab,List.foldl_cons,← hI',Qa1 (by omega) (by omega)]
     by_cases he:o=[]
     · subst he
       rw [decide_eq_false (by simp),cond_false,ap1 (by simp),Qab]; rfl
     · obtain ⟨l,e1,e2⟩:=Qt7 he
       have hp:=List.length_pos_iff.2 he
       have hll:=h2 l (List.mem_of_getLast? e1)
       rw [decide_eq_true (by omega),cond_true,e2,Qab,Q85 h l u (by omega),Qab,hc,Bool.true_and]
       rw [Qyi u e1]
       unfold Q2a
       cases Q27 r (l++[u]) (Qwb r)
       · rw [cond_false,cond_false,ap1 (by simp; omega),Qab]
       · rw [cond_true,cond_true,Qab,ap1 (by simp; omega),Qab,Qab]
         rw [show Qhs o ((o.length:Int) - 1) (l++[u])=o.set (o.length - 1) (l++[u]) by unfold Qhs; congr 1; omega]
   · intro n o i hd _
     simp only [Qd5.eq_2]
     unfold Qjz
     rw [hd,cond_false]; rfl
theorem Jfr {fu:Nat} {r:Request} (h:Sm fu r) (us:List Int) (hl:us.length≤1048575):Qo6 fu r us=some (nfM r us):=by
 have hfu:=h.fu
 have htl:=Qvf r us
 unfold Qo6 nfM
 rw [Q16 h,Qab]
 cases hc:Qhu r==0
 · rw [show (Qhu r != 0)=true by simp only [bne,hc]; rfl,cond_true,Q19 hc]; rfl
 · have hz:Qhu r=0:=by simpa using hc
   rw [show (Qhu r != 0)=false by simp [hz],cond_false,Q9v h hz,Qab,Q8s h us (by omega),Qab]
   unfold Qrv
   rw [Jaf h,Qab,Q9v h hz,Qab]
   have key:=lpI (Qux r us) (λn (o:List (List Int)) i=>Qfz fu r (Qux r us) (Qxz (Qs0 r r.fT)) (Qmz r) n o i) (λxs o=>some (xs.foldl (Q6g r) o)) (λxs o=>∃ m,m+xs.length≤1048575∧okG m o) (by omega) ?_ ?_ fu [] ⟨0,by omega,by simp,by simp⟩ (by omega)
   · rw [key]; rfl
   · intro n o i u xs hx hd hI ih
     obtain ⟨m,hm,ho⟩:=hI
     simp only [List.length_cons] at hm
     have h1:=ho.1
     have h2:=ho.2
     have hI':=ih (Q6g r o u) ⟨m+1,by omega,Q38 u ho⟩
     simp only [Qfz.eq_2]
     unfold Qmn Qhz
     rw [hd,cond_true,List.foldl_cons,← hI',Qa1 (by omega) (by omega)]
     by_cases he:o=[]
     · subst he
       rw [decide_eq_false (by simp),cond_false,hx,Qab,ap1 (by simp),Qab]; rfl
     · obtain ⟨l,e1,e2⟩:=Qt7 he
       have hp:=List.length_pos_iff.2 he
       have hll:=h2 l (List.mem_of_getLast? e1)
       rw [decide_eq_true (by omega),cond_true,e2,Qab,hx,Qab,Ja6,Q5g r _ l u (by omega) (by omega),Qab]
       rw [Qyi u e1]
       unfold Q2a
       cases Q27 r (l++[u]) (Qwb r)
       · rw [cond_false,cond_false,Qab,ap1 (by simp; omega),Qab]
       · rw [cond_true,cond_true,Qab,Qab,ap1 (by simp; omega),Qab,Qab]
         rw [show Qhs o ((o.length:Int) - 1) (l++[u])=o.set (o.length - 1) (l++[u]) by unfold Qhs; congr 1; omega]
   · intro n o i hd _
     simp only [Qfz.eq_2]
     unfold Qmn
     rw [hd,cond_false]; rfl
theorem Q6k {us:List Int} {p:Int} (h:0≤p∧p<us.length):ix us p=some ((ix us p).getD 0):=by
 have:=Qy1 (l:=us) (i:=p.toNat) (by omega)
 rw [show ((p.toNat:Nat):Int)=p by omega] at this
 rw [this]; rfl
theorem Qvx {α β γ:Type} (f:γ→β→γ) (g:α→β):∀ (l:List α) (s:γ),(l.map g).foldl f s=l.foldl (λs x=>f s (g x)) s
 | [],_=>rfl
 | x::l,s=>by rw [List.map_cons,List.foldl_cons,List.foldl_cons,Qvx f g l]
theorem Jdk {fu:Nat} {r:Request} (h:Sm fu r) (us:List Int) (hl:us.length<20):Qnd fu r us=some (ffM r us):=by
 have hfu:=h.fu
 have htl:=Qvf r us
 unfold Qnd ffM Jbi
 rw [Q3n h us (by omega),Qab]
 obtain ⟨t,ht⟩:∃ t,t=Qux r us:=⟨_,rfl⟩
 rw [← ht] at htl ⊢
 have key:=lpI t (λn (o:List Int) i=>Qfl fu r t n o i) (λxs o=>Qac (Qgy fu (o++xs.map λu=>Qwp r [u])) λx=>Qcr fu r t x fu [] 0) (λxs o=>o.length+xs.length≤20) (by omega) ?_ ?_ fu [] (by simp; omega) (by omega)
 · rw [key,List.nil_append,Ja0 hfu (by simp; omega),Qab,Qvx,List.length_map]
   have hsl:=Qsw (dnk (t.map λu=>Qwp r [u])) t.length
   have hsm:=λx=>Qv3 (k:=dnk (t.map λu=>Qwp r [u])) (n:=t.length) (x:=x)
   generalize srt (dnk (t.map λu=>Qwp r [u])) t.length=S at hsl hsm ⊢
   cases hc:Qhu r==0
   · have:t=[]:=by rw [ht]; exact Q19 hc us
     subst this
     have:S=[]:=List.length_eq_zero_iff.1 (by simpa using hsl)
     subst this
     obtain ⟨m,rfl⟩:∃ m,fu=m+1:=⟨fu - 1,by omega⟩
     rw [Qcr.eq_2]; rfl
   · have key1:=lpI S (λn (o:List (List Int)) i=>Qcr fu r t S n o i) (λxs o=>some (xs.foldl (λs p=>Jdt r s ((ix t p).getD 0)) o)) (λxs o=>(∃ m,m+xs.length≤20∧okG m o)∧∀ p∈xs,0≤p∧p<t.length) (by omega) ?_ ?_ fu [] ⟨⟨0,by omega,by simp,by simp⟩,λp hp=>(hsm p).1 hp⟩ (by omega)
     · exact key1
     · intro n o i p xs hx hd hI ih
       obtain ⟨⟨m,hm,ho⟩,hin⟩:=hI
       simp only [List.length_cons] at hm
       have hp:=Q6k (hin p (by simp))
       simp only [Qcr.eq_2]
       unfold Qil Qid
       rw [hd,cond_true,hx,Qab,hp,Qab,List.foldl_cons]
       generalize (ix t p).getD 0=u
       rw [Q20 (λy=>Qjg fu y r u) (Q2a r u) (λl hl=>by
        have:=ho.2 l hl
        unfold Qjg Q2a
        rw [Q85 h l u (by omega),Qab,hc,Bool.true_and]) (by have:=ho.1; omega) (by have:=ho.1; omega),Qab]
       refine (Q7f (g:=Q2a r u) (c:=u) ho (by omega) (λx=>Qcr fu r t S n x (w64 (i+1))) (Qwm (Q2a r u) o 0) (by
        rw [Q0v]
        cases Qxf (Q2a r u) o <;> simp)).trans ?_
       exact ih _ ⟨⟨m+1,by omega,Q36 u ho⟩,λq hq=>hin q (by simp [hq])⟩
     · intro n o i hd _
       simp only [Qcr.eq_2]
       unfold Qil
       rw [hd,cond_false]; rfl
 · intro n o i u xs hx hd hI ih
   simp only [List.length_cons] at hI
   simp only [Qfl.eq_2]
   unfold Qiq
   rw [hd,cond_true,hx,Qab,Q8g h [u] (by simp) (by simp; omega),Qab,ap1 (by simp; omega),Qab,ih _ (by simp; omega)]
   simp
 · intro n o i hd _
   simp only [Qfl.eq_2]
   unfold Qiq
   rw [hd,cond_false]; simp
theorem Jb3 {fu:Nat} {r:Request} (h:Sm fu r) (us:List Int) (hl:us.length<20):Qm8 fu r us=some (ffM r us):=by
 have hfu:=h.fu
 have htl:=Qvf r us
 unfold Qm8 ffM Jbi
 rw [Q16 h,Qab]
 cases hc:Qhu r==0
 · rw [show (Qhu r != 0)=true by simp only [bne,hc]; rfl,cond_true,Q19 hc]; rfl
 · have hz:Qhu r=0:=by simpa using hc
   rw [show (Qhu r != 0)=false by simp [hz],cond_false,Q9v h hz,Qab,Q8s h us (by omega),Qab]
   unfold Qq8
   rw [Jaf h,Qab,Q9v h hz,Qab]
   generalize Qux r us=t at htl ⊢
   have key:=lpI t (λn (o:List Int) i=>Qgh fu r t (Qxz (Qs0 r r.fT)) (Qmz r) n o i) (λxs o=>Qac (Qgw fu (o++xs.map λu=>Qwp r [u])) λx=>Qcp fu r t (Qxz (Qs0 r r.fT)) (Qmz r) x fu [] 0) (λxs o=>o.length+xs.length≤20) (by omega) ?_ ?_ fu [] (by simp; omega) (by omega)
   · rw [key,List.nil_append,Jav hfu (by simp; omega),Qab,Qvx,List.length_map]
     have hsl:=Qsw (dnk (t.map λu=>Qwp r [u])) t.length
     have hsm:=λx=>Qv3 (k:=dnk (t.map λu=>Qwp r [u])) (n:=t.length) (x:=x)
     generalize srt (dnk (t.map λu=>Qwp r [u])) t.length=S at hsl hsm ⊢
     have key1:=lpI S (λn (o:List (List Int)) i=>Qcp fu r t (Qxz (Qs0 r r.fT)) (Qmz r) S n o i) (λxs o=>some (xs.foldl (λs p=>Jdt r s ((ix t p).getD 0)) o)) (λxs o=>(∃ m,m+xs.length≤20∧okG m o)∧∀ p∈xs,0≤p∧p<t.length) (by omega) ?_ ?_ fu [] ⟨⟨0,by omega,by simp,by simp⟩,λp hp=>(hsm p).1 hp⟩ (by omega)
     · rw [key1]; rfl
     · intro n o i p xs hx hd hI ih
       obtain ⟨⟨m,hm,ho⟩,hin⟩:=hI
       simp only [List.length_cons] at hm
       have hp:=Q6k (hin p (by simp))
       have ho1:=ho.1
       simp only [Qcp.eq_2]
       unfold Qkc
       rw [hd,cond_true,hx,Qab,hp,Qab,List.foldl_cons]
       generalize (ix t p).getD 0=u
       obtain ⟨K,hK⟩:∃ K,K=Qcp fu r t (Qxz (Qs0 r r.fT)) (Qmz r) S n:=⟨_,rfl⟩
       rw [← hK] at ih ⊢
       obtain ⟨R,hR⟩:∃ R:Int→Option (List (List Int)),R=λa=>bif (decide (a<0)) then Qac (Qfh 24 o [([u]:List Int)]) λx=>K x (w64 (i+1)) else Qac (ix o a) λx=>Qac (Qfh 8 x (([u]:List Int))) λy=>Qac (ix o a) λz=>K (Qhs o a y) (w64 (i+1)):=⟨_,rfl⟩
       have hD:=lpD o.length (λn a j=>Qe4 fu K r (Qxz (Qs0 r r.fT)) (Qmz r) o i u n a j) (λxs a=>R (xs.foldl (Jbn (Q2a r u) o) a)) (by omega) ?_ ?_ fu (-1) (by omega)
       · rw [hD,hR]
         refine (Q7f (g:=Q2a r u) (c:=u) ho (by omega) (λx=>K x (w64 (i+1))) _ ?_).trans (ih _ ⟨⟨m+1,by omega,Q36 u ho⟩,λq hq=>hin q (by simp [hq])⟩)
         rw [Qyo (Q2a r u) o o.length (-1) (Nat.le_refl _),List.take_length]
         cases Qxf (Q2a r u) o <;> rfl
       · intro n a j xs h0 h1 hd ih
         simp only [Qe4.eq_2]
         unfold Qj9 Qjd
         obtain ⟨j,rfl⟩:∃ q:Nat,j=q:=⟨j.toNat,by omega⟩
         have hj:j<o.length:=by omega
         have hg:=ho.2 _ (List.getElem_mem hj)
         rw [hd,cond_true,Qy1 hj,Qab,Ja6,Q5g r _ _ u (by omega) (by omega),Qab]
         have e:Jbn (Q2a r u) o a (j:Int)=bif Q27 r (o[j]++[u]) (Qwb r) then (j:Int) else a:=by unfold Jbn atB Q2a; rw [Qy1 hj]
         simp only [ih,List.foldl_cons,e]
         cases Q27 r (o[j]++[u]) (Qwb r) <;> rfl
       · intro n a j hd
         simp only [Qe4.eq_2]
         unfold Qj9 Qja
         rw [hd,cond_false,hR]; rfl
     · intro n o i hd _
       simp only [Qcp.eq_2]
       unfold Qkc
       rw [hd,cond_false]; rfl
   · intro n o i u xs hx hd hI ih
     simp only [List.length_cons] at hI
     obtain ⟨i0,i1,i2⟩:=Qan hx
     have e:sls t i (w64 (i+1))=some [u]:=by
      rw [Qa1 (by omega) (by omega),Qtb (by omega)]
      congr 1
      rw [show (i+1).toNat - i.toNat=1 by omega]
      have hlt:=(List.getElem?_eq_some_iff.1 i2).1
      have heq:=(List.getElem?_eq_some_iff.1 i2).2
      rw [List.drop_eq_getElem_cons hlt,heq]; rfl
     simp only [Qgh.eq_2]
     unfold Qj6
     rw [hd,cond_true,e,Qab,Q7o r [u] (by simp) (by simp; omega),Qab,ap1 (by simp; omega),Qab,ih _ (by simp; omega)]
     simp
   · intro n o i hd _
     simp only [Qgh.eq_2]
     unfold Qj6
     rw [hd,cond_false]; simp
theorem Jgt {fu:Nat} {r:Request} (h:Sm fu r) (us:List Int) (hl:us.length<20):Qom fu r us=some (pwM r us):=by
 unfold Qom pwM
 rw [Jep h us (by omega),Jdk h us hl]
 cases r.fe==1 <;> rfl
theorem Jhn {fu:Nat} {r:Request} (h:Sm fu r) (us:List Int) (hl:us.length<20):Qo9 fu r us=some (pwM r us):=by
 unfold Qo9 pwM
 rw [Jfr h us (by omega),Jb3 h us hl]
 cases r.fe==1 <;> rfl
theorem Q31 {α:Type} {l:List α} {i:Int} (h0:0≤i) (h1:i<l.length):∃ x,ix l i=some x:=by
 obtain ⟨j,rfl⟩:∃ j:Nat,i=j:=⟨i.toNat,by omega⟩
 exact ⟨_,Qy1 (by omega)⟩
def Q99 (p:Pallet) (b:Box):Bool:=inb b.fW 1 p.fW&&(inb b.fD 1 p.fD&&(inb b.fH 1 p.fH&&inb b.fQ 1 p.fQ))
def Qy0 (p:Pallet) (l:List Box):Bool:=Qu0 p&&l.all (Q99 p)
theorem Jfb {fu:Nat} (p:Pallet) (l:List Box) (hl:l.length≤1048576) (hf:l.length<fu):Qlv fu p l=some (Qy0 p l):=by
 unfold Qlv Qy0
 rw [Jad,Qab]
 cases Qu0 p
 · rfl
 · rw [Bool.not_true,cond_false,Bool.true_and]
   have:=Jch l (λn i=>Qe8 fu p l n i) (Q99 p) (some true) (by omega) ?_ ?_ fu hf
   · rw [this]
     cases l.all (Q99 p) <;> rfl
   · intro n i x hx hd
     simp only [Qe8.eq_2]
     unfold Qk5 Qnq Q99
     simp only [hd,cond_true,hx,Qab,Q0h]
     cases inb x.fW 1 p.fW <;> cases inb x.fD 1 p.fD <;> cases inb x.fH 1 p.fH <;> cases inb x.fQ 1 p.fQ <;> rfl
   · intro n i hd
     simp only [Qe8.eq_2]
     unfold Qk5
     rw [hd,cond_false]
def nxG {σ:Type} (fits:σ→Bool) (add:σ→σ) (z:σ) (out:List σ):List σ:=match out.getLast? with
 | some s=>bif fits s then out.set (out.length - 1) (add s) else out++[add z]
 | none=>[add z]
theorem Qt9 {σ:Type} {fits:σ→Bool} {add:σ→σ} {z:σ} {out:List σ} {s:σ} (h:out.getLast? = some s):nxG fits add z out=bif fits s then out.set (out.length - 1) (add s) else out++[add z]:=by unfold nxG; rw [h]
theorem Qs7 {σ:Type} (fits:σ→Bool) (add:σ→σ) (z:σ) (out:List σ):(nxG fits add z out).length≤out.length+1:=by
 unfold nxG
 split
 · cases fits _ <;> simp
 · simp
theorem Q3y {σ:Type} {fits:σ→Bool} {add:σ→σ} {z:σ} {out:List σ} {I:σ→Prop} (h:∀ s∈out,I s) (ha:∀ s,I s→fits s=true→I (add s)) (hz:I (add z)):∀ s∈nxG fits add z out,I s:=by
 intro s hs
 unfold nxG at hs
 split at hs
 · rename_i x hx
   have hm:=List.mem_of_getLast? hx
   cases hf:fits x
   · rw [hf,cond_false] at hs
     rcases List.mem_append.1 hs with hs | hs
     · exact h s hs
     · rw [List.mem_singleton.1 hs]; exact hz
   · rw [hf,cond_true] at hs
     rcases List.mem_or_eq_of_mem_set hs with hs | rfl
     · exact h s hs
     · exact ha x (h x hm) hf
 · rw [List.mem_singleton.1 hs]; exact hz
theorem Qrt {σ:Type} {fits:σ→Bool} {add:σ→σ} {z:σ} {out:List σ} {f:σ→List Int} {i:Int} (ha:∀ s,f (add s)=f s++[i]) (hz:f z=[]):((nxG fits add z out).map f).flatten=(out.map f).flatten++[i]:=by
 unfold nxG
 split
 · rename_i x hx
   cases fits x
   · rw [cond_false,List.map_append,List.flatten_append]
     simp [ha,hz]
   · rw [cond_true]
     have hne:out≠[]:=by intro e; rw [e] at hx; simp at hx
     have e:out=out.dropLast++[x]:=by
      have h1:=List.dropLast_concat_getLast hne
      rw [List.getLast?_eq_some_getLast hne] at hx
      rw [Option.some.inj hx] at h1
      exact h1.symm
     obtain ⟨d,hd⟩:∃ d,out=d++[x]:=⟨_,e⟩
     rw [hd]
     simp [ha]
 · rename_i hx
   have:out=[]:=List.getLast?_eq_none_iff.1 hx
   subst this
   simp [ha,hz]
def mxI (a b:Int):Int:=if a>b then a else b
theorem Qz7 (a b:Int):a≤mxI a b∧b≤mxI a b∧(mxI a b=a∨mxI a b=b):=by unfold mxI; split <;> omega
def zBx:Box:=⟨0,0,0,0⟩
def bxA (l:List Box) (i:Int):Box:=(ix l i).getD zBx
def zSh:Shelf:=⟨[],0,0,0,0⟩
def Qrn (s:Shelf) (i:Int) (b:Box):Shelf:=⟨s.f0++[i],s.fW+b.fW,mxI s.fD b.fD,mxI s.fH b.fH,s.fQ+b.fQ⟩
def Q51 (p:Pallet) (b:Box) (s:Shelf):Bool:=decide (s.fW+b.fW≤p.fW)&&decide (s.fQ+b.fQ≤p.fQ)
def shS (p:Pallet) (l:List Box) (out:List Shelf) (i:Int):List Shelf:=nxG (Q51 p (bxA l i)) (λs=>Qrn s i (bxA l i)) zSh out
def shM (p:Pallet) (l:List Box):List Shelf:=bif Qy0 p l then (srt (dnk (l.map (·.fD))) l.length).foldl (shS p l) [] else []
structure ShI (p:Pallet) (n:Nat) (s:Shelf):Prop where
 ne:s.f0≠[]
 inn:∀ i∈s.f0,0≤i∧i<n
 w:1≤s.fW∧s.fW≤p.fW
 d:1≤s.fD∧s.fD≤p.fD
 h:1≤s.fH∧s.fH≤p.fH
 g:1≤s.fQ∧s.fQ≤p.fQ
theorem Q29 {p:Pallet} {l:List Box} (h:Qy0 p l=true) {i:Int} (hi:0≤i∧i<l.length):ix l i=some (bxA l i)∧(1≤(bxA l i).fW∧(bxA l i).fW≤p.fW)∧(1≤(bxA l i).fD∧(bxA l i).fD≤p.fD)∧(1≤(bxA l i).fH∧(bxA l i).fH≤p.fH)∧(1≤(bxA l i).fQ∧(bxA l i).fQ≤p.fQ):=by
 obtain ⟨x,hx⟩:=Q31 (l:=l) hi.1 hi.2
 have e:bxA l i=x:=by unfold bxA; rw [hx]; rfl
 unfold Qy0 at h
 simp only [Bool.and_eq_true] at h
 have:=List.all_eq_true.1 h.2 x (Qml hx)
 simp only [Q99,Bool.and_eq_true,Qdc] at this
 rw [e]
 exact ⟨hx,this.1,this.2.1,this.2.2.1,this.2.2.2⟩
theorem Qwk {p:Pallet} (h:Qu0 p=true):(1≤p.fW∧p.fW≤2000)∧(1≤p.fD∧p.fD≤2000)∧(1≤p.fH∧p.fH≤2000)∧(1≤p.fQ∧p.fQ≤100000):=by
 simp only [Qu0,Bool.and_eq_true,Qdc] at h
 exact ⟨h.1,h.2.1,h.2.2.1,h.2.2.2⟩
theorem Q00 {p:Pallet} {l:List Box} (h:Qy0 p l=true):Qu0 p=true:=by
 unfold Qy0 at h
 simp only [Bool.and_eq_true] at h
 exact h.1
theorem Q3g {p:Pallet} {l:List Box} (hb:Qy0 p l=true) {out:List Shelf} {i:Int} (hi:0≤i∧i<l.length) (h:∀ s∈out,ShI p l.length s):∀ s∈shS p l out i,ShI p l.length s:=by
 obtain ⟨_,b1,b2,b3,b4⟩:=Q29 hb hi
 refine Q3y h (λs hs hf=>?_) ⟨by simp [Qrn],λj hj=>?_,?_,?_,?_,?_⟩
 · unfold Q51 at hf
   simp only [Bool.and_eq_true,decide_eq_true_eq] at hf
   obtain ⟨s1,s2,s3,s4,s5,s6⟩:=hs
   have m1:=Qz7 s.fD (bxA l i).fD
   have m2:=Qz7 s.fH (bxA l i).fH
   refine ⟨by simp [Qrn],λj hj=>?_,?_,?_,?_,?_⟩
   · simp only [Qrn,List.mem_append,List.mem_singleton] at hj
     rcases hj with hj | rfl
     · exact s2 j hj
     · exact hi
   · simp only [Qrn]; omega
   · simp only [Qrn]; omega
   · simp only [Qrn]; omega
   · simp only [Qrn]; omega
 · simp only [Qrn,zSh,List.nil_append,List.mem_singleton] at hj
   rw [hj]; exact hi
 · simp only [Qrn,zSh]; omega
 · have:=Qz7 0 (bxA l i).fD
   simp only [Qrn,zSh]; omega
 · have:=Qz7 0 (bxA l i).fH
   simp only [Qrn,zSh]; omega
 · simp only [Qrn,zSh]; omega
theorem Q7t {p:Pallet} {l:List Box} (hb:Qy0 p l=true):∀ (is:List Int) (out:List Shelf),(∀ i∈is,0≤i∧i<l.length)→(∀ s∈out,ShI p l.length s)→(∀ s∈is.foldl (shS p l) out,ShI p l.length s)∧((is.foldl (shS p l) out).map (·.f0)).flatten=(out.map (·.f0)).flatten++is∧(is.foldl (shS p l) out).length≤out.length+is.length
 | [],out,_,h=>⟨h,by simp,by simp⟩
 | i::is,out,hi,h=>by
  rw [List.foldl_cons]
  obtain ⟨h1,h2,h3⟩:=Q7t hb is (shS p l out i) (λj hj=>hi j (by simp [hj])) (Q3g hb (hi i (by simp)) h)
  have h4:((shS p l out i).map (·.f0)).flatten=(out.map (·.f0)).flatten++[i]:=Qrt (λs=>rfl) rfl
  have h5:(shS p l out i).length≤out.length+1:=Qs7 _ _ _ _
  refine ⟨h1,by rw [h2,h4]; simp,by simp; omega⟩
theorem Q0z {p:Pallet} {l:List Box} (hb:Qy0 p l=true):(∀ s∈shM p l,ShI p l.length s)∧((shM p l).map (·.f0)).flatten=srt (dnk (l.map (·.fD))) l.length∧(shM p l).length≤l.length:=by
 unfold shM
 rw [hb,cond_true]
 obtain ⟨h1,h2,h3⟩:=Q7t hb (srt (dnk (l.map (·.fD))) l.length) [] (λi hi=>Qv3.1 hi) (by simp)
 refine ⟨h1,by simpa using h2,?_⟩
 rw [Qsw] at h3
 simpa using h3
theorem Jf0 {fu:Nat} (s:Shelf) (i:Int) (b:Box) (hl:s.f0.length≤1000000) (h1:-1000000000≤s.fW+b.fW∧s.fW+b.fW≤1000000000) (h2:-1000000000≤s.fQ+b.fQ∧s.fQ+b.fQ≤1000000000):Qgq fu s i b=some (Qrn s i b):=by
 unfold Qgq
 rw [ap1 (by simp; omega),Qab,ap1 (by simp; omega),Qab,Q93,Qab,Q93,Qab,Qa1 (by omega) (by omega),Qa1 (by omega) (by omega)]
 rfl
theorem Qq3 {σ:Type} (f:σ→List Int):∀ (l:List σ) (s:σ),s∈l→(f s).length≤((l.map f).flatten).length
 | [],_,h=>by simp at h
 | x::l,s,h=>by
  simp only [List.map_cons,List.flatten_cons,List.length_append]
  rcases List.mem_cons.1 h with rfl | h
  · omega
  · have:=Qq3 f l s h; omega
theorem Q6y {fu:Nat} (hfu:2097153≤fu) (p:Pallet) (l:List Box) (hl:l.length≤1000):Qoy fu p l=some (shM p l):=by
 unfold Qoy shM
 rw [Jfb p l (by omega) (by omega),Qab]
 cases hb:Qy0 p l
 · rfl
 · rw [Bool.not_true,cond_false,cond_true]
   have key:=lpI l (λn (o:List Int) i=>Qgl fu p l n o i) (λxs o=>Qac (Qgw fu (o++xs.map (·.fD))) λx=>Qea fu p l x fu [] 0) (λxs o=>o.length+xs.length≤1000) (by omega) ?_ ?_ fu [] (by simp; omega) (by omega)
   · rw [key,List.nil_append,Jav hfu (by simp; omega),Qab,List.length_map]
     have hsl:=Qsw (dnk (l.map (·.fD))) l.length
     have hsm:=λx=>Qv3 (k:=dnk (l.map (·.fD))) (n:=l.length) (x:=x)
     generalize srt (dnk (l.map (·.fD))) l.length=S at hsl hsm ⊢
     have L1:=lpI S (λn (o:List Shelf) i=>Qea fu p l S n o i) (λxs o=>some (xs.foldl (shS p l) o)) (λxs o=>(∀ i∈xs,0≤i∧i<l.length)∧(∀ s∈o,ShI p l.length s)∧((o.map (·.f0)).flatten).length+xs.length≤1000∧o.length+xs.length≤1000) (by omega) ?_ ?_ fu [] ⟨λi hi=>(hsm i).1 hi,by simp,by simp; omega,by simp; omega⟩ (by omega)
     · exact L1
     · intro n o i x xs hx hd hI ih
       obtain ⟨i1,i2,i3,i4⟩:=hI
       simp only [List.length_cons] at i3 i4
       have hxi:=i1 x (by simp)
       obtain ⟨hbx,b1,b2,b3,b4⟩:=Q29 hb hxi
       obtain ⟨p1,p2,p3,p4⟩:=Qwk (Q00 hb)
       have hn:Qgq fu zSh x (bxA l x)=some (Qrn zSh x (bxA l x)):=Jf0 zSh x _ (by simp [zSh]) (by simp [zSh]; omega) (by simp [zSh]; omega)
       have hn':Qgq fu (⟨[],0,0,0,0⟩:Shelf) x (bxA l x)=some (Qrn zSh x (bxA l x)):=hn
       have hflat:((shS p l o x).map (·.f0)).flatten=(o.map (·.f0)).flatten++[x]:=Qrt (λs=>rfl) rfl
       have hlen:(shS p l o x).length≤o.length+1:=Qs7 _ _ _ _
       have ih':=ih (shS p l o x) ⟨λj hj=>i1 j (by simp [hj]),Q3g hb hxi i2,by rw [hflat,List.length_append,List.length_singleton]; omega,by omega⟩
       simp only [Qea.eq_2]
       unfold Qjx Qgg
       rw [hd,cond_true,hx,Qab,hbx,Qab,List.foldl_cons,← ih',hn',Qab]
       by_cases he:o=[]
       · subst he
         rw [Qam (by simp),Qab,ap1 (by simp),Qab]; rfl
       · obtain ⟨s,e1,e2⟩:=Qt7 he
         have hp:=List.length_pos_iff.2 he
         have hsm':=List.mem_of_getLast? e1
         have hs:=i2 s hsm'
         have hsl':=Qq3 (λs:Shelf=>s.f0) o s hsm'
         rw [Qa1 (n:=(o.length:Int) - 1) (by omega) (by omega),e2,Qab,Qa0 (by simp; omega)]
         obtain ⟨s1,s2,s3,s4,s5,s6⟩:=hs
         rw [Qa1 (n:=s.fW+_) (by omega) (by omega),Qa1 (n:=s.fQ+_) (by omega) (by omega),Qab,Qab,Qab,Jf0 (fu:=fu) s x (bxA l x) (by omega) (by omega) (by omega)]
         simp only [Qab]
         rw [ap1 (by simp; omega),Qab]
         have eS:shS p l o x=bif Q51 p (bxA l x) s then o.set (o.length - 1) (Qrn s x (bxA l x)) else o++[Qrn zSh x (bxA l x)]:=Qt9 e1
         rw [eS]
         unfold Q51
         rw [show Qhs o ((o.length:Int) - 1) (Qrn s x (bxA l x))=o.set (o.length - 1) (Qrn s x (bxA l x)) by unfold Qhs; congr 1; omega]
         cases decide (s.fW+(bxA l x).fW≤p.fW) <;> cases decide (s.fQ+(bxA l x).fQ≤p.fQ) <;> rfl
     · intro n o i hd _
       simp only [Qea.eq_2]
       unfold Qjx
       rw [hd,cond_false]; rfl
   · intro n o i x xs hx hd hI ih
     simp only [List.length_cons] at hI
     simp only [Qgl.eq_2]
     unfold Qj2
     rw [hd,cond_true,hx,Qab,ap1 (by simp; omega),Qab,ih _ (by simp; omega)]
     simp
   · intro n o i hd _
     simp only [Qgl.eq_2]
     unfold Qj2
     rw [hd,cond_false]; simp
def okL (p:Pallet) (d h g:Int):Bool:=inb d 1 p.fD&&(inb h 1 p.fH&&inb g 1 p.fQ)
theorem Je9 (fu:Nat) (p:Pallet) (d h g:Int):Qp4 fu p d h g=some (okL p d h g):=by
 unfold Qp4 okL
 simp only [Q0h,Qab]
 cases inb d 1 p.fD <;> cases inb h 1 p.fH <;> rfl
theorem Jhx {fu:Nat} (p:Pallet) (l:List Shelf) (hl:l.length≤1048576) (hf:l.length<fu):Qlm fu p l=some (Qu0 p&&l.all λs=>okL p s.fD s.fH s.fQ):=by
 unfold Qlm
 rw [Jad,Qab]
 cases Qu0 p
 · rfl
 · rw [Bool.not_true,cond_false,Bool.true_and]
   have:=Jch l (λn i=>Qez fu p l n i) (λs=>okL p s.fD s.fH s.fQ) (some true) (by omega) ?_ ?_ fu hf
   · rw [this]
     cases l.all λs=>okL p s.fD s.fH s.fQ <;> rfl
   · intro n i x hx hd
     simp only [Qez.eq_2]
     unfold Qh7
     simp only [hd,cond_true,hx,Qab,Je9]
     cases okL p x.fD x.fH x.fQ <;> rfl
   · intro n i hd
     simp only [Qez.eq_2]
     unfold Qh7
     rw [hd,cond_false]
theorem Jgo {fu:Nat} (p:Pallet) (l:List Layer) (hl:l.length≤1048576) (hf:l.length<fu):Qm2 fu p l=some (Qu0 p&&l.all λs=>okL p s.fD s.fH s.fQ):=by
 unfold Qm2
 rw [Jad,Qab]
 cases Qu0 p
 · rfl
 · rw [Bool.not_true,cond_false,Bool.true_and]
   have:=Jch l (λn i=>Qfv fu p l n i) (λs=>okL p s.fD s.fH s.fQ) (some true) (by omega) ?_ ?_ fu hf
   · rw [this]
     cases l.all λs=>okL p s.fD s.fH s.fQ <;> rfl
   · intro n i x hx hd
     simp only [Qfv.eq_2]
     unfold Qin
     simp only [hd,cond_true,hx,Qab,Je9]
     cases okL p x.fD x.fH x.fQ <;> rfl
   · intro n i hd
     simp only [Qfv.eq_2]
     unfold Qin
     rw [hd,cond_false]
def shA (l:List Shelf) (i:Int):Shelf:=(ix l i).getD zSh
def zLy:Layer:=⟨[],0,0,0⟩
def Qsv (x:Layer) (i:Int) (s:Shelf):Layer:=⟨x.fP++[i],x.fD+s.fD,mxI x.fH s.fH,x.fQ+s.fQ⟩
def Q56 (p:Pallet) (s:Shelf) (x:Layer):Bool:=decide (x.fD+s.fD≤p.fD)&&decide (x.fQ+s.fQ≤p.fQ)
def lyS (p:Pallet) (l:List Shelf) (out:List Layer) (i:Int):List Layer:=nxG (Q56 p (shA l i)) (λs=>Qsv s i (shA l i)) zLy out
def lyM (p:Pallet) (l:List Shelf):List Layer:=(Qnw 0 l.length).foldl (lyS p l) []
structure LyI (p:Pallet) (n:Nat) (s:Layer):Prop where
 ne:s.fP≠[]
 inn:∀ i∈s.fP,0≤i∧i<n
 d:1≤s.fD∧s.fD≤p.fD
 h:1≤s.fH∧s.fH≤p.fH
 g:1≤s.fQ∧s.fQ≤p.fQ
def OkS (p:Pallet) (l:List Shelf):Prop:=∀ s∈l,(1≤s.fD∧s.fD≤p.fD)∧(1≤s.fH∧s.fH≤p.fH)∧(1≤s.fQ∧s.fQ≤p.fQ)
theorem Q26 {p:Pallet} {l:List Shelf} (h:OkS p l) {i:Int} (hi:0≤i∧i<l.length):ix l i=some (shA l i)∧(1≤(shA l i).fD∧(shA l i).fD≤p.fD)∧(1≤(shA l i).fH∧(shA l i).fH≤p.fH)∧(1≤(shA l i).fQ∧(shA l i).fQ≤p.fQ)∧shA l i∈l:=by
 obtain ⟨x,hx⟩:=Q31 (l:=l) hi.1 hi.2
 have e:shA l i=x:=by unfold shA; rw [hx]; rfl
 rw [e]
 exact ⟨hx,(h x (Qml hx)).1,(h x (Qml hx)).2.1,(h x (Qml hx)).2.2,Qml hx⟩
theorem Q32 {p:Pallet} {l:List Shelf} (hb:OkS p l) {out:List Layer} {i:Int} (hi:0≤i∧i<l.length) (h:∀ s∈out,LyI p l.length s):∀ s∈lyS p l out i,LyI p l.length s:=by
 obtain ⟨_,b1,b2,b3,_⟩:=Q26 hb hi
 refine Q3y h (λs hs hf=>?_) ⟨by simp [Qsv],λj hj=>?_,?_,?_,?_⟩
 · unfold Q56 at hf
   simp only [Bool.and_eq_true,decide_eq_true_eq] at hf
   obtain ⟨s1,s2,s4,s5,s6⟩:=hs
   have m2:=Qz7 s.fH (shA l i).fH
   refine ⟨by simp [Qsv],λj hj=>?_,?_,?_,?_⟩
   · simp only [Qsv,List.mem_append,List.mem_singleton] at hj
     rcases hj with hj | rfl
     · exact s2 j hj
     · exact hi
   · simp only [Qsv]; omega
   · simp only [Qsv]; omega
   · simp only [Qsv]; omega
 · simp only [Qsv,zLy,List.nil_append,List.mem_singleton] at hj
   rw [hj]; exact hi
 · simp only [Qsv,zLy]; omega
 · have:=Qz7 0 (shA l i).fH
   simp only [Qsv,zLy]; omega
 · simp only [Qsv,zLy]; omega
theorem Q8i {p:Pallet} {l:List Shelf} (hb:OkS p l):∀ (is:List Int) (out:List Layer),(∀ i∈is,0≤i∧i<l.length)→(∀ s∈out,LyI p l.length s)→(∀ s∈is.foldl (lyS p l) out,LyI p l.length s)∧((is.foldl (lyS p l) out).map (·.fP)).flatten=(out.map (·.fP)).flatten++is∧(is.foldl (lyS p l) out).length≤out.length+is.length
 | [],out,_,h=>⟨h,by simp,by simp⟩
 | i::is,out,hi,h=>by
  rw [List.foldl_cons]
  obtain ⟨h1,h2,h3⟩:=Q8i hb is (lyS p l out i) (λj hj=>hi j (by simp [hj])) (Q32 hb (hi i (by simp)) h)
  have h4:((lyS p l out i).map (·.fP)).flatten=(out.map (·.fP)).flatten++[i]:=Qrt (λs=>rfl) rfl
  have h5:(lyS p l out i).length≤out.length+1:=Qs7 _ _ _ _
  refine ⟨h1,by rw [h2,h4]; simp,by simp; omega⟩
theorem Q02 {p:Pallet} {l:List Shelf} (hb:OkS p l):(∀ s∈lyM p l,LyI p l.length s)∧((lyM p l).map (·.fP)).flatten=Qnw 0 l.length∧(lyM p l).length≤l.length:=by
 unfold lyM
 obtain ⟨h1,h2,h3⟩:=Q8i hb (Qnw 0 l.length) [] (λi hi=>by have:=Qh1.1 hi; omega) (by simp)
 refine ⟨h1,by simpa using h2,?_⟩
 rw [Qcn] at h3
 simpa using h3
theorem Je8 {p:Pallet} {l:List Shelf} (h:OkS p l):(l.all λs=>okL p s.fD s.fH s.fQ)=true:=by
 refine List.all_eq_true.2 λs hs=>?_
 unfold okL
 simp only [Bool.and_eq_true,Qdc]
 exact ⟨(h s hs).1,(h s hs).2.1,(h s hs).2.2⟩
theorem Q9l {fu:Nat} (hfu:2097153≤fu) {p:Pallet} (hp:Qu0 p=true) {l:List Shelf} (hb:OkS p l) (hl:l.length≤1000):Qni fu p l=some (lyM p l):=by
 unfold Qni lyM
 rw [Jhx p l (by omega) (by omega),hp,Je8 hb,Qab,Bool.and_self,Bool.not_true,cond_false]
 obtain ⟨p1,p2,p3,p4⟩:=Qwk hp
 have L1:=Q54 (l.length:Int) (λn (o:List Layer) i=>Qbm fu p l n o i) (λxs o=>some (xs.foldl (lyS p l) o)) (λxs o=>(∀ s∈o,LyI p l.length s)∧((o.map (·.fP)).flatten).length+xs.length≤1000∧o.length+xs.length≤1000) (by omega) ?_ ?_ l.length fu [] 0 (by omega) (by omega) (by omega) ⟨by simp,by simp [Qcn]; omega,by simp [Qcn]; omega⟩
 · exact L1
 · intro n o i xs x0 x1 hd hI ih
   obtain ⟨i2,i3,i4⟩:=hI
   simp only [List.length_cons] at i3 i4
   obtain ⟨hbx,b1,b2,b3,_⟩:=Q26 hb ⟨x0,x1⟩
   have hflat:((lyS p l o i).map (·.fP)).flatten=(o.map (·.fP)).flatten++[i]:=Qrt (λs=>rfl) rfl
   have hlen:(lyS p l o i).length≤o.length+1:=Qs7 _ _ _ _
   have ih':=ih (lyS p l o i) ⟨Q32 hb ⟨x0,x1⟩ i2,by rw [hflat,List.length_append,List.length_singleton]; omega,by omega⟩
   have J:∀ (o':List Layer) (x:Layer),o'.length≤1000→(x.fP.length≤1000)→(0≤x.fD∧x.fD≤2000)→(0≤x.fQ∧x.fQ≤100000)→Qc3 fu (Qbm fu p l n) i (shA l i) (o'++[x]) ((o'.length:Int)+1)=Qbm fu p l n (o'++[Qsv x i (shA l i)]) (w64 (i+1)):=by
    intro o' x h1 h2 h3 h4
    unfold Qc3 Qms
    have e1:w64 ((o'.length:Int)+1 - 1)=(o'.length:Int):=by rw [Qa1 (by omega) (by omega)]; omega
    have e2:ix (o'++[x]) (o'.length:Int)=some x:=by rw [Qlf]; simp
    rw [e1,e2,Qab,ap1 (by simp; omega),Qab,ap1 (by simp; omega),Qab,Q93,Qab,Qab,Qa1 (n:=x.fD+_) (by omega) (by omega),Qa1 (n:=x.fQ+_) (by omega) (by omega)]
    have e3:∀ y:Layer,Qhs (o'++[x]) (o'.length:Int) y=o'++[y]:=by intro y; simp [Qhs]
    rw [e3]
    rfl
   simp only [Qbm.eq_2]
   unfold Qiv
   rw [hd,cond_true,hbx,Qab,List.foldl_cons,← ih']
   by_cases he:o=[]
   · subst he
     rw [Qa0 (by simp),ap1 (by simp),Qab]
     have:=J [] zLy (by simp) (by simp [zLy]) (by simp [zLy]) (by simp [zLy])
     rw [Qa1 (by simp) (by simp)]
     exact this
   · obtain ⟨s,e1,e2⟩:=Qt7 he
     have hpl:=List.length_pos_iff.2 he
     have hsm':=List.mem_of_getLast? e1
     have hs:=i2 s hsm'
     have hsl':=Qq3 (λs:Layer=>s.fP) o s hsm'
     obtain ⟨s1,s2,s4,s5,s6⟩:=hs
     have eS:lyS p l o i=bif Q56 p (shA l i) s then o.set (o.length - 1) (Qsv s i (shA l i)) else o++[Qsv zLy i (shA l i)]:=Qt9 e1
     have eo:o=o.dropLast++[s]:=by
      have h1:=List.dropLast_concat_getLast he
      rw [List.getLast?_eq_some_getLast he] at e1
      rw [Option.some.inj e1] at h1
      exact h1.symm
     have e3:Qc3 fu (Qbm fu p l n) i (shA l i) o (o.length:Int)=Qbm fu p l n (o.set (o.length - 1) (Qsv s i (shA l i))) (w64 (i+1)):=by
      obtain ⟨d,hd⟩:∃ d,o=d++[s]:=⟨_,eo⟩
      rw [hd] at i4 ⊢
      simp only [List.length_append,List.length_singleton] at i4
      have:=J d s (by omega) (by omega) (by omega) (by omega)
      rw [show (((d++[s]).length:Nat):Int)=(d.length:Int)+1 by simp,this]
      congr 1
      simp
     have e4:Qc3 fu (Qbm fu p l n) i (shA l i) (o++[zLy]) (w64 ((o.length:Int)+1))=Qbm fu p l n (o++[Qsv zLy i (shA l i)]) (w64 (i+1)):=by
      rw [Qa1 (by omega) (by omega)]
      exact J o zLy (by omega) (by simp [zLy]) (by simp [zLy]) (by simp [zLy])
     rw [Qa1 (n:=(o.length:Int) - 1) (by omega) (by omega),e2,Qab,Qam (by simp; omega),Qab,Qa1 (n:=s.fD+_) (by omega) (by omega),Qa1 (n:=s.fQ+_) (by omega) (by omega),ap1 (by simp; omega),Qab,e3]
     rw [show (⟨[],0,0,0⟩:Layer)=zLy from rfl,e4,eS]
     unfold Q56
     by_cases c1:s.fD+(shA l i).fD≤p.fD
     · rw [Qam (c:=decide (s.fD+(shA l i).fD>p.fD)) (by simp; omega),decide_eq_true c1]
       by_cases c2:s.fQ+(shA l i).fQ≤p.fQ
       · rw [Qam (c:=decide (s.fQ+(shA l i).fQ>p.fQ)) (by simp; omega),decide_eq_true c2]; rfl
       · rw [Qa0 (c:=decide (s.fQ+(shA l i).fQ>p.fQ)) (by simp; omega),decide_eq_false c2]; rfl
     · rw [Qa0 (c:=decide (s.fD+(shA l i).fD>p.fD)) (by simp; omega),decide_eq_false c1]; rfl
 · intro n o i hd _
   simp only [Qbm.eq_2]
   unfold Qiv
   rw [hd,cond_false]; rfl
def lyA (l:List Layer) (i:Int):Layer:=(ix l i).getD zLy
def zLd:Load:=⟨[],0,0⟩
def Qs8 (x:Load) (i:Int) (s:Layer):Load:=⟨x.fK++[i],x.fH+s.fH,x.fQ+s.fQ⟩
def Q6b (p:Pallet) (s:Layer) (x:Load):Bool:=decide (x.fH+s.fH≤p.fH)&&decide (x.fQ+s.fQ≤p.fQ)
def ldS (p:Pallet) (l:List Layer) (out:List Load) (i:Int):List Load:=nxG (Q6b p (lyA l i)) (λs=>Qs8 s i (lyA l i)) zLd out
def ldM (p:Pallet) (l:List Layer):List Load:=(Qnw 0 l.length).foldl (ldS p l) []
structure LdI (p:Pallet) (n:Nat) (s:Load):Prop where
 ne:s.fK≠[]
 inn:∀ i∈s.fK,0≤i∧i<n
 h:1≤s.fH∧s.fH≤p.fH
 g:1≤s.fQ∧s.fQ≤p.fQ
def OkY (p:Pallet) (l:List Layer):Prop:=∀ s∈l,(1≤s.fD∧s.fD≤p.fD)∧(1≤s.fH∧s.fH≤p.fH)∧(1≤s.fQ∧s.fQ≤p.fQ)
theorem Q2u {p:Pallet} {l:List Layer} (h:OkY p l) {i:Int} (hi:0≤i∧i<l.length):ix l i=some (lyA l i)∧(1≤(lyA l i).fD∧(lyA l i).fD≤p.fD)∧(1≤(lyA l i).fH∧(lyA l i).fH≤p.fH)∧(1≤(lyA l i).fQ∧(lyA l i).fQ≤p.fQ)∧lyA l i∈l:=by
 obtain ⟨x,hx⟩:=Q31 (l:=l) hi.1 hi.2
 have e:lyA l i=x:=by unfold lyA; rw [hx]; rfl
 rw [e]
 exact ⟨hx,(h x (Qml hx)).1,(h x (Qml hx)).2.1,(h x (Qml hx)).2.2,Qml hx⟩
theorem Q3w {p:Pallet} {l:List Layer} (hb:OkY p l) {out:List Load} {i:Int} (hi:0≤i∧i<l.length) (h:∀ s∈out,LdI p l.length s):∀ s∈ldS p l out i,LdI p l.length s:=by
 obtain ⟨_,b1,b2,b3,_⟩:=Q2u hb hi
 refine Q3y h (λs hs hf=>?_) ⟨by simp [Qs8],λj hj=>?_,?_,?_⟩
 · unfold Q6b at hf
   simp only [Bool.and_eq_true,decide_eq_true_eq] at hf
   obtain ⟨s1,s2,s5,s6⟩:=hs
   refine ⟨by simp [Qs8],λj hj=>?_,?_,?_⟩
   · simp only [Qs8,List.mem_append,List.mem_singleton] at hj
     rcases hj with hj | rfl
     · exact s2 j hj
     · exact hi
   · simp only [Qs8]; omega
   · simp only [Qs8]; omega
 · simp only [Qs8,zLd,List.nil_append,List.mem_singleton] at hj
   rw [hj]; exact hi
 · simp only [Qs8,zLd]; omega
 · simp only [Qs8,zLd]; omega
theorem Q60 {p:Pallet} {l:List Layer} (hb:OkY p l):∀ (is:List Int) (out:List Load),(∀ i∈is,0≤i∧i<l.length)→(∀ s∈out,LdI p l.length s)→(∀ s∈is.foldl (ldS p l) out,LdI p l.length s)∧((is.foldl (ldS p l) out).map (·.fK)).flatten=(out.map (·.fK)).flatten++is∧(is.foldl (ldS p l) out).length≤out.length+is.length
 | [],out,_,h=>⟨h,by simp,by simp⟩
 | i::is,out,hi,h=>by
  rw [List.foldl_cons]
  obtain ⟨h1,h2,h3⟩:=Q60 hb is (ldS p l out i) (λj hj=>hi j (by simp [hj])) (Q3w hb (hi i (by simp)) h)
  have h4:((ldS p l out i).map (·.fK)).flatten=(out.map (·.fK)).flatten++[i]:=Qrt (λs=>rfl) rfl
  have h5:(ldS p l out i).length≤out.length+1:=Qs7 _ _ _ _
  refine ⟨h1,by rw [h2,h4]; simp,by simp; omega⟩
theorem Q35 {p:Pallet} {l:List Layer} (hb:OkY p l):(∀ s∈ldM p l,LdI p l.length s)∧((ldM p l).map (·.fK)).flatten=Qnw 0 l.length∧(ldM p l).length≤l.length:=by
 unfold ldM
 obtain ⟨h1,h2,h3⟩:=Q60 hb (Qnw 0 l.length) [] (λi hi=>by have:=Qh1.1 hi; omega) (by simp)
 refine ⟨h1,by simpa using h2,?_⟩
 rw [Qcn] at h3
 simpa using h3
theorem Jd3 {p:Pallet} {l:List Layer} (h:OkY p l):(l.all λs=>okL p s.fD s.fH s.fQ)=true:=by
 refine List.all_eq_true.2 λs hs=>?_
 unfold okL
 simp only [Bool.and_eq_true,Qdc]
 exact ⟨(h s hs).1,(h s hs).2.1,(h s hs).2.2⟩
theorem Jcf {fu:Nat} (hfu:2097153≤fu) {p:Pallet} (hp:Qu0 p=true) {l:List Layer} (hb:OkY p l) (hl:l.length≤1000):Qou fu p l=some (ldM p l):=by
 unfold Qou ldM
 rw [Jgo p l (by omega) (by omega),hp,Jd3 hb,Qab,Bool.and_self,Bool.not_true,cond_false]
 obtain ⟨p1,p2,p3,p4⟩:=Qwk hp
 have L1:=Q54 (l.length:Int) (λn (o:List Load) i=>Qbt fu p l n o i) (λxs o=>some (xs.foldl (ldS p l) o)) (λxs o=>(∀ s∈o,LdI p l.length s)∧((o.map (·.fK)).flatten).length+xs.length≤1000∧o.length+xs.length≤1000) (by omega) ?_ ?_ l.length fu [] 0 (by omega) (by omega) (by omega) ⟨by simp,by simp [Qcn]; omega,by simp [Qcn]; omega⟩
 · exact L1
 · intro n o i xs x0 x1 hd hI ih
   obtain ⟨i2,i3,i4⟩:=hI
   simp only [List.length_cons] at i3 i4
   obtain ⟨hbx,b1,b2,b3,_⟩:=Q2u hb ⟨x0,x1⟩
   have hflat:((ldS p l o i).map (·.fK)).flatten=(o.map (·.fK)).flatten++[i]:=Qrt (λs=>rfl) rfl
   have hlen:(ldS p l o i).length≤o.length+1:=Qs7 _ _ _ _
   have ih':=ih (ldS p l o i) ⟨Q3w hb ⟨x0,x1⟩ i2,by rw [hflat,List.length_append,List.length_singleton]; omega,by omega⟩
   have J:∀ (o':List Load) (x:Load),o'.length≤1000→(x.fK.length≤1000)→(0≤x.fH∧x.fH≤2000)→(0≤x.fQ∧x.fQ≤100000)→Qde fu (Qbt fu p l n) i (lyA l i) (o'++[x]) ((o'.length:Int)+1)=Qbt fu p l n (o'++[Qs8 x i (lyA l i)]) (w64 (i+1)):=by
    intro o' x h1 h2 h3 h4
    unfold Qde Qoe
    have e1:w64 ((o'.length:Int)+1 - 1)=(o'.length:Int):=by rw [Qa1 (by omega) (by omega)]; omega
    have e2:ix (o'++[x]) (o'.length:Int)=some x:=by rw [Qlf]; simp
    rw [e1,e2,Qab,ap1 (by simp; omega),Qab,ap1 (by simp; omega),Qab,Qab,Qa1 (n:=x.fH+_) (by omega) (by omega),Qa1 (n:=x.fQ+_) (by omega) (by omega)]
    have e3:∀ y:Load,Qhs (o'++[x]) (o'.length:Int) y=o'++[y]:=by intro y; simp [Qhs]
    rw [e3]
    rfl
   simp only [Qbt.eq_2]
   unfold Qle
   rw [hd,cond_true,hbx,Qab,List.foldl_cons,← ih']
   by_cases he:o=[]
   · subst he
     rw [Qa0 (by simp),ap1 (by simp),Qab]
     have:=J [] zLd (by simp) (by simp [zLd]) (by simp [zLd]) (by simp [zLd])
     rw [Qa1 (by simp) (by simp)]
     exact this
   · obtain ⟨s,e1,e2⟩:=Qt7 he
     have hpl:=List.length_pos_iff.2 he
     have hsm':=List.mem_of_getLast? e1
     have hs:=i2 s hsm'
     have hsl':=Qq3 (λs:Load=>s.fK) o s hsm'
     obtain ⟨s1,s2,s5,s6⟩:=hs
     have eS:ldS p l o i=bif Q6b p (lyA l i) s then o.set (o.length - 1) (Qs8 s i (lyA l i)) else o++[Qs8 zLd i (lyA l i)]:=Qt9 e1
     have eo:o=o.dropLast++[s]:=by
      have h1:=List.dropLast_concat_getLast he
      rw [List.getLast?_eq_some_getLast he] at e1
      rw [Option.some.inj e1] at h1
      exact h1.symm
     have e3:Qde fu (Qbt fu p l n) i (lyA l i) o (o.length:Int)=Qbt fu p l n (o.set (o.length - 1) (Qs8 s i (lyA l i))) (w64 (i+1)):=by
      obtain ⟨d,hd⟩:∃ d,o=d++[s]:=⟨_,eo⟩
      rw [hd] at i4 ⊢
      simp only [List.length_append,List.length_singleton] at i4
      have:=J d s (by omega) (by omega) (by omega) (by omega)
      rw [show (((d++[s]).length:Nat):Int)=(d.length:Int)+1 by simp,this]
      congr 1
      simp
     have e4:Qde fu (Qbt fu p l n) i (lyA l i) (o++[zLd]) (w64 ((o.length:Int)+1))=Qbt fu p l n (o++[Qs8 zLd i (lyA l i)]) (w64 (i+1)):=by
      rw [Qa1 (by omega) (by omega)]
      exact J o zLd (by omega) (by simp [zLd]) (by simp [zLd]) (by simp [zLd])
     rw [Qa1 (n:=(o.length:Int) - 1) (by omega) (by omega),e2,Qab,Qam (by simp; omega),Qab,Qa1 (n:=s.fH+_) (by omega) (by omega),Qa1 (n:=s.fQ+_) (by omega) (by omega),ap1 (by simp; omega),Qab,e3]
     rw [show (⟨[],0,0⟩:Load)=zLd from rfl,e4,eS]
     unfold Q6b
     by_cases c1:s.fH+(lyA l i).fH≤p.fH
     · rw [Qam (c:=decide (s.fH+(lyA l i).fH>p.fH)) (by simp; omega),decide_eq_true c1]
       by_cases c2:s.fQ+(lyA l i).fQ≤p.fQ
       · rw [Qam (c:=decide (s.fQ+(lyA l i).fQ>p.fQ)) (by simp; omega),decide_eq_true c2]; rfl
       · rw [Qa0 (c:=decide (s.fQ+(lyA l i).fQ>p.fQ)) (by simp; omega),decide_eq_false c2]; rfl
     · rw [Qa0 (c:=decide (s.fH+(lyA l i).fH>p.fH)) (by simp; omega),decide_eq_false c1]; rfl
 · intro n o i hd _
   simp only [Qbt.eq_2]
   unfold Qle
   rw [hd,cond_false]; rfl
end Go.Proofs.YtpcmapfabndggabGreatDoor
