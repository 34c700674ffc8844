/- RenamedBP: plain lem.. -/
import Derived.Test.YtndfoffokpdjeaaGreatDoorRenamedBP1
set_option linter.unusedSimpArgs false
set_option linter.unusedVariables false
namespace Go.Proofs.YtndfoffokpdjeaaGreatDoor
open Go
open Enc (rd ow)
open Arg (argv)
open Ret (retv)
open Wf (wf)
theorem Q1z (r:Request) (u:Int):0≤(Quk r u).fQ∧(Quk r u).fQ≤100000:=by
 unfold Quk
 cases hm:Qwi r u with
 | none=>simp [Q5o]
 | some x=>exact Q08 (r:=r) (us:=[u]) (by simp [Qtm,List.filterMap_cons,hm])
theorem Jja {fu:Nat} {r:Request} (h:Sm fu r) (us:List Int) (hl:us.length≤1048576) (hf:us.length<fu):Qqm fu r us=some (Qtw r us):=by
 unfold Qqm
 rw [Jkj h,Qaa]
 have key:=lpI us (λn s i=>Qeq fu r us (Qlr r) n s i) (λl n=>some (n+Qtw r l)) (λl n=>0≤n∧n+100000*l.length≤100000*1048576) (by omega) ?_ ?_ fu 0 ⟨by omega,by omega⟩ hf
 · simpa using key
 · intro n s i x xs hx hd hI ih
   simp only [Qeq.eq_2]
   unfold Qmg Qpe Qo7
   simp only [hd,cond_true,hx,Qaa,Q8z]
   have hv:=Q1z r x
   have h2:=hI.2
   simp only [List.length_cons] at h2
   rw [Qay (by omega) (by omega),ih _ ⟨by omega,by omega⟩]
   congr 1
   have e:Qtw r (x::xs)=(Quk r x).fQ+Qtw r xs:=by
    unfold Qtw Qtm Quk
    cases hm:Qwi r x with
    | none=>simp [List.filterMap_cons,hm,Q5o]
    | some y=>simp [List.filterMap_cons,hm]
   rw [e]
   omega
 · intro n s i hd _
   simp only [Qeq.eq_2]
   unfold Qmg
   simp only [hd,cond_false]
   simp [Qtw,Qtm]
theorem Jgc {fu:Nat} {r:Request} (h:Sm fu r) (us:List Int) (hl:us.length≤1048576) (hf:us.length<fu):Qn5 fu r us=some (Qtw r us):=by
 unfold Qn5
 rw [Q3p h us hl hf,Qaa]
 have hlen:=Qwp r us
 have key:=lpI (Qtm r us) (λn s i=>Qgt fu (Qtm r us) n s i) (λl n=>some (n+Qvo (l.map (·.fQ)))) (λl n=>0≤n∧n+100000*l.length≤100000*1048576∧∀ x∈l,0≤x.fQ∧x.fQ≤100000) (by omega) ?_ ?_ fu 0 ⟨by omega,by omega,λx hx=>Q08 hx⟩ (by omega)
 · simpa [Qtw] using key
 · intro n s i x xs hx hd hI ih
   simp only [Qgt.eq_2]
   unfold Qmj
   simp only [hd,cond_true,hx,Qaa]
   have hv:=hI.2.2 x (by simp)
   have h2:=hI.2.1
   simp only [List.length_cons] at h2
   rw [Qay (by omega) (by omega),ih _ ⟨by omega,by omega,λy hy=>hI.2.2 y (by simp [hy])⟩]
   simp only [List.map_cons,Qq8]
   congr 1
   omega
 · intro n s i hd _
   simp only [Qgt.eq_2]
   unfold Qmj
   simp only [hd,cond_false]
   simp
theorem Jab (r:Request) (x:Int) (xs:List Int):Quo r (x::xs)=Q5p (Quk r x)+Quo r xs:=by
 unfold Quo Qtm Quk
 cases hm:Qwi r x with
 | none=>simp [List.filterMap_cons,hm,Jar]
 | some y=>simp [List.filterMap_cons,hm]
theorem Q33 (r:Request) (x:Int) (xs:List Int):Qtw r (x::xs)=(Quk r x).fQ+Qtw r xs:=by
 unfold Qtw Qtm Quk
 cases hm:Qwi r x with
 | none=>simp [List.filterMap_cons,hm,Q5o]
 | some y=>simp [List.filterMap_cons,hm]
theorem Q86 {fu:Nat} (r:Request) (us:List Int) (hl:us.length≤1048576) (hf:us.length<fu):Qpo fu r (Qlr r) us=some ⟨Quo r us,Qtw r us⟩:=by
 unfold Qpo
 have key:=lpI us (λn s i=>Qgi fu r (Qlr r) us n s i) (λl s=>some (⟨s.fvol+Quo r l,s.fgram+Qtw r l⟩:L7))
  (λl s=>0≤s.fvol∧s.fvol+8000000000*l.length≤8000000000*1048576∧0≤s.fgram∧s.fgram+100000*l.length≤100000*1048576) (by omega) ?_ ?_ fu ⟨0,0⟩ ⟨by simp,by simp; omega,by simp,by simp; omega⟩ hf
 · simpa using key
 · intro n s i x xs hx hd hI ih
   simp only [Qgi.eq_2]
   unfold Qpa Qq0 Qqy
   simp only [hd,cond_true,hx,Qaa,Q8z,Jcx]
   have hv:=Q6g (Quk r x).fW (Quk r x).fH (Quk r x).fD
   have hg:=Q1z r x
   obtain ⟨a1,a2,a3,a4⟩:=hI
   simp only [List.length_cons] at a2 a4
   rw [Qay (n:=s.fvol+_) (by omega) (by omega),Qay (n:=s.fgram+_) (by omega) (by omega),ih _ ⟨by simp; omega,by simp; omega,by simp; omega,by simp; omega⟩,Jab,Q33,show Q5u (Quk r x).fW (Quk r x).fH (Quk r x).fD=Q5p (Quk r x) from rfl]
   simp only [Option.some.injEq,L7.mk.injEq]
   constructor <;> omega
 · intro n s i hd _
   simp only [Qgi.eq_2]
   unfold Qpa
   simp only [hd,cond_false]
   simp [Quo,Qtw,Qtm]
def Qzp (r:Request) (us:List Int) (t:Typ):Bool:=decide (Quo r us≤Q9t t)&&decide (Qtw r us≤t.fQ)
theorem Q4d {fu:Nat} (r:Request) (t:Typ) (us:List Int) (u:Int) (hl:us.length<1048576) (hf:us.length+1<fu):Qne fu r (Qlr r) t us u=some (Qzp r (us++[u]) t):=by
 unfold Qne Qpg Qzp
 rw [ap1 (by simp; omega),Qaa,List.nil_append,ap1 (by simp; omega),Qaa,Q86 r _ (by simp; omega) (by simp; omega),Qaa,Jcx,Qaa]
 show (bif decide (Quo r (us++[u])≤Q9t t) then _ else _)=_
 cases decide (Quo r (us++[u])≤Q9t t) <;> simp
theorem Q4v {fu:Nat} {r:Request} (h:Sm fu r) (t:Typ) (us:List Int) (hl:us.length≤1048576):Qnz fu r us t=some (Qzp r us t):=by
 have hfu:=h.fu
 unfold Qnz Qzp
 rw [Q56 h us hl (by omega),Qaa,Jhk,Qaa,Jgc h us hl (by omega)]
 show (bif decide (Quo r us≤Q9t t) then _ else _)=_
 cases decide (Quo r us≤Q9t t) <;> simp
theorem Jcc {r:Request}:(Qwc (Qrc r r.fR)).1=Qsv r:=rfl
theorem Q8r {fu:Nat} {r:Request} (h:Sm fu r) (us:List Int) (u:Int) (hl:us.length<1048576):Qqu fu r us u=some (Qgq r==0&&Qzp r (us++[u]) (Qsv r)):=by
 have hfu:=h.fu
 unfold Qqu Qcq
 rw [Jev h,Qaa,Qtf h,Qaa]
 cases hc:Qgq r==0
 · rfl
 · rw [cond_true,ap1 (by simp; omega),Qaa,Qaa,List.nil_append,ap1 (by simp; omega),Qaa,Q4v h _ _ (by simp; omega)]
   rfl
def Qtk (r:Request) (us:List Int):List Int:=us.filter λu=>inb u 0 (((Qlr r).length:Int) - 1)
theorem Q27 {fu:Nat} {r:Request} (h:Sm fu r) (us:List Int) (hl:us.length≤1048576):Qie fu r us=some (Qtk r us):=by
 have hfu:=h.fu
 unfold Qie Qcq Qtk
 rw [Jc3 h,Qaa,ap1 (by simp; omega),Qaa,Qaa,List.nil_append,Jj8 _ (λu=>!inb u 0 (((Qlr r).length:Int) - 1)) ?_ hl (by omega),Qaa]
 · simp
 · intro u _
   unfold Qo6
   rw [Q1g,Qyd,Qaa]
theorem Q5y {fu:Nat} {r:Request} (h:Sm fu r) (us:List Int) (hl:us.length≤1048576):Qly fu (Qlr r) us=some (Qtk r us):=by
 have hfu:=h.fu
 unfold Qly Qtk
 have:=lpI us (λn out i=>Qfb fu (Qlr r) us n out i) (λxs out=>some (out++xs.filter λu=>inb u 0 (((Qlr r).length:Int) - 1))) (λxs out=>out.length+xs.length≤1048576) (by omega) ?_ ?_ fu [] (by simpa using hl) (by omega)
 · simpa using this
 · intro n out i x xs hx hd hI ih
   simp only [List.length_cons] at hI
   simp only [Qfb.eq_2]
   unfold Qkh Qjc
   rw [hd,cond_true,hx,Qaa,Q1g,Q2x,Qaa,Qaa,List.filter_cons]
   cases hb:inb x 0 (((Qlr r).length:Int) - 1)
   · rw [cond_false,ih _ (by omega)]; simp
   · rw [cond_true,ap1 (by simp; omega),Qaa,ih _ (by simp; omega)]; simp
 · intro n out i hd hI
   simp only [Qfb.eq_2]
   unfold Qkh
   simp only [hd,cond_false]
   simp
theorem Q5l {xs:List Int} (h:xs.length≤1048576):Q1b xs=some (xs.mergeSort λx y=>decide (x≤y)):=by
 unfold Q1b
 rw [if_pos (by omega)]
theorem Quc (r:Request) (us:List Int):(Qtk r us).length≤us.length:=List.length_filter_le _ _
theorem Qw6 {r:Request} {us:List Int} {u:Int} (h:u∈Qtk r us):0≤u∧u<(Qlr r).length:=by
 unfold Qtk at h
 have:=(List.mem_filter.1 h).2
 rw [Qcd] at this
 omega
theorem Qu2 {r:Request} {u:Int} (h:0≤u∧u<(Qlr r).length):Qwi r u=some (Quk r u):=by
 obtain ⟨_,x,_,_,hx⟩:=Q21 h
 unfold Quk
 rw [hx]; rfl
theorem Q40 {r:Request}:∀ {l:List Int},(∀ u∈l,0≤u∧u<(Qlr r).length)→Qtm r l=l.map (Quk r)
 | [],_=>rfl
 | u::l,h=>by
  have ih:=Q40 (r:=r) (l:=l) λv hv=>h v (by simp [hv])
  unfold Qtm at ih ⊢
  rw [List.filterMap_cons,Qu2 (h u (by simp)),ih,List.map_cons]
theorem Jet {α:Type} (l:List α) (L:Nat→Int→Option Bool) (g:α→Bool) (fin:Option Bool) (hl:l.length≤1099511627776)
    (hs:∀ n (i:Int) x,ix l i=some x→decide (i<(l.length:Int))=true→L (n+1) i=bif g x then L n (w64 (i+1)) else some false)
    (he:∀ n (i:Int),decide (i<(l.length:Int))=false→L (n+1) i=fin):∀ n,l.length<n→L n 0=bif l.all g then fin else some false:=by
 intro n hn
 refine lp l (λn (_:Unit) i=>L n i) (λxs _=>bif xs.all g then fin else some false) hl ?_ ?_ n () hn
 · intro n s i x xs hx hd ih
   rw [hs n i x hx hd,ih (),List.all_cons]
   cases g x <;> rfl
 · intro n s i hd
   rw [he n i hd]; rfl
structure Sep (p:List Pair) (P:List Int) (out:List (List Int)):Prop where
 ne:∀ g∈out,g≠[]
 inn:∀ g∈out,∀ x∈g,x∈P
 one:∀ g∈out,∀ x∈g,∀ y∈g,x≠y→Q0z p x y=true
 two:∀ (i j:Nat) (g h:List Int),out[i]? = some g→out[j]? = some h→i≠j→∀ x∈g,∀ y∈h,Q0z p x y=false
theorem Q44 {α:Type} {p q:α→Bool}:∀ {l:List α},(∀ x∈l,p x=q x)→l.all p=l.all q
 | [],_=>rfl
 | x::xs,h=>by rw [List.all_cons,List.all_cons,h x (by simp),Q44 λy hy=>h y (by simp [hy])]
def uOk (r:Request) (t:Typ) (u:Int):Bool:=(Qwi r u).isSome&&Qub (Quk r u) t
def Qyq (r:Request) (us:List Int) (t:Typ):Bool:=Qgq r==0&&(us.all (uOk r t)&&Qzp r us t)
theorem Qzo {r:Request} {u:Int}:(Qwi r u).isSome=true↔0≤u∧u<(Qlr r).length:=by
 constructor
 · intro h
   apply Decidable.byContradiction
   intro hn
   rw [Qz2 hn] at h
   cases h
 · intro h
   rw [Qu2 h]; rfl
theorem Jc8 {fu:Nat} {r:Request} (h:Sm fu r) (us:List Int) (t:Typ) (hl:us.length≤1048576):Qq7 fu r us t=some (Qyq r us t):=by
 have hfu:=h.fu
 have hil:=Qwp r us
 unfold Qq7 Qyq
 rw [Qtf h,Qaa]
 cases hc:Qgq r==0
 · rfl
 · rw [Bool.not_true,cond_false,Q27 h us hl,Qaa,Bool.true_and]
   by_cases ha:∀ u∈us,0≤u∧u<(Qlr r).length
   · have e:Qtk r us=us:=List.filter_eq_self.2 λu hu=>by have:=ha u hu; simp; omega
     have e0:((us.length:Int) != (us.length:Int))=false:=by simp
     rw [e,e0,cond_false]
     unfold Qp4
     rw [Q3p h us hl (by omega),Qaa,Qx5 _ (λx=>!Qub x t) ?_ (by omega) (by omega),Qaa]
     · rw [Q4v h t us hl,Qaa,Q40 ha,List.any_map]
       have e1:us.all (uOk r t)=!(us.any ((λx=>!Qub x t) ∘ Quk r)):=by
        rw [List.not_any_eq_all_not]
        apply Q44
        intro u hu
        simp only [uOk,Qzo.2 (ha u hu),Bool.true_and,Function.comp,Bool.not_not]
       rw [e1]
       cases us.any ((λx=>!Qub x t) ∘ Quk r) <;> simp
     · intro x _
       unfold Qqw
       rw [Jf3,Qaa]
   · have hlt:(Qtk r us).length<us.length:=by
       apply Decidable.byContradiction
       intro hn
       apply ha
       have e:(us.filter λu=>inb u 0 (((Qlr r).length:Int) - 1)).length=us.length:=by
        have:=List.length_filter_le (λu=>inb u 0 (((Qlr r).length:Int) - 1)) us
        have e':Qtk r us=us.filter λu=>inb u 0 (((Qlr r).length:Int) - 1):=rfl
        rw [e'] at hn
        omega
       intro u hu
       have:=List.length_filter_eq_length_iff.1 e u hu
       simp at this
       omega
     have e0:(((Qtk r us).length:Int) != (us.length:Int))=true:=by simp; omega
     rw [e0,cond_true]
     have e1:us.all (uOk r t)=false:=by
      apply Bool.eq_false_iff.2
      intro he
      apply ha
      intro u hu
      have:=List.all_eq_true.1 he u hu
      simp only [uOk,Bool.and_eq_true] at this
      exact Qzo.1 this.1
     rw [e1,Bool.false_and]
theorem Jdo {fu:Nat} {r:Request} (h:Sm fu r) (us:List Int) (t:Typ) (hl:us.length≤1048576):Qq5 fu r us t=some (Qyq r us t):=by
 have hfu:=h.fu
 unfold Qq5 Qyq
 rw [Q01 h,Qaa]
 cases hc:Qgq r==0
 · have:(Qgq r != 0)=true:=by simp only [bne,hc]; rfl
   rw [this]; rfl
 · have:(Qgq r != 0)=false:=by simp only [bne,hc]; rfl
   have hz:Qgq r=0:=by simpa using hc
   have hu:Qc0 fu r=some (Qlr r):=Jf4 h hz
   rw [this,cond_false,hu,Qaa,Bool.true_and]
   have key:=lp us (λn (_:Unit) i=>Qfl fu r us t (Qlr r) n i) (λl _=>some (l.all (uOk r t)&&Qzp r us t)) (by omega) ?_ ?_ fu () (by omega)
   · exact key
   · intro n _ i x xs hx hd ih
     simp only [Qfl.eq_2]
     unfold Qnu Qql Qqh
     simp only [hd,cond_true,hx,Qaa,Q8z,ih (),List.all_cons,uOk]
     cases (Qwi r x).isSome
     · rfl
     · simp only [Bool.not_true,cond_false,Jd7 (show 2097153≤fu by omega),Qaa]
       cases Qub (Quk r x) t <;> rfl
   · intro n _ i hd
     simp only [Qfl.eq_2]
     unfold Qnu Qp8
     simp only [hd,cond_false,Q86 r us hl (show us.length<fu by omega),Qaa,Jcx]
     show (bif decide (Quo r us≤Q9t t) then _ else _)=_
     unfold Qzp
     cases decide (Quo r us≤Q9t t) <;> simp
def chp (r:Request) (us:List Int) (s:Typ×Bool) (t:Typ):Typ×Bool :=
 bif Qyq r us t&&(!s.2||(decide (t.fE<s.1.fE)||(t.fE==s.1.fE&&decide (t.f0<s.1.f0)))) then (t,true) else s
def Qx2 (r:Request) (us:List Int):Typ×Bool:=r.fG.foldl (chp r us) (Jff,false)
theorem Jea {fu:Nat} {r:Request} (h:Sm fu r) (us:List Int) (hl:us.length≤1048576):Qmu fu r us=some (Qx2 r us):=by
 have hfu:=h.fu
 have ht:=h.types
 unfold Qmu
 have key:=lp r.fG (λn (s:Typ×Bool) i=>Qef fu r us n s.1 s.2 i) (λl s=>some (l.foldl (chp r us) s)) (by omega) ?_ ?_ fu (Jff,false) (by omega)
 · exact key
 · intro n s i x xs hx hd ih
   simp only [Qef.eq_2]
   unfold Qi0 Qdq
   have ih':=λa b=>ih (a,b)
   simp only at ih'
   obtain ⟨b,f⟩:=s
   simp only [hd,cond_true,hx,Qaa,Jc8 h us x hl,ih',List.foldl_cons,chp]
   cases Qyq r us x <;> cases f <;> cases decide (x.fE<b.fE) <;> cases x.fE==b.fE <;> cases decide (x.f0<b.f0) <;> rfl
 · intro n s i hd
   simp only [Qef.eq_2]
   unfold Qi0
   simp only [hd,cond_false]
   rfl
theorem Jcn {fu:Nat} {r:Request} (h:Sm fu r) (us:List Int) (hl:us.length≤1048576):Qm5 fu r us=some (Qx2 r us):=by
 have hfu:=h.fu
 have ht:=h.types
 unfold Qm5
 have key:=lp r.fG (λn (s:Typ×Bool) i=>Qeg fu r us n s.1 s.2 i) (λl s=>some (l.foldl (chp r us) s)) (by omega) ?_ ?_ fu (Jff,false) (by omega)
 · exact key
 · intro n s i x xs hx hd ih
   simp only [Qeg.eq_2]
   unfold Qiz Qdr
   have ih':=λa b=>ih (a,b)
   simp only at ih'
   obtain ⟨b,f⟩:=s
   simp only [hd,cond_true,hx,Qaa,Jdo h us x hl,ih',List.foldl_cons,chp]
   cases Qyq r us x <;> cases f <;> cases decide (x.fE<b.fE) <;> cases x.fE==b.fE <;> cases decide (x.f0<b.f0) <;> rfl
 · intro n s i hd
   simp only [Qeg.eq_2]
   unfold Qiz
   simp only [hd,cond_false]
   rfl
theorem Q2u {fu:Nat} {r:Request} (h:Sm fu r) (id:Int):Qi3 fu r id=some (Qwc (Qrc r id)):=by
 have hfu:=h.fu
 have ht:=h.types
 unfold Qi3 Qrc
 refine lp r.fG (λn (_:Unit) i=>Qfg fu r id n i) (λl _=>some (Qwc (l.find? λt=>t.f0==id))) (by omega) ?_ ?_ fu () (by omega)
 · intro n s i x xs hx hd ih
   simp only [Qfg.eq_2]
   unfold Qin
   simp only [hd,cond_true,hx,Qaa,ih (),List.find?_cons]
   cases x.f0==id <;> rfl
 · intro n s i hd
   simp only [Qfg.eq_2]
   unfold Qin
   simp only [hd,cond_false]
   rfl
def Jkw:Box:=⟨0,0,0,0⟩
def Jfo (r:Request) (x:Carton):Int:=match Qrc r x.qJ with
 | some t=>bif Qgq r==0 then t.fF+Qtw r x.qQ else 0
 | none=>0
def Qz9 (r:Request) (x:Carton):Box:=match Qrc r x.qJ with
 | some t=>bif Qgq r==0 then ⟨t.fW,t.fD,t.fH,t.fF+Qtw r x.qQ⟩ else Jkw
 | none=>Jkw
theorem Jgm {r:Request} (hc:Qgq r=0) {id:Int} {t:Typ} (ht:Qrc r id=some t):Qxs t=true∧t∈r.fG∧t.f0=id:=by
 have hm:=List.mem_of_find?_eq_some ht
 have hp:=List.find?_some ht
 exact ⟨Qsa (Qec hc).1 t hm,hm,by simpa using hp⟩
theorem Jdz {r:Request} (hc:Qgq r=0) {id:Int} {t:Typ} (ht:Qrc r id=some t):0≤t.fF∧t.fF≤100000:=by
 have:=(Jgm hc ht).1
 simp only [Qxs,Bool.and_eq_true,Qcd] at this
 omega
theorem Q30 {r:Request} (hc:Qgq r=0) {id:Int} {t:Typ} (ht:Qrc r id=some t) (us:List Int) (hl:us.length≤1048576):w64 (t.fF+Qtw r us)=t.fF+Qtw r us:=by
 have h1:=Jdz hc ht
 have h2:=Q6o r us
 exact Qay (by omega) (by omega)
theorem Jep {fu:Nat} {r:Request} (h:Sm fu r) (x:Carton) (hl:x.qQ.length≤1048576):Qq4 fu r x=some (Jfo r x):=by
 have hfu:=h.fu
 unfold Qq4 Jfo
 rw [Qxn h,Qaa,Qzr]
 cases ht:Qrc r x.qJ with
 | none=>rfl
 | some t =>
  rw [Qtf h]
  simp only [Option.isSome_some,Bool.not_true,cond_false,Qaa]
  cases hc:Qgq r==0
  · rfl
  · have hc':Qgq r=0:=by simpa using hc
    unfold Qqg
    rw [Jgc h _ hl (by omega)]
    simp only [Bool.not_true,cond_false,cond_true,Qaa,Qwc,Q30 hc' ht _ hl]
theorem Jeo {fu:Nat} {r:Request} (h:Sm fu r) (x:Carton) (hl:x.qQ.length≤1048576):Qrb fu r x=some (Jfo r x):=by
 have hfu:=h.fu
 unfold Qrb Jfo
 rw [Q2u h,Qaa,Qzr,Q01 h,Qaa]
 cases hc:Qgq r==0
 · have:(Qgq r != 0)=true:=by simp only [bne,hc]; rfl
   rw [this]
   cases Qrc r x.qJ <;> rfl
 · have hc':Qgq r=0:=by simpa using hc
   rw [show (Qgq r != 0)=false by simp [hc'],cond_false]
   cases ht:Qrc r x.qJ with
   | none=>rfl
   | some t =>
    unfold Qqe
    rw [Jja h _ hl (by omega)]
    simp only [Option.isSome_some,Bool.not_true,cond_false,cond_true,Qaa,Qwc,Q30 hc' ht _ hl]
theorem Jh9 {fu:Nat} {r:Request} (h:Sm fu r) (x:Carton) (hl:x.qQ.length≤1048576):Qq3 fu r x=some (Qz9 r x):=by
 unfold Qq3 Qz9
 rw [Qxn h,Qaa,Qzr]
 cases ht:Qrc r x.qJ with
 | none=>rfl
 | some t =>
  rw [Qtf h]
  simp only [Option.isSome_some,Bool.not_true,cond_false,Qaa]
  cases hc:Qgq r==0
  · rfl
  · unfold Qqk
    rw [Jep h x hl]
    simp only [Jfo,ht,hc,Bool.not_true,cond_false,cond_true,Qaa,Qwc]
theorem Jhn {fu:Nat} {r:Request} (h:Sm fu r) (x:Carton) (hl:x.qQ.length≤1048576):Qq9 fu r x=some (Qz9 r x):=by
 unfold Qq9 Qz9
 rw [Q2u h,Qaa,Qzr,Q01 h,Qaa]
 cases hc:Qgq r==0
 · have:(Qgq r != 0)=true:=by simp only [bne,hc]; rfl
   rw [this]
   cases Qrc r x.qJ <;> rfl
 · have hc':Qgq r=0:=by simpa using hc
   rw [show (Qgq r != 0)=false by simp [hc'],cond_false]
   cases ht:Qrc r x.qJ with
   | none=>rfl
   | some t =>
    unfold Qpy
    rw [Jeo h x hl]
    simp only [Jfo,ht,hc,Option.isSome_some,Bool.not_true,cond_false,cond_true,Qaa,Qwc]
theorem Jeq (fu:Nat) (n:Int):Qg4 fu n=some (inb n 0 2000):=by unfold Qg4; rw [Qyd]; rfl
def Q9q (n:Int) (s:Spot):Int:=bif inb s.fJ 0 999999 then (if s.fJ+1>n then s.fJ+1 else n) else n
def Jcg (l:List Spot):Int:=l.foldl Q9q 0
theorem Jdh {n:Int} (s:Spot) (h:0≤n∧n≤1000000):0≤Q9q n s∧Q9q n s≤1000000:=by
 unfold Q9q
 cases hi:inb s.fJ 0 999999
 · exact h
 · have:=Qcd.1 hi
   simp only [cond_true]
   split <;> omega
theorem Q9l:∀ (l:List Spot) {n:Int},0≤n∧n≤1000000→0≤l.foldl Q9q n∧l.foldl Q9q n≤1000000
 | [],_,h=>h
 | s::l,_,h=>Q9l l (Jdh s h)
theorem Q60 (l:List Spot):0≤Jcg l∧Jcg l≤1000000:=Q9l l (by omega)
theorem Jig {fu:Nat} {l:List Spot} (hl:l.length≤1048576) (hf:l.length<fu):Qlv fu l=some (Jcg l):=by
 unfold Qlv
 have key:=lp l (λn (s:Int) i=>Qe5 fu l n s i) (λl s=>some (l.foldl Q9q s)) (by omega) ?_ ?_ fu 0 hf
 · exact key
 · intro n s i x xs hx hd ih
   simp only [Qe5.eq_2]
   unfold Qke Qje
   simp only [hd,cond_true,hx,Qaa,Qyd,ih,List.foldl_cons]
   unfold Q9q
   cases hi:inb x.fJ 0 999999
   · rfl
   · have:=Qcd.1 hi
     simp only [cond_true]
     rw [Qay (by omega) (by omega)]
 · intro n s i hd
   simp only [Qe5.eq_2]
   unfold Qke
   simp only [hd,cond_false]
   rfl
theorem Q92 (fu:Nat) (a b:Int):Qjr fu a b=some (if a>b then a else b):=by
 unfold Qjr
 by_cases h:a>b
 · simp [h]
 · simp [h]
theorem Jgo {fu:Nat} {l:List Spot} (hl:l.length≤1048576) (hf:l.length<fu):Qoz fu l=some (Jcg l):=by
 unfold Qoz
 have key:=lp l (λn (s:Int) i=>Qe4 fu l n s i) (λl s=>some (l.foldl Q9q s)) (by omega) ?_ ?_ fu 0 hf
 · exact key
 · intro n s i x xs hx hd ih
   simp only [Qe4.eq_2]
   unfold Qkw Qjj
   simp only [hd,cond_true,hx,Qaa,Q2x,Q92,ih,List.foldl_cons]
   unfold Q9q
   cases hi:inb x.fJ 0 999999
   · rfl
   · have:=Qcd.1 hi
     simp only [cond_true]
     rw [Qay (by omega) (by omega)]
     congr 2
     split <;> split <;> omega
 · intro n s i hd
   simp only [Qe4.eq_2]
   unfold Qkw
   simp only [hd,cond_false]
   rfl
def Jfe (g:List Int→Bool) (out:List (List Int)) (u:Int):List (List Int):=match Qws g out with
 | some i=>match out[i]? with
  | some x=>out.set i (x++[u])
  | none=>out
 | none=>out++[[u]]
def Qwz (r:Request) (u:Int) (l:List Int):Bool:=Qzp r (l++[u]) (Qsv r)
def Q98 (r:Request) (out:List (List Int)) (u:Int):List (List Int):=Jfe (Qwz r u) out u
def Q3m (r:Request) (out:List (List Int)) (u:Int):List (List Int):=match out.getLast? with
 | some l=>bif Qwz r u l then out.set (out.length - 1) (l++[u]) else out++[[u]]
 | none=>[[u]]
theorem Qxm {r:Request} {out:List (List Int)} {l:List Int} (u:Int) (h:out.getLast? = some l):Q3m r out u=bif Qwz r u l then out.set (out.length - 1) (l++[u]) else out++[[u]]:=by unfold Q3m; rw [h]
def Q6x (r:Request) (us:List Int):List Int:=(srt (dnk (us.map λu=>Quo r [u])) us.length).map λp=>(ix us p).getD 0
def nfM (r:Request) (us:List Int):List (List Int):=(Qtk r us).foldl (Q3m r) []
def ffM (r:Request) (us:List Int):List (List Int):=(Q6x r (Qtk r us)).foldl (Q98 r) []
def pwM (r:Request) (us:List Int):List (List Int):=bif r.fO==1 then nfM r us else ffM r us
theorem Q3q {g:List Int→Bool} {out:List (List Int)} {n:Nat} (u:Int) (h:okG n out):okG (n+1) (Jfe g out u):=by
 obtain ⟨h1,h2⟩:=h
 unfold Jfe
 split
 · rename_i i hi
   split
   · rename_i x hx
     refine ⟨by simp; omega,λl hl=>?_⟩
     rcases List.mem_or_eq_of_mem_set hl with hl | rfl
     · have:=h2 l hl; omega
     · have:=h2 x (List.mem_of_getElem? hx); simp; omega
   · exact ⟨by omega,λl hl=>by have:=h2 l hl; omega⟩
 · refine ⟨by simp; omega,λl hl=>?_⟩
   rcases List.mem_append.1 hl with hl | hl
   · have:=h2 l hl; omega
   · rw [List.mem_singleton.1 hl]; simp
theorem Q3x {r:Request} {out:List (List Int)} {n:Nat} (u:Int) (h:okG n out):okG (n+1) (Q3m r out u):=by
 obtain ⟨h1,h2⟩:=h
 unfold Q3m
 split
 · rename_i x hx
   have hm:=List.mem_of_getLast? hx
   cases Qwz r u x
   · refine ⟨by simp; omega,λl hl=>?_⟩
     rcases List.mem_append.1 hl with hl | hl
     · have:=h2 l hl; omega
     · rw [List.mem_singleton.1 hl]; simp
   · refine ⟨by simp; omega,λl hl=>?_⟩
     rcases List.mem_or_eq_of_mem_set hl with hl | rfl
     · have:=h2 l hl; omega
     · have:=h2 x hm; simp; omega
 · exact ⟨by simp,λl hl=>by rw [List.mem_singleton.1 hl]; simp⟩
theorem Q3d {F:List (List Int)→Int→List (List Int)} (hF:∀ out n u,okG n out→okG (n+1) (F out u)):∀ (l:List Int) {out:List (List Int)} {n:Nat},okG n out→okG (n+l.length) (l.foldl F out)
 | [],_,_,h=>h
 | u::l,out,n,h=>by
  have:=Q3d hF l (hF out n u h)
  rw [List.foldl_cons,List.length_cons,show n+(l.length+1)=n+1+l.length by omega]
  exact this
theorem Jgi {r:Request} {us:List Int} (h:us.length≤12):(Qtk r us).length≤12:=Nat.le_trans (Quc r us) h
theorem Jas (r:Request) (us:List Int):(Q6x r us).length=us.length:=by simp [Q6x,Qr4]
theorem Q41 {r:Request} {us:List Int} (h:us.length≤12):okG 12 (pwM r us):=by
 have ht:=Jgi (r:=r) h
 have h0:okG 0 ([]:List (List Int)):=⟨by simp,by simp⟩
 unfold pwM
 cases r.fO==1
 · have:=Q3d (F:=Q98 r) (λout n u ho=>Q3q u ho) (Q6x r (Qtk r us)) h0
   rw [Jas] at this
   exact ⟨by have:=this.1; simp only [cond_false]; unfold ffM; omega,λl hl=>by have:=this.2 l hl; omega⟩
 · have:=Q3d (F:=Q3m r) (λout n u ho=>Q3x u ho) (Qtk r us) h0
   exact ⟨by have:=this.1; simp only [cond_true]; unfold nfM; omega,λl hl=>by have:=this.2 l hl; omega⟩
theorem Q88 {g:List Int→Bool} {out:List (List Int)} {c:Int} {n:Nat} (h:okG n out) (hn:n≤1048576) {β:Type} (k:List (List Int)→Option β) (a:Int) (ha:a=match Qws g out with | some i=>(i:Int) | none=>-1) :
    (bif (decide (a<0)) then Qab (Qfd 24 out [([c]:List Int)]) λx=>k x else Qab (ix out a) λx=>Qab (Qfd 8 x (([c]:List Int))) λy=>Qab (ix out a) λz=>k (Qim out a y))=k (Jfe g out c):=by
 obtain ⟨h1,h2⟩:=h
 unfold Jfe
 cases hf:Qws g out with
 | none =>
  rw [hf] at ha
  simp only at ha
  subst ha
  rw [Qa2 (by simp),ap1 (by simp; omega),Qaa]
 | some i =>
  rw [hf] at ha
  simp only at ha
  subst ha
  obtain ⟨x,hx,_⟩:=Qww hf
  have:=h2 x (List.mem_of_getElem? hx)
  rw [Qah (by simp),Qlf,hx,Qaa,ap1 (by simp; omega),Qaa,Qaa]
  simp [Qim,hx]
theorem Qz5 {r:Request} (h:(Qgq r==0)=false) (us:List Int):Qtk r us=[]:=by
 unfold Qtk Qlr
 rw [h]
 apply List.filter_eq_nil_iff.2
 intro u _
 simp; omega
theorem Jan {fu:Nat} {r:Request} (h:Sm fu r) (hc:Qgq r=0):Qc0 fu r=some (Qlr r):=Jf4 h hc
theorem Qtb {α:Type} {out:List α} (h:out≠[]):∃ l,out.getLast? = some l∧ix out ((out.length:Int) - 1)=some l:=by
 cases hl:out.getLast? with
 | none=>exact absurd (List.getLast?_eq_none_iff.1 hl) h
 | some l =>
  have hp:=List.length_pos_iff.2 h
  refine ⟨l,rfl,?_⟩
  rw [show (out.length:Int) - 1=((out.length - 1:Nat):Int) by omega,Qlf,← List.getLast?_eq_getElem?,hl]
theorem Jhb {fu:Nat} {r:Request} (h:Sm fu r) (us:List Int) (hl:us.length≤1048575):Qo5 fu r us=some (nfM r us):=by
 have hfu:=h.fu
 have htl:=Quc r us
 unfold Qo5 nfM
 rw [Q27 h us (by omega),Qaa]
 cases hc:Qgq r==0
 · rw [Qz5 hc]
   obtain ⟨m,rfl⟩:∃ m,fu=m+1:=⟨fu - 1,by omega⟩
   rw [Qd3.eq_2]; rfl
 · have key:=lpI (Qtk r us) (λn (o:List (List Int)) i=>Qd3 fu r (Qtk r us) n o i) (λxs o=>some (xs.foldl (Q3m r) o)) (λxs o=>∃ m,m+xs.length≤1048575∧okG m o) (by omega) ?_ ?_ fu [] ⟨0,by omega,by simp,by simp⟩ (by omega)
   · exact key
   · intro n o i u xs hx hd hI ih
     obtain ⟨m,hm,ho⟩:=hI
     simp only [List.length_cons] at hm
     have h1:=ho.1
     have h2:=ho.2
     have hI':=ih (Q3m r o u) ⟨m+1,by omega,Q3x u ho⟩
     simp only [Qd3.eq_2]
     unfold Qkb Qg7
     rw [hd,cond_true,hx,Qaa,List.foldl_cons,← hI',Qay (by omega) (by omega)]
     by_cases he:o=[]
     · subst he
       rw [decide_eq_false (by simp),cond_false,ap1 (by simp),Qaa]; rfl
     · obtain ⟨l,e1,e2⟩:=Qtb he
       have hp:=List.length_pos_iff.2 he
       have hll:=h2 l (List.mem_of_getLast? e1)
       rw [decide_eq_true (by omega),cond_true,e2,Qaa,Q8r h l u (by omega),Qaa,hc,Bool.true_and]
       rw [Qxm u e1]
       unfold Qwz
       cases Qzp r (l++[u]) (Qsv r)
       · rw [cond_false,cond_false,ap1 (by simp; omega),Qaa]
       · rw [cond_true,cond_true,Qaa,ap1 (by simp; omega),Qaa,Qaa]
         rw [show Qim o ((o.length:Int) - 1) (l++[u])=o.set (o.length - 1) (l++[u]) by unfold Qim; congr 1; omega]
   · intro n o i hd _
     simp only [Qd3.eq_2]
     unfold Qkb
     rw [hd,cond_false]; rfl
theorem Jho {fu:Nat} {r:Request} (h:Sm fu r) (us:List Int) (hl:us.length≤1048575):Qok fu r us=some (nfM r us):=by
 have hfu:=h.fu
 have htl:=Quc r us
 unfold Qok nfM
 rw [Q01 h,Qaa]
 cases hc:Qgq r==0
 · rw [show (Qgq r != 0)=true by simp only [bne,hc]; rfl,cond_true,Qz5 hc]; rfl
 · have hz:Qgq r=0:=by simpa using hc
   rw [show (Qgq r != 0)=false by simp [hz],cond_false,Jan h hz,Qaa,Q5y h us (by omega),Qaa]
   unfold Qrn
   rw [Q6l h,Qaa,Jan h hz,Qaa]
   have key:=lpI (Qtk r us) (λn (o:List (List Int)) i=>Qfr fu r (Qtk r us) (Qwc (Qrc r r.fR)) (Qlr r) n o i) (λxs o=>some (xs.foldl (Q3m r) o)) (λxs o=>∃ m,m+xs.length≤1048575∧okG m o) (by omega) ?_ ?_ fu [] ⟨0,by omega,by simp,by simp⟩ (by omega)
   · rw [key]; rfl
   · intro n o i u xs hx hd hI ih
     obtain ⟨m,hm,ho⟩:=hI
     simp only [List.length_cons] at hm
     have h1:=ho.1
     have h2:=ho.2
     have hI':=ih (Q3m r o u) ⟨m+1,by omega,Q3x u ho⟩
     simp only [Qfr.eq_2]
     unfold Qme Qhr
     rw [hd,cond_true,List.foldl_cons,← hI',Qay (by omega) (by omega)]
     by_cases he:o=[]
     · subst he
       rw [decide_eq_false (by simp),cond_false,hx,Qaa,ap1 (by simp),Qaa]; rfl
     · obtain ⟨l,e1,e2⟩:=Qtb he
       have hp:=List.length_pos_iff.2 he
       have hll:=h2 l (List.mem_of_getLast? e1)
       rw [decide_eq_true (by omega),cond_true,e2,Qaa,hx,Qaa,Jcc,Q4d r _ l u (by omega) (by omega),Qaa]
       rw [Qxm u e1]
       unfold Qwz
       cases Qzp r (l++[u]) (Qsv r)
       · rw [cond_false,cond_false,Qaa,ap1 (by simp; omega),Qaa]
       · rw [cond_true,cond_true,Qaa,Qaa,ap1 (by simp; omega),Qaa,Qaa]
         rw [show Qim o ((o.length:Int) - 1) (l++[u])=o.set (o.length - 1) (l++[u]) by unfold Qim; congr 1; omega]
   · intro n o i hd _
     simp only [Qfr.eq_2]
     unfold Qme
     rw [hd,cond_false]; rfl
theorem Q5z {us:List Int} {p:Int} (h:0≤p∧p<us.length):ix us p=some ((ix us p).getD 0):=by
 have:=Qx6 (l:=us) (i:=p.toNat) (by omega)
 rw [show ((p.toNat:Nat):Int)=p by omega] at this
 rw [this]; rfl
theorem Qve {α β γ:Type} (f:γ→β→γ) (g:α→β):∀ (l:List α) (s:γ),(l.map g).foldl f s=l.foldl (λs x=>f s (g x)) s
 | [],_=>rfl
 | x::l,s=>by rw [List.map_cons,List.foldl_cons,List.foldl_cons,Qve f g l]
theorem Jeb {fu:Nat} {r:Request} (h:Sm fu r) (us:List Int) (hl:us.length<20):Qm8 fu r us=some (ffM r us):=by
 have hfu:=h.fu
 have htl:=Quc r us
 unfold Qm8 ffM Q6x
 rw [Q27 h us (by omega),Qaa]
 obtain ⟨t,ht⟩:∃ t,t=Qtk r us:=⟨_,rfl⟩
 rw [← ht] at htl ⊢
 have key:=lpI t (λn (o:List Int) i=>Qff fu r t n o i) (λxs o=>Qab (Qgo fu (o++xs.map λu=>Quo r [u])) λx=>Qcl fu r t x fu [] 0) (λxs o=>o.length+xs.length≤20) (by omega) ?_ ?_ fu [] (by simp; omega) (by omega)
 · rw [key,List.nil_append,Jbr hfu (by simp; omega),Qaa,Qve,List.length_map]
   have hsl:=Qr4 (dnk (t.map λu=>Quo r [u])) t.length
   have hsm:=λx=>Qu4 (k:=dnk (t.map λu=>Quo r [u])) (n:=t.length) (x:=x)
   generalize srt (dnk (t.map λu=>Quo r [u])) t.length=S at hsl hsm ⊢
   cases hc:Qgq r==0
   · have:t=[]:=by rw [ht]; exact Qz5 hc us
     subst this
     have:S=[]:=List.length_eq_zero_iff.1 (by simpa using hsl)
     subst this
     obtain ⟨m,rfl⟩:∃ m,fu=m+1:=⟨fu - 1,by omega⟩
     rw [Qcl.eq_2]; rfl
   · have key1:=lpI S (λn (o:List (List Int)) i=>Qcl fu r t S n o i) (λxs o=>some (xs.foldl (λs p=>Q98 r s ((ix t p).getD 0)) o)) (λxs o=>(∃ m,m+xs.length≤20∧okG m o)∧∀ p∈xs,0≤p∧p<t.length) (by omega) ?_ ?_ fu [] ⟨⟨0,by omega,by simp,by simp⟩,λp hp=>(hsm p).1 hp⟩ (by omega)
     · exact key1
     · intro n o i p xs hx hd hI ih
       obtain ⟨⟨m,hm,ho⟩,hin⟩:=hI
       simp only [List.length_cons] at hm
       have hp:=Q5z (hin p (by simp))
       simp only [Qcl.eq_2]
       unfold Qip Qhv
       rw [hd,cond_true,hx,Qaa,hp,Qaa,List.foldl_cons]
       generalize (ix t p).getD 0=u
       rw [Q1w (λy=>Qjl fu y r u) (Qwz r u) (λl hl=>by
        have:=ho.2 l hl
        unfold Qjl Qwz
        rw [Q8r h l u (by omega),Qaa,hc,Bool.true_and]) (by have:=ho.1; omega) (by have:=ho.1; omega),Qaa]
       refine (Q88 (g:=Qwz r u) (c:=u) ho (by omega) (λx=>Qcl fu r t S n x (w64 (i+1))) (Qvt (Qwz r u) o 0) (by
        rw [Q0o]
        cases Qws (Qwz r u) o <;> simp)).trans ?_
       exact ih _ ⟨⟨m+1,by omega,Q3q u ho⟩,λq hq=>hin q (by simp [hq])⟩
     · intro n o i hd _
       simp only [Qcl.eq_2]
       unfold Qip
       rw [hd,cond_false]; rfl
 · intro n o i u xs hx hd hI ih
   simp only [List.length_cons] at hI
   simp only [Qff.eq_2]
   unfold Qir
   rw [hd,cond_true,hx,Qaa,Q56 h [u] (by simp) (by simp; omega),Qaa,ap1 (by simp; omega),Qaa,ih _ (by simp; omega)]
   simp
 · intro n o i hd _
   simp only [Qff.eq_2]
   unfold Qir
   rw [hd,cond_false]; simp
theorem Jdy {fu:Nat} {r:Request} (h:Sm fu r) (us:List Int) (hl:us.length<20):Qnb fu r us=some (ffM r us):=by
 have hfu:=h.fu
 have htl:=Quc r us
 unfold Qnb ffM Q6x
 rw [Q01 h,Qaa]
 cases hc:Qgq r==0
 · rw [show (Qgq r != 0)=true by simp only [bne,hc]; rfl,cond_true,Qz5 hc]; rfl
 · have hz:Qgq r=0:=by simpa using hc
   rw [show (Qgq r != 0)=false by simp [hz],cond_false,Jan h hz,Qaa,Q5y h us (by omega),Qaa]
   unfold Qqx
   rw [Q6l h,Qaa,Jan h hz,Qaa]
   generalize Qtk r us=t at htl ⊢
   have key:=lpI t (λn (o:List Int) i=>Qgd fu r t (Qwc (Qrc r r.fR)) (Qlr r) n o i) (λxs o=>Qab (Qgl fu (o++xs.map λu=>Quo r [u])) λx=>Qci fu r t (Qwc (Qrc r r.fR)) (Qlr r) x fu [] 0) (λxs o=>o.length+xs.length≤20) (by omega) ?_ ?_ fu [] (by simp; omega) (by omega)
   · rw [key,List.nil_append,Jb7 hfu (by simp; omega),Qaa,Qve,List.length_map]
     have hsl:=Qr4 (dnk (t.map λu=>Quo r [u])) t.length
     have hsm:=λx=>Qu4 (k:=dnk (t.map λu=>Quo r [u])) (n:=t.length) (x:=x)
     generalize srt (dnk (t.map λu=>Quo r [u])) t.length=S at hsl hsm ⊢
     have key1:=lpI S (λn (o:List (List Int)) i=>Qci fu r t (Qwc (Qrc r r.fR)) (Qlr r) S n o i) (λxs o=>some (xs.foldl (λs p=>Q98 r s ((ix t p).getD 0)) o)) (λxs o=>(∃ m,m+xs.length≤20∧okG m o)∧∀ p∈xs,0≤p∧p<t.length) (by omega) ?_ ?_ fu [] ⟨⟨0,by omega,by simp,by simp⟩,λp hp=>(hsm p).1 hp⟩ (by omega)
     · rw [key1]; rfl
     · intro n o i p xs hx hd hI ih
       obtain ⟨⟨m,hm,ho⟩,hin⟩:=hI
       simp only [List.length_cons] at hm
       have hp:=Q5z (hin p (by simp))
       have ho1:=ho.1
       simp only [Qci.eq_2]
       unfold Qj3
       rw [hd,cond_true,hx,Qaa,hp,Qaa,List.foldl_cons]
       generalize (ix t p).getD 0=u
       obtain ⟨K,hK⟩:∃ K,K=Qci fu r t (Qwc (Qrc r r.fR)) (Qlr r) S n:=⟨_,rfl⟩
       rw [← hK] at ih ⊢
       obtain ⟨R,hR⟩:∃ R:Int→Option (List (List Int)),R=λa=>bif (decide (a<0)) then Qab (Qfd 24 o [([u]:List Int)]) λx=>K x (w64 (i+1)) else Qab (ix o a) λx=>Qab (Qfd 8 x (([u]:List Int))) λy=>Qab (ix o a) λz=>K (Qim o a y) (w64 (i+1)):=⟨_,rfl⟩
       have hD:=lpD o.length (λn a j=>Qfc fu K r (Qwc (Qrc r r.fR)) (Qlr r) o i u n a j) (λxs a=>R (xs.foldl (Jbg (Qwz r u) o) a)) (by omega) ?_ ?_ fu (-1) (by omega)
       · rw [hD,hR]
         refine (Q88 (g:=Qwz r u) (c:=u) ho (by omega) (λx=>K x (w64 (i+1))) _ ?_).trans (ih _ ⟨⟨m+1,by omega,Q3q u ho⟩,λq hq=>hin q (by simp [hq])⟩)
         rw [Qxk (Qwz r u) o o.length (-1) (Nat.le_refl _),List.take_length]
         cases Qws (Qwz r u) o <;> rfl
       · intro n a j xs h0 h1 hd ih
         simp only [Qfc.eq_2]
         unfold Qj1 Qjn
         obtain ⟨j,rfl⟩:∃ q:Nat,j=q:=⟨j.toNat,by omega⟩
         have hj:j<o.length:=by omega
         have hg:=ho.2 _ (List.getElem_mem hj)
         rw [hd,cond_true,Qx6 hj,Qaa,Jcc,Q4d r _ _ u (by omega) (by omega),Qaa]
         have e:Jbg (Qwz r u) o a (j:Int)=bif Qzp r (o[j]++[u]) (Qsv r) then (j:Int) else a:=by unfold Jbg atB Qwz; rw [Qx6 hj]
         simp only [ih,List.foldl_cons,e]
         cases Qzp r (o[j]++[u]) (Qsv r) <;> rfl
       · intro n a j hd
         simp only [Qfc.eq_2]
         unfold Qj1 Qjh
         rw [hd,cond_false,hR]; rfl
     · intro n o i hd _
       simp only [Qci.eq_2]
       unfold Qj3
       rw [hd,cond_false]; rfl
   · intro n o i u xs hx hd hI ih
     simp only [List.length_cons] at hI
     obtain ⟨i0,i1,i2⟩:=Qaf hx
     have e:sls t i (w64 (i+1))=some [u]:=by
      rw [Qay (by omega) (by omega),Qry (by omega)]
      congr 1
      rw [show (i+1).toNat - i.toNat=1 by omega]
      have hlt:=(List.getElem?_eq_some_iff.1 i2).1
      have heq:=(List.getElem?_eq_some_iff.1 i2).2
      rw [List.drop_eq_getElem_cons hlt,heq]; rfl
     simp only [Qgd.eq_2]
     unfold Qk8
     rw [hd,cond_true,e,Qaa,Q86 r [u] (by simp) (by simp; omega),Qaa,ap1 (by simp; omega),Qaa,ih _ (by simp; omega)]
     simp
   · intro n o i hd _
     simp only [Qgd.eq_2]
     unfold Qk8
     rw [hd,cond_false]; simp
theorem Ji3 {fu:Nat} {r:Request} (h:Sm fu r) (us:List Int) (hl:us.length<20):Qoj fu r us=some (pwM r us):=by
 unfold Qoj pwM
 rw [Jhb h us (by omega),Jeb h us hl]
 cases r.fO==1 <;> rfl
theorem Jjw {fu:Nat} {r:Request} (h:Sm fu r) (us:List Int) (hl:us.length<20):Qon fu r us=some (pwM r us):=by
 unfold Qon pwM
 rw [Jho h us (by omega),Jdy h us hl]
 cases r.fO==1 <;> rfl
theorem Q3b {α:Type} {l:List α} {i:Int} (h0:0≤i) (h1:i<l.length):∃ x,ix l i=some x:=by
 obtain ⟨j,rfl⟩:∃ j:Nat,i=j:=⟨i.toNat,by omega⟩
 exact ⟨_,Qx6 (by omega)⟩
def Jah (p:Pallet) (b:Box):Bool:=inb b.fW 1 p.fW&&(inb b.fD 1 p.fD&&(inb b.fH 1 p.fH&&inb b.fQ 1 p.fQ))
def Qya (p:Pallet) (l:List Box):Bool:=Qtn p&&l.all (Jah p)
theorem Jgj {fu:Nat} (p:Pallet) (l:List Box) (hl:l.length≤1048576) (hf:l.length<fu):Qlz fu p l=some (Qya p l):=by
 unfold Qlz Qya
 rw [Ja5,Qaa]
 cases Qtn p
 · rfl
 · rw [Bool.not_true,cond_false,Bool.true_and]
   have:=Jet l (λn i=>Qfa fu p l n i) (Jah p) (some true) (by omega) ?_ ?_ fu hf
   · rw [this]
     cases l.all (Jah p) <;> rfl
   · intro n i x hx hd
     simp only [Qfa.eq_2]
     unfold Qk0 Qnc Jah
     simp only [hd,cond_true,hx,Qaa,Q2x]
     cases inb x.fW 1 p.fW <;> cases inb x.fD 1 p.fD <;> cases inb x.fH 1 p.fH <;> cases inb x.fQ 1 p.fQ <;> rfl
   · intro n i hd
     simp only [Qfa.eq_2]
     unfold Qk0
     rw [hd,cond_false]
def nxG {σ:Type} (fits:σ→Bool) (add:σ→σ) (z:σ) (out:List σ):List σ:=match out.getLast? with
 | some s=>bif fits s then out.set (out.length - 1) (add s) else out++[add z]
 | none=>[add z]
theorem Qtg {σ:Type} {fits:σ→Bool} {add:σ→σ} {z:σ} {out:List σ} {s:σ} (h:out.getLast? = some s):nxG fits add z out=bif fits s then out.set (out.length - 1) (add s) else out++[add z]:=by unfold nxG; rw [h]
theorem Qsk {σ:Type} (fits:σ→Bool) (add:σ→σ) (z:σ) (out:List σ):(nxG fits add z out).length≤out.length+1:=by
 unfold nxG
 split
 · cases fits _ <;> simp
 · simp
theorem Q3g {σ:Type} {fits:σ→Bool} {add:σ→σ} {z:σ} {out:List σ} {I:σ→Prop} (h:∀ s∈out,I s) (ha:∀ s,I s→fits s=true→I (add s)) (hz:I (add z)):∀ s∈nxG fits add z out,I s:=by
 intro s hs
 unfold nxG at hs
 split at hs
 · rename_i x hx
   have hm:=List.mem_of_getLast? hx
   cases hf:fits x
   · rw [hf,cond_false] at hs
     rcases List.mem_append.1 hs with hs | hs
     · exact h s hs
     · rw [List.mem_singleton.1 hs]; exact hz
   · rw [hf,cond_true] at hs
     rcases List.mem_or_eq_of_mem_set hs with hs | rfl
     · exact h s hs
     · exact ha x (h x hm) hf
 · rw [List.mem_singleton.1 hs]; exact hz
theorem Qrm {σ:Type} {fits:σ→Bool} {add:σ→σ} {z:σ} {out:List σ} {f:σ→List Int} {i:Int} (ha:∀ s,f (add s)=f s++[i]) (hz:f z=[]):((nxG fits add z out).map f).flatten=(out.map f).flatten++[i]:=by
 unfold nxG
 split
 · rename_i x hx
   cases fits x
   · rw [cond_false,List.map_append,List.flatten_append]
     simp [ha,hz]
   · rw [cond_true]
     have hne:out≠[]:=by intro e; rw [e] at hx; simp at hx
     have e:out=out.dropLast++[x]:=by
      have h1:=List.dropLast_concat_getLast hne
      rw [List.getLast?_eq_some_getLast hne] at hx
      rw [Option.some.inj hx] at h1
      exact h1.symm
     obtain ⟨d,hd⟩:∃ d,out=d++[x]:=⟨_,e⟩
     rw [hd]
     simp [ha]
 · rename_i hx
   have:out=[]:=List.getLast?_eq_none_iff.1 hx
   subst this
   simp [ha,hz]
def mxI (a b:Int):Int:=if a>b then a else b
theorem Qzv (a b:Int):a≤mxI a b∧b≤mxI a b∧(mxI a b=a∨mxI a b=b):=by unfold mxI; split <;> omega
def zBx:Box:=⟨0,0,0,0⟩
def bxA (l:List Box) (i:Int):Box:=(ix l i).getD zBx
def zSh:Shelf:=⟨[],0,0,0,0⟩
def Qre (s:Shelf) (i:Int) (b:Box):Shelf:=⟨s.f9++[i],s.fW+b.fW,mxI s.fD b.fD,mxI s.fH b.fH,s.fQ+b.fQ⟩
def Q5h (p:Pallet) (b:Box) (s:Shelf):Bool:=decide (s.fW+b.fW≤p.fW)&&decide (s.fQ+b.fQ≤p.fQ)
def shS (p:Pallet) (l:List Box) (out:List Shelf) (i:Int):List Shelf:=nxG (Q5h p (bxA l i)) (λs=>Qre s i (bxA l i)) zSh out
def shM (p:Pallet) (l:List Box):List Shelf:=bif Qya p l then (srt (dnk (l.map (·.fD))) l.length).foldl (shS p l) [] else []
structure ShI (p:Pallet) (n:Nat) (s:Shelf):Prop where
 ne:s.f9≠[]
 inn:∀ i∈s.f9,0≤i∧i<n
 w:1≤s.fW∧s.fW≤p.fW
 d:1≤s.fD∧s.fD≤p.fD
 h:1≤s.fH∧s.fH≤p.fH
 g:1≤s.fQ∧s.fQ≤p.fQ
theorem Q1x {p:Pallet} {l:List Box} (h:Qya p l=true) {i:Int} (hi:0≤i∧i<l.length):ix l i=some (bxA l i)∧(1≤(bxA l i).fW∧(bxA l i).fW≤p.fW)∧(1≤(bxA l i).fD∧(bxA l i).fD≤p.fD)∧(1≤(bxA l i).fH∧(bxA l i).fH≤p.fH)∧(1≤(bxA l i).fQ∧(bxA l i).fQ≤p.fQ):=by
 obtain ⟨x,hx⟩:=Q3b (l:=l) hi.1 hi.2
 have e:bxA l i=x:=by unfold bxA; rw [hx]; rfl
 unfold Qya at h
 simp only [Bool.and_eq_true] at h
 have:=List.all_eq_true.1 h.2 x (Qm0 hx)
 simp only [Jah,Bool.and_eq_true,Qcd] at this
 rw [e]
 exact ⟨hx,this.1,this.2.1,this.2.2.1,this.2.2.2⟩
theorem Qvw {p:Pallet} (h:Qtn p=true):(1≤p.fW∧p.fW≤2000)∧(1≤p.fD∧p.fD≤2000)∧(1≤p.fH∧p.fH≤2000)∧(1≤p.fQ∧p.fQ≤100000):=by
 simp only [Qtn,Bool.and_eq_true,Qcd] at h
 exact ⟨h.1,h.2.1,h.2.2.1,h.2.2.2⟩
theorem Q0a {p:Pallet} {l:List Box} (h:Qya p l=true):Qtn p=true:=by
 unfold Qya at h
 simp only [Bool.and_eq_true] at h
 exact h.1
theorem Q3t {p:Pallet} {l:List Box} (hb:Qya p l=true) {out:List Shelf} {i:Int} (hi:0≤i∧i<l.length) (h:∀ s∈out,ShI p l.length s):∀ s∈shS p l out i,ShI p l.length s:=by
 obtain ⟨_,b1,b2,b3,b4⟩:=Q1x hb hi
 refine Q3g h (λs hs hf=>?_) ⟨by simp [Qre],λj hj=>?_,?_,?_,?_,?_⟩
 · unfold Q5h at hf
   simp only [Bool.and_eq_true,decide_eq_true_eq] at hf
   obtain ⟨s1,s2,s3,s4,s5,s6⟩:=hs
   have m1:=Qzv s.fD (bxA l i).fD
   have m2:=Qzv s.fH (bxA l i).fH
   refine ⟨by simp [Qre],λj hj=>?_,?_,?_,?_,?_⟩
   · simp only [Qre,List.mem_append,List.mem_singleton] at hj
     rcases hj with hj | rfl
     · exact s2 j hj
     · exact hi
   · simp only [Qre]; omega
   · simp only [Qre]; omega
   · simp only [Qre]; omega
   · simp only [Qre]; omega
 · simp only [Qre,zSh,List.nil_append,List.mem_singleton] at hj
   rw [hj]; exact hi
 · simp only [Qre,zSh]; omega
 · have:=Qzv 0 (bxA l i).fD
   simp only [Qre,zSh]; omega
 · have:=Qzv 0 (bxA l i).fH
   simp only [Qre,zSh]; omega
 · simp only [Qre,zSh]; omega
theorem Q9k {p:Pallet} {l:List Box} (hb:Qya p l=true):∀ (is:List Int) (out:List Shelf),(∀ i∈is,0≤i∧i<l.length)→(∀ s∈out,ShI p l.length s)→(∀ s∈is.foldl (shS p l) out,ShI p l.length s)∧((is.foldl (shS p l) out).map (·.f9)).flatten=(out.map (·.f9)).flatten++is∧(is.foldl (shS p l) out).length≤out.length+is.length
 | [],out,_,h=>⟨h,by simp,by simp⟩
 | i::is,out,hi,h=>by
  rw [List.foldl_cons]
  obtain ⟨h1,h2,h3⟩:=Q9k hb is (shS p l out i) (λj hj=>hi j (by simp [hj])) (Q3t hb (hi i (by simp)) h)
  have h4:((shS p l out i).map (·.f9)).flatten=(out.map (·.f9)).flatten++[i]:=Qrm (λs=>rfl) rfl
  have h5:(shS p l out i).length≤out.length+1:=Qsk _ _ _ _
  refine ⟨h1,by rw [h2,h4]; simp,by simp; omega⟩
theorem Q1l {p:Pallet} {l:List Box} (hb:Qya p l=true):(∀ s∈shM p l,ShI p l.length s)∧((shM p l).map (·.f9)).flatten=srt (dnk (l.map (·.fD))) l.length∧(shM p l).length≤l.length:=by
 unfold shM
 rw [hb,cond_true]
 obtain ⟨h1,h2,h3⟩:=Q9k hb (srt (dnk (l.map (·.fD))) l.length) [] (λi hi=>Qu4.1 hi) (by simp)
 refine ⟨h1,by simpa using h2,?_⟩
 rw [Qr4] at h3
 simpa using h3
theorem Jg4 {fu:Nat} (s:Shelf) (i:Int) (b:Box) (hl:s.f9.length≤1000000) (h1:-1000000000≤s.fW+b.fW∧s.fW+b.fW≤1000000000) (h2:-1000000000≤s.fQ+b.fQ∧s.fQ+b.fQ≤1000000000):Qgh fu s i b=some (Qre s i b):=by
 unfold Qgh
 rw [ap1 (by simp; omega),Qaa,ap1 (by simp; omega),Qaa,Q92,Qaa,Q92,Qaa,Qay (by omega) (by omega),Qay (by omega) (by omega)]
 rfl
theorem Qqn {σ:Type} (f:σ→List Int):∀ (l:List σ) (s:σ),s∈l→(f s).length≤((l.map f).flatten).length
 | [],_,h=>by simp at h
 | x::l,s,h=>by
  simp only [List.map_cons,List.flatten_cons,List.length_append]
  rcases List.mem_cons.1 h with rfl | h
  · omega
  · have:=Qqn f l s h; omega
theorem Q8c {fu:Nat} (hfu:2097153≤fu) (p:Pallet) (l:List Box) (hl:l.length≤1000):Qoo fu p l=some (shM p l):=by
 unfold Qoo shM
 rw [Jgj p l (by omega) (by omega),Qaa]
 cases hb:Qya p l
 · rfl
 · rw [Bool.not_true,cond_false,cond_true]
   have key:=lpI l (λn (o:List Int) i=>Qgg fu p l n o i) (λxs o=>Qab (Qgl fu (o++xs.map (·.fD))) λx=>Qd8 fu p l x fu [] 0) (λxs o=>o.length+xs.length≤1000) (by omega) ?_ ?_ fu [] (by simp; omega) (by omega)
   · rw [key,List.nil_append,Jb7 hfu (by simp; omega),Qaa,List.length_map]
     have hsl:=Qr4 (dnk (l.map (·.fD))) l.length
     have hsm:=λx=>Qu4 (k:=dnk (l.map (·.fD))) (n:=l.length) (x:=x)
     generalize srt (dnk (l.map (·.fD))) l.length=S at hsl hsm ⊢
     have L1:=lpI S (λn (o:List Shelf) i=>Qd8 fu p l S n o i) (λxs o=>some (xs.foldl (shS p l) o)) (λxs o=>(∀ i∈xs,0≤i∧i<l.length)∧(∀ s∈o,ShI p l.length s)∧((o.map (·.f9)).flatten).length+xs.length≤1000∧o.length+xs.length≤1000) (by omega) ?_ ?_ fu [] ⟨λi hi=>(hsm i).1 hi,by simp,by simp; omega,by simp; omega⟩ (by omega)
     · exact L1
     · intro n o i x xs hx hd hI ih
       obtain ⟨i1,i2,i3,i4⟩:=hI
       simp only [List.length_cons] at i3 i4
       have hxi:=i1 x (by simp)
       obtain ⟨hbx,b1,b2,b3,b4⟩:=Q1x hb hxi
       obtain ⟨p1,p2,p3,p4⟩:=Qvw (Q0a hb)
       have hn:Qgh fu zSh x (bxA l x)=some (Qre zSh x (bxA l x)):=Jg4 zSh x _ (by simp [zSh]) (by simp [zSh]; omega) (by simp [zSh]; omega)
       have hn':Qgh fu (⟨[],0,0,0,0⟩:Shelf) x (bxA l x)=some (Qre zSh x (bxA l x)):=hn
       have hflat:((shS p l o x).map (·.f9)).flatten=(o.map (·.f9)).flatten++[x]:=Qrm (λs=>rfl) rfl
       have hlen:(shS p l o x).length≤o.length+1:=Qsk _ _ _ _
       have ih':=ih (shS p l o x) ⟨λj hj=>i1 j (by simp [hj]),Q3t hb hxi i2,by rw [hflat,List.length_append,List.length_singleton]; omega,by omega⟩
       simp only [Qd8.eq_2]
       unfold Qjv Qf9
       rw [hd,cond_true,hx,Qaa,hbx,Qaa,List.foldl_cons,← ih',hn',Qaa]
       by_cases he:o=[]
       · subst he
         rw [Qah (by simp),Qaa,ap1 (by simp),Qaa]; rfl
       · obtain ⟨s,e1,e2⟩:=Qtb he
         have hp:=List.length_pos_iff.2 he
         have hsm':=List.mem_of_getLast? e1
         have hs:=i2 s hsm'
         have hsl':=Qqn (λs:Shelf=>s.f9) o s hsm'
         rw [Qay (n:=(o.length:Int) - 1) (by omega) (by omega),e2,Qaa,Qa2 (by simp; omega)]
         obtain ⟨s1,s2,s3,s4,s5,s6⟩:=hs
         rw [Qay (n:=s.fW+_) (by omega) (by omega),Qay (n:=s.fQ+_) (by omega) (by omega),Qaa,Qaa,Qaa,Jg4 (fu:=fu) s x (bxA l x) (by omega) (by omega) (by omega)]
         simp only [Qaa]
         rw [ap1 (by simp; omega),Qaa]
         have eS:shS p l o x=bif Q5h p (bxA l x) s then o.set (o.length - 1) (Qre s x (bxA l x)) else o++[Qre zSh x (bxA l x)]:=Qtg e1
         rw [eS]
         unfold Q5h
         rw [show Qim o ((o.length:Int) - 1) (Qre s x (bxA l x))=o.set (o.length - 1) (Qre s x (bxA l x)) by unfold Qim; congr 1; omega]
         cases decide (s.fW+(bxA l x).fW≤p.fW) <;> cases decide (s.fQ+(bxA l x).fQ≤p.fQ) <;> rfl
     · intro n o i hd _
       simp only [Qd8.eq_2]
       unfold Qjv
       rw [hd,cond_false]; rfl
   · intro n o i x xs hx hd hI ih
     simp only [List.length_cons] at hI
     simp only [Qgg.eq_2]
     unfold Qki
     rw [hd,cond_true,hx,Qaa,ap1 (by simp; omega),Qaa,ih _ (by simp; omega)]
     simp
   · intro n o i hd _
     simp only [Qgg.eq_2]
     unfold Qki
     rw [hd,cond_false]; simp
def okL (p:Pallet) (d h g:Int):Bool:=inb d 1 p.fD&&(inb h 1 p.fH&&inb g 1 p.fQ)
theorem Jhr (fu:Nat) (p:Pallet) (d h g:Int):Qpp fu p d h g=some (okL p d h g):=by
 unfold Qpp okL
 simp only [Q2x,Qaa]
 cases inb d 1 p.fD <;> cases inb h 1 p.fH <;> rfl
theorem Jjl {fu:Nat} (p:Pallet) (l:List Shelf) (hl:l.length≤1048576) (hf:l.length<fu):Qll fu p l=some (Qtn p&&l.all λs=>okL p s.fD s.fH s.fQ):=by
 unfold Qll
 rw [Ja5,Qaa]
 cases Qtn p
 · rfl
 · rw [Bool.not_true,cond_false,Bool.true_and]
   have:=Jet l (λn i=>Qew fu p l n i) (λs=>okL p s.fD s.fH s.fQ) (some true) (by omega) ?_ ?_ fu hf
   · rw [this]
     cases l.all λs=>okL p s.fD s.fH s.fQ <;> rfl
   · intro n i x hx hd
     simp only [Qew.eq_2]
     unfold Qh6
     simp only [hd,cond_true,hx,Qaa,Jhr]
     cases okL p x.fD x.fH x.fQ <;> rfl
   · intro n i hd
     simp only [Qew.eq_2]
     unfold Qh6
     rw [hd,cond_false]
theorem Jj2 {fu:Nat} (p:Pallet) (l:List Layer) (hl:l.length≤1048576) (hf:l.length<fu):Qna fu p l=some (Qtn p&&l.all λs=>okL p s.fD s.fH s.fQ):=by
 unfold Qna
 rw [Ja5,Qaa]
 cases Qtn p
 · rfl
 · rw [Bool.not_true,cond_false,Bool.true_and]
   have:=Jet l (λn i=>Qfi fu p l n i) (λs=>okL p s.fD s.fH s.fQ) (some true) (by omega) ?_ ?_ fu hf
   · rw [this]
     cases l.all λs=>okL p s.fD s.fH s.fQ <;> rfl
   · intro n i x hx hd
     simp only [Qfi.eq_2]
     unfold Qiu
     simp only [hd,cond_true,hx,Qaa,Jhr]
     cases okL p x.fD x.fH x.fQ <;> rfl
   · intro n i hd
     simp only [Qfi.eq_2]
     unfold Qiu
     rw [hd,cond_false]
def shA (l:List Shelf) (i:Int):Shelf:=(ix l i).getD zSh
def zLy:Layer:=⟨[],0,0,0⟩
def Qr7 (x:Layer) (i:Int) (s:Shelf):Layer:=⟨x.fP++[i],x.fD+s.fD,mxI x.fH s.fH,x.fQ+s.fQ⟩
def Q5f (p:Pallet) (s:Shelf) (x:Layer):Bool:=decide (x.fD+s.fD≤p.fD)&&decide (x.fQ+s.fQ≤p.fQ)
def lyS (p:Pallet) (l:List Shelf) (out:List Layer) (i:Int):List Layer:=nxG (Q5f p (shA l i)) (λs=>Qr7 s i (shA l i)) zLy out
def lyM (p:Pallet) (l:List Shelf):List Layer:=(Qnf 0 l.length).foldl (lyS p l) []
structure LyI (p:Pallet) (n:Nat) (s:Layer):Prop where
 ne:s.fP≠[]
 inn:∀ i∈s.fP,0≤i∧i<n
 d:1≤s.fD∧s.fD≤p.fD
 h:1≤s.fH∧s.fH≤p.fH
 g:1≤s.fQ∧s.fQ≤p.fQ
def OkS (p:Pallet) (l:List Shelf):Prop:=∀ s∈l,(1≤s.fD∧s.fD≤p.fD)∧(1≤s.fH∧s.fH≤p.fH)∧(1≤s.fQ∧s.fQ≤p.fQ)
theorem Q1v {p:Pallet} {l:List Shelf} (h:OkS p l) {i:Int} (hi:0≤i∧i<l.length):ix l i=some (shA l i)∧(1≤(shA l i).fD∧(shA l i).fD≤p.fD)∧(1≤(shA l i).fH∧(shA l i).fH≤p.fH)∧(1≤(shA l i).fQ∧(shA l i).fQ≤p.fQ)∧shA l i∈l:=by
 obtain ⟨x,hx⟩:=Q3b (l:=l) hi.1 hi.2
 have e:shA l i=x:=by unfold shA; rw [hx]; rfl
 rw [e]
 exact ⟨hx,(h x (Qm0 hx)).1,(h x (Qm0 hx)).2.1,(h x (Qm0 hx)).2.2,Qm0 hx⟩
theorem Q3o {p:Pallet} {l:List Shelf} (hb:OkS p l) {out:List Layer} {i:Int} (hi:0≤i∧i<l.length) (h:∀ s∈out,LyI p l.length s):∀ s∈lyS p l out i,LyI p l.length s:=by
 obtain ⟨_,b1,b2,b3,_⟩:=Q1v hb hi
 refine Q3g h (λs hs hf=>?_) ⟨by simp [Qr7],λj hj=>?_,?_,?_,?_⟩
 · unfold Q5f at hf
   simp only [Bool.and_eq_true,decide_eq_true_eq] at hf
   obtain ⟨s1,s2,s4,s5,s6⟩:=hs
   have m2:=Qzv s.fH (shA l i).fH
   refine ⟨by simp [Qr7],λj hj=>?_,?_,?_,?_⟩
   · simp only [Qr7,List.mem_append,List.mem_singleton] at hj
     rcases hj with hj | rfl
     · exact s2 j hj
     · exact hi
   · simp only [Qr7]; omega
   · simp only [Qr7]; omega
   · simp only [Qr7]; omega
 · simp only [Qr7,zLy,List.nil_append,List.mem_singleton] at hj
   rw [hj]; exact hi
 · simp only [Qr7,zLy]; omega
 · have:=Qzv 0 (shA l i).fH
   simp only [Qr7,zLy]; omega
 · simp only [Qr7,zLy]; omega
theorem Q7w {p:Pallet} {l:List Shelf} (hb:OkS p l):∀ (is:List Int) (out:List Layer),(∀ i∈is,0≤i∧i<l.length)→(∀ s∈out,LyI p l.length s)→(∀ s∈is.foldl (lyS p l) out,LyI p l.length s)∧((is.foldl (lyS p l) out).map (·.fP)).flatten=(out.map (·.fP)).flatten++is∧(is.foldl (lyS p l) out).length≤out.length+is.length
 | [],out,_,h=>⟨h,by simp,by simp⟩
 | i::is,out,hi,h=>by
  rw [List.foldl_cons]
  obtain ⟨h1,h2,h3⟩:=Q7w hb is (lyS p l out i) (λj hj=>hi j (by simp [hj])) (Q3o hb (hi i (by simp)) h)
  have h4:((lyS p l out i).map (·.fP)).flatten=(out.map (·.fP)).flatten++[i]:=Qrm (λs=>rfl) rfl
  have h5:(lyS p l out i).length≤out.length+1:=Qsk _ _ _ _
  refine ⟨h1,by rw [h2,h4]; simp,by simp; omega⟩
theorem Q0c {p:Pallet} {l:List Shelf} (hb:OkS p l):(∀ s∈lyM p l,LyI p l.length s)∧((lyM p l).map (·.fP)).flatten=Qnf 0 l.length∧(lyM p l).length≤l.length:=by
 unfold lyM
 obtain ⟨h1,h2,h3⟩:=Q7w hb (Qnf 0 l.length) [] (λi hi=>by have:=Qhy.1 hi; omega) (by simp)
 refine ⟨h1,by simpa using h2,?_⟩
 rw [Qcf] at h3
 simpa using h3
theorem Jhd {p:Pallet} {l:List Shelf} (h:OkS p l):(l.all λs=>okL p s.fD s.fH s.fQ)=true:=by
 refine List.all_eq_true.2 λs hs=>?_
 unfold okL
 simp only [Bool.and_eq_true,Qcd]
 exact ⟨(h s hs).1,(h s hs).2.1,(h s hs).2.2⟩
theorem Q96 {fu:Nat} (hfu:2097153≤fu) {p:Pallet} (hp:Qtn p=true) {l:List Shelf} (hb:OkS p l) (hl:l.length≤1000):Qm6 fu p l=some (lyM p l):=by
 unfold Qm6 lyM
 rw [Jjl p l (by omega) (by omega),hp,Jhd hb,Qaa,Bool.and_self,Bool.not_true,cond_false]
 obtain ⟨p1,p2,p3,p4⟩:=Qvw hp
 have L1:=Q5i (l.length:Int) (λn (o:List Layer) i=>Qbb fu p l n o i) (λxs o=>some (xs.foldl (lyS p l) o)) (λxs o=>(∀ s∈o,LyI p l.length s)∧((o.map (·.fP)).flatten).length+xs.length≤1000∧o.length+xs.length≤1000) (by omega) ?_ ?_ l.length fu [] 0 (by omega) (by omega) (by omega) ⟨by simp,by simp [Qcf]; omega,by simp [Qcf]; omega⟩
 · exact L1
 · intro n o i xs x0 x1 hd hI ih
   obtain ⟨i2,i3,i4⟩:=hI
   simp only [List.length_cons] at i3 i4
   obtain ⟨hbx,b1,b2,b3,_⟩:=Q1v hb ⟨x0,x1⟩
   have hflat:((lyS p l o i).map (·.fP)).flatten=(o.map (·.fP)).flatten++[i]:=Qrm (λs=>rfl) rfl
   have hlen:(lyS p l o i).length≤o.length+1:=Qsk _ _ _ _
   have ih':=ih (lyS p l o i) ⟨Q3o hb ⟨x0,x1⟩ i2,by rw [hflat,List.length_append,List.length_singleton]; omega,by omega⟩
   have J:∀ (o':List Layer) (x:Layer),o'.length≤1000→(x.fP.length≤1000)→(0≤x.fD∧x.fD≤2000)→(0≤x.fQ∧x.fQ≤100000)→Qc1 fu (Qbb fu p l n) i (shA l i) (o'++[x]) ((o'.length:Int)+1)=Qbb fu p l n (o'++[Qr7 x i (shA l i)]) (w64 (i+1)):=by
    intro o' x h1 h2 h3 h4
    unfold Qc1 Qmk
    have e1:w64 ((o'.length:Int)+1 - 1)=(o'.length:Int):=by rw [Qay (by omega) (by omega)]; omega
    have e2:ix (o'++[x]) (o'.length:Int)=some x:=by rw [Qlf]; simp
    rw [e1,e2,Qaa,ap1 (by simp; omega),Qaa,ap1 (by simp; omega),Qaa,Q92,Qaa,Qaa,Qay (n:=x.fD+_) (by omega) (by omega),Qay (n:=x.fQ+_) (by omega) (by omega)]
    have e3:∀ y:Layer,Qim (o'++[x]) (o'.length:Int) y=o'++[y]:=by intro y; simp [Qim]
    rw [e3]
    rfl
   simp only [Qbb.eq_2]
   unfold Qi1
   rw [hd,cond_true,hbx,Qaa,List.foldl_cons,← ih']
   by_cases he:o=[]
   · subst he
     rw [Qa2 (by simp),ap1 (by simp),Qaa]
     have:=J [] zLy (by simp) (by simp [zLy]) (by simp [zLy]) (by simp [zLy])
     rw [Qay (by simp) (by simp)]
     exact this
   · obtain ⟨s,e1,e2⟩:=Qtb he
     have hpl:=List.length_pos_iff.2 he
     have hsm':=List.mem_of_getLast? e1
     have hs:=i2 s hsm'
     have hsl':=Qqn (λs:Layer=>s.fP) o s hsm'
     obtain ⟨s1,s2,s4,s5,s6⟩:=hs
     have eS:lyS p l o i=bif Q5f p (shA l i) s then o.set (o.length - 1) (Qr7 s i (shA l i)) else o++[Qr7 zLy i (shA l i)]:=Qtg e1
     have eo:o=o.dropLast++[s]:=by
      have h1:=List.dropLast_concat_getLast he
      rw [List.getLast?_eq_some_getLast he] at e1
      rw [Option.some.inj e1] at h1
      exact h1.symm
     have e3:Qc1 fu (Qbb fu p l n) i (shA l i) o (o.length:Int)=Qbb fu p l n (o.set (o.length - 1) (Qr7 s i (shA l i))) (w64 (i+1)):=by
      obtain ⟨d,hd⟩:∃ d,o=d++[s]:=⟨_,eo⟩
      rw [hd] at i4 ⊢
      simp only [List.length_append,List.length_singleton] at i4
      have:=J d s (by omega) (by omega) (by omega) (by omega)
      rw [show (((d++[s]).length:Nat):Int)=(d.length:Int)+1 by simp,this]
      congr 1
      simp
     have e4:Qc1 fu (Qbb fu p l n) i (shA l i) (o++[zLy]) (w64 ((o.length:Int)+1))=Qbb fu p l n (o++[Qr7 zLy i (shA l i)]) (w64 (i+1)):=by
      rw [Qay (by omega) (by omega)]
      exact J o zLy (by omega) (by simp [zLy]) (by simp [zLy]) (by simp [zLy])
     rw [Qay (n:=(o.length:Int) - 1) (by omega) (by omega),e2,Qaa,Qah (by simp; omega),Qaa,Qay (n:=s.fD+_) (by omega) (by omega),Qay (n:=s.fQ+_) (by omega) (by omega),ap1 (by simp; omega),Qaa,e3]
     rw [show (⟨[],0,0,0⟩:Layer)=zLy from rfl,e4,eS]
     unfold Q5f
     by_cases c1:s.fD+(shA l i).fD≤p.fD
     · rw [Qah (c:=decide (s.fD+(shA l i).fD>p.fD)) (by simp; omega),decide_eq_true c1]
       by_cases c2:s.fQ+(shA l i).fQ≤p.fQ
       · rw [Qah (c:=decide (s.fQ+(shA l i).fQ>p.fQ)) (by simp; omega),decide_eq_true c2]; rfl
       · rw [Qa2 (c:=decide (s.fQ+(shA l i).fQ>p.fQ)) (by simp; omega),decide_eq_false c2]; rfl
     · rw [Qa2 (c:=decide (s.fD+(shA l i).fD>p.fD)) (by simp; omega),decide_eq_false c1]; rfl
 · intro n o i hd _
   simp only [Qbb.eq_2]
   unfold Qi1
   rw [hd,cond_false]; rfl
def lyA (l:List Layer) (i:Int):Layer:=(ix l i).getD zLy
def zLd:Load:=⟨[],0,0⟩
def Qsh (x:Load) (i:Int) (s:Layer):Load:=⟨x.f8++[i],x.fH+s.fH,x.fQ+s.fQ⟩
def Q5k (p:Pallet) (s:Layer) (x:Load):Bool:=decide (x.fH+s.fH≤p.fH)&&decide (x.fQ+s.fQ≤p.fQ)
def ldS (p:Pallet) (l:List Layer) (out:List Load) (i:Int):List Load:=nxG (Q5k p (lyA l i)) (λs=>Qsh s i (lyA l i)) zLd out
def ldM (p:Pallet) (l:List Layer):List Load:=(Qnf 0 l.length).foldl (ldS p l) []
structure LdI (p:Pallet) (n:Nat) (s:Load):Prop where
 ne:s.f8≠[]
 inn:∀ i∈s.f8,0≤i∧i<n
 h:1≤s.fH∧s.fH≤p.fH
 g:1≤s.fQ∧s.fQ≤p.fQ
def OkY (p:Pallet) (l:List Layer):Prop:=∀ s∈l,(1≤s.fD∧s.fD≤p.fD)∧(1≤s.fH∧s.fH≤p.fH)∧(1≤s.fQ∧s.fQ≤p.fQ)
theorem Q1u {p:Pallet} {l:List Layer} (h:OkY p l) {i:Int} (hi:0≤i∧i<l.length):ix l i=some (lyA l i)∧(1≤(lyA l i).fD∧(lyA l i).fD≤p.fD)∧(1≤(lyA l i).fH∧(lyA l i).fH≤p.fH)∧(1≤(lyA l i).fQ∧(lyA l i).fQ≤p.fQ)∧lyA l i∈l:=by
 obtain ⟨x,hx⟩:=Q3b (l:=l) hi.1 hi.2
 have e:lyA l i=x:=by unfold lyA; rw [hx]; rfl
 rw [e]
 exact ⟨hx,(h x (Qm0 hx)).1,(h x (Qm0 hx)).2.1,(h x (Qm0 hx)).2.2,Qm0 hx⟩
theorem Q23 {p:Pallet} {l:List Layer} (hb:OkY p l) {out:List Load} {i:Int} (hi:0≤i∧i<l.length) (h:∀ s∈out,LdI p l.length s):∀ s∈ldS p l out i,LdI p l.length s:=by
 obtain ⟨_,b1,b2,b3,_⟩:=Q1u hb hi
 refine Q3g h (λs hs hf=>?_) ⟨by simp [Qsh],λj hj=>?_,?_,?_⟩
 · unfold Q5k at hf
   simp only [Bool.and_eq_true,decide_eq_true_eq] at hf
   obtain ⟨s1,s2,s5,s6⟩:=hs
   refine ⟨by simp [Qsh],λj hj=>?_,?_,?_⟩
   · simp only [Qsh,List.mem_append,List.mem_singleton] at hj
     rcases hj with hj | rfl
     · exact s2 j hj
     · exact hi
   · simp only [Qsh]; omega
   · simp only [Qsh]; omega
 · simp only [Qsh,zLd,List.nil_append,List.mem_singleton] at hj
   rw [hj]; exact hi
 · simp only [Qsh,zLd]; omega
 · simp only [Qsh,zLd]; omega
theorem Q8p {p:Pallet} {l:List Layer} (hb:OkY p l):∀ (is:List Int) (out:List Load),(∀ i∈is,0≤i∧i<l.length)→(∀ s∈out,LdI p l.length s)→(∀ s∈is.foldl (ldS p l) out,LdI p l.length s)∧((is.foldl (ldS p l) out).map (·.f8)).flatten=(out.map (·.f8)).flatten++is∧(is.foldl (ldS p l) out).length≤out.length+is.length
 | [],out,_,h=>⟨h,by simp,by simp⟩
 | i::is,out,hi,h=>by
  rw [List.foldl_cons]
  obtain ⟨h1,h2,h3⟩:=Q8p hb is (ldS p l out i) (λj hj=>hi j (by simp [hj])) (Q23 hb (hi i (by simp)) h)
  have h4:((ldS p l out i).map (·.f8)).flatten=(out.map (·.f8)).flatten++[i]:=Qrm (λs=>rfl) rfl
  have h5:(ldS p l out i).length≤out.length+1:=Qsk _ _ _ _
  refine ⟨h1,by rw [h2,h4]; simp,by simp; omega⟩
theorem Q3s {p:Pallet} {l:List Layer} (hb:OkY p l):(∀ s∈ldM p l,LdI p l.length s)∧((ldM p l).map (·.f8)).flatten=Qnf 0 l.length∧(ldM p l).length≤l.length:=by
 unfold ldM
 obtain ⟨h1,h2,h3⟩:=Q8p hb (Qnf 0 l.length) [] (λi hi=>by have:=Qhy.1 hi; omega) (by simp)
 refine ⟨h1,by simpa using h2,?_⟩
 rw [Qcf] at h3
 simpa using h3
theorem Jgd {p:Pallet} {l:List Layer} (h:OkY p l):(l.all λs=>okL p s.fD s.fH s.fQ)=true:=by
 refine List.all_eq_true.2 λs hs=>?_
 unfold okL
 simp only [Bool.and_eq_true,Qcd]
 exact ⟨(h s hs).1,(h s hs).2.1,(h s hs).2.2⟩
theorem Jc9 {fu:Nat} (hfu:2097153≤fu) {p:Pallet} (hp:Qtn p=true) {l:List Layer} (hb:OkY p l) (hl:l.length≤1000):Qov fu p l=some (ldM p l):=by
 unfold Qov ldM
 rw [Jj2 p l (by omega) (by omega),hp,Jgd hb,Qaa,Bool.and_self,Bool.not_true,cond_false]
 obtain ⟨p1,p2,p3,p4⟩:=Qvw hp
 have L1:=Q5i (l.length:Int) (λn (o:List Load) i=>Qbk fu p l n o i) (λxs o=>some (xs.foldl (ldS p l) o)) (λxs o=>(∀ s∈o,LdI p l.length s)∧((o.map (·.f8)).flatten).length+xs.length≤1000∧o.length+xs.length≤1000) (by omega) ?_ ?_ l.length fu [] 0 (by omega) (by omega) (by omega) ⟨by simp,by simp [Qcf]; omega,by simp [Qcf]; omega⟩
 · exact L1
 · intro n o i xs x0 x1 hd hI ih
   obtain ⟨i2,i3,i4⟩:=hI
   simp only [List.length_cons] at i3 i4
   obtain ⟨hbx,b1,b2,b3,_⟩:=Q1u hb ⟨x0,x1⟩
   have hflat:((ldS p l o i).map (·.f8)).flatten=(o.map (·.f8)).flatten++[i]:=Qrm (λs=>rfl) rfl
   have hlen:(ldS p l o i).length≤o.length+1:=Qsk _ _ _ _
   have ih':=ih (ldS p l o i) ⟨Q23 hb ⟨x0,x1⟩ i2,by rw [hflat,List.length_append,List.length_singleton]; omega,by omega⟩
   have J:∀ (o':List Load) (x:Load),o'.length≤1000→(x.f8.length≤1000)→(0≤x.fH∧x.fH≤2000)→(0≤x.fQ∧x.fQ≤100000)→Qc9 fu (Qbk fu p l n) i (lyA l i) (o'++[x]) ((o'.length:Int)+1)=Qbk fu p l n (o'++[Qsh x i (lyA l i)]) (w64 (i+1)):=by
    intro o' x h1 h2 h3 h4
    unfold Qc9 Qn1
    have e1:w64 ((o'.length:Int)+1 - 1)=(o'.length:Int):=by rw [Qay (by omega) (by omega)]; omega
    have e2:ix (o'++[x]) (o'.length:Int)=some x:=by rw [Qlf]; simp
    rw [e1,e2,Qaa,ap1 (by simp; omega),Qaa,ap1 (by simp; omega),Qaa,Qaa,Qay (n:=x.fH+_) (by omega) (by omega),Qay (n:=x.fQ+_) (by omega) (by omega)]
    have e3:∀ y:Load,Qim (o'++[x]) (o'.length:Int) y=o'++[y]:=by intro y; simp [Qim]
    rw [e3]
    rfl
   simp only [Qbk.eq_2]
   unfold Qkn
   rw [hd,cond_true,hbx,Qaa,List.foldl_cons,← ih']
   by_cases he:o=[]
   · subst he
     rw [Qa2 (by simp),ap1 (by simp),Qaa]
     have:=J [] zLd (by simp) (by simp [zLd]) (by simp [zLd]) (by simp [zLd])
     rw [Qay (by simp) (by simp)]
     exact this
   · obtain ⟨s,e1,e2⟩:=Qtb he
     have hpl:=List.length_pos_iff.2 he
     have hsm':=List.mem_of_getLast? e1
     have hs:=i2 s hsm'
     have hsl':=Qqn (λs:Load=>s.f8) o s hsm'
     obtain ⟨s1,s2,s5,s6⟩:=hs
     have eS:ldS p l o i=bif Q5k p (lyA l i) s then o.set (o.length - 1) (Qsh s i (lyA l i)) else o++[Qsh zLd i (lyA l i)]:=Qtg e1
     have eo:o=o.dropLast++[s]:=by
      have h1:=List.dropLast_concat_getLast he
      rw [List.getLast?_eq_some_getLast he] at e1
      rw [Option.some.inj e1] at h1
      exact h1.symm
     have e3:Qc9 fu (Qbk fu p l n) i (lyA l i) o (o.length:Int)=Qbk fu p l n (o.set (o.length - 1) (Qsh s i (lyA l i))) (w64 (i+1)):=by
      obtain ⟨d,hd⟩:∃ d,o=d++[s]:=⟨_,eo⟩
      rw [hd] at i4 ⊢
      simp only [List.length_append,List.length_singleton] at i4
      have:=J d s (by omega) (by omega) (by omega) (by omega)
      rw [show (((d++[s]).length:Nat):Int)=(d.length:Int)+1 by simp,this]
      congr 1
      simp
     have e4:Qc9 fu (Qbk fu p l n) i (lyA l i) (o++[zLd]) (w64 ((o.length:Int)+1))=Qbk fu p l n (o++[Qsh zLd i (lyA l i)]) (w64 (i+1)):=by
      rw [Qay (by omega) (by omega)]
      exact J o zLd (by omega) (by simp [zLd]) (by simp [zLd]) (by simp [zLd])
     rw [Qay (n:=(o.length:Int) - 1) (by omega) (by omega),e2,Qaa,Qah (by simp; omega),Qaa,Qay (n:=s.fH+_) (by omega) (by omega),Qay (n:=s.fQ+_) (by omega) (by omega),ap1 (by simp; omega),Qaa,e3]
     rw [show (⟨[],0,0⟩:Load)=zLd from rfl,e4,eS]
     unfold Q5k
     by_cases c1:s.fH+(lyA l i).fH≤p.fH
     · rw [Qah (c:=decide (s.fH+(lyA l i).fH>p.fH)) (by simp; omega),decide_eq_true c1]
       by_cases c2:s.fQ+(lyA l i).fQ≤p.fQ
       · rw [Qah (c:=decide (s.fQ+(lyA l i).fQ>p.fQ)) (by simp; omega),decide_eq_true c2]; rfl
       · rw [Qa2 (c:=decide (s.fQ+(lyA l i).fQ>p.fQ)) (by simp; omega),decide_eq_false c2]; rfl
     · rw [Qa2 (c:=decide (s.fH+(lyA l i).fH>p.fH)) (by simp; omega),decide_eq_false c1]; rfl
 · intro n o i hd _
   simp only [Qbk.eq_2]
   unfold Qkn
   rw [hd,cond_false]; rfl
end Go.Proofs.YtndfoffokpdjeaaGreatDoor
