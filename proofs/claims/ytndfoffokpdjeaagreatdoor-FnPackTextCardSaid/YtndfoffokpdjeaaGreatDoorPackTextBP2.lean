/- PackTextBP: plain le.. -/
import Derived.Test.YtndfoffokpdjeaaGreatDoorPackTextBP1
set_option linter.unusedSimpArgs false
set_option linter.unusedVariables false
namespace Go.Proofs.YtndfoffokpdjeaaGreatDoor
open Go
open Enc (rd ow)
open Arg (argv)
open Ret (retv)
open Wf (wf)
theorem Q37 (r:Request) (u:Int):0≤(Qwm r u).fQ∧(Qwm r u).fQ≤100000:=by
 unfold Qwm
 cases hm:Q3w r u with
 | none=>simp [Q79]
 | some x=>exact Q2q (r:=r) (us:=[u]) (by simp [Qxn,List.filterMap_cons,hm])
theorem Jmv {fu:Nat} {r:Request} (h:Sm fu r) (us:List Int) (hl:us.length≤1048576) (hf:us.length<fu):Qr4 fu r us=some (Qwg r us):=by
 unfold Qr4
 rw [Jl3 h,Qaa]
 have key:=lpI us (λn s i=>Qem fu r us (Qi4 r) n s i) (λl n=>some (n+Qwg r l)) (λl n=>0≤n∧n+100000*l.length≤100000*1048576) (by omega) ?_ ?_ fu 0 ⟨by omega,by omega⟩ hf
 · simpa using key
 · intro n s i x xs hx hd hI ih
   simp only [Qem.eq_2]
   unfold Qo3 Qrl Qrr
   simp only [hd,cond_true,hx,Qaa,Ja3]
   have hv:=Q37 r x
   have h2:=hI.2
   simp only [List.length_cons] at h2
   rw [Qam (by omega) (by omega),ih _ ⟨by omega,by omega⟩]
   congr 1
   have e:Qwg r (x::xs)=(Qwm r x).fQ+Qwg r xs:=by
    unfold Qwg Qxn Qwm
    cases hm:Q3w r x with
    | none=>simp [List.filterMap_cons,hm,Q79]
    | some y=>simp [List.filterMap_cons,hm]
   rw [e]
   omega
 · intro n s i hd _
   simp only [Qem.eq_2]
   unfold Qo3
   simp only [hd,cond_false]
   simp [Qwg,Qxn]
theorem Jjf {fu:Nat} {r:Request} (h:Sm fu r) (us:List Int) (hl:us.length≤1048576) (hf:us.length<fu):Qot fu r us=some (Qwg r us):=by
 unfold Qot
 rw [Q5m h us hl hf,Qaa]
 have hlen:=Qym r us
 have key:=lpI (Qxn r us) (λn s i=>Qhm fu (Qxn r us) n s i) (λl n=>some (n+Qxt (l.map (·.fQ)))) (λl n=>0≤n∧n+100000*l.length≤100000*1048576∧∀ x∈l,0≤x.fQ∧x.fQ≤100000) (by omega) ?_ ?_ fu 0 ⟨by omega,by omega,λx hx=>Q2q hx⟩ (by omega)
 · simpa [Qwg] using key
 · intro n s i x xs hx hd hI ih
   simp only [Qhm.eq_2]
   unfold Qnq
   simp only [hd,cond_true,hx,Qaa]
   have hv:=hI.2.2 x (by simp)
   have h2:=hI.2.1
   simp only [List.length_cons] at h2
   rw [Qam (by omega) (by omega),ih _ ⟨by omega,by omega,λy hy=>hI.2.2 y (by simp [hy])⟩]
   simp only [List.map_cons,Qq3]
   congr 1
   omega
 · intro n s i hd _
   simp only [Qhm.eq_2]
   unfold Qnq
   simp only [hd,cond_false]
   simp
theorem Jcj (r:Request) (x:Int) (xs:List Int):Qxo r (x::xs)=Jbv (Qwm r x)+Qxo r xs:=by
 unfold Qxo Qxn Qwm
 cases hm:Q3w r x with
 | none=>simp [List.filterMap_cons,hm,Jck]
 | some y=>simp [List.filterMap_cons,hm]
theorem Q6i (r:Request) (x:Int) (xs:List Int):Qwg r (x::xs)=(Qwm r x).fQ+Qwg r xs:=by
 unfold Qwg Qxn Qwm
 cases hm:Q3w r x with
 | none=>simp [List.filterMap_cons,hm,Q79]
 | some y=>simp [List.filterMap_cons,hm]
theorem Q9h {fu:Nat} (r:Request) (us:List Int) (hl:us.length≤1048576) (hf:us.length<fu):Qpz fu r (Qi4 r) us=some ⟨Qxo r us,Qwg r us⟩:=by
 unfold Qpz
 have key:=lpI us (λn s i=>Qgo fu r (Qi4 r) us n s i) (λl s=>some (⟨s.fvol+Qxo r l,s.fgram+Qwg r l⟩:L7))
  (λl s=>0≤s.fvol∧s.fvol+8000000000*l.length≤8000000000*1048576∧0≤s.fgram∧s.fgram+100000*l.length≤100000*1048576) (by omega) ?_ ?_ fu ⟨0,0⟩ ⟨by simp,by simp; omega,by simp,by simp; omega⟩ hf
 · simpa using key
 · intro n s i x xs hx hd hI ih
   simp only [Qgo.eq_2]
   unfold Qre Qtx Qtt
   simp only [hd,cond_true,hx,Qaa,Ja3,Je6]
   have hv:=Q99 (Qwm r x).fW (Qwm r x).fH (Qwm r x).fD
   have hg:=Q37 r x
   obtain ⟨a1,a2,a3,a4⟩:=hI
   simp only [List.length_cons] at a2 a4
   rw [Qam (n:=s.fvol+_) (by omega) (by omega),Qam (n:=s.fgram+_) (by omega) (by omega),ih _ ⟨by simp; omega,by simp; omega,by simp; omega,by simp; omega⟩,Jcj,Q6i,show Q8c (Qwm r x).fW (Qwm r x).fH (Qwm r x).fD=Jbv (Qwm r x) from rfl]
   simp only [Option.some.injEq,L7.mk.injEq]
   constructor <;> omega
 · intro n s i hd _
   simp only [Qgo.eq_2]
   unfold Qre
   simp only [hd,cond_false]
   simp [Qxo,Qwg,Qxn]
def Q41 (r:Request) (us:List Int) (t:Typ):Bool:=decide (Qxo r us≤Jca t)&&decide (Qwg r us≤t.fQ)
theorem Q6j {fu:Nat} (r:Request) (t:Typ) (us:List Int) (u:Int) (hl:us.length<1048576) (hf:us.length+1<fu):Qop fu r (Qi4 r) t us u=some (Q41 r (us++[u]) t):=by
 unfold Qop Qrk Q41
 rw [ap1 (by simp; omega),Qaa,List.nil_append,ap1 (by simp; omega),Qaa,Q9h r _ (by simp; omega) (by simp; omega),Qaa,Je6,Qaa]
 show (bif decide (Qxo r (us++[u])≤Jca t) then _ else _)=_
 cases decide (Qxo r (us++[u])≤Jca t) <;> simp
theorem Q7v {fu:Nat} {r:Request} (h:Sm fu r) (t:Typ) (us:List Int) (hl:us.length≤1048576):Qn8 fu r us t=some (Q41 r us t):=by
 have hfu:=h.fu
 unfold Qn8 Q41
 rw [Ja5 h us hl (by omega),Qaa,Jiy,Qaa,Jjf h us hl (by omega)]
 show (bif decide (Qxo r us≤Jca t) then _ else _)=_
 cases decide (Qxo r us≤Jca t) <;> simp
theorem Je3 {r:Request}:(Qyf (Qt6 r r.fR)).1=Qxl r:=rfl
theorem Jak {fu:Nat} {r:Request} (h:Sm fu r) (us:List Int) (u:Int) (hl:us.length<1048576):Qsi fu r us u=some (Qhh r==0&&Q41 r (us++[u]) (Qxl r)):=by
 have hfu:=h.fu
 unfold Qsi Qcx
 rw [Jfu h,Qaa,Qux h,Qaa]
 cases hc:Qhh r==0
 · rfl
 · rw [cond_true,ap1 (by simp; omega),Qaa,Qaa,List.nil_append,ap1 (by simp; omega),Qaa,Q7v h _ _ (by simp; omega)]
   rfl
def Qvu (r:Request) (us:List Int):List Int:=us.filter λu=>inb u 0 (((Qi4 r).length:Int) - 1)
theorem Q5z {fu:Nat} {r:Request} (h:Sm fu r) (us:List Int) (hl:us.length≤1048576):Qiv fu r us=some (Qvu r us):=by
 have hfu:=h.fu
 unfold Qiv Qcx Qvu
 rw [Jfr h,Qaa,ap1 (by simp; omega),Qaa,Qaa,List.nil_append,Jnj _ (λu=>!inb u 0 (((Qi4 r).length:Int) - 1)) ?_ hl (by omega),Qaa]
 · simp
 · intro u _
   unfold Qq7
   rw [Q13,Q1z,Qaa]
theorem Q8q {fu:Nat} {r:Request} (h:Sm fu r) (us:List Int) (hl:us.length≤1048576):Qld fu (Qi4 r) us=some (Qvu r us):=by
 have hfu:=h.fu
 unfold Qld Qvu
 have:=lpI us (λn out i=>Qfd fu (Qi4 r) us n out i) (λxs out=>some (out++xs.filter λu=>inb u 0 (((Qi4 r).length:Int) - 1))) (λxs out=>out.length+xs.length≤1048576) (by omega) ?_ ?_ fu [] (by simpa using hl) (by omega)
 · simpa using this
 · intro n out i x xs hx hd hI ih
   simp only [List.length_cons] at hI
   simp only [Qfd.eq_2]
   unfold Qnf Qju
   rw [hd,cond_true,hx,Qaa,Q13,Q0a,Qaa,Qaa,List.filter_cons]
   cases hb:inb x 0 (((Qi4 r).length:Int) - 1)
   · rw [cond_false,ih _ (by omega)]; simp
   · rw [cond_true,ap1 (by simp; omega),Qaa,ih _ (by simp; omega)]; simp
 · intro n out i hd hI
   simp only [Qfd.eq_2]
   unfold Qnf
   simp only [hd,cond_false]
   simp
theorem Q8g {xs:List Int} (h:xs.length≤1048576):Q28 xs=some (xs.mergeSort λx y=>decide (x≤y)):=by
 unfold Q28
 rw [if_pos (by omega)]
theorem Qv6 (r:Request) (us:List Int):(Qvu r us).length≤us.length:=List.length_filter_le _ _
theorem Qyu {r:Request} {us:List Int} {u:Int} (h:u∈Qvu r us):0≤u∧u<(Qi4 r).length:=by
 unfold Qvu at h
 have:=(List.mem_filter.1 h).2
 rw [Qcb] at this
 omega
theorem Qw1 {r:Request} {u:Int} (h:0≤u∧u<(Qi4 r).length):Q3w r u=some (Qwm r u):=by
 obtain ⟨_,x,_,_,hx⟩:=Q5x h
 unfold Qwm
 rw [hx]; rfl
theorem Q63 {r:Request}:∀ {l:List Int},(∀ u∈l,0≤u∧u<(Qi4 r).length)→Qxn r l=l.map (Qwm r)
 | [],_=>rfl
 | u::l,h=>by
  have ih:=Q63 (r:=r) (l:=l) λv hv=>h v (by simp [hv])
  unfold Qxn at ih ⊢
  rw [List.filterMap_cons,Qw1 (h u (by simp)),ih,List.map_cons]
theorem Jfj {α:Type} (l:List α) (L:Nat→Int→Option Bool) (g:α→Bool) (fin:Option Bool) (hl:l.length≤1099511627776)
    (hs:∀ n (i:Int) x,ix l i=some x→decide (i<(l.length:Int))=true→L (n+1) i=bif g x then L n (w64 (i+1)) else some false)
    (he:∀ n (i:Int),decide (i<(l.length:Int))=false→L (n+1) i=fin):∀ n,l.length<n→L n 0=bif l.all g then fin else some false:=by
 intro n hn
 refine lp l (λn (_:Unit) i=>L n i) (λxs _=>bif xs.all g then fin else some false) hl ?_ ?_ n () hn
 · intro n s i x xs hx hd ih
   rw [hs n i x hx hd,ih (),List.all_cons]
   cases g x <;> rfl
 · intro n s i hd
   rw [he n i hd]; rfl
structure Sep (p:List Pair) (P:List Int) (out:List (List Int)):Prop where
 ne:∀ g∈out,g≠[]
 inn:∀ g∈out,∀ x∈g,x∈P
 one:∀ g∈out,∀ x∈g,∀ y∈g,x≠y→Q12 p x y=true
 two:∀ (i j:Nat) (g h:List Int),out[i]? = some g→out[j]? = some h→i≠j→∀ x∈g,∀ y∈h,Q12 p x y=false
theorem Q6w {α:Type} {p q:α→Bool}:∀ {l:List α},(∀ x∈l,p x=q x)→l.all p=l.all q
 | [],_=>rfl
 | x::xs,h=>by rw [List.all_cons,List.all_cons,h x (by simp),Q6w λy hy=>h y (by simp [hy])]
def uOk (r:Request) (t:Typ) (u:Int):Bool:=(Q3w r u).isSome&&Q0d (Qwm r u) t
def Q4t (r:Request) (us:List Int) (t:Typ):Bool:=Qhh r==0&&(us.all (uOk r t)&&Q41 r us t)
theorem Q1v {r:Request} {u:Int}:(Q3w r u).isSome=true↔0≤u∧u<(Qi4 r).length:=by
 constructor
 · intro h
   apply Decidable.byContradiction
   intro hn
   rw [Q3t hn] at h
   cases h
 · intro h
   rw [Qw1 h]; rfl
theorem Jfl {fu:Nat} {r:Request} (h:Sm fu r) (us:List Int) (t:Typ) (hl:us.length≤1048576):Qta fu r us t=some (Q4t r us t):=by
 have hfu:=h.fu
 have hil:=Qym r us
 unfold Qta Q4t
 rw [Qux h,Qaa]
 cases hc:Qhh r==0
 · rfl
 · rw [Bool.not_true,cond_false,Q5z h us hl,Qaa,Bool.true_and]
   by_cases ha:∀ u∈us,0≤u∧u<(Qi4 r).length
   · have e:Qvu r us=us:=List.filter_eq_self.2 λu hu=>by have:=ha u hu; simp; omega
     have e0:((us.length:Int) != (us.length:Int))=false:=by simp
     rw [e,e0,cond_false]
     unfold Qsy
     rw [Q5m h us hl (by omega),Qaa,Qzj _ (λx=>!Q0d x t) ?_ (by omega) (by omega),Qaa]
     · rw [Q7v h t us hl,Qaa,Q63 ha,List.any_map]
       have e1:us.all (uOk r t)=!(us.any ((λx=>!Q0d x t) ∘ Qwm r)):=by
        rw [List.not_any_eq_all_not]
        apply Q6w
        intro u hu
        simp only [uOk,Q1v.2 (ha u hu),Bool.true_and,Function.comp,Bool.not_not]
       rw [e1]
       cases us.any ((λx=>!Q0d x t) ∘ Qwm r) <;> simp
     · intro x _
       unfold Qtr
       rw [Jjb,Qaa]
   · have hlt:(Qvu r us).length<us.length:=by
       apply Decidable.byContradiction
       intro hn
       apply ha
       have e:(us.filter λu=>inb u 0 (((Qi4 r).length:Int) - 1)).length=us.length:=by
        have:=List.length_filter_le (λu=>inb u 0 (((Qi4 r).length:Int) - 1)) us
        have e':Qvu r us=us.filter λu=>inb u 0 (((Qi4 r).length:Int) - 1):=rfl
        rw [e'] at hn
        omega
       intro u hu
       have:=List.length_filter_eq_length_iff.1 e u hu
       simp at this
       omega
     have e0:(((Qvu r us).length:Int) != (us.length:Int))=true:=by simp; omega
     rw [e0,cond_true]
     have e1:us.all (uOk r t)=false:=by
      apply Bool.eq_false_iff.2
      intro he
      apply ha
      intro u hu
      have:=List.all_eq_true.1 he u hu
      simp only [uOk,Bool.and_eq_true] at this
      exact Q1v.1 this.1
     rw [e1,Bool.false_and]
theorem Jfh {fu:Nat} {r:Request} (h:Sm fu r) (us:List Int) (t:Typ) (hl:us.length≤1048576):Qte fu r us t=some (Q4t r us t):=by
 have hfu:=h.fu
 unfold Qte Q4t
 rw [Q0f h,Qaa]
 cases hc:Qhh r==0
 · have:(Qhh r != 0)=true:=by simp only [bne,hc]; rfl
   rw [this]; rfl
 · have:(Qhh r != 0)=false:=by simp only [bne,hc]; rfl
   have hz:Qhh r=0:=by simpa using hc
   have hu:Qcr fu r=some (Qi4 r):=Ji4 h hz
   rw [this,cond_false,hu,Qaa,Bool.true_and]
   have key:=lp us (λn (_:Unit) i=>Qfm fu r us t (Qi4 r) n i) (λl _=>some (l.all (uOk r t)&&Q41 r us t)) (by omega) ?_ ?_ fu () (by omega)
   · exact key
   · intro n _ i x xs hx hd ih
     simp only [Qfm.eq_2]
     unfold Qp3 Qsk Qsn
     simp only [hd,cond_true,hx,Qaa,Ja3,ih (),List.all_cons,uOk]
     cases (Q3w r x).isSome
     · rfl
     · simp only [Bool.not_true,cond_false,Jgr (show 2097153≤fu by omega),Qaa]
       cases Q0d (Qwm r x) t <;> rfl
   · intro n _ i hd
     simp only [Qfm.eq_2]
     unfold Qp3 Qs0
     simp only [hd,cond_false,Q9h r us hl (show us.length<fu by omega),Qaa,Je6]
     show (bif decide (Qxo r us≤Jca t) then _ else _)=_
     unfold Q41
     cases decide (Qxo r us≤Jca t) <;> simp
def chp (r:Request) (us:List Int) (s:Typ×Bool) (t:Typ):Typ×Bool :=
 bif Q4t r us t&&(!s.2||(decide (t.fL<s.1.fL)||(t.fL==s.1.fL&&decide (t.f8<s.1.f8)))) then (t,true) else s
def Q1r (r:Request) (us:List Int):Typ×Bool:=r.fG.foldl (chp r us) (Jj5,false)
theorem Jg8 {fu:Nat} {r:Request} (h:Sm fu r) (us:List Int) (hl:us.length≤1048576):Qou fu r us=some (Q1r r us):=by
 have hfu:=h.fu
 have ht:=h.types
 unfold Qou
 have key:=lp r.fG (λn (s:Typ×Bool) i=>Qeh fu r us n s.1 s.2 i) (λl s=>some (l.foldl (chp r us) s)) (by omega) ?_ ?_ fu (Jj5,false) (by omega)
 · exact key
 · intro n s i x xs hx hd ih
   simp only [Qeh.eq_2]
   unfold Qkv Qdp
   have ih':=λa b=>ih (a,b)
   simp only at ih'
   obtain ⟨b,f⟩:=s
   simp only [hd,cond_true,hx,Qaa,Jfl h us x hl,ih',List.foldl_cons,chp]
   cases Q4t r us x <;> cases f <;> cases decide (x.fL<b.fL) <;> cases x.fL==b.fL <;> cases decide (x.f8<b.f8) <;> rfl
 · intro n s i hd
   simp only [Qeh.eq_2]
   unfold Qkv
   simp only [hd,cond_false]
   rfl
theorem Je9 {fu:Nat} {r:Request} (h:Sm fu r) (us:List Int) (hl:us.length≤1048576):Qoe fu r us=some (Q1r r us):=by
 have hfu:=h.fu
 have ht:=h.types
 unfold Qoe
 have key:=lp r.fG (λn (s:Typ×Bool) i=>Qel fu r us n s.1 s.2 i) (λl s=>some (l.foldl (chp r us) s)) (by omega) ?_ ?_ fu (Jj5,false) (by omega)
 · exact key
 · intro n s i x xs hx hd ih
   simp only [Qel.eq_2]
   unfold Qkz Qdq
   have ih':=λa b=>ih (a,b)
   simp only at ih'
   obtain ⟨b,f⟩:=s
   simp only [hd,cond_true,hx,Qaa,Jfh h us x hl,ih',List.foldl_cons,chp]
   cases Q4t r us x <;> cases f <;> cases decide (x.fL<b.fL) <;> cases x.fL==b.fL <;> cases decide (x.f8<b.f8) <;> rfl
 · intro n s i hd
   simp only [Qel.eq_2]
   unfold Qkz
   simp only [hd,cond_false]
   rfl
theorem Q4q {fu:Nat} {r:Request} (h:Sm fu r) (id:Int):Qjs fu r id=some (Qyf (Qt6 r id)):=by
 have hfu:=h.fu
 have ht:=h.types
 unfold Qjs Qt6
 refine lp r.fG (λn (_:Unit) i=>Qfv fu r id n i) (λl _=>some (Qyf (l.find? λt=>t.f8==id))) (by omega) ?_ ?_ fu () (by omega)
 · intro n s i x xs hx hd ih
   simp only [Qfv.eq_2]
   unfold Qko
   simp only [hd,cond_true,hx,Qaa,ih (),List.find?_cons]
   cases x.f8==id <;> rfl
 · intro n s i hd
   simp only [Qfv.eq_2]
   unfold Qko
   simp only [hd,cond_false]
   rfl
def Joa:Box:=⟨0,0,0,0⟩
def Jhr (r:Request) (x:Carton):Int:=match Qt6 r x.qQ with
 | some t=>bif Qhh r==0 then t.fK+Qwg r x.fl else 0
 | none=>0
def Q69 (r:Request) (x:Carton):Box:=match Qt6 r x.qQ with
 | some t=>bif Qhh r==0 then ⟨t.fW,t.fD,t.fH,t.fK+Qwg r x.fl⟩ else Joa
 | none=>Joa
theorem Jkr {r:Request} (hc:Qhh r=0) {id:Int} {t:Typ} (ht:Qt6 r id=some t):Q2s t=true∧t∈r.fG∧t.f8=id:=by
 have hm:=List.mem_of_find?_eq_some ht
 have hp:=List.find?_some ht
 exact ⟨Qzv (Qfn hc).1 t hm,hm,by simpa using hp⟩
theorem Jhb {r:Request} (hc:Qhh r=0) {id:Int} {t:Typ} (ht:Qt6 r id=some t):0≤t.fK∧t.fK≤100000:=by
 have:=(Jkr hc ht).1
 simp only [Q2s,Bool.and_eq_true,Qcb] at this
 omega
theorem Q6x {r:Request} (hc:Qhh r=0) {id:Int} {t:Typ} (ht:Qt6 r id=some t) (us:List Int) (hl:us.length≤1048576):w64 (t.fK+Qwg r us)=t.fK+Qwg r us:=by
 have h1:=Jhb hc ht
 have h2:=Q84 r us
 exact Qam (by omega) (by omega)
theorem Jfb {fu:Nat} {r:Request} (h:Sm fu r) (x:Carton) (hl:x.fl.length≤1048576):Qth fu r x=some (Jhr r x):=by
 have hfu:=h.fu
 unfold Qth Jhr
 rw [Qz2 h,Qaa,Q1p]
 cases ht:Qt6 r x.qQ with
 | none=>rfl
 | some t =>
  rw [Qux h]
  simp only [Option.isSome_some,Bool.not_true,cond_false,Qaa]
  cases hc:Qhh r==0
  · rfl
  · have hc':Qhh r=0:=by simpa using hc
    unfold Qs3
    rw [Jjf h _ hl (by omega)]
    simp only [Bool.not_true,cond_false,cond_true,Qaa,Qyf,Q6x hc' ht _ hl]
theorem Jgs {fu:Nat} {r:Request} (h:Sm fu r) (x:Carton) (hl:x.fl.length≤1048576):Qtd fu r x=some (Jhr r x):=by
 have hfu:=h.fu
 unfold Qtd Jhr
 rw [Q4q h,Qaa,Q1p,Q0f h,Qaa]
 cases hc:Qhh r==0
 · have:(Qhh r != 0)=true:=by simp only [bne,hc]; rfl
   rw [this]
   cases Qt6 r x.qQ <;> rfl
 · have hc':Qhh r=0:=by simpa using hc
   rw [show (Qhh r != 0)=false by simp [hc'],cond_false]
   cases ht:Qt6 r x.qQ with
   | none=>rfl
   | some t =>
    unfold Qsv
    rw [Jmv h _ hl (by omega)]
    simp only [Option.isSome_some,Bool.not_true,cond_false,cond_true,Qaa,Qyf,Q6x hc' ht _ hl]
theorem Jil {fu:Nat} {r:Request} (h:Sm fu r) (x:Carton) (hl:x.fl.length≤1048576):Qtj fu r x=some (Q69 r x):=by
 unfold Qtj Q69
 rw [Qz2 h,Qaa,Q1p]
 cases ht:Qt6 r x.qQ with
 | none=>rfl
 | some t =>
  rw [Qux h]
  simp only [Option.isSome_some,Bool.not_true,cond_false,Qaa]
  cases hc:Qhh r==0
  · rfl
  · unfold Qsm
    rw [Jfb h x hl]
    simp only [Jhr,ht,hc,Bool.not_true,cond_false,cond_true,Qaa,Qyf]
theorem Ji5 {fu:Nat} {r:Request} (h:Sm fu r) (x:Carton) (hl:x.fl.length≤1048576):Qs9 fu r x=some (Q69 r x):=by
 unfold Qs9 Q69
 rw [Q4q h,Qaa,Q1p,Q0f h,Qaa]
 cases hc:Qhh r==0
 · have:(Qhh r != 0)=true:=by simp only [bne,hc]; rfl
   rw [this]
   cases Qt6 r x.qQ <;> rfl
 · have hc':Qhh r=0:=by simpa using hc
   rw [show (Qhh r != 0)=false by simp [hc'],cond_false]
   cases ht:Qt6 r x.qQ with
   | none=>rfl
   | some t =>
    unfold Qss
    rw [Jgs h x hl]
    simp only [Jhr,ht,hc,Option.isSome_some,Bool.not_true,cond_false,cond_true,Qaa,Qyf]
theorem Jgu (fu:Nat) (n:Int):Qhu fu n=some (inb n 0 2000):=by unfold Qhu; rw [Q1z]; rfl
def Jb8 (n:Int) (s:Spot):Int:=bif inb s.fJ 0 999999 then (if s.fJ+1>n then s.fJ+1 else n) else n
def Jea (l:List Spot):Int:=l.foldl Jb8 0
theorem Jfm {n:Int} (s:Spot) (h:0≤n∧n≤1000000):0≤Jb8 n s∧Jb8 n s≤1000000:=by
 unfold Jb8
 cases hi:inb s.fJ 0 999999
 · exact h
 · have:=Qcb.1 hi
   simp only [cond_true]
   split <;> omega
theorem Jag:∀ (l:List Spot) {n:Int},0≤n∧n≤1000000→0≤l.foldl Jb8 n∧l.foldl Jb8 n≤1000000
 | [],_,h=>h
 | s::l,_,h=>Jag l (Jfm s h)
theorem Q9r (l:List Spot):0≤Jea l∧Jea l≤1000000:=Jag l (by omega)
theorem Jjn {fu:Nat} {l:List Spot} (hl:l.length≤1048576) (hf:l.length<fu):Qlh fu l=some (Jea l):=by
 unfold Qlh
 have key:=lp l (λn (s:Int) i=>Qff fu l n s i) (λl s=>some (l.foldl Jb8 s)) (by omega) ?_ ?_ fu 0 hf
 · exact key
 · intro n s i x xs hx hd ih
   simp only [Qff.eq_2]
   unfold Qmj Qjw
   simp only [hd,cond_true,hx,Qaa,Q1z,ih,List.foldl_cons]
   unfold Jb8
   cases hi:inb x.fJ 0 999999
   · rfl
   · have:=Qcb.1 hi
     simp only [cond_true]
     rw [Qam (by omega) (by omega)]
 · intro n s i hd
   simp only [Qff.eq_2]
   unfold Qmj
   simp only [hd,cond_false]
   rfl
theorem Jda (fu:Nat) (a b:Int):Qjr fu a b=some (if a>b then a else b):=by
 unfold Qjr
 by_cases h:a>b
 · simp [h]
 · simp [h]
theorem Jka {fu:Nat} {l:List Spot} (hl:l.length≤1048576) (hf:l.length<fu):Qqu fu l=some (Jea l):=by
 unfold Qqu
 have key:=lp l (λn (s:Int) i=>Qe6 fu l n s i) (λl s=>some (l.foldl Jb8 s)) (by omega) ?_ ?_ fu 0 hf
 · exact key
 · intro n s i x xs hx hd ih
   simp only [Qe6.eq_2]
   unfold Qm7 Qkk
   simp only [hd,cond_true,hx,Qaa,Q0a,Jda,ih,List.foldl_cons]
   unfold Jb8
   cases hi:inb x.fJ 0 999999
   · rfl
   · have:=Qcb.1 hi
     simp only [cond_true]
     rw [Qam (by omega) (by omega)]
     congr 2
     split <;> split <;> omega
 · intro n s i hd
   simp only [Qe6.eq_2]
   unfold Qm7
   simp only [hd,cond_false]
   rfl
def Jhl (g:List Int→Bool) (out:List (List Int)) (u:Int):List (List Int):=match Qyo g out with
 | some i=>match out[i]? with
  | some x=>out.set i (x++[u])
  | none=>out
 | none=>out++[[u]]
def Q3y (r:Request) (u:Int) (l:List Int):Bool:=Q41 r (l++[u]) (Qxl r)
def Jh5 (r:Request) (out:List (List Int)) (u:Int):List (List Int):=Jhl (Q3y r u) out u
def Q8n (r:Request) (out:List (List Int)) (u:Int):List (List Int):=match out.getLast? with
 | some l=>bif Q3y r u l then out.set (out.length - 1) (l++[u]) else out++[[u]]
 | none=>[[u]]
theorem Qz9 {r:Request} {out:List (List Int)} {l:List Int} (u:Int) (h:out.getLast? = some l):Q8n r out u=bif Q3y r u l then out.set (out.length - 1) (l++[u]) else out++[[u]]:=by unfold Q8n; rw [h]
def Jee (r:Request) (us:List Int):List Int:=(srt (dnk (us.map λu=>Qxo r [u])) us.length).map λp=>(ix us p).getD 0
def nfM (r:Request) (us:List Int):List (List Int):=(Qvu r us).foldl (Q8n r) []
def ffM (r:Request) (us:List Int):List (List Int):=(Jee r (Qvu r us)).foldl (Jh5 r) []
def pwM (r:Request) (us:List Int):List (List Int):=bif r.f9==1 then nfM r us else ffM r us
theorem Q5d {g:List Int→Bool} {out:List (List Int)} {n:Nat} (u:Int) (h:okG n out):okG (n+1) (Jhl g out u):=by
 obtain ⟨h1,h2⟩:=h
 unfold Jhl
 split
 · rename_i i hi
   split
   · rename_i x hx
     refine ⟨by simp; omega,λl hl=>?_⟩
     rcases List.mem_or_eq_of_mem_set hl with hl | rfl
     · have:=h2 l hl; omega
     · have:=h2 x (List.mem_of_getElem? hx); simp; omega
   · exact ⟨by omega,λl hl=>by have:=h2 l hl; omega⟩
 · refine ⟨by simp; omega,λl hl=>?_⟩
   rcases List.mem_append.1 hl with hl | hl
   · have:=h2 l hl; omega
   · rw [List.mem_singleton.1 hl]; simp
theorem Q5y {r:Request} {out:List (List Int)} {n:Nat} (u:Int) (h:okG n out):okG (n+1) (Q8n r out u):=by
 obtain ⟨h1,h2⟩:=h
 unfold Q8n
 split
 · rename_i x hx
   have hm:=List.mem_of_getLast? hx
   cases Q3y r u x
   · refine ⟨by simp; omega,λl hl=>?_⟩
     rcases List.mem_append.1 hl with hl | hl
     · have:=h2 l hl; omega
     · rw [List.mem_singleton.1 hl]; simp
   · refine ⟨by simp; omega,λl hl=>?_⟩
     rcases List.mem_or_eq_of_mem_set hl with hl | rfl
     · have:=h2 l hl; omega
     · have:=h2 x hm; simp; omega
 · exact ⟨by simp,λl hl=>by rw [List.mem_singleton.1 hl]; simp⟩
theorem Q5l {F:List (List Int)→Int→List (List Int)} (hF:∀ out n u,okG n out→okG (n+1) (F out u)):∀ (l:List Int) {out:List (List Int)} {n:Nat},okG n out→okG (n+l.length) (l.foldl F out)
 | [],_,_,h=>h
 | u::l,out,n,h=>by
  have:=Q5l hF l (hF out n u h)
  rw [List.foldl_cons,List.length_cons,show n+(l.length+1)=n+1+l.length by omega]
  exact this
theorem Jip {r:Request} {us:List Int} (h:us.length≤12):(Qvu r us).length≤12:=Nat.le_trans (Qv6 r us) h
theorem Jcq (r:Request) (us:List Int):(Jee r us).length=us.length:=by simp [Jee,Qtm]
theorem Q7s {r:Request} {us:List Int} (h:us.length≤12):okG 12 (pwM r us):=by
 have ht:=Jip (r:=r) h
 have h0:okG 0 ([]:List (List Int)):=⟨by simp,by simp⟩
 unfold pwM
 cases r.f9==1
 · have:=Q5l (F:=Jh5 r) (λout n u ho=>Q5d u ho) (Jee r (Qvu r us)) h0
   rw [Jcq] at this
   exact ⟨by have:=this.1; simp only [cond_false]; unfold ffM; omega,λl hl=>by have:=this.2 l hl; omega⟩
 · have:=Q5l (F:=Q8n r) (λout n u ho=>Q5y u ho) (Qvu r us) h0
   exact ⟨by have:=this.1; simp only [cond_true]; unfold nfM; omega,λl hl=>by have:=this.2 l hl; omega⟩
theorem Q9z {g:List Int→Bool} {out:List (List Int)} {c:Int} {n:Nat} (h:okG n out) (hn:n≤1048576) {β:Type} (k:List (List Int)→Option β) (a:Int) (ha:a=match Qyo g out with | some i=>(i:Int) | none=>-1) :
    (bif (decide (a<0)) then Qab (Qc7 24 out [([c]:List Int)]) λx=>k x else Qab (ix out a) λx=>Qab (Qc7 8 x (([c]:List Int))) λy=>Qab (ix out a) λz=>k (Qi1 out a y))=k (Jhl g out c):=by
 obtain ⟨h1,h2⟩:=h
 unfold Jhl
 cases hf:Qyo g out with
 | none =>
  rw [hf] at ha
  simp only at ha
  subst ha
  rw [Qao (by simp),ap1 (by simp; omega),Qaa]
 | some i =>
  rw [hf] at ha
  simp only at ha
  subst ha
  obtain ⟨x,hx,_⟩:=Qzm hf
  have:=h2 x (List.mem_of_getElem? hx)
  rw [Qaf (by simp),Qh2,hx,Qaa,ap1 (by simp; omega),Qaa,Qaa]
  simp [Qi1,hx]
theorem Q2p {r:Request} (h:(Qhh r==0)=false) (us:List Int):Qvu r us=[]:=by
 unfold Qvu Qi4
 rw [h]
 apply List.filter_eq_nil_iff.2
 intro u _
 simp; omega
theorem Jc0 {fu:Nat} {r:Request} (h:Sm fu r) (hc:Qhh r=0):Qcr fu r=some (Qi4 r):=Ji4 h hc
theorem Qus {α:Type} {out:List α} (h:out≠[]):∃ l,out.getLast? = some l∧ix out ((out.length:Int) - 1)=some l:=by
 cases hl:out.getLast? with
 | none=>exact absurd (List.getLast?_eq_none_iff.1 hl) h
 | some l =>
  have hp:=List.length_pos_iff.2 h
  refine ⟨l,rfl,?_⟩
  rw [show (out.length:Int) - 1=((out.length - 1:Nat):Int) by omega,Qh2,← List.getLast?_eq_getElem?,hl]
theorem Jiu {fu:Nat} {r:Request} (h:Sm fu r) (us:List Int) (hl:us.length≤1048575):Qqg fu r us=some (nfM r us):=by
 have hfu:=h.fu
 have htl:=Qv6 r us
 unfold Qqg nfM
 rw [Q5z h us (by omega),Qaa]
 cases hc:Qhh r==0
 · rw [Q2p hc]
   obtain ⟨m,rfl⟩:∃ m,fu=m+1:=⟨fu - 1,by omega⟩
   rw [Qea.eq_2]; rfl
 · have key:=lpI (Qvu r us) (λn (o:List (List Int)) i=>Qea fu r (Qvu r us) n o i) (λxs o=>some (xs.foldl (Q8n r) o)) (λxs o=>∃ m,m+xs.length≤1048575∧okG m o) (by omega) ?_ ?_ fu [] ⟨0,by omega,by simp,by simp⟩ (by omega)
   · exact key
   · intro n o i u xs hx hd hI ih
     obtain ⟨m,hm,ho⟩:=hI
     simp only [List.length_cons] at hm
     have h1:=ho.1
     have h2:=ho.2
     have hI':=ih (Q8n r o u) ⟨m+1,by omega,Q5y u ho⟩
     simp only [Qea.eq_2]
     unfold Qmq Qh5
     rw [hd,cond_true,hx,Qaa,List.foldl_cons,← hI',Qam (by omega) (by omega)]
     by_cases he:o=[]
     · subst he
       rw [decide_eq_false (by simp),cond_false,ap1 (by simp),Qaa]; rfl
     · obtain ⟨l,e1,e2⟩:=Qus he
       have hp:=List.length_pos_iff.2 he
       have hll:=h2 l (List.mem_of_getLast? e1)
       rw [decide_eq_true (by omega),cond_true,e2,Qaa,Jak h l u (by omega),Qaa,hc,Bool.true_and]
       rw [Qz9 u e1]
       unfold Q3y
       cases Q41 r (l++[u]) (Qxl r)
       · rw [cond_false,cond_false,ap1 (by simp; omega),Qaa]
       · rw [cond_true,cond_true,Qaa,ap1 (by simp; omega),Qaa,Qaa]
         rw [show Qi1 o ((o.length:Int) - 1) (l++[u])=o.set (o.length - 1) (l++[u]) by unfold Qi1; congr 1; omega]
   · intro n o i hd _
     simp only [Qea.eq_2]
     unfold Qmq
     rw [hd,cond_false]; rfl
theorem Jib {fu:Nat} {r:Request} (h:Sm fu r) (us:List Int) (hl:us.length≤1048575):Qqr fu r us=some (nfM r us):=by
 have hfu:=h.fu
 have htl:=Qv6 r us
 unfold Qqr nfM
 rw [Q0f h,Qaa]
 cases hc:Qhh r==0
 · rw [show (Qhh r != 0)=true by simp only [bne,hc]; rfl,cond_true,Q2p hc]; rfl
 · have hz:Qhh r=0:=by simpa using hc
   rw [show (Qhh r != 0)=false by simp [hz],cond_false,Jc0 h hz,Qaa,Q8q h us (by omega),Qaa]
   unfold Qt7
   rw [Q9b h,Qaa,Jc0 h hz,Qaa]
   have key:=lpI (Qvu r us) (λn (o:List (List Int)) i=>Qf6 fu r (Qvu r us) (Qyf (Qt6 r r.fR)) (Qi4 r) n o i) (λxs o=>some (xs.foldl (Q8n r) o)) (λxs o=>∃ m,m+xs.length≤1048575∧okG m o) (by omega) ?_ ?_ fu [] ⟨0,by omega,by simp,by simp⟩ (by omega)
   · rw [key]; rfl
   · intro n o i u xs hx hd hI ih
     obtain ⟨m,hm,ho⟩:=hI
     simp only [List.length_cons] at hm
     have h1:=ho.1
     have h2:=ho.2
     have hI':=ih (Q8n r o u) ⟨m+1,by omega,Q5y u ho⟩
     simp only [Qf6.eq_2]
     unfold Qon Qip
     rw [hd,cond_true,List.foldl_cons,← hI',Qam (by omega) (by omega)]
     by_cases he:o=[]
     · subst he
       rw [decide_eq_false (by simp),cond_false,hx,Qaa,ap1 (by simp),Qaa]; rfl
     · obtain ⟨l,e1,e2⟩:=Qus he
       have hp:=List.length_pos_iff.2 he
       have hll:=h2 l (List.mem_of_getLast? e1)
       rw [decide_eq_true (by omega),cond_true,e2,Qaa,hx,Qaa,Je3,Q6j r _ l u (by omega) (by omega),Qaa]
       rw [Qz9 u e1]
       unfold Q3y
       cases Q41 r (l++[u]) (Qxl r)
       · rw [cond_false,cond_false,Qaa,ap1 (by simp; omega),Qaa]
       · rw [cond_true,cond_true,Qaa,Qaa,ap1 (by simp; omega),Qaa,Qaa]
         rw [show Qi1 o ((o.length:Int) - 1) (l++[u])=o.set (o.length - 1) (l++[u]) by unfold Qi1; congr 1; omega]
   · intro n o i hd _
     simp only [Qf6.eq_2]
     unfold Qon
     rw [hd,cond_false]; rfl
theorem Ja6 {us:List Int} {p:Int} (h:0≤p∧p<us.length):ix us p=some ((ix us p).getD 0):=by
 have:=Qy1 (l:=us) (i:=p.toNat) (by omega)
 rw [show ((p.toNat:Nat):Int)=p by omega] at this
 rw [this]; rfl
theorem Qw7 {α β γ:Type} (f:γ→β→γ) (g:α→β):∀ (l:List α) (s:γ),(l.map g).foldl f s=l.foldl (λs x=>f s (g x)) s
 | [],_=>rfl
 | x::l,s=>by rw [List.map_cons,List.foldl_cons,List.foldl_cons,Qw7 f g l]
theorem Jgl {fu:Nat} {r:Request} (h:Sm fu r) (us:List Int) (hl:us.length<20):Qph fu r us=some (ffM r us):=by
 have hfu:=h.fu
 have htl:=Qv6 r us
 unfold Qph ffM Jee
 rw [Q5z h us (by omega),Qaa]
 obtain ⟨t,ht⟩:∃ t,t=Qvu r us:=⟨_,rfl⟩
 rw [← ht] at htl ⊢
 have key:=lpI t (λn (o:List Int) i=>Qfy fu r t n o i) (λxs o=>Qab (Qg9 fu (o++xs.map λu=>Qxo r [u])) λx=>Qck fu r t x fu [] 0) (λxs o=>o.length+xs.length≤20) (by omega) ?_ ?_ fu [] (by simp; omega) (by omega)
 · rw [key,List.nil_append,Je4 hfu (by simp; omega),Qaa,Qw7,List.length_map]
   have hsl:=Qtm (dnk (t.map λu=>Qxo r [u])) t.length
   have hsm:=λx=>Qw3 (k:=dnk (t.map λu=>Qxo r [u])) (n:=t.length) (x:=x)
   generalize srt (dnk (t.map λu=>Qxo r [u])) t.length=S at hsl hsm ⊢
   cases hc:Qhh r==0
   · have:t=[]:=by rw [ht]; exact Q2p hc us
     subst this
     have:S=[]:=List.length_eq_zero_iff.1 (by simpa using hsl)
     subst this
     obtain ⟨m,rfl⟩:∃ m,fu=m+1:=⟨fu - 1,by omega⟩
     rw [Qck.eq_2]; rfl
   · have key1:=lpI S (λn (o:List (List Int)) i=>Qck fu r t S n o i) (λxs o=>some (xs.foldl (λs p=>Jh5 r s ((ix t p).getD 0)) o)) (λxs o=>(∃ m,m+xs.length≤20∧okG m o)∧∀ p∈xs,0≤p∧p<t.length) (by omega) ?_ ?_ fu [] ⟨⟨0,by omega,by simp,by simp⟩,λp hp=>(hsm p).1 hp⟩ (by omega)
     · exact key1
     · intro n o i p xs hx hd hI ih
       obtain ⟨⟨m,hm,ho⟩,hin⟩:=hI
       simp only [List.length_cons] at hm
       have hp:=Ja6 (hin p (by simp))
       simp only [Qck.eq_2]
       unfold Qkx Qi2
       rw [hd,cond_true,hx,Qaa,hp,Qaa,List.foldl_cons]
       generalize (ix t p).getD 0=u
       rw [Q4m (λy=>Qkc fu y r u) (Q3y r u) (λl hl=>by
        have:=ho.2 l hl
        unfold Qkc Q3y
        rw [Jak h l u (by omega),Qaa,hc,Bool.true_and]) (by have:=ho.1; omega) (by have:=ho.1; omega),Qaa]
       refine (Q9z (g:=Q3y r u) (c:=u) ho (by omega) (λx=>Qck fu r t S n x (w64 (i+1))) (Qxm (Q3y r u) o 0) (by
        rw [Q2z]
        cases Qyo (Q3y r u) o <;> simp)).trans ?_
       exact ih _ ⟨⟨m+1,by omega,Q5d u ho⟩,λq hq=>hin q (by simp [hq])⟩
     · intro n o i hd _
       simp only [Qck.eq_2]
       unfold Qkx
       rw [hd,cond_false]; rfl
 · intro n o i u xs hx hd hI ih
   simp only [List.length_cons] at hI
   simp only [Qfy.eq_2]
   unfold Qk1
   rw [hd,cond_true,hx,Qaa,Ja5 h [u] (by simp) (by simp; omega),Qaa,ap1 (by simp; omega),Qaa,ih _ (by simp; omega)]
   simp
 · intro n o i hd _
   simp only [Qfy.eq_2]
   unfold Qk1
   rw [hd,cond_false]; simp
theorem Jfx {fu:Nat} {r:Request} (h:Sm fu r) (us:List Int) (hl:us.length<20):Qo1 fu r us=some (ffM r us):=by
 have hfu:=h.fu
 have htl:=Qv6 r us
 unfold Qo1 ffM Jee
 rw [Q0f h,Qaa]
 cases hc:Qhh r==0
 · rw [show (Qhh r != 0)=true by simp only [bne,hc]; rfl,cond_true,Q2p hc]; rfl
 · have hz:Qhh r=0:=by simpa using hc
   rw [show (Qhh r != 0)=false by simp [hz],cond_false,Jc0 h hz,Qaa,Q8q h us (by omega),Qaa]
   unfold Qtk
   rw [Q9b h,Qaa,Jc0 h hz,Qaa]
   generalize Qvu r us=t at htl ⊢
   have key:=lpI t (λn (o:List Int) i=>Qgu fu r t (Qyf (Qt6 r r.fR)) (Qi4 r) n o i) (λxs o=>Qab (Qg5 fu (o++xs.map λu=>Qxo r [u])) λx=>Qch fu r t (Qyf (Qt6 r r.fR)) (Qi4 r) x fu [] 0) (λxs o=>o.length+xs.length≤20) (by omega) ?_ ?_ fu [] (by simp; omega) (by omega)
   · rw [key,List.nil_append,Jd9 hfu (by simp; omega),Qaa,Qw7,List.length_map]
     have hsl:=Qtm (dnk (t.map λu=>Qxo r [u])) t.length
     have hsm:=λx=>Qw3 (k:=dnk (t.map λu=>Qxo r [u])) (n:=t.length) (x:=x)
     generalize srt (dnk (t.map λu=>Qxo r [u])) t.length=S at hsl hsm ⊢
     have key1:=lpI S (λn (o:List (List Int)) i=>Qch fu r t (Qyf (Qt6 r r.fR)) (Qi4 r) S n o i) (λxs o=>some (xs.foldl (λs p=>Jh5 r s ((ix t p).getD 0)) o)) (λxs o=>(∃ m,m+xs.length≤20∧okG m o)∧∀ p∈xs,0≤p∧p<t.length) (by omega) ?_ ?_ fu [] ⟨⟨0,by omega,by simp,by simp⟩,λp hp=>(hsm p).1 hp⟩ (by omega)
     · rw [key1]; rfl
     · intro n o i p xs hx hd hI ih
       obtain ⟨⟨m,hm,ho⟩,hin⟩:=hI
       simp only [List.length_cons] at hm
       have hp:=Ja6 (hin p (by simp))
       have ho1:=ho.1
       simp only [Qch.eq_2]
       unfold Qmz
       rw [hd,cond_true,hx,Qaa,hp,Qaa,List.foldl_cons]
       generalize (ix t p).getD 0=u
       obtain ⟨K,hK⟩:∃ K,K=Qch fu r t (Qyf (Qt6 r r.fR)) (Qi4 r) S n:=⟨_,rfl⟩
       rw [← hK] at ih ⊢
       obtain ⟨R,hR⟩:∃ R:Int→Option (List (List Int)),R=λa=>bif (decide (a<0)) then Qab (Qc7 24 o [([u]:List Int)]) λx=>K x (w64 (i+1)) else Qab (ix o a) λx=>Qab (Qc7 8 x (([u]:List Int))) λy=>Qab (ix o a) λz=>K (Qi1 o a y) (w64 (i+1)):=⟨_,rfl⟩
       have hD:=lpD o.length (λn a j=>Qex fu K r (Qyf (Qt6 r r.fR)) (Qi4 r) o i u n a j) (λxs a=>R (xs.foldl (Jd6 (Q3y r u) o) a)) (by omega) ?_ ?_ fu (-1) (by omega)
       · rw [hD,hR]
         refine (Q9z (g:=Q3y r u) (c:=u) ho (by omega) (λx=>K x (w64 (i+1))) _ ?_).trans (ih _ ⟨⟨m+1,by omega,Q5d u ho⟩,λq hq=>hin q (by simp [hq])⟩)
         rw [Qzd (Q3y r u) o o.length (-1) (Nat.le_refl _),List.take_length]
         cases Qyo (Q3y r u) o <;> rfl
       · intro n a j xs h0 h1 hd ih
         simp only [Qex.eq_2]
         unfold Qmn Qke
         obtain ⟨j,rfl⟩:∃ q:Nat,j=q:=⟨j.toNat,by omega⟩
         have hj:j<o.length:=by omega
         have hg:=ho.2 _ (List.getElem_mem hj)
         rw [hd,cond_true,Qy1 hj,Qaa,Je3,Q6j r _ _ u (by omega) (by omega),Qaa]
         have e:Jd6 (Q3y r u) o a (j:Int)=bif Q41 r (o[j]++[u]) (Qxl r) then (j:Int) else a:=by unfold Jd6 atB Q3y; rw [Qy1 hj]
         simp only [ih,List.foldl_cons,e]
         cases Q41 r (o[j]++[u]) (Qxl r) <;> rfl
       · intro n a j hd
         simp only [Qex.eq_2]
         unfold Qmn Qkb
         rw [hd,cond_false,hR]; rfl
     · intro n o i hd _
       simp only [Qch.eq_2]
       unfold Qmz
       rw [hd,cond_false]; rfl
   · intro n o i u xs hx hd hI ih
     simp only [List.length_cons] at hI
     obtain ⟨i0,i1,i2⟩:=Qah hx
     have e:sls t i (w64 (i+1))=some [u]:=by
      rw [Qam (by omega) (by omega),Qn6 (by omega)]
      congr 1
      rw [show (i+1).toNat - i.toNat=1 by omega]
      have hlt:=(List.getElem?_eq_some_iff.1 i2).1
      have heq:=(List.getElem?_eq_some_iff.1 i2).2
      rw [List.drop_eq_getElem_cons hlt,heq]; rfl
     simp only [Qgu.eq_2]
     unfold Qm9
     rw [hd,cond_true,e,Qaa,Q9h r [u] (by simp) (by simp; omega),Qaa,ap1 (by simp; omega),Qaa,ih _ (by simp; omega)]
     simp
   · intro n o i hd _
     simp only [Qgu.eq_2]
     unfold Qm9
     rw [hd,cond_false]; simp
theorem Jm6 {fu:Nat} {r:Request} (h:Sm fu r) (us:List Int) (hl:us.length<20):Qqd fu r us=some (pwM r us):=by
 unfold Qqd pwM
 rw [Jiu h us (by omega),Jgl h us hl]
 cases r.f9==1 <;> rfl
theorem Jni {fu:Nat} {r:Request} (h:Sm fu r) (us:List Int) (hl:us.length<20):Qqk fu r us=some (pwM r us):=by
 unfold Qqk pwM
 rw [Jib h us (by omega),Jfx h us hl]
 cases r.f9==1 <;> rfl
theorem Q51 {α:Type} {l:List α} {i:Int} (h0:0≤i) (h1:i<l.length):∃ x,ix l i=some x:=by
 obtain ⟨j,rfl⟩:∃ j:Nat,i=j:=⟨i.toNat,by omega⟩
 exact ⟨_,Qy1 (by omega)⟩
def Jdh (p:Pallet) (b:Box):Bool:=inb b.fW 1 p.fW&&(inb b.fD 1 p.fD&&(inb b.fH 1 p.fH&&inb b.fQ 1 p.fQ))
def Q0b (p:Pallet) (l:List Box):Bool:=Qvw p&&l.all (Jdh p)
theorem Jkm {fu:Nat} (p:Pallet) (l:List Box) (hl:l.length≤1048576) (hf:l.length<fu):Qll fu p l=some (Q0b p l):=by
 unfold Qll Q0b
 rw [Jdl,Qaa]
 cases Qvw p
 · rfl
 · rw [Bool.not_true,cond_false,Bool.true_and]
   have:=Jfj l (λn i=>Qfh fu p l n i) (Jdh p) (some true) (by omega) ?_ ?_ fu hf
   · rw [this]
     cases l.all (Jdh p) <;> rfl
   · intro n i x hx hd
     simp only [Qfh.eq_2]
     unfold Qmk Qpl Jdh
     simp only [hd,cond_true,hx,Qaa,Q0a]
     cases inb x.fW 1 p.fW <;> cases inb x.fD 1 p.fD <;> cases inb x.fH 1 p.fH <;> cases inb x.fQ 1 p.fQ <;> rfl
   · intro n i hd
     simp only [Qfh.eq_2]
     unfold Qmk
     rw [hd,cond_false]
def nxG {σ:Type} (fits:σ→Bool) (add:σ→σ) (z:σ) (out:List σ):List σ:=match out.getLast? with
 | some s=>bif fits s then out.set (out.length - 1) (add s) else out++[add z]
 | none=>[add z]
theorem Qvc {σ:Type} {fits:σ→Bool} {add:σ→σ} {z:σ} {out:List σ} {s:σ} (h:out.getLast? = some s):nxG fits add z out=bif fits s then out.set (out.length - 1) (add s) else out++[add z]:=by unfold nxG; rw [h]
theorem Que {σ:Type} (fits:σ→Bool) (add:σ→σ) (z:σ) (out:List σ):(nxG fits add z out).length≤out.length+1:=by
 unfold nxG
 split
 · cases fits _ <;> simp
 · simp
theorem Q5t {σ:Type} {fits:σ→Bool} {add:σ→σ} {z:σ} {out:List σ} {I:σ→Prop} (h:∀ s∈out,I s) (ha:∀ s,I s→fits s=true→I (add s)) (hz:I (add z)):∀ s∈nxG fits add z out,I s:=by
 intro s hs
 unfold nxG at hs
 split at hs
 · rename_i x hx
   have hm:=List.mem_of_getLast? hx
   cases hf:fits x
   · rw [hf,cond_false] at hs
     rcases List.mem_append.1 hs with hs | hs
     · exact h s hs
     · rw [List.mem_singleton.1 hs]; exact hz
   · rw [hf,cond_true] at hs
     rcases List.mem_or_eq_of_mem_set hs with hs | rfl
     · exact h s hs
     · exact ha x (h x hm) hf
 · rw [List.mem_singleton.1 hs]; exact hz
theorem Qsf {σ:Type} {fits:σ→Bool} {add:σ→σ} {z:σ} {out:List σ} {f:σ→List Int} {i:Int} (ha:∀ s,f (add s)=f s++[i]) (hz:f z=[]):((nxG fits add z out).map f).flatten=(out.map f).flatten++[i]:=by
 unfold nxG
 split
 · rename_i x hx
   cases fits x
   · rw [cond_false,List.map_append,List.flatten_append]
     simp [ha,hz]
   · rw [cond_true]
     have hne:out≠[]:=by intro e; rw [e] at hx; simp at hx
     have e:out=out.dropLast++[x]:=by
      have h1:=List.dropLast_concat_getLast hne
      rw [List.getLast?_eq_some_getLast hne] at hx
      rw [Option.some.inj hx] at h1
      exact h1.symm
     obtain ⟨d,hd⟩:∃ d,out=d++[x]:=⟨_,e⟩
     rw [hd]
     simp [ha]
 · rename_i hx
   have:out=[]:=List.getLast?_eq_none_iff.1 hx
   subst this
   simp [ha,hz]
def mxI (a b:Int):Int:=if a>b then a else b
theorem Q1l (a b:Int):a≤mxI a b∧b≤mxI a b∧(mxI a b=a∨mxI a b=b):=by unfold mxI; split <;> omega
def zBx:Box:=⟨0,0,0,0⟩
def bxA (l:List Box) (i:Int):Box:=(ix l i).getD zBx
def zSh:Shelf:=⟨[],0,0,0,0⟩
def Qrt (s:Shelf) (i:Int) (b:Box):Shelf:=⟨s.f0++[i],s.fW+b.fW,mxI s.fD b.fD,mxI s.fH b.fH,s.fQ+b.fQ⟩
def Q78 (p:Pallet) (b:Box) (s:Shelf):Bool:=decide (s.fW+b.fW≤p.fW)&&decide (s.fQ+b.fQ≤p.fQ)
def shS (p:Pallet) (l:List Box) (out:List Shelf) (i:Int):List Shelf:=nxG (Q78 p (bxA l i)) (λs=>Qrt s i (bxA l i)) zSh out
def shM (p:Pallet) (l:List Box):List Shelf:=bif Q0b p l then (srt (dnk (l.map (·.fD))) l.length).foldl (shS p l) [] else []
structure ShI (p:Pallet) (n:Nat) (s:Shelf):Prop where
 ne:s.f0≠[]
 inn:∀ i∈s.f0,0≤i∧i<n
 w:1≤s.fW∧s.fW≤p.fW
 d:1≤s.fD∧s.fD≤p.fD
 h:1≤s.fH∧s.fH≤p.fH
 g:1≤s.fQ∧s.fQ≤p.fQ
theorem Q4y {p:Pallet} {l:List Box} (h:Q0b p l=true) {i:Int} (hi:0≤i∧i<l.length):ix l i=some (bxA l i)∧(1≤(bxA l i).fW∧(bxA l i).fW≤p.fW)∧(1≤(bxA l i).fD∧(bxA l i).fD≤p.fD)∧(1≤(bxA l i).fH∧(bxA l i).fH≤p.fH)∧(1≤(bxA l i).fQ∧(bxA l i).fQ≤p.fQ):=by
 obtain ⟨x,hx⟩:=Q51 (l:=l) hi.1 hi.2
 have e:bxA l i=x:=by unfold bxA; rw [hx]; rfl
 unfold Q0b at h
 simp only [Bool.and_eq_true] at h
 have:=List.all_eq_true.1 h.2 x (Qi3 hx)
 simp only [Jdh,Bool.and_eq_true,Qcb] at this
 rw [e]
 exact ⟨hx,this.1,this.2.1,this.2.2.1,this.2.2.2⟩
theorem Qxi {p:Pallet} (h:Qvw p=true):(1≤p.fW∧p.fW≤2000)∧(1≤p.fD∧p.fD≤2000)∧(1≤p.fH∧p.fH≤2000)∧(1≤p.fQ∧p.fQ≤100000):=by
 simp only [Qvw,Bool.and_eq_true,Qcb] at h
 exact ⟨h.1,h.2.1,h.2.2.1,h.2.2.2⟩
theorem Q2l {p:Pallet} {l:List Box} (h:Q0b p l=true):Qvw p=true:=by
 unfold Q0b at h
 simp only [Bool.and_eq_true] at h
 exact h.1
theorem Q55 {p:Pallet} {l:List Box} (hb:Q0b p l=true) {out:List Shelf} {i:Int} (hi:0≤i∧i<l.length) (h:∀ s∈out,ShI p l.length s):∀ s∈shS p l out i,ShI p l.length s:=by
 obtain ⟨_,b1,b2,b3,b4⟩:=Q4y hb hi
 refine Q5t h (λs hs hf=>?_) ⟨by simp [Qrt],λj hj=>?_,?_,?_,?_,?_⟩
 · unfold Q78 at hf
   simp only [Bool.and_eq_true,decide_eq_true_eq] at hf
   obtain ⟨s1,s2,s3,s4,s5,s6⟩:=hs
   have m1:=Q1l s.fD (bxA l i).fD
   have m2:=Q1l s.fH (bxA l i).fH
   refine ⟨by simp [Qrt],λj hj=>?_,?_,?_,?_,?_⟩
   · simp only [Qrt,List.mem_append,List.mem_singleton] at hj
     rcases hj with hj | rfl
     · exact s2 j hj
     · exact hi
   · simp only [Qrt]; omega
   · simp only [Qrt]; omega
   · simp only [Qrt]; omega
   · simp only [Qrt]; omega
 · simp only [Qrt,zSh,List.nil_append,List.mem_singleton] at hj
   rw [hj]; exact hi
 · simp only [Qrt,zSh]; omega
 · have:=Q1l 0 (bxA l i).fD
   simp only [Qrt,zSh]; omega
 · have:=Q1l 0 (bxA l i).fH
   simp only [Qrt,zSh]; omega
 · simp only [Qrt,zSh]; omega
theorem Q9u {p:Pallet} {l:List Box} (hb:Q0b p l=true):∀ (is:List Int) (out:List Shelf),(∀ i∈is,0≤i∧i<l.length)→(∀ s∈out,ShI p l.length s)→(∀ s∈is.foldl (shS p l) out,ShI p l.length s)∧((is.foldl (shS p l) out).map (·.f0)).flatten=(out.map (·.f0)).flatten++is∧(is.foldl (shS p l) out).length≤out.length+is.length
 | [],out,_,h=>⟨h,by simp,by simp⟩
 | i::is,out,hi,h=>by
  rw [List.foldl_cons]
  obtain ⟨h1,h2,h3⟩:=Q9u hb is (shS p l out i) (λj hj=>hi j (by simp [hj])) (Q55 hb (hi i (by simp)) h)
  have h4:((shS p l out i).map (·.f0)).flatten=(out.map (·.f0)).flatten++[i]:=Qsf (λs=>rfl) rfl
  have h5:(shS p l out i).length≤out.length+1:=Que _ _ _ _
  refine ⟨h1,by rw [h2,h4]; simp,by simp; omega⟩
theorem Q3p {p:Pallet} {l:List Box} (hb:Q0b p l=true):(∀ s∈shM p l,ShI p l.length s)∧((shM p l).map (·.f0)).flatten=srt (dnk (l.map (·.fD))) l.length∧(shM p l).length≤l.length:=by
 unfold shM
 rw [hb,cond_true]
 obtain ⟨h1,h2,h3⟩:=Q9u hb (srt (dnk (l.map (·.fD))) l.length) [] (λi hi=>Qw3.1 hi) (by simp)
 refine ⟨h1,by simpa using h2,?_⟩
 rw [Qtm] at h3
 simpa using h3
theorem Jjz {fu:Nat} (s:Shelf) (i:Int) (b:Box) (hl:s.f0.length≤1000000) (h1:-1000000000≤s.fW+b.fW∧s.fW+b.fW≤1000000000) (h2:-1000000000≤s.fQ+b.fQ∧s.fQ+b.fQ≤1000000000):Qgm fu s i b=some (Qrt s i b):=by
 unfold Qgm
 rw [ap1 (by simp; omega),Qaa,ap1 (by simp; omega),Qaa,Jda,Qaa,Jda,Qaa,Qam (by omega) (by omega),Qam (by omega) (by omega)]
 rfl
theorem Qpp {σ:Type} (f:σ→List Int):∀ (l:List σ) (s:σ),s∈l→(f s).length≤((l.map f).flatten).length
 | [],_,h=>by simp at h
 | x::l,s,h=>by
  simp only [List.map_cons,List.flatten_cons,List.length_append]
  rcases List.mem_cons.1 h with rfl | h
  · omega
  · have:=Qpp f l s h; omega
theorem Jbq {fu:Nat} (hfu:2097153≤fu) (p:Pallet) (l:List Box) (hl:l.length≤1000):Qqy fu p l=some (shM p l):=by
 unfold Qqy shM
 rw [Jkm p l (by omega) (by omega),Qaa]
 cases hb:Q0b p l
 · rfl
 · rw [Bool.not_true,cond_false,cond_true]
   have key:=lpI l (λn (o:List Int) i=>Qgv fu p l n o i) (λxs o=>Qab (Qg5 fu (o++xs.map (·.fD))) λx=>Qd4 fu p l x fu [] 0) (λxs o=>o.length+xs.length≤1000) (by omega) ?_ ?_ fu [] (by simp; omega) (by omega)
   · rw [key,List.nil_append,Jd9 hfu (by simp; omega),Qaa,List.length_map]
     have hsl:=Qtm (dnk (l.map (·.fD))) l.length
     have hsm:=λx=>Qw3 (k:=dnk (l.map (·.fD))) (n:=l.length) (x:=x)
     generalize srt (dnk (l.map (·.fD))) l.length=S at hsl hsm ⊢
     have L1:=lpI S (λn (o:List Shelf) i=>Qd4 fu p l S n o i) (λxs o=>some (xs.foldl (shS p l) o)) (λxs o=>(∀ i∈xs,0≤i∧i<l.length)∧(∀ s∈o,ShI p l.length s)∧((o.map (·.f0)).flatten).length+xs.length≤1000∧o.length+xs.length≤1000) (by omega) ?_ ?_ fu [] ⟨λi hi=>(hsm i).1 hi,by simp,by simp; omega,by simp; omega⟩ (by omega)
     · exact L1
     · intro n o i x xs hx hd hI ih
       obtain ⟨i1,i2,i3,i4⟩:=hI
       simp only [List.length_cons] at i3 i4
       have hxi:=i1 x (by simp)
       obtain ⟨hbx,b1,b2,b3,b4⟩:=Q4y hb hxi
       obtain ⟨p1,p2,p3,p4⟩:=Qxi (Q2l hb)
       have hn:Qgm fu zSh x (bxA l x)=some (Qrt zSh x (bxA l x)):=Jjz zSh x _ (by simp [zSh]) (by simp [zSh]; omega) (by simp [zSh]; omega)
       have hn':Qgm fu (⟨[],0,0,0,0⟩:Shelf) x (bxA l x)=some (Qrt zSh x (bxA l x)):=hn
       have hflat:((shS p l o x).map (·.f0)).flatten=(o.map (·.f0)).flatten++[x]:=Qsf (λs=>rfl) rfl
       have hlen:(shS p l o x).length≤o.length+1:=Que _ _ _ _
       have ih':=ih (shS p l o x) ⟨λj hj=>i1 j (by simp [hj]),Q55 hb hxi i2,by rw [hflat,List.length_append,List.length_singleton]; omega,by omega⟩
       simp only [Qd4.eq_2]
       unfold Ql7 Qgs
       rw [hd,cond_true,hx,Qaa,hbx,Qaa,List.foldl_cons,← ih',hn',Qaa]
       by_cases he:o=[]
       · subst he
         rw [Qaf (by simp),Qaa,ap1 (by simp),Qaa]; rfl
       · obtain ⟨s,e1,e2⟩:=Qus he
         have hp:=List.length_pos_iff.2 he
         have hsm':=List.mem_of_getLast? e1
         have hs:=i2 s hsm'
         have hsl':=Qpp (λs:Shelf=>s.f0) o s hsm'
         rw [Qam (n:=(o.length:Int) - 1) (by omega) (by omega),e2,Qaa,Qao (by simp; omega)]
         obtain ⟨s1,s2,s3,s4,s5,s6⟩:=hs
         rw [Qam (n:=s.fW+_) (by omega) (by omega),Qam (n:=s.fQ+_) (by omega) (by omega),Qaa,Qaa,Qaa,Jjz (fu:=fu) s x (bxA l x) (by omega) (by omega) (by omega)]
         simp only [Qaa]
         rw [ap1 (by simp; omega),Qaa]
         have eS:shS p l o x=bif Q78 p (bxA l x) s then o.set (o.length - 1) (Qrt s x (bxA l x)) else o++[Qrt zSh x (bxA l x)]:=Qvc e1
         rw [eS]
         unfold Q78
         rw [show Qi1 o ((o.length:Int) - 1) (Qrt s x (bxA l x))=o.set (o.length - 1) (Qrt s x (bxA l x)) by unfold Qi1; congr 1; omega]
         cases decide (s.fW+(bxA l x).fW≤p.fW) <;> cases decide (s.fQ+(bxA l x).fQ≤p.fQ) <;> rfl
     · intro n o i hd _
       simp only [Qd4.eq_2]
       unfold Ql7
       rw [hd,cond_false]; rfl
   · intro n o i x xs hx hd hI ih
     simp only [List.length_cons] at hI
     simp only [Qgv.eq_2]
     unfold Qm6
     rw [hd,cond_true,hx,Qaa,ap1 (by simp; omega),Qaa,ih _ (by simp; omega)]
     simp
   · intro n o i hd _
     simp only [Qgv.eq_2]
     unfold Qm6
     rw [hd,cond_false]; simp
def okL (p:Pallet) (d h g:Int):Bool:=inb d 1 p.fD&&(inb h 1 p.fH&&inb g 1 p.fQ)
theorem Jiz (fu:Nat) (p:Pallet) (d h g:Int):Qq6 fu p d h g=some (okL p d h g):=by
 unfold Qq6 okL
 simp only [Q0a,Qaa]
 cases inb d 1 p.fD <;> cases inb h 1 p.fH <;> rfl
theorem Jnp {fu:Nat} (p:Pallet) (l:List Shelf) (hl:l.length≤1048576) (hf:l.length<fu):Qlq fu p l=some (Qvw p&&l.all λs=>okL p s.fD s.fH s.fQ):=by
 unfold Qlq
 rw [Jdl,Qaa]
 cases Qvw p
 · rfl
 · rw [Bool.not_true,cond_false,Bool.true_and]
   have:=Jfj l (λn i=>Qe2 fu p l n i) (λs=>okL p s.fD s.fH s.fQ) (some true) (by omega) ?_ ?_ fu hf
   · rw [this]
     cases l.all λs=>okL p s.fD s.fH s.fQ <;> rfl
   · intro n i x hx hd
     simp only [Qe2.eq_2]
     unfold Qi7
     simp only [hd,cond_true,hx,Qaa,Jiz]
     cases okL p x.fD x.fH x.fQ <;> rfl
   · intro n i hd
     simp only [Qe2.eq_2]
     unfold Qi7
     rw [hd,cond_false]
theorem Jnb {fu:Nat} (p:Pallet) (l:List Layer) (hl:l.length≤1048576) (hf:l.length<fu):Qpi fu p l=some (Qvw p&&l.all λs=>okL p s.fD s.fH s.fQ):=by
 unfold Qpi
 rw [Jdl,Qaa]
 cases Qvw p
 · rfl
 · rw [Bool.not_true,cond_false,Bool.true_and]
   have:=Jfj l (λn i=>Qfs fu p l n i) (λs=>okL p s.fD s.fH s.fQ) (some true) (by omega) ?_ ?_ fu hf
   · rw [this]
     cases l.all λs=>okL p s.fD s.fH s.fQ <;> rfl
   · intro n i x hx hd
     simp only [Qfs.eq_2]
     unfold Qk6
     simp only [hd,cond_true,hx,Qaa,Jiz]
     cases okL p x.fD x.fH x.fQ <;> rfl
   · intro n i hd
     simp only [Qfs.eq_2]
     unfold Qk6
     rw [hd,cond_false]
def shA (l:List Shelf) (i:Int):Shelf:=(ix l i).getD zSh
def zLy:Layer:=⟨[],0,0,0⟩
def Qtv (x:Layer) (i:Int) (s:Shelf):Layer:=⟨x.fP++[i],x.fD+s.fD,mxI x.fH s.fH,x.fQ+s.fQ⟩
def Q8b (p:Pallet) (s:Shelf) (x:Layer):Bool:=decide (x.fD+s.fD≤p.fD)&&decide (x.fQ+s.fQ≤p.fQ)
def lyS (p:Pallet) (l:List Shelf) (out:List Layer) (i:Int):List Layer:=nxG (Q8b p (shA l i)) (λs=>Qtv s i (shA l i)) zLy out
def lyM (p:Pallet) (l:List Shelf):List Layer:=(Qj5 0 l.length).foldl (lyS p l) []
structure LyI (p:Pallet) (n:Nat) (s:Layer):Prop where
 ne:s.fP≠[]
 inn:∀ i∈s.fP,0≤i∧i<n
 d:1≤s.fD∧s.fD≤p.fD
 h:1≤s.fH∧s.fH≤p.fH
 g:1≤s.fQ∧s.fQ≤p.fQ
def OkS (p:Pallet) (l:List Shelf):Prop:=∀ s∈l,(1≤s.fD∧s.fD≤p.fD)∧(1≤s.fH∧s.fH≤p.fH)∧(1≤s.fQ∧s.fQ≤p.fQ)
theorem Q4u {p:Pallet} {l:List Shelf} (h:OkS p l) {i:Int} (hi:0≤i∧i<l.length):ix l i=some (shA l i)∧(1≤(shA l i).fD∧(shA l i).fD≤p.fD)∧(1≤(shA l i).fH∧(shA l i).fH≤p.fH)∧(1≤(shA l i).fQ∧(shA l i).fQ≤p.fQ)∧shA l i∈l:=by
 obtain ⟨x,hx⟩:=Q51 (l:=l) hi.1 hi.2
 have e:shA l i=x:=by unfold shA; rw [hx]; rfl
 rw [e]
 exact ⟨hx,(h x (Qi3 hx)).1,(h x (Qi3 hx)).2.1,(h x (Qi3 hx)).2.2,Qi3 hx⟩
theorem Q5o {p:Pallet} {l:List Shelf} (hb:OkS p l) {out:List Layer} {i:Int} (hi:0≤i∧i<l.length) (h:∀ s∈out,LyI p l.length s):∀ s∈lyS p l out i,LyI p l.length s:=by
 obtain ⟨_,b1,b2,b3,_⟩:=Q4u hb hi
 refine Q5t h (λs hs hf=>?_) ⟨by simp [Qtv],λj hj=>?_,?_,?_,?_⟩
 · unfold Q8b at hf
   simp only [Bool.and_eq_true,decide_eq_true_eq] at hf
   obtain ⟨s1,s2,s4,s5,s6⟩:=hs
   have m2:=Q1l s.fH (shA l i).fH
   refine ⟨by simp [Qtv],λj hj=>?_,?_,?_,?_⟩
   · simp only [Qtv,List.mem_append,List.mem_singleton] at hj
     rcases hj with hj | rfl
     · exact s2 j hj
     · exact hi
   · simp only [Qtv]; omega
   · simp only [Qtv]; omega
   · simp only [Qtv]; omega
 · simp only [Qtv,zLy,List.nil_append,List.mem_singleton] at hj
   rw [hj]; exact hi
 · simp only [Qtv,zLy]; omega
 · have:=Q1l 0 (shA l i).fH
   simp only [Qtv,zLy]; omega
 · simp only [Qtv,zLy]; omega
theorem Q94 {p:Pallet} {l:List Shelf} (hb:OkS p l):∀ (is:List Int) (out:List Layer),(∀ i∈is,0≤i∧i<l.length)→(∀ s∈out,LyI p l.length s)→(∀ s∈is.foldl (lyS p l) out,LyI p l.length s)∧((is.foldl (lyS p l) out).map (·.fP)).flatten=(out.map (·.fP)).flatten++is∧(is.foldl (lyS p l) out).length≤out.length+is.length
 | [],out,_,h=>⟨h,by simp,by simp⟩
 | i::is,out,hi,h=>by
  rw [List.foldl_cons]
  obtain ⟨h1,h2,h3⟩:=Q94 hb is (lyS p l out i) (λj hj=>hi j (by simp [hj])) (Q5o hb (hi i (by simp)) h)
  have h4:((lyS p l out i).map (·.fP)).flatten=(out.map (·.fP)).flatten++[i]:=Qsf (λs=>rfl) rfl
  have h5:(lyS p l out i).length≤out.length+1:=Que _ _ _ _
  refine ⟨h1,by rw [h2,h4]; simp,by simp; omega⟩
theorem Q2h {p:Pallet} {l:List Shelf} (hb:OkS p l):(∀ s∈lyM p l,LyI p l.length s)∧((lyM p l).map (·.fP)).flatten=Qj5 0 l.length∧(lyM p l).length≤l.length:=by
 unfold lyM
 obtain ⟨h1,h2,h3⟩:=Q94 hb (Qj5 0 l.length) [] (λi hi=>by have:=Qho.1 hi; omega) (by simp)
 refine ⟨h1,by simpa using h2,?_⟩
 rw [Qbx] at h3
 simpa using h3
theorem Jiv {p:Pallet} {l:List Shelf} (h:OkS p l):(l.all λs=>okL p s.fD s.fH s.fQ)=true:=by
 refine List.all_eq_true.2 λs hs=>?_
 unfold okL
 simp only [Bool.and_eq_true,Qcb]
 exact ⟨(h s hs).1,(h s hs).2.1,(h s hs).2.2⟩
theorem Jdo {fu:Nat} (hfu:2097153≤fu) {p:Pallet} (hp:Qvw p=true) {l:List Shelf} (hb:OkS p l) (hl:l.length≤1000):Qn4 fu p l=some (lyM p l):=by
 unfold Qn4 lyM
 rw [Jnp p l (by omega) (by omega),hp,Jiv hb,Qaa,Bool.and_self,Bool.not_true,cond_false]
 obtain ⟨p1,p2,p3,p4⟩:=Qxi hp
 have L1:=Q8h (l.length:Int) (λn (o:List Layer) i=>Qbf fu p l n o i) (λxs o=>some (xs.foldl (lyS p l) o)) (λxs o=>(∀ s∈o,LyI p l.length s)∧((o.map (·.fP)).flatten).length+xs.length≤1000∧o.length+xs.length≤1000) (by omega) ?_ ?_ l.length fu [] 0 (by omega) (by omega) (by omega) ⟨by simp,by simp [Qbx]; omega,by simp [Qbx]; omega⟩
 · exact L1
 · intro n o i xs x0 x1 hd hI ih
   obtain ⟨i2,i3,i4⟩:=hI
   simp only [List.length_cons] at i3 i4
   obtain ⟨hbx,b1,b2,b3,_⟩:=Q4u hb ⟨x0,x1⟩
   have hflat:((lyS p l o i).map (·.fP)).flatten=(o.map (·.fP)).flatten++[i]:=Qsf (λs=>rfl) rfl
   have hlen:(lyS p l o i).length≤o.length+1:=Que _ _ _ _
   have ih':=ih (lyS p l o i) ⟨Q5o hb ⟨x0,x1⟩ i2,by rw [hflat,List.length_append,List.length_singleton]; omega,by omega⟩
   have J:∀ (o':List Layer) (x:Layer),o'.length≤1000→(x.fP.length≤1000)→(0≤x.fD∧x.fD≤2000)→(0≤x.fQ∧x.fQ≤100000)→Qc0 fu (Qbf fu p l n) i (shA l i) (o'++[x]) ((o'.length:Int)+1)=Qbf fu p l n (o'++[Qtv x i (shA l i)]) (w64 (i+1)):=by
    intro o' x h1 h2 h3 h4
    unfold Qc0 Qow
    have e1:w64 ((o'.length:Int)+1 - 1)=(o'.length:Int):=by rw [Qam (by omega) (by omega)]; omega
    have e2:ix (o'++[x]) (o'.length:Int)=some x:=by rw [Qh2]; simp
    rw [e1,e2,Qaa,ap1 (by simp; omega),Qaa,ap1 (by simp; omega),Qaa,Jda,Qaa,Qaa,Qam (n:=x.fD+_) (by omega) (by omega),Qam (n:=x.fQ+_) (by omega) (by omega)]
    have e3:∀ y:Layer,Qi1 (o'++[x]) (o'.length:Int) y=o'++[y]:=by intro y; simp [Qi1]
    rw [e3]
    rfl
   simp only [Qbf.eq_2]
   unfold Qk0
   rw [hd,cond_true,hbx,Qaa,List.foldl_cons,← ih']
   by_cases he:o=[]
   · subst he
     rw [Qao (by simp),ap1 (by simp),Qaa]
     have:=J [] zLy (by simp) (by simp [zLy]) (by simp [zLy]) (by simp [zLy])
     rw [Qam (by simp) (by simp)]
     exact this
   · obtain ⟨s,e1,e2⟩:=Qus he
     have hpl:=List.length_pos_iff.2 he
     have hsm':=List.mem_of_getLast? e1
     have hs:=i2 s hsm'
     have hsl':=Qpp (λs:Layer=>s.fP) o s hsm'
     obtain ⟨s1,s2,s4,s5,s6⟩:=hs
     have eS:lyS p l o i=bif Q8b p (shA l i) s then o.set (o.length - 1) (Qtv s i (shA l i)) else o++[Qtv zLy i (shA l i)]:=Qvc e1
     have eo:o=o.dropLast++[s]:=by
      have h1:=List.dropLast_concat_getLast he
      rw [List.getLast?_eq_some_getLast he] at e1
      rw [Option.some.inj e1] at h1
      exact h1.symm
     have e3:Qc0 fu (Qbf fu p l n) i (shA l i) o (o.length:Int)=Qbf fu p l n (o.set (o.length - 1) (Qtv s i (shA l i))) (w64 (i+1)):=by
      obtain ⟨d,hd⟩:∃ d,o=d++[s]:=⟨_,eo⟩
      rw [hd] at i4 ⊢
      simp only [List.length_append,List.length_singleton] at i4
      have:=J d s (by omega) (by omega) (by omega) (by omega)
      rw [show (((d++[s]).length:Nat):Int)=(d.length:Int)+1 by simp,this]
      congr 1
      simp
     have e4:Qc0 fu (Qbf fu p l n) i (shA l i) (o++[zLy]) (w64 ((o.length:Int)+1))=Qbf fu p l n (o++[Qtv zLy i (shA l i)]) (w64 (i+1)):=by
      rw [Qam (by omega) (by omega)]
      exact J o zLy (by omega) (by simp [zLy]) (by simp [zLy]) (by simp [zLy])
     rw [Qam (n:=(o.length:Int) - 1) (by omega) (by omega),e2,Qaa,Qaf (by simp; omega),Qaa,Qam (n:=s.fD+_) (by omega) (by omega),Qam (n:=s.fQ+_) (by omega) (by omega),ap1 (by simp; omega),Qaa,e3]
     rw [show (⟨[],0,0,0⟩:Layer)=zLy from rfl,e4,eS]
     unfold Q8b
     by_cases c1:s.fD+(shA l i).fD≤p.fD
     · rw [Qaf (c:=decide (s.fD+(shA l i).fD>p.fD)) (by simp; omega),decide_eq_true c1]
       by_cases c2:s.fQ+(shA l i).fQ≤p.fQ
       · rw [Qaf (c:=decide (s.fQ+(shA l i).fQ>p.fQ)) (by simp; omega),decide_eq_true c2]; rfl
       · rw [Qao (c:=decide (s.fQ+(shA l i).fQ>p.fQ)) (by simp; omega),decide_eq_false c2]; rfl
     · rw [Qao (c:=decide (s.fD+(shA l i).fD>p.fD)) (by simp; omega),decide_eq_false c1]; rfl
 · intro n o i hd _
   simp only [Qbf.eq_2]
   unfold Qk0
   rw [hd,cond_false]; rfl
def lyA (l:List Layer) (i:Int):Layer:=(ix l i).getD zLy
def zLd:Load:=⟨[],0,0⟩
def Quc (x:Load) (i:Int) (s:Layer):Load:=⟨x.fO++[i],x.fH+s.fH,x.fQ+s.fQ⟩
def Q73 (p:Pallet) (s:Layer) (x:Load):Bool:=decide (x.fH+s.fH≤p.fH)&&decide (x.fQ+s.fQ≤p.fQ)
def ldS (p:Pallet) (l:List Layer) (out:List Load) (i:Int):List Load:=nxG (Q73 p (lyA l i)) (λs=>Quc s i (lyA l i)) zLd out
def ldM (p:Pallet) (l:List Layer):List Load:=(Qj5 0 l.length).foldl (ldS p l) []
structure LdI (p:Pallet) (n:Nat) (s:Load):Prop where
 ne:s.fO≠[]
 inn:∀ i∈s.fO,0≤i∧i<n
 h:1≤s.fH∧s.fH≤p.fH
 g:1≤s.fQ∧s.fQ≤p.fQ
def OkY (p:Pallet) (l:List Layer):Prop:=∀ s∈l,(1≤s.fD∧s.fD≤p.fD)∧(1≤s.fH∧s.fH≤p.fH)∧(1≤s.fQ∧s.fQ≤p.fQ)
theorem Q4g {p:Pallet} {l:List Layer} (h:OkY p l) {i:Int} (hi:0≤i∧i<l.length):ix l i=some (lyA l i)∧(1≤(lyA l i).fD∧(lyA l i).fD≤p.fD)∧(1≤(lyA l i).fH∧(lyA l i).fH≤p.fH)∧(1≤(lyA l i).fQ∧(lyA l i).fQ≤p.fQ)∧lyA l i∈l:=by
 obtain ⟨x,hx⟩:=Q51 (l:=l) hi.1 hi.2
 have e:lyA l i=x:=by unfold lyA; rw [hx]; rfl
 rw [e]
 exact ⟨hx,(h x (Qi3 hx)).1,(h x (Qi3 hx)).2.1,(h x (Qi3 hx)).2.2,Qi3 hx⟩
theorem Q5r {p:Pallet} {l:List Layer} (hb:OkY p l) {out:List Load} {i:Int} (hi:0≤i∧i<l.length) (h:∀ s∈out,LdI p l.length s):∀ s∈ldS p l out i,LdI p l.length s:=by
 obtain ⟨_,b1,b2,b3,_⟩:=Q4g hb hi
 refine Q5t h (λs hs hf=>?_) ⟨by simp [Quc],λj hj=>?_,?_,?_⟩
 · unfold Q73 at hf
   simp only [Bool.and_eq_true,decide_eq_true_eq] at hf
   obtain ⟨s1,s2,s5,s6⟩:=hs
   refine ⟨by simp [Quc],λj hj=>?_,?_,?_⟩
   · simp only [Quc,List.mem_append,List.mem_singleton] at hj
     rcases hj with hj | rfl
     · exact s2 j hj
     · exact hi
   · simp only [Quc]; omega
   · simp only [Quc]; omega
 · simp only [Quc,zLd,List.nil_append,List.mem_singleton] at hj
   rw [hj]; exact hi
 · simp only [Quc,zLd]; omega
 · simp only [Quc,zLd]; omega
theorem Q8r {p:Pallet} {l:List Layer} (hb:OkY p l):∀ (is:List Int) (out:List Load),(∀ i∈is,0≤i∧i<l.length)→(∀ s∈out,LdI p l.length s)→(∀ s∈is.foldl (ldS p l) out,LdI p l.length s)∧((is.foldl (ldS p l) out).map (·.fO)).flatten=(out.map (·.fO)).flatten++is∧(is.foldl (ldS p l) out).length≤out.length+is.length
 | [],out,_,h=>⟨h,by simp,by simp⟩
 | i::is,out,hi,h=>by
  rw [List.foldl_cons]
  obtain ⟨h1,h2,h3⟩:=Q8r hb is (ldS p l out i) (λj hj=>hi j (by simp [hj])) (Q5r hb (hi i (by simp)) h)
  have h4:((ldS p l out i).map (·.fO)).flatten=(out.map (·.fO)).flatten++[i]:=Qsf (λs=>rfl) rfl
  have h5:(ldS p l out i).length≤out.length+1:=Que _ _ _ _
  refine ⟨h1,by rw [h2,h4]; simp,by simp; omega⟩
theorem Q54 {p:Pallet} {l:List Layer} (hb:OkY p l):(∀ s∈ldM p l,LdI p l.length s)∧((ldM p l).map (·.fO)).flatten=Qj5 0 l.length∧(ldM p l).length≤l.length:=by
 unfold ldM
 obtain ⟨h1,h2,h3⟩:=Q8r hb (Qj5 0 l.length) [] (λi hi=>by have:=Qho.1 hi; omega) (by simp)
 refine ⟨h1,by simpa using h2,?_⟩
 rw [Qbx] at h3
 simpa using h3
theorem Jkf {p:Pallet} {l:List Layer} (h:OkY p l):(l.all λs=>okL p s.fD s.fH s.fQ)=true:=by
 refine List.all_eq_true.2 λs hs=>?_
 unfold okL
 simp only [Bool.and_eq_true,Qcb]
 exact ⟨(h s hs).1,(h s hs).2.1,(h s hs).2.2⟩
theorem Jfv {fu:Nat} (hfu:2097153≤fu) {p:Pallet} (hp:Qvw p=true) {l:List Layer} (hb:OkY p l) (hl:l.length≤1000):Qq0 fu p l=some (ldM p l):=by
 unfold Qq0 ldM
 rw [Jnb p l (by omega) (by omega),hp,Jkf hb,Qaa,Bool.and_self,Bool.not_true,cond_false]
 obtain ⟨p1,p2,p3,p4⟩:=Qxi hp
 have L1:=Q8h (l.length:Int) (λn (o:List Load) i=>Qbn fu p l n o i) (λxs o=>some (xs.foldl (ldS p l) o)) (λxs o=>(∀ s∈o,LdI p l.length s)∧((o.map (·.fO)).flatten).length+xs.length≤1000∧o.length+xs.length≤1000) (by omega) ?_ ?_ l.length fu [] 0 (by omega) (by omega) (by omega) ⟨by simp,by simp [Qbx]; omega,by simp [Qbx]; omega⟩
 · exact L1
 · intro n o i xs x0 x1 hd hI ih
   obtain ⟨i2,i3,i4⟩:=hI
   simp only [List.length_cons] at i3 i4
   obtain ⟨hbx,b1,b2,b3,_⟩:=Q4g hb ⟨x0,x1⟩
   have hflat:((ldS p l o i).map (·.fO)).flatten=(o.map (·.fO)).flatten++[i]:=Qsf (λs=>rfl) rfl
   have hlen:(ldS p l o i).length≤o.length+1:=Que _ _ _ _
   have ih':=ih (ldS p l o i) ⟨Q5r hb ⟨x0,x1⟩ i2,by rw [hflat,List.length_append,List.length_singleton]; omega,by omega⟩
   have J:∀ (o':List Load) (x:Load),o'.length≤1000→(x.fO.length≤1000)→(0≤x.fH∧x.fH≤2000)→(0≤x.fQ∧x.fQ≤100000)→Qdf fu (Qbn fu p l n) i (lyA l i) (o'++[x]) ((o'.length:Int)+1)=Qbn fu p l n (o'++[Quc x i (lyA l i)]) (w64 (i+1)):=by
    intro o' x h1 h2 h3 h4
    unfold Qdf Qp9
    have e1:w64 ((o'.length:Int)+1 - 1)=(o'.length:Int):=by rw [Qam (by omega) (by omega)]; omega
    have e2:ix (o'++[x]) (o'.length:Int)=some x:=by rw [Qh2]; simp
    rw [e1,e2,Qaa,ap1 (by simp; omega),Qaa,ap1 (by simp; omega),Qaa,Qaa,Qam (n:=x.fH+_) (by omega) (by omega),Qam (n:=x.fQ+_) (by omega) (by omega)]
    have e3:∀ y:Load,Qi1 (o'++[x]) (o'.length:Int) y=o'++[y]:=by intro y; simp [Qi1]
    rw [e3]
    rfl
   simp only [Qbn.eq_2]
   unfold Qmd
   rw [hd,cond_true,hbx,Qaa,List.foldl_cons,← ih']
   by_cases he:o=[]
   · subst he
     rw [Qao (by simp),ap1 (by simp),Qaa]
     have:=J [] zLd (by simp) (by simp [zLd]) (by simp [zLd]) (by simp [zLd])
     rw [Qam (by simp) (by simp)]
     exact this
   · obtain ⟨s,e1,e2⟩:=Qus he
     have hpl:=List.length_pos_iff.2 he
     have hsm':=List.mem_of_getLast? e1
     have hs:=i2 s hsm'
     have hsl':=Qpp (λs:Load=>s.fO) o s hsm'
     obtain ⟨s1,s2,s5,s6⟩:=hs
     have eS:ldS p l o i=bif Q73 p (lyA l i) s then o.set (o.length - 1) (Quc s i (lyA l i)) else o++[Quc zLd i (lyA l i)]:=Qvc e1
     have eo:o=o.dropLast++[s]:=by
      have h1:=List.dropLast_concat_getLast he
      rw [List.getLast?_eq_some_getLast he] at e1
      rw [Option.some.inj e1] at h1
      exact h1.symm
     have e3:Qdf fu (Qbn fu p l n) i (lyA l i) o (o.length:Int)=Qbn fu p l n (o.set (o.length - 1) (Quc s i (lyA l i))) (w64 (i+1)):=by
      obtain ⟨d,hd⟩:∃ d,o=d++[s]:=⟨_,eo⟩
      rw [hd] at i4 ⊢
      simp only [List.length_append,List.length_singleton] at i4
      have:=J d s (by omega) (by omega) (by omega) (by omega)
      rw [show (((d++[s]).length:Nat):Int)=(d.length:Int)+1 by simp,this]
      congr 1
      simp
     have e4:Qdf fu (Qbn fu p l n) i (lyA l i) (o++[zLd]) (w64 ((o.length:Int)+1))=Qbn fu p l n (o++[Quc zLd i (lyA l i)]) (w64 (i+1)):=by
      rw [Qam (by omega) (by omega)]
      exact J o zLd (by omega) (by simp [zLd]) (by simp [zLd]) (by simp [zLd])
     rw [Qam (n:=(o.length:Int) - 1) (by omega) (by omega),e2,Qaa,Qaf (by simp; omega),Qaa,Qam (n:=s.fH+_) (by omega) (by omega),Qam (n:=s.fQ+_) (by omega) (by omega),ap1 (by simp; omega),Qaa,e3]
     rw [show (⟨[],0,0⟩:Load)=zLd from rfl,e4,eS]
     unfold Q73
     by_cases c1:s.fH+(lyA l i).fH≤p.fH
     · rw [Qaf (c:=decide (s.fH+(lyA l i).fH>p.fH)) (by simp; omega),decide_eq_true c1]
       by_cases c2:s.fQ+(lyA l i).fQ≤p.fQ
       · rw [Qaf (c:=decide (s.fQ+(lyA l i).fQ>p.fQ)) (by simp; omega),decide_eq_true c2]; rfl
       · rw [Qao (c:=decide (s.fQ+(lyA l i).fQ>p.fQ)) (by simp; omega),decide_eq_false c2]; rfl
     · rw [Qao (c:=decide (s.fH+(lyA l i).fH>p.fH)) (by simp; omega),decide_eq_false c1]; rfl
 · intro n o i hd _
   simp only [Qbn.eq_2]
   unfold Qmd
   rw [hd,cond_false]; rfl
end Go.Proofs.YtndfoffokpdjeaaGreatDoor
