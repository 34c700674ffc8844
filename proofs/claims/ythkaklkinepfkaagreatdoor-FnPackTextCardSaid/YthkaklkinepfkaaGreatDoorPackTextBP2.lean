/- PackTextBP: plain le.. -/
import Derived.Test.YthkaklkinepfkaaGreatDoorPackTextBP1
set_option linter.unusedSimpArgs false
set_option linter.unusedVariables false
namespace Go.Proofs.YthkaklkinepfkaaGreatDoor
open Go
open Enc (rd ow)
open Arg (argv)
open Ret (retv)
open Wf (wf)
theorem Q4r (r:Request) (u:Int):0≤(Qwm r u).fQ∧(Qwm r u).fQ≤100000:=by
 unfold Qwm
 cases hm:Q3w r u with
 | none=>simp [Q8e]
 | some x=>exact Q3f (r:=r) (us:=[u]) (by simp [Qxn,List.filterMap_cons,hm])
theorem Jmn {fu:Nat} {r:Request} (h:Sm fu r) (us:List Int) (hl:us.length≤1048576) (hf:us.length<fu):Qr4 fu r us=some (Qwj r us):=by
 unfold Qr4
 rw [Jmt h,Qaa]
 have key:=lpI us (λn s i=>Qem fu r us (Qi6 r) n s i) (λl n=>some (n+Qwj r l)) (λl n=>0≤n∧n+100000*l.length≤100000*1048576) (by omega) ?_ ?_ fu 0 ⟨by omega,by omega⟩ hf
 · simpa using key
 · intro n s i x xs hx hd hI ih
   simp only [Qem.eq_2]
   unfold Qox Qrh Qrp
   simp only [hd,cond_true,hx,Qaa,Jbl]
   have hv:=Q4r r x
   have h2:=hI.2
   simp only [List.length_cons] at h2
   rw [Qam (by omega) (by omega),ih _ ⟨by omega,by omega⟩]
   congr 1
   have e:Qwj r (x::xs)=(Qwm r x).fQ+Qwj r xs:=by
    unfold Qwj Qxn Qwm
    cases hm:Q3w r x with
    | none=>simp [List.filterMap_cons,hm,Q8e]
    | some y=>simp [List.filterMap_cons,hm]
   rw [e]
   omega
 · intro n s i hd _
   simp only [Qem.eq_2]
   unfold Qox
   simp only [hd,cond_false]
   simp [Qwj,Qxn]
theorem Jk6 {fu:Nat} {r:Request} (h:Sm fu r) (us:List Int) (hl:us.length≤1048576) (hf:us.length<fu):Qou fu r us=some (Qwj r us):=by
 unfold Qou
 rw [Q5r h us hl hf,Qaa]
 have hlen:=Qym r us
 have key:=lpI (Qxn r us) (λn s i=>Qhj fu (Qxn r us) n s i) (λl n=>some (n+Qx8 (l.map (·.fQ)))) (λl n=>0≤n∧n+100000*l.length≤100000*1048576∧∀ x∈l,0≤x.fQ∧x.fQ≤100000) (by omega) ?_ ?_ fu 0 ⟨by omega,by omega,λx hx=>Q3f hx⟩ (by omega)
 · simpa [Qwj] using key
 · intro n s i x xs hx hd hI ih
   simp only [Qhj.eq_2]
   unfold Qot
   simp only [hd,cond_true,hx,Qaa]
   have hv:=hI.2.2 x (by simp)
   have h2:=hI.2.1
   simp only [List.length_cons] at h2
   rw [Qam (by omega) (by omega),ih _ ⟨by omega,by omega,λy hy=>hI.2.2 y (by simp [hy])⟩]
   simp only [List.map_cons,Qq2]
   congr 1
   omega
 · intro n s i hd _
   simp only [Qhj.eq_2]
   unfold Qot
   simp only [hd,cond_false]
   simp
theorem Jch (r:Request) (x:Int) (xs:List Int):Qxk r (x::xs)=Jbg (Qwm r x)+Qxk r xs:=by
 unfold Qxk Qxn Qwm
 cases hm:Q3w r x with
 | none=>simp [List.filterMap_cons,hm,Jc0]
 | some y=>simp [List.filterMap_cons,hm]
theorem Q6p (r:Request) (x:Int) (xs:List Int):Qwj r (x::xs)=(Qwm r x).fQ+Qwj r xs:=by
 unfold Qwj Qxn Qwm
 cases hm:Q3w r x with
 | none=>simp [List.filterMap_cons,hm,Q8e]
 | some y=>simp [List.filterMap_cons,hm]
theorem Q9o {fu:Nat} (r:Request) (us:List Int) (hl:us.length≤1048576) (hf:us.length<fu):Qp7 fu r (Qi6 r) us=some ⟨Qxk r us,Qwj r us⟩:=by
 unfold Qp7
 have key:=lpI us (λn s i=>Qgn fu r (Qi6 r) us n s i) (λl s=>some (⟨s.fvol+Qxk r l,s.fgram+Qwj r l⟩:L7))
  (λl s=>0≤s.fvol∧s.fvol+8000000000*l.length≤8000000000*1048576∧0≤s.fgram∧s.fgram+100000*l.length≤100000*1048576) (by omega) ?_ ?_ fu ⟨0,0⟩ ⟨by simp,by simp; omega,by simp,by simp; omega⟩ hf
 · simpa using key
 · intro n s i x xs hx hd hI ih
   simp only [Qgn.eq_2]
   unfold Qrr Qtw Qtn
   simp only [hd,cond_true,hx,Qaa,Jbl,Jft]
   have hv:=Jb1 (Qwm r x).fW (Qwm r x).fH (Qwm r x).fD
   have hg:=Q4r r x
   obtain ⟨a1,a2,a3,a4⟩:=hI
   simp only [List.length_cons] at a2 a4
   rw [Qam (n:=s.fvol+_) (by omega) (by omega),Qam (n:=s.fgram+_) (by omega) (by omega),ih _ ⟨by simp; omega,by simp; omega,by simp; omega,by simp; omega⟩,Jch,Q6p,show Q72 (Qwm r x).fW (Qwm r x).fH (Qwm r x).fD=Jbg (Qwm r x) from rfl]
   simp only [Option.some.injEq,L7.mk.injEq]
   constructor <;> omega
 · intro n s i hd _
   simp only [Qgn.eq_2]
   unfold Qrr
   simp only [hd,cond_false]
   simp [Qxk,Qwj,Qxn]
def Q4h (r:Request) (us:List Int) (t:Typ):Bool:=decide (Qxk r us≤Jcd t)&&decide (Qwj r us≤t.fQ)
theorem Q7f {fu:Nat} (r:Request) (t:Typ) (us:List Int) (u:Int) (hl:us.length<1048576) (hf:us.length+1<fu):Qon fu r (Qi6 r) t us u=some (Q4h r (us++[u]) t):=by
 unfold Qon Qrt Q4h
 rw [ap1 (by simp; omega),Qaa,List.nil_append,ap1 (by simp; omega),Qaa,Q9o r _ (by simp; omega) (by simp; omega),Qaa,Jft,Qaa]
 show (bif decide (Qxk r (us++[u])≤Jcd t) then _ else _)=_
 cases decide (Qxk r (us++[u])≤Jcd t) <;> simp
theorem Q68 {fu:Nat} {r:Request} (h:Sm fu r) (t:Typ) (us:List Int) (hl:us.length≤1048576):Qpf fu r us t=some (Q4h r us t):=by
 have hfu:=h.fu
 unfold Qpf Q4h
 rw [Q9y h us hl (by omega),Qaa,Jjq,Qaa,Jk6 h us hl (by omega)]
 show (bif decide (Qxk r us≤Jcd t) then _ else _)=_
 cases decide (Qxk r us≤Jcd t) <;> simp
theorem Je6 {r:Request}:(Qyi (Qt1 r r.fT)).1=Qxp r:=rfl
theorem Q83 {fu:Nat} {r:Request} (h:Sm fu r) (us:List Int) (u:Int) (hl:us.length<1048576):Qsp fu r us u=some (Qhg r==0&&Q4h r (us++[u]) (Qxp r)):=by
 have hfu:=h.fu
 unfold Qsp Qcw
 rw [Jgs h,Qaa,Qu8 h,Qaa]
 cases hc:Qhg r==0
 · rfl
 · rw [cond_true,ap1 (by simp; omega),Qaa,Qaa,List.nil_append,ap1 (by simp; omega),Qaa,Q68 h _ _ (by simp; omega)]
   rfl
def Qvs (r:Request) (us:List Int):List Int:=us.filter λu=>inb u 0 (((Qi6 r).length:Int) - 1)
theorem Q5v {fu:Nat} {r:Request} (h:Sm fu r) (us:List Int) (hl:us.length≤1048576):Qiv fu r us=some (Qvs r us):=by
 have hfu:=h.fu
 unfold Qiv Qcw Qvs
 rw [Jfo h,Qaa,ap1 (by simp; omega),Qaa,Qaa,List.nil_append,Jnl _ (λu=>!inb u 0 (((Qi6 r).length:Int) - 1)) ?_ hl (by omega),Qaa]
 · simp
 · intro u _
   unfold Qq8
   rw [Q16,Q1u,Qaa]
theorem Q9h {fu:Nat} {r:Request} (h:Sm fu r) (us:List Int) (hl:us.length≤1048576):Qlj fu (Qi6 r) us=some (Qvs r us):=by
 have hfu:=h.fu
 unfold Qlj Qvs
 have:=lpI us (λn out i=>Qew fu (Qi6 r) us n out i) (λxs out=>some (out++xs.filter λu=>inb u 0 (((Qi6 r).length:Int) - 1))) (λxs out=>out.length+xs.length≤1048576) (by omega) ?_ ?_ fu [] (by simpa using hl) (by omega)
 · simpa using this
 · intro n out i x xs hx hd hI ih
   simp only [List.length_cons] at hI
   simp only [Qew.eq_2]
   unfold Qmk Qkk
   rw [hd,cond_true,hx,Qaa,Q16,Q0b,Qaa,Qaa,List.filter_cons]
   cases hb:inb x 0 (((Qi6 r).length:Int) - 1)
   · rw [cond_false,ih _ (by omega)]; simp
   · rw [cond_true,ap1 (by simp; omega),Qaa,ih _ (by simp; omega)]; simp
 · intro n out i hd hI
   simp only [Qew.eq_2]
   unfold Qmk
   simp only [hd,cond_false]
   simp
theorem Q8f {xs:List Int} (h:xs.length≤1048576):Q2n xs=some (xs.mergeSort λx y=>decide (x≤y)):=by
 unfold Q2n
 rw [if_pos (by omega)]
theorem Qwb (r:Request) (us:List Int):(Qvs r us).length≤us.length:=List.length_filter_le _ _
theorem Qyu {r:Request} {us:List Int} {u:Int} (h:u∈Qvs r us):0≤u∧u<(Qi6 r).length:=by
 unfold Qvs at h
 have:=(List.mem_filter.1 h).2
 rw [Qcb] at this
 omega
theorem Qwr {r:Request} {u:Int} (h:0≤u∧u<(Qi6 r).length):Q3w r u=some (Qwm r u):=by
 obtain ⟨_,x,_,_,hx⟩:=Q50 h
 unfold Qwm
 rw [hx]; rfl
theorem Q6x {r:Request}:∀ {l:List Int},(∀ u∈l,0≤u∧u<(Qi6 r).length)→Qxn r l=l.map (Qwm r)
 | [],_=>rfl
 | u::l,h=>by
  have ih:=Q6x (r:=r) (l:=l) λv hv=>h v (by simp [hv])
  unfold Qxn at ih ⊢
  rw [List.filterMap_cons,Qwr (h u (by simp)),ih,List.map_cons]
theorem Jfd {α:Type} (l:List α) (L:Nat→Int→Option Bool) (g:α→Bool) (fin:Option Bool) (hl:l.length≤1099511627776)
    (hs:∀ n (i:Int) x,ix l i=some x→decide (i<(l.length:Int))=true→L (n+1) i=bif g x then L n (w64 (i+1)) else some false)
    (he:∀ n (i:Int),decide (i<(l.length:Int))=false→L (n+1) i=fin):∀ n,l.length<n→L n 0=bif l.all g then fin else some false:=by
 intro n hn
 refine lp l (λn (_:Unit) i=>L n i) (λxs _=>bif xs.all g then fin else some false) hl ?_ ?_ n () hn
 · intro n s i x xs hx hd ih
   rw [hs n i x hx hd,ih (),List.all_cons]
   cases g x <;> rfl
 · intro n s i hd
   rw [he n i hd]; rfl
structure Sep (p:List Pair) (P:List Int) (out:List (List Int)):Prop where
 ne:∀ g∈out,g≠[]
 inn:∀ g∈out,∀ x∈g,x∈P
 one:∀ g∈out,∀ x∈g,∀ y∈g,x≠y→Q27 p x y=true
 two:∀ (i j:Nat) (g h:List Int),out[i]? = some g→out[j]? = some h→i≠j→∀ x∈g,∀ y∈h,Q27 p x y=false
theorem Q7n {α:Type} {p q:α→Bool}:∀ {l:List α},(∀ x∈l,p x=q x)→l.all p=l.all q
 | [],_=>rfl
 | x::xs,h=>by rw [List.all_cons,List.all_cons,h x (by simp),Q7n λy hy=>h y (by simp [hy])]
def uOk (r:Request) (t:Typ) (u:Int):Bool:=(Q3w r u).isSome&&Q1c (Qwm r u) t
def Q4l (r:Request) (us:List Int) (t:Typ):Bool:=Qhg r==0&&(us.all (uOk r t)&&Q4h r us t)
theorem Q1x {r:Request} {u:Int}:(Q3w r u).isSome=true↔0≤u∧u<(Qi6 r).length:=by
 constructor
 · intro h
   apply Decidable.byContradiction
   intro hn
   rw [Q17 hn] at h
   cases h
 · intro h
   rw [Qwr h]; rfl
theorem Jf7 {fu:Nat} {r:Request} (h:Sm fu r) (us:List Int) (t:Typ) (hl:us.length≤1048576):Qs7 fu r us t=some (Q4l r us t):=by
 have hfu:=h.fu
 have hil:=Qym r us
 unfold Qs7 Q4l
 rw [Qu8 h,Qaa]
 cases hc:Qhg r==0
 · rfl
 · rw [Bool.not_true,cond_false,Q5v h us hl,Qaa,Bool.true_and]
   by_cases ha:∀ u∈us,0≤u∧u<(Qi6 r).length
   · have e:Qvs r us=us:=List.filter_eq_self.2 λu hu=>by have:=ha u hu; simp; omega
     have e0:((us.length:Int) != (us.length:Int))=false:=by simp
     rw [e,e0,cond_false]
     unfold Qso
     rw [Q5r h us hl (by omega),Qaa,Qyx _ (λx=>!Q1c x t) ?_ (by omega) (by omega),Qaa]
     · rw [Q68 h t us hl,Qaa,Q6x ha,List.any_map]
       have e1:us.all (uOk r t)=!(us.any ((λx=>!Q1c x t) ∘ Qwm r)):=by
        rw [List.not_any_eq_all_not]
        apply Q7n
        intro u hu
        simp only [uOk,Q1x.2 (ha u hu),Bool.true_and,Function.comp,Bool.not_not]
       rw [e1]
       cases us.any ((λx=>!Q1c x t) ∘ Qwm r) <;> simp
     · intro x _
       unfold Qtm
       rw [Jkf,Qaa]
   · have hlt:(Qvs r us).length<us.length:=by
       apply Decidable.byContradiction
       intro hn
       apply ha
       have e:(us.filter λu=>inb u 0 (((Qi6 r).length:Int) - 1)).length=us.length:=by
        have:=List.length_filter_le (λu=>inb u 0 (((Qi6 r).length:Int) - 1)) us
        have e':Qvs r us=us.filter λu=>inb u 0 (((Qi6 r).length:Int) - 1):=rfl
        rw [e'] at hn
        omega
       intro u hu
       have:=List.length_filter_eq_length_iff.1 e u hu
       simp at this
       omega
     have e0:(((Qvs r us).length:Int) != (us.length:Int))=true:=by simp; omega
     rw [e0,cond_true]
     have e1:us.all (uOk r t)=false:=by
      apply Bool.eq_false_iff.2
      intro he
      apply ha
      intro u hu
      have:=List.all_eq_true.1 he u hu
      simp only [uOk,Bool.and_eq_true] at this
      exact Q1x.1 this.1
     rw [e1,Bool.false_and]
theorem Jfr {fu:Nat} {r:Request} (h:Sm fu r) (us:List Int) (t:Typ) (hl:us.length≤1048576):Qtj fu r us t=some (Q4l r us t):=by
 have hfu:=h.fu
 unfold Qtj Q4l
 rw [Q01 h,Qaa]
 cases hc:Qhg r==0
 · have:(Qhg r != 0)=true:=by simp only [bne,hc]; rfl
   rw [this]; rfl
 · have:(Qhg r != 0)=false:=by simp only [bne,hc]; rfl
   have hz:Qhg r=0:=by simpa using hc
   have hu:Qcs fu r=some (Qi6 r):=Jjx h hz
   rw [this,cond_false,hu,Qaa,Bool.true_and]
   have key:=lp us (λn (_:Unit) i=>Qfq fu r us t (Qi6 r) n i) (λl _=>some (l.all (uOk r t)&&Q4h r us t)) (by omega) ?_ ?_ fu () (by omega)
   · exact key
   · intro n _ i x xs hx hd ih
     simp only [Qfq.eq_2]
     unfold Qp8 Qs1 Qsl
     simp only [hd,cond_true,hx,Qaa,Jbl,ih (),List.all_cons,uOk]
     cases (Q3w r x).isSome
     · rfl
     · simp only [Bool.not_true,cond_false,Jfg (show 2097153≤fu by omega),Qaa]
       cases Q1c (Qwm r x) t <;> rfl
   · intro n _ i hd
     simp only [Qfq.eq_2]
     unfold Qp8 Qsx
     simp only [hd,cond_false,Q9o r us hl (show us.length<fu by omega),Qaa,Jft]
     show (bif decide (Qxk r us≤Jcd t) then _ else _)=_
     unfold Q4h
     cases decide (Qxk r us≤Jcd t) <;> simp
def chp (r:Request) (us:List Int) (s:Typ×Bool) (t:Typ):Typ×Bool :=
 bif Q4l r us t&&(!s.2||(decide (t.fl<s.1.fl)||(t.fl==s.1.fl&&decide (t.ft<s.1.ft)))) then (t,true) else s
def Q11 (r:Request) (us:List Int):Typ×Bool:=r.fU.foldl (chp r us) (Jil,false)
theorem Jg5 {fu:Nat} {r:Request} (h:Sm fu r) (us:List Int) (hl:us.length≤1048576):Qoq fu r us=some (Q11 r us):=by
 have hfu:=h.fu
 have ht:=h.types
 unfold Qoq
 have key:=lp r.fU (λn (s:Typ×Bool) i=>Qej fu r us n s.1 s.2 i) (λl s=>some (l.foldl (chp r us) s)) (by omega) ?_ ?_ fu (Jil,false) (by omega)
 · exact key
 · intro n s i x xs hx hd ih
   simp only [Qej.eq_2]
   unfold Qkz Qdn
   have ih':=λa b=>ih (a,b)
   simp only at ih'
   obtain ⟨b,f⟩:=s
   simp only [hd,cond_true,hx,Qaa,Jf7 h us x hl,ih',List.foldl_cons,chp]
   cases Q4l r us x <;> cases f <;> cases decide (x.fl<b.fl) <;> cases x.fl==b.fl <;> cases decide (x.ft<b.ft) <;> rfl
 · intro n s i hd
   simp only [Qej.eq_2]
   unfold Qkz
   simp only [hd,cond_false]
   rfl
theorem Jfa {fu:Nat} {r:Request} (h:Sm fu r) (us:List Int) (hl:us.length≤1048576):Qo1 fu r us=some (Q11 r us):=by
 have hfu:=h.fu
 have ht:=h.types
 unfold Qo1
 have key:=lp r.fU (λn (s:Typ×Bool) i=>Qei fu r us n s.1 s.2 i) (λl s=>some (l.foldl (chp r us) s)) (by omega) ?_ ?_ fu (Jil,false) (by omega)
 · exact key
 · intro n s i x xs hx hd ih
   simp only [Qei.eq_2]
   unfold Qko Qdo
   have ih':=λa b=>ih (a,b)
   simp only at ih'
   obtain ⟨b,f⟩:=s
   simp only [hd,cond_true,hx,Qaa,Jfr h us x hl,ih',List.foldl_cons,chp]
   cases Q4l r us x <;> cases f <;> cases decide (x.fl<b.fl) <;> cases x.fl==b.fl <;> cases decide (x.ft<b.ft) <;> rfl
 · intro n s i hd
   simp only [Qei.eq_2]
   unfold Qko
   simp only [hd,cond_false]
   rfl
theorem Q4s {fu:Nat} {r:Request} (h:Sm fu r) (id:Int):Qjr fu r id=some (Qyi (Qt1 r id)):=by
 have hfu:=h.fu
 have ht:=h.types
 unfold Qjr Qt1
 refine lp r.fU (λn (_:Unit) i=>Qfu fu r id n i) (λl _=>some (Qyi (l.find? λt=>t.ft==id))) (by omega) ?_ ?_ fu () (by omega)
 · intro n s i x xs hx hd ih
   simp only [Qfu.eq_2]
   unfold Qku
   simp only [hd,cond_true,hx,Qaa,ih (),List.find?_cons]
   cases x.ft==id <;> rfl
 · intro n s i hd
   simp only [Qfu.eq_2]
   unfold Qku
   simp only [hd,cond_false]
   rfl
def Job:Box:=⟨0,0,0,0⟩
def Jhz (r:Request) (x:Carton):Int:=match Qt1 r x.qY with
 | some t=>bif Qhg r==0 then t.qQ+Qwj r x.fO else 0
 | none=>0
def Q64 (r:Request) (x:Carton):Box:=match Qt1 r x.qY with
 | some t=>bif Qhg r==0 then ⟨t.fW,t.fD,t.fH,t.qQ+Qwj r x.fO⟩ else Job
 | none=>Job
theorem Jki {r:Request} (hc:Qhg r=0) {id:Int} {t:Typ} (ht:Qt1 r id=some t):Q2w t=true∧t∈r.fU∧t.ft=id:=by
 have hm:=List.mem_of_find?_eq_some ht
 have hp:=List.find?_some ht
 exact ⟨Qy8 (Qfn hc).1 t hm,hm,by simpa using hp⟩
theorem Jfb {r:Request} (hc:Qhg r=0) {id:Int} {t:Typ} (ht:Qt1 r id=some t):0≤t.qQ∧t.qQ≤100000:=by
 have:=(Jki hc ht).1
 simp only [Q2w,Bool.and_eq_true,Qcb] at this
 omega
theorem Q70 {r:Request} (hc:Qhg r=0) {id:Int} {t:Typ} (ht:Qt1 r id=some t) (us:List Int) (hl:us.length≤1048576):w64 (t.qQ+Qwj r us)=t.qQ+Qwj r us:=by
 have h1:=Jfb hc ht
 have h2:=Jai r us
 exact Qam (by omega) (by omega)
theorem Jf8 {fu:Nat} {r:Request} (h:Sm fu r) (x:Carton) (hl:x.fO.length≤1048576):Qtf fu r x=some (Jhz r x):=by
 have hfu:=h.fu
 unfold Qtf Jhz
 rw [Qzn h,Qaa,Q1t]
 cases ht:Qt1 r x.qY with
 | none=>rfl
 | some t =>
  rw [Qu8 h]
  simp only [Option.isSome_some,Bool.not_true,cond_false,Qaa]
  cases hc:Qhg r==0
  · rfl
  · have hc':Qhg r=0:=by simpa using hc
    unfold Qsk
    rw [Jk6 h _ hl (by omega)]
    simp only [Bool.not_true,cond_false,cond_true,Qaa,Qyi,Q70 hc' ht _ hl]
theorem Jgo {fu:Nat} {r:Request} (h:Sm fu r) (x:Carton) (hl:x.fO.length≤1048576):Qs9 fu r x=some (Jhz r x):=by
 have hfu:=h.fu
 unfold Qs9 Jhz
 rw [Q4s h,Qaa,Q1t,Q01 h,Qaa]
 cases hc:Qhg r==0
 · have:(Qhg r != 0)=true:=by simp only [bne,hc]; rfl
   rw [this]
   cases Qt1 r x.qY <;> rfl
 · have hc':Qhg r=0:=by simpa using hc
   rw [show (Qhg r != 0)=false by simp [hc'],cond_false]
   cases ht:Qt1 r x.qY with
   | none=>rfl
   | some t =>
    unfold Qsq
    rw [Jmn h _ hl (by omega)]
    simp only [Option.isSome_some,Bool.not_true,cond_false,cond_true,Qaa,Qyi,Q70 hc' ht _ hl]
theorem Jk5 {fu:Nat} {r:Request} (h:Sm fu r) (x:Carton) (hl:x.fO.length≤1048576):Qtb fu r x=some (Q64 r x):=by
 unfold Qtb Q64
 rw [Qzn h,Qaa,Q1t]
 cases ht:Qt1 r x.qY with
 | none=>rfl
 | some t =>
  rw [Qu8 h]
  simp only [Option.isSome_some,Bool.not_true,cond_false,Qaa]
  cases hc:Qhg r==0
  · rfl
  · unfold Qsr
    rw [Jf8 h x hl]
    simp only [Jhz,ht,hc,Bool.not_true,cond_false,cond_true,Qaa,Qyi]
theorem Jjn {fu:Nat} {r:Request} (h:Sm fu r) (x:Carton) (hl:x.fO.length≤1048576):Qth fu r x=some (Q64 r x):=by
 unfold Qth Q64
 rw [Q4s h,Qaa,Q1t,Q01 h,Qaa]
 cases hc:Qhg r==0
 · have:(Qhg r != 0)=true:=by simp only [bne,hc]; rfl
   rw [this]
   cases Qt1 r x.qY <;> rfl
 · have hc':Qhg r=0:=by simpa using hc
   rw [show (Qhg r != 0)=false by simp [hc'],cond_false]
   cases ht:Qt1 r x.qY with
   | none=>rfl
   | some t =>
    unfold Qss
    rw [Jgo h x hl]
    simp only [Jhz,ht,hc,Option.isSome_some,Bool.not_true,cond_false,cond_true,Qaa,Qyi]
theorem Jfv (fu:Nat) (n:Int):Qhu fu n=some (inb n 0 2000):=by unfold Qhu; rw [Q1u]; rfl
def Jb9 (n:Int) (s:Spot):Int:=bif inb s.fJ 0 999999 then (if s.fJ+1>n then s.fJ+1 else n) else n
def Jef (l:List Spot):Int:=l.foldl Jb9 0
theorem Jf6 {n:Int} (s:Spot) (h:0≤n∧n≤1000000):0≤Jb9 n s∧Jb9 n s≤1000000:=by
 unfold Jb9
 cases hi:inb s.fJ 0 999999
 · exact h
 · have:=Qcb.1 hi
   simp only [cond_true]
   split <;> omega
theorem Jah:∀ (l:List Spot) {n:Int},0≤n∧n≤1000000→0≤l.foldl Jb9 n∧l.foldl Jb9 n≤1000000
 | [],_,h=>h
 | s::l,_,h=>Jah l (Jf6 s h)
theorem Jb0 (l:List Spot):0≤Jef l∧Jef l≤1000000:=Jah l (by omega)
theorem Jjg {fu:Nat} {l:List Spot} (hl:l.length≤1048576) (hf:l.length<fu):Qlg fu l=some (Jef l):=by
 unfold Qlg
 have key:=lp l (λn (s:Int) i=>Qev fu l n s i) (λl s=>some (l.foldl Jb9 s)) (by omega) ?_ ?_ fu 0 hf
 · exact key
 · intro n s i x xs hx hd ih
   simp only [Qev.eq_2]
   unfold Qmh Qj1
   simp only [hd,cond_true,hx,Qaa,Q1u,ih,List.foldl_cons]
   unfold Jb9
   cases hi:inb x.fJ 0 999999
   · rfl
   · have:=Qcb.1 hi
     simp only [cond_true]
     rw [Qam (by omega) (by omega)]
 · intro n s i hd
   simp only [Qev.eq_2]
   unfold Qmh
   simp only [hd,cond_false]
   rfl
theorem Jc8 (fu:Nat) (a b:Int):Qjt fu a b=some (if a>b then a else b):=by
 unfold Qjt
 by_cases h:a>b
 · simp [h]
 · simp [h]
theorem Jim {fu:Nat} {l:List Spot} (hl:l.length≤1048576) (hf:l.length<fu):Qqf fu l=some (Jef l):=by
 unfold Qqf
 have key:=lp l (λn (s:Int) i=>Qez fu l n s i) (λl s=>some (l.foldl Jb9 s)) (by omega) ?_ ?_ fu 0 hf
 · exact key
 · intro n s i x xs hx hd ih
   simp only [Qez.eq_2]
   unfold Qmy Qkh
   simp only [hd,cond_true,hx,Qaa,Q0b,Jc8,ih,List.foldl_cons]
   unfold Jb9
   cases hi:inb x.fJ 0 999999
   · rfl
   · have:=Qcb.1 hi
     simp only [cond_true]
     rw [Qam (by omega) (by omega)]
     congr 2
     split <;> split <;> omega
 · intro n s i hd
   simp only [Qez.eq_2]
   unfold Qmy
   simp only [hd,cond_false]
   rfl
def Jhw (g:List Int→Bool) (out:List (List Int)) (u:Int):List (List Int):=match Qyg g out with
 | some i=>match out[i]? with
  | some x=>out.set i (x++[u])
  | none=>out
 | none=>out++[[u]]
def Q3x (r:Request) (u:Int) (l:List Int):Bool:=Q4h r (l++[u]) (Qxp r)
def Jhv (r:Request) (out:List (List Int)) (u:Int):List (List Int):=Jhw (Q3x r u) out u
def Q8l (r:Request) (out:List (List Int)) (u:Int):List (List Int):=match out.getLast? with
 | some l=>bif Q3x r u l then out.set (out.length - 1) (l++[u]) else out++[[u]]
 | none=>[[u]]
theorem Qzl {r:Request} {out:List (List Int)} {l:List Int} (u:Int) (h:out.getLast? = some l):Q8l r out u=bif Q3x r u l then out.set (out.length - 1) (l++[u]) else out++[[u]]:=by unfold Q8l; rw [h]
def Jeu (r:Request) (us:List Int):List Int:=(srt (dnk (us.map λu=>Qxk r [u])) us.length).map λp=>(ix us p).getD 0
def nfM (r:Request) (us:List Int):List (List Int):=(Qvs r us).foldl (Q8l r) []
def ffM (r:Request) (us:List Int):List (List Int):=(Jeu r (Qvs r us)).foldl (Jhv r) []
def pwM (r:Request) (us:List Int):List (List Int):=bif r.f0==1 then nfM r us else ffM r us
theorem Q5c {g:List Int→Bool} {out:List (List Int)} {n:Nat} (u:Int) (h:okG n out):okG (n+1) (Jhw g out u):=by
 obtain ⟨h1,h2⟩:=h
 unfold Jhw
 split
 · rename_i i hi
   split
   · rename_i x hx
     refine ⟨by simp; omega,λl hl=>?_⟩
     rcases List.mem_or_eq_of_mem_set hl with hl | rfl
     · have:=h2 l hl; omega
     · have:=h2 x (List.mem_of_getElem? hx); simp; omega
   · exact ⟨by omega,λl hl=>by have:=h2 l hl; omega⟩
 · refine ⟨by simp; omega,λl hl=>?_⟩
   rcases List.mem_append.1 hl with hl | hl
   · have:=h2 l hl; omega
   · rw [List.mem_singleton.1 hl]; simp
theorem Q5z {r:Request} {out:List (List Int)} {n:Nat} (u:Int) (h:okG n out):okG (n+1) (Q8l r out u):=by
 obtain ⟨h1,h2⟩:=h
 unfold Q8l
 split
 · rename_i x hx
   have hm:=List.mem_of_getLast? hx
   cases Q3x r u x
   · refine ⟨by simp; omega,λl hl=>?_⟩
     rcases List.mem_append.1 hl with hl | hl
     · have:=h2 l hl; omega
     · rw [List.mem_singleton.1 hl]; simp
   · refine ⟨by simp; omega,λl hl=>?_⟩
     rcases List.mem_or_eq_of_mem_set hl with hl | rfl
     · have:=h2 l hl; omega
     · have:=h2 x hm; simp; omega
 · exact ⟨by simp,λl hl=>by rw [List.mem_singleton.1 hl]; simp⟩
theorem Q5y {F:List (List Int)→Int→List (List Int)} (hF:∀ out n u,okG n out→okG (n+1) (F out u)):∀ (l:List Int) {out:List (List Int)} {n:Nat},okG n out→okG (n+l.length) (l.foldl F out)
 | [],_,_,h=>h
 | u::l,out,n,h=>by
  have:=Q5y hF l (hF out n u h)
  rw [List.foldl_cons,List.length_cons,show n+(l.length+1)=n+1+l.length by omega]
  exact this
theorem Jio {r:Request} {us:List Int} (h:us.length≤12):(Qvs r us).length≤12:=Nat.le_trans (Qwb r us) h
theorem Jcm (r:Request) (us:List Int):(Jeu r us).length=us.length:=by simp [Jeu,Qtu]
theorem Q7x {r:Request} {us:List Int} (h:us.length≤12):okG 12 (pwM r us):=by
 have ht:=Jio (r:=r) h
 have h0:okG 0 ([]:List (List Int)):=⟨by simp,by simp⟩
 unfold pwM
 cases r.f0==1
 · have:=Q5y (F:=Jhv r) (λout n u ho=>Q5c u ho) (Jeu r (Qvs r us)) h0
   rw [Jcm] at this
   exact ⟨by have:=this.1; simp only [cond_false]; unfold ffM; omega,λl hl=>by have:=this.2 l hl; omega⟩
 · have:=Q5y (F:=Q8l r) (λout n u ho=>Q5z u ho) (Qvs r us) h0
   exact ⟨by have:=this.1; simp only [cond_true]; unfold nfM; omega,λl hl=>by have:=this.2 l hl; omega⟩
theorem Q82 {g:List Int→Bool} {out:List (List Int)} {c:Int} {n:Nat} (h:okG n out) (hn:n≤1048576) {β:Type} (k:List (List Int)→Option β) (a:Int) (ha:a=match Qyg g out with | some i=>(i:Int) | none=>-1) :
    (bif (decide (a<0)) then Qab (Qc7 24 out [([c]:List Int)]) λx=>k x else Qab (ix out a) λx=>Qab (Qc7 8 x (([c]:List Int))) λy=>Qab (ix out a) λz=>k (Qi0 out a y))=k (Jhw g out c):=by
 obtain ⟨h1,h2⟩:=h
 unfold Jhw
 cases hf:Qyg g out with
 | none =>
  rw [hf] at ha
  simp only at ha
  subst ha
  rw [Qao (by simp),ap1 (by simp; omega),Qaa]
 | some i =>
  rw [hf] at ha
  simp only at ha
  subst ha
  obtain ⟨x,hx,_⟩:=Qzu hf
  have:=h2 x (List.mem_of_getElem? hx)
  rw [Qaf (by simp),Qh3,hx,Qaa,ap1 (by simp; omega),Qaa,Qaa]
  simp [Qi0,hx]
theorem Q2s {r:Request} (h:(Qhg r==0)=false) (us:List Int):Qvs r us=[]:=by
 unfold Qvs Qi6
 rw [h]
 apply List.filter_eq_nil_iff.2
 intro u _
 simp; omega
theorem Jck {fu:Nat} {r:Request} (h:Sm fu r) (hc:Qhg r=0):Qcs fu r=some (Qi6 r):=Jjx h hc
theorem Qu4 {α:Type} {out:List α} (h:out≠[]):∃ l,out.getLast? = some l∧ix out ((out.length:Int) - 1)=some l:=by
 cases hl:out.getLast? with
 | none=>exact absurd (List.getLast?_eq_none_iff.1 hl) h
 | some l =>
  have hp:=List.length_pos_iff.2 h
  refine ⟨l,rfl,?_⟩
  rw [show (out.length:Int) - 1=((out.length - 1:Nat):Int) by omega,Qh3,← List.getLast?_eq_getElem?,hl]
theorem Jik {fu:Nat} {r:Request} (h:Sm fu r) (us:List Int) (hl:us.length≤1048575):Qqk fu r us=some (nfM r us):=by
 have hfu:=h.fu
 have htl:=Qwb r us
 unfold Qqk nfM
 rw [Q5v h us (by omega),Qaa]
 cases hc:Qhg r==0
 · rw [Q2s hc]
   obtain ⟨m,rfl⟩:∃ m,fu=m+1:=⟨fu - 1,by omega⟩
   rw [Qea.eq_2]; rfl
 · have key:=lpI (Qvs r us) (λn (o:List (List Int)) i=>Qea fu r (Qvs r us) n o i) (λxs o=>some (xs.foldl (Q8l r) o)) (λxs o=>∃ m,m+xs.length≤1048575∧okG m o) (by omega) ?_ ?_ fu [] ⟨0,by omega,by simp,by simp⟩ (by omega)
   · exact key
   · intro n o i u xs hx hd hI ih
     obtain ⟨m,hm,ho⟩:=hI
     simp only [List.length_cons] at hm
     have h1:=ho.1
     have h2:=ho.2
     have hI':=ih (Q8l r o u) ⟨m+1,by omega,Q5z u ho⟩
     simp only [Qea.eq_2]
     unfold Qmp Qh2
     rw [hd,cond_true,hx,Qaa,List.foldl_cons,← hI',Qam (by omega) (by omega)]
     by_cases he:o=[]
     · subst he
       rw [decide_eq_false (by simp),cond_false,ap1 (by simp),Qaa]; rfl
     · obtain ⟨l,e1,e2⟩:=Qu4 he
       have hp:=List.length_pos_iff.2 he
       have hll:=h2 l (List.mem_of_getLast? e1)
       rw [decide_eq_true (by omega),cond_true,e2,Qaa,Q83 h l u (by omega),Qaa,hc,Bool.true_and]
       rw [Qzl u e1]
       unfold Q3x
       cases Q4h r (l++[u]) (Qxp r)
       · rw [cond_false,cond_false,ap1 (by simp; omega),Qaa]
       · rw [cond_true,cond_true,Qaa,ap1 (by simp; omega),Qaa,Qaa]
         rw [show Qi0 o ((o.length:Int) - 1) (l++[u])=o.set (o.length - 1) (l++[u]) by unfold Qi0; congr 1; omega]
   · intro n o i hd _
     simp only [Qea.eq_2]
     unfold Qmp
     rw [hd,cond_false]; rfl
theorem Jiv {fu:Nat} {r:Request} (h:Sm fu r) (us:List Int) (hl:us.length≤1048575):Qqr fu r us=some (nfM r us):=by
 have hfu:=h.fu
 have htl:=Qwb r us
 unfold Qqr nfM
 rw [Q01 h,Qaa]
 cases hc:Qhg r==0
 · rw [show (Qhg r != 0)=true by simp only [bne,hc]; rfl,cond_true,Q2s hc]; rfl
 · have hz:Qhg r=0:=by simpa using hc
   rw [show (Qhg r != 0)=false by simp [hz],cond_false,Jck h hz,Qaa,Q9h h us (by omega),Qaa]
   unfold Quc
   rw [Q84 h,Qaa,Jck h hz,Qaa]
   have key:=lpI (Qvs r us) (λn (o:List (List Int)) i=>Qgb fu r (Qvs r us) (Qyi (Qt1 r r.fT)) (Qi6 r) n o i) (λxs o=>some (xs.foldl (Q8l r) o)) (λxs o=>∃ m,m+xs.length≤1048575∧okG m o) (by omega) ?_ ?_ fu [] ⟨0,by omega,by simp,by simp⟩ (by omega)
   · rw [key]; rfl
   · intro n o i u xs hx hd hI ih
     obtain ⟨m,hm,ho⟩:=hI
     simp only [List.length_cons] at hm
     have h1:=ho.1
     have h2:=ho.2
     have hI':=ih (Q8l r o u) ⟨m+1,by omega,Q5z u ho⟩
     simp only [Qgb.eq_2]
     unfold Qoz Qip
     rw [hd,cond_true,List.foldl_cons,← hI',Qam (by omega) (by omega)]
     by_cases he:o=[]
     · subst he
       rw [decide_eq_false (by simp),cond_false,hx,Qaa,ap1 (by simp),Qaa]; rfl
     · obtain ⟨l,e1,e2⟩:=Qu4 he
       have hp:=List.length_pos_iff.2 he
       have hll:=h2 l (List.mem_of_getLast? e1)
       rw [decide_eq_true (by omega),cond_true,e2,Qaa,hx,Qaa,Je6,Q7f r _ l u (by omega) (by omega),Qaa]
       rw [Qzl u e1]
       unfold Q3x
       cases Q4h r (l++[u]) (Qxp r)
       · rw [cond_false,cond_false,Qaa,ap1 (by simp; omega),Qaa]
       · rw [cond_true,cond_true,Qaa,Qaa,ap1 (by simp; omega),Qaa,Qaa]
         rw [show Qi0 o ((o.length:Int) - 1) (l++[u])=o.set (o.length - 1) (l++[u]) by unfold Qi0; congr 1; omega]
   · intro n o i hd _
     simp only [Qgb.eq_2]
     unfold Qoz
     rw [hd,cond_false]; rfl
theorem Q9f {us:List Int} {p:Int} (h:0≤p∧p<us.length):ix us p=some ((ix us p).getD 0):=by
 have:=Qz2 (l:=us) (i:=p.toNat) (by omega)
 rw [show ((p.toNat:Nat):Int)=p by omega] at this
 rw [this]; rfl
theorem Qwv {α β γ:Type} (f:γ→β→γ) (g:α→β):∀ (l:List α) (s:γ),(l.map g).foldl f s=l.foldl (λs x=>f s (g x)) s
 | [],_=>rfl
 | x::l,s=>by rw [List.map_cons,List.foldl_cons,List.foldl_cons,Qwv f g l]
theorem Jhc {fu:Nat} {r:Request} (h:Sm fu r) (us:List Int) (hl:us.length<20):Qof fu r us=some (ffM r us):=by
 have hfu:=h.fu
 have htl:=Qwb r us
 unfold Qof ffM Jeu
 rw [Q5v h us (by omega),Qaa]
 obtain ⟨t,ht⟩:∃ t,t=Qvs r us:=⟨_,rfl⟩
 rw [← ht] at htl ⊢
 have key:=lpI t (λn (o:List Int) i=>Qft fu r t n o i) (λxs o=>Qab (Qg4 fu (o++xs.map λu=>Qxk r [u])) λx=>Qck fu r t x fu [] 0) (λxs o=>o.length+xs.length≤20) (by omega) ?_ ?_ fu [] (by simp; omega) (by omega)
 · rw [key,List.nil_append,Jd8 hfu (by simp; omega),Qaa,Qwv,List.length_map]
   have hsl:=Qtu (dnk (t.map λu=>Qxk r [u])) t.length
   have hsm:=λx=>Qxd (k:=dnk (t.map λu=>Qxk r [u])) (n:=t.length) (x:=x)
   generalize srt (dnk (t.map λu=>Qxk r [u])) t.length=S at hsl hsm ⊢
   cases hc:Qhg r==0
   · have:t=[]:=by rw [ht]; exact Q2s hc us
     subst this
     have:S=[]:=List.length_eq_zero_iff.1 (by simpa using hsl)
     subst this
     obtain ⟨m,rfl⟩:∃ m,fu=m+1:=⟨fu - 1,by omega⟩
     rw [Qck.eq_2]; rfl
   · have key1:=lpI S (λn (o:List (List Int)) i=>Qck fu r t S n o i) (λxs o=>some (xs.foldl (λs p=>Jhv r s ((ix t p).getD 0)) o)) (λxs o=>(∃ m,m+xs.length≤20∧okG m o)∧∀ p∈xs,0≤p∧p<t.length) (by omega) ?_ ?_ fu [] ⟨⟨0,by omega,by simp,by simp⟩,λp hp=>(hsm p).1 hp⟩ (by omega)
     · exact key1
     · intro n o i p xs hx hd hI ih
       obtain ⟨⟨m,hm,ho⟩,hin⟩:=hI
       simp only [List.length_cons] at hm
       have hp:=Q9f (hin p (by simp))
       simp only [Qck.eq_2]
       unfold Qk6 Qi1
       rw [hd,cond_true,hx,Qaa,hp,Qaa,List.foldl_cons]
       generalize (ix t p).getD 0=u
       rw [Q4j (λy=>Qj2 fu y r u) (Q3x r u) (λl hl=>by
        have:=ho.2 l hl
        unfold Qj2 Q3x
        rw [Q83 h l u (by omega),Qaa,hc,Bool.true_and]) (by have:=ho.1; omega) (by have:=ho.1; omega),Qaa]
       refine (Q82 (g:=Q3x r u) (c:=u) ho (by omega) (λx=>Qck fu r t S n x (w64 (i+1))) (Qxf (Q3x r u) o 0) (by
        rw [Q2o]
        cases Qyg (Q3x r u) o <;> simp)).trans ?_
       exact ih _ ⟨⟨m+1,by omega,Q5c u ho⟩,λq hq=>hin q (by simp [hq])⟩
     · intro n o i hd _
       simp only [Qck.eq_2]
       unfold Qk6
       rw [hd,cond_false]; rfl
 · intro n o i u xs hx hd hI ih
   simp only [List.length_cons] at hI
   simp only [Qft.eq_2]
   unfold Qkp
   rw [hd,cond_true,hx,Qaa,Q9y h [u] (by simp) (by simp; omega),Qaa,ap1 (by simp; omega),Qaa,ih _ (by simp; omega)]
   simp
 · intro n o i hd _
   simp only [Qft.eq_2]
   unfold Qkp
   rw [hd,cond_false]; simp
theorem Jfw {fu:Nat} {r:Request} (h:Sm fu r) (us:List Int) (hl:us.length<20):Qpe fu r us=some (ffM r us):=by
 have hfu:=h.fu
 have htl:=Qwb r us
 unfold Qpe ffM Jeu
 rw [Q01 h,Qaa]
 cases hc:Qhg r==0
 · rw [show (Qhg r != 0)=true by simp only [bne,hc]; rfl,cond_true,Q2s hc]; rfl
 · have hz:Qhg r=0:=by simpa using hc
   rw [show (Qhg r != 0)=false by simp [hz],cond_false,Jck h hz,Qaa,Q9h h us (by omega),Qaa]
   unfold Qtx
   rw [Q84 h,Qaa,Jck h hz,Qaa]
   generalize Qvs r us=t at htl ⊢
   have key:=lpI t (λn (o:List Int) i=>Qgy fu r t (Qyi (Qt1 r r.fT)) (Qi6 r) n o i) (λxs o=>Qab (Qhb fu (o++xs.map λu=>Qxk r [u])) λx=>Qcg fu r t (Qyi (Qt1 r r.fT)) (Qi6 r) x fu [] 0) (λxs o=>o.length+xs.length≤20) (by omega) ?_ ?_ fu [] (by simp; omega) (by omega)
   · rw [key,List.nil_append,Jeq hfu (by simp; omega),Qaa,Qwv,List.length_map]
     have hsl:=Qtu (dnk (t.map λu=>Qxk r [u])) t.length
     have hsm:=λx=>Qxd (k:=dnk (t.map λu=>Qxk r [u])) (n:=t.length) (x:=x)
     generalize srt (dnk (t.map λu=>Qxk r [u])) t.length=S at hsl hsm ⊢
     have key1:=lpI S (λn (o:List (List Int)) i=>Qcg fu r t (Qyi (Qt1 r r.fT)) (Qi6 r) S n o i) (λxs o=>some (xs.foldl (λs p=>Jhv r s ((ix t p).getD 0)) o)) (λxs o=>(∃ m,m+xs.length≤20∧okG m o)∧∀ p∈xs,0≤p∧p<t.length) (by omega) ?_ ?_ fu [] ⟨⟨0,by omega,by simp,by simp⟩,λp hp=>(hsm p).1 hp⟩ (by omega)
     · rw [key1]; rfl
     · intro n o i p xs hx hd hI ih
       obtain ⟨⟨m,hm,ho⟩,hin⟩:=hI
       simp only [List.length_cons] at hm
       have hp:=Q9f (hin p (by simp))
       have ho1:=ho.1
       simp only [Qcg.eq_2]
       unfold Qmf
       rw [hd,cond_true,hx,Qaa,hp,Qaa,List.foldl_cons]
       generalize (ix t p).getD 0=u
       obtain ⟨K,hK⟩:∃ K,K=Qcg fu r t (Qyi (Qt1 r r.fT)) (Qi6 r) S n:=⟨_,rfl⟩
       rw [← hK] at ih ⊢
       obtain ⟨R,hR⟩:∃ R:Int→Option (List (List Int)),R=λa=>bif (decide (a<0)) then Qab (Qc7 24 o [([u]:List Int)]) λx=>K x (w64 (i+1)) else Qab (ix o a) λx=>Qab (Qc7 8 x (([u]:List Int))) λy=>Qab (ix o a) λz=>K (Qi0 o a y) (w64 (i+1)):=⟨_,rfl⟩
       have hD:=lpD o.length (λn a j=>Qfb fu K r (Qyi (Qt1 r r.fT)) (Qi6 r) o i u n a j) (λxs a=>R (xs.foldl (Jen (Q3x r u) o) a)) (by omega) ?_ ?_ fu (-1) (by omega)
       · rw [hD,hR]
         refine (Q82 (g:=Q3x r u) (c:=u) ho (by omega) (λx=>K x (w64 (i+1))) _ ?_).trans (ih _ ⟨⟨m+1,by omega,Q5c u ho⟩,λq hq=>hin q (by simp [hq])⟩)
         rw [Qy5 (Q3x r u) o o.length (-1) (Nat.le_refl _),List.take_length]
         cases Qyg (Q3x r u) o <;> rfl
       · intro n a j xs h0 h1 hd ih
         simp only [Qfb.eq_2]
         unfold Qmv Qkf
         obtain ⟨j,rfl⟩:∃ q:Nat,j=q:=⟨j.toNat,by omega⟩
         have hj:j<o.length:=by omega
         have hg:=ho.2 _ (List.getElem_mem hj)
         rw [hd,cond_true,Qz2 hj,Qaa,Je6,Q7f r _ _ u (by omega) (by omega),Qaa]
         have e:Jen (Q3x r u) o a (j:Int)=bif Q4h r (o[j]++[u]) (Qxp r) then (j:Int) else a:=by unfold Jen atB Q3x; rw [Qz2 hj]
         simp only [ih,List.foldl_cons,e]
         cases Q4h r (o[j]++[u]) (Qxp r) <;> rfl
       · intro n a j hd
         simp only [Qfb.eq_2]
         unfold Qmv Qjv
         rw [hd,cond_false,hR]; rfl
     · intro n o i hd _
       simp only [Qcg.eq_2]
       unfold Qmf
       rw [hd,cond_false]; rfl
   · intro n o i u xs hx hd hI ih
     simp only [List.length_cons] at hI
     obtain ⟨i0,i1,i2⟩:=Qah hx
     have e:sls t i (w64 (i+1))=some [u]:=by
      rw [Qam (by omega) (by omega),Qor (by omega)]
      congr 1
      rw [show (i+1).toNat - i.toNat=1 by omega]
      have hlt:=(List.getElem?_eq_some_iff.1 i2).1
      have heq:=(List.getElem?_eq_some_iff.1 i2).2
      rw [List.drop_eq_getElem_cons hlt,heq]; rfl
     simp only [Qgy.eq_2]
     unfold Qmo
     rw [hd,cond_true,e,Qaa,Q9o r [u] (by simp) (by simp; omega),Qaa,ap1 (by simp; omega),Qaa,ih _ (by simp; omega)]
     simp
   · intro n o i hd _
     simp only [Qgy.eq_2]
     unfold Qmo
     rw [hd,cond_false]; simp
theorem Jm9 {fu:Nat} {r:Request} (h:Sm fu r) (us:List Int) (hl:us.length<20):Qqs fu r us=some (pwM r us):=by
 unfold Qqs pwM
 rw [Jik h us (by omega),Jhc h us hl]
 cases r.f0==1 <;> rfl
theorem Jlv {fu:Nat} {r:Request} (h:Sm fu r) (us:List Int) (hl:us.length<20):Qqv fu r us=some (pwM r us):=by
 unfold Qqv pwM
 rw [Jiv h us (by omega),Jfw h us hl]
 cases r.f0==1 <;> rfl
theorem Q5w {α:Type} {l:List α} {i:Int} (h0:0≤i) (h1:i<l.length):∃ x,ix l i=some x:=by
 obtain ⟨j,rfl⟩:∃ j:Nat,i=j:=⟨i.toNat,by omega⟩
 exact ⟨_,Qz2 (by omega)⟩
def Jdg (p:Pallet) (b:Box):Bool:=inb b.fW 1 p.fW&&(inb b.fD 1 p.fD&&(inb b.fH 1 p.fH&&inb b.fQ 1 p.fQ))
def Q0a (p:Pallet) (l:List Box):Bool:=Qvu p&&l.all (Jdg p)
theorem Jjc {fu:Nat} (p:Pallet) (l:List Box) (hl:l.length≤1048576) (hf:l.length<fu):Qlc fu p l=some (Q0a p l):=by
 unfold Qlc Q0a
 rw [Jc6,Qaa]
 cases Qvu p
 · rfl
 · rw [Bool.not_true,cond_false,Bool.true_and]
   have:=Jfd l (λn i=>Qe3 fu p l n i) (Jdg p) (some true) (by omega) ?_ ?_ fu hf
   · rw [this]
     cases l.all (Jdg p) <;> rfl
   · intro n i x hx hd
     simp only [Qe3.eq_2]
     unfold Qmm Qpj Jdg
     simp only [hd,cond_true,hx,Qaa,Q0b]
     cases inb x.fW 1 p.fW <;> cases inb x.fD 1 p.fD <;> cases inb x.fH 1 p.fH <;> cases inb x.fQ 1 p.fQ <;> rfl
   · intro n i hd
     simp only [Qe3.eq_2]
     unfold Qmm
     rw [hd,cond_false]
def nxG {σ:Type} (fits:σ→Bool) (add:σ→σ) (z:σ) (out:List σ):List σ:=match out.getLast? with
 | some s=>bif fits s then out.set (out.length - 1) (add s) else out++[add z]
 | none=>[add z]
theorem Qvb {σ:Type} {fits:σ→Bool} {add:σ→σ} {z:σ} {out:List σ} {s:σ} (h:out.getLast? = some s):nxG fits add z out=bif fits s then out.set (out.length - 1) (add s) else out++[add z]:=by unfold nxG; rw [h]
theorem Qui {σ:Type} (fits:σ→Bool) (add:σ→σ) (z:σ) (out:List σ):(nxG fits add z out).length≤out.length+1:=by
 unfold nxG
 split
 · cases fits _ <;> simp
 · simp
theorem Q5g {σ:Type} {fits:σ→Bool} {add:σ→σ} {z:σ} {out:List σ} {I:σ→Prop} (h:∀ s∈out,I s) (ha:∀ s,I s→fits s=true→I (add s)) (hz:I (add z)):∀ s∈nxG fits add z out,I s:=by
 intro s hs
 unfold nxG at hs
 split at hs
 · rename_i x hx
   have hm:=List.mem_of_getLast? hx
   cases hf:fits x
   · rw [hf,cond_false] at hs
     rcases List.mem_append.1 hs with hs | hs
     · exact h s hs
     · rw [List.mem_singleton.1 hs]; exact hz
   · rw [hf,cond_true] at hs
     rcases List.mem_or_eq_of_mem_set hs with hs | rfl
     · exact h s hs
     · exact ha x (h x hm) hf
 · rw [List.mem_singleton.1 hs]; exact hz
theorem Qrz {σ:Type} {fits:σ→Bool} {add:σ→σ} {z:σ} {out:List σ} {f:σ→List Int} {i:Int} (ha:∀ s,f (add s)=f s++[i]) (hz:f z=[]):((nxG fits add z out).map f).flatten=(out.map f).flatten++[i]:=by
 unfold nxG
 split
 · rename_i x hx
   cases fits x
   · rw [cond_false,List.map_append,List.flatten_append]
     simp [ha,hz]
   · rw [cond_true]
     have hne:out≠[]:=by intro e; rw [e] at hx; simp at hx
     have e:out=out.dropLast++[x]:=by
      have h1:=List.dropLast_concat_getLast hne
      rw [List.getLast?_eq_some_getLast hne] at hx
      rw [Option.some.inj hx] at h1
      exact h1.symm
     obtain ⟨d,hd⟩:∃ d,out=d++[x]:=⟨_,e⟩
     rw [hd]
     simp [ha]
 · rename_i hx
   have:out=[]:=List.getLast?_eq_none_iff.1 hx
   subst this
   simp [ha,hz]
def mxI (a b:Int):Int:=if a>b then a else b
theorem Q1v (a b:Int):a≤mxI a b∧b≤mxI a b∧(mxI a b=a∨mxI a b=b):=by unfold mxI; split <;> omega
def zBx:Box:=⟨0,0,0,0⟩
def bxA (l:List Box) (i:Int):Box:=(ix l i).getD zBx
def zSh:Shelf:=⟨[],0,0,0,0⟩
def Qri (s:Shelf) (i:Int) (b:Box):Shelf:=⟨s.fM++[i],s.fW+b.fW,mxI s.fD b.fD,mxI s.fH b.fH,s.fQ+b.fQ⟩
def Q74 (p:Pallet) (b:Box) (s:Shelf):Bool:=decide (s.fW+b.fW≤p.fW)&&decide (s.fQ+b.fQ≤p.fQ)
def shS (p:Pallet) (l:List Box) (out:List Shelf) (i:Int):List Shelf:=nxG (Q74 p (bxA l i)) (λs=>Qri s i (bxA l i)) zSh out
def shM (p:Pallet) (l:List Box):List Shelf:=bif Q0a p l then (srt (dnk (l.map (·.fD))) l.length).foldl (shS p l) [] else []
structure ShI (p:Pallet) (n:Nat) (s:Shelf):Prop where
 ne:s.fM≠[]
 inn:∀ i∈s.fM,0≤i∧i<n
 w:1≤s.fW∧s.fW≤p.fW
 d:1≤s.fD∧s.fD≤p.fD
 h:1≤s.fH∧s.fH≤p.fH
 g:1≤s.fQ∧s.fQ≤p.fQ
theorem Q45 {p:Pallet} {l:List Box} (h:Q0a p l=true) {i:Int} (hi:0≤i∧i<l.length):ix l i=some (bxA l i)∧(1≤(bxA l i).fW∧(bxA l i).fW≤p.fW)∧(1≤(bxA l i).fD∧(bxA l i).fD≤p.fD)∧(1≤(bxA l i).fH∧(bxA l i).fH≤p.fH)∧(1≤(bxA l i).fQ∧(bxA l i).fQ≤p.fQ):=by
 obtain ⟨x,hx⟩:=Q5w (l:=l) hi.1 hi.2
 have e:bxA l i=x:=by unfold bxA; rw [hx]; rfl
 unfold Q0a at h
 simp only [Bool.and_eq_true] at h
 have:=List.all_eq_true.1 h.2 x (Qi2 hx)
 simp only [Jdg,Bool.and_eq_true,Qcb] at this
 rw [e]
 exact ⟨hx,this.1,this.2.1,this.2.2.1,this.2.2.2⟩
theorem Qxh {p:Pallet} (h:Qvu p=true):(1≤p.fW∧p.fW≤2000)∧(1≤p.fD∧p.fD≤2000)∧(1≤p.fH∧p.fH≤2000)∧(1≤p.fQ∧p.fQ≤100000):=by
 simp only [Qvu,Bool.and_eq_true,Qcb] at h
 exact ⟨h.1,h.2.1,h.2.2.1,h.2.2.2⟩
theorem Q20 {p:Pallet} {l:List Box} (h:Q0a p l=true):Qvu p=true:=by
 unfold Q0a at h
 simp only [Bool.and_eq_true] at h
 exact h.1
theorem Q5q {p:Pallet} {l:List Box} (hb:Q0a p l=true) {out:List Shelf} {i:Int} (hi:0≤i∧i<l.length) (h:∀ s∈out,ShI p l.length s):∀ s∈shS p l out i,ShI p l.length s:=by
 obtain ⟨_,b1,b2,b3,b4⟩:=Q45 hb hi
 refine Q5g h (λs hs hf=>?_) ⟨by simp [Qri],λj hj=>?_,?_,?_,?_,?_⟩
 · unfold Q74 at hf
   simp only [Bool.and_eq_true,decide_eq_true_eq] at hf
   obtain ⟨s1,s2,s3,s4,s5,s6⟩:=hs
   have m1:=Q1v s.fD (bxA l i).fD
   have m2:=Q1v s.fH (bxA l i).fH
   refine ⟨by simp [Qri],λj hj=>?_,?_,?_,?_,?_⟩
   · simp only [Qri,List.mem_append,List.mem_singleton] at hj
     rcases hj with hj | rfl
     · exact s2 j hj
     · exact hi
   · simp only [Qri]; omega
   · simp only [Qri]; omega
   · simp only [Qri]; omega
   · simp only [Qri]; omega
 · simp only [Qri,zSh,List.nil_append,List.mem_singleton] at hj
   rw [hj]; exact hi
 · simp only [Qri,zSh]; omega
 · have:=Q1v 0 (bxA l i).fD
   simp only [Qri,zSh]; omega
 · have:=Q1v 0 (bxA l i).fH
   simp only [Qri,zSh]; omega
 · simp only [Qri,zSh]; omega
theorem Jbx {p:Pallet} {l:List Box} (hb:Q0a p l=true):∀ (is:List Int) (out:List Shelf),(∀ i∈is,0≤i∧i<l.length)→(∀ s∈out,ShI p l.length s)→(∀ s∈is.foldl (shS p l) out,ShI p l.length s)∧((is.foldl (shS p l) out).map (·.fM)).flatten=(out.map (·.fM)).flatten++is∧(is.foldl (shS p l) out).length≤out.length+is.length
 | [],out,_,h=>⟨h,by simp,by simp⟩
 | i::is,out,hi,h=>by
  rw [List.foldl_cons]
  obtain ⟨h1,h2,h3⟩:=Jbx hb is (shS p l out i) (λj hj=>hi j (by simp [hj])) (Q5q hb (hi i (by simp)) h)
  have h4:((shS p l out i).map (·.fM)).flatten=(out.map (·.fM)).flatten++[i]:=Qrz (λs=>rfl) rfl
  have h5:(shS p l out i).length≤out.length+1:=Qui _ _ _ _
  refine ⟨h1,by rw [h2,h4]; simp,by simp; omega⟩
theorem Q23 {p:Pallet} {l:List Box} (hb:Q0a p l=true):(∀ s∈shM p l,ShI p l.length s)∧((shM p l).map (·.fM)).flatten=srt (dnk (l.map (·.fD))) l.length∧(shM p l).length≤l.length:=by
 unfold shM
 rw [hb,cond_true]
 obtain ⟨h1,h2,h3⟩:=Jbx hb (srt (dnk (l.map (·.fD))) l.length) [] (λi hi=>Qxd.1 hi) (by simp)
 refine ⟨h1,by simpa using h2,?_⟩
 rw [Qtu] at h3
 simpa using h3
theorem Jj3 {fu:Nat} (s:Shelf) (i:Int) (b:Box) (hl:s.fM.length≤1000000) (h1:-1000000000≤s.fW+b.fW∧s.fW+b.fW≤1000000000) (h2:-1000000000≤s.fQ+b.fQ∧s.fQ+b.fQ≤1000000000):Qgj fu s i b=some (Qri s i b):=by
 unfold Qgj
 rw [ap1 (by simp; omega),Qaa,ap1 (by simp; omega),Qaa,Jc8,Qaa,Jc8,Qaa,Qam (by omega) (by omega),Qam (by omega) (by omega)]
 rfl
theorem Qpt {σ:Type} (f:σ→List Int):∀ (l:List σ) (s:σ),s∈l→(f s).length≤((l.map f).flatten).length
 | [],_,h=>by simp at h
 | x::l,s,h=>by
  simp only [List.map_cons,List.flatten_cons,List.length_append]
  rcases List.mem_cons.1 h with rfl | h
  · omega
  · have:=Qpt f l s h; omega
theorem Jbc {fu:Nat} (hfu:2097153≤fu) (p:Pallet) (l:List Box) (hl:l.length≤1000):Qqe fu p l=some (shM p l):=by
 unfold Qqe shM
 rw [Jjc p l (by omega) (by omega),Qaa]
 cases hb:Q0a p l
 · rfl
 · rw [Bool.not_true,cond_false,cond_true]
   have key:=lpI l (λn (o:List Int) i=>Qgr fu p l n o i) (λxs o=>Qab (Qhb fu (o++xs.map (·.fD))) λx=>Qd8 fu p l x fu [] 0) (λxs o=>o.length+xs.length≤1000) (by omega) ?_ ?_ fu [] (by simp; omega) (by omega)
   · rw [key,List.nil_append,Jeq hfu (by simp; omega),Qaa,List.length_map]
     have hsl:=Qtu (dnk (l.map (·.fD))) l.length
     have hsm:=λx=>Qxd (k:=dnk (l.map (·.fD))) (n:=l.length) (x:=x)
     generalize srt (dnk (l.map (·.fD))) l.length=S at hsl hsm ⊢
     have L1:=lpI S (λn (o:List Shelf) i=>Qd8 fu p l S n o i) (λxs o=>some (xs.foldl (shS p l) o)) (λxs o=>(∀ i∈xs,0≤i∧i<l.length)∧(∀ s∈o,ShI p l.length s)∧((o.map (·.fM)).flatten).length+xs.length≤1000∧o.length+xs.length≤1000) (by omega) ?_ ?_ fu [] ⟨λi hi=>(hsm i).1 hi,by simp,by simp; omega,by simp; omega⟩ (by omega)
     · exact L1
     · intro n o i x xs hx hd hI ih
       obtain ⟨i1,i2,i3,i4⟩:=hI
       simp only [List.length_cons] at i3 i4
       have hxi:=i1 x (by simp)
       obtain ⟨hbx,b1,b2,b3,b4⟩:=Q45 hb hxi
       obtain ⟨p1,p2,p3,p4⟩:=Qxh (Q20 hb)
       have hn:Qgj fu zSh x (bxA l x)=some (Qri zSh x (bxA l x)):=Jj3 zSh x _ (by simp [zSh]) (by simp [zSh]; omega) (by simp [zSh]; omega)
       have hn':Qgj fu (⟨[],0,0,0,0⟩:Shelf) x (bxA l x)=some (Qri zSh x (bxA l x)):=hn
       have hflat:((shS p l o x).map (·.fM)).flatten=(o.map (·.fM)).flatten++[x]:=Qrz (λs=>rfl) rfl
       have hlen:(shS p l o x).length≤o.length+1:=Qui _ _ _ _
       have ih':=ih (shS p l o x) ⟨λj hj=>i1 j (by simp [hj]),Q5q hb hxi i2,by rw [hflat,List.length_append,List.length_singleton]; omega,by omega⟩
       simp only [Qd8.eq_2]
       unfold Qm5 Qgz
       rw [hd,cond_true,hx,Qaa,hbx,Qaa,List.foldl_cons,← ih',hn',Qaa]
       by_cases he:o=[]
       · subst he
         rw [Qaf (by simp),Qaa,ap1 (by simp),Qaa]; rfl
       · obtain ⟨s,e1,e2⟩:=Qu4 he
         have hp:=List.length_pos_iff.2 he
         have hsm':=List.mem_of_getLast? e1
         have hs:=i2 s hsm'
         have hsl':=Qpt (λs:Shelf=>s.fM) o s hsm'
         rw [Qam (n:=(o.length:Int) - 1) (by omega) (by omega),e2,Qaa,Qao (by simp; omega)]
         obtain ⟨s1,s2,s3,s4,s5,s6⟩:=hs
         rw [Qam (n:=s.fW+_) (by omega) (by omega),Qam (n:=s.fQ+_) (by omega) (by omega),Qaa,Qaa,Qaa,Jj3 (fu:=fu) s x (bxA l x) (by omega) (by omega) (by omega)]
         simp only [Qaa]
         rw [ap1 (by simp; omega),Qaa]
         have eS:shS p l o x=bif Q74 p (bxA l x) s then o.set (o.length - 1) (Qri s x (bxA l x)) else o++[Qri zSh x (bxA l x)]:=Qvb e1
         rw [eS]
         unfold Q74
         rw [show Qi0 o ((o.length:Int) - 1) (Qri s x (bxA l x))=o.set (o.length - 1) (Qri s x (bxA l x)) by unfold Qi0; congr 1; omega]
         cases decide (s.fW+(bxA l x).fW≤p.fW) <;> cases decide (s.fQ+(bxA l x).fQ≤p.fQ) <;> rfl
     · intro n o i hd _
       simp only [Qd8.eq_2]
       unfold Qm5
       rw [hd,cond_false]; rfl
   · intro n o i x xs hx hd hI ih
     simp only [List.length_cons] at hI
     simp only [Qgr.eq_2]
     unfold Qmw
     rw [hd,cond_true,hx,Qaa,ap1 (by simp; omega),Qaa,ih _ (by simp; omega)]
     simp
   · intro n o i hd _
     simp only [Qgr.eq_2]
     unfold Qmw
     rw [hd,cond_false]; simp
def okL (p:Pallet) (d h g:Int):Bool:=inb d 1 p.fD&&(inb h 1 p.fH&&inb g 1 p.fQ)
theorem Jkz (fu:Nat) (p:Pallet) (d h g:Int):Qq6 fu p d h g=some (okL p d h g):=by
 unfold Qq6 okL
 simp only [Q0b,Qaa]
 cases inb d 1 p.fD <;> cases inb h 1 p.fH <;> rfl
theorem Jmc {fu:Nat} (p:Pallet) (l:List Shelf) (hl:l.length≤1048576) (hf:l.length<fu):Qlo fu p l=some (Qvu p&&l.all λs=>okL p s.fD s.fH s.fQ):=by
 unfold Qlo
 rw [Jc6,Qaa]
 cases Qvu p
 · rfl
 · rw [Bool.not_true,cond_false,Bool.true_and]
   have:=Jfd l (λn i=>Qfa fu p l n i) (λs=>okL p s.fD s.fH s.fQ) (some true) (by omega) ?_ ?_ fu hf
   · rw [this]
     cases l.all λs=>okL p s.fD s.fH s.fQ <;> rfl
   · intro n i x hx hd
     simp only [Qfa.eq_2]
     unfold Qjp
     simp only [hd,cond_true,hx,Qaa,Jkz]
     cases okL p x.fD x.fH x.fQ <;> rfl
   · intro n i hd
     simp only [Qfa.eq_2]
     unfold Qjp
     rw [hd,cond_false]
theorem Jnf {fu:Nat} (p:Pallet) (l:List Layer) (hl:l.length≤1048576) (hf:l.length<fu):Qpd fu p l=some (Qvu p&&l.all λs=>okL p s.fD s.fH s.fQ):=by
 unfold Qpd
 rw [Jc6,Qaa]
 cases Qvu p
 · rfl
 · rw [Bool.not_true,cond_false,Bool.true_and]
   have:=Jfd l (λn i=>Qfy fu p l n i) (λs=>okL p s.fD s.fH s.fQ) (some true) (by omega) ?_ ?_ fu hf
   · rw [this]
     cases l.all λs=>okL p s.fD s.fH s.fQ <;> rfl
   · intro n i x hx hd
     simp only [Qfy.eq_2]
     unfold Qk0
     simp only [hd,cond_true,hx,Qaa,Jkz]
     cases okL p x.fD x.fH x.fQ <;> rfl
   · intro n i hd
     simp only [Qfy.eq_2]
     unfold Qk0
     rw [hd,cond_false]
def shA (l:List Shelf) (i:Int):Shelf:=(ix l i).getD zSh
def zLy:Layer:=⟨[],0,0,0⟩
def Qtv (x:Layer) (i:Int) (s:Shelf):Layer:=⟨x.fP++[i],x.fD+s.fD,mxI x.fH s.fH,x.fQ+s.fQ⟩
def Q79 (p:Pallet) (s:Shelf) (x:Layer):Bool:=decide (x.fD+s.fD≤p.fD)&&decide (x.fQ+s.fQ≤p.fQ)
def lyS (p:Pallet) (l:List Shelf) (out:List Layer) (i:Int):List Layer:=nxG (Q79 p (shA l i)) (λs=>Qtv s i (shA l i)) zLy out
def lyM (p:Pallet) (l:List Shelf):List Layer:=(Qjw 0 l.length).foldl (lyS p l) []
structure LyI (p:Pallet) (n:Nat) (s:Layer):Prop where
 ne:s.fP≠[]
 inn:∀ i∈s.fP,0≤i∧i<n
 d:1≤s.fD∧s.fD≤p.fD
 h:1≤s.fH∧s.fH≤p.fH
 g:1≤s.fQ∧s.fQ≤p.fQ
def OkS (p:Pallet) (l:List Shelf):Prop:=∀ s∈l,(1≤s.fD∧s.fD≤p.fD)∧(1≤s.fH∧s.fH≤p.fH)∧(1≤s.fQ∧s.fQ≤p.fQ)
theorem Q4b {p:Pallet} {l:List Shelf} (h:OkS p l) {i:Int} (hi:0≤i∧i<l.length):ix l i=some (shA l i)∧(1≤(shA l i).fD∧(shA l i).fD≤p.fD)∧(1≤(shA l i).fH∧(shA l i).fH≤p.fH)∧(1≤(shA l i).fQ∧(shA l i).fQ≤p.fQ)∧shA l i∈l:=by
 obtain ⟨x,hx⟩:=Q5w (l:=l) hi.1 hi.2
 have e:shA l i=x:=by unfold shA; rw [hx]; rfl
 rw [e]
 exact ⟨hx,(h x (Qi2 hx)).1,(h x (Qi2 hx)).2.1,(h x (Qi2 hx)).2.2,Qi2 hx⟩
theorem Q5k {p:Pallet} {l:List Shelf} (hb:OkS p l) {out:List Layer} {i:Int} (hi:0≤i∧i<l.length) (h:∀ s∈out,LyI p l.length s):∀ s∈lyS p l out i,LyI p l.length s:=by
 obtain ⟨_,b1,b2,b3,_⟩:=Q4b hb hi
 refine Q5g h (λs hs hf=>?_) ⟨by simp [Qtv],λj hj=>?_,?_,?_,?_⟩
 · unfold Q79 at hf
   simp only [Bool.and_eq_true,decide_eq_true_eq] at hf
   obtain ⟨s1,s2,s4,s5,s6⟩:=hs
   have m2:=Q1v s.fH (shA l i).fH
   refine ⟨by simp [Qtv],λj hj=>?_,?_,?_,?_⟩
   · simp only [Qtv,List.mem_append,List.mem_singleton] at hj
     rcases hj with hj | rfl
     · exact s2 j hj
     · exact hi
   · simp only [Qtv]; omega
   · simp only [Qtv]; omega
   · simp only [Qtv]; omega
 · simp only [Qtv,zLy,List.nil_append,List.mem_singleton] at hj
   rw [hj]; exact hi
 · simp only [Qtv,zLy]; omega
 · have:=Q1v 0 (shA l i).fH
   simp only [Qtv,zLy]; omega
 · simp only [Qtv,zLy]; omega
theorem Q8s {p:Pallet} {l:List Shelf} (hb:OkS p l):∀ (is:List Int) (out:List Layer),(∀ i∈is,0≤i∧i<l.length)→(∀ s∈out,LyI p l.length s)→(∀ s∈is.foldl (lyS p l) out,LyI p l.length s)∧((is.foldl (lyS p l) out).map (·.fP)).flatten=(out.map (·.fP)).flatten++is∧(is.foldl (lyS p l) out).length≤out.length+is.length
 | [],out,_,h=>⟨h,by simp,by simp⟩
 | i::is,out,hi,h=>by
  rw [List.foldl_cons]
  obtain ⟨h1,h2,h3⟩:=Q8s hb is (lyS p l out i) (λj hj=>hi j (by simp [hj])) (Q5k hb (hi i (by simp)) h)
  have h4:((lyS p l out i).map (·.fP)).flatten=(out.map (·.fP)).flatten++[i]:=Qrz (λs=>rfl) rfl
  have h5:(lyS p l out i).length≤out.length+1:=Qui _ _ _ _
  refine ⟨h1,by rw [h2,h4]; simp,by simp; omega⟩
theorem Q3b {p:Pallet} {l:List Shelf} (hb:OkS p l):(∀ s∈lyM p l,LyI p l.length s)∧((lyM p l).map (·.fP)).flatten=Qjw 0 l.length∧(lyM p l).length≤l.length:=by
 unfold lyM
 obtain ⟨h1,h2,h3⟩:=Q8s hb (Qjw 0 l.length) [] (λi hi=>by have:=Qhn.1 hi; omega) (by simp)
 refine ⟨h1,by simpa using h2,?_⟩
 rw [Qbx] at h3
 simpa using h3
theorem Jkq {p:Pallet} {l:List Shelf} (h:OkS p l):(l.all λs=>okL p s.fD s.fH s.fQ)=true:=by
 refine List.all_eq_true.2 λs hs=>?_
 unfold okL
 simp only [Bool.and_eq_true,Qcb]
 exact ⟨(h s hs).1,(h s hs).2.1,(h s hs).2.2⟩
theorem Jcx {fu:Nat} (hfu:2097153≤fu) {p:Pallet} (hp:Qvu p=true) {l:List Shelf} (hb:OkS p l) (hl:l.length≤1000):Qo3 fu p l=some (lyM p l):=by
 unfold Qo3 lyM
 rw [Jmc p l (by omega) (by omega),hp,Jkq hb,Qaa,Bool.and_self,Bool.not_true,cond_false]
 obtain ⟨p1,p2,p3,p4⟩:=Qxh hp
 have L1:=Q8g (l.length:Int) (λn (o:List Layer) i=>Qbe fu p l n o i) (λxs o=>some (xs.foldl (lyS p l) o)) (λxs o=>(∀ s∈o,LyI p l.length s)∧((o.map (·.fP)).flatten).length+xs.length≤1000∧o.length+xs.length≤1000) (by omega) ?_ ?_ l.length fu [] 0 (by omega) (by omega) (by omega) ⟨by simp,by simp [Qbx]; omega,by simp [Qbx]; omega⟩
 · exact L1
 · intro n o i xs x0 x1 hd hI ih
   obtain ⟨i2,i3,i4⟩:=hI
   simp only [List.length_cons] at i3 i4
   obtain ⟨hbx,b1,b2,b3,_⟩:=Q4b hb ⟨x0,x1⟩
   have hflat:((lyS p l o i).map (·.fP)).flatten=(o.map (·.fP)).flatten++[i]:=Qrz (λs=>rfl) rfl
   have hlen:(lyS p l o i).length≤o.length+1:=Qui _ _ _ _
   have ih':=ih (lyS p l o i) ⟨Q5k hb ⟨x0,x1⟩ i2,by rw [hflat,List.length_append,List.length_singleton]; omega,by omega⟩
   have J:∀ (o':List Layer) (x:Layer),o'.length≤1000→(x.fP.length≤1000)→(0≤x.fD∧x.fD≤2000)→(0≤x.fQ∧x.fQ≤100000)→Qcz fu (Qbe fu p l n) i (shA l i) (o'++[x]) ((o'.length:Int)+1)=Qbe fu p l n (o'++[Qtv x i (shA l i)]) (w64 (i+1)):=by
    intro o' x h1 h2 h3 h4
    unfold Qcz Qob
    have e1:w64 ((o'.length:Int)+1 - 1)=(o'.length:Int):=by rw [Qam (by omega) (by omega)]; omega
    have e2:ix (o'++[x]) (o'.length:Int)=some x:=by rw [Qh3]; simp
    rw [e1,e2,Qaa,ap1 (by simp; omega),Qaa,ap1 (by simp; omega),Qaa,Jc8,Qaa,Qaa,Qam (n:=x.fD+_) (by omega) (by omega),Qam (n:=x.fQ+_) (by omega) (by omega)]
    have e3:∀ y:Layer,Qi0 (o'++[x]) (o'.length:Int) y=o'++[y]:=by intro y; simp [Qi0]
    rw [e3]
    rfl
   simp only [Qbe.eq_2]
   unfold Qk4
   rw [hd,cond_true,hbx,Qaa,List.foldl_cons,← ih']
   by_cases he:o=[]
   · subst he
     rw [Qao (by simp),ap1 (by simp),Qaa]
     have:=J [] zLy (by simp) (by simp [zLy]) (by simp [zLy]) (by simp [zLy])
     rw [Qam (by simp) (by simp)]
     exact this
   · obtain ⟨s,e1,e2⟩:=Qu4 he
     have hpl:=List.length_pos_iff.2 he
     have hsm':=List.mem_of_getLast? e1
     have hs:=i2 s hsm'
     have hsl':=Qpt (λs:Layer=>s.fP) o s hsm'
     obtain ⟨s1,s2,s4,s5,s6⟩:=hs
     have eS:lyS p l o i=bif Q79 p (shA l i) s then o.set (o.length - 1) (Qtv s i (shA l i)) else o++[Qtv zLy i (shA l i)]:=Qvb e1
     have eo:o=o.dropLast++[s]:=by
      have h1:=List.dropLast_concat_getLast he
      rw [List.getLast?_eq_some_getLast he] at e1
      rw [Option.some.inj e1] at h1
      exact h1.symm
     have e3:Qcz fu (Qbe fu p l n) i (shA l i) o (o.length:Int)=Qbe fu p l n (o.set (o.length - 1) (Qtv s i (shA l i))) (w64 (i+1)):=by
      obtain ⟨d,hd⟩:∃ d,o=d++[s]:=⟨_,eo⟩
      rw [hd] at i4 ⊢
      simp only [List.length_append,List.length_singleton] at i4
      have:=J d s (by omega) (by omega) (by omega) (by omega)
      rw [show (((d++[s]).length:Nat):Int)=(d.length:Int)+1 by simp,this]
      congr 1
      simp
     have e4:Qcz fu (Qbe fu p l n) i (shA l i) (o++[zLy]) (w64 ((o.length:Int)+1))=Qbe fu p l n (o++[Qtv zLy i (shA l i)]) (w64 (i+1)):=by
      rw [Qam (by omega) (by omega)]
      exact J o zLy (by omega) (by simp [zLy]) (by simp [zLy]) (by simp [zLy])
     rw [Qam (n:=(o.length:Int) - 1) (by omega) (by omega),e2,Qaa,Qaf (by simp; omega),Qaa,Qam (n:=s.fD+_) (by omega) (by omega),Qam (n:=s.fQ+_) (by omega) (by omega),ap1 (by simp; omega),Qaa,e3]
     rw [show (⟨[],0,0,0⟩:Layer)=zLy from rfl,e4,eS]
     unfold Q79
     by_cases c1:s.fD+(shA l i).fD≤p.fD
     · rw [Qaf (c:=decide (s.fD+(shA l i).fD>p.fD)) (by simp; omega),decide_eq_true c1]
       by_cases c2:s.fQ+(shA l i).fQ≤p.fQ
       · rw [Qaf (c:=decide (s.fQ+(shA l i).fQ>p.fQ)) (by simp; omega),decide_eq_true c2]; rfl
       · rw [Qao (c:=decide (s.fQ+(shA l i).fQ>p.fQ)) (by simp; omega),decide_eq_false c2]; rfl
     · rw [Qao (c:=decide (s.fD+(shA l i).fD>p.fD)) (by simp; omega),decide_eq_false c1]; rfl
 · intro n o i hd _
   simp only [Qbe.eq_2]
   unfold Qk4
   rw [hd,cond_false]; rfl
def lyA (l:List Layer) (i:Int):Layer:=(ix l i).getD zLy
def zLd:Load:=⟨[],0,0⟩
def Qug (x:Load) (i:Int) (s:Layer):Load:=⟨x.fL++[i],x.fH+s.fH,x.fQ+s.fQ⟩
def Q76 (p:Pallet) (s:Layer) (x:Load):Bool:=decide (x.fH+s.fH≤p.fH)&&decide (x.fQ+s.fQ≤p.fQ)
def ldS (p:Pallet) (l:List Layer) (out:List Load) (i:Int):List Load:=nxG (Q76 p (lyA l i)) (λs=>Qug s i (lyA l i)) zLd out
def ldM (p:Pallet) (l:List Layer):List Load:=(Qjw 0 l.length).foldl (ldS p l) []
structure LdI (p:Pallet) (n:Nat) (s:Load):Prop where
 ne:s.fL≠[]
 inn:∀ i∈s.fL,0≤i∧i<n
 h:1≤s.fH∧s.fH≤p.fH
 g:1≤s.fQ∧s.fQ≤p.fQ
def OkY (p:Pallet) (l:List Layer):Prop:=∀ s∈l,(1≤s.fD∧s.fD≤p.fD)∧(1≤s.fH∧s.fH≤p.fH)∧(1≤s.fQ∧s.fQ≤p.fQ)
theorem Q4o {p:Pallet} {l:List Layer} (h:OkY p l) {i:Int} (hi:0≤i∧i<l.length):ix l i=some (lyA l i)∧(1≤(lyA l i).fD∧(lyA l i).fD≤p.fD)∧(1≤(lyA l i).fH∧(lyA l i).fH≤p.fH)∧(1≤(lyA l i).fQ∧(lyA l i).fQ≤p.fQ)∧lyA l i∈l:=by
 obtain ⟨x,hx⟩:=Q5w (l:=l) hi.1 hi.2
 have e:lyA l i=x:=by unfold lyA; rw [hx]; rfl
 rw [e]
 exact ⟨hx,(h x (Qi2 hx)).1,(h x (Qi2 hx)).2.1,(h x (Qi2 hx)).2.2,Qi2 hx⟩
theorem Q5o {p:Pallet} {l:List Layer} (hb:OkY p l) {out:List Load} {i:Int} (hi:0≤i∧i<l.length) (h:∀ s∈out,LdI p l.length s):∀ s∈ldS p l out i,LdI p l.length s:=by
 obtain ⟨_,b1,b2,b3,_⟩:=Q4o hb hi
 refine Q5g h (λs hs hf=>?_) ⟨by simp [Qug],λj hj=>?_,?_,?_⟩
 · unfold Q76 at hf
   simp only [Bool.and_eq_true,decide_eq_true_eq] at hf
   obtain ⟨s1,s2,s5,s6⟩:=hs
   refine ⟨by simp [Qug],λj hj=>?_,?_,?_⟩
   · simp only [Qug,List.mem_append,List.mem_singleton] at hj
     rcases hj with hj | rfl
     · exact s2 j hj
     · exact hi
   · simp only [Qug]; omega
   · simp only [Qug]; omega
 · simp only [Qug,zLd,List.nil_append,List.mem_singleton] at hj
   rw [hj]; exact hi
 · simp only [Qug,zLd]; omega
 · simp only [Qug,zLd]; omega
theorem Jbh {p:Pallet} {l:List Layer} (hb:OkY p l):∀ (is:List Int) (out:List Load),(∀ i∈is,0≤i∧i<l.length)→(∀ s∈out,LdI p l.length s)→(∀ s∈is.foldl (ldS p l) out,LdI p l.length s)∧((is.foldl (ldS p l) out).map (·.fL)).flatten=(out.map (·.fL)).flatten++is∧(is.foldl (ldS p l) out).length≤out.length+is.length
 | [],out,_,h=>⟨h,by simp,by simp⟩
 | i::is,out,hi,h=>by
  rw [List.foldl_cons]
  obtain ⟨h1,h2,h3⟩:=Jbh hb is (ldS p l out i) (λj hj=>hi j (by simp [hj])) (Q5o hb (hi i (by simp)) h)
  have h4:((ldS p l out i).map (·.fL)).flatten=(out.map (·.fL)).flatten++[i]:=Qrz (λs=>rfl) rfl
  have h5:(ldS p l out i).length≤out.length+1:=Qui _ _ _ _
  refine ⟨h1,by rw [h2,h4]; simp,by simp; omega⟩
theorem Q5b {p:Pallet} {l:List Layer} (hb:OkY p l):(∀ s∈ldM p l,LdI p l.length s)∧((ldM p l).map (·.fL)).flatten=Qjw 0 l.length∧(ldM p l).length≤l.length:=by
 unfold ldM
 obtain ⟨h1,h2,h3⟩:=Jbh hb (Qjw 0 l.length) [] (λi hi=>by have:=Qhn.1 hi; omega) (by simp)
 refine ⟨h1,by simpa using h2,?_⟩
 rw [Qbx] at h3
 simpa using h3
theorem Jkh {p:Pallet} {l:List Layer} (h:OkY p l):(l.all λs=>okL p s.fD s.fH s.fQ)=true:=by
 refine List.all_eq_true.2 λs hs=>?_
 unfold okL
 simp only [Bool.and_eq_true,Qcb]
 exact ⟨(h s hs).1,(h s hs).2.1,(h s hs).2.2⟩
theorem Jf0 {fu:Nat} (hfu:2097153≤fu) {p:Pallet} (hp:Qvu p=true) {l:List Layer} (hb:OkY p l) (hl:l.length≤1000):Qqg fu p l=some (ldM p l):=by
 unfold Qqg ldM
 rw [Jnf p l (by omega) (by omega),hp,Jkh hb,Qaa,Bool.and_self,Bool.not_true,cond_false]
 obtain ⟨p1,p2,p3,p4⟩:=Qxh hp
 have L1:=Q8g (l.length:Int) (λn (o:List Load) i=>Qbm fu p l n o i) (λxs o=>some (xs.foldl (ldS p l) o)) (λxs o=>(∀ s∈o,LdI p l.length s)∧((o.map (·.fL)).flatten).length+xs.length≤1000∧o.length+xs.length≤1000) (by omega) ?_ ?_ l.length fu [] 0 (by omega) (by omega) (by omega) ⟨by simp,by simp [Qbx]; omega,by simp [Qbx]; omega⟩
 · exact L1
 · intro n o i xs x0 x1 hd hI ih
   obtain ⟨i2,i3,i4⟩:=hI
   simp only [List.length_cons] at i3 i4
   obtain ⟨hbx,b1,b2,b3,_⟩:=Q4o hb ⟨x0,x1⟩
   have hflat:((ldS p l o i).map (·.fL)).flatten=(o.map (·.fL)).flatten++[i]:=Qrz (λs=>rfl) rfl
   have hlen:(ldS p l o i).length≤o.length+1:=Qui _ _ _ _
   have ih':=ih (ldS p l o i) ⟨Q5o hb ⟨x0,x1⟩ i2,by rw [hflat,List.length_append,List.length_singleton]; omega,by omega⟩
   have J:∀ (o':List Load) (x:Load),o'.length≤1000→(x.fL.length≤1000)→(0≤x.fH∧x.fH≤2000)→(0≤x.fQ∧x.fQ≤100000)→Qdc fu (Qbm fu p l n) i (lyA l i) (o'++[x]) ((o'.length:Int)+1)=Qbm fu p l n (o'++[Qug x i (lyA l i)]) (w64 (i+1)):=by
    intro o' x h1 h2 h3 h4
    unfold Qdc Qpk
    have e1:w64 ((o'.length:Int)+1 - 1)=(o'.length:Int):=by rw [Qam (by omega) (by omega)]; omega
    have e2:ix (o'++[x]) (o'.length:Int)=some x:=by rw [Qh3]; simp
    rw [e1,e2,Qaa,ap1 (by simp; omega),Qaa,ap1 (by simp; omega),Qaa,Qaa,Qam (n:=x.fH+_) (by omega) (by omega),Qam (n:=x.fQ+_) (by omega) (by omega)]
    have e3:∀ y:Load,Qi0 (o'++[x]) (o'.length:Int) y=o'++[y]:=by intro y; simp [Qi0]
    rw [e3]
    rfl
   simp only [Qbm.eq_2]
   unfold Qm3
   rw [hd,cond_true,hbx,Qaa,List.foldl_cons,← ih']
   by_cases he:o=[]
   · subst he
     rw [Qao (by simp),ap1 (by simp),Qaa]
     have:=J [] zLd (by simp) (by simp [zLd]) (by simp [zLd]) (by simp [zLd])
     rw [Qam (by simp) (by simp)]
     exact this
   · obtain ⟨s,e1,e2⟩:=Qu4 he
     have hpl:=List.length_pos_iff.2 he
     have hsm':=List.mem_of_getLast? e1
     have hs:=i2 s hsm'
     have hsl':=Qpt (λs:Load=>s.fL) o s hsm'
     obtain ⟨s1,s2,s5,s6⟩:=hs
     have eS:ldS p l o i=bif Q76 p (lyA l i) s then o.set (o.length - 1) (Qug s i (lyA l i)) else o++[Qug zLd i (lyA l i)]:=Qvb e1
     have eo:o=o.dropLast++[s]:=by
      have h1:=List.dropLast_concat_getLast he
      rw [List.getLast?_eq_some_getLast he] at e1
      rw [Option.some.inj e1] at h1
      exact h1.symm
     have e3:Qdc fu (Qbm fu p l n) i (lyA l i) o (o.length:Int)=Qbm fu p l n (o.set (o.length - 1) (Qug s i (lyA l i))) (w64 (i+1)):=by
      obtain ⟨d,hd⟩:∃ d,o=d++[s]:=⟨_,eo⟩
      rw [hd] at i4 ⊢
      simp only [List.length_append,List.length_singleton] at i4
      have:=J d s (by omega) (by omega) (by omega) (by omega)
      rw [show (((d++[s]).length:Nat):Int)=(d.length:Int)+1 by simp,this]
      congr 1
      simp
     have e4:Qdc fu (Qbm fu p l n) i (lyA l i) (o++[zLd]) (w64 ((o.length:Int)+1))=Qbm fu p l n (o++[Qug zLd i (lyA l i)]) (w64 (i+1)):=by
      rw [Qam (by omega) (by omega)]
      exact J o zLd (by omega) (by simp [zLd]) (by simp [zLd]) (by simp [zLd])
     rw [Qam (n:=(o.length:Int) - 1) (by omega) (by omega),e2,Qaa,Qaf (by simp; omega),Qaa,Qam (n:=s.fH+_) (by omega) (by omega),Qam (n:=s.fQ+_) (by omega) (by omega),ap1 (by simp; omega),Qaa,e3]
     rw [show (⟨[],0,0⟩:Load)=zLd from rfl,e4,eS]
     unfold Q76
     by_cases c1:s.fH+(lyA l i).fH≤p.fH
     · rw [Qaf (c:=decide (s.fH+(lyA l i).fH>p.fH)) (by simp; omega),decide_eq_true c1]
       by_cases c2:s.fQ+(lyA l i).fQ≤p.fQ
       · rw [Qaf (c:=decide (s.fQ+(lyA l i).fQ>p.fQ)) (by simp; omega),decide_eq_true c2]; rfl
       · rw [Qao (c:=decide (s.fQ+(lyA l i).fQ>p.fQ)) (by simp; omega),decide_eq_false c2]; rfl
     · rw [Qao (c:=decide (s.fH+(lyA l i).fH>p.fH)) (by simp; omega),decide_eq_false c1]; rfl
 · intro n o i hd _
   simp only [Qbm.eq_2]
   unfold Qm3
   rw [hd,cond_false]; rfl
end Go.Proofs.YthkaklkinepfkaaGreatDoor
