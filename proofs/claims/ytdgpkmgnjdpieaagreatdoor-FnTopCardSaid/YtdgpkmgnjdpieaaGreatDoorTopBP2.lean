/- TopBP: plain lemmas,.. -/
import Derived.Test.YtdgpkmgnjdpieaaGreatDoorTopBP1
set_option linter.unusedSimpArgs false
set_option linter.unusedVariables false
namespace Go.Proofs.YtdgpkmgnjdpieaaGreatDoor
open Go
open Enc (rd ow)
open Arg (argv)
open Ret (retv)
open Wf (wf)
theorem jK (r:Request) (u:Int):0≤(LL r u).fQ∧(LL r u).fQ≤100000:=by
 unfold LL
 cases A:XO r u with
 | none=>simp [jp]
 | some x=>exact eh (r:=r) (us:=[u]) (by simp [Wu,List.filterMap_cons,A])
theorem xW {fu:Nat} {r:Request} (h:Sm fu r) (us:List Int) (hl:us.length≤1048576) (Q:us.length<fu):V6 fu r us=some (UO r us):=by
 unfold V6
 rw [zw h,AB]
 have A:=XD us (λn s i=>GG fu r us (CP r) n s i) (λl n=>some (n+UO r l)) (λl n=>0≤n∧n+100000*l.length≤100000*1048576) AC ?_ ?_ fu 0 ⟨AC,AC⟩ Q
 · simpa using A
 · intro n s i x E M D O L
   simp only [GG.eq_2]
   unfold TB VI VF
   simp only [D,cond_true,M,AB,kQ]
   have T:=jK r x
   have N:=O.2
   simp only [List.length_cons] at N
   rw [AU AC AC,L _ ⟨AC,AC⟩]
   congr 1
   have e:UO r (x::E)=(LL r x).fQ+UO r E:=by
    unfold UO Wu LL
    cases J:XO r x with
    | none=>simp [List.filterMap_cons,J,jp]
    | some y=>simp [List.filterMap_cons,J]
   rw [e]
   omega
 · intro n s i D _
   simp only [GG.eq_2]
   unfold TB
   simp only [D,cond_false]
   simp [UO,Wu]
theorem vI {fu:Nat} {r:Request} (h:Sm fu r) (us:List Int) (hl:us.length≤1048576) (Q:us.length<fu):RL fu r us=some (UO r us):=by
 unfold RL
 rw [ef h us hl Q,AB]
 have L:=Y7 r us
 have A:=XD (Wu r us) (λn s i=>Kd fu (Wu r us) n s i) (λl n=>some (n+IM (l.map (·.fQ)))) (λl n=>0≤n∧n+100000*l.length≤100000*1048576∧∀ x∈l,0≤x.fQ∧x.fQ≤100000) AC ?_ ?_ fu 0 ⟨AC,AC,λx D=>eh D⟩ AC
 · simpa [UO] using A
 · intro n s i x T D E J N
   simp only [Kd.eq_2]
   unfold TG
   simp only [E,cond_true,D,AB]
   have U:=J.2.2 x AD
   have O:=J.2.1
   simp only [List.length_cons] at O
   rw [AU AC AC,N _ ⟨AC,AC,λy M=>J.2.2 y (by simp [M])⟩]
   simp only [List.map_cons,ED]
   congr 1
   omega
 · intro n s i E _
   simp only [Kd.eq_2]
   unfold TG
   simp only [E,cond_false]
   simp
theorem sX (r:Request) (x:Int) (A:List Int):Vo r (x::A)=gL (LL r x)+Vo r A:=by
 unfold Vo Wu LL
 cases D:XO r x with
 | none=>simp [List.filterMap_cons,D,rj]
 | some y=>simp [List.filterMap_cons,D]
theorem lL (r:Request) (x:Int) (A:List Int):UO r (x::A)=(LL r x).fQ+UO r A:=by
 unfold UO Wu LL
 cases D:XO r x with
 | none=>simp [List.filterMap_cons,D,jp]
 | some y=>simp [List.filterMap_cons,D]
theorem mZ {fu:Nat} (r:Request) (us:List Int) (hl:us.length≤1048576) (O:us.length<fu):TM fu r (CP r) us=some ⟨Vo r us,UO r us⟩:=by
 unfold TM
 have A:=XD us (λn s i=>IZ fu r (CP r) us n s i) (λl s=>some (⟨s.fvol+Vo r l,s.fgram+UO r l⟩:L7))
  (λl s=>0≤s.fvol∧s.fvol+8000000000*l.length≤8000000000*1048576∧0≤s.fgram∧s.fgram+100000*l.length≤100000*1048576) AC ?_ ?_ fu ⟨0,0⟩ ⟨AD,AJ,AD,AJ⟩ O
 · simpa using A
 · intro n s i x Q L D M J
   simp only [IZ.eq_2]
   unfold Vs XG XL
   simp only [D,cond_true,L,AB,kQ,sZ]
   have T:=pQ (LL r x).fW (LL r x).fH (LL r x).fD
   have U:=jK r x
   obtain ⟨_,N,_,E⟩:=M
   simp only [List.length_cons] at N E
   rw [AU (n:=s.fvol+_) AC AC,AU (n:=s.fgram+_) AC AC,J _ ⟨AJ,AJ,AJ,AJ⟩,sX,lL,show bV (LL r x).fW (LL r x).fH (LL r x).fD=gL (LL r x) from rfl]
   simp only [Option.some.injEq,L7.mk.injEq]
   constructor <;> omega
 · intro n s i D _
   simp only [IZ.eq_2]
   unfold Vs
   simp only [D,cond_false]
   simp [Vo,UO,Wu]
def XS (r:Request) (us:List Int) (t:Typ):Bool:=decide (Vo r us≤iU t)&&decide (UO r us≤t.fQ)
theorem lE {fu:Nat} (r:Request) (t:Typ) (us:List Int) (u:Int) (hl:us.length<1048576) (A:us.length+1<fu):RB fu r (CP r) t us u=some (XS r (us++[u]) t):=by
 unfold RB VR XS
 rw [KU AJ,AB,List.nil_append,KU AJ,AB,mZ r _ AJ AJ,AB,sZ,AB]
 show (bif decide (Vo r (us++[u])≤iU t) then _ else _)=_
 cases decide (Vo r (us++[u])≤iU t) <;> simp
theorem l5 {fu:Nat} {r:Request} (h:Sm fu r) (t:Typ) (us:List Int) (hl:us.length≤1048576):RR fu r us t=some (XS r us t):=by
 have A:=h.fu
 unfold RR XS
 rw [oe h us hl AC,AB,wa,AB,vI h us hl AC]
 show (bif decide (Vo r us≤iU t) then _ else _)=_
 cases decide (Vo r us≤iU t) <;> simp
theorem rr {r:Request}:(Wz (Ky r r.fP)).1=Vn r:=rfl
theorem pf {fu:Nat} {r:Request} (h:Sm fu r) (us:List Int) (u:Int) (hl:us.length<1048576):Wm fu r us u=some (CA r==0&&XS r (us++[u]) (Vn r)):=by
 have A:=h.fu
 unfold Wm D5
 rw [rT h,AB,Xo h,AB]
 cases D:CA r==0
 · rfl
 · rw [cond_true,KU AJ,AB,AB,List.nil_append,KU AJ,AB,l5 h _ _ AJ]
   rfl
theorem yy (fu:Nat) (b:Bool):Yx fu b=some (qr b):=by cases b <;> rfl
theorem x7 {fu:Nat} {l:List Int} (hl:l.length≤1048576) (M:l.length<fu) (x:Int):UI fu l x=some (nb (λy=>y==x) l):=by
 unfold UI
 have:=XD l (λn s i=>I6 fu l x n s i) (λl n=>some (n+nb (λy=>y==x) l)) (λl n=>0≤n∧n+l.length≤1048576) AC ?_ ?_ fu 0 ⟨AC,AC⟩ M
 · simpa using this
 · intro n s i y ys J A D L
   have E:=D.2
   simp only [List.length_cons] at E
   have N:=uI (y==x)
   simp only [I6.eq_2]
   unfold QN
   simp only [A,cond_true,J,AB,yy]
   rw [AU AC AC,L _ ⟨AC,AC⟩]
   simp only [nb]
   congr 1
   omega
 · intro n s i A D
   simp only [I6.eq_2]
   unfold QN
   simp only [A,cond_false,nb]
   simp
theorem pV (l:List Int) (x:Int):nb (λy=>y==x) l=(l.count x:Int):=by
 induction l with
 | nil=>rfl
 | cons y l D =>
  unfold nb qr
  rw [D,List.count_cons]
  cases A:y==x <;> simp [A] <;> omega
def OI (r:Request) (us:List Int):List Int:=us.filter λu=>CW u 0 (((CP r).length:Int) - 1)
def tI (a b:List Int):Bool:=decide ((a.mergeSort λx y=>decide (x≤y))=b.mergeSort λx y=>decide (x≤y))
theorem rR {a b:List Int}:tI a b=true↔a.Perm b:=by
 unfold tI
 rw [decide_eq_true_iff]
 constructor
 · intro h
   have A:=List.mergeSort_perm a λx y=>decide (x≤y)
   rw [h] at A
   exact A.symm.trans (List.mergeSort_perm b _)
 · intro h
   exact oz (((List.mergeSort_perm a _).trans h).trans (List.mergeSort_perm b _).symm) (PH a) (PH b)
theorem lH:∀ (a b:List Int),a.length=b.length→(∀ x∈a,a.count x=b.count x)→a.Perm b
 | [],b,h,_=>by
  have:b=[]:=List.eq_nil_of_length_eq_zero h.symm
  subst this
  exact List.Perm.refl _
 | x::a,b,h,hc=>by
  have L:=hc x AD
  rw [List.count_cons_self] at L
  have J:x∈b:=List.count_pos_iff.1 AC
  have A:=List.perm_cons_erase J
  refine List.Perm.trans (List.Perm.cons x (lH a (b.erase x) ?_ ?_)) A.symm
  · have:=A.length_eq
    simp only [List.length_cons] at this h
    omega
  · intro y E
    have M:=hc y (by simp [E])
    have D:=A.count_eq y
    rw [List.count_cons] at M D
    omega
theorem kc {fu:Nat} {r:Request} (h:Sm fu r) (us:List Int) (hl:us.length≤1048576):Lt fu r us=some (OI r us):=by
 have A:=h.fu
 unfold Lt D5 OI
 rw [nF h,AB,KU AJ,AB,AB,List.nil_append,ym _ (λu=>!CW u 0 (((CP r).length:Int) - 1)) ?_ hl AC,AB]
 · simp
 · intro u _
   unfold VS
   rw [eu,Ys,AB]
theorem oD {fu:Nat} {r:Request} (h:Sm fu r) (us:List Int) (hl:us.length≤1048576):OB fu (CP r) us=some (OI r us):=by
 have L:=h.fu
 unfold OB OI
 have:=XD us (λn out i=>GT fu (CP r) us n out i) (λA out=>some (out++A.filter λu=>CW u 0 (((CP r).length:Int) - 1))) (λA out=>out.length+A.length≤1048576) AC ?_ ?_ fu [] (by simpa using hl) AC
 · simpa using this
 · intro n out i x A M D E J
   simp only [List.length_cons] at E
   simp only [GT.eq_2]
   unfold QB NB
   rw [D,cond_true,M,AB,eu,XT,AB,AB,List.filter_cons]
   cases N:CW x 0 (((CP r).length:Int) - 1)
   · rw [cond_false,J _ AC]; simp
   · rw [cond_true,KU AJ,AB,J _ AJ]; simp
 · intro n out i D E
   simp only [GT.eq_2]
   unfold QB
   simp only [D,cond_false]
   simp
theorem nz:∀ (a b:List Int),a.length=b.length→((a.zip b).all λp=>p.1==p.2)=decide (a=b)
 | [],[],_=>rfl
 | [],_::_,h=>by simp at h
 | _::_,[],h=>by simp at h
 | x::a,y::b,h=>by
  rw [List.zip_cons_cons,List.all_cons,nz a b (by simpa using h)]
  by_cases A:x=y <;> simp [A]
theorem uK {fu:Nat} (a b:List Int) (hl:a.length≤1048576) (U:a.length<fu):JX fu a b=some (decide (a=b)):=by
 unfold JX
 by_cases h:a.length=b.length
 · rw [AM (by simp [h])]
   have L:(a.zip b).length=a.length:=by rw [List.length_zip]; omega
   have:=lp (a.zip b) (λn (_:Unit) i=>D4 fu a b n i) (λl _=>some (l.all λp=>p.1==p.2)) AC ?_ ?_ fu () AC
   · rw [nz a b h] at this
     exact this
   · intro n _ i p T O A Q
     obtain ⟨J,_,E⟩:=AG O
     rw [List.getElem?_zip_eq_some] at E
     rw [L] at A
     have M:ix a i=some p.1:=by unfold ix; rw [if_pos J]; exact E.1
     have N:ix b i=some p.2:=by unfold ix; rw [if_pos J]; exact E.2
     simp only [D4.eq_2]
     unfold JS
     rw [A,cond_true,M,AB,N,AB,Q (),List.all_cons]
     by_cases D:p.1=p.2
     · rw [AM (by simp [D])]; simp [D]
     · rw [AX (by simpa using D)]; simp [D]
   · intro n _ i A
     rw [L] at A
     simp only [D4.eq_2]
     unfold JS
     simp [A]
 · rw [AX AJ]
   have:a≠b:=λe=>h (by rw [e])
   simp [this]
theorem e8 {A:List Int} (h:A.length≤1048576):aL A=some (A.mergeSort λx y=>decide (x≤y)):=by
 unfold aL
 rw [if_pos AC]
theorem Zy (r:Request) (us:List Int):(OI r us).length≤us.length:=List.length_filter_le _ _
def j8 (r:Request) (u:Int):Int:=(LL r u).fO
def cq (r:Request) (c:List Int):Bool:=c.all λx=>c.all λy=>KQ r.fT (j8 r x) (j8 r y)
theorem bE {r:Request} {us:List Int} {u:Int} (h:u∈OI r us):0≤u∧u<(CP r).length:=by
 unfold OI at h
 have:=(List.mem_filter.1 h).2
 rw [BS] at this
 omega
theorem XW {r:Request} {u:Int} (h:0≤u∧u<(CP r).length):XO r u=some (LL r u):=by
 obtain ⟨_,x,_,_,A⟩:=k6 h
 unfold LL
 rw [A]; rfl
theorem eT {r:Request}:∀ {l:List Int},(∀ u∈l,0≤u∧u<(CP r).length)→Wu r l=l.map (LL r)
 | [],_=>rfl
 | u::l,h=>by
  have A:=eT (r:=r) (l:=l) λv D=>h v (by simp [D])
  unfold Wu at A ⊢
  rw [List.filterMap_cons,XW (h u AD),A,List.map_cons]
theorem tl {α:Type} (l:List α) (L:Nat→Int→Option Bool) (g:α→Bool) (A:Option Bool) (hl:l.length≤1099511627776)
    (hs:∀ n (i:Int) x,ix l i=some x→decide (i<(l.length:Int))=true→L (n+1) i=bif g x then L n (AK (i+1)) else some false)
    (he:∀ n (i:Int),decide (i<(l.length:Int))=false→L (n+1) i=A):∀ n,l.length<n→L n 0=bif l.all g then A else some false:=by
 intro n J
 refine lp l (λn (_:Unit) i=>L n i) (λE _=>bif E.all g then A else some false) hl ?_ ?_ n () J
 · intro n s i x E N D M
   rw [hs n i x N D,M (),List.all_cons]
   cases g x <;> rfl
 · intro n s i D
   rw [he n i D]; rfl
structure Sep (p:List Pair) (P:List Int) (out:List (List Int)):Prop where
 ne:∀ g∈out,g≠[]
 inn:∀ g∈out,∀ x∈g,x∈P
 one:∀ g∈out,∀ x∈g,∀ y∈g,x≠y→VU p x y=true
 two:∀ (i j:Nat) (g h:List Int),out[i]? = some g→out[j]? = some h→i≠j→∀ x∈g,∀ y∈h,VU p x y=false
theorem gN {α:Type} {p q:α→Bool}:∀ {l:List α},(∀ x∈l,p x=q x)→l.all p=l.all q
 | [],_=>rfl
 | x::xs,h=>by rw [List.all_cons,List.all_cons,h x AD,gN λy A=>h y (by simp [A])]
def u9 (r:Request) (t:Typ) (u:Int):Bool:=(XO r u).isSome&&X8 (LL r u) t
def Wv (r:Request) (us:List Int) (t:Typ):Bool:=CA r==0&&(us.all (u9 r t)&&XS r us t)
theorem aq {r:Request} {u:Int}:(XO r u).isSome=true↔0≤u∧u<(CP r).length:=by
 constructor
 · intro h
   apply Decidable.byContradiction
   intro A
   rw [ik A] at h
   cases h
 · intro h
   rw [XW h]; rfl
theorem pu {fu:Nat} {r:Request} (h:Sm fu r) (us:List Int) (t:Typ) (hl:us.length≤1048576):UJ fu r us t=some (Wv r us t):=by
 have O:=h.fu
 have M:=Y7 r us
 unfold UJ Wv
 rw [Xo h,AB]
 cases U:CA r==0
 · rfl
 · rw [Bool.not_true,cond_false,kc h us hl,AB,Bool.true_and]
   by_cases D:∀ u∈us,0≤u∧u<(CP r).length
   · have e:OI r us=us:=List.filter_eq_self.2 λu A=>by have:=D u A; simp; omega
     have J:((us.length:Int) != (us.length:Int))=false:=AD
     rw [e,J,cond_false]
     unfold WB
     rw [ef h us hl AC,AB,ZP _ (λx=>!X8 x t) ?_ AC AC,AB]
     · rw [l5 h t us hl,AB,eT D,List.any_map]
       have E:us.all (u9 r t)=!(us.any ((λx=>!X8 x t) ∘ LL r)):=by
        rw [List.not_any_eq_all_not]
        apply gN
        intro u A
        simp only [u9,aq.2 (D u A),Bool.true_and,Function.comp,Bool.not_not]
       rw [E]
       cases us.any ((λx=>!X8 x t) ∘ LL r) <;> simp
     · intro x _
       unfold Xt
       rw [vG,AB]
   · have N:(OI r us).length<us.length:=by
       apply Decidable.byContradiction
       intro L
       apply D
       have e:(us.filter λu=>CW u 0 (((CP r).length:Int) - 1)).length=us.length:=by
        have:=List.length_filter_le (λu=>CW u 0 (((CP r).length:Int) - 1)) us
        have T:OI r us=us.filter λu=>CW u 0 (((CP r).length:Int) - 1):=rfl
        rw [T] at L
        omega
       intro u A
       have:=List.length_filter_eq_length_iff.1 e u A
       simp at this
       omega
     have J:(((OI r us).length:Int) != (us.length:Int))=true:=AJ
     rw [J,cond_true]
     have E:us.all (u9 r t)=false:=by
      apply Bool.eq_false_iff.2
      intro Q
      apply D
      intro u A
      have:=List.all_eq_true.1 Q u A
      simp only [u9,Bool.and_eq_true] at this
      exact aq.1 this.1
     rw [E,Bool.false_and]
theorem n8 {fu:Nat} {r:Request} (h:Sm fu r) (us:List Int) (t:Typ) (hl:us.length≤1048576):Uh fu r us t=some (Wv r us t):=by
 have J:=h.fu
 unfold Uh Wv
 rw [Zg h,AB]
 cases E:CA r==0
 · have:(CA r != 0)=true:=by simp only [bne,E]; rfl
   rw [this]; rfl
 · have:(CA r != 0)=false:=by simp only [bne,E]; rfl
   have O:CA r=0:=by simpa using E
   have N:C8 fu r=some (CP r):=rN h O
   rw [this,cond_false,N,AB,Bool.true_and]
   have A:=lp us (λn (_:Unit) i=>HR fu r us t (CP r) n i) (λl _=>some (l.all (u9 r t)&&XS r us t)) AC ?_ ?_ fu () AC
   · exact A
   · intro n _ i x Q M D L
     simp only [HR.eq_2]
     unfold UC WX WF
     simp only [D,cond_true,M,AB,kQ,L (),List.all_cons,u9]
     cases (XO r x).isSome
     · rfl
     · simp only [Bool.not_true,cond_false,si (show 2097153≤fu by omega),AB]
       cases X8 (LL r x) t <;> rfl
   · intro n _ i D
     simp only [HR.eq_2]
     unfold UC WE
     simp only [D,cond_false,mZ r us hl (show us.length<fu by omega),AB,sZ]
     show (bif decide (Vo r us≤iU t) then _ else _)=_
     unfold XS
     cases decide (Vo r us≤iU t) <;> simp
def nA (r:Request) (us:List Int) (s:Typ×Bool) (t:Typ):Typ×Bool :=
 bif Wv r us t&&(!s.2||(decide (t.fd<s.1.fd)||(t.fd==s.1.fd&&decide (t.fe<s.1.fe)))) then (t,true) else s
def Qk (r:Request) (us:List Int):Typ×Bool:=r.fG.foldl (nA r us) (sO,false)
theorem oJ {fu:Nat} {r:Request} (h:Sm fu r) (us:List Int) (hl:us.length≤1048576):MA fu r us=some (Qk r us):=by
 have J:=h.fu
 have O:=h.types
 unfold MA
 have D:=lp r.fG (λn (s:Typ×Bool) i=>F5 fu r us n s.1 s.2 i) (λl s=>some (l.foldl (nA r us) s)) AC ?_ ?_ fu (sO,false) AC
 · exact D
 · intro n s i x N M E L
   simp only [F5.eq_2]
   unfold Pa E4
   have A:=λa b=>L (a,b)
   simp only at A
   obtain ⟨b,f⟩:=s
   simp only [E,cond_true,M,AB,pu h us x hl,A,List.foldl_cons,nA]
   cases Wv r us x <;> cases f <;> cases decide (x.fd<b.fd) <;> cases x.fd==b.fd <;> cases decide (x.fe<b.fe) <;> rfl
 · intro n s i E
   simp only [F5.eq_2]
   unfold Pa
   simp only [E,cond_false]
   rfl
theorem oZ {fu:Nat} {r:Request} (h:Sm fu r) (us:List Int) (hl:us.length≤1048576):MJ fu r us=some (Qk r us):=by
 have J:=h.fu
 have O:=h.types
 unfold MJ
 have D:=lp r.fG (λn (s:Typ×Bool) i=>GB fu r us n s.1 s.2 i) (λl s=>some (l.foldl (nA r us) s)) AC ?_ ?_ fu (sO,false) AC
 · exact D
 · intro n s i x N M E L
   simp only [GB.eq_2]
   unfold Pi E1
   have A:=λa b=>L (a,b)
   simp only at A
   obtain ⟨b,f⟩:=s
   simp only [E,cond_true,M,AB,n8 h us x hl,A,List.foldl_cons,nA]
   cases Wv r us x <;> cases f <;> cases decide (x.fd<b.fd) <;> cases x.fd==b.fd <;> cases decide (x.fe<b.fe) <;> rfl
 · intro n s i E
   simp only [GB.eq_2]
   unfold Pi
   simp only [E,cond_false]
   rfl
theorem cl {fu:Nat} {r:Request} (h:Sm fu r) (A:Int):KI fu r A=some (Wz (Ky r A)):=by
 have E:=h.fu
 have N:=h.types
 unfold KI Ky
 refine lp r.fG (λn (_:Unit) i=>H7 fu r A n i) (λl _=>some (Wz (l.find? λt=>t.fe==A))) AC ?_ ?_ fu () AC
 · intro n s i x M L D J
   simp only [H7.eq_2]
   unfold OW
   simp only [D,cond_true,L,AB,J (),List.find?_cons]
   cases x.fe==A <;> rfl
 · intro n s i D
   simp only [H7.eq_2]
   unfold OW
   simp only [D,cond_false]
   rfl
def zn:Box:=⟨0,0,0,0⟩
def bt (r:Request) (x:Carton):Int:=match Ky r x.f8 with
 | some t=>bif CA r==0 then t.ff+UO r x.fK else 0
 | none=>0
def H5 (r:Request) (x:Carton):Box:=match Ky r x.f8 with
 | some t=>bif CA r==0 then ⟨t.fW,t.fD,t.fH,t.ff+UO r x.fK⟩ else zn
 | none=>zn
theorem wT {r:Request} (J:CA r=0) {A:Int} {t:Typ} (D:Ky r A=some t):Yo t=true∧t∈r.fG∧t.fe=A:=by
 have E:=List.mem_of_find?_eq_some D
 have L:=List.find?_some D
 exact ⟨ZE (D2 J).1 t E,E,by simpa using L⟩
theorem pd {r:Request} (A:CA r=0) {D:Int} {t:Typ} (E:Ky r D=some t):0≤t.ff∧t.ff≤100000:=by
 have:=(wT A E).1
 simp only [Yo,Bool.and_eq_true,BS] at this
 omega
theorem ln {r:Request} (A:CA r=0) {D:Int} {t:Typ} (E:Ky r D=some t) (us:List Int) (hl:us.length≤1048576):AK (t.ff+UO r us)=t.ff+UO r us:=by
 have L:=pd A E
 have J:=jO r us
 exact AU AC AC
theorem np {fu:Nat} {r:Request} (h:Sm fu r) (x:Carton) (hl:x.fK.length≤1048576):UY fu r x=some (bt r x):=by
 have J:=h.fu
 unfold UY bt
 rw [ZF h,AB,cO]
 cases E:Ky r x.f8 with
 | none=>rfl
 | some t =>
  rw [Xo h]
  simp only [Option.isSome_some,Bool.not_true,cond_false,AB]
  cases D:CA r==0
  · rfl
  · have A:CA r=0:=by simpa using D
    unfold WW
    rw [vI h _ hl AC]
    simp only [Bool.not_true,cond_false,cond_true,AB,Wz,ln A E _ hl]
theorem oB {fu:Nat} {r:Request} (h:Sm fu r) (x:Carton) (hl:x.fK.length≤1048576):UF fu r x=some (bt r x):=by
 have J:=h.fu
 unfold UF bt
 rw [cl h,AB,cO,Zg h,AB]
 cases D:CA r==0
 · have:(CA r != 0)=true:=by simp only [bne,D]; rfl
   rw [this]
   cases Ky r x.f8 <;> rfl
 · have A:CA r=0:=by simpa using D
   rw [show (CA r != 0)=false by simp [A],cond_false]
   cases E:Ky r x.f8 with
   | none=>rfl
   | some t =>
    unfold WM
    rw [xW h _ hl AC]
    simp only [Option.isSome_some,Bool.not_true,cond_false,cond_true,AB,Wz,ln A E _ hl]
theorem tq {fu:Nat} {r:Request} (h:Sm fu r) (x:Carton) (hl:x.fK.length≤1048576):U1 fu r x=some (H5 r x):=by
 unfold U1 H5
 rw [ZF h,AB,cO]
 cases D:Ky r x.f8 with
 | none=>rfl
 | some t =>
  rw [Xo h]
  simp only [Option.isSome_some,Bool.not_true,cond_false,AB]
  cases A:CA r==0
  · rfl
  · unfold WS
    rw [np h x hl]
    simp only [bt,D,A,Bool.not_true,cond_false,cond_true,AB,Wz]
theorem kt {fu:Nat} {r:Request} (h:Sm fu r) (x:Carton) (hl:x.fK.length≤1048576):L9 fu r x=some (H5 r x):=by
 unfold L9 H5
 rw [cl h,AB,cO,Zg h,AB]
 cases A:CA r==0
 · have:(CA r != 0)=true:=by simp only [bne,A]; rfl
   rw [this]
   cases Ky r x.f8 <;> rfl
 · have D:CA r=0:=by simpa using A
   rw [show (CA r != 0)=false by simp [D],cond_false]
   cases E:Ky r x.f8 with
   | none=>rfl
   | some t =>
    unfold WL
    rw [oB h x hl]
    simp only [bt,E,A,Option.isSome_some,Bool.not_true,cond_false,cond_true,AB,Wz]
def ay (b:Box) (s:Spot):Bool:=CW b.fW 0 2000&&(CW b.fD 0 2000&&(CW b.fH 0 2000&&(CW s.fX 0 2000&&(CW s.fY 0 2000&&CW s.fZ 0 2000))))
def lc (p:Pallet) (b:Box) (s:Spot):Bool :=
 ay b s&&(decide (b.fW>0)&&(decide (b.fD>0)&&(decide (b.fH>0)&&(decide (AK (s.fX+b.fW)≤p.fW)&&(decide (AK (s.fY+b.fD)≤p.fD)&&decide (AK (s.fZ+b.fH)≤p.fH))))))
def dZ (a D b A:Int):Bool:=decide (a<AK (b+A))&&decide (b<AK (a+D))
def mw (a:Box) (s:Spot) (b:Box) (t:Spot):Bool :=
 ay a s&&(ay b t&&(s.fJ==t.fJ&&(dZ s.fX a.fW t.fX b.fW&&(dZ s.fY a.fD t.fY b.fD&&dZ s.fZ a.fH t.fZ b.fH))))
theorem kq (fu:Nat) (n:Int):CS fu n=some (CW n 0 2000):=by unfold CS; rw [Ys]; rfl
theorem vT (fu:Nat) (b:Box) (s:Spot):KJ fu b s=some (ay b s):=by
 unfold KJ ay
 simp only [XT,AB]
 cases CW b.fW 0 2000 <;> cases CW b.fD 0 2000 <;> cases CW b.fH 0 2000 <;> cases CW s.fX 0 2000 <;> cases CW s.fY 0 2000 <;> cases CW s.fZ 0 2000 <;> rfl
theorem yD (fu:Nat) (b:Box) (s:Spot):RM fu b s=some (ay b s):=by
 unfold RM ay
 simp only [kq,AB]
 cases CW b.fW 0 2000 <;> cases CW b.fD 0 2000 <;> cases CW b.fH 0 2000 <;> cases CW s.fX 0 2000 <;> cases CW s.fY 0 2000 <;> cases CW s.fZ 0 2000 <;> rfl
theorem xR (fu:Nat) (p:Pallet) (b:Box) (s:Spot):V7 fu p b s=some (lc p b s):=by
 unfold V7 lc
 simp only [vT,AB]
 cases ay b s <;> cases decide (b.fW>0) <;> cases decide (b.fD>0) <;> cases decide (b.fH>0) <;> cases decide (AK (s.fX+b.fW)≤p.fW) <;> cases decide (AK (s.fY+b.fD)≤p.fD) <;> rfl
theorem td (n:Int):CW n 1 2000=(CW n 0 2000&&decide (n>0)):=by
 apply Bool.eq_iff_iff.2
 simp only [BS,Bool.and_eq_true,decide_eq_true_eq]
 omega
theorem yQ (fu:Nat) (p:Pallet) (b:Box) (s:Spot):V4 fu p b s=some (lc p b s):=by
 unfold V4 VK lc ay
 simp only [kq,j7,AB,td]
 cases CW b.fW 0 2000 <;> cases CW b.fD 0 2000 <;> cases CW b.fH 0 2000 <;> cases CW s.fX 0 2000 <;> cases CW s.fY 0 2000 <;> cases CW s.fZ 0 2000 <;> simp
 all_goals cases decide (0<b.fW) <;> cases decide (0<b.fD) <;> cases decide (0<b.fH) <;> simp
 all_goals cases decide (AK (s.fX+b.fW)≤p.fW) <;> cases decide (AK (s.fY+b.fD)≤p.fD) <;> simp
theorem zu (fu:Nat) (a D b A:Int):KK fu a D b A=some (dZ a D b A):=by
 unfold KK dZ
 cases decide (a<AK (b+A)) <;> rfl
theorem ye (fu:Nat) (a D b A:Int):PU fu a D b A=some (dZ a D b A):=by
 unfold PU dZ
 cases decide (a<AK (b+A)) <;> rfl
theorem yw (fu:Nat) (a:Box) (s:Spot) (b:Box) (t:Spot):UV fu a s b t=some (mw a s b t):=by
 unfold UV mw
 simp only [vT,zu,AB]
 cases ay a s <;> cases ay b t <;> cases s.fJ==t.fJ <;> cases dZ s.fX a.fW t.fX b.fW <;> cases dZ s.fY a.fD t.fY b.fD <;> rfl
theorem xT (fu:Nat) (a:Box) (s:Spot) (b:Box) (t:Spot):Ux fu a s b t=some (mw a s b t):=by
 unfold Ux UW mw
 simp only [yD,ye,AB,bne]
 cases ay a s <;> cases ay b t <;> cases s.fJ==t.fJ <;> cases dZ s.fX a.fW t.fX b.fW <;> cases dZ s.fY a.fD t.fY b.fD <;> rfl
def Yy (n:Int) (s:Spot):Int:=bif CW s.fJ 0 999999 then (if s.fJ+1>n then s.fJ+1 else n) else n
def TN (l:List Spot):Int:=l.foldl Yy 0
theorem tM {n:Int} (s:Spot) (h:0≤n∧n≤1000000):0≤Yy n s∧Yy n s≤1000000:=by
 unfold Yy
 cases hi:CW s.fJ 0 999999
 · exact h
 · have:=BS.1 hi
   simp only [cond_true]
   split <;> omega
theorem nI:∀ (l:List Spot) {n:Int},0≤n∧n≤1000000→0≤l.foldl Yy n∧l.foldl Yy n≤1000000
 | [],_,h=>h
 | s::l,_,h=>nI l (tM s h)
theorem d8 (l:List Spot):0≤TN l∧TN l≤1000000:=nI l AC
theorem ri {fu:Nat} {l:List Spot} (hl:l.length≤1048576) (L:l.length<fu):LH fu l=some (TN l):=by
 unfold LH
 have D:=lp l (λn (s:Int) i=>GV fu l n s i) (λl s=>some (l.foldl Yy s)) AC ?_ ?_ fu 0 L
 · exact D
 · intro n s i x M J A E
   simp only [GV.eq_2]
   unfold QC NU
   simp only [A,cond_true,J,AB,Ys,E,List.foldl_cons]
   unfold Yy
   cases hi:CW x.fJ 0 999999
   · rfl
   · have:=BS.1 hi
     simp only [cond_true]
     rw [AU AC AC]
 · intro n s i A
   simp only [GV.eq_2]
   unfold QC
   simp only [A,cond_false]
   rfl
theorem pi (fu:Nat) (a b:Int):LX fu a b=some (if a>b then a else b):=by
 unfold LX
 by_cases h:a>b
 · simp [h]
 · simp [h]
theorem qQ {fu:Nat} {l:List Spot} (hl:l.length≤1048576) (L:l.length<fu):N8 fu l=some (TN l):=by
 unfold N8
 have D:=lp l (λn (s:Int) i=>GU fu l n s i) (λl s=>some (l.foldl Yy s)) AC ?_ ?_ fu 0 L
 · exact D
 · intro n s i x M J A E
   simp only [GU.eq_2]
   unfold P8 NR
   simp only [A,cond_true,J,AB,XT,pi,E,List.foldl_cons]
   unfold Yy
   cases hi:CW x.fJ 0 999999
   · rfl
   · have:=BS.1 hi
     simp only [cond_true]
     rw [AU AC AC]
     congr 2
     split <;> split <;> omega
 · intro n s i A
   simp only [GU.eq_2]
   unfold P8
   simp only [A,cond_false]
   rfl
def lR (g:List Int→Bool) (out:List (List Int)) (u:Int):List (List Int):=match TO g out with
 | some i=>match out[i]? with
  | some x=>out.set i (x++[u])
  | none=>out
 | none=>out++[[u]]
def YB (r:Request) (u:Int) (l:List Int):Bool:=XS r (l++[u]) (Vn r)
def p8 (r:Request) (out:List (List Int)) (u:Int):List (List Int):=lR (YB r u) out u
def bI (r:Request) (out:List (List Int)) (u:Int):List (List Int):=match out.getLast? with
 | some l=>bif YB r u l then out.set (out.length - 1) (l++[u]) else out++[[u]]
 | none=>[[u]]
theorem ZN {r:Request} {out:List (List Int)} {l:List Int} (u:Int) (h:out.getLast? = some l):bI r out u=bif YB r u l then out.set (out.length - 1) (l++[u]) else out++[[u]]:=by unfold bI; rw [h]
def mz (r:Request) (us:List Int):List Int:=(jM (bR (us.map λu=>Vo r [u])) us.length).map λp=>(ix us p).getD 0
def vR (r:Request) (us:List Int):List (List Int):=(OI r us).foldl (bI r) []
def vD (r:Request) (us:List Int):List (List Int):=(mz r (OI r us)).foldl (p8 r) []
def ja (r:Request) (us:List Int):List (List Int):=bif r.fc==1 then vR r us else vD r us
theorem kL {g:List Int→Bool} {out:List (List Int)} {n:Nat} (u:Int) (h:dp n out):dp (n+1) (lR g out u):=by
 obtain ⟨_,A⟩:=h
 unfold lR
 split
 · rename_i i hi
   split
   · rename_i x D
     refine ⟨AJ,λl hl=>?_⟩
     rcases List.mem_or_eq_of_mem_set hl with hl | rfl
     · have:=A l hl; omega
     · have:=A x (List.mem_of_getElem? D); simp; omega
   · exact ⟨AC,λl hl=>by have:=A l hl; omega⟩
 · refine ⟨AJ,λl hl=>?_⟩
   rcases List.mem_append.1 hl with hl | hl
   · have:=A l hl; omega
   · rw [List.mem_singleton.1 hl]; simp
theorem kZ {r:Request} {out:List (List Int)} {n:Nat} (u:Int) (h:dp n out):dp (n+1) (bI r out u):=by
 obtain ⟨_,A⟩:=h
 unfold bI
 split
 · rename_i x E
   have D:=List.mem_of_getLast? E
   cases YB r u x
   · refine ⟨AJ,λl hl=>?_⟩
     rcases List.mem_append.1 hl with hl | hl
     · have:=A l hl; omega
     · rw [List.mem_singleton.1 hl]; simp
   · refine ⟨AJ,λl hl=>?_⟩
     rcases List.mem_or_eq_of_mem_set hl with hl | rfl
     · have:=A l hl; omega
     · have:=A x D; simp; omega
 · exact ⟨AD,λl hl=>by rw [List.mem_singleton.1 hl]; simp⟩
theorem kF {F:List (List Int)→Int→List (List Int)} (A:∀ out n u,dp n out→dp (n+1) (F out u)):∀ (l:List Int) {out:List (List Int)} {n:Nat},dp n out→dp (n+l.length) (l.foldl F out)
 | [],_,_,h=>h
 | u::l,out,n,h=>by
  have:=kF A l (A out n u h)
  rw [List.foldl_cons,List.length_cons,show n+(l.length+1)=n+1+l.length by omega]
  exact this
theorem xp {r:Request} {us:List Int} (h:us.length≤12):(OI r us).length≤12:=Nat.le_trans (Zy r us) h
theorem sH (r:Request) (us:List Int):(mz r us).length=us.length:=by simp [mz,VZ]
theorem j9 {r:Request} {us:List Int} (h:us.length≤12):dp 12 (ja r us):=by
 have E:=xp (r:=r) h
 have D:dp 0 ([]:List (List Int)):=⟨AD,AD⟩
 unfold ja
 cases r.fc==1
 · have:=kF (F:=p8 r) (λout n u A=>kL u A) (mz r (OI r us)) D
   rw [sH] at this
   exact ⟨by have:=this.1; simp only [cond_false]; unfold vD; omega,λl hl=>by have:=this.2 l hl; omega⟩
 · have:=kF (F:=bI r) (λout n u A=>kZ u A) (OI r us) D
   exact ⟨by have:=this.1; simp only [cond_true]; unfold vR; omega,λl hl=>by have:=this.2 l hl; omega⟩
theorem o3 {g:List Int→Bool} {out:List (List Int)} {c:Int} {n:Nat} (h:dp n out) (L:n≤1048576) {β:Type} (k:List (List Int)→Option β) (a:Int) (A:a=match TO g out with | some i=>(i:Int) | none=>-1) :
    (bif (decide (a<0)) then AA (BE 24 out [([c]:List Int)]) λx=>k x else AA (ix out a) λx=>AA (BE 8 x (([c]:List Int))) λy=>AA (ix out a) λz=>k (DB out a y))=k (lR g out c):=by
 obtain ⟨_,J⟩:=h
 unfold lR
 cases E:TO g out with
 | none =>
  rw [E] at A
  simp only at A
  subst A
  rw [AX AD,KU AJ,AB]
 | some i =>
  rw [E] at A
  simp only at A
  subst A
  obtain ⟨x,D,_⟩:=Xl E
  have:=J x (List.mem_of_getElem? D)
  rw [AM AD,EG,D,AB,KU AJ,AB,AB]
  simp [DB,D]
theorem eC {r:Request} (h:(CA r==0)=false) (us:List Int):OI r us=[]:=by
 unfold OI CP
 rw [h]
 apply List.filter_eq_nil_iff.2
 intro u _
 simp; omega
theorem oU {fu:Nat} {r:Request} (h:Sm fu r) (A:CA r=0):C8 fu r=some (CP r):=rN h A
theorem XY {α:Type} {out:List α} (h:out≠[]):∃ l,out.getLast? = some l∧ix out ((out.length:Int) - 1)=some l:=by
 cases hl:out.getLast? with
 | none=>exact absurd (List.getLast?_eq_none_iff.1 hl) h
 | some l =>
  have A:=List.length_pos_iff.2 h
  refine ⟨l,rfl,?_⟩
  rw [show (out.length:Int) - 1=((out.length - 1:Nat):Int) by omega,EG,← List.getLast?_eq_getElem?,hl]
theorem wl {fu:Nat} {r:Request} (h:Sm fu r) (us:List Int) (hl:us.length≤1048575):Ud fu r us=some (vR r us):=by
 have U:=h.fu
 have V:=Zy r us
 unfold Ud vR
 rw [kc h us AC,AB]
 cases O:CA r==0
 · rw [eC O]
   obtain ⟨m,rfl⟩:∃ m,fu=m+1:=⟨fu - 1,AC⟩
   rw [FT.eq_2]; rfl
 · have D:=XD (OI r us) (λn (o:List (List Int)) i=>FT fu r (OI r us) n o i) (λA o=>some (A.foldl (bI r) o)) (λA o=>∃ m,m+A.length≤1048575∧dp m o) AC ?_ ?_ fu [] ⟨0,AC,AD,AD⟩ AC
   · exact D
   · intro n o i u A Z J hI Y
     obtain ⟨m,hm,M⟩:=hI
     simp only [List.length_cons] at hm
     have h1:=M.1
     have e:=M.2
     have L:=Y (bI r o u) ⟨m+1,AC,kZ u M⟩
     simp only [FT.eq_2]
     unfold Q9 KS
     rw [J,cond_true,Z,AB,List.foldl_cons,← L,AU AC AC]
     by_cases E:o=[]
     · subst E
       rw [decide_eq_false AD,cond_false,KU AD,AB]; rfl
     · obtain ⟨l,N,Q⟩:=XY E
       have hp:=List.length_pos_iff.2 E
       have T:=e l (List.mem_of_getLast? N)
       rw [decide_eq_true AC,cond_true,Q,AB,pf h l u AC,AB,O,Bool.true_and]
       rw [ZN u N]
       unfold YB
       cases XS r (l++[u]) (Vn r)
       · rw [cond_false,cond_false,KU AJ,AB]
       · rw [cond_true,cond_true,AB,KU AJ,AB,AB]
         rw [show DB o ((o.length:Int) - 1) (l++[u])=o.set (o.length - 1) (l++[u]) by unfold DB; congr 1; omega]
   · intro n o i J _
     simp only [FT.eq_2]
     unfold Q9
     rw [J,cond_false]; rfl
theorem wI {fu:Nat} {r:Request} (h:Sm fu r) (us:List Int) (hl:us.length≤1048575):UR fu r us=some (vR r us):=by
 have Y:=h.fu
 have Z:=Zy r us
 unfold UR vR
 rw [Zg h,AB]
 cases N:CA r==0
 · rw [show (CA r != 0)=true by simp only [bne,N]; rfl,cond_true,eC N]; rfl
 · have M:CA r=0:=by simpa using N
   rw [show (CA r != 0)=false by simp [M],cond_false,oU h M,AB,oD h us AC,AB]
   unfold Yh
   rw [mC h,AB,oU h M,AB]
   have D:=XD (OI r us) (λn (o:List (List Int)) i=>H2 fu r (OI r us) (Wz (Ky r r.fP)) (CP r) n o i) (λA o=>some (A.foldl (bI r) o)) (λA o=>∃ m,m+A.length≤1048575∧dp m o) AC ?_ ?_ fu [] ⟨0,AC,AD,AD⟩ AC
   · rw [D]; rfl
   · intro n o i u A T J hI e
     obtain ⟨m,hm,O⟩:=hI
     simp only [List.length_cons] at hm
     have h1:=O.1
     have h2:=O.2
     have L:=e (bI r o u) ⟨m+1,AC,kZ u O⟩
     simp only [H2.eq_2]
     unfold SQ LI
     rw [J,cond_true,List.foldl_cons,← L,AU AC AC]
     by_cases E:o=[]
     · subst E
       rw [decide_eq_false AD,cond_false,T,AB,KU AD,AB]; rfl
     · obtain ⟨l,Q,U⟩:=XY E
       have hp:=List.length_pos_iff.2 E
       have V:=h2 l (List.mem_of_getLast? Q)
       rw [decide_eq_true AC,cond_true,U,AB,T,AB,rr,lE r _ l u AC AC,AB]
       rw [ZN u Q]
       unfold YB
       cases XS r (l++[u]) (Vn r)
       · rw [cond_false,cond_false,AB,KU AJ,AB]
       · rw [cond_true,cond_true,AB,AB,KU AJ,AB,AB]
         rw [show DB o ((o.length:Int) - 1) (l++[u])=o.set (o.length - 1) (l++[u]) by unfold DB; congr 1; omega]
   · intro n o i J _
     simp only [H2.eq_2]
     unfold SQ
     rw [J,cond_false]; rfl
theorem mR {us:List Int} {p:Int} (h:0≤p∧p<us.length):ix us p=some ((ix us p).getD 0):=by
 have:=W8 (l:=us) (i:=p.toNat) AC
 rw [show ((p.toNat:Nat):Int)=p by omega] at this
 rw [this]; rfl
theorem al {α β γ:Type} (f:γ→β→γ) (g:α→β):∀ (l:List α) (s:γ),(l.map g).foldl f s=l.foldl (λs x=>f s (g x)) s
 | [],_=>rfl
 | x::l,s=>by rw [List.map_cons,List.foldl_cons,List.foldl_cons,al f g l]
theorem uN {fu:Nat} {r:Request} (h:Sm fu r) (us:List Int) (hl:us.length<20):RX fu r us=some (vD r us):=by
 have Q:=h.fu
 have U:=Zy r us
 unfold RX vD mz
 rw [kc h us AC,AB]
 obtain ⟨t,e⟩:∃ t,t=OI r us:=⟨_,rfl⟩
 rw [← e] at U ⊢
 have O:=XD t (λn (o:List Int) i=>IB fu r t n o i) (λA o=>AA (JG fu (o++A.map λu=>Vo r [u])) λx=>DP fu r t x fu [] 0) (λA o=>o.length+A.length≤20) AC ?_ ?_ fu [] AJ AC
 · rw [O,List.nil_append,su Q AJ,AB,al,List.length_map]
   have L:=VZ (bR (t.map λu=>Vo r [u])) t.length
   have J:=λx=>ZA (k:=bR (t.map λu=>Vo r [u])) (n:=t.length) (x:=x)
   generalize jM (bR (t.map λu=>Vo r [u])) t.length=S at L J ⊢
   cases hc:CA r==0
   · have:t=[]:=by rw [e]; exact eC hc us
     subst this
     have:S=[]:=List.length_eq_zero_iff.1 (by simpa using L)
     subst this
     obtain ⟨m,rfl⟩:∃ m,fu=m+1:=⟨fu - 1,AC⟩
     rw [DP.eq_2]; rfl
   · have E:=XD S (λn (o:List (List Int)) i=>DP fu r t S n o i) (λA o=>some (A.foldl (λs p=>p8 r s ((ix t p).getD 0)) o)) (λA o=>(∃ m,m+A.length≤20∧dp m o)∧∀ p∈A,0≤p∧p<t.length) AC ?_ ?_ fu [] ⟨⟨0,AC,AD,AD⟩,λp T=>(J p).1 T⟩ AC
     · exact E
     · intro n o i p A Y D Z V
       obtain ⟨⟨m,hm,N⟩,M⟩:=Z
       simp only [List.length_cons] at hm
       have T:=mR (M p AD)
       simp only [DP.eq_2]
       unfold Om LV
       rw [D,cond_true,Y,AB,T,AB,List.foldl_cons]
       generalize (ix t p).getD 0=u
       rw [jt (λy=>NF fu y r u) (YB r u) (λl hl=>by
        have:=N.2 l hl
        unfold NF YB
        rw [pf h l u AC,AB,hc,Bool.true_and]) (by have:=N.1; omega) (by have:=N.1; omega),AB]
       refine (o3 (g:=YB r u) (c:=u) N AC (λx=>DP fu r t S n x (AK (i+1))) (Vy (YB r u) o 0) (by
        rw [bd]
        cases TO (YB r u) o <;> simp)).trans ?_
       exact V _ ⟨⟨m+1,AC,kL u N⟩,λq hq=>M q (by simp [hq])⟩
     · intro n o i D _
       simp only [DP.eq_2]
       unfold Om
       rw [D,cond_false]; rfl
 · intro n o i u A Y D Z V
   simp only [List.length_cons] at Z
   simp only [IB.eq_2]
   unfold O8
   rw [D,cond_true,Y,AB,oe h [u] AD AJ,AB,KU AJ,AB,V _ AJ]
   simp
 · intro n o i D _
   simp only [IB.eq_2]
   unfold O8
   rw [D,cond_false]; simp
theorem vn {fu:Nat} {r:Request} (h:Sm fu r) (us:List Int) (hl:us.length<20):RW fu r us=some (vD r us):=by
 have U:=h.fu
 have Y:=Zy r us
 unfold RW vD mz
 rw [Zg h,AB]
 cases hc:CA r==0
 · rw [show (CA r != 0)=true by simp only [bne,hc]; rfl,cond_true,eC hc]; rfl
 · have hz:CA r=0:=by simpa using hc
   rw [show (CA r != 0)=false by simp [hz],cond_false,oU h hz,AB,oD h us AC,AB]
   unfold XN
   rw [mC h,AB,oU h hz,AB]
   generalize OI r us=t at Y ⊢
   have O:=XD t (λn (o:List Int) i=>JA fu r t (Wz (Ky r r.fP)) (CP r) n o i) (λA o=>AA (JK fu (o++A.map λu=>Vo r [u])) λx=>DN fu r t (Wz (Ky r r.fP)) (CP r) x fu [] 0) (λA o=>o.length+A.length≤20) AC ?_ ?_ fu [] AJ AC
   · rw [O,List.nil_append,sA U AJ,AB,al,List.length_map]
     have Z:=VZ (bR (t.map λu=>Vo r [u])) t.length
     have L:=λx=>ZA (k:=bR (t.map λu=>Vo r [u])) (n:=t.length) (x:=x)
     generalize jM (bR (t.map λu=>Vo r [u])) t.length=S at Z L ⊢
     have J:=XD S (λn (o:List (List Int)) i=>DN fu r t (Wz (Ky r r.fP)) (CP r) S n o i) (λA o=>some (A.foldl (λs p=>p8 r s ((ix t p).getD 0)) o)) (λA o=>(∃ m,m+A.length≤20∧dp m o)∧∀ p∈A,0≤p∧p<t.length) AC ?_ ?_ fu [] ⟨⟨0,AC,AD,AD⟩,λp V=>(L p).1 V⟩ AC
     · rw [J]; rfl
     · intro n o i p A hx D hI E
       obtain ⟨⟨m,hm,N⟩,M⟩:=hI
       simp only [List.length_cons] at hm
       have V:=mR (M p AD)
       have Ab:=N.1
       simp only [DN.eq_2]
       unfold Qa
       rw [D,cond_true,hx,AB,V,AB,List.foldl_cons]
       generalize (ix t p).getD 0=u
       obtain ⟨K,hK⟩:∃ K,K=DN fu r t (Wz (Ky r r.fP)) (CP r) S n:=⟨_,rfl⟩
       rw [← hK] at E ⊢
       obtain ⟨R,hR⟩:∃ R:Int→Option (List (List Int)),R=λa=>bif (decide (a<0)) then AA (BE 24 o [([u]:List Int)]) λx=>K x (AK (i+1)) else AA (ix o a) λx=>AA (BE 8 x (([u]:List Int))) λy=>AA (ix o a) λz=>K (DB o a y) (AK (i+1)):=⟨_,rfl⟩
       have hD:=zX o.length (λn a j=>G9 fu K r (Wz (Ky r r.fP)) (CP r) o i u n a j) (λA a=>R (A.foldl (lV (YB r u) o) a)) AC ?_ ?_ fu (-1) AC
       · rw [hD,hR]
         refine (o3 (g:=YB r u) (c:=u) N AC (λx=>K x (AK (i+1))) _ ?_).trans (E _ ⟨⟨m+1,AC,kL u N⟩,λq hq=>M q (by simp [hq])⟩)
         rw [cT (YB r u) o o.length (-1) (Nat.le_refl _),List.take_length]
         cases TO (YB r u) o <;> rfl
       · intro n a j A h0 h1 D E
         simp only [G9.eq_2]
         unfold QJ NT
         obtain ⟨j,rfl⟩:∃ q:Nat,j=q:=⟨j.toNat,AC⟩
         have T:j<o.length:=AC
         have hg:=N.2 _ (List.getElem_mem T)
         rw [D,cond_true,W8 T,AB,rr,lE r _ _ u AC AC,AB]
         have e:lV (YB r u) o a (j:Int)=bif XS r (o[j]++[u]) (Vn r) then (j:Int) else a:=by unfold lV zE YB; rw [W8 T]
         simp only [E,List.foldl_cons,e]
         cases XS r (o[j]++[u]) (Vn r) <;> rfl
       · intro n a j D
         simp only [G9.eq_2]
         unfold QJ NK
         rw [D,cond_false,hR]; rfl
     · intro n o i D _
       simp only [DN.eq_2]
       unfold Qa
       rw [D,cond_false]; rfl
   · intro n o i u A hx D hI E
     simp only [List.length_cons] at hI
     obtain ⟨_,_,i2⟩:=AG hx
     have e:RA t i (AK (i+1))=some [u]:=by
      rw [AU AC AC,OP AC]
      congr 1
      rw [show (i+1).toNat - i.toNat=1 by omega]
      have Q:=(List.getElem?_eq_some_iff.1 i2).1
      have Aa:=(List.getElem?_eq_some_iff.1 i2).2
      rw [List.drop_eq_getElem_cons Q,Aa]; rfl
     simp only [JA.eq_2]
     unfold QM
     rw [D,cond_true,e,AB,mZ r [u] AD AJ,AB,KU AJ,AB,E _ AJ]
     simp
   · intro n o i D _
     simp only [JA.eq_2]
     unfold QM
     rw [D,cond_false]; simp
theorem yC {fu:Nat} {r:Request} (h:Sm fu r) (us:List Int) (hl:us.length<20):T9 fu r us=some (ja r us):=by
 unfold T9 ja
 rw [wl h us AC,uN h us hl]
 cases r.fc==1 <;> rfl
theorem zr {fu:Nat} {r:Request} (h:Sm fu r) (us:List Int) (hl:us.length<20):Um fu r us=some (ja r us):=by
 unfold Um ja
 rw [wI h us AC,vn h us hl]
 cases r.fc==1 <;> rfl
theorem aU {α:Type} {l:List α} {i:Int} (A:0≤i) (D:i<l.length):∃ x,ix l i=some x:=by
 obtain ⟨j,rfl⟩:∃ j:Nat,i=j:=⟨i.toNat,AC⟩
 exact ⟨_,W8 AC⟩
def iP (p:Pallet) (b:Box):Bool:=CW b.fW 1 p.fW&&(CW b.fD 1 p.fD&&(CW b.fH 1 p.fH&&CW b.fQ 1 p.fQ))
def W9 (p:Pallet) (l:List Box):Bool:=QH p&&l.all (iP p)
theorem vO {fu:Nat} (p:Pallet) (l:List Box) (hl:l.length≤1048576) (E:l.length<fu):O5 fu p l=some (W9 p l):=by
 unfold O5 W9
 rw [oh,AB]
 cases QH p
 · rfl
 · rw [Bool.not_true,cond_false,Bool.true_and]
   have:=tl l (λn i=>G7 fu p l n i) (iP p) (some true) AC ?_ ?_ fu E
   · rw [this]
     cases l.all (iP p) <;> rfl
   · intro n i x D A
     simp only [G7.eq_2]
     unfold P4 T6 iP
     simp only [A,cond_true,D,AB,XT]
     cases CW x.fW 1 p.fW <;> cases CW x.fD 1 p.fD <;> cases CW x.fH 1 p.fH <;> cases CW x.fQ 1 p.fQ <;> rfl
   · intro n i A
     simp only [G7.eq_2]
     unfold P4
     rw [A,cond_false]
def rA {σ:Type} (D:σ→Bool) (A:σ→σ) (z:σ) (out:List σ):List σ:=match out.getLast? with
 | some s=>bif D s then out.set (out.length - 1) (A s) else out++[A z]
 | none=>[A z]
theorem Yt {σ:Type} {A:σ→Bool} {D:σ→σ} {z:σ} {out:List σ} {s:σ} (h:out.getLast? = some s):rA A D z out=bif A s then out.set (out.length - 1) (D s) else out++[D z]:=by unfold rA; rw [h]
theorem Xg {σ:Type} (A:σ→Bool) (D:σ→σ) (z:σ) (out:List σ):(rA A D z out).length≤out.length+1:=by
 unfold rA
 split
 · cases A _ <;> simp
 · simp
theorem ZR {σ:Type} {D:σ→Bool} {E:σ→σ} {z:σ} {out:List σ} {I:σ→Prop} (h:∀ s∈out,I s) (M:∀ s,I s→D s=true→I (E s)) (L:I (E z)):∀ s∈rA D E z out,I s:=by
 intro s A
 unfold rA at A
 split at A
 · rename_i x N
   have O:=List.mem_of_getLast? N
   cases J:D x
   · rw [J,cond_false] at A
     rcases List.mem_append.1 A with A | A
     · exact h s A
     · rw [List.mem_singleton.1 A]; exact L
   · rw [J,cond_true] at A
     rcases List.mem_or_eq_of_mem_set A with A | rfl
     · exact h s A
     · exact M x (h x O) J
 · rw [List.mem_singleton.1 A]; exact L
theorem U0 {σ:Type} {A:σ→Bool} {E:σ→σ} {z:σ} {out:List σ} {f:σ→List Int} {i:Int} (L:∀ s,f (E s)=f s++[i]) (N:f z=[]):((rA A E z out).map f).flatten=(out.map f).flatten++[i]:=by
 unfold rA
 split
 · rename_i x D
   cases A x
   · rw [cond_false,List.map_append,List.flatten_append]
     simp [L,N]
   · rw [cond_true]
     have J:out≠[]:=by intro e; rw [e] at D; simp at D
     have e:out=out.dropLast++[x]:=by
      have M:=List.dropLast_concat_getLast J
      rw [List.getLast?_eq_some_getLast J] at D
      rw [Option.some.inj D] at M
      exact M.symm
     obtain ⟨d,O⟩:∃ d,out=d++[x]:=⟨_,e⟩
     rw [O]
     simp [L]
 · rename_i D
   have:out=[]:=List.getLast?_eq_none_iff.1 D
   subst this
   simp [L,N]
def tD (a b:Int):Int:=if a>b then a else b
theorem WG (a b:Int):a≤tD a b∧b≤tD a b∧(tD a b=a∨tD a b=b):=by unfold tD; split <;> omega
def zY:Box:=⟨0,0,0,0⟩
def KZ (l:List Box) (i:Int):Box:=(ix l i).getD zY
def bQ:Shelf:=⟨[],0,0,0,0⟩
def KE (s:Shelf) (i:Int) (b:Box):Shelf:=⟨s.f7++[i],s.fW+b.fW,tD s.fD b.fD,tD s.fH b.fH,s.fQ+b.fQ⟩
def jB (p:Pallet) (b:Box) (s:Shelf):Bool:=decide (s.fW+b.fW≤p.fW)&&decide (s.fQ+b.fQ≤p.fQ)
def jP (p:Pallet) (l:List Box) (out:List Shelf) (i:Int):List Shelf:=rA (jB p (KZ l i)) (λs=>KE s i (KZ l i)) bQ out
def YJ (p:Pallet) (l:List Box):List Shelf:=bif W9 p l then (jM (bR (l.map (·.fD))) l.length).foldl (jP p l) [] else []
structure ShI (p:Pallet) (n:Nat) (s:Shelf):Prop where
 ne:s.f7≠[]
 inn:∀ i∈s.f7,0≤i∧i<n
 w:1≤s.fW∧s.fW≤p.fW
 d:1≤s.fD∧s.fD≤p.fD
 h:1≤s.fH∧s.fH≤p.fH
 g:1≤s.fQ∧s.fQ≤p.fQ
theorem YY {p:Pallet} {l:List Box} (h:W9 p l=true) {i:Int} (hi:0≤i∧i<l.length):ix l i=some (KZ l i)∧(1≤(KZ l i).fW∧(KZ l i).fW≤p.fW)∧(1≤(KZ l i).fD∧(KZ l i).fD≤p.fD)∧(1≤(KZ l i).fH∧(KZ l i).fH≤p.fH)∧(1≤(KZ l i).fQ∧(KZ l i).fQ≤p.fQ):=by
 obtain ⟨x,A⟩:=aU (l:=l) hi.1 hi.2
 have e:KZ l i=x:=by unfold KZ; rw [A]; rfl
 unfold W9 at h
 simp only [Bool.and_eq_true] at h
 have:=List.all_eq_true.1 h.2 x (DA A)
 simp only [iP,Bool.and_eq_true,BS] at this
 rw [e]
 exact ⟨A,this.1,this.2.1,this.2.2.1,this.2.2.2⟩
theorem WJ {p:Pallet} (h:QH p=true):(1≤p.fW∧p.fW≤2000)∧(1≤p.fD∧p.fD≤2000)∧(1≤p.fH∧p.fH≤2000)∧(1≤p.fQ∧p.fQ≤100000):=by
 simp only [QH,Bool.and_eq_true,BS] at h
 exact ⟨h.1,h.2.1,h.2.2.1,h.2.2.2⟩
theorem ZG {p:Pallet} {l:List Box} (h:W9 p l=true):QH p=true:=by
 unfold W9 at h
 simp only [Bool.and_eq_true] at h
 exact h.1
theorem ke {p:Pallet} {l:List Box} (E:W9 p l=true) {out:List Shelf} {i:Int} (hi:0≤i∧i<l.length) (h:∀ s∈out,ShI p l.length s):∀ s∈jP p l out i,ShI p l.length s:=by
 obtain ⟨_,_,_,_,_⟩:=YY E hi
 refine ZR h (λs L D=>?_) ⟨by simp [KE],λj A=>?_,?_,?_,?_,?_⟩
 · unfold jB at D
   simp only [Bool.and_eq_true,decide_eq_true_eq] at D
   obtain ⟨s1,J,_,_,_,_⟩:=L
   have M:=WG s.fD (KZ l i).fD
   have N:=WG s.fH (KZ l i).fH
   refine ⟨by simp [KE],λj A=>?_,?_,?_,?_,?_⟩
   · simp only [KE,List.mem_append,List.mem_singleton] at A
     rcases A with A | rfl
     · exact J j A
     · exact hi
   · simp only [KE]; omega
   · simp only [KE]; omega
   · simp only [KE]; omega
   · simp only [KE]; omega
 · simp only [KE,bQ,List.nil_append,List.mem_singleton] at A
   rw [A]; exact hi
 · simp only [KE,bQ]; omega
 · have:=WG 0 (KZ l i).fD
   simp only [KE,bQ]; omega
 · have:=WG 0 (KZ l i).fH
   simp only [KE,bQ]; omega
 · simp only [KE,bQ]; omega
theorem pA {p:Pallet} {l:List Box} (A:W9 p l=true):∀ (is:List Int) (out:List Shelf),(∀ i∈is,0≤i∧i<l.length)→(∀ s∈out,ShI p l.length s)→(∀ s∈is.foldl (jP p l) out,ShI p l.length s)∧((is.foldl (jP p l) out).map (·.f7)).flatten=(out.map (·.f7)).flatten++is∧(is.foldl (jP p l) out).length≤out.length+is.length
 | [],out,_,h=>⟨h,AD,AD⟩
 | i::is,out,hi,h=>by
  rw [List.foldl_cons]
  obtain ⟨L,D,_⟩:=pA A is (jP p l out i) (λj J=>hi j (by simp [J])) (ke A (hi i AD) h)
  have E:((jP p l out i).map (·.f7)).flatten=(out.map (·.f7)).flatten++[i]:=U0 (λs=>rfl) rfl
  have M:(jP p l out i).length≤out.length+1:=Xg _ _ _ _
  refine ⟨L,by rw [D,E]; simp,AJ⟩
theorem bN {p:Pallet} {l:List Box} (D:W9 p l=true):(∀ s∈YJ p l,ShI p l.length s)∧((YJ p l).map (·.f7)).flatten=jM (bR (l.map (·.fD))) l.length∧(YJ p l).length≤l.length:=by
 unfold YJ
 rw [D,cond_true]
 obtain ⟨J,E,A⟩:=pA D (jM (bR (l.map (·.fD))) l.length) [] (λi hi=>ZA.1 hi) AD
 refine ⟨J,by simpa using E,?_⟩
 rw [VZ] at A
 simpa using A
theorem vV {fu:Nat} (s:Shelf) (i:Int) (b:Box) (hl:s.f7.length≤1000000) (D:-1000000000≤s.fW+b.fW∧s.fW+b.fW≤1000000000) (A:-1000000000≤s.fQ+b.fQ∧s.fQ+b.fQ≤1000000000):IV fu s i b=some (KE s i b):=by
 unfold IV
 rw [KU AJ,AB,KU AJ,AB,pi,AB,pi,AB,AU AC AC,AU AC AC]
 rfl
theorem PZ {σ:Type} (f:σ→List Int):∀ (l:List σ) (s:σ),s∈l→(f s).length≤((l.map f).flatten).length
 | [],_,h=>by simp at h
 | x::l,s,h=>by
  simp only [List.map_cons,List.flatten_cons,List.length_append]
  rcases List.mem_cons.1 h with rfl | h
  · omega
  · have:=PZ f l s h; omega
theorem qn {fu:Nat} (Q:2097153≤fu) (p:Pallet) (l:List Box) (hl:l.length≤1000):UP fu p l=some (YJ p l):=by
 unfold UP YJ
 rw [vO p l AC AC,AB]
 cases U:W9 p l
 · rfl
 · rw [Bool.not_true,cond_false,cond_true]
   have N:=XD l (λn (o:List Int) i=>I4 fu p l n o i) (λA o=>AA (JK fu (o++A.map (·.fD))) λx=>FO fu p l x fu [] 0) (λA o=>o.length+A.length≤1000) AC ?_ ?_ fu [] AJ AC
   · rw [N,List.nil_append,sA Q AJ,AB,List.length_map]
     have V:=VZ (bR (l.map (·.fD))) l.length
     have L:=λx=>ZA (k:=bR (l.map (·.fD))) (n:=l.length) (x:=x)
     generalize jM (bR (l.map (·.fD))) l.length=S at V L ⊢
     have L1:=XD S (λn (o:List Shelf) i=>FO fu p l S n o i) (λA o=>some (A.foldl (jP p l) o)) (λA o=>(∀ i∈A,0≤i∧i<l.length)∧(∀ s∈o,ShI p l.length s)∧((o.map (·.f7)).flatten).length+A.length≤1000∧o.length+A.length≤1000) AC ?_ ?_ fu [] ⟨λi hi=>(L i).1 hi,AD,AJ,AJ⟩ AC
     · exact L1
     · intro n o i x A Z J hI e
       obtain ⟨i1,i2,i3,i4⟩:=hI
       simp only [List.length_cons] at i3 i4
       have M:=i1 x AD
       obtain ⟨O,_,_,_,_⟩:=YY U M
       obtain ⟨_,_,_,_⟩:=WJ (ZG U)
       have hn:IV fu bQ x (KZ l x)=some (KE bQ x (KZ l x)):=vV bQ x _ (by simp [bQ]) (by simp [bQ]; omega) (by simp [bQ]; omega)
       have h:IV fu (⟨[],0,0,0,0⟩:Shelf) x (KZ l x)=some (KE bQ x (KZ l x)):=hn
       have E:((jP p l o x).map (·.f7)).flatten=(o.map (·.f7)).flatten++[x]:=U0 (λs=>rfl) rfl
       have Aa:(jP p l o x).length≤o.length+1:=Xg _ _ _ _
       have T:=e (jP p l o x) ⟨λj hj=>i1 j (by simp [hj]),ke U M i2,by rw [E,List.length_append,List.length_singleton]; omega,AC⟩
       simp only [FO.eq_2]
       unfold P3 JE
       rw [J,cond_true,Z,AB,O,AB,List.foldl_cons,← T,h,AB]
       by_cases Y:o=[]
       · subst Y
         rw [AM AD,AB,KU AD,AB]; rfl
       · obtain ⟨s,e1,e2⟩:=XY Y
         have hp:=List.length_pos_iff.2 Y
         have D:=List.mem_of_getLast? e1
         have hs:=i2 s D
         have Ab:=PZ (λs:Shelf=>s.f7) o s D
         rw [AU (n:=(o.length:Int) - 1) AC AC,e2,AB,AX AJ]
         obtain ⟨s1,_,_,_,_,_⟩:=hs
         rw [AU (n:=s.fW+_) AC AC,AU (n:=s.fQ+_) AC AC,AB,AB,AB,vV (fu:=fu) s x (KZ l x) AC AC AC]
         simp only [AB]
         rw [KU AJ,AB]
         have eS:jP p l o x=bif jB p (KZ l x) s then o.set (o.length - 1) (KE s x (KZ l x)) else o++[KE bQ x (KZ l x)]:=Yt e1
         rw [eS]
         unfold jB
         rw [show DB o ((o.length:Int) - 1) (KE s x (KZ l x))=o.set (o.length - 1) (KE s x (KZ l x)) by unfold DB; congr 1; omega]
         cases decide (s.fW+(KZ l x).fW≤p.fW) <;> cases decide (s.fQ+(KZ l x).fQ≤p.fQ) <;> rfl
     · intro n o i J _
       simp only [FO.eq_2]
       unfold P3
       rw [J,cond_false]; rfl
   · intro n o i x A Z J hI e
     simp only [List.length_cons] at hI
     simp only [I4.eq_2]
     unfold QQ
     rw [J,cond_true,Z,AB,KU AJ,AB,e _ AJ]
     simp
   · intro n o i J _
     simp only [I4.eq_2]
     unfold QQ
     rw [J,cond_false]; simp
end Go.Proofs.YtdgpkmgnjdpieaaGreatDoor
