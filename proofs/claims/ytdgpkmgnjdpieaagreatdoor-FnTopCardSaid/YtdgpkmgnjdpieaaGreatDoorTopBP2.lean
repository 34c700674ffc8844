/- TopBP: plain lemmas,.. -/
import Derived.Test.YtdgpkmgnjdpieaaGreatDoorTopBP1
set_option linter.unusedSimpArgs false
set_option linter.unusedVariables false
namespace Go.Proofs.YtdgpkmgnjdpieaaGreatDoor
open Go
open Enc (rd ow)
open Arg (argv)
open Ret (retv)
open Wf (wf)
theorem jN (r:Request) (u:Int):0≤(LJ r u).fQ∧(LJ r u).fQ≤100000:=by
 unfold LJ
 cases A:XR r u with
 | none=>simp [jB]
 | some x=>exact em (r:=r) (us:=[u]) (by simp [WH,List.filterMap_cons,A])
theorem yX {fu:Nat} {r:Request} (h:Sm fu r) (us:List Int) (hl:us.length≤1048576) (N:us.length<fu):Wx fu r us=some (Vg r us):=by
 unfold Wx
 rw [yD h,AB]
 have A:=XB us (λn s i=>GF fu r us (CP r) n s i) (λl n=>some (n+Vg r l)) (λl n=>0≤n∧n+100000*l.length≤100000*1048576) AC ?_ ?_ fu 0 ⟨AC,AC⟩ N
 · simpa using A
 · intro n s i x E O D M L
   simp only [GF.eq_2]
   unfold TL VO VF
   simp only [D,cond_true,O,AB,kv]
   have T:=jN r x
   have Q:=M.2
   simp only [List.length_cons] at Q
   rw [AU AC AC,L _ ⟨AC,AC⟩]
   congr 1
   have e:Vg r (x::E)=(LJ r x).fQ+Vg r E:=by
    unfold Vg WH LJ
    cases J:XR r x with
    | none=>simp [List.filterMap_cons,J,jB]
    | some y=>simp [List.filterMap_cons,J]
   rw [e]
   omega
 · intro n s i D _
   simp only [GF.eq_2]
   unfold TL
   simp only [D,cond_false]
   simp [Vg,WH]
theorem vP {fu:Nat} {r:Request} (h:Sm fu r) (us:List Int) (hl:us.length≤1048576) (N:us.length<fu):RI fu r us=some (Vg r us):=by
 unfold RI
 rw [eV h us hl N,AB]
 have L:=Zh r us
 have E:=XB (WH r us) (λn s i=>J2 fu (WH r us) n s i) (λl n=>some (n+HW (l.map (·.fQ)))) (λl n=>0≤n∧n+100000*l.length≤100000*1048576∧∀ x∈l,0≤x.fQ∧x.fQ≤100000) AC ?_ ?_ fu 0 ⟨AC,AC,λx D=>em D⟩ AC
 · simpa [Vg] using E
 · intro n s i x T D J A M
   simp only [J2.eq_2]
   unfold S6
   simp only [J,cond_true,D,AB]
   have U:=A.2.2 x AD
   have O:=A.2.1
   simp only [List.length_cons] at O
   rw [AU AC AC,M _ ⟨AC,AC,λy Q=>A.2.2 y (by simp [Q])⟩]
   simp only [List.map_cons,ED]
   congr 1
   omega
 · intro n s i J _
   simp only [J2.eq_2]
   unfold S6
   simp only [J,cond_false]
   simp
theorem rO (r:Request) (x:Int) (D:List Int):Vx r (x::D)=iz (LJ r x)+Vx r D:=by
 unfold Vx WH LJ
 cases A:XR r x with
 | none=>simp [List.filterMap_cons,A,tl]
 | some y=>simp [List.filterMap_cons,A]
theorem mN (r:Request) (x:Int) (D:List Int):Vg r (x::D)=(LJ r x).fQ+Vg r D:=by
 unfold Vg WH LJ
 cases A:XR r x with
 | none=>simp [List.filterMap_cons,A,jB]
 | some y=>simp [List.filterMap_cons,A]
theorem np {fu:Nat} (r:Request) (us:List Int) (hl:us.length≤1048576) (L:us.length<fu):TO fu r (CP r) us=some ⟨Vx r us,Vg r us⟩:=by
 unfold TO
 have A:=XB us (λn s i=>IX fu r (CP r) us n s i) (λl s=>some (⟨s.fvol+Vx r l,s.fgram+Vg r l⟩:L7))
  (λl s=>0≤s.fvol∧s.fvol+8000000000*l.length≤8000000000*1048576∧0≤s.fgram∧s.fgram+100000*l.length≤100000*1048576) AC ?_ ?_ fu ⟨0,0⟩ ⟨AD,AJ,AD,AJ⟩ L
 · simpa using A
 · intro n s i x Q M D J E
   simp only [IX.eq_2]
   unfold VQ XG XO
   simp only [D,cond_true,M,AB,kv,sA]
   have T:=om (LJ r x).fW (LJ r x).fH (LJ r x).fD
   have U:=jN r x
   obtain ⟨_,N,_,O⟩:=J
   simp only [List.length_cons] at N O
   rw [AU (n:=s.fvol+_) AC AC,AU (n:=s.fgram+_) AC AC,E _ ⟨AJ,AJ,AJ,AJ⟩,rO,mN,show cY (LJ r x).fW (LJ r x).fH (LJ r x).fD=iz (LJ r x) from rfl]
   simp only [Option.some.injEq,L7.mk.injEq]
   constructor <;> omega
 · intro n s i D _
   simp only [IX.eq_2]
   unfold VQ
   simp only [D,cond_false]
   simp [Vx,Vg,WH]
def X3 (r:Request) (us:List Int) (t:Typ):Bool:=decide (Vx r us≤iS t)&&decide (Vg r us≤t.fQ)
theorem mJ {fu:Nat} (r:Request) (t:Typ) (us:List Int) (u:Int) (hl:us.length<1048576) (A:us.length+1<fu):RS fu r (CP r) t us u=some (X3 r (us++[u]) t):=by
 unfold RS VP X3
 rw [KO AJ,AB,List.nil_append,KO AJ,AB,np r _ AJ AJ,AB,sA,AB]
 show (bif decide (Vx r (us++[u])≤iS t) then _ else _)=_
 cases decide (Vx r (us++[u])≤iS t) <;> simp
theorem l5 {fu:Nat} {r:Request} (h:Sm fu r) (t:Typ) (us:List Int) (hl:us.length≤1048576):RE fu r us t=some (X3 r us t):=by
 have A:=h.fu
 unfold RE X3
 rw [nZ h us hl AC,AB,vE,AB,vP h us hl AC]
 show (bif decide (Vx r us≤iS t) then _ else _)=_
 cases decide (Vx r us≤iS t) <;> simp
theorem tr {r:Request}:(WK (KB r r.fP)).1=VB r:=rfl
theorem pu {fu:Nat} {r:Request} (h:Sm fu r) (us:List Int) (u:Int) (hl:us.length<1048576):WM fu r us u=some (B9 r==0&&X3 r (us++[u]) (VB r)):=by
 have A:=h.fu
 unfold WM D9
 rw [tF h,AB,Xy h,AB]
 cases D:B9 r==0
 · rfl
 · rw [cond_true,KO AJ,AB,AB,List.nil_append,KO AJ,AB,l5 h _ _ AJ]
   rfl
theorem y0 (fu:Nat) (b:Bool):YK fu b=some (ql b):=by cases b <;> rfl
theorem zy {fu:Nat} {l:List Int} (hl:l.length≤1048576) (M:l.length<fu) (x:Int):UE fu l x=some (mX (λy=>y==x) l):=by
 unfold UE
 have:=XB l (λn s i=>Je fu l x n s i) (λl n=>some (n+mX (λy=>y==x) l)) (λl n=>0≤n∧n+l.length≤1048576) AC ?_ ?_ fu 0 ⟨AC,AC⟩ M
 · simpa using this
 · intro n s i y ys L A D J
   have E:=D.2
   simp only [List.length_cons] at E
   have N:=uW (y==x)
   simp only [Je.eq_2]
   unfold P2
   simp only [A,cond_true,L,AB,y0]
   rw [AU AC AC,J _ ⟨AC,AC⟩]
   simp only [mX]
   congr 1
   omega
 · intro n s i A D
   simp only [Je.eq_2]
   unfold P2
   simp only [A,cond_false,mX]
   simp
theorem qO (l:List Int) (x:Int):mX (λy=>y==x) l=(l.count x:Int):=by
 induction l with
 | nil=>rfl
 | cons y l A =>
  unfold mX ql
  rw [A,List.count_cons]
  cases D:y==x <;> simp [D] <;> omega
def On (r:Request) (us:List Int):List Int:=us.filter λu=>CW u 0 (((CP r).length:Int) - 1)
def vB (a b:List Int):Bool:=decide ((a.mergeSort λx y=>decide (x≤y))=b.mergeSort λx y=>decide (x≤y))
theorem sb {a b:List Int}:vB a b=true↔a.Perm b:=by
 unfold vB
 rw [decide_eq_true_iff]
 constructor
 · intro h
   have A:=List.mergeSort_perm a λx y=>decide (x≤y)
   rw [h] at A
   exact A.symm.trans (List.mergeSort_perm b _)
 · intro h
   exact oL (((List.mergeSort_perm a _).trans h).trans (List.mergeSort_perm b _).symm) (PP a) (PP b)
theorem mb:∀ (a b:List Int),a.length=b.length→(∀ x∈a,a.count x=b.count x)→a.Perm b
 | [],b,h,_=>by
  have:b=[]:=List.eq_nil_of_length_eq_zero h.symm
  subst this
  exact List.Perm.refl _
 | x::a,b,h,hc=>by
  have L:=hc x AD
  rw [List.count_cons_self] at L
  have M:x∈b:=List.count_pos_iff.1 AC
  have A:=List.perm_cons_erase M
  refine List.Perm.trans (List.Perm.cons x (mb a (b.erase x) ?_ ?_)) A.symm
  · have:=A.length_eq
    simp only [List.length_cons] at this h
    omega
  · intro y J
    have E:=hc y (by simp [J])
    have D:=A.count_eq y
    rw [List.count_cons] at E D
    omega
theorem ky {fu:Nat} {r:Request} (h:Sm fu r) (us:List Int) (hl:us.length≤1048576):LE fu r us=some (On r us):=by
 have A:=h.fu
 unfold LE D9 On
 rw [oh h,AB,KO AJ,AB,AB,List.nil_append,yh _ (λu=>!CW u 0 (((CP r).length:Int) - 1)) ?_ hl AC,AB]
 · simp
 · intro u _
   unfold VU
   rw [eJ,Yy,AB]
theorem oP {fu:Nat} {r:Request} (h:Sm fu r) (us:List Int) (hl:us.length≤1048576):Pe fu (CP r) us=some (On r us):=by
 have M:=h.fu
 unfold Pe On
 have:=XB us (λn out i=>G8 fu (CP r) us n out i) (λA out=>some (out++A.filter λu=>CW u 0 (((CP r).length:Int) - 1))) (λA out=>out.length+A.length≤1048576) AC ?_ ?_ fu [] (by simpa using hl) AC
 · simpa using this
 · intro n out i x A L D J E
   simp only [List.length_cons] at J
   simp only [G8.eq_2]
   unfold QH NC
   rw [D,cond_true,L,AB,eJ,X2,AB,AB,List.filter_cons]
   cases N:CW x 0 (((CP r).length:Int) - 1)
   · rw [cond_false,E _ AC]; simp
   · rw [cond_true,KO AJ,AB,E _ AJ]; simp
 · intro n out i D J
   simp only [G8.eq_2]
   unfold QH
   simp only [D,cond_false]
   simp
theorem pQ:∀ (a b:List Int),a.length=b.length→((a.zip b).all λp=>p.1==p.2)=decide (a=b)
 | [],[],_=>rfl
 | [],_::_,h=>by simp at h
 | _::_,[],h=>by simp at h
 | x::a,y::b,h=>by
  rw [List.zip_cons_cons,List.all_cons,pQ a b (by simpa using h)]
  by_cases A:x=y <;> simp [A]
theorem uf {fu:Nat} (a b:List Int) (hl:a.length≤1048576) (U:a.length<fu):JQ fu a b=some (decide (a=b)):=by
 unfold JQ
 by_cases h:a.length=b.length
 · rw [AM (by simp [h])]
   have L:(a.zip b).length=a.length:=by rw [List.length_zip]; omega
   have:=lp (a.zip b) (λn (_:Unit) i=>D3 fu a b n i) (λl _=>some (l.all λp=>p.1==p.2)) AC ?_ ?_ fu () AC
   · rw [pQ a b h] at this
     exact this
   · intro n _ i p T Q A M
     obtain ⟨J,_,E⟩:=AG Q
     rw [List.getElem?_zip_eq_some] at E
     rw [L] at A
     have O:ix a i=some p.1:=by unfold ix; rw [if_pos J]; exact E.1
     have N:ix b i=some p.2:=by unfold ix; rw [if_pos J]; exact E.2
     simp only [D3.eq_2]
     unfold JU
     rw [A,cond_true,O,AB,N,AB,M (),List.all_cons]
     by_cases D:p.1=p.2
     · rw [AM (by simp [D])]; simp [D]
     · rw [AX (by simpa using D)]; simp [D]
   · intro n _ i A
     rw [L] at A
     simp only [D3.eq_2]
     unfold JU
     simp [A]
 · rw [AX AJ]
   have:a≠b:=λe=>h (by rw [e])
   simp [this]
theorem gS {A:List Int} (h:A.length≤1048576):bU A=some (A.mergeSort λx y=>decide (x≤y)):=by
 unfold bU
 rw [if_pos AC]
theorem Zm (r:Request) (us:List Int):(On r us).length≤us.length:=List.length_filter_le _ _
def ke (r:Request) (u:Int):Int:=(LJ r u).fO
def cZ (r:Request) (c:List Int):Bool:=c.all λx=>c.all λy=>KW r.fT (ke r x) (ke r y)
theorem bo {r:Request} {us:List Int} {u:Int} (h:u∈On r us):0≤u∧u<(CP r).length:=by
 unfold On at h
 have:=(List.mem_filter.1 h).2
 rw [BS] at this
 omega
theorem Yd {r:Request} {u:Int} (h:0≤u∧u<(CP r).length):XR r u=some (LJ r u):=by
 obtain ⟨_,x,_,_,A⟩:=kT h
 unfold LJ
 rw [A]; rfl
theorem hB {r:Request}:∀ {l:List Int},(∀ u∈l,0≤u∧u<(CP r).length)→WH r l=l.map (LJ r)
 | [],_=>rfl
 | u::l,h=>by
  have A:=hB (r:=r) (l:=l) λv D=>h v (by simp [D])
  unfold WH at A ⊢
  rw [List.filterMap_cons,Yd (h u AD),A,List.map_cons]
theorem sF {α:Type} (l:List α) (L:Nat→Int→Option Bool) (g:α→Bool) (A:Option Bool) (hl:l.length≤1099511627776)
    (hs:∀ n (i:Int) x,ix l i=some x→decide (i<(l.length:Int))=true→L (n+1) i=bif g x then L n (AK (i+1)) else some false)
    (he:∀ n (i:Int),decide (i<(l.length:Int))=false→L (n+1) i=A):∀ n,l.length<n→L n 0=bif l.all g then A else some false:=by
 intro n M
 refine lp l (λn (_:Unit) i=>L n i) (λE _=>bif E.all g then A else some false) hl ?_ ?_ n () M
 · intro n s i x E N D J
   rw [hs n i x N D,J (),List.all_cons]
   cases g x <;> rfl
 · intro n s i D
   rw [he n i D]; rfl
structure Sep (p:List Pair) (P:List Int) (out:List (List Int)):Prop where
 ne:∀ g∈out,g≠[]
 inn:∀ g∈out,∀ x∈g,x∈P
 one:∀ g∈out,∀ x∈g,∀ y∈g,x≠y→VN p x y=true
 two:∀ (i j:Nat) (g h:List Int),out[i]? = some g→out[j]? = some h→i≠j→∀ x∈g,∀ y∈h,VN p x y=false
theorem gF {α:Type} {p q:α→Bool}:∀ {l:List α},(∀ x∈l,p x=q x)→l.all p=l.all q
 | [],_=>rfl
 | x::xs,h=>by rw [List.all_cons,List.all_cons,h x AD,gF λy A=>h y (by simp [A])]
def uY (r:Request) (t:Typ) (u:Int):Bool:=(XR r u).isSome&&Yf (LJ r u) t
def WL (r:Request) (us:List Int) (t:Typ):Bool:=B9 r==0&&(us.all (uY r t)&&X3 r us t)
theorem aC {r:Request} {u:Int}:(XR r u).isSome=true↔0≤u∧u<(CP r).length:=by
 constructor
 · intro h
   apply Decidable.byContradiction
   intro A
   rw [gr A] at h
   cases h
 · intro h
   rw [Yd h]; rfl
theorem oo {fu:Nat} {r:Request} (h:Sm fu r) (us:List Int) (t:Typ) (hl:us.length≤1048576):U3 fu r us t=some (WL r us t):=by
 have O:=h.fu
 have N:=Zh r us
 unfold U3 WL
 rw [Xy h,AB]
 cases U:B9 r==0
 · rfl
 · rw [Bool.not_true,cond_false,ky h us hl,AB,Bool.true_and]
   by_cases D:∀ u∈us,0≤u∧u<(CP r).length
   · have e:On r us=us:=List.filter_eq_self.2 λu A=>by have:=D u A; simp; omega
     have J:((us.length:Int) != (us.length:Int))=false:=AD
     rw [e,J,cond_false]
     unfold WQ
     rw [eV h us hl AC,AB,ZT _ (λx=>!Yf x t) ?_ AC AC,AB]
     · rw [l5 h t us hl,AB,hB D,List.any_map]
       have E:us.all (uY r t)=!(us.any ((λx=>!Yf x t) ∘ LJ r)):=by
        rw [List.not_any_eq_all_not]
        apply gF
        intro u A
        simp only [uY,aC.2 (D u A),Bool.true_and,Function.comp,Bool.not_not]
       rw [E]
       cases us.any ((λx=>!Yf x t) ∘ LJ r) <;> simp
     · intro x _
       unfold XV
       rw [vQ,AB]
   · have Q:(On r us).length<us.length:=by
       apply Decidable.byContradiction
       intro T
       apply D
       have e:(us.filter λu=>CW u 0 (((CP r).length:Int) - 1)).length=us.length:=by
        have:=List.length_filter_le (λu=>CW u 0 (((CP r).length:Int) - 1)) us
        have M:On r us=us.filter λu=>CW u 0 (((CP r).length:Int) - 1):=rfl
        rw [M] at T
        omega
       intro u A
       have:=List.length_filter_eq_length_iff.1 e u A
       simp at this
       omega
     have J:(((On r us).length:Int) != (us.length:Int))=true:=AJ
     rw [J,cond_true]
     have E:us.all (uY r t)=false:=by
      apply Bool.eq_false_iff.2
      intro L
      apply D
      intro u A
      have:=List.all_eq_true.1 L u A
      simp only [uY,Bool.and_eq_true] at this
      exact aC.1 this.1
     rw [E,Bool.false_and]
theorem ox {fu:Nat} {r:Request} (h:Sm fu r) (us:List Int) (t:Typ) (hl:us.length≤1048576):UP fu r us t=some (WL r us t):=by
 have O:=h.fu
 unfold UP WL
 rw [Zz h,AB]
 cases A:B9 r==0
 · have:(B9 r != 0)=true:=by simp only [bne,A]; rfl
   rw [this]; rfl
 · have:(B9 r != 0)=false:=by simp only [bne,A]; rfl
   have N:B9 r=0:=by simpa using A
   have M:C9 fu r=some (CP r):=r9 h N
   rw [this,cond_false,M,AB,Bool.true_and]
   have D:=lp us (λn (_:Unit) i=>HL fu r us t (CP r) n i) (λl _=>some (l.all (uY r t)&&X3 r us t)) AC ?_ ?_ fu () AC
   · exact D
   · intro n _ i x Q L E J
     simp only [HL.eq_2]
     unfold Uo WY WN
     simp only [E,cond_true,L,AB,kv,J (),List.all_cons,uY]
     cases (XR r x).isSome
     · rfl
     · simp only [Bool.not_true,cond_false,su (show 2097153≤fu by omega),AB]
       cases Yf (LJ r x) t <;> rfl
   · intro n _ i E
     simp only [HL.eq_2]
     unfold Uo W0
     simp only [E,cond_false,np r us hl (show us.length<fu by omega),AB,sA]
     show (bif decide (Vx r us≤iS t) then _ else _)=_
     unfold X3
     cases decide (Vx r us≤iS t) <;> simp
def pP (r:Request) (us:List Int) (s:Typ×Bool) (t:Typ):Typ×Bool :=
 bif WL r us t&&(!s.2||(decide (t.fd<s.1.fd)||(t.fd==s.1.fd&&decide (t.fe<s.1.fe)))) then (t,true) else s
def QJ (r:Request) (us:List Int):Typ×Bool:=r.fG.foldl (pP r us) (rU,false)
theorem oe {fu:Nat} {r:Request} (h:Sm fu r) (us:List Int) (hl:us.length≤1048576):MG fu r us=some (QJ r us):=by
 have M:=h.fu
 have O:=h.types
 unfold MG
 have D:=lp r.fG (λn (s:Typ×Bool) i=>Gz fu r us n s.1 s.2 i) (λl s=>some (l.foldl (pP r us) s)) AC ?_ ?_ fu (rU,false) AC
 · exact D
 · intro n s i x N L E J
   simp only [Gz.eq_2]
   unfold ON E7
   have A:=λa b=>J (a,b)
   simp only at A
   obtain ⟨b,f⟩:=s
   simp only [E,cond_true,L,AB,oo h us x hl,A,List.foldl_cons,pP]
   cases WL r us x <;> cases f <;> cases decide (x.fd<b.fd) <;> cases x.fd==b.fd <;> cases decide (x.fe<b.fe) <;> rfl
 · intro n s i E
   simp only [Gz.eq_2]
   unfold ON
   simp only [E,cond_false]
   rfl
theorem pk {fu:Nat} {r:Request} (h:Sm fu r) (us:List Int) (hl:us.length≤1048576):MK fu r us=some (QJ r us):=by
 have M:=h.fu
 have O:=h.types
 unfold MK
 have D:=lp r.fG (λn (s:Typ×Bool) i=>GD fu r us n s.1 s.2 i) (λl s=>some (l.foldl (pP r us) s)) AC ?_ ?_ fu (rU,false) AC
 · exact D
 · intro n s i x N L E J
   simp only [GD.eq_2]
   unfold N5 E9
   have A:=λa b=>J (a,b)
   simp only at A
   obtain ⟨b,f⟩:=s
   simp only [E,cond_true,L,AB,ox h us x hl,A,List.foldl_cons,pP]
   cases WL r us x <;> cases f <;> cases decide (x.fd<b.fd) <;> cases x.fd==b.fd <;> cases decide (x.fe<b.fe) <;> rfl
 · intro n s i E
   simp only [GD.eq_2]
   unfold N5
   simp only [E,cond_false]
   rfl
theorem c7 {fu:Nat} {r:Request} (h:Sm fu r) (A:Int):KF fu r A=some (WK (KB r A)):=by
 have L:=h.fu
 have M:=h.types
 unfold KF KB
 refine lp r.fG (λn (_:Unit) i=>H2 fu r A n i) (λl _=>some (WK (l.find? λt=>t.fe==A))) AC ?_ ?_ fu () AC
 · intro n s i x N J D E
   simp only [H2.eq_2]
   unfold N4
   simp only [D,cond_true,J,AB,E (),List.find?_cons]
   cases x.fe==A <;> rfl
 · intro n s i D
   simp only [H2.eq_2]
   unfold N4
   simp only [D,cond_false]
   rfl
def zc:Box:=⟨0,0,0,0⟩
def bQ (r:Request) (x:Carton):Int:=match KB r x.f8 with
 | some t=>bif B9 r==0 then t.ff+Vg r x.fK else 0
 | none=>0
def HZ (r:Request) (x:Carton):Box:=match KB r x.f8 with
 | some t=>bif B9 r==0 then ⟨t.fW,t.fD,t.fH,t.ff+Vg r x.fK⟩ else zc
 | none=>zc
theorem xj {r:Request} (L:B9 r=0) {A:Int} {t:Typ} (D:KB r A=some t):Yu t=true∧t∈r.fG∧t.fe=A:=by
 have E:=List.mem_of_find?_eq_some D
 have J:=List.find?_some D
 exact ⟨ZH (D4 L).1 t E,E,by simpa using J⟩
theorem oq {r:Request} (D:B9 r=0) {A:Int} {t:Typ} (E:KB r A=some t):0≤t.ff∧t.ff≤100000:=by
 have:=(xj D E).1
 simp only [Yu,Bool.and_eq_true,BS] at this
 omega
theorem mm {r:Request} (A:B9 r=0) {D:Int} {t:Typ} (E:KB r D=some t) (us:List Int) (hl:us.length≤1048576):AK (t.ff+Vg r us)=t.ff+Vg r us:=by
 have L:=oq A E
 have J:=kJ r us
 exact AU AC AC
theorem oD {fu:Nat} {r:Request} (h:Sm fu r) (x:Carton) (hl:x.fK.length≤1048576):U9 fu r x=some (bQ r x):=by
 have J:=h.fu
 unfold U9 bQ
 rw [ZQ h,AB,cr]
 cases E:KB r x.f8 with
 | none=>rfl
 | some t =>
  rw [Xy h]
  simp only [Option.isSome_some,Bool.not_true,cond_false,AB]
  cases D:B9 r==0
  · rfl
  · have A:B9 r=0:=by simpa using D
    unfold WV
    rw [vP h _ hl AC]
    simp only [Bool.not_true,cond_false,cond_true,AB,WK,mm A E _ hl]
theorem oi {fu:Nat} {r:Request} (h:Sm fu r) (x:Carton) (hl:x.fK.length≤1048576):Vs fu r x=some (bQ r x):=by
 have J:=h.fu
 unfold Vs bQ
 rw [c7 h,AB,cr,Zz h,AB]
 cases D:B9 r==0
 · have:(B9 r != 0)=true:=by simp only [bne,D]; rfl
   rw [this]
   cases KB r x.f8 <;> rfl
 · have A:B9 r=0:=by simpa using D
   rw [show (B9 r != 0)=false by simp [A],cond_false]
   cases E:KB r x.f8 with
   | none=>rfl
   | some t =>
    unfold WW
    rw [yX h _ hl AC]
    simp only [Option.isSome_some,Bool.not_true,cond_false,cond_true,AB,WK,mm A E _ hl]
theorem q5 {fu:Nat} {r:Request} (h:Sm fu r) (x:Carton) (hl:x.fK.length≤1048576):TZ fu r x=some (HZ r x):=by
 unfold TZ HZ
 rw [ZQ h,AB,cr]
 cases D:KB r x.f8 with
 | none=>rfl
 | some t =>
  rw [Xy h]
  simp only [Option.isSome_some,Bool.not_true,cond_false,AB]
  cases A:B9 r==0
  · rfl
  · unfold W5
    rw [oD h x hl]
    simp only [bQ,D,A,Bool.not_true,cond_false,cond_true,AB,WK]
theorem lc {fu:Nat} {r:Request} (h:Sm fu r) (x:Carton) (hl:x.fK.length≤1048576):L0 fu r x=some (HZ r x):=by
 unfold L0 HZ
 rw [c7 h,AB,cr,Zz h,AB]
 cases A:B9 r==0
 · have:(B9 r != 0)=true:=by simp only [bne,A]; rfl
   rw [this]
   cases KB r x.f8 <;> rfl
 · have D:B9 r=0:=by simpa using A
   rw [show (B9 r != 0)=false by simp [D],cond_false]
   cases E:KB r x.f8 with
   | none=>rfl
   | some t =>
    unfold WZ
    rw [oi h x hl]
    simp only [bQ,E,A,Option.isSome_some,Bool.not_true,cond_false,cond_true,AB,WK]
def av (b:Box) (s:Spot):Bool:=CW b.fW 0 2000&&(CW b.fD 0 2000&&(CW b.fH 0 2000&&(CW s.fX 0 2000&&(CW s.fY 0 2000&&CW s.fZ 0 2000))))
def md (p:Pallet) (b:Box) (s:Spot):Bool :=
 av b s&&(decide (b.fW>0)&&(decide (b.fD>0)&&(decide (b.fH>0)&&(decide (AK (s.fX+b.fW)≤p.fW)&&(decide (AK (s.fY+b.fD)≤p.fD)&&decide (AK (s.fZ+b.fH)≤p.fH))))))
def dU (a D b A:Int):Bool:=decide (a<AK (b+A))&&decide (b<AK (a+D))
def mx (a:Box) (s:Spot) (b:Box) (t:Spot):Bool :=
 av a s&&(av b t&&(s.fJ==t.fJ&&(dU s.fX a.fW t.fX b.fW&&(dU s.fY a.fD t.fY b.fD&&dU s.fZ a.fH t.fZ b.fH))))
theorem ki (fu:Nat) (n:Int):CS fu n=some (CW n 0 2000):=by unfold CS; rw [Yy]; rfl
theorem we (fu:Nat) (b:Box) (s:Spot):KI fu b s=some (av b s):=by
 unfold KI av
 simp only [X2,AB]
 cases CW b.fW 0 2000 <;> cases CW b.fD 0 2000 <;> cases CW b.fH 0 2000 <;> cases CW s.fX 0 2000 <;> cases CW s.fY 0 2000 <;> cases CW s.fZ 0 2000 <;> rfl
theorem yz (fu:Nat) (b:Box) (s:Spot):RG fu b s=some (av b s):=by
 unfold RG av
 simp only [ki,AB]
 cases CW b.fW 0 2000 <;> cases CW b.fD 0 2000 <;> cases CW b.fH 0 2000 <;> cases CW s.fX 0 2000 <;> cases CW s.fY 0 2000 <;> cases CW s.fZ 0 2000 <;> rfl
theorem zD (fu:Nat) (p:Pallet) (b:Box) (s:Spot):Wy fu p b s=some (md p b s):=by
 unfold Wy md
 simp only [we,AB]
 cases av b s <;> cases decide (b.fW>0) <;> cases decide (b.fD>0) <;> cases decide (b.fH>0) <;> cases decide (AK (s.fX+b.fW)≤p.fW) <;> cases decide (AK (s.fY+b.fD)≤p.fD) <;> rfl
theorem ri (n:Int):CW n 1 2000=(CW n 0 2000&&decide (n>0)):=by
 apply Bool.eq_iff_iff.2
 simp only [BS,Bool.and_eq_true,decide_eq_true_eq]
 omega
theorem yC (fu:Nat) (p:Pallet) (b:Box) (s:Spot):V6 fu p b s=some (md p b s):=by
 unfold V6 VS md av
 simp only [ki,j8,AB,ri]
 cases CW b.fW 0 2000 <;> cases CW b.fD 0 2000 <;> cases CW b.fH 0 2000 <;> cases CW s.fX 0 2000 <;> cases CW s.fY 0 2000 <;> cases CW s.fZ 0 2000 <;> simp
 all_goals cases decide (0<b.fW) <;> cases decide (0<b.fD) <;> cases decide (0<b.fH) <;> simp
 all_goals cases decide (AK (s.fX+b.fW)≤p.fW) <;> cases decide (AK (s.fY+b.fD)≤p.fD) <;> simp
theorem zC (fu:Nat) (a D b A:Int):KM fu a D b A=some (dU a D b A):=by
 unfold KM dU
 cases decide (a<AK (b+A)) <;> rfl
theorem yv (fu:Nat) (a D b A:Int):Pv fu a D b A=some (dU a D b A):=by
 unfold Pv dU
 cases decide (a<AK (b+A)) <;> rfl
theorem yn (fu:Nat) (a:Box) (s:Spot) (b:Box) (t:Spot):UN fu a s b t=some (mx a s b t):=by
 unfold UN mx
 simp only [we,zC,AB]
 cases av a s <;> cases av b t <;> cases s.fJ==t.fJ <;> cases dU s.fX a.fW t.fX b.fW <;> cases dU s.fY a.fD t.fY b.fD <;> rfl
theorem x7 (fu:Nat) (a:Box) (s:Spot) (b:Box) (t:Spot):T7 fu a s b t=some (mx a s b t):=by
 unfold T7 UR mx
 simp only [yz,yv,AB,bne]
 cases av a s <;> cases av b t <;> cases s.fJ==t.fJ <;> cases dU s.fX a.fW t.fX b.fW <;> cases dU s.fY a.fD t.fY b.fD <;> rfl
def YH (n:Int) (s:Spot):Int:=bif CW s.fJ 0 999999 then (if s.fJ+1>n then s.fJ+1 else n) else n
def TT (l:List Spot):Int:=l.foldl YH 0
theorem uC {n:Int} (s:Spot) (h:0≤n∧n≤1000000):0≤YH n s∧YH n s≤1000000:=by
 unfold YH
 cases hi:CW s.fJ 0 999999
 · exact h
 · have:=BS.1 hi
   simp only [cond_true]
   split <;> omega
theorem oV:∀ (l:List Spot) {n:Int},0≤n∧n≤1000000→0≤l.foldl YH n∧l.foldl YH n≤1000000
 | [],_,h=>h
 | s::l,_,h=>oV l (uC s h)
theorem eT (l:List Spot):0≤TT l∧TT l≤1000000:=oV l AC
theorem rk {fu:Nat} {l:List Spot} (hl:l.length≤1048576) (J:l.length<fu):LG fu l=some (TT l):=by
 unfold LG
 have A:=lp l (λn (s:Int) i=>GT fu l n s i) (λl s=>some (l.foldl YH s)) AC ?_ ?_ fu 0 J
 · exact A
 · intro n s i x M L D E
   simp only [GT.eq_2]
   unfold Ra NL
   simp only [D,cond_true,L,AB,Yy,E,List.foldl_cons]
   unfold YH
   cases hi:CW x.fJ 0 999999
   · rfl
   · have:=BS.1 hi
     simp only [cond_true]
     rw [AU AC AC]
 · intro n s i D
   simp only [GT.eq_2]
   unfold Ra
   simp only [D,cond_false]
   rfl
theorem pT (fu:Nat) (a b:Int):LW fu a b=some (if a>b then a else b):=by
 unfold LW
 by_cases h:a>b
 · simp [h]
 · simp [h]
theorem tf {fu:Nat} {l:List Spot} (hl:l.length≤1048576) (J:l.length<fu):N2 fu l=some (TT l):=by
 unfold N2
 have A:=lp l (λn (s:Int) i=>Ha fu l n s i) (λl s=>some (l.foldl YH s)) AC ?_ ?_ fu 0 J
 · exact A
 · intro n s i x M L D E
   simp only [Ha.eq_2]
   unfold Ro NM
   simp only [D,cond_true,L,AB,X2,pT,E,List.foldl_cons]
   unfold YH
   cases hi:CW x.fJ 0 999999
   · rfl
   · have:=BS.1 hi
     simp only [cond_true]
     rw [AU AC AC]
     congr 2
     split <;> split <;> omega
 · intro n s i D
   simp only [Ha.eq_2]
   unfold Ro
   simp only [D,cond_false]
   rfl
def lE (g:List Int→Bool) (out:List (List Int)) (u:Int):List (List Int):=match TU g out with
 | some i=>match out[i]? with
  | some x=>out.set i (x++[u])
  | none=>out
 | none=>out++[[u]]
def YL (r:Request) (u:Int) (l:List Int):Bool:=X3 r (l++[u]) (VB r)
def qz (r:Request) (out:List (List Int)) (u:Int):List (List Int):=lE (YL r u) out u
def bm (r:Request) (out:List (List Int)) (u:Int):List (List Int):=match out.getLast? with
 | some l=>bif YL r u l then out.set (out.length - 1) (l++[u]) else out++[[u]]
 | none=>[[u]]
theorem ZK {r:Request} {out:List (List Int)} {l:List Int} (u:Int) (h:out.getLast? = some l):bm r out u=bif YL r u l then out.set (out.length - 1) (l++[u]) else out++[[u]]:=by unfold bm; rw [h]
def ml (r:Request) (us:List Int):List Int:=(jt (ca (us.map λu=>Vx r [u])) us.length).map λp=>(ix us p).getD 0
def vS (r:Request) (us:List Int):List (List Int):=(On r us).foldl (bm r) []
def vL (r:Request) (us:List Int):List (List Int):=(ml r (On r us)).foldl (qz r) []
def jd (r:Request) (us:List Int):List (List Int):=bif r.fc==1 then vS r us else vL r us
theorem j7 {g:List Int→Bool} {out:List (List Int)} {n:Nat} (u:Int) (h:dP n out):dP (n+1) (lE g out u):=by
 obtain ⟨_,A⟩:=h
 unfold lE
 split
 · rename_i i hi
   split
   · rename_i x D
     refine ⟨AJ,λl hl=>?_⟩
     rcases List.mem_or_eq_of_mem_set hl with hl | rfl
     · have:=A l hl; omega
     · have:=A x (List.mem_of_getElem? D); simp; omega
   · exact ⟨AC,λl hl=>by have:=A l hl; omega⟩
 · refine ⟨AJ,λl hl=>?_⟩
   rcases List.mem_append.1 hl with hl | hl
   · have:=A l hl; omega
   · rw [List.mem_singleton.1 hl]; simp
theorem kP {r:Request} {out:List (List Int)} {n:Nat} (u:Int) (h:dP n out):dP (n+1) (bm r out u):=by
 obtain ⟨_,A⟩:=h
 unfold bm
 split
 · rename_i x D
   have E:=List.mem_of_getLast? D
   cases YL r u x
   · refine ⟨AJ,λl hl=>?_⟩
     rcases List.mem_append.1 hl with hl | hl
     · have:=A l hl; omega
     · rw [List.mem_singleton.1 hl]; simp
   · refine ⟨AJ,λl hl=>?_⟩
     rcases List.mem_or_eq_of_mem_set hl with hl | rfl
     · have:=A l hl; omega
     · have:=A x E; simp; omega
 · exact ⟨AD,λl hl=>by rw [List.mem_singleton.1 hl]; simp⟩
theorem ko {F:List (List Int)→Int→List (List Int)} (A:∀ out n u,dP n out→dP (n+1) (F out u)):∀ (l:List Int) {out:List (List Int)} {n:Nat},dP n out→dP (n+l.length) (l.foldl F out)
 | [],_,_,h=>h
 | u::l,out,n,h=>by
  have:=ko A l (A out n u h)
  rw [List.foldl_cons,List.length_cons,show n+(l.length+1)=n+1+l.length by omega]
  exact this
theorem wW {r:Request} {us:List Int} (h:us.length≤12):(On r us).length≤12:=Nat.le_trans (Zm r us) h
theorem rN (r:Request) (us:List Int):(ml r us).length=us.length:=by simp [ml,V7]
theorem jY {r:Request} {us:List Int} (h:us.length≤12):dP 12 (jd r us):=by
 have E:=wW (r:=r) h
 have D:dP 0 ([]:List (List Int)):=⟨AD,AD⟩
 unfold jd
 cases r.fc==1
 · have:=ko (F:=qz r) (λout n u A=>j7 u A) (ml r (On r us)) D
   rw [rN] at this
   exact ⟨by have:=this.1; simp only [cond_false]; unfold vL; omega,λl hl=>by have:=this.2 l hl; omega⟩
 · have:=ko (F:=bm r) (λout n u A=>kP u A) (On r us) D
   exact ⟨by have:=this.1; simp only [cond_true]; unfold vS; omega,λl hl=>by have:=this.2 l hl; omega⟩
theorem ol {g:List Int→Bool} {out:List (List Int)} {c:Int} {n:Nat} (h:dP n out) (L:n≤1048576) {β:Type} (k:List (List Int)→Option β) (a:Int) (A:a=match TU g out with | some i=>(i:Int) | none=>-1) :
    (bif (decide (a<0)) then AA (BE 24 out [([c]:List Int)]) λx=>k x else AA (ix out a) λx=>AA (BE 8 x (([c]:List Int))) λy=>AA (ix out a) λz=>k (DB out a y))=k (lE g out c):=by
 obtain ⟨_,J⟩:=h
 unfold lE
 cases D:TU g out with
 | none =>
  rw [D] at A
  simp only at A
  subst A
  rw [AX AD,KO AJ,AB]
 | some i =>
  rw [D] at A
  simp only at A
  subst A
  obtain ⟨x,E,_⟩:=Xv D
  have:=J x (List.mem_of_getElem? E)
  rw [AM AD,EG,E,AB,KO AJ,AB,AB]
  simp [DB,E]
theorem ey {r:Request} (h:(B9 r==0)=false) (us:List Int):On r us=[]:=by
 unfold On CP
 rw [h]
 apply List.filter_eq_nil_iff.2
 intro u _
 simp; omega
theorem n0 {fu:Nat} {r:Request} (h:Sm fu r) (A:B9 r=0):C9 fu r=some (CP r):=r9 h A
theorem X9 {α:Type} {out:List α} (h:out≠[]):∃ l,out.getLast? = some l∧ix out ((out.length:Int) - 1)=some l:=by
 cases hl:out.getLast? with
 | none=>exact absurd (List.getLast?_eq_none_iff.1 hl) h
 | some l =>
  have A:=List.length_pos_iff.2 h
  refine ⟨l,rfl,?_⟩
  rw [show (out.length:Int) - 1=((out.length - 1:Nat):Int) by omega,EG,← List.getLast?_eq_getElem?,hl]
theorem xg {fu:Nat} {r:Request} (h:Sm fu r) (us:List Int) (hl:us.length≤1048575):T8 fu r us=some (vS r us):=by
 have Aa:=h.fu
 have e:=Zm r us
 unfold T8 vS
 rw [ky h us AC,AB]
 cases N:B9 r==0
 · rw [ey N]
   obtain ⟨m,rfl⟩:∃ m,fu=m+1:=⟨fu - 1,AC⟩
   rw [FP.eq_2]; rfl
 · have E:=XB (On r us) (λn (o:List (List Int)) i=>FP fu r (On r us) n o i) (λA o=>some (A.foldl (bm r) o)) (λA o=>∃ m,m+A.length≤1048575∧dP m o) AC ?_ ?_ fu [] ⟨0,AC,AD,AD⟩ AC
   · exact E
   · intro n o i u A U J T Q
     obtain ⟨m,V,L⟩:=T
     simp only [List.length_cons] at V
     have h1:=L.1
     have Y:=L.2
     have M:=Q (bm r o u) ⟨m+1,AC,kP u L⟩
     simp only [FP.eq_2]
     unfold P3 KV
     rw [J,cond_true,U,AB,List.foldl_cons,← M,AU AC AC]
     by_cases D:o=[]
     · subst D
       rw [decide_eq_false AD,cond_false,KO AD,AB]; rfl
     · obtain ⟨l,O,Z⟩:=X9 D
       have hp:=List.length_pos_iff.2 D
       have Ab:=Y l (List.mem_of_getLast? O)
       rw [decide_eq_true AC,cond_true,Z,AB,pu h l u AC,AB,N,Bool.true_and]
       rw [ZK u O]
       unfold YL
       cases X3 r (l++[u]) (VB r)
       · rw [cond_false,cond_false,KO AJ,AB]
       · rw [cond_true,cond_true,AB,KO AJ,AB,AB]
         rw [show DB o ((o.length:Int) - 1) (l++[u])=o.set (o.length - 1) (l++[u]) by unfold DB; congr 1; omega]
   · intro n o i J _
     simp only [FP.eq_2]
     unfold P3
     rw [J,cond_false]; rfl
theorem xJ {fu:Nat} {r:Request} (h:Sm fu r) (us:List Int) (hl:us.length≤1048575):Un fu r us=some (vS r us):=by
 have Ab:=h.fu
 have Aa:=Zm r us
 unfold Un vS
 rw [Zz h,AB]
 cases D:B9 r==0
 · rw [show (B9 r != 0)=true by simp only [bne,D]; rfl,cond_true,ey D]; rfl
 · have J:B9 r=0:=by simpa using D
   rw [show (B9 r != 0)=false by simp [J],cond_false,n0 h J,AB,oP h us AC,AB]
   unfold Yt
   rw [lS h,AB,n0 h J,AB]
   have L:=XB (On r us) (λn (o:List (List Int)) i=>H3 fu r (On r us) (WK (KB r r.fP)) (CP r) n o i) (λA o=>some (A.foldl (bm r) o)) (λA o=>∃ m,m+A.length≤1048575∧dP m o) AC ?_ ?_ fu [] ⟨0,AC,AD,AD⟩ AC
   · rw [L]; rfl
   · intro n o i u A Q M V U
     obtain ⟨m,Y,N⟩:=V
     simp only [List.length_cons] at Y
     have h1:=N.1
     have Z:=N.2
     have O:=U (bm r o u) ⟨m+1,AC,kP u N⟩
     simp only [H3.eq_2]
     unfold SO LA
     rw [M,cond_true,List.foldl_cons,← O,AU AC AC]
     by_cases E:o=[]
     · subst E
       rw [decide_eq_false AD,cond_false,Q,AB,KO AD,AB]; rfl
     · obtain ⟨l,T,e⟩:=X9 E
       have hp:=List.length_pos_iff.2 E
       have Ac:=Z l (List.mem_of_getLast? T)
       rw [decide_eq_true AC,cond_true,e,AB,Q,AB,tr,mJ r _ l u AC AC,AB]
       rw [ZK u T]
       unfold YL
       cases X3 r (l++[u]) (VB r)
       · rw [cond_false,cond_false,AB,KO AJ,AB]
       · rw [cond_true,cond_true,AB,AB,KO AJ,AB,AB]
         rw [show DB o ((o.length:Int) - 1) (l++[u])=o.set (o.length - 1) (l++[u]) by unfold DB; congr 1; omega]
   · intro n o i M _
     simp only [H3.eq_2]
     unfold SO
     rw [M,cond_false]; rfl
theorem nu {us:List Int} {p:Int} (h:0≤p∧p<us.length):ix us p=some ((ix us p).getD 0):=by
 have:=Xi (l:=us) (i:=p.toNat) AC
 rw [show ((p.toNat:Nat):Int)=p by omega] at this
 rw [this]; rfl
theorem aE {α β γ:Type} (f:γ→β→γ) (g:α→β):∀ (l:List α) (s:γ),(l.map g).foldl f s=l.foldl (λs x=>f s (g x)) s
 | [],_=>rfl
 | x::l,s=>by rw [List.map_cons,List.foldl_cons,List.foldl_cons,aE f g l]
theorem tW {fu:Nat} {r:Request} (h:Sm fu r) (us:List Int) (hl:us.length<20):Sg fu r us=some (vL r us):=by
 have Y:=h.fu
 have V:=Zm r us
 unfold Sg vL ml
 rw [ky h us AC,AB]
 obtain ⟨t,ht⟩:∃ t,t=On r us:=⟨_,rfl⟩
 rw [← ht] at V ⊢
 have U:=XB t (λn (o:List Int) i=>IK fu r t n o i) (λA o=>AA (JD fu (o++A.map λu=>Vx r [u])) λx=>DP fu r t x fu [] 0) (λA o=>o.length+A.length≤20) AC ?_ ?_ fu [] AJ AC
 · rw [U,List.nil_append,sW Y AJ,AB,aE,List.length_map]
   have N:=V7 (ca (t.map λu=>Vx r [u])) t.length
   have L:=λx=>ZN (k:=ca (t.map λu=>Vx r [u])) (n:=t.length) (x:=x)
   generalize jt (ca (t.map λu=>Vx r [u])) t.length=S at N L ⊢
   cases e:B9 r==0
   · have:t=[]:=by rw [ht]; exact ey e us
     subst this
     have:S=[]:=List.length_eq_zero_iff.1 (by simpa using N)
     subst this
     obtain ⟨m,rfl⟩:∃ m,fu=m+1:=⟨fu - 1,AC⟩
     rw [DP.eq_2]; rfl
   · have E:=XB S (λn (o:List (List Int)) i=>DP fu r t S n o i) (λA o=>some (A.foldl (λs p=>qz r s ((ix t p).getD 0)) o)) (λA o=>(∃ m,m+A.length≤20∧dP m o)∧∀ p∈A,0≤p∧p<t.length) AC ?_ ?_ fu [] ⟨⟨0,AC,AD,AD⟩,λp Z=>(L p).1 Z⟩ AC
     · exact E
     · intro n o i p A T D Q O
       obtain ⟨⟨m,hm,J⟩,M⟩:=Q
       simp only [List.length_cons] at hm
       have Z:=nu (M p AD)
       simp only [DP.eq_2]
       unfold OP LX
       rw [D,cond_true,T,AB,Z,AB,List.foldl_cons]
       generalize (ix t p).getD 0=u
       rw [jS (λy=>NO fu y r u) (YL r u) (λl hl=>by
        have:=J.2 l hl
        unfold NO YL
        rw [pu h l u AC,AB,e,Bool.true_and]) (by have:=J.1; omega) (by have:=J.1; omega),AB]
       refine (ol (g:=YL r u) (c:=u) J AC (λx=>DP fu r t S n x (AK (i+1))) (VX (YL r u) o 0) (by
        rw [aM]
        cases TU (YL r u) o <;> simp)).trans ?_
       exact O _ ⟨⟨m+1,AC,j7 u J⟩,λq hq=>M q (by simp [hq])⟩
     · intro n o i D _
       simp only [DP.eq_2]
       unfold OP
       rw [D,cond_false]; rfl
 · intro n o i u A T D Q O
   simp only [List.length_cons] at Q
   simp only [IK.eq_2]
   unfold O0
   rw [D,cond_true,T,AB,nZ h [u] AD AJ,AB,KO AJ,AB,O _ AJ]
   simp
 · intro n o i D _
   simp only [IK.eq_2]
   unfold O0
   rw [D,cond_false]; simp
theorem uh {fu:Nat} {r:Request} (h:Sm fu r) (us:List Int) (hl:us.length<20):RW fu r us=some (vL r us):=by
 have Aa:=h.fu
 have Z:=Zm r us
 unfold RW vL ml
 rw [Zz h,AB]
 cases O:B9 r==0
 · rw [show (B9 r != 0)=true by simp only [bne,O]; rfl,cond_true,ey O]; rfl
 · have U:B9 r=0:=by simpa using O
   rw [show (B9 r != 0)=false by simp [U],cond_false,n0 h U,AB,oP h us AC,AB]
   unfold XL
   rw [lS h,AB,n0 h U,AB]
   generalize On r us=t at Z ⊢
   have V:=XB t (λn (o:List Int) i=>Jt fu r t (WK (KB r r.fP)) (CP r) n o i) (λA o=>AA (JE fu (o++A.map λu=>Vx r [u])) λx=>DK fu r t (WK (KB r r.fP)) (CP r) x fu [] 0) (λA o=>o.length+A.length≤20) AC ?_ ?_ fu [] AJ AC
   · rw [V,List.nil_append,tw Aa AJ,AB,aE,List.length_map]
     have Ad:=V7 (ca (t.map λu=>Vx r [u])) t.length
     have L:=λx=>ZN (k:=ca (t.map λu=>Vx r [u])) (n:=t.length) (x:=x)
     generalize jt (ca (t.map λu=>Vx r [u])) t.length=S at Ad L ⊢
     have J:=XB S (λn (o:List (List Int)) i=>DK fu r t (WK (KB r r.fP)) (CP r) S n o i) (λA o=>some (A.foldl (λs p=>qz r s ((ix t p).getD 0)) o)) (λA o=>(∃ m,m+A.length≤20∧dP m o)∧∀ p∈A,0≤p∧p<t.length) AC ?_ ?_ fu [] ⟨⟨0,AC,AD,AD⟩,λp hp=>(L p).1 hp⟩ AC
     · rw [J]; rfl
     · intro n o i p A T D Q E
       obtain ⟨⟨m,hm,N⟩,M⟩:=Q
       simp only [List.length_cons] at hm
       have hp:=nu (M p AD)
       have Ae:=N.1
       simp only [DK.eq_2]
       unfold Rv
       rw [D,cond_true,T,AB,hp,AB,List.foldl_cons]
       generalize (ix t p).getD 0=u
       obtain ⟨K,hK⟩:∃ K,K=DK fu r t (WK (KB r r.fP)) (CP r) S n:=⟨_,rfl⟩
       rw [← hK] at E ⊢
       obtain ⟨R,hR⟩:∃ R:Int→Option (List (List Int)),R=λa=>bif (decide (a<0)) then AA (BE 24 o [([u]:List Int)]) λx=>K x (AK (i+1)) else AA (ix o a) λx=>AA (BE 8 x (([u]:List Int))) λy=>AA (ix o a) λz=>K (DB o a y) (AK (i+1)):=⟨_,rfl⟩
       have hD:=lpD o.length (λn a j=>GV fu K r (WK (KB r r.fP)) (CP r) o i u n a j) (λA a=>R (A.foldl (lU (YL r u) o) a)) AC ?_ ?_ fu (-1) AC
       · rw [hD,hR]
         refine (ol (g:=YL r u) (c:=u) N AC (λx=>K x (AK (i+1))) _ ?_).trans (E _ ⟨⟨m+1,AC,j7 u N⟩,λq hq=>M q (by simp [hq])⟩)
         rw [df (YL r u) o o.length (-1) (Nat.le_refl _),List.take_length]
         cases TU (YL r u) o <;> rfl
       · intro n a j A h0 h1 D E
         simp only [GV.eq_2]
         unfold QO ND
         obtain ⟨j,rfl⟩:∃ q:Nat,j=q:=⟨j.toNat,AC⟩
         have Y:j<o.length:=AC
         have hg:=N.2 _ (List.getElem_mem Y)
         rw [D,cond_true,Xi Y,AB,tr,mJ r _ _ u AC AC,AB]
         have e:lU (YL r u) o a (j:Int)=bif X3 r (o[j]++[u]) (VB r) then (j:Int) else a:=by unfold lU zP YL; rw [Xi Y]
         simp only [E,List.foldl_cons,e]
         cases X3 r (o[j]++[u]) (VB r) <;> rfl
       · intro n a j D
         simp only [GV.eq_2]
         unfold QO NP
         rw [D,cond_false,hR]; rfl
     · intro n o i D _
       simp only [DK.eq_2]
       unfold Rv
       rw [D,cond_false]; rfl
   · intro n o i u A T D Q E
     simp only [List.length_cons] at Q
     obtain ⟨_,_,i2⟩:=AG T
     have e:RA t i (AK (i+1))=some [u]:=by
      rw [AU AC AC,N6 AC]
      congr 1
      rw [show (i+1).toNat - i.toNat=1 by omega]
      have Ab:=(List.getElem?_eq_some_iff.1 i2).1
      have Ac:=(List.getElem?_eq_some_iff.1 i2).2
      rw [List.drop_eq_getElem_cons Ab,Ac]; rfl
     simp only [Jt.eq_2]
     unfold P5
     rw [D,cond_true,e,AB,np r [u] AD AJ,AB,KO AJ,AB,E _ AJ]
     simp
   · intro n o i D _
     simp only [Jt.eq_2]
     unfold P5
     rw [D,cond_false]; simp
theorem yN {fu:Nat} {r:Request} (h:Sm fu r) (us:List Int) (hl:us.length<20):U0 fu r us=some (jd r us):=by
 unfold U0 jd
 rw [xg h us AC,tW h us hl]
 cases r.fc==1 <;> rfl
theorem ym {fu:Nat} {r:Request} (h:Sm fu r) (us:List Int) (hl:us.length<20):UF fu r us=some (jd r us):=by
 unfold UF jd
 rw [xJ h us AC,uh h us hl]
 cases r.fc==1 <;> rfl
theorem bh {α:Type} {l:List α} {i:Int} (A:0≤i) (D:i<l.length):∃ x,ix l i=some x:=by
 obtain ⟨j,rfl⟩:∃ j:Nat,i=j:=⟨i.toNat,AC⟩
 exact ⟨_,Xi AC⟩
def jn (p:Pallet) (b:Box):Bool:=CW b.fW 1 p.fW&&(CW b.fD 1 p.fD&&(CW b.fH 1 p.fH&&CW b.fQ 1 p.fQ))
def Xn (p:Pallet) (l:List Box):Bool:=Rc p&&l.all (jn p)
theorem vR {fu:Nat} (p:Pallet) (l:List Box) (hl:l.length≤1048576) (D:l.length<fu):OS fu p l=some (Xn p l):=by
 unfold OS Xn
 rw [pW,AB]
 cases Rc p
 · rfl
 · rw [Bool.not_true,cond_false,Bool.true_and]
   have:=sF l (λn i=>G5 fu p l n i) (jn p) (some true) AC ?_ ?_ fu D
   · rw [this]
     cases l.all (jn p) <;> rfl
   · intro n i x E A
     simp only [G5.eq_2]
     unfold P9 UB jn
     simp only [A,cond_true,E,AB,X2]
     cases CW x.fW 1 p.fW <;> cases CW x.fD 1 p.fD <;> cases CW x.fH 1 p.fH <;> cases CW x.fQ 1 p.fQ <;> rfl
   · intro n i A
     simp only [G5.eq_2]
     unfold P9
     rw [A,cond_false]
def sf {σ:Type} (D:σ→Bool) (A:σ→σ) (z:σ) (out:List σ):List σ:=match out.getLast? with
 | some s=>bif D s then out.set (out.length - 1) (A s) else out++[A z]
 | none=>[A z]
theorem Yz {σ:Type} {A:σ→Bool} {D:σ→σ} {z:σ} {out:List σ} {s:σ} (h:out.getLast? = some s):sf A D z out=bif A s then out.set (out.length - 1) (D s) else out++[D z]:=by unfold sf; rw [h]
theorem Xk {σ:Type} (A:σ→Bool) (D:σ→σ) (z:σ) (out:List σ):(sf A D z out).length≤out.length+1:=by
 unfold sf
 split
 · cases A _ <;> simp
 · simp
theorem ZU {σ:Type} {D:σ→Bool} {E:σ→σ} {z:σ} {out:List σ} {I:σ→Prop} (h:∀ s∈out,I s) (M:∀ s,I s→D s=true→I (E s)) (L:I (E z)):∀ s∈sf D E z out,I s:=by
 intro s A
 unfold sf at A
 split at A
 · rename_i x N
   have O:=List.mem_of_getLast? N
   cases J:D x
   · rw [J,cond_false] at A
     rcases List.mem_append.1 A with A | A
     · exact h s A
     · rw [List.mem_singleton.1 A]; exact L
   · rw [J,cond_true] at A
     rcases List.mem_or_eq_of_mem_set A with A | rfl
     · exact h s A
     · exact M x (h x O) J
 · rw [List.mem_singleton.1 A]; exact L
theorem Vd {σ:Type} {A:σ→Bool} {E:σ→σ} {z:σ} {out:List σ} {f:σ→List Int} {i:Int} (L:∀ s,f (E s)=f s++[i]) (N:f z=[]):((sf A E z out).map f).flatten=(out.map f).flatten++[i]:=by
 unfold sf
 split
 · rename_i x D
   cases A x
   · rw [cond_false,List.map_append,List.flatten_append]
     simp [L,N]
   · rw [cond_true]
     have J:out≠[]:=by intro e; rw [e] at D; simp at D
     have e:out=out.dropLast++[x]:=by
      have M:=List.dropLast_concat_getLast J
      rw [List.getLast?_eq_some_getLast J] at D
      rw [Option.some.inj D] at M
      exact M.symm
     obtain ⟨d,O⟩:∃ d,out=d++[x]:=⟨_,e⟩
     rw [O]
     simp [L]
 · rename_i D
   have:out=[]:=List.getLast?_eq_none_iff.1 D
   subst this
   simp [L,N]
def tQ (a b:Int):Int:=if a>b then a else b
theorem W6 (a b:Int):a≤tQ a b∧b≤tQ a b∧(tQ a b=a∨tQ a b=b):=by unfold tQ; split <;> omega
def zBx:Box:=⟨0,0,0,0⟩
def KX (l:List Box) (i:Int):Box:=(ix l i).getD zBx
def b9:Shelf:=⟨[],0,0,0,0⟩
def KA (s:Shelf) (i:Int) (b:Box):Shelf:=⟨s.f7++[i],s.fW+b.fW,tQ s.fD b.fD,tQ s.fH b.fH,s.fQ+b.fQ⟩
def jP (p:Pallet) (b:Box) (s:Shelf):Bool:=decide (s.fW+b.fW≤p.fW)&&decide (s.fQ+b.fQ≤p.fQ)
def j1 (p:Pallet) (l:List Box) (out:List Shelf) (i:Int):List Shelf:=sf (jP p (KX l i)) (λs=>KA s i (KX l i)) b9 out
def YV (p:Pallet) (l:List Box):List Shelf:=bif Xn p l then (jt (ca (l.map (·.fD))) l.length).foldl (j1 p l) [] else []
structure ShI (p:Pallet) (n:Nat) (s:Shelf):Prop where
 ne:s.f7≠[]
 inn:∀ i∈s.f7,0≤i∧i<n
 w:1≤s.fW∧s.fW≤p.fW
 d:1≤s.fD∧s.fD≤p.fD
 h:1≤s.fH∧s.fH≤p.fH
 g:1≤s.fQ∧s.fQ≤p.fQ
theorem Zl {p:Pallet} {l:List Box} (h:Xn p l=true) {i:Int} (hi:0≤i∧i<l.length):ix l i=some (KX l i)∧(1≤(KX l i).fW∧(KX l i).fW≤p.fW)∧(1≤(KX l i).fD∧(KX l i).fD≤p.fD)∧(1≤(KX l i).fH∧(KX l i).fH≤p.fH)∧(1≤(KX l i).fQ∧(KX l i).fQ≤p.fQ):=by
 obtain ⟨x,A⟩:=bh (l:=l) hi.1 hi.2
 have e:KX l i=x:=by unfold KX; rw [A]; rfl
 unfold Xn at h
 simp only [Bool.and_eq_true] at h
 have:=List.all_eq_true.1 h.2 x (C8 A)
 simp only [jn,Bool.and_eq_true,BS] at this
 rw [e]
 exact ⟨A,this.1,this.2.1,this.2.2.1,this.2.2.2⟩
theorem W8 {p:Pallet} (h:Rc p=true):(1≤p.fW∧p.fW≤2000)∧(1≤p.fD∧p.fD≤2000)∧(1≤p.fH∧p.fH≤2000)∧(1≤p.fQ∧p.fQ≤100000):=by
 simp only [Rc,Bool.and_eq_true,BS] at h
 exact ⟨h.1,h.2.1,h.2.2.1,h.2.2.2⟩
theorem ZY {p:Pallet} {l:List Box} (h:Xn p l=true):Rc p=true:=by
 unfold Xn at h
 simp only [Bool.and_eq_true] at h
 exact h.1
theorem kw {p:Pallet} {l:List Box} (J:Xn p l=true) {out:List Shelf} {i:Int} (hi:0≤i∧i<l.length) (h:∀ s∈out,ShI p l.length s):∀ s∈j1 p l out i,ShI p l.length s:=by
 obtain ⟨_,_,_,_,_⟩:=Zl J hi
 refine ZU h (λs L D=>?_) ⟨by simp [KA],λj A=>?_,?_,?_,?_,?_⟩
 · unfold jP at D
   simp only [Bool.and_eq_true,decide_eq_true_eq] at D
   obtain ⟨s1,E,_,_,_,_⟩:=L
   have M:=W6 s.fD (KX l i).fD
   have N:=W6 s.fH (KX l i).fH
   refine ⟨by simp [KA],λj A=>?_,?_,?_,?_,?_⟩
   · simp only [KA,List.mem_append,List.mem_singleton] at A
     rcases A with A | rfl
     · exact E j A
     · exact hi
   · simp only [KA]; omega
   · simp only [KA]; omega
   · simp only [KA]; omega
   · simp only [KA]; omega
 · simp only [KA,b9,List.nil_append,List.mem_singleton] at A
   rw [A]; exact hi
 · simp only [KA,b9]; omega
 · have:=W6 0 (KX l i).fD
   simp only [KA,b9]; omega
 · have:=W6 0 (KX l i).fH
   simp only [KA,b9]; omega
 · simp only [KA,b9]; omega
theorem ob {p:Pallet} {l:List Box} (A:Xn p l=true):∀ (is:List Int) (out:List Shelf),(∀ i∈is,0≤i∧i<l.length)→(∀ s∈out,ShI p l.length s)→(∀ s∈is.foldl (j1 p l) out,ShI p l.length s)∧((is.foldl (j1 p l) out).map (·.f7)).flatten=(out.map (·.f7)).flatten++is∧(is.foldl (j1 p l) out).length≤out.length+is.length
 | [],out,_,h=>⟨h,AD,AD⟩
 | i::is,out,hi,h=>by
  rw [List.foldl_cons]
  obtain ⟨E,D,_⟩:=ob A is (j1 p l out i) (λj L=>hi j (by simp [L])) (kw A (hi i AD) h)
  have J:((j1 p l out i).map (·.f7)).flatten=(out.map (·.f7)).flatten++[i]:=Vd (λs=>rfl) rfl
  have M:(j1 p l out i).length≤out.length+1:=Xk _ _ _ _
  refine ⟨E,by rw [D,J]; simp,AJ⟩
theorem be {p:Pallet} {l:List Box} (A:Xn p l=true):(∀ s∈YV p l,ShI p l.length s)∧((YV p l).map (·.f7)).flatten=jt (ca (l.map (·.fD))) l.length∧(YV p l).length≤l.length:=by
 unfold YV
 rw [A,cond_true]
 obtain ⟨J,E,D⟩:=ob A (jt (ca (l.map (·.fD))) l.length) [] (λi hi=>ZN.1 hi) AD
 refine ⟨J,by simpa using E,?_⟩
 rw [V7] at D
 simpa using D
theorem wm {fu:Nat} (s:Shelf) (i:Int) (b:Box) (hl:s.f7.length≤1000000) (D:-1000000000≤s.fW+b.fW∧s.fW+b.fW≤1000000000) (A:-1000000000≤s.fQ+b.fQ∧s.fQ+b.fQ≤1000000000):IR fu s i b=some (KA s i b):=by
 unfold IR
 rw [KO AJ,AB,KO AJ,AB,pT,AB,pT,AB,AU AC AC,AU AC AC]
 rfl
theorem PS {σ:Type} (f:σ→List Int):∀ (l:List σ) (s:σ),s∈l→(f s).length≤((l.map f).flatten).length
 | [],_,h=>by simp at h
 | x::l,s,h=>by
  simp only [List.map_cons,List.flatten_cons,List.length_append]
  rcases List.mem_cons.1 h with rfl | h
  · omega
  · have:=PS f l s h; omega
theorem qd {fu:Nat} (e:2097153≤fu) (p:Pallet) (l:List Box) (hl:l.length≤1000):T2 fu p l=some (YV p l):=by
 unfold T2 YV
 rw [vR p l AC AC,AB]
 cases U:Xn p l
 · rfl
 · rw [Bool.not_true,cond_false,cond_true]
   have Y:=XB l (λn (o:List Int) i=>I3 fu p l n o i) (λA o=>AA (JE fu (o++A.map (·.fD))) λx=>FM fu p l x fu [] 0) (λA o=>o.length+A.length≤1000) AC ?_ ?_ fu [] AJ AC
   · rw [Y,List.nil_append,tw e AJ,AB,List.length_map]
     have Aa:=V7 (ca (l.map (·.fD))) l.length
     have M:=λx=>ZN (k:=ca (l.map (·.fD))) (n:=l.length) (x:=x)
     generalize jt (ca (l.map (·.fD))) l.length=S at Aa M ⊢
     have L1:=XB S (λn (o:List Shelf) i=>FM fu p l S n o i) (λA o=>some (A.foldl (j1 p l) o)) (λA o=>(∀ i∈A,0≤i∧i<l.length)∧(∀ s∈o,ShI p l.length s)∧((o.map (·.f7)).flatten).length+A.length≤1000∧o.length+A.length≤1000) AC ?_ ?_ fu [] ⟨λi hi=>(M i).1 hi,AD,AJ,AJ⟩ AC
     · exact L1
     · intro n o i x A T E Q N
       obtain ⟨i1,i2,i3,i4⟩:=Q
       simp only [List.length_cons] at i3 i4
       have L:=i1 x AD
       obtain ⟨Z,_,_,_,_⟩:=Zl U L
       obtain ⟨_,_,_,_⟩:=W8 (ZY U)
       have hn:IR fu b9 x (KX l x)=some (KA b9 x (KX l x)):=wm b9 x _ (by simp [b9]) (by simp [b9]; omega) (by simp [b9]; omega)
       have h:IR fu (⟨[],0,0,0,0⟩:Shelf) x (KX l x)=some (KA b9 x (KX l x)):=hn
       have J:((j1 p l o x).map (·.f7)).flatten=(o.map (·.f7)).flatten++[x]:=Vd (λs=>rfl) rfl
       have Ac:(j1 p l o x).length≤o.length+1:=Xk _ _ _ _
       have O:=N (j1 p l o x) ⟨λj hj=>i1 j (by simp [hj]),kw U L i2,by rw [J,List.length_append,List.length_singleton]; omega,AC⟩
       simp only [FM.eq_2]
       unfold Rl Jn
       rw [E,cond_true,T,AB,Z,AB,List.foldl_cons,← O,h,AB]
       by_cases V:o=[]
       · subst V
         rw [AM AD,AB,KO AD,AB]; rfl
       · obtain ⟨s,e1,e2⟩:=X9 V
         have hp:=List.length_pos_iff.2 V
         have D:=List.mem_of_getLast? e1
         have hs:=i2 s D
         have Ab:=PS (λs:Shelf=>s.f7) o s D
         rw [AU (n:=(o.length:Int) - 1) AC AC,e2,AB,AX AJ]
         obtain ⟨s1,_,_,_,_,_⟩:=hs
         rw [AU (n:=s.fW+_) AC AC,AU (n:=s.fQ+_) AC AC,AB,AB,AB,wm (fu:=fu) s x (KX l x) AC AC AC]
         simp only [AB]
         rw [KO AJ,AB]
         have eS:j1 p l o x=bif jP p (KX l x) s then o.set (o.length - 1) (KA s x (KX l x)) else o++[KA b9 x (KX l x)]:=Yz e1
         rw [eS]
         unfold jP
         rw [show DB o ((o.length:Int) - 1) (KA s x (KX l x))=o.set (o.length - 1) (KA s x (KX l x)) by unfold DB; congr 1; omega]
         cases decide (s.fW+(KX l x).fW≤p.fW) <;> cases decide (s.fQ+(KX l x).fQ≤p.fQ) <;> rfl
     · intro n o i E _
       simp only [FM.eq_2]
       unfold Rl
       rw [E,cond_false]; rfl
   · intro n o i x A T E Q N
     simp only [List.length_cons] at Q
     simp only [I3.eq_2]
     unfold QU
     rw [E,cond_true,T,AB,KO AJ,AB,N _ AJ]
     simp
   · intro n o i E _
     simp only [I3.eq_2]
     unfold QU
     rw [E,cond_false]; simp
end Go.Proofs.YtdgpkmgnjdpieaaGreatDoor
