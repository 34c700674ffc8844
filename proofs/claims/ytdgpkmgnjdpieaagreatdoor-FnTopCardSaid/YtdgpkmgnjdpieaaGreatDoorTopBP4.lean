/- TopBP: plain lemmas,.. -/
import Derived.Test.YtdgpkmgnjdpieaaGreatDoorTopBP3
set_option linter.unusedSimpArgs false
set_option linter.unusedVariables false
namespace Go.Proofs.YtdgpkmgnjdpieaaGreatDoor
open Go
open Enc (rd ow)
open Arg (argv)
open Ret (retv)
open Wf (wf)
theorem yy {fu:Nat} {A:List (List Int)} (hl:A.length≤4) (J:∀ g∈A,g.length≤4) (L:100≤fu) (c:Int):Ul fu A c=some (k6 A c):=by
 unfold Ul
 have:=UZ A (λn i=>I5 fu A c n i) (λg=>g.contains c) AC (by
  intro n i x E D
  have:=J x (C8 E)
  simp only [I5.eq_2]
  unfold QZ
  simp only [D,cond_true,E,AB,s3 (show x.length≤1048576 by omega) (show x.length<fu by omega)]) (by
  intro n i D
  simp only [I5.eq_2]
  unfold QZ
  simp only [D,cond_false]) fu AC
 rw [this,aM]
 unfold k6
 cases TU (λg=>g.contains c) A <;> simp
theorem tK {fu:Nat} {l:List Carton} (f:Carton→Option Bool) (g:Carton→Bool) (E:∀ x∈l,f x=some (g x)) (hl:l.length≤1048576) (J:l.length<fu):CV fu l f=some (VX g l 0):=by
 unfold CV
 refine UZ l (λn i=>BI fu l f n i) g AC ?_ ?_ fu J
 · intro n i x D A
   simp only [BI.eq_2]
   unfold DN
   simp only [A,cond_true,D,AB,E x (C8 D)]
 · intro n i A
   simp only [BI.eq_2]
   unfold DN
   simp only [A,cond_false]
theorem ti {fu:Nat} {l:List Carton} (f:Carton→Option Bool) (g:Carton→Bool) (A:∀ x∈l,f x=some (g x)) (hl:l.length≤1048576) (D:l.length<fu):CH fu l f=some (l.any g):=by
 unfold CH
 rw [tK f g A hl D,AB,WE g l 0 AC]
def l8 (x:Plan):Bool:=x.fV.any λc=>(c.fK.length:Int)==0
theorem xT {fu:Nat} {x:Plan} (h:Sp x) (M:1048577≤fu):SE fu x=some (l8 x):=by
 have L:=h.cars
 unfold SE l8
 have A:=lp x.fV (λn (_:Unit) i=>IC fu x n i) (λl _=>some (l.any λc=>(c.fK.length:Int)==0)) AC ?_ ?_ fu () AC
 · exact A
 · intro n _ i c N J E D
   have D:=D ()
   simp only [IC.eq_2]
   unfold OG
   rw [E,cond_true,J,AB,D,List.any_cons]
   cases (c.fK.length:Int)==0 <;> rfl
 · intro n _ i E
   simp only [IC.eq_2]
   unfold OG
   rw [E,cond_false]; rfl
def dy (r:Request) (x:Plan):Bool:=vB (Lt x.fV) (BW 0 (CP r).length)
theorem ib {r:Request} {x:Plan}:dy r x=true↔(Lt x.fV).Perm (BW 0 (CP r).length):=sb
theorem wA {fu:Nat} {r:Request} (V:2097153≤fu) {x:Plan} (h:Sp x):Sb fu (CP r) x=some (dy r x):=by
 have U:=YD r
 have N:=ZM x.fV
 have ha:=h.all
 unfold Sb
 rw [xn h AC,AB]
 by_cases hl:(Lt x.fV).length=(CP r).length
 · rw [show (((Lt x.fV).length:Int) != ((CP r).length:Int))=false by simp; omega,cond_false]
   have E:=wu ((CP r).length:Int) (λn (_:Unit) i=>IE fu (CP r) (Lt x.fV) n i) (λl _=>some (l.all λu=>(Lt x.fV).count u==1)) AC ?_ ?_ (CP r).length fu () 0 AC AC AC
   · rw [E]
     congr 1
     apply Bool.eq_iff_iff.2
     rw [ib]
     constructor
     · intro Q
       refine (mb _ _ (by rw [B5,hl]) λu A=>?_).symm
       have M:=List.all_eq_true.1 Q u A
       have T:(BW 0 (CP r).length).count u=1:=by rw [List.Nodup.count (O2 _ _),if_pos A]
       have e:(Lt x.fV).count u=1:=by simpa using M
       omega
     · intro Y
       refine List.all_eq_true.2 λu A=>?_
       have T:(BW 0 (CP r).length).count u=1:=by rw [List.Nodup.count (O2 _ _),if_pos A]
       have:=Y.count_eq u
       simp; omega
   · intro n _ i Z h0 M J D
     have D:=D ()
     simp only [IE.eq_2]
     unfold N8
     rw [J,cond_true,zy AC AC,AB,qO,D,List.all_cons]
     by_cases L:(Lt x.fV).count i=1
     · simp [L]
     · rw [show (((Lt x.fV).count i:Int) != 1)=true by simp; omega,cond_true,show ((Lt x.fV).count i==1)=false by simpa using L]; rfl
   · intro n _ i J
     simp only [IE.eq_2]
     unfold N8
     rw [J,cond_false]; rfl
 · rw [show (((Lt x.fV).length:Int) != ((CP r).length:Int))=true by simp; omega,cond_true]
   congr 1
   symm
   apply Bool.eq_false_iff.2
   intro O
   have:=(ib.1 O).length_eq
   rw [B5] at this
   exact hl this
theorem lX (a:Int) (n:Nat):(BW a n).mergeSort (λx y=>decide (x≤y))=BW a n :=
 List.mergeSort_of_pairwise ((Xx a n).imp λh=>by simpa using (show _≤_ by omega))
def jh (r:Request) (c:Carton):Bool:=match KB r c.f8 with | some t=>WL r c.fK t | none=>false
def nA (r:Request) (c:Carton):Bool:=c.fK.all λu=>k6 (CD r) (LJ r u).fO==c.fF
def mU (r:Request) (c:Carton):Bool:=(QJ r c.fK).2&&(QJ r c.fK).1.fe==c.f8
theorem rq {fu:Nat} {r:Request} (h:Sm fu r) {x:Plan} (J:Sp x):Sx fu r x=some (x.fV.all (jh r)):=by
 have M:=h.fu
 have N:=J.cars
 unfold Sx
 have D:=lp x.fV (λn (_:Unit) i=>E0 fu r x n i) (λl _=>some (l.all (jh r))) AC ?_ ?_ fu () AC
 · exact D
 · intro n _ i c O e E A
   have A:=A ()
   have L:=J.units c (C8 e)
   simp only [E0.eq_2]
   unfold OE Tc S4
   rw [E,cond_true,e,AB,c7 h,AB,List.all_cons]
   unfold jh
   cases Q:KB r c.f8 with
   | none=>rfl
   | some t =>
    simp only [WK,Bool.not_true,cond_false]
    rw [AB,ox h _ t L,AB,A]
    cases WL r c.fK t <;> rfl
 · intro n _ i E
   simp only [E0.eq_2]
   unfold OE
   rw [E,cond_false]; rfl
theorem q0 {fu:Nat} {r:Request} (h:Sm fu r) {x:Plan} (N:Sp x):Sf fu r (CP r) x=some (x.fV.all (nA r)):=by
 have T:=h.fu
 have U:=N.cars
 unfold Sf
 rw [oG h,AB]
 have L:=lp x.fV (λn (_:Unit) i=>DA fu r (CP r) x (CD r) n i) (λl _=>some (l.all (nA r))) AC ?_ ?_ fu () AC
 · exact L
 · intro n _ i c O e M J
   have J:=J ()
   have V:=N.units c (C8 e)
   simp only [DA.eq_2]
   unfold OZ
   rw [M,cond_true]
   have E:=lp c.fK (λm (_:Unit) j=>E6 fu (DA fu r (CP r) x (CD r) n) r (CP r) x (CD r) i m j) (λl _=>some (l.all (λu=>k6 (CD r) (LJ r u).fO==c.fF)&&O.all (nA r))) AC ?_ ?_ fu () AC
   · rw [E]; rfl
   · intro m _ j u us Q D A
     have A:=A ()
     simp only [E6.eq_2]
     unfold OI Tk TM
     simp only [e,AB,D,cond_true,Q,kv,yy (R5 r).1 (R5 r).2 (show 100≤fu by omega),A,List.all_cons,bne]
     cases k6 (CD r) (LJ r u).fO==c.fF <;> rfl
   · intro m _ j D
     simp only [E6.eq_2]
     unfold OI SN
     simp only [e,AB,D,cond_false,J]
     rfl
 · intro n _ i M
   simp only [DA.eq_2]
   unfold OZ
   rw [M,cond_false]; rfl
theorem rs {fu:Nat} {r:Request} (h:Sm fu r) {x:Plan} (J:Sp x):R4 fu r x=some (x.fV.all (mU r)):=by
 have M:=h.fu
 have N:=J.cars
 unfold R4
 have A:=lp x.fV (λn (_:Unit) i=>EY fu r x n i) (λl _=>some (l.all (mU r))) AC ?_ ?_ fu () AC
 · exact A
 · intro n _ i c O e E D
   have D:=D ()
   have L:=J.units c (C8 e)
   simp only [EY.eq_2]
   unfold O5 SP SL
   simp only [E,cond_true,e,AB,pk h _ L,List.all_cons,D,bne,mU]
   cases (QJ r c.fK).2 <;> cases (QJ r c.fK).1.fe==c.f8 <;> rfl
 · intro n _ i E
   simp only [EY.eq_2]
   unfold O5
   rw [E,cond_false]; rfl
def cs (x:Plan):List (Carton×Spot):=x.fV.zip x.fE
def jl (r:Request) (p:Carton×Spot):Bool:=md r.fJ (HZ r p.1) p.2
def wO (r:Request) (p q:Carton×Spot):Bool:=mx (HZ r p.1) p.2 (HZ r q.1) q.2
def bW (r:Request):List (Carton×Spot)→List (Carton×Spot)→Bool
 | _,[]=>true
 | pre,p::l=>pre.all (λq=>!wO r p q)&&bW r (pre++[p]) l
theorem m5 {x:Plan} (A:x.fE.length=x.fV.length):(cs x).length=x.fV.length:=by simp [cs]; omega
theorem xB {fu:Nat} {r:Request} (h:Sm fu r) {x:Plan} (J:Sp x) (N:x.fE.length=x.fV.length):PJ fu r x=some ((cs x).all (jl r)):=by
 have T:=h.fu
 have U:=J.cars
 have L:=m5 N
 unfold PJ
 have E:=lp (cs x) (λn (_:Unit) i=>HC fu r x n i) (λl _=>some (l.all (jl r))) AC ?_ ?_ fu () AC
 · exact E
 · intro n _ i p V e A D
   have D:=D ()
   obtain ⟨M,Q⟩:=Yh e
   have O:=J.units p.1 (C8 M)
   rw [L] at A
   simp only [HC.eq_2]
   unfold M1
   simp only [A,cond_true,M,Q,AB,lc h _ O,zD,D,List.all_cons,jl]
   cases md r.fJ (HZ r p.1) p.2 <;> rfl
 · intro n _ i A
   rw [L] at A
   simp only [HC.eq_2]
   unfold M1
   rw [A,cond_false]; rfl
theorem xy {fu:Nat} {r:Request} (h:Sm fu r) {x:Plan} (M:Sp x) (el:x.fE.length=x.fV.length):R9 fu r x=some (bW r [] (cs x)):=by
 have Aa:=h.fu
 have hc:=M.cars
 have T:=m5 el
 unfold R9
 have N:=vU (cs x) (λn (_:Unit) i=>E8 fu r x n i) (λpre l _=>some (bW r pre l)) AC ?_ ?_ fu () AC
 · exact N
 · intro n _ pre p Z V e J L
   have L:=L ()
   obtain ⟨U,e2⟩:=Yh e
   have hu:=M.units p.1 (C8 U)
   have Y:pre.length≤(cs x).length:=by rw [V]; simp
   rw [T] at J
   simp only [E8.eq_2]
   unfold OL
   rw [J,cond_true]
   have E:=lp pre (λm (_:Unit) j=>IH fu (E8 fu r x n) r x (pre.length:Int) m j) (λl _=>some (l.all (λq=>!wO r p q)&&bW r (pre++[p]) Z)) AC ?_ ?_ fu () AC
   · rw [E]; rfl
   · intro m _ j q qs f D A
     have A:=A ()
     have f':ix (cs x) j=some q:=by rw [V]; exact ka f
     obtain ⟨Q,f2⟩:=Yh f'
     have O:=M.units q.1 (C8 Q)
     simp only [IH.eq_2]
     unfold N9
     simp only [D,cond_true,U,e2,Q,f2,AB,lc h _ hu,lc h _ O,yn,A,List.all_cons,wO]
     cases mx (HZ r p.1) p.2 (HZ r q.1) q.2 <;> rfl
   · intro m _ j D
     simp only [IH.eq_2]
     unfold N9
     rw [D,cond_false,L]; rfl
 · intro n _ J
   rw [T] at J ⊢
   simp only [E8.eq_2]
   unfold OL
   rw [J,cond_false]; rfl
def lC (r:Request) (x:Plan) (k:Int):Bool :=
 !(((YR x k).length:Int)==0)&&(!(decide (uP r x k>r.fJ.fQ))&&(YR x k).all λi=>(WC x i).fF==(WC x (ix (YR x k) 0 |>.getD 0)).fF)
theorem kM {x:Plan} {k:Int} (D:(((YR x k).length:Int)==0)=false):∃ A E,ix (YR x k) 0=some A∧ix x.fV A=some E∧∃ rest,YR x k=A::rest:=by
 cases hl:YR x k with
 | nil=>simp [hl] at D
 | cons A rest =>
  obtain ⟨E,_,J,_⟩:=ZI (show A∈YR x k by rw [hl]; simp)
  exact ⟨A,E,rfl,J,rest,rfl⟩
theorem wU {fu:Nat} {r:Request} (h:Sm fu r) {x:Plan} (Q:Sp x):NN fu r x=some ((BW 0 (TT x.fE).toNat).all (lC r x)):=by
 have Ac:=h.fu
 have hc:=Q.cars
 have hs:=Q.spots
 have hb:=eT x.fE
 unfold NN
 rw [tf hs AC,AB]
 have U:=wu (TT x.fE) (λn (_:Unit) i=>CX fu r x (TT x.fE) n i) (λl _=>some (l.all (lC r x))) AC ?_ ?_ (TT x.fE).toNat fu () 0 AC AC AC
 · exact U
 · intro n _ k xs h0 h1 V L
   have L:=L ()
   have Ab:=eC x k
   simp only [CX.eq_2]
   unfold L9
   rw [V,cond_true,yR hs hc AC AC,AB,List.all_cons]
   generalize xs.all (lC r x)=A at L ⊢
   unfold lC
   cases Z:((YR x k).length:Int)==0
   · rw [cond_false,zX h Q,AB,Bool.not_false,Bool.true_and]
     cases decide (uP r x k>r.fJ.fQ)
     · obtain ⟨N,T,g1,g2,rest,M⟩:=kM Z
       rw [cond_false,g1,Option.getD_some,Bool.not_false,Bool.true_and]
       unfold OA
       have e0:WC x N=T:=by unfold WC; rw [g2]; rfl
       rw [e0]
       have E:∀ (D:List Int) (pre:List Int) (m:Nat),YR x k=pre++D→D.length<m→GK fu (CX fu r x (TT x.fE) n) x k (YR x k) m (pre.length:Int)=some (D.all (λi=>(WC x i).fF==T.fF)&&A):=by
        intro D
        induction D with
        | nil =>
         intro pre m e hm
         obtain ⟨m,rfl⟩:∃ k,m=k+1:=⟨m - 1,AC⟩
         rw [GK.eq_2]
         unfold Mq O8
         rw [show decide ((pre.length:Int)<((YR x k).length:Int))=false from decide_eq_false (by rw [e]; simp),cond_false,L]
         rfl
        | cons i D O =>
         intro pre m e hm
         obtain ⟨m,rfl⟩:∃ k,m=k+1:=⟨m - 1,AC⟩
         have hi:i∈YR x k:=by rw [e]; simp
         obtain ⟨c,_,J,_⟩:=ZI hi
         have Y:ix (YR x k) (pre.length:Int)=some i:=by rw [e,EG]; simp
         have Aa:pre.length+1≤(YR x k).length:=by rw [e]; simp
         rw [GK.eq_2]
         unfold Mq
         rw [show decide ((pre.length:Int)<((YR x k).length:Int))=true from decide_eq_true AC,cond_true,Y,AB,J,AB,g1,AB,g2,AB,YC _ AC]
         have:=O (pre++[i]) m (by rw [e]; simp) (by simp at hm; omega)
         rw [List.length_append,List.length_singleton] at this
         rw [this,List.all_cons,show WC x i=c by unfold WC; rw [J]; rfl]
         simp only [bne]
         cases c.fF==T.fF <;> rfl
       have:=E rest [N] fu (by rw [M]; rfl) (by have:(YR x k).length=rest.length+1:=(by rw [M]; rfl); omega)
       rw [show ((1:Int))=(([N]:List Int).length:Int) from rfl,this]
       conv=>rhs; rw [M]
       rw [List.all_cons,e0]
       simp
     · rfl
   · rfl
 · intro n _ i V
   simp only [CX.eq_2]
   unfold L9
   rw [V,cond_false]; rfl
def d0 (r:Request) (x:Plan):Int :=
 bif !(B9 r==0) then 1 else bif !(RQ x) then 2 else bif l8 x then 2 else bif !(dy r x) then 3 else bif !(x.fV.all (jh r)) then 4 else
 bif !(x.fV.all (nA r)) then 5 else bif !(x.fV.all (mU r)) then 6 else bif !((cs x).all (jl r)) then 7 else bif !(bW r [] (cs x)) then 8 else
 bif !((BW 0 (TT x.fE).toNat).all (lC r x)) then 9 else 0
theorem kI {x:Plan} (h:RQ x=true):x.fE.length=x.fV.length:=by
 unfold RQ at h
 simp only [Bool.and_eq_true] at h
 simpa using h.1
theorem tZ {fu:Nat} {r:Request} (h:Sm fu r) {x:Plan} (A:Sp x):Xp fu r x=some (d0 r x):=by
 have D:=h.fu
 unfold Xp d0
 rw [Zz h,AB]
 cases E:B9 r==0
 · rw [show (B9 r != 0)=true by simp only [bne,E]; rfl]; rfl
 · have L:B9 r=0:=by simpa using E
   have N:C9 fu r=some (CP r):=r9 h L
   rw [show (B9 r != 0)=false by simp [L],cond_false,pm A AC,AB]
   cases M:RQ x
   · rfl
   · have J:=kI M
     unfold WT
     rw [Bool.not_true,cond_false,xT A AC,AB]
     cases l8 x
     · rw [cond_false,N,AB,wA D A,AB,rq h A,AB,q0 h A,AB,rs h A,AB,xB h A J,AB,xy h A J,AB,wU h A,AB]
       cases dy r x <;> cases x.fV.all (jh r) <;> cases x.fV.all (nA r) <;> cases x.fV.all (mU r) <;> cases (cs x).all (jl r) <;> cases bW r [] (cs x) <;> cases (BW 0 (TT x.fE).toNat).all (lC r x) <;> rfl
     · rfl
theorem uU {r:Request} {A:Int} {t:Typ} (h:KB r A=some t):t∈r.fG:=List.mem_of_find?_eq_some h
theorem og (r:Request) (us:List Int):∀ (l:List Typ) (s:Typ×Bool),(l.foldl (pP r us) s).2=(s.2||l.any (WL r us))
 | [],s=>by simp
 | t::l,s=>by
  rw [List.foldl_cons,og r us l,List.any_cons]
  unfold pP
  obtain ⟨b,f⟩:=s
  cases WL r us t <;> cases f <;> simp
  cases (decide (t.fd<b.fd)||t.fd==b.fd&&decide (t.fe<b.fe)) <;> simp
theorem mS {r:Request} {us:List Int} {t:Typ} (A:t∈r.fG) (h:WL r us t=true):(QJ r us).2=true:=by
 unfold QJ
 rw [og]
 simp only [Bool.false_or]
 exact List.any_eq_true.2 ⟨t,A,h⟩
theorem zm {r:Request} {c:Carton} (h:jh r c=true):∀ u∈c.fK,0≤u∧u<(CP r).length:=by
 unfold jh at h
 intro u A
 split at h
 · simp only [WL,Bool.and_eq_true] at h
   have:=List.all_eq_true.1 h.2.1 u A
   simp only [uY,Bool.and_eq_true] at this
   exact aC.1 this.1
 · cases h
theorem qr {r:Request} {u:Int} (J:0≤u∧u<(CP r).length) {g:Int} (N:0≤g) :
    (k6 (CD r) (LJ r u).fO==g)=(match ix (CD r) g with | some l=>l.contains (LJ r u).fO | none=>false):=by
 have hi:=Yd J
 obtain ⟨i,l,E,D,L⟩:=nN (ov hi)
 rw [L]
 apply Bool.eq_iff_iff.2
 constructor
 · intro h
   have e:(i:Int)=g:=by simpa using h
   rw [← e,mv E]
   simpa using D
 · intro h
   cases A:ix (CD r) g with
   | none=>rw [A] at h; cases h
   | some m =>
    rw [A] at h
    obtain ⟨_,_,M⟩:=AG A
    have:=dd E M D (by simpa using h)
    simp; omega
theorem uK {fu:Nat} {r:Request} (h:Sm fu r) {x:Plan} (U:Sp x) (hg:∀ c∈x.fV,0≤c.fF):L5 fu r x =
    some (bif !(x.fV.all (jh r)) then 4 else bif !(x.fV.all (nA r)) then 5 else bif !(x.fV.all (mU r)) then 6 else 0):=by
 have Ae:=h.fu
 have hc:=U.cars
 unfold L5
 have Y:=XB x.fV (λn (_:Unit) i=>EH fu r x n i) (λl _=>some (bif !(l.all (jh r)) then 4 else bif !(x.fV.all (nA r)) then 5 else bif !(x.fV.all (mU r)) then 6 else 0))
  (λl _=>l.all (jh r)=true→x.fV.all (jh r)=true) AC ?_ ?_ fu () (λh=>h) AC
 · exact Y
 · intro n _ i c xs e A D J
   have O:=U.units c (C8 e)
   simp only [EH.eq_2]
   unfold LH MX
   rw [A,cond_true,e,AB,ZQ h,AB,List.all_cons]
   rw [List.all_cons] at D
   cases V:KB r c.f8 with
   | none=>rw [show jh r c=false by unfold jh; rw [V]]; rfl
   | some t =>
    simp only [WK,Bool.not_true,cond_false]
    rw [oo h _ t O,AB]
    have Z:jh r c=WL r c.fK t:=by unfold jh; rw [V]
    rw [Z] at D ⊢
    cases hh:WL r c.fK t
    · rfl
    · rw [hh,Bool.true_and] at D
      rw [Bool.not_true,cond_false,J () D,Bool.true_and]
 · intro n _ i A D
   have hA:=D rfl
   simp only [EH.eq_2]
   unfold LH
   rw [A,cond_false,pe h,AB]
   show _=some (bif !(x.fV.all (nA r)) then 5 else bif !(x.fV.all (mU r)) then 6 else 0)
   have L:=lp x.fV (λn (_:Unit) i=>FW fu r x (CD r) n i) (λl _=>some (bif !(l.all (nA r)) then 5 else bif !(x.fV.all (mU r)) then 6 else 0)) AC ?_ ?_ fu () AC
   · exact L
   · intro n _ i c xs e A J
     have J:=J ()
     have O:=U.units c (C8 e)
     have T:=zm (List.all_eq_true.1 hA c (C8 e))
     have Ad:=Zh r c.fK
     simp only [FW.eq_2]
     unfold LC
     rw [A,cond_true,e,AB,eV h _ O AC,AB,hB T]
     rw [ZT _ (λy=>!(match ix (CD r) c.fF with | some l=>l.contains y.fO | none=>false)) ?_ AJ AJ,AB,List.any_map,List.all_cons]
     · have Z:nA r c=!(c.fK.any ((λy=>!(match ix (CD r) c.fF with | some l=>l.contains y.fO | none=>false)) ∘ LJ r)):=by
         unfold nA
         rw [List.not_any_eq_all_not]
         apply gF
         intro u Aa
         rw [qr (T u Aa) (hg c (C8 e))]
         simp only [Function.comp,Bool.not_not]
       rw [Z,J]
       cases c.fK.any ((λy=>!(match ix (CD r) c.fF with | some l=>l.contains y.fO | none=>false)) ∘ LJ r) <;> simp
     · intro y _
       unfold OH
       have Ac:=hg c (C8 e)
       by_cases N:c.fF≥(CD r).length
       · have e0:ix (CD r) c.fF=none:=by
           cases hq:ix (CD r) c.fF with
           | none=>rfl
           | some l=>have:=(AG hq).2.1; omega
         rw [e0,decide_eq_true N,cond_true]; rfl
       · have Q:c.fF.toNat<(CD r).length:=AC
         have e0:ix (CD r) c.fF=some (CD r)[c.fF.toNat]:=by
          have:=Xi Q
          rwa [show ((c.fF.toNat:Nat):Int)=c.fF by omega] at this
         have Ab:=(R5 r).2 _ (List.getElem_mem Q)
         rw [e0,decide_eq_false N,cond_false,AB,wj AC AC,AB]
   · intro n _ i A
     simp only [FW.eq_2]
     unfold LC
     rw [A,cond_false]
     show _=some (bif !(x.fV.all (mU r)) then 6 else 0)
     have M:=XB x.fV (λn (_:Unit) i=>FX fu r x n i) (λl _=>some (bif !(l.all (mU r)) then 6 else 0)) (λl _=>l.all (jh r)=true) AC ?_ ?_ fu () hA AC
     · exact M
     · intro n _ i c xs e A D J
       have O:=U.units c (C8 e)
       rw [List.all_cons,Bool.and_eq_true] at D
       have E:=D.1
       have h2:(QJ r c.fK).2=true:=by
        unfold jh at E
        split at E
        · rename_i t V
          exact mS (uU V) E
        · cases E
       simp only [FX.eq_2]
       unfold Ld
       rw [A,cond_true,e,AB,oe h _ O,AB,J () D.2,List.all_cons,mU,h2,Bool.true_and]
       simp only [bne]
       cases (QJ r c.fK).1.fe==c.f8 <;> rfl
     · intro n _ i A _
       simp only [FX.eq_2]
       unfold Ld
       rw [A,cond_false]; rfl
theorem t6 {fu:Nat} {r:Request} (h:Sm fu r) {x:Plan} (U:Sp x) (el:x.fE.length=x.fV.length):PU fu r x =
    some (bif !((cs x).all (jl r)) then 7 else bif !(bW r [] (cs x)) then 8 else bif !((BW 0 (TT x.fE).toNat).all (lC r x)) then 9 else 0):=by
 have Ae:=h.fu
 have hc:=U.cars
 have hs:=U.spots
 have Y:=m5 el
 have hb:=eT x.fE
 have D:(((cs x).map λp=>HZ r p.1).length:Int)=x.fV.length:=by simp [Y]
 unfold PU
 have Ab:=hU (cs x) (λn (o:List Box) i=>HI fu r x n o i) (λ_ l _=>some (bif !(l.all (jl r)) then 7 else bif !(bW r [] (cs x)) then 8 else bif !((BW 0 (TT x.fE).toNat).all (lC r x)) then 9 else 0))
  (λpre l o=>o=pre.map λp=>HZ r p.1) AC ?_ ?_ fu [] rfl AC
 · exact Ab
 · intro n o pre p xs N e E hI J
   obtain ⟨e1,e2⟩:=Yh e
   have hu:=U.units p.1 (C8 e1)
   have Aa:pre.length≤(cs x).length:=by rw [N]; simp
   rw [Y] at E
   simp only [HI.eq_2]
   unfold M4
   rw [E,cond_true,e1,AB,q5 h _ hu,AB,e2,AB,yC,AB,List.all_cons,jl]
   cases md r.fJ (HZ r p.1) p.2
   · rfl
   · subst hI
     rw [Bool.not_true,cond_false,KO AJ,AB,J _ AD,Bool.true_and]
 · intro n o E hI
   rw [Y] at E ⊢
   simp only [HI.eq_2]
   unfold M4
   rw [E,cond_false]
   show _=some (bif !(bW r [] (cs x)) then 8 else bif !((BW 0 (TT x.fE).toNat).all (lC r x)) then 9 else 0)
   subst hI
   have O:=vU (cs x) (λn (_:Unit) i=>EF fu r x ((cs x).map λp=>HZ r p.1) n i) (λpre l _=>some (bif !(bW r pre l) then 8 else bif !((BW 0 (TT x.fE).toNat).all (lC r x)) then 9 else 0)) AC ?_ ?_ fu () AC
   · exact O
   · intro n _ pre p xs N e E J
     have J:=J ()
     obtain ⟨e1,e2⟩:=Yh e
     have hu:=U.units p.1 (C8 e1)
     have Aa:pre.length≤(cs x).length:=by rw [N]; simp
     have b1:ix ((cs x).map λp=>HZ r p.1) (pre.length:Int)=some (HZ r p.1):=by
      rw [EG,List.getElem?_map]
      rw [EG] at e
      rw [e]; rfl
     simp only [EF.eq_2]
     unfold MT
     rw [D,← Y,E,cond_true]
     have Q:=lp pre (λm (_:Unit) j=>HG fu (EF fu r x ((cs x).map λp=>HZ r p.1) n) x ((cs x).map λp=>HZ r p.1) (pre.length:Int) m j) (λl _=>some (bif !(l.all (λq=>!wO r p q)&&bW r (pre++[p]) xs) then 8 else bif !((BW 0 (TT x.fE).toNat).all (lC r x)) then 9 else 0)) AC ?_ ?_ fu () AC
     · rw [Q]; rfl
     · intro m _ j q qs f M L
       have L:=L ()
       have f':ix (cs x) j=some q:=by rw [N]; exact ka f
       obtain ⟨_,f2⟩:=Yh f'
       obtain ⟨j0,_,j2⟩:=AG f'
       have b2:ix ((cs x).map λp=>HZ r p.1) j=some (HZ r q.1):=by
        unfold ix
        rw [if_pos j0,List.getElem?_map,j2]; rfl
       simp only [HG.eq_2]
       unfold M3
       simp only [M,cond_true,b1,e2,b2,f2,AB,x7,L,List.all_cons,wO]
       cases mx (HZ r p.1) p.2 (HZ r q.1) q.2 <;> rfl
     · intro m _ j M
       simp only [HG.eq_2]
       unfold M3
       rw [M,cond_false,J]; rfl
   · intro n _ E
     simp only [EF.eq_2]
     unfold MT
     rw [D,← Y,E,cond_false,rk hs AC,AB]
     show _=some (bif !((BW 0 (TT x.fE).toNat).all (lC r x)) then 9 else 0)
     have Z:=wu (TT x.fE) (λn (_:Unit) i=>EE fu r x (TT x.fE) n i) (λl _=>some (bif !(l.all (lC r x)) then 9 else 0)) AC ?_ ?_ (TT x.fE).toNat fu () 0 AC AC AC
     · exact Z
     · intro n _ k xs h0 h1 E J
       have J:=J ()
       have Ad:=eC x k
       simp only [EE.eq_2]
       unfold MU
       rw [E,cond_true,xY hs AC,AB,List.all_cons]
       generalize xs.all (lC r x)=A at J ⊢
       unfold lC
       cases Ac:((YR x k).length:Int)==0
       · rw [cond_false,Qac h U,AB,Bool.not_false,Bool.true_and]
         cases decide (uP r x k>r.fJ.fQ)
         · obtain ⟨i0,V,g1,g2,rest,_⟩:=kM Ac
           unfold QB Rp
           rw [cond_false,g1,Option.getD_some,Bool.not_false,Bool.true_and]
           have N:WC x i0=V:=by unfold WC; rw [g2]; rfl
           rw [N,lL _ (λi=>!((WC x i).fF==V.fF)) ?_ AC AC,AB,J]
           · rw [show (YR x k).all (λi=>(WC x i).fF==V.fF)=!((YR x k).any λi=>!((WC x i).fF==V.fF)) by rw [List.not_any_eq_all_not]; simp]
             cases (YR x k).any λi=>!((WC x i).fF==V.fF) <;> simp
           · intro i hi
             obtain ⟨c,_,T,_⟩:=ZI hi
             unfold Ts
             rw [T,AB,g1,AB,g2,AB,show WC x i=c by unfold WC; rw [T]; rfl]
             rfl
         · rfl
       · rfl
     · intro n _ i E
       simp only [EE.eq_2]
       unfold MU
       rw [E,cond_false]; rfl
theorem qV {x:Plan} (h:RQ x=true):∀ c∈x.fV,0≤c.fF∧c.fF≤3:=by
 have J:=kI h
 unfold RQ at h
 simp only [Bool.and_eq_true] at h
 intro c D
 obtain ⟨i,hi⟩:=List.mem_iff_getElem?.1 D
 have A:=(List.getElem?_eq_some_iff.1 hi).1
 have E:(c,x.fE[i]'(by omega))∈x.fV.zip x.fE:=by
  apply List.mem_iff_getElem?.2
  refine ⟨i,List.getElem?_zip_eq_some.2 ⟨hi,List.getElem?_eq_getElem _⟩⟩
 have:=List.all_eq_true.1 h.2.2 _ E
 simp only [aw,Bool.and_eq_true,BS] at this
 omega
theorem pA {fu:Nat} {r:Request} (h:Sm fu r) {x:Plan} (A:Sp x):UM fu r x=some (d0 r x):=by
 have O:=h.fu
 have D:=A.cars
 have J:=ZM x.fV
 have Q:=A.all
 have M:=YD r
 unfold UM d0
 rw [Xy h,AB]
 cases T:B9 r==0
 · rfl
 · rw [Bool.not_true,cond_false,r6 A AC,AB]
   cases E:RQ x
   · rfl
   · have N:=kI E
     rw [Bool.not_true,cond_false,ti (l:=x.fV) (λy=>XD fu y) (λc=>(c.fK.length:Int)==0) (λc _=>rfl) D AC,AB]
     show (bif l8 x then _ else _)=_
     cases l8 x
     · rw [cond_false]
       unfold WS CL
       rw [wV A AC,AB,gS AC,AB,oh h,AB,mF _ AC AC,AB,uf _ _ AJ AJ,AB,uK h A (λc D=>(qV E c D).1),AB,t6 h A N,AB]
       have L:decide ((Lt x.fV).mergeSort (λx y=>decide (x≤y))=BW 0 (CP r).length)=dy r x:=by
        unfold dy vB
        rw [lX]
       rw [L]
       cases dy r x
       · rfl
       · cases x.fV.all (jh r)
         · rfl
         · cases x.fV.all (nA r)
           · rfl
           · cases x.fV.all (mU r) <;> rfl
     · rfl
theorem jz {a b:List Int} (h:a.Perm b):HW a=HW b:=by
 induction h with
 | nil=>rfl
 | cons x _ E=>simp [E]
 | swap x y l=>simp; omega
 | trans _ _ D A=>rw [D,A]
theorem lV {r:Request} {a b:List Int} (h:a.Perm b):(WH r a).Perm (WH r b):=h.filterMap _
theorem rz {r:Request} {a b:List Int} (h:a.Perm b):Vx r a=Vx r b:=jz ((lV h).map _)
theorem l6 {r:Request} {a b:List Int} (h:a.Perm b):Vg r a=Vg r b:=jz ((lV h).map _)
theorem lD {r:Request} {a b:List Int} (h:a.Perm b) (t:Typ):X3 r a t=X3 r b t:=by unfold X3; rw [rz h,l6 h]
theorem lw {r:Request} {a b:List Int} (h:a.Perm b) (t:Typ):WL r a t=WL r b t:=by
 unfold WL
 rw [lD h]
 congr 2
 apply Bool.eq_iff_iff.2
 simp only [List.all_eq_true]
 exact ⟨λk u A=>k u (h.mem_iff.2 A),λk u A=>k u (h.mem_iff.1 A)⟩
theorem l7 {f:Typ→Int}:∀ (A pre:List Typ) (t:Typ),ek f pre A=true→t∈A→(∀ y∈pre,f y≠f t)∧A.find? (λy=>f y==f t)=some t
 | [],_,_,_,h=>by simp at h
 | x::A,pre,t,hn,h=>by
  simp only [ek,Bool.and_eq_true,Bool.not_eq_true'] at hn
  have J:=List.any_eq_false.1 hn.1
  rcases List.mem_cons.1 h with rfl | h
  · exact ⟨λy E e=>J y E (by simp [e]),AD⟩
  · have D:=l7 A (pre++[x]) t hn.2 h
    refine ⟨λy E=>D.1 y (by simp [E]),?_⟩
    have:=D.1 x AD
    have e:(f x==f t)=false:=by simpa using this
    rw [List.find?_cons,e]
    exact D.2
theorem sG {r:Request} (A:B9 r=0) {t:Typ} (D:t∈r.fG):KB r t.fe=some t:=by
 have h:=(D4 A).2.1
 unfold dS at h
 simp only [Bool.and_eq_true] at h
 exact (l7 r.fG [] t h.1.1.1 D).2
theorem mO (r:Request) (us:List Int):∀ (l:List Typ) (s:Typ×Bool),(∀ t∈l,t∈r.fG)→(s.2=true→s.1∈r.fG∧WL r us s.1=true)→(l.foldl (pP r us) s).2=true→(l.foldl (pP r us) s).1∈r.fG∧WL r us (l.foldl (pP r us) s).1=true
 | [],s,_,h,h2=>h h2
 | t::l,s,hl,h,h2=>by
  rw [List.foldl_cons] at h2 ⊢
  refine mO r us l _ (λx E=>hl x (by simp [E])) (λD=>?_) h2
  unfold pP at D ⊢
  cases A:WL r us t&&(!s.2||(decide (t.fd<s.1.fd)||(t.fd==s.1.fd&&decide (t.fe<s.1.fe))))
  · rw [A,cond_false] at D
    rw [cond_false]
    exact h D
  · rw [Bool.and_eq_true] at A
    rw [cond_true]
    exact ⟨hl t AD,A.1⟩
theorem se {r:Request} {us l:List Int} (h:Qc r (On r us) l):WL r l (VB r)=true:=by
 obtain ⟨J,D,O⟩:=h
 obtain ⟨u,M⟩:=List.exists_mem_of_ne_nil _ J
 have E:=g5 (bo (D u M))
 have N:=D4 E
 unfold WL
 rw [show (B9 r==0)=true by simp [E],Bool.true_and,O,Bool.and_true,List.all_eq_true]
 intro v L
 have A:=bo (D v L)
 unfold uY
 rw [Yd A,Bool.and_eq_true]
 exact ⟨rfl,N.2.2.2.1 _ (bc A)⟩
theorem mV {r:Request} {us l:List Int} (h:Qc r (On r us) l):B9 r=0∧(QJ r l).2=true∧(QJ r l).1∈r.fG∧WL r l (QJ r l).1=true∧KB r (QJ r l).1.fe=some (QJ r l).1:=by
 obtain ⟨u,J⟩:=List.exists_mem_of_ne_nil _ h.1
 have A:=g5 (bo (h.2.1 u J))
 have E:=mS (pw A).2.1 (se h)
 have D:=mO r l r.fG (rU,false) (λ_ h=>h) AD E
 exact ⟨A,E,D.1,D.2,sG A D.1⟩
theorem uo {r:Request} {us l:List Int} (h:Qc r (On r us) l):1≤Vg r l:=by
 obtain ⟨E,D,_⟩:=h
 match l,E with
 | u::l,_ =>
  have A:=bo (D u AD)
  have J:=g5 A
  have:=(PT (D4 J).1).1 _ (bc A)
  simp only [VV,Bool.and_eq_true,BS] at this
  have L:=(kJ r l).1
  rw [mN]
  omega
theorem pg {r:Request} {us l:List Int} (h:Qc r (On r us) l) (k:Int):HZ r (aD r k l)=⟨(QJ r l).1.fW,(QJ r l).1.fD,(QJ r l).1.fH,(QJ r l).1.ff+Vg r l⟩∧jn r.fJ (HZ r (aD r k l))=true:=by
 obtain ⟨L,_,M,D,O⟩:=mV h
 have N:=D4 L
 have e:HZ r (aD r k l)=⟨(QJ r l).1.fW,(QJ r l).1.fD,(QJ r l).1.fH,(QJ r l).1.ff+Vg r l⟩:=by
  unfold HZ aD
  simp only [O,show (B9 r==0)=true by simp [L],cond_true,l6 (VY l)]
 refine ⟨e,?_⟩
 have E:=ZH N.1 _ M
 have A:=N.2.2.2.2 _ M
 simp only [Yu,Bool.and_eq_true,BS] at E
 simp only [dQ,Bool.or_eq_false_iff,decide_eq_false_iff_not] at A
 rw [AU AC AC] at A
 have Q:=uo h
 unfold WL at D
 simp only [Bool.and_eq_true] at D
 have J:=D.2.2
 unfold X3 at J
 simp only [Bool.and_eq_true,decide_eq_true_eq] at J
 rw [e]
 simp only [jn,Bool.and_eq_true,BS]
 omega
def VA (r:Request) (k:Int):List Box:=((O7 r).filter λc=>c.fF==k).map (HZ r)
def mz (r:Request) (s:List Spot×Int) (k:Int):List Spot×Int:=(s.1++(aF r.fJ (VA r k)).map (λt=>⟨t.fJ+s.2,t.fX,t.fY,t.fZ⟩),s.2+TT (aF r.fJ (VA r k)))
def WR (r:Request):Plan×Bool:=bif B9 r==0 then (⟨O7 r,((BW 0 (CD r).length).foldl (mz r) ([],0)).1⟩,true) else (⟨[],[]⟩,false)
theorem dn (r:Request) (k:Int):∀ (ks:List Int),ks.Nodup→((W3 r ks).filter λc=>c.fF==k)=bif ks.contains k then Yk r k else []
 | [],_=>rfl
 | j::ks,hn=>by
  obtain ⟨M,L⟩:=List.nodup_cons.1 hn
  have N:=dn r k ks L
  rw [W3,List.filter_append,N]
  have J:∀ c∈Yk r j,c.fF=j:=by
   intro c A
   unfold Yk at A
   obtain ⟨l,_,rfl⟩:=List.mem_map.1 A
   rfl
  by_cases e:k=j
  · subst e
    have E:(Yk r k).filter (λc=>c.fF==k)=Yk r k:=List.filter_eq_self.2 λc A=>by simp [J c A]
    have D:ks.contains k=false:=by simpa using M
    rw [E,D]
    simp
  · have E:(Yk r j).filter (λc=>c.fF==k)=[]:=List.filter_eq_nil_iff.2 λc A=>by simp [J c A]; omega
    rw [E]
    have D:(j::ks).contains k=ks.contains k:=by simp [e]
    rw [D]; rfl
theorem da {r:Request} {k:Int} (h:0≤k∧k<(CD r).length):VA r k=(Yk r k).map (HZ r):=by
 unfold VA O7
 rw [dn r k _ (O2 _ _)]
 rw [show (BW 0 (CD r).length).contains k=true by rw [List.contains_iff_mem,CF]; omega]
 rfl
theorem gq {r:Request} (D:B9 r=0) {k:Int} (h:0≤k∧k<(CD r).length):Xn r.fJ (VA r k)=true:=by
 have A:=(D4 D).1
 unfold Y6 at A
 simp only [Bool.and_eq_true] at A
 unfold Xn
 rw [da h,Bool.and_eq_true]
 refine ⟨A.1.1.1.1.1.1.1.1.2,List.all_eq_true.2 λb A=>?_⟩
 unfold Yk at A
 rw [List.map_map] at A
 obtain ⟨l,hl,rfl⟩:=List.mem_map.1 A
 exact (pg (ru l hl) k).2
theorem lg (r:Request) (k:Int):(VA r k).length≤48:=by
 have D:=List.length_filter_le (λc:Carton=>c.fF==k) (O7 r)
 have A:=a6 r
 unfold VA
 rw [List.length_map]
 omega
theorem rh {r:Request} (E:B9 r=0):∀ (ks:List Int) (s:List Spot×Int),(∀ k∈ks,0≤k∧k<(CD r).length)→(ks.foldl (mz r) s).1.length=s.1.length+(W3 r ks).length
 | [],s,_=>by simp [W3]
 | k::ks,s,h=>by
  rw [List.foldl_cons,rh E ks _ λj J=>h j (by simp [J])]
  have A:=h k AD
  have D:=eP (gq E A)
  rw [da A,List.length_map] at D
  simp only [mz,W3,List.length_append,List.length_map,da A,D]
  omega
theorem j4 (r:Request):(WR r).1.fE.length=(WR r).1.fV.length∧(WR r).1.fV.length≤48∧∀ c∈(WR r).1.fV,c.fK.length≤12:=by
 unfold WR
 cases A:B9 r==0
 · exact ⟨rfl,AD,AD⟩
 · rw [cond_true]
   have:=rh (r:=r) (by simpa using A) (BW 0 (CD r).length) ([],0) λk D=>by have:=CF.1 D; omega
   exact ⟨by rw [this]; simp [O7],a6 r,λc A=>ZW A⟩
theorem tj {fu:Nat} {r:Request} (h:Sm fu r):RC fu r=some (WR r):=by
 have Ab:=h.fu
 have hg:=(R5 r).1
 have Aa:=a6 r
 unfold RC WR
 rw [Zz h,AB]
 cases E:B9 r==0
 · rw [show (B9 r != 0)=true by simp only [bne,E]; rfl]; rfl
 · have hz:B9 r=0:=by simpa using E
   rw [show (B9 r != 0)=false by simp [hz],cond_false,cond_true,yd h,AB,oG h,AB]
   have L3:=cD ((CD r).length:Int) (λn (s:List Spot×Int) k=>CY fu r (O7 r) (CD r) n s.1 s.2 k) (λks s=>some ((⟨O7 r,(ks.foldl (mz r) s).1⟩:Plan),true)) (λks s=>(∀ k∈ks,0≤k∧k<(CD r).length)∧s.1.length+48*ks.length≤1000∧0≤s.2∧s.2+1000000*ks.length≤10000000) AC ?_ ?_ (CD r).length fu ([],0) 0 AC AC AC ⟨λk hk=>by have:=CF.1 hk; omega,by simp [B5]; omega,AD,by simp [B5]; omega⟩
   · exact L3
   · intro n ⟨O,A⟩ k ks k0 k1 D M L
     obtain ⟨i1,i2,_,i4⟩:(∀ j∈k::ks,0≤j∧j<(CD r).length)∧O.length+48*(k::ks).length≤1000∧0≤A∧A+1000000*((k::ks).length:Int)≤10000000:=M
     simp only [List.length_cons] at i2 i4
     simp only [CY.eq_2]
     unfold Tt
     rw [D,cond_true]
     have L2:=XB (O7 r) (λm (J:List Box) i=>H1 fu (CY fu r (O7 r) (CD r) n) r (O7 r) O A k m J i) (λcs J=>AA (N1 fu r.fJ (J++(cs.filter λc=>c.fF==k).map (HZ r))) λx=>IA fu (CY fu r (O7 r) (CD r) n) A k x fu O 0) (λcs J=>J.length+cs.length≤48∧∀ c∈cs,c.fK.length≤12) AC ?_ ?_ fu [] ⟨by simpa using Aa,λc E=>ZW E⟩ AC
     · refine L2.trans ?_
       have Ae:=lg r k
       rw [List.nil_append,show ((O7 r).filter λc=>c.fF==k).map (HZ r)=VA r k from rfl,um Ab _ _ AC,AB]
       have Ac:=eP (gq hz ⟨k0,k1⟩)
       have e:=eT (aF r.fJ (VA r k))
       have Ad:∀ s∈aF r.fJ (VA r k),s∈aF r.fJ (VA r k):=λ_ h=>h
       have V:=L (mz r (O,A) k) ⟨λj hj=>i1 j (by simp [hj]),by simp [mz]; omega,by simp [mz]; omega,by simp [mz]; omega⟩
       rw [List.foldl_cons,← V]
       have hS:=tf (fu:=fu) (l:=aF r.fJ (VA r k)) AC AC
       have T:∀ s∈aF r.fJ (VA r k),AK (s.fJ+A)=s.fJ+A:=by
        intro s hs
        have:=rf (p:=r.fJ) (l:=VA r k) AC s hs
        exact AU AC AC
       generalize U:aF r.fJ (VA r k)=S at Ac e hS T ⊢
       have L1:=XB S (λm (o:List Spot) i=>IA fu (CY fu r (O7 r) (CD r) n) A k S m o i) (λQ o=>CY fu r (O7 r) (CD r) n (o++Q.map (λt=>⟨t.fJ+A,t.fX,t.fY,t.fZ⟩)) (A+TT S) (AK (k+1))) (λQ o=>o.length+Q.length≤1000∧∀ s∈Q,AK (s.fJ+A)=s.fJ+A) AC ?_ ?_ fu O ⟨AC,T⟩ AC
       · refine L1.trans ?_
         simp only [mz,U]
       · intro m o i x Q Z D M L
         obtain ⟨Y,N⟩:=M
         simp only [List.length_cons] at Y
         simp only [IA.eq_2]
         unfold TD
         rw [D,cond_true,Z,AB,N x AD,KO AJ,AB,L _ ⟨AJ,λs hs=>N s (by simp [hs])⟩]
         simp
       · intro m o i D M
         simp only [IA.eq_2]
         unfold TD
         rw [D,cond_false,hS,AB,AU (n:=A+_) AC AC]
         simp
     · intro m J i c cs Z D M L
       obtain ⟨Y,N⟩:=M
       simp only [List.length_cons] at Y
       have Af:=N c AD
       simp only [H1.eq_2]
       unfold TK PQ
       rw [D,cond_true,Z,AB,AB,lc h c AC,AB,KO AJ,AB,L _ ⟨AJ,λc E=>N c (by simp [E])⟩,L _ ⟨AC,λc E=>N c (by simp [E])⟩,List.filter_cons]
       cases c.fF==k <;> simp
     · intro m J i D _
       simp only [H1.eq_2]
       unfold TK
       rw [D,cond_false]; simp
   · intro n ⟨O,A⟩ k D _
     simp only [CY.eq_2]
     unfold Tt
     rw [D,cond_false]; rfl
theorem tD {fu:Nat} {A:List Load→Int→Option (List Load)} {i:Int} {b:Layer} {o:List Load} {j:Nat} {s:Load} (D:o[j]? = some s) (hl:s.f0.length≤1000000)
    (h1:-1000000000≤s.fH+b.fH∧s.fH+b.fH≤1000000000) (h2:-1000000000≤s.fQ+b.fQ∧s.fQ+b.fQ≤1000000000):EQ fu A i b o (j:Int)=A (o.set j (OO s i b)) (AK (i+1)):=by
 unfold EQ TY
 rw [EG,D,AB,KO AJ,AB]
 simp only [AB,iv,List.set_set,so]
 rw [AU (n:=s.fH+b.fH) AC AC,AU (n:=s.fQ+b.fQ) AC AC]
 rfl
theorem cG (fu:Nat) (l:List Layer) (f:Layer→Option Bool) (g:Layer→Bool) (T:∀ b,f b=some (g b)) (h:l.length≤1048576) (N:l.length<fu) :
    CQ fu l f=some (l.any g):=by
 unfold CQ EJ
 have E:∀ (m i n:Nat),l.length - i=m→i≤l.length→m<n→∃ r,BB fu l f n i=some r∧decide (r≥0)=(l.drop i).any g:=by
  intro m
  induction m with
  | zero =>
   intro i n O hi U
   obtain ⟨n,rfl⟩:∃ k,n=k+1:=⟨n - 1,AC⟩
   rw [BB.eq_2]
   unfold DR
   rw [AM AJ,List.drop_eq_nil_of_le AC]
   exact ⟨_,rfl,rfl⟩
  | succ m J =>
   intro i n O hi U
   obtain ⟨n,rfl⟩:∃ k,n=k+1:=⟨n - 1,AC⟩
   have A:i<l.length:=AC
   rw [BB.eq_2]
   unfold DR
   rw [AX (by simpa using A),tg (mv (List.getElem?_eq_getElem A)),T,AB,List.drop_eq_getElem_cons A,List.any_cons]
   cases M:g l[i]
   · rw [AM rfl,AU AC AC,Bool.false_or]
     have:=J (i+1) n AC AC AC
     simpa using this
   · rw [AX rfl]
     exact ⟨_,rfl,AD⟩
 obtain ⟨r,L,Q⟩:=E l.length 0 fu AC AC N
 have D:BB fu l f fu 0=some r:=L
 rw [D,AB,Q]
 rfl
theorem yW {fu:Nat} (p:Pallet) (l:List Layer) (hl:l.length≤1048576) (D:l.length<fu):R7 fu p l=some (Rc p&&l.all λs=>jO p s.fD s.fH s.fQ):=by
 unfold R7
 have e:∀ a b c:Int,iE a b c=CW a b c:=λa b c=>Bool.eq_iff_iff.2 (by rw [kH,BS])
 have A:Xr p=Rc p:=by unfold Xr Rc; simp only [e]
 rw [Xa,AB,A,cG fu l _ (λs=>!jO p s.fD s.fH s.fQ) (λs=>by
  unfold U1 jO
  simp only [pd,AB,e]
  cases CW s.fD 1 p.fD <;> cases CW s.fH 1 p.fH <;> rfl) hl D,AB]
 cases Rc p
 · rfl
 · rw [cond_true,Bool.true_and]
   congr 1
   rw [Bool.eq_iff_iff]
   simp
theorem vl {fu:Nat} (Ab:2097153≤fu) {p:Pallet} (V:Rc p=true) {l:List Layer} (N:vJ p l) (hl:l.length≤1000):UW fu p l=some (jo p l):=by
 unfold UW jo
 rw [yW p l AC AC,V,vY N,AB,Bool.and_self,Bool.not_true,cond_false]
 obtain ⟨_,_,_,_⟩:=W8 V
 refine cD (l.length:Int) (λn (o:List Load) i=>C7 fu p l n o i) (λJ o=>some (J.foldl (kR p l) o)) (λJ o=>(∀ s∈o,LdI p l.length s)∧((o.map (·.f0)).flatten).length+J.length≤1000∧o.length+J.length≤1000) AC ?_ ?_ l.length fu [] 0 AC AC AC ⟨AD,by simp [B5]; omega,by simp [B5]; omega⟩
 · intro n o i J x0 x1 Q hI ih
   obtain ⟨Z,i3,i4⟩:=hI
   simp only [List.length_cons] at i3 i4
   obtain ⟨T,_,_,_,_⟩:=hC N ⟨x0,x1⟩
   have E:((kR p l o i).map (·.f0)).flatten=(o.map (·.f0)).flatten++[i]:=Vd (λs=>rfl) rfl
   have Aa:(kR p l o i).length≤o.length+1:=Xk _ _ _ _
   have M:=ih (kR p l o i) ⟨kE N ⟨x0,x1⟩ Z,by rw [E,List.length_append,List.length_singleton]; omega,AC⟩
   simp only [C7.eq_2]
   unfold Rt
   rw [Q,cond_true,T,AB,List.foldl_cons,← M]
   have A:∀ L:List Load,L.length≤1000→EQ fu (λo i=>C7 fu p l n o i) i (MA l i) (L++[aS]) ((L.length:Nat):Int)=C7 fu p l n (L++[OO aS i (MA l i)]) (AK (i+1)):=λL _=>by
    rw [tD (s:=aS) AD (by simp [aS]) (by simp [aS]; omega) (by simp [aS]; omega)]
    simp
   by_cases O:o=[]
   · subst O
     rw [AX A1,KO AD,AB]
     exact A [] AD
   · obtain ⟨s,U,_⟩:=X9 O
     have V:=List.length_pos_iff.2 O
     have D:=List.mem_of_getLast? U
     have hs:=Z s D
     have Y:=PS (λs:Load=>s.f0) o s D
     have eS:kR p l o i=bif jR p (MA l i) s then o.set (o.length - 1) (OO s i (MA l i)) else o++[OO aS i (MA l i)]:=Yz U
     have e3:AK ((o.length:Int) - 1)=((o.length - 1:Nat):Int):=by rw [AU AC AC]; omega
     have e4:AK (((o.length - 1:Nat):Int)+1)=((o.length:Nat):Int):=by rw [AU AC AC]; omega
     have e:o[o.length - 1]? = some s:=by rw [← List.getLast?_eq_getElem?]; exact U
     obtain ⟨s1,_,_,_⟩:=hs
     rw [e3,e4,AM AD,EG,e,AB,AU (n:=s.fH+_) AC AC,AU (n:=s.fQ+_) AC AC,KO AJ,AB,eS]
     unfold jR
     have c1:decide (s.fH+(MA l i).fH>p.fH)=!decide (s.fH+(MA l i).fH≤p.fH):=by
      by_cases h:s.fH+(MA l i).fH≤p.fH <;> simp [h] <;> omega
     have c2:decide (s.fQ+(MA l i).fQ>p.fQ)=!decide (s.fQ+(MA l i).fQ≤p.fQ):=by
      by_cases h:s.fQ+(MA l i).fQ≤p.fQ <;> simp [h] <;> omega
     rw [c1,c2,AB]
     have h1:=A o AC
     have h2:EQ fu (λo i=>C7 fu p l n o i) i (MA l i) o ((o.length - 1:Nat):Int)=C7 fu p l n (o.set (o.length - 1) (OO s i (MA l i))) (AK (i+1)):=tD e AC AC AC
     cases decide (s.fH+(MA l i).fH≤p.fH)
     · exact h1
     · cases decide (s.fQ+(MA l i).fQ≤p.fQ)
       · exact h1
       · exact h2
 · intro n o i Q _
   simp only [C7.eq_2]
   unfold Rt
   rw [Q,cond_false]; rfl
theorem qc {fu:Nat} (N:2097153≤fu) (p:Pallet) (l:List Box) (hl:l.length<20):Pj fu p l=some (aF p l):=by
 unfold Pj aF
 rw [ZF fu p l AC AC,AB,rX]
 cases hb:Xn p l
 · rfl
 · obtain ⟨a1,a2,a3⟩:=be hb
   have hS:=ll hb
   obtain ⟨y1,y2,y3⟩:=bi hS
   have hY:=kp hS
   obtain ⟨d1,d2,d3⟩:=es hY
   have T:=ZY hb
   obtain ⟨_,_,_,_⟩:=W8 T
   rw [Bool.not_true,cond_false,cond_true,qh N p l hl,AB,rv N T hS AC,AB,pq AC,AB,vl N T hY AC,AB]
   have f1:∀ s∈YV p l,s.f7.length≤1000:=λs e=>by
    have:=PS (λs:Shelf=>s.f7) _ s e
    rw [a2,V7] at this; omega
   have f2:∀ s∈bl p (YV p l),s.fM.length≤1000:=λs e=>by
    have:=PS (λs:Layer=>s.fM) _ s e
    rw [y2,B5] at this; omega
   have f3:∀ s∈jo p (bl p (YV p l)),s.f0.length≤1000:=λs e=>by
    have:=PS (λs:Load=>s.f0) _ s e
    rw [d2,B5] at this; omega
   generalize jo p (bl p (YV p l))=ld at d1 d3 f3 ⊢
   generalize bl p (YV p l)=ly at y1 y3 hY d1 d3 f2 ⊢
   generalize YV p l=sh at a1 a3 hS y1 y3 f1 ⊢
   have L4:=cD (ld.length:Int) (λn (out:List Spot) o=>B1 fu l sh ly ld n out o) (λos out=>some (tT l sh ly ld os out)) (λos out=>out.length=l.length) AC ?_ ?_ ld.length fu (List.replicate l.length ry) 0 AC AC AC AD
   · exact L4
   · intro n out o os o0 o1 A E O
     obtain ⟨x,hx⟩:=bh (l:=ld) o0 o1
     have ex:na ld o=x:=by unfold na; rw [hx]; rfl
     have Af:=d1 x (C8 hx)
     have Ag:=f3 x (C8 hx)
     simp only [B1.eq_2]
     unfold QW
     rw [A,cond_true,hx,AB]
     have L3:=XB x.f0 (λm (s:List Spot×Int) i=>C4 fu (B1 fu l sh ly ld n) l sh ly o x m s.1 s.2 i) (λis s=>B1 fu l sh ly ld n (tO l sh ly o is s).1 (AK (o+1))) (λis s=>s.1.length=l.length∧(∀ i∈is,0≤i∧i<ly.length)∧0≤s.2∧s.2+2000*is.length≤2000000) AC ?_ ?_ fu (out,0) ⟨E,Af.inn,AD,AJ⟩ AC
     · refine L3.trans ?_
       rw [O _ (by rw [eD]; exact E)]
       simp only [tT,List.foldl_cons,ex]
     · intro m ⟨out,z⟩ i j is hj A E O
       obtain ⟨Q,L,i3,Y⟩:out.length=l.length∧(∀ i∈j::is,0≤i∧i<ly.length)∧0≤z∧z+2000*((j::is).length:Int)≤2000000:=E
       simp only [List.length_cons] at Y
       obtain ⟨V,_,_,_,J⟩:=hC hY (L j AD)
       have Aa:=y1 _ J
       have Ai:=f2 _ J
       simp only [C4.eq_2]
       unfold Q3
       rw [A,cond_true,hj,AB,V,AB]
       have L2:=XB (MA ly j).fM (λq (s:List Spot×Int) k=>EV fu (C4 fu (B1 fu l sh ly ld n) l sh ly o x m) l sh ly o z i j (MA ly j) q s.1 s.2 k) (λks s=>C4 fu (B1 fu l sh ly ld n) l sh ly o x m (qW l sh o z ks s).1 (AK (z+(MA ly j).fH)) (AK (i+1))) (λks s=>s.1.length=l.length∧(∀ i∈ks,0≤i∧i<sh.length)∧0≤s.2∧s.2+2000*ks.length≤2000000) AC ?_ ?_ fu (out,0) ⟨Q,Aa.inn,AD,AJ⟩ AC
       · refine L2.trans ?_
         rw [AU (n:=z+_) AC AC]
         exact O ((qW l sh o z (MA ly j).fM (out,0)).1,z+(MA ly j).fH) ⟨by rw [eG]; exact Q,λi hi=>L i (by simp [hi]),AJ,AJ⟩
       · intro q ⟨out,y⟩ k b ks Ac A E O
         obtain ⟨Q,L,i3,Y⟩:out.length=l.length∧(∀ i∈b::ks,0≤i∧i<sh.length)∧0≤y∧y+2000*((b::ks).length:Int)≤2000000:=E
         simp only [List.length_cons] at Y
         obtain ⟨Z,_,_,_,D⟩:=e9 hS (L b AD)
         have Ad:=a1 _ D
         have Ah:=f1 _ D
         simp only [EV.eq_2]
         unfold QM
         rw [A,cond_true,Ac,AB,Z,AB]
         have L1:=XB (LM sh b).f7 (λq' (s:List Spot×Int) k'=>Jw fu (EV fu (C4 fu (B1 fu l sh ly ld n) l sh ly o x m) l sh ly o z i j (MA ly j) q) l sh o z y k b (LM sh b) q' s.1 s.2 k') (λM s=>EV fu (C4 fu (B1 fu l sh ly ld n) l sh ly o x m) l sh ly o z i j (MA ly j) q (qY l o y z M s).1 (AK (y+(LM sh b).fD)) (AK (k+1))) (λM s=>s.1.length=l.length∧(∀ i∈M,0≤i∧i<l.length)∧0≤s.2∧s.2+2000*M.length≤2000000) AC ?_ ?_ fu (out,0) ⟨Q,Ad.inn,AD,AJ⟩ AC
         · refine L1.trans ?_
           rw [AU (n:=y+_) AC AC]
           exact O ((qY l o y z (LM sh b).f7 (out,0)).1,y+(LM sh b).fD) ⟨by rw [er]; exact Q,λi hi=>L i (by simp [hi]),AJ,AJ⟩
         · intro q' ⟨out,U⟩ k' c M hc A E O
           obtain ⟨Q,L,i3,Y⟩:out.length=l.length∧(∀ i∈c::M,0≤i∧i<l.length)∧0≤U∧U+2000*((c::M).length:Int)≤2000000:=E
           simp only [List.length_cons] at Y
           have h:=L c AD
           obtain ⟨Ae,_,_,_,_⟩:=Zl hb h
           obtain ⟨_,Ab⟩:=bh (l:=out) h.1 AC
           simp only [Jw.eq_2]
           unfold QN
           rw [A,cond_true,hc,AB,Ab,AB,Ae,AB,AU (n:=U+_) AC AC]
           exact O (DB out c ⟨o,U,y,z⟩,U+(KX l c).fW) ⟨by rw [ZS]; exact Q,λi hi=>L i (by simp [hi]),AJ,AJ⟩
         · intro q' ⟨out,U⟩ k' A _
           simp only [Jw.eq_2]
           unfold QN
           rw [A,cond_false,Z,AB]; rfl
       · intro q ⟨out,y⟩ k A _
         simp only [EV.eq_2]
         unfold QM
         rw [A,cond_false,V,AB]; rfl
     · intro m ⟨out,z⟩ i A _
       simp only [C4.eq_2]
       unfold Q3
       rw [A,cond_false]; rfl
   · intro n out o A _
     simp only [B1.eq_2]
     unfold QW
     rw [A,cond_false]; rfl
theorem tX {r:Request} {k:Int} (h:0≤k∧k<(CD r).length):(VA r k).length≤12:=by
 rw [da h,List.length_map]
 exact lq k
theorem xx {fu:Nat} {r:Request} (h:Sm fu r):Wp fu r=some (WR r):=by
 have Ab:=h.fu
 have hg:=(R5 r).1
 have Aa:=a6 r
 unfold Wp WR
 rw [Xy h,AB]
 cases J:B9 r==0
 · rfl
 · have hz:B9 r=0:=by simpa using J
   rw [Bool.not_true,cond_false,cond_true,zL h,AB,pe h,AB]
   have L3:=cD ((CD r).length:Int) (λn (s:List Spot×Int) k=>C1 fu r (O7 r) (CD r) n s.1 s.2 k) (λks s=>some ((⟨O7 r,(ks.foldl (mz r) s).1⟩:Plan),true)) (λks s=>(∀ k∈ks,0≤k∧k<(CD r).length)∧s.1.length+48*ks.length≤1000∧0≤s.2∧s.2+1000000*ks.length≤10000000) AC ?_ ?_ (CD r).length fu ([],0) 0 AC AC AC ⟨λk hk=>by have:=CF.1 hk; omega,by simp [B5]; omega,AD,by simp [B5]; omega⟩
   · exact L3
   · intro n ⟨O,A⟩ k ks k0 k1 D M L
     obtain ⟨i1,i2,_,i4⟩:(∀ j∈k::ks,0≤j∧j<(CD r).length)∧O.length+48*(k::ks).length≤1000∧0≤A∧A+1000000*((k::ks).length:Int)≤10000000:=M
     simp only [List.length_cons] at i2 i4
     simp only [C1.eq_2]
     unfold Tr
     rw [D,cond_true]
     have L2:=XB (O7 r) (λm (E:List Box) i=>H7 fu (C1 fu r (O7 r) (CD r) n) r (O7 r) O A k m E i) (λcs E=>AA (Pj fu r.fJ (E++(cs.filter λc=>c.fF==k).map (HZ r))) λx=>AA (LG fu x) λy=>Iv fu (C1 fu r (O7 r) (CD r) n) A k x y fu O 0) (λcs E=>E.length+cs.length≤48∧∀ c∈cs,c.fK.length≤12) AC ?_ ?_ fu [] ⟨by simpa using Aa,λc J=>ZW J⟩ AC
     · refine L2.trans ?_
       have Ae:=lg r k
       have Ag:=tX (r:=r) (k:=k) ⟨k0,k1⟩
       rw [List.nil_append,show ((O7 r).filter λc=>c.fF==k).map (HZ r)=VA r k from rfl,qc Ab _ _ AC,AB]
       have Ac:=eP (gq hz ⟨k0,k1⟩)
       have e:=eT (aF r.fJ (VA r k))
       have Ad:∀ s∈aF r.fJ (VA r k),s∈aF r.fJ (VA r k):=λ_ h=>h
       have V:=L (mz r (O,A) k) ⟨λj hj=>i1 j (by simp [hj]),by simp [mz]; omega,by simp [mz]; omega,by simp [mz]; omega⟩
       rw [List.foldl_cons,← V]
       have hS:=rk (fu:=fu) (l:=aF r.fJ (VA r k)) AC AC
       have T:∀ s∈aF r.fJ (VA r k),AK (s.fJ+A)=s.fJ+A:=by
        intro s hs
        have:=rf (p:=r.fJ) (l:=VA r k) AC s hs
        exact AU AC AC
       generalize U:aF r.fJ (VA r k)=S at Ac e hS T ⊢
       rw [hS,AB]
       have L1:=XB S (λm (o:List Spot) i=>Iv fu (C1 fu r (O7 r) (CD r) n) A k S (TT S) m o i) (λQ o=>C1 fu r (O7 r) (CD r) n (o++Q.map (λt=>⟨t.fJ+A,t.fX,t.fY,t.fZ⟩)) (A+TT S) (AK (k+1))) (λQ o=>o.length+Q.length≤1000∧∀ s∈Q,AK (s.fJ+A)=s.fJ+A) AC ?_ ?_ fu O ⟨AC,T⟩ AC
       · refine L1.trans ?_
         simp only [mz,U]
       · intro m o i x Q Z D M L
         obtain ⟨Y,N⟩:=M
         simp only [List.length_cons] at Y
         simp only [Iv.eq_2]
         unfold S9
         rw [D,cond_true,Z,AB,N x AD,KO AJ,AB,L _ ⟨AJ,λs hs=>N s (by simp [hs])⟩]
         simp
       · intro m o i D M
         simp only [Iv.eq_2]
         unfold S9
         rw [D,cond_false,AU (n:=A+_) AC AC]
         simp
     · intro m E i c cs Z D M L
       obtain ⟨Y,N⟩:=M
       simp only [List.length_cons] at Y
       have Af:=N c AD
       simp only [H7.eq_2]
       unfold TB PC
       rw [D,cond_true,Z,AB,q5 h c AC,AB,KO AJ,AB,L _ ⟨AJ,λc J=>N c (by simp [J])⟩,L _ ⟨AC,λc J=>N c (by simp [J])⟩,List.filter_cons]
       cases c.fF==k <;> simp
     · intro m E i D _
       simp only [H7.eq_2]
       unfold TB
       rw [D,cond_false]; simp
   · intro n ⟨O,A⟩ k D _
     simp only [C1.eq_2]
     unfold Tr
     rw [D,cond_false]; rfl
def qp (r:Request) (x:Plan):Bool:=d0 r x==0
theorem wE {fu:Nat} {r:Request} (h:Sm fu r) {x:Plan} (A:Sp x):SI fu r x=some (qp r x):=by
 unfold SI qp
 rw [pA h A]; rfl
theorem s0 (r:Request):Sp (WR r).1:=by
 obtain ⟨_,_,D⟩:=j4 r
 refine ⟨AC,λc L=>by have:=D c L; omega,?_,AC⟩
 have A:∀ l:List Carton,(∀ c∈l,c.fK.length≤12)→Xd l≤12*l.length:=by
  intro l
  induction l with
  | nil=>intro _; simp [Xd]
  | cons c l E =>
   intro h
   have N:=E λd J=>h d (by simp [J])
   have M:=h c AD
   simp only [Xd,List.length_cons]
   omega
 have:=A _ D
 omega
def KU (n:Int):ByteArray:=⟨(Lib.itoa n).toArray⟩
theorem Yv {n:Int} (h:0≤n∧n≤999999):(KU n).size≤21:=by
 have:=Lib.itoa_length_le n AC AC
 unfold KU ByteArray.size
 simpa using this
theorem NR {x y:ByteArray} (h:x.size+y.size≤1000000000):NY x y=some (x++y):=by
 unfold NY
 rw [if_pos AC]
theorem gD (fu:Nat) {n:Int} (h:0≤n∧n≤999999):RM fu n=some (KU n):=by
 unfold RM XN nQ
 rw [if_pos AC]; rfl
theorem xR {n:Int} (h:0≤n∧n≤255):w8 n=n:=by
 unfold w8
 simp only [IntKind.wrap_u8]
 omega
theorem rD {n:Int} (h:0≤n∧n≤255):Zp [(⟨n⟩:U8)]=some ⟨[UInt8.ofNat n.toNat].toArray⟩:=by
 unfold Zp
 rw [if_pos (λb A=>by rw [List.mem_singleton.1 A]; exact h)]
 rfl
theorem rH {u:Nat} (out:ByteArray):(⟨[UInt8.ofNat (48+u % 10)].toArray⟩:ByteArray)++out=⟨([UInt8.ofNat (48+u % 10)]++out.data.toList).toArray⟩:=by
 apply ByteArray.ext
 rw [ByteArray.data_append]
 apply Array.ext'
 simp
theorem wD {fu:Nat} {n1:Int} (N:0≤n1):∀ (u:Nat) (k:Nat) (out:ByteArray),u≤999999→u+2≤k→out.size+u≤2000000→0<u→ID fu n1 k (u:Int) out=some ⟨(Lib.decDigits u++out.data.toList).toArray⟩:=by
 intro u
 induction u using Nat.strongRecOn with
 | _ u E =>
  intro k out O U T Q
  obtain ⟨k,rfl⟩:∃ j,k=j+1:=⟨k - 1,AC⟩
  have J:Int.tmod (u:Int) 10=((u % 10:Nat):Int):=by
   rw [Int.tmod_eq_emod_of_nonneg AC]; omega
  have L:AK (Int.tdiv (u:Int) 10)=((u / 10:Nat):Int):=by
   rw [Int.tdiv_eq_ediv_of_nonneg AC,AU AC AC]; omega
  rw [ID.eq_2]
  unfold TJ PN
  rw [AX (bne_iff_ne.2 AC),J,AM (decide_eq_false AC),AU (n:=48+_) AC AC,xR AC,rD AC,AB,show ((48:Int)+((u % 10:Nat):Int)).toNat=48+u % 10 by omega]
  have D:(⟨[UInt8.ofNat (48+u % 10)].toArray⟩:ByteArray).size=1:=rfl
  rw [NR (by rw [D]; omega),AB,L,rH]
  by_cases A:u<10
  · have M:u / 10=0:=AC
    rw [M]
    obtain ⟨k,rfl⟩:∃ j,k=j+1:=⟨k - 1,AC⟩
    rw [ID.eq_2]
    unfold TJ
    rw [AM A1,AM (decide_eq_false AC),Lib.decDigits,dif_pos A,Nat.mod_eq_of_lt A]
  · have:=E (u / 10) AC k (⟨([UInt8.ofNat (48+u % 10)]++out.data.toList).toArray⟩:ByteArray) AC AC (by
      show ([UInt8.ofNat (48+u % 10)]++out.data.toList).toArray.size+_≤_
      have e:out.data.toList.length=out.size:=Array.length_toList
      simp only [List.size_toArray,List.length_append,List.length_singleton,e]
      omega) AC
    rw [this]
    conv=>rhs; rw [Lib.decDigits,dif_neg A]
    simp
theorem g7 {fu:Nat} (D:2097153≤fu) {n:Int} (h:0≤n∧n≤999999):KZ fu n=some (KU n):=by
 unfold KZ KU
 by_cases A:n=0
 · subst A
   rw [AX AD]
   have:Lib.itoa 0=[48]:=by
    unfold Lib.itoa
    rw [if_neg AC,Lib.decDigits,dif_pos A1]; rfl
   rw [this]
 · rw [AM (by simpa using A)]
   obtain ⟨u,rfl⟩:∃ u:Nat,n=u:=⟨n.toNat,AC⟩
   have:=wD (fu:=fu) (n1:=(u:Int)) AC u fu ⟨#[]⟩ AC AC (by
    show 0+u≤_
    omega) AC
   rw [this]
   have e:Lib.itoa (u:Int)=Lib.decDigits u:=by
    unfold Lib.itoa
    rw [if_neg AC,Int.toNat_natCast]
   rw [e]; simp
def n8:ByteArray:=⟨#[32]⟩
def iG:ByteArray:=⟨#[10]⟩
def HV (o:ByteArray) (l:List Int):ByteArray:=l.foldl (λo n=>o++(n8++KU n)) o
theorem de:∀ (l:List Int) (o:ByteArray),(∀ n∈l,0≤n∧n≤999999)→(HV o l).size≤o.size+22*l.length
 | [],o,_=>by simp [HV]
 | n::l,o,h=>by
  have E:=Yv (h n AD)
  have A:=de l (o++(n8++KU n)) λm D=>h m (by simp [D])
  have e:(o++(n8++KU n)).size=o.size+(1+(KU n).size):=by
   rw [ByteArray.size_append,ByteArray.size_append]; rfl
  rw [e] at A
  show (HV (o++(n8++KU n)) l).size≤_
  simp only [List.length_cons]
  omega
theorem xq {fu:Nat} {l:List Int} (o:ByteArray) (hl:l.length≤1000) (hf:l.length<fu) (ho:o.size≤1000000) (h:∀ n∈l,0≤n∧n≤999999):MC fu o l=some (HV o l++iG,true):=by
 unfold MC
 have O:=XB l (λn (o:ByteArray) i=>GC fu l n o i) (λD o=>some (HV o D++iG,true)) (λD o=>(∀ n∈D,0≤n∧n≤999999)∧o.size+22*D.length≤2000000) AC ?_ ?_ fu o ⟨h,AC⟩ AC
 · exact O
 · intro n o i x D Y Q N V
   obtain ⟨U,M⟩:=N
   simp only [List.length_cons] at M
   have A:=U x AD
   have hs:=Yv A
   have e:(o++(n8++KU x)).size=o.size+(1+(KU x).size):=by
    rw [ByteArray.size_append,ByteArray.size_append]; rfl
   have T:n8.size=1:=rfl
   simp only [GC.eq_2]
   unfold OK
   rw [Q,cond_true,Y,AB,Yy,AB,show CW x 0 999999=true from BS.2 A,Bool.not_true,cond_false,gD fu A,AB]
   show (AA (NY n8 (KU x)) λJ=>AA (NY o J) λE=>GC fu l n E (AK (i+1)))=_
   rw [NR AC,AB,NR (by rw [ByteArray.size_append,T]; omega),AB,V _ ⟨λm Z=>U m (by simp [Z]),AC⟩]
   rfl
 · intro n o i Q N
   have M:=N.2
   simp only [GC.eq_2]
   unfold OK
   rw [Q,cond_false]
   show (AA (NY o iG) λL=>some (L,true))=_
   rw [NR (by rw [show iG.size=1 from rfl]; simp at M; omega)]
   rfl
def NW:ByteArray:=⟨#[99,97,114,116,111,110]⟩
def GE (c:Carton) (s:Spot):List Int:=[c.f8,c.fF,s.fJ,s.fX,s.fY,s.fZ]++c.fK
theorem sQ:∀ (l pre:List Int),dC pre l=true→∀ n∈l,0≤n∧n≤999
 | [],_,_,n,A=>by simp at A
 | x::l,pre,h,n,A=>by
  unfold dC at h
  simp only [Bool.and_eq_true,BS] at h
  rcases List.mem_cons.1 A with rfl | A
  · exact h.1
  · exact sQ l _ h.2.2 n A
theorem bI {c:Carton} {s:Spot} (D:aw c=true) (E:la s=true):(∀ n∈GE c s,0≤n∧n≤999999)∧(GE c s).length≤106:=by
 unfold aw l9 at D
 unfold la at E
 simp only [Bool.and_eq_true,BS,decide_eq_true_eq] at D E
 obtain ⟨_,_,J,_⟩:=D
 refine ⟨λn A=>?_,by simp [GE]; omega⟩
 unfold GE at A
 rcases List.mem_append.1 A with A | A
 · simp only [List.mem_cons,List.not_mem_nil,or_false] at A
   omega
 · have:=sQ _ _ J n A
   omega
theorem tA {fu:Nat} (O:2097153≤fu) {c:Carton} {s:Spot} (h:(∀ n∈GE c s,0≤n∧n≤999999)∧(GE c s).length≤106):LB fu c s=some (HV NW (GE c s)):=by
 obtain ⟨U,V⟩:=h
 unfold LB
 have Y:[c.f8,c.fF,s.fJ,s.fX,s.fY,s.fZ].length+c.fK.length≤106:=by
  have:=V
  unfold GE at this
  rwa [List.length_append] at this
 rw [KO AC,AB]
 show FQ fu (GE c s) fu NW 0=_
 generalize GE c s=l at U V
 refine XB l (λn (o:ByteArray) i=>FQ fu l n o i) (λE o=>some (HV o E)) (λE o=>(∀ n∈E,0≤n∧n≤999999)∧o.size+22*E.length≤2000000) AC ?_ ?_ fu NW ⟨U,by rw [show NW.size=6 from rfl]; omega⟩ AC
 · intro n o i x E hx N hI Z
   obtain ⟨T,i2⟩:=hI
   simp only [List.length_cons] at i2
   have J:=T x AD
   have hs:=Yv J
   have e:(o++(n8++KU x)).size=o.size+(1+(KU x).size):=by
    rw [ByteArray.size_append,ByteArray.size_append]; rfl
   have Q:n8.size=1:=rfl
   simp only [FQ.eq_2]
   unfold QS
   rw [N,cond_true]
   show (AA (NY o n8) λD=>AA (ix l i) λL=>AA (KZ fu L) λM=>AA (NY D M) λA=>FQ fu l n A (AK (i+1)))=_
   rw [NR AC,AB,hx,AB,g7 O J,AB,NR (by rw [ByteArray.size_append,Q]; omega),AB,ByteArray.append_assoc,Z _ ⟨λm hm=>T m (by simp [hm]),AC⟩]
   rfl
 · intro n o i N _
   simp only [FQ.eq_2]
   unfold QS
   rw [N,cond_false]; rfl
def kS (o:ByteArray) (p:Carton×Spot):ByteArray:=o++(HV NW (GE p.1 p.2)++iG)
def Z0 (x:Plan):ByteArray:=bif RQ x then (x.fV.zip x.fE).foldl kS ⟨#[]⟩ else ⟨#[]⟩
theorem kD {c:Carton} {s:Spot} (h:(∀ n∈GE c s,0≤n∧n≤999999)∧(GE c s).length≤106):(HV NW (GE c s)).size≤2400∧(HV NW (GE c s)++iG).size≤2401:=by
 have:=de (GE c s) NW h.1
 rw [show NW.size=6 from rfl] at this
 refine ⟨AC,?_⟩
 rw [ByteArray.size_append,show iG.size=1 from rfl]
 omega
theorem tG {fu:Nat} {x:Plan} (h:Sp x) (hf:2097153≤fu):MN fu x=some (Z0 x):=by
 unfold MN Z0
 rw [r6 h AC,AB]
 cases O:RQ x
 · rfl
 · rw [Bool.not_true,cond_false,cond_true]
   have D:=O
   unfold RQ at D
   simp only [Bool.and_eq_true,decide_eq_true_eq,beq_iff_eq] at D
   obtain ⟨_,_,p3⟩:=D
   have M:(x.fV.zip x.fE).length=x.fV.length:=AJ
   have N:=hU (x.fV.zip x.fE) (λn (o:ByteArray) i=>E4 fu x n o i) (λ_ E o=>some (E.foldl kS o)) (λ_ E o=>(∀ p∈E,(∀ n∈GE p.1 p.2,0≤n∧n≤999999)∧(GE p.1 p.2).length≤106)∧o.size+2401*E.length≤1000000) AC ?_ ?_ fu ⟨#[]⟩ ⟨λp O=>by
    have:=List.all_eq_true.1 p3 p O
    rw [Bool.and_eq_true] at this
    exact bI this.1 this.2,by rw [M]; show 0+_≤_; omega⟩ AC
   · exact N
   · intro n o pre p E e Q L hI Y
     obtain ⟨U,Z⟩:=hI
     simp only [List.length_cons] at Z
     obtain ⟨e1,e2⟩:=Yh Q
     rw [M] at L
     have T:=U p AD
     have Aa:=kD T
     have V:[p.1.f8,p.1.fF,p.2.fJ,p.2.fX,p.2.fY,p.2.fZ].length+p.1.fK.length≤106:=by
      have:=T.2
      unfold GE at this
      rwa [List.length_append] at this
     simp only [E4.eq_2]
     unfold O6
     rw [L,cond_true,e1,AB,e2,AB,KO AC,AB]
     show (AA (MC fu NW (GE p.1 p.2)) λJ=>AA (NY o J.1) λA=>E4 fu x n A (AK ((pre.length:Int)+1)))=_
     rw [xq NW AC AC A1 T.1,AB]
     show (AA (NY o (HV NW (GE p.1 p.2)++iG)) λA=>E4 fu x n A (AK ((pre.length:Int)+1)))=_
     rw [NR AC,AB]
     exact Y _ ⟨λq Q=>U q (by simp [Q]),by rw [ByteArray.size_append]; omega⟩
   · intro n o L _
     rw [M] at L ⊢
     simp only [E4.eq_2]
     unfold O6
     rw [L,cond_false]; rfl
theorem tB {fu:Nat} {x:Plan} (h:Sp x) (Z:2097153≤fu):MJ fu x=some (Z0 x):=by
 unfold MJ Z0
 rw [pm h AC,AB]
 cases N:RQ x
 · rfl
 · rw [Bool.not_true,cond_false,cond_true]
   have A:=N
   unfold RQ at A
   simp only [Bool.and_eq_true,decide_eq_true_eq,beq_iff_eq] at A
   obtain ⟨_,_,p3⟩:=A
   have L:(x.fV.zip x.fE).length=x.fV.length:=AJ
   have M:=hU (x.fV.zip x.fE) (λn (o:ByteArray) i=>F9 fu x n o i) (λ_ D o=>some (D.foldl kS o)) (λ_ D o=>(∀ p∈D,(∀ n∈GE p.1 p.2,0≤n∧n≤999999)∧(GE p.1 p.2).length≤106)∧o.size+2401*D.length≤1000000) AC ?_ ?_ fu ⟨#[]⟩ ⟨λp N=>by
    have:=List.all_eq_true.1 p3 p N
    rw [Bool.and_eq_true] at this
    exact bI this.1 this.2,by rw [L]; show 0+_≤_; omega⟩ AC
   · exact M
   · intro n o pre p D e O J Y U
     obtain ⟨Q,V⟩:=Y
     simp only [List.length_cons] at V
     obtain ⟨e1,e2⟩:=Yh O
     rw [L] at J
     have T:=Q p AD
     have Aa:=kD T
     simp only [F9.eq_2]
     unfold OJ
     rw [J,cond_true,e1,AB,e2,AB,tA Z T,AB,NR AC,AB]
     show (AA (NY (o++HV NW (GE p.1 p.2)) iG) λE=>F9 fu x n E (AK ((pre.length:Int)+1)))=_
     rw [NR (by rw [ByteArray.size_append,show iG.size=1 from rfl]; omega),AB,ByteArray.append_assoc]
     exact U _ ⟨λq O=>Q q (by simp [O]),by rw [ByteArray.size_append]; omega⟩
   · intro n o J _
     rw [L] at J ⊢
     simp only [F9.eq_2]
     unfold OJ
     rw [J,cond_false]; rfl
theorem uu (b:ByteArray):∀ (m i:Nat) (r:List UInt8),b.size - i=m→ByteArray.toList.loop b i r=r.reverse++b.data.toList.drop i:=by
 intro m
 induction m with
 | zero =>
  intro i r h
  rw [ByteArray.toList.loop,if_neg AC]
  have:b.data.toList.length≤i:=by have:b.size=b.data.size:=rfl; simp; omega
  rw [List.drop_of_length_le this]; simp
 | succ m A =>
  intro i r h
  rw [ByteArray.toList.loop,if_pos AC,A (i+1) _ AC]
  have D:b.size=b.data.size:=rfl
  have hi:i<b.data.toList.length:=AJ
  rw [List.drop_eq_getElem_cons hi]
  have:b.get! i=b.data.toList[i]:=by
   unfold ByteArray.get!
   simp [Array.getElem!_eq_getD,Array.getD]
   rw [dif_pos AC]
  rw [this]; simp
theorem pX (b:ByteArray):b.toList=b.data.toList:=by
 unfold ByteArray.toList
 rw [uu b _ 0 [] rfl]; simp
theorem Xf (a b:ByteArray):(a.toList==b.toList)=decide (a=b):=by
 rw [pX,pX]
 by_cases h:a=b
 · subst h; simp
 · rw [decide_eq_false h]
   have:a.data.toList≠b.data.toList:=λe=>h (ByteArray.ext (Array.ext' e))
   simpa using this
theorem rm:∀ (u:Nat),∀ b∈Lib.decDigits u,48≤b.toNat∧b.toNat≤57:=by
 intro u
 induction u using Nat.strongRecOn with
 | _ u E =>
  intro b A
  have D:∀ d:Nat,d<10→48≤(UInt8.ofNat (48+d)).toNat∧(UInt8.ofNat (48+d)).toNat≤57:=λd _=>by
   rw [UInt8.toNat_ofNat']; omega
  rw [Lib.decDigits] at A
  split at A
  · rename_i h
    rw [List.mem_singleton.1 A]
    exact D u h
  · rename_i h
    rcases List.mem_append.1 A with A | A
    · exact E (u / 10) AC b A
    · rw [List.mem_singleton.1 A]
      exact D _ AC
theorem dw:∀ (l r:List UInt8) (A:Nat),Lib.decFrom A (l++r)=(Lib.decFrom A l).bind λn=>Lib.decFrom n r
 | [],r,A=>rfl
 | b::l,r,A=>by
  simp only [List.cons_append,Lib.decFrom]
  cases Lib.digitVal b with
  | none=>rfl
  | some d=>exact dw l r _
theorem km:∀ (u:Nat),Lib.decFrom 0 (Lib.decDigits u)=some u:=by
 intro u
 induction u using Nat.strongRecOn with
 | _ u D =>
  have A:∀ d:Nat,d<10→Lib.digitVal (UInt8.ofNat (48+d))=some d:=λd _=>by
   unfold Lib.digitVal
   have:(UInt8.ofNat (48+d)).toNat=48+d:=by rw [UInt8.toNat_ofNat']; omega
   rw [this,if_pos AC]
   congr 1; omega
  rw [Lib.decDigits]
  split
  · rename_i h
    simp only [Lib.decFrom,A u h]
    congr 1; omega
  · rename_i h
    rw [dw,D (u / 10) AC]
    simp only [Option.bind_some,Lib.decFrom,A (u % 10) AC]
    congr 1; omega
theorem m4:∀ (k u:Nat),u<10 ^ (k+1)→1≤(Lib.decDigits u).length∧(Lib.decDigits u).length≤k+1
 | 0,u,h=>by
  rw [Lib.decDigits,dif_pos AC]; simp
 | k+1,u,h=>by
  rw [Lib.decDigits]
  split
  · simp
  · have:=m4 k (u / 10) (by
      rw [Nat.pow_succ] at h
      omega)
    simp only [List.length_append,List.length_singleton]
    omega
theorem t8 {u:Nat} (h:u≤999999):Lib.atoiAll (Lib.decDigits u)=.ok (u:Int):=by
 have hl:=m4 5 u AC
 rw [Lib.atoiAll_short _ AC]
 have J:=km u
 have D:=rm u
 cases E:Lib.decDigits u with
 | nil=>rw [E] at hl; simp at hl
 | cons b r =>
  rw [E] at J D
  have A:=D b AD
  have n1:¬ (b==45)=true:=λe=>by rw [beq_iff_eq.1 e] at A; exact absurd A A1
  have L:¬ (b==43)=true:=λe=>by rw [beq_iff_eq.1 e] at A; exact absurd A A1
  unfold Lib.atoi
  show Lib.NumEnd.ofOption (if (b==45)=true then _ else if (b==43)=true then _ else Option.map _ (Lib.decNat (b::r)))=_
  rw [if_neg n1,if_neg L]
  unfold Lib.decNat
  rw [if_neg AD,J]
  rfl
theorem ZX {u:Nat}:KU (u:Int)=⟨(Lib.decDigits u).toArray⟩:=by
 unfold KU Lib.itoa
 rw [if_neg AC,Int.toNat_natCast]
theorem pL {fu:Nat} {s:ByteArray} (L:s.size≤1048576):∃ r,K0 fu s=some r∧((∃ u:Nat,u≤999999∧s=KU u∧r=((u:Int),true))∨((∀ u:Nat,u≤999999→s≠KU u)∧r=(0,false))):=by
 unfold K0 XH nV VG
 rw [if_pos L,AB]
 by_cases J:∃ u:Nat,u≤999999∧s=KU u
 · obtain ⟨u,D,rfl⟩:=J
   have e:(KU (u:Int)).data.toList=Lib.decDigits u:=by rw [ZX]
   rw [e,t8 D]
   simp only [cond_false,Yy,AB,show CW (u:Int) 0 999999=true from BS.2 AC,Bool.not_true]
   rw [gD fu AC,AB,Xf,decide_eq_true rfl]
   exact ⟨_,rfl,.inl ⟨u,D,rfl,rfl⟩⟩
 · have A:∀ u:Nat,u≤999999→s≠KU u:=λu D e=>J ⟨u,D,e⟩
   refine ⟨(0,false),?_,.inr ⟨A,rfl⟩⟩
   cases N:Lib.atoiAll s.data.toList
   case ok v =>
    simp only [cond_false,Yy,AB]
    cases M:CW v 0 999999
    · rfl
    · have E:=BS.1 M
      rw [Bool.not_true,cond_false,gD fu E,AB,Xf,decide_eq_false (λe=>by
       obtain ⟨u,rfl⟩:∃ u:Nat,v=u:=⟨v.toNat,AC⟩
       exact A u AC e.symm)]
      rfl
   all_goals rfl
theorem ra {s:ByteArray} {pre l:List UInt8} {b:UInt8} (h:s.data.toList=pre++b::l):sx s (pre.length:Int)=some (b.toNat:Int):=by
 have hl:s.data.toList[pre.length]? = some b:=by rw [h]; simp
 have A:s.data.toList.length=s.size:=Array.length_toList
 have hi:pre.length<s.size:=by rw [← A,h]; simp
 unfold sx
 rw [if_pos AC,Int.toNat_natCast,getElem?_pos s pre.length hi]
 have e:s[pre.length]=b:=by
  have:s.data.toList[pre.length]? = some s[pre.length]:=by
   rw [Array.getElem?_toList]
   exact Array.getElem?_eq_getElem hi
  rw [hl] at this
  exact (Option.some.inj this).symm
 rw [e]; rfl
theorem sI {s:ByteArray}:∀ (l pre:List UInt8) (n k:Nat),s.data.toList=pre++l→s.size≤6→l.length<k→n<10 ^ pre.length →
    GI 2097153 s k (n:Int) (pre.length:Int)=match Lib.decFrom n l with | none=>some (0,false) | some m=>bif decide (KU (m:Int)=s) then some ((m:Int),true) else some (0,false)
 | [],pre,n,k,h,hs,hk,hn=>by
  obtain ⟨k,rfl⟩:∃ j,k=j+1:=⟨k - 1,AC⟩
  have A:s.size=pre.length:=by
   have:s.data.toList.length=s.size:=Array.length_toList
   rw [← this,h]; simp
  have D:n<10 ^ 6:=Nat.lt_of_lt_of_le hn (Nat.pow_le_pow_right AC AC)
  rw [GI.eq_2]
  unfold SU
  rw [AM AJ,g7 AC AC,AB,Xf]
  simp only [Lib.decFrom]
  cases decide (KU (n:Int)=s) <;> rfl
 | b::l,pre,n,k,h,hs,hk,hn=>by
  obtain ⟨k,rfl⟩:∃ j,k=j+1:=⟨k - 1,AC⟩
  have A:s.size=pre.length+(l.length+1):=by
   have:s.data.toList.length=s.size:=Array.length_toList
   rw [← this,h]; simp
  have N:10 ^ pre.length≤10 ^ 5:=Nat.pow_le_pow_right AC AC
  have O:b.toNat<256:=b.toNat_lt
  have J:=ra h
  rw [GI.eq_2]
  unfold SU VM VH
  rw [AX AJ]
  simp only [J,AB]
  unfold Lib.decFrom Lib.digitVal
  by_cases M:b.toNat<48
  · rw [AX AJ,if_neg AC]
  · rw [AM AJ]
    by_cases L:b.toNat>57
    · rw [AX AJ,if_neg AC]
    · rw [AM AJ,if_pos AC]
      have e:AK (AK (AK (10*(n:Int))+AK (b.toNat:Int)) - 48)=((n*10+(b.toNat - 48):Nat):Int):=by
       rw [AU (n:=10*(n:Int)) AC AC,AU (n:=(b.toNat:Int)) AC AC,AU (n:=_+(b.toNat:Int)) AC AC,AU AC AC]
       omega
      have E:AK ((pre.length:Int)+1)=(((pre++[b]).length:Nat):Int):=by
       rw [AU AC AC]; simp
      rw [e,E]
      exact sI l (pre++[b]) _ k (by simp [h]) hs (by simp at hk; omega) (by
       rw [List.length_append,List.length_singleton,Nat.pow_succ]
       omega)
theorem zB {s:ByteArray} (T:s.size≤1048576):MR 2097153 s=K0 2097153 s:=by
 obtain ⟨r,O,D⟩:=pL (fu:=2097153) T
 rw [O]
 unfold MR VT
 have N:s.data.toList.length=s.size:=Array.length_toList
 have L:∀ u:Nat,u≤999999→1≤(KU (u:Int)).size∧(KU (u:Int)).size≤6:=λu A=>by
  have:=m4 5 u AC
  rw [ZX]
  exact this
 by_cases J:(s.size:Int)<1
 · rw [AX (by simpa using J)]
   rcases D with ⟨u,A,rfl,_⟩ | ⟨_,rfl⟩
   · have:=L u A; omega
   · rfl
 · rw [AM (by simpa using J)]
   by_cases M:(s.size:Int)>6
   · rw [AX (by simpa using M)]
     rcases D with ⟨u,A,rfl,_⟩ | ⟨_,rfl⟩
     · have:=L u A; omega
     · rfl
   · rw [AM (by simpa using M)]
     have:=sI (s:=s) s.data.toList [] 0 2097153 rfl AC AC AD
     rw [show ((([]:List UInt8).length:Nat):Int)=0 from rfl,show (((0:Nat):Nat):Int)=0 from rfl] at this
     rw [this]
     rcases D with ⟨u,A,rfl,rfl⟩ | ⟨E,rfl⟩
     · have e:(KU (u:Int)).data.toList=Lib.decDigits u:=by rw [ZX]
       rw [e,km u]
       simp
     · cases Q:Lib.decFrom 0 s.data.toList with
       | none=>rfl
       | some m =>
        have U:=Lib.decFrom_lt _ _ _ Q
        have V:10 ^ s.data.toList.length≤10 ^ 6:=Nat.pow_le_pow_right AC AC
        simp only
        rw [decide_eq_false (λe=>E m AC e.symm)]
        rfl
end Go.Proofs.YtdgpkmgnjdpieaaGreatDoor
