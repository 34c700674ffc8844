/- TopBP: plain lemmas,.. -/
import Derived.Test.YtdgpkmgnjdpieaaGreatDoorTopBP3
set_option linter.unusedSimpArgs false
set_option linter.unusedVariables false
namespace Go.Proofs.YtdgpkmgnjdpieaaGreatDoor
open Go
open Enc (rd ow)
open Arg (argv)
open Ret (retv)
open Wf (wf)
theorem xJ {fu:Nat} {A:List (List Int)} (hl:A.length≤4) (L:∀ g∈A,g.length≤4) (J:100≤fu) (c:Int):T3 fu A c=some (kl A c):=by
 unfold T3
 have:=TV A (λn i=>Jr fu A c n i) (λg=>g.contains c) AC (by
  intro n i x E D
  have:=L x (DA E)
  simp only [Jr.eq_2]
  unfold QO
  simp only [D,cond_true,E,AB,r7 (show x.length≤1048576 by omega) (show x.length<fu by omega)]) (by
  intro n i D
  simp only [Jr.eq_2]
  unfold QO
  simp only [D,cond_false]) fu AC
 rw [this,bd]
 unfold kl
 cases TO (λg=>g.contains c) A <;> simp
theorem tt {fu:Nat} {l:List Carton} (f:Carton→Option Bool) (g:Carton→Bool) (E:∀ x∈l,f x=some (g x)) (hl:l.length≤1048576) (J:l.length<fu):CV fu l f=some (Vy g l 0):=by
 unfold CV
 refine TV l (λn i=>BI fu l f n i) g AC ?_ ?_ fu J
 · intro n i x D A
   simp only [BI.eq_2]
   unfold DM
   simp only [A,cond_true,D,AB,E x (DA D)]
 · intro n i A
   simp only [BI.eq_2]
   unfold DM
   simp only [A,cond_false]
theorem s3 {fu:Nat} {l:List Carton} (f:Carton→Option Bool) (g:Carton→Bool) (A:∀ x∈l,f x=some (g x)) (hl:l.length≤1048576) (D:l.length<fu):CH fu l f=some (l.any g):=by
 unfold CH
 rw [tt f g A hl D,AB,Wo g l 0 AC]
def l2 (x:Plan):Bool:=x.fV.any λc=>(c.fK.length:Int)==0
theorem zt {fu:Nat} {x:Plan} (h:Sp x) (N:1048577≤fu):Sq fu x=some (l2 x):=by
 have M:=h.cars
 unfold Sq l2
 have D:=lp x.fV (λn (_:Unit) i=>IK fu x n i) (λl _=>some (l.any λc=>(c.fK.length:Int)==0)) AC ?_ ?_ fu () AC
 · exact D
 · intro n _ i c L J A E
   have E:=E ()
   simp only [IK.eq_2]
   unfold OO
   rw [A,cond_true,J,AB,E,List.any_cons]
   cases (c.fK.length:Int)==0 <;> rfl
 · intro n _ i A
   simp only [IK.eq_2]
   unfold OO
   rw [A,cond_false]; rfl
def df (r:Request) (x:Plan):Bool:=tI (LK x.fV) (BW 0 (CP r).length)
theorem hB {r:Request} {x:Plan}:df r x=true↔(LK x.fV).Perm (BW 0 (CP r).length):=rR
theorem wY {fu:Nat} {r:Request} (O:2097153≤fu) {x:Plan} (h:Sp x):SF fu (CP r) x=some (df r x):=by
 have Y:=Yr r
 have N:=ZJ x.fV
 have Z:=h.all
 unfold SF
 rw [wP h AC,AB]
 by_cases hl:(LK x.fV).length=(CP r).length
 · rw [show (((LK x.fV).length:Int) != ((CP r).length:Int))=false by simp; omega,cond_false]
   have D:=wv ((CP r).length:Int) (λn (_:Unit) i=>IE fu (CP r) (LK x.fV) n i) (λl _=>some (l.all λu=>(LK x.fV).count u==1)) AC ?_ ?_ (CP r).length fu () 0 AC AC AC
   · rw [D]
     congr 1
     apply Bool.eq_iff_iff.2
     rw [hB]
     constructor
     · intro V
       refine (lH _ _ (by rw [B5,hl]) λu A=>?_).symm
       have L:=List.all_eq_true.1 V u A
       have U:(BW 0 (CP r).length).count u=1:=by rw [List.Nodup.count (OA _ _),if_pos A]
       have h3:(LK x.fV).count u=1:=by simpa using L
       omega
     · intro Q
       refine List.all_eq_true.2 λu A=>?_
       have U:(BW 0 (CP r).length).count u=1:=by rw [List.Nodup.count (OA _ _),if_pos A]
       have:=Q.count_eq u
       simp; omega
   · intro n _ i e h0 L J E
     have E:=E ()
     simp only [IE.eq_2]
     unfold N6
     rw [J,cond_true,x7 AC AC,AB,pV,E,List.all_cons]
     by_cases M:(LK x.fV).count i=1
     · simp [M]
     · rw [show (((LK x.fV).count i:Int) != 1)=true by simp; omega,cond_true,show ((LK x.fV).count i==1)=false by simpa using M]; rfl
   · intro n _ i J
     simp only [IE.eq_2]
     unfold N6
     rw [J,cond_false]; rfl
 · rw [show (((LK x.fV).length:Int) != ((CP r).length:Int))=true by simp; omega,cond_true]
   congr 1
   symm
   apply Bool.eq_false_iff.2
   intro T
   have:=(hB.1 T).length_eq
   rw [B5] at this
   exact hl this
theorem lU (a:Int) (n:Nat):(BW a n).mergeSort (λx y=>decide (x≤y))=BW a n :=
 List.mergeSort_of_pairwise ((W7 a n).imp λh=>by simpa using (show _≤_ by omega))
def iZ (r:Request) (c:Carton):Bool:=match Ky r c.f8 with | some t=>Wv r c.fK t | none=>false
def m0 (r:Request) (c:Carton):Bool:=c.fK.all λu=>kl (CD r) (LL r u).fO==c.fF
def mI (r:Request) (c:Carton):Bool:=(Qk r c.fK).2&&(Qk r c.fK).1.fe==c.f8
theorem sb {fu:Nat} {r:Request} (h:Sm fu r) {x:Plan} (J:Sp x):R7 fu r x=some (x.fV.all (iZ r)):=by
 have L:=h.fu
 have Q:=J.cars
 unfold R7
 have A:=lp x.fV (λn (_:Unit) i=>EX fu r x n i) (λl _=>some (l.all (iZ r))) AC ?_ ?_ fu () AC
 · exact A
 · intro n _ i c N e E D
   have D:=D ()
   have M:=J.units c (DA e)
   simp only [EX.eq_2]
   unfold N4 SG S2
   rw [E,cond_true,e,AB,cl h,AB,List.all_cons]
   unfold iZ
   cases O:Ky r c.f8 with
   | none=>rfl
   | some t =>
    simp only [Wz,Bool.not_true,cond_false]
    rw [AB,n8 h _ t M,AB,D]
    cases Wv r c.fK t <;> rfl
 · intro n _ i E
   simp only [EX.eq_2]
   unfold N4
   rw [E,cond_false]; rfl
theorem sg {fu:Nat} {r:Request} (h:Sm fu r) {x:Plan} (N:Sp x):Sf fu r (CP r) x=some (x.fV.all (m0 r)):=by
 have T:=h.fu
 have V:=N.cars
 unfold Sf
 rw [oI h,AB]
 have J:=lp x.fV (λn (_:Unit) i=>C9 fu r (CP r) x (CD r) n i) (λl _=>some (l.all (m0 r))) AC ?_ ?_ fu () AC
 · exact J
 · intro n _ i c Q e M L
   have L:=L ()
   have U:=N.units c (DA e)
   simp only [C9.eq_2]
   unfold Ot
   rw [M,cond_true]
   have E:=lp c.fK (λm (_:Unit) j=>E2 fu (C9 fu r (CP r) x (CD r) n) r (CP r) x (CD r) i m j) (λl _=>some (l.all (λu=>kl (CD r) (LL r u).fO==c.fF)&&Q.all (m0 r))) AC ?_ ?_ fu () AC
   · rw [E]; rfl
   · intro m _ j u us O A D
     have D:=D ()
     simp only [E2.eq_2]
     unfold OL Ti SW
     simp only [e,AB,A,cond_true,O,kQ,xJ (SA r).1 (SA r).2 (show 100≤fu by omega),D,List.all_cons,bne]
     cases kl (CD r) (LL r u).fO==c.fF <;> rfl
   · intro m _ j A
     simp only [E2.eq_2]
     unfold OL S0
     simp only [e,AB,A,cond_false,L]
     rfl
 · intro n _ i M
   simp only [C9.eq_2]
   unfold Ot
   rw [M,cond_false]; rfl
theorem sf {fu:Nat} {r:Request} (h:Sm fu r) {x:Plan} (J:Sp x):Sy fu r x=some (x.fV.all (mI r)):=by
 have M:=h.fu
 have N:=J.cars
 unfold Sy
 have D:=lp x.fV (λn (_:Unit) i=>E9 fu r x n i) (λl _=>some (l.all (mI r))) AC ?_ ?_ fu () AC
 · exact D
 · intro n _ i c O e A E
   have E:=E ()
   have L:=J.units c (DA e)
   simp only [E9.eq_2]
   unfold Pv SO To
   simp only [A,cond_true,e,AB,oZ h _ L,List.all_cons,E,bne,mI]
   cases (Qk r c.fK).2 <;> cases (Qk r c.fK).1.fe==c.f8 <;> rfl
 · intro n _ i A
   simp only [E9.eq_2]
   unfold Pv
   rw [A,cond_false]; rfl
def cs (x:Plan):List (Carton×Spot):=x.fV.zip x.fE
def iM (r:Request) (p:Carton×Spot):Bool:=lc r.fJ (H5 r p.1) p.2
def wc (r:Request) (p q:Carton×Spot):Bool:=mw (H5 r p.1) p.2 (H5 r q.1) q.2
def aQ (r:Request):List (Carton×Spot)→List (Carton×Spot)→Bool
 | _,[]=>true
 | pre,p::l=>pre.all (λq=>!wc r p q)&&aQ r (pre++[p]) l
theorem mK {x:Plan} (A:x.fE.length=x.fV.length):(cs x).length=x.fV.length:=by simp [cs]; omega
theorem xB {fu:Nat} {r:Request} (h:Sm fu r) {x:Plan} (L:Sp x) (O:x.fE.length=x.fV.length):PG fu r x=some ((cs x).all (iM r)):=by
 have Q:=h.fu
 have V:=L.cars
 have M:=mK O
 unfold PG
 have D:=lp (cs x) (λn (_:Unit) i=>HI fu r x n i) (λl _=>some (l.all (iM r))) AC ?_ ?_ fu () AC
 · exact D
 · intro n _ i p U e A E
   have E:=E ()
   obtain ⟨J,N⟩:=Ya e
   have T:=L.units p.1 (DA J)
   rw [M] at A
   simp only [HI.eq_2]
   unfold M5
   simp only [A,cond_true,J,N,AB,kt h _ T,xR,E,List.all_cons,iM]
   cases lc r.fJ (H5 r p.1) p.2 <;> rfl
 · intro n _ i A
   rw [M] at A
   simp only [HI.eq_2]
   unfold M5
   rw [A,cond_false]; rfl
theorem xg {fu:Nat} {r:Request} (h:Sm fu r) {x:Plan} (N:Sp x) (el:x.fE.length=x.fV.length):SC fu r x=some (aQ r [] (cs x)):=by
 have Ab:=h.fu
 have hc:=N.cars
 have U:=mK el
 unfold SC
 have L:=vM (cs x) (λn (_:Unit) i=>E0 fu r x n i) (λpre l _=>some (aQ r pre l)) AC ?_ ?_ fu () AC
 · exact L
 · intro n _ pre p xs T e E M
   have M:=M ()
   obtain ⟨Q,Z⟩:=Ya e
   have hu:=N.units p.1 (DA Q)
   have Aa:pre.length≤(cs x).length:=by rw [T]; simp
   rw [U] at E
   simp only [E0.eq_2]
   unfold Pg
   rw [E,cond_true]
   have J:=lp pre (λm (_:Unit) j=>H3 fu (E0 fu r x n) r x (pre.length:Int) m j) (λl _=>some (l.all (λq=>!wc r p q)&&aQ r (pre++[p]) xs)) AC ?_ ?_ fu () AC
   · rw [J]; rfl
   · intro m _ j q qs f A D
     have D:=D ()
     have f':ix (cs x) j=some q:=by rw [T]; exact ky f
     obtain ⟨V,Y⟩:=Ya f'
     have O:=N.units q.1 (DA V)
     simp only [H3.eq_2]
     unfold OE
     simp only [A,cond_true,Q,Z,V,Y,AB,kt h _ hu,kt h _ O,yw,D,List.all_cons,wc]
     cases mw (H5 r p.1) p.2 (H5 r q.1) q.2 <;> rfl
   · intro m _ j A
     simp only [H3.eq_2]
     unfold OE
     rw [A,cond_false,M]; rfl
 · intro n _ E
   rw [U] at E ⊢
   simp only [E0.eq_2]
   unfold Pg
   rw [E,cond_false]; rfl
def lW (r:Request) (x:Plan) (k:Int):Bool :=
 !(((YF x k).length:Int)==0)&&(!(decide (uA r x k>r.fJ.fQ))&&(YF x k).all λi=>(Wx x i).fF==(Wx x (ix (YF x k) 0 |>.getD 0)).fF)
theorem kg {x:Plan} {k:Int} (E:(((YF x k).length:Int)==0)=false):∃ A D,ix (YF x k) 0=some A∧ix x.fV A=some D∧∃ rest,YF x k=A::rest:=by
 cases hl:YF x k with
 | nil=>simp [hl] at E
 | cons A rest =>
  obtain ⟨D,_,J,_⟩:=ZH (show A∈YF x k by rw [hl]; simp)
  exact ⟨A,D,rfl,J,rest,rfl⟩
theorem xn {fu:Nat} {r:Request} (h:Sm fu r) {x:Plan} (V:Sp x):NC fu r x=some ((BW 0 (TN x.fE).toNat).all (lW r x)):=by
 have Ab:=h.fu
 have hc:=V.cars
 have hs:=V.spots
 have hb:=d8 x.fE
 unfold NC
 rw [qQ hs AC,AB]
 have N:=wv (TN x.fE) (λn (_:Unit) i=>CX fu r x (TN x.fE) n i) (λl _=>some (l.all (lW r x))) AC ?_ ?_ (TN x.fE).toNat fu () 0 AC AC AC
 · exact N
 · intro n _ k xs h0 h1 Y L
   have L:=L ()
   have Ac:=eH x k
   simp only [CX.eq_2]
   unfold LY
   rw [Y,cond_true,y8 hs hc AC AC,AB,List.all_cons]
   generalize xs.all (lW r x)=A at L ⊢
   unfold lW
   cases Z:((YF x k).length:Int)==0
   · rw [cond_false,zN h V,AB,Bool.not_false,Bool.true_and]
     cases decide (uA r x k>r.fJ.fQ)
     · obtain ⟨M,Q,g1,g2,rest,T⟩:=kg Z
       rw [cond_false,g1,Option.getD_some,Bool.not_false,Bool.true_and]
       unfold OQ
       have e0:Wx x M=Q:=by unfold Wx; rw [g2]; rfl
       rw [e0]
       have J:∀ (D:List Int) (pre:List Int) (m:Nat),YF x k=pre++D→D.length<m→GL fu (CX fu r x (TN x.fE) n) x k (YF x k) m (pre.length:Int)=some (D.all (λi=>(Wx x i).fF==Q.fF)&&A):=by
        intro D
        induction D with
        | nil =>
         intro pre m e hm
         obtain ⟨m,rfl⟩:∃ k,m=k+1:=⟨m - 1,AC⟩
         rw [GL.eq_2]
         unfold Mv OK
         rw [show decide ((pre.length:Int)<((YF x k).length:Int))=false from decide_eq_false (by rw [e]; simp),cond_false,L]
         rfl
        | cons i D U =>
         intro pre m e hm
         obtain ⟨m,rfl⟩:∃ k,m=k+1:=⟨m - 1,AC⟩
         have hi:i∈YF x k:=by rw [e]; simp
         obtain ⟨c,_,E,_⟩:=ZH hi
         have O:ix (YF x k) (pre.length:Int)=some i:=by rw [e,EG]; simp
         have Aa:pre.length+1≤(YF x k).length:=by rw [e]; simp
         rw [GL.eq_2]
         unfold Mv
         rw [show decide ((pre.length:Int)<((YF x k).length:Int))=true from decide_eq_true AC,cond_true,O,AB,E,AB,g1,AB,g2,AB,Yk _ AC]
         have:=U (pre++[i]) m (by rw [e]; simp) (by simp at hm; omega)
         rw [List.length_append,List.length_singleton] at this
         rw [this,List.all_cons,show Wx x i=c by unfold Wx; rw [E]; rfl]
         simp only [bne]
         cases c.fF==Q.fF <;> rfl
       have:=J rest [M] fu (by rw [T]; rfl) (by have:(YF x k).length=rest.length+1:=(by rw [T]; rfl); omega)
       rw [show ((1:Int))=(([M]:List Int).length:Int) from rfl,this]
       conv=>rhs; rw [T]
       rw [List.all_cons,e0]
       simp
     · rfl
   · rfl
 · intro n _ i Y
   simp only [CX.eq_2]
   unfold LY
   rw [Y,cond_false]; rfl
def dv (r:Request) (x:Plan):Int :=
 bif !(CA r==0) then 1 else bif !(RO x) then 2 else bif l2 x then 2 else bif !(df r x) then 3 else bif !(x.fV.all (iZ r)) then 4 else
 bif !(x.fV.all (m0 r)) then 5 else bif !(x.fV.all (mI r)) then 6 else bif !((cs x).all (iM r)) then 7 else bif !(aQ r [] (cs x)) then 8 else
 bif !((BW 0 (TN x.fE).toNat).all (lW r x)) then 9 else 0
theorem jX {x:Plan} (h:RO x=true):x.fE.length=x.fV.length:=by
 unfold RO at h
 simp only [Bool.and_eq_true] at h
 simpa using h.1
theorem ux {fu:Nat} {r:Request} (h:Sm fu r) {x:Plan} (A:Sp x):W3 fu r x=some (dv r x):=by
 have D:=h.fu
 unfold W3 dv
 rw [Zg h,AB]
 cases J:CA r==0
 · rw [show (CA r != 0)=true by simp only [bne,J]; rfl]; rfl
 · have L:CA r=0:=by simpa using J
   have M:C8 fu r=some (CP r):=rN h L
   rw [show (CA r != 0)=false by simp [L],cond_false,nC A AC,AB]
   cases N:RO x
   · rfl
   · have E:=jX N
     unfold WT
     rw [Bool.not_true,cond_false,zt A AC,AB]
     cases l2 x
     · rw [cond_false,M,AB,wY D A,AB,sb h A,AB,sg h A,AB,sf h A,AB,xB h A E,AB,xg h A E,AB,xn h A,AB]
       cases df r x <;> cases x.fV.all (iZ r) <;> cases x.fV.all (m0 r) <;> cases x.fV.all (mI r) <;> cases (cs x).all (iM r) <;> cases aQ r [] (cs x) <;> cases (BW 0 (TN x.fE).toNat).all (lW r x) <;> rfl
     · rfl
theorem uv {r:Request} {A:Int} {t:Typ} (h:Ky r A=some t):t∈r.fG:=List.mem_of_find?_eq_some h
theorem oc (r:Request) (us:List Int):∀ (l:List Typ) (s:Typ×Bool),(l.foldl (nA r us) s).2=(s.2||l.any (Wv r us))
 | [],s=>by simp
 | t::l,s=>by
  rw [List.foldl_cons,oc r us l,List.any_cons]
  unfold nA
  obtain ⟨b,f⟩:=s
  cases Wv r us t <;> cases f <;> simp
  cases (decide (t.fd<b.fd)||t.fd==b.fd&&decide (t.fe<b.fe)) <;> simp
theorem mG {r:Request} {us:List Int} {t:Typ} (A:t∈r.fG) (h:Wv r us t=true):(Qk r us).2=true:=by
 unfold Qk
 rw [oc]
 simp only [Bool.false_or]
 exact List.any_eq_true.2 ⟨t,A,h⟩
theorem xI {r:Request} {c:Carton} (h:iZ r c=true):∀ u∈c.fK,0≤u∧u<(CP r).length:=by
 unfold iZ at h
 intro u A
 split at h
 · simp only [Wv,Bool.and_eq_true] at h
   have:=List.all_eq_true.1 h.2.1 u A
   simp only [u9,Bool.and_eq_true] at this
   exact aq.1 this.1
 · cases h
theorem p7 {r:Request} {u:Int} (L:0≤u∧u<(CP r).length) {g:Int} (N:0≤g) :
    (kl (CD r) (LL r u).fO==g)=(match ix (CD r) g with | some l=>l.contains (LL r u).fO | none=>false):=by
 have hi:=XW L
 obtain ⟨i,l,E,D,M⟩:=n5 (oV hi)
 rw [M]
 apply Bool.eq_iff_iff.2
 constructor
 · intro h
   have e:(i:Int)=g:=by simpa using h
   rw [← e,mi E]
   simpa using D
 · intro h
   cases A:ix (CD r) g with
   | none=>rw [A] at h; cases h
   | some m =>
    rw [A] at h
    obtain ⟨_,_,J⟩:=AG A
    have:=cV E J D (by simpa using h)
    simp; omega
theorem u0 {fu:Nat} {r:Request} (h:Sm fu r) {x:Plan} (U:Sp x) (hg:∀ c∈x.fV,0≤c.fF):Me fu r x =
    some (bif !(x.fV.all (iZ r)) then 4 else bif !(x.fV.all (m0 r)) then 5 else bif !(x.fV.all (mI r)) then 6 else 0):=by
 have Ad:=h.fu
 have hc:=U.cars
 unfold Me
 have Y:=XD x.fV (λn (_:Unit) i=>EJ fu r x n i) (λl _=>some (bif !(l.all (iZ r)) then 4 else bif !(x.fV.all (m0 r)) then 5 else bif !(x.fV.all (mI r)) then 6 else 0))
  (λl _=>l.all (iZ r)=true→x.fV.all (iZ r)=true) AC ?_ ?_ fu () (λh=>h) AC
 · exact Y
 · intro n _ i c xs e A D J
   have N:=U.units c (DA e)
   simp only [EJ.eq_2]
   unfold LF M4
   rw [A,cond_true,e,AB,ZF h,AB,List.all_cons]
   rw [List.all_cons] at D
   cases V:Ky r c.f8 with
   | none=>rw [show iZ r c=false by unfold iZ; rw [V]]; rfl
   | some t =>
    simp only [Wz,Bool.not_true,cond_false]
    rw [pu h _ t N,AB]
    have Z:iZ r c=Wv r c.fK t:=by unfold iZ; rw [V]
    rw [Z] at D ⊢
    cases hh:Wv r c.fK t
    · rfl
    · rw [hh,Bool.true_and] at D
      rw [Bool.not_true,cond_false,J () D,Bool.true_and]
 · intro n _ i A D
   have hA:=D rfl
   simp only [EJ.eq_2]
   unfold LF
   rw [A,cond_false,nM h,AB]
   show _=some (bif !(x.fV.all (m0 r)) then 5 else bif !(x.fV.all (mI r)) then 6 else 0)
   have Q:=lp x.fV (λn (_:Unit) i=>FW fu r x (CD r) n i) (λl _=>some (bif !(l.all (m0 r)) then 5 else bif !(x.fV.all (mI r)) then 6 else 0)) AC ?_ ?_ fu () AC
   · exact Q
   · intro n _ i c xs e A J
     have J:=J ()
     have N:=U.units c (DA e)
     have O:=xI (List.all_eq_true.1 hA c (DA e))
     have Ac:=Y7 r c.fK
     simp only [FW.eq_2]
     unfold Lv
     rw [A,cond_true,e,AB,ef h _ N AC,AB,eT O]
     rw [ZP _ (λy=>!(match ix (CD r) c.fF with | some l=>l.contains y.fO | none=>false)) ?_ AJ AJ,AB,List.any_map,List.all_cons]
     · have Z:m0 r c=!(c.fK.any ((λy=>!(match ix (CD r) c.fF with | some l=>l.contains y.fO | none=>false)) ∘ LL r)):=by
         unfold m0
         rw [List.not_any_eq_all_not]
         apply gN
         intro u Aa
         rw [p7 (O u Aa) (hg c (DA e))]
         simp only [Function.comp,Bool.not_not]
       rw [Z,J]
       cases c.fK.any ((λy=>!(match ix (CD r) c.fF with | some l=>l.contains y.fO | none=>false)) ∘ LL r) <;> simp
     · intro y _
       unfold OZ
       have Ae:=hg c (DA e)
       by_cases T:c.fF≥(CD r).length
       · have e0:ix (CD r) c.fF=none:=by
           cases hq:ix (CD r) c.fF with
           | none=>rfl
           | some l=>have:=(AG hq).2.1; omega
         rw [e0,decide_eq_true T,cond_true]; rfl
       · have M:c.fF.toNat<(CD r).length:=AC
         have e0:ix (CD r) c.fF=some (CD r)[c.fF.toNat]:=by
          have:=W8 M
          rwa [show ((c.fF.toNat:Nat):Int)=c.fF by omega] at this
         have Ab:=(SA r).2 _ (List.getElem_mem M)
         rw [e0,decide_eq_false T,cond_false,AB,vw AC AC,AB]
   · intro n _ i A
     simp only [FW.eq_2]
     unfold Lv
     rw [A,cond_false]
     show _=some (bif !(x.fV.all (mI r)) then 6 else 0)
     have L:=XD x.fV (λn (_:Unit) i=>FV fu r x n i) (λl _=>some (bif !(l.all (mI r)) then 6 else 0)) (λl _=>l.all (iZ r)=true) AC ?_ ?_ fu () hA AC
     · exact L
     · intro n _ i c xs e A D J
       have N:=U.units c (DA e)
       rw [List.all_cons,Bool.and_eq_true] at D
       have E:=D.1
       have h2:(Qk r c.fK).2=true:=by
        unfold iZ at E
        split at E
        · rename_i t V
          exact mG (uv V) E
        · cases E
       simp only [FV.eq_2]
       unfold LE
       rw [A,cond_true,e,AB,oJ h _ N,AB,J () D.2,List.all_cons,mI,h2,Bool.true_and]
       simp only [bne]
       cases (Qk r c.fK).1.fe==c.f8 <;> rfl
     · intro n _ i A _
       simp only [FV.eq_2]
       unfold LE
       rw [A,cond_false]; rfl
theorem uZ {fu:Nat} {r:Request} (h:Sm fu r) {x:Plan} (U:Sp x) (el:x.fE.length=x.fV.length):PT fu r x =
    some (bif !((cs x).all (iM r)) then 7 else bif !(aQ r [] (cs x)) then 8 else bif !((BW 0 (TN x.fE).toNat).all (lW r x)) then 9 else 0):=by
 have Ad:=h.fu
 have hc:=U.cars
 have hs:=U.spots
 have V:=mK el
 have hb:=d8 x.fE
 have D:(((cs x).map λp=>H5 r p.1).length:Int)=x.fV.length:=by simp [V]
 unfold PT
 have Aa:=eZ (cs x) (λn (o:List Box) i=>HM fu r x n o i) (λ_ l _=>some (bif !(l.all (iM r)) then 7 else bif !(aQ r [] (cs x)) then 8 else bif !((BW 0 (TN x.fE).toNat).all (lW r x)) then 9 else 0))
  (λpre l o=>o=pre.map λp=>H5 r p.1) AC ?_ ?_ fu [] rfl AC
 · exact Aa
 · intro n o pre p xs N e E hI J
   obtain ⟨e1,e2⟩:=Ya e
   have hu:=U.units p.1 (DA e1)
   have Ab:pre.length≤(cs x).length:=by rw [N]; simp
   rw [V] at E
   simp only [HM.eq_2]
   unfold MX
   rw [E,cond_true,e1,AB,tq h _ hu,AB,e2,AB,yQ,AB,List.all_cons,iM]
   cases lc r.fJ (H5 r p.1) p.2
   · rfl
   · subst hI
     rw [Bool.not_true,cond_false,KU AJ,AB,J _ AD,Bool.true_and]
 · intro n o E hI
   rw [V] at E ⊢
   simp only [HM.eq_2]
   unfold MX
   rw [E,cond_false]
   show _=some (bif !(aQ r [] (cs x)) then 8 else bif !((BW 0 (TN x.fE).toNat).all (lW r x)) then 9 else 0)
   subst hI
   have Z:=vM (cs x) (λn (_:Unit) i=>EF fu r x ((cs x).map λp=>H5 r p.1) n i) (λpre l _=>some (bif !(aQ r pre l) then 8 else bif !((BW 0 (TN x.fE).toNat).all (lW r x)) then 9 else 0)) AC ?_ ?_ fu () AC
   · exact Z
   · intro n _ pre p xs N e E J
     have J:=J ()
     obtain ⟨e1,e2⟩:=Ya e
     have hu:=U.units p.1 (DA e1)
     have Ab:pre.length≤(cs x).length:=by rw [N]; simp
     have b1:ix ((cs x).map λp=>H5 r p.1) (pre.length:Int)=some (H5 r p.1):=by
      rw [EG,List.getElem?_map]
      rw [EG] at e
      rw [e]; rfl
     simp only [EF.eq_2]
     unfold M7
     rw [D,← V,E,cond_true]
     have Q:=lp pre (λm (_:Unit) j=>HG fu (EF fu r x ((cs x).map λp=>H5 r p.1) n) x ((cs x).map λp=>H5 r p.1) (pre.length:Int) m j) (λl _=>some (bif !(l.all (λq=>!wc r p q)&&aQ r (pre++[p]) xs) then 8 else bif !((BW 0 (TN x.fE).toNat).all (lW r x)) then 9 else 0)) AC ?_ ?_ fu () AC
     · rw [Q]; rfl
     · intro m _ j q qs f L M
       have M:=M ()
       have f':ix (cs x) j=some q:=by rw [N]; exact ky f
       obtain ⟨_,f2⟩:=Ya f'
       obtain ⟨j0,_,j2⟩:=AG f'
       have b2:ix ((cs x).map λp=>H5 r p.1) j=some (H5 r q.1):=by
        unfold ix
        rw [if_pos j0,List.getElem?_map,j2]; rfl
       simp only [HG.eq_2]
       unfold Nr
       simp only [L,cond_true,b1,e2,b2,f2,AB,xT,M,List.all_cons,wc]
       cases mw (H5 r p.1) p.2 (H5 r q.1) q.2 <;> rfl
     · intro m _ j L
       simp only [HG.eq_2]
       unfold Nr
       rw [L,cond_false,J]; rfl
   · intro n _ E
     simp only [EF.eq_2]
     unfold M7
     rw [D,← V,E,cond_false,ri hs AC,AB]
     show _=some (bif !((BW 0 (TN x.fE).toNat).all (lW r x)) then 9 else 0)
     have Y:=wv (TN x.fE) (λn (_:Unit) i=>EE fu r x (TN x.fE) n i) (λl _=>some (bif !(l.all (lW r x)) then 9 else 0)) AC ?_ ?_ (TN x.fE).toNat fu () 0 AC AC AC
     · exact Y
     · intro n _ k xs h0 h1 E J
       have J:=J ()
       have Ae:=eH x k
       simp only [EE.eq_2]
       unfold M8
       rw [E,cond_true,y9 hs AC,AB,List.all_cons]
       generalize xs.all (lW r x)=A at J ⊢
       unfold lW
       cases Ac:((YF x k).length:Int)==0
       · rw [cond_false,zI h U,AB,Bool.not_false,Bool.true_and]
         cases decide (uA r x k>r.fJ.fQ)
         · obtain ⟨i0,O,g1,g2,rest,_⟩:=kg Ac
           unfold QP Q6
           rw [cond_false,g1,Option.getD_some,Bool.not_false,Bool.true_and]
           have N:Wx x i0=O:=by unfold Wx; rw [g2]; rfl
           rw [N,lf _ (λi=>!((Wx x i).fF==O.fF)) ?_ AC AC,AB,J]
           · rw [show (YF x k).all (λi=>(Wx x i).fF==O.fF)=!((YF x k).any λi=>!((Wx x i).fF==O.fF)) by rw [List.not_any_eq_all_not]; simp]
             cases (YF x k).any λi=>!((Wx x i).fF==O.fF) <;> simp
           · intro i hi
             obtain ⟨c,_,T,_⟩:=ZH hi
             unfold Ts
             rw [T,AB,g1,AB,g2,AB,show Wx x i=c by unfold Wx; rw [T]; rfl]
             rfl
         · rfl
       · rfl
     · intro n _ i E
       simp only [EE.eq_2]
       unfold M8
       rw [E,cond_false]; rfl
theorem qj {x:Plan} (h:RO x=true):∀ c∈x.fV,0≤c.fF∧c.fF≤3:=by
 have J:=jX h
 unfold RO at h
 simp only [Bool.and_eq_true] at h
 intro c D
 obtain ⟨i,hi⟩:=List.mem_iff_getElem?.1 D
 have A:=(List.getElem?_eq_some_iff.1 hi).1
 have E:(c,x.fE[i]'(by omega))∈x.fV.zip x.fE:=by
  apply List.mem_iff_getElem?.2
  refine ⟨i,List.getElem?_zip_eq_some.2 ⟨hi,List.getElem?_eq_getElem _⟩⟩
 have:=List.all_eq_true.1 h.2.2 _ E
 simp only [aw,Bool.and_eq_true,BS] at this
 omega
theorem ny {fu:Nat} {r:Request} (h:Sm fu r) {x:Plan} (A:Sp x):UH fu r x=some (dv r x):=by
 have N:=h.fu
 have D:=A.cars
 have J:=ZJ x.fV
 have T:=A.all
 have O:=Yr r
 unfold UH dv
 rw [Xo h,AB]
 cases Q:CA r==0
 · rfl
 · rw [Bool.not_true,cond_false,rl A AC,AB]
   cases E:RO x
   · rfl
   · have M:=jX E
     rw [Bool.not_true,cond_false,s3 (l:=x.fV) (λy=>XM fu y) (λc=>(c.fK.length:Int)==0) (λc _=>rfl) D AC,AB]
     show (bif l2 x then _ else _)=_
     cases l2 x
     · rw [cond_false]
       unfold WU CL
       rw [wS A AC,AB,e8 AC,AB,nF h,AB,mr _ AC AC,AB,uK _ _ AJ AJ,AB,u0 h A (λc D=>(qj E c D).1),AB,uZ h A M,AB]
       have L:decide ((LK x.fV).mergeSort (λx y=>decide (x≤y))=BW 0 (CP r).length)=df r x:=by
        unfold df tI
        rw [lU]
       rw [L]
       cases df r x
       · rfl
       · cases x.fV.all (iZ r)
         · rfl
         · cases x.fV.all (m0 r)
           · rfl
           · cases x.fV.all (mI r) <;> rfl
     · rfl
theorem jx {a b:List Int} (h:a.Perm b):IM a=IM b:=by
 induction h with
 | nil=>rfl
 | cons x _ D=>simp [D]
 | swap x y l=>simp; omega
 | trans _ _ E A=>rw [E,A]
theorem lj {r:Request} {a b:List Int} (h:a.Perm b):(Wu r a).Perm (Wu r b):=h.filterMap _
theorem qM {r:Request} {a b:List Int} (h:a.Perm b):Vo r a=Vo r b:=jx ((lj h).map _)
theorem ll {r:Request} {a b:List Int} (h:a.Perm b):UO r a=UO r b:=jx ((lj h).map _)
theorem l4 {r:Request} {a b:List Int} (h:a.Perm b) (t:Typ):XS r a t=XS r b t:=by unfold XS; rw [qM h,ll h]
theorem lP {r:Request} {a b:List Int} (h:a.Perm b) (t:Typ):Wv r a t=Wv r b t:=by
 unfold Wv
 rw [l4 h]
 congr 2
 apply Bool.eq_iff_iff.2
 simp only [List.all_eq_true]
 exact ⟨λk u A=>k u (h.mem_iff.2 A),λk u A=>k u (h.mem_iff.1 A)⟩
theorem l7 {f:Typ→Int}:∀ (A pre:List Typ) (t:Typ),dx f pre A=true→t∈A→(∀ y∈pre,f y≠f t)∧A.find? (λy=>f y==f t)=some t
 | [],_,_,_,h=>by simp at h
 | x::A,pre,t,hn,h=>by
  simp only [dx,Bool.and_eq_true,Bool.not_eq_true'] at hn
  have J:=List.any_eq_false.1 hn.1
  rcases List.mem_cons.1 h with rfl | h
  · exact ⟨λy D e=>J y D (by simp [e]),AD⟩
  · have E:=l7 A (pre++[x]) t hn.2 h
    refine ⟨λy D=>E.1 y (by simp [D]),?_⟩
    have:=E.1 x AD
    have e:(f x==f t)=false:=by simpa using this
    rw [List.find?_cons,e]
    exact E.2
theorem tz {r:Request} (A:CA r=0) {t:Typ} (D:t∈r.fG):Ky r t.fe=some t:=by
 have h:=(D2 A).2.1
 unfold du at h
 simp only [Bool.and_eq_true] at h
 exact (l7 r.fG [] t h.1.1.1 D).2
theorem lI (r:Request) (us:List Int):∀ (l:List Typ) (s:Typ×Bool),(∀ t∈l,t∈r.fG)→(s.2=true→s.1∈r.fG∧Wv r us s.1=true)→(l.foldl (nA r us) s).2=true→(l.foldl (nA r us) s).1∈r.fG∧Wv r us (l.foldl (nA r us) s).1=true
 | [],s,_,h,h2=>h h2
 | t::l,s,hl,h,h2=>by
  rw [List.foldl_cons] at h2 ⊢
  refine lI r us l _ (λx E=>hl x (by simp [E])) (λD=>?_) h2
  unfold nA at D ⊢
  cases A:Wv r us t&&(!s.2||(decide (t.fd<s.1.fd)||(t.fd==s.1.fd&&decide (t.fe<s.1.fe))))
  · rw [A,cond_false] at D
    rw [cond_false]
    exact h D
  · rw [Bool.and_eq_true] at A
    rw [cond_true]
    exact ⟨hl t AD,A.1⟩
theorem s6 {r:Request} {us l:List Int} (h:Qc r (OI r us) l):Wv r l (Vn r)=true:=by
 obtain ⟨O,D,M⟩:=h
 obtain ⟨u,J⟩:=List.exists_mem_of_ne_nil _ O
 have E:=g8 (bE (D u J))
 have L:=D2 E
 unfold Wv
 rw [show (CA r==0)=true by simp [E],Bool.true_and,M,Bool.and_true,List.all_eq_true]
 intro v N
 have A:=bE (D v N)
 unfold u9
 rw [XW A,Bool.and_eq_true]
 exact ⟨rfl,L.2.2.2.1 _ (aJ A)⟩
theorem mM {r:Request} {us l:List Int} (h:Qc r (OI r us) l):CA r=0∧(Qk r l).2=true∧(Qk r l).1∈r.fG∧Wv r l (Qk r l).1=true∧Ky r (Qk r l).1.fe=some (Qk r l).1:=by
 obtain ⟨u,J⟩:=List.exists_mem_of_ne_nil _ h.1
 have A:=g8 (bE (h.2.1 u J))
 have E:=mG (pk A).2.1 (s6 h)
 have D:=lI r l r.fG (sO,false) (λ_ h=>h) AD E
 exact ⟨A,E,D.1,D.2,tz A D.1⟩
theorem u7 {r:Request} {us l:List Int} (h:Qc r (OI r us) l):1≤UO r l:=by
 obtain ⟨J,D,_⟩:=h
 match l,J with
 | u::l,_ =>
  have A:=bE (D u AD)
  have E:=g8 A
  have:=(PY (D2 E).1).1 _ (aJ A)
  simp only [VP,Bool.and_eq_true,BS] at this
  have L:=(jO r l).1
  rw [lL]
  omega
theorem ov {r:Request} {us l:List Int} (h:Qc r (OI r us) l) (k:Int):H5 r (ai r k l)=⟨(Qk r l).1.fW,(Qk r l).1.fD,(Qk r l).1.fH,(Qk r l).1.ff+UO r l⟩∧iP r.fJ (H5 r (ai r k l))=true:=by
 obtain ⟨L,_,M,D,O⟩:=mM h
 have N:=D2 L
 have e:H5 r (ai r k l)=⟨(Qk r l).1.fW,(Qk r l).1.fD,(Qk r l).1.fH,(Qk r l).1.ff+UO r l⟩:=by
  unfold H5 ai
  simp only [O,show (CA r==0)=true by simp [L],cond_true,ll (VE l)]
 refine ⟨e,?_⟩
 have E:=ZE N.1 _ M
 have A:=N.2.2.2.2 _ M
 simp only [Yo,Bool.and_eq_true,BS] at E
 simp only [dP,Bool.or_eq_false_iff,decide_eq_false_iff_not] at A
 rw [AU AC AC] at A
 have Q:=u7 h
 unfold Wv at D
 simp only [Bool.and_eq_true] at D
 have J:=D.2.2
 unfold XS at J
 simp only [Bool.and_eq_true,decide_eq_true_eq] at J
 rw [e]
 simp only [iP,Bool.and_eq_true,BS]
 omega
def Vi (r:Request) (k:Int):List Box:=((O1 r).filter λc=>c.fF==k).map (H5 r)
def mv (r:Request) (s:List Spot×Int) (k:Int):List Spot×Int:=(s.1++(ag r.fJ (Vi r k)).map (λt=>⟨t.fJ+s.2,t.fX,t.fY,t.fZ⟩),s.2+TN (ag r.fJ (Vi r k)))
def WP (r:Request):Plan×Bool:=bif CA r==0 then (⟨O1 r,((BW 0 (CD r).length).foldl (mv r) ([],0)).1⟩,true) else (⟨[],[]⟩,false)
theorem c6 (r:Request) (k:Int):∀ (ks:List Int),ks.Nodup→((WI r ks).filter λc=>c.fF==k)=bif ks.contains k then Yb r k else []
 | [],_=>rfl
 | j::ks,hn=>by
  obtain ⟨M,L⟩:=List.nodup_cons.1 hn
  have N:=c6 r k ks L
  rw [WI,List.filter_append,N]
  have J:∀ c∈Yb r j,c.fF=j:=by
   intro c A
   unfold Yb at A
   obtain ⟨l,_,rfl⟩:=List.mem_map.1 A
   rfl
  by_cases e:k=j
  · subst e
    have D:(Yb r k).filter (λc=>c.fF==k)=Yb r k:=List.filter_eq_self.2 λc A=>by simp [J c A]
    have E:ks.contains k=false:=by simpa using M
    rw [D,E]
    simp
  · have D:(Yb r j).filter (λc=>c.fF==k)=[]:=List.filter_eq_nil_iff.2 λc A=>by simp [J c A]; omega
    rw [D]
    have E:(j::ks).contains k=ks.contains k:=by simp [e]
    rw [E]; rfl
theorem b4 {r:Request} {k:Int} (h:0≤k∧k<(CD r).length):Vi r k=(Yb r k).map (H5 r):=by
 unfold Vi O1
 rw [c6 r k _ (OA _ _)]
 rw [show (BW 0 (CD r).length).contains k=true by rw [List.contains_iff_mem,CE]; omega]
 rfl
theorem gD {r:Request} (D:CA r=0) {k:Int} (h:0≤k∧k<(CD r).length):W9 r.fJ (Vi r k)=true:=by
 have A:=(D2 D).1
 unfold YX at A
 simp only [Bool.and_eq_true] at A
 unfold W9
 rw [b4 h,Bool.and_eq_true]
 refine ⟨A.1.1.1.1.1.1.1.1.2,List.all_eq_true.2 λb A=>?_⟩
 unfold Yb at A
 rw [List.map_map] at A
 obtain ⟨l,hl,rfl⟩:=List.mem_map.1 A
 exact (ov (rK l hl) k).2
theorem kn (r:Request) (k:Int):(Vi r k).length≤48:=by
 have D:=List.length_filter_le (λc:Carton=>c.fF==k) (O1 r)
 have A:=bH r
 unfold Vi
 rw [List.length_map]
 omega
theorem rp {r:Request} (D:CA r=0):∀ (ks:List Int) (s:List Spot×Int),(∀ k∈ks,0≤k∧k<(CD r).length)→(ks.foldl (mv r) s).1.length=s.1.length+(WI r ks).length
 | [],s,_=>by simp [WI]
 | k::ks,s,h=>by
  rw [List.foldl_cons,rp D ks _ λj J=>h j (by simp [J])]
  have A:=h k AD
  have E:=eG (gD D A)
  rw [b4 A,List.length_map] at E
  simp only [mv,WI,List.length_append,List.length_map,b4 A,E]
  omega
theorem jS (r:Request):(WP r).1.fE.length=(WP r).1.fV.length∧(WP r).1.fV.length≤48∧∀ c∈(WP r).1.fV,c.fK.length≤12:=by
 unfold WP
 cases A:CA r==0
 · exact ⟨rfl,AD,AD⟩
 · rw [cond_true]
   have:=rp (r:=r) (by simpa using A) (BW 0 (CD r).length) ([],0) λk D=>by have:=CE.1 D; omega
   exact ⟨by rw [this]; simp [O1],bH r,λc A=>ZK A⟩
theorem st {fu:Nat} {r:Request} (h:Sm fu r):RC fu r=some (WP r):=by
 have Z:=h.fu
 have hg:=(SA r).1
 have U:=bH r
 unfold RC WP
 rw [Zg h,AB]
 cases E:CA r==0
 · rw [show (CA r != 0)=true by simp only [bne,E]; rfl]; rfl
 · have hz:CA r=0:=by simpa using E
   rw [show (CA r != 0)=false by simp [hz],cond_false,cond_true,xV h,AB,oI h,AB]
   have L3:=cp ((CD r).length:Int) (λn (s:List Spot×Int) k=>C1 fu r (O1 r) (CD r) n s.1 s.2 k) (λks s=>some ((⟨O1 r,(ks.foldl (mv r) s).1⟩:Plan),true)) (λks s=>(∀ k∈ks,0≤k∧k<(CD r).length)∧s.1.length+48*ks.length≤1000∧0≤s.2∧s.2+1000000*ks.length≤10000000) AC ?_ ?_ (CD r).length fu ([],0) 0 AC AC AC ⟨λk hk=>by have:=CE.1 hk; omega,by simp [B5]; omega,AD,by simp [B5]; omega⟩
   · exact L3
   · intro n ⟨N,A⟩ k ks k0 k1 D O M
     obtain ⟨i1,i2,_,i4⟩:(∀ j∈k::ks,0≤j∧j<(CD r).length)∧N.length+48*(k::ks).length≤1000∧0≤A∧A+1000000*((k::ks).length:Int)≤10000000:=O
     simp only [List.length_cons] at i2 i4
     simp only [C1.eq_2]
     unfold TI
     rw [D,cond_true]
     have L2:=XD (O1 r) (λm (J:List Box) i=>IP fu (C1 fu r (O1 r) (CD r) n) r (O1 r) N A k m J i) (λcs J=>AA (O6 fu r.fJ (J++(cs.filter λc=>c.fF==k).map (H5 r))) λx=>Ii fu (C1 fu r (O1 r) (CD r) n) A k x fu N 0) (λcs J=>J.length+cs.length≤48∧∀ c∈cs,c.fK.length≤12) AC ?_ ?_ fu [] ⟨by simpa using U,λc E=>ZK E⟩ AC
     · refine L2.trans ?_
       have Ac:=kn r k
       rw [List.nil_append,show ((O1 r).filter λc=>c.fF==k).map (H5 r)=Vi r k from rfl,tT Z _ _ AC,AB]
       have Aa:=eG (gD hz ⟨k0,k1⟩)
       have V:=d8 (ag r.fJ (Vi r k))
       have Ad:∀ s∈ag r.fJ (Vi r k),s∈ag r.fJ (Vi r k):=λ_ h=>h
       have e:=M (mv r (N,A) k) ⟨λj hj=>i1 j (by simp [hj]),by simp [mv]; omega,by simp [mv]; omega,by simp [mv]; omega⟩
       rw [List.foldl_cons,← e]
       have hS:=qQ (fu:=fu) (l:=ag r.fJ (Vi r k)) AC AC
       have Q:∀ s∈ag r.fJ (Vi r k),AK (s.fJ+A)=s.fJ+A:=by
        intro s hs
        have:=sr (p:=r.fJ) (l:=Vi r k) AC s hs
        exact AU AC AC
       generalize Ab:ag r.fJ (Vi r k)=S at Aa V hS Q ⊢
       have L1:=XD S (λm (o:List Spot) i=>Ii fu (C1 fu r (O1 r) (CD r) n) A k S m o i) (λT o=>C1 fu r (O1 r) (CD r) n (o++T.map (λt=>⟨t.fJ+A,t.fX,t.fY,t.fZ⟩)) (A+TN S) (AK (k+1))) (λT o=>o.length+T.length≤1000∧∀ s∈T,AK (s.fJ+A)=s.fJ+A) AC ?_ ?_ fu N ⟨AC,Q⟩ AC
       · refine L1.trans ?_
         simp only [mv,Ab]
       · intro m o i x T hx D O M
         obtain ⟨Y,L⟩:=O
         simp only [List.length_cons] at Y
         simp only [Ii.eq_2]
         unfold SI
         rw [D,cond_true,hx,AB,L x AD,KU AJ,AB,M _ ⟨AJ,λs hs=>L s (by simp [hs])⟩]
         simp
       · intro m o i D O
         simp only [Ii.eq_2]
         unfold SI
         rw [D,cond_false,hS,AB,AU (n:=A+_) AC AC]
         simp
     · intro m J i c cs hx D O M
       obtain ⟨Y,L⟩:=O
       simp only [List.length_cons] at Y
       have Ae:=L c AD
       simp only [IP.eq_2]
       unfold Tp PS
       rw [D,cond_true,hx,AB,AB,kt h c AC,AB,KU AJ,AB,M _ ⟨AJ,λc E=>L c (by simp [E])⟩,M _ ⟨AC,λc E=>L c (by simp [E])⟩,List.filter_cons]
       cases c.fF==k <;> simp
     · intro m J i D _
       simp only [IP.eq_2]
       unfold Tp
       rw [D,cond_false]; simp
   · intro n ⟨N,A⟩ k D _
     simp only [C1.eq_2]
     unfold TI
     rw [D,cond_false]; rfl
theorem rt {fu:Nat} {A:List Load→Int→Option (List Load)} {i:Int} {b:Layer} {o:List Load} {j:Nat} {s:Load} (D:o[j]? = some s) (hl:s.f0.length≤1000000)
    (h1:-1000000000≤s.fH+b.fH∧s.fH+b.fH≤1000000000) (h2:-1000000000≤s.fQ+b.fQ∧s.fQ+b.fQ≤1000000000):ES fu A i b o (j:Int)=A (o.set j (O3 s i b)) (AK (i+1)):=by
 unfold ES Ug
 rw [EG,D,AB,KU AJ,AB]
 simp only [AB,eR,List.set_set,rZ]
 rw [AU (n:=s.fH+b.fH) AC AC,AU (n:=s.fQ+b.fQ) AC AC]
 rfl
theorem ct (fu:Nat) (l:List Layer) (f:Layer→Option Bool) (g:Layer→Bool) (T:∀ b,f b=some (g b)) (h:l.length≤1048576) (Q:l.length<fu) :
    CR fu l f=some (l.any g):=by
 unfold CR EI
 have D:∀ (m i n:Nat),l.length - i=m→i≤l.length→m<n→∃ r,BC fu l f n i=some r∧decide (r≥0)=(l.drop i).any g:=by
  intro m
  induction m with
  | zero =>
   intro i n U hi L
   obtain ⟨n,rfl⟩:∃ k,n=k+1:=⟨n - 1,AC⟩
   rw [BC.eq_2]
   unfold DT
   rw [AM AJ,List.drop_eq_nil_of_le AC]
   exact ⟨_,rfl,rfl⟩
  | succ m M =>
   intro i n U hi L
   obtain ⟨n,rfl⟩:∃ k,n=k+1:=⟨n - 1,AC⟩
   have A:i<l.length:=AC
   rw [BC.eq_2]
   unfold DT
   rw [AX (by simpa using A),tf (mi (List.getElem?_eq_getElem A)),T,AB,List.drop_eq_getElem_cons A,List.any_cons]
   cases J:g l[i]
   · rw [AM rfl,AU AC AC,Bool.false_or]
     have:=M (i+1) n AC AC AC
     simpa using this
   · rw [AX rfl]
     exact ⟨_,rfl,AD⟩
 obtain ⟨r,N,O⟩:=D l.length 0 fu AC AC Q
 have E:BC fu l f fu 0=some r:=N
 rw [E,AB,O]
 rfl
theorem zA {fu:Nat} (p:Pallet) (l:List Layer) (hl:l.length≤1048576) (D:l.length<fu):SB fu p l=some (QH p&&l.all λs=>jz p s.fD s.fH s.fQ):=by
 unfold SB
 have e:∀ a b c:Int,ip a b c=CW a b c:=λa b c=>Bool.eq_iff_iff.2 (by rw [ki,BS])
 have A:W5 p=QH p:=by unfold W5 QH; simp only [e]
 rw [WV,AB,A,ct fu l _ (λs=>!jz p s.fD s.fH s.fQ) (λs=>by
  unfold U7 jz
  simp only [n7,AB,e]
  cases CW s.fD 1 p.fD <;> cases CW s.fH 1 p.fH <;> rfl) hl D,AB]
 cases QH p
 · rfl
 · rw [cond_true,Bool.true_and]
   congr 1
   rw [Bool.eq_iff_iff]
   simp
theorem t8 {fu:Nat} (Aa:2097153≤fu) {p:Pallet} (T:QH p=true) {l:List Layer} (O:vE p l) (hl:l.length≤1000):TQ fu p l=some (jg p l):=by
 unfold TQ jg
 rw [zA p l AC AC,T,vF O,AB,Bool.and_self,Bool.not_true,cond_false]
 obtain ⟨_,_,_,_⟩:=WJ T
 refine cp (l.length:Int) (λn (o:List Load) i=>C3 fu p l n o i) (λJ o=>some (J.foldl (jZ p l) o)) (λJ o=>(∀ s∈o,LdI p l.length s)∧((o.map (·.f0)).flatten).length+J.length≤1000∧o.length+J.length≤1000) AC ?_ ?_ l.length fu [] 0 AC AC AC ⟨AD,by simp [B5]; omega,by simp [B5]; omega⟩
 · intro n o i J x0 Z V hI ih
   obtain ⟨i2,i3,i4⟩:=hI
   simp only [List.length_cons] at i3 i4
   obtain ⟨N,_,_,_,_⟩:=eK O ⟨x0,Z⟩
   have E:((jZ p l o i).map (·.f0)).flatten=(o.map (·.f0)).flatten++[i]:=U0 (λs=>rfl) rfl
   have Y:(jZ p l o i).length≤o.length+1:=Xg _ _ _ _
   have Q:=ih (jZ p l o i) ⟨kV O ⟨x0,Z⟩ i2,by rw [E,List.length_append,List.length_singleton]; omega,AC⟩
   simp only [C3.eq_2]
   unfold Rq
   rw [V,cond_true,N,AB,List.foldl_cons,← Q]
   have D:∀ L:List Load,L.length≤1000→ES fu (λo i=>C3 fu p l n o i) i (My l i) (L++[aP]) ((L.length:Nat):Int)=C3 fu p l n (L++[O3 aP i (My l i)]) (AK (i+1)):=λL _=>by
    rw [rt (s:=aP) AD (by simp [aP]) (by simp [aP]; omega) (by simp [aP]; omega)]
    simp
   by_cases U:o=[]
   · subst U
     rw [AX A1,KU AD,AB]
     exact D [] AD
   · obtain ⟨s,M,_⟩:=XY U
     have T:=List.length_pos_iff.2 U
     have A:=List.mem_of_getLast? M
     have hs:=i2 s A
     have e:=PZ (λs:Load=>s.f0) o s A
     have eS:jZ p l o i=bif jv p (My l i) s then o.set (o.length - 1) (O3 s i (My l i)) else o++[O3 aP i (My l i)]:=Yt M
     have e3:AK ((o.length:Int) - 1)=((o.length - 1:Nat):Int):=by rw [AU AC AC]; omega
     have e4:AK (((o.length - 1:Nat):Int)+1)=((o.length:Nat):Int):=by rw [AU AC AC]; omega
     have e5:o[o.length - 1]? = some s:=by rw [← List.getLast?_eq_getElem?]; exact M
     obtain ⟨s1,_,_,_⟩:=hs
     rw [e3,e4,AM AD,EG,e5,AB,AU (n:=s.fH+_) AC AC,AU (n:=s.fQ+_) AC AC,KU AJ,AB,eS]
     unfold jv
     have c1:decide (s.fH+(My l i).fH>p.fH)=!decide (s.fH+(My l i).fH≤p.fH):=by
      by_cases h:s.fH+(My l i).fH≤p.fH <;> simp [h] <;> omega
     have c2:decide (s.fQ+(My l i).fQ>p.fQ)=!decide (s.fQ+(My l i).fQ≤p.fQ):=by
      by_cases h:s.fQ+(My l i).fQ≤p.fQ <;> simp [h] <;> omega
     rw [c1,c2,AB]
     have h1:=D o AC
     have h2:ES fu (λo i=>C3 fu p l n o i) i (My l i) o ((o.length - 1:Nat):Int)=C3 fu p l n (o.set (o.length - 1) (O3 s i (My l i))) (AK (i+1)):=rt e5 AC AC AC
     cases decide (s.fH+(My l i).fH≤p.fH)
     · exact h1
     · cases decide (s.fQ+(My l i).fQ≤p.fQ)
       · exact h1
       · exact h2
 · intro n o i V _
   simp only [C3.eq_2]
   unfold Rq
   rw [V,cond_false]; rfl
theorem qC {fu:Nat} (N:2097153≤fu) (p:Pallet) (l:List Box) (hl:l.length<20):Pm fu p l=some (ag p l):=by
 unfold Pm ag
 rw [Y8 fu p l AC AC,AB,sD]
 cases hb:W9 p l
 · rfl
 · obtain ⟨a1,a2,a3⟩:=bN hb
   have V:=kD hb
   obtain ⟨y1,y2,y3⟩:=aZ V
   have hY:=j1 V
   obtain ⟨d1,d2,d3⟩:=es hY
   have O:=ZG hb
   obtain ⟨_,_,_,_⟩:=WJ O
   rw [Bool.not_true,cond_false,cond_true,qf N p l hl,AB,sn N O V AC,AB,nW AC,AB,t8 N O hY AC,AB]
   have f1:∀ s∈YJ p l,s.f7.length≤1000:=λs Z=>by
    have:=PZ (λs:Shelf=>s.f7) _ s Z
    rw [a2,VZ] at this; omega
   have f2:∀ s∈bc p (YJ p l),s.fM.length≤1000:=λs Z=>by
    have:=PZ (λs:Layer=>s.fM) _ s Z
    rw [y2,B5] at this; omega
   have f3:∀ s∈jg p (bc p (YJ p l)),s.f0.length≤1000:=λs Z=>by
    have:=PZ (λs:Load=>s.f0) _ s Z
    rw [d2,B5] at this; omega
   generalize jg p (bc p (YJ p l))=ld at d1 d3 f3 ⊢
   generalize bc p (YJ p l)=ly at y1 y3 hY d1 d3 f2 ⊢
   generalize YJ p l=sh at a1 a3 V y1 y3 f1 ⊢
   have L4:=cp (ld.length:Int) (λn (out:List Spot) o=>B2 fu l sh ly ld n out o) (λos out=>some (t7 l sh ly ld os out)) (λos out=>out.length=l.length) AC ?_ ?_ ld.length fu (List.replicate l.length s9) 0 AC AC AC AD
   · exact L4
   · intro n out o os o0 o1 A L Q
     obtain ⟨x,hx⟩:=aU (l:=ld) o0 o1
     have ex:nh ld o=x:=by unfold nh; rw [hx]; rfl
     have Af:=d1 x (DA hx)
     have Ai:=f3 x (DA hx)
     simp only [B2.eq_2]
     unfold P2
     rw [A,cond_true,hx,AB]
     have L3:=XD x.f0 (λm (s:List Spot×Int) i=>C6 fu (B2 fu l sh ly ld n) l sh ly o x m s.1 s.2 i) (λis s=>B2 fu l sh ly ld n (tF l sh ly o is s).1 (AK (o+1))) (λis s=>s.1.length=l.length∧(∀ i∈is,0≤i∧i<ly.length)∧0≤s.2∧s.2+2000*is.length≤2000000) AC ?_ ?_ fu (out,0) ⟨L,Af.inn,AD,AJ⟩ AC
     · refine L3.trans ?_
       rw [Q _ (by rw [ec]; exact L)]
       simp only [t7,List.foldl_cons,ex]
     · intro m ⟨out,z⟩ i j is hj A L Q
       obtain ⟨T,E,i3,Y⟩:out.length=l.length∧(∀ i∈j::is,0≤i∧i<ly.length)∧0≤z∧z+2000*((j::is).length:Int)≤2000000:=L
       simp only [List.length_cons] at Y
       obtain ⟨Aa,_,_,_,J⟩:=eK hY (E j AD)
       have Ae:=y1 _ J
       have Aj:=f2 _ J
       simp only [C6.eq_2]
       unfold Rg
       rw [A,cond_true,hj,AB,Aa,AB]
       have L2:=XD (My ly j).fM (λq (s:List Spot×Int) k=>EK fu (C6 fu (B2 fu l sh ly ld n) l sh ly o x m) l sh ly o z i j (My ly j) q s.1 s.2 k) (λks s=>C6 fu (B2 fu l sh ly ld n) l sh ly o x m (qF l sh o z ks s).1 (AK (z+(My ly j).fH)) (AK (i+1))) (λks s=>s.1.length=l.length∧(∀ i∈ks,0≤i∧i<sh.length)∧0≤s.2∧s.2+2000*ks.length≤2000000) AC ?_ ?_ fu (out,0) ⟨T,Ae.inn,AD,AJ⟩ AC
       · refine L2.trans ?_
         rw [AU (n:=z+_) AC AC]
         exact Q ((qF l sh o z (My ly j).fM (out,0)).1,z+(My ly j).fH) ⟨by rw [eD]; exact T,λi hi=>E i (by simp [hi]),AJ,AJ⟩
       · intro q ⟨out,y⟩ k b ks Ag A L Q
         obtain ⟨T,E,i3,Y⟩:out.length=l.length∧(∀ i∈b::ks,0≤i∧i<sh.length)∧0≤y∧y+2000*((b::ks).length:Int)≤2000000:=L
         simp only [List.length_cons] at Y
         obtain ⟨h,_,_,_,D⟩:=eY V (E b AD)
         have Ad:=a1 _ D
         have Ah:=f1 _ D
         simp only [EK.eq_2]
         unfold Q7
         rw [A,cond_true,Ag,AB,h,AB]
         have L1:=XD (LQ sh b).f7 (λq' (s:List Spot×Int) k'=>JC fu (EK fu (C6 fu (B2 fu l sh ly ld n) l sh ly o x m) l sh ly o z i j (My ly j) q) l sh o z y k b (LQ sh b) q' s.1 s.2 k') (λM s=>EK fu (C6 fu (B2 fu l sh ly ld n) l sh ly o x m) l sh ly o z i j (My ly j) q (qJ l o y z M s).1 (AK (y+(LQ sh b).fD)) (AK (k+1))) (λM s=>s.1.length=l.length∧(∀ i∈M,0≤i∧i<l.length)∧0≤s.2∧s.2+2000*M.length≤2000000) AC ?_ ?_ fu (out,0) ⟨T,Ad.inn,AD,AJ⟩ AC
         · refine L1.trans ?_
           rw [AU (n:=y+_) AC AC]
           exact Q ((qJ l o y z (LQ sh b).f7 (out,0)).1,y+(LQ sh b).fD) ⟨by rw [em]; exact T,λi hi=>E i (by simp [hi]),AJ,AJ⟩
         · intro q' ⟨out,U⟩ k' c M hc A L Q
           obtain ⟨T,E,i3,Y⟩:out.length=l.length∧(∀ i∈c::M,0≤i∧i<l.length)∧0≤U∧U+2000*((c::M).length:Int)≤2000000:=L
           simp only [List.length_cons] at Y
           have e:=E c AD
           obtain ⟨Ac,_,_,_,_⟩:=YY hb e
           obtain ⟨_,Ab⟩:=aU (l:=out) e.1 AC
           simp only [JC.eq_2]
           unfold P7
           rw [A,cond_true,hc,AB,Ab,AB,Ac,AB,AU (n:=U+_) AC AC]
           exact Q (DB out c ⟨o,U,y,z⟩,U+(KZ l c).fW) ⟨by rw [ZC]; exact T,λi hi=>E i (by simp [hi]),AJ,AJ⟩
         · intro q' ⟨out,U⟩ k' A _
           simp only [JC.eq_2]
           unfold P7
           rw [A,cond_false,h,AB]; rfl
       · intro q ⟨out,y⟩ k A _
         simp only [EK.eq_2]
         unfold Q7
         rw [A,cond_false,Aa,AB]; rfl
     · intro m ⟨out,z⟩ i A _
       simp only [C6.eq_2]
       unfold Rg
       rw [A,cond_false]; rfl
   · intro n out o A _
     simp only [B2.eq_2]
     unfold P2
     rw [A,cond_false]; rfl
theorem tY {r:Request} {k:Int} (h:0≤k∧k<(CD r).length):(Vi r k).length≤12:=by
 rw [b4 h,List.length_map]
 exact lg k
theorem wi {fu:Nat} {r:Request} (h:Sm fu r):Wc fu r=some (WP r):=by
 have Z:=h.fu
 have hg:=(SA r).1
 have U:=bH r
 unfold Wc WP
 rw [Xo h,AB]
 cases J:CA r==0
 · rfl
 · have hz:CA r=0:=by simpa using J
   rw [Bool.not_true,cond_false,cond_true,zl h,AB,nM h,AB]
   have L3:=cp ((CD r).length:Int) (λn (s:List Spot×Int) k=>CZ fu r (O1 r) (CD r) n s.1 s.2 k) (λks s=>some ((⟨O1 r,(ks.foldl (mv r) s).1⟩:Plan),true)) (λks s=>(∀ k∈ks,0≤k∧k<(CD r).length)∧s.1.length+48*ks.length≤1000∧0≤s.2∧s.2+1000000*ks.length≤10000000) AC ?_ ?_ (CD r).length fu ([],0) 0 AC AC AC ⟨λk hk=>by have:=CE.1 hk; omega,by simp [B5]; omega,AD,by simp [B5]; omega⟩
   · exact L3
   · intro n ⟨N,A⟩ k ks k0 k1 D O M
     obtain ⟨i1,i2,_,i4⟩:(∀ j∈k::ks,0≤j∧j<(CD r).length)∧N.length+48*(k::ks).length≤1000∧0≤A∧A+1000000*((k::ks).length:Int)≤10000000:=O
     simp only [List.length_cons] at i2 i4
     simp only [CZ.eq_2]
     unfold ST
     rw [D,cond_true]
     have L2:=XD (O1 r) (λm (E:List Box) i=>H4 fu (CZ fu r (O1 r) (CD r) n) r (O1 r) N A k m E i) (λcs E=>AA (Pm fu r.fJ (E++(cs.filter λc=>c.fF==k).map (H5 r))) λx=>AA (LH fu x) λy=>IQ fu (CZ fu r (O1 r) (CD r) n) A k x y fu N 0) (λcs E=>E.length+cs.length≤48∧∀ c∈cs,c.fK.length≤12) AC ?_ ?_ fu [] ⟨by simpa using U,λc J=>ZK J⟩ AC
     · refine L2.trans ?_
       have Ac:=kn r k
       have Af:=tY (r:=r) (k:=k) ⟨k0,k1⟩
       rw [List.nil_append,show ((O1 r).filter λc=>c.fF==k).map (H5 r)=Vi r k from rfl,qC Z _ _ AC,AB]
       have Aa:=eG (gD hz ⟨k0,k1⟩)
       have V:=d8 (ag r.fJ (Vi r k))
       have Ad:∀ s∈ag r.fJ (Vi r k),s∈ag r.fJ (Vi r k):=λ_ h=>h
       have e:=M (mv r (N,A) k) ⟨λj hj=>i1 j (by simp [hj]),by simp [mv]; omega,by simp [mv]; omega,by simp [mv]; omega⟩
       rw [List.foldl_cons,← e]
       have hS:=ri (fu:=fu) (l:=ag r.fJ (Vi r k)) AC AC
       have Q:∀ s∈ag r.fJ (Vi r k),AK (s.fJ+A)=s.fJ+A:=by
        intro s hs
        have:=sr (p:=r.fJ) (l:=Vi r k) AC s hs
        exact AU AC AC
       generalize Ab:ag r.fJ (Vi r k)=S at Aa V hS Q ⊢
       rw [hS,AB]
       have L1:=XD S (λm (o:List Spot) i=>IQ fu (CZ fu r (O1 r) (CD r) n) A k S (TN S) m o i) (λT o=>CZ fu r (O1 r) (CD r) n (o++T.map (λt=>⟨t.fJ+A,t.fX,t.fY,t.fZ⟩)) (A+TN S) (AK (k+1))) (λT o=>o.length+T.length≤1000∧∀ s∈T,AK (s.fJ+A)=s.fJ+A) AC ?_ ?_ fu N ⟨AC,Q⟩ AC
       · refine L1.trans ?_
         simp only [mv,Ab]
       · intro m o i x T hx D O M
         obtain ⟨Y,L⟩:=O
         simp only [List.length_cons] at Y
         simp only [IQ.eq_2]
         unfold S3
         rw [D,cond_true,hx,AB,L x AD,KU AJ,AB,M _ ⟨AJ,λs hs=>L s (by simp [hs])⟩]
         simp
       · intro m o i D O
         simp only [IQ.eq_2]
         unfold S3
         rw [D,cond_false,AU (n:=A+_) AC AC]
         simp
     · intro m E i c cs hx D O M
       obtain ⟨Y,L⟩:=O
       simp only [List.length_cons] at Y
       have Ae:=L c AD
       simp only [H4.eq_2]
       unfold SR PA
       rw [D,cond_true,hx,AB,tq h c AC,AB,KU AJ,AB,M _ ⟨AJ,λc J=>L c (by simp [J])⟩,M _ ⟨AC,λc J=>L c (by simp [J])⟩,List.filter_cons]
       cases c.fF==k <;> simp
     · intro m E i D _
       simp only [H4.eq_2]
       unfold SR
       rw [D,cond_false]; simp
   · intro n ⟨N,A⟩ k D _
     simp only [CZ.eq_2]
     unfold ST
     rw [D,cond_false]; rfl
def p2 (r:Request) (x:Plan):Bool:=dv r x==0
theorem xq {fu:Nat} {r:Request} (h:Sm fu r) {x:Plan} (A:Sp x):R6 fu r x=some (p2 r x):=by
 unfold R6 p2
 rw [ny h A]; rfl
theorem tk (r:Request):Sp (WP r).1:=by
 obtain ⟨_,_,D⟩:=jS r
 refine ⟨AC,λc J=>by have:=D c J; omega,?_,AC⟩
 have A:∀ l:List Carton,(∀ c∈l,c.fK.length≤12)→W2 l≤12*l.length:=by
  intro l
  induction l with
  | nil=>intro _; simp [W2]
  | cons c l L =>
   intro h
   have N:=L λd E=>h d (by simp [E])
   have M:=h c AD
   simp only [W2,List.length_cons]
   omega
 have:=A _ D
 omega
def KX (n:Int):ByteArray:=⟨(Lib.itoa n).toArray⟩
theorem Yp {n:Int} (h:0≤n∧n≤999999):(KX n).size≤21:=by
 have:=Lib.itoa_length_le n AC AC
 unfold KX ByteArray.size
 simpa using this
theorem NE {x y:ByteArray} (h:x.size+y.size≤1000000000):NY x y=some (x++y):=by
 unfold NY
 rw [if_pos AC]
theorem gP (fu:Nat) {n:Int} (h:0≤n∧n≤999999):RF fu n=some (KX n):=by
 unfold RF Xv n2
 rw [if_pos AC]; rfl
theorem xS {n:Int} (h:0≤n∧n≤255):w8 n=n:=by
 unfold w8
 simp only [IntKind.wrap_u8]
 omega
theorem rX {n:Int} (h:0≤n∧n≤255):Ze [(⟨n⟩:U8)]=some ⟨[UInt8.ofNat n.toNat].toArray⟩:=by
 unfold Ze
 rw [if_pos (λb A=>by rw [List.mem_singleton.1 A]; exact h)]
 rfl
theorem sQ {u:Nat} (out:ByteArray):(⟨[UInt8.ofNat (48+u % 10)].toArray⟩:ByteArray)++out=⟨([UInt8.ofNat (48+u % 10)]++out.data.toList).toArray⟩:=by
 apply ByteArray.ext
 rw [ByteArray.data_append]
 apply Array.ext'
 simp
theorem xr {fu:Nat} {n1:Int} (N:0≤n1):∀ (u:Nat) (k:Nat) (out:ByteArray),u≤999999→u+2≤k→out.size+u≤2000000→0<u→IH fu n1 k (u:Int) out=some ⟨(Lib.decDigits u++out.data.toList).toArray⟩:=by
 intro u
 induction u using Nat.strongRecOn with
 | _ u J =>
  intro k out O Q U T
  obtain ⟨k,rfl⟩:∃ j,k=j+1:=⟨k - 1,AC⟩
  have M:Int.tmod (u:Int) 10=((u % 10:Nat):Int):=by
   rw [Int.tmod_eq_emod_of_nonneg AC]; omega
  have E:AK (Int.tdiv (u:Int) 10)=((u / 10:Nat):Int):=by
   rw [Int.tdiv_eq_ediv_of_nonneg AC,AU AC AC]; omega
  rw [IH.eq_2]
  unfold S4 PC
  rw [AX (bne_iff_ne.2 AC),M,AM (decide_eq_false AC),AU (n:=48+_) AC AC,xS AC,rX AC,AB,show ((48:Int)+((u % 10:Nat):Int)).toNat=48+u % 10 by omega]
  have D:(⟨[UInt8.ofNat (48+u % 10)].toArray⟩:ByteArray).size=1:=rfl
  rw [NE (by rw [D]; omega),AB,E,sQ]
  by_cases A:u<10
  · have L:u / 10=0:=AC
    rw [L]
    obtain ⟨k,rfl⟩:∃ j,k=j+1:=⟨k - 1,AC⟩
    rw [IH.eq_2]
    unfold S4
    rw [AM A1,AM (decide_eq_false AC),Lib.decDigits,dif_pos A,Nat.mod_eq_of_lt A]
  · have:=J (u / 10) AC k (⟨([UInt8.ofNat (48+u % 10)]++out.data.toList).toArray⟩:ByteArray) AC AC (by
      show ([UInt8.ofNat (48+u % 10)]++out.data.toList).toArray.size+_≤_
      have e:out.data.toList.length=out.size:=Array.length_toList
      simp only [List.size_toArray,List.length_append,List.length_singleton,e]
      omega) AC
    rw [this]
    conv=>rhs; rw [Lib.decDigits,dif_neg A]
    simp
theorem ig {fu:Nat} (D:2097153≤fu) {n:Int} (h:0≤n∧n≤999999):K0 fu n=some (KX n):=by
 unfold K0 KX
 by_cases A:n=0
 · subst A
   rw [AX AD]
   have:Lib.itoa 0=[48]:=by
    unfold Lib.itoa
    rw [if_neg AC,Lib.decDigits,dif_pos A1]; rfl
   rw [this]
 · rw [AM (by simpa using A)]
   obtain ⟨u,rfl⟩:∃ u:Nat,n=u:=⟨n.toNat,AC⟩
   have:=xr (fu:=fu) (n1:=(u:Int)) AC u fu ⟨#[]⟩ AC AC (by
    show 0+u≤_
    omega) AC
   rw [this]
   have e:Lib.itoa (u:Int)=Lib.decDigits u:=by
    unfold Lib.itoa
    rw [if_neg AC,Int.toNat_natCast]
   rw [e]; simp
def pI:ByteArray:=⟨#[32]⟩
def iq:ByteArray:=⟨#[10]⟩
def HW (o:ByteArray) (l:List Int):ByteArray:=l.foldl (λo n=>o++(pI++KX n)) o
theorem cb:∀ (l:List Int) (o:ByteArray),(∀ n∈l,0≤n∧n≤999999)→(HW o l).size≤o.size+22*l.length
 | [],o,_=>by simp [HW]
 | n::l,o,h=>by
  have E:=Yp (h n AD)
  have A:=cb l (o++(pI++KX n)) λm D=>h m (by simp [D])
  have e:(o++(pI++KX n)).size=o.size+(1+(KX n).size):=by
   rw [ByteArray.size_append,ByteArray.size_append]; rfl
  rw [e] at A
  show (HW (o++(pI++KX n)) l).size≤_
  simp only [List.length_cons]
  omega
theorem xz {fu:Nat} {l:List Int} (o:ByteArray) (hl:l.length≤1000) (hf:l.length<fu) (ho:o.size≤1000000) (h:∀ n∈l,0≤n∧n≤999999):MF fu o l=some (HW o l++iq,true):=by
 unfold MF
 have M:=XD l (λn (o:ByteArray) i=>GC fu l n o i) (λD o=>some (HW o D++iq,true)) (λD o=>(∀ n∈D,0≤n∧n≤999999)∧o.size+22*D.length≤2000000) AC ?_ ?_ fu o ⟨h,AC⟩ AC
 · exact M
 · intro n o i x D Y O Q V
   obtain ⟨U,T⟩:=Q
   simp only [List.length_cons] at T
   have A:=U x AD
   have hs:=Yp A
   have e:(o++(pI++KX x)).size=o.size+(1+(KX x).size):=by
    rw [ByteArray.size_append,ByteArray.size_append]; rfl
   have N:pI.size=1:=rfl
   simp only [GC.eq_2]
   unfold OM
   rw [O,cond_true,Y,AB,Ys,AB,show CW x 0 999999=true from BS.2 A,Bool.not_true,cond_false,gP fu A,AB]
   show (AA (NY pI (KX x)) λL=>AA (NY o L) λE=>GC fu l n E (AK (i+1)))=_
   rw [NE AC,AB,NE (by rw [ByteArray.size_append,N]; omega),AB,V _ ⟨λm Z=>U m (by simp [Z]),AC⟩]
   rfl
 · intro n o i O Q
   have T:=Q.2
   simp only [GC.eq_2]
   unfold OM
   rw [O,cond_false]
   show (AA (NY o iq) λJ=>some (J,true))=_
   rw [NE (by rw [show iq.size=1 from rfl]; simp at T; omega)]
   rfl
def NX:ByteArray:=⟨#[99,97,114,116,111,110]⟩
def GE (c:Carton) (s:Spot):List Int:=[c.f8,c.fF,s.fJ,s.fX,s.fY,s.fZ]++c.fK
theorem qX:∀ (l pre:List Int),dK pre l=true→∀ n∈l,0≤n∧n≤999
 | [],_,_,n,A=>by simp at A
 | x::l,pre,h,n,A=>by
  unfold dK at h
  simp only [Bool.and_eq_true,BS] at h
  rcases List.mem_cons.1 A with rfl | A
  · exact h.1
  · exact qX l _ h.2.2 n A
theorem bC {c:Carton} {s:Spot} (D:aw c=true) (E:j6 s=true):(∀ n∈GE c s,0≤n∧n≤999999)∧(GE c s).length≤106:=by
 unfold aw lY at D
 unfold j6 at E
 simp only [Bool.and_eq_true,BS,decide_eq_true_eq] at D E
 obtain ⟨_,_,J,_⟩:=D
 refine ⟨λn A=>?_,by simp [GE]; omega⟩
 unfold GE at A
 rcases List.mem_append.1 A with A | A
 · simp only [List.mem_cons,List.not_mem_nil,or_false] at A
   omega
 · have:=qX _ _ J n A
   omega
theorem r9 {fu:Nat} (M:2097153≤fu) {c:Carton} {s:Spot} (h:(∀ n∈GE c s,0≤n∧n≤999999)∧(GE c s).length≤106):LA fu c s=some (HW NX (GE c s)):=by
 obtain ⟨U,V⟩:=h
 unfold LA
 have T:[c.f8,c.fF,s.fJ,s.fX,s.fY,s.fZ].length+c.fK.length≤106:=by
  have:=V
  unfold GE at this
  rwa [List.length_append] at this
 rw [KU AC,AB]
 show FS fu (GE c s) fu NX 0=_
 generalize GE c s=l at U V
 refine XD l (λn (o:ByteArray) i=>FS fu l n o i) (λJ o=>some (HW o J)) (λJ o=>(∀ n∈J,0≤n∧n≤999999)∧o.size+22*J.length≤2000000) AC ?_ ?_ fu NX ⟨U,by rw [show NX.size=6 from rfl]; omega⟩ AC
 · intro n o i x J hx Q hI Z
   obtain ⟨Y,i2⟩:=hI
   simp only [List.length_cons] at i2
   have E:=Y x AD
   have hs:=Yp E
   have e:(o++(pI++KX x)).size=o.size+(1+(KX x).size):=by
    rw [ByteArray.size_append,ByteArray.size_append]; rfl
   have N:pI.size=1:=rfl
   simp only [FS.eq_2]
   unfold P5
   rw [Q,cond_true]
   show (AA (NY o pI) λD=>AA (ix l i) λL=>AA (K0 fu L) λO=>AA (NY D O) λA=>FS fu l n A (AK (i+1)))=_
   rw [NE AC,AB,hx,AB,ig M E,AB,NE (by rw [ByteArray.size_append,N]; omega),AB,ByteArray.append_assoc,Z _ ⟨λm hm=>Y m (by simp [hm]),AC⟩]
   rfl
 · intro n o i Q _
   simp only [FS.eq_2]
   unfold P5
   rw [Q,cond_false]; rfl
def kz (o:ByteArray) (p:Carton×Spot):ByteArray:=o++(HW NX (GE p.1 p.2)++iq)
def ZX (x:Plan):ByteArray:=bif RO x then (x.fV.zip x.fE).foldl kz ⟨#[]⟩ else ⟨#[]⟩
theorem jW {c:Carton} {s:Spot} (h:(∀ n∈GE c s,0≤n∧n≤999999)∧(GE c s).length≤106):(HW NX (GE c s)).size≤2400∧(HW NX (GE c s)++iq).size≤2401:=by
 have:=cb (GE c s) NX h.1
 rw [show NX.size=6 from rfl] at this
 refine ⟨AC,?_⟩
 rw [ByteArray.size_append,show iq.size=1 from rfl]
 omega
theorem sE {fu:Nat} {x:Plan} (h:Sp x) (hf:2097153≤fu):MC fu x=some (ZX x):=by
 unfold MC ZX
 rw [rl h AC,AB]
 cases Q:RO x
 · rfl
 · rw [Bool.not_true,cond_false,cond_true]
   have D:=Q
   unfold RO at D
   simp only [Bool.and_eq_true,decide_eq_true_eq,beq_iff_eq] at D
   obtain ⟨_,_,p3⟩:=D
   have T:(x.fV.zip x.fE).length=x.fV.length:=AJ
   have M:=eZ (x.fV.zip x.fE) (λn (o:ByteArray) i=>E8 fu x n o i) (λ_ E o=>some (E.foldl kz o)) (λ_ E o=>(∀ p∈E,(∀ n∈GE p.1 p.2,0≤n∧n≤999999)∧(GE p.1 p.2).length≤106)∧o.size+2401*E.length≤1000000) AC ?_ ?_ fu ⟨#[]⟩ ⟨λp Q=>by
    have:=List.all_eq_true.1 p3 p Q
    rw [Bool.and_eq_true] at this
    exact bC this.1 this.2,by rw [T]; show 0+_≤_; omega⟩ AC
   · exact M
   · intro n o pre p E e O J hI ih
     obtain ⟨V,i2⟩:=hI
     simp only [List.length_cons] at i2
     obtain ⟨Y,Z⟩:=Ya O
     rw [T] at J
     have N:=V p AD
     have Aa:=jW N
     have U:[p.1.f8,p.1.fF,p.2.fJ,p.2.fX,p.2.fY,p.2.fZ].length+p.1.fK.length≤106:=by
      have:=N.2
      unfold GE at this
      rwa [List.length_append] at this
     simp only [E8.eq_2]
     unfold OX
     rw [J,cond_true,Y,AB,Z,AB,KU AC,AB]
     show (AA (MF fu NX (GE p.1 p.2)) λL=>AA (NY o L.1) λA=>E8 fu x n A (AK ((pre.length:Int)+1)))=_
     rw [xz NX AC AC A1 N.1,AB]
     show (AA (NY o (HW NX (GE p.1 p.2)++iq)) λA=>E8 fu x n A (AK ((pre.length:Int)+1)))=_
     rw [NE AC,AB]
     exact ih _ ⟨λq O=>V q (by simp [O]),by rw [ByteArray.size_append]; omega⟩
   · intro n o J _
     rw [T] at J ⊢
     simp only [E8.eq_2]
     unfold OX
     rw [J,cond_false]; rfl
theorem qV {fu:Nat} {x:Plan} (h:Sp x) (hf:2097153≤fu):MM fu x=some (ZX x):=by
 unfold MM ZX
 rw [nC h AC,AB]
 cases N:RO x
 · rfl
 · rw [Bool.not_true,cond_false,cond_true]
   have A:=N
   unfold RO at A
   simp only [Bool.and_eq_true,decide_eq_true_eq,beq_iff_eq] at A
   obtain ⟨_,_,Y⟩:=A
   have O:(x.fV.zip x.fE).length=x.fV.length:=AJ
   have L:=eZ (x.fV.zip x.fE) (λn (o:ByteArray) i=>GD fu x n o i) (λ_ E o=>some (E.foldl kz o)) (λ_ E o=>(∀ p∈E,(∀ n∈GE p.1 p.2,0≤n∧n≤999999)∧(GE p.1 p.2).length≤106)∧o.size+2401*E.length≤1000000) AC ?_ ?_ fu ⟨#[]⟩ ⟨λp N=>by
    have:=List.all_eq_true.1 Y p N
    rw [Bool.and_eq_true] at this
    exact bC this.1 this.2,by rw [O]; show 0+_≤_; omega⟩ AC
   · exact L
   · intro n o pre p E e M J hI Z
     obtain ⟨T,i2⟩:=hI
     simp only [List.length_cons] at i2
     obtain ⟨U,V⟩:=Ya M
     rw [O] at J
     have Q:=T p AD
     have Aa:=jW Q
     simp only [GD.eq_2]
     unfold Pd
     rw [J,cond_true,U,AB,V,AB,r9 hf Q,AB,NE AC,AB]
     show (AA (NY (o++HW NX (GE p.1 p.2)) iq) λD=>GD fu x n D (AK ((pre.length:Int)+1)))=_
     rw [NE (by rw [ByteArray.size_append,show iq.size=1 from rfl]; omega),AB,ByteArray.append_assoc]
     exact Z _ ⟨λq M=>T q (by simp [M]),by rw [ByteArray.size_append]; omega⟩
   · intro n o J _
     rw [O] at J ⊢
     simp only [GD.eq_2]
     unfold Pd
     rw [J,cond_false]; rfl
theorem tJ (b:ByteArray):∀ (m i:Nat) (r:List UInt8),b.size - i=m→ByteArray.toList.loop b i r=r.reverse++b.data.toList.drop i:=by
 intro m
 induction m with
 | zero =>
  intro i r h
  rw [ByteArray.toList.loop,if_neg AC]
  have:b.data.toList.length≤i:=by have:b.size=b.data.size:=rfl; simp; omega
  rw [List.drop_of_length_le this]; simp
 | succ m A =>
  intro i r h
  rw [ByteArray.toList.loop,if_pos AC,A (i+1) _ AC]
  have D:b.size=b.data.size:=rfl
  have hi:i<b.data.toList.length:=AJ
  rw [List.drop_eq_getElem_cons hi]
  have:b.get! i=b.data.toList[i]:=by
   unfold ByteArray.get!
   simp [Array.getElem!_eq_getD,Array.getD]
   rw [dif_pos AC]
  rw [this]; simp
theorem ox (b:ByteArray):b.toList=b.data.toList:=by
 unfold ByteArray.toList
 rw [tJ b _ 0 [] rfl]; simp
theorem WZ (a b:ByteArray):(a.toList==b.toList)=decide (a=b):=by
 rw [ox,ox]
 by_cases h:a=b
 · subst h; simp
 · rw [decide_eq_false h]
   have:a.data.toList≠b.data.toList:=λe=>h (ByteArray.ext (Array.ext' e))
   simpa using this
theorem rG:∀ (u:Nat),∀ b∈Lib.decDigits u,48≤b.toNat∧b.toNat≤57:=by
 intro u
 induction u using Nat.strongRecOn with
 | _ u E =>
  intro b A
  have D:∀ d:Nat,d<10→48≤(UInt8.ofNat (48+d)).toNat∧(UInt8.ofNat (48+d)).toNat≤57:=λd _=>by
   rw [UInt8.toNat_ofNat']; omega
  rw [Lib.decDigits] at A
  split at A
  · rename_i h
    rw [List.mem_singleton.1 A]
    exact D u h
  · rename_i h
    rcases List.mem_append.1 A with A | A
    · exact E (u / 10) AC b A
    · rw [List.mem_singleton.1 A]
      exact D _ AC
theorem dl:∀ (l r:List UInt8) (A:Nat),Lib.decFrom A (l++r)=(Lib.decFrom A l).bind λn=>Lib.decFrom n r
 | [],r,A=>rfl
 | b::l,r,A=>by
  simp only [List.cons_append,Lib.decFrom]
  cases Lib.digitVal b with
  | none=>rfl
  | some d=>exact dl l r _
theorem kI:∀ (u:Nat),Lib.decFrom 0 (Lib.decDigits u)=some u:=by
 intro u
 induction u using Nat.strongRecOn with
 | _ u D =>
  have A:∀ d:Nat,d<10→Lib.digitVal (UInt8.ofNat (48+d))=some d:=λd _=>by
   unfold Lib.digitVal
   have:(UInt8.ofNat (48+d)).toNat=48+d:=by rw [UInt8.toNat_ofNat']; omega
   rw [this,if_pos AC]
   congr 1; omega
  rw [Lib.decDigits]
  split
  · rename_i h
    simp only [Lib.decFrom,A u h]
    congr 1; omega
  · rename_i h
    rw [dl,D (u / 10) AC]
    simp only [Option.bind_some,Lib.decFrom,A (u % 10) AC]
    congr 1; omega
theorem mL:∀ (k u:Nat),u<10 ^ (k+1)→1≤(Lib.decDigits u).length∧(Lib.decDigits u).length≤k+1
 | 0,u,h=>by
  rw [Lib.decDigits,dif_pos AC]; simp
 | k+1,u,h=>by
  rw [Lib.decDigits]
  split
  · simp
  · have:=mL k (u / 10) (by
      rw [Nat.pow_succ] at h
      omega)
    simp only [List.length_append,List.length_singleton]
    omega
theorem tR {u:Nat} (h:u≤999999):Lib.atoiAll (Lib.decDigits u)=.ok (u:Int):=by
 have hl:=mL 5 u AC
 rw [Lib.atoiAll_short _ AC]
 have J:=kI u
 have D:=rG u
 cases E:Lib.decDigits u with
 | nil=>rw [E] at hl; simp at hl
 | cons b r =>
  rw [E] at J D
  have A:=D b AD
  have n1:¬ (b==45)=true:=λe=>by rw [beq_iff_eq.1 e] at A; exact absurd A A1
  have L:¬ (b==43)=true:=λe=>by rw [beq_iff_eq.1 e] at A; exact absurd A A1
  unfold Lib.atoi
  show Lib.NumEnd.ofOption (if (b==45)=true then _ else if (b==43)=true then _ else Option.map _ (Lib.decNat (b::r)))=_
  rw [if_neg n1,if_neg L]
  unfold Lib.decNat
  rw [if_neg AD,J]
  rfl
theorem ZD {u:Nat}:KX (u:Int)=⟨(Lib.decDigits u).toArray⟩:=by
 unfold KX Lib.itoa
 rw [if_neg AC,Int.toNat_natCast]
theorem pz {fu:Nat} {s:ByteArray} (L:s.size≤1048576):∃ r,K5 fu s=some r∧((∃ u:Nat,u≤999999∧s=KX u∧r=((u:Int),true))∨((∀ u:Nat,u≤999999→s≠KX u)∧r=(0,false))):=by
 unfold K5 XI nT VN
 rw [if_pos L,AB]
 by_cases J:∃ u:Nat,u≤999999∧s=KX u
 · obtain ⟨u,D,rfl⟩:=J
   have e:(KX (u:Int)).data.toList=Lib.decDigits u:=by rw [ZD]
   rw [e,tR D]
   simp only [cond_false,Ys,AB,show CW (u:Int) 0 999999=true from BS.2 AC,Bool.not_true]
   rw [gP fu AC,AB,WZ,decide_eq_true rfl]
   exact ⟨_,rfl,.inl ⟨u,D,rfl,rfl⟩⟩
 · have A:∀ u:Nat,u≤999999→s≠KX u:=λu D e=>J ⟨u,D,e⟩
   refine ⟨(0,false),?_,.inr ⟨A,rfl⟩⟩
   cases N:Lib.atoiAll s.data.toList with
   | «syntax»=>rfl
   | range=>rfl
   | ok v =>
    simp only [cond_false,Ys,AB]
    cases M:CW v 0 999999
    · rfl
    · have E:=BS.1 M
      rw [Bool.not_true,cond_false,gP fu E,AB,WZ,decide_eq_false (λe=>by
       obtain ⟨u,rfl⟩:∃ u:Nat,v=u:=⟨v.toNat,AC⟩
       exact A u AC e.symm)]
      rfl
theorem qK {s:ByteArray} {pre l:List UInt8} {b:UInt8} (h:s.data.toList=pre++b::l):sx s (pre.length:Int)=some (b.toNat:Int):=by
 have hl:s.data.toList[pre.length]? = some b:=by rw [h]; simp
 have A:s.data.toList.length=s.size:=Array.length_toList
 have hi:pre.length<s.size:=by rw [← A,h]; simp
 unfold sx
 rw [if_pos AC,Int.toNat_natCast,getElem?_pos s pre.length hi]
 have e:s[pre.length]=b:=by
  have:s.data.toList[pre.length]? = some s[pre.length]:=by
   rw [Array.getElem?_toList]
   exact Array.getElem?_eq_getElem hi
  rw [hl] at this
  exact (Option.some.inj this).symm
 rw [e]; rfl
theorem qO {s:ByteArray}:∀ (l pre:List UInt8) (n k:Nat),s.data.toList=pre++l→s.size≤6→l.length<k→n<10 ^ pre.length →
    GJ 2097153 s k (n:Int) (pre.length:Int)=match Lib.decFrom n l with | none=>some (0,false) | some m=>bif decide (KX (m:Int)=s) then some ((m:Int),true) else some (0,false)
 | [],pre,n,k,h,hs,hk,hn=>by
  obtain ⟨k,rfl⟩:∃ j,k=j+1:=⟨k - 1,AC⟩
  have A:s.size=pre.length:=by
   have:s.data.toList.length=s.size:=Array.length_toList
   rw [← this,h]; simp
  have D:n<10 ^ 6:=Nat.lt_of_lt_of_le hn (Nat.pow_le_pow_right AC AC)
  rw [GJ.eq_2]
  unfold S5
  rw [AM AJ,ig AC AC,AB,WZ]
  simp only [Lib.decFrom]
  cases decide (KX (n:Int)=s) <;> rfl
 | b::l,pre,n,k,h,hs,hk,hn=>by
  obtain ⟨k,rfl⟩:∃ j,k=j+1:=⟨k - 1,AC⟩
  have A:s.size=pre.length+(l.length+1):=by
   have:s.data.toList.length=s.size:=Array.length_toList
   rw [← this,h]; simp
  have M:10 ^ pre.length≤10 ^ 5:=Nat.pow_le_pow_right AC AC
  have N:b.toNat<256:=b.toNat_lt
  have J:=qK h
  rw [GJ.eq_2]
  unfold S5 VH VB
  rw [AX AJ]
  simp only [J,AB]
  unfold Lib.decFrom Lib.digitVal
  by_cases O:b.toNat<48
  · rw [AX AJ,if_neg AC]
  · rw [AM AJ]
    by_cases L:b.toNat>57
    · rw [AX AJ,if_neg AC]
    · rw [AM AJ,if_pos AC]
      have e:AK (AK (AK (10*(n:Int))+AK (b.toNat:Int)) - 48)=((n*10+(b.toNat - 48):Nat):Int):=by
       rw [AU (n:=10*(n:Int)) AC AC,AU (n:=(b.toNat:Int)) AC AC,AU (n:=_+(b.toNat:Int)) AC AC,AU AC AC]
       omega
      have E:AK ((pre.length:Int)+1)=(((pre++[b]).length:Nat):Int):=by
       rw [AU AC AC]; simp
      rw [e,E]
      exact qO l (pre++[b]) _ k (by simp [h]) hs (by simp at hk; omega) (by
       rw [List.length_append,List.length_singleton,Nat.pow_succ]
       omega)
theorem zk {s:ByteArray} (T:s.size≤1048576):MQ 2097153 s=K5 2097153 s:=by
 obtain ⟨r,O,D⟩:=pz (fu:=2097153) T
 rw [O]
 unfold MQ Vx
 have J:s.data.toList.length=s.size:=Array.length_toList
 have M:∀ u:Nat,u≤999999→1≤(KX (u:Int)).size∧(KX (u:Int)).size≤6:=λu A=>by
  have:=mL 5 u AC
  rw [ZD]
  exact this
 by_cases N:(s.size:Int)<1
 · rw [AX (by simpa using N)]
   rcases D with ⟨u,A,rfl,_⟩ | ⟨_,rfl⟩
   · have:=M u A; omega
   · rfl
 · rw [AM (by simpa using N)]
   by_cases L:(s.size:Int)>6
   · rw [AX (by simpa using L)]
     rcases D with ⟨u,A,rfl,_⟩ | ⟨_,rfl⟩
     · have:=M u A; omega
     · rfl
   · rw [AM (by simpa using L)]
     have:=qO (s:=s) s.data.toList [] 0 2097153 rfl AC AC AD
     rw [show ((([]:List UInt8).length:Nat):Int)=0 from rfl,show (((0:Nat):Nat):Int)=0 from rfl] at this
     rw [this]
     rcases D with ⟨u,A,rfl,rfl⟩ | ⟨E,rfl⟩
     · have e:(KX (u:Int)).data.toList=Lib.decDigits u:=by rw [ZD]
       rw [e,kI u]
       simp
     · cases Q:Lib.decFrom 0 s.data.toList with
       | none=>rfl
       | some m =>
        have V:=Lib.decFrom_lt _ _ _ Q
        have U:10 ^ s.data.toList.length≤10 ^ 6:=Nat.pow_le_pow_right AC AC
        simp only
        rw [decide_eq_false (λe=>E m AC e.symm)]
        rfl
end Go.Proofs.YtdgpkmgnjdpieaaGreatDoor
