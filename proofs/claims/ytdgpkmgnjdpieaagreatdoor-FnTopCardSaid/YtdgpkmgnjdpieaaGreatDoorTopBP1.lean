/- TopBP: plain lemmas,.. -/
import Derived.Test.YtdgpkmgnjdpieaaGreatDoorTopBD
import Derived.Test.YtdgpkmgnjdpieaaGreatDoorM2
set_option linter.unusedSimpArgs false
set_option linter.unusedVariables false
namespace Go.Proofs.YtdgpkmgnjdpieaaGreatDoor
open Go
open Enc (rd ow)
open Arg (argv)
open Ret (retv)
open Wf (wf)
theorem mg {fu:Nat} (n:Nat) (M:n≤1048576) (E:n<fu):MD fu (n:Int)=some (BW 0 n):=by
 unfold MD
 have A:∀ (m i k:Nat),n - i=m→i≤n→m<k→H9 fu (n:Int) k (BW 0 i) (i:Int)=some (BW 0 n):=by
  intro m
  induction m with
  | zero =>
   intro i k J hi L
   obtain ⟨k,rfl⟩:∃ j,k=j+1:=⟨k - 1,AC⟩
   have:i=n:=AC
   subst this
   rw [H9.eq_2]
   unfold OT
   simp
  | succ m D =>
   intro i k J hi L
   obtain ⟨k,rfl⟩:∃ j,k=j+1:=⟨k - 1,AC⟩
   rw [H9.eq_2]
   unfold OT
   rw [AX AJ,KO (by rw [B5]; simp; omega),AB,YC i AC]
   have e:=qC 0 i
   rw [Int.zero_add] at e
   rw [← e]
   exact D (i+1) k AC AC AC
 exact A n 0 fu AC AC E
def dk (keys:List Int) (RN:Bool) (p:Int):Int:=bif RN then - kf keys p else kf keys p
theorem gb {keys:List Int} {p:Int} (h:0≤p∧p<keys.length):ix keys p=some (kf keys p):=by
 have A:p.toNat<keys.length:=AC
 unfold kf ix
 rw [if_pos h.1,List.getElem?_eq_getElem A]
 rfl
theorem yc {fu:Nat} {keys a b:List Int} (RN:Bool) (ha:∀ p∈a,0≤p∧p<keys.length) (Z:∀ p∈b,0≤p∧p<keys.length) (e:a.length≤1048576) (Aa:b.length≤1048576) :
    ∀ (m:Nat) (n:Nat) (out:List Int) (i j:Nat),i≤a.length→j≤b.length→(a.length - i)+(b.length - j)=m→m<n→out.length+m≤2097152 →
     DM fu keys RN a b n out i j=some (out++gx (dk keys RN) (a.drop i) (b.drop j)):=by
 intro m
 induction m with
 | zero =>
  intro n out i j hi T hm hn ho
  obtain ⟨n,rfl⟩:∃ k,n=k+1:=⟨n - 1,AC⟩
  rw [DM.eq_2]
  unfold Rq
  rw [AM AJ,AM AJ,List.drop_of_length_le (show a.length≤i by omega),List.drop_of_length_le (show b.length≤j by omega)]
  simp [gx]
 | succ m N =>
  intro n out i j hi T hm hn ho
  obtain ⟨n,rfl⟩:∃ k,n=k+1:=⟨n - 1,AC⟩
  have hL:DM fu keys RN a b (n+1) out i j=KS fu (DM fu keys RN a b n) keys RN a b out i j:=by
   rw [DM.eq_2]
   unfold Rq
   by_cases h:i<a.length
   · rw [AX (by simpa using h)]
   · rw [AM (by simpa using h),AX AJ]
  have V:∀ (h:i<a.length),(BE 8 out [a[i]])=some (out++[a[i]]):=λh=>KO AJ
  have M:∀ (h:j<b.length),(BE 8 out [b[j]])=some (out++[b[j]]):=λh=>KO AJ
  have Q:∀ (h:i<a.length),DM fu keys RN a b n (out++[a[i]]) (AK ((i:Int)+1)) j=some (out++a[i]::gx (dk keys RN) (a.drop (i+1)) (b.drop j)):=λh=>by
   rw [YC i AC,N n (out++[a[i]]) (i+1) j AC T AC AC AJ]
   simp
  have O:∀ (h:j<b.length),DM fu keys RN a b n (out++[b[j]]) i (AK ((j:Int)+1))=some (out++b[j]::gx (dk keys RN) (a.drop i) (b.drop (j+1))):=λh=>by
   rw [YC j AC,N n (out++[b[j]]) i (j+1) hi AC AC AC AJ]
   simp
  rw [hL]
  unfold KS
  by_cases L:j=b.length
  · have h:i<a.length:=AC
    rw [AX (by simp [L]),Xi h,AB,V h,AB,Q h,List.drop_of_length_le (show b.length≤j by omega),pO,pO,← List.drop_eq_getElem_cons h]
  · have A:j<b.length:=AC
    rw [AM AJ]
    by_cases J:i=a.length
    · rw [AX (by simp [J]),Xi A,AB,M A,AB,O A,List.drop_of_length_le (show a.length≤i by omega)]
      have U:∀ l,gx (dk keys RN) [] l=l:=λl=>by rw [gx]
      rw [U,U,← List.drop_eq_getElem_cons A]
    · have D:i<a.length:=AC
      rw [AM AJ]
      simp only [Xi D,Xi A,AB,gb (ha _ (List.getElem_mem D)),gb (Z _ (List.getElem_mem A)),V D,M A,Q D,O A]
      rw [List.drop_eq_getElem_cons D,List.drop_eq_getElem_cons A,Y9,← List.drop_eq_getElem_cons D,← List.drop_eq_getElem_cons A]
      have Y:dk keys RN a[i]=bif RN then - kf keys a[i] else kf keys a[i]:=rfl
      have hy:dk keys RN b[j]=bif RN then - kf keys b[j] else kf keys b[j]:=rfl
      rw [Y,hy]
      generalize kf keys a[i]=x
      generalize kf keys b[j]=y
      cases RN
      · by_cases E:y<x
        · rw [if_pos (by simpa using E)]; simp [E]
        · rw [if_neg (by simpa using E)]
          have:decide (y>x)=true∨decide (y>x)=false:=by cases decide (y>x) <;> simp
          rcases this with h | h <;> simp [E,h]
      · by_cases E:x<y
        · have h:¬ y<x:=AC
          rw [if_pos (by simpa using E)]; simp [E,h]
        · rw [if_neg (by simpa using E)]
          have h:decide (y<x)=true∨decide (y<x)=false:=by cases decide (y<x) <;> simp
          rcases h with h | h <;> simp [E,h]
theorem kq {fu:Nat} {keys:List Int} (RN:Bool) (J:2097153≤fu):∀ (n:Nat) (l:List Int),l.length≤n→l.length≤1048576→(∀ p∈l,0≤p∧p<keys.length) →
    Le fu (n+1) keys l RN=some (uy (dk keys RN) (n+1) l)
 | n,l,hn,hl,hm=>by
  rw [Le.eq_2]
  unfold Ya uy
  by_cases L:l.length<2
  · rw [AX AJ,if_pos L,KO AJ]; rfl
  · rw [AM AJ,if_neg L]
    have M:Int.tdiv (l.length:Int) 2=((l.length / 2:Nat):Int):=by simp [Int.tdiv]
    obtain ⟨n,rfl⟩:∃ k,n=k+1:=⟨n - 1,AC⟩
    rw [M,AU AC AC,N6 AC,N6 AC,AB]
    simp only [Int.toNat_natCast,Int.toNat_zero,List.drop_zero,Nat.sub_zero,AB]
    rw [kq RN J n (l.take (l.length / 2)) (by rw [List.length_take]; omega) (by rw [List.length_take]; omega) (λp A=>hm p (List.mem_of_mem_take A)),AB]
    have e:(l.drop (l.length / 2)).take (l.length - l.length / 2)=l.drop (l.length / 2):=List.take_of_length_le (by rw [List.length_drop]; omega)
    rw [e,kq RN J n (l.drop (l.length / 2)) (by rw [List.length_drop]; omega) (by rw [List.length_drop]; omega) (λp A=>hm p (List.mem_of_mem_drop A)),AB]
    have D:=(UO (dk keys RN) (n+1) (l.take (l.length / 2)))
    have E:=(UO (dk keys RN) (n+1) (l.drop (l.length / 2)))
    have O:=D.length_eq
    have N:=E.length_eq
    rw [List.length_take] at O
    rw [List.length_drop] at N
    rw [show (0:Int)=((0:Nat):Int) from rfl]
    rw [yc RN (λp A=>hm p (List.mem_of_mem_take (D.mem_iff.1 A))) (λp A=>hm p (List.mem_of_mem_drop (E.mem_iff.1 A))) AC AC _ fu [] 0 0 AC AC rfl AC AJ]
    simp
theorem yx {fu:Nat} {keys:List Int} (A:2097153≤fu) (hl:keys.length≤1048576):RO fu keys=some (jt (kf keys) keys.length):=by
 unfold RO OY
 rw [mg keys.length hl AC,AB]
 obtain ⟨m,rfl⟩:∃ m,fu=m+1:=⟨fu - 1,AC⟩
 rw [kq false A m _ (by rw [B5]; omega) (by rw [B5]; omega) (λp D=>by have:=CF.1 D; omega),AB]
 congr 1
 have e:dk keys false=kf keys:=rfl
 rw [e]
 exact gR (UO _ _ _) (XX _ _ _ (by rw [B5]; omega) (Xx _ _))
structure Sm (fu:Nat) (r:Request):Prop where
 fu:2097153≤fu
 pairs:r.fT.length≤1048576
 types:r.fG.length≤1048576
 items:r.fU.length≤1048576
theorem X2 (fu:Nat) (n lo hi:Int):A2 fu n lo hi=some (CW n lo hi):=by
 unfold A2 CW
 by_cases h:lo≤n
 · simp [h]
 · simp [h]
theorem Yy (fu:Nat) (n lo hi:Int):A8 fu n lo hi=some (CW n lo hi):=X2 fu n lo hi
theorem m7 (fu:Nat) (n:Int):FB fu n=some (CW n 1 2000):=by unfold FB; rw [X2]; rfl
theorem uO (fu:Nat) (n:Int):N7 fu n=some (CW n 0 999):=by unfold N7; rw [X2]; rfl
theorem j8 (fu:Nat) (n:Int):DF fu n=some (CW n 1 2000):=by unfold DF; rw [Yy]; rfl
theorem pW (fu:Nat) (p:Pallet):JF fu p=some (Rc p):=by
 unfold JF Rc
 simp only [m7,X2,AB]
 cases CW p.fW 1 2000 <;> cases CW p.fD 1 2000 <;> cases CW p.fH 1 2000 <;> rfl
theorem zj (fu:Nat) (p:Pallet):F5 fu p=some (Rc p):=by
 unfold F5 Rc
 simp only [j8,Yy,AB]
 cases CW p.fW 1 2000 <;> cases CW p.fD 1 2000 <;> cases CW p.fH 1 2000 <;> rfl
theorem zA (fu:Nat) (t:Typ):Wu fu t=some (Yu t):=by
 unfold Wu Yu
 simp only [m7,X2,uO,AB]
 cases CW t.fe 0 999 <;> cases CW t.fW 1 2000 <;> cases CW t.fH 1 2000 <;> cases CW t.fD 1 2000 <;> cases CW t.ff 0 100000 <;> cases CW t.fQ 1 100000 <;> rfl
theorem yu (fu:Nat) (t:Typ):Ws fu t=some (Yu t):=by
 unfold Ws Yu
 simp only [j8,Yy,AB]
 cases CW t.fe 0 999 <;> cases CW t.fW 1 2000 <;> cases CW t.fH 1 2000 <;> cases CW t.fD 1 2000 <;> cases CW t.ff 0 100000 <;> cases CW t.fQ 1 100000 <;> rfl
theorem yM (fu:Nat) (t:Item):Wz fu t=some (VV t):=by
 unfold Wz VV
 simp only [m7,X2,uO,AB]
 cases CW t.fe 0 999 <;> cases CW t.fW 1 2000 <;> cases CW t.fH 1 2000 <;> cases CW t.fD 1 2000 <;> cases CW t.fQ 1 100000 <;> cases CW t.fO 0 3 <;> rfl
theorem zu (fu:Nat) (t:Item):Wh fu t=some (VV t):=by
 unfold Wh VV
 simp only [j8,Yy,AB]
 cases CW t.fe 0 999 <;> cases CW t.fW 1 2000 <;> cases CW t.fH 1 2000 <;> cases CW t.fD 1 2000 <;> cases CW t.fQ 1 100000 <;> cases CW t.fO 0 3 <;> rfl
def qt:List Item→Int→Option Bool
 | [],n=>some (decide (n≤12))
 | x::xs,n=>bif !VV x then some false else qt xs (AK (n+x.f9))
theorem lf:∀ (l:List Item) (n:Int),0≤n→n+6*l.length≤4611686018427387904→qt l n=some (l.all VV&&decide (n+HW (l.map (·.f9))≤12))
 | [],n,_,_=>by simp [qt]
 | x::xs,n,h0,h1=>by
  unfold qt
  cases A:VV x
  · simp [A]
  · have D:=A
    simp only [VV,Bool.and_eq_true,BS] at D
    have D:=D.2.2.2.2.2.2
    simp only [List.length_cons] at h1
    rw [AU AC AC]
    simp only [Bool.not_true,cond_false]
    rw [lf xs (n+x.f9) AC AC]
    simp only [List.all_cons,A,Bool.true_and,List.map_cons,ED,Int.add_assoc]
theorem ye {fu:Nat} {r:Request} (h:Sm fu r):SJ fu r=some (Y6 r):=by
 have U:=h.fu
 have Y:r.fU.length≤8→E2 fu r fu 0 0=some (r.fU.all VV&&decide (HW (r.fU.map (·.f9))≤12)):=by
  intro L
  rw [lp r.fU (λn s i=>E2 fu r n s i) qt (by have:=h.items; omega) ?_ ?_ fu 0 (by have:=h.items; omega),lf _ _ AC (by have:=h.items; omega)]
  · simp
  · intro n s i x O J A E
    simp only [E2.eq_2]
    unfold O3
    simp only [A,cond_true,J,AB,yM,E]
    rfl
  · intro n s i A
    simp only [E2.eq_2]
    unfold O3
    simp only [A,cond_false]
    rfl
 have T:∀ b:Bool,(E2 fu r fu 0 0=some b)→E3 fu r fu 0=some (r.fG.all Yu&&b):=by
  intro b N
  refine lp r.fG (λn (_:Unit) i=>E3 fu r n i) (λl _=>some (l.all Yu&&b)) (by have:=h.types; omega) ?_ ?_ fu () (by have:=h.types; omega)
  · intro n s i x O J A E
    simp only [E3.eq_2]
    unfold O4
    simp only [A,cond_true,J,AB,zA,E (),List.all_cons]
    cases Yu x <;> rfl
  · intro n s i A
    simp only [E3.eq_2]
    unfold O4
    simp only [A,cond_false,N]
    rfl
 have V:∀ b:Bool,(E3 fu r fu 0=some b)→EZ fu r fu 0=some (r.fT.all t7&&b):=by
  intro b N
  refine lp r.fT (λn (_:Unit) i=>EZ fu r n i) (λl _=>some (l.all t7&&b)) (by have:=h.pairs; omega) ?_ ?_ fu () (by have:=h.pairs; omega)
  · intro n s i x O J A E
    simp only [EZ.eq_2]
    unfold OU TH
    simp only [A,cond_true,J,AB,X2,E ()]
    simp only [List.all_cons,t7]
    cases CW x.fA 0 3 <;> cases CW x.fB 0 3 <;> rfl
  · intro n s i A
    simp only [EZ.eq_2]
    unfold OU
    simp only [A,cond_false,N]
    rfl
 unfold SJ Tm Y6
 simp only [X2,uO,pW,AB]
 by_cases L:r.fU.length≤8
 · rw [V _ (T _ (Y L))]
   have M:decide ((r.fU.length:Int)>8)=false:=AJ
   rw [M]
   by_cases Q:r.fT.length≤16
   · have D:decide ((r.fT.length:Int)>16)=false:=AJ
     rw [D]
     simp only [Q,L,decide_true,cond_false,Bool.and_true]
     cases CW r.fc 0 1 <;> cases Rc r.fJ <;> cases CW r.fR 1 4 <;> cases CW (r.fG.length:Int) 1 5 <;> cases CW r.fP 0 999 <;> simp <;> cases r.fT.all t7 <;> cases r.fG.all Yu <;> rfl
   · have D:decide ((r.fT.length:Int)>16)=true:=AJ
     rw [D]
     simp only [Q,decide_false,cond_true]
     cases CW r.fc 0 1 <;> cases Rc r.fJ <;> cases CW r.fR 1 4 <;> simp
 · have M:decide ((r.fU.length:Int)>8)=true:=AJ
   rw [M]
   simp only [L,decide_false,cond_true,Bool.and_false,Bool.false_and]
   cases CW r.fc 0 1 <;> cases Rc r.fJ <;> cases CW r.fR 1 4 <;> simp
def VX {α:Type} (g:α→Bool):List α→Int→Int
 | [],_=>-1
 | x::xs,i=>bif g x then i else VX g xs (i+1)
theorem WE {α:Type} (g:α→Bool):∀ (l:List α) (i:Int),0≤i→decide (VX g l i≥0)=l.any g
 | [],i,_=>rfl
 | x::xs,i,h=>by
  simp only [VX,List.any_cons]
  by_cases A:g x=true
  · simpa [A] using h
  · simpa [A] using WE g xs (i+1) AC
theorem jr {α:Type} (g:α→Bool):∀ (l pre:List α) ,(VX g l pre.length<0∧l.find? g=none)∨(0≤VX g l pre.length∧∃ x,l.find? g=some x∧ix (pre++l) (VX g l pre.length)=some x)
 | [],pre=>.inl ⟨by simp [VX],rfl⟩
 | x::xs,pre=>by
  simp only [VX]
  cases A:g x
  · have:=jr g xs (pre++[x])
    simp only [List.length_append,List.length_singleton,List.append_assoc,List.singleton_append] at this
    simpa [List.find?_cons,A] using this
  · refine .inr ⟨AD,x,by simp [A],?_⟩
    rw [cond_true,EG]
    simp
theorem UZ {α:Type} (l:List α) (L:Nat→Int→Option Int) (g:α→Bool) (hl:l.length≤1099511627776)
    (hs:∀ n (i:Int) x,ix l i=some x→decide (i<(l.length:Int))=true→L (n+1) i=bif g x then some i else L n (AK (i+1)))
    (he:∀ n (i:Int),decide (i<(l.length:Int))=false→L (n+1) i=some (-1)) (n:Nat) (E:l.length<n):L n 0=some (VX g l 0):=by
 have D:∀ (m i n:Nat),l.length - i=m→i≤l.length→m<n→L n (i:Int)=some (VX g (l.drop i) i):=by
  intro m
  induction m with
  | zero =>
   intro i n M hi E
   obtain ⟨n,rfl⟩:∃ k,n=k+1:=⟨n - 1,AC⟩
   rw [List.drop_of_length_le AC,he n i AJ]
   rfl
  | succ m J =>
   intro i n M hi E
   obtain ⟨n,rfl⟩:∃ k,n=k+1:=⟨n - 1,AC⟩
   have A:i<l.length:=AC
   rw [hs n i _ (Xi A) (by simpa using A),List.drop_eq_getElem_cons A]
   simp only [VX]
   cases g l[i]
   · rw [cond_false,cond_false,YC i AC]
     have:=J (i+1) n AC AC AC
     simpa using this
   · rfl
 simpa using D l.length 0 n AC AC E
theorem mw {fu:Nat} {l:List Typ} (f:Typ→Option Bool) (g:Typ→Bool) (E:∀ x∈l,f x=some (g x)) (hl:l.length≤1048576) (J:l.length<fu):CE fu l f=some (VX g l 0):=by
 unfold CE
 refine UZ l (λn i=>BM fu l f n i) g AC ?_ ?_ fu J
 · intro n i x D A
   simp only [BM.eq_2]
   unfold DZ
   simp only [A,cond_true,D,AB,E x (C8 D)]
 · intro n i A
   simp only [BM.eq_2]
   unfold DZ
   simp only [A,cond_false]
theorem gv {fu:Nat} {l:List Typ} (f:Typ→Option Bool) (g:Typ→Bool) (A:∀ x∈l,f x=some (g x)) (hl:l.length≤1048576) (D:l.length<fu):BH fu l f=some (l.any g):=by
 unfold BH
 rw [mw f g A hl D,AB,WE g l 0 AC]
theorem p9 {fu:Nat} {l:List Pair} (f:Pair→Option Bool) (g:Pair→Bool) (E:∀ x∈l,f x=some (g x)) (hl:l.length≤1048576) (J:l.length<fu):DO fu l f=some (VX g l 0):=by
 unfold DO
 refine UZ l (λn i=>BO fu l f n i) g AC ?_ ?_ fu J
 · intro n i x D A
   simp only [BO.eq_2]
   unfold DY
   simp only [A,cond_true,D,AB,E x (C8 D)]
 · intro n i A
   simp only [BO.eq_2]
   unfold DY
   simp only [A,cond_false]
theorem jX {fu:Nat} {l:List Pair} (f:Pair→Option Bool) (g:Pair→Bool) (A:∀ x∈l,f x=some (g x)) (hl:l.length≤1048576) (D:l.length<fu):BL fu l f=some (l.any g):=by
 unfold BL
 rw [p9 f g A hl D,AB,WE g l 0 AC]
theorem qB {fu:Nat} {l:List Item} (f:Item→Option Bool) (g:Item→Bool) (E:∀ x∈l,f x=some (g x)) (hl:l.length≤1048576) (J:l.length<fu):DJ fu l f=some (VX g l 0):=by
 unfold DJ
 refine UZ l (λn i=>BN fu l f n i) g AC ?_ ?_ fu J
 · intro n i x D A
   simp only [BN.eq_2]
   unfold D0
   simp only [A,cond_true,D,AB,E x (C8 D)]
 · intro n i A
   simp only [BN.eq_2]
   unfold D0
   simp only [A,cond_false]
theorem ZT {fu:Nat} {l:List Item} (f:Item→Option Bool) (g:Item→Bool) (A:∀ x∈l,f x=some (g x)) (hl:l.length≤1048576) (D:l.length<fu):BG fu l f=some (l.any g):=by
 unfold BG
 rw [qB f g A hl D,AB,WE g l 0 AC]
theorem yE {fu:Nat} {r:Request} (h:Sm fu r):SF fu r=some (Y6 r):=by
 have V:=h.fu
 have e:=h.items
 have T:=h.types
 have N:=h.pairs
 have M:GB fu r fu 0 0=some (r.fU.all VV&&decide (HW (r.fU.map (·.f9))≤12)):=by
  rw [lp r.fU (λn s i=>GB fu r n s i) qt AC ?_ ?_ fu 0 AC,lf _ _ AC AC]
  · simp
  · intro n s i x Z Q J L
    simp only [GB.eq_2]
    unfold OC
    simp only [J,cond_true,Q,AB,zu,L]
    rfl
  · intro n s i J
    simp only [GB.eq_2]
    unfold OC
    simp only [J,cond_false]
    rfl
 have Y:BL fu r.fT (λA=>NK fu A)=some (!(r.fT.all t7)):=by
  rw [jX _ (λp=>!t7 p) (λp _=>by
   unfold NK t7
   simp only [Yy,AB]
   cases CW p.fA 0 3 <;> rfl) N AC]
  simp [List.not_all_eq_any_not]
 have U:BH fu r.fG (λA=>NU fu A)=some (!(r.fG.all Yu)):=by
  rw [gv _ (λp=>!Yu p) (λp _=>by
   unfold NU
   rw [yu]; rfl) T AC]
  simp [List.not_all_eq_any_not]
 unfold SF TC S3 Y6
 rw [M,Y,U]
 simp only [Yy,zj,AB]
 have O:decide ((r.fU.length:Int)>8)=!decide (r.fU.length≤8):=by
  by_cases D:r.fU.length≤8
  · have:¬ ((r.fU.length:Int)>8):=AC
    simp [D,this]
  · have:(r.fU.length:Int)>8:=AC
    simp [D,this]
 have E:decide ((r.fT.length:Int)>16)=!decide (r.fT.length≤16):=by
  by_cases D:r.fT.length≤16
  · have:¬ ((r.fT.length:Int)>16):=AC
    simp [D,this]
  · have:(r.fT.length:Int)>16:=AC
    simp [D,this]
 rw [O,E]
 cases CW r.fc 0 1 <;> cases Rc r.fJ <;> cases CW r.fR 1 4 <;> cases decide (r.fT.length≤16) <;> cases r.fT.all t7 <;> cases CW (r.fG.length:Int) 1 5 <;> cases r.fG.all Yu <;> cases CW r.fP 0 999 <;> cases decide (r.fU.length≤8) <;> rfl
theorem vU {σ α β:Type} (l:List α) (L:Nat→σ→Int→Option β) (F:List α→List α→σ→Option β) (hl:l.length≤1099511627776)
    (hs:∀ n s pre x D,l=pre++x::D→ix l (pre.length:Int)=some x→decide ((pre.length:Int)<(l.length:Int))=true→(∀ J,L n J (AK ((pre.length:Int)+1))=F (pre++[x]) D J)→L (n+1) s (pre.length:Int)=F pre (x::D) s)
    (he:∀ n s,decide ((l.length:Int)<(l.length:Int))=false→L (n+1) s (l.length:Int)=F l [] s):∀ n s,l.length<n→L n s 0=F [] l s:=by
 have M:∀ (D pre:List α) (n:Nat) (s:σ),l=pre++D→D.length<n→L n s (pre.length:Int)=F pre D s:=by
  intro D
  induction D with
  | nil =>
   intro pre n s A E
   obtain ⟨n,rfl⟩:∃ k,n=k+1:=⟨n - 1,AC⟩
   simp only [List.append_nil] at A
   subst A
   exact he n s AD
  | cons x D O =>
   intro pre n s A E
   obtain ⟨n,rfl⟩:∃ k,n=k+1:=⟨n - 1,by simp at E; omega⟩
   have N:l.length=pre.length+(D.length+1):=by rw [A]; simp
   refine hs n s pre x D A ?_ AJ λJ=>?_
   · rw [EG,A]; simp
   · rw [YC _ AC]
     have:=O (pre++[x]) n J (by simp [A]) (by simp at E; omega)
     simpa using this
 intro n s E
 simpa using M l [] n s rfl E
theorem ka {α:Type} {pre rest:List α} {i:Int} {y:α} (h:ix pre i=some y):ix (pre++rest) i=some y:=by
 obtain ⟨D,_,A⟩:=AG h
 unfold ix
 rw [if_pos D,List.getElem?_append_left AC,A]
theorem xF (a b:Int):(a==b)=(b==a):=Bool.eq_iff_iff.2 (by simp only [beq_iff_eq]; exact ⟨Eq.symm,Eq.symm⟩)
theorem ZQ {fu:Nat} {r:Request} (h:Sm fu r) (A:Int):JC fu r A=some (WK (KB r A)):=by
 have O:=h.fu
 have N:=h.types
 unfold JC KB
 rw [mw (λJ=>TV fu J A) (λt=>t.fe==A) (λt _=>rfl) N AC,AB]
 rcases jr (λt:Typ=>t.fe==A) r.fG [] with ⟨D,E⟩ | ⟨D,x,E,M⟩
 · simp only [List.length_nil] at D
   rw [AX (by simpa using D),E]; rfl
 · simp only [List.length_nil,List.nil_append] at D M
   rw [AM (by simpa using D),E]
   have L:ix r.fG (VX (λt=>t.fe==A) r.fG 0)=some x:=M
   rw [L]; rfl
theorem lS {fu:Nat} {r:Request} (h:Sm fu r):HO fu r=some (WK (KB r r.fP)):=by
 have J:=h.fu
 have L:=h.types
 unfold HO KB
 refine lp r.fG (λn (_:Unit) i=>IP fu r n i) (λl _=>some (WK (l.find? λt=>t.fe==r.fP))) AC ?_ ?_ fu () AC
 · intro n s i x M E A D
   simp only [IP.eq_2]
   unfold N0
   simp only [A,cond_true,E,AB,D (),List.find?_cons]
   cases x.fe==r.fP <;> rfl
 · intro n s i A
   simp only [IP.eq_2]
   unfold N0
   simp only [A,cond_false]
   rfl
theorem tF {fu:Nat} {r:Request} (h:Sm fu r):KH fu r=some (WK (KB r r.fP)):=by
 unfold KH
 rw [ZQ h]; rfl
theorem cr (o:Option Typ):(WK o).2=o.isSome:=by cases o <;> rfl
theorem zJ {fu:Nat} {r:Request} (h:Sm fu r):US fu r=some (dS r):=by
 have Z:=h.fu
 have h1:=h.items
 have h2:=h.types
 have h3:=h.pairs
 have Q:EN fu r fu 0=some (!(r.fT.any λp=>decide (p.fA≥r.fR)||decide (p.fB≥r.fR))&&(KB r r.fP).isSome):=by
  refine lp r.fT (λn (_:Unit) i=>EN fu r n i) (λl _=>some (!(l.any λp=>decide (p.fA≥r.fR)||decide (p.fB≥r.fR))&&(KB r r.fP).isSome)) AC ?_ ?_ fu () AC
  · intro n s i x U L A D
    simp only [EN.eq_2]
    unfold Q1 T3
    simp only [A,cond_true,L,AB,D (),List.any_cons]
    cases decide (x.fA≥r.fR) <;> cases decide (x.fB≥r.fR) <;> rfl
  · intro n s i A
    simp only [EN.eq_2]
    unfold Q1
    simp only [A,cond_false,lS h,AB,cr]
    rfl
 have V:∀ b,EN fu r fu 0=some b→B0 fu r fu 0=some (dO r.fR [] r.fU&&b):=by
  intro b O
  refine vU r.fU (λn (_:Unit) i=>B0 fu r n i) (λpre l _=>some (dO r.fR pre l&&b)) AC ?_ ?_ fu () AC
  · intro n s pre x U hl L A D
    simp only [B0.eq_2]
    unfold Rf
    simp only [A,cond_true,L,AB,dO]
    cases e:decide (x.fO≥r.fR)
    · have M:pre.length≤r.fU.length:=by rw [hl]; simp
      have N:FT fu (λi=>B0 fu r n i) r (pre.length:Int) fu 0=bif pre.any (λy=>y.fe==x.fe) then some false else B0 fu r n (AK ((pre.length:Int)+1)):=by
       refine lp pre (λm (_:Unit) i=>FT fu (λi=>B0 fu r n i) r (pre.length:Int) m i) (λl _=>bif l.any (λy=>y.fe==x.fe) then some false else B0 fu r n (AK ((pre.length:Int)+1))) AC ?_ ?_ fu () AC
       · intro m s i y ys T A D
         simp only [FT.eq_2]
         unfold Rx
         have J:ix r.fU i=some y:=by rw [hl]; exact ka T
         simp only [A,cond_true,L,J,AB,D (),List.any_cons]
         rw [xF x.fe y.fe]
         cases y.fe==x.fe <;> rfl
       · intro m s i A
         simp only [FT.eq_2]
         unfold Rx
         simp only [A,cond_false]
         rfl
      have E:FT fu (B0 fu r n) r (pre.length:Int) fu 0=bif pre.any (λy=>y.fe==x.fe) then some false else B0 fu r n (AK ((pre.length:Int)+1)):=N
      rw [cond_false,E,D ()]
      cases pre.any (λy=>y.fe==x.fe) <;> rfl
    · rfl
  · intro n s A
    simp only [B0.eq_2]
    unfold Rf
    simp only [A,cond_false,O]
    rfl
 have Y:∀ b,B0 fu r fu 0=some b→B7 fu r fu 0=some (ek Typ.fe [] r.fG&&b):=by
  intro b O
  refine vU r.fG (λn (_:Unit) i=>B7 fu r n i) (λpre l _=>some (ek Typ.fe pre l&&b)) AC ?_ ?_ fu () AC
  · intro n s pre x U hl L A D
    simp only [B7.eq_2]
    unfold QE
    simp only [A,cond_true,ek]
    have M:pre.length≤r.fG.length:=by rw [hl]; simp
    have N:FN fu (λi=>B7 fu r n i) r (pre.length:Int) fu 0=bif pre.any (λy=>y.fe==x.fe) then some false else B7 fu r n (AK ((pre.length:Int)+1)):=by
     refine lp pre (λm (_:Unit) i=>FN fu (λi=>B7 fu r n i) r (pre.length:Int) m i) (λl _=>bif l.any (λy=>y.fe==x.fe) then some false else B7 fu r n (AK ((pre.length:Int)+1))) AC ?_ ?_ fu () AC
     · intro m s i y ys T A D
       simp only [FN.eq_2]
       unfold Q7
       have J:ix r.fG i=some y:=by rw [hl]; exact ka T
       simp only [A,cond_true,L,J,AB,D (),List.any_cons]
       rw [xF x.fe y.fe]
       cases y.fe==x.fe <;> rfl
     · intro m s i A
       simp only [FN.eq_2]
       unfold Q7
       simp only [A,cond_false]
       rfl
    have E:FN fu (B7 fu r n) r (pre.length:Int) fu 0=bif pre.any (λy=>y.fe==x.fe) then some false else B7 fu r n (AK ((pre.length:Int)+1)):=N
    rw [E,D ()]
    cases pre.any (λy=>y.fe==x.fe) <;> rfl
  · intro n s A
    simp only [B7.eq_2]
    unfold QE
    simp only [A,cond_false,O]
    rfl
 unfold US dS
 rw [Y _ (V _ Q)]
 congr 1
 cases ek Typ.fe [] r.fG <;> cases dO r.fR [] r.fU <;> cases (KB r r.fP).isSome <;> cases r.fT.any λp=>decide (p.fA≥r.fR)||decide (p.fB≥r.fR) <;> rfl
theorem n6 {α:Type} {l pre A:List α} {x:α} (h:l=pre++x::A):RA l 0 (pre.length:Int)=some pre:=by
 rw [N6 ⟨AC,AC,by rw [h]; simp; omega⟩]
 simp [h]
theorem yL {fu:Nat} {r:Request} (h:Sm fu r):Ur fu r=some (dS r):=by
 have T:=h.fu
 have U:=h.items
 have V:=h.types
 have O:=h.pairs
 have L:EO fu r fu 0=some (dO r.fR [] r.fU&&((KB r r.fP).isSome&&!(r.fT.any λp=>decide (p.fA≥r.fR)||decide (p.fB≥r.fR)))):=by
  refine vU r.fU (λn (_:Unit) i=>EO fu r n i) (λpre l _=>some (dO r.fR pre l&&((KB r r.fP).isSome&&!(r.fT.any λp=>decide (p.fA≥r.fR)||decide (p.fB≥r.fR))))) AC ?_ ?_ fu () AC
  · intro n s pre x N hl J A E
    simp only [EO.eq_2]
    unfold Q2 Up
    have D:pre.length≤r.fU.length:=by rw [hl]; simp
    simp only [A,cond_true,J,AB,n6 hl,ZT (λy=>V1 fu y x) (λy=>y.fe==x.fe) (λy _=>rfl) (show pre.length≤1048576 by omega) (show pre.length<fu by omega),dO,E ()]
    cases decide (x.fO≥r.fR) <;> cases pre.any (λy=>y.fe==x.fe) <;> rfl
  · intro n s A
    simp only [EO.eq_2]
    unfold Q2
    simp only [A,cond_false,tF h,AB,cr]
    rw [jX (λy=>PM fu y r) (λp=>decide (p.fA≥r.fR)||decide (p.fB≥r.fR)) (λp _=>by
     unfold PM
     cases decide (p.fA≥r.fR) <;> rfl) O AC,AB]
    cases (KB r r.fP).isSome <;> rfl
 have M:∀ b,EO fu r fu 0=some b→GR fu r fu 0=some (ek Typ.fe [] r.fG&&b):=by
  intro b Q
  refine vU r.fG (λn (_:Unit) i=>GR fu r n i) (λpre l _=>some (ek Typ.fe pre l&&b)) AC ?_ ?_ fu () AC
  · intro n s pre x N hl J A E
    simp only [GR.eq_2]
    unfold Q5
    have D:pre.length≤r.fG.length:=by rw [hl]; simp
    simp only [A,cond_true,J,AB,n6 hl,gv (λy=>VZ fu y x) (λy=>y.fe==x.fe) (λy _=>rfl) (show pre.length≤1048576 by omega) (show pre.length<fu by omega),ek,E ()]
    cases pre.any (λy=>y.fe==x.fe) <;> rfl
  · intro n s A
    simp only [GR.eq_2]
    unfold Q5
    simp only [A,cond_false,Q]
    rfl
 unfold Ur dS
 rw [M _ L]
 congr 1
 cases ek Typ.fe [] r.fG <;> cases dO r.fR [] r.fU <;> cases (KB r r.fP).isSome <;> cases r.fT.any λp=>decide (p.fA≥r.fR)||decide (p.fB≥r.fR) <;> rfl
theorem wn {fu:Nat} {l:List Pair} (hl:l.length≤1048576) (E:l.length<fu) (a b:Int):GQ fu l a b=some (KW l a b):=by
 unfold GQ KW
 refine lp l (λn (_:Unit) i=>IB fu l a b n i) (λl _=>some (l.any λp=>p.fA==a&&p.fB==b)) AC ?_ ?_ fu () E
 · intro n s i x L J A D
   simp only [IB.eq_2]
   unfold Ty PH
   simp only [A,cond_true,J,AB,D (),List.any_cons]
   cases x.fA==a <;> cases x.fB==b <;> rfl
 · intro n s i A
   simp only [IB.eq_2]
   unfold Ty
   simp only [A,cond_false]
   rfl
theorem s8 {fu:Nat} {l:List Pair} (hl:l.length≤1048576) (J:l.length<fu) (a b:Int):JY fu l a b=some (KW l a b):=by
 unfold JY FG GA KW
 have:=UZ l (λn i=>BZ fu l (⟨a,b⟩:Pair) n i) (λp=>p.fA==a&&p.fB==b) AC (by
  intro n i x L E
  simp only [BZ.eq_2]
  unfold EW
  simp only [E,cond_true,L,AB]
  have:decide ((⟨a,b⟩:Pair)=x)=(x.fA==a&&x.fB==b):=by
   rcases x with ⟨c,d⟩
   apply Bool.eq_iff_iff.2
   simp only [decide_eq_true_eq,Pair.mk.injEq,Bool.and_eq_true,beq_iff_eq]
   exact ⟨λ⟨D,A⟩=>⟨D.symm,A.symm⟩,λ⟨D,A⟩=>⟨D.symm,A.symm⟩⟩
  rw [this]) (by
  intro n i E
  simp only [BZ.eq_2]
  unfold EW
  simp only [E,cond_false]) fu J
 rw [this,AB,WE _ l 0 AC,AB]
theorem zk {fu:Nat} {l:List Pair} (hl:l.length≤1048576) (J:l.length<fu) (Q:64<fu) (c:Int):T6 fu l c=some (i8 l c):=by
 unfold T6 i8
 rw [Yy,AB]
 cases M:CW c 1 4
 · rfl
 rw [BS] at M
 simp only [Bool.not_true,cond_false,Bool.true_and]
 have L:∀ (k:Int→Option Bool) (a:Int),Hw fu k l c a fu 0=bif (BW 0 c.toNat).all λb=>KW l a b==KW l b a then k (AK (a+1)) else some false:=by
  intro k a
  refine wu c (λn (_:Unit) i=>Hw fu k l c a n i) (λD _=>bif D.all λb=>KW l a b==KW l b a then k (AK (a+1)) else some false) AC ?_ ?_ c.toNat fu () 0 AC AC AC
  · intro n s i D O N A E
    simp only [Hw.eq_2]
    unfold QF
    simp only [A,cond_true,s8 hl J,AB,E (),List.all_cons]
    cases KW l a i==KW l i a <;> rfl
  · intro n s i A
    simp only [Hw.eq_2]
    unfold QF
    simp only [A,cond_false]
    rfl
 refine wu c (λn (_:Unit) i=>GX fu l c n i) (λD _=>some (D.all λa=>KW l a a&&(BW 0 c.toNat).all λb=>KW l a b==KW l b a)) AC ?_ ?_ c.toNat fu () 0 AC AC AC
 · intro n s i D O N A E
   simp only [GX.eq_2]
   unfold Q4
   simp only [A,cond_true,s8 hl J,AB,L,E (),List.all_cons]
   cases KW l i i <;> cases (BW 0 c.toNat).all λb=>KW l i b==KW l b i <;> rfl
 · intro n s i A
   simp only [GX.eq_2]
   unfold Q4
   simp only [A,cond_false]
   rfl
theorem ya {fu:Nat} {l:List Pair} (hl:l.length≤1048576) (T:l.length<fu) (V:64<fu) (c:Int):TW fu l c=some (i8 l c):=by
 unfold TW i8
 rw [X2,AB]
 cases Q:CW c 1 4
 · rfl
 rw [BS] at Q
 simp only [Bool.not_true,cond_false,Bool.true_and]
 have N:∀ (k:Int→Option Bool) (a:Int),FV fu k l c a fu 0=bif (BW 0 c.toNat).all λb=>(!(a==b)||KW l a a)&&(KW l a b==KW l b a) then k (AK (a+1)) else some false:=by
  intro k a
  refine wu c (λn (_:Unit) i=>FV fu k l c a n i) (λE _=>bif E.all λb=>(!(a==b)||KW l a a)&&(KW l a b==KW l b a) then k (AK (a+1)) else some false) AC ?_ ?_ c.toNat fu () 0 AC AC AC
  · intro n s i E U J A L
    simp only [FV.eq_2]
    unfold QT Nw
    simp only [A,cond_true,wn hl T,AB,L (),List.all_cons]
    cases a==i <;> cases KW l a a <;> cases KW l a i==KW l i a <;> rfl
  · intro n s i A
    simp only [FV.eq_2]
    unfold QT
    simp only [A,cond_false]
    rfl
 have O:ER fu l c fu 0=some ((BW 0 c.toNat).all λa=>(BW 0 c.toNat).all λb=>(!(a==b)||KW l a a)&&(KW l a b==KW l b a)):=by
  refine wu c (λn (_:Unit) i=>ER fu l c n i) (λE _=>some (E.all λa=>(BW 0 c.toNat).all λb=>(!(a==b)||KW l a a)&&(KW l a b==KW l b a))) AC ?_ ?_ c.toNat fu () 0 AC AC AC
  · intro n s i E U J A L
    simp only [ER.eq_2]
    unfold PY
    simp only [A,cond_true,N,L (),List.all_cons]
    cases (BW 0 c.toNat).all λb=>(!(i==b)||KW l i i)&&(KW l i b==KW l b i) <;> rfl
  · intro n s i A
    simp only [ER.eq_2]
    unfold PY
    simp only [A,cond_false]
    rfl
 rw [O]
 congr 1
 apply Bool.eq_iff_iff.2
 simp only [List.all_eq_true,Bool.and_eq_true,Bool.or_eq_true,Bool.not_eq_true',beq_eq_false_iff_ne,beq_iff_eq]
 constructor
 · intro h a D
   refine ⟨?_,λb M=>(h a D b M).2⟩
   rcases (h a D a D).1 with J | J
   · exact absurd rfl J
   · exact J
 · intro h a D b M
   exact ⟨.inr (h a D).1,(h a D).2 b M⟩
theorem yf {l:List Int} (h:l.length=3):∃ p q s,l=[p,q,s]:=by
 match l,h with
 | [p,q,s],_=>exact ⟨p,q,s,rfl⟩
theorem vH {fu:Nat} (J:2097153≤fu) (a b c:Int):Oh fu a b c=some [(Y4 a b c).1,(Y4 a b c).2.1,(Y4 a b c).2.2]:=by
 unfold Oh
 rw [yx J AD,AB,show [a,b,c].length=3 from rfl]
 have E:=XZ (kf [a,b,c]) 3
 have L:=aA (kf [a,b,c]) 3
 obtain ⟨p,q,s,O⟩:=yf (V7 (kf [a,b,c]) 3)
 rw [O] at E L ⊢
 have A:∀ x∈[p,q,s],0≤x∧x<3:=λx T=>by
  have:=CF.1 (E.mem_iff.1 T)
  omega
 have N:=gb (keys:=[a,b,c]) (p:=p) (by have:=A p AD; simpa using this)
 have Q:=gb (keys:=[a,b,c]) (p:=q) (by have:=A q AD; simpa using this)
 have M:=gb (keys:=[a,b,c]) (p:=s) (by have:=A s AD; simpa using this)
 rw [show ix [p,q,s] 0=some p from rfl,show ix [p,q,s] 1=some q from rfl,show ix [p,q,s] 2=some s from rfl]
 simp only [AB,N,Q,M]
 have D:([a,b,c]).Perm [kf [a,b,c] p,kf [a,b,c] q,kf [a,b,c] s]:=(E.map (kf [a,b,c])).symm
 simp only [List.pairwise_cons,List.mem_cons,List.not_mem_nil,or_false,forall_eq_or_imp,forall_eq,lx] at L
 have:=vZ D AC AC
 rw [this]
theorem su {fu:Nat} (A:2097153≤fu) (x:Item) (t:Typ):TN fu x t=some (Yf x t):=by
 unfold TN Yf
 rw [vH A,vH A]
 simp only [AB]
 have J:∀ a b c:Int,ix [a,b,c] 0=some a:=λ_ _ _=>rfl
 have E:∀ a b c:Int,ix [a,b,c] 1=some b:=λ_ _ _=>rfl
 have D:∀ a b c:Int,ix [a,b,c] 2=some c:=λ_ _ _=>rfl
 simp only [J,E,D,AB]
 cases decide ((Y4 x.fW x.fH x.fD).1≤(Y4 t.fW t.fH t.fD).1) <;> cases decide ((Y4 x.fW x.fH x.fD).2.1≤(Y4 t.fW t.fH t.fD).2.1) <;> cases decide ((Y4 x.fW x.fH x.fD).2.2≤(Y4 t.fW t.fH t.fD).2.2) <;> rfl
theorem nl (a b c:Int):bU [a,b,c]=some [(Y4 a b c).1,(Y4 a b c).2.1,(Y4 a b c).2.2]:=by
 unfold bU
 rw [if_pos AD]
 have A:=List.mergeSort_perm [a,b,c] (λx y=>decide (x≤y))
 have D:=PP [a,b,c]
 obtain ⟨p,q,s,E⟩:=yf (A.length_eq)
 rw [E] at A D ⊢
 simp only [List.pairwise_cons,List.mem_cons,List.not_mem_nil,or_false,forall_eq_or_imp,forall_eq] at D
 rw [vZ A.symm AC AC]
theorem vQ (fu:Nat) (x:Item) (t:Typ):WA fu x t=some (Yf x t):=by
 unfold WA XK CL Yf
 rw [nl,nl]
 have E:∀ a b c:Int,ix [a,b,c] 0=some a:=λ_ _ _=>rfl
 have D:∀ a b c:Int,ix [a,b,c] 1=some b:=λ_ _ _=>rfl
 have A:∀ a b c:Int,ix [a,b,c] 2=some c:=λ_ _ _=>rfl
 simp only [AB,E,D,A]
 cases decide ((Y4 x.fW x.fH x.fD).1≤(Y4 t.fW t.fH t.fD).1) <;> cases decide ((Y4 x.fW x.fH x.fD).2.1≤(Y4 t.fW t.fH t.fD).2.1) <;> cases decide ((Y4 x.fW x.fH x.fD).2.2≤(Y4 t.fW t.fH t.fD).2.2) <;> rfl
theorem Zz {fu:Nat} {r:Request} (h:Sm fu r):EK fu r=some (B9 r):=by
 have J:=h.fu
 have Q:=h.items
 have T:=h.types
 have N:=h.pairs
 have L:HP fu r fu 0=some (bif r.fG.any (dQ r.fJ) then 6 else 0):=by
  refine lp r.fG (λn (_:Unit) i=>HP fu r n i) (λl _=>some (bif l.any (dQ r.fJ) then 6 else 0)) AC ?_ ?_ fu () AC
  · intro n s i x M E A D
    simp only [HP.eq_2]
    unfold Ut WU
    simp only [A,cond_true,E,AB,D (),List.any_cons,dQ]
    cases decide (x.fW>r.fJ.fW) <;> cases decide (x.fD>r.fJ.fD) <;> cases decide (x.fH>r.fJ.fH) <;> cases decide (AK (x.ff+x.fQ)>r.fJ.fQ) <;> rfl
  · intro n s i A
    simp only [HP.eq_2]
    unfold Ut
    simp only [A,cond_false]
    rfl
 unfold EK B9
 rw [ye h,AB,zJ h,AB,ya N AC AC,AB,lS h,AB]
 have O:JI fu r (WK (KB r r.fP)) fu 0=some (bif !(r.fU.all λx=>Yf x (VB r)) then 5 else bif r.fG.any (dQ r.fJ) then 6 else 0):=by
  refine lp r.fU (λn (_:Unit) i=>JI fu r (WK (KB r r.fP)) n i) (λl _=>some (bif !(l.all λx=>Yf x (VB r)) then 5 else bif r.fG.any (dQ r.fJ) then 6 else 0)) AC ?_ ?_ fu () AC
  · intro n s i x M E A D
    simp only [JI.eq_2]
    unfold Ue
    simp only [A,cond_true,E,AB,su J,D (),List.all_cons]
    rw [show (WK (KB r r.fP)).1=VB r from rfl]
    cases Yf x (VB r) <;> rfl
  · intro n s i A
    simp only [JI.eq_2]
    unfold Ue
    simp only [A,cond_false,L]
    rfl
 rw [O]
 cases Y6 r <;> cases dS r <;> cases i8 r.fT r.fR <;> rfl
theorem wq {fu:Nat} {r:Request} (h:Sm fu r):Vq fu r=some (B9 r):=by
 have E:=h.fu
 have D:=h.items
 have A:=h.types
 have J:=h.pairs
 unfold Vq B9
 rw [tF h,AB,yE h,AB,yL h,AB,zk J AC AC,AB]
 rw [ZT (λy=>UV fu y (WK (KB r r.fP)).1) (λx=>!Yf x (VB r)) (λx _=>by
  unfold UV
  rw [vQ,AB]; rfl) D AC,AB]
 rw [gv (λy=>U6 fu y r.fJ) (dQ r.fJ) (λx _=>by
  unfold U6 dQ
  cases decide (x.fW>r.fJ.fW) <;> cases decide (x.fD>r.fJ.fD) <;> cases decide (x.fH>r.fJ.fH) <;> rfl) A AC,AB]
 rw [show (r.fU.any λx=>!Yf x (VB r))=!(r.fU.all λx=>Yf x (VB r)) by simp [List.not_all_eq_any_not]]
 cases Y6 r <;> cases dS r <;> cases i8 r.fT r.fR <;> cases r.fU.all λx=>Yf x (VB r) <;> cases r.fG.any (dQ r.fJ) <;> rfl
theorem Xy {fu:Nat} {r:Request} (h:Sm fu r):FZ fu r=some (B9 r==0):=by
 unfold FZ
 rw [wq h]; rfl
theorem hU {σ α β:Type} (l:List α) (L:Nat→σ→Int→Option β) (F:List α→List α→σ→Option β) (I:List α→List α→σ→Prop) (hl:l.length≤1099511627776)
    (hs:∀ n s pre x A,l=pre++x::A→ix l (pre.length:Int)=some x→decide ((pre.length:Int)<(l.length:Int))=true→I pre (x::A) s→(∀ E,I (pre++[x]) A E→L n E (AK ((pre.length:Int)+1))=F (pre++[x]) A E)→L (n+1) s (pre.length:Int)=F pre (x::A) s)
    (he:∀ n s,decide ((l.length:Int)<(l.length:Int))=false→I l [] s→L (n+1) s (l.length:Int)=F l [] s):∀ n s,I [] l s→l.length<n→L n s 0=F [] l s:=by
 have N:∀ (A pre:List α) (n:Nat) (s:σ),l=pre++A→I pre A s→A.length<n→L n s (pre.length:Int)=F pre A s:=by
  intro A
  induction A with
  | nil =>
   intro pre n s D J M
   obtain ⟨n,rfl⟩:∃ k,n=k+1:=⟨n - 1,AC⟩
   simp only [List.append_nil] at D
   subst D
   exact he n s AD J
  | cons x A T =>
   intro pre n s D J M
   obtain ⟨n,rfl⟩:∃ k,n=k+1:=⟨n - 1,by simp at M; omega⟩
   have Q:l.length=pre.length+(A.length+1):=by rw [D]; simp
   refine hs n s pre x A D ?_ AJ J λE O=>?_
   · rw [EG,D]; simp
   · rw [YC _ AC]
     have:=T (pre++[x]) n E (by simp [D]) O (by simp at M; omega)
     simpa using this
 intro n s J M
 simpa using N l [] n s rfl J M
theorem ci {x:Item} (h:VV x=true):1≤x.f9∧x.f9≤6:=by
 simp only [VV,Bool.and_eq_true,BS] at h
 omega
theorem s2 {A:List Item} (h:∀ x∈A,VV x=true):0≤HW (A.map (·.f9)):=aW _ _ λx D=>by have:=ci (h x D); omega
theorem wS {fu:Nat} {r:Request} (h:Sm fu r) (Y:Y6 r=true):C9 fu r=some (tN r):=by
 have Aa:=h.fu
 obtain ⟨hi,hs,hl⟩:=PT Y
 have Q:∀ (k:List Int→Int→Option (List Int)) (i:Int) (x:Item),ix r.fU i=some x→∀ (m n:Nat) (c:Int) (out:List Int),0≤c→c≤x.f9→(x.f9 - c).toNat=m→x.f9≤6→m<n→out.length+m≤100 →
     I7 fu k r i n out c=k (out++List.replicate m i) (AK (i+1)):=by
  intro k i x J m
  induction m with
  | zero =>
   intro n c out Z V h2 O h4 h5
   obtain ⟨n,rfl⟩:∃ j,n=j+1:=⟨n - 1,AC⟩
   rw [I7.eq_2]
   unfold Q9
   rw [J,AB,AM AJ]
   simp
  | succ m L =>
   intro n c out Z V h2 O h4 h5
   obtain ⟨n,rfl⟩:∃ j,n=j+1:=⟨n - 1,AC⟩
   rw [I7.eq_2]
   unfold Q9
   rw [J,AB,AX AJ,KO AJ,AB,AU AC AC,L n (c+1) (out++[i]) AC AC AC O AC AJ]
   rw [List.append_assoc,List.singleton_append,← List.replicate_succ]
 unfold C9 tN
 have:=hU r.fU (λn out i=>FO fu r n out i) (λpre A out=>some (out++cj (pre.length:Int) A)) (λpre A out=>(out.length:Int)+HW (A.map (·.f9))≤12∧∀ x∈A,VV x=true) AC ?_ ?_ fu [] ⟨by simpa using hs,hi⟩ AC
 · simpa using this
 · intro n out pre x A U J N E L
   simp only [FO.eq_2]
   unfold Qx
   have hc:=ci (E.2 x AD)
   have D:=E.1
   have T:=s2 (λy M=>E.2 y (by simp [M]):∀ y∈A,VV y=true)
   simp only [List.map_cons,ED] at D
   have e:=Q (FO fu r n) (pre.length:Int) x J x.f9.toNat fu 0 out AC AC AC AC AC AC
   rw [N,cond_true,e,L _ ⟨AJ,λy M=>E.2 y (by simp [M])⟩]
   simp [cj]
 · intro n out N E
   simp only [FO.eq_2]
   unfold Qx
   simp only [N,cond_false]
   simp [cj]
theorem r9 {fu:Nat} {r:Request} (h:Sm fu r) (A:B9 r=0):C9 fu r=some (CP r):=by
 unfold CP
 rw [wS h (D4 A).1,AX (by simp [A])]
theorem yD {fu:Nat} {r:Request} (h:Sm fu r):Xu fu r=some (CP r):=by
 unfold Xu CP
 rw [Zz h,AB]
 by_cases A:B9 r=0
 · rw [AM (by simp [A]),wS h (D4 A).1,AB,AX (by simp [A])]
 · rw [AX (by simp [A]),AM (by simp [A])]
theorem zT (fu:Nat) (c:Int) (h:1≤c∧c≤6):ar fu (IntKind.wrap .u64 1) (IntKind.wrap .u64 c)=some (0,c):=by
 have:c=1∨c=2∨c=3∨c=4∨c=5∨c=6:=AC
 rcases this with rfl | rfl | rfl | rfl | rfl | rfl <;> rfl
theorem y6 (m:Nat) (i:Int):CG (m+10) [i] (0,1)=some (List.replicate 1 i):=AQ
theorem yI (m:Nat) (i:Int):CG (m+10) [i] (0,2)=some (List.replicate 2 i):=AQ
theorem y7 (m:Nat) (i:Int):CG (m+10) [i] (0,3)=some (List.replicate 3 i):=AQ
theorem za (m:Nat) (i:Int):CG (m+10) [i] (0,4)=some (List.replicate 4 i):=AQ
theorem yl (m:Nat) (i:Int):CG (m+10) [i] (0,5)=some (List.replicate 5 i):=AQ
theorem yJ (m:Nat) (i:Int):CG (m+10) [i] (0,6)=some (List.replicate 6 i):=AQ
theorem Qaa {fu:Nat} (A:10≤fu) (i c:Int) (h:1≤c∧c≤6):I8 fu [i] c=some (List.replicate c.toNat i):=by
 unfold I8 Kc
 rw [AM AJ]
 rw [show (([i]:List Int).length:Int)=1 from rfl,zT fu c h,AB,AM AD,AM AJ]
 obtain ⟨m,rfl⟩:∃ m,fu=m+10:=⟨fu - 10,AC⟩
 have:c=1∨c=2∨c=3∨c=4∨c=5∨c=6:=AC
 rcases this with rfl | rfl | rfl | rfl | rfl | rfl
 · exact y6 m i
 · exact yI m i
 · exact y7 m i
 · exact za m i
 · exact yl m i
 · exact yJ m i
theorem oh {fu:Nat} {r:Request} (h:Sm fu r):LV fu r=some (CP r):=by
 have V:=h.fu
 unfold LV CP
 rw [Xy h,AB]
 by_cases A:B9 r=0
 · obtain ⟨hi,U,hl⟩:=PT (D4 A).1
   rw [AM (by simp [A]),AX (by simp [A])]
   unfold tN
   have:=hU r.fU (λn out i=>KJ fu r n out i) (λpre D out=>some (out++cj (pre.length:Int) D)) (λpre D out=>(out.length:Int)+HW (D.map (·.f9))≤12∧∀ x∈D,VV x=true) AC ?_ ?_ fu [] ⟨by simpa using U,hi⟩ AC
   · simpa using this
   · intro n out pre x D Q T M J N
     simp only [KJ.eq_2]
     unfold Ui
     have A:=ci (J.2 x AD)
     have E:=J.1
     have O:=s2 (λy L=>J.2 y (by simp [L]):∀ y∈D,VV y=true)
     simp only [List.map_cons,ED] at E
     rw [M,cond_true,T,AB,Qaa AC _ _ A,AB,KO AJ,AB,N _ ⟨AJ,λy L=>J.2 y (by simp [L])⟩]
     simp [cj]
   · intro n out M J
     simp only [KJ.eq_2]
     unfold Ui
     simp only [M,cond_false]
     simp [cj]
 · rw [AX (by simp [A]),AM (by simp [A])]
theorem s3 {fu:Nat} {l:List Int} (hl:l.length≤1048576) (J:l.length<fu) (x:Int):PL fu l x=some (l.contains x):=by
 unfold PL
 refine lp l (λn (_:Unit) i=>KG fu l x n i) (λl _=>some (l.contains x)) AC ?_ ?_ fu () J
 · intro n s i y ys E A D
   simp only [KG.eq_2]
   unfold UX
   simp only [A,cond_true,E,AB,D (),List.contains_cons]
   rw [xF y x]
   cases x==y <;> rfl
 · intro n s i A
   simp only [KG.eq_2]
   unfold UX
   simp only [A,cond_false]
   rfl
theorem wj {fu:Nat} {l:List Int} (hl:l.length≤1048576) (D:l.length<fu) (x:Int):FH fu l x=some (l.contains x):=by
 unfold FH LU
 have:=UZ l (λn i=>D2 fu l x n i) (λy=>x==y) AC (by
  intro n i y E A
  simp only [D2.eq_2]
  unfold JT
  simp only [A,cond_true,E,AB]) (by
  intro n i A
  simp only [D2.eq_2]
  unfold JT
  simp only [A,cond_false]) fu D
 rw [this,AB,WE _ l 0 AC,List.contains_eq_any_beq]
theorem wG {fu:Nat} {p:List Pair} (L:p.length≤1048576) (A:p.length<fu) {g:List Int} (hl:g.length≤1048576) (M:g.length<fu) (c:Int):T5 fu p g c=some (g.all (VN p c)):=by
 unfold T5
 refine lp g (λn (_:Unit) i=>G9 fu p g c n i) (λl _=>some (l.all (VN p c))) AC ?_ ?_ fu () M
 · intro n s i y ys J D E
   simp only [G9.eq_2]
   unfold P7 Ud
   simp only [D,cond_true,J,AB,E (),wn L A,List.all_cons,VN]
   cases KW p y c <;> cases KW p c y <;> rfl
 · intro n s i D
   simp only [G9.eq_2]
   unfold P7
   simp only [D,cond_false]
   rfl
theorem yq {fu:Nat} {r:Request} (h:Sm fu r):UG fu r=some (XU r):=by
 have T:=h.fu
 have O:=h.items
 unfold UG XU
 rw [Zz h,AB]
 by_cases J:B9 r=0
 · rw [show (B9 r != 0)=false by simp [J],show (B9 r==0)=true by simp [J],cond_false,cond_true]
   have L:∀ (k:List Int→Int→Option (List Int)) (out:List Int) (c:Int),FU fu k r out c fu false 0=bif r.fU.any (λx=>x.fO==c) then (AA (BE 8 out [c]) λx=>k x (AK (c+1))) else k out (AK (c+1)):=by
    intro k out c
    refine lp r.fU (λn f i=>FU fu k r out c n f i) (λl f=>bif f||l.any (λx=>x.fO==c) then (AA (BE 8 out [c]) λx=>k x (AK (c+1))) else k out (AK (c+1))) AC ?_ ?_ fu false AC
    · intro n f i x D Q A E
      simp only [FU.eq_2]
      unfold Rs NJ
      simp only [A,cond_true,Q,AB,E,List.any_cons]
      cases f
      · rfl
      · rfl
    · intro n f i A
      simp only [FU.eq_2]
      unfold Rs NH
      simp only [A,cond_false,List.any_nil,Bool.or_false]
   have:=cD 4 (λn out i=>ES fu r n out i) (λD out=>some (out++D.filter λc=>r.fU.any λx=>x.fO==c)) (λD out=>out.length+D.length≤4) AC ?_ ?_ 4 fu [] 0 AC AC AC (by simp [BW])
   · simpa using this
   · intro n out i D U O A M E
     simp only [List.length_cons] at M
     simp only [ES.eq_2]
     unfold Qu
     simp only [A,cond_true,L]
     cases N:r.fU.any λx=>x.fO==i
     · rw [cond_false,E out AC]
       simp [N]
     · rw [cond_true,KO AJ,AB,E _ AJ]
       simp [N]
   · intro n out i A M
     simp only [ES.eq_2]
     unfold Qu
     simp only [A,cond_false]
     simp
 · rw [show (B9 r != 0)=true by simp [J],show (B9 r==0)=false by simp [J],cond_false,cond_true]
theorem pI {fu:Nat} {l:List Int} (hl:l.length≤1048576):∃ k,LS fu l=some k∧k.Pairwise (·<·)∧∀ x,x∈k↔x∈l:=by
 unfold LS D9 CL K3
 have A:=List.mergeSort_perm l (λx y=>decide (x≤y))
 have J:=PP l
 rw [KO AJ,AB,AB,List.nil_append]
 unfold bU
 rw [if_pos AC,AB]
 unfold uZ
 rw [if_pos (by rw [A.length_eq]; omega),AB]
 obtain ⟨E,D⟩:=gG _ J
 exact ⟨_,rfl,E,λx=>(D x).trans A.mem_iff⟩
theorem fp {fu:Nat} {l:List Int} (hl:l.length≤1048576) (E:l.Pairwise (·<·)):LS fu l=some l:=by
 obtain ⟨k,D,A,J⟩:=pI (fu:=fu) hl
 rw [D,nh A E J]
theorem zg {fu:Nat} {r:Request} (h:Sm fu r):U5 fu r=some (XU r):=by
 have V:=h.fu
 have M:=h.items
 unfold U5
 rw [Xy h,AB]
 by_cases A:B9 r=0
 · rw [show (B9 r==0)=true by simp [A],Bool.not_true,cond_false]
   have:=XB r.fU (λn out i=>I4 fu r n out i) (λD out=>AA (LS fu (out++D.map (·.fO))) λx=>some x) (λD out=>out.length+D.length≤1048576) AC ?_ ?_ fu [] (by simpa using M) AC
   · rw [List.nil_append] at this
     refine this.trans ?_
     obtain ⟨k,U,T,O⟩:=pI (fu:=fu) (l:=r.fU.map (·.fO)) (by simpa using M)
     rw [U,AB]
     congr 1
     refine nh T (X4 r) λx=>?_
     rw [O]
     unfold XU
     rw [show (B9 r==0)=true by simp [A],cond_true,List.mem_filter,CF,List.any_eq_true,List.mem_map]
     constructor
     · rintro ⟨y,E,rfl⟩
       have:=(PT (D4 A).1).1 y E
       simp only [VV,Bool.and_eq_true,BS] at this
       exact ⟨AC,y,E,AD⟩
     · rintro ⟨_,y,E,e⟩
       exact ⟨y,E,by simpa using e⟩
   · intro n out i x D Q J L N
     simp only [List.length_cons] at L
     simp only [I4.eq_2]
     unfold QI
     simp only [J,cond_true,Q,AB]
     rw [KO AJ,AB,N _ AJ]
     simp
   · intro n out i J L
     simp only [I4.eq_2]
     unfold QI
     simp only [J,cond_false]
     simp
 · rw [show (B9 r==0)=false by simp [A],Bool.not_false,cond_true]
   unfold XU
   rw [show (B9 r==0)=false by simp [A],cond_false]
theorem jU {α:Type} (g:α→Bool) (x:α):∀ (l:List α),TU g (l++[x])=match TU g l with | some i=>some i | none=>bif g x then some l.length else none
 | []=>by simp [TU]
 | y::ys=>by
  simp only [List.cons_append,TU]
  cases g y
  · simp only [cond_false]
    rw [jU g x ys]
    cases TU g ys <;> simp
    cases g x <;> simp
  · rfl
def zP {α:Type} (g:α→Bool) (l:List α) (i:Int):Bool:=match ix l i with | some x=>g x | none=>false
def lU {α:Type} (g:α→Bool) (l:List α) (a i:Int):Int:=bif zP g l i then i else a
theorem df {α:Type} (g:α→Bool) (l:List α):∀ (m:Nat) (a:Int),m≤l.length→(RN m).foldl (lU g l) a=match TU g (l.take m) with | some i=>(i:Int) | none=>a
 | 0,a,_=>by simp [RN,TU]
 | m+1,a,h=>by
  simp only [RN,List.foldl_cons]
  rw [df g l m _ AC,List.take_succ_eq_append_getElem AC,jU,List.length_take,Nat.min_eq_left AC]
  unfold lU zP
  rw [Xi AC]
  cases TU g (l.take m) with
  | some i=>rfl
  | none =>
   simp only
   cases g l[m] <;> rfl
theorem aM {α:Type} (g:α→Bool):∀ (l:List α) (i:Int),VX g l i=match TU g l with | some j=>i+j | none=>-1
 | [],i=>rfl
 | x::xs,i=>by
  simp only [VX,TU]
  cases g x
  · simp only [cond_false]
    rw [aM g xs (i+1)]
    cases TU g xs with
    | none=>rfl
    | some j =>
     show i+1+(j:Int)=i+((j+1:Nat):Int)
     omega
  · simp
theorem rI {p:List Pair} {out:List (List Int)} {c:Int} {n:Nat} (h:dP n out) (L:n≤1048576) {β:Type} (k:List (List Int)→Option β) (a:Int) (A:a=match TU (λg=>g.all (VN p c)) out with | some i=>(i:Int) | none=>-1) :
    (bif (decide (a<0)) then AA (BE 24 out [([c]:List Int)]) λx=>k x else AA (ix out a) λx=>AA (BE 8 x (([c]:List Int))) λy=>AA (ix out a) λz=>k (DB out a y))=k (Z2 p out c):=by
 obtain ⟨_,J⟩:=h
 unfold Z2
 cases D:TU (λg=>g.all (VN p c)) out with
 | none =>
  rw [D] at A
  simp only at A
  subst A
  rw [AX AD,KO AJ,AB]
 | some i =>
  rw [D] at A
  simp only at A
  subst A
  obtain ⟨x,E,_⟩:=Xv D
  have:=J x (List.mem_of_getElem? E)
  rw [AM AD,EG,E,AB,KO AJ,AB,AB]
  simp [DB,E]
theorem xM {fu:Nat} {p:List Pair} (h:p.length≤1048576) (Z:2097153≤fu) {l:List Int} (hl:l.length≤1048576):Wa fu p l=some (((BW 0 4).filter l.contains).foldl (Z2 p) []):=by
 unfold Wa
 have L:∀ (k:List (List Int)→Int→Option (List (List Int))) (out:List (List Int)) (c:Int),dP 4 out→GG fu k p out c fu (-1) (AK ((out.length:Int) - 1))=k (Z2 p out c) (AK (c+1)):=by
  intro k out c A
  obtain ⟨R,T⟩:∃ R:Int→Option (List (List Int)),R=λa=>bif (decide (a<0)) then AA (BE 24 out [([c]:List Int)]) λx=>k x (AK (c+1)) else AA (ix out a) λx=>AA (BE 8 x (([c]:List Int))) λy=>AA (ix out a) λz=>k (DB out a y) (AK (c+1)):=⟨_,rfl⟩
  have:=lpD out.length (λn a i=>GG fu k p out c n a i) (λD a=>R (D.foldl (lU (λg=>g.all (VN p c)) out) a)) (by have:=A.1; omega) ?_ ?_ fu (-1) (by have:=A.1; omega)
  · rw [this,T]
    refine rI (p:=p) A AC (λx=>k x (AK (c+1))) _ ?_
    rw [df (λg=>g.all (VN p c)) out out.length (-1) (Nat.le_refl _),List.take_length]
  · intro n a i D Y U E J
    simp only [GG.eq_2]
    unfold SM PB
    obtain ⟨j,rfl⟩:∃ j:Nat,i=j:=⟨i.toNat,AC⟩
    have M:j<out.length:=AC
    have Q:=A.2 _ (List.getElem_mem M)
    simp only [E,cond_true,Xi M,AB,wG h AC (show out[j].length≤1048576 by omega) (show out[j].length<fu by omega),J,List.foldl_cons]
    have e:lU (λg=>g.all (VN p c)) out a (j:Int)=bif out[j].all (VN p c) then (j:Int) else a:=by unfold lU zP; rw [Xi M]
    rw [e]
    cases out[j].all (VN p c) <;> rfl
  · intro n a i E
    simp only [GG.eq_2]
    unfold SM JZ
    simp only [E,cond_false,List.foldl_nil,T]
 have:=cD 4 (λn out i=>FF fu p l n out i) (λD out=>some ((D.filter l.contains).foldl (Z2 p) out)) (λD out=>∃ m,m+D.length≤4∧dP m out) AC ?_ ?_ 4 fu [] 0 AC AC AC ⟨0,by simp [BW],AD,AD⟩
 · exact this
 · intro n out i D Y U E N J
   obtain ⟨m,V,A⟩:=N
   simp only [List.length_cons] at V
   simp only [FF.eq_2]
   unfold Tu JZ
   simp only [E,cond_true,s3 hl (show l.length<fu by omega),AB]
   cases O:l.contains i
   · rw [Bool.not_false,cond_true,J out ⟨m,AC,A⟩,List.filter_cons_of_neg (by rw [O]; simp)]
   · rw [Bool.not_true,cond_false,L _ out i ⟨by have:=A.1; omega,λg Q=>by have:=A.2 g Q; omega⟩,J _ ⟨m+1,AC,kb i A⟩,List.filter_cons_of_pos O,List.foldl_cons]
 · intro n out i E N
   simp only [FF.eq_2]
   unfold Tu
   simp only [E,cond_false]
   simp
theorem m6 (r:Request):(BW 0 4).filter (XU r).contains=XU r :=
 nh ((Xx 0 4).filter _) (X4 r) λx=>by
  rw [List.mem_filter,CF]
  constructor
  · rintro ⟨_,h⟩; simpa using h
  · intro h; have:=mT h; exact ⟨AC,by simpa using h⟩
theorem oG {fu:Nat} {r:Request} (h:Sm fu r):JH fu r=some (CD r):=by
 unfold JH CD
 rw [yq h,AB,xM h.pairs h.fu (by have:=gO r; omega),AB,m6]
theorem yO {fu:Nat} {p:List Pair} (D:p.length≤1048576) (A:p.length<fu) (a b:Int):Wq fu p a b=some (VN p a b):=by
 unfold Wq VN
 simp only [s8 D A,AB]
 cases KW p a b <;> rfl
theorem mA {fu:Nat} {l:List Int} (f:Int→Option Bool) (g:Int→Bool) (E:∀ x∈l,f x=some (g x)) (hl:l.length≤1048576) (J:l.length<fu):E1 fu l f=some (VX g l 0):=by
 unfold E1
 refine UZ l (λn i=>DE fu l f n i) g AC ?_ ?_ fu J
 · intro n i x D A
   simp only [DE.eq_2]
   unfold HS
   simp only [A,cond_true,D,AB,E x (C8 D)]
 · intro n i A
   simp only [DE.eq_2]
   unfold HS
   simp only [A,cond_false]
theorem lL {fu:Nat} {l:List Int} (f:Int→Option Bool) (g:Int→Bool) (A:∀ x∈l,f x=some (g x)) (hl:l.length≤1048576) (D:l.length<fu):D1 fu l f=some (l.any g):=by
 unfold D1
 rw [mA f g A hl D,AB,WE g l 0 AC]
theorem jS {fu:Nat} {l:List (List Int)} (f:List Int→Option Bool) (g:List Int→Bool) (E:∀ x∈l,f x=some (g x)) (hl:l.length≤1048576) (J:l.length<fu):EU fu l f=some (VX g l 0):=by
 unfold EU
 refine UZ l (λn i=>CZ fu l f n i) g AC ?_ ?_ fu J
 · intro n i x D A
   simp only [CZ.eq_2]
   unfold GU
   simp only [A,cond_true,D,AB,E x (C8 D)]
 · intro n i A
   simp only [CZ.eq_2]
   unfold GU
   simp only [A,cond_false]
theorem xG {fu:Nat} {p:List Pair} (h:p.length≤1048576) (Z:2097153≤fu) {l:List Int} (hl:l.length≤4) (Y:l.Pairwise (·<·)) (E:∀ c∈l,0≤c∧c<4):Wl fu p l=some (l.foldl (Z2 p) []):=by
 unfold Wl
 rw [fp AC Y,AB]
 have:=XB l (λn out i=>GJ fu p l n out i) (λA out=>some (A.foldl (Z2 p) out)) (λA out=>(∃ m,m+A.length≤4∧dP m out)∧∀ c∈A,0≤c∧c<4) AC ?_ ?_ fu [] ⟨⟨0,by simpa using hl,AD,AD⟩,E⟩ AC
 · exact this
 · intro n out i c A T J M N
   obtain ⟨⟨m,E,D⟩,L⟩:=M
   simp only [List.length_cons] at E
   have O:=L c AD
   simp only [GJ.eq_2]
   unfold Tz LF
   simp only [J,cond_true,T,AB,Yy]
   rw [show CW c 0 3=true by simp; omega,Bool.not_true,cond_false]
   rw [jS (λy=>SA fu y p c) (λg=>g.all (VN p c)) (λg V=>by
    have Q:=D.2 g V
    unfold SA
    rw [lL (λy=>NB fu y p c) (λx=>!VN p c x) (λx _=>by
     unfold NB
     rw [yO h AC,AB]) AC AC,AB]
    simp [List.any_eq_not_all_not]) (by have:=D.1; omega) (by have:=D.1; omega),AB]
   rw [rI (p:=p) D AC (λx=>GJ fu p l n x (AK (i+1))) (VX (λg=>g.all (VN p c)) out 0) (by
    rw [aM]
    cases TU (λg=>g.all (VN p c)) out <;> simp)]
   rw [N _ ⟨⟨m+1,AC,kb c D⟩,λy U=>L y (by simp [U])⟩]
   rfl
 · intro n out i J M
   simp only [GJ.eq_2]
   unfold Tz
   simp only [J,cond_false]
   rfl
theorem pe {fu:Nat} {r:Request} (h:Sm fu r):JG fu r=some (CD r):=by
 unfold JG
 rw [Xy h,AB]
 by_cases A:B9 r=0
 · rw [show (B9 r==0)=true by simp [A],Bool.not_true,cond_false,zg h,AB,xG h.pairs h.fu (gO r) (X4 r) (λc A=>mT A),AB]
   rfl
 · rw [show (B9 r==0)=false by simp [A],Bool.not_false,cond_true]
   unfold CD XU
   rw [show (B9 r==0)=false by simp [A],cond_false]
   rfl
theorem oQ (r:Request):AK (((CD r).length:Int) - 1)=((CD r).length:Int) - 1:=by
 have:=(R5 r).1
 exact AU AC AC
theorem mF {fu:Nat} (n:Nat) (M:n≤1048576) (L:n<fu):RJ fu (n:Int)=some (BW 0 n):=by
 unfold RJ
 have:=cD (n:Int) (λk out i=>J5 fu (n:Int) k out i) (λA out=>some (out++A)) (λA out=>out.length+A.length≤1048576) AC ?_ ?_ n fu [] 0 AC AC L (by simpa [B5] using M)
 · simpa using this
 · intro k out i A N O D E J
   simp only [List.length_cons] at E
   simp only [J5.eq_2]
   unfold SR
   rw [D,cond_true,KO AJ,AB,J _ AJ]
   simp
 · intro k out i D E
   simp only [J5.eq_2]
   unfold SR
   simp only [D,cond_false]
   simp
theorem oU {α:Type} (g:α→Bool):∀ (l pre:List α),(VX g l pre.length=-1∧∀ x∈l,g x=false)∨(∃ a x b,l=a++x::b∧(∀ y∈a,g y=false)∧g x=true∧VX g l pre.length=((pre.length+a.length:Nat):Int))
 | [],pre=>.inl ⟨rfl,AD⟩
 | x::xs,pre=>by
  simp only [VX]
  by_cases J:g x=true
  · rw [J,cond_true]; exact .inr ⟨[],x,xs,rfl,AD,J,AD⟩
  · have A:g x=false:=by simpa using J
    rw [A,cond_false]
    have:=oU g xs (pre++[x])
    simp only [List.length_append,List.length_singleton] at this
    rw [show ((pre.length+1:Nat):Int)=(pre.length:Int)+1 by omega] at this
    rcases this with ⟨D,E⟩ | ⟨a,y,b,D,E,M,L⟩
    · exact .inl ⟨D,by simpa [A] using E⟩
    · exact .inr ⟨x::a,y,b,by simp [D],by simpa [A] using E,M,by rw [L]; simp; omega⟩
theorem yh {fu:Nat} {l:List Int} (f:Int→Option Bool) (g:Int→Bool) (hg:∀ x∈l,f x=some (g x)) (hl:l.length≤1048576) (hf:l.length<fu):GN fu l f=some (l.filter λx=>!g x):=by
 unfold GN
 rw [mA f g hg hl hf,AB]
 have hp:=oU g l []
 simp only [List.length_nil,Nat.zero_add] at hp
 rcases hp with ⟨M,T⟩ | ⟨a,x,b,M,T,h3,h4⟩
 · have Q:VX g l 0=-1:=M
   rw [Q,AX AD]
   congr 1
   exact (List.filter_eq_self.2 λy V=>by simp [T y V]).symm
 · have Y:VX g l 0=(a.length:Int):=h4
   rw [Y,AM AD]
   have U:∀ (rest A D pre:List Int) (n:Nat),l=pre++rest→A=pre.filter (λx=>!g x)→D≠[]→A.length+D.length=pre.length→rest.length<n →
       CB fu f n (A++D++rest) (A.length:Int) (pre.length:Int)=some (l.filter λx=>!g x):=by
    intro rest
    induction rest with
    | nil =>
     intro A D pre n J O e3 e4 Z
     obtain ⟨n,rfl⟩:∃ j,n=j+1:=⟨n - 1,AC⟩
     rw [CB.eq_2]
     unfold GZ
     simp only [List.append_nil] at *
     subst J
     rw [AM AJ,N6 ⟨AC,AJ,AC⟩,AB,N6 ⟨AC,AC,by simp [Z1]; omega⟩,AB]
     rw [← O]
     simp [Z1]
    | cons y rest e =>
     intro A D pre n J O e3 e4 Z
     obtain ⟨n,rfl⟩:∃ j,n=j+1:=⟨n - 1,by simp at Z; omega⟩
     have N:l.length=pre.length+(rest.length+1):=by rw [J]; simp
     have h:y∈l:=by rw [J]; simp
     obtain ⟨m,E,rfl⟩:∃ m E,D=m::E:=by
      cases D with
      | nil=>exact absurd rfl e3
      | cons m E=>exact ⟨m,E,rfl⟩
     simp only [List.length_cons] at e4 Z
     have hx:ix (A++(m::E)++y::rest) (pre.length:Int)=some y:=by
      rw [EG,List.getElem?_append_right AJ]
      simp only [List.length_append,List.length_cons]
      rw [show pre.length - (A.length+(E.length+1))=0 by omega]; rfl
     have hk:ix (A++(m::E)++y::rest) (A.length:Int)=some m:=by
      rw [EG]; simp
     rw [CB.eq_2]
     unfold GZ FE
     rw [AX AJ,hx,AB,hg y h,AB]
     cases L:g y
     · rw [Bool.not_false,cond_true,hk,AB,YC _ AC,YC _ AC]
       have e5:DB (A++(m::E)++y::rest) (A.length:Int) y=(A++[y])++(E++[y])++rest:=by simp [DB]
       rw [e5]
       have:=e (A++[y]) (E++[y]) (pre++[y]) n (by simp [J]) (by rw [O,List.filter_append]; simp [L]) AD AJ AC
       simp only [List.length_append,List.length_singleton] at this
       exact this
     · rw [Bool.not_true,cond_false,YC _ AC]
       have:=e A ((m::E)++[y]) (pre++[y]) n (by simp [J]) (by rw [O,List.filter_append]; simp [L]) AD AJ AC
       simp only [List.length_append,List.length_singleton] at this
       rw [show A++(m::E)++y::rest=A++((m::E)++[y])++rest by simp]
       exact this
   have N:l.length=a.length+(b.length+1):=by rw [M]; simp
   have ha:a.filter (λx=>!g x)=a:=List.filter_eq_self.2 λy V=>by simp [T y V]
   have:=U b a [x] (a++[x]) fu (by simp [M]) (by rw [List.filter_append,ha]; simp [h3]) AD AD AC
   rw [YC _ AC]
   simp only [List.length_append,List.length_singleton] at this
   rw [show a++[x]++b=l by simp [M]] at this
   exact this
def ca (keys:List Int) (p:Int):Int:=- kf keys p
theorem tw {fu:Nat} {keys:List Int} (A:2097153≤fu) (hl:keys.length≤1048576):JE fu keys=some (jt (ca keys) keys.length):=by
 unfold JE OY
 rw [mg keys.length hl AC,AB]
 obtain ⟨m,rfl⟩:∃ m,fu=m+1:=⟨fu - 1,AC⟩
 rw [kq true A m _ (by rw [B5]; omega) (by rw [B5]; omega) (λp D=>by have:=CF.1 D; omega),AB]
 congr 1
 have e:dk keys true=ca keys:=rfl
 rw [e]
 exact gR (UO _ _ _) (XX _ _ _ (by rw [B5]; omega) (Xx _ _))
def Ye (k:Int→Int) (x:Int):List Int→List Int→List Int
 | [],mid=>x::mid
 | y::ys,mid=>if k x<k y then Ye k x ys (y::mid) else (y::ys).reverse++x::mid
theorem cU (k:Int→Int) (x:Int):∀ (ys A:List Int),(Ye k x ys A).Perm (ys.reverse++x::A)
 | [],A=>List.Perm.refl _
 | y::ys,A=>by
  unfold Ye
  split
  · refine (cU k x ys (y::A)).trans ?_
    rw [List.reverse_cons,List.append_assoc]
    refine List.Perm.append_left _ ?_
    exact List.Perm.swap _ _ _
  · exact List.Perm.refl _
theorem dq (k:Int→Int) (x:Int):∀ (ys D:List Int),(ys.reverse++D).Pairwise (lx k)→(∀ m∈D,lx k x m)→(∀ p∈ys,p<x)→(Ye k x ys D).Pairwise (lx k)
 | [],D,h,hm,_=>by
  unfold Ye
  exact List.pairwise_cons.2 ⟨hm,by simpa using h⟩
 | y::ys,D,h,hm,hy=>by
  unfold Ye
  rw [List.reverse_cons,List.append_assoc] at h
  split
  · rename_i Q
    refine dq k x ys (y::D) (by simpa using h) ?_ (λp Z=>hy p (by simp [Z]))
    intro m A
    rcases List.mem_cons.1 A with rfl | A
    · exact .inl Q
    · exact hm m A
  · rename_i Q
    have E:lx k y x:=by
     have:=hy y AD
     by_cases U:k y<k x
     · exact .inl U
     · exact .inr ⟨AC,this⟩
    rw [List.reverse_cons,List.append_assoc]
    obtain ⟨T,N,M⟩:=List.pairwise_append.1 h
    simp only [List.singleton_append] at N M
    refine List.pairwise_append.2 ⟨T,?_,?_⟩
    · simp only [List.singleton_append]
      obtain ⟨Y,V⟩:=List.pairwise_cons.1 N
      refine List.pairwise_cons.2 ⟨?_,List.pairwise_cons.2 ⟨hm,V⟩⟩
      intro m A
      rcases List.mem_cons.1 A with rfl | A
      · exact E
      · exact Y m A
    · intro a O b L
      simp only [List.singleton_append,List.mem_cons] at L
      have J:=M a O y AD
      rcases L with rfl | rfl | L
      · exact J
      · exact tI J E
      · exact M a O b (by simp [L])
theorem mD (k:Int→Int) (x:Int):∀ (ys A rest:List Int),Ye k x ys (A++rest)=Ye k x ys A++rest
 | [],A,rest=>rfl
 | y::ys,A,rest=>by
  unfold Ye
  split
  · exact mD k x ys (y::A) rest
  · simp
theorem xw {A:List Int} {y:Int} {B:List Int} {n:Nat} (h:A.length=n):ix (A++y::B) (n:Int)=some y:=by subst h; rw [EG]; simp
theorem r8 {A:List Int} {y z:Int} {B:List Int} {n:Nat} (h:A.length=n):DB (A++y::B) (n:Int) z=A++z::B:=by subst h; simp [DB]
theorem lA {fu:Nat} {f:Int→Int→Option Int} {k:Int→Int} (M:List Int→Int→Option (List Int)) (J:Int) (L:∀ a b c,f a b=some c→(c<0↔k a<k b)) (x:Int) :
    ∀ (ys A:List Int) (n:Nat),(∀ p∈ys,∃ c,f x p=some c)→ys.length<n→ys.length≤1048576→BP fu M 0 f J n (ys.reverse++x::A) (ys.length:Int)=M (Ye k x ys A) (AK (J+1))
 | [],A,n,_,hn,_=>by
  obtain ⟨n,rfl⟩:∃ j,n=j+1:=⟨n - 1,AC⟩
  rw [BP.eq_2]
  unfold E5 Ye
  rw [AM AD]; rfl
 | y::ys,A,n,hy,hn,hl=>by
  simp only [List.length_cons] at hn hl
  obtain ⟨n,rfl⟩:∃ j,n=j+1:=⟨n - 1,AC⟩
  obtain ⟨c,E⟩:=hy y AD
  have N:AK (((y::ys).length:Int) - 1)=(ys.length:Int):=by simp only [List.length_cons]; rw [AU AC AC]; omega
  have Z:(y::ys).reverse++x::A=ys.reverse++y::x::A:=AD
  have Q:ix ((y::ys).reverse++x::A) ((y::ys).length:Int)=some x:=xw AD
  have O:ix ((y::ys).reverse++x::A) (ys.length:Int)=some y:=by rw [Z]; exact xw AD
  rw [BP.eq_2]
  unfold E5 Ye
  rw [AX AD,Q,AB,N,O,AB,E,AB]
  by_cases D:k x<k y
  · rw [if_pos D,decide_eq_true ((L _ _ _ E).2 D),cond_true]
    unfold FJ
    have U:DB ((y::ys).reverse++x::A) ((y::ys).length:Int) y=(y::ys).reverse++y::A:=r8 AD
    have T:ix ((y::ys).reverse++y::A) (ys.length:Int)=some y:=by rw [show (y::ys).reverse++y::A=ys.reverse++y::y::A by simp]; exact xw AD
    have V:DB ((y::ys).reverse++y::A) (ys.length:Int) x=ys.reverse++x::y::A:=by rw [show (y::ys).reverse++y::A=ys.reverse++y::y::A by simp]; exact r8 AD
    rw [N,O,AB,Q,AB,AB,U,T,AB,V]
    exact lA M J L x ys (y::A) n (λp Y=>hy p (by simp [Y])) AC AC
  · rw [if_neg D,decide_eq_false (λh=>D ((L _ _ _ E).1 h)),cond_false]
def nE (k:Int→Int):List Int→List Int→List Int
 | P,[]=>P
 | P,x::xs=>nE k (Ye k x P.reverse []) xs
theorem jQ (k:Int→Int):∀ (A P:List Int),P.Pairwise (lx k)→(∀ p∈P,∀ x∈A,p<x)→A.Pairwise (·<·)→(nE k P A).Perm (P++A)∧(nE k P A).Pairwise (lx k)
 | [],P,h,_,_=>by simpa [nE] using h
 | x::A,P,h,hp,hx=>by
  obtain ⟨O,N⟩:=List.pairwise_cons.1 hx
  have Q:(Ye k x P.reverse []).Pairwise (lx k):=dq k x P.reverse [] (by simpa using h) AD (λp D=>hp p (by simpa using D) x AD)
  have E:(Ye k x P.reverse []).Perm (P++[x]):=by simpa using cU k x P.reverse []
  have M:=jQ k A (Ye k x P.reverse []) Q (λp D y L=>by
   rcases List.mem_append.1 (E.mem_iff.1 D) with J | J
   · exact hp p J y (by simp [L])
   · rw [List.mem_singleton.1 J]; exact O y L) N
  refine ⟨?_,M.2⟩
  unfold nE
  refine M.1.trans ?_
  refine (E.append_right A).trans ?_
  simp
theorem oB {fu:Nat} {f:Int→Int→Option Int} {k:Int→Int} (Q:2097153≤fu) (V:∀ a b c,f a b=some c→(c<0↔k a<k b)) {n:Nat} (Z:n≤1048576) (N:∀ a b:Int,0≤a→a<n→0≤b→b<n→∃ c,f a b=some c) :
    ∀ (A P:List Int) (m:Nat),A.length<m→P.length+A.length=n→(∀ p∈P++A,0≤p∧p<n)→A7 fu 0 (n:Int) f m (P++A) (P.length:Int)=some (nE k P A)
 | [],P,m,hm,hl,_=>by
  obtain ⟨m,rfl⟩:∃ j,m=j+1:=⟨m - 1,AC⟩
  simp only [List.length_nil] at hl
  rw [A7.eq_2]
  unfold DL
  rw [AM AJ]; simp [nE]
 | x::A,P,m,hm,hl,hp=>by
  simp only [List.length_cons] at hl hm
  obtain ⟨m,rfl⟩:∃ j,m=j+1:=⟨m - 1,AC⟩
  rw [A7.eq_2]
  unfold DL
  rw [AX AJ]
  have J:=lA (fu:=fu) (f:=f) (k:=k) (A7 fu 0 (n:Int) f m) (P.length:Int) V x P.reverse A fu (λp D=>by
   have U:=hp p (by simp at D; simp [D])
   have Y:=hp x AD
   exact N x p Y.1 Y.2 U.1 U.2) AJ AJ
  rw [List.reverse_reverse,List.length_reverse] at J
  rw [J,YC _ AC]
  have e:Ye k x P.reverse A=Ye k x P.reverse []++A:=by
   have:=mD k x P.reverse [] A
   simpa using this
  have L:(Ye k x P.reverse []).Perm (P++[x]):=by simpa using cU k x P.reverse []
  have M:(Ye k x P.reverse []).length=P.length+1:=by rw [L.length_eq]; simp
  rw [e]
  have T:=oB Q V Z N A (Ye k x P.reverse []) m AC AC (λp D=>by
   rcases List.mem_append.1 D with O | O
   · rcases List.mem_append.1 (L.mem_iff.1 O) with E | E
     · exact hp p (by simp [E])
     · exact hp p (by rw [List.mem_singleton.1 E]; simp)
   · exact hp p (by simp [O]))
  rw [M] at T
  rw [T]; rfl
theorem yb (fu:Nat) (a b:Int):∃ c,Ub fu a b=some c∧(c<0↔a<b):=by
 unfold Ub
 by_cases h:a<b
 · exact ⟨-1,by simp [h],by simp [h]⟩
 · by_cases A:a>b
   · exact ⟨1,by simp [h,A],by simp [h]⟩
   · exact ⟨0,by simp [h,A],by simp [h]⟩
theorem sW {fu:Nat} {keys:List Int} (O:2097153≤fu) (hl:keys.length<20):JD fu keys=some (jt (ca keys) keys.length):=by
 unfold JD HR KD
 rw [mF _ AC AC,AB]
 obtain ⟨f,E⟩:∃ f:Int→Int→Option Int,f=λa b=>G7 fu a b keys:=⟨_,rfl⟩
 have D:∀ a b:Int,0≤a→a<keys.length→0≤b→b<keys.length→∃ c,f a b=some c∧(c<0↔ca keys a<ca keys b):=by
  intro a b M T hb U
  obtain ⟨c,A,J⟩:=yb fu (kf keys b) (kf keys a)
  refine ⟨c,?_,?_⟩
  · rw [E]
    show G7 fu a b keys=_
    unfold G7
    rw [gb ⟨hb,U⟩,AB,gb ⟨M,T⟩,AB,A,AB]
  · rw [J]; unfold ca; omega
 have hf:∀ a b c,f a b=some c→(c<0↔ca keys a<ca keys b):=by
  intro a b c h
  have h0:=h
  rw [E] at h
  change G7 fu a b keys=_ at h
  unfold G7 at h
  obtain ⟨x,N,h⟩:=XM h
  obtain ⟨y,hy,h⟩:=XM h
  obtain ⟨b0,b1,_⟩:=AG N
  obtain ⟨V,a1,_⟩:=AG hy
  obtain ⟨d,A,J⟩:=D a b V a1 b0 b1
  rw [h0] at A
  cases A
  exact J
 have M:=oB (fu:=fu) (f:=f) (k:=ca keys) O hf (n:=keys.length) AC (λa b A J Z h4=>by obtain ⟨c,h,_⟩:=D a b A J Z h4; exact ⟨c,h⟩)
 have Y:DG fu (BW 0 keys.length) 0 ((BW 0 keys.length).length:Int) f=some (jt (ca keys) keys.length):=by
  unfold DG
  rw [B5,show AK ((0:Int)+1)=1 by rw [AU AC AC]; rfl]
  cases hk:keys.length with
  | zero =>
   obtain ⟨m,rfl⟩:∃ m,fu=m+1:=⟨fu - 1,AC⟩
   rw [A7.eq_2]
   unfold DL
   rw [AM AD]; rfl
  | succ n =>
   rw [hk] at M
   have:=M (BW 1 n) [0] fu (by rw [B5]; omega) (by rw [B5]; simp; omega) (λp Q=>by
    have:p∈BW 0 (n+1):=Q
    have:=CF.1 this
    omega)
   have e:BW 0 (n+1)=[0]++BW 1 n:=rfl
   rw [e]
   have A:(([0]:List Int).length:Int)=1:=rfl
   rw [A] at this
   rw [this]
   congr 1
   have L:=jQ (ca keys) (BW 1 n) [0] AD (λp Q x N=>by
    have:=CF.1 N
    rw [List.mem_singleton.1 Q]; omega) (Xx _ _)
   exact gR L.1 L.2
 obtain ⟨m,rfl⟩:∃ m,fu=m+1:=⟨fu - 1,AC⟩
 rw [FR.eq_2]
 unfold K5
 rw [AM (by rw [B5]; simp; omega)]
 rw [← E,Y,AB,DD.eq_2]
 unfold K6
 rw [AM (by rw [B5]; simp; omega)]
 rfl
theorem yU {w h d:Int} (D:(CW w 0 2000&&(CW h 0 2000&&CW d 0 2000))=true):AK ((AK (w*h))*d)=w*h*d:=by
 simp only [Bool.and_eq_true,BS] at D
 obtain ⟨⟨L,J⟩,⟨E,M⟩,A,N⟩:=D
 have Q:0≤w*h:=Int.mul_nonneg L E
 have O:w*h≤2000*2000:=Int.mul_le_mul J M E AC
 have T:0≤w*h*d:=Int.mul_nonneg Q A
 have U:w*h*d≤2000*2000*2000:=Int.mul_le_mul O N A AC
 rw [AU (n:=w*h) AC AC,AU AC AC]
theorem sA (fu:Nat) (w h d:Int):MP fu w h d=some (cY w h d):=by
 unfold MP VR cY
 simp only [X2,AB]
 cases D:CW w 0 2000 <;> cases A:CW h 0 2000 <;> cases E:CW d 0 2000 <;> simp only [Bool.not_true,Bool.not_false,cond_true,cond_false,Bool.and_true,Bool.and_false]
 rw [yU (by simp only [D,A,E]; rfl)]
theorem vE (fu:Nat) (w h d:Int):RB fu w h d=some (cY w h d):=by
 unfold RB VI cY
 simp only [Yy,AB]
 cases D:CW w 0 2000 <;> cases A:CW h 0 2000 <;> cases E:CW d 0 2000 <;> simp only [Bool.not_true,Bool.not_false,cond_true,cond_false,Bool.and_true,Bool.and_false]
 rw [yU (by simp only [D,A,E]; rfl)]
def LJ (r:Request) (u:Int):Item:=(XR r u).getD jB
theorem eJ (r:Request):AK (((CP r).length:Int) - 1)=((CP r).length:Int) - 1:=by
 have:=YD r
 exact AU AC AC
theorem kv (fu:Nat) (r:Request) (u:Int):K4 fu r (CP r) u=some (LJ r u,(XR r u).isSome):=by
 unfold K4 LJ
 rw [eJ,X2,AB]
 by_cases h:0≤u∧u<(CP r).length
 · obtain ⟨i,x,D,A,E⟩:=kT h
   rw [AM AJ,D,AB,A,AB,E]
   rfl
 · rw [AX (by simp [CW]; omega),gr h]
   rfl
theorem tl:iz jB=0:=by simp [iz,cY,jB]
theorem eV {fu:Nat} {r:Request} (h:Sm fu r) (us:List Int) (hl:us.length≤1048576) (O:us.length<fu):J9 fu r us=some (WH r us):=by
 unfold J9
 rw [oh h,AB]
 have A:=XB us (λn s i=>G6 fu r us (CP r) n s i) (λl out=>some (out++WH r l)) (λl out=>out.length+l.length≤1048576) AC ?_ ?_ fu [] (by simpa using hl) O
 · simpa using A
 · intro n s i x U Q D L E
   simp only [G6.eq_2]
   unfold P1 NT
   simp only [D,cond_true,Q,AB,eJ,Yy]
   simp only [List.length_cons] at L
   by_cases J:0≤x∧x<(CP r).length
   · obtain ⟨_,y,N,T,M⟩:=kT J
     rw [AX AJ,N,AB,T,AB,KO AJ,AB,E _ AJ]
     simp [WH,List.filterMap_cons,M]
   · rw [AM (by simp [CW]; omega),E _ AC]
     simp [WH,List.filterMap_cons,gr J]
 · intro n s i D _
   simp only [G6.eq_2]
   unfold P1
   simp only [D,cond_false]
   simp [WH]
theorem nZ {fu:Nat} {r:Request} (h:Sm fu r) (us:List Int) (hl:us.length≤1048576) (M:us.length<fu):MI fu r us=some (Vx r us):=by
 unfold MI
 rw [eV h us hl M,AB]
 have E:=Zh r us
 have A:=XB (WH r us) (λn s i=>IM fu (WH r us) n s i) (λl n=>some (n+HW (l.map iz))) (λl n=>0≤n∧n+8000000000*l.length≤8000000000*1048576) AC ?_ ?_ fu 0 ⟨AC,AC⟩ AC
 · simpa [Vx] using A
 · intro n s i x Q N D L J
   simp only [IM.eq_2]
   unfold N3
   simp only [D,cond_true,N,AB,vE]
   have T:=om x.fW x.fH x.fD
   have O:=L.2
   simp only [List.length_cons] at O
   rw [AU AC AC,J _ ⟨AC,AC⟩]
   simp only [List.map_cons,ED,iz]
   congr 1
   omega
 · intro n s i D _
   simp only [IM.eq_2]
   unfold N3
   simp only [D,cond_false]
   simp
end Go.Proofs.YtdgpkmgnjdpieaaGreatDoor
