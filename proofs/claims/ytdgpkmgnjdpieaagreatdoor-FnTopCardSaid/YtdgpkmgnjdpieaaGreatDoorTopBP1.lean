/- TopBP: plain lemmas,.. -/
import Derived.Test.YtdgpkmgnjdpieaaGreatDoorTopBD
import Derived.Test.YtdgpkmgnjdpieaaGreatDoorM2
set_option linter.unusedSimpArgs false
set_option linter.unusedVariables false
namespace Go.Proofs.YtdgpkmgnjdpieaaGreatDoor
open Go
open Enc (rd ow)
open Arg (argv)
open Ret (retv)
open Wf (wf)
theorem mj {fu:Nat} (n:Nat) (M:n≤1048576) (L:n<fu):ML fu (n:Int)=some (BW 0 n):=by
 unfold ML
 have A:∀ (m i k:Nat),n - i=m→i≤n→m<k→H6 fu (n:Int) k (BW 0 i) (i:Int)=some (BW 0 n):=by
  intro m
  induction m with
  | zero =>
   intro i k J hi D
   obtain ⟨k,rfl⟩:∃ j,k=j+1:=⟨k - 1,AC⟩
   have:i=n:=AC
   subst this
   rw [H6.eq_2]
   unfold OH
   simp
  | succ m E =>
   intro i k J hi D
   obtain ⟨k,rfl⟩:∃ j,k=j+1:=⟨k - 1,AC⟩
   rw [H6.eq_2]
   unfold OH
   rw [AX AJ,KU (by rw [B5]; simp; omega),AB,Yk i AC]
   have e:=qB 0 i
   rw [Int.zero_add] at e
   rw [← e]
   exact E (i+1) k AC AC AC
 exact A n 0 fu AC AC L
def dk (keys:List Int) (RH:Bool) (p:Int):Int:=bif RH then - kf keys p else kf keys p
theorem gV {keys:List Int} {p:Int} (h:0≤p∧p<keys.length):ix keys p=some (kf keys p):=by
 have A:p.toNat<keys.length:=AC
 unfold kf ix
 rw [if_pos h.1,List.getElem?_eq_getElem A]
 rfl
theorem y5 {fu:Nat} {keys a b:List Int} (RH:Bool) (ha:∀ p∈a,0≤p∧p<keys.length) (hb:∀ p∈b,0≤p∧p<keys.length) (Z:a.length≤1048576) (Aa:b.length≤1048576) :
    ∀ (m:Nat) (n:Nat) (out:List Int) (i j:Nat),i≤a.length→j≤b.length→(a.length - i)+(b.length - j)=m→m<n→out.length+m≤2097152 →
     DK fu keys RH a b n out i j=some (out++gv (dk keys RH) (a.drop i) (b.drop j)):=by
 intro m
 induction m with
 | zero =>
  intro n out i j hi T hm e ho
  obtain ⟨n,rfl⟩:∃ k,n=k+1:=⟨n - 1,AC⟩
  rw [DK.eq_2]
  unfold Qj
  rw [AM AJ,AM AJ,List.drop_of_length_le (show a.length≤i by omega),List.drop_of_length_le (show b.length≤j by omega)]
  simp [gv]
 | succ m O =>
  intro n out i j hi T hm e ho
  obtain ⟨n,rfl⟩:∃ k,n=k+1:=⟨n - 1,AC⟩
  have hL:DK fu keys RH a b (n+1) out i j=KP fu (DK fu keys RH a b n) keys RH a b out i j:=by
   rw [DK.eq_2]
   unfold Qj
   by_cases h:i<a.length
   · rw [AX (by simpa using h)]
   · rw [AM (by simpa using h),AX AJ]
  have V:∀ (h:i<a.length),(BE 8 out [a[i]])=some (out++[a[i]]):=λh=>KU AJ
  have U:∀ (h:j<b.length),(BE 8 out [b[j]])=some (out++[b[j]]):=λh=>KU AJ
  have Q:∀ (h:i<a.length),DK fu keys RH a b n (out++[a[i]]) (AK ((i:Int)+1)) j=some (out++a[i]::gv (dk keys RH) (a.drop (i+1)) (b.drop j)):=λh=>by
   rw [Yk i AC,O n (out++[a[i]]) (i+1) j AC T AC AC AJ]
   simp
  have N:∀ (h:j<b.length),DK fu keys RH a b n (out++[b[j]]) i (AK ((j:Int)+1))=some (out++b[j]::gv (dk keys RH) (a.drop i) (b.drop (j+1))):=λh=>by
   rw [Yk j AC,O n (out++[b[j]]) i (j+1) hi AC AC AC AJ]
   simp
  rw [hL]
  unfold KP
  by_cases J:j=b.length
  · have h:i<a.length:=AC
    rw [AX (by simp [J]),W8 h,AB,V h,AB,Q h,List.drop_of_length_le (show b.length≤j by omega),pL,pL,← List.drop_eq_getElem_cons h]
  · have A:j<b.length:=AC
    rw [AM AJ]
    by_cases L:i=a.length
    · rw [AX (by simp [L]),W8 A,AB,U A,AB,N A,List.drop_of_length_le (show a.length≤i by omega)]
      have M:∀ l,gv (dk keys RH) [] l=l:=λl=>by rw [gv]
      rw [M,M,← List.drop_eq_getElem_cons A]
    · have D:i<a.length:=AC
      rw [AM AJ]
      simp only [W8 D,W8 A,AB,gV (ha _ (List.getElem_mem D)),gV (hb _ (List.getElem_mem A)),V D,U A,Q D,N A]
      rw [List.drop_eq_getElem_cons D,List.drop_eq_getElem_cons A,Zd,← List.drop_eq_getElem_cons D,← List.drop_eq_getElem_cons A]
      have hx:dk keys RH a[i]=bif RH then - kf keys a[i] else kf keys a[i]:=rfl
      have Y:dk keys RH b[j]=bif RH then - kf keys b[j] else kf keys b[j]:=rfl
      rw [hx,Y]
      generalize kf keys a[i]=x
      generalize kf keys b[j]=y
      cases RH
      · by_cases E:y<x
        · rw [if_pos (by simpa using E)]; simp [E]
        · rw [if_neg (by simpa using E)]
          have:decide (y>x)=true∨decide (y>x)=false:=by cases decide (y>x) <;> simp
          rcases this with h | h <;> simp [E,h]
      · by_cases E:x<y
        · have h:¬ y<x:=AC
          rw [if_pos (by simpa using E)]; simp [E,h]
        · rw [if_neg (by simpa using E)]
          have h:decide (y<x)=true∨decide (y<x)=false:=by cases decide (y<x) <;> simp
          rcases h with h | h <;> simp [E,h]
theorem ka {fu:Nat} {keys:List Int} (RH:Bool) (J:2097153≤fu):∀ (n:Nat) (l:List Int),l.length≤n→l.length≤1048576→(∀ p∈l,0≤p∧p<keys.length) →
    LC fu (n+1) keys l RH=some (vh (dk keys RH) (n+1) l)
 | n,l,hn,hl,hm=>by
  rw [LC.eq_2]
  unfold X2 vh
  by_cases L:l.length<2
  · rw [AX AJ,if_pos L,KU AJ]; rfl
  · rw [AM AJ,if_neg L]
    have M:Int.tdiv (l.length:Int) 2=((l.length / 2:Nat):Int):=by simp [Int.tdiv]
    obtain ⟨n,rfl⟩:∃ k,n=k+1:=⟨n - 1,AC⟩
    rw [M,AU AC AC,OP AC,OP AC,AB]
    simp only [Int.toNat_natCast,Int.toNat_zero,List.drop_zero,Nat.sub_zero,AB]
    rw [ka RH J n (l.take (l.length / 2)) (by rw [List.length_take]; omega) (by rw [List.length_take]; omega) (λp A=>hm p (List.mem_of_mem_take A)),AB]
    have e:(l.drop (l.length / 2)).take (l.length - l.length / 2)=l.drop (l.length / 2):=List.take_of_length_le (by rw [List.length_drop]; omega)
    rw [e,ka RH J n (l.drop (l.length / 2)) (by rw [List.length_drop]; omega) (by rw [List.length_drop]; omega) (λp A=>hm p (List.mem_of_mem_drop A)),AB]
    have E:=(UK (dk keys RH) (n+1) (l.take (l.length / 2)))
    have D:=(UK (dk keys RH) (n+1) (l.drop (l.length / 2)))
    have O:=E.length_eq
    have N:=D.length_eq
    rw [List.length_take] at O
    rw [List.length_drop] at N
    rw [show (0:Int)=((0:Nat):Int) from rfl]
    rw [y5 RH (λp A=>hm p (List.mem_of_mem_take (E.mem_iff.1 A))) (λp A=>hm p (List.mem_of_mem_drop (D.mem_iff.1 A))) AC AC _ fu [] 0 0 AC AC rfl AC AJ]
    simp
theorem zc {fu:Nat} {keys:List Int} (A:2097153≤fu) (hl:keys.length≤1048576):RN fu keys=some (jM (kf keys) keys.length):=by
 unfold RN N7
 rw [mj keys.length hl AC,AB]
 obtain ⟨m,rfl⟩:∃ m,fu=m+1:=⟨fu - 1,AC⟩
 rw [ka false A m _ (by rw [B5]; omega) (by rw [B5]; omega) (λp D=>by have:=CE.1 D; omega),AB]
 congr 1
 have e:dk keys false=kf keys:=rfl
 rw [e]
 exact fo (UK _ _ _) (Xq _ _ _ (by rw [B5]; omega) (W7 _ _))
structure Sm (fu:Nat) (r:Request):Prop where
 fu:2097153≤fu
 pairs:r.fT.length≤1048576
 types:r.fG.length≤1048576
 items:r.fU.length≤1048576
theorem XT (fu:Nat) (n lo hi:Int):A2 fu n lo hi=some (CW n lo hi):=by
 unfold A2 CW
 by_cases h:lo≤n
 · simp [h]
 · simp [h]
theorem Ys (fu:Nat) (n lo hi:Int):A8 fu n lo hi=some (CW n lo hi):=XT fu n lo hi
theorem nj (fu:Nat) (n:Int):FB fu n=some (CW n 1 2000):=by unfold FB; rw [XT]; rfl
theorem uY (fu:Nat) (n:Int):OC fu n=some (CW n 0 999):=by unfold OC; rw [XT]; rfl
theorem j7 (fu:Nat) (n:Int):DF fu n=some (CW n 1 2000):=by unfold DF; rw [Ys]; rfl
theorem oh (fu:Nat) (p:Pallet):JN fu p=some (QH p):=by
 unfold JN QH
 simp only [nj,XT,AB]
 cases CW p.fW 1 2000 <;> cases CW p.fD 1 2000 <;> cases CW p.fH 1 2000 <;> rfl
theorem yq (fu:Nat) (p:Pallet):FY fu p=some (QH p):=by
 unfold FY QH
 simp only [j7,Ys,AB]
 cases CW p.fW 1 2000 <;> cases CW p.fD 1 2000 <;> cases CW p.fH 1 2000 <;> rfl
theorem yk (fu:Nat) (t:Typ):VX fu t=some (Yo t):=by
 unfold VX Yo
 simp only [nj,XT,uY,AB]
 cases CW t.fe 0 999 <;> cases CW t.fW 1 2000 <;> cases CW t.fH 1 2000 <;> cases CW t.fD 1 2000 <;> cases CW t.ff 0 100000 <;> cases CW t.fQ 1 100000 <;> rfl
theorem xG (fu:Nat) (t:Typ):Wh fu t=some (Yo t):=by
 unfold Wh Yo
 simp only [j7,Ys,AB]
 cases CW t.fe 0 999 <;> cases CW t.fW 1 2000 <;> cases CW t.fH 1 2000 <;> cases CW t.fD 1 2000 <;> cases CW t.ff 0 100000 <;> cases CW t.fQ 1 100000 <;> rfl
theorem yg (fu:Nat) (t:Item):V3 fu t=some (VP t):=by
 unfold V3 VP
 simp only [nj,XT,uY,AB]
 cases CW t.fe 0 999 <;> cases CW t.fW 1 2000 <;> cases CW t.fH 1 2000 <;> cases CW t.fD 1 2000 <;> cases CW t.fQ 1 100000 <;> cases CW t.fO 0 3 <;> rfl
theorem yu (fu:Nat) (t:Item):V8 fu t=some (VP t):=by
 unfold V8 VP
 simp only [j7,Ys,AB]
 cases CW t.fe 0 999 <;> cases CW t.fW 1 2000 <;> cases CW t.fH 1 2000 <;> cases CW t.fD 1 2000 <;> cases CW t.fQ 1 100000 <;> cases CW t.fO 0 3 <;> rfl
def pZ:List Item→Int→Option Bool
 | [],n=>some (decide (n≤12))
 | x::xs,n=>bif !VP x then some false else pZ xs (AK (n+x.f9))
theorem kb:∀ (l:List Item) (n:Int),0≤n→n+6*l.length≤4611686018427387904→pZ l n=some (l.all VP&&decide (n+IM (l.map (·.f9))≤12))
 | [],n,_,_=>by simp [pZ]
 | x::xs,n,h0,h1=>by
  unfold pZ
  cases A:VP x
  · simp [A]
  · have D:=A
    simp only [VP,Bool.and_eq_true,BS] at D
    have D:=D.2.2.2.2.2.2
    simp only [List.length_cons] at h1
    rw [AU AC AC]
    simp only [Bool.not_true,cond_false]
    rw [kb xs (n+x.f9) AC AC]
    simp only [List.all_cons,A,Bool.true_and,List.map_cons,ED,Int.add_assoc]
theorem x9 {fu:Nat} {r:Request} (h:Sm fu r):R9 fu r=some (YX r):=by
 have U:=h.fu
 have Y:r.fU.length≤8→E3 fu r fu 0 0=some (r.fU.all VP&&decide (IM (r.fU.map (·.f9))≤12)):=by
  intro L
  rw [lp r.fU (λn s i=>E3 fu r n s i) pZ (by have:=h.items; omega) ?_ ?_ fu 0 (by have:=h.items; omega),kb _ _ AC (by have:=h.items; omega)]
  · simp
  · intro n s i x O J A E
    simp only [E3.eq_2]
    unfold N3
    simp only [A,cond_true,J,AB,yg,E]
    rfl
  · intro n s i A
    simp only [E3.eq_2]
    unfold N3
    simp only [A,cond_false]
    rfl
 have V:∀ b:Bool,(E3 fu r fu 0 0=some b)→E7 fu r fu 0=some (r.fG.all Yo&&b):=by
  intro b M
  refine lp r.fG (λn (_:Unit) i=>E7 fu r n i) (λl _=>some (l.all Yo&&b)) (by have:=h.types; omega) ?_ ?_ fu () (by have:=h.types; omega)
  · intro n s i x O J A E
    simp only [E7.eq_2]
    unfold O2
    simp only [A,cond_true,J,AB,yk,E (),List.all_cons]
    cases Yo x <;> rfl
  · intro n s i A
    simp only [E7.eq_2]
    unfold O2
    simp only [A,cond_false,M]
    rfl
 have T:∀ b:Bool,(E7 fu r fu 0=some b)→E6 fu r fu 0=some (r.fT.all uF&&b):=by
  intro b M
  refine lp r.fT (λn (_:Unit) i=>E6 fu r n i) (λl _=>some (l.all uF&&b)) (by have:=h.pairs; omega) ?_ ?_ fu () (by have:=h.pairs; omega)
  · intro n s i x O J A E
    simp only [E6.eq_2]
    unfold N2 Tg
    simp only [A,cond_true,J,AB,XT,E ()]
    simp only [List.all_cons,uF]
    cases CW x.fA 0 3 <;> cases CW x.fB 0 3 <;> rfl
  · intro n s i A
    simp only [E6.eq_2]
    unfold N2
    simp only [A,cond_false,M]
    rfl
 unfold R9 Tw YX
 simp only [XT,uY,oh,AB]
 by_cases L:r.fU.length≤8
 · rw [T _ (V _ (Y L))]
   have N:decide ((r.fU.length:Int)>8)=false:=AJ
   rw [N]
   by_cases Q:r.fT.length≤16
   · have D:decide ((r.fT.length:Int)>16)=false:=AJ
     rw [D]
     simp only [Q,L,decide_true,cond_false,Bool.and_true]
     cases CW r.fc 0 1 <;> cases QH r.fJ <;> cases CW r.fR 1 4 <;> cases CW (r.fG.length:Int) 1 5 <;> cases CW r.fP 0 999 <;> simp <;> cases r.fT.all uF <;> cases r.fG.all Yo <;> rfl
   · have D:decide ((r.fT.length:Int)>16)=true:=AJ
     rw [D]
     simp only [Q,decide_false,cond_true]
     cases CW r.fc 0 1 <;> cases QH r.fJ <;> cases CW r.fR 1 4 <;> simp
 · have N:decide ((r.fU.length:Int)>8)=true:=AJ
   rw [N]
   simp only [L,decide_false,cond_true,Bool.and_false,Bool.false_and]
   cases CW r.fc 0 1 <;> cases QH r.fJ <;> cases CW r.fR 1 4 <;> simp
def Vy {α:Type} (g:α→Bool):List α→Int→Int
 | [],_=>-1
 | x::xs,i=>bif g x then i else Vy g xs (i+1)
theorem Wo {α:Type} (g:α→Bool):∀ (l:List α) (i:Int),0≤i→decide (Vy g l i≥0)=l.any g
 | [],i,_=>rfl
 | x::xs,i,h=>by
  simp only [Vy,List.any_cons]
  by_cases A:g x=true
  · simpa [A] using h
  · simpa [A] using Wo g xs (i+1) AC
theorem jj {α:Type} (g:α→Bool):∀ (l pre:List α) ,(Vy g l pre.length<0∧l.find? g=none)∨(0≤Vy g l pre.length∧∃ x,l.find? g=some x∧ix (pre++l) (Vy g l pre.length)=some x)
 | [],pre=>.inl ⟨by simp [Vy],rfl⟩
 | x::xs,pre=>by
  simp only [Vy]
  cases A:g x
  · have:=jj g xs (pre++[x])
    simp only [List.length_append,List.length_singleton,List.append_assoc,List.singleton_append] at this
    simpa [List.find?_cons,A] using this
  · refine .inr ⟨AD,x,by simp [A],?_⟩
    rw [cond_true,EG]
    simp
theorem TV {α:Type} (l:List α) (L:Nat→Int→Option Int) (g:α→Bool) (hl:l.length≤1099511627776)
    (hs:∀ n (i:Int) x,ix l i=some x→decide (i<(l.length:Int))=true→L (n+1) i=bif g x then some i else L n (AK (i+1)))
    (he:∀ n (i:Int),decide (i<(l.length:Int))=false→L (n+1) i=some (-1)) (n:Nat) (E:l.length<n):L n 0=some (Vy g l 0):=by
 have D:∀ (m i n:Nat),l.length - i=m→i≤l.length→m<n→L n (i:Int)=some (Vy g (l.drop i) i):=by
  intro m
  induction m with
  | zero =>
   intro i n M hi E
   obtain ⟨n,rfl⟩:∃ k,n=k+1:=⟨n - 1,AC⟩
   rw [List.drop_of_length_le AC,he n i AJ]
   rfl
  | succ m J =>
   intro i n M hi E
   obtain ⟨n,rfl⟩:∃ k,n=k+1:=⟨n - 1,AC⟩
   have A:i<l.length:=AC
   rw [hs n i _ (W8 A) (by simpa using A),List.drop_eq_getElem_cons A]
   simp only [Vy]
   cases g l[i]
   · rw [cond_false,cond_false,Yk i AC]
     have:=J (i+1) n AC AC AC
     simpa using this
   · rfl
 simpa using D l.length 0 n AC AC E
theorem mB {fu:Nat} {l:List Typ} (f:Typ→Option Bool) (g:Typ→Bool) (E:∀ x∈l,f x=some (g x)) (hl:l.length≤1048576) (J:l.length<fu):CG fu l f=some (Vy g l 0):=by
 unfold CG
 refine TV l (λn i=>BL fu l f n i) g AC ?_ ?_ fu J
 · intro n i x D A
   simp only [BL.eq_2]
   unfold D0
   simp only [A,cond_true,D,AB,E x (DA D)]
 · intro n i A
   simp only [BL.eq_2]
   unfold D0
   simp only [A,cond_false]
theorem gm {fu:Nat} {l:List Typ} (f:Typ→Option Bool) (g:Typ→Bool) (A:∀ x∈l,f x=some (g x)) (hl:l.length≤1048576) (D:l.length<fu):BH fu l f=some (l.any g):=by
 unfold BH
 rw [mB f g A hl D,AB,Wo g l 0 AC]
theorem qo {fu:Nat} {l:List Pair} (f:Pair→Option Bool) (g:Pair→Bool) (E:∀ x∈l,f x=some (g x)) (hl:l.length≤1048576) (J:l.length<fu):DO fu l f=some (Vy g l 0):=by
 unfold DO
 refine TV l (λn i=>BN fu l f n i) g AC ?_ ?_ fu J
 · intro n i x D A
   simp only [BN.eq_2]
   unfold DZ
   simp only [A,cond_true,D,AB,E x (DA D)]
 · intro n i A
   simp only [BN.eq_2]
   unfold DZ
   simp only [A,cond_false]
theorem jh {fu:Nat} {l:List Pair} (f:Pair→Option Bool) (g:Pair→Bool) (A:∀ x∈l,f x=some (g x)) (hl:l.length≤1048576) (D:l.length<fu):BO fu l f=some (l.any g):=by
 unfold BO
 rw [qo f g A hl D,AB,Wo g l 0 AC]
theorem pT {fu:Nat} {l:List Item} (f:Item→Option Bool) (g:Item→Bool) (E:∀ x∈l,f x=some (g x)) (hl:l.length≤1048576) (J:l.length<fu):DJ fu l f=some (Vy g l 0):=by
 unfold DJ
 refine TV l (λn i=>BM fu l f n i) g AC ?_ ?_ fu J
 · intro n i x D A
   simp only [BM.eq_2]
   unfold DY
   simp only [A,cond_true,D,AB,E x (DA D)]
 · intro n i A
   simp only [BM.eq_2]
   unfold DY
   simp only [A,cond_false]
theorem ZP {fu:Nat} {l:List Item} (f:Item→Option Bool) (g:Item→Bool) (A:∀ x∈l,f x=some (g x)) (hl:l.length≤1048576) (D:l.length<fu):BG fu l f=some (l.any g):=by
 unfold BG
 rw [pT f g A hl D,AB,Wo g l 0 AC]
theorem ze {fu:Nat} {r:Request} (h:Sm fu r):Sw fu r=some (YX r):=by
 have M:=h.fu
 have e:=h.items
 have Q:=h.types
 have Y:=h.pairs
 have T:F6 fu r fu 0 0=some (r.fU.all VP&&decide (IM (r.fU.map (·.f9))≤12)):=by
  rw [lp r.fU (λn s i=>F6 fu r n s i) pZ AC ?_ ?_ fu 0 AC,kb _ _ AC AC]
  · simp
  · intro n s i x Z O E N
    simp only [F6.eq_2]
    unfold OR
    simp only [E,cond_true,O,AB,yu,N]
    rfl
  · intro n s i E
    simp only [F6.eq_2]
    unfold OR
    simp only [E,cond_false]
    rfl
 have U:BO fu r.fT (λA=>NG fu A)=some (!(r.fT.all uF)):=by
  rw [jh _ (λp=>!uF p) (λp _=>by
   unfold NG uF
   simp only [Ys,AB]
   cases CW p.fA 0 3 <;> rfl) Y AC]
  simp [List.not_all_eq_any_not]
 have L:BH fu r.fG (λA=>NO fu A)=some (!(r.fG.all Yo)):=by
  rw [gm _ (λp=>!Yo p) (λp _=>by
   unfold NO
   rw [xG]; rfl) Q AC]
  simp [List.not_all_eq_any_not]
 unfold Sw SM S8 YX
 rw [T,U,L]
 simp only [Ys,yq,AB]
 have V:decide ((r.fU.length:Int)>8)=!decide (r.fU.length≤8):=by
  by_cases D:r.fU.length≤8
  · have:¬ ((r.fU.length:Int)>8):=AC
    simp [D,this]
  · have:(r.fU.length:Int)>8:=AC
    simp [D,this]
 have J:decide ((r.fT.length:Int)>16)=!decide (r.fT.length≤16):=by
  by_cases D:r.fT.length≤16
  · have:¬ ((r.fT.length:Int)>16):=AC
    simp [D,this]
  · have:(r.fT.length:Int)>16:=AC
    simp [D,this]
 rw [V,J]
 cases CW r.fc 0 1 <;> cases QH r.fJ <;> cases CW r.fR 1 4 <;> cases decide (r.fT.length≤16) <;> cases r.fT.all uF <;> cases CW (r.fG.length:Int) 1 5 <;> cases r.fG.all Yo <;> cases CW r.fP 0 999 <;> cases decide (r.fU.length≤8) <;> rfl
theorem vM {σ α β:Type} (l:List α) (L:Nat→σ→Int→Option β) (F:List α→List α→σ→Option β) (hl:l.length≤1099511627776)
    (hs:∀ n s pre x D,l=pre++x::D→ix l (pre.length:Int)=some x→decide ((pre.length:Int)<(l.length:Int))=true→(∀ J,L n J (AK ((pre.length:Int)+1))=F (pre++[x]) D J)→L (n+1) s (pre.length:Int)=F pre (x::D) s)
    (he:∀ n s,decide ((l.length:Int)<(l.length:Int))=false→L (n+1) s (l.length:Int)=F l [] s):∀ n s,l.length<n→L n s 0=F [] l s:=by
 have M:∀ (D pre:List α) (n:Nat) (s:σ),l=pre++D→D.length<n→L n s (pre.length:Int)=F pre D s:=by
  intro D
  induction D with
  | nil =>
   intro pre n s A E
   obtain ⟨n,rfl⟩:∃ k,n=k+1:=⟨n - 1,AC⟩
   simp only [List.append_nil] at A
   subst A
   exact he n s AD
  | cons x D O =>
   intro pre n s A E
   obtain ⟨n,rfl⟩:∃ k,n=k+1:=⟨n - 1,by simp at E; omega⟩
   have N:l.length=pre.length+(D.length+1):=by rw [A]; simp
   refine hs n s pre x D A ?_ AJ λJ=>?_
   · rw [EG,A]; simp
   · rw [Yk _ AC]
     have:=O (pre++[x]) n J (by simp [A]) (by simp at E; omega)
     simpa using this
 intro n s E
 simpa using M l [] n s rfl E
theorem ky {α:Type} {pre rest:List α} {i:Int} {y:α} (h:ix pre i=some y):ix (pre++rest) i=some y:=by
 obtain ⟨D,_,A⟩:=AG h
 unfold ix
 rw [if_pos D,List.getElem?_append_left AC,A]
theorem xi (a b:Int):(a==b)=(b==a):=Bool.eq_iff_iff.2 (by simp only [beq_iff_eq]; exact ⟨Eq.symm,Eq.symm⟩)
theorem ZF {fu:Nat} {r:Request} (h:Sm fu r) (A:Int):JI fu r A=some (Wz (Ky r A)):=by
 have O:=h.fu
 have N:=h.types
 unfold JI Ky
 rw [mB (λL=>UA fu L A) (λt=>t.fe==A) (λt _=>rfl) N AC,AB]
 rcases jj (λt:Typ=>t.fe==A) r.fG [] with ⟨D,E⟩ | ⟨D,x,E,M⟩
 · simp only [List.length_nil] at D
   rw [AX (by simpa using D),E]; rfl
 · simp only [List.length_nil,List.nil_append] at D M
   rw [AM (by simpa using D),E]
   have J:ix r.fG (Vy (λt=>t.fe==A) r.fG 0)=some x:=M
   rw [J]; rfl
theorem mC {fu:Nat} {r:Request} (h:Sm fu r):HP fu r=some (Wz (Ky r r.fP)):=by
 have D:=h.fu
 have M:=h.types
 unfold HP Ky
 refine lp r.fG (λn (_:Unit) i=>II fu r n i) (λl _=>some (Wz (l.find? λt=>t.fe==r.fP))) AC ?_ ?_ fu () AC
 · intro n s i x L J A E
   simp only [II.eq_2]
   unfold OD
   simp only [A,cond_true,J,AB,E (),List.find?_cons]
   cases x.fe==r.fP <;> rfl
 · intro n s i A
   simp only [II.eq_2]
   unfold OD
   simp only [A,cond_false]
   rfl
theorem rT {fu:Nat} {r:Request} (h:Sm fu r):KL fu r=some (Wz (Ky r r.fP)):=by
 unfold KL
 rw [ZF h]; rfl
theorem cO (o:Option Typ):(Wz o).2=o.isSome:=by cases o <;> rfl
theorem yl {fu:Nat} {r:Request} (h:Sm fu r):Ua fu r=some (du r):=by
 have Y:=h.fu
 have e:=h.items
 have h2:=h.types
 have h3:=h.pairs
 have N:ER fu r fu 0=some (!(r.fT.any λp=>decide (p.fA≥r.fR)||decide (p.fB≥r.fR))&&(Ky r r.fP).isSome):=by
  refine lp r.fT (λn (_:Unit) i=>ER fu r n i) (λl _=>some (!(l.any λp=>decide (p.fA≥r.fR)||decide (p.fB≥r.fR))&&(Ky r r.fP).isSome)) AC ?_ ?_ fu () AC
  · intro n s i x U L A D
    simp only [ER.eq_2]
    unfold QI TU
    simp only [A,cond_true,L,AB,D (),List.any_cons]
    cases decide (x.fA≥r.fR) <;> cases decide (x.fB≥r.fR) <;> rfl
  · intro n s i A
    simp only [ER.eq_2]
    unfold QI
    simp only [A,cond_false,mC h,AB,cO]
    rfl
 have V:∀ b,ER fu r fu 0=some b→B0 fu r fu 0=some (dq r.fR [] r.fU&&b):=by
  intro b Q
  refine vM r.fU (λn (_:Unit) i=>B0 fu r n i) (λpre l _=>some (dq r.fR pre l&&b)) AC ?_ ?_ fu () AC
  · intro n s pre x U hl L A D
    simp only [B0.eq_2]
    unfold Rj
    simp only [A,cond_true,L,AB,dq]
    cases hc:decide (x.fO≥r.fR)
    · have O:pre.length≤r.fU.length:=by rw [hl]; simp
      have T:FQ fu (λi=>B0 fu r n i) r (pre.length:Int) fu 0=bif pre.any (λy=>y.fe==x.fe) then some false else B0 fu r n (AK ((pre.length:Int)+1)):=by
       refine lp pre (λm (_:Unit) i=>FQ fu (λi=>B0 fu r n i) r (pre.length:Int) m i) (λl _=>bif l.any (λy=>y.fe==x.fe) then some false else B0 fu r n (AK ((pre.length:Int)+1))) AC ?_ ?_ fu () AC
       · intro m s i y ys M A D
         simp only [FQ.eq_2]
         unfold QG
         have E:ix r.fU i=some y:=by rw [hl]; exact ky M
         simp only [A,cond_true,L,E,AB,D (),List.any_cons]
         rw [xi x.fe y.fe]
         cases y.fe==x.fe <;> rfl
       · intro m s i A
         simp only [FQ.eq_2]
         unfold QG
         simp only [A,cond_false]
         rfl
      have J:FQ fu (B0 fu r n) r (pre.length:Int) fu 0=bif pre.any (λy=>y.fe==x.fe) then some false else B0 fu r n (AK ((pre.length:Int)+1)):=T
      rw [cond_false,J,D ()]
      cases pre.any (λy=>y.fe==x.fe) <;> rfl
    · rfl
  · intro n s A
    simp only [B0.eq_2]
    unfold Rj
    simp only [A,cond_false,Q]
    rfl
 have Z:∀ b,B0 fu r fu 0=some b→B8 fu r fu 0=some (dx Typ.fe [] r.fG&&b):=by
  intro b Q
  refine vM r.fG (λn (_:Unit) i=>B8 fu r n i) (λpre l _=>some (dx Typ.fe pre l&&b)) AC ?_ ?_ fu () AC
  · intro n s pre x U hl L A D
    simp only [B8.eq_2]
    unfold Q8
    simp only [A,cond_true,dx]
    have O:pre.length≤r.fG.length:=by rw [hl]; simp
    have T:FM fu (λi=>B8 fu r n i) r (pre.length:Int) fu 0=bif pre.any (λy=>y.fe==x.fe) then some false else B8 fu r n (AK ((pre.length:Int)+1)):=by
     refine lp pre (λm (_:Unit) i=>FM fu (λi=>B8 fu r n i) r (pre.length:Int) m i) (λl _=>bif l.any (λy=>y.fe==x.fe) then some false else B8 fu r n (AK ((pre.length:Int)+1))) AC ?_ ?_ fu () AC
     · intro m s i y ys M A D
       simp only [FM.eq_2]
       unfold QL
       have E:ix r.fG i=some y:=by rw [hl]; exact ky M
       simp only [A,cond_true,L,E,AB,D (),List.any_cons]
       rw [xi x.fe y.fe]
       cases y.fe==x.fe <;> rfl
     · intro m s i A
       simp only [FM.eq_2]
       unfold QL
       simp only [A,cond_false]
       rfl
    have J:FM fu (B8 fu r n) r (pre.length:Int) fu 0=bif pre.any (λy=>y.fe==x.fe) then some false else B8 fu r n (AK ((pre.length:Int)+1)):=T
    rw [J,D ()]
    cases pre.any (λy=>y.fe==x.fe) <;> rfl
  · intro n s A
    simp only [B8.eq_2]
    unfold Q8
    simp only [A,cond_false,Q]
    rfl
 unfold Ua du
 rw [Z _ (V _ N)]
 congr 1
 cases dx Typ.fe [] r.fG <;> cases dq r.fR [] r.fU <;> cases (Ky r r.fP).isSome <;> cases r.fT.any λp=>decide (p.fA≥r.fR)||decide (p.fB≥r.fR) <;> rfl
theorem oL {α:Type} {l pre A:List α} {x:α} (h:l=pre++x::A):RA l 0 (pre.length:Int)=some pre:=by
 rw [OP ⟨AC,AC,by rw [h]; simp; omega⟩]
 simp [h]
theorem yP {fu:Nat} {r:Request} (h:Sm fu r):U2 fu r=some (du r):=by
 have M:=h.fu
 have U:=h.items
 have V:=h.types
 have T:=h.pairs
 have Q:EP fu r fu 0=some (dq r.fR [] r.fU&&((Ky r r.fP).isSome&&!(r.fT.any λp=>decide (p.fA≥r.fR)||decide (p.fB≥r.fR)))):=by
  refine vM r.fU (λn (_:Unit) i=>EP fu r n i) (λpre l _=>some (dq r.fR pre l&&((Ky r r.fP).isSome&&!(r.fT.any λp=>decide (p.fA≥r.fR)||decide (p.fB≥r.fR))))) AC ?_ ?_ fu () AC
  · intro n s pre x L hl J A E
    simp only [EP.eq_2]
    unfold P9 UU
    have D:pre.length≤r.fU.length:=by rw [hl]; simp
    simp only [A,cond_true,J,AB,oL hl,ZP (λy=>Vt fu y x) (λy=>y.fe==x.fe) (λy _=>rfl) (show pre.length≤1048576 by omega) (show pre.length<fu by omega),dq,E ()]
    cases decide (x.fO≥r.fR) <;> cases pre.any (λy=>y.fe==x.fe) <;> rfl
  · intro n s A
    simp only [EP.eq_2]
    unfold P9
    simp only [A,cond_false,rT h,AB,cO]
    rw [jh (λy=>PF fu y r) (λp=>decide (p.fA≥r.fR)||decide (p.fB≥r.fR)) (λp _=>by
     unfold PF
     cases decide (p.fA≥r.fR) <;> rfl) T AC,AB]
    cases (Ky r r.fP).isSome <;> rfl
 have O:∀ b,EP fu r fu 0=some b→G8 fu r fu 0=some (dx Typ.fe [] r.fG&&b):=by
  intro b N
  refine vM r.fG (λn (_:Unit) i=>G8 fu r n i) (λpre l _=>some (dx Typ.fe pre l&&b)) AC ?_ ?_ fu () AC
  · intro n s pre x L hl J A E
    simp only [G8.eq_2]
    unfold QF
    have D:pre.length≤r.fG.length:=by rw [hl]; simp
    simp only [A,cond_true,J,AB,oL hl,gm (λy=>VA fu y x) (λy=>y.fe==x.fe) (λy _=>rfl) (show pre.length≤1048576 by omega) (show pre.length<fu by omega),dx,E ()]
    cases pre.any (λy=>y.fe==x.fe) <;> rfl
  · intro n s A
    simp only [G8.eq_2]
    unfold QF
    simp only [A,cond_false,N]
    rfl
 unfold U2 du
 rw [O _ Q]
 congr 1
 cases dx Typ.fe [] r.fG <;> cases dq r.fR [] r.fU <;> cases (Ky r r.fP).isSome <;> cases r.fT.any λp=>decide (p.fA≥r.fR)||decide (p.fB≥r.fR) <;> rfl
theorem vz {fu:Nat} {l:List Pair} (hl:l.length≤1048576) (J:l.length<fu) (a b:Int):GQ fu l a b=some (KQ l a b):=by
 unfold GQ KQ
 refine lp l (λn (_:Unit) i=>IC fu l a b n i) (λl _=>some (l.any λp=>p.fA==a&&p.fB==b)) AC ?_ ?_ fu () J
 · intro n s i x L E A D
   simp only [IC.eq_2]
   unfold TD PM
   simp only [A,cond_true,E,AB,D (),List.any_cons]
   cases x.fA==a <;> cases x.fB==b <;> rfl
 · intro n s i A
   simp only [IC.eq_2]
   unfold TD
   simp only [A,cond_false]
   rfl
theorem rP {fu:Nat} {l:List Pair} (hl:l.length≤1048576) (L:l.length<fu) (a b:Int):J1 fu l a b=some (KQ l a b):=by
 unfold J1 FG F8 KQ
 have:=TV l (λn i=>BZ fu l (⟨a,b⟩:Pair) n i) (λp=>p.fA==a&&p.fB==b) AC (by
  intro n i x J D
  simp only [BZ.eq_2]
  unfold EW
  simp only [D,cond_true,J,AB]
  have:decide ((⟨a,b⟩:Pair)=x)=(x.fA==a&&x.fB==b):=by
   rcases x with ⟨c,d⟩
   apply Bool.eq_iff_iff.2
   simp only [decide_eq_true_eq,Pair.mk.injEq,Bool.and_eq_true,beq_iff_eq]
   exact ⟨λ⟨E,A⟩=>⟨E.symm,A.symm⟩,λ⟨E,A⟩=>⟨E.symm,A.symm⟩⟩
  rw [this]) (by
  intro n i D
  simp only [BZ.eq_2]
  unfold EW
  simp only [D,cond_false]) fu L
 rw [this,AB,Wo _ l 0 AC,AB]
theorem zo {fu:Nat} {l:List Pair} (hl:l.length≤1048576) (J:l.length<fu) (M:64<fu) (c:Int):Vd fu l c=some (i8 l c):=by
 unfold Vd i8
 rw [Ys,AB]
 cases Q:CW c 1 4
 · rfl
 rw [BS] at Q
 simp only [Bool.not_true,cond_false,Bool.true_and]
 have N:∀ (k:Int→Option Bool) (a:Int),G4 fu k l c a fu 0=bif (BW 0 c.toNat).all λb=>KQ l a b==KQ l b a then k (AK (a+1)) else some false:=by
  intro k a
  refine wv c (λn (_:Unit) i=>G4 fu k l c a n i) (λD _=>bif D.all λb=>KQ l a b==KQ l b a then k (AK (a+1)) else some false) AC ?_ ?_ c.toNat fu () 0 AC AC AC
  · intro n s i D O L A E
    simp only [G4.eq_2]
    unfold QE
    simp only [A,cond_true,rP hl J,AB,E (),List.all_cons]
    cases KQ l a i==KQ l i a <;> rfl
  · intro n s i A
    simp only [G4.eq_2]
    unfold QE
    simp only [A,cond_false]
    rfl
 refine wv c (λn (_:Unit) i=>GW fu l c n i) (λD _=>some (D.all λa=>KQ l a a&&(BW 0 c.toNat).all λb=>KQ l a b==KQ l b a)) AC ?_ ?_ c.toNat fu () 0 AC AC AC
 · intro n s i D O L A E
   simp only [GW.eq_2]
   unfold Rp
   simp only [A,cond_true,rP hl J,AB,N,E (),List.all_cons]
   cases KQ l i i <;> cases (BW 0 c.toNat).all λb=>KQ l i b==KQ l b i <;> rfl
 · intro n s i A
   simp only [GW.eq_2]
   unfold Rp
   simp only [A,cond_false]
   rfl
theorem zy {fu:Nat} {l:List Pair} (hl:l.length≤1048576) (T:l.length<fu) (O:64<fu) (c:Int):TW fu l c=some (i8 l c):=by
 unfold TW i8
 rw [XT,AB]
 cases V:CW c 1 4
 · rfl
 rw [BS] at V
 simp only [Bool.not_true,cond_false,Bool.true_and]
 have Q:∀ (k:Int→Option Bool) (a:Int),FU fu k l c a fu 0=bif (BW 0 c.toNat).all λb=>(!(a==b)||KQ l a a)&&(KQ l a b==KQ l b a) then k (AK (a+1)) else some false:=by
  intro k a
  refine wv c (λn (_:Unit) i=>FU fu k l c a n i) (λE _=>bif E.all λb=>(!(a==b)||KQ l a a)&&(KQ l a b==KQ l b a) then k (AK (a+1)) else some false) AC ?_ ?_ c.toNat fu () 0 AC AC AC
  · intro n s i E U J A M
    simp only [FU.eq_2]
    unfold Qh NN
    simp only [A,cond_true,vz hl T,AB,M (),List.all_cons]
    cases a==i <;> cases KQ l a a <;> cases KQ l a i==KQ l i a <;> rfl
  · intro n s i A
    simp only [FU.eq_2]
    unfold Qh
    simp only [A,cond_false]
    rfl
 have N:EN fu l c fu 0=some ((BW 0 c.toNat).all λa=>(BW 0 c.toNat).all λb=>(!(a==b)||KQ l a a)&&(KQ l a b==KQ l b a)):=by
  refine wv c (λn (_:Unit) i=>EN fu l c n i) (λE _=>some (E.all λa=>(BW 0 c.toNat).all λb=>(!(a==b)||KQ l a a)&&(KQ l a b==KQ l b a))) AC ?_ ?_ c.toNat fu () 0 AC AC AC
  · intro n s i E U J A M
    simp only [EN.eq_2]
    unfold QU
    simp only [A,cond_true,Q,M (),List.all_cons]
    cases (BW 0 c.toNat).all λb=>(!(i==b)||KQ l i i)&&(KQ l i b==KQ l b i) <;> rfl
  · intro n s i A
    simp only [EN.eq_2]
    unfold QU
    simp only [A,cond_false]
    rfl
 rw [N]
 congr 1
 apply Bool.eq_iff_iff.2
 simp only [List.all_eq_true,Bool.and_eq_true,Bool.or_eq_true,Bool.not_eq_true',beq_eq_false_iff_ne,beq_iff_eq]
 constructor
 · intro h a D
   refine ⟨?_,λb L=>(h a D b L).2⟩
   rcases (h a D a D).1 with J | J
   · exact absurd rfl J
   · exact J
 · intro h a D b L
   exact ⟨.inr (h a D).1,(h a D).2 b L⟩
theorem yL {l:List Int} (h:l.length=3):∃ p q s,l=[p,q,s]:=by
 match l,h with
 | [p,q,s],_=>exact ⟨p,q,s,rfl⟩
theorem vv {fu:Nat} (E:2097153≤fu) (a b c:Int):OT fu a b c=some [(YU a b c).1,(YU a b c).2.1,(YU a b c).2.2]:=by
 unfold OT
 rw [zc E AD,AB,show [a,b,c].length=3 from rfl]
 have J:=Xr (kf [a,b,c]) 3
 have L:=aA (kf [a,b,c]) 3
 obtain ⟨p,q,s,M⟩:=yL (VZ (kf [a,b,c]) 3)
 rw [M] at J L ⊢
 have A:∀ x∈[p,q,s],0≤x∧x<3:=λx T=>by
  have:=CE.1 (J.mem_iff.1 T)
  omega
 have Q:=gV (keys:=[a,b,c]) (p:=p) (by have:=A p AD; simpa using this)
 have N:=gV (keys:=[a,b,c]) (p:=q) (by have:=A q AD; simpa using this)
 have O:=gV (keys:=[a,b,c]) (p:=s) (by have:=A s AD; simpa using this)
 rw [show ix [p,q,s] 0=some p from rfl,show ix [p,q,s] 1=some q from rfl,show ix [p,q,s] 2=some s from rfl]
 simp only [AB,Q,N,O]
 have D:([a,b,c]).Perm [kf [a,b,c] p,kf [a,b,c] q,kf [a,b,c] s]:=(J.map (kf [a,b,c])).symm
 simp only [List.pairwise_cons,List.mem_cons,List.not_mem_nil,or_false,forall_eq_or_imp,forall_eq,lx] at L
 have:=vS D AC AC
 rw [this]
theorem si {fu:Nat} (A:2097153≤fu) (x:Item) (t:Typ):TL fu x t=some (X8 x t):=by
 unfold TL X8
 rw [vv A,vv A]
 simp only [AB]
 have J:∀ a b c:Int,ix [a,b,c] 0=some a:=λ_ _ _=>rfl
 have D:∀ a b c:Int,ix [a,b,c] 1=some b:=λ_ _ _=>rfl
 have E:∀ a b c:Int,ix [a,b,c] 2=some c:=λ_ _ _=>rfl
 simp only [J,D,E,AB]
 cases decide ((YU x.fW x.fH x.fD).1≤(YU t.fW t.fH t.fD).1) <;> cases decide ((YU x.fW x.fH x.fD).2.1≤(YU t.fW t.fH t.fD).2.1) <;> cases decide ((YU x.fW x.fH x.fD).2.2≤(YU t.fW t.fH t.fD).2.2) <;> rfl
theorem mU (a b c:Int):aL [a,b,c]=some [(YU a b c).1,(YU a b c).2.1,(YU a b c).2.2]:=by
 unfold aL
 rw [if_pos AD]
 have A:=List.mergeSort_perm [a,b,c] (λx y=>decide (x≤y))
 have D:=PH [a,b,c]
 obtain ⟨p,q,s,E⟩:=yL (A.length_eq)
 rw [E] at A D ⊢
 simp only [List.pairwise_cons,List.mem_cons,List.not_mem_nil,or_false,forall_eq_or_imp,forall_eq] at D
 rw [vS A.symm AC AC]
theorem vG (fu:Nat) (x:Item) (t:Typ):WA fu x t=some (X8 x t):=by
 unfold WA XH CL X8
 rw [mU,mU]
 have E:∀ a b c:Int,ix [a,b,c] 0=some a:=λ_ _ _=>rfl
 have A:∀ a b c:Int,ix [a,b,c] 1=some b:=λ_ _ _=>rfl
 have D:∀ a b c:Int,ix [a,b,c] 2=some c:=λ_ _ _=>rfl
 simp only [AB,E,A,D]
 cases decide ((YU x.fW x.fH x.fD).1≤(YU t.fW t.fH t.fD).1) <;> cases decide ((YU x.fW x.fH x.fD).2.1≤(YU t.fW t.fH t.fD).2.1) <;> cases decide ((YU x.fW x.fH x.fD).2.2≤(YU t.fW t.fH t.fD).2.2) <;> rfl
theorem Zg {fu:Nat} {r:Request} (h:Sm fu r):EU fu r=some (CA r):=by
 have D:=h.fu
 have Q:=h.items
 have T:=h.types
 have O:=h.pairs
 have N:HO fu r fu 0=some (bif r.fG.any (dP r.fJ) then 6 else 0):=by
  refine lp r.fG (λn (_:Unit) i=>HO fu r n i) (λl _=>some (bif l.any (dP r.fJ) then 6 else 0)) AC ?_ ?_ fu () AC
  · intro n s i x M J A E
    simp only [HO.eq_2]
    unfold T2 WR
    simp only [A,cond_true,J,AB,E (),List.any_cons,dP]
    cases decide (x.fW>r.fJ.fW) <;> cases decide (x.fD>r.fJ.fD) <;> cases decide (x.fH>r.fJ.fH) <;> cases decide (AK (x.ff+x.fQ)>r.fJ.fQ) <;> rfl
  · intro n s i A
    simp only [HO.eq_2]
    unfold T2
    simp only [A,cond_false]
    rfl
 unfold EU CA
 rw [x9 h,AB,yl h,AB,zy O AC AC,AB,mC h,AB]
 have L:JL fu r (Wz (Ky r r.fP)) fu 0=some (bif !(r.fU.all λx=>X8 x (Vn r)) then 5 else bif r.fG.any (dP r.fJ) then 6 else 0):=by
  refine lp r.fU (λn (_:Unit) i=>JL fu r (Wz (Ky r r.fP)) n i) (λl _=>some (bif !(l.all λx=>X8 x (Vn r)) then 5 else bif r.fG.any (dP r.fJ) then 6 else 0)) AC ?_ ?_ fu () AC
  · intro n s i x M J A E
    simp only [JL.eq_2]
    unfold U6
    simp only [A,cond_true,J,AB,si D,E (),List.all_cons]
    rw [show (Wz (Ky r r.fP)).1=Vn r from rfl]
    cases X8 x (Vn r) <;> rfl
  · intro n s i A
    simp only [JL.eq_2]
    unfold U6
    simp only [A,cond_false,N]
    rfl
 rw [L]
 cases YX r <;> cases du r <;> cases i8 r.fT r.fR <;> rfl
theorem vW {fu:Nat} {r:Request} (h:Sm fu r):U3 fu r=some (CA r):=by
 have D:=h.fu
 have J:=h.items
 have A:=h.types
 have E:=h.pairs
 unfold U3 CA
 rw [rT h,AB,ze h,AB,yP h,AB,zo E AC AC,AB]
 rw [ZP (λy=>Uq fu y (Wz (Ky r r.fP)).1) (λx=>!X8 x (Vn r)) (λx _=>by
  unfold Uq
  rw [vG,AB]; rfl) J AC,AB]
 rw [gm (λy=>UQ fu y r.fJ) (dP r.fJ) (λx _=>by
  unfold UQ dP
  cases decide (x.fW>r.fJ.fW) <;> cases decide (x.fD>r.fJ.fD) <;> cases decide (x.fH>r.fJ.fH) <;> rfl) A AC,AB]
 rw [show (r.fU.any λx=>!X8 x (Vn r))=!(r.fU.all λx=>X8 x (Vn r)) by simp [List.not_all_eq_any_not]]
 cases YX r <;> cases du r <;> cases i8 r.fT r.fR <;> cases r.fU.all λx=>X8 x (Vn r) <;> cases r.fG.any (dP r.fJ) <;> rfl
theorem Xo {fu:Nat} {r:Request} (h:Sm fu r):FZ fu r=some (CA r==0):=by
 unfold FZ
 rw [vW h]; rfl
theorem eZ {σ α β:Type} (l:List α) (L:Nat→σ→Int→Option β) (F:List α→List α→σ→Option β) (I:List α→List α→σ→Prop) (hl:l.length≤1099511627776)
    (hs:∀ n s pre x A,l=pre++x::A→ix l (pre.length:Int)=some x→decide ((pre.length:Int)<(l.length:Int))=true→I pre (x::A) s→(∀ J,I (pre++[x]) A J→L n J (AK ((pre.length:Int)+1))=F (pre++[x]) A J)→L (n+1) s (pre.length:Int)=F pre (x::A) s)
    (he:∀ n s,decide ((l.length:Int)<(l.length:Int))=false→I l [] s→L (n+1) s (l.length:Int)=F l [] s):∀ n s,I [] l s→l.length<n→L n s 0=F [] l s:=by
 have N:∀ (A pre:List α) (n:Nat) (s:σ),l=pre++A→I pre A s→A.length<n→L n s (pre.length:Int)=F pre A s:=by
  intro A
  induction A with
  | nil =>
   intro pre n s D M E
   obtain ⟨n,rfl⟩:∃ k,n=k+1:=⟨n - 1,AC⟩
   simp only [List.append_nil] at D
   subst D
   exact he n s AD M
  | cons x A T =>
   intro pre n s D M E
   obtain ⟨n,rfl⟩:∃ k,n=k+1:=⟨n - 1,by simp at E; omega⟩
   have Q:l.length=pre.length+(A.length+1):=by rw [D]; simp
   refine hs n s pre x A D ?_ AJ M λJ O=>?_
   · rw [EG,D]; simp
   · rw [Yk _ AC]
     have:=T (pre++[x]) n J (by simp [D]) O (by simp at E; omega)
     simpa using this
 intro n s M E
 simpa using N l [] n s rfl M E
theorem cu {x:Item} (h:VP x=true):1≤x.f9∧x.f9≤6:=by
 simp only [VP,Bool.and_eq_true,BS] at h
 omega
theorem r5 {A:List Item} (h:∀ x∈A,VP x=true):0≤IM (A.map (·.f9)):=bz _ _ λx D=>by have:=cu (h x D); omega
theorem xj {fu:Nat} {r:Request} (h:Sm fu r) (U:YX r=true):C8 fu r=some (tH r):=by
 have T:=h.fu
 obtain ⟨hi,hs,hl⟩:=PY U
 have e4:∀ (k:List Int→Int→Option (List Int)) (i:Int) (x:Item),ix r.fU i=some x→∀ (m n:Nat) (c:Int) (out:List Int),0≤c→c≤x.f9→(x.f9 - c).toNat=m→x.f9≤6→m<n→out.length+m≤100 →
     Jy fu k r i n out c=k (out++List.replicate m i) (AK (i+1)):=by
  intro k i x J m
  induction m with
  | zero =>
   intro n c out h0 V Y O Q Z
   obtain ⟨n,rfl⟩:∃ j,n=j+1:=⟨n - 1,AC⟩
   rw [Jy.eq_2]
   unfold Q3
   rw [J,AB,AM AJ]
   simp
  | succ m M =>
   intro n c out h0 V Y O Q Z
   obtain ⟨n,rfl⟩:∃ j,n=j+1:=⟨n - 1,AC⟩
   rw [Jy.eq_2]
   unfold Q3
   rw [J,AB,AX AJ,KU AJ,AB,AU AC AC,M n (c+1) (out++[i]) AC AC AC O AC AJ]
   rw [List.append_assoc,List.singleton_append,← List.replicate_succ]
 unfold C8 tH
 have:=eZ r.fU (λn out i=>FR fu r n out i) (λpre A out=>some (out++cj (pre.length:Int) A)) (λpre A out=>(out.length:Int)+IM (A.map (·.f9))≤12∧∀ x∈A,VP x=true) AC ?_ ?_ fu [] ⟨by simpa using hs,hi⟩ AC
 · simpa using this
 · intro n out pre x A Aa J N E M
   simp only [FR.eq_2]
   unfold Qy
   have hc:=cu (E.2 x AD)
   have D:=E.1
   have Ab:=r5 (λy L=>E.2 y (by simp [L]):∀ y∈A,VP y=true)
   simp only [List.map_cons,ED] at D
   have e:=e4 (FR fu r n) (pre.length:Int) x J x.f9.toNat fu 0 out AC AC AC AC AC AC
   rw [N,cond_true,e,M _ ⟨AJ,λy L=>E.2 y (by simp [L])⟩]
   simp [cj]
 · intro n out N E
   simp only [FR.eq_2]
   unfold Qy
   simp only [N,cond_false]
   simp [cj]
theorem rN {fu:Nat} {r:Request} (h:Sm fu r) (A:CA r=0):C8 fu r=some (CP r):=by
 unfold CP
 rw [xj h (D2 A).1,AX (by simp [A])]
theorem zw {fu:Nat} {r:Request} (h:Sm fu r):Xc fu r=some (CP r):=by
 unfold Xc CP
 rw [Zg h,AB]
 by_cases A:CA r=0
 · rw [AM (by simp [A]),xj h (D2 A).1,AB,AX (by simp [A])]
 · rw [AX (by simp [A]),AM (by simp [A])]
theorem zR (fu:Nat) (c:Int) (h:1≤c∧c≤6):ak fu (IntKind.wrap .u64 1) (IntKind.wrap .u64 c)=some (0,c):=by
 have:c=1∨c=2∨c=3∨c=4∨c=5∨c=6:=AC
 rcases this with rfl | rfl | rfl | rfl | rfl | rfl <;> rfl
theorem xH (m:Nat) (i:Int):CF (m+10) [i] (0,1)=some (List.replicate 1 i):=AQ
theorem yI (m:Nat) (i:Int):CF (m+10) [i] (0,2)=some (List.replicate 2 i):=AQ
theorem yi (m:Nat) (i:Int):CF (m+10) [i] (0,3)=some (List.replicate 3 i):=AQ
theorem yY (m:Nat) (i:Int):CF (m+10) [i] (0,4)=some (List.replicate 4 i):=AQ
theorem yx (m:Nat) (i:Int):CF (m+10) [i] (0,5)=some (List.replicate 5 i):=AQ
theorem zg (m:Nat) (i:Int):CF (m+10) [i] (0,6)=some (List.replicate 6 i):=AQ
theorem zH {fu:Nat} (A:10≤fu) (i c:Int) (h:1≤c∧c≤6):I7 fu [i] c=some (List.replicate c.toNat i):=by
 unfold I7 KF
 rw [AM AJ]
 rw [show (([i]:List Int).length:Int)=1 from rfl,zR fu c h,AB,AM AD,AM AJ]
 obtain ⟨m,rfl⟩:∃ m,fu=m+10:=⟨fu - 10,AC⟩
 have:c=1∨c=2∨c=3∨c=4∨c=5∨c=6:=AC
 rcases this with rfl | rfl | rfl | rfl | rfl | rfl
 · exact xH m i
 · exact yI m i
 · exact yi m i
 · exact yY m i
 · exact yx m i
 · exact zg m i
theorem nF {fu:Nat} {r:Request} (h:Sm fu r):Mb fu r=some (CP r):=by
 have N:=h.fu
 unfold Mb CP
 rw [Xo h,AB]
 by_cases A:CA r=0
 · obtain ⟨hi,U,hl⟩:=PY (D2 A).1
   rw [AM (by simp [A]),AX (by simp [A])]
   unfold tH
   have:=eZ r.fU (λn out i=>KH fu r n out i) (λpre D out=>some (out++cj (pre.length:Int) D)) (λpre D out=>(out.length:Int)+IM (D.map (·.f9))≤12∧∀ x∈D,VP x=true) AC ?_ ?_ fu [] ⟨by simpa using U,hi⟩ AC
   · simpa using this
   · intro n out pre x D T Q M J O
     simp only [KH.eq_2]
     unfold Uc
     have A:=cu (J.2 x AD)
     have E:=J.1
     have V:=r5 (λy L=>J.2 y (by simp [L]):∀ y∈D,VP y=true)
     simp only [List.map_cons,ED] at E
     rw [M,cond_true,Q,AB,zH AC _ _ A,AB,KU AJ,AB,O _ ⟨AJ,λy L=>J.2 y (by simp [L])⟩]
     simp [cj]
   · intro n out M J
     simp only [KH.eq_2]
     unfold Uc
     simp only [M,cond_false]
     simp [cj]
 · rw [AX (by simp [A]),AM (by simp [A])]
theorem r7 {fu:Nat} {l:List Int} (hl:l.length≤1048576) (J:l.length<fu) (x:Int):PD fu l x=some (l.contains x):=by
 unfold PD
 refine lp l (λn (_:Unit) i=>KN fu l x n i) (λl _=>some (l.contains x)) AC ?_ ?_ fu () J
 · intro n s i y ys D A E
   simp only [KN.eq_2]
   unfold Ur
   simp only [A,cond_true,D,AB,E (),List.contains_cons]
   rw [xi y x]
   cases x==y <;> rfl
 · intro n s i A
   simp only [KN.eq_2]
   unfold Ur
   simp only [A,cond_false]
   rfl
theorem vw {fu:Nat} {l:List Int} (hl:l.length≤1048576) (E:l.length<fu) (x:Int):FH fu l x=some (l.contains x):=by
 unfold FH LZ
 have:=TV l (λn i=>D3 fu l x n i) (λy=>x==y) AC (by
  intro n i y D A
  simp only [D3.eq_2]
  unfold JV
  simp only [A,cond_true,D,AB]) (by
  intro n i A
  simp only [D3.eq_2]
  unfold JV
  simp only [A,cond_false]) fu E
 rw [this,AB,Wo _ l 0 AC,List.contains_eq_any_beq]
theorem xf {fu:Nat} {p:List Pair} (L:p.length≤1048576) (D:p.length<fu) {g:List Int} (hl:g.length≤1048576) (J:g.length<fu) (c:Int):UN fu p g c=some (g.all (VU p c)):=by
 unfold UN
 refine lp g (λn (_:Unit) i=>GY fu p g c n i) (λl _=>some (l.all (VU p c))) AC ?_ ?_ fu () J
 · intro n s i y ys E A M
   simp only [GY.eq_2]
   unfold Q5 U9
   simp only [A,cond_true,E,AB,M (),vz L D,List.all_cons,VU]
   cases KQ p y c <;> cases KQ p c y <;> rfl
 · intro n s i A
   simp only [GY.eq_2]
   unfold Q5
   simp only [A,cond_false]
   rfl
theorem yO {fu:Nat} {r:Request} (h:Sm fu r):US fu r=some (Xs r):=by
 have O:=h.fu
 have T:=h.items
 unfold US Xs
 rw [Zg h,AB]
 by_cases J:CA r=0
 · rw [show (CA r != 0)=false by simp [J],show (CA r==0)=true by simp [J],cond_false,cond_true]
   have L:∀ (k:List Int→Int→Option (List Int)) (out:List Int) (c:Int),FP fu k r out c fu false 0=bif r.fU.any (λx=>x.fO==c) then (AA (BE 8 out [c]) λx=>k x (AK (c+1))) else k out (AK (c+1)):=by
    intro k out c
    refine lp r.fU (λn f i=>FP fu k r out c n f i) (λl f=>bif f||l.any (λx=>x.fO==c) then (AA (BE 8 out [c]) λx=>k x (AK (c+1))) else k out (AK (c+1))) AC ?_ ?_ fu false AC
    · intro n f i x D Q A E
      simp only [FP.eq_2]
      unfold Qv NP
      simp only [A,cond_true,Q,AB,E,List.any_cons]
      cases f
      · rfl
      · rfl
    · intro n f i A
      simp only [FP.eq_2]
      unfold Qv NI
      simp only [A,cond_false,List.any_nil,Bool.or_false]
   have:=cp 4 (λn out i=>ET fu r n out i) (λD out=>some (out++D.filter λc=>r.fU.any λx=>x.fO==c)) (λD out=>out.length+D.length≤4) AC ?_ ?_ 4 fu [] 0 AC AC AC (by simp [BW])
   · simpa using this
   · intro n out i D U T A N E
     simp only [List.length_cons] at N
     simp only [ET.eq_2]
     unfold QK
     simp only [A,cond_true,L]
     cases M:r.fU.any λx=>x.fO==i
     · rw [cond_false,E out AC]
       simp [M]
     · rw [cond_true,KU AJ,AB,E _ AJ]
       simp [M]
   · intro n out i A N
     simp only [ET.eq_2]
     unfold QK
     simp only [A,cond_false]
     simp
 · rw [show (CA r != 0)=true by simp [J],show (CA r==0)=false by simp [J],cond_false,cond_true]
theorem og {fu:Nat} {l:List Int} (hl:l.length≤1048576):∃ k,LU fu l=some k∧k.Pairwise (·<·)∧∀ x,x∈k↔x∈l:=by
 unfold LU D5 CL K2
 have A:=List.mergeSort_perm l (λx y=>decide (x≤y))
 have E:=PH l
 rw [KU AJ,AB,AB,List.nil_append]
 unfold aL
 rw [if_pos AC,AB]
 unfold ug
 rw [if_pos (by rw [A.length_eq]; omega),AB]
 obtain ⟨J,D⟩:=gX _ E
 exact ⟨_,rfl,J,λx=>(D x).trans A.mem_iff⟩
theorem hC {fu:Nat} {l:List Int} (hl:l.length≤1048576) (E:l.Pairwise (·<·)):LU fu l=some l:=by
 obtain ⟨k,J,A,D⟩:=og (fu:=fu) hl
 rw [J,ng A E D]
theorem yz {fu:Nat} {r:Request} (h:Sm fu r):TX fu r=some (Xs r):=by
 have Q:=h.fu
 have L:=h.items
 unfold TX
 rw [Xo h,AB]
 by_cases A:CA r=0
 · rw [show (CA r==0)=true by simp [A],Bool.not_true,cond_false]
   have:=XD r.fU (λn out i=>I8 fu r n out i) (λE out=>AA (LU fu (out++E.map (·.fO))) λx=>some x) (λE out=>out.length+E.length≤1048576) AC ?_ ?_ fu [] (by simpa using L) AC
   · rw [List.nil_append] at this
     refine this.trans ?_
     obtain ⟨k,N,O,V⟩:=og (fu:=fu) (l:=r.fU.map (·.fO)) (by simpa using L)
     rw [N,AB]
     congr 1
     refine ng O (XZ r) λx=>?_
     rw [V]
     unfold Xs
     rw [show (CA r==0)=true by simp [A],cond_true,List.mem_filter,CE,List.any_eq_true,List.mem_map]
     constructor
     · rintro ⟨y,D,rfl⟩
       have:=(PY (D2 A).1).1 y D
       simp only [VP,Bool.and_eq_true,BS] at this
       exact ⟨AC,y,D,AD⟩
     · rintro ⟨_,y,D,e⟩
       exact ⟨y,D,by simpa using e⟩
   · intro n out i x E U J M T
     simp only [List.length_cons] at M
     simp only [I8.eq_2]
     unfold QR
     simp only [J,cond_true,U,AB]
     rw [KU AJ,AB,T _ AJ]
     simp
   · intro n out i J M
     simp only [I8.eq_2]
     unfold QR
     simp only [J,cond_false]
     simp
 · rw [show (CA r==0)=false by simp [A],Bool.not_false,cond_true]
   unfold Xs
   rw [show (CA r==0)=false by simp [A],cond_false]
theorem ji {α:Type} (g:α→Bool) (x:α):∀ (l:List α),TO g (l++[x])=match TO g l with | some i=>some i | none=>bif g x then some l.length else none
 | []=>by simp [TO]
 | y::ys=>by
  simp only [List.cons_append,TO]
  cases g y
  · simp only [cond_false]
    rw [ji g x ys]
    cases TO g ys <;> simp
    cases g x <;> simp
  · rfl
def zE {α:Type} (g:α→Bool) (l:List α) (i:Int):Bool:=match ix l i with | some x=>g x | none=>false
def lV {α:Type} (g:α→Bool) (l:List α) (a i:Int):Int:=bif zE g l i then i else a
theorem cT {α:Type} (g:α→Bool) (l:List α):∀ (m:Nat) (a:Int),m≤l.length→(RH m).foldl (lV g l) a=match TO g (l.take m) with | some i=>(i:Int) | none=>a
 | 0,a,_=>by simp [RH,TO]
 | m+1,a,h=>by
  simp only [RH,List.foldl_cons]
  rw [cT g l m _ AC,List.take_succ_eq_append_getElem AC,ji,List.length_take,Nat.min_eq_left AC]
  unfold lV zE
  rw [W8 AC]
  cases TO g (l.take m) with
  | some i=>rfl
  | none =>
   simp only
   cases g l[m] <;> rfl
theorem bd {α:Type} (g:α→Bool):∀ (l:List α) (i:Int),Vy g l i=match TO g l with | some j=>i+j | none=>-1
 | [],i=>rfl
 | x::xs,i=>by
  simp only [Vy,TO]
  cases g x
  · simp only [cond_false]
    rw [bd g xs (i+1)]
    cases TO g xs with
    | none=>rfl
    | some j =>
     show i+1+(j:Int)=i+((j+1:Nat):Int)
     omega
  · simp
theorem tn {p:List Pair} {out:List (List Int)} {c:Int} {n:Nat} (h:dp n out) (L:n≤1048576) {β:Type} (k:List (List Int)→Option β) (a:Int) (A:a=match TO (λg=>g.all (VU p c)) out with | some i=>(i:Int) | none=>-1) :
    (bif (decide (a<0)) then AA (BE 24 out [([c]:List Int)]) λx=>k x else AA (ix out a) λx=>AA (BE 8 x (([c]:List Int))) λy=>AA (ix out a) λz=>k (DB out a y))=k (ZT p out c):=by
 obtain ⟨_,J⟩:=h
 unfold ZT
 cases E:TO (λg=>g.all (VU p c)) out with
 | none =>
  rw [E] at A
  simp only at A
  subst A
  rw [AX AD,KU AJ,AB]
 | some i =>
  rw [E] at A
  simp only at A
  subst A
  obtain ⟨x,D,_⟩:=Xl E
  have:=J x (List.mem_of_getElem? D)
  rw [AM AD,EG,D,AB,KU AJ,AB,AB]
  simp [DB,D]
theorem wF {fu:Nat} {p:List Pair} (V:p.length≤1048576) (U:2097153≤fu) {l:List Int} (hl:l.length≤1048576):Wl fu p l=some (((BW 0 4).filter l.contains).foldl (ZT p) []):=by
 unfold Wl
 have L:∀ (k:List (List Int)→Int→Option (List (List Int))) (out:List (List Int)) (c:Int),dp 4 out→GK fu k p out c fu (-1) (AK ((out.length:Int) - 1))=k (ZT p out c) (AK (c+1)):=by
  intro k out c A
  obtain ⟨R,N⟩:∃ R:Int→Option (List (List Int)),R=λa=>bif (decide (a<0)) then AA (BE 24 out [([c]:List Int)]) λx=>k x (AK (c+1)) else AA (ix out a) λx=>AA (BE 8 x (([c]:List Int))) λy=>AA (ix out a) λz=>k (DB out a y) (AK (c+1)):=⟨_,rfl⟩
  have:=zX out.length (λn a i=>GK fu k p out c n a i) (λD a=>R (D.foldl (lV (λg=>g.all (VU p c)) out) a)) (by have:=A.1; omega) ?_ ?_ fu (-1) (by have:=A.1; omega)
  · rw [this,N]
    refine tn (p:=p) A AC (λx=>k x (AK (c+1))) _ ?_
    rw [cT (λg=>g.all (VU p c)) out out.length (-1) (Nat.le_refl _),List.take_length]
  · intro n a i D Z Y E J
    simp only [GK.eq_2]
    unfold S9 PV
    obtain ⟨j,rfl⟩:∃ j:Nat,i=j:=⟨i.toNat,AC⟩
    have M:j<out.length:=AC
    have T:=A.2 _ (List.getElem_mem M)
    simp only [E,cond_true,W8 M,AB,xf V AC (show out[j].length≤1048576 by omega) (show out[j].length<fu by omega),J,List.foldl_cons]
    have e:lV (λg=>g.all (VU p c)) out a (j:Int)=bif out[j].all (VU p c) then (j:Int) else a:=by unfold lV zE; rw [W8 M]
    rw [e]
    cases out[j].all (VU p c) <;> rfl
  · intro n a i E
    simp only [GK.eq_2]
    unfold S9 J4
    simp only [E,cond_false,List.foldl_nil,N]
 have:=cp 4 (λn out i=>FF fu p l n out i) (λD out=>some ((D.filter l.contains).foldl (ZT p) out)) (λD out=>∃ m,m+D.length≤4∧dp m out) AC ?_ ?_ 4 fu [] 0 AC AC AC ⟨0,by simp [BW],AD,AD⟩
 · exact this
 · intro n out i D Z Y E Q J
   obtain ⟨m,h,A⟩:=Q
   simp only [List.length_cons] at h
   simp only [FF.eq_2]
   unfold SH J4
   simp only [E,cond_true,r7 hl (show l.length<fu by omega),AB]
   cases O:l.contains i
   · rw [Bool.not_false,cond_true,J out ⟨m,AC,A⟩,List.filter_cons_of_neg (by rw [O]; simp)]
   · rw [Bool.not_true,cond_false,L _ out i ⟨by have:=A.1; omega,λg T=>by have:=A.2 g T; omega⟩,J _ ⟨m+1,AC,kC i A⟩,List.filter_cons_of_pos O,List.foldl_cons]
 · intro n out i E Q
   simp only [FF.eq_2]
   unfold SH
   simp only [E,cond_false]
   simp
theorem mP (r:Request):(BW 0 4).filter (Xs r).contains=Xs r :=
 ng ((W7 0 4).filter _) (XZ r) λx=>by
  rw [List.mem_filter,CE]
  constructor
  · rintro ⟨_,h⟩; simpa using h
  · intro h; have:=ma h; exact ⟨AC,by simpa using h⟩
theorem oI {fu:Nat} {r:Request} (h:Sm fu r):JM fu r=some (CD r):=by
 unfold JM CD
 rw [yO h,AB,wF h.pairs h.fu (by have:=gU r; omega),AB,mP]
theorem yZ {fu:Nat} {p:List Pair} (D:p.length≤1048576) (A:p.length<fu) (a b:Int):V0 fu p a b=some (VU p a b):=by
 unfold V0 VU
 simp only [rP D A,AB]
 cases KQ p a b <;> rfl
theorem mb {fu:Nat} {l:List Int} (f:Int→Option Bool) (g:Int→Bool) (E:∀ x∈l,f x=some (g x)) (hl:l.length≤1048576) (J:l.length<fu):EY fu l f=some (Vy g l 0):=by
 unfold EY
 refine TV l (λn i=>DE fu l f n i) g AC ?_ ?_ fu J
 · intro n i x D A
   simp only [DE.eq_2]
   unfold HT
   simp only [A,cond_true,D,AB,E x (DA D)]
 · intro n i A
   simp only [DE.eq_2]
   unfold HT
   simp only [A,cond_false]
theorem lf {fu:Nat} {l:List Int} (f:Int→Option Bool) (g:Int→Bool) (A:∀ x∈l,f x=some (g x)) (hl:l.length≤1048576) (D:l.length<fu):D1 fu l f=some (l.any g):=by
 unfold D1
 rw [mb f g A hl D,AB,Wo g l 0 AC]
theorem jt {fu:Nat} {l:List (List Int)} (f:List Int→Option Bool) (g:List Int→Bool) (E:∀ x∈l,f x=some (g x)) (hl:l.length≤1048576) (J:l.length<fu):EQ fu l f=some (Vy g l 0):=by
 unfold EQ
 refine TV l (λn i=>CY fu l f n i) g AC ?_ ?_ fu J
 · intro n i x D A
   simp only [CY.eq_2]
   unfold G3
   simp only [A,cond_true,D,AB,E x (DA D)]
 · intro n i A
   simp only [CY.eq_2]
   unfold G3
   simp only [A,cond_false]
theorem w2 {fu:Nat} {p:List Pair} (U:p.length≤1048576) (T:2097153≤fu) {l:List Int} (hl:l.length≤4) (Z:l.Pairwise (·<·)) (J:∀ c∈l,0≤c∧c<4):We fu p l=some (l.foldl (ZT p) []):=by
 unfold We
 rw [hC AC Z,AB]
 have:=XD l (λn out i=>GI fu p l n out i) (λA out=>some (A.foldl (ZT p) out)) (λA out=>(∃ m,m+A.length≤4∧dp m out)∧∀ c∈A,0≤c∧c<4) AC ?_ ?_ fu [] ⟨⟨0,by simpa using hl,AD,AD⟩,J⟩ AC
 · exact this
 · intro n out i c A Y E L V
   obtain ⟨⟨m,J,D⟩,M⟩:=L
   simp only [List.length_cons] at J
   have N:=M c AD
   simp only [GI.eq_2]
   unfold SX LG
   simp only [E,cond_true,Y,AB,Ys]
   rw [show CW c 0 3=true by simp; omega,Bool.not_true,cond_false]
   rw [jt (λy=>Sg fu y p c) (λg=>g.all (VU p c)) (λg Q=>by
    have h:=D.2 g Q
    unfold Sg
    rw [lf (λy=>NV fu y p c) (λx=>!VU p c x) (λx _=>by
     unfold NV
     rw [yZ U AC,AB]) AC AC,AB]
    simp [List.any_eq_not_all_not]) (by have:=D.1; omega) (by have:=D.1; omega),AB]
   rw [tn (p:=p) D AC (λx=>GI fu p l n x (AK (i+1))) (Vy (λg=>g.all (VU p c)) out 0) (by
    rw [bd]
    cases TO (λg=>g.all (VU p c)) out <;> simp)]
   rw [V _ ⟨⟨m+1,AC,kC c D⟩,λy O=>M y (by simp [O])⟩]
   rfl
 · intro n out i E L
   simp only [GI.eq_2]
   unfold SX
   simp only [E,cond_false]
   rfl
theorem nM {fu:Nat} {r:Request} (h:Sm fu r):JH fu r=some (CD r):=by
 unfold JH
 rw [Xo h,AB]
 by_cases A:CA r=0
 · rw [show (CA r==0)=true by simp [A],Bool.not_true,cond_false,yz h,AB,w2 h.pairs h.fu (gU r) (XZ r) (λc A=>ma A),AB]
   rfl
 · rw [show (CA r==0)=false by simp [A],Bool.not_false,cond_true]
   unfold CD Xs
   rw [show (CA r==0)=false by simp [A],cond_false]
   rfl
theorem oy (r:Request):AK (((CD r).length:Int) - 1)=((CD r).length:Int) - 1:=by
 have:=(SA r).1
 exact AU AC AC
theorem mr {fu:Nat} (n:Nat) (L:n≤1048576) (J:n<fu):RG fu (n:Int)=some (BW 0 n):=by
 unfold RG
 have:=cp (n:Int) (λk out i=>J8 fu (n:Int) k out i) (λA out=>some (out++A)) (λA out=>out.length+A.length≤1048576) AC ?_ ?_ n fu [] 0 AC AC J (by simpa [B5] using L)
 · simpa using this
 · intro k out i A N O D E M
   simp only [List.length_cons] at E
   simp only [J8.eq_2]
   unfold SS
   rw [D,cond_true,KU AJ,AB,M _ AJ]
   simp
 · intro k out i D E
   simp only [J8.eq_2]
   unfold SS
   simp only [D,cond_false]
   simp
theorem pB {α:Type} (g:α→Bool):∀ (l pre:List α),(Vy g l pre.length=-1∧∀ x∈l,g x=false)∨(∃ a x b,l=a++x::b∧(∀ y∈a,g y=false)∧g x=true∧Vy g l pre.length=((pre.length+a.length:Nat):Int))
 | [],pre=>.inl ⟨rfl,AD⟩
 | x::xs,pre=>by
  simp only [Vy]
  by_cases J:g x=true
  · rw [J,cond_true]; exact .inr ⟨[],x,xs,rfl,AD,J,AD⟩
  · have A:g x=false:=by simpa using J
    rw [A,cond_false]
    have:=pB g xs (pre++[x])
    simp only [List.length_append,List.length_singleton] at this
    rw [show ((pre.length+1:Nat):Int)=(pre.length:Int)+1 by omega] at this
    rcases this with ⟨E,D⟩ | ⟨a,y,b,E,D,M,L⟩
    · exact .inl ⟨E,by simpa [A] using D⟩
    · exact .inr ⟨x::a,y,b,by simp [E],by simpa [A] using D,M,by rw [L]; simp; omega⟩
theorem ym {fu:Nat} {l:List Int} (f:Int→Option Bool) (g:Int→Bool) (hg:∀ x∈l,f x=some (g x)) (hl:l.length≤1048576) (hf:l.length<fu):GM fu l f=some (l.filter λx=>!g x):=by
 unfold GM
 rw [mb f g hg hl hf,AB]
 have e:=pB g l []
 simp only [List.length_nil,Nat.zero_add] at e
 rcases e with ⟨M,Y⟩ | ⟨a,x,b,M,Y,h3,h4⟩
 · have h:Vy g l 0=-1:=M
   rw [h,AX AD]
   congr 1
   exact (List.filter_eq_self.2 λy T=>by simp [Y y T]).symm
 · have U:Vy g l 0=(a.length:Int):=h4
   rw [U,AM AD]
   have Q:∀ (rest A D pre:List Int) (n:Nat),l=pre++rest→A=pre.filter (λx=>!g x)→D≠[]→A.length+D.length=pre.length→rest.length<n →
       CB fu f n (A++D++rest) (A.length:Int) (pre.length:Int)=some (l.filter λx=>!g x):=by
    intro rest
    induction rest with
    | nil =>
     intro A D pre n J O e3 e4 V
     obtain ⟨n,rfl⟩:∃ j,n=j+1:=⟨n - 1,AC⟩
     rw [CB.eq_2]
     unfold G5
     simp only [List.append_nil] at *
     subst J
     rw [AM AJ,OP ⟨AC,AJ,AC⟩,AB,OP ⟨AC,AC,by simp [ZU]; omega⟩,AB]
     rw [← O]
     simp [ZU]
    | cons y rest ih =>
     intro A D pre n J O e3 e4 V
     obtain ⟨n,rfl⟩:∃ j,n=j+1:=⟨n - 1,by simp at V; omega⟩
     have L:l.length=pre.length+(rest.length+1):=by rw [J]; simp
     have Z:y∈l:=by rw [J]; simp
     obtain ⟨m,E,rfl⟩:∃ m E,D=m::E:=by
      cases D with
      | nil=>exact absurd rfl e3
      | cons m E=>exact ⟨m,E,rfl⟩
     simp only [List.length_cons] at e4 V
     have hx:ix (A++(m::E)++y::rest) (pre.length:Int)=some y:=by
      rw [EG,List.getElem?_append_right AJ]
      simp only [List.length_append,List.length_cons]
      rw [show pre.length - (A.length+(E.length+1))=0 by omega]; rfl
     have hk:ix (A++(m::E)++y::rest) (A.length:Int)=some m:=by
      rw [EG]; simp
     rw [CB.eq_2]
     unfold G5 FE
     rw [AX AJ,hx,AB,hg y Z,AB]
     cases N:g y
     · rw [Bool.not_false,cond_true,hk,AB,Yk _ AC,Yk _ AC]
       have e5:DB (A++(m::E)++y::rest) (A.length:Int) y=(A++[y])++(E++[y])++rest:=by simp [DB]
       rw [e5]
       have:=ih (A++[y]) (E++[y]) (pre++[y]) n (by simp [J]) (by rw [O,List.filter_append]; simp [N]) AD AJ AC
       simp only [List.length_append,List.length_singleton] at this
       exact this
     · rw [Bool.not_true,cond_false,Yk _ AC]
       have:=ih A ((m::E)++[y]) (pre++[y]) n (by simp [J]) (by rw [O,List.filter_append]; simp [N]) AD AJ AC
       simp only [List.length_append,List.length_singleton] at this
       rw [show A++(m::E)++y::rest=A++((m::E)++[y])++rest by simp]
       exact this
   have L:l.length=a.length+(b.length+1):=by rw [M]; simp
   have ha:a.filter (λx=>!g x)=a:=List.filter_eq_self.2 λy T=>by simp [Y y T]
   have:=Q b a [x] (a++[x]) fu (by simp [M]) (by rw [List.filter_append,ha]; simp [h3]) AD AD AC
   rw [Yk _ AC]
   simp only [List.length_append,List.length_singleton] at this
   rw [show a++[x]++b=l by simp [M]] at this
   exact this
def bR (keys:List Int) (p:Int):Int:=- kf keys p
theorem sA {fu:Nat} {keys:List Int} (A:2097153≤fu) (hl:keys.length≤1048576):JK fu keys=some (jM (bR keys) keys.length):=by
 unfold JK N7
 rw [mj keys.length hl AC,AB]
 obtain ⟨m,rfl⟩:∃ m,fu=m+1:=⟨fu - 1,AC⟩
 rw [ka true A m _ (by rw [B5]; omega) (by rw [B5]; omega) (λp D=>by have:=CE.1 D; omega),AB]
 congr 1
 have e:dk keys true=bR keys:=rfl
 rw [e]
 exact fo (UK _ _ _) (Xq _ _ _ (by rw [B5]; omega) (W7 _ _))
def X9 (k:Int→Int) (x:Int):List Int→List Int→List Int
 | [],mid=>x::mid
 | y::ys,mid=>if k x<k y then X9 k x ys (y::mid) else (y::ys).reverse++x::mid
theorem bU (k:Int→Int) (x:Int):∀ (ys A:List Int),(X9 k x ys A).Perm (ys.reverse++x::A)
 | [],A=>List.Perm.refl _
 | y::ys,A=>by
  unfold X9
  split
  · refine (bU k x ys (y::A)).trans ?_
    rw [List.reverse_cons,List.append_assoc]
    refine List.Perm.append_left _ ?_
    exact List.Perm.swap _ _ _
  · exact List.Perm.refl _
theorem dh (k:Int→Int) (x:Int):∀ (ys D:List Int),(ys.reverse++D).Pairwise (lx k)→(∀ m∈D,lx k x m)→(∀ p∈ys,p<x)→(X9 k x ys D).Pairwise (lx k)
 | [],D,h,hm,_=>by
  unfold X9
  exact List.pairwise_cons.2 ⟨hm,by simpa using h⟩
 | y::ys,D,h,hm,hy=>by
  unfold X9
  rw [List.reverse_cons,List.append_assoc] at h
  split
  · rename_i Q
    refine dh k x ys (y::D) (by simpa using h) ?_ (λp U=>hy p (by simp [U]))
    intro m A
    rcases List.mem_cons.1 A with rfl | A
    · exact .inl Q
    · exact hm m A
  · rename_i Q
    have J:lx k y x:=by
     have:=hy y AD
     by_cases V:k y<k x
     · exact .inl V
     · exact .inr ⟨AC,this⟩
    rw [List.reverse_cons,List.append_assoc]
    obtain ⟨Y,O,M⟩:=List.pairwise_append.1 h
    simp only [List.singleton_append] at O M
    refine List.pairwise_append.2 ⟨Y,?_,?_⟩
    · simp only [List.singleton_append]
      obtain ⟨T,Z⟩:=List.pairwise_cons.1 O
      refine List.pairwise_cons.2 ⟨?_,List.pairwise_cons.2 ⟨hm,Z⟩⟩
      intro m A
      rcases List.mem_cons.1 A with rfl | A
      · exact J
      · exact T m A
    · intro a N b L
      simp only [List.singleton_append,List.mem_cons] at L
      have E:=M a N y AD
      rcases L with rfl | rfl | L
      · exact E
      · exact rh E J
      · exact M a N b (by simp [L])
theorem mF (k:Int→Int) (x:Int):∀ (ys A rest:List Int),X9 k x ys (A++rest)=X9 k x ys A++rest
 | [],A,rest=>rfl
 | y::ys,A,rest=>by
  unfold X9
  split
  · exact mF k x ys (y::A) rest
  · simp
theorem xC {A:List Int} {y:Int} {B:List Int} {n:Nat} (h:A.length=n):ix (A++y::B) (n:Int)=some y:=by subst h; rw [EG]; simp
theorem tw {A:List Int} {y z:Int} {B:List Int} {n:Nat} (h:A.length=n):DB (A++y::B) (n:Int) z=A++z::B:=by subst h; simp [DB]
theorem lb {fu:Nat} {f:Int→Int→Option Int} {k:Int→Int} (J:List Int→Int→Option (List Int)) (E:Int) (L:∀ a b c,f a b=some c→(c<0↔k a<k b)) (x:Int) :
    ∀ (ys A:List Int) (n:Nat),(∀ p∈ys,∃ c,f x p=some c)→ys.length<n→ys.length≤1048576→BP fu J 0 f E n (ys.reverse++x::A) (ys.length:Int)=J (X9 k x ys A) (AK (E+1))
 | [],A,n,_,hn,_=>by
  obtain ⟨n,rfl⟩:∃ j,n=j+1:=⟨n - 1,AC⟩
  rw [BP.eq_2]
  unfold EZ X9
  rw [AM AD]; rfl
 | y::ys,A,n,hy,hn,hl=>by
  simp only [List.length_cons] at hn hl
  obtain ⟨n,rfl⟩:∃ j,n=j+1:=⟨n - 1,AC⟩
  obtain ⟨c,M⟩:=hy y AD
  have Q:AK (((y::ys).length:Int) - 1)=(ys.length:Int):=by simp only [List.length_cons]; rw [AU AC AC]; omega
  have U:(y::ys).reverse++x::A=ys.reverse++y::x::A:=AD
  have N:ix ((y::ys).reverse++x::A) ((y::ys).length:Int)=some x:=xC AD
  have O:ix ((y::ys).reverse++x::A) (ys.length:Int)=some y:=by rw [U]; exact xC AD
  rw [BP.eq_2]
  unfold EZ X9
  rw [AX AD,N,AB,Q,O,AB,M,AB]
  by_cases D:k x<k y
  · rw [if_pos D,decide_eq_true ((L _ _ _ M).2 D),cond_true]
    unfold FL
    have V:DB ((y::ys).reverse++x::A) ((y::ys).length:Int) y=(y::ys).reverse++y::A:=tw AD
    have Y:ix ((y::ys).reverse++y::A) (ys.length:Int)=some y:=by rw [show (y::ys).reverse++y::A=ys.reverse++y::y::A by simp]; exact xC AD
    have Z:DB ((y::ys).reverse++y::A) (ys.length:Int) x=ys.reverse++x::y::A:=by rw [show (y::ys).reverse++y::A=ys.reverse++y::y::A by simp]; exact tw AD
    rw [Q,O,AB,N,AB,AB,V,Y,AB,Z]
    exact lb J E L x ys (y::A) n (λp T=>hy p (by simp [T])) AC AC
  · rw [if_neg D,decide_eq_false (λh=>D ((L _ _ _ M).1 h)),cond_false]
def ni (k:Int→Int):List Int→List Int→List Int
 | P,[]=>P
 | P,x::xs=>ni k (X9 k x P.reverse []) xs
theorem jk (k:Int→Int):∀ (A P:List Int),P.Pairwise (lx k)→(∀ p∈P,∀ x∈A,p<x)→A.Pairwise (·<·)→(ni k P A).Perm (P++A)∧(ni k P A).Pairwise (lx k)
 | [],P,h,_,_=>by simpa [ni] using h
 | x::A,P,h,hp,hx=>by
  obtain ⟨Q,N⟩:=List.pairwise_cons.1 hx
  have O:(X9 k x P.reverse []).Pairwise (lx k):=dh k x P.reverse [] (by simpa using h) AD (λp D=>hp p (by simpa using D) x AD)
  have E:(X9 k x P.reverse []).Perm (P++[x]):=by simpa using bU k x P.reverse []
  have M:=jk k A (X9 k x P.reverse []) O (λp D y L=>by
   rcases List.mem_append.1 (E.mem_iff.1 D) with J | J
   · exact hp p J y (by simp [L])
   · rw [List.mem_singleton.1 J]; exact Q y L) N
  refine ⟨?_,M.2⟩
  unfold ni
  refine M.1.trans ?_
  refine (E.append_right A).trans ?_
  simp
theorem ph {fu:Nat} {f:Int→Int→Option Int} {k:Int→Int} (Q:2097153≤fu) (Y:∀ a b c,f a b=some c→(c<0↔k a<k b)) {n:Nat} (Z:n≤1048576) (N:∀ a b:Int,0≤a→a<n→0≤b→b<n→∃ c,f a b=some c) :
    ∀ (A P:List Int) (m:Nat),A.length<m→P.length+A.length=n→(∀ p∈P++A,0≤p∧p<n)→A7 fu 0 (n:Int) f m (P++A) (P.length:Int)=some (ni k P A)
 | [],P,m,hm,hl,_=>by
  obtain ⟨m,rfl⟩:∃ j,m=j+1:=⟨m - 1,AC⟩
  simp only [List.length_nil] at hl
  rw [A7.eq_2]
  unfold DL
  rw [AM AJ]; simp [ni]
 | x::A,P,m,hm,hl,hp=>by
  simp only [List.length_cons] at hl hm
  obtain ⟨m,rfl⟩:∃ j,m=j+1:=⟨m - 1,AC⟩
  rw [A7.eq_2]
  unfold DL
  rw [AX AJ]
  have L:=lb (fu:=fu) (f:=f) (k:=k) (A7 fu 0 (n:Int) f m) (P.length:Int) Y x P.reverse A fu (λp D=>by
   have U:=hp p (by simp at D; simp [D])
   have V:=hp x AD
   exact N x p V.1 V.2 U.1 U.2) AJ AJ
  rw [List.reverse_reverse,List.length_reverse] at L
  rw [L,Yk _ AC]
  have e:X9 k x P.reverse A=X9 k x P.reverse []++A:=by
   have:=mF k x P.reverse [] A
   simpa using this
  have M:(X9 k x P.reverse []).Perm (P++[x]):=by simpa using bU k x P.reverse []
  have J:(X9 k x P.reverse []).length=P.length+1:=by rw [M.length_eq]; simp
  rw [e]
  have T:=ph Q Y Z N A (X9 k x P.reverse []) m AC AC (λp D=>by
   rcases List.mem_append.1 D with O | O
   · rcases List.mem_append.1 (M.mem_iff.1 O) with E | E
     · exact hp p (by simp [E])
     · exact hp p (by rw [List.mem_singleton.1 E]; simp)
   · exact hp p (by simp [O]))
  rw [J] at T
  rw [T]; rfl
theorem yW (fu:Nat) (a b:Int):∃ c,U5 fu a b=some c∧(c<0↔a<b):=by
 unfold U5
 by_cases h:a<b
 · exact ⟨-1,by simp [h],by simp [h]⟩
 · by_cases A:a>b
   · exact ⟨1,by simp [h,A],by simp [h]⟩
   · exact ⟨0,by simp [h,A],by simp [h]⟩
theorem su {fu:Nat} {keys:List Int} (N:2097153≤fu) (hl:keys.length<20):JG fu keys=some (jM (bR keys) keys.length):=by
 unfold JG HU Kt
 rw [mr _ AC AC,AB]
 obtain ⟨f,E⟩:∃ f:Int→Int→Option Int,f=λa b=>G6 fu a b keys:=⟨_,rfl⟩
 have D:∀ a b:Int,0≤a→a<keys.length→0≤b→b<keys.length→∃ c,f a b=some c∧(c<0↔bR keys a<bR keys b):=by
  intro a b M U hb T
  obtain ⟨c,A,L⟩:=yW fu (kf keys b) (kf keys a)
  refine ⟨c,?_,?_⟩
  · rw [E]
    show G6 fu a b keys=_
    unfold G6
    rw [gV ⟨hb,T⟩,AB,gV ⟨M,U⟩,AB,A,AB]
  · rw [L]; unfold bR; omega
 have hf:∀ a b c,f a b=some c→(c<0↔bR keys a<bR keys b):=by
  intro a b c h
  have h0:=h
  rw [E] at h
  change G6 fu a b keys=_ at h
  unfold G6 at h
  obtain ⟨x,Q,h⟩:=XF h
  obtain ⟨y,V,h⟩:=XF h
  obtain ⟨b0,b1,_⟩:=AG Q
  obtain ⟨a0,Y,_⟩:=AG V
  obtain ⟨d,A,L⟩:=D a b a0 Y b0 b1
  rw [h0] at A
  cases A
  exact L
 have M:=ph (fu:=fu) (f:=f) (k:=bR keys) N hf (n:=keys.length) AC (λa b A L h3 Z=>by obtain ⟨c,h,_⟩:=D a b A L h3 Z; exact ⟨c,h⟩)
 have hI:DG fu (BW 0 keys.length) 0 ((BW 0 keys.length).length:Int) f=some (jM (bR keys) keys.length):=by
  unfold DG
  rw [B5,show AK ((0:Int)+1)=1 by rw [AU AC AC]; rfl]
  cases hk:keys.length with
  | zero =>
   obtain ⟨m,rfl⟩:∃ m,fu=m+1:=⟨fu - 1,AC⟩
   rw [A7.eq_2]
   unfold DL
   rw [AM AD]; rfl
  | succ n =>
   rw [hk] at M
   have:=M (BW 1 n) [0] fu (by rw [B5]; omega) (by rw [B5]; simp; omega) (λp O=>by
    have:p∈BW 0 (n+1):=O
    have:=CE.1 this
    omega)
   have e:BW 0 (n+1)=[0]++BW 1 n:=rfl
   rw [e]
   have A:(([0]:List Int).length:Int)=1:=rfl
   rw [A] at this
   rw [this]
   congr 1
   have J:=jk (bR keys) (BW 1 n) [0] AD (λp O x Q=>by
    have:=CE.1 Q
    rw [List.mem_singleton.1 O]; omega) (W7 _ _)
   exact fo J.1 J.2
 obtain ⟨m,rfl⟩:∃ m,fu=m+1:=⟨fu - 1,AC⟩
 rw [FN.eq_2]
 unfold K8
 rw [AM (by rw [B5]; simp; omega)]
 rw [← E,hI,AB,DD.eq_2]
 unfold K7
 rw [AM (by rw [B5]; simp; omega)]
 rfl
theorem ya {w h d:Int} (E:(CW w 0 2000&&(CW h 0 2000&&CW d 0 2000))=true):AK ((AK (w*h))*d)=w*h*d:=by
 simp only [Bool.and_eq_true,BS] at E
 obtain ⟨⟨Q,J⟩,⟨D,L⟩,A,O⟩:=E
 have N:0≤w*h:=Int.mul_nonneg Q D
 have M:w*h≤2000*2000:=Int.mul_le_mul J L D AC
 have U:0≤w*h*d:=Int.mul_nonneg N A
 have T:w*h*d≤2000*2000*2000:=Int.mul_le_mul M O A AC
 rw [AU (n:=w*h) AC AC,AU AC AC]
theorem sZ (fu:Nat) (w h d:Int):MP fu w h d=some (bV w h d):=by
 unfold MP VM bV
 simp only [XT,AB]
 cases E:CW w 0 2000 <;> cases A:CW h 0 2000 <;> cases D:CW d 0 2000 <;> simp only [Bool.not_true,Bool.not_false,cond_true,cond_false,Bool.and_true,Bool.and_false]
 rw [ya (by simp only [E,A,D]; rfl)]
theorem wa (fu:Nat) (w h d:Int):RJ fu w h d=some (bV w h d):=by
 unfold RJ VJ bV
 simp only [Ys,AB]
 cases E:CW w 0 2000 <;> cases A:CW h 0 2000 <;> cases D:CW d 0 2000 <;> simp only [Bool.not_true,Bool.not_false,cond_true,cond_false,Bool.and_true,Bool.and_false]
 rw [ya (by simp only [E,A,D]; rfl)]
def LL (r:Request) (u:Int):Item:=(XO r u).getD jp
theorem eu (r:Request):AK (((CP r).length:Int) - 1)=((CP r).length:Int) - 1:=by
 have:=Yr r
 exact AU AC AC
theorem kQ (fu:Nat) (r:Request) (u:Int):K1 fu r (CP r) u=some (LL r u,(XO r u).isSome):=by
 unfold K1 LL
 rw [eu,XT,AB]
 by_cases h:0≤u∧u<(CP r).length
 · obtain ⟨i,x,E,A,D⟩:=k6 h
   rw [AM AJ,E,AB,A,AB,D]
   rfl
 · rw [AX (by simp [CW]; omega),ik h]
   rfl
theorem rj:gL jp=0:=by simp [gL,bV,jp]
theorem ef {fu:Nat} {r:Request} (h:Sm fu r) (us:List Int) (hl:us.length≤1048576) (Q:us.length<fu):KA fu r us=some (Wu r us):=by
 unfold KA
 rw [nF h,AB]
 have A:=XD us (λn s i=>GS fu r us (CP r) n s i) (λl out=>some (out++Wu r l)) (λl out=>out.length+l.length≤1048576) AC ?_ ?_ fu [] (by simpa using hl) Q
 · simpa using A
 · intro n s i x U L D O E
   simp only [GS.eq_2]
   unfold Rn ND
   simp only [D,cond_true,L,AB,eu,Ys]
   simp only [List.length_cons] at O
   by_cases J:0≤x∧x<(CP r).length
   · obtain ⟨_,y,M,N,T⟩:=k6 J
     rw [AX AJ,M,AB,N,AB,KU AJ,AB,E _ AJ]
     simp [Wu,List.filterMap_cons,T]
   · rw [AM (by simp [CW]; omega),E _ AC]
     simp [Wu,List.filterMap_cons,ik J]
 · intro n s i D _
   simp only [GS.eq_2]
   unfold Rn
   simp only [D,cond_false]
   simp [Wu]
theorem oe {fu:Nat} {r:Request} (h:Sm fu r) (us:List Int) (hl:us.length≤1048576) (O:us.length<fu):MD fu r us=some (Vo r us):=by
 unfold MD
 rw [ef h us hl O,AB]
 have E:=Y7 r us
 have A:=XD (Wu r us) (λn s i=>H8 fu (Wu r us) n s i) (λl n=>some (n+IM (l.map gL))) (λl n=>0≤n∧n+8000000000*l.length≤8000000000*1048576) AC ?_ ?_ fu 0 ⟨AC,AC⟩ AC
 · simpa [Vo] using A
 · intro n s i x Q L D N J
   simp only [H8.eq_2]
   unfold OY
   simp only [D,cond_true,L,AB,wa]
   have T:=pQ x.fW x.fH x.fD
   have M:=N.2
   simp only [List.length_cons] at M
   rw [AU AC AC,J _ ⟨AC,AC⟩]
   simp only [List.map_cons,ED,gL]
   congr 1
   omega
 · intro n s i D _
   simp only [H8.eq_2]
   unfold OY
   simp only [D,cond_false]
   simp
end Go.Proofs.YtdgpkmgnjdpieaaGreatDoor
