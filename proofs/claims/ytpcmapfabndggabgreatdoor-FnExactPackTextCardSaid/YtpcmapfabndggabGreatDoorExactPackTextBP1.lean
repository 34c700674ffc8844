/- ExactPackTextBP: pla.. -/
import Derived.Test.YtpcmapfabndggabGreatDoorExactPackTextBD
import Derived.Test.YtpcmapfabndggabGreatDoorM3
set_option linter.unusedSimpArgs false
set_option linter.unusedVariables false
namespace Go.Proofs.YtpcmapfabndggabGreatDoor
open Go
open Enc (rd ow)
open Arg (argv)
open Ret (retv)
open Wf (wf)
theorem Q5t {fu:Nat} (n:Nat) (hn:n≤1048576) (hf:n<fu):Qjc fu (n:Int)=some (Qnw 0 n):=by
 unfold Qjc
 have key:∀ (m i k:Nat),n - i=m→i≤n→m<k→Qfj fu (n:Int) k (Qnw 0 i) (i:Int)=some (Qnw 0 n):=by
  intro m
  induction m with
  | zero =>
   intro i k hm hi hk
   obtain ⟨k,rfl⟩:∃ j,k=j+1:=⟨k - 1,by omega⟩
   have:i=n:=by omega
   subst this
   rw [Qfj.eq_2]
   unfold Qi1
   simp
  | succ m ih =>
   intro i k hm hi hk
   obtain ⟨k,rfl⟩:∃ j,k=j+1:=⟨k - 1,by omega⟩
   rw [Qfj.eq_2]
   unfold Qi1
   rw [Qa0 (by simp; omega),ap1 (by rw [Qcn]; simp; omega),Qab,Qxc i (by omega)]
   have e:=Q8k 0 i
   rw [Int.zero_add] at e
   rw [← e]
   exact ih (i+1) k (by omega) (by omega) (by omega)
 exact key n 0 fu (by omega) (by omega) hf
def dk (keys:List Int) (Quk:Bool) (p:Int):Int:=bif Quk then - kf keys p else kf keys p
theorem Q37 {keys:List Int} {p:Int} (h:0≤p∧p<keys.length):ix keys p=some (kf keys p):=by
 have h1:p.toNat<keys.length:=by omega
 unfold kf ix
 rw [if_pos h.1,List.getElem?_eq_getElem h1]
 rfl
theorem Jht {fu:Nat} {keys a b:List Int} (Quk:Bool) (ha:∀ p∈a,0≤p∧p<keys.length) (hb:∀ p∈b,0≤p∧p<keys.length) (hla:a.length≤1048576) (hlb:b.length≤1048576) :
    ∀ (m:Nat) (n:Nat) (out:List Int) (i j:Nat),i≤a.length→j≤b.length→(a.length - i)+(b.length - j)=m→m<n→out.length+m≤2097152 →
     Qcq fu keys Quk a b n out i j=some (out++mrg (dk keys Quk) (a.drop i) (b.drop j)):=by
 intro m
 induction m with
 | zero =>
  intro n out i j hi hj hm hn ho
  obtain ⟨n,rfl⟩:∃ k,n=k+1:=⟨n - 1,by omega⟩
  rw [Qcq.eq_2]
  unfold Qkb
  rw [Qam (by simp; omega),Qam (by simp; omega),List.drop_of_length_le (show a.length≤i by omega),List.drop_of_length_le (show b.length≤j by omega)]
  simp [mrg]
 | succ m ih =>
  intro n out i j hi hj hm hn ho
  obtain ⟨n,rfl⟩:∃ k,n=k+1:=⟨n - 1,by omega⟩
  have hL:Qcq fu keys Quk a b (n+1) out i j=Qhc fu (Qcq fu keys Quk a b n) keys Quk a b out i j:=by
   rw [Qcq.eq_2]
   unfold Qkb
   by_cases h:i<a.length
   · rw [Qa0 (by simpa using h)]
   · rw [Qam (by simpa using h),Qa0 (by simp; omega)]
  have tA:∀ (h:i<a.length),(Qfh 8 out [a[i]])=some (out++[a[i]]):=λh=>ap1 (by simp; omega)
  have tB:∀ (h:j<b.length),(Qfh 8 out [b[j]])=some (out++[b[j]]):=λh=>ap1 (by simp; omega)
  have nA:∀ (h:i<a.length),Qcq fu keys Quk a b n (out++[a[i]]) (w64 ((i:Int)+1)) j=some (out++a[i]::mrg (dk keys Quk) (a.drop (i+1)) (b.drop j)):=λh=>by
   rw [Qxc i (by omega),ih n (out++[a[i]]) (i+1) j (by omega) hj (by omega) (by omega) (by simp; omega)]
   simp
  have nB:∀ (h:j<b.length),Qcq fu keys Quk a b n (out++[b[j]]) i (w64 ((j:Int)+1))=some (out++b[j]::mrg (dk keys Quk) (a.drop i) (b.drop (j+1))):=λh=>by
   rw [Qxc j (by omega),ih n (out++[b[j]]) i (j+1) hi (by omega) (by omega) (by omega) (by simp; omega)]
   simp
  rw [hL]
  unfold Qhc
  by_cases hjb:j=b.length
  · have h:i<a.length:=by omega
    rw [Qa0 (by simp [hjb]),Qy1 h,Qab,tA h,Qab,nA h,List.drop_of_length_le (show b.length≤j by omega),Q76,Q76,← List.drop_eq_getElem_cons h]
  · have hj':j<b.length:=by omega
    rw [Qam (by simp; omega)]
    by_cases hia:i=a.length
    · rw [Qa0 (by simp [hia]),Qy1 hj',Qab,tB hj',Qab,nB hj',List.drop_of_length_le (show a.length≤i by omega)]
      have e1:∀ l,mrg (dk keys Quk) [] l=l:=λl=>by rw [mrg]
      rw [e1,e1,← List.drop_eq_getElem_cons hj']
    · have hi':i<a.length:=by omega
      rw [Qam (by simp; omega)]
      simp only [Qy1 hi',Qy1 hj',Qab,Q37 (ha _ (List.getElem_mem hi')),Q37 (hb _ (List.getElem_mem hj')),tA hi',tB hj',nA hi',nB hj']
      rw [List.drop_eq_getElem_cons hi',List.drop_eq_getElem_cons hj',Qu8,← List.drop_eq_getElem_cons hi',← List.drop_eq_getElem_cons hj']
      have hx:dk keys Quk a[i]=bif Quk then - kf keys a[i] else kf keys a[i]:=rfl
      have hy:dk keys Quk b[j]=bif Quk then - kf keys b[j] else kf keys b[j]:=rfl
      rw [hx,hy]
      generalize kf keys a[i]=x
      generalize kf keys b[j]=y
      cases Quk
      · by_cases hc:y<x
        · rw [if_pos (by simpa using hc)]; simp [hc]
        · rw [if_neg (by simpa using hc)]
          have:decide (y>x)=true∨decide (y>x)=false:=by cases decide (y>x) <;> simp
          rcases this with h | h <;> simp [hc,h]
      · by_cases hc:x<y
        · have h:¬ y<x:=by omega
          rw [if_pos (by simpa using hc)]; simp [hc,h]
        · rw [if_neg (by simpa using hc)]
          have h:decide (y<x)=true∨decide (y<x)=false:=by cases decide (y<x) <;> simp
          rcases h with h | h <;> simp [hc,h]
theorem Q5l {fu:Nat} {keys:List Int} (Quk:Bool) (hfu:2097153≤fu):∀ (n:Nat) (l:List Int),l.length≤n→l.length≤1048576→(∀ p∈l,0≤p∧p<keys.length) →
    Qhy fu (n+1) keys l Quk=some (msr (dk keys Quk) (n+1) l)
 | n,l,hn,hl,hm=>by
  rw [Qhy.eq_2]
  unfold Qq1 msr
  by_cases h2:l.length<2
  · rw [Qa0 (by simp; omega),if_pos h2,ap1 (by simp; omega)]; rfl
  · rw [Qam (by simp; omega),if_neg h2]
    have hd:Int.tdiv (l.length:Int) 2=((l.length / 2:Nat):Int):=by simp [Int.tdiv]
    obtain ⟨n,rfl⟩:∃ k,n=k+1:=⟨n - 1,by omega⟩
    rw [hd,Qa1 (by omega) (by omega),Qtb (by omega),Qtb (by omega),Qab]
    simp only [Int.toNat_natCast,Int.toNat_zero,List.drop_zero,Nat.sub_zero,Qab]
    rw [Q5l Quk hfu n (l.take (l.length / 2)) (by rw [List.length_take]; omega) (by rw [List.length_take]; omega) (λp hp=>hm p (List.mem_of_mem_take hp)),Qab]
    have e:(l.drop (l.length / 2)).take (l.length - l.length / 2)=l.drop (l.length / 2):=List.take_of_length_le (by rw [List.length_drop]; omega)
    rw [e,Q5l Quk hfu n (l.drop (l.length / 2)) (by rw [List.length_drop]; omega) (by rw [List.length_drop]; omega) (λp hp=>hm p (List.mem_of_mem_drop hp)),Qab]
    have hp1:=(Qr0 (dk keys Quk) (n+1) (l.take (l.length / 2)))
    have hp2:=(Qr0 (dk keys Quk) (n+1) (l.drop (l.length / 2)))
    have l1:=hp1.length_eq
    have l2:=hp2.length_eq
    rw [List.length_take] at l1
    rw [List.length_drop] at l2
    rw [show (0:Int)=((0:Nat):Int) from rfl]
    rw [Jht Quk (λp hp=>hm p (List.mem_of_mem_take (hp1.mem_iff.1 hp))) (λp hp=>hm p (List.mem_of_mem_drop (hp2.mem_iff.1 hp))) (by omega) (by omega) _ fu [] 0 0 (by omega) (by omega) rfl (by omega) (by simp; omega)]
    simp
theorem Jiw {fu:Nat} {keys:List Int} (hfu:2097153≤fu) (hl:keys.length≤1048576):Qn0 fu keys=some (srt (kf keys) keys.length):=by
 unfold Qn0 Qo0
 rw [Q5t keys.length hl (by omega),Qab]
 obtain ⟨m,rfl⟩:∃ m,fu=m+1:=⟨fu - 1,by omega⟩
 rw [Q5l false hfu m _ (by rw [Qcn]; omega) (by rw [Qcn]; omega) (λp hp=>by have:=Qh1.1 hp; omega),Qab]
 congr 1
 have e:dk keys false=kf keys:=rfl
 rw [e]
 exact Q0u (Qr0 _ _ _) (Qs1 _ _ _ (by rw [Qcn]; omega) (Quq _ _))
structure Sm (fu:Nat) (r:Request):Prop where
 fu:2097153≤fu
 pairs:r.fR.length≤1048576
 types:r.fG.length≤1048576
 items:r.fV.length≤1048576
theorem Q0h (fu:Nat) (n lo hi:Int):Qat fu n lo hi=some (inb n lo hi):=by
 unfold Qat inb
 by_cases h:lo≤n
 · simp [h]
 · simp [h]
theorem Q0l (fu:Nat) (n lo hi:Int):Qay fu n lo hi=some (inb n lo hi):=Q0h fu n lo hi
theorem Q6i (fu:Nat) (n:Int):Qee fu n=some (inb n 1 2000):=by unfold Qee; rw [Q0h]; rfl
theorem Jge (fu:Nat) (n:Int):Qnm fu n=some (inb n 0 999):=by unfold Qnm; rw [Q0h]; rfl
theorem Q8d (fu:Nat) (n:Int):Qds fu n=some (inb n 1 2000):=by unfold Qds; rw [Q0l]; rfl
theorem Jad (fu:Nat) (p:Pallet):Qgs fu p=some (Qu0 p):=by
 unfold Qgs Qu0
 simp only [Q6i,Q0h,Qab]
 cases inb p.fW 1 2000 <;> cases inb p.fD 1 2000 <;> cases inb p.fH 1 2000 <;> rfl
theorem Jg0 (fu:Nat) (p:Pallet):Qel fu p=some (Qu0 p):=by
 unfold Qel Qu0
 simp only [Q8d,Q0l,Qab]
 cases inb p.fW 1 2000 <;> cases inb p.fD 1 2000 <;> cases inb p.fH 1 2000 <;> rfl
theorem Jgw (fu:Nat) (t:Typ):Qqi fu t=some (Q1d t):=by
 unfold Qqi Q1d
 simp only [Q6i,Q0h,Jge,Qab]
 cases inb t.f4 0 999 <;> cases inb t.fW 1 2000 <;> cases inb t.fH 1 2000 <;> cases inb t.fD 1 2000 <;> cases inb t.fO 0 100000 <;> cases inb t.fQ 1 100000 <;> rfl
theorem Jg6 (fu:Nat) (t:Typ):Qp9 fu t=some (Q1d t):=by
 unfold Qp9 Q1d
 simp only [Q8d,Q0l,Qab]
 cases inb t.f4 0 999 <;> cases inb t.fW 1 2000 <;> cases inb t.fH 1 2000 <;> cases inb t.fD 1 2000 <;> cases inb t.fO 0 100000 <;> cases inb t.fQ 1 100000 <;> rfl
theorem Jif (fu:Nat) (t:Item):Qqp fu t=some (Qxe t):=by
 unfold Qqp Qxe
 simp only [Q6i,Q0h,Jge,Qab]
 cases inb t.f4 0 999 <;> cases inb t.fW 1 2000 <;> cases inb t.fH 1 2000 <;> cases inb t.fD 1 2000 <;> cases inb t.fQ 1 100000 <;> cases inb t.fM 0 3 <;> rfl
theorem Jhe (fu:Nat) (t:Item):Qqb fu t=some (Qxe t):=by
 unfold Qqb Qxe
 simp only [Q8d,Q0l,Qab]
 cases inb t.f4 0 999 <;> cases inb t.fW 1 2000 <;> cases inb t.fH 1 2000 <;> cases inb t.fD 1 2000 <;> cases inb t.fQ 1 100000 <;> cases inb t.fM 0 3 <;> rfl
def Jdw:List Item→Int→Option Bool
 | [],n=>some (decide (n≤12))
 | x::xs,n=>bif !Qxe x then some false else Jdw xs (w64 (n+x.fF))
theorem Q34:∀ (l:List Item) (n:Int),0≤n→n+6*l.length≤4611686018427387904→Jdw l n=some (l.all Qxe&&decide (n+Qw1 (l.map (·.fF))≤12))
 | [],n,_,_=>by simp [Jdw]
 | x::xs,n,h0,h1=>by
  unfold Jdw
  cases hx:Qxe x
  · simp [hx]
  · have hc:=hx
    simp only [Qxe,Bool.and_eq_true,Qdc] at hc
    have hc:=hc.2.2.2.2.2.2
    simp only [List.length_cons] at h1
    rw [Qa1 (by omega) (by omega)]
    simp only [Bool.not_true,cond_false]
    rw [Q34 xs (n+x.fF) (by omega) (by omega)]
    simp only [List.all_cons,hx,Bool.true_and,List.map_cons,Qrk,Int.add_assoc]
theorem Jh1 {fu:Nat} {r:Request} (h:Sm fu r):Qnj fu r=some (Q3d r):=by
 have hfu:=h.fu
 have h7:r.fV.length≤8→Qdt fu r fu 0 0=some (r.fV.all Qxe&&decide (Qw1 (r.fV.map (·.fF))≤12)):=by
  intro h8
  rw [lp r.fV (λn s i=>Qdt fu r n s i) Jdw (by have:=h.items; omega) ?_ ?_ fu 0 (by have:=h.items; omega),Q34 _ _ (by omega) (by have:=h.items; omega)]
  · simp
  · intro n s i x xs hx hd ih
    simp only [Qdt.eq_2]
    unfold Qiy
    simp only [hd,cond_true,hx,Qab,Jif,ih]
    rfl
  · intro n s i hd
    simp only [Qdt.eq_2]
    unfold Qiy
    simp only [hd,cond_false]
    rfl
 have h6:∀ b:Bool,(Qdt fu r fu 0 0=some b)→Qdx fu r fu 0=some (r.fG.all Q1d&&b):=by
  intro b hb
  refine lp r.fG (λn (_:Unit) i=>Qdx fu r n i) (λl _=>some (l.all Q1d&&b)) (by have:=h.types; omega) ?_ ?_ fu () (by have:=h.types; omega)
  · intro n s i x xs hx hd ih
    simp only [Qdx.eq_2]
    unfold Qio
    simp only [hd,cond_true,hx,Qab,Jgw,ih (),List.all_cons]
    cases Q1d x <;> rfl
  · intro n s i hd
    simp only [Qdx.eq_2]
    unfold Qio
    simp only [hd,cond_false,hb]
    rfl
 have h4:∀ b:Bool,(Qdx fu r fu 0=some b)→Qdr fu r fu 0=some (r.fR.all prB&&b):=by
  intro b hb
  refine lp r.fR (λn (_:Unit) i=>Qdr fu r n i) (λl _=>some (l.all prB&&b)) (by have:=h.pairs; omega) ?_ ?_ fu () (by have:=h.pairs; omega)
  · intro n s i x xs hx hd ih
    simp only [Qdr.eq_2]
    unfold Qir Qmt
    simp only [hd,cond_true,hx,Qab,Q0h,ih ()]
    simp only [List.all_cons,prB]
    cases inb x.fA 0 3 <;> cases inb x.fB 0 3 <;> rfl
  · intro n s i hd
    simp only [Qdr.eq_2]
    unfold Qir
    simp only [hd,cond_false,hb]
    rfl
 unfold Qnj Qmc Q3d
 simp only [Q0h,Jge,Jad,Qab]
 by_cases h8:r.fV.length≤8
 · rw [h4 _ (h6 _ (h7 h8))]
   have e8:decide ((r.fV.length:Int)>8)=false:=by simp; omega
   rw [e8]
   by_cases hp:r.fR.length≤16
   · have e16:decide ((r.fR.length:Int)>16)=false:=by simp; omega
     rw [e16]
     simp only [hp,h8,decide_true,cond_false,Bool.and_true]
     cases inb r.fe 0 1 <;> cases Qu0 r.fJ <;> cases inb r.fU 1 4 <;> cases inb (r.fG.length:Int) 1 5 <;> cases inb r.fT 0 999 <;> simp <;> cases r.fR.all prB <;> cases r.fG.all Q1d <;> rfl
   · have e16:decide ((r.fR.length:Int)>16)=true:=by simp; omega
     rw [e16]
     simp only [hp,decide_false,cond_true]
     cases inb r.fe 0 1 <;> cases Qu0 r.fJ <;> cases inb r.fU 1 4 <;> simp
 · have e8:decide ((r.fV.length:Int)>8)=true:=by simp; omega
   rw [e8]
   simp only [h8,decide_false,cond_true,Bool.and_false,Bool.false_and]
   cases inb r.fe 0 1 <;> cases Qu0 r.fJ <;> cases inb r.fU 1 4 <;> simp
def Qwm {α:Type} (g:α→Bool):List α→Int→Int
 | [],_=>-1
 | x::xs,i=>bif g x then i else Qwm g xs (i+1)
theorem Qs6 {α:Type} (g:α→Bool):∀ (l:List α) (i:Int),0≤i→decide (Qwm g l i≥0)=l.any g
 | [],i,_=>rfl
 | x::xs,i,h=>by
  simp only [Qwm,List.any_cons]
  by_cases hx:g x=true
  · simpa [hx] using h
  · simpa [hx] using Qs6 g xs (i+1) (by omega)
theorem Q2l {α:Type} (g:α→Bool):∀ (l pre:List α) ,(Qwm g l pre.length<0∧l.find? g=none)∨(0≤Qwm g l pre.length∧∃ x,l.find? g=some x∧ix (pre++l) (Qwm g l pre.length)=some x)
 | [],pre=>.inl ⟨by simp [Qwm],rfl⟩
 | x::xs,pre=>by
  simp only [Qwm]
  cases hx:g x
  · have:=Q2l g xs (pre++[x])
    simp only [List.length_append,List.length_singleton,List.append_assoc,List.singleton_append] at this
    simpa [List.find?_cons,hx] using this
  · refine .inr ⟨by simp,x,by simp [hx],?_⟩
    rw [cond_true,Qlf]
    simp
theorem Qta {α:Type} (l:List α) (L:Nat→Int→Option Int) (g:α→Bool) (hl:l.length≤1099511627776)
    (hs:∀ n (i:Int) x,ix l i=some x→decide (i<(l.length:Int))=true→L (n+1) i=bif g x then some i else L n (w64 (i+1)))
    (he:∀ n (i:Int),decide (i<(l.length:Int))=false→L (n+1) i=some (-1)) (n:Nat) (hn:l.length<n):L n 0=some (Qwm g l 0):=by
 have key:∀ (m i n:Nat),l.length - i=m→i≤l.length→m<n→L n (i:Int)=some (Qwm g (l.drop i) i):=by
  intro m
  induction m with
  | zero =>
   intro i n hm hi hn
   obtain ⟨n,rfl⟩:∃ k,n=k+1:=⟨n - 1,by omega⟩
   rw [List.drop_of_length_le (by omega),he n i (by simp; omega)]
   rfl
  | succ m ih =>
   intro i n hm hi hn
   obtain ⟨n,rfl⟩:∃ k,n=k+1:=⟨n - 1,by omega⟩
   have hlt:i<l.length:=by omega
   rw [hs n i _ (Qy1 hlt) (by simpa using hlt),List.drop_eq_getElem_cons hlt]
   simp only [Qwm]
   cases g l[i]
   · rw [cond_false,cond_false,Qxc i (by omega)]
     have:=ih (i+1) n (by omega) (by omega) (by omega)
     simpa using this
   · rfl
 simpa using key l.length 0 n (by omega) (by omega) hn
theorem Q5i {fu:Nat} {l:List Typ} (f:Typ→Option Bool) (g:Typ→Bool) (hg:∀ x∈l,f x=some (g x)) (hl:l.length≤1048576) (hf:l.length<fu):Qbh fu l f=some (Qwm g l 0):=by
 unfold Qbh
 refine Qta l (λn i=>Qa2 fu l f n i) g (by omega) ?_ ?_ fu hf
 · intro n i x hx hd
   simp only [Qa2.eq_2]
   unfold Qb9
   simp only [hd,cond_true,hx,Qab,hg x (Qml hx)]
 · intro n i hd
   simp only [Qa2.eq_2]
   unfold Qb9
   simp only [hd,cond_false]
theorem Q1b {fu:Nat} {l:List Typ} (f:Typ→Option Bool) (g:Typ→Bool) (hg:∀ x∈l,f x=some (g x)) (hl:l.length≤1048576) (hf:l.length<fu):Qau fu l f=some (l.any g):=by
 unfold Qau
 rw [Q5i f g hg hl hf,Qab,Qs6 g l 0 (by omega)]
theorem Q8r {fu:Nat} {l:List Pair} (f:Pair→Option Bool) (g:Pair→Bool) (hg:∀ x∈l,f x=some (g x)) (hl:l.length≤1048576) (hf:l.length<fu):Qb5 fu l f=some (Qwm g l 0):=by
 unfold Qb5
 refine Qta l (λn i=>Qa5 fu l f n i) g (by omega) ?_ ?_ fu hf
 · intro n i x hx hd
   simp only [Qa5.eq_2]
   unfold Qca
   simp only [hd,cond_true,hx,Qab,hg x (Qml hx)]
 · intro n i hd
   simp only [Qa5.eq_2]
   unfold Qca
   simp only [hd,cond_false]
theorem Q2i {fu:Nat} {l:List Pair} (f:Pair→Option Bool) (g:Pair→Bool) (hg:∀ x∈l,f x=some (g x)) (hl:l.length≤1048576) (hf:l.length<fu):Qa4 fu l f=some (l.any g):=by
 unfold Qa4
 rw [Q8r f g hg hl hf,Qab,Qs6 g l 0 (by omega)]
theorem Q6o {fu:Nat} {l:List Item} (f:Item→Option Bool) (g:Item→Bool) (hg:∀ x∈l,f x=some (g x)) (hl:l.length≤1048576) (hf:l.length<fu):Qby fu l f=some (Qwm g l 0):=by
 unfold Qby
 refine Qta l (λn i=>Qa3 fu l f n i) g (by omega) ?_ ?_ fu hf
 · intro n i x hx hd
   simp only [Qa3.eq_2]
   unfold Qcb
   simp only [hd,cond_true,hx,Qab,hg x (Qml hx)]
 · intro n i hd
   simp only [Qa3.eq_2]
   unfold Qcb
   simp only [hd,cond_false]
theorem Qx9 {fu:Nat} {l:List Item} (f:Item→Option Bool) (g:Item→Bool) (hg:∀ x∈l,f x=some (g x)) (hl:l.length≤1048576) (hf:l.length<fu):Qa6 fu l f=some (l.any g):=by
 unfold Qa6
 rw [Q6o f g hg hl hf,Qab,Qs6 g l 0 (by omega)]
theorem Jhm {fu:Nat} {r:Request} (h:Sm fu r):Qm3 fu r=some (Q3d r):=by
 have hfu:=h.fu
 have h1:=h.items
 have h2:=h.types
 have h3:=h.pairs
 have e3:Qek fu r fu 0 0=some (r.fV.all Qxe&&decide (Qw1 (r.fV.map (·.fF))≤12)):=by
  rw [lp r.fV (λn s i=>Qek fu r n s i) Jdw (by omega) ?_ ?_ fu 0 (by omega),Q34 _ _ (by omega) (by omega)]
  · simp
  · intro n s i x xs hx hd ih
    simp only [Qek.eq_2]
    unfold Qip
    simp only [hd,cond_true,hx,Qab,Jhe,ih]
    rfl
  · intro n s i hd
    simp only [Qek.eq_2]
    unfold Qip
    simp only [hd,cond_false]
    rfl
 have ep:Qa4 fu r.fR (λy34=>Qjq fu y34)=some (!(r.fR.all prB)):=by
  rw [Q2i _ (λp=>!prB p) (λp _=>by
   unfold Qjq prB
   simp only [Q0l,Qab]
   cases inb p.fA 0 3 <;> rfl) h3 (by omega)]
  simp [List.not_all_eq_any_not]
 have et:Qau fu r.fG (λy34=>Qjs fu y34)=some (!(r.fG.all Q1d)):=by
  rw [Q1b _ (λp=>!Q1d p) (λp _=>by
   unfold Qjs
   rw [Jg6]; rfl) h2 (by omega)]
  simp [List.not_all_eq_any_not]
 unfold Qm3 Qmb Qmx Q3d
 rw [e3,ep,et]
 simp only [Q0l,Jg0,Qab]
 have e8:decide ((r.fV.length:Int)>8)=!decide (r.fV.length≤8):=by
  by_cases hh:r.fV.length≤8
  · have:¬ ((r.fV.length:Int)>8):=by omega
    simp [hh,this]
  · have:(r.fV.length:Int)>8:=by omega
    simp [hh,this]
 have e16:decide ((r.fR.length:Int)>16)=!decide (r.fR.length≤16):=by
  by_cases hh:r.fR.length≤16
  · have:¬ ((r.fR.length:Int)>16):=by omega
    simp [hh,this]
  · have:(r.fR.length:Int)>16:=by omega
    simp [hh,this]
 rw [e8,e16]
 cases inb r.fe 0 1 <;> cases Qu0 r.fJ <;> cases inb r.fU 1 4 <;> cases decide (r.fR.length≤16) <;> cases r.fR.all prB <;> cases inb (r.fG.length:Int) 1 5 <;> cases r.fG.all Q1d <;> cases inb r.fT 0 999 <;> cases decide (r.fV.length≤8) <;> rfl
theorem lpP {σ α β:Type} (l:List α) (L:Nat→σ→Int→Option β) (F:List α→List α→σ→Option β) (hl:l.length≤1099511627776)
    (hs:∀ n s pre x xs,l=pre++x::xs→ix l (pre.length:Int)=some x→decide ((pre.length:Int)<(l.length:Int))=true→(∀ s',L n s' (w64 ((pre.length:Int)+1))=F (pre++[x]) xs s')→L (n+1) s (pre.length:Int)=F pre (x::xs) s)
    (he:∀ n s,decide ((l.length:Int)<(l.length:Int))=false→L (n+1) s (l.length:Int)=F l [] s):∀ n s,l.length<n→L n s 0=F [] l s:=by
 have key:∀ (xs pre:List α) (n:Nat) (s:σ),l=pre++xs→xs.length<n→L n s (pre.length:Int)=F pre xs s:=by
  intro xs
  induction xs with
  | nil =>
   intro pre n s he' hn
   obtain ⟨n,rfl⟩:∃ k,n=k+1:=⟨n - 1,by omega⟩
   simp only [List.append_nil] at he'
   subst he'
   exact he n s (by simp)
  | cons x xs ih =>
   intro pre n s he' hn
   obtain ⟨n,rfl⟩:∃ k,n=k+1:=⟨n - 1,by simp at hn; omega⟩
   have hlen:l.length=pre.length+(xs.length+1):=by rw [he']; simp
   refine hs n s pre x xs he' ?_ (by simp; omega) λs'=>?_
   · rw [Qlf,he']; simp
   · rw [Qxc _ (by omega)]
     have:=ih (pre++[x]) n s' (by simp [he']) (by simp at hn; omega)
     simpa using this
 intro n s hn
 simpa using key l [] n s rfl hn
theorem Jas {α:Type} {pre rest:List α} {i:Int} {y:α} (h:ix pre i=some y):ix (pre++rest) i=some y:=by
 obtain ⟨h0,h1,h2⟩:=Qan h
 unfold ix
 rw [if_pos h0,List.getElem?_append_left (by omega),h2]
theorem Jie (a b:Int):(a==b)=(b==a):=Bool.eq_iff_iff.2 (by simp only [beq_iff_eq]; exact ⟨Eq.symm,Eq.symm⟩)
theorem Qxx {fu:Nat} {r:Request} (h:Sm fu r) (id:Int):Qhi fu r id=some (Qxz (Qs0 r id)):=by
 have hfu:=h.fu
 have ht:=h.types
 unfold Qhi Qs0
 rw [Q5i (λy24=>Qnu fu y24 id) (λt=>t.f4==id) (λt _=>rfl) ht (by omega),Qab]
 rcases Q2l (λt:Typ=>t.f4==id) r.fG [] with ⟨h1,h2⟩ | ⟨h1,x,h2,h3⟩
 · simp only [List.length_nil] at h1
   rw [Qa0 (by simpa using h1),h2]; rfl
 · simp only [List.length_nil,List.nil_append] at h1 h3
   rw [Qam (by simpa using h1),h2]
   have h3':ix r.fG (Qwm (λt=>t.f4==id) r.fG 0)=some x:=h3
   rw [h3']; rfl
theorem Jaf {fu:Nat} {r:Request} (h:Sm fu r):Qgu fu r=some (Qxz (Qs0 r r.fT)):=by
 have hfu:=h.fu
 have ht:=h.types
 unfold Qgu Qs0
 refine lp r.fG (λn (_:Unit) i=>Qfq fu r n i) (λl _=>some (Qxz (l.find? λt=>t.f4==r.fT))) (by omega) ?_ ?_ fu () (by omega)
 · intro n s i x xs hx hd ih
   simp only [Qfq.eq_2]
   unfold Qim
   simp only [hd,cond_true,hx,Qab,ih (),List.find?_cons]
   cases x.f4==r.fT <;> rfl
 · intro n s i hd
   simp only [Qfq.eq_2]
   unfold Qim
   simp only [hd,cond_false]
   rfl
theorem Jb2 {fu:Nat} {r:Request} (h:Sm fu r):Qhf fu r=some (Qxz (Qs0 r r.fT)):=by
 unfold Qhf
 rw [Qxx h]; rfl
theorem Q0p (o:Option Typ):(Qxz o).2=o.isSome:=by cases o <;> rfl
theorem Jgy {fu:Nat} {r:Request} (h:Sm fu r):Qon fu r=some (Q81 r):=by
 have hfu:=h.fu
 have h1:=h.items
 have h2:=h.types
 have h3:=h.pairs
 have e11:Qdk fu r fu 0=some (!(r.fR.any λp=>decide (p.fA≥r.fU)||decide (p.fB≥r.fU))&&(Qs0 r r.fT).isSome):=by
  refine lp r.fR (λn (_:Unit) i=>Qdk fu r n i) (λl _=>some (!(l.any λp=>decide (p.fA≥r.fU)||decide (p.fB≥r.fU))&&(Qs0 r r.fT).isSome)) (by omega) ?_ ?_ fu () (by omega)
  · intro n s i x xs hx hd ih
    simp only [Qdk.eq_2]
    unfold Qkm Qn9
    simp only [hd,cond_true,hx,Qab,ih (),List.any_cons]
    cases decide (x.fA≥r.fU) <;> cases decide (x.fB≥r.fU) <;> rfl
  · intro n s i hd
    simp only [Qdk.eq_2]
    unfold Qkm
    simp only [hd,cond_false,Jaf h,Qab,Q0p]
    rfl
 have e7:∀ b,Qdk fu r fu 0=some b→Qbn fu r fu 0=some (Q9b r.fU [] r.fV&&b):=by
  intro b hb
  refine lpP r.fV (λn (_:Unit) i=>Qbn fu r n i) (λpre l _=>some (Q9b r.fU pre l&&b)) (by omega) ?_ ?_ fu () (by omega)
  · intro n s pre x xs hl hx hd ih
    simp only [Qbn.eq_2]
    unfold Qk2
    simp only [hd,cond_true,hx,Qab,Q9b]
    cases hc:decide (x.fM≥r.fU)
    · have hpl:pre.length≤r.fV.length:=by rw [hl]; simp
      have e8:Qec fu (λi=>Qbn fu r n i) r (pre.length:Int) fu 0=bif pre.any (λy=>y.f4==x.f4) then some false else Qbn fu r n (w64 ((pre.length:Int)+1)):=by
       refine lp pre (λm (_:Unit) i=>Qec fu (λi=>Qbn fu r n i) r (pre.length:Int) m i) (λl _=>bif l.any (λy=>y.f4==x.f4) then some false else Qbn fu r n (w64 ((pre.length:Int)+1))) (by omega) ?_ ?_ fu () (by omega)
       · intro m s i y ys hy hd ih
         simp only [Qec.eq_2]
         unfold Qkh
         have hy':ix r.fV i=some y:=by rw [hl]; exact Jas hy
         simp only [hd,cond_true,hx,hy',Qab,ih (),List.any_cons]
         rw [Jie x.f4 y.f4]
         cases y.f4==x.f4 <;> rfl
       · intro m s i hd
         simp only [Qec.eq_2]
         unfold Qkh
         simp only [hd,cond_false]
         rfl
      have e8':Qec fu (Qbn fu r n) r (pre.length:Int) fu 0=bif pre.any (λy=>y.f4==x.f4) then some false else Qbn fu r n (w64 ((pre.length:Int)+1)):=e8
      rw [cond_false,e8',ih ()]
      cases pre.any (λy=>y.f4==x.f4) <;> rfl
    · rfl
  · intro n s hd
    simp only [Qbn.eq_2]
    unfold Qk2
    simp only [hd,cond_false,hb]
    rfl
 have e3:∀ b,Qbn fu r fu 0=some b→Qbu fu r fu 0=some (Q6e Typ.f4 [] r.fG&&b):=by
  intro b hb
  refine lpP r.fG (λn (_:Unit) i=>Qbu fu r n i) (λpre l _=>some (Q6e Typ.f4 pre l&&b)) (by omega) ?_ ?_ fu () (by omega)
  · intro n s pre x xs hl hx hd ih
    simp only [Qbu.eq_2]
    unfold Qkd
    simp only [hd,cond_true,Q6e]
    have hpl:pre.length≤r.fG.length:=by rw [hl]; simp
    have e8:Qed fu (λi=>Qbu fu r n i) r (pre.length:Int) fu 0=bif pre.any (λy=>y.f4==x.f4) then some false else Qbu fu r n (w64 ((pre.length:Int)+1)):=by
     refine lp pre (λm (_:Unit) i=>Qed fu (λi=>Qbu fu r n i) r (pre.length:Int) m i) (λl _=>bif l.any (λy=>y.f4==x.f4) then some false else Qbu fu r n (w64 ((pre.length:Int)+1))) (by omega) ?_ ?_ fu () (by omega)
     · intro m s i y ys hy hd ih
       simp only [Qed.eq_2]
       unfold Qke
       have hy':ix r.fG i=some y:=by rw [hl]; exact Jas hy
       simp only [hd,cond_true,hx,hy',Qab,ih (),List.any_cons]
       rw [Jie x.f4 y.f4]
       cases y.f4==x.f4 <;> rfl
     · intro m s i hd
       simp only [Qed.eq_2]
       unfold Qke
       simp only [hd,cond_false]
       rfl
    have e8':Qed fu (Qbu fu r n) r (pre.length:Int) fu 0=bif pre.any (λy=>y.f4==x.f4) then some false else Qbu fu r n (w64 ((pre.length:Int)+1)):=e8
    rw [e8',ih ()]
    cases pre.any (λy=>y.f4==x.f4) <;> rfl
  · intro n s hd
    simp only [Qbu.eq_2]
    unfold Qkd
    simp only [hd,cond_false,hb]
    rfl
 unfold Qon Q81
 rw [e3 _ (e7 _ e11)]
 congr 1
 cases Q6e Typ.f4 [] r.fG <;> cases Q9b r.fU [] r.fV <;> cases (Qs0 r r.fT).isSome <;> cases r.fR.any λp=>decide (p.fA≥r.fU)||decide (p.fB≥r.fU) <;> rfl
theorem Q8v {α:Type} {l pre xs:List α} {x:α} (h:l=pre++x::xs):sls l 0 (pre.length:Int)=some pre:=by
 rw [Qtb ⟨by omega,by omega,by rw [h]; simp; omega⟩]
 simp [h]
theorem Jgk {fu:Nat} {r:Request} (h:Sm fu r):Qo7 fu r=some (Q81 r):=by
 have hfu:=h.fu
 have h1:=h.items
 have h2:=h.types
 have h3:=h.pairs
 have e4:Qdm fu r fu 0=some (Q9b r.fU [] r.fV&&((Qs0 r r.fT).isSome&&!(r.fR.any λp=>decide (p.fA≥r.fU)||decide (p.fB≥r.fU)))):=by
  refine lpP r.fV (λn (_:Unit) i=>Qdm fu r n i) (λpre l _=>some (Q9b r.fU pre l&&((Qs0 r r.fT).isSome&&!(r.fR.any λp=>decide (p.fA≥r.fU)||decide (p.fB≥r.fU))))) (by omega) ?_ ?_ fu () (by omega)
  · intro n s pre x xs hl hx hd ih
    simp only [Qdm.eq_2]
    unfold Qkl Qof
    have hpl:pre.length≤r.fV.length:=by rw [hl]; simp
    simp only [hd,cond_true,hx,Qab,Q8v hl,Qx9 (λy=>Qph fu y x) (λy=>y.f4==x.f4) (λy _=>rfl) (show pre.length≤1048576 by omega) (show pre.length<fu by omega),Q9b,ih ()]
    cases decide (x.fM≥r.fU) <;> cases pre.any (λy=>y.f4==x.f4) <;> rfl
  · intro n s hd
    simp only [Qdm.eq_2]
    unfold Qkl
    simp only [hd,cond_false,Jb2 h,Qab,Q0p]
    rw [Q2i (λy=>Qlr fu y r) (λp=>decide (p.fA≥r.fU)||decide (p.fB≥r.fU)) (λp _=>by
     unfold Qlr
     cases decide (p.fA≥r.fU) <;> rfl) h3 (by omega),Qab]
    cases (Qs0 r r.fT).isSome <;> rfl
 have e3:∀ b,Qdm fu r fu 0=some b→Qfc fu r fu 0=some (Q6e Typ.f4 [] r.fG&&b):=by
  intro b hb
  refine lpP r.fG (λn (_:Unit) i=>Qfc fu r n i) (λpre l _=>some (Q6e Typ.f4 pre l&&b)) (by omega) ?_ ?_ fu () (by omega)
  · intro n s pre x xs hl hx hd ih
    simp only [Qfc.eq_2]
    unfold Qld
    have hpl:pre.length≤r.fG.length:=by rw [hl]; simp
    simp only [hd,cond_true,hx,Qab,Q8v hl,Q1b (λy=>Qpu fu y x) (λy=>y.f4==x.f4) (λy _=>rfl) (show pre.length≤1048576 by omega) (show pre.length<fu by omega),Q6e,ih ()]
    cases pre.any (λy=>y.f4==x.f4) <;> rfl
  · intro n s hd
    simp only [Qfc.eq_2]
    unfold Qld
    simp only [hd,cond_false,hb]
    rfl
 unfold Qo7 Q81
 rw [e3 _ e4]
 congr 1
 cases Q6e Typ.f4 [] r.fG <;> cases Q9b r.fU [] r.fV <;> cases (Qs0 r r.fT).isSome <;> cases r.fR.any λp=>decide (p.fA≥r.fU)||decide (p.fB≥r.fU) <;> rfl
theorem Jfw {fu:Nat} {l:List Pair} (hl:l.length≤1048576) (hf:l.length<fu) (a b:Int):Qfn fu l a b=some (Qsx l a b):=by
 unfold Qfn Qsx
 refine lp l (λn (_:Unit) i=>Qfw fu l a b n i) (λl _=>some (l.any λp=>p.fA==a&&p.fB==b)) (by omega) ?_ ?_ fu () hf
 · intro n s i x xs hx hd ih
   simp only [Qfw.eq_2]
   unfold Qma Qlg
   simp only [hd,cond_true,hx,Qab,ih (),List.any_cons]
   cases x.fA==a <;> cases x.fB==b <;> rfl
 · intro n s i hd
   simp only [Qfw.eq_2]
   unfold Qma
   simp only [hd,cond_false]
   rfl
theorem Jcw {fu:Nat} {l:List Pair} (hl:l.length≤1048576) (hf:l.length<fu) (a b:Int):Qg7 fu l a b=some (Qsx l a b):=by
 unfold Qg7 Qcy Qdd Qsx
 have:=Qta l (λn i=>Qbg fu l (⟨a,b⟩:Pair) n i) (λp=>p.fA==a&&p.fB==b) (by omega) (by
  intro n i x hx hd
  simp only [Qbg.eq_2]
  unfold Qcs
  simp only [hd,cond_true,hx,Qab]
  have:decide ((⟨a,b⟩:Pair)=x)=(x.fA==a&&x.fB==b):=by
   rcases x with ⟨c,d⟩
   apply Bool.eq_iff_iff.2
   simp only [decide_eq_true_eq,Pair.mk.injEq,Bool.and_eq_true,beq_iff_eq]
   exact ⟨λ⟨h1,h2⟩=>⟨h1.symm,h2.symm⟩,λ⟨h1,h2⟩=>⟨h1.symm,h2.symm⟩⟩
  rw [this]) (by
  intro n i hd
  simp only [Qbg.eq_2]
  unfold Qcs
  simp only [hd,cond_false]) fu hf
 rw [this,Qab,Qs6 _ l 0 (by omega),Qab]
theorem Jhd {fu:Nat} {l:List Pair} (hl:l.length≤1048576) (hf:l.length<fu) (h64:64<fu) (c:Int):Qow fu l c=some (Q9j l c):=by
 unfold Qow Q9j
 rw [Q0l,Qab]
 cases hc:inb c 1 4
 · rfl
 rw [Qdc] at hc
 simp only [Bool.not_true,cond_false,Bool.true_and]
 have e4:∀ (k:Int→Option Bool) (a:Int),Qe5 fu k l c a fu 0=bif (Qnw 0 c.toNat).all λb=>Qsx l a b==Qsx l b a then k (w64 (a+1)) else some false:=by
  intro k a
  refine lpN c (λn (_:Unit) i=>Qe5 fu k l c a n i) (λxs _=>bif xs.all λb=>Qsx l a b==Qsx l b a then k (w64 (a+1)) else some false) (by omega) ?_ ?_ c.toNat fu () 0 (by omega) (by omega) (by omega)
  · intro n s i xs h0 h1 hd ih
    simp only [Qe5.eq_2]
    unfold Qkk
    simp only [hd,cond_true,Jcw hl hf,Qab,ih (),List.all_cons]
    cases Qsx l a i==Qsx l i a <;> rfl
  · intro n s i hd
    simp only [Qe5.eq_2]
    unfold Qkk
    simp only [hd,cond_false]
    rfl
 refine lpN c (λn (_:Unit) i=>Qfg fu l c n i) (λxs _=>some (xs.all λa=>Qsx l a a&&(Qnw 0 c.toNat).all λb=>Qsx l a b==Qsx l b a)) (by omega) ?_ ?_ c.toNat fu () 0 (by omega) (by omega) (by omega)
 · intro n s i xs h0 h1 hd ih
   simp only [Qfg.eq_2]
   unfold Qk9
   simp only [hd,cond_true,Jcw hl hf,Qab,e4,ih (),List.all_cons]
   cases Qsx l i i <;> cases (Qnw 0 c.toNat).all λb=>Qsx l i b==Qsx l b i <;> rfl
 · intro n s i hd
   simp only [Qfg.eq_2]
   unfold Qk9
   simp only [hd,cond_false]
   rfl
theorem Jgr {fu:Nat} {l:List Pair} (hl:l.length≤1048576) (hf:l.length<fu) (h64:64<fu) (c:Int):Qox fu l c=some (Q9j l c):=by
 unfold Qox Q9j
 rw [Q0h,Qab]
 cases hc:inb c 1 4
 · rfl
 rw [Qdc] at hc
 simp only [Bool.not_true,cond_false,Bool.true_and]
 have e4:∀ (k:Int→Option Bool) (a:Int),Qd6 fu k l c a fu 0=bif (Qnw 0 c.toNat).all λb=>(!(a==b)||Qsx l a a)&&(Qsx l a b==Qsx l b a) then k (w64 (a+1)) else some false:=by
  intro k a
  refine lpN c (λn (_:Unit) i=>Qd6 fu k l c a n i) (λxs _=>bif xs.all λb=>(!(a==b)||Qsx l a a)&&(Qsx l a b==Qsx l b a) then k (w64 (a+1)) else some false) (by omega) ?_ ?_ c.toNat fu () 0 (by omega) (by omega) (by omega)
  · intro n s i xs h0 h1 hd ih
    simp only [Qd6.eq_2]
    unfold Qk8 Qi4
    simp only [hd,cond_true,Jfw hl hf,Qab,ih (),List.all_cons]
    cases a==i <;> cases Qsx l a a <;> cases Qsx l a i==Qsx l i a <;> rfl
  · intro n s i hd
    simp only [Qd6.eq_2]
    unfold Qk8
    simp only [hd,cond_false]
    rfl
 have e9:Qdj fu l c fu 0=some ((Qnw 0 c.toNat).all λa=>(Qnw 0 c.toNat).all λb=>(!(a==b)||Qsx l a a)&&(Qsx l a b==Qsx l b a)):=by
  refine lpN c (λn (_:Unit) i=>Qdj fu l c n i) (λxs _=>some (xs.all λa=>(Qnw 0 c.toNat).all λb=>(!(a==b)||Qsx l a a)&&(Qsx l a b==Qsx l b a))) (by omega) ?_ ?_ c.toNat fu () 0 (by omega) (by omega) (by omega)
  · intro n s i xs h0 h1 hd ih
    simp only [Qdj.eq_2]
    unfold Qj5
    simp only [hd,cond_true,e4,ih (),List.all_cons]
    cases (Qnw 0 c.toNat).all λb=>(!(i==b)||Qsx l i i)&&(Qsx l i b==Qsx l b i) <;> rfl
  · intro n s i hd
    simp only [Qdj.eq_2]
    unfold Qj5
    simp only [hd,cond_false]
    rfl
 rw [e9]
 congr 1
 apply Bool.eq_iff_iff.2
 simp only [List.all_eq_true,Bool.and_eq_true,Bool.or_eq_true,Bool.not_eq_true',beq_eq_false_iff_ne,beq_iff_eq]
 constructor
 · intro h a ha
   refine ⟨?_,λb hb=>(h a ha b hb).2⟩
   rcases (h a ha a ha).1 with h1 | h1
   · exact absurd rfl h1
   · exact h1
 · intro h a ha b hb
   exact ⟨.inr (h a ha).1,(h a ha).2 b hb⟩
theorem Jit {l:List Int} (h:l.length=3):∃ p q s,l=[p,q,s]:=by
 match l,h with
 | [p,q,s],_=>exact ⟨p,q,s,rfl⟩
theorem Jfd {fu:Nat} (hfu:2097153≤fu) (a b c:Int):Qlw fu a b c=some [(sid a b c).1,(sid a b c).2.1,(sid a b c).2.2]:=by
 unfold Qlw
 rw [Jiw hfu (by simp),Qab,show [a,b,c].length=3 from rfl]
 have hp:=Qub (kf [a,b,c]) 3
 have hs:=Qvt (kf [a,b,c]) 3
 obtain ⟨p,q,s,hq⟩:=Jit (Qsw (kf [a,b,c]) 3)
 rw [hq] at hp hs ⊢
 have hmem:∀ x∈[p,q,s],0≤x∧x<3:=λx hx=>by
  have:=Qh1.1 (hp.mem_iff.1 hx)
  omega
 have k1:=Q37 (keys:=[a,b,c]) (p:=p) (by have:=hmem p (by simp); simpa using this)
 have k2:=Q37 (keys:=[a,b,c]) (p:=q) (by have:=hmem q (by simp); simpa using this)
 have k3:=Q37 (keys:=[a,b,c]) (p:=s) (by have:=hmem s (by simp); simpa using this)
 rw [show ix [p,q,s] 0=some p from rfl,show ix [p,q,s] 1=some q from rfl,show ix [p,q,s] 2=some s from rfl]
 simp only [Qab,k1,k2,k3]
 have hp3:([a,b,c]).Perm [kf [a,b,c] p,kf [a,b,c] q,kf [a,b,c] s]:=(hp.map (kf [a,b,c])).symm
 simp only [List.pairwise_cons,List.mem_cons,List.not_mem_nil,or_false,forall_eq_or_imp,forall_eq,lx] at hs
 have:=Jez hp3 (by omega) (by omega)
 rw [this]
theorem Jfo {fu:Nat} (hfu:2097153≤fu) (x:Item) (t:Typ):Qqz fu x t=some (Qzd x t):=by
 unfold Qqz Qzd
 rw [Jfd hfu,Jfd hfu]
 simp only [Qab]
 have e0:∀ a b c:Int,ix [a,b,c] 0=some a:=λ_ _ _=>rfl
 have e1:∀ a b c:Int,ix [a,b,c] 1=some b:=λ_ _ _=>rfl
 have e2:∀ a b c:Int,ix [a,b,c] 2=some c:=λ_ _ _=>rfl
 simp only [e0,e1,e2,Qab]
 cases decide ((sid x.fW x.fH x.fD).1≤(sid t.fW t.fH t.fD).1) <;> cases decide ((sid x.fW x.fH x.fD).2.1≤(sid t.fW t.fH t.fD).2.1) <;> cases decide ((sid x.fW x.fH x.fD).2.2≤(sid t.fW t.fH t.fD).2.2) <;> rfl
theorem Q8p (a b c:Int):Q13 [a,b,c]=some [(sid a b c).1,(sid a b c).2.1,(sid a b c).2.2]:=by
 unfold Q13
 rw [if_pos (by simp)]
 have hp:=List.mergeSort_perm [a,b,c] (λx y=>decide (x≤y))
 have hs:=Qtx [a,b,c]
 obtain ⟨p,q,s,hq⟩:=Jit (hp.length_eq)
 rw [hq] at hp hs ⊢
 simp only [List.pairwise_cons,List.mem_cons,List.not_mem_nil,or_false,forall_eq_or_imp,forall_eq] at hs
 rw [Jez hp.symm (by omega) (by omega)]
theorem Jft (fu:Nat) (x:Item) (t:Typ):Qq0 fu x t=some (Qzd x t):=by
 unfold Qq0 Qq7 Qc8 Qzd
 rw [Q8p,Q8p]
 have e0:∀ a b c:Int,ix [a,b,c] 0=some a:=λ_ _ _=>rfl
 have e1:∀ a b c:Int,ix [a,b,c] 1=some b:=λ_ _ _=>rfl
 have e2:∀ a b c:Int,ix [a,b,c] 2=some c:=λ_ _ _=>rfl
 simp only [Qab,e0,e1,e2]
 cases decide ((sid x.fW x.fH x.fD).1≤(sid t.fW t.fH t.fD).1) <;> cases decide ((sid x.fW x.fH x.fD).2.1≤(sid t.fW t.fH t.fD).2.1) <;> cases decide ((sid x.fW x.fH x.fD).2.2≤(sid t.fW t.fH t.fD).2.2) <;> rfl
theorem Q16 {fu:Nat} {r:Request} (h:Sm fu r):Qfd fu r=some (Qhu r):=by
 have hfu:=h.fu
 have h1:=h.items
 have h2:=h.types
 have h3:=h.pairs
 have e4:Qfk fu r fu 0=some (bif r.fG.any (Q6h r.fJ) then 6 else 0):=by
  refine lp r.fG (λn (_:Unit) i=>Qfk fu r n i) (λl _=>some (bif l.any (Q6h r.fJ) then 6 else 0)) (by omega) ?_ ?_ fu () (by omega)
  · intro n s i x xs hx hd ih
    simp only [Qfk.eq_2]
    unfold Qn8 Qqe
    simp only [hd,cond_true,hx,Qab,ih (),List.any_cons,Q6h]
    cases decide (x.fW>r.fJ.fW) <;> cases decide (x.fD>r.fJ.fD) <;> cases decide (x.fH>r.fJ.fH) <;> cases decide (w64 (x.fO+x.fQ)>r.fJ.fQ) <;> rfl
  · intro n s i hd
    simp only [Qfk.eq_2]
    unfold Qn8
    simp only [hd,cond_false]
    rfl
 unfold Qfd Qhu
 rw [Jh1 h,Qab,Jgy h,Qab,Jgr h3 (by omega) (by omega),Qab,Jaf h,Qab]
 have e1:Qgt fu r (Qxz (Qs0 r r.fT)) fu 0=some (bif !(r.fV.all λx=>Qzd x (Qwb r)) then 5 else bif r.fG.any (Q6h r.fJ) then 6 else 0):=by
  refine lp r.fV (λn (_:Unit) i=>Qgt fu r (Qxz (Qs0 r r.fT)) n i) (λl _=>some (bif !(l.all λx=>Qzd x (Qwb r)) then 5 else bif r.fG.any (Q6h r.fJ) then 6 else 0)) (by omega) ?_ ?_ fu () (by omega)
  · intro n s i x xs hx hd ih
    simp only [Qgt.eq_2]
    unfold Qn5
    simp only [hd,cond_true,hx,Qab,Jfo hfu,ih (),List.all_cons]
    rw [show (Qxz (Qs0 r r.fT)).1=Qwb r from rfl]
    cases Qzd x (Qwb r) <;> rfl
  · intro n s i hd
    simp only [Qgt.eq_2]
    unfold Qn5
    simp only [hd,cond_false,e4]
    rfl
 rw [e1]
 cases Q3d r <;> cases Q81 r <;> cases Q9j r.fR r.fU <;> rfl
theorem Jey {fu:Nat} {r:Request} (h:Sm fu r):Qp3 fu r=some (Qhu r):=by
 have hfu:=h.fu
 have h1:=h.items
 have h2:=h.types
 have h3:=h.pairs
 unfold Qp3 Qhu
 rw [Jb2 h,Qab,Jhm h,Qab,Jgk h,Qab,Jhd h3 (by omega) (by omega),Qab]
 rw [Qx9 (λy=>Qoz fu y (Qxz (Qs0 r r.fT)).1) (λx=>!Qzd x (Qwb r)) (λx _=>by
  unfold Qoz
  rw [Jft,Qab]; rfl) h1 (by omega),Qab]
 rw [Q1b (λy=>Qos fu y r.fJ) (Q6h r.fJ) (λx _=>by
  unfold Qos Q6h
  cases decide (x.fW>r.fJ.fW) <;> cases decide (x.fD>r.fJ.fD) <;> cases decide (x.fH>r.fJ.fH) <;> rfl) h2 (by omega),Qab]
 rw [show (r.fV.any λx=>!Qzd x (Qwb r))=!(r.fV.all λx=>Qzd x (Qwb r)) by simp [List.not_all_eq_any_not]]
 cases Q3d r <;> cases Q81 r <;> cases Q9j r.fR r.fU <;> cases r.fV.all λx=>Qzd x (Qwb r) <;> cases r.fG.any (Q6h r.fJ) <;> rfl
theorem Qt2 {fu:Nat} {r:Request} (h:Sm fu r):Qf4 fu r=some (Qhu r==0):=by
 unfold Qf4
 rw [Jey h]; rfl
theorem Jb5 {σ α β:Type} (l:List α) (L:Nat→σ→Int→Option β) (F:List α→List α→σ→Option β) (I:List α→List α→σ→Prop) (hl:l.length≤1099511627776)
    (hs:∀ n s pre x xs,l=pre++x::xs→ix l (pre.length:Int)=some x→decide ((pre.length:Int)<(l.length:Int))=true→I pre (x::xs) s→(∀ s',I (pre++[x]) xs s'→L n s' (w64 ((pre.length:Int)+1))=F (pre++[x]) xs s')→L (n+1) s (pre.length:Int)=F pre (x::xs) s)
    (he:∀ n s,decide ((l.length:Int)<(l.length:Int))=false→I l [] s→L (n+1) s (l.length:Int)=F l [] s):∀ n s,I [] l s→l.length<n→L n s 0=F [] l s:=by
 have key:∀ (xs pre:List α) (n:Nat) (s:σ),l=pre++xs→I pre xs s→xs.length<n→L n s (pre.length:Int)=F pre xs s:=by
  intro xs
  induction xs with
  | nil =>
   intro pre n s he' hI hn
   obtain ⟨n,rfl⟩:∃ k,n=k+1:=⟨n - 1,by omega⟩
   simp only [List.append_nil] at he'
   subst he'
   exact he n s (by simp) hI
  | cons x xs ih =>
   intro pre n s he' hI hn
   obtain ⟨n,rfl⟩:∃ k,n=k+1:=⟨n - 1,by simp at hn; omega⟩
   have hlen:l.length=pre.length+(xs.length+1):=by rw [he']; simp
   refine hs n s pre x xs he' ?_ (by simp; omega) hI λs' hI'=>?_
   · rw [Qlf,he']; simp
   · rw [Qxc _ (by omega)]
     have:=ih (pre++[x]) n s' (by simp [he']) hI' (by simp at hn; omega)
     simpa using this
 intro n s hI hn
 simpa using key l [] n s rfl hI hn
theorem Qyw {x:Item} (h:Qxe x=true):1≤x.fF∧x.fF≤6:=by
 simp only [Qxe,Bool.and_eq_true,Qdc] at h
 omega
theorem Ja9 {xs:List Item} (h:∀ x∈xs,Qxe x=true):0≤Qw1 (xs.map (·.fF)):=Q6s _ _ λx hx=>by have:=Qyw (h x hx); omega
theorem Jgg {fu:Nat} {r:Request} (h:Sm fu r) (hb:Q3d r=true):Qc4 fu r=some (l6M r):=by
 have hfu:=h.fu
 obtain ⟨hi,hs,hl⟩:=Qr3 hb
 have e4:∀ (k:List Int→Int→Option (List Int)) (i:Int) (x:Item),ix r.fV i=some x→∀ (m n:Nat) (c:Int) (out:List Int),0≤c→c≤x.fF→(x.fF - c).toNat=m→x.fF≤6→m<n→out.length+m≤100 →
     Qgn fu k r i n out c=k (out++List.replicate m i) (w64 (i+1)):=by
  intro k i x hx m
  induction m with
  | zero =>
   intro n c out h0 h1 h2 h3 h4 h5
   obtain ⟨n,rfl⟩:∃ j,n=j+1:=⟨n - 1,by omega⟩
   rw [Qgn.eq_2]
   unfold Qk7
   rw [hx,Qab,Qam (by simp; omega)]
   simp
  | succ m ih =>
   intro n c out h0 h1 h2 h3 h4 h5
   obtain ⟨n,rfl⟩:∃ j,n=j+1:=⟨n - 1,by omega⟩
   rw [Qgn.eq_2]
   unfold Qk7
   rw [hx,Qab,Qa0 (by simp; omega),ap1 (by simp; omega),Qab,Qa1 (by omega) (by omega),ih n (c+1) (out++[i]) (by omega) (by omega) (by omega) h3 (by omega) (by simp; omega)]
   rw [List.append_assoc,List.singleton_append,← List.replicate_succ]
 unfold Qc4 l6M
 have:=Jb5 r.fV (λn out i=>Qd8 fu r n out i) (λpre xs out=>some (out++Q6c (pre.length:Int) xs)) (λpre xs out=>(out.length:Int)+Qw1 (xs.map (·.fF))≤12∧∀ x∈xs,Qxe x=true) (by omega) ?_ ?_ fu [] ⟨by simpa using hs,hi⟩ (by omega)
 · simpa using this
 · intro n out pre x xs hl' hx hd hI ih
   simp only [Qd8.eq_2]
   unfold Qjy
   have hc:=Qyw (hI.2 x (by simp))
   have hsum:=hI.1
   have hnn:=Ja9 (λy hy=>hI.2 y (by simp [hy]):∀ y∈xs,Qxe y=true)
   simp only [List.map_cons,Qrk] at hsum
   have e:=e4 (Qd8 fu r n) (pre.length:Int) x hx x.fF.toNat fu 0 out (by omega) (by omega) (by omega) (by omega) (by omega) (by omega)
   rw [hd,cond_true,e,ih _ ⟨by simp; omega,λy hy=>hI.2 y (by simp [hy])⟩]
   simp [Q6c]
 · intro n out hd hI
   simp only [Qd8.eq_2]
   unfold Qjy
   simp only [hd,cond_false]
   simp [Q6c]
theorem Jea {fu:Nat} {r:Request} (h:Sm fu r) (hc:Qhu r=0):Qc4 fu r=some (Qmz r):=by
 unfold Qmz
 rw [Jgg h (Qgv hc).1,Qa0 (by simp [hc])]
theorem Jhu {fu:Nat} {r:Request} (h:Sm fu r):Qrf fu r=some (Qmz r):=by
 unfold Qrf Qmz
 rw [Q16 h,Qab]
 by_cases hc:Qhu r=0
 · rw [Qam (by simp [hc]),Jgg h (Qgv hc).1,Qab,Qa0 (by simp [hc])]
 · rw [Qa0 (by simp [hc]),Qam (by simp [hc])]
theorem Ji6 (fu:Nat) (c:Int) (h:1≤c∧c≤6):Qua fu (IntKind.wrap .u64 1) (IntKind.wrap .u64 c)=some (0,c):=by
 have:c=1∨c=2∨c=3∨c=4∨c=5∨c=6:=by omega
 rcases this with rfl | rfl | rfl | rfl | rfl | rfl <;> rfl
theorem Jgh (m:Nat) (i:Int):Qbs (m+10) [i] (0,1)=some (List.replicate 1 i):=by kernel_rfl
theorem Jg4 (m:Nat) (i:Int):Qbs (m+10) [i] (0,2)=some (List.replicate 2 i):=by kernel_rfl
theorem Jgn (m:Nat) (i:Int):Qbs (m+10) [i] (0,3)=some (List.replicate 3 i):=by kernel_rfl
theorem Jgf (m:Nat) (i:Int):Qbs (m+10) [i] (0,4)=some (List.replicate 4 i):=by kernel_rfl
theorem Jh4 (m:Nat) (i:Int):Qbs (m+10) [i] (0,5)=some (List.replicate 5 i):=by kernel_rfl
theorem Jg8 (m:Nat) (i:Int):Qbs (m+10) [i] (0,6)=some (List.replicate 6 i):=by kernel_rfl
theorem Ji7 {fu:Nat} (hfu:10≤fu) (i c:Int) (h:1≤c∧c≤6):Qfr fu [i] c=some (List.replicate c.toNat i):=by
 unfold Qfr Qf8
 rw [Qam (by simp; omega)]
 rw [show (([i]:List Int).length:Int)=1 from rfl,Ji6 fu c h,Qab,Qam (by simp),Qam (by simp; omega)]
 obtain ⟨m,rfl⟩:∃ m,fu=m+10:=⟨fu - 10,by omega⟩
 have:c=1∨c=2∨c=3∨c=4∨c=5∨c=6:=by omega
 rcases this with rfl | rfl | rfl | rfl | rfl | rfl
 · exact Jgh m i
 · exact Jg4 m i
 · exact Jgn m i
 · exact Jgf m i
 · exact Jh4 m i
 · exact Jg8 m i
theorem Jbx {fu:Nat} {r:Request} (h:Sm fu r):Qne fu r=some (Qmz r):=by
 have hfu:=h.fu
 unfold Qne Qmz
 rw [Qt2 h,Qab]
 by_cases hc:Qhu r=0
 · obtain ⟨hi,hs,hl⟩:=Qr3 (Qgv hc).1
   rw [Qam (by simp [hc]),Qa0 (by simp [hc])]
   unfold l6M
   have:=Jb5 r.fV (λn out i=>Qhk fu r n out i) (λpre xs out=>some (out++Q6c (pre.length:Int) xs)) (λpre xs out=>(out.length:Int)+Qw1 (xs.map (·.fF))≤12∧∀ x∈xs,Qxe x=true) (by omega) ?_ ?_ fu [] ⟨by simpa using hs,hi⟩ (by omega)
   · simpa using this
   · intro n out pre x xs hl' hx hd hI ih
     simp only [Qhk.eq_2]
     unfold Qn3
     have hc:=Qyw (hI.2 x (by simp))
     have hsum:=hI.1
     have hnn:=Ja9 (λy hy=>hI.2 y (by simp [hy]):∀ y∈xs,Qxe y=true)
     simp only [List.map_cons,Qrk] at hsum
     rw [hd,cond_true,hx,Qab,Ji7 (by omega) _ _ hc,Qab,ap1 (by simp; omega),Qab,ih _ ⟨by simp; omega,λy hy=>hI.2 y (by simp [hy])⟩]
     simp [Q6c]
   · intro n out hd hI
     simp only [Qhk.eq_2]
     unfold Qn3
     simp only [hd,cond_false]
     simp [Q6c]
 · rw [Qa0 (by simp [hc]),Qam (by simp [hc])]
theorem Jd2 {fu:Nat} {l:List Int} (hl:l.length≤1048576) (hf:l.length<fu) (x:Int):Qpz fu l x=some (l.contains x):=by
 unfold Qpz
 refine lp l (λn (_:Unit) i=>Qhe fu l x n i) (λl _=>some (l.contains x)) (by omega) ?_ ?_ fu () hf
 · intro n s i y ys hy hd ih
   simp only [Qhe.eq_2]
   unfold Qno
   simp only [hd,cond_true,hy,Qab,ih (),List.contains_cons]
   rw [Jie y x]
   cases x==y <;> rfl
 · intro n s i hd
   simp only [Qhe.eq_2]
   unfold Qno
   simp only [hd,cond_false]
   rfl
theorem Jh5 {fu:Nat} {l:List Int} (hl:l.length≤1048576) (hf:l.length<fu) (x:Int):Qem fu l x=some (l.contains x):=by
 unfold Qem Qhq
 have:=Qta l (λn i=>Qcu fu l x n i) (λy=>x==y) (by omega) (by
  intro n i y hx hd
  simp only [Qcu.eq_2]
  unfold Qfp
  simp only [hd,cond_true,hx,Qab]) (by
  intro n i hd
  simp only [Qcu.eq_2]
  unfold Qfp
  simp only [hd,cond_false]) fu hf
 rw [this,Qab,Qs6 _ l 0 (by omega),List.contains_eq_any_beq]
theorem Je1 {fu:Nat} {p:List Pair} (hp:p.length≤1048576) (hpf:p.length<fu) {g:List Int} (hl:g.length≤1048576) (hf:g.length<fu) (c:Int):Qoq fu p g c=some (g.all (Q15 p c)):=by
 unfold Qoq
 refine lp g (λn (_:Unit) i=>Qe9 fu p g c n i) (λl _=>some (l.all (Q15 p c))) (by omega) ?_ ?_ fu () hf
 · intro n s i y ys hy hd ih
   simp only [Qe9.eq_2]
   unfold Qj8 Qny
   simp only [hd,cond_true,hy,Qab,ih (),Jfw hp hpf,List.all_cons,Q15]
   cases Qsx p y c <;> cases Qsx p c y <;> rfl
 · intro n s i hd
   simp only [Qe9.eq_2]
   unfold Qj8
   simp only [hd,cond_false]
   rfl
theorem Jgm {fu:Nat} {r:Request} (h:Sm fu r):Qot fu r=some (Q2p r):=by
 have hfu:=h.fu
 have h1:=h.items
 unfold Qot Q2p
 rw [Q16 h,Qab]
 by_cases hc:Qhu r=0
 · rw [show (Qhu r != 0)=false by simp [hc],show (Qhu r==0)=true by simp [hc],cond_false,cond_true]
   have e27:∀ (k:List Int→Int→Option (List Int)) (out:List Int) (c:Int),Qd9 fu k r out c fu false 0=bif r.fV.any (λx=>x.fM==c) then (Qac (Qfh 8 out [c]) λx=>k x (w64 (c+1))) else k out (w64 (c+1)):=by
    intro k out c
    refine lp r.fV (λn f i=>Qd9 fu k r out c n f i) (λl f=>bif f||l.any (λx=>x.fM==c) then (Qac (Qfh 8 out [c]) λx=>k x (w64 (c+1))) else k out (w64 (c+1))) (by omega) ?_ ?_ fu false (by omega)
    · intro n f i x xs hx hd ih
      simp only [Qd9.eq_2]
      unfold Qj1 Qjo
      simp only [hd,cond_true,hx,Qab,ih,List.any_cons]
      cases f
      · rfl
      · rfl
    · intro n f i hd
      simp only [Qd9.eq_2]
      unfold Qj1 Qje
      simp only [hd,cond_false,List.any_nil,Bool.or_false]
   have:=Q54 4 (λn out i=>Qdh fu r n out i) (λxs out=>some (out++xs.filter λc=>r.fV.any λx=>x.fM==c)) (λxs out=>out.length+xs.length≤4) (by omega) ?_ ?_ 4 fu [] 0 (by omega) (by omega) (by omega) (by simp [Qnw])
   · simpa using this
   · intro n out i xs h0 h1 hd hI ih
     simp only [List.length_cons] at hI
     simp only [Qdh.eq_2]
     unfold Qko
     simp only [hd,cond_true,e27]
     cases hb:r.fV.any λx=>x.fM==i
     · rw [cond_false,ih out (by omega)]
       simp [hb]
     · rw [cond_true,ap1 (by simp; omega),Qab,ih _ (by simp; omega)]
       simp [hb]
   · intro n out i hd hI
     simp only [Qdh.eq_2]
     unfold Qko
     simp only [hd,cond_false]
     simp
 · rw [show (Qhu r != 0)=true by simp [hc],show (Qhu r==0)=false by simp [hc],cond_false,cond_true]
theorem Q83 {fu:Nat} {l:List Int} (hl:l.length≤1048576):∃ k,Qjv fu l=some k∧k.Pairwise (·<·)∧∀ x,x∈k↔x∈l:=by
 unfold Qjv Qcx Qc8 Qi8
 have hp:=List.mergeSort_perm l (λx y=>decide (x≤y))
 have hs:=Qtx l
 rw [ap1 (by simp; omega),Qab,Qab,List.nil_append]
 unfold Q13
 rw [if_pos (by omega),Qab]
 unfold Jf8
 rw [if_pos (by rw [hp.length_eq]; omega),Qab]
 obtain ⟨h1,h2⟩:=Qzr _ hs
 exact ⟨_,rfl,h1,λx=>(h2 x).trans hp.mem_iff⟩
theorem Qzt {fu:Nat} {l:List Int} (hl:l.length≤1048576) (hs:l.Pairwise (·<·)):Qjv fu l=some l:=by
 obtain ⟨k,h1,h2,h3⟩:=Q83 (fu:=fu) hl
 rw [h1,Q6q h2 hs h3]
theorem Jgu {fu:Nat} {r:Request} (h:Sm fu r):Qop fu r=some (Q2p r):=by
 have hfu:=h.fu
 have h1:=h.items
 unfold Qop
 rw [Qt2 h,Qab]
 by_cases hc:Qhu r=0
 · rw [show (Qhu r==0)=true by simp [hc],Bool.not_true,cond_false]
   have:=lpI r.fV (λn out i=>Qgk fu r n out i) (λxs out=>Qac (Qjv fu (out++xs.map (·.fM))) λx=>some x) (λxs out=>out.length+xs.length≤1048576) (by omega) ?_ ?_ fu [] (by simpa using h1) (by omega)
   · rw [List.nil_append] at this
     refine this.trans ?_
     obtain ⟨k,e1,e2,e3⟩:=Q83 (fu:=fu) (l:=r.fV.map (·.fM)) (by simpa using h1)
     rw [e1,Qab]
     congr 1
     refine Q6q e2 (Qur r) λx=>?_
     rw [e3]
     unfold Q2p
     rw [show (Qhu r==0)=true by simp [hc],cond_true,List.mem_filter,Qh1,List.any_eq_true,List.mem_map]
     constructor
     · rintro ⟨y,hy,rfl⟩
       have:=(Qr3 (Qgv hc).1).1 y hy
       simp only [Qxe,Bool.and_eq_true,Qdc] at this
       exact ⟨by omega,y,hy,by simp⟩
     · rintro ⟨_,y,hy,e⟩
       exact ⟨y,hy,by simpa using e⟩
   · intro n out i x xs hx hd hI ih
     simp only [List.length_cons] at hI
     simp only [Qgk.eq_2]
     unfold Qka
     simp only [hd,cond_true,hx,Qab]
     rw [ap1 (by simp; omega),Qab,ih _ (by simp; omega)]
     simp
   · intro n out i hd hI
     simp only [Qgk.eq_2]
     unfold Qka
     simp only [hd,cond_false]
     simp
 · rw [show (Qhu r==0)=false by simp [hc],Bool.not_false,cond_true]
   unfold Q2p
   rw [show (Qhu r==0)=false by simp [hc],cond_false]
theorem Q2q {α:Type} (g:α→Bool) (x:α):∀ (l:List α),Qxf g (l++[x])=match Qxf g l with | some i=>some i | none=>bif g x then some l.length else none
 | []=>by simp [Qxf]
 | y::ys=>by
  simp only [List.cons_append,Qxf]
  cases g y
  · simp only [cond_false]
    rw [Q2q g x ys]
    cases Qxf g ys <;> simp
    cases g x <;> simp
  · rfl
def atB {α:Type} (g:α→Bool) (l:List α) (i:Int):Bool:=match ix l i with | some x=>g x | none=>false
def Jbn {α:Type} (g:α→Bool) (l:List α) (a i:Int):Int:=bif atB g l i then i else a
theorem Qyo {α:Type} (g:α→Bool) (l:List α):∀ (m:Nat) (a:Int),m≤l.length→(Quk m).foldl (Jbn g l) a=match Qxf g (l.take m) with | some i=>(i:Int) | none=>a
 | 0,a,_=>by simp [Quk,Qxf]
 | m+1,a,h=>by
  simp only [Quk,List.foldl_cons]
  rw [Qyo g l m _ (by omega),List.take_succ_eq_append_getElem (by omega),Q2q,List.length_take,Nat.min_eq_left (by omega)]
  unfold Jbn atB
  rw [Qy1 (by omega)]
  cases Qxf g (l.take m) with
  | some i=>rfl
  | none =>
   simp only
   cases g l[m] <;> rfl
theorem Q0v {α:Type} (g:α→Bool):∀ (l:List α) (i:Int),Qwm g l i=match Qxf g l with | some j=>i+j | none=>-1
 | [],i=>rfl
 | x::xs,i=>by
  simp only [Qwm,Qxf]
  cases g x
  · simp only [cond_false]
    rw [Q0v g xs (i+1)]
    cases Qxf g xs with
    | none=>rfl
    | some j =>
     show i+1+(j:Int)=i+((j+1:Nat):Int)
     omega
  · simp
theorem Jau {p:List Pair} {out:List (List Int)} {c:Int} {n:Nat} (h:okG n out) (hn:n≤1048576) {β:Type} (k:List (List Int)→Option β) (a:Int) (ha:a=match Qxf (λg=>g.all (Q15 p c)) out with | some i=>(i:Int) | none=>-1) :
    (bif (decide (a<0)) then Qac (Qfh 24 out [([c]:List Int)]) λx=>k x else Qac (ix out a) λx=>Qac (Qfh 8 x (([c]:List Int))) λy=>Qac (ix out a) λz=>k (Qhs out a y))=k (Q80 p out c):=by
 obtain ⟨h1,h2⟩:=h
 unfold Q80
 cases hf:Qxf (λg=>g.all (Q15 p c)) out with
 | none =>
  rw [hf] at ha
  simp only at ha
  subst ha
  rw [Qa0 (by simp),ap1 (by simp; omega),Qab]
 | some i =>
  rw [hf] at ha
  simp only at ha
  subst ha
  obtain ⟨x,hx,_⟩:=Qx0 hf
  have:=h2 x (List.mem_of_getElem? hx)
  rw [Qam (by simp),Qlf,hx,Qab,ap1 (by simp; omega),Qab,Qab]
  simp [Qhs,hx]
theorem Jd4 {fu:Nat} {p:List Pair} (hp:p.length≤1048576) (hfu:2097153≤fu) {l:List Int} (hl:l.length≤1048576):Qqm fu p l=some (((Qnw 0 4).filter l.contains).foldl (Q80 p) []):=by
 unfold Qqm
 have e27:∀ (k:List (List Int)→Int→Option (List (List Int))) (out:List (List Int)) (c:Int),okG 4 out→Qes fu k p out c fu (-1) (w64 ((out.length:Int) - 1))=k (Q80 p out c) (w64 (c+1)):=by
  intro k out c ho
  obtain ⟨R,hR⟩:∃ R:Int→Option (List (List Int)),R=λa=>bif (decide (a<0)) then Qac (Qfh 24 out [([c]:List Int)]) λx=>k x (w64 (c+1)) else Qac (ix out a) λx=>Qac (Qfh 8 x (([c]:List Int))) λy=>Qac (ix out a) λz=>k (Qhs out a y) (w64 (c+1)):=⟨_,rfl⟩
  have:=lpD out.length (λn a i=>Qes fu k p out c n a i) (λxs a=>R (xs.foldl (Jbn (λg=>g.all (Q15 p c)) out) a)) (by have:=ho.1; omega) ?_ ?_ fu (-1) (by have:=ho.1; omega)
  · rw [this,hR]
    refine Jau (p:=p) ho (by omega) (λx=>k x (w64 (c+1))) _ ?_
    rw [Qyo (λg=>g.all (Q15 p c)) out out.length (-1) (Nat.le_refl _),List.take_length]
  · intro n a i xs h0 h1 hd ih
    simp only [Qes.eq_2]
    unfold Qme Qlh
    obtain ⟨j,rfl⟩:∃ j:Nat,i=j:=⟨i.toNat,by omega⟩
    have hj:j<out.length:=by omega
    have hg:=ho.2 _ (List.getElem_mem hj)
    simp only [hd,cond_true,Qy1 hj,Qab,Je1 hp (by omega) (show out[j].length≤1048576 by omega) (show out[j].length<fu by omega),ih,List.foldl_cons]
    have e:Jbn (λg=>g.all (Q15 p c)) out a (j:Int)=bif out[j].all (Q15 p c) then (j:Int) else a:=by unfold Jbn atB; rw [Qy1 hj]
    rw [e]
    cases out[j].all (Q15 p c) <;> rfl
  · intro n a i hd
    simp only [Qes.eq_2]
    unfold Qme Qg3
    simp only [hd,cond_false,List.foldl_nil,hR]
 have:=Q54 4 (λn out i=>Qd4 fu p l n out i) (λxs out=>some ((xs.filter l.contains).foldl (Q80 p) out)) (λxs out=>∃ m,m+xs.length≤4∧okG m out) (by omega) ?_ ?_ 4 fu [] 0 (by omega) (by omega) (by omega) ⟨0,by simp [Qnw],by simp,by simp⟩
 · exact this
 · intro n out i xs h0 h1 hd hI ih
   obtain ⟨m,hm,ho⟩:=hI
   simp only [List.length_cons] at hm
   simp only [Qd4.eq_2]
   unfold Ql9 Qg3
   simp only [hd,cond_true,Jd2 hl (show l.length<fu by omega),Qab]
   cases hb:l.contains i
   · rw [Bool.not_false,cond_true,ih out ⟨m,by omega,ho⟩,List.filter_cons_of_neg (by rw [hb]; simp)]
   · rw [Bool.not_true,cond_false,e27 _ out i ⟨by have:=ho.1; omega,λg hg=>by have:=ho.2 g hg; omega⟩,ih _ ⟨m+1,by omega,Q3p i ho⟩,List.filter_cons_of_pos hb,List.foldl_cons]
 · intro n out i hd hI
   simp only [Qd4.eq_2]
   unfold Ql9
   simp only [hd,cond_false]
   simp
theorem Q53 (r:Request):(Qnw 0 4).filter (Q2p r).contains=Q2p r :=
 Q6q ((Quq 0 4).filter _) (Qur r) λx=>by
  rw [List.mem_filter,Qh1]
  constructor
  · rintro ⟨_,h⟩; simpa using h
  · intro h; have:=Q5p h; exact ⟨by omega,by simpa using h⟩
theorem Jcx {fu:Nat} {r:Request} (h:Sm fu r):Qhj fu r=some (Qns r):=by
 unfold Qhj Qns
 rw [Jgm h,Qab,Jd4 h.pairs h.fu (by have:=Q1x r; omega),Qab,Q53]
theorem Jh2 {fu:Nat} {p:List Pair} (hp:p.length≤1048576) (hpf:p.length<fu) (a b:Int):Qp7 fu p a b=some (Q15 p a b):=by
 unfold Qp7 Q15
 simp only [Jcw hp hpf,Qab]
 cases Qsx p a b <;> rfl
theorem Q4t {fu:Nat} {l:List Int} (f:Int→Option Bool) (g:Int→Bool) (hg:∀ x∈l,f x=some (g x)) (hl:l.length≤1048576) (hf:l.length<fu):Qc9 fu l f=some (Qwm g l 0):=by
 unfold Qc9
 refine Qta l (λn i=>Qb6 fu l f n i) g (by omega) ?_ ?_ fu hf
 · intro n i x hx hd
   simp only [Qb6.eq_2]
   unfold Qd7
   simp only [hd,cond_true,hx,Qab,hg x (Qml hx)]
 · intro n i hd
   simp only [Qb6.eq_2]
   unfold Qd7
   simp only [hd,cond_false]
theorem Q94 {fu:Nat} {l:List Int} (f:Int→Option Bool) (g:Int→Bool) (hg:∀ x∈l,f x=some (g x)) (hl:l.length≤1048576) (hf:l.length<fu):Qda fu l f=some (l.any g):=by
 unfold Qda
 rw [Q4t f g hg hl hf,Qab,Qs6 g l 0 (by omega)]
theorem Q20 {fu:Nat} {l:List (List Int)} (f:List Int→Option Bool) (g:List Int→Bool) (hg:∀ x∈l,f x=some (g x)) (hl:l.length≤1048576) (hf:l.length<fu):Qc1 fu l f=some (Qwm g l 0):=by
 unfold Qc1
 refine Qta l (λn i=>Qbw fu l f n i) g (by omega) ?_ ?_ fu hf
 · intro n i x hx hd
   simp only [Qbw.eq_2]
   unfold Qdy
   simp only [hd,cond_true,hx,Qab,hg x (Qml hx)]
 · intro n i hd
   simp only [Qbw.eq_2]
   unfold Qdy
   simp only [hd,cond_false]
theorem Jfp {fu:Nat} {p:List Pair} (hp:p.length≤1048576) (hfu:2097153≤fu) {l:List Int} (hl:l.length≤4) (hs:l.Pairwise (·<·)) (hm:∀ c∈l,0≤c∧c<4):Qqh fu p l=some (l.foldl (Q80 p) []):=by
 unfold Qqh
 rw [Qzt (by omega) hs,Qab]
 have:=lpI l (λn out i=>Qep fu p l n out i) (λxs out=>some (xs.foldl (Q80 p) out)) (λxs out=>(∃ m,m+xs.length≤4∧okG m out)∧∀ c∈xs,0≤c∧c<4) (by omega) ?_ ?_ fu [] ⟨⟨0,by simpa using hl,by simp,by simp⟩,hm⟩ (by omega)
 · exact this
 · intro n out i c xs hx hd hI ih
   obtain ⟨⟨m,hm,ho⟩,hc⟩:=hI
   simp only [List.length_cons] at hm
   have hc0:=hc c (by simp)
   simp only [Qep.eq_2]
   unfold Qmq Qhw
   simp only [hd,cond_true,hx,Qab,Q0l]
   rw [show inb c 0 3=true by simp; omega,Bool.not_true,cond_false]
   rw [Q20 (λy=>Qnn fu y p c) (λg=>g.all (Q15 p c)) (λg hg=>by
    have hgl:=ho.2 g hg
    unfold Qnn
    rw [Q94 (λy=>Qi7 fu y p c) (λx=>!Q15 p c x) (λx _=>by
     unfold Qi7
     rw [Jh2 hp (by omega),Qab]) (by omega) (by omega),Qab]
    simp [List.any_eq_not_all_not]) (by have:=ho.1; omega) (by have:=ho.1; omega),Qab]
   rw [Jau (p:=p) ho (by omega) (λx=>Qep fu p l n x (w64 (i+1))) (Qwm (λg=>g.all (Q15 p c)) out 0) (by
    rw [Q0v]
    cases Qxf (λg=>g.all (Q15 p c)) out <;> simp)]
   rw [ih _ ⟨⟨m+1,by omega,Q3p c ho⟩,λy hy=>hc y (by simp [hy])⟩]
   rfl
 · intro n out i hd hI
   simp only [Qep.eq_2]
   unfold Qmq
   simp only [hd,cond_false]
   rfl
theorem Jc1 {fu:Nat} {r:Request} (h:Sm fu r):Qhl fu r=some (Qns r):=by
 unfold Qhl
 rw [Qt2 h,Qab]
 by_cases hc:Qhu r=0
 · rw [show (Qhu r==0)=true by simp [hc],Bool.not_true,cond_false,Jgu h,Qab,Jfp h.pairs h.fu (Q1x r) (Qur r) (λc hc=>Q5p hc),Qab]
   rfl
 · rw [show (Qhu r==0)=false by simp [hc],Bool.not_false,cond_true]
   unfold Qns Q2p
   rw [show (Qhu r==0)=false by simp [hc],cond_false]
   rfl
theorem Q87 (r:Request):w64 (((Qns r).length:Int) - 1)=((Qns r).length:Int) - 1:=by
 have:=(Qtq r).1
 exact Qa1 (by omega) (by omega)
theorem Q9x {fu:Nat} (n:Nat) (hn:n≤1048576) (hf:n<fu):Qqs fu (n:Int)=some (Qnw 0 n):=by
 unfold Qqs
 have:=Q54 (n:Int) (λk out i=>Qg2 fu (n:Int) k out i) (λxs out=>some (out++xs)) (λxs out=>out.length+xs.length≤1048576) (by omega) ?_ ?_ n fu [] 0 (by omega) (by omega) hf (by simpa [Qcn] using hn)
 · simpa using this
 · intro k out i xs h0 h1 hd hI ih
   simp only [List.length_cons] at hI
   simp only [Qg2.eq_2]
   unfold Qmj
   rw [hd,cond_true,ap1 (by simp; omega),Qab,ih _ (by simp; omega)]
   simp
 · intro k out i hd hI
   simp only [Qg2.eq_2]
   unfold Qmj
   simp only [hd,cond_false]
   simp
theorem Q8w {α:Type} (g:α→Bool):∀ (l pre:List α),(Qwm g l pre.length=-1∧∀ x∈l,g x=false)∨(∃ a x b,l=a++x::b∧(∀ y∈a,g y=false)∧g x=true∧Qwm g l pre.length=((pre.length+a.length:Nat):Int))
 | [],pre=>.inl ⟨rfl,by simp⟩
 | x::xs,pre=>by
  simp only [Qwm]
  by_cases hx:g x=true
  · rw [hx,cond_true]; exact .inr ⟨[],x,xs,rfl,by simp,hx,by simp⟩
  · have hx':g x=false:=by simpa using hx
    rw [hx',cond_false]
    have:=Q8w g xs (pre++[x])
    simp only [List.length_append,List.length_singleton] at this
    rw [show ((pre.length+1:Nat):Int)=(pre.length:Int)+1 by omega] at this
    rcases this with ⟨h1,h2⟩ | ⟨a,y,b,h1,h2,h3,h4⟩
    · exact .inl ⟨h1,by simpa [hx'] using h2⟩
    · exact .inr ⟨x::a,y,b,by simp [h1],by simpa [hx'] using h2,h3,by rw [h4]; simp; omega⟩
theorem Jg1 {fu:Nat} {l:List Int} (f:Int→Option Bool) (g:Int→Bool) (hg:∀ x∈l,f x=some (g x)) (hl:l.length≤1048576) (hf:l.length<fu):Qd0 fu l f=some (l.filter λx=>!g x):=by
 unfold Qd0
 rw [Q4t f g hg hl hf,Qab]
 have hp:=Q8w g l []
 simp only [List.length_nil,Nat.zero_add] at hp
 rcases hp with ⟨h1,h2⟩ | ⟨a,x,b,h1,h2,h3,h4⟩
 · have h1':Qwm g l 0=-1:=h1
   rw [h1',Qa0 (by simp)]
   congr 1
   exact (List.filter_eq_self.2 λy hy=>by simp [h2 y hy]).symm
 · have h4':Qwm g l 0=(a.length:Int):=h4
   rw [h4',Qam (by simp)]
   have key:∀ (rest kept mid pre:List Int) (n:Nat),l=pre++rest→kept=pre.filter (λx=>!g x)→mid≠[]→kept.length+mid.length=pre.length→rest.length<n →
       Qbi fu f n (kept++mid++rest) (kept.length:Int) (pre.length:Int)=some (l.filter λx=>!g x):=by
    intro rest
    induction rest with
    | nil =>
     intro kept mid pre n e1 e2 e3 e4 hn
     obtain ⟨n,rfl⟩:∃ j,n=j+1:=⟨n - 1,by omega⟩
     rw [Qbi.eq_2]
     unfold Qdz
     simp only [List.append_nil] at *
     subst e1
     rw [Qam (by simp; omega),Qtb ⟨by omega,by simp; omega,by omega⟩,Qab,Qtb ⟨by omega,by omega,by simp [Q3c]; omega⟩,Qab]
     rw [← e2]
     simp [Q3c]
    | cons y rest ih =>
     intro kept mid pre n e1 e2 e3 e4 hn
     obtain ⟨n,rfl⟩:∃ j,n=j+1:=⟨n - 1,by simp at hn; omega⟩
     have hlen:l.length=pre.length+(rest.length+1):=by rw [e1]; simp
     have hyl:y∈l:=by rw [e1]; simp
     obtain ⟨m,ms,rfl⟩:∃ m ms,mid=m::ms:=by
      cases mid with
      | nil=>exact absurd rfl e3
      | cons m ms=>exact ⟨m,ms,rfl⟩
     simp only [List.length_cons] at e4 hn
     have hx:ix (kept++(m::ms)++y::rest) (pre.length:Int)=some y:=by
      rw [Qlf,List.getElem?_append_right (by simp; omega)]
      simp only [List.length_append,List.length_cons]
      rw [show pre.length - (kept.length+(ms.length+1))=0 by omega]; rfl
     have hk:ix (kept++(m::ms)++y::rest) (kept.length:Int)=some m:=by
      rw [Qlf]; simp
     rw [Qbi.eq_2]
     unfold Qdz Qc7
     rw [Qa0 (by simp; omega),hx,Qab,hg y hyl,Qab]
     cases hgy:g y
     · rw [Bool.not_false,cond_true,hk,Qab,Qxc _ (by omega),Qxc _ (by omega)]
       have e5:Qhs (kept++(m::ms)++y::rest) (kept.length:Int) y=(kept++[y])++(ms++[y])++rest:=by simp [Qhs]
       rw [e5]
       have:=ih (kept++[y]) (ms++[y]) (pre++[y]) n (by simp [e1]) (by rw [e2,List.filter_append]; simp [hgy]) (by simp) (by simp; omega) (by omega)
       simp only [List.length_append,List.length_singleton] at this
       exact this
     · rw [Bool.not_true,cond_false,Qxc _ (by omega)]
       have:=ih kept ((m::ms)++[y]) (pre++[y]) n (by simp [e1]) (by rw [e2,List.filter_append]; simp [hgy]) (by simp) (by simp; omega) (by omega)
       simp only [List.length_append,List.length_singleton] at this
       rw [show kept++(m::ms)++y::rest=kept++((m::ms)++[y])++rest by simp]
       exact this
   have hlen:l.length=a.length+(b.length+1):=by rw [h1]; simp
   have ha:a.filter (λx=>!g x)=a:=List.filter_eq_self.2 λy hy=>by simp [h2 y hy]
   have:=key b a [x] (a++[x]) fu (by simp [h1]) (by rw [List.filter_append,ha]; simp [h3]) (by simp) (by simp) (by omega)
   rw [Qxc _ (by omega)]
   simp only [List.length_append,List.length_singleton] at this
   rw [show a++[x]++b=l by simp [h1]] at this
   exact this
def dnk (keys:List Int) (p:Int):Int:=- kf keys p
theorem Jav {fu:Nat} {keys:List Int} (hfu:2097153≤fu) (hl:keys.length≤1048576):Qgw fu keys=some (srt (dnk keys) keys.length):=by
 unfold Qgw Qo0
 rw [Q5t keys.length hl (by omega),Qab]
 obtain ⟨m,rfl⟩:∃ m,fu=m+1:=⟨fu - 1,by omega⟩
 rw [Q5l true hfu m _ (by rw [Qcn]; omega) (by rw [Qcn]; omega) (λp hp=>by have:=Qh1.1 hp; omega),Qab]
 congr 1
 have e:dk keys true=dnk keys:=rfl
 rw [e]
 exact Q0u (Qr0 _ _ _) (Qs1 _ _ _ (by rw [Qcn]; omega) (Quq _ _))
def Qy3 (k:Int→Int) (x:Int):List Int→List Int→List Int
 | [],mid=>x::mid
 | y::ys,mid=>if k x<k y then Qy3 k x ys (y::mid) else (y::ys).reverse++x::mid
theorem Qyn (k:Int→Int) (x:Int):∀ (ys mid:List Int),(Qy3 k x ys mid).Perm (ys.reverse++x::mid)
 | [],mid=>List.Perm.refl _
 | y::ys,mid=>by
  unfold Qy3
  split
  · refine (Qyn k x ys (y::mid)).trans ?_
    rw [List.reverse_cons,List.append_assoc]
    refine List.Perm.append_left _ ?_
    exact List.Perm.swap _ _ _
  · exact List.Perm.refl _
theorem Qx5 (k:Int→Int) (x:Int):∀ (ys mid:List Int),(ys.reverse++mid).Pairwise (lx k)→(∀ m∈mid,lx k x m)→(∀ p∈ys,p<x)→(Qy3 k x ys mid).Pairwise (lx k)
 | [],mid,h,hm,_=>by
  unfold Qy3
  exact List.pairwise_cons.2 ⟨hm,by simpa using h⟩
 | y::ys,mid,h,hm,hy=>by
  unfold Qy3
  rw [List.reverse_cons,List.append_assoc] at h
  split
  · rename_i hk
    refine Qx5 k x ys (y::mid) (by simpa using h) ?_ (λp hp=>hy p (by simp [hp]))
    intro m hmm
    rcases List.mem_cons.1 hmm with rfl | hmm
    · exact .inl hk
    · exact hm m hmm
  · rename_i hk
    have hyx:lx k y x:=by
     have:=hy y (by simp)
     by_cases he:k y<k x
     · exact .inl he
     · exact .inr ⟨by omega,this⟩
    rw [List.reverse_cons,List.append_assoc]
    obtain ⟨h1,h2,h3⟩:=List.pairwise_append.1 h
    simp only [List.singleton_append] at h2 h3
    refine List.pairwise_append.2 ⟨h1,?_,?_⟩
    · simp only [List.singleton_append]
      obtain ⟨h4,h5⟩:=List.pairwise_cons.1 h2
      refine List.pairwise_cons.2 ⟨?_,List.pairwise_cons.2 ⟨hm,h5⟩⟩
      intro m hmm
      rcases List.mem_cons.1 hmm with rfl | hmm
      · exact hyx
      · exact h4 m hmm
    · intro a ha b hb
      simp only [List.singleton_append,List.mem_cons] at hb
      have hay:=h3 a ha y (by simp)
      rcases hb with rfl | rfl | hb
      · exact hay
      · exact Jan hay hyx
      · exact h3 a ha b (by simp [hb])
theorem Q40 (k:Int→Int) (x:Int):∀ (ys mid rest:List Int),Qy3 k x ys (mid++rest)=Qy3 k x ys mid++rest
 | [],mid,rest=>rfl
 | y::ys,mid,rest=>by
  unfold Qy3
  split
  · exact Q40 k x ys (y::mid) rest
  · simp
theorem Jih {A:List Int} {y:Int} {B:List Int} {n:Nat} (h:A.length=n):ix (A++y::B) (n:Int)=some y:=by subst h; rw [Qlf]; simp
theorem Jbg {A:List Int} {y z:Int} {B:List Int} {n:Nat} (h:A.length=n):Qhs (A++y::B) (n:Int) z=A++z::B:=by subst h; simp [Qhs]
theorem Q4c {fu:Nat} {f:Int→Int→Option Int} {k:Int→Int} (K9:List Int→Int→Option (List Int)) (i0:Int) (hf:∀ a b c,f a b=some c→(c<0↔k a<k b)) (x:Int) :
    ∀ (ys mid:List Int) (n:Nat),(∀ p∈ys,∃ c,f x p=some c)→ys.length<n→ys.length≤1048576→Qa7 fu K9 0 f i0 n (ys.reverse++x::mid) (ys.length:Int)=K9 (Qy3 k x ys mid) (w64 (i0+1))
 | [],mid,n,_,hn,_=>by
  obtain ⟨n,rfl⟩:∃ j,n=j+1:=⟨n - 1,by omega⟩
  rw [Qa7.eq_2]
  unfold Qcv Qy3
  rw [Qam (by simp)]; rfl
 | y::ys,mid,n,hy,hn,hl=>by
  simp only [List.length_cons] at hn hl
  obtain ⟨n,rfl⟩:∃ j,n=j+1:=⟨n - 1,by omega⟩
  obtain ⟨c,hc⟩:=hy y (by simp)
  have hw:w64 (((y::ys).length:Int) - 1)=(ys.length:Int):=by simp only [List.length_cons]; rw [Qa1 (by omega) (by omega)]; omega
  have e0:(y::ys).reverse++x::mid=ys.reverse++y::x::mid:=by simp
  have e1:ix ((y::ys).reverse++x::mid) ((y::ys).length:Int)=some x:=Jih (by simp)
  have e2:ix ((y::ys).reverse++x::mid) (ys.length:Int)=some y:=by rw [e0]; exact Jih (by simp)
  rw [Qa7.eq_2]
  unfold Qcv Qy3
  rw [Qa0 (by simp),e1,Qab,hw,e2,Qab,hc,Qab]
  by_cases hk:k x<k y
  · rw [if_pos hk,decide_eq_true ((hf _ _ _ hc).2 hk),cond_true]
    unfold Qc5
    have e3:Qhs ((y::ys).reverse++x::mid) ((y::ys).length:Int) y=(y::ys).reverse++y::mid:=Jbg (by simp)
    have e4:ix ((y::ys).reverse++y::mid) (ys.length:Int)=some y:=by rw [show (y::ys).reverse++y::mid=ys.reverse++y::y::mid by simp]; exact Jih (by simp)
    have e5:Qhs ((y::ys).reverse++y::mid) (ys.length:Int) x=ys.reverse++x::y::mid:=by rw [show (y::ys).reverse++y::mid=ys.reverse++y::y::mid by simp]; exact Jbg (by simp)
    rw [hw,e2,Qab,e1,Qab,Qab,e3,e4,Qab,e5]
    exact Q4c K9 i0 hf x ys (y::mid) n (λp hp=>hy p (by simp [hp])) (by omega) (by omega)
  · rw [if_neg hk,decide_eq_false (λh=>hk ((hf _ _ _ hc).1 h)),cond_false]
def Jci (k:Int→Int):List Int→List Int→List Int
 | P,[]=>P
 | P,x::xs=>Jci k (Qy3 k x P.reverse []) xs
theorem Q25 (k:Int→Int):∀ (xs P:List Int),P.Pairwise (lx k)→(∀ p∈P,∀ x∈xs,p<x)→xs.Pairwise (·<·)→(Jci k P xs).Perm (P++xs)∧(Jci k P xs).Pairwise (lx k)
 | [],P,h,_,_=>by simpa [Jci] using h
 | x::xs,P,h,hp,hx=>by
  obtain ⟨h1,h2⟩:=List.pairwise_cons.1 hx
  have hs:(Qy3 k x P.reverse []).Pairwise (lx k):=Qx5 k x P.reverse [] (by simpa using h) (by simp) (λp hp'=>hp p (by simpa using hp') x (by simp))
  have hpm:(Qy3 k x P.reverse []).Perm (P++[x]):=by simpa using Qyn k x P.reverse []
  have ih:=Q25 k xs (Qy3 k x P.reverse []) hs (λp hp' y hy=>by
   rcases List.mem_append.1 (hpm.mem_iff.1 hp') with h' | h'
   · exact hp p h' y (by simp [hy])
   · rw [List.mem_singleton.1 h']; exact h1 y hy) h2
  refine ⟨?_,ih.2⟩
  unfold Jci
  refine ih.1.trans ?_
  refine (hpm.append_right xs).trans ?_
  simp
theorem Q70 {fu:Nat} {f:Int→Int→Option Int} {k:Int→Int} (hfu:2097153≤fu) (hf:∀ a b c,f a b=some c→(c<0↔k a<k b)) {n:Nat} (hn:n≤1048576) (hin:∀ a b:Int,0≤a→a<n→0≤b→b<n→∃ c,f a b=some c) :
    ∀ (xs P:List Int) (m:Nat),xs.length<m→P.length+xs.length=n→(∀ p∈P++xs,0≤p∧p<n)→Qap fu 0 (n:Int) f m (P++xs) (P.length:Int)=some (Jci k P xs)
 | [],P,m,hm,hl,_=>by
  obtain ⟨m,rfl⟩:∃ j,m=j+1:=⟨m - 1,by omega⟩
  simp only [List.length_nil] at hl
  rw [Qap.eq_2]
  unfold Qb1
  rw [Qam (by simp; omega)]; simp [Jci]
 | x::xs,P,m,hm,hl,hp=>by
  simp only [List.length_cons] at hl hm
  obtain ⟨m,rfl⟩:∃ j,m=j+1:=⟨m - 1,by omega⟩
  rw [Qap.eq_2]
  unfold Qb1
  rw [Qa0 (by simp; omega)]
  have key:=Q4c (fu:=fu) (f:=f) (k:=k) (Qap fu 0 (n:Int) f m) (P.length:Int) hf x P.reverse xs fu (λp hp'=>by
   have h1:=hp p (by simp at hp'; simp [hp'])
   have h2:=hp x (by simp)
   exact hin x p h2.1 h2.2 h1.1 h1.2) (by simp; omega) (by simp; omega)
  rw [List.reverse_reverse,List.length_reverse] at key
  rw [key,Qxc _ (by omega)]
  have e:Qy3 k x P.reverse xs=Qy3 k x P.reverse []++xs:=by
   have:=Q40 k x P.reverse [] xs
   simpa using this
  have hpm:(Qy3 k x P.reverse []).Perm (P++[x]):=by simpa using Qyn k x P.reverse []
  have hlen:(Qy3 k x P.reverse []).length=P.length+1:=by rw [hpm.length_eq]; simp
  rw [e]
  have ih:=Q70 hfu hf hn hin xs (Qy3 k x P.reverse []) m (by omega) (by omega) (λp hp'=>by
   rcases List.mem_append.1 hp' with h' | h'
   · rcases List.mem_append.1 (hpm.mem_iff.1 h') with h'' | h''
     · exact hp p (by simp [h''])
     · exact hp p (by rw [List.mem_singleton.1 h'']; simp)
   · exact hp p (by simp [h']))
  rw [hlen] at ih
  rw [ih]; rfl
theorem Jhf (fu:Nat) (a b:Int):∃ c,Qo3 fu a b=some c∧(c<0↔a<b):=by
 unfold Qo3
 by_cases h:a<b
 · exact ⟨-1,by simp [h],by simp [h]⟩
 · by_cases h2:a>b
   · exact ⟨1,by simp [h,h2],by simp [h]⟩
   · exact ⟨0,by simp [h,h2],by simp [h]⟩
theorem Ja0 {fu:Nat} {keys:List Int} (hfu:2097153≤fu) (hl:keys.length<20):Qgy fu keys=some (srt (dnk keys) keys.length):=by
 unfold Qgy Qef Qf9
 rw [Q9x _ (by omega) (by omega),Qab]
 obtain ⟨f,hfd⟩:∃ f:Int→Int→Option Int,f=λa b=>Qe7 fu a b keys:=⟨_,rfl⟩
 have hdef:∀ a b:Int,0≤a→a<keys.length→0≤b→b<keys.length→∃ c,f a b=some c∧(c<0↔dnk keys a<dnk keys b):=by
  intro a b ha ha' hb hb'
  obtain ⟨c,h1,h2⟩:=Jhf fu (kf keys b) (kf keys a)
  refine ⟨c,?_,?_⟩
  · rw [hfd]
    show Qe7 fu a b keys=_
    unfold Qe7
    rw [Q37 ⟨hb,hb'⟩,Qab,Q37 ⟨ha,ha'⟩,Qab,h1,Qab]
  · rw [h2]; unfold dnk; omega
 have hf:∀ a b c,f a b=some c→(c<0↔dnk keys a<dnk keys b):=by
  intro a b c h
  have h0:=h
  rw [hfd] at h
  change Qe7 fu a b keys=_ at h
  unfold Qe7 at h
  obtain ⟨x,hx,h⟩:=Qs3 h
  obtain ⟨y,hy,h⟩:=Qs3 h
  obtain ⟨b0,b1,_⟩:=Qan hx
  obtain ⟨a0,a1,_⟩:=Qan hy
  obtain ⟨d,h1,h2⟩:=hdef a b a0 a1 b0 b1
  rw [h0] at h1
  cases h1
  exact h2
 have ha:=Q70 (fu:=fu) (f:=f) (k:=dnk keys) hfu hf (n:=keys.length) (by omega) (λa b h1 h2 h3 h4=>by obtain ⟨c,h,_⟩:=hdef a b h1 h2 h3 h4; exact ⟨c,h⟩)
 have hI:Qbz fu (Qnw 0 keys.length) 0 ((Qnw 0 keys.length).length:Int) f=some (srt (dnk keys) keys.length):=by
  unfold Qbz
  rw [Qcn,show w64 ((0:Int)+1)=1 by rw [Qa1 (by omega) (by omega)]; rfl]
  cases hk:keys.length with
  | zero =>
   obtain ⟨m,rfl⟩:∃ m,fu=m+1:=⟨fu - 1,by omega⟩
   rw [Qap.eq_2]
   unfold Qb1
   rw [Qam (by simp)]; rfl
  | succ n =>
   rw [hk] at ha
   have:=ha (Qnw 1 n) [0] fu (by rw [Qcn]; omega) (by rw [Qcn]; simp; omega) (λp hp=>by
    have:p∈Qnw 0 (n+1):=hp
    have:=Qh1.1 this
    omega)
   have e:Qnw 0 (n+1)=[0]++Qnw 1 n:=rfl
   rw [e]
   have h1:(([0]:List Int).length:Int)=1:=rfl
   rw [h1] at this
   rw [this]
   congr 1
   have hsp:=Q25 (dnk keys) (Qnw 1 n) [0] (by simp) (λp hp x hx=>by
    have:=Qh1.1 hx
    rw [List.mem_singleton.1 hp]; omega) (Quq _ _)
   exact Q0u hsp.1 hsp.2
 obtain ⟨m,rfl⟩:∃ m,fu=m+1:=⟨fu - 1,by omega⟩
 rw [Qdb.eq_2]
 unfold Qgm
 rw [Qam (by rw [Qcn]; simp; omega)]
 rw [← hfd,hI,Qab,Qb8.eq_2]
 unfold Qgj
 rw [Qam (by rw [Qcn]; simp; omega)]
 rfl
theorem Jix {w h d:Int} (hb:(inb w 0 2000&&(inb h 0 2000&&inb d 0 2000))=true):w64 ((w64 (w*h))*d)=w*h*d:=by
 simp only [Bool.and_eq_true,Qdc] at hb
 obtain ⟨⟨h1,h2⟩,⟨h3,h4⟩,h5,h6⟩:=hb
 have a1:0≤w*h:=Int.mul_nonneg h1 h3
 have a2:w*h≤2000*2000:=Int.mul_le_mul h2 h4 h3 (by omega)
 have a3:0≤w*h*d:=Int.mul_nonneg a1 h5
 have a4:w*h*d≤2000*2000*2000:=Int.mul_le_mul a2 h6 h5 (by omega)
 rw [Qa1 (n:=w*h) (by omega) (by omega),Qa1 (by omega) (by omega)]
theorem Jbs (fu:Nat) (w h d:Int):Qkg fu w h d=some (Q5x w h d):=by
 unfold Qkg Qpe Q5x
 simp only [Q0h,Qab]
 cases h1:inb w 0 2000 <;> cases h2:inb h 0 2000 <;> cases h3:inb d 0 2000 <;> simp only [Bool.not_true,Bool.not_false,cond_true,cond_false,Bool.and_true,Bool.and_false]
 rw [Jix (by simp only [h1,h2,h3]; rfl)]
theorem Jek (fu:Nat) (w h d:Int):Qn1 fu w h d=some (Q5x w h d):=by
 unfold Qn1 Qps Q5x
 simp only [Q0l,Qab]
 cases h1:inb w 0 2000 <;> cases h2:inb h 0 2000 <;> cases h3:inb d 0 2000 <;> simp only [Bool.not_true,Bool.not_false,cond_true,cond_false,Bool.and_true,Bool.and_false]
 rw [Jix (by simp only [h1,h2,h3]; rfl)]
def Qvo (r:Request) (u:Int):Item:=(Q2b r u).getD Q5z
theorem Q09 (r:Request):w64 (((Qmz r).length:Int) - 1)=((Qmz r).length:Int) - 1:=by
 have:=Q1v r
 exact Qa1 (by omega) (by omega)
theorem Q8x (fu:Nat) (r:Request) (u:Int):Qk4 fu r (Qmz r) u=some (Qvo r u,(Q2b r u).isSome):=by
 unfold Qk4 Qvo
 rw [Q09,Q0h,Qab]
 by_cases h:0≤u∧u<(Qmz r).length
 · obtain ⟨i,x,h1,h2,h3⟩:=Q30 h
   rw [Qam (by simp; omega),h1,Qab,h2,Qab,h3]
   rfl
 · rw [Qa0 (by simp [inb]; omega),Q1r h]
   rfl
theorem Q9k:Q63 Q5z=0:=by simp [Q63,Q5x,Q5z]
theorem Q3v {fu:Nat} {r:Request} (h:Sm fu r) (us:List Int) (hl:us.length≤1048576) (hf:us.length<fu):Qih fu r us=some (Qwj r us):=by
 unfold Qih
 rw [Jbx h,Qab]
 have key:=lpI us (λn s i=>Qfa fu r us (Qmz r) n s i) (λl out=>some (out++Qwj r l)) (λl out=>out.length+l.length≤1048576) (by omega) ?_ ?_ fu [] (by simpa using hl) hf
 · simpa using key
 · intro n s i x xs hx hd hI ih
   simp only [Qfa.eq_2]
   unfold Qk3 Qjm
   simp only [hd,cond_true,hx,Qab,Q09,Q0l]
   simp only [List.length_cons] at hI
   by_cases hu:0≤x∧x<(Qmz r).length
   · obtain ⟨i',y,h1,h2,h3⟩:=Q30 hu
     rw [Qa0 (by simp; omega),h1,Qab,h2,Qab,ap1 (by simp; omega),Qab,ih _ (by simp; omega)]
     simp [Qwj,List.filterMap_cons,h3]
   · rw [Qam (by simp [inb]; omega),ih _ (by omega)]
     simp [Qwj,List.filterMap_cons,Q1r hu]
 · intro n s i hd _
   simp only [Qfa.eq_2]
   unfold Qk3
   simp only [hd,cond_false]
   simp [Qwj]
theorem Q8g {fu:Nat} {r:Request} (h:Sm fu r) (us:List Int) (hl:us.length≤1048576) (hf:us.length<fu):Qjb fu r us=some (Qwp r us):=by
 unfold Qjb
 rw [Q3v h us hl hf,Qab]
 have hlen:=Qxn r us
 have key:=lpI (Qwj r us) (λn s i=>Qfu fu (Qwj r us) n s i) (λl n=>some (n+Qw1 (l.map Q63))) (λl n=>0≤n∧n+8000000000*l.length≤8000000000*1048576) (by omega) ?_ ?_ fu 0 ⟨by omega,by omega⟩ (by omega)
 · simpa [Qwp] using key
 · intro n s i x xs hx hd hI ih
   simp only [Qfu.eq_2]
   unfold Qi2
   simp only [hd,cond_true,hx,Qab,Jek]
   have hv:=Q6u x.fW x.fH x.fD
   have h2:=hI.2
   simp only [List.length_cons] at h2
   rw [Qa1 (by omega) (by omega),ih _ ⟨by omega,by omega⟩]
   simp only [List.map_cons,Qrk,Q63]
   congr 1
   omega
 · intro n s i hd _
   simp only [Qfu.eq_2]
   unfold Qi2
   simp only [hd,cond_false]
   simp
end Go.Proofs.YtpcmapfabndggabGreatDoor
