/- ExactPackBP: plain l.. -/
import Derived.Test.YtpcmapfabndggaaGreatDoorExactPackBD
import Derived.Test.YtpcmapfabndggaaGreatDoorM3
set_option linter.unusedSimpArgs false
set_option linter.unusedVariables false
namespace Go.Proofs.YtpcmapfabndggaaGreatDoor
open Go
open Enc (rd ow)
open Arg (argv)
open Ret (retv)
open Wf (wf)
theorem Q41 {fu:Nat} (n:Nat) (hn:n≤1048576) (hf:n<fu):Qi4 fu (n:Int)=some (Qnm 0 n):=by
 unfold Qi4
 have key:∀ (m i k:Nat),n - i=m→i≤n→m<k→Qfn fu (n:Int) k (Qnm 0 i) (i:Int)=some (Qnm 0 n):=by
  intro m
  induction m with
  | zero =>
   intro i k hm hi hk
   obtain ⟨k,rfl⟩:∃ j,k=j+1:=⟨k - 1,by omega⟩
   have:i=n:=by omega
   subst this
   rw [Qfn.eq_2]
   unfold Qiv
   simp
  | succ m ih =>
   intro i k hm hi hk
   obtain ⟨k,rfl⟩:∃ j,k=j+1:=⟨k - 1,by omega⟩
   rw [Qfn.eq_2]
   unfold Qiv
   rw [Qa0 (by simp; omega),ap1 (by rw [Qcn]; simp; omega),Qab,Qwx i (by omega)]
   have e:=Q64 0 i
   rw [Int.zero_add] at e
   rw [← e]
   exact ih (i+1) k (by omega) (by omega) (by omega)
 exact key n 0 fu (by omega) (by omega) hf
def dk (keys:List Int) (Qt8:Bool) (p:Int):Int:=bif Qt8 then - kf keys p else kf keys p
theorem Q3q {keys:List Int} {p:Int} (h:0≤p∧p<keys.length):ix keys p=some (kf keys p):=by
 have h1:p.toNat<keys.length:=by omega
 unfold kf ix
 rw [if_pos h.1,List.getElem?_eq_getElem h1]
 rfl
theorem Jhl {fu:Nat} {keys a b:List Int} (Qt8:Bool) (ha:∀ p∈a,0≤p∧p<keys.length) (hb:∀ p∈b,0≤p∧p<keys.length) (hla:a.length≤1048576) (hlb:b.length≤1048576) :
    ∀ (m:Nat) (n:Nat) (out:List Int) (i j:Nat),i≤a.length→j≤b.length→(a.length - i)+(b.length - j)=m→m<n→out.length+m≤2097152 →
     Qcq fu keys Qt8 a b n out i j=some (out++mrg (dk keys Qt8) (a.drop i) (b.drop j)):=by
 intro m
 induction m with
 | zero =>
  intro n out i j hi hj hm hn ho
  obtain ⟨n,rfl⟩:∃ k,n=k+1:=⟨n - 1,by omega⟩
  rw [Qcq.eq_2]
  unfold Qkq
  rw [Qam (by simp; omega),Qam (by simp; omega),List.drop_of_length_le (show a.length≤i by omega),List.drop_of_length_le (show b.length≤j by omega)]
  simp [mrg]
 | succ m ih =>
  intro n out i j hi hj hm hn ho
  obtain ⟨n,rfl⟩:∃ k,n=k+1:=⟨n - 1,by omega⟩
  have hL:Qcq fu keys Qt8 a b (n+1) out i j=Qhb fu (Qcq fu keys Qt8 a b n) keys Qt8 a b out i j:=by
   rw [Qcq.eq_2]
   unfold Qkq
   by_cases h:i<a.length
   · rw [Qa0 (by simpa using h)]
   · rw [Qam (by simpa using h),Qa0 (by simp; omega)]
  have tA:∀ (h:i<a.length),(Qfi 8 out [a[i]])=some (out++[a[i]]):=λh=>ap1 (by simp; omega)
  have tB:∀ (h:j<b.length),(Qfi 8 out [b[j]])=some (out++[b[j]]):=λh=>ap1 (by simp; omega)
  have nA:∀ (h:i<a.length),Qcq fu keys Qt8 a b n (out++[a[i]]) (w64 ((i:Int)+1)) j=some (out++a[i]::mrg (dk keys Qt8) (a.drop (i+1)) (b.drop j)):=λh=>by
   rw [Qwx i (by omega),ih n (out++[a[i]]) (i+1) j (by omega) hj (by omega) (by omega) (by simp; omega)]
   simp
  have nB:∀ (h:j<b.length),Qcq fu keys Qt8 a b n (out++[b[j]]) i (w64 ((j:Int)+1))=some (out++b[j]::mrg (dk keys Qt8) (a.drop i) (b.drop (j+1))):=λh=>by
   rw [Qwx j (by omega),ih n (out++[b[j]]) i (j+1) hi (by omega) (by omega) (by omega) (by simp; omega)]
   simp
  rw [hL]
  unfold Qhb
  by_cases hjb:j=b.length
  · have h:i<a.length:=by omega
    rw [Qa0 (by simp [hjb]),Qzu h,Qab,tA h,Qab,nA h,List.drop_of_length_le (show b.length≤j by omega),Q78,Q78,← List.drop_eq_getElem_cons h]
  · have hj':j<b.length:=by omega
    rw [Qam (by simp; omega)]
    by_cases hia:i=a.length
    · rw [Qa0 (by simp [hia]),Qzu hj',Qab,tB hj',Qab,nB hj',List.drop_of_length_le (show a.length≤i by omega)]
      have e1:∀ l,mrg (dk keys Qt8) [] l=l:=λl=>by rw [mrg]
      rw [e1,e1,← List.drop_eq_getElem_cons hj']
    · have hi':i<a.length:=by omega
      rw [Qam (by simp; omega)]
      simp only [Qzu hi',Qzu hj',Qab,Q3q (ha _ (List.getElem_mem hi')),Q3q (hb _ (List.getElem_mem hj')),tA hi',tB hj',nA hi',nB hj']
      rw [List.drop_eq_getElem_cons hi',List.drop_eq_getElem_cons hj',Quw,← List.drop_eq_getElem_cons hi',← List.drop_eq_getElem_cons hj']
      have hx:dk keys Qt8 a[i]=bif Qt8 then - kf keys a[i] else kf keys a[i]:=rfl
      have hy:dk keys Qt8 b[j]=bif Qt8 then - kf keys b[j] else kf keys b[j]:=rfl
      rw [hx,hy]
      generalize kf keys a[i]=x
      generalize kf keys b[j]=y
      cases Qt8
      · by_cases hc:y<x
        · rw [if_pos (by simpa using hc)]; simp [hc]
        · rw [if_neg (by simpa using hc)]
          have:decide (y>x)=true∨decide (y>x)=false:=by cases decide (y>x) <;> simp
          rcases this with h | h <;> simp [hc,h]
      · by_cases hc:x<y
        · have h:¬ y<x:=by omega
          rw [if_pos (by simpa using hc)]; simp [hc,h]
        · rw [if_neg (by simpa using hc)]
          have h:decide (y<x)=true∨decide (y<x)=false:=by cases decide (y<x) <;> simp
          rcases h with h | h <;> simp [hc,h]
theorem Q4i {fu:Nat} {keys:List Int} (Qt8:Bool) (hfu:2097153≤fu):∀ (n:Nat) (l:List Int),l.length≤n→l.length≤1048576→(∀ p∈l,0≤p∧p<keys.length) →
    Qhy fu (n+1) keys l Qt8=some (msr (dk keys Qt8) (n+1) l)
 | n,l,hn,hl,hm=>by
  rw [Qhy.eq_2]
  unfold Qqx msr
  by_cases h2:l.length<2
  · rw [Qa0 (by simp; omega),if_pos h2,ap1 (by simp; omega)]; rfl
  · rw [Qam (by simp; omega),if_neg h2]
    have hd:Int.tdiv (l.length:Int) 2=((l.length / 2:Nat):Int):=by simp [Int.tdiv]
    obtain ⟨n,rfl⟩:∃ k,n=k+1:=⟨n - 1,by omega⟩
    rw [hd,Qa1 (by omega) (by omega),Qs0 (by omega),Qs0 (by omega),Qab]
    simp only [Int.toNat_natCast,Int.toNat_zero,List.drop_zero,Nat.sub_zero,Qab]
    rw [Q4i Qt8 hfu n (l.take (l.length / 2)) (by rw [List.length_take]; omega) (by rw [List.length_take]; omega) (λp hp=>hm p (List.mem_of_mem_take hp)),Qab]
    have e:(l.drop (l.length / 2)).take (l.length - l.length / 2)=l.drop (l.length / 2):=List.take_of_length_le (by rw [List.length_drop]; omega)
    rw [e,Q4i Qt8 hfu n (l.drop (l.length / 2)) (by rw [List.length_drop]; omega) (by rw [List.length_drop]; omega) (λp hp=>hm p (List.mem_of_mem_drop hp)),Qab]
    have hp1:=(Qro (dk keys Qt8) (n+1) (l.take (l.length / 2)))
    have hp2:=(Qro (dk keys Qt8) (n+1) (l.drop (l.length / 2)))
    have l1:=hp1.length_eq
    have l2:=hp2.length_eq
    rw [List.length_take] at l1
    rw [List.length_drop] at l2
    rw [show (0:Int)=((0:Nat):Int) from rfl]
    rw [Jhl Qt8 (λp hp=>hm p (List.mem_of_mem_take (hp1.mem_iff.1 hp))) (λp hp=>hm p (List.mem_of_mem_drop (hp2.mem_iff.1 hp))) (by omega) (by omega) _ fu [] 0 0 (by omega) (by omega) rfl (by omega) (by simp; omega)]
    simp
theorem Jia {fu:Nat} {keys:List Int} (hfu:2097153≤fu) (hl:keys.length≤1048576):Qod fu keys=some (srt (kf keys) keys.length):=by
 unfold Qod Qo2
 rw [Q41 keys.length hl (by omega),Qab]
 obtain ⟨m,rfl⟩:∃ m,fu=m+1:=⟨fu - 1,by omega⟩
 rw [Q4i false hfu m _ (by rw [Qcn]; omega) (by rw [Qcn]; omega) (λp hp=>by have:=Qie.1 hp; omega),Qab]
 congr 1
 have e:dk keys false=kf keys:=rfl
 rw [e]
 exact Q0z (Qro _ _ _) (Qsu _ _ _ (by rw [Qcn]; omega) (Quo _ _))
structure Sm (fu:Nat) (r:Request):Prop where
 fu:2097153≤fu
 pairs:r.fR.length≤1048576
 types:r.fG.length≤1048576
 items:r.fV.length≤1048576
theorem Q08 (fu:Nat) (n lo hi:Int):Qau fu n lo hi=some (inb n lo hi):=by
 unfold Qau inb
 by_cases h:lo≤n
 · simp [h]
 · simp [h]
theorem Q0g (fu:Nat) (n lo hi:Int):Qaz fu n lo hi=some (inb n lo hi):=Q08 fu n lo hi
theorem Q6t (fu:Nat) (n:Int):Qea fu n=some (inb n 1 2000):=by unfold Qea; rw [Q08]; rfl
theorem Jfv (fu:Nat) (n:Int):Qm2 fu n=some (inb n 0 999):=by unfold Qm2; rw [Q08]; rfl
theorem Q8i (fu:Nat) (n:Int):Qdu fu n=some (inb n 1 2000):=by unfold Qdu; rw [Q0g]; rfl
theorem Q9q (fu:Nat) (p:Pallet):Qgt fu p=some (Quj p):=by
 unfold Qgt Quj
 simp only [Q6t,Q08,Qab]
 cases inb p.fW 1 2000 <;> cases inb p.fD 1 2000 <;> cases inb p.fH 1 2000 <;> rfl
theorem Jf7 (fu:Nat) (p:Pallet):Qem fu p=some (Quj p):=by
 unfold Qem Quj
 simp only [Q8i,Q0g,Qab]
 cases inb p.fW 1 2000 <;> cases inb p.fD 1 2000 <;> cases inb p.fH 1 2000 <;> rfl
theorem Jg8 (fu:Nat) (t:Typ):Qqf fu t=some (Q1i t):=by
 unfold Qqf Q1i
 simp only [Q6t,Q08,Jfv,Qab]
 cases inb t.f8 0 999 <;> cases inb t.fW 1 2000 <;> cases inb t.fH 1 2000 <;> cases inb t.fD 1 2000 <;> cases inb t.fO 0 100000 <;> cases inb t.fQ 1 100000 <;> rfl
theorem Jho (fu:Nat) (t:Typ):Qqn fu t=some (Q1i t):=by
 unfold Qqn Q1i
 simp only [Q8i,Q0g,Qab]
 cases inb t.f8 0 999 <;> cases inb t.fW 1 2000 <;> cases inb t.fH 1 2000 <;> cases inb t.fD 1 2000 <;> cases inb t.fO 0 100000 <;> cases inb t.fQ 1 100000 <;> rfl
theorem Jg0 (fu:Nat) (t:Item):Qqj fu t=some (Qw8 t):=by
 unfold Qqj Qw8
 simp only [Q6t,Q08,Jfv,Qab]
 cases inb t.f8 0 999 <;> cases inb t.fW 1 2000 <;> cases inb t.fH 1 2000 <;> cases inb t.fD 1 2000 <;> cases inb t.fQ 1 100000 <;> cases inb t.fM 0 3 <;> rfl
theorem Jg3 (fu:Nat) (t:Item):Qqi fu t=some (Qw8 t):=by
 unfold Qqi Qw8
 simp only [Q8i,Q0g,Qab]
 cases inb t.f8 0 999 <;> cases inb t.fW 1 2000 <;> cases inb t.fH 1 2000 <;> cases inb t.fD 1 2000 <;> cases inb t.fQ 1 100000 <;> cases inb t.fM 0 3 <;> rfl
def Jdm:List Item→Int→Option Bool
 | [],n=>some (decide (n≤12))
 | x::xs,n=>bif !Qw8 x then some false else Jdm xs (w64 (n+x.fF))
theorem Q3e:∀ (l:List Item) (n:Int),0≤n→n+6*l.length≤4611686018427387904→Jdm l n=some (l.all Qw8&&decide (n+Qw1 (l.map (·.fF))≤12))
 | [],n,_,_=>by simp [Jdm]
 | x::xs,n,h0,h1=>by
  unfold Jdm
  cases hx:Qw8 x
  · simp [hx]
  · have hc:=hx
    simp only [Qw8,Bool.and_eq_true,Qdx] at hc
    have hc:=hc.2.2.2.2.2.2
    simp only [List.length_cons] at h1
    rw [Qa1 (by omega) (by omega)]
    simp only [Bool.not_true,cond_false]
    rw [Q3e xs (n+x.fF) (by omega) (by omega)]
    simp only [List.all_cons,hx,Bool.true_and,List.map_cons,Qrf,Int.add_assoc]
theorem Jhg {fu:Nat} {r:Request} (h:Sm fu r):Qni fu r=some (Q20 r):=by
 have hfu:=h.fu
 have h7:r.fV.length≤8→Qdw fu r fu 0 0=some (r.fV.all Qw8&&decide (Qw1 (r.fV.map (·.fF))≤12)):=by
  intro h8
  rw [lp r.fV (λn s i=>Qdw fu r n s i) Jdm (by have:=h.items; omega) ?_ ?_ fu 0 (by have:=h.items; omega),Q3e _ _ (by omega) (by have:=h.items; omega)]
  · simp
  · intro n s i x xs hx hd ih
    simp only [Qdw.eq_2]
    unfold Qix
    simp only [hd,cond_true,hx,Qab,Jg0,ih]
    rfl
  · intro n s i hd
    simp only [Qdw.eq_2]
    unfold Qix
    simp only [hd,cond_false]
    rfl
 have h6:∀ b:Bool,(Qdw fu r fu 0 0=some b)→Qds fu r fu 0=some (r.fG.all Q1i&&b):=by
  intro b hb
  refine lp r.fG (λn (_:Unit) i=>Qds fu r n i) (λl _=>some (l.all Q1i&&b)) (by have:=h.types; omega) ?_ ?_ fu () (by have:=h.types; omega)
  · intro n s i x xs hx hd ih
    simp only [Qds.eq_2]
    unfold Qin
    simp only [hd,cond_true,hx,Qab,Jg8,ih (),List.all_cons]
    cases Q1i x <;> rfl
  · intro n s i hd
    simp only [Qds.eq_2]
    unfold Qin
    simp only [hd,cond_false,hb]
    rfl
 have h4:∀ b:Bool,(Qds fu r fu 0=some b)→Qdr fu r fu 0=some (r.fR.all prB&&b):=by
  intro b hb
  refine lp r.fR (λn (_:Unit) i=>Qdr fu r n i) (λl _=>some (l.all prB&&b)) (by have:=h.pairs; omega) ?_ ?_ fu () (by have:=h.pairs; omega)
  · intro n s i x xs hx hd ih
    simp only [Qdr.eq_2]
    unfold Qip Qmg
    simp only [hd,cond_true,hx,Qab,Q08,ih ()]
    simp only [List.all_cons,prB]
    cases inb x.fA 0 3 <;> cases inb x.fB 0 3 <;> rfl
  · intro n s i hd
    simp only [Qdr.eq_2]
    unfold Qip
    simp only [hd,cond_false,hb]
    rfl
 unfold Qni Qmk Q20
 simp only [Q08,Jfv,Q9q,Qab]
 by_cases h8:r.fV.length≤8
 · rw [h4 _ (h6 _ (h7 h8))]
   have e8:decide ((r.fV.length:Int)>8)=false:=by simp; omega
   rw [e8]
   by_cases hp:r.fR.length≤16
   · have e16:decide ((r.fR.length:Int)>16)=false:=by simp; omega
     rw [e16]
     simp only [hp,h8,decide_true,cond_false,Bool.and_true]
     cases inb r.ff 0 1 <;> cases Quj r.fJ <;> cases inb r.fU 1 4 <;> cases inb (r.fG.length:Int) 1 5 <;> cases inb r.fT 0 999 <;> simp <;> cases r.fR.all prB <;> cases r.fG.all Q1i <;> rfl
   · have e16:decide ((r.fR.length:Int)>16)=true:=by simp; omega
     rw [e16]
     simp only [hp,decide_false,cond_true]
     cases inb r.ff 0 1 <;> cases Quj r.fJ <;> cases inb r.fU 1 4 <;> simp
 · have e8:decide ((r.fV.length:Int)>8)=true:=by simp; omega
   rw [e8]
   simp only [h8,decide_false,cond_true,Bool.and_false,Bool.false_and]
   cases inb r.ff 0 1 <;> cases Quj r.fJ <;> cases inb r.fU 1 4 <;> simp
def Qwb {α:Type} (g:α→Bool):List α→Int→Int
 | [],_=>-1
 | x::xs,i=>bif g x then i else Qwb g xs (i+1)
theorem Qsy {α:Type} (g:α→Bool):∀ (l:List α) (i:Int),0≤i→decide (Qwb g l i≥0)=l.any g
 | [],i,_=>rfl
 | x::xs,i,h=>by
  simp only [Qwb,List.any_cons]
  by_cases hx:g x=true
  · simpa [hx] using h
  · simpa [hx] using Qsy g xs (i+1) (by omega)
theorem Q19 {α:Type} (g:α→Bool):∀ (l pre:List α) ,(Qwb g l pre.length<0∧l.find? g=none)∨(0≤Qwb g l pre.length∧∃ x,l.find? g=some x∧ix (pre++l) (Qwb g l pre.length)=some x)
 | [],pre=>.inl ⟨by simp [Qwb],rfl⟩
 | x::xs,pre=>by
  simp only [Qwb]
  cases hx:g x
  · have:=Q19 g xs (pre++[x])
    simp only [List.length_append,List.length_singleton,List.append_assoc,List.singleton_append] at this
    simpa [List.find?_cons,hx] using this
  · refine .inr ⟨by simp,x,by simp [hx],?_⟩
    rw [cond_true,Qlg]
    simp
theorem Qs3 {α:Type} (l:List α) (L:Nat→Int→Option Int) (g:α→Bool) (hl:l.length≤1099511627776)
    (hs:∀ n (i:Int) x,ix l i=some x→decide (i<(l.length:Int))=true→L (n+1) i=bif g x then some i else L n (w64 (i+1)))
    (he:∀ n (i:Int),decide (i<(l.length:Int))=false→L (n+1) i=some (-1)) (n:Nat) (hn:l.length<n):L n 0=some (Qwb g l 0):=by
 have key:∀ (m i n:Nat),l.length - i=m→i≤l.length→m<n→L n (i:Int)=some (Qwb g (l.drop i) i):=by
  intro m
  induction m with
  | zero =>
   intro i n hm hi hn
   obtain ⟨n,rfl⟩:∃ k,n=k+1:=⟨n - 1,by omega⟩
   rw [List.drop_of_length_le (by omega),he n i (by simp; omega)]
   rfl
  | succ m ih =>
   intro i n hm hi hn
   obtain ⟨n,rfl⟩:∃ k,n=k+1:=⟨n - 1,by omega⟩
   have hlt:i<l.length:=by omega
   rw [hs n i _ (Qzu hlt) (by simpa using hlt),List.drop_eq_getElem_cons hlt]
   simp only [Qwb]
   cases g l[i]
   · rw [cond_false,cond_false,Qwx i (by omega)]
     have:=ih (i+1) n (by omega) (by omega) (by omega)
     simpa using this
   · rfl
 simpa using key l.length 0 n (by omega) (by omega) hn
theorem Q5k {fu:Nat} {l:List Typ} (f:Typ→Option Bool) (g:Typ→Bool) (hg:∀ x∈l,f x=some (g x)) (hl:l.length≤1048576) (hf:l.length<fu):Qbh fu l f=some (Qwb g l 0):=by
 unfold Qbh
 refine Qs3 l (λn i=>Qa3 fu l f n i) g (by omega) ?_ ?_ fu hf
 · intro n i x hx hd
   simp only [Qa3.eq_2]
   unfold Qca
   simp only [hd,cond_true,hx,Qab,hg x (Qmc hx)]
 · intro n i hd
   simp only [Qa3.eq_2]
   unfold Qca
   simp only [hd,cond_false]
theorem Q1n {fu:Nat} {l:List Typ} (f:Typ→Option Bool) (g:Typ→Bool) (hg:∀ x∈l,f x=some (g x)) (hl:l.length≤1048576) (hf:l.length<fu):Qat fu l f=some (l.any g):=by
 unfold Qat
 rw [Q5k f g hg hl hf,Qab,Qsy g l 0 (by omega)]
theorem Q8x {fu:Nat} {l:List Pair} (f:Pair→Option Bool) (g:Pair→Bool) (hg:∀ x∈l,f x=some (g x)) (hl:l.length≤1048576) (hf:l.length<fu):Qb3 fu l f=some (Qwb g l 0):=by
 unfold Qb3
 refine Qs3 l (λn i=>Qa2 fu l f n i) g (by omega) ?_ ?_ fu hf
 · intro n i x hx hd
   simp only [Qa2.eq_2]
   unfold Qb9
   simp only [hd,cond_true,hx,Qab,hg x (Qmc hx)]
 · intro n i hd
   simp only [Qa2.eq_2]
   unfold Qb9
   simp only [hd,cond_false]
theorem Q15 {fu:Nat} {l:List Pair} (f:Pair→Option Bool) (g:Pair→Bool) (hg:∀ x∈l,f x=some (g x)) (hl:l.length≤1048576) (hf:l.length<fu):Qa5 fu l f=some (l.any g):=by
 unfold Qa5
 rw [Q8x f g hg hl hf,Qab,Qsy g l 0 (by omega)]
theorem Q67 {fu:Nat} {l:List Item} (f:Item→Option Bool) (g:Item→Bool) (hg:∀ x∈l,f x=some (g x)) (hl:l.length≤1048576) (hf:l.length<fu):Qb5 fu l f=some (Qwb g l 0):=by
 unfold Qb5
 refine Qs3 l (λn i=>Qa6 fu l f n i) g (by omega) ?_ ?_ fu hf
 · intro n i x hx hd
   simp only [Qa6.eq_2]
   unfold Qcb
   simp only [hd,cond_true,hx,Qab,hg x (Qmc hx)]
 · intro n i hd
   simp only [Qa6.eq_2]
   unfold Qcb
   simp only [hd,cond_false]
theorem Qxn {fu:Nat} {l:List Item} (f:Item→Option Bool) (g:Item→Bool) (hg:∀ x∈l,f x=some (g x)) (hl:l.length≤1048576) (hf:l.length<fu):Qa4 fu l f=some (l.any g):=by
 unfold Qa4
 rw [Q67 f g hg hl hf,Qab,Qsy g l 0 (by omega)]
theorem Jhn {fu:Nat} {r:Request} (h:Sm fu r):Qm8 fu r=some (Q20 r):=by
 have hfu:=h.fu
 have h1:=h.items
 have h2:=h.types
 have h3:=h.pairs
 have e3:Qej fu r fu 0 0=some (r.fV.all Qw8&&decide (Qw1 (r.fV.map (·.fF))≤12)):=by
  rw [lp r.fV (λn s i=>Qej fu r n s i) Jdm (by omega) ?_ ?_ fu 0 (by omega),Q3e _ _ (by omega) (by omega)]
  · simp
  · intro n s i x xs hx hd ih
    simp only [Qej.eq_2]
    unfold Qit
    simp only [hd,cond_true,hx,Qab,Jg3,ih]
    rfl
  · intro n s i hd
    simp only [Qej.eq_2]
    unfold Qit
    simp only [hd,cond_false]
    rfl
 have ep:Qa5 fu r.fR (λy34=>Qjm fu y34)=some (!(r.fR.all prB)):=by
  rw [Q15 _ (λp=>!prB p) (λp _=>by
   unfold Qjm prB
   simp only [Q0g,Qab]
   cases inb p.fA 0 3 <;> rfl) h3 (by omega)]
  simp [List.not_all_eq_any_not]
 have et:Qat fu r.fG (λy34=>Qi9 fu y34)=some (!(r.fG.all Q1i)):=by
  rw [Q1n _ (λp=>!Q1i p) (λp _=>by
   unfold Qi9
   rw [Jho]; rfl) h2 (by omega)]
  simp [List.not_all_eq_any_not]
 unfold Qm8 Ql6 Qms Q20
 rw [e3,ep,et]
 simp only [Q0g,Jf7,Qab]
 have e8:decide ((r.fV.length:Int)>8)=!decide (r.fV.length≤8):=by
  by_cases hh:r.fV.length≤8
  · have:¬ ((r.fV.length:Int)>8):=by omega
    simp [hh,this]
  · have:(r.fV.length:Int)>8:=by omega
    simp [hh,this]
 have e16:decide ((r.fR.length:Int)>16)=!decide (r.fR.length≤16):=by
  by_cases hh:r.fR.length≤16
  · have:¬ ((r.fR.length:Int)>16):=by omega
    simp [hh,this]
  · have:(r.fR.length:Int)>16:=by omega
    simp [hh,this]
 rw [e8,e16]
 cases inb r.ff 0 1 <;> cases Quj r.fJ <;> cases inb r.fU 1 4 <;> cases decide (r.fR.length≤16) <;> cases r.fR.all prB <;> cases inb (r.fG.length:Int) 1 5 <;> cases r.fG.all Q1i <;> cases inb r.fT 0 999 <;> cases decide (r.fV.length≤8) <;> rfl
theorem lpP {σ α β:Type} (l:List α) (L:Nat→σ→Int→Option β) (F:List α→List α→σ→Option β) (hl:l.length≤1099511627776)
    (hs:∀ n s pre x xs,l=pre++x::xs→ix l (pre.length:Int)=some x→decide ((pre.length:Int)<(l.length:Int))=true→(∀ s',L n s' (w64 ((pre.length:Int)+1))=F (pre++[x]) xs s')→L (n+1) s (pre.length:Int)=F pre (x::xs) s)
    (he:∀ n s,decide ((l.length:Int)<(l.length:Int))=false→L (n+1) s (l.length:Int)=F l [] s):∀ n s,l.length<n→L n s 0=F [] l s:=by
 have key:∀ (xs pre:List α) (n:Nat) (s:σ),l=pre++xs→xs.length<n→L n s (pre.length:Int)=F pre xs s:=by
  intro xs
  induction xs with
  | nil =>
   intro pre n s he' hn
   obtain ⟨n,rfl⟩:∃ k,n=k+1:=⟨n - 1,by omega⟩
   simp only [List.append_nil] at he'
   subst he'
   exact he n s (by simp)
  | cons x xs ih =>
   intro pre n s he' hn
   obtain ⟨n,rfl⟩:∃ k,n=k+1:=⟨n - 1,by simp at hn; omega⟩
   have hlen:l.length=pre.length+(xs.length+1):=by rw [he']; simp
   refine hs n s pre x xs he' ?_ (by simp; omega) λs'=>?_
   · rw [Qlg,he']; simp
   · rw [Qwx _ (by omega)]
     have:=ih (pre++[x]) n s' (by simp [he']) (by simp at hn; omega)
     simpa using this
 intro n s hn
 simpa using key l [] n s rfl hn
theorem Jbb {α:Type} {pre rest:List α} {i:Int} {y:α} (h:ix pre i=some y):ix (pre++rest) i=some y:=by
 obtain ⟨h0,h1,h2⟩:=Qan h
 unfold ix
 rw [if_pos h0,List.getElem?_append_left (by omega),h2]
theorem Jg7 (a b:Int):(a==b)=(b==a):=Bool.eq_iff_iff.2 (by simp only [beq_iff_eq]; exact ⟨Eq.symm,Eq.symm⟩)
theorem Qye {fu:Nat} {r:Request} (h:Sm fu r) (id:Int):Qhm fu r id=some (Qyl (Qsw r id)):=by
 have hfu:=h.fu
 have ht:=h.types
 unfold Qhm Qsw
 rw [Q5k (λy24=>Qn1 fu y24 id) (λt=>t.f8==id) (λt _=>rfl) ht (by omega),Qab]
 rcases Q19 (λt:Typ=>t.f8==id) r.fG [] with ⟨h1,h2⟩ | ⟨h1,x,h2,h3⟩
 · simp only [List.length_nil] at h1
   rw [Qa0 (by simpa using h1),h2]; rfl
 · simp only [List.length_nil,List.nil_append] at h1 h3
   rw [Qam (by simpa using h1),h2]
   have h3':ix r.fG (Qwb (λt=>t.f8==id) r.fG 0)=some x:=h3
   rw [h3']; rfl
theorem Q9c {fu:Nat} {r:Request} (h:Sm fu r):Qgx fu r=some (Qyl (Qsw r r.fT)):=by
 have hfu:=h.fu
 have ht:=h.types
 unfold Qgx Qsw
 refine lp r.fG (λn (_:Unit) i=>Qfl fu r n i) (λl _=>some (Qyl (l.find? λt=>t.f8==r.fT))) (by omega) ?_ ?_ fu () (by omega)
 · intro n s i x xs hx hd ih
   simp only [Qfl.eq_2]
   unfold Qir
   simp only [hd,cond_true,hx,Qab,ih (),List.find?_cons]
   cases x.f8==r.fT <;> rfl
 · intro n s i hd
   simp only [Qfl.eq_2]
   unfold Qir
   simp only [hd,cond_false]
   rfl
theorem Jbj {fu:Nat} {r:Request} (h:Sm fu r):Qhg fu r=some (Qyl (Qsw r r.fT)):=by
 unfold Qhg
 rw [Qye h]; rfl
theorem Q0e (o:Option Typ):(Qyl o).2=o.isSome:=by cases o <;> rfl
theorem Jgr {fu:Nat} {r:Request} (h:Sm fu r):Qoz fu r=some (Q75 r):=by
 have hfu:=h.fu
 have h1:=h.items
 have h2:=h.types
 have h3:=h.pairs
 have e11:Qdl fu r fu 0=some (!(r.fR.any λp=>decide (p.fA≥r.fU)||decide (p.fB≥r.fU))&&(Qsw r r.fT).isSome):=by
  refine lp r.fR (λn (_:Unit) i=>Qdl fu r n i) (λl _=>some (!(l.any λp=>decide (p.fA≥r.fU)||decide (p.fB≥r.fU))&&(Qsw r r.fT).isSome)) (by omega) ?_ ?_ fu () (by omega)
  · intro n s i x xs hx hd ih
    simp only [Qdl.eq_2]
    unfold Qkj Qn3
    simp only [hd,cond_true,hx,Qab,ih (),List.any_cons]
    cases decide (x.fA≥r.fU) <;> cases decide (x.fB≥r.fU) <;> rfl
  · intro n s i hd
    simp only [Qdl.eq_2]
    unfold Qkj
    simp only [hd,cond_false,Q9c h,Qab,Q0e]
    rfl
 have e7:∀ b,Qdl fu r fu 0=some b→Qbn fu r fu 0=some (Q81 r.fU [] r.fV&&b):=by
  intro b hb
  refine lpP r.fV (λn (_:Unit) i=>Qbn fu r n i) (λpre l _=>some (Q81 r.fU pre l&&b)) (by omega) ?_ ?_ fu () (by omega)
  · intro n s pre x xs hl hx hd ih
    simp only [Qbn.eq_2]
    unfold Qkg
    simp only [hd,cond_true,hx,Qab,Q81]
    cases hc:decide (x.fM≥r.fU)
    · have hpl:pre.length≤r.fV.length:=by rw [hl]; simp
      have e8:Qd7 fu (λi=>Qbn fu r n i) r (pre.length:Int) fu 0=bif pre.any (λy=>y.f8==x.f8) then some false else Qbn fu r n (w64 ((pre.length:Int)+1)):=by
       refine lp pre (λm (_:Unit) i=>Qd7 fu (λi=>Qbn fu r n i) r (pre.length:Int) m i) (λl _=>bif l.any (λy=>y.f8==x.f8) then some false else Qbn fu r n (w64 ((pre.length:Int)+1))) (by omega) ?_ ?_ fu () (by omega)
       · intro m s i y ys hy hd ih
         simp only [Qd7.eq_2]
         unfold Qks
         have hy':ix r.fV i=some y:=by rw [hl]; exact Jbb hy
         simp only [hd,cond_true,hx,hy',Qab,ih (),List.any_cons]
         rw [Jg7 x.f8 y.f8]
         cases y.f8==x.f8 <;> rfl
       · intro m s i hd
         simp only [Qd7.eq_2]
         unfold Qks
         simp only [hd,cond_false]
         rfl
      have e8':Qd7 fu (Qbn fu r n) r (pre.length:Int) fu 0=bif pre.any (λy=>y.f8==x.f8) then some false else Qbn fu r n (w64 ((pre.length:Int)+1)):=e8
      rw [cond_false,e8',ih ()]
      cases pre.any (λy=>y.f8==x.f8) <;> rfl
    · rfl
  · intro n s hd
    simp only [Qbn.eq_2]
    unfold Qkg
    simp only [hd,cond_false,hb]
    rfl
 have e3:∀ b,Qbn fu r fu 0=some b→Qbt fu r fu 0=some (Q54 Typ.f8 [] r.fG&&b):=by
  intro b hb
  refine lpP r.fG (λn (_:Unit) i=>Qbt fu r n i) (λpre l _=>some (Q54 Typ.f8 pre l&&b)) (by omega) ?_ ?_ fu () (by omega)
  · intro n s pre x xs hl hx hd ih
    simp only [Qbt.eq_2]
    unfold Qj2
    simp only [hd,cond_true,Q54]
    have hpl:pre.length≤r.fG.length:=by rw [hl]; simp
    have e8:Qec fu (λi=>Qbt fu r n i) r (pre.length:Int) fu 0=bif pre.any (λy=>y.f8==x.f8) then some false else Qbt fu r n (w64 ((pre.length:Int)+1)):=by
     refine lp pre (λm (_:Unit) i=>Qec fu (λi=>Qbt fu r n i) r (pre.length:Int) m i) (λl _=>bif l.any (λy=>y.f8==x.f8) then some false else Qbt fu r n (w64 ((pre.length:Int)+1))) (by omega) ?_ ?_ fu () (by omega)
     · intro m s i y ys hy hd ih
       simp only [Qec.eq_2]
       unfold Qkh
       have hy':ix r.fG i=some y:=by rw [hl]; exact Jbb hy
       simp only [hd,cond_true,hx,hy',Qab,ih (),List.any_cons]
       rw [Jg7 x.f8 y.f8]
       cases y.f8==x.f8 <;> rfl
     · intro m s i hd
       simp only [Qec.eq_2]
       unfold Qkh
       simp only [hd,cond_false]
       rfl
    have e8':Qec fu (Qbt fu r n) r (pre.length:Int) fu 0=bif pre.any (λy=>y.f8==x.f8) then some false else Qbt fu r n (w64 ((pre.length:Int)+1)):=e8
    rw [e8',ih ()]
    cases pre.any (λy=>y.f8==x.f8) <;> rfl
  · intro n s hd
    simp only [Qbt.eq_2]
    unfold Qj2
    simp only [hd,cond_false,hb]
    rfl
 unfold Qoz Q75
 rw [e3 _ (e7 _ e11)]
 congr 1
 cases Q54 Typ.f8 [] r.fG <;> cases Q81 r.fU [] r.fV <;> cases (Qsw r r.fT).isSome <;> cases r.fR.any λp=>decide (p.fA≥r.fU)||decide (p.fB≥r.fU) <;> rfl
theorem Q73 {α:Type} {l pre xs:List α} {x:α} (h:l=pre++x::xs):sls l 0 (pre.length:Int)=some pre:=by
 rw [Qs0 ⟨by omega,by omega,by rw [h]; simp; omega⟩]
 simp [h]
theorem Jg1 {fu:Nat} {r:Request} (h:Sm fu r):Qot fu r=some (Q75 r):=by
 have hfu:=h.fu
 have h1:=h.items
 have h2:=h.types
 have h3:=h.pairs
 have e4:Qdd fu r fu 0=some (Q81 r.fU [] r.fV&&((Qsw r r.fT).isSome&&!(r.fR.any λp=>decide (p.fA≥r.fU)||decide (p.fB≥r.fU)))):=by
  refine lpP r.fV (λn (_:Unit) i=>Qdd fu r n i) (λpre l _=>some (Q81 r.fU pre l&&((Qsw r r.fT).isSome&&!(r.fR.any λp=>decide (p.fA≥r.fU)||decide (p.fB≥r.fU))))) (by omega) ?_ ?_ fu () (by omega)
  · intro n s pre x xs hl hx hd ih
    simp only [Qdd.eq_2]
    unfold Qkm Qob
    have hpl:pre.length≤r.fV.length:=by rw [hl]; simp
    simp only [hd,cond_true,hx,Qab,Q73 hl,Qxn (λy=>Qpf fu y x) (λy=>y.f8==x.f8) (λy _=>rfl) (show pre.length≤1048576 by omega) (show pre.length<fu by omega),Q81,ih ()]
    cases decide (x.fM≥r.fU) <;> cases pre.any (λy=>y.f8==x.f8) <;> rfl
  · intro n s hd
    simp only [Qdd.eq_2]
    unfold Qkm
    simp only [hd,cond_false,Jbj h,Qab,Q0e]
    rw [Q15 (λy=>Qlo fu y r) (λp=>decide (p.fA≥r.fU)||decide (p.fB≥r.fU)) (λp _=>by
     unfold Qlo
     cases decide (p.fA≥r.fU) <;> rfl) h3 (by omega),Qab]
    cases (Qsw r r.fT).isSome <;> rfl
 have e3:∀ b,Qdd fu r fu 0=some b→Qe2 fu r fu 0=some (Q54 Typ.f8 [] r.fG&&b):=by
  intro b hb
  refine lpP r.fG (λn (_:Unit) i=>Qe2 fu r n i) (λpre l _=>some (Q54 Typ.f8 pre l&&b)) (by omega) ?_ ?_ fu () (by omega)
  · intro n s pre x xs hl hx hd ih
    simp only [Qe2.eq_2]
    unfold Qk6
    have hpl:pre.length≤r.fG.length:=by rw [hl]; simp
    simp only [hd,cond_true,hx,Qab,Q73 hl,Q1n (λy=>Qpl fu y x) (λy=>y.f8==x.f8) (λy _=>rfl) (show pre.length≤1048576 by omega) (show pre.length<fu by omega),Q54,ih ()]
    cases pre.any (λy=>y.f8==x.f8) <;> rfl
  · intro n s hd
    simp only [Qe2.eq_2]
    unfold Qk6
    simp only [hd,cond_false,hb]
    rfl
 unfold Qot Q75
 rw [e3 _ e4]
 congr 1
 cases Q54 Typ.f8 [] r.fG <;> cases Q81 r.fU [] r.fV <;> cases (Qsw r r.fT).isSome <;> cases r.fR.any λp=>decide (p.fA≥r.fU)||decide (p.fB≥r.fU) <;> rfl
theorem Jfp {fu:Nat} {l:List Pair} (hl:l.length≤1048576) (hf:l.length<fu) (a b:Int):Qfm fu l a b=some (Qsq l a b):=by
 unfold Qfm Qsq
 refine lp l (λn (_:Unit) i=>Qf2 fu l a b n i) (λl _=>some (l.any λp=>p.fA==a&&p.fB==b)) (by omega) ?_ ?_ fu () hf
 · intro n s i x xs hx hd ih
   simp only [Qf2.eq_2]
   unfold Qmu Qlf
   simp only [hd,cond_true,hx,Qab,ih (),List.any_cons]
   cases x.fA==a <;> cases x.fB==b <;> rfl
 · intro n s i hd
   simp only [Qf2.eq_2]
   unfold Qmu
   simp only [hd,cond_false]
   rfl
theorem Jck {fu:Nat} {l:List Pair} (hl:l.length≤1048576) (hf:l.length<fu) (a b:Int):Qg8 fu l a b=some (Qsq l a b):=by
 unfold Qg8 Qcy Qdc Qsq
 have:=Qs3 l (λn i=>Qbg fu l (⟨a,b⟩:Pair) n i) (λp=>p.fA==a&&p.fB==b) (by omega) (by
  intro n i x hx hd
  simp only [Qbg.eq_2]
  unfold Qcr
  simp only [hd,cond_true,hx,Qab]
  have:decide ((⟨a,b⟩:Pair)=x)=(x.fA==a&&x.fB==b):=by
   rcases x with ⟨c,d⟩
   apply Bool.eq_iff_iff.2
   simp only [decide_eq_true_eq,Pair.mk.injEq,Bool.and_eq_true,beq_iff_eq]
   exact ⟨λ⟨h1,h2⟩=>⟨h1.symm,h2.symm⟩,λ⟨h1,h2⟩=>⟨h1.symm,h2.symm⟩⟩
  rw [this]) (by
  intro n i hd
  simp only [Qbg.eq_2]
  unfold Qcr
  simp only [hd,cond_false]) fu hf
 rw [this,Qab,Qsy _ l 0 (by omega),Qab]
theorem Jha {fu:Nat} {l:List Pair} (hl:l.length≤1048576) (hf:l.length<fu) (h64:64<fu) (c:Int):Qo7 fu l c=some (Q9e l c):=by
 unfold Qo7 Q9e
 rw [Q0g,Qab]
 cases hc:inb c 1 4
 · rfl
 rw [Qdx] at hc
 simp only [Bool.not_true,cond_false,Bool.true_and]
 have e4:∀ (k:Int→Option Bool) (a:Int),Qe1 fu k l c a fu 0=bif (Qnm 0 c.toNat).all λb=>Qsq l a b==Qsq l b a then k (w64 (a+1)) else some false:=by
  intro k a
  refine lpN c (λn (_:Unit) i=>Qe1 fu k l c a n i) (λxs _=>bif xs.all λb=>Qsq l a b==Qsq l b a then k (w64 (a+1)) else some false) (by omega) ?_ ?_ c.toNat fu () 0 (by omega) (by omega) (by omega)
  · intro n s i xs h0 h1 hd ih
    simp only [Qe1.eq_2]
    unfold Qjz
    simp only [hd,cond_true,Jck hl hf,Qab,ih (),List.all_cons]
    cases Qsq l a i==Qsq l i a <;> rfl
  · intro n s i hd
    simp only [Qe1.eq_2]
    unfold Qjz
    simp only [hd,cond_false]
    rfl
 refine lpN c (λn (_:Unit) i=>Qfg fu l c n i) (λxs _=>some (xs.all λa=>Qsq l a a&&(Qnm 0 c.toNat).all λb=>Qsq l a b==Qsq l b a)) (by omega) ?_ ?_ c.toNat fu () 0 (by omega) (by omega) (by omega)
 · intro n s i xs h0 h1 hd ih
   simp only [Qfg.eq_2]
   unfold Qk7
   simp only [hd,cond_true,Jck hl hf,Qab,e4,ih (),List.all_cons]
   cases Qsq l i i <;> cases (Qnm 0 c.toNat).all λb=>Qsq l i b==Qsq l b i <;> rfl
 · intro n s i hd
   simp only [Qfg.eq_2]
   unfold Qk7
   simp only [hd,cond_false]
   rfl
theorem Jgt {fu:Nat} {l:List Pair} (hl:l.length≤1048576) (hf:l.length<fu) (h64:64<fu) (c:Int):Qoo fu l c=some (Q9e l c):=by
 unfold Qoo Q9e
 rw [Q08,Qab]
 cases hc:inb c 1 4
 · rfl
 rw [Qdx] at hc
 simp only [Bool.not_true,cond_false,Bool.true_and]
 have e4:∀ (k:Int→Option Bool) (a:Int),Qd5 fu k l c a fu 0=bif (Qnm 0 c.toNat).all λb=>(!(a==b)||Qsq l a a)&&(Qsq l a b==Qsq l b a) then k (w64 (a+1)) else some false:=by
  intro k a
  refine lpN c (λn (_:Unit) i=>Qd5 fu k l c a n i) (λxs _=>bif xs.all λb=>(!(a==b)||Qsq l a a)&&(Qsq l a b==Qsq l b a) then k (w64 (a+1)) else some false) (by omega) ?_ ?_ c.toNat fu () 0 (by omega) (by omega) (by omega)
  · intro n s i xs h0 h1 hd ih
    simp only [Qd5.eq_2]
    unfold Qj7 Qjq
    simp only [hd,cond_true,Jfp hl hf,Qab,ih (),List.all_cons]
    cases a==i <;> cases Qsq l a a <;> cases Qsq l a i==Qsq l i a <;> rfl
  · intro n s i hd
    simp only [Qd5.eq_2]
    unfold Qj7
    simp only [hd,cond_false]
    rfl
 have e9:Qde fu l c fu 0=some ((Qnm 0 c.toNat).all λa=>(Qnm 0 c.toNat).all λb=>(!(a==b)||Qsq l a a)&&(Qsq l a b==Qsq l b a)):=by
  refine lpN c (λn (_:Unit) i=>Qde fu l c n i) (λxs _=>some (xs.all λa=>(Qnm 0 c.toNat).all λb=>(!(a==b)||Qsq l a a)&&(Qsq l a b==Qsq l b a))) (by omega) ?_ ?_ c.toNat fu () 0 (by omega) (by omega) (by omega)
  · intro n s i xs h0 h1 hd ih
    simp only [Qde.eq_2]
    unfold Qj0
    simp only [hd,cond_true,e4,ih (),List.all_cons]
    cases (Qnm 0 c.toNat).all λb=>(!(i==b)||Qsq l i i)&&(Qsq l i b==Qsq l b i) <;> rfl
  · intro n s i hd
    simp only [Qde.eq_2]
    unfold Qj0
    simp only [hd,cond_false]
    rfl
 rw [e9]
 congr 1
 apply Bool.eq_iff_iff.2
 simp only [List.all_eq_true,Bool.and_eq_true,Bool.or_eq_true,Bool.not_eq_true',beq_eq_false_iff_ne,beq_iff_eq]
 constructor
 · intro h a ha
   refine ⟨?_,λb hb=>(h a ha b hb).2⟩
   rcases (h a ha a ha).1 with h1 | h1
   · exact absurd rfl h1
   · exact h1
 · intro h a ha b hb
   exact ⟨.inr (h a ha).1,(h a ha).2 b hb⟩
theorem Jie {l:List Int} (h:l.length=3):∃ p q s,l=[p,q,s]:=by
 match l,h with
 | [p,q,s],_=>exact ⟨p,q,s,rfl⟩
theorem Jeu {fu:Nat} (hfu:2097153≤fu) (a b c:Int):Qlv fu a b c=some [(sid a b c).1,(sid a b c).2.1,(sid a b c).2.2]:=by
 unfold Qlv
 rw [Jia hfu (by simp),Qab,show [a,b,c].length=3 from rfl]
 have hp:=Qt5 (kf [a,b,c]) 3
 have hs:=Qvi (kf [a,b,c]) 3
 obtain ⟨p,q,s,hq⟩:=Jie (Qsj (kf [a,b,c]) 3)
 rw [hq] at hp hs ⊢
 have hmem:∀ x∈[p,q,s],0≤x∧x<3:=λx hx=>by
  have:=Qie.1 (hp.mem_iff.1 hx)
  omega
 have k1:=Q3q (keys:=[a,b,c]) (p:=p) (by have:=hmem p (by simp); simpa using this)
 have k2:=Q3q (keys:=[a,b,c]) (p:=q) (by have:=hmem q (by simp); simpa using this)
 have k3:=Q3q (keys:=[a,b,c]) (p:=s) (by have:=hmem s (by simp); simpa using this)
 rw [show ix [p,q,s] 0=some p from rfl,show ix [p,q,s] 1=some q from rfl,show ix [p,q,s] 2=some s from rfl]
 simp only [Qab,k1,k2,k3]
 have hp3:([a,b,c]).Perm [kf [a,b,c] p,kf [a,b,c] q,kf [a,b,c] s]:=(hp.map (kf [a,b,c])).symm
 simp only [List.pairwise_cons,List.mem_cons,List.not_mem_nil,or_false,forall_eq_or_imp,forall_eq,lx] at hs
 have:=Je2 hp3 (by omega) (by omega)
 rw [this]
theorem Jdt {fu:Nat} (hfu:2097153≤fu) (x:Item) (t:Typ):Qqy fu x t=some (Qzq x t):=by
 unfold Qqy Qzq
 rw [Jeu hfu,Jeu hfu]
 simp only [Qab]
 have e0:∀ a b c:Int,ix [a,b,c] 0=some a:=λ_ _ _=>rfl
 have e1:∀ a b c:Int,ix [a,b,c] 1=some b:=λ_ _ _=>rfl
 have e2:∀ a b c:Int,ix [a,b,c] 2=some c:=λ_ _ _=>rfl
 simp only [e0,e1,e2,Qab]
 cases decide ((sid x.fW x.fH x.fD).1≤(sid t.fW t.fH t.fD).1) <;> cases decide ((sid x.fW x.fH x.fD).2.1≤(sid t.fW t.fH t.fD).2.1) <;> cases decide ((sid x.fW x.fH x.fD).2.2≤(sid t.fW t.fH t.fD).2.2) <;> rfl
theorem Q7i (a b c:Int):Q1c [a,b,c]=some [(sid a b c).1,(sid a b c).2.1,(sid a b c).2.2]:=by
 unfold Q1c
 rw [if_pos (by simp)]
 have hp:=List.mergeSort_perm [a,b,c] (λx y=>decide (x≤y))
 have hs:=Qtj [a,b,c]
 obtain ⟨p,q,s,hq⟩:=Jie (hp.length_eq)
 rw [hq] at hp hs ⊢
 simp only [List.pairwise_cons,List.mem_cons,List.not_mem_nil,or_false,forall_eq_or_imp,forall_eq] at hs
 rw [Je2 hp.symm (by omega) (by omega)]
theorem Jfi (fu:Nat) (x:Item) (t:Typ):Qqs fu x t=some (Qzq x t):=by
 unfold Qqs Qq2 Qc7 Qzq
 rw [Q7i,Q7i]
 have e0:∀ a b c:Int,ix [a,b,c] 0=some a:=λ_ _ _=>rfl
 have e1:∀ a b c:Int,ix [a,b,c] 1=some b:=λ_ _ _=>rfl
 have e2:∀ a b c:Int,ix [a,b,c] 2=some c:=λ_ _ _=>rfl
 simp only [Qab,e0,e1,e2]
 cases decide ((sid x.fW x.fH x.fD).1≤(sid t.fW t.fH t.fD).1) <;> cases decide ((sid x.fW x.fH x.fD).2.1≤(sid t.fW t.fH t.fD).2.1) <;> cases decide ((sid x.fW x.fH x.fD).2.2≤(sid t.fW t.fH t.fD).2.2) <;> rfl
theorem Q0p {fu:Nat} {r:Request} (h:Sm fu r):Qe5 fu r=some (Qht r):=by
 have hfu:=h.fu
 have h1:=h.items
 have h2:=h.types
 have h3:=h.pairs
 have e4:Qfp fu r fu 0=some (bif r.fG.any (Q53 r.fJ) then 6 else 0):=by
  refine lp r.fG (λn (_:Unit) i=>Qfp fu r n i) (λl _=>some (bif l.any (Q53 r.fJ) then 6 else 0)) (by omega) ?_ ?_ fu () (by omega)
  · intro n s i x xs hx hd ih
    simp only [Qfp.eq_2]
    unfold Qn4 Qqb
    simp only [hd,cond_true,hx,Qab,ih (),List.any_cons,Q53]
    cases decide (x.fW>r.fJ.fW) <;> cases decide (x.fD>r.fJ.fD) <;> cases decide (x.fH>r.fJ.fH) <;> cases decide (w64 (x.fO+x.fQ)>r.fJ.fQ) <;> rfl
  · intro n s i hd
    simp only [Qfp.eq_2]
    unfold Qn4
    simp only [hd,cond_false]
    rfl
 unfold Qe5 Qht
 rw [Jhg h,Qab,Jgr h,Qab,Jgt h3 (by omega) (by omega),Qab,Q9c h,Qab]
 have e1:Qgu fu r (Qyl (Qsw r r.fT)) fu 0=some (bif !(r.fV.all λx=>Qzq x (Qv6 r)) then 5 else bif r.fG.any (Q53 r.fJ) then 6 else 0):=by
  refine lp r.fV (λn (_:Unit) i=>Qgu fu r (Qyl (Qsw r r.fT)) n i) (λl _=>some (bif !(l.all λx=>Qzq x (Qv6 r)) then 5 else bif r.fG.any (Q53 r.fJ) then 6 else 0)) (by omega) ?_ ?_ fu () (by omega)
  · intro n s i x xs hx hd ih
    simp only [Qgu.eq_2]
    unfold Qn0
    simp only [hd,cond_true,hx,Qab,Jdt hfu,ih (),List.all_cons]
    rw [show (Qyl (Qsw r r.fT)).1=Qv6 r from rfl]
    cases Qzq x (Qv6 r) <;> rfl
  · intro n s i hd
    simp only [Qgu.eq_2]
    unfold Qn0
    simp only [hd,cond_false,e4]
    rfl
 rw [e1]
 cases Q20 r <;> cases Q75 r <;> cases Q9e r.fR r.fU <;> rfl
theorem Jdx {fu:Nat} {r:Request} (h:Sm fu r):Qpw fu r=some (Qht r):=by
 have hfu:=h.fu
 have h1:=h.items
 have h2:=h.types
 have h3:=h.pairs
 unfold Qpw Qht
 rw [Jbj h,Qab,Jhn h,Qab,Jg1 h,Qab,Jha h3 (by omega) (by omega),Qab]
 rw [Qxn (λy=>Qo6 fu y (Qyl (Qsw r r.fT)).1) (λx=>!Qzq x (Qv6 r)) (λx _=>by
  unfold Qo6
  rw [Jfi,Qab]; rfl) h1 (by omega),Qab]
 rw [Q1n (λy=>Qol fu y r.fJ) (Q53 r.fJ) (λx _=>by
  unfold Qol Q53
  cases decide (x.fW>r.fJ.fW) <;> cases decide (x.fD>r.fJ.fD) <;> cases decide (x.fH>r.fJ.fH) <;> rfl) h2 (by omega),Qab]
 rw [show (r.fV.any λx=>!Qzq x (Qv6 r))=!(r.fV.all λx=>Qzq x (Qv6 r)) by simp [List.not_all_eq_any_not]]
 cases Q20 r <;> cases Q75 r <;> cases Q9e r.fR r.fU <;> cases r.fV.all λx=>Qzq x (Qv6 r) <;> cases r.fG.any (Q53 r.fJ) <;> rfl
theorem Qt0 {fu:Nat} {r:Request} (h:Sm fu r):Qf0 fu r=some (Qht r==0):=by
 unfold Qf0
 rw [Jdx h]; rfl
theorem Jcw {σ α β:Type} (l:List α) (L:Nat→σ→Int→Option β) (F:List α→List α→σ→Option β) (I:List α→List α→σ→Prop) (hl:l.length≤1099511627776)
    (hs:∀ n s pre x xs,l=pre++x::xs→ix l (pre.length:Int)=some x→decide ((pre.length:Int)<(l.length:Int))=true→I pre (x::xs) s→(∀ s',I (pre++[x]) xs s'→L n s' (w64 ((pre.length:Int)+1))=F (pre++[x]) xs s')→L (n+1) s (pre.length:Int)=F pre (x::xs) s)
    (he:∀ n s,decide ((l.length:Int)<(l.length:Int))=false→I l [] s→L (n+1) s (l.length:Int)=F l [] s):∀ n s,I [] l s→l.length<n→L n s 0=F [] l s:=by
 have key:∀ (xs pre:List α) (n:Nat) (s:σ),l=pre++xs→I pre xs s→xs.length<n→L n s (pre.length:Int)=F pre xs s:=by
  intro xs
  induction xs with
  | nil =>
   intro pre n s he' hI hn
   obtain ⟨n,rfl⟩:∃ k,n=k+1:=⟨n - 1,by omega⟩
   simp only [List.append_nil] at he'
   subst he'
   exact he n s (by simp) hI
  | cons x xs ih =>
   intro pre n s he' hI hn
   obtain ⟨n,rfl⟩:∃ k,n=k+1:=⟨n - 1,by simp at hn; omega⟩
   have hlen:l.length=pre.length+(xs.length+1):=by rw [he']; simp
   refine hs n s pre x xs he' ?_ (by simp; omega) hI λs' hI'=>?_
   · rw [Qlg,he']; simp
   · rw [Qwx _ (by omega)]
     have:=ih (pre++[x]) n s' (by simp [he']) hI' (by simp at hn; omega)
     simpa using this
 intro n s hI hn
 simpa using key l [] n s rfl hI hn
theorem Qyt {x:Item} (h:Qw8 x=true):1≤x.fF∧x.fF≤6:=by
 simp only [Qw8,Bool.and_eq_true,Qdx] at h
 omega
theorem Jas {xs:List Item} (h:∀ x∈xs,Qw8 x=true):0≤Qw1 (xs.map (·.fF)):=Q6h _ _ λx hx=>by have:=Qyt (h x hx); omega
theorem Jf6 {fu:Nat} {r:Request} (h:Sm fu r) (hb:Q20 r=true):Qc4 fu r=some (l6M r):=by
 have hfu:=h.fu
 obtain ⟨hi,hs,hl⟩:=Qrz hb
 have e4:∀ (k:List Int→Int→Option (List Int)) (i:Int) (x:Item),ix r.fV i=some x→∀ (m n:Nat) (c:Int) (out:List Int),0≤c→c≤x.fF→(x.fF - c).toNat=m→x.fF≤6→m<n→out.length+m≤100 →
     Qgg fu k r i n out c=k (out++List.replicate m i) (w64 (i+1)):=by
  intro k i x hx m
  induction m with
  | zero =>
   intro n c out h0 h1 h2 h3 h4 h5
   obtain ⟨n,rfl⟩:∃ j,n=j+1:=⟨n - 1,by omega⟩
   rw [Qgg.eq_2]
   unfold Qkt
   rw [hx,Qab,Qam (by simp; omega)]
   simp
  | succ m ih =>
   intro n c out h0 h1 h2 h3 h4 h5
   obtain ⟨n,rfl⟩:∃ j,n=j+1:=⟨n - 1,by omega⟩
   rw [Qgg.eq_2]
   unfold Qkt
   rw [hx,Qab,Qa0 (by simp; omega),ap1 (by simp; omega),Qab,Qa1 (by omega) (by omega),ih n (c+1) (out++[i]) (by omega) (by omega) (by omega) h3 (by omega) (by simp; omega)]
   rw [List.append_assoc,List.singleton_append,← List.replicate_succ]
 unfold Qc4 l6M
 have:=Jcw r.fV (λn out i=>Qef fu r n out i) (λpre xs out=>some (out++Q50 (pre.length:Int) xs)) (λpre xs out=>(out.length:Int)+Qw1 (xs.map (·.fF))≤12∧∀ x∈xs,Qw8 x=true) (by omega) ?_ ?_ fu [] ⟨by simpa using hs,hi⟩ (by omega)
 · simpa using this
 · intro n out pre x xs hl' hx hd hI ih
   simp only [Qef.eq_2]
   unfold Qkk
   have hc:=Qyt (hI.2 x (by simp))
   have hsum:=hI.1
   have hnn:=Jas (λy hy=>hI.2 y (by simp [hy]):∀ y∈xs,Qw8 y=true)
   simp only [List.map_cons,Qrf] at hsum
   have e:=e4 (Qef fu r n) (pre.length:Int) x hx x.fF.toNat fu 0 out (by omega) (by omega) (by omega) (by omega) (by omega) (by omega)
   rw [hd,cond_true,e,ih _ ⟨by simp; omega,λy hy=>hI.2 y (by simp [hy])⟩]
   simp [Q50]
 · intro n out hd hI
   simp only [Qef.eq_2]
   unfold Qkk
   simp only [hd,cond_false]
   simp [Q50]
theorem Je7 {fu:Nat} {r:Request} (h:Sm fu r) (hc:Qht r=0):Qc4 fu r=some (Qm0 r):=by
 unfold Qm0
 rw [Jf6 h (Qgy hc).1,Qa0 (by simp [hc])]
theorem Jhk {fu:Nat} {r:Request} (h:Sm fu r):Qrd fu r=some (Qm0 r):=by
 unfold Qrd Qm0
 rw [Q0p h,Qab]
 by_cases hc:Qht r=0
 · rw [Qam (by simp [hc]),Jf6 h (Qgy hc).1,Qab,Qa0 (by simp [hc])]
 · rw [Qa0 (by simp [hc]),Qam (by simp [hc])]
theorem Jin (fu:Nat) (c:Int) (h:1≤c∧c≤6):Qt6 fu (IntKind.wrap .u64 1) (IntKind.wrap .u64 c)=some (0,c):=by
 have:c=1∨c=2∨c=3∨c=4∨c=5∨c=6:=by omega
 rcases this with rfl | rfl | rfl | rfl | rfl | rfl <;> rfl
theorem Jge (m:Nat) (i:Int):Qbs (m+10) [i] (0,1)=some (List.replicate 1 i):=by kernel_rfl
theorem Jhc (m:Nat) (i:Int):Qbs (m+10) [i] (0,2)=some (List.replicate 2 i):=by kernel_rfl
theorem Jf3 (m:Nat) (i:Int):Qbs (m+10) [i] (0,3)=some (List.replicate 3 i):=by kernel_rfl
theorem Jg9 (m:Nat) (i:Int):Qbs (m+10) [i] (0,4)=some (List.replicate 4 i):=by kernel_rfl
theorem Jgz (m:Nat) (i:Int):Qbs (m+10) [i] (0,5)=some (List.replicate 5 i):=by kernel_rfl
theorem Jgb (m:Nat) (i:Int):Qbs (m+10) [i] (0,6)=some (List.replicate 6 i):=by kernel_rfl
theorem Jil {fu:Nat} (hfu:10≤fu) (i c:Int) (h:1≤c∧c≤6):Qfu fu [i] c=some (List.replicate c.toNat i):=by
 unfold Qfu Qf8
 rw [Qam (by simp; omega)]
 rw [show (([i]:List Int).length:Int)=1 from rfl,Jin fu c h,Qab,Qam (by simp),Qam (by simp; omega)]
 obtain ⟨m,rfl⟩:∃ m,fu=m+10:=⟨fu - 10,by omega⟩
 have:c=1∨c=2∨c=3∨c=4∨c=5∨c=6:=by omega
 rcases this with rfl | rfl | rfl | rfl | rfl | rfl
 · exact Jge m i
 · exact Jhc m i
 · exact Jf3 m i
 · exact Jg9 m i
 · exact Jgz m i
 · exact Jgb m i
theorem Jcz {fu:Nat} {r:Request} (h:Sm fu r):Qm4 fu r=some (Qm0 r):=by
 have hfu:=h.fu
 unfold Qm4 Qm0
 rw [Qt0 h,Qab]
 by_cases hc:Qht r=0
 · obtain ⟨hi,hs,hl⟩:=Qrz (Qgy hc).1
   rw [Qam (by simp [hc]),Qa0 (by simp [hc])]
   unfold l6M
   have:=Jcw r.fV (λn out i=>Qhk fu r n out i) (λpre xs out=>some (out++Q50 (pre.length:Int) xs)) (λpre xs out=>(out.length:Int)+Qw1 (xs.map (·.fF))≤12∧∀ x∈xs,Qw8 x=true) (by omega) ?_ ?_ fu [] ⟨by simpa using hs,hi⟩ (by omega)
   · simpa using this
   · intro n out pre x xs hl' hx hd hI ih
     simp only [Qhk.eq_2]
     unfold Qnt
     have hc:=Qyt (hI.2 x (by simp))
     have hsum:=hI.1
     have hnn:=Jas (λy hy=>hI.2 y (by simp [hy]):∀ y∈xs,Qw8 y=true)
     simp only [List.map_cons,Qrf] at hsum
     rw [hd,cond_true,hx,Qab,Jil (by omega) _ _ hc,Qab,ap1 (by simp; omega),Qab,ih _ ⟨by simp; omega,λy hy=>hI.2 y (by simp [hy])⟩]
     simp [Q50]
   · intro n out hd hI
     simp only [Qhk.eq_2]
     unfold Qnt
     simp only [hd,cond_false]
     simp [Q50]
 · rw [Qa0 (by simp [hc]),Qam (by simp [hc])]
theorem Jem {fu:Nat} {l:List Int} (hl:l.length≤1048576) (hf:l.length<fu) (x:Int):Qpu fu l x=some (l.contains x):=by
 unfold Qpu
 refine lp l (λn (_:Unit) i=>Qhe fu l x n i) (λl _=>some (l.contains x)) (by omega) ?_ ?_ fu () hf
 · intro n s i y ys hy hd ih
   simp only [Qhe.eq_2]
   unfold Qoe
   simp only [hd,cond_true,hy,Qab,ih (),List.contains_cons]
   rw [Jg7 y x]
   cases x==y <;> rfl
 · intro n s i hd
   simp only [Qhe.eq_2]
   unfold Qoe
   simp only [hd,cond_false]
   rfl
theorem Jgf {fu:Nat} {l:List Int} (hl:l.length≤1048576) (hf:l.length<fu) (x:Int):Qel fu l x=some (l.contains x):=by
 unfold Qel Qhr
 have:=Qs3 l (λn i=>Qcu fu l x n i) (λy=>x==y) (by omega) (by
  intro n i y hx hd
  simp only [Qcu.eq_2]
  unfold Qfr
  simp only [hd,cond_true,hx,Qab]) (by
  intro n i hd
  simp only [Qcu.eq_2]
  unfold Qfr
  simp only [hd,cond_false]) fu hf
 rw [this,Qab,Qsy _ l 0 (by omega),List.contains_eq_any_beq]
theorem Jd0 {fu:Nat} {p:List Pair} (hp:p.length≤1048576) (hpf:p.length<fu) {g:List Int} (hl:g.length≤1048576) (hf:g.length<fu) (c:Int):Qo4 fu p g c=some (g.all (Q1l p c)):=by
 unfold Qo4
 refine lp g (λn (_:Unit) i=>Qff fu p g c n i) (λl _=>some (l.all (Q1l p c))) (by omega) ?_ ?_ fu () hf
 · intro n s i y ys hy hd ih
   simp only [Qff.eq_2]
   unfold Qk3 Qnp
   simp only [hd,cond_true,hy,Qab,ih (),Jfp hp hpf,List.all_cons,Q1l]
   cases Qsq p y c <;> cases Qsq p c y <;> rfl
 · intro n s i hd
   simp only [Qff.eq_2]
   unfold Qk3
   simp only [hd,cond_false]
   rfl
theorem Jf4 {fu:Nat} {r:Request} (h:Sm fu r):Qo9 fu r=some (Q2s r):=by
 have hfu:=h.fu
 have h1:=h.items
 unfold Qo9 Q2s
 rw [Q0p h,Qab]
 by_cases hc:Qht r=0
 · rw [show (Qht r != 0)=false by simp [hc],show (Qht r==0)=true by simp [hc],cond_false,cond_true]
   have e27:∀ (k:List Int→Int→Option (List Int)) (out:List Int) (c:Int),Qd9 fu k r out c fu false 0=bif r.fV.any (λx=>x.fM==c) then (Qac (Qfi 8 out [c]) λx=>k x (w64 (c+1))) else k out (w64 (c+1)):=by
    intro k out c
    refine lp r.fV (λn f i=>Qd9 fu k r out c n f i) (λl f=>bif f||l.any (λx=>x.fM==c) then (Qac (Qfi 8 out [c]) λx=>k x (w64 (c+1))) else k out (w64 (c+1))) (by omega) ?_ ?_ fu false (by omega)
    · intro n f i x xs hx hd ih
      simp only [Qd9.eq_2]
      unfold Qk9 Qjh
      simp only [hd,cond_true,hx,Qab,ih,List.any_cons]
      cases f
      · rfl
      · rfl
    · intro n f i hd
      simp only [Qd9.eq_2]
      unfold Qk9 Qjn
      simp only [hd,cond_false,List.any_nil,Bool.or_false]
   have:=Q5o 4 (λn out i=>Qdi fu r n out i) (λxs out=>some (out++xs.filter λc=>r.fV.any λx=>x.fM==c)) (λxs out=>out.length+xs.length≤4) (by omega) ?_ ?_ 4 fu [] 0 (by omega) (by omega) (by omega) (by simp [Qnm])
   · simpa using this
   · intro n out i xs h0 h1 hd hI ih
     simp only [List.length_cons] at hI
     simp only [Qdi.eq_2]
     unfold Qk2
     simp only [hd,cond_true,e27]
     cases hb:r.fV.any λx=>x.fM==i
     · rw [cond_false,ih out (by omega)]
       simp [hb]
     · rw [cond_true,ap1 (by simp; omega),Qab,ih _ (by simp; omega)]
       simp [hb]
   · intro n out i hd hI
     simp only [Qdi.eq_2]
     unfold Qk2
     simp only [hd,cond_false]
     simp
 · rw [show (Qht r != 0)=true by simp [hc],show (Qht r==0)=false by simp [hc],cond_false,cond_true]
theorem Q6e {fu:Nat} {l:List Int} (hl:l.length≤1048576):∃ k,Qjt fu l=some k∧k.Pairwise (·<·)∧∀ x,x∈k↔x∈l:=by
 unfold Qjt Qcx Qc7 Qi6
 have hp:=List.mergeSort_perm l (λx y=>decide (x≤y))
 have hs:=Qtj l
 rw [ap1 (by simp; omega),Qab,Qab,List.nil_append]
 unfold Q1c
 rw [if_pos (by omega),Qab]
 unfold Jf1
 rw [if_pos (by rw [hp.length_eq]; omega),Qab]
 obtain ⟨h1,h2⟩:=Qy4 _ hs
 exact ⟨_,rfl,h1,λx=>(h2 x).trans hp.mem_iff⟩
theorem Qzz {fu:Nat} {l:List Int} (hl:l.length≤1048576) (hs:l.Pairwise (·<·)):Qjt fu l=some l:=by
 obtain ⟨k,h1,h2,h3⟩:=Q6e (fu:=fu) hl
 rw [h1,Q8v h2 hs h3]
theorem Jgw {fu:Nat} {r:Request} (h:Sm fu r):Qoj fu r=some (Q2s r):=by
 have hfu:=h.fu
 have h1:=h.items
 unfold Qoj
 rw [Qt0 h,Qab]
 by_cases hc:Qht r=0
 · rw [show (Qht r==0)=true by simp [hc],Bool.not_true,cond_false]
   have:=lpI r.fV (λn out i=>Qgl fu r n out i) (λxs out=>Qac (Qjt fu (out++xs.map (·.fM))) λx=>some x) (λxs out=>out.length+xs.length≤1048576) (by omega) ?_ ?_ fu [] (by simpa using h1) (by omega)
   · rw [List.nil_append] at this
     refine this.trans ?_
     obtain ⟨k,e1,e2,e3⟩:=Q6e (fu:=fu) (l:=r.fV.map (·.fM)) (by simpa using h1)
     rw [e1,Qab]
     congr 1
     refine Q8v e2 (Qur r) λx=>?_
     rw [e3]
     unfold Q2s
     rw [show (Qht r==0)=true by simp [hc],cond_true,List.mem_filter,Qie,List.any_eq_true,List.mem_map]
     constructor
     · rintro ⟨y,hy,rfl⟩
       have:=(Qrz (Qgy hc).1).1 y hy
       simp only [Qw8,Bool.and_eq_true,Qdx] at this
       exact ⟨by omega,y,hy,by simp⟩
     · rintro ⟨_,y,hy,e⟩
       exact ⟨y,hy,by simpa using e⟩
   · intro n out i x xs hx hd hI ih
     simp only [List.length_cons] at hI
     simp only [Qgl.eq_2]
     unfold Qko
     simp only [hd,cond_true,hx,Qab]
     rw [ap1 (by simp; omega),Qab,ih _ (by simp; omega)]
     simp
   · intro n out i hd hI
     simp only [Qgl.eq_2]
     unfold Qko
     simp only [hd,cond_false]
     simp
 · rw [show (Qht r==0)=false by simp [hc],Bool.not_false,cond_true]
   unfold Q2s
   rw [show (Qht r==0)=false by simp [hc],cond_false]
theorem Q16 {α:Type} (g:α→Bool) (x:α):∀ (l:List α),Qxe g (l++[x])=match Qxe g l with | some i=>some i | none=>bif g x then some l.length else none
 | []=>by simp [Qxe]
 | y::ys=>by
  simp only [List.cons_append,Qxe]
  cases g y
  · simp only [cond_false]
    rw [Q16 g x ys]
    cases Qxe g ys <;> simp
    cases g x <;> simp
  · rfl
def atB {α:Type} (g:α→Bool) (l:List α) (i:Int):Bool:=match ix l i with | some x=>g x | none=>false
def Jax {α:Type} (g:α→Bool) (l:List α) (a i:Int):Int:=bif atB g l i then i else a
theorem Qyf {α:Type} (g:α→Bool) (l:List α):∀ (m:Nat) (a:Int),m≤l.length→(Qt8 m).foldl (Jax g l) a=match Qxe g (l.take m) with | some i=>(i:Int) | none=>a
 | 0,a,_=>by simp [Qt8,Qxe]
 | m+1,a,h=>by
  simp only [Qt8,List.foldl_cons]
  rw [Qyf g l m _ (by omega),List.take_succ_eq_append_getElem (by omega),Q16,List.length_take,Nat.min_eq_left (by omega)]
  unfold Jax atB
  rw [Qzu (by omega)]
  cases Qxe g (l.take m) with
  | some i=>rfl
  | none =>
   simp only
   cases g l[m] <;> rfl
theorem Q10 {α:Type} (g:α→Bool):∀ (l:List α) (i:Int),Qwb g l i=match Qxe g l with | some j=>i+j | none=>-1
 | [],i=>rfl
 | x::xs,i=>by
  simp only [Qwb,Qxe]
  cases g x
  · simp only [cond_false]
    rw [Q10 g xs (i+1)]
    cases Qxe g xs with
    | none=>rfl
    | some j =>
     show i+1+(j:Int)=i+((j+1:Nat):Int)
     omega
  · simp
theorem Jaf {p:List Pair} {out:List (List Int)} {c:Int} {n:Nat} (h:okG n out) (hn:n≤1048576) {β:Type} (k:List (List Int)→Option β) (a:Int) (ha:a=match Qxe (λg=>g.all (Q1l p c)) out with | some i=>(i:Int) | none=>-1) :
    (bif (decide (a<0)) then Qac (Qfi 24 out [([c]:List Int)]) λx=>k x else Qac (ix out a) λx=>Qac (Qfi 8 x (([c]:List Int))) λy=>Qac (ix out a) λz=>k (Qhn out a y))=k (Q6l p out c):=by
 obtain ⟨h1,h2⟩:=h
 unfold Q6l
 cases hf:Qxe (λg=>g.all (Q1l p c)) out with
 | none =>
  rw [hf] at ha
  simp only at ha
  subst ha
  rw [Qa0 (by simp),ap1 (by simp; omega),Qab]
 | some i =>
  rw [hf] at ha
  simp only at ha
  subst ha
  obtain ⟨x,hx,_⟩:=Qx6 hf
  have:=h2 x (List.mem_of_getElem? hx)
  rw [Qam (by simp),Qlg,hx,Qab,ap1 (by simp; omega),Qab,Qab]
  simp [Qhn,hx]
theorem Jer {fu:Nat} {p:List Pair} (hp:p.length≤1048576) (hfu:2097153≤fu) {l:List Int} (hl:l.length≤1048576):Qp6 fu p l=some (((Qnm 0 4).filter l.contains).foldl (Q6l p) []):=by
 unfold Qp6
 have e27:∀ (k:List (List Int)→Int→Option (List (List Int))) (out:List (List Int)) (c:Int),okG 4 out→Qeq fu k p out c fu (-1) (w64 ((out.length:Int) - 1))=k (Q6l p out c) (w64 (c+1)):=by
  intro k out c ho
  obtain ⟨R,hR⟩:∃ R:Int→Option (List (List Int)),R=λa=>bif (decide (a<0)) then Qac (Qfi 24 out [([c]:List Int)]) λx=>k x (w64 (c+1)) else Qac (ix out a) λx=>Qac (Qfi 8 x (([c]:List Int))) λy=>Qac (ix out a) λz=>k (Qhn out a y) (w64 (c+1)):=⟨_,rfl⟩
  have:=lpD out.length (λn a i=>Qeq fu k p out c n a i) (λxs a=>R (xs.foldl (Jax (λg=>g.all (Q1l p c)) out) a)) (by have:=ho.1; omega) ?_ ?_ fu (-1) (by have:=ho.1; omega)
  · rw [this,hR]
    refine Jaf (p:=p) ho (by omega) (λx=>k x (w64 (c+1))) _ ?_
    rw [Qyf (λg=>g.all (Q1l p c)) out out.length (-1) (Nat.le_refl _),List.take_length]
  · intro n a i xs h0 h1 hd ih
    simp only [Qeq.eq_2]
    unfold Qmi Qln
    obtain ⟨j,rfl⟩:∃ j:Nat,i=j:=⟨i.toNat,by omega⟩
    have hj:j<out.length:=by omega
    have hg:=ho.2 _ (List.getElem_mem hj)
    simp only [hd,cond_true,Qzu hj,Qab,Jd0 hp (by omega) (show out[j].length≤1048576 by omega) (show out[j].length<fu by omega),ih,List.foldl_cons]
    have e:Jax (λg=>g.all (Q1l p c)) out a (j:Int)=bif out[j].all (Q1l p c) then (j:Int) else a:=by unfold Jax atB; rw [Qzu hj]
    rw [e]
    cases out[j].all (Q1l p c) <;> rfl
  · intro n a i hd
    simp only [Qeq.eq_2]
    unfold Qmi Qg0
    simp only [hd,cond_false,List.foldl_nil,hR]
 have:=Q5o 4 (λn out i=>Qd4 fu p l n out i) (λxs out=>some ((xs.filter l.contains).foldl (Q6l p) out)) (λxs out=>∃ m,m+xs.length≤4∧okG m out) (by omega) ?_ ?_ 4 fu [] 0 (by omega) (by omega) (by omega) ⟨0,by simp [Qnm],by simp,by simp⟩
 · exact this
 · intro n out i xs h0 h1 hd hI ih
   obtain ⟨m,hm,ho⟩:=hI
   simp only [List.length_cons] at hm
   simp only [Qd4.eq_2]
   unfold Ql7 Qg0
   simp only [hd,cond_true,Jem hl (show l.length<fu by omega),Qab]
   cases hb:l.contains i
   · rw [Bool.not_false,cond_true,ih out ⟨m,by omega,ho⟩,List.filter_cons_of_neg (by rw [hb]; simp)]
   · rw [Bool.not_true,cond_false,e27 _ out i ⟨by have:=ho.1; omega,λg hg=>by have:=ho.2 g hg; omega⟩,ih _ ⟨m+1,by omega,Q25 i ho⟩,List.filter_cons_of_pos hb,List.foldl_cons]
 · intro n out i hd hI
   simp only [Qd4.eq_2]
   unfold Ql7
   simp only [hd,cond_false]
   simp
theorem Q5t (r:Request):(Qnm 0 4).filter (Q2s r).contains=Q2s r :=
 Q8v ((Quo 0 4).filter _) (Qur r) λx=>by
  rw [List.mem_filter,Qie]
  constructor
  · rintro ⟨_,h⟩; simpa using h
  · intro h; have:=Q33 h; exact ⟨by omega,by simpa using h⟩
theorem Jbu {fu:Nat} {r:Request} (h:Sm fu r):Qhl fu r=some (Qnu r):=by
 unfold Qhl Qnu
 rw [Jf4 h,Qab,Jer h.pairs h.fu (by have:=Q1z r; omega),Qab,Q5t]
theorem Jgh {fu:Nat} {p:List Pair} (hp:p.length≤1048576) (hpf:p.length<fu) (a b:Int):Qp3 fu p a b=some (Q1l p a b):=by
 unfold Qp3 Q1l
 simp only [Jck hp hpf,Qab]
 cases Qsq p a b <;> rfl
theorem Q5d {fu:Nat} {l:List Int} (f:Int→Option Bool) (g:Int→Bool) (hg:∀ x∈l,f x=some (g x)) (hl:l.length≤1048576) (hf:l.length<fu):Qc9 fu l f=some (Qwb g l 0):=by
 unfold Qc9
 refine Qs3 l (λn i=>Qb7 fu l f n i) g (by omega) ?_ ?_ fu hf
 · intro n i x hx hd
   simp only [Qb7.eq_2]
   unfold Qed
   simp only [hd,cond_true,hx,Qab,hg x (Qmc hx)]
 · intro n i hd
   simp only [Qb7.eq_2]
   unfold Qed
   simp only [hd,cond_false]
theorem Q9r {fu:Nat} {l:List Int} (f:Int→Option Bool) (g:Int→Bool) (hg:∀ x∈l,f x=some (g x)) (hl:l.length≤1048576) (hf:l.length<fu):Qdb fu l f=some (l.any g):=by
 unfold Qdb
 rw [Q5d f g hg hl hf,Qab,Qsy g l 0 (by omega)]
theorem Q17 {fu:Nat} {l:List (List Int)} (f:List Int→Option Bool) (g:List Int→Bool) (hg:∀ x∈l,f x=some (g x)) (hl:l.length≤1048576) (hf:l.length<fu):Qc1 fu l f=some (Qwb g l 0):=by
 unfold Qc1
 refine Qs3 l (λn i=>Qbw fu l f n i) g (by omega) ?_ ?_ fu hf
 · intro n i x hx hd
   simp only [Qbw.eq_2]
   unfold Qdy
   simp only [hd,cond_true,hx,Qab,hg x (Qmc hx)]
 · intro n i hd
   simp only [Qbw.eq_2]
   unfold Qdy
   simp only [hd,cond_false]
theorem Jeo {fu:Nat} {p:List Pair} (hp:p.length≤1048576) (hfu:2097153≤fu) {l:List Int} (hl:l.length≤4) (hs:l.Pairwise (·<·)) (hm:∀ c∈l,0≤c∧c<4):Qp7 fu p l=some (l.foldl (Q6l p) []):=by
 unfold Qp7
 rw [Qzz (by omega) hs,Qab]
 have:=lpI l (λn out i=>Qen fu p l n out i) (λxs out=>some (xs.foldl (Q6l p) out)) (λxs out=>(∃ m,m+xs.length≤4∧okG m out)∧∀ c∈xs,0≤c∧c<4) (by omega) ?_ ?_ fu [] ⟨⟨0,by simpa using hl,by simp,by simp⟩,hm⟩ (by omega)
 · exact this
 · intro n out i c xs hx hd hI ih
   obtain ⟨⟨m,hm,ho⟩,hc⟩:=hI
   simp only [List.length_cons] at hm
   have hc0:=hc c (by simp)
   simp only [Qen.eq_2]
   unfold Qmd Qhx
   simp only [hd,cond_true,hx,Qab,Q0g]
   rw [show inb c 0 3=true by simp; omega,Bool.not_true,cond_false]
   rw [Q17 (λy=>Qnf fu y p c) (λg=>g.all (Q1l p c)) (λg hg=>by
    have hgl:=ho.2 g hg
    unfold Qnf
    rw [Q9r (λy=>Qjg fu y p c) (λx=>!Q1l p c x) (λx _=>by
     unfold Qjg
     rw [Jgh hp (by omega),Qab]) (by omega) (by omega),Qab]
    simp [List.any_eq_not_all_not]) (by have:=ho.1; omega) (by have:=ho.1; omega),Qab]
   rw [Jaf (p:=p) ho (by omega) (λx=>Qen fu p l n x (w64 (i+1))) (Qwb (λg=>g.all (Q1l p c)) out 0) (by
    rw [Q10]
    cases Qxe (λg=>g.all (Q1l p c)) out <;> simp)]
   rw [ih _ ⟨⟨m+1,by omega,Q25 c ho⟩,λy hy=>hc y (by simp [hy])⟩]
   rfl
 · intro n out i hd hI
   simp only [Qen.eq_2]
   unfold Qmd
   simp only [hd,cond_false]
   rfl
theorem Jbd {fu:Nat} {r:Request} (h:Sm fu r):Qhh fu r=some (Qnu r):=by
 unfold Qhh
 rw [Qt0 h,Qab]
 by_cases hc:Qht r=0
 · rw [show (Qht r==0)=true by simp [hc],Bool.not_true,cond_false,Jgw h,Qab,Jeo h.pairs h.fu (Q1z r) (Qur r) (λc hc=>Q33 hc),Qab]
   rfl
 · rw [show (Qht r==0)=false by simp [hc],Bool.not_false,cond_true]
   unfold Qnu Q2s
   rw [show (Qht r==0)=false by simp [hc],cond_false]
   rfl
theorem Q6m (r:Request):w64 (((Qnu r).length:Int) - 1)=((Qnu r).length:Int) - 1:=by
 have:=(Qtk r).1
 exact Qa1 (by omega) (by omega)
theorem Q9p {fu:Nat} (n:Nat) (hn:n≤1048576) (hf:n<fu):Qqp fu (n:Int)=some (Qnm 0 n):=by
 unfold Qqp
 have:=Q5o (n:Int) (λk out i=>Qg2 fu (n:Int) k out i) (λxs out=>some (out++xs)) (λxs out=>out.length+xs.length≤1048576) (by omega) ?_ ?_ n fu [] 0 (by omega) (by omega) hf (by simpa [Qcn] using hn)
 · simpa using this
 · intro k out i xs h0 h1 hd hI ih
   simp only [List.length_cons] at hI
   simp only [Qg2.eq_2]
   unfold Qmw
   rw [hd,cond_true,ap1 (by simp; omega),Qab,ih _ (by simp; omega)]
   simp
 · intro k out i hd hI
   simp only [Qg2.eq_2]
   unfold Qmw
   simp only [hd,cond_false]
   simp
theorem Q8a {α:Type} (g:α→Bool):∀ (l pre:List α),(Qwb g l pre.length=-1∧∀ x∈l,g x=false)∨(∃ a x b,l=a++x::b∧(∀ y∈a,g y=false)∧g x=true∧Qwb g l pre.length=((pre.length+a.length:Nat):Int))
 | [],pre=>.inl ⟨rfl,by simp⟩
 | x::xs,pre=>by
  simp only [Qwb]
  by_cases hx:g x=true
  · rw [hx,cond_true]; exact .inr ⟨[],x,xs,rfl,by simp,hx,by simp⟩
  · have hx':g x=false:=by simpa using hx
    rw [hx',cond_false]
    have:=Q8a g xs (pre++[x])
    simp only [List.length_append,List.length_singleton] at this
    rw [show ((pre.length+1:Nat):Int)=(pre.length:Int)+1 by omega] at this
    rcases this with ⟨h1,h2⟩ | ⟨a,y,b,h1,h2,h3,h4⟩
    · exact .inl ⟨h1,by simpa [hx'] using h2⟩
    · exact .inr ⟨x::a,y,b,by simp [h1],by simpa [hx'] using h2,h3,by rw [h4]; simp; omega⟩
theorem Jgl {fu:Nat} {l:List Int} (f:Int→Option Bool) (g:Int→Bool) (hg:∀ x∈l,f x=some (g x)) (hl:l.length≤1048576) (hf:l.length<fu):Qd2 fu l f=some (l.filter λx=>!g x):=by
 unfold Qd2
 rw [Q5d f g hg hl hf,Qab]
 have hp:=Q8a g l []
 simp only [List.length_nil,Nat.zero_add] at hp
 rcases hp with ⟨h1,h2⟩ | ⟨a,x,b,h1,h2,h3,h4⟩
 · have h1':Qwb g l 0=-1:=h1
   rw [h1',Qa0 (by simp)]
   congr 1
   exact (List.filter_eq_self.2 λy hy=>by simp [h2 y hy]).symm
 · have h4':Qwb g l 0=(a.length:Int):=h4
   rw [h4',Qam (by simp)]
   have key:∀ (rest kept mid pre:List Int) (n:Nat),l=pre++rest→kept=pre.filter (λx=>!g x)→mid≠[]→kept.length+mid.length=pre.length→rest.length<n →
       Qbi fu f n (kept++mid++rest) (kept.length:Int) (pre.length:Int)=some (l.filter λx=>!g x):=by
    intro rest
    induction rest with
    | nil =>
     intro kept mid pre n e1 e2 e3 e4 hn
     obtain ⟨n,rfl⟩:∃ j,n=j+1:=⟨n - 1,by omega⟩
     rw [Qbi.eq_2]
     unfold Qdz
     simp only [List.append_nil] at *
     subst e1
     rw [Qam (by simp; omega),Qs0 ⟨by omega,by simp; omega,by omega⟩,Qab,Qs0 ⟨by omega,by omega,by simp [Q23]; omega⟩,Qab]
     rw [← e2]
     simp [Q23]
    | cons y rest ih =>
     intro kept mid pre n e1 e2 e3 e4 hn
     obtain ⟨n,rfl⟩:∃ j,n=j+1:=⟨n - 1,by simp at hn; omega⟩
     have hlen:l.length=pre.length+(rest.length+1):=by rw [e1]; simp
     have hyl:y∈l:=by rw [e1]; simp
     obtain ⟨m,ms,rfl⟩:∃ m ms,mid=m::ms:=by
      cases mid with
      | nil=>exact absurd rfl e3
      | cons m ms=>exact ⟨m,ms,rfl⟩
     simp only [List.length_cons] at e4 hn
     have hx:ix (kept++(m::ms)++y::rest) (pre.length:Int)=some y:=by
      rw [Qlg,List.getElem?_append_right (by simp; omega)]
      simp only [List.length_append,List.length_cons]
      rw [show pre.length - (kept.length+(ms.length+1))=0 by omega]; rfl
     have hk:ix (kept++(m::ms)++y::rest) (kept.length:Int)=some m:=by
      rw [Qlg]; simp
     rw [Qbi.eq_2]
     unfold Qdz Qc8
     rw [Qa0 (by simp; omega),hx,Qab,hg y hyl,Qab]
     cases hgy:g y
     · rw [Bool.not_false,cond_true,hk,Qab,Qwx _ (by omega),Qwx _ (by omega)]
       have e5:Qhn (kept++(m::ms)++y::rest) (kept.length:Int) y=(kept++[y])++(ms++[y])++rest:=by simp [Qhn]
       rw [e5]
       have:=ih (kept++[y]) (ms++[y]) (pre++[y]) n (by simp [e1]) (by rw [e2,List.filter_append]; simp [hgy]) (by simp) (by simp; omega) (by omega)
       simp only [List.length_append,List.length_singleton] at this
       exact this
     · rw [Bool.not_true,cond_false,Qwx _ (by omega)]
       have:=ih kept ((m::ms)++[y]) (pre++[y]) n (by simp [e1]) (by rw [e2,List.filter_append]; simp [hgy]) (by simp) (by simp; omega) (by omega)
       simp only [List.length_append,List.length_singleton] at this
       rw [show kept++(m::ms)++y::rest=kept++((m::ms)++[y])++rest by simp]
       exact this
   have hlen:l.length=a.length+(b.length+1):=by rw [h1]; simp
   have ha:a.filter (λx=>!g x)=a:=List.filter_eq_self.2 λy hy=>by simp [h2 y hy]
   have:=key b a [x] (a++[x]) fu (by simp [h1]) (by rw [List.filter_append,ha]; simp [h3]) (by simp) (by simp) (by omega)
   rw [Qwx _ (by omega)]
   simp only [List.length_append,List.length_singleton] at this
   rw [show a++[x]++b=l by simp [h1]] at this
   exact this
def dnk (keys:List Int) (p:Int):Int:=- kf keys p
theorem Ja1 {fu:Nat} {keys:List Int} (hfu:2097153≤fu) (hl:keys.length≤1048576):Qgs fu keys=some (srt (dnk keys) keys.length):=by
 unfold Qgs Qo2
 rw [Q41 keys.length hl (by omega),Qab]
 obtain ⟨m,rfl⟩:∃ m,fu=m+1:=⟨fu - 1,by omega⟩
 rw [Q4i true hfu m _ (by rw [Qcn]; omega) (by rw [Qcn]; omega) (λp hp=>by have:=Qie.1 hp; omega),Qab]
 congr 1
 have e:dk keys true=dnk keys:=rfl
 rw [e]
 exact Q0z (Qro _ _ _) (Qsu _ _ _ (by rw [Qcn]; omega) (Quo _ _))
def Qzn (k:Int→Int) (x:Int):List Int→List Int→List Int
 | [],mid=>x::mid
 | y::ys,mid=>if k x<k y then Qzn k x ys (y::mid) else (y::ys).reverse++x::mid
theorem Qxk (k:Int→Int) (x:Int):∀ (ys mid:List Int),(Qzn k x ys mid).Perm (ys.reverse++x::mid)
 | [],mid=>List.Perm.refl _
 | y::ys,mid=>by
  unfold Qzn
  split
  · refine (Qxk k x ys (y::mid)).trans ?_
    rw [List.reverse_cons,List.append_assoc]
    refine List.Perm.append_left _ ?_
    exact List.Perm.swap _ _ _
  · exact List.Perm.refl _
theorem Qx9 (k:Int→Int) (x:Int):∀ (ys mid:List Int),(ys.reverse++mid).Pairwise (lx k)→(∀ m∈mid,lx k x m)→(∀ p∈ys,p<x)→(Qzn k x ys mid).Pairwise (lx k)
 | [],mid,h,hm,_=>by
  unfold Qzn
  exact List.pairwise_cons.2 ⟨hm,by simpa using h⟩
 | y::ys,mid,h,hm,hy=>by
  unfold Qzn
  rw [List.reverse_cons,List.append_assoc] at h
  split
  · rename_i hk
    refine Qx9 k x ys (y::mid) (by simpa using h) ?_ (λp hp=>hy p (by simp [hp]))
    intro m hmm
    rcases List.mem_cons.1 hmm with rfl | hmm
    · exact .inl hk
    · exact hm m hmm
  · rename_i hk
    have hyx:lx k y x:=by
     have:=hy y (by simp)
     by_cases he:k y<k x
     · exact .inl he
     · exact .inr ⟨by omega,this⟩
    rw [List.reverse_cons,List.append_assoc]
    obtain ⟨h1,h2,h3⟩:=List.pairwise_append.1 h
    simp only [List.singleton_append] at h2 h3
    refine List.pairwise_append.2 ⟨h1,?_,?_⟩
    · simp only [List.singleton_append]
      obtain ⟨h4,h5⟩:=List.pairwise_cons.1 h2
      refine List.pairwise_cons.2 ⟨?_,List.pairwise_cons.2 ⟨hm,h5⟩⟩
      intro m hmm
      rcases List.mem_cons.1 hmm with rfl | hmm
      · exact hyx
      · exact h4 m hmm
    · intro a ha b hb
      simp only [List.singleton_append,List.mem_cons] at hb
      have hay:=h3 a ha y (by simp)
      rcases hb with rfl | rfl | hb
      · exact hay
      · exact Q9h hay hyx
      · exact h3 a ha b (by simp [hb])
theorem Q42 (k:Int→Int) (x:Int):∀ (ys mid rest:List Int),Qzn k x ys (mid++rest)=Qzn k x ys mid++rest
 | [],mid,rest=>rfl
 | y::ys,mid,rest=>by
  unfold Qzn
  split
  · exact Q42 k x ys (y::mid) rest
  · simp
theorem Jga {A:List Int} {y:Int} {B:List Int} {n:Nat} (h:A.length=n):ix (A++y::B) (n:Int)=some y:=by subst h; rw [Qlg]; simp
theorem Jao {A:List Int} {y z:Int} {B:List Int} {n:Nat} (h:A.length=n):Qhn (A++y::B) (n:Int) z=A++z::B:=by subst h; simp [Qhn]
theorem Q4p {fu:Nat} {f:Int→Int→Option Int} {k:Int→Int} (K9:List Int→Int→Option (List Int)) (i0:Int) (hf:∀ a b c,f a b=some c→(c<0↔k a<k b)) (x:Int) :
    ∀ (ys mid:List Int) (n:Nat),(∀ p∈ys,∃ c,f x p=some c)→ys.length<n→ys.length≤1048576→Qa7 fu K9 0 f i0 n (ys.reverse++x::mid) (ys.length:Int)=K9 (Qzn k x ys mid) (w64 (i0+1))
 | [],mid,n,_,hn,_=>by
  obtain ⟨n,rfl⟩:∃ j,n=j+1:=⟨n - 1,by omega⟩
  rw [Qa7.eq_2]
  unfold Qcv Qzn
  rw [Qam (by simp)]; rfl
 | y::ys,mid,n,hy,hn,hl=>by
  simp only [List.length_cons] at hn hl
  obtain ⟨n,rfl⟩:∃ j,n=j+1:=⟨n - 1,by omega⟩
  obtain ⟨c,hc⟩:=hy y (by simp)
  have hw:w64 (((y::ys).length:Int) - 1)=(ys.length:Int):=by simp only [List.length_cons]; rw [Qa1 (by omega) (by omega)]; omega
  have e0:(y::ys).reverse++x::mid=ys.reverse++y::x::mid:=by simp
  have e1:ix ((y::ys).reverse++x::mid) ((y::ys).length:Int)=some x:=Jga (by simp)
  have e2:ix ((y::ys).reverse++x::mid) (ys.length:Int)=some y:=by rw [e0]; exact Jga (by simp)
  rw [Qa7.eq_2]
  unfold Qcv Qzn
  rw [Qa0 (by simp),e1,Qab,hw,e2,Qab,hc,Qab]
  by_cases hk:k x<k y
  · rw [if_pos hk,decide_eq_true ((hf _ _ _ hc).2 hk),cond_true]
    unfold Qc5
    have e3:Qhn ((y::ys).reverse++x::mid) ((y::ys).length:Int) y=(y::ys).reverse++y::mid:=Jao (by simp)
    have e4:ix ((y::ys).reverse++y::mid) (ys.length:Int)=some y:=by rw [show (y::ys).reverse++y::mid=ys.reverse++y::y::mid by simp]; exact Jga (by simp)
    have e5:Qhn ((y::ys).reverse++y::mid) (ys.length:Int) x=ys.reverse++x::y::mid:=by rw [show (y::ys).reverse++y::mid=ys.reverse++y::y::mid by simp]; exact Jao (by simp)
    rw [hw,e2,Qab,e1,Qab,Qab,e3,e4,Qab,e5]
    exact Q4p K9 i0 hf x ys (y::mid) n (λp hp=>hy p (by simp [hp])) (by omega) (by omega)
  · rw [if_neg hk,decide_eq_false (λh=>hk ((hf _ _ _ hc).1 h)),cond_false]
def Jcx (k:Int→Int):List Int→List Int→List Int
 | P,[]=>P
 | P,x::xs=>Jcx k (Qzn k x P.reverse []) xs
theorem Q2c (k:Int→Int):∀ (xs P:List Int),P.Pairwise (lx k)→(∀ p∈P,∀ x∈xs,p<x)→xs.Pairwise (·<·)→(Jcx k P xs).Perm (P++xs)∧(Jcx k P xs).Pairwise (lx k)
 | [],P,h,_,_=>by simpa [Jcx] using h
 | x::xs,P,h,hp,hx=>by
  obtain ⟨h1,h2⟩:=List.pairwise_cons.1 hx
  have hs:(Qzn k x P.reverse []).Pairwise (lx k):=Qx9 k x P.reverse [] (by simpa using h) (by simp) (λp hp'=>hp p (by simpa using hp') x (by simp))
  have hpm:(Qzn k x P.reverse []).Perm (P++[x]):=by simpa using Qxk k x P.reverse []
  have ih:=Q2c k xs (Qzn k x P.reverse []) hs (λp hp' y hy=>by
   rcases List.mem_append.1 (hpm.mem_iff.1 hp') with h' | h'
   · exact hp p h' y (by simp [hy])
   · rw [List.mem_singleton.1 h']; exact h1 y hy) h2
  refine ⟨?_,ih.2⟩
  unfold Jcx
  refine ih.1.trans ?_
  refine (hpm.append_right xs).trans ?_
  simp
theorem Q7r {fu:Nat} {f:Int→Int→Option Int} {k:Int→Int} (hfu:2097153≤fu) (hf:∀ a b c,f a b=some c→(c<0↔k a<k b)) {n:Nat} (hn:n≤1048576) (hin:∀ a b:Int,0≤a→a<n→0≤b→b<n→∃ c,f a b=some c) :
    ∀ (xs P:List Int) (m:Nat),xs.length<m→P.length+xs.length=n→(∀ p∈P++xs,0≤p∧p<n)→Qap fu 0 (n:Int) f m (P++xs) (P.length:Int)=some (Jcx k P xs)
 | [],P,m,hm,hl,_=>by
  obtain ⟨m,rfl⟩:∃ j,m=j+1:=⟨m - 1,by omega⟩
  simp only [List.length_nil] at hl
  rw [Qap.eq_2]
  unfold Qby
  rw [Qam (by simp; omega)]; simp [Jcx]
 | x::xs,P,m,hm,hl,hp=>by
  simp only [List.length_cons] at hl hm
  obtain ⟨m,rfl⟩:∃ j,m=j+1:=⟨m - 1,by omega⟩
  rw [Qap.eq_2]
  unfold Qby
  rw [Qa0 (by simp; omega)]
  have key:=Q4p (fu:=fu) (f:=f) (k:=k) (Qap fu 0 (n:Int) f m) (P.length:Int) hf x P.reverse xs fu (λp hp'=>by
   have h1:=hp p (by simp at hp'; simp [hp'])
   have h2:=hp x (by simp)
   exact hin x p h2.1 h2.2 h1.1 h1.2) (by simp; omega) (by simp; omega)
  rw [List.reverse_reverse,List.length_reverse] at key
  rw [key,Qwx _ (by omega)]
  have e:Qzn k x P.reverse xs=Qzn k x P.reverse []++xs:=by
   have:=Q42 k x P.reverse [] xs
   simpa using this
  have hpm:(Qzn k x P.reverse []).Perm (P++[x]):=by simpa using Qxk k x P.reverse []
  have hlen:(Qzn k x P.reverse []).length=P.length+1:=by rw [hpm.length_eq]; simp
  rw [e]
  have ih:=Q7r hfu hf hn hin xs (Qzn k x P.reverse []) m (by omega) (by omega) (λp hp'=>by
   rcases List.mem_append.1 hp' with h' | h'
   · rcases List.mem_append.1 (hpm.mem_iff.1 h') with h'' | h''
     · exact hp p (by simp [h''])
     · exact hp p (by rw [List.mem_singleton.1 h'']; simp)
   · exact hp p (by simp [h']))
  rw [hlen] at ih
  rw [ih]; rfl
theorem Jgm (fu:Nat) (a b:Int):∃ c,Qom fu a b=some c∧(c<0↔a<b):=by
 unfold Qom
 by_cases h:a<b
 · exact ⟨-1,by simp [h],by simp [h]⟩
 · by_cases h2:a>b
   · exact ⟨1,by simp [h,h2],by simp [h]⟩
   · exact ⟨0,by simp [h,h2],by simp [h]⟩
theorem Ja8 {fu:Nat} {keys:List Int} (hfu:2097153≤fu) (hl:keys.length<20):Qgw fu keys=some (srt (dnk keys) keys.length):=by
 unfold Qgw Qeb Qga
 rw [Q9p _ (by omega) (by omega),Qab]
 obtain ⟨f,hfd⟩:∃ f:Int→Int→Option Int,f=λa b=>Qe7 fu a b keys:=⟨_,rfl⟩
 have hdef:∀ a b:Int,0≤a→a<keys.length→0≤b→b<keys.length→∃ c,f a b=some c∧(c<0↔dnk keys a<dnk keys b):=by
  intro a b ha ha' hb hb'
  obtain ⟨c,h1,h2⟩:=Jgm fu (kf keys b) (kf keys a)
  refine ⟨c,?_,?_⟩
  · rw [hfd]
    show Qe7 fu a b keys=_
    unfold Qe7
    rw [Q3q ⟨hb,hb'⟩,Qab,Q3q ⟨ha,ha'⟩,Qab,h1,Qab]
  · rw [h2]; unfold dnk; omega
 have hf:∀ a b c,f a b=some c→(c<0↔dnk keys a<dnk keys b):=by
  intro a b c h
  have h0:=h
  rw [hfd] at h
  change Qe7 fu a b keys=_ at h
  unfold Qe7 at h
  obtain ⟨x,hx,h⟩:=Qsv h
  obtain ⟨y,hy,h⟩:=Qsv h
  obtain ⟨b0,b1,_⟩:=Qan hx
  obtain ⟨a0,a1,_⟩:=Qan hy
  obtain ⟨d,h1,h2⟩:=hdef a b a0 a1 b0 b1
  rw [h0] at h1
  cases h1
  exact h2
 have ha:=Q7r (fu:=fu) (f:=f) (k:=dnk keys) hfu hf (n:=keys.length) (by omega) (λa b h1 h2 h3 h4=>by obtain ⟨c,h,_⟩:=hdef a b h1 h2 h3 h4; exact ⟨c,h⟩)
 have hI:Qb4 fu (Qnm 0 keys.length) 0 ((Qnm 0 keys.length).length:Int) f=some (srt (dnk keys) keys.length):=by
  unfold Qb4
  rw [Qcn,show w64 ((0:Int)+1)=1 by rw [Qa1 (by omega) (by omega)]; rfl]
  cases hk:keys.length with
  | zero =>
   obtain ⟨m,rfl⟩:∃ m,fu=m+1:=⟨fu - 1,by omega⟩
   rw [Qap.eq_2]
   unfold Qby
   rw [Qam (by simp)]; rfl
  | succ n =>
   rw [hk] at ha
   have:=ha (Qnm 1 n) [0] fu (by rw [Qcn]; omega) (by rw [Qcn]; simp; omega) (λp hp=>by
    have:p∈Qnm 0 (n+1):=hp
    have:=Qie.1 this
    omega)
   have e:Qnm 0 (n+1)=[0]++Qnm 1 n:=rfl
   rw [e]
   have h1:(([0]:List Int).length:Int)=1:=rfl
   rw [h1] at this
   rw [this]
   congr 1
   have hsp:=Q2c (dnk keys) (Qnm 1 n) [0] (by simp) (λp hp x hx=>by
    have:=Qie.1 hx
    rw [List.mem_singleton.1 hp]; omega) (Quo _ _)
   exact Q0z hsp.1 hsp.2
 obtain ⟨m,rfl⟩:∃ m,fu=m+1:=⟨fu - 1,by omega⟩
 rw [Qda.eq_2]
 unfold Qgk
 rw [Qam (by rw [Qcn]; simp; omega)]
 rw [← hfd,hI,Qab,Qb8.eq_2]
 unfold Qgo
 rw [Qam (by rw [Qcn]; simp; omega)]
 rfl
theorem Jh9 {w h d:Int} (hb:(inb w 0 2000&&(inb h 0 2000&&inb d 0 2000))=true):w64 ((w64 (w*h))*d)=w*h*d:=by
 simp only [Bool.and_eq_true,Qdx] at hb
 obtain ⟨⟨h1,h2⟩,⟨h3,h4⟩,h5,h6⟩:=hb
 have a1:0≤w*h:=Int.mul_nonneg h1 h3
 have a2:w*h≤2000*2000:=Int.mul_le_mul h2 h4 h3 (by omega)
 have a3:0≤w*h*d:=Int.mul_nonneg a1 h5
 have a4:w*h*d≤2000*2000*2000:=Int.mul_le_mul a2 h6 h5 (by omega)
 rw [Qa1 (n:=w*h) (by omega) (by omega),Qa1 (by omega) (by omega)]
theorem Jcy (fu:Nat) (w h d:Int):Qj5 fu w h d=some (Q51 w h d):=by
 unfold Qj5 Qpe Q51
 simp only [Q08,Qab]
 cases h1:inb w 0 2000 <;> cases h2:inb h 0 2000 <;> cases h3:inb d 0 2000 <;> simp only [Bool.not_true,Bool.not_false,cond_true,cond_false,Bool.and_true,Bool.and_false]
 rw [Jh9 (by simp only [h1,h2,h3]; rfl)]
theorem Jfj (fu:Nat) (w h d:Int):Qnn fu w h d=some (Q51 w h d):=by
 unfold Qnn Qpa Q51
 simp only [Q0g,Qab]
 cases h1:inb w 0 2000 <;> cases h2:inb h 0 2000 <;> cases h3:inb d 0 2000 <;> simp only [Bool.not_true,Bool.not_false,cond_true,cond_false,Bool.and_true,Bool.and_false]
 rw [Jh9 (by simp only [h1,h2,h3]; rfl)]
def Qvf (r:Request) (u:Int):Item:=(Q11 r u).getD Q5z
theorem Q02 (r:Request):w64 (((Qm0 r).length:Int) - 1)=((Qm0 r).length:Int) - 1:=by
 have:=Q0t r
 exact Qa1 (by omega) (by omega)
theorem Q6y (fu:Nat) (r:Request) (u:Int):Qk1 fu r (Qm0 r) u=some (Qvf r u,(Q11 r u).isSome):=by
 unfold Qk1 Qvf
 rw [Q02,Q08,Qab]
 by_cases h:0≤u∧u<(Qm0 r).length
 · obtain ⟨i,x,h1,h2,h3⟩:=Q3u h
   rw [Qam (by simp; omega),h1,Qab,h2,Qab,h3]
   rfl
 · rw [Qa0 (by simp [inb]; omega),Q1f h]
   rfl
theorem Q9l:Q59 Q5z=0:=by simp [Q59,Q51,Q5z]
theorem Q3g {fu:Nat} {r:Request} (h:Sm fu r) (us:List Int) (hl:us.length≤1048576) (hf:us.length<fu):Qig fu r us=some (Qwc r us):=by
 unfold Qig
 rw [Jcz h,Qab]
 have key:=lpI us (λn s i=>Qe6 fu r us (Qm0 r) n s i) (λl out=>some (out++Qwc r l)) (λl out=>out.length+l.length≤1048576) (by omega) ?_ ?_ fu [] (by simpa using hl) hf
 · simpa using key
 · intro n s i x xs hx hd hI ih
   simp only [Qe6.eq_2]
   unfold Qla Qi7
   simp only [hd,cond_true,hx,Qab,Q02,Q0g]
   simp only [List.length_cons] at hI
   by_cases hu:0≤x∧x<(Qm0 r).length
   · obtain ⟨i',y,h1,h2,h3⟩:=Q3u hu
     rw [Qa0 (by simp; omega),h1,Qab,h2,Qab,ap1 (by simp; omega),Qab,ih _ (by simp; omega)]
     simp [Qwc,List.filterMap_cons,h3]
   · rw [Qam (by simp [inb]; omega),ih _ (by omega)]
     simp [Qwc,List.filterMap_cons,Q1f hu]
 · intro n s i hd _
   simp only [Qe6.eq_2]
   unfold Qla
   simp only [hd,cond_false]
   simp [Qwc]
theorem Q6s {fu:Nat} {r:Request} (h:Sm fu r) (us:List Int) (hl:us.length≤1048576) (hf:us.length<fu):Qjp fu r us=some (Qwk r us):=by
 unfold Qjp
 rw [Q3g h us hl hf,Qab]
 have hlen:=Qxc r us
 have key:=lpI (Qwc r us) (λn s i=>Qfk fu (Qwc r us) n s i) (λl n=>some (n+Qw1 (l.map Q59))) (λl n=>0≤n∧n+8000000000*l.length≤8000000000*1048576) (by omega) ?_ ?_ fu 0 ⟨by omega,by omega⟩ (by omega)
 · simpa [Qwk] using key
 · intro n s i x xs hx hd hI ih
   simp only [Qfk.eq_2]
   unfold Qiw
   simp only [hd,cond_true,hx,Qab,Jfj]
   have hv:=Q7x x.fW x.fH x.fD
   have h2:=hI.2
   simp only [List.length_cons] at h2
   rw [Qa1 (by omega) (by omega),ih _ ⟨by omega,by omega⟩]
   simp only [List.map_cons,Qrf,Q59]
   congr 1
   omega
 · intro n s i hd _
   simp only [Qfk.eq_2]
   unfold Qiw
   simp only [hd,cond_false]
   simp
end Go.Proofs.YtpcmapfabndggaaGreatDoor
