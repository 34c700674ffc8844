/- PackTextBP: plain le.. -/
import Derived.Test.YtndfoffokpdjeaaGreatDoorPackTextBD
import Derived.Test.YtndfoffokpdjeaaGreatDoorM3
set_option linter.unusedSimpArgs false
set_option linter.unusedVariables false
namespace Go.Proofs.YtndfoffokpdjeaaGreatDoor
open Go
open Enc (rd ow)
open Arg (argv)
open Ret (retv)
open Wf (wf)
theorem Q67 {fu:Nat} (n:Nat) (hn:n≤1048576) (hf:n<fu):Qjh fu (n:Int)=some (Qj5 0 n):=by
 unfold Qjh
 have key:∀ (m i k:Nat),n - i=m→i≤n→m<k→Qft fu (n:Int) k (Qj5 0 i) (i:Int)=some (Qj5 0 n):=by
  intro m
  induction m with
  | zero =>
   intro i k hm hi hk
   obtain ⟨k,rfl⟩:∃ j,k=j+1:=⟨k - 1,by omega⟩
   have:i=n:=by omega
   subst this
   rw [Qft.eq_2]
   unfold Qkw
   simp
  | succ m ih =>
   intro i k hm hi hk
   obtain ⟨k,rfl⟩:∃ j,k=j+1:=⟨k - 1,by omega⟩
   rw [Qft.eq_2]
   unfold Qkw
   rw [Qao (by simp; omega),ap1 (by rw [Qbx]; simp; omega),Qaa,Qx6 i (by omega)]
   have e:=Q9m 0 i
   rw [Int.zero_add] at e
   rw [← e]
   exact ih (i+1) k (by omega) (by omega) (by omega)
 exact key n 0 fu (by omega) (by omega) hf
def dk (keys:List Int) (Qvh:Bool) (p:Int):Int:=bif Qvh then - kf keys p else kf keys p
theorem Q52 {keys:List Int} {p:Int} (h:0≤p∧p<keys.length):ix keys p=some (kf keys p):=by
 have h1:p.toNat<keys.length:=by omega
 unfold kf ix
 rw [if_pos h.1,List.getElem?_eq_getElem h1]
 rfl
theorem Jm2 {fu:Nat} {keys a b:List Int} (Qvh:Bool) (ha:∀ p∈a,0≤p∧p<keys.length) (hb:∀ p∈b,0≤p∧p<keys.length) (hla:a.length≤1048576) (hlb:b.length≤1048576) :
    ∀ (m:Nat) (n:Nat) (out:List Int) (i j:Nat),i≤a.length→j≤b.length→(a.length - i)+(b.length - j)=m→m<n→out.length+m≤2097152 →
     Qce fu keys Qvh a b n out i j=some (out++mrg (dk keys Qvh) (a.drop i) (b.drop j)):=by
 intro m
 induction m with
 | zero =>
  intro n out i j hi hj hm hn ho
  obtain ⟨n,rfl⟩:∃ k,n=k+1:=⟨n - 1,by omega⟩
  rw [Qce.eq_2]
  unfold Qml
  rw [Qaf (by simp; omega),Qaf (by simp; omega),List.drop_of_length_le (show a.length≤i by omega),List.drop_of_length_le (show b.length≤j by omega)]
  simp [mrg]
 | succ m ih =>
  intro n out i j hi hj hm hn ho
  obtain ⟨n,rfl⟩:∃ k,n=k+1:=⟨n - 1,by omega⟩
  have hL:Qce fu keys Qvh a b (n+1) out i j=Qh9 fu (Qce fu keys Qvh a b n) keys Qvh a b out i j:=by
   rw [Qce.eq_2]
   unfold Qml
   by_cases h:i<a.length
   · rw [Qao (by simpa using h)]
   · rw [Qaf (by simpa using h),Qao (by simp; omega)]
  have tA:∀ (h:i<a.length),(Qc7 8 out [a[i]])=some (out++[a[i]]):=λh=>ap1 (by simp; omega)
  have tB:∀ (h:j<b.length),(Qc7 8 out [b[j]])=some (out++[b[j]]):=λh=>ap1 (by simp; omega)
  have nA:∀ (h:i<a.length),Qce fu keys Qvh a b n (out++[a[i]]) (w64 ((i:Int)+1)) j=some (out++a[i]::mrg (dk keys Qvh) (a.drop (i+1)) (b.drop j)):=λh=>by
   rw [Qx6 i (by omega),ih n (out++[a[i]]) (i+1) j (by omega) hj (by omega) (by omega) (by simp; omega)]
   simp
  have nB:∀ (h:j<b.length),Qce fu keys Qvh a b n (out++[b[j]]) i (w64 ((j:Int)+1))=some (out++b[j]::mrg (dk keys Qvh) (a.drop i) (b.drop (j+1))):=λh=>by
   rw [Qx6 j (by omega),ih n (out++[b[j]]) i (j+1) hi (by omega) (by omega) (by omega) (by simp; omega)]
   simp
  rw [hL]
  unfold Qh9
  by_cases hjb:j=b.length
  · have h:i<a.length:=by omega
    rw [Qao (by simp [hjb]),Qy1 h,Qaa,tA h,Qaa,nA h,List.drop_of_length_le (show b.length≤j by omega),Q8y,Q8y,← List.drop_eq_getElem_cons h]
  · have hj':j<b.length:=by omega
    rw [Qaf (by simp; omega)]
    by_cases hia:i=a.length
    · rw [Qao (by simp [hia]),Qy1 hj',Qaa,tB hj',Qaa,nB hj',List.drop_of_length_le (show a.length≤i by omega)]
      have e1:∀ l,mrg (dk keys Qvh) [] l=l:=λl=>by rw [mrg]
      rw [e1,e1,← List.drop_eq_getElem_cons hj']
    · have hi':i<a.length:=by omega
      rw [Qaf (by simp; omega)]
      simp only [Qy1 hi',Qy1 hj',Qaa,Q52 (ha _ (List.getElem_mem hi')),Q52 (hb _ (List.getElem_mem hj')),tA hi',tB hj',nA hi',nB hj']
      rw [List.drop_eq_getElem_cons hi',List.drop_eq_getElem_cons hj',Qwa,← List.drop_eq_getElem_cons hi',← List.drop_eq_getElem_cons hj']
      have hx:dk keys Qvh a[i]=bif Qvh then - kf keys a[i] else kf keys a[i]:=rfl
      have hy:dk keys Qvh b[j]=bif Qvh then - kf keys b[j] else kf keys b[j]:=rfl
      rw [hx,hy]
      generalize kf keys a[i]=x
      generalize kf keys b[j]=y
      cases Qvh
      · by_cases hc:y<x
        · rw [if_pos (by simpa using hc)]; simp [hc]
        · rw [if_neg (by simpa using hc)]
          have:decide (y>x)=true∨decide (y>x)=false:=by cases decide (y>x) <;> simp
          rcases this with h | h <;> simp [hc,h]
      · by_cases hc:x<y
        · have h:¬ y<x:=by omega
          rw [if_pos (by simpa using hc)]; simp [hc,h]
        · rw [if_neg (by simpa using hc)]
          have h:decide (y<x)=true∨decide (y<x)=false:=by cases decide (y<x) <;> simp
          rcases h with h | h <;> simp [hc,h]
theorem Q7l {fu:Nat} {keys:List Int} (Qvh:Bool) (hfu:2097153≤fu):∀ (n:Nat) (l:List Int),l.length≤n→l.length≤1048576→(∀ p∈l,0≤p∧p<keys.length) →
    Qir fu (n+1) keys l Qvh=some (msr (dk keys Qvh) (n+1) l)
 | n,l,hn,hl,hm=>by
  rw [Qir.eq_2]
  unfold Qt2 msr
  by_cases h2:l.length<2
  · rw [Qao (by simp; omega),if_pos h2,ap1 (by simp; omega)]; rfl
  · rw [Qaf (by simp; omega),if_neg h2]
    have hd:Int.tdiv (l.length:Int) 2=((l.length / 2:Nat):Int):=by simp [Int.tdiv]
    obtain ⟨n,rfl⟩:∃ k,n=k+1:=⟨n - 1,by omega⟩
    rw [hd,Qam (by omega) (by omega),Qn6 (by omega),Qn6 (by omega),Qaa]
    simp only [Int.toNat_natCast,Int.toNat_zero,List.drop_zero,Nat.sub_zero,Qaa]
    rw [Q7l Qvh hfu n (l.take (l.length / 2)) (by rw [List.length_take]; omega) (by rw [List.length_take]; omega) (λp hp=>hm p (List.mem_of_mem_take hp)),Qaa]
    have e:(l.drop (l.length / 2)).take (l.length - l.length / 2)=l.drop (l.length / 2):=List.take_of_length_le (by rw [List.length_drop]; omega)
    rw [e,Q7l Qvh hfu n (l.drop (l.length / 2)) (by rw [List.length_drop]; omega) (by rw [List.length_drop]; omega) (λp hp=>hm p (List.mem_of_mem_drop hp)),Qaa]
    have hp1:=(Qrx (dk keys Qvh) (n+1) (l.take (l.length / 2)))
    have hp2:=(Qrx (dk keys Qvh) (n+1) (l.drop (l.length / 2)))
    have l1:=hp1.length_eq
    have l2:=hp2.length_eq
    rw [List.length_take] at l1
    rw [List.length_drop] at l2
    rw [show (0:Int)=((0:Nat):Int) from rfl]
    rw [Jm2 Qvh (λp hp=>hm p (List.mem_of_mem_take (hp1.mem_iff.1 hp))) (λp hp=>hm p (List.mem_of_mem_drop (hp2.mem_iff.1 hp))) (by omega) (by omega) _ fu [] 0 0 (by omega) (by omega) rfl (by omega) (by simp; omega)]
    simp
theorem Joc {fu:Nat} {keys:List Int} (hfu:2097153≤fu) (hl:keys.length≤1048576):Qoj fu keys=some (srt (kf keys) keys.length):=by
 unfold Qoj Qlf
 rw [Q67 keys.length hl (by omega),Qaa]
 obtain ⟨m,rfl⟩:∃ m,fu=m+1:=⟨fu - 1,by omega⟩
 rw [Q7l false hfu m _ (by rw [Qbx]; omega) (by rw [Qbx]; omega) (λp hp=>by have:=Qho.1 hp; omega),Qaa]
 congr 1
 have e:dk keys false=kf keys:=rfl
 rw [e]
 exact Q2g (Qrx _ _ _) (Qt3 _ _ _ (by rw [Qbx]; omega) (Qvv _ _))
structure Sm (fu:Nat) (r:Request):Prop where
 fu:2097153≤fu
 pairs:r.fT.length≤1048576
 types:r.fG.length≤1048576
 items:r.fV.length≤1048576
theorem Q0a (fu:Nat) (n lo hi:Int):Qan fu n lo hi=some (inb n lo hi):=by
 unfold Qan inb
 by_cases h:lo≤n
 · simp [h]
 · simp [h]
theorem Q1z (fu:Nat) (n lo hi:Int):Qau fu n lo hi=some (inb n lo hi):=Q0a fu n lo hi
theorem Jal (fu:Nat) (n:Int):Qd1 fu n=some (inb n 1 2000):=by unfold Qd1; rw [Q0a]; rfl
theorem Jk7 (fu:Nat) (n:Int):Qm1 fu n=some (inb n 0 999):=by unfold Qm1; rw [Q0a]; rfl
theorem Jbg (fu:Nat) (n:Int):Qde fu n=some (inb n 1 2000):=by unfold Qde; rw [Q1z]; rfl
theorem Jdl (fu:Nat) (p:Pallet):Qg6 fu p=some (Qvw p):=by
 unfold Qg6 Qvw
 simp only [Jal,Q0a,Qaa]
 cases inb p.fW 1 2000 <;> cases inb p.fD 1 2000 <;> cases inb p.fH 1 2000 <;> rfl
theorem Jnm (fu:Nat) (p:Pallet):Qek fu p=some (Qvw p):=by
 unfold Qek Qvw
 simp only [Jbg,Q1z,Qaa]
 cases inb p.fW 1 2000 <;> cases inb p.fD 1 2000 <;> cases inb p.fH 1 2000 <;> rfl
theorem Jnn (fu:Nat) (t:Typ):Qr0 fu t=some (Q2s t):=by
 unfold Qr0 Q2s
 simp only [Jal,Q0a,Jk7,Qaa]
 cases inb t.f8 0 999 <;> cases inb t.fW 1 2000 <;> cases inb t.fH 1 2000 <;> cases inb t.fD 1 2000 <;> cases inb t.fK 0 100000 <;> cases inb t.fQ 1 100000 <;> rfl
theorem Jm0 (fu:Nat) (t:Typ):Qrv fu t=some (Q2s t):=by
 unfold Qrv Q2s
 simp only [Jbg,Q1z,Qaa]
 cases inb t.f8 0 999 <;> cases inb t.fW 1 2000 <;> cases inb t.fH 1 2000 <;> cases inb t.fD 1 2000 <;> cases inb t.fK 0 100000 <;> cases inb t.fQ 1 100000 <;> rfl
theorem Jmb (fu:Nat) (t:Item):Qr6 fu t=some (Qyb t):=by
 unfold Qr6 Qyb
 simp only [Jal,Q0a,Jk7,Qaa]
 cases inb t.f8 0 999 <;> cases inb t.fW 1 2000 <;> cases inb t.fH 1 2000 <;> cases inb t.fD 1 2000 <;> cases inb t.fQ 1 100000 <;> cases inb t.fM 0 3 <;> rfl
theorem Jll (fu:Nat) (t:Item):Qr7 fu t=some (Qyb t):=by
 unfold Qr7 Qyb
 simp only [Jbg,Q1z,Qaa]
 cases inb t.f8 0 999 <;> cases inb t.fW 1 2000 <;> cases inb t.fH 1 2000 <;> cases inb t.fD 1 2000 <;> cases inb t.fQ 1 100000 <;> cases inb t.fM 0 3 <;> rfl
def Jh3:List Item→Int→Option Bool
 | [],n=>some (decide (n≤12))
 | x::xs,n=>bif !Qyb x then some false else Jh3 xs (w64 (n+x.fF))
theorem Q5u:∀ (l:List Item) (n:Int),0≤n→n+6*l.length≤4611686018427387904→Jh3 l n=some (l.all Qyb&&decide (n+Qxt (l.map (·.fF))≤12))
 | [],n,_,_=>by simp [Jh3]
 | x::xs,n,h0,h1=>by
  unfold Jh3
  cases hx:Qyb x
  · simp [hx]
  · have hc:=hx
    simp only [Qyb,Bool.and_eq_true,Qcb] at hc
    have hc:=hc.2.2.2.2.2.2
    simp only [List.length_cons] at h1
    rw [Qam (by omega) (by omega)]
    simp only [Bool.not_true,cond_false]
    rw [Q5u xs (n+x.fF) (by omega) (by omega)]
    simp only [List.all_cons,hx,Bool.true_and,List.map_cons,Qq3,Int.add_assoc]
theorem Jlp {fu:Nat} {r:Request} (h:Sm fu r):Qn2 fu r=some (Q5a r):=by
 have hfu:=h.fu
 have h7:r.fV.length≤8→Qdn fu r fu 0 0=some (r.fV.all Qyb&&decide (Qxt (r.fV.map (·.fF))≤12)):=by
  intro h8
  rw [lp r.fV (λn s i=>Qdn fu r n s i) Jh3 (by have:=h.items; omega) ?_ ?_ fu 0 (by have:=h.items; omega),Q5u _ _ (by omega) (by have:=h.items; omega)]
  · simp
  · intro n s i x xs hx hd ih
    simp only [Qdn.eq_2]
    unfold Qk3
    simp only [hd,cond_true,hx,Qaa,Jmb,ih]
    rfl
  · intro n s i hd
    simp only [Qdn.eq_2]
    unfold Qk3
    simp only [hd,cond_false]
    rfl
 have h6:∀ b:Bool,(Qdn fu r fu 0 0=some b)→Qds fu r fu 0=some (r.fG.all Q2s&&b):=by
  intro b hb
  refine lp r.fG (λn (_:Unit) i=>Qds fu r n i) (λl _=>some (l.all Q2s&&b)) (by have:=h.types; omega) ?_ ?_ fu () (by have:=h.types; omega)
  · intro n s i x xs hx hd ih
    simp only [Qds.eq_2]
    unfold Qkt
    simp only [hd,cond_true,hx,Qaa,Jnn,ih (),List.all_cons]
    cases Q2s x <;> rfl
  · intro n s i hd
    simp only [Qds.eq_2]
    unfold Qkt
    simp only [hd,cond_false,hb]
    rfl
 have h4:∀ b:Bool,(Qds fu r fu 0=some b)→Qdo fu r fu 0=some (r.fT.all prB&&b):=by
  intro b hb
  refine lp r.fT (λn (_:Unit) i=>Qdo fu r n i) (λl _=>some (l.all prB&&b)) (by have:=h.pairs; omega) ?_ ?_ fu () (by have:=h.pairs; omega)
  · intro n s i x xs hx hd ih
    simp only [Qdo.eq_2]
    unfold Qkq Qoq
    simp only [hd,cond_true,hx,Qaa,Q0a,ih ()]
    simp only [List.all_cons,prB]
    cases inb x.fA 0 3 <;> cases inb x.fB 0 3 <;> rfl
  · intro n s i hd
    simp only [Qdo.eq_2]
    unfold Qkq
    simp only [hd,cond_false,hb]
    rfl
 unfold Qn2 Qnu Q5a
 simp only [Q0a,Jk7,Jdl,Qaa]
 by_cases h8:r.fV.length≤8
 · rw [h4 _ (h6 _ (h7 h8))]
   have e8:decide ((r.fV.length:Int)>8)=false:=by simp; omega
   rw [e8]
   by_cases hp:r.fT.length≤16
   · have e16:decide ((r.fT.length:Int)>16)=false:=by simp; omega
     rw [e16]
     simp only [hp,h8,decide_true,cond_false,Bool.and_true]
     cases inb r.f9 0 1 <;> cases Qvw r.fJ <;> cases inb r.fU 1 4 <;> cases inb (r.fG.length:Int) 1 5 <;> cases inb r.fR 0 999 <;> simp <;> cases r.fT.all prB <;> cases r.fG.all Q2s <;> rfl
   · have e16:decide ((r.fT.length:Int)>16)=true:=by simp; omega
     rw [e16]
     simp only [hp,decide_false,cond_true]
     cases inb r.f9 0 1 <;> cases Qvw r.fJ <;> cases inb r.fU 1 4 <;> simp
 · have e8:decide ((r.fV.length:Int)>8)=true:=by simp; omega
   rw [e8]
   simp only [h8,decide_false,cond_true,Bool.and_false,Bool.false_and]
   cases inb r.f9 0 1 <;> cases Qvw r.fJ <;> cases inb r.fU 1 4 <;> simp
def Qxm {α:Type} (g:α→Bool):List α→Int→Int
 | [],_=>-1
 | x::xs,i=>bif g x then i else Qxm g xs (i+1)
theorem Qui {α:Type} (g:α→Bool):∀ (l:List α) (i:Int),0≤i→decide (Qxm g l i≥0)=l.any g
 | [],i,_=>rfl
 | x::xs,i,h=>by
  simp only [Qxm,List.any_cons]
  by_cases hx:g x=true
  · simpa [hx] using h
  · simpa [hx] using Qui g xs (i+1) (by omega)
theorem Q4b {α:Type} (g:α→Bool):∀ (l pre:List α) ,(Qxm g l pre.length<0∧l.find? g=none)∨(0≤Qxm g l pre.length∧∃ x,l.find? g=some x∧ix (pre++l) (Qxm g l pre.length)=some x)
 | [],pre=>.inl ⟨by simp [Qxm],rfl⟩
 | x::xs,pre=>by
  simp only [Qxm]
  cases hx:g x
  · have:=Q4b g xs (pre++[x])
    simp only [List.length_append,List.length_singleton,List.append_assoc,List.singleton_append] at this
    simpa [List.find?_cons,hx] using this
  · refine .inr ⟨by simp,x,by simp [hx],?_⟩
    rw [cond_true,Qh2]
    simp
theorem Qug {α:Type} (l:List α) (L:Nat→Int→Option Int) (g:α→Bool) (hl:l.length≤1099511627776)
    (hs:∀ n (i:Int) x,ix l i=some x→decide (i<(l.length:Int))=true→L (n+1) i=bif g x then some i else L n (w64 (i+1)))
    (he:∀ n (i:Int),decide (i<(l.length:Int))=false→L (n+1) i=some (-1)) (n:Nat) (hn:l.length<n):L n 0=some (Qxm g l 0):=by
 have key:∀ (m i n:Nat),l.length - i=m→i≤l.length→m<n→L n (i:Int)=some (Qxm g (l.drop i) i):=by
  intro m
  induction m with
  | zero =>
   intro i n hm hi hn
   obtain ⟨n,rfl⟩:∃ k,n=k+1:=⟨n - 1,by omega⟩
   rw [List.drop_of_length_le (by omega),he n i (by simp; omega)]
   rfl
  | succ m ih =>
   intro i n hm hi hn
   obtain ⟨n,rfl⟩:∃ k,n=k+1:=⟨n - 1,by omega⟩
   have hlt:i<l.length:=by omega
   rw [hs n i _ (Qy1 hlt) (by simpa using hlt),List.drop_eq_getElem_cons hlt]
   simp only [Qxm]
   cases g l[i]
   · rw [cond_false,cond_false,Qx6 i (by omega)]
     have:=ih (i+1) n (by omega) (by omega) (by omega)
     simpa using this
   · rfl
 simpa using key l.length 0 n (by omega) (by omega) hn
theorem Q70 {fu:Nat} {l:List Typ} (f:Typ→Option Bool) (g:Typ→Bool) (hg:∀ x∈l,f x=some (g x)) (hl:l.length≤1048576) (hf:l.length<fu):Qbm fu l f=some (Qxm g l 0):=by
 unfold Qbm
 refine Qug l (λn i=>Qa4 fu l f n i) g (by omega) ?_ ?_ fu hf
 · intro n i x hx hd
   simp only [Qa4.eq_2]
   unfold Qcm
   simp only [hd,cond_true,hx,Qaa,hg x (Qi3 hx)]
 · intro n i hd
   simp only [Qa4.eq_2]
   unfold Qcm
   simp only [hd,cond_false]
theorem Q3f {fu:Nat} {l:List Typ} (f:Typ→Option Bool) (g:Typ→Bool) (hg:∀ x∈l,f x=some (g x)) (hl:l.length≤1048576) (hf:l.length<fu):Qav fu l f=some (l.any g):=by
 unfold Qav
 rw [Q70 f g hg hl hf,Qaa,Qui g l 0 (by omega)]
theorem Jbd {fu:Nat} {l:List Pair} (f:Pair→Option Bool) (g:Pair→Bool) (hg:∀ x∈l,f x=some (g x)) (hl:l.length≤1048576) (hf:l.length<fu):Qb9 fu l f=some (Qxm g l 0):=by
 unfold Qb9
 refine Qug l (λn i=>Qa1 fu l f n i) g (by omega) ?_ ?_ fu hf
 · intro n i x hx hd
   simp only [Qa1.eq_2]
   unfold Qcn
   simp only [hd,cond_true,hx,Qaa,hg x (Qi3 hx)]
 · intro n i hd
   simp only [Qa1.eq_2]
   unfold Qcn
   simp only [hd,cond_false]
theorem Q4w {fu:Nat} {l:List Pair} (f:Pair→Option Bool) (g:Pair→Bool) (hg:∀ x∈l,f x=some (g x)) (hl:l.length≤1048576) (hf:l.length<fu):Qa5 fu l f=some (l.any g):=by
 unfold Qa5
 rw [Jbd f g hg hl hf,Qaa,Qui g l 0 (by omega)]
theorem Jbu {fu:Nat} {l:List Item} (f:Item→Option Bool) (g:Item→Bool) (hg:∀ x∈l,f x=some (g x)) (hl:l.length≤1048576) (hf:l.length<fu):Qb8 fu l f=some (Qxm g l 0):=by
 unfold Qb8
 refine Qug l (λn i=>Qa2 fu l f n i) g (by omega) ?_ ?_ fu hf
 · intro n i x hx hd
   simp only [Qa2.eq_2]
   unfold Qco
   simp only [hd,cond_true,hx,Qaa,hg x (Qi3 hx)]
 · intro n i hd
   simp only [Qa2.eq_2]
   unfold Qco
   simp only [hd,cond_false]
theorem Qzj {fu:Nat} {l:List Item} (f:Item→Option Bool) (g:Item→Bool) (hg:∀ x∈l,f x=some (g x)) (hl:l.length≤1048576) (hf:l.length<fu):Qa3 fu l f=some (l.any g):=by
 unfold Qa3
 rw [Jbu f g hg hl hf,Qaa,Qui g l 0 (by omega)]
theorem Jns {fu:Nat} {r:Request} (h:Sm fu r):Qov fu r=some (Q5a r):=by
 have hfu:=h.fu
 have h1:=h.items
 have h2:=h.types
 have h3:=h.pairs
 have e3:Qef fu r fu 0 0=some (r.fV.all Qyb&&decide (Qxt (r.fV.map (·.fF))≤12)):=by
  rw [lp r.fV (λn s i=>Qef fu r n s i) Jh3 (by omega) ?_ ?_ fu 0 (by omega),Q5u _ _ (by omega) (by omega)]
  · simp
  · intro n s i x xs hx hd ih
    simp only [Qef.eq_2]
    unfold Qkp
    simp only [hd,cond_true,hx,Qaa,Jll,ih]
    rfl
  · intro n s i hd
    simp only [Qef.eq_2]
    unfold Qkp
    simp only [hd,cond_false]
    rfl
 have ep:Qa5 fu r.fT (λy34=>Qj8 fu y34)=some (!(r.fT.all prB)):=by
  rw [Q4w _ (λp=>!prB p) (λp _=>by
   unfold Qj8 prB
   simp only [Q1z,Qaa]
   cases inb p.fA 0 3 <;> rfl) h3 (by omega)]
  simp [List.not_all_eq_any_not]
 have et:Qav fu r.fG (λy34=>Qki fu y34)=some (!(r.fG.all Q2s)):=by
  rw [Q3f _ (λp=>!Q2s p) (λp _=>by
   unfold Qki
   rw [Jm0]; rfl) h2 (by omega)]
  simp [List.not_all_eq_any_not]
 unfold Qov Qny Qoh Q5a
 rw [e3,ep,et]
 simp only [Q1z,Jnm,Qaa]
 have e8:decide ((r.fV.length:Int)>8)=!decide (r.fV.length≤8):=by
  by_cases hh:r.fV.length≤8
  · have:¬ ((r.fV.length:Int)>8):=by omega
    simp [hh,this]
  · have:(r.fV.length:Int)>8:=by omega
    simp [hh,this]
 have e16:decide ((r.fT.length:Int)>16)=!decide (r.fT.length≤16):=by
  by_cases hh:r.fT.length≤16
  · have:¬ ((r.fT.length:Int)>16):=by omega
    simp [hh,this]
  · have:(r.fT.length:Int)>16:=by omega
    simp [hh,this]
 rw [e8,e16]
 cases inb r.f9 0 1 <;> cases Qvw r.fJ <;> cases inb r.fU 1 4 <;> cases decide (r.fT.length≤16) <;> cases r.fT.all prB <;> cases inb (r.fG.length:Int) 1 5 <;> cases r.fG.all Q2s <;> cases inb r.fR 0 999 <;> cases decide (r.fV.length≤8) <;> rfl
theorem lpP {σ α β:Type} (l:List α) (L:Nat→σ→Int→Option β) (F:List α→List α→σ→Option β) (hl:l.length≤1099511627776)
    (hs:∀ n s pre x xs,l=pre++x::xs→ix l (pre.length:Int)=some x→decide ((pre.length:Int)<(l.length:Int))=true→(∀ s',L n s' (w64 ((pre.length:Int)+1))=F (pre++[x]) xs s')→L (n+1) s (pre.length:Int)=F pre (x::xs) s)
    (he:∀ n s,decide ((l.length:Int)<(l.length:Int))=false→L (n+1) s (l.length:Int)=F l [] s):∀ n s,l.length<n→L n s 0=F [] l s:=by
 have key:∀ (xs pre:List α) (n:Nat) (s:σ),l=pre++xs→xs.length<n→L n s (pre.length:Int)=F pre xs s:=by
  intro xs
  induction xs with
  | nil =>
   intro pre n s he' hn
   obtain ⟨n,rfl⟩:∃ k,n=k+1:=⟨n - 1,by omega⟩
   simp only [List.append_nil] at he'
   subst he'
   exact he n s (by simp)
  | cons x xs ih =>
   intro pre n s he' hn
   obtain ⟨n,rfl⟩:∃ k,n=k+1:=⟨n - 1,by simp at hn; omega⟩
   have hlen:l.length=pre.length+(xs.length+1):=by rw [he']; simp
   refine hs n s pre x xs he' ?_ (by simp; omega) λs'=>?_
   · rw [Qh2,he']; simp
   · rw [Qx6 _ (by omega)]
     have:=ih (pre++[x]) n s' (by simp [he']) (by simp at hn; omega)
     simpa using this
 intro n s hn
 simpa using key l [] n s rfl hn
theorem Jep {α:Type} {pre rest:List α} {i:Int} {y:α} (h:ix pre i=some y):ix (pre++rest) i=some y:=by
 obtain ⟨h0,h1,h2⟩:=Qah h
 unfold ix
 rw [if_pos h0,List.getElem?_append_left (by omega),h2]
theorem Jmx (a b:Int):(a==b)=(b==a):=Bool.eq_iff_iff.2 (by simp only [beq_iff_eq]; exact ⟨Eq.symm,Eq.symm⟩)
theorem Qz2 {fu:Nat} {r:Request} (h:Sm fu r) (id:Int):Qh4 fu r id=some (Qyf (Qt6 r id)):=by
 have hfu:=h.fu
 have ht:=h.types
 unfold Qh4 Qt6
 rw [Q70 (λy24=>Qp7 fu y24 id) (λt=>t.f8==id) (λt _=>rfl) ht (by omega),Qaa]
 rcases Q4b (λt:Typ=>t.f8==id) r.fG [] with ⟨h1,h2⟩ | ⟨h1,x,h2,h3⟩
 · simp only [List.length_nil] at h1
   rw [Qao (by simpa using h1),h2]; rfl
 · simp only [List.length_nil,List.nil_append] at h1 h3
   rw [Qaf (by simpa using h1),h2]
   have h3':ix r.fG (Qxm (λt=>t.f8==id) r.fG 0)=some x:=h3
   rw [h3']; rfl
theorem Q9b {fu:Nat} {r:Request} (h:Sm fu r):Qfo fu r=some (Qyf (Qt6 r r.fR)):=by
 have hfu:=h.fu
 have ht:=h.types
 unfold Qfo Qt6
 refine lp r.fG (λn (_:Unit) i=>Qfz fu r n i) (λl _=>some (Qyf (l.find? λt=>t.f8==r.fR))) (by omega) ?_ ?_ fu () (by omega)
 · intro n s i x xs hx hd ih
   simp only [Qfz.eq_2]
   unfold Qks
   simp only [hd,cond_true,hx,Qaa,ih (),List.find?_cons]
   cases x.f8==r.fR <;> rfl
 · intro n s i hd
   simp only [Qfz.eq_2]
   unfold Qks
   simp only [hd,cond_false]
   rfl
theorem Jfu {fu:Nat} {r:Request} (h:Sm fu r):Qh7 fu r=some (Qyf (Qt6 r r.fR)):=by
 unfold Qh7
 rw [Qz2 h]; rfl
theorem Q1p (o:Option Typ):(Qyf o).2=o.isSome:=by cases o <;> rfl
theorem Jm5 {fu:Nat} {r:Request} (h:Sm fu r):Qqn fu r=some (Q96 r):=by
 have hfu:=h.fu
 have h1:=h.items
 have h2:=h.types
 have h3:=h.pairs
 have e11:Qda fu r fu 0=some (!(r.fT.any λp=>decide (p.fA≥r.fU)||decide (p.fB≥r.fU))&&(Qt6 r r.fR).isSome):=by
  refine lp r.fT (λn (_:Unit) i=>Qda fu r n i) (λl _=>some (!(l.any λp=>decide (p.fA≥r.fU)||decide (p.fB≥r.fU))&&(Qt6 r r.fR).isSome)) (by omega) ?_ ?_ fu () (by omega)
  · intro n s i x xs hx hd ih
    simp only [Qda.eq_2]
    unfold Qnd Qp0
    simp only [hd,cond_true,hx,Qaa,ih (),List.any_cons]
    cases decide (x.fA≥r.fU) <;> cases decide (x.fB≥r.fU) <;> rfl
  · intro n s i hd
    simp only [Qda.eq_2]
    unfold Qnd
    simp only [hd,cond_false,Q9b h,Qaa,Q1p]
    rfl
 have e7:∀ b,Qda fu r fu 0=some b→Qbh fu r fu 0=some (Jcc r.fU [] r.fV&&b):=by
  intro b hb
  refine lpP r.fV (λn (_:Unit) i=>Qbh fu r n i) (λpre l _=>some (Jcc r.fU pre l&&b)) (by omega) ?_ ?_ fu () (by omega)
  · intro n s pre x xs hl hx hd ih
    simp only [Qbh.eq_2]
    unfold Qnj
    simp only [hd,cond_true,hx,Qaa,Jcc]
    cases hc:decide (x.fM≥r.fU)
    · have hpl:pre.length≤r.fV.length:=by rw [hl]; simp
      have e8:Qd6 fu (λi=>Qbh fu r n i) r (pre.length:Int) fu 0=bif pre.any (λy=>y.f8==x.f8) then some false else Qbh fu r n (w64 ((pre.length:Int)+1)):=by
       refine lp pre (λm (_:Unit) i=>Qd6 fu (λi=>Qbh fu r n i) r (pre.length:Int) m i) (λl _=>bif l.any (λy=>y.f8==x.f8) then some false else Qbh fu r n (w64 ((pre.length:Int)+1))) (by omega) ?_ ?_ fu () (by omega)
       · intro m s i y ys hy hd ih
         simp only [Qd6.eq_2]
         unfold Qm5
         have hy':ix r.fV i=some y:=by rw [hl]; exact Jep hy
         simp only [hd,cond_true,hx,hy',Qaa,ih (),List.any_cons]
         rw [Jmx x.f8 y.f8]
         cases y.f8==x.f8 <;> rfl
       · intro m s i hd
         simp only [Qd6.eq_2]
         unfold Qm5
         simp only [hd,cond_false]
         rfl
      have e8':Qd6 fu (Qbh fu r n) r (pre.length:Int) fu 0=bif pre.any (λy=>y.f8==x.f8) then some false else Qbh fu r n (w64 ((pre.length:Int)+1)):=e8
      rw [cond_false,e8',ih ()]
      cases pre.any (λy=>y.f8==x.f8) <;> rfl
    · rfl
  · intro n s hd
    simp only [Qbh.eq_2]
    unfold Qnj
    simp only [hd,cond_false,hb]
    rfl
 have e3:∀ b,Qbh fu r fu 0=some b→Qbl fu r fu 0=some (Q8j Typ.f8 [] r.fG&&b):=by
  intro b hb
  refine lpP r.fG (λn (_:Unit) i=>Qbl fu r n i) (λpre l _=>some (Q8j Typ.f8 pre l&&b)) (by omega) ?_ ?_ fu () (by omega)
  · intro n s pre x xs hl hx hd ih
    simp only [Qbl.eq_2]
    unfold Qnn
    simp only [hd,cond_true,Q8j]
    have hpl:pre.length≤r.fG.length:=by rw [hl]; simp
    have e8:Qd7 fu (λi=>Qbl fu r n i) r (pre.length:Int) fu 0=bif pre.any (λy=>y.f8==x.f8) then some false else Qbl fu r n (w64 ((pre.length:Int)+1)):=by
     refine lp pre (λm (_:Unit) i=>Qd7 fu (λi=>Qbl fu r n i) r (pre.length:Int) m i) (λl _=>bif l.any (λy=>y.f8==x.f8) then some false else Qbl fu r n (w64 ((pre.length:Int)+1))) (by omega) ?_ ?_ fu () (by omega)
     · intro m s i y ys hy hd ih
       simp only [Qd7.eq_2]
       unfold Qmi
       have hy':ix r.fG i=some y:=by rw [hl]; exact Jep hy
       simp only [hd,cond_true,hx,hy',Qaa,ih (),List.any_cons]
       rw [Jmx x.f8 y.f8]
       cases y.f8==x.f8 <;> rfl
     · intro m s i hd
       simp only [Qd7.eq_2]
       unfold Qmi
       simp only [hd,cond_false]
       rfl
    have e8':Qd7 fu (Qbl fu r n) r (pre.length:Int) fu 0=bif pre.any (λy=>y.f8==x.f8) then some false else Qbl fu r n (w64 ((pre.length:Int)+1)):=e8
    rw [e8',ih ()]
    cases pre.any (λy=>y.f8==x.f8) <;> rfl
  · intro n s hd
    simp only [Qbl.eq_2]
    unfold Qnn
    simp only [hd,cond_false,hb]
    rfl
 unfold Qqn Q96
 rw [e3 _ (e7 _ e11)]
 congr 1
 cases Q8j Typ.f8 [] r.fG <;> cases Jcc r.fU [] r.fV <;> cases (Qt6 r r.fR).isSome <;> cases r.fT.any λp=>decide (p.fA≥r.fU)||decide (p.fB≥r.fU) <;> rfl
theorem Q9n {α:Type} {l pre xs:List α} {x:α} (h:l=pre++x::xs):sls l 0 (pre.length:Int)=some pre:=by
 rw [Qn6 ⟨by omega,by omega,by rw [h]; simp; omega⟩]
 simp [h]
theorem Jmr {fu:Nat} {r:Request} (h:Sm fu r):Qqa fu r=some (Q96 r):=by
 have hfu:=h.fu
 have h1:=h.items
 have h2:=h.types
 have h3:=h.pairs
 have e4:Qdb fu r fu 0=some (Jcc r.fU [] r.fV&&((Qt6 r r.fR).isSome&&!(r.fT.any λp=>decide (p.fA≥r.fU)||decide (p.fB≥r.fU)))):=by
  refine lpP r.fV (λn (_:Unit) i=>Qdb fu r n i) (λpre l _=>some (Jcc r.fU pre l&&((Qt6 r r.fR).isSome&&!(r.fT.any λp=>decide (p.fA≥r.fU)||decide (p.fB≥r.fU))))) (by omega) ?_ ?_ fu () (by omega)
  · intro n s pre x xs hl hx hd ih
    simp only [Qdb.eq_2]
    unfold Qna Qpo
    have hpl:pre.length≤r.fV.length:=by rw [hl]; simp
    simp only [hd,cond_true,hx,Qaa,Q9n hl,Qzj (λy=>Qrj fu y x) (λy=>y.f8==x.f8) (λy _=>rfl) (show pre.length≤1048576 by omega) (show pre.length<fu by omega),Jcc,ih ()]
    cases decide (x.fM≥r.fU) <;> cases pre.any (λy=>y.f8==x.f8) <;> rfl
  · intro n s hd
    simp only [Qdb.eq_2]
    unfold Qna
    simp only [hd,cond_false,Jfu h,Qaa,Q1p]
    rw [Q4w (λy=>Qlr fu y r) (λp=>decide (p.fA≥r.fU)||decide (p.fB≥r.fU)) (λp _=>by
     unfold Qlr
     cases decide (p.fA≥r.fU) <;> rfl) h3 (by omega),Qaa]
    cases (Qt6 r r.fR).isSome <;> rfl
 have e3:∀ b,Qdb fu r fu 0=some b→Qe1 fu r fu 0=some (Q8j Typ.f8 [] r.fG&&b):=by
  intro b hb
  refine lpP r.fG (λn (_:Unit) i=>Qe1 fu r n i) (λpre l _=>some (Q8j Typ.f8 pre l&&b)) (by omega) ?_ ?_ fu () (by omega)
  · intro n s pre x xs hl hx hd ih
    simp only [Qe1.eq_2]
    unfold Qm2
    have hpl:pre.length≤r.fG.length:=by rw [hl]; simp
    simp only [hd,cond_true,hx,Qaa,Q9n hl,Q3f (λy=>Qrm fu y x) (λy=>y.f8==x.f8) (λy _=>rfl) (show pre.length≤1048576 by omega) (show pre.length<fu by omega),Q8j,ih ()]
    cases pre.any (λy=>y.f8==x.f8) <;> rfl
  · intro n s hd
    simp only [Qe1.eq_2]
    unfold Qm2
    simp only [hd,cond_false,hb]
    rfl
 unfold Qqa Q96
 rw [e3 _ e4]
 congr 1
 cases Q8j Typ.f8 [] r.fG <;> cases Jcc r.fU [] r.fV <;> cases (Qt6 r r.fR).isSome <;> cases r.fT.any λp=>decide (p.fA≥r.fU)||decide (p.fB≥r.fU) <;> rfl
theorem Jk5 {fu:Nat} {l:List Pair} (hl:l.length≤1048576) (hf:l.length<fu) (a b:Int):Qfj fu l a b=some (Qt0 l a b):=by
 unfold Qfj Qt0
 refine lp l (λn (_:Unit) i=>Qf7 fu l a b n i) (λl _=>some (l.any λp=>p.fA==a&&p.fB==b)) (by omega) ?_ ?_ fu () hf
 · intro n s i x xs hx hd ih
   simp only [Qf7.eq_2]
   unfold Qob Ql0
   simp only [hd,cond_true,hx,Qaa,ih (),List.any_cons]
   cases x.fA==a <;> cases x.fB==b <;> rfl
 · intro n s i hd
   simp only [Qf7.eq_2]
   unfold Qob
   simp only [hd,cond_false]
   rfl
theorem Jfk {fu:Nat} {l:List Pair} (hl:l.length≤1048576) (hf:l.length<fu) (a b:Int):Qhp fu l a b=some (Qt0 l a b):=by
 unfold Qhp Qdl Qed Qt0
 have:=Qug l (λn i=>Qba fu l (⟨a,b⟩:Pair) n i) (λp=>p.fA==a&&p.fB==b) (by omega) (by
  intro n i x hx hd
  simp only [Qba.eq_2]
  unfold Qc6
  simp only [hd,cond_true,hx,Qaa]
  have:decide ((⟨a,b⟩:Pair)=x)=(x.fA==a&&x.fB==b):=by
   rcases x with ⟨c,d⟩
   apply Bool.eq_iff_iff.2
   simp only [decide_eq_true_eq,Pair.mk.injEq,Bool.and_eq_true,beq_iff_eq]
   exact ⟨λ⟨h1,h2⟩=>⟨h1.symm,h2.symm⟩,λ⟨h1,h2⟩=>⟨h1.symm,h2.symm⟩⟩
  rw [this]) (by
  intro n i hd
  simp only [Qba.eq_2]
  unfold Qc6
  simp only [hd,cond_false]) fu hf
 rw [this,Qaa,Qui _ l 0 (by omega),Qaa]
theorem Jnd {fu:Nat} {l:List Pair} (hl:l.length≤1048576) (hf:l.length<fu) (h64:64<fu) (c:Int):Qqe fu l c=some (Jc2 l c):=by
 unfold Qqe Jc2
 rw [Q1z,Qaa]
 cases hc:inb c 1 4
 · rfl
 rw [Qcb] at hc
 simp only [Bool.not_true,cond_false,Bool.true_and]
 have e4:∀ (k:Int→Option Bool) (a:Int),Qev fu k l c a fu 0=bif (Qj5 0 c.toNat).all λb=>Qt0 l a b==Qt0 l b a then k (w64 (a+1)) else some false:=by
  intro k a
  refine lpN c (λn (_:Unit) i=>Qev fu k l c a n i) (λxs _=>bif xs.all λb=>Qt0 l a b==Qt0 l b a then k (w64 (a+1)) else some false) (by omega) ?_ ?_ c.toNat fu () 0 (by omega) (by omega) (by omega)
  · intro n s i xs h0 h1 hd ih
    simp only [Qev.eq_2]
    unfold Qnb
    simp only [hd,cond_true,Jfk hl hf,Qaa,ih (),List.all_cons]
    cases Qt0 l a i==Qt0 l i a <;> rfl
  · intro n s i hd
    simp only [Qev.eq_2]
    unfold Qnb
    simp only [hd,cond_false]
    rfl
 refine lpN c (λn (_:Unit) i=>Qfg fu l c n i) (λxs _=>some (xs.all λa=>Qt0 l a a&&(Qj5 0 c.toNat).all λb=>Qt0 l a b==Qt0 l b a)) (by omega) ?_ ?_ c.toNat fu () 0 (by omega) (by omega) (by omega)
 · intro n s i xs h0 h1 hd ih
   simp only [Qfg.eq_2]
   unfold Qmf
   simp only [hd,cond_true,Jfk hl hf,Qaa,e4,ih (),List.all_cons]
   cases Qt0 l i i <;> cases (Qj5 0 c.toNat).all λb=>Qt0 l i b==Qt0 l b i <;> rfl
 · intro n s i hd
   simp only [Qfg.eq_2]
   unfold Qmf
   simp only [hd,cond_false]
   rfl
theorem Jl2 {fu:Nat} {l:List Pair} (hl:l.length≤1048576) (hf:l.length<fu) (h64:64<fu) (c:Int):Qqz fu l c=some (Jc2 l c):=by
 unfold Qqz Jc2
 rw [Q0a,Qaa]
 cases hc:inb c 1 4
 · rfl
 rw [Qcb] at hc
 simp only [Bool.not_true,cond_false,Bool.true_and]
 have e4:∀ (k:Int→Option Bool) (a:Int),Qec fu k l c a fu 0=bif (Qj5 0 c.toNat).all λb=>(!(a==b)||Qt0 l a a)&&(Qt0 l a b==Qt0 l b a) then k (w64 (a+1)) else some false:=by
  intro k a
  refine lpN c (λn (_:Unit) i=>Qec fu k l c a n i) (λxs _=>bif xs.all λb=>(!(a==b)||Qt0 l a a)&&(Qt0 l a b==Qt0 l b a) then k (w64 (a+1)) else some false) (by omega) ?_ ?_ c.toNat fu () 0 (by omega) (by omega) (by omega)
  · intro n s i xs h0 h1 hd ih
    simp only [Qec.eq_2]
    unfold Qnk Qka
    simp only [hd,cond_true,Jk5 hl hf,Qaa,ih (),List.all_cons]
    cases a==i <;> cases Qt0 l a a <;> cases Qt0 l a i==Qt0 l i a <;> rfl
  · intro n s i hd
    simp only [Qec.eq_2]
    unfold Qnk
    simp only [hd,cond_false]
    rfl
 have e9:Qdh fu l c fu 0=some ((Qj5 0 c.toNat).all λa=>(Qj5 0 c.toNat).all λb=>(!(a==b)||Qt0 l a a)&&(Qt0 l a b==Qt0 l b a)):=by
  refine lpN c (λn (_:Unit) i=>Qdh fu l c n i) (λxs _=>some (xs.all λa=>(Qj5 0 c.toNat).all λb=>(!(a==b)||Qt0 l a a)&&(Qt0 l a b==Qt0 l b a))) (by omega) ?_ ?_ c.toNat fu () 0 (by omega) (by omega) (by omega)
  · intro n s i xs h0 h1 hd ih
    simp only [Qdh.eq_2]
    unfold Qni
    simp only [hd,cond_true,e4,ih (),List.all_cons]
    cases (Qj5 0 c.toNat).all λb=>(!(i==b)||Qt0 l i i)&&(Qt0 l i b==Qt0 l b i) <;> rfl
  · intro n s i hd
    simp only [Qdh.eq_2]
    unfold Qni
    simp only [hd,cond_false]
    rfl
 rw [e9]
 congr 1
 apply Bool.eq_iff_iff.2
 simp only [List.all_eq_true,Bool.and_eq_true,Bool.or_eq_true,Bool.not_eq_true',beq_eq_false_iff_ne,beq_iff_eq]
 constructor
 · intro h a ha
   refine ⟨?_,λb hb=>(h a ha b hb).2⟩
   rcases (h a ha a ha).1 with h1 | h1
   · exact absurd rfl h1
   · exact h1
 · intro h a ha b hb
   exact ⟨.inr (h a ha).1,(h a ha).2 b hb⟩
theorem Job {l:List Int} (h:l.length=3):∃ p q s,l=[p,q,s]:=by
 match l,h with
 | [p,q,s],_=>exact ⟨p,q,s,rfl⟩
theorem Jj8 {fu:Nat} (hfu:2097153≤fu) (a b c:Int):Qli fu a b c=some [(sid a b c).1,(sid a b c).2.1,(sid a b c).2.2]:=by
 unfold Qli
 rw [Joc hfu (by simp),Qaa,show [a,b,c].length=3 from rfl]
 have hp:=Qvb (kf [a,b,c]) 3
 have hs:=Qxa (kf [a,b,c]) 3
 obtain ⟨p,q,s,hq⟩:=Job (Qtm (kf [a,b,c]) 3)
 rw [hq] at hp hs ⊢
 have hmem:∀ x∈[p,q,s],0≤x∧x<3:=λx hx=>by
  have:=Qho.1 (hp.mem_iff.1 hx)
  omega
 have k1:=Q52 (keys:=[a,b,c]) (p:=p) (by have:=hmem p (by simp); simpa using this)
 have k2:=Q52 (keys:=[a,b,c]) (p:=q) (by have:=hmem q (by simp); simpa using this)
 have k3:=Q52 (keys:=[a,b,c]) (p:=s) (by have:=hmem s (by simp); simpa using this)
 rw [show ix [p,q,s] 0=some p from rfl,show ix [p,q,s] 1=some q from rfl,show ix [p,q,s] 2=some s from rfl]
 simp only [Qaa,k1,k2,k3]
 have hp3:([a,b,c]).Perm [kf [a,b,c] p,kf [a,b,c] q,kf [a,b,c] s]:=(hp.map (kf [a,b,c])).symm
 simp only [List.pairwise_cons,List.mem_cons,List.not_mem_nil,or_false,forall_eq_or_imp,forall_eq,lx] at hs
 have:=Jie hp3 (by omega) (by omega)
 rw [this]
theorem Jgr {fu:Nat} (hfu:2097153≤fu) (x:Item) (t:Typ):Qps fu x t=some (Q0d x t):=by
 unfold Qps Q0d
 rw [Jj8 hfu,Jj8 hfu]
 simp only [Qaa]
 have e0:∀ a b c:Int,ix [a,b,c] 0=some a:=λ_ _ _=>rfl
 have e1:∀ a b c:Int,ix [a,b,c] 1=some b:=λ_ _ _=>rfl
 have e2:∀ a b c:Int,ix [a,b,c] 2=some c:=λ_ _ _=>rfl
 simp only [e0,e1,e2,Qaa]
 cases decide ((sid x.fW x.fH x.fD).1≤(sid t.fW t.fH t.fD).1) <;> cases decide ((sid x.fW x.fH x.fD).2.1≤(sid t.fW t.fH t.fD).2.1) <;> cases decide ((sid x.fW x.fH x.fD).2.2≤(sid t.fW t.fH t.fD).2.2) <;> rfl
theorem Q80 (a b c:Int):Q28 [a,b,c]=some [(sid a b c).1,(sid a b c).2.1,(sid a b c).2.2]:=by
 unfold Q28
 rw [if_pos (by simp)]
 have hp:=List.mergeSort_perm [a,b,c] (λx y=>decide (x≤y))
 have hs:=Qu7 [a,b,c]
 obtain ⟨p,q,s,hq⟩:=Job (hp.length_eq)
 rw [hq] at hp hs ⊢
 simp only [List.pairwise_cons,List.mem_cons,List.not_mem_nil,or_false,forall_eq_or_imp,forall_eq] at hs
 rw [Jie hp.symm (by omega) (by omega)]
theorem Jjb (fu:Nat) (x:Item) (t:Typ):Qso fu x t=some (Q0d x t):=by
 unfold Qso Qtu Qcl Q0d
 rw [Q80,Q80]
 have e0:∀ a b c:Int,ix [a,b,c] 0=some a:=λ_ _ _=>rfl
 have e1:∀ a b c:Int,ix [a,b,c] 1=some b:=λ_ _ _=>rfl
 have e2:∀ a b c:Int,ix [a,b,c] 2=some c:=λ_ _ _=>rfl
 simp only [Qaa,e0,e1,e2]
 cases decide ((sid x.fW x.fH x.fD).1≤(sid t.fW t.fH t.fD).1) <;> cases decide ((sid x.fW x.fH x.fD).2.1≤(sid t.fW t.fH t.fD).2.1) <;> cases decide ((sid x.fW x.fH x.fD).2.2≤(sid t.fW t.fH t.fD).2.2) <;> rfl
theorem Q0f {fu:Nat} {r:Request} (h:Sm fu r):Qd8 fu r=some (Qhh r):=by
 have hfu:=h.fu
 have h1:=h.items
 have h2:=h.types
 have h3:=h.pairs
 have e4:Qfl fu r fu 0=some (bif r.fG.any (Q8l r.fJ) then 6 else 0):=by
  refine lp r.fG (λn (_:Unit) i=>Qfl fu r n i) (λl _=>some (bif l.any (Q8l r.fJ) then 6 else 0)) (by omega) ?_ ?_ fu () (by omega)
  · intro n s i x xs hx hd ih
    simp only [Qfl.eq_2]
    unfold Qp8 Qsw
    simp only [hd,cond_true,hx,Qaa,ih (),List.any_cons,Q8l]
    cases decide (x.fW>r.fJ.fW) <;> cases decide (x.fD>r.fJ.fD) <;> cases decide (x.fH>r.fJ.fH) <;> cases decide (w64 (x.fK+x.fQ)>r.fJ.fQ) <;> rfl
  · intro n s i hd
    simp only [Qfl.eq_2]
    unfold Qp8
    simp only [hd,cond_false]
    rfl
 unfold Qd8 Qhh
 rw [Jlp h,Qaa,Jm5 h,Qaa,Jl2 h3 (by omega) (by omega),Qaa,Q9b h,Qaa]
 have e1:Qg4 fu r (Qyf (Qt6 r r.fR)) fu 0=some (bif !(r.fV.all λx=>Q0d x (Qxl r)) then 5 else bif r.fG.any (Q8l r.fJ) then 6 else 0):=by
  refine lp r.fV (λn (_:Unit) i=>Qg4 fu r (Qyf (Qt6 r r.fR)) n i) (λl _=>some (bif !(l.all λx=>Q0d x (Qxl r)) then 5 else bif r.fG.any (Q8l r.fJ) then 6 else 0)) (by omega) ?_ ?_ fu () (by omega)
  · intro n s i x xs hx hd ih
    simp only [Qg4.eq_2]
    unfold Qp1
    simp only [hd,cond_true,hx,Qaa,Jgr hfu,ih (),List.all_cons]
    rw [show (Qyf (Qt6 r r.fR)).1=Qxl r from rfl]
    cases Q0d x (Qxl r) <;> rfl
  · intro n s i hd
    simp only [Qg4.eq_2]
    unfold Qp1
    simp only [hd,cond_false,e4]
    rfl
 rw [e1]
 cases Q5a r <;> cases Q96 r <;> cases Jc2 r.fT r.fU <;> rfl
theorem Jjy {fu:Nat} {r:Request} (h:Sm fu r):Qq2 fu r=some (Qhh r):=by
 have hfu:=h.fu
 have h1:=h.items
 have h2:=h.types
 have h3:=h.pairs
 unfold Qq2 Qhh
 rw [Jfu h,Qaa,Jns h,Qaa,Jmr h,Qaa,Jnd h3 (by omega) (by omega),Qaa]
 rw [Qzj (λy=>Qqs fu y (Qyf (Qt6 r r.fR)).1) (λx=>!Q0d x (Qxl r)) (λx _=>by
  unfold Qqs
  rw [Jjb,Qaa]; rfl) h1 (by omega),Qaa]
 rw [Q3f (λy=>Qqc fu y r.fJ) (Q8l r.fJ) (λx _=>by
  unfold Qqc Q8l
  cases decide (x.fW>r.fJ.fW) <;> cases decide (x.fD>r.fJ.fD) <;> cases decide (x.fH>r.fJ.fH) <;> rfl) h2 (by omega),Qaa]
 rw [show (r.fV.any λx=>!Q0d x (Qxl r))=!(r.fV.all λx=>Q0d x (Qxl r)) by simp [List.not_all_eq_any_not]]
 cases Q5a r <;> cases Q96 r <;> cases Jc2 r.fT r.fU <;> cases r.fV.all λx=>Q0d x (Qxl r) <;> cases r.fG.any (Q8l r.fJ) <;> rfl
theorem Qux {fu:Nat} {r:Request} (h:Sm fu r):Qfq fu r=some (Qhh r==0):=by
 unfold Qfq
 rw [Jjy h]; rfl
theorem Jd7 {σ α β:Type} (l:List α) (L:Nat→σ→Int→Option β) (F:List α→List α→σ→Option β) (I:List α→List α→σ→Prop) (hl:l.length≤1099511627776)
    (hs:∀ n s pre x xs,l=pre++x::xs→ix l (pre.length:Int)=some x→decide ((pre.length:Int)<(l.length:Int))=true→I pre (x::xs) s→(∀ s',I (pre++[x]) xs s'→L n s' (w64 ((pre.length:Int)+1))=F (pre++[x]) xs s')→L (n+1) s (pre.length:Int)=F pre (x::xs) s)
    (he:∀ n s,decide ((l.length:Int)<(l.length:Int))=false→I l [] s→L (n+1) s (l.length:Int)=F l [] s):∀ n s,I [] l s→l.length<n→L n s 0=F [] l s:=by
 have key:∀ (xs pre:List α) (n:Nat) (s:σ),l=pre++xs→I pre xs s→xs.length<n→L n s (pre.length:Int)=F pre xs s:=by
  intro xs
  induction xs with
  | nil =>
   intro pre n s he' hI hn
   obtain ⟨n,rfl⟩:∃ k,n=k+1:=⟨n - 1,by omega⟩
   simp only [List.append_nil] at he'
   subst he'
   exact he n s (by simp) hI
  | cons x xs ih =>
   intro pre n s he' hI hn
   obtain ⟨n,rfl⟩:∃ k,n=k+1:=⟨n - 1,by simp at hn; omega⟩
   have hlen:l.length=pre.length+(xs.length+1):=by rw [he']; simp
   refine hs n s pre x xs he' ?_ (by simp; omega) hI λs' hI'=>?_
   · rw [Qh2,he']; simp
   · rw [Qx6 _ (by omega)]
     have:=ih (pre++[x]) n s' (by simp [he']) hI' (by simp at hn; omega)
     simpa using this
 intro n s hI hn
 simpa using key l [] n s rfl hI hn
theorem Qy9 {x:Item} (h:Qyb x=true):1≤x.fF∧x.fF≤6:=by
 simp only [Qyb,Bool.and_eq_true,Qcb] at h
 omega
theorem Jes {xs:List Item} (h:∀ x∈xs,Qyb x=true):0≤Qxt (xs.map (·.fF)):=Jap _ _ λx hx=>by have:=Qy9 (h x hx); omega
theorem Jly {fu:Nat} {r:Request} (h:Sm fu r) (hb:Q5a r=true):Qcr fu r=some (l6M r):=by
 have hfu:=h.fu
 obtain ⟨hi,hs,hl⟩:=Qsp hb
 have e4:∀ (k:List Int→Int→Option (List Int)) (i:Int) (x:Item),ix r.fV i=some x→∀ (m n:Nat) (c:Int) (out:List Int),0≤c→c≤x.fF→(x.fF - c).toNat=m→x.fF≤6→m<n→out.length+m≤100 →
     Qgw fu k r i n out c=k (out++List.replicate m i) (w64 (i+1)):=by
  intro k i x hx m
  induction m with
  | zero =>
   intro n c out h0 h1 h2 h3 h4 h5
   obtain ⟨n,rfl⟩:∃ j,n=j+1:=⟨n - 1,by omega⟩
   rw [Qgw.eq_2]
   unfold Qmu
   rw [hx,Qaa,Qaf (by simp; omega)]
   simp
  | succ m ih =>
   intro n c out h0 h1 h2 h3 h4 h5
   obtain ⟨n,rfl⟩:∃ j,n=j+1:=⟨n - 1,by omega⟩
   rw [Qgw.eq_2]
   unfold Qmu
   rw [hx,Qaa,Qao (by simp; omega),ap1 (by simp; omega),Qaa,Qam (by omega) (by omega),ih n (c+1) (out++[i]) (by omega) (by omega) (by omega) h3 (by omega) (by simp; omega)]
   rw [List.append_assoc,List.singleton_append,← List.replicate_succ]
 unfold Qcr l6M
 have:=Jd7 r.fV (λn out i=>Qd9 fu r n out i) (λpre xs out=>some (out++Q76 (pre.length:Int) xs)) (λpre xs out=>(out.length:Int)+Qxt (xs.map (·.fF))≤12∧∀ x∈xs,Qyb x=true) (by omega) ?_ ?_ fu [] ⟨by simpa using hs,hi⟩ (by omega)
 · simpa using this
 · intro n out pre x xs hl' hx hd hI ih
   simp only [Qd9.eq_2]
   unfold Qme
   have hc:=Qy9 (hI.2 x (by simp))
   have hsum:=hI.1
   have hnn:=Jes (λy hy=>hI.2 y (by simp [hy]):∀ y∈xs,Qyb y=true)
   simp only [List.map_cons,Qq3] at hsum
   have e:=e4 (Qd9 fu r n) (pre.length:Int) x hx x.fF.toNat fu 0 out (by omega) (by omega) (by omega) (by omega) (by omega) (by omega)
   rw [hd,cond_true,e,ih _ ⟨by simp; omega,λy hy=>hI.2 y (by simp [hy])⟩]
   simp [Q76]
 · intro n out hd hI
   simp only [Qd9.eq_2]
   unfold Qme
   simp only [hd,cond_false]
   simp [Q76]
theorem Ji4 {fu:Nat} {r:Request} (h:Sm fu r) (hc:Qhh r=0):Qcr fu r=some (Qi4 r):=by
 unfold Qi4
 rw [Jly h (Qfn hc).1,Qao (by simp [hc])]
theorem Jl3 {fu:Nat} {r:Request} (h:Sm fu r):Qti fu r=some (Qi4 r):=by
 unfold Qti Qi4
 rw [Q0f h,Qaa]
 by_cases hc:Qhh r=0
 · rw [Qaf (by simp [hc]),Jly h (Qfn hc).1,Qaa,Qao (by simp [hc])]
 · rw [Qao (by simp [hc]),Qaf (by simp [hc])]
theorem Joj (fu:Nat) (c:Int) (h:1≤c∧c≤6):Qw2 fu (IntKind.wrap .u64 1) (IntKind.wrap .u64 c)=some (0,c):=by
 have:c=1∨c=2∨c=3∨c=4∨c=5∨c=6:=by omega
 rcases this with rfl | rfl | rfl | rfl | rfl | rfl <;> rfl
theorem Jl1 (m:Nat) (i:Int):Qbp (m+10) [i] (0,1)=some (List.replicate 1 i):=by kernel_rfl
theorem Jmw (m:Nat) (i:Int):Qbp (m+10) [i] (0,2)=some (List.replicate 2 i):=by kernel_rfl
theorem Jm1 (m:Nat) (i:Int):Qbp (m+10) [i] (0,3)=some (List.replicate 3 i):=by kernel_rfl
theorem Jlw (m:Nat) (i:Int):Qbp (m+10) [i] (0,4)=some (List.replicate 4 i):=by kernel_rfl
theorem Jnr (m:Nat) (i:Int):Qbp (m+10) [i] (0,5)=some (List.replicate 5 i):=by kernel_rfl
theorem Jnh (m:Nat) (i:Int):Qbp (m+10) [i] (0,6)=some (List.replicate 6 i):=by kernel_rfl
theorem Jod {fu:Nat} (hfu:10≤fu) (i c:Int) (h:1≤c∧c≤6):Qgi fu [i] c=some (List.replicate c.toNat i):=by
 unfold Qgi Qhe
 rw [Qaf (by simp; omega)]
 rw [show (([i]:List Int).length:Int)=1 from rfl,Joj fu c h,Qaa,Qaf (by simp),Qaf (by simp; omega)]
 obtain ⟨m,rfl⟩:∃ m,fu=m+10:=⟨fu - 10,by omega⟩
 have:c=1∨c=2∨c=3∨c=4∨c=5∨c=6:=by omega
 rcases this with rfl | rfl | rfl | rfl | rfl | rfl
 · exact Jl1 m i
 · exact Jmw m i
 · exact Jm1 m i
 · exact Jlw m i
 · exact Jnr m i
 · exact Jnh m i
theorem Jfr {fu:Nat} {r:Request} (h:Sm fu r):Qno fu r=some (Qi4 r):=by
 have hfu:=h.fu
 unfold Qno Qi4
 rw [Qux h,Qaa]
 by_cases hc:Qhh r=0
 · obtain ⟨hi,hs,hl⟩:=Qsp (Qfn hc).1
   rw [Qaf (by simp [hc]),Qao (by simp [hc])]
   unfold l6M
   have:=Jd7 r.fV (λn out i=>Qh1 fu r n out i) (λpre xs out=>some (out++Q76 (pre.length:Int) xs)) (λpre xs out=>(out.length:Int)+Qxt (xs.map (·.fF))≤12∧∀ x∈xs,Qyb x=true) (by omega) ?_ ?_ fu [] ⟨by simpa using hs,hi⟩ (by omega)
   · simpa using this
   · intro n out pre x xs hl' hx hd hI ih
     simp only [Qh1.eq_2]
     unfold Qp5
     have hc:=Qy9 (hI.2 x (by simp))
     have hsum:=hI.1
     have hnn:=Jes (λy hy=>hI.2 y (by simp [hy]):∀ y∈xs,Qyb y=true)
     simp only [List.map_cons,Qq3] at hsum
     rw [hd,cond_true,hx,Qaa,Jod (by omega) _ _ hc,Qaa,ap1 (by simp; omega),Qaa,ih _ ⟨by simp; omega,λy hy=>hI.2 y (by simp [hy])⟩]
     simp [Q76]
   · intro n out hd hI
     simp only [Qh1.eq_2]
     unfold Qp5
     simp only [hd,cond_false]
     simp [Q76]
 · rw [Qao (by simp [hc]),Qaf (by simp [hc])]
theorem Jic {fu:Nat} {l:List Int} (hl:l.length≤1048576) (hf:l.length<fu) (x:Int):Qq1 fu l x=some (l.contains x):=by
 unfold Qq1
 refine lp l (λn (_:Unit) i=>Qhx fu l x n i) (λl _=>some (l.contains x)) (by omega) ?_ ?_ fu () hf
 · intro n s i y ys hy hd ih
   simp only [Qhx.eq_2]
   unfold Qpk
   simp only [hd,cond_true,hy,Qaa,ih (),List.contains_cons]
   rw [Jmx y x]
   cases x==y <;> rfl
 · intro n s i hd
   simp only [Qhx.eq_2]
   unfold Qpk
   simp only [hd,cond_false]
   rfl
theorem Jlv {fu:Nat} {l:List Int} (hl:l.length≤1048576) (hf:l.length<fu) (x:Int):Qfk fu l x=some (l.contains x):=by
 unfold Qfk Qiy
 have:=Qug l (λn i=>Qct fu l x n i) (λy=>x==y) (by omega) (by
  intro n i y hx hd
  simp only [Qct.eq_2]
  unfold Qhb
  simp only [hd,cond_true,hx,Qaa]) (by
  intro n i hd
  simp only [Qct.eq_2]
  unfold Qhb
  simp only [hd,cond_false]) fu hf
 rw [this,Qaa,Qui _ l 0 (by omega),List.contains_eq_any_beq]
theorem Ji1 {fu:Nat} {p:List Pair} (hp:p.length≤1048576) (hpf:p.length<fu) {g:List Int} (hl:g.length≤1048576) (hf:g.length<fu) (c:Int):Qqx fu p g c=some (g.all (Q12 p c)):=by
 unfold Qqx
 refine lp g (λn (_:Unit) i=>Qe7 fu p g c n i) (λl _=>some (l.all (Q12 p c))) (by omega) ?_ ?_ fu () hf
 · intro n s i y ys hy hd ih
   simp only [Qe7.eq_2]
   unfold Qm0 Qpy
   simp only [hd,cond_true,hy,Qaa,ih (),Jk5 hp hpf,List.all_cons,Q12]
   cases Qt0 p y c <;> cases Qt0 p c y <;> rfl
 · intro n s i hd
   simp only [Qe7.eq_2]
   unfold Qm0
   simp only [hd,cond_false]
   rfl
theorem Jm3 {fu:Nat} {r:Request} (h:Sm fu r):Qqt fu r=some (Q40 r):=by
 have hfu:=h.fu
 have h1:=h.items
 unfold Qqt Q40
 rw [Q0f h,Qaa]
 by_cases hc:Qhh r=0
 · rw [show (Qhh r != 0)=false by simp [hc],show (Qhh r==0)=true by simp [hc],cond_false,cond_true]
   have e27:∀ (k:List Int→Int→Option (List Int)) (out:List Int) (c:Int),Qd5 fu k r out c fu false 0=bif r.fV.any (λx=>x.fM==c) then (Qab (Qc7 8 out [c]) λx=>k x (w64 (c+1))) else k out (w64 (c+1)):=by
    intro k out c
    refine lp r.fV (λn f i=>Qd5 fu k r out c n f i) (λl f=>bif f||l.any (λx=>x.fM==c) then (Qab (Qc7 8 out [c]) λx=>k x (w64 (c+1))) else k out (w64 (c+1))) (by omega) ?_ ?_ fu false (by omega)
    · intro n f i x xs hx hd ih
      simp only [Qd5.eq_2]
      unfold Qmy Qj7
      simp only [hd,cond_true,hx,Qaa,ih,List.any_cons]
      cases f
      · rfl
      · rfl
    · intro n f i hd
      simp only [Qd5.eq_2]
      unfold Qmy Qj4
      simp only [hd,cond_false,List.any_nil,Bool.or_false]
   have:=Q8h 4 (λn out i=>Qc8 fu r n out i) (λxs out=>some (out++xs.filter λc=>r.fV.any λx=>x.fM==c)) (λxs out=>out.length+xs.length≤4) (by omega) ?_ ?_ 4 fu [] 0 (by omega) (by omega) (by omega) (by simp [Qj5])
   · simpa using this
   · intro n out i xs h0 h1 hd hI ih
     simp only [List.length_cons] at hI
     simp only [Qc8.eq_2]
     unfold Qmc
     simp only [hd,cond_true,e27]
     cases hb:r.fV.any λx=>x.fM==i
     · rw [cond_false,ih out (by omega)]
       simp [hb]
     · rw [cond_true,ap1 (by simp; omega),Qaa,ih _ (by simp; omega)]
       simp [hb]
   · intro n out i hd hI
     simp only [Qc8.eq_2]
     unfold Qmc
     simp only [hd,cond_false]
     simp
 · rw [show (Qhh r != 0)=true by simp [hc],show (Qhh r==0)=false by simp [hc],cond_false,cond_true]
theorem Q98 {fu:Nat} {l:List Int} (hl:l.length≤1048576):∃ k,Qjf fu l=some k∧k.Pairwise (·<·)∧∀ x,x∈k↔x∈l:=by
 unfold Qjf Qcx Qcl Qib
 have hp:=List.mergeSort_perm l (λx y=>decide (x≤y))
 have hs:=Qu7 l
 rw [ap1 (by simp; omega),Qaa,Qaa,List.nil_append]
 unfold Q28
 rw [if_pos (by omega),Qaa]
 unfold Jld
 rw [if_pos (by rw [hp.length_eq]; omega),Qaa]
 obtain ⟨h1,h2⟩:=Q0t _ hs
 exact ⟨_,rfl,h1,λx=>(h2 x).trans hp.mem_iff⟩
theorem Q0x {fu:Nat} {l:List Int} (hl:l.length≤1048576) (hs:l.Pairwise (·<·)):Qjf fu l=some l:=by
 obtain ⟨k,h1,h2,h3⟩:=Q98 (fu:=fu) hl
 rw [h1,Jb4 h2 hs h3]
theorem Jlm {fu:Nat} {r:Request} (h:Sm fu r):Qqp fu r=some (Q40 r):=by
 have hfu:=h.fu
 have h1:=h.items
 unfold Qqp
 rw [Qux h,Qaa]
 by_cases hc:Qhh r=0
 · rw [show (Qhh r==0)=true by simp [hc],Bool.not_true,cond_false]
   have:=lpI r.fV (λn out i=>Qgz fu r n out i) (λxs out=>Qab (Qjf fu (out++xs.map (·.fM))) λx=>some x) (λxs out=>out.length+xs.length≤1048576) (by omega) ?_ ?_ fu [] (by simpa using h1) (by omega)
   · rw [List.nil_append] at this
     refine this.trans ?_
     obtain ⟨k,e1,e2,e3⟩:=Q98 (fu:=fu) (l:=r.fV.map (·.fM)) (by simpa using h1)
     rw [e1,Qaa]
     congr 1
     refine Jb4 e2 (Qvx r) λx=>?_
     rw [e3]
     unfold Q40
     rw [show (Qhh r==0)=true by simp [hc],cond_true,List.mem_filter,Qho,List.any_eq_true,List.mem_map]
     constructor
     · rintro ⟨y,hy,rfl⟩
       have:=(Qsp (Qfn hc).1).1 y hy
       simp only [Qyb,Bool.and_eq_true,Qcb] at this
       exact ⟨by omega,y,hy,by simp⟩
     · rintro ⟨_,y,hy,e⟩
       exact ⟨y,hy,by simpa using e⟩
   · intro n out i x xs hx hd hI ih
     simp only [List.length_cons] at hI
     simp only [Qgz.eq_2]
     unfold Qm3
     simp only [hd,cond_true,hx,Qaa]
     rw [ap1 (by simp; omega),Qaa,ih _ (by simp; omega)]
     simp
   · intro n out i hd hI
     simp only [Qgz.eq_2]
     unfold Qm3
     simp only [hd,cond_false]
     simp
 · rw [show (Qhh r==0)=false by simp [hc],Bool.not_false,cond_true]
   unfold Q40
   rw [show (Qhh r==0)=false by simp [hc],cond_false]
theorem Q4p {α:Type} (g:α→Bool) (x:α):∀ (l:List α),Qyo g (l++[x])=match Qyo g l with | some i=>some i | none=>bif g x then some l.length else none
 | []=>by simp [Qyo]
 | y::ys=>by
  simp only [List.cons_append,Qyo]
  cases g y
  · simp only [cond_false]
    rw [Q4p g x ys]
    cases Qyo g ys <;> simp
    cases g x <;> simp
  · rfl
def atB {α:Type} (g:α→Bool) (l:List α) (i:Int):Bool:=match ix l i with | some x=>g x | none=>false
def Jd6 {α:Type} (g:α→Bool) (l:List α) (a i:Int):Int:=bif atB g l i then i else a
theorem Qzd {α:Type} (g:α→Bool) (l:List α):∀ (m:Nat) (a:Int),m≤l.length→(Qvh m).foldl (Jd6 g l) a=match Qyo g (l.take m) with | some i=>(i:Int) | none=>a
 | 0,a,_=>by simp [Qvh,Qyo]
 | m+1,a,h=>by
  simp only [Qvh,List.foldl_cons]
  rw [Qzd g l m _ (by omega),List.take_succ_eq_append_getElem (by omega),Q4p,List.length_take,Nat.min_eq_left (by omega)]
  unfold Jd6 atB
  rw [Qy1 (by omega)]
  cases Qyo g (l.take m) with
  | some i=>rfl
  | none =>
   simp only
   cases g l[m] <;> rfl
theorem Q2z {α:Type} (g:α→Bool):∀ (l:List α) (i:Int),Qxm g l i=match Qyo g l with | some j=>i+j | none=>-1
 | [],i=>rfl
 | x::xs,i=>by
  simp only [Qxm,Qyo]
  cases g x
  · simp only [cond_false]
    rw [Q2z g xs (i+1)]
    cases Qyo g xs with
    | none=>rfl
    | some j =>
     show i+1+(j:Int)=i+((j+1:Nat):Int)
     omega
  · simp
theorem Jeh {p:List Pair} {out:List (List Int)} {c:Int} {n:Nat} (h:okG n out) (hn:n≤1048576) {β:Type} (k:List (List Int)→Option β) (a:Int) (ha:a=match Qyo (λg=>g.all (Q12 p c)) out with | some i=>(i:Int) | none=>-1) :
    (bif (decide (a<0)) then Qab (Qc7 24 out [([c]:List Int)]) λx=>k x else Qab (ix out a) λx=>Qab (Qc7 8 x (([c]:List Int))) λy=>Qab (ix out a) λz=>k (Qi1 out a y))=k (Q9j p out c):=by
 obtain ⟨h1,h2⟩:=h
 unfold Q9j
 cases hf:Qyo (λg=>g.all (Q12 p c)) out with
 | none =>
  rw [hf] at ha
  simp only at ha
  subst ha
  rw [Qao (by simp),ap1 (by simp; omega),Qaa]
 | some i =>
  rw [hf] at ha
  simp only at ha
  subst ha
  obtain ⟨x,hx,_⟩:=Qzm hf
  have:=h2 x (List.mem_of_getElem? hx)
  rw [Qaf (by simp),Qh2,hx,Qaa,ap1 (by simp; omega),Qaa,Qaa]
  simp [Qi1,hx]
theorem Jkx {fu:Nat} {p:List Pair} (hp:p.length≤1048576) (hfu:2097153≤fu) {l:List Int} (hl:l.length≤1048576):Qr2 fu p l=some (((Qj5 0 4).filter l.contains).foldl (Q9j p) []):=by
 unfold Qr2
 have e27:∀ (k:List (List Int)→Int→Option (List (List Int))) (out:List (List Int)) (c:Int),okG 4 out→Qep fu k p out c fu (-1) (w64 ((out.length:Int) - 1))=k (Q9j p out c) (w64 (c+1)):=by
  intro k out c ho
  obtain ⟨R,hR⟩:∃ R:Int→Option (List (List Int)),R=λa=>bif (decide (a<0)) then Qab (Qc7 24 out [([c]:List Int)]) λx=>k x (w64 (c+1)) else Qab (ix out a) λx=>Qab (Qc7 8 x (([c]:List Int))) λy=>Qab (ix out a) λz=>k (Qi1 out a y) (w64 (c+1)):=⟨_,rfl⟩
  have:=lpD out.length (λn a i=>Qep fu k p out c n a i) (λxs a=>R (xs.foldl (Jd6 (λg=>g.all (Q12 p c)) out) a)) (by have:=ho.1; omega) ?_ ?_ fu (-1) (by have:=ho.1; omega)
  · rw [this,hR]
    refine Jeh (p:=p) ho (by omega) (λx=>k x (w64 (c+1))) _ ?_
    rw [Qzd (λg=>g.all (Q12 p c)) out out.length (-1) (Nat.le_refl _),List.take_length]
  · intro n a i xs h0 h1 hd ih
    simp only [Qep.eq_2]
    unfold Qo4 Qlw
    obtain ⟨j,rfl⟩:∃ j:Nat,i=j:=⟨i.toNat,by omega⟩
    have hj:j<out.length:=by omega
    have hg:=ho.2 _ (List.getElem_mem hj)
    simp only [hd,cond_true,Qy1 hj,Qaa,Ji1 hp (by omega) (show out[j].length≤1048576 by omega) (show out[j].length<fu by omega),ih,List.foldl_cons]
    have e:Jd6 (λg=>g.all (Q12 p c)) out a (j:Int)=bif out[j].all (Q12 p c) then (j:Int) else a:=by unfold Jd6 atB; rw [Qy1 hj]
    rw [e]
    cases out[j].all (Q12 p c) <;> rfl
  · intro n a i hd
    simp only [Qep.eq_2]
    unfold Qo4 Qhk
    simp only [hd,cond_false,List.foldl_nil,hR]
 have:=Q8h 4 (λn out i=>Qd0 fu p l n out i) (λxs out=>some ((xs.filter l.contains).foldl (Q9j p) out)) (λxs out=>∃ m,m+xs.length≤4∧okG m out) (by omega) ?_ ?_ 4 fu [] 0 (by omega) (by omega) (by omega) ⟨0,by simp [Qj5],by simp,by simp⟩
 · exact this
 · intro n out i xs h0 h1 hd hI ih
   obtain ⟨m,hm,ho⟩:=hI
   simp only [List.length_cons] at hm
   simp only [Qd0.eq_2]
   unfold Qo7 Qhk
   simp only [hd,cond_true,Jic hl (show l.length<fu by omega),Qaa]
   cases hb:l.contains i
   · rw [Bool.not_false,cond_true,ih out ⟨m,by omega,ho⟩,List.filter_cons_of_neg (by rw [hb]; simp)]
   · rw [Bool.not_true,cond_false,e27 _ out i ⟨by have:=ho.1; omega,λg hg=>by have:=ho.2 g hg; omega⟩,ih _ ⟨m+1,by omega,Q5i i ho⟩,List.filter_cons_of_pos hb,List.foldl_cons]
 · intro n out i hd hI
   simp only [Qd0.eq_2]
   unfold Qo7
   simp only [hd,cond_false]
   simp
theorem Q74 (r:Request):(Qj5 0 4).filter (Q40 r).contains=Q40 r :=
 Jb4 ((Qvv 0 4).filter _) (Qvx r) λx=>by
  rw [List.mem_filter,Qho]
  constructor
  · rintro ⟨_,h⟩; simpa using h
  · intro h; have:=Q7q h; exact ⟨by omega,by simpa using h⟩
theorem Jgc {fu:Nat} {r:Request} (h:Sm fu r):Qia fu r=some (Qj1 r):=by
 unfold Qia Qj1
 rw [Jm3 h,Qaa,Jkx h.pairs h.fu (by have:=Q3m r; omega),Qaa,Q74]
theorem Jm7 {fu:Nat} {p:List Pair} (hp:p.length≤1048576) (hpf:p.length<fu) (a b:Int):Qr3 fu p a b=some (Q12 p a b):=by
 unfold Qr3 Q12
 simp only [Jfk hp hpf,Qaa]
 cases Qt0 p a b <;> rfl
theorem Q6f {fu:Nat} {l:List Int} (f:Int→Option Bool) (g:Int→Bool) (hg:∀ x∈l,f x=some (g x)) (hl:l.length≤1048576) (hf:l.length<fu):Qdk fu l f=some (Qxm g l 0):=by
 unfold Qdk
 refine Qug l (λn i=>Qb3 fu l f n i) g (by omega) ?_ ?_ fu hf
 · intro n i x hx hd
   simp only [Qb3.eq_2]
   unfold Qey
   simp only [hd,cond_true,hx,Qaa,hg x (Qi3 hx)]
 · intro n i hd
   simp only [Qb3.eq_2]
   unfold Qey
   simp only [hd,cond_false]
theorem Jdp {fu:Nat} {l:List Int} (f:Int→Option Bool) (g:Int→Bool) (hg:∀ x∈l,f x=some (g x)) (hl:l.length≤1048576) (hf:l.length<fu):Qdz fu l f=some (l.any g):=by
 unfold Qdz
 rw [Q6f f g hg hl hf,Qaa,Qui g l 0 (by omega)]
theorem Q4m {fu:Nat} {l:List (List Int)} (f:List Int→Option Bool) (g:List Int→Bool) (hg:∀ x∈l,f x=some (g x)) (hl:l.length≤1048576) (hf:l.length<fu):Qc4 fu l f=some (Qxm g l 0):=by
 unfold Qc4
 refine Qug l (λn i=>Qbv fu l f n i) g (by omega) ?_ ?_ fu hf
 · intro n i x hx hd
   simp only [Qbv.eq_2]
   unfold Qeq
   simp only [hd,cond_true,hx,Qaa,hg x (Qi3 hx)]
 · intro n i hd
   simp only [Qbv.eq_2]
   unfold Qeq
   simp only [hd,cond_false]
theorem Jkt {fu:Nat} {p:List Pair} (hp:p.length≤1048576) (hfu:2097153≤fu) {l:List Int} (hl:l.length≤4) (hs:l.Pairwise (·<·)) (hm:∀ c∈l,0≤c∧c<4):Qsb fu p l=some (l.foldl (Q9j p) []):=by
 unfold Qsb
 rw [Q0x (by omega) hs,Qaa]
 have:=lpI l (λn out i=>Qeo fu p l n out i) (λxs out=>some (xs.foldl (Q9j p) out)) (λxs out=>(∃ m,m+xs.length≤4∧okG m out)∧∀ c∈xs,0≤c∧c<4) (by omega) ?_ ?_ fu [] ⟨⟨0,by simpa using hl,by simp,by simp⟩,hm⟩ (by omega)
 · exact this
 · intro n out i c xs hx hd hI ih
   obtain ⟨⟨m,hm,ho⟩,hc⟩:=hI
   simp only [List.length_cons] at hm
   have hc0:=hc c (by simp)
   simp only [Qeo.eq_2]
   unfold Qnv Qiq
   simp only [hd,cond_true,hx,Qaa,Q1z]
   rw [show inb c 0 3=true by simp; omega,Bool.not_true,cond_false]
   rw [Q4m (λy=>Qn7 fu y p c) (λg=>g.all (Q12 p c)) (λg hg=>by
    have hgl:=ho.2 g hg
    unfold Qn7
    rw [Jdp (λy=>Qkd fu y p c) (λx=>!Q12 p c x) (λx _=>by
     unfold Qkd
     rw [Jm7 hp (by omega),Qaa]) (by omega) (by omega),Qaa]
    simp [List.any_eq_not_all_not]) (by have:=ho.1; omega) (by have:=ho.1; omega),Qaa]
   rw [Jeh (p:=p) ho (by omega) (λx=>Qeo fu p l n x (w64 (i+1))) (Qxm (λg=>g.all (Q12 p c)) out 0) (by
    rw [Q2z]
    cases Qyo (λg=>g.all (Q12 p c)) out <;> simp)]
   rw [ih _ ⟨⟨m+1,by omega,Q5i c ho⟩,λy hy=>hc y (by simp [hy])⟩]
   rfl
 · intro n out i hd hI
   simp only [Qeo.eq_2]
   unfold Qnv
   simp only [hd,cond_false]
   rfl
theorem Jfn {fu:Nat} {r:Request} (h:Sm fu r):Qic fu r=some (Qj1 r):=by
 unfold Qic
 rw [Qux h,Qaa]
 by_cases hc:Qhh r=0
 · rw [show (Qhh r==0)=true by simp [hc],Bool.not_true,cond_false,Jlm h,Qaa,Jkt h.pairs h.fu (Q3m r) (Qvx r) (λc hc=>Q7q hc),Qaa]
   rfl
 · rw [show (Qhh r==0)=false by simp [hc],Bool.not_false,cond_true]
   unfold Qj1 Q40
   rw [show (Qhh r==0)=false by simp [hc],cond_false]
   rfl
theorem Q89 (r:Request):w64 (((Qj1 r).length:Int) - 1)=((Qj1 r).length:Int) - 1:=by
 have:=(Qu3 r).1
 exact Qam (by omega) (by omega)
theorem Jdb {fu:Nat} (n:Nat) (hn:n≤1048576) (hf:n<fu):Qsg fu (n:Int)=some (Qj5 0 n):=by
 unfold Qsg
 have:=Q8h (n:Int) (λk out i=>Qhl fu (n:Int) k out i) (λxs out=>some (out++xs)) (λxs out=>out.length+xs.length≤1048576) (by omega) ?_ ?_ n fu [] 0 (by omega) (by omega) hf (by simpa [Qbx] using hn)
 · simpa using this
 · intro k out i xs h0 h1 hd hI ih
   simp only [List.length_cons] at hI
   simp only [Qhl.eq_2]
   unfold Qof
   rw [hd,cond_true,ap1 (by simp; omega),Qaa,ih _ (by simp; omega)]
   simp
 · intro k out i hd hI
   simp only [Qhl.eq_2]
   unfold Qof
   simp only [hd,cond_false]
   simp
theorem Jao {α:Type} (g:α→Bool):∀ (l pre:List α),(Qxm g l pre.length=-1∧∀ x∈l,g x=false)∨(∃ a x b,l=a++x::b∧(∀ y∈a,g y=false)∧g x=true∧Qxm g l pre.length=((pre.length+a.length:Nat):Int))
 | [],pre=>.inl ⟨rfl,by simp⟩
 | x::xs,pre=>by
  simp only [Qxm]
  by_cases hx:g x=true
  · rw [hx,cond_true]; exact .inr ⟨[],x,xs,rfl,by simp,hx,by simp⟩
  · have hx':g x=false:=by simpa using hx
    rw [hx',cond_false]
    have:=Jao g xs (pre++[x])
    simp only [List.length_append,List.length_singleton] at this
    rw [show ((pre.length+1:Nat):Int)=(pre.length:Int)+1 by omega] at this
    rcases this with ⟨h1,h2⟩ | ⟨a,y,b,h1,h2,h3,h4⟩
    · exact .inl ⟨h1,by simpa [hx'] using h2⟩
    · exact .inr ⟨x::a,y,b,by simp [h1],by simpa [hx'] using h2,h3,by rw [h4]; simp; omega⟩
theorem Jnj {fu:Nat} {l:List Int} (f:Int→Option Bool) (g:Int→Bool) (hg:∀ x∈l,f x=some (g x)) (hl:l.length≤1048576) (hf:l.length<fu):Qej fu l f=some (l.filter λx=>!g x):=by
 unfold Qej
 rw [Q6f f g hg hl hf,Qaa]
 have hp:=Jao g l []
 simp only [List.length_nil,Nat.zero_add] at hp
 rcases hp with ⟨h1,h2⟩ | ⟨a,x,b,h1,h2,h3,h4⟩
 · have h1':Qxm g l 0=-1:=h1
   rw [h1',Qao (by simp)]
   congr 1
   exact (List.filter_eq_self.2 λy hy=>by simp [h2 y hy]).symm
 · have h4':Qxm g l 0=(a.length:Int):=h4
   rw [h4',Qaf (by simp)]
   have key:∀ (rest kept mid pre:List Int) (n:Nat),l=pre++rest→kept=pre.filter (λx=>!g x)→mid≠[]→kept.length+mid.length=pre.length→rest.length<n →
       Qbk fu f n (kept++mid++rest) (kept.length:Int) (pre.length:Int)=some (l.filter λx=>!g x):=by
    intro rest
    induction rest with
    | nil =>
     intro kept mid pre n e1 e2 e3 e4 hn
     obtain ⟨n,rfl⟩:∃ j,n=j+1:=⟨n - 1,by omega⟩
     rw [Qbk.eq_2]
     unfold Qer
     simp only [List.append_nil] at *
     subst e1
     rw [Qaf (by simp; omega),Qn6 ⟨by omega,by simp; omega,by omega⟩,Qaa,Qn6 ⟨by omega,by omega,by simp [Q48]; omega⟩,Qaa]
     rw [← e2]
     simp [Q48]
    | cons y rest ih =>
     intro kept mid pre n e1 e2 e3 e4 hn
     obtain ⟨n,rfl⟩:∃ j,n=j+1:=⟨n - 1,by simp at hn; omega⟩
     have hlen:l.length=pre.length+(rest.length+1):=by rw [e1]; simp
     have hyl:y∈l:=by rw [e1]; simp
     obtain ⟨m,ms,rfl⟩:∃ m ms,mid=m::ms:=by
      cases mid with
      | nil=>exact absurd rfl e3
      | cons m ms=>exact ⟨m,ms,rfl⟩
     simp only [List.length_cons] at e4 hn
     have hx:ix (kept++(m::ms)++y::rest) (pre.length:Int)=some y:=by
      rw [Qh2,List.getElem?_append_right (by simp; omega)]
      simp only [List.length_append,List.length_cons]
      rw [show pre.length - (kept.length+(ms.length+1))=0 by omega]; rfl
     have hk:ix (kept++(m::ms)++y::rest) (kept.length:Int)=some m:=by
      rw [Qh2]; simp
     rw [Qbk.eq_2]
     unfold Qer Qdt
     rw [Qao (by simp; omega),hx,Qaa,hg y hyl,Qaa]
     cases hgy:g y
     · rw [Bool.not_false,cond_true,hk,Qaa,Qx6 _ (by omega),Qx6 _ (by omega)]
       have e5:Qi1 (kept++(m::ms)++y::rest) (kept.length:Int) y=(kept++[y])++(ms++[y])++rest:=by simp [Qi1]
       rw [e5]
       have:=ih (kept++[y]) (ms++[y]) (pre++[y]) n (by simp [e1]) (by rw [e2,List.filter_append]; simp [hgy]) (by simp) (by simp; omega) (by omega)
       simp only [List.length_append,List.length_singleton] at this
       exact this
     · rw [Bool.not_true,cond_false,Qx6 _ (by omega)]
       have:=ih kept ((m::ms)++[y]) (pre++[y]) n (by simp [e1]) (by rw [e2,List.filter_append]; simp [hgy]) (by simp) (by simp; omega) (by omega)
       simp only [List.length_append,List.length_singleton] at this
       rw [show kept++(m::ms)++y::rest=kept++((m::ms)++[y])++rest by simp]
       exact this
   have hlen:l.length=a.length+(b.length+1):=by rw [h1]; simp
   have ha:a.filter (λx=>!g x)=a:=List.filter_eq_self.2 λy hy=>by simp [h2 y hy]
   have:=key b a [x] (a++[x]) fu (by simp [h1]) (by rw [List.filter_append,ha]; simp [h3]) (by simp) (by simp) (by omega)
   rw [Qx6 _ (by omega)]
   simp only [List.length_append,List.length_singleton] at this
   rw [show a++[x]++b=l by simp [h1]] at this
   exact this
def dnk (keys:List Int) (p:Int):Int:=- kf keys p
theorem Jd9 {fu:Nat} {keys:List Int} (hfu:2097153≤fu) (hl:keys.length≤1048576):Qg5 fu keys=some (srt (dnk keys) keys.length):=by
 unfold Qg5 Qlf
 rw [Q67 keys.length hl (by omega),Qaa]
 obtain ⟨m,rfl⟩:∃ m,fu=m+1:=⟨fu - 1,by omega⟩
 rw [Q7l true hfu m _ (by rw [Qbx]; omega) (by rw [Qbx]; omega) (λp hp=>by have:=Qho.1 hp; omega),Qaa]
 congr 1
 have e:dk keys true=dnk keys:=rfl
 rw [e]
 exact Q2g (Qrx _ _ _) (Qt3 _ _ _ (by rw [Qbx]; omega) (Qvv _ _))
def Q1i (k:Int→Int) (x:Int):List Int→List Int→List Int
 | [],mid=>x::mid
 | y::ys,mid=>if k x<k y then Q1i k x ys (y::mid) else (y::ys).reverse++x::mid
theorem Qzt (k:Int→Int) (x:Int):∀ (ys mid:List Int),(Q1i k x ys mid).Perm (ys.reverse++x::mid)
 | [],mid=>List.Perm.refl _
 | y::ys,mid=>by
  unfold Q1i
  split
  · refine (Qzt k x ys (y::mid)).trans ?_
    rw [List.reverse_cons,List.append_assoc]
    refine List.Perm.append_left _ ?_
    exact List.Perm.swap _ _ _
  · exact List.Perm.refl _
theorem Qzc (k:Int→Int) (x:Int):∀ (ys mid:List Int),(ys.reverse++mid).Pairwise (lx k)→(∀ m∈mid,lx k x m)→(∀ p∈ys,p<x)→(Q1i k x ys mid).Pairwise (lx k)
 | [],mid,h,hm,_=>by
  unfold Q1i
  exact List.pairwise_cons.2 ⟨hm,by simpa using h⟩
 | y::ys,mid,h,hm,hy=>by
  unfold Q1i
  rw [List.reverse_cons,List.append_assoc] at h
  split
  · rename_i hk
    refine Qzc k x ys (y::mid) (by simpa using h) ?_ (λp hp=>hy p (by simp [hp]))
    intro m hmm
    rcases List.mem_cons.1 hmm with rfl | hmm
    · exact .inl hk
    · exact hm m hmm
  · rename_i hk
    have hyx:lx k y x:=by
     have:=hy y (by simp)
     by_cases he:k y<k x
     · exact .inl he
     · exact .inr ⟨by omega,this⟩
    rw [List.reverse_cons,List.append_assoc]
    obtain ⟨h1,h2,h3⟩:=List.pairwise_append.1 h
    simp only [List.singleton_append] at h2 h3
    refine List.pairwise_append.2 ⟨h1,?_,?_⟩
    · simp only [List.singleton_append]
      obtain ⟨h4,h5⟩:=List.pairwise_cons.1 h2
      refine List.pairwise_cons.2 ⟨?_,List.pairwise_cons.2 ⟨hm,h5⟩⟩
      intro m hmm
      rcases List.mem_cons.1 hmm with rfl | hmm
      · exact hyx
      · exact h4 m hmm
    · intro a ha b hb
      simp only [List.singleton_append,List.mem_cons] at hb
      have hay:=h3 a ha y (by simp)
      rcases hb with rfl | rfl | hb
      · exact hay
      · exact Jcu hay hyx
      · exact h3 a ha b (by simp [hb])
theorem Q7k (k:Int→Int) (x:Int):∀ (ys mid rest:List Int),Q1i k x ys (mid++rest)=Q1i k x ys mid++rest
 | [],mid,rest=>rfl
 | y::ys,mid,rest=>by
  unfold Q1i
  split
  · exact Q7k k x ys (y::mid) rest
  · simp
theorem Jl6 {A:List Int} {y:Int} {B:List Int} {n:Nat} (h:A.length=n):ix (A++y::B) (n:Int)=some y:=by subst h; rw [Qh2]; simp
theorem Jeg {A:List Int} {y z:Int} {B:List Int} {n:Nat} (h:A.length=n):Qi1 (A++y::B) (n:Int) z=A++z::B:=by subst h; simp [Qi1]
theorem Q7i {fu:Nat} {f:Int→Int→Option Int} {k:Int→Int} (K9:List Int→Int→Option (List Int)) (i0:Int) (hf:∀ a b c,f a b=some c→(c<0↔k a<k b)) (x:Int) :
    ∀ (ys mid:List Int) (n:Nat),(∀ p∈ys,∃ c,f x p=some c)→ys.length<n→ys.length≤1048576→Qa6 fu K9 0 f i0 n (ys.reverse++x::mid) (ys.length:Int)=K9 (Q1i k x ys mid) (w64 (i0+1))
 | [],mid,n,_,hn,_=>by
  obtain ⟨n,rfl⟩:∃ j,n=j+1:=⟨n - 1,by omega⟩
  rw [Qa6.eq_2]
  unfold Qdj Q1i
  rw [Qaf (by simp)]; rfl
 | y::ys,mid,n,hy,hn,hl=>by
  simp only [List.length_cons] at hn hl
  obtain ⟨n,rfl⟩:∃ j,n=j+1:=⟨n - 1,by omega⟩
  obtain ⟨c,hc⟩:=hy y (by simp)
  have hw:w64 (((y::ys).length:Int) - 1)=(ys.length:Int):=by simp only [List.length_cons]; rw [Qam (by omega) (by omega)]; omega
  have e0:(y::ys).reverse++x::mid=ys.reverse++y::x::mid:=by simp
  have e1:ix ((y::ys).reverse++x::mid) ((y::ys).length:Int)=some x:=Jl6 (by simp)
  have e2:ix ((y::ys).reverse++x::mid) (ys.length:Int)=some y:=by rw [e0]; exact Jl6 (by simp)
  rw [Qa6.eq_2]
  unfold Qdj Q1i
  rw [Qao (by simp),e1,Qaa,hw,e2,Qaa,hc,Qaa]
  by_cases hk:k x<k y
  · rw [if_pos hk,decide_eq_true ((hf _ _ _ hc).2 hk),cond_true]
    unfold Qdv
    have e3:Qi1 ((y::ys).reverse++x::mid) ((y::ys).length:Int) y=(y::ys).reverse++y::mid:=Jeg (by simp)
    have e4:ix ((y::ys).reverse++y::mid) (ys.length:Int)=some y:=by rw [show (y::ys).reverse++y::mid=ys.reverse++y::y::mid by simp]; exact Jl6 (by simp)
    have e5:Qi1 ((y::ys).reverse++y::mid) (ys.length:Int) x=ys.reverse++x::y::mid:=by rw [show (y::ys).reverse++y::mid=ys.reverse++y::y::mid by simp]; exact Jeg (by simp)
    rw [hw,e2,Qaa,e1,Qaa,Qaa,e3,e4,Qaa,e5]
    exact Q7i K9 i0 hf x ys (y::mid) n (λp hp=>hy p (by simp [hp])) (by omega) (by omega)
  · rw [if_neg hk,decide_eq_false (λh=>hk ((hf _ _ _ hc).1 h)),cond_false]
def Jhg (k:Int→Int):List Int→List Int→List Int
 | P,[]=>P
 | P,x::xs=>Jhg k (Q1i k x P.reverse []) xs
theorem Q32 (k:Int→Int):∀ (xs P:List Int),P.Pairwise (lx k)→(∀ p∈P,∀ x∈xs,p<x)→xs.Pairwise (·<·)→(Jhg k P xs).Perm (P++xs)∧(Jhg k P xs).Pairwise (lx k)
 | [],P,h,_,_=>by simpa [Jhg] using h
 | x::xs,P,h,hp,hx=>by
  obtain ⟨h1,h2⟩:=List.pairwise_cons.1 hx
  have hs:(Q1i k x P.reverse []).Pairwise (lx k):=Qzc k x P.reverse [] (by simpa using h) (by simp) (λp hp'=>hp p (by simpa using hp') x (by simp))
  have hpm:(Q1i k x P.reverse []).Perm (P++[x]):=by simpa using Qzt k x P.reverse []
  have ih:=Q32 k xs (Q1i k x P.reverse []) hs (λp hp' y hy=>by
   rcases List.mem_append.1 (hpm.mem_iff.1 hp') with h' | h'
   · exact hp p h' y (by simp [hy])
   · rw [List.mem_singleton.1 h']; exact h1 y hy) h2
  refine ⟨?_,ih.2⟩
  unfold Jhg
  refine ih.1.trans ?_
  refine (hpm.append_right xs).trans ?_
  simp
theorem Q93 {fu:Nat} {f:Int→Int→Option Int} {k:Int→Int} (hfu:2097153≤fu) (hf:∀ a b c,f a b=some c→(c<0↔k a<k b)) {n:Nat} (hn:n≤1048576) (hin:∀ a b:Int,0≤a→a<n→0≤b→b<n→∃ c,f a b=some c) :
    ∀ (xs P:List Int) (m:Nat),xs.length<m→P.length+xs.length=n→(∀ p∈P++xs,0≤p∧p<n)→Qak fu 0 (n:Int) f m (P++xs) (P.length:Int)=some (Jhg k P xs)
 | [],P,m,hm,hl,_=>by
  obtain ⟨m,rfl⟩:∃ j,m=j+1:=⟨m - 1,by omega⟩
  simp only [List.length_nil] at hl
  rw [Qak.eq_2]
  unfold Qca
  rw [Qaf (by simp; omega)]; simp [Jhg]
 | x::xs,P,m,hm,hl,hp=>by
  simp only [List.length_cons] at hl hm
  obtain ⟨m,rfl⟩:∃ j,m=j+1:=⟨m - 1,by omega⟩
  rw [Qak.eq_2]
  unfold Qca
  rw [Qao (by simp; omega)]
  have key:=Q7i (fu:=fu) (f:=f) (k:=k) (Qak fu 0 (n:Int) f m) (P.length:Int) hf x P.reverse xs fu (λp hp'=>by
   have h1:=hp p (by simp at hp'; simp [hp'])
   have h2:=hp x (by simp)
   exact hin x p h2.1 h2.2 h1.1 h1.2) (by simp; omega) (by simp; omega)
  rw [List.reverse_reverse,List.length_reverse] at key
  rw [key,Qx6 _ (by omega)]
  have e:Q1i k x P.reverse xs=Q1i k x P.reverse []++xs:=by
   have:=Q7k k x P.reverse [] xs
   simpa using this
  have hpm:(Q1i k x P.reverse []).Perm (P++[x]):=by simpa using Qzt k x P.reverse []
  have hlen:(Q1i k x P.reverse []).length=P.length+1:=by rw [hpm.length_eq]; simp
  rw [e]
  have ih:=Q93 hfu hf hn hin xs (Q1i k x P.reverse []) m (by omega) (by omega) (λp hp'=>by
   rcases List.mem_append.1 hp' with h' | h'
   · rcases List.mem_append.1 (hpm.mem_iff.1 h') with h'' | h''
     · exact hp p (by simp [h''])
     · exact hp p (by rw [List.mem_singleton.1 h'']; simp)
   · exact hp p (by simp [h']))
  rw [hlen] at ih
  rw [ih]; rfl
theorem Jmn (fu:Nat) (a b:Int):∃ c,Qqw fu a b=some c∧(c<0↔a<b):=by
 unfold Qqw
 by_cases h:a<b
 · exact ⟨-1,by simp [h],by simp [h]⟩
 · by_cases h2:a>b
   · exact ⟨1,by simp [h,h2],by simp [h]⟩
   · exact ⟨0,by simp [h,h2],by simp [h]⟩
theorem Je4 {fu:Nat} {keys:List Int} (hfu:2097153≤fu) (hl:keys.length<20):Qg9 fu keys=some (srt (dnk keys) keys.length):=by
 unfold Qg9 Qe0 Qhd
 rw [Jdb _ (by omega) (by omega),Qaa]
 obtain ⟨f,hfd⟩:∃ f:Int→Int→Option Int,f=λa b=>Qe4 fu a b keys:=⟨_,rfl⟩
 have hdef:∀ a b:Int,0≤a→a<keys.length→0≤b→b<keys.length→∃ c,f a b=some c∧(c<0↔dnk keys a<dnk keys b):=by
  intro a b ha ha' hb hb'
  obtain ⟨c,h1,h2⟩:=Jmn fu (kf keys b) (kf keys a)
  refine ⟨c,?_,?_⟩
  · rw [hfd]
    show Qe4 fu a b keys=_
    unfold Qe4
    rw [Q52 ⟨hb,hb'⟩,Qaa,Q52 ⟨ha,ha'⟩,Qaa,h1,Qaa]
  · rw [h2]; unfold dnk; omega
 have hf:∀ a b c,f a b=some c→(c<0↔dnk keys a<dnk keys b):=by
  intro a b c h
  have h0:=h
  rw [hfd] at h
  change Qe4 fu a b keys=_ at h
  unfold Qe4 at h
  obtain ⟨x,hx,h⟩:=Qt1 h
  obtain ⟨y,hy,h⟩:=Qt1 h
  obtain ⟨b0,b1,_⟩:=Qah hx
  obtain ⟨a0,a1,_⟩:=Qah hy
  obtain ⟨d,h1,h2⟩:=hdef a b a0 a1 b0 b1
  rw [h0] at h1
  cases h1
  exact h2
 have ha:=Q93 (fu:=fu) (f:=f) (k:=dnk keys) hfu hf (n:=keys.length) (by omega) (λa b h1 h2 h3 h4=>by obtain ⟨c,h,_⟩:=hdef a b h1 h2 h3 h4; exact ⟨c,h⟩)
 have hI:Qb6 fu (Qj5 0 keys.length) 0 ((Qj5 0 keys.length).length:Int) f=some (srt (dnk keys) keys.length):=by
  unfold Qb6
  rw [Qbx,show w64 ((0:Int)+1)=1 by rw [Qam (by omega) (by omega)]; rfl]
  cases hk:keys.length with
  | zero =>
   obtain ⟨m,rfl⟩:∃ m,fu=m+1:=⟨fu - 1,by omega⟩
   rw [Qak.eq_2]
   unfold Qca
   rw [Qaf (by simp)]; rfl
  | succ n =>
   rw [hk] at ha
   have:=ha (Qj5 1 n) [0] fu (by rw [Qbx]; omega) (by rw [Qbx]; simp; omega) (λp hp=>by
    have:p∈Qj5 0 (n+1):=hp
    have:=Qho.1 this
    omega)
   have e:Qj5 0 (n+1)=[0]++Qj5 1 n:=rfl
   rw [e]
   have h1:(([0]:List Int).length:Int)=1:=rfl
   rw [h1] at this
   rw [this]
   congr 1
   have hsp:=Q32 (dnk keys) (Qj5 1 n) [0] (by simp) (λp hp x hx=>by
    have:=Qho.1 hx
    rw [List.mem_singleton.1 hp]; omega) (Qvv _ _)
   exact Q2g hsp.1 hsp.2
 obtain ⟨m,rfl⟩:∃ m,fu=m+1:=⟨fu - 1,by omega⟩
 rw [Qdw.eq_2]
 unfold Qhy
 rw [Qaf (by rw [Qbx]; simp; omega)]
 rw [← hfd,hI,Qaa,Qby.eq_2]
 unfold Qh3
 rw [Qaf (by rw [Qbx]; simp; omega)]
 rfl
theorem Jny {w h d:Int} (hb:(inb w 0 2000&&(inb h 0 2000&&inb d 0 2000))=true):w64 ((w64 (w*h))*d)=w*h*d:=by
 simp only [Bool.and_eq_true,Qcb] at hb
 obtain ⟨⟨h1,h2⟩,⟨h3,h4⟩,h5,h6⟩:=hb
 have a1:0≤w*h:=Int.mul_nonneg h1 h3
 have a2:w*h≤2000*2000:=Int.mul_le_mul h2 h4 h3 (by omega)
 have a3:0≤w*h*d:=Int.mul_nonneg a1 h5
 have a4:w*h*d≤2000*2000*2000:=Int.mul_le_mul a2 h6 h5 (by omega)
 rw [Qam (n:=w*h) (by omega) (by omega),Qam (by omega) (by omega)]
theorem Je6 (fu:Nat) (w h d:Int):Qj0 fu w h d=some (Q8c w h d):=by
 unfold Qj0 Qq8 Q8c
 simp only [Q0a,Qaa]
 cases h1:inb w 0 2000 <;> cases h2:inb h 0 2000 <;> cases h3:inb d 0 2000 <;> simp only [Bool.not_true,Bool.not_false,cond_true,cond_false,Bool.and_true,Bool.and_false]
 rw [Jny (by simp only [h1,h2,h3]; rfl)]
theorem Jiy (fu:Nat) (w h d:Int):Qo5 fu w h d=some (Q8c w h d):=by
 unfold Qo5 Qrn Q8c
 simp only [Q1z,Qaa]
 cases h1:inb w 0 2000 <;> cases h2:inb h 0 2000 <;> cases h3:inb d 0 2000 <;> simp only [Bool.not_true,Bool.not_false,cond_true,cond_false,Bool.and_true,Bool.and_false]
 rw [Jny (by simp only [h1,h2,h3]; rfl)]
def Qwm (r:Request) (u:Int):Item:=(Q3w r u).getD Q79
theorem Q13 (r:Request):w64 (((Qi4 r).length:Int) - 1)=((Qi4 r).length:Int) - 1:=by
 have:=Q21 r
 exact Qam (by omega) (by omega)
theorem Ja3 (fu:Nat) (r:Request) (u:Int):Qkm fu r (Qi4 r) u=some (Qwm r u,(Q3w r u).isSome):=by
 unfold Qkm Qwm
 rw [Q13,Q0a,Qaa]
 by_cases h:0≤u∧u<(Qi4 r).length
 · obtain ⟨i,x,h1,h2,h3⟩:=Q5x h
   rw [Qaf (by simp; omega),h1,Qaa,h2,Qaa,h3]
   rfl
 · rw [Qao (by simp [inb]; omega),Q3t h]
   rfl
theorem Jck:Jbv Q79=0:=by simp [Jbv,Q8c,Q79]
theorem Q5m {fu:Nat} {r:Request} (h:Sm fu r) (us:List Int) (hl:us.length≤1048576) (hf:us.length<fu):Qiu fu r us=some (Qxn r us):=by
 unfold Qiu
 rw [Jfr h,Qaa]
 have key:=lpI us (λn s i=>Qfe fu r us (Qi4 r) n s i) (λl out=>some (out++Qxn r l)) (λl out=>out.length+l.length≤1048576) (by omega) ?_ ?_ fu [] (by simpa using hl) hf
 · simpa using key
 · intro n s i x xs hx hd hI ih
   simp only [Qfe.eq_2]
   unfold Qng Qkj
   simp only [hd,cond_true,hx,Qaa,Q13,Q1z]
   simp only [List.length_cons] at hI
   by_cases hu:0≤x∧x<(Qi4 r).length
   · obtain ⟨i',y,h1,h2,h3⟩:=Q5x hu
     rw [Qao (by simp; omega),h1,Qaa,h2,Qaa,ap1 (by simp; omega),Qaa,ih _ (by simp; omega)]
     simp [Qxn,List.filterMap_cons,h3]
   · rw [Qaf (by simp [inb]; omega),ih _ (by omega)]
     simp [Qxn,List.filterMap_cons,Q3t hu]
 · intro n s i hd _
   simp only [Qfe.eq_2]
   unfold Qng
   simp only [hd,cond_false]
   simp [Qxn]
theorem Ja5 {fu:Nat} {r:Request} (h:Sm fu r) (us:List Int) (hl:us.length≤1048576) (hf:us.length<fu):Qjl fu r us=some (Qxo r us):=by
 unfold Qjl
 rw [Q5m h us hl hf,Qaa]
 have hlen:=Qym r us
 have key:=lpI (Qxn r us) (λn s i=>Qfw fu (Qxn r us) n s i) (λl n=>some (n+Qxt (l.map Jbv))) (λl n=>0≤n∧n+8000000000*l.length≤8000000000*1048576) (by omega) ?_ ?_ fu 0 ⟨by omega,by omega⟩ (by omega)
 · simpa [Qxo] using key
 · intro n s i x xs hx hd hI ih
   simp only [Qfw.eq_2]
   unfold Qk2
   simp only [hd,cond_true,hx,Qaa,Jiy]
   have hv:=Q99 x.fW x.fH x.fD
   have h2:=hI.2
   simp only [List.length_cons] at h2
   rw [Qam (by omega) (by omega),ih _ ⟨by omega,by omega⟩]
   simp only [List.map_cons,Qq3,Jbv]
   congr 1
   omega
 · intro n s i hd _
   simp only [Qfw.eq_2]
   unfold Qk2
   simp only [hd,cond_false]
   simp
end Go.Proofs.YtndfoffokpdjeaaGreatDoor
