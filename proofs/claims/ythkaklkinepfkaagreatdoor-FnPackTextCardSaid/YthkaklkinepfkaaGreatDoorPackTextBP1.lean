/- PackTextBP: plain le.. -/
import Derived.Test.YthkaklkinepfkaaGreatDoorPackTextBD
import Derived.Test.YthkaklkinepfkaaGreatDoorS26
set_option linter.unusedSimpArgs false
set_option linter.unusedVariables false
namespace Go.Proofs.YthkaklkinepfkaaGreatDoor
open Go
open Enc (rd ow)
open Arg (argv)
open Ret (retv)
open Wf (wf)
theorem Q7r {fu:Nat} (n:Nat) (hn:n≤1048576) (hf:n<fu):Qi7 fu (n:Int)=some (Qjw 0 n):=by
 unfold Qi7
 have key:∀ (m i k:Nat),n - i=m→i≤n→m<k→Qfz fu (n:Int) k (Qjw 0 i) (i:Int)=some (Qjw 0 n):=by
  intro m
  induction m with
  | zero =>
   intro i k hm hi hk
   obtain ⟨k,rfl⟩:∃ j,k=j+1:=⟨k - 1,by omega⟩
   have:i=n:=by omega
   subst this
   rw [Qfz.eq_2]
   unfold Qkw
   simp
  | succ m ih =>
   intro i k hm hi hk
   obtain ⟨k,rfl⟩:∃ j,k=j+1:=⟨k - 1,by omega⟩
   rw [Qfz.eq_2]
   unfold Qkw
   rw [Qao (by simp; omega),ap1 (by rw [Qbx]; simp; omega),Qaa,Qyc i (by omega)]
   have e:=Jbv 0 i
   rw [Int.zero_add] at e
   rw [← e]
   exact ih (i+1) k (by omega) (by omega) (by omega)
 exact key n 0 fu (by omega) (by omega) hf
def dk (keys:List Int) (Qvj:Bool) (p:Int):Int:=bif Qvj then - kf keys p else kf keys p
theorem Q5h {keys:List Int} {p:Int} (h:0≤p∧p<keys.length):ix keys p=some (kf keys p):=by
 have h1:p.toNat<keys.length:=by omega
 unfold kf ix
 rw [if_pos h.1,List.getElem?_eq_getElem h1]
 rfl
theorem Jlp {fu:Nat} {keys a b:List Int} (Qvj:Bool) (ha:∀ p∈a,0≤p∧p<keys.length) (hb:∀ p∈b,0≤p∧p<keys.length) (hla:a.length≤1048576) (hlb:b.length≤1048576) :
    ∀ (m:Nat) (n:Nat) (out:List Int) (i j:Nat),i≤a.length→j≤b.length→(a.length - i)+(b.length - j)=m→m<n→out.length+m≤2097152 →
     Qch fu keys Qvj a b n out i j=some (out++mrg (dk keys Qvj) (a.drop i) (b.drop j)):=by
 intro m
 induction m with
 | zero =>
  intro n out i j hi hj hm hn ho
  obtain ⟨n,rfl⟩:∃ k,n=k+1:=⟨n - 1,by omega⟩
  rw [Qch.eq_2]
  unfold Qne
  rw [Qaf (by simp; omega),Qaf (by simp; omega),List.drop_of_length_le (show a.length≤i by omega),List.drop_of_length_le (show b.length≤j by omega)]
  simp [mrg]
 | succ m ih =>
  intro n out i j hi hj hm hn ho
  obtain ⟨n,rfl⟩:∃ k,n=k+1:=⟨n - 1,by omega⟩
  have hL:Qch fu keys Qvj a b (n+1) out i j=Qh7 fu (Qch fu keys Qvj a b n) keys Qvj a b out i j:=by
   rw [Qch.eq_2]
   unfold Qne
   by_cases h:i<a.length
   · rw [Qao (by simpa using h)]
   · rw [Qaf (by simpa using h),Qao (by simp; omega)]
  have tA:∀ (h:i<a.length),(Qc7 8 out [a[i]])=some (out++[a[i]]):=λh=>ap1 (by simp; omega)
  have tB:∀ (h:j<b.length),(Qc7 8 out [b[j]])=some (out++[b[j]]):=λh=>ap1 (by simp; omega)
  have nA:∀ (h:i<a.length),Qch fu keys Qvj a b n (out++[a[i]]) (w64 ((i:Int)+1)) j=some (out++a[i]::mrg (dk keys Qvj) (a.drop (i+1)) (b.drop j)):=λh=>by
   rw [Qyc i (by omega),ih n (out++[a[i]]) (i+1) j (by omega) hj (by omega) (by omega) (by simp; omega)]
   simp
  have nB:∀ (h:j<b.length),Qch fu keys Qvj a b n (out++[b[j]]) i (w64 ((j:Int)+1))=some (out++b[j]::mrg (dk keys Qvj) (a.drop i) (b.drop (j+1))):=λh=>by
   rw [Qyc j (by omega),ih n (out++[b[j]]) i (j+1) hi (by omega) (by omega) (by omega) (by simp; omega)]
   simp
  rw [hL]
  unfold Qh7
  by_cases hjb:j=b.length
  · have h:i<a.length:=by omega
    rw [Qao (by simp [hjb]),Qz2 h,Qaa,tA h,Qaa,nA h,List.drop_of_length_le (show b.length≤j by omega),Jba,Jba,← List.drop_eq_getElem_cons h]
  · have hj':j<b.length:=by omega
    rw [Qaf (by simp; omega)]
    by_cases hia:i=a.length
    · rw [Qao (by simp [hia]),Qz2 hj',Qaa,tB hj',Qaa,nB hj',List.drop_of_length_le (show a.length≤i by omega)]
      have e1:∀ l,mrg (dk keys Qvj) [] l=l:=λl=>by rw [mrg]
      rw [e1,e1,← List.drop_eq_getElem_cons hj']
    · have hi':i<a.length:=by omega
      rw [Qaf (by simp; omega)]
      simp only [Qz2 hi',Qz2 hj',Qaa,Q5h (ha _ (List.getElem_mem hi')),Q5h (hb _ (List.getElem_mem hj')),tA hi',tB hj',nA hi',nB hj']
      rw [List.drop_eq_getElem_cons hi',List.drop_eq_getElem_cons hj',Qwk,← List.drop_eq_getElem_cons hi',← List.drop_eq_getElem_cons hj']
      have hx:dk keys Qvj a[i]=bif Qvj then - kf keys a[i] else kf keys a[i]:=rfl
      have hy:dk keys Qvj b[j]=bif Qvj then - kf keys b[j] else kf keys b[j]:=rfl
      rw [hx,hy]
      generalize kf keys a[i]=x
      generalize kf keys b[j]=y
      cases Qvj
      · by_cases hc:y<x
        · rw [if_pos (by simpa using hc)]; simp [hc]
        · rw [if_neg (by simpa using hc)]
          have:decide (y>x)=true∨decide (y>x)=false:=by cases decide (y>x) <;> simp
          rcases this with h | h <;> simp [hc,h]
      · by_cases hc:x<y
        · have h:¬ y<x:=by omega
          rw [if_pos (by simpa using hc)]; simp [hc,h]
        · rw [if_neg (by simpa using hc)]
          have h:decide (y<x)=true∨decide (y<x)=false:=by cases decide (y<x) <;> simp
          rcases h with h | h <;> simp [hc,h]
theorem Q6a {fu:Nat} {keys:List Int} (Qvj:Bool) (hfu:2097153≤fu):∀ (n:Nat) (l:List Int),l.length≤n→l.length≤1048576→(∀ p∈l,0≤p∧p<keys.length) →
    Qit fu (n+1) keys l Qvj=some (msr (dk keys Qvj) (n+1) l)
 | n,l,hn,hl,hm=>by
  rw [Qit.eq_2]
  unfold Qt4 msr
  by_cases h2:l.length<2
  · rw [Qao (by simp; omega),if_pos h2,ap1 (by simp; omega)]; rfl
  · rw [Qaf (by simp; omega),if_neg h2]
    have hd:Int.tdiv (l.length:Int) 2=((l.length / 2:Nat):Int):=by simp [Int.tdiv]
    obtain ⟨n,rfl⟩:∃ k,n=k+1:=⟨n - 1,by omega⟩
    rw [hd,Qam (by omega) (by omega),Qor (by omega),Qor (by omega),Qaa]
    simp only [Int.toNat_natCast,Int.toNat_zero,List.drop_zero,Nat.sub_zero,Qaa]
    rw [Q6a Qvj hfu n (l.take (l.length / 2)) (by rw [List.length_take]; omega) (by rw [List.length_take]; omega) (λp hp=>hm p (List.mem_of_mem_take hp)),Qaa]
    have e:(l.drop (l.length / 2)).take (l.length - l.length / 2)=l.drop (l.length / 2):=List.take_of_length_le (by rw [List.length_drop]; omega)
    rw [e,Q6a Qvj hfu n (l.drop (l.length / 2)) (by rw [List.length_drop]; omega) (by rw [List.length_drop]; omega) (λp hp=>hm p (List.mem_of_mem_drop hp)),Qaa]
    have hp1:=(Qr1 (dk keys Qvj) (n+1) (l.take (l.length / 2)))
    have hp2:=(Qr1 (dk keys Qvj) (n+1) (l.drop (l.length / 2)))
    have l1:=hp1.length_eq
    have l2:=hp2.length_eq
    rw [List.length_take] at l1
    rw [List.length_drop] at l2
    rw [show (0:Int)=((0:Nat):Int) from rfl]
    rw [Jlp Qvj (λp hp=>hm p (List.mem_of_mem_take (hp1.mem_iff.1 hp))) (λp hp=>hm p (List.mem_of_mem_drop (hp2.mem_iff.1 hp))) (by omega) (by omega) _ fu [] 0 0 (by omega) (by omega) rfl (by omega) (by simp; omega)]
    simp
theorem Jn3 {fu:Nat} {keys:List Int} (hfu:2097153≤fu) (hl:keys.length≤1048576):Qow fu keys=some (srt (kf keys) keys.length):=by
 unfold Qow Qlf
 rw [Q7r keys.length hl (by omega),Qaa]
 obtain ⟨m,rfl⟩:∃ m,fu=m+1:=⟨fu - 1,by omega⟩
 rw [Q6a false hfu m _ (by rw [Qbx]; omega) (by rw [Qbx]; omega) (λp hp=>by have:=Qhn.1 hp; omega),Qaa]
 congr 1
 have e:dk keys false=kf keys:=rfl
 rw [e]
 exact Q22 (Qr1 _ _ _) (Qt6 _ _ _ (by rw [Qbx]; omega) (Qvq _ _))
structure Sm (fu:Nat) (r:Request):Prop where
 fu:2097153≤fu
 pairs:r.fR.length≤1048576
 types:r.fU.length≤1048576
 items:r.fV.length≤1048576
theorem Q0b (fu:Nat) (n lo hi:Int):Qan fu n lo hi=some (inb n lo hi):=by
 unfold Qan inb
 by_cases h:lo≤n
 · simp [h]
 · simp [h]
theorem Q1u (fu:Nat) (n lo hi:Int):Qat fu n lo hi=some (inb n lo hi):=Q0b fu n lo hi
theorem Q9b (fu:Nat) (n:Int):Qdw fu n=some (inb n 1 2000):=by unfold Qdw; rw [Q0b]; rfl
theorem Jlc (fu:Nat) (n:Int):Qme fu n=some (inb n 0 999):=by unfold Qme; rw [Q0b]; rfl
theorem Jbz (fu:Nat) (n:Int):Qc8 fu n=some (inb n 1 2000):=by unfold Qc8; rw [Q1u]; rfl
theorem Jc6 (fu:Nat) (p:Pallet):Qg8 fu p=some (Qvu p):=by
 unfold Qg8 Qvu
 simp only [Q9b,Q0b,Qaa]
 cases inb p.fW 1 2000 <;> cases inb p.fD 1 2000 <;> cases inb p.fH 1 2000 <;> rfl
theorem Jnp (fu:Nat) (p:Pallet):Qel fu p=some (Qvu p):=by
 unfold Qel Qvu
 simp only [Jbz,Q1u,Qaa]
 cases inb p.fW 1 2000 <;> cases inb p.fD 1 2000 <;> cases inb p.fH 1 2000 <;> rfl
theorem Jms (fu:Nat) (t:Typ):Qsa fu t=some (Q2w t):=by
 unfold Qsa Q2w
 simp only [Q9b,Q0b,Jlc,Qaa]
 cases inb t.ft 0 999 <;> cases inb t.fW 1 2000 <;> cases inb t.fH 1 2000 <;> cases inb t.fD 1 2000 <;> cases inb t.qQ 0 100000 <;> cases inb t.fQ 1 100000 <;> rfl
theorem Jnn (fu:Nat) (t:Typ):Qr2 fu t=some (Q2w t):=by
 unfold Qr2 Q2w
 simp only [Jbz,Q1u,Qaa]
 cases inb t.ft 0 999 <;> cases inb t.fW 1 2000 <;> cases inb t.fH 1 2000 <;> cases inb t.fD 1 2000 <;> cases inb t.qQ 0 100000 <;> cases inb t.fQ 1 100000 <;> rfl
theorem Jns (fu:Nat) (t:Item):Qry fu t=some (Qx0 t):=by
 unfold Qry Qx0
 simp only [Q9b,Q0b,Jlc,Qaa]
 cases inb t.ft 0 999 <;> cases inb t.fW 1 2000 <;> cases inb t.fH 1 2000 <;> cases inb t.fD 1 2000 <;> cases inb t.fQ 1 100000 <;> cases inb t.fK 0 3 <;> rfl
theorem Jlr (fu:Nat) (t:Item):Qsd fu t=some (Qx0 t):=by
 unfold Qsd Qx0
 simp only [Jbz,Q1u,Qaa]
 cases inb t.ft 0 999 <;> cases inb t.fW 1 2000 <;> cases inb t.fH 1 2000 <;> cases inb t.fD 1 2000 <;> cases inb t.fQ 1 100000 <;> cases inb t.fK 0 3 <;> rfl
def Jhs:List Item→Int→Option Bool
 | [],n=>some (decide (n≤12))
 | x::xs,n=>bif !Qx0 x then some false else Jhs xs (w64 (n+x.fF))
theorem Q51:∀ (l:List Item) (n:Int),0≤n→n+6*l.length≤4611686018427387904→Jhs l n=some (l.all Qx0&&decide (n+Qx8 (l.map (·.fF))≤12))
 | [],n,_,_=>by simp [Jhs]
 | x::xs,n,h0,h1=>by
  unfold Jhs
  cases hx:Qx0 x
  · simp [hx]
  · have hc:=hx
    simp only [Qx0,Bool.and_eq_true,Qcb] at hc
    have hc:=hc.2.2.2.2.2.2
    simp only [List.length_cons] at h1
    rw [Qam (by omega) (by omega)]
    simp only [Bool.not_true,cond_false]
    rw [Q51 xs (n+x.fF) (by omega) (by omega)]
    simp only [List.all_cons,hx,Bool.true_and,List.map_cons,Qq2,Int.add_assoc]
theorem Jl4 {fu:Nat} {r:Request} (h:Sm fu r):Qny fu r=some (Q5a r):=by
 have hfu:=h.fu
 have h7:r.fV.length≤8→Qdp fu r fu 0 0=some (r.fV.all Qx0&&decide (Qx8 (r.fV.map (·.fF))≤12)):=by
  intro h8
  rw [lp r.fV (λn s i=>Qdp fu r n s i) Jhs (by have:=h.items; omega) ?_ ?_ fu 0 (by have:=h.items; omega),Q51 _ _ (by omega) (by have:=h.items; omega)]
  · simp
  · intro n s i x xs hx hd ih
    simp only [Qdp.eq_2]
    unfold Qk1
    simp only [hd,cond_true,hx,Qaa,Jns,ih]
    rfl
  · intro n s i hd
    simp only [Qdp.eq_2]
    unfold Qk1
    simp only [hd,cond_false]
    rfl
 have h6:∀ b:Bool,(Qdp fu r fu 0 0=some b)→Qds fu r fu 0=some (r.fU.all Q2w&&b):=by
  intro b hb
  refine lp r.fU (λn (_:Unit) i=>Qds fu r n i) (λl _=>some (l.all Q2w&&b)) (by have:=h.types; omega) ?_ ?_ fu () (by have:=h.types; omega)
  · intro n s i x xs hx hd ih
    simp only [Qds.eq_2]
    unfold Qky
    simp only [hd,cond_true,hx,Qaa,Jms,ih (),List.all_cons]
    cases Q2w x <;> rfl
  · intro n s i hd
    simp only [Qds.eq_2]
    unfold Qky
    simp only [hd,cond_false,hb]
    rfl
 have h4:∀ b:Bool,(Qds fu r fu 0=some b)→Qdq fu r fu 0=some (r.fR.all prB&&b):=by
  intro b hb
  refine lp r.fR (λn (_:Unit) i=>Qdq fu r n i) (λl _=>some (l.all prB&&b)) (by have:=h.pairs; omega) ?_ ?_ fu () (by have:=h.pairs; omega)
  · intro n s i x xs hx hd ih
    simp only [Qdq.eq_2]
    unfold Qk7 Qos
    simp only [hd,cond_true,hx,Qaa,Q0b,ih ()]
    simp only [List.all_cons,prB]
    cases inb x.fA 0 3 <;> cases inb x.fB 0 3 <;> rfl
  · intro n s i hd
    simp only [Qdq.eq_2]
    unfold Qk7
    simp only [hd,cond_false,hb]
    rfl
 unfold Qny Qnr Q5a
 simp only [Q0b,Jlc,Jc6,Qaa]
 by_cases h8:r.fV.length≤8
 · rw [h4 _ (h6 _ (h7 h8))]
   have e8:decide ((r.fV.length:Int)>8)=false:=by simp; omega
   rw [e8]
   by_cases hp:r.fR.length≤16
   · have e16:decide ((r.fR.length:Int)>16)=false:=by simp; omega
     rw [e16]
     simp only [hp,h8,decide_true,cond_false,Bool.and_true]
     cases inb r.f0 0 1 <;> cases Qvu r.fJ <;> cases inb r.fG 1 4 <;> cases inb (r.fU.length:Int) 1 5 <;> cases inb r.fT 0 999 <;> simp <;> cases r.fR.all prB <;> cases r.fU.all Q2w <;> rfl
   · have e16:decide ((r.fR.length:Int)>16)=true:=by simp; omega
     rw [e16]
     simp only [hp,decide_false,cond_true]
     cases inb r.f0 0 1 <;> cases Qvu r.fJ <;> cases inb r.fG 1 4 <;> simp
 · have e8:decide ((r.fV.length:Int)>8)=true:=by simp; omega
   rw [e8]
   simp only [h8,decide_false,cond_true,Bool.and_false,Bool.false_and]
   cases inb r.f0 0 1 <;> cases Qvu r.fJ <;> cases inb r.fG 1 4 <;> simp
def Qxf {α:Type} (g:α→Bool):List α→Int→Int
 | [],_=>-1
 | x::xs,i=>bif g x then i else Qxf g xs (i+1)
theorem Qua {α:Type} (g:α→Bool):∀ (l:List α) (i:Int),0≤i→decide (Qxf g l i≥0)=l.any g
 | [],i,_=>rfl
 | x::xs,i,h=>by
  simp only [Qxf,List.any_cons]
  by_cases hx:g x=true
  · simpa [hx] using h
  · simpa [hx] using Qua g xs (i+1) (by omega)
theorem Q31 {α:Type} (g:α→Bool):∀ (l pre:List α) ,(Qxf g l pre.length<0∧l.find? g=none)∨(0≤Qxf g l pre.length∧∃ x,l.find? g=some x∧ix (pre++l) (Qxf g l pre.length)=some x)
 | [],pre=>.inl ⟨by simp [Qxf],rfl⟩
 | x::xs,pre=>by
  simp only [Qxf]
  cases hx:g x
  · have:=Q31 g xs (pre++[x])
    simp only [List.length_append,List.length_singleton,List.append_assoc,List.singleton_append] at this
    simpa [List.find?_cons,hx] using this
  · refine .inr ⟨by simp,x,by simp [hx],?_⟩
    rw [cond_true,Qh3]
    simp
theorem Quj {α:Type} (l:List α) (L:Nat→Int→Option Int) (g:α→Bool) (hl:l.length≤1099511627776)
    (hs:∀ n (i:Int) x,ix l i=some x→decide (i<(l.length:Int))=true→L (n+1) i=bif g x then some i else L n (w64 (i+1)))
    (he:∀ n (i:Int),decide (i<(l.length:Int))=false→L (n+1) i=some (-1)) (n:Nat) (hn:l.length<n):L n 0=some (Qxf g l 0):=by
 have key:∀ (m i n:Nat),l.length - i=m→i≤l.length→m<n→L n (i:Int)=some (Qxf g (l.drop i) i):=by
  intro m
  induction m with
  | zero =>
   intro i n hm hi hn
   obtain ⟨n,rfl⟩:∃ k,n=k+1:=⟨n - 1,by omega⟩
   rw [List.drop_of_length_le (by omega),he n i (by simp; omega)]
   rfl
  | succ m ih =>
   intro i n hm hi hn
   obtain ⟨n,rfl⟩:∃ k,n=k+1:=⟨n - 1,by omega⟩
   have hlt:i<l.length:=by omega
   rw [hs n i _ (Qz2 hlt) (by simpa using hlt),List.drop_eq_getElem_cons hlt]
   simp only [Qxf]
   cases g l[i]
   · rw [cond_false,cond_false,Qyc i (by omega)]
     have:=ih (i+1) n (by omega) (by omega) (by omega)
     simpa using this
   · rfl
 simpa using key l.length 0 n (by omega) (by omega) hn
theorem Q7k {fu:Nat} {l:List Typ} (f:Typ→Option Bool) (g:Typ→Bool) (hg:∀ x∈l,f x=some (g x)) (hl:l.length≤1048576) (hf:l.length<fu):Qbl fu l f=some (Qxf g l 0):=by
 unfold Qbl
 refine Quj l (λn i=>Qa3 fu l f n i) g (by omega) ?_ ?_ fu hf
 · intro n i x hx hd
   simp only [Qa3.eq_2]
   unfold Qcn
   simp only [hd,cond_true,hx,Qaa,hg x (Qi2 hx)]
 · intro n i hd
   simp only [Qa3.eq_2]
   unfold Qcn
   simp only [hd,cond_false]
theorem Q2i {fu:Nat} {l:List Typ} (f:Typ→Option Bool) (g:Typ→Bool) (hg:∀ x∈l,f x=some (g x)) (hl:l.length≤1048576) (hf:l.length<fu):Qav fu l f=some (l.any g):=by
 unfold Qav
 rw [Q7k f g hg hl hf,Qaa,Qua g l 0 (by omega)]
theorem Jbd {fu:Nat} {l:List Pair} (f:Pair→Option Bool) (g:Pair→Bool) (hg:∀ x∈l,f x=some (g x)) (hl:l.length≤1048576) (hf:l.length<fu):Qb9 fu l f=some (Qxf g l 0):=by
 unfold Qb9
 refine Quj l (λn i=>Qa2 fu l f n i) g (by omega) ?_ ?_ fu hf
 · intro n i x hx hd
   simp only [Qa2.eq_2]
   unfold Qco
   simp only [hd,cond_true,hx,Qaa,hg x (Qi2 hx)]
 · intro n i hd
   simp only [Qa2.eq_2]
   unfold Qco
   simp only [hd,cond_false]
theorem Q4w {fu:Nat} {l:List Pair} (f:Pair→Option Bool) (g:Pair→Bool) (hg:∀ x∈l,f x=some (g x)) (hl:l.length≤1048576) (hf:l.length<fu):Qa4 fu l f=some (l.any g):=by
 unfold Qa4
 rw [Jbd f g hg hl hf,Qaa,Qua g l 0 (by omega)]
theorem Q99 {fu:Nat} {l:List Item} (f:Item→Option Bool) (g:Item→Bool) (hg:∀ x∈l,f x=some (g x)) (hl:l.length≤1048576) (hf:l.length<fu):Qca fu l f=some (Qxf g l 0):=by
 unfold Qca
 refine Quj l (λn i=>Qa1 fu l f n i) g (by omega) ?_ ?_ fu hf
 · intro n i x hx hd
   simp only [Qa1.eq_2]
   unfold Qcm
   simp only [hd,cond_true,hx,Qaa,hg x (Qi2 hx)]
 · intro n i hd
   simp only [Qa1.eq_2]
   unfold Qcm
   simp only [hd,cond_false]
theorem Qyx {fu:Nat} {l:List Item} (f:Item→Option Bool) (g:Item→Bool) (hg:∀ x∈l,f x=some (g x)) (hl:l.length≤1048576) (hf:l.length<fu):Qa5 fu l f=some (l.any g):=by
 unfold Qa5
 rw [Q99 f g hg hl hf,Qaa,Qua g l 0 (by omega)]
theorem Jme {fu:Nat} {r:Request} (h:Sm fu r):Qov fu r=some (Q5a r):=by
 have hfu:=h.fu
 have h1:=h.items
 have h2:=h.types
 have h3:=h.pairs
 have e3:Qeg fu r fu 0 0=some (r.fV.all Qx0&&decide (Qx8 (r.fV.map (·.fF))≤12)):=by
  rw [lp r.fV (λn s i=>Qeg fu r n s i) Jhs (by omega) ?_ ?_ fu 0 (by omega),Q51 _ _ (by omega) (by omega)]
  · simp
  · intro n s i x xs hx hd ih
    simp only [Qeg.eq_2]
    unfold Qkr
    simp only [hd,cond_true,hx,Qaa,Jlr,ih]
    rfl
  · intro n s i hd
    simp only [Qeg.eq_2]
    unfold Qkr
    simp only [hd,cond_false]
    rfl
 have ep:Qa4 fu r.fR (λy34=>Qj3 fu y34)=some (!(r.fR.all prB)):=by
  rw [Q4w _ (λp=>!prB p) (λp _=>by
   unfold Qj3 prB
   simp only [Q1u,Qaa]
   cases inb p.fA 0 3 <;> rfl) h3 (by omega)]
  simp [List.not_all_eq_any_not]
 have et:Qav fu r.fU (λy34=>Qjx fu y34)=some (!(r.fU.all Q2w)):=by
  rw [Q2i _ (λp=>!Q2w p) (λp _=>by
   unfold Qjx
   rw [Jnn]; rfl) h2 (by omega)]
  simp [List.not_all_eq_any_not]
 unfold Qov Qoa Qoy Q5a
 rw [e3,ep,et]
 simp only [Q1u,Jnp,Qaa]
 have e8:decide ((r.fV.length:Int)>8)=!decide (r.fV.length≤8):=by
  by_cases hh:r.fV.length≤8
  · have:¬ ((r.fV.length:Int)>8):=by omega
    simp [hh,this]
  · have:(r.fV.length:Int)>8:=by omega
    simp [hh,this]
 have e16:decide ((r.fR.length:Int)>16)=!decide (r.fR.length≤16):=by
  by_cases hh:r.fR.length≤16
  · have:¬ ((r.fR.length:Int)>16):=by omega
    simp [hh,this]
  · have:(r.fR.length:Int)>16:=by omega
    simp [hh,this]
 rw [e8,e16]
 cases inb r.f0 0 1 <;> cases Qvu r.fJ <;> cases inb r.fG 1 4 <;> cases decide (r.fR.length≤16) <;> cases r.fR.all prB <;> cases inb (r.fU.length:Int) 1 5 <;> cases r.fU.all Q2w <;> cases inb r.fT 0 999 <;> cases decide (r.fV.length≤8) <;> rfl
theorem lpP {σ α β:Type} (l:List α) (L:Nat→σ→Int→Option β) (F:List α→List α→σ→Option β) (hl:l.length≤1099511627776)
    (hs:∀ n s pre x xs,l=pre++x::xs→ix l (pre.length:Int)=some x→decide ((pre.length:Int)<(l.length:Int))=true→(∀ s',L n s' (w64 ((pre.length:Int)+1))=F (pre++[x]) xs s')→L (n+1) s (pre.length:Int)=F pre (x::xs) s)
    (he:∀ n s,decide ((l.length:Int)<(l.length:Int))=false→L (n+1) s (l.length:Int)=F l [] s):∀ n s,l.length<n→L n s 0=F [] l s:=by
 have key:∀ (xs pre:List α) (n:Nat) (s:σ),l=pre++xs→xs.length<n→L n s (pre.length:Int)=F pre xs s:=by
  intro xs
  induction xs with
  | nil =>
   intro pre n s he' hn
   obtain ⟨n,rfl⟩:∃ k,n=k+1:=⟨n - 1,by omega⟩
   simp only [List.append_nil] at he'
   subst he'
   exact he n s (by simp)
  | cons x xs ih =>
   intro pre n s he' hn
   obtain ⟨n,rfl⟩:∃ k,n=k+1:=⟨n - 1,by simp at hn; omega⟩
   have hlen:l.length=pre.length+(xs.length+1):=by rw [he']; simp
   refine hs n s pre x xs he' ?_ (by simp; omega) λs'=>?_
   · rw [Qh3,he']; simp
   · rw [Qyc _ (by omega)]
     have:=ih (pre++[x]) n s' (by simp [he']) (by simp at hn; omega)
     simpa using this
 intro n s hn
 simpa using key l [] n s rfl hn
theorem Jel {α:Type} {pre rest:List α} {i:Int} {y:α} (h:ix pre i=some y):ix (pre++rest) i=some y:=by
 obtain ⟨h0,h1,h2⟩:=Qah h
 unfold ix
 rw [if_pos h0,List.getElem?_append_left (by omega),h2]
theorem Jmj (a b:Int):(a==b)=(b==a):=Bool.eq_iff_iff.2 (by simp only [beq_iff_eq]; exact ⟨Eq.symm,Eq.symm⟩)
theorem Qzn {fu:Nat} {r:Request} (h:Sm fu r) (id:Int):Qh5 fu r id=some (Qyi (Qt1 r id)):=by
 have hfu:=h.fu
 have ht:=h.types
 unfold Qh5 Qt1
 rw [Q7k (λy24=>Qp1 fu y24 id) (λt=>t.ft==id) (λt _=>rfl) ht (by omega),Qaa]
 rcases Q31 (λt:Typ=>t.ft==id) r.fU [] with ⟨h1,h2⟩ | ⟨h1,x,h2,h3⟩
 · simp only [List.length_nil] at h1
   rw [Qao (by simpa using h1),h2]; rfl
 · simp only [List.length_nil,List.nil_append] at h1 h3
   rw [Qaf (by simpa using h1),h2]
   have h3':ix r.fU (Qxf (λt=>t.ft==id) r.fU 0)=some x:=h3
   rw [h3']; rfl
theorem Q84 {fu:Nat} {r:Request} (h:Sm fu r):Qfm fu r=some (Qyi (Qt1 r r.fT)):=by
 have hfu:=h.fu
 have ht:=h.types
 unfold Qfm Qt1
 refine lp r.fU (λn (_:Unit) i=>Qfx fu r n i) (λl _=>some (Qyi (l.find? λt=>t.ft==r.fT))) (by omega) ?_ ?_ fu () (by omega)
 · intro n s i x xs hx hd ih
   simp only [Qfx.eq_2]
   unfold Qks
   simp only [hd,cond_true,hx,Qaa,ih (),List.find?_cons]
   cases x.ft==r.fT <;> rfl
 · intro n s i hd
   simp only [Qfx.eq_2]
   unfold Qks
   simp only [hd,cond_false]
   rfl
theorem Jgs {fu:Nat} {r:Request} (h:Sm fu r):Qh8 fu r=some (Qyi (Qt1 r r.fT)):=by
 unfold Qh8
 rw [Qzn h]; rfl
theorem Q1t (o:Option Typ):(Qyi o).2=o.isSome:=by cases o <;> rfl
theorem Jnj {fu:Nat} {r:Request} (h:Sm fu r):Qqy fu r=some (Jae r):=by
 have hfu:=h.fu
 have h1:=h.items
 have h2:=h.types
 have h3:=h.pairs
 have e11:Qda fu r fu 0=some (!(r.fR.any λp=>decide (p.fA≥r.fG)||decide (p.fB≥r.fG))&&(Qt1 r r.fT).isSome):=by
  refine lp r.fR (λn (_:Unit) i=>Qda fu r n i) (λl _=>some (!(l.any λp=>decide (p.fA≥r.fG)||decide (p.fB≥r.fG))&&(Qt1 r r.fT).isSome)) (by omega) ?_ ?_ fu () (by omega)
  · intro n s i x xs hx hd ih
    simp only [Qda.eq_2]
    unfold Qnf Qpq
    simp only [hd,cond_true,hx,Qaa,ih (),List.any_cons]
    cases decide (x.fA≥r.fG) <;> cases decide (x.fB≥r.fG) <;> rfl
  · intro n s i hd
    simp only [Qda.eq_2]
    unfold Qnf
    simp only [hd,cond_false,Q84 h,Qaa,Q1t]
    rfl
 have e7:∀ b,Qda fu r fu 0=some b→Qbi fu r fu 0=some (Jcb r.fG [] r.fV&&b):=by
  intro b hb
  refine lpP r.fV (λn (_:Unit) i=>Qbi fu r n i) (λpre l _=>some (Jcb r.fG pre l&&b)) (by omega) ?_ ?_ fu () (by omega)
  · intro n s pre x xs hl hx hd ih
    simp only [Qbi.eq_2]
    unfold Qm0
    simp only [hd,cond_true,hx,Qaa,Jcb]
    cases hc:decide (x.fK≥r.fG)
    · have hpl:pre.length≤r.fV.length:=by rw [hl]; simp
      have e8:Qeb fu (λi=>Qbi fu r n i) r (pre.length:Int) fu 0=bif pre.any (λy=>y.ft==x.ft) then some false else Qbi fu r n (w64 ((pre.length:Int)+1)):=by
       refine lp pre (λm (_:Unit) i=>Qeb fu (λi=>Qbi fu r n i) r (pre.length:Int) m i) (λl _=>bif l.any (λy=>y.ft==x.ft) then some false else Qbi fu r n (w64 ((pre.length:Int)+1))) (by omega) ?_ ?_ fu () (by omega)
       · intro m s i y ys hy hd ih
         simp only [Qeb.eq_2]
         unfold Qmr
         have hy':ix r.fV i=some y:=by rw [hl]; exact Jel hy
         simp only [hd,cond_true,hx,hy',Qaa,ih (),List.any_cons]
         rw [Jmj x.ft y.ft]
         cases y.ft==x.ft <;> rfl
       · intro m s i hd
         simp only [Qeb.eq_2]
         unfold Qmr
         simp only [hd,cond_false]
         rfl
      have e8':Qeb fu (Qbi fu r n) r (pre.length:Int) fu 0=bif pre.any (λy=>y.ft==x.ft) then some false else Qbi fu r n (w64 ((pre.length:Int)+1)):=e8
      rw [cond_false,e8',ih ()]
      cases pre.any (λy=>y.ft==x.ft) <;> rfl
    · rfl
  · intro n s hd
    simp only [Qbi.eq_2]
    unfold Qm0
    simp only [hd,cond_false,hb]
    rfl
 have e3:∀ b,Qbi fu r fu 0=some b→Qbn fu r fu 0=some (Q8n Typ.ft [] r.fU&&b):=by
  intro b hb
  refine lpP r.fU (λn (_:Unit) i=>Qbn fu r n i) (λpre l _=>some (Q8n Typ.ft pre l&&b)) (by omega) ?_ ?_ fu () (by omega)
  · intro n s pre x xs hl hx hd ih
    simp only [Qbn.eq_2]
    unfold Qm7
    simp only [hd,cond_true,Q8n]
    have hpl:pre.length≤r.fU.length:=by rw [hl]; simp
    have e8:Qd9 fu (λi=>Qbn fu r n i) r (pre.length:Int) fu 0=bif pre.any (λy=>y.ft==x.ft) then some false else Qbn fu r n (w64 ((pre.length:Int)+1)):=by
     refine lp pre (λm (_:Unit) i=>Qd9 fu (λi=>Qbn fu r n i) r (pre.length:Int) m i) (λl _=>bif l.any (λy=>y.ft==x.ft) then some false else Qbn fu r n (w64 ((pre.length:Int)+1))) (by omega) ?_ ?_ fu () (by omega)
     · intro m s i y ys hy hd ih
       simp only [Qd9.eq_2]
       unfold Ql5
       have hy':ix r.fU i=some y:=by rw [hl]; exact Jel hy
       simp only [hd,cond_true,hx,hy',Qaa,ih (),List.any_cons]
       rw [Jmj x.ft y.ft]
       cases y.ft==x.ft <;> rfl
     · intro m s i hd
       simp only [Qd9.eq_2]
       unfold Ql5
       simp only [hd,cond_false]
       rfl
    have e8':Qd9 fu (Qbn fu r n) r (pre.length:Int) fu 0=bif pre.any (λy=>y.ft==x.ft) then some false else Qbn fu r n (w64 ((pre.length:Int)+1)):=e8
    rw [e8',ih ()]
    cases pre.any (λy=>y.ft==x.ft) <;> rfl
  · intro n s hd
    simp only [Qbn.eq_2]
    unfold Qm7
    simp only [hd,cond_false,hb]
    rfl
 unfold Qqy Jae
 rw [e3 _ (e7 _ e11)]
 congr 1
 cases Q8n Typ.ft [] r.fU <;> cases Jcb r.fG [] r.fV <;> cases (Qt1 r r.fT).isSome <;> cases r.fR.any λp=>decide (p.fA≥r.fG)||decide (p.fB≥r.fG) <;> rfl
theorem Q9v {α:Type} {l pre xs:List α} {x:α} (h:l=pre++x::xs):sls l 0 (pre.length:Int)=some pre:=by
 rw [Qor ⟨by omega,by omega,by rw [h]; simp; omega⟩]
 simp [h]
theorem Jm6 {fu:Nat} {r:Request} (h:Sm fu r):Qqd fu r=some (Jae r):=by
 have hfu:=h.fu
 have h1:=h.items
 have h2:=h.types
 have h3:=h.pairs
 have e4:Qdb fu r fu 0=some (Jcb r.fG [] r.fV&&((Qt1 r r.fT).isSome&&!(r.fR.any λp=>decide (p.fA≥r.fG)||decide (p.fB≥r.fG)))):=by
  refine lpP r.fV (λn (_:Unit) i=>Qdb fu r n i) (λpre l _=>some (Jcb r.fG pre l&&((Qt1 r r.fT).isSome&&!(r.fR.any λp=>decide (p.fA≥r.fG)||decide (p.fB≥r.fG))))) (by omega) ?_ ?_ fu () (by omega)
  · intro n s pre x xs hl hx hd ih
    simp only [Qdb.eq_2]
    unfold Qnd Qpp
    have hpl:pre.length≤r.fV.length:=by rw [hl]; simp
    simp only [hd,cond_true,hx,Qaa,Q9v hl,Qyx (λy=>Qrk fu y x) (λy=>y.ft==x.ft) (λy _=>rfl) (show pre.length≤1048576 by omega) (show pre.length<fu by omega),Jcb,ih ()]
    cases decide (x.fK≥r.fG) <;> cases pre.any (λy=>y.ft==x.ft) <;> rfl
  · intro n s hd
    simp only [Qdb.eq_2]
    unfold Qnd
    simp only [hd,cond_false,Jgs h,Qaa,Q1t]
    rw [Q4w (λy=>Qln fu y r) (λp=>decide (p.fA≥r.fG)||decide (p.fB≥r.fG)) (λp _=>by
     unfold Qln
     cases decide (p.fA≥r.fG) <;> rfl) h3 (by omega),Qaa]
    cases (Qt1 r r.fT).isSome <;> rfl
 have e3:∀ b,Qdb fu r fu 0=some b→Qe6 fu r fu 0=some (Q8n Typ.ft [] r.fU&&b):=by
  intro b hb
  refine lpP r.fU (λn (_:Unit) i=>Qe6 fu r n i) (λpre l _=>some (Q8n Typ.ft pre l&&b)) (by omega) ?_ ?_ fu () (by omega)
  · intro n s pre x xs hl hx hd ih
    simp only [Qe6.eq_2]
    unfold Qnk
    have hpl:pre.length≤r.fU.length:=by rw [hl]; simp
    simp only [hd,cond_true,hx,Qaa,Q9v hl,Q2i (λy=>Qrb fu y x) (λy=>y.ft==x.ft) (λy _=>rfl) (show pre.length≤1048576 by omega) (show pre.length<fu by omega),Q8n,ih ()]
    cases pre.any (λy=>y.ft==x.ft) <;> rfl
  · intro n s hd
    simp only [Qe6.eq_2]
    unfold Qnk
    simp only [hd,cond_false,hb]
    rfl
 unfold Qqd Jae
 rw [e3 _ e4]
 congr 1
 cases Q8n Typ.ft [] r.fU <;> cases Jcb r.fG [] r.fV <;> cases (Qt1 r r.fT).isSome <;> cases r.fR.any λp=>decide (p.fA≥r.fG)||decide (p.fB≥r.fG) <;> rfl
theorem Jka {fu:Nat} {l:List Pair} (hl:l.length≤1048576) (hf:l.length<fu) (a b:Int):Qfj fu l a b=some (Qtz l a b):=by
 unfold Qfj Qtz
 refine lp l (λn (_:Unit) i=>Qf9 fu l a b n i) (λl _=>some (l.any λp=>p.fA==a&&p.fB==b)) (by omega) ?_ ?_ fu () hf
 · intro n s i x xs hx hd ih
   simp only [Qf9.eq_2]
   unfold Qn9 Ql4
   simp only [hd,cond_true,hx,Qaa,ih (),List.any_cons]
   cases x.fA==a <;> cases x.fB==b <;> rfl
 · intro n s i hd
   simp only [Qf9.eq_2]
   unfold Qn9
   simp only [hd,cond_false]
   rfl
theorem Jfp {fu:Nat} {l:List Pair} (hl:l.length≤1048576) (hf:l.length<fu) (a b:Int):Qhq fu l a b=some (Qtz l a b):=by
 unfold Qhq Qdl Qee Qtz
 have:=Quj l (λn i=>Qba fu l (⟨a,b⟩:Pair) n i) (λp=>p.fA==a&&p.fB==b) (by omega) (by
  intro n i x hx hd
  simp only [Qba.eq_2]
  unfold Qc6
  simp only [hd,cond_true,hx,Qaa]
  have:decide ((⟨a,b⟩:Pair)=x)=(x.fA==a&&x.fB==b):=by
   rcases x with ⟨c,d⟩
   apply Bool.eq_iff_iff.2
   simp only [decide_eq_true_eq,Pair.mk.injEq,Bool.and_eq_true,beq_iff_eq]
   exact ⟨λ⟨h1,h2⟩=>⟨h1.symm,h2.symm⟩,λ⟨h1,h2⟩=>⟨h1.symm,h2.symm⟩⟩
  rw [this]) (by
  intro n i hd
  simp only [Qba.eq_2]
  unfold Qc6
  simp only [hd,cond_false]) fu hf
 rw [this,Qaa,Qua _ l 0 (by omega),Qaa]
theorem Jlo {fu:Nat} {l:List Pair} (hl:l.length≤1048576) (hf:l.length<fu) (h64:64<fu) (c:Int):Qqo fu l c=some (Jcn l c):=by
 unfold Qqo Jcn
 rw [Q1u,Qaa]
 cases hc:inb c 1 4
 · rfl
 rw [Qcb] at hc
 simp only [Bool.not_true,cond_false,Bool.true_and]
 have e4:∀ (k:Int→Option Bool) (a:Int),Qey fu k l c a fu 0=bif (Qjw 0 c.toNat).all λb=>Qtz l a b==Qtz l b a then k (w64 (a+1)) else some false:=by
  intro k a
  refine lpN c (λn (_:Unit) i=>Qey fu k l c a n i) (λxs _=>bif xs.all λb=>Qtz l a b==Qtz l b a then k (w64 (a+1)) else some false) (by omega) ?_ ?_ c.toNat fu () 0 (by omega) (by omega) (by omega)
  · intro n s i xs h0 h1 hd ih
    simp only [Qey.eq_2]
    unfold Qm2
    simp only [hd,cond_true,Jfp hl hf,Qaa,ih (),List.all_cons]
    cases Qtz l a i==Qtz l i a <;> rfl
  · intro n s i hd
    simp only [Qey.eq_2]
    unfold Qm2
    simp only [hd,cond_false]
    rfl
 refine lpN c (λn (_:Unit) i=>Qe5 fu l c n i) (λxs _=>some (xs.all λa=>Qtz l a a&&(Qjw 0 c.toNat).all λb=>Qtz l a b==Qtz l b a)) (by omega) ?_ ?_ c.toNat fu () 0 (by omega) (by omega) (by omega)
 · intro n s i xs h0 h1 hd ih
   simp only [Qe5.eq_2]
   unfold Qm8
   simp only [hd,cond_true,Jfp hl hf,Qaa,e4,ih (),List.all_cons]
   cases Qtz l i i <;> cases (Qjw 0 c.toNat).all λb=>Qtz l i b==Qtz l b i <;> rfl
 · intro n s i hd
   simp only [Qe5.eq_2]
   unfold Qm8
   simp only [hd,cond_false]
   rfl
theorem Jm7 {fu:Nat} {l:List Pair} (hl:l.length≤1048576) (hf:l.length<fu) (h64:64<fu) (c:Int):Qqa fu l c=some (Jcn l c):=by
 unfold Qqa Jcn
 rw [Q0b,Qaa]
 cases hc:inb c 1 4
 · rfl
 rw [Qcb] at hc
 simp only [Bool.not_true,cond_false,Bool.true_and]
 have e4:∀ (k:Int→Option Bool) (a:Int),Qd5 fu k l c a fu 0=bif (Qjw 0 c.toNat).all λb=>(!(a==b)||Qtz l a a)&&(Qtz l a b==Qtz l b a) then k (w64 (a+1)) else some false:=by
  intro k a
  refine lpN c (λn (_:Unit) i=>Qd5 fu k l c a n i) (λxs _=>bif xs.all λb=>(!(a==b)||Qtz l a a)&&(Qtz l a b==Qtz l b a) then k (w64 (a+1)) else some false) (by omega) ?_ ?_ c.toNat fu () 0 (by omega) (by omega) (by omega)
  · intro n s i xs h0 h1 hd ih
    simp only [Qd5.eq_2]
    unfold Qmu Qkl
    simp only [hd,cond_true,Jka hl hf,Qaa,ih (),List.all_cons]
    cases a==i <;> cases Qtz l a a <;> cases Qtz l a i==Qtz l i a <;> rfl
  · intro n s i hd
    simp only [Qd5.eq_2]
    unfold Qmu
    simp only [hd,cond_false]
    rfl
 have e9:Qdh fu l c fu 0=some ((Qjw 0 c.toNat).all λa=>(Qjw 0 c.toNat).all λb=>(!(a==b)||Qtz l a a)&&(Qtz l a b==Qtz l b a)):=by
  refine lpN c (λn (_:Unit) i=>Qdh fu l c n i) (λxs _=>some (xs.all λa=>(Qjw 0 c.toNat).all λb=>(!(a==b)||Qtz l a a)&&(Qtz l a b==Qtz l b a))) (by omega) ?_ ?_ c.toNat fu () 0 (by omega) (by omega) (by omega)
  · intro n s i xs h0 h1 hd ih
    simp only [Qdh.eq_2]
    unfold Ql6
    simp only [hd,cond_true,e4,ih (),List.all_cons]
    cases (Qjw 0 c.toNat).all λb=>(!(i==b)||Qtz l i i)&&(Qtz l i b==Qtz l b i) <;> rfl
  · intro n s i hd
    simp only [Qdh.eq_2]
    unfold Ql6
    simp only [hd,cond_false]
    rfl
 rw [e9]
 congr 1
 apply Bool.eq_iff_iff.2
 simp only [List.all_eq_true,Bool.and_eq_true,Bool.or_eq_true,Bool.not_eq_true',beq_eq_false_iff_ne,beq_iff_eq]
 constructor
 · intro h a ha
   refine ⟨?_,λb hb=>(h a ha b hb).2⟩
   rcases (h a ha a ha).1 with h1 | h1
   · exact absurd rfl h1
   · exact h1
 · intro h a ha b hb
   exact ⟨.inr (h a ha).1,(h a ha).2 b hb⟩
theorem Jnz {l:List Int} (h:l.length=3):∃ p q s,l=[p,q,s]:=by
 match l,h with
 | [p,q,s],_=>exact ⟨p,q,s,rfl⟩
theorem Ji0 {fu:Nat} (hfu:2097153≤fu) (a b c:Int):Qlb fu a b c=some [(sid a b c).1,(sid a b c).2.1,(sid a b c).2.2]:=by
 unfold Qlb
 rw [Jn3 hfu (by simp),Qaa,show [a,b,c].length=3 from rfl]
 have hp:=Qvd (kf [a,b,c]) 3
 have hs:=Qwy (kf [a,b,c]) 3
 obtain ⟨p,q,s,hq⟩:=Jnz (Qtu (kf [a,b,c]) 3)
 rw [hq] at hp hs ⊢
 have hmem:∀ x∈[p,q,s],0≤x∧x<3:=λx hx=>by
  have:=Qhn.1 (hp.mem_iff.1 hx)
  omega
 have k1:=Q5h (keys:=[a,b,c]) (p:=p) (by have:=hmem p (by simp); simpa using this)
 have k2:=Q5h (keys:=[a,b,c]) (p:=q) (by have:=hmem q (by simp); simpa using this)
 have k3:=Q5h (keys:=[a,b,c]) (p:=s) (by have:=hmem s (by simp); simpa using this)
 rw [show ix [p,q,s] 0=some p from rfl,show ix [p,q,s] 1=some q from rfl,show ix [p,q,s] 2=some s from rfl]
 simp only [Qaa,k1,k2,k3]
 have hp3:([a,b,c]).Perm [kf [a,b,c] p,kf [a,b,c] q,kf [a,b,c] s]:=(hp.map (kf [a,b,c])).symm
 simp only [List.pairwise_cons,List.mem_cons,List.not_mem_nil,or_false,forall_eq_or_imp,forall_eq,lx] at hs
 have:=Jkk hp3 (by omega) (by omega)
 rw [this]
theorem Jfg {fu:Nat} (hfu:2097153≤fu) (x:Item) (t:Typ):Qpn fu x t=some (Q1c x t):=by
 unfold Qpn Q1c
 rw [Ji0 hfu,Ji0 hfu]
 simp only [Qaa]
 have e0:∀ a b c:Int,ix [a,b,c] 0=some a:=λ_ _ _=>rfl
 have e1:∀ a b c:Int,ix [a,b,c] 1=some b:=λ_ _ _=>rfl
 have e2:∀ a b c:Int,ix [a,b,c] 2=some c:=λ_ _ _=>rfl
 simp only [e0,e1,e2,Qaa]
 cases decide ((sid x.fW x.fH x.fD).1≤(sid t.fW t.fH t.fD).1) <;> cases decide ((sid x.fW x.fH x.fD).2.1≤(sid t.fW t.fH t.fD).2.1) <;> cases decide ((sid x.fW x.fH x.fD).2.2≤(sid t.fW t.fH t.fD).2.2) <;> rfl
theorem Jaw (a b c:Int):Q2n [a,b,c]=some [(sid a b c).1,(sid a b c).2.1,(sid a b c).2.2]:=by
 unfold Q2n
 rw [if_pos (by simp)]
 have hp:=List.mergeSort_perm [a,b,c] (λx y=>decide (x≤y))
 have hs:=Qu3 [a,b,c]
 obtain ⟨p,q,s,hq⟩:=Jnz (hp.length_eq)
 rw [hq] at hp hs ⊢
 simp only [List.pairwise_cons,List.mem_cons,List.not_mem_nil,or_false,forall_eq_or_imp,forall_eq] at hs
 rw [Jkk hp.symm (by omega) (by omega)]
theorem Jkf (fu:Nat) (x:Item) (t:Typ):Qsi fu x t=some (Q1c x t):=by
 unfold Qsi Qtr Qcl Q1c
 rw [Jaw,Jaw]
 have e0:∀ a b c:Int,ix [a,b,c] 0=some a:=λ_ _ _=>rfl
 have e1:∀ a b c:Int,ix [a,b,c] 1=some b:=λ_ _ _=>rfl
 have e2:∀ a b c:Int,ix [a,b,c] 2=some c:=λ_ _ _=>rfl
 simp only [Qaa,e0,e1,e2]
 cases decide ((sid x.fW x.fH x.fD).1≤(sid t.fW t.fH t.fD).1) <;> cases decide ((sid x.fW x.fH x.fD).2.1≤(sid t.fW t.fH t.fD).2.1) <;> cases decide ((sid x.fW x.fH x.fD).2.2≤(sid t.fW t.fH t.fD).2.2) <;> rfl
theorem Q01 {fu:Nat} {r:Request} (h:Sm fu r):Qd6 fu r=some (Qhg r):=by
 have hfu:=h.fu
 have h1:=h.items
 have h2:=h.types
 have h3:=h.pairs
 have e4:Qfr fu r fu 0=some (bif r.fU.any (Q8i r.fJ) then 6 else 0):=by
  refine lp r.fU (λn (_:Unit) i=>Qfr fu r n i) (λl _=>some (bif l.any (Q8i r.fJ) then 6 else 0)) (by omega) ?_ ?_ fu () (by omega)
  · intro n s i x xs hx hd ih
    simp only [Qfr.eq_2]
    unfold Qpu Qsu
    simp only [hd,cond_true,hx,Qaa,ih (),List.any_cons,Q8i]
    cases decide (x.fW>r.fJ.fW) <;> cases decide (x.fD>r.fJ.fD) <;> cases decide (x.fH>r.fJ.fH) <;> cases decide (w64 (x.qQ+x.fQ)>r.fJ.fQ) <;> rfl
  · intro n s i hd
    simp only [Qfr.eq_2]
    unfold Qpu
    simp only [hd,cond_false]
    rfl
 unfold Qd6 Qhg
 rw [Jl4 h,Qaa,Jnj h,Qaa,Jm7 h3 (by omega) (by omega),Qaa,Q84 h,Qaa]
 have e1:Qg6 fu r (Qyi (Qt1 r r.fT)) fu 0=some (bif !(r.fV.all λx=>Q1c x (Qxp r)) then 5 else bif r.fU.any (Q8i r.fJ) then 6 else 0):=by
  refine lp r.fV (λn (_:Unit) i=>Qg6 fu r (Qyi (Qt1 r r.fT)) n i) (λl _=>some (bif !(l.all λx=>Q1c x (Qxp r)) then 5 else bif r.fU.any (Q8i r.fJ) then 6 else 0)) (by omega) ?_ ?_ fu () (by omega)
  · intro n s i x xs hx hd ih
    simp only [Qg6.eq_2]
    unfold Qp5
    simp only [hd,cond_true,hx,Qaa,Jfg hfu,ih (),List.all_cons]
    rw [show (Qyi (Qt1 r r.fT)).1=Qxp r from rfl]
    cases Q1c x (Qxp r) <;> rfl
  · intro n s i hd
    simp only [Qg6.eq_2]
    unfold Qp5
    simp only [hd,cond_false,e4]
    rfl
 rw [e1]
 cases Q5a r <;> cases Jae r <;> cases Jcn r.fR r.fG <;> rfl
theorem Jk7 {fu:Nat} {r:Request} (h:Sm fu r):Qq5 fu r=some (Qhg r):=by
 have hfu:=h.fu
 have h1:=h.items
 have h2:=h.types
 have h3:=h.pairs
 unfold Qq5 Qhg
 rw [Jgs h,Qaa,Jme h,Qaa,Jm6 h,Qaa,Jlo h3 (by omega) (by omega),Qaa]
 rw [Qyx (λy=>Qqp fu y (Qyi (Qt1 r r.fT)).1) (λx=>!Q1c x (Qxp r)) (λx _=>by
  unfold Qqp
  rw [Jkf,Qaa]; rfl) h1 (by omega),Qaa]
 rw [Q2i (λy=>Qqx fu y r.fJ) (Q8i r.fJ) (λx _=>by
  unfold Qqx Q8i
  cases decide (x.fW>r.fJ.fW) <;> cases decide (x.fD>r.fJ.fD) <;> cases decide (x.fH>r.fJ.fH) <;> rfl) h2 (by omega),Qaa]
 rw [show (r.fV.any λx=>!Q1c x (Qxp r))=!(r.fV.all λx=>Q1c x (Qxp r)) by simp [List.not_all_eq_any_not]]
 cases Q5a r <;> cases Jae r <;> cases Jcn r.fR r.fG <;> cases r.fV.all λx=>Q1c x (Qxp r) <;> cases r.fU.any (Q8i r.fJ) <;> rfl
theorem Qu8 {fu:Nat} {r:Request} (h:Sm fu r):Qfp fu r=some (Qhg r==0):=by
 unfold Qfp
 rw [Jk7 h]; rfl
theorem Jei {σ α β:Type} (l:List α) (L:Nat→σ→Int→Option β) (F:List α→List α→σ→Option β) (I:List α→List α→σ→Prop) (hl:l.length≤1099511627776)
    (hs:∀ n s pre x xs,l=pre++x::xs→ix l (pre.length:Int)=some x→decide ((pre.length:Int)<(l.length:Int))=true→I pre (x::xs) s→(∀ s',I (pre++[x]) xs s'→L n s' (w64 ((pre.length:Int)+1))=F (pre++[x]) xs s')→L (n+1) s (pre.length:Int)=F pre (x::xs) s)
    (he:∀ n s,decide ((l.length:Int)<(l.length:Int))=false→I l [] s→L (n+1) s (l.length:Int)=F l [] s):∀ n s,I [] l s→l.length<n→L n s 0=F [] l s:=by
 have key:∀ (xs pre:List α) (n:Nat) (s:σ),l=pre++xs→I pre xs s→xs.length<n→L n s (pre.length:Int)=F pre xs s:=by
  intro xs
  induction xs with
  | nil =>
   intro pre n s he' hI hn
   obtain ⟨n,rfl⟩:∃ k,n=k+1:=⟨n - 1,by omega⟩
   simp only [List.append_nil] at he'
   subst he'
   exact he n s (by simp) hI
  | cons x xs ih =>
   intro pre n s he' hI hn
   obtain ⟨n,rfl⟩:∃ k,n=k+1:=⟨n - 1,by simp at hn; omega⟩
   have hlen:l.length=pre.length+(xs.length+1):=by rw [he']; simp
   refine hs n s pre x xs he' ?_ (by simp; omega) hI λs' hI'=>?_
   · rw [Qh3,he']; simp
   · rw [Qyc _ (by omega)]
     have:=ih (pre++[x]) n s' (by simp [he']) hI' (by simp at hn; omega)
     simpa using this
 intro n s hI hn
 simpa using key l [] n s rfl hI hn
theorem Qy7 {x:Item} (h:Qx0 x=true):1≤x.fF∧x.fF≤6:=by
 simp only [Qx0,Bool.and_eq_true,Qcb] at h
 omega
theorem Jed {xs:List Item} (h:∀ x∈xs,Qx0 x=true):0≤Qx8 (xs.map (·.fF)):=Jaj _ _ λx hx=>by have:=Qy7 (h x hx); omega
theorem Jl6 {fu:Nat} {r:Request} (h:Sm fu r) (hb:Q5a r=true):Qcs fu r=some (l6M r):=by
 have hfu:=h.fu
 obtain ⟨hi,hs,hl⟩:=Qsz hb
 have e4:∀ (k:List Int→Int→Option (List Int)) (i:Int) (x:Item),ix r.fV i=some x→∀ (m n:Nat) (c:Int) (out:List Int),0≤c→c≤x.fF→(x.fF - c).toNat=m→x.fF≤6→m<n→out.length+m≤100 →
     Qg0 fu k r i n out c=k (out++List.replicate m i) (w64 (i+1)):=by
  intro k i x hx m
  induction m with
  | zero =>
   intro n c out h0 h1 h2 h3 h4 h5
   obtain ⟨n,rfl⟩:∃ j,n=j+1:=⟨n - 1,by omega⟩
   rw [Qg0.eq_2]
   unfold Qmx
   rw [hx,Qaa,Qaf (by simp; omega)]
   simp
  | succ m ih =>
   intro n c out h0 h1 h2 h3 h4 h5
   obtain ⟨n,rfl⟩:∃ j,n=j+1:=⟨n - 1,by omega⟩
   rw [Qg0.eq_2]
   unfold Qmx
   rw [hx,Qaa,Qao (by simp; omega),ap1 (by simp; omega),Qaa,Qam (by omega) (by omega),ih n (c+1) (out++[i]) (by omega) (by omega) (by omega) h3 (by omega) (by simp; omega)]
   rw [List.append_assoc,List.singleton_append,← List.replicate_succ]
 unfold Qcs l6M
 have:=Jei r.fV (λn out i=>Qd4 fu r n out i) (λpre xs out=>some (out++Q8h (pre.length:Int) xs)) (λpre xs out=>(out.length:Int)+Qx8 (xs.map (·.fF))≤12∧∀ x∈xs,Qx0 x=true) (by omega) ?_ ?_ fu [] ⟨by simpa using hs,hi⟩ (by omega)
 · simpa using this
 · intro n out pre x xs hl' hx hd hI ih
   simp only [Qd4.eq_2]
   unfold Ql7
   have hc:=Qy7 (hI.2 x (by simp))
   have hsum:=hI.1
   have hnn:=Jed (λy hy=>hI.2 y (by simp [hy]):∀ y∈xs,Qx0 y=true)
   simp only [List.map_cons,Qq2] at hsum
   have e:=e4 (Qd4 fu r n) (pre.length:Int) x hx x.fF.toNat fu 0 out (by omega) (by omega) (by omega) (by omega) (by omega) (by omega)
   rw [hd,cond_true,e,ih _ ⟨by simp; omega,λy hy=>hI.2 y (by simp [hy])⟩]
   simp [Q8h]
 · intro n out hd hI
   simp only [Qd4.eq_2]
   unfold Ql7
   simp only [hd,cond_false]
   simp [Q8h]
theorem Jjx {fu:Nat} {r:Request} (h:Sm fu r) (hc:Qhg r=0):Qcs fu r=some (Qi6 r):=by
 unfold Qi6
 rw [Jl6 h (Qfn hc).1,Qao (by simp [hc])]
theorem Jmt {fu:Nat} {r:Request} (h:Sm fu r):Qtg fu r=some (Qi6 r):=by
 unfold Qtg Qi6
 rw [Q01 h,Qaa]
 by_cases hc:Qhg r=0
 · rw [Qaf (by simp [hc]),Jl6 h (Qfn hc).1,Qaa,Qao (by simp [hc])]
 · rw [Qao (by simp [hc]),Qaf (by simp [hc])]
theorem Joh (fu:Nat) (c:Int) (h:1≤c∧c≤6):Qw4 fu (IntKind.wrap .u64 1) (IntKind.wrap .u64 c)=some (0,c):=by
 have:c=1∨c=2∨c=3∨c=4∨c=5∨c=6:=by omega
 rcases this with rfl | rfl | rfl | rfl | rfl | rfl <;> rfl
theorem Jl2 (m:Nat) (i:Int):Qbp (m+10) [i] (0,1)=some (List.replicate 1 i):=by kernel_rfl
theorem Jmq (m:Nat) (i:Int):Qbp (m+10) [i] (0,2)=some (List.replicate 2 i):=by kernel_rfl
theorem Jl0 (m:Nat) (i:Int):Qbp (m+10) [i] (0,3)=some (List.replicate 3 i):=by kernel_rfl
theorem Jmm (m:Nat) (i:Int):Qbp (m+10) [i] (0,4)=some (List.replicate 4 i):=by kernel_rfl
theorem Jlq (m:Nat) (i:Int):Qbp (m+10) [i] (0,5)=some (List.replicate 5 i):=by kernel_rfl
theorem Jln (m:Nat) (i:Int):Qbp (m+10) [i] (0,6)=some (List.replicate 6 i):=by kernel_rfl
theorem Jot {fu:Nat} (hfu:10≤fu) (i c:Int) (h:1≤c∧c≤6):Qgl fu [i] c=some (List.replicate c.toNat i):=by
 unfold Qgl Qhd
 rw [Qaf (by simp; omega)]
 rw [show (([i]:List Int).length:Int)=1 from rfl,Joh fu c h,Qaa,Qaf (by simp),Qaf (by simp; omega)]
 obtain ⟨m,rfl⟩:∃ m,fu=m+10:=⟨fu - 10,by omega⟩
 have:c=1∨c=2∨c=3∨c=4∨c=5∨c=6:=by omega
 rcases this with rfl | rfl | rfl | rfl | rfl | rfl
 · exact Jl2 m i
 · exact Jmq m i
 · exact Jl0 m i
 · exact Jmm m i
 · exact Jlq m i
 · exact Jln m i
theorem Jfo {fu:Nat} {r:Request} (h:Sm fu r):Qno fu r=some (Qi6 r):=by
 have hfu:=h.fu
 unfold Qno Qi6
 rw [Qu8 h,Qaa]
 by_cases hc:Qhg r=0
 · obtain ⟨hi,hs,hl⟩:=Qsz (Qfn hc).1
   rw [Qaf (by simp [hc]),Qao (by simp [hc])]
   unfold l6M
   have:=Jei r.fV (λn out i=>Qhx fu r n out i) (λpre xs out=>some (out++Q8h (pre.length:Int) xs)) (λpre xs out=>(out.length:Int)+Qx8 (xs.map (·.fF))≤12∧∀ x∈xs,Qx0 x=true) (by omega) ?_ ?_ fu [] ⟨by simpa using hs,hi⟩ (by omega)
   · simpa using this
   · intro n out pre x xs hl' hx hd hI ih
     simp only [Qhx.eq_2]
     unfold Qps
     have hc:=Qy7 (hI.2 x (by simp))
     have hsum:=hI.1
     have hnn:=Jed (λy hy=>hI.2 y (by simp [hy]):∀ y∈xs,Qx0 y=true)
     simp only [List.map_cons,Qq2] at hsum
     rw [hd,cond_true,hx,Qaa,Jot (by omega) _ _ hc,Qaa,ap1 (by simp; omega),Qaa,ih _ ⟨by simp; omega,λy hy=>hI.2 y (by simp [hy])⟩]
     simp [Q8h]
   · intro n out hd hI
     simp only [Qhx.eq_2]
     unfold Qps
     simp only [hd,cond_false]
     simp [Q8h]
 · rw [Qao (by simp [hc]),Qaf (by simp [hc])]
theorem Jkm {fu:Nat} {l:List Int} (hl:l.length≤1048576) (hf:l.length<fu) (x:Int):Qq3 fu l x=some (l.contains x):=by
 unfold Qq3
 refine lp l (λn (_:Unit) i=>Qia fu l x n i) (λl _=>some (l.contains x)) (by omega) ?_ ?_ fu () hf
 · intro n s i y ys hy hd ih
   simp only [Qia.eq_2]
   unfold Qpo
   simp only [hd,cond_true,hy,Qaa,ih (),List.contains_cons]
   rw [Jmj y x]
   cases x==y <;> rfl
 · intro n s i hd
   simp only [Qia.eq_2]
   unfold Qpo
   simp only [hd,cond_false]
   rfl
theorem Jlu {fu:Nat} {l:List Int} (hl:l.length≤1048576) (hf:l.length<fu) (x:Int):Qfk fu l x=some (l.contains x):=by
 unfold Qfk Qiy
 have:=Quj l (λn i=>Qct fu l x n i) (λy=>x==y) (by omega) (by
  intro n i y hx hd
  simp only [Qct.eq_2]
  unfold Qg3
  simp only [hd,cond_true,hx,Qaa]) (by
  intro n i hd
  simp only [Qct.eq_2]
  unfold Qg3
  simp only [hd,cond_false]) fu hf
 rw [this,Qaa,Qua _ l 0 (by omega),List.contains_eq_any_beq]
theorem Jkn {fu:Nat} {p:List Pair} (hp:p.length≤1048576) (hpf:p.length<fu) {g:List Int} (hl:g.length≤1048576) (hf:g.length<fu) (c:Int):Qqq fu p g c=some (g.all (Q27 p c)):=by
 unfold Qqq
 refine lp g (λn (_:Unit) i=>Qeu fu p g c n i) (λl _=>some (l.all (Q27 p c))) (by omega) ?_ ?_ fu () hf
 · intro n s i y ys hy hd ih
   simp only [Qeu.eq_2]
   unfold Qnh Qp2
   simp only [hd,cond_true,hy,Qaa,ih (),Jka hp hpf,List.all_cons,Q27]
   cases Qtz p y c <;> cases Qtz p c y <;> rfl
 · intro n s i hd
   simp only [Qeu.eq_2]
   unfold Qnh
   simp only [hd,cond_false]
   rfl
theorem Jmp {fu:Nat} {r:Request} (h:Sm fu r):Qq0 fu r=some (Q4p r):=by
 have hfu:=h.fu
 have h1:=h.items
 unfold Qq0 Q4p
 rw [Q01 h,Qaa]
 by_cases hc:Qhg r=0
 · rw [show (Qhg r != 0)=false by simp [hc],show (Qhg r==0)=true by simp [hc],cond_false,cond_true]
   have e27:∀ (k:List Int→Int→Option (List Int)) (out:List Int) (c:Int),Qec fu k r out c fu false 0=bif r.fV.any (λx=>x.fK==c) then (Qab (Qc7 8 out [c]) λx=>k x (w64 (c+1))) else k out (w64 (c+1)):=by
    intro k out c
    refine lp r.fV (λn f i=>Qec fu k r out c n f i) (λl f=>bif f||l.any (λx=>x.fK==c) then (Qab (Qc7 8 out [c]) λx=>k x (w64 (c+1))) else k out (w64 (c+1))) (by omega) ?_ ?_ fu false (by omega)
    · intro n f i x xs hx hd ih
      simp only [Qec.eq_2]
      unfold Qm4 Qki
      simp only [hd,cond_true,hx,Qaa,ih,List.any_cons]
      cases f
      · rfl
      · rfl
    · intro n f i hd
      simp only [Qec.eq_2]
      unfold Qm4 Qka
      simp only [hd,cond_false,List.any_nil,Bool.or_false]
   have:=Q8g 4 (λn out i=>Qdf fu r n out i) (λxs out=>some (out++xs.filter λc=>r.fV.any λx=>x.fK==c)) (λxs out=>out.length+xs.length≤4) (by omega) ?_ ?_ 4 fu [] 0 (by omega) (by omega) (by omega) (by simp [Qjw])
   · simpa using this
   · intro n out i xs h0 h1 hd hI ih
     simp only [List.length_cons] at hI
     simp only [Qdf.eq_2]
     unfold Qms
     simp only [hd,cond_true,e27]
     cases hb:r.fV.any λx=>x.fK==i
     · rw [cond_false,ih out (by omega)]
       simp [hb]
     · rw [cond_true,ap1 (by simp; omega),Qaa,ih _ (by simp; omega)]
       simp [hb]
   · intro n out i hd hI
     simp only [Qdf.eq_2]
     unfold Qms
     simp only [hd,cond_false]
     simp
 · rw [show (Qhg r != 0)=true by simp [hc],show (Qhg r==0)=false by simp [hc],cond_false,cond_true]
theorem Q9n {fu:Nat} {l:List Int} (hl:l.length≤1048576):∃ k,Qjb fu l=some k∧k.Pairwise (·<·)∧∀ x,x∈k↔x∈l:=by
 unfold Qjb Qcw Qcl Qh1
 have hp:=List.mergeSort_perm l (λx y=>decide (x≤y))
 have hs:=Qu3 l
 rw [ap1 (by simp; omega),Qaa,Qaa,List.nil_append]
 unfold Q2n
 rw [if_pos (by omega),Qaa]
 unfold Jld
 rw [if_pos (by rw [hp.length_eq]; omega),Qaa]
 obtain ⟨h1,h2⟩:=Q0k _ hs
 exact ⟨_,rfl,h1,λx=>(h2 x).trans hp.mem_iff⟩
theorem Q1b {fu:Nat} {l:List Int} (hl:l.length≤1048576) (hs:l.Pairwise (·<·)):Qjb fu l=some l:=by
 obtain ⟨k,h1,h2,h3⟩:=Q9n (fu:=fu) hl
 rw [h1,Q8q h2 hs h3]
theorem Jm8 {fu:Nat} {r:Request} (h:Sm fu r):Qqt fu r=some (Q4p r):=by
 have hfu:=h.fu
 have h1:=h.items
 unfold Qqt
 rw [Qu8 h,Qaa]
 by_cases hc:Qhg r=0
 · rw [show (Qhg r==0)=true by simp [hc],Bool.not_true,cond_false]
   have:=lpI r.fV (λn out i=>Qgq fu r n out i) (λxs out=>Qab (Qjb fu (out++xs.map (·.fK))) λx=>some x) (λxs out=>out.length+xs.length≤1048576) (by omega) ?_ ?_ fu [] (by simpa using h1) (by omega)
   · rw [List.nil_append] at this
     refine this.trans ?_
     obtain ⟨k,e1,e2,e3⟩:=Q9n (fu:=fu) (l:=r.fV.map (·.fK)) (by simpa using h1)
     rw [e1,Qaa]
     congr 1
     refine Q8q e2 (Qvv r) λx=>?_
     rw [e3]
     unfold Q4p
     rw [show (Qhg r==0)=true by simp [hc],cond_true,List.mem_filter,Qhn,List.any_eq_true,List.mem_map]
     constructor
     · rintro ⟨y,hy,rfl⟩
       have:=(Qsz (Qfn hc).1).1 y hy
       simp only [Qx0,Bool.and_eq_true,Qcb] at this
       exact ⟨by omega,y,hy,by simp⟩
     · rintro ⟨_,y,hy,e⟩
       exact ⟨y,hy,by simpa using e⟩
   · intro n out i x xs hx hd hI ih
     simp only [List.length_cons] at hI
     simp only [Qgq.eq_2]
     unfold Qng
     simp only [hd,cond_true,hx,Qaa]
     rw [ap1 (by simp; omega),Qaa,ih _ (by simp; omega)]
     simp
   · intro n out i hd hI
     simp only [Qgq.eq_2]
     unfold Qng
     simp only [hd,cond_false]
     simp
 · rw [show (Qhg r==0)=false by simp [hc],Bool.not_false,cond_true]
   unfold Q4p
   rw [show (Qhg r==0)=false by simp [hc],cond_false]
theorem Q4e {α:Type} (g:α→Bool) (x:α):∀ (l:List α),Qyg g (l++[x])=match Qyg g l with | some i=>some i | none=>bif g x then some l.length else none
 | []=>by simp [Qyg]
 | y::ys=>by
  simp only [List.cons_append,Qyg]
  cases g y
  · simp only [cond_false]
    rw [Q4e g x ys]
    cases Qyg g ys <;> simp
    cases g x <;> simp
  · rfl
def atB {α:Type} (g:α→Bool) (l:List α) (i:Int):Bool:=match ix l i with | some x=>g x | none=>false
def Jen {α:Type} (g:α→Bool) (l:List α) (a i:Int):Int:=bif atB g l i then i else a
theorem Qy5 {α:Type} (g:α→Bool) (l:List α):∀ (m:Nat) (a:Int),m≤l.length→(Qvj m).foldl (Jen g l) a=match Qyg g (l.take m) with | some i=>(i:Int) | none=>a
 | 0,a,_=>by simp [Qvj,Qyg]
 | m+1,a,h=>by
  simp only [Qvj,List.foldl_cons]
  rw [Qy5 g l m _ (by omega),List.take_succ_eq_append_getElem (by omega),Q4e,List.length_take,Nat.min_eq_left (by omega)]
  unfold Jen atB
  rw [Qz2 (by omega)]
  cases Qyg g (l.take m) with
  | some i=>rfl
  | none =>
   simp only
   cases g l[m] <;> rfl
theorem Q2o {α:Type} (g:α→Bool):∀ (l:List α) (i:Int),Qxf g l i=match Qyg g l with | some j=>i+j | none=>-1
 | [],i=>rfl
 | x::xs,i=>by
  simp only [Qxf,Qyg]
  cases g x
  · simp only [cond_false]
    rw [Q2o g xs (i+1)]
    cases Qyg g xs with
    | none=>rfl
    | some j =>
     show i+1+(j:Int)=i+((j+1:Nat):Int)
     omega
  · simp
theorem Je3 {p:List Pair} {out:List (List Int)} {c:Int} {n:Nat} (h:okG n out) (hn:n≤1048576) {β:Type} (k:List (List Int)→Option β) (a:Int) (ha:a=match Qyg (λg=>g.all (Q27 p c)) out with | some i=>(i:Int) | none=>-1) :
    (bif (decide (a<0)) then Qab (Qc7 24 out [([c]:List Int)]) λx=>k x else Qab (ix out a) λx=>Qab (Qc7 8 x (([c]:List Int))) λy=>Qab (ix out a) λz=>k (Qi0 out a y))=k (Q9r p out c):=by
 obtain ⟨h1,h2⟩:=h
 unfold Q9r
 cases hf:Qyg (λg=>g.all (Q27 p c)) out with
 | none =>
  rw [hf] at ha
  simp only at ha
  subst ha
  rw [Qao (by simp),ap1 (by simp; omega),Qaa]
 | some i =>
  rw [hf] at ha
  simp only at ha
  subst ha
  obtain ⟨x,hx,_⟩:=Qzu hf
  have:=h2 x (List.mem_of_getElem? hx)
  rw [Qaf (by simp),Qh3,hx,Qaa,ap1 (by simp; omega),Qaa,Qaa]
  simp [Qi0,hx]
theorem Jij {fu:Nat} {p:List Pair} (hp:p.length≤1048576) (hfu:2097153≤fu) {l:List Int} (hl:l.length≤1048576):Qsg fu p l=some (((Qjw 0 4).filter l.contains).foldl (Q9r p) []):=by
 unfold Qsg
 have e27:∀ (k:List (List Int)→Int→Option (List (List Int))) (out:List (List Int)) (c:Int),okG 4 out→Qep fu k p out c fu (-1) (w64 ((out.length:Int) - 1))=k (Q9r p out c) (w64 (c+1)):=by
  intro k out c ho
  obtain ⟨R,hR⟩:∃ R:Int→Option (List (List Int)),R=λa=>bif (decide (a<0)) then Qab (Qc7 24 out [([c]:List Int)]) λx=>k x (w64 (c+1)) else Qab (ix out a) λx=>Qab (Qc7 8 x (([c]:List Int))) λy=>Qab (ix out a) λz=>k (Qi0 out a y) (w64 (c+1)):=⟨_,rfl⟩
  have:=lpD out.length (λn a i=>Qep fu k p out c n a i) (λxs a=>R (xs.foldl (Jen (λg=>g.all (Q27 p c)) out) a)) (by have:=ho.1; omega) ?_ ?_ fu (-1) (by have:=ho.1; omega)
  · rw [this,hR]
    refine Je3 (p:=p) ho (by omega) (λx=>k x (w64 (c+1))) _ ?_
    rw [Qy5 (λg=>g.all (Q27 p c)) out out.length (-1) (Nat.le_refl _),List.take_length]
  · intro n a i xs h0 h1 hd ih
    simp only [Qep.eq_2]
    unfold Qn0 Qly
    obtain ⟨j,rfl⟩:∃ j:Nat,i=j:=⟨i.toNat,by omega⟩
    have hj:j<out.length:=by omega
    have hg:=ho.2 _ (List.getElem_mem hj)
    simp only [hd,cond_true,Qz2 hj,Qaa,Jkn hp (by omega) (show out[j].length≤1048576 by omega) (show out[j].length<fu by omega),ih,List.foldl_cons]
    have e:Jen (λg=>g.all (Q27 p c)) out a (j:Int)=bif out[j].all (Q27 p c) then (j:Int) else a:=by unfold Jen atB; rw [Qz2 hj]
    rw [e]
    cases out[j].all (Q27 p c) <;> rfl
  · intro n a i hd
    simp only [Qep.eq_2]
    unfold Qn0 Qhi
    simp only [hd,cond_false,List.foldl_nil,hR]
 have:=Q8g 4 (λn out i=>Qdz fu p l n out i) (λxs out=>some ((xs.filter l.contains).foldl (Q9r p) out)) (λxs out=>∃ m,m+xs.length≤4∧okG m out) (by omega) ?_ ?_ 4 fu [] 0 (by omega) (by omega) (by omega) ⟨0,by simp [Qjw],by simp,by simp⟩
 · exact this
 · intro n out i xs h0 h1 hd hI ih
   obtain ⟨m,hm,ho⟩:=hI
   simp only [List.length_cons] at hm
   simp only [Qdz.eq_2]
   unfold Qol Qhi
   simp only [hd,cond_true,Jkm hl (show l.length<fu by omega),Qaa]
   cases hb:l.contains i
   · rw [Bool.not_false,cond_true,ih out ⟨m,by omega,ho⟩,List.filter_cons_of_neg (by rw [hb]; simp)]
   · rw [Bool.not_true,cond_false,e27 _ out i ⟨by have:=ho.1; omega,λg hg=>by have:=ho.2 g hg; omega⟩,ih _ ⟨m+1,by omega,Q56 i ho⟩,List.filter_cons_of_pos hb,List.foldl_cons]
 · intro n out i hd hI
   simp only [Qdz.eq_2]
   unfold Qol
   simp only [hd,cond_false]
   simp
theorem Q75 (r:Request):(Qjw 0 4).filter (Q4p r).contains=Q4p r :=
 Q8q ((Qvq 0 4).filter _) (Qvv r) λx=>by
  rw [List.mem_filter,Qhn]
  constructor
  · rintro ⟨_,h⟩; simpa using h
  · intro h; have:=Q6o h; exact ⟨by omega,by simpa using h⟩
theorem Jhn {fu:Nat} {r:Request} (h:Sm fu r):Qh0 fu r=some (Qju r):=by
 unfold Qh0 Qju
 rw [Jmp h,Qaa,Jij h.pairs h.fu (by have:=Q2c r; omega),Qaa,Q75]
theorem Jl9 {fu:Nat} {p:List Pair} (hp:p.length≤1048576) (hpf:p.length<fu) (a b:Int):Qr7 fu p a b=some (Q27 p a b):=by
 unfold Qr7 Q27
 simp only [Jfp hp hpf,Qaa]
 cases Qtz p a b <;> rfl
theorem Q6n {fu:Nat} {l:List Int} (f:Int→Option Bool) (g:Int→Bool) (hg:∀ x∈l,f x=some (g x)) (hl:l.length≤1048576) (hf:l.length<fu):Qdk fu l f=some (Qxf g l 0):=by
 unfold Qdk
 refine Quj l (λn i=>Qb5 fu l f n i) g (by omega) ?_ ?_ fu hf
 · intro n i x hx hd
   simp only [Qb5.eq_2]
   unfold Qe0
   simp only [hd,cond_true,hx,Qaa,hg x (Qi2 hx)]
 · intro n i hd
   simp only [Qb5.eq_2]
   unfold Qe0
   simp only [hd,cond_false]
theorem Jci {fu:Nat} {l:List Int} (f:Int→Option Bool) (g:Int→Bool) (hg:∀ x∈l,f x=some (g x)) (hl:l.length≤1048576) (hf:l.length<fu):Qd1 fu l f=some (l.any g):=by
 unfold Qd1
 rw [Q6n f g hg hl hf,Qaa,Qua g l 0 (by omega)]
theorem Q4j {fu:Nat} {l:List (List Int)} (f:List Int→Option Bool) (g:List Int→Bool) (hg:∀ x∈l,f x=some (g x)) (hl:l.length≤1048576) (hf:l.length<fu):Qc4 fu l f=some (Qxf g l 0):=by
 unfold Qc4
 refine Quj l (λn i=>Qbv fu l f n i) g (by omega) ?_ ?_ fu hf
 · intro n i x hx hd
   simp only [Qbv.eq_2]
   unfold Qes
   simp only [hd,cond_true,hx,Qaa,hg x (Qi2 hx)]
 · intro n i hd
   simp only [Qbv.eq_2]
   unfold Qes
   simp only [hd,cond_false]
theorem Ji9 {fu:Nat} {p:List Pair} (hp:p.length≤1048576) (hfu:2097153≤fu) {l:List Int} (hl:l.length≤4) (hs:l.Pairwise (·<·)) (hm:∀ c∈l,0≤c∧c<4):Qr3 fu p l=some (l.foldl (Q9r p) []):=by
 unfold Qr3
 rw [Q1b (by omega) hs,Qaa]
 have:=lpI l (λn out i=>Qeo fu p l n out i) (λxs out=>some (xs.foldl (Q9r p) out)) (λxs out=>(∃ m,m+xs.length≤4∧okG m out)∧∀ c∈xs,0≤c∧c<4) (by omega) ?_ ?_ fu [] ⟨⟨0,by simpa using hl,by simp,by simp⟩,hm⟩ (by omega)
 · exact this
 · intro n out i c xs hx hd hI ih
   obtain ⟨⟨m,hm,ho⟩,hc⟩:=hI
   simp only [List.length_cons] at hm
   have hc0:=hc c (by simp)
   simp only [Qeo.eq_2]
   unfold Qnu Qio
   simp only [hd,cond_true,hx,Qaa,Q1u]
   rw [show inb c 0 3=true by simp; omega,Bool.not_true,cond_false]
   rw [Q4j (λy=>Qo4 fu y p c) (λg=>g.all (Q27 p c)) (λg hg=>by
    have hgl:=ho.2 g hg
    unfold Qo4
    rw [Jci (λy=>Qke fu y p c) (λx=>!Q27 p c x) (λx _=>by
     unfold Qke
     rw [Jl9 hp (by omega),Qaa]) (by omega) (by omega),Qaa]
    simp [List.any_eq_not_all_not]) (by have:=ho.1; omega) (by have:=ho.1; omega),Qaa]
   rw [Je3 (p:=p) ho (by omega) (λx=>Qeo fu p l n x (w64 (i+1))) (Qxf (λg=>g.all (Q27 p c)) out 0) (by
    rw [Q2o]
    cases Qyg (λg=>g.all (Q27 p c)) out <;> simp)]
   rw [ih _ ⟨⟨m+1,by omega,Q56 c ho⟩,λy hy=>hc y (by simp [hy])⟩]
   rfl
 · intro n out i hd hI
   simp only [Qeo.eq_2]
   unfold Qnu
   simp only [hd,cond_false]
   rfl
theorem Jf1 {fu:Nat} {r:Request} (h:Sm fu r):Qhw fu r=some (Qju r):=by
 unfold Qhw
 rw [Qu8 h,Qaa]
 by_cases hc:Qhg r=0
 · rw [show (Qhg r==0)=true by simp [hc],Bool.not_true,cond_false,Jm8 h,Qaa,Ji9 h.pairs h.fu (Q2c r) (Qvv r) (λc hc=>Q6o hc),Qaa]
   rfl
 · rw [show (Qhg r==0)=false by simp [hc],Bool.not_false,cond_true]
   unfold Qju Q4p
   rw [show (Qhg r==0)=false by simp [hc],cond_false]
   rfl
theorem Jaa (r:Request):w64 (((Qju r).length:Int) - 1)=((Qju r).length:Int) - 1:=by
 have:=(Quw r).1
 exact Qam (by omega) (by omega)
theorem Jc7 {fu:Nat} (n:Nat) (hn:n≤1048576) (hf:n<fu):Qrv fu (n:Int)=some (Qjw 0 n):=by
 unfold Qrv
 have:=Q8g (n:Int) (λk out i=>Qhm fu (n:Int) k out i) (λxs out=>some (out++xs)) (λxs out=>out.length+xs.length≤1048576) (by omega) ?_ ?_ n fu [] 0 (by omega) (by omega) hf (by simpa [Qbx] using hn)
 · simpa using this
 · intro k out i xs h0 h1 hd hI ih
   simp only [List.length_cons] at hI
   simp only [Qhm.eq_2]
   unfold Qn4
   rw [hd,cond_true,ap1 (by simp; omega),Qaa,ih _ (by simp; omega)]
   simp
 · intro k out i hd hI
   simp only [Qhm.eq_2]
   unfold Qn4
   simp only [hd,cond_false]
   simp
theorem Jas {α:Type} (g:α→Bool):∀ (l pre:List α),(Qxf g l pre.length=-1∧∀ x∈l,g x=false)∨(∃ a x b,l=a++x::b∧(∀ y∈a,g y=false)∧g x=true∧Qxf g l pre.length=((pre.length+a.length:Nat):Int))
 | [],pre=>.inl ⟨rfl,by simp⟩
 | x::xs,pre=>by
  simp only [Qxf]
  by_cases hx:g x=true
  · rw [hx,cond_true]; exact .inr ⟨[],x,xs,rfl,by simp,hx,by simp⟩
  · have hx':g x=false:=by simpa using hx
    rw [hx',cond_false]
    have:=Jas g xs (pre++[x])
    simp only [List.length_append,List.length_singleton] at this
    rw [show ((pre.length+1:Nat):Int)=(pre.length:Int)+1 by omega] at this
    rcases this with ⟨h1,h2⟩ | ⟨a,y,b,h1,h2,h3,h4⟩
    · exact .inl ⟨h1,by simpa [hx'] using h2⟩
    · exact .inr ⟨x::a,y,b,by simp [h1],by simpa [hx'] using h2,h3,by rw [h4]; simp; omega⟩
theorem Jnl {fu:Nat} {l:List Int} (f:Int→Option Bool) (g:Int→Bool) (hg:∀ x∈l,f x=some (g x)) (hl:l.length≤1048576) (hf:l.length<fu):Qek fu l f=some (l.filter λx=>!g x):=by
 unfold Qek
 rw [Q6n f g hg hl hf,Qaa]
 have hp:=Jas g l []
 simp only [List.length_nil,Nat.zero_add] at hp
 rcases hp with ⟨h1,h2⟩ | ⟨a,x,b,h1,h2,h3,h4⟩
 · have h1':Qxf g l 0=-1:=h1
   rw [h1',Qao (by simp)]
   congr 1
   exact (List.filter_eq_self.2 λy hy=>by simp [h2 y hy]).symm
 · have h4':Qxf g l 0=(a.length:Int):=h4
   rw [h4',Qaf (by simp)]
   have key:∀ (rest kept mid pre:List Int) (n:Nat),l=pre++rest→kept=pre.filter (λx=>!g x)→mid≠[]→kept.length+mid.length=pre.length→rest.length<n →
       Qbk fu f n (kept++mid++rest) (kept.length:Int) (pre.length:Int)=some (l.filter λx=>!g x):=by
    intro rest
    induction rest with
    | nil =>
     intro kept mid pre n e1 e2 e3 e4 hn
     obtain ⟨n,rfl⟩:∃ j,n=j+1:=⟨n - 1,by omega⟩
     rw [Qbk.eq_2]
     unfold Qer
     simp only [List.append_nil] at *
     subst e1
     rw [Qaf (by simp; omega),Qor ⟨by omega,by simp; omega,by omega⟩,Qaa,Qor ⟨by omega,by omega,by simp [Q48]; omega⟩,Qaa]
     rw [← e2]
     simp [Q48]
    | cons y rest ih =>
     intro kept mid pre n e1 e2 e3 e4 hn
     obtain ⟨n,rfl⟩:∃ j,n=j+1:=⟨n - 1,by simp at hn; omega⟩
     have hlen:l.length=pre.length+(rest.length+1):=by rw [e1]; simp
     have hyl:y∈l:=by rw [e1]; simp
     obtain ⟨m,ms,rfl⟩:∃ m ms,mid=m::ms:=by
      cases mid with
      | nil=>exact absurd rfl e3
      | cons m ms=>exact ⟨m,ms,rfl⟩
     simp only [List.length_cons] at e4 hn
     have hx:ix (kept++(m::ms)++y::rest) (pre.length:Int)=some y:=by
      rw [Qh3,List.getElem?_append_right (by simp; omega)]
      simp only [List.length_append,List.length_cons]
      rw [show pre.length - (kept.length+(ms.length+1))=0 by omega]; rfl
     have hk:ix (kept++(m::ms)++y::rest) (kept.length:Int)=some m:=by
      rw [Qh3]; simp
     rw [Qbk.eq_2]
     unfold Qer Qdt
     rw [Qao (by simp; omega),hx,Qaa,hg y hyl,Qaa]
     cases hgy:g y
     · rw [Bool.not_false,cond_true,hk,Qaa,Qyc _ (by omega),Qyc _ (by omega)]
       have e5:Qi0 (kept++(m::ms)++y::rest) (kept.length:Int) y=(kept++[y])++(ms++[y])++rest:=by simp [Qi0]
       rw [e5]
       have:=ih (kept++[y]) (ms++[y]) (pre++[y]) n (by simp [e1]) (by rw [e2,List.filter_append]; simp [hgy]) (by simp) (by simp; omega) (by omega)
       simp only [List.length_append,List.length_singleton] at this
       exact this
     · rw [Bool.not_true,cond_false,Qyc _ (by omega)]
       have:=ih kept ((m::ms)++[y]) (pre++[y]) n (by simp [e1]) (by rw [e2,List.filter_append]; simp [hgy]) (by simp) (by simp; omega) (by omega)
       simp only [List.length_append,List.length_singleton] at this
       rw [show kept++(m::ms)++y::rest=kept++((m::ms)++[y])++rest by simp]
       exact this
   have hlen:l.length=a.length+(b.length+1):=by rw [h1]; simp
   have ha:a.filter (λx=>!g x)=a:=List.filter_eq_self.2 λy hy=>by simp [h2 y hy]
   have:=key b a [x] (a++[x]) fu (by simp [h1]) (by rw [List.filter_append,ha]; simp [h3]) (by simp) (by simp) (by omega)
   rw [Qyc _ (by omega)]
   simp only [List.length_append,List.length_singleton] at this
   rw [show a++[x]++b=l by simp [h1]] at this
   exact this
def dnk (keys:List Int) (p:Int):Int:=- kf keys p
theorem Jeq {fu:Nat} {keys:List Int} (hfu:2097153≤fu) (hl:keys.length≤1048576):Qhb fu keys=some (srt (dnk keys) keys.length):=by
 unfold Qhb Qlf
 rw [Q7r keys.length hl (by omega),Qaa]
 obtain ⟨m,rfl⟩:∃ m,fu=m+1:=⟨fu - 1,by omega⟩
 rw [Q6a true hfu m _ (by rw [Qbx]; omega) (by rw [Qbx]; omega) (λp hp=>by have:=Qhn.1 hp; omega),Qaa]
 congr 1
 have e:dk keys true=dnk keys:=rfl
 rw [e]
 exact Q22 (Qr1 _ _ _) (Qt6 _ _ _ (by rw [Qbx]; omega) (Qvq _ _))
def Q04 (k:Int→Int) (x:Int):List Int→List Int→List Int
 | [],mid=>x::mid
 | y::ys,mid=>if k x<k y then Q04 k x ys (y::mid) else (y::ys).reverse++x::mid
theorem Qzh (k:Int→Int) (x:Int):∀ (ys mid:List Int),(Q04 k x ys mid).Perm (ys.reverse++x::mid)
 | [],mid=>List.Perm.refl _
 | y::ys,mid=>by
  unfold Q04
  split
  · refine (Qzh k x ys (y::mid)).trans ?_
    rw [List.reverse_cons,List.append_assoc]
    refine List.Perm.append_left _ ?_
    exact List.Perm.swap _ _ _
  · exact List.Perm.refl _
theorem Qyt (k:Int→Int) (x:Int):∀ (ys mid:List Int),(ys.reverse++mid).Pairwise (lx k)→(∀ m∈mid,lx k x m)→(∀ p∈ys,p<x)→(Q04 k x ys mid).Pairwise (lx k)
 | [],mid,h,hm,_=>by
  unfold Q04
  exact List.pairwise_cons.2 ⟨hm,by simpa using h⟩
 | y::ys,mid,h,hm,hy=>by
  unfold Q04
  rw [List.reverse_cons,List.append_assoc] at h
  split
  · rename_i hk
    refine Qyt k x ys (y::mid) (by simpa using h) ?_ (λp hp=>hy p (by simp [hp]))
    intro m hmm
    rcases List.mem_cons.1 hmm with rfl | hmm
    · exact .inl hk
    · exact hm m hmm
  · rename_i hk
    have hyx:lx k y x:=by
     have:=hy y (by simp)
     by_cases he:k y<k x
     · exact .inl he
     · exact .inr ⟨by omega,this⟩
    rw [List.reverse_cons,List.append_assoc]
    obtain ⟨h1,h2,h3⟩:=List.pairwise_append.1 h
    simp only [List.singleton_append] at h2 h3
    refine List.pairwise_append.2 ⟨h1,?_,?_⟩
    · simp only [List.singleton_append]
      obtain ⟨h4,h5⟩:=List.pairwise_cons.1 h2
      refine List.pairwise_cons.2 ⟨?_,List.pairwise_cons.2 ⟨hm,h5⟩⟩
      intro m hmm
      rcases List.mem_cons.1 hmm with rfl | hmm
      · exact hyx
      · exact h4 m hmm
    · intro a ha b hb
      simp only [List.singleton_append,List.mem_cons] at hb
      have hay:=h3 a ha y (by simp)
      rcases hb with rfl | rfl | hb
      · exact hay
      · exact Jd0 hay hyx
      · exact h3 a ha b (by simp [hb])
theorem Q7v (k:Int→Int) (x:Int):∀ (ys mid rest:List Int),Q04 k x ys (mid++rest)=Q04 k x ys mid++rest
 | [],mid,rest=>rfl
 | y::ys,mid,rest=>by
  unfold Q04
  split
  · exact Q7v k x ys (y::mid) rest
  · simp
theorem Jl7 {A:List Int} {y:Int} {B:List Int} {n:Nat} (h:A.length=n):ix (A++y::B) (n:Int)=some y:=by subst h; rw [Qh3]; simp
theorem Jew {A:List Int} {y z:Int} {B:List Int} {n:Nat} (h:A.length=n):Qi0 (A++y::B) (n:Int) z=A++z::B:=by subst h; simp [Qi0]
theorem Q67 {fu:Nat} {f:Int→Int→Option Int} {k:Int→Int} (K9:List Int→Int→Option (List Int)) (i0:Int) (hf:∀ a b c,f a b=some c→(c<0↔k a<k b)) (x:Int) :
    ∀ (ys mid:List Int) (n:Nat),(∀ p∈ys,∃ c,f x p=some c)→ys.length<n→ys.length≤1048576→Qa6 fu K9 0 f i0 n (ys.reverse++x::mid) (ys.length:Int)=K9 (Q04 k x ys mid) (w64 (i0+1))
 | [],mid,n,_,hn,_=>by
  obtain ⟨n,rfl⟩:∃ j,n=j+1:=⟨n - 1,by omega⟩
  rw [Qa6.eq_2]
  unfold Qdg Q04
  rw [Qaf (by simp)]; rfl
 | y::ys,mid,n,hy,hn,hl=>by
  simp only [List.length_cons] at hn hl
  obtain ⟨n,rfl⟩:∃ j,n=j+1:=⟨n - 1,by omega⟩
  obtain ⟨c,hc⟩:=hy y (by simp)
  have hw:w64 (((y::ys).length:Int) - 1)=(ys.length:Int):=by simp only [List.length_cons]; rw [Qam (by omega) (by omega)]; omega
  have e0:(y::ys).reverse++x::mid=ys.reverse++y::x::mid:=by simp
  have e1:ix ((y::ys).reverse++x::mid) ((y::ys).length:Int)=some x:=Jl7 (by simp)
  have e2:ix ((y::ys).reverse++x::mid) (ys.length:Int)=some y:=by rw [e0]; exact Jl7 (by simp)
  rw [Qa6.eq_2]
  unfold Qdg Q04
  rw [Qao (by simp),e1,Qaa,hw,e2,Qaa,hc,Qaa]
  by_cases hk:k x<k y
  · rw [if_pos hk,decide_eq_true ((hf _ _ _ hc).2 hk),cond_true]
    unfold Qdu
    have e3:Qi0 ((y::ys).reverse++x::mid) ((y::ys).length:Int) y=(y::ys).reverse++y::mid:=Jew (by simp)
    have e4:ix ((y::ys).reverse++y::mid) (ys.length:Int)=some y:=by rw [show (y::ys).reverse++y::mid=ys.reverse++y::y::mid by simp]; exact Jl7 (by simp)
    have e5:Qi0 ((y::ys).reverse++y::mid) (ys.length:Int) x=ys.reverse++x::y::mid:=by rw [show (y::ys).reverse++y::mid=ys.reverse++y::y::mid by simp]; exact Jew (by simp)
    rw [hw,e2,Qaa,e1,Qaa,Qaa,e3,e4,Qaa,e5]
    exact Q67 K9 i0 hf x ys (y::mid) n (λp hp=>hy p (by simp [hp])) (by omega) (by omega)
  · rw [if_neg hk,decide_eq_false (λh=>hk ((hf _ _ _ hc).1 h)),cond_false]
def Jg8 (k:Int→Int):List Int→List Int→List Int
 | P,[]=>P
 | P,x::xs=>Jg8 k (Q04 k x P.reverse []) xs
theorem Q4v (k:Int→Int):∀ (xs P:List Int),P.Pairwise (lx k)→(∀ p∈P,∀ x∈xs,p<x)→xs.Pairwise (·<·)→(Jg8 k P xs).Perm (P++xs)∧(Jg8 k P xs).Pairwise (lx k)
 | [],P,h,_,_=>by simpa [Jg8] using h
 | x::xs,P,h,hp,hx=>by
  obtain ⟨h1,h2⟩:=List.pairwise_cons.1 hx
  have hs:(Q04 k x P.reverse []).Pairwise (lx k):=Qyt k x P.reverse [] (by simpa using h) (by simp) (λp hp'=>hp p (by simpa using hp') x (by simp))
  have hpm:(Q04 k x P.reverse []).Perm (P++[x]):=by simpa using Qzh k x P.reverse []
  have ih:=Q4v k xs (Q04 k x P.reverse []) hs (λp hp' y hy=>by
   rcases List.mem_append.1 (hpm.mem_iff.1 hp') with h' | h'
   · exact hp p h' y (by simp [hy])
   · rw [List.mem_singleton.1 h']; exact h1 y hy) h2
  refine ⟨?_,ih.2⟩
  unfold Jg8
  refine ih.1.trans ?_
  refine (hpm.append_right xs).trans ?_
  simp
theorem Jbj {fu:Nat} {f:Int→Int→Option Int} {k:Int→Int} (hfu:2097153≤fu) (hf:∀ a b c,f a b=some c→(c<0↔k a<k b)) {n:Nat} (hn:n≤1048576) (hin:∀ a b:Int,0≤a→a<n→0≤b→b<n→∃ c,f a b=some c) :
    ∀ (xs P:List Int) (m:Nat),xs.length<m→P.length+xs.length=n→(∀ p∈P++xs,0≤p∧p<n)→Qak fu 0 (n:Int) f m (P++xs) (P.length:Int)=some (Jg8 k P xs)
 | [],P,m,hm,hl,_=>by
  obtain ⟨m,rfl⟩:∃ j,m=j+1:=⟨m - 1,by omega⟩
  simp only [List.length_nil] at hl
  rw [Qak.eq_2]
  unfold Qb8
  rw [Qaf (by simp; omega)]; simp [Jg8]
 | x::xs,P,m,hm,hl,hp=>by
  simp only [List.length_cons] at hl hm
  obtain ⟨m,rfl⟩:∃ j,m=j+1:=⟨m - 1,by omega⟩
  rw [Qak.eq_2]
  unfold Qb8
  rw [Qao (by simp; omega)]
  have key:=Q67 (fu:=fu) (f:=f) (k:=k) (Qak fu 0 (n:Int) f m) (P.length:Int) hf x P.reverse xs fu (λp hp'=>by
   have h1:=hp p (by simp at hp'; simp [hp'])
   have h2:=hp x (by simp)
   exact hin x p h2.1 h2.2 h1.1 h1.2) (by simp; omega) (by simp; omega)
  rw [List.reverse_reverse,List.length_reverse] at key
  rw [key,Qyc _ (by omega)]
  have e:Q04 k x P.reverse xs=Q04 k x P.reverse []++xs:=by
   have:=Q7v k x P.reverse [] xs
   simpa using this
  have hpm:(Q04 k x P.reverse []).Perm (P++[x]):=by simpa using Qzh k x P.reverse []
  have hlen:(Q04 k x P.reverse []).length=P.length+1:=by rw [hpm.length_eq]; simp
  rw [e]
  have ih:=Jbj hfu hf hn hin xs (Q04 k x P.reverse []) m (by omega) (by omega) (λp hp'=>by
   rcases List.mem_append.1 hp' with h' | h'
   · rcases List.mem_append.1 (hpm.mem_iff.1 h') with h'' | h''
     · exact hp p (by simp [h''])
     · exact hp p (by rw [List.mem_singleton.1 h'']; simp)
   · exact hp p (by simp [h']))
  rw [hlen] at ih
  rw [ih]; rfl
theorem Jm0 (fu:Nat) (a b:Int):∃ c,Qqz fu a b=some c∧(c<0↔a<b):=by
 unfold Qqz
 by_cases h:a<b
 · exact ⟨-1,by simp [h],by simp [h]⟩
 · by_cases h2:a>b
   · exact ⟨1,by simp [h,h2],by simp [h]⟩
   · exact ⟨0,by simp [h,h2],by simp [h]⟩
theorem Jd8 {fu:Nat} {keys:List Int} (hfu:2097153≤fu) (hl:keys.length<20):Qg4 fu keys=some (srt (dnk keys) keys.length):=by
 unfold Qg4 Qe8 Qhe
 rw [Jc7 _ (by omega) (by omega),Qaa]
 obtain ⟨f,hfd⟩:∃ f:Int→Int→Option Int,f=λa b=>Qe1 fu a b keys:=⟨_,rfl⟩
 have hdef:∀ a b:Int,0≤a→a<keys.length→0≤b→b<keys.length→∃ c,f a b=some c∧(c<0↔dnk keys a<dnk keys b):=by
  intro a b ha ha' hb hb'
  obtain ⟨c,h1,h2⟩:=Jm0 fu (kf keys b) (kf keys a)
  refine ⟨c,?_,?_⟩
  · rw [hfd]
    show Qe1 fu a b keys=_
    unfold Qe1
    rw [Q5h ⟨hb,hb'⟩,Qaa,Q5h ⟨ha,ha'⟩,Qaa,h1,Qaa]
  · rw [h2]; unfold dnk; omega
 have hf:∀ a b c,f a b=some c→(c<0↔dnk keys a<dnk keys b):=by
  intro a b c h
  have h0:=h
  rw [hfd] at h
  change Qe1 fu a b keys=_ at h
  unfold Qe1 at h
  obtain ⟨x,hx,h⟩:=Qt3 h
  obtain ⟨y,hy,h⟩:=Qt3 h
  obtain ⟨b0,b1,_⟩:=Qah hx
  obtain ⟨a0,a1,_⟩:=Qah hy
  obtain ⟨d,h1,h2⟩:=hdef a b a0 a1 b0 b1
  rw [h0] at h1
  cases h1
  exact h2
 have ha:=Jbj (fu:=fu) (f:=f) (k:=dnk keys) hfu hf (n:=keys.length) (by omega) (λa b h1 h2 h3 h4=>by obtain ⟨c,h,_⟩:=hdef a b h1 h2 h3 h4; exact ⟨c,h⟩)
 have hI:Qb7 fu (Qjw 0 keys.length) 0 ((Qjw 0 keys.length).length:Int) f=some (srt (dnk keys) keys.length):=by
  unfold Qb7
  rw [Qbx,show w64 ((0:Int)+1)=1 by rw [Qam (by omega) (by omega)]; rfl]
  cases hk:keys.length with
  | zero =>
   obtain ⟨m,rfl⟩:∃ m,fu=m+1:=⟨fu - 1,by omega⟩
   rw [Qak.eq_2]
   unfold Qb8
   rw [Qaf (by simp)]; rfl
  | succ n =>
   rw [hk] at ha
   have:=ha (Qjw 1 n) [0] fu (by rw [Qbx]; omega) (by rw [Qbx]; simp; omega) (λp hp=>by
    have:p∈Qjw 0 (n+1):=hp
    have:=Qhn.1 this
    omega)
   have e:Qjw 0 (n+1)=[0]++Qjw 1 n:=rfl
   rw [e]
   have h1:(([0]:List Int).length:Int)=1:=rfl
   rw [h1] at this
   rw [this]
   congr 1
   have hsp:=Q4v (dnk keys) (Qjw 1 n) [0] (by simp) (λp hp x hx=>by
    have:=Qhn.1 hx
    rw [List.mem_singleton.1 hp]; omega) (Qvq _ _)
   exact Q22 hsp.1 hsp.2
 obtain ⟨m,rfl⟩:∃ m,fu=m+1:=⟨fu - 1,by omega⟩
 rw [Qd0.eq_2]
 unfold Qhz
 rw [Qaf (by rw [Qbx]; simp; omega)]
 rw [← hfd,hI,Qaa,Qb2.eq_2]
 unfold Qh6
 rw [Qaf (by rw [Qbx]; simp; omega)]
 rfl
theorem Jn8 {w h d:Int} (hb:(inb w 0 2000&&(inb h 0 2000&&inb d 0 2000))=true):w64 ((w64 (w*h))*d)=w*h*d:=by
 simp only [Bool.and_eq_true,Qcb] at hb
 obtain ⟨⟨h1,h2⟩,⟨h3,h4⟩,h5,h6⟩:=hb
 have a1:0≤w*h:=Int.mul_nonneg h1 h3
 have a2:w*h≤2000*2000:=Int.mul_le_mul h2 h4 h3 (by omega)
 have a3:0≤w*h*d:=Int.mul_nonneg a1 h5
 have a4:w*h*d≤2000*2000*2000:=Int.mul_le_mul a2 h6 h5 (by omega)
 rw [Qam (n:=w*h) (by omega) (by omega),Qam (by omega) (by omega)]
theorem Jft (fu:Nat) (w h d:Int):Qj9 fu w h d=some (Q72 w h d):=by
 unfold Qj9 Qq7 Q72
 simp only [Q0b,Qaa]
 cases h1:inb w 0 2000 <;> cases h2:inb h 0 2000 <;> cases h3:inb d 0 2000 <;> simp only [Bool.not_true,Bool.not_false,cond_true,cond_false,Bool.and_true,Bool.and_false]
 rw [Jn8 (by simp only [h1,h2,h3]; rfl)]
theorem Jjq (fu:Nat) (w h d:Int):Qoe fu w h d=some (Q72 w h d):=by
 unfold Qoe Qrj Q72
 simp only [Q1u,Qaa]
 cases h1:inb w 0 2000 <;> cases h2:inb h 0 2000 <;> cases h3:inb d 0 2000 <;> simp only [Bool.not_true,Bool.not_false,cond_true,cond_false,Bool.and_true,Bool.and_false]
 rw [Jn8 (by simp only [h1,h2,h3]; rfl)]
def Qwm (r:Request) (u:Int):Item:=(Q3w r u).getD Q8e
theorem Q16 (r:Request):w64 (((Qi6 r).length:Int) - 1)=((Qi6 r).length:Int) - 1:=by
 have:=Q3u r
 exact Qam (by omega) (by omega)
theorem Jbl (fu:Nat) (r:Request) (u:Int):Qkm fu r (Qi6 r) u=some (Qwm r u,(Q3w r u).isSome):=by
 unfold Qkm Qwm
 rw [Q16,Q0b,Qaa]
 by_cases h:0≤u∧u<(Qi6 r).length
 · obtain ⟨i,x,h1,h2,h3⟩:=Q50 h
   rw [Qaf (by simp; omega),h1,Qaa,h2,Qaa,h3]
   rfl
 · rw [Qao (by simp [inb]; omega),Q17 h]
   rfl
theorem Jc0:Jbg Q8e=0:=by simp [Jbg,Q72,Q8e]
theorem Q5r {fu:Nat} {r:Request} (h:Sm fu r) (us:List Int) (hl:us.length≤1048576) (hf:us.length<fu):Qiu fu r us=some (Qxn r us):=by
 unfold Qiu
 rw [Jfo h,Qaa]
 have key:=lpI us (λn s i=>Qfc fu r us (Qi6 r) n s i) (λl out=>some (out++Qxn r l)) (λl out=>out.length+l.length≤1048576) (by omega) ?_ ?_ fu [] (by simpa using hl) hf
 · simpa using key
 · intro n s i x xs hx hd hI ih
   simp only [Qfc.eq_2]
   unfold Qmt Qj7
   simp only [hd,cond_true,hx,Qaa,Q16,Q1u]
   simp only [List.length_cons] at hI
   by_cases hu:0≤x∧x<(Qi6 r).length
   · obtain ⟨i',y,h1,h2,h3⟩:=Q50 hu
     rw [Qao (by simp; omega),h1,Qaa,h2,Qaa,ap1 (by simp; omega),Qaa,ih _ (by simp; omega)]
     simp [Qxn,List.filterMap_cons,h3]
   · rw [Qaf (by simp [inb]; omega),ih _ (by omega)]
     simp [Qxn,List.filterMap_cons,Q17 hu]
 · intro n s i hd _
   simp only [Qfc.eq_2]
   unfold Qmt
   simp only [hd,cond_false]
   simp [Qxn]
theorem Q9y {fu:Nat} {r:Request} (h:Sm fu r) (us:List Int) (hl:us.length≤1048576) (hf:us.length<fu):Qjh fu r us=some (Qxk r us):=by
 unfold Qjh
 rw [Q5r h us hl hf,Qaa]
 have hlen:=Qym r us
 have key:=lpI (Qxn r us) (λn s i=>Qfw fu (Qxn r us) n s i) (λl n=>some (n+Qx8 (l.map Jbg))) (λl n=>0≤n∧n+8000000000*l.length≤8000000000*1048576) (by omega) ?_ ?_ fu 0 ⟨by omega,by omega⟩ (by omega)
 · simpa [Qxk] using key
 · intro n s i x xs hx hd hI ih
   simp only [Qfw.eq_2]
   unfold Qkx
   simp only [hd,cond_true,hx,Qaa,Jjq]
   have hv:=Jb1 x.fW x.fH x.fD
   have h2:=hI.2
   simp only [List.length_cons] at h2
   rw [Qam (by omega) (by omega),ih _ ⟨by omega,by omega⟩]
   simp only [List.map_cons,Qq2,Jbg]
   congr 1
   omega
 · intro n s i hd _
   simp only [Qfw.eq_2]
   unfold Qkx
   simp only [hd,cond_false]
   simp
end Go.Proofs.YthkaklkinepfkaaGreatDoor
