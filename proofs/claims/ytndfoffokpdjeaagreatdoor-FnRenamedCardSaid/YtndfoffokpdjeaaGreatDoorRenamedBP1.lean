/- RenamedBP: plain lem.. -/
import Derived.Test.YtndfoffokpdjeaaGreatDoorRenamedBD
import Derived.Test.YtndfoffokpdjeaaGreatDoorM3
set_option linter.unusedSimpArgs false
set_option linter.unusedVariables false
namespace Go.Proofs.YtndfoffokpdjeaaGreatDoor
open Go
open Enc (rd ow)
open Arg (argv)
open Ret (retv)
open Wf (wf)
theorem Q43 {fu:Nat} (n:Nat) (hn:n≤1048576) (hf:n<fu):Qi2 fu (n:Int)=some (Qnf 0 n):=by
 unfold Qi2
 have key:∀ (m i k:Nat),n - i=m→i≤n→m<k→Qfo fu (n:Int) k (Qnf 0 i) (i:Int)=some (Qnf 0 n):=by
  intro m
  induction m with
  | zero =>
   intro i k hm hi hk
   obtain ⟨k,rfl⟩:∃ j,k=j+1:=⟨k - 1,by omega⟩
   have:i=n:=by omega
   subst this
   rw [Qfo.eq_2]
   unfold Qil
   simp
  | succ m ih =>
   intro i k hm hi hk
   obtain ⟨k,rfl⟩:∃ j,k=j+1:=⟨k - 1,by omega⟩
   rw [Qfo.eq_2]
   unfold Qil
   rw [Qa2 (by simp; omega),ap1 (by rw [Qcf]; simp; omega),Qaa,Qwa i (by omega)]
   have e:=Q8h 0 i
   rw [Int.zero_add] at e
   rw [← e]
   exact ih (i+1) k (by omega) (by omega) (by omega)
 exact key n 0 fu (by omega) (by omega) hf
def dk (keys:List Int) (Qto:Bool) (p:Int):Int:=bif Qto then - kf keys p else kf keys p
theorem Q22 {keys:List Int} {p:Int} (h:0≤p∧p<keys.length):ix keys p=some (kf keys p):=by
 have h1:p.toNat<keys.length:=by omega
 unfold kf ix
 rw [if_pos h.1,List.getElem?_eq_getElem h1]
 rfl
theorem Jiy {fu:Nat} {keys a b:List Int} (Qto:Bool) (ha:∀ p∈a,0≤p∧p<keys.length) (hb:∀ p∈b,0≤p∧p<keys.length) (hla:a.length≤1048576) (hlb:b.length≤1048576) :
    ∀ (m:Nat) (n:Nat) (out:List Int) (i j:Nat),i≤a.length→j≤b.length→(a.length - i)+(b.length - j)=m→m<n→out.length+m≤2097152 →
     Qcj fu keys Qto a b n out i j=some (out++mrg (dk keys Qto) (a.drop i) (b.drop j)):=by
 intro m
 induction m with
 | zero =>
  intro n out i j hi hj hm hn ho
  obtain ⟨n,rfl⟩:∃ k,n=k+1:=⟨n - 1,by omega⟩
  rw [Qcj.eq_2]
  unfold Qkf
  rw [Qah (by simp; omega),Qah (by simp; omega),List.drop_of_length_le (show a.length≤i by omega),List.drop_of_length_le (show b.length≤j by omega)]
  simp [mrg]
 | succ m ih =>
  intro n out i j hi hj hm hn ho
  obtain ⟨n,rfl⟩:∃ k,n=k+1:=⟨n - 1,by omega⟩
  have hL:Qcj fu keys Qto a b (n+1) out i j=Qg9 fu (Qcj fu keys Qto a b n) keys Qto a b out i j:=by
   rw [Qcj.eq_2]
   unfold Qkf
   by_cases h:i<a.length
   · rw [Qa2 (by simpa using h)]
   · rw [Qah (by simpa using h),Qa2 (by simp; omega)]
  have tA:∀ (h:i<a.length),(Qfd 8 out [a[i]])=some (out++[a[i]]):=λh=>ap1 (by simp; omega)
  have tB:∀ (h:j<b.length),(Qfd 8 out [b[j]])=some (out++[b[j]]):=λh=>ap1 (by simp; omega)
  have nA:∀ (h:i<a.length),Qcj fu keys Qto a b n (out++[a[i]]) (w64 ((i:Int)+1)) j=some (out++a[i]::mrg (dk keys Qto) (a.drop (i+1)) (b.drop j)):=λh=>by
   rw [Qwa i (by omega),ih n (out++[a[i]]) (i+1) j (by omega) hj (by omega) (by omega) (by simp; omega)]
   simp
  have nB:∀ (h:j<b.length),Qcj fu keys Qto a b n (out++[b[j]]) i (w64 ((j:Int)+1))=some (out++b[j]::mrg (dk keys Qto) (a.drop i) (b.drop (j+1))):=λh=>by
   rw [Qwa j (by omega),ih n (out++[b[j]]) i (j+1) hi (by omega) (by omega) (by omega) (by simp; omega)]
   simp
  rw [hL]
  unfold Qg9
  by_cases hjb:j=b.length
  · have h:i<a.length:=by omega
    rw [Qa2 (by simp [hjb]),Qx6 h,Qaa,tA h,Qaa,nA h,List.drop_of_length_le (show b.length≤j by omega),Q61,Q61,← List.drop_eq_getElem_cons h]
  · have hj':j<b.length:=by omega
    rw [Qah (by simp; omega)]
    by_cases hia:i=a.length
    · rw [Qa2 (by simp [hia]),Qx6 hj',Qaa,tB hj',Qaa,nB hj',List.drop_of_length_le (show a.length≤i by omega)]
      have e1:∀ l,mrg (dk keys Qto) [] l=l:=λl=>by rw [mrg]
      rw [e1,e1,← List.drop_eq_getElem_cons hj']
    · have hi':i<a.length:=by omega
      rw [Qah (by simp; omega)]
      simp only [Qx6 hi',Qx6 hj',Qaa,Q22 (ha _ (List.getElem_mem hi')),Q22 (hb _ (List.getElem_mem hj')),tA hi',tB hj',nA hi',nB hj']
      rw [List.drop_eq_getElem_cons hi',List.drop_eq_getElem_cons hj',Qut,← List.drop_eq_getElem_cons hi',← List.drop_eq_getElem_cons hj']
      have hx:dk keys Qto a[i]=bif Qto then - kf keys a[i] else kf keys a[i]:=rfl
      have hy:dk keys Qto b[j]=bif Qto then - kf keys b[j] else kf keys b[j]:=rfl
      rw [hx,hy]
      generalize kf keys a[i]=x
      generalize kf keys b[j]=y
      cases Qto
      · by_cases hc:y<x
        · rw [if_pos (by simpa using hc)]; simp [hc]
        · rw [if_neg (by simpa using hc)]
          have:decide (y>x)=true∨decide (y>x)=false:=by cases decide (y>x) <;> simp
          rcases this with h | h <;> simp [hc,h]
      · by_cases hc:x<y
        · have h:¬ y<x:=by omega
          rw [if_pos (by simpa using hc)]; simp [hc,h]
        · rw [if_neg (by simpa using hc)]
          have h:decide (y<x)=true∨decide (y<x)=false:=by cases decide (y<x) <;> simp
          rcases h with h | h <;> simp [hc,h]
theorem Q4n {fu:Nat} {keys:List Int} (Qto:Bool) (hfu:2097153≤fu):∀ (n:Nat) (l:List Int),l.length≤n→l.length≤1048576→(∀ p∈l,0≤p∧p<keys.length) →
    Qhq fu (n+1) keys l Qto=some (msr (dk keys Qto) (n+1) l)
 | n,l,hn,hl,hm=>by
  rw [Qhq.eq_2]
  unfold Qqo msr
  by_cases h2:l.length<2
  · rw [Qa2 (by simp; omega),if_pos h2,ap1 (by simp; omega)]; rfl
  · rw [Qah (by simp; omega),if_neg h2]
    have hd:Int.tdiv (l.length:Int) 2=((l.length / 2:Nat):Int):=by simp [Int.tdiv]
    obtain ⟨n,rfl⟩:∃ k,n=k+1:=⟨n - 1,by omega⟩
    rw [hd,Qay (by omega) (by omega),Qry (by omega),Qry (by omega),Qaa]
    simp only [Int.toNat_natCast,Int.toNat_zero,List.drop_zero,Nat.sub_zero,Qaa]
    rw [Q4n Qto hfu n (l.take (l.length / 2)) (by rw [List.length_take]; omega) (by rw [List.length_take]; omega) (λp hp=>hm p (List.mem_of_mem_take hp)),Qaa]
    have e:(l.drop (l.length / 2)).take (l.length - l.length / 2)=l.drop (l.length / 2):=List.take_of_length_le (by rw [List.length_drop]; omega)
    rw [e,Q4n Qto hfu n (l.drop (l.length / 2)) (by rw [List.length_drop]; omega) (by rw [List.length_drop]; omega) (λp hp=>hm p (List.mem_of_mem_drop hp)),Qaa]
    have hp1:=(Qrl (dk keys Qto) (n+1) (l.take (l.length / 2)))
    have hp2:=(Qrl (dk keys Qto) (n+1) (l.drop (l.length / 2)))
    have l1:=hp1.length_eq
    have l2:=hp2.length_eq
    rw [List.length_take] at l1
    rw [List.length_drop] at l2
    rw [show (0:Int)=((0:Nat):Int) from rfl]
    rw [Jiy Qto (λp hp=>hm p (List.mem_of_mem_take (hp1.mem_iff.1 hp))) (λp hp=>hm p (List.mem_of_mem_drop (hp2.mem_iff.1 hp))) (by omega) (by omega) _ fu [] 0 0 (by omega) (by omega) rfl (by omega) (by simp; omega)]
    simp
theorem Jk5 {fu:Nat} {keys:List Int} (hfu:2097153≤fu) (hl:keys.length≤1048576):Qnj fu keys=some (srt (kf keys) keys.length):=by
 unfold Qnj Qo4
 rw [Q43 keys.length hl (by omega),Qaa]
 obtain ⟨m,rfl⟩:∃ m,fu=m+1:=⟨fu - 1,by omega⟩
 rw [Q4n false hfu m _ (by rw [Qcf]; omega) (by rw [Qcf]; omega) (λp hp=>by have:=Qhy.1 hp; omega),Qaa]
 congr 1
 have e:dk keys false=kf keys:=rfl
 rw [e]
 exact Q0j (Qrl _ _ _) (Qsc _ _ _ (by rw [Qcf]; omega) (Qt0 _ _))
structure Sm (fu:Nat) (r:Request):Prop where
 fu:2097153≤fu
 pairs:r.fT.length≤1048576
 types:r.fG.length≤1048576
 items:r.fV.length≤1048576
theorem Q2x (fu:Nat) (n lo hi:Int):Qa1 fu n lo hi=some (inb n lo hi):=by
 unfold Qa1 inb
 by_cases h:lo≤n
 · simp [h]
 · simp [h]
theorem Qyd (fu:Nat) (n lo hi:Int):Qar fu n lo hi=some (inb n lo hi):=Q2x fu n lo hi
theorem Q7b (fu:Nat) (n:Int):Qd9 fu n=some (inb n 1 2000):=by unfold Qd9; rw [Q2x]; rfl
theorem Jj4 (fu:Nat) (n:Int):Qpk fu n=some (inb n 0 999):=by unfold Qpk; rw [Q2x]; rfl
theorem Q7q (fu:Nat) (n:Int):Qds fu n=some (inb n 1 2000):=by unfold Qds; rw [Qyd]; rfl
theorem Ja5 (fu:Nat) (p:Pallet):Qgm fu p=some (Qtn p):=by
 unfold Qgm Qtn
 simp only [Q7b,Q2x,Qaa]
 cases inb p.fW 1 2000 <;> cases inb p.fD 1 2000 <;> cases inb p.fH 1 2000 <;> rfl
theorem Jjf (fu:Nat) (p:Pallet):Qek fu p=some (Qtn p):=by
 unfold Qek Qtn
 simp only [Q7q,Qyd,Qaa]
 cases inb p.fW 1 2000 <;> cases inb p.fD 1 2000 <;> cases inb p.fH 1 2000 <;> rfl
theorem Jji (fu:Nat) (t:Typ):Qqc fu t=some (Qxs t):=by
 unfold Qqc Qxs
 simp only [Q7b,Q2x,Jj4,Qaa]
 cases inb t.f0 0 999 <;> cases inb t.fW 1 2000 <;> cases inb t.fH 1 2000 <;> cases inb t.fD 1 2000 <;> cases inb t.fF 0 100000 <;> cases inb t.fQ 1 100000 <;> rfl
theorem Jjo (fu:Nat) (t:Typ):Qp5 fu t=some (Qxs t):=by
 unfold Qp5 Qxs
 simp only [Q7q,Qyd,Qaa]
 cases inb t.f0 0 999 <;> cases inb t.fW 1 2000 <;> cases inb t.fH 1 2000 <;> cases inb t.fD 1 2000 <;> cases inb t.fF 0 100000 <;> cases inb t.fQ 1 100000 <;> rfl
theorem Jjv (fu:Nat) (t:Item):Qp7 fu t=some (Quf t):=by
 unfold Qp7 Quf
 simp only [Q7b,Q2x,Jj4,Qaa]
 cases inb t.f0 0 999 <;> cases inb t.fW 1 2000 <;> cases inb t.fH 1 2000 <;> cases inb t.fD 1 2000 <;> cases inb t.fQ 1 100000 <;> cases inb t.fL 0 3 <;> rfl
theorem Jjs (fu:Nat) (t:Item):Qpz fu t=some (Quf t):=by
 unfold Qpz Quf
 simp only [Q7q,Qyd,Qaa]
 cases inb t.f0 0 999 <;> cases inb t.fW 1 2000 <;> cases inb t.fH 1 2000 <;> cases inb t.fD 1 2000 <;> cases inb t.fQ 1 100000 <;> cases inb t.fL 0 3 <;> rfl
def Jfb:List Item→Int→Option Bool
 | [],n=>some (decide (n≤12))
 | x::xs,n=>bif !Quf x then some false else Jfb xs (w64 (n+x.fM))
theorem Q3j:∀ (l:List Item) (n:Int),0≤n→n+6*l.length≤4611686018427387904→Jfb l n=some (l.all Quf&&decide (n+Qvo (l.map (·.fM))≤12))
 | [],n,_,_=>by simp [Jfb]
 | x::xs,n,h0,h1=>by
  unfold Jfb
  cases hx:Quf x
  · simp [hx]
  · have hc:=hx
    simp only [Quf,Bool.and_eq_true,Qcd] at hc
    have hc:=hc.2.2.2.2.2.2
    simp only [List.length_cons] at h1
    rw [Qay (by omega) (by omega)]
    simp only [Bool.not_true,cond_false]
    rw [Q3j xs (n+x.fM) (by omega) (by omega)]
    simp only [List.all_cons,hx,Bool.true_and,List.map_cons,Qq8,Int.add_assoc]
theorem Jkc {fu:Nat} {r:Request} (h:Sm fu r):Qm1 fu r=some (Qx8 r):=by
 have hfu:=h.fu
 have h7:r.fV.length≤8→Qdm fu r fu 0 0=some (r.fV.all Quf&&decide (Qvo (r.fV.map (·.fM))≤12)):=by
  intro h8
  rw [lp r.fV (λn s i=>Qdm fu r n s i) Jfb (by have:=h.items; omega) ?_ ?_ fu 0 (by have:=h.items; omega),Q3j _ _ (by omega) (by have:=h.items; omega)]
  · simp
  · intro n s i x xs hx hd ih
    simp only [Qdm.eq_2]
    unfold Qis
    simp only [hd,cond_true,hx,Qaa,Jjv,ih]
    rfl
  · intro n s i hd
    simp only [Qdm.eq_2]
    unfold Qis
    simp only [hd,cond_false]
    rfl
 have h6:∀ b:Bool,(Qdm fu r fu 0 0=some b)→Qdp fu r fu 0=some (r.fG.all Qxs&&b):=by
  intro b hb
  refine lp r.fG (λn (_:Unit) i=>Qdp fu r n i) (λl _=>some (l.all Qxs&&b)) (by have:=h.types; omega) ?_ ?_ fu () (by have:=h.types; omega)
  · intro n s i x xs hx hd ih
    simp only [Qdp.eq_2]
    unfold Qit
    simp only [hd,cond_true,hx,Qaa,Jji,ih (),List.all_cons]
    cases Qxs x <;> rfl
  · intro n s i hd
    simp only [Qdp.eq_2]
    unfold Qit
    simp only [hd,cond_false,hb]
    rfl
 have h4:∀ b:Bool,(Qdp fu r fu 0=some b)→Qdo fu r fu 0=some (r.fT.all prB&&b):=by
  intro b hb
  refine lp r.fT (λn (_:Unit) i=>Qdo fu r n i) (λl _=>some (l.all prB&&b)) (by have:=h.pairs; omega) ?_ ?_ fu () (by have:=h.pairs; omega)
  · intro n s i x xs hx hd ih
    simp only [Qdo.eq_2]
    unfold Qiv Qmh
    simp only [hd,cond_true,hx,Qaa,Q2x,ih ()]
    simp only [List.all_cons,prB]
    cases inb x.fA 0 3 <;> cases inb x.fB 0 3 <;> rfl
  · intro n s i hd
    simp only [Qdo.eq_2]
    unfold Qiv
    simp only [hd,cond_false,hb]
    rfl
 unfold Qm1 Qmn Qx8
 simp only [Q2x,Jj4,Ja5,Qaa]
 by_cases h8:r.fV.length≤8
 · rw [h4 _ (h6 _ (h7 h8))]
   have e8:decide ((r.fV.length:Int)>8)=false:=by simp; omega
   rw [e8]
   by_cases hp:r.fT.length≤16
   · have e16:decide ((r.fT.length:Int)>16)=false:=by simp; omega
     rw [e16]
     simp only [hp,h8,decide_true,cond_false,Bool.and_true]
     cases inb r.fO 0 1 <;> cases Qtn r.fJ <;> cases inb r.fU 1 4 <;> cases inb (r.fG.length:Int) 1 5 <;> cases inb r.fR 0 999 <;> simp <;> cases r.fT.all prB <;> cases r.fG.all Qxs <;> rfl
   · have e16:decide ((r.fT.length:Int)>16)=true:=by simp; omega
     rw [e16]
     simp only [hp,decide_false,cond_true]
     cases inb r.fO 0 1 <;> cases Qtn r.fJ <;> cases inb r.fU 1 4 <;> simp
 · have e8:decide ((r.fV.length:Int)>8)=true:=by simp; omega
   rw [e8]
   simp only [h8,decide_false,cond_true,Bool.and_false,Bool.false_and]
   cases inb r.fO 0 1 <;> cases Qtn r.fJ <;> cases inb r.fU 1 4 <;> simp
def Qvt {α:Type} (g:α→Bool):List α→Int→Int
 | [],_=>-1
 | x::xs,i=>bif g x then i else Qvt g xs (i+1)
theorem Qsg {α:Type} (g:α→Bool):∀ (l:List α) (i:Int),0≤i→decide (Qvt g l i≥0)=l.any g
 | [],i,_=>rfl
 | x::xs,i,h=>by
  simp only [Qvt,List.any_cons]
  by_cases hx:g x=true
  · simpa [hx] using h
  · simpa [hx] using Qsg g xs (i+1) (by omega)
theorem Q11 {α:Type} (g:α→Bool):∀ (l pre:List α) ,(Qvt g l pre.length<0∧l.find? g=none)∨(0≤Qvt g l pre.length∧∃ x,l.find? g=some x∧ix (pre++l) (Qvt g l pre.length)=some x)
 | [],pre=>.inl ⟨by simp [Qvt],rfl⟩
 | x::xs,pre=>by
  simp only [Qvt]
  cases hx:g x
  · have:=Q11 g xs (pre++[x])
    simp only [List.length_append,List.length_singleton,List.append_assoc,List.singleton_append] at this
    simpa [List.find?_cons,hx] using this
  · refine .inr ⟨by simp,x,by simp [hx],?_⟩
    rw [cond_true,Qlf]
    simp
theorem Qsn {α:Type} (l:List α) (L:Nat→Int→Option Int) (g:α→Bool) (hl:l.length≤1099511627776)
    (hs:∀ n (i:Int) x,ix l i=some x→decide (i<(l.length:Int))=true→L (n+1) i=bif g x then some i else L n (w64 (i+1)))
    (he:∀ n (i:Int),decide (i<(l.length:Int))=false→L (n+1) i=some (-1)) (n:Nat) (hn:l.length<n):L n 0=some (Qvt g l 0):=by
 have key:∀ (m i n:Nat),l.length - i=m→i≤l.length→m<n→L n (i:Int)=some (Qvt g (l.drop i) i):=by
  intro m
  induction m with
  | zero =>
   intro i n hm hi hn
   obtain ⟨n,rfl⟩:∃ k,n=k+1:=⟨n - 1,by omega⟩
   rw [List.drop_of_length_le (by omega),he n i (by simp; omega)]
   rfl
  | succ m ih =>
   intro i n hm hi hn
   obtain ⟨n,rfl⟩:∃ k,n=k+1:=⟨n - 1,by omega⟩
   have hlt:i<l.length:=by omega
   rw [hs n i _ (Qx6 hlt) (by simpa using hlt),List.drop_eq_getElem_cons hlt]
   simp only [Qvt]
   cases g l[i]
   · rw [cond_false,cond_false,Qwa i (by omega)]
     have:=ih (i+1) n (by omega) (by omega) (by omega)
     simpa using this
   · rfl
 simpa using key l.length 0 n (by omega) (by omega) hn
theorem Q4i {fu:Nat} {l:List Typ} (f:Typ→Option Bool) (g:Typ→Bool) (hg:∀ x∈l,f x=some (g x)) (hl:l.length≤1048576) (hf:l.length<fu):Qa9 fu l f=some (Qvt g l 0):=by
 unfold Qa9
 refine Qsn l (λn i=>Qav fu l f n i) g (by omega) ?_ ?_ fu hf
 · intro n i x hx hd
   simp only [Qav.eq_2]
   unfold Qb2
   simp only [hd,cond_true,hx,Qaa,hg x (Qm0 hx)]
 · intro n i hd
   simp only [Qav.eq_2]
   unfold Qb2
   simp only [hd,cond_false]
theorem Q1f {fu:Nat} {l:List Typ} (f:Typ→Option Bool) (g:Typ→Bool) (hg:∀ x∈l,f x=some (g x)) (hl:l.length≤1048576) (hf:l.length<fu):Qam fu l f=some (l.any g):=by
 unfold Qam
 rw [Q4i f g hg hl hf,Qaa,Qsg g l 0 (by omega)]
theorem Q9e {fu:Nat} {l:List Pair} (f:Pair→Option Bool) (g:Pair→Bool) (hg:∀ x∈l,f x=some (g x)) (hl:l.length≤1048576) (hf:l.length<fu):Qbr fu l f=some (Qvt g l 0):=by
 unfold Qbr
 refine Qsn l (λn i=>Qau fu l f n i) g (by omega) ?_ ?_ fu hf
 · intro n i x hx hd
   simp only [Qau.eq_2]
   unfold Qb4
   simp only [hd,cond_true,hx,Qaa,hg x (Qm0 hx)]
 · intro n i hd
   simp only [Qau.eq_2]
   unfold Qb4
   simp only [hd,cond_false]
theorem Q2m {fu:Nat} {l:List Pair} (f:Pair→Option Bool) (g:Pair→Bool) (hg:∀ x∈l,f x=some (g x)) (hl:l.length≤1048576) (hf:l.length<fu):Qax fu l f=some (l.any g):=by
 unfold Qax
 rw [Q9e f g hg hl hf,Qaa,Qsg g l 0 (by omega)]
theorem Q69 {fu:Nat} {l:List Item} (f:Item→Option Bool) (g:Item→Bool) (hg:∀ x∈l,f x=some (g x)) (hl:l.length≤1048576) (hf:l.length<fu):Qbx fu l f=some (Qvt g l 0):=by
 unfold Qbx
 refine Qsn l (λn i=>Qat fu l f n i) g (by omega) ?_ ?_ fu hf
 · intro n i x hx hd
   simp only [Qat.eq_2]
   unfold Qb3
   simp only [hd,cond_true,hx,Qaa,hg x (Qm0 hx)]
 · intro n i hd
   simp only [Qat.eq_2]
   unfold Qb3
   simp only [hd,cond_false]
theorem Qx5 {fu:Nat} {l:List Item} (f:Item→Option Bool) (g:Item→Bool) (hg:∀ x∈l,f x=some (g x)) (hl:l.length≤1048576) (hf:l.length<fu):Qaw fu l f=some (l.any g):=by
 unfold Qaw
 rw [Q69 f g hg hl hf,Qaa,Qsg g l 0 (by omega)]
theorem Jjj {fu:Nat} {r:Request} (h:Sm fu r):Qm4 fu r=some (Qx8 r):=by
 have hfu:=h.fu
 have h1:=h.items
 have h2:=h.types
 have h3:=h.pairs
 have e3:Qed fu r fu 0 0=some (r.fV.all Quf&&decide (Qvo (r.fV.map (·.fM))≤12)):=by
  rw [lp r.fV (λn s i=>Qed fu r n s i) Jfb (by omega) ?_ ?_ fu 0 (by omega),Q3j _ _ (by omega) (by omega)]
  · simp
  · intro n s i x xs hx hd ih
    simp only [Qed.eq_2]
    unfold Qik
    simp only [hd,cond_true,hx,Qaa,Jjs,ih]
    rfl
  · intro n s i hd
    simp only [Qed.eq_2]
    unfold Qik
    simp only [hd,cond_false]
    rfl
 have ep:Qax fu r.fT (λy34=>Qjk fu y34)=some (!(r.fT.all prB)):=by
  rw [Q2m _ (λp=>!prB p) (λp _=>by
   unfold Qjk prB
   simp only [Qyd,Qaa]
   cases inb p.fA 0 3 <;> rfl) h3 (by omega)]
  simp [List.not_all_eq_any_not]
 have et:Qam fu r.fG (λy34=>Qjd fu y34)=some (!(r.fG.all Qxs)):=by
  rw [Q1f _ (λp=>!Qxs p) (λp _=>by
   unfold Qjd
   rw [Jjo]; rfl) h2 (by omega)]
  simp [List.not_all_eq_any_not]
 unfold Qm4 Qma Ql7 Qx8
 rw [e3,ep,et]
 simp only [Qyd,Jjf,Qaa]
 have e8:decide ((r.fV.length:Int)>8)=!decide (r.fV.length≤8):=by
  by_cases hh:r.fV.length≤8
  · have:¬ ((r.fV.length:Int)>8):=by omega
    simp [hh,this]
  · have:(r.fV.length:Int)>8:=by omega
    simp [hh,this]
 have e16:decide ((r.fT.length:Int)>16)=!decide (r.fT.length≤16):=by
  by_cases hh:r.fT.length≤16
  · have:¬ ((r.fT.length:Int)>16):=by omega
    simp [hh,this]
  · have:(r.fT.length:Int)>16:=by omega
    simp [hh,this]
 rw [e8,e16]
 cases inb r.fO 0 1 <;> cases Qtn r.fJ <;> cases inb r.fU 1 4 <;> cases decide (r.fT.length≤16) <;> cases r.fT.all prB <;> cases inb (r.fG.length:Int) 1 5 <;> cases r.fG.all Qxs <;> cases inb r.fR 0 999 <;> cases decide (r.fV.length≤8) <;> rfl
theorem lpP {σ α β:Type} (l:List α) (L:Nat→σ→Int→Option β) (F:List α→List α→σ→Option β) (hl:l.length≤1099511627776)
    (hs:∀ n s pre x xs,l=pre++x::xs→ix l (pre.length:Int)=some x→decide ((pre.length:Int)<(l.length:Int))=true→(∀ s',L n s' (w64 ((pre.length:Int)+1))=F (pre++[x]) xs s')→L (n+1) s (pre.length:Int)=F pre (x::xs) s)
    (he:∀ n s,decide ((l.length:Int)<(l.length:Int))=false→L (n+1) s (l.length:Int)=F l [] s):∀ n s,l.length<n→L n s 0=F [] l s:=by
 have key:∀ (xs pre:List α) (n:Nat) (s:σ),l=pre++xs→xs.length<n→L n s (pre.length:Int)=F pre xs s:=by
  intro xs
  induction xs with
  | nil =>
   intro pre n s he' hn
   obtain ⟨n,rfl⟩:∃ k,n=k+1:=⟨n - 1,by omega⟩
   simp only [List.append_nil] at he'
   subst he'
   exact he n s (by simp)
  | cons x xs ih =>
   intro pre n s he' hn
   obtain ⟨n,rfl⟩:∃ k,n=k+1:=⟨n - 1,by simp at hn; omega⟩
   have hlen:l.length=pre.length+(xs.length+1):=by rw [he']; simp
   refine hs n s pre x xs he' ?_ (by simp; omega) λs'=>?_
   · rw [Qlf,he']; simp
   · rw [Qwa _ (by omega)]
     have:=ih (pre++[x]) n s' (by simp [he']) (by simp at hn; omega)
     simpa using this
 intro n s hn
 simpa using key l [] n s rfl hn
theorem Jbn {α:Type} {pre rest:List α} {i:Int} {y:α} (h:ix pre i=some y):ix (pre++rest) i=some y:=by
 obtain ⟨h0,h1,h2⟩:=Qaf h
 unfold ix
 rw [if_pos h0,List.getElem?_append_left (by omega),h2]
theorem Ji8 (a b:Int):(a==b)=(b==a):=Bool.eq_iff_iff.2 (by simp only [beq_iff_eq]; exact ⟨Eq.symm,Eq.symm⟩)
theorem Qxn {fu:Nat} {r:Request} (h:Sm fu r) (id:Int):Qhj fu r id=some (Qwc (Qrc r id)):=by
 have hfu:=h.fu
 have ht:=h.types
 unfold Qhj Qrc
 rw [Q4i (λy24=>Qnl fu y24 id) (λt=>t.f0==id) (λt _=>rfl) ht (by omega),Qaa]
 rcases Q11 (λt:Typ=>t.f0==id) r.fG [] with ⟨h1,h2⟩ | ⟨h1,x,h2,h3⟩
 · simp only [List.length_nil] at h1
   rw [Qa2 (by simpa using h1),h2]; rfl
 · simp only [List.length_nil,List.nil_append] at h1 h3
   rw [Qah (by simpa using h1),h2]
   have h3':ix r.fG (Qvt (λt=>t.f0==id) r.fG 0)=some x:=h3
   rw [h3']; rfl
theorem Q6l {fu:Nat} {r:Request} (h:Sm fu r):Qfk fu r=some (Qwc (Qrc r r.fR)):=by
 have hfu:=h.fu
 have ht:=h.types
 unfold Qfk Qrc
 refine lp r.fG (λn (_:Unit) i=>Qfn fu r n i) (λl _=>some (Qwc (l.find? λt=>t.f0==r.fR))) (by omega) ?_ ?_ fu () (by omega)
 · intro n s i x xs hx hd ih
   simp only [Qfn.eq_2]
   unfold Qiq
   simp only [hd,cond_true,hx,Qaa,ih (),List.find?_cons]
   cases x.f0==r.fR <;> rfl
 · intro n s i hd
   simp only [Qfn.eq_2]
   unfold Qiq
   simp only [hd,cond_false]
   rfl
theorem Jev {fu:Nat} {r:Request} (h:Sm fu r):Qhd fu r=some (Qwc (Qrc r r.fR)):=by
 unfold Qhd
 rw [Qxn h]; rfl
theorem Qzr (o:Option Typ):(Qwc o).2=o.isSome:=by cases o <;> rfl
theorem Jje {fu:Nat} {r:Request} (h:Sm fu r):Qor fu r=some (Q2w r):=by
 have hfu:=h.fu
 have h1:=h.items
 have h2:=h.types
 have h3:=h.pairs
 have e11:Qdf fu r fu 0=some (!(r.fT.any λp=>decide (p.fA≥r.fU)||decide (p.fB≥r.fU))&&(Qrc r r.fR).isSome):=by
  refine lp r.fT (λn (_:Unit) i=>Qdf fu r n i) (λl _=>some (!(l.any λp=>decide (p.fA≥r.fU)||decide (p.fB≥r.fU))&&(Qrc r r.fR).isSome)) (by omega) ?_ ?_ fu () (by omega)
  · intro n s i x xs hx hd ih
    simp only [Qdf.eq_2]
    unfold Qk3 Qnh
    simp only [hd,cond_true,hx,Qaa,ih (),List.any_cons]
    cases decide (x.fA≥r.fU) <;> cases decide (x.fB≥r.fU) <;> rfl
  · intro n s i hd
    simp only [Qdf.eq_2]
    unfold Qk3
    simp only [hd,cond_false,Q6l h,Qaa,Qzr]
    rfl
 have e7:∀ b,Qdf fu r fu 0=some b→Qbf fu r fu 0=some (Q4a r.fU [] r.fV&&b):=by
  intro b hb
  refine lpP r.fV (λn (_:Unit) i=>Qbf fu r n i) (λpre l _=>some (Q4a r.fU pre l&&b)) (by omega) ?_ ?_ fu () (by omega)
  · intro n s pre x xs hl hx hd ih
    simp only [Qbf.eq_2]
    unfold Qj8
    simp only [hd,cond_true,hx,Qaa,Q4a]
    cases hc:decide (x.fL≥r.fU)
    · have hpl:pre.length≤r.fV.length:=by rw [hl]; simp
      have e8:Qd6 fu (λi=>Qbf fu r n i) r (pre.length:Int) fu 0=bif pre.any (λy=>y.f0==x.f0) then some false else Qbf fu r n (w64 ((pre.length:Int)+1)):=by
       refine lp pre (λm (_:Unit) i=>Qd6 fu (λi=>Qbf fu r n i) r (pre.length:Int) m i) (λl _=>bif l.any (λy=>y.f0==x.f0) then some false else Qbf fu r n (w64 ((pre.length:Int)+1))) (by omega) ?_ ?_ fu () (by omega)
       · intro m s i y ys hy hd ih
         simp only [Qd6.eq_2]
         unfold Qj6
         have hy':ix r.fV i=some y:=by rw [hl]; exact Jbn hy
         simp only [hd,cond_true,hx,hy',Qaa,ih (),List.any_cons]
         rw [Ji8 x.f0 y.f0]
         cases y.f0==x.f0 <;> rfl
       · intro m s i hd
         simp only [Qd6.eq_2]
         unfold Qj6
         simp only [hd,cond_false]
         rfl
      have e8':Qd6 fu (Qbf fu r n) r (pre.length:Int) fu 0=bif pre.any (λy=>y.f0==x.f0) then some false else Qbf fu r n (w64 ((pre.length:Int)+1)):=e8
      rw [cond_false,e8',ih ()]
      cases pre.any (λy=>y.f0==x.f0) <;> rfl
    · rfl
  · intro n s hd
    simp only [Qbf.eq_2]
    unfold Qj8
    simp only [hd,cond_false,hb]
    rfl
 have e3:∀ b,Qbf fu r fu 0=some b→Qbl fu r fu 0=some (Q2g Typ.f0 [] r.fG&&b):=by
  intro b hb
  refine lpP r.fG (λn (_:Unit) i=>Qbl fu r n i) (λpre l _=>some (Q2g Typ.f0 pre l&&b)) (by omega) ?_ ?_ fu () (by omega)
  · intro n s pre x xs hl hx hd ih
    simp only [Qbl.eq_2]
    unfold Qjy
    simp only [hd,cond_true,Q2g]
    have hpl:pre.length≤r.fG.length:=by rw [hl]; simp
    have e8:Qd4 fu (λi=>Qbl fu r n i) r (pre.length:Int) fu 0=bif pre.any (λy=>y.f0==x.f0) then some false else Qbl fu r n (w64 ((pre.length:Int)+1)):=by
     refine lp pre (λm (_:Unit) i=>Qd4 fu (λi=>Qbl fu r n i) r (pre.length:Int) m i) (λl _=>bif l.any (λy=>y.f0==x.f0) then some false else Qbl fu r n (w64 ((pre.length:Int)+1))) (by omega) ?_ ?_ fu () (by omega)
     · intro m s i y ys hy hd ih
       simp only [Qd4.eq_2]
       unfold Qk1
       have hy':ix r.fG i=some y:=by rw [hl]; exact Jbn hy
       simp only [hd,cond_true,hx,hy',Qaa,ih (),List.any_cons]
       rw [Ji8 x.f0 y.f0]
       cases y.f0==x.f0 <;> rfl
     · intro m s i hd
       simp only [Qd4.eq_2]
       unfold Qk1
       simp only [hd,cond_false]
       rfl
    have e8':Qd4 fu (Qbl fu r n) r (pre.length:Int) fu 0=bif pre.any (λy=>y.f0==x.f0) then some false else Qbl fu r n (w64 ((pre.length:Int)+1)):=e8
    rw [e8',ih ()]
    cases pre.any (λy=>y.f0==x.f0) <;> rfl
  · intro n s hd
    simp only [Qbl.eq_2]
    unfold Qjy
    simp only [hd,cond_false,hb]
    rfl
 unfold Qor Q2w
 rw [e3 _ (e7 _ e11)]
 congr 1
 cases Q2g Typ.f0 [] r.fG <;> cases Q4a r.fU [] r.fV <;> cases (Qrc r r.fR).isSome <;> cases r.fT.any λp=>decide (p.fA≥r.fU)||decide (p.fB≥r.fU) <;> rfl
theorem Q8i {α:Type} {l pre xs:List α} {x:α} (h:l=pre++x::xs):sls l 0 (pre.length:Int)=some pre:=by
 rw [Qry ⟨by omega,by omega,by rw [h]; simp; omega⟩]
 simp [h]
theorem Jis {fu:Nat} {r:Request} (h:Sm fu r):Qoh fu r=some (Q2w r):=by
 have hfu:=h.fu
 have h1:=h.items
 have h2:=h.types
 have h3:=h.pairs
 have e4:Qda fu r fu 0=some (Q4a r.fU [] r.fV&&((Qrc r r.fR).isSome&&!(r.fT.any λp=>decide (p.fA≥r.fU)||decide (p.fB≥r.fU)))):=by
  refine lpP r.fV (λn (_:Unit) i=>Qda fu r n i) (λpre l _=>some (Q4a r.fU pre l&&((Qrc r r.fR).isSome&&!(r.fT.any λp=>decide (p.fA≥r.fU)||decide (p.fB≥r.fU))))) (by omega) ?_ ?_ fu () (by omega)
  · intro n s pre x xs hl hx hd ih
    simp only [Qda.eq_2]
    unfold Qla Qnx
    have hpl:pre.length≤r.fV.length:=by rw [hl]; simp
    simp only [hd,cond_true,hx,Qaa,Q8i hl,Qx5 (λy=>Qpf fu y x) (λy=>y.f0==x.f0) (λy _=>rfl) (show pre.length≤1048576 by omega) (show pre.length<fu by omega),Q4a,ih ()]
    cases decide (x.fL≥r.fU) <;> cases pre.any (λy=>y.f0==x.f0) <;> rfl
  · intro n s hd
    simp only [Qda.eq_2]
    unfold Qla
    simp only [hd,cond_false,Jev h,Qaa,Qzr]
    rw [Q2m (λy=>Qlg fu y r) (λp=>decide (p.fA≥r.fU)||decide (p.fB≥r.fU)) (λp _=>by
     unfold Qlg
     cases decide (p.fA≥r.fU) <;> rfl) h3 (by omega),Qaa]
    cases (Qrc r r.fR).isSome <;> rfl
 have e3:∀ b,Qda fu r fu 0=some b→Qe2 fu r fu 0=some (Q2g Typ.f0 [] r.fG&&b):=by
  intro b hb
  refine lpP r.fG (λn (_:Unit) i=>Qe2 fu r n i) (λpre l _=>some (Q2g Typ.f0 pre l&&b)) (by omega) ?_ ?_ fu () (by omega)
  · intro n s pre x xs hl hx hd ih
    simp only [Qe2.eq_2]
    unfold Qkt
    have hpl:pre.length≤r.fG.length:=by rw [hl]; simp
    simp only [hd,cond_true,hx,Qaa,Q8i hl,Q1f (λy=>Qpd fu y x) (λy=>y.f0==x.f0) (λy _=>rfl) (show pre.length≤1048576 by omega) (show pre.length<fu by omega),Q2g,ih ()]
    cases pre.any (λy=>y.f0==x.f0) <;> rfl
  · intro n s hd
    simp only [Qe2.eq_2]
    unfold Qkt
    simp only [hd,cond_false,hb]
    rfl
 unfold Qoh Q2w
 rw [e3 _ e4]
 congr 1
 cases Q2g Typ.f0 [] r.fG <;> cases Q4a r.fU [] r.fV <;> cases (Qrc r r.fR).isSome <;> cases r.fT.any λp=>decide (p.fA≥r.fU)||decide (p.fB≥r.fU) <;> rfl
theorem Jid {fu:Nat} {l:List Pair} (hl:l.length≤1048576) (hf:l.length<fu) (a b:Int):Qfj fu l a b=some (Qr9 l a b):=by
 unfold Qfj Qr9
 refine lp l (λn (_:Unit) i=>Qfz fu l a b n i) (λl _=>some (l.any λp=>p.fA==a&&p.fB==b)) (by omega) ?_ ?_ fu () hf
 · intro n s i x xs hx hd ih
   simp only [Qfz.eq_2]
   unfold Ql4 Qlq
   simp only [hd,cond_true,hx,Qaa,ih (),List.any_cons]
   cases x.fA==a <;> cases x.fB==b <;> rfl
 · intro n s i hd
   simp only [Qfz.eq_2]
   unfold Ql4
   simp only [hd,cond_false]
   rfl
theorem Jen {fu:Nat} {l:List Pair} (hl:l.length≤1048576) (hf:l.length<fu) (a b:Int):Qgy fu l a b=some (Qr9 l a b):=by
 unfold Qgy Qcr Qc8 Qr9
 have:=Qsn l (λn i=>Qa5 fu l (⟨a,b⟩:Pair) n i) (λp=>p.fA==a&&p.fB==b) (by omega) (by
  intro n i x hx hd
  simp only [Qa5.eq_2]
  unfold Qck
  simp only [hd,cond_true,hx,Qaa]
  have:decide ((⟨a,b⟩:Pair)=x)=(x.fA==a&&x.fB==b):=by
   rcases x with ⟨c,d⟩
   apply Bool.eq_iff_iff.2
   simp only [decide_eq_true_eq,Pair.mk.injEq,Bool.and_eq_true,beq_iff_eq]
   exact ⟨λ⟨h1,h2⟩=>⟨h1.symm,h2.symm⟩,λ⟨h1,h2⟩=>⟨h1.symm,h2.symm⟩⟩
  rw [this]) (by
  intro n i hd
  simp only [Qa5.eq_2]
  unfold Qck
  simp only [hd,cond_false]) fu hf
 rw [this,Qaa,Qsg _ l 0 (by omega),Qaa]
theorem Jjr {fu:Nat} {l:List Pair} (hl:l.length≤1048576) (hf:l.length<fu) (h64:64<fu) (c:Int):Qod fu l c=some (Q9u l c):=by
 unfold Qod Q9u
 rw [Qyd,Qaa]
 cases hc:inb c 1 4
 · rfl
 rw [Qcd] at hc
 simp only [Bool.not_true,cond_false,Bool.true_and]
 have e4:∀ (k:Int→Option Bool) (a:Int),Qe7 fu k l c a fu 0=bif (Qnf 0 c.toNat).all λb=>Qr9 l a b==Qr9 l b a then k (w64 (a+1)) else some false:=by
  intro k a
  refine lpN c (λn (_:Unit) i=>Qe7 fu k l c a n i) (λxs _=>bif xs.all λb=>Qr9 l a b==Qr9 l b a then k (w64 (a+1)) else some false) (by omega) ?_ ?_ c.toNat fu () 0 (by omega) (by omega) (by omega)
  · intro n s i xs h0 h1 hd ih
    simp only [Qe7.eq_2]
    unfold Qk6
    simp only [hd,cond_true,Jen hl hf,Qaa,ih (),List.all_cons]
    cases Qr9 l a i==Qr9 l i a <;> rfl
  · intro n s i hd
    simp only [Qe7.eq_2]
    unfold Qk6
    simp only [hd,cond_false]
    rfl
 refine lpN c (λn (_:Unit) i=>Qe0 fu l c n i) (λxs _=>some (xs.all λa=>Qr9 l a a&&(Qnf 0 c.toNat).all λb=>Qr9 l a b==Qr9 l b a)) (by omega) ?_ ?_ c.toNat fu () 0 (by omega) (by omega) (by omega)
 · intro n s i xs h0 h1 hd ih
   simp only [Qe0.eq_2]
   unfold Qjz
   simp only [hd,cond_true,Jen hl hf,Qaa,e4,ih (),List.all_cons]
   cases Qr9 l i i <;> cases (Qnf 0 c.toNat).all λb=>Qr9 l i b==Qr9 l b i <;> rfl
 · intro n s i hd
   simp only [Qe0.eq_2]
   unfold Qjz
   simp only [hd,cond_false]
   rfl
theorem Jjt {fu:Nat} {l:List Pair} (hl:l.length≤1048576) (hf:l.length<fu) (h64:64<fu) (c:Int):Qoi fu l c=some (Q9u l c):=by
 unfold Qoi Q9u
 rw [Q2x,Qaa]
 cases hc:inb c 1 4
 · rfl
 rw [Qcd] at hc
 simp only [Bool.not_true,cond_false,Bool.true_and]
 have e4:∀ (k:Int→Option Bool) (a:Int),Qd7 fu k l c a fu 0=bif (Qnf 0 c.toNat).all λb=>(!(a==b)||Qr9 l a a)&&(Qr9 l a b==Qr9 l b a) then k (w64 (a+1)) else some false:=by
  intro k a
  refine lpN c (λn (_:Unit) i=>Qd7 fu k l c a n i) (λxs _=>bif xs.all λb=>(!(a==b)||Qr9 l a a)&&(Qr9 l a b==Qr9 l b a) then k (w64 (a+1)) else some false) (by omega) ?_ ?_ c.toNat fu () 0 (by omega) (by omega) (by omega)
  · intro n s i xs h0 h1 hd ih
    simp only [Qd7.eq_2]
    unfold Qjs Qi7
    simp only [hd,cond_true,Jid hl hf,Qaa,ih (),List.all_cons]
    cases a==i <;> cases Qr9 l a a <;> cases Qr9 l a i==Qr9 l i a <;> rfl
  · intro n s i hd
    simp only [Qd7.eq_2]
    unfold Qjs
    simp only [hd,cond_false]
    rfl
 have e9:Qdi fu l c fu 0=some ((Qnf 0 c.toNat).all λa=>(Qnf 0 c.toNat).all λb=>(!(a==b)||Qr9 l a a)&&(Qr9 l a b==Qr9 l b a)):=by
  refine lpN c (λn (_:Unit) i=>Qdi fu l c n i) (λxs _=>some (xs.all λa=>(Qnf 0 c.toNat).all λb=>(!(a==b)||Qr9 l a a)&&(Qr9 l a b==Qr9 l b a))) (by omega) ?_ ?_ c.toNat fu () 0 (by omega) (by omega) (by omega)
  · intro n s i xs h0 h1 hd ih
    simp only [Qdi.eq_2]
    unfold Qks
    simp only [hd,cond_true,e4,ih (),List.all_cons]
    cases (Qnf 0 c.toNat).all λb=>(!(i==b)||Qr9 l i i)&&(Qr9 l i b==Qr9 l b i) <;> rfl
  · intro n s i hd
    simp only [Qdi.eq_2]
    unfold Qks
    simp only [hd,cond_false]
    rfl
 rw [e9]
 congr 1
 apply Bool.eq_iff_iff.2
 simp only [List.all_eq_true,Bool.and_eq_true,Bool.or_eq_true,Bool.not_eq_true',beq_eq_false_iff_ne,beq_iff_eq]
 constructor
 · intro h a ha
   refine ⟨?_,λb hb=>(h a ha b hb).2⟩
   rcases (h a ha a ha).1 with h1 | h1
   · exact absurd rfl h1
   · exact h1
 · intro h a ha b hb
   exact ⟨.inr (h a ha).1,(h a ha).2 b hb⟩
theorem Jlb {l:List Int} (h:l.length=3):∃ p q s,l=[p,q,s]:=by
 match l,h with
 | [p,q,s],_=>exact ⟨p,q,s,rfl⟩
theorem Jhz {fu:Nat} (hfu:2097153≤fu) (a b c:Int):Qlw fu a b c=some [(sid a b c).1,(sid a b c).2.1,(sid a b c).2.2]:=by
 unfold Qlw
 rw [Jk5 hfu (by simp),Qaa,show [a,b,c].length=3 from rfl]
 have hp:=Qtj (kf [a,b,c]) 3
 have hs:=Qu0 (kf [a,b,c]) 3
 obtain ⟨p,q,s,hq⟩:=Jlb (Qr4 (kf [a,b,c]) 3)
 rw [hq] at hp hs ⊢
 have hmem:∀ x∈[p,q,s],0≤x∧x<3:=λx hx=>by
  have:=Qhy.1 (hp.mem_iff.1 hx)
  omega
 have k1:=Q22 (keys:=[a,b,c]) (p:=p) (by have:=hmem p (by simp); simpa using this)
 have k2:=Q22 (keys:=[a,b,c]) (p:=q) (by have:=hmem q (by simp); simpa using this)
 have k3:=Q22 (keys:=[a,b,c]) (p:=s) (by have:=hmem s (by simp); simpa using this)
 rw [show ix [p,q,s] 0=some p from rfl,show ix [p,q,s] 1=some q from rfl,show ix [p,q,s] 2=some s from rfl]
 simp only [Qaa,k1,k2,k3]
 have hp3:([a,b,c]).Perm [kf [a,b,c] p,kf [a,b,c] q,kf [a,b,c] s]:=(hp.map (kf [a,b,c])).symm
 simp only [List.pairwise_cons,List.mem_cons,List.not_mem_nil,or_false,forall_eq_or_imp,forall_eq,lx] at hs
 have:=Jfp hp3 (by omega) (by omega)
 rw [this]
theorem Jd7 {fu:Nat} (hfu:2097153≤fu) (x:Item) (t:Typ):Qpl fu x t=some (Qub x t):=by
 unfold Qpl Qub
 rw [Jhz hfu,Jhz hfu]
 simp only [Qaa]
 have e0:∀ a b c:Int,ix [a,b,c] 0=some a:=λ_ _ _=>rfl
 have e1:∀ a b c:Int,ix [a,b,c] 1=some b:=λ_ _ _=>rfl
 have e2:∀ a b c:Int,ix [a,b,c] 2=some c:=λ_ _ _=>rfl
 simp only [e0,e1,e2,Qaa]
 cases decide ((sid x.fW x.fH x.fD).1≤(sid t.fW t.fH t.fD).1) <;> cases decide ((sid x.fW x.fH x.fD).2.1≤(sid t.fW t.fH t.fD).2.1) <;> cases decide ((sid x.fW x.fH x.fD).2.2≤(sid t.fW t.fH t.fD).2.2) <;> rfl
theorem Q8g (a b c:Int):Q1b [a,b,c]=some [(sid a b c).1,(sid a b c).2.1,(sid a b c).2.2]:=by
 unfold Q1b
 rw [if_pos (by simp)]
 have hp:=List.mergeSort_perm [a,b,c] (λx y=>decide (x≤y))
 have hs:=Qs8 [a,b,c]
 obtain ⟨p,q,s,hq⟩:=Jlb (hp.length_eq)
 rw [hq] at hp hs ⊢
 simp only [List.pairwise_cons,List.mem_cons,List.not_mem_nil,or_false,forall_eq_or_imp,forall_eq] at hs
 rw [Jfp hp.symm (by omega) (by omega)]
theorem Jf3 (fu:Nat) (x:Item) (t:Typ):Qqr fu x t=some (Qub x t):=by
 unfold Qqr Qq1 Qc2 Qub
 rw [Q8g,Q8g]
 have e0:∀ a b c:Int,ix [a,b,c] 0=some a:=λ_ _ _=>rfl
 have e1:∀ a b c:Int,ix [a,b,c] 1=some b:=λ_ _ _=>rfl
 have e2:∀ a b c:Int,ix [a,b,c] 2=some c:=λ_ _ _=>rfl
 simp only [Qaa,e0,e1,e2]
 cases decide ((sid x.fW x.fH x.fD).1≤(sid t.fW t.fH t.fD).1) <;> cases decide ((sid x.fW x.fH x.fD).2.1≤(sid t.fW t.fH t.fD).2.1) <;> cases decide ((sid x.fW x.fH x.fD).2.2≤(sid t.fW t.fH t.fD).2.2) <;> rfl
theorem Q01 {fu:Nat} {r:Request} (h:Sm fu r):Qey fu r=some (Qgq r):=by
 have hfu:=h.fu
 have h1:=h.items
 have h2:=h.types
 have h3:=h.pairs
 have e4:Qfq fu r fu 0=some (bif r.fG.any (Q39 r.fJ) then 6 else 0):=by
  refine lp r.fG (λn (_:Unit) i=>Qfq fu r n i) (λl _=>some (bif l.any (Q39 r.fJ) then 6 else 0)) (by omega) ?_ ?_ fu () (by omega)
  · intro n s i x xs hx hd ih
    simp only [Qfq.eq_2]
    unfold Qnv Qqb
    simp only [hd,cond_true,hx,Qaa,ih (),List.any_cons,Q39]
    cases decide (x.fW>r.fJ.fW) <;> cases decide (x.fD>r.fJ.fD) <;> cases decide (x.fH>r.fJ.fH) <;> cases decide (w64 (x.fF+x.fQ)>r.fJ.fQ) <;> rfl
  · intro n s i hd
    simp only [Qfq.eq_2]
    unfold Qnv
    simp only [hd,cond_false]
    rfl
 unfold Qey Qgq
 rw [Jkc h,Qaa,Jje h,Qaa,Jjt h3 (by omega) (by omega),Qaa,Q6l h,Qaa]
 have e1:Qgk fu r (Qwc (Qrc r r.fR)) fu 0=some (bif !(r.fV.all λx=>Qub x (Qsv r)) then 5 else bif r.fG.any (Q39 r.fJ) then 6 else 0):=by
  refine lp r.fV (λn (_:Unit) i=>Qgk fu r (Qwc (Qrc r r.fR)) n i) (λl _=>some (bif !(l.all λx=>Qub x (Qsv r)) then 5 else bif r.fG.any (Q39 r.fJ) then 6 else 0)) (by omega) ?_ ?_ fu () (by omega)
  · intro n s i x xs hx hd ih
    simp only [Qgk.eq_2]
    unfold Qn2
    simp only [hd,cond_true,hx,Qaa,Jd7 hfu,ih (),List.all_cons]
    rw [show (Qwc (Qrc r r.fR)).1=Qsv r from rfl]
    cases Qub x (Qsv r) <;> rfl
  · intro n s i hd
    simp only [Qgk.eq_2]
    unfold Qn2
    simp only [hd,cond_false,e4]
    rfl
 rw [e1]
 cases Qx8 r <;> cases Q2w r <;> cases Q9u r.fT r.fU <;> rfl
theorem Jgn {fu:Nat} {r:Request} (h:Sm fu r):Qpq fu r=some (Qgq r):=by
 have hfu:=h.fu
 have h1:=h.items
 have h2:=h.types
 have h3:=h.pairs
 unfold Qpq Qgq
 rw [Jev h,Qaa,Jjj h,Qaa,Jis h,Qaa,Jjr h3 (by omega) (by omega),Qaa]
 rw [Qx5 (λy=>Qot fu y (Qwc (Qrc r r.fR)).1) (λx=>!Qub x (Qsv r)) (λx _=>by
  unfold Qot
  rw [Jf3,Qaa]; rfl) h1 (by omega),Qaa]
 rw [Q1f (λy=>Qo0 fu y r.fJ) (Q39 r.fJ) (λx _=>by
  unfold Qo0 Q39
  cases decide (x.fW>r.fJ.fW) <;> cases decide (x.fD>r.fJ.fD) <;> cases decide (x.fH>r.fJ.fH) <;> rfl) h2 (by omega),Qaa]
 rw [show (r.fV.any λx=>!Qub x (Qsv r))=!(r.fV.all λx=>Qub x (Qsv r)) by simp [List.not_all_eq_any_not]]
 cases Qx8 r <;> cases Q2w r <;> cases Q9u r.fT r.fU <;> cases r.fV.all λx=>Qub x (Qsv r) <;> cases r.fG.any (Q39 r.fJ) <;> rfl
theorem Qtf {fu:Nat} {r:Request} (h:Sm fu r):Qft fu r=some (Qgq r==0):=by
 unfold Qft
 rw [Jgn h]; rfl
theorem Jfn {σ α β:Type} (l:List α) (L:Nat→σ→Int→Option β) (F:List α→List α→σ→Option β) (I:List α→List α→σ→Prop) (hl:l.length≤1099511627776)
    (hs:∀ n s pre x xs,l=pre++x::xs→ix l (pre.length:Int)=some x→decide ((pre.length:Int)<(l.length:Int))=true→I pre (x::xs) s→(∀ s',I (pre++[x]) xs s'→L n s' (w64 ((pre.length:Int)+1))=F (pre++[x]) xs s')→L (n+1) s (pre.length:Int)=F pre (x::xs) s)
    (he:∀ n s,decide ((l.length:Int)<(l.length:Int))=false→I l [] s→L (n+1) s (l.length:Int)=F l [] s):∀ n s,I [] l s→l.length<n→L n s 0=F [] l s:=by
 have key:∀ (xs pre:List α) (n:Nat) (s:σ),l=pre++xs→I pre xs s→xs.length<n→L n s (pre.length:Int)=F pre xs s:=by
  intro xs
  induction xs with
  | nil =>
   intro pre n s he' hI hn
   obtain ⟨n,rfl⟩:∃ k,n=k+1:=⟨n - 1,by omega⟩
   simp only [List.append_nil] at he'
   subst he'
   exact he n s (by simp) hI
  | cons x xs ih =>
   intro pre n s he' hI hn
   obtain ⟨n,rfl⟩:∃ k,n=k+1:=⟨n - 1,by simp at hn; omega⟩
   have hlen:l.length=pre.length+(xs.length+1):=by rw [he']; simp
   refine hs n s pre x xs he' ?_ (by simp; omega) hI λs' hI'=>?_
   · rw [Qlf,he']; simp
   · rw [Qwa _ (by omega)]
     have:=ih (pre++[x]) n s' (by simp [he']) hI' (by simp at hn; omega)
     simpa using this
 intro n s hI hn
 simpa using key l [] n s rfl hI hn
theorem Qw3 {x:Item} (h:Quf x=true):1≤x.fM∧x.fM≤6:=by
 simp only [Quf,Bool.and_eq_true,Qcd] at h
 omega
theorem Jb3 {xs:List Item} (h:∀ x∈xs,Quf x=true):0≤Qvo (xs.map (·.fM)):=Q66 _ _ λx hx=>by have:=Qw3 (h x hx); omega
theorem Ji9 {fu:Nat} {r:Request} (h:Sm fu r) (hb:Qx8 r=true):Qc0 fu r=some (l6M r):=by
 have hfu:=h.fu
 obtain ⟨hi,hs,hl⟩:=Qof hb
 have e4:∀ (k:List Int→Int→Option (List Int)) (i:Int) (x:Item),ix r.fV i=some x→∀ (m n:Nat) (c:Int) (out:List Int),0≤c→c≤x.fM→(x.fM - c).toNat=m→x.fM≤6→m<n→out.length+m≤100 →
     Qga fu k r i n out c=k (out++List.replicate m i) (w64 (i+1)):=by
  intro k i x hx m
  induction m with
  | zero =>
   intro n c out h0 h1 h2 h3 h4 h5
   obtain ⟨n,rfl⟩:∃ j,n=j+1:=⟨n - 1,by omega⟩
   rw [Qga.eq_2]
   unfold Qjt
   rw [hx,Qaa,Qah (by simp; omega)]
   simp
  | succ m ih =>
   intro n c out h0 h1 h2 h3 h4 h5
   obtain ⟨n,rfl⟩:∃ j,n=j+1:=⟨n - 1,by omega⟩
   rw [Qga.eq_2]
   unfold Qjt
   rw [hx,Qaa,Qa2 (by simp; omega),ap1 (by simp; omega),Qaa,Qay (by omega) (by omega),ih n (c+1) (out++[i]) (by omega) (by omega) (by omega) h3 (by omega) (by simp; omega)]
   rw [List.append_assoc,List.singleton_append,← List.replicate_succ]
 unfold Qc0 l6M
 have:=Jfn r.fV (λn out i=>Qea fu r n out i) (λpre xs out=>some (out++Q2k (pre.length:Int) xs)) (λpre xs out=>(out.length:Int)+Qvo (xs.map (·.fM))≤12∧∀ x∈xs,Quf x=true) (by omega) ?_ ?_ fu [] ⟨by simpa using hs,hi⟩ (by omega)
 · simpa using this
 · intro n out pre x xs hl' hx hd hI ih
   simp only [Qea.eq_2]
   unfold Qkz
   have hc:=Qw3 (hI.2 x (by simp))
   have hsum:=hI.1
   have hnn:=Jb3 (λy hy=>hI.2 y (by simp [hy]):∀ y∈xs,Quf y=true)
   simp only [List.map_cons,Qq8] at hsum
   have e:=e4 (Qea fu r n) (pre.length:Int) x hx x.fM.toNat fu 0 out (by omega) (by omega) (by omega) (by omega) (by omega) (by omega)
   rw [hd,cond_true,e,ih _ ⟨by simp; omega,λy hy=>hI.2 y (by simp [hy])⟩]
   simp [Q2k]
 · intro n out hd hI
   simp only [Qea.eq_2]
   unfold Qkz
   simp only [hd,cond_false]
   simp [Q2k]
theorem Jf4 {fu:Nat} {r:Request} (h:Sm fu r) (hc:Qgq r=0):Qc0 fu r=some (Qlr r):=by
 unfold Qlr
 rw [Ji9 h (Qec hc).1,Qa2 (by simp [hc])]
theorem Jkj {fu:Nat} {r:Request} (h:Sm fu r):Qra fu r=some (Qlr r):=by
 unfold Qra Qlr
 rw [Q01 h,Qaa]
 by_cases hc:Qgq r=0
 · rw [Qah (by simp [hc]),Ji9 h (Qec hc).1,Qaa,Qa2 (by simp [hc])]
 · rw [Qa2 (by simp [hc]),Qah (by simp [hc])]
theorem Jlo (fu:Nat) (c:Int) (h:1≤c∧c≤6):Qti fu (IntKind.wrap .u64 1) (IntKind.wrap .u64 c)=some (0,c):=by
 have:c=1∨c=2∨c=3∨c=4∨c=5∨c=6:=by omega
 rcases this with rfl | rfl | rfl | rfl | rfl | rfl <;> rfl
theorem Jip (m:Nat) (i:Int):Qbj (m+10) [i] (0,1)=some (List.replicate 1 i):=by kernel_rfl
theorem Jj0 (m:Nat) (i:Int):Qbj (m+10) [i] (0,2)=some (List.replicate 2 i):=by kernel_rfl
theorem Jjn (m:Nat) (i:Int):Qbj (m+10) [i] (0,3)=some (List.replicate 3 i):=by kernel_rfl
theorem Jkl (m:Nat) (i:Int):Qbj (m+10) [i] (0,4)=some (List.replicate 4 i):=by kernel_rfl
theorem Jjh (m:Nat) (i:Int):Qbj (m+10) [i] (0,5)=some (List.replicate 5 i):=by kernel_rfl
theorem Jkm (m:Nat) (i:Int):Qbj (m+10) [i] (0,6)=some (List.replicate 6 i):=by kernel_rfl
theorem Jlh {fu:Nat} (hfu:10≤fu) (i c:Int) (h:1≤c∧c≤6):Qfm fu [i] c=some (List.replicate c.toNat i):=by
 unfold Qfm Qf2
 rw [Qah (by simp; omega)]
 rw [show (([i]:List Int).length:Int)=1 from rfl,Jlo fu c h,Qaa,Qah (by simp),Qah (by simp; omega)]
 obtain ⟨m,rfl⟩:∃ m,fu=m+10:=⟨fu - 10,by omega⟩
 have:c=1∨c=2∨c=3∨c=4∨c=5∨c=6:=by omega
 rcases this with rfl | rfl | rfl | rfl | rfl | rfl
 · exact Jip m i
 · exact Jj0 m i
 · exact Jjn m i
 · exact Jkl m i
 · exact Jjh m i
 · exact Jkm m i
theorem Jc3 {fu:Nat} {r:Request} (h:Sm fu r):Qm3 fu r=some (Qlr r):=by
 have hfu:=h.fu
 unfold Qm3 Qlr
 rw [Qtf h,Qaa]
 by_cases hc:Qgq r=0
 · obtain ⟨hi,hs,hl⟩:=Qof (Qec hc).1
   rw [Qah (by simp [hc]),Qa2 (by simp [hc])]
   unfold l6M
   have:=Jfn r.fV (λn out i=>Qhk fu r n out i) (λpre xs out=>some (out++Q2k (pre.length:Int) xs)) (λpre xs out=>(out.length:Int)+Qvo (xs.map (·.fM))≤12∧∀ x∈xs,Quf x=true) (by omega) ?_ ?_ fu [] ⟨by simpa using hs,hi⟩ (by omega)
   · simpa using this
   · intro n out pre x xs hl' hx hd hI ih
     simp only [Qhk.eq_2]
     unfold Qnm
     have hc:=Qw3 (hI.2 x (by simp))
     have hsum:=hI.1
     have hnn:=Jb3 (λy hy=>hI.2 y (by simp [hy]):∀ y∈xs,Quf y=true)
     simp only [List.map_cons,Qq8] at hsum
     rw [hd,cond_true,hx,Qaa,Jlh (by omega) _ _ hc,Qaa,ap1 (by simp; omega),Qaa,ih _ ⟨by simp; omega,λy hy=>hI.2 y (by simp [hy])⟩]
     simp [Q2k]
   · intro n out hd hI
     simp only [Qhk.eq_2]
     unfold Qnm
     simp only [hd,cond_false]
     simp [Q2k]
 · rw [Qa2 (by simp [hc]),Qah (by simp [hc])]
theorem Jhl {fu:Nat} {l:List Int} (hl:l.length≤1048576) (hf:l.length<fu) (x:Int):Qps fu l x=some (l.contains x):=by
 unfold Qps
 refine lp l (λn (_:Unit) i=>Qhh fu l x n i) (λl _=>some (l.contains x)) (by omega) ?_ ?_ fu () hf
 · intro n s i y ys hy hd ih
   simp only [Qhh.eq_2]
   unfold Qn0
   simp only [hd,cond_true,hy,Qaa,ih (),List.contains_cons]
   rw [Ji8 y x]
   cases x==y <;> rfl
 · intro n s i hd
   simp only [Qhh.eq_2]
   unfold Qn0
   simp only [hd,cond_false]
   rfl
theorem Jjx {fu:Nat} {l:List Int} (hl:l.length≤1048576) (hf:l.length<fu) (x:Int):Qej fu l x=some (l.contains x):=by
 unfold Qej Qhm
 have:=Qsn l (λn i=>Qcn fu l x n i) (λy=>x==y) (by omega) (by
  intro n i y hx hd
  simp only [Qcn.eq_2]
  unfold Qfh
  simp only [hd,cond_true,hx,Qaa]) (by
  intro n i hd
  simp only [Qcn.eq_2]
  unfold Qfh
  simp only [hd,cond_false]) fu hf
 rw [this,Qaa,Qsg _ l 0 (by omega),List.contains_eq_any_beq]
theorem Jgk {fu:Nat} {p:List Pair} (hp:p.length≤1048576) (hpf:p.length<fu) {g:List Int} (hl:g.length≤1048576) (hf:g.length<fu) (c:Int):Qo2 fu p g c=some (g.all (Q0z p c)):=by
 unfold Qo2
 refine lp g (λn (_:Unit) i=>Qe6 fu p g c n i) (λl _=>some (l.all (Q0z p c))) (by omega) ?_ ?_ fu () hf
 · intro n s i y ys hy hd ih
   simp only [Qe6.eq_2]
   unfold Qj2 Qn7
   simp only [hd,cond_true,hy,Qaa,ih (),Jid hp hpf,List.all_cons,Q0z]
   cases Qr9 p y c <;> cases Qr9 p c y <;> rfl
 · intro n s i hd
   simp only [Qe6.eq_2]
   unfold Qj2
   simp only [hd,cond_false]
   rfl
theorem Jj3 {fu:Nat} {r:Request} (h:Sm fu r):Qos fu r=some (Q1r r):=by
 have hfu:=h.fu
 have h1:=h.items
 unfold Qos Q1r
 rw [Q01 h,Qaa]
 by_cases hc:Qgq r=0
 · rw [show (Qgq r != 0)=false by simp [hc],show (Qgq r==0)=true by simp [hc],cond_false,cond_true]
   have e27:∀ (k:List Int→Int→Option (List Int)) (out:List Int) (c:Int),Qd5 fu k r out c fu false 0=bif r.fV.any (λx=>x.fL==c) then (Qab (Qfd 8 out [c]) λx=>k x (w64 (c+1))) else k out (w64 (c+1)):=by
    intro k out c
    refine lp r.fV (λn f i=>Qd5 fu k r out c n f i) (λl f=>bif f||l.any (λx=>x.fL==c) then (Qab (Qfd 8 out [c]) λx=>k x (w64 (c+1))) else k out (w64 (c+1))) (by omega) ?_ ?_ fu false (by omega)
    · intro n f i x xs hx hd ih
      simp only [Qd5.eq_2]
      unfold Qka Qjm
      simp only [hd,cond_true,hx,Qaa,ih,List.any_cons]
      cases f
      · rfl
      · rfl
    · intro n f i hd
      simp only [Qd5.eq_2]
      unfold Qka Qji
      simp only [hd,cond_false,List.any_nil,Bool.or_false]
   have:=Q5i 4 (λn out i=>Qdg fu r n out i) (λxs out=>some (out++xs.filter λc=>r.fV.any λx=>x.fL==c)) (λxs out=>out.length+xs.length≤4) (by omega) ?_ ?_ 4 fu [] 0 (by omega) (by omega) (by omega) (by simp [Qnf])
   · simpa using this
   · intro n out i xs h0 h1 hd hI ih
     simp only [List.length_cons] at hI
     simp only [Qdg.eq_2]
     unfold Qko
     simp only [hd,cond_true,e27]
     cases hb:r.fV.any λx=>x.fL==i
     · rw [cond_false,ih out (by omega)]
       simp [hb]
     · rw [cond_true,ap1 (by simp; omega),Qaa,ih _ (by simp; omega)]
       simp [hb]
   · intro n out i hd hI
     simp only [Qdg.eq_2]
     unfold Qko
     simp only [hd,cond_false]
     simp
 · rw [show (Qgq r != 0)=true by simp [hc],show (Qgq r==0)=false by simp [hc],cond_false,cond_true]
theorem Q7t {fu:Nat} {l:List Int} (hl:l.length≤1048576):∃ k,Qjq fu l=some k∧k.Pairwise (·<·)∧∀ x,x∈k↔x∈l:=by
 unfold Qjq Qcq Qc2 Qjo
 have hp:=List.mergeSort_perm l (λx y=>decide (x≤y))
 have hs:=Qs8 l
 rw [ap1 (by simp; omega),Qaa,Qaa,List.nil_append]
 unfold Q1b
 rw [if_pos (by omega),Qaa]
 unfold Jil
 rw [if_pos (by rw [hp.length_eq]; omega),Qaa]
 obtain ⟨h1,h2⟩:=Qym _ hs
 exact ⟨_,rfl,h1,λx=>(h2 x).trans hp.mem_iff⟩
theorem Qy0 {fu:Nat} {l:List Int} (hl:l.length≤1048576) (hs:l.Pairwise (·<·)):Qjq fu l=some l:=by
 obtain ⟨k,h1,h2,h3⟩:=Q7t (fu:=fu) hl
 rw [h1,Q62 h2 hs h3]
theorem Jkb {fu:Nat} {r:Request} (h:Sm fu r):Qoq fu r=some (Q1r r):=by
 have hfu:=h.fu
 have h1:=h.items
 unfold Qoq
 rw [Qtf h,Qaa]
 by_cases hc:Qgq r=0
 · rw [show (Qgq r==0)=true by simp [hc],Bool.not_true,cond_false]
   have:=lpI r.fV (λn out i=>Qge fu r n out i) (λxs out=>Qab (Qjq fu (out++xs.map (·.fL))) λx=>some x) (λxs out=>out.length+xs.length≤1048576) (by omega) ?_ ?_ fu [] (by simpa using h1) (by omega)
   · rw [List.nil_append] at this
     refine this.trans ?_
     obtain ⟨k,e1,e2,e3⟩:=Q7t (fu:=fu) (l:=r.fV.map (·.fL)) (by simpa using h1)
     rw [e1,Qaa]
     congr 1
     refine Q62 e2 (Qt4 r) λx=>?_
     rw [e3]
     unfold Q1r
     rw [show (Qgq r==0)=true by simp [hc],cond_true,List.mem_filter,Qhy,List.any_eq_true,List.mem_map]
     constructor
     · rintro ⟨y,hy,rfl⟩
       have:=(Qof (Qec hc).1).1 y hy
       simp only [Quf,Bool.and_eq_true,Qcd] at this
       exact ⟨by omega,y,hy,by simp⟩
     · rintro ⟨_,y,hy,e⟩
       exact ⟨y,hy,by simpa using e⟩
   · intro n out i x xs hx hd hI ih
     simp only [List.length_cons] at hI
     simp only [Qge.eq_2]
     unfold Qk5
     simp only [hd,cond_true,hx,Qaa]
     rw [ap1 (by simp; omega),Qaa,ih _ (by simp; omega)]
     simp
   · intro n out i hd hI
     simp only [Qge.eq_2]
     unfold Qk5
     simp only [hd,cond_false]
     simp
 · rw [show (Qgq r==0)=false by simp [hc],Bool.not_false,cond_true]
   unfold Q1r
   rw [show (Qgq r==0)=false by simp [hc],cond_false]
theorem Q16 {α:Type} (g:α→Bool) (x:α):∀ (l:List α),Qws g (l++[x])=match Qws g l with | some i=>some i | none=>bif g x then some l.length else none
 | []=>by simp [Qws]
 | y::ys=>by
  simp only [List.cons_append,Qws]
  cases g y
  · simp only [cond_false]
    rw [Q16 g x ys]
    cases Qws g ys <;> simp
    cases g x <;> simp
  · rfl
def atB {α:Type} (g:α→Bool) (l:List α) (i:Int):Bool:=match ix l i with | some x=>g x | none=>false
def Jbg {α:Type} (g:α→Bool) (l:List α) (a i:Int):Int:=bif atB g l i then i else a
theorem Qxk {α:Type} (g:α→Bool) (l:List α):∀ (m:Nat) (a:Int),m≤l.length→(Qto m).foldl (Jbg g l) a=match Qws g (l.take m) with | some i=>(i:Int) | none=>a
 | 0,a,_=>by simp [Qto,Qws]
 | m+1,a,h=>by
  simp only [Qto,List.foldl_cons]
  rw [Qxk g l m _ (by omega),List.take_succ_eq_append_getElem (by omega),Q16,List.length_take,Nat.min_eq_left (by omega)]
  unfold Jbg atB
  rw [Qx6 (by omega)]
  cases Qws g (l.take m) with
  | some i=>rfl
  | none =>
   simp only
   cases g l[m] <;> rfl
theorem Q0o {α:Type} (g:α→Bool):∀ (l:List α) (i:Int),Qvt g l i=match Qws g l with | some j=>i+j | none=>-1
 | [],i=>rfl
 | x::xs,i=>by
  simp only [Qvt,Qws]
  cases g x
  · simp only [cond_false]
    rw [Q0o g xs (i+1)]
    cases Qws g xs with
    | none=>rfl
    | some j =>
     show i+1+(j:Int)=i+((j+1:Nat):Int)
     omega
  · simp
theorem Jb9 {p:List Pair} {out:List (List Int)} {c:Int} {n:Nat} (h:okG n out) (hn:n≤1048576) {β:Type} (k:List (List Int)→Option β) (a:Int) (ha:a=match Qws (λg=>g.all (Q0z p c)) out with | some i=>(i:Int) | none=>-1) :
    (bif (decide (a<0)) then Qab (Qfd 24 out [([c]:List Int)]) λx=>k x else Qab (ix out a) λx=>Qab (Qfd 8 x (([c]:List Int))) λy=>Qab (ix out a) λz=>k (Qim out a y))=k (Q8f p out c):=by
 obtain ⟨h1,h2⟩:=h
 unfold Q8f
 cases hf:Qws (λg=>g.all (Q0z p c)) out with
 | none =>
  rw [hf] at ha
  simp only at ha
  subst ha
  rw [Qa2 (by simp),ap1 (by simp; omega),Qaa]
 | some i =>
  rw [hf] at ha
  simp only at ha
  subst ha
  obtain ⟨x,hx,_⟩:=Qww hf
  have:=h2 x (List.mem_of_getElem? hx)
  rw [Qah (by simp),Qlf,hx,Qaa,ap1 (by simp; omega),Qaa,Qaa]
  simp [Qim,hx]
theorem Jht {fu:Nat} {p:List Pair} (hp:p.length≤1048576) (hfu:2097153≤fu) {l:List Int} (hl:l.length≤1048576):Qp2 fu p l=some (((Qnf 0 4).filter l.contains).foldl (Q8f p) []):=by
 unfold Qp2
 have e27:∀ (k:List (List Int)→Int→Option (List (List Int))) (out:List (List Int)) (c:Int),okG 4 out→Qeo fu k p out c fu (-1) (w64 ((out.length:Int) - 1))=k (Q8f p out c) (w64 (c+1)):=by
  intro k out c ho
  obtain ⟨R,hR⟩:∃ R:Int→Option (List (List Int)),R=λa=>bif (decide (a<0)) then Qab (Qfd 24 out [([c]:List Int)]) λx=>k x (w64 (c+1)) else Qab (ix out a) λx=>Qab (Qfd 8 x (([c]:List Int))) λy=>Qab (ix out a) λz=>k (Qim out a y) (w64 (c+1)):=⟨_,rfl⟩
  have:=lpD out.length (λn a i=>Qeo fu k p out c n a i) (λxs a=>R (xs.foldl (Jbg (λg=>g.all (Q0z p c)) out) a)) (by have:=ho.1; omega) ?_ ?_ fu (-1) (by have:=ho.1; omega)
  · rw [this,hR]
    refine Jb9 (p:=p) ho (by omega) (λx=>k x (w64 (c+1))) _ ?_
    rw [Qxk (λg=>g.all (Q0z p c)) out out.length (-1) (Nat.le_refl _),List.take_length]
  · intro n a i xs h0 h1 hd ih
    simp only [Qeo.eq_2]
    unfold Qmp Qlp
    obtain ⟨j,rfl⟩:∃ j:Nat,i=j:=⟨i.toNat,by omega⟩
    have hj:j<out.length:=by omega
    have hg:=ho.2 _ (List.getElem_mem hj)
    simp only [hd,cond_true,Qx6 hj,Qaa,Jgk hp (by omega) (show out[j].length≤1048576 by omega) (show out[j].length<fu by omega),ih,List.foldl_cons]
    have e:Jbg (λg=>g.all (Q0z p c)) out a (j:Int)=bif out[j].all (Q0z p c) then (j:Int) else a:=by unfold Jbg atB; rw [Qx6 hj]
    rw [e]
    cases out[j].all (Q0z p c) <;> rfl
  · intro n a i hd
    simp only [Qeo.eq_2]
    unfold Qmp Qgv
    simp only [hd,cond_false,List.foldl_nil,hR]
 have:=Q5i 4 (λn out i=>Qd1 fu p l n out i) (λxs out=>some ((xs.filter l.contains).foldl (Q8f p) out)) (λxs out=>∃ m,m+xs.length≤4∧okG m out) (by omega) ?_ ?_ 4 fu [] 0 (by omega) (by omega) (by omega) ⟨0,by simp [Qnf],by simp,by simp⟩
 · exact this
 · intro n out i xs h0 h1 hd hI ih
   obtain ⟨m,hm,ho⟩:=hI
   simp only [List.length_cons] at hm
   simp only [Qd1.eq_2]
   unfold Qmb Qgv
   simp only [hd,cond_true,Jhl hl (show l.length<fu by omega),Qaa]
   cases hb:l.contains i
   · rw [Bool.not_false,cond_true,ih out ⟨m,by omega,ho⟩,List.filter_cons_of_neg (by rw [hb]; simp)]
   · rw [Bool.not_true,cond_false,e27 _ out i ⟨by have:=ho.1; omega,λg hg=>by have:=ho.2 g hg; omega⟩,ih _ ⟨m+1,by omega,Q3k i ho⟩,List.filter_cons_of_pos hb,List.foldl_cons]
 · intro n out i hd hI
   simp only [Qd1.eq_2]
   unfold Qmb
   simp only [hd,cond_false]
   simp
theorem Q5n (r:Request):(Qnf 0 4).filter (Q1r r).contains=Q1r r :=
 Q62 ((Qt0 0 4).filter _) (Qt4 r) λx=>by
  rw [List.mem_filter,Qhy]
  constructor
  · rintro ⟨_,h⟩; simpa using h
  · intro h; have:=Q4f h; exact ⟨by omega,by simpa using h⟩
theorem Jct {fu:Nat} {r:Request} (h:Sm fu r):Qhi fu r=some (Qmt r):=by
 unfold Qhi Qmt
 rw [Jj3 h,Qaa,Jht h.pairs h.fu (by have:=Q0h r; omega),Qaa,Q5n]
theorem Jiz {fu:Nat} {p:List Pair} (hp:p.length≤1048576) (hpf:p.length<fu) (a b:Int):Qqf fu p a b=some (Q0z p a b):=by
 unfold Qqf Q0z
 simp only [Jen hp hpf,Qaa]
 cases Qr9 p a b <;> rfl
theorem Q37 {fu:Nat} {l:List Int} (f:Int→Option Bool) (g:Int→Bool) (hg:∀ x∈l,f x=some (g x)) (hl:l.length≤1048576) (hf:l.length<fu):Qc4 fu l f=some (Qvt g l 0):=by
 unfold Qc4
 refine Qsn l (λn i=>Qb1 fu l f n i) g (by omega) ?_ ?_ fu hf
 · intro n i x hx hd
   simp only [Qb1.eq_2]
   unfold Qd2
   simp only [hd,cond_true,hx,Qaa,hg x (Qm0 hx)]
 · intro n i hd
   simp only [Qb1.eq_2]
   unfold Qd2
   simp only [hd,cond_false]
theorem Ja2 {fu:Nat} {l:List Int} (f:Int→Option Bool) (g:Int→Bool) (hg:∀ x∈l,f x=some (g x)) (hl:l.length≤1048576) (hf:l.length<fu):Qc5 fu l f=some (l.any g):=by
 unfold Qc5
 rw [Q37 f g hg hl hf,Qaa,Qsg g l 0 (by omega)]
theorem Q1w {fu:Nat} {l:List (List Int)} (f:List Int→Option Bool) (g:List Int→Bool) (hg:∀ x∈l,f x=some (g x)) (hl:l.length≤1048576) (hf:l.length<fu):Qcs fu l f=some (Qvt g l 0):=by
 unfold Qcs
 refine Qsn l (λn i=>Qbn fu l f n i) g (by omega) ?_ ?_ fu hf
 · intro n i x hx hd
   simp only [Qbn.eq_2]
   unfold Qdt
   simp only [hd,cond_true,hx,Qaa,hg x (Qm0 hx)]
 · intro n i hd
   simp only [Qbn.eq_2]
   unfold Qdt
   simp only [hd,cond_false]
theorem Jhw {fu:Nat} {p:List Pair} (hp:p.length≤1048576) (hfu:2097153≤fu) {l:List Int} (hl:l.length≤4) (hs:l.Pairwise (·<·)) (hm:∀ c∈l,0≤c∧c<4):Qpw fu p l=some (l.foldl (Q8f p) []):=by
 unfold Qpw
 rw [Qy0 (by omega) hs,Qaa]
 have:=lpI l (λn out i=>Qen fu p l n out i) (λxs out=>some (xs.foldl (Q8f p) out)) (λxs out=>(∃ m,m+xs.length≤4∧okG m out)∧∀ c∈xs,0≤c∧c<4) (by omega) ?_ ?_ fu [] ⟨⟨0,by simpa using hl,by simp,by simp⟩,hm⟩ (by omega)
 · exact this
 · intro n out i c xs hx hd hI ih
   obtain ⟨⟨m,hm,ho⟩,hc⟩:=hI
   simp only [List.length_cons] at hm
   have hc0:=hc c (by simp)
   simp only [Qen.eq_2]
   unfold Qml Qhs
   simp only [hd,cond_true,hx,Qaa,Qyd]
   rw [show inb c 0 3=true by simp; omega,Bool.not_true,cond_false]
   rw [Q1w (λy=>Qm9 fu y p c) (λg=>g.all (Q0z p c)) (λg hg=>by
    have hgl:=ho.2 g hg
    unfold Qm9
    rw [Ja2 (λy=>Qjf fu y p c) (λx=>!Q0z p c x) (λx _=>by
     unfold Qjf
     rw [Jiz hp (by omega),Qaa]) (by omega) (by omega),Qaa]
    simp [List.any_eq_not_all_not]) (by have:=ho.1; omega) (by have:=ho.1; omega),Qaa]
   rw [Jb9 (p:=p) ho (by omega) (λx=>Qen fu p l n x (w64 (i+1))) (Qvt (λg=>g.all (Q0z p c)) out 0) (by
    rw [Q0o]
    cases Qws (λg=>g.all (Q0z p c)) out <;> simp)]
   rw [ih _ ⟨⟨m+1,by omega,Q3k c ho⟩,λy hy=>hc y (by simp [hy])⟩]
   rfl
 · intro n out i hd hI
   simp only [Qen.eq_2]
   unfold Qml
   simp only [hd,cond_false]
   rfl
theorem Jer {fu:Nat} {r:Request} (h:Sm fu r):Qhl fu r=some (Qmt r):=by
 unfold Qhl
 rw [Qtf h,Qaa]
 by_cases hc:Qgq r=0
 · rw [show (Qgq r==0)=true by simp [hc],Bool.not_true,cond_false,Jkb h,Qaa,Jhw h.pairs h.fu (Q0h r) (Qt4 r) (λc hc=>Q4f hc),Qaa]
   rfl
 · rw [show (Qgq r==0)=false by simp [hc],Bool.not_false,cond_true]
   unfold Qmt Q1r
   rw [show (Qgq r==0)=false by simp [hc],cond_false]
   rfl
theorem Q9g (r:Request):w64 (((Qmt r).length:Int) - 1)=((Qmt r).length:Int) - 1:=by
 have:=(Qs5 r).1
 exact Qay (by omega) (by omega)
theorem Jbb {fu:Nat} (n:Nat) (hn:n≤1048576) (hf:n<fu):Qqj fu (n:Int)=some (Qnf 0 n):=by
 unfold Qqj
 have:=Q5i (n:Int) (λk out i=>Qgu fu (n:Int) k out i) (λxs out=>some (out++xs)) (λxs out=>out.length+xs.length≤1048576) (by omega) ?_ ?_ n fu [] 0 (by omega) (by omega) hf (by simpa [Qcf] using hn)
 · simpa using this
 · intro k out i xs h0 h1 hd hI ih
   simp only [List.length_cons] at hI
   simp only [Qgu.eq_2]
   unfold Ql3
   rw [hd,cond_true,ap1 (by simp; omega),Qaa,ih _ (by simp; omega)]
   simp
 · intro k out i hd hI
   simp only [Qgu.eq_2]
   unfold Ql3
   simp only [hd,cond_false]
   simp
theorem Q57 {α:Type} (g:α→Bool):∀ (l pre:List α),(Qvt g l pre.length=-1∧∀ x∈l,g x=false)∨(∃ a x b,l=a++x::b∧(∀ y∈a,g y=false)∧g x=true∧Qvt g l pre.length=((pre.length+a.length:Nat):Int))
 | [],pre=>.inl ⟨rfl,by simp⟩
 | x::xs,pre=>by
  simp only [Qvt]
  by_cases hx:g x=true
  · rw [hx,cond_true]; exact .inr ⟨[],x,xs,rfl,by simp,hx,by simp⟩
  · have hx':g x=false:=by simpa using hx
    rw [hx',cond_false]
    have:=Q57 g xs (pre++[x])
    simp only [List.length_append,List.length_singleton] at this
    rw [show ((pre.length+1:Nat):Int)=(pre.length:Int)+1 by omega] at this
    rcases this with ⟨h1,h2⟩ | ⟨a,y,b,h1,h2,h3,h4⟩
    · exact .inl ⟨h1,by simpa [hx'] using h2⟩
    · exact .inr ⟨x::a,y,b,by simp [h1],by simpa [hx'] using h2,h3,by rw [h4]; simp; omega⟩
theorem Jj8 {fu:Nat} {l:List Int} (f:Int→Option Bool) (g:Int→Bool) (hg:∀ x∈l,f x=some (g x)) (hl:l.length≤1048576) (hf:l.length<fu):Qdx fu l f=some (l.filter λx=>!g x):=by
 unfold Qdx
 rw [Q37 f g hg hl hf,Qaa]
 have hp:=Q57 g l []
 simp only [List.length_nil,Nat.zero_add] at hp
 rcases hp with ⟨h1,h2⟩ | ⟨a,x,b,h1,h2,h3,h4⟩
 · have h1':Qvt g l 0=-1:=h1
   rw [h1',Qa2 (by simp)]
   congr 1
   exact (List.filter_eq_self.2 λy hy=>by simp [h2 y hy]).symm
 · have h4':Qvt g l 0=(a.length:Int):=h4
   rw [h4',Qah (by simp)]
   have key:∀ (rest kept mid pre:List Int) (n:Nat),l=pre++rest→kept=pre.filter (λx=>!g x)→mid≠[]→kept.length+mid.length=pre.length→rest.length<n →
       Qba fu f n (kept++mid++rest) (kept.length:Int) (pre.length:Int)=some (l.filter λx=>!g x):=by
    intro rest
    induction rest with
    | nil =>
     intro kept mid pre n e1 e2 e3 e4 hn
     obtain ⟨n,rfl⟩:∃ j,n=j+1:=⟨n - 1,by omega⟩
     rw [Qba.eq_2]
     unfold Qdu
     simp only [List.append_nil] at *
     subst e1
     rw [Qah (by simp; omega),Qry ⟨by omega,by simp; omega,by omega⟩,Qaa,Qry ⟨by omega,by omega,by simp [Q2z]; omega⟩,Qaa]
     rw [← e2]
     simp [Q2z]
    | cons y rest ih =>
     intro kept mid pre n e1 e2 e3 e4 hn
     obtain ⟨n,rfl⟩:∃ j,n=j+1:=⟨n - 1,by simp at hn; omega⟩
     have hlen:l.length=pre.length+(rest.length+1):=by rw [e1]; simp
     have hyl:y∈l:=by rw [e1]; simp
     obtain ⟨m,ms,rfl⟩:∃ m ms,mid=m::ms:=by
      cases mid with
      | nil=>exact absurd rfl e3
      | cons m ms=>exact ⟨m,ms,rfl⟩
     simp only [List.length_cons] at e4 hn
     have hx:ix (kept++(m::ms)++y::rest) (pre.length:Int)=some y:=by
      rw [Qlf,List.getElem?_append_right (by simp; omega)]
      simp only [List.length_append,List.length_cons]
      rw [show pre.length - (kept.length+(ms.length+1))=0 by omega]; rfl
     have hk:ix (kept++(m::ms)++y::rest) (kept.length:Int)=some m:=by
      rw [Qlf]; simp
     rw [Qba.eq_2]
     unfold Qdu Qc3
     rw [Qa2 (by simp; omega),hx,Qaa,hg y hyl,Qaa]
     cases hgy:g y
     · rw [Bool.not_false,cond_true,hk,Qaa,Qwa _ (by omega),Qwa _ (by omega)]
       have e5:Qim (kept++(m::ms)++y::rest) (kept.length:Int) y=(kept++[y])++(ms++[y])++rest:=by simp [Qim]
       rw [e5]
       have:=ih (kept++[y]) (ms++[y]) (pre++[y]) n (by simp [e1]) (by rw [e2,List.filter_append]; simp [hgy]) (by simp) (by simp; omega) (by omega)
       simp only [List.length_append,List.length_singleton] at this
       exact this
     · rw [Bool.not_true,cond_false,Qwa _ (by omega)]
       have:=ih kept ((m::ms)++[y]) (pre++[y]) n (by simp [e1]) (by rw [e2,List.filter_append]; simp [hgy]) (by simp) (by simp; omega) (by omega)
       simp only [List.length_append,List.length_singleton] at this
       rw [show kept++(m::ms)++y::rest=kept++((m::ms)++[y])++rest by simp]
       exact this
   have hlen:l.length=a.length+(b.length+1):=by rw [h1]; simp
   have ha:a.filter (λx=>!g x)=a:=List.filter_eq_self.2 λy hy=>by simp [h2 y hy]
   have:=key b a [x] (a++[x]) fu (by simp [h1]) (by rw [List.filter_append,ha]; simp [h3]) (by simp) (by simp) (by omega)
   rw [Qwa _ (by omega)]
   simp only [List.length_append,List.length_singleton] at this
   rw [show a++[x]++b=l by simp [h1]] at this
   exact this
def dnk (keys:List Int) (p:Int):Int:=- kf keys p
theorem Jb7 {fu:Nat} {keys:List Int} (hfu:2097153≤fu) (hl:keys.length≤1048576):Qgl fu keys=some (srt (dnk keys) keys.length):=by
 unfold Qgl Qo4
 rw [Q43 keys.length hl (by omega),Qaa]
 obtain ⟨m,rfl⟩:∃ m,fu=m+1:=⟨fu - 1,by omega⟩
 rw [Q4n true hfu m _ (by rw [Qcf]; omega) (by rw [Qcf]; omega) (λp hp=>by have:=Qhy.1 hp; omega),Qaa]
 congr 1
 have e:dk keys true=dnk keys:=rfl
 rw [e]
 exact Q0j (Qrl _ _ _) (Qsc _ _ _ (by rw [Qcf]; omega) (Qt0 _ _))
def Qzb (k:Int→Int) (x:Int):List Int→List Int→List Int
 | [],mid=>x::mid
 | y::ys,mid=>if k x<k y then Qzb k x ys (y::mid) else (y::ys).reverse++x::mid
theorem Qx3 (k:Int→Int) (x:Int):∀ (ys mid:List Int),(Qzb k x ys mid).Perm (ys.reverse++x::mid)
 | [],mid=>List.Perm.refl _
 | y::ys,mid=>by
  unfold Qzb
  split
  · refine (Qx3 k x ys (y::mid)).trans ?_
    rw [List.reverse_cons,List.append_assoc]
    refine List.Perm.append_left _ ?_
    exact List.Perm.swap _ _ _
  · exact List.Perm.refl _
theorem Qw0 (k:Int→Int) (x:Int):∀ (ys mid:List Int),(ys.reverse++mid).Pairwise (lx k)→(∀ m∈mid,lx k x m)→(∀ p∈ys,p<x)→(Qzb k x ys mid).Pairwise (lx k)
 | [],mid,h,hm,_=>by
  unfold Qzb
  exact List.pairwise_cons.2 ⟨hm,by simpa using h⟩
 | y::ys,mid,h,hm,hy=>by
  unfold Qzb
  rw [List.reverse_cons,List.append_assoc] at h
  split
  · rename_i hk
    refine Qw0 k x ys (y::mid) (by simpa using h) ?_ (λp hp=>hy p (by simp [hp]))
    intro m hmm
    rcases List.mem_cons.1 hmm with rfl | hmm
    · exact .inl hk
    · exact hm m hmm
  · rename_i hk
    have hyx:lx k y x:=by
     have:=hy y (by simp)
     by_cases he:k y<k x
     · exact .inl he
     · exact .inr ⟨by omega,this⟩
    rw [List.reverse_cons,List.append_assoc]
    obtain ⟨h1,h2,h3⟩:=List.pairwise_append.1 h
    simp only [List.singleton_append] at h2 h3
    refine List.pairwise_append.2 ⟨h1,?_,?_⟩
    · simp only [List.singleton_append]
      obtain ⟨h4,h5⟩:=List.pairwise_cons.1 h2
      refine List.pairwise_cons.2 ⟨?_,List.pairwise_cons.2 ⟨hm,h5⟩⟩
      intro m hmm
      rcases List.mem_cons.1 hmm with rfl | hmm
      · exact hyx
      · exact h4 m hmm
    · intro a ha b hb
      simp only [List.singleton_append,List.mem_cons] at hb
      have hay:=h3 a ha y (by simp)
      rcases hb with rfl | rfl | hb
      · exact hay
      · exact Ja4 hay hyx
      · exact h3 a ha b (by simp [hb])
theorem Q4o (k:Int→Int) (x:Int):∀ (ys mid rest:List Int),Qzb k x ys (mid++rest)=Qzb k x ys mid++rest
 | [],mid,rest=>rfl
 | y::ys,mid,rest=>by
  unfold Qzb
  split
  · exact Q4o k x ys (y::mid) rest
  · simp
theorem Ji5 {A:List Int} {y:Int} {B:List Int} {n:Nat} (h:A.length=n):ix (A++y::B) (n:Int)=some y:=by subst h; rw [Qlf]; simp
theorem Jcj {A:List Int} {y z:Int} {B:List Int} {n:Nat} (h:A.length=n):Qim (A++y::B) (n:Int) z=A++z::B:=by subst h; simp [Qim]
theorem Q47 {fu:Nat} {f:Int→Int→Option Int} {k:Int→Int} (K9:List Int→Int→Option (List Int)) (i0:Int) (hf:∀ a b c,f a b=some c→(c<0↔k a<k b)) (x:Int) :
    ∀ (ys mid:List Int) (n:Nat),(∀ p∈ys,∃ c,f x p=some c)→ys.length<n→ys.length≤1048576→Qaz fu K9 0 f i0 n (ys.reverse++x::mid) (ys.length:Int)=K9 (Qzb k x ys mid) (w64 (i0+1))
 | [],mid,n,_,hn,_=>by
  obtain ⟨n,rfl⟩:∃ j,n=j+1:=⟨n - 1,by omega⟩
  rw [Qaz.eq_2]
  unfold Qco Qzb
  rw [Qah (by simp)]; rfl
 | y::ys,mid,n,hy,hn,hl=>by
  simp only [List.length_cons] at hn hl
  obtain ⟨n,rfl⟩:∃ j,n=j+1:=⟨n - 1,by omega⟩
  obtain ⟨c,hc⟩:=hy y (by simp)
  have hw:w64 (((y::ys).length:Int) - 1)=(ys.length:Int):=by simp only [List.length_cons]; rw [Qay (by omega) (by omega)]; omega
  have e0:(y::ys).reverse++x::mid=ys.reverse++y::x::mid:=by simp
  have e1:ix ((y::ys).reverse++x::mid) ((y::ys).length:Int)=some x:=Ji5 (by simp)
  have e2:ix ((y::ys).reverse++x::mid) (ys.length:Int)=some y:=by rw [e0]; exact Ji5 (by simp)
  rw [Qaz.eq_2]
  unfold Qco Qzb
  rw [Qa2 (by simp),e1,Qaa,hw,e2,Qaa,hc,Qaa]
  by_cases hk:k x<k y
  · rw [if_pos hk,decide_eq_true ((hf _ _ _ hc).2 hk),cond_true]
    unfold Qcy
    have e3:Qim ((y::ys).reverse++x::mid) ((y::ys).length:Int) y=(y::ys).reverse++y::mid:=Jcj (by simp)
    have e4:ix ((y::ys).reverse++y::mid) (ys.length:Int)=some y:=by rw [show (y::ys).reverse++y::mid=ys.reverse++y::y::mid by simp]; exact Ji5 (by simp)
    have e5:Qim ((y::ys).reverse++y::mid) (ys.length:Int) x=ys.reverse++x::y::mid:=by rw [show (y::ys).reverse++y::mid=ys.reverse++y::y::mid by simp]; exact Jcj (by simp)
    rw [hw,e2,Qaa,e1,Qaa,Qaa,e3,e4,Qaa,e5]
    exact Q47 K9 i0 hf x ys (y::mid) n (λp hp=>hy p (by simp [hp])) (by omega) (by omega)
  · rw [if_neg hk,decide_eq_false (λh=>hk ((hf _ _ _ hc).1 h)),cond_false]
def Jej (k:Int→Int):List Int→List Int→List Int
 | P,[]=>P
 | P,x::xs=>Jej k (Qzb k x P.reverse []) xs
theorem Q2j (k:Int→Int):∀ (xs P:List Int),P.Pairwise (lx k)→(∀ p∈P,∀ x∈xs,p<x)→xs.Pairwise (·<·)→(Jej k P xs).Perm (P++xs)∧(Jej k P xs).Pairwise (lx k)
 | [],P,h,_,_=>by simpa [Jej] using h
 | x::xs,P,h,hp,hx=>by
  obtain ⟨h1,h2⟩:=List.pairwise_cons.1 hx
  have hs:(Qzb k x P.reverse []).Pairwise (lx k):=Qw0 k x P.reverse [] (by simpa using h) (by simp) (λp hp'=>hp p (by simpa using hp') x (by simp))
  have hpm:(Qzb k x P.reverse []).Perm (P++[x]):=by simpa using Qx3 k x P.reverse []
  have ih:=Q2j k xs (Qzb k x P.reverse []) hs (λp hp' y hy=>by
   rcases List.mem_append.1 (hpm.mem_iff.1 hp') with h' | h'
   · exact hp p h' y (by simp [hy])
   · rw [List.mem_singleton.1 h']; exact h1 y hy) h2
  refine ⟨?_,ih.2⟩
  unfold Jej
  refine ih.1.trans ?_
  refine (hpm.append_right xs).trans ?_
  simp
theorem Q5x {fu:Nat} {f:Int→Int→Option Int} {k:Int→Int} (hfu:2097153≤fu) (hf:∀ a b c,f a b=some c→(c<0↔k a<k b)) {n:Nat} (hn:n≤1048576) (hin:∀ a b:Int,0≤a→a<n→0≤b→b<n→∃ c,f a b=some c) :
    ∀ (xs P:List Int) (m:Nat),xs.length<m→P.length+xs.length=n→(∀ p∈P++xs,0≤p∧p<n)→Qag fu 0 (n:Int) f m (P++xs) (P.length:Int)=some (Jej k P xs)
 | [],P,m,hm,hl,_=>by
  obtain ⟨m,rfl⟩:∃ j,m=j+1:=⟨m - 1,by omega⟩
  simp only [List.length_nil] at hl
  rw [Qag.eq_2]
  unfold Qbu
  rw [Qah (by simp; omega)]; simp [Jej]
 | x::xs,P,m,hm,hl,hp=>by
  simp only [List.length_cons] at hl hm
  obtain ⟨m,rfl⟩:∃ j,m=j+1:=⟨m - 1,by omega⟩
  rw [Qag.eq_2]
  unfold Qbu
  rw [Qa2 (by simp; omega)]
  have key:=Q47 (fu:=fu) (f:=f) (k:=k) (Qag fu 0 (n:Int) f m) (P.length:Int) hf x P.reverse xs fu (λp hp'=>by
   have h1:=hp p (by simp at hp'; simp [hp'])
   have h2:=hp x (by simp)
   exact hin x p h2.1 h2.2 h1.1 h1.2) (by simp; omega) (by simp; omega)
  rw [List.reverse_reverse,List.length_reverse] at key
  rw [key,Qwa _ (by omega)]
  have e:Qzb k x P.reverse xs=Qzb k x P.reverse []++xs:=by
   have:=Q4o k x P.reverse [] xs
   simpa using this
  have hpm:(Qzb k x P.reverse []).Perm (P++[x]):=by simpa using Qx3 k x P.reverse []
  have hlen:(Qzb k x P.reverse []).length=P.length+1:=by rw [hpm.length_eq]; simp
  rw [e]
  have ih:=Q5x hfu hf hn hin xs (Qzb k x P.reverse []) m (by omega) (by omega) (λp hp'=>by
   rcases List.mem_append.1 hp' with h' | h'
   · rcases List.mem_append.1 (hpm.mem_iff.1 h') with h'' | h''
     · exact hp p (by simp [h''])
     · exact hp p (by rw [List.mem_singleton.1 h'']; simp)
   · exact hp p (by simp [h']))
  rw [hlen] at ih
  rw [ih]; rfl
theorem Jj1 (fu:Nat) (a b:Int):∃ c,Qoy fu a b=some c∧(c<0↔a<b):=by
 unfold Qoy
 by_cases h:a<b
 · exact ⟨-1,by simp [h],by simp [h]⟩
 · by_cases h2:a>b
   · exact ⟨1,by simp [h,h2],by simp [h]⟩
   · exact ⟨0,by simp [h,h2],by simp [h]⟩
theorem Jbr {fu:Nat} {keys:List Int} (hfu:2097153≤fu) (hl:keys.length<20):Qgo fu keys=some (srt (dnk keys) keys.length):=by
 unfold Qgo Qeb Qf1
 rw [Jbb _ (by omega) (by omega),Qaa]
 obtain ⟨f,hfd⟩:∃ f:Int→Int→Option Int,f=λa b=>Qe8 fu a b keys:=⟨_,rfl⟩
 have hdef:∀ a b:Int,0≤a→a<keys.length→0≤b→b<keys.length→∃ c,f a b=some c∧(c<0↔dnk keys a<dnk keys b):=by
  intro a b ha ha' hb hb'
  obtain ⟨c,h1,h2⟩:=Jj1 fu (kf keys b) (kf keys a)
  refine ⟨c,?_,?_⟩
  · rw [hfd]
    show Qe8 fu a b keys=_
    unfold Qe8
    rw [Q22 ⟨hb,hb'⟩,Qaa,Q22 ⟨ha,ha'⟩,Qaa,h1,Qaa]
  · rw [h2]; unfold dnk; omega
 have hf:∀ a b c,f a b=some c→(c<0↔dnk keys a<dnk keys b):=by
  intro a b c h
  have h0:=h
  rw [hfd] at h
  change Qe8 fu a b keys=_ at h
  unfold Qe8 at h
  obtain ⟨x,hx,h⟩:=Qsd h
  obtain ⟨y,hy,h⟩:=Qsd h
  obtain ⟨b0,b1,_⟩:=Qaf hx
  obtain ⟨a0,a1,_⟩:=Qaf hy
  obtain ⟨d,h1,h2⟩:=hdef a b a0 a1 b0 b1
  rw [h0] at h1
  cases h1
  exact h2
 have ha:=Q5x (fu:=fu) (f:=f) (k:=dnk keys) hfu hf (n:=keys.length) (by omega) (λa b h1 h2 h3 h4=>by obtain ⟨c,h,_⟩:=hdef a b h1 h2 h3 h4; exact ⟨c,h⟩)
 have hI:Qbs fu (Qnf 0 keys.length) 0 ((Qnf 0 keys.length).length:Int) f=some (srt (dnk keys) keys.length):=by
  unfold Qbs
  rw [Qcf,show w64 ((0:Int)+1)=1 by rw [Qay (by omega) (by omega)]; rfl]
  cases hk:keys.length with
  | zero =>
   obtain ⟨m,rfl⟩:∃ m,fu=m+1:=⟨fu - 1,by omega⟩
   rw [Qag.eq_2]
   unfold Qbu
   rw [Qah (by simp)]; rfl
  | succ n =>
   rw [hk] at ha
   have:=ha (Qnf 1 n) [0] fu (by rw [Qcf]; omega) (by rw [Qcf]; simp; omega) (λp hp=>by
    have:p∈Qnf 0 (n+1):=hp
    have:=Qhy.1 this
    omega)
   have e:Qnf 0 (n+1)=[0]++Qnf 1 n:=rfl
   rw [e]
   have h1:(([0]:List Int).length:Int)=1:=rfl
   rw [h1] at this
   rw [this]
   congr 1
   have hsp:=Q2j (dnk keys) (Qnf 1 n) [0] (by simp) (λp hp x hx=>by
    have:=Qhy.1 hx
    rw [List.mem_singleton.1 hp]; omega) (Qt0 _ _)
   exact Q0j hsp.1 hsp.2
 obtain ⟨m,rfl⟩:∃ m,fu=m+1:=⟨fu - 1,by omega⟩
 rw [Qc6.eq_2]
 unfold Qf8
 rw [Qah (by rw [Qcf]; simp; omega)]
 rw [← hfd,hI,Qaa,Qb0.eq_2]
 unfold Qgf
 rw [Qah (by rw [Qcf]; simp; omega)]
 rfl
theorem Jk2 {w h d:Int} (hb:(inb w 0 2000&&(inb h 0 2000&&inb d 0 2000))=true):w64 ((w64 (w*h))*d)=w*h*d:=by
 simp only [Bool.and_eq_true,Qcd] at hb
 obtain ⟨⟨h1,h2⟩,⟨h3,h4⟩,h5,h6⟩:=hb
 have a1:0≤w*h:=Int.mul_nonneg h1 h3
 have a2:w*h≤2000*2000:=Int.mul_le_mul h2 h4 h3 (by omega)
 have a3:0≤w*h*d:=Int.mul_nonneg a1 h5
 have a4:w*h*d≤2000*2000*2000:=Int.mul_le_mul a2 h6 h5 (by omega)
 rw [Qay (n:=w*h) (by omega) (by omega),Qay (by omega) (by omega)]
theorem Jcx (fu:Nat) (w h d:Int):Qk7 fu w h d=some (Q5u w h d):=by
 unfold Qk7 Qo8 Q5u
 simp only [Q2x,Qaa]
 cases h1:inb w 0 2000 <;> cases h2:inb h 0 2000 <;> cases h3:inb d 0 2000 <;> simp only [Bool.not_true,Bool.not_false,cond_true,cond_false,Bool.and_true,Bool.and_false]
 rw [Jk2 (by simp only [h1,h2,h3]; rfl)]
theorem Jhk (fu:Nat) (w h d:Int):Qnp fu w h d=some (Q5u w h d):=by
 unfold Qnp Qpj Q5u
 simp only [Qyd,Qaa]
 cases h1:inb w 0 2000 <;> cases h2:inb h 0 2000 <;> cases h3:inb d 0 2000 <;> simp only [Bool.not_true,Bool.not_false,cond_true,cond_false,Bool.and_true,Bool.and_false]
 rw [Jk2 (by simp only [h1,h2,h3]; rfl)]
def Quk (r:Request) (u:Int):Item:=(Qwi r u).getD Q5o
theorem Q1g (r:Request):w64 (((Qlr r).length:Int) - 1)=((Qlr r).length:Int) - 1:=by
 have:=Q0r r
 exact Qay (by omega) (by omega)
theorem Q8z (fu:Nat) (r:Request) (u:Int):Qky fu r (Qlr r) u=some (Quk r u,(Qwi r u).isSome):=by
 unfold Qky Quk
 rw [Q1g,Q2x,Qaa]
 by_cases h:0≤u∧u<(Qlr r).length
 · obtain ⟨i,x,h1,h2,h3⟩:=Q21 h
   rw [Qah (by simp; omega),h1,Qaa,h2,Qaa,h3]
   rfl
 · rw [Qa2 (by simp [inb]; omega),Qz2 h]
   rfl
theorem Jar:Q5p Q5o=0:=by simp [Q5p,Q5u,Q5o]
theorem Q3p {fu:Nat} {r:Request} (h:Sm fu r) (us:List Int) (hl:us.length≤1048576) (hf:us.length<fu):Qig fu r us=some (Qtm r us):=by
 unfold Qig
 rw [Jc3 h,Qaa]
 have key:=lpI us (λn s i=>Qex fu r us (Qlr r) n s i) (λl out=>some (out++Qtm r l)) (λl out=>out.length+l.length≤1048576) (by omega) ?_ ?_ fu [] (by simpa using hl) hf
 · simpa using key
 · intro n s i x xs hx hd hI ih
   simp only [Qex.eq_2]
   unfold Qlc Qi6
   simp only [hd,cond_true,hx,Qaa,Q1g,Qyd]
   simp only [List.length_cons] at hI
   by_cases hu:0≤x∧x<(Qlr r).length
   · obtain ⟨i',y,h1,h2,h3⟩:=Q21 hu
     rw [Qa2 (by simp; omega),h1,Qaa,h2,Qaa,ap1 (by simp; omega),Qaa,ih _ (by simp; omega)]
     simp [Qtm,List.filterMap_cons,h3]
   · rw [Qah (by simp [inb]; omega),ih _ (by omega)]
     simp [Qtm,List.filterMap_cons,Qz2 hu]
 · intro n s i hd _
   simp only [Qex.eq_2]
   unfold Qlc
   simp only [hd,cond_false]
   simp [Qtm]
theorem Q56 {fu:Nat} {r:Request} (h:Sm fu r) (us:List Int) (hl:us.length≤1048576) (hf:us.length<fu):Qi5 fu r us=some (Quo r us):=by
 unfold Qi5
 rw [Q3p h us hl hf,Qaa]
 have hlen:=Qwp r us
 have key:=lpI (Qtm r us) (λn s i=>Qfp fu (Qtm r us) n s i) (λl n=>some (n+Qvo (l.map Q5p))) (λl n=>0≤n∧n+8000000000*l.length≤8000000000*1048576) (by omega) ?_ ?_ fu 0 ⟨by omega,by omega⟩ (by omega)
 · simpa [Quo] using key
 · intro n s i x xs hx hd hI ih
   simp only [Qfp.eq_2]
   unfold Qiy
   simp only [hd,cond_true,hx,Qaa,Jhk]
   have hv:=Q6g x.fW x.fH x.fD
   have h2:=hI.2
   simp only [List.length_cons] at h2
   rw [Qay (by omega) (by omega),ih _ ⟨by omega,by omega⟩]
   simp only [List.map_cons,Qq8,Q5p]
   congr 1
   omega
 · intro n s i hd _
   simp only [Qfp.eq_2]
   unfold Qiy
   simp only [hd,cond_false]
   simp
end Go.Proofs.YtndfoffokpdjeaaGreatDoor
