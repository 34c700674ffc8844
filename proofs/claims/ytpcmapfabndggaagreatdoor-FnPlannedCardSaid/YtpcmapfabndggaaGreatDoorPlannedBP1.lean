/- PlannedBP: plain lem.. -/
import Derived.Test.YtpcmapfabndggaaGreatDoorPlannedBD
import Derived.Test.YtpcmapfabndggaaGreatDoorM3
set_option linter.unusedSimpArgs false
set_option linter.unusedVariables false
namespace Go.Proofs.YtpcmapfabndggaaGreatDoor
open Go
open Enc (rd ow)
open Arg (argv)
open Ret (retv)
open Wf (wf)
theorem Q6z {fu:Nat} (n:Nat) (hn:n≤1048576) (hf:n<fu):Qkj fu (n:Int)=some (Qf5 0 n):=by
 unfold Qkj
 have key:∀ (m i k:Nat),n - i=m→i≤n→m<k→Qgk fu (n:Int) k (Qf5 0 i) (i:Int)=some (Qf5 0 n):=by
  intro m
  induction m with
  | zero =>
   intro i k hm hi hk
   obtain ⟨k,rfl⟩:∃ j,k=j+1:=⟨k - 1,by omega⟩
   have:i=n:=by omega
   subst this
   rw [Qgk.eq_2]
   unfold Qjp
   simp
  | succ m ih =>
   intro i k hm hi hk
   obtain ⟨k,rfl⟩:∃ j,k=j+1:=⟨k - 1,by omega⟩
   rw [Qgk.eq_2]
   unfold Qjp
   rw [Qbj (by simp; omega),ap1 (by rw [Qcq]; simp; omega),Qab,Qy3 i (by omega)]
   have e:=Jb9 0 i
   rw [Int.zero_add] at e
   rw [← e]
   exact ih (i+1) k (by omega) (by omega) (by omega)
 exact key n 0 fu (by omega) (by omega) hf
def dk (keys:List Int) (Qwf:Bool) (p:Int):Int:=bif Qwf then - kf keys p else kf keys p
theorem Q6h {keys:List Int} {p:Int} (h:0≤p∧p<keys.length):ix keys p=some (kf keys p):=by
 have h1:p.toNat<keys.length:=by omega
 unfold kf ix
 rw [if_pos h.1,List.getElem?_eq_getElem h1]
 rfl
theorem Jk4 {fu:Nat} {keys a b:List Int} (Qwf:Bool) (ha:∀ p∈a,0≤p∧p<keys.length) (hb:∀ p∈b,0≤p∧p<keys.length) (hla:a.length≤1048576) (hlb:b.length≤1048576) :
    ∀ (m:Nat) (n:Nat) (out:List Int) (i j:Nat),i≤a.length→j≤b.length→(a.length - i)+(b.length - j)=m→m<n→out.length+m≤2097152 →
     Qc2 fu keys Qwf a b n out i j=some (out++mrg (dk keys Qwf) (a.drop i) (b.drop j)):=by
 intro m
 induction m with
 | zero =>
  intro n out i j hi hj hm hn ho
  obtain ⟨n,rfl⟩:∃ k,n=k+1:=⟨n - 1,by omega⟩
  rw [Qc2.eq_2]
  unfold Qk6
  rw [Qaw (by simp; omega),Qaw (by simp; omega),List.drop_of_length_le (show a.length≤i by omega),List.drop_of_length_le (show b.length≤j by omega)]
  simp [mrg]
 | succ m ih =>
  intro n out i j hi hj hm hn ho
  obtain ⟨n,rfl⟩:∃ k,n=k+1:=⟨n - 1,by omega⟩
  have hL:Qc2 fu keys Qwf a b (n+1) out i j=Qib fu (Qc2 fu keys Qwf a b n) keys Qwf a b out i j:=by
   rw [Qc2.eq_2]
   unfold Qk6
   by_cases h:i<a.length
   · rw [Qbj (by simpa using h)]
   · rw [Qaw (by simpa using h),Qbj (by simp; omega)]
  have tA:∀ (h:i<a.length),(Qg8 8 out [a[i]])=some (out++[a[i]]):=λh=>ap1 (by simp; omega)
  have tB:∀ (h:j<b.length),(Qg8 8 out [b[j]])=some (out++[b[j]]):=λh=>ap1 (by simp; omega)
  have nA:∀ (h:i<a.length),Qc2 fu keys Qwf a b n (out++[a[i]]) (w64 ((i:Int)+1)) j=some (out++a[i]::mrg (dk keys Qwf) (a.drop (i+1)) (b.drop j)):=λh=>by
   rw [Qy3 i (by omega),ih n (out++[a[i]]) (i+1) j (by omega) hj (by omega) (by omega) (by simp; omega)]
   simp
  have nB:∀ (h:j<b.length),Qc2 fu keys Qwf a b n (out++[b[j]]) i (w64 ((j:Int)+1))=some (out++b[j]::mrg (dk keys Qwf) (a.drop i) (b.drop (j+1))):=λh=>by
   rw [Qy3 j (by omega),ih n (out++[b[j]]) i (j+1) hi (by omega) (by omega) (by omega) (by simp; omega)]
   simp
  rw [hL]
  unfold Qib
  by_cases hjb:j=b.length
  · have h:i<a.length:=by omega
    rw [Qbj (by simp [hjb]),Qzs h,Qab,tA h,Qab,nA h,List.drop_of_length_le (show b.length≤j by omega),Q9a,Q9a,← List.drop_eq_getElem_cons h]
  · have hj':j<b.length:=by omega
    rw [Qaw (by simp; omega)]
    by_cases hia:i=a.length
    · rw [Qbj (by simp [hia]),Qzs hj',Qab,tB hj',Qab,nB hj',List.drop_of_length_le (show a.length≤i by omega)]
      have e1:∀ l,mrg (dk keys Qwf) [] l=l:=λl=>by rw [mrg]
      rw [e1,e1,← List.drop_eq_getElem_cons hj']
    · have hi':i<a.length:=by omega
      rw [Qaw (by simp; omega)]
      simp only [Qzs hi',Qzs hj',Qab,Q6h (ha _ (List.getElem_mem hi')),Q6h (hb _ (List.getElem_mem hj')),tA hi',tB hj',nA hi',nB hj']
      rw [List.drop_eq_getElem_cons hi',List.drop_eq_getElem_cons hj',Qw9,← List.drop_eq_getElem_cons hi',← List.drop_eq_getElem_cons hj']
      have hx:dk keys Qwf a[i]=bif Qwf then - kf keys a[i] else kf keys a[i]:=rfl
      have hy:dk keys Qwf b[j]=bif Qwf then - kf keys b[j] else kf keys b[j]:=rfl
      rw [hx,hy]
      generalize kf keys a[i]=x
      generalize kf keys b[j]=y
      cases Qwf
      · by_cases hc:y<x
        · rw [if_pos (by simpa using hc)]; simp [hc]
        · rw [if_neg (by simpa using hc)]
          have:decide (y>x)=true∨decide (y>x)=false:=by cases decide (y>x) <;> simp
          rcases this with h | h <;> simp [hc,h]
      · by_cases hc:x<y
        · have h:¬ y<x:=by omega
          rw [if_pos (by simpa using hc)]; simp [hc,h]
        · rw [if_neg (by simpa using hc)]
          have h:decide (y<x)=true∨decide (y<x)=false:=by cases decide (y<x) <;> simp
          rcases h with h | h <;> simp [hc,h]
theorem Q62 {fu:Nat} {keys:List Int} (Qwf:Bool) (hfu:2097153≤fu):∀ (n:Nat) (l:List Int),l.length≤n→l.length≤1048576→(∀ p∈l,0≤p∧p<keys.length) →
    Qiv fu (n+1) keys l Qwf=some (msr (dk keys Qwf) (n+1) l)
 | n,l,hn,hl,hm=>by
  rw [Qiv.eq_2]
  unfold Qsj msr
  by_cases h2:l.length<2
  · rw [Qbj (by simp; omega),if_pos h2,ap1 (by simp; omega)]; rfl
  · rw [Qaw (by simp; omega),if_neg h2]
    have hd:Int.tdiv (l.length:Int) 2=((l.length / 2:Nat):Int):=by simp [Int.tdiv]
    obtain ⟨n,rfl⟩:∃ k,n=k+1:=⟨n - 1,by omega⟩
    rw [hd,Qbe (by omega) (by omega),Quz (by omega),Quz (by omega),Qab]
    simp only [Int.toNat_natCast,Int.toNat_zero,List.drop_zero,Nat.sub_zero,Qab]
    rw [Q62 Qwf hfu n (l.take (l.length / 2)) (by rw [List.length_take]; omega) (by rw [List.length_take]; omega) (λp hp=>hm p (List.mem_of_mem_take hp)),Qab]
    have e:(l.drop (l.length / 2)).take (l.length - l.length / 2)=l.drop (l.length / 2):=List.take_of_length_le (by rw [List.length_drop]; omega)
    rw [e,Q62 Qwf hfu n (l.drop (l.length / 2)) (by rw [List.length_drop]; omega) (by rw [List.length_drop]; omega) (λp hp=>hm p (List.mem_of_mem_drop hp)),Qab]
    have hp1:=(Qth (dk keys Qwf) (n+1) (l.take (l.length / 2)))
    have hp2:=(Qth (dk keys Qwf) (n+1) (l.drop (l.length / 2)))
    have l1:=hp1.length_eq
    have l2:=hp2.length_eq
    rw [List.length_take] at l1
    rw [List.length_drop] at l2
    rw [show (0:Int)=((0:Nat):Int) from rfl]
    rw [Jk4 Qwf (λp hp=>hm p (List.mem_of_mem_take (hp1.mem_iff.1 hp))) (λp hp=>hm p (List.mem_of_mem_drop (hp2.mem_iff.1 hp))) (by omega) (by omega) _ fu [] 0 0 (by omega) (by omega) rfl (by omega) (by simp; omega)]
    simp
theorem Jlm {fu:Nat} {keys:List Int} (hfu:2097153≤fu) (hl:keys.length≤1048576):Qpo fu keys=some (srt (kf keys) keys.length):=by
 unfold Qpo Qp7
 rw [Q6z keys.length hl (by omega),Qab]
 obtain ⟨m,rfl⟩:∃ m,fu=m+1:=⟨fu - 1,by omega⟩
 rw [Q62 false hfu m _ (by rw [Qcq]; omega) (by rw [Qcq]; omega) (λp hp=>by have:=Qc6.1 hp; omega),Qab]
 congr 1
 have e:dk keys false=kf keys:=rfl
 rw [e]
 exact Q3d (Qth _ _ _) (Quf _ _ _ (by rw [Qcq]; omega) (Qup _ _))
structure Sm (fu:Nat) (r:Request):Prop where
 fu:2097153≤fu
 pairs:r.fT.length≤1048576
 types:r.fR.length≤1048576
 items:r.fU.length≤1048576
theorem Q3r (fu:Nat) (n lo hi:Int):Qa1 fu n lo hi=some (inb n lo hi):=by
 unfold Qa1 inb
 by_cases h:lo≤n
 · simp [h]
 · simp [h]
theorem Q5d (fu:Nat) (n lo hi:Int):Qbk fu n lo hi=some (inb n lo hi):=Q3r fu n lo hi
theorem Jce (fu:Nat) (n:Int):Qen fu n=some (inb n 1 2000):=by unfold Qen; rw [Q3r]; rfl
theorem Jjk (fu:Nat) (n:Int):Qof fu n=some (inb n 0 999):=by unfold Qof; rw [Q3r]; rfl
theorem Q7j (fu:Nat) (n:Int):Qc4 fu n=some (inb n 1 2000):=by unfold Qc4; rw [Q5d]; rfl
theorem Jdi (fu:Nat) (p:Pallet):Qhl fu p=some (Qv7 p):=by
 unfold Qhl Qv7
 simp only [Jce,Q3r,Qab]
 cases inb p.fW 1 2000 <;> cases inb p.fD 1 2000 <;> cases inb p.fH 1 2000 <;> rfl
theorem Jlh (fu:Nat) (p:Pallet):Qe9 fu p=some (Qv7 p):=by
 unfold Qe9 Qv7
 simp only [Q7j,Q5d,Qab]
 cases inb p.fW 1 2000 <;> cases inb p.fD 1 2000 <;> cases inb p.fH 1 2000 <;> rfl
theorem Jk6 (fu:Nat) (t:Typ):Qri fu t=some (Q2z t):=by
 unfold Qri Q2z
 simp only [Jce,Q3r,Jjk,Qab]
 cases inb t.qQ 0 999 <;> cases inb t.fW 1 2000 <;> cases inb t.fH 1 2000 <;> cases inb t.fD 1 2000 <;> cases inb t.ft 0 100000 <;> cases inb t.fQ 1 100000 <;> rfl
theorem Jkd (fu:Nat) (t:Typ):Qrl fu t=some (Q2z t):=by
 unfold Qrl Q2z
 simp only [Q7j,Q5d,Qab]
 cases inb t.qQ 0 999 <;> cases inb t.fW 1 2000 <;> cases inb t.fH 1 2000 <;> cases inb t.fD 1 2000 <;> cases inb t.ft 0 100000 <;> cases inb t.fQ 1 100000 <;> rfl
theorem Jj9 (fu:Nat) (t:Item):Qr8 fu t=some (Qyc t):=by
 unfold Qr8 Qyc
 simp only [Jce,Q3r,Jjk,Qab]
 cases inb t.qQ 0 999 <;> cases inb t.fW 1 2000 <;> cases inb t.fH 1 2000 <;> cases inb t.fD 1 2000 <;> cases inb t.fQ 1 100000 <;> cases inb t.fL 0 3 <;> rfl
theorem Jj5 (fu:Nat) (t:Item):Qrw fu t=some (Qyc t):=by
 unfold Qrw Qyc
 simp only [Q7j,Q5d,Qab]
 cases inb t.qQ 0 999 <;> cases inb t.fW 1 2000 <;> cases inb t.fH 1 2000 <;> cases inb t.fD 1 2000 <;> cases inb t.fQ 1 100000 <;> cases inb t.fL 0 3 <;> rfl
def Jg9:List Item→Int→Option Bool
 | [],n=>some (decide (n≤12))
 | x::xs,n=>bif !Qyc x then some false else Jg9 xs (w64 (n+x.f0))
theorem Q52:∀ (l:List Item) (n:Int),0≤n→n+6*l.length≤4611686018427387904→Jg9 l n=some (l.all Qyc&&decide (n+Qsr (l.map (·.f0))≤12))
 | [],n,_,_=>by simp [Jg9]
 | x::xs,n,h0,h1=>by
  unfold Jg9
  cases hx:Qyc x
  · simp [hx]
  · have hc:=hx
    simp only [Qyc,Bool.and_eq_true,Qcu] at hc
    have hc:=hc.2.2.2.2.2.2
    simp only [List.length_cons] at h1
    rw [Qbe (by omega) (by omega)]
    simp only [Bool.not_true,cond_false]
    rw [Q52 xs (n+x.f0) (by omega) (by omega)]
    simp only [List.all_cons,hx,Bool.true_and,List.map_cons,Qfy,Int.add_assoc]
theorem Jjr {fu:Nat} {r:Request} (h:Sm fu r):Qoo fu r=some (Q4n r):=by
 have hfu:=h.fu
 have h7:r.fU.length≤8→Qee fu r fu 0 0=some (r.fU.all Qyc&&decide (Qsr (r.fU.map (·.f0))≤12)):=by
  intro h8
  rw [lp r.fU (λn s i=>Qee fu r n s i) Jg9 (by have:=h.items; omega) ?_ ?_ fu 0 (by have:=h.items; omega),Q52 _ _ (by omega) (by have:=h.items; omega)]
  · simp
  · intro n s i x xs hx hd ih
    simp only [Qee.eq_2]
    unfold Qj1
    simp only [hd,cond_true,hx,Qab,Jj9,ih]
    rfl
  · intro n s i hd
    simp only [Qee.eq_2]
    unfold Qj1
    simp only [hd,cond_false]
    rfl
 have h6:∀ b:Bool,(Qee fu r fu 0 0=some b)→Qeb fu r fu 0=some (r.fR.all Q2z&&b):=by
  intro b hb
  refine lp r.fR (λn (_:Unit) i=>Qeb fu r n i) (λl _=>some (l.all Q2z&&b)) (by have:=h.types; omega) ?_ ?_ fu () (by have:=h.types; omega)
  · intro n s i x xs hx hd ih
    simp only [Qeb.eq_2]
    unfold Qju
    simp only [hd,cond_true,hx,Qab,Jk6,ih (),List.all_cons]
    cases Q2z x <;> rfl
  · intro n s i hd
    simp only [Qeb.eq_2]
    unfold Qju
    simp only [hd,cond_false,hb]
    rfl
 have h4:∀ b:Bool,(Qeb fu r fu 0=some b)→Qec fu r fu 0=some (r.fT.all prB&&b):=by
  intro b hb
  refine lp r.fT (λn (_:Unit) i=>Qec fu r n i) (λl _=>some (l.all prB&&b)) (by have:=h.pairs; omega) ?_ ?_ fu () (by have:=h.pairs; omega)
  · intro n s i x xs hx hd ih
    simp only [Qec.eq_2]
    unfold Qj7 Qnr
    simp only [hd,cond_true,hx,Qab,Q3r,ih ()]
    simp only [List.all_cons,prB]
    cases inb x.fA 0 3 <;> cases inb x.fB 0 3 <;> rfl
  · intro n s i hd
    simp only [Qec.eq_2]
    unfold Qj7
    simp only [hd,cond_false,hb]
    rfl
 unfold Qoo Qn4 Q4n
 simp only [Q3r,Jjk,Jdi,Qab]
 by_cases h8:r.fU.length≤8
 · rw [h4 _ (h6 _ (h7 h8))]
   have e8:decide ((r.fU.length:Int)>8)=false:=by simp; omega
   rw [e8]
   by_cases hp:r.fT.length≤16
   · have e16:decide ((r.fT.length:Int)>16)=false:=by simp; omega
     rw [e16]
     simp only [hp,h8,decide_true,cond_false,Bool.and_true]
     cases inb r.qY 0 1 <;> cases Qv7 r.fJ <;> cases inb r.fG 1 4 <;> cases inb (r.fR.length:Int) 1 5 <;> cases inb r.fP 0 999 <;> simp <;> cases r.fT.all prB <;> cases r.fR.all Q2z <;> rfl
   · have e16:decide ((r.fT.length:Int)>16)=true:=by simp; omega
     rw [e16]
     simp only [hp,decide_false,cond_true]
     cases inb r.qY 0 1 <;> cases Qv7 r.fJ <;> cases inb r.fG 1 4 <;> simp
 · have e8:decide ((r.fU.length:Int)>8)=true:=by simp; omega
   rw [e8]
   simp only [h8,decide_false,cond_true,Bool.and_false,Bool.false_and]
   cases inb r.qY 0 1 <;> cases Qv7 r.fJ <;> cases inb r.fG 1 4 <;> simp
def Qyk {α:Type} (g:α→Bool):List α→Int→Int
 | [],_=>-1
 | x::xs,i=>bif g x then i else Qyk g xs (i+1)
theorem Qt0 {α:Type} (g:α→Bool):∀ (l:List α) (i:Int),0≤i→decide (Qyk g l i≥0)=l.any g
 | [],i,_=>rfl
 | x::xs,i,h=>by
  simp only [Qyk,List.any_cons]
  by_cases hx:g x=true
  · simpa [hx] using h
  · simpa [hx] using Qt0 g xs (i+1) (by omega)
theorem Q4z {α:Type} (g:α→Bool):∀ (l pre:List α) ,(Qyk g l pre.length<0∧l.find? g=none)∨(0≤Qyk g l pre.length∧∃ x,l.find? g=some x∧ix (pre++l) (Qyk g l pre.length)=some x)
 | [],pre=>.inl ⟨by simp [Qyk],rfl⟩
 | x::xs,pre=>by
  simp only [Qyk]
  cases hx:g x
  · have:=Q4z g xs (pre++[x])
    simp only [List.length_append,List.length_singleton,List.append_assoc,List.singleton_append] at this
    simpa [List.find?_cons,hx] using this
  · refine .inr ⟨by simp,x,by simp [hx],?_⟩
    rw [cond_true,Qi5]
    simp
theorem Qt2 {α:Type} (l:List α) (L:Nat→Int→Option Int) (g:α→Bool) (hl:l.length≤1099511627776)
    (hs:∀ n (i:Int) x,ix l i=some x→decide (i<(l.length:Int))=true→L (n+1) i=bif g x then some i else L n (w64 (i+1)))
    (he:∀ n (i:Int),decide (i<(l.length:Int))=false→L (n+1) i=some (-1)) (n:Nat) (hn:l.length<n):L n 0=some (Qyk g l 0):=by
 have key:∀ (m i n:Nat),l.length - i=m→i≤l.length→m<n→L n (i:Int)=some (Qyk g (l.drop i) i):=by
  intro m
  induction m with
  | zero =>
   intro i n hm hi hn
   obtain ⟨n,rfl⟩:∃ k,n=k+1:=⟨n - 1,by omega⟩
   rw [List.drop_of_length_le (by omega),he n i (by simp; omega)]
   rfl
  | succ m ih =>
   intro i n hm hi hn
   obtain ⟨n,rfl⟩:∃ k,n=k+1:=⟨n - 1,by omega⟩
   have hlt:i<l.length:=by omega
   rw [hs n i _ (Qzs hlt) (by simpa using hlt),List.drop_eq_getElem_cons hlt]
   simp only [Qyk]
   cases g l[i]
   · rw [cond_false,cond_false,Qy3 i (by omega)]
     have:=ih (i+1) n (by omega) (by omega) (by omega)
     simpa using this
   · rfl
 simpa using key l.length 0 n (by omega) (by omega) hn
theorem Q7a {fu:Nat} {l:List Typ} (f:Typ→Option Bool) (g:Typ→Bool) (hg:∀ x∈l,f x=some (g x)) (hl:l.length≤1048576) (hf:l.length<fu):Qbo fu l f=some (Qyk g l 0):=by
 unfold Qbo
 refine Qt2 l (λn i=>Qbb fu l f n i) g (by omega) ?_ ?_ fu hf
 · intro n i x hx hd
   simp only [Qbb.eq_2]
   unfold Qci
   simp only [hd,cond_true,hx,Qab,hg x (Qgb hx)]
 · intro n i hd
   simp only [Qbb.eq_2]
   unfold Qci
   simp only [hd,cond_false]
theorem Q4c {fu:Nat} {l:List Typ} (f:Typ→Option Bool) (g:Typ→Bool) (hg:∀ x∈l,f x=some (g x)) (hl:l.length≤1048576) (hf:l.length<fu):Qay fu l f=some (l.any g):=by
 unfold Qay
 rw [Q7a f g hg hl hf,Qab,Qt0 g l 0 (by omega)]
theorem Jar {fu:Nat} {l:List Pair} (f:Pair→Option Bool) (g:Pair→Bool) (hg:∀ x∈l,f x=some (g x)) (hl:l.length≤1048576) (hf:l.length<fu):Qb7 fu l f=some (Qyk g l 0):=by
 unfold Qb7
 refine Qt2 l (λn i=>Qa7 fu l f n i) g (by omega) ?_ ?_ fu hf
 · intro n i x hx hd
   simp only [Qa7.eq_2]
   unfold Qch
   simp only [hd,cond_true,hx,Qab,hg x (Qgb hx)]
 · intro n i hd
   simp only [Qa7.eq_2]
   unfold Qch
   simp only [hd,cond_false]
theorem Q5h {fu:Nat} {l:List Pair} (f:Pair→Option Bool) (g:Pair→Bool) (hg:∀ x∈l,f x=some (g x)) (hl:l.length≤1048576) (hf:l.length<fu):Qba fu l f=some (l.any g):=by
 unfold Qba
 rw [Jar f g hg hl hf,Qab,Qt0 g l 0 (by omega)]
theorem Q90 {fu:Nat} {l:List Item} (f:Item→Option Bool) (g:Item→Bool) (hg:∀ x∈l,f x=some (g x)) (hl:l.length≤1048576) (hf:l.length<fu):Qb6 fu l f=some (Qyk g l 0):=by
 unfold Qb6
 refine Qt2 l (λn i=>Qa8 fu l f n i) g (by omega) ?_ ?_ fu hf
 · intro n i x hx hd
   simp only [Qa8.eq_2]
   unfold Qcj
   simp only [hd,cond_true,hx,Qab,hg x (Qgb hx)]
 · intro n i hd
   simp only [Qa8.eq_2]
   unfold Qcj
   simp only [hd,cond_false]
theorem Qxr {fu:Nat} {l:List Item} (f:Item→Option Bool) (g:Item→Bool) (hg:∀ x∈l,f x=some (g x)) (hl:l.length≤1048576) (hf:l.length<fu):Qau fu l f=some (l.any g):=by
 unfold Qau
 rw [Q90 f g hg hl hf,Qab,Qt0 g l 0 (by omega)]
theorem Jjs {fu:Nat} {r:Request} (h:Sm fu r):Qoq fu r=some (Q4n r):=by
 have hfu:=h.fu
 have h1:=h.items
 have h2:=h.types
 have h3:=h.pairs
 have e3:Qe2 fu r fu 0 0=some (r.fU.all Qyc&&decide (Qsr (r.fU.map (·.f0))≤12)):=by
  rw [lp r.fU (λn s i=>Qe2 fu r n s i) Jg9 (by omega) ?_ ?_ fu 0 (by omega),Q52 _ _ (by omega) (by omega)]
  · simp
  · intro n s i x xs hx hd ih
    simp only [Qe2.eq_2]
    unfold Qjx
    simp only [hd,cond_true,hx,Qab,Jj5,ih]
    rfl
  · intro n s i hd
    simp only [Qe2.eq_2]
    unfold Qjx
    simp only [hd,cond_false]
    rfl
 have ep:Qba fu r.fT (λy34=>Qkz fu y34)=some (!(r.fT.all prB)):=by
  rw [Q5h _ (λp=>!prB p) (λp _=>by
   unfold Qkz prB
   simp only [Q5d,Qab]
   cases inb p.fA 0 3 <;> rfl) h3 (by omega)]
  simp [List.not_all_eq_any_not]
 have et:Qay fu r.fR (λy34=>Qkw fu y34)=some (!(r.fR.all Q2z)):=by
  rw [Q4c _ (λp=>!Q2z p) (λp _=>by
   unfold Qkw
   rw [Jkd]; rfl) h2 (by omega)]
  simp [List.not_all_eq_any_not]
 unfold Qoq Qns Qnj Q4n
 rw [e3,ep,et]
 simp only [Q5d,Jlh,Qab]
 have e8:decide ((r.fU.length:Int)>8)=!decide (r.fU.length≤8):=by
  by_cases hh:r.fU.length≤8
  · have:¬ ((r.fU.length:Int)>8):=by omega
    simp [hh,this]
  · have:(r.fU.length:Int)>8:=by omega
    simp [hh,this]
 have e16:decide ((r.fT.length:Int)>16)=!decide (r.fT.length≤16):=by
  by_cases hh:r.fT.length≤16
  · have:¬ ((r.fT.length:Int)>16):=by omega
    simp [hh,this]
  · have:(r.fT.length:Int)>16:=by omega
    simp [hh,this]
 rw [e8,e16]
 cases inb r.qY 0 1 <;> cases Qv7 r.fJ <;> cases inb r.fG 1 4 <;> cases decide (r.fT.length≤16) <;> cases r.fT.all prB <;> cases inb (r.fR.length:Int) 1 5 <;> cases r.fR.all Q2z <;> cases inb r.fP 0 999 <;> cases decide (r.fU.length≤8) <;> rfl
theorem lpP {σ α β:Type} (l:List α) (L:Nat→σ→Int→Option β) (F:List α→List α→σ→Option β) (hl:l.length≤1099511627776)
    (hs:∀ n s pre x xs,l=pre++x::xs→ix l (pre.length:Int)=some x→decide ((pre.length:Int)<(l.length:Int))=true→(∀ s',L n s' (w64 ((pre.length:Int)+1))=F (pre++[x]) xs s')→L (n+1) s (pre.length:Int)=F pre (x::xs) s)
    (he:∀ n s,decide ((l.length:Int)<(l.length:Int))=false→L (n+1) s (l.length:Int)=F l [] s):∀ n s,l.length<n→L n s 0=F [] l s:=by
 have key:∀ (xs pre:List α) (n:Nat) (s:σ),l=pre++xs→xs.length<n→L n s (pre.length:Int)=F pre xs s:=by
  intro xs
  induction xs with
  | nil =>
   intro pre n s he' hn
   obtain ⟨n,rfl⟩:∃ k,n=k+1:=⟨n - 1,by omega⟩
   simp only [List.append_nil] at he'
   subst he'
   exact he n s (by simp)
  | cons x xs ih =>
   intro pre n s he' hn
   obtain ⟨n,rfl⟩:∃ k,n=k+1:=⟨n - 1,by simp at hn; omega⟩
   have hlen:l.length=pre.length+(xs.length+1):=by rw [he']; simp
   refine hs n s pre x xs he' ?_ (by simp; omega) λs'=>?_
   · rw [Qi5,he']; simp
   · rw [Qy3 _ (by omega)]
     have:=ih (pre++[x]) n s' (by simp [he']) (by simp at hn; omega)
     simpa using this
 intro n s hn
 simpa using key l [] n s rfl hn
theorem Jaf {α:Type} {pre rest:List α} {i:Int} {y:α} (h:ix pre i=some y):ix (pre++rest) i=some y:=by
 obtain ⟨h0,h1,h2⟩:=Qal h
 unfold ix
 rw [if_pos h0,List.getElem?_append_left (by omega),h2]
theorem Jlf (a b:Int):(a==b)=(b==a):=Bool.eq_iff_iff.2 (by simp only [beq_iff_eq]; exact ⟨Eq.symm,Eq.symm⟩)
theorem Qxp {fu:Nat} {r:Request} (h:Sm fu r) (id:Int):Qhn fu r id=some (Qzi (Qty r id)):=by
 have hfu:=h.fu
 have ht:=h.types
 unfold Qhn Qty
 rw [Q7a (λy24=>Qo8 fu y24 id) (λt=>t.qQ==id) (λt _=>rfl) ht (by omega),Qab]
 rcases Q4z (λt:Typ=>t.qQ==id) r.fR [] with ⟨h1,h2⟩ | ⟨h1,x,h2,h3⟩
 · simp only [List.length_nil] at h1
   rw [Qbj (by simpa using h1),h2]; rfl
 · simp only [List.length_nil,List.nil_append] at h1 h3
   rw [Qaw (by simpa using h1),h2]
   have h3':ix r.fR (Qyk (λt=>t.qQ==id) r.fR 0)=some x:=h3
   rw [h3']; rfl
theorem Jbj {fu:Nat} {r:Request} (h:Sm fu r):Qf6 fu r=some (Qzi (Qty r r.fP)):=by
 have hfu:=h.fu
 have ht:=h.types
 unfold Qf6 Qty
 refine lp r.fR (λn (_:Unit) i=>Qf8 fu r n i) (λl _=>some (Qzi (l.find? λt=>t.qQ==r.fP))) (by omega) ?_ ?_ fu () (by omega)
 · intro n s i x xs hx hd ih
   simp only [Qf8.eq_2]
   unfold Qjy
   simp only [hd,cond_true,hx,Qab,ih (),List.find?_cons]
   cases x.qQ==r.fP <;> rfl
 · intro n s i hd
   simp only [Qf8.eq_2]
   unfold Qjy
   simp only [hd,cond_false]
   rfl
theorem Jfi {fu:Nat} {r:Request} (h:Sm fu r):Qih fu r=some (Qzi (Qty r r.fP)):=by
 unfold Qih
 rw [Qxp h]; rfl
theorem Q2t (o:Option Typ):(Qzi o).2=o.isSome:=by cases o <;> rfl
theorem Jj6 {fu:Nat} {r:Request} (h:Sm fu r):Qpy fu r=some (Q84 r):=by
 have hfu:=h.fu
 have h1:=h.items
 have h2:=h.types
 have h3:=h.pairs
 have e11:Qd6 fu r fu 0=some (!(r.fT.any λp=>decide (p.fA≥r.fG)||decide (p.fB≥r.fG))&&(Qty r r.fP).isSome):=by
  refine lp r.fT (λn (_:Unit) i=>Qd6 fu r n i) (λl _=>some (!(l.any λp=>decide (p.fA≥r.fG)||decide (p.fB≥r.fG))&&(Qty r r.fP).isSome)) (by omega) ?_ ?_ fu () (by omega)
  · intro n s i x xs hx hd ih
    simp only [Qd6.eq_2]
    unfold Qmg Qoz
    simp only [hd,cond_true,hx,Qab,ih (),List.any_cons]
    cases decide (x.fA≥r.fG) <;> cases decide (x.fB≥r.fG) <;> rfl
  · intro n s i hd
    simp only [Qd6.eq_2]
    unfold Qmg
    simp only [hd,cond_false,Jbj h,Qab,Q2t]
    rfl
 have e7:∀ b,Qd6 fu r fu 0=some b→Qbv fu r fu 0=some (Q85 r.fG [] r.fU&&b):=by
  intro b hb
  refine lpP r.fU (λn (_:Unit) i=>Qbv fu r n i) (λpre l _=>some (Q85 r.fG pre l&&b)) (by omega) ?_ ?_ fu () (by omega)
  · intro n s pre x xs hl hx hd ih
    simp only [Qbv.eq_2]
    unfold Qmj
    simp only [hd,cond_true,hx,Qab,Q85]
    cases hc:decide (x.fL≥r.fG)
    · have hpl:pre.length≤r.fU.length:=by rw [hl]; simp
      have e8:Qer fu (λi=>Qbv fu r n i) r (pre.length:Int) fu 0=bif pre.any (λy=>y.qQ==x.qQ) then some false else Qbv fu r n (w64 ((pre.length:Int)+1)):=by
       refine lp pre (λm (_:Unit) i=>Qer fu (λi=>Qbv fu r n i) r (pre.length:Int) m i) (λl _=>bif l.any (λy=>y.qQ==x.qQ) then some false else Qbv fu r n (w64 ((pre.length:Int)+1))) (by omega) ?_ ?_ fu () (by omega)
       · intro m s i y ys hy hd ih
         simp only [Qer.eq_2]
         unfold Qlp
         have hy':ix r.fU i=some y:=by rw [hl]; exact Jaf hy
         simp only [hd,cond_true,hx,hy',Qab,ih (),List.any_cons]
         rw [Jlf x.qQ y.qQ]
         cases y.qQ==x.qQ <;> rfl
       · intro m s i hd
         simp only [Qer.eq_2]
         unfold Qlp
         simp only [hd,cond_false]
         rfl
      have e8':Qer fu (Qbv fu r n) r (pre.length:Int) fu 0=bif pre.any (λy=>y.qQ==x.qQ) then some false else Qbv fu r n (w64 ((pre.length:Int)+1)):=e8
      rw [cond_false,e8',ih ()]
      cases pre.any (λy=>y.qQ==x.qQ) <;> rfl
    · rfl
  · intro n s hd
    simp only [Qbv.eq_2]
    unfold Qmj
    simp only [hd,cond_false,hb]
    rfl
 have e3:∀ b,Qbv fu r fu 0=some b→Qbz fu r fu 0=some (Q83 Typ.qQ [] r.fR&&b):=by
  intro b hb
  refine lpP r.fR (λn (_:Unit) i=>Qbz fu r n i) (λpre l _=>some (Q83 Typ.qQ pre l&&b)) (by omega) ?_ ?_ fu () (by omega)
  · intro n s pre x xs hl hx hd ih
    simp only [Qbz.eq_2]
    unfold Qmf
    simp only [hd,cond_true,Q83]
    have hpl:pre.length≤r.fR.length:=by rw [hl]; simp
    have e8:Qep fu (λi=>Qbz fu r n i) r (pre.length:Int) fu 0=bif pre.any (λy=>y.qQ==x.qQ) then some false else Qbz fu r n (w64 ((pre.length:Int)+1)):=by
     refine lp pre (λm (_:Unit) i=>Qep fu (λi=>Qbz fu r n i) r (pre.length:Int) m i) (λl _=>bif l.any (λy=>y.qQ==x.qQ) then some false else Qbz fu r n (w64 ((pre.length:Int)+1))) (by omega) ?_ ?_ fu () (by omega)
     · intro m s i y ys hy hd ih
       simp only [Qep.eq_2]
       unfold Qmq
       have hy':ix r.fR i=some y:=by rw [hl]; exact Jaf hy
       simp only [hd,cond_true,hx,hy',Qab,ih (),List.any_cons]
       rw [Jlf x.qQ y.qQ]
       cases y.qQ==x.qQ <;> rfl
     · intro m s i hd
       simp only [Qep.eq_2]
       unfold Qmq
       simp only [hd,cond_false]
       rfl
    have e8':Qep fu (Qbz fu r n) r (pre.length:Int) fu 0=bif pre.any (λy=>y.qQ==x.qQ) then some false else Qbz fu r n (w64 ((pre.length:Int)+1)):=e8
    rw [e8',ih ()]
    cases pre.any (λy=>y.qQ==x.qQ) <;> rfl
  · intro n s hd
    simp only [Qbz.eq_2]
    unfold Qmf
    simp only [hd,cond_false,hb]
    rfl
 unfold Qpy Q84
 rw [e3 _ (e7 _ e11)]
 congr 1
 cases Q83 Typ.qQ [] r.fR <;> cases Q85 r.fG [] r.fU <;> cases (Qty r r.fP).isSome <;> cases r.fT.any λp=>decide (p.fA≥r.fG)||decide (p.fB≥r.fG) <;> rfl
theorem Q9v {α:Type} {l pre xs:List α} {x:α} (h:l=pre++x::xs):sls l 0 (pre.length:Int)=some pre:=by
 rw [Quz ⟨by omega,by omega,by rw [h]; simp; omega⟩]
 simp [h]
theorem Jla {fu:Nat} {r:Request} (h:Sm fu r):Qqk fu r=some (Q84 r):=by
 have hfu:=h.fu
 have h1:=h.items
 have h2:=h.types
 have h3:=h.pairs
 have e4:Qd1 fu r fu 0=some (Q85 r.fG [] r.fU&&((Qty r r.fP).isSome&&!(r.fT.any λp=>decide (p.fA≥r.fG)||decide (p.fB≥r.fG)))):=by
  refine lpP r.fU (λn (_:Unit) i=>Qd1 fu r n i) (λpre l _=>some (Q85 r.fG pre l&&((Qty r r.fP).isSome&&!(r.fT.any λp=>decide (p.fA≥r.fG)||decide (p.fB≥r.fG))))) (by omega) ?_ ?_ fu () (by omega)
  · intro n s pre x xs hl hx hd ih
    simp only [Qd1.eq_2]
    unfold Qle Qps
    have hpl:pre.length≤r.fU.length:=by rw [hl]; simp
    simp only [hd,cond_true,hx,Qab,Q9v hl,Qxr (λy=>Qq1 fu y x) (λy=>y.qQ==x.qQ) (λy _=>rfl) (show pre.length≤1048576 by omega) (show pre.length<fu by omega),Q85,ih ()]
    cases decide (x.fL≥r.fG) <;> cases pre.any (λy=>y.qQ==x.qQ) <;> rfl
  · intro n s hd
    simp only [Qd1.eq_2]
    unfold Qle
    simp only [hd,cond_false,Jfi h,Qab,Q2t]
    rw [Q5h (λy=>Qmz fu y r) (λp=>decide (p.fA≥r.fG)||decide (p.fB≥r.fG)) (λp _=>by
     unfold Qmz
     cases decide (p.fA≥r.fG) <;> rfl) h3 (by omega),Qab]
    cases (Qty r r.fP).isSome <;> rfl
 have e3:∀ b,Qd1 fu r fu 0=some b→Qfo fu r fu 0=some (Q83 Typ.qQ [] r.fR&&b):=by
  intro b hb
  refine lpP r.fR (λn (_:Unit) i=>Qfo fu r n i) (λpre l _=>some (Q83 Typ.qQ pre l&&b)) (by omega) ?_ ?_ fu () (by omega)
  · intro n s pre x xs hl hx hd ih
    simp only [Qfo.eq_2]
    unfold Qmp
    have hpl:pre.length≤r.fR.length:=by rw [hl]; simp
    simp only [hd,cond_true,hx,Qab,Q9v hl,Q4c (λy=>Qqw fu y x) (λy=>y.qQ==x.qQ) (λy _=>rfl) (show pre.length≤1048576 by omega) (show pre.length<fu by omega),Q83,ih ()]
    cases pre.any (λy=>y.qQ==x.qQ) <;> rfl
  · intro n s hd
    simp only [Qfo.eq_2]
    unfold Qmp
    simp only [hd,cond_false,hb]
    rfl
 unfold Qqk Q84
 rw [e3 _ e4]
 congr 1
 cases Q83 Typ.qQ [] r.fR <;> cases Q85 r.fG [] r.fU <;> cases (Qty r r.fP).isSome <;> cases r.fT.any λp=>decide (p.fA≥r.fG)||decide (p.fB≥r.fG) <;> rfl
theorem Jhs {fu:Nat} {l:List Pair} (hl:l.length≤1048576) (hf:l.length<fu) (a b:Int):Qf9 fu l a b=some (Qt1 l a b):=by
 unfold Qf9 Qt1
 refine lp l (λn (_:Unit) i=>Qgn fu l a b n i) (λl _=>some (l.any λp=>p.fA==a&&p.fB==b)) (by omega) ?_ ?_ fu () hf
 · intro n s i x xs hx hd ih
   simp only [Qgn.eq_2]
   unfold Qnk Qm0
   simp only [hd,cond_true,hx,Qab,ih (),List.any_cons]
   cases x.fA==a <;> cases x.fB==b <;> rfl
 · intro n s i hd
   simp only [Qgn.eq_2]
   unfold Qnk
   simp only [hd,cond_false]
   rfl
theorem Jfv {fu:Nat} {l:List Pair} (hl:l.length≤1048576) (hf:l.length<fu) (a b:Int):Qh4 fu l a b=some (Qt1 l a b):=by
 unfold Qh4 Qdd Qdv Qt1
 have:=Qt2 l (λn i=>Qbi fu l (⟨a,b⟩:Pair) n i) (λp=>p.fA==a&&p.fB==b) (by omega) (by
  intro n i x hx hd
  simp only [Qbi.eq_2]
  unfold Qc5
  simp only [hd,cond_true,hx,Qab]
  have:decide ((⟨a,b⟩:Pair)=x)=(x.fA==a&&x.fB==b):=by
   rcases x with ⟨c,d⟩
   apply Bool.eq_iff_iff.2
   simp only [decide_eq_true_eq,Pair.mk.injEq,Bool.and_eq_true,beq_iff_eq]
   exact ⟨λ⟨h1,h2⟩=>⟨h1.symm,h2.symm⟩,λ⟨h1,h2⟩=>⟨h1.symm,h2.symm⟩⟩
  rw [this]) (by
  intro n i hd
  simp only [Qbi.eq_2]
  unfold Qc5
  simp only [hd,cond_false]) fu hf
 rw [this,Qab,Qt0 _ l 0 (by omega),Qab]
theorem Jkm {fu:Nat} {l:List Pair} (hl:l.length≤1048576) (hf:l.length<fu) (h64:64<fu) (c:Int):Qp0 fu l c=some (Jco l c):=by
 unfold Qp0 Jco
 rw [Q5d,Qab]
 cases hc:inb c 1 4
 · rfl
 rw [Qcu] at hc
 simp only [Bool.not_true,cond_false,Bool.true_and]
 have e4:∀ (k:Int→Option Bool) (a:Int),Qft fu k l c a fu 0=bif (Qf5 0 c.toNat).all λb=>Qt1 l a b==Qt1 l b a then k (w64 (a+1)) else some false:=by
  intro k a
  refine lpN c (λn (_:Unit) i=>Qft fu k l c a n i) (λxs _=>bif xs.all λb=>Qt1 l a b==Qt1 l b a then k (w64 (a+1)) else some false) (by omega) ?_ ?_ c.toNat fu () 0 (by omega) (by omega) (by omega)
  · intro n s i xs h0 h1 hd ih
    simp only [Qft.eq_2]
    unfold Qk8
    simp only [hd,cond_true,Jfv hl hf,Qab,ih (),List.all_cons]
    cases Qt1 l a i==Qt1 l i a <;> rfl
  · intro n s i hd
    simp only [Qft.eq_2]
    unfold Qk8
    simp only [hd,cond_false]
    rfl
 refine lpN c (λn (_:Unit) i=>Qf3 fu l c n i) (λxs _=>some (xs.all λa=>Qt1 l a a&&(Qf5 0 c.toNat).all λb=>Qt1 l a b==Qt1 l b a)) (by omega) ?_ ?_ c.toNat fu () 0 (by omega) (by omega) (by omega)
 · intro n s i xs h0 h1 hd ih
   simp only [Qf3.eq_2]
   unfold Qld
   simp only [hd,cond_true,Jfv hl hf,Qab,e4,ih (),List.all_cons]
   cases Qt1 l i i <;> cases (Qf5 0 c.toNat).all λb=>Qt1 l i b==Qt1 l b i <;> rfl
 · intro n s i hd
   simp only [Qf3.eq_2]
   unfold Qld
   simp only [hd,cond_false]
   rfl
theorem Jjq {fu:Nat} {l:List Pair} (hl:l.length≤1048576) (hf:l.length<fu) (h64:64<fu) (c:Int):Qpx fu l c=some (Jco l c):=by
 unfold Qpx Jco
 rw [Q3r,Qab]
 cases hc:inb c 1 4
 · rfl
 rw [Qcu] at hc
 simp only [Bool.not_true,cond_false,Bool.true_and]
 have e4:∀ (k:Int→Option Bool) (a:Int),Qew fu k l c a fu 0=bif (Qf5 0 c.toNat).all λb=>(!(a==b)||Qt1 l a a)&&(Qt1 l a b==Qt1 l b a) then k (w64 (a+1)) else some false:=by
  intro k a
  refine lpN c (λn (_:Unit) i=>Qew fu k l c a n i) (λxs _=>bif xs.all λb=>(!(a==b)||Qt1 l a a)&&(Qt1 l a b==Qt1 l b a) then k (w64 (a+1)) else some false) (by omega) ?_ ?_ c.toNat fu () 0 (by omega) (by omega) (by omega)
  · intro n s i xs h0 h1 hd ih
    simp only [Qew.eq_2]
    unfold Qln Qkh
    simp only [hd,cond_true,Jhs hl hf,Qab,ih (),List.all_cons]
    cases a==i <;> cases Qt1 l a a <;> cases Qt1 l a i==Qt1 l i a <;> rfl
  · intro n s i hd
    simp only [Qew.eq_2]
    unfold Qln
    simp only [hd,cond_false]
    rfl
 have e9:Qd2 fu l c fu 0=some ((Qf5 0 c.toNat).all λa=>(Qf5 0 c.toNat).all λb=>(!(a==b)||Qt1 l a a)&&(Qt1 l a b==Qt1 l b a)):=by
  refine lpN c (λn (_:Unit) i=>Qd2 fu l c n i) (λxs _=>some (xs.all λa=>(Qf5 0 c.toNat).all λb=>(!(a==b)||Qt1 l a a)&&(Qt1 l a b==Qt1 l b a))) (by omega) ?_ ?_ c.toNat fu () 0 (by omega) (by omega) (by omega)
  · intro n s i xs h0 h1 hd ih
    simp only [Qd2.eq_2]
    unfold Qlb
    simp only [hd,cond_true,e4,ih (),List.all_cons]
    cases (Qf5 0 c.toNat).all λb=>(!(i==b)||Qt1 l i i)&&(Qt1 l i b==Qt1 l b i) <;> rfl
  · intro n s i hd
    simp only [Qd2.eq_2]
    unfold Qlb
    simp only [hd,cond_false]
    rfl
 rw [e9]
 congr 1
 apply Bool.eq_iff_iff.2
 simp only [List.all_eq_true,Bool.and_eq_true,Bool.or_eq_true,Bool.not_eq_true',beq_eq_false_iff_ne,beq_iff_eq]
 constructor
 · intro h a ha
   refine ⟨?_,λb hb=>(h a ha b hb).2⟩
   rcases (h a ha a ha).1 with h1 | h1
   · exact absurd rfl h1
   · exact h1
 · intro h a ha b hb
   exact ⟨.inr (h a ha).1,(h a ha).2 b hb⟩
theorem Jlu {l:List Int} (h:l.length=3):∃ p q s,l=[p,q,s]:=by
 match l,h with
 | [p,q,s],_=>exact ⟨p,q,s,rfl⟩
theorem Jiz {fu:Nat} (hfu:2097153≤fu) (a b c:Int):Qne fu a b c=some [(sid a b c).1,(sid a b c).2.1,(sid a b c).2.2]:=by
 unfold Qne
 rw [Jlm hfu (by simp),Qab,show [a,b,c].length=3 from rfl]
 have hp:=Qut (kf [a,b,c]) 3
 have hs:=Qx2 (kf [a,b,c]) 3
 obtain ⟨p,q,s,hq⟩:=Jlu (Qt5 (kf [a,b,c]) 3)
 rw [hq] at hp hs ⊢
 have hmem:∀ x∈[p,q,s],0≤x∧x<3:=λx hx=>by
  have:=Qc6.1 (hp.mem_iff.1 hx)
  omega
 have k1:=Q6h (keys:=[a,b,c]) (p:=p) (by have:=hmem p (by simp); simpa using this)
 have k2:=Q6h (keys:=[a,b,c]) (p:=q) (by have:=hmem q (by simp); simpa using this)
 have k3:=Q6h (keys:=[a,b,c]) (p:=s) (by have:=hmem s (by simp); simpa using this)
 rw [show ix [p,q,s] 0=some p from rfl,show ix [p,q,s] 1=some q from rfl,show ix [p,q,s] 2=some s from rfl]
 simp only [Qab,k1,k2,k3]
 have hp3:([a,b,c]).Perm [kf [a,b,c] p,kf [a,b,c] q,kf [a,b,c] s]:=(hp.map (kf [a,b,c])).symm
 simp only [List.pairwise_cons,List.mem_cons,List.not_mem_nil,or_false,forall_eq_or_imp,forall_eq,lx] at hs
 have:=Jiy hp3 (by omega) (by omega)
 rw [this]
theorem Jf7 {fu:Nat} (hfu:2097153≤fu) (x:Item) (t:Typ):Qq5 fu x t=some (Q13 x t):=by
 unfold Qq5 Q13
 rw [Jiz hfu,Jiz hfu]
 simp only [Qab]
 have e0:∀ a b c:Int,ix [a,b,c] 0=some a:=λ_ _ _=>rfl
 have e1:∀ a b c:Int,ix [a,b,c] 1=some b:=λ_ _ _=>rfl
 have e2:∀ a b c:Int,ix [a,b,c] 2=some c:=λ_ _ _=>rfl
 simp only [e0,e1,e2,Qab]
 cases decide ((sid x.fW x.fH x.fD).1≤(sid t.fW t.fH t.fD).1) <;> cases decide ((sid x.fW x.fH x.fD).2.1≤(sid t.fW t.fH t.fD).2.1) <;> cases decide ((sid x.fW x.fH x.fD).2.2≤(sid t.fW t.fH t.fD).2.2) <;> rfl
theorem Jbc (a b c:Int):Q3p [a,b,c]=some [(sid a b c).1,(sid a b c).2.1,(sid a b c).2.2]:=by
 unfold Q3p
 rw [if_pos (by simp)]
 have hp:=List.mergeSort_perm [a,b,c] (λx y=>decide (x≤y))
 have hs:=Qq7 [a,b,c]
 obtain ⟨p,q,s,hq⟩:=Jlu (hp.length_eq)
 rw [hq] at hp hs ⊢
 simp only [List.pairwise_cons,List.mem_cons,List.not_mem_nil,or_false,forall_eq_or_imp,forall_eq] at hs
 rw [Jiy hp.symm (by omega) (by omega)]
theorem Jht (fu:Nat) (x:Item) (t:Typ):Qsk fu x t=some (Q13 x t):=by
 unfold Qsk Qst Qcl Q13
 rw [Jbc,Jbc]
 have e0:∀ a b c:Int,ix [a,b,c] 0=some a:=λ_ _ _=>rfl
 have e1:∀ a b c:Int,ix [a,b,c] 1=some b:=λ_ _ _=>rfl
 have e2:∀ a b c:Int,ix [a,b,c] 2=some c:=λ_ _ _=>rfl
 simp only [Qab,e0,e1,e2]
 cases decide ((sid x.fW x.fH x.fD).1≤(sid t.fW t.fH t.fD).1) <;> cases decide ((sid x.fW x.fH x.fD).2.1≤(sid t.fW t.fH t.fD).2.1) <;> cases decide ((sid x.fW x.fH x.fD).2.2≤(sid t.fW t.fH t.fD).2.2) <;> rfl
theorem Q3g {fu:Nat} {r:Request} (h:Sm fu r):Qfv fu r=some (Qhg r):=by
 have hfu:=h.fu
 have h1:=h.items
 have h2:=h.types
 have h3:=h.pairs
 have e4:Qf7 fu r fu 0=some (bif r.fR.any (Q86 r.fJ) then 6 else 0):=by
  refine lp r.fR (λn (_:Unit) i=>Qf7 fu r n i) (λl _=>some (bif l.any (Q86 r.fJ) then 6 else 0)) (by omega) ?_ ?_ fu () (by omega)
  · intro n s i x xs hx hd ih
    simp only [Qf7.eq_2]
    unfold Qo7 Qru
    simp only [hd,cond_true,hx,Qab,ih (),List.any_cons,Q86]
    cases decide (x.fW>r.fJ.fW) <;> cases decide (x.fD>r.fJ.fD) <;> cases decide (x.fH>r.fJ.fH) <;> cases decide (w64 (x.ft+x.fQ)>r.fJ.fQ) <;> rfl
  · intro n s i hd
    simp only [Qf7.eq_2]
    unfold Qo7
    simp only [hd,cond_false]
    rfl
 unfold Qfv Qhg
 rw [Jjr h,Qab,Jj6 h,Qab,Jjq h3 (by omega) (by omega),Qab,Jbj h,Qab]
 have e1:Qhk fu r (Qzi (Qty r r.fP)) fu 0=some (bif !(r.fU.all λx=>Q13 x (Qxx r)) then 5 else bif r.fR.any (Q86 r.fJ) then 6 else 0):=by
  refine lp r.fU (λn (_:Unit) i=>Qhk fu r (Qzi (Qty r r.fP)) n i) (λl _=>some (bif !(l.all λx=>Q13 x (Qxx r)) then 5 else bif r.fR.any (Q86 r.fJ) then 6 else 0)) (by omega) ?_ ?_ fu () (by omega)
  · intro n s i x xs hx hd ih
    simp only [Qhk.eq_2]
    unfold Qpk
    simp only [hd,cond_true,hx,Qab,Jf7 hfu,ih (),List.all_cons]
    rw [show (Qzi (Qty r r.fP)).1=Qxx r from rfl]
    cases Q13 x (Qxx r) <;> rfl
  · intro n s i hd
    simp only [Qhk.eq_2]
    unfold Qpk
    simp only [hd,cond_false,e4]
    rfl
 rw [e1]
 cases Q4n r <;> cases Q84 r <;> cases Jco r.fT r.fG <;> rfl
theorem Jky {fu:Nat} {r:Request} (h:Sm fu r):Qsw fu r=some (Qhg r):=by
 have hfu:=h.fu
 have h1:=h.items
 have h2:=h.types
 have h3:=h.pairs
 unfold Qsw Qhg
 rw [Jfi h,Qab,Jjs h,Qab,Jla h,Qab,Jkm h3 (by omega) (by omega),Qab]
 rw [Qxr (λy=>Qpz fu y (Qzi (Qty r r.fP)).1) (λx=>!Q13 x (Qxx r)) (λx _=>by
  unfold Qpz
  rw [Jht,Qab]; rfl) h1 (by omega),Qab]
 rw [Q4c (λy=>Qqf fu y r.fJ) (Q86 r.fJ) (λx _=>by
  unfold Qqf Q86
  cases decide (x.fW>r.fJ.fW) <;> cases decide (x.fD>r.fJ.fD) <;> cases decide (x.fH>r.fJ.fH) <;> rfl) h2 (by omega),Qab]
 rw [show (r.fU.any λx=>!Q13 x (Qxx r))=!(r.fU.all λx=>Q13 x (Qxx r)) by simp [List.not_all_eq_any_not]]
 cases Q4n r <;> cases Q84 r <;> cases Jco r.fT r.fG <;> cases r.fU.all λx=>Q13 x (Qxx r) <;> cases r.fR.any (Q86 r.fJ) <;> rfl
theorem Qul {fu:Nat} {r:Request} (h:Sm fu r):Qfq fu r=some (Qhg r==0):=by
 unfold Qfq
 rw [Jky h]; rfl
theorem Jd9 {σ α β:Type} (l:List α) (L:Nat→σ→Int→Option β) (F:List α→List α→σ→Option β) (I:List α→List α→σ→Prop) (hl:l.length≤1099511627776)
    (hs:∀ n s pre x xs,l=pre++x::xs→ix l (pre.length:Int)=some x→decide ((pre.length:Int)<(l.length:Int))=true→I pre (x::xs) s→(∀ s',I (pre++[x]) xs s'→L n s' (w64 ((pre.length:Int)+1))=F (pre++[x]) xs s')→L (n+1) s (pre.length:Int)=F pre (x::xs) s)
    (he:∀ n s,decide ((l.length:Int)<(l.length:Int))=false→I l [] s→L (n+1) s (l.length:Int)=F l [] s):∀ n s,I [] l s→l.length<n→L n s 0=F [] l s:=by
 have key:∀ (xs pre:List α) (n:Nat) (s:σ),l=pre++xs→I pre xs s→xs.length<n→L n s (pre.length:Int)=F pre xs s:=by
  intro xs
  induction xs with
  | nil =>
   intro pre n s he' hI hn
   obtain ⟨n,rfl⟩:∃ k,n=k+1:=⟨n - 1,by omega⟩
   simp only [List.append_nil] at he'
   subst he'
   exact he n s (by simp) hI
  | cons x xs ih =>
   intro pre n s he' hI hn
   obtain ⟨n,rfl⟩:∃ k,n=k+1:=⟨n - 1,by simp at hn; omega⟩
   have hlen:l.length=pre.length+(xs.length+1):=by rw [he']; simp
   refine hs n s pre x xs he' ?_ (by simp; omega) hI λs' hI'=>?_
   · rw [Qi5,he']; simp
   · rw [Qy3 _ (by omega)]
     have:=ih (pre++[x]) n s' (by simp [he']) hI' (by simp at hn; omega)
     simpa using this
 intro n s hI hn
 simpa using key l [] n s rfl hI hn
theorem Q0n {x:Item} (h:Qyc x=true):1≤x.f0∧x.f0≤6:=by
 simp only [Qyc,Bool.and_eq_true,Qcu] at h
 omega
theorem Jeb {xs:List Item} (h:∀ x∈xs,Qyc x=true):0≤Qsr (xs.map (·.f0)):=Q0x _ _ λx hx=>by have:=Q0n (h x hx); omega
theorem Jkw {fu:Nat} {r:Request} (h:Sm fu r) (hb:Q4n r=true):Qdj fu r=some (l6M r):=by
 have hfu:=h.fu
 obtain ⟨hi,hs,hl⟩:=Qr7 hb
 have e4:∀ (k:List Int→Int→Option (List Int)) (i:Int) (x:Item),ix r.fU i=some x→∀ (m n:Nat) (c:Int) (out:List Int),0≤c→c≤x.f0→(x.f0 - c).toNat=m→x.f0≤6→m<n→out.length+m≤100 →
     Qhc fu k r i n out c=k (out++List.replicate m i) (w64 (i+1)):=by
  intro k i x hx m
  induction m with
  | zero =>
   intro n c out h0 h1 h2 h3 h4 h5
   obtain ⟨n,rfl⟩:∃ j,n=j+1:=⟨n - 1,by omega⟩
   rw [Qhc.eq_2]
   unfold Ql9
   rw [hx,Qab,Qaw (by simp; omega)]
   simp
  | succ m ih =>
   intro n c out h0 h1 h2 h3 h4 h5
   obtain ⟨n,rfl⟩:∃ j,n=j+1:=⟨n - 1,by omega⟩
   rw [Qhc.eq_2]
   unfold Ql9
   rw [hx,Qab,Qbj (by simp; omega),ap1 (by simp; omega),Qab,Qbe (by omega) (by omega),ih n (c+1) (out++[i]) (by omega) (by omega) (by omega) h3 (by omega) (by simp; omega)]
   rw [List.append_assoc,List.singleton_append,← List.replicate_succ]
 unfold Qdj l6M
 have:=Jd9 r.fU (λn out i=>Qet fu r n out i) (λpre xs out=>some (out++Q8s (pre.length:Int) xs)) (λpre xs out=>(out.length:Int)+Qsr (xs.map (·.f0))≤12∧∀ x∈xs,Qyc x=true) (by omega) ?_ ?_ fu [] ⟨by simpa using hs,hi⟩ (by omega)
 · simpa using this
 · intro n out pre x xs hl' hx hd hI ih
   simp only [Qet.eq_2]
   unfold Qmc
   have hc:=Q0n (hI.2 x (by simp))
   have hsum:=hI.1
   have hnn:=Jeb (λy hy=>hI.2 y (by simp [hy]):∀ y∈xs,Qyc y=true)
   simp only [List.map_cons,Qfy] at hsum
   have e:=e4 (Qet fu r n) (pre.length:Int) x hx x.f0.toNat fu 0 out (by omega) (by omega) (by omega) (by omega) (by omega) (by omega)
   rw [hd,cond_true,e,ih _ ⟨by simp; omega,λy hy=>hI.2 y (by simp [hy])⟩]
   simp [Q8s]
 · intro n out hd hI
   simp only [Qet.eq_2]
   unfold Qmc
   simp only [hd,cond_false]
   simp [Q8s]
theorem Jhr {fu:Nat} {r:Request} (h:Sm fu r) (hc:Qhg r=0):Qdj fu r=some (Qi4 r):=by
 unfold Qi4
 rw [Jkw h (Qez hc).1,Qbj (by simp [hc])]
theorem Jlb {fu:Nat} {r:Request} (h:Sm fu r):Qsx fu r=some (Qi4 r):=by
 unfold Qsx Qi4
 rw [Q3g h,Qab]
 by_cases hc:Qhg r=0
 · rw [Qaw (by simp [hc]),Jkw h (Qez hc).1,Qab,Qbj (by simp [hc])]
 · rw [Qbj (by simp [hc]),Qaw (by simp [hc])]
theorem Jl1 (fu:Nat) (c:Int) (h:1≤c∧c≤6):Qv2 fu (IntKind.wrap .u64 1) (IntKind.wrap .u64 c)=some (0,c):=by
 have:c=1∨c=2∨c=3∨c=4∨c=5∨c=6:=by omega
 rcases this with rfl | rfl | rfl | rfl | rfl | rfl <;> rfl
theorem Jkq (m:Nat) (i:Int):Qby (m+10) [i] (0,1)=some (List.replicate 1 i):=by kernel_rfl
theorem Jk0 (m:Nat) (i:Int):Qby (m+10) [i] (0,2)=some (List.replicate 2 i):=by kernel_rfl
theorem Jkg (m:Nat) (i:Int):Qby (m+10) [i] (0,3)=some (List.replicate 3 i):=by kernel_rfl
theorem Jld (m:Nat) (i:Int):Qby (m+10) [i] (0,4)=some (List.replicate 4 i):=by kernel_rfl
theorem Jjy (m:Nat) (i:Int):Qby (m+10) [i] (0,5)=some (List.replicate 5 i):=by kernel_rfl
theorem Jkv (m:Nat) (i:Int):Qby (m+10) [i] (0,6)=some (List.replicate 6 i):=by kernel_rfl
theorem Jl3 {fu:Nat} (hfu:10≤fu) (i c:Int) (h:1≤c∧c≤6):Qgg fu [i] c=some (List.replicate c.toNat i):=by
 unfold Qgg Qgy
 rw [Qaw (by simp; omega)]
 rw [show (([i]:List Int).length:Int)=1 from rfl,Jl1 fu c h,Qab,Qaw (by simp),Qaw (by simp; omega)]
 obtain ⟨m,rfl⟩:∃ m,fu=m+10:=⟨fu - 10,by omega⟩
 have:c=1∨c=2∨c=3∨c=4∨c=5∨c=6:=by omega
 rcases this with rfl | rfl | rfl | rfl | rfl | rfl
 · exact Jkq m i
 · exact Jk0 m i
 · exact Jkg m i
 · exact Jld m i
 · exact Jjy m i
 · exact Jkv m i
theorem Jcf {fu:Nat} {r:Request} (h:Sm fu r):Qix fu r=some (Qi4 r):=by
 have hfu:=h.fu
 unfold Qix Qi4
 rw [Qul h,Qab]
 by_cases hc:Qhg r=0
 · obtain ⟨hi,hs,hl⟩:=Qr7 (Qez hc).1
   rw [Qaw (by simp [hc]),Qbj (by simp [hc])]
   unfold l6M
   have:=Jd9 r.fU (λn out i=>Qik fu r n out i) (λpre xs out=>some (out++Q8s (pre.length:Int) xs)) (λpre xs out=>(out.length:Int)+Qsr (xs.map (·.f0))≤12∧∀ x∈xs,Qyc x=true) (by omega) ?_ ?_ fu [] ⟨by simpa using hs,hi⟩ (by omega)
   · simpa using this
   · intro n out pre x xs hl' hx hd hI ih
     simp only [Qik.eq_2]
     unfold Qo3
     have hc:=Q0n (hI.2 x (by simp))
     have hsum:=hI.1
     have hnn:=Jeb (λy hy=>hI.2 y (by simp [hy]):∀ y∈xs,Qyc y=true)
     simp only [List.map_cons,Qfy] at hsum
     rw [hd,cond_true,hx,Qab,Jl3 (by omega) _ _ hc,Qab,ap1 (by simp; omega),Qab,ih _ ⟨by simp; omega,λy hy=>hI.2 y (by simp [hy])⟩]
     simp [Q8s]
   · intro n out hd hI
     simp only [Qik.eq_2]
     unfold Qo3
     simp only [hd,cond_false]
     simp [Q8s]
 · rw [Qbj (by simp [hc]),Qaw (by simp [hc])]
theorem Jh9 {fu:Nat} {l:List Int} (hl:l.length≤1048576) (hf:l.length<fu) (x:Int):Qq8 fu l x=some (l.contains x):=by
 unfold Qq8
 refine lp l (λn (_:Unit) i=>Qig fu l x n i) (λl _=>some (l.contains x)) (by omega) ?_ ?_ fu () hf
 · intro n s i y ys hy hd ih
   simp only [Qig.eq_2]
   unfold Qph
   simp only [hd,cond_true,hy,Qab,ih (),List.contains_cons]
   rw [Jlf y x]
   cases x==y <;> rfl
 · intro n s i hd
   simp only [Qig.eq_2]
   unfold Qph
   simp only [hd,cond_false]
   rfl
theorem Jfn {fu:Nat} {l:List Int} (hl:l.length≤1048576) (hf:l.length<fu) (x:Int):Qc9 fu l x=some (l.contains x):=by
 unfold Qc9 Qim
 have:=Qt2 l (λn i=>Qda fu l x n i) (λy=>x==y) (by omega) (by
  intro n i y hx hd
  simp only [Qda.eq_2]
  unfold Qgi
  simp only [hd,cond_true,hx,Qab]) (by
  intro n i hd
  simp only [Qda.eq_2]
  unfold Qgi
  simp only [hd,cond_false]) fu hf
 rw [this,Qab,Qt0 _ l 0 (by omega),List.contains_eq_any_beq]
theorem Jhl {fu:Nat} {p:List Pair} (hp:p.length≤1048576) (hpf:p.length<fu) {g:List Int} (hl:g.length≤1048576) (hf:g.length<fu) (c:Int):Qp6 fu p g c=some (g.all (Qx5 p c)):=by
 unfold Qp6
 refine lp g (λn (_:Unit) i=>Qf2 fu p g c n i) (λl _=>some (l.all (Qx5 p c))) (by omega) ?_ ?_ fu () hf
 · intro n s i y ys hy hd ih
   simp only [Qf2.eq_2]
   unfold Qmk Qo2
   simp only [hd,cond_true,hy,Qab,ih (),Jhs hp hpf,List.all_cons,Qx5]
   cases Qt1 p y c <;> cases Qt1 p c y <;> rfl
 · intro n s i hd
   simp only [Qf2.eq_2]
   unfold Qmk
   simp only [hd,cond_false]
   rfl
theorem Jkc {fu:Nat} {r:Request} (h:Sm fu r):Qqa fu r=some (Q04 r):=by
 have hfu:=h.fu
 have h1:=h.items
 unfold Qqa Q04
 rw [Q3g h,Qab]
 by_cases hc:Qhg r=0
 · rw [show (Qhg r != 0)=false by simp [hc],show (Qhg r==0)=true by simp [hc],cond_false,cond_true]
   have e27:∀ (k:List Int→Int→Option (List Int)) (out:List Int) (c:Int),Qeq fu k r out c fu false 0=bif r.fU.any (λx=>x.fL==c) then (Qac (Qg8 8 out [c]) λx=>k x (w64 (c+1))) else k out (w64 (c+1)):=by
    intro k out c
    refine lp r.fU (λn f i=>Qeq fu k r out c n f i) (λl f=>bif f||l.any (λx=>x.fL==c) then (Qac (Qg8 8 out [c]) λx=>k x (w64 (c+1))) else k out (w64 (c+1))) (by omega) ?_ ?_ fu false (by omega)
    · intro n f i x xs hx hd ih
      simp only [Qeq.eq_2]
      unfold Qmn Qkr
      simp only [hd,cond_true,hx,Qab,ih,List.any_cons]
      cases f
      · rfl
      · rfl
    · intro n f i hd
      simp only [Qeq.eq_2]
      unfold Qmn Qko
      simp only [hd,cond_false,List.any_nil,Bool.or_false]
   have:=Q81 4 (λn out i=>Qdy fu r n out i) (λxs out=>some (out++xs.filter λc=>r.fU.any λx=>x.fL==c)) (λxs out=>out.length+xs.length≤4) (by omega) ?_ ?_ 4 fu [] 0 (by omega) (by omega) (by omega) (by simp [Qf5])
   · simpa using this
   · intro n out i xs h0 h1 hd hI ih
     simp only [List.length_cons] at hI
     simp only [Qdy.eq_2]
     unfold Ql6
     simp only [hd,cond_true,e27]
     cases hb:r.fU.any λx=>x.fL==i
     · rw [cond_false,ih out (by omega)]
       simp [hb]
     · rw [cond_true,ap1 (by simp; omega),Qab,ih _ (by simp; omega)]
       simp [hb]
   · intro n out i hd hI
     simp only [Qdy.eq_2]
     unfold Ql6
     simp only [hd,cond_false]
     simp
 · rw [show (Qhg r != 0)=true by simp [hc],show (Qhg r==0)=false by simp [hc],cond_false,cond_true]
theorem Q97 {fu:Nat} {l:List Int} (hl:l.length≤1048576):∃ k,Qk0 fu l=some k∧k.Pairwise (·<·)∧∀ x,x∈k↔x∈l:=by
 unfold Qk0 Qdc Qcl Qkn
 have hp:=List.mergeSort_perm l (λx y=>decide (x≤y))
 have hs:=Qq7 l
 rw [ap1 (by simp; omega),Qab,Qab,List.nil_append]
 unfold Q3p
 rw [if_pos (by omega),Qab]
 unfold Jjj
 rw [if_pos (by rw [hp.length_eq]; omega),Qab]
 obtain ⟨h1,h2⟩:=Q1k _ hs
 exact ⟨_,rfl,h1,λx=>(h2 x).trans hp.mem_iff⟩
theorem Q2i {fu:Nat} {l:List Int} (hl:l.length≤1048576) (hs:l.Pairwise (·<·)):Qk0 fu l=some l:=by
 obtain ⟨k,h1,h2,h3⟩:=Q97 (fu:=fu) hl
 rw [h1,Q9m h2 hs h3]
theorem Jkz {fu:Nat} {r:Request} (h:Sm fu r):Qqm fu r=some (Q04 r):=by
 have hfu:=h.fu
 have h1:=h.items
 unfold Qqm
 rw [Qul h,Qab]
 by_cases hc:Qhg r=0
 · rw [show (Qhg r==0)=true by simp [hc],Bool.not_true,cond_false]
   have:=lpI r.fU (λn out i=>Qg4 fu r n out i) (λxs out=>Qac (Qk0 fu (out++xs.map (·.fL))) λx=>some x) (λxs out=>out.length+xs.length≤1048576) (by omega) ?_ ?_ fu [] (by simpa using h1) (by omega)
   · rw [List.nil_append] at this
     refine this.trans ?_
     obtain ⟨k,e1,e2,e3⟩:=Q97 (fu:=fu) (l:=r.fU.map (·.fL)) (by simpa using h1)
     rw [e1,Qab]
     congr 1
     refine Q9m e2 (Quw r) λx=>?_
     rw [e3]
     unfold Q04
     rw [show (Qhg r==0)=true by simp [hc],cond_true,List.mem_filter,Qc6,List.any_eq_true,List.mem_map]
     constructor
     · rintro ⟨y,hy,rfl⟩
       have:=(Qr7 (Qez hc).1).1 y hy
       simp only [Qyc,Bool.and_eq_true,Qcu] at this
       exact ⟨by omega,y,hy,by simp⟩
     · rintro ⟨_,y,hy,e⟩
       exact ⟨y,hy,by simpa using e⟩
   · intro n out i x xs hx hd hI ih
     simp only [List.length_cons] at hI
     simp only [Qg4.eq_2]
     unfold Qmh
     simp only [hd,cond_true,hx,Qab]
     rw [ap1 (by simp; omega),Qab,ih _ (by simp; omega)]
     simp
   · intro n out i hd hI
     simp only [Qg4.eq_2]
     unfold Qmh
     simp only [hd,cond_false]
     simp
 · rw [show (Qhg r==0)=false by simp [hc],Bool.not_false,cond_true]
   unfold Q04
   rw [show (Qhg r==0)=false by simp [hc],cond_false]
theorem Q5o {α:Type} (g:α→Bool) (x:α):∀ (l:List α),Qw6 g (l++[x])=match Qw6 g l with | some i=>some i | none=>bif g x then some l.length else none
 | []=>by simp [Qw6]
 | y::ys=>by
  simp only [List.cons_append,Qw6]
  cases g y
  · simp only [cond_false]
    rw [Q5o g x ys]
    cases Qw6 g ys <;> simp
    cases g x <;> simp
  · rfl
def atB {α:Type} (g:α→Bool) (l:List α) (i:Int):Bool:=match ix l i with | some x=>g x | none=>false
def Je8 {α:Type} (g:α→Bool) (l:List α) (a i:Int):Int:=bif atB g l i then i else a
theorem Q1d {α:Type} (g:α→Bool) (l:List α):∀ (m:Nat) (a:Int),m≤l.length→(Qwf m).foldl (Je8 g l) a=match Qw6 g (l.take m) with | some i=>(i:Int) | none=>a
 | 0,a,_=>by simp [Qwf,Qw6]
 | m+1,a,h=>by
  simp only [Qwf,List.foldl_cons]
  rw [Q1d g l m _ (by omega),List.take_succ_eq_append_getElem (by omega),Q5o,List.length_take,Nat.min_eq_left (by omega)]
  unfold Je8 atB
  rw [Qzs (by omega)]
  cases Qw6 g (l.take m) with
  | some i=>rfl
  | none =>
   simp only
   cases g l[m] <;> rfl
theorem Q31 {α:Type} (g:α→Bool):∀ (l:List α) (i:Int),Qyk g l i=match Qw6 g l with | some j=>i+j | none=>-1
 | [],i=>rfl
 | x::xs,i=>by
  simp only [Qyk,Qw6]
  cases g x
  · simp only [cond_false]
    rw [Q31 g xs (i+1)]
    cases Qw6 g xs with
    | none=>rfl
    | some j =>
     show i+1+(j:Int)=i+((j+1:Nat):Int)
     omega
  · simp
theorem Jfc {p:List Pair} {out:List (List Int)} {c:Int} {n:Nat} (h:okG n out) (hn:n≤1048576) {β:Type} (k:List (List Int)→Option β) (a:Int) (ha:a=match Qw6 (λg=>g.all (Qx5 p c)) out with | some i=>(i:Int) | none=>-1) :
    (bif (decide (a<0)) then Qac (Qg8 24 out [([c]:List Int)]) λx=>k x else Qac (ix out a) λx=>Qac (Qg8 8 x (([c]:List Int))) λy=>Qac (ix out a) λz=>k (Qg2 out a y))=k (Q50 p out c):=by
 obtain ⟨h1,h2⟩:=h
 unfold Q50
 cases hf:Qw6 (λg=>g.all (Qx5 p c)) out with
 | none =>
  rw [hf] at ha
  simp only at ha
  subst ha
  rw [Qbj (by simp),ap1 (by simp; omega),Qab]
 | some i =>
  rw [hf] at ha
  simp only at ha
  subst ha
  obtain ⟨x,hx,_⟩:=Qum hf
  have:=h2 x (List.mem_of_getElem? hx)
  rw [Qaw (by simp),Qi5,hx,Qab,ap1 (by simp; omega),Qab,Qab]
  simp [Qg2,hx]
theorem Jit {fu:Nat} {p:List Pair} (hp:p.length≤1048576) (hfu:2097153≤fu) {l:List Int} (hl:l.length≤1048576):Qsc fu p l=some (((Qf5 0 4).filter l.contains).foldl (Q50 p) []):=by
 unfold Qsc
 have e27:∀ (k:List (List Int)→Int→Option (List (List Int))) (out:List (List Int)) (c:Int),okG 4 out→Qfc fu k p out c fu (-1) (w64 ((out.length:Int) - 1))=k (Q50 p out c) (w64 (c+1)):=by
  intro k out c ho
  obtain ⟨R,hR⟩:∃ R:Int→Option (List (List Int)),R=λa=>bif (decide (a<0)) then Qac (Qg8 24 out [([c]:List Int)]) λx=>k x (w64 (c+1)) else Qac (ix out a) λx=>Qac (Qg8 8 x (([c]:List Int))) λy=>Qac (ix out a) λz=>k (Qg2 out a y) (w64 (c+1)):=⟨_,rfl⟩
  have:=lpD out.length (λn a i=>Qfc fu k p out c n a i) (λxs a=>R (xs.foldl (Je8 (λg=>g.all (Qx5 p c)) out) a)) (by have:=ho.1; omega) ?_ ?_ fu (-1) (by have:=ho.1; omega)
  · rw [this,hR]
    refine Jfc (p:=p) ho (by omega) (λx=>k x (w64 (c+1))) _ ?_
    rw [Q1d (λg=>g.all (Qx5 p c)) out out.length (-1) (Nat.le_refl _),List.take_length]
  · intro n a i xs h0 h1 hd ih
    simp only [Qfc.eq_2]
    unfold Qn0 Qmv
    obtain ⟨j,rfl⟩:∃ j:Nat,i=j:=⟨i.toNat,by omega⟩
    have hj:j<out.length:=by omega
    have hg:=ho.2 _ (List.getElem_mem hj)
    simp only [hd,cond_true,Qzs hj,Qab,Jhl hp (by omega) (show out[j].length≤1048576 by omega) (show out[j].length<fu by omega),ih,List.foldl_cons]
    have e:Je8 (λg=>g.all (Qx5 p c)) out a (j:Int)=bif out[j].all (Qx5 p c) then (j:Int) else a:=by unfold Je8 atB; rw [Qzs hj]
    rw [e]
    cases out[j].all (Qx5 p c) <;> rfl
  · intro n a i hd
    simp only [Qfc.eq_2]
    unfold Qn0 Qhy
    simp only [hd,cond_false,List.foldl_nil,hR]
 have:=Q81 4 (λn out i=>Qem fu p l n out i) (λxs out=>some ((xs.filter l.contains).foldl (Q50 p) out)) (λxs out=>∃ m,m+xs.length≤4∧okG m out) (by omega) ?_ ?_ 4 fu [] 0 (by omega) (by omega) (by omega) ⟨0,by simp [Qf5],by simp,by simp⟩
 · exact this
 · intro n out i xs h0 h1 hd hI ih
   obtain ⟨m,hm,ho⟩:=hI
   simp only [List.length_cons] at hm
   simp only [Qem.eq_2]
   unfold Qn1 Qhy
   simp only [hd,cond_true,Jh9 hl (show l.length<fu by omega),Qab]
   cases hb:l.contains i
   · rw [Bool.not_false,cond_true,ih out ⟨m,by omega,ho⟩,List.filter_cons_of_neg (by rw [hb]; simp)]
   · rw [Bool.not_true,cond_false,e27 _ out i ⟨by have:=ho.1; omega,λg hg=>by have:=ho.2 g hg; omega⟩,ih _ ⟨m+1,by omega,Q53 i ho⟩,List.filter_cons_of_pos hb,List.foldl_cons]
 · intro n out i hd hI
   simp only [Qem.eq_2]
   unfold Qn1
   simp only [hd,cond_false]
   simp
theorem Q8t (r:Request):(Qf5 0 4).filter (Q04 r).contains=Q04 r :=
 Q9m ((Qup 0 4).filter _) (Quw r) λx=>by
  rw [List.mem_filter,Qc6]
  constructor
  · rintro ⟨_,h⟩; simpa using h
  · intro h; have:=Q7z h; exact ⟨by omega,by simpa using h⟩
theorem Jfu {fu:Nat} {r:Request} (h:Sm fu r):Qii fu r=some (Qhs r):=by
 unfold Qii Qhs
 rw [Jkc h,Qab,Jit h.pairs h.fu (by have:=Q21 r; omega),Qab,Q8t]
theorem Jk1 {fu:Nat} {p:List Pair} (hp:p.length≤1048576) (hpf:p.length<fu) (a b:Int):Qrq fu p a b=some (Qx5 p a b):=by
 unfold Qrq Qx5
 simp only [Jfv hp hpf,Qab]
 cases Qt1 p a b <;> rfl
theorem Q7h {fu:Nat} {l:List Int} (f:Int→Option Bool) (g:Int→Bool) (hg:∀ x∈l,f x=some (g x)) (hl:l.length≤1048576) (hf:l.length<fu):Qdq fu l f=some (Qyk g l 0):=by
 unfold Qdq
 refine Qt2 l (λn i=>Qcg fu l f n i) g (by omega) ?_ ?_ fu hf
 · intro n i x hx hd
   simp only [Qcg.eq_2]
   unfold Qeo
   simp only [hd,cond_true,hx,Qab,hg x (Qgb hx)]
 · intro n i hd
   simp only [Qcg.eq_2]
   unfold Qeo
   simp only [hd,cond_false]
theorem Q7m {fu:Nat} {l:List Int} (f:Int→Option Bool) (g:Int→Bool) (hg:∀ x∈l,f x=some (g x)) (hl:l.length≤1048576) (hf:l.length<fu):Qcz fu l f=some (l.any g):=by
 unfold Qcz
 rw [Q7h f g hg hl hf,Qab,Qt0 g l 0 (by omega)]
theorem Q4t {fu:Nat} {l:List (List Int)} (f:List Int→Option Bool) (g:List Int→Bool) (hg:∀ x∈l,f x=some (g x)) (hl:l.length≤1048576) (hf:l.length<fu):Qdg fu l f=some (Qyk g l 0):=by
 unfold Qdg
 refine Qt2 l (λn i=>Qb5 fu l f n i) g (by omega) ?_ ?_ fu hf
 · intro n i x hx hd
   simp only [Qb5.eq_2]
   unfold Qei
   simp only [hd,cond_true,hx,Qab,hg x (Qgb hx)]
 · intro n i hd
   simp only [Qb5.eq_2]
   unfold Qei
   simp only [hd,cond_false]
theorem Ji7 {fu:Nat} {p:List Pair} (hp:p.length≤1048576) (hfu:2097153≤fu) {l:List Int} (hl:l.length≤4) (hs:l.Pairwise (·<·)) (hm:∀ c∈l,0≤c∧c<4):Qrk fu p l=some (l.foldl (Q50 p) []):=by
 unfold Qrk
 rw [Q2i (by omega) hs,Qab]
 have:=lpI l (λn out i=>Qfa fu p l n out i) (λxs out=>some (xs.foldl (Q50 p) out)) (λxs out=>(∃ m,m+xs.length≤4∧okG m out)∧∀ c∈xs,0≤c∧c<4) (by omega) ?_ ?_ fu [] ⟨⟨0,by simpa using hl,by simp,by simp⟩,hm⟩ (by omega)
 · exact this
 · intro n out i c xs hx hd hI ih
   obtain ⟨⟨m,hm,ho⟩,hc⟩:=hI
   simp only [List.length_cons] at hm
   have hc0:=hc c (by simp)
   simp only [Qfa.eq_2]
   unfold Qn2 Qiw
   simp only [hd,cond_true,hx,Qab,Q5d]
   rw [show inb c 0 3=true by simp; omega,Bool.not_true,cond_false]
   rw [Q4t (λy=>Qod fu y p c) (λg=>g.all (Qx5 p c)) (λg hg=>by
    have hgl:=ho.2 g hg
    unfold Qod
    rw [Q7m (λy=>Qj8 fu y p c) (λx=>!Qx5 p c x) (λx _=>by
     unfold Qj8
     rw [Jk1 hp (by omega),Qab]) (by omega) (by omega),Qab]
    simp [List.any_eq_not_all_not]) (by have:=ho.1; omega) (by have:=ho.1; omega),Qab]
   rw [Jfc (p:=p) ho (by omega) (λx=>Qfa fu p l n x (w64 (i+1))) (Qyk (λg=>g.all (Qx5 p c)) out 0) (by
    rw [Q31]
    cases Qw6 (λg=>g.all (Qx5 p c)) out <;> simp)]
   rw [ih _ ⟨⟨m+1,by omega,Q53 c ho⟩,λy hy=>hc y (by simp [hy])⟩]
   rfl
 · intro n out i hd hI
   simp only [Qfa.eq_2]
   unfold Qn2
   simp only [hd,cond_false]
   rfl
theorem Jc5 {fu:Nat} {r:Request} (h:Sm fu r):Qhq fu r=some (Qhs r):=by
 unfold Qhq
 rw [Qul h,Qab]
 by_cases hc:Qhg r=0
 · rw [show (Qhg r==0)=true by simp [hc],Bool.not_true,cond_false,Jkz h,Qab,Ji7 h.pairs h.fu (Q21 r) (Quw r) (λc hc=>Q7z hc),Qab]
   rfl
 · rw [show (Qhg r==0)=false by simp [hc],Bool.not_false,cond_true]
   unfold Qhs Q04
   rw [show (Qhg r==0)=false by simp [hc],cond_false]
   rfl
theorem Jch (r:Request):w64 (((Qhs r).length:Int) - 1)=((Qhs r).length:Int) - 1:=by
 have:=(Qt7 r).1
 exact Qbe (by omega) (by omega)
theorem Q4i {fu:Nat} (n:Nat) (hn:n≤1048576) (hf:n<fu):Qlr fu (n:Int)=some (Qf5 0 n):=by
 unfold Qlr
 have:=Q81 (n:Int) (λk out i=>Qhx fu (n:Int) k out i) (λxs out=>some (out++xs)) (λxs out=>out.length+xs.length≤1048576) (by omega) ?_ ?_ n fu [] 0 (by omega) (by omega) hf (by simpa [Qcq] using hn)
 · simpa using this
 · intro k out i xs h0 h1 hd hI ih
   simp only [List.length_cons] at hI
   simp only [Qhx.eq_2]
   unfold Qnm
   rw [hd,cond_true,ap1 (by simp; omega),Qab,ih _ (by simp; omega)]
   simp
 · intro k out i hd hI
   simp only [Qhx.eq_2]
   unfold Qnm
   simp only [hd,cond_false]
   simp
theorem Jcb {α:Type} (g:α→Bool):∀ (l pre:List α),(Qyk g l pre.length=-1∧∀ x∈l,g x=false)∨(∃ a x b,l=a++x::b∧(∀ y∈a,g y=false)∧g x=true∧Qyk g l pre.length=((pre.length+a.length:Nat):Int))
 | [],pre=>.inl ⟨rfl,by simp⟩
 | x::xs,pre=>by
  simp only [Qyk]
  by_cases hx:g x=true
  · rw [hx,cond_true]; exact .inr ⟨[],x,xs,rfl,by simp,hx,by simp⟩
  · have hx':g x=false:=by simpa using hx
    rw [hx',cond_false]
    have:=Jcb g xs (pre++[x])
    simp only [List.length_append,List.length_singleton] at this
    rw [show ((pre.length+1:Nat):Int)=(pre.length:Int)+1 by omega] at this
    rcases this with ⟨h1,h2⟩ | ⟨a,y,b,h1,h2,h3,h4⟩
    · exact .inl ⟨h1,by simpa [hx'] using h2⟩
    · exact .inr ⟨x::a,y,b,by simp [h1],by simpa [hx'] using h2,h3,by rw [h4]; simp; omega⟩
theorem Jh6 {fu:Nat} {l:List Int} (f:Int→Option Bool) (g:Int→Bool) (hg:∀ x∈l,f x=some (g x)) (hl:l.length≤1048576) (hf:l.length<fu):Qdf fu l f=some (l.filter λx=>!g x):=by
 unfold Qdf
 rw [Q7h f g hg hl hf,Qab]
 have hp:=Jcb g l []
 simp only [List.length_nil,Nat.zero_add] at hp
 rcases hp with ⟨h1,h2⟩ | ⟨a,x,b,h1,h2,h3,h4⟩
 · have h1':Qyk g l 0=-1:=h1
   rw [h1',Qbj (by simp)]
   congr 1
   exact (List.filter_eq_self.2 λy hy=>by simp [h2 y hy]).symm
 · have h4':Qyk g l 0=(a.length:Int):=h4
   rw [h4',Qaw (by simp)]
   have key:∀ (rest kept mid pre:List Int) (n:Nat),l=pre++rest→kept=pre.filter (λx=>!g x)→mid≠[]→kept.length+mid.length=pre.length→rest.length<n →
       Qbp fu f n (kept++mid++rest) (kept.length:Int) (pre.length:Int)=some (l.filter λx=>!g x):=by
    intro rest
    induction rest with
    | nil =>
     intro kept mid pre n e1 e2 e3 e4 hn
     obtain ⟨n,rfl⟩:∃ j,n=j+1:=⟨n - 1,by omega⟩
     rw [Qbp.eq_2]
     unfold Qeh
     simp only [List.append_nil] at *
     subst e1
     rw [Qaw (by simp; omega),Quz ⟨by omega,by simp; omega,by omega⟩,Qab,Quz ⟨by omega,by omega,by simp [Q5x]; omega⟩,Qab]
     rw [← e2]
     simp [Q5x]
    | cons y rest ih =>
     intro kept mid pre n e1 e2 e3 e4 hn
     obtain ⟨n,rfl⟩:∃ j,n=j+1:=⟨n - 1,by simp at hn; omega⟩
     have hlen:l.length=pre.length+(rest.length+1):=by rw [e1]; simp
     have hyl:y∈l:=by rw [e1]; simp
     obtain ⟨m,ms,rfl⟩:∃ m ms,mid=m::ms:=by
      cases mid with
      | nil=>exact absurd rfl e3
      | cons m ms=>exact ⟨m,ms,rfl⟩
     simp only [List.length_cons] at e4 hn
     have hx:ix (kept++(m::ms)++y::rest) (pre.length:Int)=some y:=by
      rw [Qi5,List.getElem?_append_right (by simp; omega)]
      simp only [List.length_append,List.length_cons]
      rw [show pre.length - (kept.length+(ms.length+1))=0 by omega]; rfl
     have hk:ix (kept++(m::ms)++y::rest) (kept.length:Int)=some m:=by
      rw [Qi5]; simp
     rw [Qbp.eq_2]
     unfold Qeh Qdo
     rw [Qbj (by simp; omega),hx,Qab,hg y hyl,Qab]
     cases hgy:g y
     · rw [Bool.not_false,cond_true,hk,Qab,Qy3 _ (by omega),Qy3 _ (by omega)]
       have e5:Qg2 (kept++(m::ms)++y::rest) (kept.length:Int) y=(kept++[y])++(ms++[y])++rest:=by simp [Qg2]
       rw [e5]
       have:=ih (kept++[y]) (ms++[y]) (pre++[y]) n (by simp [e1]) (by rw [e2,List.filter_append]; simp [hgy]) (by simp) (by simp; omega) (by omega)
       simp only [List.length_append,List.length_singleton] at this
       exact this
     · rw [Bool.not_true,cond_false,Qy3 _ (by omega)]
       have:=ih kept ((m::ms)++[y]) (pre++[y]) n (by simp [e1]) (by rw [e2,List.filter_append]; simp [hgy]) (by simp) (by simp; omega) (by omega)
       simp only [List.length_append,List.length_singleton] at this
       rw [show kept++(m::ms)++y::rest=kept++((m::ms)++[y])++rest by simp]
       exact this
   have hlen:l.length=a.length+(b.length+1):=by rw [h1]; simp
   have ha:a.filter (λx=>!g x)=a:=List.filter_eq_self.2 λy hy=>by simp [h2 y hy]
   have:=key b a [x] (a++[x]) fu (by simp [h1]) (by rw [List.filter_append,ha]; simp [h3]) (by simp) (by simp) (by omega)
   rw [Qy3 _ (by omega)]
   simp only [List.length_append,List.length_singleton] at this
   rw [show a++[x]++b=l by simp [h1]] at this
   exact this
def dnk (keys:List Int) (p:Int):Int:=- kf keys p
theorem Jec {fu:Nat} {keys:List Int} (hfu:2097153≤fu) (hl:keys.length≤1048576):Qhp fu keys=some (srt (dnk keys) keys.length):=by
 unfold Qhp Qp7
 rw [Q6z keys.length hl (by omega),Qab]
 obtain ⟨m,rfl⟩:∃ m,fu=m+1:=⟨fu - 1,by omega⟩
 rw [Q62 true hfu m _ (by rw [Qcq]; omega) (by rw [Qcq]; omega) (λp hp=>by have:=Qc6.1 hp; omega),Qab]
 congr 1
 have e:dk keys true=dnk keys:=rfl
 rw [e]
 exact Q3d (Qth _ _ _) (Quf _ _ _ (by rw [Qcq]; omega) (Qup _ _))
def Q1j (k:Int→Int) (x:Int):List Int→List Int→List Int
 | [],mid=>x::mid
 | y::ys,mid=>if k x<k y then Q1j k x ys (y::mid) else (y::ys).reverse++x::mid
theorem Q03 (k:Int→Int) (x:Int):∀ (ys mid:List Int),(Q1j k x ys mid).Perm (ys.reverse++x::mid)
 | [],mid=>List.Perm.refl _
 | y::ys,mid=>by
  unfold Q1j
  split
  · refine (Q03 k x ys (y::mid)).trans ?_
    rw [List.reverse_cons,List.append_assoc]
    refine List.Perm.append_left _ ?_
    exact List.Perm.swap _ _ _
  · exact List.Perm.refl _
theorem Q05 (k:Int→Int) (x:Int):∀ (ys mid:List Int),(ys.reverse++mid).Pairwise (lx k)→(∀ m∈mid,lx k x m)→(∀ p∈ys,p<x)→(Q1j k x ys mid).Pairwise (lx k)
 | [],mid,h,hm,_=>by
  unfold Q1j
  exact List.pairwise_cons.2 ⟨hm,by simpa using h⟩
 | y::ys,mid,h,hm,hy=>by
  unfold Q1j
  rw [List.reverse_cons,List.append_assoc] at h
  split
  · rename_i hk
    refine Q05 k x ys (y::mid) (by simpa using h) ?_ (λp hp=>hy p (by simp [hp]))
    intro m hmm
    rcases List.mem_cons.1 hmm with rfl | hmm
    · exact .inl hk
    · exact hm m hmm
  · rename_i hk
    have hyx:lx k y x:=by
     have:=hy y (by simp)
     by_cases he:k y<k x
     · exact .inl he
     · exact .inr ⟨by omega,this⟩
    rw [List.reverse_cons,List.append_assoc]
    obtain ⟨h1,h2,h3⟩:=List.pairwise_append.1 h
    simp only [List.singleton_append] at h2 h3
    refine List.pairwise_append.2 ⟨h1,?_,?_⟩
    · simp only [List.singleton_append]
      obtain ⟨h4,h5⟩:=List.pairwise_cons.1 h2
      refine List.pairwise_cons.2 ⟨?_,List.pairwise_cons.2 ⟨hm,h5⟩⟩
      intro m hmm
      rcases List.mem_cons.1 hmm with rfl | hmm
      · exact hyx
      · exact h4 m hmm
    · intro a ha b hb
      simp only [List.singleton_append,List.mem_cons] at hb
      have hay:=h3 a ha y (by simp)
      rcases hb with rfl | rfl | hb
      · exact hay
      · exact Jcz hay hyx
      · exact h3 a ha b (by simp [hb])
theorem Q7y (k:Int→Int) (x:Int):∀ (ys mid rest:List Int),Q1j k x ys (mid++rest)=Q1j k x ys mid++rest
 | [],mid,rest=>rfl
 | y::ys,mid,rest=>by
  unfold Q1j
  split
  · exact Q7y k x ys (y::mid) rest
  · simp
theorem Jj2 {A:List Int} {y:Int} {B:List Int} {n:Nat} (h:A.length=n):ix (A++y::B) (n:Int)=some y:=by subst h; rw [Qi5]; simp
theorem Jej {A:List Int} {y z:Int} {B:List Int} {n:Nat} (h:A.length=n):Qg2 (A++y::B) (n:Int) z=A++z::B:=by subst h; simp [Qg2]
theorem Q60 {fu:Nat} {f:Int→Int→Option Int} {k:Int→Int} (K9:List Int→Int→Option (List Int)) (i0:Int) (hf:∀ a b c,f a b=some c→(c<0↔k a<k b)) (x:Int) :
    ∀ (ys mid:List Int) (n:Nat),(∀ p∈ys,∃ c,f x p=some c)→ys.length<n→ys.length≤1048576→Qbc fu K9 0 f i0 n (ys.reverse++x::mid) (ys.length:Int)=K9 (Q1j k x ys mid) (w64 (i0+1))
 | [],mid,n,_,hn,_=>by
  obtain ⟨n,rfl⟩:∃ j,n=j+1:=⟨n - 1,by omega⟩
  rw [Qbc.eq_2]
  unfold Qdb Q1j
  rw [Qaw (by simp)]; rfl
 | y::ys,mid,n,hy,hn,hl=>by
  simp only [List.length_cons] at hn hl
  obtain ⟨n,rfl⟩:∃ j,n=j+1:=⟨n - 1,by omega⟩
  obtain ⟨c,hc⟩:=hy y (by simp)
  have hw:w64 (((y::ys).length:Int) - 1)=(ys.length:Int):=by simp only [List.length_cons]; rw [Qbe (by omega) (by omega)]; omega
  have e0:(y::ys).reverse++x::mid=ys.reverse++y::x::mid:=by simp
  have e1:ix ((y::ys).reverse++x::mid) ((y::ys).length:Int)=some x:=Jj2 (by simp)
  have e2:ix ((y::ys).reverse++x::mid) (ys.length:Int)=some y:=by rw [e0]; exact Jj2 (by simp)
  rw [Qbc.eq_2]
  unfold Qdb Q1j
  rw [Qbj (by simp),e1,Qab,hw,e2,Qab,hc,Qab]
  by_cases hk:k x<k y
  · rw [if_pos hk,decide_eq_true ((hf _ _ _ hc).2 hk),cond_true]
    unfold Qdl
    have e3:Qg2 ((y::ys).reverse++x::mid) ((y::ys).length:Int) y=(y::ys).reverse++y::mid:=Jej (by simp)
    have e4:ix ((y::ys).reverse++y::mid) (ys.length:Int)=some y:=by rw [show (y::ys).reverse++y::mid=ys.reverse++y::y::mid by simp]; exact Jj2 (by simp)
    have e5:Qg2 ((y::ys).reverse++y::mid) (ys.length:Int) x=ys.reverse++x::y::mid:=by rw [show (y::ys).reverse++y::mid=ys.reverse++y::y::mid by simp]; exact Jej (by simp)
    rw [hw,e2,Qab,e1,Qab,Qab,e3,e4,Qab,e5]
    exact Q60 K9 i0 hf x ys (y::mid) n (λp hp=>hy p (by simp [hp])) (by omega) (by omega)
  · rw [if_neg hk,decide_eq_false (λh=>hk ((hf _ _ _ hc).1 h)),cond_false]
def Jgq (k:Int→Int):List Int→List Int→List Int
 | P,[]=>P
 | P,x::xs=>Jgq k (Q1j k x P.reverse []) xs
theorem Q5s (k:Int→Int):∀ (xs P:List Int),P.Pairwise (lx k)→(∀ p∈P,∀ x∈xs,p<x)→xs.Pairwise (·<·)→(Jgq k P xs).Perm (P++xs)∧(Jgq k P xs).Pairwise (lx k)
 | [],P,h,_,_=>by simpa [Jgq] using h
 | x::xs,P,h,hp,hx=>by
  obtain ⟨h1,h2⟩:=List.pairwise_cons.1 hx
  have hs:(Q1j k x P.reverse []).Pairwise (lx k):=Q05 k x P.reverse [] (by simpa using h) (by simp) (λp hp'=>hp p (by simpa using hp') x (by simp))
  have hpm:(Q1j k x P.reverse []).Perm (P++[x]):=by simpa using Q03 k x P.reverse []
  have ih:=Q5s k xs (Q1j k x P.reverse []) hs (λp hp' y hy=>by
   rcases List.mem_append.1 (hpm.mem_iff.1 hp') with h' | h'
   · exact hp p h' y (by simp [hy])
   · rw [List.mem_singleton.1 h']; exact h1 y hy) h2
  refine ⟨?_,ih.2⟩
  unfold Jgq
  refine ih.1.trans ?_
  refine (hpm.append_right xs).trans ?_
  simp
theorem Jaa {fu:Nat} {f:Int→Int→Option Int} {k:Int→Int} (hfu:2097153≤fu) (hf:∀ a b c,f a b=some c→(c<0↔k a<k b)) {n:Nat} (hn:n≤1048576) (hin:∀ a b:Int,0≤a→a<n→0≤b→b<n→∃ c,f a b=some c) :
    ∀ (xs P:List Int) (m:Nat),xs.length<m→P.length+xs.length=n→(∀ p∈P++xs,0≤p∧p<n)→Qao fu 0 (n:Int) f m (P++xs) (P.length:Int)=some (Jgq k P xs)
 | [],P,m,hm,hl,_=>by
  obtain ⟨m,rfl⟩:∃ j,m=j+1:=⟨m - 1,by omega⟩
  simp only [List.length_nil] at hl
  rw [Qao.eq_2]
  unfold Qb8
  rw [Qaw (by simp; omega)]; simp [Jgq]
 | x::xs,P,m,hm,hl,hp=>by
  simp only [List.length_cons] at hl hm
  obtain ⟨m,rfl⟩:∃ j,m=j+1:=⟨m - 1,by omega⟩
  rw [Qao.eq_2]
  unfold Qb8
  rw [Qbj (by simp; omega)]
  have key:=Q60 (fu:=fu) (f:=f) (k:=k) (Qao fu 0 (n:Int) f m) (P.length:Int) hf x P.reverse xs fu (λp hp'=>by
   have h1:=hp p (by simp at hp'; simp [hp'])
   have h2:=hp x (by simp)
   exact hin x p h2.1 h2.2 h1.1 h1.2) (by simp; omega) (by simp; omega)
  rw [List.reverse_reverse,List.length_reverse] at key
  rw [key,Qy3 _ (by omega)]
  have e:Q1j k x P.reverse xs=Q1j k x P.reverse []++xs:=by
   have:=Q7y k x P.reverse [] xs
   simpa using this
  have hpm:(Q1j k x P.reverse []).Perm (P++[x]):=by simpa using Q03 k x P.reverse []
  have hlen:(Q1j k x P.reverse []).length=P.length+1:=by rw [hpm.length_eq]; simp
  rw [e]
  have ih:=Jaa hfu hf hn hin xs (Q1j k x P.reverse []) m (by omega) (by omega) (λp hp'=>by
   rcases List.mem_append.1 hp' with h' | h'
   · rcases List.mem_append.1 (hpm.mem_iff.1 h') with h'' | h''
     · exact hp p (by simp [h''])
     · exact hp p (by rw [List.mem_singleton.1 h'']; simp)
   · exact hp p (by simp [h']))
  rw [hlen] at ih
  rw [ih]; rfl
theorem Jkk (fu:Nat) (a b:Int):∃ c,Qp5 fu a b=some c∧(c<0↔a<b):=by
 unfold Qp5
 by_cases h:a<b
 · exact ⟨-1,by simp [h],by simp [h]⟩
 · by_cases h2:a>b
   · exact ⟨1,by simp [h,h2],by simp [h]⟩
   · exact ⟨0,by simp [h,h2],by simp [h]⟩
theorem Jei {fu:Nat} {keys:List Int} (hfu:2097153≤fu) (hl:keys.length<20):Qho fu keys=some (srt (dnk keys) keys.length):=by
 unfold Qho Qes Qgx
 rw [Q4i _ (by omega) (by omega),Qab]
 obtain ⟨f,hfd⟩:∃ f:Int→Int→Option Int,f=λa b=>Qfu fu a b keys:=⟨_,rfl⟩
 have hdef:∀ a b:Int,0≤a→a<keys.length→0≤b→b<keys.length→∃ c,f a b=some c∧(c<0↔dnk keys a<dnk keys b):=by
  intro a b ha ha' hb hb'
  obtain ⟨c,h1,h2⟩:=Jkk fu (kf keys b) (kf keys a)
  refine ⟨c,?_,?_⟩
  · rw [hfd]
    show Qfu fu a b keys=_
    unfold Qfu
    rw [Q6h ⟨hb,hb'⟩,Qab,Q6h ⟨ha,ha'⟩,Qab,h1,Qab]
  · rw [h2]; unfold dnk; omega
 have hf:∀ a b c,f a b=some c→(c<0↔dnk keys a<dnk keys b):=by
  intro a b c h
  have h0:=h
  rw [hfd] at h
  change Qfu fu a b keys=_ at h
  unfold Qfu at h
  obtain ⟨x,hx,h⟩:=Qug h
  obtain ⟨y,hy,h⟩:=Qug h
  obtain ⟨b0,b1,_⟩:=Qal hx
  obtain ⟨a0,a1,_⟩:=Qal hy
  obtain ⟨d,h1,h2⟩:=hdef a b a0 a1 b0 b1
  rw [h0] at h1
  cases h1
  exact h2
 have ha:=Jaa (fu:=fu) (f:=f) (k:=dnk keys) hfu hf (n:=keys.length) (by omega) (λa b h1 h2 h3 h4=>by obtain ⟨c,h,_⟩:=hdef a b h1 h2 h3 h4; exact ⟨c,h⟩)
 have hI:Qcb fu (Qf5 0 keys.length) 0 ((Qf5 0 keys.length).length:Int) f=some (srt (dnk keys) keys.length):=by
  unfold Qcb
  rw [Qcq,show w64 ((0:Int)+1)=1 by rw [Qbe (by omega) (by omega)]; rfl]
  cases hk:keys.length with
  | zero =>
   obtain ⟨m,rfl⟩:∃ m,fu=m+1:=⟨fu - 1,by omega⟩
   rw [Qao.eq_2]
   unfold Qb8
   rw [Qaw (by simp)]; rfl
  | succ n =>
   rw [hk] at ha
   have:=ha (Qf5 1 n) [0] fu (by rw [Qcq]; omega) (by rw [Qcq]; simp; omega) (λp hp=>by
    have:p∈Qf5 0 (n+1):=hp
    have:=Qc6.1 this
    omega)
   have e:Qf5 0 (n+1)=[0]++Qf5 1 n:=rfl
   rw [e]
   have h1:(([0]:List Int).length:Int)=1:=rfl
   rw [h1] at this
   rw [this]
   congr 1
   have hsp:=Q5s (dnk keys) (Qf5 1 n) [0] (by simp) (λp hp x hx=>by
    have:=Qc6.1 hx
    rw [List.mem_singleton.1 hp]; omega) (Qup _ _)
   exact Q3d hsp.1 hsp.2
 obtain ⟨m,rfl⟩:∃ m,fu=m+1:=⟨fu - 1,by omega⟩
 rw [Qdt.eq_2]
 unfold Qg7
 rw [Qaw (by rw [Qcq]; simp; omega)]
 rw [← hfd,hI,Qab,Qce.eq_2]
 unfold Qha
 rw [Qaw (by rw [Qcq]; simp; omega)]
 rfl
theorem Jlq {w h d:Int} (hb:(inb w 0 2000&&(inb h 0 2000&&inb d 0 2000))=true):w64 ((w64 (w*h))*d)=w*h*d:=by
 simp only [Bool.and_eq_true,Qcu] at hb
 obtain ⟨⟨h1,h2⟩,⟨h3,h4⟩,h5,h6⟩:=hb
 have a1:0≤w*h:=Int.mul_nonneg h1 h3
 have a2:w*h≤2000*2000:=Int.mul_le_mul h2 h4 h3 (by omega)
 have a3:0≤w*h*d:=Int.mul_nonneg a1 h5
 have a4:w*h*d≤2000*2000*2000:=Int.mul_le_mul a2 h6 h5 (by omega)
 rw [Qbe (n:=w*h) (by omega) (by omega),Qbe (by omega) (by omega)]
theorem Jgp (fu:Nat) (w h d:Int):Qme fu w h d=some (Q8w w h d):=by
 unfold Qme Qq2 Q8w
 simp only [Q3r,Qab]
 cases h1:inb w 0 2000 <;> cases h2:inb h 0 2000 <;> cases h3:inb d 0 2000 <;> simp only [Bool.not_true,Bool.not_false,cond_true,cond_false,Bool.and_true,Bool.and_false]
 rw [Jlq (by simp only [h1,h2,h3]; rfl)]
theorem Jis (fu:Nat) (w h d:Int):Qpe fu w h d=some (Q8w w h d):=by
 unfold Qpe Qqz Q8w
 simp only [Q5d,Qab]
 cases h1:inb w 0 2000 <;> cases h2:inb h 0 2000 <;> cases h3:inb d 0 2000 <;> simp only [Bool.not_true,Bool.not_false,cond_true,cond_false,Bool.and_true,Bool.and_false]
 rw [Jlq (by simp only [h1,h2,h3]; rfl)]
def Qu4 (r:Request) (u:Int):Item:=(Q0w r u).getD Q8r
theorem Q3a (r:Request):w64 (((Qi4 r).length:Int) - 1)=((Qi4 r).length:Int) - 1:=by
 have:=Qv1 r
 exact Qbe (by omega) (by omega)
theorem Q9r (fu:Nat) (r:Request) (u:Int):Qlm fu r (Qi4 r) u=some (Qu4 r u,(Q0w r u).isSome):=by
 unfold Qlm Qu4
 rw [Q3a,Q3r,Qab]
 by_cases h:0≤u∧u<(Qi4 r).length
 · obtain ⟨i,x,h1,h2,h3⟩:=Q6r h
   rw [Qaw (by simp; omega),h1,Qab,h2,Qab,h3]
   rfl
 · rw [Qbj (by simp [inb]; omega),Q28 h]
   rfl
theorem Jds:Jca Q8r=0:=by simp [Jca,Q8w,Q8r]
theorem Q4d {fu:Nat} {r:Request} (h:Sm fu r) (us:List Int) (hl:us.length≤1048576) (hf:us.length<fu):Qh7 fu r us=some (Qyw r us):=by
 unfold Qh7
 rw [Jcf h,Qab]
 have key:=lpI us (λn s i=>Qf4 fu r us (Qi4 r) n s i) (λl out=>some (out++Qyw r l)) (λl out=>out.length+l.length≤1048576) (by omega) ?_ ?_ fu [] (by simpa using hl) hf
 · simpa using key
 · intro n s i x xs hx hd hI ih
   simp only [Qf4.eq_2]
   unfold Qma Qkt
   simp only [hd,cond_true,hx,Qab,Q3a,Q5d]
   simp only [List.length_cons] at hI
   by_cases hu:0≤x∧x<(Qi4 r).length
   · obtain ⟨i',y,h1,h2,h3⟩:=Q6r hu
     rw [Qbj (by simp; omega),h1,Qab,h2,Qab,ap1 (by simp; omega),Qab,ih _ (by simp; omega)]
     simp [Qyw,List.filterMap_cons,h3]
   · rw [Qaw (by simp [inb]; omega),ih _ (by omega)]
     simp [Qyw,List.filterMap_cons,Q28 hu]
 · intro n s i hd _
   simp only [Qf4.eq_2]
   unfold Qma
   simp only [hd,cond_false]
   simp [Qyw]
theorem Jbl {fu:Nat} {r:Request} (h:Sm fu r) (us:List Int) (hl:us.length≤1048576) (hf:us.length<fu):Qky fu r us=some (Qxv r us):=by
 unfold Qky
 rw [Q4d h us hl hf,Qab]
 have hlen:=Qw2 r us
 have key:=lpI (Qyw r us) (λn s i=>Qgc fu (Qyw r us) n s i) (λl n=>some (n+Qsr (l.map Jca))) (λl n=>0≤n∧n+8000000000*l.length≤8000000000*1048576) (by omega) ?_ ?_ fu 0 ⟨by omega,by omega⟩ (by omega)
 · simpa [Qxv] using key
 · intro n s i x xs hx hd hI ih
   simp only [Qgc.eq_2]
   unfold Qjq
   simp only [hd,cond_true,hx,Qab,Jis]
   have hv:=Q9o x.fW x.fH x.fD
   have h2:=hI.2
   simp only [List.length_cons] at h2
   rw [Qbe (by omega) (by omega),ih _ ⟨by omega,by omega⟩]
   simp only [List.map_cons,Qfy,Jca]
   congr 1
   omega
 · intro n s i hd _
   simp only [Qgc.eq_2]
   unfold Qjq
   simp only [hd,cond_false]
   simp
end Go.Proofs.YtpcmapfabndggaaGreatDoor
