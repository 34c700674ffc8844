/- PlannedBP: plain lem.. -/
import Derived.Test.YtpcmapfabndggaaGreatDoorPlannedBD
import Derived.Test.YtpcmapfabndggaaGreatDoorM3
set_option linter.unusedSimpArgs false
set_option linter.unusedVariables false
namespace Go.Proofs.YtpcmapfabndggaaGreatDoor
open Go
open Enc (rd ow)
open Arg (argv)
open Ret (retv)
open Wf (wf)
theorem Q77 {fu:Nat} (n:Nat) (hn:n≤1048576) (hf:n<fu):Qku fu (n:Int)=some (Qf5 0 n):=by
 unfold Qku
 have key:∀ (m i k:Nat),n - i=m→i≤n→m<k→Qf9 fu (n:Int) k (Qf5 0 i) (i:Int)=some (Qf5 0 n):=by
  intro m
  induction m with
  | zero =>
   intro i k hm hi hk
   obtain ⟨k,rfl⟩:∃ j,k=j+1:=⟨k - 1,by omega⟩
   have:i=n:=by omega
   subst this
   rw [Qf9.eq_2]
   unfold Qj1
   simp
  | succ m ih =>
   intro i k hm hi hk
   obtain ⟨k,rfl⟩:∃ j,k=j+1:=⟨k - 1,by omega⟩
   rw [Qf9.eq_2]
   unfold Qj1
   rw [Qbj (by simp; omega),ap1 (by rw [Qcs]; simp; omega),Qab,Qy4 i (by omega)]
   have e:=Jbx 0 i
   rw [Int.zero_add] at e
   rw [← e]
   exact ih (i+1) k (by omega) (by omega) (by omega)
 exact key n 0 fu (by omega) (by omega) hf
def dk (keys:List Int) (Qwa:Bool) (p:Int):Int:=bif Qwa then - kf keys p else kf keys p
theorem Q59 {keys:List Int} {p:Int} (h:0≤p∧p<keys.length):ix keys p=some (kf keys p):=by
 have h1:p.toNat<keys.length:=by omega
 unfold kf ix
 rw [if_pos h.1,List.getElem?_eq_getElem h1]
 rfl
theorem Jj7 {fu:Nat} {keys a b:List Int} (Qwa:Bool) (ha:∀ p∈a,0≤p∧p<keys.length) (hb:∀ p∈b,0≤p∧p<keys.length) (hla:a.length≤1048576) (hlb:b.length≤1048576) :
    ∀ (m:Nat) (n:Nat) (out:List Int) (i j:Nat),i≤a.length→j≤b.length→(a.length - i)+(b.length - j)=m→m<n→out.length+m≤2097152 →
     Qc0 fu keys Qwa a b n out i j=some (out++mrg (dk keys Qwa) (a.drop i) (b.drop j)):=by
 intro m
 induction m with
 | zero =>
  intro n out i j hi hj hm hn ho
  obtain ⟨n,rfl⟩:∃ k,n=k+1:=⟨n - 1,by omega⟩
  rw [Qc0.eq_2]
  unfold Qmp
  rw [Qau (by simp; omega),Qau (by simp; omega),List.drop_of_length_le (show a.length≤i by omega),List.drop_of_length_le (show b.length≤j by omega)]
  simp [mrg]
 | succ m ih =>
  intro n out i j hi hj hm hn ho
  obtain ⟨n,rfl⟩:∃ k,n=k+1:=⟨n - 1,by omega⟩
  have hL:Qc0 fu keys Qwa a b (n+1) out i j=Qib fu (Qc0 fu keys Qwa a b n) keys Qwa a b out i j:=by
   rw [Qc0.eq_2]
   unfold Qmp
   by_cases h:i<a.length
   · rw [Qbj (by simpa using h)]
   · rw [Qau (by simpa using h),Qbj (by simp; omega)]
  have tA:∀ (h:i<a.length),(Qg4 8 out [a[i]])=some (out++[a[i]]):=λh=>ap1 (by simp; omega)
  have tB:∀ (h:j<b.length),(Qg4 8 out [b[j]])=some (out++[b[j]]):=λh=>ap1 (by simp; omega)
  have nA:∀ (h:i<a.length),Qc0 fu keys Qwa a b n (out++[a[i]]) (w64 ((i:Int)+1)) j=some (out++a[i]::mrg (dk keys Qwa) (a.drop (i+1)) (b.drop j)):=λh=>by
   rw [Qy4 i (by omega),ih n (out++[a[i]]) (i+1) j (by omega) hj (by omega) (by omega) (by simp; omega)]
   simp
  have nB:∀ (h:j<b.length),Qc0 fu keys Qwa a b n (out++[b[j]]) i (w64 ((j:Int)+1))=some (out++b[j]::mrg (dk keys Qwa) (a.drop i) (b.drop (j+1))):=λh=>by
   rw [Qy4 j (by omega),ih n (out++[b[j]]) i (j+1) hi (by omega) (by omega) (by omega) (by simp; omega)]
   simp
  rw [hL]
  unfold Qib
  by_cases hjb:j=b.length
  · have h:i<a.length:=by omega
    rw [Qbj (by simp [hjb]),Qzw h,Qab,tA h,Qab,nA h,List.drop_of_length_le (show b.length≤j by omega),Jaj,Jaj,← List.drop_eq_getElem_cons h]
  · have hj':j<b.length:=by omega
    rw [Qau (by simp; omega)]
    by_cases hia:i=a.length
    · rw [Qbj (by simp [hia]),Qzw hj',Qab,tB hj',Qab,nB hj',List.drop_of_length_le (show a.length≤i by omega)]
      have e1:∀ l,mrg (dk keys Qwa) [] l=l:=λl=>by rw [mrg]
      rw [e1,e1,← List.drop_eq_getElem_cons hj']
    · have hi':i<a.length:=by omega
      rw [Qau (by simp; omega)]
      simp only [Qzw hi',Qzw hj',Qab,Q59 (ha _ (List.getElem_mem hi')),Q59 (hb _ (List.getElem_mem hj')),tA hi',tB hj',nA hi',nB hj']
      rw [List.drop_eq_getElem_cons hi',List.drop_eq_getElem_cons hj',Qxj,← List.drop_eq_getElem_cons hi',← List.drop_eq_getElem_cons hj']
      have hx:dk keys Qwa a[i]=bif Qwa then - kf keys a[i] else kf keys a[i]:=rfl
      have hy:dk keys Qwa b[j]=bif Qwa then - kf keys b[j] else kf keys b[j]:=rfl
      rw [hx,hy]
      generalize kf keys a[i]=x
      generalize kf keys b[j]=y
      cases Qwa
      · by_cases hc:y<x
        · rw [if_pos (by simpa using hc)]; simp [hc]
        · rw [if_neg (by simpa using hc)]
          have:decide (y>x)=true∨decide (y>x)=false:=by cases decide (y>x) <;> simp
          rcases this with h | h <;> simp [hc,h]
      · by_cases hc:x<y
        · have h:¬ y<x:=by omega
          rw [if_pos (by simpa using hc)]; simp [hc,h]
        · rw [if_neg (by simpa using hc)]
          have h:decide (y<x)=true∨decide (y<x)=false:=by cases decide (y<x) <;> simp
          rcases h with h | h <;> simp [hc,h]
theorem Q7g {fu:Nat} {keys:List Int} (Qwa:Bool) (hfu:2097153≤fu):∀ (n:Nat) (l:List Int),l.length≤n→l.length≤1048576→(∀ p∈l,0≤p∧p<keys.length) →
    Qiv fu (n+1) keys l Qwa=some (msr (dk keys Qwa) (n+1) l)
 | n,l,hn,hl,hm=>by
  rw [Qiv.eq_2]
  unfold Qsg msr
  by_cases h2:l.length<2
  · rw [Qbj (by simp; omega),if_pos h2,ap1 (by simp; omega)]; rfl
  · rw [Qau (by simp; omega),if_neg h2]
    have hd:Int.tdiv (l.length:Int) 2=((l.length / 2:Nat):Int):=by simp [Int.tdiv]
    obtain ⟨n,rfl⟩:∃ k,n=k+1:=⟨n - 1,by omega⟩
    rw [hd,Qbe (by omega) (by omega),Quo (by omega),Quo (by omega),Qab]
    simp only [Int.toNat_natCast,Int.toNat_zero,List.drop_zero,Nat.sub_zero,Qab]
    rw [Q7g Qwa hfu n (l.take (l.length / 2)) (by rw [List.length_take]; omega) (by rw [List.length_take]; omega) (λp hp=>hm p (List.mem_of_mem_take hp)),Qab]
    have e:(l.drop (l.length / 2)).take (l.length - l.length / 2)=l.drop (l.length / 2):=List.take_of_length_le (by rw [List.length_drop]; omega)
    rw [e,Q7g Qwa hfu n (l.drop (l.length / 2)) (by rw [List.length_drop]; omega) (by rw [List.length_drop]; omega) (λp hp=>hm p (List.mem_of_mem_drop hp)),Qab]
    have hp1:=(Qtg (dk keys Qwa) (n+1) (l.take (l.length / 2)))
    have hp2:=(Qtg (dk keys Qwa) (n+1) (l.drop (l.length / 2)))
    have l1:=hp1.length_eq
    have l2:=hp2.length_eq
    rw [List.length_take] at l1
    rw [List.length_drop] at l2
    rw [show (0:Int)=((0:Nat):Int) from rfl]
    rw [Jj7 Qwa (λp hp=>hm p (List.mem_of_mem_take (hp1.mem_iff.1 hp))) (λp hp=>hm p (List.mem_of_mem_drop (hp2.mem_iff.1 hp))) (by omega) (by omega) _ fu [] 0 0 (by omega) (by omega) rfl (by omega) (by simp; omega)]
    simp
theorem Jlv {fu:Nat} {keys:List Int} (hfu:2097153≤fu) (hl:keys.length≤1048576):Qph fu keys=some (srt (kf keys) keys.length):=by
 unfold Qph Qpx
 rw [Q77 keys.length hl (by omega),Qab]
 obtain ⟨m,rfl⟩:∃ m,fu=m+1:=⟨fu - 1,by omega⟩
 rw [Q7g false hfu m _ (by rw [Qcs]; omega) (by rw [Qcs]; omega) (λp hp=>by have:=Qc5.1 hp; omega),Qab]
 congr 1
 have e:dk keys false=kf keys:=rfl
 rw [e]
 exact Q39 (Qtg _ _ _) (Que _ _ _ (by rw [Qcs]; omega) (Qun _ _))
structure Sm (fu:Nat) (r:Request):Prop where
 fu:2097153≤fu
 pairs:r.fT.length≤1048576
 types:r.fR.length≤1048576
 items:r.fU.length≤1048576
theorem Q32 (fu:Nat) (n lo hi:Int):Qa1 fu n lo hi=some (inb n lo hi):=by
 unfold Qa1 inb
 by_cases h:lo≤n
 · simp [h]
 · simp [h]
theorem Q42 (fu:Nat) (n lo hi:Int):Qbk fu n lo hi=some (inb n lo hi):=Q32 fu n lo hi
theorem Q95 (fu:Nat) (n:Int):Qen fu n=some (inb n 1 2000):=by unfold Qen; rw [Q32]; rfl
theorem Jjo (fu:Nat) (n:Int):Qop fu n=some (inb n 0 999):=by unfold Qop; rw [Q32]; rfl
theorem Q8i (fu:Nat) (n:Int):Qc3 fu n=some (inb n 1 2000):=by unfold Qc3; rw [Q42]; rfl
theorem Jd7 (fu:Nat) (p:Pallet):Qhj fu p=some (Qv8 p):=by
 unfold Qhj Qv8
 simp only [Q95,Q32,Qab]
 cases inb p.fW 1 2000 <;> cases inb p.fD 1 2000 <;> cases inb p.fH 1 2000 <;> rfl
theorem Jko (fu:Nat) (p:Pallet):Qe9 fu p=some (Qv8 p):=by
 unfold Qe9 Qv8
 simp only [Q8i,Q42,Qab]
 cases inb p.fW 1 2000 <;> cases inb p.fD 1 2000 <;> cases inb p.fH 1 2000 <;> rfl
theorem Jkf (fu:Nat) (t:Typ):Qrh fu t=some (Q2w t):=by
 unfold Qrh Q2w
 simp only [Q95,Q32,Jjo,Qab]
 cases inb t.qQ 0 999 <;> cases inb t.fW 1 2000 <;> cases inb t.fH 1 2000 <;> cases inb t.fD 1 2000 <;> cases inb t.ft 0 100000 <;> cases inb t.fQ 1 100000 <;> rfl
theorem Jjz (fu:Nat) (t:Typ):Qr9 fu t=some (Q2w t):=by
 unfold Qr9 Q2w
 simp only [Q8i,Q42,Qab]
 cases inb t.qQ 0 999 <;> cases inb t.fW 1 2000 <;> cases inb t.fH 1 2000 <;> cases inb t.fD 1 2000 <;> cases inb t.ft 0 100000 <;> cases inb t.fQ 1 100000 <;> rfl
theorem Jkz (fu:Nat) (t:Item):Qr7 fu t=some (Qyk t):=by
 unfold Qr7 Qyk
 simp only [Q95,Q32,Jjo,Qab]
 cases inb t.qQ 0 999 <;> cases inb t.fW 1 2000 <;> cases inb t.fH 1 2000 <;> cases inb t.fD 1 2000 <;> cases inb t.fQ 1 100000 <;> cases inb t.fL 0 3 <;> rfl
theorem Jj2 (fu:Nat) (t:Item):Qsc fu t=some (Qyk t):=by
 unfold Qsc Qyk
 simp only [Q8i,Q42,Qab]
 cases inb t.qQ 0 999 <;> cases inb t.fW 1 2000 <;> cases inb t.fH 1 2000 <;> cases inb t.fD 1 2000 <;> cases inb t.fQ 1 100000 <;> cases inb t.fL 0 3 <;> rfl
def Jg9:List Item→Int→Option Bool
 | [],n=>some (decide (n≤12))
 | x::xs,n=>bif !Qyk x then some false else Jg9 xs (w64 (n+x.f0))
theorem Q6j:∀ (l:List Item) (n:Int),0≤n→n+6*l.length≤4611686018427387904→Jg9 l n=some (l.all Qyk&&decide (n+Qsp (l.map (·.f0))≤12))
 | [],n,_,_=>by simp [Jg9]
 | x::xs,n,h0,h1=>by
  unfold Jg9
  cases hx:Qyk x
  · simp [hx]
  · have hc:=hx
    simp only [Qyk,Bool.and_eq_true,Qcu] at hc
    have hc:=hc.2.2.2.2.2.2
    simp only [List.length_cons] at h1
    rw [Qbe (by omega) (by omega)]
    simp only [Bool.not_true,cond_false]
    rw [Q6j xs (n+x.f0) (by omega) (by omega)]
    simp only [List.all_cons,hx,Bool.true_and,List.map_cons,Qf0,Int.add_assoc]
theorem Jk4 {fu:Nat} {r:Request} (h:Sm fu r):Qoh fu r=some (Q4n r):=by
 have hfu:=h.fu
 have h7:r.fU.length≤8→Qeb fu r fu 0 0=some (r.fU.all Qyk&&decide (Qsp (r.fU.map (·.f0))≤12)):=by
  intro h8
  rw [lp r.fU (λn s i=>Qeb fu r n s i) Jg9 (by have:=h.items; omega) ?_ ?_ fu 0 (by have:=h.items; omega),Q6j _ _ (by omega) (by have:=h.items; omega)]
  · simp
  · intro n s i x xs hx hd ih
    simp only [Qeb.eq_2]
    unfold Qj4
    simp only [hd,cond_true,hx,Qab,Jkz,ih]
    rfl
  · intro n s i hd
    simp only [Qeb.eq_2]
    unfold Qj4
    simp only [hd,cond_false]
    rfl
 have h6:∀ b:Bool,(Qeb fu r fu 0 0=some b)→Qee fu r fu 0=some (r.fR.all Q2w&&b):=by
  intro b hb
  refine lp r.fR (λn (_:Unit) i=>Qee fu r n i) (λl _=>some (l.all Q2w&&b)) (by have:=h.types; omega) ?_ ?_ fu () (by have:=h.types; omega)
  · intro n s i x xs hx hd ih
    simp only [Qee.eq_2]
    unfold Qjn
    simp only [hd,cond_true,hx,Qab,Jkf,ih (),List.all_cons]
    cases Q2w x <;> rfl
  · intro n s i hd
    simp only [Qee.eq_2]
    unfold Qjn
    simp only [hd,cond_false,hb]
    rfl
 have h4:∀ b:Bool,(Qee fu r fu 0=some b)→Qed fu r fu 0=some (r.fT.all prB&&b):=by
  intro b hb
  refine lp r.fT (λn (_:Unit) i=>Qed fu r n i) (λl _=>some (l.all prB&&b)) (by have:=h.pairs; omega) ?_ ?_ fu () (by have:=h.pairs; omega)
  · intro n s i x xs hx hd ih
    simp only [Qed.eq_2]
    unfold Qjt Qnt
    simp only [hd,cond_true,hx,Qab,Q32,ih ()]
    simp only [List.all_cons,prB]
    cases inb x.fA 0 3 <;> cases inb x.fB 0 3 <;> rfl
  · intro n s i hd
    simp only [Qed.eq_2]
    unfold Qjt
    simp only [hd,cond_false,hb]
    rfl
 unfold Qoh Qnv Q4n
 simp only [Q32,Jjo,Jd7,Qab]
 by_cases h8:r.fU.length≤8
 · rw [h4 _ (h6 _ (h7 h8))]
   have e8:decide ((r.fU.length:Int)>8)=false:=by simp; omega
   rw [e8]
   by_cases hp:r.fT.length≤16
   · have e16:decide ((r.fT.length:Int)>16)=false:=by simp; omega
     rw [e16]
     simp only [hp,h8,decide_true,cond_false,Bool.and_true]
     cases inb r.qY 0 1 <;> cases Qv8 r.fJ <;> cases inb r.fG 1 4 <;> cases inb (r.fR.length:Int) 1 5 <;> cases inb r.fP 0 999 <;> simp <;> cases r.fT.all prB <;> cases r.fR.all Q2w <;> rfl
   · have e16:decide ((r.fT.length:Int)>16)=true:=by simp; omega
     rw [e16]
     simp only [hp,decide_false,cond_true]
     cases inb r.qY 0 1 <;> cases Qv8 r.fJ <;> cases inb r.fG 1 4 <;> simp
 · have e8:decide ((r.fU.length:Int)>8)=true:=by simp; omega
   rw [e8]
   simp only [h8,decide_false,cond_true,Bool.and_false,Bool.false_and]
   cases inb r.qY 0 1 <;> cases Qv8 r.fJ <;> cases inb r.fG 1 4 <;> simp
def Qyi {α:Type} (g:α→Bool):List α→Int→Int
 | [],_=>-1
 | x::xs,i=>bif g x then i else Qyi g xs (i+1)
theorem Qt0 {α:Type} (g:α→Bool):∀ (l:List α) (i:Int),0≤i→decide (Qyi g l i≥0)=l.any g
 | [],i,_=>rfl
 | x::xs,i,h=>by
  simp only [Qyi,List.any_cons]
  by_cases hx:g x=true
  · simpa [hx] using h
  · simpa [hx] using Qt0 g xs (i+1) (by omega)
theorem Q5g {α:Type} (g:α→Bool):∀ (l pre:List α) ,(Qyi g l pre.length<0∧l.find? g=none)∨(0≤Qyi g l pre.length∧∃ x,l.find? g=some x∧ix (pre++l) (Qyi g l pre.length)=some x)
 | [],pre=>.inl ⟨by simp [Qyi],rfl⟩
 | x::xs,pre=>by
  simp only [Qyi]
  cases hx:g x
  · have:=Q5g g xs (pre++[x])
    simp only [List.length_append,List.length_singleton,List.append_assoc,List.singleton_append] at this
    simpa [List.find?_cons,hx] using this
  · refine .inr ⟨by simp,x,by simp [hx],?_⟩
    rw [cond_true,Qi4]
    simp
theorem Qt2 {α:Type} (l:List α) (L:Nat→Int→Option Int) (g:α→Bool) (hl:l.length≤1099511627776)
    (hs:∀ n (i:Int) x,ix l i=some x→decide (i<(l.length:Int))=true→L (n+1) i=bif g x then some i else L n (w64 (i+1)))
    (he:∀ n (i:Int),decide (i<(l.length:Int))=false→L (n+1) i=some (-1)) (n:Nat) (hn:l.length<n):L n 0=some (Qyi g l 0):=by
 have key:∀ (m i n:Nat),l.length - i=m→i≤l.length→m<n→L n (i:Int)=some (Qyi g (l.drop i) i):=by
  intro m
  induction m with
  | zero =>
   intro i n hm hi hn
   obtain ⟨n,rfl⟩:∃ k,n=k+1:=⟨n - 1,by omega⟩
   rw [List.drop_of_length_le (by omega),he n i (by simp; omega)]
   rfl
  | succ m ih =>
   intro i n hm hi hn
   obtain ⟨n,rfl⟩:∃ k,n=k+1:=⟨n - 1,by omega⟩
   have hlt:i<l.length:=by omega
   rw [hs n i _ (Qzw hlt) (by simpa using hlt),List.drop_eq_getElem_cons hlt]
   simp only [Qyi]
   cases g l[i]
   · rw [cond_false,cond_false,Qy4 i (by omega)]
     have:=ih (i+1) n (by omega) (by omega) (by omega)
     simpa using this
   · rfl
 simpa using key l.length 0 n (by omega) (by omega) hn
theorem Q7s {fu:Nat} {l:List Typ} (f:Typ→Option Bool) (g:Typ→Bool) (hg:∀ x∈l,f x=some (g x)) (hl:l.length≤1048576) (hf:l.length<fu):Qbo fu l f=some (Qyi g l 0):=by
 unfold Qbo
 refine Qt2 l (λn i=>Qbb fu l f n i) g (by omega) ?_ ?_ fu hf
 · intro n i x hx hd
   simp only [Qbb.eq_2]
   unfold Qch
   simp only [hd,cond_true,hx,Qab,hg x (Qf7 hx)]
 · intro n i hd
   simp only [Qbb.eq_2]
   unfold Qch
   simp only [hd,cond_false]
theorem Q3z {fu:Nat} {l:List Typ} (f:Typ→Option Bool) (g:Typ→Bool) (hg:∀ x∈l,f x=some (g x)) (hl:l.length≤1048576) (hf:l.length<fu):Qav fu l f=some (l.any g):=by
 unfold Qav
 rw [Q7s f g hg hl hf,Qab,Qt0 g l 0 (by omega)]
theorem Jb6 {fu:Nat} {l:List Pair} (f:Pair→Option Bool) (g:Pair→Bool) (hg:∀ x∈l,f x=some (g x)) (hl:l.length≤1048576) (hf:l.length<fu):Qb6 fu l f=some (Qyi g l 0):=by
 unfold Qb6
 refine Qt2 l (λn i=>Qba fu l f n i) g (by omega) ?_ ?_ fu hf
 · intro n i x hx hd
   simp only [Qba.eq_2]
   unfold Qcj
   simp only [hd,cond_true,hx,Qab,hg x (Qf7 hx)]
 · intro n i hd
   simp only [Qba.eq_2]
   unfold Qcj
   simp only [hd,cond_false]
theorem Q5p {fu:Nat} {l:List Pair} (f:Pair→Option Bool) (g:Pair→Bool) (hg:∀ x∈l,f x=some (g x)) (hl:l.length≤1048576) (hf:l.length<fu):Qa9 fu l f=some (l.any g):=by
 unfold Qa9
 rw [Jb6 f g hg hl hf,Qab,Qt0 g l 0 (by omega)]
theorem Q97 {fu:Nat} {l:List Item} (f:Item→Option Bool) (g:Item→Bool) (hg:∀ x∈l,f x=some (g x)) (hl:l.length≤1048576) (hf:l.length<fu):Qcc fu l f=some (Qyi g l 0):=by
 unfold Qcc
 refine Qt2 l (λn i=>Qa8 fu l f n i) g (by omega) ?_ ?_ fu hf
 · intro n i x hx hd
   simp only [Qa8.eq_2]
   unfold Qci
   simp only [hd,cond_true,hx,Qab,hg x (Qf7 hx)]
 · intro n i hd
   simp only [Qa8.eq_2]
   unfold Qci
   simp only [hd,cond_false]
theorem Qxf {fu:Nat} {l:List Item} (f:Item→Option Bool) (g:Item→Bool) (hg:∀ x∈l,f x=some (g x)) (hl:l.length≤1048576) (hf:l.length<fu):Qaw fu l f=some (l.any g):=by
 unfold Qaw
 rw [Q97 f g hg hl hf,Qab,Qt0 g l 0 (by omega)]
theorem Jk3 {fu:Nat} {r:Request} (h:Sm fu r):Qon fu r=some (Q4n r):=by
 have hfu:=h.fu
 have h1:=h.items
 have h2:=h.types
 have h3:=h.pairs
 have e3:Qe3 fu r fu 0 0=some (r.fU.all Qyk&&decide (Qsp (r.fU.map (·.f0))≤12)):=by
  rw [lp r.fU (λn s i=>Qe3 fu r n s i) Jg9 (by omega) ?_ ?_ fu 0 (by omega),Q6j _ _ (by omega) (by omega)]
  · simp
  · intro n s i x xs hx hd ih
    simp only [Qe3.eq_2]
    unfold Qj5
    simp only [hd,cond_true,hx,Qab,Jj2,ih]
    rfl
  · intro n s i hd
    simp only [Qe3.eq_2]
    unfold Qj5
    simp only [hd,cond_false]
    rfl
 have ep:Qa9 fu r.fT (λy34=>Qkk fu y34)=some (!(r.fT.all prB)):=by
  rw [Q5p _ (λp=>!prB p) (λp _=>by
   unfold Qkk prB
   simp only [Q42,Qab]
   cases inb p.fA 0 3 <;> rfl) h3 (by omega)]
  simp [List.not_all_eq_any_not]
 have et:Qav fu r.fR (λy34=>Qkg fu y34)=some (!(r.fR.all Q2w)):=by
  rw [Q3z _ (λp=>!Q2w p) (λp _=>by
   unfold Qkg
   rw [Jjz]; rfl) h2 (by omega)]
  simp [List.not_all_eq_any_not]
 unfold Qon Qn0 Qn7 Q4n
 rw [e3,ep,et]
 simp only [Q42,Jko,Qab]
 have e8:decide ((r.fU.length:Int)>8)=!decide (r.fU.length≤8):=by
  by_cases hh:r.fU.length≤8
  · have:¬ ((r.fU.length:Int)>8):=by omega
    simp [hh,this]
  · have:(r.fU.length:Int)>8:=by omega
    simp [hh,this]
 have e16:decide ((r.fT.length:Int)>16)=!decide (r.fT.length≤16):=by
  by_cases hh:r.fT.length≤16
  · have:¬ ((r.fT.length:Int)>16):=by omega
    simp [hh,this]
  · have:(r.fT.length:Int)>16:=by omega
    simp [hh,this]
 rw [e8,e16]
 cases inb r.qY 0 1 <;> cases Qv8 r.fJ <;> cases inb r.fG 1 4 <;> cases decide (r.fT.length≤16) <;> cases r.fT.all prB <;> cases inb (r.fR.length:Int) 1 5 <;> cases r.fR.all Q2w <;> cases inb r.fP 0 999 <;> cases decide (r.fU.length≤8) <;> rfl
theorem lpP {σ α β:Type} (l:List α) (L:Nat→σ→Int→Option β) (F:List α→List α→σ→Option β) (hl:l.length≤1099511627776)
    (hs:∀ n s pre x xs,l=pre++x::xs→ix l (pre.length:Int)=some x→decide ((pre.length:Int)<(l.length:Int))=true→(∀ s',L n s' (w64 ((pre.length:Int)+1))=F (pre++[x]) xs s')→L (n+1) s (pre.length:Int)=F pre (x::xs) s)
    (he:∀ n s,decide ((l.length:Int)<(l.length:Int))=false→L (n+1) s (l.length:Int)=F l [] s):∀ n s,l.length<n→L n s 0=F [] l s:=by
 have key:∀ (xs pre:List α) (n:Nat) (s:σ),l=pre++xs→xs.length<n→L n s (pre.length:Int)=F pre xs s:=by
  intro xs
  induction xs with
  | nil =>
   intro pre n s he' hn
   obtain ⟨n,rfl⟩:∃ k,n=k+1:=⟨n - 1,by omega⟩
   simp only [List.append_nil] at he'
   subst he'
   exact he n s (by simp)
  | cons x xs ih =>
   intro pre n s he' hn
   obtain ⟨n,rfl⟩:∃ k,n=k+1:=⟨n - 1,by simp at hn; omega⟩
   have hlen:l.length=pre.length+(xs.length+1):=by rw [he']; simp
   refine hs n s pre x xs he' ?_ (by simp; omega) λs'=>?_
   · rw [Qi4,he']; simp
   · rw [Qy4 _ (by omega)]
     have:=ih (pre++[x]) n s' (by simp [he']) (by simp at hn; omega)
     simpa using this
 intro n s hn
 simpa using key l [] n s rfl hn
theorem Jb5 {α:Type} {pre rest:List α} {i:Int} {y:α} (h:ix pre i=some y):ix (pre++rest) i=some y:=by
 obtain ⟨h0,h1,h2⟩:=Qal h
 unfold ix
 rw [if_pos h0,List.getElem?_append_left (by omega),h2]
theorem Jj4 (a b:Int):(a==b)=(b==a):=Bool.eq_iff_iff.2 (by simp only [beq_iff_eq]; exact ⟨Eq.symm,Eq.symm⟩)
theorem Qw7 {fu:Nat} {r:Request} (h:Sm fu r) (id:Int):Qhk fu r id=some (Qzh (Qty r id)):=by
 have hfu:=h.fu
 have ht:=h.types
 unfold Qhk Qty
 rw [Q7s (λy24=>Qpm fu y24 id) (λt=>t.qQ==id) (λt _=>rfl) ht (by omega),Qab]
 rcases Q5g (λt:Typ=>t.qQ==id) r.fR [] with ⟨h1,h2⟩ | ⟨h1,x,h2,h3⟩
 · simp only [List.length_nil] at h1
   rw [Qbj (by simpa using h1),h2]; rfl
 · simp only [List.length_nil,List.nil_append] at h1 h3
   rw [Qau (by simpa using h1),h2]
   have h3':ix r.fR (Qyi (λt=>t.qQ==id) r.fR 0)=some x:=h3
   rw [h3']; rfl
theorem Jbg {fu:Nat} {r:Request} (h:Sm fu r):Qgi fu r=some (Qzh (Qty r r.fP)):=by
 have hfu:=h.fu
 have ht:=h.types
 unfold Qgi Qty
 refine lp r.fR (λn (_:Unit) i=>Qgb fu r n i) (λl _=>some (Qzh (l.find? λt=>t.qQ==r.fP))) (by omega) ?_ ?_ fu () (by omega)
 · intro n s i x xs hx hd ih
   simp only [Qgb.eq_2]
   unfold Qj3
   simp only [hd,cond_true,hx,Qab,ih (),List.find?_cons]
   cases x.qQ==r.fP <;> rfl
 · intro n s i hd
   simp only [Qgb.eq_2]
   unfold Qj3
   simp only [hd,cond_false]
   rfl
theorem Jgq {fu:Nat} {r:Request} (h:Sm fu r):Qij fu r=some (Qzh (Qty r r.fP)):=by
 unfold Qij
 rw [Qw7 h]; rfl
theorem Q2r (o:Option Typ):(Qzh o).2=o.isSome:=by cases o <;> rfl
theorem Jj9 {fu:Nat} {r:Request} (h:Sm fu r):Qqa fu r=some (Q84 r):=by
 have hfu:=h.fu
 have h1:=h.items
 have h2:=h.types
 have h3:=h.pairs
 have e11:Qd6 fu r fu 0=some (!(r.fT.any λp=>decide (p.fA≥r.fG)||decide (p.fB≥r.fG))&&(Qty r r.fP).isSome):=by
  refine lp r.fT (λn (_:Unit) i=>Qd6 fu r n i) (λl _=>some (!(l.any λp=>decide (p.fA≥r.fG)||decide (p.fB≥r.fG))&&(Qty r r.fP).isSome)) (by omega) ?_ ?_ fu () (by omega)
  · intro n s i x xs hx hd ih
    simp only [Qd6.eq_2]
    unfold Qlf Qo4
    simp only [hd,cond_true,hx,Qab,ih (),List.any_cons]
    cases decide (x.fA≥r.fG) <;> cases decide (x.fB≥r.fG) <;> rfl
  · intro n s i hd
    simp only [Qd6.eq_2]
    unfold Qlf
    simp only [hd,cond_false,Jbg h,Qab,Q2r]
    rfl
 have e7:∀ b,Qd6 fu r fu 0=some b→Qbu fu r fu 0=some (Q85 r.fG [] r.fU&&b):=by
  intro b hb
  refine lpP r.fU (λn (_:Unit) i=>Qbu fu r n i) (λpre l _=>some (Q85 r.fG pre l&&b)) (by omega) ?_ ?_ fu () (by omega)
  · intro n s pre x xs hl hx hd ih
    simp only [Qbu.eq_2]
    unfold Qmb
    simp only [hd,cond_true,hx,Qab,Q85]
    cases hc:decide (x.fL≥r.fG)
    · have hpl:pre.length≤r.fU.length:=by rw [hl]; simp
      have e8:Qer fu (λi=>Qbu fu r n i) r (pre.length:Int) fu 0=bif pre.any (λy=>y.qQ==x.qQ) then some false else Qbu fu r n (w64 ((pre.length:Int)+1)):=by
       refine lp pre (λm (_:Unit) i=>Qer fu (λi=>Qbu fu r n i) r (pre.length:Int) m i) (λl _=>bif l.any (λy=>y.qQ==x.qQ) then some false else Qbu fu r n (w64 ((pre.length:Int)+1))) (by omega) ?_ ?_ fu () (by omega)
       · intro m s i y ys hy hd ih
         simp only [Qer.eq_2]
         unfold Qmf
         have hy':ix r.fU i=some y:=by rw [hl]; exact Jb5 hy
         simp only [hd,cond_true,hx,hy',Qab,ih (),List.any_cons]
         rw [Jj4 x.qQ y.qQ]
         cases y.qQ==x.qQ <;> rfl
       · intro m s i hd
         simp only [Qer.eq_2]
         unfold Qmf
         simp only [hd,cond_false]
         rfl
      have e8':Qer fu (Qbu fu r n) r (pre.length:Int) fu 0=bif pre.any (λy=>y.qQ==x.qQ) then some false else Qbu fu r n (w64 ((pre.length:Int)+1)):=e8
      rw [cond_false,e8',ih ()]
      cases pre.any (λy=>y.qQ==x.qQ) <;> rfl
    · rfl
  · intro n s hd
    simp only [Qbu.eq_2]
    unfold Qmb
    simp only [hd,cond_false,hb]
    rfl
 have e3:∀ b,Qbu fu r fu 0=some b→Qb0 fu r fu 0=some (Q86 Typ.qQ [] r.fR&&b):=by
  intro b hb
  refine lpP r.fR (λn (_:Unit) i=>Qb0 fu r n i) (λpre l _=>some (Q86 Typ.qQ pre l&&b)) (by omega) ?_ ?_ fu () (by omega)
  · intro n s pre x xs hl hx hd ih
    simp only [Qb0.eq_2]
    unfold Qlq
    simp only [hd,cond_true,Q86]
    have hpl:pre.length≤r.fR.length:=by rw [hl]; simp
    have e8:Qet fu (λi=>Qb0 fu r n i) r (pre.length:Int) fu 0=bif pre.any (λy=>y.qQ==x.qQ) then some false else Qb0 fu r n (w64 ((pre.length:Int)+1)):=by
     refine lp pre (λm (_:Unit) i=>Qet fu (λi=>Qb0 fu r n i) r (pre.length:Int) m i) (λl _=>bif l.any (λy=>y.qQ==x.qQ) then some false else Qb0 fu r n (w64 ((pre.length:Int)+1))) (by omega) ?_ ?_ fu () (by omega)
     · intro m s i y ys hy hd ih
       simp only [Qet.eq_2]
       unfold Qlh
       have hy':ix r.fR i=some y:=by rw [hl]; exact Jb5 hy
       simp only [hd,cond_true,hx,hy',Qab,ih (),List.any_cons]
       rw [Jj4 x.qQ y.qQ]
       cases y.qQ==x.qQ <;> rfl
     · intro m s i hd
       simp only [Qet.eq_2]
       unfold Qlh
       simp only [hd,cond_false]
       rfl
    have e8':Qet fu (Qb0 fu r n) r (pre.length:Int) fu 0=bif pre.any (λy=>y.qQ==x.qQ) then some false else Qb0 fu r n (w64 ((pre.length:Int)+1)):=e8
    rw [e8',ih ()]
    cases pre.any (λy=>y.qQ==x.qQ) <;> rfl
  · intro n s hd
    simp only [Qb0.eq_2]
    unfold Qlq
    simp only [hd,cond_false,hb]
    rfl
 unfold Qqa Q84
 rw [e3 _ (e7 _ e11)]
 congr 1
 cases Q86 Typ.qQ [] r.fR <;> cases Q85 r.fG [] r.fU <;> cases (Qty r r.fP).isSome <;> cases r.fT.any λp=>decide (p.fA≥r.fG)||decide (p.fB≥r.fG) <;> rfl
theorem Jan {α:Type} {l pre xs:List α} {x:α} (h:l=pre++x::xs):sls l 0 (pre.length:Int)=some pre:=by
 rw [Quo ⟨by omega,by omega,by rw [h]; simp; omega⟩]
 simp [h]
theorem Jk1 {fu:Nat} {r:Request} (h:Sm fu r):Qp3 fu r=some (Q84 r):=by
 have hfu:=h.fu
 have h1:=h.items
 have h2:=h.types
 have h3:=h.pairs
 have e4:Qd3 fu r fu 0=some (Q85 r.fG [] r.fU&&((Qty r r.fP).isSome&&!(r.fT.any λp=>decide (p.fA≥r.fG)||decide (p.fB≥r.fG)))):=by
  refine lpP r.fU (λn (_:Unit) i=>Qd3 fu r n i) (λpre l _=>some (Q85 r.fG pre l&&((Qty r r.fP).isSome&&!(r.fT.any λp=>decide (p.fA≥r.fG)||decide (p.fB≥r.fG))))) (by omega) ?_ ?_ fu () (by omega)
  · intro n s pre x xs hl hx hd ih
    simp only [Qd3.eq_2]
    unfold Qlk Qpt
    have hpl:pre.length≤r.fU.length:=by rw [hl]; simp
    simp only [hd,cond_true,hx,Qab,Jan hl,Qxf (λy=>Qqo fu y x) (λy=>y.qQ==x.qQ) (λy _=>rfl) (show pre.length≤1048576 by omega) (show pre.length<fu by omega),Q85,ih ()]
    cases decide (x.fL≥r.fG) <;> cases pre.any (λy=>y.qQ==x.qQ) <;> rfl
  · intro n s hd
    simp only [Qd3.eq_2]
    unfold Qlk
    simp only [hd,cond_false,Jgq h,Qab,Q2r]
    rw [Q5p (λy=>Qmv fu y r) (λp=>decide (p.fA≥r.fG)||decide (p.fB≥r.fG)) (λp _=>by
     unfold Qmv
     cases decide (p.fA≥r.fG) <;> rfl) h3 (by omega),Qab]
    cases (Qty r r.fP).isSome <;> rfl
 have e3:∀ b,Qd3 fu r fu 0=some b→Qfy fu r fu 0=some (Q86 Typ.qQ [] r.fR&&b):=by
  intro b hb
  refine lpP r.fR (λn (_:Unit) i=>Qfy fu r n i) (λpre l _=>some (Q86 Typ.qQ pre l&&b)) (by omega) ?_ ?_ fu () (by omega)
  · intro n s pre x xs hl hx hd ih
    simp only [Qfy.eq_2]
    unfold Ql2
    have hpl:pre.length≤r.fR.length:=by rw [hl]; simp
    simp only [hd,cond_true,hx,Qab,Jan hl,Q3z (λy=>Qqw fu y x) (λy=>y.qQ==x.qQ) (λy _=>rfl) (show pre.length≤1048576 by omega) (show pre.length<fu by omega),Q86,ih ()]
    cases pre.any (λy=>y.qQ==x.qQ) <;> rfl
  · intro n s hd
    simp only [Qfy.eq_2]
    unfold Ql2
    simp only [hd,cond_false,hb]
    rfl
 unfold Qp3 Q84
 rw [e3 _ e4]
 congr 1
 cases Q86 Typ.qQ [] r.fR <;> cases Q85 r.fG [] r.fU <;> cases (Qty r r.fP).isSome <;> cases r.fT.any λp=>decide (p.fA≥r.fG)||decide (p.fB≥r.fG) <;> rfl
theorem Jja {fu:Nat} {l:List Pair} (hl:l.length≤1048576) (hf:l.length<fu) (a b:Int):Qgk fu l a b=some (Qt1 l a b):=by
 unfold Qgk Qt1
 refine lp l (λn (_:Unit) i=>Qgs fu l a b n i) (λl _=>some (l.any λp=>p.fA==a&&p.fB==b)) (by omega) ?_ ?_ fu () hf
 · intro n s i x xs hx hd ih
   simp only [Qgs.eq_2]
   unfold Qn2 Qm2
   simp only [hd,cond_true,hx,Qab,ih (),List.any_cons]
   cases x.fA==a <;> cases x.fB==b <;> rfl
 · intro n s i hd
   simp only [Qgs.eq_2]
   unfold Qn2
   simp only [hd,cond_false]
   rfl
theorem Jf4 {fu:Nat} {l:List Pair} (hl:l.length≤1048576) (hf:l.length<fu) (a b:Int):Qh4 fu l a b=some (Qt1 l a b):=by
 unfold Qh4 Qdd Qdw Qt1
 have:=Qt2 l (λn i=>Qbh fu l (⟨a,b⟩:Pair) n i) (λp=>p.fA==a&&p.fB==b) (by omega) (by
  intro n i x hx hd
  simp only [Qbh.eq_2]
  unfold Qc6
  simp only [hd,cond_true,hx,Qab]
  have:decide ((⟨a,b⟩:Pair)=x)=(x.fA==a&&x.fB==b):=by
   rcases x with ⟨c,d⟩
   apply Bool.eq_iff_iff.2
   simp only [decide_eq_true_eq,Pair.mk.injEq,Bool.and_eq_true,beq_iff_eq]
   exact ⟨λ⟨h1,h2⟩=>⟨h1.symm,h2.symm⟩,λ⟨h1,h2⟩=>⟨h1.symm,h2.symm⟩⟩
  rw [this]) (by
  intro n i hd
  simp only [Qbh.eq_2]
  unfold Qc6
  simp only [hd,cond_false]) fu hf
 rw [this,Qab,Qt0 _ l 0 (by omega),Qab]
theorem Jk5 {fu:Nat} {l:List Pair} (hl:l.length≤1048576) (hf:l.length<fu) (h64:64<fu) (c:Int):Qp8 fu l c=some (Jcp l c):=by
 unfold Qp8 Jcp
 rw [Q42,Qab]
 cases hc:inb c 1 4
 · rfl
 rw [Qcu] at hc
 simp only [Bool.not_true,cond_false,Bool.true_and]
 have e4:∀ (k:Int→Option Bool) (a:Int),Qfu fu k l c a fu 0=bif (Qf5 0 c.toNat).all λb=>Qt1 l a b==Qt1 l b a then k (w64 (a+1)) else some false:=by
  intro k a
  refine lpN c (λn (_:Unit) i=>Qfu fu k l c a n i) (λxs _=>bif xs.all λb=>Qt1 l a b==Qt1 l b a then k (w64 (a+1)) else some false) (by omega) ?_ ?_ c.toNat fu () 0 (by omega) (by omega) (by omega)
  · intro n s i xs h0 h1 hd ih
    simp only [Qfu.eq_2]
    unfold Qmn
    simp only [hd,cond_true,Jf4 hl hf,Qab,ih (),List.all_cons]
    cases Qt1 l a i==Qt1 l i a <;> rfl
  · intro n s i hd
    simp only [Qfu.eq_2]
    unfold Qmn
    simp only [hd,cond_false]
    rfl
 refine lpN c (λn (_:Unit) i=>Qft fu l c n i) (λxs _=>some (xs.all λa=>Qt1 l a a&&(Qf5 0 c.toNat).all λb=>Qt1 l a b==Qt1 l b a)) (by omega) ?_ ?_ c.toNat fu () 0 (by omega) (by omega) (by omega)
 · intro n s i xs h0 h1 hd ih
   simp only [Qft.eq_2]
   unfold Ql7
   simp only [hd,cond_true,Jf4 hl hf,Qab,e4,ih (),List.all_cons]
   cases Qt1 l i i <;> cases (Qf5 0 c.toNat).all λb=>Qt1 l i b==Qt1 l b i <;> rfl
 · intro n s i hd
   simp only [Qft.eq_2]
   unfold Ql7
   simp only [hd,cond_false]
   rfl
theorem Jkp {fu:Nat} {l:List Pair} (hl:l.length≤1048576) (hf:l.length<fu) (h64:64<fu) (c:Int):Qp6 fu l c=some (Jcp l c):=by
 unfold Qp6 Jcp
 rw [Q32,Qab]
 cases hc:inb c 1 4
 · rfl
 rw [Qcu] at hc
 simp only [Bool.not_true,cond_false,Bool.true_and]
 have e4:∀ (k:Int→Option Bool) (a:Int),Qeu fu k l c a fu 0=bif (Qf5 0 c.toNat).all λb=>(!(a==b)||Qt1 l a a)&&(Qt1 l a b==Qt1 l b a) then k (w64 (a+1)) else some false:=by
  intro k a
  refine lpN c (λn (_:Unit) i=>Qeu fu k l c a n i) (λxs _=>bif xs.all λb=>(!(a==b)||Qt1 l a a)&&(Qt1 l a b==Qt1 l b a) then k (w64 (a+1)) else some false) (by omega) ?_ ?_ c.toNat fu () 0 (by omega) (by omega) (by omega)
  · intro n s i xs h0 h1 hd ih
    simp only [Qeu.eq_2]
    unfold Qln Qky
    simp only [hd,cond_true,Jja hl hf,Qab,ih (),List.all_cons]
    cases a==i <;> cases Qt1 l a a <;> cases Qt1 l a i==Qt1 l i a <;> rfl
  · intro n s i hd
    simp only [Qeu.eq_2]
    unfold Qln
    simp only [hd,cond_false]
    rfl
 have e9:Qdy fu l c fu 0=some ((Qf5 0 c.toNat).all λa=>(Qf5 0 c.toNat).all λb=>(!(a==b)||Qt1 l a a)&&(Qt1 l a b==Qt1 l b a)):=by
  refine lpN c (λn (_:Unit) i=>Qdy fu l c n i) (λxs _=>some (xs.all λa=>(Qf5 0 c.toNat).all λb=>(!(a==b)||Qt1 l a a)&&(Qt1 l a b==Qt1 l b a))) (by omega) ?_ ?_ c.toNat fu () 0 (by omega) (by omega) (by omega)
  · intro n s i xs h0 h1 hd ih
    simp only [Qdy.eq_2]
    unfold Ql3
    simp only [hd,cond_true,e4,ih (),List.all_cons]
    cases (Qf5 0 c.toNat).all λb=>(!(i==b)||Qt1 l i i)&&(Qt1 l i b==Qt1 l b i) <;> rfl
  · intro n s i hd
    simp only [Qdy.eq_2]
    unfold Ql3
    simp only [hd,cond_false]
    rfl
 rw [e9]
 congr 1
 apply Bool.eq_iff_iff.2
 simp only [List.all_eq_true,Bool.and_eq_true,Bool.or_eq_true,Bool.not_eq_true',beq_eq_false_iff_ne,beq_iff_eq]
 constructor
 · intro h a ha
   refine ⟨?_,λb hb=>(h a ha b hb).2⟩
   rcases (h a ha a ha).1 with h1 | h1
   · exact absurd rfl h1
   · exact h1
 · intro h a ha b hb
   exact ⟨.inr (h a ha).1,(h a ha).2 b hb⟩
theorem Jll {l:List Int} (h:l.length=3):∃ p q s,l=[p,q,s]:=by
 match l,h with
 | [p,q,s],_=>exact ⟨p,q,s,rfl⟩
theorem Jhi {fu:Nat} (hfu:2097153≤fu) (a b c:Int):Qng fu a b c=some [(sid a b c).1,(sid a b c).2.1,(sid a b c).2.2]:=by
 unfold Qng
 rw [Jlv hfu (by simp),Qab,show [a,b,c].length=3 from rfl]
 have hp:=Qur (kf [a,b,c]) 3
 have hs:=Qx4 (kf [a,b,c]) 3
 obtain ⟨p,q,s,hq⟩:=Jll (Qt6 (kf [a,b,c]) 3)
 rw [hq] at hp hs ⊢
 have hmem:∀ x∈[p,q,s],0≤x∧x<3:=λx hx=>by
  have:=Qc5.1 (hp.mem_iff.1 hx)
  omega
 have k1:=Q59 (keys:=[a,b,c]) (p:=p) (by have:=hmem p (by simp); simpa using this)
 have k2:=Q59 (keys:=[a,b,c]) (p:=q) (by have:=hmem q (by simp); simpa using this)
 have k3:=Q59 (keys:=[a,b,c]) (p:=s) (by have:=hmem s (by simp); simpa using this)
 rw [show ix [p,q,s] 0=some p from rfl,show ix [p,q,s] 1=some q from rfl,show ix [p,q,s] 2=some s from rfl]
 simp only [Qab,k1,k2,k3]
 have hp3:([a,b,c]).Perm [kf [a,b,c] p,kf [a,b,c] q,kf [a,b,c] s]:=(hp.map (kf [a,b,c])).symm
 simp only [List.pairwise_cons,List.mem_cons,List.not_mem_nil,or_false,forall_eq_or_imp,forall_eq,lx] at hs
 have:=Ji0 hp3 (by omega) (by omega)
 rw [this]
theorem Jgi {fu:Nat} (hfu:2097153≤fu) (x:Item) (t:Typ):Qq5 fu x t=some (Q17 x t):=by
 unfold Qq5 Q17
 rw [Jhi hfu,Jhi hfu]
 simp only [Qab]
 have e0:∀ a b c:Int,ix [a,b,c] 0=some a:=λ_ _ _=>rfl
 have e1:∀ a b c:Int,ix [a,b,c] 1=some b:=λ_ _ _=>rfl
 have e2:∀ a b c:Int,ix [a,b,c] 2=some c:=λ_ _ _=>rfl
 simp only [e0,e1,e2,Qab]
 cases decide ((sid x.fW x.fH x.fD).1≤(sid t.fW t.fH t.fD).1) <;> cases decide ((sid x.fW x.fH x.fD).2.1≤(sid t.fW t.fH t.fD).2.1) <;> cases decide ((sid x.fW x.fH x.fD).2.2≤(sid t.fW t.fH t.fD).2.2) <;> rfl
theorem Jah (a b c:Int):Q3i [a,b,c]=some [(sid a b c).1,(sid a b c).2.1,(sid a b c).2.2]:=by
 unfold Q3i
 rw [if_pos (by simp)]
 have hp:=List.mergeSort_perm [a,b,c] (λx y=>decide (x≤y))
 have hs:=Qq7 [a,b,c]
 obtain ⟨p,q,s,hq⟩:=Jll (hp.length_eq)
 rw [hq] at hp hs ⊢
 simp only [List.pairwise_cons,List.mem_cons,List.not_mem_nil,or_false,forall_eq_or_imp,forall_eq] at hs
 rw [Ji0 hp.symm (by omega) (by omega)]
theorem Jhs (fu:Nat) (x:Item) (t:Typ):Qsj fu x t=some (Q17 x t):=by
 unfold Qsj Qsr Qcl Q17
 rw [Jah,Jah]
 have e0:∀ a b c:Int,ix [a,b,c] 0=some a:=λ_ _ _=>rfl
 have e1:∀ a b c:Int,ix [a,b,c] 1=some b:=λ_ _ _=>rfl
 have e2:∀ a b c:Int,ix [a,b,c] 2=some c:=λ_ _ _=>rfl
 simp only [Qab,e0,e1,e2]
 cases decide ((sid x.fW x.fH x.fD).1≤(sid t.fW t.fH t.fD).1) <;> cases decide ((sid x.fW x.fH x.fD).2.1≤(sid t.fW t.fH t.fD).2.1) <;> cases decide ((sid x.fW x.fH x.fD).2.2≤(sid t.fW t.fH t.fD).2.2) <;> rfl
theorem Q35 {fu:Nat} {r:Request} (h:Sm fu r):Qfs fu r=some (Qhg r):=by
 have hfu:=h.fu
 have h1:=h.items
 have h2:=h.types
 have h3:=h.pairs
 have e4:Qga fu r fu 0=some (bif r.fR.any (Q87 r.fJ) then 6 else 0):=by
  refine lp r.fR (λn (_:Unit) i=>Qga fu r n i) (λl _=>some (bif l.any (Q87 r.fJ) then 6 else 0)) (by omega) ?_ ?_ fu () (by omega)
  · intro n s i x xs hx hd ih
    simp only [Qga.eq_2]
    unfold Qo0 Qsa
    simp only [hd,cond_true,hx,Qab,ih (),List.any_cons,Q87]
    cases decide (x.fW>r.fJ.fW) <;> cases decide (x.fD>r.fJ.fD) <;> cases decide (x.fH>r.fJ.fH) <;> cases decide (w64 (x.ft+x.fQ)>r.fJ.fQ) <;> rfl
  · intro n s i hd
    simp only [Qga.eq_2]
    unfold Qo0
    simp only [hd,cond_false]
    rfl
 unfold Qfs Qhg
 rw [Jk4 h,Qab,Jj9 h,Qab,Jkp h3 (by omega) (by omega),Qab,Jbg h,Qab]
 have e1:Qhr fu r (Qzh (Qty r r.fP)) fu 0=some (bif !(r.fU.all λx=>Q17 x (Qxv r)) then 5 else bif r.fR.any (Q87 r.fJ) then 6 else 0):=by
  refine lp r.fU (λn (_:Unit) i=>Qhr fu r (Qzh (Qty r r.fP)) n i) (λl _=>some (bif !(l.all λx=>Q17 x (Qxv r)) then 5 else bif r.fR.any (Q87 r.fJ) then 6 else 0)) (by omega) ?_ ?_ fu () (by omega)
  · intro n s i x xs hx hd ih
    simp only [Qhr.eq_2]
    unfold Qoz
    simp only [hd,cond_true,hx,Qab,Jgi hfu,ih (),List.all_cons]
    rw [show (Qzh (Qty r r.fP)).1=Qxv r from rfl]
    cases Q17 x (Qxv r) <;> rfl
  · intro n s i hd
    simp only [Qhr.eq_2]
    unfold Qoz
    simp only [hd,cond_false,e4]
    rfl
 rw [e1]
 cases Q4n r <;> cases Q84 r <;> cases Jcp r.fT r.fG <;> rfl
theorem Jkb {fu:Nat} {r:Request} (h:Sm fu r):Qs4 fu r=some (Qhg r):=by
 have hfu:=h.fu
 have h1:=h.items
 have h2:=h.types
 have h3:=h.pairs
 unfold Qs4 Qhg
 rw [Jgq h,Qab,Jk3 h,Qab,Jk1 h,Qab,Jk5 h3 (by omega) (by omega),Qab]
 rw [Qxf (λy=>Qqi fu y (Qzh (Qty r r.fP)).1) (λx=>!Q17 x (Qxv r)) (λx _=>by
  unfold Qqi
  rw [Jhs,Qab]; rfl) h1 (by omega),Qab]
 rw [Q3z (λy=>Qpw fu y r.fJ) (Q87 r.fJ) (λx _=>by
  unfold Qpw Q87
  cases decide (x.fW>r.fJ.fW) <;> cases decide (x.fD>r.fJ.fD) <;> cases decide (x.fH>r.fJ.fH) <;> rfl) h2 (by omega),Qab]
 rw [show (r.fU.any λx=>!Q17 x (Qxv r))=!(r.fU.all λx=>Q17 x (Qxv r)) by simp [List.not_all_eq_any_not]]
 cases Q4n r <;> cases Q84 r <;> cases Jcp r.fT r.fG <;> cases r.fU.all λx=>Q17 x (Qxv r) <;> cases r.fR.any (Q87 r.fJ) <;> rfl
theorem Qux {fu:Nat} {r:Request} (h:Sm fu r):Qfz fu r=some (Qhg r==0):=by
 unfold Qfz
 rw [Jkb h]; rfl
theorem Jek {σ α β:Type} (l:List α) (L:Nat→σ→Int→Option β) (F:List α→List α→σ→Option β) (I:List α→List α→σ→Prop) (hl:l.length≤1099511627776)
    (hs:∀ n s pre x xs,l=pre++x::xs→ix l (pre.length:Int)=some x→decide ((pre.length:Int)<(l.length:Int))=true→I pre (x::xs) s→(∀ s',I (pre++[x]) xs s'→L n s' (w64 ((pre.length:Int)+1))=F (pre++[x]) xs s')→L (n+1) s (pre.length:Int)=F pre (x::xs) s)
    (he:∀ n s,decide ((l.length:Int)<(l.length:Int))=false→I l [] s→L (n+1) s (l.length:Int)=F l [] s):∀ n s,I [] l s→l.length<n→L n s 0=F [] l s:=by
 have key:∀ (xs pre:List α) (n:Nat) (s:σ),l=pre++xs→I pre xs s→xs.length<n→L n s (pre.length:Int)=F pre xs s:=by
  intro xs
  induction xs with
  | nil =>
   intro pre n s he' hI hn
   obtain ⟨n,rfl⟩:∃ k,n=k+1:=⟨n - 1,by omega⟩
   simp only [List.append_nil] at he'
   subst he'
   exact he n s (by simp) hI
  | cons x xs ih =>
   intro pre n s he' hI hn
   obtain ⟨n,rfl⟩:∃ k,n=k+1:=⟨n - 1,by simp at hn; omega⟩
   have hlen:l.length=pre.length+(xs.length+1):=by rw [he']; simp
   refine hs n s pre x xs he' ?_ (by simp; omega) hI λs' hI'=>?_
   · rw [Qi4,he']; simp
   · rw [Qy4 _ (by omega)]
     have:=ih (pre++[x]) n s' (by simp [he']) hI' (by simp at hn; omega)
     simpa using this
 intro n s hI hn
 simpa using key l [] n s rfl hI hn
theorem Q0g {x:Item} (h:Qyk x=true):1≤x.f0∧x.f0≤6:=by
 simp only [Qyk,Bool.and_eq_true,Qcu] at h
 omega
theorem Je7 {xs:List Item} (h:∀ x∈xs,Qyk x=true):0≤Qsp (xs.map (·.f0)):=Q0e _ _ λx hx=>by have:=Q0g (h x hx); omega
theorem Jki {fu:Nat} {r:Request} (h:Sm fu r) (hb:Q4n r=true):Qdk fu r=some (l6M r):=by
 have hfu:=h.fu
 obtain ⟨hi,hs,hl⟩:=Qr2 hb
 have e4:∀ (k:List Int→Int→Option (List Int)) (i:Int) (x:Item),ix r.fU i=some x→∀ (m n:Nat) (c:Int) (out:List Int),0≤c→c≤x.f0→(x.f0 - c).toNat=m→x.f0≤6→m<n→out.length+m≤100 →
     Qg7 fu k r i n out c=k (out++List.replicate m i) (w64 (i+1)):=by
  intro k i x hx m
  induction m with
  | zero =>
   intro n c out h0 h1 h2 h3 h4 h5
   obtain ⟨n,rfl⟩:∃ j,n=j+1:=⟨n - 1,by omega⟩
   rw [Qg7.eq_2]
   unfold Ql6
   rw [hx,Qab,Qau (by simp; omega)]
   simp
  | succ m ih =>
   intro n c out h0 h1 h2 h3 h4 h5
   obtain ⟨n,rfl⟩:∃ j,n=j+1:=⟨n - 1,by omega⟩
   rw [Qg7.eq_2]
   unfold Ql6
   rw [hx,Qab,Qbj (by simp; omega),ap1 (by simp; omega),Qab,Qbe (by omega) (by omega),ih n (c+1) (out++[i]) (by omega) (by omega) (by omega) h3 (by omega) (by simp; omega)]
   rw [List.append_assoc,List.singleton_append,← List.replicate_succ]
 unfold Qdk l6M
 have:=Jek r.fU (λn out i=>Qeo fu r n out i) (λpre xs out=>some (out++Q8y (pre.length:Int) xs)) (λpre xs out=>(out.length:Int)+Qsp (xs.map (·.f0))≤12∧∀ x∈xs,Qyk x=true) (by omega) ?_ ?_ fu [] ⟨by simpa using hs,hi⟩ (by omega)
 · simpa using this
 · intro n out pre x xs hl' hx hd hI ih
   simp only [Qeo.eq_2]
   unfold Qk5
   have hc:=Q0g (hI.2 x (by simp))
   have hsum:=hI.1
   have hnn:=Je7 (λy hy=>hI.2 y (by simp [hy]):∀ y∈xs,Qyk y=true)
   simp only [List.map_cons,Qf0] at hsum
   have e:=e4 (Qeo fu r n) (pre.length:Int) x hx x.f0.toNat fu 0 out (by omega) (by omega) (by omega) (by omega) (by omega) (by omega)
   rw [hd,cond_true,e,ih _ ⟨by simp; omega,λy hy=>hI.2 y (by simp [hy])⟩]
   simp [Q8y]
 · intro n out hd hI
   simp only [Qeo.eq_2]
   unfold Qk5
   simp only [hd,cond_false]
   simp [Q8y]
theorem Jhx {fu:Nat} {r:Request} (h:Sm fu r) (hc:Qhg r=0):Qdk fu r=some (Qja r):=by
 unfold Qja
 rw [Jki h (Qez hc).1,Qbj (by simp [hc])]
theorem Jkl {fu:Nat} {r:Request} (h:Sm fu r):Qsx fu r=some (Qja r):=by
 unfold Qsx Qja
 rw [Q35 h,Qab]
 by_cases hc:Qhg r=0
 · rw [Qau (by simp [hc]),Jki h (Qez hc).1,Qab,Qbj (by simp [hc])]
 · rw [Qbj (by simp [hc]),Qau (by simp [hc])]
theorem Jl2 (fu:Nat) (c:Int) (h:1≤c∧c≤6):Qv2 fu (IntKind.wrap .u64 1) (IntKind.wrap .u64 c)=some (0,c):=by
 have:c=1∨c=2∨c=3∨c=4∨c=5∨c=6:=by omega
 rcases this with rfl | rfl | rfl | rfl | rfl | rfl <;> rfl
theorem Jjt (m:Nat) (i:Int):Qby (m+10) [i] (0,1)=some (List.replicate 1 i):=by kernel_rfl
theorem Jj8 (m:Nat) (i:Int):Qby (m+10) [i] (0,2)=some (List.replicate 2 i):=by kernel_rfl
theorem Jjs (m:Nat) (i:Int):Qby (m+10) [i] (0,3)=some (List.replicate 3 i):=by kernel_rfl
theorem Jks (m:Nat) (i:Int):Qby (m+10) [i] (0,4)=some (List.replicate 4 i):=by kernel_rfl
theorem Jk9 (m:Nat) (i:Int):Qby (m+10) [i] (0,5)=some (List.replicate 5 i):=by kernel_rfl
theorem Jkq (m:Nat) (i:Int):Qby (m+10) [i] (0,6)=some (List.replicate 6 i):=by kernel_rfl
theorem Jlx {fu:Nat} (hfu:10≤fu) (i c:Int) (h:1≤c∧c≤6):Qgg fu [i] c=some (List.replicate c.toNat i):=by
 unfold Qgg Qgw
 rw [Qau (by simp; omega)]
 rw [show (([i]:List Int).length:Int)=1 from rfl,Jl2 fu c h,Qab,Qau (by simp),Qau (by simp; omega)]
 obtain ⟨m,rfl⟩:∃ m,fu=m+10:=⟨fu - 10,by omega⟩
 have:c=1∨c=2∨c=3∨c=4∨c=5∨c=6:=by omega
 rcases this with rfl | rfl | rfl | rfl | rfl | rfl
 · exact Jjt m i
 · exact Jj8 m i
 · exact Jjs m i
 · exact Jks m i
 · exact Jk9 m i
 · exact Jkq m i
theorem Ja6 {fu:Nat} {r:Request} (h:Sm fu r):Qi1 fu r=some (Qja r):=by
 have hfu:=h.fu
 unfold Qi1 Qja
 rw [Qux h,Qab]
 by_cases hc:Qhg r=0
 · obtain ⟨hi,hs,hl⟩:=Qr2 (Qez hc).1
   rw [Qau (by simp [hc]),Qbj (by simp [hc])]
   unfold l6M
   have:=Jek r.fU (λn out i=>Qie fu r n out i) (λpre xs out=>some (out++Q8y (pre.length:Int) xs)) (λpre xs out=>(out.length:Int)+Qsp (xs.map (·.f0))≤12∧∀ x∈xs,Qyk x=true) (by omega) ?_ ?_ fu [] ⟨by simpa using hs,hi⟩ (by omega)
   · simpa using this
   · intro n out pre x xs hl' hx hd hI ih
     simp only [Qie.eq_2]
     unfold Qpo
     have hc:=Q0g (hI.2 x (by simp))
     have hsum:=hI.1
     have hnn:=Je7 (λy hy=>hI.2 y (by simp [hy]):∀ y∈xs,Qyk y=true)
     simp only [List.map_cons,Qf0] at hsum
     rw [hd,cond_true,hx,Qab,Jlx (by omega) _ _ hc,Qab,ap1 (by simp; omega),Qab,ih _ ⟨by simp; omega,λy hy=>hI.2 y (by simp [hy])⟩]
     simp [Q8y]
   · intro n out hd hI
     simp only [Qie.eq_2]
     unfold Qpo
     simp only [hd,cond_false]
     simp [Q8y]
 · rw [Qbj (by simp [hc]),Qau (by simp [hc])]
theorem Jh7 {fu:Nat} {l:List Int} (hl:l.length≤1048576) (hf:l.length<fu) (x:Int):Qrd fu l x=some (l.contains x):=by
 unfold Qrd
 refine lp l (λn (_:Unit) i=>Qik fu l x n i) (λl _=>some (l.contains x)) (by omega) ?_ ?_ fu () hf
 · intro n s i y ys hy hd ih
   simp only [Qik.eq_2]
   unfold Qpl
   simp only [hd,cond_true,hy,Qab,ih (),List.contains_cons]
   rw [Jj4 y x]
   cases x==y <;> rfl
 · intro n s i hd
   simp only [Qik.eq_2]
   unfold Qpl
   simp only [hd,cond_false]
   rfl
theorem Jfn {fu:Nat} {l:List Int} (hl:l.length≤1048576) (hf:l.length<fu) (x:Int):Qc8 fu l x=some (l.contains x):=by
 unfold Qc8 Qil
 have:=Qt2 l (λn i=>Qc7 fu l x n i) (λy=>x==y) (by omega) (by
  intro n i y hx hd
  simp only [Qc7.eq_2]
  unfold Qf6
  simp only [hd,cond_true,hx,Qab]) (by
  intro n i hd
  simp only [Qc7.eq_2]
  unfold Qf6
  simp only [hd,cond_false]) fu hf
 rw [this,Qab,Qt0 _ l 0 (by omega),List.contains_eq_any_beq]
theorem Jip {fu:Nat} {p:List Pair} (hp:p.length≤1048576) (hpf:p.length<fu) {g:List Int} (hl:g.length≤1048576) (hf:g.length<fu) (c:Int):Qqj fu p g c=some (g.all (Qyg p c)):=by
 unfold Qqj
 refine lp g (λn (_:Unit) i=>Qf2 fu p g c n i) (λl _=>some (l.all (Qyg p c))) (by omega) ?_ ?_ fu () hf
 · intro n s i y ys hy hd ih
   simp only [Qf2.eq_2]
   unfold Qls Qo7
   simp only [hd,cond_true,hy,Qab,ih (),Jja hp hpf,List.all_cons,Qyg]
   cases Qt1 p y c <;> cases Qt1 p c y <;> rfl
 · intro n s i hd
   simp only [Qf2.eq_2]
   unfold Qls
   simp only [hd,cond_false]
   rfl
theorem Jka {fu:Nat} {r:Request} (h:Sm fu r):Qqh fu r=some (Q0c r):=by
 have hfu:=h.fu
 have h1:=h.items
 unfold Qqh Q0c
 rw [Q35 h,Qab]
 by_cases hc:Qhg r=0
 · rw [show (Qhg r != 0)=false by simp [hc],show (Qhg r==0)=true by simp [hc],cond_false,cond_true]
   have e27:∀ (k:List Int→Int→Option (List Int)) (out:List Int) (c:Int),Qep fu k r out c fu false 0=bif r.fU.any (λx=>x.fL==c) then (Qac (Qg4 8 out [c]) λx=>k x (w64 (c+1))) else k out (w64 (c+1)):=by
    intro k out c
    refine lp r.fU (λn f i=>Qep fu k r out c n f i) (λl f=>bif f||l.any (λx=>x.fL==c) then (Qac (Qg4 8 out [c]) λx=>k x (w64 (c+1))) else k out (w64 (c+1))) (by omega) ?_ ?_ fu false (by omega)
    · intro n f i x xs hx hd ih
      simp only [Qep.eq_2]
      unfold Qk9 Qkn
      simp only [hd,cond_true,hx,Qab,ih,List.any_cons]
      cases f
      · rfl
      · rfl
    · intro n f i hd
      simp only [Qep.eq_2]
      unfold Qk9 Qkq
      simp only [hd,cond_false,List.any_nil,Bool.or_false]
   have:=Q8j 4 (λn out i=>Qd5 fu r n out i) (λxs out=>some (out++xs.filter λc=>r.fU.any λx=>x.fL==c)) (λxs out=>out.length+xs.length≤4) (by omega) ?_ ?_ 4 fu [] 0 (by omega) (by omega) (by omega) (by simp [Qf5])
   · simpa using this
   · intro n out i xs h0 h1 hd hI ih
     simp only [List.length_cons] at hI
     simp only [Qd5.eq_2]
     unfold Ql5
     simp only [hd,cond_true,e27]
     cases hb:r.fU.any λx=>x.fL==i
     · rw [cond_false,ih out (by omega)]
       simp [hb]
     · rw [cond_true,ap1 (by simp; omega),Qab,ih _ (by simp; omega)]
       simp [hb]
   · intro n out i hd hI
     simp only [Qd5.eq_2]
     unfold Ql5
     simp only [hd,cond_false]
     simp
 · rw [show (Qhg r != 0)=true by simp [hc],show (Qhg r==0)=false by simp [hc],cond_false,cond_true]
theorem Q9i {fu:Nat} {l:List Int} (hl:l.length≤1048576):∃ k,Qk0 fu l=some k∧k.Pairwise (·<·)∧∀ x,x∈k↔x∈l:=by
 unfold Qk0 Qdc Qcl Qkc
 have hp:=List.mergeSort_perm l (λx y=>decide (x≤y))
 have hs:=Qq7 l
 rw [ap1 (by simp; omega),Qab,Qab,List.nil_append]
 unfold Q3i
 rw [if_pos (by omega),Qab]
 unfold Jjj
 rw [if_pos (by rw [hp.length_eq]; omega),Qab]
 obtain ⟨h1,h2⟩:=Q2h _ hs
 exact ⟨_,rfl,h1,λx=>(h2 x).trans hp.mem_iff⟩
theorem Q14 {fu:Nat} {l:List Int} (hl:l.length≤1048576) (hs:l.Pairwise (·<·)):Qk0 fu l=some l:=by
 obtain ⟨k,h1,h2,h3⟩:=Q9i (fu:=fu) hl
 rw [h1,Q9x h2 hs h3]
theorem Jkh {fu:Nat} {r:Request} (h:Sm fu r):Qqb fu r=some (Q0c r):=by
 have hfu:=h.fu
 have h1:=h.items
 unfold Qqb
 rw [Qux h,Qab]
 by_cases hc:Qhg r=0
 · rw [show (Qhg r==0)=true by simp [hc],Bool.not_true,cond_false]
   have:=lpI r.fU (λn out i=>Qha fu r n out i) (λxs out=>Qac (Qk0 fu (out++xs.map (·.fL))) λx=>some x) (λxs out=>out.length+xs.length≤1048576) (by omega) ?_ ?_ fu [] (by simpa using h1) (by omega)
   · rw [List.nil_append] at this
     refine this.trans ?_
     obtain ⟨k,e1,e2,e3⟩:=Q9i (fu:=fu) (l:=r.fU.map (·.fL)) (by simpa using h1)
     rw [e1,Qab]
     congr 1
     refine Q9x e2 (Quw r) λx=>?_
     rw [e3]
     unfold Q0c
     rw [show (Qhg r==0)=true by simp [hc],cond_true,List.mem_filter,Qc5,List.any_eq_true,List.mem_map]
     constructor
     · rintro ⟨y,hy,rfl⟩
       have:=(Qr2 (Qez hc).1).1 y hy
       simp only [Qyk,Bool.and_eq_true,Qcu] at this
       exact ⟨by omega,y,hy,by simp⟩
     · rintro ⟨_,y,hy,e⟩
       exact ⟨y,hy,by simpa using e⟩
   · intro n out i x xs hx hd hI ih
     simp only [List.length_cons] at hI
     simp only [Qha.eq_2]
     unfold Ql1
     simp only [hd,cond_true,hx,Qab]
     rw [ap1 (by simp; omega),Qab,ih _ (by simp; omega)]
     simp
   · intro n out i hd hI
     simp only [Qha.eq_2]
     unfold Ql1
     simp only [hd,cond_false]
     simp
 · rw [show (Qhg r==0)=false by simp [hc],Bool.not_false,cond_true]
   unfold Q0c
   rw [show (Qhg r==0)=false by simp [hc],cond_false]
theorem Q5q {α:Type} (g:α→Bool) (x:α):∀ (l:List α),Qxb g (l++[x])=match Qxb g l with | some i=>some i | none=>bif g x then some l.length else none
 | []=>by simp [Qxb]
 | y::ys=>by
  simp only [List.cons_append,Qxb]
  cases g y
  · simp only [cond_false]
    rw [Q5q g x ys]
    cases Qxb g ys <;> simp
    cases g x <;> simp
  · rfl
def atB {α:Type} (g:α→Bool) (l:List α) (i:Int):Bool:=match ix l i with | some x=>g x | none=>false
def Jef {α:Type} (g:α→Bool) (l:List α) (a i:Int):Int:=bif atB g l i then i else a
theorem Q0o {α:Type} (g:α→Bool) (l:List α):∀ (m:Nat) (a:Int),m≤l.length→(Qwa m).foldl (Jef g l) a=match Qxb g (l.take m) with | some i=>(i:Int) | none=>a
 | 0,a,_=>by simp [Qwa,Qxb]
 | m+1,a,h=>by
  simp only [Qwa,List.foldl_cons]
  rw [Q0o g l m _ (by omega),List.take_succ_eq_append_getElem (by omega),Q5q,List.length_take,Nat.min_eq_left (by omega)]
  unfold Jef atB
  rw [Qzw (by omega)]
  cases Qxb g (l.take m) with
  | some i=>rfl
  | none =>
   simp only
   cases g l[m] <;> rfl
theorem Q3v {α:Type} (g:α→Bool):∀ (l:List α) (i:Int),Qyi g l i=match Qxb g l with | some j=>i+j | none=>-1
 | [],i=>rfl
 | x::xs,i=>by
  simp only [Qyi,Qxb]
  cases g x
  · simp only [cond_false]
    rw [Q3v g xs (i+1)]
    cases Qxb g xs with
    | none=>rfl
    | some j =>
     show i+1+(j:Int)=i+((j+1:Nat):Int)
     omega
  · simp
theorem Je8 {p:List Pair} {out:List (List Int)} {c:Int} {n:Nat} (h:okG n out) (hn:n≤1048576) {β:Type} (k:List (List Int)→Option β) (a:Int) (ha:a=match Qxb (λg=>g.all (Qyg p c)) out with | some i=>(i:Int) | none=>-1) :
    (bif (decide (a<0)) then Qac (Qg4 24 out [([c]:List Int)]) λx=>k x else Qac (ix out a) λx=>Qac (Qg4 8 x (([c]:List Int))) λy=>Qac (ix out a) λz=>k (Qhe out a y))=k (Q50 p out c):=by
 obtain ⟨h1,h2⟩:=h
 unfold Q50
 cases hf:Qxb (λg=>g.all (Qyg p c)) out with
 | none =>
  rw [hf] at ha
  simp only at ha
  subst ha
  rw [Qbj (by simp),ap1 (by simp; omega),Qab]
 | some i =>
  rw [hf] at ha
  simp only at ha
  subst ha
  obtain ⟨x,hx,_⟩:=Quv hf
  have:=h2 x (List.mem_of_getElem? hx)
  rw [Qau (by simp),Qi4,hx,Qab,ap1 (by simp; omega),Qab,Qab]
  simp [Qhe,hx]
theorem Jh0 {fu:Nat} {p:List Pair} (hp:p.length≤1048576) (hfu:2097153≤fu) {l:List Int} (hl:l.length≤1048576):Qri fu p l=some (((Qf5 0 4).filter l.contains).foldl (Q50 p) []):=by
 unfold Qri
 have e27:∀ (k:List (List Int)→Int→Option (List (List Int))) (out:List (List Int)) (c:Int),okG 4 out→Qfa fu k p out c fu (-1) (w64 ((out.length:Int) - 1))=k (Q50 p out c) (w64 (c+1)):=by
  intro k out c ho
  obtain ⟨R,hR⟩:∃ R:Int→Option (List (List Int)),R=λa=>bif (decide (a<0)) then Qac (Qg4 24 out [([c]:List Int)]) λx=>k x (w64 (c+1)) else Qac (ix out a) λx=>Qac (Qg4 8 x (([c]:List Int))) λy=>Qac (ix out a) λz=>k (Qhe out a y) (w64 (c+1)):=⟨_,rfl⟩
  have:=lpD out.length (λn a i=>Qfa fu k p out c n a i) (λxs a=>R (xs.foldl (Jef (λg=>g.all (Qyg p c)) out) a)) (by have:=ho.1; omega) ?_ ?_ fu (-1) (by have:=ho.1; omega)
  · rw [this,hR]
    refine Je8 (p:=p) ho (by omega) (λx=>k x (w64 (c+1))) _ ?_
    rw [Q0o (λg=>g.all (Qyg p c)) out out.length (-1) (Nat.le_refl _),List.take_length]
  · intro n a i xs h0 h1 hd ih
    simp only [Qfa.eq_2]
    unfold Qnl Qmy
    obtain ⟨j,rfl⟩:∃ j:Nat,i=j:=⟨i.toNat,by omega⟩
    have hj:j<out.length:=by omega
    have hg:=ho.2 _ (List.getElem_mem hj)
    simp only [hd,cond_true,Qzw hj,Qab,Jip hp (by omega) (show out[j].length≤1048576 by omega) (show out[j].length<fu by omega),ih,List.foldl_cons]
    have e:Jef (λg=>g.all (Qyg p c)) out a (j:Int)=bif out[j].all (Qyg p c) then (j:Int) else a:=by unfold Jef atB; rw [Qzw hj]
    rw [e]
    cases out[j].all (Qyg p c) <;> rfl
  · intro n a i hd
    simp only [Qfa.eq_2]
    unfold Qnl Qhw
    simp only [hd,cond_false,List.foldl_nil,hR]
 have:=Q8j 4 (λn out i=>Qem fu p l n out i) (λxs out=>some ((xs.filter l.contains).foldl (Q50 p) out)) (λxs out=>∃ m,m+xs.length≤4∧okG m out) (by omega) ?_ ?_ 4 fu [] 0 (by omega) (by omega) (by omega) ⟨0,by simp [Qf5],by simp,by simp⟩
 · exact this
 · intro n out i xs h0 h1 hd hI ih
   obtain ⟨m,hm,ho⟩:=hI
   simp only [List.length_cons] at hm
   simp only [Qem.eq_2]
   unfold Qnw Qhw
   simp only [hd,cond_true,Jh7 hl (show l.length<fu by omega),Qab]
   cases hb:l.contains i
   · rw [Bool.not_false,cond_true,ih out ⟨m,by omega,ho⟩,List.filter_cons_of_neg (by rw [hb]; simp)]
   · rw [Bool.not_true,cond_false,e27 _ out i ⟨by have:=ho.1; omega,λg hg=>by have:=ho.2 g hg; omega⟩,ih _ ⟨m+1,by omega,Q6q i ho⟩,List.filter_cons_of_pos hb,List.foldl_cons]
 · intro n out i hd hI
   simp only [Qem.eq_2]
   unfold Qnw
   simp only [hd,cond_false]
   simp
theorem Q8x (r:Request):(Qf5 0 4).filter (Q0c r).contains=Q0c r :=
 Q9x ((Qun 0 4).filter _) (Quw r) λx=>by
  rw [List.mem_filter,Qc5]
  constructor
  · rintro ⟨_,h⟩; simpa using h
  · intro h; have:=Q7x h; exact ⟨by omega,by simpa using h⟩
theorem Jfw {fu:Nat} {r:Request} (h:Sm fu r):Qif fu r=some (Qhv r):=by
 unfold Qif Qhv
 rw [Jka h,Qab,Jh0 h.pairs h.fu (by have:=Q3h r; omega),Qab,Q8x]
theorem Jkc {fu:Nat} {p:List Pair} (hp:p.length≤1048576) (hpf:p.length<fu) (a b:Int):Qry fu p a b=some (Qyg p a b):=by
 unfold Qry Qyg
 simp only [Jf4 hp hpf,Qab]
 cases Qt1 p a b <;> rfl
theorem Q69 {fu:Nat} {l:List Int} (f:Int→Option Bool) (g:Int→Bool) (hg:∀ x∈l,f x=some (g x)) (hl:l.length≤1048576) (hf:l.length<fu):Qdq fu l f=some (Qyi g l 0):=by
 unfold Qdq
 refine Qt2 l (λn i=>Qcg fu l f n i) g (by omega) ?_ ?_ fu hf
 · intro n i x hx hd
   simp only [Qcg.eq_2]
   unfold Qes
   simp only [hd,cond_true,hx,Qab,hg x (Qf7 hx)]
 · intro n i hd
   simp only [Qcg.eq_2]
   unfold Qes
   simp only [hd,cond_false]
theorem Q7c {fu:Nat} {l:List Int} (f:Int→Option Bool) (g:Int→Bool) (hg:∀ x∈l,f x=some (g x)) (hl:l.length≤1048576) (hf:l.length<fu):Qcz fu l f=some (l.any g):=by
 unfold Qcz
 rw [Q69 f g hg hl hf,Qab,Qt0 g l 0 (by omega)]
theorem Q5n {fu:Nat} {l:List (List Int)} (f:List Int→Option Bool) (g:List Int→Bool) (hg:∀ x∈l,f x=some (g x)) (hl:l.length≤1048576) (hf:l.length<fu):Qdi fu l f=some (Qyi g l 0):=by
 unfold Qdi
 refine Qt2 l (λn i=>Qb5 fu l f n i) g (by omega) ?_ ?_ fu hf
 · intro n i x hx hd
   simp only [Qb5.eq_2]
   unfold Qei
   simp only [hd,cond_true,hx,Qab,hg x (Qf7 hx)]
 · intro n i hd
   simp only [Qb5.eq_2]
   unfold Qei
   simp only [hd,cond_false]
theorem Jjg {fu:Nat} {p:List Pair} (hp:p.length≤1048576) (hfu:2097153≤fu) {l:List Int} (hl:l.length≤4) (hs:l.Pairwise (·<·)) (hm:∀ c∈l,0≤c∧c<4):Qrr fu p l=some (l.foldl (Q50 p) []):=by
 unfold Qrr
 rw [Q14 (by omega) hs,Qab]
 have:=lpI l (λn out i=>Qfe fu p l n out i) (λxs out=>some (xs.foldl (Q50 p) out)) (λxs out=>(∃ m,m+xs.length≤4∧okG m out)∧∀ c∈xs,0≤c∧c<4) (by omega) ?_ ?_ fu [] ⟨⟨0,by simpa using hl,by simp,by simp⟩,hm⟩ (by omega)
 · exact this
 · intro n out i c xs hx hd hI ih
   obtain ⟨⟨m,hm,ho⟩,hc⟩:=hI
   simp only [List.length_cons] at hm
   have hc0:=hc c (by simp)
   simp only [Qfe.eq_2]
   unfold Qnq Qit
   simp only [hd,cond_true,hx,Qab,Q42]
   rw [show inb c 0 3=true by simp; omega,Bool.not_true,cond_false]
   rw [Q5n (λy=>Qok fu y p c) (λg=>g.all (Qyg p c)) (λg hg=>by
    have hgl:=ho.2 g hg
    unfold Qok
    rw [Q7c (λy=>Qkl fu y p c) (λx=>!Qyg p c x) (λx _=>by
     unfold Qkl
     rw [Jkc hp (by omega),Qab]) (by omega) (by omega),Qab]
    simp [List.any_eq_not_all_not]) (by have:=ho.1; omega) (by have:=ho.1; omega),Qab]
   rw [Je8 (p:=p) ho (by omega) (λx=>Qfe fu p l n x (w64 (i+1))) (Qyi (λg=>g.all (Qyg p c)) out 0) (by
    rw [Q3v]
    cases Qxb (λg=>g.all (Qyg p c)) out <;> simp)]
   rw [ih _ ⟨⟨m+1,by omega,Q6q c ho⟩,λy hy=>hc y (by simp [hy])⟩]
   rfl
 · intro n out i hd hI
   simp only [Qfe.eq_2]
   unfold Qnq
   simp only [hd,cond_false]
   rfl
theorem Jdk {fu:Nat} {r:Request} (h:Sm fu r):Qhp fu r=some (Qhv r):=by
 unfold Qhp
 rw [Qux h,Qab]
 by_cases hc:Qhg r=0
 · rw [show (Qhg r==0)=true by simp [hc],Bool.not_true,cond_false,Jkh h,Qab,Jjg h.pairs h.fu (Q3h r) (Quw r) (λc hc=>Q7x hc),Qab]
   rfl
 · rw [show (Qhg r==0)=false by simp [hc],Bool.not_false,cond_true]
   unfold Qhv Q0c
   rw [show (Qhg r==0)=false by simp [hc],cond_false]
   rfl
theorem Jbf (r:Request):w64 (((Qhv r).length:Int) - 1)=((Qhv r).length:Int) - 1:=by
 have:=(Qt5 r).1
 exact Qbe (by omega) (by omega)
theorem Q4l {fu:Nat} (n:Nat) (hn:n≤1048576) (hf:n<fu):Qld fu (n:Int)=some (Qf5 0 n):=by
 unfold Qld
 have:=Q8j (n:Int) (λk out i=>Qhx fu (n:Int) k out i) (λxs out=>some (out++xs)) (λxs out=>out.length+xs.length≤1048576) (by omega) ?_ ?_ n fu [] 0 (by omega) (by omega) hf (by simpa [Qcs] using hn)
 · simpa using this
 · intro k out i xs h0 h1 hd hI ih
   simp only [List.length_cons] at hI
   simp only [Qhx.eq_2]
   unfold Qnj
   rw [hd,cond_true,ap1 (by simp; omega),Qab,ih _ (by simp; omega)]
   simp
 · intro k out i hd hI
   simp only [Qhx.eq_2]
   unfold Qnj
   simp only [hd,cond_false]
   simp
theorem Jbq {α:Type} (g:α→Bool):∀ (l pre:List α),(Qyi g l pre.length=-1∧∀ x∈l,g x=false)∨(∃ a x b,l=a++x::b∧(∀ y∈a,g y=false)∧g x=true∧Qyi g l pre.length=((pre.length+a.length:Nat):Int))
 | [],pre=>.inl ⟨rfl,by simp⟩
 | x::xs,pre=>by
  simp only [Qyi]
  by_cases hx:g x=true
  · rw [hx,cond_true]; exact .inr ⟨[],x,xs,rfl,by simp,hx,by simp⟩
  · have hx':g x=false:=by simpa using hx
    rw [hx',cond_false]
    have:=Jbq g xs (pre++[x])
    simp only [List.length_append,List.length_singleton] at this
    rw [show ((pre.length+1:Nat):Int)=(pre.length:Int)+1 by omega] at this
    rcases this with ⟨h1,h2⟩ | ⟨a,y,b,h1,h2,h3,h4⟩
    · exact .inl ⟨h1,by simpa [hx'] using h2⟩
    · exact .inr ⟨x::a,y,b,by simp [h1],by simpa [hx'] using h2,h3,by rw [h4]; simp; omega⟩
theorem Jhr {fu:Nat} {l:List Int} (f:Int→Option Bool) (g:Int→Bool) (hg:∀ x∈l,f x=some (g x)) (hl:l.length≤1048576) (hf:l.length<fu):Qdh fu l f=some (l.filter λx=>!g x):=by
 unfold Qdh
 rw [Q69 f g hg hl hf,Qab]
 have hp:=Jbq g l []
 simp only [List.length_nil,Nat.zero_add] at hp
 rcases hp with ⟨h1,h2⟩ | ⟨a,x,b,h1,h2,h3,h4⟩
 · have h1':Qyi g l 0=-1:=h1
   rw [h1',Qbj (by simp)]
   congr 1
   exact (List.filter_eq_self.2 λy hy=>by simp [h2 y hy]).symm
 · have h4':Qyi g l 0=(a.length:Int):=h4
   rw [h4',Qau (by simp)]
   have key:∀ (rest kept mid pre:List Int) (n:Nat),l=pre++rest→kept=pre.filter (λx=>!g x)→mid≠[]→kept.length+mid.length=pre.length→rest.length<n →
       Qbp fu f n (kept++mid++rest) (kept.length:Int) (pre.length:Int)=some (l.filter λx=>!g x):=by
    intro rest
    induction rest with
    | nil =>
     intro kept mid pre n e1 e2 e3 e4 hn
     obtain ⟨n,rfl⟩:∃ j,n=j+1:=⟨n - 1,by omega⟩
     rw [Qbp.eq_2]
     unfold Qeh
     simp only [List.append_nil] at *
     subst e1
     rw [Qau (by simp; omega),Quo ⟨by omega,by simp; omega,by omega⟩,Qab,Quo ⟨by omega,by omega,by simp [Q5z]; omega⟩,Qab]
     rw [← e2]
     simp [Q5z]
    | cons y rest ih =>
     intro kept mid pre n e1 e2 e3 e4 hn
     obtain ⟨n,rfl⟩:∃ j,n=j+1:=⟨n - 1,by simp at hn; omega⟩
     have hlen:l.length=pre.length+(rest.length+1):=by rw [e1]; simp
     have hyl:y∈l:=by rw [e1]; simp
     obtain ⟨m,ms,rfl⟩:∃ m ms,mid=m::ms:=by
      cases mid with
      | nil=>exact absurd rfl e3
      | cons m ms=>exact ⟨m,ms,rfl⟩
     simp only [List.length_cons] at e4 hn
     have hx:ix (kept++(m::ms)++y::rest) (pre.length:Int)=some y:=by
      rw [Qi4,List.getElem?_append_right (by simp; omega)]
      simp only [List.length_append,List.length_cons]
      rw [show pre.length - (kept.length+(ms.length+1))=0 by omega]; rfl
     have hk:ix (kept++(m::ms)++y::rest) (kept.length:Int)=some m:=by
      rw [Qi4]; simp
     rw [Qbp.eq_2]
     unfold Qeh Qdo
     rw [Qbj (by simp; omega),hx,Qab,hg y hyl,Qab]
     cases hgy:g y
     · rw [Bool.not_false,cond_true,hk,Qab,Qy4 _ (by omega),Qy4 _ (by omega)]
       have e5:Qhe (kept++(m::ms)++y::rest) (kept.length:Int) y=(kept++[y])++(ms++[y])++rest:=by simp [Qhe]
       rw [e5]
       have:=ih (kept++[y]) (ms++[y]) (pre++[y]) n (by simp [e1]) (by rw [e2,List.filter_append]; simp [hgy]) (by simp) (by simp; omega) (by omega)
       simp only [List.length_append,List.length_singleton] at this
       exact this
     · rw [Bool.not_true,cond_false,Qy4 _ (by omega)]
       have:=ih kept ((m::ms)++[y]) (pre++[y]) n (by simp [e1]) (by rw [e2,List.filter_append]; simp [hgy]) (by simp) (by simp; omega) (by omega)
       simp only [List.length_append,List.length_singleton] at this
       rw [show kept++(m::ms)++y::rest=kept++((m::ms)++[y])++rest by simp]
       exact this
   have hlen:l.length=a.length+(b.length+1):=by rw [h1]; simp
   have ha:a.filter (λx=>!g x)=a:=List.filter_eq_self.2 λy hy=>by simp [h2 y hy]
   have:=key b a [x] (a++[x]) fu (by simp [h1]) (by rw [List.filter_append,ha]; simp [h3]) (by simp) (by simp) (by omega)
   rw [Qy4 _ (by omega)]
   simp only [List.length_append,List.length_singleton] at this
   rw [show a++[x]++b=l by simp [h1]] at this
   exact this
def dnk (keys:List Int) (p:Int):Int:=- kf keys p
theorem Jen {fu:Nat} {keys:List Int} (hfu:2097153≤fu) (hl:keys.length≤1048576):Qhl fu keys=some (srt (dnk keys) keys.length):=by
 unfold Qhl Qpx
 rw [Q77 keys.length hl (by omega),Qab]
 obtain ⟨m,rfl⟩:∃ m,fu=m+1:=⟨fu - 1,by omega⟩
 rw [Q7g true hfu m _ (by rw [Qcs]; omega) (by rw [Qcs]; omega) (λp hp=>by have:=Qc5.1 hp; omega),Qab]
 congr 1
 have e:dk keys true=dnk keys:=rfl
 rw [e]
 exact Q39 (Qtg _ _ _) (Que _ _ _ (by rw [Qcs]; omega) (Qun _ _))
def Q2d (k:Int→Int) (x:Int):List Int→List Int→List Int
 | [],mid=>x::mid
 | y::ys,mid=>if k x<k y then Q2d k x ys (y::mid) else (y::ys).reverse++x::mid
theorem Q0x (k:Int→Int) (x:Int):∀ (ys mid:List Int),(Q2d k x ys mid).Perm (ys.reverse++x::mid)
 | [],mid=>List.Perm.refl _
 | y::ys,mid=>by
  unfold Q2d
  split
  · refine (Q0x k x ys (y::mid)).trans ?_
    rw [List.reverse_cons,List.append_assoc]
    refine List.Perm.append_left _ ?_
    exact List.Perm.swap _ _ _
  · exact List.Perm.refl _
theorem Qz3 (k:Int→Int) (x:Int):∀ (ys mid:List Int),(ys.reverse++mid).Pairwise (lx k)→(∀ m∈mid,lx k x m)→(∀ p∈ys,p<x)→(Q2d k x ys mid).Pairwise (lx k)
 | [],mid,h,hm,_=>by
  unfold Q2d
  exact List.pairwise_cons.2 ⟨hm,by simpa using h⟩
 | y::ys,mid,h,hm,hy=>by
  unfold Q2d
  rw [List.reverse_cons,List.append_assoc] at h
  split
  · rename_i hk
    refine Qz3 k x ys (y::mid) (by simpa using h) ?_ (λp hp=>hy p (by simp [hp]))
    intro m hmm
    rcases List.mem_cons.1 hmm with rfl | hmm
    · exact .inl hk
    · exact hm m hmm
  · rename_i hk
    have hyx:lx k y x:=by
     have:=hy y (by simp)
     by_cases he:k y<k x
     · exact .inl he
     · exact .inr ⟨by omega,this⟩
    rw [List.reverse_cons,List.append_assoc]
    obtain ⟨h1,h2,h3⟩:=List.pairwise_append.1 h
    simp only [List.singleton_append] at h2 h3
    refine List.pairwise_append.2 ⟨h1,?_,?_⟩
    · simp only [List.singleton_append]
      obtain ⟨h4,h5⟩:=List.pairwise_cons.1 h2
      refine List.pairwise_cons.2 ⟨?_,List.pairwise_cons.2 ⟨hm,h5⟩⟩
      intro m hmm
      rcases List.mem_cons.1 hmm with rfl | hmm
      · exact hyx
      · exact h4 m hmm
    · intro a ha b hb
      simp only [List.singleton_append,List.mem_cons] at hb
      have hay:=h3 a ha y (by simp)
      rcases hb with rfl | rfl | hb
      · exact hay
      · exact Jdr hay hyx
      · exact h3 a ha b (by simp [hb])
theorem Q62 (k:Int→Int) (x:Int):∀ (ys mid rest:List Int),Q2d k x ys (mid++rest)=Q2d k x ys mid++rest
 | [],mid,rest=>rfl
 | y::ys,mid,rest=>by
  unfold Q2d
  split
  · exact Q62 k x ys (y::mid) rest
  · simp
theorem Jkk {A:List Int} {y:Int} {B:List Int} {n:Nat} (h:A.length=n):ix (A++y::B) (n:Int)=some y:=by subst h; rw [Qi4]; simp
theorem Jee {A:List Int} {y z:Int} {B:List Int} {n:Nat} (h:A.length=n):Qhe (A++y::B) (n:Int) z=A++z::B:=by subst h; simp [Qhe]
theorem Q72 {fu:Nat} {f:Int→Int→Option Int} {k:Int→Int} (K9:List Int→Int→Option (List Int)) (i0:Int) (hf:∀ a b c,f a b=some c→(c<0↔k a<k b)) (x:Int) :
    ∀ (ys mid:List Int) (n:Nat),(∀ p∈ys,∃ c,f x p=some c)→ys.length<n→ys.length≤1048576→Qbc fu K9 0 f i0 n (ys.reverse++x::mid) (ys.length:Int)=K9 (Q2d k x ys mid) (w64 (i0+1))
 | [],mid,n,_,hn,_=>by
  obtain ⟨n,rfl⟩:∃ j,n=j+1:=⟨n - 1,by omega⟩
  rw [Qbc.eq_2]
  unfold Qdb Q2d
  rw [Qau (by simp)]; rfl
 | y::ys,mid,n,hy,hn,hl=>by
  simp only [List.length_cons] at hn hl
  obtain ⟨n,rfl⟩:∃ j,n=j+1:=⟨n - 1,by omega⟩
  obtain ⟨c,hc⟩:=hy y (by simp)
  have hw:w64 (((y::ys).length:Int) - 1)=(ys.length:Int):=by simp only [List.length_cons]; rw [Qbe (by omega) (by omega)]; omega
  have e0:(y::ys).reverse++x::mid=ys.reverse++y::x::mid:=by simp
  have e1:ix ((y::ys).reverse++x::mid) ((y::ys).length:Int)=some x:=Jkk (by simp)
  have e2:ix ((y::ys).reverse++x::mid) (ys.length:Int)=some y:=by rw [e0]; exact Jkk (by simp)
  rw [Qbc.eq_2]
  unfold Qdb Q2d
  rw [Qbj (by simp),e1,Qab,hw,e2,Qab,hc,Qab]
  by_cases hk:k x<k y
  · rw [if_pos hk,decide_eq_true ((hf _ _ _ hc).2 hk),cond_true]
    unfold Qdj
    have e3:Qhe ((y::ys).reverse++x::mid) ((y::ys).length:Int) y=(y::ys).reverse++y::mid:=Jee (by simp)
    have e4:ix ((y::ys).reverse++y::mid) (ys.length:Int)=some y:=by rw [show (y::ys).reverse++y::mid=ys.reverse++y::y::mid by simp]; exact Jkk (by simp)
    have e5:Qhe ((y::ys).reverse++y::mid) (ys.length:Int) x=ys.reverse++x::y::mid:=by rw [show (y::ys).reverse++y::mid=ys.reverse++y::y::mid by simp]; exact Jee (by simp)
    rw [hw,e2,Qab,e1,Qab,Qab,e3,e4,Qab,e5]
    exact Q72 K9 i0 hf x ys (y::mid) n (λp hp=>hy p (by simp [hp])) (by omega) (by omega)
  · rw [if_neg hk,decide_eq_false (λh=>hk ((hf _ _ _ hc).1 h)),cond_false]
def Jfy (k:Int→Int):List Int→List Int→List Int
 | P,[]=>P
 | P,x::xs=>Jfy k (Q2d k x P.reverse []) xs
theorem Q4z (k:Int→Int):∀ (xs P:List Int),P.Pairwise (lx k)→(∀ p∈P,∀ x∈xs,p<x)→xs.Pairwise (·<·)→(Jfy k P xs).Perm (P++xs)∧(Jfy k P xs).Pairwise (lx k)
 | [],P,h,_,_=>by simpa [Jfy] using h
 | x::xs,P,h,hp,hx=>by
  obtain ⟨h1,h2⟩:=List.pairwise_cons.1 hx
  have hs:(Q2d k x P.reverse []).Pairwise (lx k):=Qz3 k x P.reverse [] (by simpa using h) (by simp) (λp hp'=>hp p (by simpa using hp') x (by simp))
  have hpm:(Q2d k x P.reverse []).Perm (P++[x]):=by simpa using Q0x k x P.reverse []
  have ih:=Q4z k xs (Q2d k x P.reverse []) hs (λp hp' y hy=>by
   rcases List.mem_append.1 (hpm.mem_iff.1 hp') with h' | h'
   · exact hp p h' y (by simp [hy])
   · rw [List.mem_singleton.1 h']; exact h1 y hy) h2
  refine ⟨?_,ih.2⟩
  unfold Jfy
  refine ih.1.trans ?_
  refine (hpm.append_right xs).trans ?_
  simp
theorem Q9s {fu:Nat} {f:Int→Int→Option Int} {k:Int→Int} (hfu:2097153≤fu) (hf:∀ a b c,f a b=some c→(c<0↔k a<k b)) {n:Nat} (hn:n≤1048576) (hin:∀ a b:Int,0≤a→a<n→0≤b→b<n→∃ c,f a b=some c) :
    ∀ (xs P:List Int) (m:Nat),xs.length<m→P.length+xs.length=n→(∀ p∈P++xs,0≤p∧p<n)→Qao fu 0 (n:Int) f m (P++xs) (P.length:Int)=some (Jfy k P xs)
 | [],P,m,hm,hl,_=>by
  obtain ⟨m,rfl⟩:∃ j,m=j+1:=⟨m - 1,by omega⟩
  simp only [List.length_nil] at hl
  rw [Qao.eq_2]
  unfold Qca
  rw [Qau (by simp; omega)]; simp [Jfy]
 | x::xs,P,m,hm,hl,hp=>by
  simp only [List.length_cons] at hl hm
  obtain ⟨m,rfl⟩:∃ j,m=j+1:=⟨m - 1,by omega⟩
  rw [Qao.eq_2]
  unfold Qca
  rw [Qbj (by simp; omega)]
  have key:=Q72 (fu:=fu) (f:=f) (k:=k) (Qao fu 0 (n:Int) f m) (P.length:Int) hf x P.reverse xs fu (λp hp'=>by
   have h1:=hp p (by simp at hp'; simp [hp'])
   have h2:=hp x (by simp)
   exact hin x p h2.1 h2.2 h1.1 h1.2) (by simp; omega) (by simp; omega)
  rw [List.reverse_reverse,List.length_reverse] at key
  rw [key,Qy4 _ (by omega)]
  have e:Q2d k x P.reverse xs=Q2d k x P.reverse []++xs:=by
   have:=Q62 k x P.reverse [] xs
   simpa using this
  have hpm:(Q2d k x P.reverse []).Perm (P++[x]):=by simpa using Q0x k x P.reverse []
  have hlen:(Q2d k x P.reverse []).length=P.length+1:=by rw [hpm.length_eq]; simp
  rw [e]
  have ih:=Q9s hfu hf hn hin xs (Q2d k x P.reverse []) m (by omega) (by omega) (λp hp'=>by
   rcases List.mem_append.1 hp' with h' | h'
   · rcases List.mem_append.1 (hpm.mem_iff.1 h') with h'' | h''
     · exact hp p (by simp [h''])
     · exact hp p (by rw [List.mem_singleton.1 h'']; simp)
   · exact hp p (by simp [h']))
  rw [hlen] at ih
  rw [ih]; rfl
theorem Jkr (fu:Nat) (a b:Int):∃ c,Qp5 fu a b=some c∧(c<0↔a<b):=by
 unfold Qp5
 by_cases h:a<b
 · exact ⟨-1,by simp [h],by simp [h]⟩
 · by_cases h2:a>b
   · exact ⟨1,by simp [h,h2],by simp [h]⟩
   · exact ⟨0,by simp [h,h2],by simp [h]⟩
theorem Jet {fu:Nat} {keys:List Int} (hfu:2097153≤fu) (hl:keys.length<20):Qho fu keys=some (srt (dnk keys) keys.length):=by
 unfold Qho Qev Qgy
 rw [Q4l _ (by omega) (by omega),Qab]
 obtain ⟨f,hfd⟩:∃ f:Int→Int→Option Int,f=λa b=>Qfo fu a b keys:=⟨_,rfl⟩
 have hdef:∀ a b:Int,0≤a→a<keys.length→0≤b→b<keys.length→∃ c,f a b=some c∧(c<0↔dnk keys a<dnk keys b):=by
  intro a b ha ha' hb hb'
  obtain ⟨c,h1,h2⟩:=Jkr fu (kf keys b) (kf keys a)
  refine ⟨c,?_,?_⟩
  · rw [hfd]
    show Qfo fu a b keys=_
    unfold Qfo
    rw [Q59 ⟨hb,hb'⟩,Qab,Q59 ⟨ha,ha'⟩,Qab,h1,Qab]
  · rw [h2]; unfold dnk; omega
 have hf:∀ a b c,f a b=some c→(c<0↔dnk keys a<dnk keys b):=by
  intro a b c h
  have h0:=h
  rw [hfd] at h
  change Qfo fu a b keys=_ at h
  unfold Qfo at h
  obtain ⟨x,hx,h⟩:=Qud h
  obtain ⟨y,hy,h⟩:=Qud h
  obtain ⟨b0,b1,_⟩:=Qal hx
  obtain ⟨a0,a1,_⟩:=Qal hy
  obtain ⟨d,h1,h2⟩:=hdef a b a0 a1 b0 b1
  rw [h0] at h1
  cases h1
  exact h2
 have ha:=Q9s (fu:=fu) (f:=f) (k:=dnk keys) hfu hf (n:=keys.length) (by omega) (λa b h1 h2 h3 h4=>by obtain ⟨c,h,_⟩:=hdef a b h1 h2 h3 h4; exact ⟨c,h⟩)
 have hI:Qb7 fu (Qf5 0 keys.length) 0 ((Qf5 0 keys.length).length:Int) f=some (srt (dnk keys) keys.length):=by
  unfold Qb7
  rw [Qcs,show w64 ((0:Int)+1)=1 by rw [Qbe (by omega) (by omega)]; rfl]
  cases hk:keys.length with
  | zero =>
   obtain ⟨m,rfl⟩:∃ m,fu=m+1:=⟨fu - 1,by omega⟩
   rw [Qao.eq_2]
   unfold Qca
   rw [Qau (by simp)]; rfl
  | succ n =>
   rw [hk] at ha
   have:=ha (Qf5 1 n) [0] fu (by rw [Qcs]; omega) (by rw [Qcs]; simp; omega) (λp hp=>by
    have:p∈Qf5 0 (n+1):=hp
    have:=Qc5.1 this
    omega)
   have e:Qf5 0 (n+1)=[0]++Qf5 1 n:=rfl
   rw [e]
   have h1:(([0]:List Int).length:Int)=1:=rfl
   rw [h1] at this
   rw [this]
   congr 1
   have hsp:=Q4z (dnk keys) (Qf5 1 n) [0] (by simp) (λp hp x hx=>by
    have:=Qc5.1 hx
    rw [List.mem_singleton.1 hp]; omega) (Qun _ _)
   exact Q39 hsp.1 hsp.2
 obtain ⟨m,rfl⟩:∃ m,fu=m+1:=⟨fu - 1,by omega⟩
 rw [Qdt.eq_2]
 unfold Qg8
 rw [Qau (by rw [Qcs]; simp; omega)]
 rw [← hfd,hI,Qab,Qcf.eq_2]
 unfold Qhb
 rw [Qau (by rw [Qcs]; simp; omega)]
 rfl
theorem Jlo {w h d:Int} (hb:(inb w 0 2000&&(inb h 0 2000&&inb d 0 2000))=true):w64 ((w64 (w*h))*d)=w*h*d:=by
 simp only [Bool.and_eq_true,Qcu] at hb
 obtain ⟨⟨h1,h2⟩,⟨h3,h4⟩,h5,h6⟩:=hb
 have a1:0≤w*h:=Int.mul_nonneg h1 h3
 have a2:w*h≤2000*2000:=Int.mul_le_mul h2 h4 h3 (by omega)
 have a3:0≤w*h*d:=Int.mul_nonneg a1 h5
 have a4:w*h*d≤2000*2000*2000:=Int.mul_le_mul a2 h6 h5 (by omega)
 rw [Qbe (n:=w*h) (by omega) (by omega),Qbe (by omega) (by omega)]
theorem Jgf (fu:Nat) (w h d:Int):Ql0 fu w h d=some (Q8t w h d):=by
 unfold Ql0 Qqx Q8t
 simp only [Q32,Qab]
 cases h1:inb w 0 2000 <;> cases h2:inb h 0 2000 <;> cases h3:inb d 0 2000 <;> simp only [Bool.not_true,Bool.not_false,cond_true,cond_false,Bool.and_true,Bool.and_false]
 rw [Jlo (by simp only [h1,h2,h3]; rfl)]
theorem Jiy (fu:Nat) (w h d:Int):Qpr fu w h d=some (Q8t w h d):=by
 unfold Qpr Qqu Q8t
 simp only [Q42,Qab]
 cases h1:inb w 0 2000 <;> cases h2:inb h 0 2000 <;> cases h3:inb d 0 2000 <;> simp only [Bool.not_true,Bool.not_false,cond_true,cond_false,Bool.and_true,Bool.and_false]
 rw [Jlo (by simp only [h1,h2,h3]; rfl)]
def Qu0 (r:Request) (u:Int):Item:=(Qz1 r u).getD Q8m
theorem Q4m (r:Request):w64 (((Qja r).length:Int) - 1)=((Qja r).length:Int) - 1:=by
 have:=Qv1 r
 exact Qbe (by omega) (by omega)
theorem Q9d (fu:Nat) (r:Request) (u:Int):Qmj fu r (Qja r) u=some (Qu0 r u,(Qz1 r u).isSome):=by
 unfold Qmj Qu0
 rw [Q4m,Q32,Qab]
 by_cases h:0≤u∧u<(Qja r).length
 · obtain ⟨i,x,h1,h2,h3⟩:=Q6v h
   rw [Qau (by simp; omega),h1,Qab,h2,Qab,h3]
   rfl
 · rw [Qbj (by simp [inb]; omega),Q29 h]
   rfl
theorem Jd5:Jat Q8m=0:=by simp [Jat,Q8t,Q8m]
theorem Q3a {fu:Nat} {r:Request} (h:Sm fu r) (us:List Int) (hl:us.length≤1048576) (hf:us.length<fu):Qh8 fu r us=some (Qyz r us):=by
 unfold Qh8
 rw [Ja6 h,Qab]
 have key:=lpI us (λn s i=>Qf3 fu r us (Qja r) n s i) (λl out=>some (out++Qyz r l)) (λl out=>out.length+l.length≤1048576) (by omega) ?_ ?_ fu [] (by simpa using hl) hf
 · simpa using key
 · intro n s i x xs hx hd hI ih
   simp only [Qf3.eq_2]
   unfold Qlg Qko
   simp only [hd,cond_true,hx,Qab,Q4m,Q42]
   simp only [List.length_cons] at hI
   by_cases hu:0≤x∧x<(Qja r).length
   · obtain ⟨i',y,h1,h2,h3⟩:=Q6v hu
     rw [Qbj (by simp; omega),h1,Qab,h2,Qab,ap1 (by simp; omega),Qab,ih _ (by simp; omega)]
     simp [Qyz,List.filterMap_cons,h3]
   · rw [Qau (by simp [inb]; omega),ih _ (by omega)]
     simp [Qyz,List.filterMap_cons,Q29 hu]
 · intro n s i hd _
   simp only [Qf3.eq_2]
   unfold Qlg
   simp only [hd,cond_false]
   simp [Qyz]
theorem Jbl {fu:Nat} {r:Request} (h:Sm fu r) (us:List Int) (hl:us.length≤1048576) (hf:us.length<fu):Qj8 fu r us=some (Qxw r us):=by
 unfold Qj8
 rw [Q3a h us hl hf,Qab]
 have hlen:=Qxk r us
 have key:=lpI (Qyz r us) (λn s i=>Qgj fu (Qyz r us) n s i) (λl n=>some (n+Qsp (l.map Jat))) (λl n=>0≤n∧n+8000000000*l.length≤8000000000*1048576) (by omega) ?_ ?_ fu 0 ⟨by omega,by omega⟩ (by omega)
 · simpa [Qxw] using key
 · intro n s i x xs hx hd hI ih
   simp only [Qgj.eq_2]
   unfold Qju
   simp only [hd,cond_true,hx,Qab,Jiy]
   have hv:=Jch x.fW x.fH x.fD
   have h2:=hI.2
   simp only [List.length_cons] at h2
   rw [Qbe (by omega) (by omega),ih _ ⟨by omega,by omega⟩]
   simp only [List.map_cons,Qf0,Jat]
   congr 1
   omega
 · intro n s i hd _
   simp only [Qgj.eq_2]
   unfold Qju
   simp only [hd,cond_false]
   simp
end Go.Proofs.YtpcmapfabndggaaGreatDoor
