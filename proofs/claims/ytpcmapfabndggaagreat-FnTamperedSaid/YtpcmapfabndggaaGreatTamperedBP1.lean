import Derived.Test.YtpcmapfabndggaaGreatTamperedBD
import Derived.Test.YtpcmapfabndggaaGreatM3
set_option linter.unusedSimpArgs false
set_option linter.unusedVariables false
/- spec's sorting by halves is the plain function of M1. -/
namespace Go.Proofs.YtpcmapfabndggaaGreat
open Go
open Enc (rd ow)
open Arg (argv)
open Ret (retv)
open Wf (wf)
theorem Q7i {fu:Nat} (n:Nat) (hn:n≤1048576) (hf:n<fu):Qkj fu (n:Int)=some (Qf2 0 n):=by
 unfold Qkj
 have key:∀ (m i k:Nat),n - i=m→i≤n→m<k→Qf8 fu (n:Int) k (Qf2 0 i) (i:Int)=some (Qf2 0 n):=by
  intro m
  induction m with
  | zero =>
   intro i k hm hi hk
   obtain ⟨k,rfl⟩:∃ j,k=j+1:=⟨k - 1,by omega⟩
   have:i=n:=by omega
   subst this
   rw [Qf8.eq_2]
   unfold Qju
   simp
  | succ m ih =>
   intro i k hm hi hk
   obtain ⟨k,rfl⟩:∃ j,k=j+1:=⟨k - 1,by omega⟩
   rw [Qf8.eq_2]
   unfold Qju
   rw [Qbj (by simp; omega),ap1 (by rw [Qcy]; simp; omega),Qab,Qye i (by omega)]
   have e:=Q8q 0 i
   rw [Int.zero_add] at e
   rw [← e]
   exact ih (i+1) k (by omega) (by omega) (by omega)
 exact key n 0 fu (by omega) (by omega) hf
def dk (keys:List Int) (Qvm:Bool) (p:Int):Int:=bif Qvm then - kf keys p else kf keys p
theorem Q51 {keys:List Int} {p:Int} (h:0≤p∧p<keys.length):ix keys p=some (kf keys p):=by
 have h1:p.toNat<keys.length:=by omega
 unfold kf ix
 rw [if_pos h.1,List.getElem?_eq_getElem h1]
 rfl
theorem Jj3 {fu:Nat} {keys a b:List Int} (Qvm:Bool) (ha:∀ p∈a,0≤p∧p<keys.length) (hb:∀ p∈b,0≤p∧p<keys.length) (hla:a.length≤1048576) (hlb:b.length≤1048576) :
    ∀ (m:Nat) (n:Nat) (out:List Int) (i j:Nat),i≤a.length→j≤b.length→(a.length - i)+(b.length - j)=m→m<n→out.length+m≤2097152 →
     Qc1 fu keys Qvm a b n out i j=some (out++mrg (dk keys Qvm) (a.drop i) (b.drop j)):=by
 intro m
 induction m with
 | zero =>
  intro n out i j hi hj hm hn ho
  obtain ⟨n,rfl⟩:∃ k,n=k+1:=⟨n - 1,by omega⟩
  rw [Qc1.eq_2]
  unfold Qk6
  rw [Qay (by simp; omega),Qay (by simp; omega),List.drop_of_length_le (show a.length≤i by omega),List.drop_of_length_le (show b.length≤j by omega)]
  simp [mrg]
 | succ m ih =>
  intro n out i j hi hj hm hn ho
  obtain ⟨n,rfl⟩:∃ k,n=k+1:=⟨n - 1,by omega⟩
  have hL:Qc1 fu keys Qvm a b (n+1) out i j=Qib fu (Qc1 fu keys Qvm a b n) keys Qvm a b out i j:=by
   rw [Qc1.eq_2]
   unfold Qk6
   by_cases h:i<a.length
   · rw [Qbj (by simpa using h)]
   · rw [Qay (by simpa using h),Qbj (by simp; omega)]
  have tA:∀ (h:i<a.length),(Qgz 8 out [a[i]])=some (out++[a[i]]):=λh=>ap1 (by simp; omega)
  have tB:∀ (h:j<b.length),(Qgz 8 out [b[j]])=some (out++[b[j]]):=λh=>ap1 (by simp; omega)
  have nA:∀ (h:i<a.length),Qc1 fu keys Qvm a b n (out++[a[i]]) (w64 ((i:Int)+1)) j=some (out++a[i]::mrg (dk keys Qvm) (a.drop (i+1)) (b.drop j)):=λh=>by
   rw [Qye i (by omega),ih n (out++[a[i]]) (i+1) j (by omega) hj (by omega) (by omega) (by simp; omega)]
   simp
  have nB:∀ (h:j<b.length),Qc1 fu keys Qvm a b n (out++[b[j]]) i (w64 ((j:Int)+1))=some (out++b[j]::mrg (dk keys Qvm) (a.drop i) (b.drop (j+1))):=λh=>by
   rw [Qye j (by omega),ih n (out++[b[j]]) i (j+1) hi (by omega) (by omega) (by omega) (by simp; omega)]
   simp
  rw [hL]
  unfold Qib
  by_cases hjb:j=b.length
  · have h:i<a.length:=by omega
    rw [Qbj (by simp [hjb]),Qy2 h,Qab,tA h,Qab,nA h,List.drop_of_length_le (show b.length≤j by omega),Q85,Q85,← List.drop_eq_getElem_cons h]
  · have hj':j<b.length:=by omega
    rw [Qay (by simp; omega)]
    by_cases hia:i=a.length
    · rw [Qbj (by simp [hia]),Qy2 hj',Qab,tB hj',Qab,nB hj',List.drop_of_length_le (show a.length≤i by omega)]
      have e1:∀ l,mrg (dk keys Qvm) [] l=l:=λl=>by rw [mrg]
      rw [e1,e1,← List.drop_eq_getElem_cons hj']
    · have hi':i<a.length:=by omega
      rw [Qay (by simp; omega)]
      simp only [Qy2 hi',Qy2 hj',Qab,Q51 (ha _ (List.getElem_mem hi')),Q51 (hb _ (List.getElem_mem hj')),tA hi',tB hj',nA hi',nB hj']
      rw [List.drop_eq_getElem_cons hi',List.drop_eq_getElem_cons hj',Qww,← List.drop_eq_getElem_cons hi',← List.drop_eq_getElem_cons hj']
      have hx:dk keys Qvm a[i]=bif Qvm then - kf keys a[i] else kf keys a[i]:=rfl
      have hy:dk keys Qvm b[j]=bif Qvm then - kf keys b[j] else kf keys b[j]:=rfl
      rw [hx,hy]
      generalize kf keys a[i]=x
      generalize kf keys b[j]=y
      cases Qvm
      · by_cases hc:y<x
        · rw [if_pos (by simpa using hc)]; simp [hc]
        · rw [if_neg (by simpa using hc)]
          have:decide (y>x)=true∨decide (y>x)=false:=by cases decide (y>x) <;> simp
          rcases this with h | h <;> simp [hc,h]
      · by_cases hc:x<y
        · have h:¬ y<x:=by omega
          rw [if_pos (by simpa using hc)]; simp [hc,h]
        · rw [if_neg (by simpa using hc)]
          have h:decide (y<x)=true∨decide (y<x)=false:=by cases decide (y<x) <;> simp
          rcases h with h | h <;> simp [hc,h]
theorem Q68 {fu:Nat} {keys:List Int} (Qvm:Bool) (hfu:2097153≤fu):∀ (n:Nat) (l:List Int),l.length≤n→l.length≤1048576→(∀ p∈l,0≤p∧p<keys.length) →
    Qiu fu (n+1) keys l Qvm=some (msr (dk keys Qvm) (n+1) l)
 | n,l,hn,hl,hm=>by
  rw [Qiu.eq_2]
  unfold Qr3 msr
  by_cases h2:l.length<2
  · rw [Qbj (by simp; omega),if_pos h2,ap1 (by simp; omega)]; rfl
  · rw [Qay (by simp; omega),if_neg h2]
    have hd:Int.tdiv (l.length:Int) 2=((l.length / 2:Nat):Int):=by simp [Int.tdiv]
    obtain ⟨n,rfl⟩:∃ k,n=k+1:=⟨n - 1,by omega⟩
    rw [hd,Qa4 (by omega) (by omega),Qtj (by omega),Qtj (by omega),Qab]
    simp only [Int.toNat_natCast,Int.toNat_zero,List.drop_zero,Nat.sub_zero,Qab]
    rw [Q68 Qvm hfu n (l.take (l.length / 2)) (by rw [List.length_take]; omega) (by rw [List.length_take]; omega) (λp hp=>hm p (List.mem_of_mem_take hp)),Qab]
    have e:(l.drop (l.length / 2)).take (l.length - l.length / 2)=l.drop (l.length / 2):=List.take_of_length_le (by rw [List.length_drop]; omega)
    rw [e,Q68 Qvm hfu n (l.drop (l.length / 2)) (by rw [List.length_drop]; omega) (by rw [List.length_drop]; omega) (λp hp=>hm p (List.mem_of_mem_drop hp)),Qab]
    have hp1:=(Qsx (dk keys Qvm) (n+1) (l.take (l.length / 2)))
    have hp2:=(Qsx (dk keys Qvm) (n+1) (l.drop (l.length / 2)))
    have l1:=hp1.length_eq
    have l2:=hp2.length_eq
    rw [List.length_take] at l1
    rw [List.length_drop] at l2
    rw [show (0:Int)=((0:Nat):Int) from rfl]
    rw [Jj3 Qvm (λp hp=>hm p (List.mem_of_mem_take (hp1.mem_iff.1 hp))) (λp hp=>hm p (List.mem_of_mem_drop (hp2.mem_iff.1 hp))) (by omega) (by omega) _ fu [] 0 0 (by omega) (by omega) rfl (by omega) (by simp; omega)]
    simp
theorem Jkn {fu:Nat} {keys:List Int} (hfu:2097153≤fu) (hl:keys.length≤1048576):Qou fu keys=some (srt (kf keys) keys.length):=by
 unfold Qou Qp7
 rw [Q7i keys.length hl (by omega),Qab]
 obtain ⟨m,rfl⟩:∃ m,fu=m+1:=⟨fu - 1,by omega⟩
 rw [Q68 false hfu m _ (by rw [Qcy]; omega) (by rw [Qcy]; omega) (λp hp=>by have:=Qc3.1 hp; omega),Qab]
 congr 1
 have e:dk keys false=kf keys:=rfl
 rw [e]
 exact Q27 (Qsx _ _ _) (Qtu _ _ _ (by rw [Qcy]; omega) (Qt5 _ _))
end Go.Proofs.YtpcmapfabndggaaGreat
/- The first layers of spec and of impl: bounds, table, names, fitting, the reason, the units. Each is the plain function of M0. -/
namespace Go.Proofs.YtpcmapfabndggaaGreat
open Go
open Enc (rd ow)
open Arg (argv)
open Ret (retv)
open Wf (wf)
structure Sm (fu:Nat) (r:Request):Prop where
 fu:2097153≤fu
 pairs:r.fP.length≤1048576
 types:r.fR.length≤1048576
 items:r.fU.length≤1048576
theorem Q42 (fu:Nat) (n lo hi:Int):Qbe fu n lo hi=some (inb n lo hi):=by
 unfold Qbe inb
 by_cases h:lo≤n
 · simp [h]
 · simp [h]
theorem Q43 (fu:Nat) (n lo hi:Int):Qbh fu n lo hi=some (inb n lo hi):=Q42 fu n lo hi
theorem Jal (fu:Nat) (n:Int):Qet fu n=some (inb n 1 2000):=by unfold Qet; rw [Q42]; rfl
theorem Jjc (fu:Nat) (n:Int):Qqp fu n=some (inb n 0 999):=by unfold Qqp; rw [Q42]; rfl
theorem Q7d (fu:Nat) (n:Int):Qc5 fu n=some (inb n 1 2000):=by unfold Qc5; rw [Q43]; rfl
theorem Jct (fu:Nat) (p:Pallet):Qhm fu p=some (Qur p):=by
 unfold Qhm Qur
 simp only [Jal,Q42,Qab]
 cases inb p.fW 1 2000 <;> cases inb p.fD 1 2000 <;> cases inb p.fH 1 2000 <;> rfl
theorem Ji2 (fu:Nat) (p:Pallet):Qe7 fu p=some (Qur p):=by
 unfold Qe7 Qur
 simp only [Q7d,Q43,Qab]
 cases inb p.fW 1 2000 <;> cases inb p.fD 1 2000 <;> cases inb p.fH 1 2000 <;> rfl
theorem Jjr (fu:Nat) (t:Typ):Qrr fu t=some (Q13 t):=by
 unfold Qrr Q13
 simp only [Jal,Q42,Jjc,Qab]
 cases inb t.qQ 0 999 <;> cases inb t.fW 1 2000 <;> cases inb t.fH 1 2000 <;> cases inb t.fD 1 2000 <;> cases inb t.ft 0 100000 <;> cases inb t.fQ 1 100000 <;> rfl
theorem Jiz (fu:Nat) (t:Typ):Qrq fu t=some (Q13 t):=by
 unfold Qrq Q13
 simp only [Q7d,Q43,Qab]
 cases inb t.qQ 0 999 <;> cases inb t.fW 1 2000 <;> cases inb t.fH 1 2000 <;> cases inb t.fD 1 2000 <;> cases inb t.ft 0 100000 <;> cases inb t.fQ 1 100000 <;> rfl
theorem Jiu (fu:Nat) (t:Item):Qrn fu t=some (Qxr t):=by
 unfold Qrn Qxr
 simp only [Jal,Q42,Jjc,Qab]
 cases inb t.qQ 0 999 <;> cases inb t.fW 1 2000 <;> cases inb t.fH 1 2000 <;> cases inb t.fD 1 2000 <;> cases inb t.fQ 1 100000 <;> cases inb t.fM 0 3 <;> rfl
theorem Jj9 (fu:Nat) (t:Item):Qrk fu t=some (Qxr t):=by
 unfold Qrk Qxr
 simp only [Q7d,Q43,Qab]
 cases inb t.qQ 0 999 <;> cases inb t.fW 1 2000 <;> cases inb t.fH 1 2000 <;> cases inb t.fD 1 2000 <;> cases inb t.fQ 1 100000 <;> cases inb t.fM 0 3 <;> rfl
def Jf9:List Item→Int→Option Bool
 | [],n=>some (decide (n≤12))
 | x::xs,n=>bif !Qxr x then some false else Jf9 xs (w64 (n+x.fO))
theorem Q5n:∀ (l:List Item) (n:Int),0≤n→n+6*l.length≤4611686018427387904→Jf9 l n=some (l.all Qxr&&decide (n+Qsb (l.map (·.fO))≤12))
 | [],n,_,_=>by simp [Jf9]
 | x::xs,n,h0,h1=>by
  unfold Jf9
  cases hx:Qxr x
  · simp [hx]
  · have hc:=hx
    simp only [Qxr,Bool.and_eq_true,Qco] at hc
    have hc:=hc.2.2.2.2.2.2
    simp only [List.length_cons] at h1
    rw [Qa4 (by omega) (by omega)]
    simp only [Bool.not_true,cond_false]
    rw [Q5n xs (n+x.fO) (by omega) (by omega)]
    simp only [List.all_cons,hx,Bool.true_and,List.map_cons,Qfr,Int.add_assoc]
theorem Jit {fu:Nat} {r:Request} (h:Sm fu r):Qn5 fu r=some (Q28 r):=by
 have hfu:=h.fu
 have h7:r.fU.length≤8→Qed fu r fu 0 0=some (r.fU.all Qxr&&decide (Qsb (r.fU.map (·.fO))≤12)):=by
  intro h8
  rw [lp r.fU (λn s i=>Qed fu r n s i) Jf9 (by have:=h.items; omega) ?_ ?_ fu 0 (by have:=h.items; omega),Q5n _ _ (by omega) (by have:=h.items; omega)]
  · simp
  · intro n s i x xs hx hd ih
    simp only [Qed.eq_2]
    unfold Qjz
    simp only [hd,cond_true,hx,Qab,Jiu,ih]
    rfl
  · intro n s i hd
    simp only [Qed.eq_2]
    unfold Qjz
    simp only [hd,cond_false]
    rfl
 have h6:∀ b:Bool,(Qed fu r fu 0 0=some b)→Qea fu r fu 0=some (r.fR.all Q13&&b):=by
  intro b hb
  refine lp r.fR (λn (_:Unit) i=>Qea fu r n i) (λl _=>some (l.all Q13&&b)) (by have:=h.types; omega) ?_ ?_ fu () (by have:=h.types; omega)
  · intro n s i x xs hx hd ih
    simp only [Qea.eq_2]
    unfold Qjy
    simp only [hd,cond_true,hx,Qab,Jjr,ih (),List.all_cons]
    cases Q13 x <;> rfl
  · intro n s i hd
    simp only [Qea.eq_2]
    unfold Qjy
    simp only [hd,cond_false,hb]
    rfl
 have h4:∀ b:Bool,(Qea fu r fu 0=some b)→Qd9 fu r fu 0=some (r.fP.all prB&&b):=by
  intro b hb
  refine lp r.fP (λn (_:Unit) i=>Qd9 fu r n i) (λl _=>some (l.all prB&&b)) (by have:=h.pairs; omega) ?_ ?_ fu () (by have:=h.pairs; omega)
  · intro n s i x xs hx hd ih
    simp only [Qd9.eq_2]
    unfold Qj1 Qnu
    simp only [hd,cond_true,hx,Qab,Q42,ih ()]
    simp only [List.all_cons,prB]
    cases inb x.fA 0 3 <;> cases inb x.fB 0 3 <;> rfl
  · intro n s i hd
    simp only [Qd9.eq_2]
    unfold Qj1
    simp only [hd,cond_false,hb]
    rfl
 unfold Qn5 Qnr Q28
 simp only [Q42,Jjc,Jct,Qab]
 by_cases h8:r.fU.length≤8
 · rw [h4 _ (h6 _ (h7 h8))]
   have e8:decide ((r.fU.length:Int)>8)=false:=by simp; omega
   rw [e8]
   by_cases hp:r.fP.length≤16
   · have e16:decide ((r.fP.length:Int)>16)=false:=by simp; omega
     rw [e16]
     simp only [hp,h8,decide_true,cond_false,Bool.and_true]
     cases inb r.qY 0 1 <;> cases Qur r.fJ <;> cases inb r.fG 1 4 <;> cases inb (r.fR.length:Int) 1 5 <;> cases inb r.fL 0 999 <;> simp <;> cases r.fP.all prB <;> cases r.fR.all Q13 <;> rfl
   · have e16:decide ((r.fP.length:Int)>16)=true:=by simp; omega
     rw [e16]
     simp only [hp,decide_false,cond_true]
     cases inb r.qY 0 1 <;> cases Qur r.fJ <;> cases inb r.fG 1 4 <;> simp
 · have e8:decide ((r.fU.length:Int)>8)=true:=by simp; omega
   rw [e8]
   simp only [h8,decide_false,cond_true,Bool.and_false,Bool.false_and]
   cases inb r.qY 0 1 <;> cases Qur r.fJ <;> cases inb r.fG 1 4 <;> simp
def Qxj {α:Type} (g:α→Bool):List α→Int→Int
 | [],_=>-1
 | x::xs,i=>bif g x then i else Qxj g xs (i+1)
theorem Qti {α:Type} (g:α→Bool):∀ (l:List α) (i:Int),0≤i→decide (Qxj g l i≥0)=l.any g
 | [],i,_=>rfl
 | x::xs,i,h=>by
  simp only [Qxj,List.any_cons]
  by_cases hx:g x=true
  · simpa [hx] using h
  · simpa [hx] using Qti g xs (i+1) (by omega)
theorem Q40 {α:Type} (g:α→Bool):∀ (l pre:List α) ,(Qxj g l pre.length<0∧l.find? g=none)∨(0≤Qxj g l pre.length∧∃ x,l.find? g=some x∧ix (pre++l) (Qxj g l pre.length)=some x)
 | [],pre=>.inl ⟨by simp [Qxj],rfl⟩
 | x::xs,pre=>by
  simp only [Qxj]
  cases hx:g x
  · have:=Q40 g xs (pre++[x])
    simp only [List.length_append,List.length_singleton,List.append_assoc,List.singleton_append] at this
    simpa [List.find?_cons,hx] using this
  · refine .inr ⟨by simp,x,by simp [hx],?_⟩
    rw [cond_true,Qix]
    simp
theorem Qth {α:Type} (l:List α) (L:Nat→Int→Option Int) (g:α→Bool) (hl:l.length≤1099511627776)
    (hs:∀ n (i:Int) x,ix l i=some x→decide (i<(l.length:Int))=true→L (n+1) i=bif g x then some i else L n (w64 (i+1)))
    (he:∀ n (i:Int),decide (i<(l.length:Int))=false→L (n+1) i=some (-1)) (n:Nat) (hn:l.length<n):L n 0=some (Qxj g l 0):=by
 have key:∀ (m i n:Nat),l.length - i=m→i≤l.length→m<n→L n (i:Int)=some (Qxj g (l.drop i) i):=by
  intro m
  induction m with
  | zero =>
   intro i n hm hi hn
   obtain ⟨n,rfl⟩:∃ k,n=k+1:=⟨n - 1,by omega⟩
   rw [List.drop_of_length_le (by omega),he n i (by simp; omega)]
   rfl
  | succ m ih =>
   intro i n hm hi hn
   obtain ⟨n,rfl⟩:∃ k,n=k+1:=⟨n - 1,by omega⟩
   have hlt:i<l.length:=by omega
   rw [hs n i _ (Qy2 hlt) (by simpa using hlt),List.drop_eq_getElem_cons hlt]
   simp only [Qxj]
   cases g l[i]
   · rw [cond_false,cond_false,Qye i (by omega)]
     have:=ih (i+1) n (by omega) (by omega) (by omega)
     simpa using this
   · rfl
 simpa using key l.length 0 n (by omega) (by omega) hn
theorem Q60 {fu:Nat} {l:List Typ} (f:Typ→Option Bool) (g:Typ→Bool) (hg:∀ x∈l,f x=some (g x)) (hl:l.length≤1048576) (hf:l.length<fu):Qbm fu l f=some (Qxj g l 0):=by
 unfold Qbm
 refine Qth l (λn i=>Qba fu l f n i) g (by omega) ?_ ?_ fu hf
 · intro n i x hx hd
   simp only [Qba.eq_2]
   unfold Qci
   simp only [hd,cond_true,hx,Qab,hg x (Qfe hx)]
 · intro n i hd
   simp only [Qba.eq_2]
   unfold Qci
   simp only [hd,cond_false]
theorem Q3g {fu:Nat} {l:List Typ} (f:Typ→Option Bool) (g:Typ→Bool) (hg:∀ x∈l,f x=some (g x)) (hl:l.length≤1048576) (hf:l.length<fu):Qau fu l f=some (l.any g):=by
 unfold Qau
 rw [Q60 f g hg hl hf,Qab,Qti g l 0 (by omega)]
theorem Q8p {fu:Nat} {l:List Pair} (f:Pair→Option Bool) (g:Pair→Bool) (hg:∀ x∈l,f x=some (g x)) (hl:l.length≤1048576) (hf:l.length<fu):Qcc fu l f=some (Qxj g l 0):=by
 unfold Qcc
 refine Qth l (λn i=>Qbb fu l f n i) g (by omega) ?_ ?_ fu hf
 · intro n i x hx hd
   simp only [Qbb.eq_2]
   unfold Qcj
   simp only [hd,cond_true,hx,Qab,hg x (Qfe hx)]
 · intro n i hd
   simp only [Qbb.eq_2]
   unfold Qcj
   simp only [hd,cond_false]
theorem Q4z {fu:Nat} {l:List Pair} (f:Pair→Option Bool) (g:Pair→Bool) (hg:∀ x∈l,f x=some (g x)) (hl:l.length≤1048576) (hf:l.length<fu):Qbc fu l f=some (l.any g):=by
 unfold Qbc
 rw [Q8p f g hg hl hf,Qab,Qti g l 0 (by omega)]
theorem Q82 {fu:Nat} {l:List Item} (f:Item→Option Bool) (g:Item→Bool) (hg:∀ x∈l,f x=some (g x)) (hl:l.length≤1048576) (hf:l.length<fu):Qb8 fu l f=some (Qxj g l 0):=by
 unfold Qb8
 refine Qth l (λn i=>Qa9 fu l f n i) g (by omega) ?_ ?_ fu hf
 · intro n i x hx hd
   simp only [Qa9.eq_2]
   unfold Qch
   simp only [hd,cond_true,hx,Qab,hg x (Qfe hx)]
 · intro n i hd
   simp only [Qa9.eq_2]
   unfold Qch
   simp only [hd,cond_false]
theorem Qwh {fu:Nat} {l:List Item} (f:Item→Option Bool) (g:Item→Bool) (hg:∀ x∈l,f x=some (g x)) (hl:l.length≤1048576) (hf:l.length<fu):Qav fu l f=some (l.any g):=by
 unfold Qav
 rw [Q82 f g hg hl hf,Qab,Qti g l 0 (by omega)]
theorem Jjp {fu:Nat} {r:Request} (h:Sm fu r):Qn0 fu r=some (Q28 r):=by
 have hfu:=h.fu
 have h1:=h.items
 have h2:=h.types
 have h3:=h.pairs
 have e3:Qe3 fu r fu 0 0=some (r.fU.all Qxr&&decide (Qsb (r.fU.map (·.fO))≤12)):=by
  rw [lp r.fU (λn s i=>Qe3 fu r n s i) Jf9 (by omega) ?_ ?_ fu 0 (by omega),Q5n _ _ (by omega) (by omega)]
  · simp
  · intro n s i x xs hx hd ih
    simp only [Qe3.eq_2]
    unfold Qjm
    simp only [hd,cond_true,hx,Qab,Jj9,ih]
    rfl
  · intro n s i hd
    simp only [Qe3.eq_2]
    unfold Qjm
    simp only [hd,cond_false]
    rfl
 have ep:Qbc fu r.fP (λy34=>Qkn fu y34)=some (!(r.fP.all prB)):=by
  rw [Q4z _ (λp=>!prB p) (λp _=>by
   unfold Qkn prB
   simp only [Q43,Qab]
   cases inb p.fA 0 3 <;> rfl) h3 (by omega)]
  simp [List.not_all_eq_any_not]
 have et:Qau fu r.fR (λy34=>Qkf fu y34)=some (!(r.fR.all Q13)):=by
  rw [Q3g _ (λp=>!Q13 p) (λp _=>by
   unfold Qkf
   rw [Jiz]; rfl) h2 (by omega)]
  simp [List.not_all_eq_any_not]
 unfold Qn0 Qnc Qnq Q28
 rw [e3,ep,et]
 simp only [Q43,Ji2,Qab]
 have e8:decide ((r.fU.length:Int)>8)=!decide (r.fU.length≤8):=by
  by_cases hh:r.fU.length≤8
  · have:¬ ((r.fU.length:Int)>8):=by omega
    simp [hh,this]
  · have:(r.fU.length:Int)>8:=by omega
    simp [hh,this]
 have e16:decide ((r.fP.length:Int)>16)=!decide (r.fP.length≤16):=by
  by_cases hh:r.fP.length≤16
  · have:¬ ((r.fP.length:Int)>16):=by omega
    simp [hh,this]
  · have:(r.fP.length:Int)>16:=by omega
    simp [hh,this]
 rw [e8,e16]
 cases inb r.qY 0 1 <;> cases Qur r.fJ <;> cases inb r.fG 1 4 <;> cases decide (r.fP.length≤16) <;> cases r.fP.all prB <;> cases inb (r.fR.length:Int) 1 5 <;> cases r.fR.all Q13 <;> cases inb r.fL 0 999 <;> cases decide (r.fU.length≤8) <;> rfl
end Go.Proofs.YtpcmapfabndggaaGreat
/- Names, table, fitting, the reason of spec and of impl. Each is the plain function of M0. -/
namespace Go.Proofs.YtpcmapfabndggaaGreat
open Go
open Enc (rd ow)
open Arg (argv)
open Ret (retv)
open Wf (wf)
theorem lpP {σ α β:Type} (l:List α) (L:Nat→σ→Int→Option β) (F:List α→List α→σ→Option β) (hl:l.length≤1099511627776)
    (hs:∀ n s pre x xs,l=pre++x::xs→ix l (pre.length:Int)=some x→decide ((pre.length:Int)<(l.length:Int))=true→(∀ s',L n s' (w64 ((pre.length:Int)+1))=F (pre++[x]) xs s')→L (n+1) s (pre.length:Int)=F pre (x::xs) s)
    (he:∀ n s,decide ((l.length:Int)<(l.length:Int))=false→L (n+1) s (l.length:Int)=F l [] s):∀ n s,l.length<n→L n s 0=F [] l s:=by
 have key:∀ (xs pre:List α) (n:Nat) (s:σ),l=pre++xs→xs.length<n→L n s (pre.length:Int)=F pre xs s:=by
  intro xs
  induction xs with
  | nil =>
   intro pre n s he' hn
   obtain ⟨n,rfl⟩:∃ k,n=k+1:=⟨n - 1,by omega⟩
   simp only [List.append_nil] at he'
   subst he'
   exact he n s (by simp)
  | cons x xs ih =>
   intro pre n s he' hn
   obtain ⟨n,rfl⟩:∃ k,n=k+1:=⟨n - 1,by simp at hn; omega⟩
   have hlen:l.length=pre.length+(xs.length+1):=by rw [he']; simp
   refine hs n s pre x xs he' ?_ (by simp; omega) λs'=>?_
   · rw [Qix,he']; simp
   · rw [Qye _ (by omega)]
     have:=ih (pre++[x]) n s' (by simp [he']) (by simp at hn; omega)
     simpa using this
 intro n s hn
 simpa using key l [] n s rfl hn
theorem Q99 {α:Type} {pre rest:List α} {i:Int} {y:α} (h:ix pre i=some y):ix (pre++rest) i=some y:=by
 obtain ⟨h0,h1,h2⟩:=Qaj h
 unfold ix
 rw [if_pos h0,List.getElem?_append_left (by omega),h2]
theorem Jj6 (a b:Int):(a==b)=(b==a):=Bool.eq_iff_iff.2 (by simp only [beq_iff_eq]; exact ⟨Eq.symm,Eq.symm⟩)
theorem Qwi {fu:Nat} {r:Request} (h:Sm fu r) (id:Int):Qhh fu r id=some (Qyf (Qtc r id)):=by
 have hfu:=h.fu
 have ht:=h.types
 unfold Qhh Qtc
 rw [Q60 (λy24=>Qpd fu y24 id) (λt=>t.qQ==id) (λt _=>rfl) ht (by omega),Qab]
 rcases Q40 (λt:Typ=>t.qQ==id) r.fR [] with ⟨h1,h2⟩ | ⟨h1,x,h2,h3⟩
 · simp only [List.length_nil] at h1
   rw [Qbj (by simpa using h1),h2]; rfl
 · simp only [List.length_nil,List.nil_append] at h1 h3
   rw [Qay (by simpa using h1),h2]
   have h3':ix r.fR (Qxj (λt=>t.qQ==id) r.fR 0)=some x:=h3
   rw [h3']; rfl
theorem Q9l {fu:Nat} {r:Request} (h:Sm fu r):Qgb fu r=some (Qyf (Qtc r r.fL)):=by
 have hfu:=h.fu
 have ht:=h.types
 unfold Qgb Qtc
 refine lp r.fR (λn (_:Unit) i=>Qf3 fu r n i) (λl _=>some (Qyf (l.find? λt=>t.qQ==r.fL))) (by omega) ?_ ?_ fu () (by omega)
 · intro n s i x xs hx hd ih
   simp only [Qf3.eq_2]
   unfold Qjt
   simp only [hd,cond_true,hx,Qab,ih (),List.find?_cons]
   cases x.qQ==r.fL <;> rfl
 · intro n s i hd
   simp only [Qf3.eq_2]
   unfold Qjt
   simp only [hd,cond_false]
   rfl
theorem Jeo {fu:Nat} {r:Request} (h:Sm fu r):Qig fu r=some (Qyf (Qtc r r.fL)):=by
 unfold Qig
 rw [Qwi h]; rfl
theorem Q1s (o:Option Typ):(Qyf o).2=o.isSome:=by cases o <;> rfl
theorem Jj4 {fu:Nat} {r:Request} (h:Sm fu r):Qph fu r=some (Q8h r):=by
 have hfu:=h.fu
 have h1:=h.items
 have h2:=h.types
 have h3:=h.pairs
 have e11:Qd6 fu r fu 0=some (!(r.fP.any λp=>decide (p.fA≥r.fG)||decide (p.fB≥r.fG))&&(Qtc r r.fL).isSome):=by
  refine lp r.fP (λn (_:Unit) i=>Qd6 fu r n i) (λl _=>some (!(l.any λp=>decide (p.fA≥r.fG)||decide (p.fB≥r.fG))&&(Qtc r r.fL).isSome)) (by omega) ?_ ?_ fu () (by omega)
  · intro n s i x xs hx hd ih
    simp only [Qd6.eq_2]
    unfold Qk9 Qpe
    simp only [hd,cond_true,hx,Qab,ih (),List.any_cons]
    cases decide (x.fA≥r.fG) <;> cases decide (x.fB≥r.fG) <;> rfl
  · intro n s i hd
    simp only [Qd6.eq_2]
    unfold Qk9
    simp only [hd,cond_false,Q9l h,Qab,Q1s]
    rfl
 have e7:∀ b,Qd6 fu r fu 0=some b→Qbu fu r fu 0=some (Q8c r.fG [] r.fU&&b):=by
  intro b hb
  refine lpP r.fU (λn (_:Unit) i=>Qbu fu r n i) (λpre l _=>some (Q8c r.fG pre l&&b)) (by omega) ?_ ?_ fu () (by omega)
  · intro n s pre x xs hl hx hd ih
    simp only [Qbu.eq_2]
    unfold Ql4
    simp only [hd,cond_true,hx,Qab,Q8c]
    cases hc:decide (x.fM≥r.fG)
    · have hpl:pre.length≤r.fU.length:=by rw [hl]; simp
      have e8:Qep fu (λi=>Qbu fu r n i) r (pre.length:Int) fu 0=bif pre.any (λy=>y.qQ==x.qQ) then some false else Qbu fu r n (w64 ((pre.length:Int)+1)):=by
       refine lp pre (λm (_:Unit) i=>Qep fu (λi=>Qbu fu r n i) r (pre.length:Int) m i) (λl _=>bif l.any (λy=>y.qQ==x.qQ) then some false else Qbu fu r n (w64 ((pre.length:Int)+1))) (by omega) ?_ ?_ fu () (by omega)
       · intro m s i y ys hy hd ih
         simp only [Qep.eq_2]
         unfold Ql7
         have hy':ix r.fU i=some y:=by rw [hl]; exact Q99 hy
         simp only [hd,cond_true,hx,hy',Qab,ih (),List.any_cons]
         rw [Jj6 x.qQ y.qQ]
         cases y.qQ==x.qQ <;> rfl
       · intro m s i hd
         simp only [Qep.eq_2]
         unfold Ql7
         simp only [hd,cond_false]
         rfl
      have e8':Qep fu (Qbu fu r n) r (pre.length:Int) fu 0=bif pre.any (λy=>y.qQ==x.qQ) then some false else Qbu fu r n (w64 ((pre.length:Int)+1)):=e8
      rw [cond_false,e8',ih ()]
      cases pre.any (λy=>y.qQ==x.qQ) <;> rfl
    · rfl
  · intro n s hd
    simp only [Qbu.eq_2]
    unfold Ql4
    simp only [hd,cond_false,hb]
    rfl
 have e3:∀ b,Qbu fu r fu 0=some b→Qb1 fu r fu 0=some (Q8g Typ.qQ [] r.fR&&b):=by
  intro b hb
  refine lpP r.fR (λn (_:Unit) i=>Qb1 fu r n i) (λpre l _=>some (Q8g Typ.qQ pre l&&b)) (by omega) ?_ ?_ fu () (by omega)
  · intro n s pre x xs hl hx hd ih
    simp only [Qb1.eq_2]
    unfold Ql0
    simp only [hd,cond_true,Q8g]
    have hpl:pre.length≤r.fR.length:=by rw [hl]; simp
    have e8:Qer fu (λi=>Qb1 fu r n i) r (pre.length:Int) fu 0=bif pre.any (λy=>y.qQ==x.qQ) then some false else Qb1 fu r n (w64 ((pre.length:Int)+1)):=by
     refine lp pre (λm (_:Unit) i=>Qer fu (λi=>Qb1 fu r n i) r (pre.length:Int) m i) (λl _=>bif l.any (λy=>y.qQ==x.qQ) then some false else Qb1 fu r n (w64 ((pre.length:Int)+1))) (by omega) ?_ ?_ fu () (by omega)
     · intro m s i y ys hy hd ih
       simp only [Qer.eq_2]
       unfold Ql6
       have hy':ix r.fR i=some y:=by rw [hl]; exact Q99 hy
       simp only [hd,cond_true,hx,hy',Qab,ih (),List.any_cons]
       rw [Jj6 x.qQ y.qQ]
       cases y.qQ==x.qQ <;> rfl
     · intro m s i hd
       simp only [Qer.eq_2]
       unfold Ql6
       simp only [hd,cond_false]
       rfl
    have e8':Qer fu (Qb1 fu r n) r (pre.length:Int) fu 0=bif pre.any (λy=>y.qQ==x.qQ) then some false else Qb1 fu r n (w64 ((pre.length:Int)+1)):=e8
    rw [e8',ih ()]
    cases pre.any (λy=>y.qQ==x.qQ) <;> rfl
  · intro n s hd
    simp only [Qb1.eq_2]
    unfold Ql0
    simp only [hd,cond_false,hb]
    rfl
 unfold Qph Q8h
 rw [e3 _ (e7 _ e11)]
 congr 1
 cases Q8g Typ.qQ [] r.fR <;> cases Q8c r.fG [] r.fU <;> cases (Qtc r r.fL).isSome <;> cases r.fP.any λp=>decide (p.fA≥r.fG)||decide (p.fB≥r.fG) <;> rfl
theorem Jbk {α:Type} {l pre xs:List α} {x:α} (h:l=pre++x::xs):sls l 0 (pre.length:Int)=some pre:=by
 rw [Qtj ⟨by omega,by omega,by rw [h]; simp; omega⟩]
 simp [h]
theorem Jjz {fu:Nat} {r:Request} (h:Sm fu r):Qpr fu r=some (Q8h r):=by
 have hfu:=h.fu
 have h1:=h.items
 have h2:=h.types
 have h3:=h.pairs
 have e4:Qdx fu r fu 0=some (Q8c r.fG [] r.fU&&((Qtc r r.fL).isSome&&!(r.fP.any λp=>decide (p.fA≥r.fG)||decide (p.fB≥r.fG)))):=by
  refine lpP r.fU (λn (_:Unit) i=>Qdx fu r n i) (λpre l _=>some (Q8c r.fG pre l&&((Qtc r r.fL).isSome&&!(r.fP.any λp=>decide (p.fA≥r.fG)||decide (p.fB≥r.fG))))) (by omega) ?_ ?_ fu () (by omega)
  · intro n s pre x xs hl hx hd ih
    simp only [Qdx.eq_2]
    unfold Ql5 Qo8
    have hpl:pre.length≤r.fU.length:=by rw [hl]; simp
    simp only [hd,cond_true,hx,Qab,Jbk hl,Qwh (λy=>Qql fu y x) (λy=>y.qQ==x.qQ) (λy _=>rfl) (show pre.length≤1048576 by omega) (show pre.length<fu by omega),Q8c,ih ()]
    cases decide (x.fM≥r.fG) <;> cases pre.any (λy=>y.qQ==x.qQ) <;> rfl
  · intro n s hd
    simp only [Qdx.eq_2]
    unfold Ql5
    simp only [hd,cond_false,Jeo h,Qab,Q1s]
    rw [Q4z (λy=>Qmu fu y r) (λp=>decide (p.fA≥r.fG)||decide (p.fB≥r.fG)) (λp _=>by
     unfold Qmu
     cases decide (p.fA≥r.fG) <;> rfl) h3 (by omega),Qab]
    cases (Qtc r r.fL).isSome <;> rfl
 have e3:∀ b,Qdx fu r fu 0=some b→Qfo fu r fu 0=some (Q8g Typ.qQ [] r.fR&&b):=by
  intro b hb
  refine lpP r.fR (λn (_:Unit) i=>Qfo fu r n i) (λpre l _=>some (Q8g Typ.qQ pre l&&b)) (by omega) ?_ ?_ fu () (by omega)
  · intro n s pre x xs hl hx hd ih
    simp only [Qfo.eq_2]
    unfold Qk1
    have hpl:pre.length≤r.fR.length:=by rw [hl]; simp
    simp only [hd,cond_true,hx,Qab,Jbk hl,Q3g (λy=>Qqd fu y x) (λy=>y.qQ==x.qQ) (λy _=>rfl) (show pre.length≤1048576 by omega) (show pre.length<fu by omega),Q8g,ih ()]
    cases pre.any (λy=>y.qQ==x.qQ) <;> rfl
  · intro n s hd
    simp only [Qfo.eq_2]
    unfold Qk1
    simp only [hd,cond_false,hb]
    rfl
 unfold Qpr Q8h
 rw [e3 _ e4]
 congr 1
 cases Q8g Typ.qQ [] r.fR <;> cases Q8c r.fG [] r.fU <;> cases (Qtc r r.fL).isSome <;> cases r.fP.any λp=>decide (p.fA≥r.fG)||decide (p.fB≥r.fG) <;> rfl
theorem Jh7 {fu:Nat} {l:List Pair} (hl:l.length≤1048576) (hf:l.length<fu) (a b:Int):Qgi fu l a b=some (Qtg l a b):=by
 unfold Qgi Qtg
 refine lp l (λn (_:Unit) i=>Qgq fu l a b n i) (λl _=>some (l.any λp=>p.fA==a&&p.fB==b)) (by omega) ?_ ?_ fu () hf
 · intro n s i x xs hx hd ih
   simp only [Qgq.eq_2]
   unfold Qm8 Qmx
   simp only [hd,cond_true,hx,Qab,ih (),List.any_cons]
   cases x.fA==a <;> cases x.fB==b <;> rfl
 · intro n s i hd
   simp only [Qgq.eq_2]
   unfold Qm8
   simp only [hd,cond_false]
   rfl
theorem Jei {fu:Nat} {l:List Pair} (hl:l.length≤1048576) (hf:l.length<fu) (a b:Int):Qhz fu l a b=some (Qtg l a b):=by
 unfold Qhz Qdd Qdt Qtg
 have:=Qth l (λn i=>Qbf fu l (⟨a,b⟩:Pair) n i) (λp=>p.fA==a&&p.fB==b) (by omega) (by
  intro n i x hx hd
  simp only [Qbf.eq_2]
  unfold Qc4
  simp only [hd,cond_true,hx,Qab]
  have:decide ((⟨a,b⟩:Pair)=x)=(x.fA==a&&x.fB==b):=by
   rcases x with ⟨c,d⟩
   apply Bool.eq_iff_iff.2
   simp only [decide_eq_true_eq,Pair.mk.injEq,Bool.and_eq_true,beq_iff_eq]
   exact ⟨λ⟨h1,h2⟩=>⟨h1.symm,h2.symm⟩,λ⟨h1,h2⟩=>⟨h1.symm,h2.symm⟩⟩
  rw [this]) (by
  intro n i hd
  simp only [Qbf.eq_2]
  unfold Qc4
  simp only [hd,cond_false]) fu hf
 rw [this,Qab,Qti _ l 0 (by omega),Qab]
theorem Jis {fu:Nat} {l:List Pair} (hl:l.length≤1048576) (hf:l.length<fu) (h64:64<fu) (c:Int):Qp5 fu l c=some (Jbq l c):=by
 unfold Qp5 Jbq
 rw [Q43,Qab]
 cases hc:inb c 1 4
 · rfl
 rw [Qco] at hc
 simp only [Bool.not_true,cond_false,Bool.true_and]
 have e4:∀ (k:Int→Option Bool) (a:Int),Qfq fu k l c a fu 0=bif (Qf2 0 c.toNat).all λb=>Qtg l a b==Qtg l b a then k (w64 (a+1)) else some false:=by
  intro k a
  refine lpN c (λn (_:Unit) i=>Qfq fu k l c a n i) (λxs _=>bif xs.all λb=>Qtg l a b==Qtg l b a then k (w64 (a+1)) else some false) (by omega) ?_ ?_ c.toNat fu () 0 (by omega) (by omega) (by omega)
  · intro n s i xs h0 h1 hd ih
    simp only [Qfq.eq_2]
    unfold Ql9
    simp only [hd,cond_true,Jei hl hf,Qab,ih (),List.all_cons]
    cases Qtg l a i==Qtg l i a <;> rfl
  · intro n s i hd
    simp only [Qfq.eq_2]
    unfold Ql9
    simp only [hd,cond_false]
    rfl
 refine lpN c (λn (_:Unit) i=>Qfl fu l c n i) (λxs _=>some (xs.all λa=>Qtg l a a&&(Qf2 0 c.toNat).all λb=>Qtg l a b==Qtg l b a)) (by omega) ?_ ?_ c.toNat fu () 0 (by omega) (by omega) (by omega)
 · intro n s i xs h0 h1 hd ih
   simp only [Qfl.eq_2]
   unfold Qlp
   simp only [hd,cond_true,Jei hl hf,Qab,e4,ih (),List.all_cons]
   cases Qtg l i i <;> cases (Qf2 0 c.toNat).all λb=>Qtg l i b==Qtg l b i <;> rfl
 · intro n s i hd
   simp only [Qfl.eq_2]
   unfold Qlp
   simp only [hd,cond_false]
   rfl
theorem Jjx {fu:Nat} {l:List Pair} (hl:l.length≤1048576) (hf:l.length<fu) (h64:64<fu) (c:Int):Qps fu l c=some (Jbq l c):=by
 unfold Qps Jbq
 rw [Q42,Qab]
 cases hc:inb c 1 4
 · rfl
 rw [Qco] at hc
 simp only [Bool.not_true,cond_false,Bool.true_and]
 have e4:∀ (k:Int→Option Bool) (a:Int),Qeo fu k l c a fu 0=bif (Qf2 0 c.toNat).all λb=>(!(a==b)||Qtg l a a)&&(Qtg l a b==Qtg l b a) then k (w64 (a+1)) else some false:=by
  intro k a
  refine lpN c (λn (_:Unit) i=>Qeo fu k l c a n i) (λxs _=>bif xs.all λb=>(!(a==b)||Qtg l a a)&&(Qtg l a b==Qtg l b a) then k (w64 (a+1)) else some false) (by omega) ?_ ?_ c.toNat fu () 0 (by omega) (by omega) (by omega)
  · intro n s i xs h0 h1 hd ih
    simp only [Qeo.eq_2]
    unfold Qk3 Qkp
    simp only [hd,cond_true,Jh7 hl hf,Qab,ih (),List.all_cons]
    cases a==i <;> cases Qtg l a a <;> cases Qtg l a i==Qtg l i a <;> rfl
  · intro n s i hd
    simp only [Qeo.eq_2]
    unfold Qk3
    simp only [hd,cond_false]
    rfl
 have e9:Qd3 fu l c fu 0=some ((Qf2 0 c.toNat).all λa=>(Qf2 0 c.toNat).all λb=>(!(a==b)||Qtg l a a)&&(Qtg l a b==Qtg l b a)):=by
  refine lpN c (λn (_:Unit) i=>Qd3 fu l c n i) (λxs _=>some (xs.all λa=>(Qf2 0 c.toNat).all λb=>(!(a==b)||Qtg l a a)&&(Qtg l a b==Qtg l b a))) (by omega) ?_ ?_ c.toNat fu () 0 (by omega) (by omega) (by omega)
  · intro n s i xs h0 h1 hd ih
    simp only [Qd3.eq_2]
    unfold Qlf
    simp only [hd,cond_true,e4,ih (),List.all_cons]
    cases (Qf2 0 c.toNat).all λb=>(!(i==b)||Qtg l i i)&&(Qtg l i b==Qtg l b i) <;> rfl
  · intro n s i hd
    simp only [Qd3.eq_2]
    unfold Qlf
    simp only [hd,cond_false]
    rfl
 rw [e9]
 congr 1
 apply Bool.eq_iff_iff.2
 simp only [List.all_eq_true,Bool.and_eq_true,Bool.or_eq_true,Bool.not_eq_true',beq_eq_false_iff_ne,beq_iff_eq]
 constructor
 · intro h a ha
   refine ⟨?_,λb hb=>(h a ha b hb).2⟩
   rcases (h a ha a ha).1 with h1 | h1
   · exact absurd rfl h1
   · exact h1
 · intro h a ha b hb
   exact ⟨.inr (h a ha).1,(h a ha).2 b hb⟩
theorem Jki {l:List Int} (h:l.length=3):∃ p q s,l=[p,q,s]:=by
 match l,h with
 | [p,q,s],_=>exact ⟨p,q,s,rfl⟩
theorem Jhr {fu:Nat} (hfu:2097153≤fu) (a b c:Int):Qm0 fu a b c=some [(sid a b c).1,(sid a b c).2.1,(sid a b c).2.2]:=by
 unfold Qm0
 rw [Jkn hfu (by simp),Qab,show [a,b,c].length=3 from rfl]
 have hp:=Qt4 (kf [a,b,c]) 3
 have hs:=Qw6 (kf [a,b,c]) 3
 obtain ⟨p,q,s,hq⟩:=Jki (Qtn (kf [a,b,c]) 3)
 rw [hq] at hp hs ⊢
 have hmem:∀ x∈[p,q,s],0≤x∧x<3:=λx hx=>by
  have:=Qc3.1 (hp.mem_iff.1 hx)
  omega
 have k1:=Q51 (keys:=[a,b,c]) (p:=p) (by have:=hmem p (by simp); simpa using this)
 have k2:=Q51 (keys:=[a,b,c]) (p:=q) (by have:=hmem q (by simp); simpa using this)
 have k3:=Q51 (keys:=[a,b,c]) (p:=s) (by have:=hmem s (by simp); simpa using this)
 rw [show ix [p,q,s] 0=some p from rfl,show ix [p,q,s] 1=some q from rfl,show ix [p,q,s] 2=some s from rfl]
 simp only [Qab,k1,k2,k3]
 have hp3:([a,b,c]).Perm [kf [a,b,c] p,kf [a,b,c] q,kf [a,b,c] s]:=(hp.map (kf [a,b,c])).symm
 simp only [List.pairwise_cons,List.mem_cons,List.not_mem_nil,or_false,forall_eq_or_imp,forall_eq,lx] at hs
 have:=Jhw hp3 (by omega) (by omega)
 rw [this]
theorem Jer {fu:Nat} (hfu:2097153≤fu) (x:Item) (t:Typ):Qqm fu x t=some (Q07 x t):=by
 unfold Qqm Q07
 rw [Jhr hfu,Jhr hfu]
 simp only [Qab]
 have e0:∀ a b c:Int,ix [a,b,c] 0=some a:=λ_ _ _=>rfl
 have e1:∀ a b c:Int,ix [a,b,c] 1=some b:=λ_ _ _=>rfl
 have e2:∀ a b c:Int,ix [a,b,c] 2=some c:=λ_ _ _=>rfl
 simp only [e0,e1,e2,Qab]
 cases decide ((sid x.fW x.fH x.fD).1≤(sid t.fW t.fH t.fD).1) <;> cases decide ((sid x.fW x.fH x.fD).2.1≤(sid t.fW t.fH t.fD).2.1) <;> cases decide ((sid x.fW x.fH x.fD).2.2≤(sid t.fW t.fH t.fD).2.2) <;> rfl
theorem Q9w (a b c:Int):Q3s [a,b,c]=some [(sid a b c).1,(sid a b c).2.1,(sid a b c).2.2]:=by
 unfold Q3s
 rw [if_pos (by simp)]
 have hp:=List.mergeSort_perm [a,b,c] (λx y=>decide (x≤y))
 have hs:=Qqs [a,b,c]
 obtain ⟨p,q,s,hq⟩:=Jki (hp.length_eq)
 rw [hq] at hp hs ⊢
 simp only [List.pairwise_cons,List.mem_cons,List.not_mem_nil,or_false,forall_eq_or_imp,forall_eq] at hs
 rw [Jhw hp.symm (by omega) (by omega)]
theorem Jhc (fu:Nat) (x:Item) (t:Typ):Qrw fu x t=some (Q07 x t):=by
 unfold Qrw Qr9 Qck Q07
 rw [Q9w,Q9w]
 have e0:∀ a b c:Int,ix [a,b,c] 0=some a:=λ_ _ _=>rfl
 have e1:∀ a b c:Int,ix [a,b,c] 1=some b:=λ_ _ _=>rfl
 have e2:∀ a b c:Int,ix [a,b,c] 2=some c:=λ_ _ _=>rfl
 simp only [Qab,e0,e1,e2]
 cases decide ((sid x.fW x.fH x.fD).1≤(sid t.fW t.fH t.fD).1) <;> cases decide ((sid x.fW x.fH x.fD).2.1≤(sid t.fW t.fH t.fD).2.1) <;> cases decide ((sid x.fW x.fH x.fD).2.2≤(sid t.fW t.fH t.fD).2.2) <;> rfl
theorem Q2z {fu:Nat} {r:Request} (h:Sm fu r):Qfu fu r=some (Qhd r):=by
 have hfu:=h.fu
 have h1:=h.items
 have h2:=h.types
 have h3:=h.pairs
 have e4:Qgd fu r fu 0=some (bif r.fR.any (Q8f r.fJ) then 6 else 0):=by
  refine lp r.fR (λn (_:Unit) i=>Qgd fu r n i) (λl _=>some (bif l.any (Q8f r.fJ) then 6 else 0)) (by omega) ?_ ?_ fu () (by omega)
  · intro n s i x xs hx hd ih
    simp only [Qgd.eq_2]
    unfold Qok Qrh
    simp only [hd,cond_true,hx,Qab,ih (),List.any_cons,Q8f]
    cases decide (x.fW>r.fJ.fW) <;> cases decide (x.fD>r.fJ.fD) <;> cases decide (x.fH>r.fJ.fH) <;> cases decide (w64 (x.ft+x.fQ)>r.fJ.fQ) <;> rfl
  · intro n s i hd
    simp only [Qgd.eq_2]
    unfold Qok
    simp only [hd,cond_false]
    rfl
 unfold Qfu Qhd
 rw [Jit h,Qab,Jj4 h,Qab,Jjx h3 (by omega) (by omega),Qab,Q9l h,Qab]
 have e1:Qho fu r (Qyf (Qtc r r.fL)) fu 0=some (bif !(r.fU.all λx=>Q07 x (Qw0 r)) then 5 else bif r.fR.any (Q8f r.fJ) then 6 else 0):=by
  refine lp r.fU (λn (_:Unit) i=>Qho fu r (Qyf (Qtc r r.fL)) n i) (λl _=>some (bif !(l.all λx=>Q07 x (Qw0 r)) then 5 else bif r.fR.any (Q8f r.fJ) then 6 else 0)) (by omega) ?_ ?_ fu () (by omega)
  · intro n s i x xs hx hd ih
    simp only [Qho.eq_2]
    unfold Qo4
    simp only [hd,cond_true,hx,Qab,Jer hfu,ih (),List.all_cons]
    rw [show (Qyf (Qtc r r.fL)).1=Qw0 r from rfl]
    cases Q07 x (Qw0 r) <;> rfl
  · intro n s i hd
    simp only [Qho.eq_2]
    unfold Qo4
    simp only [hd,cond_false,e4]
    rfl
 rw [e1]
 cases Q28 r <;> cases Q8h r <;> cases Jbq r.fP r.fG <;> rfl
theorem Jkc {fu:Nat} {r:Request} (h:Sm fu r):Qsl fu r=some (Qhd r):=by
 have hfu:=h.fu
 have h1:=h.items
 have h2:=h.types
 have h3:=h.pairs
 unfold Qsl Qhd
 rw [Jeo h,Qab,Jjp h,Qab,Jjz h,Qab,Jis h3 (by omega) (by omega),Qab]
 rw [Qwh (λy=>Qpx fu y (Qyf (Qtc r r.fL)).1) (λx=>!Q07 x (Qw0 r)) (λx _=>by
  unfold Qpx
  rw [Jhc,Qab]; rfl) h1 (by omega),Qab]
 rw [Q3g (λy=>Qpv fu y r.fJ) (Q8f r.fJ) (λx _=>by
  unfold Qpv Q8f
  cases decide (x.fW>r.fJ.fW) <;> cases decide (x.fD>r.fJ.fD) <;> cases decide (x.fH>r.fJ.fH) <;> rfl) h2 (by omega),Qab]
 rw [show (r.fU.any λx=>!Q07 x (Qw0 r))=!(r.fU.all λx=>Q07 x (Qw0 r)) by simp [List.not_all_eq_any_not]]
 cases Q28 r <;> cases Q8h r <;> cases Jbq r.fP r.fG <;> cases r.fU.all λx=>Q07 x (Qw0 r) <;> cases r.fR.any (Q8f r.fJ) <;> rfl
theorem Qtw {fu:Nat} {r:Request} (h:Sm fu r):Qfn fu r=some (Qhd r==0):=by
 unfold Qfn
 rw [Jkc h]; rfl
end Go.Proofs.YtpcmapfabndggaaGreat
/- The units of an order, by spec and by impl. -/
namespace Go.Proofs.YtpcmapfabndggaaGreat
open Go
open Enc (rd ow)
open Arg (argv)
open Ret (retv)
open Wf (wf)
theorem Jge {σ α β:Type} (l:List α) (L:Nat→σ→Int→Option β) (F:List α→List α→σ→Option β) (I:List α→List α→σ→Prop) (hl:l.length≤1099511627776)
    (hs:∀ n s pre x xs,l=pre++x::xs→ix l (pre.length:Int)=some x→decide ((pre.length:Int)<(l.length:Int))=true→I pre (x::xs) s→(∀ s',I (pre++[x]) xs s'→L n s' (w64 ((pre.length:Int)+1))=F (pre++[x]) xs s')→L (n+1) s (pre.length:Int)=F pre (x::xs) s)
    (he:∀ n s,decide ((l.length:Int)<(l.length:Int))=false→I l [] s→L (n+1) s (l.length:Int)=F l [] s):∀ n s,I [] l s→l.length<n→L n s 0=F [] l s:=by
 have key:∀ (xs pre:List α) (n:Nat) (s:σ),l=pre++xs→I pre xs s→xs.length<n→L n s (pre.length:Int)=F pre xs s:=by
  intro xs
  induction xs with
  | nil =>
   intro pre n s he' hI hn
   obtain ⟨n,rfl⟩:∃ k,n=k+1:=⟨n - 1,by omega⟩
   simp only [List.append_nil] at he'
   subst he'
   exact he n s (by simp) hI
  | cons x xs ih =>
   intro pre n s he' hI hn
   obtain ⟨n,rfl⟩:∃ k,n=k+1:=⟨n - 1,by simp at hn; omega⟩
   have hlen:l.length=pre.length+(xs.length+1):=by rw [he']; simp
   refine hs n s pre x xs he' ?_ (by simp; omega) hI λs' hI'=>?_
   · rw [Qix,he']; simp
   · rw [Qye _ (by omega)]
     have:=ih (pre++[x]) n s' (by simp [he']) hI' (by simp at hn; omega)
     simpa using this
 intro n s hI hn
 simpa using key l [] n s rfl hI hn
theorem Q0i {x:Item} (h:Qxr x=true):1≤x.fO∧x.fO≤6:=by
 simp only [Qxr,Bool.and_eq_true,Qco] at h
 omega
theorem Jde {xs:List Item} (h:∀ x∈xs,Qxr x=true):0≤Qsb (xs.map (·.fO)):=Q0m _ _ λx hx=>by have:=Q0i (h x hx); omega
theorem Jjv {fu:Nat} {r:Request} (h:Sm fu r) (hb:Q28 r=true):Qdh fu r=some (l6M r):=by
 have hfu:=h.fu
 obtain ⟨hi,hs,hl⟩:=Qrt hb
 have e4:∀ (k:List Int→Int→Option (List Int)) (i:Int) (x:Item),ix r.fU i=some x→∀ (m n:Nat) (c:Int) (out:List Int),0≤c→c≤x.fO→(x.fO - c).toNat=m→x.fO≤6→m<n→out.length+m≤100 →
     Qg3 fu k r i n out c=k (out++List.replicate m i) (w64 (i+1)):=by
  intro k i x hx m
  induction m with
  | zero =>
   intro n c out h0 h1 h2 h3 h4 h5
   obtain ⟨n,rfl⟩:∃ j,n=j+1:=⟨n - 1,by omega⟩
   rw [Qg3.eq_2]
   unfold Qly
   rw [hx,Qab,Qay (by simp; omega)]
   simp
  | succ m ih =>
   intro n c out h0 h1 h2 h3 h4 h5
   obtain ⟨n,rfl⟩:∃ j,n=j+1:=⟨n - 1,by omega⟩
   rw [Qg3.eq_2]
   unfold Qly
   rw [hx,Qab,Qbj (by simp; omega),ap1 (by simp; omega),Qab,Qa4 (by omega) (by omega),ih n (c+1) (out++[i]) (by omega) (by omega) (by omega) h3 (by omega) (by simp; omega)]
   rw [List.append_assoc,List.singleton_append,← List.replicate_succ]
 unfold Qdh l6M
 have:=Jge r.fU (λn out i=>Qes fu r n out i) (λpre xs out=>some (out++Q72 (pre.length:Int) xs)) (λpre xs out=>(out.length:Int)+Qsb (xs.map (·.fO))≤12∧∀ x∈xs,Qxr x=true) (by omega) ?_ ?_ fu [] ⟨by simpa using hs,hi⟩ (by omega)
 · simpa using this
 · intro n out pre x xs hl' hx hd hI ih
   simp only [Qes.eq_2]
   unfold Qmc
   have hc:=Q0i (hI.2 x (by simp))
   have hsum:=hI.1
   have hnn:=Jde (λy hy=>hI.2 y (by simp [hy]):∀ y∈xs,Qxr y=true)
   simp only [List.map_cons,Qfr] at hsum
   have e:=e4 (Qes fu r n) (pre.length:Int) x hx x.fO.toNat fu 0 out (by omega) (by omega) (by omega) (by omega) (by omega) (by omega)
   rw [hd,cond_true,e,ih _ ⟨by simp; omega,λy hy=>hI.2 y (by simp [hy])⟩]
   simp [Q72]
 · intro n out hd hI
   simp only [Qes.eq_2]
   unfold Qmc
   simp only [hd,cond_false]
   simp [Q72]
theorem Jgt {fu:Nat} {r:Request} (h:Sm fu r) (hc:Qhd r=0):Qdh fu r=some (Qje r):=by
 unfold Qje
 rw [Jjv h (Qei hc).1,Qbj (by simp [hc])]
theorem Jj5 {fu:Nat} {r:Request} (h:Sm fu r):Qsn fu r=some (Qje r):=by
 unfold Qsn Qje
 rw [Q2z h,Qab]
 by_cases hc:Qhd r=0
 · rw [Qay (by simp [hc]),Jjv h (Qei hc).1,Qab,Qbj (by simp [hc])]
 · rw [Qbj (by simp [hc]),Qay (by simp [hc])]
theorem Jkv (fu:Nat) (c:Int) (h:1≤c∧c≤6):Qvc fu (IntKind.wrap .u64 1) (IntKind.wrap .u64 c)=some (0,c):=by
 have:c=1∨c=2∨c=3∨c=4∨c=5∨c=6:=by omega
 rcases this with rfl | rfl | rfl | rfl | rfl | rfl <;> rfl
theorem Jjj (m:Nat) (i:Int):Qby (m+10) [i] (0,1)=some (List.replicate 1 i):=by kernel_rfl
theorem Jjm (m:Nat) (i:Int):Qby (m+10) [i] (0,2)=some (List.replicate 2 i):=by kernel_rfl
theorem Jim (m:Nat) (i:Int):Qby (m+10) [i] (0,3)=some (List.replicate 3 i):=by kernel_rfl
theorem Jix (m:Nat) (i:Int):Qby (m+10) [i] (0,4)=some (List.replicate 4 i):=by kernel_rfl
theorem Jio (m:Nat) (i:Int):Qby (m+10) [i] (0,5)=some (List.replicate 5 i):=by kernel_rfl
theorem Jjn (m:Nat) (i:Int):Qby (m+10) [i] (0,6)=some (List.replicate 6 i):=by kernel_rfl
theorem Jks {fu:Nat} (hfu:10≤fu) (i c:Int) (h:1≤c∧c≤6):Qgg fu [i] c=some (List.replicate c.toNat i):=by
 unfold Qgg Qgv
 rw [Qay (by simp; omega)]
 rw [show (([i]:List Int).length:Int)=1 from rfl,Jkv fu c h,Qab,Qay (by simp),Qay (by simp; omega)]
 obtain ⟨m,rfl⟩:∃ m,fu=m+10:=⟨fu - 10,by omega⟩
 have:c=1∨c=2∨c=3∨c=4∨c=5∨c=6:=by omega
 rcases this with rfl | rfl | rfl | rfl | rfl | rfl
 · exact Jjj m i
 · exact Jjm m i
 · exact Jim m i
 · exact Jix m i
 · exact Jio m i
 · exact Jjn m i
theorem Jcs {fu:Nat} {r:Request} (h:Sm fu r):Qkz fu r=some (Qje r):=by
 have hfu:=h.fu
 unfold Qkz Qje
 rw [Qtw h,Qab]
 by_cases hc:Qhd r=0
 · obtain ⟨hi,hs,hl⟩:=Qrt (Qei hc).1
   rw [Qay (by simp [hc]),Qbj (by simp [hc])]
   unfold l6M
   have:=Jge r.fU (λn out i=>Qif fu r n out i) (λpre xs out=>some (out++Q72 (pre.length:Int) xs)) (λpre xs out=>(out.length:Int)+Qsb (xs.map (·.fO))≤12∧∀ x∈xs,Qxr x=true) (by omega) ?_ ?_ fu [] ⟨by simpa using hs,hi⟩ (by omega)
   · simpa using this
   · intro n out pre x xs hl' hx hd hI ih
     simp only [Qif.eq_2]
     unfold Qoz
     have hc:=Q0i (hI.2 x (by simp))
     have hsum:=hI.1
     have hnn:=Jde (λy hy=>hI.2 y (by simp [hy]):∀ y∈xs,Qxr y=true)
     simp only [List.map_cons,Qfr] at hsum
     rw [hd,cond_true,hx,Qab,Jks (by omega) _ _ hc,Qab,ap1 (by simp; omega),Qab,ih _ ⟨by simp; omega,λy hy=>hI.2 y (by simp [hy])⟩]
     simp [Q72]
   · intro n out hd hI
     simp only [Qif.eq_2]
     unfold Qoz
     simp only [hd,cond_false]
     simp [Q72]
 · rw [Qbj (by simp [hc]),Qay (by simp [hc])]
end Go.Proofs.YtpcmapfabndggaaGreat
/- Kinds, groups and the units of a group, by spec and by impl. -/
namespace Go.Proofs.YtpcmapfabndggaaGreat
open Go
open Enc (rd ow)
open Arg (argv)
open Ret (retv)
open Wf (wf)
theorem Jh0 {fu:Nat} {l:List Int} (hl:l.length≤1048576) (hf:l.length<fu) (x:Int):Qqv fu l x=some (l.contains x):=by
 unfold Qqv
 refine lp l (λn (_:Unit) i=>Qii fu l x n i) (λl _=>some (l.contains x)) (by omega) ?_ ?_ fu () hf
 · intro n s i y ys hy hd ih
   simp only [Qii.eq_2]
   unfold Qpc
   simp only [hd,cond_true,hy,Qab,ih (),List.contains_cons]
   rw [Jj6 y x]
   cases x==y <;> rfl
 · intro n s i hd
   simp only [Qii.eq_2]
   unfold Qpc
   simp only [hd,cond_false]
   rfl
theorem Jib {fu:Nat} {l:List Int} (hl:l.length≤1048576) (hf:l.length<fu) (x:Int):Qdz fu l x=some (l.contains x):=by
 unfold Qdz Qil
 have:=Qth l (λn i=>Qc9 fu l x n i) (λy=>x==y) (by omega) (by
  intro n i y hx hd
  simp only [Qc9.eq_2]
  unfold Qf6
  simp only [hd,cond_true,hx,Qab]) (by
  intro n i hd
  simp only [Qc9.eq_2]
  unfold Qf6
  simp only [hd,cond_false]) fu hf
 rw [this,Qab,Qti _ l 0 (by omega),List.contains_eq_any_beq]
theorem Jgy {fu:Nat} {p:List Pair} (hp:p.length≤1048576) (hpf:p.length<fu) {g:List Int} (hl:g.length≤1048576) (hf:g.length<fu) (c:Int):Qpn fu p g c=some (g.all (Qxf p c)):=by
 unfold Qpn
 refine lp g (λn (_:Unit) i=>Qfx fu p g c n i) (λl _=>some (l.all (Qxf p c))) (by omega) ?_ ?_ fu () hf
 · intro n s i y ys hy hd ih
   simp only [Qfx.eq_2]
   unfold Qme Qpa
   simp only [hd,cond_true,hy,Qab,ih (),Jh7 hp hpf,List.all_cons,Qxf]
   cases Qtg p y c <;> cases Qtg p c y <;> rfl
 · intro n s i hd
   simp only [Qfx.eq_2]
   unfold Qme
   simp only [hd,cond_false]
   rfl
theorem Jir {fu:Nat} {r:Request} (h:Sm fu r):Qpj fu r=some (Qz6 r):=by
 have hfu:=h.fu
 have h1:=h.items
 unfold Qpj Qz6
 rw [Q2z h,Qab]
 by_cases hc:Qhd r=0
 · rw [show (Qhd r != 0)=false by simp [hc],show (Qhd r==0)=true by simp [hc],cond_false,cond_true]
   have e27:∀ (k:List Int→Int→Option (List Int)) (out:List Int) (c:Int),Qeq fu k r out c fu false 0=bif r.fU.any (λx=>x.fM==c) then (Qac (Qgz 8 out [c]) λx=>k x (w64 (c+1))) else k out (w64 (c+1)):=by
    intro k out c
    refine lp r.fU (λn f i=>Qeq fu k r out c n f i) (λl f=>bif f||l.any (λx=>x.fM==c) then (Qac (Qgz 8 out [c]) λx=>k x (w64 (c+1))) else k out (w64 (c+1))) (by omega) ?_ ?_ fu false (by omega)
    · intro n f i x xs hx hd ih
      simp only [Qeq.eq_2]
      unfold Qmg Qka
      simp only [hd,cond_true,hx,Qab,ih,List.any_cons]
      cases f
      · rfl
      · rfl
    · intro n f i hd
      simp only [Qeq.eq_2]
      unfold Qmg Qkh
      simp only [hd,cond_false,List.any_nil,Bool.or_false]
   have:=Q70 4 (λn out i=>Qd2 fu r n out i) (λxs out=>some (out++xs.filter λc=>r.fU.any λx=>x.fM==c)) (λxs out=>out.length+xs.length≤4) (by omega) ?_ ?_ 4 fu [] 0 (by omega) (by omega) (by omega) (by simp [Qf2])
   · simpa using this
   · intro n out i xs h0 h1 hd hI ih
     simp only [List.length_cons] at hI
     simp only [Qd2.eq_2]
     unfold Qlu
     simp only [hd,cond_true,e27]
     cases hb:r.fU.any λx=>x.fM==i
     · rw [cond_false,ih out (by omega)]
       simp [hb]
     · rw [cond_true,ap1 (by simp; omega),Qab,ih _ (by simp; omega)]
       simp [hb]
   · intro n out i hd hI
     simp only [Qd2.eq_2]
     unfold Qlu
     simp only [hd,cond_false]
     simp
 · rw [show (Qhd r != 0)=true by simp [hc],show (Qhd r==0)=false by simp [hc],cond_false,cond_true]
theorem Jaq {fu:Nat} {l:List Int} (hl:l.length≤1048576):∃ k,Qkw fu l=some k∧k.Pairwise (·<·)∧∀ x,x∈k↔x∈l:=by
 unfold Qkw Qdc Qck Qkg
 have hp:=List.mergeSort_perm l (λx y=>decide (x≤y))
 have hs:=Qqs l
 rw [ap1 (by simp; omega),Qab,Qab,List.nil_append]
 unfold Q3s
 rw [if_pos (by omega),Qab]
 unfold Jif
 rw [if_pos (by rw [hp.length_eq]; omega),Qab]
 obtain ⟨h1,h2⟩:=Q1b _ hs
 exact ⟨_,rfl,h1,λx=>(h2 x).trans hp.mem_iff⟩
theorem Q1f {fu:Nat} {l:List Int} (hl:l.length≤1048576) (hs:l.Pairwise (·<·)):Qkw fu l=some l:=by
 obtain ⟨k,h1,h2,h3⟩:=Jaq (fu:=fu) hl
 rw [h1,Jbn h2 hs h3]
theorem Jjg {fu:Nat} {r:Request} (h:Sm fu r):Qp1 fu r=some (Qz6 r):=by
 have hfu:=h.fu
 have h1:=h.items
 unfold Qp1
 rw [Qtw h,Qab]
 by_cases hc:Qhd r=0
 · rw [show (Qhd r==0)=true by simp [hc],Bool.not_true,cond_false]
   have:=lpI r.fU (λn out i=>Qg8 fu r n out i) (λxs out=>Qac (Qkw fu (out++xs.map (·.fM))) λx=>some x) (λxs out=>out.length+xs.length≤1048576) (by omega) ?_ ?_ fu [] (by simpa using h1) (by omega)
   · rw [List.nil_append] at this
     refine this.trans ?_
     obtain ⟨k,e1,e2,e3⟩:=Jaq (fu:=fu) (l:=r.fU.map (·.fM)) (by simpa using h1)
     rw [e1,Qab]
     congr 1
     refine Jbn e2 (Qtx r) λx=>?_
     rw [e3]
     unfold Qz6
     rw [show (Qhd r==0)=true by simp [hc],cond_true,List.mem_filter,Qc3,List.any_eq_true,List.mem_map]
     constructor
     · rintro ⟨y,hy,rfl⟩
       have:=(Qrt (Qei hc).1).1 y hy
       simp only [Qxr,Bool.and_eq_true,Qco] at this
       exact ⟨by omega,y,hy,by simp⟩
     · rintro ⟨_,y,hy,e⟩
       exact ⟨y,hy,by simpa using e⟩
   · intro n out i x xs hx hd hI ih
     simp only [List.length_cons] at hI
     simp only [Qg8.eq_2]
     unfold Qlb
     simp only [hd,cond_true,hx,Qab]
     rw [ap1 (by simp; omega),Qab,ih _ (by simp; omega)]
     simp
   · intro n out i hd hI
     simp only [Qg8.eq_2]
     unfold Qlb
     simp only [hd,cond_false]
     simp
 · rw [show (Qhd r==0)=false by simp [hc],Bool.not_false,cond_true]
   unfold Qz6
   rw [show (Qhd r==0)=false by simp [hc],cond_false]
theorem Q4a {α:Type} (g:α→Bool) (x:α):∀ (l:List α),Qwj g (l++[x])=match Qwj g l with | some i=>some i | none=>bif g x then some l.length else none
 | []=>by simp [Qwj]
 | y::ys=>by
  simp only [List.cons_append,Qwj]
  cases g y
  · simp only [cond_false]
    rw [Q4a g x ys]
    cases Qwj g ys <;> simp
    cases g x <;> simp
  · rfl
def atB {α:Type} (g:α→Bool) (l:List α) (i:Int):Bool:=match ix l i with | some x=>g x | none=>false
def Jds {α:Type} (g:α→Bool) (l:List α) (a i:Int):Int:=bif atB g l i then i else a
theorem Qz0 {α:Type} (g:α→Bool) (l:List α):∀ (m:Nat) (a:Int),m≤l.length→(Qvm m).foldl (Jds g l) a=match Qwj g (l.take m) with | some i=>(i:Int) | none=>a
 | 0,a,_=>by simp [Qvm,Qwj]
 | m+1,a,h=>by
  simp only [Qvm,List.foldl_cons]
  rw [Qz0 g l m _ (by omega),List.take_succ_eq_append_getElem (by omega),Q4a,List.length_take,Nat.min_eq_left (by omega)]
  unfold Jds atB
  rw [Qy2 (by omega)]
  cases Qwj g (l.take m) with
  | some i=>rfl
  | none =>
   simp only
   cases g l[m] <;> rfl
theorem Q3b {α:Type} (g:α→Bool):∀ (l:List α) (i:Int),Qxj g l i=match Qwj g l with | some j=>i+j | none=>-1
 | [],i=>rfl
 | x::xs,i=>by
  simp only [Qxj,Qwj]
  cases g x
  · simp only [cond_false]
    rw [Q3b g xs (i+1)]
    cases Qwj g xs with
    | none=>rfl
    | some j =>
     show i+1+(j:Int)=i+((j+1:Nat):Int)
     omega
  · simp
theorem Jdi {p:List Pair} {out:List (List Int)} {c:Int} {n:Nat} (h:okG n out) (hn:n≤1048576) {β:Type} (k:List (List Int)→Option β) (a:Int) (ha:a=match Qwj (λg=>g.all (Qxf p c)) out with | some i=>(i:Int) | none=>-1) :
    (bif (decide (a<0)) then Qac (Qgz 24 out [([c]:List Int)]) λx=>k x else Qac (ix out a) λx=>Qac (Qgz 8 x (([c]:List Int))) λy=>Qac (ix out a) λz=>k (Qe5 out a y))=k (Q44 p out c):=by
 obtain ⟨h1,h2⟩:=h
 unfold Q44
 cases hf:Qwj (λg=>g.all (Qxf p c)) out with
 | none =>
  rw [hf] at ha
  simp only at ha
  subst ha
  rw [Qbj (by simp),ap1 (by simp; omega),Qab]
 | some i =>
  rw [hf] at ha
  simp only at ha
  subst ha
  obtain ⟨x,hx,_⟩:=Qtz hf
  have:=h2 x (List.mem_of_getElem? hx)
  rw [Qay (by simp),Qix,hx,Qab,ap1 (by simp; omega),Qab,Qab]
  simp [Qe5,hx]
theorem Jia {fu:Nat} {p:List Pair} (hp:p.length≤1048576) (hfu:2097153≤fu) {l:List Int} (hl:l.length≤1048576):Qq2 fu p l=some (((Qf2 0 4).filter l.contains).foldl (Q44 p) []):=by
 unfold Qq2
 have e27:∀ (k:List (List Int)→Int→Option (List (List Int))) (out:List (List Int)) (c:Int),okG 4 out→Qe8 fu k p out c fu (-1) (w64 ((out.length:Int) - 1))=k (Q44 p out c) (w64 (c+1)):=by
  intro k out c ho
  obtain ⟨R,hR⟩:∃ R:Int→Option (List (List Int)),R=λa=>bif (decide (a<0)) then Qac (Qgz 24 out [([c]:List Int)]) λx=>k x (w64 (c+1)) else Qac (ix out a) λx=>Qac (Qgz 8 x (([c]:List Int))) λy=>Qac (ix out a) λz=>k (Qe5 out a y) (w64 (c+1)):=⟨_,rfl⟩
  have:=lpD out.length (λn a i=>Qe8 fu k p out c n a i) (λxs a=>R (xs.foldl (Jds (λg=>g.all (Qxf p c)) out) a)) (by have:=ho.1; omega) ?_ ?_ fu (-1) (by have:=ho.1; omega)
  · rw [this,hR]
    refine Jdi (p:=p) ho (by omega) (λx=>k x (w64 (c+1))) _ ?_
    rw [Qz0 (λg=>g.all (Qxf p c)) out out.length (-1) (Nat.le_refl _),List.take_length]
  · intro n a i xs h0 h1 hd ih
    simp only [Qe8.eq_2]
    unfold Qne Qmm
    obtain ⟨j,rfl⟩:∃ j:Nat,i=j:=⟨i.toNat,by omega⟩
    have hj:j<out.length:=by omega
    have hg:=ho.2 _ (List.getElem_mem hj)
    simp only [hd,cond_true,Qy2 hj,Qab,Jgy hp (by omega) (show out[j].length≤1048576 by omega) (show out[j].length<fu by omega),ih,List.foldl_cons]
    have e:Jds (λg=>g.all (Qxf p c)) out a (j:Int)=bif out[j].all (Qxf p c) then (j:Int) else a:=by unfold Jds atB; rw [Qy2 hj]
    rw [e]
    cases out[j].all (Qxf p c) <;> rfl
  · intro n a i hd
    simp only [Qe8.eq_2]
    unfold Qne Qhs
    simp only [hd,cond_false,List.foldl_nil,hR]
 have:=Q70 4 (λn out i=>Qel fu p l n out i) (λxs out=>some ((xs.filter l.contains).foldl (Q44 p) out)) (λxs out=>∃ m,m+xs.length≤4∧okG m out) (by omega) ?_ ?_ 4 fu [] 0 (by omega) (by omega) (by omega) ⟨0,by simp [Qf2],by simp,by simp⟩
 · exact this
 · intro n out i xs h0 h1 hd hI ih
   obtain ⟨m,hm,ho⟩:=hI
   simp only [List.length_cons] at hm
   simp only [Qel.eq_2]
   unfold Qns Qhs
   simp only [hd,cond_true,Jh0 hl (show l.length<fu by omega),Qab]
   cases hb:l.contains i
   · rw [Bool.not_false,cond_true,ih out ⟨m,by omega,ho⟩,List.filter_cons_of_neg (by rw [hb]; simp)]
   · rw [Bool.not_true,cond_false,e27 _ out i ⟨by have:=ho.1; omega,λg hg=>by have:=ho.2 g hg; omega⟩,ih _ ⟨m+1,by omega,Q47 i ho⟩,List.filter_cons_of_pos hb,List.foldl_cons]
 · intro n out i hd hI
   simp only [Qel.eq_2]
   unfold Qns
   simp only [hd,cond_false]
   simp
theorem Q79 (r:Request):(Qf2 0 4).filter (Qz6 r).contains=Qz6 r :=
 Jbn ((Qt5 0 4).filter _) (Qtx r) λx=>by
  rw [List.mem_filter,Qc3]
  constructor
  · rintro ⟨_,h⟩; simpa using h
  · intro h; have:=Q7k h; exact ⟨by omega,by simpa using h⟩
theorem Jfd {fu:Nat} {r:Request} (h:Sm fu r):Qij fu r=some (Qhr r):=by
 unfold Qij Qhr
 rw [Jir h,Qab,Jia h.pairs h.fu (by have:=Q2l r; omega),Qab,Q79]
theorem Jji {fu:Nat} {p:List Pair} (hp:p.length≤1048576) (hpf:p.length<fu) (a b:Int):Qrg fu p a b=some (Qxf p a b):=by
 unfold Qrg Qxf
 simp only [Jei hp hpf,Qab]
 cases Qtg p a b <;> rfl
theorem Q67 {fu:Nat} {l:List Int} (f:Int→Option Bool) (g:Int→Bool) (hg:∀ x∈l,f x=some (g x)) (hl:l.length≤1048576) (hf:l.length<fu):Qdo fu l f=some (Qxj g l 0):=by
 unfold Qdo
 refine Qth l (λn i=>Qce fu l f n i) g (by omega) ?_ ?_ fu hf
 · intro n i x hx hd
   simp only [Qce.eq_2]
   unfold Qem
   simp only [hd,cond_true,hx,Qab,hg x (Qfe hx)]
 · intro n i hd
   simp only [Qce.eq_2]
   unfold Qem
   simp only [hd,cond_false]
theorem Q7a {fu:Nat} {l:List Int} (f:Int→Option Bool) (g:Int→Bool) (hg:∀ x∈l,f x=some (g x)) (hl:l.length≤1048576) (hf:l.length<fu):Qc2 fu l f=some (l.any g):=by
 unfold Qc2
 rw [Q67 f g hg hl hf,Qab,Qti g l 0 (by omega)]
theorem Q38 {fu:Nat} {l:List (List Int)} (f:List Int→Option Bool) (g:List Int→Bool) (hg:∀ x∈l,f x=some (g x)) (hl:l.length≤1048576) (hf:l.length<fu):Qdf fu l f=some (Qxj g l 0):=by
 unfold Qdf
 refine Qth l (λn i=>Qb3 fu l f n i) g (by omega) ?_ ?_ fu hf
 · intro n i x hx hd
   simp only [Qb3.eq_2]
   unfold Qef
   simp only [hd,cond_true,hx,Qab,hg x (Qfe hx)]
 · intro n i hd
   simp only [Qb3.eq_2]
   unfold Qef
   simp only [hd,cond_false]
theorem Jhv {fu:Nat} {p:List Pair} (hp:p.length≤1048576) (hfu:2097153≤fu) {l:List Int} (hl:l.length≤4) (hs:l.Pairwise (·<·)) (hm:∀ c∈l,0≤c∧c<4):Qrf fu p l=some (l.foldl (Q44 p) []):=by
 unfold Qrf
 rw [Q1f (by omega) hs,Qab]
 have:=lpI l (λn out i=>Qfd fu p l n out i) (λxs out=>some (xs.foldl (Q44 p) out)) (λxs out=>(∃ m,m+xs.length≤4∧okG m out)∧∀ c∈xs,0≤c∧c<4) (by omega) ?_ ?_ fu [] ⟨⟨0,by simpa using hl,by simp,by simp⟩,hm⟩ (by omega)
 · exact this
 · intro n out i c xs hx hd hI ih
   obtain ⟨⟨m,hm,ho⟩,hc⟩:=hI
   simp only [List.length_cons] at hm
   have hc0:=hc c (by simp)
   simp only [Qfd.eq_2]
   unfold Qnj Qit
   simp only [hd,cond_true,hx,Qab,Q43]
   rw [show inb c 0 3=true by simp; omega,Bool.not_true,cond_false]
   rw [Q38 (λy=>Qoa fu y p c) (λg=>g.all (Qxf p c)) (λg hg=>by
    have hgl:=ho.2 g hg
    unfold Qoa
    rw [Q7a (λy=>Qkk fu y p c) (λx=>!Qxf p c x) (λx _=>by
     unfold Qkk
     rw [Jji hp (by omega),Qab]) (by omega) (by omega),Qab]
    simp [List.any_eq_not_all_not]) (by have:=ho.1; omega) (by have:=ho.1; omega),Qab]
   rw [Jdi (p:=p) ho (by omega) (λx=>Qfd fu p l n x (w64 (i+1))) (Qxj (λg=>g.all (Qxf p c)) out 0) (by
    rw [Q3b]
    cases Qwj (λg=>g.all (Qxf p c)) out <;> simp)]
   rw [ih _ ⟨⟨m+1,by omega,Q47 c ho⟩,λy hy=>hc y (by simp [hy])⟩]
   rfl
 · intro n out i hd hI
   simp only [Qfd.eq_2]
   unfold Qnj
   simp only [hd,cond_false]
   rfl
theorem Jcy {fu:Nat} {r:Request} (h:Sm fu r):Qhe fu r=some (Qhr r):=by
 unfold Qhe
 rw [Qtw h,Qab]
 by_cases hc:Qhd r=0
 · rw [show (Qhd r==0)=true by simp [hc],Bool.not_true,cond_false,Jjg h,Qab,Jhv h.pairs h.fu (Q2l r) (Qtx r) (λc hc=>Q7k hc),Qab]
   rfl
 · rw [show (Qhd r==0)=false by simp [hc],Bool.not_false,cond_true]
   unfold Qhr Qz6
   rw [show (Qhd r==0)=false by simp [hc],cond_false]
   rfl
theorem Q9d (r:Request):w64 (((Qhr r).length:Int) - 1)=((Qhr r).length:Int) - 1:=by
 have:=(Qtk r).1
 exact Qa4 (by omega) (by omega)
end Go.Proofs.YtpcmapfabndggaaGreat
/- slices.DeleteFunc at numbers, places. -/
namespace Go.Proofs.YtpcmapfabndggaaGreat
open Go
open Enc (rd ow)
open Arg (argv)
open Ret (retv)
open Wf (wf)
theorem Q6x {fu:Nat} (n:Nat) (hn:n≤1048576) (hf:n<fu):Qor fu (n:Int)=some (Qf2 0 n):=by
 unfold Qor
 have:=Q70 (n:Int) (λk out i=>Qht fu (n:Int) k out i) (λxs out=>some (out++xs)) (λxs out=>out.length+xs.length≤1048576) (by omega) ?_ ?_ n fu [] 0 (by omega) (by omega) hf (by simpa [Qcy] using hn)
 · simpa using this
 · intro k out i xs h0 h1 hd hI ih
   simp only [List.length_cons] at hI
   simp only [Qht.eq_2]
   unfold Qnl
   rw [hd,cond_true,ap1 (by simp; omega),Qab,ih _ (by simp; omega)]
   simp
 · intro k out i hd hI
   simp only [Qht.eq_2]
   unfold Qnl
   simp only [hd,cond_false]
   simp
theorem Jaf {α:Type} (g:α→Bool):∀ (l pre:List α),(Qxj g l pre.length=-1∧∀ x∈l,g x=false)∨(∃ a x b,l=a++x::b∧(∀ y∈a,g y=false)∧g x=true∧Qxj g l pre.length=((pre.length+a.length:Nat):Int))
 | [],pre=>.inl ⟨rfl,by simp⟩
 | x::xs,pre=>by
  simp only [Qxj]
  by_cases hx:g x=true
  · rw [hx,cond_true]; exact .inr ⟨[],x,xs,rfl,by simp,hx,by simp⟩
  · have hx':g x=false:=by simpa using hx
    rw [hx',cond_false]
    have:=Jaf g xs (pre++[x])
    simp only [List.length_append,List.length_singleton] at this
    rw [show ((pre.length+1:Nat):Int)=(pre.length:Int)+1 by omega] at this
    rcases this with ⟨h1,h2⟩ | ⟨a,y,b,h1,h2,h3,h4⟩
    · exact .inl ⟨h1,by simpa [hx'] using h2⟩
    · exact .inr ⟨x::a,y,b,by simp [h1],by simpa [hx'] using h2,h3,by rw [h4]; simp; omega⟩
theorem Jjk {fu:Nat} {l:List Int} (f:Int→Option Bool) (g:Int→Bool) (hg:∀ x∈l,f x=some (g x)) (hl:l.length≤1048576) (hf:l.length<fu):Qej fu l f=some (l.filter λx=>!g x):=by
 unfold Qej
 rw [Q67 f g hg hl hf,Qab]
 have hp:=Jaf g l []
 simp only [List.length_nil,Nat.zero_add] at hp
 rcases hp with ⟨h1,h2⟩ | ⟨a,x,b,h1,h2,h3,h4⟩
 · have h1':Qxj g l 0=-1:=h1
   rw [h1',Qbj (by simp)]
   congr 1
   exact (List.filter_eq_self.2 λy hy=>by simp [h2 y hy]).symm
 · have h4':Qxj g l 0=(a.length:Int):=h4
   rw [h4',Qay (by simp)]
   have key:∀ (rest kept mid pre:List Int) (n:Nat),l=pre++rest→kept=pre.filter (λx=>!g x)→mid≠[]→kept.length+mid.length=pre.length→rest.length<n →
       Qbn fu f n (kept++mid++rest) (kept.length:Int) (pre.length:Int)=some (l.filter λx=>!g x):=by
    intro rest
    induction rest with
    | nil =>
     intro kept mid pre n e1 e2 e3 e4 hn
     obtain ⟨n,rfl⟩:∃ j,n=j+1:=⟨n - 1,by omega⟩
     rw [Qbn.eq_2]
     unfold Qeg
     simp only [List.append_nil] at *
     subst e1
     rw [Qay (by simp; omega),Qtj ⟨by omega,by simp; omega,by omega⟩,Qab,Qtj ⟨by omega,by omega,by simp [Q41]; omega⟩,Qab]
     rw [← e2]
     simp [Q41]
    | cons y rest ih =>
     intro kept mid pre n e1 e2 e3 e4 hn
     obtain ⟨n,rfl⟩:∃ j,n=j+1:=⟨n - 1,by simp at hn; omega⟩
     have hlen:l.length=pre.length+(rest.length+1):=by rw [e1]; simp
     have hyl:y∈l:=by rw [e1]; simp
     obtain ⟨m,ms,rfl⟩:∃ m ms,mid=m::ms:=by
      cases mid with
      | nil=>exact absurd rfl e3
      | cons m ms=>exact ⟨m,ms,rfl⟩
     simp only [List.length_cons] at e4 hn
     have hx:ix (kept++(m::ms)++y::rest) (pre.length:Int)=some y:=by
      rw [Qix,List.getElem?_append_right (by simp; omega)]
      simp only [List.length_append,List.length_cons]
      rw [show pre.length - (kept.length+(ms.length+1))=0 by omega]; rfl
     have hk:ix (kept++(m::ms)++y::rest) (kept.length:Int)=some m:=by
      rw [Qix]; simp
     rw [Qbn.eq_2]
     unfold Qeg Qdn
     rw [Qbj (by simp; omega),hx,Qab,hg y hyl,Qab]
     cases hgy:g y
     · rw [Bool.not_false,cond_true,hk,Qab,Qye _ (by omega),Qye _ (by omega)]
       have e5:Qe5 (kept++(m::ms)++y::rest) (kept.length:Int) y=(kept++[y])++(ms++[y])++rest:=by simp [Qe5]
       rw [e5]
       have:=ih (kept++[y]) (ms++[y]) (pre++[y]) n (by simp [e1]) (by rw [e2,List.filter_append]; simp [hgy]) (by simp) (by simp; omega) (by omega)
       simp only [List.length_append,List.length_singleton] at this
       exact this
     · rw [Bool.not_true,cond_false,Qye _ (by omega)]
       have:=ih kept ((m::ms)++[y]) (pre++[y]) n (by simp [e1]) (by rw [e2,List.filter_append]; simp [hgy]) (by simp) (by simp; omega) (by omega)
       simp only [List.length_append,List.length_singleton] at this
       rw [show kept++(m::ms)++y::rest=kept++((m::ms)++[y])++rest by simp]
       exact this
   have hlen:l.length=a.length+(b.length+1):=by rw [h1]; simp
   have ha:a.filter (λx=>!g x)=a:=List.filter_eq_self.2 λy hy=>by simp [h2 y hy]
   have:=key b a [x] (a++[x]) fu (by simp [h1]) (by rw [List.filter_append,ha]; simp [h3]) (by simp) (by simp) (by omega)
   rw [Qye _ (by omega)]
   simp only [List.length_append,List.length_singleton] at this
   rw [show a++[x]++b=l by simp [h1]] at this
   exact this
end Go.Proofs.YtpcmapfabndggaaGreat
/- SortDown, by spec and by impl (short lists). -/
namespace Go.Proofs.YtpcmapfabndggaaGreat
open Go
open Enc (rd ow)
open Arg (argv)
open Ret (retv)
open Wf (wf)
def dnk (keys:List Int) (p:Int):Int:=- kf keys p
theorem Jdp {fu:Nat} {keys:List Int} (hfu:2097153≤fu) (hl:keys.length≤1048576):Qhl fu keys=some (srt (dnk keys) keys.length):=by
 unfold Qhl Qp7
 rw [Q7i keys.length hl (by omega),Qab]
 obtain ⟨m,rfl⟩:∃ m,fu=m+1:=⟨fu - 1,by omega⟩
 rw [Q68 true hfu m _ (by rw [Qcy]; omega) (by rw [Qcy]; omega) (λp hp=>by have:=Qc3.1 hp; omega),Qab]
 congr 1
 have e:dk keys true=dnk keys:=rfl
 rw [e]
 exact Q27 (Qsx _ _ _) (Qtu _ _ _ (by rw [Qcy]; omega) (Qt5 _ _))
def Q0r (k:Int→Int) (x:Int):List Int→List Int→List Int
 | [],mid=>x::mid
 | y::ys,mid=>if k x<k y then Q0r k x ys (y::mid) else (y::ys).reverse++x::mid
theorem Qy8 (k:Int→Int) (x:Int):∀ (ys mid:List Int),(Q0r k x ys mid).Perm (ys.reverse++x::mid)
 | [],mid=>List.Perm.refl _
 | y::ys,mid=>by
  unfold Q0r
  split
  · refine (Qy8 k x ys (y::mid)).trans ?_
    rw [List.reverse_cons,List.append_assoc]
    refine List.Perm.append_left _ ?_
    exact List.Perm.swap _ _ _
  · exact List.Perm.refl _
theorem Qz1 (k:Int→Int) (x:Int):∀ (ys mid:List Int),(ys.reverse++mid).Pairwise (lx k)→(∀ m∈mid,lx k x m)→(∀ p∈ys,p<x)→(Q0r k x ys mid).Pairwise (lx k)
 | [],mid,h,hm,_=>by
  unfold Q0r
  exact List.pairwise_cons.2 ⟨hm,by simpa using h⟩
 | y::ys,mid,h,hm,hy=>by
  unfold Q0r
  rw [List.reverse_cons,List.append_assoc] at h
  split
  · rename_i hk
    refine Qz1 k x ys (y::mid) (by simpa using h) ?_ (λp hp=>hy p (by simp [hp]))
    intro m hmm
    rcases List.mem_cons.1 hmm with rfl | hmm
    · exact .inl hk
    · exact hm m hmm
  · rename_i hk
    have hyx:lx k y x:=by
     have:=hy y (by simp)
     by_cases he:k y<k x
     · exact .inl he
     · exact .inr ⟨by omega,this⟩
    rw [List.reverse_cons,List.append_assoc]
    obtain ⟨h1,h2,h3⟩:=List.pairwise_append.1 h
    simp only [List.singleton_append] at h2 h3
    refine List.pairwise_append.2 ⟨h1,?_,?_⟩
    · simp only [List.singleton_append]
      obtain ⟨h4,h5⟩:=List.pairwise_cons.1 h2
      refine List.pairwise_cons.2 ⟨?_,List.pairwise_cons.2 ⟨hm,h5⟩⟩
      intro m hmm
      rcases List.mem_cons.1 hmm with rfl | hmm
      · exact hyx
      · exact h4 m hmm
    · intro a ha b hb
      simp only [List.singleton_append,List.mem_cons] at hb
      have hay:=h3 a ha y (by simp)
      rcases hb with rfl | rfl | hb
      · exact hay
      · exact Jc4 hay hyx
      · exact h3 a ha b (by simp [hb])
theorem Q6t (k:Int→Int) (x:Int):∀ (ys mid rest:List Int),Q0r k x ys (mid++rest)=Q0r k x ys mid++rest
 | [],mid,rest=>rfl
 | y::ys,mid,rest=>by
  unfold Q0r
  split
  · exact Q6t k x ys (y::mid) rest
  · simp
theorem Jjt {A:List Int} {y:Int} {B:List Int} {n:Nat} (h:A.length=n):ix (A++y::B) (n:Int)=some y:=by subst h; rw [Qix]; simp
theorem Jdg {A:List Int} {y z:Int} {B:List Int} {n:Nat} (h:A.length=n):Qe5 (A++y::B) (n:Int) z=A++z::B:=by subst h; simp [Qe5]
theorem Q7o {fu:Nat} {f:Int→Int→Option Int} {k:Int→Int} (K9:List Int→Int→Option (List Int)) (i0:Int) (hf:∀ a b c,f a b=some c→(c<0↔k a<k b)) (x:Int) :
    ∀ (ys mid:List Int) (n:Nat),(∀ p∈ys,∃ c,f x p=some c)→ys.length<n→ys.length≤1048576→Qbd fu K9 0 f i0 n (ys.reverse++x::mid) (ys.length:Int)=K9 (Q0r k x ys mid) (w64 (i0+1))
 | [],mid,n,_,hn,_=>by
  obtain ⟨n,rfl⟩:∃ j,n=j+1:=⟨n - 1,by omega⟩
  rw [Qbd.eq_2]
  unfold Qda Q0r
  rw [Qay (by simp)]; rfl
 | y::ys,mid,n,hy,hn,hl=>by
  simp only [List.length_cons] at hn hl
  obtain ⟨n,rfl⟩:∃ j,n=j+1:=⟨n - 1,by omega⟩
  obtain ⟨c,hc⟩:=hy y (by simp)
  have hw:w64 (((y::ys).length:Int) - 1)=(ys.length:Int):=by simp only [List.length_cons]; rw [Qa4 (by omega) (by omega)]; omega
  have e0:(y::ys).reverse++x::mid=ys.reverse++y::x::mid:=by simp
  have e1:ix ((y::ys).reverse++x::mid) ((y::ys).length:Int)=some x:=Jjt (by simp)
  have e2:ix ((y::ys).reverse++x::mid) (ys.length:Int)=some y:=by rw [e0]; exact Jjt (by simp)
  rw [Qbd.eq_2]
  unfold Qda Q0r
  rw [Qbj (by simp),e1,Qab,hw,e2,Qab,hc,Qab]
  by_cases hk:k x<k y
  · rw [if_pos hk,decide_eq_true ((hf _ _ _ hc).2 hk),cond_true]
    unfold Qdl
    have e3:Qe5 ((y::ys).reverse++x::mid) ((y::ys).length:Int) y=(y::ys).reverse++y::mid:=Jdg (by simp)
    have e4:ix ((y::ys).reverse++y::mid) (ys.length:Int)=some y:=by rw [show (y::ys).reverse++y::mid=ys.reverse++y::y::mid by simp]; exact Jjt (by simp)
    have e5:Qe5 ((y::ys).reverse++y::mid) (ys.length:Int) x=ys.reverse++x::y::mid:=by rw [show (y::ys).reverse++y::mid=ys.reverse++y::y::mid by simp]; exact Jdg (by simp)
    rw [hw,e2,Qab,e1,Qab,Qab,e3,e4,Qab,e5]
    exact Q7o K9 i0 hf x ys (y::mid) n (λp hp=>hy p (by simp [hp])) (by omega) (by omega)
  · rw [if_neg hk,decide_eq_false (λh=>hk ((hf _ _ _ hc).1 h)),cond_false]
def Jfu (k:Int→Int):List Int→List Int→List Int
 | P,[]=>P
 | P,x::xs=>Jfu k (Q0r k x P.reverse []) xs
theorem Q4x (k:Int→Int):∀ (xs P:List Int),P.Pairwise (lx k)→(∀ p∈P,∀ x∈xs,p<x)→xs.Pairwise (·<·)→(Jfu k P xs).Perm (P++xs)∧(Jfu k P xs).Pairwise (lx k)
 | [],P,h,_,_=>by simpa [Jfu] using h
 | x::xs,P,h,hp,hx=>by
  obtain ⟨h1,h2⟩:=List.pairwise_cons.1 hx
  have hs:(Q0r k x P.reverse []).Pairwise (lx k):=Qz1 k x P.reverse [] (by simpa using h) (by simp) (λp hp'=>hp p (by simpa using hp') x (by simp))
  have hpm:(Q0r k x P.reverse []).Perm (P++[x]):=by simpa using Qy8 k x P.reverse []
  have ih:=Q4x k xs (Q0r k x P.reverse []) hs (λp hp' y hy=>by
   rcases List.mem_append.1 (hpm.mem_iff.1 hp') with h' | h'
   · exact hp p h' y (by simp [hy])
   · rw [List.mem_singleton.1 h']; exact h1 y hy) h2
  refine ⟨?_,ih.2⟩
  unfold Jfu
  refine ih.1.trans ?_
  refine (hpm.append_right xs).trans ?_
  simp
theorem Q9u {fu:Nat} {f:Int→Int→Option Int} {k:Int→Int} (hfu:2097153≤fu) (hf:∀ a b c,f a b=some c→(c<0↔k a<k b)) {n:Nat} (hn:n≤1048576) (hin:∀ a b:Int,0≤a→a<n→0≤b→b<n→∃ c,f a b=some c) :
    ∀ (xs P:List Int) (m:Nat),xs.length<m→P.length+xs.length=n→(∀ p∈P++xs,0≤p∧p<n)→Qao fu 0 (n:Int) f m (P++xs) (P.length:Int)=some (Jfu k P xs)
 | [],P,m,hm,hl,_=>by
  obtain ⟨m,rfl⟩:∃ j,m=j+1:=⟨m - 1,by omega⟩
  simp only [List.length_nil] at hl
  rw [Qao.eq_2]
  unfold Qcb
  rw [Qay (by simp; omega)]; simp [Jfu]
 | x::xs,P,m,hm,hl,hp=>by
  simp only [List.length_cons] at hl hm
  obtain ⟨m,rfl⟩:∃ j,m=j+1:=⟨m - 1,by omega⟩
  rw [Qao.eq_2]
  unfold Qcb
  rw [Qbj (by simp; omega)]
  have key:=Q7o (fu:=fu) (f:=f) (k:=k) (Qao fu 0 (n:Int) f m) (P.length:Int) hf x P.reverse xs fu (λp hp'=>by
   have h1:=hp p (by simp at hp'; simp [hp'])
   have h2:=hp x (by simp)
   exact hin x p h2.1 h2.2 h1.1 h1.2) (by simp; omega) (by simp; omega)
  rw [List.reverse_reverse,List.length_reverse] at key
  rw [key,Qye _ (by omega)]
  have e:Q0r k x P.reverse xs=Q0r k x P.reverse []++xs:=by
   have:=Q6t k x P.reverse [] xs
   simpa using this
  have hpm:(Q0r k x P.reverse []).Perm (P++[x]):=by simpa using Qy8 k x P.reverse []
  have hlen:(Q0r k x P.reverse []).length=P.length+1:=by rw [hpm.length_eq]; simp
  rw [e]
  have ih:=Q9u hfu hf hn hin xs (Q0r k x P.reverse []) m (by omega) (by omega) (λp hp'=>by
   rcases List.mem_append.1 hp' with h' | h'
   · rcases List.mem_append.1 (hpm.mem_iff.1 h') with h'' | h''
     · exact hp p (by simp [h''])
     · exact hp p (by rw [List.mem_singleton.1 h'']; simp)
   · exact hp p (by simp [h']))
  rw [hlen] at ih
  rw [ih]; rfl
theorem Jjy (fu:Nat) (a b:Int):∃ c,Qpz fu a b=some c∧(c<0↔a<b):=by
 unfold Qpz
 by_cases h:a<b
 · exact ⟨-1,by simp [h],by simp [h]⟩
 · by_cases h2:a>b
   · exact ⟨1,by simp [h,h2],by simp [h]⟩
   · exact ⟨0,by simp [h,h2],by simp [h]⟩
theorem Jeb {fu:Nat} {keys:List Int} (hfu:2097153≤fu) (hl:keys.length<20):Qhg fu keys=some (srt (dnk keys) keys.length):=by
 unfold Qhg Qev Qgu
 rw [Q6x _ (by omega) (by omega),Qab]
 obtain ⟨f,hfd⟩:∃ f:Int→Int→Option Int,f=λa b=>Qfv fu a b keys:=⟨_,rfl⟩
 have hdef:∀ a b:Int,0≤a→a<keys.length→0≤b→b<keys.length→∃ c,f a b=some c∧(c<0↔dnk keys a<dnk keys b):=by
  intro a b ha ha' hb hb'
  obtain ⟨c,h1,h2⟩:=Jjy fu (kf keys b) (kf keys a)
  refine ⟨c,?_,?_⟩
  · rw [hfd]
    show Qfv fu a b keys=_
    unfold Qfv
    rw [Q51 ⟨hb,hb'⟩,Qab,Q51 ⟨ha,ha'⟩,Qab,h1,Qab]
  · rw [h2]; unfold dnk; omega
 have hf:∀ a b c,f a b=some c→(c<0↔dnk keys a<dnk keys b):=by
  intro a b c h
  have h0:=h
  rw [hfd] at h
  change Qfv fu a b keys=_ at h
  unfold Qfv at h
  obtain ⟨x,hx,h⟩:=Qtv h
  obtain ⟨y,hy,h⟩:=Qtv h
  obtain ⟨b0,b1,_⟩:=Qaj hx
  obtain ⟨a0,a1,_⟩:=Qaj hy
  obtain ⟨d,h1,h2⟩:=hdef a b a0 a1 b0 b1
  rw [h0] at h1
  cases h1
  exact h2
 have ha:=Q9u (fu:=fu) (f:=f) (k:=dnk keys) hfu hf (n:=keys.length) (by omega) (λa b h1 h2 h3 h4=>by obtain ⟨c,h,_⟩:=hdef a b h1 h2 h3 h4; exact ⟨c,h⟩)
 have hI:Qb6 fu (Qf2 0 keys.length) 0 ((Qf2 0 keys.length).length:Int) f=some (srt (dnk keys) keys.length):=by
  unfold Qb6
  rw [Qcy,show w64 ((0:Int)+1)=1 by rw [Qa4 (by omega) (by omega)]; rfl]
  cases hk:keys.length with
  | zero =>
   obtain ⟨m,rfl⟩:∃ m,fu=m+1:=⟨fu - 1,by omega⟩
   rw [Qao.eq_2]
   unfold Qcb
   rw [Qay (by simp)]; rfl
  | succ n =>
   rw [hk] at ha
   have:=ha (Qf2 1 n) [0] fu (by rw [Qcy]; omega) (by rw [Qcy]; simp; omega) (λp hp=>by
    have:p∈Qf2 0 (n+1):=hp
    have:=Qc3.1 this
    omega)
   have e:Qf2 0 (n+1)=[0]++Qf2 1 n:=rfl
   rw [e]
   have h1:(([0]:List Int).length:Int)=1:=rfl
   rw [h1] at this
   rw [this]
   congr 1
   have hsp:=Q4x (dnk keys) (Qf2 1 n) [0] (by simp) (λp hp x hx=>by
    have:=Qc3.1 hx
    rw [List.mem_singleton.1 hp]; omega) (Qt5 _ _)
   exact Q27 hsp.1 hsp.2
 obtain ⟨m,rfl⟩:∃ m,fu=m+1:=⟨fu - 1,by omega⟩
 rw [Qds.eq_2]
 unfold Qg7
 rw [Qay (by rw [Qcy]; simp; omega)]
 rw [← hfd,hI,Qab,Qcf.eq_2]
 unfold Qg4
 rw [Qay (by rw [Qcy]; simp; omega)]
 rfl
end Go.Proofs.YtpcmapfabndggaaGreat
/- Volumes of units, by spec and by impl. -/
namespace Go.Proofs.YtpcmapfabndggaaGreat
open Go
open Enc (rd ow)
open Arg (argv)
open Ret (retv)
open Wf (wf)
theorem Jkl {w h d:Int} (hb:(inb w 0 2000&&(inb h 0 2000&&inb d 0 2000))=true):w64 ((w64 (w*h))*d)=w*h*d:=by
 simp only [Bool.and_eq_true,Qco] at hb
 obtain ⟨⟨h1,h2⟩,⟨h3,h4⟩,h5,h6⟩:=hb
 have a1:0≤w*h:=Int.mul_nonneg h1 h3
 have a2:w*h≤2000*2000:=Int.mul_le_mul h2 h4 h3 (by omega)
 have a3:0≤w*h*d:=Int.mul_nonneg a1 h5
 have a4:w*h*d≤2000*2000*2000:=Int.mul_le_mul a2 h6 h5 (by omega)
 rw [Qa4 (n:=w*h) (by omega) (by omega),Qa4 (by omega) (by omega)]
theorem Jfv (fu:Nat) (w h d:Int):Qmb fu w h d=some (Q7r w h d):=by
 unfold Qmb Qqe Q7r
 simp only [Q42,Qab]
 cases h1:inb w 0 2000 <;> cases h2:inb h 0 2000 <;> cases h3:inb d 0 2000 <;> simp only [Bool.not_true,Bool.not_false,cond_true,cond_false,Bool.and_true,Bool.and_false]
 rw [Jkl (by simp only [h1,h2,h3]; rfl)]
theorem Jhz (fu:Nat) (w h d:Int):Qo9 fu w h d=some (Q7r w h d):=by
 unfold Qo9 Qqh Q7r
 simp only [Q43,Qab]
 cases h1:inb w 0 2000 <;> cases h2:inb h 0 2000 <;> cases h3:inb d 0 2000 <;> simp only [Bool.not_true,Bool.not_false,cond_true,cond_false,Bool.and_true,Bool.and_false]
 rw [Jkl (by simp only [h1,h2,h3]; rfl)]
def Qua (r:Request) (u:Int):Item:=(Qzv r u).getD Q77
theorem Q2o (r:Request):w64 (((Qje r).length:Int) - 1)=((Qje r).length:Int) - 1:=by
 have:=Qws r
 exact Qa4 (by omega) (by omega)
theorem Q84 (fu:Nat) (r:Request) (u:Int):Qli fu r (Qje r) u=some (Qua r u,(Qzv r u).isSome):=by
 unfold Qli Qua
 rw [Q2o,Q42,Qab]
 by_cases h:0≤u∧u<(Qje r).length
 · obtain ⟨i,x,h1,h2,h3⟩:=Q5r h
   rw [Qay (by simp; omega),h1,Qab,h2,Qab,h3]
   rfl
 · rw [Qbj (by simp [inb]; omega),Q2s h]
   rfl
theorem Jco:Jbd Q77=0:=by simp [Jbd,Q7r,Q77]
theorem Q3e {fu:Nat} {r:Request} (h:Sm fu r) (us:List Int) (hl:us.length≤1048576) (hf:us.length<fu):Qh5 fu r us=some (Qyb r us):=by
 unfold Qh5
 rw [Jcs h,Qab]
 have key:=lpI us (λn s i=>Qf1 fu r us (Qje r) n s i) (λl out=>some (out++Qyb r l)) (λl out=>out.length+l.length≤1048576) (by omega) ?_ ?_ fu [] (by simpa using hl) hf
 · simpa using key
 · intro n s i x xs hx hd hI ih
   simp only [Qf1.eq_2]
   unfold Qlz Qkv
   simp only [hd,cond_true,hx,Qab,Q2o,Q43]
   simp only [List.length_cons] at hI
   by_cases hu:0≤x∧x<(Qje r).length
   · obtain ⟨i',y,h1,h2,h3⟩:=Q5r hu
     rw [Qbj (by simp; omega),h1,Qab,h2,Qab,ap1 (by simp; omega),Qab,ih _ (by simp; omega)]
     simp [Qyb,List.filterMap_cons,h3]
   · rw [Qay (by simp [inb]; omega),ih _ (by omega)]
     simp [Qyb,List.filterMap_cons,Q2s hu]
 · intro n s i hd _
   simp only [Qf1.eq_2]
   unfold Qlz
   simp only [hd,cond_false]
   simp [Qyb]
theorem Q93 {fu:Nat} {r:Request} (h:Sm fu r) (us:List Int) (hl:us.length≤1048576) (hf:us.length<fu):Qj7 fu r us=some (Qwz r us):=by
 unfold Qj7
 rw [Q3e h us hl hf,Qab]
 have hlen:=Qwk r us
 have key:=lpI (Qyb r us) (λn s i=>Qgc fu (Qyb r us) n s i) (λl n=>some (n+Qsb (l.map Jbd))) (λl n=>0≤n∧n+8000000000*l.length≤8000000000*1048576) (by omega) ?_ ?_ fu 0 ⟨by omega,by omega⟩ (by omega)
 · simpa [Qwz] using key
 · intro n s i x xs hx hd hI ih
   simp only [Qgc.eq_2]
   unfold Qjn
   simp only [hd,cond_true,hx,Qab,Jhz]
   have hv:=Q8z x.fW x.fH x.fD
   have h2:=hI.2
   simp only [List.length_cons] at h2
   rw [Qa4 (by omega) (by omega),ih _ ⟨by omega,by omega⟩]
   simp only [List.map_cons,Qfr,Jbd]
   congr 1
   omega
 · intro n s i hd _
   simp only [Qgc.eq_2]
   unfold Qjn
   simp only [hd,cond_false]
   simp
end Go.Proofs.YtpcmapfabndggaaGreat
