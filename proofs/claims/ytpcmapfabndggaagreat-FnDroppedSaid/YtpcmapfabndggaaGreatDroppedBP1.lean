import Derived.Test.YtpcmapfabndggaaGreatDroppedBD
import Derived.Test.YtpcmapfabndggaaGreatM3
set_option linter.unusedSimpArgs false
set_option linter.unusedVariables false
/- The first layers of spec and of impl: bounds, table, names, fitting, the reason, the units. Each is the plain function of M0. -/
namespace Go.Proofs.YtpcmapfabndggaaGreat
open Go
open Enc (rd ow)
open Arg (argv)
open Ret (retv)
open Wf (wf)
structure Sm (fu:Nat) (r:Request):Prop where
 fu:2097153 ≤ fu
 pairs:r.fL.length ≤ 1048576
 types:r.fT.length ≤ 1048576
 items:r.fG.length ≤ 1048576
theorem Q1e (fu:Nat) (n lo hi:Int):Qar fu n lo hi = some (inb n lo hi):=by
 unfold Qar inb
 by_cases h:lo ≤ n
 · simp [h]
 · simp [h]
theorem Q4q (fu:Nat) (n lo hi:Int):Qcd fu n lo hi = some (inb n lo hi):=Q1e fu n lo hi
theorem Jaw (fu:Nat) (n:Int):Qd9 fu n = some (inb n 1 2000):=by unfold Qd9; rw [Q1e]; rfl
theorem Jhp (fu:Nat) (n:Int):Qoq fu n = some (inb n 0 999):=by unfold Qoq; rw [Q1e]; rfl
theorem Q5q (fu:Nat) (n:Int):Qcv fu n = some (inb n 1 2000):=by unfold Qcv; rw [Q4q]; rfl
theorem Jb9 (fu:Nat) (p:Pallet):Qg1 fu p = some (Qz2 p):=by
 unfold Qg1 Qz2
 simp only [Jaw,Q1e,Qab]
 cases inb p.fW 1 2000 <;> cases inb p.fD 1 2000 <;> cases inb p.fH 1 2000 <;> rfl
theorem Jh1 (fu:Nat) (p:Pallet):Qok fu p = some (Qz2 p):=by
 unfold Qok Qz2
 simp only [Q5q,Q4q,Qab]
 cases inb p.fW 1 2000 <;> cases inb p.fD 1 2000 <;> cases inb p.fH 1 2000 <;> rfl
theorem Jiu (fu:Nat) (t:Typ):Qr5 fu t = some (Q15 t):=by
 unfold Qr5 Q15
 simp only [Jaw,Q1e,Jhp,Qab]
 cases inb t.f8 0 999 <;> cases inb t.fW 1 2000 <;> cases inb t.fH 1 2000 <;> cases inb t.fD 1 2000 <;> cases inb t.f7 0 100000 <;> cases inb t.fV 1 100000 <;> rfl
theorem Jht (fu:Nat) (t:Typ):Qr7 fu t = some (Q15 t):=by
 unfold Qr7 Q15
 simp only [Q5q,Q4q,Qab]
 cases inb t.f8 0 999 <;> cases inb t.fW 1 2000 <;> cases inb t.fH 1 2000 <;> cases inb t.fD 1 2000 <;> cases inb t.f7 0 100000 <;> cases inb t.fV 1 100000 <;> rfl
theorem Ji6 (fu:Nat) (t:Item):Qrp fu t = some (Qxh t):=by
 unfold Qrp Qxh
 simp only [Jaw,Q1e,Jhp,Qab]
 cases inb t.f8 0 999 <;> cases inb t.fW 1 2000 <;> cases inb t.fH 1 2000 <;> cases inb t.fD 1 2000 <;> cases inb t.fV 1 100000 <;> cases inb t.fF 0 3 <;> rfl
theorem Ji1 (fu:Nat) (t:Item):Qrw fu t = some (Qxh t):=by
 unfold Qrw Qxh
 simp only [Q5q,Q4q,Qab]
 cases inb t.f8 0 999 <;> cases inb t.fW 1 2000 <;> cases inb t.fH 1 2000 <;> cases inb t.fD 1 2000 <;> cases inb t.fV 1 100000 <;> cases inb t.fF 0 3 <;> rfl
def Jfn:List Item → Int → Option Bool
 | [],n=>some (decide (n ≤ 12))
 | x :: xs,n=>bif !Qxh x then some false else Jfn xs (w64 (n + x.f0))
theorem Q4x:∀ (l:List Item) (n:Int),0 ≤ n → n + 6 * l.length ≤ 4611686018427387904 → Jfn l n = some (l.all Qxh && decide (n + Qwp (l.map (·.f0)) ≤ 12))
 | [],n,_,_=>by simp [Jfn]
 | x :: xs,n,h0,h1=>by
  unfold Jfn
  cases hx:Qxh x
  · simp [hx]
  · have hc:=hx
    simp only [Qxh,Bool.and_eq_true,Qdz] at hc
    have hc:=hc.2.2.2.2.2.2
    simp only [List.length_cons] at h1
    rw [Qbp (by omega) (by omega)]
    simp only [Bool.not_true,cond_false]
    rw [Q4x xs (n + x.f0) (by omega) (by omega)]
    simp only [List.all_cons,hx,Bool.true_and,List.map_cons,Qpq,Int.add_assoc]
theorem Jik {fu:Nat} {r:Request} (h:Sm fu r):Qod fu r = some (Q30 r):=by
 have hfu:=h.fu
 have h7:r.fG.length ≤ 8 → Qdo fu r fu 0 0 = some (r.fG.all Qxh && decide (Qwp (r.fG.map (·.f0)) ≤ 12)):=by
  intro h8
  rw [lp r.fG (λn s i=>Qdo fu r n s i) Jfn (by have:=h.items; omega) ?_ ?_ fu 0 (by have:=h.items; omega),Q4x _ _ (by omega) (by have:=h.items; omega)]
  · simp
  · intro n s i x xs hx hd ih
    simp only [Qdo.eq_2]
    unfold Qjx
    simp only [hd,cond_true,hx,Qab,Ji6,ih]
    rfl
  · intro n s i hd
    simp only [Qdo.eq_2]
    unfold Qjx
    simp only [hd,cond_false]
    rfl
 have h6:∀ b:Bool,(Qdo fu r fu 0 0 = some b) → Qdr fu r fu 0 = some (r.fT.all Q15 && b):=by
  intro b hb
  refine lp r.fT (λn (_:Unit) i=>Qdr fu r n i) (λl _=>some (l.all Q15 && b)) (by have:=h.types; omega) ?_ ?_ fu () (by have:=h.types; omega)
  · intro n s i x xs hx hd ih
    simp only [Qdr.eq_2]
    unfold Qjn
    simp only [hd,cond_true,hx,Qab,Jiu,ih (),List.all_cons]
    cases Q15 x <;> rfl
  · intro n s i hd
    simp only [Qdr.eq_2]
    unfold Qjn
    simp only [hd,cond_false,hb]
    rfl
 have h4:∀ b:Bool,(Qdr fu r fu 0 = some b) → Qdn fu r fu 0 = some (r.fL.all prB && b):=by
  intro b hb
  refine lp r.fL (λn (_:Unit) i=>Qdn fu r n i) (λl _=>some (l.all prB && b)) (by have:=h.pairs; omega) ?_ ?_ fu () (by have:=h.pairs; omega)
  · intro n s i x xs hx hd ih
    simp only [Qdn.eq_2]
    unfold Qjz Qn6
    simp only [hd,cond_true,hx,Qab,Q1e,ih ()]
    simp only [List.all_cons,prB]
    cases inb x.fA 0 3 <;> cases inb x.fB 0 3 <;> rfl
  · intro n s i hd
    simp only [Qdn.eq_2]
    unfold Qjz
    simp only [hd,cond_false,hb]
    rfl
 unfold Qod Qn5 Q30
 simp only [Q1e,Jhp,Jb9,Qab]
 by_cases h8:r.fG.length ≤ 8
 · rw [h4 _ (h6 _ (h7 h8))]
   have e8:decide ((r.fG.length:Int) > 8) = false:=by simp; omega
   rw [e8]
   by_cases hp:r.fL.length ≤ 16
   · have e16:decide ((r.fL.length:Int) > 16) = false:=by simp; omega
     rw [e16]
     simp only [hp,h8,decide_true,cond_false,Bool.and_true]
     cases inb r.qQ 0 1 <;> cases Qz2 r.fJ <;> cases inb r.fR 1 4 <;> cases inb (r.fT.length:Int) 1 5 <;> cases inb r.fP 0 999 <;> simp <;> cases r.fL.all prB <;> cases r.fT.all Q15 <;> rfl
   · have e16:decide ((r.fL.length:Int) > 16) = true:=by simp; omega
     rw [e16]
     simp only [hp,decide_false,cond_true]
     cases inb r.qQ 0 1 <;> cases Qz2 r.fJ <;> cases inb r.fR 1 4 <;> simp
 · have e8:decide ((r.fG.length:Int) > 8) = true:=by simp; omega
   rw [e8]
   simp only [h8,decide_false,cond_true,Bool.and_false,Bool.false_and]
   cases inb r.qQ 0 1 <;> cases Qz2 r.fJ <;> cases inb r.fR 1 4 <;> simp
def Qxo {α:Type} (g:α → Bool):List α → Int → Int
 | [],_=>-1
 | x :: xs,i=>bif g x then i else Qxo g xs (i + 1)
theorem Qtq {α:Type} (g:α → Bool):∀ (l:List α) (i:Int),0 ≤ i → decide (Qxo g l i ≥ 0) = l.any g
 | [],i,_=>rfl
 | x :: xs,i,h=>by
  simp only [Qxo,List.any_cons]
  by_cases hx:g x = true
  · simpa [hx] using h
  · simpa [hx] using Qtq g xs (i + 1) (by omega)
theorem Q3n {α:Type} (g:α → Bool):∀ (l pre:List α) ,(Qxo g l pre.length < 0 ∧ l.find? g = none) ∨ (0 ≤ Qxo g l pre.length ∧ ∃ x,l.find? g = some x ∧ ix (pre ++ l) (Qxo g l pre.length) = some x)
 | [],pre=>.inl ⟨by simp [Qxo],rfl⟩
 | x :: xs,pre=>by
  simp only [Qxo]
  cases hx:g x
  · have:=Q3n g xs (pre ++ [x])
    simp only [List.length_append,List.length_singleton,List.append_assoc,List.singleton_append] at this
    simpa [List.find?_cons,hx] using this
  · refine .inr ⟨by simp,x,by simp [hx],?_⟩
    rw [cond_true,Qq2]
    simp
theorem Qtd {α:Type} (l:List α) (L:Nat → Int → Option Int) (g:α → Bool) (hl:l.length ≤ 1099511627776)
    (hs:∀ n (i:Int) x,ix l i = some x → decide (i < (l.length:Int)) = true → L (n + 1) i = bif g x then some i else L n (w64 (i + 1)))
    (he:∀ n (i:Int),decide (i < (l.length:Int)) = false → L (n + 1) i = some (-1)) (n:Nat) (hn:l.length < n):L n 0 = some (Qxo g l 0):=by
 have key:∀ (m i n:Nat),l.length - i = m → i ≤ l.length → m < n → L n (i:Int) = some (Qxo g (l.drop i) i):=by
  intro m
  induction m with
  | zero =>
   intro i n hm hi hn
   obtain ⟨n,rfl⟩:∃ k,n = k + 1:=⟨n - 1,by omega⟩
   rw [List.drop_of_length_le (by omega),he n i (by simp; omega)]
   rfl
  | succ m ih =>
   intro i n hm hi hn
   obtain ⟨n,rfl⟩:∃ k,n = k + 1:=⟨n - 1,by omega⟩
   have hlt:i < l.length:=by omega
   rw [hs n i _ (Qxq hlt) (by simpa using hlt),List.drop_eq_getElem_cons hlt]
   simp only [Qxo]
   cases g l[i]
   · rw [cond_false,cond_false,Qya i (by omega)]
     have:=ih (i + 1) n (by omega) (by omega) (by omega)
     simpa using this
   · rfl
 simpa using key l.length 0 n (by omega) (by omega) hn
theorem Q6g {fu:Nat} {l:List Typ} (f:Typ → Option Bool) (g:Typ → Bool) (hg:∀ x ∈ l,f x = some (g x)) (hl:l.length ≤ 1048576) (hf:l.length < fu):Qbg fu l f = some (Qxo g l 0):=by
 unfold Qbg
 refine Qtd l (λn i=>Qa4 fu l f n i) g (by omega) ?_ ?_ fu hf
 · intro n i x hx hd
   simp only [Qa4.eq_2]
   unfold Qb5
   simp only [hd,cond_true,hx,Qab,hg x (Qd5 hx)]
 · intro n i hd
   simp only [Qa4.eq_2]
   unfold Qb5
   simp only [hd,cond_false]
theorem Q2a {fu:Nat} {l:List Typ} (f:Typ → Option Bool) (g:Typ → Bool) (hg:∀ x ∈ l,f x = some (g x)) (hl:l.length ≤ 1048576) (hf:l.length < fu):Qax fu l f = some (l.any g):=by
 unfold Qax
 rw [Q6g f g hg hl hf,Qab,Qtq g l 0 (by omega)]
theorem Q72 {fu:Nat} {l:List Pair} (f:Pair → Option Bool) (g:Pair → Bool) (hg:∀ x ∈ l,f x = some (g x)) (hl:l.length ≤ 1048576) (hf:l.length < fu):Qby fu l f = some (Qxo g l 0):=by
 unfold Qby
 refine Qtd l (λn i=>Qa3 fu l f n i) g (by omega) ?_ ?_ fu hf
 · intro n i x hx hd
   simp only [Qa3.eq_2]
   unfold Qb4
   simp only [hd,cond_true,hx,Qab,hg x (Qd5 hx)]
 · intro n i hd
   simp only [Qa3.eq_2]
   unfold Qb4
   simp only [hd,cond_false]
theorem Q38 {fu:Nat} {l:List Pair} (f:Pair → Option Bool) (g:Pair → Bool) (hg:∀ x ∈ l,f x = some (g x)) (hl:l.length ≤ 1048576) (hf:l.length < fu):Qa6 fu l f = some (l.any g):=by
 unfold Qa6
 rw [Q72 f g hg hl hf,Qab,Qtq g l 0 (by omega)]
theorem Jao {fu:Nat} {l:List Item} (f:Item → Option Bool) (g:Item → Bool) (hg:∀ x ∈ l,f x = some (g x)) (hl:l.length ≤ 1048576) (hf:l.length < fu):Qbx fu l f = some (Qxo g l 0):=by
 unfold Qbx
 refine Qtd l (λn i=>Qa5 fu l f n i) g (by omega) ?_ ?_ fu hf
 · intro n i x hx hd
   simp only [Qa5.eq_2]
   unfold Qb2
   simp only [hd,cond_true,hx,Qab,hg x (Qd5 hx)]
 · intro n i hd
   simp only [Qa5.eq_2]
   unfold Qb2
   simp only [hd,cond_false]
theorem Qv7 {fu:Nat} {l:List Item} (f:Item → Option Bool) (g:Item → Bool) (hg:∀ x ∈ l,f x = some (g x)) (hl:l.length ≤ 1048576) (hf:l.length < fu):Qay fu l f = some (l.any g):=by
 unfold Qay
 rw [Jao f g hg hl hf,Qab,Qtq g l 0 (by omega)]
theorem Ji2 {fu:Nat} {r:Request} (h:Sm fu r):Qon fu r = some (Q30 r):=by
 have hfu:=h.fu
 have h1:=h.items
 have h2:=h.types
 have h3:=h.pairs
 have e3:Qel fu r fu 0 0 = some (r.fG.all Qxh && decide (Qwp (r.fG.map (·.f0)) ≤ 12)):=by
  rw [lp r.fG (λn s i=>Qel fu r n s i) Jfn (by omega) ?_ ?_ fu 0 (by omega),Q4x _ _ (by omega) (by omega)]
  · simp
  · intro n s i x xs hx hd ih
    simp only [Qel.eq_2]
    unfold Qjb
    simp only [hd,cond_true,hx,Qab,Ji1,ih]
    rfl
  · intro n s i hd
    simp only [Qel.eq_2]
    unfold Qjb
    simp only [hd,cond_false]
    rfl
 have ep:Qa6 fu r.fL (λy34=>Qkl fu y34) = some (!(r.fL.all prB)):=by
  rw [Q38 _ (λp=>!prB p) (λp _=>by
   unfold Qkl prB
   simp only [Q4q,Qab]
   cases inb p.fA 0 3 <;> rfl) h3 (by omega)]
  simp [List.not_all_eq_any_not]
 have et:Qax fu r.fT (λy34=>Qj4 fu y34) = some (!(r.fT.all Q15)):=by
  rw [Q2a _ (λp=>!Q15 p) (λp _=>by
   unfold Qj4
   rw [Jht]; rfl) h2 (by omega)]
  simp [List.not_all_eq_any_not]
 unfold Qon Qnz Qn4 Q30
 rw [e3,ep,et]
 simp only [Q4q,Jh1,Qab]
 have e8:decide ((r.fG.length:Int) > 8) = !decide (r.fG.length ≤ 8):=by
  by_cases hh:r.fG.length ≤ 8
  · have:¬ ((r.fG.length:Int) > 8):=by omega
    simp [hh,this]
  · have:(r.fG.length:Int) > 8:=by omega
    simp [hh,this]
 have e16:decide ((r.fL.length:Int) > 16) = !decide (r.fL.length ≤ 16):=by
  by_cases hh:r.fL.length ≤ 16
  · have:¬ ((r.fL.length:Int) > 16):=by omega
    simp [hh,this]
  · have:(r.fL.length:Int) > 16:=by omega
    simp [hh,this]
 rw [e8,e16]
 cases inb r.qQ 0 1 <;> cases Qz2 r.fJ <;> cases inb r.fR 1 4 <;> cases decide (r.fL.length ≤ 16) <;> cases r.fL.all prB <;> cases inb (r.fT.length:Int) 1 5 <;> cases r.fT.all Q15 <;> cases inb r.fP 0 999 <;> cases decide (r.fG.length ≤ 8) <;> rfl
end Go.Proofs.YtpcmapfabndggaaGreat
/- Within, Overlap, Pallets: by spec and by impl. -/
namespace Go.Proofs.YtpcmapfabndggaaGreat
open Go
open Enc (rd ow)
open Arg (argv)
open Ret (retv)
open Wf (wf)
def Q4c (b:Box) (s:Spot):Bool:=inb b.fW 0 2000 && (inb b.fD 0 2000 && (inb b.fH 0 2000 && (inb s.fX 0 2000 && (inb s.fY 0 2000 && inb s.fZ 0 2000))))
def Jbc (p:Pallet) (b:Box) (s:Spot):Bool :=
 Q4c b s && (decide (b.fW > 0) && (decide (b.fD > 0) && (decide (b.fH > 0) && (decide (w64 (s.fX + b.fW) ≤ p.fW) && (decide (w64 (s.fY + b.fD) ≤ p.fD) && decide (w64 (s.fZ + b.fH) ≤ p.fH))))))
def Q99 (a la b lb:Int):Bool:=decide (a < w64 (b + lb)) && decide (b < w64 (a + la))
def Q7d (a:Box) (s:Spot) (b:Box) (t:Spot):Bool :=
 Q4c a s && (Q4c b t && (s.fJ == t.fJ && (Q99 s.fX a.fW t.fX b.fW && (Q99 s.fY a.fD t.fY b.fD && Q99 s.fZ a.fH t.fZ b.fH))))
theorem Q4w (fu:Nat) (n:Int):Qb7 fu n = some (inb n 0 2000):=by unfold Qb7; rw [Q4q]; rfl
theorem Jge (fu:Nat) (b:Box) (s:Spot):Qia fu b s = some (Q4c b s):=by
 unfold Qia Q4c
 simp only [Q1e,Qab]
 cases inb b.fW 0 2000 <;> cases inb b.fD 0 2000 <;> cases inb b.fH 0 2000 <;> cases inb s.fX 0 2000 <;> cases inb s.fY 0 2000 <;> cases inb s.fZ 0 2000 <;> rfl
theorem Jh9 (fu:Nat) (b:Box) (s:Spot):Qpf fu b s = some (Q4c b s):=by
 unfold Qpf Q4c
 simp only [Q4w,Qab]
 cases inb b.fW 0 2000 <;> cases inb b.fD 0 2000 <;> cases inb b.fH 0 2000 <;> cases inb s.fX 0 2000 <;> cases inb s.fY 0 2000 <;> cases inb s.fZ 0 2000 <;> rfl
theorem Jhu (fu:Nat) (p:Pallet) (b:Box) (s:Spot):Qrn fu p b s = some (Jbc p b s):=by
 unfold Qrn Jbc
 simp only [Jge,Qab]
 cases Q4c b s <;> cases decide (b.fW > 0) <;> cases decide (b.fD > 0) <;> cases decide (b.fH > 0) <;> cases decide (w64 (s.fX + b.fW) ≤ p.fW) <;> cases decide (w64 (s.fY + b.fD) ≤ p.fD) <;> rfl
theorem Jb1 (n:Int):inb n 1 2000 = (inb n 0 2000 && decide (n > 0)):=by
 apply Bool.eq_iff_iff.2
 simp only [Qdz,Bool.and_eq_true,decide_eq_true_eq]
 omega
theorem Ji5 (fu:Nat) (p:Pallet) (b:Box) (s:Spot):Qrl fu p b s = some (Jbc p b s):=by
 unfold Qrl Qqo Jbc Q4c
 simp only [Q4w,Q5q,Qab,Jb1]
 cases inb b.fW 0 2000 <;> cases inb b.fD 0 2000 <;> cases inb b.fH 0 2000 <;> cases inb s.fX 0 2000 <;> cases inb s.fY 0 2000 <;> cases inb s.fZ 0 2000 <;> simp
 all_goals cases decide (0 < b.fW) <;> cases decide (0 < b.fD) <;> cases decide (0 < b.fH) <;> simp
 all_goals cases decide (w64 (s.fX + b.fW) ≤ p.fW) <;> cases decide (w64 (s.fY + b.fD) ≤ p.fD) <;> simp
theorem Jf6 (fu:Nat) (a la b lb:Int):Qib fu a la b lb = some (Q99 a la b lb):=by
 unfold Qib Q99
 cases decide (a < w64 (b + lb)) <;> rfl
theorem Jix (fu:Nat) (a la b lb:Int):Qq3 fu a la b lb = some (Q99 a la b lb):=Jf6 fu a la b lb
theorem Jha (fu:Nat) (a:Box) (s:Spot) (b:Box) (t:Spot):Qm0 fu a s b t = some (Q7d a s b t):=by
 unfold Qm0 Q7d
 simp only [Jge,Jf6,Qab]
 cases Q4c a s <;> cases Q4c b t <;> cases s.fJ == t.fJ <;> cases Q99 s.fX a.fW t.fX b.fW <;> cases Q99 s.fY a.fD t.fY b.fD <;> rfl
theorem Jg7 (fu:Nat) (a:Box) (s:Spot) (b:Box) (t:Spot):Qi9 fu a s b t = some (Q7d a s b t):=by
 unfold Qi9 Qpk Q7d
 simp only [Jh9,Jix,Qab,bne]
 cases Q4c a s <;> cases Q4c b t <;> cases s.fJ == t.fJ <;> cases Q99 s.fX a.fW t.fX b.fW <;> cases Q99 s.fY a.fD t.fY b.fD <;> rfl
def Q43 (n:Int) (s:Spot):Int:=bif inb s.fJ 0 999999 then (if s.fJ + 1 > n then s.fJ + 1 else n) else n
def Qxw (l:List Spot):Int:=l.foldl Q43 0
theorem Je2 {n:Int} (s:Spot) (h:0 ≤ n ∧ n ≤ 1000000):0 ≤ Q43 n s ∧ Q43 n s ≤ 1000000:=by
 unfold Q43
 cases hi:inb s.fJ 0 999999
 · exact h
 · have:=Qdz.1 hi
   simp only [cond_true]
   split <;> omega
theorem Q7l:∀ (l:List Spot) {n:Int},0 ≤ n ∧ n ≤ 1000000 → 0 ≤ l.foldl Q43 n ∧ l.foldl Q43 n ≤ 1000000
 | [],_,h=>h
 | s :: l,_,h=>Q7l l (Je2 s h)
theorem Q4y (l:List Spot):0 ≤ Qxw l ∧ Qxw l ≤ 1000000:=Q7l l (by omega)
theorem Jfs {fu:Nat} {l:List Spot} (hl:l.length ≤ 1048576) (hf:l.length < fu):Qqf fu l = some (Qxw l):=by
 unfold Qqf
 have key:=lp l (λn (s:Int) i=>Qe4 fu l n s i) (λl s=>some (l.foldl Q43 s)) (by omega) ?_ ?_ fu 0 hf
 · exact key
 · intro n s i x xs hx hd ih
   simp only [Qe4.eq_2]
   unfold Ql7 Qj5
   simp only [hd,cond_true,hx,Qab,Q4q,ih,List.foldl_cons]
   unfold Q43
   cases hi:inb x.fJ 0 999999
   · rfl
   · have:=Qdz.1 hi
     simp only [cond_true]
     rw [Qbp (by omega) (by omega)]
 · intro n s i hd
   simp only [Qe4.eq_2]
   unfold Ql7
   simp only [hd,cond_false]
   rfl
theorem Jbo (fu:Nat) (a b:Int):Qkx fu a b = some (if a > b then a else b):=by
 unfold Qkx
 by_cases h:a > b
 · simp [h]
 · simp [h]
theorem Jcr {fu:Nat} {l:List Spot} (hl:l.length ≤ 1048576) (hf:l.length < fu):Qm4 fu l = some (Qxw l):=by
 unfold Qm4
 have key:=lp l (λn (s:Int) i=>Qe7 fu l n s i) (λl s=>some (l.foldl Q43 s)) (by omega) ?_ ?_ fu 0 hf
 · exact key
 · intro n s i x xs hx hd ih
   simp only [Qe7.eq_2]
   unfold Qme Qkj
   simp only [hd,cond_true,hx,Qab,Q1e,Jbo,ih,List.foldl_cons]
   unfold Q43
   cases hi:inb x.fJ 0 999999
   · rfl
   · have:=Qdz.1 hi
     simp only [cond_true]
     rw [Qbp (by omega) (by omega)]
     congr 2
     split <;> split <;> omega
 · intro n s i hd
   simp only [Qe7.eq_2]
   unfold Qme
   simp only [hd,cond_false]
   rfl
end Go.Proofs.YtpcmapfabndggaaGreat
/- Orders in the laws: their size, copies, equality. -/
namespace Go.Proofs.YtpcmapfabndggaaGreat
open Go
open Enc (rd ow)
open Arg (argv)
open Ret (retv)
open Wf (wf)
end Go.Proofs.YtpcmapfabndggaaGreat
/- What is marked: orders, lists of numbers, lists of lists. -/
namespace Go.Proofs.YtpcmapfabndggaaGreat
open Go
open Enc (rd ow)
open Arg (argv)
open Ret (retv)
open Wf (wf)
theorem Q6u {α:Type} (xs:List α) (n:Int) (y:α):ix (Qge xs n y) n = (ix xs n).map λ_=>y:=by
 unfold ix Qge
 split
 · by_cases h:n.toNat < xs.length
   · simp [h]
   · rw [List.getElem?_eq_none (by simp; omega),List.getElem?_eq_none (by omega)]; rfl
 · rfl
theorem Qt4 {α:Type} (xs:List α) (n:Int) (y:α):(Qge xs n y).length = xs.length:=by simp [Qge]
end Go.Proofs.YtpcmapfabndggaaGreat
/- Lists of cartons in the laws: their size, copies, equality, marks. -/
namespace Go.Proofs.YtpcmapfabndggaaGreat
open Go
open Enc (rd ow)
open Arg (argv)
open Ret (retv)
open Wf (wf)
def Q60:List Carton → Nat
 | []=>0
 | x :: xs=>x.fM.length + Q60 xs
end Go.Proofs.YtpcmapfabndggaaGreat
/- Plans in the laws: their size, copies, equality, marks. -/
namespace Go.Proofs.YtpcmapfabndggaaGreat
open Go
open Enc (rd ow)
open Arg (argv)
open Ret (retv)
open Wf (wf)
structure Sp (x:Plan):Prop where
 cars:x.fQ.length ≤ 1048576
 units:∀ c ∈ x.fQ,c.fM.length ≤ 1048576
 all:Q60 x.fQ ≤ 1048576
 spots:x.fU.length ≤ 1048576
end Go.Proofs.YtpcmapfabndggaaGreat
/- spec's sorting by halves is the plain function of M1. -/
namespace Go.Proofs.YtpcmapfabndggaaGreat
open Go
open Enc (rd ow)
open Arg (argv)
open Ret (retv)
open Wf (wf)
theorem Q5c {fu:Nat} (n:Nat) (hn:n ≤ 1048576) (hf:n < fu):Qj8 fu (n:Int) = some (Qkd 0 n):=by
 unfold Qj8
 have key:∀ (m i k:Nat),n - i = m → i ≤ n → m < k → Qfl fu (n:Int) k (Qkd 0 i) (i:Int) = some (Qkd 0 n):=by
  intro m
  induction m with
  | zero =>
   intro i k hm hi hk
   obtain ⟨k,rfl⟩:∃ j,k = j + 1:=⟨k - 1,by omega⟩
   have:i = n:=by omega
   subst this
   rw [Qfl.eq_2]
   unfold Qjt
   simp
  | succ m ih =>
   intro i k hm hi hk
   obtain ⟨k,rfl⟩:∃ j,k = j + 1:=⟨k - 1,by omega⟩
   rw [Qfl.eq_2]
   unfold Qjt
   rw [Qcn (by simp; omega),ap1 (by rw [Qen]; simp; omega),Qab,Qya i (by omega)]
   have e:=Q8o 0 i
   rw [Int.zero_add] at e
   rw [← e]
   exact ih (i + 1) k (by omega) (by omega) (by omega)
 exact key n 0 fu (by omega) (by omega) hf
def dk (keys:List Int) (Qva:Bool) (p:Int):Int:=bif Qva then - kf keys p else kf keys p
theorem Q8p {keys:List Int} {p:Int} (h:0 ≤ p ∧ p < keys.length):ix keys p = some (kf keys p):=by
 have h1:p.toNat < keys.length:=by omega
 unfold kf ix
 rw [if_pos h.1,List.getElem?_eq_getElem h1]
 rfl
theorem Jir {fu:Nat} {keys a b:List Int} (Qva:Bool) (ha:∀ p ∈ a,0 ≤ p ∧ p < keys.length) (hb:∀ p ∈ b,0 ≤ p ∧ p < keys.length) (hla:a.length ≤ 1048576) (hlb:b.length ≤ 1048576) :
    ∀ (m:Nat) (n:Nat) (out:List Int) (i j:Nat),i ≤ a.length → j ≤ b.length → (a.length - i) + (b.length - j) = m → m < n → out.length + m ≤ 2097152 →
     Qcm fu keys Qva a b n out i j = some (out ++ mrg (dk keys Qva) (a.drop i) (b.drop j)):=by
 intro m
 induction m with
 | zero =>
  intro n out i j hi hj hm hn ho
  obtain ⟨n,rfl⟩:∃ k,n = k + 1:=⟨n - 1,by omega⟩
  rw [Qcm.eq_2]
  unfold Qmh
  rw [Qbb (by simp; omega),Qbb (by simp; omega),List.drop_of_length_le (show a.length ≤ i by omega),List.drop_of_length_le (show b.length ≤ j by omega)]
  simp [mrg]
 | succ m ih =>
  intro n out i j hi hj hm hn ho
  obtain ⟨n,rfl⟩:∃ k,n = k + 1:=⟨n - 1,by omega⟩
  have hL:Qcm fu keys Qva a b (n + 1) out i j = Qh0 fu (Qcm fu keys Qva a b n) keys Qva a b out i j:=by
   rw [Qcm.eq_2]
   unfold Qmh
   by_cases h:i < a.length
   · rw [Qcn (by simpa using h)]
   · rw [Qbb (by simpa using h),Qcn (by simp; omega)]
  have tA:∀ (h:i < a.length),(Qhv 8 out [a[i]]) = some (out ++ [a[i]]):=λh=>ap1 (by simp; omega)
  have tB:∀ (h:j < b.length),(Qhv 8 out [b[j]]) = some (out ++ [b[j]]):=λh=>ap1 (by simp; omega)
  have nA:∀ (h:i < a.length),Qcm fu keys Qva a b n (out ++ [a[i]]) (w64 ((i:Int) + 1)) j = some (out ++ a[i] :: mrg (dk keys Qva) (a.drop (i + 1)) (b.drop j)):=λh=>by
   rw [Qya i (by omega),ih n (out ++ [a[i]]) (i + 1) j (by omega) hj (by omega) (by omega) (by simp; omega)]
   simp
  have nB:∀ (h:j < b.length),Qcm fu keys Qva a b n (out ++ [b[j]]) i (w64 ((j:Int) + 1)) = some (out ++ b[j] :: mrg (dk keys Qva) (a.drop i) (b.drop (j + 1))):=λh=>by
   rw [Qya j (by omega),ih n (out ++ [b[j]]) i (j + 1) hi (by omega) (by omega) (by omega) (by simp; omega)]
   simp
  rw [hL]
  unfold Qh0
  by_cases hjb:j = b.length
  · have h:i < a.length:=by omega
    rw [Qcn (by simp [hjb]),Qxq h,Qab,tA h,Qab,nA h,List.drop_of_length_le (show b.length ≤ j by omega),Q7j,Q7j,← List.drop_eq_getElem_cons h]
  · have hj':j < b.length:=by omega
    rw [Qbb (by simp; omega)]
    by_cases hia:i = a.length
    · rw [Qcn (by simp [hia]),Qxq hj',Qab,tB hj',Qab,nB hj',List.drop_of_length_le (show a.length ≤ i by omega)]
      have e1:∀ l,mrg (dk keys Qva) [] l = l:=λl=>by rw [mrg]
      rw [e1,e1,← List.drop_eq_getElem_cons hj']
    · have hi':i < a.length:=by omega
      rw [Qbb (by simp; omega)]
      simp only [Qxq hi',Qxq hj',Qab,Q8p (ha _ (List.getElem_mem hi')),Q8p (hb _ (List.getElem_mem hj')),tA hi',tB hj',nA hi',nB hj']
      rw [List.drop_eq_getElem_cons hi',List.drop_eq_getElem_cons hj',Qv3,← List.drop_eq_getElem_cons hi',← List.drop_eq_getElem_cons hj']
      have hx:dk keys Qva a[i] = bif Qva then - kf keys a[i] else kf keys a[i]:=rfl
      have hy:dk keys Qva b[j] = bif Qva then - kf keys b[j] else kf keys b[j]:=rfl
      rw [hx,hy]
      generalize kf keys a[i] = x
      generalize kf keys b[j] = y
      cases Qva
      · by_cases hc:y < x
        · rw [if_pos (by simpa using hc)]; simp [hc]
        · rw [if_neg (by simpa using hc)]
          have:decide (y > x) = true ∨ decide (y > x) = false:=by cases decide (y > x) <;> simp
          rcases this with h | h <;> simp [hc,h]
      · by_cases hc:x < y
        · have h:¬ y < x:=by omega
          rw [if_pos (by simpa using hc)]; simp [hc,h]
        · rw [if_neg (by simpa using hc)]
          have h:decide (y < x) = true ∨ decide (y < x) = false:=by cases decide (y < x) <;> simp
          rcases h with h | h <;> simp [hc,h]
theorem Q5r {fu:Nat} {keys:List Int} (Qva:Bool) (hfu:2097153 ≤ fu):∀ (n:Nat) (l:List Int),l.length ≤ n → l.length ≤ 1048576 → (∀ p ∈ l,0 ≤ p ∧ p < keys.length) →
    Qil fu (n + 1) keys l Qva = some (msr (dk keys Qva) (n + 1) l)
 | n,l,hn,hl,hm=>by
  rw [Qil.eq_2]
  unfold Qsi msr
  by_cases h2:l.length < 2
  · rw [Qcn (by simp; omega),if_pos h2,ap1 (by simp; omega)]; rfl
  · rw [Qbb (by simp; omega),if_neg h2]
    have hd:Int.tdiv (l.length:Int) 2 = ((l.length / 2:Nat):Int):=by simp [Int.tdiv]
    obtain ⟨n,rfl⟩:∃ k,n = k + 1:=⟨n - 1,by omega⟩
    rw [hd,Qbp (by omega) (by omega),Qt8 (by omega),Qt8 (by omega),Qab]
    simp only [Int.toNat_natCast,Int.toNat_zero,List.drop_zero,Nat.sub_zero,Qab]
    rw [Q5r Qva hfu n (l.take (l.length / 2)) (by rw [List.length_take]; omega) (by rw [List.length_take]; omega) (λp hp=>hm p (List.mem_of_mem_take hp)),Qab]
    have e:(l.drop (l.length / 2)).take (l.length - l.length / 2) = l.drop (l.length / 2):=List.take_of_length_le (by rw [List.length_drop]; omega)
    rw [e,Q5r Qva hfu n (l.drop (l.length / 2)) (by rw [List.length_drop]; omega) (by rw [List.length_drop]; omega) (λp hp=>hm p (List.mem_of_mem_drop hp)),Qab]
    have hp1:=(Qta (dk keys Qva) (n + 1) (l.take (l.length / 2)))
    have hp2:=(Qta (dk keys Qva) (n + 1) (l.drop (l.length / 2)))
    have l1:=hp1.length_eq
    have l2:=hp2.length_eq
    rw [List.length_take] at l1
    rw [List.length_drop] at l2
    rw [show (0:Int) = ((0:Nat):Int) from rfl]
    rw [Jir Qva (λp hp=>hm p (List.mem_of_mem_take (hp1.mem_iff.1 hp))) (λp hp=>hm p (List.mem_of_mem_drop (hp2.mem_iff.1 hp))) (by omega) (by omega) _ fu [] 0 0 (by omega) (by omega) rfl (by omega) (by simp; omega)]
    simp
theorem Jjr {fu:Nat} {keys:List Int} (hfu:2097153 ≤ fu) (hl:keys.length ≤ 1048576):Qo2 fu keys = some (srt (kf keys) keys.length):=by
 unfold Qo2 Qp2
 rw [Q5c keys.length hl (by omega),Qab]
 obtain ⟨m,rfl⟩:∃ m,fu = m + 1:=⟨fu - 1,by omega⟩
 rw [Q5r false hfu m _ (by rw [Qen]; omega) (by rw [Qen]; omega) (λp hp=>by have:=Ql6.1 hp; omega),Qab]
 congr 1
 have e:dk keys false = kf keys:=rfl
 rw [e]
 exact Q5o (Qta _ _ _) (Qt3 _ _ _ (by rw [Qen]; omega) (Qvq _ _))
end Go.Proofs.YtpcmapfabndggaaGreat
/- Names, table, fitting, the reason of spec and of impl. Each is the plain function of M0. -/
namespace Go.Proofs.YtpcmapfabndggaaGreat
open Go
open Enc (rd ow)
open Arg (argv)
open Ret (retv)
open Wf (wf)
theorem lpP {σ α β:Type} (l:List α) (L:Nat → σ → Int → Option β) (F:List α → List α → σ → Option β) (hl:l.length ≤ 1099511627776)
    (hs:∀ n s pre x xs,l = pre ++ x :: xs → ix l (pre.length:Int) = some x → decide ((pre.length:Int) < (l.length:Int)) = true → (∀ s',L n s' (w64 ((pre.length:Int) + 1)) = F (pre ++ [x]) xs s') → L (n + 1) s (pre.length:Int) = F pre (x :: xs) s)
    (he:∀ n s,decide ((l.length:Int) < (l.length:Int)) = false → L (n + 1) s (l.length:Int) = F l [] s):∀ n s,l.length < n → L n s 0 = F [] l s:=by
 have key:∀ (xs pre:List α) (n:Nat) (s:σ),l = pre ++ xs → xs.length < n → L n s (pre.length:Int) = F pre xs s:=by
  intro xs
  induction xs with
  | nil =>
   intro pre n s he' hn
   obtain ⟨n,rfl⟩:∃ k,n = k + 1:=⟨n - 1,by omega⟩
   simp only [List.append_nil] at he'
   subst he'
   exact he n s (by simp)
  | cons x xs ih =>
   intro pre n s he' hn
   obtain ⟨n,rfl⟩:∃ k,n = k + 1:=⟨n - 1,by simp at hn; omega⟩
   have hlen:l.length = pre.length + (xs.length + 1):=by rw [he']; simp
   refine hs n s pre x xs he' ?_ (by simp; omega) λs'=>?_
   · rw [Qq2,he']; simp
   · rw [Qya _ (by omega)]
     have:=ih (pre ++ [x]) n s' (by simp [he']) (by simp at hn; omega)
     simpa using this
 intro n s hn
 simpa using key l [] n s rfl hn
theorem Q6p {α:Type} {pre rest:List α} {i:Int} {y:α} (h:ix pre i = some y):ix (pre ++ rest) i = some y:=by
 obtain ⟨h0,h1,h2⟩:=Qat h
 unfold ix
 rw [if_pos h0,List.getElem?_append_left (by omega),h2]
theorem Jh2 (a b:Int):(a == b) = (b == a):=Bool.eq_iff_iff.2 (by simp only [beq_iff_eq]; exact ⟨Eq.symm,Eq.symm⟩)
theorem Qwd {fu:Nat} {r:Request} (h:Sm fu r) (id:Int):Qgy fu r id = some (Qxm (Qtn r id)):=by
 have hfu:=h.fu
 have ht:=h.types
 unfold Qgy Qtn
 rw [Q6g (λy24=>Qo5 fu y24 id) (λt=>t.f8 == id) (λt _=>rfl) ht (by omega),Qab]
 rcases Q3n (λt:Typ=>t.f8 == id) r.fT [] with ⟨h1,h2⟩ | ⟨h1,x,h2,h3⟩
 · simp only [List.length_nil] at h1
   rw [Qcn (by simpa using h1),h2]; rfl
 · simp only [List.length_nil,List.nil_append] at h1 h3
   rw [Qbb (by simpa using h1),h2]
   have h3':ix r.fT (Qxo (λt=>t.f8 == id) r.fT 0) = some x:=h3
   rw [h3']; rfl
theorem Q8q {fu:Nat} {r:Request} (h:Sm fu r):Qfz fu r = some (Qxm (Qtn r r.fP)):=by
 have hfu:=h.fu
 have ht:=h.types
 unfold Qfz Qtn
 refine lp r.fT (λn (_:Unit) i=>Qfj fu r n i) (λl _=>some (Qxm (l.find? λt=>t.f8 == r.fP))) (by omega) ?_ ?_ fu () (by omega)
 · intro n s i x xs hx hd ih
   simp only [Qfj.eq_2]
   unfold Qjy
   simp only [hd,cond_true,hx,Qab,ih (),List.find?_cons]
   cases x.f8 == r.fP <;> rfl
 · intro n s i hd
   simp only [Qfj.eq_2]
   unfold Qjy
   simp only [hd,cond_false]
   rfl
theorem Jfp {fu:Nat} {r:Request} (h:Sm fu r):Qkm fu r = some (Qxm (Qtn r r.fP)):=by
 unfold Qkm
 rw [Qwd h]; rfl
theorem Q09 (o:Option Typ):(Qxm o).2 = o.isSome:=by cases o <;> rfl
theorem Jh6 {fu:Nat} {r:Request} (h:Sm fu r):Qp5 fu r = some (Jac r):=by
 have hfu:=h.fu
 have h1:=h.items
 have h2:=h.types
 have h3:=h.pairs
 have e11:Qdc fu r fu 0 = some (!(r.fL.any λp=>decide (p.fA ≥ r.fR) || decide (p.fB ≥ r.fR)) && (Qtn r r.fP).isSome):=by
  refine lp r.fL (λn (_:Unit) i=>Qdc fu r n i) (λl _=>some (!(l.any λp=>decide (p.fA ≥ r.fR) || decide (p.fB ≥ r.fR)) && (Qtn r r.fP).isSome)) (by omega) ?_ ?_ fu () (by omega)
  · intro n s i x xs hx hd ih
    simp only [Qdc.eq_2]
    unfold Qk1 Qpg
    simp only [hd,cond_true,hx,Qab,ih (),List.any_cons]
    cases decide (x.fA ≥ r.fR) <;> cases decide (x.fB ≥ r.fR) <;> rfl
  · intro n s i hd
    simp only [Qdc.eq_2]
    unfold Qk1
    simp only [hd,cond_false,Q8q h,Qab,Q09]
    rfl
 have e7:∀ b,Qdc fu r fu 0 = some b → Qbj fu r fu 0 = some (Ja3 r.fR [] r.fG && b):=by
  intro b hb
  refine lpP r.fG (λn (_:Unit) i=>Qbj fu r n i) (λpre l _=>some (Ja3 r.fR pre l && b)) (by omega) ?_ ?_ fu () (by omega)
  · intro n s pre x xs hl hx hd ih
    simp only [Qbj.eq_2]
    unfold Qli
    simp only [hd,cond_true,hx,Qab,Ja3]
    cases hc:decide (x.fF ≥ r.fR)
    · have hpl:pre.length ≤ r.fG.length:=by rw [hl]; simp
      have e8:Qea fu (λi=>Qbj fu r n i) r (pre.length:Int) fu 0 = bif pre.any (λy=>y.f8 == x.f8) then some false else Qbj fu r n (w64 ((pre.length:Int) + 1)):=by
       refine lp pre (λm (_:Unit) i=>Qea fu (λi=>Qbj fu r n i) r (pre.length:Int) m i) (λl _=>bif l.any (λy=>y.f8 == x.f8) then some false else Qbj fu r n (w64 ((pre.length:Int) + 1))) (by omega) ?_ ?_ fu () (by omega)
       · intro m s i y ys hy hd ih
         simp only [Qea.eq_2]
         unfold Qlg
         have hy':ix r.fG i = some y:=by rw [hl]; exact Q6p hy
         simp only [hd,cond_true,hx,hy',Qab,ih (),List.any_cons]
         rw [Jh2 x.f8 y.f8]
         cases y.f8 == x.f8 <;> rfl
       · intro m s i hd
         simp only [Qea.eq_2]
         unfold Qlg
         simp only [hd,cond_false]
         rfl
      have e8':Qea fu (Qbj fu r n) r (pre.length:Int) fu 0 = bif pre.any (λy=>y.f8 == x.f8) then some false else Qbj fu r n (w64 ((pre.length:Int) + 1)):=e8
      rw [cond_false,e8',ih ()]
      cases pre.any (λy=>y.f8 == x.f8) <;> rfl
    · rfl
  · intro n s hd
    simp only [Qbj.eq_2]
    unfold Qli
    simp only [hd,cond_false,hb]
    rfl
 have e3:∀ b,Qbj fu r fu 0 = some b → Qbs fu r fu 0 = some (Q7e Typ.f8 [] r.fT && b):=by
  intro b hb
  refine lpP r.fT (λn (_:Unit) i=>Qbs fu r n i) (λpre l _=>some (Q7e Typ.f8 pre l && b)) (by omega) ?_ ?_ fu () (by omega)
  · intro n s pre x xs hl hx hd ih
    simp only [Qbs.eq_2]
    unfold Qln
    simp only [hd,cond_true,Q7e]
    have hpl:pre.length ≤ r.fT.length:=by rw [hl]; simp
    have e8:Qec fu (λi=>Qbs fu r n i) r (pre.length:Int) fu 0 = bif pre.any (λy=>y.f8 == x.f8) then some false else Qbs fu r n (w64 ((pre.length:Int) + 1)):=by
     refine lp pre (λm (_:Unit) i=>Qec fu (λi=>Qbs fu r n i) r (pre.length:Int) m i) (λl _=>bif l.any (λy=>y.f8 == x.f8) then some false else Qbs fu r n (w64 ((pre.length:Int) + 1))) (by omega) ?_ ?_ fu () (by omega)
     · intro m s i y ys hy hd ih
       simp only [Qec.eq_2]
       unfold Ql5
       have hy':ix r.fT i = some y:=by rw [hl]; exact Q6p hy
       simp only [hd,cond_true,hx,hy',Qab,ih (),List.any_cons]
       rw [Jh2 x.f8 y.f8]
       cases y.f8 == x.f8 <;> rfl
     · intro m s i hd
       simp only [Qec.eq_2]
       unfold Ql5
       simp only [hd,cond_false]
       rfl
    have e8':Qec fu (Qbs fu r n) r (pre.length:Int) fu 0 = bif pre.any (λy=>y.f8 == x.f8) then some false else Qbs fu r n (w64 ((pre.length:Int) + 1)):=e8
    rw [e8',ih ()]
    cases pre.any (λy=>y.f8 == x.f8) <;> rfl
  · intro n s hd
    simp only [Qbs.eq_2]
    unfold Qln
    simp only [hd,cond_false,hb]
    rfl
 unfold Qp5 Jac
 rw [e3 _ (e7 _ e11)]
 congr 1
 cases Q7e Typ.f8 [] r.fT <;> cases Ja3 r.fR [] r.fG <;> cases (Qtn r r.fP).isSome <;> cases r.fL.any λp=>decide (p.fA ≥ r.fR) || decide (p.fB ≥ r.fR) <;> rfl
theorem Q9f {α:Type} {l pre xs:List α} {x:α} (h:l = pre ++ x :: xs):sls l 0 (pre.length:Int) = some pre:=by
 rw [Qt8 ⟨by omega,by omega,by rw [h]; simp; omega⟩]
 simp [h]
theorem Jiq {fu:Nat} {r:Request} (h:Sm fu r):Qpp fu r = some (Jac r):=by
 have hfu:=h.fu
 have h1:=h.items
 have h2:=h.types
 have h3:=h.pairs
 have e4:Qdh fu r fu 0 = some (Ja3 r.fR [] r.fG && ((Qtn r r.fP).isSome && !(r.fL.any λp=>decide (p.fA ≥ r.fR) || decide (p.fB ≥ r.fR)))):=by
  refine lpP r.fG (λn (_:Unit) i=>Qdh fu r n i) (λpre l _=>some (Ja3 r.fR pre l && ((Qtn r r.fP).isSome && !(r.fL.any λp=>decide (p.fA ≥ r.fR) || decide (p.fB ≥ r.fR))))) (by omega) ?_ ?_ fu () (by omega)
  · intro n s pre x xs hl hx hd ih
    simp only [Qdh.eq_2]
    unfold Qma Qpe
    have hpl:pre.length ≤ r.fG.length:=by rw [hl]; simp
    simp only [hd,cond_true,hx,Qab,Q9f hl,Qv7 (λy=>Qql fu y x) (λy=>y.f8 == x.f8) (λy _=>rfl) (show pre.length ≤ 1048576 by omega) (show pre.length < fu by omega),Ja3,ih ()]
    cases decide (x.fF ≥ r.fR) <;> cases pre.any (λy=>y.f8 == x.f8) <;> rfl
  · intro n s hd
    simp only [Qdh.eq_2]
    unfold Qma
    simp only [hd,cond_false,Jfp h,Qab,Q09]
    rw [Q38 (λy=>Qml fu y r) (λp=>decide (p.fA ≥ r.fR) || decide (p.fB ≥ r.fR)) (λp _=>by
     unfold Qml
     cases decide (p.fA ≥ r.fR) <;> rfl) h3 (by omega),Qab]
    cases (Qtn r r.fP).isSome <;> rfl
 have e3:∀ b,Qdh fu r fu 0 = some b → Qfe fu r fu 0 = some (Q7e Typ.f8 [] r.fT && b):=by
  intro b hb
  refine lpP r.fT (λn (_:Unit) i=>Qfe fu r n i) (λpre l _=>some (Q7e Typ.f8 pre l && b)) (by omega) ?_ ?_ fu () (by omega)
  · intro n s pre x xs hl hx hd ih
    simp only [Qfe.eq_2]
    unfold Qlq
    have hpl:pre.length ≤ r.fT.length:=by rw [hl]; simp
    simp only [hd,cond_true,hx,Qab,Q9f hl,Q2a (λy=>Qqg fu y x) (λy=>y.f8 == x.f8) (λy _=>rfl) (show pre.length ≤ 1048576 by omega) (show pre.length < fu by omega),Q7e,ih ()]
    cases pre.any (λy=>y.f8 == x.f8) <;> rfl
  · intro n s hd
    simp only [Qfe.eq_2]
    unfold Qlq
    simp only [hd,cond_false,hb]
    rfl
 unfold Qpp Jac
 rw [e3 _ e4]
 congr 1
 cases Q7e Typ.f8 [] r.fT <;> cases Ja3 r.fR [] r.fG <;> cases (Qtn r r.fP).isSome <;> cases r.fL.any λp=>decide (p.fA ≥ r.fR) || decide (p.fB ≥ r.fR) <;> rfl
theorem Jgb {fu:Nat} {l:List Pair} (hl:l.length ≤ 1048576) (hf:l.length < fu) (a b:Int):Qfw fu l a b = some (Qtx l a b):=by
 unfold Qfw Qtx
 refine lp l (λn (_:Unit) i=>Qf6 fu l a b n i) (λl _=>some (l.any λp=>p.fA == a && p.fB == b)) (by omega) ?_ ?_ fu () hf
 · intro n s i x xs hx hd ih
   simp only [Qf6.eq_2]
   unfold Qnn Qmo
   simp only [hd,cond_true,hx,Qab,ih (),List.any_cons]
   cases x.fA == a <;> cases x.fB == b <;> rfl
 · intro n s i hd
   simp only [Qf6.eq_2]
   unfold Qnn
   simp only [hd,cond_false]
   rfl
theorem Jdp {fu:Nat} {l:List Pair} (hl:l.length ≤ 1048576) (hf:l.length < fu) (a b:Int):Qhi fu l a b = some (Qtx l a b):=by
 unfold Qhi Qcu Qc8 Qtx
 have:=Qtd l (λn i=>Qbc fu l (⟨a,b⟩:Pair) n i) (λp=>p.fA == a && p.fB == b) (by omega) (by
  intro n i x hx hd
  simp only [Qbc.eq_2]
  unfold Qco
  simp only [hd,cond_true,hx,Qab]
  have:decide ((⟨a,b⟩:Pair) = x) = (x.fA == a && x.fB == b):=by
   rcases x with ⟨c,d⟩
   apply Bool.eq_iff_iff.2
   simp only [decide_eq_true_eq,Pair.mk.injEq,Bool.and_eq_true,beq_iff_eq]
   exact ⟨λ⟨h1,h2⟩=>⟨h1.symm,h2.symm⟩,λ⟨h1,h2⟩=>⟨h1.symm,h2.symm⟩⟩
  rw [this]) (by
  intro n i hd
  simp only [Qbc.eq_2]
  unfold Qco
  simp only [hd,cond_false]) fu hf
 rw [this,Qab,Qtq _ l 0 (by omega),Qab]
theorem Jjj {fu:Nat} {l:List Pair} (hl:l.length ≤ 1048576) (hf:l.length < fu) (h64:64 < fu) (c:Int):Qpx fu l c = some (Jcg l c):=by
 unfold Qpx Jcg
 rw [Q4q,Qab]
 cases hc:inb c 1 4
 · rfl
 rw [Qdz] at hc
 simp only [Bool.not_true,cond_false,Bool.true_and]
 have e4:∀ (k:Int → Option Bool) (a:Int),Qe6 fu k l c a fu 0 = bif (Qkd 0 c.toNat).all λb=>Qtx l a b == Qtx l b a then k (w64 (a + 1)) else some false:=by
  intro k a
  refine lpN c (λn (_:Unit) i=>Qe6 fu k l c a n i) (λxs _=>bif xs.all λb=>Qtx l a b == Qtx l b a then k (w64 (a + 1)) else some false) (by omega) ?_ ?_ c.toNat fu () 0 (by omega) (by omega) (by omega)
  · intro n s i xs h0 h1 hd ih
    simp only [Qe6.eq_2]
    unfold Qmc
    simp only [hd,cond_true,Jdp hl hf,Qab,ih (),List.all_cons]
    cases Qtx l a i == Qtx l i a <;> rfl
  · intro n s i hd
    simp only [Qe6.eq_2]
    unfold Qmc
    simp only [hd,cond_false]
    rfl
 refine lpN c (λn (_:Unit) i=>Qfg fu l c n i) (λxs _=>some (xs.all λa=>Qtx l a a && (Qkd 0 c.toNat).all λb=>Qtx l a b == Qtx l b a)) (by omega) ?_ ?_ c.toNat fu () 0 (by omega) (by omega) (by omega)
 · intro n s i xs h0 h1 hd ih
   simp only [Qfg.eq_2]
   unfold Qk9
   simp only [hd,cond_true,Jdp hl hf,Qab,e4,ih (),List.all_cons]
   cases Qtx l i i <;> cases (Qkd 0 c.toNat).all λb=>Qtx l i b == Qtx l b i <;> rfl
 · intro n s i hd
   simp only [Qfg.eq_2]
   unfold Qk9
   simp only [hd,cond_false]
   rfl
theorem Jjg {fu:Nat} {l:List Pair} (hl:l.length ≤ 1048576) (hf:l.length < fu) (h64:64 < fu) (c:Int):Qp9 fu l c = some (Jcg l c):=by
 unfold Qp9 Jcg
 rw [Q1e,Qab]
 cases hc:inb c 1 4
 · rfl
 rw [Qdz] at hc
 simp only [Bool.not_true,cond_false,Bool.true_and]
 have e4:∀ (k:Int → Option Bool) (a:Int),Qd8 fu k l c a fu 0 = bif (Qkd 0 c.toNat).all λb=>(!(a == b) || Qtx l a a) && (Qtx l a b == Qtx l b a) then k (w64 (a + 1)) else some false:=by
  intro k a
  refine lpN c (λn (_:Unit) i=>Qd8 fu k l c a n i) (λxs _=>bif xs.all λb=>(!(a == b) || Qtx l a a) && (Qtx l a b == Qtx l b a) then k (w64 (a + 1)) else some false) (by omega) ?_ ?_ c.toNat fu () 0 (by omega) (by omega) (by omega)
  · intro n s i xs h0 h1 hd ih
    simp only [Qd8.eq_2]
    unfold Qlv Qkw
    simp only [hd,cond_true,Jgb hl hf,Qab,ih (),List.all_cons]
    cases a == i <;> cases Qtx l a a <;> cases Qtx l a i == Qtx l i a <;> rfl
  · intro n s i hd
    simp only [Qd8.eq_2]
    unfold Qlv
    simp only [hd,cond_false]
    rfl
 have e9:Qdd fu l c fu 0 = some ((Qkd 0 c.toNat).all λa=>(Qkd 0 c.toNat).all λb=>(!(a == b) || Qtx l a a) && (Qtx l a b == Qtx l b a)):=by
  refine lpN c (λn (_:Unit) i=>Qdd fu l c n i) (λxs _=>some (xs.all λa=>(Qkd 0 c.toNat).all λb=>(!(a == b) || Qtx l a a) && (Qtx l a b == Qtx l b a))) (by omega) ?_ ?_ c.toNat fu () 0 (by omega) (by omega) (by omega)
  · intro n s i xs h0 h1 hd ih
    simp only [Qdd.eq_2]
    unfold Qk7
    simp only [hd,cond_true,e4,ih (),List.all_cons]
    cases (Qkd 0 c.toNat).all λb=>(!(i == b) || Qtx l i i) && (Qtx l i b == Qtx l b i) <;> rfl
  · intro n s i hd
    simp only [Qdd.eq_2]
    unfold Qk7
    simp only [hd,cond_false]
    rfl
 rw [e9]
 congr 1
 apply Bool.eq_iff_iff.2
 simp only [List.all_eq_true,Bool.and_eq_true,Bool.or_eq_true,Bool.not_eq_true',beq_eq_false_iff_ne,beq_iff_eq]
 constructor
 · intro h a ha
   refine ⟨?_,λb hb=>(h a ha b hb).2⟩
   rcases (h a ha a ha).1 with h1 | h1
   · exact absurd rfl h1
   · exact h1
 · intro h a ha b hb
   exact ⟨.inr (h a ha).1,(h a ha).2 b hb⟩
theorem Jj3 {l:List Int} (h:l.length = 3):∃ p q s,l = [p,q,s]:=by
 match l,h with
 | [p,q,s],_=>exact ⟨p,q,s,rfl⟩
theorem Jgq {fu:Nat} (hfu:2097153 ≤ fu) (a b c:Int):Qm2 fu a b c = some [(sid a b c).1,(sid a b c).2.1,(sid a b c).2.2]:=by
 unfold Qm2
 rw [Jjr hfu (by simp),Qab,show [a,b,c].length = 3 from rfl]
 have hp:=Qu2 (kf [a,b,c]) 3
 have hs:=Qxc (kf [a,b,c]) 3
 obtain ⟨p,q,s,hq⟩:=Jj3 (Qvs (kf [a,b,c]) 3)
 rw [hq] at hp hs ⊢
 have hmem:∀ x ∈ [p,q,s],0 ≤ x ∧ x < 3:=λx hx=>by
  have:=Ql6.1 (hp.mem_iff.1 hx)
  omega
 have k1:=Q8p (keys:=[a,b,c]) (p:=p) (by have:=hmem p (by simp); simpa using this)
 have k2:=Q8p (keys:=[a,b,c]) (p:=q) (by have:=hmem q (by simp); simpa using this)
 have k3:=Q8p (keys:=[a,b,c]) (p:=s) (by have:=hmem s (by simp); simpa using this)
 rw [show ix [p,q,s] 0 = some p from rfl,show ix [p,q,s] 1 = some q from rfl,show ix [p,q,s] 2 = some s from rfl]
 simp only [Qab,k1,k2,k3]
 have hp3:([a,b,c]).Perm [kf [a,b,c] p,kf [a,b,c] q,kf [a,b,c] s]:=(hp.map (kf [a,b,c])).symm
 simp only [List.pairwise_cons,List.mem_cons,List.not_mem_nil,or_false,forall_eq_or_imp,forall_eq,lx] at hs
 have:=Jg2 hp3 (by omega) (by omega)
 rw [this]
theorem Je7 {fu:Nat} (hfu:2097153 ≤ fu) (x:Item) (t:Typ):Qqz fu x t = some (Q04 x t):=by
 unfold Qqz Q04
 rw [Jgq hfu,Jgq hfu]
 simp only [Qab]
 have e0:∀ a b c:Int,ix [a,b,c] 0 = some a:=λ_ _ _=>rfl
 have e1:∀ a b c:Int,ix [a,b,c] 1 = some b:=λ_ _ _=>rfl
 have e2:∀ a b c:Int,ix [a,b,c] 2 = some c:=λ_ _ _=>rfl
 simp only [e0,e1,e2,Qab]
 cases decide ((sid x.fW x.fH x.fD).1 ≤ (sid t.fW t.fH t.fD).1) <;> cases decide ((sid x.fW x.fH x.fD).2.1 ≤ (sid t.fW t.fH t.fD).2.1) <;> cases decide ((sid x.fW x.fH x.fD).2.2 ≤ (sid t.fW t.fH t.fD).2.2) <;> rfl
theorem Q8u (a b c:Int):Q13 [a,b,c] = some [(sid a b c).1,(sid a b c).2.1,(sid a b c).2.2]:=by
 unfold Q13
 rw [if_pos (by simp)]
 have hp:=List.mergeSort_perm [a,b,c] (λx y=>decide (x ≤ y))
 have hs:=Qsz [a,b,c]
 obtain ⟨p,q,s,hq⟩:=Jj3 (hp.length_eq)
 rw [hq] at hp hs ⊢
 simp only [List.pairwise_cons,List.mem_cons,List.not_mem_nil,or_false,forall_eq_or_imp,forall_eq] at hs
 rw [Jg2 hp.symm (by omega) (by omega)]
theorem Jgd (fu:Nat) (x:Item) (t:Typ):Qsk fu x t = some (Q04 x t):=by
 unfold Qsk Qss Qc1 Q04
 rw [Q8u,Q8u]
 have e0:∀ a b c:Int,ix [a,b,c] 0 = some a:=λ_ _ _=>rfl
 have e1:∀ a b c:Int,ix [a,b,c] 1 = some b:=λ_ _ _=>rfl
 have e2:∀ a b c:Int,ix [a,b,c] 2 = some c:=λ_ _ _=>rfl
 simp only [Qab,e0,e1,e2]
 cases decide ((sid x.fW x.fH x.fD).1 ≤ (sid t.fW t.fH t.fD).1) <;> cases decide ((sid x.fW x.fH x.fD).2.1 ≤ (sid t.fW t.fH t.fD).2.1) <;> cases decide ((sid x.fW x.fH x.fD).2.2 ≤ (sid t.fW t.fH t.fD).2.2) <;> rfl
theorem Q03 {fu:Nat} {r:Request} (h:Sm fu r):Qep fu r = some (Qh9 r):=by
 have hfu:=h.fu
 have h1:=h.items
 have h2:=h.types
 have h3:=h.pairs
 have e4:Qfr fu r fu 0 = some (bif r.fT.any (Q7f r.fJ) then 6 else 0):=by
  refine lp r.fT (λn (_:Unit) i=>Qfr fu r n i) (λl _=>some (bif l.any (Q7f r.fJ) then 6 else 0)) (by omega) ?_ ?_ fu () (by omega)
  · intro n s i x xs hx hd ih
    simp only [Qfr.eq_2]
    unfold Qph Qrs
    simp only [hd,cond_true,hx,Qab,ih (),List.any_cons,Q7f]
    cases decide (x.fW > r.fJ.fW) <;> cases decide (x.fD > r.fJ.fD) <;> cases decide (x.fH > r.fJ.fH) <;> cases decide (w64 (x.f7 + x.fV) > r.fJ.fV) <;> rfl
  · intro n s i hd
    simp only [Qfr.eq_2]
    unfold Qph
    simp only [hd,cond_false]
    rfl
 unfold Qep Qh9
 rw [Jik h,Qab,Jh6 h,Qab,Jjg h3 (by omega) (by omega),Qab,Q8q h,Qab]
 have e1:Qg3 fu r (Qxm (Qtn r r.fP)) fu 0 = some (bif !(r.fG.all λx=>Q04 x (Qyl r)) then 5 else bif r.fT.any (Q7f r.fJ) then 6 else 0):=by
  refine lp r.fG (λn (_:Unit) i=>Qg3 fu r (Qxm (Qtn r r.fP)) n i) (λl _=>some (bif !(l.all λx=>Q04 x (Qyl r)) then 5 else bif r.fT.any (Q7f r.fJ) then 6 else 0)) (by omega) ?_ ?_ fu () (by omega)
  · intro n s i x xs hx hd ih
    simp only [Qg3.eq_2]
    unfold Qo1
    simp only [hd,cond_true,hx,Qab,Je7 hfu,ih (),List.all_cons]
    rw [show (Qxm (Qtn r r.fP)).1 = Qyl r from rfl]
    cases Q04 x (Qyl r) <;> rfl
  · intro n s i hd
    simp only [Qg3.eq_2]
    unfold Qo1
    simp only [hd,cond_false,e4]
    rfl
 rw [e1]
 cases Q30 r <;> cases Jac r <;> cases Jcg r.fL r.fR <;> rfl
theorem Jim {fu:Nat} {r:Request} (h:Sm fu r):Qs2 fu r = some (Qh9 r):=by
 have hfu:=h.fu
 have h1:=h.items
 have h2:=h.types
 have h3:=h.pairs
 unfold Qs2 Qh9
 rw [Jfp h,Qab,Ji2 h,Qab,Jiq h,Qab,Jjj h3 (by omega) (by omega),Qab]
 rw [Qv7 (λy=>Qp1 fu y (Qxm (Qtn r r.fP)).1) (λx=>!Q04 x (Qyl r)) (λx _=>by
  unfold Qp1
  rw [Jgd,Qab]; rfl) h1 (by omega),Qab]
 rw [Q2a (λy=>Qqc fu y r.fJ) (Q7f r.fJ) (λx _=>by
  unfold Qqc Q7f
  cases decide (x.fW > r.fJ.fW) <;> cases decide (x.fD > r.fJ.fD) <;> cases decide (x.fH > r.fJ.fH) <;> rfl) h2 (by omega),Qab]
 rw [show (r.fG.any λx=>!Q04 x (Qyl r)) = !(r.fG.all λx=>Q04 x (Qyl r)) by simp [List.not_all_eq_any_not]]
 cases Q30 r <;> cases Jac r <;> cases Jcg r.fL r.fR <;> cases r.fG.all λx=>Q04 x (Qyl r) <;> cases r.fT.any (Q7f r.fJ) <;> rfl
theorem Qvx {fu:Nat} {r:Request} (h:Sm fu r):Qg0 fu r = some (Qh9 r == 0):=by
 unfold Qg0
 rw [Jim h]; rfl
end Go.Proofs.YtpcmapfabndggaaGreat
/- PlanOk, by spec and by impl. -/
namespace Go.Proofs.YtpcmapfabndggaaGreat
open Go
open Enc (rd ow)
open Arg (argv)
open Ret (retv)
open Wf (wf)
def Jda:List Int → List Int → Bool
 | _,[]=>true
 | pre,x :: xs=>inb x 0 999 && ((match pre.getLast? with | none=>true | some y=>decide (y < x)) && Jda (pre ++ [x]) xs)
def Jft (l:List Int):Bool:=Jda [] l && decide ((l.length:Int) ≤ 100)
def Jco (c:Carton):Bool:=inb c.fO 0 999 && (inb c.fE 0 3 && Jft c.fM)
def Jdn (s:Spot):Bool:=inb s.fJ 0 2000 && (inb s.fX 0 2000 && (inb s.fY 0 2000 && inb s.fZ 0 2000))
def Q3b (x:Plan):Bool:=x.fU.length == x.fQ.length && (decide ((x.fQ.length:Int) ≤ 100) && (x.fQ.zip x.fU).all λp=>Jco p.1 && Jdn p.2)
theorem Q9e {pre:List Int} {x:Int} {xs l:List Int} (hl:l.length ≤ 1048576) (e:l = pre ++ x :: xs):(pre.getLast? = none ∧ pre.length = 0) ∨ ∃ y,pre.getLast? = some y ∧ 0 < pre.length ∧ ix l (w64 ((pre.length:Int) - 1)) = some y:=by
 cases hp:pre.getLast? with
 | none=>exact .inl ⟨rfl,by simpa using List.getLast?_eq_none_iff.1 hp⟩
 | some y =>
  have hne:pre ≠ []:=λe=>by subst e; simp at hp
  have hpos:0 < pre.length:=List.length_pos_iff.2 hne
  refine .inr ⟨y,rfl,hpos,?_⟩
  have h1:w64 ((pre.length:Int) - 1) = ((pre.length - 1:Nat):Int):=by
   have:pre.length ≤ l.length:=by rw [e]; simp
   rw [Qbp (by omega) (by omega)]; omega
  rw [h1,Qq2,e,List.getElem?_append_left (by omega),← List.getLast?_eq_getElem?,hp]
theorem Jjb {fu:Nat} {l:List Int} (hl:l.length ≤ 1048576) (hf:l.length < fu):Qkn fu l = some (Jft l):=by
 unfold Qkn Jft
 have key:=lpP l (λn (_:Unit) i=>Qdi fu l n i) (λpre xs _=>some (Jda pre xs && decide ((l.length:Int) ≤ 100))) (by omega) ?_ ?_ fu () hf
 · exact key
 · intro n _ pre x xs e hx hd ih
   have ih:=ih ()
   simp only [Qdi.eq_2]
   unfold Qie Qhh Jda
   rw [hd,cond_true,hx,Qab,Q4q,Qab]
   cases inb x 0 999
   · rfl
   · rw [Bool.not_true,cond_false,Bool.true_and]
     rcases Q9e (hl:=hl) e with ⟨h1,h2⟩ | ⟨y,h1,h2,h3⟩
     · rw [h1,show decide ((pre.length:Int) > 0) = false from decide_eq_false (by omega),cond_false,ih]
       simp
     · rw [h1,show decide ((pre.length:Int) > 0) = true from decide_eq_true (by omega),cond_true,h3,Qab,ih]
       by_cases hy:y < x
       · rw [show decide (y ≥ x) = false by simp; omega,cond_false]; simp [hy]
       · rw [show decide (y ≥ x) = true by simp; omega,cond_true]; simp [hy]
 · intro n _ hd
   simp only [Qdi.eq_2]
   unfold Qie
   rw [hd,cond_false]
   simp [Jda]
theorem Jjh {fu:Nat} {c:Carton} (hl:c.fM.length ≤ 1048576) (hf:c.fM.length < fu):Qmu fu c = some (Jco c):=by
 unfold Qmu Jco
 rw [Jhp,Qab,Q1e,Qab]
 cases inb c.fO 0 999
 · rfl
 · rw [Bool.not_true,cond_false]
   cases inb c.fE 0 3
   · rfl
   · rw [Bool.not_true,cond_false,Bool.true_and,Bool.true_and]
     unfold Jft
     by_cases h1:(c.fM.length:Int) ≤ 100
     · rw [show decide ((c.fM.length:Int) > 100) = false by simp; omega,cond_false,show decide ((c.fM.length:Int) ≤ 100) = true by simpa using h1,Bool.and_true]
       unfold Qmi
       have key:=lpP c.fM (λn (_:Unit) i=>Qdy fu c n i) (λpre xs _=>some (Jda pre xs)) (by omega) ?_ ?_ fu () hf
       · exact key
       · intro n _ pre x xs e hx hd ih
         have ih:=ih ()
         simp only [Qdy.eq_2]
         unfold Qin Qh1 Jda
         rw [hd,cond_true,hx,Qab,Q1e,Qab]
         cases inb x 0 999
         · rfl
         · rw [Bool.not_true,cond_false,Bool.true_and]
           rcases Q9e (hl:=hl) e with ⟨h1,h2⟩ | ⟨y,h1,h2,h3⟩
           · rw [h1,show decide ((pre.length:Int) > 0) = false from decide_eq_false (by omega),cond_false,ih]
             simp
           · rw [h1,show decide ((pre.length:Int) > 0) = true from decide_eq_true (by omega),cond_true,Qab,h3,Qab,ih]
             by_cases hy:y < x
             · rw [show decide (x ≤ y) = false by simp; omega,cond_false]; simp [hy]
             · rw [show decide (x ≤ y) = true by simp; omega,cond_true]; simp [hy]
       · intro n _ hd
         simp only [Qdy.eq_2]
         unfold Qin
         rw [hd,cond_false]
         simp [Jda]
     · rw [show decide ((c.fM.length:Int) > 100) = true by simp; omega,cond_true,show decide ((c.fM.length:Int) ≤ 100) = false by simpa using h1,Bool.and_false]
theorem Qu9 {α β:Type} {a:List α} {b:List β} {i:Int} {p:α × β} (h:ix (a.zip b) i = some p):ix a i = some p.1 ∧ ix b i = some p.2:=by
 obtain ⟨h0,_,h1⟩:=Qat h
 have:=List.getElem?_zip_eq_some.1 h1
 unfold ix
 rw [if_pos h0,if_pos h0]
 exact this
theorem Jjm {fu:Nat} {x:Plan} (h:Sp x) (hf:1048577 ≤ fu):Qro fu x = some (Q3b x):=by
 have hs:=h.spots
 have hc:=h.cars
 unfold Qro Q3b
 cases he:x.fU.length == x.fQ.length
 · have:((x.fU.length:Int) != (x.fQ.length:Int)) = true:=by simp at he ⊢; omega
   rw [this]; rfl
 · have el:x.fU.length = x.fQ.length:=by simpa using he
   have:((x.fU.length:Int) != (x.fQ.length:Int)) = false:=by simp; omega
   rw [this,cond_false,Bool.true_and]
   by_cases h1:(x.fQ.length:Int) ≤ 100
   · rw [show decide ((x.fQ.length:Int) > 100) = false by simp; omega,cond_false,show decide ((x.fQ.length:Int) ≤ 100) = true by simpa using h1,Bool.true_and]
     unfold Qqw
     have hz:(x.fQ.zip x.fU).length = x.fQ.length:=by simp; omega
     have key:=lp (x.fQ.zip x.fU) (λn (_:Unit) i=>Qf2 fu x n i) (λl _=>some (l.all λp=>Jco p.1 && Jdn p.2)) (by omega) ?_ ?_ fu () (by omega)
     · exact key
     · intro n _ i p xs hx hd ih
       have ih:=ih ()
       obtain ⟨e1,e2⟩:=Qu9 hx
       have hu:=h.units p.1 (Qd5 e1)
       rw [hz] at hd
       simp only [Qf2.eq_2]
       unfold Qna Qqq
       simp only [hd,cond_true,e1,e2,Qab,Q4q,Jjb hu (show p.1.fM.length < fu by omega),Q4w,ih,List.all_cons]
       unfold Jco Jdn
       cases inb p.1.fO 0 999 <;> cases inb p.1.fE 0 3 <;> cases Jft p.1.fM <;> cases inb p.2.fJ 0 2000 <;> cases inb p.2.fX 0 2000 <;> cases inb p.2.fY 0 2000 <;> cases inb p.2.fZ 0 2000 <;> rfl
     · intro n _ i hd
       rw [hz] at hd
       simp only [Qf2.eq_2]
       unfold Qna
       simp [hd]
   · rw [show decide ((x.fQ.length:Int) > 100) = true by simp; omega,cond_true,show decide ((x.fQ.length:Int) ≤ 100) = false by simpa using h1,Bool.false_and]
theorem Jih {fu:Nat} {x:Plan} (h:Sp x) (hf:1048577 ≤ fu):Qrq fu x = some (Q3b x):=by
 have hs:=h.spots
 have hc:=h.cars
 unfold Qrq Q3b
 cases he:x.fU.length == x.fQ.length
 · have:((x.fQ.length:Int) != (x.fU.length:Int)) = true:=by simp at he ⊢; omega
   rw [this]; rfl
 · have el:x.fU.length = x.fQ.length:=by simpa using he
   have:((x.fQ.length:Int) != (x.fU.length:Int)) = false:=by simp; omega
   rw [this,cond_false,Bool.true_and]
   by_cases h1:(x.fQ.length:Int) ≤ 100
   · rw [show decide ((x.fQ.length:Int) > 100) = false by simp; omega,cond_false,show decide ((x.fQ.length:Int) ≤ 100) = true by simpa using h1,Bool.true_and]
     unfold Qqh
     have hz:(x.fQ.zip x.fU).length = x.fQ.length:=by simp; omega
     have key:=lp (x.fQ.zip x.fU) (λn (_:Unit) i=>Qf3 fu x n i) (λl _=>some (l.all λp=>Jco p.1 && Jdn p.2)) (by omega) ?_ ?_ fu () (by omega)
     · exact key
     · intro n _ i p xs hx hd ih
       have ih:=ih ()
       obtain ⟨e1,e2⟩:=Qu9 hx
       have hu:=h.units p.1 (Qd5 e1)
       rw [hz] at hd
       simp only [Qf3.eq_2]
       unfold Qnl Qqi
       simp only [hd,cond_true,e1,e2,Qab,Q1e,Jjh hu (show p.1.fM.length < fu by omega),ih,List.all_cons]
       unfold Jdn
       cases Jco p.1 <;> cases inb p.2.fJ 0 2000 <;> cases inb p.2.fX 0 2000 <;> cases inb p.2.fY 0 2000 <;> cases inb p.2.fZ 0 2000 <;> rfl
     · intro n _ i hd
       rw [hz] at hd
       simp only [Qf3.eq_2]
       unfold Qnl
       simp [hd]
   · rw [show decide ((x.fQ.length:Int) > 100) = true by simp; omega,cond_true,show decide ((x.fQ.length:Int) ≤ 100) = false by simpa using h1,Bool.false_and]
end Go.Proofs.YtpcmapfabndggaaGreat
/- The units of an order, by spec and by impl. -/
namespace Go.Proofs.YtpcmapfabndggaaGreat
open Go
open Enc (rd ow)
open Arg (argv)
open Ret (retv)
open Wf (wf)
theorem Jfl {σ α β:Type} (l:List α) (L:Nat → σ → Int → Option β) (F:List α → List α → σ → Option β) (I:List α → List α → σ → Prop) (hl:l.length ≤ 1099511627776)
    (hs:∀ n s pre x xs,l = pre ++ x :: xs → ix l (pre.length:Int) = some x → decide ((pre.length:Int) < (l.length:Int)) = true → I pre (x :: xs) s → (∀ s',I (pre ++ [x]) xs s' → L n s' (w64 ((pre.length:Int) + 1)) = F (pre ++ [x]) xs s') → L (n + 1) s (pre.length:Int) = F pre (x :: xs) s)
    (he:∀ n s,decide ((l.length:Int) < (l.length:Int)) = false → I l [] s → L (n + 1) s (l.length:Int) = F l [] s):∀ n s,I [] l s → l.length < n → L n s 0 = F [] l s:=by
 have key:∀ (xs pre:List α) (n:Nat) (s:σ),l = pre ++ xs → I pre xs s → xs.length < n → L n s (pre.length:Int) = F pre xs s:=by
  intro xs
  induction xs with
  | nil =>
   intro pre n s he' hI hn
   obtain ⟨n,rfl⟩:∃ k,n = k + 1:=⟨n - 1,by omega⟩
   simp only [List.append_nil] at he'
   subst he'
   exact he n s (by simp) hI
  | cons x xs ih =>
   intro pre n s he' hI hn
   obtain ⟨n,rfl⟩:∃ k,n = k + 1:=⟨n - 1,by simp at hn; omega⟩
   have hlen:l.length = pre.length + (xs.length + 1):=by rw [he']; simp
   refine hs n s pre x xs he' ?_ (by simp; omega) hI λs' hI'=>?_
   · rw [Qq2,he']; simp
   · rw [Qya _ (by omega)]
     have:=ih (pre ++ [x]) n s' (by simp [he']) hI' (by simp at hn; omega)
     simpa using this
 intro n s hI hn
 simpa using key l [] n s rfl hI hn
theorem Qzt {x:Item} (h:Qxh x = true):1 ≤ x.f0 ∧ x.f0 ≤ 6:=by
 simp only [Qxh,Bool.and_eq_true,Qdz] at h
 omega
theorem Jc7 {xs:List Item} (h:∀ x ∈ xs,Qxh x = true):0 ≤ Qwp (xs.map (·.f0)):=Q9s _ _ λx hx=>by have:=Qzt (h x hx); omega
theorem Jje {fu:Nat} {r:Request} (h:Sm fu r) (hb:Q30 r = true):Qcg fu r = some (l6M r):=by
 have hfu:=h.fu
 obtain ⟨hi,hs,hl⟩:=Qs1 hb
 have e4:∀ (k:List Int → Int → Option (List Int)) (i:Int) (x:Item),ix r.fG i = some x → ∀ (m n:Nat) (c:Int) (out:List Int),0 ≤ c → c ≤ x.f0 → (x.f0 - c).toNat = m → x.f0 ≤ 6 → m < n → out.length + m ≤ 100 →
     Qgq fu k r i n out c = k (out ++ List.replicate m i) (w64 (i + 1)):=by
  intro k i x hx m
  induction m with
  | zero =>
   intro n c out h0 h1 h2 h3 h4 h5
   obtain ⟨n,rfl⟩:∃ j,n = j + 1:=⟨n - 1,by omega⟩
   rw [Qgq.eq_2]
   unfold Qmf
   rw [hx,Qab,Qbb (by simp; omega)]
   simp
  | succ m ih =>
   intro n c out h0 h1 h2 h3 h4 h5
   obtain ⟨n,rfl⟩:∃ j,n = j + 1:=⟨n - 1,by omega⟩
   rw [Qgq.eq_2]
   unfold Qmf
   rw [hx,Qab,Qcn (by simp; omega),ap1 (by simp; omega),Qab,Qbp (by omega) (by omega),ih n (c + 1) (out ++ [i]) (by omega) (by omega) (by omega) h3 (by omega) (by simp; omega)]
   rw [List.append_assoc,List.singleton_append,← List.replicate_succ]
 unfold Qcg l6M
 have:=Jfl r.fG (λn out i=>Qee fu r n out i) (λpre xs out=>some (out ++ Q6t (pre.length:Int) xs)) (λpre xs out=>(out.length:Int) + Qwp (xs.map (·.f0)) ≤ 12 ∧ ∀ x ∈ xs,Qxh x = true) (by omega) ?_ ?_ fu [] ⟨by simpa using hs,hi⟩ (by omega)
 · simpa using this
 · intro n out pre x xs hl' hx hd hI ih
   simp only [Qee.eq_2]
   unfold Qmj
   have hc:=Qzt (hI.2 x (by simp))
   have hsum:=hI.1
   have hnn:=Jc7 (λy hy=>hI.2 y (by simp [hy]):∀ y ∈ xs,Qxh y = true)
   simp only [List.map_cons,Qpq] at hsum
   have e:=e4 (Qee fu r n) (pre.length:Int) x hx x.f0.toNat fu 0 out (by omega) (by omega) (by omega) (by omega) (by omega) (by omega)
   rw [hd,cond_true,e,ih _ ⟨by simp; omega,λy hy=>hI.2 y (by simp [hy])⟩]
   simp [Q6t]
 · intro n out hd hI
   simp only [Qee.eq_2]
   unfold Qmj
   simp only [hd,cond_false]
   simp [Q6t]
theorem Jd9 {fu:Nat} {r:Request} (h:Sm fu r) (hc:Qh9 r = 0):Qcg fu r = some (Qi0 r):=by
 unfold Qi0
 rw [Jje h (Qfv hc).1,Qcn (by simp [hc])]
theorem Jij {fu:Nat} {r:Request} (h:Sm fu r):Qsw fu r = some (Qi0 r):=by
 unfold Qsw Qi0
 rw [Q03 h,Qab]
 by_cases hc:Qh9 r = 0
 · rw [Qbb (by simp [hc]),Jje h (Qfv hc).1,Qab,Qcn (by simp [hc])]
 · rw [Qcn (by simp [hc]),Qbb (by simp [hc])]
theorem Jj7 (fu:Nat) (c:Int) (h:1 ≤ c ∧ c ≤ 6):Qu3 fu (IntKind.wrap .u64 1) (IntKind.wrap .u64 c) = some (0,c):=by
 have:c = 1 ∨ c = 2 ∨ c = 3 ∨ c = 4 ∨ c = 5 ∨ c = 6:=by omega
 rcases this with rfl | rfl | rfl | rfl | rfl | rfl <;> rfl
theorem Jh5 (m:Nat) (i:Int):Qbq (m + 10) [i] (0,1) = some (List.replicate 1 i):=by kernel_rfl
theorem Jh3 (m:Nat) (i:Int):Qbq (m + 10) [i] (0,2) = some (List.replicate 2 i):=by kernel_rfl
theorem Jiz (m:Nat) (i:Int):Qbq (m + 10) [i] (0,3) = some (List.replicate 3 i):=by kernel_rfl
theorem Jji (m:Nat) (i:Int):Qbq (m + 10) [i] (0,4) = some (List.replicate 4 i):=by kernel_rfl
theorem Jif (m:Nat) (i:Int):Qbq (m + 10) [i] (0,5) = some (List.replicate 5 i):=by kernel_rfl
theorem Jhx (m:Nat) (i:Int):Qbq (m + 10) [i] (0,6) = some (List.replicate 6 i):=by kernel_rfl
theorem Jkc {fu:Nat} (hfu:10 ≤ fu) (i c:Int) (h:1 ≤ c ∧ c ≤ 6):Qfp fu [i] c = some (List.replicate c.toNat i):=by
 unfold Qfp Qga
 rw [Qbb (by simp; omega)]
 rw [show (([i]:List Int).length:Int) = 1 from rfl,Jj7 fu c h,Qab,Qbb (by simp),Qbb (by simp; omega)]
 obtain ⟨m,rfl⟩:∃ m,fu = m + 10:=⟨fu - 10,by omega⟩
 have:c = 1 ∨ c = 2 ∨ c = 3 ∨ c = 4 ∨ c = 5 ∨ c = 6:=by omega
 rcases this with rfl | rfl | rfl | rfl | rfl | rfl
 · exact Jh5 m i
 · exact Jh3 m i
 · exact Jiz m i
 · exact Jji m i
 · exact Jif m i
 · exact Jhx m i
theorem Jef {fu:Nat} {r:Request} (h:Sm fu r):Qow fu r = some (Qi0 r):=by
 have hfu:=h.fu
 unfold Qow Qi0
 rw [Qvx h,Qab]
 by_cases hc:Qh9 r = 0
 · obtain ⟨hi,hs,hl⟩:=Qs1 (Qfv hc).1
   rw [Qbb (by simp [hc]),Qcn (by simp [hc])]
   unfold l6M
   have:=Jfl r.fG (λn out i=>Qh4 fu r n out i) (λpre xs out=>some (out ++ Q6t (pre.length:Int) xs)) (λpre xs out=>(out.length:Int) + Qwp (xs.map (·.f0)) ≤ 12 ∧ ∀ x ∈ xs,Qxh x = true) (by omega) ?_ ?_ fu [] ⟨by simpa using hs,hi⟩ (by omega)
   · simpa using this
   · intro n out pre x xs hl' hx hd hI ih
     simp only [Qh4.eq_2]
     unfold Qoz
     have hc:=Qzt (hI.2 x (by simp))
     have hsum:=hI.1
     have hnn:=Jc7 (λy hy=>hI.2 y (by simp [hy]):∀ y ∈ xs,Qxh y = true)
     simp only [List.map_cons,Qpq] at hsum
     rw [hd,cond_true,hx,Qab,Jkc (by omega) _ _ hc,Qab,ap1 (by simp; omega),Qab,ih _ ⟨by simp; omega,λy hy=>hI.2 y (by simp [hy])⟩]
     simp [Q6t]
   · intro n out hd hI
     simp only [Qh4.eq_2]
     unfold Qoz
     simp only [hd,cond_false]
     simp [Q6t]
 · rw [Qcn (by simp [hc]),Qbb (by simp [hc])]
end Go.Proofs.YtpcmapfabndggaaGreat
/- Volumes of units, by spec and by impl. -/
namespace Go.Proofs.YtpcmapfabndggaaGreat
open Go
open Enc (rd ow)
open Arg (argv)
open Ret (retv)
open Wf (wf)
theorem Jjq {w h d:Int} (hb:(inb w 0 2000 && (inb h 0 2000 && inb d 0 2000)) = true):w64 ((w64 (w * h)) * d) = w * h * d:=by
 simp only [Bool.and_eq_true,Qdz] at hb
 obtain ⟨⟨h1,h2⟩,⟨h3,h4⟩,h5,h6⟩:=hb
 have a1:0 ≤ w * h:=Int.mul_nonneg h1 h3
 have a2:w * h ≤ 2000 * 2000:=Int.mul_le_mul h2 h4 h3 (by omega)
 have a3:0 ≤ w * h * d:=Int.mul_nonneg a1 h5
 have a4:w * h * d ≤ 2000 * 2000 * 2000:=Int.mul_le_mul a2 h6 h5 (by omega)
 rw [Qbp (n:=w * h) (by omega) (by omega),Qbp (by omega) (by omega)]
theorem Jd7 (fu:Nat) (w h d:Int):Qla fu w h d = some (Q6s w h d):=by
 unfold Qla Qqt Q6s
 simp only [Q1e,Qab]
 cases h1:inb w 0 2000 <;> cases h2:inb h 0 2000 <;> cases h3:inb d 0 2000 <;> simp only [Bool.not_true,Bool.not_false,cond_true,cond_false,Bool.and_true,Bool.and_false]
 rw [Jjq (by simp only [h1,h2,h3]; rfl)]
theorem Jgr (fu:Nat) (w h d:Int):Qo0 fu w h d = some (Q6s w h d):=by
 unfold Qo0 Qqk Q6s
 simp only [Q4q,Qab]
 cases h1:inb w 0 2000 <;> cases h2:inb h 0 2000 <;> cases h3:inb d 0 2000 <;> simp only [Bool.not_true,Bool.not_false,cond_true,cond_false,Bool.and_true,Bool.and_false]
 rw [Jjq (by simp only [h1,h2,h3]; rfl)]
def Quu (r:Request) (u:Int):Item:=(Q2x r u).getD Q66
theorem Q2j (r:Request):w64 (((Qi0 r).length:Int) - 1) = ((Qi0 r).length:Int) - 1:=by
 have:=Qyj r
 exact Qbp (by omega) (by omega)
theorem Q5s (fu:Nat) (r:Request) (u:Int):Qi1 fu r (Qi0 r) u = some (Quu r u,(Q2x r u).isSome):=by
 unfold Qi1 Quu
 rw [Q2j,Q1e,Qab]
 by_cases h:0 ≤ u ∧ u < (Qi0 r).length
 · obtain ⟨i,x,h1,h2,h3⟩:=Q45 h
   rw [Qbb (by simp; omega),h1,Qab,h2,Qab,h3]
   rfl
 · rw [Qcn (by simp [inb]; omega),Q2k h]
   rfl
theorem Jbm:Q8d Q66 = 0:=by simp [Q8d,Q6s,Q66]
theorem Q2q {fu:Nat} {r:Request} (h:Sm fu r) (us:List Int) (hl:us.length ≤ 1048576) (hf:us.length < fu):Qhp fu r us = some (Qxv r us):=by
 unfold Qhp
 rw [Jef h,Qab]
 have key:=lpI us (λn s i=>Qfb fu r us (Qi0 r) n s i) (λl out=>some (out ++ Qxv r l)) (λl out=>out.length + l.length ≤ 1048576) (by omega) ?_ ?_ fu [] (by simpa using hl) hf
 · simpa using key
 · intro n s i x xs hx hd hI ih
   simp only [Qfb.eq_2]
   unfold Qll Qkk
   simp only [hd,cond_true,hx,Qab,Q2j,Q4q]
   simp only [List.length_cons] at hI
   by_cases hu:0 ≤ x ∧ x < (Qi0 r).length
   · obtain ⟨i',y,h1,h2,h3⟩:=Q45 hu
     rw [Qcn (by simp; omega),h1,Qab,h2,Qab,ap1 (by simp; omega),Qab,ih _ (by simp; omega)]
     simp [Qxv,List.filterMap_cons,h3]
   · rw [Qbb (by simp [inb]; omega),ih _ (by omega)]
     simp [Qxv,List.filterMap_cons,Q2k hu]
 · intro n s i hd _
   simp only [Qfb.eq_2]
   unfold Qll
   simp only [hd,cond_false]
   simp [Qxv]
theorem Jet {fu:Nat} {r:Request} (h:Sm fu r) (us:List Int) (hl:us.length ≤ 1048576) (hf:us.length < fu):Qox fu r us = some (Qz6 r us):=by
 unfold Qox
 rw [Q2q h us hl hf,Qab]
 have hlen:=Qv2 r us
 have key:=lpI (Qxv r us) (λn s i=>Qft fu (Qxv r us) n s i) (λl n=>some (n + Qwp (l.map Q8d))) (λl n=>0 ≤ n ∧ n + 8000000000 * l.length ≤ 8000000000 * 1048576) (by omega) ?_ ?_ fu 0 ⟨by omega,by omega⟩ (by omega)
 · simpa [Qz6] using key
 · intro n s i x xs hx hd hI ih
   simp only [Qft.eq_2]
   unfold Qjr
   simp only [hd,cond_true,hx,Qab,Jgr]
   have hv:=Q85 x.fW x.fH x.fD
   have h2:=hI.2
   simp only [List.length_cons] at h2
   rw [Qbp (by omega) (by omega),ih _ ⟨by omega,by omega⟩]
   simp only [List.map_cons,Qpq,Q8d]
   congr 1
   omega
 · intro n s i hd _
   simp only [Qft.eq_2]
   unfold Qjr
   simp only [hd,cond_false]
   simp
end Go.Proofs.YtpcmapfabndggaaGreat
/- Weights of units, by spec and by impl. -/
namespace Go.Proofs.YtpcmapfabndggaaGreat
open Go
open Enc (rd ow)
open Arg (argv)
open Ret (retv)
open Wf (wf)
theorem Q3u (r:Request) (u:Int):0 ≤ (Quu r u).fV ∧ (Quu r u).fV ≤ 100000:=by
 unfold Quu
 cases hm:Q2x r u with
 | none=>simp [Q66]
 | some x=>exact Q10 (r:=r) (us:=[u]) (by simp [Qxv,List.filterMap_cons,hm])
theorem Jh8 {fu:Nat} {r:Request} (h:Sm fu r) (us:List Int) (hl:us.length ≤ 1048576) (hf:us.length < fu):Qse fu r us = some (Qv6 r us):=by
 unfold Qse
 rw [Jij h,Qab]
 have key:=lpI us (λn s i=>Qeu fu r us (Qi0 r) n s i) (λl n=>some (n + Qv6 r l)) (λl n=>0 ≤ n ∧ n + 100000 * l.length ≤ 100000 * 1048576) (by omega) ?_ ?_ fu 0 ⟨by omega,by omega⟩ hf
 · simpa using key
 · intro n s i x xs hx hd hI ih
   simp only [Qeu.eq_2]
   unfold Qnk Qqm Qqj
   simp only [hd,cond_true,hx,Qab,Q5s]
   have hv:=Q3u r x
   have h2:=hI.2
   simp only [List.length_cons] at h2
   rw [Qbp (by omega) (by omega),ih _ ⟨by omega,by omega⟩]
   congr 1
   have e:Qv6 r (x :: xs) = (Quu r x).fV + Qv6 r xs:=by
    unfold Qv6 Qxv Quu
    cases hm:Q2x r x with
    | none=>simp [List.filterMap_cons,hm,Q66]
    | some y=>simp [List.filterMap_cons,hm]
   rw [e]
   omega
 · intro n s i hd _
   simp only [Qeu.eq_2]
   unfold Qnk
   simp only [hd,cond_false]
   simp [Qv6,Qxv]
theorem Jfo {fu:Nat} {r:Request} (h:Sm fu r) (us:List Int) (hl:us.length ≤ 1048576) (hf:us.length < fu):Qo6 fu r us = some (Qv6 r us):=by
 unfold Qo6
 rw [Q2q h us hl hf,Qab]
 have hlen:=Qv2 r us
 have key:=lpI (Qxv r us) (λn s i=>Qhb fu (Qxv r us) n s i) (λl n=>some (n + Qwp (l.map (·.fV)))) (λl n=>0 ≤ n ∧ n + 100000 * l.length ≤ 100000 * 1048576 ∧ ∀ x ∈ l,0 ≤ x.fV ∧ x.fV ≤ 100000) (by omega) ?_ ?_ fu 0 ⟨by omega,by omega,λx hx=>Q10 hx⟩ (by omega)
 · simpa [Qv6] using key
 · intro n s i x xs hx hd hI ih
   simp only [Qhb.eq_2]
   unfold Qnm
   simp only [hd,cond_true,hx,Qab]
   have hv:=hI.2.2 x (by simp)
   have h2:=hI.2.1
   simp only [List.length_cons] at h2
   rw [Qbp (by omega) (by omega),ih _ ⟨by omega,by omega,λy hy=>hI.2.2 y (by simp [hy])⟩]
   simp only [List.map_cons,Qpq]
   congr 1
   omega
 · intro n s i hd _
   simp only [Qhb.eq_2]
   unfold Qnm
   simp only [hd,cond_false]
   simp
end Go.Proofs.YtpcmapfabndggaaGreat
