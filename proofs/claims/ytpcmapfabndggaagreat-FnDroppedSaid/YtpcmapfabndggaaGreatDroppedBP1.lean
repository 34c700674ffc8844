import Derived.Test.YtpcmapfabndggaaGreatDroppedBD
import Derived.Test.YtpcmapfabndggaaGreatM3
set_option linter.unusedSimpArgs false
set_option linter.unusedVariables false
/- The first layers of spec and of impl: bounds, table, names, fitting, the reason, the units. Each is the plain function of M0. -/
namespace Go.Proofs.YtpcmapfabndggaaGreat
open Go
open Enc (rd ow)
open Arg (argv)
open Ret (retv)
open Wf (wf)
structure Sm (fu:Nat) (r:Request):Prop where
 fu:2097153 ≤ fu
 pairs:r.fL.length ≤ 1048576
 types:r.fT.length ≤ 1048576
 items:r.fG.length ≤ 1048576
theorem Q1m (fu:Nat) (n lo hi:Int):Qar fu n lo hi = some (inb n lo hi):=by
 unfold Qar inb
 by_cases h:lo ≤ n
 · simp [h]
 · simp [h]
theorem Q43 (fu:Nat) (n lo hi:Int):Qcd fu n lo hi = some (inb n lo hi):=Q1m fu n lo hi
theorem Q80 (fu:Nat) (n:Int):Qd9 fu n = some (inb n 1 2000):=by unfold Qd9; rw [Q1m]; rfl
theorem Jhh (fu:Nat) (n:Int):Qon fu n = some (inb n 0 999):=by unfold Qon; rw [Q1m]; rfl
theorem Q6m (fu:Nat) (n:Int):Qcv fu n = some (inb n 1 2000):=by unfold Qcv; rw [Q43]; rfl
theorem Jbc (fu:Nat) (p:Pallet):Qg3 fu p = some (Qz7 p):=by
 unfold Qg3 Qz7
 simp only [Q80,Q1m,Qab]
 cases inb p.fW 1 2000 <;> cases inb p.fD 1 2000 <;> cases inb p.fH 1 2000 <;> rfl
theorem Jhp (fu:Nat) (p:Pallet):Qoi fu p = some (Qz7 p):=by
 unfold Qoi Qz7
 simp only [Q6m,Q43,Qab]
 cases inb p.fW 1 2000 <;> cases inb p.fD 1 2000 <;> cases inb p.fH 1 2000 <;> rfl
theorem Jif (fu:Nat) (t:Typ):Qrx fu t = some (Q14 t):=by
 unfold Qrx Q14
 simp only [Q80,Q1m,Jhh,Qab]
 cases inb t.f8 0 999 <;> cases inb t.fW 1 2000 <;> cases inb t.fH 1 2000 <;> cases inb t.fD 1 2000 <;> cases inb t.f7 0 100000 <;> cases inb t.fV 1 100000 <;> rfl
theorem Jh6 (fu:Nat) (t:Typ):Qr3 fu t = some (Q14 t):=by
 unfold Qr3 Q14
 simp only [Q6m,Q43,Qab]
 cases inb t.f8 0 999 <;> cases inb t.fW 1 2000 <;> cases inb t.fH 1 2000 <;> cases inb t.fD 1 2000 <;> cases inb t.f7 0 100000 <;> cases inb t.fV 1 100000 <;> rfl
theorem Jhq (fu:Nat) (t:Item):Qrt fu t = some (Qxl t):=by
 unfold Qrt Qxl
 simp only [Q80,Q1m,Jhh,Qab]
 cases inb t.f8 0 999 <;> cases inb t.fW 1 2000 <;> cases inb t.fH 1 2000 <;> cases inb t.fD 1 2000 <;> cases inb t.fV 1 100000 <;> cases inb t.fF 0 3 <;> rfl
theorem Jjd (fu:Nat) (t:Item):Qrn fu t = some (Qxl t):=by
 unfold Qrn Qxl
 simp only [Q6m,Q43,Qab]
 cases inb t.f8 0 999 <;> cases inb t.fW 1 2000 <;> cases inb t.fH 1 2000 <;> cases inb t.fD 1 2000 <;> cases inb t.fV 1 100000 <;> cases inb t.fF 0 3 <;> rfl
def Jfk:List Item → Int → Option Bool
 | [],n=>some (decide (n ≤ 12))
 | x :: xs,n=>bif !Qxl x then some false else Jfk xs (w64 (n + x.f0))
theorem Q5a:∀ (l:List Item) (n:Int),0 ≤ n → n + 6 * l.length ≤ 4611686018427387904 → Jfk l n = some (l.all Qxl && decide (n + Qwr (l.map (·.f0)) ≤ 12))
 | [],n,_,_=>by simp [Jfk]
 | x :: xs,n,h0,h1=>by
  unfold Jfk
  cases hx:Qxl x
  · simp [hx]
  · have hc:=hx
    simp only [Qxl,Bool.and_eq_true,Qd3] at hc
    have hc:=hc.2.2.2.2.2.2
    simp only [List.length_cons] at h1
    rw [Qbp (by omega) (by omega)]
    simp only [Bool.not_true,cond_false]
    rw [Q5a xs (n + x.f0) (by omega) (by omega)]
    simp only [List.all_cons,hx,Bool.true_and,List.map_cons,Qqd,Int.add_assoc]
theorem Jik {fu:Nat} {r:Request} (h:Sm fu r):Qob fu r = some (Q3y r):=by
 have hfu:=h.fu
 have h7:r.fG.length ≤ 8 → Qdr fu r fu 0 0 = some (r.fG.all Qxl && decide (Qwr (r.fG.map (·.f0)) ≤ 12)):=by
  intro h8
  rw [lp r.fG (λn s i=>Qdr fu r n s i) Jfk (by have:=h.items; omega) ?_ ?_ fu 0 (by have:=h.items; omega),Q5a _ _ (by omega) (by have:=h.items; omega)]
  · simp
  · intro n s i x xs hx hd ih
    simp only [Qdr.eq_2]
    unfold Qji
    simp only [hd,cond_true,hx,Qab,Jhq,ih]
    rfl
  · intro n s i hd
    simp only [Qdr.eq_2]
    unfold Qji
    simp only [hd,cond_false]
    rfl
 have h6:∀ b:Bool,(Qdr fu r fu 0 0 = some b) → Qdn fu r fu 0 = some (r.fT.all Q14 && b):=by
  intro b hb
  refine lp r.fT (λn (_:Unit) i=>Qdn fu r n i) (λl _=>some (l.all Q14 && b)) (by have:=h.types; omega) ?_ ?_ fu () (by have:=h.types; omega)
  · intro n s i x xs hx hd ih
    simp only [Qdn.eq_2]
    unfold Qjc
    simp only [hd,cond_true,hx,Qab,Jif,ih (),List.all_cons]
    cases Q14 x <;> rfl
  · intro n s i hd
    simp only [Qdn.eq_2]
    unfold Qjc
    simp only [hd,cond_false,hb]
    rfl
 have h4:∀ b:Bool,(Qdn fu r fu 0 = some b) → Qdt fu r fu 0 = some (r.fL.all prB && b):=by
  intro b hb
  refine lp r.fL (λn (_:Unit) i=>Qdt fu r n i) (λl _=>some (l.all prB && b)) (by have:=h.pairs; omega) ?_ ?_ fu () (by have:=h.pairs; omega)
  · intro n s i x xs hx hd ih
    simp only [Qdt.eq_2]
    unfold Qjy Qm9
    simp only [hd,cond_true,hx,Qab,Q1m,ih ()]
    simp only [List.all_cons,prB]
    cases inb x.fA 0 3 <;> cases inb x.fB 0 3 <;> rfl
  · intro n s i hd
    simp only [Qdt.eq_2]
    unfold Qjy
    simp only [hd,cond_false,hb]
    rfl
 unfold Qob Qnl Q3y
 simp only [Q1m,Jhh,Jbc,Qab]
 by_cases h8:r.fG.length ≤ 8
 · rw [h4 _ (h6 _ (h7 h8))]
   have e8:decide ((r.fG.length:Int) > 8) = false:=by simp; omega
   rw [e8]
   by_cases hp:r.fL.length ≤ 16
   · have e16:decide ((r.fL.length:Int) > 16) = false:=by simp; omega
     rw [e16]
     simp only [hp,h8,decide_true,cond_false,Bool.and_true]
     cases inb r.qQ 0 1 <;> cases Qz7 r.fJ <;> cases inb r.fR 1 4 <;> cases inb (r.fT.length:Int) 1 5 <;> cases inb r.fP 0 999 <;> simp <;> cases r.fL.all prB <;> cases r.fT.all Q14 <;> rfl
   · have e16:decide ((r.fL.length:Int) > 16) = true:=by simp; omega
     rw [e16]
     simp only [hp,decide_false,cond_true]
     cases inb r.qQ 0 1 <;> cases Qz7 r.fJ <;> cases inb r.fR 1 4 <;> simp
 · have e8:decide ((r.fG.length:Int) > 8) = true:=by simp; omega
   rw [e8]
   simp only [h8,decide_false,cond_true,Bool.and_false,Bool.false_and]
   cases inb r.qQ 0 1 <;> cases Qz7 r.fJ <;> cases inb r.fR 1 4 <;> simp
def Qxn {α:Type} (g:α → Bool):List α → Int → Int
 | [],_=>-1
 | x :: xs,i=>bif g x then i else Qxn g xs (i + 1)
theorem Qto {α:Type} (g:α → Bool):∀ (l:List α) (i:Int),0 ≤ i → decide (Qxn g l i ≥ 0) = l.any g
 | [],i,_=>rfl
 | x :: xs,i,h=>by
  simp only [Qxn,List.any_cons]
  by_cases hx:g x = true
  · simpa [hx] using h
  · simpa [hx] using Qto g xs (i + 1) (by omega)
theorem Q35 {α:Type} (g:α → Bool):∀ (l pre:List α) ,(Qxn g l pre.length < 0 ∧ l.find? g = none) ∨ (0 ≤ Qxn g l pre.length ∧ ∃ x,l.find? g = some x ∧ ix (pre ++ l) (Qxn g l pre.length) = some x)
 | [],pre=>.inl ⟨by simp [Qxn],rfl⟩
 | x :: xs,pre=>by
  simp only [Qxn]
  cases hx:g x
  · have:=Q35 g xs (pre ++ [x])
    simp only [List.length_append,List.length_singleton,List.append_assoc,List.singleton_append] at this
    simpa [List.find?_cons,hx] using this
  · refine .inr ⟨by simp,x,by simp [hx],?_⟩
    rw [cond_true,Qq5]
    simp
theorem Qtb {α:Type} (l:List α) (L:Nat → Int → Option Int) (g:α → Bool) (hl:l.length ≤ 1099511627776)
    (hs:∀ n (i:Int) x,ix l i = some x → decide (i < (l.length:Int)) = true → L (n + 1) i = bif g x then some i else L n (w64 (i + 1)))
    (he:∀ n (i:Int),decide (i < (l.length:Int)) = false → L (n + 1) i = some (-1)) (n:Nat) (hn:l.length < n):L n 0 = some (Qxn g l 0):=by
 have key:∀ (m i n:Nat),l.length - i = m → i ≤ l.length → m < n → L n (i:Int) = some (Qxn g (l.drop i) i):=by
  intro m
  induction m with
  | zero =>
   intro i n hm hi hn
   obtain ⟨n,rfl⟩:∃ k,n = k + 1:=⟨n - 1,by omega⟩
   rw [List.drop_of_length_le (by omega),he n i (by simp; omega)]
   rfl
  | succ m ih =>
   intro i n hm hi hn
   obtain ⟨n,rfl⟩:∃ k,n = k + 1:=⟨n - 1,by omega⟩
   have hlt:i < l.length:=by omega
   rw [hs n i _ (Qxs hlt) (by simpa using hlt),List.drop_eq_getElem_cons hlt]
   simp only [Qxn]
   cases g l[i]
   · rw [cond_false,cond_false,Qye i (by omega)]
     have:=ih (i + 1) n (by omega) (by omega) (by omega)
     simpa using this
   · rfl
 simpa using key l.length 0 n (by omega) (by omega) hn
theorem Q6f {fu:Nat} {l:List Typ} (f:Typ → Option Bool) (g:Typ → Bool) (hg:∀ x ∈ l,f x = some (g x)) (hl:l.length ≤ 1048576) (hf:l.length < fu):Qbg fu l f = some (Qxn g l 0):=by
 unfold Qbg
 refine Qtb l (λn i=>Qa5 fu l f n i) g (by omega) ?_ ?_ fu hf
 · intro n i x hx hd
   simp only [Qa5.eq_2]
   unfold Qb2
   simp only [hd,cond_true,hx,Qab,hg x (Qd5 hx)]
 · intro n i hd
   simp only [Qa5.eq_2]
   unfold Qb2
   simp only [hd,cond_false]
theorem Q1x {fu:Nat} {l:List Typ} (f:Typ → Option Bool) (g:Typ → Bool) (hg:∀ x ∈ l,f x = some (g x)) (hl:l.length ≤ 1048576) (hf:l.length < fu):Qax fu l f = some (l.any g):=by
 unfold Qax
 rw [Q6f f g hg hl hf,Qab,Qto g l 0 (by omega)]
theorem Q96 {fu:Nat} {l:List Pair} (f:Pair → Option Bool) (g:Pair → Bool) (hg:∀ x ∈ l,f x = some (g x)) (hl:l.length ≤ 1048576) (hf:l.length < fu):Qbx fu l f = some (Qxn g l 0):=by
 unfold Qbx
 refine Qtb l (λn i=>Qa6 fu l f n i) g (by omega) ?_ ?_ fu hf
 · intro n i x hx hd
   simp only [Qa6.eq_2]
   unfold Qb4
   simp only [hd,cond_true,hx,Qab,hg x (Qd5 hx)]
 · intro n i hd
   simp only [Qa6.eq_2]
   unfold Qb4
   simp only [hd,cond_false]
theorem Q3q {fu:Nat} {l:List Pair} (f:Pair → Option Bool) (g:Pair → Bool) (hg:∀ x ∈ l,f x = some (g x)) (hl:l.length ≤ 1048576) (hf:l.length < fu):Qa3 fu l f = some (l.any g):=by
 unfold Qa3
 rw [Q96 f g hg hl hf,Qab,Qto g l 0 (by omega)]
theorem Q9m {fu:Nat} {l:List Item} (f:Item → Option Bool) (g:Item → Bool) (hg:∀ x ∈ l,f x = some (g x)) (hl:l.length ≤ 1048576) (hf:l.length < fu):Qby fu l f = some (Qxn g l 0):=by
 unfold Qby
 refine Qtb l (λn i=>Qa4 fu l f n i) g (by omega) ?_ ?_ fu hf
 · intro n i x hx hd
   simp only [Qa4.eq_2]
   unfold Qb5
   simp only [hd,cond_true,hx,Qab,hg x (Qd5 hx)]
 · intro n i hd
   simp only [Qa4.eq_2]
   unfold Qb5
   simp only [hd,cond_false]
theorem Qwk {fu:Nat} {l:List Item} (f:Item → Option Bool) (g:Item → Bool) (hg:∀ x ∈ l,f x = some (g x)) (hl:l.length ≤ 1048576) (hf:l.length < fu):Qay fu l f = some (l.any g):=by
 unfold Qay
 rw [Q9m f g hg hl hf,Qab,Qto g l 0 (by omega)]
theorem Jht {fu:Nat} {r:Request} (h:Sm fu r):Qod fu r = some (Q3y r):=by
 have hfu:=h.fu
 have h1:=h.items
 have h2:=h.types
 have h3:=h.pairs
 have e3:Qen fu r fu 0 0 = some (r.fG.all Qxl && decide (Qwr (r.fG.map (·.f0)) ≤ 12)):=by
  rw [lp r.fG (λn s i=>Qen fu r n s i) Jfk (by omega) ?_ ?_ fu 0 (by omega),Q5a _ _ (by omega) (by omega)]
  · simp
  · intro n s i x xs hx hd ih
    simp only [Qen.eq_2]
    unfold Qj0
    simp only [hd,cond_true,hx,Qab,Jjd,ih]
    rfl
  · intro n s i hd
    simp only [Qen.eq_2]
    unfold Qj0
    simp only [hd,cond_false]
    rfl
 have ep:Qa3 fu r.fL (λy34=>Qj2 fu y34) = some (!(r.fL.all prB)):=by
  rw [Q3q _ (λp=>!prB p) (λp _=>by
   unfold Qj2 prB
   simp only [Q43,Qab]
   cases inb p.fA 0 3 <;> rfl) h3 (by omega)]
  simp [List.not_all_eq_any_not]
 have et:Qax fu r.fT (λy34=>Qkq fu y34) = some (!(r.fT.all Q14)):=by
  rw [Q1x _ (λp=>!Q14 p) (λp _=>by
   unfold Qkq
   rw [Jh6]; rfl) h2 (by omega)]
  simp [List.not_all_eq_any_not]
 unfold Qod Qnd Qn1 Q3y
 rw [e3,ep,et]
 simp only [Q43,Jhp,Qab]
 have e8:decide ((r.fG.length:Int) > 8) = !decide (r.fG.length ≤ 8):=by
  by_cases hh:r.fG.length ≤ 8
  · have:¬ ((r.fG.length:Int) > 8):=by omega
    simp [hh,this]
  · have:(r.fG.length:Int) > 8:=by omega
    simp [hh,this]
 have e16:decide ((r.fL.length:Int) > 16) = !decide (r.fL.length ≤ 16):=by
  by_cases hh:r.fL.length ≤ 16
  · have:¬ ((r.fL.length:Int) > 16):=by omega
    simp [hh,this]
  · have:(r.fL.length:Int) > 16:=by omega
    simp [hh,this]
 rw [e8,e16]
 cases inb r.qQ 0 1 <;> cases Qz7 r.fJ <;> cases inb r.fR 1 4 <;> cases decide (r.fL.length ≤ 16) <;> cases r.fL.all prB <;> cases inb (r.fT.length:Int) 1 5 <;> cases r.fT.all Q14 <;> cases inb r.fP 0 999 <;> cases decide (r.fG.length ≤ 8) <;> rfl
end Go.Proofs.YtpcmapfabndggaaGreat
/- Within, Overlap, Pallets: by spec and by impl. -/
namespace Go.Proofs.YtpcmapfabndggaaGreat
open Go
open Enc (rd ow)
open Arg (argv)
open Ret (retv)
open Wf (wf)
def Q4e (b:Box) (s:Spot):Bool:=inb b.fW 0 2000 && (inb b.fD 0 2000 && (inb b.fH 0 2000 && (inb s.fX 0 2000 && (inb s.fY 0 2000 && inb s.fZ 0 2000))))
def Jcc (p:Pallet) (b:Box) (s:Spot):Bool :=
 Q4e b s && (decide (b.fW > 0) && (decide (b.fD > 0) && (decide (b.fH > 0) && (decide (w64 (s.fX + b.fW) ≤ p.fW) && (decide (w64 (s.fY + b.fD) ≤ p.fD) && decide (w64 (s.fZ + b.fH) ≤ p.fH))))))
def Q7r (a la b lb:Int):Bool:=decide (a < w64 (b + lb)) && decide (b < w64 (a + la))
def Q7f (a:Box) (s:Spot) (b:Box) (t:Spot):Bool :=
 Q4e a s && (Q4e b t && (s.fJ == t.fJ && (Q7r s.fX a.fW t.fX b.fW && (Q7r s.fY a.fD t.fY b.fD && Q7r s.fZ a.fH t.fZ b.fH))))
theorem Q44 (fu:Nat) (n:Int):Qb8 fu n = some (inb n 0 2000):=by unfold Qb8; rw [Q43]; rfl
theorem Jgl (fu:Nat) (b:Box) (s:Spot):Qh4 fu b s = some (Q4e b s):=by
 unfold Qh4 Q4e
 simp only [Q1m,Qab]
 cases inb b.fW 0 2000 <;> cases inb b.fD 0 2000 <;> cases inb b.fH 0 2000 <;> cases inb s.fX 0 2000 <;> cases inb s.fY 0 2000 <;> cases inb s.fZ 0 2000 <;> rfl
theorem Jio (fu:Nat) (b:Box) (s:Spot):Qo3 fu b s = some (Q4e b s):=by
 unfold Qo3 Q4e
 simp only [Q44,Qab]
 cases inb b.fW 0 2000 <;> cases inb b.fD 0 2000 <;> cases inb b.fH 0 2000 <;> cases inb s.fX 0 2000 <;> cases inb s.fY 0 2000 <;> cases inb s.fZ 0 2000 <;> rfl
theorem Jjf (fu:Nat) (p:Pallet) (b:Box) (s:Spot):Qry fu p b s = some (Jcc p b s):=by
 unfold Qry Jcc
 simp only [Jgl,Qab]
 cases Q4e b s <;> cases decide (b.fW > 0) <;> cases decide (b.fD > 0) <;> cases decide (b.fH > 0) <;> cases decide (w64 (s.fX + b.fW) ≤ p.fW) <;> cases decide (w64 (s.fY + b.fD) ≤ p.fD) <;> rfl
theorem Ja7 (n:Int):inb n 1 2000 = (inb n 0 2000 && decide (n > 0)):=by
 apply Bool.eq_iff_iff.2
 simp only [Qd3,Bool.and_eq_true,decide_eq_true_eq]
 omega
theorem Ji3 (fu:Nat) (p:Pallet) (b:Box) (s:Spot):Qrq fu p b s = some (Jcc p b s):=by
 unfold Qrq Qqp Jcc Q4e
 simp only [Q44,Q6m,Qab,Ja7]
 cases inb b.fW 0 2000 <;> cases inb b.fD 0 2000 <;> cases inb b.fH 0 2000 <;> cases inb s.fX 0 2000 <;> cases inb s.fY 0 2000 <;> cases inb s.fZ 0 2000 <;> simp
 all_goals cases decide (0 < b.fW) <;> cases decide (0 < b.fD) <;> cases decide (0 < b.fH) <;> simp
 all_goals cases decide (w64 (s.fX + b.fW) ≤ p.fW) <;> cases decide (w64 (s.fY + b.fD) ≤ p.fD) <;> simp
theorem Jfw (fu:Nat) (a la b lb:Int):Qh9 fu a la b lb = some (Q7r a la b lb):=by
 unfold Qh9 Q7r
 cases decide (a < w64 (b + lb)) <;> rfl
theorem Jis (fu:Nat) (a la b lb:Int):Qq6 fu a la b lb = some (Q7r a la b lb):=Jfw fu a la b lb
theorem Jgy (fu:Nat) (a:Box) (s:Spot) (b:Box) (t:Spot):Qm0 fu a s b t = some (Q7f a s b t):=by
 unfold Qm0 Q7f
 simp only [Jgl,Jfw,Qab]
 cases Q4e a s <;> cases Q4e b t <;> cases s.fJ == t.fJ <;> cases Q7r s.fX a.fW t.fX b.fW <;> cases Q7r s.fY a.fD t.fY b.fD <;> rfl
theorem Jgm (fu:Nat) (a:Box) (s:Spot) (b:Box) (t:Spot):Qi9 fu a s b t = some (Q7f a s b t):=by
 unfold Qi9 Qo5 Q7f
 simp only [Jio,Jis,Qab,bne]
 cases Q4e a s <;> cases Q4e b t <;> cases s.fJ == t.fJ <;> cases Q7r s.fX a.fW t.fX b.fW <;> cases Q7r s.fY a.fD t.fY b.fD <;> rfl
def Q49 (n:Int) (s:Spot):Int:=bif inb s.fJ 0 999999 then (if s.fJ + 1 > n then s.fJ + 1 else n) else n
def Qx0 (l:List Spot):Int:=l.foldl Q49 0
theorem Je2 {n:Int} (s:Spot) (h:0 ≤ n ∧ n ≤ 1000000):0 ≤ Q49 n s ∧ Q49 n s ≤ 1000000:=by
 unfold Q49
 cases hi:inb s.fJ 0 999999
 · exact h
 · have:=Qd3.1 hi
   simp only [cond_true]
   split <;> omega
theorem Q9r:∀ (l:List Spot) {n:Int},0 ≤ n ∧ n ≤ 1000000 → 0 ≤ l.foldl Q49 n ∧ l.foldl Q49 n ≤ 1000000
 | [],_,h=>h
 | s :: l,_,h=>Q9r l (Je2 s h)
theorem Q48 (l:List Spot):0 ≤ Qx0 l ∧ Qx0 l ≤ 1000000:=Q9r l (by omega)
theorem Jg3 {fu:Nat} {l:List Spot} (hl:l.length ≤ 1048576) (hf:l.length < fu):Qpv fu l = some (Qx0 l):=by
 unfold Qpv
 have key:=lp l (λn (s:Int) i=>Qe8 fu l n s i) (λl s=>some (l.foldl Q49 s)) (by omega) ?_ ?_ fu 0 hf
 · exact key
 · intro n s i x xs hx hd ih
   simp only [Qe8.eq_2]
   unfold Qmh Qkk
   simp only [hd,cond_true,hx,Qab,Q43,ih,List.foldl_cons]
   unfold Q49
   cases hi:inb x.fJ 0 999999
   · rfl
   · have:=Qd3.1 hi
     simp only [cond_true]
     rw [Qbp (by omega) (by omega)]
 · intro n s i hd
   simp only [Qe8.eq_2]
   unfold Qmh
   simp only [hd,cond_false]
   rfl
theorem Jcg (fu:Nat) (a b:Int):Qky fu a b = some (if a > b then a else b):=by
 unfold Qky
 by_cases h:a > b
 · simp [h]
 · simp [h]
theorem Jcp {fu:Nat} {l:List Spot} (hl:l.length ≤ 1048576) (hf:l.length < fu):Qm1 fu l = some (Qx0 l):=by
 unfold Qm1
 have key:=lp l (λn (s:Int) i=>Qff fu l n s i) (λl s=>some (l.foldl Q49 s)) (by omega) ?_ ?_ fu 0 hf
 · exact key
 · intro n s i x xs hx hd ih
   simp only [Qff.eq_2]
   unfold Ql2 Qj4
   simp only [hd,cond_true,hx,Qab,Q1m,Jcg,ih,List.foldl_cons]
   unfold Q49
   cases hi:inb x.fJ 0 999999
   · rfl
   · have:=Qd3.1 hi
     simp only [cond_true]
     rw [Qbp (by omega) (by omega)]
     congr 2
     split <;> split <;> omega
 · intro n s i hd
   simp only [Qff.eq_2]
   unfold Ql2
   simp only [hd,cond_false]
   rfl
end Go.Proofs.YtpcmapfabndggaaGreat
/- Orders in the laws: their size, copies, equality. -/
namespace Go.Proofs.YtpcmapfabndggaaGreat
open Go
open Enc (rd ow)
open Arg (argv)
open Ret (retv)
open Wf (wf)
end Go.Proofs.YtpcmapfabndggaaGreat
/- What is marked: orders, lists of numbers, lists of lists. -/
namespace Go.Proofs.YtpcmapfabndggaaGreat
open Go
open Enc (rd ow)
open Arg (argv)
open Ret (retv)
open Wf (wf)
theorem Q6y {α:Type} (xs:List α) (n:Int) (y:α):ix (Qge xs n y) n = (ix xs n).map λ_=>y:=by
 unfold ix Qge
 split
 · by_cases h:n.toNat < xs.length
   · simp [h]
   · rw [List.getElem?_eq_none (by simp; omega),List.getElem?_eq_none (by omega)]; rfl
 · rfl
theorem Qt7 {α:Type} (xs:List α) (n:Int) (y:α):(Qge xs n y).length = xs.length:=by simp [Qge]
end Go.Proofs.YtpcmapfabndggaaGreat
/- Lists of cartons in the laws: their size, copies, equality, marks. -/
namespace Go.Proofs.YtpcmapfabndggaaGreat
open Go
open Enc (rd ow)
open Arg (argv)
open Ret (retv)
open Wf (wf)
def Q6z:List Carton → Nat
 | []=>0
 | x :: xs=>x.fM.length + Q6z xs
end Go.Proofs.YtpcmapfabndggaaGreat
/- Plans in the laws: their size, copies, equality, marks. -/
namespace Go.Proofs.YtpcmapfabndggaaGreat
open Go
open Enc (rd ow)
open Arg (argv)
open Ret (retv)
open Wf (wf)
structure Sp (x:Plan):Prop where
 cars:x.fQ.length ≤ 1048576
 units:∀ c ∈ x.fQ,c.fM.length ≤ 1048576
 all:Q6z x.fQ ≤ 1048576
 spots:x.fU.length ≤ 1048576
end Go.Proofs.YtpcmapfabndggaaGreat
/- spec's sorting by halves is the plain function of M1. -/
namespace Go.Proofs.YtpcmapfabndggaaGreat
open Go
open Enc (rd ow)
open Arg (argv)
open Ret (retv)
open Wf (wf)
theorem Q6j {fu:Nat} (n:Nat) (hn:n ≤ 1048576) (hf:n < fu):Qj5 fu (n:Int) = some (Qj3 0 n):=by
 unfold Qj5
 have key:∀ (m i k:Nat),n - i = m → i ≤ n → m < k → Qfj fu (n:Int) k (Qj3 0 i) (i:Int) = some (Qj3 0 n):=by
  intro m
  induction m with
  | zero =>
   intro i k hm hi hk
   obtain ⟨k,rfl⟩:∃ j,k = j + 1:=⟨k - 1,by omega⟩
   have:i = n:=by omega
   subst this
   rw [Qfj.eq_2]
   unfold Qjp
   simp
  | succ m ih =>
   intro i k hm hi hk
   obtain ⟨k,rfl⟩:∃ j,k = j + 1:=⟨k - 1,by omega⟩
   rw [Qfj.eq_2]
   unfold Qjp
   rw [Qco (by simp; omega),ap1 (by rw [Qer]; simp; omega),Qab,Qye i (by omega)]
   have e:=Jad 0 i
   rw [Int.zero_add] at e
   rw [← e]
   exact ih (i + 1) k (by omega) (by omega) (by omega)
 exact key n 0 fu (by omega) (by omega) hf
def dk (keys:List Int) (Qvh:Bool) (p:Int):Int:=bif Qvh then - kf keys p else kf keys p
theorem Q9n {keys:List Int} {p:Int} (h:0 ≤ p ∧ p < keys.length):ix keys p = some (kf keys p):=by
 have h1:p.toNat < keys.length:=by omega
 unfold kf ix
 rw [if_pos h.1,List.getElem?_eq_getElem h1]
 rfl
theorem Jh1 {fu:Nat} {keys a b:List Int} (Qvh:Bool) (ha:∀ p ∈ a,0 ≤ p ∧ p < keys.length) (hb:∀ p ∈ b,0 ≤ p ∧ p < keys.length) (hla:a.length ≤ 1048576) (hlb:b.length ≤ 1048576) :
    ∀ (m:Nat) (n:Nat) (out:List Int) (i j:Nat),i ≤ a.length → j ≤ b.length → (a.length - i) + (b.length - j) = m → m < n → out.length + m ≤ 2097152 →
     Qcl fu keys Qvh a b n out i j = some (out ++ mrg (dk keys Qvh) (a.drop i) (b.drop j)):=by
 intro m
 induction m with
 | zero =>
  intro n out i j hi hj hm hn ho
  obtain ⟨n,rfl⟩:∃ k,n = k + 1:=⟨n - 1,by omega⟩
  rw [Qcl.eq_2]
  unfold Ql9
  rw [Qbb (by simp; omega),Qbb (by simp; omega),List.drop_of_length_le (show a.length ≤ i by omega),List.drop_of_length_le (show b.length ≤ j by omega)]
  simp [mrg]
 | succ m ih =>
  intro n out i j hi hj hm hn ho
  obtain ⟨n,rfl⟩:∃ k,n = k + 1:=⟨n - 1,by omega⟩
  have hL:Qcl fu keys Qvh a b (n + 1) out i j = Qhw fu (Qcl fu keys Qvh a b n) keys Qvh a b out i j:=by
   rw [Qcl.eq_2]
   unfold Ql9
   by_cases h:i < a.length
   · rw [Qco (by simpa using h)]
   · rw [Qbb (by simpa using h),Qco (by simp; omega)]
  have tA:∀ (h:i < a.length),(Qhx 8 out [a[i]]) = some (out ++ [a[i]]):=λh=>ap1 (by simp; omega)
  have tB:∀ (h:j < b.length),(Qhx 8 out [b[j]]) = some (out ++ [b[j]]):=λh=>ap1 (by simp; omega)
  have nA:∀ (h:i < a.length),Qcl fu keys Qvh a b n (out ++ [a[i]]) (w64 ((i:Int) + 1)) j = some (out ++ a[i] :: mrg (dk keys Qvh) (a.drop (i + 1)) (b.drop j)):=λh=>by
   rw [Qye i (by omega),ih n (out ++ [a[i]]) (i + 1) j (by omega) hj (by omega) (by omega) (by simp; omega)]
   simp
  have nB:∀ (h:j < b.length),Qcl fu keys Qvh a b n (out ++ [b[j]]) i (w64 ((j:Int) + 1)) = some (out ++ b[j] :: mrg (dk keys Qvh) (a.drop i) (b.drop (j + 1))):=λh=>by
   rw [Qye j (by omega),ih n (out ++ [b[j]]) i (j + 1) hi (by omega) (by omega) (by omega) (by simp; omega)]
   simp
  rw [hL]
  unfold Qhw
  by_cases hjb:j = b.length
  · have h:i < a.length:=by omega
    rw [Qco (by simp [hjb]),Qxs h,Qab,tA h,Qab,nA h,List.drop_of_length_le (show b.length ≤ j by omega),Jau,Jau,← List.drop_eq_getElem_cons h]
  · have hj':j < b.length:=by omega
    rw [Qbb (by simp; omega)]
    by_cases hia:i = a.length
    · rw [Qco (by simp [hia]),Qxs hj',Qab,tB hj',Qab,nB hj',List.drop_of_length_le (show a.length ≤ i by omega)]
      have e1:∀ l,mrg (dk keys Qvh) [] l = l:=λl=>by rw [mrg]
      rw [e1,e1,← List.drop_eq_getElem_cons hj']
    · have hi':i < a.length:=by omega
      rw [Qbb (by simp; omega)]
      simp only [Qxs hi',Qxs hj',Qab,Q9n (ha _ (List.getElem_mem hi')),Q9n (hb _ (List.getElem_mem hj')),tA hi',tB hj',nA hi',nB hj']
      rw [List.drop_eq_getElem_cons hi',List.drop_eq_getElem_cons hj',Qwd,← List.drop_eq_getElem_cons hi',← List.drop_eq_getElem_cons hj']
      have hx:dk keys Qvh a[i] = bif Qvh then - kf keys a[i] else kf keys a[i]:=rfl
      have hy:dk keys Qvh b[j] = bif Qvh then - kf keys b[j] else kf keys b[j]:=rfl
      rw [hx,hy]
      generalize kf keys a[i] = x
      generalize kf keys b[j] = y
      cases Qvh
      · by_cases hc:y < x
        · rw [if_pos (by simpa using hc)]; simp [hc]
        · rw [if_neg (by simpa using hc)]
          have:decide (y > x) = true ∨ decide (y > x) = false:=by cases decide (y > x) <;> simp
          rcases this with h | h <;> simp [hc,h]
      · by_cases hc:x < y
        · have h:¬ y < x:=by omega
          rw [if_pos (by simpa using hc)]; simp [hc,h]
        · rw [if_neg (by simpa using hc)]
          have h:decide (y < x) = true ∨ decide (y < x) = false:=by cases decide (y < x) <;> simp
          rcases h with h | h <;> simp [hc,h]
theorem Q5y {fu:Nat} {keys:List Int} (Qvh:Bool) (hfu:2097153 ≤ fu):∀ (n:Nat) (l:List Int),l.length ≤ n → l.length ≤ 1048576 → (∀ p ∈ l,0 ≤ p ∧ p < keys.length) →
    Qik fu (n + 1) keys l Qvh = some (msr (dk keys Qvh) (n + 1) l)
 | n,l,hn,hl,hm=>by
  rw [Qik.eq_2]
  unfold Qsi msr
  by_cases h2:l.length < 2
  · rw [Qco (by simp; omega),if_pos h2,ap1 (by simp; omega)]; rfl
  · rw [Qbb (by simp; omega),if_neg h2]
    have hd:Int.tdiv (l.length:Int) 2 = ((l.length / 2:Nat):Int):=by simp [Int.tdiv]
    obtain ⟨n,rfl⟩:∃ k,n = k + 1:=⟨n - 1,by omega⟩
    rw [hd,Qbp (by omega) (by omega),Qt8 (by omega),Qt8 (by omega),Qab]
    simp only [Int.toNat_natCast,Int.toNat_zero,List.drop_zero,Nat.sub_zero,Qab]
    rw [Q5y Qvh hfu n (l.take (l.length / 2)) (by rw [List.length_take]; omega) (by rw [List.length_take]; omega) (λp hp=>hm p (List.mem_of_mem_take hp)),Qab]
    have e:(l.drop (l.length / 2)).take (l.length - l.length / 2) = l.drop (l.length / 2):=List.take_of_length_le (by rw [List.length_drop]; omega)
    rw [e,Q5y Qvh hfu n (l.drop (l.length / 2)) (by rw [List.length_drop]; omega) (by rw [List.length_drop]; omega) (λp hp=>hm p (List.mem_of_mem_drop hp)),Qab]
    have hp1:=(Qs7 (dk keys Qvh) (n + 1) (l.take (l.length / 2)))
    have hp2:=(Qs7 (dk keys Qvh) (n + 1) (l.drop (l.length / 2)))
    have l1:=hp1.length_eq
    have l2:=hp2.length_eq
    rw [List.length_take] at l1
    rw [List.length_drop] at l2
    rw [show (0:Int) = ((0:Nat):Int) from rfl]
    rw [Jh1 Qvh (λp hp=>hm p (List.mem_of_mem_take (hp1.mem_iff.1 hp))) (λp hp=>hm p (List.mem_of_mem_drop (hp2.mem_iff.1 hp))) (by omega) (by omega) _ fu [] 0 0 (by omega) (by omega) rfl (by omega) (by simp; omega)]
    simp
theorem Jjx {fu:Nat} {keys:List Int} (hfu:2097153 ≤ fu) (hl:keys.length ≤ 1048576):Qpd fu keys = some (srt (kf keys) keys.length):=by
 unfold Qpd Qpp
 rw [Q6j keys.length hl (by omega),Qab]
 obtain ⟨m,rfl⟩:∃ m,fu = m + 1:=⟨fu - 1,by omega⟩
 rw [Q5y false hfu m _ (by rw [Qer]; omega) (by rw [Qer]; omega) (λp hp=>by have:=Qmb.1 hp; omega),Qab]
 congr 1
 have e:dk keys false = kf keys:=rfl
 rw [e]
 exact Q5n (Qs7 _ _ _) (Qt2 _ _ _ (by rw [Qer]; omega) (Qvk _ _))
end Go.Proofs.YtpcmapfabndggaaGreat
/- Names, table, fitting, the reason of spec and of impl. Each is the plain function of M0. -/
namespace Go.Proofs.YtpcmapfabndggaaGreat
open Go
open Enc (rd ow)
open Arg (argv)
open Ret (retv)
open Wf (wf)
theorem lpP {σ α β:Type} (l:List α) (L:Nat → σ → Int → Option β) (F:List α → List α → σ → Option β) (hl:l.length ≤ 1099511627776)
    (hs:∀ n s pre x xs,l = pre ++ x :: xs → ix l (pre.length:Int) = some x → decide ((pre.length:Int) < (l.length:Int)) = true → (∀ s',L n s' (w64 ((pre.length:Int) + 1)) = F (pre ++ [x]) xs s') → L (n + 1) s (pre.length:Int) = F pre (x :: xs) s)
    (he:∀ n s,decide ((l.length:Int) < (l.length:Int)) = false → L (n + 1) s (l.length:Int) = F l [] s):∀ n s,l.length < n → L n s 0 = F [] l s:=by
 have key:∀ (xs pre:List α) (n:Nat) (s:σ),l = pre ++ xs → xs.length < n → L n s (pre.length:Int) = F pre xs s:=by
  intro xs
  induction xs with
  | nil =>
   intro pre n s he' hn
   obtain ⟨n,rfl⟩:∃ k,n = k + 1:=⟨n - 1,by omega⟩
   simp only [List.append_nil] at he'
   subst he'
   exact he n s (by simp)
  | cons x xs ih =>
   intro pre n s he' hn
   obtain ⟨n,rfl⟩:∃ k,n = k + 1:=⟨n - 1,by simp at hn; omega⟩
   have hlen:l.length = pre.length + (xs.length + 1):=by rw [he']; simp
   refine hs n s pre x xs he' ?_ (by simp; omega) λs'=>?_
   · rw [Qq5,he']; simp
   · rw [Qye _ (by omega)]
     have:=ih (pre ++ [x]) n s' (by simp [he']) (by simp at hn; omega)
     simpa using this
 intro n s hn
 simpa using key l [] n s rfl hn
theorem Q6l {α:Type} {pre rest:List α} {i:Int} {y:α} (h:ix pre i = some y):ix (pre ++ rest) i = some y:=by
 obtain ⟨h0,h1,h2⟩:=Qas h
 unfold ix
 rw [if_pos h0,List.getElem?_append_left (by omega),h2]
theorem Ji5 (a b:Int):(a == b) = (b == a):=Bool.eq_iff_iff.2 (by simp only [beq_iff_eq]; exact ⟨Eq.symm,Eq.symm⟩)
theorem Qwg {fu:Nat} {r:Request} (h:Sm fu r) (id:Int):Qgy fu r id = some (Qxh (Qtn r id)):=by
 have hfu:=h.fu
 have ht:=h.types
 unfold Qgy Qtn
 rw [Q6f (λy24=>Qpg fu y24 id) (λt=>t.f8 == id) (λt _=>rfl) ht (by omega),Qab]
 rcases Q35 (λt:Typ=>t.f8 == id) r.fT [] with ⟨h1,h2⟩ | ⟨h1,x,h2,h3⟩
 · simp only [List.length_nil] at h1
   rw [Qco (by simpa using h1),h2]; rfl
 · simp only [List.length_nil,List.nil_append] at h1 h3
   rw [Qbb (by simpa using h1),h2]
   have h3':ix r.fT (Qxn (λt=>t.f8 == id) r.fT 0) = some x:=h3
   rw [h3']; rfl
theorem Jah {fu:Nat} {r:Request} (h:Sm fu r):Qfl fu r = some (Qxh (Qtn r r.fP)):=by
 have hfu:=h.fu
 have ht:=h.types
 unfold Qfl Qtn
 refine lp r.fT (λn (_:Unit) i=>Qfr fu r n i) (λl _=>some (Qxh (l.find? λt=>t.f8 == r.fP))) (by omega) ?_ ?_ fu () (by omega)
 · intro n s i x xs hx hd ih
   simp only [Qfr.eq_2]
   unfold Qju
   simp only [hd,cond_true,hx,Qab,ih (),List.find?_cons]
   cases x.f8 == r.fP <;> rfl
 · intro n s i hd
   simp only [Qfr.eq_2]
   unfold Qju
   simp only [hd,cond_false]
   rfl
theorem Jgi {fu:Nat} {r:Request} (h:Sm fu r):Qka fu r = some (Qxh (Qtn r r.fP)):=by
 unfold Qka
 rw [Qwg h]; rfl
theorem Q1f (o:Option Typ):(Qxh o).2 = o.isSome:=by cases o <;> rfl
theorem Jja {fu:Nat} {r:Request} (h:Sm fu r):Qp4 fu r = some (Q7n r):=by
 have hfu:=h.fu
 have h1:=h.items
 have h2:=h.types
 have h3:=h.pairs
 have e11:Qdd fu r fu 0 = some (!(r.fL.any λp=>decide (p.fA ≥ r.fR) || decide (p.fB ≥ r.fR)) && (Qtn r r.fP).isSome):=by
  refine lp r.fL (λn (_:Unit) i=>Qdd fu r n i) (λl _=>some (!(l.any λp=>decide (p.fA ≥ r.fR) || decide (p.fB ≥ r.fR)) && (Qtn r r.fP).isSome)) (by omega) ?_ ?_ fu () (by omega)
  · intro n s i x xs hx hd ih
    simp only [Qdd.eq_2]
    unfold Qmg Qpi
    simp only [hd,cond_true,hx,Qab,ih (),List.any_cons]
    cases decide (x.fA ≥ r.fR) <;> cases decide (x.fB ≥ r.fR) <;> rfl
  · intro n s i hd
    simp only [Qdd.eq_2]
    unfold Qmg
    simp only [hd,cond_false,Jah h,Qab,Q1f]
    rfl
 have e7:∀ b,Qdd fu r fu 0 = some b → Qbk fu r fu 0 = some (Ja2 r.fR [] r.fG && b):=by
  intro b hb
  refine lpP r.fG (λn (_:Unit) i=>Qbk fu r n i) (λpre l _=>some (Ja2 r.fR pre l && b)) (by omega) ?_ ?_ fu () (by omega)
  · intro n s pre x xs hl hx hd ih
    simp only [Qbk.eq_2]
    unfold Qlw
    simp only [hd,cond_true,hx,Qab,Ja2]
    cases hc:decide (x.fF ≥ r.fR)
    · have hpl:pre.length ≤ r.fG.length:=by rw [hl]; simp
      have e8:Qec fu (λi=>Qbk fu r n i) r (pre.length:Int) fu 0 = bif pre.any (λy=>y.f8 == x.f8) then some false else Qbk fu r n (w64 ((pre.length:Int) + 1)):=by
       refine lp pre (λm (_:Unit) i=>Qec fu (λi=>Qbk fu r n i) r (pre.length:Int) m i) (λl _=>bif l.any (λy=>y.f8 == x.f8) then some false else Qbk fu r n (w64 ((pre.length:Int) + 1))) (by omega) ?_ ?_ fu () (by omega)
       · intro m s i y ys hy hd ih
         simp only [Qec.eq_2]
         unfold Qlp
         have hy':ix r.fG i = some y:=by rw [hl]; exact Q6l hy
         simp only [hd,cond_true,hx,hy',Qab,ih (),List.any_cons]
         rw [Ji5 x.f8 y.f8]
         cases y.f8 == x.f8 <;> rfl
       · intro m s i hd
         simp only [Qec.eq_2]
         unfold Qlp
         simp only [hd,cond_false]
         rfl
      have e8':Qec fu (Qbk fu r n) r (pre.length:Int) fu 0 = bif pre.any (λy=>y.f8 == x.f8) then some false else Qbk fu r n (w64 ((pre.length:Int) + 1)):=e8
      rw [cond_false,e8',ih ()]
      cases pre.any (λy=>y.f8 == x.f8) <;> rfl
    · rfl
  · intro n s hd
    simp only [Qbk.eq_2]
    unfold Qlw
    simp only [hd,cond_false,hb]
    rfl
 have e3:∀ b,Qbk fu r fu 0 = some b → Qbr fu r fu 0 = some (Q7g Typ.f8 [] r.fT && b):=by
  intro b hb
  refine lpP r.fT (λn (_:Unit) i=>Qbr fu r n i) (λpre l _=>some (Q7g Typ.f8 pre l && b)) (by omega) ?_ ?_ fu () (by omega)
  · intro n s pre x xs hl hx hd ih
    simp only [Qbr.eq_2]
    unfold Qkz
    simp only [hd,cond_true,Q7g]
    have hpl:pre.length ≤ r.fT.length:=by rw [hl]; simp
    have e8:Qd6 fu (λi=>Qbr fu r n i) r (pre.length:Int) fu 0 = bif pre.any (λy=>y.f8 == x.f8) then some false else Qbr fu r n (w64 ((pre.length:Int) + 1)):=by
     refine lp pre (λm (_:Unit) i=>Qd6 fu (λi=>Qbr fu r n i) r (pre.length:Int) m i) (λl _=>bif l.any (λy=>y.f8 == x.f8) then some false else Qbr fu r n (w64 ((pre.length:Int) + 1))) (by omega) ?_ ?_ fu () (by omega)
     · intro m s i y ys hy hd ih
       simp only [Qd6.eq_2]
       unfold Qlv
       have hy':ix r.fT i = some y:=by rw [hl]; exact Q6l hy
       simp only [hd,cond_true,hx,hy',Qab,ih (),List.any_cons]
       rw [Ji5 x.f8 y.f8]
       cases y.f8 == x.f8 <;> rfl
     · intro m s i hd
       simp only [Qd6.eq_2]
       unfold Qlv
       simp only [hd,cond_false]
       rfl
    have e8':Qd6 fu (Qbr fu r n) r (pre.length:Int) fu 0 = bif pre.any (λy=>y.f8 == x.f8) then some false else Qbr fu r n (w64 ((pre.length:Int) + 1)):=e8
    rw [e8',ih ()]
    cases pre.any (λy=>y.f8 == x.f8) <;> rfl
  · intro n s hd
    simp only [Qbr.eq_2]
    unfold Qkz
    simp only [hd,cond_false,hb]
    rfl
 unfold Qp4 Q7n
 rw [e3 _ (e7 _ e11)]
 congr 1
 cases Q7g Typ.f8 [] r.fT <;> cases Ja2 r.fR [] r.fG <;> cases (Qtn r r.fP).isSome <;> cases r.fL.any λp=>decide (p.fA ≥ r.fR) || decide (p.fB ≥ r.fR) <;> rfl
theorem Q7u {α:Type} {l pre xs:List α} {x:α} (h:l = pre ++ x :: xs):sls l 0 (pre.length:Int) = some pre:=by
 rw [Qt8 ⟨by omega,by omega,by rw [h]; simp; omega⟩]
 simp [h]
theorem Jix {fu:Nat} {r:Request} (h:Sm fu r):Qp5 fu r = some (Q7n r):=by
 have hfu:=h.fu
 have h1:=h.items
 have h2:=h.types
 have h3:=h.pairs
 have e4:Qdb fu r fu 0 = some (Ja2 r.fR [] r.fG && ((Qtn r r.fP).isSome && !(r.fL.any λp=>decide (p.fA ≥ r.fR) || decide (p.fB ≥ r.fR)))):=by
  refine lpP r.fG (λn (_:Unit) i=>Qdb fu r n i) (λpre l _=>some (Ja2 r.fR pre l && ((Qtn r r.fP).isSome && !(r.fL.any λp=>decide (p.fA ≥ r.fR) || decide (p.fB ≥ r.fR))))) (by omega) ?_ ?_ fu () (by omega)
  · intro n s pre x xs hl hx hd ih
    simp only [Qdb.eq_2]
    unfold Qli Qpf
    have hpl:pre.length ≤ r.fG.length:=by rw [hl]; simp
    simp only [hd,cond_true,hx,Qab,Q7u hl,Qwk (λy=>Qqs fu y x) (λy=>y.f8 == x.f8) (λy _=>rfl) (show pre.length ≤ 1048576 by omega) (show pre.length < fu by omega),Ja2,ih ()]
    cases decide (x.fF ≥ r.fR) <;> cases pre.any (λy=>y.f8 == x.f8) <;> rfl
  · intro n s hd
    simp only [Qdb.eq_2]
    unfold Qli
    simp only [hd,cond_false,Jgi h,Qab,Q1f]
    rw [Q3q (λy=>Qmo fu y r) (λp=>decide (p.fA ≥ r.fR) || decide (p.fB ≥ r.fR)) (λp _=>by
     unfold Qmo
     cases decide (p.fA ≥ r.fR) <;> rfl) h3 (by omega),Qab]
    cases (Qtn r r.fP).isSome <;> rfl
 have e3:∀ b,Qdb fu r fu 0 = some b → Qfa fu r fu 0 = some (Q7g Typ.f8 [] r.fT && b):=by
  intro b hb
  refine lpP r.fT (λn (_:Unit) i=>Qfa fu r n i) (λpre l _=>some (Q7g Typ.f8 pre l && b)) (by omega) ?_ ?_ fu () (by omega)
  · intro n s pre x xs hl hx hd ih
    simp only [Qfa.eq_2]
    unfold Qlh
    have hpl:pre.length ≤ r.fT.length:=by rw [hl]; simp
    simp only [hd,cond_true,hx,Qab,Q7u hl,Q1x (λy=>Qqr fu y x) (λy=>y.f8 == x.f8) (λy _=>rfl) (show pre.length ≤ 1048576 by omega) (show pre.length < fu by omega),Q7g,ih ()]
    cases pre.any (λy=>y.f8 == x.f8) <;> rfl
  · intro n s hd
    simp only [Qfa.eq_2]
    unfold Qlh
    simp only [hd,cond_false,hb]
    rfl
 unfold Qp5 Q7n
 rw [e3 _ e4]
 congr 1
 cases Q7g Typ.f8 [] r.fT <;> cases Ja2 r.fR [] r.fG <;> cases (Qtn r r.fP).isSome <;> cases r.fL.any λp=>decide (p.fA ≥ r.fR) || decide (p.fB ≥ r.fR) <;> rfl
theorem Jgp {fu:Nat} {l:List Pair} (hl:l.length ≤ 1048576) (hf:l.length < fu) (a b:Int):Qfs fu l a b = some (Qty l a b):=by
 unfold Qfs Qty
 refine lp l (λn (_:Unit) i=>Qf1 fu l a b n i) (λl _=>some (l.any λp=>p.fA == a && p.fB == b)) (by omega) ?_ ?_ fu () hf
 · intro n s i x xs hx hd ih
   simp only [Qf1.eq_2]
   unfold Qn5 Qmq
   simp only [hd,cond_true,hx,Qab,ih (),List.any_cons]
   cases x.fA == a <;> cases x.fB == b <;> rfl
 · intro n s i hd
   simp only [Qf1.eq_2]
   unfold Qn5
   simp only [hd,cond_false]
   rfl
theorem Je7 {fu:Nat} {l:List Pair} (hl:l.length ≤ 1048576) (hf:l.length < fu) (a b:Int):Qhi fu l a b = some (Qty l a b):=by
 unfold Qhi Qcu Qc9 Qty
 have:=Qtb l (λn i=>Qbc fu l (⟨a,b⟩:Pair) n i) (λp=>p.fA == a && p.fB == b) (by omega) (by
  intro n i x hx hd
  simp only [Qbc.eq_2]
  unfold Qcn
  simp only [hd,cond_true,hx,Qab]
  have:decide ((⟨a,b⟩:Pair) = x) = (x.fA == a && x.fB == b):=by
   rcases x with ⟨c,d⟩
   apply Bool.eq_iff_iff.2
   simp only [decide_eq_true_eq,Pair.mk.injEq,Bool.and_eq_true,beq_iff_eq]
   exact ⟨λ⟨h1,h2⟩=>⟨h1.symm,h2.symm⟩,λ⟨h1,h2⟩=>⟨h1.symm,h2.symm⟩⟩
  rw [this]) (by
  intro n i hd
  simp only [Qbc.eq_2]
  unfold Qcn
  simp only [hd,cond_false]) fu hf
 rw [this,Qab,Qto _ l 0 (by omega),Qab]
theorem Ji1 {fu:Nat} {l:List Pair} (hl:l.length ≤ 1048576) (hf:l.length < fu) (h64:64 < fu) (c:Int):Qqb fu l c = some (Jb6 l c):=by
 unfold Qqb Jb6
 rw [Q43,Qab]
 cases hc:inb c 1 4
 · rfl
 rw [Qd3] at hc
 simp only [Bool.not_true,cond_false,Bool.true_and]
 have e4:∀ (k:Int → Option Bool) (a:Int),Qe7 fu k l c a fu 0 = bif (Qj3 0 c.toNat).all λb=>Qty l a b == Qty l b a then k (w64 (a + 1)) else some false:=by
  intro k a
  refine lpN c (λn (_:Unit) i=>Qe7 fu k l c a n i) (λxs _=>bif xs.all λb=>Qty l a b == Qty l b a then k (w64 (a + 1)) else some false) (by omega) ?_ ?_ c.toNat fu () 0 (by omega) (by omega) (by omega)
  · intro n s i xs h0 h1 hd ih
    simp only [Qe7.eq_2]
    unfold Qmd
    simp only [hd,cond_true,Je7 hl hf,Qab,ih (),List.all_cons]
    cases Qty l a i == Qty l i a <;> rfl
  · intro n s i hd
    simp only [Qe7.eq_2]
    unfold Qmd
    simp only [hd,cond_false]
    rfl
 refine lpN c (λn (_:Unit) i=>Qfc fu l c n i) (λxs _=>some (xs.all λa=>Qty l a a && (Qj3 0 c.toNat).all λb=>Qty l a b == Qty l b a)) (by omega) ?_ ?_ c.toNat fu () 0 (by omega) (by omega) (by omega)
 · intro n s i xs h0 h1 hd ih
   simp only [Qfc.eq_2]
   unfold Qme
   simp only [hd,cond_true,Je7 hl hf,Qab,e4,ih (),List.all_cons]
   cases Qty l i i <;> cases (Qj3 0 c.toNat).all λb=>Qty l i b == Qty l b i <;> rfl
 · intro n s i hd
   simp only [Qfc.eq_2]
   unfold Qme
   simp only [hd,cond_false]
   rfl
theorem Jij {fu:Nat} {l:List Pair} (hl:l.length ≤ 1048576) (hf:l.length < fu) (h64:64 < fu) (c:Int):Qpz fu l c = some (Jb6 l c):=by
 unfold Qpz Jb6
 rw [Q1m,Qab]
 cases hc:inb c 1 4
 · rfl
 rw [Qd3] at hc
 simp only [Bool.not_true,cond_false,Bool.true_and]
 have e4:∀ (k:Int → Option Bool) (a:Int),Qee fu k l c a fu 0 = bif (Qj3 0 c.toNat).all λb=>(!(a == b) || Qty l a a) && (Qty l a b == Qty l b a) then k (w64 (a + 1)) else some false:=by
  intro k a
  refine lpN c (λn (_:Unit) i=>Qee fu k l c a n i) (λxs _=>bif xs.all λb=>(!(a == b) || Qty l a a) && (Qty l a b == Qty l b a) then k (w64 (a + 1)) else some false) (by omega) ?_ ?_ c.toNat fu () 0 (by omega) (by omega) (by omega)
  · intro n s i xs h0 h1 hd ih
    simp only [Qee.eq_2]
    unfold Qlc Qko
    simp only [hd,cond_true,Jgp hl hf,Qab,ih (),List.all_cons]
    cases a == i <;> cases Qty l a a <;> cases Qty l a i == Qty l i a <;> rfl
  · intro n s i hd
    simp only [Qee.eq_2]
    unfold Qlc
    simp only [hd,cond_false]
    rfl
 have e9:Qdh fu l c fu 0 = some ((Qj3 0 c.toNat).all λa=>(Qj3 0 c.toNat).all λb=>(!(a == b) || Qty l a a) && (Qty l a b == Qty l b a)):=by
  refine lpN c (λn (_:Unit) i=>Qdh fu l c n i) (λxs _=>some (xs.all λa=>(Qj3 0 c.toNat).all λb=>(!(a == b) || Qty l a a) && (Qty l a b == Qty l b a))) (by omega) ?_ ?_ c.toNat fu () 0 (by omega) (by omega) (by omega)
  · intro n s i xs h0 h1 hd ih
    simp only [Qdh.eq_2]
    unfold Qk3
    simp only [hd,cond_true,e4,ih (),List.all_cons]
    cases (Qj3 0 c.toNat).all λb=>(!(i == b) || Qty l i i) && (Qty l i b == Qty l b i) <;> rfl
  · intro n s i hd
    simp only [Qdh.eq_2]
    unfold Qk3
    simp only [hd,cond_false]
    rfl
 rw [e9]
 congr 1
 apply Bool.eq_iff_iff.2
 simp only [List.all_eq_true,Bool.and_eq_true,Bool.or_eq_true,Bool.not_eq_true',beq_eq_false_iff_ne,beq_iff_eq]
 constructor
 · intro h a ha
   refine ⟨?_,λb hb=>(h a ha b hb).2⟩
   rcases (h a ha a ha).1 with h1 | h1
   · exact absurd rfl h1
   · exact h1
 · intro h a ha b hb
   exact ⟨.inr (h a ha).1,(h a ha).2 b hb⟩
theorem Jjz {l:List Int} (h:l.length = 3):∃ p q s,l = [p,q,s]:=by
 match l,h with
 | [p,q,s],_=>exact ⟨p,q,s,rfl⟩
theorem Jgn {fu:Nat} (hfu:2097153 ≤ fu) (a b c:Int):Qm3 fu a b c = some [(sid a b c).1,(sid a b c).2.1,(sid a b c).2.2]:=by
 unfold Qm3
 rw [Jjx hfu (by simp),Qab,show [a,b,c].length = 3 from rfl]
 have hp:=Qu1 (kf [a,b,c]) 3
 have hs:=Qw3 (kf [a,b,c]) 3
 obtain ⟨p,q,s,hq⟩:=Jjz (Qvx (kf [a,b,c]) 3)
 rw [hq] at hp hs ⊢
 have hmem:∀ x ∈ [p,q,s],0 ≤ x ∧ x < 3:=λx hx=>by
  have:=Qmb.1 (hp.mem_iff.1 hx)
  omega
 have k1:=Q9n (keys:=[a,b,c]) (p:=p) (by have:=hmem p (by simp); simpa using this)
 have k2:=Q9n (keys:=[a,b,c]) (p:=q) (by have:=hmem q (by simp); simpa using this)
 have k3:=Q9n (keys:=[a,b,c]) (p:=s) (by have:=hmem s (by simp); simpa using this)
 rw [show ix [p,q,s] 0 = some p from rfl,show ix [p,q,s] 1 = some q from rfl,show ix [p,q,s] 2 = some s from rfl]
 simp only [Qab,k1,k2,k3]
 have hp3:([a,b,c]).Perm [kf [a,b,c] p,kf [a,b,c] q,kf [a,b,c] s]:=(hp.map (kf [a,b,c])).symm
 simp only [List.pairwise_cons,List.mem_cons,List.not_mem_nil,or_false,forall_eq_or_imp,forall_eq,lx] at hs
 have:=Jfp hp3 (by omega) (by omega)
 rw [this]
theorem Je1 {fu:Nat} (hfu:2097153 ≤ fu) (x:Item) (t:Typ):Qq0 fu x t = some (Q0c x t):=by
 unfold Qq0 Q0c
 rw [Jgn hfu,Jgn hfu]
 simp only [Qab]
 have e0:∀ a b c:Int,ix [a,b,c] 0 = some a:=λ_ _ _=>rfl
 have e1:∀ a b c:Int,ix [a,b,c] 1 = some b:=λ_ _ _=>rfl
 have e2:∀ a b c:Int,ix [a,b,c] 2 = some c:=λ_ _ _=>rfl
 simp only [e0,e1,e2,Qab]
 cases decide ((sid x.fW x.fH x.fD).1 ≤ (sid t.fW t.fH t.fD).1) <;> cases decide ((sid x.fW x.fH x.fD).2.1 ≤ (sid t.fW t.fH t.fD).2.1) <;> cases decide ((sid x.fW x.fH x.fD).2.2 ≤ (sid t.fW t.fH t.fD).2.2) <;> rfl
theorem Q94 (a b c:Int):Q2t [a,b,c] = some [(sid a b c).1,(sid a b c).2.1,(sid a b c).2.2]:=by
 unfold Q2t
 rw [if_pos (by simp)]
 have hp:=List.mergeSort_perm [a,b,c] (λx y=>decide (x ≤ y))
 have hs:=Qsz [a,b,c]
 obtain ⟨p,q,s,hq⟩:=Jjz (hp.length_eq)
 rw [hq] at hp hs ⊢
 simp only [List.pairwise_cons,List.mem_cons,List.not_mem_nil,or_false,forall_eq_or_imp,forall_eq] at hs
 rw [Jfp hp.symm (by omega) (by omega)]
theorem Jf7 (fu:Nat) (x:Item) (t:Typ):Qsm fu x t = some (Q0c x t):=by
 unfold Qsm Qst Qc2 Q0c
 rw [Q94,Q94]
 have e0:∀ a b c:Int,ix [a,b,c] 0 = some a:=λ_ _ _=>rfl
 have e1:∀ a b c:Int,ix [a,b,c] 1 = some b:=λ_ _ _=>rfl
 have e2:∀ a b c:Int,ix [a,b,c] 2 = some c:=λ_ _ _=>rfl
 simp only [Qab,e0,e1,e2]
 cases decide ((sid x.fW x.fH x.fD).1 ≤ (sid t.fW t.fH t.fD).1) <;> cases decide ((sid x.fW x.fH x.fD).2.1 ≤ (sid t.fW t.fH t.fD).2.1) <;> cases decide ((sid x.fW x.fH x.fD).2.2 ≤ (sid t.fW t.fH t.fD).2.2) <;> rfl
theorem Q0q {fu:Nat} {r:Request} (h:Sm fu r):Qep fu r = some (Qh3 r):=by
 have hfu:=h.fu
 have h1:=h.items
 have h2:=h.types
 have h3:=h.pairs
 have e4:Qfn fu r fu 0 = some (bif r.fT.any (Q7e r.fJ) then 6 else 0):=by
  refine lp r.fT (λn (_:Unit) i=>Qfn fu r n i) (λl _=>some (bif l.any (Q7e r.fJ) then 6 else 0)) (by omega) ?_ ?_ fu () (by omega)
  · intro n s i x xs hx hd ih
    simp only [Qfn.eq_2]
    unfold Qo2 Qrh
    simp only [hd,cond_true,hx,Qab,ih (),List.any_cons,Q7e]
    cases decide (x.fW > r.fJ.fW) <;> cases decide (x.fD > r.fJ.fD) <;> cases decide (x.fH > r.fJ.fH) <;> cases decide (w64 (x.f7 + x.fV) > r.fJ.fV) <;> rfl
  · intro n s i hd
    simp only [Qfn.eq_2]
    unfold Qo2
    simp only [hd,cond_false]
    rfl
 unfold Qep Qh3
 rw [Jik h,Qab,Jja h,Qab,Jij h3 (by omega) (by omega),Qab,Jah h,Qab]
 have e1:Qg2 fu r (Qxh (Qtn r r.fP)) fu 0 = some (bif !(r.fG.all λx=>Q0c x (Qyg r)) then 5 else bif r.fT.any (Q7e r.fJ) then 6 else 0):=by
  refine lp r.fG (λn (_:Unit) i=>Qg2 fu r (Qxh (Qtn r r.fP)) n i) (λl _=>some (bif !(l.all λx=>Q0c x (Qyg r)) then 5 else bif r.fT.any (Q7e r.fJ) then 6 else 0)) (by omega) ?_ ?_ fu () (by omega)
  · intro n s i x xs hx hd ih
    simp only [Qg2.eq_2]
    unfold Qo7
    simp only [hd,cond_true,hx,Qab,Je1 hfu,ih (),List.all_cons]
    rw [show (Qxh (Qtn r r.fP)).1 = Qyg r from rfl]
    cases Q0c x (Qyg r) <;> rfl
  · intro n s i hd
    simp only [Qg2.eq_2]
    unfold Qo7
    simp only [hd,cond_false,e4]
    rfl
 rw [e1]
 cases Q3y r <;> cases Q7n r <;> cases Jb6 r.fL r.fR <;> rfl
theorem Ji7 {fu:Nat} {r:Request} (h:Sm fu r):Qsx fu r = some (Qh3 r):=by
 have hfu:=h.fu
 have h1:=h.items
 have h2:=h.types
 have h3:=h.pairs
 unfold Qsx Qh3
 rw [Jgi h,Qab,Jht h,Qab,Jix h,Qab,Ji1 h3 (by omega) (by omega),Qab]
 rw [Qwk (λy=>Qp2 fu y (Qxh (Qtn r r.fP)).1) (λx=>!Q0c x (Qyg r)) (λx _=>by
  unfold Qp2
  rw [Jf7,Qab]; rfl) h1 (by omega),Qab]
 rw [Q1x (λy=>Qps fu y r.fJ) (Q7e r.fJ) (λx _=>by
  unfold Qps Q7e
  cases decide (x.fW > r.fJ.fW) <;> cases decide (x.fD > r.fJ.fD) <;> cases decide (x.fH > r.fJ.fH) <;> rfl) h2 (by omega),Qab]
 rw [show (r.fG.any λx=>!Q0c x (Qyg r)) = !(r.fG.all λx=>Q0c x (Qyg r)) by simp [List.not_all_eq_any_not]]
 cases Q3y r <;> cases Q7n r <;> cases Jb6 r.fL r.fR <;> cases r.fG.all λx=>Q0c x (Qyg r) <;> cases r.fT.any (Q7e r.fJ) <;> rfl
theorem Qvw {fu:Nat} {r:Request} (h:Sm fu r):Qgw fu r = some (Qh3 r == 0):=by
 unfold Qgw
 rw [Ji7 h]; rfl
end Go.Proofs.YtpcmapfabndggaaGreat
/- PlanOk, by spec and by impl. -/
namespace Go.Proofs.YtpcmapfabndggaaGreat
open Go
open Enc (rd ow)
open Arg (argv)
open Ret (retv)
open Wf (wf)
def Jcv:List Int → List Int → Bool
 | _,[]=>true
 | pre,x :: xs=>inb x 0 999 && ((match pre.getLast? with | none=>true | some y=>decide (y < x)) && Jcv (pre ++ [x]) xs)
def Jg4 (l:List Int):Bool:=Jcv [] l && decide ((l.length:Int) ≤ 100)
def Jcx (c:Carton):Bool:=inb c.fO 0 999 && (inb c.fE 0 3 && Jg4 c.fM)
def Jd2 (s:Spot):Bool:=inb s.fJ 0 2000 && (inb s.fX 0 2000 && (inb s.fY 0 2000 && inb s.fZ 0 2000))
def Q3a (x:Plan):Bool:=x.fU.length == x.fQ.length && (decide ((x.fQ.length:Int) ≤ 100) && (x.fQ.zip x.fU).all λp=>Jcx p.1 && Jd2 p.2)
theorem Q91 {pre:List Int} {x:Int} {xs l:List Int} (hl:l.length ≤ 1048576) (e:l = pre ++ x :: xs):(pre.getLast? = none ∧ pre.length = 0) ∨ ∃ y,pre.getLast? = some y ∧ 0 < pre.length ∧ ix l (w64 ((pre.length:Int) - 1)) = some y:=by
 cases hp:pre.getLast? with
 | none=>exact .inl ⟨rfl,by simpa using List.getLast?_eq_none_iff.1 hp⟩
 | some y =>
  have hne:pre ≠ []:=λe=>by subst e; simp at hp
  have hpos:0 < pre.length:=List.length_pos_iff.2 hne
  refine .inr ⟨y,rfl,hpos,?_⟩
  have h1:w64 ((pre.length:Int) - 1) = ((pre.length - 1:Nat):Int):=by
   have:pre.length ≤ l.length:=by rw [e]; simp
   rw [Qbp (by omega) (by omega)]; omega
  rw [h1,Qq5,e,List.getElem?_append_left (by omega),← List.getLast?_eq_getElem?,hp]
theorem Jho {fu:Nat} {l:List Int} (hl:l.length ≤ 1048576) (hf:l.length < fu):Qj8 fu l = some (Jg4 l):=by
 unfold Qj8 Jg4
 have key:=lpP l (λn (_:Unit) i=>Qdi fu l n i) (λpre xs _=>some (Jcv pre xs && decide ((l.length:Int) ≤ 100))) (by omega) ?_ ?_ fu () hf
 · exact key
 · intro n _ pre x xs e hx hd ih
   have ih:=ih ()
   simp only [Qdi.eq_2]
   unfold Qih Qhf Jcv
   rw [hd,cond_true,hx,Qab,Q43,Qab]
   cases inb x 0 999
   · rfl
   · rw [Bool.not_true,cond_false,Bool.true_and]
     rcases Q91 (hl:=hl) e with ⟨h1,h2⟩ | ⟨y,h1,h2,h3⟩
     · rw [h1,show decide ((pre.length:Int) > 0) = false from decide_eq_false (by omega),cond_false,ih]
       simp
     · rw [h1,show decide ((pre.length:Int) > 0) = true from decide_eq_true (by omega),cond_true,h3,Qab,ih]
       by_cases hy:y < x
       · rw [show decide (y ≥ x) = false by simp; omega,cond_false]; simp [hy]
       · rw [show decide (y ≥ x) = true by simp; omega,cond_true]; simp [hy]
 · intro n _ hd
   simp only [Qdi.eq_2]
   unfold Qih
   rw [hd,cond_false]
   simp [Jcv]
theorem Jhr {fu:Nat} {c:Carton} (hl:c.fM.length ≤ 1048576) (hf:c.fM.length < fu):Qml fu c = some (Jcx c):=by
 unfold Qml Jcx
 rw [Jhh,Qab,Q1m,Qab]
 cases inb c.fO 0 999
 · rfl
 · rw [Bool.not_true,cond_false]
   cases inb c.fE 0 3
   · rfl
   · rw [Bool.not_true,cond_false,Bool.true_and,Bool.true_and]
     unfold Jg4
     by_cases h1:(c.fM.length:Int) ≤ 100
     · rw [show decide ((c.fM.length:Int) > 100) = false by simp; omega,cond_false,show decide ((c.fM.length:Int) ≤ 100) = true by simpa using h1,Bool.and_true]
       unfold Qll
       have key:=lpP c.fM (λn (_:Unit) i=>Qdx fu c n i) (λpre xs _=>some (Jcv pre xs)) (by omega) ?_ ?_ fu () hf
       · exact key
       · intro n _ pre x xs e hx hd ih
         have ih:=ih ()
         simp only [Qdx.eq_2]
         unfold Qiz Qib Jcv
         rw [hd,cond_true,hx,Qab,Q1m,Qab]
         cases inb x 0 999
         · rfl
         · rw [Bool.not_true,cond_false,Bool.true_and]
           rcases Q91 (hl:=hl) e with ⟨h1,h2⟩ | ⟨y,h1,h2,h3⟩
           · rw [h1,show decide ((pre.length:Int) > 0) = false from decide_eq_false (by omega),cond_false,ih]
             simp
           · rw [h1,show decide ((pre.length:Int) > 0) = true from decide_eq_true (by omega),cond_true,Qab,h3,Qab,ih]
             by_cases hy:y < x
             · rw [show decide (x ≤ y) = false by simp; omega,cond_false]; simp [hy]
             · rw [show decide (x ≤ y) = true by simp; omega,cond_true]; simp [hy]
       · intro n _ hd
         simp only [Qdx.eq_2]
         unfold Qiz
         rw [hd,cond_false]
         simp [Jcv]
     · rw [show decide ((c.fM.length:Int) > 100) = true by simp; omega,cond_true,show decide ((c.fM.length:Int) ≤ 100) = false by simpa using h1,Bool.and_false]
theorem Qvg {α β:Type} {a:List α} {b:List β} {i:Int} {p:α × β} (h:ix (a.zip b) i = some p):ix a i = some p.1 ∧ ix b i = some p.2:=by
 obtain ⟨h0,_,h1⟩:=Qas h
 have:=List.getElem?_zip_eq_some.1 h1
 unfold ix
 rw [if_pos h0,if_pos h0]
 exact this
theorem Jiu {fu:Nat} {x:Plan} (h:Sp x) (hf:1048577 ≤ fu):Qrz fu x = some (Q3a x):=by
 have hs:=h.spots
 have hc:=h.cars
 unfold Qrz Q3a
 cases he:x.fU.length == x.fQ.length
 · have:((x.fU.length:Int) != (x.fQ.length:Int)) = true:=by simp at he ⊢; omega
   rw [this]; rfl
 · have el:x.fU.length = x.fQ.length:=by simpa using he
   have:((x.fU.length:Int) != (x.fQ.length:Int)) = false:=by simp; omega
   rw [this,cond_false,Bool.true_and]
   by_cases h1:(x.fQ.length:Int) ≤ 100
   · rw [show decide ((x.fQ.length:Int) > 100) = false by simp; omega,cond_false,show decide ((x.fQ.length:Int) ≤ 100) = true by simpa using h1,Bool.true_and]
     unfold Qqu
     have hz:(x.fQ.zip x.fU).length = x.fQ.length:=by simp; omega
     have key:=lp (x.fQ.zip x.fU) (λn (_:Unit) i=>Qf8 fu x n i) (λl _=>some (l.all λp=>Jcx p.1 && Jd2 p.2)) (by omega) ?_ ?_ fu () (by omega)
     · exact key
     · intro n _ i p xs hx hd ih
       have ih:=ih ()
       obtain ⟨e1,e2⟩:=Qvg hx
       have hu:=h.units p.1 (Qd5 e1)
       rw [hz] at hd
       simp only [Qf8.eq_2]
       unfold Qn4 Qqw
       simp only [hd,cond_true,e1,e2,Qab,Q43,Jho hu (show p.1.fM.length < fu by omega),Q44,ih,List.all_cons]
       unfold Jcx Jd2
       cases inb p.1.fO 0 999 <;> cases inb p.1.fE 0 3 <;> cases Jg4 p.1.fM <;> cases inb p.2.fJ 0 2000 <;> cases inb p.2.fX 0 2000 <;> cases inb p.2.fY 0 2000 <;> cases inb p.2.fZ 0 2000 <;> rfl
     · intro n _ i hd
       rw [hz] at hd
       simp only [Qf8.eq_2]
       unfold Qn4
       simp [hd]
   · rw [show decide ((x.fQ.length:Int) > 100) = true by simp; omega,cond_true,show decide ((x.fQ.length:Int) ≤ 100) = false by simpa using h1,Bool.false_and]
theorem Jiv {fu:Nat} {x:Plan} (h:Sp x) (hf:1048577 ≤ fu):Qr1 fu x = some (Q3a x):=by
 have hs:=h.spots
 have hc:=h.cars
 unfold Qr1 Q3a
 cases he:x.fU.length == x.fQ.length
 · have:((x.fQ.length:Int) != (x.fU.length:Int)) = true:=by simp at he ⊢; omega
   rw [this]; rfl
 · have el:x.fU.length = x.fQ.length:=by simpa using he
   have:((x.fQ.length:Int) != (x.fU.length:Int)) = false:=by simp; omega
   rw [this,cond_false,Bool.true_and]
   by_cases h1:(x.fQ.length:Int) ≤ 100
   · rw [show decide ((x.fQ.length:Int) > 100) = false by simp; omega,cond_false,show decide ((x.fQ.length:Int) ≤ 100) = true by simpa using h1,Bool.true_and]
     unfold Qqv
     have hz:(x.fQ.zip x.fU).length = x.fQ.length:=by simp; omega
     have key:=lp (x.fQ.zip x.fU) (λn (_:Unit) i=>Qf6 fu x n i) (λl _=>some (l.all λp=>Jcx p.1 && Jd2 p.2)) (by omega) ?_ ?_ fu () (by omega)
     · exact key
     · intro n _ i p xs hx hd ih
       have ih:=ih ()
       obtain ⟨e1,e2⟩:=Qvg hx
       have hu:=h.units p.1 (Qd5 e1)
       rw [hz] at hd
       simp only [Qf6.eq_2]
       unfold Qnb Qqn
       simp only [hd,cond_true,e1,e2,Qab,Q1m,Jhr hu (show p.1.fM.length < fu by omega),ih,List.all_cons]
       unfold Jd2
       cases Jcx p.1 <;> cases inb p.2.fJ 0 2000 <;> cases inb p.2.fX 0 2000 <;> cases inb p.2.fY 0 2000 <;> cases inb p.2.fZ 0 2000 <;> rfl
     · intro n _ i hd
       rw [hz] at hd
       simp only [Qf6.eq_2]
       unfold Qnb
       simp [hd]
   · rw [show decide ((x.fQ.length:Int) > 100) = true by simp; omega,cond_true,show decide ((x.fQ.length:Int) ≤ 100) = false by simpa using h1,Bool.false_and]
end Go.Proofs.YtpcmapfabndggaaGreat
/- The units of an order, by spec and by impl. -/
namespace Go.Proofs.YtpcmapfabndggaaGreat
open Go
open Enc (rd ow)
open Arg (argv)
open Ret (retv)
open Wf (wf)
theorem Jfb {σ α β:Type} (l:List α) (L:Nat → σ → Int → Option β) (F:List α → List α → σ → Option β) (I:List α → List α → σ → Prop) (hl:l.length ≤ 1099511627776)
    (hs:∀ n s pre x xs,l = pre ++ x :: xs → ix l (pre.length:Int) = some x → decide ((pre.length:Int) < (l.length:Int)) = true → I pre (x :: xs) s → (∀ s',I (pre ++ [x]) xs s' → L n s' (w64 ((pre.length:Int) + 1)) = F (pre ++ [x]) xs s') → L (n + 1) s (pre.length:Int) = F pre (x :: xs) s)
    (he:∀ n s,decide ((l.length:Int) < (l.length:Int)) = false → I l [] s → L (n + 1) s (l.length:Int) = F l [] s):∀ n s,I [] l s → l.length < n → L n s 0 = F [] l s:=by
 have key:∀ (xs pre:List α) (n:Nat) (s:σ),l = pre ++ xs → I pre xs s → xs.length < n → L n s (pre.length:Int) = F pre xs s:=by
  intro xs
  induction xs with
  | nil =>
   intro pre n s he' hI hn
   obtain ⟨n,rfl⟩:∃ k,n = k + 1:=⟨n - 1,by omega⟩
   simp only [List.append_nil] at he'
   subst he'
   exact he n s (by simp) hI
  | cons x xs ih =>
   intro pre n s he' hI hn
   obtain ⟨n,rfl⟩:∃ k,n = k + 1:=⟨n - 1,by simp at hn; omega⟩
   have hlen:l.length = pre.length + (xs.length + 1):=by rw [he']; simp
   refine hs n s pre x xs he' ?_ (by simp; omega) hI λs' hI'=>?_
   · rw [Qq5,he']; simp
   · rw [Qye _ (by omega)]
     have:=ih (pre ++ [x]) n s' (by simp [he']) hI' (by simp at hn; omega)
     simpa using this
 intro n s hI hn
 simpa using key l [] n s rfl hI hn
theorem Qyo {x:Item} (h:Qxl x = true):1 ≤ x.f0 ∧ x.f0 ≤ 6:=by
 simp only [Qxl,Bool.and_eq_true,Qd3] at h
 omega
theorem Jcq {xs:List Item} (h:∀ x ∈ xs,Qxl x = true):0 ≤ Qwr (xs.map (·.f0)):=Q82 _ _ λx hx=>by have:=Qyo (h x hx); omega
theorem Jig {fu:Nat} {r:Request} (h:Sm fu r) (hb:Q3y r = true):Qcg fu r = some (l6M r):=by
 have hfu:=h.fu
 obtain ⟨hi,hs,hl⟩:=Qsu hb
 have e4:∀ (k:List Int → Int → Option (List Int)) (i:Int) (x:Item),ix r.fG i = some x → ∀ (m n:Nat) (c:Int) (out:List Int),0 ≤ c → c ≤ x.f0 → (x.f0 - c).toNat = m → x.f0 ≤ 6 → m < n → out.length + m ≤ 100 →
     Qgk fu k r i n out c = k (out ++ List.replicate m i) (w64 (i + 1)):=by
  intro k i x hx m
  induction m with
  | zero =>
   intro n c out h0 h1 h2 h3 h4 h5
   obtain ⟨n,rfl⟩:∃ j,n = j + 1:=⟨n - 1,by omega⟩
   rw [Qgk.eq_2]
   unfold Qln
   rw [hx,Qab,Qbb (by simp; omega)]
   simp
  | succ m ih =>
   intro n c out h0 h1 h2 h3 h4 h5
   obtain ⟨n,rfl⟩:∃ j,n = j + 1:=⟨n - 1,by omega⟩
   rw [Qgk.eq_2]
   unfold Qln
   rw [hx,Qab,Qco (by simp; omega),ap1 (by simp; omega),Qab,Qbp (by omega) (by omega),ih n (c + 1) (out ++ [i]) (by omega) (by omega) (by omega) h3 (by omega) (by simp; omega)]
   rw [List.append_assoc,List.singleton_append,← List.replicate_succ]
 unfold Qcg l6M
 have:=Jfb r.fG (λn out i=>Qd7 fu r n out i) (λpre xs out=>some (out ++ Q6t (pre.length:Int) xs)) (λpre xs out=>(out.length:Int) + Qwr (xs.map (·.f0)) ≤ 12 ∧ ∀ x ∈ xs,Qxl x = true) (by omega) ?_ ?_ fu [] ⟨by simpa using hs,hi⟩ (by omega)
 · simpa using this
 · intro n out pre x xs hl' hx hd hI ih
   simp only [Qd7.eq_2]
   unfold Ql7
   have hc:=Qyo (hI.2 x (by simp))
   have hsum:=hI.1
   have hnn:=Jcq (λy hy=>hI.2 y (by simp [hy]):∀ y ∈ xs,Qxl y = true)
   simp only [List.map_cons,Qqd] at hsum
   have e:=e4 (Qd7 fu r n) (pre.length:Int) x hx x.f0.toNat fu 0 out (by omega) (by omega) (by omega) (by omega) (by omega) (by omega)
   rw [hd,cond_true,e,ih _ ⟨by simp; omega,λy hy=>hI.2 y (by simp [hy])⟩]
   simp [Q6t]
 · intro n out hd hI
   simp only [Qd7.eq_2]
   unfold Ql7
   simp only [hd,cond_false]
   simp [Q6t]
theorem Jdm {fu:Nat} {r:Request} (h:Sm fu r) (hc:Qh3 r = 0):Qcg fu r = some (Qim r):=by
 unfold Qim
 rw [Jig h (Qfq hc).1,Qco (by simp [hc])]
theorem Jh3 {fu:Nat} {r:Request} (h:Sm fu r):Qsw fu r = some (Qim r):=by
 unfold Qsw Qim
 rw [Q0q h,Qab]
 by_cases hc:Qh3 r = 0
 · rw [Qbb (by simp [hc]),Jig h (Qfq hc).1,Qab,Qco (by simp [hc])]
 · rw [Qco (by simp [hc]),Qbb (by simp [hc])]
theorem Jj5 (fu:Nat) (c:Int) (h:1 ≤ c ∧ c ≤ 6):Qu2 fu (IntKind.wrap .u64 1) (IntKind.wrap .u64 c) = some (0,c):=by
 have:c = 1 ∨ c = 2 ∨ c = 3 ∨ c = 4 ∨ c = 5 ∨ c = 6:=by omega
 rcases this with rfl | rfl | rfl | rfl | rfl | rfl <;> rfl
theorem Jil (m:Nat) (i:Int):Qbq (m + 10) [i] (0,1) = some (List.replicate 1 i):=by kernel_rfl
theorem Jhx (m:Nat) (i:Int):Qbq (m + 10) [i] (0,2) = some (List.replicate 2 i):=by kernel_rfl
theorem Jib (m:Nat) (i:Int):Qbq (m + 10) [i] (0,3) = some (List.replicate 3 i):=by kernel_rfl
theorem Jh4 (m:Nat) (i:Int):Qbq (m + 10) [i] (0,4) = some (List.replicate 4 i):=by kernel_rfl
theorem Jhs (m:Nat) (i:Int):Qbq (m + 10) [i] (0,5) = some (List.replicate 5 i):=by kernel_rfl
theorem Jid (m:Nat) (i:Int):Qbq (m + 10) [i] (0,6) = some (List.replicate 6 i):=by kernel_rfl
theorem Jj7 {fu:Nat} (hfu:10 ≤ fu) (i c:Int) (h:1 ≤ c ∧ c ≤ 6):Qfo fu [i] c = some (List.replicate c.toNat i):=by
 unfold Qfo Qgb
 rw [Qbb (by simp; omega)]
 rw [show (([i]:List Int).length:Int) = 1 from rfl,Jj5 fu c h,Qab,Qbb (by simp),Qbb (by simp; omega)]
 obtain ⟨m,rfl⟩:∃ m,fu = m + 10:=⟨fu - 10,by omega⟩
 have:c = 1 ∨ c = 2 ∨ c = 3 ∨ c = 4 ∨ c = 5 ∨ c = 6:=by omega
 rcases this with rfl | rfl | rfl | rfl | rfl | rfl
 · exact Jil m i
 · exact Jhx m i
 · exact Jib m i
 · exact Jh4 m i
 · exact Jhs m i
 · exact Jid m i
theorem Jdp {fu:Nat} {r:Request} (h:Sm fu r):Qou fu r = some (Qim r):=by
 have hfu:=h.fu
 unfold Qou Qim
 rw [Qvw h,Qab]
 by_cases hc:Qh3 r = 0
 · obtain ⟨hi,hs,hl⟩:=Qsu (Qfq hc).1
   rw [Qbb (by simp [hc]),Qco (by simp [hc])]
   unfold l6M
   have:=Jfb r.fG (λn out i=>Qia fu r n out i) (λpre xs out=>some (out ++ Q6t (pre.length:Int) xs)) (λpre xs out=>(out.length:Int) + Qwr (xs.map (·.f0)) ≤ 12 ∧ ∀ x ∈ xs,Qxl x = true) (by omega) ?_ ?_ fu [] ⟨by simpa using hs,hi⟩ (by omega)
   · simpa using this
   · intro n out pre x xs hl' hx hd hI ih
     simp only [Qia.eq_2]
     unfold Qo4
     have hc:=Qyo (hI.2 x (by simp))
     have hsum:=hI.1
     have hnn:=Jcq (λy hy=>hI.2 y (by simp [hy]):∀ y ∈ xs,Qxl y = true)
     simp only [List.map_cons,Qqd] at hsum
     rw [hd,cond_true,hx,Qab,Jj7 (by omega) _ _ hc,Qab,ap1 (by simp; omega),Qab,ih _ ⟨by simp; omega,λy hy=>hI.2 y (by simp [hy])⟩]
     simp [Q6t]
   · intro n out hd hI
     simp only [Qia.eq_2]
     unfold Qo4
     simp only [hd,cond_false]
     simp [Q6t]
 · rw [Qco (by simp [hc]),Qbb (by simp [hc])]
end Go.Proofs.YtpcmapfabndggaaGreat
/- Volumes of units, by spec and by impl. -/
namespace Go.Proofs.YtpcmapfabndggaaGreat
open Go
open Enc (rd ow)
open Arg (argv)
open Ret (retv)
open Wf (wf)
theorem Jjm {w h d:Int} (hb:(inb w 0 2000 && (inb h 0 2000 && inb d 0 2000)) = true):w64 ((w64 (w * h)) * d) = w * h * d:=by
 simp only [Bool.and_eq_true,Qd3] at hb
 obtain ⟨⟨h1,h2⟩,⟨h3,h4⟩,h5,h6⟩:=hb
 have a1:0 ≤ w * h:=Int.mul_nonneg h1 h3
 have a2:w * h ≤ 2000 * 2000:=Int.mul_le_mul h2 h4 h3 (by omega)
 have a3:0 ≤ w * h * d:=Int.mul_nonneg a1 h5
 have a4:w * h * d ≤ 2000 * 2000 * 2000:=Int.mul_le_mul a2 h6 h5 (by omega)
 rw [Qbp (n:=w * h) (by omega) (by omega),Qbp (by omega) (by omega)]
theorem Je0 (fu:Nat) (w h d:Int):Ql3 fu w h d = some (Q6r w h d):=by
 unfold Ql3 Qqk Q6r
 simp only [Q1m,Qab]
 cases h1:inb w 0 2000 <;> cases h2:inb h 0 2000 <;> cases h3:inb d 0 2000 <;> simp only [Bool.not_true,Bool.not_false,cond_true,cond_false,Bool.and_true,Bool.and_false]
 rw [Jjm (by simp only [h1,h2,h3]; rfl)]
theorem Jf3 (fu:Nat) (w h d:Int):Qo6 fu w h d = some (Q6r w h d):=by
 unfold Qo6 Qqq Q6r
 simp only [Q43,Qab]
 cases h1:inb w 0 2000 <;> cases h2:inb h 0 2000 <;> cases h3:inb d 0 2000 <;> simp only [Bool.not_true,Bool.not_false,cond_true,cond_false,Bool.and_true,Bool.and_false]
 rw [Jjm (by simp only [h1,h2,h3]; rfl)]
def Qu0 (r:Request) (u:Int):Item:=(Q1w r u).getD Q63
theorem Q2g (r:Request):w64 (((Qim r).length:Int) - 1) = ((Qim r).length:Int) - 1:=by
 have:=Qyi r
 exact Qbp (by omega) (by omega)
theorem Q6p (fu:Nat) (r:Request) (u:Int):Qir fu r (Qim r) u = some (Qu0 r u,(Q1w r u).isSome):=by
 unfold Qir Qu0
 rw [Q2g,Q1m,Qab]
 by_cases h:0 ≤ u ∧ u < (Qim r).length
 · obtain ⟨i,x,h1,h2,h3⟩:=Q5b h
   rw [Qbb (by simp; omega),h1,Qab,h2,Qab,h3]
   rfl
 · rw [Qco (by simp [inb]; omega),Q2m h]
   rfl
theorem Jci:Q9q Q63 = 0:=by simp [Q9q,Q6r,Q63]
theorem Q2b {fu:Nat} {r:Request} (h:Sm fu r) (us:List Int) (hl:us.length ≤ 1048576) (hf:us.length < fu):Qhq fu r us = some (Qxg r us):=by
 unfold Qhq
 rw [Jdp h,Qab]
 have key:=lpI us (λn s i=>Qfe fu r us (Qim r) n s i) (λl out=>some (out ++ Qxg r l)) (λl out=>out.length + l.length ≤ 1048576) (by omega) ?_ ?_ fu [] (by simpa using hl) hf
 · simpa using key
 · intro n s i x xs hx hd hI ih
   simp only [Qfe.eq_2]
   unfold Ql8 Qkd
   simp only [hd,cond_true,hx,Qab,Q2g,Q43]
   simp only [List.length_cons] at hI
   by_cases hu:0 ≤ x ∧ x < (Qim r).length
   · obtain ⟨i',y,h1,h2,h3⟩:=Q5b hu
     rw [Qco (by simp; omega),h1,Qab,h2,Qab,ap1 (by simp; omega),Qab,ih _ (by simp; omega)]
     simp [Qxg,List.filterMap_cons,h3]
   · rw [Qbb (by simp [inb]; omega),ih _ (by omega)]
     simp [Qxg,List.filterMap_cons,Q2m hu]
 · intro n s i hd _
   simp only [Qfe.eq_2]
   unfold Ql8
   simp only [hd,cond_false]
   simp [Qxg]
theorem Jd1 {fu:Nat} {r:Request} (h:Sm fu r) (us:List Int) (hl:us.length ≤ 1048576) (hf:us.length < fu):Qoo fu r us = some (Qz4 r us):=by
 unfold Qoo
 rw [Q2b h us hl hf,Qab]
 have hlen:=Qwm r us
 have key:=lpI (Qxg r us) (λn s i=>Qft fu (Qxg r us) n s i) (λl n=>some (n + Qwr (l.map Q9q))) (λl n=>0 ≤ n ∧ n + 8000000000 * l.length ≤ 8000000000 * 1048576) (by omega) ?_ ?_ fu 0 ⟨by omega,by omega⟩ (by omega)
 · simpa [Qz4] using key
 · intro n s i x xs hx hd hI ih
   simp only [Qft.eq_2]
   unfold Qjq
   simp only [hd,cond_true,hx,Qab,Jf3]
   have hv:=Q87 x.fW x.fH x.fD
   have h2:=hI.2
   simp only [List.length_cons] at h2
   rw [Qbp (by omega) (by omega),ih _ ⟨by omega,by omega⟩]
   simp only [List.map_cons,Qqd,Q9q]
   congr 1
   omega
 · intro n s i hd _
   simp only [Qft.eq_2]
   unfold Qjq
   simp only [hd,cond_false]
   simp
end Go.Proofs.YtpcmapfabndggaaGreat
/- Weights of units, by spec and by impl. -/
namespace Go.Proofs.YtpcmapfabndggaaGreat
open Go
open Enc (rd ow)
open Arg (argv)
open Ret (retv)
open Wf (wf)
theorem Q3p (r:Request) (u:Int):0 ≤ (Qu0 r u).fV ∧ (Qu0 r u).fV ≤ 100000:=by
 unfold Qu0
 cases hm:Q1w r u with
 | none=>simp [Q63]
 | some x=>exact Q12 (r:=r) (us:=[u]) (by simp [Qxg,List.filterMap_cons,hm])
theorem Jhz {fu:Nat} {r:Request} (h:Sm fu r) (us:List Int) (hl:us.length ≤ 1048576) (hf:us.length < fu):Qse fu r us = some (Qv9 r us):=by
 unfold Qse
 rw [Jh3 h,Qab]
 have key:=lpI us (λn s i=>Qeu fu r us (Qim r) n s i) (λl n=>some (n + Qv9 r l)) (λl n=>0 ≤ n ∧ n + 100000 * l.length ≤ 100000 * 1048576) (by omega) ?_ ?_ fu 0 ⟨by omega,by omega⟩ hf
 · simpa using key
 · intro n s i x xs hx hd hI ih
   simp only [Qeu.eq_2]
   unfold Qm8 Qql Qqm
   simp only [hd,cond_true,hx,Qab,Q6p]
   have hv:=Q3p r x
   have h2:=hI.2
   simp only [List.length_cons] at h2
   rw [Qbp (by omega) (by omega),ih _ ⟨by omega,by omega⟩]
   congr 1
   have e:Qv9 r (x :: xs) = (Qu0 r x).fV + Qv9 r xs:=by
    unfold Qv9 Qxg Qu0
    cases hm:Q1w r x with
    | none=>simp [List.filterMap_cons,hm,Q63]
    | some y=>simp [List.filterMap_cons,hm]
   rw [e]
   omega
 · intro n s i hd _
   simp only [Qeu.eq_2]
   unfold Qm8
   simp only [hd,cond_false]
   simp [Qv9,Qxg]
theorem Jgh {fu:Nat} {r:Request} (h:Sm fu r) (us:List Int) (hl:us.length ≤ 1048576) (hf:us.length < fu):Qoz fu r us = some (Qv9 r us):=by
 unfold Qoz
 rw [Q2b h us hl hf,Qab]
 have hlen:=Qwm r us
 have key:=lpI (Qxg r us) (λn s i=>Qha fu (Qxg r us) n s i) (λl n=>some (n + Qwr (l.map (·.fV)))) (λl n=>0 ≤ n ∧ n + 100000 * l.length ≤ 100000 * 1048576 ∧ ∀ x ∈ l,0 ≤ x.fV ∧ x.fV ≤ 100000) (by omega) ?_ ?_ fu 0 ⟨by omega,by omega,λx hx=>Q12 hx⟩ (by omega)
 · simpa [Qv9] using key
 · intro n s i x xs hx hd hI ih
   simp only [Qha.eq_2]
   unfold Qne
   simp only [hd,cond_true,hx,Qab]
   have hv:=hI.2.2 x (by simp)
   have h2:=hI.2.1
   simp only [List.length_cons] at h2
   rw [Qbp (by omega) (by omega),ih _ ⟨by omega,by omega,λy hy=>hI.2.2 y (by simp [hy])⟩]
   simp only [List.map_cons,Qqd]
   congr 1
   omega
 · intro n s i hd _
   simp only [Qha.eq_2]
   unfold Qne
   simp only [hd,cond_false]
   simp
end Go.Proofs.YtpcmapfabndggaaGreat
