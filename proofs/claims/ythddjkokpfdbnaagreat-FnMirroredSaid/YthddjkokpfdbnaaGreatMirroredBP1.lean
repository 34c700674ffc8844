import Derived.Test.YthddjkokpfdbnaaGreatMirroredBD
import Derived.Test.YthddjkokpfdbnaaGreatM3
set_option linter.unusedSimpArgs false
set_option linter.unusedVariables false
/- The first layers of spec and of impl: bounds, table, names, fitting, the reason, the units. Each is the plain function of M0. -/
namespace Go.Proofs.YthddjkokpfdbnaaGreat
open Go
open Enc (rd ow)
open Arg (argv)
open Ret (retv)
open Wf (wf)
structure Sm (fu:Nat) (r:Request):Prop where
 fu:2097153 ≤ fu
 pairs:r.fL.length ≤ 1048576
 types:r.fT.length ≤ 1048576
 items:r.fG.length ≤ 1048576
theorem Q1a (fu:Nat) (n lo hi:Int):Qaq fu n lo hi = some (inb n lo hi):=by
 unfold Qaq inb
 by_cases h:lo ≤ n
 · simp [h]
 · simp [h]
theorem Q4x (fu:Nat) (n lo hi:Int):Qcc fu n lo hi = some (inb n lo hi):=Q1a fu n lo hi
theorem Q9d (fu:Nat) (n:Int):Qd6 fu n = some (inb n 1 2000):=by unfold Qd6; rw [Q1a]; rfl
theorem Jf0 (fu:Nat) (n:Int):Qn3 fu n = some (inb n 0 999):=by unfold Qn3; rw [Q1a]; rfl
theorem Q5m (fu:Nat) (n:Int):Qcs fu n = some (inb n 1 2000):=by unfold Qcs; rw [Q4x]; rfl
theorem Jam (fu:Nat) (p:Pallet):Qgm fu p = some (Qx4 p):=by
 unfold Qgm Qx4
 simp only [Q9d,Q1a,Qab]
 cases inb p.fW 1 2000 <;> cases inb p.fD 1 2000 <;> cases inb p.fH 1 2000 <;> rfl
theorem Jf9 (fu:Nat) (p:Pallet):Qoc fu p = some (Qx4 p):=by
 unfold Qoc Qx4
 simp only [Q5m,Q4x,Qab]
 cases inb p.fW 1 2000 <;> cases inb p.fD 1 2000 <;> cases inb p.fH 1 2000 <;> rfl
theorem Jhi (fu:Nat) (t:Typ):Qq9 fu t = some (Q1q t):=by
 unfold Qq9 Q1q
 simp only [Q9d,Q1a,Jf0,Qab]
 cases inb t.f8 0 999 <;> cases inb t.fW 1 2000 <;> cases inb t.fH 1 2000 <;> cases inb t.fD 1 2000 <;> cases inb t.f7 0 100000 <;> cases inb t.fV 1 100000 <;> rfl
theorem Jhn (fu:Nat) (t:Typ):Qr0 fu t = some (Q1q t):=by
 unfold Qr0 Q1q
 simp only [Q5m,Q4x,Qab]
 cases inb t.f8 0 999 <;> cases inb t.fW 1 2000 <;> cases inb t.fH 1 2000 <;> cases inb t.fD 1 2000 <;> cases inb t.f7 0 100000 <;> cases inb t.fV 1 100000 <;> rfl
theorem Jhp (fu:Nat) (t:Item):Qrn fu t = some (Qxa t):=by
 unfold Qrn Qxa
 simp only [Q9d,Q1a,Jf0,Qab]
 cases inb t.f8 0 999 <;> cases inb t.fW 1 2000 <;> cases inb t.fH 1 2000 <;> cases inb t.fD 1 2000 <;> cases inb t.fV 1 100000 <;> cases inb t.fF 0 3 <;> rfl
theorem Jgo (fu:Nat) (t:Item):Qq3 fu t = some (Qxa t):=by
 unfold Qq3 Qxa
 simp only [Q5m,Q4x,Qab]
 cases inb t.f8 0 999 <;> cases inb t.fW 1 2000 <;> cases inb t.fH 1 2000 <;> cases inb t.fD 1 2000 <;> cases inb t.fV 1 100000 <;> cases inb t.fF 0 3 <;> rfl
def Jd8:List Item → Int → Option Bool
 | [],n=>some (decide (n ≤ 12))
 | x :: xs,n=>bif !Qxa x then some false else Jd8 xs (w64 (n + x.f0))
theorem Q38:∀ (l:List Item) (n:Int),0 ≤ n → n + 6 * l.length ≤ 4611686018427387904 → Jd8 l n = some (l.all Qxa && decide (n + Qwd (l.map (·.f0)) ≤ 12))
 | [],n,_,_=>by simp [Jd8]
 | x :: xs,n,h0,h1=>by
  unfold Jd8
  cases hx:Qxa x
  · simp [hx]
  · have hc:=hx
    simp only [Qxa,Bool.and_eq_true,Qc7] at hc
    have hc:=hc.2.2.2.2.2.2
    simp only [List.length_cons] at h1
    rw [Qa8 (by omega) (by omega)]
    simp only [Bool.not_true,cond_false]
    rw [Q38 xs (n + x.f0) (by omega) (by omega)]
    simp only [List.all_cons,hx,Bool.true_and,List.map_cons,Qp0,Int.add_assoc]
theorem Jgw {fu:Nat} {r:Request} (h:Sm fu r):Qn7 fu r = some (Q2x r):=by
 have hfu:=h.fu
 have h7:r.fG.length ≤ 8 → Qdo fu r fu 0 0 = some (r.fG.all Qxa && decide (Qwd (r.fG.map (·.f0)) ≤ 12)):=by
  intro h8
  rw [lp r.fG (fun n s i=>Qdo fu r n s i) Jd8 (by have:=h.items; omega) ?_ ?_ fu 0 (by have:=h.items; omega),Q38 _ _ (by omega) (by have:=h.items; omega)]
  · simp
  · intro n s i x xs hx hd ih
    simp only [Qdo.eq_2]
    unfold Qjt
    simp only [hd,cond_true,hx,Qab,Jhp,ih]
    rfl
  · intro n s i hd
    simp only [Qdo.eq_2]
    unfold Qjt
    simp only [hd,cond_false]
    rfl
 have h6:∀ b:Bool,(Qdo fu r fu 0 0 = some b) → Qdl fu r fu 0 = some (r.fT.all Q1q && b):=by
  intro b hb
  refine lp r.fT (fun n (_:Unit) i=>Qdl fu r n i) (fun l _=>some (l.all Q1q && b)) (by have:=h.types; omega) ?_ ?_ fu () (by have:=h.types; omega)
  · intro n s i x xs hx hd ih
    simp only [Qdl.eq_2]
    unfold Qjp
    simp only [hd,cond_true,hx,Qab,Jhi,ih (),List.all_cons]
    cases Q1q x <;> rfl
  · intro n s i hd
    simp only [Qdl.eq_2]
    unfold Qjp
    simp only [hd,cond_false,hb]
    rfl
 have h4:∀ b:Bool,(Qdl fu r fu 0 = some b) → Qds fu r fu 0 = some (r.fL.all prB && b):=by
  intro b hb
  refine lp r.fL (fun n (_:Unit) i=>Qds fu r n i) (fun l _=>some (l.all prB && b)) (by have:=h.pairs; omega) ?_ ?_ fu () (by have:=h.pairs; omega)
  · intro n s i x xs hx hd ih
    simp only [Qds.eq_2]
    unfold Qji Qm1
    simp only [hd,cond_true,hx,Qab,Q1a,ih ()]
    simp only [List.all_cons,prB]
    cases inb x.fA 0 3 <;> cases inb x.fB 0 3 <;> rfl
  · intro n s i hd
    simp only [Qds.eq_2]
    unfold Qji
    simp only [hd,cond_false,hb]
    rfl
 unfold Qn7 Qm3 Q2x
 simp only [Q1a,Jf0,Jam,Qab]
 by_cases h8:r.fG.length ≤ 8
 · rw [h4 _ (h6 _ (h7 h8))]
   have e8:decide ((r.fG.length:Int) > 8) = false:=by simp; omega
   rw [e8]
   by_cases hp:r.fL.length ≤ 16
   · have e16:decide ((r.fL.length:Int) > 16) = false:=by simp; omega
     rw [e16]
     simp only [hp,h8,decide_true,cond_false,Bool.and_true]
     cases inb r.qJ 0 1 <;> cases Qx4 r.fQ <;> cases inb r.fR 1 4 <;> cases inb (r.fT.length:Int) 1 5 <;> cases inb r.fP 0 999 <;> simp <;> cases r.fL.all prB <;> cases r.fT.all Q1q <;> rfl
   · have e16:decide ((r.fL.length:Int) > 16) = true:=by simp; omega
     rw [e16]
     simp only [hp,decide_false,cond_true]
     cases inb r.qJ 0 1 <;> cases Qx4 r.fQ <;> cases inb r.fR 1 4 <;> simp
 · have e8:decide ((r.fG.length:Int) > 8) = true:=by simp; omega
   rw [e8]
   simp only [h8,decide_false,cond_true,Bool.and_false,Bool.false_and]
   cases inb r.qJ 0 1 <;> cases Qx4 r.fQ <;> cases inb r.fR 1 4 <;> simp
def Qxg {α:Type} (g:α → Bool):List α → Int → Int
 | [],_=>-1
 | x :: xs,i=>bif g x then i else Qxg g xs (i + 1)
theorem Qth {α:Type} (g:α → Bool):∀ (l:List α) (i:Int),0 ≤ i → decide (Qxg g l i ≥ 0) = l.any g
 | [],i,_=>rfl
 | x :: xs,i,h=>by
  simp only [Qxg,List.any_cons]
  by_cases hx:g x = true
  · simpa [hx] using h
  · simpa [hx] using Qth g xs (i + 1) (by omega)
theorem Q3v {α:Type} (g:α → Bool):∀ (l pre:List α) ,(Qxg g l pre.length < 0 ∧ l.find? g = none) ∨ (0 ≤ Qxg g l pre.length ∧ ∃ x,l.find? g = some x ∧ ix (pre ++ l) (Qxg g l pre.length) = some x)
 | [],pre=>.inl ⟨by simp [Qxg],rfl⟩
 | x :: xs,pre=>by
  simp only [Qxg]
  cases hx:g x
  · have:=Q3v g xs (pre ++ [x])
    simp only [List.length_append,List.length_singleton,List.append_assoc,List.singleton_append] at this
    simpa [List.find?_cons,hx] using this
  · refine .inr ⟨by simp,x,by simp [hx],?_⟩
    rw [cond_true,Qq8]
    simp
theorem Qs0 {α:Type} (l:List α) (L:Nat → Int → Option Int) (g:α → Bool) (hl:l.length ≤ 1099511627776)
    (hs:∀ n (i:Int) x,ix l i = some x → decide (i < (l.length:Int)) = true → L (n + 1) i = bif g x then some i else L n (w64 (i + 1)))
    (he:∀ n (i:Int),decide (i < (l.length:Int)) = false → L (n + 1) i = some (-1)) (n:Nat) (hn:l.length < n):L n 0 = some (Qxg g l 0):=by
 have key:∀ (m i n:Nat),l.length - i = m → i ≤ l.length → m < n → L n (i:Int) = some (Qxg g (l.drop i) i):=by
  intro m
  induction m with
  | zero =>
   intro i n hm hi hn
   obtain ⟨n,rfl⟩:∃ k,n = k + 1:=⟨n - 1,by omega⟩
   rw [List.drop_of_length_le (by omega),he n i (by simp; omega)]
   rfl
  | succ m ih =>
   intro i n hm hi hn
   obtain ⟨n,rfl⟩:∃ k,n = k + 1:=⟨n - 1,by omega⟩
   have hlt:i < l.length:=by omega
   rw [hs n i _ (Q0x hlt) (by simpa using hlt),List.drop_eq_getElem_cons hlt]
   simp only [Qxg]
   cases g l[i]
   · rw [cond_false,cond_false,Qxy i (by omega)]
     have:=ih (i + 1) n (by omega) (by omega) (by omega)
     simpa using this
   · rfl
 simpa using key l.length 0 n (by omega) (by omega) hn
theorem Q50 {fu:Nat} {l:List Typ} (f:Typ → Option Bool) (g:Typ → Bool) (hg:∀ x ∈ l,f x = some (g x)) (hl:l.length ≤ 1048576) (hf:l.length < fu):Qbg fu l f = some (Qxg g l 0):=by
 unfold Qbg
 refine Qs0 l (fun n i=>Qa5 fu l f n i) g (by omega) ?_ ?_ fu hf
 · intro n i x hx hd
   simp only [Qa5.eq_2]
   unfold Qb3
   simp only [hd,cond_true,hx,Qab,hg x (Qeg hx)]
 · intro n i hd
   simp only [Qa5.eq_2]
   unfold Qb3
   simp only [hd,cond_false]
theorem Q1r {fu:Nat} {l:List Typ} (f:Typ → Option Bool) (g:Typ → Bool) (hg:∀ x ∈ l,f x = some (g x)) (hl:l.length ≤ 1048576) (hf:l.length < fu):Qay fu l f = some (l.any g):=by
 unfold Qay
 rw [Q50 f g hg hl hf,Qab,Qth g l 0 (by omega)]
theorem Q9c {fu:Nat} {l:List Pair} (f:Pair → Option Bool) (g:Pair → Bool) (hg:∀ x ∈ l,f x = some (g x)) (hl:l.length ≤ 1048576) (hf:l.length < fu):Qby fu l f = some (Qxg g l 0):=by
 unfold Qby
 refine Qs0 l (fun n i=>Qa4 fu l f n i) g (by omega) ?_ ?_ fu hf
 · intro n i x hx hd
   simp only [Qa4.eq_2]
   unfold Qb4
   simp only [hd,cond_true,hx,Qab,hg x (Qeg hx)]
 · intro n i hd
   simp only [Qa4.eq_2]
   unfold Qb4
   simp only [hd,cond_false]
theorem Q24 {fu:Nat} {l:List Pair} (f:Pair → Option Bool) (g:Pair → Bool) (hg:∀ x ∈ l,f x = some (g x)) (hl:l.length ≤ 1048576) (hf:l.length < fu):Qa2 fu l f = some (l.any g):=by
 unfold Qa2
 rw [Q9c f g hg hl hf,Qab,Qth g l 0 (by omega)]
theorem Q86 {fu:Nat} {l:List Item} (f:Item → Option Bool) (g:Item → Bool) (hg:∀ x ∈ l,f x = some (g x)) (hl:l.length ≤ 1048576) (hf:l.length < fu):Qbx fu l f = some (Qxg g l 0):=by
 unfold Qbx
 refine Qs0 l (fun n i=>Qa3 fu l f n i) g (by omega) ?_ ?_ fu hf
 · intro n i x hx hd
   simp only [Qa3.eq_2]
   unfold Qb2
   simp only [hd,cond_true,hx,Qab,hg x (Qeg hx)]
 · intro n i hd
   simp only [Qa3.eq_2]
   unfold Qb2
   simp only [hd,cond_false]
theorem Qv2 {fu:Nat} {l:List Item} (f:Item → Option Bool) (g:Item → Bool) (hg:∀ x ∈ l,f x = some (g x)) (hl:l.length ≤ 1048576) (hf:l.length < fu):Qax fu l f = some (l.any g):=by
 unfold Qax
 rw [Q86 f g hg hl hf,Qab,Qth g l 0 (by omega)]
theorem Jhs {fu:Nat} {r:Request} (h:Sm fu r):Qoe fu r = some (Q2x r):=by
 have hfu:=h.fu
 have h1:=h.items
 have h2:=h.types
 have h3:=h.pairs
 have e3:Qej fu r fu 0 0 = some (r.fG.all Qxa && decide (Qwd (r.fG.map (·.f0)) ≤ 12)):=by
  rw [lp r.fG (fun n s i=>Qej fu r n s i) Jd8 (by omega) ?_ ?_ fu 0 (by omega),Q38 _ _ (by omega) (by omega)]
  · simp
  · intro n s i x xs hx hd ih
    simp only [Qej.eq_2]
    unfold Qi2
    simp only [hd,cond_true,hx,Qab,Jgo,ih]
    rfl
  · intro n s i hd
    simp only [Qej.eq_2]
    unfold Qi2
    simp only [hd,cond_false]
    rfl
 have ep:Qa2 fu r.fL (fun y34=>Qjx fu y34) = some (!(r.fL.all prB)):=by
  rw [Q24 _ (fun p=>!prB p) (fun p _=>by
   unfold Qjx prB
   simp only [Q4x,Qab]
   cases inb p.fA 0 3 <;> rfl) h3 (by omega)]
  simp [List.not_all_eq_any_not]
 have et:Qay fu r.fT (fun y34=>Qkb fu y34) = some (!(r.fT.all Q1q)):=by
  rw [Q1r _ (fun p=>!Q1q p) (fun p _=>by
   unfold Qkb
   rw [Jhn]; rfl) h2 (by omega)]
  simp [List.not_all_eq_any_not]
 unfold Qoe Qnm Qnk Q2x
 rw [e3,ep,et]
 simp only [Q4x,Jf9,Qab]
 have e8:decide ((r.fG.length:Int) > 8) = !decide (r.fG.length ≤ 8):=by
  by_cases hh:r.fG.length ≤ 8
  · have:¬ ((r.fG.length:Int) > 8):=by omega
    simp [hh,this]
  · have:(r.fG.length:Int) > 8:=by omega
    simp [hh,this]
 have e16:decide ((r.fL.length:Int) > 16) = !decide (r.fL.length ≤ 16):=by
  by_cases hh:r.fL.length ≤ 16
  · have:¬ ((r.fL.length:Int) > 16):=by omega
    simp [hh,this]
  · have:(r.fL.length:Int) > 16:=by omega
    simp [hh,this]
 rw [e8,e16]
 cases inb r.qJ 0 1 <;> cases Qx4 r.fQ <;> cases inb r.fR 1 4 <;> cases decide (r.fL.length ≤ 16) <;> cases r.fL.all prB <;> cases inb (r.fT.length:Int) 1 5 <;> cases r.fT.all Q1q <;> cases inb r.fP 0 999 <;> cases decide (r.fG.length ≤ 8) <;> rfl
end Go.Proofs.YthddjkokpfdbnaaGreat
/- Within, Overlap, Pallets: by spec and by impl. -/
namespace Go.Proofs.YthddjkokpfdbnaaGreat
open Go
open Enc (rd ow)
open Arg (argv)
open Ret (retv)
open Wf (wf)
def Q2w (b:Box) (s:Spot):Bool:=inb b.fW 0 2000 && (inb b.fD 0 2000 && (inb b.fH 0 2000 && (inb s.fX 0 2000 && (inb s.fY 0 2000 && inb s.fZ 0 2000))))
def Q99 (p:Pallet) (b:Box) (s:Spot):Bool :=
 Q2w b s && (decide (b.fW > 0) && (decide (b.fD > 0) && (decide (b.fH > 0) && (decide (w64 (s.fX + b.fW) ≤ p.fW) && (decide (w64 (s.fY + b.fD) ≤ p.fD) && decide (w64 (s.fZ + b.fH) ≤ p.fH))))))
def Q61 (a la b lb:Int):Bool:=decide (a < w64 (b + lb)) && decide (b < w64 (a + la))
def Ja6 (a:Box) (s:Spot) (b:Box) (t:Spot):Bool :=
 Q2w a s && (Q2w b t && (s.fQ == t.fQ && (Q61 s.fX a.fW t.fX b.fW && (Q61 s.fY a.fD t.fY b.fD && Q61 s.fZ a.fH t.fZ b.fH))))
theorem Q4s (fu:Nat) (n:Int):Qb5 fu n = some (inb n 0 2000):=by unfold Qb5; rw [Q4x]; rfl
theorem Jfo (fu:Nat) (b:Box) (s:Spot):Qhy fu b s = some (Q2w b s):=by
 unfold Qhy Q2w
 simp only [Q1a,Qab]
 cases inb b.fW 0 2000 <;> cases inb b.fD 0 2000 <;> cases inb b.fH 0 2000 <;> cases inb s.fX 0 2000 <;> cases inb s.fY 0 2000 <;> cases inb s.fZ 0 2000 <;> rfl
theorem Jhf (fu:Nat) (b:Box) (s:Spot):Qoo fu b s = some (Q2w b s):=by
 unfold Qoo Q2w
 simp only [Q4s,Qab]
 cases inb b.fW 0 2000 <;> cases inb b.fD 0 2000 <;> cases inb b.fH 0 2000 <;> cases inb s.fX 0 2000 <;> cases inb s.fY 0 2000 <;> cases inb s.fZ 0 2000 <;> rfl
theorem Jg4 (fu:Nat) (p:Pallet) (b:Box) (s:Spot):Qrg fu p b s = some (Q99 p b s):=by
 unfold Qrg Q99
 simp only [Jfo,Qab]
 cases Q2w b s <;> cases decide (b.fW > 0) <;> cases decide (b.fD > 0) <;> cases decide (b.fH > 0) <;> cases decide (w64 (s.fX + b.fW) ≤ p.fW) <;> cases decide (w64 (s.fY + b.fD) ≤ p.fD) <;> rfl
theorem Jbg (n:Int):inb n 1 2000 = (inb n 0 2000 && decide (n > 0)):=by
 apply Bool.eq_iff_iff.2
 simp only [Qc7,Bool.and_eq_true,decide_eq_true_eq]
 omega
theorem Jgj (fu:Nat) (p:Pallet) (b:Box) (s:Spot):Qq2 fu p b s = some (Q99 p b s):=by
 unfold Qq2 Qqd Q99 Q2w
 simp only [Q4s,Q5m,Qab,Jbg]
 cases inb b.fW 0 2000 <;> cases inb b.fD 0 2000 <;> cases inb b.fH 0 2000 <;> cases inb s.fX 0 2000 <;> cases inb s.fY 0 2000 <;> cases inb s.fZ 0 2000 <;> simp
 all_goals cases decide (0 < b.fW) <;> cases decide (0 < b.fD) <;> cases decide (0 < b.fH) <;> simp
 all_goals cases decide (w64 (s.fX + b.fW) ≤ p.fW) <;> cases decide (w64 (s.fY + b.fD) ≤ p.fD) <;> simp
theorem Je2 (fu:Nat) (a la b lb:Int):Qhv fu a la b lb = some (Q61 a la b lb):=by
 unfold Qhv Q61
 cases decide (a < w64 (b + lb)) <;> rfl
theorem Jg7 (fu:Nat) (a la b lb:Int):Qqr fu a la b lb = some (Q61 a la b lb):=Je2 fu a la b lb
theorem Jgu (fu:Nat) (a:Box) (s:Spot) (b:Box) (t:Spot):Qph fu a s b t = some (Ja6 a s b t):=by
 unfold Qph Ja6
 simp only [Jfo,Je2,Qab]
 cases Q2w a s <;> cases Q2w b t <;> cases s.fQ == t.fQ <;> cases Q61 s.fX a.fW t.fX b.fW <;> cases Q61 s.fY a.fD t.fY b.fD <;> rfl
theorem Jgx (fu:Nat) (a:Box) (s:Spot) (b:Box) (t:Spot):Qpf fu a s b t = some (Ja6 a s b t):=by
 unfold Qpf Qop Ja6
 simp only [Jhf,Jg7,Qab,bne]
 cases Q2w a s <;> cases Q2w b t <;> cases s.fQ == t.fQ <;> cases Q61 s.fX a.fW t.fX b.fW <;> cases Q61 s.fY a.fD t.fY b.fD <;> rfl
def Q37 (n:Int) (s:Spot):Int:=bif inb s.fQ 0 999999 then (if s.fQ + 1 > n then s.fQ + 1 else n) else n
def Qxw (l:List Spot):Int:=l.foldl Q37 0
theorem Jc3 {n:Int} (s:Spot) (h:0 ≤ n ∧ n ≤ 1000000):0 ≤ Q37 n s ∧ Q37 n s ≤ 1000000:=by
 unfold Q37
 cases hi:inb s.fQ 0 999999
 · exact h
 · have:=Qc7.1 hi
   simp only [cond_true]
   split <;> omega
theorem Q90:∀ (l:List Spot) {n:Int},0 ≤ n ∧ n ≤ 1000000 → 0 ≤ l.foldl Q37 n ∧ l.foldl Q37 n ≤ 1000000
 | [],_,h=>h
 | s :: l,_,h=>Q90 l (Jc3 s h)
theorem Q4g (l:List Spot):0 ≤ Qxw l ∧ Qxw l ≤ 1000000:=Q90 l (by omega)
theorem Jeh {fu:Nat} {l:List Spot} (hl:l.length ≤ 1048576) (hf:l.length < fu):Qpx fu l = some (Qxw l):=by
 unfold Qpx
 have key:=lp l (fun n (s:Int) i=>Qe6 fu l n s i) (fun l s=>some (l.foldl Q37 s)) (by omega) ?_ ?_ fu 0 hf
 · exact key
 · intro n s i x xs hx hd ih
   simp only [Qe6.eq_2]
   unfold Qk7 Qj7
   simp only [hd,cond_true,hx,Qab,Q4x,ih,List.foldl_cons]
   unfold Q37
   cases hi:inb x.fQ 0 999999
   · rfl
   · have:=Qc7.1 hi
     simp only [cond_true]
     rw [Qa8 (by omega) (by omega)]
 · intro n s i hd
   simp only [Qe6.eq_2]
   unfold Qk7
   simp only [hd,cond_false]
   rfl
theorem Jbo (fu:Nat) (a b:Int):Qkm fu a b = some (if a > b then a else b):=by
 unfold Qkm
 by_cases h:a > b
 · simp [h]
 · simp [h]
theorem Jby {fu:Nat} {l:List Spot} (hl:l.length ≤ 1048576) (hf:l.length < fu):Qmm fu l = some (Qxw l):=by
 unfold Qmm
 have key:=lp l (fun n (s:Int) i=>Qe9 fu l n s i) (fun l s=>some (l.foldl Q37 s)) (by omega) ?_ ?_ fu 0 hf
 · exact key
 · intro n s i x xs hx hd ih
   simp only [Qe9.eq_2]
   unfold Qkw Qka
   simp only [hd,cond_true,hx,Qab,Q1a,Jbo,ih,List.foldl_cons]
   unfold Q37
   cases hi:inb x.fQ 0 999999
   · rfl
   · have:=Qc7.1 hi
     simp only [cond_true]
     rw [Qa8 (by omega) (by omega)]
     congr 2
     split <;> split <;> omega
 · intro n s i hd
   simp only [Qe9.eq_2]
   unfold Qkw
   simp only [hd,cond_false]
   rfl
end Go.Proofs.YthddjkokpfdbnaaGreat
/- Orders in the laws: their size, copies, equality. -/
namespace Go.Proofs.YthddjkokpfdbnaaGreat
open Go
open Enc (rd ow)
open Arg (argv)
open Ret (retv)
open Wf (wf)
end Go.Proofs.YthddjkokpfdbnaaGreat
/- What is marked: orders, lists of numbers, lists of lists. -/
namespace Go.Proofs.YthddjkokpfdbnaaGreat
open Go
open Enc (rd ow)
open Arg (argv)
open Ret (retv)
open Wf (wf)
theorem Qtz {α:Type} (xs:List α) (n:Int) (y:α):(Qhx xs n y).length = xs.length:=by simp [Qhx]
end Go.Proofs.YthddjkokpfdbnaaGreat
/- Lists of cartons in the laws: their size, copies, equality, marks. -/
namespace Go.Proofs.YthddjkokpfdbnaaGreat
open Go
open Enc (rd ow)
open Arg (argv)
open Ret (retv)
open Wf (wf)
def Q6r:List Carton → Nat
 | []=>0
 | x :: xs=>x.fM.length + Q6r xs
end Go.Proofs.YthddjkokpfdbnaaGreat
/- Plans in the laws: their size, copies, equality, marks. -/
namespace Go.Proofs.YthddjkokpfdbnaaGreat
open Go
open Enc (rd ow)
open Arg (argv)
open Ret (retv)
open Wf (wf)
structure Sp (x:Plan):Prop where
 cars:x.fJ.length ≤ 1048576
 units:∀ c ∈ x.fJ,c.fM.length ≤ 1048576
 all:Q6r x.fJ ≤ 1048576
 spots:x.fU.length ≤ 1048576
end Go.Proofs.YthddjkokpfdbnaaGreat
/- spec's sorting by halves is the plain function of M1. -/
namespace Go.Proofs.YthddjkokpfdbnaaGreat
open Go
open Enc (rd ow)
open Arg (argv)
open Ret (retv)
open Wf (wf)
theorem Q48 {fu:Nat} (n:Nat) (hn:n ≤ 1048576) (hf:n < fu):Qj9 fu (n:Int) = some (Qlq 0 n):=by
 unfold Qj9
 have key:∀ (m i k:Nat),n - i = m → i ≤ n → m < k → Qfl fu (n:Int) k (Qlq 0 i) (i:Int) = some (Qlq 0 n):=by
  intro m
  induction m with
  | zero =>
   intro i k hm hi hk
   obtain ⟨k,rfl⟩:∃ j,k = j + 1:=⟨k - 1,by omega⟩
   have:i = n:=by omega
   subst this
   rw [Qfl.eq_2]
   unfold Qi0
   simp
  | succ m ih =>
   intro i k hm hi hk
   obtain ⟨k,rfl⟩:∃ j,k = j + 1:=⟨k - 1,by omega⟩
   rw [Qfl.eq_2]
   unfold Qi0
   rw [Qcl (by simp; omega),ap1 (by rw [Qfd]; simp; omega),Qab,Qxy i (by omega)]
   have e:=Q8u 0 i
   rw [Int.zero_add] at e
   rw [← e]
   exact ih (i + 1) k (by omega) (by omega) (by omega)
 exact key n 0 fu (by omega) (by omega) hf
def dk (keys:List Int) (Qu3:Bool) (p:Int):Int:=bif Qu3 then - kf keys p else kf keys p
theorem Q82 {keys:List Int} {p:Int} (h:0 ≤ p ∧ p < keys.length):ix keys p = some (kf keys p):=by
 have h1:p.toNat < keys.length:=by omega
 unfold kf ix
 rw [if_pos h.1,List.getElem?_eq_getElem h1]
 rfl
theorem Jh6 {fu:Nat} {keys a b:List Int} (Qu3:Bool) (ha:∀ p ∈ a,0 ≤ p ∧ p < keys.length) (hb:∀ p ∈ b,0 ≤ p ∧ p < keys.length) (hla:a.length ≤ 1048576) (hlb:b.length ≤ 1048576) :
    ∀ (m:Nat) (n:Nat) (out:List Int) (i j:Nat),i ≤ a.length → j ≤ b.length → (a.length - i) + (b.length - j) = m → m < n → out.length + m ≤ 2097152 →
     Qci fu keys Qu3 a b n out i j = some (out ++ mrg (dk keys Qu3) (a.drop i) (b.drop j)):=by
 intro m
 induction m with
 | zero =>
  intro n out i j hi hj hm hn ho
  obtain ⟨n,rfl⟩:∃ k,n = k + 1:=⟨n - 1,by omega⟩
  rw [Qci.eq_2]
  unfold Qk4
  rw [Qbe (by simp; omega),Qbe (by simp; omega),List.drop_of_length_le (show a.length ≤ i by omega),List.drop_of_length_le (show b.length ≤ j by omega)]
  simp [mrg]
 | succ m ih =>
  intro n out i j hi hj hm hn ho
  obtain ⟨n,rfl⟩:∃ k,n = k + 1:=⟨n - 1,by omega⟩
  have hL:Qci fu keys Qu3 a b (n + 1) out i j = Qhn fu (Qci fu keys Qu3 a b n) keys Qu3 a b out i j:=by
   rw [Qci.eq_2]
   unfold Qk4
   by_cases h:i < a.length
   · rw [Qcl (by simpa using h)]
   · rw [Qbe (by simpa using h),Qcl (by simp; omega)]
  have tA:∀ (h:i < a.length),(Qhw 8 out [a[i]]) = some (out ++ [a[i]]):=fun h=>ap1 (by simp; omega)
  have tB:∀ (h:j < b.length),(Qhw 8 out [b[j]]) = some (out ++ [b[j]]):=fun h=>ap1 (by simp; omega)
  have nA:∀ (h:i < a.length),Qci fu keys Qu3 a b n (out ++ [a[i]]) (w64 ((i:Int) + 1)) j = some (out ++ a[i] :: mrg (dk keys Qu3) (a.drop (i + 1)) (b.drop j)):=fun h=>by
   rw [Qxy i (by omega),ih n (out ++ [a[i]]) (i + 1) j (by omega) hj (by omega) (by omega) (by simp; omega)]
   simp
  have nB:∀ (h:j < b.length),Qci fu keys Qu3 a b n (out ++ [b[j]]) i (w64 ((j:Int) + 1)) = some (out ++ b[j] :: mrg (dk keys Qu3) (a.drop i) (b.drop (j + 1))):=fun h=>by
   rw [Qxy j (by omega),ih n (out ++ [b[j]]) i (j + 1) hi (by omega) (by omega) (by omega) (by simp; omega)]
   simp
  rw [hL]
  unfold Qhn
  by_cases hjb:j = b.length
  · have h:i < a.length:=by omega
    rw [Qcl (by simp [hjb]),Q0x h,Qab,tA h,Qab,nA h,List.drop_of_length_le (show b.length ≤ j by omega),Q7i,Q7i,← List.drop_eq_getElem_cons h]
  · have hj':j < b.length:=by omega
    rw [Qbe (by simp; omega)]
    by_cases hia:i = a.length
    · rw [Qcl (by simp [hia]),Q0x hj',Qab,tB hj',Qab,nB hj',List.drop_of_length_le (show a.length ≤ i by omega)]
      have e1:∀ l,mrg (dk keys Qu3) [] l = l:=fun l=>by rw [mrg]
      rw [e1,e1,← List.drop_eq_getElem_cons hj']
    · have hi':i < a.length:=by omega
      rw [Qbe (by simp; omega)]
      simp only [Q0x hi',Q0x hj',Qab,Q82 (ha _ (List.getElem_mem hi')),Q82 (hb _ (List.getElem_mem hj')),tA hi',tB hj',nA hi',nB hj']
      rw [List.drop_eq_getElem_cons hi',List.drop_eq_getElem_cons hj',Qv9,← List.drop_eq_getElem_cons hi',← List.drop_eq_getElem_cons hj']
      have hx:dk keys Qu3 a[i] = bif Qu3 then - kf keys a[i] else kf keys a[i]:=rfl
      have hy:dk keys Qu3 b[j] = bif Qu3 then - kf keys b[j] else kf keys b[j]:=rfl
      rw [hx,hy]
      generalize kf keys a[i] = x
      generalize kf keys b[j] = y
      cases Qu3
      · by_cases hc:y < x
        · rw [if_pos (by simpa using hc)]; simp [hc]
        · rw [if_neg (by simpa using hc)]
          have:decide (y > x) = true ∨ decide (y > x) = false:=by cases decide (y > x) <;> simp
          rcases this with h | h <;> simp [hc,h]
      · by_cases hc:x < y
        · have h:¬ y < x:=by omega
          rw [if_pos (by simpa using hc)]; simp [hc,h]
        · rw [if_neg (by simpa using hc)]
          have h:decide (y < x) = true ∨ decide (y < x) = false:=by cases decide (y < x) <;> simp
          rcases h with h | h <;> simp [hc,h]
theorem Q5v {fu:Nat} {keys:List Int} (Qu3:Bool) (hfu:2097153 ≤ fu):∀ (n:Nat) (l:List Int),l.length ≤ n → l.length ≤ 1048576 → (∀ p ∈ l,0 ≤ p ∧ p < keys.length) →
    Qie fu (n + 1) keys l Qu3 = some (msr (dk keys Qu3) (n + 1) l)
 | n,l,hn,hl,hm=>by
  rw [Qie.eq_2]
  unfold Qr4 msr
  by_cases h2:l.length < 2
  · rw [Qcl (by simp; omega),if_pos h2,ap1 (by simp; omega)]; rfl
  · rw [Qbe (by simp; omega),if_neg h2]
    have hd:Int.tdiv (l.length:Int) 2 = ((l.length / 2:Nat):Int):=by simp [Int.tdiv]
    obtain ⟨n,rfl⟩:∃ k,n = k + 1:=⟨n - 1,by omega⟩
    rw [hd,Qa8 (by omega) (by omega),Qty (by omega),Qty (by omega),Qab]
    simp only [Int.toNat_natCast,Int.toNat_zero,List.drop_zero,Nat.sub_zero,Qab]
    rw [Q5v Qu3 hfu n (l.take (l.length / 2)) (by rw [List.length_take]; omega) (by rw [List.length_take]; omega) (fun p hp=>hm p (List.mem_of_mem_take hp)),Qab]
    have e:(l.drop (l.length / 2)).take (l.length - l.length / 2) = l.drop (l.length / 2):=List.take_of_length_le (by rw [List.length_drop]; omega)
    rw [e,Q5v Qu3 hfu n (l.drop (l.length / 2)) (by rw [List.length_drop]; omega) (by rw [List.length_drop]; omega) (fun p hp=>hm p (List.mem_of_mem_drop hp)),Qab]
    have hp1:=(Qsw (dk keys Qu3) (n + 1) (l.take (l.length / 2)))
    have hp2:=(Qsw (dk keys Qu3) (n + 1) (l.drop (l.length / 2)))
    have l1:=hp1.length_eq
    have l2:=hp2.length_eq
    rw [List.length_take] at l1
    rw [List.length_drop] at l2
    rw [show (0:Int) = ((0:Nat):Int) from rfl]
    rw [Jh6 Qu3 (fun p hp=>hm p (List.mem_of_mem_take (hp1.mem_iff.1 hp))) (fun p hp=>hm p (List.mem_of_mem_drop (hp2.mem_iff.1 hp))) (by omega) (by omega) _ fu [] 0 0 (by omega) (by omega) rfl (by omega) (by simp; omega)]
    simp
theorem Jib {fu:Nat} {keys:List Int} (hfu:2097153 ≤ fu) (hl:keys.length ≤ 1048576):Qo2 fu keys = some (srt (kf keys) keys.length):=by
 unfold Qo2 Qpu
 rw [Q48 keys.length hl (by omega),Qab]
 obtain ⟨m,rfl⟩:∃ m,fu = m + 1:=⟨fu - 1,by omega⟩
 rw [Q5v false hfu m _ (by rw [Qfd]; omega) (by rw [Qfd]; omega) (fun p hp=>by have:=Qky.1 hp; omega),Qab]
 congr 1
 have e:dk keys false = kf keys:=rfl
 rw [e]
 exact Q6a (Qsw _ _ _) (Qts _ _ _ (by rw [Qfd]; omega) (Qvn _ _))
end Go.Proofs.YthddjkokpfdbnaaGreat
/- Names, table, fitting, the reason of spec and of impl. Each is the plain function of M0. -/
namespace Go.Proofs.YthddjkokpfdbnaaGreat
open Go
open Enc (rd ow)
open Arg (argv)
open Ret (retv)
open Wf (wf)
theorem lpP {σ α β:Type} (l:List α) (L:Nat → σ → Int → Option β) (F:List α → List α → σ → Option β) (hl:l.length ≤ 1099511627776)
    (hs:∀ n s pre x xs,l = pre ++ x :: xs → ix l (pre.length:Int) = some x → decide ((pre.length:Int) < (l.length:Int)) = true → (∀ s',L n s' (w64 ((pre.length:Int) + 1)) = F (pre ++ [x]) xs s') → L (n + 1) s (pre.length:Int) = F pre (x :: xs) s)
    (he:∀ n s,decide ((l.length:Int) < (l.length:Int)) = false → L (n + 1) s (l.length:Int) = F l [] s):∀ n s,l.length < n → L n s 0 = F [] l s:=by
 have key:∀ (xs pre:List α) (n:Nat) (s:σ),l = pre ++ xs → xs.length < n → L n s (pre.length:Int) = F pre xs s:=by
  intro xs
  induction xs with
  | nil =>
   intro pre n s he' hn
   obtain ⟨n,rfl⟩:∃ k,n = k + 1:=⟨n - 1,by omega⟩
   simp only [List.append_nil] at he'
   subst he'
   exact he n s (by simp)
  | cons x xs ih =>
   intro pre n s he' hn
   obtain ⟨n,rfl⟩:∃ k,n = k + 1:=⟨n - 1,by simp at hn; omega⟩
   have hlen:l.length = pre.length + (xs.length + 1):=by rw [he']; simp
   refine hs n s pre x xs he' ?_ (by simp; omega) fun s'=>?_
   · rw [Qq8,he']; simp
   · rw [Qxy _ (by omega)]
     have:=ih (pre ++ [x]) n s' (by simp [he']) (by simp at hn; omega)
     simpa using this
 intro n s hn
 simpa using key l [] n s rfl hn
theorem Q58 {α:Type} {pre rest:List α} {i:Int} {y:α} (h:ix pre i = some y):ix (pre ++ rest) i = some y:=by
 obtain ⟨h0,h1,h2⟩:=Qar h
 unfold ix
 rw [if_pos h0,List.getElem?_append_left (by omega),h2]
theorem Jgz (a b:Int):(a == b) = (b == a):=Bool.eq_iff_iff.2 (by simp only [beq_iff_eq]; exact ⟨Eq.symm,Eq.symm⟩)
theorem Qv3 {fu:Nat} {r:Request} (h:Sm fu r) (id:Int):Qgq fu r id = some (Qw9 (Qtf r id)):=by
 have hfu:=h.fu
 have ht:=h.types
 unfold Qgq Qtf
 rw [Q50 (fun y24=>Qon fu y24 id) (fun t=>t.f8 == id) (fun t _=>rfl) ht (by omega),Qab]
 rcases Q3v (fun t:Typ=>t.f8 == id) r.fT [] with ⟨h1,h2⟩ | ⟨h1,x,h2,h3⟩
 · simp only [List.length_nil] at h1
   rw [Qcl (by simpa using h1),h2]; rfl
 · simp only [List.length_nil,List.nil_append] at h1 h3
   rw [Qbe (by simpa using h1),h2]
   have h3':ix r.fT (Qxg (fun t=>t.f8 == id) r.fT 0) = some x:=h3
   rw [h3']; rfl
theorem Q7n {fu:Nat} {r:Request} (h:Sm fu r):Qfp fu r = some (Qw9 (Qtf r r.fP)):=by
 have hfu:=h.fu
 have ht:=h.types
 unfold Qfp Qtf
 refine lp r.fT (fun n (_:Unit) i=>Qfu fu r n i) (fun l _=>some (Qw9 (l.find? fun t=>t.f8 == r.fP))) (by omega) ?_ ?_ fu () (by omega)
 · intro n s i x xs hx hd ih
   simp only [Qfu.eq_2]
   unfold Qjs
   simp only [hd,cond_true,hx,Qab,ih (),List.find?_cons]
   cases x.f8 == r.fP <;> rfl
 · intro n s i hd
   simp only [Qfu.eq_2]
   unfold Qjs
   simp only [hd,cond_false]
   rfl
theorem Jfe {fu:Nat} {r:Request} (h:Sm fu r):Qj1 fu r = some (Qw9 (Qtf r r.fP)):=by
 unfold Qj1
 rw [Qv3 h]; rfl
theorem Q04 (o:Option Typ):(Qw9 o).2 = o.isSome:=by cases o <;> rfl
theorem Jg2 {fu:Nat} {r:Request} (h:Sm fu r):Qp2 fu r = some (Q74 r):=by
 have hfu:=h.fu
 have h1:=h.items
 have h2:=h.types
 have h3:=h.pairs
 have e11:Qda fu r fu 0 = some (!(r.fL.any fun p=>decide (p.fA ≥ r.fR) || decide (p.fB ≥ r.fR)) && (Qtf r r.fP).isSome):=by
  refine lp r.fL (fun n (_:Unit) i=>Qda fu r n i) (fun l _=>some (!(l.any fun p=>decide (p.fA ≥ r.fR) || decide (p.fB ≥ r.fR)) && (Qtf r r.fP).isSome)) (by omega) ?_ ?_ fu () (by omega)
  · intro n s i x xs hx hd ih
    simp only [Qda.eq_2]
    unfold Qku Qo5
    simp only [hd,cond_true,hx,Qab,ih (),List.any_cons]
    cases decide (x.fA ≥ r.fR) <;> cases decide (x.fB ≥ r.fR) <;> rfl
  · intro n s i hd
    simp only [Qda.eq_2]
    unfold Qku
    simp only [hd,cond_false,Q7n h,Qab,Q04]
    rfl
 have e7:∀ b,Qda fu r fu 0 = some b → Qbj fu r fu 0 = some (Q98 r.fR [] r.fG && b):=by
  intro b hb
  refine lpP r.fG (fun n (_:Unit) i=>Qbj fu r n i) (fun pre l _=>some (Q98 r.fR pre l && b)) (by omega) ?_ ?_ fu () (by omega)
  · intro n s pre x xs hl hx hd ih
    simp only [Qbj.eq_2]
    unfold Qlh
    simp only [hd,cond_true,hx,Qab,Q98]
    cases hc:decide (x.fF ≥ r.fR)
    · have hpl:pre.length ≤ r.fG.length:=by rw [hl]; simp
      have e8:Qd9 fu (fun i=>Qbj fu r n i) r (pre.length:Int) fu 0 = bif pre.any (fun y=>y.f8 == x.f8) then some false else Qbj fu r n (w64 ((pre.length:Int) + 1)):=by
       refine lp pre (fun m (_:Unit) i=>Qd9 fu (fun i=>Qbj fu r n i) r (pre.length:Int) m i) (fun l _=>bif l.any (fun y=>y.f8 == x.f8) then some false else Qbj fu r n (w64 ((pre.length:Int) + 1))) (by omega) ?_ ?_ fu () (by omega)
       · intro m s i y ys hy hd ih
         simp only [Qd9.eq_2]
         unfold Qkz
         have hy':ix r.fG i = some y:=by rw [hl]; exact Q58 hy
         simp only [hd,cond_true,hx,hy',Qab,ih (),List.any_cons]
         rw [Jgz x.f8 y.f8]
         cases y.f8 == x.f8 <;> rfl
       · intro m s i hd
         simp only [Qd9.eq_2]
         unfold Qkz
         simp only [hd,cond_false]
         rfl
      have e8':Qd9 fu (Qbj fu r n) r (pre.length:Int) fu 0 = bif pre.any (fun y=>y.f8 == x.f8) then some false else Qbj fu r n (w64 ((pre.length:Int) + 1)):=e8
      rw [cond_false,e8',ih ()]
      cases pre.any (fun y=>y.f8 == x.f8) <;> rfl
    · rfl
  · intro n s hd
    simp only [Qbj.eq_2]
    unfold Qlh
    simp only [hd,cond_false,hb]
    rfl
 have e3:∀ b,Qbj fu r fu 0 = some b → Qbs fu r fu 0 = some (Q6z Typ.f8 [] r.fT && b):=by
  intro b hb
  refine lpP r.fT (fun n (_:Unit) i=>Qbs fu r n i) (fun pre l _=>some (Q6z Typ.f8 pre l && b)) (by omega) ?_ ?_ fu () (by omega)
  · intro n s pre x xs hl hx hd ih
    simp only [Qbs.eq_2]
    unfold Qk9
    simp only [hd,cond_true,Q6z]
    have hpl:pre.length ≤ r.fT.length:=by rw [hl]; simp
    have e8:Qd7 fu (fun i=>Qbs fu r n i) r (pre.length:Int) fu 0 = bif pre.any (fun y=>y.f8 == x.f8) then some false else Qbs fu r n (w64 ((pre.length:Int) + 1)):=by
     refine lp pre (fun m (_:Unit) i=>Qd7 fu (fun i=>Qbs fu r n i) r (pre.length:Int) m i) (fun l _=>bif l.any (fun y=>y.f8 == x.f8) then some false else Qbs fu r n (w64 ((pre.length:Int) + 1))) (by omega) ?_ ?_ fu () (by omega)
     · intro m s i y ys hy hd ih
       simp only [Qd7.eq_2]
       unfold Qlm
       have hy':ix r.fT i = some y:=by rw [hl]; exact Q58 hy
       simp only [hd,cond_true,hx,hy',Qab,ih (),List.any_cons]
       rw [Jgz x.f8 y.f8]
       cases y.f8 == x.f8 <;> rfl
     · intro m s i hd
       simp only [Qd7.eq_2]
       unfold Qlm
       simp only [hd,cond_false]
       rfl
    have e8':Qd7 fu (Qbs fu r n) r (pre.length:Int) fu 0 = bif pre.any (fun y=>y.f8 == x.f8) then some false else Qbs fu r n (w64 ((pre.length:Int) + 1)):=e8
    rw [e8',ih ()]
    cases pre.any (fun y=>y.f8 == x.f8) <;> rfl
  · intro n s hd
    simp only [Qbs.eq_2]
    unfold Qk9
    simp only [hd,cond_false,hb]
    rfl
 unfold Qp2 Q74
 rw [e3 _ (e7 _ e11)]
 congr 1
 cases Q6z Typ.f8 [] r.fT <;> cases Q98 r.fR [] r.fG <;> cases (Qtf r r.fP).isSome <;> cases r.fL.any fun p=>decide (p.fA ≥ r.fR) || decide (p.fB ≥ r.fR) <;> rfl
theorem Q9y {α:Type} {l pre xs:List α} {x:α} (h:l = pre ++ x :: xs):sls l 0 (pre.length:Int) = some pre:=by
 rw [Qty ⟨by omega,by omega,by rw [h]; simp; omega⟩]
 simp [h]
theorem Jhz {fu:Nat} {r:Request} (h:Sm fu r):Qpp fu r = some (Q74 r):=by
 have hfu:=h.fu
 have h1:=h.items
 have h2:=h.types
 have h3:=h.pairs
 have e4:Qdg fu r fu 0 = some (Q98 r.fR [] r.fG && ((Qtf r r.fP).isSome && !(r.fL.any fun p=>decide (p.fA ≥ r.fR) || decide (p.fB ≥ r.fR)))):=by
  refine lpP r.fG (fun n (_:Unit) i=>Qdg fu r n i) (fun pre l _=>some (Q98 r.fR pre l && ((Qtf r r.fP).isSome && !(r.fL.any fun p=>decide (p.fA ≥ r.fR) || decide (p.fB ≥ r.fR))))) (by omega) ?_ ?_ fu () (by omega)
  · intro n s pre x xs hl hx hd ih
    simp only [Qdg.eq_2]
    unfold Qkq Qow
    have hpl:pre.length ≤ r.fG.length:=by rw [hl]; simp
    simp only [hd,cond_true,hx,Qab,Q9y hl,Qv2 (fun y=>Qqi fu y x) (fun y=>y.f8 == x.f8) (fun y _=>rfl) (show pre.length ≤ 1048576 by omega) (show pre.length < fu by omega),Q98,ih ()]
    cases decide (x.fF ≥ r.fR) <;> cases pre.any (fun y=>y.f8 == x.f8) <;> rfl
  · intro n s hd
    simp only [Qdg.eq_2]
    unfold Qkq
    simp only [hd,cond_false,Jfe h,Qab,Q04]
    rw [Q24 (fun y=>Ql9 fu y r) (fun p=>decide (p.fA ≥ r.fR) || decide (p.fB ≥ r.fR)) (fun p _=>by
     unfold Ql9
     cases decide (p.fA ≥ r.fR) <;> rfl) h3 (by omega),Qab]
    cases (Qtf r r.fP).isSome <;> rfl
 have e3:∀ b,Qdg fu r fu 0 = some b → Qe4 fu r fu 0 = some (Q6z Typ.f8 [] r.fT && b):=by
  intro b hb
  refine lpP r.fT (fun n (_:Unit) i=>Qe4 fu r n i) (fun pre l _=>some (Q6z Typ.f8 pre l && b)) (by omega) ?_ ?_ fu () (by omega)
  · intro n s pre x xs hl hx hd ih
    simp only [Qe4.eq_2]
    unfold Qk3
    have hpl:pre.length ≤ r.fT.length:=by rw [hl]; simp
    simp only [hd,cond_true,hx,Qab,Q9y hl,Q1r (fun y=>Qqh fu y x) (fun y=>y.f8 == x.f8) (fun y _=>rfl) (show pre.length ≤ 1048576 by omega) (show pre.length < fu by omega),Q6z,ih ()]
    cases pre.any (fun y=>y.f8 == x.f8) <;> rfl
  · intro n s hd
    simp only [Qe4.eq_2]
    unfold Qk3
    simp only [hd,cond_false,hb]
    rfl
 unfold Qpp Q74
 rw [e3 _ e4]
 congr 1
 cases Q6z Typ.f8 [] r.fT <;> cases Q98 r.fR [] r.fG <;> cases (Qtf r r.fP).isSome <;> cases r.fL.any fun p=>decide (p.fA ≥ r.fR) || decide (p.fB ≥ r.fR) <;> rfl
theorem Jfb {fu:Nat} {l:List Pair} (hl:l.length ≤ 1048576) (hf:l.length < fu) (a b:Int):Qft fu l a b = some (Qto l a b):=by
 unfold Qft Qto
 refine lp l (fun n (_:Unit) i=>Qf2 fu l a b n i) (fun l _=>some (l.any fun p=>p.fA == a && p.fB == b)) (by omega) ?_ ?_ fu () hf
 · intro n s i x xs hx hd ih
   simp only [Qf2.eq_2]
   unfold Qmu Qmc
   simp only [hd,cond_true,hx,Qab,ih (),List.any_cons]
   cases x.fA == a <;> cases x.fB == b <;> rfl
 · intro n s i hd
   simp only [Qf2.eq_2]
   unfold Qmu
   simp only [hd,cond_false]
   rfl
theorem Jdw {fu:Nat} {l:List Pair} (hl:l.length ≤ 1048576) (hf:l.length < fu) (a b:Int):Qhb fu l a b = some (Qto l a b):=by
 unfold Qhb Qcr Qc8 Qto
 have:=Qs0 l (fun n i=>Qbc fu l (⟨a,b⟩:Pair) n i) (fun p=>p.fA == a && p.fB == b) (by omega) (by
  intro n i x hx hd
  simp only [Qbc.eq_2]
  unfold Qck
  simp only [hd,cond_true,hx,Qab]
  have:decide ((⟨a,b⟩:Pair) = x) = (x.fA == a && x.fB == b):=by
   rcases x with ⟨c,d⟩
   apply Bool.eq_iff_iff.2
   simp only [decide_eq_true_eq,Pair.mk.injEq,Bool.and_eq_true,beq_iff_eq]
   exact ⟨fun ⟨h1,h2⟩=>⟨h1.symm,h2.symm⟩,fun ⟨h1,h2⟩=>⟨h1.symm,h2.symm⟩⟩
  rw [this]) (by
  intro n i hd
  simp only [Qbc.eq_2]
  unfold Qck
  simp only [hd,cond_false]) fu hf
 rw [this,Qab,Qth _ l 0 (by omega),Qab]
theorem Jg1 {fu:Nat} {l:List Pair} (hl:l.length ≤ 1048576) (hf:l.length < fu) (h64:64 < fu) (c:Int):Qpt fu l c = some (Ja8 l c):=by
 unfold Qpt Ja8
 rw [Q4x,Qab]
 cases hc:inb c 1 4
 · rfl
 rw [Qc7] at hc
 simp only [Bool.not_true,cond_false,Bool.true_and]
 have e4:∀ (k:Int → Option Bool) (a:Int),Qe3 fu k l c a fu 0 = bif (Qlq 0 c.toNat).all fun b=>Qto l a b == Qto l b a then k (w64 (a + 1)) else some false:=by
  intro k a
  refine lpN c (fun n (_:Unit) i=>Qe3 fu k l c a n i) (fun xs _=>bif xs.all fun b=>Qto l a b == Qto l b a then k (w64 (a + 1)) else some false) (by omega) ?_ ?_ c.toNat fu () 0 (by omega) (by omega) (by omega)
  · intro n s i xs h0 h1 hd ih
    simp only [Qe3.eq_2]
    unfold Ql2
    simp only [hd,cond_true,Jdw hl hf,Qab,ih (),List.all_cons]
    cases Qto l a i == Qto l i a <;> rfl
  · intro n s i hd
    simp only [Qe3.eq_2]
    unfold Ql2
    simp only [hd,cond_false]
    rfl
 refine lpN c (fun n (_:Unit) i=>Qfa fu l c n i) (fun xs _=>some (xs.all fun a=>Qto l a a && (Qlq 0 c.toNat).all fun b=>Qto l a b == Qto l b a)) (by omega) ?_ ?_ c.toNat fu () 0 (by omega) (by omega) (by omega)
 · intro n s i xs h0 h1 hd ih
   simp only [Qfa.eq_2]
   unfold Qll
   simp only [hd,cond_true,Jdw hl hf,Qab,e4,ih (),List.all_cons]
   cases Qto l i i <;> cases (Qlq 0 c.toNat).all fun b=>Qto l i b == Qto l b i <;> rfl
 · intro n s i hd
   simp only [Qfa.eq_2]
   unfold Qll
   simp only [hd,cond_false]
   rfl
theorem Jgk {fu:Nat} {l:List Pair} (hl:l.length ≤ 1048576) (hf:l.length < fu) (h64:64 < fu) (c:Int):Qpr fu l c = some (Ja8 l c):=by
 unfold Qpr Ja8
 rw [Q1a,Qab]
 cases hc:inb c 1 4
 · rfl
 rw [Qc7] at hc
 simp only [Bool.not_true,cond_false,Bool.true_and]
 have e4:∀ (k:Int → Option Bool) (a:Int),Qeb fu k l c a fu 0 = bif (Qlq 0 c.toNat).all fun b=>(!(a == b) || Qto l a a) && (Qto l a b == Qto l b a) then k (w64 (a + 1)) else some false:=by
  intro k a
  refine lpN c (fun n (_:Unit) i=>Qeb fu k l c a n i) (fun xs _=>bif xs.all fun b=>(!(a == b) || Qto l a a) && (Qto l a b == Qto l b a) then k (w64 (a + 1)) else some false) (by omega) ?_ ?_ c.toNat fu () 0 (by omega) (by omega) (by omega)
  · intro n s i xs h0 h1 hd ih
    simp only [Qeb.eq_2]
    unfold Qkv Qkd
    simp only [hd,cond_true,Jfb hl hf,Qab,ih (),List.all_cons]
    cases a == i <;> cases Qto l a a <;> cases Qto l a i == Qto l i a <;> rfl
  · intro n s i hd
    simp only [Qeb.eq_2]
    unfold Qkv
    simp only [hd,cond_false]
    rfl
 have e9:Qdh fu l c fu 0 = some ((Qlq 0 c.toNat).all fun a=>(Qlq 0 c.toNat).all fun b=>(!(a == b) || Qto l a a) && (Qto l a b == Qto l b a)):=by
  refine lpN c (fun n (_:Unit) i=>Qdh fu l c n i) (fun xs _=>some (xs.all fun a=>(Qlq 0 c.toNat).all fun b=>(!(a == b) || Qto l a a) && (Qto l a b == Qto l b a))) (by omega) ?_ ?_ c.toNat fu () 0 (by omega) (by omega) (by omega)
  · intro n s i xs h0 h1 hd ih
    simp only [Qdh.eq_2]
    unfold Qk1
    simp only [hd,cond_true,e4,ih (),List.all_cons]
    cases (Qlq 0 c.toNat).all fun b=>(!(i == b) || Qto l i i) && (Qto l i b == Qto l b i) <;> rfl
  · intro n s i hd
    simp only [Qdh.eq_2]
    unfold Qk1
    simp only [hd,cond_false]
    rfl
 rw [e9]
 congr 1
 apply Bool.eq_iff_iff.2
 simp only [List.all_eq_true,Bool.and_eq_true,Bool.or_eq_true,Bool.not_eq_true',beq_eq_false_iff_ne,beq_iff_eq]
 constructor
 · intro h a ha
   refine ⟨?_,fun b hb=>(h a ha b hb).2⟩
   rcases (h a ha a ha).1 with h1 | h1
   · exact absurd rfl h1
   · exact h1
 · intro h a ha b hb
   exact ⟨.inr (h a ha).1,(h a ha).2 b hb⟩
theorem Jin {l:List Int} (h:l.length = 3):∃ p q s,l = [p,q,s]:=by
 match l,h with
 | [p,q,s],_=>exact ⟨p,q,s,rfl⟩
theorem Je6 {fu:Nat} (hfu:2097153 ≤ fu) (a b c:Int):Qmp fu a b c = some [(sid a b c).1,(sid a b c).2.1,(sid a b c).2.2]:=by
 unfold Qmp
 rw [Jib hfu (by simp),Qab,show [a,b,c].length = 3 from rfl]
 have hp:=Qux (kf [a,b,c]) 3
 have hs:=Qwl (kf [a,b,c]) 3
 obtain ⟨p,q,s,hq⟩:=Jin (Qvl (kf [a,b,c]) 3)
 rw [hq] at hp hs ⊢
 have hmem:∀ x ∈ [p,q,s],0 ≤ x ∧ x < 3:=fun x hx=>by
  have:=Qky.1 (hp.mem_iff.1 hx)
  omega
 have k1:=Q82 (keys:=[a,b,c]) (p:=p) (by have:=hmem p (by simp); simpa using this)
 have k2:=Q82 (keys:=[a,b,c]) (p:=q) (by have:=hmem q (by simp); simpa using this)
 have k3:=Q82 (keys:=[a,b,c]) (p:=s) (by have:=hmem s (by simp); simpa using this)
 rw [show ix [p,q,s] 0 = some p from rfl,show ix [p,q,s] 1 = some q from rfl,show ix [p,q,s] 2 = some s from rfl]
 simp only [Qab,k1,k2,k3]
 have hp3:([a,b,c]).Perm [kf [a,b,c] p,kf [a,b,c] q,kf [a,b,c] s]:=(hp.map (kf [a,b,c])).symm
 simp only [List.pairwise_cons,List.mem_cons,List.not_mem_nil,or_false,forall_eq_or_imp,forall_eq,lx] at hs
 have:=Jft hp3 (by omega) (by omega)
 rw [this]
theorem Jdi {fu:Nat} (hfu:2097153 ≤ fu) (x:Item) (t:Typ):Qqm fu x t = some (Q0l x t):=by
 unfold Qqm Q0l
 rw [Je6 hfu,Je6 hfu]
 simp only [Qab]
 have e0:∀ a b c:Int,ix [a,b,c] 0 = some a:=fun _ _ _=>rfl
 have e1:∀ a b c:Int,ix [a,b,c] 1 = some b:=fun _ _ _=>rfl
 have e2:∀ a b c:Int,ix [a,b,c] 2 = some c:=fun _ _ _=>rfl
 simp only [e0,e1,e2,Qab]
 cases decide ((sid x.fW x.fH x.fD).1 ≤ (sid t.fW t.fH t.fD).1) <;> cases decide ((sid x.fW x.fH x.fD).2.1 ≤ (sid t.fW t.fH t.fD).2.1) <;> cases decide ((sid x.fW x.fH x.fD).2.2 ≤ (sid t.fW t.fH t.fD).2.2) <;> rfl
theorem Q77 (a b c:Int):Q2m [a,b,c] = some [(sid a b c).1,(sid a b c).2.1,(sid a b c).2.2]:=by
 unfold Q2m
 rw [if_pos (by simp)]
 have hp:=List.mergeSort_perm [a,b,c] (fun x y=>decide (x ≤ y))
 have hs:=Qsm [a,b,c]
 obtain ⟨p,q,s,hq⟩:=Jin (hp.length_eq)
 rw [hq] at hp hs ⊢
 simp only [List.pairwise_cons,List.mem_cons,List.not_mem_nil,or_false,forall_eq_or_imp,forall_eq] at hs
 rw [Jft hp.symm (by omega) (by omega)]
theorem Jfk (fu:Nat) (x:Item) (t:Typ):Qr6 fu x t = some (Q0l x t):=by
 unfold Qr6 Qsh Qc1 Q0l
 rw [Q77,Q77]
 have e0:∀ a b c:Int,ix [a,b,c] 0 = some a:=fun _ _ _=>rfl
 have e1:∀ a b c:Int,ix [a,b,c] 1 = some b:=fun _ _ _=>rfl
 have e2:∀ a b c:Int,ix [a,b,c] 2 = some c:=fun _ _ _=>rfl
 simp only [Qab,e0,e1,e2]
 cases decide ((sid x.fW x.fH x.fD).1 ≤ (sid t.fW t.fH t.fD).1) <;> cases decide ((sid x.fW x.fH x.fD).2.1 ≤ (sid t.fW t.fH t.fD).2.1) <;> cases decide ((sid x.fW x.fH x.fD).2.2 ≤ (sid t.fW t.fH t.fD).2.2) <;> rfl
theorem Q0h {fu:Nat} {r:Request} (h:Sm fu r):Qen fu r = some (Qh7 r):=by
 have hfu:=h.fu
 have h1:=h.items
 have h2:=h.types
 have h3:=h.pairs
 have e4:Qfj fu r fu 0 = some (bif r.fT.any (Q60 r.fQ) then 6 else 0):=by
  refine lp r.fT (fun n (_:Unit) i=>Qfj fu r n i) (fun l _=>some (bif l.any (Q60 r.fQ) then 6 else 0)) (by omega) ?_ ?_ fu () (by omega)
  · intro n s i x xs hx hd ih
    simp only [Qfj.eq_2]
    unfold Qo1 Qre
    simp only [hd,cond_true,hx,Qab,ih (),List.any_cons,Q60]
    cases decide (x.fW > r.fQ.fW) <;> cases decide (x.fD > r.fQ.fD) <;> cases decide (x.fH > r.fQ.fH) <;> cases decide (w64 (x.f7 + x.fV) > r.fQ.fV) <;> rfl
  · intro n s i hd
    simp only [Qfj.eq_2]
    unfold Qo1
    simp only [hd,cond_false]
    rfl
 unfold Qen Qh7
 rw [Jgw h,Qab,Jg2 h,Qab,Jgk h3 (by omega) (by omega),Qab,Q7n h,Qab]
 have e1:Qgo fu r (Qw9 (Qtf r r.fP)) fu 0 = some (bif !(r.fG.all fun x=>Q0l x (Qx3 r)) then 5 else bif r.fT.any (Q60 r.fQ) then 6 else 0):=by
  refine lp r.fG (fun n (_:Unit) i=>Qgo fu r (Qw9 (Qtf r r.fP)) n i) (fun l _=>some (bif !(l.all fun x=>Q0l x (Qx3 r)) then 5 else bif r.fT.any (Q60 r.fQ) then 6 else 0)) (by omega) ?_ ?_ fu () (by omega)
  · intro n s i x xs hx hd ih
    simp only [Qgo.eq_2]
    unfold Qo6
    simp only [hd,cond_true,hx,Qab,Jdi hfu,ih (),List.all_cons]
    rw [show (Qw9 (Qtf r r.fP)).1 = Qx3 r from rfl]
    cases Q0l x (Qx3 r) <;> rfl
  · intro n s i hd
    simp only [Qgo.eq_2]
    unfold Qo6
    simp only [hd,cond_false,e4]
    rfl
 rw [e1]
 cases Q2x r <;> cases Q74 r <;> cases Ja8 r.fL r.fR <;> rfl
theorem Jgn {fu:Nat} {r:Request} (h:Sm fu r):Qsn fu r = some (Qh7 r):=by
 have hfu:=h.fu
 have h1:=h.items
 have h2:=h.types
 have h3:=h.pairs
 unfold Qsn Qh7
 rw [Jfe h,Qab,Jhs h,Qab,Jhz h,Qab,Jg1 h3 (by omega) (by omega),Qab]
 rw [Qv2 (fun y=>Qps fu y (Qw9 (Qtf r r.fP)).1) (fun x=>!Q0l x (Qx3 r)) (fun x _=>by
  unfold Qps
  rw [Jfk,Qab]; rfl) h1 (by omega),Qab]
 rw [Q1r (fun y=>Qp1 fu y r.fQ) (Q60 r.fQ) (fun x _=>by
  unfold Qp1 Q60
  cases decide (x.fW > r.fQ.fW) <;> cases decide (x.fD > r.fQ.fD) <;> cases decide (x.fH > r.fQ.fH) <;> rfl) h2 (by omega),Qab]
 rw [show (r.fG.any fun x=>!Q0l x (Qx3 r)) = !(r.fG.all fun x=>Q0l x (Qx3 r)) by simp [List.not_all_eq_any_not]]
 cases Q2x r <;> cases Q74 r <;> cases Ja8 r.fL r.fR <;> cases r.fG.all fun x=>Q0l x (Qx3 r) <;> cases r.fT.any (Q60 r.fQ) <;> rfl
theorem Qvm {fu:Nat} {r:Request} (h:Sm fu r):Qgn fu r = some (Qh7 r == 0):=by
 unfold Qgn
 rw [Jgn h]; rfl
end Go.Proofs.YthddjkokpfdbnaaGreat
/- PlanOk, by spec and by impl. -/
namespace Go.Proofs.YthddjkokpfdbnaaGreat
open Go
open Enc (rd ow)
open Arg (argv)
open Ret (retv)
open Wf (wf)
def Jb9:List Int → List Int → Bool
 | _,[]=>true
 | pre,x :: xs=>inb x 0 999 && ((match pre.getLast? with | none=>true | some y=>decide (y < x)) && Jb9 (pre ++ [x]) xs)
def Jfj (l:List Int):Bool:=Jb9 [] l && decide ((l.length:Int) ≤ 100)
def Ja4 (c:Carton):Bool:=inb c.fO 0 999 && (inb c.fE 0 3 && Jfj c.fM)
def Q97 (s:Spot):Bool:=inb s.fQ 0 2000 && (inb s.fX 0 2000 && (inb s.fY 0 2000 && inb s.fZ 0 2000))
def Q4e (x:Plan):Bool:=x.fU.length == x.fJ.length && (decide ((x.fJ.length:Int) ≤ 100) && (x.fJ.zip x.fU).all fun p=>Ja4 p.1 && Q97 p.2)
theorem Q7m {pre:List Int} {x:Int} {xs l:List Int} (hl:l.length ≤ 1048576) (e:l = pre ++ x :: xs):(pre.getLast? = none ∧ pre.length = 0) ∨ ∃ y,pre.getLast? = some y ∧ 0 < pre.length ∧ ix l (w64 ((pre.length:Int) - 1)) = some y:=by
 cases hp:pre.getLast? with
 | none=>exact .inl ⟨rfl,by simpa using List.getLast?_eq_none_iff.1 hp⟩
 | some y =>
  have hne:pre ≠ []:=fun e=>by subst e; simp at hp
  have hpos:0 < pre.length:=List.length_pos_iff.2 hne
  refine .inr ⟨y,rfl,hpos,?_⟩
  have h1:w64 ((pre.length:Int) - 1) = ((pre.length - 1:Nat):Int):=by
   have:pre.length ≤ l.length:=by rw [e]; simp
   rw [Qa8 (by omega) (by omega)]; omega
  rw [h1,Qq8,e,List.getElem?_append_left (by omega),← List.getLast?_eq_getElem?,hp]
theorem Jg6 {fu:Nat} {l:List Int} (hl:l.length ≤ 1048576) (hf:l.length < fu):Qj8 fu l = some (Jfj l):=by
 unfold Qj8 Jfj
 have key:=lpP l (fun n (_:Unit) i=>Qdi fu l n i) (fun pre xs _=>some (Jb9 pre xs && decide ((l.length:Int) ≤ 100))) (by omega) ?_ ?_ fu () hf
 · exact key
 · intro n _ pre x xs e hx hd ih
   have ih:=ih ()
   simp only [Qdi.eq_2]
   unfold Qh6 Qg5 Jb9
   rw [hd,cond_true,hx,Qab,Q4x,Qab]
   cases inb x 0 999
   · rfl
   · rw [Bool.not_true,cond_false,Bool.true_and]
     rcases Q7m (hl:=hl) e with ⟨h1,h2⟩ | ⟨y,h1,h2,h3⟩
     · rw [h1,show decide ((pre.length:Int) > 0) = false from decide_eq_false (by omega),cond_false,ih]
       simp
     · rw [h1,show decide ((pre.length:Int) > 0) = true from decide_eq_true (by omega),cond_true,h3,Qab,ih]
       by_cases hy:y < x
       · rw [show decide (y ≥ x) = false by simp; omega,cond_false]; simp [hy]
       · rw [show decide (y ≥ x) = true by simp; omega,cond_true]; simp [hy]
 · intro n _ hd
   simp only [Qdi.eq_2]
   unfold Qh6
   rw [hd,cond_false]
   simp [Jb9]
theorem Jh7 {fu:Nat} {c:Carton} (hl:c.fM.length ≤ 1048576) (hf:c.fM.length < fu):Ql8 fu c = some (Ja4 c):=by
 unfold Ql8 Ja4
 rw [Jf0,Qab,Q1a,Qab]
 cases inb c.fO 0 999
 · rfl
 · rw [Bool.not_true,cond_false]
   cases inb c.fE 0 3
   · rfl
   · rw [Bool.not_true,cond_false,Bool.true_and,Bool.true_and]
     unfold Jfj
     by_cases h1:(c.fM.length:Int) ≤ 100
     · rw [show decide ((c.fM.length:Int) > 100) = false by simp; omega,cond_false,show decide ((c.fM.length:Int) ≤ 100) = true by simpa using h1,Bool.and_true]
       unfold Qln
       have key:=lpP c.fM (fun n (_:Unit) i=>Qdz fu c n i) (fun pre xs _=>some (Jb9 pre xs)) (by omega) ?_ ?_ fu () hf
       · exact key
       · intro n _ pre x xs e hx hd ih
         have ih:=ih ()
         simp only [Qdz.eq_2]
         unfold Qim Qht Jb9
         rw [hd,cond_true,hx,Qab,Q1a,Qab]
         cases inb x 0 999
         · rfl
         · rw [Bool.not_true,cond_false,Bool.true_and]
           rcases Q7m (hl:=hl) e with ⟨h1,h2⟩ | ⟨y,h1,h2,h3⟩
           · rw [h1,show decide ((pre.length:Int) > 0) = false from decide_eq_false (by omega),cond_false,ih]
             simp
           · rw [h1,show decide ((pre.length:Int) > 0) = true from decide_eq_true (by omega),cond_true,Qab,h3,Qab,ih]
             by_cases hy:y < x
             · rw [show decide (x ≤ y) = false by simp; omega,cond_false]; simp [hy]
             · rw [show decide (x ≤ y) = true by simp; omega,cond_true]; simp [hy]
       · intro n _ hd
         simp only [Qdz.eq_2]
         unfold Qim
         rw [hd,cond_false]
         simp [Jb9]
     · rw [show decide ((c.fM.length:Int) > 100) = true by simp; omega,cond_true,show decide ((c.fM.length:Int) ≤ 100) = false by simpa using h1,Bool.and_false]
theorem Qub {α β:Type} {a:List α} {b:List β} {i:Int} {p:α × β} (h:ix (a.zip b) i = some p):ix a i = some p.1 ∧ ix b i = some p.2:=by
 obtain ⟨h0,_,h1⟩:=Qar h
 have:=List.getElem?_zip_eq_some.1 h1
 unfold ix
 rw [if_pos h0,if_pos h0]
 exact this
theorem Jg8 {fu:Nat} {x:Plan} (h:Sp x) (hf:1048577 ≤ fu):Qr1 fu x = some (Q4e x):=by
 have hs:=h.spots
 have hc:=h.cars
 unfold Qr1 Q4e
 cases he:x.fU.length == x.fJ.length
 · have:((x.fU.length:Int) != (x.fJ.length:Int)) = true:=by simp at he ⊢; omega
   rw [this]; rfl
 · have el:x.fU.length = x.fJ.length:=by simpa using he
   have:((x.fU.length:Int) != (x.fJ.length:Int)) = false:=by simp; omega
   rw [this,cond_false,Bool.true_and]
   by_cases h1:(x.fJ.length:Int) ≤ 100
   · rw [show decide ((x.fJ.length:Int) > 100) = false by simp; omega,cond_false,show decide ((x.fJ.length:Int) ≤ 100) = true by simpa using h1,Bool.true_and]
     unfold Qp5
     have hz:(x.fJ.zip x.fU).length = x.fJ.length:=by simp; omega
     have key:=lp (x.fJ.zip x.fU) (fun n (_:Unit) i=>Qfw fu x n i) (fun l _=>some (l.all fun p=>Ja4 p.1 && Q97 p.2)) (by omega) ?_ ?_ fu () (by omega)
     · exact key
     · intro n _ i p xs hx hd ih
       have ih:=ih ()
       obtain ⟨e1,e2⟩:=Qub hx
       have hu:=h.units p.1 (Qeg e1)
       rw [hz] at hd
       simp only [Qfw.eq_2]
       unfold Qmt Qp6
       simp only [hd,cond_true,e1,e2,Qab,Q4x,Jg6 hu (show p.1.fM.length < fu by omega),Q4s,ih,List.all_cons]
       unfold Ja4 Q97
       cases inb p.1.fO 0 999 <;> cases inb p.1.fE 0 3 <;> cases Jfj p.1.fM <;> cases inb p.2.fQ 0 2000 <;> cases inb p.2.fX 0 2000 <;> cases inb p.2.fY 0 2000 <;> cases inb p.2.fZ 0 2000 <;> rfl
     · intro n _ i hd
       rw [hz] at hd
       simp only [Qfw.eq_2]
       unfold Qmt
       simp [hd]
   · rw [show decide ((x.fJ.length:Int) > 100) = true by simp; omega,cond_true,show decide ((x.fJ.length:Int) ≤ 100) = false by simpa using h1,Bool.false_and]
theorem Jgt {fu:Nat} {x:Plan} (h:Sp x) (hf:1048577 ≤ fu):Qrd fu x = some (Q4e x):=by
 have hs:=h.spots
 have hc:=h.cars
 unfold Qrd Q4e
 cases he:x.fU.length == x.fJ.length
 · have:((x.fJ.length:Int) != (x.fU.length:Int)) = true:=by simp at he ⊢; omega
   rw [this]; rfl
 · have el:x.fU.length = x.fJ.length:=by simpa using he
   have:((x.fJ.length:Int) != (x.fU.length:Int)) = false:=by simp; omega
   rw [this,cond_false,Bool.true_and]
   by_cases h1:(x.fJ.length:Int) ≤ 100
   · rw [show decide ((x.fJ.length:Int) > 100) = false by simp; omega,cond_false,show decide ((x.fJ.length:Int) ≤ 100) = true by simpa using h1,Bool.true_and]
     unfold Qp7
     have hz:(x.fJ.zip x.fU).length = x.fJ.length:=by simp; omega
     have key:=lp (x.fJ.zip x.fU) (fun n (_:Unit) i=>Qf1 fu x n i) (fun l _=>some (l.all fun p=>Ja4 p.1 && Q97 p.2)) (by omega) ?_ ?_ fu () (by omega)
     · exact key
     · intro n _ i p xs hx hd ih
       have ih:=ih ()
       obtain ⟨e1,e2⟩:=Qub hx
       have hu:=h.units p.1 (Qeg e1)
       rw [hz] at hd
       simp only [Qf1.eq_2]
       unfold Qm6 Qqc
       simp only [hd,cond_true,e1,e2,Qab,Q1a,Jh7 hu (show p.1.fM.length < fu by omega),ih,List.all_cons]
       unfold Q97
       cases Ja4 p.1 <;> cases inb p.2.fQ 0 2000 <;> cases inb p.2.fX 0 2000 <;> cases inb p.2.fY 0 2000 <;> cases inb p.2.fZ 0 2000 <;> rfl
     · intro n _ i hd
       rw [hz] at hd
       simp only [Qf1.eq_2]
       unfold Qm6
       simp [hd]
   · rw [show decide ((x.fJ.length:Int) > 100) = true by simp; omega,cond_true,show decide ((x.fJ.length:Int) ≤ 100) = false by simpa using h1,Bool.false_and]
end Go.Proofs.YthddjkokpfdbnaaGreat
/- The units of an order, by spec and by impl. -/
namespace Go.Proofs.YthddjkokpfdbnaaGreat
open Go
open Enc (rd ow)
open Arg (argv)
open Ret (retv)
open Wf (wf)
theorem Jdk {σ α β:Type} (l:List α) (L:Nat → σ → Int → Option β) (F:List α → List α → σ → Option β) (I:List α → List α → σ → Prop) (hl:l.length ≤ 1099511627776)
    (hs:∀ n s pre x xs,l = pre ++ x :: xs → ix l (pre.length:Int) = some x → decide ((pre.length:Int) < (l.length:Int)) = true → I pre (x :: xs) s → (∀ s',I (pre ++ [x]) xs s' → L n s' (w64 ((pre.length:Int) + 1)) = F (pre ++ [x]) xs s') → L (n + 1) s (pre.length:Int) = F pre (x :: xs) s)
    (he:∀ n s,decide ((l.length:Int) < (l.length:Int)) = false → I l [] s → L (n + 1) s (l.length:Int) = F l [] s):∀ n s,I [] l s → l.length < n → L n s 0 = F [] l s:=by
 have key:∀ (xs pre:List α) (n:Nat) (s:σ),l = pre ++ xs → I pre xs s → xs.length < n → L n s (pre.length:Int) = F pre xs s:=by
  intro xs
  induction xs with
  | nil =>
   intro pre n s he' hI hn
   obtain ⟨n,rfl⟩:∃ k,n = k + 1:=⟨n - 1,by omega⟩
   simp only [List.append_nil] at he'
   subst he'
   exact he n s (by simp) hI
  | cons x xs ih =>
   intro pre n s he' hI hn
   obtain ⟨n,rfl⟩:∃ k,n = k + 1:=⟨n - 1,by simp at hn; omega⟩
   have hlen:l.length = pre.length + (xs.length + 1):=by rw [he']; simp
   refine hs n s pre x xs he' ?_ (by simp; omega) hI fun s' hI'=>?_
   · rw [Qq8,he']; simp
   · rw [Qxy _ (by omega)]
     have:=ih (pre ++ [x]) n s' (by simp [he']) hI' (by simp at hn; omega)
     simpa using this
 intro n s hI hn
 simpa using key l [] n s rfl hI hn
theorem Qyv {x:Item} (h:Qxa x = true):1 ≤ x.f0 ∧ x.f0 ≤ 6:=by
 simp only [Qxa,Bool.and_eq_true,Qc7] at h
 omega
theorem Jbs {xs:List Item} (h:∀ x ∈ xs,Qxa x = true):0 ≤ Qwd (xs.map (·.f0)):=Q7q _ _ fun x hx=>by have:=Qyv (h x hx); omega
theorem Jg9 {fu:Nat} {r:Request} (h:Sm fu r) (hb:Q2x r = true):Qcf fu r = some (l6M r):=by
 have hfu:=h.fu
 obtain ⟨hi,hs,hl⟩:=Qsi hb
 have e4:∀ (k:List Int → Int → Option (List Int)) (i:Int) (x:Item),ix r.fG i = some x → ∀ (m n:Nat) (c:Int) (out:List Int),0 ≤ c → c ≤ x.f0 → (x.f0 - c).toNat = m → x.f0 ≤ 6 → m < n → out.length + m ≤ 100 →
     Qgd fu k r i n out c = k (out ++ List.replicate m i) (w64 (i + 1)):=by
  intro k i x hx m
  induction m with
  | zero =>
   intro n c out h0 h1 h2 h3 h4 h5
   obtain ⟨n,rfl⟩:∃ j,n = j + 1:=⟨n - 1,by omega⟩
   rw [Qgd.eq_2]
   unfold Qli
   rw [hx,Qab,Qbe (by simp; omega)]
   simp
  | succ m ih =>
   intro n c out h0 h1 h2 h3 h4 h5
   obtain ⟨n,rfl⟩:∃ j,n = j + 1:=⟨n - 1,by omega⟩
   rw [Qgd.eq_2]
   unfold Qli
   rw [hx,Qab,Qcl (by simp; omega),ap1 (by simp; omega),Qab,Qa8 (by omega) (by omega),ih n (c + 1) (out ++ [i]) (by omega) (by omega) (by omega) h3 (by omega) (by simp; omega)]
   rw [List.append_assoc,List.singleton_append,← List.replicate_succ]
 unfold Qcf l6M
 have:=Jdk r.fG (fun n out i=>Qd5 fu r n out i) (fun pre xs out=>some (out ++ Q6h (pre.length:Int) xs)) (fun pre xs out=>(out.length:Int) + Qwd (xs.map (·.f0)) ≤ 12 ∧ ∀ x ∈ xs,Qxa x = true) (by omega) ?_ ?_ fu [] ⟨by simpa using hs,hi⟩ (by omega)
 · simpa using this
 · intro n out pre x xs hl' hx hd hI ih
   simp only [Qd5.eq_2]
   unfold Qk8
   have hc:=Qyv (hI.2 x (by simp))
   have hsum:=hI.1
   have hnn:=Jbs (fun y hy=>hI.2 y (by simp [hy]):∀ y ∈ xs,Qxa y = true)
   simp only [List.map_cons,Qp0] at hsum
   have e:=e4 (Qd5 fu r n) (pre.length:Int) x hx x.f0.toNat fu 0 out (by omega) (by omega) (by omega) (by omega) (by omega) (by omega)
   rw [hd,cond_true,e,ih _ ⟨by simp; omega,fun y hy=>hI.2 y (by simp [hy])⟩]
   simp [Q6h]
 · intro n out hd hI
   simp only [Qd5.eq_2]
   unfold Qk8
   simp only [hd,cond_false]
   simp [Q6h]
theorem Jc1 {fu:Nat} {r:Request} (h:Sm fu r) (hc:Qh7 r = 0):Qcf fu r = some (Qil r):=by
 unfold Qil
 rw [Jg9 h (Qfb hc).1,Qcl (by simp [hc])]
theorem Jhl {fu:Nat} {r:Request} (h:Sm fu r):Qsk fu r = some (Qil r):=by
 unfold Qsk Qil
 rw [Q0h h,Qab]
 by_cases hc:Qh7 r = 0
 · rw [Qbe (by simp [hc]),Jg9 h (Qfb hc).1,Qab,Qcl (by simp [hc])]
 · rw [Qcl (by simp [hc]),Qbe (by simp [hc])]
theorem Jio (fu:Nat) (c:Int) (h:1 ≤ c ∧ c ≤ 6):Quu fu (IntKind.wrap .u64 1) (IntKind.wrap .u64 c) = some (0,c):=by
 have:c = 1 ∨ c = 2 ∨ c = 3 ∨ c = 4 ∨ c = 5 ∨ c = 6:=by omega
 rcases this with rfl | rfl | rfl | rfl | rfl | rfl <;> rfl
theorem Jha (m:Nat) (i:Int):Qbq (m + 10) [i] (0,1) = some (List.replicate 1 i):=by kernel_rfl
theorem Jhu (m:Nat) (i:Int):Qbq (m + 10) [i] (0,2) = some (List.replicate 2 i):=by kernel_rfl
theorem Jh8 (m:Nat) (i:Int):Qbq (m + 10) [i] (0,3) = some (List.replicate 3 i):=by kernel_rfl
theorem Jhb (m:Nat) (i:Int):Qbq (m + 10) [i] (0,4) = some (List.replicate 4 i):=by kernel_rfl
theorem Jh2 (m:Nat) (i:Int):Qbq (m + 10) [i] (0,5) = some (List.replicate 5 i):=by kernel_rfl
theorem Jgv (m:Nat) (i:Int):Qbq (m + 10) [i] (0,6) = some (List.replicate 6 i):=by kernel_rfl
theorem Jir {fu:Nat} (hfu:10 ≤ fu) (i c:Int) (h:1 ≤ c ∧ c ≤ 6):Qfm fu [i] c = some (List.replicate c.toNat i):=by
 unfold Qfm Qf6
 rw [Qbe (by simp; omega)]
 rw [show (([i]:List Int).length:Int) = 1 from rfl,Jio fu c h,Qab,Qbe (by simp),Qbe (by simp; omega)]
 obtain ⟨m,rfl⟩:∃ m,fu = m + 10:=⟨fu - 10,by omega⟩
 have:c = 1 ∨ c = 2 ∨ c = 3 ∨ c = 4 ∨ c = 5 ∨ c = 6:=by omega
 rcases this with rfl | rfl | rfl | rfl | rfl | rfl
 · exact Jha m i
 · exact Jhu m i
 · exact Jh8 m i
 · exact Jhb m i
 · exact Jh2 m i
 · exact Jgv m i
theorem Jcs {fu:Nat} {r:Request} (h:Sm fu r):Qn8 fu r = some (Qil r):=by
 have hfu:=h.fu
 unfold Qn8 Qil
 rw [Qvm h,Qab]
 by_cases hc:Qh7 r = 0
 · obtain ⟨hi,hs,hl⟩:=Qsi (Qfb hc).1
   rw [Qbe (by simp [hc]),Qcl (by simp [hc])]
   unfold l6M
   have:=Jdk r.fG (fun n out i=>Qhr fu r n out i) (fun pre xs out=>some (out ++ Q6h (pre.length:Int) xs)) (fun pre xs out=>(out.length:Int) + Qwd (xs.map (·.f0)) ≤ 12 ∧ ∀ x ∈ xs,Qxa x = true) (by omega) ?_ ?_ fu [] ⟨by simpa using hs,hi⟩ (by omega)
   · simpa using this
   · intro n out pre x xs hl' hx hd hI ih
     simp only [Qhr.eq_2]
     unfold Qoy
     have hc:=Qyv (hI.2 x (by simp))
     have hsum:=hI.1
     have hnn:=Jbs (fun y hy=>hI.2 y (by simp [hy]):∀ y ∈ xs,Qxa y = true)
     simp only [List.map_cons,Qp0] at hsum
     rw [hd,cond_true,hx,Qab,Jir (by omega) _ _ hc,Qab,ap1 (by simp; omega),Qab,ih _ ⟨by simp; omega,fun y hy=>hI.2 y (by simp [hy])⟩]
     simp [Q6h]
   · intro n out hd hI
     simp only [Qhr.eq_2]
     unfold Qoy
     simp only [hd,cond_false]
     simp [Q6h]
 · rw [Qcl (by simp [hc]),Qbe (by simp [hc])]
end Go.Proofs.YthddjkokpfdbnaaGreat
/- Volumes of units, by spec and by impl. -/
namespace Go.Proofs.YthddjkokpfdbnaaGreat
open Go
open Enc (rd ow)
open Arg (argv)
open Ret (retv)
open Wf (wf)
theorem Jie {w h d:Int} (hb:(inb w 0 2000 && (inb h 0 2000 && inb d 0 2000)) = true):w64 ((w64 (w * h)) * d) = w * h * d:=by
 simp only [Bool.and_eq_true,Qc7] at hb
 obtain ⟨⟨h1,h2⟩,⟨h3,h4⟩,h5,h6⟩:=hb
 have a1:0 ≤ w * h:=Int.mul_nonneg h1 h3
 have a2:w * h ≤ 2000 * 2000:=Int.mul_le_mul h2 h4 h3 (by omega)
 have a3:0 ≤ w * h * d:=Int.mul_nonneg a1 h5
 have a4:w * h * d ≤ 2000 * 2000 * 2000:=Int.mul_le_mul a2 h6 h5 (by omega)
 rw [Qa8 (n:=w * h) (by omega) (by omega),Qa8 (by omega) (by omega)]
theorem Jcf (fu:Nat) (w h d:Int):Qlk fu w h d = some (Q6n w h d):=by
 unfold Qlk Qqb Q6n
 simp only [Q1a,Qab]
 cases h1:inb w 0 2000 <;> cases h2:inb h 0 2000 <;> cases h3:inb d 0 2000 <;> simp only [Bool.not_true,Bool.not_false,cond_true,cond_false,Bool.and_true,Bool.and_false]
 rw [Jie (by simp only [h1,h2,h3]; rfl)]
theorem Jff (fu:Nat) (w h d:Int):Qo0 fu w h d = some (Q6n w h d):=by
 unfold Qo0 Qp9 Q6n
 simp only [Q4x,Qab]
 cases h1:inb w 0 2000 <;> cases h2:inb h 0 2000 <;> cases h3:inb d 0 2000 <;> simp only [Bool.not_true,Bool.not_false,cond_true,cond_false,Bool.and_true,Bool.and_false]
 rw [Jie (by simp only [h1,h2,h3]; rfl)]
def Qur (r:Request) (u:Int):Item:=(Q1b r u).getD Q6i
theorem Q2c (r:Request):w64 (((Qil r).length:Int) - 1) = ((Qil r).length:Int) - 1:=by
 have:=Qx1 r
 exact Qa8 (by omega) (by omega)
theorem Q5p (fu:Nat) (r:Request) (u:Int):Qis fu r (Qil r) u = some (Qur r u,(Q1b r u).isSome):=by
 unfold Qis Qur
 rw [Q2c,Q1a,Qab]
 by_cases h:0 ≤ u ∧ u < (Qil r).length
 · obtain ⟨i,x,h1,h2,h3⟩:=Q4a h
   rw [Qbe (by simp; omega),h1,Qab,h2,Qab,h3]
   rfl
 · rw [Qcl (by simp [inb]; omega),Q2n h]
   rfl
theorem Jak:Q84 Q6i = 0:=by simp [Q84,Q6n,Q6i]
theorem Q1w {fu:Nat} {r:Request} (h:Sm fu r) (us:List Int) (hl:us.length ≤ 1048576) (hf:us.length < fu):Qhf fu r us = some (Qw2 r us):=by
 unfold Qhf
 rw [Jcs h,Qab]
 have key:=lpI us (fun n s i=>Qe7 fu r us (Qil r) n s i) (fun l out=>some (out ++ Qw2 r l)) (fun l out=>out.length + l.length ≤ 1048576) (by omega) ?_ ?_ fu [] (by simpa using hl) hf
 · simpa using key
 · intro n s i x xs hx hd hI ih
   simp only [Qe7.eq_2]
   unfold Qlg Qkf
   simp only [hd,cond_true,hx,Qab,Q2c,Q4x]
   simp only [List.length_cons] at hI
   by_cases hu:0 ≤ x ∧ x < (Qil r).length
   · obtain ⟨i',y,h1,h2,h3⟩:=Q4a hu
     rw [Qcl (by simp; omega),h1,Qab,h2,Qab,ap1 (by simp; omega),Qab,ih _ (by simp; omega)]
     simp [Qw2,List.filterMap_cons,h3]
   · rw [Qbe (by simp [inb]; omega),ih _ (by omega)]
     simp [Qw2,List.filterMap_cons,Q2n hu]
 · intro n s i hd _
   simp only [Qe7.eq_2]
   unfold Qlg
   simp only [hd,cond_false]
   simp [Qw2]
theorem Jdf {fu:Nat} {r:Request} (h:Sm fu r) (us:List Int) (hl:us.length ≤ 1048576) (hf:us.length < fu):Qod fu r us = some (Qzu r us):=by
 unfold Qod
 rw [Q1w h us hl hf,Qab]
 have hlen:=Qvu r us
 have key:=lpI (Qw2 r us) (fun n s i=>Qfi fu (Qw2 r us) n s i) (fun l n=>some (n + Qwd (l.map Q84))) (fun l n=>0 ≤ n ∧ n + 8000000000 * l.length ≤ 8000000000 * 1048576) (by omega) ?_ ?_ fu 0 ⟨by omega,by omega⟩ (by omega)
 · simpa [Qzu] using key
 · intro n s i x xs hx hd hI ih
   simp only [Qfi.eq_2]
   unfold Qjd
   simp only [hd,cond_true,hx,Qab,Jff]
   have hv:=Q9m x.fW x.fH x.fD
   have h2:=hI.2
   simp only [List.length_cons] at h2
   rw [Qa8 (by omega) (by omega),ih _ ⟨by omega,by omega⟩]
   simp only [List.map_cons,Qp0,Q84]
   congr 1
   omega
 · intro n s i hd _
   simp only [Qfi.eq_2]
   unfold Qjd
   simp only [hd,cond_false]
   simp
end Go.Proofs.YthddjkokpfdbnaaGreat
/- Weights of units, by spec and by impl. -/
namespace Go.Proofs.YthddjkokpfdbnaaGreat
open Go
open Enc (rd ow)
open Arg (argv)
open Ret (retv)
open Wf (wf)
theorem Q3f (r:Request) (u:Int):0 ≤ (Qur r u).fV ∧ (Qur r u).fV ≤ 100000:=by
 unfold Qur
 cases hm:Q1b r u with
 | none=>simp [Q6i]
 | some x=>exact Q15 (r:=r) (us:=[u]) (by simp [Qw2,List.filterMap_cons,hm])
theorem Jgq {fu:Nat} {r:Request} (h:Sm fu r) (us:List Int) (hl:us.length ≤ 1048576) (hf:us.length < fu):Qrh fu r us = some (Qvw r us):=by
 unfold Qrh
 rw [Jhl h,Qab]
 have key:=lpI us (fun n s i=>Qeq fu r us (Qil r) n s i) (fun l n=>some (n + Qvw r l)) (fun l n=>0 ≤ n ∧ n + 100000 * l.length ≤ 100000 * 1048576) (by omega) ?_ ?_ fu 0 ⟨by omega,by omega⟩ hf
 · simpa using key
 · intro n s i x xs hx hd hI ih
   simp only [Qeq.eq_2]
   unfold Qnj Qp8 Qqf
   simp only [hd,cond_true,hx,Qab,Q5p]
   have hv:=Q3f r x
   have h2:=hI.2
   simp only [List.length_cons] at h2
   rw [Qa8 (by omega) (by omega),ih _ ⟨by omega,by omega⟩]
   congr 1
   have e:Qvw r (x :: xs) = (Qur r x).fV + Qvw r xs:=by
    unfold Qvw Qw2 Qur
    cases hm:Q1b r x with
    | none=>simp [List.filterMap_cons,hm,Q6i]
    | some y=>simp [List.filterMap_cons,hm]
   rw [e]
   omega
 · intro n s i hd _
   simp only [Qeq.eq_2]
   unfold Qnj
   simp only [hd,cond_false]
   simp [Qvw,Qw2]
theorem Jfl {fu:Nat} {r:Request} (h:Sm fu r) (us:List Int) (hl:us.length ≤ 1048576) (hf:us.length < fu):Qor fu r us = some (Qvw r us):=by
 unfold Qor
 rw [Q1w h us hl hf,Qab]
 have hlen:=Qvu r us
 have key:=lpI (Qw2 r us) (fun n s i=>Qg1 fu (Qw2 r us) n s i) (fun l n=>some (n + Qwd (l.map (·.fV)))) (fun l n=>0 ≤ n ∧ n + 100000 * l.length ≤ 100000 * 1048576 ∧ ∀ x ∈ l,0 ≤ x.fV ∧ x.fV ≤ 100000) (by omega) ?_ ?_ fu 0 ⟨by omega,by omega,fun x hx=>Q15 hx⟩ (by omega)
 · simpa [Qvw] using key
 · intro n s i x xs hx hd hI ih
   simp only [Qg1.eq_2]
   unfold Qm8
   simp only [hd,cond_true,hx,Qab]
   have hv:=hI.2.2 x (by simp)
   have h2:=hI.2.1
   simp only [List.length_cons] at h2
   rw [Qa8 (by omega) (by omega),ih _ ⟨by omega,by omega,fun y hy=>hI.2.2 y (by simp [hy])⟩]
   simp only [List.map_cons,Qp0]
   congr 1
   omega
 · intro n s i hd _
   simp only [Qg1.eq_2]
   unfold Qm8
   simp only [hd,cond_false]
   simp
end Go.Proofs.YthddjkokpfdbnaaGreat
