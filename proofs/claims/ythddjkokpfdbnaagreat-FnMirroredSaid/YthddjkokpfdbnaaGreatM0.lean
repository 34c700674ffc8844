/- What the program's f.. -/
import Derived.Test.YthddjkokpfdbnaaGreatQ2
import Derived.Test.YthddjkokpfdbnaaGreatD1
import Derived.Test.YthddjkokpfdbnaaGreatS13
set_option linter.unusedSimpArgs false
set_option linter.unusedVariables false
namespace Go.Proofs.YthddjkokpfdbnaaGreat
open Go
open Enc (rd ow)
open Arg (argv)
open Ret (retv)
open Wf (wf)
def inb (n lo hi:Int):Bool:=decide (lo ≤ n ∧ n ≤ hi)
@[simp] theorem Qc7 {n lo hi:Int}:inb n lo hi = true ↔ lo ≤ n ∧ n ≤ hi:=by simp [inb]
def Qx4 (p:Pallet):Bool:=inb p.fW 1 2000 && (inb p.fD 1 2000 && (inb p.fH 1 2000 && inb p.fV 1 100000))
def Q1q (t:Typ):Bool:=inb t.f8 0 999 && (inb t.fW 1 2000 && (inb t.fH 1 2000 && (inb t.fD 1 2000 && (inb t.f7 0 100000 && (inb t.fV 1 100000 && inb t.fK 0 100000)))))
def Qxa (x:Item):Bool:=inb x.f8 0 999 && (inb x.fW 1 2000 && (inb x.fH 1 2000 && (inb x.fD 1 2000 && (inb x.fV 1 100000 && (inb x.fF 0 3 && inb x.f0 1 6)))))
def prB (p:Pair):Bool:=inb p.fA 0 3 && inb p.fB 0 3
def Qwd:List Int → Int
 | []=>0
 | x :: xs=>x + Qwd xs
@[simp] theorem Jf3:Qwd [] = 0:=rfl
@[simp] theorem Qp0 (x:Int) (xs:List Int):Qwd (x :: xs) = x + Qwd xs:=rfl
theorem Jcx {α:Type} (f:α → Int) (l:List α) (b:Int) (h:∀ x ∈ l,f x ≤ b):Qwd (l.map f) ≤ b * l.length:=by
 induction l with
 | nil=>simp
 | cons x xs ih =>
  have h1:=h x (by simp)
  have h2:=ih (fun y hy=>h y (by simp [hy]))
  simp only [List.map_cons,Qp0,List.length_cons]
  rw [show ((xs.length + 1:Nat):Int) = (xs.length:Int) + 1 by omega,Int.mul_add]
  omega
theorem Q7q {α:Type} (f:α → Int) (l:List α) (h:∀ x ∈ l,0 ≤ f x):0 ≤ Qwd (l.map f):=by
 induction l with
 | nil=>simp
 | cons x xs ih =>
  have h1:=h x (by simp)
  have h2:=ih (fun y hy=>h y (by simp [hy]))
  simp only [List.map_cons,Qp0]
  omega
def Q2x (r:Request):Bool :=
 inb r.qJ 0 1 && Qx4 r.fQ && inb r.fR 1 4 && decide (r.fL.length ≤ 16) && r.fL.all prB && inb r.fT.length 1 5 && r.fT.all Q1q && inb r.fP 0 999 && decide (r.fG.length ≤ 8) && (r.fG.all Qxa && decide (Qwd (r.fG.map (·.f0)) ≤ 12))
def Qto (l:List Pair) (a b:Int):Bool:=l.any fun p=>p.fA == a && p.fB == b
def Ja8 (l:List Pair) (c:Int):Bool:=inb c 1 4 && (Qlq 0 c.toNat).all fun a=>Qto l a a && (Qlq 0 c.toNat).all fun b=>Qto l a b == Qto l b a
def Jfc:Typ:=⟨0,0,0,0,0,0,0⟩
def Q6i:Item:=⟨0,0,0,0,0,0,0⟩
def Qtf (r:Request) (id:Int):Option Typ:=r.fT.find? fun t=>t.f8 == id
def Qw9 (o:Option Typ):Typ × Bool:=match o with | some t=>(t,true) | none=>(Jfc,false)
def Q6z {α:Type} (f:α → Int):List α → List α → Bool
 | _,[]=>true
 | pre,x :: xs=>!(pre.any fun y=>f y == f x) && Q6z f (pre ++ [x]) xs
def Q98 (c:Int):List Item → List Item → Bool
 | _,[]=>true
 | pre,x :: xs=>!(decide (x.fF ≥ c)) && !(pre.any fun y=>y.f8 == x.f8) && Q98 c (pre ++ [x]) xs
def Q74 (r:Request):Bool :=
 Q6z Typ.f8 [] r.fT && Q98 r.fR [] r.fG && (Qtf r r.fP).isSome && !(r.fL.any fun p=>decide (p.fA ≥ r.fR) || decide (p.fB ≥ r.fR))
def sid (a b c:Int):Int × Int × Int :=
 let lo:=if a ≤ b then (if a ≤ c then a else c) else (if b ≤ c then b else c)
 let hi:=if a ≥ b then (if a ≥ c then a else c) else (if b ≥ c then b else c)
 (lo,a + b + c - lo - hi,hi)
def Q0l (x:Item) (t:Typ):Bool :=
 decide ((sid x.fW x.fH x.fD).1 ≤ (sid t.fW t.fH t.fD).1) && decide ((sid x.fW x.fH x.fD).2.1 ≤ (sid t.fW t.fH t.fD).2.1) && decide ((sid x.fW x.fH x.fD).2.2 ≤ (sid t.fW t.fH t.fD).2.2) && decide (x.fV ≤ t.fV)
def Qx3 (r:Request):Typ:=(Qw9 (Qtf r r.fP)).1
def Q60 (p:Pallet) (t:Typ):Bool:=decide (t.fW > p.fW) || (decide (t.fD > p.fD) || (decide (t.fH > p.fH) || decide (w64 (t.f7 + t.fV) > p.fV)))
def Qh7 (r:Request):Int :=
 bif !Q2x r then 2 else bif !Q74 r then 3 else bif !Ja8 r.fL r.fR then 4 else bif !(r.fG.all fun x=>Q0l x (Qx3 r)) then 5 else bif r.fT.any (Q60 r.fQ) then 6 else 0
def Q6h:Int → List Item → List Int
 | _,[]=>[]
 | i,x :: xs=>List.replicate x.f0.toNat i ++ Q6h (i + 1) xs
def l6M (r:Request):List Int:=Q6h 0 r.fG
def Qil (r:Request):List Int:=bif Qh7 r == 0 then l6M r else []
def Q1b (r:Request) (u:Int):Option Item:=Qac (ix (Qil r) u) fun i=>ix r.fG i
def Q6n (w h d:Int):Int:=bif inb w 0 2000 && (inb h 0 2000 && inb d 0 2000) then w * h * d else 0
def Q84 (x:Item):Int:=Q6n x.fW x.fH x.fD
def Jaa (x:Typ):Int:=Q6n x.fW x.fH x.fD
def Qw2 (r:Request) (us:List Int):List Item:=us.filterMap (Q1b r)
def Qzu (r:Request) (us:List Int):Int:=Qwd ((Qw2 r us).map Q84)
theorem Q9m (w h d:Int):0 ≤ Q6n w h d ∧ Q6n w h d ≤ 8000000000:=by
 unfold Q6n
 cases hb:inb w 0 2000 && (inb h 0 2000 && inb d 0 2000)
 · simp
 · simp only [Bool.and_eq_true,Qc7] at hb
   obtain ⟨⟨h1,h2⟩,⟨h3,h4⟩,h5,h6⟩:=hb
   simp only [cond_true]
   have a1:0 ≤ w * h:=Int.mul_nonneg h1 h3
   have a2:w * h ≤ 2000 * 2000:=Int.mul_le_mul h2 h4 h3 (by omega)
   have a3:0 ≤ w * h * d:=Int.mul_nonneg a1 h5
   have a4:w * h * d ≤ 2000 * 2000 * 2000:=Int.mul_le_mul a2 h6 h5 (by omega)
   omega
theorem Qfb {r:Request} (h:Qh7 r = 0):Q2x r = true ∧ Q74 r = true ∧ Ja8 r.fL r.fR = true ∧ (∀ x ∈ r.fG,Q0l x (Qx3 r) = true) ∧ (∀ t ∈ r.fT,Q60 r.fQ t = false):=by
 unfold Qh7 at h
 cases h1:Q2x r
 · simp [h1] at h
 cases h2:Q74 r
 · simp [h1,h2] at h
 cases h3:Ja8 r.fL r.fR
 · simp [h1,h2,h3] at h
 cases h4:r.fG.all fun x=>Q0l x (Qx3 r)
 · simp only [h1,h2,h3,h4] at h; simp at h
 cases h5:r.fT.any (Q60 r.fQ)
 · refine ⟨rfl,rfl,rfl,by simpa using h4,?_⟩
   intro t ht
   have:=List.any_eq_false.1 h5 t ht
   simpa using this
 · simp only [h1,h2,h3,h4,h5] at h; simp at h
theorem Qys {r:Request} (h:Q2x r = true):∀ t ∈ r.fT,Q1q t = true:=by
 simp only [Q2x,Bool.and_eq_true,List.all_eq_true] at h
 exact h.1.1.1.2
theorem Qsi {r:Request} (h:Q2x r = true):(∀ x ∈ r.fG,Qxa x = true) ∧ Qwd (r.fG.map (·.f0)) ≤ 12 ∧ r.fG.length ≤ 8:=by
 simp only [Q2x,Bool.and_eq_true,List.all_eq_true,decide_eq_true_eq] at h
 exact ⟨h.2.1,h.2.2,h.1.2⟩
theorem Q54:∀ (l:List Item) (i:Int),(∀ x ∈ l,0 ≤ x.f0) → ((Q6h i l).length:Int) = Qwd (l.map (·.f0))
 | [],_,_=>rfl
 | x :: xs,i,h=>by
  have:=Q54 xs (i + 1) (fun y hy=>h y (by simp [hy]))
  have hx:=h x (by simp)
  simp only [Q6h,List.length_append,List.length_replicate,List.map_cons,Qp0]
  omega
theorem Q5d:∀ (l:List Item) (i:Int) (u:Int),u ∈ Q6h i l → i ≤ u ∧ u < i + l.length
 | [],_,_,h=>by simp [Q6h] at h
 | x :: xs,i,u,h=>by
  simp only [Q6h,List.mem_append] at h
  rcases h with h | h
  · have:=(List.mem_replicate.1 h).2
    simp; omega
  · have:=Q5d xs (i + 1) u h
    simp; omega
theorem Q9k {r:Request} (h:Q2x r = true):(l6M r).length ≤ 12:=by
 obtain ⟨h1,h2,_⟩:=Qsi h
 have:=Q54 r.fG 0 (fun x hx=>by
  have:=h1 x hx
  simp only [Qxa,Bool.and_eq_true,Qc7] at this
  omega)
 unfold l6M
 omega
theorem Qx1 (r:Request):(Qil r).length ≤ 12:=by
 unfold Qil
 cases h:Qh7 r == 0
 · simp
 · exact Q9k (Qfb (by simpa using h)).1
theorem Q5k {r:Request} {i:Int} (h:i ∈ Qil r):0 ≤ i ∧ i < r.fG.length:=by
 unfold Qil at h
 cases hc:Qh7 r == 0
 · simp [hc] at h
 · simp only [hc,cond_true] at h
   have:=Q5d _ _ _ h
   omega
theorem Qeg {α:Type} {l:List α} {i:Int} {x:α} (h:ix l i = some x):x ∈ l:=List.mem_of_getElem? (Qar h).2.2
theorem Q4a {r:Request} {u:Int} (h:0 ≤ u ∧ u < (Qil r).length):∃ i x,ix (Qil r) u = some i ∧ ix r.fG i = some x ∧ Q1b r u = some x:=by
 have h1:u.toNat < (Qil r).length:=by omega
 have e1:ix (Qil r) u = some (Qil r)[u.toNat]:=by
  unfold ix; rw [if_pos h.1,List.getElem?_eq_getElem h1]
 have h2:=Q5k (List.getElem_mem h1)
 have h3:((Qil r)[u.toNat]).toNat < r.fG.length:=by omega
 have e2:ix r.fG (Qil r)[u.toNat] = some r.fG[((Qil r)[u.toNat]).toNat]:=by
  unfold ix; rw [if_pos h2.1,List.getElem?_eq_getElem h3]
 refine ⟨_,_,e1,e2,?_⟩
 unfold Q1b
 rw [e1,Qab,e2]
theorem Q2n {r:Request} {u:Int} (h:¬ (0 ≤ u ∧ u < (Qil r).length)):Q1b r u = none:=by
 unfold Q1b ix
 by_cases h0:0 ≤ u
 · rw [if_pos h0,List.getElem?_eq_none (by omega)]; rfl
 · rw [if_neg h0]; rfl
theorem Qvu (r:Request) (us:List Int):(Qw2 r us).length ≤ us.length:=List.length_filterMap_le _ _
end Go.Proofs.YthddjkokpfdbnaaGreat
