/- What the program's f.. -/
import Derived.Test.YtpcmapfabndggaaGreatQ2
import Derived.Test.YtpcmapfabndggaaGreatD1
import Derived.Test.YtpcmapfabndggaaGreatS13
set_option linter.unusedSimpArgs false
set_option linter.unusedVariables false
namespace Go.Proofs.YtpcmapfabndggaaGreat
open Go
open Enc (rd ow)
open Arg (argv)
open Ret (retv)
open Wf (wf)
def inb (n lo hi:Int):Bool:=decide (lo ≤ n ∧ n ≤ hi)
@[simp] theorem Qd3 {n lo hi:Int}:inb n lo hi = true ↔ lo ≤ n ∧ n ≤ hi:=by simp [inb]
def Qz7 (p:Pallet):Bool:=inb p.fW 1 2000 && (inb p.fD 1 2000 && (inb p.fH 1 2000 && inb p.fV 1 100000))
def Q14 (t:Typ):Bool:=inb t.f8 0 999 && (inb t.fW 1 2000 && (inb t.fH 1 2000 && (inb t.fD 1 2000 && (inb t.f7 0 100000 && (inb t.fV 1 100000 && inb t.fK 0 100000)))))
def Qxl (x:Item):Bool:=inb x.f8 0 999 && (inb x.fW 1 2000 && (inb x.fH 1 2000 && (inb x.fD 1 2000 && (inb x.fV 1 100000 && (inb x.fF 0 3 && inb x.f0 1 6)))))
def prB (p:Pair):Bool:=inb p.fA 0 3 && inb p.fB 0 3
def Qwr:List Int → Int
 | []=>0
 | x :: xs=>x + Qwr xs
@[simp] theorem Jhf:Qwr [] = 0:=rfl
@[simp] theorem Qqd (x:Int) (xs:List Int):Qwr (x :: xs) = x + Qwr xs:=rfl
theorem Jeu {α:Type} (f:α → Int) (l:List α) (b:Int) (h:∀ x ∈ l,f x ≤ b):Qwr (l.map f) ≤ b * l.length:=by
 induction l with
 | nil=>simp
 | cons x xs ih =>
  have h1:=h x (by simp)
  have h2:=ih (λy hy=>h y (by simp [hy]))
  simp only [List.map_cons,Qqd,List.length_cons]
  rw [show ((xs.length + 1:Nat):Int) = (xs.length:Int) + 1 by omega,Int.mul_add]
  omega
theorem Q82 {α:Type} (f:α → Int) (l:List α) (h:∀ x ∈ l,0 ≤ f x):0 ≤ Qwr (l.map f):=by
 induction l with
 | nil=>simp
 | cons x xs ih =>
  have h1:=h x (by simp)
  have h2:=ih (λy hy=>h y (by simp [hy]))
  simp only [List.map_cons,Qqd]
  omega
def Q3y (r:Request):Bool :=
 inb r.qQ 0 1 && Qz7 r.fJ && inb r.fR 1 4 && decide (r.fL.length ≤ 16) && r.fL.all prB && inb r.fT.length 1 5 && r.fT.all Q14 && inb r.fP 0 999 && decide (r.fG.length ≤ 8) && (r.fG.all Qxl && decide (Qwr (r.fG.map (·.f0)) ≤ 12))
def Qty (l:List Pair) (a b:Int):Bool:=l.any λp=>p.fA == a && p.fB == b
def Jb6 (l:List Pair) (c:Int):Bool:=inb c 1 4 && (Qj3 0 c.toNat).all λa=>Qty l a a && (Qj3 0 c.toNat).all λb=>Qty l a b == Qty l b a
def Jfs:Typ:=⟨0,0,0,0,0,0,0⟩
def Q63:Item:=⟨0,0,0,0,0,0,0⟩
def Qtn (r:Request) (id:Int):Option Typ:=r.fT.find? λt=>t.f8 == id
def Qxh (o:Option Typ):Typ × Bool:=match o with | some t=>(t,true) | none=>(Jfs,false)
def Q7g {α:Type} (f:α → Int):List α → List α → Bool
 | _,[]=>true
 | pre,x :: xs=>!(pre.any λy=>f y == f x) && Q7g f (pre ++ [x]) xs
def Ja2 (c:Int):List Item → List Item → Bool
 | _,[]=>true
 | pre,x :: xs=>!(decide (x.fF ≥ c)) && !(pre.any λy=>y.f8 == x.f8) && Ja2 c (pre ++ [x]) xs
def Q7n (r:Request):Bool :=
 Q7g Typ.f8 [] r.fT && Ja2 r.fR [] r.fG && (Qtn r r.fP).isSome && !(r.fL.any λp=>decide (p.fA ≥ r.fR) || decide (p.fB ≥ r.fR))
def sid (a b c:Int):Int × Int × Int :=
 let lo:=if a ≤ b then (if a ≤ c then a else c) else (if b ≤ c then b else c)
 let hi:=if a ≥ b then (if a ≥ c then a else c) else (if b ≥ c then b else c)
 (lo,a + b + c - lo - hi,hi)
def Q0c (x:Item) (t:Typ):Bool :=
 decide ((sid x.fW x.fH x.fD).1 ≤ (sid t.fW t.fH t.fD).1) && decide ((sid x.fW x.fH x.fD).2.1 ≤ (sid t.fW t.fH t.fD).2.1) && decide ((sid x.fW x.fH x.fD).2.2 ≤ (sid t.fW t.fH t.fD).2.2) && decide (x.fV ≤ t.fV)
def Qyg (r:Request):Typ:=(Qxh (Qtn r r.fP)).1
def Q7e (p:Pallet) (t:Typ):Bool:=decide (t.fW > p.fW) || (decide (t.fD > p.fD) || (decide (t.fH > p.fH) || decide (w64 (t.f7 + t.fV) > p.fV)))
def Qh3 (r:Request):Int :=
 bif !Q3y r then 2 else bif !Q7n r then 3 else bif !Jb6 r.fL r.fR then 4 else bif !(r.fG.all λx=>Q0c x (Qyg r)) then 5 else bif r.fT.any (Q7e r.fJ) then 6 else 0
def Q6t:Int → List Item → List Int
 | _,[]=>[]
 | i,x :: xs=>List.replicate x.f0.toNat i ++ Q6t (i + 1) xs
def l6M (r:Request):List Int:=Q6t 0 r.fG
def Qim (r:Request):List Int:=bif Qh3 r == 0 then l6M r else []
def Q1w (r:Request) (u:Int):Option Item:=Qac (ix (Qim r) u) λi=>ix r.fG i
def Q6r (w h d:Int):Int:=bif inb w 0 2000 && (inb h 0 2000 && inb d 0 2000) then w * h * d else 0
def Q9q (x:Item):Int:=Q6r x.fW x.fH x.fD
def Ja3 (x:Typ):Int:=Q6r x.fW x.fH x.fD
def Qxg (r:Request) (us:List Int):List Item:=us.filterMap (Q1w r)
def Qz4 (r:Request) (us:List Int):Int:=Qwr ((Qxg r us).map Q9q)
theorem Q87 (w h d:Int):0 ≤ Q6r w h d ∧ Q6r w h d ≤ 8000000000:=by
 unfold Q6r
 cases hb:inb w 0 2000 && (inb h 0 2000 && inb d 0 2000)
 · simp
 · simp only [Bool.and_eq_true,Qd3] at hb
   obtain ⟨⟨h1,h2⟩,⟨h3,h4⟩,h5,h6⟩:=hb
   simp only [cond_true]
   have a1:0 ≤ w * h:=Int.mul_nonneg h1 h3
   have a2:w * h ≤ 2000 * 2000:=Int.mul_le_mul h2 h4 h3 (by omega)
   have a3:0 ≤ w * h * d:=Int.mul_nonneg a1 h5
   have a4:w * h * d ≤ 2000 * 2000 * 2000:=Int.mul_le_mul a2 h6 h5 (by omega)
   omega
theorem Qfq {r:Request} (h:Qh3 r = 0):Q3y r = true ∧ Q7n r = true ∧ Jb6 r.fL r.fR = true ∧ (∀ x ∈ r.fG,Q0c x (Qyg r) = true) ∧ (∀ t ∈ r.fT,Q7e r.fJ t = false):=by
 unfold Qh3 at h
 cases h1:Q3y r
 · simp [h1] at h
 cases h2:Q7n r
 · simp [h1,h2] at h
 cases h3:Jb6 r.fL r.fR
 · simp [h1,h2,h3] at h
 cases h4:r.fG.all λx=>Q0c x (Qyg r)
 · simp only [h1,h2,h3,h4] at h; simp at h
 cases h5:r.fT.any (Q7e r.fJ)
 · refine ⟨rfl,rfl,rfl,by simpa using h4,?_⟩
   intro t ht
   have:=List.any_eq_false.1 h5 t ht
   simpa using this
 · simp only [h1,h2,h3,h4,h5] at h; simp at h
theorem Qzm {r:Request} (h:Q3y r = true):∀ t ∈ r.fT,Q14 t = true:=by
 simp only [Q3y,Bool.and_eq_true,List.all_eq_true] at h
 exact h.1.1.1.2
theorem Qsu {r:Request} (h:Q3y r = true):(∀ x ∈ r.fG,Qxl x = true) ∧ Qwr (r.fG.map (·.f0)) ≤ 12 ∧ r.fG.length ≤ 8:=by
 simp only [Q3y,Bool.and_eq_true,List.all_eq_true,decide_eq_true_eq] at h
 exact ⟨h.2.1,h.2.2,h.1.2⟩
theorem Q5p:∀ (l:List Item) (i:Int),(∀ x ∈ l,0 ≤ x.f0) → ((Q6t i l).length:Int) = Qwr (l.map (·.f0))
 | [],_,_=>rfl
 | x :: xs,i,h=>by
  have:=Q5p xs (i + 1) (λy hy=>h y (by simp [hy]))
  have hx:=h x (by simp)
  simp only [Q6t,List.length_append,List.length_replicate,List.map_cons,Qqd]
  omega
theorem Q5j:∀ (l:List Item) (i:Int) (u:Int),u ∈ Q6t i l → i ≤ u ∧ u < i + l.length
 | [],_,_,h=>by simp [Q6t] at h
 | x :: xs,i,u,h=>by
  simp only [Q6t,List.mem_append] at h
  rcases h with h | h
  · have:=(List.mem_replicate.1 h).2
    simp; omega
  · have:=Q5j xs (i + 1) u h
    simp; omega
theorem Q75 {r:Request} (h:Q3y r = true):(l6M r).length ≤ 12:=by
 obtain ⟨h1,h2,_⟩:=Qsu h
 have:=Q5p r.fG 0 (λx hx=>by
  have:=h1 x hx
  simp only [Qxl,Bool.and_eq_true,Qd3] at this
  omega)
 unfold l6M
 omega
theorem Qyi (r:Request):(Qim r).length ≤ 12:=by
 unfold Qim
 cases h:Qh3 r == 0
 · simp
 · exact Q75 (Qfq (by simpa using h)).1
theorem Q54 {r:Request} {i:Int} (h:i ∈ Qim r):0 ≤ i ∧ i < r.fG.length:=by
 unfold Qim at h
 cases hc:Qh3 r == 0
 · simp [hc] at h
 · simp only [hc,cond_true] at h
   have:=Q5j _ _ _ h
   omega
theorem Qd5 {α:Type} {l:List α} {i:Int} {x:α} (h:ix l i = some x):x ∈ l:=List.mem_of_getElem? (Qas h).2.2
theorem Q5b {r:Request} {u:Int} (h:0 ≤ u ∧ u < (Qim r).length):∃ i x,ix (Qim r) u = some i ∧ ix r.fG i = some x ∧ Q1w r u = some x:=by
 have h1:u.toNat < (Qim r).length:=by omega
 have e1:ix (Qim r) u = some (Qim r)[u.toNat]:=by
  unfold ix; rw [if_pos h.1,List.getElem?_eq_getElem h1]
 have h2:=Q54 (List.getElem_mem h1)
 have h3:((Qim r)[u.toNat]).toNat < r.fG.length:=by omega
 have e2:ix r.fG (Qim r)[u.toNat] = some r.fG[((Qim r)[u.toNat]).toNat]:=by
  unfold ix; rw [if_pos h2.1,List.getElem?_eq_getElem h3]
 refine ⟨_,_,e1,e2,?_⟩
 unfold Q1w
 rw [e1,Qab,e2]
theorem Q2m {r:Request} {u:Int} (h:¬ (0 ≤ u ∧ u < (Qim r).length)):Q1w r u = none:=by
 unfold Q1w ix
 by_cases h0:0 ≤ u
 · rw [if_pos h0,List.getElem?_eq_none (by omega)]; rfl
 · rw [if_neg h0]; rfl
theorem Qwm (r:Request) (us:List Int):(Qxg r us).length ≤ us.length:=List.length_filterMap_le _ _
end Go.Proofs.YtpcmapfabndggaaGreat
