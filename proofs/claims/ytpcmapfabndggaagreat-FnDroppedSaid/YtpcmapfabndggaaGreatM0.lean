/- What the program's f.. -/
import Derived.Test.YtpcmapfabndggaaGreatQ2
import Derived.Test.YtpcmapfabndggaaGreatD1
import Derived.Test.YtpcmapfabndggaaGreatS13
set_option linter.unusedSimpArgs false
set_option linter.unusedVariables false
namespace Go.Proofs.YtpcmapfabndggaaGreat
open Go
open Enc (rd ow)
open Arg (argv)
open Ret (retv)
open Wf (wf)
def inb (n lo hi:Int):Bool:=decide (lo ≤ n ∧ n ≤ hi)
@[simp] theorem Qdz {n lo hi:Int}:inb n lo hi = true ↔ lo ≤ n ∧ n ≤ hi:=by simp [inb]
def Qz2 (p:Pallet):Bool:=inb p.fW 1 2000 && (inb p.fD 1 2000 && (inb p.fH 1 2000 && inb p.fV 1 100000))
def Q15 (t:Typ):Bool:=inb t.f8 0 999 && (inb t.fW 1 2000 && (inb t.fH 1 2000 && (inb t.fD 1 2000 && (inb t.f7 0 100000 && (inb t.fV 1 100000 && inb t.fK 0 100000)))))
def Qxh (x:Item):Bool:=inb x.f8 0 999 && (inb x.fW 1 2000 && (inb x.fH 1 2000 && (inb x.fD 1 2000 && (inb x.fV 1 100000 && (inb x.fF 0 3 && inb x.f0 1 6)))))
def prB (p:Pair):Bool:=inb p.fA 0 3 && inb p.fB 0 3
def Qwp:List Int → Int
 | []=>0
 | x :: xs=>x + Qwp xs
@[simp] theorem Jhn:Qwp [] = 0:=rfl
@[simp] theorem Qpq (x:Int) (xs:List Int):Qwp (x :: xs) = x + Qwp xs:=rfl
theorem Jev {α:Type} (f:α → Int) (l:List α) (b:Int) (h:∀ x ∈ l,f x ≤ b):Qwp (l.map f) ≤ b * l.length:=by
 induction l with
 | nil=>simp
 | cons x xs ih =>
  have h1:=h x (by simp)
  have h2:=ih (λy hy=>h y (by simp [hy]))
  simp only [List.map_cons,Qpq,List.length_cons]
  rw [show ((xs.length + 1:Nat):Int) = (xs.length:Int) + 1 by omega,Int.mul_add]
  omega
theorem Q9s {α:Type} (f:α → Int) (l:List α) (h:∀ x ∈ l,0 ≤ f x):0 ≤ Qwp (l.map f):=by
 induction l with
 | nil=>simp
 | cons x xs ih =>
  have h1:=h x (by simp)
  have h2:=ih (λy hy=>h y (by simp [hy]))
  simp only [List.map_cons,Qpq]
  omega
def Q30 (r:Request):Bool :=
 inb r.qQ 0 1 && Qz2 r.fJ && inb r.fR 1 4 && decide (r.fL.length ≤ 16) && r.fL.all prB && inb r.fT.length 1 5 && r.fT.all Q15 && inb r.fP 0 999 && decide (r.fG.length ≤ 8) && (r.fG.all Qxh && decide (Qwp (r.fG.map (·.f0)) ≤ 12))
def Qtx (l:List Pair) (a b:Int):Bool:=l.any λp=>p.fA == a && p.fB == b
def Jcg (l:List Pair) (c:Int):Bool:=inb c 1 4 && (Qkd 0 c.toNat).all λa=>Qtx l a a && (Qkd 0 c.toNat).all λb=>Qtx l a b == Qtx l b a
def Jgp:Typ:=⟨0,0,0,0,0,0,0⟩
def Q66:Item:=⟨0,0,0,0,0,0,0⟩
def Qtn (r:Request) (id:Int):Option Typ:=r.fT.find? λt=>t.f8 == id
def Qxm (o:Option Typ):Typ × Bool:=match o with | some t=>(t,true) | none=>(Jgp,false)
def Q7e {α:Type} (f:α → Int):List α → List α → Bool
 | _,[]=>true
 | pre,x :: xs=>!(pre.any λy=>f y == f x) && Q7e f (pre ++ [x]) xs
def Ja3 (c:Int):List Item → List Item → Bool
 | _,[]=>true
 | pre,x :: xs=>!(decide (x.fF ≥ c)) && !(pre.any λy=>y.f8 == x.f8) && Ja3 c (pre ++ [x]) xs
def Jac (r:Request):Bool :=
 Q7e Typ.f8 [] r.fT && Ja3 r.fR [] r.fG && (Qtn r r.fP).isSome && !(r.fL.any λp=>decide (p.fA ≥ r.fR) || decide (p.fB ≥ r.fR))
def sid (a b c:Int):Int × Int × Int :=
 let lo:=if a ≤ b then (if a ≤ c then a else c) else (if b ≤ c then b else c)
 let hi:=if a ≥ b then (if a ≥ c then a else c) else (if b ≥ c then b else c)
 (lo,a + b + c - lo - hi,hi)
def Q04 (x:Item) (t:Typ):Bool :=
 decide ((sid x.fW x.fH x.fD).1 ≤ (sid t.fW t.fH t.fD).1) && decide ((sid x.fW x.fH x.fD).2.1 ≤ (sid t.fW t.fH t.fD).2.1) && decide ((sid x.fW x.fH x.fD).2.2 ≤ (sid t.fW t.fH t.fD).2.2) && decide (x.fV ≤ t.fV)
def Qyl (r:Request):Typ:=(Qxm (Qtn r r.fP)).1
def Q7f (p:Pallet) (t:Typ):Bool:=decide (t.fW > p.fW) || (decide (t.fD > p.fD) || (decide (t.fH > p.fH) || decide (w64 (t.f7 + t.fV) > p.fV)))
def Qh9 (r:Request):Int :=
 bif !Q30 r then 2 else bif !Jac r then 3 else bif !Jcg r.fL r.fR then 4 else bif !(r.fG.all λx=>Q04 x (Qyl r)) then 5 else bif r.fT.any (Q7f r.fJ) then 6 else 0
def Q6t:Int → List Item → List Int
 | _,[]=>[]
 | i,x :: xs=>List.replicate x.f0.toNat i ++ Q6t (i + 1) xs
def l6M (r:Request):List Int:=Q6t 0 r.fG
def Qi0 (r:Request):List Int:=bif Qh9 r == 0 then l6M r else []
def Q2x (r:Request) (u:Int):Option Item:=Qac (ix (Qi0 r) u) λi=>ix r.fG i
def Q6s (w h d:Int):Int:=bif inb w 0 2000 && (inb h 0 2000 && inb d 0 2000) then w * h * d else 0
def Q8d (x:Item):Int:=Q6s x.fW x.fH x.fD
def Jaz (x:Typ):Int:=Q6s x.fW x.fH x.fD
def Qxv (r:Request) (us:List Int):List Item:=us.filterMap (Q2x r)
def Qz6 (r:Request) (us:List Int):Int:=Qwp ((Qxv r us).map Q8d)
theorem Q85 (w h d:Int):0 ≤ Q6s w h d ∧ Q6s w h d ≤ 8000000000:=by
 unfold Q6s
 cases hb:inb w 0 2000 && (inb h 0 2000 && inb d 0 2000)
 · simp
 · simp only [Bool.and_eq_true,Qdz] at hb
   obtain ⟨⟨h1,h2⟩,⟨h3,h4⟩,h5,h6⟩:=hb
   simp only [cond_true]
   have a1:0 ≤ w * h:=Int.mul_nonneg h1 h3
   have a2:w * h ≤ 2000 * 2000:=Int.mul_le_mul h2 h4 h3 (by omega)
   have a3:0 ≤ w * h * d:=Int.mul_nonneg a1 h5
   have a4:w * h * d ≤ 2000 * 2000 * 2000:=Int.mul_le_mul a2 h6 h5 (by omega)
   omega
theorem Qfv {r:Request} (h:Qh9 r = 0):Q30 r = true ∧ Jac r = true ∧ Jcg r.fL r.fR = true ∧ (∀ x ∈ r.fG,Q04 x (Qyl r) = true) ∧ (∀ t ∈ r.fT,Q7f r.fJ t = false):=by
 unfold Qh9 at h
 cases h1:Q30 r
 · simp [h1] at h
 cases h2:Jac r
 · simp [h1,h2] at h
 cases h3:Jcg r.fL r.fR
 · simp [h1,h2,h3] at h
 cases h4:r.fG.all λx=>Q04 x (Qyl r)
 · simp only [h1,h2,h3,h4] at h; simp at h
 cases h5:r.fT.any (Q7f r.fJ)
 · refine ⟨rfl,rfl,rfl,by simpa using h4,?_⟩
   intro t ht
   have:=List.any_eq_false.1 h5 t ht
   simpa using this
 · simp only [h1,h2,h3,h4,h5] at h; simp at h
theorem Qyv {r:Request} (h:Q30 r = true):∀ t ∈ r.fT,Q15 t = true:=by
 simp only [Q30,Bool.and_eq_true,List.all_eq_true] at h
 exact h.1.1.1.2
theorem Qs1 {r:Request} (h:Q30 r = true):(∀ x ∈ r.fG,Qxh x = true) ∧ Qwp (r.fG.map (·.f0)) ≤ 12 ∧ r.fG.length ≤ 8:=by
 simp only [Q30,Bool.and_eq_true,List.all_eq_true,decide_eq_true_eq] at h
 exact ⟨h.2.1,h.2.2,h.1.2⟩
theorem Q6d:∀ (l:List Item) (i:Int),(∀ x ∈ l,0 ≤ x.f0) → ((Q6t i l).length:Int) = Qwp (l.map (·.f0))
 | [],_,_=>rfl
 | x :: xs,i,h=>by
  have:=Q6d xs (i + 1) (λy hy=>h y (by simp [hy]))
  have hx:=h x (by simp)
  simp only [Q6t,List.length_append,List.length_replicate,List.map_cons,Qpq]
  omega
theorem Q5d:∀ (l:List Item) (i:Int) (u:Int),u ∈ Q6t i l → i ≤ u ∧ u < i + l.length
 | [],_,_,h=>by simp [Q6t] at h
 | x :: xs,i,u,h=>by
  simp only [Q6t,List.mem_append] at h
  rcases h with h | h
  · have:=(List.mem_replicate.1 h).2
    simp; omega
  · have:=Q5d xs (i + 1) u h
    simp; omega
theorem Q94 {r:Request} (h:Q30 r = true):(l6M r).length ≤ 12:=by
 obtain ⟨h1,h2,_⟩:=Qs1 h
 have:=Q6d r.fG 0 (λx hx=>by
  have:=h1 x hx
  simp only [Qxh,Bool.and_eq_true,Qdz] at this
  omega)
 unfold l6M
 omega
theorem Qyj (r:Request):(Qi0 r).length ≤ 12:=by
 unfold Qi0
 cases h:Qh9 r == 0
 · simp
 · exact Q94 (Qfv (by simpa using h)).1
theorem Q51 {r:Request} {i:Int} (h:i ∈ Qi0 r):0 ≤ i ∧ i < r.fG.length:=by
 unfold Qi0 at h
 cases hc:Qh9 r == 0
 · simp [hc] at h
 · simp only [hc,cond_true] at h
   have:=Q5d _ _ _ h
   omega
theorem Qd5 {α:Type} {l:List α} {i:Int} {x:α} (h:ix l i = some x):x ∈ l:=List.mem_of_getElem? (Qat h).2.2
theorem Q45 {r:Request} {u:Int} (h:0 ≤ u ∧ u < (Qi0 r).length):∃ i x,ix (Qi0 r) u = some i ∧ ix r.fG i = some x ∧ Q2x r u = some x:=by
 have h1:u.toNat < (Qi0 r).length:=by omega
 have e1:ix (Qi0 r) u = some (Qi0 r)[u.toNat]:=by
  unfold ix; rw [if_pos h.1,List.getElem?_eq_getElem h1]
 have h2:=Q51 (List.getElem_mem h1)
 have h3:((Qi0 r)[u.toNat]).toNat < r.fG.length:=by omega
 have e2:ix r.fG (Qi0 r)[u.toNat] = some r.fG[((Qi0 r)[u.toNat]).toNat]:=by
  unfold ix; rw [if_pos h2.1,List.getElem?_eq_getElem h3]
 refine ⟨_,_,e1,e2,?_⟩
 unfold Q2x
 rw [e1,Qab,e2]
theorem Q2k {r:Request} {u:Int} (h:¬ (0 ≤ u ∧ u < (Qi0 r).length)):Q2x r u = none:=by
 unfold Q2x ix
 by_cases h0:0 ≤ u
 · rw [if_pos h0,List.getElem?_eq_none (by omega)]; rfl
 · rw [if_neg h0]; rfl
theorem Qv2 (r:Request) (us:List Int):(Qxv r us).length ≤ us.length:=List.length_filterMap_le _ _
end Go.Proofs.YtpcmapfabndggaaGreat
