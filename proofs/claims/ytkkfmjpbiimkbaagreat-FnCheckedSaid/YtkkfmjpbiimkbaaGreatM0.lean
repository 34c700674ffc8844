/- What the program's first layers compute, as plain functions: bounds, table, names, fitting, reason, units, volumes. Own text; no program in sight. -/
import Derived.Test.YtkkfmjpbiimkbaaGreatQ2
import Derived.Test.YtkkfmjpbiimkbaaGreatD1
import Derived.Test.YtkkfmjpbiimkbaaGreatS13
set_option linter.unusedSimpArgs false
set_option linter.unusedVariables false
namespace Go.Proofs.YtkkfmjpbiimkbaaGreat
open Go
open Enc (rd ow)
open Arg (argv)
open Ret (retv)
open Wf (wf)
def inb (n lo hi:Int):Bool:=decide (lo ≤ n ∧ n ≤ hi)
@[simp] theorem Qfu {n lo hi:Int}:inb n lo hi = true ↔ lo ≤ n ∧ n ≤ hi:=by simp [inb]
def Qzz (p:Pallet):Bool:=inb p.fW 1 2000 && (inb p.fD 1 2000 && (inb p.fH 1 2000 && inb p.fGram 1 100000))
def Q0n (t:Typ):Bool:=inb t.fId 0 999 && (inb t.fW 1 2000 && (inb t.fH 1 2000 && (inb t.fD 1 2000 && (inb t.fTare 0 100000 && (inb t.fGram 1 100000 && inb t.fCost 0 100000)))))
def Qwt (x:Item):Bool:=inb x.fId 0 999 && (inb x.fW 1 2000 && (inb x.fH 1 2000 && (inb x.fD 1 2000 && (inb x.fGram 1 100000 && (inb x.fClass 0 3 && inb x.fCount 1 6)))))
def prB (p:Pair):Bool:=inb p.fA 0 3 && inb p.fB 0 3
def Qvx:List Int → Int
 | []=>0
 | x :: xs=>x + Qvx xs
@[simp] theorem Jep:Qvx [] = 0:=rfl
@[simp] theorem Qpa (x:Int) (xs:List Int):Qvx (x :: xs) = x + Qvx xs:=rfl
theorem Jb3 {α:Type} (f:α → Int) (l:List α) (b:Int) (h:∀ x ∈ l,f x ≤ b):Qvx (l.map f) ≤ b * l.length:=by
 induction l with
 | nil=>simp
 | cons x xs ih =>
  have h1:=h x (by simp)
  have h2:=ih (fun y hy=>h y (by simp [hy]))
  simp only [List.map_cons,Qpa,List.length_cons]
  rw [show ((xs.length + 1:Nat):Int) = (xs.length:Int) + 1 by omega,Int.mul_add]
  omega
theorem Q7o {α:Type} (f:α → Int) (l:List α) (h:∀ x ∈ l,0 ≤ f x):0 ≤ Qvx (l.map f):=by
 induction l with
 | nil=>simp
 | cons x xs ih =>
  have h1:=h x (by simp)
  have h2:=ih (fun y hy=>h y (by simp [hy]))
  simp only [List.map_cons,Qpa]
  omega
def Q2v (r:Request):Bool :=
 inb r.fWay 0 1 && Qzz r.fPallet && inb r.fClasses 1 4 && decide (r.fPairs.length ≤ 16) && r.fPairs.all prB && inb r.fTypes.length 1 5 && r.fTypes.all Q0n && inb r.fMaster 0 999 && decide (r.fItems.length ≤ 8) && (r.fItems.all Qwt && decide (Qvx (r.fItems.map (·.fCount)) ≤ 12))
def Qsv (l:List Pair) (a b:Int):Bool:=l.any fun p=>p.fA == a && p.fB == b
def Q97 (l:List Pair) (c:Int):Bool:=inb c 1 4 && (Qka 0 c.toNat).all fun a=>Qsv l a a && (Qka 0 c.toNat).all fun b=>Qsv l a b == Qsv l b a
def Jee:Typ:=⟨0,0,0,0,0,0,0⟩
def Q5p:Item:=⟨0,0,0,0,0,0,0⟩
def Qsh (r:Request) (id:Int):Option Typ:=r.fTypes.find? fun t=>t.fId == id
def Qwd (o:Option Typ):Typ × Bool:=match o with | some t=>(t,true) | none=>(Jee,false)
def Q5s {α:Type} (f:α → Int):List α → List α → Bool
 | _,[]=>true
 | pre,x :: xs=>!(pre.any fun y=>f y == f x) && Q5s f (pre ++ [x]) xs
def Q8s (c:Int):List Item → List Item → Bool
 | _,[]=>true
 | pre,x :: xs=>!(decide (x.fClass ≥ c)) && !(pre.any fun y=>y.fId == x.fId) && Q8s c (pre ++ [x]) xs
def Q6y (r:Request):Bool :=
 Q5s Typ.fId [] r.fTypes && Q8s r.fClasses [] r.fItems && (Qsh r r.fMaster).isSome && !(r.fPairs.any fun p=>decide (p.fA ≥ r.fClasses) || decide (p.fB ≥ r.fClasses))
def sid (a b c:Int):Int × Int × Int :=
 let lo:=if a ≤ b then (if a ≤ c then a else c) else (if b ≤ c then b else c)
 let hi:=if a ≥ b then (if a ≥ c then a else c) else (if b ≥ c then b else c)
 (lo,a + b + c - lo - hi,hi)
def Qzn (x:Item) (t:Typ):Bool :=
 decide ((sid x.fW x.fH x.fD).1 ≤ (sid t.fW t.fH t.fD).1) && decide ((sid x.fW x.fH x.fD).2.1 ≤ (sid t.fW t.fH t.fD).2.1) && decide ((sid x.fW x.fH x.fD).2.2 ≤ (sid t.fW t.fH t.fD).2.2) && decide (x.fGram ≤ t.fGram)
def Qxg (r:Request):Typ:=(Qwd (Qsh r r.fMaster)).1
def Q5t (p:Pallet) (t:Typ):Bool:=decide (t.fW > p.fW) || (decide (t.fD > p.fD) || (decide (t.fH > p.fH) || decide (w64 (t.fTare + t.fGram) > p.fGram)))
def Qhm (r:Request):Int :=
 bif !Q2v r then 2 else bif !Q6y r then 3 else bif !Q97 r.fPairs r.fClasses then 4 else bif !(r.fItems.all fun x=>Qzn x (Qxg r)) then 5 else bif r.fTypes.any (Q5t r.fPallet) then 6 else 0
def Q5c:Int → List Item → List Int
 | _,[]=>[]
 | i,x :: xs=>List.replicate x.fCount.toNat i ++ Q5c (i + 1) xs
def l6M (r:Request):List Int:=Q5c 0 r.fItems
def Qh8 (r:Request):List Int:=bif Qhm r == 0 then l6M r else []
def Q1e (r:Request) (u:Int):Option Item:=Qad (ix (Qh8 r) u) fun i=>ix r.fItems i
def Q5m (w h d:Int):Int:=bif inb w 0 2000 && (inb h 0 2000 && inb d 0 2000) then w * h * d else 0
def Q6w (x:Item):Int:=Q5m x.fW x.fH x.fD
def Q8x (x:Typ):Int:=Q5m x.fW x.fH x.fD
def Qwq (r:Request) (us:List Int):List Item:=us.filterMap (Q1e r)
def Qyv (r:Request) (us:List Int):Int:=Qvx ((Qwq r us).map Q6w)
theorem Q7r (w h d:Int):0 ≤ Q5m w h d ∧ Q5m w h d ≤ 8000000000:=by
 unfold Q5m
 cases hb:inb w 0 2000 && (inb h 0 2000 && inb d 0 2000)
 · simp
 · simp only [Bool.and_eq_true,Qfu] at hb
   obtain ⟨⟨h1,h2⟩,⟨h3,h4⟩,h5,h6⟩:=hb
   simp only [cond_true]
   have a1:0 ≤ w * h:=Int.mul_nonneg h1 h3
   have a2:w * h ≤ 2000 * 2000:=Int.mul_le_mul h2 h4 h3 (by omega)
   have a3:0 ≤ w * h * d:=Int.mul_nonneg a1 h5
   have a4:w * h * d ≤ 2000 * 2000 * 2000:=Int.mul_le_mul a2 h6 h5 (by omega)
   omega
theorem Qf7 {r:Request} (h:Qhm r = 0):Q2v r = true ∧ Q6y r = true ∧ Q97 r.fPairs r.fClasses = true ∧ (∀ x ∈ r.fItems,Qzn x (Qxg r) = true) ∧ (∀ t ∈ r.fTypes,Q5t r.fPallet t = false):=by
 unfold Qhm at h
 cases h1:Q2v r
 · simp [h1] at h
 cases h2:Q6y r
 · simp [h1,h2] at h
 cases h3:Q97 r.fPairs r.fClasses
 · simp [h1,h2,h3] at h
 cases h4:r.fItems.all fun x=>Qzn x (Qxg r)
 · simp only [h1,h2,h3,h4] at h; simp at h
 cases h5:r.fTypes.any (Q5t r.fPallet)
 · refine ⟨rfl,rfl,rfl,by simpa using h4,?_⟩
   intro t ht
   have:=List.any_eq_false.1 h5 t ht
   simpa using this
 · simp only [h1,h2,h3,h4,h5] at h; simp at h
theorem Qx3 {r:Request} (h:Q2v r = true):∀ t ∈ r.fTypes,Q0n t = true:=by
 simp only [Q2v,Bool.and_eq_true,List.all_eq_true] at h
 exact h.1.1.1.2
theorem Qr1 {r:Request} (h:Q2v r = true):(∀ x ∈ r.fItems,Qwt x = true) ∧ Qvx (r.fItems.map (·.fCount)) ≤ 12 ∧ r.fItems.length ≤ 8:=by
 simp only [Q2v,Bool.and_eq_true,List.all_eq_true,decide_eq_true_eq] at h
 exact ⟨h.2.1,h.2.2,h.1.2⟩
theorem Q4j:∀ (l:List Item) (i:Int),(∀ x ∈ l,0 ≤ x.fCount) → ((Q5c i l).length:Int) = Qvx (l.map (·.fCount))
 | [],_,_=>rfl
 | x :: xs,i,h=>by
  have:=Q4j xs (i + 1) (fun y hy=>h y (by simp [hy]))
  have hx:=h x (by simp)
  simp only [Q5c,List.length_append,List.length_replicate,List.map_cons,Qpa]
  omega
theorem Q4x:∀ (l:List Item) (i:Int) (u:Int),u ∈ Q5c i l → i ≤ u ∧ u < i + l.length
 | [],_,_,h=>by simp [Q5c] at h
 | x :: xs,i,u,h=>by
  simp only [Q5c,List.mem_append] at h
  rcases h with h | h
  · have:=(List.mem_replicate.1 h).2
    simp; omega
  · have:=Q4x xs (i + 1) u h
    simp; omega
theorem Q73 {r:Request} (h:Q2v r = true):(l6M r).length ≤ 12:=by
 obtain ⟨h1,h2,_⟩:=Qr1 h
 have:=Q4j r.fItems 0 (fun x hx=>by
  have:=h1 x hx
  simp only [Qwt,Bool.and_eq_true,Qfu] at this
  omega)
 unfold l6M
 omega
theorem Qva (r:Request):(Qh8 r).length ≤ 12:=by
 unfold Qh8
 cases h:Qhm r == 0
 · simp
 · exact Q73 (Qf7 (by simpa using h)).1
theorem Q37 {r:Request} {i:Int} (h:i ∈ Qh8 r):0 ≤ i ∧ i < r.fItems.length:=by
 unfold Qh8 at h
 cases hc:Qhm r == 0
 · simp [hc] at h
 · simp only [hc,cond_true] at h
   have:=Q4x _ _ _ h
   omega
theorem Qe2 {α:Type} {l:List α} {i:Int} {x:α} (h:ix l i = some x):x ∈ l:=List.mem_of_getElem? (Qas h).2.2
theorem Q24 {r:Request} {u:Int} (h:0 ≤ u ∧ u < (Qh8 r).length):∃ i x,ix (Qh8 r) u = some i ∧ ix r.fItems i = some x ∧ Q1e r u = some x:=by
 have h1:u.toNat < (Qh8 r).length:=by omega
 have e1:ix (Qh8 r) u = some (Qh8 r)[u.toNat]:=by
  unfold ix; rw [if_pos h.1,List.getElem?_eq_getElem h1]
 have h2:=Q37 (List.getElem_mem h1)
 have h3:((Qh8 r)[u.toNat]).toNat < r.fItems.length:=by omega
 have e2:ix r.fItems (Qh8 r)[u.toNat] = some r.fItems[((Qh8 r)[u.toNat]).toNat]:=by
  unfold ix; rw [if_pos h2.1,List.getElem?_eq_getElem h3]
 refine ⟨_,_,e1,e2,?_⟩
 unfold Q1e
 rw [e1,Qab,e2]
theorem Q0d {r:Request} {u:Int} (h:¬ (0 ≤ u ∧ u < (Qh8 r).length)):Q1e r u = none:=by
 unfold Q1e ix
 by_cases h0:0 ≤ u
 · rw [if_pos h0,List.getElem?_eq_none (by omega)]; rfl
 · rw [if_neg h0]; rfl
theorem Qvs (r:Request) (us:List Int):(Qwq r us).length ≤ us.length:=List.length_filterMap_le _ _
end Go.Proofs.YtkkfmjpbiimkbaaGreat
