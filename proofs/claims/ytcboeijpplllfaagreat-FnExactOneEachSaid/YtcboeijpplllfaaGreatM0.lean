/- What the program's first layers compute, as plain functions: bounds, table, names, fitting, reason, units, volumes. Own text; no program in sight. -/
import Derived.Test.YtcboeijpplllfaaGreatQ2
import Derived.Test.YtcboeijpplllfaaGreatD1
import Derived.Test.YtcboeijpplllfaaGreatS13
set_option linter.unusedSimpArgs false
set_option linter.unusedVariables false
namespace Go.Proofs.YtcboeijpplllfaaGreat
open Go
open Enc (rd ow)
open Arg (argv)
open Ret (retv)
open Wf (wf)
def inb (n lo hi:Int):Bool:=decide (lo ≤ n ∧ n ≤ hi)
@[simp] theorem inb_iff {n lo hi:Int}:inb n lo hi = true ↔ lo ≤ n ∧ n ≤ hi:=by simp [inb]
def palB (p:Pallet):Bool:=inb p.fW 1 2000 && (inb p.fD 1 2000 && (inb p.fH 1 2000 && inb p.fGram 1 100000))
def typB (t:Typ):Bool:=inb t.fId 0 999 && (inb t.fW 1 2000 && (inb t.fH 1 2000 && (inb t.fD 1 2000 && (inb t.fTare 0 100000 && (inb t.fGram 1 100000 && inb t.fCost 0 100000)))))
def itmB (x:Item):Bool:=inb x.fId 0 999 && (inb x.fW 1 2000 && (inb x.fH 1 2000 && (inb x.fD 1 2000 && (inb x.fGram 1 100000 && (inb x.fClass 0 3 && inb x.fCount 1 6)))))
def prB (p:Pair):Bool:=inb p.fA 0 3 && inb p.fB 0 3
def sumI:List Int → Int
 | []=>0
 | x :: xs=>x + sumI xs
@[simp] theorem sumI_nil:sumI [] = 0:=rfl
@[simp] theorem sumI_cons (x:Int) (xs:List Int):sumI (x :: xs) = x + sumI xs:=rfl
theorem sumI_nn {α:Type} (f:α → Int) (l:List α) (h:∀ x ∈ l,0 ≤ f x):0 ≤ sumI (l.map f):=by
 induction l with
 | nil=>simp
 | cons x xs ih =>
  have h1:=h x (by simp)
  have h2:=ih (fun y hy=>h y (by simp [hy]))
  simp only [List.map_cons,sumI_cons]
  omega
def bouB (r:Request):Bool :=
 inb r.fWay 0 1 && palB r.fPallet && inb r.fClasses 1 4 && decide (r.fPairs.length ≤ 16) && r.fPairs.all prB && inb r.fTypes.length 1 5 && r.fTypes.all typB && inb r.fMaster 0 999 && decide (r.fItems.length ≤ 8) && (r.fItems.all itmB && decide (sumI (r.fItems.map (·.fCount)) ≤ 12))
def besB (l:List Pair) (a b:Int):Bool:=l.any fun p=>p.fA == a && p.fB == b
def tabB (l:List Pair) (c:Int):Bool:=inb c 1 4 && (ints 0 c.toNat).all fun a=>besB l a a && (ints 0 c.toNat).all fun b=>besB l a b == besB l b a
def zTyp:Typ:=⟨0,0,0,0,0,0,0⟩
def typM (r:Request) (id:Int):Option Typ:=r.fTypes.find? fun t=>t.fId == id
def othM (o:Option Typ):Typ × Bool:=match o with | some t=>(t,true) | none=>(zTyp,false)
def nodB {α:Type} (f:α → Int):List α → List α → Bool
 | _,[]=>true
 | pre,x :: xs=>!(pre.any fun y=>f y == f x) && nodB f (pre ++ [x]) xs
def nodC (c:Int):List Item → List Item → Bool
 | _,[]=>true
 | pre,x :: xs=>!(decide (x.fClass ≥ c)) && !(pre.any fun y=>y.fId == x.fId) && nodC c (pre ++ [x]) xs
def namB (r:Request):Bool :=
 nodB Typ.fId [] r.fTypes && nodC r.fClasses [] r.fItems && (typM r r.fMaster).isSome && !(r.fPairs.any fun p=>decide (p.fA ≥ r.fClasses) || decide (p.fB ≥ r.fClasses))
def sid (a b c:Int):Int × Int × Int :=
 let lo:=if a ≤ b then (if a ≤ c then a else c) else (if b ≤ c then b else c)
 let hi:=if a ≥ b then (if a ≥ c then a else c) else (if b ≥ c then b else c)
 (lo,a + b + c - lo - hi,hi)
def fitB (x:Item) (t:Typ):Bool :=
 decide ((sid x.fW x.fH x.fD).1 ≤ (sid t.fW t.fH t.fD).1) && decide ((sid x.fW x.fH x.fD).2.1 ≤ (sid t.fW t.fH t.fD).2.1) && decide ((sid x.fW x.fH x.fD).2.2 ≤ (sid t.fW t.fH t.fD).2.2) && decide (x.fGram ≤ t.fGram)
def masM (r:Request):Typ:=(othM (typM r r.fMaster)).1
def tooB (p:Pallet) (t:Typ):Bool:=decide (t.fW > p.fW) || (decide (t.fD > p.fD) || (decide (t.fH > p.fH) || decide (w64 (t.fTare + t.fGram) > p.fGram)))
def clsM (r:Request):Int :=
 bif !bouB r then 2 else bif !namB r then 3 else bif !tabB r.fPairs r.fClasses then 4 else bif !(r.fItems.all fun x=>fitB x (masM r)) then 5 else bif r.fTypes.any (tooB r.fPallet) then 6 else 0
def repU:Int → List Item → List Int
 | _,[]=>[]
 | i,x :: xs=>List.replicate x.fCount.toNat i ++ repU (i + 1) xs
def l6M (r:Request):List Int:=repU 0 r.fItems
def untM (r:Request):List Int:=bif clsM r == 0 then l6M r else []
theorem clsM_zero {r:Request} (h:clsM r = 0):bouB r = true ∧ namB r = true ∧ tabB r.fPairs r.fClasses = true ∧ (∀ x ∈ r.fItems,fitB x (masM r) = true) ∧ (∀ t ∈ r.fTypes,tooB r.fPallet t = false):=by
 unfold clsM at h
 cases h1:bouB r
 · simp [h1] at h
 cases h2:namB r
 · simp [h1,h2] at h
 cases h3:tabB r.fPairs r.fClasses
 · simp [h1,h2,h3] at h
 cases h4:r.fItems.all fun x=>fitB x (masM r)
 · simp only [h1,h2,h3,h4] at h; simp at h
 cases h5:r.fTypes.any (tooB r.fPallet)
 · refine ⟨rfl,rfl,rfl,by simpa using h4,?_⟩
   intro t ht
   have:=List.any_eq_false.1 h5 t ht
   simpa using this
 · simp only [h1,h2,h3,h4,h5] at h; simp at h
theorem bou_items {r:Request} (h:bouB r = true):(∀ x ∈ r.fItems,itmB x = true) ∧ sumI (r.fItems.map (·.fCount)) ≤ 12 ∧ r.fItems.length ≤ 8:=by
 simp only [bouB,Bool.and_eq_true,List.all_eq_true,decide_eq_true_eq] at h
 exact ⟨h.2.1,h.2.2,h.1.2⟩
theorem repU_len:∀ (l:List Item) (i:Int),(∀ x ∈ l,0 ≤ x.fCount) → ((repU i l).length:Int) = sumI (l.map (·.fCount))
 | [],_,_=>rfl
 | x :: xs,i,h=>by
  have:=repU_len xs (i + 1) (fun y hy=>h y (by simp [hy]))
  have hx:=h x (by simp)
  simp only [repU,List.length_append,List.length_replicate,List.map_cons,sumI_cons]
  omega
theorem l6M_len {r:Request} (h:bouB r = true):(l6M r).length ≤ 12:=by
 obtain ⟨h1,h2,_⟩:=bou_items h
 have:=repU_len r.fItems 0 (fun x hx=>by
  have:=h1 x hx
  simp only [itmB,Bool.and_eq_true,inb_iff] at this
  omega)
 unfold l6M
 omega
theorem untM_len (r:Request):(untM r).length ≤ 12:=by
 unfold untM
 cases h:clsM r == 0
 · simp
 · exact l6M_len (clsM_zero (by simpa using h)).1
theorem ix_mem {α:Type} {l:List α} {i:Int} {x:α} (h:ix l i = some x):x ∈ l:=List.mem_of_getElem? (ix_some h).2.2
end Go.Proofs.YtcboeijpplllfaaGreat
