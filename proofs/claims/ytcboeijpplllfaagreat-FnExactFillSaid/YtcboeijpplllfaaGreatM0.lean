/- What the program's first layers compute, as plain functions: bounds, table, names, fitting, reason, units, volumes. Own text; no program in sight. -/
import Derived.Test.YtcboeijpplllfaaGreatQ2
import Derived.Test.YtcboeijpplllfaaGreatD1
import Derived.Test.YtcboeijpplllfaaGreatS13
set_option linter.unusedSimpArgs false
set_option linter.unusedVariables false
namespace Go.Proofs.YtcboeijpplllfaaGreat
open Go
open Enc (rd ow)
open Arg (argv)
open Ret (retv)
open Wf (wf)
def inb (n lo hi:Int):Bool:=decide (lo ≤ n ∧ n ≤ hi)
@[simp] theorem inb_iff {n lo hi:Int}:inb n lo hi = true ↔ lo ≤ n ∧ n ≤ hi:=by simp [inb]
def palB (p:Pallet):Bool:=inb p.fW 1 2000 && (inb p.fD 1 2000 && (inb p.fH 1 2000 && inb p.fGram 1 100000))
def typB (t:Typ):Bool:=inb t.fId 0 999 && (inb t.fW 1 2000 && (inb t.fH 1 2000 && (inb t.fD 1 2000 && (inb t.fTare 0 100000 && (inb t.fGram 1 100000 && inb t.fCost 0 100000)))))
def itmB (x:Item):Bool:=inb x.fId 0 999 && (inb x.fW 1 2000 && (inb x.fH 1 2000 && (inb x.fD 1 2000 && (inb x.fGram 1 100000 && (inb x.fClass 0 3 && inb x.fCount 1 6)))))
def prB (p:Pair):Bool:=inb p.fA 0 3 && inb p.fB 0 3
def sumI:List Int → Int
 | []=>0
 | x :: xs=>x + sumI xs
@[simp] theorem sumI_nil:sumI [] = 0:=rfl
@[simp] theorem sumI_cons (x:Int) (xs:List Int):sumI (x :: xs) = x + sumI xs:=rfl
theorem sumI_le {α:Type} (f:α → Int) (l:List α) (b:Int) (h:∀ x ∈ l,f x ≤ b):sumI (l.map f) ≤ b * l.length:=by
 induction l with
 | nil=>simp
 | cons x xs ih =>
  have h1:=h x (by simp)
  have h2:=ih (fun y hy=>h y (by simp [hy]))
  simp only [List.map_cons,sumI_cons,List.length_cons]
  rw [show ((xs.length + 1:Nat):Int) = (xs.length:Int) + 1 by omega,Int.mul_add]
  omega
theorem sumI_nn {α:Type} (f:α → Int) (l:List α) (h:∀ x ∈ l,0 ≤ f x):0 ≤ sumI (l.map f):=by
 induction l with
 | nil=>simp
 | cons x xs ih =>
  have h1:=h x (by simp)
  have h2:=ih (fun y hy=>h y (by simp [hy]))
  simp only [List.map_cons,sumI_cons]
  omega
def bouB (r:Request):Bool :=
 inb r.fWay 0 1 && palB r.fPallet && inb r.fClasses 1 4 && decide (r.fPairs.length ≤ 16) && r.fPairs.all prB && inb r.fTypes.length 1 5 && r.fTypes.all typB && inb r.fMaster 0 999 && decide (r.fItems.length ≤ 8) && (r.fItems.all itmB && decide (sumI (r.fItems.map (·.fCount)) ≤ 12))
def besB (l:List Pair) (a b:Int):Bool:=l.any fun p=>p.fA == a && p.fB == b
def tabB (l:List Pair) (c:Int):Bool:=inb c 1 4 && (ints 0 c.toNat).all fun a=>besB l a a && (ints 0 c.toNat).all fun b=>besB l a b == besB l b a
def zTyp:Typ:=⟨0,0,0,0,0,0,0⟩
def zItem:Item:=⟨0,0,0,0,0,0,0⟩
def typM (r:Request) (id:Int):Option Typ:=r.fTypes.find? fun t=>t.fId == id
def othM (o:Option Typ):Typ × Bool:=match o with | some t=>(t,true) | none=>(zTyp,false)
def nodB {α:Type} (f:α → Int):List α → List α → Bool
 | _,[]=>true
 | pre,x :: xs=>!(pre.any fun y=>f y == f x) && nodB f (pre ++ [x]) xs
def nodC (c:Int):List Item → List Item → Bool
 | _,[]=>true
 | pre,x :: xs=>!(decide (x.fClass ≥ c)) && !(pre.any fun y=>y.fId == x.fId) && nodC c (pre ++ [x]) xs
def namB (r:Request):Bool :=
 nodB Typ.fId [] r.fTypes && nodC r.fClasses [] r.fItems && (typM r r.fMaster).isSome && !(r.fPairs.any fun p=>decide (p.fA ≥ r.fClasses) || decide (p.fB ≥ r.fClasses))
def sid (a b c:Int):Int × Int × Int :=
 let lo:=if a ≤ b then (if a ≤ c then a else c) else (if b ≤ c then b else c)
 let hi:=if a ≥ b then (if a ≥ c then a else c) else (if b ≥ c then b else c)
 (lo,a + b + c - lo - hi,hi)
def fitB (x:Item) (t:Typ):Bool :=
 decide ((sid x.fW x.fH x.fD).1 ≤ (sid t.fW t.fH t.fD).1) && decide ((sid x.fW x.fH x.fD).2.1 ≤ (sid t.fW t.fH t.fD).2.1) && decide ((sid x.fW x.fH x.fD).2.2 ≤ (sid t.fW t.fH t.fD).2.2) && decide (x.fGram ≤ t.fGram)
def masM (r:Request):Typ:=(othM (typM r r.fMaster)).1
def tooB (p:Pallet) (t:Typ):Bool:=decide (t.fW > p.fW) || (decide (t.fD > p.fD) || (decide (t.fH > p.fH) || decide (w64 (t.fTare + t.fGram) > p.fGram)))
def clsM (r:Request):Int :=
 bif !bouB r then 2 else bif !namB r then 3 else bif !tabB r.fPairs r.fClasses then 4 else bif !(r.fItems.all fun x=>fitB x (masM r)) then 5 else bif r.fTypes.any (tooB r.fPallet) then 6 else 0
def repU:Int → List Item → List Int
 | _,[]=>[]
 | i,x :: xs=>List.replicate x.fCount.toNat i ++ repU (i + 1) xs
def l6M (r:Request):List Int:=repU 0 r.fItems
def untM (r:Request):List Int:=bif clsM r == 0 then l6M r else []
def itmM (r:Request) (u:Int):Option Item:=obind (ix (untM r) u) fun i=>ix r.fItems i
def volB (w h d:Int):Int:=bif inb w 0 2000 && (inb h 0 2000 && inb d 0 2000) then w * h * d else 0
def volI (x:Item):Int:=volB x.fW x.fH x.fD
def volT (x:Typ):Int:=volB x.fW x.fH x.fD
def itsM (r:Request) (us:List Int):List Item:=us.filterMap (itmM r)
def volM (r:Request) (us:List Int):Int:=sumI ((itsM r us).map volI)
theorem volB_nn (w h d:Int):0 ≤ volB w h d ∧ volB w h d ≤ 8000000000:=by
 unfold volB
 cases hb:inb w 0 2000 && (inb h 0 2000 && inb d 0 2000)
 · simp
 · simp only [Bool.and_eq_true,inb_iff] at hb
   obtain ⟨⟨h1,h2⟩,⟨h3,h4⟩,h5,h6⟩:=hb
   simp only [cond_true]
   have a1:0 ≤ w * h:=Int.mul_nonneg h1 h3
   have a2:w * h ≤ 2000 * 2000:=Int.mul_le_mul h2 h4 h3 (by omega)
   have a3:0 ≤ w * h * d:=Int.mul_nonneg a1 h5
   have a4:w * h * d ≤ 2000 * 2000 * 2000:=Int.mul_le_mul a2 h6 h5 (by omega)
   omega
theorem clsM_zero {r:Request} (h:clsM r = 0):bouB r = true ∧ namB r = true ∧ tabB r.fPairs r.fClasses = true ∧ (∀ x ∈ r.fItems,fitB x (masM r) = true) ∧ (∀ t ∈ r.fTypes,tooB r.fPallet t = false):=by
 unfold clsM at h
 cases h1:bouB r
 · simp [h1] at h
 cases h2:namB r
 · simp [h1,h2] at h
 cases h3:tabB r.fPairs r.fClasses
 · simp [h1,h2,h3] at h
 cases h4:r.fItems.all fun x=>fitB x (masM r)
 · simp only [h1,h2,h3,h4] at h; simp at h
 cases h5:r.fTypes.any (tooB r.fPallet)
 · refine ⟨rfl,rfl,rfl,by simpa using h4,?_⟩
   intro t ht
   have:=List.any_eq_false.1 h5 t ht
   simpa using this
 · simp only [h1,h2,h3,h4,h5] at h; simp at h
theorem bou_types {r:Request} (h:bouB r = true):∀ t ∈ r.fTypes,typB t = true:=by
 simp only [bouB,Bool.and_eq_true,List.all_eq_true] at h
 exact h.1.1.1.2
theorem bou_items {r:Request} (h:bouB r = true):(∀ x ∈ r.fItems,itmB x = true) ∧ sumI (r.fItems.map (·.fCount)) ≤ 12 ∧ r.fItems.length ≤ 8:=by
 simp only [bouB,Bool.and_eq_true,List.all_eq_true,decide_eq_true_eq] at h
 exact ⟨h.2.1,h.2.2,h.1.2⟩
theorem volT_pos {t:Typ} (h:typB t = true):1 ≤ volT t:=by
 simp only [typB,Bool.and_eq_true,inb_iff] at h
 obtain ⟨_,hw,hh,hd,_⟩:=h
 unfold volT volB
 rw [show (inb t.fW 0 2000 && (inb t.fH 0 2000 && inb t.fD 0 2000)) = true by simp; omega]
 simp only [cond_true]
 have h1:1 * 1 ≤ t.fW * t.fH:=Int.mul_le_mul hw.1 hh.1 (by omega) (by omega)
 have h2:1 * 1 * 1 ≤ t.fW * t.fH * t.fD:=Int.mul_le_mul h1 hd.1 (by omega) (by omega)
 omega
theorem repU_len:∀ (l:List Item) (i:Int),(∀ x ∈ l,0 ≤ x.fCount) → ((repU i l).length:Int) = sumI (l.map (·.fCount))
 | [],_,_=>rfl
 | x :: xs,i,h=>by
  have:=repU_len xs (i + 1) (fun y hy=>h y (by simp [hy]))
  have hx:=h x (by simp)
  simp only [repU,List.length_append,List.length_replicate,List.map_cons,sumI_cons]
  omega
theorem repU_mem:∀ (l:List Item) (i:Int) (u:Int),u ∈ repU i l → i ≤ u ∧ u < i + l.length
 | [],_,_,h=>by simp [repU] at h
 | x :: xs,i,u,h=>by
  simp only [repU,List.mem_append] at h
  rcases h with h | h
  · have:=(List.mem_replicate.1 h).2
    simp; omega
  · have:=repU_mem xs (i + 1) u h
    simp; omega
theorem l6M_len {r:Request} (h:bouB r = true):(l6M r).length ≤ 12:=by
 obtain ⟨h1,h2,_⟩:=bou_items h
 have:=repU_len r.fItems 0 (fun x hx=>by
  have:=h1 x hx
  simp only [itmB,Bool.and_eq_true,inb_iff] at this
  omega)
 unfold l6M
 omega
theorem untM_len (r:Request):(untM r).length ≤ 12:=by
 unfold untM
 cases h:clsM r == 0
 · simp
 · exact l6M_len (clsM_zero (by simpa using h)).1
theorem untM_mem {r:Request} {i:Int} (h:i ∈ untM r):0 ≤ i ∧ i < r.fItems.length:=by
 unfold untM at h
 cases hc:clsM r == 0
 · simp [hc] at h
 · simp only [hc,cond_true] at h
   have:=repU_mem _ _ _ h
   omega
theorem ix_mem {α:Type} {l:List α} {i:Int} {x:α} (h:ix l i = some x):x ∈ l:=List.mem_of_getElem? (ix_some h).2.2
theorem itmM_in {r:Request} {u:Int} (h:0 ≤ u ∧ u < (untM r).length):∃ i x,ix (untM r) u = some i ∧ ix r.fItems i = some x ∧ itmM r u = some x:=by
 have h1:u.toNat < (untM r).length:=by omega
 have e1:ix (untM r) u = some (untM r)[u.toNat]:=by
  unfold ix; rw [if_pos h.1,List.getElem?_eq_getElem h1]
 have h2:=untM_mem (List.getElem_mem h1)
 have h3:((untM r)[u.toNat]).toNat < r.fItems.length:=by omega
 have e2:ix r.fItems (untM r)[u.toNat] = some r.fItems[((untM r)[u.toNat]).toNat]:=by
  unfold ix; rw [if_pos h2.1,List.getElem?_eq_getElem h3]
 refine ⟨_,_,e1,e2,?_⟩
 unfold itmM
 rw [e1,ob_some,e2]
theorem itmM_out {r:Request} {u:Int} (h:¬ (0 ≤ u ∧ u < (untM r).length)):itmM r u = none:=by
 unfold itmM ix
 by_cases h0:0 ≤ u
 · rw [if_pos h0,List.getElem?_eq_none (by omega)]; rfl
 · rw [if_neg h0]; rfl
theorem itsM_len (r:Request) (us:List Int):(itsM r us).length ≤ us.length:=List.length_filterMap_le _ _
theorem volM_bd (r:Request) (us:List Int):0 ≤ volM r us ∧ volM r us ≤ 8000000000 * us.length:=by
 refine ⟨sumI_nn _ _ fun x _=>(volB_nn _ _ _).1,?_⟩
 have h1:=sumI_le volI (itsM r us) 8000000000 fun x _=>(volB_nn _ _ _).2
 have h2:=itsM_len r us
 unfold volM
 omega
end Go.Proofs.YtcboeijpplllfaaGreat
