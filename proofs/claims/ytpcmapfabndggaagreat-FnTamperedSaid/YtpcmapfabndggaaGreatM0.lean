/- What the program's f.. -/
import Derived.Test.YtpcmapfabndggaaGreatQ2
import Derived.Test.YtpcmapfabndggaaGreatD1
import Derived.Test.YtpcmapfabndggaaGreatS13
set_option linter.unusedSimpArgs false
set_option linter.unusedVariables false
namespace Go.Proofs.YtpcmapfabndggaaGreat
open Go
open Enc (rd ow)
open Arg (argv)
open Ret (retv)
open Wf (wf)
def inb (n lo hi:Int):Bool:=decide (lo≤n∧n≤hi)
@[simp] theorem Qco {n lo hi:Int}:inb n lo hi=true↔lo≤n∧n≤hi:=by simp [inb]
def Qur (p:Pallet):Bool:=inb p.fW 1 2000&&(inb p.fD 1 2000&&(inb p.fH 1 2000&&inb p.fQ 1 100000))
def Q13 (t:Typ):Bool:=inb t.qQ 0 999&&(inb t.fW 1 2000&&(inb t.fH 1 2000&&(inb t.fD 1 2000&&(inb t.ft 0 100000&&(inb t.fQ 1 100000&&inb t.fK 0 100000)))))
def Qxr (x:Item):Bool:=inb x.qQ 0 999&&(inb x.fW 1 2000&&(inb x.fH 1 2000&&(inb x.fD 1 2000&&(inb x.fQ 1 100000&&(inb x.fM 0 3&&inb x.fO 1 6)))))
def prB (p:Pair):Bool:=inb p.fA 0 3&&inb p.fB 0 3
def Qsb:List Int→Int
 | []=>0
 | x::xs=>x+Qsb xs
@[simp] theorem Qt6:Qsb []=0:=rfl
@[simp] theorem Qfr (x:Int) (xs:List Int):Qsb (x::xs)=x+Qsb xs:=rfl
theorem Qod (a b:List Int):Qsb (a++b)=Qsb a+Qsb b:=by
 induction a with
 | nil=>simp
 | cons x xs ih=>simp [ih]; omega
theorem Jex {α:Type} (f:α→Int) (l:List α) (b:Int) (h:∀ x∈l,f x≤b):Qsb (l.map f)≤b*l.length:=by
 induction l with
 | nil=>simp
 | cons x xs ih =>
  have h1:=h x (by simp)
  have h2:=ih (λy hy=>h y (by simp [hy]))
  simp only [List.map_cons,Qfr,List.length_cons]
  rw [show ((xs.length+1:Nat):Int)=(xs.length:Int)+1 by omega,Int.mul_add]
  omega
theorem Q0m {α:Type} (f:α→Int) (l:List α) (h:∀ x∈l,0≤f x):0≤Qsb (l.map f):=by
 induction l with
 | nil=>simp
 | cons x xs ih =>
  have h1:=h x (by simp)
  have h2:=ih (λy hy=>h y (by simp [hy]))
  simp only [List.map_cons,Qfr]
  omega
def Q28 (r:Request):Bool :=
 inb r.qY 0 1&&Qur r.fJ&&inb r.fG 1 4&&decide (r.fP.length≤16)&&r.fP.all prB&&inb r.fR.length 1 5&&r.fR.all Q13&&inb r.fL 0 999&&decide (r.fU.length≤8)&&(r.fU.all Qxr&&decide (Qsb (r.fU.map (·.fO))≤12))
def Qtg (l:List Pair) (a b:Int):Bool:=l.any λp=>p.fA==a&&p.fB==b
def Jbq (l:List Pair) (c:Int):Bool:=inb c 1 4&&(Qf2 0 c.toNat).all λa=>Qtg l a a&&(Qf2 0 c.toNat).all λb=>Qtg l a b==Qtg l b a
def Jhn:Typ:=⟨0,0,0,0,0,0,0⟩
def Q77:Item:=⟨0,0,0,0,0,0,0⟩
def Qtc (r:Request) (id:Int):Option Typ:=r.fR.find? λt=>t.qQ==id
def Qyf (o:Option Typ):Typ×Bool:=match o with | some t=>(t,true) | none=>(Jhn,false)
def Q8g {α:Type} (f:α→Int):List α→List α→Bool
 | _,[]=>true
 | pre,x::xs=>!(pre.any λy=>f y==f x)&&Q8g f (pre++[x]) xs
def Q8c (c:Int):List Item→List Item→Bool
 | _,[]=>true
 | pre,x::xs=>!(decide (x.fM≥c))&&!(pre.any λy=>y.qQ==x.qQ)&&Q8c c (pre++[x]) xs
def Q8h (r:Request):Bool :=
 Q8g Typ.qQ [] r.fR&&Q8c r.fG [] r.fU&&(Qtc r r.fL).isSome&&!(r.fP.any λp=>decide (p.fA≥r.fG)||decide (p.fB≥r.fG))
def sid (a b c:Int):Int×Int×Int :=
 let lo:=if a≤b then (if a≤c then a else c) else (if b≤c then b else c)
 let hi:=if a≥b then (if a≥c then a else c) else (if b≥c then b else c)
 (lo,a+b+c - lo - hi,hi)
def Q07 (x:Item) (t:Typ):Bool :=
 decide ((sid x.fW x.fH x.fD).1≤(sid t.fW t.fH t.fD).1)&&decide ((sid x.fW x.fH x.fD).2.1≤(sid t.fW t.fH t.fD).2.1)&&decide ((sid x.fW x.fH x.fD).2.2≤(sid t.fW t.fH t.fD).2.2)&&decide (x.fQ≤t.fQ)
def Qw0 (r:Request):Typ:=(Qyf (Qtc r r.fL)).1
def Q8f (p:Pallet) (t:Typ):Bool:=decide (t.fW>p.fW)||(decide (t.fD>p.fD)||(decide (t.fH>p.fH)||decide (w64 (t.ft+t.fQ)>p.fQ)))
def Qhd (r:Request):Int :=
 bif !Q28 r then 2 else bif !Q8h r then 3 else bif !Jbq r.fP r.fG then 4 else bif !(r.fU.all λx=>Q07 x (Qw0 r)) then 5 else bif r.fR.any (Q8f r.fJ) then 6 else 0
def Q72:Int→List Item→List Int
 | _,[]=>[]
 | i,x::xs=>List.replicate x.fO.toNat i++Q72 (i+1) xs
def l6M (r:Request):List Int:=Q72 0 r.fU
def Qje (r:Request):List Int:=bif Qhd r==0 then l6M r else []
def Qzv (r:Request) (u:Int):Option Item:=Qac (ix (Qje r) u) λi=>ix r.fU i
def Q7r (w h d:Int):Int:=bif inb w 0 2000&&(inb h 0 2000&&inb d 0 2000) then w*h*d else 0
def Jbd (x:Item):Int:=Q7r x.fW x.fH x.fD
def Jbu (x:Typ):Int:=Q7r x.fW x.fH x.fD
def Qyb (r:Request) (us:List Int):List Item:=us.filterMap (Qzv r)
def Qwz (r:Request) (us:List Int):Int:=Qsb ((Qyb r us).map Jbd)
theorem Q8z (w h d:Int):0≤Q7r w h d∧Q7r w h d≤8000000000:=by
 unfold Q7r
 cases hb:inb w 0 2000&&(inb h 0 2000&&inb d 0 2000)
 · simp
 · simp only [Bool.and_eq_true,Qco] at hb
   obtain ⟨⟨h1,h2⟩,⟨h3,h4⟩,h5,h6⟩:=hb
   simp only [cond_true]
   have a1:0≤w*h:=Int.mul_nonneg h1 h3
   have a2:w*h≤2000*2000:=Int.mul_le_mul h2 h4 h3 (by omega)
   have a3:0≤w*h*d:=Int.mul_nonneg a1 h5
   have a4:w*h*d≤2000*2000*2000:=Int.mul_le_mul a2 h6 h5 (by omega)
   omega
theorem Qei {r:Request} (h:Qhd r=0):Q28 r=true∧Q8h r=true∧Jbq r.fP r.fG=true∧(∀ x∈r.fU,Q07 x (Qw0 r)=true)∧(∀ t∈r.fR,Q8f r.fJ t=false):=by
 unfold Qhd at h
 cases h1:Q28 r
 · simp [h1] at h
 cases h2:Q8h r
 · simp [h1,h2] at h
 cases h3:Jbq r.fP r.fG
 · simp [h1,h2,h3] at h
 cases h4:r.fU.all λx=>Q07 x (Qw0 r)
 · simp only [h1,h2,h3,h4] at h; simp at h
 cases h5:r.fR.any (Q8f r.fJ)
 · refine ⟨rfl,rfl,rfl,by simpa using h4,?_⟩
   intro t ht
   have:=List.any_eq_false.1 h5 t ht
   simpa using this
 · simp only [h1,h2,h3,h4,h5] at h; simp at h
theorem Qwy {r:Request} (h:Q28 r=true):∀ t∈r.fR,Q13 t=true:=by
 simp only [Q28,Bool.and_eq_true,List.all_eq_true] at h
 exact h.1.1.1.2
theorem Qrt {r:Request} (h:Q28 r=true):(∀ x∈r.fU,Qxr x=true)∧Qsb (r.fU.map (·.fO))≤12∧r.fU.length≤8:=by
 simp only [Q28,Bool.and_eq_true,List.all_eq_true,decide_eq_true_eq] at h
 exact ⟨h.2.1,h.2.2,h.1.2⟩
theorem Q6k:∀ (l:List Item) (i:Int),(∀ x∈l,0≤x.fO)→((Q72 i l).length:Int)=Qsb (l.map (·.fO))
 | [],_,_=>rfl
 | x::xs,i,h=>by
  have:=Q6k xs (i+1) (λy hy=>h y (by simp [hy]))
  have hx:=h x (by simp)
  simp only [Q72,List.length_append,List.length_replicate,List.map_cons,Qfr]
  omega
theorem Q6e:∀ (l:List Item) (i:Int) (u:Int),u∈Q72 i l→i≤u∧u<i+l.length
 | [],_,_,h=>by simp [Q72] at h
 | x::xs,i,u,h=>by
  simp only [Q72,List.mem_append] at h
  rcases h with h | h
  · have:=(List.mem_replicate.1 h).2
    simp; omega
  · have:=Q6e xs (i+1) u h
    simp; omega
theorem Q9o {r:Request} (h:Q28 r=true):(l6M r).length≤12:=by
 obtain ⟨h1,h2,_⟩:=Qrt h
 have:=Q6k r.fU 0 (λx hx=>by
  have:=h1 x hx
  simp only [Qxr,Bool.and_eq_true,Qco] at this
  omega)
 unfold l6M
 omega
theorem Qws (r:Request):(Qje r).length≤12:=by
 unfold Qje
 cases h:Qhd r==0
 · simp
 · exact Q9o (Qei (by simpa using h)).1
theorem Q3i {r:Request} {i:Int} (h:i∈Qje r):0≤i∧i<r.fU.length:=by
 unfold Qje at h
 cases hc:Qhd r==0
 · simp [hc] at h
 · simp only [hc,cond_true] at h
   have:=Q6e _ _ _ h
   omega
theorem Qfe {α:Type} {l:List α} {i:Int} {x:α} (h:ix l i=some x):x∈l:=List.mem_of_getElem? (Qaj h).2.2
theorem Q5r {r:Request} {u:Int} (h:0≤u∧u<(Qje r).length):∃ i x,ix (Qje r) u=some i∧ix r.fU i=some x∧Qzv r u=some x:=by
 have h1:u.toNat<(Qje r).length:=by omega
 have e1:ix (Qje r) u=some (Qje r)[u.toNat]:=by
  unfold ix; rw [if_pos h.1,List.getElem?_eq_getElem h1]
 have h2:=Q3i (List.getElem_mem h1)
 have h3:((Qje r)[u.toNat]).toNat<r.fU.length:=by omega
 have e2:ix r.fU (Qje r)[u.toNat]=some r.fU[((Qje r)[u.toNat]).toNat]:=by
  unfold ix; rw [if_pos h2.1,List.getElem?_eq_getElem h3]
 refine ⟨_,_,e1,e2,?_⟩
 unfold Qzv
 rw [e1,Qab,e2]
theorem Q2s {r:Request} {u:Int} (h:¬ (0≤u∧u<(Qje r).length)):Qzv r u=none:=by
 unfold Qzv ix
 by_cases h0:0≤u
 · rw [if_pos h0,List.getElem?_eq_none (by omega)]; rfl
 · rw [if_neg h0]; rfl
theorem Qwk (r:Request) (us:List Int):(Qyb r us).length≤us.length:=List.length_filterMap_le _ _
end Go.Proofs.YtpcmapfabndggaaGreat
