/- What the program's f.. -/
import Derived.Test.YtpcmapfabndggabGreatDoorQ2
import Derived.Test.YtpcmapfabndggabGreatDoorD1
import Derived.Test.YtpcmapfabndggabGreatDoorS13
set_option linter.unusedSimpArgs false
set_option linter.unusedVariables false
namespace Go.Proofs.YtpcmapfabndggabGreatDoor
open Go
open Enc (rd ow)
open Arg (argv)
open Ret (retv)
open Wf (wf)
def inb (n lo hi:Int):Bool:=decide (lo≤n∧n≤hi)
@[simp] theorem Qdc {n lo hi:Int}:inb n lo hi=true↔lo≤n∧n≤hi:=by simp [inb]
def Qu0 (p:Pallet):Bool:=inb p.fW 1 2000&&(inb p.fD 1 2000&&(inb p.fH 1 2000&&inb p.fQ 1 100000))
def Q1d (t:Typ):Bool:=inb t.f4 0 999&&(inb t.fW 1 2000&&(inb t.fH 1 2000&&(inb t.fD 1 2000&&(inb t.fO 0 100000&&(inb t.fQ 1 100000&&inb t.fL 0 100000)))))
def Qxe (x:Item):Bool:=inb x.f4 0 999&&(inb x.fW 1 2000&&(inb x.fH 1 2000&&(inb x.fD 1 2000&&(inb x.fQ 1 100000&&(inb x.fM 0 3&&inb x.fF 1 6)))))
def prB (p:Pair):Bool:=inb p.fA 0 3&&inb p.fB 0 3
def Qw1:List Int→Int
 | []=>0
 | x::xs=>x+Qw1 xs
@[simp] theorem Jf7:Qw1 []=0:=rfl
@[simp] theorem Qrk (x:Int) (xs:List Int):Qw1 (x::xs)=x+Qw1 xs:=rfl
theorem Jbp {α:Type} (f:α→Int) (l:List α) (b:Int) (h:∀ x∈l,f x≤b):Qw1 (l.map f)≤b*l.length:=by
 induction l with
 | nil=>simp
 | cons x xs ih =>
  have h1:=h x (by simp)
  have h2:=ih (λy hy=>h y (by simp [hy]))
  simp only [List.map_cons,Qrk,List.length_cons]
  rw [show ((xs.length+1:Nat):Int)=(xs.length:Int)+1 by omega,Int.mul_add]
  omega
theorem Q6s {α:Type} (f:α→Int) (l:List α) (h:∀ x∈l,0≤f x):0≤Qw1 (l.map f):=by
 induction l with
 | nil=>simp
 | cons x xs ih =>
  have h1:=h x (by simp)
  have h2:=ih (λy hy=>h y (by simp [hy]))
  simp only [List.map_cons,Qrk]
  omega
def Q3d (r:Request):Bool :=
 inb r.fe 0 1&&Qu0 r.fJ&&inb r.fU 1 4&&decide (r.fR.length≤16)&&r.fR.all prB&&inb r.fG.length 1 5&&r.fG.all Q1d&&inb r.fT 0 999&&decide (r.fV.length≤8)&&(r.fV.all Qxe&&decide (Qw1 (r.fV.map (·.fF))≤12))
def Qsx (l:List Pair) (a b:Int):Bool:=l.any λp=>p.fA==a&&p.fB==b
def Q9j (l:List Pair) (c:Int):Bool:=inb c 1 4&&(Qnw 0 c.toNat).all λa=>Qsx l a a&&(Qnw 0 c.toNat).all λb=>Qsx l a b==Qsx l b a
def Jfn:Typ:=⟨0,0,0,0,0,0,0⟩
def Q5z:Item:=⟨0,0,0,0,0,0,0⟩
def Qs0 (r:Request) (id:Int):Option Typ:=r.fG.find? λt=>t.f4==id
def Qxz (o:Option Typ):Typ×Bool:=match o with | some t=>(t,true) | none=>(Jfn,false)
def Q6e {α:Type} (f:α→Int):List α→List α→Bool
 | _,[]=>true
 | pre,x::xs=>!(pre.any λy=>f y==f x)&&Q6e f (pre++[x]) xs
def Q9b (c:Int):List Item→List Item→Bool
 | _,[]=>true
 | pre,x::xs=>!(decide (x.fM≥c))&&!(pre.any λy=>y.f4==x.f4)&&Q9b c (pre++[x]) xs
def Q81 (r:Request):Bool :=
 Q6e Typ.f4 [] r.fG&&Q9b r.fU [] r.fV&&(Qs0 r r.fT).isSome&&!(r.fR.any λp=>decide (p.fA≥r.fU)||decide (p.fB≥r.fU))
def sid (a b c:Int):Int×Int×Int :=
 let lo:=if a≤b then (if a≤c then a else c) else (if b≤c then b else c)
 let hi:=if a≥b then (if a≥c then a else c) else (if b≥c then b else c)
 (lo,a+b+c - lo - hi,hi)
def Qzd (x:Item) (t:Typ):Bool :=
 decide ((sid x.fW x.fH x.fD).1≤(sid t.fW t.fH t.fD).1)&&decide ((sid x.fW x.fH x.fD).2.1≤(sid t.fW t.fH t.fD).2.1)&&decide ((sid x.fW x.fH x.fD).2.2≤(sid t.fW t.fH t.fD).2.2)&&decide (x.fQ≤t.fQ)
def Qwb (r:Request):Typ:=(Qxz (Qs0 r r.fT)).1
def Q6h (p:Pallet) (t:Typ):Bool:=decide (t.fW>p.fW)||(decide (t.fD>p.fD)||(decide (t.fH>p.fH)||decide (w64 (t.fO+t.fQ)>p.fQ)))
def Qhu (r:Request):Int :=
 bif !Q3d r then 2 else bif !Q81 r then 3 else bif !Q9j r.fR r.fU then 4 else bif !(r.fV.all λx=>Qzd x (Qwb r)) then 5 else bif r.fG.any (Q6h r.fJ) then 6 else 0
def Q6c:Int→List Item→List Int
 | _,[]=>[]
 | i,x::xs=>List.replicate x.fF.toNat i++Q6c (i+1) xs
def l6M (r:Request):List Int:=Q6c 0 r.fV
def Qmz (r:Request):List Int:=bif Qhu r==0 then l6M r else []
def Q2b (r:Request) (u:Int):Option Item:=Qac (ix (Qmz r) u) λi=>ix r.fV i
def Q5x (w h d:Int):Int:=bif inb w 0 2000&&(inb h 0 2000&&inb d 0 2000) then w*h*d else 0
def Q63 (x:Item):Int:=Q5x x.fW x.fH x.fD
def Q9f (x:Typ):Int:=Q5x x.fW x.fH x.fD
def Qwj (r:Request) (us:List Int):List Item:=us.filterMap (Q2b r)
def Qwp (r:Request) (us:List Int):Int:=Qw1 ((Qwj r us).map Q63)
theorem Q6u (w h d:Int):0≤Q5x w h d∧Q5x w h d≤8000000000:=by
 unfold Q5x
 cases hb:inb w 0 2000&&(inb h 0 2000&&inb d 0 2000)
 · simp
 · simp only [Bool.and_eq_true,Qdc] at hb
   obtain ⟨⟨h1,h2⟩,⟨h3,h4⟩,h5,h6⟩:=hb
   simp only [cond_true]
   have a1:0≤w*h:=Int.mul_nonneg h1 h3
   have a2:w*h≤2000*2000:=Int.mul_le_mul h2 h4 h3 (by omega)
   have a3:0≤w*h*d:=Int.mul_nonneg a1 h5
   have a4:w*h*d≤2000*2000*2000:=Int.mul_le_mul a2 h6 h5 (by omega)
   omega
theorem Qgv {r:Request} (h:Qhu r=0):Q3d r=true∧Q81 r=true∧Q9j r.fR r.fU=true∧(∀ x∈r.fV,Qzd x (Qwb r)=true)∧(∀ t∈r.fG,Q6h r.fJ t=false):=by
 unfold Qhu at h
 cases h1:Q3d r
 · simp [h1] at h
 cases h2:Q81 r
 · simp [h1,h2] at h
 cases h3:Q9j r.fR r.fU
 · simp [h1,h2,h3] at h
 cases h4:r.fV.all λx=>Qzd x (Qwb r)
 · simp only [h1,h2,h3,h4] at h; simp at h
 cases h5:r.fG.any (Q6h r.fJ)
 · refine ⟨rfl,rfl,rfl,by simpa using h4,?_⟩
   intro t ht
   have:=List.any_eq_false.1 h5 t ht
   simpa using this
 · simp only [h1,h2,h3,h4,h5] at h; simp at h
theorem Qxu {r:Request} (h:Q3d r=true):∀ t∈r.fG,Q1d t=true:=by
 simp only [Q3d,Bool.and_eq_true,List.all_eq_true] at h
 exact h.1.1.1.2
theorem Qr3 {r:Request} (h:Q3d r=true):(∀ x∈r.fV,Qxe x=true)∧Qw1 (r.fV.map (·.fF))≤12∧r.fV.length≤8:=by
 simp only [Q3d,Bool.and_eq_true,List.all_eq_true,decide_eq_true_eq] at h
 exact ⟨h.2.1,h.2.2,h.1.2⟩
theorem Q47:∀ (l:List Item) (i:Int),(∀ x∈l,0≤x.fF)→((Q6c i l).length:Int)=Qw1 (l.map (·.fF))
 | [],_,_=>rfl
 | x::xs,i,h=>by
  have:=Q47 xs (i+1) (λy hy=>h y (by simp [hy]))
  have hx:=h x (by simp)
  simp only [Q6c,List.length_append,List.length_replicate,List.map_cons,Qrk]
  omega
theorem Q5m:∀ (l:List Item) (i:Int) (u:Int),u∈Q6c i l→i≤u∧u<i+l.length
 | [],_,_,h=>by simp [Q6c] at h
 | x::xs,i,u,h=>by
  simp only [Q6c,List.mem_append] at h
  rcases h with h | h
  · have:=(List.mem_replicate.1 h).2
    simp; omega
  · have:=Q5m xs (i+1) u h
    simp; omega
theorem Q86 {r:Request} (h:Q3d r=true):(l6M r).length≤12:=by
 obtain ⟨h1,h2,_⟩:=Qr3 h
 have:=Q47 r.fV 0 (λx hx=>by
  have:=h1 x hx
  simp only [Qxe,Bool.and_eq_true,Qdc] at this
  omega)
 unfold l6M
 omega
theorem Q1v (r:Request):(Qmz r).length≤12:=by
 unfold Qmz
 cases h:Qhu r==0
 · simp
 · exact Q86 (Qgv (by simpa using h)).1
theorem Q0y {r:Request} {i:Int} (h:i∈Qmz r):0≤i∧i<r.fV.length:=by
 unfold Qmz at h
 cases hc:Qhu r==0
 · simp [hc] at h
 · simp only [hc,cond_true] at h
   have:=Q5m _ _ _ h
   omega
theorem Qml {α:Type} {l:List α} {i:Int} {x:α} (h:ix l i=some x):x∈l:=List.mem_of_getElem? (Qan h).2.2
theorem Q30 {r:Request} {u:Int} (h:0≤u∧u<(Qmz r).length):∃ i x,ix (Qmz r) u=some i∧ix r.fV i=some x∧Q2b r u=some x:=by
 have h1:u.toNat<(Qmz r).length:=by omega
 have e1:ix (Qmz r) u=some (Qmz r)[u.toNat]:=by
  unfold ix; rw [if_pos h.1,List.getElem?_eq_getElem h1]
 have h2:=Q0y (List.getElem_mem h1)
 have h3:((Qmz r)[u.toNat]).toNat<r.fV.length:=by omega
 have e2:ix r.fV (Qmz r)[u.toNat]=some r.fV[((Qmz r)[u.toNat]).toNat]:=by
  unfold ix; rw [if_pos h2.1,List.getElem?_eq_getElem h3]
 refine ⟨_,_,e1,e2,?_⟩
 unfold Q2b
 rw [e1,Qab,e2]
theorem Q1r {r:Request} {u:Int} (h:¬ (0≤u∧u<(Qmz r).length)):Q2b r u=none:=by
 unfold Q2b ix
 by_cases h0:0≤u
 · rw [if_pos h0,List.getElem?_eq_none (by omega)]; rfl
 · rw [if_neg h0]; rfl
theorem Qxn (r:Request) (us:List Int):(Qwj r us).length≤us.length:=List.length_filterMap_le _ _
end Go.Proofs.YtpcmapfabndggabGreatDoor
