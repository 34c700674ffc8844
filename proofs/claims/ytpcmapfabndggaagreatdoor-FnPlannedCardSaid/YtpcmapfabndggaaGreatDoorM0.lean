/- What the program's f.. -/
import Derived.Test.YtpcmapfabndggaaGreatDoorQ2
import Derived.Test.YtpcmapfabndggaaGreatDoorD1
import Derived.Test.YtpcmapfabndggaaGreatDoorS13
set_option linter.unusedSimpArgs false
set_option linter.unusedVariables false
namespace Go.Proofs.YtpcmapfabndggaaGreatDoor
open Go
open Enc (rd ow)
open Arg (argv)
open Ret (retv)
open Wf (wf)
def inb (n lo hi:Int):Bool:=decide (lo≤n∧n≤hi)
@[simp] theorem Qcu {n lo hi:Int}:inb n lo hi=true↔lo≤n∧n≤hi:=by simp [inb]
def Qv8 (p:Pallet):Bool:=inb p.fW 1 2000&&(inb p.fD 1 2000&&(inb p.fH 1 2000&&inb p.fQ 1 100000))
def Q2w (t:Typ):Bool:=inb t.qQ 0 999&&(inb t.fW 1 2000&&(inb t.fH 1 2000&&(inb t.fD 1 2000&&(inb t.ft 0 100000&&(inb t.fQ 1 100000&&inb t.fK 0 100000)))))
def Qyk (x:Item):Bool:=inb x.qQ 0 999&&(inb x.fW 1 2000&&(inb x.fH 1 2000&&(inb x.fD 1 2000&&(inb x.fQ 1 100000&&(inb x.fL 0 3&&inb x.f0 1 6)))))
def prB (p:Pair):Bool:=inb p.fA 0 3&&inb p.fB 0 3
def Qsp:List Int→Int
 | []=>0
 | x::xs=>x+Qsp xs
@[simp] theorem Quy:Qsp []=0:=rfl
@[simp] theorem Qf0 (x:Int) (xs:List Int):Qsp (x::xs)=x+Qsp xs:=rfl
theorem Qof (a b:List Int):Qsp (a++b)=Qsp a+Qsp b:=by
 induction a with
 | nil=>simp
 | cons x xs ih=>simp [ih]; omega
theorem Jgu {α:Type} (f:α→Int) (l:List α) (b:Int) (h:∀ x∈l,f x≤b):Qsp (l.map f)≤b*l.length:=by
 induction l with
 | nil=>simp
 | cons x xs ih =>
  have h1:=h x (by simp)
  have h2:=ih (λy hy=>h y (by simp [hy]))
  simp only [List.map_cons,Qf0,List.length_cons]
  rw [show ((xs.length+1:Nat):Int)=(xs.length:Int)+1 by omega,Int.mul_add]
  omega
theorem Q0e {α:Type} (f:α→Int) (l:List α) (h:∀ x∈l,0≤f x):0≤Qsp (l.map f):=by
 induction l with
 | nil=>simp
 | cons x xs ih =>
  have h1:=h x (by simp)
  have h2:=ih (λy hy=>h y (by simp [hy]))
  simp only [List.map_cons,Qf0]
  omega
def Q4n (r:Request):Bool :=
 inb r.qY 0 1&&Qv8 r.fJ&&inb r.fG 1 4&&decide (r.fT.length≤16)&&r.fT.all prB&&inb r.fR.length 1 5&&r.fR.all Q2w&&inb r.fP 0 999&&decide (r.fU.length≤8)&&(r.fU.all Qyk&&decide (Qsp (r.fU.map (·.f0))≤12))
def Qt1 (l:List Pair) (a b:Int):Bool:=l.any λp=>p.fA==a&&p.fB==b
def Jcp (l:List Pair) (c:Int):Bool:=inb c 1 4&&(Qf5 0 c.toNat).all λa=>Qt1 l a a&&(Qf5 0 c.toNat).all λb=>Qt1 l a b==Qt1 l b a
def Jh9:Typ:=⟨0,0,0,0,0,0,0⟩
def Q8m:Item:=⟨0,0,0,0,0,0,0⟩
def Qty (r:Request) (id:Int):Option Typ:=r.fR.find? λt=>t.qQ==id
def Qzh (o:Option Typ):Typ×Bool:=match o with | some t=>(t,true) | none=>(Jh9,false)
def Q86 {α:Type} (f:α→Int):List α→List α→Bool
 | _,[]=>true
 | pre,x::xs=>!(pre.any λy=>f y==f x)&&Q86 f (pre++[x]) xs
def Q85 (c:Int):List Item→List Item→Bool
 | _,[]=>true
 | pre,x::xs=>!(decide (x.fL≥c))&&!(pre.any λy=>y.qQ==x.qQ)&&Q85 c (pre++[x]) xs
def Q84 (r:Request):Bool :=
 Q86 Typ.qQ [] r.fR&&Q85 r.fG [] r.fU&&(Qty r r.fP).isSome&&!(r.fT.any λp=>decide (p.fA≥r.fG)||decide (p.fB≥r.fG))
def sid (a b c:Int):Int×Int×Int :=
 let lo:=if a≤b then (if a≤c then a else c) else (if b≤c then b else c)
 let hi:=if a≥b then (if a≥c then a else c) else (if b≥c then b else c)
 (lo,a+b+c - lo - hi,hi)
def Q17 (x:Item) (t:Typ):Bool :=
 decide ((sid x.fW x.fH x.fD).1≤(sid t.fW t.fH t.fD).1)&&decide ((sid x.fW x.fH x.fD).2.1≤(sid t.fW t.fH t.fD).2.1)&&decide ((sid x.fW x.fH x.fD).2.2≤(sid t.fW t.fH t.fD).2.2)&&decide (x.fQ≤t.fQ)
def Qxv (r:Request):Typ:=(Qzh (Qty r r.fP)).1
def Q87 (p:Pallet) (t:Typ):Bool:=decide (t.fW>p.fW)||(decide (t.fD>p.fD)||(decide (t.fH>p.fH)||decide (w64 (t.ft+t.fQ)>p.fQ)))
def Qhg (r:Request):Int :=
 bif !Q4n r then 2 else bif !Q84 r then 3 else bif !Jcp r.fT r.fG then 4 else bif !(r.fU.all λx=>Q17 x (Qxv r)) then 5 else bif r.fR.any (Q87 r.fJ) then 6 else 0
def Q8y:Int→List Item→List Int
 | _,[]=>[]
 | i,x::xs=>List.replicate x.f0.toNat i++Q8y (i+1) xs
def l6M (r:Request):List Int:=Q8y 0 r.fU
def Qja (r:Request):List Int:=bif Qhg r==0 then l6M r else []
def Qz1 (r:Request) (u:Int):Option Item:=Qac (ix (Qja r) u) λi=>ix r.fU i
def Q8t (w h d:Int):Int:=bif inb w 0 2000&&(inb h 0 2000&&inb d 0 2000) then w*h*d else 0
def Jat (x:Item):Int:=Q8t x.fW x.fH x.fD
def Jcn (x:Typ):Int:=Q8t x.fW x.fH x.fD
def Qyz (r:Request) (us:List Int):List Item:=us.filterMap (Qz1 r)
def Qxw (r:Request) (us:List Int):Int:=Qsp ((Qyz r us).map Jat)
theorem Jch (w h d:Int):0≤Q8t w h d∧Q8t w h d≤8000000000:=by
 unfold Q8t
 cases hb:inb w 0 2000&&(inb h 0 2000&&inb d 0 2000)
 · simp
 · simp only [Bool.and_eq_true,Qcu] at hb
   obtain ⟨⟨h1,h2⟩,⟨h3,h4⟩,h5,h6⟩:=hb
   simp only [cond_true]
   have a1:0≤w*h:=Int.mul_nonneg h1 h3
   have a2:w*h≤2000*2000:=Int.mul_le_mul h2 h4 h3 (by omega)
   have a3:0≤w*h*d:=Int.mul_nonneg a1 h5
   have a4:w*h*d≤2000*2000*2000:=Int.mul_le_mul a2 h6 h5 (by omega)
   omega
theorem Qez {r:Request} (h:Qhg r=0):Q4n r=true∧Q84 r=true∧Jcp r.fT r.fG=true∧(∀ x∈r.fU,Q17 x (Qxv r)=true)∧(∀ t∈r.fR,Q87 r.fJ t=false):=by
 unfold Qhg at h
 cases h1:Q4n r
 · simp [h1] at h
 cases h2:Q84 r
 · simp [h1,h2] at h
 cases h3:Jcp r.fT r.fG
 · simp [h1,h2,h3] at h
 cases h4:r.fU.all λx=>Q17 x (Qxv r)
 · simp only [h1,h2,h3,h4] at h; simp at h
 cases h5:r.fR.any (Q87 r.fJ)
 · refine ⟨rfl,rfl,rfl,by simpa using h4,?_⟩
   intro t ht
   have:=List.any_eq_false.1 h5 t ht
   simpa using this
 · simp only [h1,h2,h3,h4,h5] at h; simp at h
theorem Qw1 {r:Request} (h:Q4n r=true):∀ t∈r.fR,Q2w t=true:=by
 simp only [Q4n,Bool.and_eq_true,List.all_eq_true] at h
 exact h.1.1.1.2
theorem Qr2 {r:Request} (h:Q4n r=true):(∀ x∈r.fU,Qyk x=true)∧Qsp (r.fU.map (·.f0))≤12∧r.fU.length≤8:=by
 simp only [Q4n,Bool.and_eq_true,List.all_eq_true,decide_eq_true_eq] at h
 exact ⟨h.2.1,h.2.2,h.1.2⟩
theorem Q60:∀ (l:List Item) (i:Int),(∀ x∈l,0≤x.f0)→((Q8y i l).length:Int)=Qsp (l.map (·.f0))
 | [],_,_=>rfl
 | x::xs,i,h=>by
  have:=Q60 xs (i+1) (λy hy=>h y (by simp [hy]))
  have hx:=h x (by simp)
  simp only [Q8y,List.length_append,List.length_replicate,List.map_cons,Qf0]
  omega
theorem Q8c:∀ (l:List Item) (i:Int) (u:Int),u∈Q8y i l→i≤u∧u<i+l.length
 | [],_,_,h=>by simp [Q8y] at h
 | x::xs,i,u,h=>by
  simp only [Q8y,List.mem_append] at h
  rcases h with h | h
  · have:=(List.mem_replicate.1 h).2
    simp; omega
  · have:=Q8c xs (i+1) u h
    simp; omega
theorem Jbh {r:Request} (h:Q4n r=true):(l6M r).length≤12:=by
 obtain ⟨h1,h2,_⟩:=Qr2 h
 have:=Q60 r.fU 0 (λx hx=>by
  have:=h1 x hx
  simp only [Qyk,Bool.and_eq_true,Qcu] at this
  omega)
 unfold l6M
 omega
theorem Qv1 (r:Request):(Qja r).length≤12:=by
 unfold Qja
 cases h:Qhg r==0
 · simp
 · exact Jbh (Qez (by simpa using h)).1
theorem Q30 {r:Request} {i:Int} (h:i∈Qja r):0≤i∧i<r.fU.length:=by
 unfold Qja at h
 cases hc:Qhg r==0
 · simp [hc] at h
 · simp only [hc,cond_true] at h
   have:=Q8c _ _ _ h
   omega
theorem Qf7 {α:Type} {l:List α} {i:Int} {x:α} (h:ix l i=some x):x∈l:=List.mem_of_getElem? (Qal h).2.2
theorem Q6v {r:Request} {u:Int} (h:0≤u∧u<(Qja r).length):∃ i x,ix (Qja r) u=some i∧ix r.fU i=some x∧Qz1 r u=some x:=by
 have h1:u.toNat<(Qja r).length:=by omega
 have e1:ix (Qja r) u=some (Qja r)[u.toNat]:=by
  unfold ix; rw [if_pos h.1,List.getElem?_eq_getElem h1]
 have h2:=Q30 (List.getElem_mem h1)
 have h3:((Qja r)[u.toNat]).toNat<r.fU.length:=by omega
 have e2:ix r.fU (Qja r)[u.toNat]=some r.fU[((Qja r)[u.toNat]).toNat]:=by
  unfold ix; rw [if_pos h2.1,List.getElem?_eq_getElem h3]
 refine ⟨_,_,e1,e2,?_⟩
 unfold Qz1
 rw [e1,Qab,e2]
theorem Q29 {r:Request} {u:Int} (h:¬ (0≤u∧u<(Qja r).length)):Qz1 r u=none:=by
 unfold Qz1 ix
 by_cases h0:0≤u
 · rw [if_pos h0,List.getElem?_eq_none (by omega)]; rfl
 · rw [if_neg h0]; rfl
theorem Qxk (r:Request) (us:List Int):(Qyz r us).length≤us.length:=List.length_filterMap_le _ _
end Go.Proofs.YtpcmapfabndggaaGreatDoor
