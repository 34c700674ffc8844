/- What the program's f.. -/
import Derived.Test.YtpcmapfabndggaaGreatDoorQ2
import Derived.Test.YtpcmapfabndggaaGreatDoorD1
import Derived.Test.YtpcmapfabndggaaGreatDoorS13
set_option linter.unusedSimpArgs false
set_option linter.unusedVariables false
namespace Go.Proofs.YtpcmapfabndggaaGreatDoor
open Go
open Enc (rd ow)
open Arg (argv)
open Ret (retv)
open Wf (wf)
def inb (n lo hi:Int):Bool:=decide (lo≤n∧n≤hi)
@[simp] theorem Qdx {n lo hi:Int}:inb n lo hi=true↔lo≤n∧n≤hi:=by simp [inb]
def Quj (p:Pallet):Bool:=inb p.fW 1 2000&&(inb p.fD 1 2000&&(inb p.fH 1 2000&&inb p.fQ 1 100000))
def Q1i (t:Typ):Bool:=inb t.f8 0 999&&(inb t.fW 1 2000&&(inb t.fH 1 2000&&(inb t.fD 1 2000&&(inb t.fO 0 100000&&(inb t.fQ 1 100000&&inb t.fL 0 100000)))))
def Qw8 (x:Item):Bool:=inb x.f8 0 999&&(inb x.fW 1 2000&&(inb x.fH 1 2000&&(inb x.fD 1 2000&&(inb x.fQ 1 100000&&(inb x.fM 0 3&&inb x.fF 1 6)))))
def prB (p:Pair):Bool:=inb p.fA 0 3&&inb p.fB 0 3
def Qw1:List Int→Int
 | []=>0
 | x::xs=>x+Qw1 xs
@[simp] theorem Jf2:Qw1 []=0:=rfl
@[simp] theorem Qrf (x:Int) (xs:List Int):Qw1 (x::xs)=x+Qw1 xs:=rfl
theorem Jbz {α:Type} (f:α→Int) (l:List α) (b:Int) (h:∀ x∈l,f x≤b):Qw1 (l.map f)≤b*l.length:=by
 induction l with
 | nil=>simp
 | cons x xs ih =>
  have h1:=h x (by simp)
  have h2:=ih (λy hy=>h y (by simp [hy]))
  simp only [List.map_cons,Qrf,List.length_cons]
  rw [show ((xs.length+1:Nat):Int)=(xs.length:Int)+1 by omega,Int.mul_add]
  omega
theorem Q6h {α:Type} (f:α→Int) (l:List α) (h:∀ x∈l,0≤f x):0≤Qw1 (l.map f):=by
 induction l with
 | nil=>simp
 | cons x xs ih =>
  have h1:=h x (by simp)
  have h2:=ih (λy hy=>h y (by simp [hy]))
  simp only [List.map_cons,Qrf]
  omega
def Q20 (r:Request):Bool :=
 inb r.ff 0 1&&Quj r.fJ&&inb r.fU 1 4&&decide (r.fR.length≤16)&&r.fR.all prB&&inb r.fG.length 1 5&&r.fG.all Q1i&&inb r.fT 0 999&&decide (r.fV.length≤8)&&(r.fV.all Qw8&&decide (Qw1 (r.fV.map (·.fF))≤12))
def Qsq (l:List Pair) (a b:Int):Bool:=l.any λp=>p.fA==a&&p.fB==b
def Q9e (l:List Pair) (c:Int):Bool:=inb c 1 4&&(Qnm 0 c.toNat).all λa=>Qsq l a a&&(Qnm 0 c.toNat).all λb=>Qsq l a b==Qsq l b a
def Jez:Typ:=⟨0,0,0,0,0,0,0⟩
def Q5z:Item:=⟨0,0,0,0,0,0,0⟩
def Qsw (r:Request) (id:Int):Option Typ:=r.fG.find? λt=>t.f8==id
def Qyl (o:Option Typ):Typ×Bool:=match o with | some t=>(t,true) | none=>(Jez,false)
def Q54 {α:Type} (f:α→Int):List α→List α→Bool
 | _,[]=>true
 | pre,x::xs=>!(pre.any λy=>f y==f x)&&Q54 f (pre++[x]) xs
def Q81 (c:Int):List Item→List Item→Bool
 | _,[]=>true
 | pre,x::xs=>!(decide (x.fM≥c))&&!(pre.any λy=>y.f8==x.f8)&&Q81 c (pre++[x]) xs
def Q75 (r:Request):Bool :=
 Q54 Typ.f8 [] r.fG&&Q81 r.fU [] r.fV&&(Qsw r r.fT).isSome&&!(r.fR.any λp=>decide (p.fA≥r.fU)||decide (p.fB≥r.fU))
def sid (a b c:Int):Int×Int×Int :=
 let lo:=if a≤b then (if a≤c then a else c) else (if b≤c then b else c)
 let hi:=if a≥b then (if a≥c then a else c) else (if b≥c then b else c)
 (lo,a+b+c - lo - hi,hi)
def Qzq (x:Item) (t:Typ):Bool :=
 decide ((sid x.fW x.fH x.fD).1≤(sid t.fW t.fH t.fD).1)&&decide ((sid x.fW x.fH x.fD).2.1≤(sid t.fW t.fH t.fD).2.1)&&decide ((sid x.fW x.fH x.fD).2.2≤(sid t.fW t.fH t.fD).2.2)&&decide (x.fQ≤t.fQ)
def Qv6 (r:Request):Typ:=(Qyl (Qsw r r.fT)).1
def Q53 (p:Pallet) (t:Typ):Bool:=decide (t.fW>p.fW)||(decide (t.fD>p.fD)||(decide (t.fH>p.fH)||decide (w64 (t.fO+t.fQ)>p.fQ)))
def Qht (r:Request):Int :=
 bif !Q20 r then 2 else bif !Q75 r then 3 else bif !Q9e r.fR r.fU then 4 else bif !(r.fV.all λx=>Qzq x (Qv6 r)) then 5 else bif r.fG.any (Q53 r.fJ) then 6 else 0
def Q50:Int→List Item→List Int
 | _,[]=>[]
 | i,x::xs=>List.replicate x.fF.toNat i++Q50 (i+1) xs
def l6M (r:Request):List Int:=Q50 0 r.fV
def Qm0 (r:Request):List Int:=bif Qht r==0 then l6M r else []
def Q11 (r:Request) (u:Int):Option Item:=Qac (ix (Qm0 r) u) λi=>ix r.fV i
def Q51 (w h d:Int):Int:=bif inb w 0 2000&&(inb h 0 2000&&inb d 0 2000) then w*h*d else 0
def Q59 (x:Item):Int:=Q51 x.fW x.fH x.fD
def Q8z (x:Typ):Int:=Q51 x.fW x.fH x.fD
def Qwc (r:Request) (us:List Int):List Item:=us.filterMap (Q11 r)
def Qwk (r:Request) (us:List Int):Int:=Qw1 ((Qwc r us).map Q59)
theorem Q7x (w h d:Int):0≤Q51 w h d∧Q51 w h d≤8000000000:=by
 unfold Q51
 cases hb:inb w 0 2000&&(inb h 0 2000&&inb d 0 2000)
 · simp
 · simp only [Bool.and_eq_true,Qdx] at hb
   obtain ⟨⟨h1,h2⟩,⟨h3,h4⟩,h5,h6⟩:=hb
   simp only [cond_true]
   have a1:0≤w*h:=Int.mul_nonneg h1 h3
   have a2:w*h≤2000*2000:=Int.mul_le_mul h2 h4 h3 (by omega)
   have a3:0≤w*h*d:=Int.mul_nonneg a1 h5
   have a4:w*h*d≤2000*2000*2000:=Int.mul_le_mul a2 h6 h5 (by omega)
   omega
theorem Qgy {r:Request} (h:Qht r=0):Q20 r=true∧Q75 r=true∧Q9e r.fR r.fU=true∧(∀ x∈r.fV,Qzq x (Qv6 r)=true)∧(∀ t∈r.fG,Q53 r.fJ t=false):=by
 unfold Qht at h
 cases h1:Q20 r
 · simp [h1] at h
 cases h2:Q75 r
 · simp [h1,h2] at h
 cases h3:Q9e r.fR r.fU
 · simp [h1,h2,h3] at h
 cases h4:r.fV.all λx=>Qzq x (Qv6 r)
 · simp only [h1,h2,h3,h4] at h; simp at h
 cases h5:r.fG.any (Q53 r.fJ)
 · refine ⟨rfl,rfl,rfl,by simpa using h4,?_⟩
   intro t ht
   have:=List.any_eq_false.1 h5 t ht
   simpa using this
 · simp only [h1,h2,h3,h4,h5] at h; simp at h
theorem Qyp {r:Request} (h:Q20 r=true):∀ t∈r.fG,Q1i t=true:=by
 simp only [Q20,Bool.and_eq_true,List.all_eq_true] at h
 exact h.1.1.1.2
theorem Qrz {r:Request} (h:Q20 r=true):(∀ x∈r.fV,Qw8 x=true)∧Qw1 (r.fV.map (·.fF))≤12∧r.fV.length≤8:=by
 simp only [Q20,Bool.and_eq_true,List.all_eq_true,decide_eq_true_eq] at h
 exact ⟨h.2.1,h.2.2,h.1.2⟩
theorem Q31:∀ (l:List Item) (i:Int),(∀ x∈l,0≤x.fF)→((Q50 i l).length:Int)=Qw1 (l.map (·.fF))
 | [],_,_=>rfl
 | x::xs,i,h=>by
  have:=Q31 xs (i+1) (λy hy=>h y (by simp [hy]))
  have hx:=h x (by simp)
  simp only [Q50,List.length_append,List.length_replicate,List.map_cons,Qrf]
  omega
theorem Q4n:∀ (l:List Item) (i:Int) (u:Int),u∈Q50 i l→i≤u∧u<i+l.length
 | [],_,_,h=>by simp [Q50] at h
 | x::xs,i,u,h=>by
  simp only [Q50,List.mem_append] at h
  rcases h with h | h
  · have:=(List.mem_replicate.1 h).2
    simp; omega
  · have:=Q4n xs (i+1) u h
    simp; omega
theorem Q8u {r:Request} (h:Q20 r=true):(l6M r).length≤12:=by
 obtain ⟨h1,h2,_⟩:=Qrz h
 have:=Q31 r.fV 0 (λx hx=>by
  have:=h1 x hx
  simp only [Qw8,Bool.and_eq_true,Qdx] at this
  omega)
 unfold l6M
 omega
theorem Q0t (r:Request):(Qm0 r).length≤12:=by
 unfold Qm0
 cases h:Qht r==0
 · simp
 · exact Q8u (Qgy (by simpa using h)).1
theorem Q04 {r:Request} {i:Int} (h:i∈Qm0 r):0≤i∧i<r.fV.length:=by
 unfold Qm0 at h
 cases hc:Qht r==0
 · simp [hc] at h
 · simp only [hc,cond_true] at h
   have:=Q4n _ _ _ h
   omega
theorem Qmc {α:Type} {l:List α} {i:Int} {x:α} (h:ix l i=some x):x∈l:=List.mem_of_getElem? (Qan h).2.2
theorem Q3u {r:Request} {u:Int} (h:0≤u∧u<(Qm0 r).length):∃ i x,ix (Qm0 r) u=some i∧ix r.fV i=some x∧Q11 r u=some x:=by
 have h1:u.toNat<(Qm0 r).length:=by omega
 have e1:ix (Qm0 r) u=some (Qm0 r)[u.toNat]:=by
  unfold ix; rw [if_pos h.1,List.getElem?_eq_getElem h1]
 have h2:=Q04 (List.getElem_mem h1)
 have h3:((Qm0 r)[u.toNat]).toNat<r.fV.length:=by omega
 have e2:ix r.fV (Qm0 r)[u.toNat]=some r.fV[((Qm0 r)[u.toNat]).toNat]:=by
  unfold ix; rw [if_pos h2.1,List.getElem?_eq_getElem h3]
 refine ⟨_,_,e1,e2,?_⟩
 unfold Q11
 rw [e1,Qab,e2]
theorem Q1f {r:Request} {u:Int} (h:¬ (0≤u∧u<(Qm0 r).length)):Q11 r u=none:=by
 unfold Q11 ix
 by_cases h0:0≤u
 · rw [if_pos h0,List.getElem?_eq_none (by omega)]; rfl
 · rw [if_neg h0]; rfl
theorem Qxc (r:Request) (us:List Int):(Qwc r us).length≤us.length:=List.length_filterMap_le _ _
end Go.Proofs.YtpcmapfabndggaaGreatDoor
