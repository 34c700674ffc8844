/- What the program's f.. -/
import Derived.Test.YtndfoffokpdjeaaGreatDoorQ2
import Derived.Test.YtndfoffokpdjeaaGreatDoorD1
import Derived.Test.YtndfoffokpdjeaaGreatDoorS13
set_option linter.unusedSimpArgs false
set_option linter.unusedVariables false
namespace Go.Proofs.YtndfoffokpdjeaaGreatDoor
open Go
open Enc (rd ow)
open Arg (argv)
open Ret (retv)
open Wf (wf)
def inb (n lo hi:Int):Bool:=decide (lo≤n∧n≤hi)
@[simp] theorem Qcd {n lo hi:Int}:inb n lo hi=true↔lo≤n∧n≤hi:=by simp [inb]
def Qtn (p:Pallet):Bool:=inb p.fW 1 2000&&(inb p.fD 1 2000&&(inb p.fH 1 2000&&inb p.fQ 1 100000))
def Qxs (t:Typ):Bool:=inb t.f0 0 999&&(inb t.fW 1 2000&&(inb t.fH 1 2000&&(inb t.fD 1 2000&&(inb t.fF 0 100000&&(inb t.fQ 1 100000&&inb t.fE 0 100000)))))
def Quf (x:Item):Bool:=inb x.f0 0 999&&(inb x.fW 1 2000&&(inb x.fH 1 2000&&(inb x.fD 1 2000&&(inb x.fQ 1 100000&&(inb x.fL 0 3&&inb x.fM 1 6)))))
def prB (p:Pair):Bool:=inb p.fA 0 3&&inb p.fB 0 3
def Qvo:List Int→Int
 | []=>0
 | x::xs=>x+Qvo xs
@[simp] theorem Jik:Qvo []=0:=rfl
@[simp] theorem Qq8 (x:Int) (xs:List Int):Qvo (x::xs)=x+Qvo xs:=rfl
theorem Je1 {α:Type} (f:α→Int) (l:List α) (b:Int) (h:∀ x∈l,f x≤b):Qvo (l.map f)≤b*l.length:=by
 induction l with
 | nil=>simp
 | cons x xs ih =>
  have h1:=h x (by simp)
  have h2:=ih (λy hy=>h y (by simp [hy]))
  simp only [List.map_cons,Qq8,List.length_cons]
  rw [show ((xs.length+1:Nat):Int)=(xs.length:Int)+1 by omega,Int.mul_add]
  omega
theorem Q66 {α:Type} (f:α→Int) (l:List α) (h:∀ x∈l,0≤f x):0≤Qvo (l.map f):=by
 induction l with
 | nil=>simp
 | cons x xs ih =>
  have h1:=h x (by simp)
  have h2:=ih (λy hy=>h y (by simp [hy]))
  simp only [List.map_cons,Qq8]
  omega
def Qx8 (r:Request):Bool :=
 inb r.fO 0 1&&Qtn r.fJ&&inb r.fU 1 4&&decide (r.fT.length≤16)&&r.fT.all prB&&inb r.fG.length 1 5&&r.fG.all Qxs&&inb r.fR 0 999&&decide (r.fV.length≤8)&&(r.fV.all Quf&&decide (Qvo (r.fV.map (·.fM))≤12))
def Qr9 (l:List Pair) (a b:Int):Bool:=l.any λp=>p.fA==a&&p.fB==b
def Q9u (l:List Pair) (c:Int):Bool:=inb c 1 4&&(Qnf 0 c.toNat).all λa=>Qr9 l a a&&(Qnf 0 c.toNat).all λb=>Qr9 l a b==Qr9 l b a
def Jff:Typ:=⟨0,0,0,0,0,0,0⟩
def Q5o:Item:=⟨0,0,0,0,0,0,0⟩
def Qrc (r:Request) (id:Int):Option Typ:=r.fG.find? λt=>t.f0==id
def Qwc (o:Option Typ):Typ×Bool:=match o with | some t=>(t,true) | none=>(Jff,false)
def Q2g {α:Type} (f:α→Int):List α→List α→Bool
 | _,[]=>true
 | pre,x::xs=>!(pre.any λy=>f y==f x)&&Q2g f (pre++[x]) xs
def Q4a (c:Int):List Item→List Item→Bool
 | _,[]=>true
 | pre,x::xs=>!(decide (x.fL≥c))&&!(pre.any λy=>y.f0==x.f0)&&Q4a c (pre++[x]) xs
def Q2w (r:Request):Bool :=
 Q2g Typ.f0 [] r.fG&&Q4a r.fU [] r.fV&&(Qrc r r.fR).isSome&&!(r.fT.any λp=>decide (p.fA≥r.fU)||decide (p.fB≥r.fU))
def sid (a b c:Int):Int×Int×Int :=
 let lo:=if a≤b then (if a≤c then a else c) else (if b≤c then b else c)
 let hi:=if a≥b then (if a≥c then a else c) else (if b≥c then b else c)
 (lo,a+b+c - lo - hi,hi)
def Qub (x:Item) (t:Typ):Bool :=
 decide ((sid x.fW x.fH x.fD).1≤(sid t.fW t.fH t.fD).1)&&decide ((sid x.fW x.fH x.fD).2.1≤(sid t.fW t.fH t.fD).2.1)&&decide ((sid x.fW x.fH x.fD).2.2≤(sid t.fW t.fH t.fD).2.2)&&decide (x.fQ≤t.fQ)
def Qsv (r:Request):Typ:=(Qwc (Qrc r r.fR)).1
def Q39 (p:Pallet) (t:Typ):Bool:=decide (t.fW>p.fW)||(decide (t.fD>p.fD)||(decide (t.fH>p.fH)||decide (w64 (t.fF+t.fQ)>p.fQ)))
def Qgq (r:Request):Int :=
 bif !Qx8 r then 2 else bif !Q2w r then 3 else bif !Q9u r.fT r.fU then 4 else bif !(r.fV.all λx=>Qub x (Qsv r)) then 5 else bif r.fG.any (Q39 r.fJ) then 6 else 0
def Q2k:Int→List Item→List Int
 | _,[]=>[]
 | i,x::xs=>List.replicate x.fM.toNat i++Q2k (i+1) xs
def l6M (r:Request):List Int:=Q2k 0 r.fV
def Qlr (r:Request):List Int:=bif Qgq r==0 then l6M r else []
def Qwi (r:Request) (u:Int):Option Item:=Qab (ix (Qlr r) u) λi=>ix r.fV i
def Q5u (w h d:Int):Int:=bif inb w 0 2000&&(inb h 0 2000&&inb d 0 2000) then w*h*d else 0
def Q5p (x:Item):Int:=Q5u x.fW x.fH x.fD
def Q9t (x:Typ):Int:=Q5u x.fW x.fH x.fD
def Qtm (r:Request) (us:List Int):List Item:=us.filterMap (Qwi r)
def Quo (r:Request) (us:List Int):Int:=Qvo ((Qtm r us).map Q5p)
theorem Q6g (w h d:Int):0≤Q5u w h d∧Q5u w h d≤8000000000:=by
 unfold Q5u
 cases hb:inb w 0 2000&&(inb h 0 2000&&inb d 0 2000)
 · simp
 · simp only [Bool.and_eq_true,Qcd] at hb
   obtain ⟨⟨h1,h2⟩,⟨h3,h4⟩,h5,h6⟩:=hb
   simp only [cond_true]
   have a1:0≤w*h:=Int.mul_nonneg h1 h3
   have a2:w*h≤2000*2000:=Int.mul_le_mul h2 h4 h3 (by omega)
   have a3:0≤w*h*d:=Int.mul_nonneg a1 h5
   have a4:w*h*d≤2000*2000*2000:=Int.mul_le_mul a2 h6 h5 (by omega)
   omega
theorem Qec {r:Request} (h:Qgq r=0):Qx8 r=true∧Q2w r=true∧Q9u r.fT r.fU=true∧(∀ x∈r.fV,Qub x (Qsv r)=true)∧(∀ t∈r.fG,Q39 r.fJ t=false):=by
 unfold Qgq at h
 cases h1:Qx8 r
 · simp [h1] at h
 cases h2:Q2w r
 · simp [h1,h2] at h
 cases h3:Q9u r.fT r.fU
 · simp [h1,h2,h3] at h
 cases h4:r.fV.all λx=>Qub x (Qsv r)
 · simp only [h1,h2,h3,h4] at h; simp at h
 cases h5:r.fG.any (Q39 r.fJ)
 · refine ⟨rfl,rfl,rfl,by simpa using h4,?_⟩
   intro t ht
   have:=List.any_eq_false.1 h5 t ht
   simpa using this
 · simp only [h1,h2,h3,h4,h5] at h; simp at h
theorem Qsa {r:Request} (h:Qx8 r=true):∀ t∈r.fG,Qxs t=true:=by
 simp only [Qx8,Bool.and_eq_true,List.all_eq_true] at h
 exact h.1.1.1.2
theorem Qof {r:Request} (h:Qx8 r=true):(∀ x∈r.fV,Quf x=true)∧Qvo (r.fV.map (·.fM))≤12∧r.fV.length≤8:=by
 simp only [Qx8,Bool.and_eq_true,List.all_eq_true,decide_eq_true_eq] at h
 exact ⟨h.2.1,h.2.2,h.1.2⟩
theorem Q4r:∀ (l:List Item) (i:Int),(∀ x∈l,0≤x.fM)→((Q2k i l).length:Int)=Qvo (l.map (·.fM))
 | [],_,_=>rfl
 | x::xs,i,h=>by
  have:=Q4r xs (i+1) (λy hy=>h y (by simp [hy]))
  have hx:=h x (by simp)
  simp only [Q2k,List.length_append,List.length_replicate,List.map_cons,Qq8]
  omega
theorem Q32:∀ (l:List Item) (i:Int) (u:Int),u∈Q2k i l→i≤u∧u<i+l.length
 | [],_,_,h=>by simp [Q2k] at h
 | x::xs,i,u,h=>by
  simp only [Q2k,List.mem_append] at h
  rcases h with h | h
  · have:=(List.mem_replicate.1 h).2
    simp; omega
  · have:=Q32 xs (i+1) u h
    simp; omega
theorem Q7a {r:Request} (h:Qx8 r=true):(l6M r).length≤12:=by
 obtain ⟨h1,h2,_⟩:=Qof h
 have:=Q4r r.fV 0 (λx hx=>by
  have:=h1 x hx
  simp only [Quf,Bool.and_eq_true,Qcd] at this
  omega)
 unfold l6M
 omega
theorem Q0r (r:Request):(Qlr r).length≤12:=by
 unfold Qlr
 cases h:Qgq r==0
 · simp
 · exact Q7a (Qec (by simpa using h)).1
theorem Q1m {r:Request} {i:Int} (h:i∈Qlr r):0≤i∧i<r.fV.length:=by
 unfold Qlr at h
 cases hc:Qgq r==0
 · simp [hc] at h
 · simp only [hc,cond_true] at h
   have:=Q32 _ _ _ h
   omega
theorem Qm0 {α:Type} {l:List α} {i:Int} {x:α} (h:ix l i=some x):x∈l:=List.mem_of_getElem? (Qaf h).2.2
theorem Q21 {r:Request} {u:Int} (h:0≤u∧u<(Qlr r).length):∃ i x,ix (Qlr r) u=some i∧ix r.fV i=some x∧Qwi r u=some x:=by
 have h1:u.toNat<(Qlr r).length:=by omega
 have e1:ix (Qlr r) u=some (Qlr r)[u.toNat]:=by
  unfold ix; rw [if_pos h.1,List.getElem?_eq_getElem h1]
 have h2:=Q1m (List.getElem_mem h1)
 have h3:((Qlr r)[u.toNat]).toNat<r.fV.length:=by omega
 have e2:ix r.fV (Qlr r)[u.toNat]=some r.fV[((Qlr r)[u.toNat]).toNat]:=by
  unfold ix; rw [if_pos h2.1,List.getElem?_eq_getElem h3]
 refine ⟨_,_,e1,e2,?_⟩
 unfold Qwi
 rw [e1,Qaa,e2]
theorem Qz2 {r:Request} {u:Int} (h:¬ (0≤u∧u<(Qlr r).length)):Qwi r u=none:=by
 unfold Qwi ix
 by_cases h0:0≤u
 · rw [if_pos h0,List.getElem?_eq_none (by omega)]; rfl
 · rw [if_neg h0]; rfl
theorem Qwp (r:Request) (us:List Int):(Qtm r us).length≤us.length:=List.length_filterMap_le _ _
end Go.Proofs.YtndfoffokpdjeaaGreatDoor
