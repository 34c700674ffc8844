/- What the program's f.. -/
import Derived.Test.YtndfoffokpdjeaaGreatDoorQ2
import Derived.Test.YtndfoffokpdjeaaGreatDoorD1
import Derived.Test.YtndfoffokpdjeaaGreatDoorS13
set_option linter.unusedSimpArgs false
set_option linter.unusedVariables false
namespace Go.Proofs.YtndfoffokpdjeaaGreatDoor
open Go
open Enc (rd ow)
open Arg (argv)
open Ret (retv)
open Wf (wf)
def inb (n lo hi:Int):Bool:=decide (lo≤n∧n≤hi)
@[simp] theorem Qcb {n lo hi:Int}:inb n lo hi=true↔lo≤n∧n≤hi:=by simp [inb]
def Qvw (p:Pallet):Bool:=inb p.fW 1 2000&&(inb p.fD 1 2000&&(inb p.fH 1 2000&&inb p.fQ 1 100000))
def Q2s (t:Typ):Bool:=inb t.f8 0 999&&(inb t.fW 1 2000&&(inb t.fH 1 2000&&(inb t.fD 1 2000&&(inb t.fK 0 100000&&(inb t.fQ 1 100000&&inb t.fL 0 100000)))))
def Qyb (x:Item):Bool:=inb x.f8 0 999&&(inb x.fW 1 2000&&(inb x.fH 1 2000&&(inb x.fD 1 2000&&(inb x.fQ 1 100000&&(inb x.fM 0 3&&inb x.fF 1 6)))))
def prB (p:Pair):Bool:=inb p.fA 0 3&&inb p.fB 0 3
def Qxt:List Int→Int
 | []=>0
 | x::xs=>x+Qxt xs
@[simp] theorem Jli:Qxt []=0:=rfl
@[simp] theorem Qq3 (x:Int) (xs:List Int):Qxt (x::xs)=x+Qxt xs:=rfl
theorem Jgo {α:Type} (f:α→Int) (l:List α) (b:Int) (h:∀ x∈l,f x≤b):Qxt (l.map f)≤b*l.length:=by
 induction l with
 | nil=>simp
 | cons x xs ih =>
  have h1:=h x (by simp)
  have h2:=ih (λy hy=>h y (by simp [hy]))
  simp only [List.map_cons,Qq3,List.length_cons]
  rw [show ((xs.length+1:Nat):Int)=(xs.length:Int)+1 by omega,Int.mul_add]
  omega
theorem Jap {α:Type} (f:α→Int) (l:List α) (h:∀ x∈l,0≤f x):0≤Qxt (l.map f):=by
 induction l with
 | nil=>simp
 | cons x xs ih =>
  have h1:=h x (by simp)
  have h2:=ih (λy hy=>h y (by simp [hy]))
  simp only [List.map_cons,Qq3]
  omega
def Q5a (r:Request):Bool :=
 inb r.f9 0 1&&Qvw r.fJ&&inb r.fU 1 4&&decide (r.fT.length≤16)&&r.fT.all prB&&inb r.fG.length 1 5&&r.fG.all Q2s&&inb r.fR 0 999&&decide (r.fV.length≤8)&&(r.fV.all Qyb&&decide (Qxt (r.fV.map (·.fF))≤12))
def Qt0 (l:List Pair) (a b:Int):Bool:=l.any λp=>p.fA==a&&p.fB==b
def Jc2 (l:List Pair) (c:Int):Bool:=inb c 1 4&&(Qj5 0 c.toNat).all λa=>Qt0 l a a&&(Qj5 0 c.toNat).all λb=>Qt0 l a b==Qt0 l b a
def Jj5:Typ:=⟨0,0,0,0,0,0,0⟩
def Q79:Item:=⟨0,0,0,0,0,0,0⟩
def Qt6 (r:Request) (id:Int):Option Typ:=r.fG.find? λt=>t.f8==id
def Qyf (o:Option Typ):Typ×Bool:=match o with | some t=>(t,true) | none=>(Jj5,false)
def Q8j {α:Type} (f:α→Int):List α→List α→Bool
 | _,[]=>true
 | pre,x::xs=>!(pre.any λy=>f y==f x)&&Q8j f (pre++[x]) xs
def Jcc (c:Int):List Item→List Item→Bool
 | _,[]=>true
 | pre,x::xs=>!(decide (x.fM≥c))&&!(pre.any λy=>y.f8==x.f8)&&Jcc c (pre++[x]) xs
def Q96 (r:Request):Bool :=
 Q8j Typ.f8 [] r.fG&&Jcc r.fU [] r.fV&&(Qt6 r r.fR).isSome&&!(r.fT.any λp=>decide (p.fA≥r.fU)||decide (p.fB≥r.fU))
def sid (a b c:Int):Int×Int×Int :=
 let lo:=if a≤b then (if a≤c then a else c) else (if b≤c then b else c)
 let hi:=if a≥b then (if a≥c then a else c) else (if b≥c then b else c)
 (lo,a+b+c - lo - hi,hi)
def Q0d (x:Item) (t:Typ):Bool :=
 decide ((sid x.fW x.fH x.fD).1≤(sid t.fW t.fH t.fD).1)&&decide ((sid x.fW x.fH x.fD).2.1≤(sid t.fW t.fH t.fD).2.1)&&decide ((sid x.fW x.fH x.fD).2.2≤(sid t.fW t.fH t.fD).2.2)&&decide (x.fQ≤t.fQ)
def Qxl (r:Request):Typ:=(Qyf (Qt6 r r.fR)).1
def Q8l (p:Pallet) (t:Typ):Bool:=decide (t.fW>p.fW)||(decide (t.fD>p.fD)||(decide (t.fH>p.fH)||decide (w64 (t.fK+t.fQ)>p.fQ)))
def Qhh (r:Request):Int :=
 bif !Q5a r then 2 else bif !Q96 r then 3 else bif !Jc2 r.fT r.fU then 4 else bif !(r.fV.all λx=>Q0d x (Qxl r)) then 5 else bif r.fG.any (Q8l r.fJ) then 6 else 0
def Q76:Int→List Item→List Int
 | _,[]=>[]
 | i,x::xs=>List.replicate x.fF.toNat i++Q76 (i+1) xs
def l6M (r:Request):List Int:=Q76 0 r.fV
def Qi4 (r:Request):List Int:=bif Qhh r==0 then l6M r else []
def Q3w (r:Request) (u:Int):Option Item:=Qab (ix (Qi4 r) u) λi=>ix r.fV i
def Q8c (w h d:Int):Int:=bif inb w 0 2000&&(inb h 0 2000&&inb d 0 2000) then w*h*d else 0
def Jbv (x:Item):Int:=Q8c x.fW x.fH x.fD
def Jca (x:Typ):Int:=Q8c x.fW x.fH x.fD
def Qxn (r:Request) (us:List Int):List Item:=us.filterMap (Q3w r)
def Qxo (r:Request) (us:List Int):Int:=Qxt ((Qxn r us).map Jbv)
theorem Q99 (w h d:Int):0≤Q8c w h d∧Q8c w h d≤8000000000:=by
 unfold Q8c
 cases hb:inb w 0 2000&&(inb h 0 2000&&inb d 0 2000)
 · simp
 · simp only [Bool.and_eq_true,Qcb] at hb
   obtain ⟨⟨h1,h2⟩,⟨h3,h4⟩,h5,h6⟩:=hb
   simp only [cond_true]
   have a1:0≤w*h:=Int.mul_nonneg h1 h3
   have a2:w*h≤2000*2000:=Int.mul_le_mul h2 h4 h3 (by omega)
   have a3:0≤w*h*d:=Int.mul_nonneg a1 h5
   have a4:w*h*d≤2000*2000*2000:=Int.mul_le_mul a2 h6 h5 (by omega)
   omega
theorem Qfn {r:Request} (h:Qhh r=0):Q5a r=true∧Q96 r=true∧Jc2 r.fT r.fU=true∧(∀ x∈r.fV,Q0d x (Qxl r)=true)∧(∀ t∈r.fG,Q8l r.fJ t=false):=by
 unfold Qhh at h
 cases h1:Q5a r
 · simp [h1] at h
 cases h2:Q96 r
 · simp [h1,h2] at h
 cases h3:Jc2 r.fT r.fU
 · simp [h1,h2,h3] at h
 cases h4:r.fV.all λx=>Q0d x (Qxl r)
 · simp only [h1,h2,h3,h4] at h; simp at h
 cases h5:r.fG.any (Q8l r.fJ)
 · refine ⟨rfl,rfl,rfl,by simpa using h4,?_⟩
   intro t ht
   have:=List.any_eq_false.1 h5 t ht
   simpa using this
 · simp only [h1,h2,h3,h4,h5] at h; simp at h
theorem Qzv {r:Request} (h:Q5a r=true):∀ t∈r.fG,Q2s t=true:=by
 simp only [Q5a,Bool.and_eq_true,List.all_eq_true] at h
 exact h.1.1.1.2
theorem Qsp {r:Request} (h:Q5a r=true):(∀ x∈r.fV,Qyb x=true)∧Qxt (r.fV.map (·.fF))≤12∧r.fV.length≤8:=by
 simp only [Q5a,Bool.and_eq_true,List.all_eq_true,decide_eq_true_eq] at h
 exact ⟨h.2.1,h.2.2,h.1.2⟩
theorem Q7e:∀ (l:List Item) (i:Int),(∀ x∈l,0≤x.fF)→((Q76 i l).length:Int)=Qxt (l.map (·.fF))
 | [],_,_=>rfl
 | x::xs,i,h=>by
  have:=Q7e xs (i+1) (λy hy=>h y (by simp [hy]))
  have hx:=h x (by simp)
  simp only [Q76,List.length_append,List.length_replicate,List.map_cons,Qq3]
  omega
theorem Q6u:∀ (l:List Item) (i:Int) (u:Int),u∈Q76 i l→i≤u∧u<i+l.length
 | [],_,_,h=>by simp [Q76] at h
 | x::xs,i,u,h=>by
  simp only [Q76,List.mem_append] at h
  rcases h with h | h
  · have:=(List.mem_replicate.1 h).2
    simp; omega
  · have:=Q6u xs (i+1) u h
    simp; omega
theorem Q9p {r:Request} (h:Q5a r=true):(l6M r).length≤12:=by
 obtain ⟨h1,h2,_⟩:=Qsp h
 have:=Q7e r.fV 0 (λx hx=>by
  have:=h1 x hx
  simp only [Qyb,Bool.and_eq_true,Qcb] at this
  omega)
 unfold l6M
 omega
theorem Q21 (r:Request):(Qi4 r).length≤12:=by
 unfold Qi4
 cases h:Qhh r==0
 · simp
 · exact Q9p (Qfn (by simpa using h)).1
theorem Q22 {r:Request} {i:Int} (h:i∈Qi4 r):0≤i∧i<r.fV.length:=by
 unfold Qi4 at h
 cases hc:Qhh r==0
 · simp [hc] at h
 · simp only [hc,cond_true] at h
   have:=Q6u _ _ _ h
   omega
theorem Qi3 {α:Type} {l:List α} {i:Int} {x:α} (h:ix l i=some x):x∈l:=List.mem_of_getElem? (Qah h).2.2
theorem Q5x {r:Request} {u:Int} (h:0≤u∧u<(Qi4 r).length):∃ i x,ix (Qi4 r) u=some i∧ix r.fV i=some x∧Q3w r u=some x:=by
 have h1:u.toNat<(Qi4 r).length:=by omega
 have e1:ix (Qi4 r) u=some (Qi4 r)[u.toNat]:=by
  unfold ix; rw [if_pos h.1,List.getElem?_eq_getElem h1]
 have h2:=Q22 (List.getElem_mem h1)
 have h3:((Qi4 r)[u.toNat]).toNat<r.fV.length:=by omega
 have e2:ix r.fV (Qi4 r)[u.toNat]=some r.fV[((Qi4 r)[u.toNat]).toNat]:=by
  unfold ix; rw [if_pos h2.1,List.getElem?_eq_getElem h3]
 refine ⟨_,_,e1,e2,?_⟩
 unfold Q3w
 rw [e1,Qaa,e2]
theorem Q3t {r:Request} {u:Int} (h:¬ (0≤u∧u<(Qi4 r).length)):Q3w r u=none:=by
 unfold Q3w ix
 by_cases h0:0≤u
 · rw [if_pos h0,List.getElem?_eq_none (by omega)]; rfl
 · rw [if_neg h0]; rfl
theorem Qym (r:Request) (us:List Int):(Qxn r us).length≤us.length:=List.length_filterMap_le _ _
end Go.Proofs.YtndfoffokpdjeaaGreatDoor
