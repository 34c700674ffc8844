/- What the program's f.. -/
import Derived.Test.YtpcmapfabndggaaGreatDoorQ2
import Derived.Test.YtpcmapfabndggaaGreatDoorD1
import Derived.Test.YtpcmapfabndggaaGreatDoorS13
set_option linter.unusedSimpArgs false
set_option linter.unusedVariables false
namespace Go.Proofs.YtpcmapfabndggaaGreatDoor
open Go
open Enc (rd ow)
open Arg (argv)
open Ret (retv)
open Wf (wf)
def inb (n lo hi:Int):Bool:=decide (lo≤n∧n≤hi)
@[simp] theorem Qcu {n lo hi:Int}:inb n lo hi=true↔lo≤n∧n≤hi:=by simp [inb]
def Qv7 (p:Pallet):Bool:=inb p.fW 1 2000&&(inb p.fD 1 2000&&(inb p.fH 1 2000&&inb p.fQ 1 100000))
def Q2z (t:Typ):Bool:=inb t.qQ 0 999&&(inb t.fW 1 2000&&(inb t.fH 1 2000&&(inb t.fD 1 2000&&(inb t.ft 0 100000&&(inb t.fQ 1 100000&&inb t.fK 0 100000)))))
def Qyc (x:Item):Bool:=inb x.qQ 0 999&&(inb x.fW 1 2000&&(inb x.fH 1 2000&&(inb x.fD 1 2000&&(inb x.fQ 1 100000&&(inb x.fL 0 3&&inb x.f0 1 6)))))
def prB (p:Pair):Bool:=inb p.fA 0 3&&inb p.fB 0 3
def Qsr:List Int→Int
 | []=>0
 | x::xs=>x+Qsr xs
@[simp] theorem Qun:Qsr []=0:=rfl
@[simp] theorem Qfy (x:Int) (xs:List Int):Qsr (x::xs)=x+Qsr xs:=rfl
theorem Qos (a b:List Int):Qsr (a++b)=Qsr a+Qsr b:=by
 induction a with
 | nil=>simp
 | cons x xs ih=>simp [ih]; omega
theorem Jgu {α:Type} (f:α→Int) (l:List α) (b:Int) (h:∀ x∈l,f x≤b):Qsr (l.map f)≤b*l.length:=by
 induction l with
 | nil=>simp
 | cons x xs ih =>
  have h1:=h x (by simp)
  have h2:=ih (λy hy=>h y (by simp [hy]))
  simp only [List.map_cons,Qfy,List.length_cons]
  rw [show ((xs.length+1:Nat):Int)=(xs.length:Int)+1 by omega,Int.mul_add]
  omega
theorem Q0x {α:Type} (f:α→Int) (l:List α) (h:∀ x∈l,0≤f x):0≤Qsr (l.map f):=by
 induction l with
 | nil=>simp
 | cons x xs ih =>
  have h1:=h x (by simp)
  have h2:=ih (λy hy=>h y (by simp [hy]))
  simp only [List.map_cons,Qfy]
  omega
def Q4n (r:Request):Bool :=
 inb r.qY 0 1&&Qv7 r.fJ&&inb r.fG 1 4&&decide (r.fT.length≤16)&&r.fT.all prB&&inb r.fR.length 1 5&&r.fR.all Q2z&&inb r.fP 0 999&&decide (r.fU.length≤8)&&(r.fU.all Qyc&&decide (Qsr (r.fU.map (·.f0))≤12))
def Qt1 (l:List Pair) (a b:Int):Bool:=l.any λp=>p.fA==a&&p.fB==b
def Jco (l:List Pair) (c:Int):Bool:=inb c 1 4&&(Qf5 0 c.toNat).all λa=>Qt1 l a a&&(Qf5 0 c.toNat).all λb=>Qt1 l a b==Qt1 l b a
def Jhp:Typ:=⟨0,0,0,0,0,0,0⟩
def Q8r:Item:=⟨0,0,0,0,0,0,0⟩
def Qty (r:Request) (id:Int):Option Typ:=r.fR.find? λt=>t.qQ==id
def Qzi (o:Option Typ):Typ×Bool:=match o with | some t=>(t,true) | none=>(Jhp,false)
def Q83 {α:Type} (f:α→Int):List α→List α→Bool
 | _,[]=>true
 | pre,x::xs=>!(pre.any λy=>f y==f x)&&Q83 f (pre++[x]) xs
def Q85 (c:Int):List Item→List Item→Bool
 | _,[]=>true
 | pre,x::xs=>!(decide (x.fL≥c))&&!(pre.any λy=>y.qQ==x.qQ)&&Q85 c (pre++[x]) xs
def Q84 (r:Request):Bool :=
 Q83 Typ.qQ [] r.fR&&Q85 r.fG [] r.fU&&(Qty r r.fP).isSome&&!(r.fT.any λp=>decide (p.fA≥r.fG)||decide (p.fB≥r.fG))
def sid (a b c:Int):Int×Int×Int :=
 let lo:=if a≤b then (if a≤c then a else c) else (if b≤c then b else c)
 let hi:=if a≥b then (if a≥c then a else c) else (if b≥c then b else c)
 (lo,a+b+c - lo - hi,hi)
def Q13 (x:Item) (t:Typ):Bool :=
 decide ((sid x.fW x.fH x.fD).1≤(sid t.fW t.fH t.fD).1)&&decide ((sid x.fW x.fH x.fD).2.1≤(sid t.fW t.fH t.fD).2.1)&&decide ((sid x.fW x.fH x.fD).2.2≤(sid t.fW t.fH t.fD).2.2)&&decide (x.fQ≤t.fQ)
def Qxx (r:Request):Typ:=(Qzi (Qty r r.fP)).1
def Q86 (p:Pallet) (t:Typ):Bool:=decide (t.fW>p.fW)||(decide (t.fD>p.fD)||(decide (t.fH>p.fH)||decide (w64 (t.ft+t.fQ)>p.fQ)))
def Qhg (r:Request):Int :=
 bif !Q4n r then 2 else bif !Q84 r then 3 else bif !Jco r.fT r.fG then 4 else bif !(r.fU.all λx=>Q13 x (Qxx r)) then 5 else bif r.fR.any (Q86 r.fJ) then 6 else 0
def Q8s:Int→List Item→List Int
 | _,[]=>[]
 | i,x::xs=>List.replicate x.f0.toNat i++Q8s (i+1) xs
def l6M (r:Request):List Int:=Q8s 0 r.fU
def Qi4 (r:Request):List Int:=bif Qhg r==0 then l6M r else []
def Q0w (r:Request) (u:Int):Option Item:=Qac (ix (Qi4 r) u) λi=>ix r.fU i
def Q8w (w h d:Int):Int:=bif inb w 0 2000&&(inb h 0 2000&&inb d 0 2000) then w*h*d else 0
def Jca (x:Item):Int:=Q8w x.fW x.fH x.fD
def Jcs (x:Typ):Int:=Q8w x.fW x.fH x.fD
def Qyw (r:Request) (us:List Int):List Item:=us.filterMap (Q0w r)
def Qxv (r:Request) (us:List Int):Int:=Qsr ((Qyw r us).map Jca)
theorem Q9o (w h d:Int):0≤Q8w w h d∧Q8w w h d≤8000000000:=by
 unfold Q8w
 cases hb:inb w 0 2000&&(inb h 0 2000&&inb d 0 2000)
 · simp
 · simp only [Bool.and_eq_true,Qcu] at hb
   obtain ⟨⟨h1,h2⟩,⟨h3,h4⟩,h5,h6⟩:=hb
   simp only [cond_true]
   have a1:0≤w*h:=Int.mul_nonneg h1 h3
   have a2:w*h≤2000*2000:=Int.mul_le_mul h2 h4 h3 (by omega)
   have a3:0≤w*h*d:=Int.mul_nonneg a1 h5
   have a4:w*h*d≤2000*2000*2000:=Int.mul_le_mul a2 h6 h5 (by omega)
   omega
theorem Qez {r:Request} (h:Qhg r=0):Q4n r=true∧Q84 r=true∧Jco r.fT r.fG=true∧(∀ x∈r.fU,Q13 x (Qxx r)=true)∧(∀ t∈r.fR,Q86 r.fJ t=false):=by
 unfold Qhg at h
 cases h1:Q4n r
 · simp [h1] at h
 cases h2:Q84 r
 · simp [h1,h2] at h
 cases h3:Jco r.fT r.fG
 · simp [h1,h2,h3] at h
 cases h4:r.fU.all λx=>Q13 x (Qxx r)
 · simp only [h1,h2,h3,h4] at h; simp at h
 cases h5:r.fR.any (Q86 r.fJ)
 · refine ⟨rfl,rfl,rfl,by simpa using h4,?_⟩
   intro t ht
   have:=List.any_eq_false.1 h5 t ht
   simpa using this
 · simp only [h1,h2,h3,h4,h5] at h; simp at h
theorem Qxt {r:Request} (h:Q4n r=true):∀ t∈r.fR,Q2z t=true:=by
 simp only [Q4n,Bool.and_eq_true,List.all_eq_true] at h
 exact h.1.1.1.2
theorem Qr7 {r:Request} (h:Q4n r=true):(∀ x∈r.fU,Qyc x=true)∧Qsr (r.fU.map (·.f0))≤12∧r.fU.length≤8:=by
 simp only [Q4n,Bool.and_eq_true,List.all_eq_true,decide_eq_true_eq] at h
 exact ⟨h.2.1,h.2.2,h.1.2⟩
theorem Q73:∀ (l:List Item) (i:Int),(∀ x∈l,0≤x.f0)→((Q8s i l).length:Int)=Qsr (l.map (·.f0))
 | [],_,_=>rfl
 | x::xs,i,h=>by
  have:=Q73 xs (i+1) (λy hy=>h y (by simp [hy]))
  have hx:=h x (by simp)
  simp only [Q8s,List.length_append,List.length_replicate,List.map_cons,Qfy]
  omega
theorem Q75:∀ (l:List Item) (i:Int) (u:Int),u∈Q8s i l→i≤u∧u<i+l.length
 | [],_,_,h=>by simp [Q8s] at h
 | x::xs,i,u,h=>by
  simp only [Q8s,List.mem_append] at h
  rcases h with h | h
  · have:=(List.mem_replicate.1 h).2
    simp; omega
  · have:=Q75 xs (i+1) u h
    simp; omega
theorem Q99 {r:Request} (h:Q4n r=true):(l6M r).length≤12:=by
 obtain ⟨h1,h2,_⟩:=Qr7 h
 have:=Q73 r.fU 0 (λx hx=>by
  have:=h1 x hx
  simp only [Qyc,Bool.and_eq_true,Qcu] at this
  omega)
 unfold l6M
 omega
theorem Qv1 (r:Request):(Qi4 r).length≤12:=by
 unfold Qi4
 cases h:Qhg r==0
 · simp
 · exact Q99 (Qez (by simpa using h)).1
theorem Q3h {r:Request} {i:Int} (h:i∈Qi4 r):0≤i∧i<r.fU.length:=by
 unfold Qi4 at h
 cases hc:Qhg r==0
 · simp [hc] at h
 · simp only [hc,cond_true] at h
   have:=Q75 _ _ _ h
   omega
theorem Qgb {α:Type} {l:List α} {i:Int} {x:α} (h:ix l i=some x):x∈l:=List.mem_of_getElem? (Qal h).2.2
theorem Q6r {r:Request} {u:Int} (h:0≤u∧u<(Qi4 r).length):∃ i x,ix (Qi4 r) u=some i∧ix r.fU i=some x∧Q0w r u=some x:=by
 have h1:u.toNat<(Qi4 r).length:=by omega
 have e1:ix (Qi4 r) u=some (Qi4 r)[u.toNat]:=by
  unfold ix; rw [if_pos h.1,List.getElem?_eq_getElem h1]
 have h2:=Q3h (List.getElem_mem h1)
 have h3:((Qi4 r)[u.toNat]).toNat<r.fU.length:=by omega
 have e2:ix r.fU (Qi4 r)[u.toNat]=some r.fU[((Qi4 r)[u.toNat]).toNat]:=by
  unfold ix; rw [if_pos h2.1,List.getElem?_eq_getElem h3]
 refine ⟨_,_,e1,e2,?_⟩
 unfold Q0w
 rw [e1,Qab,e2]
theorem Q28 {r:Request} {u:Int} (h:¬ (0≤u∧u<(Qi4 r).length)):Q0w r u=none:=by
 unfold Q0w ix
 by_cases h0:0≤u
 · rw [if_pos h0,List.getElem?_eq_none (by omega)]; rfl
 · rw [if_neg h0]; rfl
theorem Qw2 (r:Request) (us:List Int):(Qyw r us).length≤us.length:=List.length_filterMap_le _ _
end Go.Proofs.YtpcmapfabndggaaGreatDoor
