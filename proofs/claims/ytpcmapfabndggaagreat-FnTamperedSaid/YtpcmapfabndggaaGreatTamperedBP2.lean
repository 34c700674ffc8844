import Derived.Test.YtpcmapfabndggaaGreatTamperedBP1
set_option linter.unusedSimpArgs false
set_option linter.unusedVariables false
/- Weights of units, by spec and by impl. -/
namespace Go.Proofs.YtpcmapfabndggaaGreat
open Go
open Enc (rd ow)
open Arg (argv)
open Ret (retv)
open Wf (wf)
theorem Q4t (r:Request) (u:Int):0≤(Qua r u).fQ∧(Qua r u).fQ≤100000:=by
 unfold Qua
 cases hm:Qzv r u with
 | none=>simp [Q77]
 | some x=>exact Q2d (r:=r) (us:=[u]) (by simp [Qyb,List.filterMap_cons,hm])
theorem Jjo {fu:Nat} {r:Request} (h:Sm fu r) (us:List Int) (hl:us.length≤1048576) (hf:us.length<fu):Qrb fu r us=some (Qwa r us):=by
 unfold Qrb
 rw [Jj5 h,Qab]
 have key:=lpI us (λn s i=>Qe9 fu r us (Qje r) n s i) (λl n=>some (n+Qwa r l)) (λl n=>0≤n∧n+100000*l.length≤100000*1048576) (by omega) ?_ ?_ fu 0 ⟨by omega,by omega⟩ hf
 · simpa using key
 · intro n s i x xs hx hd hI ih
   simp only [Qe9.eq_2]
   unfold Qnw Qqj Qqk
   simp only [hd,cond_true,hx,Qab,Q84]
   have hv:=Q4t r x
   have h2:=hI.2
   simp only [List.length_cons] at h2
   rw [Qa4 (by omega) (by omega),ih _ ⟨by omega,by omega⟩]
   congr 1
   have e:Qwa r (x::xs)=(Qua r x).fQ+Qwa r xs:=by
    unfold Qwa Qyb Qua
    cases hm:Qzv r x with
    | none=>simp [List.filterMap_cons,hm,Q77]
    | some y=>simp [List.filterMap_cons,hm]
   rw [e]
   omega
 · intro n s i hd _
   simp only [Qe9.eq_2]
   unfold Qnw
   simp only [hd,cond_false]
   simp [Qwa,Qyb]
theorem Jhp {fu:Nat} {r:Request} (h:Sm fu r) (us:List Int) (hl:us.length≤1048576) (hf:us.length<fu):Qo5 fu r us=some (Qwa r us):=by
 unfold Qo5
 rw [Q3e h us hl hf,Qab]
 have hlen:=Qwk r us
 have key:=lpI (Qyb r us) (λn s i=>Qhu fu (Qyb r us) n s i) (λl n=>some (n+Qsb (l.map (·.fQ)))) (λl n=>0≤n∧n+100000*l.length≤100000*1048576∧∀ x∈l,0≤x.fQ∧x.fQ≤100000) (by omega) ?_ ?_ fu 0 ⟨by omega,by omega,λx hx=>Q2d hx⟩ (by omega)
 · simpa [Qwa] using key
 · intro n s i x xs hx hd hI ih
   simp only [Qhu.eq_2]
   unfold Qnm
   simp only [hd,cond_true,hx,Qab]
   have hv:=hI.2.2 x (by simp)
   have h2:=hI.2.1
   simp only [List.length_cons] at h2
   rw [Qa4 (by omega) (by omega),ih _ ⟨by omega,by omega,λy hy=>hI.2.2 y (by simp [hy])⟩]
   simp only [List.map_cons,Qfr]
   congr 1
   omega
 · intro n s i hd _
   simp only [Qhu.eq_2]
   unfold Qnm
   simp only [hd,cond_false]
   simp
end Go.Proofs.YtpcmapfabndggaaGreat
/- Load of units, room for one more, units that may lie beside: by spec and by impl. -/
namespace Go.Proofs.YtpcmapfabndggaaGreat
open Go
open Enc (rd ow)
open Arg (argv)
open Ret (retv)
open Wf (wf)
theorem Jcc (r:Request) (x:Int) (xs:List Int):Qwz r (x::xs)=Jbd (Qua r x)+Qwz r xs:=by
 unfold Qwz Qyb Qua
 cases hm:Qzv r x with
 | none=>simp [List.filterMap_cons,hm,Jco]
 | some y=>simp [List.filterMap_cons,hm]
theorem Q6q (r:Request) (x:Int) (xs:List Int):Qwa r (x::xs)=(Qua r x).fQ+Qwa r xs:=by
 unfold Qwa Qyb Qua
 cases hm:Qzv r x with
 | none=>simp [List.filterMap_cons,hm,Q77]
 | some y=>simp [List.filterMap_cons,hm]
theorem Jak {fu:Nat} (r:Request) (us:List Int) (hl:us.length≤1048576) (hf:us.length<fu):Qqo fu r (Qje r) us=some ⟨Qwz r us,Qwa r us⟩:=by
 unfold Qqo
 have key:=lpI us (λn s i=>Qhc fu r (Qje r) us n s i) (λl s=>some (⟨s.fvol+Qwz r l,s.fgram+Qwa r l⟩:L7))
  (λl s=>0≤s.fvol∧s.fvol+8000000000*l.length≤8000000000*1048576∧0≤s.fgram∧s.fgram+100000*l.length≤100000*1048576) (by omega) ?_ ?_ fu ⟨0,0⟩ ⟨by simp,by simp; omega,by simp,by simp; omega⟩ hf
 · simpa using key
 · intro n s i x xs hx hd hI ih
   simp only [Qhc.eq_2]
   unfold Qqc Qsf Qsa
   simp only [hd,cond_true,hx,Qab,Q84,Jfv]
   have hv:=Q8z (Qua r x).fW (Qua r x).fH (Qua r x).fD
   have hg:=Q4t r x
   obtain ⟨a1,a2,a3,a4⟩:=hI
   simp only [List.length_cons] at a2 a4
   rw [Qa4 (n:=s.fvol+_) (by omega) (by omega),Qa4 (n:=s.fgram+_) (by omega) (by omega),ih _ ⟨by simp; omega,by simp; omega,by simp; omega,by simp; omega⟩,Jcc,Q6q,show Q7r (Qua r x).fW (Qua r x).fH (Qua r x).fD=Jbd (Qua r x) from rfl]
   simp only [Option.some.injEq,L7.mk.injEq]
   constructor <;> omega
 · intro n s i hd _
   simp only [Qhc.eq_2]
   unfold Qqc
   simp only [hd,cond_false]
   simp [Qwz,Qwa,Qyb]
def Q0p (r:Request) (us:List Int) (t:Typ):Bool:=decide (Qwz r us≤Jbu t)&&decide (Qwa r us≤t.fQ)
theorem Q6b {fu:Nat} (r:Request) (t:Typ) (us:List Int) (u:Int) (hl:us.length<1048576) (hf:us.length+1<fu):Qot fu r (Qje r) t us u=some (Q0p r (us++[u]) t):=by
 unfold Qot Qqa Q0p
 rw [ap1 (by simp; omega),Qab,List.nil_append,ap1 (by simp; omega),Qab,Jak r _ (by simp; omega) (by simp; omega),Qab,Jfv,Qab]
 show (bif decide (Qwz r (us++[u])≤Jbu t) then _ else _)=_
 cases decide (Qwz r (us++[u])≤Jbu t) <;> simp
theorem Q7c {fu:Nat} {r:Request} (h:Sm fu r) (t:Typ) (us:List Int) (hl:us.length≤1048576):Qpb fu r us t=some (Q0p r us t):=by
 have hfu:=h.fu
 unfold Qpb Q0p
 rw [Q93 h us hl (by omega),Qab,Jhz,Qab,Jhp h us hl (by omega)]
 show (bif decide (Qwz r us≤Jbu t) then _ else _)=_
 cases decide (Qwz r us≤Jbu t) <;> simp
theorem Jdw {r:Request}:(Qyf (Qtc r r.fL)).1=Qw0 r:=rfl
theorem Q8i {fu:Nat} {r:Request} (h:Sm fu r) (us:List Int) (u:Int) (hl:us.length<1048576):Qrx fu r us u=some (Qhd r==0&&Q0p r (us++[u]) (Qw0 r)):=by
 have hfu:=h.fu
 unfold Qrx Qdc
 rw [Jeo h,Qab,Qtw h,Qab]
 cases hc:Qhd r==0
 · rfl
 · rw [cond_true,ap1 (by simp; omega),Qab,Qab,List.nil_append,ap1 (by simp; omega),Qab,Q7c h _ _ (by simp; omega)]
   rfl
end Go.Proofs.YtpcmapfabndggaaGreat
/- How often a number stands in a list, by spec. -/
namespace Go.Proofs.YtpcmapfabndggaaGreat
open Go
open Enc (rd ow)
open Arg (argv)
open Ret (retv)
open Wf (wf)
end Go.Proofs.YtpcmapfabndggaaGreat
/- Orders in the laws: their size, copies, equality. -/
namespace Go.Proofs.YtpcmapfabndggaaGreat
open Go
open Enc (rd ow)
open Arg (argv)
open Ret (retv)
open Wf (wf)
end Go.Proofs.YtpcmapfabndggaaGreat
/- Lists of lists of numbers in the laws: their size, copies. -/
namespace Go.Proofs.YtpcmapfabndggaaGreat
open Go
open Enc (rd ow)
open Arg (argv)
open Ret (retv)
open Wf (wf)
end Go.Proofs.YtpcmapfabndggaaGreat
/- IsPacking of spec and of impl. -/
namespace Go.Proofs.YtpcmapfabndggaaGreat
open Go
open Enc (rd ow)
open Arg (argv)
open Ret (retv)
open Wf (wf)
def Quk (r:Request) (us:List Int):List Int:=us.filter λu=>inb u 0 (((Qje r).length:Int) - 1)
def Jii (a b:List Int):Bool:=decide ((a.mergeSort λx y=>decide (x≤y))=b.mergeSort λx y=>decide (x≤y))
theorem Jb9 {a b:List Int}:Jii a b=true↔a.Perm b:=by
 unfold Jii
 rw [decide_eq_true_iff]
 constructor
 · intro h
   have h1:=List.mergeSort_perm a λx y=>decide (x≤y)
   rw [h] at h1
   exact h1.symm.trans (List.mergeSort_perm b _)
 · intro h
   exact Jag (((List.mergeSort_perm a _).trans h).trans (List.mergeSort_perm b _).symm) (Qqs a) (Qqs b)
theorem Q5k {fu:Nat} {r:Request} (h:Sm fu r) (us:List Int) (hl:us.length≤1048576):Qjh fu r us=some (Quk r us):=by
 have hfu:=h.fu
 unfold Qjh Qdc Quk
 rw [Jcs h,Qab,ap1 (by simp; omega),Qab,Qab,List.nil_append,Jjk _ (λu=>!inb u 0 (((Qje r).length:Int) - 1)) ?_ hl (by omega),Qab]
 · simp
 · intro u _
   unfold Qqi
   rw [Q2o,Q43,Qab]
theorem Ja6 {fu:Nat} {r:Request} (h:Sm fu r) (us:List Int) (hl:us.length≤1048576):Qm5 fu (Qje r) us=some (Quk r us):=by
 have hfu:=h.fu
 unfold Qm5 Quk
 have:=lpI us (λn out i=>Qfy fu (Qje r) us n out i) (λxs out=>some (out++xs.filter λu=>inb u 0 (((Qje r).length:Int) - 1))) (λxs out=>out.length+xs.length≤1048576) (by omega) ?_ ?_ fu [] (by simpa using hl) (by omega)
 · simpa using this
 · intro n out i x xs hx hd hI ih
   simp only [List.length_cons] at hI
   simp only [Qfy.eq_2]
   unfold Qlg Qkc
   rw [hd,cond_true,hx,Qab,Q2o,Q42,Qab,Qab,List.filter_cons]
   cases hb:inb x 0 (((Qje r).length:Int) - 1)
   · rw [cond_false,ih _ (by omega)]; simp
   · rw [cond_true,ap1 (by simp; omega),Qab,ih _ (by simp; omega)]; simp
 · intro n out i hd hI
   simp only [Qfy.eq_2]
   unfold Qlg
   simp only [hd,cond_false]
   simp
theorem Jad:∀ (a b:List Int),a.length=b.length→((a.zip b).all λp=>p.1==p.2)=decide (a=b)
 | [],[],_=>rfl
 | [],_::_,h=>by simp at h
 | _::_,[],h=>by simp at h
 | x::a,y::b,h=>by
  rw [List.zip_cons_cons,List.all_cons,Jad a b (by simpa using h)]
  by_cases hx:x=y <;> simp [hx]
theorem Je0 {fu:Nat} (a b:List Int) (hl:a.length≤1048576) (hf:a.length<fu):Qgx fu a b=some (decide (a=b)):=by
 unfold Qgx
 by_cases h:a.length=b.length
 · rw [Qay (by simp [h])]
   have hz:(a.zip b).length=a.length:=by rw [List.length_zip]; omega
   have:=lp (a.zip b) (λn (_:Unit) i=>Qc8 fu a b n i) (λl _=>some (l.all λp=>p.1==p.2)) (by omega) ?_ ?_ fu () (by omega)
   · rw [Jad a b h] at this
     exact this
   · intro n _ i p xs hp hd ih
     obtain ⟨h1,_,h2⟩:=Qaj hp
     rw [List.getElem?_zip_eq_some] at h2
     rw [hz] at hd
     have e1:ix a i=some p.1:=by unfold ix; rw [if_pos h1]; exact h2.1
     have e2:ix b i=some p.2:=by unfold ix; rw [if_pos h1]; exact h2.2
     simp only [Qc8.eq_2]
     unfold Qf9
     rw [hd,cond_true,e1,Qab,e2,Qab,ih (),List.all_cons]
     by_cases hx:p.1=p.2
     · rw [Qay (by simp [hx])]; simp [hx]
     · rw [Qbj (by simpa using hx)]; simp [hx]
   · intro n _ i hd
     rw [hz] at hd
     simp only [Qc8.eq_2]
     unfold Qf9
     simp [hd]
 · rw [Qbj (by simp; omega)]
   have:a≠b:=λe=>h (by rw [e])
   simp [this]
theorem Q16 {xs:List Int} (h:xs.length≤1048576):Q3s xs=some (xs.mergeSort λx y=>decide (x≤y)):=by
 unfold Q3s
 rw [if_pos (by omega)]
theorem Qwc (r:Request) (us:List Int):(Quk r us).length≤us.length:=List.length_filter_le _ _
end Go.Proofs.YtpcmapfabndggaaGreat
/- IsRival of spec and of impl. -/
namespace Go.Proofs.YtpcmapfabndggaaGreat
open Go
open Enc (rd ow)
open Arg (argv)
open Ret (retv)
open Wf (wf)
def Jcw (r:Request) (u:Int):Int:=(Qua r u).fM
def Q1r (r:Request) (c:List Int):Bool:=c.all λx=>c.all λy=>Qtg r.fP (Jcw r x) (Jcw r y)
theorem Qzz {r:Request} {us:List Int} {u:Int} (h:u∈Quk r us):0≤u∧u<(Qje r).length:=by
 unfold Quk at h
 have:=(List.mem_filter.1 h).2
 rw [Qco] at this
 omega
theorem Quo {r:Request} {u:Int} (h:0≤u∧u<(Qje r).length):Qzv r u=some (Qua r u):=by
 obtain ⟨_,x,_,_,hx⟩:=Q5r h
 unfold Qua
 rw [hx]; rfl
theorem Q3o {r:Request}:∀ {l:List Int},(∀ u∈l,0≤u∧u<(Qje r).length)→Qyb r l=l.map (Qua r)
 | [],_=>rfl
 | u::l,h=>by
  have ih:=Q3o (r:=r) (l:=l) λv hv=>h v (by simp [hv])
  unfold Qyb at ih ⊢
  rw [List.filterMap_cons,Quo (h u (by simp)),ih,List.map_cons]
end Go.Proofs.YtpcmapfabndggaaGreat
/- Transitive of spec and of impl; where it is, groups are apart. -/
namespace Go.Proofs.YtpcmapfabndggaaGreat
open Go
open Enc (rd ow)
open Arg (argv)
open Ret (retv)
open Wf (wf)
theorem Jf3 {α:Type} (l:List α) (L:Nat→Int→Option Bool) (g:α→Bool) (fin:Option Bool) (hl:l.length≤1099511627776)
    (hs:∀ n (i:Int) x,ix l i=some x→decide (i<(l.length:Int))=true→L (n+1) i=bif g x then L n (w64 (i+1)) else some false)
    (he:∀ n (i:Int),decide (i<(l.length:Int))=false→L (n+1) i=fin):∀ n,l.length<n→L n 0=bif l.all g then fin else some false:=by
 intro n hn
 refine lp l (λn (_:Unit) i=>L n i) (λxs _=>bif xs.all g then fin else some false) hl ?_ ?_ n () hn
 · intro n s i x xs hx hd ih
   rw [hs n i x hx hd,ih (),List.all_cons]
   cases g x <;> rfl
 · intro n s i hd
   rw [he n i hd]; rfl
structure Sep (p:List Pair) (P:List Int) (out:List (List Int)):Prop where
 ne:∀ g∈out,g≠[]
 inn:∀ g∈out,∀ x∈g,x∈P
 one:∀ g∈out,∀ x∈g,∀ y∈g,x≠y→Qxf p x y=true
 two:∀ (i j:Nat) (g h:List Int),out[i]? = some g→out[j]? = some h→i≠j→∀ x∈g,∀ y∈h,Qxf p x y=false
end Go.Proofs.YtpcmapfabndggaaGreat
/- Holds and Cheapest, by spec and by impl. -/
namespace Go.Proofs.YtpcmapfabndggaaGreat
open Go
open Enc (rd ow)
open Arg (argv)
open Ret (retv)
open Wf (wf)
theorem Q20 {α:Type} {p q:α→Bool}:∀ {l:List α},(∀ x∈l,p x=q x)→l.all p=l.all q
 | [],_=>rfl
 | x::xs,h=>by rw [List.all_cons,List.all_cons,h x (by simp),Q20 λy hy=>h y (by simp [hy])]
def uOk (r:Request) (t:Typ) (u:Int):Bool:=(Qzv r u).isSome&&Q07 (Qua r u) t
def Qyx (r:Request) (us:List Int) (t:Typ):Bool:=Qhd r==0&&(us.all (uOk r t)&&Q0p r us t)
theorem Qxi {r:Request} {u:Int}:(Qzv r u).isSome=true↔0≤u∧u<(Qje r).length:=by
 constructor
 · intro h
   apply Decidable.byContradiction
   intro hn
   rw [Q2s hn] at h
   cases h
 · intro h
   rw [Quo h]; rfl
theorem Jau {fu:Nat} {r:Request} (h:Sm fu r) (us:List Int) (t:Typ) (hl:us.length≤1048576):Qqu fu r us t=some (Qyx r us t):=by
 have hfu:=h.fu
 have hil:=Qwk r us
 unfold Qqu Qyx
 rw [Qtw h,Qab]
 cases hc:Qhd r==0
 · rfl
 · rw [Bool.not_true,cond_false,Q5k h us hl,Qab,Bool.true_and]
   by_cases ha:∀ u∈us,0≤u∧u<(Qje r).length
   · have e:Quk r us=us:=List.filter_eq_self.2 λu hu=>by have:=ha u hu; simp; omega
     have e0:((us.length:Int) != (us.length:Int))=false:=by simp
     rw [e,e0,cond_false]
     unfold Qqz
     rw [Q3e h us hl (by omega),Qab,Qwh _ (λx=>!Q07 x t) ?_ (by omega) (by omega),Qab]
     · rw [Q7c h t us hl,Qab,Q3o ha,List.any_map]
       have e1:us.all (uOk r t)=!(us.any ((λx=>!Q07 x t) ∘ Qua r)):=by
        rw [List.not_any_eq_all_not]
        apply Q20
        intro u hu
        simp only [uOk,Qxi.2 (ha u hu),Bool.true_and,Function.comp,Bool.not_not]
       rw [e1]
       cases us.any ((λx=>!Q07 x t) ∘ Qua r) <;> simp
     · intro x _
       unfold Qr6
       rw [Jhc,Qab]
   · have hlt:(Quk r us).length<us.length:=by
       apply Decidable.byContradiction
       intro hn
       apply ha
       have e:(us.filter λu=>inb u 0 (((Qje r).length:Int) - 1)).length=us.length:=by
        have:=List.length_filter_le (λu=>inb u 0 (((Qje r).length:Int) - 1)) us
        have e':Quk r us=us.filter λu=>inb u 0 (((Qje r).length:Int) - 1):=rfl
        rw [e'] at hn
        omega
       intro u hu
       have:=List.length_filter_eq_length_iff.1 e u hu
       simp at this
       omega
     have e0:(((Quk r us).length:Int) != (us.length:Int))=true:=by simp; omega
     rw [e0,cond_true]
     have e1:us.all (uOk r t)=false:=by
      apply Bool.eq_false_iff.2
      intro he
      apply ha
      intro u hu
      have:=List.all_eq_true.1 he u hu
      simp only [uOk,Bool.and_eq_true] at this
      exact Qxi.1 this.1
     rw [e1,Bool.false_and]
theorem Jfo {fu:Nat} {r:Request} (h:Sm fu r) (us:List Int) (t:Typ) (hl:us.length≤1048576):Qsk fu r us t=some (Qyx r us t):=by
 have hfu:=h.fu
 unfold Qsk Qyx
 rw [Q2z h,Qab]
 cases hc:Qhd r==0
 · have:(Qhd r != 0)=true:=by simp only [bne,hc]; rfl
   rw [this]; rfl
 · have:(Qhd r != 0)=false:=by simp only [bne,hc]; rfl
   have hz:Qhd r=0:=by simpa using hc
   have hu:Qdh fu r=some (Qje r):=Jgt h hz
   rw [this,cond_false,hu,Qab,Bool.true_and]
   have key:=lp us (λn (_:Unit) i=>Qf5 fu r us t (Qje r) n i) (λl _=>some (l.all (uOk r t)&&Q0p r us t)) (by omega) ?_ ?_ fu () (by omega)
   · exact key
   · intro n _ i x xs hx hd ih
     simp only [Qf5.eq_2]
     unfold Qo7 Qrd Qrp
     simp only [hd,cond_true,hx,Qab,Q84,ih (),List.all_cons,uOk]
     cases (Qzv r x).isSome
     · rfl
     · simp only [Bool.not_true,cond_false,Jer (show 2097153≤fu by omega),Qab]
       cases Q07 (Qua r x) t <;> rfl
   · intro n _ i hd
     simp only [Qf5.eq_2]
     unfold Qo7 Qq5
     simp only [hd,cond_false,Jak r us hl (show us.length<fu by omega),Qab,Jfv]
     show (bif decide (Qwz r us≤Jbu t) then _ else _)=_
     unfold Q0p
     cases decide (Qwz r us≤Jbu t) <;> simp
def chp (r:Request) (us:List Int) (s:Typ×Bool) (t:Typ):Typ×Bool :=
 bif Qyx r us t&&(!s.2||(decide (t.fK<s.1.fK)||(t.fK==s.1.fK&&decide (t.qQ<s.1.qQ)))) then (t,true) else s
def Qvs (r:Request) (us:List Int):Typ×Bool:=r.fR.foldl (chp r us) (Jhn,false)
theorem Jan {fu:Nat} {r:Request} (h:Sm fu r) (us:List Int) (hl:us.length≤1048576):Qkm fu r us=some (Qvs r us):=by
 have hfu:=h.fu
 have ht:=h.types
 unfold Qkm
 have key:=lp r.fR (λn (s:Typ×Bool) i=>Qe4 fu r us n s.1 s.2 i) (λl s=>some (l.foldl (chp r us) s)) (by omega) ?_ ?_ fu (Jhn,false) (by omega)
 · exact key
 · intro n s i x xs hx hd ih
   simp only [Qe4.eq_2]
   unfold Qjr Qeb
   have ih':=λa b=>ih (a,b)
   simp only at ih'
   obtain ⟨b,f⟩:=s
   simp only [hd,cond_true,hx,Qab,Jau h us x hl,ih',List.foldl_cons,chp]
   cases Qyx r us x <;> cases f <;> cases decide (x.fK<b.fK) <;> cases x.fK==b.fK <;> cases decide (x.qQ<b.qQ) <;> rfl
 · intro n s i hd
   simp only [Qe4.eq_2]
   unfold Qjr
   simp only [hd,cond_false]
   rfl
theorem Jem {fu:Nat} {r:Request} (h:Sm fu r) (us:List Int) (hl:us.length≤1048576):Qn4 fu r us=some (Qvs r us):=by
 have hfu:=h.fu
 have ht:=h.types
 unfold Qn4
 have key:=lp r.fR (λn (s:Typ×Bool) i=>Qe2 fu r us n s.1 s.2 i) (λl s=>some (l.foldl (chp r us) s)) (by omega) ?_ ?_ fu (Jhn,false) (by omega)
 · exact key
 · intro n s i x xs hx hd ih
   simp only [Qe2.eq_2]
   unfold Qj2 Qec
   have ih':=λa b=>ih (a,b)
   simp only at ih'
   obtain ⟨b,f⟩:=s
   simp only [hd,cond_true,hx,Qab,Jfo h us x hl,ih',List.foldl_cons,chp]
   cases Qyx r us x <;> cases f <;> cases decide (x.fK<b.fK) <;> cases x.fK==b.fK <;> cases decide (x.qQ<b.qQ) <;> rfl
 · intro n s i hd
   simp only [Qe2.eq_2]
   unfold Qj2
   simp only [hd,cond_false]
   rfl
end Go.Proofs.YtpcmapfabndggaaGreat
/- spec's TypeById. -/
namespace Go.Proofs.YtpcmapfabndggaaGreat
open Go
open Enc (rd ow)
open Arg (argv)
open Ret (retv)
open Wf (wf)
theorem Q36 {fu:Nat} {r:Request} (h:Sm fu r) (id:Int):Qku fu r id=some (Qyf (Qtc r id)):=by
 have hfu:=h.fu
 have ht:=h.types
 unfold Qku Qtc
 refine lp r.fR (λn (_:Unit) i=>Qga fu r id n i) (λl _=>some (Qyf (l.find? λt=>t.qQ==id))) (by omega) ?_ ?_ fu () (by omega)
 · intro n s i x xs hx hd ih
   simp only [Qga.eq_2]
   unfold Qjs
   simp only [hd,cond_true,hx,Qab,ih (),List.find?_cons]
   cases x.qQ==id <;> rfl
 · intro n s i hd
   simp only [Qga.eq_2]
   unfold Qjs
   simp only [hd,cond_false]
   rfl
end Go.Proofs.YtpcmapfabndggaaGreat
/- Gross and BoxOf, by spec and by impl. -/
namespace Go.Proofs.YtpcmapfabndggaaGreat
open Go
open Enc (rd ow)
open Arg (argv)
open Ret (retv)
open Wf (wf)
def Jkj:Box:=⟨0,0,0,0⟩
def Q8a (r:Request) (x:Carton):Int:=match Qtc r x.qJ with
 | some t=>bif Qhd r==0 then t.ft+Qwa r x.f0 else 0
 | none=>0
def Qse (r:Request) (x:Carton):Box:=match Qtc r x.qJ with
 | some t=>bif Qhd r==0 then ⟨t.fW,t.fD,t.fH,t.ft+Qwa r x.f0⟩ else Jkj
 | none=>Jkj
theorem Jgw {r:Request} (hc:Qhd r=0) {id:Int} {t:Typ} (ht:Qtc r id=some t):Q13 t=true∧t∈r.fR∧t.qQ=id:=by
 have hm:=List.mem_of_find?_eq_some ht
 have hp:=List.find?_some ht
 exact ⟨Qwy (Qei hc).1 t hm,hm,by simpa using hp⟩
theorem Q9i {r:Request} (hc:Qhd r=0) {id:Int} {t:Typ} (ht:Qtc r id=some t):0≤t.ft∧t.ft≤100000:=by
 have:=(Jgw hc ht).1
 simp only [Q13,Bool.and_eq_true,Qco] at this
 omega
theorem Q6c {r:Request} (hc:Qhd r=0) {id:Int} {t:Typ} (ht:Qtc r id=some t) (us:List Int) (hl:us.length≤1048576):w64 (t.ft+Qwa r us)=t.ft+Qwa r us:=by
 have h1:=Q9i hc ht
 have h2:=Q5t r us
 exact Qa4 (by omega) (by omega)
theorem Q9r {fu:Nat} {r:Request} (h:Sm fu r) (x:Carton) (hl:x.f0.length≤1048576):Qqw fu r x=some (Q8a r x):=by
 have hfu:=h.fu
 unfold Qqw Q8a
 rw [Qwi h,Qab,Q1s]
 cases ht:Qtc r x.qJ with
 | none=>rfl
 | some t =>
  rw [Qtw h]
  simp only [Option.isSome_some,Bool.not_true,cond_false,Qab]
  cases hc:Qhd r==0
  · rfl
  · have hc':Qhd r=0:=by simpa using hc
    unfold Qq0
    rw [Jhp h _ hl (by omega)]
    simp only [Bool.not_true,cond_false,cond_true,Qab,Qyf,Q6c hc' ht _ hl]
theorem Jf0 {fu:Nat} {r:Request} (h:Sm fu r) (x:Carton) (hl:x.f0.length≤1048576):Qsh fu r x=some (Q8a r x):=by
 have hfu:=h.fu
 unfold Qsh Q8a
 rw [Q36 h,Qab,Q1s,Q2z h,Qab]
 cases hc:Qhd r==0
 · have:(Qhd r != 0)=true:=by simp only [bne,hc]; rfl
   rw [this]
   cases Qtc r x.qJ <;> rfl
 · have hc':Qhd r=0:=by simpa using hc
   rw [show (Qhd r != 0)=false by simp [hc'],cond_false]
   cases ht:Qtc r x.qJ with
   | none=>rfl
   | some t =>
    unfold Qru
    rw [Jjo h _ hl (by omega)]
    simp only [Option.isSome_some,Bool.not_true,cond_false,cond_true,Qab,Qyf,Q6c hc' ht _ hl]
theorem Jdb {fu:Nat} {r:Request} (h:Sm fu r) (x:Carton) (hl:x.f0.length≤1048576):Qqr fu r x=some (Qse r x):=by
 unfold Qqr Qse
 rw [Qwi h,Qab,Q1s]
 cases ht:Qtc r x.qJ with
 | none=>rfl
 | some t =>
  rw [Qtw h]
  simp only [Option.isSome_some,Bool.not_true,cond_false,Qab]
  cases hc:Qhd r==0
  · rfl
  · unfold Qra
    rw [Q9r h x hl]
    simp only [Q8a,ht,hc,Bool.not_true,cond_false,cond_true,Qab,Qyf]
theorem Jhf {fu:Nat} {r:Request} (h:Sm fu r) (x:Carton) (hl:x.f0.length≤1048576):Qsg fu r x=some (Qse r x):=by
 unfold Qsg Qse
 rw [Q36 h,Qab,Q1s,Q2z h,Qab]
 cases hc:Qhd r==0
 · have:(Qhd r != 0)=true:=by simp only [bne,hc]; rfl
   rw [this]
   cases Qtc r x.qJ <;> rfl
 · have hc':Qhd r=0:=by simpa using hc
   rw [show (Qhd r != 0)=false by simp [hc'],cond_false]
   cases ht:Qtc r x.qJ with
   | none=>rfl
   | some t =>
    unfold Qq9
    rw [Jf0 h x hl]
    simp only [Q8a,ht,hc,Option.isSome_some,Bool.not_true,cond_false,cond_true,Qab,Qyf]
end Go.Proofs.YtpcmapfabndggaaGreat
/- Within, Overlap, Pallets: by spec and by impl. -/
namespace Go.Proofs.YtpcmapfabndggaaGreat
open Go
open Enc (rd ow)
open Arg (argv)
open Ret (retv)
open Wf (wf)
def Q7v (b:Box) (s:Spot):Bool:=inb b.fW 0 2000&&(inb b.fD 0 2000&&(inb b.fH 0 2000&&(inb s.fX 0 2000&&(inb s.fY 0 2000&&inb s.fZ 0 2000))))
def Jdh (p:Pallet) (b:Box) (s:Spot):Bool :=
 Q7v b s&&(decide (b.fW>0)&&(decide (b.fD>0)&&(decide (b.fH>0)&&(decide (w64 (s.fX+b.fW)≤p.fW)&&(decide (w64 (s.fY+b.fD)≤p.fD)&&decide (w64 (s.fZ+b.fH)≤p.fH))))))
def Jbv (a la b lb:Int):Bool:=decide (a<w64 (b+lb))&&decide (b<w64 (a+la))
def Jgb (a:Box) (s:Spot) (b:Box) (t:Spot):Bool :=
 Q7v a s&&(Q7v b t&&(s.fJ==t.fJ&&(Jbv s.fX a.fW t.fX b.fW&&(Jbv s.fY a.fD t.fY b.fD&&Jbv s.fZ a.fH t.fZ b.fH))))
theorem Q5f (fu:Nat) (n:Int):Qcl fu n=some (inb n 0 2000):=by unfold Qcl; rw [Q43]; rfl
theorem Ji0 (fu:Nat) (b:Box) (s:Spot):Qos fu b s=some (Q7v b s):=by
 unfold Qos Q7v
 simp only [Q5f,Qab]
 cases inb b.fW 0 2000 <;> cases inb b.fD 0 2000 <;> cases inb b.fH 0 2000 <;> cases inb s.fX 0 2000 <;> cases inb s.fY 0 2000 <;> cases inb s.fZ 0 2000 <;> rfl
theorem Jb2 (n:Int):inb n 1 2000=(inb n 0 2000&&decide (n>0)):=by
 apply Bool.eq_iff_iff.2
 simp only [Qco,Bool.and_eq_true,decide_eq_true_eq]
 omega
theorem Jj2 (fu:Nat) (p:Pallet) (b:Box) (s:Spot):Qrv fu p b s=some (Jdh p b s):=by
 unfold Qrv Qqb Jdh Q7v
 simp only [Q5f,Q7d,Qab,Jb2]
 cases inb b.fW 0 2000 <;> cases inb b.fD 0 2000 <;> cases inb b.fH 0 2000 <;> cases inb s.fX 0 2000 <;> cases inb s.fY 0 2000 <;> cases inb s.fZ 0 2000 <;> simp
 all_goals cases decide (0<b.fW) <;> cases decide (0<b.fD) <;> cases decide (0<b.fH) <;> simp
 all_goals cases decide (w64 (s.fX+b.fW)≤p.fW) <;> cases decide (w64 (s.fY+b.fD)≤p.fD) <;> simp
theorem Jja (fu:Nat) (a la b lb:Int):Qn7 fu a la b lb=some (Jbv a la b lb):=by
 unfold Qn7 Jbv
 cases decide (a<w64 (b+lb)) <;> rfl
theorem Jje (fu:Nat) (a:Box) (s:Spot) (b:Box) (t:Spot):Qpi fu a s b t=some (Jgb a s b t):=by
 unfold Qpi Qop Jgb
 simp only [Ji0,Jja,Qab,bne]
 cases Q7v a s <;> cases Q7v b t <;> cases s.fJ==t.fJ <;> cases Jbv s.fX a.fW t.fX b.fW <;> cases Jbv s.fY a.fD t.fY b.fD <;> rfl
def Q3q (n:Int) (s:Spot):Int:=bif inb s.fJ 0 999999 then (if s.fJ+1>n then s.fJ+1 else n) else n
def Qxk (l:List Spot):Int:=l.foldl Q3q 0
theorem Jfi {n:Int} (s:Spot) (h:0≤n∧n≤1000000):0≤Q3q n s∧Q3q n s≤1000000:=by
 unfold Q3q
 cases hi:inb s.fJ 0 999999
 · exact h
 · have:=Qco.1 hi
   simp only [cond_true]
   split <;> omega
theorem Jaw:∀ (l:List Spot) {n:Int},0≤n∧n≤1000000→0≤l.foldl Q3q n∧l.foldl Q3q n≤1000000
 | [],_,h=>h
 | s::l,_,h=>Jaw l (Jfi s h)
theorem Q5a (l:List Spot):0≤Qxk l∧Qxk l≤1000000:=Jaw l (by omega)
theorem Q9j {fu:Nat} {l:List Spot} (hl:l.length≤1048576) (hf:l.length<fu):Qh6 fu l=some (Qxk l):=by
 unfold Qh6
 have key:=lp l (λn (s:Int) i=>Qfp fu l n s i) (λl s=>some (l.foldl Q3q s)) (by omega) ?_ ?_ fu 0 hf
 · exact key
 · intro n s i x xs hx hd ih
   simp only [Qfp.eq_2]
   unfold Qk4 Qkr
   simp only [hd,cond_true,hx,Qab,Q43,ih,List.foldl_cons]
   unfold Q3q
   cases hi:inb x.fJ 0 999999
   · rfl
   · have:=Qco.1 hi
     simp only [cond_true]
     rw [Qa4 (by omega) (by omega)]
 · intro n s i hd
   simp only [Qfp.eq_2]
   unfold Qk4
   simp only [hd,cond_false]
   rfl
theorem Jc8 (fu:Nat) (a b:Int):Qkx fu a b=some (if a>b then a else b):=by
 unfold Qkx
 by_cases h:a>b
 · simp [h]
 · simp [h]
theorem Jhk {fu:Nat} {l:List Spot} (hl:l.length≤1048576) (hf:l.length<fu):Qpq fu l=some (Qxk l):=by
 unfold Qpq
 have key:=lp l (λn (s:Int) i=>Qft fu l n s i) (λl s=>some (l.foldl Q3q s)) (by omega) ?_ ?_ fu 0 hf
 · exact key
 · intro n s i x xs hx hd ih
   simp only [Qft.eq_2]
   unfold Qlv Qkt
   simp only [hd,cond_true,hx,Qab,Q42,Jc8,ih,List.foldl_cons]
   unfold Q3q
   cases hi:inb x.fJ 0 999999
   · rfl
   · have:=Qco.1 hi
     simp only [cond_true]
     rw [Qa4 (by omega) (by omega)]
     congr 2
     split <;> split <;> omega
 · intro n s i hd
   simp only [Qft.eq_2]
   unfold Qlv
   simp only [hd,cond_false]
   rfl
end Go.Proofs.YtpcmapfabndggaaGreat
/- The two ways of packing, by spec and by impl. -/
namespace Go.Proofs.YtpcmapfabndggaaGreat
open Go
open Enc (rd ow)
open Arg (argv)
open Ret (retv)
open Wf (wf)
def Jdo (g:List Int→Bool) (out:List (List Int)) (u:Int):List (List Int):=match Qwj g out with
 | some i=>match out[i]? with
  | some x=>out.set i (x++[u])
  | none=>out
 | none=>out++[[u]]
def Q2i (r:Request) (u:Int) (l:List Int):Bool:=Q0p r (l++[u]) (Qw0 r)
def Jgf (r:Request) (out:List (List Int)) (u:Int):List (List Int):=Jdo (Q2i r u) out u
def Q6u (r:Request) (out:List (List Int)) (u:Int):List (List Int):=match out.getLast? with
 | some l=>bif Q2i r u l then out.set (out.length - 1) (l++[u]) else out++[[u]]
 | none=>[[u]]
theorem Qwx {r:Request} {out:List (List Int)} {l:List Int} (u:Int) (h:out.getLast? = some l):Q6u r out u=bif Q2i r u l then out.set (out.length - 1) (l++[u]) else out++[[u]]:=by unfold Q6u; rw [h]
def Jdv (r:Request) (us:List Int):List Int:=(srt (dnk (us.map λu=>Qwz r [u])) us.length).map λp=>(ix us p).getD 0
def nfM (r:Request) (us:List Int):List (List Int):=(Quk r us).foldl (Q6u r) []
def ffM (r:Request) (us:List Int):List (List Int):=(Jdv r (Quk r us)).foldl (Jgf r) []
def pwM (r:Request) (us:List Int):List (List Int):=bif r.qY==1 then nfM r us else ffM r us
theorem Q5u {g:List Int→Bool} {out:List (List Int)} {n:Nat} (u:Int) (h:okG n out):okG (n+1) (Jdo g out u):=by
 obtain ⟨h1,h2⟩:=h
 unfold Jdo
 split
 · rename_i i hi
   split
   · rename_i x hx
     refine ⟨by simp; omega,λl hl=>?_⟩
     rcases List.mem_or_eq_of_mem_set hl with hl | rfl
     · have:=h2 l hl; omega
     · have:=h2 x (List.mem_of_getElem? hx); simp; omega
   · exact ⟨by omega,λl hl=>by have:=h2 l hl; omega⟩
 · refine ⟨by simp; omega,λl hl=>?_⟩
   rcases List.mem_append.1 hl with hl | hl
   · have:=h2 l hl; omega
   · rw [List.mem_singleton.1 hl]; simp
theorem Q5c {r:Request} {out:List (List Int)} {n:Nat} (u:Int) (h:okG n out):okG (n+1) (Q6u r out u):=by
 obtain ⟨h1,h2⟩:=h
 unfold Q6u
 split
 · rename_i x hx
   have hm:=List.mem_of_getLast? hx
   cases Q2i r u x
   · refine ⟨by simp; omega,λl hl=>?_⟩
     rcases List.mem_append.1 hl with hl | hl
     · have:=h2 l hl; omega
     · rw [List.mem_singleton.1 hl]; simp
   · refine ⟨by simp; omega,λl hl=>?_⟩
     rcases List.mem_or_eq_of_mem_set hl with hl | rfl
     · have:=h2 l hl; omega
     · have:=h2 x hm; simp; omega
 · exact ⟨by simp,λl hl=>by rw [List.mem_singleton.1 hl]; simp⟩
theorem Q5x {F:List (List Int)→Int→List (List Int)} (hF:∀ out n u,okG n out→okG (n+1) (F out u)):∀ (l:List Int) {out:List (List Int)} {n:Nat},okG n out→okG (n+l.length) (l.foldl F out)
 | [],_,_,h=>h
 | u::l,out,n,h=>by
  have:=Q5x hF l (hF out n u h)
  rw [List.foldl_cons,List.length_cons,show n+(l.length+1)=n+1+l.length by omega]
  exact this
theorem Jh5 {r:Request} {us:List Int} (h:us.length≤12):(Quk r us).length≤12:=Nat.le_trans (Qwc r us) h
theorem Jb1 (r:Request) (us:List Int):(Jdv r us).length=us.length:=by simp [Jdv,Qtn]
theorem Q69 {r:Request} {us:List Int} (h:us.length≤12):okG 12 (pwM r us):=by
 have ht:=Jh5 (r:=r) h
 have h0:okG 0 ([]:List (List Int)):=⟨by simp,by simp⟩
 unfold pwM
 cases r.qY==1
 · have:=Q5x (F:=Jgf r) (λout n u ho=>Q5u u ho) (Jdv r (Quk r us)) h0
   rw [Jb1] at this
   exact ⟨by have:=this.1; simp only [cond_false]; unfold ffM; omega,λl hl=>by have:=this.2 l hl; omega⟩
 · have:=Q5x (F:=Q6u r) (λout n u ho=>Q5c u ho) (Quk r us) h0
   exact ⟨by have:=this.1; simp only [cond_true]; unfold nfM; omega,λl hl=>by have:=this.2 l hl; omega⟩
theorem Q8k {g:List Int→Bool} {out:List (List Int)} {c:Int} {n:Nat} (h:okG n out) (hn:n≤1048576) {β:Type} (k:List (List Int)→Option β) (a:Int) (ha:a=match Qwj g out with | some i=>(i:Int) | none=>-1) :
    (bif (decide (a<0)) then Qac (Qgz 24 out [([c]:List Int)]) λx=>k x else Qac (ix out a) λx=>Qac (Qgz 8 x (([c]:List Int))) λy=>Qac (ix out a) λz=>k (Qe5 out a y))=k (Jdo g out c):=by
 obtain ⟨h1,h2⟩:=h
 unfold Jdo
 cases hf:Qwj g out with
 | none =>
  rw [hf] at ha
  simp only at ha
  subst ha
  rw [Qbj (by simp),ap1 (by simp; omega),Qab]
 | some i =>
  rw [hf] at ha
  simp only at ha
  subst ha
  obtain ⟨x,hx,_⟩:=Qtz hf
  have:=h2 x (List.mem_of_getElem? hx)
  rw [Qay (by simp),Qix,hx,Qab,ap1 (by simp; omega),Qab,Qab]
  simp [Qe5,hx]
theorem Q2c {r:Request} (h:(Qhd r==0)=false) (us:List Int):Quk r us=[]:=by
 unfold Quk Qje
 rw [h]
 apply List.filter_eq_nil_iff.2
 intro u _
 simp; omega
theorem Jcp {fu:Nat} {r:Request} (h:Sm fu r) (hc:Qhd r=0):Qdh fu r=some (Qje r):=Jgt h hc
theorem Qul {α:Type} {out:List α} (h:out≠[]):∃ l,out.getLast? = some l∧ix out ((out.length:Int) - 1)=some l:=by
 cases hl:out.getLast? with
 | none=>exact absurd (List.getLast?_eq_none_iff.1 hl) h
 | some l =>
  have hp:=List.length_pos_iff.2 h
  refine ⟨l,rfl,?_⟩
  rw [show (out.length:Int) - 1=((out.length - 1:Nat):Int) by omega,Qix,← List.getLast?_eq_getElem?,hl]
theorem Jhq {fu:Nat} {r:Request} (h:Sm fu r) (us:List Int) (hl:us.length≤1048575):Qp6 fu r us=some (nfM r us):=by
 have hfu:=h.fu
 have htl:=Qwc r us
 unfold Qp6 nfM
 rw [Q5k h us (by omega),Qab]
 cases hc:Qhd r==0
 · rw [Q2c hc]
   obtain ⟨m,rfl⟩:∃ m,fu=m+1:=⟨fu - 1,by omega⟩
   rw [Qeu.eq_2]; rfl
 · have key:=lpI (Quk r us) (λn (o:List (List Int)) i=>Qeu fu r (Quk r us) n o i) (λxs o=>some (xs.foldl (Q6u r) o)) (λxs o=>∃ m,m+xs.length≤1048575∧okG m o) (by omega) ?_ ?_ fu [] ⟨0,by omega,by simp,by simp⟩ (by omega)
   · exact key
   · intro n o i u xs hx hd hI ih
     obtain ⟨m,hm,ho⟩:=hI
     simp only [List.length_cons] at hm
     have h1:=ho.1
     have h2:=ho.2
     have hI':=ih (Q6u r o u) ⟨m+1,by omega,Q5c u ho⟩
     simp only [Qeu.eq_2]
     unfold Qk8 Qh9
     rw [hd,cond_true,hx,Qab,List.foldl_cons,← hI',Qa4 (by omega) (by omega)]
     by_cases he:o=[]
     · subst he
       rw [decide_eq_false (by simp),cond_false,ap1 (by simp),Qab]; rfl
     · obtain ⟨l,e1,e2⟩:=Qul he
       have hp:=List.length_pos_iff.2 he
       have hll:=h2 l (List.mem_of_getLast? e1)
       rw [decide_eq_true (by omega),cond_true,e2,Qab,Q8i h l u (by omega),Qab,hc,Bool.true_and]
       rw [Qwx u e1]
       unfold Q2i
       cases Q0p r (l++[u]) (Qw0 r)
       · rw [cond_false,cond_false,ap1 (by simp; omega),Qab]
       · rw [cond_true,cond_true,Qab,ap1 (by simp; omega),Qab,Qab]
         rw [show Qe5 o ((o.length:Int) - 1) (l++[u])=o.set (o.length - 1) (l++[u]) by unfold Qe5; congr 1; omega]
   · intro n o i hd _
     simp only [Qeu.eq_2]
     unfold Qk8
     rw [hd,cond_false]; rfl
theorem Jg6 {fu:Nat} {r:Request} (h:Sm fu r) (us:List Int) (hl:us.length≤1048575):Qpo fu r us=some (nfM r us):=by
 have hfu:=h.fu
 have htl:=Qwc r us
 unfold Qpo nfM
 rw [Q2z h,Qab]
 cases hc:Qhd r==0
 · rw [show (Qhd r != 0)=true by simp only [bne,hc]; rfl,cond_true,Q2c hc]; rfl
 · have hz:Qhd r=0:=by simpa using hc
   rw [show (Qhd r != 0)=false by simp [hz],cond_false,Jcp h hz,Qab,Ja6 h us (by omega),Qab]
   unfold Qsy
   rw [Q9l h,Qab,Jcp h hz,Qab]
   have key:=lpI (Quk r us) (λn (o:List (List Int)) i=>Qgn fu r (Quk r us) (Qyf (Qtc r r.fL)) (Qje r) n o i) (λxs o=>some (xs.foldl (Q6u r) o)) (λxs o=>∃ m,m+xs.length≤1048575∧okG m o) (by omega) ?_ ?_ fu [] ⟨0,by omega,by simp,by simp⟩ (by omega)
   · rw [key]; rfl
   · intro n o i u xs hx hd hI ih
     obtain ⟨m,hm,ho⟩:=hI
     simp only [List.length_cons] at hm
     have h1:=ho.1
     have h2:=ho.2
     have hI':=ih (Q6u r o u) ⟨m+1,by omega,Q5c u ho⟩
     simp only [Qgn.eq_2]
     unfold Qm9 Qiv
     rw [hd,cond_true,List.foldl_cons,← hI',Qa4 (by omega) (by omega)]
     by_cases he:o=[]
     · subst he
       rw [decide_eq_false (by simp),cond_false,hx,Qab,ap1 (by simp),Qab]; rfl
     · obtain ⟨l,e1,e2⟩:=Qul he
       have hp:=List.length_pos_iff.2 he
       have hll:=h2 l (List.mem_of_getLast? e1)
       rw [decide_eq_true (by omega),cond_true,e2,Qab,hx,Qab,Jdw,Q6b r _ l u (by omega) (by omega),Qab]
       rw [Qwx u e1]
       unfold Q2i
       cases Q0p r (l++[u]) (Qw0 r)
       · rw [cond_false,cond_false,Qab,ap1 (by simp; omega),Qab]
       · rw [cond_true,cond_true,Qab,Qab,ap1 (by simp; omega),Qab,Qab]
         rw [show Qe5 o ((o.length:Int) - 1) (l++[u])=o.set (o.length - 1) (l++[u]) by unfold Qe5; congr 1; omega]
   · intro n o i hd _
     simp only [Qgn.eq_2]
     unfold Qm9
     rw [hd,cond_false]; rfl
theorem Jae {us:List Int} {p:Int} (h:0≤p∧p<us.length):ix us p=some ((ix us p).getD 0):=by
 have:=Qy2 (l:=us) (i:=p.toNat) (by omega)
 rw [show ((p.toNat:Nat):Int)=p by omega] at this
 rw [this]; rfl
theorem Qxt {α β γ:Type} (f:γ→β→γ) (g:α→β):∀ (l:List α) (s:γ),(l.map g).foldl f s=l.foldl (λs x=>f s (g x)) s
 | [],_=>rfl
 | x::l,s=>by rw [List.map_cons,List.foldl_cons,List.foldl_cons,Qxt f g l]
theorem Jej {fu:Nat} {r:Request} (h:Sm fu r) (us:List Int) (hl:us.length<20):Qoe fu r us=some (ffM r us):=by
 have hfu:=h.fu
 have htl:=Qwc r us
 unfold Qoe ffM Jdv
 rw [Q5k h us (by omega),Qab]
 obtain ⟨t,ht⟩:∃ t,t=Quk r us:=⟨_,rfl⟩
 rw [← ht] at htl ⊢
 have key:=lpI t (λn (o:List Int) i=>Qge fu r t n o i) (λxs o=>Qac (Qhg fu (o++xs.map λu=>Qwz r [u])) λx=>Qc6 fu r t x fu [] 0) (λxs o=>o.length+xs.length≤20) (by omega) ?_ ?_ fu [] (by simp; omega) (by omega)
 · rw [key,List.nil_append,Jeb hfu (by simp; omega),Qab,Qxt,List.length_map]
   have hsl:=Qtn (dnk (t.map λu=>Qwz r [u])) t.length
   have hsm:=λx=>Qxn (k:=dnk (t.map λu=>Qwz r [u])) (n:=t.length) (x:=x)
   generalize srt (dnk (t.map λu=>Qwz r [u])) t.length=S at hsl hsm ⊢
   cases hc:Qhd r==0
   · have:t=[]:=by rw [ht]; exact Q2c hc us
     subst this
     have:S=[]:=List.length_eq_zero_iff.1 (by simpa using hsl)
     subst this
     obtain ⟨m,rfl⟩:∃ m,fu=m+1:=⟨fu - 1,by omega⟩
     rw [Qc6.eq_2]; rfl
   · have key1:=lpI S (λn (o:List (List Int)) i=>Qc6 fu r t S n o i) (λxs o=>some (xs.foldl (λs p=>Jgf r s ((ix t p).getD 0)) o)) (λxs o=>(∃ m,m+xs.length≤20∧okG m o)∧∀ p∈xs,0≤p∧p<t.length) (by omega) ?_ ?_ fu [] ⟨⟨0,by omega,by simp,by simp⟩,λp hp=>(hsm p).1 hp⟩ (by omega)
     · exact key1
     · intro n o i p xs hx hd hI ih
       obtain ⟨⟨m,hm,ho⟩,hin⟩:=hI
       simp only [List.length_cons] at hm
       have hp:=Jae (hin p (by simp))
       simp only [Qc6.eq_2]
       unfold Qjx Qjc
       rw [hd,cond_true,hx,Qab,hp,Qab,List.foldl_cons]
       generalize (ix t p).getD 0=u
       rw [Q38 (λy=>Qkb fu y r u) (Q2i r u) (λl hl=>by
        have:=ho.2 l hl
        unfold Qkb Q2i
        rw [Q8i h l u (by omega),Qab,hc,Bool.true_and]) (by have:=ho.1; omega) (by have:=ho.1; omega),Qab]
       refine (Q8k (g:=Q2i r u) (c:=u) ho (by omega) (λx=>Qc6 fu r t S n x (w64 (i+1))) (Qxj (Q2i r u) o 0) (by
        rw [Q3b]
        cases Qwj (Q2i r u) o <;> simp)).trans ?_
       exact ih _ ⟨⟨m+1,by omega,Q5u u ho⟩,λq hq=>hin q (by simp [hq])⟩
     · intro n o i hd _
       simp only [Qc6.eq_2]
       unfold Qjx
       rw [hd,cond_false]; rfl
 · intro n o i u xs hx hd hI ih
   simp only [List.length_cons] at hI
   simp only [Qge.eq_2]
   unfold Qjw
   rw [hd,cond_true,hx,Qab,Q93 h [u] (by simp) (by simp; omega),Qab,ap1 (by simp; omega),Qab,ih _ (by simp; omega)]
   simp
 · intro n o i hd _
   simp only [Qge.eq_2]
   unfold Qjw
   rw [hd,cond_false]; simp
theorem Jek {fu:Nat} {r:Request} (h:Sm fu r) (us:List Int) (hl:us.length<20):Qn1 fu r us=some (ffM r us):=by
 have hfu:=h.fu
 have htl:=Qwc r us
 unfold Qn1 ffM Jdv
 rw [Q2z h,Qab]
 cases hc:Qhd r==0
 · rw [show (Qhd r != 0)=true by simp only [bne,hc]; rfl,cond_true,Q2c hc]; rfl
 · have hz:Qhd r=0:=by simpa using hc
   rw [show (Qhd r != 0)=false by simp [hz],cond_false,Jcp h hz,Qab,Ja6 h us (by omega),Qab]
   unfold Qr7
   rw [Q9l h,Qab,Jcp h hz,Qab]
   generalize Quk r us=t at htl ⊢
   have key:=lpI t (λn (o:List Int) i=>Qg1 fu r t (Qyf (Qtc r r.fL)) (Qje r) n o i) (λxs o=>Qac (Qhl fu (o++xs.map λu=>Qwz r [u])) λx=>Qc0 fu r t (Qyf (Qtc r r.fL)) (Qje r) x fu [] 0) (λxs o=>o.length+xs.length≤20) (by omega) ?_ ?_ fu [] (by simp; omega) (by omega)
   · rw [key,List.nil_append,Jdp hfu (by simp; omega),Qab,Qxt,List.length_map]
     have hsl:=Qtn (dnk (t.map λu=>Qwz r [u])) t.length
     have hsm:=λx=>Qxn (k:=dnk (t.map λu=>Qwz r [u])) (n:=t.length) (x:=x)
     generalize srt (dnk (t.map λu=>Qwz r [u])) t.length=S at hsl hsm ⊢
     have key1:=lpI S (λn (o:List (List Int)) i=>Qc0 fu r t (Qyf (Qtc r r.fL)) (Qje r) S n o i) (λxs o=>some (xs.foldl (λs p=>Jgf r s ((ix t p).getD 0)) o)) (λxs o=>(∃ m,m+xs.length≤20∧okG m o)∧∀ p∈xs,0≤p∧p<t.length) (by omega) ?_ ?_ fu [] ⟨⟨0,by omega,by simp,by simp⟩,λp hp=>(hsm p).1 hp⟩ (by omega)
     · rw [key1]; rfl
     · intro n o i p xs hx hd hI ih
       obtain ⟨⟨m,hm,ho⟩,hin⟩:=hI
       simp only [List.length_cons] at hm
       have hp:=Jae (hin p (by simp))
       have ho1:=ho.1
       simp only [Qc0.eq_2]
       unfold Qlt
       rw [hd,cond_true,hx,Qab,hp,Qab,List.foldl_cons]
       generalize (ix t p).getD 0=u
       obtain ⟨K,hK⟩:∃ K,K=Qc0 fu r t (Qyf (Qtc r r.fL)) (Qje r) S n:=⟨_,rfl⟩
       rw [← hK] at ih ⊢
       obtain ⟨R,hR⟩:∃ R:Int→Option (List (List Int)),R=λa=>bif (decide (a<0)) then Qac (Qgz 24 o [([u]:List Int)]) λx=>K x (w64 (i+1)) else Qac (ix o a) λx=>Qac (Qgz 8 x (([u]:List Int))) λy=>Qac (ix o a) λz=>K (Qe5 o a y) (w64 (i+1)):=⟨_,rfl⟩
       have hD:=lpD o.length (λn a j=>Qfw fu K r (Qyf (Qtc r r.fL)) (Qje r) o i u n a j) (λxs a=>R (xs.foldl (Jds (Q2i r u) o) a)) (by omega) ?_ ?_ fu (-1) (by omega)
       · rw [hD,hR]
         refine (Q8k (g:=Q2i r u) (c:=u) ho (by omega) (λx=>K x (w64 (i+1))) _ ?_).trans (ih _ ⟨⟨m+1,by omega,Q5u u ho⟩,λq hq=>hin q (by simp [hq])⟩)
         rw [Qz0 (Q2i r u) o o.length (-1) (Nat.le_refl _),List.take_length]
         cases Qwj (Q2i r u) o <;> rfl
       · intro n a j xs h0 h1 hd ih
         simp only [Qfw.eq_2]
         unfold Qlw Qke
         obtain ⟨j,rfl⟩:∃ q:Nat,j=q:=⟨j.toNat,by omega⟩
         have hj:j<o.length:=by omega
         have hg:=ho.2 _ (List.getElem_mem hj)
         rw [hd,cond_true,Qy2 hj,Qab,Jdw,Q6b r _ _ u (by omega) (by omega),Qab]
         have e:Jds (Q2i r u) o a (j:Int)=bif Q0p r (o[j]++[u]) (Qw0 r) then (j:Int) else a:=by unfold Jds atB Q2i; rw [Qy2 hj]
         simp only [ih,List.foldl_cons,e]
         cases Q0p r (o[j]++[u]) (Qw0 r) <;> rfl
       · intro n a j hd
         simp only [Qfw.eq_2]
         unfold Qlw Qkd
         rw [hd,cond_false,hR]; rfl
     · intro n o i hd _
       simp only [Qc0.eq_2]
       unfold Qlt
       rw [hd,cond_false]; rfl
   · intro n o i u xs hx hd hI ih
     simp only [List.length_cons] at hI
     obtain ⟨i0,i1,i2⟩:=Qaj hx
     have e:sls t i (w64 (i+1))=some [u]:=by
      rw [Qa4 (by omega) (by omega),Qtj (by omega)]
      congr 1
      rw [show (i+1).toNat - i.toNat=1 by omega]
      have hlt:=(List.getElem?_eq_some_iff.1 i2).1
      have heq:=(List.getElem?_eq_some_iff.1 i2).2
      rw [List.drop_eq_getElem_cons hlt,heq]; rfl
     simp only [Qg1.eq_2]
     unfold Qlx
     rw [hd,cond_true,e,Qab,Jak r [u] (by simp) (by simp; omega),Qab,ap1 (by simp; omega),Qab,ih _ (by simp; omega)]
     simp
   · intro n o i hd _
     simp only [Qg1.eq_2]
     unfold Qlx
     rw [hd,cond_false]; simp
theorem Jj0 {fu:Nat} {r:Request} (h:Sm fu r) (us:List Int) (hl:us.length<20):Qpl fu r us=some (pwM r us):=by
 unfold Qpl pwM
 rw [Jhq h us (by omega),Jej h us hl]
 cases r.qY==1 <;> rfl
theorem Jj8 {fu:Nat} {r:Request} (h:Sm fu r) (us:List Int) (hl:us.length<20):Qpu fu r us=some (pwM r us):=by
 unfold Qpu pwM
 rw [Jg6 h us (by omega),Jek h us hl]
 cases r.qY==1 <;> rfl
end Go.Proofs.YtpcmapfabndggaaGreat
/- RivalBy of spec and of impl. -/
namespace Go.Proofs.YtpcmapfabndggaaGreat
open Go
open Enc (rd ow)
open Arg (argv)
open Ret (retv)
open Wf (wf)
theorem Q0e {α:Type} {l:List α} {i:Int} (h0:0≤i) (h1:i<l.length):∃ x,ix l i=some x:=by
 obtain ⟨j,rfl⟩:∃ j:Nat,i=j:=⟨i.toNat,by omega⟩
 exact ⟨_,Qy2 (by omega)⟩
end Go.Proofs.YtpcmapfabndggaaGreat
/- Shelves, layers, loads, spots of spec: what they compute, and what holds of them. -/
namespace Go.Proofs.YtpcmapfabndggaaGreat
open Go
open Enc (rd ow)
open Arg (argv)
open Ret (retv)
open Wf (wf)
def Jbp (p:Pallet) (b:Box):Bool:=inb b.fW 1 p.fW&&(inb b.fD 1 p.fD&&(inb b.fH 1 p.fH&&inb b.fQ 1 p.fQ))
def Qyz (p:Pallet) (l:List Box):Bool:=Qur p&&l.all (Jbp p)
theorem Jg7 {fu:Nat} (p:Pallet) (l:List Box) (hl:l.length≤1048576) (hf:l.length<fu):Qm3 fu p l=some (Qyz p l):=by
 unfold Qm3 Qyz
 rw [Jct,Qab]
 cases Qur p
 · rfl
 · rw [Bool.not_true,cond_false,Bool.true_and]
   have:=Jf3 l (λn i=>Qfs fu p l n i) (Jbp p) (some true) (by omega) ?_ ?_ fu hf
   · rw [this]
     cases l.all (Jbp p) <;> rfl
   · intro n i x hx hd
     simp only [Qfs.eq_2]
     unfold Qma Qo3 Jbp
     simp only [hd,cond_true,hx,Qab,Q42]
     cases inb x.fW 1 p.fW <;> cases inb x.fD 1 p.fD <;> cases inb x.fH 1 p.fH <;> cases inb x.fQ 1 p.fQ <;> rfl
   · intro n i hd
     simp only [Qfs.eq_2]
     unfold Qma
     rw [hd,cond_false]
def nxG {σ:Type} (fits:σ→Bool) (add:σ→σ) (z:σ) (out:List σ):List σ:=match out.getLast? with
 | some s=>bif fits s then out.set (out.length - 1) (add s) else out++[add z]
 | none=>[add z]
theorem Qvb {σ:Type} {fits:σ→Bool} {add:σ→σ} {z:σ} {out:List σ} {s:σ} (h:out.getLast? = some s):nxG fits add z out=bif fits s then out.set (out.length - 1) (add s) else out++[add z]:=by unfold nxG; rw [h]
theorem Qty {σ:Type} (fits:σ→Bool) (add:σ→σ) (z:σ) (out:List σ):(nxG fits add z out).length≤out.length+1:=by
 unfold nxG
 split
 · cases fits _ <;> simp
 · simp
theorem Qxd {σ:Type} {fits:σ→Bool} {add:σ→σ} {z:σ} {out:List σ} {I:σ→Prop} (h:∀ s∈out,I s) (ha:∀ s,I s→fits s=true→I (add s)) (hz:I (add z)):∀ s∈nxG fits add z out,I s:=by
 intro s hs
 unfold nxG at hs
 split at hs
 · rename_i x hx
   have hm:=List.mem_of_getLast? hx
   cases hf:fits x
   · rw [hf,cond_false] at hs
     rcases List.mem_append.1 hs with hs | hs
     · exact h s hs
     · rw [List.mem_singleton.1 hs]; exact hz
   · rw [hf,cond_true] at hs
     rcases List.mem_or_eq_of_mem_set hs with hs | rfl
     · exact h s hs
     · exact ha x (h x hm) hf
 · rw [List.mem_singleton.1 hs]; exact hz
theorem Qsw {σ:Type} {fits:σ→Bool} {add:σ→σ} {z:σ} {out:List σ} {f:σ→List Int} {i:Int} (ha:∀ s,f (add s)=f s++[i]) (hz:f z=[]):((nxG fits add z out).map f).flatten=(out.map f).flatten++[i]:=by
 unfold nxG
 split
 · rename_i x hx
   cases fits x
   · rw [cond_false,List.map_append,List.flatten_append]
     simp [ha,hz]
   · rw [cond_true]
     have hne:out≠[]:=by intro e; rw [e] at hx; simp at hx
     have e:out=out.dropLast++[x]:=by
      have h1:=List.dropLast_concat_getLast hne
      rw [List.getLast?_eq_some_getLast hne] at hx
      rw [Option.some.inj hx] at h1
      exact h1.symm
     obtain ⟨d,hd⟩:∃ d,out=d++[x]:=⟨_,e⟩
     rw [hd]
     simp [ha]
 · rename_i hx
   have:out=[]:=List.getLast?_eq_none_iff.1 hx
   subst this
   simp [ha,hz]
def mxI (a b:Int):Int:=if a>b then a else b
theorem Qt9 (a b:Int):a≤mxI a b∧b≤mxI a b∧(mxI a b=a∨mxI a b=b):=by unfold mxI; split <;> omega
def zBx:Box:=⟨0,0,0,0⟩
def bxA (l:List Box) (i:Int):Box:=(ix l i).getD zBx
def zSh:Shelf:=⟨[],0,0,0,0⟩
def Qqn (s:Shelf) (i:Int) (b:Box):Shelf:=⟨s.f9++[i],s.fW+b.fW,mxI s.fD b.fD,mxI s.fH b.fH,s.fQ+b.fQ⟩
def Q75 (p:Pallet) (b:Box) (s:Shelf):Bool:=decide (s.fW+b.fW≤p.fW)&&decide (s.fQ+b.fQ≤p.fQ)
def shS (p:Pallet) (l:List Box) (out:List Shelf) (i:Int):List Shelf:=nxG (Q75 p (bxA l i)) (λs=>Qqn s i (bxA l i)) zSh out
def shM (p:Pallet) (l:List Box):List Shelf:=bif Qyz p l then (srt (dnk (l.map (·.fD))) l.length).foldl (shS p l) [] else []
structure ShI (p:Pallet) (n:Nat) (s:Shelf):Prop where
 ne:s.f9≠[]
 inn:∀ i∈s.f9,0≤i∧i<n
 w:1≤s.fW∧s.fW≤p.fW
 d:1≤s.fD∧s.fD≤p.fD
 h:1≤s.fH∧s.fH≤p.fH
 g:1≤s.fQ∧s.fQ≤p.fQ
theorem Qx9 {p:Pallet} {l:List Box} (h:Qyz p l=true) {i:Int} (hi:0≤i∧i<l.length):ix l i=some (bxA l i)∧(1≤(bxA l i).fW∧(bxA l i).fW≤p.fW)∧(1≤(bxA l i).fD∧(bxA l i).fD≤p.fD)∧(1≤(bxA l i).fH∧(bxA l i).fH≤p.fH)∧(1≤(bxA l i).fQ∧(bxA l i).fQ≤p.fQ):=by
 obtain ⟨x,hx⟩:=Q0e (l:=l) hi.1 hi.2
 have e:bxA l i=x:=by unfold bxA; rw [hx]; rfl
 unfold Qyz at h
 simp only [Bool.and_eq_true] at h
 have:=List.all_eq_true.1 h.2 x (Qfe hx)
 simp only [Jbp,Bool.and_eq_true,Qco] at this
 rw [e]
 exact ⟨hx,this.1,this.2.1,this.2.2.1,this.2.2.2⟩
theorem Qt8 {p:Pallet} (h:Qur p=true):(1≤p.fW∧p.fW≤2000)∧(1≤p.fD∧p.fD≤2000)∧(1≤p.fH∧p.fH≤2000)∧(1≤p.fQ∧p.fQ≤100000):=by
 simp only [Qur,Bool.and_eq_true,Qco] at h
 exact ⟨h.1,h.2.1,h.2.2.1,h.2.2.2⟩
theorem Qxp {p:Pallet} {l:List Box} (h:Qyz p l=true):Qur p=true:=by
 unfold Qyz at h
 simp only [Bool.and_eq_true] at h
 exact h.1
theorem Q5m {p:Pallet} {l:List Box} (hb:Qyz p l=true) {out:List Shelf} {i:Int} (hi:0≤i∧i<l.length) (h:∀ s∈out,ShI p l.length s):∀ s∈shS p l out i,ShI p l.length s:=by
 obtain ⟨_,b1,b2,b3,b4⟩:=Qx9 hb hi
 refine Qxd h (λs hs hf=>?_) ⟨by simp [Qqn],λj hj=>?_,?_,?_,?_,?_⟩
 · unfold Q75 at hf
   simp only [Bool.and_eq_true,decide_eq_true_eq] at hf
   obtain ⟨s1,s2,s3,s4,s5,s6⟩:=hs
   have m1:=Qt9 s.fD (bxA l i).fD
   have m2:=Qt9 s.fH (bxA l i).fH
   refine ⟨by simp [Qqn],λj hj=>?_,?_,?_,?_,?_⟩
   · simp only [Qqn,List.mem_append,List.mem_singleton] at hj
     rcases hj with hj | rfl
     · exact s2 j hj
     · exact hi
   · simp only [Qqn]; omega
   · simp only [Qqn]; omega
   · simp only [Qqn]; omega
   · simp only [Qqn]; omega
 · simp only [Qqn,zSh,List.nil_append,List.mem_singleton] at hj
   rw [hj]; exact hi
 · simp only [Qqn,zSh]; omega
 · have:=Qt9 0 (bxA l i).fD
   simp only [Qqn,zSh]; omega
 · have:=Qt9 0 (bxA l i).fH
   simp only [Qqn,zSh]; omega
 · simp only [Qqn,zSh]; omega
theorem Q8r {p:Pallet} {l:List Box} (hb:Qyz p l=true):∀ (is:List Int) (out:List Shelf),(∀ i∈is,0≤i∧i<l.length)→(∀ s∈out,ShI p l.length s)→(∀ s∈is.foldl (shS p l) out,ShI p l.length s)∧((is.foldl (shS p l) out).map (·.f9)).flatten=(out.map (·.f9)).flatten++is∧(is.foldl (shS p l) out).length≤out.length+is.length
 | [],out,_,h=>⟨h,by simp,by simp⟩
 | i::is,out,hi,h=>by
  rw [List.foldl_cons]
  obtain ⟨h1,h2,h3⟩:=Q8r hb is (shS p l out i) (λj hj=>hi j (by simp [hj])) (Q5m hb (hi i (by simp)) h)
  have h4:((shS p l out i).map (·.f9)).flatten=(out.map (·.f9)).flatten++[i]:=Qsw (λs=>rfl) rfl
  have h5:(shS p l out i).length≤out.length+1:=Qty _ _ _ _
  refine ⟨h1,by rw [h2,h4]; simp,by simp; omega⟩
theorem Qzi {p:Pallet} {l:List Box} (hb:Qyz p l=true):(∀ s∈shM p l,ShI p l.length s)∧((shM p l).map (·.f9)).flatten=srt (dnk (l.map (·.fD))) l.length∧(shM p l).length≤l.length:=by
 unfold shM
 rw [hb,cond_true]
 obtain ⟨h1,h2,h3⟩:=Q8r hb (srt (dnk (l.map (·.fD))) l.length) [] (λi hi=>Qxn.1 hi) (by simp)
 refine ⟨h1,by simpa using h2,?_⟩
 rw [Qtn] at h3
 simpa using h3
theorem Jhi {fu:Nat} (s:Shelf) (i:Int) (b:Box) (hl:s.f9.length≤1000000) (h1:-1000000000≤s.fW+b.fW∧s.fW+b.fW≤1000000000) (h2:-1000000000≤s.fQ+b.fQ∧s.fQ+b.fQ≤1000000000):Qhb fu s i b=some (Qqn s i b):=by
 unfold Qhb
 rw [ap1 (by simp; omega),Qab,ap1 (by simp; omega),Qab,Jc8,Qab,Jc8,Qab,Qa4 (by omega) (by omega),Qa4 (by omega) (by omega)]
 rfl
theorem Qr4 {σ:Type} (f:σ→List Int):∀ (l:List σ) (s:σ),s∈l→(f s).length≤((l.map f).flatten).length
 | [],_,h=>by simp at h
 | x::l,s,h=>by
  simp only [List.map_cons,List.flatten_cons,List.length_append]
  rcases List.mem_cons.1 h with rfl | h
  · omega
  · have:=Qr4 f l s h; omega
theorem Q90 {fu:Nat} (hfu:2097153≤fu) (p:Pallet) (l:List Box) (hl:l.length≤1000):Qpk fu p l=some (shM p l):=by
 unfold Qpk shM
 rw [Jg7 p l (by omega) (by omega),Qab]
 cases hb:Qyz p l
 · rfl
 · rw [Bool.not_true,cond_false,cond_true]
   have key:=lpI l (λn (o:List Int) i=>Qg5 fu p l n o i) (λxs o=>Qac (Qhl fu (o++xs.map (·.fD))) λx=>Qen fu p l x fu [] 0) (λxs o=>o.length+xs.length≤1000) (by omega) ?_ ?_ fu [] (by simp; omega) (by omega)
   · rw [key,List.nil_append,Jdp hfu (by simp; omega),Qab,List.length_map]
     have hsl:=Qtn (dnk (l.map (·.fD))) l.length
     have hsm:=λx=>Qxn (k:=dnk (l.map (·.fD))) (n:=l.length) (x:=x)
     generalize srt (dnk (l.map (·.fD))) l.length=S at hsl hsm ⊢
     have L1:=lpI S (λn (o:List Shelf) i=>Qen fu p l S n o i) (λxs o=>some (xs.foldl (shS p l) o)) (λxs o=>(∀ i∈xs,0≤i∧i<l.length)∧(∀ s∈o,ShI p l.length s)∧((o.map (·.f9)).flatten).length+xs.length≤1000∧o.length+xs.length≤1000) (by omega) ?_ ?_ fu [] ⟨λi hi=>(hsm i).1 hi,by simp,by simp; omega,by simp; omega⟩ (by omega)
     · exact L1
     · intro n o i x xs hx hd hI ih
       obtain ⟨i1,i2,i3,i4⟩:=hI
       simp only [List.length_cons] at i3 i4
       have hxi:=i1 x (by simp)
       obtain ⟨hbx,b1,b2,b3,b4⟩:=Qx9 hb hxi
       obtain ⟨p1,p2,p3,p4⟩:=Qt8 (Qxp hb)
       have hn:Qhb fu zSh x (bxA l x)=some (Qqn zSh x (bxA l x)):=Jhi zSh x _ (by simp [zSh]) (by simp [zSh]; omega) (by simp [zSh]; omega)
       have hn':Qhb fu (⟨[],0,0,0,0⟩:Shelf) x (bxA l x)=some (Qqn zSh x (bxA l x)):=hn
       have hflat:((shS p l o x).map (·.f9)).flatten=(o.map (·.f9)).flatten++[x]:=Qsw (λs=>rfl) rfl
       have hlen:(shS p l o x).length≤o.length+1:=Qty _ _ _ _
       have ih':=ih (shS p l o x) ⟨λj hj=>i1 j (by simp [hj]),Q5m hb hxi i2,by rw [hflat,List.length_append,List.length_singleton]; omega,by omega⟩
       simp only [Qen.eq_2]
       unfold Qk7 Qg6
       rw [hd,cond_true,hx,Qab,hbx,Qab,List.foldl_cons,← ih',hn',Qab]
       by_cases he:o=[]
       · subst he
         rw [Qay (by simp),Qab,ap1 (by simp),Qab]; rfl
       · obtain ⟨s,e1,e2⟩:=Qul he
         have hp:=List.length_pos_iff.2 he
         have hsm':=List.mem_of_getLast? e1
         have hs:=i2 s hsm'
         have hsl':=Qr4 (λs:Shelf=>s.f9) o s hsm'
         rw [Qa4 (n:=(o.length:Int) - 1) (by omega) (by omega),e2,Qab,Qbj (by simp; omega)]
         obtain ⟨s1,s2,s3,s4,s5,s6⟩:=hs
         rw [Qa4 (n:=s.fW+_) (by omega) (by omega),Qa4 (n:=s.fQ+_) (by omega) (by omega),Qab,Qab,Qab,Jhi (fu:=fu) s x (bxA l x) (by omega) (by omega) (by omega)]
         simp only [Qab]
         rw [ap1 (by simp; omega),Qab]
         have eS:shS p l o x=bif Q75 p (bxA l x) s then o.set (o.length - 1) (Qqn s x (bxA l x)) else o++[Qqn zSh x (bxA l x)]:=Qvb e1
         rw [eS]
         unfold Q75
         rw [show Qe5 o ((o.length:Int) - 1) (Qqn s x (bxA l x))=o.set (o.length - 1) (Qqn s x (bxA l x)) by unfold Qe5; congr 1; omega]
         cases decide (s.fW+(bxA l x).fW≤p.fW) <;> cases decide (s.fQ+(bxA l x).fQ≤p.fQ) <;> rfl
     · intro n o i hd _
       simp only [Qen.eq_2]
       unfold Qk7
       rw [hd,cond_false]; rfl
   · intro n o i x xs hx hd hI ih
     simp only [List.length_cons] at hI
     simp only [Qg5.eq_2]
     unfold Qmf
     rw [hd,cond_true,hx,Qab,ap1 (by simp; omega),Qab,ih _ (by simp; omega)]
     simp
   · intro n o i hd _
     simp only [Qg5.eq_2]
     unfold Qmf
     rw [hd,cond_false]; simp
end Go.Proofs.YtpcmapfabndggaaGreat
