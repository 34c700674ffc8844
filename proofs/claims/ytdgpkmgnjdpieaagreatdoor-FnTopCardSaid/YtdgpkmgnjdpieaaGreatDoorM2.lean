/- own lemmas -/
import Derived.Test.YtdgpkmgnjdpieaaGreatDoorS26
set_option linter.unusedSimpArgs false
set_option linter.unusedVariables false
namespace Go.Proofs.YtdgpkmgnjdpieaaGreatDoor
open Go
open Enc (rd ow)
open Arg (argv)
open Ret (retv)
open Wf (wf)
theorem nh {a b:List Int} (D:a.Pairwise (·<·)) (A:b.Pairwise (·<·)) (h:∀ x,x∈a↔x∈b):a=b :=
 Zu (R:=(·<·)) (λx y D A=>by omega) ((List.perm_ext_iff_of_nodup (D.imp λh=>by omega) (A.imp λh=>by omega)).2 h) D A
theorem gG (l:List Int) (hs:l.Pairwise (·≤·)):(Lib.compact l).Pairwise (·<·)∧∀ x,x∈Lib.compact l↔x∈l:=by
 have A:∀ j (h:j<l.length),l.toArray[j]! = l[j]:=λj h=>by simp [h]
 have U:∀ m,m≤l.length→(Lib.compactUpTo l.toArray m).Pairwise (·<·)∧∀ x,x∈Lib.compactUpTo l.toArray m↔∃ j,j<m∧l[j]? = some x:=by
  intro m
  induction m with
  | zero=>intro _; simp [Lib.compactUpTo]
  | succ m ih =>
   intro hm
   obtain ⟨Q,M⟩:=ih AC
   have T:=A m AC
   rw [Lib.compactUpTo_succ]
   have E:∀ x,(∃ j,j<m+1∧l[j]? = some x)↔(∃ j,j<m∧l[j]? = some x)∨x=l[m]:=by
    intro x
    constructor
    · rintro ⟨j,Y,J⟩
      by_cases e:j=m
      · subst e
        rw [List.getElem?_eq_getElem AC] at J
        exact .inr (Option.some.inj J).symm
      · exact .inl ⟨j,AC,J⟩
    · rintro (⟨j,Y,J⟩ | e)
      · exact ⟨j,AC,J⟩
      · exact ⟨m,AC,by rw [e,List.getElem?_eq_getElem]⟩
   by_cases D:m=0∨l.toArray[m]! ≠ l.toArray[m - 1]!
   · have L:Lib.keeps l.toArray m=true:=by simpa [Lib.keeps] using D
     rw [L,if_pos rfl,T]
     refine ⟨List.pairwise_append.2 ⟨Q,AD,?_⟩,?_⟩
     · intro x J y V
       simp only [List.mem_singleton] at V
       subst V
       obtain ⟨j,Y,N⟩:=(M x).1 J
       have O:m≠0:=AC
       have Ab:l[m]≠l[m - 1]:=by
        rcases D with D | D
        · exact absurd D O
        · rw [A m AC,A (m - 1) AC] at D; exact D
       have Aa:x=l[j]:=by rw [List.getElem?_eq_getElem AC] at N; exact (Option.some.inj N).symm
       have Z:=List.pairwise_iff_getElem.1 hs
       have c1:l[m - 1]≤l[m]:=Z (m - 1) m AC AC AC
       have c2:l[j]≤l[m - 1]:=by
        by_cases e:j=m - 1
        · subst e; exact Int.le_refl _
        · exact Z j (m - 1) AC AC AC
       omega
     · intro x
       rw [List.mem_append,M,E]
       simp
   · have L:Lib.keeps l.toArray m=false:=by simpa [Lib.keeps] using D
     rw [L]
     simp only [Bool.false_eq_true,if_false,List.append_nil]
     refine ⟨Q,λx=>?_⟩
     rw [M,E]
     have O:m≠0:=λe=>D (.inl e)
     have he:l[m]=l[m - 1]:=by
      have:¬ (l.toArray[m]! ≠ l.toArray[m - 1]!):=λh=>D (.inr h)
      rw [A m AC,A (m - 1) AC] at this
      exact Classical.not_not.1 this
     constructor
     · exact .inl
     · rintro (h | h)
       · exact h
       · exact ⟨m - 1,AC,by rw [List.getElem?_eq_getElem AC,h,he]⟩
 obtain ⟨Q,M⟩:=U l.length (Nat.le_refl _)
 refine ⟨Q,λx=>?_⟩
 have:=M x
 unfold Lib.compact
 rw [this,List.mem_iff_getElem?]
 constructor
 · rintro ⟨j,_,h⟩; exact ⟨j,h⟩
 · rintro ⟨j,h⟩; exact ⟨j,(List.getElem?_eq_some_iff.1 h).1,h⟩
def VN (p:List Pair) (a b:Int):Bool:=KW p a b&&KW p b a
theorem qn (p:List Pair) (a b:Int):VN p a b=VN p b a:=by unfold VN; exact Bool.and_comm _ _
def XU (r:Request):List Int:=bif B9 r==0 then (BW 0 4).filter λc=>r.fU.any λx=>x.fO==c else []
def TU {α:Type} (g:α→Bool):List α→Option Nat
 | []=>none
 | x::xs=>bif g x then some 0 else (TU g xs).map (·+1)
def Z2 (p:List Pair) (out:List (List Int)) (c:Int):List (List Int) :=
 match TU (λg=>g.all (VN p c)) out with
 | some i=>out.set i ((out[i]?.getD [])++[c])
 | none=>out++[[c]]
def CD (r:Request):List (List Int):=(XU r).foldl (Z2 r.fT) []
def cx (r:Request) (g:List Int):Int→List Int→List Int
 | _,[]=>[]
 | u,i::us=>bif (match ix r.fU i with | some x=>g.contains x.fO | none=>false) then u::cx r g (u+1) us else cx r g (u+1) us
def QV (r:Request) (k:Int):List Int:=match ix (CD r) k with | some g=>cx r g 0 (CP r) | none=>[]
def Vg (r:Request) (us:List Int):Int:=HW ((WH r us).map (·.fQ))
theorem X4 (r:Request):(XU r).Pairwise (·<·):=by
 unfold XU
 cases B9 r==0
 · exact List.Pairwise.nil
 · rw [cond_true]; exact (Xx 0 4).filter _
theorem mT {r:Request} {c:Int} (h:c∈XU r):0≤c∧c<4:=by
 unfold XU at h
 cases A:B9 r==0
 · simp [A] at h
 · simp only [A,cond_true] at h
   have:=CF.1 (List.mem_filter.1 h).1
   omega
theorem gO (r:Request):(XU r).length≤4:=by
 unfold XU
 cases B9 r==0
 · simp
 · exact Nat.le_trans (List.length_filter_le _ _) (by simp [BW])
theorem Xv {α:Type} {g:α→Bool}:∀ {l:List α} {i:Nat},TU g l=some i→∃ x,l[i]? = some x∧g x=true
 | [],i,h=>by simp [TU] at h
 | x::xs,i,h=>by
  unfold TU at h
  cases A:g x
  · simp only [A,cond_false,Option.map_eq_some_iff] at h
    obtain ⟨j,D,rfl⟩:=h
    simpa using Xv D
  · simp only [A,cond_true,Option.some.injEq] at h
    subst h
    exact ⟨x,rfl,A⟩
theorem jT {α:Type} {g:α→Bool}:∀ {l:List α},TU g l=none→∀ x∈l,g x=false
 | [],_,x,A=>by simp at A
 | y::ys,h,x,A=>by
  unfold TU at h
  cases D:g y
  · simp only [D,cond_false,Option.map_eq_none_iff] at h
    rcases List.mem_cons.1 A with e | A
    · subst e; exact D
    · exact jT h x A
  · simp [D] at h
def dP (n:Nat) (out:List (List Int)):Prop:=out.length≤n∧∀ g∈out,g.length≤n
theorem kb {p:List Pair} {out:List (List Int)} {n:Nat} (c:Int) (h:dP n out):dP (n+1) (Z2 p out c):=by
 obtain ⟨_,D⟩:=h
 unfold Z2
 split
 · rename_i i hi
   obtain ⟨x,E,_⟩:=Xv hi
   refine ⟨AJ,λg A=>?_⟩
   rcases List.mem_or_eq_of_mem_set A with A | A
   · have:=D g A; omega
   · subst A
     rw [E]
     have:=D x (List.mem_of_getElem? E)
     simp; omega
 · refine ⟨AJ,λg A=>?_⟩
   rcases List.mem_append.1 A with A | A
   · have:=D g A; omega
   · simp at A; subst A; simp
theorem mn {p:List Pair}:∀ (l:List Int) {out:List (List Int)} {n:Nat},dP n out→dP (n+l.length) (l.foldl (Z2 p) out)
 | [],_,_,h=>h
 | c::l,out,n,h=>by
  have:=mn (p:=p) l (kb (p:=p) c h)
  simp only [List.foldl_cons,List.length_cons]
  rw [show n+(l.length+1)=n+1+l.length by omega]
  exact this
theorem R5 (r:Request):dP 4 (CD r):=by
 have h:=mn (p:=r.fT) (XU r) (out:=[]) (n:=0) ⟨AD,AD⟩
 have hl:=gO r
 unfold dP at h
 exact ⟨by have:=h.1; unfold CD; omega,λg A=>by have:=h.2 g A; omega⟩
theorem oy (r:Request) (g:List Int):∀ (us:List Int) (u:Int),(cx r g u us).length≤us.length
 | [],_=>by simp [cx]
 | i::us,u=>by
  have:=oy r g us (u+1)
  unfold cx
  generalize (match ix r.fU i with | some x=>g.contains x.fO | none=>false)=b
  cases b <;> simp <;> omega
theorem a7 (r:Request) (k:Int):(QV r k).length≤12:=by
 have:=YD r
 unfold QV
 split
 · have:=oy r ‹_› (CP r) 0; omega
 · simp
theorem em {r:Request} {us:List Int} {x:Item} (h:x∈WH r us):0≤x.fQ∧x.fQ≤100000:=by
 unfold WH at h
 obtain ⟨u,_,E⟩:=List.mem_filterMap.1 h
 unfold XR at E
 obtain ⟨i,hi,J⟩:=XM E
 have D:=C8 hi
 unfold CP at D
 cases A:B9 r==0
 · simp [A] at D
 · have:=(PT (D4 (by simpa using A)).1).1 x (C8 J)
   simp only [VV,Bool.and_eq_true,BS] at this
   omega
theorem kJ (r:Request) (us:List Int):0≤Vg r us∧Vg r us≤100000*us.length:=by
 refine ⟨aW _ _ λx A=>(em A).1,?_⟩
 have E:=uj (λx:Item=>x.fQ) (WH r us) 100000 λx A=>(em A).2
 have D:=Zh r us
 unfold Vg
 omega
end Go.Proofs.YtdgpkmgnjdpieaaGreatDoor
set_option linter.unusedSimpArgs false
set_option linter.unusedVariables false
namespace Go.Proofs.YtdgpkmgnjdpieaaGreatDoor
open Go
open Enc (rd ow)
open Arg (argv)
open Ret (retv)
open Wf (wf)
theorem kl (r:Request) (g:List Int):∀ (us:List Int) (A u:Int),u∈cx r g A us↔∃ (j:Nat) (i:Int) (x:Item),us[j]? = some i∧u=A+j∧ix r.fU i=some x∧g.contains x.fO=true
 | [],A,u=>by simp [cx]
 | i::us,A,u=>by
  have Q:=kl r g us (A+1) u
  have N:(u∈cx r g A (i::us))↔((u=A∧∃ x,ix r.fU i=some x∧g.contains x.fO=true)∨u∈cx r g (A+1) us):=by
   rw [cx]
   cases O:ix r.fU i with
   | none=>simp
   | some x =>
    simp only
    cases L:g.contains x.fO
    · simp only [cond_false]
      constructor
      · exact .inr
      · rintro (⟨_,y,U,E⟩ | h)
        · cases U
          rw [L] at E
          cases E
        · exact h
    · simp only [cond_true,List.mem_cons]
      constructor
      · rintro (h | h)
        · exact .inl ⟨h,x,rfl,L⟩
        · exact .inr h
      · rintro (⟨h,_⟩ | h)
        · exact .inl h
        · exact .inr h
  rw [N,Q]
  constructor
  · rintro (⟨rfl,x,O,L⟩ | ⟨j,k,x,D,T,J,M⟩)
    · exact ⟨0,i,x,rfl,AC,O,L⟩
    · exact ⟨j+1,k,x,by simpa using D,AC,J,M⟩
  · rintro ⟨j,k,x,D,T,J,M⟩
    cases j with
    | zero =>
     simp only [List.getElem?_cons_zero,Option.some.injEq] at D
     subst D
     exact .inl ⟨AC,x,J,M⟩
    | succ j=>exact .inr ⟨j,k,x,by simpa using D,AC,J,M⟩
def zS (r:Request) (g:List Int) (u:Int):Bool:=match XR r u with | some x=>g.contains x.fO | none=>false
theorem uv {r:Request} {k:Int} {g:List Int} (E:ix (CD r) k=some g) (u:Int):(QV r k).contains u=zS r g u:=by
 apply Bool.eq_iff_iff.2
 unfold QV
 rw [E,List.contains_iff_mem,kl]
 unfold zS XR
 constructor
 · rintro ⟨j,i,x,D,A,M,L⟩
   have:ix (CP r) u=some i:=by rw [A,Int.zero_add,EG,D]
   rw [this,AB,M]
   exact L
 · intro h
   cases D:ix (CP r) u with
   | none=>rw [D] at h; simp at h
   | some i =>
    rw [D,AB] at h
    cases A:ix r.fU i with
    | none=>rw [A] at h; simp at h
    | some x =>
     rw [A] at h
     obtain ⟨_,_,J⟩:=AG D
     exact ⟨u.toNat,i,x,J,AC,A,h⟩
def ql (b:Bool):Int:=bif b then 1 else 0
def mX {α:Type} (f:α→Bool):List α→Int
 | []=>0
 | x::xs=>ql (f x)+mX f xs
theorem uW (b:Bool):0≤ql b∧ql b≤1:=by cases b <;> simp [ql]
theorem ZG {c:Int}:∀ {l:List (List Int)} {i:Nat} {x:List Int},l[i]? = some x→(l.set i (x++[c])).flatten.Perm (l.flatten++[c])
 | [],i,x,h=>by simp at h
 | y::l,0,x,h=>by
  simp only [List.getElem?_cons_zero,Option.some.injEq] at h
  subst h
  simp only [List.set_cons_zero,List.flatten_cons,List.append_assoc]
  exact List.Perm.append_left _ List.perm_append_comm
 | y::l,i+1,x,h=>by
  simp only [List.set_cons_succ,List.flatten_cons,List.append_assoc]
  exact List.Perm.append_left _ (ZG (by simpa using h))
theorem qN (p:List Pair) (out:List (List Int)) (c:Int):(Z2 p out c).flatten.Perm (out.flatten++[c]):=by
 unfold Z2
 split
 · rename_i i hi
   obtain ⟨x,A,_⟩:=Xv hi
   rw [A]
   exact ZG A
 · simp
theorem gf (p:List Pair):∀ (l:List Int) (out:List (List Int)),(l.foldl (Z2 p) out).flatten.Perm (out.flatten++l)
 | [],out=>by simp
 | c::l,out=>by
  rw [List.foldl_cons]
  refine (gf p l _).trans ?_
  refine ((qN p out c).append_right l).trans ?_
  simp
theorem mQ (r:Request):(CD r).flatten.Perm (XU r):=by
 have:=gf r.fT (XU r) []
 simpa [CD] using this
theorem qH (r:Request):(CD r).flatten.Nodup:=(mQ r).nodup_iff.2 ((X4 r).imp λh=>by omega)
theorem dd {r:Request} {i j:Nat} {g h:List Int} (hi:(CD r)[i]? = some g) (Q:(CD r)[j]? = some h) {c:Int} (E:c∈g) (D:c∈h):i=j:=by
 have J:=(List.pairwise_flatten.1 (qH r)).2
 obtain ⟨N,M⟩:=List.getElem?_eq_some_iff.1 hi
 obtain ⟨L,O⟩:=List.getElem?_eq_some_iff.1 Q
 rcases Nat.lt_trichotomy i j with A | A | A
 · have:=List.pairwise_iff_getElem.1 J i j N L A
   rw [M,O] at this
   exact (this c E c D rfl).elim
 · exact A
 · have:=List.pairwise_iff_getElem.1 J j i L N A
   rw [M,O] at this
   exact (this c D c E rfl).elim
theorem jZ {r:Request} {u:Int} {x:Item} (h:XR r u=some x):B9 r=0∧x∈r.fU:=by
 unfold XR at h
 obtain ⟨i,hi,E⟩:=XM h
 have D:=C8 hi
 refine ⟨?_,C8 E⟩
 unfold CP at D
 cases A:B9 r==0
 · simp [A] at D
 · simpa using A
theorem ov {r:Request} {u:Int} {x:Item} (h:XR r u=some x):x.fO∈XU r:=by
 obtain ⟨A,D⟩:=jZ h
 have:=(PT (D4 A).1).1 x D
 simp only [VV,Bool.and_eq_true,BS] at this
 unfold XU
 rw [show (B9 r==0)=true by simp [A],cond_true,List.mem_filter,CF]
 exact ⟨AC,List.any_eq_true.2 ⟨x,D,AD⟩⟩
def k6 (A:List (List Int)) (c:Int):Int:=match TU (λg=>g.contains c) A with | some i=>(i:Int) | none=>-1
theorem tv {r:Request} {i:Nat} {g:List Int} (hi:(CD r)[i]? = some g) {c:Int} (A:c∈g):k6 (CD r) c=i:=by
 unfold k6
 cases D:TU (λg=>g.contains c) (CD r) with
 | none =>
  have:=jT D g (List.mem_of_getElem? hi)
  simp [A] at this
 | some j =>
  obtain ⟨h,J,E⟩:=Xv D
  have:=dd hi J A (by simpa using E)
  simp [this]
theorem nN {r:Request} {c:Int} (J:c∈XU r):∃ (i:Nat) (g:List Int),(CD r)[i]? = some g∧c∈g∧k6 (CD r) c=i:=by
 have D:=(mQ r).mem_iff.2 J
 obtain ⟨g,E,A⟩:=List.mem_flatten.1 D
 obtain ⟨i,hi⟩:=List.mem_iff_getElem?.1 E
 exact ⟨i,g,hi,A,tv hi A⟩
end Go.Proofs.YtdgpkmgnjdpieaaGreatDoor
