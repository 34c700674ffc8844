/- own lemmas -/
import Derived.Test.YtdgpkmgnjdpieaaGreatDoorS26
set_option linter.unusedSimpArgs false
set_option linter.unusedVariables false
namespace Go.Proofs.YtdgpkmgnjdpieaaGreatDoor
open Go
open Enc (rd ow)
open Arg (argv)
open Ret (retv)
open Wf (wf)
theorem ng {a b:List Int} (D:a.Pairwise (·<·)) (A:b.Pairwise (·<·)) (h:∀ x,x∈a↔x∈b):a=b :=
 YZ (R:=(·<·)) (λx y D A=>by omega) ((List.perm_ext_iff_of_nodup (D.imp λh=>by omega) (A.imp λh=>by omega)).2 h) D A
theorem gX (l:List Int) (hs:l.Pairwise (·≤·)):(Lib.compact l).Pairwise (·<·)∧∀ x,x∈Lib.compact l↔x∈l:=by
 have A:∀ j (h:j<l.length),l.toArray[j]! = l[j]:=λj h=>by simp [h]
 have T:∀ m,m≤l.length→(Lib.compactUpTo l.toArray m).Pairwise (·<·)∧∀ x,x∈Lib.compactUpTo l.toArray m↔∃ j,j<m∧l[j]? = some x:=by
  intro m
  induction m with
  | zero=>intro _; simp [Lib.compactUpTo]
  | succ m ih =>
   intro hm
   obtain ⟨Q,N⟩:=ih AC
   have U:=A m AC
   rw [Lib.compactUpTo_succ]
   have E:∀ x,(∃ j,j<m+1∧l[j]? = some x)↔(∃ j,j<m∧l[j]? = some x)∨x=l[m]:=by
    intro x
    constructor
    · rintro ⟨j,Z,J⟩
      by_cases e:j=m
      · subst e
        rw [List.getElem?_eq_getElem AC] at J
        exact .inr (Option.some.inj J).symm
      · exact .inl ⟨j,AC,J⟩
    · rintro (⟨j,Z,J⟩ | e)
      · exact ⟨j,AC,J⟩
      · exact ⟨m,AC,by rw [e,List.getElem?_eq_getElem]⟩
   by_cases D:m=0∨l.toArray[m]! ≠ l.toArray[m - 1]!
   · have L:Lib.keeps l.toArray m=true:=by simpa [Lib.keeps] using D
     rw [L,if_pos rfl,U]
     refine ⟨List.pairwise_append.2 ⟨Q,AD,?_⟩,?_⟩
     · intro x J y V
       simp only [List.mem_singleton] at V
       subst V
       obtain ⟨j,Z,O⟩:=(N x).1 J
       have M:m≠0:=AC
       have Ab:l[m]≠l[m - 1]:=by
        rcases D with D | D
        · exact absurd D M
        · rw [A m AC,A (m - 1) AC] at D; exact D
       have Aa:x=l[j]:=by rw [List.getElem?_eq_getElem AC] at O; exact (Option.some.inj O).symm
       have Y:=List.pairwise_iff_getElem.1 hs
       have c1:l[m - 1]≤l[m]:=Y (m - 1) m AC AC AC
       have c2:l[j]≤l[m - 1]:=by
        by_cases e:j=m - 1
        · subst e; exact Int.le_refl _
        · exact Y j (m - 1) AC AC AC
       omega
     · intro x
       rw [List.mem_append,N,E]
       simp
   · have L:Lib.keeps l.toArray m=false:=by simpa [Lib.keeps] using D
     rw [L]
     simp only [Bool.false_eq_true,if_false,List.append_nil]
     refine ⟨Q,λx=>?_⟩
     rw [N,E]
     have M:m≠0:=λe=>D (.inl e)
     have he:l[m]=l[m - 1]:=by
      have:¬ (l.toArray[m]! ≠ l.toArray[m - 1]!):=λh=>D (.inr h)
      rw [A m AC,A (m - 1) AC] at this
      exact Classical.not_not.1 this
     constructor
     · exact .inl
     · rintro (h | h)
       · exact h
       · exact ⟨m - 1,AC,by rw [List.getElem?_eq_getElem AC,h,he]⟩
 obtain ⟨Q,N⟩:=T l.length (Nat.le_refl _)
 refine ⟨Q,λx=>?_⟩
 have:=N x
 unfold Lib.compact
 rw [this,List.mem_iff_getElem?]
 constructor
 · rintro ⟨j,_,h⟩; exact ⟨j,h⟩
 · rintro ⟨j,h⟩; exact ⟨j,(List.getElem?_eq_some_iff.1 h).1,h⟩
def VU (p:List Pair) (a b:Int):Bool:=KQ p a b&&KQ p b a
theorem qw (p:List Pair) (a b:Int):VU p a b=VU p b a:=by unfold VU; exact Bool.and_comm _ _
def Xs (r:Request):List Int:=bif CA r==0 then (BW 0 4).filter λc=>r.fU.any λx=>x.fO==c else []
def TO {α:Type} (g:α→Bool):List α→Option Nat
 | []=>none
 | x::xs=>bif g x then some 0 else (TO g xs).map (·+1)
def ZT (p:List Pair) (out:List (List Int)) (c:Int):List (List Int) :=
 match TO (λg=>g.all (VU p c)) out with
 | some i=>out.set i ((out[i]?.getD [])++[c])
 | none=>out++[[c]]
def CD (r:Request):List (List Int):=(Xs r).foldl (ZT r.fT) []
def b7 (r:Request) (g:List Int):Int→List Int→List Int
 | _,[]=>[]
 | u,i::us=>bif (match ix r.fU i with | some x=>g.contains x.fO | none=>false) then u::b7 r g (u+1) us else b7 r g (u+1) us
def QZ (r:Request) (k:Int):List Int:=match ix (CD r) k with | some g=>b7 r g 0 (CP r) | none=>[]
def UO (r:Request) (us:List Int):Int:=IM ((Wu r us).map (·.fQ))
theorem XZ (r:Request):(Xs r).Pairwise (·<·):=by
 unfold Xs
 cases CA r==0
 · exact List.Pairwise.nil
 · rw [cond_true]; exact (W7 0 4).filter _
theorem ma {r:Request} {c:Int} (h:c∈Xs r):0≤c∧c<4:=by
 unfold Xs at h
 cases A:CA r==0
 · simp [A] at h
 · simp only [A,cond_true] at h
   have:=CE.1 (List.mem_filter.1 h).1
   omega
theorem gU (r:Request):(Xs r).length≤4:=by
 unfold Xs
 cases CA r==0
 · simp
 · exact Nat.le_trans (List.length_filter_le _ _) (by simp [BW])
theorem Xl {α:Type} {g:α→Bool}:∀ {l:List α} {i:Nat},TO g l=some i→∃ x,l[i]? = some x∧g x=true
 | [],i,h=>by simp [TO] at h
 | x::xs,i,h=>by
  unfold TO at h
  cases A:g x
  · simp only [A,cond_false,Option.map_eq_some_iff] at h
    obtain ⟨j,D,rfl⟩:=h
    simpa using Xl D
  · simp only [A,cond_true,Option.some.injEq] at h
    subst h
    exact ⟨x,rfl,A⟩
theorem jq {α:Type} {g:α→Bool}:∀ {l:List α},TO g l=none→∀ x∈l,g x=false
 | [],_,x,A=>by simp at A
 | y::ys,h,x,A=>by
  unfold TO at h
  cases D:g y
  · simp only [D,cond_false,Option.map_eq_none_iff] at h
    rcases List.mem_cons.1 A with e | A
    · subst e; exact D
    · exact jq h x A
  · simp [D] at h
def dp (n:Nat) (out:List (List Int)):Prop:=out.length≤n∧∀ g∈out,g.length≤n
theorem kC {p:List Pair} {out:List (List Int)} {n:Nat} (c:Int) (h:dp n out):dp (n+1) (ZT p out c):=by
 obtain ⟨_,D⟩:=h
 unfold ZT
 split
 · rename_i i hi
   obtain ⟨x,E,_⟩:=Xl hi
   refine ⟨AJ,λg A=>?_⟩
   rcases List.mem_or_eq_of_mem_set A with A | A
   · have:=D g A; omega
   · subst A
     rw [E]
     have:=D x (List.mem_of_getElem? E)
     simp; omega
 · refine ⟨AJ,λg A=>?_⟩
   rcases List.mem_append.1 A with A | A
   · have:=D g A; omega
   · simp at A; subst A; simp
theorem lM {p:List Pair}:∀ (l:List Int) {out:List (List Int)} {n:Nat},dp n out→dp (n+l.length) (l.foldl (ZT p) out)
 | [],_,_,h=>h
 | c::l,out,n,h=>by
  have:=lM (p:=p) l (kC (p:=p) c h)
  simp only [List.foldl_cons,List.length_cons]
  rw [show n+(l.length+1)=n+1+l.length by omega]
  exact this
theorem SA (r:Request):dp 4 (CD r):=by
 have h:=lM (p:=r.fT) (Xs r) (out:=[]) (n:=0) ⟨AD,AD⟩
 have hl:=gU r
 unfold dp at h
 exact ⟨by have:=h.1; unfold CD; omega,λg A=>by have:=h.2 g A; omega⟩
theorem nN (r:Request) (g:List Int):∀ (us:List Int) (u:Int),(b7 r g u us).length≤us.length
 | [],_=>by simp [b7]
 | i::us,u=>by
  have:=nN r g us (u+1)
  unfold b7
  generalize (match ix r.fU i with | some x=>g.contains x.fO | none=>false)=b
  cases b <;> simp <;> omega
theorem aY (r:Request) (k:Int):(QZ r k).length≤12:=by
 have:=Yr r
 unfold QZ
 split
 · have:=nN r ‹_› (CP r) 0; omega
 · simp
theorem eh {r:Request} {us:List Int} {x:Item} (h:x∈Wu r us):0≤x.fQ∧x.fQ≤100000:=by
 unfold Wu at h
 obtain ⟨u,_,A⟩:=List.mem_filterMap.1 h
 unfold XO at A
 obtain ⟨i,hi,J⟩:=XF A
 have E:=DA hi
 unfold CP at E
 cases D:CA r==0
 · simp [D] at E
 · have:=(PY (D2 (by simpa using D)).1).1 x (DA J)
   simp only [VP,Bool.and_eq_true,BS] at this
   omega
theorem jO (r:Request) (us:List Int):0≤UO r us∧UO r us≤100000*us.length:=by
 refine ⟨bz _ _ λx A=>(eh A).1,?_⟩
 have E:=uB (λx:Item=>x.fQ) (Wu r us) 100000 λx A=>(eh A).2
 have D:=Y7 r us
 unfold UO
 omega
end Go.Proofs.YtdgpkmgnjdpieaaGreatDoor
set_option linter.unusedSimpArgs false
set_option linter.unusedVariables false
namespace Go.Proofs.YtdgpkmgnjdpieaaGreatDoor
open Go
open Enc (rd ow)
open Arg (argv)
open Ret (retv)
open Wf (wf)
theorem kM (r:Request) (g:List Int):∀ (us:List Int) (A u:Int),u∈b7 r g A us↔∃ (j:Nat) (i:Int) (x:Item),us[j]? = some i∧u=A+j∧ix r.fU i=some x∧g.contains x.fO=true
 | [],A,u=>by simp [b7]
 | i::us,A,u=>by
  have T:=kM r g us (A+1) u
  have N:(u∈b7 r g A (i::us))↔((u=A∧∃ x,ix r.fU i=some x∧g.contains x.fO=true)∨u∈b7 r g (A+1) us):=by
   rw [b7]
   cases O:ix r.fU i with
   | none=>simp
   | some x =>
    simp only
    cases M:g.contains x.fO
    · simp only [cond_false]
      constructor
      · exact .inr
      · rintro (⟨_,y,Q,E⟩ | h)
        · cases Q
          rw [M] at E
          cases E
        · exact h
    · simp only [cond_true,List.mem_cons]
      constructor
      · rintro (h | h)
        · exact .inl ⟨h,x,rfl,M⟩
        · exact .inr h
      · rintro (⟨h,_⟩ | h)
        · exact .inl h
        · exact .inr h
  rw [N,T]
  constructor
  · rintro (⟨rfl,x,O,M⟩ | ⟨j,k,x,D,U,L,J⟩)
    · exact ⟨0,i,x,rfl,AC,O,M⟩
    · exact ⟨j+1,k,x,by simpa using D,AC,L,J⟩
  · rintro ⟨j,k,x,D,U,L,J⟩
    cases j with
    | zero =>
     simp only [List.getElem?_cons_zero,Option.some.injEq] at D
     subst D
     exact .inl ⟨AC,x,L,J⟩
    | succ j=>exact .inr ⟨j,k,x,by simpa using D,AC,L,J⟩
def zT (r:Request) (g:List Int) (u:Int):Bool:=match XO r u with | some x=>g.contains x.fO | none=>false
theorem tV {r:Request} {k:Int} {g:List Int} (M:ix (CD r) k=some g) (u:Int):(QZ r k).contains u=zT r g u:=by
 apply Bool.eq_iff_iff.2
 unfold QZ
 rw [M,List.contains_iff_mem,kM]
 unfold zT XO
 constructor
 · rintro ⟨j,i,x,D,A,J,E⟩
   have:ix (CP r) u=some i:=by rw [A,Int.zero_add,EG,D]
   rw [this,AB,J]
   exact E
 · intro h
   cases D:ix (CP r) u with
   | none=>rw [D] at h; simp at h
   | some i =>
    rw [D,AB] at h
    cases A:ix r.fU i with
    | none=>rw [A] at h; simp at h
    | some x =>
     rw [A] at h
     obtain ⟨_,_,L⟩:=AG D
     exact ⟨u.toNat,i,x,L,AC,A,h⟩
def qr (b:Bool):Int:=bif b then 1 else 0
def nb {α:Type} (f:α→Bool):List α→Int
 | []=>0
 | x::xs=>qr (f x)+nb f xs
theorem uI (b:Bool):0≤qr b∧qr b≤1:=by cases b <;> simp [qr]
theorem Zk {c:Int}:∀ {l:List (List Int)} {i:Nat} {x:List Int},l[i]? = some x→(l.set i (x++[c])).flatten.Perm (l.flatten++[c])
 | [],i,x,h=>by simp at h
 | y::l,0,x,h=>by
  simp only [List.getElem?_cons_zero,Option.some.injEq] at h
  subst h
  simp only [List.set_cons_zero,List.flatten_cons,List.append_assoc]
  exact List.Perm.append_left _ List.perm_append_comm
 | y::l,i+1,x,h=>by
  simp only [List.set_cons_succ,List.flatten_cons,List.append_assoc]
  exact List.Perm.append_left _ (Zk (by simpa using h))
theorem qg (p:List Pair) (out:List (List Int)) (c:Int):(ZT p out c).flatten.Perm (out.flatten++[c]):=by
 unfold ZT
 split
 · rename_i i hi
   obtain ⟨x,A,_⟩:=Xl hi
   rw [A]
   exact Zk A
 · simp
theorem gC (p:List Pair):∀ (l:List Int) (out:List (List Int)),(l.foldl (ZT p) out).flatten.Perm (out.flatten++l)
 | [],out=>by simp
 | c::l,out=>by
  rw [List.foldl_cons]
  refine (gC p l _).trans ?_
  refine ((qg p out c).append_right l).trans ?_
  simp
theorem mh (r:Request):(CD r).flatten.Perm (Xs r):=by
 have:=gC r.fT (Xs r) []
 simpa [CD] using this
theorem pX (r:Request):(CD r).flatten.Nodup:=(mh r).nodup_iff.2 ((XZ r).imp λh=>by omega)
theorem cV {r:Request} {i j:Nat} {g h:List Int} (hi:(CD r)[i]? = some g) (Q:(CD r)[j]? = some h) {c:Int} (O:c∈g) (D:c∈h):i=j:=by
 have N:=(List.pairwise_flatten.1 (pX r)).2
 obtain ⟨M,L⟩:=List.getElem?_eq_some_iff.1 hi
 obtain ⟨E,J⟩:=List.getElem?_eq_some_iff.1 Q
 rcases Nat.lt_trichotomy i j with A | A | A
 · have:=List.pairwise_iff_getElem.1 N i j M E A
   rw [L,J] at this
   exact (this c O c D rfl).elim
 · exact A
 · have:=List.pairwise_iff_getElem.1 N j i E M A
   rw [L,J] at this
   exact (this c D c O rfl).elim
theorem k8 {r:Request} {u:Int} {x:Item} (h:XO r u=some x):CA r=0∧x∈r.fU:=by
 unfold XO at h
 obtain ⟨i,hi,E⟩:=XF h
 have D:=DA hi
 refine ⟨?_,DA E⟩
 unfold CP at D
 cases A:CA r==0
 · simp [A] at D
 · simpa using A
theorem oV {r:Request} {u:Int} {x:Item} (h:XO r u=some x):x.fO∈Xs r:=by
 obtain ⟨A,D⟩:=k8 h
 have:=(PY (D2 A).1).1 x D
 simp only [VP,Bool.and_eq_true,BS] at this
 unfold Xs
 rw [show (CA r==0)=true by simp [A],cond_true,List.mem_filter,CE]
 exact ⟨AC,List.any_eq_true.2 ⟨x,D,AD⟩⟩
def kl (A:List (List Int)) (c:Int):Int:=match TO (λg=>g.contains c) A with | some i=>(i:Int) | none=>-1
theorem rI {r:Request} {i:Nat} {g:List Int} (hi:(CD r)[i]? = some g) {c:Int} (D:c∈g):kl (CD r) c=i:=by
 unfold kl
 cases A:TO (λg=>g.contains c) (CD r) with
 | none =>
  have:=jq A g (List.mem_of_getElem? hi)
  simp [D] at this
 | some j =>
  obtain ⟨h,J,E⟩:=Xl A
  have:=cV hi J D (by simpa using E)
  simp [this]
theorem n5 {r:Request} {c:Int} (D:c∈Xs r):∃ (i:Nat) (g:List Int),(CD r)[i]? = some g∧c∈g∧kl (CD r) c=i:=by
 have J:=(mh r).mem_iff.2 D
 obtain ⟨g,E,A⟩:=List.mem_flatten.1 J
 obtain ⟨i,hi⟩:=List.mem_iff_getElem?.1 E
 exact ⟨i,g,hi,A,rI hi A⟩
end Go.Proofs.YtdgpkmgnjdpieaaGreatDoor
