/- Kinds, groups, the u.. -/
import Derived.Test.YtndfoffokpdjeaaGreatDoorM1
set_option linter.unusedSimpArgs false
set_option linter.unusedVariables false
namespace Go.Proofs.YtndfoffokpdjeaaGreatDoor
open Go
open Enc (rd ow)
open Arg (argv)
open Ret (retv)
open Wf (wf)
theorem Jb4 {a b:List Int} (h1:a.Pairwise (·<·)) (h2:b.Pairwise (·<·)) (h:∀ x,x∈a↔x∈b):a=b :=
 Qvs (R:=(·<·)) (λx y h1 h2=>by omega) ((List.perm_ext_iff_of_nodup (h1.imp λh=>by omega) (h2.imp λh=>by omega)).2 h) h1 h2
theorem Q0t (l:List Int) (hs:l.Pairwise (·≤·)):(Lib.compact l).Pairwise (·<·)∧∀ x,x∈Lib.compact l↔x∈l:=by
 have hget:∀ j (h:j<l.length),l.toArray[j]! = l[j]:=λj h=>by simp [h]
 have key:∀ m,m≤l.length→(Lib.compactUpTo l.toArray m).Pairwise (·<·)∧∀ x,x∈Lib.compactUpTo l.toArray m↔∃ j,j<m∧l[j]? = some x:=by
  intro m
  induction m with
  | zero=>intro _; simp [Lib.compactUpTo]
  | succ m ih =>
   intro hm
   obtain ⟨h1,h2⟩:=ih (by omega)
   have hmg:=hget m (by omega)
   rw [Lib.compactUpTo_succ]
   have hmem:∀ x,(∃ j,j<m+1∧l[j]? = some x)↔(∃ j,j<m∧l[j]? = some x)∨x=l[m]:=by
    intro x
    constructor
    · rintro ⟨j,hj,hx⟩
      by_cases e:j=m
      · subst e
        rw [List.getElem?_eq_getElem (by omega)] at hx
        exact .inr (Option.some.inj hx).symm
      · exact .inl ⟨j,by omega,hx⟩
    · rintro (⟨j,hj,hx⟩ | e)
      · exact ⟨j,by omega,hx⟩
      · exact ⟨m,by omega,by rw [e,List.getElem?_eq_getElem]⟩
   by_cases hk:m=0∨l.toArray[m]! ≠ l.toArray[m - 1]!
   · have hk':Lib.keeps l.toArray m=true:=by simpa [Lib.keeps] using hk
     rw [hk',if_pos rfl,hmg]
     refine ⟨List.pairwise_append.2 ⟨h1,by simp,?_⟩,?_⟩
     · intro x hx y hy
       simp only [List.mem_singleton] at hy
       subst hy
       obtain ⟨j,hj,hxj⟩:=(h2 x).1 hx
       have hm0:m≠0:=by omega
       have hne:l[m]≠l[m - 1]:=by
        rcases hk with hk | hk
        · exact absurd hk hm0
        · rw [hget m (by omega),hget (m - 1) (by omega)] at hk; exact hk
       have hx':x=l[j]:=by rw [List.getElem?_eq_getElem (by omega)] at hxj; exact (Option.some.inj hxj).symm
       have hp:=List.pairwise_iff_getElem.1 hs
       have c1:l[m - 1]≤l[m]:=hp (m - 1) m (by omega) (by omega) (by omega)
       have c2:l[j]≤l[m - 1]:=by
        by_cases e:j=m - 1
        · subst e; exact Int.le_refl _
        · exact hp j (m - 1) (by omega) (by omega) (by omega)
       omega
     · intro x
       rw [List.mem_append,h2,hmem]
       simp
   · have hk':Lib.keeps l.toArray m=false:=by simpa [Lib.keeps] using hk
     rw [hk']
     simp only [Bool.false_eq_true,if_false,List.append_nil]
     refine ⟨h1,λx=>?_⟩
     rw [h2,hmem]
     have hm0:m≠0:=λe=>hk (.inl e)
     have he:l[m]=l[m - 1]:=by
      have:¬ (l.toArray[m]! ≠ l.toArray[m - 1]!):=λh=>hk (.inr h)
      rw [hget m (by omega),hget (m - 1) (by omega)] at this
      exact Classical.not_not.1 this
     constructor
     · exact .inl
     · rintro (h | h)
       · exact h
       · exact ⟨m - 1,by omega,by rw [List.getElem?_eq_getElem (by omega),h,he]⟩
 obtain ⟨h1,h2⟩:=key l.length (Nat.le_refl _)
 refine ⟨h1,λx=>?_⟩
 have:=h2 x
 unfold Lib.compact
 rw [this,List.mem_iff_getElem?]
 constructor
 · rintro ⟨j,_,h⟩; exact ⟨j,h⟩
 · rintro ⟨j,h⟩; exact ⟨j,(List.getElem?_eq_some_iff.1 h).1,h⟩
def Q12 (p:List Pair) (a b:Int):Bool:=Qt0 p a b&&Qt0 p b a
def Q40 (r:Request):List Int:=bif Qhh r==0 then (Qj5 0 4).filter λc=>r.fV.any λx=>x.fM==c else []
def Qyo {α:Type} (g:α→Bool):List α→Option Nat
 | []=>none
 | x::xs=>bif g x then some 0 else (Qyo g xs).map (·+1)
def Q9j (p:List Pair) (out:List (List Int)) (c:Int):List (List Int) :=
 match Qyo (λg=>g.all (Q12 p c)) out with
 | some i=>out.set i ((out[i]?.getD [])++[c])
 | none=>out++[[c]]
def Qj1 (r:Request):List (List Int):=(Q40 r).foldl (Q9j r.fT) []
def ofG (r:Request) (g:List Int):Int→List Int→List Int
 | _,[]=>[]
 | u,i::us=>bif (match ix r.fV i with | some x=>g.contains x.fM | none=>false) then u::ofG r g (u+1) us else ofG r g (u+1) us
def Q5f (r:Request) (k:Int):List Int:=match ix (Qj1 r) k with | some g=>ofG r g 0 (Qi4 r) | none=>[]
def Qwg (r:Request) (us:List Int):Int:=Qxt ((Qxn r us).map (·.fQ))
theorem Qvx (r:Request):(Q40 r).Pairwise (·<·):=by
 unfold Q40
 cases Qhh r==0
 · exact List.Pairwise.nil
 · rw [cond_true]; exact (Qvv 0 4).filter _
theorem Q7q {r:Request} {c:Int} (h:c∈Q40 r):0≤c∧c<4:=by
 unfold Q40 at h
 cases hc:Qhh r==0
 · simp [hc] at h
 · simp only [hc,cond_true] at h
   have:=Qho.1 (List.mem_filter.1 h).1
   omega
theorem Q3m (r:Request):(Q40 r).length≤4:=by
 unfold Q40
 cases Qhh r==0
 · simp
 · exact Nat.le_trans (List.length_filter_le _ _) (by simp [Qj5])
theorem Qzm {α:Type} {g:α→Bool}:∀ {l:List α} {i:Nat},Qyo g l=some i→∃ x,l[i]? = some x∧g x=true
 | [],i,h=>by simp [Qyo] at h
 | x::xs,i,h=>by
  unfold Qyo at h
  cases hx:g x
  · simp only [hx,cond_false,Option.map_eq_some_iff] at h
    obtain ⟨j,hj,rfl⟩:=h
    simpa using Qzm hj
  · simp only [hx,cond_true,Option.some.injEq] at h
    subst h
    exact ⟨x,rfl,hx⟩
def okG (n:Nat) (out:List (List Int)):Prop:=out.length≤n∧∀ g∈out,g.length≤n
theorem Q5i {p:List Pair} {out:List (List Int)} {n:Nat} (c:Int) (h:okG n out):okG (n+1) (Q9j p out c):=by
 obtain ⟨h1,h2⟩:=h
 unfold Q9j
 split
 · rename_i i hi
   obtain ⟨x,hx,_⟩:=Qzm hi
   refine ⟨by simp; omega,λg hg=>?_⟩
   rcases List.mem_or_eq_of_mem_set hg with hg | hg
   · have:=h2 g hg; omega
   · subst hg
     rw [hx]
     have:=h2 x (List.mem_of_getElem? hx)
     simp; omega
 · refine ⟨by simp; omega,λg hg=>?_⟩
   rcases List.mem_append.1 hg with hg | hg
   · have:=h2 g hg; omega
   · simp at hg; subst hg; simp
theorem Q6y {p:List Pair}:∀ (l:List Int) {out:List (List Int)} {n:Nat},okG n out→okG (n+l.length) (l.foldl (Q9j p) out)
 | [],_,_,h=>h
 | c::l,out,n,h=>by
  have:=Q6y (p:=p) l (Q5i (p:=p) c h)
  simp only [List.foldl_cons,List.length_cons]
  rw [show n+(l.length+1)=n+1+l.length by omega]
  exact this
theorem Qu3 (r:Request):okG 4 (Qj1 r):=by
 have h:=Q6y (p:=r.fT) (Q40 r) (out:=[]) (n:=0) ⟨by simp,by simp⟩
 have hl:=Q3m r
 unfold okG at h
 exact ⟨by have:=h.1; unfold Qj1; omega,λg hg=>by have:=h.2 g hg; omega⟩
theorem Jbb (r:Request) (g:List Int):∀ (us:List Int) (u:Int),(ofG r g u us).length≤us.length
 | [],_=>by simp [ofG]
 | i::us,u=>by
  have:=Jbb r g us (u+1)
  unfold ofG
  generalize (match ix r.fV i with | some x=>g.contains x.fM | none=>false)=b
  cases b <;> simp <;> omega
theorem Qyj (r:Request) (k:Int):(Q5f r k).length≤12:=by
 have:=Q21 r
 unfold Q5f
 split
 · have:=Jbb r ‹_› (Qi4 r) 0; omega
 · simp
theorem Q2q {r:Request} {us:List Int} {x:Item} (h:x∈Qxn r us):0≤x.fQ∧x.fQ≤100000:=by
 unfold Qxn at h
 obtain ⟨u,_,hu⟩:=List.mem_filterMap.1 h
 unfold Q3w at hu
 obtain ⟨i,hi,hx⟩:=Qt1 hu
 have hm:=Qi3 hi
 unfold Qi4 at hm
 cases hc:Qhh r==0
 · simp [hc] at hm
 · have:=(Qsp (Qfn (by simpa using hc)).1).1 x (Qi3 hx)
   simp only [Qyb,Bool.and_eq_true,Qcb] at this
   omega
theorem Q84 (r:Request) (us:List Int):0≤Qwg r us∧Qwg r us≤100000*us.length:=by
 refine ⟨Jap _ _ λx hx=>(Q2q hx).1,?_⟩
 have h1:=Jgo (λx:Item=>x.fQ) (Qxn r us) 100000 λx hx=>(Q2q hx).2
 have h2:=Qym r us
 unfold Qwg
 omega
end Go.Proofs.YtndfoffokpdjeaaGreatDoor
