/- Kinds, groups, the units of a group, weights, as plain functions. Own text; no program in sight. -/
import Derived.Test.YtpcmapfabndggaaGreatDoorM1
set_option linter.unusedSimpArgs false
set_option linter.unusedVariables false
namespace Go.Proofs.YtpcmapfabndggaaGreatDoor
open Go
open Enc (rd ow)
open Arg (argv)
open Ret (retv)
open Wf (wf)
theorem lt_ext {a b:List Int} (h1:a.Pairwise (· < ·)) (h2:b.Pairwise (· < ·)) (h:∀ x,x ∈ a ↔ x ∈ b):a = b :=
 uniq_sorted (R:=(· < ·)) (fun x y h1 h2=>by omega) ((List.perm_ext_iff_of_nodup (h1.imp fun h=>by omega) (h2.imp fun h=>by omega)).2 h) h1 h2
theorem compact_sorted (l:List Int) (hs:l.Pairwise (· ≤ ·)):(Lib.compact l).Pairwise (· < ·) ∧ ∀ x,x ∈ Lib.compact l ↔ x ∈ l:=by
 have hget:∀ j (h:j < l.length),l.toArray[j]! = l[j]:=fun j h=>by simp [h]
 have key:∀ m,m ≤ l.length → (Lib.compactUpTo l.toArray m).Pairwise (· < ·) ∧ ∀ x,x ∈ Lib.compactUpTo l.toArray m ↔ ∃ j,j < m ∧ l[j]? = some x:=by
  intro m
  induction m with
  | zero=>intro _; simp [Lib.compactUpTo]
  | succ m ih =>
   intro hm
   obtain ⟨h1,h2⟩:=ih (by omega)
   have hmg:=hget m (by omega)
   rw [Lib.compactUpTo_succ]
   have hmem:∀ x,(∃ j,j < m + 1 ∧ l[j]? = some x) ↔ (∃ j,j < m ∧ l[j]? = some x) ∨ x = l[m]:=by
    intro x
    constructor
    · rintro ⟨j,hj,hx⟩
      by_cases e:j = m
      · subst e
        rw [List.getElem?_eq_getElem (by omega)] at hx
        exact .inr (Option.some.inj hx).symm
      · exact .inl ⟨j,by omega,hx⟩
    · rintro (⟨j,hj,hx⟩ | e)
      · exact ⟨j,by omega,hx⟩
      · exact ⟨m,by omega,by rw [e,List.getElem?_eq_getElem]⟩
   by_cases hk:m = 0 ∨ l.toArray[m]! ≠ l.toArray[m - 1]!
   · have hk':Lib.keeps l.toArray m = true:=by simpa [Lib.keeps] using hk
     rw [hk',if_pos rfl,hmg]
     refine ⟨List.pairwise_append.2 ⟨h1,by simp,?_⟩,?_⟩
     · intro x hx y hy
       simp only [List.mem_singleton] at hy
       subst hy
       obtain ⟨j,hj,hxj⟩:=(h2 x).1 hx
       have hm0:m ≠ 0:=by omega
       have hne:l[m] ≠ l[m - 1]:=by
        rcases hk with hk | hk
        · exact absurd hk hm0
        · rw [hget m (by omega),hget (m - 1) (by omega)] at hk; exact hk
       have hx':x = l[j]:=by rw [List.getElem?_eq_getElem (by omega)] at hxj; exact (Option.some.inj hxj).symm
       have hp:=List.pairwise_iff_getElem.1 hs
       have c1:l[m - 1] ≤ l[m]:=hp (m - 1) m (by omega) (by omega) (by omega)
       have c2:l[j] ≤ l[m - 1]:=by
        by_cases e:j = m - 1
        · subst e; exact Int.le_refl _
        · exact hp j (m - 1) (by omega) (by omega) (by omega)
       omega
     · intro x
       rw [List.mem_append,h2,hmem]
       simp
   · have hk':Lib.keeps l.toArray m = false:=by simpa [Lib.keeps] using hk
     rw [hk']
     simp only [Bool.false_eq_true,if_false,List.append_nil]
     refine ⟨h1,fun x=>?_⟩
     rw [h2,hmem]
     have hm0:m ≠ 0:=fun e=>hk (.inl e)
     have he:l[m] = l[m - 1]:=by
      have:¬ (l.toArray[m]! ≠ l.toArray[m - 1]!):=fun h=>hk (.inr h)
      rw [hget m (by omega),hget (m - 1) (by omega)] at this
      exact Classical.not_not.1 this
     constructor
     · exact .inl
     · rintro (h | h)
       · exact h
       · exact ⟨m - 1,by omega,by rw [List.getElem?_eq_getElem (by omega),h,he]⟩
 obtain ⟨h1,h2⟩:=key l.length (Nat.le_refl _)
 refine ⟨h1,fun x=>?_⟩
 have:=h2 x
 unfold Lib.compact
 rw [this,List.mem_iff_getElem?]
 constructor
 · rintro ⟨j,_,h⟩; exact ⟨j,h⟩
 · rintro ⟨j,h⟩; exact ⟨j,(List.getElem?_eq_some_iff.1 h).1,h⟩
def mutB (p:List Pair) (a b:Int):Bool:=besB p a b && besB p b a
def prsM (r:Request):List Int:=bif clsM r == 0 then (ints 0 4).filter fun c=>r.fItems.any fun x=>x.fClass == c else []
def fstI {α:Type} (g:α → Bool):List α → Option Nat
 | []=>none
 | x :: xs=>bif g x then some 0 else (fstI g xs).map (· + 1)
def putG (p:List Pair) (out:List (List Int)) (c:Int):List (List Int) :=
 match fstI (fun g=>g.all (mutB p c)) out with
 | some i=>out.set i ((out[i]?.getD []) ++ [c])
 | none=>out ++ [[c]]
def grpM (r:Request):List (List Int):=(prsM r).foldl (putG r.fPairs) []
def grmM (r:Request) (us:List Int):Int:=sumI ((itsM r us).map (·.fGram))
theorem prsM_sorted (r:Request):(prsM r).Pairwise (· < ·):=by
 unfold prsM
 cases clsM r == 0
 · exact List.Pairwise.nil
 · rw [cond_true]; exact (ints_lt 0 4).filter _
theorem prsM_mem {r:Request} {c:Int} (h:c ∈ prsM r):0 ≤ c ∧ c < 4:=by
 unfold prsM at h
 cases hc:clsM r == 0
 · simp [hc] at h
 · simp only [hc,cond_true] at h
   have:=ints_mem.1 (List.mem_filter.1 h).1
   omega
theorem prsM_len (r:Request):(prsM r).length ≤ 4:=by
 unfold prsM
 cases clsM r == 0
 · simp
 · exact Nat.le_trans (List.length_filter_le _ _) (by simp [ints])
theorem fstI_lt {α:Type} {g:α → Bool}:∀ {l:List α} {i:Nat},fstI g l = some i → ∃ x,l[i]? = some x ∧ g x = true
 | [],i,h=>by simp [fstI] at h
 | x :: xs,i,h=>by
  unfold fstI at h
  cases hx:g x
  · simp only [hx,cond_false,Option.map_eq_some_iff] at h
    obtain ⟨j,hj,rfl⟩:=h
    simpa using fstI_lt hj
  · simp only [hx,cond_true,Option.some.injEq] at h
    subst h
    exact ⟨x,rfl,hx⟩
theorem fstI_none {α:Type} {g:α → Bool}:∀ {l:List α},fstI g l = none → ∀ x ∈ l,g x = false
 | [],_,x,hx=>by simp at hx
 | y :: ys,h,x,hx=>by
  unfold fstI at h
  cases hy:g y
  · simp only [hy,cond_false,Option.map_eq_none_iff] at h
    rcases List.mem_cons.1 hx with e | hx
    · subst e; exact hy
    · exact fstI_none h x hx
  · simp [hy] at h
def okG (n:Nat) (out:List (List Int)):Prop:=out.length ≤ n ∧ ∀ g ∈ out,g.length ≤ n
theorem putG_ok {p:List Pair} {out:List (List Int)} {n:Nat} (c:Int) (h:okG n out):okG (n + 1) (putG p out c):=by
 obtain ⟨h1,h2⟩:=h
 unfold putG
 split
 · rename_i i hi
   obtain ⟨x,hx,_⟩:=fstI_lt hi
   refine ⟨by simp; omega,fun g hg=>?_⟩
   rcases List.mem_or_eq_of_mem_set hg with hg | hg
   · have:=h2 g hg; omega
   · subst hg
     rw [hx]
     have:=h2 x (List.mem_of_getElem? hx)
     simp; omega
 · refine ⟨by simp; omega,fun g hg=>?_⟩
   rcases List.mem_append.1 hg with hg | hg
   · have:=h2 g hg; omega
   · simp at hg; subst hg; simp
theorem foldG_ok {p:List Pair}:∀ (l:List Int) {out:List (List Int)} {n:Nat},okG n out → okG (n + l.length) (l.foldl (putG p) out)
 | [],_,_,h=>h
 | c :: l,out,n,h=>by
  have:=foldG_ok (p:=p) l (putG_ok (p:=p) c h)
  simp only [List.foldl_cons,List.length_cons]
  rw [show n + (l.length + 1) = n + 1 + l.length by omega]
  exact this
theorem grpM_ok (r:Request):okG 4 (grpM r):=by
 have h:=foldG_ok (p:=r.fPairs) (prsM r) (out:=[]) (n:=0) ⟨by simp,by simp⟩
 have hl:=prsM_len r
 unfold okG at h
 exact ⟨by have:=h.1; unfold grpM; omega,fun g hg=>by have:=h.2 g hg; omega⟩
theorem grm_mem {r:Request} {us:List Int} {x:Item} (h:x ∈ itsM r us):0 ≤ x.fGram ∧ x.fGram ≤ 100000:=by
 unfold itsM at h
 obtain ⟨u,_,hu⟩:=List.mem_filterMap.1 h
 unfold itmM at hu
 obtain ⟨i,hi,hx⟩:=obind_some hu
 have hm:=ix_mem hi
 unfold untM at hm
 cases hc:clsM r == 0
 · simp [hc] at hm
 · have:=(bou_items (clsM_zero (by simpa using hc)).1).1 x (ix_mem hx)
   simp only [itmB,Bool.and_eq_true,inb_iff] at this
   omega
theorem grmM_bd (r:Request) (us:List Int):0 ≤ grmM r us ∧ grmM r us ≤ 100000 * us.length:=by
 refine ⟨sumI_nn _ _ fun x hx=>(grm_mem hx).1,?_⟩
 have h1:=sumI_le (fun x:Item=>x.fGram) (itsM r us) 100000 fun x hx=>(grm_mem hx).2
 have h2:=itsM_len r us
 unfold grmM
 omega
end Go.Proofs.YtpcmapfabndggaaGreatDoor
