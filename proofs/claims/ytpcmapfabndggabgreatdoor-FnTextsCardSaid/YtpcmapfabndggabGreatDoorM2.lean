/- Kinds, groups, the units of a group, weights, as plain functions. Own text; no program in sight. -/
import Derived.Test.YtpcmapfabndggabGreatDoorM1
set_option linter.unusedSimpArgs false
set_option linter.unusedVariables false
namespace Go.Proofs.YtpcmapfabndggabGreatDoor
open Go
open Enc (rd ow)
open Arg (argv)
open Ret (retv)
open Wf (wf)
theorem lt_ext {a b:List Int} (h1:a.Pairwise (· < ·)) (h2:b.Pairwise (· < ·)) (h:∀ x,x ∈ a ↔ x ∈ b):a = b :=
 uniq_sorted (R:=(· < ·)) (fun x y h1 h2=>by omega) ((List.perm_ext_iff_of_nodup (h1.imp fun h=>by omega) (h2.imp fun h=>by omega)).2 h) h1 h2
def mutB (p:List Pair) (a b:Int):Bool:=besB p a b && besB p b a
theorem mutB_comm (p:List Pair) (a b:Int):mutB p a b = mutB p b a:=by unfold mutB; exact Bool.and_comm _ _
def prsM (r:Request):List Int:=bif clsM r == 0 then (ints 0 4).filter fun c=>r.fItems.any fun x=>x.fClass == c else []
def fstI {α:Type} (g:α → Bool):List α → Option Nat
 | []=>none
 | x :: xs=>bif g x then some 0 else (fstI g xs).map (· + 1)
def putG (p:List Pair) (out:List (List Int)) (c:Int):List (List Int) :=
 match fstI (fun g=>g.all (mutB p c)) out with
 | some i=>out.set i ((out[i]?.getD []) ++ [c])
 | none=>out ++ [[c]]
def grpM (r:Request):List (List Int):=(prsM r).foldl (putG r.fPairs) []
def ofG (r:Request) (g:List Int):Int → List Int → List Int
 | _,[]=>[]
 | u,i :: us=>bif (match ix r.fItems i with | some x=>g.contains x.fClass | none=>false) then u :: ofG r g (u + 1) us else ofG r g (u + 1) us
def uofM (r:Request) (k:Int):List Int:=match ix (grpM r) k with | some g=>ofG r g 0 (untM r) | none=>[]
def grmM (r:Request) (us:List Int):Int:=sumI ((itsM r us).map (·.fGram))
theorem prsM_sorted (r:Request):(prsM r).Pairwise (· < ·):=by
 unfold prsM
 cases clsM r == 0
 · exact List.Pairwise.nil
 · rw [cond_true]; exact (ints_lt 0 4).filter _
theorem prsM_mem {r:Request} {c:Int} (h:c ∈ prsM r):0 ≤ c ∧ c < 4:=by
 unfold prsM at h
 cases hc:clsM r == 0
 · simp [hc] at h
 · simp only [hc,cond_true] at h
   have:=ints_mem.1 (List.mem_filter.1 h).1
   omega
theorem prsM_len (r:Request):(prsM r).length ≤ 4:=by
 unfold prsM
 cases clsM r == 0
 · simp
 · exact Nat.le_trans (List.length_filter_le _ _) (by simp [ints])
theorem fstI_lt {α:Type} {g:α → Bool}:∀ {l:List α} {i:Nat},fstI g l = some i → ∃ x,l[i]? = some x ∧ g x = true
 | [],i,h=>by simp [fstI] at h
 | x :: xs,i,h=>by
  unfold fstI at h
  cases hx:g x
  · simp only [hx,cond_false,Option.map_eq_some_iff] at h
    obtain ⟨j,hj,rfl⟩:=h
    simpa using fstI_lt hj
  · simp only [hx,cond_true,Option.some.injEq] at h
    subst h
    exact ⟨x,rfl,hx⟩
theorem fstI_none {α:Type} {g:α → Bool}:∀ {l:List α},fstI g l = none → ∀ x ∈ l,g x = false
 | [],_,x,hx=>by simp at hx
 | y :: ys,h,x,hx=>by
  unfold fstI at h
  cases hy:g y
  · simp only [hy,cond_false,Option.map_eq_none_iff] at h
    rcases List.mem_cons.1 hx with e | hx
    · subst e; exact hy
    · exact fstI_none h x hx
  · simp [hy] at h
def okG (n:Nat) (out:List (List Int)):Prop:=out.length ≤ n ∧ ∀ g ∈ out,g.length ≤ n
theorem putG_ok {p:List Pair} {out:List (List Int)} {n:Nat} (c:Int) (h:okG n out):okG (n + 1) (putG p out c):=by
 obtain ⟨h1,h2⟩:=h
 unfold putG
 split
 · rename_i i hi
   obtain ⟨x,hx,_⟩:=fstI_lt hi
   refine ⟨by simp; omega,fun g hg=>?_⟩
   rcases List.mem_or_eq_of_mem_set hg with hg | hg
   · have:=h2 g hg; omega
   · subst hg
     rw [hx]
     have:=h2 x (List.mem_of_getElem? hx)
     simp; omega
 · refine ⟨by simp; omega,fun g hg=>?_⟩
   rcases List.mem_append.1 hg with hg | hg
   · have:=h2 g hg; omega
   · simp at hg; subst hg; simp
theorem foldG_ok {p:List Pair}:∀ (l:List Int) {out:List (List Int)} {n:Nat},okG n out → okG (n + l.length) (l.foldl (putG p) out)
 | [],_,_,h=>h
 | c :: l,out,n,h=>by
  have:=foldG_ok (p:=p) l (putG_ok (p:=p) c h)
  simp only [List.foldl_cons,List.length_cons]
  rw [show n + (l.length + 1) = n + 1 + l.length by omega]
  exact this
theorem grpM_ok (r:Request):okG 4 (grpM r):=by
 have h:=foldG_ok (p:=r.fPairs) (prsM r) (out:=[]) (n:=0) ⟨by simp,by simp⟩
 have hl:=prsM_len r
 unfold okG at h
 exact ⟨by have:=h.1; unfold grpM; omega,fun g hg=>by have:=h.2 g hg; omega⟩
theorem ofG_len (r:Request) (g:List Int):∀ (us:List Int) (u:Int),(ofG r g u us).length ≤ us.length
 | [],_=>by simp [ofG]
 | i :: us,u=>by
  have:=ofG_len r g us (u + 1)
  unfold ofG
  generalize (match ix r.fItems i with | some x=>g.contains x.fClass | none=>false) = b
  cases b <;> simp <;> omega
theorem uofM_len (r:Request) (k:Int):(uofM r k).length ≤ 12:=by
 have:=untM_len r
 unfold uofM
 split
 · have:=ofG_len r ‹_› (untM r) 0; omega
 · simp
theorem grm_mem {r:Request} {us:List Int} {x:Item} (h:x ∈ itsM r us):0 ≤ x.fGram ∧ x.fGram ≤ 100000:=by
 unfold itsM at h
 obtain ⟨u,_,hu⟩:=List.mem_filterMap.1 h
 unfold itmM at hu
 obtain ⟨i,hi,hx⟩:=obind_some hu
 have hm:=ix_mem hi
 unfold untM at hm
 cases hc:clsM r == 0
 · simp [hc] at hm
 · have:=(bou_items (clsM_zero (by simpa using hc)).1).1 x (ix_mem hx)
   simp only [itmB,Bool.and_eq_true,inb_iff] at this
   omega
theorem grmM_bd (r:Request) (us:List Int):0 ≤ grmM r us ∧ grmM r us ≤ 100000 * us.length:=by
 refine ⟨sumI_nn _ _ fun x hx=>(grm_mem hx).1,?_⟩
 have h1:=sumI_le (fun x:Item=>x.fGram) (itsM r us) 100000 fun x hx=>(grm_mem hx).2
 have h2:=itsM_len r us
 unfold grmM
 omega
end Go.Proofs.YtpcmapfabndggabGreatDoor
