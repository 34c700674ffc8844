/- Kinds, groups, the units of a group, weights, as plain functions. Own text; no program in sight. -/
import Derived.Test.YthddjkokpfdbnaaGreatM1
set_option linter.unusedSimpArgs false
set_option linter.unusedVariables false
namespace Go.Proofs.YthddjkokpfdbnaaGreat
open Go
open Enc (rd ow)
open Arg (argv)
open Ret (retv)
open Wf (wf)
def mutB (p:List Pair) (a b:Int):Bool:=besB p a b && besB p b a
def grmM (r:Request) (us:List Int):Int:=sumI ((itsM r us).map (·.fGram))
theorem grm_mem {r:Request} {us:List Int} {x:Item} (h:x ∈ itsM r us):0 ≤ x.fGram ∧ x.fGram ≤ 100000:=by
 unfold itsM at h
 obtain ⟨u,_,hu⟩:=List.mem_filterMap.1 h
 unfold itmM at hu
 obtain ⟨i,hi,hx⟩:=obind_some hu
 have hm:=ix_mem hi
 unfold untM at hm
 cases hc:clsM r == 0
 · simp [hc] at hm
 · have:=(bou_items (clsM_zero (by simpa using hc)).1).1 x (ix_mem hx)
   simp only [itmB,Bool.and_eq_true,inb_iff] at this
   omega
theorem grmM_bd (r:Request) (us:List Int):0 ≤ grmM r us ∧ grmM r us ≤ 100000 * us.length:=by
 refine ⟨sumI_nn _ _ fun x hx=>(grm_mem hx).1,?_⟩
 have h1:=sumI_le (fun x:Item=>x.fGram) (itsM r us) 100000 fun x hx=>(grm_mem hx).2
 have h2:=itsM_len r us
 unfold grmM
 omega
end Go.Proofs.YthddjkokpfdbnaaGreat
