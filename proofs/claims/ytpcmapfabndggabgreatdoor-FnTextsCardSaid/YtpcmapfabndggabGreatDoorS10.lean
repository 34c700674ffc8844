/- The builtin copy of ints into a part of a row of the call's own. Own lemmas, over any program. -/
import Derived.Test.YtpcmapfabndggabGreatDoorS8
import Derived.Laws.CopyRow
import Derived.Laws.IdiomCopy
set_option linter.unusedSimpArgs false
set_option linter.unusedVariables false
namespace Go.Proofs.YtpcmapfabndggabGreatDoor
open Go Go.RowKit
open Enc (rd ow)
open Arg (argv)
open Ret (retv)
section
variable {P:Program} {ops:Array Oper} {Q:Exit → Act → World → Prop} {rest:List Oper} {o:Oper} {a:Act} {w:World} {N:Nat} {L:List (Nat × Value)}
variable {X:List Nat} {w0:World} {M:List (List Nat × World)} {d:Nat}
def Part (v:Value) (lo:Nat) (v':Value):Prop:=∀ ao n cap,v = .slice ao n cap → ∃ ao',v' = .slice ao' (n - lo) (cap - lo) ∧ ∀ g off,lo < n → ao = some ⟨g,off,none⟩ → ao' = some ⟨g,off + lo,none⟩
theorem Part.self (v:Value):Part v 0 v:=fun ao n cap h=>⟨ao,by simpa using h,fun g off _ h=>by simpa using h⟩
theorem sl_from {u:World} {F:List Nat} {v:Value} {xs ys:List Int} {lo:Int} (hf:rd u F [v] xs) (hx:sls xs lo xs.length = some ys) {t:TypeId} (hu:TS P t (Enc.sz Int)) :
    ∃ v',rd u F [v'] ys ∧ Part v lo.toNat v' ∧ ∀ {N:Nat} {L:List (Nat × Value)} {a:Act} {o:Oper} {x i:Operand} {k:IntKind},K N L a → o.op = .slice t x (some i) none none → ev L x = some v → ev L i = some (.int k lo) → ∀ w:World,(execOp a.eval o).run P w = .ok (.value v') w:=by
 obtain ⟨ao,cap,rfl,h1,h2⟩:=rd_slice hf
 obtain ⟨e,hu,hs⟩:=hu
 have hr:=rd_sls hf hx
 unfold sls at hx
 split at hx
 · rename_i h0
   refine ⟨_,by simpa using hr,?_,?_⟩
   · intro ao' n cap' he
     injection he with e1 e2 e3
     subst e1; subst e2; subst e3
     refine ⟨_,rfl,fun g off hlt hao=>?_⟩
     subst hao
     have hsz:Enc.sz Int = 1:=rfl
     rw [if_neg (by omega)]
     simp only [Option.map_some,hsz,Nat.mul_one,Addr.add]
     by_cases hl:lo.toNat = 0 <;> simp [hl]
   · intro N L a o x i k hK ho hv hi' w
     have c2:0 ≤ lo ∧ lo ≤ (xs.length:Int):=by omega
     simp [execOp,ho,Instr.sliceAt,Instr.slice,Instr.sliceBounds,Instr.sliceBound,hK.ev hv,hK.ev hi',run_underlying hu,asIntOf,c2,hs]
 · simp at hx
end
end Go.Proofs.YtpcmapfabndggabGreatDoor
