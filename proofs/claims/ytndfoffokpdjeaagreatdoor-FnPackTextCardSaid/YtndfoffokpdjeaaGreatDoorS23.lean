/- A literal of one ele.. -/
import Derived.Test.YtndfoffokpdjeaaGreatDoorS17
set_option linter.unusedSimpArgs false
set_option linter.unusedVariables false
namespace Go.Proofs.YtndfoffokpdjeaaGreatDoor
open Go Go.RowKit
open Enc (rd ow)
theorem Jky {α:Type} [Enc α] {w:World} {g:Nat} {cs:List Value} {e:TypeId} (h:bx w g cs e) {y:α} {F:List Nat} (hy:rd w F cs y) :
    rd w (g::F) [.slice (some ⟨g,0,none⟩) 1 1] [y]:=by
 have hl:=Enc.rd_sz hy
 refine ⟨_,1,rfl,Nat.le_refl _,by simp [maxLen],λb hb=>?_,.inr ⟨g,0,_,e,(0,0),rfl,by simp,h,⟨F,λb hb=>List.mem_cons_of_mem _ hb,?_⟩,trivial⟩⟩
 · rcases List.mem_cons.1 hb with rfl | hb
   · exact Qgt h
   · exact Enc.rd_lt hy b hb
 · simp only [List.drop_zero]
   rw [← hl,List.take_length]
   exact hy
theorem Jd0 {α:Type} [Flat α] {P:Program} {u:World} {F:List Nat} {v:Value} {xs ys:List α} {lo:Int} (hf:ow u F [v] xs) (hx:sls xs lo xs.length=some ys) {t:TypeId} (hu:TS P t (Enc.sz α)) :
    ∃ v',ow u F [v'] ys∧∀ {N:Nat} {L:List (Nat×Value)} {a:Act} {o:Oper} {x i:Operand} {k:IntKind},K N L a→o.op=.slice t x (some i) none none→ev L x=some v→ev L i=some (.int k lo)→∀ w:World,(execOp a.eval o).run P w=.ok (.value v') w:=by
 obtain ⟨ao,cap,rfl,h1,h2⟩:=Ql4 (Enc.ow_rd hf)
 obtain ⟨e,hu,hs⟩:=hu
 unfold sls at hx
 split at hx
 · rename_i h0
   simp only [Option.some.injEq] at hx
   have hr:ow u F [.slice (if cap=lo.toNat then ao else ao.map (·.add (lo.toNat*Enc.sz α))) ((xs.length:Int).toNat - lo.toNat) (cap - lo.toNat)] ys:=by
    subst hx
    rcases hf with ⟨hq,rfl,rfl⟩ | ⟨g,off,cap',c,e',Gs,hq,e1,e2,e3,e4,e5,rfl,e6⟩
    · simp only [List.cons.injEq,Value.slice.injEq,and_true] at hq
      obtain ⟨rfl,_,rfl⟩:=hq
      refine .inl ⟨?_,by simp,rfl⟩
      simp
    · simp only [List.cons.injEq,Value.slice.injEq,and_true,true_and] at hq
      obtain ⟨rfl,rfl⟩:=hq
      have hlen:((xs.drop lo.toNat).take ((xs.length:Int).toNat - lo.toNat))=xs.drop lo.toNat:=by
       apply List.take_of_length_le; simp
      rw [hlen]
      have hll:(xs.drop lo.toNat).length=(xs.length:Int).toNat - lo.toNat:=by simp
      have hle:lo.toNat≤xs.length:=by omega
      have hGd:(Gs.drop lo.toNat).flatten=[]:=Qy6 (Quj lo.toNat e5 hle)
      have hG0:Gs.flatten=[]:=Qy6 e5
      by_cases hc:cap=lo.toNat
      · refine .inr ⟨g,off,cap - lo.toNat,c,e',Gs.drop lo.toNat,?_,by rw [hll]; omega,by omega,e3,?_,?_,by rw [hGd,hG0],e6⟩
        · rw [if_pos hc,hll]
        · rw [Nat.sub_mul]; omega
        · have hz:xs.drop lo.toNat=[]:=List.drop_of_length_le (by omega)
          have:=Quj lo.toNat e5 hle
          rw [hz] at this ⊢
          rw [List.drop_take,show xs.length*Enc.sz α - lo.toNat*Enc.sz α=0 by rw [show xs.length=lo.toNat by omega]; simp] at this
          simpa using this
      · refine .inr ⟨g,off+lo.toNat*Enc.sz α,cap - lo.toNat,c,e',Gs.drop lo.toNat,?_,by rw [hll]; omega,by omega,e3,?_,?_,by rw [hGd,hG0],e6⟩
        · rw [if_neg hc,hll]; simp [Qgk]
        · have:lo.toNat*Enc.sz α≤cap*Enc.sz α:=Nat.mul_le_mul_right _ (by omega)
          rw [Nat.sub_mul]; omega
        · have:=Quj lo.toNat e5 hle
          rw [List.drop_take,List.drop_drop] at this
          rw [hll,show ((xs.length:Int).toNat - lo.toNat)*Enc.sz α=xs.length*Enc.sz α - lo.toNat*Enc.sz α by rw [Nat.sub_mul]; simp]
          exact this
   refine ⟨_,hr,fun {N L a o x i k} hK ho hv hi' w=>?_⟩
   have c2:0≤lo∧lo≤(xs.length:Int):=by omega
   simp [execOp,ho,Instr.sliceAt,Instr.slice,Instr.sliceBounds,Instr.sliceBound,hK.ev hv,hK.ev hi',run_underlying hu,asIntOf,c2,hs]
 · simp at hx
end Go.Proofs.YtndfoffokpdjeaaGreatDoor
