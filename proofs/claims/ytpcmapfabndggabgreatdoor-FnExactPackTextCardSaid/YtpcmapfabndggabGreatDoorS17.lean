/- Regions that draw th.. -/
import Derived.Test.YtpcmapfabndggabGreatDoorS16
set_option linter.unusedSimpArgs false
set_option linter.unusedVariables false
namespace Go.Proofs.YtpcmapfabndggabGreatDoor
open Go Go.RowKit
open Enc (rd ow)
section
variable {P:Program} {ops:Array Oper} {Q:Exit→Act→World→Prop} {rest:List Oper} {o:Oper} {a:Act} {w:World} {N:Nat} {L:List (Nat×Value)}
variable {X:List Nat} {w0:World} {M:List (List Nat×World)} {d:Nat} {S:World→Prop} {fuel:Nat} {listed:Array Bool} {z:Nat}
theorem Qxm {α:Type} [Flat α] {w:World}:∀ (k:Nat) {Gs:List (List Nat)} {cells:List Value} {xs:List α},owL w Gs cells xs→k≤xs.length→owL w (Gs.drop k) (cells.drop (k*Enc.sz α)) (xs.drop k)
 | 0,Gs,cells,xs,h,_=>by simpa using h
 | k+1,G::Gs,cells,x::xs,⟨_,h⟩,hk=>by
  have:=Qxm k h (by simpa using hk)
  rw [List.drop_drop] at this
  simpa [Nat.add_mul,Nat.add_comm] using this
 | k+1,[],_,[],h,hk=>by simp at hk
 | k+1,[],_,_::_,h,_=>h.elim
 | k+1,_::_,_,[],h,_=>h.elim
theorem Q3s {α:Type} [Flat α] {w:World}:∀ {Gs:List (List Nat)} {cells:List Value} {xs:List α},owL w Gs cells xs→Gs.flatten=[]
 | [],_,[],_=>rfl
 | G::Gs,cells,x::xs,⟨h,h'⟩=>by
  have h0:G=[]:=h.1
  rw [List.flatten_cons,h0,Q3s h']; rfl
 | [],_,_::_,h=>h.elim
 | _::_,_,[],h=>h.elim
theorem Q8u {α:Type} [Flat α] {u:World} {F:List Nat} {v:Value} {xs ys:List α} {lo:Int} {k:IntKind} (hf:ow u F [v] xs) (hx:sls xs lo xs.length=some ys) (hK:K N L a) {t:TypeId} (hu:TS P t (Enc.sz α)) {x i:Operand}
    (hg:gd L ops o.guard=some true) (hd:o.dst=some d) (hN:Nat.blt d N=true)
    (ho:o.op=.slice t x (some i) none none) (hv:ev L x=some v) (hi':ev L i=some (.int k lo))
    (h:∀ v' a,K N ((d,v')::L) a→ow u F [v'] ys→wpList P ops Q rest a w):wpList P ops Q (o::rest) a w:=by
 obtain ⟨ao,cap,rfl,h1,h2⟩:=Qrz (Enc.ow_rd hf)
 obtain ⟨e,hu,hs⟩:=hu
 have hx0:=hx
 unfold sls at hx
 split at hx
 · rename_i h0
   simp only [Option.some.injEq] at hx
   have hr:ow u F [.slice (if cap=lo.toNat then ao else ao.map (·.add (lo.toNat*Enc.sz α))) ((xs.length:Int).toNat - lo.toNat) (cap - lo.toNat)] ys:=by
    subst hx
    rcases hf with ⟨hq,rfl,rfl⟩ | ⟨g,off,cap',c,e',Gs,hq,e1,e2,e3,e4,e5,rfl,e6⟩
    · simp only [List.cons.injEq,Value.slice.injEq,and_true] at hq
      obtain ⟨rfl,_,rfl⟩:=hq
      refine .inl ⟨?_,by simp,rfl⟩
      simp
    · simp only [List.cons.injEq,Value.slice.injEq,and_true,true_and] at hq
      obtain ⟨rfl,rfl⟩:=hq
      have hlen:((xs.drop lo.toNat).take ((xs.length:Int).toNat - lo.toNat))=xs.drop lo.toNat:=by
       apply List.take_of_length_le; simp
      rw [hlen]
      have hll:(xs.drop lo.toNat).length=(xs.length:Int).toNat - lo.toNat:=by simp
      have hle:lo.toNat≤xs.length:=by omega
      have hGd:(Gs.drop lo.toNat).flatten=[]:=Q3s (Qxm lo.toNat e5 hle)
      have hG0:Gs.flatten=[]:=Q3s e5
      by_cases hc:cap=lo.toNat
      · refine .inr ⟨g,off,cap - lo.toNat,c,e',Gs.drop lo.toNat,?_,by rw [hll]; omega,by omega,e3,?_,?_,by rw [hGd,hG0],e6⟩
        · rw [if_pos hc,hll]
        · rw [Nat.sub_mul]; omega
        · have hz:xs.drop lo.toNat=[]:=List.drop_of_length_le (by omega)
          have:=Qxm lo.toNat e5 hle
          rw [hz] at this ⊢
          rw [List.drop_take,show xs.length*Enc.sz α - lo.toNat*Enc.sz α=0 by rw [show xs.length=lo.toNat by omega]; simp] at this
          simpa using this
      · refine .inr ⟨g,off+lo.toNat*Enc.sz α,cap - lo.toNat,c,e',Gs.drop lo.toNat,?_,by rw [hll]; omega,by omega,e3,?_,?_,by rw [hGd,hG0],e6⟩
        · rw [if_neg hc,hll]; simp [Qhn]
        · have:lo.toNat*Enc.sz α≤cap*Enc.sz α:=Nat.mul_le_mul_right _ (by omega)
          rw [Nat.sub_mul]; omega
        · have:=Qxm lo.toNat e5 hle
          rw [List.drop_take,List.drop_drop] at this
          rw [hll,show ((xs.length:Int).toNat - lo.toNat)*Enc.sz α=xs.length*Enc.sz α - lo.toNat*Enc.sz α by rw [Nat.sub_mul]; simp]
          exact this
   refine Qud hK hg hd hN ?_ λa hK=>h _ a hK hr
   have c2:0≤lo∧lo≤(xs.length:Int):=by omega
   simp [execOp,ho,Instr.sliceAt,Instr.slice,Instr.sliceBounds,Instr.sliceBound,hK.ev hv,hK.ev hi',run_underlying hu,asIntOf,c2,hs]
 · simp at hx
end
end Go.Proofs.YtpcmapfabndggabGreatDoor
