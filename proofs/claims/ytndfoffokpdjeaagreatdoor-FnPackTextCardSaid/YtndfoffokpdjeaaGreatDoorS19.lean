/- Append of a part of .. -/
import Derived.Test.YtndfoffokpdjeaaGreatDoorS16
set_option linter.unusedSimpArgs false
set_option linter.unusedVariables false
namespace Go.Proofs.YtndfoffokpdjeaaGreatDoor
open Go Go.RowKit
open Enc (rd ow)
def Win (sz:Nat) (v:Value) (lo m:Nat) (v':Value):Prop:=∃ ao' cap',v'=.slice ao' m cap'∧∀ g off n cap,v=.slice (some ⟨g,off,none⟩) n cap→0<m→ao'=some ⟨g,off+lo*sz,none⟩
section
variable {α:Type} [Enc α]
end
section
variable {P:Program} {ops:Array Oper} {Q:Exit→Act→World→Prop} {rest:List Oper} {o:Oper} {a:Act} {w:World} {N:Nat} {L:List (Nat×Value)}
variable {X:List Nat} {w0:World} {M:List (List Nat×World)} {d:Nat}
theorem St.tail {p:List Nat×World} (h:St X w0 w (p::M)):St X w0 w M:=by
 have hs:∀ b∈fps M,b∈fps (p::M):=λb hb=>by simp only [fps,List.flatMap_cons]; exact List.mem_append_right _ hb
 refine ⟨h.ext,λq hq=>h.ok q (List.mem_cons_of_mem _ hq),λb hb=>h.lt b (hs b hb),λb hb=>h.lo b (hs b hb),?_⟩
 have:=h.nd
 simp only [fps,List.flatMap_cons] at this
 exact (List.nodup_append.1 this).2.1
theorem Ja7 {α:Type} [Enc α] {u:World} {F:List Nat} {v:Value} {xs ys:List α} {lo:Int} (hf:rd u F [v] xs) (hx:sls xs lo xs.length=some ys) {t:TypeId} (hu:TS P t (Enc.sz α)) :
    ∃ v',rd u F [v'] ys∧Win (Enc.sz α) v lo.toNat ys.length v'∧∀ {N:Nat} {L:List (Nat×Value)} {a:Act} {o:Oper} {x i:Operand} {k:IntKind},K N L a→o.op=.slice t x (some i) none none→ev L x=some v→ev L i=some (.int k lo)→∀ w:World,(execOp a.eval o).run P w=.ok (.value v') w:=by
 obtain ⟨ao,cap,rfl,h1,h2⟩:=Ql4 hf
 obtain ⟨e,hu,hs⟩:=hu
 have hr:=Qxj hf hx
 have hx0:=hx
 unfold sls at hx
 split at hx
 · rename_i h0
   have hyl:ys.length=(xs.length:Int).toNat - lo.toNat:=by
    simp only [Option.some.injEq] at hx
    subst hx; simp
   refine ⟨_,by simpa using hr,?_,?_⟩
   · rw [hyl]
     refine ⟨_,_,rfl,λg off n cap' he hm=>?_⟩
     injection he with e1 e2 e3
     subst e1; subst e3
     rw [if_neg (by omega)]
     simp only [Option.map_some,Addr.add]
     by_cases hl:lo.toNat*Enc.sz α=0 <;> simp [hl]
   · intro N L a o x i k hK ho hv hi' w
     have c2:0≤lo∧lo≤(xs.length:Int):=by omega
     simp [execOp,ho,Instr.sliceAt,Instr.slice,Instr.sliceBounds,Instr.sliceBound,hK.ev hv,hK.ev hi',run_underlying hu,asIntOf,c2,hs]
 · simp at hx
theorem Jid {α:Type} [Enc α] {u:World} {F:List Nat} {v:Value} {xs ys:List α} {hi:Int} (hf:rd u F [v] xs) (hx:sls xs 0 hi=some ys) {t:TypeId} (hu:TS P t (Enc.sz α)) :
    ∃ v',rd u F [v'] ys∧Win (Enc.sz α) v 0 ys.length v'∧∀ {N:Nat} {L:List (Nat×Value)} {a:Act} {o:Oper} {x j:Operand} {k:IntKind},K N L a→o.op=.slice t x none (some j) none→ev L x=some v→ev L j=some (.int k hi)→∀ w:World,(execOp a.eval o).run P w=.ok (.value v') w:=by
 obtain ⟨ao,cap,rfl,h1,h2⟩:=Ql4 hf
 obtain ⟨e,hu,hs⟩:=hu
 have hr:=Qxj hf hx
 unfold sls at hx
 split at hx
 · rename_i h0
   have hyl:ys.length=hi.toNat:=by
    simp only [Option.some.injEq] at hx
    subst hx; simp; omega
   refine ⟨.slice (if cap=0 then ao else ao) hi.toNat cap,?_,?_,?_⟩
   · have e:(if cap=(0:Int).toNat then ao else ao.map (·.add ((0:Int).toNat*Enc.sz α)))=(if cap=0 then ao else ao):=by
       by_cases hc:cap=0
       · simp [hc]
       · cases ao with
         | none=>simp [hc]
         | some p=>simp [hc,Addr.add]
     rw [e] at hr
     simpa using hr
   · rw [hyl]
     refine ⟨_,_,rfl,λg off n cap' he hm=>?_⟩
     injection he with e1 e2 e3
     subst e1
     simp
   · intro N L a o x j k hK ho hv hj w
     have c1:0≤hi∧hi≤(cap:Int):=by omega
     simp [execOp,ho,Instr.sliceAt,Instr.slice,Instr.sliceBounds,Instr.sliceBound,hK.ev hv,hK.ev hj,run_underlying hu,asIntOf,c1,hs]
     intro _
     cases ao <;> simp [Addr.add]
 · simp at hx
structure Raw (n:Nat) where
 l:List Value
 len:l.length=n
 one:∀ c∈l,c.oneCell'=true
instance (n:Nat):Flat (Raw n):=⟨n,Raw.l,Raw.len,Raw.one⟩
end
end Go.Proofs.YtndfoffokpdjeaaGreatDoor
