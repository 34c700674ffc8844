/- Steps over operations that look into memory or the program's tables. Own lemmas, over any program. -/
import Derived.Test.YtcboeijpplllfaaGreatS2
set_option linter.unusedSimpArgs false
set_option linter.unusedVariables false
namespace Go.Proofs.YtcboeijpplllfaaGreat
open Go Go.RowKit
open Enc (rd ow)
def ix {α:Type} (xs:List α) (n:Int):Option α:=if 0 ≤ n then xs[n.toNat]? else none
theorem ix_some {α:Type} {xs:List α} {n:Int} {x:α} (h:ix xs n = some x):0 ≤ n ∧ n < xs.length ∧ xs[n.toNat]? = some x:=by
 unfold ix at h
 split at h
 · rename_i h0
   have:=(List.getElem?_eq_some_iff.1 h).1
   exact ⟨h0,by omega,h⟩
 · simp at h
section
variable {P:Program} {ops:Array Oper} {Q:Exit → Act → World → Prop} {rest:List Oper} {o:Oper} {a:Act} {w:World} {N:Nat} {L:List (Nat × Value)}
variable {X:List Nat} {w0:World} {M:List (List Nat × World)} {d:Nat}
theorem s_val (hK:K N L a) {v:Value} {w':World} (hg:gd L ops o.guard = some true) (hd:o.dst = some d) (hN:Nat.blt d N = true)
    (hr:(execOp a.eval o).run P w = .ok (.value v) w') (h:∀ a,K N ((d,v) :: L) a → wpList P ops Q rest a w'):wpList P ops Q (o :: rest) a w :=
 run_op hK hg hr fun K' hK'=>by rw [Oper.upon_value,hd]; exact hK' _ _ (h _ (hK.put d hN v))
theorem s_skip (hK:K N L a) {w':World} (hg:gd L ops o.guard = some true) (hd:o.dst = none)
    (hr:(execOp a.eval o).run P w = .ok .skip w') (h:∀ a,K N L a → wpList P ops Q rest a w'):wpList P ops Q (o :: rest) a w :=
 run_op hK hg hr fun K' hK'=>by rw [Oper.upon_skip,hd]; exact hK' _ _ (h _ hK)
theorem r_len {α:Type} [Enc α] {u:World} {F:List Nat} {v:Value} {xs:List α} (hf:rd u F [v] xs) (hK:K N L a) {t e:TypeId} (hu:P.underlying t = some (.slice e)) {x:Operand}
    (ho:o.op = .call { callee:=.builtin .len,args:=#[x],argTypes:=#[t] }) (hv:ev L x = some v) :
    (execOp a.eval o).run P w = .ok (.value (.int .i64 (xs.length:Int))) w:=by
 obtain ⟨ao,cap,rfl,_⟩:=rd_slice hf
 simp [execOp,ho,resolve,invoke,builtin,Builtin.len_,hK.ev hv,run_underlying hu,goInt]
theorem r_cv {k k':IntKind} {n:Int} (hK:K N L a) {s t:TypeId} (hs:P.underlying s = some (.int k)) (ht:P.underlying t = some (.int k')) {x:Operand}
    (ho:o.op = .convert s t x) (hv:ev L x = some (.int k n)) :
    (execOp a.eval o).run P w = .ok (.value (.int k' (k'.wrap n))) w:=by
 simp [execOp,ho,convert,hK.ev hv,run_underlying hs,run_underlying ht,Conv.intToInt]
theorem r_quo {k:IntKind} {x y:Int} (hy:y ≠ 0) (hK:K N L a) {t t':TypeId} {i j:Operand}
    (ho:o.op = .binOp .quo t i j t') (hv:ev L i = some (.int k x)) (hi:ev L j = some (.int k y)) :
    (execOp a.eval o).run P w = .ok (.value (.int k (k.wrap (x.tdiv y)))) w:=by
 simp [execOp,ho,hK.ev hv,hK.ev hi,eqGuard_int,binOp,Op.intDiv,hy]
theorem r_shr {k yk:IntKind} {x:Int} {y:Nat} (hK:K N L a) {t t':TypeId} {i j:Operand}
    (ho:o.op = .binOp .shr t i j t') (hv:ev L i = some (.int k x)) (hi:ev L j = some (.int yk (y:Int))) :
    (execOp a.eval o).run P w = .ok (.value (.int k (x.fdiv (2 ^ (min y k.bits))))) w:=by
 have h0:¬ ((y:Int) < 0):=by omega
 simp [execOp,ho,hK.ev hv,hK.ev hi,eqGuard,binOp,Op.shift,h0]
theorem eqGuard_bool (P:Program) (w:World) (op:BinOp) (t:TypeId) (x y:Operand) (a b:Bool) :
    (eqGuard op t x y (.bool a) (.bool b)).run P w = .ok () w:=by
 unfold eqGuard
 by_cases h:(!(op matches .eql | .neq)) = true <;> simp [h]
theorem equal_bool {t:TypeId} (hu:P.underlying t = some .bool) (x y:Bool):(Op.equal t (.bool x) (.bool y)).run P w = .ok (x == y) w:=by
 show (Op.equalIn (9999 + 1) t (.bool x) (.bool y)).run P w = _
 generalize 9999 = n
 simp only [Op.equalIn,Sem.run_bind,run_underlying hu w,Result.andThen_ok,Sem.run_pure]
theorem r_neb {x y:Bool} (hK:K N L a) {t t':TypeId} (hu:P.underlying t = some .bool) {i j:Operand}
    (ho:o.op = .binOp .neq t i j t') (hv:ev L i = some (.bool x)) (hi:ev L j = some (.bool y)) :
    (execOp a.eval o).run P w = .ok (.value (.bool (!(x == y)))) w:=by
 simp only [execOp,ho,hK.ev hv,hK.ev hi,Sem.run_bind,eqGuard_bool,Result.andThen_ok,binOp,equal_bool hu,Sem.run_pure]
theorem size_alloc_box (w:World) (cs:Array Value) (e:TypeId):∀ b ∈ [w.heap.size],w.heap.size ≤ b ∧ b < (w.alloc (.cells cs e)).heap.size:=by simp
theorem s_box {cs:List Value} {v:Value} (hM:St X w0 w M) (hK:K N L a) {e:TypeId} {x:Operand}
    (hg:gd L ops o.guard = some true) (hd:o.dst = some d) (hN:Nat.blt d N = true)
    (ho:o.op = .box e x) (hv:ev L x = some v) (hc:v.cells = cs.toArray)
    (h:∀ b w' a,K N ((d,.pointer (some ⟨b,0,none⟩)) :: L) a → St X w0 w' (([b],w') :: M) → Ext [] w w' → bx w' b cs e → wpList P ops Q rest a w'):wpList P ops Q (o :: rest) a w:=by
 refine s_val hK hg hd hN (v:=.pointer (some ⟨w.heap.size,0,none⟩)) (w':=w.alloc (.cells cs.toArray e)) ?_ fun a hK=>h _ _ a hK (hM.new (Ext.alloc _ _) _ (size_alloc_box _ _ _) (by simp)) (Ext.alloc _ _) (heap_alloc_new w _)
 simp [execOp,ho,hK.ev hv,Instr.box,newVar,newRow,hc]
theorem s_alloc {cs:List Value} {z:Value} (hM:St X w0 w M) (hK:K N L a) {e:TypeId} (hz:∀ w,(zeroValue e).run P w = .ok z w)
    (hg:gd L ops o.guard = some true) (hd:o.dst = some d) (hN:Nat.blt d N = true)
    (ho:o.op = .alloc e) (hc:z.cells = cs.toArray)
    (h:∀ b w' a,K N ((d,.pointer (some ⟨b,0,none⟩)) :: L) a → St X w0 w' (([b],w') :: M) → Ext [] w w' → bx w' b cs e → wpList P ops Q rest a w'):wpList P ops Q (o :: rest) a w:=by
 refine s_val hK hg hd hN (v:=.pointer (some ⟨w.heap.size,0,none⟩)) (w':=w.alloc (.cells cs.toArray e)) ?_ fun a hK=>h _ _ a hK (hM.new (Ext.alloc _ _) _ (size_alloc_box _ _ _) (by simp)) (Ext.alloc _ _) (heap_alloc_new w _)
 simp [execOp,ho,hz,Instr.alloc,newVar,newRow,hc]
def FA (P:Program) (t:TypeId) (f off:Nat):Prop:=∀ (w:World) (p:Addr),(Instr.fieldAt t (.pointer (some p)) f).run P w = .ok (.pointer (some (p.add off))) w
theorem fa_of {t:TypeId} {f off:Nat} {fs:Array Field} {fd:Field} {n:Nat} (hu:P.underlying t = some (.struct fs)) (hf:fs[f]? = some fd) (ho:fd.offset = off)
    (hs:∀ w,(sizeOf fd.type).run P w = .ok (n + 1) w):FA P t f off:=fun w p=>by
 subst ho
 simp [Instr.fieldAt,run_underlying hu,hf,Instr.sureAddr,fieldPlace,hs]
theorem r_fa {t:TypeId} {f off:Nat} (hF:FA P t f off) {p:Addr} (hK:K N L a) {x:Operand}
    (ho:o.op = .fieldAddr t x f) (hv:ev L x = some (.pointer (some p))) :
    (execOp a.eval o).run P w = .ok (.value (.pointer (some (p.add off)))) w:=by
 simp [execOp,ho,hK.ev hv,hF w p]
def T1 (P:Program) (t:TypeId):Prop:=(∀ w,(isAgg t).run P w = .ok false w) ∧ ∀ w,(sizeOf t).run P w = .ok 1 w
def TA (P:Program) (t n:Nat):Prop:=(∀ w,(isAgg t).run P w = .ok true w) ∧ ∀ w,(sizeOf t).run P w = .ok n w
theorem loadVar1 {t:TypeId} (hT:T1 P t) {p:Addr} {v:Value} {r:List Value} (h:PtAt w p (v :: r)):(loadVar t p).run P w = .ok v w:=by
 have:=h.cell 0 v rfl
 rw [show p.add 0 = p by simp [Addr.add]] at this
 simp [loadVar,hT.1,this]
theorem loadVarA {t n:Nat} (hT:TA P t n) {p:Addr} {cs:List Value} (h:PtAt w p cs) (hn:cs.length = n):(loadVar t p).run P w = .ok (.agg cs.toArray) w:=by
 have hl:=run_loadCells_list (P:=P) w p cs h.cell
 rw [hn] at hl
 simp [loadVar,hT.1,hT.2,hl]
theorem r_ld1 {t:TypeId} (hT:T1 P t) {p:Addr} {v:Value} {r:List Value} (hp:PtAt w p (v :: r)) (hK:K N L a) {x:Operand}
    (ho:o.op = .load t x) (hv:ev L x = some (.pointer (some p))) :
    (execOp a.eval o).run P w = .ok (.value (v)) w:=by
 simp [execOp,ho,hK.ev hv,Instr.loadAt,Instr.sureAddr,loadVar1 hT hp]
theorem r_ldA {t n:Nat} (hT:TA P t n) {p:Addr} {cs:List Value} (hp:PtAt w p cs) (hn:cs.length = n) (hK:K N L a) {x:Operand}
    (ho:o.op = .load t x) (hv:ev L x = some (.pointer (some p))) :
    (execOp a.eval o).run P w = .ok (.value (.agg cs.toArray)) w:=by
 simp [execOp,ho,hK.ev hv,Instr.loadAt,Instr.sureAddr,loadVarA hT hp hn]
theorem bx.at {u:World} {b:Nat} {cs:List Value} {e:TypeId} (hb:bx u b cs e) (hA:Agr [b] u w) (off n:Nat) {vs:List Value} (hv:(cs.drop off).take n = vs) (hl:vs.length = n) {p:Addr}
    (hp:p = (⟨b,0,none⟩:Addr).add off):PtAt w p vs:=by
 subst hv
 have hle:off + n ≤ cs.length ∨ n = 0:=by simp at hl; omega
 have h1:=(hb.agr hA (by simp)).pt
 subst hp
 rcases hle with hle | rfl
 · exact h1.fld off n hle
 · simp only [List.take_zero]
   exact ⟨b,0 + off,_,e,_,add_none _ _ _,hb.agr hA (by simp),by simp⟩
theorem r_ldb {t:TypeId} (hT:T1 P t) (hM:St X w0 w M) (i:Nat) {u:World} {b:Nat} {cs:List Value} {e:TypeId} (hb:bx u b cs e) (off:Nat) (hK:K N L a) {x:Operand} {p:Addr} {v:Value}
    (hi:M[i]? = some ([b],u))
    (ho:o.op = .load t x) (hv:ev L x = some (.pointer (some p))) (hp:p = (⟨b,0,none⟩:Addr).add off) (hc:cs[off]? = some v) :
    (execOp a.eval o).run P w = .ok (.value (v)) w :=
 r_ld1 hT (r:=[]) (hb.at (hM.a i hi) off 1 (by
  obtain ⟨h1,h2⟩:=List.getElem?_eq_some_iff.1 hc
  rw [List.drop_eq_getElem_cons h1,h2]; rfl) rfl hp) hK ho hv
theorem r_ldB {t n:Nat} (hT:TA P t n) (hM:St X w0 w M) (i:Nat) {u:World} {b:Nat} {cs:List Value} {e:TypeId} (hb:bx u b cs e) (off:Nat) (hK:K N L a) {x:Operand} {p:Addr} {vs:List Value}
    (hi:M[i]? = some ([b],u))
    (ho:o.op = .load t x) (hv:ev L x = some (.pointer (some p))) (hp:p = (⟨b,0,none⟩:Addr).add off) (hc:(cs.drop off).take n = vs) (hl:vs.length = n) :
    (execOp a.eval o).run P w = .ok (.value (.agg vs.toArray)) w :=
 r_ldA hT (hb.at (hM.a i hi) off n hc hl hp) hl hK ho hv
def TS (P:Program) (t sz:Nat):Prop:=∃ e,P.underlying t = some (.slice e) ∧ ∀ w,(sizeOf e).run P w = .ok sz w
theorem r_ixa {α:Type} [Enc α] {u:World} {F:List Nat} {v:Value} {xs:List α} (hf:rd u F [v] xs) {n:Int} {y:α} (hx:ix xs n = some y) (hK:K N L a) {t:TypeId} (hu:TS P t (Enc.sz α)) {x i:Operand} {k:IntKind}
    (ho:o.op = .indexAddr t x i) (hv:ev L x = some v) (hi:ev L i = some (.int k n)) :
    (execOp a.eval o).run P w = .ok (.value (.pointer (some (eAddr v (Enc.sz α) n.toNat)))) w:=by
 obtain ⟨h0,h1,h2⟩:=ix_some hx
 obtain ⟨e,hu,hs⟩:=hu
 obtain ⟨ao,cap,hvv,h3,h4,h5,h6⟩:=hf
 simp only [List.cons.injEq,and_true] at hvv
 subst hvv
 rcases h6 with rfl | ⟨g,off,c,e',fr,rfl,hgF,hh,hl⟩
 · simp at h2
 · simp [execOp,ho,hK.ev hv,hK.ev hi,Instr.indexAt,asIntOf,run_underlying hu,hs,h0,h1,eAddr]
theorem r_lde {α:Type} [Flat α] {u:World} {F:List Nat} {v:Value} {xs:List α} (hf:rd u F [v] xs) (hA:Agr F u w) {n:Int} {y:α} (hx:ix xs n = some y) {t:Nat} (hT:TA P t (Flat.sz α)) (hK:K N L a) {x:Operand}
    (ho:o.op = .load t x) (hv:ev L x = some (.pointer (some (eAddr v (Flat.sz α) n.toNat)))) :
    (execOp a.eval o).run P w = .ok (.value (.agg (Flat.e y).toArray)) w:=by
 obtain ⟨h1,h2⟩:=rd_getF hf (ix_some hx).2.2
 exact r_ldA hT (h1.agr hA h2) (Flat.len _) hK ho hv
theorem r_lde1 {α:Type} [Flat α] {u:World} {F:List Nat} {v:Value} {xs:List α} (hf:rd u F [v] xs) (hA:Agr F u w) {n:Int} {y:α} (hx:ix xs n = some y) (off:Nat) {t:Nat} (hT:T1 P t) (hK:K N L a) {x:Operand} {p:Addr} {c:Value}
    (ho:o.op = .load t x) (hv:ev L x = some (.pointer (some p))) (hp:p = (eAddr v (Flat.sz α) n.toNat).add off) (hc:(Flat.e y)[off]? = some c) :
    (execOp a.eval o).run P w = .ok (.value (c)) w:=by
 obtain ⟨h1,h2⟩:=rd_getF hf (ix_some hx).2.2
 obtain ⟨h3,h4⟩:=List.getElem?_eq_some_iff.1 hc
 have h5:=(h1.agr hA h2).fld off 1 (by omega)
 rw [List.drop_eq_getElem_cons h3,h4] at h5
 subst hp
 exact r_ld1 hT (r:=[]) h5 hK ho hv
theorem s_call (hK:K N L a) {f:FuncId} {xs:List Operand} {vs:List Value} {R:Ending → World → Prop} {tys:Array TypeId}
    (hcall:∀ (args:Array Value) (w:World),(callFunc f args).run P w = .ok (.enter f args) w)
    (hg:gd L ops o.guard = some true) (hd:o.dst = some d) (hN:Nat.blt d N = true)
    (ho:o.op = .call { callee:=.value (.func f),args:=xs.toArray,argTypes:=tys }) (hv:evs L xs = some vs)
    (hc:Calls P f vs.toArray w R) (hR:∀ e w',R e w' → ∃ v,e = .returned v ∧ ∀ a,K N ((d,v) :: L) a → wpList P ops Q rest a w'):wpList P ops Q (o :: rest) a w:=by
 have e1:(xs.map a.eval) = vs:=hK.evs hv
 have e2:xs.toArray.map a.eval = vs.toArray:=by rw [List.map_toArray,e1]
 refine run_op hK hg (r:=.ok (.enter f vs.toArray) w) ?_ fun K' hK'=>?_
 · simp [execOp,ho,resolve,Act.eval,Deferred.ofValue,invoke,e2,hcall,-List.map_toArray]
 · rw [Oper.upon_enter]
   refine hc.mono fun e w' h=>?_
   obtain ⟨v,rfl,h2⟩:=hR e w' h
   rw [hd]
   exact hK' _ _ (h2 _ (hK.put d hN v))
theorem s_callv (hK:K N L a) {f:FuncId} {fo:Operand} {cap:List Value} {xs:List Operand} {vs:List Value} {R:Ending → World → Prop} {tys:Array TypeId}
    (hcall:∀ (args:Array Value) (w:World),(callFunc f args).run P w = .ok (.enter f args) w)
    (hg:gd L ops o.guard = some true) (hd:o.dst = some d) (hN:Nat.blt d N = true)
    (ho:o.op = .call { callee:=.value fo,args:=xs.toArray,argTypes:=tys }) (hf:ev L fo = some (.func (.func f) #[] cap.toArray)) (hv:evs L xs = some vs)
    (hc:Calls P f (vs ++ cap).toArray w R) (hR:∀ e w',R e w' → ∃ v,e = .returned v ∧ ∀ a,K N ((d,v) :: L) a → wpList P ops Q rest a w'):wpList P ops Q (o :: rest) a w:=by
 have e1:(xs.map a.eval) = vs:=hK.evs hv
 have e2:xs.toArray.map a.eval = vs.toArray:=by rw [List.map_toArray,e1]
 refine run_op hK hg (r:=.ok (.enter f (vs ++ cap).toArray) w) ?_ fun K' hK'=>?_
 · simp [execOp,ho,resolve,hK.ev hf,Deferred.ofValue,invoke,e2,hcall,-List.map_toArray]
 · rw [Oper.upon_enter]
   refine hc.mono fun e w' h=>?_
   obtain ⟨v,rfl,h2⟩:=hR e w' h
   rw [hd]
   exact hK' _ _ (h2 _ (hK.put d hN v))
end
end Go.Proofs.YtcboeijpplllfaaGreat
