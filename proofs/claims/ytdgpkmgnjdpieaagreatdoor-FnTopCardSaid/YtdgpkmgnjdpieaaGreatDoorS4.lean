/- own lemmas -/
import Derived.Test.YtdgpkmgnjdpieaaGreatDoorS1
import Derived.OrdersHeld
import Derived.JoinedOf
set_option linter.unusedSimpArgs false
set_option linter.unusedVariables false
namespace Go.Proofs.YtdgpkmgnjdpieaaGreatDoor
open Go Go.RowKit
open Enc (rd ow)
theorem Ext.setRow {w:World} (g:Nat) (cs:Array Value):Ext [g] w (w.setRow g cs) :=
 ⟨rfl,rfl,rfl,AD,λk _ A=>setRow_other w g k cs (by simpa using A)⟩
def BF (l:List Value) (k:Nat) (vs:List Value):List Value:=l.take k++vs++l.drop (k+vs.length)
theorem Ty (l:List Value) (k:Nat) (vs:List Value) (h:k+vs.length≤l.length):(BF l k vs).length=l.length:=by
 simp [BF]; omega
theorem Tm (l:List Value) (k:Nat) (vs:List Value) (h:k+vs.length≤l.length) (j:Nat) :
    (BF l k vs)[j]? = if j<k then l[j]? else if j<k+vs.length then vs[j - k]? else l[j]?:=by
 simp only [BF]
 rw [List.getElem?_append,List.getElem?_append]
 simp only [List.length_append,List.length_take,List.getElem?_take,List.getElem?_drop]
 have e:min k l.length=k:=AC
 rw [e]
 by_cases A:j<k
 · have:j<k+vs.length:=AC
   simp [A,this]
 · by_cases D:j<k+vs.length
   · simp [A,D]
   · simp only [A,D,if_false]
     congr 1; omega
theorem Zs (l:List Value) (b q:Nat) (vs:List Value) (h:b+q+vs.length≤l.length):(BF l (b+q) vs).drop b=BF (l.drop b) q vs:=by
 apply List.ext_getElem?
 intro j
 rw [List.getElem?_drop,Tm _ _ _ h,Tm _ _ _ AJ,List.getElem?_drop]
 by_cases E:j<q
 · simp [E]
 · have D:¬ b+j<b+q:=AC
   by_cases J:j<q+vs.length
   · have A:b+j<b+q+vs.length:=AC
     simp only [E,D,J,A,if_true,if_false]
     congr 1; omega
   · have A:¬ b+j<b+q+vs.length:=AC
     simp only [E,D,J,A,if_false]
theorem Zo (l:List Value) (m q:Nat) (vs:List Value) (h:q+vs.length≤m) (E:m≤l.length):(BF l q vs).take m=BF (l.take m) q vs:=by
 apply List.ext_getElem?
 intro j
 rw [List.getElem?_take,Tm _ _ _ AC,Tm _ _ _ AJ,List.getElem?_take]
 by_cases c:j<m
 · simp [c]
 · have A:¬ j<q:=AC
   have D:¬ j<q+vs.length:=AC
   simp [c,A,D]
theorem jG (l:List Value) (p sz off:Nat) (vs:List Value) (h:off+vs.length≤sz) (hl:p+sz≤l.length) :
    BF l p (BF ((l.drop p).take sz) off vs)=BF l (p+off) vs:=by
 have U:((l.drop p).take sz).length=sz:=AJ
 have T:(BF ((l.drop p).take sz) off vs).length=sz:=by rw [Ty _ _ _ AC,U]
 apply List.ext_getElem?
 intro j
 rw [Tm l p _ AC,Tm l (p+off) vs AC,T]
 by_cases J:j<p
 · have:j<p+off:=AC
   simp [J,this]
 · by_cases Y:j<p+sz
   · simp only [J,Y,if_true,if_false]
     rw [Tm _ _ _ AC,List.getElem?_take,List.getElem?_drop]
     have O:j - p<sz:=AC
     have e:p+(j - p)=j:=AC
     simp only [O,if_true,e]
     by_cases E:j - p<off
     · have:j<p+off:=AC
       simp [E,this]
     · have D:¬ j<p+off:=AC
       by_cases V:j - p<off+vs.length
       · have A:j<p+off+vs.length:=AC
         simp only [E,D,V,A,if_true,if_false]
         congr 1; omega
       · have A:¬ j<p+off+vs.length:=AC
         simp only [E,D,V,A,if_false]
   · have O:¬ j<p+off:=AC
     have E:¬ j<p+off+vs.length:=AC
     simp [J,Y,O,E]
theorem aH (off:Nat):∀ (vs:List Value) (j:Nat) (cells:Array Value),off+j+vs.length≤cells.size →
    ((vs.zipIdx j).foldl (λcs (p:Value×Nat)=>cs.setIfInBounds (off+p.2) p.1) cells).toList=BF cells.toList (off+j) vs
 | [],j,cells,_=>by simp [BF]
 | v::vs,j,cells,h=>by
  simp only [List.zipIdx_cons,List.foldl_cons]
  have A:off+(j+1)+vs.length≤(cells.setIfInBounds (off+j) v).size:=by simp at h ⊢; omega
  rw [aH off vs (j+1) _ A]
  have:=list_seg_step cells.toList (off+j) v vs (by simp at h ⊢; omega)
  simp only [BF,Array.toList_setIfInBounds,List.length_cons]
  rw [show off+(j+1)=off+j+1 by omega]
  simpa [Nat.add_assoc] using this
theorem lv (sz:Nat):∀ (vs:List Value) (k:Nat) (cells:Array Value),(∀ v∈vs,v.cells.size=sz)→k*sz+vs.length*sz≤cells.size →
    ∃ out:Array Value,Instr.fill (λi=>some (i*sz,sz)) cells ((vs.zipIdx k).map λp=>(p.2,p.1))=some out ∧
     out.toList=BF cells.toList (k*sz) (vs.flatMap λv=>v.cells.toList)
 | [],k,cells,_,_=>⟨cells,by simp [Instr.fill],by simp [BF]⟩
 | v::vs,k,cells,hv,hl=>by
  have E:v.cells.size=sz:=hv v AD
  simp only [List.length_cons,Nat.add_mul,Nat.one_mul] at hl
  have T:(v.cells.zipIdx.foldl (λcs (p:Value×Nat)=>cs.setIfInBounds (k*sz+p.2) p.1) cells).toList=BF cells.toList (k*sz) v.cells.toList:=by
   have:=aH (k*sz) v.cells.toList 0 cells (by simp [E]; omega)
   rw [← Array.foldl_toList,Array.toList_zipIdx]
   simpa using this
  have O:(v.cells.zipIdx.foldl (λcs (p:Value×Nat)=>cs.setIfInBounds (k*sz+p.2) p.1) cells).size=cells.size:=by
   rw [← Array.length_toList,T,Ty _ _ _ (by simp [E]; omega)]; simp
  obtain ⟨out,ho,e⟩:=lv sz vs (k+1) (v.cells.zipIdx.foldl (λcs (p:Value×Nat)=>cs.setIfInBounds (k*sz+p.2) p.1) cells) (λx Y=>hv x (by simp [Y])) (by rw [O,Nat.add_mul]; omega)
  refine ⟨out,?_,?_⟩
  · simp only [List.zipIdx_cons,List.map_cons,Instr.fill]
    have h:¬ (v.cells.size≠sz):=by simp [E]
    have Z:¬ (k*sz+v.cells.size>cells.size):=AC
    simp only [h,Z,decide_false,Bool.or_self,Bool.false_eq_true,if_false]
    exact ho
  · rw [e,T]
    have A:v.cells.toList.length=sz:=by simp [E]
    have D:cells.toList.length=cells.size:=AD
    simp only [BF,List.flatMap_cons,List.length_append,A]
    rw [show (k+1)*sz=k*sz+sz by rw [Nat.add_mul]; omega]
    have U:(cells.toList.take (k*sz)++v.cells.toList++cells.toList.drop (k*sz+sz)).take (k*sz+sz)=cells.toList.take (k*sz)++v.cells.toList:=by
     rw [List.take_left' (by rw [List.length_append,List.length_take,A,D]; omega)]
    have V:∀ m,(cells.toList.take (k*sz)++v.cells.toList++cells.toList.drop (k*sz+sz)).drop (k*sz+sz+m)=cells.toList.drop (k*sz+sz+m):=by
     intro m
     have J:(cells.toList.take (k*sz)++v.cells.toList).length=k*sz+sz:=by rw [List.length_append,List.length_take,A,D]; omega
     rw [← List.drop_drop,List.drop_left' J,List.drop_drop]
    rw [U,V]
    simp [List.append_assoc,Nat.add_assoc]
section
variable {P:Program} {ops:Array Oper} {Q:Exit→Act→World→Prop} {rest:List Oper} {o:Oper} {a:Act} {w:World} {N:Nat} {L:List (Nat×Value)}
variable {X:List Nat} {w0:World} {M:List (List Nat×World)} {d:Nat}
def TE (P:Program) (t sz A:Nat) (z:List Value):Prop :=
 ∃ e i,P.underlying t=some (.slice e)∧P.info? e=some i∧(∃ D,i.zero=some D∧D.cells=z.toArray)∧i.size=sz∧i.bytes=A∧z.length=sz∧0<sz
theorem px {A:List (Nat×Operand)} (J:K N L a):∀ {vs:List Value},evs L (A.map (·.2))=some vs→A.map (λp=>(p.1,a.eval p.2))=(A.map (·.1)).zip vs:=by
 induction A with
 | nil=>intro vs h; simp [evs] at h; subst h; rfl
 | cons p ps O =>
  intro vs h
  simp only [List.map_cons,evs] at h
  cases D:ev L p.2 with
  | none=>simp [D] at h
  | some u =>
   cases E:evs L (ps.map (·.2)) with
   | none=>simp [D,E] at h
   | some r =>
    simp only [D,E,Option.some.injEq] at h
    subst h
    simp [J.ev D,O E]
theorem BD {t n sz E:Nat} {z:List Value} (hT:TE P t sz E z) (hM:St X w0 w M) (V:K N L a) {ps:List (Nat×Operand)} {vs:List Value} {cs:List Value}
    (hg:gd L ops o.guard=some true) (hd:o.dst=some d) (hN:Nat.blt d N=true)
    (ho:o.op=.buildSlice t n ps.toArray) (hv:evs L (ps.map (·.2))=some vs) (hix:ps.map (·.1)=List.range vs.length) (hn:vs.length=n) (hsm:n*sz≤16777216)
    (hc:(vs.flatMap λv=>v.cells.toList)=cs) (hvs:∀ v∈vs,v.cells.size=sz)
    (h:∀ g w' e a,K N ((d,.slice (some ⟨g,0,none⟩) n n)::L) a→St X w0 w' (([g],w')::M)→Ext [] w w'→bx w' g cs e→w.heap.size≤g→wpList P ops Q rest a w'):wpList P ops Q (o::rest) a w:=by
 obtain ⟨e,i,hu,hi,⟨zv,hz,_⟩,hs,_,_,_⟩:=hT
 have A:(ps.map λp=>(p.1,a.eval p.2))=(vs.zipIdx).map λp=>(p.2,p.1):=by
  rw [px V hv,hix]
  apply List.ext_getElem?
  intro k
  by_cases hk:k<vs.length
  · simp [List.getElem?_zip_eq_some,hk]
  · simp [hk]
 have O:(ps.toArray.map λp=>(p.1,a.eval p.2))=((vs.zipIdx).map λp=>(p.2,p.1)).toArray:=by
  rw [List.map_toArray,A]
 obtain ⟨out,hf,D⟩:=lv sz vs 0 ((Array.range (n*sz)).map (zv.cells[· % zv.cells.size]!)) hvs (by simp [hn])
 have Y:cs.length=n*sz:=by
  rw [← hc]
  clear hc hf D A O hix hv
  subst hn
  clear hsm h ho
  induction vs with
  | nil=>simp
  | cons v vs ih =>
   simp only [List.flatMap_cons,List.length_append,List.length_cons,Nat.add_mul,Nat.one_mul]
   rw [ih (λx hx=>hvs x (by simp [hx]))]
   have:=hvs v AD
   simp [this]; omega
 have J:out=cs.toArray:=by
  apply Array.ext'
  rw [D,hc]
  simp [BF,Y]
 refine TZ V hg hd hN (v:=.slice (some ⟨w.heap.size,0,none⟩) n n) (w':=w.alloc (.cells cs.toArray e)) ?_ λa V=>h _ _ e a V (hM.new (Ext.alloc _ _) _ (O0 _ _ _) AD) (Ext.alloc _ _) (heap_alloc_new w _) (Nat.le_refl _)
 have U:¬ (16777216<n*sz):=AC
 by_cases h0:n*sz=0
 · have Z:n=0:=by
     rcases Nat.mul_eq_zero.1 h0 with h1 | h1
     · exact h1
     · omega
   subst Z
   have T:vs=[]:=List.eq_nil_of_length_eq_zero hn
   subst T
   simp only [List.flatMap_nil] at hc
   subst hc
   have Aa:ps=[]:=by
    have:=congrArg List.length hix
    simpa using this
   subst Aa
   simp [execOp,ho,Instr.buildSlice,run_underlying hu,sizeOf,typeInfo,hi,Instr.fill,newRow,Array.range_zero']
 · simp only [execOp,ho,O,Instr.buildSlice,run_underlying hu w,Sem.run_bind,Result.andThen_ok,sizeOf,typeInfo,run_program,hi,Sem.run_pure,hs,U,if_false,h0,zeroValue,hz,Sem.run_ite,gt_iff_lt,Nat.reducePow,Sem.run_map]
   rw [hf]
   simp [newRow,J]
theorem dQ {t n sz A:Nat} {z:List Value} (O:TE P t sz A z) (E:St X w0 w M) (D:K N L a) {ps:List (Nat×Operand)} {vs:List Value} {cs:List Value}
    (hg:gd L ops o.guard=some true) (hd:o.dst=some d) (hN:Nat.blt d N=true)
    (ho:o.op=.buildSlice t n ps.toArray) (hv:evs L (ps.map (·.2))=some vs) (hix:ps.map (·.1)=List.range vs.length) (hn:vs.length=n) (hsm:n*sz≤16777216)
    (hc:(vs.flatMap λv=>v.cells.toList)=cs) (hvs:∀ v∈vs,v.cells.size=sz)
    (h:∀ g w' e a,K N ((d,.slice (some ⟨g,0,none⟩) n n)::L) a→St X w0 w' (([g],w')::M)→Ext [] w w'→bx w' g cs e→wpList P ops Q rest a w'):wpList P ops Q (o::rest) a w :=
 BD O E D hg hd hN ho hv hix hn hsm hc hvs λg w' e a D E T J _=>h g w' e a D E T J
theorem Wr {α:Type} [Flat α] {w:World}:∀ (A:List α),Z8 w (A.map λ_=>[]) ((A.map Flat.e).flatten) A
 | []=>rfl
 | x::A=>by
  have hl:(Flat.e x).length=Enc.sz α:=Flat.len x
  refine ⟨⟨rfl,?_⟩,?_⟩
  · simp [List.take_left' hl]
  · simp only [List.map_cons,List.flatten_cons,List.drop_left' hl]
    exact Wr A
theorem L0 {α β:Type} (A:List α):(A.map λ_=>([]:List β)).flatten=[]:=by induction A <;> simp_all
theorem Zm {α:Type} [Flat α] (A:List α):((A.map Flat.e).flatten).length=A.length*Flat.sz α:=by
 induction A with
 | nil=>simp
 | cons x A D=>simp [D,Flat.len x,Nat.add_mul]; omega
theorem AO {α:Type} [Flat α] {w:World} {g n:Nat} {cs:List Value} {e:TypeId} (h:bx w g cs e) (xs:List α) (hc:(xs.map Flat.e).flatten=cs) (hn:xs.length=n) (hm:Nat.ble n 1000000=true) :
    ow w [g] [.slice (some ⟨g,0,none⟩) n n] xs:=by
 subst hc; subst hn
 have A:=Nat.le_of_ble_eq_true hm
 refine .inr ⟨g,0,xs.length,_,e,xs.map λ_=>[],rfl,Nat.le_refl _,by simp [maxLen]; omega,h,?_,?_,by rw [L0],AD⟩
 · rw [Nat.zero_add,List.size_toArray,Zm]; exact Nat.le_refl _
 · have:xs.length*Enc.sz α=((xs.map Flat.e).flatten).length:=(Zm xs).symm
   rw [this]
   simp only [List.drop_zero,List.take_length]
   exact Wr xs
theorem A0 (w:World) {α:Type} [Enc α]:ow w [] [.slice none 0 0] ([]:List α):=.inl ⟨rfl,rfl,rfl⟩
theorem m6 (w:World) {α:Type} [Enc α]:rd w [] [.slice none 0 0] ([]:List α):=pE (A0 w)
def mk {α:Type} (A:Nat) (z:α) (n:Int):Option (List α):=if 0≤n∧A*n≤140737488355328 then some (List.replicate n.toNat z) else none
theorem iv (z:List Value) (J:0<z.length):∀ n,madeCells z.toArray (n*z.length)=((List.replicate n z).flatten).toArray:=by
 intro n
 apply Array.ext'
 simp only [madeCells]
 induction n with
 | zero=>simp
 | succ n D =>
  rw [List.replicate_succ',List.flatten_append,List.flatten_singleton]
  rw [show (n+1)*z.length=n*z.length+z.length by rw [Nat.add_mul]; omega]
  simp only [Array.toList_map,Array.toList_range] at D ⊢
  rw [List.range_add,List.map_append,D,List.map_map]
  congr 1
  apply List.ext_getElem
  · simp
  · intro i A E
    simp at A
    simp [Nat.mod_eq_of_lt A,A]
theorem wg {α:Type} [Flat α] {t bytes:Nat} {z:List Value} {zx:α} {ys:List α} {n:Int} (hx:mk bytes zx n=some ys) (hT:TE P t (Flat.sz α) bytes z) (hz:Flat.e zx=z) (hb:Nat.blt 0 bytes=true) (hM:St X w0 w M) (D:K N L a) {l c:Operand} {k k':IntKind}
    (hg:gd L ops o.guard=some true) (hd:o.dst=some d) (hN:Nat.blt d N=true)
    (ho:o.op=.makeSlice t l c) (hl:ev L l=some (.int k n)) (hc:ev L c=some (.int k' n))
    (h:∀ g w' a v,K N ((d,v)::L) a→St X w0 w' (([g],w')::M)→Ext [] w w'→ow w' [g] [v] ys→wpList P ops Q rest a w'):wpList P ops Q (o::rest) a w:=by
 unfold mk at hx
 split at hx
 · rename_i E
   simp only [Option.some.injEq] at hx
   subst hx
   obtain ⟨E,Z⟩:=E
   obtain ⟨e,i,hu,hi,⟨V,J,T⟩,hs,U,O,_⟩:=hT
   have Aa:0<bytes:=by simpa using hb
   have hn:n≤140737488355328:=Int.le_trans (by have:=Int.mul_le_mul_of_nonneg_right (show (1:Int)≤bytes by omega) E; simpa using this) Z
   have hr:=run_make (P:=P) w t e i V hu hi J k k' n n E (Int.le_refl _) (by rw [U]; omega) AC
   have A:madeCells V.cells (n.toNat*i.size)=(((List.replicate n.toNat zx).map Flat.e).flatten).toArray:=by
    rw [T,hs,← O,iv z AC]
    simp [hz]
   refine TZ D hg hd hN (v:=.slice (some ⟨w.heap.size,0,none⟩) n.toNat n.toNat) (w':=w.alloc (.cells (((List.replicate n.toNat zx).map Flat.e).flatten).toArray e)) ?_ λa D =>
    h w.heap.size _ a _ D (hM.new (Ext.alloc _ _) _ (O0 _ _ _) AD) (Ext.alloc _ _) ?_
   · simp [execOp,ho,D.ev hl,D.ev hc,hr,A]
   · refine .inr ⟨w.heap.size,0,n.toNat,_,e,(List.replicate n.toNat zx).map λ_=>[],AD,AD,by simp [maxLen]; omega,heap_alloc_new w _,?_,?_,by rw [L0],AD⟩
     · rw [Nat.zero_add,List.size_toArray,Zm,List.length_replicate]; exact Nat.le_refl _
     · have Y:(List.replicate n.toNat zx).length*Enc.sz α=(((List.replicate n.toNat zx).map Flat.e).flatten).length:=(Zm _).symm
       rw [Y]
       simp only [List.drop_zero,List.take_length]
       exact Wr _
 · simp at hx
def BE {α:Type} (A:Nat) (D ys:List α):Option (List α):=if (D.length+ys.length)*A≤140737488355328 then some (D++ys) else none
def News (w:World) (x:Value) (m:Nat) (A:List Value):Prop:=∃ D c,x=.slice D m c∧((m=0∧A=[])∨∃ E,D=some E∧PtAt w E A)
theorem ar {α:Type} [Enc α] {w:World}:∀ {Gs:List (List Nat)} {cells:List Value} {E:List α} {Hs:List (List Nat)} {A:List Value} {ys:List α},
    Z8 w Gs cells E→Z8 w Hs A ys→Z8 w (Gs++Hs) (cells++A) (E++ys)
 | [],_,[],Hs,A,ys,h,h'=>by simp only [Z8] at h; subst h; exact h'
 | G::Gs,cells,x::E,Hs,A,ys,⟨h,h1⟩,h'=>by
  have hl:=Enc.rd_sz (Enc.ow_rd h)
  have D:Enc.sz α≤cells.length:=by simp at hl; omega
  refine ⟨?_,?_⟩
  · rw [List.take_append_of_le_length D]; exact h
  · rw [List.drop_append_of_le_length D]; exact ar h1 h'
 | [],_,_::_,_,_,_,h,_=>h.elim
 | _::_,_,[],_,_,_,h,_=>h.elim
theorem lD {α:Type} [Enc α] {w:World}:∀ {Gs:List (List Nat)} {cells:List Value} {D:List α},Z8 w Gs cells D→∀ u∈cells,u.oneCell'=true
 | [],_,[],h=>by simp only [Z8] at h; subst h; simp
 | G::Gs,cells,x::D,⟨h,h'⟩=>by
  intro u A
  rw [← List.take_append_drop (Enc.sz α) cells,List.mem_append] at A
  rcases A with A | A
  · exact Enc.rd_one (Enc.ow_rd h) u A
  · exact lD h' u A
 | [],_,_::_,h=>h.elim
 | _::_,_,[],h=>h.elim
theorem bY (t ty e T:TypeId) (i:TypeInfo) (O:P.underlying t=some (.slice e)) (hi:P.info? e=some i)
    (g off sLen sCap:Nat) (cur:Array Value) (hg:w.heap[g]? = some (.cells cur T (0,0)))
    (x:Value) (m:Nat) (news:List Value) (D:News w x m news) (hl:news.length=m*i.size) (h1:∀ u∈news,u.oneCell'=true)
    (hroom:sLen+m≤sCap) (hfit:off+sLen*i.size+news.length≤cur.size) :
    (Builtin.append_ #[t,t] ty #[.slice (some ⟨g,off,none⟩) sLen sCap,x]).run P w =
     .ok (.slice (some ⟨g,off,none⟩) (sLen+m) sCap) (w.setRow g (BF cur.toList (off+sLen*i.size) news).toArray):=by
 obtain ⟨J,c,rfl,D⟩:=D
 have A:=run_storeCells_at P g (off+sLen*i.size) T news 0 cur w hg (by simpa using hfit) h1
 simp only [Nat.add_zero] at A
 rcases D with ⟨rfl,rfl⟩ | ⟨U,rfl,V⟩
 · have E:(Builtin.firstCells i.size 0 (.slice J 0 c)).run P w=.ok #[] w:=by
     cases J <;> simp [Builtin.firstCells,loadCells,loadCellsFrom]
   simp only [Nat.add_zero] at hroom ⊢
   simp [Builtin.append_,run_underlying O,sizeOf,typeInfo,hi,Builtin.lenOf,hroom,E,HA,A,BF]
 · have E:=run_firstCells_some (P:=P) w i.size m U m c news hl V.cell
   simp [Builtin.append_,run_underlying O,sizeOf,typeInfo,hi,Builtin.lenOf,hroom,E,HA,A,BF]
theorem nB {α:Type} [Enc α] {t ty bytes:Nat} {z:List Value} (hT:TE P t (Enc.sz α) bytes z) {F:List Nat} {v:Value} {xs:List α} (hown:ow w F [v] xs)
    {x:Value} {m:Nat} {news:List Value} (hx:News w x m news) {Hs:List (List Nat)} {ys:List α} (hys:Z8 w Hs news ys) (hm:ys.length=m)
    (hnd:(F++Hs.flatten).Nodup) (A:(xs.length+ys.length)*bytes≤140737488355328) (hbp:0<bytes) :
    ∃ v' F' w',(Builtin.append_ #[t,t] ty #[v,x]).run P w=.ok v' w'∧Ext (F++Hs.flatten) w w'∧ow w' F' [v'] (xs++ys) ∧
     ∀ b∈F',(b∈F++Hs.flatten∨w.heap.size≤b)∧b<w'.heap.size:=by
 obtain ⟨e,i,hu,hi,⟨zv,Af,Am⟩,hs,Ah,Ai,_⟩:=hT
 obtain ⟨_,Aa⟩:=ZS hys
 have J:news.length=m*i.size:=by rw [Aa,hm,hs]
 have Ae:=lD hys
 have As:xs.length+ys.length≤140737488355328:=Nat.le_trans (Nat.le_mul_of_pos_right _ hbp) A
 subst hm
 have O:=gO hys
 have Y:∀ (D:Nat) (Gs:List (List Nat)) (cells:List Value),Z8 w Gs cells xs→(Gs.flatten++Hs.flatten).Nodup→(∀ b∈Gs.flatten,b∈F)→D<xs.length+ys.length →
     ∃ F',ow (w.drew.alloc (.cells (cells.toArray++news.toArray++Builtin.zeroCells zv.cells (grownCap w (xs.length+ys.length) D e - (xs.length+ys.length))) e)) F'
         [.slice (some ⟨w.heap.size,0,none⟩) (xs.length+ys.length) (grownCap w (xs.length+ys.length) D e)] (xs++ys) ∧
      ∀ b∈F',(b∈F++Hs.flatten∨w.heap.size≤b)∧b<(w.drew.alloc (.cells (cells.toArray++news.toArray++Builtin.zeroCells zv.cells (grownCap w (xs.length+ys.length) D e - (xs.length+ys.length))) e)).heap.size:=by
  intro D Gs cells hG Ak Aj ho
  have Aq:=grownCap_ge w (xs.length+ys.length) D e
  have An:grownCap w (xs.length+ys.length) D e≤maxLen:=grownCap_le_maxLen w _ D e (by simp only [maxLen]; omega)
  have V:=gO hG
  obtain ⟨Al,T⟩:=ZS hG
  have hE:Agr (Gs.flatten++Hs.flatten) w (w.drew.alloc (.cells (cells.toArray++news.toArray++Builtin.zeroCells zv.cells (grownCap w (xs.length+ys.length) D e - (xs.length+ys.length))) e)):=by
   intro b A
   have:b<w.heap.size:=by
    rcases List.mem_append.1 A with A | A
    · exact V b A
    · exact O b A
   exact (Ext.alloc w.drew _).blk b this AD
  refine ⟨w.heap.size::(Gs++Hs).flatten,.inr ⟨w.heap.size,0,_,_,e,Gs++Hs,AD,by simpa using Aq,An,heap_alloc_new w.drew _,?_,?_,rfl,?_⟩,?_⟩
  · simp only [Array.size_append,List.size_toArray,size_zeroCells,T,Aa,Am,Ai]
    rw [← Nat.add_mul,← Nat.add_mul,show xs.length+ys.length+(grownCap w (xs.length+ys.length) D e - (xs.length+ys.length))=grownCap w (xs.length+ys.length) D e by omega]
    omega
  · have:(List.drop 0 (cells.toArray++news.toArray++Builtin.zeroCells zv.cells (grownCap w (xs.length+ys.length) D e - (xs.length+ys.length))).toList).take ((xs++ys).length*Enc.sz α)=cells++news:=by
      simp only [List.drop_zero,Array.toList_append,List.append_assoc]
      rw [← List.append_assoc]
      exact List.take_left' (by simp [T,Aa,Nat.add_mul])
    rw [this]
    exact YD (hE.sub (by intro b A; simpa using A)) (ar hG hys)
  · refine List.nodup_cons.2 ⟨?_,by simpa using Ak⟩
    intro A
    rw [List.flatten_append,List.mem_append] at A
    rcases A with A | A
    · have:=V _ A; omega
    · have:=O _ A; omega
  · intro b A
    rcases List.mem_cons.1 A with rfl | A
    · exact ⟨.inr (Nat.le_refl _),by simp [heap_drew]⟩
    · rw [List.flatten_append,List.mem_append] at A
      rcases A with A | A
      · have:=V _ A
        exact ⟨.inl (List.mem_append_left _ (Aj b A)),by simp [heap_drew]; omega⟩
      · have:=O _ A
        exact ⟨.inl (List.mem_append_right _ A),by simp [heap_drew]; omega⟩
 have U:∀ o,Ext (F++Hs.flatten) w (w.drew.alloc o):=λo=>(((Ext.drew w).trans (Ext.alloc w.drew o) AD).wk AD)
 rcases hown with ⟨hv,rfl,rfl⟩ | ⟨g,off,cap,c,e',Gs,hv,h1,h2,h3,h4,h5,rfl,h6⟩
 · simp only [List.cons.injEq,and_true] at hv
   subst hv
   obtain ⟨ao,c',rfl,Ad⟩:=hx
   by_cases Z:ys.length=0
   · have Ag:ys=[]:=List.eq_nil_of_length_eq_zero Z
     subst Ag
     refine ⟨.slice none 0 0,[],w,?_,Ext.refl _ _,?_,AD⟩
     · have hf:(Builtin.firstCells i.size 0 (.slice ao 0 c')).run P w=.ok #[] w:=by cases ao <;> simp [Builtin.firstCells,loadCells,loadCellsFrom]
       simp [Builtin.append_,run_underlying hu,sizeOf,typeInfo,hi,Builtin.lenOf,hf]
     · exact A0 w
   · rcases Ad with ⟨h0,_⟩ | ⟨ad,rfl,hp⟩
     · exact absurd h0 Z
     · have hr:=run_append_nil (P:=P) w t ty e i zv hu hi Af ad ys.length c' news J hp.cell AC AC (by rw [Ah]; simp at A; omega)
       obtain ⟨F',h7,h8⟩:=Y 0 [] [] rfl (by simpa using hnd) AD AJ
       simp only [List.length_nil,Nat.zero_add,List.nil_append,Array.empty_append] at h7 h8 ⊢
       refine ⟨_,F',_,hr,U _,?_,?_⟩
       · simpa using h7
       · simpa using h8
 · simp only [List.cons.injEq,and_true] at hv
   subst hv
   obtain ⟨Al,T⟩:=ZS h5
   have Ar:xs.length*Enc.sz α≤c.toList.length - off:=by have h:=T; rw [List.length_take,List.length_drop] at h; omega
   by_cases E:xs.length+ys.length≤cap
   · have Ab:off+xs.length*i.size+news.length≤c.size:=by
       rw [J,hs]
       have:=Nat.mul_le_mul_right (Enc.sz α) E
       rw [Nat.add_mul] at this
       omega
     have hr:=bY (P:=P) (w:=w) t ty e e' i hu hi g off xs.length cap c h3 x ys.length news hx J Ae E Ab
     have Ap:(w.setRow g (BF c.toList (off+xs.length*i.size) news).toArray).heap[g]? = some (.cells (BF c.toList (off+xs.length*i.size) news).toArray e' (0,0)):=setRow_heap w g c _ e' _ h3
     have Ao:g∉Gs.flatten++Hs.flatten:=by
      have:=(List.nodup_cons.1 (by simpa using hnd:(g::(Gs.flatten++Hs.flatten)).Nodup)).1
      exact this
     have hE:Agr (Gs.flatten++Hs.flatten) w (w.setRow g (BF c.toList (off+xs.length*i.size) news).toArray):=λb A=>setRow_other w g b _ (λe=>Ao (e ▸ A))
     refine ⟨_,g::(Gs++Hs).flatten,_,hr,(Ext.setRow g _).wk AD,.inr ⟨g,off,cap,_,e',Gs++Hs,AD,by simpa using E,h2,Ap,?_,?_,rfl,?_⟩,?_⟩
     · rw [List.size_toArray,Ty _ _ _ (by simpa using Ab)]; simpa using h4
     · have:(List.drop off (BF c.toList (off+xs.length*i.size) news).toArray.toList).take ((xs++ys).length*Enc.sz α)=(c.toList.drop off).take (xs.length*Enc.sz α)++news:=by
         rw [hs]
         simp only [BF,List.append_assoc]
         have e1:(c.toList.take (off+xs.length*Enc.sz α))=c.toList.take off++(c.toList.drop off).take (xs.length*Enc.sz α):=by rw [List.take_add]
         have hd:(c.toList.take off).length=off:=by rw [List.length_take,Array.length_toList]; omega
         rw [e1,List.append_assoc,List.drop_left' hd,← List.append_assoc]
         exact List.take_left' (by rw [List.length_append,T,Aa,List.length_append,Nat.add_mul])
       rw [this]
       exact YD (hE.sub (by intro b A; simpa using A)) (ar h5 hys)
     · simpa using hnd
     · intro b A
       refine ⟨.inl (by simpa using A),?_⟩
       simp only [size_setRow]
       rcases List.mem_cons.1 A with rfl | A
       · exact Iv h3
       · rw [List.flatten_append,List.mem_append] at A
         rcases A with A | A
         · exact gO h5 _ A
         · exact O _ A
   · obtain ⟨ao,c',rfl,Ad⟩:=hx
     have Z:ys.length≠0:=AC
     rcases Ad with ⟨h0,_⟩ | ⟨ad,rfl,hp⟩
     · exact absurd h0 Z
     · have Ac:∀ j u,((c.toList.drop off).take (xs.length*Enc.sz α))[j]? = some u→w.cell? ((⟨g,off,none⟩:Addr).add j)=some u:=by
         intro j u hu
         rw [List.getElem?_take,List.getElem?_drop] at hu
         split at hu
         · rw [HA,cell_of_row w g _ c e' (0,0) h3]
           simpa using hu
         · simp at hu
       have hr:=run_append_grow (P:=P) w t ty e i zv hu hi Af ⟨g,off,none⟩ xs.length cap _ (by rw [T,hs]) Ac ad ys.length c' news J hp.cell AC AC (growslice_fits AC (by rw [Ah]; exact A))
       obtain ⟨F',h7,h8⟩:=Y cap Gs _ h5 (by have:=(List.nodup_cons.1 (by simpa using hnd:(g::(Gs.flatten++Hs.flatten)).Nodup)).2; exact this) (λb A=>List.mem_cons_of_mem _ A) AC
       exact ⟨_,F',_,hr,U _,h7,h8⟩
theorem News.box {u:World} {g m:Nat} {cs:List Value} {e:TypeId} (h:bx u g cs e) {F:List Nat} (A:Agr F u w) (D:g∈F):News w (.slice (some ⟨g,0,none⟩) m m) m cs :=
 ⟨_,_,rfl,.inr ⟨_,rfl,(h.agr A D).pt⟩⟩
theorem je {α:Type} [Flat α] {w:World} {F:List Nat}:∀ {A:List α} {cells:List Value},jr w F cells A→cells.take (A.length*Flat.sz α)=(A.map Flat.e).flatten
 | [],cells,_=>by simp
 | x::A,cells,⟨⟨G,_,h⟩,h'⟩=>by
  have E:cells.take (Enc.sz α)=Flat.e x:=h.2
  have D:cells.take (Flat.sz α)=Flat.e x:=E
  have J:=je h'
  simp only [List.length_cons,List.map_cons,List.flatten_cons,← J,← D]
  rw [show (A.length+1)*Flat.sz α=Flat.sz α+A.length*Flat.sz α by rw [Nat.add_mul]; omega,List.take_add]
  rfl
theorem News.rd {α:Type} [Flat α] {F:List Nat} {v:Value} {ys:List α} (h:rd w F [v] ys):News w v ys.length (ys.map Flat.e).flatten:=by
 obtain ⟨O,cap,A,_,_,_,J⟩:=h
 simp only [List.cons.injEq,and_true] at A
 subst A
 refine ⟨O,cap,rfl,?_⟩
 rcases J with rfl | ⟨g,off,c,e,E,rfl,T,D,hl⟩
 · exact .inl ⟨rfl,rfl⟩
 · refine .inr ⟨_,rfl,g,off,c,e,E,rfl,D,?_⟩
   rw [Zm]
   exact je hl
theorem jw {α:Type} {A:Nat} {D ys E:List α} (h:BE A D ys=some E):(D.length+ys.length)*A≤140737488355328∧E=D++ys:=by
 unfold BE at h
 split at h
 · rename_i J; simp only [Option.some.injEq] at h; exact ⟨J,h.symm⟩
 · simp at h
theorem AZ {α:Type} [Flat α] {t bytes:Nat} {z:List Value} {xs ys zs:List α} (hz:BE bytes xs ys=some zs) (hT:TE P t (Flat.sz α) bytes z) (U:Nat.blt 0 bytes=true) (hM:St X w0 w M) (i:Nat) {F:List Nat} {u:World} {v:Value}
    (hown:ow u F [v] xs) {x:Value} {m:Nat} {news:List Value} (hx:News w x m news) (hn:(ys.map Flat.e).flatten=news) (hm:ys.length=m) (J:K N L a) {s y:Operand}
    (hi:M[i]? = some (F,u)) (hg:gd L ops o.guard=some true) (hd:o.dst=some d) (hN:Nat.blt d N=true)
    (ho:o.op=.call { callee:=.builtin .append,args:=#[s,y],argTypes:=#[t,t] }) (hs:ev L s=some v) (hy:ev L y=some x)
    (h:∀ T D w' a,K N ((d,T)::L) a→Ext F w w'→St X w0 w' (M.set i (D,w'))→ow w' D [T] zs→(∀ b∈D,b∈F∨w.heap.size≤b)→wpList P ops Q rest a w'):wpList P ops Q (o::rest) a w:=by
 obtain ⟨e,rfl⟩:=jw hz
 have Y:=hM.a i hi
 have E:=L0 (β:=Nat) ys
 obtain ⟨T,D,w',Z,V,O,A⟩:=nB (P:=P) (ty:=o.type) hT (Enc.ow_agr hown Y) hx (Hs:=ys.map λ_=>[]) (by rw [← hn]; exact Wr ys) hm (by rw [E,List.append_nil]; exact hM.ndF i hi) e (by simpa using U)
 rw [E,List.append_nil] at V A
 refine TZ J hg hd hN ?_ λa J=>h T D w' a J V (hM.mut i hi V D A (Enc.ow_nd O)) O (λb U=>(A b U).1)
 simp [execOp,ho,resolve,invoke,builtin,J.ev hs,J.ev hy,Z]
theorem BX {α:Type} [Flat α] {t bytes:Nat} {z:List Value} {xs ys zs:List α} (hz:BE bytes xs ys=some zs) (hT:TE P t (Flat.sz α) bytes z) (hb:Nat.blt 0 bytes=true) (E:St X w0 w M) (i:Nat) {F:List Nat} {u:World} {v:Value}
    (hown:ow u F [v] xs) {x:Value} {m:Nat} {news:List Value} (hx:News w x m news) (hn:(ys.map Flat.e).flatten=news) (hm:ys.length=m) (J:K N L a) {s y:Operand}
    (hi:M[i]? = some (F,u)) (hg:gd L ops o.guard=some true) (hd:o.dst=some d) (hN:Nat.blt d N=true)
    (ho:o.op=.call { callee:=.builtin .append,args:=#[s,y],argTypes:=#[t,t] }) (hs:ev L s=some v) (hy:ev L y=some x)
    (h:∀ A D w' a,K N ((d,A)::L) a→Ext F w w'→St X w0 w' (M.set i (D,w'))→ow w' D [A] zs→wpList P ops Q rest a w'):wpList P ops Q (o::rest) a w :=
 AZ hz hT hb E i hown hx hn hm J hi hg hd hN ho hs hy λA D w' a J T E O _=>h A D w' a J T E O
theorem D8 {α:Type} [Enc α] {t bytes:Nat} {z:List Value} {xs zs:List α} {y1:α} (hz:BE bytes xs [y1]=some zs) (hT:TE P t (Enc.sz α) bytes z) (hb:Nat.blt 0 bytes=true) {F G:List Nat} {u u1 u2:World} (hM:St X w0 w ((F++G,u)::M)) {v:Value}
    (hown:ow u1 F [v] xs) (hA1:Agr F u1 w) {x:Value} {news:List Value} (hx:News w x 1 news) (hy1:ow u2 G news y1) (hA2:Agr G u2 w) (D:K N L a) {s y:Operand}
    (hg:gd L ops o.guard=some true) (hd:o.dst=some d) (hN:Nat.blt d N=true)
    (ho:o.op=.call { callee:=.builtin .append,args:=#[s,y],argTypes:=#[t,t] }) (hs:ev L s=some v) (hy:ev L y=some x)
    (h:∀ O A w' a,K N ((d,O)::L) a→Ext (F++G) w w'→St X w0 w' ((A,w')::M)→ow w' A [O] zs→wpList P ops Q rest a w'):wpList P ops Q (o::rest) a w:=by
 obtain ⟨Y,rfl⟩:=jw hz
 have hl:=Enc.rd_sz (Enc.ow_rd hy1)
 have U:[G].flatten=G:=AD
 obtain ⟨O,A,w',V,T,J,E⟩:=nB (P:=P) (ty:=o.type) hT (Enc.ow_agr hown hA1) hx (Hs:=[G]) (ys:=[y1]) (by
  refine ⟨?_,?_⟩
  · rw [← hl,List.take_length]; exact Enc.ow_agr hy1 hA2
  · simp [Z8,← hl]) rfl (by rw [U]; exact hM.ndF 0 rfl) Y (by simpa using hb)
 rw [U] at T E
 refine TZ D hg hd hN ?_ λa D=>h O A w' a D T (hM.mut 0 rfl T A E (Enc.ow_nd J)) J
 simp [execOp,ho,resolve,invoke,builtin,D.ev hs,D.ev hy,V]
theorem Yw {t n g off:Nat} {cs:List Value} {e:TypeId} {v:Value} (O:∀ w,(sizeOf t).run P w=.ok n w) (E:bx w g cs e) (D:v.cells.size=n) (J:off+n≤cs.length)
    (h1:∀ u∈v.cells.toList,u.oneCell'=true):(storeVar t ⟨g,off,none⟩ v).run P w=.ok () (w.setRow g (BF cs off v.cells.toList).toArray):=by
 have A:=run_storeCells_at P g off e v.cells.toList 0 cs.toArray w E (by simp [D]; omega) h1
 simp only [Nat.add_zero] at A
 simp [storeVar,O,D,A,BF]
theorem bx.store {u:World} {b:Nat} {cs:List Value} {e:TypeId} (h:bx u b cs e) (cs':List Value):bx (u.setRow b cs'.toArray) b cs' e:=setRow_heap u b _ _ e _ h
theorem vt {t n:Nat} (V:∀ w,(sizeOf t).run P w=.ok n w) (J:St X w0 w M) (i:Nat) {u:World} {b:Nat} {cs cs':List Value} {e:TypeId} (O:bx u b cs e) (off:Nat) (A:K N L a) {x y:Operand} {p:Addr} {v:Value}
    (hi:M[i]? = some ([b],u)) (hg:gd L ops o.guard=some true) (hd:o.dst=none)
    (ho:o.op=.store t x y) (hp':ev L x=some (.pointer (some p))) (hp:p=(⟨b,0,none⟩:Addr).add off) (hv:ev L y=some v) (hc:BF cs off v.cells.toList=cs')
    (hn:v.cells.size=n) (hle:Nat.ble (off+n) cs.length=true) (h1:v.cells.toList.all Value.oneCell'=true)
    (h:∀ w' a,K N L a→Ext [b] w w'→St X w0 w' (M.set i ([b],w'))→bx w' b cs' e→wpList P ops Q rest a w'):wpList P ops Q (o::rest) a w:=by
 subst hc
 have D:=O.agr (J.a i hi) AD
 have E:=J.ltF i hi b AD
 refine mW A hg hd (w':=w.setRow b (BF cs off v.cells.toList).toArray) ?_ λa A=>h _ a A (Ext.setRow _ _) (J.mut i hi (Ext.setRow _ _) [b] (by simp; exact E) AD) (D.store _)
 subst hp
 have U:=Yw (P:=P) (off:=off) V D hn (Nat.le_of_ble_eq_true hle) (λu T=>List.all_eq_true.1 h1 u T)
 simp [execOp,ho,A.ev hp',A.ev hv,Instr.storeAt,Instr.sureAddr,HA,U]
theorem oq {α:Type} [Enc α] {w:World}:∀ {Gs:List (List Nat)} {cells:List Value} {A:List α} {i:Nat} {x y:α} {G:List Nat} {cs:List Value},Z8 w Gs cells A→A[i]? = some x→ow w G cs y →
    Z8 w (Gs.set i G) (BF cells (i*Enc.sz α) cs) (A.set i y)
 | [],_,[],i,x,y,G,cs,h,hx,_=>by simp at hx
 | H::Gs,cells,x0::A,0,x,y,G,cs,⟨h,h'⟩,hx,hy=>by
  have hl:=Enc.rd_sz (Enc.ow_rd hy)
  refine ⟨?_,?_⟩
  · simp only [Nat.zero_mul,BF,List.take_zero,List.nil_append]
    rw [List.take_left' hl]; exact hy
  · simp only [Nat.zero_mul,BF,List.take_zero,List.nil_append,Nat.zero_add]
    rw [List.drop_left' hl,hl]; exact h'
 | H::Gs,cells,x0::A,i+1,x,y,G,cs,⟨h,h'⟩,hx,hy=>by
  have D:=Enc.rd_sz (Enc.ow_rd h)
  have E:Enc.sz α≤cells.length:=by simp at D; omega
  have J:=oq h' (by simpa using hx) hy
  refine ⟨?_,?_⟩
  · have:(BF cells ((i+1)*Enc.sz α) cs).take (Enc.sz α)=cells.take (Enc.sz α):=by
      simp only [BF,List.append_assoc]
      rw [List.take_append_of_le_length (by simp [Nat.add_mul]; omega),List.take_take]
      congr 1
      simp [Nat.add_mul]
    rw [this]; exact h
  · have:(BF cells ((i+1)*Enc.sz α) cs).drop (Enc.sz α)=BF (cells.drop (Enc.sz α)) (i*Enc.sz α) cs:=by
      simp only [BF,List.append_assoc]
      rw [List.drop_append_of_le_length (by simp [Nat.add_mul]; omega),List.drop_take,List.drop_drop]
      congr 3
      · simp [Nat.add_mul]
      · simp [Nat.add_mul]; omega
    rw [this]; exact J
 | [],_,_::_,_,_,_,_,_,h,_,_=>h.elim
 | _::_,_,[],_,_,_,_,_,h,_,_=>h.elim
theorem l1 {Gs:List (List Nat)} (h:Gs.flatten=[]) (i:Nat):(Gs.set i []).flatten=[]:=by
 rw [List.flatten_eq_nil_iff] at *
 intro l hl
 rcases List.mem_or_eq_of_mem_set hl with A | A
 · exact h l A
 · exact A
theorem MR {α:Type} [Flat α] {w:World}:∀ {Gs:List (List Nat)} {cells:List Value} {A:List α},Z8 w Gs cells A→Gs.flatten=[]
 | [],_,[],_=>rfl
 | G::Gs,cells,x::A,⟨h,h'⟩=>by rw [List.flatten_cons,MR h',h.1]; rfl
 | [],_,_::_,h=>h.elim
 | _::_,_,[],h=>h.elim
def DB {α:Type} (A:List α) (n:Int) (y:α):List α:=A.set n.toNat y
theorem Yq {α:Type} [Flat α] {t n sz:Nat} (hs:∀ w,(sizeOf t).run P w=.ok n w) {xs:List α} {x y:α} {ixn:Int} (hx:ix xs ixn=some x) (hM:St X w0 w M) (i:Nat) {u:World} {F:List Nat} {v:Value}
    (hown:ow u F [v] xs) (off:Nat) (hK:K N L a) {xo yo:Operand} {p:Addr} {c:Value}
    (hi:M[i]? = some (F,u)) (hg:gd L ops o.guard=some true) (hd:o.dst=none)
    (ho:o.op=.store t xo yo) (hp':ev L xo=some (.pointer (some p))) (hp:p=(KD v (Flat.sz α) ixn.toNat).add off) (hv:ev L yo=some c) (hc:BF (Flat.e x) off c.cells.toList=Flat.e y)
    (hn:c.cells.size=n) (E:sz=Flat.sz α) (hle:Nat.ble (off+n) sz=true) (h1:c.cells.toList.all Value.oneCell'=true)
    (h:∀ w' a,K N L a→Ext F w w'→St X w0 w' (M.set i (F,w'))→ow w' F [v] (DB xs ixn y)→wpList P ops Q rest a w'):wpList P ops Q (o::rest) a w:=by
 obtain ⟨_,_,Aa⟩:=AG hx
 have Al:=Enc.ow_agr hown (hM.a i hi)
 have Ag:=hM.ltF i hi
 have Am:=Nat.le_of_ble_eq_true hle
 subst E
 rcases Al with ⟨_,rfl,_⟩ | ⟨g,A,cap,D,e,Gs,Ad,h2,h3,h4,h5,h6,rfl,h8⟩
 · simp at Aa
 · simp only [List.cons.injEq,and_true] at Ad
   subst Ad
   have E:Enc.sz α=Flat.sz α:=rfl
   rw [E] at h5 h6
   have O:=MR h6
   obtain ⟨_,Ac⟩:=ZS h6
   rw [E] at Ac
   have T:bx w g D.toList e:=h4
   have hk:ixn.toNat<xs.length:=AC
   have V:A+ixn.toNat*Flat.sz α+off+n≤D.toList.length:=by
    have:(ixn.toNat+1)*Flat.sz α≤cap*Flat.sz α:=Nat.mul_le_mul_right _ AC
    rw [Nat.add_mul] at this
    simp; omega
   have hr:=Yw (P:=P) (off:=A+ixn.toNat*Flat.sz α+off) hs T hn V (λu hu=>List.all_eq_true.1 h1 u hu)
   have Ak:bx (w.setRow g (BF D.toList (A+ixn.toNat*Flat.sz α+off) c.cells.toList).toArray) g (BF D.toList (A+ixn.toNat*Flat.sz α+off) c.cells.toList) e:=T.store _
   have Af:Ext (g::Gs.flatten) w (w.setRow g (BF D.toList (A+ixn.toNat*Flat.sz α+off) c.cells.toList).toArray):=(Ext.setRow g _).wk AD
   have Ae:ow (w.setRow g (BF D.toList (A+ixn.toNat*Flat.sz α+off) c.cells.toList).toArray) (g::Gs.flatten) [.slice (some ⟨g,A,none⟩) xs.length cap] (DB xs ixn y):=by
    have U:=oq (w:=w) h6 Aa (⟨rfl,rfl⟩:ow w [] (Flat.e y) y)
    have Y:BF ((D.toList.drop A).take (xs.length*Flat.sz α)) (ixn.toNat*Flat.sz α) (Flat.e y) =
        ((BF D.toList (A+ixn.toNat*Flat.sz α+off) c.cells.toList).drop A).take (xs.length*Flat.sz α):=by
     have Aj:=(eE (kS (F:=Gs.flatten) (λb T=>T) h6) Aa)
     obtain ⟨G,_,Ah⟩:=Aj
     have Ai:(((D.toList.drop A).take (xs.length*Flat.sz α)).drop (ixn.toNat*Flat.sz α)).take (Flat.sz α)=Flat.e x:=Ah.2
     rw [← hc,← Ai]
     have Z:(ixn.toNat+1)*Flat.sz α≤xs.length*Flat.sz α:=Nat.mul_le_mul_right _ AC
     rw [Nat.add_mul,Nat.one_mul] at Z
     have An:c.cells.toList.length=n:=by simp [hn]
     have Ab:((D.toList.drop A).take (xs.length*Flat.sz α)).length=xs.length*Flat.sz α:=Ac
     have J:xs.length*Flat.sz α≤(D.toList.drop A).length:=by rw [List.length_take] at Ab; omega
     have Ao:A+xs.length*Flat.sz α≤D.toList.length:=by rw [List.length_drop] at J; omega
     rw [jG _ _ _ _ _ AC (by rw [Ab]; omega),Nat.add_assoc A,Zs _ _ _ _ AC,Zo _ _ _ _ AC J]
    rw [E,Y] at U
    refine .inr ⟨g,A,cap,_,e,Gs.set ixn.toNat [],by simp [DB],by simp [DB]; exact h2,h3,Ak,?_,?_,?_,h8⟩
    · simp only [List.size_toArray]; rw [Ty _ _ _ (by simp [hn] at V ⊢; omega)]; simpa [E] using h5
    · rw [show (DB xs ixn y).length=xs.length by simp [DB]]
      refine YD ?_ U
      rw [l1 O]; intro b T; simp at T
    · rw [l1 O,O]
   refine mW hK hg hd (w':=w.setRow g (BF D.toList (A+ixn.toNat*Flat.sz α+off) c.cells.toList).toArray) ?_ λa hK=>h _ a hK Af (hM.mut i hi Af _ (λb T=>⟨.inl T,by simp; exact Ag b T⟩) h8) Ae
   subst hp
   simp only [execOp,ho,hK.ev hp',hK.ev hv,Instr.storeAt,Instr.sureAddr,Sem.run_bind,Sem.run_pure,Result.andThen_ok,KD,HA,hr]
end
end Go.Proofs.YtdgpkmgnjdpieaaGreatDoor
set_option linter.unusedSimpArgs false
set_option linter.unusedVariables false
namespace Go.Proofs.YtdgpkmgnjdpieaaGreatDoor
open Go Go.RowKit
open Enc (rd ow)
section
variable {P:Program} {ops:Array Oper} {Q:Exit→Act→World→Prop} {rest:List Oper} {o:Oper} {a:Act} {w:World} {N:Nat} {L:List (Nat×Value)}
variable {X:List Nat} {w0:World} {M:List (List Nat×World)} {d:Nat} {S:World→Prop} {fuel:Nat} {listed:Array Bool}
theorem eQ {D:Nat} {l:List Oper} (Z:List Nat) {n:Nat} (O:P.follows .mixedOrders=true) (J:St X w0 w M) (E:l.length=n)
    (h:∀ A,St X w0 A M→wpAnyH P .any l.toArray Q (Ext Z A) n (List.replicate n false).toArray a A):(Code.region D l.toArray true).wp P Q a w:=by
 refine wp_region_held (S:=Ext Z w.drew) O ?_
 have:=h w.drew (J.step (Ext.drew w))
 subst E
 simpa using this
theorem kG (A:K N L a) (i:Nat) {v:Value} (hi:ops[i]? = some o) (E:Region.noSelect ops=true) (J:Region.free .any ops listed i=true) (D:(Region.ready .any ops listed).contains i=true)
    (hg:gd L ops o.guard=some true) (hd:o.dst=some d) (hN:Nat.blt d N=true) (hS:S w) (hQ:∀ c a w,Q (.panic c) (a.put o.dst v) w→Q (.panic c) a w)
    (hy:∀ w,S w→(execOp a.eval o).run P w=.ok (.value v) w) (h:∀ a,K N ((d,v)::L) a→wpAnyH P .any ops Q S fuel (listed.setIfInBounds i true) a w):wpAnyH P .any ops Q S (fuel+1) listed a w :=
 wpAnyH_take hi E J D hQ (.inl ⟨A.wanted hg,hy⟩) hS (by rw [hd]; exact h _ (A.put d hN v))
theorem q6 (A:K N L a) (i:Nat) {v:Value} (hi:ops[i]? = some o) (E:Region.noSelect ops=true) (J:Region.free .any ops listed i=true) (D:(Region.ready .any ops listed).contains i=true)
    (hg:gd L ops o.guard=some true) (hd:o.dst=some d) (hN:Nat.blt d N=true) (hS:S w) (hQ:∀ c a w,Q (.panic c) (a.put o.dst v) w→Q (.panic c) a w)
    (hp:LB L o.op=some v) (h:∀ a,K N ((d,v)::L) a→wpAnyH P .any ops Q S fuel (listed.setIfInBounds i true) a w):wpAnyH P .any ops Q S (fuel+1) listed a w :=
 kG A i hi E J D hg hd hN hS hQ (λw _=>aE A hp P w) h
theorem m3 (A:K N L a) (i:Nat) (hi:ops[i]? = some o) (E:Region.noSelect ops=true) (J:Region.free .any ops listed i=true) (D:(Region.ready .any ops listed).contains i=true)
    (hg:gd L ops o.guard=some false) (hd:o.dst=some d) (hN:Nat.blt d N=true) (hS:S w) (hQ:∀ c a w,Q (.panic c) (a.put o.dst undef) w→Q (.panic c) a w)
    (h:∀ a,K N ((d,undef)::L) a→wpAnyH P .any ops Q S fuel (listed.setIfInBounds i true) a w):wpAnyH P .any ops Q S (fuel+1) listed a w :=
 wpAnyH_take hi E J D hQ (.inr ⟨A.wanted hg,rfl⟩) hS (by rw [hd]; exact h _ (A.put d hN undef))
theorem Sc {i:Nat} {E:Act→World→Prop} (hi:ops[i]? = some o) (h:wpList P ops (Exit.then E Q) [o] a w):wpOp P ops Q i E a w:=by
 unfold wpOp
 simp only [hi]
 simp only [wpList] at h
 split at h
 · rename_i A
   rw [if_pos A]
   rcases h with h | ⟨O,J⟩
   · left
     unfold Oper.wp at *
     generalize (execOp a.eval o).run P w=r at *
     cases r with
     | ok n w' =>
      cases n <;> simp only [Oper.upon] at h ⊢ <;>
       first
        | exact h
        | exact Calls.mono h (λe _ D=>by cases e <;> exact D)
        | exact Rows.mono h (λ_ _ D=>D)
     | halt x w'=>cases x <;> simp only [Oper.upon] at h ⊢ <;> exact h
   · exact .inr ⟨O,J⟩
 · rename_i A
   rw [if_neg A]
   exact h
theorem zi (i:Nat) (E:Region.ready .any ops listed=[i]) (hi:ops[i]? = some o)
    (h:wpList P ops (Exit.then (λD w'=>S w'∧wpAnyH P .any ops Q S fuel (listed.setIfInBounds i true) D w') Q) [o] a w):wpAnyH P .any ops Q S (fuel+1) listed a w :=
 wpAnyH_all E AD λj A=>by
  simp only [List.mem_singleton] at A
  subst A
  exact Sc hi h
theorem yT (i j:Nat) {E:Oper} (O:Region.ready .any ops listed=[i,j]) (hi:ops[i]? = some o) (J:ops[j]? = some E)
    (h:wpList P ops (Exit.then (λA w'=>S w'∧wpAnyH P .any ops Q S fuel (listed.setIfInBounds i true) A w') Q) [o] a w)
    (h':wpList P ops (Exit.then (λA w'=>S w'∧wpAnyH P .any ops Q S fuel (listed.setIfInBounds j true) A w') Q) [E] a w):wpAnyH P .any ops Q S (fuel+1) listed a w :=
 wpAnyH_all O AD λk D=>by
  simp only [List.mem_cons,List.not_mem_nil,or_false] at D
  rcases D with rfl | rfl
  · exact Sc hi h
  · exact Sc J h'
theorem vi (i j k:Nat) {E D:Oper} (O:Region.ready .any ops listed=[i,j,k]) (hi:ops[i]? = some o) (U:ops[j]? = some E) (T:ops[k]? = some D)
    (h:wpList P ops (Exit.then (λA w'=>S w'∧wpAnyH P .any ops Q S fuel (listed.setIfInBounds i true) A w') Q) [o] a w)
    (h':wpList P ops (Exit.then (λA w'=>S w'∧wpAnyH P .any ops Q S fuel (listed.setIfInBounds j true) A w') Q) [E] a w)
    (h'':wpList P ops (Exit.then (λA w'=>S w'∧wpAnyH P .any ops Q S fuel (listed.setIfInBounds k true) A w') Q) [D] a w):wpAnyH P .any ops Q S (fuel+1) listed a w :=
 wpAnyH_all O AD λm J=>by
  simp only [List.mem_cons,List.not_mem_nil,or_false] at J
  rcases J with rfl | rfl | rfl
  · exact Sc hi h
  · exact Sc U h'
  · exact Sc T h''
theorem we (A:Region.ready .any ops listed=[]) (h:Q .normal a w):wpAnyH P .any ops Q S fuel listed a w:=wpAnyH_done A h fuel
theorem St.az {E:World} (h:St X w0 E M) (i j:Nat) {F G:List Nat} {u v:World} (hi:M[i]? = some (F,u)) (O:M[j]? = some (G,v)) (A:Nat.beq i j=false) (T:Ext G E w):Agr F u w:=λb D=>by
 have U:=h.a i hi b D
 have J:=Y9 h.nd (λe=>by subst e; simp at A) hi O b D
 exact (T.blk b (h.ltF i hi b D) J).trans U
theorem St.az0 {J:World} (h:St X w0 J M) (j:Nat) {F G:List Nat} {v:World} (V:M[j]? = some (G,v)) (T:X=[]) (A:∀ b∈F,b<w0.heap.size) (O:Ext G J w):Agr F w0 w:=λb D=>by
 subst T
 have Y:=h.a00 A b D
 refine (O.blk b (Nat.lt_of_lt_of_le (A b D) h.ext.size) ?_).trans Y
 intro U
 rcases h.lo b (HV V U) with E | E
 · simp at E
 · have:=A b D; omega
theorem A5 {α:Type} [Enc α] {F:List Nat} {v:Value} {xs:List α} {w:World} (h:rd w F [v] xs):v.oneCell'=true:=Enc.rd_one h v AD
theorem CJ {α:Type} [Enc α] {F:List Nat} {v:Value} {xs:List α} {w:World} (h:rd w F [v] xs):v.cells=#[v]:=by
 obtain ⟨_,cap,A,_⟩:=h
 have:=(List.cons.inj A).1
 subst this
 rfl
theorem AH {p:Value→Bool} {x:Value} {l:List Value} (h:p x=true) (k:l.all p=true):(x::l).all p=true:=by simp [h,k]
theorem DR {p:Value→Bool}:([]:List Value).all p=true:=rfl
theorem CM {t:Nat} (E:∀ w,(sizeOf t).run P w=.ok 1 w) (J:St X w0 w M) (i:Nat) {u:World} {b:Nat} {cs cs':List Value} {e:TypeId} (D:bx u b cs e) (off:Nat) (A:K N L a) {x y:Operand} {p:Addr} {v:Value}
    (hvc:v.cells=#[v]) (hvo:v.oneCell'=true)
    (hi:M[i]? = some ([b],u)) (hg:gd L ops o.guard=some true) (hd:o.dst=none)
    (ho:o.op=.store t x y) (hp':ev L x=some (.pointer (some p))) (hp:p=(⟨b,0,none⟩:Addr).add off) (hv:ev L y=some v) (hc:BF cs off [v]=cs')
    (hle:Nat.ble (off+1) cs.length=true)
    (h:∀ w' a,K N L a→Ext [b] w w'→St X w0 w' (M.set i ([b],w'))→bx w' b cs' e→wpList P ops Q rest a w'):wpList P ops Q (o::rest) a w :=
 vt E J i D off A hi hg hd ho hp' hp hv (by rw [hvc]; exact hc) (by rw [hvc]; rfl) hle (by rw [hvc]; simp [hvo]) h
theorem xL {b n:Nat} (h:n≤b):∀ y∈[b],n≤y:=by simpa using h
theorem BU {cs:List Value} {z:Value} (E:St X w0 w M) (A:K N L a) {e:TypeId} (D:∀ w,(zeroValue e).run P w=.ok z w)
    (hg:gd L ops o.guard=some true) (hd:o.dst=some d) (hN:Nat.blt d N=true)
    (ho:o.op=.alloc e) (hc:z.cells=cs.toArray)
    (h:∀ b w' a,K N ((d,.pointer (some ⟨b,0,none⟩))::L) a→St X w0 w' (([b],w')::M)→Ext [] w w'→bx w' b cs e→w.heap.size≤b→wpList P ops Q rest a w'):wpList P ops Q (o::rest) a w:=by
 refine TZ A hg hd hN (v:=.pointer (some ⟨w.heap.size,0,none⟩)) (w':=w.alloc (.cells cs.toArray e)) ?_ λa A=>h _ _ a A (E.new (Ext.alloc _ _) _ (O0 _ _ _) AD) (Ext.alloc _ _) (heap_alloc_new w _) (Nat.le_refl _)
 simp [execOp,ho,D,Instr.alloc,newVar,newRow,hc]
def FD (P:Program) (t f off n:Nat) (D:Bool):Prop :=
 ∃ E A,P.underlying t=some (.struct E)∧E[f]? = some A∧A.offset=off∧(∀ w,(isAgg A.type).run P w=.ok D w)∧∀ w,(sizeOf A.type).run P w=.ok n w
theorem wj {t f off n:Nat} (D:FD P t f off n false) (A:K N L a) {x:Operand} {cs:Array Value} {v:Value} (V:o.op=.field t x f) (E:ev L x=some (.agg cs)) (U:cs[off]? = some v) :
    (execOp a.eval o).run P w=.ok (.value v) w:=by
 obtain ⟨_,_,J,T,rfl,O,_⟩:=D
 simp [execOp,V,A.ev E,Instr.field,run_underlying J,T,asAgg,part,O,U]
def BT (P:Program) (t:TypeId) (z:List Value) (A:Array (Nat×Nat)):Prop :=
 (∀ w,(zeroValue t).run P w=.ok (.agg z.toArray) w)∧∃ D,P.underlying t=some (.struct D) ∧
  ∀ w,(D.mapM (λf=>(do pure (f.offset,← sizeOf f.type):Sem (Nat×Nat)))).run P w=.ok A w
theorem AN {t:TypeId} {z:List Value} {A:Array (Nat×Nat)} (E:BT P t z A) (T:K N L a) {ps:List (Nat×Operand)} {vs:List Value} {cs:Array Value}
    (ho:o.op=.build t ps.toArray) (hv:evs L (ps.map (·.2))=some vs) (hf:Instr.fill (A[·]?) z.toArray ((ps.map (·.1)).zip vs)=some cs) :
    (execOp a.eval o).run P w=.ok (.value (.agg cs)) w:=by
 obtain ⟨O,_,J,U⟩:=E
 have D:(ps.toArray.map λp=>(p.1,a.eval p.2))=((ps.map (·.1)).zip vs).toArray:=by rw [List.map_toArray,px T hv]
 simp only [execOp,ho,D,Instr.build,O,Sem.run_bind,Result.andThen_ok,run_underlying J w,U,Value.cells]
 rw [hf]
 rfl
theorem KW {p:Addr} (A:K N L a) {x:Operand} (E:o.op=.nilCheck x) (D:ev L x=some (.pointer (some p))) :
    (execOp a.eval o).run P w=.ok (.value (.pointer (some p))) w:=by
 simp [execOp,E,A.ev D]
def RA {α:Type} (A:List α) (lo hi:Int):Option (List α):=if 0≤lo∧lo≤hi∧hi≤A.length then some ((A.drop lo.toNat).take (hi.toNat - lo.toNat)) else none
theorem lS {α:Type} [Enc α] {w:World} {F:List Nat}:∀ (n:Nat) {A:List α} {cells:List Value},jr w F cells A→jr w F (cells.drop (n*Enc.sz α)) (A.drop n)
 | 0,A,cells,h=>by simpa using h
 | n+1,[],cells,h=>by simp [jr]
 | n+1,x::A,cells,⟨_,h⟩=>by
  have:=lS n h
  rw [List.drop_drop] at this
  simpa [Nat.add_mul,Nat.add_comm] using this
theorem pM {α:Type} [Enc α] {w:World} {F:List Nat}:∀ (n:Nat) {A:List α} {cells:List Value},jr w F cells A→jr w F cells (A.take n)
 | 0,A,cells,h=>by simp [jr]
 | n+1,[],cells,h=>by simp [jr]
 | n+1,x::A,cells,⟨h,h'⟩=>⟨h,pM n h'⟩
theorem Zl {α:Type} [Enc α] {u:World} {F:List Nat} {ao:Option Addr} {cap:Nat} {xs ys:List α} {lo hi:Int} (h:rd u F [.slice ao xs.length cap] xs) (hx:RA xs lo hi=some ys) :
    rd u F [.slice (if cap=lo.toNat then ao else ao.map (·.add (lo.toNat*Enc.sz α))) (hi.toNat - lo.toNat) (cap - lo.toNat)] ys:=by
 unfold RA at hx
 split at hx
 · rename_i Y
   simp only [Option.some.injEq] at hx
   subst hx
   obtain ⟨_,_,D,_,_,U,O⟩:=h
   simp only [List.cons.injEq,Value.slice.injEq,and_true,true_and] at D
   obtain ⟨rfl,rfl⟩:=D
   have A:((xs.drop lo.toNat).take (hi.toNat - lo.toNat)).length=hi.toNat - lo.toNat:=AJ
   refine ⟨_,_,by rw [A],by rw [A]; omega,AC,U,?_⟩
   rcases O with rfl | ⟨g,off,c,e,J,rfl,V,E,hl⟩
   · exact .inl AD
   · by_cases T:hi.toNat - lo.toNat=0
     · exact .inl (by rw [T]; simp)
     · refine .inr ⟨g,off+lo.toNat*Enc.sz α,c,e,J,?_,V,E,?_⟩
       · rw [if_neg AC]; simp [HA]
       · have:=pM (hi.toNat - lo.toNat) (lS lo.toNat hl)
         rw [List.drop_drop] at this
         exact this
 · simp at hx
theorem zJ {α:Type} [Enc α] {u:World} {F:List Nat} {v:Value} {xs ys:List α} {lo hi:Int} {k k':IntKind} (hf:rd u F [v] xs) (hx:RA xs lo hi=some ys) (A:K N L a) {t:TypeId} (D:TS P t (Enc.sz α)) {x i j:Operand}
    (hg:gd L ops o.guard=some true) (hd:o.dst=some d) (hN:Nat.blt d N=true)
    (ho:o.op=.slice t x (some i) (some j) none) (hv:ev L x=some v) (hi':ev L i=some (.int k lo)) (hj:ev L j=some (.int k' hi))
    (h:∀ E a,K N ((d,E)::L) a→rd u F [E] ys→wpList P ops Q rest a w):wpList P ops Q (o::rest) a w:=by
 obtain ⟨_,cap,rfl,_,_⟩:=MI hf
 obtain ⟨e,D,U⟩:=D
 have T:=Zl hf hx
 unfold RA at hx
 split at hx
 · rename_i V
   refine TZ A hg hd hN ?_ λa A=>h _ a A T
   have J:0≤hi∧hi≤(cap:Int):=AC
   have O:0≤lo∧lo≤max hi 0:=AC
   simp [execOp,ho,Instr.sliceAt,Instr.slice,Instr.sliceBounds,Instr.sliceBound,A.ev hv,A.ev hi',A.ev hj,run_underlying D,asIntOf,J,O,U]
 · simp at hx
theorem ax {α:Type} [Enc α] {u:World} {F:List Nat} {v:Value} {xs ys:List α} {hi:Int} {k':IntKind} (hf:rd u F [v] xs) (hx:RA xs 0 hi=some ys) (A:K N L a) {t:TypeId} (D:TS P t (Enc.sz α)) {x j:Operand}
    (hg:gd L ops o.guard=some true) (hd:o.dst=some d) (hN:Nat.blt d N=true)
    (ho:o.op=.slice t x none (some j) none) (hv:ev L x=some v) (hj:ev L j=some (.int k' hi))
    (h:∀ E a,K N ((d,E)::L) a→rd u F [E] ys→wpList P ops Q rest a w):wpList P ops Q (o::rest) a w:=by
 obtain ⟨_,cap,rfl,_,_⟩:=MI hf
 obtain ⟨e,D,T⟩:=D
 have O:=Zl hf hx
 unfold RA at hx
 split at hx
 · rename_i U
   refine TZ A hg hd hN ?_ λa A=>h _ a A O
   have J:0≤hi∧hi≤(cap:Int):=AC
   simp [execOp,ho,Instr.sliceAt,Instr.slice,Instr.sliceBounds,Instr.sliceBound,A.ev hv,A.ev hj,run_underlying D,asIntOf,J,T]
 · simp at hx
theorem s5 {α:Type} [Enc α] {u:World} {F:List Nat} {v:Value} {xs ys:List α} {lo:Int} {k:IntKind} (hf:rd u F [v] xs) (hx:RA xs lo xs.length=some ys) (A:K N L a) {t:TypeId} (D:TS P t (Enc.sz α)) {x i:Operand}
    (hg:gd L ops o.guard=some true) (hd:o.dst=some d) (hN:Nat.blt d N=true)
    (ho:o.op=.slice t x (some i) none none) (hv:ev L x=some v) (hi':ev L i=some (.int k lo))
    (h:∀ E a,K N ((d,E)::L) a→rd u F [E] ys→wpList P ops Q rest a w):wpList P ops Q (o::rest) a w:=by
 obtain ⟨_,cap,rfl,_,_⟩:=MI hf
 obtain ⟨e,D,T⟩:=D
 have O:=Zl hf hx
 unfold RA at hx
 split at hx
 · rename_i U
   refine TZ A hg hd hN ?_ λa A=>h _ a A (by simpa using O)
   have J:0≤lo∧lo≤(xs.length:Int):=AC
   simp [execOp,ho,Instr.sliceAt,Instr.slice,Instr.sliceBounds,Instr.sliceBound,A.ev hv,A.ev hi',run_underlying D,asIntOf,J,T]
 · simp at hx
end
def AA {α β:Type} (m:Option α) (k:α→Option β):Option β:=match m with | some x=>k x | none=>none
theorem XF {α β:Type} {m:Option α} {k:α→Option β} {r:β} (h:AA m k=some r):∃ x,m=some x∧k x=some r:=by
 cases m with
 | none=>simp [AA] at h
 | some x=>exact ⟨x,rfl,h⟩
def pU (y:Int):Option Unit:=if y≠0 then some () else none
theorem jo {y:Int} {u:Unit} (h:pU y=some u):y≠0:=by unfold pU at h; split at h; assumption; simp at h
theorem Wp {α:Type} {b:Bool} {x y r:α} (A:b=true) (h:(bif b then x else y)=r):x=r:=by subst A; exact h
theorem Ws {α:Type} {b:Bool} {x y r:α} (A:b=false) (h:(bif b then x else y)=r):y=r:=by subst A; exact h
theorem Tz {p:Prop} (b:Bool) (A:b=true→p) (D:b=false→p):p:=by cases b; exact D rfl; exact A rfl
end Go.Proofs.YtdgpkmgnjdpieaaGreatDoor
set_option linter.unusedSimpArgs false
set_option linter.unusedVariables false
namespace Go.Proofs.YtdgpkmgnjdpieaaGreatDoor
open Go Go.RowKit
open Enc (rd ow)
section
variable {P:Program} {Q:Exit→Act→World→Prop} {next:Act→World→Prop} {a:Act} {w:World} {id id':Nat}
theorem AF (h:next a w):Exit.then next Q .normal a w:=h
theorem nu (h:Q (.exit id) a w):Exit.then next Q (.exit id) a w:=h
theorem Pw (h:Q .ret a w):Exit.then next Q .ret a w:=h
theorem RK (h:Q .normal a w):Exit.inBlock id Q .normal a w:=h
theorem tZ (h:Q .normal a w):Exit.inBlock id Q (.exit id) a w:=by simpa [Exit.inBlock] using h
theorem s8 (A:Nat.beq id' id=false) (h:Q (.exit id') a w):Exit.inBlock id Q (.exit id') a w:=by
 have:¬ id'=id:=λe=>by subst e; simp at A
 simpa [Exit.inBlock,this] using h
theorem r3 (h:Q .ret a w):Exit.inBlock id Q .ret a w:=h
end
def jm (a:Act):ResultVar→Sem Value
 | .tmp t=>pure (a.tmps.getD t undef)
 | .cell x t=>do loadVar t (← asAddr (a.tmps.getD x undef))
def RV (P:Program) (a:Act) (w:World) (A:ResultVar) (v:Value):Prop:=(jm a A).run P w=.ok v w
section
variable {P:Program} {fn:Func} {R:Ending→World→Prop} {a:Act} {w:World} {N:Nat} {L:List (Nat×Value)}
theorem K.getD (A:K N L a) {t:Nat} {v:Value} (h:lk L t=some v):a.tmps.getD t undef=v:=by
 simp [Array.getD_eq_getD_getElem?,A.at_ _ _ h]
theorem RV.tmp (A:K N L a) {t:Nat} {v:Value} (h:lk L t=some v):RV P a w (.tmp t) v:=by
 simp [RV,jm,A.getD h,-Array.getD_eq_getD_getElem?]
theorem RV.c1 (D:K N L a) {t ty:Nat} {p:Addr} {v:Value} {r:List Value} (h:lk L t=some (.pointer (some p))) (A:T1 P ty) (E:PtAt w p (v::r)):RV P a w (.cell t ty) v:=by
 simp [RV,jm,D.getD h,asAddr,l0 A E,-Array.getD_eq_getD_getElem?]
theorem RV.cA (E:K N L a) {t ty n:Nat} {p:Addr} {cs:List Value} (h:lk L t=some (.pointer (some p))) (A:TA P ty n) (J:PtAt w p cs) (D:cs.length=n):RV P a w (.cell t ty) (.agg cs.toArray):=by
 simp [RV,jm,E.getD h,asAddr,l6 A J D,-Array.getD_eq_getD_getElem?]
theorem Y6 (A:List ResultVar) (D:fn.results=A.toArray):(results fn a.tmps).run P w =
    ((A.mapM (jm a)).run P w).andThen λvs w=>.ok (if h:vs.length=1 then vs[0] else .tuple vs.toArray) w:=by
 have e:(results fn a.tmps)=(do let vs ← fn.results.mapM (jm a); pure (if h:vs.size=1 then vs[0] else .tuple vs)):=by
  unfold results
  congr 1
 rw [e,D]
 simp only [List.mapM_toArray,Sem.run_bind,Sem.run_map,bind_map_left]
 rfl
theorem rQ (D:K N L a) (A:fn.results=#[]) (h:R (.returned (.tuple #[])) w):bodyPost P fn R .normal a w :=
 ⟨D.defers,_,results_none A _ _ _,h⟩
theorem C7 (J:K N L a) {A:ResultVar} {D:Value} (O:fn.results=#[A]) (E:RV P a w A D) (h:R (.returned D) w):bodyPost P fn R .ret a w:=by
 refine ⟨J.defers,D,?_,h⟩
 rw [Y6 [A] O]
 unfold RV at E
 simp [E]
theorem B4 (U:K N L a) {A D:ResultVar} {O J:Value} (V:fn.results=#[A,D]) (T:RV P a w A O) (E:RV P a w D J) (h:R (.returned (.tuple #[O,J])) w):bodyPost P fn R .ret a w:=by
 refine ⟨U.defers,_,?_,h⟩
 rw [Y6 [A,D] V]
 unfold RV at T E
 simp [T,E]
theorem aI (Z:K N L a) {A D E:ResultVar} {T O U:Value} (e:fn.results=#[A,D,E]) (Y:RV P a w A T) (J:RV P a w D O) (V:RV P a w E U) (h:R (.returned (.tuple #[T,O,U])) w):bodyPost P fn R .ret a w:=by
 refine ⟨Z.defers,_,?_,h⟩
 rw [Y6 [A,D,E] e]
 unfold RV at Y J V
 simp [Y,J,V]
end
section
variable {X:List Nat} {w0 w w':World} {M:List (List Nat×World)}
theorem St.addNil (h:St X w0 w M) {u:World}:St X w0 w (([],u)::M):=by
 have e:EC (([],u)::M)=EC M:=by simp [EC]
 refine ⟨h.ext,?_,by rw [e]; exact h.lt,by rw [e]; exact h.lo,by rw [e]; exact h.nd⟩
 intro p A
 rcases List.mem_cons.1 A with rfl | A
 · intro b D; simp at D
 · exact h.ok p A
theorem St.fresh (h:St [] w0 w M) (i:Nat) {F:List Nat} {u:World} (hi:M[i]? = some (F,u)):∀ b∈F,w0.heap.size≤b:=λb D=>by
 rcases h.lo b (HV hi D) with A | A
 · simp at A
 · exact A
theorem St.freshX (h:St X w0 w M) (i j:Nat) {F:List Nat} {u v:World} (hi:M[i]? = some (F,u)) (J:M[j]? = some (X,v)) (A:Nat.beq i j=false):∀ b∈F,w0.heap.size≤b:=λb E=>by
 rcases h.lo b (HV hi E) with D | D
 · exact absurd D (Y9 h.nd (λe=>by subst e; simp at A) hi J b E)
 · exact D
theorem St.start1 (w:World) {F:List Nat} (D:∀ b∈F,b<w.heap.size) (A:F.Nodup):St F w w [(F,w)]:=by
 have e:EC [(F,w)]=F:=by simp [EC]
 refine ⟨Ext.refl _ _,?_,by rw [e]; exact D,λb E=>.inl (by rw [e] at E; exact E),by rw [e]; exact A⟩
 intro p J
 simp only [List.mem_singleton] at J
 subst J; exact Agr.refl _ _
theorem St.split2at1 {A F G:List Nat} {u x:World} (h:St X w0 w ((A,x)::(F++G,u)::M)):St X w0 w ((A,x)::(F,u)::(G,u)::M):=by
 have e:EC ((A,x)::(F,u)::(G,u)::M)=EC ((A,x)::(F++G,u)::M):=by simp [EC]
 refine ⟨h.ext,?_,by rw [e]; exact h.lt,by rw [e]; exact h.lo,by rw [e]; exact h.nd⟩
 have J:=h.ok (F++G,u) AD
 intro p D
 simp only [List.mem_cons] at D
 rcases D with rfl | rfl | rfl | D
 · exact h.ok _ AD
 · exact J.sub (λb E=>by simp [E])
 · exact J.sub (λb E=>by simp [E])
 · exact h.ok p (by simp [D])
theorem St.join3 {A F G:List Nat} {x u v:World} (h:St X w0 w ((A,x)::(F,u)::(G,v)::M)):St X w0 w ((A++(F++G),w)::M):=by
 have e:EC ((A++(F++G),w)::M)=EC ((A,x)::(F,u)::(G,v)::M):=by simp [EC]
 refine ⟨h.ext,?_,by rw [e]; exact h.lt,by rw [e]; exact h.lo,by rw [e]; exact h.nd⟩
 intro p D
 simp only [List.mem_cons] at D
 rcases D with rfl | D
 · exact Agr.refl _ _
 · exact h.ok p (by simp [D])
theorem St.dis (h:St X w0 w M) (i j:Nat) {F G:List Nat} {u v:World} (hi:M[i]? = some (F,u)) (D:M[j]? = some (G,v)) (A:Nat.beq i j=false):∀ b∈F,b∉G :=
 Y9 h.nd (λe=>by subst e; simp at A) hi D
theorem St.dis0 (h:St [] w0 w M) (j:Nat) {F G:List Nat} {v:World} (J:M[j]? = some (G,v)) (A:∀ b∈F,b<w0.heap.size) (D:∀ b∈F,b∉([]:List Nat)):∀ b∈F,b∉G:=λb E O=>by
 have:=h.fresh j J b O
 have:=A b E
 omega
theorem St.disX (h:St X w0 w M) (j:Nat) {F G:List Nat} {v:World} (O:M[j]? = some (G,v)) (A:∀ b∈F,b<w0.heap.size) (J:∀ b∈F,b∉X):∀ b∈F,b∉G:=λb D T=>by
 rcases h.lo b (HV O T) with E | E
 · exact J b D E
 · have:=A b D; omega
theorem bx.lt1 {u:World} {b:Nat} {cs:List Value} {e:TypeId} (h:bx u b cs e):∀ x∈[b],x<u.heap.size:=by
 intro x A
 simp only [List.mem_singleton] at A
 subst A; exact Iv h
theorem Ext.lt1 {X:List Nat} {w w':World} (h:Ext X w w') {F:List Nat} (hl:∀ b∈F,b<w.heap.size):∀ b∈F,b<w'.heap.size:=λb A=>Nat.lt_of_lt_of_le (hl b A) h.size
theorem A3 {n:Nat} {F G:List Nat} (E:∀ b∈F,n≤b) (A:∀ b∈G,n≤b):∀ b∈F++G,n≤b:=λb D=>by
 rcases List.mem_append.1 D with h | h
 · exact E b h
 · exact A b h
end
theorem QX {α:Type} [Enc α] {w:World} {g:Nat} {e:TypeId} (h:bx w g [] e):ow w [g] [.slice (some ⟨g,0,none⟩) 0 0] ([]:List α) :=
 .inr ⟨g,0,0,_,e,[],rfl,Nat.le_refl _,by simp [maxLen],h,AD,by simp [Z8],rfl,AD⟩
class Arg (α:Type) where
 argv:World→Value→α→Prop
open Arg (argv)
instance:Arg Int:=⟨λ_ v x=>v=.int .i64 x⟩
instance {α:Type} [Enc α]:Arg (List α):=⟨λw v x=>∃ F,rd w F [v] x⟩
class Ret (β:Type) where
 retv:β→Value
open Ret (retv)
instance:Ret Bool:=⟨.bool⟩
instance:Ret Int:=⟨.int .i64⟩
def Wn {α β:Type} [Arg α] [Ret β] (P:Program) (w0:World) (fv:Value) (f:α→Option β):Prop :=
 ∃ A cap,fv=.func (.func A) #[] (List.toArray cap)∧(∀ (args:Array Value) (w:World),(callFunc A args).run P w=.ok (.enter A args) w) ∧
  ∀ w x v r,Ext [] w0 w→argv w v x→f x=some r→Calls P A (([v]++cap).toArray) w λe w'=>e=.returned (retv r)∧Ext [] w w'
def wG {α β:Type} [Arg α] [Ret β] (X:List Nat) (P:Program) (w0:World) (fv:Value) (f:α→Option β):Prop :=
 ∃ A cap,fv=.func (.func A) #[] (List.toArray cap)∧(∀ (args:Array Value) (w:World),(callFunc A args).run P w=.ok (.enter A args) w) ∧
  ∀ w x v r,Ext X w0 w→argv w v x→f x=some r→Calls P A (([v]++cap).toArray) w λe w'=>e=.returned (retv r)∧Ext [] w w'
def kJ {α α' β:Type} [Arg α] [Arg α'] [Ret β] (X:List Nat) (P:Program) (w0:World) (fv:Value) (f:α→α'→Option β):Prop :=
 ∃ A cap,fv=.func (.func A) #[] (List.toArray cap)∧(∀ (args:Array Value) (w:World),(callFunc A args).run P w=.ok (.enter A args) w) ∧
  ∀ w x E v D r,Ext X w0 w→argv w v x→argv w D E→f x E=some r→Calls P A (([v,D]++cap).toArray) w λe w'=>e=.returned (retv r)∧Ext [] w w'
section
variable {P:Program} {o:Oper} {a:Act} {w:World} {N:Nat} {L:List (Nat×Value)}
def zB (P:Program) (t:TypeId) (α:Type) [Flat α] [DecidableEq α]:Prop :=
 P.eqGuardType P.depth t=false∧∀ (w:World) (x y:α),(Op.equalIn 10000 t (.agg (Flat.e x).toArray) (.agg (Flat.e y).toArray)).run P w=.ok (decide (x=y)) w
theorem yN {α:Type} [Flat α] [DecidableEq α] {t t':TypeId} (hS:zB P t α) {x y:α} {vx vy:List Value} (hK:K N L a) {i j:Operand}
    (ho:o.op=.binOp .eql t i j t') (hv:ev L i=some (.agg vx.toArray)) (hi:ev L j=some (.agg vy.toArray)) (hx:vx=Flat.e x) (hy:vy=Flat.e y) :
    (execOp a.eval o).run P w=.ok (.value (.bool (decide (x=y)))) w:=by
 subst hx; subst hy
 simp only [execOp,ho,hK.ev hv,hK.ev hi,Sem.run_bind,run_eqGuard_agg w _ _ _ _ _ _ hS.1,Result.andThen_ok,run_eql_struct,hS.2,Sem.run_pure]
end
end Go.Proofs.YtdgpkmgnjdpieaaGreatDoor
set_option linter.unusedSimpArgs false
set_option linter.unusedVariables false
namespace Go.Proofs.YtdgpkmgnjdpieaaGreatDoor
open Go
theorem vo {P:Program} {l:List Char} {A:List (List Char)} (h:P.initOrder=String.ofList l) (D:wordsSigns l=A):wordsSigns P.initOrder.toList=A:=by rw [h,String.toList_ofList,D]
theorem yv {P:Program} {D:List (List Char)} (h:wordsSigns P.initOrder.toList = D) (A:(match behindMainWord D with | c :: _=>c == "cut".toList | []=>false) = true):P.make = some .cut:=by
 unfold Program.make
 rw [h]
 revert A
 cases behindMainWord D with
 | nil=>simp
 | cons c r =>
  intro A
  have:c = "cut".toList:=by simpa using A
  subst this
  rfl
theorem yA {P:Program} {D:List (List Char)} (h:wordsSigns P.initOrder.toList = D) (A:(match behindMainWord D with | c :: _=>c == "cut".toList | []=>false) = true):P.liftsFinal = false:=by
 unfold Program.liftsFinal Program.headLifts
 rw [h]
 revert A
 cases behindMainWord D with
 | nil=>simp
 | cons c r =>
  intro A
  have:c = "cut".toList:=by simpa using A
  subst this
  rfl
theorem wX {α:Type} [BEq α] {x y z:α} (h:x=y) (h2:(y==z)=true):(x==z)=true:=by rw [h]; exact h2
theorem oP {α:Type} [BEq α] {x y z:α} (h:x=y) (h2:(z==y)=true):(z==x)=true:=by rw [h]; exact h2
end Go.Proofs.YtdgpkmgnjdpieaaGreatDoor
