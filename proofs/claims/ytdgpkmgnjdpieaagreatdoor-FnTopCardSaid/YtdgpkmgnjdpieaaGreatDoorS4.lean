/- own lemmas -/
import Derived.Test.YtdgpkmgnjdpieaaGreatDoorS1
import Derived.OrdersHeld
import Derived.JoinedOf
set_option linter.unusedSimpArgs false
set_option linter.unusedVariables false
namespace Go.Proofs.YtdgpkmgnjdpieaaGreatDoor
open Go Go.RowKit
open Enc (rd ow)
theorem Ext.setRow {w:World} (g:Nat) (cs:Array Value):Ext [g] w (w.setRow g cs) :=
 ⟨rfl,rfl,rfl,AD,λk _ A=>setRow_other w g k cs (by simpa using A)⟩
def BF (l:List Value) (k:Nat) (vs:List Value):List Value:=l.take k++vs++l.drop (k+vs.length)
theorem S2 (l:List Value) (k:Nat) (vs:List Value) (h:k+vs.length≤l.length):(BF l k vs).length=l.length:=by
 simp [BF]; omega
theorem To (l:List Value) (k:Nat) (vs:List Value) (h:k+vs.length≤l.length) (j:Nat) :
    (BF l k vs)[j]? = if j<k then l[j]? else if j<k+vs.length then vs[j - k]? else l[j]?:=by
 simp only [BF]
 rw [List.getElem?_append,List.getElem?_append]
 simp only [List.length_append,List.length_take,List.getElem?_take,List.getElem?_drop]
 have e:min k l.length=k:=AC
 rw [e]
 by_cases A:j<k
 · have:j<k+vs.length:=AC
   simp [A,this]
 · by_cases D:j<k+vs.length
   · simp [A,D]
   · simp only [A,D,if_false]
     congr 1; omega
theorem Zi (l:List Value) (b q:Nat) (vs:List Value) (h:b+q+vs.length≤l.length):(BF l (b+q) vs).drop b=BF (l.drop b) q vs:=by
 apply List.ext_getElem?
 intro j
 rw [List.getElem?_drop,To _ _ _ h,To _ _ _ AJ,List.getElem?_drop]
 by_cases E:j<q
 · simp [E]
 · have D:¬ b+j<b+q:=AC
   by_cases J:j<q+vs.length
   · have A:b+j<b+q+vs.length:=AC
     simp only [E,D,J,A,if_true,if_false]
     congr 1; omega
   · have A:¬ b+j<b+q+vs.length:=AC
     simp only [E,D,J,A,if_false]
theorem Ze (l:List Value) (m q:Nat) (vs:List Value) (h:q+vs.length≤m) (E:m≤l.length):(BF l q vs).take m=BF (l.take m) q vs:=by
 apply List.ext_getElem?
 intro j
 rw [List.getElem?_take,To _ _ _ AC,To _ _ _ AJ,List.getElem?_take]
 by_cases c:j<m
 · simp [c]
 · have D:¬ j<q:=AC
   have A:¬ j<q+vs.length:=AC
   simp [c,D,A]
theorem jD (l:List Value) (p sz off:Nat) (vs:List Value) (h:off+vs.length≤sz) (hl:p+sz≤l.length) :
    BF l p (BF ((l.drop p).take sz) off vs)=BF l (p+off) vs:=by
 have J:((l.drop p).take sz).length=sz:=AJ
 have O:(BF ((l.drop p).take sz) off vs).length=sz:=by rw [S2 _ _ _ AC,J]
 apply List.ext_getElem?
 intro j
 rw [To l p _ AC,To l (p+off) vs AC,O]
 by_cases U:j<p
 · have:j<p+off:=AC
   simp [U,this]
 · by_cases V:j<p+sz
   · simp only [U,V,if_true,if_false]
     rw [To _ _ _ AC,List.getElem?_take,List.getElem?_drop]
     have T:j - p<sz:=AC
     have e:p+(j - p)=j:=AC
     simp only [T,if_true,e]
     by_cases E:j - p<off
     · have:j<p+off:=AC
       simp [E,this]
     · have D:¬ j<p+off:=AC
       by_cases Y:j - p<off+vs.length
       · have A:j<p+off+vs.length:=AC
         simp only [E,D,Y,A,if_true,if_false]
         congr 1; omega
       · have A:¬ j<p+off+vs.length:=AC
         simp only [E,D,Y,A,if_false]
   · have T:¬ j<p+off:=AC
     have E:¬ j<p+off+vs.length:=AC
     simp [U,V,T,E]
theorem bV (off:Nat):∀ (vs:List Value) (j:Nat) (cells:Array Value),off+j+vs.length≤cells.size →
    ((vs.zipIdx j).foldl (λcs (p:Value×Nat)=>cs.setIfInBounds (off+p.2) p.1) cells).toList=BF cells.toList (off+j) vs
 | [],j,cells,_=>by simp [BF]
 | v::vs,j,cells,h=>by
  simp only [List.zipIdx_cons,List.foldl_cons]
  have A:off+(j+1)+vs.length≤(cells.setIfInBounds (off+j) v).size:=by simp at h ⊢; omega
  rw [bV off vs (j+1) _ A]
  have:=list_seg_step cells.toList (off+j) v vs (by simp at h ⊢; omega)
  simp only [BF,Array.toList_setIfInBounds,List.length_cons]
  rw [show off+(j+1)=off+j+1 by omega]
  simpa [Nat.add_assoc] using this
theorem mh (sz:Nat):∀ (vs:List Value) (k:Nat) (cells:Array Value),(∀ v∈vs,v.cells.size=sz)→k*sz+vs.length*sz≤cells.size →
    ∃ out:Array Value,Instr.fill (λi=>some (i*sz,sz)) cells ((vs.zipIdx k).map λp=>(p.2,p.1))=some out ∧
     out.toList=BF cells.toList (k*sz) (vs.flatMap λv=>v.cells.toList)
 | [],k,cells,_,_=>⟨cells,by simp [Instr.fill],by simp [BF]⟩
 | v::vs,k,cells,hv,hl=>by
  have E:v.cells.size=sz:=hv v AD
  simp only [List.length_cons,Nat.add_mul,Nat.one_mul] at hl
  have T:(v.cells.zipIdx.foldl (λcs (p:Value×Nat)=>cs.setIfInBounds (k*sz+p.2) p.1) cells).toList=BF cells.toList (k*sz) v.cells.toList:=by
   have:=bV (k*sz) v.cells.toList 0 cells (by simp [E]; omega)
   rw [← Array.foldl_toList,Array.toList_zipIdx]
   simpa using this
  have J:(v.cells.zipIdx.foldl (λcs (p:Value×Nat)=>cs.setIfInBounds (k*sz+p.2) p.1) cells).size=cells.size:=by
   rw [← Array.length_toList,T,S2 _ _ _ (by simp [E]; omega)]; simp
  obtain ⟨out,h,U⟩:=mh sz vs (k+1) (v.cells.zipIdx.foldl (λcs (p:Value×Nat)=>cs.setIfInBounds (k*sz+p.2) p.1) cells) (λx Y=>hv x (by simp [Y])) (by rw [J,Nat.add_mul]; omega)
  refine ⟨out,?_,?_⟩
  · simp only [List.zipIdx_cons,List.map_cons,Instr.fill]
    have Z:¬ (v.cells.size≠sz):=by simp [E]
    have V:¬ (k*sz+v.cells.size>cells.size):=AC
    simp only [Z,V,decide_false,Bool.or_self,Bool.false_eq_true,if_false]
    exact h
  · rw [U,T]
    have A:v.cells.toList.length=sz:=by simp [E]
    have D:cells.toList.length=cells.size:=AD
    simp only [BF,List.flatMap_cons,List.length_append,A]
    rw [show (k+1)*sz=k*sz+sz by rw [Nat.add_mul]; omega]
    have e1:(cells.toList.take (k*sz)++v.cells.toList++cells.toList.drop (k*sz+sz)).take (k*sz+sz)=cells.toList.take (k*sz)++v.cells.toList:=by
     rw [List.take_left' (by rw [List.length_append,List.length_take,A,D]; omega)]
    have e:∀ m,(cells.toList.take (k*sz)++v.cells.toList++cells.toList.drop (k*sz+sz)).drop (k*sz+sz+m)=cells.toList.drop (k*sz+sz+m):=by
     intro m
     have O:(cells.toList.take (k*sz)++v.cells.toList).length=k*sz+sz:=by rw [List.length_append,List.length_take,A,D]; omega
     rw [← List.drop_drop,List.drop_left' O,List.drop_drop]
    rw [e1,e]
    simp [List.append_assoc,Nat.add_assoc]
section
variable {P:Program} {ops:Array Oper} {Q:Exit→Act→World→Prop} {rest:List Oper} {o:Oper} {a:Act} {w:World} {N:Nat} {L:List (Nat×Value)}
variable {X:List Nat} {w0:World} {M:List (List Nat×World)} {d:Nat}
def TE (P:Program) (t sz A:Nat) (z:List Value):Prop :=
 ∃ e i,P.underlying t=some (.slice e)∧P.info? e=some i∧(∃ D,i.zero=some D∧D.cells=z.toArray)∧i.size=sz∧i.bytes=A∧z.length=sz∧0<sz
theorem pc {D:List (Nat×Operand)} (O:K N L a):∀ {vs:List Value},evs L (D.map (·.2))=some vs→D.map (λp=>(p.1,a.eval p.2))=(D.map (·.1)).zip vs:=by
 induction D with
 | nil=>intro vs h; simp [evs] at h; subst h; rfl
 | cons p ps J =>
  intro vs h
  simp only [List.map_cons,evs] at h
  cases A:ev L p.2 with
  | none=>simp [A] at h
  | some u =>
   cases E:evs L (ps.map (·.2)) with
   | none=>simp [A,E] at h
   | some r =>
    simp only [A,E,Option.some.injEq] at h
    subst h
    simp [O.ev A,J E]
theorem BD {t n sz J:Nat} {z:List Value} (hT:TE P t sz J z) (hM:St X w0 w M) (V:K N L a) {ps:List (Nat×Operand)} {vs:List Value} {cs:List Value}
    (hg:gd L ops o.guard=some true) (hd:o.dst=some d) (hN:Nat.blt d N=true)
    (ho:o.op=.buildSlice t n ps.toArray) (hv:evs L (ps.map (·.2))=some vs) (hix:ps.map (·.1)=List.range vs.length) (hn:vs.length=n) (hsm:n*sz≤16777216)
    (hc:(vs.flatMap λv=>v.cells.toList)=cs) (hvs:∀ v∈vs,v.cells.size=sz)
    (h:∀ g w' e a,K N ((d,.slice (some ⟨g,0,none⟩) n n)::L) a→St X w0 w' (([g],w')::M)→Ext [] w w'→bx w' g cs e→w.heap.size≤g→wpList P ops Q rest a w'):wpList P ops Q (o::rest) a w:=by
 obtain ⟨e,i,hu,hi,⟨zv,hz,_⟩,hs,_,_,_⟩:=hT
 have A:(ps.map λp=>(p.1,a.eval p.2))=(vs.zipIdx).map λp=>(p.2,p.1):=by
  rw [pc V hv,hix]
  apply List.ext_getElem?
  intro k
  by_cases hk:k<vs.length
  · simp [List.getElem?_zip_eq_some,hk]
  · simp [hk]
 have O:(ps.toArray.map λp=>(p.1,a.eval p.2))=((vs.zipIdx).map λp=>(p.2,p.1)).toArray:=by
  rw [List.map_toArray,A]
 obtain ⟨out,hf,D⟩:=mh sz vs 0 ((Array.range (n*sz)).map (zv.cells[· % zv.cells.size]!)) hvs (by simp [hn])
 have Z:cs.length=n*sz:=by
  rw [← hc]
  clear hc hf D A O hix hv
  subst hn
  clear hsm h ho
  induction vs with
  | nil=>simp
  | cons v vs ih =>
   simp only [List.flatMap_cons,List.length_append,List.length_cons,Nat.add_mul,Nat.one_mul]
   rw [ih (λx hx=>hvs x (by simp [hx]))]
   have:=hvs v AD
   simp [this]; omega
 have E:out=cs.toArray:=by
  apply Array.ext'
  rw [D,hc]
  simp [BF,Z]
 refine Ux V hg hd hN (v:=.slice (some ⟨w.heap.size,0,none⟩) n n) (w':=w.alloc (.cells cs.toArray e)) ?_ λa V=>h _ _ e a V (hM.new (Ext.alloc _ _) _ (OR _ _ _) AD) (Ext.alloc _ _) (heap_alloc_new w _) (Nat.le_refl _)
 have U:¬ (16777216<n*sz):=AC
 by_cases h0:n*sz=0
 · have Aa:n=0:=by
     rcases Nat.mul_eq_zero.1 h0 with h1 | h1
     · exact h1
     · omega
   subst Aa
   have T:vs=[]:=List.eq_nil_of_length_eq_zero hn
   subst T
   simp only [List.flatMap_nil] at hc
   subst hc
   have Y:ps=[]:=by
    have:=congrArg List.length hix
    simpa using this
   subst Y
   simp [execOp,ho,Instr.buildSlice,run_underlying hu,sizeOf,typeInfo,hi,Instr.fill,newRow,Array.range_zero']
 · simp only [execOp,ho,O,Instr.buildSlice,run_underlying hu w,Sem.run_bind,Result.andThen_ok,sizeOf,typeInfo,run_program,hi,Sem.run_pure,hs,U,if_false,h0,zeroValue,hz,Sem.run_ite,gt_iff_lt,Nat.reducePow,Sem.run_map]
   rw [hf]
   simp [newRow,E]
theorem dY {t n sz A:Nat} {z:List Value} (T:TE P t sz A z) (D:St X w0 w M) (E:K N L a) {ps:List (Nat×Operand)} {vs:List Value} {cs:List Value}
    (hg:gd L ops o.guard=some true) (hd:o.dst=some d) (hN:Nat.blt d N=true)
    (ho:o.op=.buildSlice t n ps.toArray) (hv:evs L (ps.map (·.2))=some vs) (hix:ps.map (·.1)=List.range vs.length) (hn:vs.length=n) (hsm:n*sz≤16777216)
    (hc:(vs.flatMap λv=>v.cells.toList)=cs) (hvs:∀ v∈vs,v.cells.size=sz)
    (h:∀ g w' e a,K N ((d,.slice (some ⟨g,0,none⟩) n n)::L) a→St X w0 w' (([g],w')::M)→Ext [] w w'→bx w' g cs e→wpList P ops Q rest a w'):wpList P ops Q (o::rest) a w :=
 BD T D E hg hd hN ho hv hix hn hsm hc hvs λg w' e a E D J O _=>h g w' e a E D J O
theorem WF {α:Type} [Flat α] {w:World}:∀ (A:List α),ah w (A.map λ_=>[]) ((A.map Flat.e).flatten) A
 | []=>rfl
 | x::A=>by
  have hl:(Flat.e x).length=Enc.sz α:=Flat.len x
  refine ⟨⟨rfl,?_⟩,?_⟩
  · simp [List.take_left' hl]
  · simp only [List.map_cons,List.flatten_cons,List.drop_left' hl]
    exact WF A
theorem Mm {α β:Type} (A:List α):(A.map λ_=>([]:List β)).flatten=[]:=by induction A <;> simp_all
theorem Zw {α:Type} [Flat α] (A:List α):((A.map Flat.e).flatten).length=A.length*Flat.sz α:=by
 induction A with
 | nil=>simp
 | cons x A D=>simp [D,Flat.len x,Nat.add_mul]; omega
theorem AO {α:Type} [Flat α] {w:World} {g n:Nat} {cs:List Value} {e:TypeId} (h:bx w g cs e) (xs:List α) (hc:(xs.map Flat.e).flatten=cs) (hn:xs.length=n) (hm:Nat.ble n 1000000=true) :
    ow w [g] [.slice (some ⟨g,0,none⟩) n n] xs:=by
 subst hc; subst hn
 have A:=Nat.le_of_ble_eq_true hm
 refine .inr ⟨g,0,xs.length,_,e,xs.map λ_=>[],rfl,Nat.le_refl _,by simp [maxLen]; omega,h,?_,?_,by rw [Mm],AD⟩
 · rw [Nat.zero_add,List.size_toArray,Zw]; exact Nat.le_refl _
 · have:xs.length*Enc.sz α=((xs.map Flat.e).flatten).length:=(Zw xs).symm
   rw [this]
   simp only [List.drop_zero,List.take_length]
   exact WF xs
theorem A0 (w:World) {α:Type} [Enc α]:ow w [] [.slice none 0 0] ([]:List α):=.inl ⟨rfl,rfl,rfl⟩
theorem nz (w:World) {α:Type} [Enc α]:rd w [] [.slice none 0 0] ([]:List α):=pj (A0 w)
def mk {α:Type} (A:Nat) (z:α) (n:Int):Option (List α):=if 0≤n∧A*n≤140737488355328 then some (List.replicate n.toNat z) else none
theorem jf (z:List Value) (J:0<z.length):∀ n,madeCells z.toArray (n*z.length)=((List.replicate n z).flatten).toArray:=by
 intro n
 apply Array.ext'
 simp only [madeCells]
 induction n with
 | zero=>simp
 | succ n D =>
  rw [List.replicate_succ',List.flatten_append,List.flatten_singleton]
  rw [show (n+1)*z.length=n*z.length+z.length by rw [Nat.add_mul]; omega]
  simp only [Array.toList_map,Array.toList_range] at D ⊢
  rw [List.range_add,List.map_append,D,List.map_map]
  congr 1
  apply List.ext_getElem
  · simp
  · intro i A E
    simp at A
    simp [Nat.mod_eq_of_lt A,A]
theorem wB {α:Type} [Flat α] {t bytes:Nat} {z:List Value} {zx:α} {ys:List α} {n:Int} (hx:mk bytes zx n=some ys) (hT:TE P t (Flat.sz α) bytes z) (hz:Flat.e zx=z) (hb:Nat.blt 0 bytes=true) (hM:St X w0 w M) (D:K N L a) {l c:Operand} {k k':IntKind}
    (hg:gd L ops o.guard=some true) (hd:o.dst=some d) (hN:Nat.blt d N=true)
    (ho:o.op=.makeSlice t l c) (hl:ev L l=some (.int k n)) (hc:ev L c=some (.int k' n))
    (h:∀ g w' a v,K N ((d,v)::L) a→St X w0 w' (([g],w')::M)→Ext [] w w'→ow w' [g] [v] ys→wpList P ops Q rest a w'):wpList P ops Q (o::rest) a w:=by
 unfold mk at hx
 split at hx
 · rename_i E
   simp only [Option.some.injEq] at hx
   subst hx
   obtain ⟨E,Z⟩:=E
   obtain ⟨e,i,hu,hi,⟨V,J,U⟩,hs,T,O,_⟩:=hT
   have Aa:0<bytes:=by simpa using hb
   have hn:n≤140737488355328:=Int.le_trans (by have:=Int.mul_le_mul_of_nonneg_right (show (1:Int)≤bytes by omega) E; simpa using this) Z
   have Y:=run_make (P:=P) w t e i V hu hi J k k' n n E (Int.le_refl _) (by rw [T]; omega) AC
   have A:madeCells V.cells (n.toNat*i.size)=(((List.replicate n.toNat zx).map Flat.e).flatten).toArray:=by
    rw [U,hs,← O,jf z AC]
    simp [hz]
   refine Ux D hg hd hN (v:=.slice (some ⟨w.heap.size,0,none⟩) n.toNat n.toNat) (w':=w.alloc (.cells (((List.replicate n.toNat zx).map Flat.e).flatten).toArray e)) ?_ λa D =>
    h w.heap.size _ a _ D (hM.new (Ext.alloc _ _) _ (OR _ _ _) AD) (Ext.alloc _ _) ?_
   · simp [execOp,ho,D.ev hl,D.ev hc,Y,A]
   · refine .inr ⟨w.heap.size,0,n.toNat,_,e,(List.replicate n.toNat zx).map λ_=>[],AD,AD,by simp [maxLen]; omega,heap_alloc_new w _,?_,?_,by rw [Mm],AD⟩
     · rw [Nat.zero_add,List.size_toArray,Zw,List.length_replicate]; exact Nat.le_refl _
     · have e1:(List.replicate n.toNat zx).length*Enc.sz α=(((List.replicate n.toNat zx).map Flat.e).flatten).length:=(Zw _).symm
       rw [e1]
       simp only [List.drop_zero,List.take_length]
       exact WF _
 · simp at hx
def BE {α:Type} (A:Nat) (D ys:List α):Option (List α):=if (D.length+ys.length)*A≤140737488355328 then some (D++ys) else none
def News (w:World) (x:Value) (m:Nat) (A:List Value):Prop:=∃ D c,x=.slice D m c∧((m=0∧A=[])∨∃ E,D=some E∧PtAt w E A)
theorem aq {α:Type} [Enc α] {w:World}:∀ {Gs:List (List Nat)} {cells:List Value} {E:List α} {Hs:List (List Nat)} {A:List Value} {ys:List α},
    ah w Gs cells E→ah w Hs A ys→ah w (Gs++Hs) (cells++A) (E++ys)
 | [],_,[],Hs,A,ys,h,h'=>by simp only [ah] at h; subst h; exact h'
 | G::Gs,cells,x::E,Hs,A,ys,⟨h,h1⟩,h'=>by
  have hl:=Enc.rd_sz (Enc.ow_rd h)
  have D:Enc.sz α≤cells.length:=by simp at hl; omega
  refine ⟨?_,?_⟩
  · rw [List.take_append_of_le_length D]; exact h
  · rw [List.drop_append_of_le_length D]; exact aq h1 h'
 | [],_,_::_,_,_,_,h,_=>h.elim
 | _::_,_,[],_,_,_,h,_=>h.elim
theorem lM {α:Type} [Enc α] {w:World}:∀ {Gs:List (List Nat)} {cells:List Value} {D:List α},ah w Gs cells D→∀ u∈cells,u.oneCell'=true
 | [],_,[],h=>by simp only [ah] at h; subst h; simp
 | G::Gs,cells,x::D,⟨h,h'⟩=>by
  intro u A
  rw [← List.take_append_drop (Enc.sz α) cells,List.mem_append] at A
  rcases A with A | A
  · exact Enc.rd_one (Enc.ow_rd h) u A
  · exact lM h' u A
 | [],_,_::_,h=>h.elim
 | _::_,_,[],h=>h.elim
theorem cM (t ty e T:TypeId) (i:TypeInfo) (O:P.underlying t=some (.slice e)) (hi:P.info? e=some i)
    (g off sLen sCap:Nat) (cur:Array Value) (hg:w.heap[g]? = some (.cells cur T (0,0)))
    (x:Value) (m:Nat) (news:List Value) (E:News w x m news) (hl:news.length=m*i.size) (h1:∀ u∈news,u.oneCell'=true)
    (hroom:sLen+m≤sCap) (hfit:off+sLen*i.size+news.length≤cur.size) :
    (Builtin.append_ #[t,t] ty #[.slice (some ⟨g,off,none⟩) sLen sCap,x]).run P w =
     .ok (.slice (some ⟨g,off,none⟩) (sLen+m) sCap) (w.setRow g (BF cur.toList (off+sLen*i.size) news).toArray):=by
 obtain ⟨J,c,rfl,E⟩:=E
 have A:=run_storeCells_at P g (off+sLen*i.size) T news 0 cur w hg (by simpa using hfit) h1
 simp only [Nat.add_zero] at A
 rcases E with ⟨rfl,rfl⟩ | ⟨V,rfl,U⟩
 · have D:(Builtin.firstCells i.size 0 (.slice J 0 c)).run P w=.ok #[] w:=by
     cases J <;> simp [Builtin.firstCells,loadCells,loadCellsFrom]
   simp only [Nat.add_zero] at hroom ⊢
   simp [Builtin.append_,run_underlying O,sizeOf,typeInfo,hi,Builtin.lenOf,hroom,D,GS,A,BF]
 · have D:=run_firstCells_some (P:=P) w i.size m V m c news hl U.cell
   simp [Builtin.append_,run_underlying O,sizeOf,typeInfo,hi,Builtin.lenOf,hroom,D,GS,A,BF]
theorem pM {α:Type} [Enc α] {t ty bytes:Nat} {z:List Value} (hT:TE P t (Enc.sz α) bytes z) {F:List Nat} {v:Value} {xs:List α} (hown:ow w F [v] xs)
    {x:Value} {m:Nat} {news:List Value} (hx:News w x m news) {Hs:List (List Nat)} {ys:List α} (hys:ah w Hs news ys) (hm:ys.length=m)
    (hnd:(F++Hs.flatten).Nodup) (A:(xs.length+ys.length)*bytes≤140737488355328) (hbp:0<bytes) :
    ∃ v' Z w',(Builtin.append_ #[t,t] ty #[v,x]).run P w=.ok v' w'∧Ext (F++Hs.flatten) w w'∧ow w' Z [v'] (xs++ys) ∧
     ∀ b∈Z,(b∈F++Hs.flatten∨w.heap.size≤b)∧b<w'.heap.size:=by
 obtain ⟨e,i,hu,hi,⟨zv,Ah,Ar⟩,hs,Ai,Aj,_⟩:=hT
 obtain ⟨_,Aa⟩:=ZL hys
 have J:news.length=m*i.size:=by rw [Aa,hm,hs]
 have Af:=lM hys
 have At:xs.length+ys.length≤140737488355328:=Nat.le_trans (Nat.le_mul_of_pos_right _ hbp) A
 subst hm
 have O:=gT hys
 have U:∀ (D:Nat) (Gs:List (List Nat)) (cells:List Value),ah w Gs cells xs→(Gs.flatten++Hs.flatten).Nodup→(∀ b∈Gs.flatten,b∈F)→D<xs.length+ys.length →
     ∃ Z,ow (w.drew.alloc (.cells (cells.toArray++news.toArray++Builtin.zeroCells zv.cells (grownCap w (xs.length+ys.length) D e - (xs.length+ys.length))) e)) Z
         [.slice (some ⟨w.heap.size,0,none⟩) (xs.length+ys.length) (grownCap w (xs.length+ys.length) D e)] (xs++ys) ∧
      ∀ b∈Z,(b∈F++Hs.flatten∨w.heap.size≤b)∧b<(w.drew.alloc (.cells (cells.toArray++news.toArray++Builtin.zeroCells zv.cells (grownCap w (xs.length+ys.length) D e - (xs.length+ys.length))) e)).heap.size:=by
  intro D Gs cells hG Am An ho
  have Aq:=grownCap_ge w (xs.length+ys.length) D e
  have Al:grownCap w (xs.length+ys.length) D e≤maxLen:=grownCap_le_maxLen w _ D e (by simp only [maxLen]; omega)
  have Y:=gT hG
  obtain ⟨Ao,T⟩:=ZL hG
  have hE:Agr (Gs.flatten++Hs.flatten) w (w.drew.alloc (.cells (cells.toArray++news.toArray++Builtin.zeroCells zv.cells (grownCap w (xs.length+ys.length) D e - (xs.length+ys.length))) e)):=by
   intro b A
   have:b<w.heap.size:=by
    rcases List.mem_append.1 A with A | A
    · exact Y b A
    · exact O b A
   exact (Ext.alloc w.drew _).blk b this AD
  refine ⟨w.heap.size::(Gs++Hs).flatten,.inr ⟨w.heap.size,0,_,_,e,Gs++Hs,AD,by simpa using Aq,Al,heap_alloc_new w.drew _,?_,?_,rfl,?_⟩,?_⟩
  · simp only [Array.size_append,List.size_toArray,size_zeroCells,T,Aa,Ar,Aj]
    rw [← Nat.add_mul,← Nat.add_mul,show xs.length+ys.length+(grownCap w (xs.length+ys.length) D e - (xs.length+ys.length))=grownCap w (xs.length+ys.length) D e by omega]
    omega
  · have:(List.drop 0 (cells.toArray++news.toArray++Builtin.zeroCells zv.cells (grownCap w (xs.length+ys.length) D e - (xs.length+ys.length))).toList).take ((xs++ys).length*Enc.sz α)=cells++news:=by
      simp only [List.drop_zero,Array.toList_append,List.append_assoc]
      rw [← List.append_assoc]
      exact List.take_left' (by simp [T,Aa,Nat.add_mul])
    rw [this]
    exact YQ (hE.sub (by intro b A; simpa using A)) (aq hG hys)
  · refine List.nodup_cons.2 ⟨?_,by simpa using Am⟩
    intro A
    rw [List.flatten_append,List.mem_append] at A
    rcases A with A | A
    · have:=Y _ A; omega
    · have:=O _ A; omega
  · intro b A
    rcases List.mem_cons.1 A with rfl | A
    · exact ⟨.inr (Nat.le_refl _),by simp [heap_drew]⟩
    · rw [List.flatten_append,List.mem_append] at A
      rcases A with A | A
      · have:=Y _ A
        exact ⟨.inl (List.mem_append_left _ (An b A)),by simp [heap_drew]; omega⟩
      · have:=O _ A
        exact ⟨.inl (List.mem_append_right _ A),by simp [heap_drew]; omega⟩
 have V:∀ o,Ext (F++Hs.flatten) w (w.drew.alloc o):=λo=>(((Ext.drew w).trans (Ext.alloc w.drew o) AD).wk AD)
 rcases hown with ⟨hv,rfl,rfl⟩ | ⟨g,off,cap,c,e',Gs,hv,h1,h2,h3,h4,h5,rfl,h6⟩
 · simp only [List.cons.injEq,and_true] at hv
   subst hv
   obtain ⟨ao,c',rfl,Ad⟩:=hx
   by_cases Ab:ys.length=0
   · have Ag:ys=[]:=List.eq_nil_of_length_eq_zero Ab
     subst Ag
     refine ⟨.slice none 0 0,[],w,?_,Ext.refl _ _,?_,AD⟩
     · have hf:(Builtin.firstCells i.size 0 (.slice ao 0 c')).run P w=.ok #[] w:=by cases ao <;> simp [Builtin.firstCells,loadCells,loadCellsFrom]
       simp [Builtin.append_,run_underlying hu,sizeOf,typeInfo,hi,Builtin.lenOf,hf]
     · exact A0 w
   · rcases Ad with ⟨h0,_⟩ | ⟨ad,rfl,hp⟩
     · exact absurd h0 Ab
     · have hr:=run_append_nil (P:=P) w t ty e i zv hu hi Ah ad ys.length c' news J hp.cell AC AC (by rw [Ai]; simp at A; omega)
       obtain ⟨Z,h7,h8⟩:=U 0 [] [] rfl (by simpa using hnd) AD AJ
       simp only [List.length_nil,Nat.zero_add,List.nil_append,Array.empty_append] at h7 h8 ⊢
       refine ⟨_,Z,_,hr,V _,?_,?_⟩
       · simpa using h7
       · simpa using h8
 · simp only [List.cons.injEq,and_true] at hv
   subst hv
   obtain ⟨Ao,T⟩:=ZL h5
   have As:xs.length*Enc.sz α≤c.toList.length - off:=by have h:=T; rw [List.length_take,List.length_drop] at h; omega
   by_cases E:xs.length+ys.length≤cap
   · have Ac:off+xs.length*i.size+news.length≤c.size:=by
       rw [J,hs]
       have:=Nat.mul_le_mul_right (Enc.sz α) E
       rw [Nat.add_mul] at this
       omega
     have hr:=cM (P:=P) (w:=w) t ty e e' i hu hi g off xs.length cap c h3 x ys.length news hx J Af E Ac
     have Ak:(w.setRow g (BF c.toList (off+xs.length*i.size) news).toArray).heap[g]? = some (.cells (BF c.toList (off+xs.length*i.size) news).toArray e' (0,0)):=setRow_heap w g c _ e' _ h3
     have Ap:g∉Gs.flatten++Hs.flatten:=by
      have:=(List.nodup_cons.1 (by simpa using hnd:(g::(Gs.flatten++Hs.flatten)).Nodup)).1
      exact this
     have hE:Agr (Gs.flatten++Hs.flatten) w (w.setRow g (BF c.toList (off+xs.length*i.size) news).toArray):=λb A=>setRow_other w g b _ (λe=>Ap (e ▸ A))
     refine ⟨_,g::(Gs++Hs).flatten,_,hr,(Ext.setRow g _).wk AD,.inr ⟨g,off,cap,_,e',Gs++Hs,AD,by simpa using E,h2,Ak,?_,?_,rfl,?_⟩,?_⟩
     · rw [List.size_toArray,S2 _ _ _ (by simpa using Ac)]; simpa using h4
     · have:(List.drop off (BF c.toList (off+xs.length*i.size) news).toArray.toList).take ((xs++ys).length*Enc.sz α)=(c.toList.drop off).take (xs.length*Enc.sz α)++news:=by
         rw [hs]
         simp only [BF,List.append_assoc]
         have e1:(c.toList.take (off+xs.length*Enc.sz α))=c.toList.take off++(c.toList.drop off).take (xs.length*Enc.sz α):=by rw [List.take_add]
         have hd:(c.toList.take off).length=off:=by rw [List.length_take,Array.length_toList]; omega
         rw [e1,List.append_assoc,List.drop_left' hd,← List.append_assoc]
         exact List.take_left' (by rw [List.length_append,T,Aa,List.length_append,Nat.add_mul])
       rw [this]
       exact YQ (hE.sub (by intro b A; simpa using A)) (aq h5 hys)
     · simpa using hnd
     · intro b A
       refine ⟨.inl (by simpa using A),?_⟩
       simp only [size_setRow]
       rcases List.mem_cons.1 A with rfl | A
       · exact IF h3
       · rw [List.flatten_append,List.mem_append] at A
         rcases A with A | A
         · exact gT h5 _ A
         · exact O _ A
   · obtain ⟨ao,c',rfl,Ad⟩:=hx
     have Ab:ys.length≠0:=AC
     rcases Ad with ⟨h0,_⟩ | ⟨ad,rfl,hp⟩
     · exact absurd h0 Ab
     · have Ae:∀ j u,((c.toList.drop off).take (xs.length*Enc.sz α))[j]? = some u→w.cell? ((⟨g,off,none⟩:Addr).add j)=some u:=by
         intro j u hu
         rw [List.getElem?_take,List.getElem?_drop] at hu
         split at hu
         · rw [GS,cell_of_row w g _ c e' (0,0) h3]
           simpa using hu
         · simp at hu
       have hr:=run_append_grow (P:=P) w t ty e i zv hu hi Ah ⟨g,off,none⟩ xs.length cap _ (by rw [T,hs]) Ae ad ys.length c' news J hp.cell AC AC (growslice_fits AC (by rw [Ai]; exact A))
       obtain ⟨Z,h7,h8⟩:=U cap Gs _ h5 (by have:=(List.nodup_cons.1 (by simpa using hnd:(g::(Gs.flatten++Hs.flatten)).Nodup)).2; exact this) (λb A=>List.mem_cons_of_mem _ A) AC
       exact ⟨_,Z,_,hr,V _,h7,h8⟩
theorem News.box {u:World} {g m:Nat} {cs:List Value} {e:TypeId} (h:bx u g cs e) {F:List Nat} (D:Agr F u w) (A:g∈F):News w (.slice (some ⟨g,0,none⟩) m m) m cs :=
 ⟨_,_,rfl,.inr ⟨_,rfl,(h.agr D A).pt⟩⟩
theorem jE {α:Type} [Flat α] {w:World} {F:List Nat}:∀ {A:List α} {cells:List Value},jM w F cells A→cells.take (A.length*Flat.sz α)=(A.map Flat.e).flatten
 | [],cells,_=>by simp
 | x::A,cells,⟨⟨G,_,h⟩,h'⟩=>by
  have E:cells.take (Enc.sz α)=Flat.e x:=h.2
  have D:cells.take (Flat.sz α)=Flat.e x:=E
  have J:=jE h'
  simp only [List.length_cons,List.map_cons,List.flatten_cons,← J,← D]
  rw [show (A.length+1)*Flat.sz α=Flat.sz α+A.length*Flat.sz α by rw [Nat.add_mul]; omega,List.take_add]
  rfl
theorem News.rd {α:Type} [Flat α] {F:List Nat} {v:Value} {ys:List α} (h:rd w F [v] ys):News w v ys.length (ys.map Flat.e).flatten:=by
 obtain ⟨J,cap,A,_,_,_,E⟩:=h
 simp only [List.cons.injEq,and_true] at A
 subst A
 refine ⟨J,cap,rfl,?_⟩
 rcases E with rfl | ⟨g,off,c,e,O,rfl,T,D,hl⟩
 · exact .inl ⟨rfl,rfl⟩
 · refine .inr ⟨_,rfl,g,off,c,e,O,rfl,D,?_⟩
   rw [Zw]
   exact jE hl
theorem jJ {α:Type} {A:Nat} {D ys E:List α} (h:BE A D ys=some E):(D.length+ys.length)*A≤140737488355328∧E=D++ys:=by
 unfold BE at h
 split at h
 · rename_i J; simp only [Option.some.injEq] at h; exact ⟨J,h.symm⟩
 · simp at h
theorem AZ {α:Type} [Flat α] {t bytes:Nat} {z:List Value} {xs ys zs:List α} (hz:BE bytes xs ys=some zs) (hT:TE P t (Flat.sz α) bytes z) (U:Nat.blt 0 bytes=true) (hM:St X w0 w M) (i:Nat) {F:List Nat} {u:World} {v:Value}
    (hown:ow u F [v] xs) {x:Value} {m:Nat} {news:List Value} (hx:News w x m news) (hn:(ys.map Flat.e).flatten=news) (hm:ys.length=m) (E:K N L a) {s y:Operand}
    (hi:M[i]? = some (F,u)) (hg:gd L ops o.guard=some true) (hd:o.dst=some d) (hN:Nat.blt d N=true)
    (ho:o.op=.call { callee:=.builtin .append,args:=#[s,y],argTypes:=#[t,t] }) (hs:ev L s=some v) (hy:ev L y=some x)
    (h:∀ T D w' a,K N ((d,T)::L) a→Ext F w w'→St X w0 w' (M.set i (D,w'))→ow w' D [T] zs→(∀ b∈D,b∈F∨w.heap.size≤b)→wpList P ops Q rest a w'):wpList P ops Q (o::rest) a w:=by
 obtain ⟨Y,rfl⟩:=jJ hz
 have e:=hM.a i hi
 have J:=Mm (β:=Nat) ys
 obtain ⟨T,D,w',Z,V,O,A⟩:=pM (P:=P) (ty:=o.type) hT (Enc.ow_agr hown e) hx (Hs:=ys.map λ_=>[]) (by rw [← hn]; exact WF ys) hm (by rw [J,List.append_nil]; exact hM.ndF i hi) Y (by simpa using U)
 rw [J,List.append_nil] at V A
 refine Ux E hg hd hN ?_ λa E=>h T D w' a E V (hM.mut i hi V D A (Enc.ow_nd O)) O (λb U=>(A b U).1)
 simp [execOp,ho,resolve,invoke,builtin,E.ev hs,E.ev hy,Z]
theorem BX {α:Type} [Flat α] {t bytes:Nat} {z:List Value} {xs ys zs:List α} (hz:BE bytes xs ys=some zs) (hT:TE P t (Flat.sz α) bytes z) (hb:Nat.blt 0 bytes=true) (O:St X w0 w M) (i:Nat) {F:List Nat} {u:World} {v:Value}
    (hown:ow u F [v] xs) {x:Value} {m:Nat} {news:List Value} (hx:News w x m news) (hn:(ys.map Flat.e).flatten=news) (hm:ys.length=m) (E:K N L a) {s y:Operand}
    (hi:M[i]? = some (F,u)) (hg:gd L ops o.guard=some true) (hd:o.dst=some d) (hN:Nat.blt d N=true)
    (ho:o.op=.call { callee:=.builtin .append,args:=#[s,y],argTypes:=#[t,t] }) (hs:ev L s=some v) (hy:ev L y=some x)
    (h:∀ A D w' a,K N ((d,A)::L) a→Ext F w w'→St X w0 w' (M.set i (D,w'))→ow w' D [A] zs→wpList P ops Q rest a w'):wpList P ops Q (o::rest) a w :=
 AZ hz hT hb O i hown hx hn hm E hi hg hd hN ho hs hy λA D w' a E T O J _=>h A D w' a E T O J
theorem D6 {α:Type} [Enc α] {t bytes:Nat} {z:List Value} {xs zs:List α} {y1:α} (hz:BE bytes xs [y1]=some zs) (hT:TE P t (Enc.sz α) bytes z) (hb:Nat.blt 0 bytes=true) {F G:List Nat} {u u1 u2:World} (hM:St X w0 w ((F++G,u)::M)) {v:Value}
    (hown:ow u1 F [v] xs) (hA1:Agr F u1 w) {x:Value} {news:List Value} (hx:News w x 1 news) (hy1:ow u2 G news y1) (hA2:Agr G u2 w) (D:K N L a) {s y:Operand}
    (hg:gd L ops o.guard=some true) (hd:o.dst=some d) (hN:Nat.blt d N=true)
    (ho:o.op=.call { callee:=.builtin .append,args:=#[s,y],argTypes:=#[t,t] }) (hs:ev L s=some v) (hy:ev L y=some x)
    (h:∀ O E w' a,K N ((d,O)::L) a→Ext (F++G) w w'→St X w0 w' ((E,w')::M)→ow w' E [O] zs→wpList P ops Q rest a w'):wpList P ops Q (o::rest) a w:=by
 obtain ⟨V,rfl⟩:=jJ hz
 have hl:=Enc.rd_sz (Enc.ow_rd hy1)
 have U:[G].flatten=G:=AD
 obtain ⟨O,E,w',Y,T,J,A⟩:=pM (P:=P) (ty:=o.type) hT (Enc.ow_agr hown hA1) hx (Hs:=[G]) (ys:=[y1]) (by
  refine ⟨?_,?_⟩
  · rw [← hl,List.take_length]; exact Enc.ow_agr hy1 hA2
  · simp [ah,← hl]) rfl (by rw [U]; exact hM.ndF 0 rfl) V (by simpa using hb)
 rw [U] at T A
 refine Ux D hg hd hN ?_ λa D=>h O E w' a D T (hM.mut 0 rfl T E A (Enc.ow_nd J)) J
 simp [execOp,ho,resolve,invoke,builtin,D.ev hs,D.ev hy,Y]
theorem YG {t n g off:Nat} {cs:List Value} {e:TypeId} {v:Value} (E:∀ w,(sizeOf t).run P w=.ok n w) (J:bx w g cs e) (D:v.cells.size=n) (O:off+n≤cs.length)
    (h1:∀ u∈v.cells.toList,u.oneCell'=true):(storeVar t ⟨g,off,none⟩ v).run P w=.ok () (w.setRow g (BF cs off v.cells.toList).toArray):=by
 have A:=run_storeCells_at P g off e v.cells.toList 0 cs.toArray w J (by simp [D]; omega) h1
 simp only [Nat.add_zero] at A
 simp [storeVar,E,D,A,BF]
theorem bx.store {u:World} {b:Nat} {cs:List Value} {e:TypeId} (h:bx u b cs e) (cs':List Value):bx (u.setRow b cs'.toArray) b cs' e:=setRow_heap u b _ _ e _ h
theorem vW {t n:Nat} (V:∀ w,(sizeOf t).run P w=.ok n w) (J:St X w0 w M) (i:Nat) {u:World} {b:Nat} {cs cs':List Value} {e:TypeId} (T:bx u b cs e) (off:Nat) (A:K N L a) {x y:Operand} {p:Addr} {v:Value}
    (hi:M[i]? = some ([b],u)) (hg:gd L ops o.guard=some true) (hd:o.dst=none)
    (ho:o.op=.store t x y) (hp':ev L x=some (.pointer (some p))) (hp:p=(⟨b,0,none⟩:Addr).add off) (hv:ev L y=some v) (hc:BF cs off v.cells.toList=cs')
    (hn:v.cells.size=n) (hle:Nat.ble (off+n) cs.length=true) (h1:v.cells.toList.all Value.oneCell'=true)
    (h:∀ w' a,K N L a→Ext [b] w w'→St X w0 w' (M.set i ([b],w'))→bx w' b cs' e→wpList P ops Q rest a w'):wpList P ops Q (o::rest) a w:=by
 subst hc
 have D:=T.agr (J.a i hi) AD
 have E:=J.ltF i hi b AD
 refine m0 A hg hd (w':=w.setRow b (BF cs off v.cells.toList).toArray) ?_ λa A=>h _ a A (Ext.setRow _ _) (J.mut i hi (Ext.setRow _ _) [b] (by simp; exact E) AD) (D.store _)
 subst hp
 have O:=YG (P:=P) (off:=off) V D hn (Nat.le_of_ble_eq_true hle) (λu U=>List.all_eq_true.1 h1 u U)
 simp [execOp,ho,A.ev hp',A.ev hv,Instr.storeAt,Instr.sureAddr,GS,O]
theorem pC {α:Type} [Enc α] {w:World}:∀ {Gs:List (List Nat)} {cells:List Value} {A:List α} {i:Nat} {x y:α} {G:List Nat} {cs:List Value},ah w Gs cells A→A[i]? = some x→ow w G cs y →
    ah w (Gs.set i G) (BF cells (i*Enc.sz α) cs) (A.set i y)
 | [],_,[],i,x,y,G,cs,h,hx,_=>by simp at hx
 | H::Gs,cells,x0::A,0,x,y,G,cs,⟨h,h'⟩,hx,hy=>by
  have hl:=Enc.rd_sz (Enc.ow_rd hy)
  refine ⟨?_,?_⟩
  · simp only [Nat.zero_mul,BF,List.take_zero,List.nil_append]
    rw [List.take_left' hl]; exact hy
  · simp only [Nat.zero_mul,BF,List.take_zero,List.nil_append,Nat.zero_add]
    rw [List.drop_left' hl,hl]; exact h'
 | H::Gs,cells,x0::A,i+1,x,y,G,cs,⟨h,h'⟩,hx,hy=>by
  have D:=Enc.rd_sz (Enc.ow_rd h)
  have J:Enc.sz α≤cells.length:=by simp at D; omega
  have E:=pC h' (by simpa using hx) hy
  refine ⟨?_,?_⟩
  · have:(BF cells ((i+1)*Enc.sz α) cs).take (Enc.sz α)=cells.take (Enc.sz α):=by
      simp only [BF,List.append_assoc]
      rw [List.take_append_of_le_length (by simp [Nat.add_mul]; omega),List.take_take]
      congr 1
      simp [Nat.add_mul]
    rw [this]; exact h
  · have:(BF cells ((i+1)*Enc.sz α) cs).drop (Enc.sz α)=BF (cells.drop (Enc.sz α)) (i*Enc.sz α) cs:=by
      simp only [BF,List.append_assoc]
      rw [List.drop_append_of_le_length (by simp [Nat.add_mul]; omega),List.drop_take,List.drop_drop]
      congr 3
      · simp [Nat.add_mul]
      · simp [Nat.add_mul]; omega
    rw [this]; exact E
 | [],_,_::_,_,_,_,_,_,h,_,_=>h.elim
 | _::_,_,[],_,_,_,_,_,h,_,_=>h.elim
theorem my {Gs:List (List Nat)} (h:Gs.flatten=[]) (i:Nat):(Gs.set i []).flatten=[]:=by
 rw [List.flatten_eq_nil_iff] at *
 intro l hl
 rcases List.mem_or_eq_of_mem_set hl with A | A
 · exact h l A
 · exact A
theorem MQ {α:Type} [Flat α] {w:World}:∀ {Gs:List (List Nat)} {cells:List Value} {A:List α},ah w Gs cells A→Gs.flatten=[]
 | [],_,[],_=>rfl
 | G::Gs,cells,x::A,⟨h,h'⟩=>by rw [List.flatten_cons,MQ h',h.1]; rfl
 | [],_,_::_,h=>h.elim
 | _::_,_,[],h=>h.elim
def DB {α:Type} (A:List α) (n:Int) (y:α):List α:=A.set n.toNat y
theorem YE {α:Type} [Flat α] {t n sz:Nat} (hs:∀ w,(sizeOf t).run P w=.ok n w) {xs:List α} {x y:α} {ixn:Int} (hx:ix xs ixn=some x) (hM:St X w0 w M) (i:Nat) {u:World} {F:List Nat} {v:Value}
    (hown:ow u F [v] xs) (off:Nat) (hK:K N L a) {xo yo:Operand} {p:Addr} {c:Value}
    (hi:M[i]? = some (F,u)) (hg:gd L ops o.guard=some true) (hd:o.dst=none)
    (ho:o.op=.store t xo yo) (hp':ev L xo=some (.pointer (some p))) (hp:p=(Kh v (Flat.sz α) ixn.toNat).add off) (hv:ev L yo=some c) (hc:BF (Flat.e x) off c.cells.toList=Flat.e y)
    (hn:c.cells.size=n) (E:sz=Flat.sz α) (hle:Nat.ble (off+n) sz=true) (h1:c.cells.toList.all Value.oneCell'=true)
    (h:∀ w' a,K N L a→Ext F w w'→St X w0 w' (M.set i (F,w'))→ow w' F [v] (DB xs ixn y)→wpList P ops Q rest a w'):wpList P ops Q (o::rest) a w:=by
 obtain ⟨_,_,Z⟩:=AG hx
 have Al:=Enc.ow_agr hown (hM.a i hi)
 have Ak:=hM.ltF i hi
 have Am:=Nat.le_of_ble_eq_true hle
 subst E
 rcases Al with ⟨_,rfl,_⟩ | ⟨g,A,cap,D,e,Gs,Ab,h2,h3,h4,h5,h6,rfl,h8⟩
 · simp at Z
 · simp only [List.cons.injEq,and_true] at Ab
   subst Ab
   have E:Enc.sz α=Flat.sz α:=rfl
   rw [E] at h5 h6
   have O:=MQ h6
   obtain ⟨_,Ad⟩:=ZL h6
   rw [E] at Ad
   have T:bx w g D.toList e:=h4
   have hk:ixn.toNat<xs.length:=AC
   have U:A+ixn.toNat*Flat.sz α+off+n≤D.toList.length:=by
    have:(ixn.toNat+1)*Flat.sz α≤cap*Flat.sz α:=Nat.mul_le_mul_right _ AC
    rw [Nat.add_mul] at this
    simp; omega
   have hr:=YG (P:=P) (off:=A+ixn.toNat*Flat.sz α+off) hs T hn U (λu hu=>List.all_eq_true.1 h1 u hu)
   have Ah:bx (w.setRow g (BF D.toList (A+ixn.toNat*Flat.sz α+off) c.cells.toList).toArray) g (BF D.toList (A+ixn.toNat*Flat.sz α+off) c.cells.toList) e:=T.store _
   have Ae:Ext (g::Gs.flatten) w (w.setRow g (BF D.toList (A+ixn.toNat*Flat.sz α+off) c.cells.toList).toArray):=(Ext.setRow g _).wk AD
   have Af:ow (w.setRow g (BF D.toList (A+ixn.toNat*Flat.sz α+off) c.cells.toList).toArray) (g::Gs.flatten) [.slice (some ⟨g,A,none⟩) xs.length cap] (DB xs ixn y):=by
    have V:=pC (w:=w) h6 Z (⟨rfl,rfl⟩:ow w [] (Flat.e y) y)
    have Aa:BF ((D.toList.drop A).take (xs.length*Flat.sz α)) (ixn.toNat*Flat.sz α) (Flat.e y) =
        ((BF D.toList (A+ixn.toNat*Flat.sz α+off) c.cells.toList).drop A).take (xs.length*Flat.sz α):=by
     have Aj:=(eR (kF (F:=Gs.flatten) (λb T=>T) h6) Z)
     obtain ⟨G,_,Ai⟩:=Aj
     have Ag:(((D.toList.drop A).take (xs.length*Flat.sz α)).drop (ixn.toNat*Flat.sz α)).take (Flat.sz α)=Flat.e x:=Ai.2
     rw [← hc,← Ag]
     have Y:(ixn.toNat+1)*Flat.sz α≤xs.length*Flat.sz α:=Nat.mul_le_mul_right _ AC
     rw [Nat.add_mul,Nat.one_mul] at Y
     have An:c.cells.toList.length=n:=by simp [hn]
     have Ac:((D.toList.drop A).take (xs.length*Flat.sz α)).length=xs.length*Flat.sz α:=Ad
     have J:xs.length*Flat.sz α≤(D.toList.drop A).length:=by rw [List.length_take] at Ac; omega
     have Ao:A+xs.length*Flat.sz α≤D.toList.length:=by rw [List.length_drop] at J; omega
     rw [jD _ _ _ _ _ AC (by rw [Ac]; omega),Nat.add_assoc A,Zi _ _ _ _ AC,Ze _ _ _ _ AC J]
    rw [E,Aa] at V
    refine .inr ⟨g,A,cap,_,e,Gs.set ixn.toNat [],by simp [DB],by simp [DB]; exact h2,h3,Ah,?_,?_,?_,h8⟩
    · simp only [List.size_toArray]; rw [S2 _ _ _ (by simp [hn] at U ⊢; omega)]; simpa [E] using h5
    · rw [show (DB xs ixn y).length=xs.length by simp [DB]]
      refine YQ ?_ V
      rw [my O]; intro b T; simp at T
    · rw [my O,O]
   refine m0 hK hg hd (w':=w.setRow g (BF D.toList (A+ixn.toNat*Flat.sz α+off) c.cells.toList).toArray) ?_ λa hK=>h _ a hK Ae (hM.mut i hi Ae _ (λb T=>⟨.inl T,by simp; exact Ak b T⟩) h8) Af
   subst hp
   simp only [execOp,ho,hK.ev hp',hK.ev hv,Instr.storeAt,Instr.sureAddr,Sem.run_bind,Sem.run_pure,Result.andThen_ok,Kh,GS,hr]
end
end Go.Proofs.YtdgpkmgnjdpieaaGreatDoor
set_option linter.unusedSimpArgs false
set_option linter.unusedVariables false
namespace Go.Proofs.YtdgpkmgnjdpieaaGreatDoor
open Go Go.RowKit
open Enc (rd ow)
section
variable {P:Program} {ops:Array Oper} {Q:Exit→Act→World→Prop} {rest:List Oper} {o:Oper} {a:Act} {w:World} {N:Nat} {L:List (Nat×Value)}
variable {X:List Nat} {w0:World} {M:List (List Nat×World)} {d:Nat} {S:World→Prop} {fuel:Nat} {listed:Array Bool}
theorem eZ {D:Nat} {l:List Oper} (Z:List Nat) {n:Nat} (O:P.follows .mixedOrders=true) (J:St X w0 w M) (E:l.length=n)
    (h:∀ A,St X w0 A M→wpAnyH P .any l.toArray Q (Ext Z A) n (List.replicate n false).toArray a A):(Code.region D l.toArray true).wp P Q a w:=by
 refine wp_region_held (S:=Ext Z w.drew) O ?_
 have:=h w.drew (J.step (Ext.drew w))
 subst E
 simpa using this
theorem kV (A:K N L a) (i:Nat) {v:Value} (hi:ops[i]? = some o) (D:Region.noSelect ops=true) (J:Region.free .any ops listed i=true) (E:(Region.ready .any ops listed).contains i=true)
    (hg:gd L ops o.guard=some true) (hd:o.dst=some d) (hN:Nat.blt d N=true) (hS:S w) (hQ:∀ c a w,Q (.panic c) (a.put o.dst v) w→Q (.panic c) a w)
    (hy:∀ w,S w→(execOp a.eval o).run P w=.ok (.value v) w) (h:∀ a,K N ((d,v)::L) a→wpAnyH P .any ops Q S fuel (listed.setIfInBounds i true) a w):wpAnyH P .any ops Q S (fuel+1) listed a w :=
 wpAnyH_take hi D J E hQ (.inl ⟨A.wanted hg,hy⟩) hS (by rw [hd]; exact h _ (A.put d hN v))
theorem sw (A:K N L a) (i:Nat) {v:Value} (hi:ops[i]? = some o) (D:Region.noSelect ops=true) (J:Region.free .any ops listed i=true) (E:(Region.ready .any ops listed).contains i=true)
    (hg:gd L ops o.guard=some true) (hd:o.dst=some d) (hN:Nat.blt d N=true) (hS:S w) (hQ:∀ c a w,Q (.panic c) (a.put o.dst v) w→Q (.panic c) a w)
    (hp:Ll L o.op=some v) (h:∀ a,K N ((d,v)::L) a→wpAnyH P .any ops Q S fuel (listed.setIfInBounds i true) a w):wpAnyH P .any ops Q S (fuel+1) listed a w :=
 kV A i hi D J E hg hd hN hS hQ (λw _=>aH A hp P w) h
theorem nD (A:K N L a) (i:Nat) (hi:ops[i]? = some o) (D:Region.noSelect ops=true) (J:Region.free .any ops listed i=true) (E:(Region.ready .any ops listed).contains i=true)
    (hg:gd L ops o.guard=some false) (hd:o.dst=some d) (hN:Nat.blt d N=true) (hS:S w) (hQ:∀ c a w,Q (.panic c) (a.put o.dst undef) w→Q (.panic c) a w)
    (h:∀ a,K N ((d,undef)::L) a→wpAnyH P .any ops Q S fuel (listed.setIfInBounds i true) a w):wpAnyH P .any ops Q S (fuel+1) listed a w :=
 wpAnyH_take hi D J E hQ (.inr ⟨A.wanted hg,rfl⟩) hS (by rw [hd]; exact h _ (A.put d hN undef))
theorem RX {i:Nat} {E:Act→World→Prop} (hi:ops[i]? = some o) (h:wpList P ops (Exit.then E Q) [o] a w):wpOp P ops Q i E a w:=by
 unfold wpOp
 simp only [hi]
 simp only [wpList] at h
 split at h
 · rename_i A
   rw [if_pos A]
   rcases h with h | ⟨O,J⟩
   · left
     unfold Oper.wp at *
     generalize (execOp a.eval o).run P w=r at *
     cases r with
     | ok n w' =>
      cases n <;> simp only [Oper.upon] at h ⊢ <;>
       first
        | exact h
        | exact Calls.mono h (λe _ D=>by cases e <;> exact D)
        | exact Rows.mono h (λ_ _ D=>D)
     | halt x w'=>cases x <;> simp only [Oper.upon] at h ⊢ <;> exact h
   · exact .inr ⟨O,J⟩
 · rename_i A
   rw [if_neg A]
   exact h
theorem yr (i:Nat) (E:Region.ready .any ops listed=[i]) (hi:ops[i]? = some o)
    (h:wpList P ops (Exit.then (λD w'=>S w'∧wpAnyH P .any ops Q S fuel (listed.setIfInBounds i true) D w') Q) [o] a w):wpAnyH P .any ops Q S (fuel+1) listed a w :=
 wpAnyH_all E AD λj A=>by
  simp only [List.mem_singleton] at A
  subst A
  exact RX hi h
theorem xV (i j:Nat) {D:Oper} (O:Region.ready .any ops listed=[i,j]) (hi:ops[i]? = some o) (J:ops[j]? = some D)
    (h:wpList P ops (Exit.then (λA w'=>S w'∧wpAnyH P .any ops Q S fuel (listed.setIfInBounds i true) A w') Q) [o] a w)
    (h':wpList P ops (Exit.then (λA w'=>S w'∧wpAnyH P .any ops Q S fuel (listed.setIfInBounds j true) A w') Q) [D] a w):wpAnyH P .any ops Q S (fuel+1) listed a w :=
 wpAnyH_all O AD λk E=>by
  simp only [List.mem_cons,List.not_mem_nil,or_false] at E
  rcases E with rfl | rfl
  · exact RX hi h
  · exact RX J h'
theorem up (i j k:Nat) {E D:Oper} (T:Region.ready .any ops listed=[i,j,k]) (hi:ops[i]? = some o) (O:ops[j]? = some E) (U:ops[k]? = some D)
    (h:wpList P ops (Exit.then (λA w'=>S w'∧wpAnyH P .any ops Q S fuel (listed.setIfInBounds i true) A w') Q) [o] a w)
    (h':wpList P ops (Exit.then (λA w'=>S w'∧wpAnyH P .any ops Q S fuel (listed.setIfInBounds j true) A w') Q) [E] a w)
    (h'':wpList P ops (Exit.then (λA w'=>S w'∧wpAnyH P .any ops Q S fuel (listed.setIfInBounds k true) A w') Q) [D] a w):wpAnyH P .any ops Q S (fuel+1) listed a w :=
 wpAnyH_all T AD λm J=>by
  simp only [List.mem_cons,List.not_mem_nil,or_false] at J
  rcases J with rfl | rfl | rfl
  · exact RX hi h
  · exact RX O h'
  · exact RX U h''
theorem wN (A:Region.ready .any ops listed=[]) (h:Q .normal a w):wpAnyH P .any ops Q S fuel listed a w:=wpAnyH_done A h fuel
theorem St.az {E:World} (h:St X w0 E M) (i j:Nat) {F G:List Nat} {u v:World} (hi:M[i]? = some (F,u)) (T:M[j]? = some (G,v)) (A:Nat.beq i j=false) (U:Ext G E w):Agr F u w:=λb D=>by
 have O:=h.a i hi b D
 have J:=ZC h.nd (λe=>by subst e; simp at A) hi T b D
 exact (U.blk b (h.ltF i hi b D) J).trans O
theorem St.az0 {J:World} (h:St X w0 J M) (j:Nat) {F G:List Nat} {v:World} (V:M[j]? = some (G,v)) (O:X=[]) (A:∀ b∈F,b<w0.heap.size) (Y:Ext G J w):Agr F w0 w:=λb D=>by
 subst O
 have T:=h.a00 A b D
 refine (Y.blk b (Nat.lt_of_lt_of_le (A b D) h.ext.size) ?_).trans T
 intro U
 rcases h.lo b (HT V U) with E | E
 · simp at E
 · have:=A b D; omega
theorem A5 {α:Type} [Enc α] {F:List Nat} {v:Value} {xs:List α} {w:World} (h:rd w F [v] xs):v.oneCell'=true:=Enc.rd_one h v AD
theorem CK {α:Type} [Enc α] {F:List Nat} {v:Value} {xs:List α} {w:World} (h:rd w F [v] xs):v.cells=#[v]:=by
 obtain ⟨_,cap,A,_⟩:=h
 have:=(List.cons.inj A).1
 subst this
 rfl
theorem AH {p:Value→Bool} {x:Value} {l:List Value} (h:p x=true) (k:l.all p=true):(x::l).all p=true:=by simp [h,k]
theorem DS {p:Value→Bool}:([]:List Value).all p=true:=rfl
theorem CN {t:Nat} (E:∀ w,(sizeOf t).run P w=.ok 1 w) (D:St X w0 w M) (i:Nat) {u:World} {b:Nat} {cs cs':List Value} {e:TypeId} (A:bx u b cs e) (off:Nat) (J:K N L a) {x y:Operand} {p:Addr} {v:Value}
    (hvc:v.cells=#[v]) (hvo:v.oneCell'=true)
    (hi:M[i]? = some ([b],u)) (hg:gd L ops o.guard=some true) (hd:o.dst=none)
    (ho:o.op=.store t x y) (hp':ev L x=some (.pointer (some p))) (hp:p=(⟨b,0,none⟩:Addr).add off) (hv:ev L y=some v) (hc:BF cs off [v]=cs')
    (hle:Nat.ble (off+1) cs.length=true)
    (h:∀ w' a,K N L a→Ext [b] w w'→St X w0 w' (M.set i ([b],w'))→bx w' b cs' e→wpList P ops Q rest a w'):wpList P ops Q (o::rest) a w :=
 vW E D i A off J hi hg hd ho hp' hp hv (by rw [hvc]; exact hc) (by rw [hvc]; rfl) hle (by rw [hvc]; simp [hvo]) h
theorem yY {b n:Nat} (h:n≤b):∀ y∈[b],n≤y:=by simpa using h
theorem BU {cs:List Value} {z:Value} (D:St X w0 w M) (A:K N L a) {e:TypeId} (E:∀ w,(zeroValue e).run P w=.ok z w)
    (hg:gd L ops o.guard=some true) (hd:o.dst=some d) (hN:Nat.blt d N=true)
    (ho:o.op=.alloc e) (hc:z.cells=cs.toArray)
    (h:∀ b w' a,K N ((d,.pointer (some ⟨b,0,none⟩))::L) a→St X w0 w' (([b],w')::M)→Ext [] w w'→bx w' b cs e→w.heap.size≤b→wpList P ops Q rest a w'):wpList P ops Q (o::rest) a w:=by
 refine Ux A hg hd hN (v:=.pointer (some ⟨w.heap.size,0,none⟩)) (w':=w.alloc (.cells cs.toArray e)) ?_ λa A=>h _ _ a A (D.new (Ext.alloc _ _) _ (OR _ _ _) AD) (Ext.alloc _ _) (heap_alloc_new w _) (Nat.le_refl _)
 simp [execOp,ho,E,Instr.alloc,newVar,newRow,hc]
def FD (P:Program) (t f off n:Nat) (D:Bool):Prop :=
 ∃ E A,P.underlying t=some (.struct E)∧E[f]? = some A∧A.offset=off∧(∀ w,(isAgg A.type).run P w=.ok D w)∧∀ w,(sizeOf A.type).run P w=.ok n w
theorem wv {t f off n:Nat} (U:FD P t f off n false) (V:K N L a) {x:Operand} {cs:Array Value} {v:Value} (T:o.op=.field t x f) (D:ev L x=some (.agg cs)) (A:cs[off]? = some v) :
    (execOp a.eval o).run P w=.ok (.value v) w:=by
 obtain ⟨_,_,O,E,rfl,J,_⟩:=U
 simp [execOp,T,V.ev D,Instr.field,run_underlying O,E,asAgg,part,J,A]
def BT (P:Program) (t:TypeId) (z:List Value) (A:Array (Nat×Nat)):Prop :=
 (∀ w,(zeroValue t).run P w=.ok (.agg z.toArray) w)∧∃ D,P.underlying t=some (.struct D) ∧
  ∀ w,(D.mapM (λf=>(do pure (f.offset,← sizeOf f.type):Sem (Nat×Nat)))).run P w=.ok A w
theorem AN {t:TypeId} {z:List Value} {A:Array (Nat×Nat)} (E:BT P t z A) (O:K N L a) {ps:List (Nat×Operand)} {vs:List Value} {cs:Array Value}
    (ho:o.op=.build t ps.toArray) (hv:evs L (ps.map (·.2))=some vs) (hf:Instr.fill (A[·]?) z.toArray ((ps.map (·.1)).zip vs)=some cs) :
    (execOp a.eval o).run P w=.ok (.value (.agg cs)) w:=by
 obtain ⟨U,_,T,J⟩:=E
 have D:(ps.toArray.map λp=>(p.1,a.eval p.2))=((ps.map (·.1)).zip vs).toArray:=by rw [List.map_toArray,pc O hv]
 simp only [execOp,ho,D,Instr.build,U,Sem.run_bind,Result.andThen_ok,run_underlying T w,J,Value.cells]
 rw [hf]
 rfl
theorem KT {p:Addr} (E:K N L a) {x:Operand} (A:o.op=.nilCheck x) (D:ev L x=some (.pointer (some p))) :
    (execOp a.eval o).run P w=.ok (.value (.pointer (some p))) w:=by
 simp [execOp,A,E.ev D]
def RA {α:Type} (A:List α) (lo hi:Int):Option (List α):=if 0≤lo∧lo≤hi∧hi≤A.length then some ((A.drop lo.toNat).take (hi.toNat - lo.toNat)) else none
theorem lH {α:Type} [Enc α] {w:World} {F:List Nat}:∀ (n:Nat) {A:List α} {cells:List Value},jM w F cells A→jM w F (cells.drop (n*Enc.sz α)) (A.drop n)
 | 0,A,cells,h=>by simpa using h
 | n+1,[],cells,h=>by simp [jM]
 | n+1,x::A,cells,⟨_,h⟩=>by
  have:=lH n h
  rw [List.drop_drop] at this
  simpa [Nat.add_mul,Nat.add_comm] using this
theorem oI {α:Type} [Enc α] {w:World} {F:List Nat}:∀ (n:Nat) {A:List α} {cells:List Value},jM w F cells A→jM w F cells (A.take n)
 | 0,A,cells,h=>by simp [jM]
 | n+1,[],cells,h=>by simp [jM]
 | n+1,x::A,cells,⟨h,h'⟩=>⟨h,oI n h'⟩
theorem Zb {α:Type} [Enc α] {u:World} {F:List Nat} {ao:Option Addr} {cap:Nat} {xs ys:List α} {lo hi:Int} (h:rd u F [.slice ao xs.length cap] xs) (hx:RA xs lo hi=some ys) :
    rd u F [.slice (if cap=lo.toNat then ao else ao.map (·.add (lo.toNat*Enc.sz α))) (hi.toNat - lo.toNat) (cap - lo.toNat)] ys:=by
 unfold RA at hx
 split at hx
 · rename_i Y
   simp only [Option.some.injEq] at hx
   subst hx
   obtain ⟨_,_,D,_,_,J,V⟩:=h
   simp only [List.cons.injEq,Value.slice.injEq,and_true,true_and] at D
   obtain ⟨rfl,rfl⟩:=D
   have A:((xs.drop lo.toNat).take (hi.toNat - lo.toNat)).length=hi.toNat - lo.toNat:=AJ
   refine ⟨_,_,by rw [A],by rw [A]; omega,AC,J,?_⟩
   rcases V with rfl | ⟨g,off,c,e,O,rfl,U,E,hl⟩
   · exact .inl AD
   · by_cases T:hi.toNat - lo.toNat=0
     · exact .inl (by rw [T]; simp)
     · refine .inr ⟨g,off+lo.toNat*Enc.sz α,c,e,O,?_,U,E,?_⟩
       · rw [if_neg AC]; simp [GS]
       · have:=oI (hi.toNat - lo.toNat) (lH lo.toNat hl)
         rw [List.drop_drop] at this
         exact this
 · simp at hx
theorem zY {α:Type} [Enc α] {u:World} {F:List Nat} {v:Value} {xs ys:List α} {lo hi:Int} {k k':IntKind} (hf:rd u F [v] xs) (hx:RA xs lo hi=some ys) (A:K N L a) {t:TypeId} (D:TS P t (Enc.sz α)) {x i j:Operand}
    (hg:gd L ops o.guard=some true) (hd:o.dst=some d) (hN:Nat.blt d N=true)
    (ho:o.op=.slice t x (some i) (some j) none) (hv:ev L x=some v) (hi':ev L i=some (.int k lo)) (hj:ev L j=some (.int k' hi))
    (h:∀ E a,K N ((d,E)::L) a→rd u F [E] ys→wpList P ops Q rest a w):wpList P ops Q (o::rest) a w:=by
 obtain ⟨_,cap,rfl,_,_⟩:=ME hf
 obtain ⟨e,D,J⟩:=D
 have O:=Zb hf hx
 unfold RA at hx
 split at hx
 · rename_i V
   refine Ux A hg hd hN ?_ λa A=>h _ a A O
   have U:0≤hi∧hi≤(cap:Int):=AC
   have T:0≤lo∧lo≤max hi 0:=AC
   simp [execOp,ho,Instr.sliceAt,Instr.slice,Instr.sliceBounds,Instr.sliceBound,A.ev hv,A.ev hi',A.ev hj,run_underlying D,asIntOf,U,T,J]
 · simp at hx
theorem am {α:Type} [Enc α] {u:World} {F:List Nat} {v:Value} {xs ys:List α} {hi:Int} {k':IntKind} (hf:rd u F [v] xs) (hx:RA xs 0 hi=some ys) (A:K N L a) {t:TypeId} (D:TS P t (Enc.sz α)) {x j:Operand}
    (hg:gd L ops o.guard=some true) (hd:o.dst=some d) (hN:Nat.blt d N=true)
    (ho:o.op=.slice t x none (some j) none) (hv:ev L x=some v) (hj:ev L j=some (.int k' hi))
    (h:∀ E a,K N ((d,E)::L) a→rd u F [E] ys→wpList P ops Q rest a w):wpList P ops Q (o::rest) a w:=by
 obtain ⟨_,cap,rfl,_,_⟩:=ME hf
 obtain ⟨e,D,J⟩:=D
 have O:=Zb hf hx
 unfold RA at hx
 split at hx
 · rename_i U
   refine Ux A hg hd hN ?_ λa A=>h _ a A O
   have T:0≤hi∧hi≤(cap:Int):=AC
   simp [execOp,ho,Instr.sliceAt,Instr.slice,Instr.sliceBounds,Instr.sliceBound,A.ev hv,A.ev hj,run_underlying D,asIntOf,T,J]
 · simp at hx
theorem rg {α:Type} [Enc α] {u:World} {F:List Nat} {v:Value} {xs ys:List α} {lo:Int} {k:IntKind} (hf:rd u F [v] xs) (hx:RA xs lo xs.length=some ys) (A:K N L a) {t:TypeId} (D:TS P t (Enc.sz α)) {x i:Operand}
    (hg:gd L ops o.guard=some true) (hd:o.dst=some d) (hN:Nat.blt d N=true)
    (ho:o.op=.slice t x (some i) none none) (hv:ev L x=some v) (hi':ev L i=some (.int k lo))
    (h:∀ E a,K N ((d,E)::L) a→rd u F [E] ys→wpList P ops Q rest a w):wpList P ops Q (o::rest) a w:=by
 obtain ⟨_,cap,rfl,_,_⟩:=ME hf
 obtain ⟨e,D,J⟩:=D
 have O:=Zb hf hx
 unfold RA at hx
 split at hx
 · rename_i U
   refine Ux A hg hd hN ?_ λa A=>h _ a A (by simpa using O)
   have T:0≤lo∧lo≤(xs.length:Int):=AC
   simp [execOp,ho,Instr.sliceAt,Instr.slice,Instr.sliceBounds,Instr.sliceBound,A.ev hv,A.ev hi',run_underlying D,asIntOf,T,J]
 · simp at hx
end
def AA {α β:Type} (m:Option α) (k:α→Option β):Option β:=match m with | some x=>k x | none=>none
theorem XM {α β:Type} {m:Option α} {k:α→Option β} {r:β} (h:AA m k=some r):∃ x,m=some x∧k x=some r:=by
 cases m with
 | none=>simp [AA] at h
 | some x=>exact ⟨x,rfl,h⟩
def qK (y:Int):Option Unit:=if y≠0 then some () else none
theorem jw {y:Int} {u:Unit} (h:qK y=some u):y≠0:=by unfold qK at h; split at h; assumption; simp at h
theorem WD {α:Type} {b:Bool} {x y r:α} (A:b=true) (h:(bif b then x else y)=r):x=r:=by subst A; exact h
theorem WG {α:Type} {b:Bool} {x y r:α} (A:b=false) (h:(bif b then x else y)=r):y=r:=by subst A; exact h
theorem SS {p:Prop} (b:Bool) (D:b=true→p) (A:b=false→p):p:=by cases b; exact A rfl; exact D rfl
end Go.Proofs.YtdgpkmgnjdpieaaGreatDoor
set_option linter.unusedSimpArgs false
set_option linter.unusedVariables false
namespace Go.Proofs.YtdgpkmgnjdpieaaGreatDoor
open Go Go.RowKit
open Enc (rd ow)
section
variable {P:Program} {Q:Exit→Act→World→Prop} {next:Act→World→Prop} {a:Act} {w:World} {id id':Nat}
theorem AF (h:next a w):Exit.then next Q .normal a w:=h
theorem nM (h:Q (.exit id) a w):Exit.then next Q (.exit id) a w:=h
theorem PV (h:Q .ret a w):Exit.then next Q .ret a w:=h
theorem RF (h:Q .normal a w):Exit.inBlock id Q .normal a w:=h
theorem uB (h:Q .normal a w):Exit.inBlock id Q (.exit id) a w:=by simpa [Exit.inBlock] using h
theorem rF (A:Nat.beq id' id=false) (h:Q (.exit id') a w):Exit.inBlock id Q (.exit id') a w:=by
 have:¬ id'=id:=λe=>by subst e; simp at A
 simpa [Exit.inBlock,this] using h
theorem tH (h:Q .ret a w):Exit.inBlock id Q .ret a w:=h
end
def jy (a:Act):ResultVar→Sem Value
 | .tmp t=>pure (a.tmps.getD t undef)
 | .cell x t=>do loadVar t (← asAddr (a.tmps.getD x undef))
def RV (P:Program) (a:Act) (w:World) (A:ResultVar) (v:Value):Prop:=(jy a A).run P w=.ok v w
section
variable {P:Program} {fn:Func} {R:Ending→World→Prop} {a:Act} {w:World} {N:Nat} {L:List (Nat×Value)}
theorem K.getD (A:K N L a) {t:Nat} {v:Value} (h:lk L t=some v):a.tmps.getD t undef=v:=by
 simp [Array.getD_eq_getD_getElem?,A.at_ _ _ h]
theorem RV.tmp (A:K N L a) {t:Nat} {v:Value} (h:lk L t=some v):RV P a w (.tmp t) v:=by
 simp [RV,jy,A.getD h,-Array.getD_eq_getD_getElem?]
theorem RV.c1 (E:K N L a) {t ty:Nat} {p:Addr} {v:Value} {r:List Value} (h:lk L t=some (.pointer (some p))) (A:T1 P ty) (D:PtAt w p (v::r)):RV P a w (.cell t ty) v:=by
 simp [RV,jy,E.getD h,asAddr,mL A D,-Array.getD_eq_getD_getElem?]
theorem RV.cA (E:K N L a) {t ty n:Nat} {p:Addr} {cs:List Value} (h:lk L t=some (.pointer (some p))) (A:TA P ty n) (D:PtAt w p cs) (J:cs.length=n):RV P a w (.cell t ty) (.agg cs.toArray):=by
 simp [RV,jy,E.getD h,asAddr,lv A D J,-Array.getD_eq_getD_getElem?]
theorem Zk (A:List ResultVar) (D:fn.results=A.toArray):(results fn a.tmps).run P w =
    ((A.mapM (jy a)).run P w).andThen λvs w=>.ok (if h:vs.length=1 then vs[0] else .tuple vs.toArray) w:=by
 have e:(results fn a.tmps)=(do let vs ← fn.results.mapM (jy a); pure (if h:vs.size=1 then vs[0] else .tuple vs)):=by
  unfold results
  congr 1
 rw [e,D]
 simp only [List.mapM_toArray,Sem.run_bind,Sem.run_map,bind_map_left]
 rfl
theorem sn (A:K N L a) (D:fn.results=#[]) (h:R (.returned (.tuple #[])) w):bodyPost P fn R .normal a w :=
 ⟨A.defers,_,results_none D _ _ _,h⟩
theorem C5 (O:K N L a) {D:ResultVar} {A:Value} (J:fn.results=#[D]) (E:RV P a w D A) (h:R (.returned A) w):bodyPost P fn R .ret a w:=by
 refine ⟨O.defers,A,?_,h⟩
 rw [Zk [D] J]
 unfold RV at E
 simp [E]
theorem B4 (V:K N L a) {D A:ResultVar} {T O:Value} (U:fn.results=#[D,A]) (J:RV P a w D T) (E:RV P a w A O) (h:R (.returned (.tuple #[T,O])) w):bodyPost P fn R .ret a w:=by
 refine ⟨V.defers,_,?_,h⟩
 rw [Zk [D,A] U]
 unfold RV at J E
 simp [J,E]
theorem bu (e:K N L a) {E D A:ResultVar} {V T U:Value} (Z:fn.results=#[E,D,A]) (O:RV P a w E V) (J:RV P a w D T) (Y:RV P a w A U) (h:R (.returned (.tuple #[V,T,U])) w):bodyPost P fn R .ret a w:=by
 refine ⟨e.defers,_,?_,h⟩
 rw [Zk [E,D,A] Z]
 unfold RV at O J Y
 simp [O,J,Y]
end
section
variable {X:List Nat} {w0 w w':World} {M:List (List Nat×World)}
theorem St.addNil (h:St X w0 w M) {u:World}:St X w0 w (([],u)::M):=by
 have e:EC (([],u)::M)=EC M:=by simp [EC]
 refine ⟨h.ext,?_,by rw [e]; exact h.lt,by rw [e]; exact h.lo,by rw [e]; exact h.nd⟩
 intro p A
 rcases List.mem_cons.1 A with rfl | A
 · intro b D; simp at D
 · exact h.ok p A
theorem St.fresh (h:St [] w0 w M) (i:Nat) {F:List Nat} {u:World} (hi:M[i]? = some (F,u)):∀ b∈F,w0.heap.size≤b:=λb D=>by
 rcases h.lo b (HT hi D) with A | A
 · simp at A
 · exact A
theorem St.freshX (h:St X w0 w M) (i j:Nat) {F:List Nat} {u v:World} (hi:M[i]? = some (F,u)) (J:M[j]? = some (X,v)) (D:Nat.beq i j=false):∀ b∈F,w0.heap.size≤b:=λb E=>by
 rcases h.lo b (HT hi E) with A | A
 · exact absurd A (ZC h.nd (λe=>by subst e; simp at D) hi J b E)
 · exact A
theorem St.start1 (w:World) {F:List Nat} (A:∀ b∈F,b<w.heap.size) (D:F.Nodup):St F w w [(F,w)]:=by
 have e:EC [(F,w)]=F:=by simp [EC]
 refine ⟨Ext.refl _ _,?_,by rw [e]; exact A,λb J=>.inl (by rw [e] at J; exact J),by rw [e]; exact D⟩
 intro p E
 simp only [List.mem_singleton] at E
 subst E; exact Agr.refl _ _
theorem St.split2at1 {A F G:List Nat} {u x:World} (h:St X w0 w ((A,x)::(F++G,u)::M)):St X w0 w ((A,x)::(F,u)::(G,u)::M):=by
 have e:EC ((A,x)::(F,u)::(G,u)::M)=EC ((A,x)::(F++G,u)::M):=by simp [EC]
 refine ⟨h.ext,?_,by rw [e]; exact h.lt,by rw [e]; exact h.lo,by rw [e]; exact h.nd⟩
 have J:=h.ok (F++G,u) AD
 intro p D
 simp only [List.mem_cons] at D
 rcases D with rfl | rfl | rfl | D
 · exact h.ok _ AD
 · exact J.sub (λb E=>by simp [E])
 · exact J.sub (λb E=>by simp [E])
 · exact h.ok p (by simp [D])
theorem St.join3 {A F G:List Nat} {x u v:World} (h:St X w0 w ((A,x)::(F,u)::(G,v)::M)):St X w0 w ((A++(F++G),w)::M):=by
 have e:EC ((A++(F++G),w)::M)=EC ((A,x)::(F,u)::(G,v)::M):=by simp [EC]
 refine ⟨h.ext,?_,by rw [e]; exact h.lt,by rw [e]; exact h.lo,by rw [e]; exact h.nd⟩
 intro p D
 simp only [List.mem_cons] at D
 rcases D with rfl | D
 · exact Agr.refl _ _
 · exact h.ok p (by simp [D])
theorem St.dis (h:St X w0 w M) (i j:Nat) {F G:List Nat} {u v:World} (hi:M[i]? = some (F,u)) (D:M[j]? = some (G,v)) (A:Nat.beq i j=false):∀ b∈F,b∉G :=
 ZC h.nd (λe=>by subst e; simp at A) hi D
theorem St.dis0 (h:St [] w0 w M) (j:Nat) {F G:List Nat} {v:World} (E:M[j]? = some (G,v)) (A:∀ b∈F,b<w0.heap.size) (O:∀ b∈F,b∉([]:List Nat)):∀ b∈F,b∉G:=λb J D=>by
 have:=h.fresh j E b D
 have:=A b J
 omega
theorem St.disX (h:St X w0 w M) (j:Nat) {F G:List Nat} {v:World} (O:M[j]? = some (G,v)) (A:∀ b∈F,b<w0.heap.size) (T:∀ b∈F,b∉X):∀ b∈F,b∉G:=λb E J=>by
 rcases h.lo b (HT O J) with D | D
 · exact T b E D
 · have:=A b E; omega
theorem bx.lt1 {u:World} {b:Nat} {cs:List Value} {e:TypeId} (h:bx u b cs e):∀ x∈[b],x<u.heap.size:=by
 intro x A
 simp only [List.mem_singleton] at A
 subst A; exact IF h
theorem Ext.lt1 {X:List Nat} {w w':World} (h:Ext X w w') {F:List Nat} (hl:∀ b∈F,b<w.heap.size):∀ b∈F,b<w'.heap.size:=λb A=>Nat.lt_of_lt_of_le (hl b A) h.size
theorem A3 {n:Nat} {F G:List Nat} (D:∀ b∈F,n≤b) (A:∀ b∈G,n≤b):∀ b∈F++G,n≤b:=λb E=>by
 rcases List.mem_append.1 E with h | h
 · exact D b h
 · exact A b h
end
theorem QP {α:Type} [Enc α] {w:World} {g:Nat} {e:TypeId} (h:bx w g [] e):ow w [g] [.slice (some ⟨g,0,none⟩) 0 0] ([]:List α) :=
 .inr ⟨g,0,0,_,e,[],rfl,Nat.le_refl _,by simp [maxLen],h,AD,by simp [ah],rfl,AD⟩
class Arg (α:Type) where
 argv:World→Value→α→Prop
open Arg (argv)
instance:Arg Int:=⟨λ_ v x=>v=.int .i64 x⟩
instance {α:Type} [Enc α]:Arg (List α):=⟨λw v x=>∃ F,rd w F [v] x⟩
class Ret (β:Type) where
 retv:β→Value
open Ret (retv)
instance:Ret Bool:=⟨.bool⟩
instance:Ret Int:=⟨.int .i64⟩
def WB {α β:Type} [Arg α] [Ret β] (P:Program) (w0:World) (fv:Value) (f:α→Option β):Prop :=
 ∃ A cap,fv=.func (.func A) #[] (List.toArray cap)∧(∀ (args:Array Value) (w:World),(callFunc A args).run P w=.ok (.enter A args) w) ∧
  ∀ w x v r,Ext [] w0 w→argv w v x→f x=some r→Calls P A (([v]++cap).toArray) w λe w'=>e=.returned (retv r)∧Ext [] w w'
def xu {α β:Type} [Arg α] [Ret β] (X:List Nat) (P:Program) (w0:World) (fv:Value) (f:α→Option β):Prop :=
 ∃ A cap,fv=.func (.func A) #[] (List.toArray cap)∧(∀ (args:Array Value) (w:World),(callFunc A args).run P w=.ok (.enter A args) w) ∧
  ∀ w x v r,Ext X w0 w→argv w v x→f x=some r→Calls P A (([v]++cap).toArray) w λe w'=>e=.returned (retv r)∧Ext [] w w'
def kn {α α' β:Type} [Arg α] [Arg α'] [Ret β] (X:List Nat) (P:Program) (w0:World) (fv:Value) (f:α→α'→Option β):Prop :=
 ∃ A cap,fv=.func (.func A) #[] (List.toArray cap)∧(∀ (args:Array Value) (w:World),(callFunc A args).run P w=.ok (.enter A args) w) ∧
  ∀ w x E v D r,Ext X w0 w→argv w v x→argv w D E→f x E=some r→Calls P A (([v,D]++cap).toArray) w λe w'=>e=.returned (retv r)∧Ext [] w w'
section
variable {P:Program} {o:Oper} {a:Act} {w:World} {N:Nat} {L:List (Nat×Value)}
def zO (P:Program) (t:TypeId) (α:Type) [Flat α] [DecidableEq α]:Prop :=
 P.eqGuardType P.depth t=false∧∀ (w:World) (x y:α),(Op.equalIn 10000 t (.agg (Flat.e x).toArray) (.agg (Flat.e y).toArray)).run P w=.ok (decide (x=y)) w
theorem zl {α:Type} [Flat α] [DecidableEq α] {t t':TypeId} (hS:zO P t α) {x y:α} {vx vy:List Value} (hK:K N L a) {i j:Operand}
    (ho:o.op=.binOp .eql t i j t') (hv:ev L i=some (.agg vx.toArray)) (hi:ev L j=some (.agg vy.toArray)) (hx:vx=Flat.e x) (hy:vy=Flat.e y) :
    (execOp a.eval o).run P w=.ok (.value (.bool (decide (x=y)))) w:=by
 subst hx; subst hy
 simp only [execOp,ho,hK.ev hv,hK.ev hi,Sem.run_bind,run_eqGuard_agg w _ _ _ _ _ _ hS.1,Result.andThen_ok,run_eql_struct,hS.2,Sem.run_pure]
end
end Go.Proofs.YtdgpkmgnjdpieaaGreatDoor
set_option linter.unusedSimpArgs false
set_option linter.unusedVariables false
namespace Go.Proofs.YtdgpkmgnjdpieaaGreatDoor
open Go
theorem tV {P:Program} {l:List Char} {A:List (List Char)} (h:P.initOrder=String.ofList l) (D:wordsSigns l=A):wordsSigns P.initOrder.toList=A:=by rw [h,String.toList_ofList,D]
theorem zf {P:Program} {A:List (List Char)} (h:wordsSigns P.initOrder.toList = A) (D:(match behindMainWord A with | c :: _=>c == "cut".toList | []=>false) = true):P.make = some .cut:=by
 unfold Program.make
 rw [h]
 revert D
 cases behindMainWord A with
 | nil=>simp
 | cons c r =>
  intro D
  have:c = "cut".toList:=by simpa using D
  subst this
  rfl
theorem y4 {P:Program} {A:List (List Char)} (h:wordsSigns P.initOrder.toList = A) (D:(match behindMainWord A with | c :: _=>c == "cut".toList | []=>false) = true):P.liftsFinal = false:=by
 unfold Program.liftsFinal Program.headLifts
 rw [h]
 revert D
 cases behindMainWord A with
 | nil=>simp
 | cons c r =>
  intro D
  have:c = "cut".toList:=by simpa using D
  subst this
  rfl
theorem xt {α:Type} [BEq α] {x y z:α} (h:x=y) (h2:(y==z)=true):(x==z)=true:=by rw [h]; exact h2
theorem oJ {α:Type} [BEq α] {x y z:α} (h:x=y) (h2:(z==y)=true):(z==x)=true:=by rw [h]; exact h2
end Go.Proofs.YtdgpkmgnjdpieaaGreatDoor
