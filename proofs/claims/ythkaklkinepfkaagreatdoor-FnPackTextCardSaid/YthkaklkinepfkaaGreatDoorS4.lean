/- own lemmas -/
import Derived.Test.YthkaklkinepfkaaGreatDoorS1
import Derived.OrdersHeld
import Derived.JoinedOf
set_option linter.unusedSimpArgs false
set_option linter.unusedVariables false
namespace Go.Proofs.YthkaklkinepfkaaGreatDoor
open Go Go.RowKit
open Enc (rd ow)
theorem Ext.setRow {w:World} (g:Nat) (cs:Array Value):Ext [g] w (w.setRow g cs) :=
 ⟨rfl,rfl,rfl,by simp,λk _ hk=>setRow_other w g k cs (by simpa using hk)⟩
def Qbb (l:List Value) (k:Nat) (vs:List Value):List Value:=l.take k++vs++l.drop (k+vs.length)
theorem Qpm (l:List Value) (k:Nat) (vs:List Value) (h:k+vs.length≤l.length):(Qbb l k vs).length=l.length:=by
 simp [Qbb]; omega
theorem Qpv (l:List Value) (k:Nat) (vs:List Value) (h:k+vs.length≤l.length) (j:Nat) :
    (Qbb l k vs)[j]? = if j<k then l[j]? else if j<k+vs.length then vs[j - k]? else l[j]?:=by
 simp only [Qbb]
 rw [List.getElem?_append,List.getElem?_append]
 simp only [List.length_append,List.length_take,List.getElem?_take,List.getElem?_drop]
 have e:min k l.length=k:=by omega
 rw [e]
 by_cases c1:j<k
 · have:j<k+vs.length:=by omega
   simp [c1,this]
 · by_cases c2:j<k+vs.length
   · simp [c1,c2]
   · simp only [c1,c2,if_false]
     congr 1; omega
theorem Qvy (l:List Value) (b q:Nat) (vs:List Value) (h:b+q+vs.length≤l.length):(Qbb l (b+q) vs).drop b=Qbb (l.drop b) q vs:=by
 apply List.ext_getElem?
 intro j
 rw [List.getElem?_drop,Qpv _ _ _ h,Qpv _ _ _ (by simp; omega),List.getElem?_drop]
 by_cases c1:j<q
 · simp [c1]
 · have c1':¬ b+j<b+q:=by omega
   by_cases c2:j<q+vs.length
   · have c2':b+j<b+q+vs.length:=by omega
     simp only [c1,c1',c2,c2',if_true,if_false]
     congr 1; omega
   · have c2':¬ b+j<b+q+vs.length:=by omega
     simp only [c1,c1',c2,c2',if_false]
theorem Qvp (l:List Value) (m q:Nat) (vs:List Value) (h:q+vs.length≤m) (hm:m≤l.length):(Qbb l q vs).take m=Qbb (l.take m) q vs:=by
 apply List.ext_getElem?
 intro j
 rw [List.getElem?_take,Qpv _ _ _ (by omega),Qpv _ _ _ (by simp; omega),List.getElem?_take]
 by_cases c:j<m
 · simp [c]
 · have c1:¬ j<q:=by omega
   have c2:¬ j<q+vs.length:=by omega
   simp [c,c1,c2]
theorem Q4g (l:List Value) (p sz off:Nat) (vs:List Value) (h:off+vs.length≤sz) (hl:p+sz≤l.length) :
    Qbb l p (Qbb ((l.drop p).take sz) off vs)=Qbb l (p+off) vs:=by
 have hl1:((l.drop p).take sz).length=sz:=by simp; omega
 have hl2:(Qbb ((l.drop p).take sz) off vs).length=sz:=by rw [Qpm _ _ _ (by omega),hl1]
 apply List.ext_getElem?
 intro j
 rw [Qpv l p _ (by omega),Qpv l (p+off) vs (by omega),hl2]
 by_cases c1:j<p
 · have:j<p+off:=by omega
   simp [c1,this]
 · by_cases c2:j<p+sz
   · simp only [c1,c2,if_true,if_false]
     rw [Qpv _ _ _ (by omega),List.getElem?_take,List.getElem?_drop]
     have c3:j - p<sz:=by omega
     have e:p+(j - p)=j:=by omega
     simp only [c3,if_true,e]
     by_cases c4:j - p<off
     · have:j<p+off:=by omega
       simp [c4,this]
     · have c4':¬ j<p+off:=by omega
       by_cases c5:j - p<off+vs.length
       · have c5':j<p+off+vs.length:=by omega
         simp only [c4,c4',c5,c5',if_true,if_false]
         congr 1; omega
       · have c5':¬ j<p+off+vs.length:=by omega
         simp only [c4,c4',c5,c5',if_false]
   · have c3:¬ j<p+off:=by omega
     have c4:¬ j<p+off+vs.length:=by omega
     simp [c1,c2,c3,c4]
theorem Qxl (off:Nat):∀ (vs:List Value) (j:Nat) (cells:Array Value),off+j+vs.length≤cells.size →
    ((vs.zipIdx j).foldl (λcs (p:Value×Nat)=>cs.setIfInBounds (off+p.2) p.1) cells).toList=Qbb cells.toList (off+j) vs
 | [],j,cells,_=>by simp [Qbb]
 | v::vs,j,cells,h=>by
  simp only [List.zipIdx_cons,List.foldl_cons]
  have h':off+(j+1)+vs.length≤(cells.setIfInBounds (off+j) v).size:=by simp at h ⊢; omega
  rw [Qxl off vs (j+1) _ h']
  have:=list_seg_step cells.toList (off+j) v vs (by simp at h ⊢; omega)
  simp only [Qbb,Array.toList_setIfInBounds,List.length_cons]
  rw [show off+(j+1)=off+j+1 by omega]
  simpa [Nat.add_assoc] using this
theorem Q6v (sz:Nat):∀ (vs:List Value) (k:Nat) (cells:Array Value),(∀ v∈vs,v.cells.size=sz)→k*sz+vs.length*sz≤cells.size →
    ∃ out:Array Value,Instr.fill (λi=>some (i*sz,sz)) cells ((vs.zipIdx k).map λp=>(p.2,p.1))=some out ∧
     out.toList=Qbb cells.toList (k*sz) (vs.flatMap λv=>v.cells.toList)
 | [],k,cells,_,_=>⟨cells,by simp [Instr.fill],by simp [Qbb]⟩
 | v::vs,k,cells,hv,hl=>by
  have h1:v.cells.size=sz:=hv v (by simp)
  simp only [List.length_cons,Nat.add_mul,Nat.one_mul] at hl
  have hz:(v.cells.zipIdx.foldl (λcs (p:Value×Nat)=>cs.setIfInBounds (k*sz+p.2) p.1) cells).toList=Qbb cells.toList (k*sz) v.cells.toList:=by
   have:=Qxl (k*sz) v.cells.toList 0 cells (by simp [h1]; omega)
   rw [← Array.foldl_toList,Array.toList_zipIdx]
   simpa using this
  have hsz:(v.cells.zipIdx.foldl (λcs (p:Value×Nat)=>cs.setIfInBounds (k*sz+p.2) p.1) cells).size=cells.size:=by
   rw [← Array.length_toList,hz,Qpm _ _ _ (by simp [h1]; omega)]; simp
  obtain ⟨out,ho,hc⟩:=Q6v sz vs (k+1) (v.cells.zipIdx.foldl (λcs (p:Value×Nat)=>cs.setIfInBounds (k*sz+p.2) p.1) cells) (λx hx=>hv x (by simp [hx])) (by rw [hsz,Nat.add_mul]; omega)
  refine ⟨out,?_,?_⟩
  · simp only [List.zipIdx_cons,List.map_cons,Instr.fill]
    have c1:¬ (v.cells.size≠sz):=by simp [h1]
    have c2:¬ (k*sz+v.cells.size>cells.size):=by omega
    simp only [c1,c2,decide_false,Bool.or_self,Bool.false_eq_true,if_false]
    exact ho
  · rw [hc,hz]
    have hlen:v.cells.toList.length=sz:=by simp [h1]
    have hcl:cells.toList.length=cells.size:=by simp
    simp only [Qbb,List.flatMap_cons,List.length_append,hlen]
    rw [show (k+1)*sz=k*sz+sz by rw [Nat.add_mul]; omega]
    have e1:(cells.toList.take (k*sz)++v.cells.toList++cells.toList.drop (k*sz+sz)).take (k*sz+sz)=cells.toList.take (k*sz)++v.cells.toList:=by
     rw [List.take_left' (by rw [List.length_append,List.length_take,hlen,hcl]; omega)]
    have e2:∀ m,(cells.toList.take (k*sz)++v.cells.toList++cells.toList.drop (k*sz+sz)).drop (k*sz+sz+m)=cells.toList.drop (k*sz+sz+m):=by
     intro m
     have hll:(cells.toList.take (k*sz)++v.cells.toList).length=k*sz+sz:=by rw [List.length_append,List.length_take,hlen,hcl]; omega
     rw [← List.drop_drop,List.drop_left' hll,List.drop_drop]
    rw [e1,e2]
    simp [List.append_assoc,Nat.add_assoc]
section
variable {P:Program} {ops:Array Oper} {Q:Exit→Act→World→Prop} {rest:List Oper} {o:Oper} {a:Act} {w:World} {N:Nat} {L:List (Nat×Value)}
variable {X:List Nat} {w0:World} {M:List (List Nat×World)} {d:Nat}
def TE (P:Program) (t sz bytes:Nat) (z:List Value):Prop :=
 ∃ e i,P.underlying t=some (.slice e)∧P.info? e=some i∧(∃ zv,i.zero=some zv∧zv.cells=z.toArray)∧i.size=sz∧i.bytes=bytes∧z.length=sz∧0<sz
theorem Q80 {xs:List (Nat×Operand)} (hK:K N L a):∀ {vs:List Value},evs L (xs.map (·.2))=some vs→xs.map (λp=>(p.1,a.eval p.2))=(xs.map (·.1)).zip vs:=by
 induction xs with
 | nil=>intro vs h; simp [evs] at h; subst h; rfl
 | cons p ps ih =>
  intro vs h
  simp only [List.map_cons,evs] at h
  cases h1:ev L p.2 with
  | none=>simp [h1] at h
  | some u =>
   cases h2:evs L (ps.map (·.2)) with
   | none=>simp [h1,h2] at h
   | some r =>
    simp only [h1,h2,Option.some.injEq] at h
    subst h
    simp [hK.ev h1,ih h2]
theorem Qbw {t n sz bytes:Nat} {z:List Value} (hT:TE P t sz bytes z) (hM:St X w0 w M) (hK:K N L a) {ps:List (Nat×Operand)} {vs:List Value} {cs:List Value}
    (hg:gd L ops o.guard=some true) (hd:o.dst=some d) (hN:Nat.blt d N=true)
    (ho:o.op=.buildSlice t n ps.toArray) (hv:evs L (ps.map (·.2))=some vs) (hix:ps.map (·.1)=List.range vs.length) (hn:vs.length=n) (hsm:n*sz≤16777216)
    (hc:(vs.flatMap λv=>v.cells.toList)=cs) (hvs:∀ v∈vs,v.cells.size=sz)
    (h:∀ g w' e a,K N ((d,.slice (some ⟨g,0,none⟩) n n)::L) a→St X w0 w' (([g],w')::M)→Ext [] w w'→bx w' g cs e→w.heap.size≤g→wpList P ops Q rest a w'):wpList P ops Q (o::rest) a w:=by
 obtain ⟨e,i,hu,hi,⟨zv,hz,hzc⟩,hs,hb,hzl,hpos⟩:=hT
 have hpairs:(ps.map λp=>(p.1,a.eval p.2))=(vs.zipIdx).map λp=>(p.2,p.1):=by
  rw [Q80 hK hv,hix]
  apply List.ext_getElem?
  intro k
  by_cases hk:k<vs.length
  · simp [List.getElem?_zip_eq_some,hk]
  · simp [hk]
 have hpa:(ps.toArray.map λp=>(p.1,a.eval p.2))=((vs.zipIdx).map λp=>(p.2,p.1)).toArray:=by
  rw [List.map_toArray,hpairs]
 obtain ⟨out,hf,hout⟩:=Q6v sz vs 0 ((Array.range (n*sz)).map (zv.cells[· % zv.cells.size]!)) hvs (by simp [hn])
 have hcl:cs.length=n*sz:=by
  rw [← hc]
  clear hc hf hout hpairs hpa hix hv
  subst hn
  clear hsm h ho
  induction vs with
  | nil=>simp
  | cons v vs ih =>
   simp only [List.flatMap_cons,List.length_append,List.length_cons,Nat.add_mul,Nat.one_mul]
   rw [ih (λx hx=>hvs x (by simp [hx]))]
   have:=hvs v (by simp)
   simp [this]; omega
 have hout':out=cs.toArray:=by
  apply Array.ext'
  rw [hout,hc]
  simp [Qbb,hcl]
 refine Que hK hg hd hN (v:=.slice (some ⟨w.heap.size,0,none⟩) n n) (w':=w.alloc (.cells cs.toArray e)) ?_ λa hK=>h _ _ e a hK (hM.new (Ext.alloc _ _) _ (Qk9 _ _ _) (by simp)) (Ext.alloc _ _) (heap_alloc_new w _) (Nat.le_refl _)
 have hbig:¬ (16777216<n*sz):=by omega
 by_cases h0:n*sz=0
 · have hn0:n=0:=by
     rcases Nat.mul_eq_zero.1 h0 with h1 | h1
     · exact h1
     · omega
   subst hn0
   have hvs0:vs=[]:=List.eq_nil_of_length_eq_zero hn
   subst hvs0
   simp only [List.flatMap_nil] at hc
   subst hc
   have hps:ps=[]:=by
    have:=congrArg List.length hix
    simpa using this
   subst hps
   simp [execOp,ho,Instr.buildSlice,run_underlying hu,sizeOf,typeInfo,hi,Instr.fill,newRow,Array.range_zero']
 · simp only [execOp,ho,hpa,Instr.buildSlice,run_underlying hu w,Sem.run_bind,Result.andThen_ok,sizeOf,typeInfo,run_program,hi,Sem.run_pure,hs,hbig,if_false,h0,zeroValue,hz,Sem.run_ite,gt_iff_lt,Nat.reducePow,Sem.run_map]
   rw [hf]
   simp [newRow,hout']
theorem Q6m {t n sz bytes:Nat} {z:List Value} (hT:TE P t sz bytes z) (hM:St X w0 w M) (hK:K N L a) {ps:List (Nat×Operand)} {vs:List Value} {cs:List Value}
    (hg:gd L ops o.guard=some true) (hd:o.dst=some d) (hN:Nat.blt d N=true)
    (ho:o.op=.buildSlice t n ps.toArray) (hv:evs L (ps.map (·.2))=some vs) (hix:ps.map (·.1)=List.range vs.length) (hn:vs.length=n) (hsm:n*sz≤16777216)
    (hc:(vs.flatMap λv=>v.cells.toList)=cs) (hvs:∀ v∈vs,v.cells.size=sz)
    (h:∀ g w' e a,K N ((d,.slice (some ⟨g,0,none⟩) n n)::L) a→St X w0 w' (([g],w')::M)→Ext [] w w'→bx w' g cs e→wpList P ops Q rest a w'):wpList P ops Q (o::rest) a w :=
 Qbw hT hM hK hg hd hN ho hv hix hn hsm hc hvs λg w' e a hK hM hE hb _=>h g w' e a hK hM hE hb
theorem Qs8 {α:Type} [Flat α] {w:World}:∀ (xs:List α),owL w (xs.map λ_=>[]) ((xs.map Flat.e).flatten) xs
 | []=>rfl
 | x::xs=>by
  have hl:(Flat.e x).length=Enc.sz α:=Flat.len x
  refine ⟨⟨rfl,?_⟩,?_⟩
  · simp [List.take_left' hl]
  · simp only [List.map_cons,List.flatten_cons,List.drop_left' hl]
    exact Qs8 xs
theorem Qjm {α β:Type} (xs:List α):(xs.map λ_=>([]:List β)).flatten=[]:=by induction xs <;> simp_all
theorem Qv7 {α:Type} [Flat α] (xs:List α):((xs.map Flat.e).flatten).length=xs.length*Flat.sz α:=by
 induction xs with
 | nil=>simp
 | cons x xs ih=>simp [ih,Flat.len x,Nat.add_mul]; omega
theorem Qai {α:Type} [Flat α] {w:World} {g n:Nat} {cs:List Value} {e:TypeId} (h:bx w g cs e) (xs:List α) (hc:(xs.map Flat.e).flatten=cs) (hn:xs.length=n) (hm:Nat.ble n 1000000=true) :
    ow w [g] [.slice (some ⟨g,0,none⟩) n n] xs:=by
 subst hc; subst hn
 have hm':=Nat.le_of_ble_eq_true hm
 refine .inr ⟨g,0,xs.length,_,e,xs.map λ_=>[],rfl,Nat.le_refl _,by simp [maxLen]; omega,h,?_,?_,by rw [Qjm],by simp⟩
 · rw [Nat.zero_add,List.size_toArray,Qv7]; exact Nat.le_refl _
 · have:xs.length*Enc.sz α=((xs.map Flat.e).flatten).length:=(Qv7 xs).symm
   rw [this]
   simp only [List.drop_zero,List.take_length]
   exact Qs8 xs
theorem Qaw (w:World) {α:Type} [Enc α]:ow w [] [.slice none 0 0] ([]:List α):=.inl ⟨rfl,rfl,rfl⟩
theorem Q9c (w:World) {α:Type} [Enc α]:rd w [] [.slice none 0 0] ([]:List α):=Q90 (Qaw w)
def mk {α:Type} (bytes:Nat) (z:α) (n:Int):Option (List α):=if 0≤n∧bytes*n≤140737488355328 then some (List.replicate n.toNat z) else none
theorem Q2b (z:List Value) (hz:0<z.length):∀ n,madeCells z.toArray (n*z.length)=((List.replicate n z).flatten).toArray:=by
 intro n
 apply Array.ext'
 simp only [madeCells]
 induction n with
 | zero=>simp
 | succ n ih =>
  rw [List.replicate_succ',List.flatten_append,List.flatten_singleton]
  rw [show (n+1)*z.length=n*z.length+z.length by rw [Nat.add_mul]; omega]
  simp only [Array.toList_map,Array.toList_range] at ih ⊢
  rw [List.range_add,List.map_append,ih,List.map_map]
  congr 1
  apply List.ext_getElem
  · simp
  · intro i h1 h2
    simp at h1
    simp [Nat.mod_eq_of_lt h1,h1]
theorem Jnd {α:Type} [Flat α] {t bytes:Nat} {z:List Value} {zx:α} {ys:List α} {n:Int} (hx:mk bytes zx n=some ys) (hT:TE P t (Flat.sz α) bytes z) (hz:Flat.e zx=z) (hb:Nat.blt 0 bytes=true) (hM:St X w0 w M) (hK:K N L a) {l c:Operand} {k k':IntKind}
    (hg:gd L ops o.guard=some true) (hd:o.dst=some d) (hN:Nat.blt d N=true)
    (ho:o.op=.makeSlice t l c) (hl:ev L l=some (.int k n)) (hc:ev L c=some (.int k' n))
    (h:∀ g w' a v,K N ((d,v)::L) a→St X w0 w' (([g],w')::M)→Ext [] w w'→ow w' [g] [v] ys→wpList P ops Q rest a w'):wpList P ops Q (o::rest) a w:=by
 unfold mk at hx
 split at hx
 · rename_i h0
   simp only [Option.some.injEq] at hx
   subst hx
   obtain ⟨h0,h1⟩:=h0
   obtain ⟨e,i,hu,hi,⟨zv,hzv,hzc⟩,hs,hbb,hzl,hpos⟩:=hT
   have hb':0<bytes:=by simpa using hb
   have hn:n≤140737488355328:=Int.le_trans (by have:=Int.mul_le_mul_of_nonneg_right (show (1:Int)≤bytes by omega) h0; simpa using this) h1
   have hr:=run_make (P:=P) w t e i zv hu hi hzv k k' n n h0 (Int.le_refl _) (by rw [hbb]; omega) (by omega)
   have hcells:madeCells zv.cells (n.toNat*i.size)=(((List.replicate n.toNat zx).map Flat.e).flatten).toArray:=by
    rw [hzc,hs,← hzl,Q2b z (by omega)]
    simp [hz]
   refine Que hK hg hd hN (v:=.slice (some ⟨w.heap.size,0,none⟩) n.toNat n.toNat) (w':=w.alloc (.cells (((List.replicate n.toNat zx).map Flat.e).flatten).toArray e)) ?_ λa hK =>
    h w.heap.size _ a _ hK (hM.new (Ext.alloc _ _) _ (Qk9 _ _ _) (by simp)) (Ext.alloc _ _) ?_
   · simp [execOp,ho,hK.ev hl,hK.ev hc,hr,hcells]
   · refine .inr ⟨w.heap.size,0,n.toNat,_,e,(List.replicate n.toNat zx).map λ_=>[],by simp,by simp,by simp [maxLen]; omega,heap_alloc_new w _,?_,?_,by rw [Qjm],by simp⟩
     · rw [Nat.zero_add,List.size_toArray,Qv7,List.length_replicate]; exact Nat.le_refl _
     · have e1:(List.replicate n.toNat zx).length*Enc.sz α=(((List.replicate n.toNat zx).map Flat.e).flatten).length:=(Qv7 _).symm
       rw [e1]
       simp only [List.drop_zero,List.take_length]
       exact Qs8 _
 · simp at hx
def Qc7 {α:Type} (bytes:Nat) (xs ys:List α):Option (List α):=if (xs.length+ys.length)*bytes≤140737488355328 then some (xs++ys) else none
def News (w:World) (x:Value) (m:Nat) (news:List Value):Prop:=∃ ao c,x=.slice ao m c∧((m=0∧news=[])∨∃ ad,ao=some ad∧PtAt w ad news)
theorem Qwz {α:Type} [Enc α] {w:World}:∀ {Gs:List (List Nat)} {cells:List Value} {xs:List α} {Hs:List (List Nat)} {news:List Value} {ys:List α},
    owL w Gs cells xs→owL w Hs news ys→owL w (Gs++Hs) (cells++news) (xs++ys)
 | [],_,[],Hs,news,ys,h,h'=>by simp only [owL] at h; subst h; exact h'
 | G::Gs,cells,x::xs,Hs,news,ys,⟨h,h1⟩,h'=>by
  have hl:=Enc.rd_sz (Enc.ow_rd h)
  have hle:Enc.sz α≤cells.length:=by simp at hl; omega
  refine ⟨?_,?_⟩
  · rw [List.take_append_of_le_length hle]; exact h
  · rw [List.drop_append_of_le_length hle]; exact Qwz h1 h'
 | [],_,_::_,_,_,_,h,_=>h.elim
 | _::_,_,[],_,_,_,h,_=>h.elim
theorem Q7b {α:Type} [Enc α] {w:World}:∀ {Gs:List (List Nat)} {cells:List Value} {xs:List α},owL w Gs cells xs→∀ u∈cells,u.oneCell'=true
 | [],_,[],h=>by simp only [owL] at h; subst h; simp
 | G::Gs,cells,x::xs,⟨h,h'⟩=>by
  intro u hu
  rw [← List.take_append_drop (Enc.sz α) cells,List.mem_append] at hu
  rcases hu with hu | hu
  · exact Enc.rd_one (Enc.ow_rd h) u hu
  · exact Q7b h' u hu
 | [],_,_::_,h=>h.elim
 | _::_,_,[],h=>h.elim
theorem Qya (t ty e e':TypeId) (i:TypeInfo) (ht:P.underlying t=some (.slice e)) (hi:P.info? e=some i)
    (g off sLen sCap:Nat) (cur:Array Value) (hg:w.heap[g]? = some (.cells cur e' (0,0)))
    (x:Value) (m:Nat) (news:List Value) (hx:News w x m news) (hl:news.length=m*i.size) (h1:∀ u∈news,u.oneCell'=true)
    (hroom:sLen+m≤sCap) (hfit:off+sLen*i.size+news.length≤cur.size) :
    (Builtin.append_ #[t,t] ty #[.slice (some ⟨g,off,none⟩) sLen sCap,x]).run P w =
     .ok (.slice (some ⟨g,off,none⟩) (sLen+m) sCap) (w.setRow g (Qbb cur.toList (off+sLen*i.size) news).toArray):=by
 obtain ⟨ao,c,rfl,hx⟩:=hx
 have hst:=run_storeCells_at P g (off+sLen*i.size) e' news 0 cur w hg (by simpa using hfit) h1
 simp only [Nat.add_zero] at hst
 rcases hx with ⟨rfl,rfl⟩ | ⟨ad,rfl,hp⟩
 · have hf:(Builtin.firstCells i.size 0 (.slice ao 0 c)).run P w=.ok #[] w:=by
     cases ao <;> simp [Builtin.firstCells,loadCells,loadCellsFrom]
   simp only [Nat.add_zero] at hroom ⊢
   simp [Builtin.append_,run_underlying ht,sizeOf,typeInfo,hi,Builtin.lenOf,hroom,hf,Qgk,hst,Qbb]
 · have hf:=run_firstCells_some (P:=P) w i.size m ad m c news hl hp.cell
   simp [Builtin.append_,run_underlying ht,sizeOf,typeInfo,hi,Builtin.lenOf,hroom,hf,Qgk,hst,Qbb]
theorem Jag {α:Type} [Enc α] {t ty bytes:Nat} {z:List Value} (hT:TE P t (Enc.sz α) bytes z) {F:List Nat} {v:Value} {xs:List α} (hown:ow w F [v] xs)
    {x:Value} {m:Nat} {news:List Value} (hx:News w x m news) {Hs:List (List Nat)} {ys:List α} (hys:owL w Hs news ys) (hm:ys.length=m)
    (hnd:(F++Hs.flatten).Nodup) (hb:(xs.length+ys.length)*bytes≤140737488355328) (hbp:0<bytes) :
    ∃ v' F' w',(Builtin.append_ #[t,t] ty #[v,x]).run P w=.ok v' w'∧Ext (F++Hs.flatten) w w'∧ow w' F' [v'] (xs++ys) ∧
     ∀ b∈F',(b∈F++Hs.flatten∨w.heap.size≤b)∧b<w'.heap.size:=by
 obtain ⟨e,i,hu,hi,⟨zv,hzv,hzc⟩,hs,hbb,hzl,hpos⟩:=hT
 obtain ⟨hHl,hnl⟩:=Qw1 hys
 have hnl':news.length=m*i.size:=by rw [hnl,hm,hs]
 have hones:=Q7b hys
 have hle:xs.length+ys.length≤140737488355328:=Nat.le_trans (Nat.le_mul_of_pos_right _ hbp) hb
 subst hm
 have hHlt:=Q46 hys
 have grown:∀ (old:Nat) (Gs:List (List Nat)) (cells:List Value),owL w Gs cells xs→(Gs.flatten++Hs.flatten).Nodup→(∀ b∈Gs.flatten,b∈F)→old<xs.length+ys.length →
     ∃ F',ow (w.drew.alloc (.cells (cells.toArray++news.toArray++Builtin.zeroCells zv.cells (grownCap w (xs.length+ys.length) old e - (xs.length+ys.length))) e)) F'
         [.slice (some ⟨w.heap.size,0,none⟩) (xs.length+ys.length) (grownCap w (xs.length+ys.length) old e)] (xs++ys) ∧
      ∀ b∈F',(b∈F++Hs.flatten∨w.heap.size≤b)∧b<(w.drew.alloc (.cells (cells.toArray++news.toArray++Builtin.zeroCells zv.cells (grownCap w (xs.length+ys.length) old e - (xs.length+ys.length))) e)).heap.size:=by
  intro old Gs cells hG hGn hGF ho
  have hge:=grownCap_ge w (xs.length+ys.length) old e
  have hcm:grownCap w (xs.length+ys.length) old e≤maxLen:=grownCap_le_maxLen w _ old e (by simp only [maxLen]; omega)
  have hGlt:=Q46 hG
  obtain ⟨hGl,hcl⟩:=Qw1 hG
  have hE:Agr (Gs.flatten++Hs.flatten) w (w.drew.alloc (.cells (cells.toArray++news.toArray++Builtin.zeroCells zv.cells (grownCap w (xs.length+ys.length) old e - (xs.length+ys.length))) e)):=by
   intro b hb
   have:b<w.heap.size:=by
    rcases List.mem_append.1 hb with hb | hb
    · exact hGlt b hb
    · exact hHlt b hb
   exact (Ext.alloc w.drew _).blk b this (by simp)
  refine ⟨w.heap.size::(Gs++Hs).flatten,.inr ⟨w.heap.size,0,_,_,e,Gs++Hs,by simp,by simpa using hge,hcm,heap_alloc_new w.drew _,?_,?_,rfl,?_⟩,?_⟩
  · simp only [Array.size_append,List.size_toArray,size_zeroCells,hcl,hnl,hzc,hzl]
    rw [← Nat.add_mul,← Nat.add_mul,show xs.length+ys.length+(grownCap w (xs.length+ys.length) old e - (xs.length+ys.length))=grownCap w (xs.length+ys.length) old e by omega]
    omega
  · have:(List.drop 0 (cells.toArray++news.toArray++Builtin.zeroCells zv.cells (grownCap w (xs.length+ys.length) old e - (xs.length+ys.length))).toList).take ((xs++ys).length*Enc.sz α)=cells++news:=by
      simp only [List.drop_zero,Array.toList_append,List.append_assoc]
      rw [← List.append_assoc]
      exact List.take_left' (by simp [hcl,hnl,Nat.add_mul])
    rw [this]
    exact Qvr (hE.sub (by intro b hb; simpa using hb)) (Qwz hG hys)
  · refine List.nodup_cons.2 ⟨?_,by simpa using hGn⟩
    intro hb
    rw [List.flatten_append,List.mem_append] at hb
    rcases hb with hb | hb
    · have:=hGlt _ hb; omega
    · have:=hHlt _ hb; omega
  · intro b hb
    rcases List.mem_cons.1 hb with rfl | hb
    · exact ⟨.inr (Nat.le_refl _),by simp [heap_drew]⟩
    · rw [List.flatten_append,List.mem_append] at hb
      rcases hb with hb | hb
      · have:=hGlt _ hb
        exact ⟨.inl (List.mem_append_left _ (hGF b hb)),by simp [heap_drew]; omega⟩
      · have:=hHlt _ hb
        exact ⟨.inl (List.mem_append_right _ hb),by simp [heap_drew]; omega⟩
 have hExtA:∀ o,Ext (F++Hs.flatten) w (w.drew.alloc o):=λo=>(((Ext.drew w).trans (Ext.alloc w.drew o) (by simp)).wk (by simp))
 rcases hown with ⟨hv,rfl,rfl⟩ | ⟨g,off,cap,c,e',Gs,hv,h1,h2,h3,h4,h5,rfl,h6⟩
 · simp only [List.cons.injEq,and_true] at hv
   subst hv
   obtain ⟨ao,c',rfl,hx'⟩:=hx
   by_cases hm0:ys.length=0
   · have hys0:ys=[]:=List.eq_nil_of_length_eq_zero hm0
     subst hys0
     refine ⟨.slice none 0 0,[],w,?_,Ext.refl _ _,?_,by simp⟩
     · have hf:(Builtin.firstCells i.size 0 (.slice ao 0 c')).run P w=.ok #[] w:=by cases ao <;> simp [Builtin.firstCells,loadCells,loadCellsFrom]
       simp [Builtin.append_,run_underlying hu,sizeOf,typeInfo,hi,Builtin.lenOf,hf]
     · exact Qaw w
   · rcases hx' with ⟨h0,_⟩ | ⟨ad,rfl,hp⟩
     · exact absurd h0 hm0
     · have hr:=run_append_nil (P:=P) w t ty e i zv hu hi hzv ad ys.length c' news hnl' hp.cell (by omega) (by omega) (by rw [hbb]; simp at hb; omega)
       obtain ⟨F',h7,h8⟩:=grown 0 [] [] rfl (by simpa using hnd) (by simp) (by simp; omega)
       simp only [List.length_nil,Nat.zero_add,List.nil_append,Array.empty_append] at h7 h8 ⊢
       refine ⟨_,F',_,hr,hExtA _,?_,?_⟩
       · simpa using h7
       · simpa using h8
 · simp only [List.cons.injEq,and_true] at hv
   subst hv
   obtain ⟨hGl,hcl⟩:=Qw1 h5
   have hcl':xs.length*Enc.sz α≤c.toList.length - off:=by have h:=hcl; rw [List.length_take,List.length_drop] at h; omega
   by_cases hroom:xs.length+ys.length≤cap
   · have hfit:off+xs.length*i.size+news.length≤c.size:=by
       rw [hnl',hs]
       have:=Nat.mul_le_mul_right (Enc.sz α) hroom
       rw [Nat.add_mul] at this
       omega
     have hr:=Qya (P:=P) (w:=w) t ty e e' i hu hi g off xs.length cap c h3 x ys.length news hx hnl' hones hroom hfit
     have hgw:(w.setRow g (Qbb c.toList (off+xs.length*i.size) news).toArray).heap[g]? = some (.cells (Qbb c.toList (off+xs.length*i.size) news).toArray e' (0,0)):=setRow_heap w g c _ e' _ h3
     have hng:g∉Gs.flatten++Hs.flatten:=by
      have:=(List.nodup_cons.1 (by simpa using hnd:(g::(Gs.flatten++Hs.flatten)).Nodup)).1
      exact this
     have hE:Agr (Gs.flatten++Hs.flatten) w (w.setRow g (Qbb c.toList (off+xs.length*i.size) news).toArray):=λb hb=>setRow_other w g b _ (λe=>hng (e ▸ hb))
     refine ⟨_,g::(Gs++Hs).flatten,_,hr,(Ext.setRow g _).wk (by simp),.inr ⟨g,off,cap,_,e',Gs++Hs,by simp,by simpa using hroom,h2,hgw,?_,?_,rfl,?_⟩,?_⟩
     · rw [List.size_toArray,Qpm _ _ _ (by simpa using hfit)]; simpa using h4
     · have:(List.drop off (Qbb c.toList (off+xs.length*i.size) news).toArray.toList).take ((xs++ys).length*Enc.sz α)=(c.toList.drop off).take (xs.length*Enc.sz α)++news:=by
         rw [hs]
         simp only [Qbb,List.append_assoc]
         have e1:(c.toList.take (off+xs.length*Enc.sz α))=c.toList.take off++(c.toList.drop off).take (xs.length*Enc.sz α):=by rw [List.take_add]
         have hd:(c.toList.take off).length=off:=by rw [List.length_take,Array.length_toList]; omega
         rw [e1,List.append_assoc,List.drop_left' hd,← List.append_assoc]
         exact List.take_left' (by rw [List.length_append,hcl,hnl,List.length_append,Nat.add_mul])
       rw [this]
       exact Qvr (hE.sub (by intro b hb; simpa using hb)) (Qwz h5 hys)
     · simpa using hnd
     · intro b hb
       refine ⟨.inl (by simpa using hb),?_⟩
       simp only [size_setRow]
       rcases List.mem_cons.1 hb with rfl | hb
       · exact Qgx h3
       · rw [List.flatten_append,List.mem_append] at hb
         rcases hb with hb | hb
         · exact Q46 h5 _ hb
         · exact hHlt _ hb
   · obtain ⟨ao,c',rfl,hx'⟩:=hx
     have hm0:ys.length≠0:=by omega
     rcases hx' with ⟨h0,_⟩ | ⟨ad,rfl,hp⟩
     · exact absurd h0 hm0
     · have holds:∀ j u,((c.toList.drop off).take (xs.length*Enc.sz α))[j]? = some u→w.cell? ((⟨g,off,none⟩:Addr).add j)=some u:=by
         intro j u hu
         rw [List.getElem?_take,List.getElem?_drop] at hu
         split at hu
         · rw [Qgk,cell_of_row w g _ c e' (0,0) h3]
           simpa using hu
         · simp at hu
       have hr:=run_append_grow (P:=P) w t ty e i zv hu hi hzv ⟨g,off,none⟩ xs.length cap _ (by rw [hcl,hs]) holds ad ys.length c' news hnl' hp.cell (by omega) (by omega) (growslice_fits (by omega) (by rw [hbb]; exact hb))
       obtain ⟨F',h7,h8⟩:=grown cap Gs _ h5 (by have:=(List.nodup_cons.1 (by simpa using hnd:(g::(Gs.flatten++Hs.flatten)).Nodup)).2; exact this) (λb hb=>List.mem_cons_of_mem _ hb) (by omega)
       exact ⟨_,F',_,hr,hExtA _,h7,h8⟩
theorem News.box {u:World} {g m:Nat} {cs:List Value} {e:TypeId} (h:bx u g cs e) {F:List Nat} (hA:Agr F u w) (hg:g∈F):News w (.slice (some ⟨g,0,none⟩) m m) m cs :=
 ⟨_,_,rfl,.inr ⟨_,rfl,(h.agr hA hg).pt⟩⟩
theorem Q4m {α:Type} [Flat α] {w:World} {F:List Nat}:∀ {xs:List α} {cells:List Value},rdL w F cells xs→cells.take (xs.length*Flat.sz α)=(xs.map Flat.e).flatten
 | [],cells,_=>by simp
 | x::xs,cells,⟨⟨G,_,h⟩,h'⟩=>by
  have h2:cells.take (Enc.sz α)=Flat.e x:=h.2
  have h2':cells.take (Flat.sz α)=Flat.e x:=h2
  have ih:=Q4m h'
  simp only [List.length_cons,List.map_cons,List.flatten_cons,← ih,← h2']
  rw [show (xs.length+1)*Flat.sz α=Flat.sz α+xs.length*Flat.sz α by rw [Nat.add_mul]; omega,List.take_add]
  rfl
theorem News.rd {α:Type} [Flat α] {F:List Nat} {v:Value} {ys:List α} (h:rd w F [v] ys):News w v ys.length (ys.map Flat.e).flatten:=by
 obtain ⟨ao,cap,hv,h1,h2,h3,h4⟩:=h
 simp only [List.cons.injEq,and_true] at hv
 subst hv
 refine ⟨ao,cap,rfl,?_⟩
 rcases h4 with rfl | ⟨g,off,c,e,fr,rfl,hg,hh,hl⟩
 · exact .inl ⟨rfl,rfl⟩
 · refine .inr ⟨_,rfl,g,off,c,e,fr,rfl,hh,?_⟩
   rw [Qv7]
   exact Q4m hl
theorem Q43 {α:Type} {bytes:Nat} {xs ys zs:List α} (h:Qc7 bytes xs ys=some zs):(xs.length+ys.length)*bytes≤140737488355328∧zs=xs++ys:=by
 unfold Qc7 at h
 split at h
 · rename_i h0; simp only [Option.some.injEq] at h; exact ⟨h0,h.symm⟩
 · simp at h
theorem Qap {α:Type} [Flat α] {t bytes:Nat} {z:List Value} {xs ys zs:List α} (hz:Qc7 bytes xs ys=some zs) (hT:TE P t (Flat.sz α) bytes z) (hb:Nat.blt 0 bytes=true) (hM:St X w0 w M) (i:Nat) {F:List Nat} {u:World} {v:Value}
    (hown:ow u F [v] xs) {x:Value} {m:Nat} {news:List Value} (hx:News w x m news) (hn:(ys.map Flat.e).flatten=news) (hm:ys.length=m) (hK:K N L a) {s y:Operand}
    (hi:M[i]? = some (F,u)) (hg:gd L ops o.guard=some true) (hd:o.dst=some d) (hN:Nat.blt d N=true)
    (ho:o.op=.call { callee:=.builtin .append,args:=#[s,y],argTypes:=#[t,t] }) (hs:ev L s=some v) (hy:ev L y=some x)
    (h:∀ v' F' w' a,K N ((d,v')::L) a→Ext F w w'→St X w0 w' (M.set i (F',w'))→ow w' F' [v'] zs→(∀ b∈F',b∈F∨w.heap.size≤b)→wpList P ops Q rest a w'):wpList P ops Q (o::rest) a w:=by
 obtain ⟨h1,rfl⟩:=Q43 hz
 have hA:=hM.a i hi
 have hfl:=Qjm (β:=Nat) ys
 obtain ⟨v',F',w',hr,hE,how,hF'⟩:=Jag (P:=P) (ty:=o.type) hT (Enc.ow_agr hown hA) hx (Hs:=ys.map λ_=>[]) (by rw [← hn]; exact Qs8 ys) hm (by rw [hfl,List.append_nil]; exact hM.ndF i hi) h1 (by simpa using hb)
 rw [hfl,List.append_nil] at hE hF'
 refine Que hK hg hd hN ?_ λa hK=>h v' F' w' a hK hE (hM.mut i hi hE F' hF' (Enc.ow_nd how)) how (λb hb=>(hF' b hb).1)
 simp [execOp,ho,resolve,invoke,builtin,hK.ev hs,hK.ev hy,hr]
theorem Qcy {α:Type} [Flat α] {t bytes:Nat} {z:List Value} {xs ys zs:List α} (hz:Qc7 bytes xs ys=some zs) (hT:TE P t (Flat.sz α) bytes z) (hb:Nat.blt 0 bytes=true) (hM:St X w0 w M) (i:Nat) {F:List Nat} {u:World} {v:Value}
    (hown:ow u F [v] xs) {x:Value} {m:Nat} {news:List Value} (hx:News w x m news) (hn:(ys.map Flat.e).flatten=news) (hm:ys.length=m) (hK:K N L a) {s y:Operand}
    (hi:M[i]? = some (F,u)) (hg:gd L ops o.guard=some true) (hd:o.dst=some d) (hN:Nat.blt d N=true)
    (ho:o.op=.call { callee:=.builtin .append,args:=#[s,y],argTypes:=#[t,t] }) (hs:ev L s=some v) (hy:ev L y=some x)
    (h:∀ v' F' w' a,K N ((d,v')::L) a→Ext F w w'→St X w0 w' (M.set i (F',w'))→ow w' F' [v'] zs→wpList P ops Q rest a w'):wpList P ops Q (o::rest) a w :=
 Qap hz hT hb hM i hown hx hn hm hK hi hg hd hN ho hs hy λv' F' w' a hK hE hM how _=>h v' F' w' a hK hE hM how
theorem Qgf {α:Type} [Enc α] {t bytes:Nat} {z:List Value} {xs zs:List α} {y1:α} (hz:Qc7 bytes xs [y1]=some zs) (hT:TE P t (Enc.sz α) bytes z) (hb:Nat.blt 0 bytes=true) {F G:List Nat} {u u1 u2:World} (hM:St X w0 w ((F++G,u)::M)) {v:Value}
    (hown:ow u1 F [v] xs) (hA1:Agr F u1 w) {x:Value} {news:List Value} (hx:News w x 1 news) (hy1:ow u2 G news y1) (hA2:Agr G u2 w) (hK:K N L a) {s y:Operand}
    (hg:gd L ops o.guard=some true) (hd:o.dst=some d) (hN:Nat.blt d N=true)
    (ho:o.op=.call { callee:=.builtin .append,args:=#[s,y],argTypes:=#[t,t] }) (hs:ev L s=some v) (hy:ev L y=some x)
    (h:∀ v' F' w' a,K N ((d,v')::L) a→Ext (F++G) w w'→St X w0 w' ((F',w')::M)→ow w' F' [v'] zs→wpList P ops Q rest a w'):wpList P ops Q (o::rest) a w:=by
 obtain ⟨h1,rfl⟩:=Q43 hz
 have hl:=Enc.rd_sz (Enc.ow_rd hy1)
 have e1:[G].flatten=G:=by simp
 obtain ⟨v',F',w',hr,hE,how,hF'⟩:=Jag (P:=P) (ty:=o.type) hT (Enc.ow_agr hown hA1) hx (Hs:=[G]) (ys:=[y1]) (by
  refine ⟨?_,?_⟩
  · rw [← hl,List.take_length]; exact Enc.ow_agr hy1 hA2
  · simp [owL,← hl]) rfl (by rw [e1]; exact hM.ndF 0 rfl) h1 (by simpa using hb)
 rw [e1] at hE hF'
 refine Que hK hg hd hN ?_ λa hK=>h v' F' w' a hK hE (hM.mut 0 rfl hE F' hF' (Enc.ow_nd how)) how
 simp [execOp,ho,resolve,invoke,builtin,hK.ev hs,hK.ev hy,hr]
theorem Qu1 {t n g off:Nat} {cs:List Value} {e:TypeId} {v:Value} (hs:∀ w,(sizeOf t).run P w=.ok n w) (hb:bx w g cs e) (hv:v.cells.size=n) (hle:off+n≤cs.length)
    (h1:∀ u∈v.cells.toList,u.oneCell'=true):(storeVar t ⟨g,off,none⟩ v).run P w=.ok () (w.setRow g (Qbb cs off v.cells.toList).toArray):=by
 have hst:=run_storeCells_at P g off e v.cells.toList 0 cs.toArray w hb (by simp [hv]; omega) h1
 simp only [Nat.add_zero] at hst
 simp [storeVar,hs,hv,hst,Qbb]
theorem bx.store {u:World} {b:Nat} {cs:List Value} {e:TypeId} (h:bx u b cs e) (cs':List Value):bx (u.setRow b cs'.toArray) b cs' e:=setRow_heap u b _ _ e _ h
theorem Jj5 {t n:Nat} (hs:∀ w,(sizeOf t).run P w=.ok n w) (hM:St X w0 w M) (i:Nat) {u:World} {b:Nat} {cs cs':List Value} {e:TypeId} (hb:bx u b cs e) (off:Nat) (hK:K N L a) {x y:Operand} {p:Addr} {v:Value}
    (hi:M[i]? = some ([b],u)) (hg:gd L ops o.guard=some true) (hd:o.dst=none)
    (ho:o.op=.store t x y) (hp':ev L x=some (.pointer (some p))) (hp:p=(⟨b,0,none⟩:Addr).add off) (hv:ev L y=some v) (hc:Qbb cs off v.cells.toList=cs')
    (hn:v.cells.size=n) (hle:Nat.ble (off+n) cs.length=true) (h1:v.cells.toList.all Value.oneCell'=true)
    (h:∀ w' a,K N L a→Ext [b] w w'→St X w0 w' (M.set i ([b],w'))→bx w' b cs' e→wpList P ops Q rest a w'):wpList P ops Q (o::rest) a w:=by
 subst hc
 have hb':=hb.agr (hM.a i hi) (by simp)
 have hbl:=hM.ltF i hi b (by simp)
 refine Q9m hK hg hd (w':=w.setRow b (Qbb cs off v.cells.toList).toArray) ?_ λa hK=>h _ a hK (Ext.setRow _ _) (hM.mut i hi (Ext.setRow _ _) [b] (by simp; exact hbl) (by simp)) (hb'.store _)
 subst hp
 have hr:=Qu1 (P:=P) (off:=off) hs hb' hn (Nat.le_of_ble_eq_true hle) (λu hu=>List.all_eq_true.1 h1 u hu)
 simp [execOp,ho,hK.ev hp',hK.ev hv,Instr.storeAt,Instr.sureAddr,Qgk,hr]
theorem Jb2 {α:Type} [Enc α] {w:World}:∀ {Gs:List (List Nat)} {cells:List Value} {xs:List α} {i:Nat} {x y:α} {G:List Nat} {cs:List Value},owL w Gs cells xs→xs[i]? = some x→ow w G cs y →
    owL w (Gs.set i G) (Qbb cells (i*Enc.sz α) cs) (xs.set i y)
 | [],_,[],i,x,y,G,cs,h,hx,_=>by simp at hx
 | H::Gs,cells,x0::xs,0,x,y,G,cs,⟨h,h'⟩,hx,hy=>by
  have hl:=Enc.rd_sz (Enc.ow_rd hy)
  refine ⟨?_,?_⟩
  · simp only [Nat.zero_mul,Qbb,List.take_zero,List.nil_append]
    rw [List.take_left' hl]; exact hy
  · simp only [Nat.zero_mul,Qbb,List.take_zero,List.nil_append,Nat.zero_add]
    rw [List.drop_left' hl,hl]; exact h'
 | H::Gs,cells,x0::xs,i+1,x,y,G,cs,⟨h,h'⟩,hx,hy=>by
  have hl0:=Enc.rd_sz (Enc.ow_rd h)
  have hle:Enc.sz α≤cells.length:=by simp at hl0; omega
  have ih:=Jb2 h' (by simpa using hx) hy
  refine ⟨?_,?_⟩
  · have:(Qbb cells ((i+1)*Enc.sz α) cs).take (Enc.sz α)=cells.take (Enc.sz α):=by
      simp only [Qbb,List.append_assoc]
      rw [List.take_append_of_le_length (by simp [Nat.add_mul]; omega),List.take_take]
      congr 1
      simp [Nat.add_mul]
    rw [this]; exact h
  · have:(Qbb cells ((i+1)*Enc.sz α) cs).drop (Enc.sz α)=Qbb (cells.drop (Enc.sz α)) (i*Enc.sz α) cs:=by
      simp only [Qbb,List.append_assoc]
      rw [List.drop_append_of_le_length (by simp [Nat.add_mul]; omega),List.drop_take,List.drop_drop]
      congr 3
      · simp [Nat.add_mul]
      · simp [Nat.add_mul]; omega
    rw [this]; exact ih
 | [],_,_::_,_,_,_,_,_,h,_,_=>h.elim
 | _::_,_,[],_,_,_,_,_,h,_,_=>h.elim
theorem Q7y {Gs:List (List Nat)} (h:Gs.flatten=[]) (i:Nat):(Gs.set i []).flatten=[]:=by
 rw [List.flatten_eq_nil_iff] at *
 intro l hl
 rcases List.mem_or_eq_of_mem_set hl with h1 | h1
 · exact h l h1
 · exact h1
theorem Qkc {α:Type} [Flat α] {w:World}:∀ {Gs:List (List Nat)} {cells:List Value} {xs:List α},owL w Gs cells xs→Gs.flatten=[]
 | [],_,[],_=>rfl
 | G::Gs,cells,x::xs,⟨h,h'⟩=>by rw [List.flatten_cons,Qkc h',h.1]; rfl
 | [],_,_::_,h=>h.elim
 | _::_,_,[],h=>h.elim
def Qi0 {α:Type} (xs:List α) (n:Int) (y:α):List α:=xs.set n.toNat y
theorem Q0z {α:Type} [Flat α] {t n sz:Nat} (hs:∀ w,(sizeOf t).run P w=.ok n w) {xs:List α} {x y:α} {ixn:Int} (hx:ix xs ixn=some x) (hM:St X w0 w M) (i:Nat) {u:World} {F:List Nat} {v:Value}
    (hown:ow u F [v] xs) (off:Nat) (hK:K N L a) {xo yo:Operand} {p:Addr} {c:Value}
    (hi:M[i]? = some (F,u)) (hg:gd L ops o.guard=some true) (hd:o.dst=none)
    (ho:o.op=.store t xo yo) (hp':ev L xo=some (.pointer (some p))) (hp:p=(Qmz v (Flat.sz α) ixn.toNat).add off) (hv:ev L yo=some c) (hc:Qbb (Flat.e x) off c.cells.toList=Flat.e y)
    (hn:c.cells.size=n) (hsz:sz=Flat.sz α) (hle:Nat.ble (off+n) sz=true) (h1:c.cells.toList.all Value.oneCell'=true)
    (h:∀ w' a,K N L a→Ext F w w'→St X w0 w' (M.set i (F,w'))→ow w' F [v] (Qi0 xs ixn y)→wpList P ops Q rest a w'):wpList P ops Q (o::rest) a w:=by
 obtain ⟨h0,hlt,hxx⟩:=Qah hx
 have how:=Enc.ow_agr hown (hM.a i hi)
 have hFl:=hM.ltF i hi
 have hle':=Nat.le_of_ble_eq_true hle
 subst hsz
 rcases how with ⟨_,rfl,_⟩ | ⟨g,boff,cap,cur,e,Gs,hvv,h2,h3,h4,h5,h6,rfl,h8⟩
 · simp at hxx
 · simp only [List.cons.injEq,and_true] at hvv
   subst hvv
   have hsz:Enc.sz α=Flat.sz α:=rfl
   rw [hsz] at h5 h6
   have hnil:=Qkc h6
   obtain ⟨_,hcl⟩:=Qw1 h6
   rw [hsz] at hcl
   have hb:bx w g cur.toList e:=h4
   have hk:ixn.toNat<xs.length:=by omega
   have hpos:boff+ixn.toNat*Flat.sz α+off+n≤cur.toList.length:=by
    have:(ixn.toNat+1)*Flat.sz α≤cap*Flat.sz α:=Nat.mul_le_mul_right _ (by omega)
    rw [Nat.add_mul] at this
    simp; omega
   have hr:=Qu1 (P:=P) (off:=boff+ixn.toNat*Flat.sz α+off) hs hb hn hpos (λu hu=>List.all_eq_true.1 h1 u hu)
   have hwr:bx (w.setRow g (Qbb cur.toList (boff+ixn.toNat*Flat.sz α+off) c.cells.toList).toArray) g (Qbb cur.toList (boff+ixn.toNat*Flat.sz α+off) c.cells.toList) e:=hb.store _
   have hEx:Ext (g::Gs.flatten) w (w.setRow g (Qbb cur.toList (boff+ixn.toNat*Flat.sz α+off) c.cells.toList).toArray):=(Ext.setRow g _).wk (by simp)
   have how':ow (w.setRow g (Qbb cur.toList (boff+ixn.toNat*Flat.sz α+off) c.cells.toList).toArray) (g::Gs.flatten) [.slice (some ⟨g,boff,none⟩) xs.length cap] (Qi0 xs ixn y):=by
    have hset:=Jb2 (w:=w) h6 hxx (⟨rfl,rfl⟩:ow w [] (Flat.e y) y)
    have hcell:Qbb ((cur.toList.drop boff).take (xs.length*Flat.sz α)) (ixn.toNat*Flat.sz α) (Flat.e y) =
        ((Qbb cur.toList (boff+ixn.toNat*Flat.sz α+off) c.cells.toList).drop boff).take (xs.length*Flat.sz α):=by
     have hx1:=(Q3k (Q5n (F:=Gs.flatten) (λb hb=>hb) h6) hxx)
     obtain ⟨G,_,hr1⟩:=hx1
     have hr2:(((cur.toList.drop boff).take (xs.length*Flat.sz α)).drop (ixn.toNat*Flat.sz α)).take (Flat.sz α)=Flat.e x:=hr1.2
     rw [← hc,← hr2]
     have hlen1:(ixn.toNat+1)*Flat.sz α≤xs.length*Flat.sz α:=Nat.mul_le_mul_right _ (by omega)
     rw [Nat.add_mul,Nat.one_mul] at hlen1
     have hcll:c.cells.toList.length=n:=by simp [hn]
     have hLl:((cur.toList.drop boff).take (xs.length*Flat.sz α)).length=xs.length*Flat.sz α:=hcl
     have hLlen:xs.length*Flat.sz α≤(cur.toList.drop boff).length:=by rw [List.length_take] at hLl; omega
     have hbl:boff+xs.length*Flat.sz α≤cur.toList.length:=by rw [List.length_drop] at hLlen; omega
     rw [Q4g _ _ _ _ _ (by omega) (by rw [hLl]; omega),Nat.add_assoc boff,Qvy _ _ _ _ (by omega),Qvp _ _ _ _ (by omega) hLlen]
    rw [hsz,hcell] at hset
    refine .inr ⟨g,boff,cap,_,e,Gs.set ixn.toNat [],by simp [Qi0],by simp [Qi0]; exact h2,h3,hwr,?_,?_,?_,h8⟩
    · simp only [List.size_toArray]; rw [Qpm _ _ _ (by simp [hn] at hpos ⊢; omega)]; simpa [hsz] using h5
    · rw [show (Qi0 xs ixn y).length=xs.length by simp [Qi0]]
      refine Qvr ?_ hset
      rw [Q7y hnil]; intro b hb; simp at hb
    · rw [Q7y hnil,hnil]
   refine Q9m hK hg hd (w':=w.setRow g (Qbb cur.toList (boff+ixn.toNat*Flat.sz α+off) c.cells.toList).toArray) ?_ λa hK=>h _ a hK hEx (hM.mut i hi hEx _ (λb hb=>⟨.inl hb,by simp; exact hFl b hb⟩) h8) how'
   subst hp
   simp only [execOp,ho,hK.ev hp',hK.ev hv,Instr.storeAt,Instr.sureAddr,Sem.run_bind,Sem.run_pure,Result.andThen_ok,Qmz,Qgk,hr]
end
end Go.Proofs.YthkaklkinepfkaaGreatDoor
set_option linter.unusedSimpArgs false
set_option linter.unusedVariables false
namespace Go.Proofs.YthkaklkinepfkaaGreatDoor
open Go Go.RowKit
open Enc (rd ow)
section
variable {P:Program} {ops:Array Oper} {Q:Exit→Act→World→Prop} {rest:List Oper} {o:Oper} {a:Act} {w:World} {N:Nat} {L:List (Nat×Value)}
variable {X:List Nat} {w0:World} {M:List (List Nat×World)} {d:Nat} {S:World→Prop} {fuel:Nat} {listed:Array Bool}
theorem Qgu {id:Nat} {l:List Oper} (Z:List Nat) {n:Nat} (hm:P.follows .mixedOrders=true) (hM:St X w0 w M) (hn:l.length=n)
    (h:∀ wd,St X w0 wd M→wpAnyH P .any l.toArray Q (Ext Z wd) n (List.replicate n false).toArray a wd):(Code.region id l.toArray true).wp P Q a w:=by
 refine wp_region_held (S:=Ext Z w.drew) hm ?_
 have:=h w.drew (hM.step (Ext.drew w))
 subst hn
 simpa using this
theorem Q65 (hK:K N L a) (i:Nat) {v:Value} (hi:ops[i]? = some o) (hs:Region.noSelect ops=true) (hf:Region.free .any ops listed i=true) (hr:(Region.ready .any ops listed).contains i=true)
    (hg:gd L ops o.guard=some true) (hd:o.dst=some d) (hN:Nat.blt d N=true) (hS:S w) (hQ:∀ c a w,Q (.panic c) (a.put o.dst v) w→Q (.panic c) a w)
    (hy:∀ w,S w→(execOp a.eval o).run P w=.ok (.value v) w) (h:∀ a,K N ((d,v)::L) a→wpAnyH P .any ops Q S fuel (listed.setIfInBounds i true) a w):wpAnyH P .any ops Q S (fuel+1) listed a w :=
 wpAnyH_take hi hs hf hr hQ (.inl ⟨hK.wanted hg,hy⟩) hS (by rw [hd]; exact h _ (hK.put d hN v))
theorem Jd5 (hK:K N L a) (i:Nat) {v:Value} (hi:ops[i]? = some o) (hs:Region.noSelect ops=true) (hf:Region.free .any ops listed i=true) (hr:(Region.ready .any ops listed).contains i=true)
    (hg:gd L ops o.guard=some true) (hd:o.dst=some d) (hN:Nat.blt d N=true) (hS:S w) (hQ:∀ c a w,Q (.panic c) (a.put o.dst v) w→Q (.panic c) a w)
    (hp:Qnq L o.op=some v) (h:∀ a,K N ((d,v)::L) a→wpAnyH P .any ops Q S fuel (listed.setIfInBounds i true) a w):wpAnyH P .any ops Q S (fuel+1) listed a w :=
 Q65 hK i hi hs hf hr hg hd hN hS hQ (λw _=>Qw6 hK hp P w) h
theorem Jb4 (hK:K N L a) (i:Nat) (hi:ops[i]? = some o) (hs:Region.noSelect ops=true) (hf:Region.free .any ops listed i=true) (hr:(Region.ready .any ops listed).contains i=true)
    (hg:gd L ops o.guard=some false) (hd:o.dst=some d) (hN:Nat.blt d N=true) (hS:S w) (hQ:∀ c a w,Q (.panic c) (a.put o.dst undef) w→Q (.panic c) a w)
    (h:∀ a,K N ((d,undef)::L) a→wpAnyH P .any ops Q S fuel (listed.setIfInBounds i true) a w):wpAnyH P .any ops Q S (fuel+1) listed a w :=
 wpAnyH_take hi hs hf hr hQ (.inr ⟨hK.wanted hg,rfl⟩) hS (by rw [hd]; exact h _ (hK.put d hN undef))
theorem Qrf {i:Nat} {K':Act→World→Prop} (hi:ops[i]? = some o) (h:wpList P ops (Exit.then K' Q) [o] a w):wpOp P ops Q i K' a w:=by
 unfold wpOp
 simp only [hi]
 simp only [wpList] at h
 split at h
 · rename_i hw
   rw [if_pos hw]
   rcases h with h | ⟨h1,h2⟩
   · left
     unfold Oper.wp at *
     generalize (execOp a.eval o).run P w=r at *
     cases r with
     | ok n w' =>
      cases n <;> simp only [Oper.upon] at h ⊢ <;>
       first
        | exact h
        | exact Calls.mono h (λe w'' he=>by cases e <;> exact he)
        | exact Rows.mono h (λ_ _ he=>he)
     | halt x w'=>cases x <;> simp only [Oper.upon] at h ⊢ <;> exact h
   · exact .inr ⟨h1,h2⟩
 · rename_i hw
   rw [if_neg hw]
   exact h
theorem Jni (i:Nat) (hr:Region.ready .any ops listed=[i]) (hi:ops[i]? = some o)
    (h:wpList P ops (Exit.then (λa' w'=>S w'∧wpAnyH P .any ops Q S fuel (listed.setIfInBounds i true) a' w') Q) [o] a w):wpAnyH P .any ops Q S (fuel+1) listed a w :=
 wpAnyH_all hr (by simp) λj hj=>by
  simp only [List.mem_singleton] at hj
  subst hj
  exact Qrf hi h
theorem Jm5 (i j:Nat) {o':Oper} (hr:Region.ready .any ops listed=[i,j]) (hi:ops[i]? = some o) (hj:ops[j]? = some o')
    (h:wpList P ops (Exit.then (λa' w'=>S w'∧wpAnyH P .any ops Q S fuel (listed.setIfInBounds i true) a' w') Q) [o] a w)
    (h':wpList P ops (Exit.then (λa' w'=>S w'∧wpAnyH P .any ops Q S fuel (listed.setIfInBounds j true) a' w') Q) [o'] a w):wpAnyH P .any ops Q S (fuel+1) listed a w :=
 wpAnyH_all hr (by simp) λk hk=>by
  simp only [List.mem_cons,List.not_mem_nil,or_false] at hk
  rcases hk with rfl | rfl
  · exact Qrf hi h
  · exact Qrf hj h'
theorem Jhf (i j k:Nat) {o' o'':Oper} (hr:Region.ready .any ops listed=[i,j,k]) (hi:ops[i]? = some o) (hj:ops[j]? = some o') (hk:ops[k]? = some o'')
    (h:wpList P ops (Exit.then (λa' w'=>S w'∧wpAnyH P .any ops Q S fuel (listed.setIfInBounds i true) a' w') Q) [o] a w)
    (h':wpList P ops (Exit.then (λa' w'=>S w'∧wpAnyH P .any ops Q S fuel (listed.setIfInBounds j true) a' w') Q) [o'] a w)
    (h'':wpList P ops (Exit.then (λa' w'=>S w'∧wpAnyH P .any ops Q S fuel (listed.setIfInBounds k true) a' w') Q) [o''] a w):wpAnyH P .any ops Q S (fuel+1) listed a w :=
 wpAnyH_all hr (by simp) λm hm=>by
  simp only [List.mem_cons,List.not_mem_nil,or_false] at hm
  rcases hm with rfl | rfl | rfl
  · exact Qrf hi h
  · exact Qrf hj h'
  · exact Qrf hk h''
theorem Jip (hr:Region.ready .any ops listed=[]) (h:Q .normal a w):wpAnyH P .any ops Q S fuel listed a w:=wpAnyH_done hr h fuel
theorem St.az {wd:World} (h:St X w0 wd M) (i j:Nat) {F G:List Nat} {u v:World} (hi:M[i]? = some (F,u)) (hj:M[j]? = some (G,v)) (hij:Nat.beq i j=false) (hE:Ext G wd w):Agr F u w:=λb hb=>by
 have h1:=h.a i hi b hb
 have h2:=Qwe h.nd (λe=>by subst e; simp at hij) hi hj b hb
 exact (hE.blk b (h.ltF i hi b hb) h2).trans h1
theorem St.az0 {wd:World} (h:St X w0 wd M) (j:Nat) {F G:List Nat} {v:World} (hj:M[j]? = some (G,v)) (hX:X=[]) (hlt:∀ b∈F,b<w0.heap.size) (hE:Ext G wd w):Agr F w0 w:=λb hb=>by
 subst hX
 have h1:=h.a00 hlt b hb
 refine (hE.blk b (Nat.lt_of_lt_of_le (hlt b hb) h.ext.size) ?_).trans h1
 intro hg
 rcases h.lo b (Qhh hj hg) with h2 | h2
 · simp at h2
 · have:=hlt b hb; omega
theorem Qed {α:Type} [Enc α] {F:List Nat} {v:Value} {xs:List α} {w:World} (h:rd w F [v] xs):v.oneCell'=true:=Enc.rd_one h v (by simp)
theorem Qid {α:Type} [Enc α] {F:List Nat} {v:Value} {xs:List α} {w:World} (h:rd w F [v] xs):v.cells=#[v]:=by
 obtain ⟨ao,cap,hq,_⟩:=h
 have:=(List.cons.inj hq).1
 subst this
 rfl
theorem Qa9 {p:Value→Bool} {x:Value} {l:List Value} (h:p x=true) (k:l.all p=true):(x::l).all p=true:=by simp [h,k]
theorem Qqm {p:Value→Bool}:([]:List Value).all p=true:=rfl
theorem Qfi {t:Nat} (hs:∀ w,(sizeOf t).run P w=.ok 1 w) (hM:St X w0 w M) (i:Nat) {u:World} {b:Nat} {cs cs':List Value} {e:TypeId} (hb:bx u b cs e) (off:Nat) (hK:K N L a) {x y:Operand} {p:Addr} {v:Value}
    (hvc:v.cells=#[v]) (hvo:v.oneCell'=true)
    (hi:M[i]? = some ([b],u)) (hg:gd L ops o.guard=some true) (hd:o.dst=none)
    (ho:o.op=.store t x y) (hp':ev L x=some (.pointer (some p))) (hp:p=(⟨b,0,none⟩:Addr).add off) (hv:ev L y=some v) (hc:Qbb cs off [v]=cs')
    (hle:Nat.ble (off+1) cs.length=true)
    (h:∀ w' a,K N L a→Ext [b] w w'→St X w0 w' (M.set i ([b],w'))→bx w' b cs' e→wpList P ops Q rest a w'):wpList P ops Q (o::rest) a w :=
 Jj5 hs hM i hb off hK hi hg hd ho hp' hp hv (by rw [hvc]; exact hc) (by rw [hvc]; rfl) hle (by rw [hvc]; simp [hvo]) h
theorem lo1 {b n:Nat} (h:n≤b):∀ y∈[b],n≤y:=by simpa using h
theorem Qcj {cs:List Value} {z:Value} (hM:St X w0 w M) (hK:K N L a) {e:TypeId} (hz:∀ w,(zeroValue e).run P w=.ok z w)
    (hg:gd L ops o.guard=some true) (hd:o.dst=some d) (hN:Nat.blt d N=true)
    (ho:o.op=.alloc e) (hc:z.cells=cs.toArray)
    (h:∀ b w' a,K N ((d,.pointer (some ⟨b,0,none⟩))::L) a→St X w0 w' (([b],w')::M)→Ext [] w w'→bx w' b cs e→w.heap.size≤b→wpList P ops Q rest a w'):wpList P ops Q (o::rest) a w:=by
 refine Que hK hg hd hN (v:=.pointer (some ⟨w.heap.size,0,none⟩)) (w':=w.alloc (.cells cs.toArray e)) ?_ λa hK=>h _ _ a hK (hM.new (Ext.alloc _ _) _ (Qk9 _ _ _) (by simp)) (Ext.alloc _ _) (heap_alloc_new w _) (Nat.le_refl _)
 simp [execOp,ho,hz,Instr.alloc,newVar,newRow,hc]
def FD (P:Program) (t f off n:Nat) (agg:Bool):Prop :=
 ∃ fs fd,P.underlying t=some (.struct fs)∧fs[f]? = some fd∧fd.offset=off∧(∀ w,(isAgg fd.type).run P w=.ok agg w)∧∀ w,(sizeOf fd.type).run P w=.ok n w
theorem Jj1 {t f off n:Nat} (hF:FD P t f off n false) (hK:K N L a) {x:Operand} {cs:Array Value} {v:Value} (ho:o.op=.field t x f) (hv:ev L x=some (.agg cs)) (hc:cs[off]? = some v) :
    (execOp a.eval o).run P w=.ok (.value v) w:=by
 obtain ⟨fs,fd,hu,hf,rfl,hA,hS⟩:=hF
 simp [execOp,ho,hK.ev hv,Instr.field,run_underlying hu,hf,asAgg,part,hA,hc]
def BT (P:Program) (t:TypeId) (z:List Value) (places:Array (Nat×Nat)):Prop :=
 (∀ w,(zeroValue t).run P w=.ok (.agg z.toArray) w)∧∃ fs,P.underlying t=some (.struct fs) ∧
  ∀ w,(fs.mapM (λf=>(do pure (f.offset,← sizeOf f.type):Sem (Nat×Nat)))).run P w=.ok places w
theorem Qag {t:TypeId} {z:List Value} {places:Array (Nat×Nat)} (hT:BT P t z places) (hK:K N L a) {ps:List (Nat×Operand)} {vs:List Value} {cs:Array Value}
    (ho:o.op=.build t ps.toArray) (hv:evs L (ps.map (·.2))=some vs) (hf:Instr.fill (places[·]?) z.toArray ((ps.map (·.1)).zip vs)=some cs) :
    (execOp a.eval o).run P w=.ok (.value (.agg cs)) w:=by
 obtain ⟨hz,fs,hu,hp⟩:=hT
 have hpa:(ps.toArray.map λp=>(p.1,a.eval p.2))=((ps.map (·.1)).zip vs).toArray:=by rw [List.map_toArray,Q80 hK hv]
 simp only [execOp,ho,hpa,Instr.build,hz,Sem.run_bind,Result.andThen_ok,run_underlying hu w,hp,Value.cells]
 rw [hf]
 rfl
theorem Qpi {p:Addr} (hK:K N L a) {x:Operand} (ho:o.op=.nilCheck x) (hv:ev L x=some (.pointer (some p))) :
    (execOp a.eval o).run P w=.ok (.value (.pointer (some p))) w:=by
 simp [execOp,ho,hK.ev hv]
def sls {α:Type} (xs:List α) (lo hi:Int):Option (List α):=if 0≤lo∧lo≤hi∧hi≤xs.length then some ((xs.drop lo.toNat).take (hi.toNat - lo.toNat)) else none
theorem Q61 {α:Type} [Enc α] {w:World} {F:List Nat}:∀ (n:Nat) {xs:List α} {cells:List Value},rdL w F cells xs→rdL w F (cells.drop (n*Enc.sz α)) (xs.drop n)
 | 0,xs,cells,h=>by simpa using h
 | n+1,[],cells,h=>by simp [rdL]
 | n+1,x::xs,cells,⟨_,h⟩=>by
  have:=Q61 n h
  rw [List.drop_drop] at this
  simpa [Nat.add_mul,Nat.add_comm] using this
theorem Ja0 {α:Type} [Enc α] {w:World} {F:List Nat}:∀ (n:Nat) {xs:List α} {cells:List Value},rdL w F cells xs→rdL w F cells (xs.take n)
 | 0,xs,cells,h=>by simp [rdL]
 | n+1,[],cells,h=>by simp [rdL]
 | n+1,x::xs,cells,⟨h,h'⟩=>⟨h,Ja0 n h'⟩
theorem Qxq {α:Type} [Enc α] {u:World} {F:List Nat} {ao:Option Addr} {cap:Nat} {xs ys:List α} {lo hi:Int} (h:rd u F [.slice ao xs.length cap] xs) (hx:sls xs lo hi=some ys) :
    rd u F [.slice (if cap=lo.toNat then ao else ao.map (·.add (lo.toNat*Enc.sz α))) (hi.toNat - lo.toNat) (cap - lo.toNat)] ys:=by
 unfold sls at hx
 split at hx
 · rename_i h0
   simp only [Option.some.injEq] at hx
   subst hx
   obtain ⟨ao',cap',hv,h1,h2,h3,h4⟩:=h
   simp only [List.cons.injEq,Value.slice.injEq,and_true,true_and] at hv
   obtain ⟨rfl,rfl⟩:=hv
   have hlen:((xs.drop lo.toNat).take (hi.toNat - lo.toNat)).length=hi.toNat - lo.toNat:=by simp; omega
   refine ⟨_,_,by rw [hlen],by rw [hlen]; omega,by omega,h3,?_⟩
   rcases h4 with rfl | ⟨g,off,c,e,fr,rfl,hg,hh,hl⟩
   · exact .inl (by simp)
   · by_cases hz:hi.toNat - lo.toNat=0
     · exact .inl (by rw [hz]; simp)
     · refine .inr ⟨g,off+lo.toNat*Enc.sz α,c,e,fr,?_,hg,hh,?_⟩
       · rw [if_neg (by omega)]; simp [Qgk]
       · have:=Ja0 (hi.toNat - lo.toNat) (Q61 lo.toNat hl)
         rw [List.drop_drop] at this
         exact this
 · simp at hx
theorem Jol {α:Type} [Enc α] {u:World} {F:List Nat} {v:Value} {xs ys:List α} {lo hi:Int} {k k':IntKind} (hf:rd u F [v] xs) (hx:sls xs lo hi=some ys) (hK:K N L a) {t:TypeId} (hu:TS P t (Enc.sz α)) {x i j:Operand}
    (hg:gd L ops o.guard=some true) (hd:o.dst=some d) (hN:Nat.blt d N=true)
    (ho:o.op=.slice t x (some i) (some j) none) (hv:ev L x=some v) (hi':ev L i=some (.int k lo)) (hj:ev L j=some (.int k' hi))
    (h:∀ v' a,K N ((d,v')::L) a→rd u F [v'] ys→wpList P ops Q rest a w):wpList P ops Q (o::rest) a w:=by
 obtain ⟨ao,cap,rfl,h1,h2⟩:=Ql0 hf
 obtain ⟨e,hu,hs⟩:=hu
 have hr:=Qxq hf hx
 unfold sls at hx
 split at hx
 · rename_i h0
   refine Que hK hg hd hN ?_ λa hK=>h _ a hK hr
   have c1:0≤hi∧hi≤(cap:Int):=by omega
   have c2:0≤lo∧lo≤max hi 0:=by omega
   simp [execOp,ho,Instr.sliceAt,Instr.slice,Instr.sliceBounds,Instr.sliceBound,hK.ev hv,hK.ev hi',hK.ev hj,run_underlying hu,asIntOf,c1,c2,hs]
 · simp at hx
theorem Q1y {α:Type} [Enc α] {u:World} {F:List Nat} {v:Value} {xs ys:List α} {hi:Int} {k':IntKind} (hf:rd u F [v] xs) (hx:sls xs 0 hi=some ys) (hK:K N L a) {t:TypeId} (hu:TS P t (Enc.sz α)) {x j:Operand}
    (hg:gd L ops o.guard=some true) (hd:o.dst=some d) (hN:Nat.blt d N=true)
    (ho:o.op=.slice t x none (some j) none) (hv:ev L x=some v) (hj:ev L j=some (.int k' hi))
    (h:∀ v' a,K N ((d,v')::L) a→rd u F [v'] ys→wpList P ops Q rest a w):wpList P ops Q (o::rest) a w:=by
 obtain ⟨ao,cap,rfl,h1,h2⟩:=Ql0 hf
 obtain ⟨e,hu,hs⟩:=hu
 have hr:=Qxq hf hx
 unfold sls at hx
 split at hx
 · rename_i h0
   refine Que hK hg hd hN ?_ λa hK=>h _ a hK hr
   have c1:0≤hi∧hi≤(cap:Int):=by omega
   simp [execOp,ho,Instr.sliceAt,Instr.slice,Instr.sliceBounds,Instr.sliceBound,hK.ev hv,hK.ev hj,run_underlying hu,asIntOf,c1,hs]
 · simp at hx
theorem Jdu {α:Type} [Enc α] {u:World} {F:List Nat} {v:Value} {xs ys:List α} {lo:Int} {k:IntKind} (hf:rd u F [v] xs) (hx:sls xs lo xs.length=some ys) (hK:K N L a) {t:TypeId} (hu:TS P t (Enc.sz α)) {x i:Operand}
    (hg:gd L ops o.guard=some true) (hd:o.dst=some d) (hN:Nat.blt d N=true)
    (ho:o.op=.slice t x (some i) none none) (hv:ev L x=some v) (hi':ev L i=some (.int k lo))
    (h:∀ v' a,K N ((d,v')::L) a→rd u F [v'] ys→wpList P ops Q rest a w):wpList P ops Q (o::rest) a w:=by
 obtain ⟨ao,cap,rfl,h1,h2⟩:=Ql0 hf
 obtain ⟨e,hu,hs⟩:=hu
 have hr:=Qxq hf hx
 unfold sls at hx
 split at hx
 · rename_i h0
   refine Que hK hg hd hN ?_ λa hK=>h _ a hK (by simpa using hr)
   have c2:0≤lo∧lo≤(xs.length:Int):=by omega
   simp [execOp,ho,Instr.sliceAt,Instr.slice,Instr.sliceBounds,Instr.sliceBound,hK.ev hv,hK.ev hi',run_underlying hu,asIntOf,c2,hs]
 · simp at hx
end
def Qab {α β:Type} (m:Option α) (k:α→Option β):Option β:=match m with | some x=>k x | none=>none
theorem Qt3 {α β:Type} {m:Option α} {k:α→Option β} {r:β} (h:Qab m k=some r):∃ x,m=some x∧k x=some r:=by
 cases m with
 | none=>simp [Qab] at h
 | some x=>exact ⟨x,rfl,h⟩
def Jhx (y:Int):Option Unit:=if y≠0 then some () else none
theorem Q39 {y:Int} {u:Unit} (h:Jhx y=some u):y≠0:=by unfold Jhx at h; split at h; assumption; simp at h
theorem Qzf {α:Type} {b:Bool} {x y r:α} (hb:b=true) (h:(bif b then x else y)=r):x=r:=by subst hb; exact h
theorem Qz6 {α:Type} {b:Bool} {x y r:α} (hb:b=false) (h:(bif b then x else y)=r):y=r:=by subst hb; exact h
theorem Qv3 {p:Prop} (b:Bool) (ht:b=true→p) (hf:b=false→p):p:=by cases b; exact hf rfl; exact ht rfl
end Go.Proofs.YthkaklkinepfkaaGreatDoor
set_option linter.unusedSimpArgs false
set_option linter.unusedVariables false
namespace Go.Proofs.YthkaklkinepfkaaGreatDoor
open Go Go.RowKit
open Enc (rd ow)
section
variable {P:Program} {Q:Exit→Act→World→Prop} {next:Act→World→Prop} {a:Act} {w:World} {id id':Nat}
theorem Qad (h:next a w):Exit.then next Q .normal a w:=h
theorem Q9e (h:Q (.exit id) a w):Exit.then next Q (.exit id) a w:=h
theorem Qws (h:Q .ret a w):Exit.then next Q .ret a w:=h
theorem Qtd (h:Q .normal a w):Exit.inBlock id Q .normal a w:=h
theorem Jhm (h:Q .normal a w):Exit.inBlock id Q (.exit id) a w:=by simpa [Exit.inBlock] using h
theorem Jcz (hne:Nat.beq id' id=false) (h:Q (.exit id') a w):Exit.inBlock id Q (.exit id') a w:=by
 have:¬ id'=id:=λe=>by subst e; simp at hne
 simpa [Exit.inBlock,this] using h
theorem Jc2 (h:Q .ret a w):Exit.inBlock id Q .ret a w:=h
end
def Q77 (a:Act):ResultVar→Sem Value
 | .tmp t=>pure (a.tmps.getD t undef)
 | .cell x t=>do loadVar t (← asAddr (a.tmps.getD x undef))
def RV (P:Program) (a:Act) (w:World) (rv:ResultVar) (v:Value):Prop:=(Q77 a rv).run P w=.ok v w
section
variable {P:Program} {fn:Func} {R:Ending→World→Prop} {a:Act} {w:World} {N:Nat} {L:List (Nat×Value)}
theorem K.getD (hK:K N L a) {t:Nat} {v:Value} (h:lk L t=some v):a.tmps.getD t undef=v:=by
 simp [Array.getD_eq_getD_getElem?,hK.at_ _ _ h]
theorem RV.tmp (hK:K N L a) {t:Nat} {v:Value} (h:lk L t=some v):RV P a w (.tmp t) v:=by
 simp [RV,Q77,hK.getD h,-Array.getD_eq_getD_getElem?]
theorem RV.c1 (hK:K N L a) {t ty:Nat} {p:Addr} {v:Value} {r:List Value} (h:lk L t=some (.pointer (some p))) (hT:T1 P ty) (hp:PtAt w p (v::r)):RV P a w (.cell t ty) v:=by
 simp [RV,Q77,hK.getD h,asAddr,Q59 hT hp,-Array.getD_eq_getD_getElem?]
theorem RV.cA (hK:K N L a) {t ty n:Nat} {p:Addr} {cs:List Value} (h:lk L t=some (.pointer (some p))) (hT:TA P ty n) (hp:PtAt w p cs) (hn:cs.length=n):RV P a w (.cell t ty) (.agg cs.toArray):=by
 simp [RV,Q77,hK.getD h,asAddr,Q69 hT hp hn,-Array.getD_eq_getD_getElem?]
theorem Qvn (rvs:List ResultVar) (hr:fn.results=rvs.toArray):(results fn a.tmps).run P w =
    ((rvs.mapM (Q77 a)).run P w).andThen λvs w=>.ok (if h:vs.length=1 then vs[0] else .tuple vs.toArray) w:=by
 have e:(results fn a.tmps)=(do let vs ← fn.results.mapM (Q77 a); pure (if h:vs.size=1 then vs[0] else .tuple vs)):=by
  unfold results
  congr 1
 rw [e,hr]
 simp only [List.mapM_toArray,Sem.run_bind,Sem.run_map,bind_map_left]
 rfl
theorem Je8 (hK:K N L a) (hr:fn.results=#[]) (h:R (.returned (.tuple #[])) w):bodyPost P fn R .normal a w :=
 ⟨hK.defers,_,results_none hr _ _ _,h⟩
theorem Qbj (hK:K N L a) {r1:ResultVar} {v1:Value} (hr:fn.results=#[r1]) (h1:RV P a w r1 v1) (h:R (.returned v1) w):bodyPost P fn R .ret a w:=by
 refine ⟨hK.defers,v1,?_,h⟩
 rw [Qvn [r1] hr]
 unfold RV at h1
 simp [h1]
theorem Qdy (hK:K N L a) {r1 r2:ResultVar} {v1 v2:Value} (hr:fn.results=#[r1,r2]) (h1:RV P a w r1 v1) (h2:RV P a w r2 v2) (h:R (.returned (.tuple #[v1,v2])) w):bodyPost P fn R .ret a w:=by
 refine ⟨hK.defers,_,?_,h⟩
 rw [Qvn [r1,r2] hr]
 unfold RV at h1 h2
 simp [h1,h2]
theorem Jd2 (hK:K N L a) {r1 r2 r3:ResultVar} {v1 v2 v3:Value} (hr:fn.results=#[r1,r2,r3]) (h1:RV P a w r1 v1) (h2:RV P a w r2 v2) (h3:RV P a w r3 v3) (h:R (.returned (.tuple #[v1,v2,v3])) w):bodyPost P fn R .ret a w:=by
 refine ⟨hK.defers,_,?_,h⟩
 rw [Qvn [r1,r2,r3] hr]
 unfold RV at h1 h2 h3
 simp [h1,h2,h3]
end
section
variable {X:List Nat} {w0 w w':World} {M:List (List Nat×World)}
theorem St.addNil (h:St X w0 w M) {u:World}:St X w0 w (([],u)::M):=by
 have e:fps (([],u)::M)=fps M:=by simp [fps]
 refine ⟨h.ext,?_,by rw [e]; exact h.lt,by rw [e]; exact h.lo,by rw [e]; exact h.nd⟩
 intro p hp
 rcases List.mem_cons.1 hp with rfl | hp
 · intro b hb; simp at hb
 · exact h.ok p hp
theorem St.fresh (h:St [] w0 w M) (i:Nat) {F:List Nat} {u:World} (hi:M[i]? = some (F,u)):∀ b∈F,w0.heap.size≤b:=λb hb=>by
 rcases h.lo b (Qhh hi hb) with h1 | h1
 · simp at h1
 · exact h1
theorem St.freshX (h:St X w0 w M) (i j:Nat) {F:List Nat} {u v:World} (hi:M[i]? = some (F,u)) (hj:M[j]? = some (X,v)) (hij:Nat.beq i j=false):∀ b∈F,w0.heap.size≤b:=λb hb=>by
 rcases h.lo b (Qhh hi hb) with h1 | h1
 · exact absurd h1 (Qwe h.nd (λe=>by subst e; simp at hij) hi hj b hb)
 · exact h1
theorem St.start1 (w:World) {F:List Nat} (hlt:∀ b∈F,b<w.heap.size) (hnd:F.Nodup):St F w w [(F,w)]:=by
 have e:fps [(F,w)]=F:=by simp [fps]
 refine ⟨Ext.refl _ _,?_,by rw [e]; exact hlt,λb hb=>.inl (by rw [e] at hb; exact hb),by rw [e]; exact hnd⟩
 intro p hp
 simp only [List.mem_singleton] at hp
 subst hp; exact Agr.refl _ _
theorem St.split2at1 {A F G:List Nat} {u x:World} (h:St X w0 w ((A,x)::(F++G,u)::M)):St X w0 w ((A,x)::(F,u)::(G,u)::M):=by
 have e:fps ((A,x)::(F,u)::(G,u)::M)=fps ((A,x)::(F++G,u)::M):=by simp [fps]
 refine ⟨h.ext,?_,by rw [e]; exact h.lt,by rw [e]; exact h.lo,by rw [e]; exact h.nd⟩
 have h0:=h.ok (F++G,u) (by simp)
 intro p hp
 simp only [List.mem_cons] at hp
 rcases hp with rfl | rfl | rfl | hp
 · exact h.ok _ (by simp)
 · exact h0.sub (λb hb=>by simp [hb])
 · exact h0.sub (λb hb=>by simp [hb])
 · exact h.ok p (by simp [hp])
theorem St.join3 {A F G:List Nat} {x u v:World} (h:St X w0 w ((A,x)::(F,u)::(G,v)::M)):St X w0 w ((A++(F++G),w)::M):=by
 have e:fps ((A++(F++G),w)::M)=fps ((A,x)::(F,u)::(G,v)::M):=by simp [fps]
 refine ⟨h.ext,?_,by rw [e]; exact h.lt,by rw [e]; exact h.lo,by rw [e]; exact h.nd⟩
 intro p hp
 simp only [List.mem_cons] at hp
 rcases hp with rfl | hp
 · exact Agr.refl _ _
 · exact h.ok p (by simp [hp])
theorem St.dis (h:St X w0 w M) (i j:Nat) {F G:List Nat} {u v:World} (hi:M[i]? = some (F,u)) (hj:M[j]? = some (G,v)) (hij:Nat.beq i j=false):∀ b∈F,b∉G :=
 Qwe h.nd (λe=>by subst e; simp at hij) hi hj
theorem St.dis0 (h:St [] w0 w M) (j:Nat) {F G:List Nat} {v:World} (hj:M[j]? = some (G,v)) (hlt:∀ b∈F,b<w0.heap.size) (_hd:∀ b∈F,b∉([]:List Nat)):∀ b∈F,b∉G:=λb hb hg=>by
 have:=h.fresh j hj b hg
 have:=hlt b hb
 omega
theorem St.disX (h:St X w0 w M) (j:Nat) {F G:List Nat} {v:World} (hj:M[j]? = some (G,v)) (hlt:∀ b∈F,b<w0.heap.size) (hd:∀ b∈F,b∉X):∀ b∈F,b∉G:=λb hb hg=>by
 rcases h.lo b (Qhh hj hg) with h1 | h1
 · exact hd b hb h1
 · have:=hlt b hb; omega
theorem bx.lt1 {u:World} {b:Nat} {cs:List Value} {e:TypeId} (h:bx u b cs e):∀ x∈[b],x<u.heap.size:=by
 intro x hx
 simp only [List.mem_singleton] at hx
 subst hx; exact Qgx h
theorem Ext.lt1 {X:List Nat} {w w':World} (h:Ext X w w') {F:List Nat} (hl:∀ b∈F,b<w.heap.size):∀ b∈F,b<w'.heap.size:=λb hb=>Nat.lt_of_lt_of_le (hl b hb) h.size
theorem Qa0 {n:Nat} {F G:List Nat} (h1:∀ b∈F,n≤b) (h2:∀ b∈G,n≤b):∀ b∈F++G,n≤b:=λb hb=>by
 rcases List.mem_append.1 hb with h | h
 · exact h1 b h
 · exact h2 b h
end
theorem Qru {α:Type} [Enc α] {w:World} {g:Nat} {e:TypeId} (h:bx w g [] e):ow w [g] [.slice (some ⟨g,0,none⟩) 0 0] ([]:List α) :=
 .inr ⟨g,0,0,_,e,[],rfl,Nat.le_refl _,by simp [maxLen],h,by simp,by simp [owL],rfl,by simp⟩
class Arg (α:Type) where
 argv:World→Value→α→Prop
open Arg (argv)
instance:Arg Int:=⟨λ_ v x=>v=.int .i64 x⟩
instance {α:Type} [Enc α]:Arg (List α):=⟨λw v x=>∃ F,rd w F [v] x⟩
class Ret (β:Type) where
 retv:β→Value
open Ret (retv)
instance:Ret Bool:=⟨.bool⟩
instance:Ret Int:=⟨.int .i64⟩
def Qvt {α β:Type} [Arg α] [Ret β] (P:Program) (w0:World) (fv:Value) (f:α→Option β):Prop :=
 ∃ fid cap,fv=.func (.func fid) #[] (List.toArray cap)∧(∀ (args:Array Value) (w:World),(callFunc fid args).run P w=.ok (.enter fid args) w) ∧
  ∀ w x v r,Ext [] w0 w→argv w v x→f x=some r→Calls P fid (([v]++cap).toArray) w λe w'=>e=.returned (retv r)∧Ext [] w w'
def Jkv {α β:Type} [Arg α] [Ret β] (X:List Nat) (P:Program) (w0:World) (fv:Value) (f:α→Option β):Prop :=
 ∃ fid cap,fv=.func (.func fid) #[] (List.toArray cap)∧(∀ (args:Array Value) (w:World),(callFunc fid args).run P w=.ok (.enter fid args) w) ∧
  ∀ w x v r,Ext X w0 w→argv w v x→f x=some r→Calls P fid (([v]++cap).toArray) w λe w'=>e=.returned (retv r)∧Ext [] w w'
def Q7m {α α' β:Type} [Arg α] [Arg α'] [Ret β] (X:List Nat) (P:Program) (w0:World) (fv:Value) (f:α→α'→Option β):Prop :=
 ∃ fid cap,fv=.func (.func fid) #[] (List.toArray cap)∧(∀ (args:Array Value) (w:World),(callFunc fid args).run P w=.ok (.enter fid args) w) ∧
  ∀ w x x' v v' r,Ext X w0 w→argv w v x→argv w v' x'→f x x'=some r→Calls P fid (([v,v']++cap).toArray) w λe w'=>e=.returned (retv r)∧Ext [] w w'
section
variable {P:Program} {o:Oper} {a:Act} {w:World} {N:Nat} {L:List (Nat×Value)}
def SEq (P:Program) (t:TypeId) (α:Type) [Flat α] [DecidableEq α]:Prop :=
 P.eqGuardType P.depth t=false∧∀ (w:World) (x y:α),(Op.equalIn 10000 t (.agg (Flat.e x).toArray) (.agg (Flat.e y).toArray)).run P w=.ok (decide (x=y)) w
theorem Jm2 {α:Type} [Flat α] [DecidableEq α] {t t':TypeId} (hS:SEq P t α) {x y:α} {vx vy:List Value} (hK:K N L a) {i j:Operand}
    (ho:o.op=.binOp .eql t i j t') (hv:ev L i=some (.agg vx.toArray)) (hi:ev L j=some (.agg vy.toArray)) (hx:vx=Flat.e x) (hy:vy=Flat.e y) :
    (execOp a.eval o).run P w=.ok (.value (.bool (decide (x=y)))) w:=by
 subst hx; subst hy
 simp only [execOp,ho,hK.ev hv,hK.ev hi,Sem.run_bind,run_eqGuard_agg w _ _ _ _ _ _ hS.1,Result.andThen_ok,run_eql_struct,hS.2,Sem.run_pure]
end
end Go.Proofs.YthkaklkinepfkaaGreatDoor
set_option linter.unusedSimpArgs false
set_option linter.unusedVariables false
namespace Go.Proofs.YthkaklkinepfkaaGreatDoor
open Go
theorem Jf4 {P:Program} {l:List Char} {ws:List (List Char)} (h:P.initOrder=String.ofList l) (h2:wordsSigns l=ws):wordsSigns P.initOrder.toList=ws:=by rw [h,String.toList_ofList,h2]
theorem Jnc {P:Program} {ws:List (List Char)} (h:wordsSigns P.initOrder.toList = ws) (h2:(match behindMainWord ws with | c :: _=>c == "cut".toList | []=>false) = true):P.make = some .cut:=by
 unfold Program.make
 rw [h]
 revert h2
 cases behindMainWord ws with
 | nil=>simp
 | cons c r =>
  intro h2
  have:c = "cut".toList:=by simpa using h2
  subst this
  rfl
theorem Jm1 {P:Program} {ws:List (List Char)} (h:wordsSigns P.initOrder.toList = ws) (h2:(match behindMainWord ws with | c :: _=>c == "cut".toList | []=>false) = true):P.liftsFinal = false:=by
 unfold Program.liftsFinal Program.headLifts
 rw [h]
 revert h2
 cases behindMainWord ws with
 | nil=>simp
 | cons c r =>
  intro h2
  have:c = "cut".toList:=by simpa using h2
  subst this
  rfl
theorem Jiu {α:Type} [BEq α] {x y z:α} (h:x=y) (h2:(y==z)=true):(x==z)=true:=by rw [h]; exact h2
theorem Q8r {α:Type} [BEq α] {x y z:α} (h:x=y) (h2:(z==y)=true):(z==x)=true:=by rw [h]; exact h2
end Go.Proofs.YthkaklkinepfkaaGreatDoor
