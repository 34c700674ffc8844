/- Regions that draw their order; parts of structs; slices of slices. Own lemmas, over any program. -/
import Derived.Test.YtcboeijpplllfaaGreatS4
set_option linter.unusedSimpArgs false
set_option linter.unusedVariables false
namespace Go.Proofs.YtcboeijpplllfaaGreat
open Go Go.RowKit
open Enc (rd ow)
section
variable {P:Program} {ops:Array Oper} {Q:Exit → Act → World → Prop} {rest:List Oper} {o:Oper} {a:Act} {w:World} {N:Nat} {L:List (Nat × Value)}
variable {X:List Nat} {w0:World} {M:List (List Nat × World)} {d:Nat} {S:World → Prop} {fuel:Nat} {listed:Array Bool}
theorem d_go {id:Nat} {l:List Oper} (Z:List Nat) {n:Nat} (hm:P.follows .mixedOrders = true) (hM:St X w0 w M) (hn:l.length = n)
    (h:∀ wd,St X w0 wd M → wpAnyH P .any l.toArray Q (Ext Z wd) n (List.replicate n false).toArray a wd):(Code.region id l.toArray true).wp P Q a w:=by
 refine wp_region_held (S:=Ext Z w.drew) hm ?_
 have:=h w.drew (hM.step (Ext.drew w))
 subst hn
 simpa using this
theorem d_take (hK:K N L a) (i:Nat) {v:Value} (hi:ops[i]? = some o) (hs:Region.noSelect ops = true) (hf:Region.free .any ops listed i = true) (hr:(Region.ready .any ops listed).contains i = true)
    (hg:gd L ops o.guard = some true) (hd:o.dst = some d) (hN:Nat.blt d N = true) (hS:S w) (hQ:∀ c a w,Q (.panic c) (a.put o.dst v) w → Q (.panic c) a w)
    (hy:∀ w,S w → (execOp a.eval o).run P w = .ok (.value v) w) (h:∀ a,K N ((d,v) :: L) a → wpAnyH P .any ops Q S fuel (listed.setIfInBounds i true) a w):wpAnyH P .any ops Q S (fuel + 1) listed a w :=
 wpAnyH_take hi hs hf hr hQ (.inl ⟨hK.wanted hg,hy⟩) hS (by rw [hd]; exact h _ (hK.put d hN v))
theorem d_pure (hK:K N L a) (i:Nat) {v:Value} (hi:ops[i]? = some o) (hs:Region.noSelect ops = true) (hf:Region.free .any ops listed i = true) (hr:(Region.ready .any ops listed).contains i = true)
    (hg:gd L ops o.guard = some true) (hd:o.dst = some d) (hN:Nat.blt d N = true) (hS:S w) (hQ:∀ c a w,Q (.panic c) (a.put o.dst v) w → Q (.panic c) a w)
    (hp:pureOp L o.op = some v) (h:∀ a,K N ((d,v) :: L) a → wpAnyH P .any ops Q S fuel (listed.setIfInBounds i true) a w):wpAnyH P .any ops Q S (fuel + 1) listed a w :=
 d_take hK i hi hs hf hr hg hd hN hS hQ (fun w _=>pureOp_run hK hp P w) h
theorem d_skip (hK:K N L a) (i:Nat) (hi:ops[i]? = some o) (hs:Region.noSelect ops = true) (hf:Region.free .any ops listed i = true) (hr:(Region.ready .any ops listed).contains i = true)
    (hg:gd L ops o.guard = some false) (hd:o.dst = some d) (hN:Nat.blt d N = true) (hS:S w) (hQ:∀ c a w,Q (.panic c) (a.put o.dst undef) w → Q (.panic c) a w)
    (h:∀ a,K N ((d,undef) :: L) a → wpAnyH P .any ops Q S fuel (listed.setIfInBounds i true) a w):wpAnyH P .any ops Q S (fuel + 1) listed a w :=
 wpAnyH_take hi hs hf hr hQ (.inr ⟨hK.wanted hg,rfl⟩) hS (by rw [hd]; exact h _ (hK.put d hN undef))
theorem wpOp_of {i:Nat} {K':Act → World → Prop} (hi:ops[i]? = some o) (h:wpList P ops (Exit.then K' Q) [o] a w):wpOp P ops Q i K' a w:=by
 unfold wpOp
 simp only [hi]
 simp only [wpList] at h
 split at h
 · rename_i hw
   rw [if_pos hw]
   rcases h with h | ⟨h1,h2⟩
   · left
     unfold Oper.wp at *
     generalize (execOp a.eval o).run P w = r at *
     cases r with
     | ok n w' =>
      cases n <;> simp only [Oper.upon] at h ⊢ <;>
       first
        | exact h
        | exact Calls.mono h (fun e w'' he=>by cases e <;> exact he)
        | exact Rows.mono h (fun _ _ he=>he)
     | halt x w'=>cases x <;> simp only [Oper.upon] at h ⊢ <;> exact h
   · exact .inr ⟨h1,h2⟩
 · rename_i hw
   rw [if_neg hw]
   exact h
theorem d_one (i:Nat) (hr:Region.ready .any ops listed = [i]) (hi:ops[i]? = some o)
    (h:wpList P ops (Exit.then (fun a' w'=>S w' ∧ wpAnyH P .any ops Q S fuel (listed.setIfInBounds i true) a' w') Q) [o] a w):wpAnyH P .any ops Q S (fuel + 1) listed a w :=
 wpAnyH_all hr (by simp) fun j hj=>by
  simp only [List.mem_singleton] at hj
  subst hj
  exact wpOp_of hi h
theorem d_two (i j:Nat) {o':Oper} (hr:Region.ready .any ops listed = [i,j]) (hi:ops[i]? = some o) (hj:ops[j]? = some o')
    (h:wpList P ops (Exit.then (fun a' w'=>S w' ∧ wpAnyH P .any ops Q S fuel (listed.setIfInBounds i true) a' w') Q) [o] a w)
    (h':wpList P ops (Exit.then (fun a' w'=>S w' ∧ wpAnyH P .any ops Q S fuel (listed.setIfInBounds j true) a' w') Q) [o'] a w):wpAnyH P .any ops Q S (fuel + 1) listed a w :=
 wpAnyH_all hr (by simp) fun k hk=>by
  simp only [List.mem_cons,List.not_mem_nil,or_false] at hk
  rcases hk with rfl | rfl
  · exact wpOp_of hi h
  · exact wpOp_of hj h'
theorem d_done (hr:Region.ready .any ops listed = []) (h:Q .normal a w):wpAnyH P .any ops Q S fuel listed a w:=wpAnyH_done hr h fuel
theorem St.az {wd:World} (h:St X w0 wd M) (i j:Nat) {F G:List Nat} {u v:World} (hi:M[i]? = some (F,u)) (hj:M[j]? = some (G,v)) (hij:Nat.beq i j = false) (hE:Ext G wd w):Agr F u w:=fun b hb=>by
 have h1:=h.a i hi b hb
 have h2:=fps_disj h.nd (fun e=>by subst e; simp at hij) hi hj b hb
 exact (hE.blk b (h.ltF i hi b hb) h2).trans h1
theorem St.az0 {wd:World} (h:St X w0 wd M) (j:Nat) {F G:List Nat} {v:World} (hj:M[j]? = some (G,v)) (hX:X = []) (hlt:∀ b ∈ F,b < w0.heap.size) (hE:Ext G wd w):Agr F w0 w:=fun b hb=>by
 subst hX
 have h1:=h.a00 hlt b hb
 refine (hE.blk b (Nat.lt_of_lt_of_le (hlt b hb) h.ext.size) ?_).trans h1
 intro hg
 rcases h.lo b (mem_fps hj hg) with h2 | h2
 · simp at h2
 · have:=hlt b hb; omega
theorem rd_o {α:Type} [Enc α] {F:List Nat} {v:Value} {xs:List α} {w:World} (h:rd w F [v] xs):v.oneCell' = true:=Enc.rd_one h v (by simp)
theorem rd_c {α:Type} [Enc α] {F:List Nat} {v:Value} {xs:List α} {w:World} (h:rd w F [v] xs):v.cells = #[v]:=by
 obtain ⟨ao,cap,hq,_⟩:=h
 have:=(List.cons.inj hq).1
 subst this
 rfl
theorem allc {p:Value → Bool} {x:Value} {l:List Value} (h:p x = true) (k:l.all p = true):(x :: l).all p = true:=by simp [h,k]
theorem alln {p:Value → Bool}:([]:List Value).all p = true:=rfl
theorem s_stb1 {t:Nat} (hs:∀ w,(sizeOf t).run P w = .ok 1 w) (hM:St X w0 w M) (i:Nat) {u:World} {b:Nat} {cs cs':List Value} {e:TypeId} (hb:bx u b cs e) (off:Nat) (hK:K N L a) {x y:Operand} {p:Addr} {v:Value}
    (hvc:v.cells = #[v]) (hvo:v.oneCell' = true)
    (hi:M[i]? = some ([b],u)) (hg:gd L ops o.guard = some true) (hd:o.dst = none)
    (ho:o.op = .store t x y) (hp':ev L x = some (.pointer (some p))) (hp:p = (⟨b,0,none⟩:Addr).add off) (hv:ev L y = some v) (hc:splice cs off [v] = cs')
    (hle:Nat.ble (off + 1) cs.length = true)
    (h:∀ w' a,K N L a → Ext [b] w w' → St X w0 w' (M.set i ([b],w')) → bx w' b cs' e → wpList P ops Q rest a w'):wpList P ops Q (o :: rest) a w :=
 s_stb hs hM i hb off hK hi hg hd ho hp' hp hv (by rw [hvc]; exact hc) (by rw [hvc]; rfl) hle (by rw [hvc]; simp [hvo]) h
theorem lo1 {b n:Nat} (h:n ≤ b):∀ y ∈ [b],n ≤ y:=by simpa using h
theorem s_allocN {cs:List Value} {z:Value} (hM:St X w0 w M) (hK:K N L a) {e:TypeId} (hz:∀ w,(zeroValue e).run P w = .ok z w)
    (hg:gd L ops o.guard = some true) (hd:o.dst = some d) (hN:Nat.blt d N = true)
    (ho:o.op = .alloc e) (hc:z.cells = cs.toArray)
    (h:∀ b w' a,K N ((d,.pointer (some ⟨b,0,none⟩)) :: L) a → St X w0 w' (([b],w') :: M) → Ext [] w w' → bx w' b cs e → w.heap.size ≤ b → wpList P ops Q rest a w'):wpList P ops Q (o :: rest) a w:=by
 refine s_val hK hg hd hN (v:=.pointer (some ⟨w.heap.size,0,none⟩)) (w':=w.alloc (.cells cs.toArray e)) ?_ fun a hK=>h _ _ a hK (hM.new (Ext.alloc _ _) _ (size_alloc_box _ _ _) (by simp)) (Ext.alloc _ _) (heap_alloc_new w _) (Nat.le_refl _)
 simp [execOp,ho,hz,Instr.alloc,newVar,newRow,hc]
def BT (P:Program) (t:TypeId) (z:List Value) (places:Array (Nat × Nat)):Prop :=
 (∀ w,(zeroValue t).run P w = .ok (.agg z.toArray) w) ∧ ∃ fs,P.underlying t = some (.struct fs) ∧
  ∀ w,(fs.mapM (fun f=>(do pure (f.offset,← sizeOf f.type):Sem (Nat × Nat)))).run P w = .ok places w
theorem r_build {t:TypeId} {z:List Value} {places:Array (Nat × Nat)} (hT:BT P t z places) (hK:K N L a) {ps:List (Nat × Operand)} {vs:List Value} {cs:Array Value}
    (ho:o.op = .build t ps.toArray) (hv:evs L (ps.map (·.2)) = some vs) (hf:Instr.fill (places[·]?) z.toArray ((ps.map (·.1)).zip vs) = some cs) :
    (execOp a.eval o).run P w = .ok (.value (.agg cs)) w:=by
 obtain ⟨hz,fs,hu,hp⟩:=hT
 have hpa:(ps.toArray.map fun p=>(p.1,a.eval p.2)) = ((ps.map (·.1)).zip vs).toArray:=by rw [List.map_toArray,evPairs hK hv]
 simp only [execOp,ho,hpa,Instr.build,hz,Sem.run_bind,Result.andThen_ok,run_underlying hu w,hp,Value.cells]
 rw [hf]
 rfl
def sls {α:Type} (xs:List α) (lo hi:Int):Option (List α):=if 0 ≤ lo ∧ lo ≤ hi ∧ hi ≤ xs.length then some ((xs.drop lo.toNat).take (hi.toNat - lo.toNat)) else none
theorem rdL_drop {α:Type} [Enc α] {w:World} {F:List Nat}:∀ (n:Nat) {xs:List α} {cells:List Value},rdL w F cells xs → rdL w F (cells.drop (n * Enc.sz α)) (xs.drop n)
 | 0,xs,cells,h=>by simpa using h
 | n + 1,[],cells,h=>by simp [rdL]
 | n + 1,x :: xs,cells,⟨_,h⟩=>by
  have:=rdL_drop n h
  rw [List.drop_drop] at this
  simpa [Nat.add_mul,Nat.add_comm] using this
theorem rdL_pre {α:Type} [Enc α] {w:World} {F:List Nat}:∀ (n:Nat) {xs:List α} {cells:List Value},rdL w F cells xs → rdL w F cells (xs.take n)
 | 0,xs,cells,h=>by simp [rdL]
 | n + 1,[],cells,h=>by simp [rdL]
 | n + 1,x :: xs,cells,⟨h,h'⟩=>⟨h,rdL_pre n h'⟩
theorem rd_sls {α:Type} [Enc α] {u:World} {F:List Nat} {ao:Option Addr} {cap:Nat} {xs ys:List α} {lo hi:Int} (h:rd u F [.slice ao xs.length cap] xs) (hx:sls xs lo hi = some ys) :
    rd u F [.slice (if cap = lo.toNat then ao else ao.map (·.add (lo.toNat * Enc.sz α))) (hi.toNat - lo.toNat) (cap - lo.toNat)] ys:=by
 unfold sls at hx
 split at hx
 · rename_i h0
   simp only [Option.some.injEq] at hx
   subst hx
   obtain ⟨ao',cap',hv,h1,h2,h3,h4⟩:=h
   simp only [List.cons.injEq,Value.slice.injEq,and_true,true_and] at hv
   obtain ⟨rfl,rfl⟩:=hv
   have hlen:((xs.drop lo.toNat).take (hi.toNat - lo.toNat)).length = hi.toNat - lo.toNat:=by simp; omega
   refine ⟨_,_,by rw [hlen],by rw [hlen]; omega,by omega,h3,?_⟩
   rcases h4 with rfl | ⟨g,off,c,e,fr,rfl,hg,hh,hl⟩
   · exact .inl (by simp)
   · by_cases hz:hi.toNat - lo.toNat = 0
     · exact .inl (by rw [hz]; simp)
     · refine .inr ⟨g,off + lo.toNat * Enc.sz α,c,e,fr,?_,hg,hh,?_⟩
       · rw [if_neg (by omega)]; simp [add_none]
       · have:=rdL_pre (hi.toNat - lo.toNat) (rdL_drop lo.toNat hl)
         rw [List.drop_drop] at this
         exact this
 · simp at hx
theorem s_slTo {α:Type} [Enc α] {u:World} {F:List Nat} {v:Value} {xs ys:List α} {hi:Int} {k':IntKind} (hf:rd u F [v] xs) (hx:sls xs 0 hi = some ys) (hK:K N L a) {t:TypeId} (hu:TS P t (Enc.sz α)) {x j:Operand}
    (hg:gd L ops o.guard = some true) (hd:o.dst = some d) (hN:Nat.blt d N = true)
    (ho:o.op = .slice t x none (some j) none) (hv:ev L x = some v) (hj:ev L j = some (.int k' hi))
    (h:∀ v' a,K N ((d,v') :: L) a → rd u F [v'] ys → wpList P ops Q rest a w):wpList P ops Q (o :: rest) a w:=by
 obtain ⟨ao,cap,rfl,h1,h2⟩:=rd_slice hf
 obtain ⟨e,hu,hs⟩:=hu
 have hr:=rd_sls hf hx
 unfold sls at hx
 split at hx
 · rename_i h0
   refine s_val hK hg hd hN ?_ fun a hK=>h _ a hK hr
   have c1:0 ≤ hi ∧ hi ≤ (cap:Int):=by omega
   simp [execOp,ho,Instr.sliceAt,Instr.slice,Instr.sliceBounds,Instr.sliceBound,hK.ev hv,hK.ev hj,run_underlying hu,asIntOf,c1,hs]
 · simp at hx
theorem s_slFrom {α:Type} [Enc α] {u:World} {F:List Nat} {v:Value} {xs ys:List α} {lo:Int} {k:IntKind} (hf:rd u F [v] xs) (hx:sls xs lo xs.length = some ys) (hK:K N L a) {t:TypeId} (hu:TS P t (Enc.sz α)) {x i:Operand}
    (hg:gd L ops o.guard = some true) (hd:o.dst = some d) (hN:Nat.blt d N = true)
    (ho:o.op = .slice t x (some i) none none) (hv:ev L x = some v) (hi':ev L i = some (.int k lo))
    (h:∀ v' a,K N ((d,v') :: L) a → rd u F [v'] ys → wpList P ops Q rest a w):wpList P ops Q (o :: rest) a w:=by
 obtain ⟨ao,cap,rfl,h1,h2⟩:=rd_slice hf
 obtain ⟨e,hu,hs⟩:=hu
 have hr:=rd_sls hf hx
 unfold sls at hx
 split at hx
 · rename_i h0
   refine s_val hK hg hd hN ?_ fun a hK=>h _ a hK (by simpa using hr)
   have c2:0 ≤ lo ∧ lo ≤ (xs.length:Int):=by omega
   simp [execOp,ho,Instr.sliceAt,Instr.slice,Instr.sliceBounds,Instr.sliceBound,hK.ev hv,hK.ev hi',run_underlying hu,asIntOf,c2,hs]
 · simp at hx
end
def obind {α β:Type} (m:Option α) (k:α → Option β):Option β:=match m with | some x=>k x | none=>none
theorem obind_some {α β:Type} {m:Option α} {k:α → Option β} {r:β} (h:obind m k = some r):∃ x,m = some x ∧ k x = some r:=by
 cases m with
 | none=>simp [obind] at h
 | some x=>exact ⟨x,rfl,h⟩
def odiv (y:Int):Option Unit:=if y ≠ 0 then some () else none
theorem odiv_some {y:Int} {u:Unit} (h:odiv y = some u):y ≠ 0:=by unfold odiv at h; split at h; assumption; simp at h
theorem bif_t {α:Type} {b:Bool} {x y r:α} (hb:b = true) (h:(bif b then x else y) = r):x = r:=by subst hb; exact h
theorem bif_f {α:Type} {b:Bool} {x y r:α} (hb:b = false) (h:(bif b then x else y) = r):y = r:=by subst hb; exact h
theorem bsplit {p:Prop} (b:Bool) (ht:b = true → p) (hf:b = false → p):p:=by cases b; exact hf rfl; exact ht rfl
end Go.Proofs.YtcboeijpplllfaaGreat
