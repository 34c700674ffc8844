/- Ends of pieces of code, results, functions handed in. Own lemmas, over any program. -/
import Derived.Test.YtcboeijpplllfaaGreatS5
set_option linter.unusedSimpArgs false
set_option linter.unusedVariables false
namespace Go.Proofs.YtcboeijpplllfaaGreat
open Go Go.RowKit
open Enc (rd ow)
section
variable {P:Program} {Q:Exit → Act → World → Prop} {next:Act → World → Prop} {a:Act} {w:World} {id id':Nat}
theorem nm_then (h:next a w):Exit.then next Q .normal a w:=h
theorem ex_then (h:Q (.exit id) a w):Exit.then next Q (.exit id) a w:=h
theorem rt_then (h:Q .ret a w):Exit.then next Q .ret a w:=h
theorem nm_block (h:Q .normal a w):Exit.inBlock id Q .normal a w:=h
theorem ex_same (h:Q .normal a w):Exit.inBlock id Q (.exit id) a w:=by simpa [Exit.inBlock] using h
theorem rt_block (h:Q .ret a w):Exit.inBlock id Q .ret a w:=h
end
def rvSem (a:Act):ResultVar → Sem Value
 | .tmp t=>pure (a.tmps.getD t undef)
 | .cell x t=>do loadVar t (← asAddr (a.tmps.getD x undef))
def RV (P:Program) (a:Act) (w:World) (rv:ResultVar) (v:Value):Prop:=(rvSem a rv).run P w = .ok v w
section
variable {P:Program} {fn:Func} {R:Ending → World → Prop} {a:Act} {w:World} {N:Nat} {L:List (Nat × Value)}
theorem K.getD (hK:K N L a) {t:Nat} {v:Value} (h:lk L t = some v):a.tmps.getD t undef = v:=by
 simp [Array.getD_eq_getD_getElem?,hK.at_ _ _ h]
theorem RV.tmp (hK:K N L a) {t:Nat} {v:Value} (h:lk L t = some v):RV P a w (.tmp t) v:=by
 simp [RV,rvSem,hK.getD h,-Array.getD_eq_getD_getElem?]
theorem RV.c1 (hK:K N L a) {t ty:Nat} {p:Addr} {v:Value} {r:List Value} (h:lk L t = some (.pointer (some p))) (hT:T1 P ty) (hp:PtAt w p (v :: r)):RV P a w (.cell t ty) v:=by
 simp [RV,rvSem,hK.getD h,asAddr,loadVar1 hT hp,-Array.getD_eq_getD_getElem?]
theorem RV.cA (hK:K N L a) {t ty n:Nat} {p:Addr} {cs:List Value} (h:lk L t = some (.pointer (some p))) (hT:TA P ty n) (hp:PtAt w p cs) (hn:cs.length = n):RV P a w (.cell t ty) (.agg cs.toArray):=by
 simp [RV,rvSem,hK.getD h,asAddr,loadVarA hT hp hn,-Array.getD_eq_getD_getElem?]
theorem results_run (rvs:List ResultVar) (hr:fn.results = rvs.toArray):(results fn a.tmps).run P w =
    ((rvs.mapM (rvSem a)).run P w).andThen fun vs w=>.ok (if h:vs.length = 1 then vs[0] else .tuple vs.toArray) w:=by
 have e:(results fn a.tmps) = (do let vs ← fn.results.mapM (rvSem a); pure (if h:vs.size = 1 then vs[0] else .tuple vs)):=by
  unfold results
  congr 1
 rw [e,hr]
 simp only [List.mapM_toArray,Sem.run_bind,Sem.run_map,bind_map_left]
 rfl
theorem finR1 (hK:K N L a) {r1:ResultVar} {v1:Value} (hr:fn.results = #[r1]) (h1:RV P a w r1 v1) (h:R (.returned v1) w):bodyPost P fn R .ret a w:=by
 refine ⟨hK.defers,v1,?_,h⟩
 rw [results_run [r1] hr]
 unfold RV at h1
 simp [h1]
theorem finR2 (hK:K N L a) {r1 r2:ResultVar} {v1 v2:Value} (hr:fn.results = #[r1,r2]) (h1:RV P a w r1 v1) (h2:RV P a w r2 v2) (h:R (.returned (.tuple #[v1,v2])) w):bodyPost P fn R .ret a w:=by
 refine ⟨hK.defers,_,?_,h⟩
 rw [results_run [r1,r2] hr]
 unfold RV at h1 h2
 simp [h1,h2]
end
section
variable {X:List Nat} {w0 w w':World} {M:List (List Nat × World)}
theorem St.fresh (h:St [] w0 w M) (i:Nat) {F:List Nat} {u:World} (hi:M[i]? = some (F,u)):∀ b ∈ F,w0.heap.size ≤ b:=fun b hb=>by
 rcases h.lo b (mem_fps hi hb) with h1 | h1
 · simp at h1
 · exact h1
theorem St.start1 (w:World) {F:List Nat} (hlt:∀ b ∈ F,b < w.heap.size) (hnd:F.Nodup):St F w w [(F,w)]:=by
 have e:fps [(F,w)] = F:=by simp [fps]
 refine ⟨Ext.refl _ _,?_,by rw [e]; exact hlt,fun b hb=>.inl (by rw [e] at hb; exact hb),by rw [e]; exact hnd⟩
 intro p hp
 simp only [List.mem_singleton] at hp
 subst hp; exact Agr.refl _ _
theorem St.split2at1 {A F G:List Nat} {u x:World} (h:St X w0 w ((A,x) :: (F ++ G,u) :: M)):St X w0 w ((A,x) :: (F,u) :: (G,u) :: M):=by
 have e:fps ((A,x) :: (F,u) :: (G,u) :: M) = fps ((A,x) :: (F ++ G,u) :: M):=by simp [fps]
 refine ⟨h.ext,?_,by rw [e]; exact h.lt,by rw [e]; exact h.lo,by rw [e]; exact h.nd⟩
 have h0:=h.ok (F ++ G,u) (by simp)
 intro p hp
 simp only [List.mem_cons] at hp
 rcases hp with rfl | rfl | rfl | hp
 · exact h.ok _ (by simp)
 · exact h0.sub (fun b hb=>by simp [hb])
 · exact h0.sub (fun b hb=>by simp [hb])
 · exact h.ok p (by simp [hp])
theorem St.join3 {A F G:List Nat} {x u v:World} (h:St X w0 w ((A,x) :: (F,u) :: (G,v) :: M)):St X w0 w ((A ++ (F ++ G),w) :: M):=by
 have e:fps ((A ++ (F ++ G),w) :: M) = fps ((A,x) :: (F,u) :: (G,v) :: M):=by simp [fps]
 refine ⟨h.ext,?_,by rw [e]; exact h.lt,by rw [e]; exact h.lo,by rw [e]; exact h.nd⟩
 intro p hp
 simp only [List.mem_cons] at hp
 rcases hp with rfl | hp
 · exact Agr.refl _ _
 · exact h.ok p (by simp [hp])
theorem bx.lt1 {u:World} {b:Nat} {cs:List Value} {e:TypeId} (h:bx u b cs e):∀ x ∈ [b],x < u.heap.size:=by
 intro x hx
 simp only [List.mem_singleton] at hx
 subst hx; exact lt_of_heap h
theorem Ext.lt1 {X:List Nat} {w w':World} (h:Ext X w w') {F:List Nat} (hl:∀ b ∈ F,b < w.heap.size):∀ b ∈ F,b < w'.heap.size:=fun b hb=>Nat.lt_of_lt_of_le (hl b hb) h.size
theorem app_fresh {n:Nat} {F G:List Nat} (h1:∀ b ∈ F,n ≤ b) (h2:∀ b ∈ G,n ≤ b):∀ b ∈ F ++ G,n ≤ b:=fun b hb=>by
 rcases List.mem_append.1 hb with h | h
 · exact h1 b h
 · exact h2 b h
end
theorem ow_bx0 {α:Type} [Enc α] {w:World} {g:Nat} {e:TypeId} (h:bx w g [] e):ow w [g] [.slice (some ⟨g,0,none⟩) 0 0] ([]:List α) :=
 .inr ⟨g,0,0,_,e,[],rfl,Nat.le_refl _,by simp [maxLen],h,by simp,by simp [owL],rfl,by simp⟩
class Arg (α:Type) where
 argv:World → Value → α → Prop
open Arg (argv)
instance:Arg Int:=⟨fun _ v x=>v = .int .i64 x⟩
instance {α:Type} [Enc α]:Arg (List α):=⟨fun w v x=>∃ F,rd w F [v] x⟩
class Ret (β:Type) where
 retv:β → Value
open Ret (retv)
instance:Ret Bool:=⟨.bool⟩
instance:Ret Int:=⟨.int .i64⟩
def FnOk1 {α β:Type} [Arg α] [Ret β] (P:Program) (w0:World) (fv:Value) (f:α → Option β):Prop :=
 ∃ fid cap,fv = .func (.func fid) #[] (List.toArray cap) ∧ (∀ (args:Array Value) (w:World),(callFunc fid args).run P w = .ok (.enter fid args) w) ∧
  ∀ w x v r,Ext [] w0 w → argv w v x → f x = some r → Calls P fid (([v] ++ cap).toArray) w fun e w'=>e = .returned (retv r) ∧ Ext [] w w'
section
variable {P:Program} {o:Oper} {a:Act} {w:World} {N:Nat} {L:List (Nat × Value)}
def SEq (P:Program) (t:TypeId) (α:Type) [Flat α] [DecidableEq α]:Prop :=
 P.eqGuardType P.depth t = false ∧ ∀ (w:World) (x y:α),(Op.equalIn 10000 t (.agg (Flat.e x).toArray) (.agg (Flat.e y).toArray)).run P w = .ok (decide (x = y)) w
theorem r_eqs {α:Type} [Flat α] [DecidableEq α] {t t':TypeId} (hS:SEq P t α) {x y:α} {vx vy:List Value} (hK:K N L a) {i j:Operand}
    (ho:o.op = .binOp .eql t i j t') (hv:ev L i = some (.agg vx.toArray)) (hi:ev L j = some (.agg vy.toArray)) (hx:vx = Flat.e x) (hy:vy = Flat.e y) :
    (execOp a.eval o).run P w = .ok (.value (.bool (decide (x = y)))) w:=by
 subst hx; subst hy
 simp only [execOp,ho,hK.ev hv,hK.ev hi,Sem.run_bind,run_eqGuard_agg w _ _ _ _ _ _ hS.1,Result.andThen_ok,run_eql_struct,hS.2,Sem.run_pure]
end
end Go.Proofs.YtcboeijpplllfaaGreat
