/- Steps over single operations: what is known of a frame's slots (K), pure operations, conditions, cuts, loops. Own lemmas, over any program. -/
import Derived.WalkKit
set_option linter.unusedSimpArgs false
set_option linter.unusedVariables false
namespace Go.Proofs.YtcboeijpplllfaaGreat
open Go
def lk:List (Nat × Value) → Nat → Option Value
 | [],_=>none
 | (k,v) :: r,t=>bif Nat.beq k t then some v else lk r t
structure K (N:Nat) (L:List (Nat × Value)) (a:Act):Prop where
 size:a.tmps.size = N
 defers:a.defers = []
 at_:∀ t v,lk L t = some v → a.tmps[t]? = some v
theorem K.put {N:Nat} {L:List (Nat × Value)} {a:Act} (h:K N L a) (d:Nat) (hd:Nat.blt d N = true) (v:Value) :
    K N ((d,v) :: L) (a.put (some d) v):=by
 have hd':d < a.tmps.size:=by rw [h.size]; simpa using hd
 refine ⟨by simp [Act.put,h.size],by simp [Act.put,h.defers],fun t u hl=>?_⟩
 simp only [lk] at hl
 by_cases e:d = t
 · subst e
   rw [show Nat.beq d d = true from Nat.beq_refl d] at hl
   simp only [cond_true,Option.some.injEq] at hl
   subst hl
   simp [Act.put,hd']
 · have:Nat.beq d t = false:=by
     cases hb:Nat.beq d t
     · rfl
     · exact absurd (Nat.eq_of_beq_eq_true hb) e
   rw [this] at hl
   simp only [cond_false] at hl
   simp only [Act.put,Array.getElem?_setIfInBounds,if_neg e]
   exact h.at_ t u hl
def keepL (L:List (Nat × Value)):List Nat → Option (List (Nat × Value))
 | []=>some []
 | t :: ts=>match lk L t,keepL L ts with
  | some v,some r=>some ((t,v) :: r)
  | _,_=>none
theorem keepL_lk {L:List (Nat × Value)}:∀ {ts:List Nat} {L':List (Nat × Value)},keepL L ts = some L' → ∀ t v,lk L' t = some v → lk L t = some v
 | [],L',h,t,v,hl=>by simp [keepL] at h; subst h; simp [lk] at hl
 | s :: ts,L',h,t,v,hl=>by
  simp only [keepL] at h
  cases h1:lk L s with
  | none=>simp [h1] at h
  | some u =>
   cases h2:keepL L ts with
   | none=>simp [h1,h2] at h
   | some r =>
    simp only [h1,h2,Option.some.injEq] at h
    subst h
    simp only [lk] at hl
    by_cases e:s = t
    · subst e
      rw [show Nat.beq s s = true from Nat.beq_refl s] at hl
      simp only [cond_true,Option.some.injEq] at hl
      subst hl; exact h1
    · have:Nat.beq s t = false:=by
        cases hb:Nat.beq s t
        · rfl
        · exact absurd (Nat.eq_of_beq_eq_true hb) e
      rw [this] at hl
      exact keepL_lk h2 t v hl
theorem K.keep {N:Nat} {L L':List (Nat × Value)} {a:Act} (h:K N L a) (ts:List Nat) (hk:keepL L ts = some L'):K N L' a :=
 ⟨h.size,h.defers,fun t v hl=>h.at_ t v (keepL_lk hk t v hl)⟩
def ev (L:List (Nat × Value)):Operand → Option Value
 | .tmp t=>lk L t
 | .const v=>some v
 | .func f=>some (.func (.func f) #[] #[])
 | .global g=>some (.pointer (some ⟨g,0,none⟩))
theorem K.ev {N:Nat} {L:List (Nat × Value)} {a:Act} (h:K N L a) {x:Operand} {v:Value} (hv:ev L x = some v):a.eval x = v:=by
 cases x with
 | tmp t =>
  have:=h.at_ t v hv
  simp [Act.eval,Array.getD_eq_getD_getElem?,this]
 | const u=>simpa [Proofs.YtcboeijpplllfaaGreat.ev,Act.eval] using hv
 | global g=>simpa [Proofs.YtcboeijpplllfaaGreat.ev,Act.eval] using hv
 | func f=>simpa [Proofs.YtcboeijpplllfaaGreat.ev,Act.eval] using hv
def evs (L:List (Nat × Value)):List Operand → Option (List Value)
 | []=>some []
 | x :: xs=>match ev L x,evs L xs with
  | some v,some r=>some (v :: r)
  | _,_=>none
theorem K.evs {N:Nat} {L:List (Nat × Value)} {a:Act} (h:K N L a):∀ {xs:List Operand} {vs:List Value},evs L xs = some vs → xs.map a.eval = vs
 | [],vs,hv=>by simp [Proofs.YtcboeijpplllfaaGreat.evs] at hv; subst hv; rfl
 | x :: xs,vs,hv=>by
  simp only [Proofs.YtcboeijpplllfaaGreat.evs] at hv
  cases h1:Proofs.YtcboeijpplllfaaGreat.ev L x with
  | none=>simp [h1] at hv
  | some u =>
   cases h2:Proofs.YtcboeijpplllfaaGreat.evs L xs with
   | none=>simp [h1,h2] at hv
   | some r =>
    simp only [h1,h2,Option.some.injEq] at hv
    subst hv
    simp [h.ev h1,K.evs h h2]
@[reducible] def w64 (x:Int):Int:=IntKind.i64.wrap x
@[reducible] def w8 (x:Int):Int:=IntKind.u8.wrap x
def intB (op:BinOp) (k:IntKind) (x y:Int):Option Value :=
 match op with
 | .add=>some (.int k (k.wrap (x + y)))
 | .sub=>some (.int k (k.wrap (x - y)))
 | .mul=>some (.int k (k.wrap (x * y)))
 | .eql=>some (.bool (x == y))
 | .neq=>some (.bool (x != y))
 | .lss=>some (.bool (decide (x < y)))
 | .leq=>some (.bool (decide (x ≤ y)))
 | .gtr=>some (.bool (decide (x > y)))
 | .geq=>some (.bool (decide (x ≥ y)))
 | .and=>some (.int k (k.wrap (BitVec.ofInt k.bits x &&& BitVec.ofInt k.bits y).toNat))
 | .or=>some (.int k (k.wrap (BitVec.ofInt k.bits x ||| BitVec.ofInt k.bits y).toNat))
 | .xor=>some (.int k (k.wrap (BitVec.ofInt k.bits x ^^^ BitVec.ofInt k.bits y).toNat))
 | .quo=>match y with | .ofNat (n + 1)=>some (.int k (k.wrap (x.tdiv (.ofNat (n + 1))))) | _=>none
 | .rem=>match y with | .ofNat (n + 1)=>some (.int k (x.tmod (.ofNat (n + 1)))) | _=>none
 | _=>none
def strB (op:BinOp) (x y:ByteArray):Option Value :=
 match op with
 | .eql=>some (.bool (x.toList == y.toList))
 | .neq=>some (.bool (!(x.toList == y.toList)))
 | _=>none
def sameK:IntKind → IntKind → Bool
 | .i64,.i64=>true
 | .u8,.u8=>true
 | .i32,.i32=>true
 | .u64,.u64=>true
 | _,_=>false
theorem sameK_eq {a b:IntKind} (h:sameK a b = true):a = b:=by cases a <;> cases b <;> simp_all [sameK]
def pureOp (L:List (Nat × Value)):Op → Option Value
 | .move x=>ev L x
 | .assign x=>ev L x
 | .pick c x y=>match ev L c with
  | some (.bool true)=>ev L x
  | some (.bool false)=>ev L y
  | _=>none
 | .binOp op _ x y _=>match ev L x,ev L y with
  | some (.int k a),some (.int k' b)=>bif sameK k k' then intB op k a b else none
  | some (.string a),some (.string b)=>strB op a b
  | _,_=>none
 | .unOp .not _ x=>match ev L x with
  | some (.bool b)=>some (.bool (!b))
  | _=>none
 | .unOp .neg _ x=>match ev L x with
  | some (.int k n)=>some (.int k (k.wrap (0 - n)))
  | _=>none
 | .extract t i=>match ev L t with
  | some (.tuple vs)=>vs[i]?
  | _=>none
 | .makeFunc fn first captured=>match evs L first.toList,evs L captured.toList with
  | some f,some c=>some (.func fn f.toArray c.toArray)
  | _,_=>none
 | .call { callee:=.builtin .max,args:=args,argTypes:=_ }=>match evs L args.toList with
  | some [.int k x,.int _ y]=>some (.int k (if y > x then y else x))
  | some [.int k x,.int _ y,.int _ z]=>some (.int k (if z > (if y > x then y else x) then z else (if y > x then y else x)))
  | _=>none
 | .call { callee:=.builtin .min,args:=args,argTypes:=_ }=>match evs L args.toList with
  | some [.int k x,.int _ y]=>some (.int k (if y < x then y else x))
  | _=>none
 | _=>none
theorem intB_run {op:BinOp} {k:IntKind} {x y:Int} {v:Value} (h:intB op k x y = some v) (P:Program) (w:World) (xt:TypeId) :
    (binOp op xt (.int k x) (.int k y)).run P w = .ok v w:=by
 cases op <;> simp only [intB,Option.some.injEq,reduceCtorEq] at h <;> try subst h
 all_goals first
  | (simp [binOp,Op.intArith]; done)
  | (simp [binOp,Op.intCmp]; done)
  | (simp [binOp,Op.intBits]; done)
  | skip
 · cases y with
   | ofNat n =>
    cases n with
    | zero=>simp at h
    | succ n =>
     simp only [Option.some.injEq] at h; subst h
     have:¬ (Int.ofNat (n + 1) = 0):=by simp; omega
     simp [binOp,Op.intDiv,-Int.ofNat_eq_natCast,this]
   | negSucc n=>simp at h
 · cases y with
   | ofNat n =>
    cases n with
    | zero=>simp at h
    | succ n =>
     simp only [Option.some.injEq] at h; subst h
     have:¬ (Int.ofNat (n + 1) = 0):=by simp; omega
     simp [binOp,Op.intDiv,-Int.ofNat_eq_natCast,this]
   | negSucc n=>simp at h
theorem eqGuard_int (P:Program) (w:World) (op:BinOp) (t:TypeId) (x y:Operand) (k k':IntKind) (a b:Int) :
    (eqGuard op t x y (.int k a) (.int k' b)).run P w = .ok () w:=by
 unfold eqGuard
 by_cases h:(!(op matches .eql | .neq)) = true <;> simp [h]
theorem eqGuard_str (P:Program) (w:World) (op:BinOp) (t:TypeId) (x y:Operand) (a b:ByteArray) :
    (eqGuard op t x y (.string a) (.string b)).run P w = .ok () w:=by
 unfold eqGuard
 by_cases h:(!(op matches .eql | .neq)) = true <;> simp [h]
theorem strB_run {op:BinOp} {x y:ByteArray} {v:Value} (h:strB op x y = some v) (P:Program) (w:World) (xt:TypeId) :
    (binOp op xt (.string x) (.string y)).run P w = .ok v w:=by
 cases op <;> simp [strB] at h <;> subst h <;> simp [binOp,Op.stringOp]
theorem pureOp_run {N:Nat} {L:List (Nat × Value)} {a:Act} (hK:K N L a) {o:Oper} {v:Value} (h:pureOp L o.op = some v) (P:Program) (w:World) :
    (execOp a.eval o).run P w = .ok (.value v) w:=by
 unfold execOp
 cases ho:o.op with
 | move x=>rw [ho] at h; simp [hK.ev (x:=x) h]
 | assign x=>rw [ho] at h; simp [hK.ev (x:=x) h]
 | pick c x y =>
  rw [ho] at h
  simp only [pureOp] at h
  cases hc:ev L c with
  | none=>simp [hc] at h
  | some u =>
   cases u <;> simp only [hc,reduceCtorEq] at h
   rename_i b
   cases b <;> simp only at h
   · simp [hK.ev hc,hK.ev h,asBool]
   · simp [hK.ev hc,hK.ev h,asBool]
 | binOp op t x y t' =>
  rw [ho] at h
  simp only [pureOp] at h
  cases hx:ev L x with
  | none=>simp [hx] at h
  | some u =>
   cases hy:ev L y with
   | none=>simp [hx,hy] at h;
   | some u' =>
    cases u <;> cases u' <;> simp only [hx,hy,reduceCtorEq] at h
    · rename_i k n k' n'
      cases hs:sameK k k'
      · simp [hs] at h
      · simp only [hs,cond_true] at h
        have:=sameK_eq hs
        subst this
        simp [hK.ev hx,hK.ev hy,eqGuard_int,intB_run h]
    · simp [hK.ev hx,hK.ev hy,eqGuard_str,strB_run h]
 | unOp op t x =>
  rw [ho] at h
  cases op <;> simp only [pureOp,reduceCtorEq] at h
  · cases hx:ev L x with
    | none=>simp [hx] at h
    | some u =>
     cases u <;> simp only [hx,reduceCtorEq,Option.some.injEq] at h
     subst h; simp [hK.ev hx,Op.unary,Op.intArith]
  · cases hx:ev L x with
    | none=>simp [hx] at h
    | some u =>
     cases u <;> simp only [hx,reduceCtorEq,Option.some.injEq] at h
     subst h; simp [hK.ev hx,Op.unary]
 | extract t i =>
  rw [ho] at h
  simp only [pureOp] at h
  cases hx:ev L t with
  | none=>simp [hx] at h
  | some u =>
   cases u <;> simp [hx] at h
   simp [hK.ev hx,Instr.extract,h]
 | makeFunc fn first captured =>
  rw [ho] at h
  simp only [pureOp] at h
  cases h1:evs L first.toList with
  | none=>simp [h1] at h
  | some f =>
   cases h2:evs L captured.toList with
   | none=>simp [h1,h2] at h
   | some c =>
    simp only [h1,h2,Option.some.injEq] at h
    subst h
    have e1:first.map a.eval = f.toArray:=by apply Array.ext'; rw [Array.toList_map,hK.evs h1]
    have e2:captured.map a.eval = c.toArray:=by apply Array.ext'; rw [Array.toList_map,hK.evs h2]
    simp [Instr.makeFunc,e1,e2]
 | call c =>
  rw [ho] at h
  obtain ⟨callee,args,argTypes⟩:=c
  cases callee with
  | value f=>simp [pureOp] at h
  | invoke r m=>simp [pureOp] at h
  | builtin b =>
   cases b <;> simp only [pureOp,reduceCtorEq] at h
   all_goals
    cases h1:evs L args.toList with
    | none=>simp [h1] at h
    | some vs =>
     have e1:args.map a.eval = vs.toArray:=by apply Array.ext'; rw [Array.toList_map,hK.evs h1]
     simp only [h1] at h
     split at h <;> simp only [reduceCtorEq,Option.some.injEq] at h
     all_goals
      rename_i heq
      simp only [Option.some.injEq] at heq
      subst heq; subst h
      simp [resolve,e1,invoke,builtin,Builtin.max_,Builtin.min_,Builtin.max2,Builtin.min2,List.foldlM]
 | _=>rw [ho] at h; simp [pureOp] at h
def gd (L:List (Nat × Value)) (ops:Array Oper):Option (Nat × Bool) → Option Bool
 | none=>some true
 | some (j,b)=>match (ops[j]?).bind (·.dst) with
  | some d=>match lk L d with
   | some (.bool c)=>some (c == b)
   | some (.tuple _)=>some false
   | _=>none
  | none=>none
theorem K.wanted {N:Nat} {L:List (Nat × Value)} {a:Act} (hK:K N L a) {ops:Array Oper} {o:Oper} {b:Bool} (h:gd L ops o.guard = some b) :
    Region.wanted o (yielded ops a.tmps) = b:=by
 unfold Region.wanted
 cases hg:o.guard with
 | none=>simp [gd,hg] at h; simp [h]
 | some p =>
  obtain ⟨j,want⟩:=p
  simp only [gd,hg] at h
  cases hj:(ops[j]?).bind (·.dst) with
  | none=>simp [hj] at h
  | some d =>
   simp only [hj] at h
   cases hl:lk L d with
   | none=>simp [hl] at h
   | some v =>
    have hv:=hK.at_ d v hl
    cases v <;> simp [hl] at h
    · subst h; simp only [yielded,hj,Option.bind_some,hv]
      rename_i c; cases c <;> cases want <;> rfl
    · subst h; simp [yielded,hj,hv]
section
variable {P:Program} {ops:Array Oper} {Q:Exit → Act → World → Prop} {rest:List Oper} {o:Oper} {a:Act} {w:World} {N:Nat} {L:List (Nat × Value)}
theorem run_op (hK:K N L a) (hg:gd L ops o.guard = some true) {r:Result Next} (hr:(execOp a.eval o).run P w = r)
    (h:∀ K':Act → World → Prop,(∀ a w,wpList P ops Q rest a w → K' a w) → o.upon P a K' Q r):wpList P ops Q (o :: rest) a w :=
 wpList_step fun K' hK'=>by rw [if_pos (hK.wanted hg)]; unfold Oper.wp; rw [hr]; exact h K' hK'
theorem s1 (hK:K N L a) {d:Nat} {v:Value} (hg:gd L ops o.guard = some true) (hd:o.dst = some d) (hN:Nat.blt d N = true) (hp:pureOp L o.op = some v)
    (h:∀ a,K N ((d,v) :: L) a → wpList P ops Q rest a w):wpList P ops Q (o :: rest) a w :=
 run_op hK hg (pureOp_run hK hp P w) fun K' hK'=>by
  rw [Oper.upon_value]; rw [hd]; exact hK' _ _ (h _ (hK.put d hN v))
theorem sk (hK:K N L a) {d:Nat} (hg:gd L ops o.guard = some false) (hd:o.dst = some d) (hN:Nat.blt d N = true)
    (h:∀ a,K N ((d,undef) :: L) a → wpList P ops Q rest a w):wpList P ops Q (o :: rest) a w :=
 wpList_skip (hK.wanted hg) (by rw [hd]; exact h _ (hK.put d hN undef))
theorem K.re (hK:K N L a) {d:Nat} {v v':Value} (hl:lk L d = some v) (e:v = v'):K N ((d,v') :: L) a :=
 ⟨hK.size,hK.defers,fun t u h=>by
  simp only [lk] at h
  by_cases e':d = t
  · subst e'
    rw [show Nat.beq d d = true from Nat.beq_refl d] at h
    simp only [cond_true,Option.some.injEq] at h
    rw [← h,← e]; exact hK.at_ _ _ hl
  · have:Nat.beq d t = false:=by
      cases hb:Nat.beq d t
      · rfl
      · exact absurd (Nat.eq_of_beq_eq_true hb) e'
    rw [this] at h
    exact hK.at_ _ _ h⟩
variable {c x y:Code}
theorem c_cond (hK:K N L a) {r:Operand} {b:Bool} (hc:ev L r = some (.bool b)) (ht:b = true → x.wp P Q a w) (hf:b = false → y.wp P Q a w) :
    (Code.cond r x y).wp P Q a w:=wp_cond_split (hK.ev hc) ht hf
theorem c_cut (R:Act → World → Prop) (hy:∀ a w,R a w → y.wp P Q a w) (hx:x.wp P (Exit.then R Q) a w):(Code.seq x y).wp P Q a w:=by
 refine wp_seq (wp_mono hx fun e a w h=>?_)
 cases e <;> first | exact hy _ _ h | exact h
theorem c_loop (I:Nat → Act → World → Prop) (h0:∀ a w,¬ I 0 a w)
    (round:∀ n a w,I (n + 1) a w → c.wp P (Exit.then (fun a' w'=>I n a' w') Q) a w):∀ n a w,I n a w → (Code.loop c).wp P Q a w:=by
 intro n a w hI b k cs
 have key:∀ n a w,I n a w →
     ∃ e a' w',Q e a' w' ∧ Arrives P (lone (b.at a (.code c :: .inLoop c :: k)) cs w) b k cs e a' w':=by
  intro n
  induction n with
  | zero=>intro a w h; exact (h0 a w h).elim
  | succ n ih =>
   intro a w hI
   obtain ⟨e,a₁,w₁,hq,harr⟩:=round n a w hI b (.inLoop c :: k) cs
   cases e with
   | normal =>
    obtain ⟨e₂,a₂,w₂,hq₂,harr₂⟩:=ih a₁ w₁ hq
    exact ⟨e₂,a₂,w₂,hq₂,.of_steps (Steps.trans harr (.one step_inLoop)) harr₂⟩
   | exit id=>exact ⟨_,a₁,w₁,hq,.pass (x:=.inLoop c) rfl (fun _ _=>.inl (by simp)) harr⟩
   | goto l=>exact ⟨_,a₁,w₁,hq,.pass (x:=.inLoop c) rfl (fun _ _=>.inl (by simp)) harr⟩
   | ret=>exact ⟨_,a₁,w₁,hq,.pass (x:=.inLoop c) rfl (fun _ _=>.inl (by simp)) harr⟩
   | panic ch=>exact ⟨_,a₁,w₁,hq,.pass (x:=.inLoop c) rfl (fun _ _=>.inl (by simp)) harr⟩
   | outgrown=>exact ⟨_,a₁,w₁,hq,.pass (x:=.inLoop c) rfl (fun _ _=>.inl (by simp)) harr⟩
 obtain ⟨e,a',w',hq,harr⟩:=key n a w hI
 exact ⟨e,a',w',hq,.of_steps (.one step_loop) harr⟩
end
def argL:Nat → List Value → List (Nat × Value)
 | _,[]=>[]
 | i,v :: vs=>(i,v) :: argL (i + 1) vs
theorem argL_lk:∀ (vs:List Value) (i t:Nat) (v:Value),lk (argL i vs) t = some v → i ≤ t ∧ vs[t - i]? = some v
 | [],i,t,v,h=>by simp [argL,lk] at h
 | u :: vs,i,t,v,h=>by
  simp only [argL,lk] at h
  by_cases e:i = t
  · subst e
    rw [show Nat.beq i i = true from Nat.beq_refl i] at h
    simp only [cond_true,Option.some.injEq] at h
    subst h; simp
  · have:Nat.beq i t = false:=by
      cases hb:Nat.beq i t
      · rfl
      · exact absurd (Nat.eq_of_beq_eq_true hb) e
    rw [this] at h
    obtain ⟨h1,h2⟩:=argL_lk vs (i + 1) t v h
    refine ⟨by omega,?_⟩
    have:t - i = (t - (i + 1)) + 1:=by omega
    rw [this]; simpa using h2
theorem enter {P:Program} {f:FuncId} {fn:Func} {c:Code} {w:World} {R:Ending → World → Prop} {N:Nat} {vs:List Value}
    (hf:P.funcs[f]? = some fn) (hb:fn.body = some c) (hn:fn.ntmps = N) (hle:Nat.ble vs.length N = true)
    (h:∀ a,K N (argL 0 vs) a → c.wp P (bodyPost P fn R) a w):Calls P f vs.toArray w R:=by
 refine calls_of_wp hf hb (h _ ⟨?_,rfl,fun t v hl=>?_⟩)
 · have:=Nat.le_of_ble_eq_true hle
   simp [hn]; omega
 · obtain ⟨_,h2⟩:=argL_lk vs 0 t v hl
   have hlt:t < vs.length:=by
    have:=(List.getElem?_eq_some_iff.1 h2).1
    omega
   simp only [Nat.sub_zero] at h2
   rw [List.getElem?_eq_getElem hlt] at h2
   simpa [Array.getElem?_append,hlt] using h2
section
variable {P:Program} {fn:Func} {R:Ending → World → Prop} {a:Act} {w:World} {N:Nat} {L:List (Nat × Value)}
end
end Go.Proofs.YtcboeijpplllfaaGreat
