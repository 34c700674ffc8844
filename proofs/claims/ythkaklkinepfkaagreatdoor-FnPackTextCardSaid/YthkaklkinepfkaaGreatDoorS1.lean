/- own lemmas -/
import Derived.WalkKit
set_option linter.unusedSimpArgs false
set_option linter.unusedVariables false
namespace Go.Proofs.YthkaklkinepfkaaGreatDoor
open Go
def lk:List (Nat×Value)→Nat→Option Value
 | [],_=>none
 | (k,v)::r,t=>bif Nat.beq k t then some v else lk r t
structure K (N:Nat) (L:List (Nat×Value)) (a:Act):Prop where
 size:a.tmps.size=N
 defers:a.defers=[]
 at_:∀ t v,lk L t=some v→a.tmps[t]? = some v
theorem K.put {N:Nat} {L:List (Nat×Value)} {a:Act} (h:K N L a) (d:Nat) (hd:Nat.blt d N=true) (v:Value) :
    K N ((d,v)::L) (a.put (some d) v):=by
 have hd':d<a.tmps.size:=by rw [h.size]; simpa using hd
 refine ⟨by simp [Act.put,h.size],by simp [Act.put,h.defers],λt u hl=>?_⟩
 simp only [lk] at hl
 by_cases e:d=t
 · subst e
   rw [show Nat.beq d d=true from Nat.beq_refl d] at hl
   simp only [cond_true,Option.some.injEq] at hl
   subst hl
   simp [Act.put,hd']
 · have:Nat.beq d t=false:=by
     cases hb:Nat.beq d t
     · rfl
     · exact absurd (Nat.eq_of_beq_eq_true hb) e
   rw [this] at hl
   simp only [cond_false] at hl
   simp only [Act.put,Array.getElem?_setIfInBounds,if_neg e]
   exact h.at_ t u hl
def Q5e (L:List (Nat×Value)):List Nat→Option (List (Nat×Value))
 | []=>some []
 | t::ts=>match lk L t,Q5e L ts with
  | some v,some r=>some ((t,v)::r)
  | _,_=>none
theorem Q7c {L:List (Nat×Value)}:∀ {ts:List Nat} {L':List (Nat×Value)},Q5e L ts=some L'→∀ t v,lk L' t=some v→lk L t=some v
 | [],L',h,t,v,hl=>by simp [Q5e] at h; subst h; simp [lk] at hl
 | s::ts,L',h,t,v,hl=>by
  simp only [Q5e] at h
  cases h1:lk L s with
  | none=>simp [h1] at h
  | some u =>
   cases h2:Q5e L ts with
   | none=>simp [h1,h2] at h
   | some r =>
    simp only [h1,h2,Option.some.injEq] at h
    subst h
    simp only [lk] at hl
    by_cases e:s=t
    · subst e
      rw [show Nat.beq s s=true from Nat.beq_refl s] at hl
      simp only [cond_true,Option.some.injEq] at hl
      subst hl; exact h1
    · have:Nat.beq s t=false:=by
        cases hb:Nat.beq s t
        · rfl
        · exact absurd (Nat.eq_of_beq_eq_true hb) e
      rw [this] at hl
      exact Q7c h2 t v hl
theorem K.keep {N:Nat} {L L':List (Nat×Value)} {a:Act} (h:K N L a) (ts:List Nat) (hk:Q5e L ts=some L'):K N L' a :=
 ⟨h.size,h.defers,λt v hl=>h.at_ t v (Q7c hk t v hl)⟩
def ev (L:List (Nat×Value)):Operand→Option Value
 | .tmp t=>lk L t
 | .const v=>some v
 | .func f=>some (.func (.func f) #[] #[])
 | .global g=>some (.pointer (some ⟨g,0,none⟩))
theorem K.ev {N:Nat} {L:List (Nat×Value)} {a:Act} (h:K N L a) {x:Operand} {v:Value} (hv:ev L x=some v):a.eval x=v:=by
 cases x with
 | tmp t =>
  have:=h.at_ t v hv
  simp [Act.eval,Array.getD_eq_getD_getElem?,this]
 | const u=>simpa [Proofs.YthkaklkinepfkaaGreatDoor.ev,Act.eval] using hv
 | global g=>simpa [Proofs.YthkaklkinepfkaaGreatDoor.ev,Act.eval] using hv
 | func f=>simpa [Proofs.YthkaklkinepfkaaGreatDoor.ev,Act.eval] using hv
def evs (L:List (Nat×Value)):List Operand→Option (List Value)
 | []=>some []
 | x::xs=>match ev L x,evs L xs with
  | some v,some r=>some (v::r)
  | _,_=>none
theorem K.evs {N:Nat} {L:List (Nat×Value)} {a:Act} (h:K N L a):∀ {xs:List Operand} {vs:List Value},evs L xs=some vs→xs.map a.eval=vs
 | [],vs,hv=>by simp [Proofs.YthkaklkinepfkaaGreatDoor.evs] at hv; subst hv; rfl
 | x::xs,vs,hv=>by
  simp only [Proofs.YthkaklkinepfkaaGreatDoor.evs] at hv
  cases h1:Proofs.YthkaklkinepfkaaGreatDoor.ev L x with
  | none=>simp [h1] at hv
  | some u =>
   cases h2:Proofs.YthkaklkinepfkaaGreatDoor.evs L xs with
   | none=>simp [h1,h2] at hv
   | some r =>
    simp only [h1,h2,Option.some.injEq] at hv
    subst hv
    simp [h.ev h1,K.evs h h2]
@[reducible] def w64 (x:Int):Int:=IntKind.i64.wrap x
@[reducible] def w8 (x:Int):Int:=IntKind.u8.wrap x
def Jml (op:BinOp) (k:IntKind) (x y:Int):Option Value :=
 match op with
 | .add=>some (.int k (k.wrap (x+y)))
 | .sub=>some (.int k (k.wrap (x - y)))
 | .mul=>some (.int k (k.wrap (x*y)))
 | .eql=>some (.bool (x==y))
 | .neq=>some (.bool (x != y))
 | .lss=>some (.bool (decide (x<y)))
 | .leq=>some (.bool (decide (x≤y)))
 | .gtr=>some (.bool (decide (x>y)))
 | .geq=>some (.bool (decide (x≥y)))
 | .and=>some (.int k (k.wrap (BitVec.ofInt k.bits x &&& BitVec.ofInt k.bits y).toNat))
 | .or=>some (.int k (k.wrap (BitVec.ofInt k.bits x ||| BitVec.ofInt k.bits y).toNat))
 | .xor=>some (.int k (k.wrap (BitVec.ofInt k.bits x ^^^ BitVec.ofInt k.bits y).toNat))
 | .quo=>match y with | .ofNat (n+1)=>some (.int k (k.wrap (x.tdiv (.ofNat (n+1))))) | _=>none
 | .rem=>match y with | .ofNat (n+1)=>some (.int k (x.tmod (.ofNat (n+1)))) | _=>none
 | _=>none
def Jmf (op:BinOp) (x y:ByteArray):Option Value :=
 match op with
 | .eql=>some (.bool (x.toList==y.toList))
 | .neq=>some (.bool (!(x.toList==y.toList)))
 | _=>none
def Jdh:IntKind→IntKind→Bool
 | .i64,.i64=>true
 | .u8,.u8=>true
 | .i32,.i32=>true
 | .u64,.u64=>true
 | _,_=>false
theorem Jcp {a b:IntKind} (h:Jdh a b=true):a=b:=by cases a <;> cases b <;> simp_all [Jdh]
def Qnq (L:List (Nat×Value)):Op→Option Value
 | .move x=>ev L x
 | .assign x=>ev L x
 | .pick c x y=>match ev L c with
  | some (.bool true)=>ev L x
  | some (.bool false)=>ev L y
  | _=>none
 | .binOp op _ x y _=>match ev L x,ev L y with
  | some (.int k a),some (.int k' b)=>bif Jdh k k' then Jml op k a b else none
  | some (.string a),some (.string b)=>Jmf op a b
  | _,_=>none
 | .unOp .not _ x=>match ev L x with
  | some (.bool b)=>some (.bool (!b))
  | _=>none
 | .unOp .neg _ x=>match ev L x with
  | some (.int k n)=>some (.int k (k.wrap (0 - n)))
  | _=>none
 | .extract t i=>match ev L t with
  | some (.tuple vs)=>vs[i]?
  | _=>none
 | .makeFunc fn first captured=>match evs L first.toList,evs L captured.toList with
  | some f,some c=>some (.func fn f.toArray c.toArray)
  | _,_=>none
 | .call { callee:=.builtin .max,args:=args,argTypes:=_ }=>match evs L args.toList with
  | some [.int k x,.int _ y]=>some (.int k (if y>x then y else x))
  | some [.int k x,.int _ y,.int _ z]=>some (.int k (if z>(if y>x then y else x) then z else (if y>x then y else x)))
  | _=>none
 | .call { callee:=.builtin .min,args:=args,argTypes:=_ }=>match evs L args.toList with
  | some [.int k x,.int _ y]=>some (.int k (if y<x then y else x))
  | _=>none
 | _=>none
theorem Jc5 {op:BinOp} {k:IntKind} {x y:Int} {v:Value} (h:Jml op k x y=some v) (P:Program) (w:World) (xt:TypeId) :
    (binOp op xt (.int k x) (.int k y)).run P w=.ok v w:=by
 cases op <;> simp only [Jml,Option.some.injEq,reduceCtorEq] at h <;> try subst h
 all_goals first
  | (simp [binOp,Op.intArith]; done)
  | (simp [binOp,Op.intCmp]; done)
  | (simp [binOp,Op.intBits]; done)
  | skip
 · cases y with
   | ofNat n =>
    cases n with
    | zero=>simp at h
    | succ n =>
     simp only [Option.some.injEq] at h; subst h
     have:¬ (Int.ofNat (n+1)=0):=by simp; omega
     simp [binOp,Op.intDiv,-Int.ofNat_eq_natCast,this]
   | negSucc n=>simp at h
 · cases y with
   | ofNat n =>
    cases n with
    | zero=>simp at h
    | succ n =>
     simp only [Option.some.injEq] at h; subst h
     have:¬ (Int.ofNat (n+1)=0):=by simp; omega
     simp [binOp,Op.intDiv,-Int.ofNat_eq_natCast,this]
   | negSucc n=>simp at h
theorem Qzx (P:Program) (w:World) (op:BinOp) (t:TypeId) (x y:Operand) (k k':IntKind) (a b:Int) :
    (eqGuard op t x y (.int k a) (.int k' b)).run P w=.ok () w:=by
 unfold eqGuard
 by_cases h:(!(op matches .eql | .neq))=true <;> simp [h]
theorem Qzg (P:Program) (w:World) (op:BinOp) (t:TypeId) (x y:Operand) (a b:ByteArray) :
    (eqGuard op t x y (.string a) (.string b)).run P w=.ok () w:=by
 unfold eqGuard
 by_cases h:(!(op matches .eql | .neq))=true <;> simp [h]
theorem Jdm {op:BinOp} {x y:ByteArray} {v:Value} (h:Jmf op x y=some v) (P:Program) (w:World) (xt:TypeId) :
    (binOp op xt (.string x) (.string y)).run P w=.ok v w:=by
 cases op <;> simp [Jmf] at h <;> subst h <;> simp [binOp,Op.stringOp]
theorem Qw6 {N:Nat} {L:List (Nat×Value)} {a:Act} (hK:K N L a) {o:Oper} {v:Value} (h:Qnq L o.op=some v) (P:Program) (w:World) :
    (execOp a.eval o).run P w=.ok (.value v) w:=by
 unfold execOp
 cases ho:o.op with
 | move x=>rw [ho] at h; simp [hK.ev (x:=x) h]
 | assign x=>rw [ho] at h; simp [hK.ev (x:=x) h]
 | pick c x y =>
  rw [ho] at h
  simp only [Qnq] at h
  cases hc:ev L c with
  | none=>simp [hc] at h
  | some u =>
   cases u <;> simp only [hc,reduceCtorEq] at h
   rename_i b
   cases b <;> simp only at h
   · simp [hK.ev hc,hK.ev h,asBool]
   · simp [hK.ev hc,hK.ev h,asBool]
 | binOp op t x y t' =>
  rw [ho] at h
  simp only [Qnq] at h
  cases hx:ev L x with
  | none=>simp [hx] at h
  | some u =>
   cases hy:ev L y with
   | none=>simp [hx,hy] at h;
   | some u' =>
    cases u <;> cases u' <;> simp only [hx,hy,reduceCtorEq] at h
    · rename_i k n k' n'
      cases hs:Jdh k k'
      · simp [hs] at h
      · simp only [hs,cond_true] at h
        have:=Jcp hs
        subst this
        simp [hK.ev hx,hK.ev hy,Qzx,Jc5 h]
    · simp [hK.ev hx,hK.ev hy,Qzg,Jdm h]
 | unOp op t x =>
  rw [ho] at h
  cases op <;> simp only [Qnq,reduceCtorEq] at h
  · cases hx:ev L x with
    | none=>simp [hx] at h
    | some u =>
     cases u <;> simp only [hx,reduceCtorEq,Option.some.injEq] at h
     subst h; simp [hK.ev hx,Op.unary,Op.intArith]
  · cases hx:ev L x with
    | none=>simp [hx] at h
    | some u =>
     cases u <;> simp only [hx,reduceCtorEq,Option.some.injEq] at h
     subst h; simp [hK.ev hx,Op.unary]
 | extract t i =>
  rw [ho] at h
  simp only [Qnq] at h
  cases hx:ev L t with
  | none=>simp [hx] at h
  | some u =>
   cases u <;> simp [hx] at h
   simp [hK.ev hx,Instr.extract,h]
 | makeFunc fn first captured =>
  rw [ho] at h
  simp only [Qnq] at h
  cases h1:evs L first.toList with
  | none=>simp [h1] at h
  | some f =>
   cases h2:evs L captured.toList with
   | none=>simp [h1,h2] at h
   | some c =>
    simp only [h1,h2,Option.some.injEq] at h
    subst h
    have e1:first.map a.eval=f.toArray:=by apply Array.ext'; rw [Array.toList_map,hK.evs h1]
    have e2:captured.map a.eval=c.toArray:=by apply Array.ext'; rw [Array.toList_map,hK.evs h2]
    simp [Instr.makeFunc,e1,e2]
 | call c =>
  rw [ho] at h
  obtain ⟨callee,args,argTypes⟩:=c
  cases callee with
  | value f=>simp [Qnq] at h
  | invoke r m=>simp [Qnq] at h
  | builtin b =>
   cases b <;> simp only [Qnq,reduceCtorEq] at h
   all_goals
    cases h1:evs L args.toList with
    | none=>simp [h1] at h
    | some vs =>
     have e1:args.map a.eval=vs.toArray:=by apply Array.ext'; rw [Array.toList_map,hK.evs h1]
     simp only [h1] at h
     split at h <;> simp only [reduceCtorEq,Option.some.injEq] at h
     all_goals
      rename_i heq
      simp only [Option.some.injEq] at heq
      subst heq; subst h
      simp [resolve,e1,invoke,builtin,Builtin.max_,Builtin.min_,Builtin.max2,Builtin.min2,List.foldlM]
 | _=>rw [ho] at h; simp [Qnq] at h
def gd (L:List (Nat×Value)) (ops:Array Oper):Option (Nat×Bool)→Option Bool
 | none=>some true
 | some (j,b)=>match (ops[j]?).bind (·.dst) with
  | some d=>match lk L d with
   | some (.bool c)=>some (c==b)
   | some (.tuple _)=>some false
   | _=>none
  | none=>none
theorem K.wanted {N:Nat} {L:List (Nat×Value)} {a:Act} (hK:K N L a) {ops:Array Oper} {o:Oper} {b:Bool} (h:gd L ops o.guard=some b) :
    Region.wanted o (yielded ops a.tmps)=b:=by
 unfold Region.wanted
 cases hg:o.guard with
 | none=>simp [gd,hg] at h; simp [h]
 | some p =>
  obtain ⟨j,want⟩:=p
  simp only [gd,hg] at h
  cases hj:(ops[j]?).bind (·.dst) with
  | none=>simp [hj] at h
  | some d =>
   simp only [hj] at h
   cases hl:lk L d with
   | none=>simp [hl] at h
   | some v =>
    have hv:=hK.at_ d v hl
    cases v <;> simp [hl] at h
    · subst h; simp only [yielded,hj,Option.bind_some,hv]
      rename_i c; cases c <;> cases want <;> rfl
    · subst h; simp [yielded,hj,hv]
section
variable {P:Program} {ops:Array Oper} {Q:Exit→Act→World→Prop} {rest:List Oper} {o:Oper} {a:Act} {w:World} {N:Nat} {L:List (Nat×Value)}
theorem Q1s (hK:K N L a) (hg:gd L ops o.guard=some true) {r:Result Next} (hr:(execOp a.eval o).run P w=r)
    (h:∀ K':Act→World→Prop,(∀ a w,wpList P ops Q rest a w→K' a w)→o.upon P a K' Q r):wpList P ops Q (o::rest) a w :=
 wpList_step λK' hK'=>by rw [if_pos (hK.wanted hg)]; unfold Oper.wp; rw [hr]; exact h K' hK'
theorem s1 (hK:K N L a) {d:Nat} {v:Value} (hg:gd L ops o.guard=some true) (hd:o.dst=some d) (hN:Nat.blt d N=true) (hp:Qnq L o.op=some v)
    (h:∀ a,K N ((d,v)::L) a→wpList P ops Q rest a w):wpList P ops Q (o::rest) a w :=
 Q1s hK hg (Qw6 hK hp P w) λK' hK'=>by
  rw [Oper.upon_value]; rw [hd]; exact hK' _ _ (h _ (hK.put d hN v))
theorem sk (hK:K N L a) {d:Nat} (hg:gd L ops o.guard=some false) (hd:o.dst=some d) (hN:Nat.blt d N=true)
    (h:∀ a,K N ((d,undef)::L) a→wpList P ops Q rest a w):wpList P ops Q (o::rest) a w :=
 wpList_skip (hK.wanted hg) (by rw [hd]; exact h _ (hK.put d hN undef))
theorem K.re (hK:K N L a) {d:Nat} {v v':Value} (hl:lk L d=some v) (e:v=v'):K N ((d,v')::L) a :=
 ⟨hK.size,hK.defers,λt u h=>by
  simp only [lk] at h
  by_cases e':d=t
  · subst e'
    rw [show Nat.beq d d=true from Nat.beq_refl d] at h
    simp only [cond_true,Option.some.injEq] at h
    rw [← h,← e]; exact hK.at_ _ _ hl
  · have:Nat.beq d t=false:=by
      cases hb:Nat.beq d t
      · rfl
      · exact absurd (Nat.eq_of_beq_eq_true hb) e'
    rw [this] at h
    exact hK.at_ _ _ h⟩
variable {c x y:Code}
theorem Jec (hK:K N L a) {r:Operand} {b:Bool} (hc:ev L r=some (.bool b)) (ht:b=true→x.wp P Q a w) (hf:b=false→y.wp P Q a w) :
    (Code.cond r x y).wp P Q a w:=wp_cond_split (hK.ev hc) ht hf
theorem Jng (R:Act→World→Prop) (hy:∀ a w,R a w→y.wp P Q a w) (hx:x.wp P (Exit.then R Q) a w):(Code.seq x y).wp P Q a w:=by
 refine wp_seq (wp_mono hx λe a w h=>?_)
 cases e <;> first | exact hy _ _ h | exact h
theorem Jin (I:Nat→Act→World→Prop) (h0:∀ a w,¬ I 0 a w)
    (round:∀ n a w,I (n+1) a w→c.wp P (Exit.then (λa' w'=>I n a' w') Q) a w):∀ n a w,I n a w→(Code.loop c).wp P Q a w:=by
 intro n a w hI b k cs
 have key:∀ n a w,I n a w →
     ∃ e a' w',Q e a' w'∧Arrives P (lone (b.at a (.code c::.inLoop c::k)) cs w) b k cs e a' w':=by
  intro n
  induction n with
  | zero=>intro a w h; exact (h0 a w h).elim
  | succ n ih =>
   intro a w hI
   obtain ⟨e,a₁,w₁,hq,harr⟩:=round n a w hI b (.inLoop c::k) cs
   cases e with
   | normal =>
    obtain ⟨e₂,a₂,w₂,hq₂,harr₂⟩:=ih a₁ w₁ hq
    exact ⟨e₂,a₂,w₂,hq₂,.of_steps (Steps.trans harr (.one step_inLoop)) harr₂⟩
   | exit id=>exact ⟨_,a₁,w₁,hq,.pass (x:=.inLoop c) rfl (λ_ _=>.inl (by simp)) harr⟩
   | goto l=>exact ⟨_,a₁,w₁,hq,.pass (x:=.inLoop c) rfl (λ_ _=>.inl (by simp)) harr⟩
   | ret=>exact ⟨_,a₁,w₁,hq,.pass (x:=.inLoop c) rfl (λ_ _=>.inl (by simp)) harr⟩
   | panic ch=>exact ⟨_,a₁,w₁,hq,.pass (x:=.inLoop c) rfl (λ_ _=>.inl (by simp)) harr⟩
   | outgrown=>exact ⟨_,a₁,w₁,hq,.pass (x:=.inLoop c) rfl (λ_ _=>.inl (by simp)) harr⟩
 obtain ⟨e,a',w',hq,harr⟩:=key n a w hI
 exact ⟨e,a',w',hq,.of_steps (.one step_loop) harr⟩
end
def Jgk:Nat→List Value→List (Nat×Value)
 | _,[]=>[]
 | i,v::vs=>(i,v)::Jgk (i+1) vs
theorem Q9a:∀ (vs:List Value) (i t:Nat) (v:Value),lk (Jgk i vs) t=some v→i≤t∧vs[t - i]? = some v
 | [],i,t,v,h=>by simp [Jgk,lk] at h
 | u::vs,i,t,v,h=>by
  simp only [Jgk,lk] at h
  by_cases e:i=t
  · subst e
    rw [show Nat.beq i i=true from Nat.beq_refl i] at h
    simp only [cond_true,Option.some.injEq] at h
    subst h; simp
  · have:Nat.beq i t=false:=by
      cases hb:Nat.beq i t
      · rfl
      · exact absurd (Nat.eq_of_beq_eq_true hb) e
    rw [this] at h
    obtain ⟨h1,h2⟩:=Q9a vs (i+1) t v h
    refine ⟨by omega,?_⟩
    have:t - i=(t - (i+1))+1:=by omega
    rw [this]; simpa using h2
theorem enter {P:Program} {f:FuncId} {fn:Func} {c:Code} {w:World} {R:Ending→World→Prop} {N:Nat} {vs:List Value}
    (hf:P.funcs[f]? = some fn) (hb:fn.body=some c) (hn:fn.ntmps=N) (hle:Nat.ble vs.length N=true)
    (h:∀ a,K N (Jgk 0 vs) a→c.wp P (bodyPost P fn R) a w):Calls P f vs.toArray w R:=by
 refine calls_of_wp hf hb (h _ ⟨?_,rfl,λt v hl=>?_⟩)
 · have:=Nat.le_of_ble_eq_true hle
   simp [hn]; omega
 · obtain ⟨_,h2⟩:=Q9a vs 0 t v hl
   have hlt:t<vs.length:=by
    have:=(List.getElem?_eq_some_iff.1 h2).1
    omega
   simp only [Nat.sub_zero] at h2
   rw [List.getElem?_eq_getElem hlt] at h2
   simpa [Array.getElem?_append,hlt] using h2
section
variable {P:Program} {fn:Func} {R:Ending→World→Prop} {a:Act} {w:World} {N:Nat} {L:List (Nat×Value)}
end
end Go.Proofs.YthkaklkinepfkaaGreatDoor
set_option linter.unusedSimpArgs false
set_option linter.unusedVariables false
namespace Go.Proofs.YthkaklkinepfkaaGreatDoor
open Go Go.RowKit
structure Ext (X:List Nat) (w w':World):Prop where
 os:w'.os=w.os
 tape:w'.tape=w.tape
 output:w'.output=w.output
 size:w.heap.size≤w'.heap.size
 blk:∀ k,k<w.heap.size→k∉X→w'.heap[k]? = w.heap[k]?
theorem Ext.refl (X:List Nat) (w:World):Ext X w w:=⟨rfl,rfl,rfl,Nat.le_refl _,λ_ _ _=>rfl⟩
theorem Ext.trans {X Y:List Nat} {a b c:World} (h:Ext X a b) (k:Ext Y b c) (hY:∀ y∈Y,y∈X∨a.heap.size≤y):Ext X a c :=
 ⟨k.os.trans h.os,k.tape.trans h.tape,k.output.trans h.output,Nat.le_trans h.size k.size,λi hi hx =>
  (k.blk i (Nat.lt_of_lt_of_le hi h.size) (λhy=>by rcases hY i hy with h1 | h1; exact hx h1; omega)).trans (h.blk i hi hx)⟩
theorem Ext.wk {X Y:List Nat} {a b:World} (h:Ext X a b) (hs:∀ x∈X,x∈Y):Ext Y a b :=
 ⟨h.os,h.tape,h.output,h.size,λk hk hx=>h.blk k hk (λh=>hx (hs k h))⟩
theorem Ext.below {w w':World} (h:Ext [] w w'):Below w.heap.size w w':=⟨h.os,h.tape,h.output,h.size,λk hk=>h.blk k hk (by simp)⟩
theorem Ext.alloc (w:World) (o:Obj):Ext [] w (w.alloc o):=⟨rfl,rfl,rfl,by simp,λk hk _=>by show (w.heap.push o)[k]? = w.heap[k]?; rw [Array.getElem?_push,if_neg (Nat.ne_of_lt hk)]⟩
theorem Ext.drew (w:World):Ext [] w w.drew:=⟨rfl,rfl,rfl,Nat.le_refl _,λ_ _ _=>rfl⟩
theorem Ext.grown {w w':World} {row:Option Nat} (h:w.grownBy w' row):Ext row.toList w w' :=
 ⟨h.os,h.tape,h.output,h.size,λk hk hx=>h.block k hk (λe=>hx (by rw [← e]; simp))⟩
def Agr (F:List Nat) (u w:World):Prop:=∀ b∈F,w.heap[b]? = u.heap[b]?
theorem Agr.refl (F:List Nat) (w:World):Agr F w w:=λ_ _=>rfl
theorem Agr.sub {F G:List Nat} {u w:World} (h:Agr F u w) (hs:∀ b∈G,b∈F):Agr G u w:=λb hb=>h b (hs b hb)
theorem Agr.trans {F:List Nat} {u v w:World} (h:Agr F u v) (k:Agr F v w):Agr F u w:=λb hb=>(k b hb).trans (h b hb)
def fps (M:List (List Nat×World)):List Nat:=M.flatMap (·.1)
structure St (X:List Nat) (w0 w:World) (M:List (List Nat×World)):Prop where
 ext:Ext X w0 w
 ok:∀ p∈M,Agr p.1 p.2 w
 lt:∀ b∈fps M,b<w.heap.size
 lo:∀ b∈fps M,b∈X∨w0.heap.size≤b
 nd:(fps M).Nodup
theorem St.start (w:World):St [] w w []:=⟨Ext.refl _ _,by simp,by simp [fps],by simp [fps],by simp [fps]⟩
section
variable {X:List Nat} {w0 w w':World} {M:List (List Nat×World)}
theorem St.a (h:St X w0 w M) (i:Nat) {F:List Nat} {u:World} (hi:M[i]? = some (F,u)):Agr F u w:=h.ok _ (List.mem_of_getElem? hi)
theorem Qhh {F:List Nat} {u:World} {i:Nat} (hi:M[i]? = some (F,u)) {b:Nat} (hb:b∈F):b∈fps M :=
 List.mem_flatMap.2 ⟨(F,u),List.mem_of_getElem? hi,hb⟩
theorem St.ltF (h:St X w0 w M) (i:Nat) {F:List Nat} {u:World} (hi:M[i]? = some (F,u)):∀ b∈F,b<w.heap.size:=λ_ hb=>h.lt _ (Qhh hi hb)
theorem St.a0 (h:St X w0 w M) {F:List Nat} (hlt:∀ b∈F,b<w0.heap.size) (hd:∀ b∈F,b∉X):Agr F w0 w :=
 λb hb=>h.ext.blk b (hlt b hb) (hd b hb)
theorem St.a00 (h:St [] w0 w M) {F:List Nat} (hlt:∀ b∈F,b<w0.heap.size):Agr F w0 w:=h.a0 hlt (by simp)
theorem Qys {M:List (List Nat×World)}:(fps M).Nodup↔(∀ p∈M,p.1.Nodup)∧M.Pairwise (λp q=>∀ b∈p.1,b∉q.1):=by
 unfold fps List.Nodup
 rw [List.pairwise_flatMap]
 refine and_congr Iff.rfl ⟨λh=>h.imp fun {p q} h b hb hb'=>h b hb b hb' rfl,λh=>h.imp fun {p q} h x hx y hy=>?_⟩
 intro e; subst e; exact h x hx hy
theorem Qwg {F:List Nat} {u:World} {i:Nat} (hi:M[i]? = some (F,u)) (hnd:(fps M).Nodup):F.Nodup:=by
 exact (Qys.1 hnd).1 _ (List.mem_of_getElem? hi)
theorem St.ndF (h:St X w0 w M) (i:Nat) {F:List Nat} {u:World} (hi:M[i]? = some (F,u)):F.Nodup:=Qwg hi h.nd
theorem St.size (h:St X w0 w M):w0.heap.size≤w.heap.size:=h.ext.size
theorem St.step (h:St X w0 w M) (hE:Ext [] w w'):St X w0 w' M :=
 ⟨h.ext.trans hE (by simp),λp hp=>(h.ok p hp).trans (λb hb=>hE.blk b (h.lt b (List.mem_flatMap.2 ⟨p,hp,hb⟩)) (by simp)),
  λb hb=>Nat.lt_of_lt_of_le (h.lt b hb) hE.size,h.lo,h.nd⟩
theorem St.new (h:St X w0 w M) (hE:Ext [] w w') (F:List Nat) (hF:∀ b∈F,w.heap.size≤b∧b<w'.heap.size) (hnd:F.Nodup):St X w0 w' ((F,w')::M):=by
 have h1:=h.step hE
 refine ⟨h1.ext,?_,?_,?_,?_⟩
 · intro p hp
   rcases List.mem_cons.1 hp with rfl | hp
   · exact Agr.refl _ _
   · exact h1.ok p hp
 · intro b hb
   simp only [fps,List.flatMap_cons,List.mem_append] at hb
   rcases hb with hb | hb
   · exact (hF b hb).2
   · exact h1.lt b hb
 · intro b hb
   simp only [fps,List.flatMap_cons,List.mem_append] at hb
   rcases hb with hb | hb
   · exact .inr (Nat.le_trans h.ext.size (hF b hb).1)
   · exact h.lo b hb
 · simp only [fps,List.flatMap_cons]
   refine List.nodup_append.2 ⟨hnd,h.nd,?_⟩
   intro a ha b hb e
   subst e
   have:=h.lt a hb
   have:=(hF a ha).1
   omega
def Jaq (M:List (List Nat×World)):List Nat→Option (List (List Nat×World))
 | []=>some []
 | i::is=>match M[i]?,Jaq M is with
  | some p,some r=>some (p::r)
  | _,_=>none
theorem Qyn:∀ {is:List Nat} {M':List (List Nat×World)},Jaq M is=some M'→∀ p∈M',∃ i∈is,M[i]? = some p
 | [],M',h,p,hp=>by simp [Jaq] at h; subst h; simp at hp
 | i::is,M',h,p,hp=>by
  simp only [Jaq] at h
  cases h1:M[i]? with
  | none=>simp [h1] at h
  | some q =>
   cases h2:Jaq M is with
   | none=>simp [h1,h2] at h
   | some r =>
    simp only [h1,h2,Option.some.injEq] at h
    subst h
    rcases List.mem_cons.1 hp with rfl | hp
    · exact ⟨i,by simp,h1⟩
    · obtain ⟨j,hj,hj'⟩:=Qyn h2 p hp
      exact ⟨j,by simp [hj],hj'⟩
theorem Qwe (hnd:(fps M).Nodup) {i j:Nat} (hij:i≠j) {p q:List Nat×World} (hi:M[i]? = some p) (hj:M[j]? = some q):∀ b∈p.1,b∉q.1:=by
 have hp:=(Qys.1 hnd).2
 intro b hb hb'
 have key:∀ i j:Nat,∀ p q:List Nat×World,i<j→M[i]? = some p→M[j]? = some q→b∈p.1→b∈q.1→False:=by
  intro i j p q hlt hi hj hb hb'
  obtain ⟨hi1,hi2⟩:=List.getElem?_eq_some_iff.1 hi
  obtain ⟨hj1,hj2⟩:=List.getElem?_eq_some_iff.1 hj
  have:=List.pairwise_iff_getElem.1 hp i j hi1 hj1 hlt
  rw [hi2,hj2] at this
  exact this b hb hb'
 rcases Nat.lt_or_gt_of_ne hij with h | h
 · exact key i j p q h hi hj hb hb'
 · exact key j i q p h hj hi hb' hb
theorem Q1n (hnd:(fps M).Nodup):∀ {is:List Nat} {M':List (List Nat×World)},Jaq M is=some M'→is.Nodup→(fps M').Nodup
 | [],M',h,_=>by simp [Jaq] at h; subst h; simp [fps]
 | i::is,M',h,hn=>by
  simp only [Jaq] at h
  cases h1:M[i]? with
  | none=>simp [h1] at h
  | some q =>
   cases h2:Jaq M is with
   | none=>simp [h1,h2] at h
   | some r =>
    simp only [h1,h2,Option.some.injEq] at h
    subst h
    have hn':=List.nodup_cons.1 hn
    simp only [fps,List.flatMap_cons]
    refine List.nodup_append.2 ⟨Qwg (F:=q.1) (u:=q.2) h1 hnd,Q1n hnd h2 hn'.2,?_⟩
    intro a ha b hb e
    subst e
    obtain ⟨p,hp,hb⟩:=List.mem_flatMap.1 hb
    obtain ⟨j,hj,hj'⟩:=Qyn h2 p hp
    exact Qwe hnd (i:=i) (j:=j) (λe=>hn'.1 (e ▸ hj)) h1 hj' a ha hb
theorem St.sel (h:St X w0 w M) (is:List Nat) {M':List (List Nat×World)} (hs:Jaq M is=some M') (hn:is.Nodup):St X w0 w M':=by
 have hmem:∀ b∈fps M',b∈fps M:=λb hb=>by
  obtain ⟨p,hp,hb⟩:=List.mem_flatMap.1 hb
  obtain ⟨i,_,hi⟩:=Qyn hs p hp
  exact Qhh (F:=p.1) (u:=p.2) hi hb
 exact ⟨h.ext,λp hp=>by obtain ⟨i,_,hi⟩:=Qyn hs p hp; exact h.ok p (List.mem_of_getElem? hi),λb hb=>h.lt b (hmem b hb),λb hb=>h.lo b (hmem b hb),Q1n h.nd hs hn⟩
theorem Qzp {i:Nat} {F F':List Nat} {u u':World} (hi:M[i]? = some (F,u)) {b:Nat} (hb:b∈fps (M.set i (F',u'))):b∈F'∨∃ j,j≠i∧∃ p,M[j]? = some p∧b∈p.1:=by
 obtain ⟨p,hp,hb⟩:=List.mem_flatMap.1 hb
 obtain ⟨j,hj⟩:=List.mem_iff_getElem?.1 hp
 rw [List.getElem?_set] at hj
 by_cases e:i=j
 · subst e
   have hlt:=(List.getElem?_eq_some_iff.1 hi).1
   simp [hlt] at hj
   subst hj
   exact .inl hb
 · rw [if_neg e] at hj
   exact .inr ⟨j,λh=>e h.symm,p,hj,hb⟩
theorem Q3q {i:Nat} {F F':List Nat} {u u':World} (hi:M[i]? = some (F,u)) (hnd:(fps M).Nodup) (hF':F'.Nodup)
    (hd:∀ j,j≠i→∀ p,M[j]? = some p→∀ b∈F',b∉p.1):(fps (M.set i (F',u'))).Nodup:=by
 rw [Qys] at *
 constructor
 · intro p hp
   obtain ⟨j,hj⟩:=List.mem_iff_getElem?.1 hp
   rw [List.getElem?_set] at hj
   by_cases e:i=j
   · subst e
     have hlt:=(List.getElem?_eq_some_iff.1 hi).1
     simp [hlt] at hj
     subst hj; exact hF'
   · rw [if_neg e] at hj
     exact hnd.1 p (List.mem_of_getElem? hj)
 · rw [List.pairwise_iff_getElem]
   intro a b ha hb hab
   have ha':a<M.length:=by simpa using ha
   have hb':b<M.length:=by simpa using hb
   have base:=List.pairwise_iff_getElem.1 hnd.2 a b ha' hb' hab
   simp only [List.getElem_set]
   by_cases e1:i=a
   · have e2:¬ i=b:=by omega
     rw [if_pos e1,if_neg e2]
     intro x hx hx'
     exact hd b (by omega) _ (List.getElem?_eq_getElem hb') x hx hx'
   · by_cases e2:i=b
     · rw [if_neg e1,if_pos e2]
       intro x hx hx'
       exact hd a (by omega) _ (List.getElem?_eq_getElem ha') x hx' hx
     · rw [if_neg e1,if_neg e2]
       exact base
theorem St.mut (h:St X w0 w M) (i:Nat) {F:List Nat} {u:World} (hi:M[i]? = some (F,u)) (hE:Ext F w w') (F':List Nat)
    (hF':∀ b∈F',(b∈F∨w.heap.size≤b)∧b<w'.heap.size) (hnd:F'.Nodup):St X w0 w' (M.set i (F',w')):=by
 have hother:∀ j,j≠i→∀ p,M[j]? = some p→∀ b∈p.1,b∉F:=λj hj p hp b hb hb'=>Qwe h.nd hj hp hi b hb hb'
 refine ⟨h.ext.trans hE (λy hy=>h.lo y (Qhh hi hy)),?_,?_,?_,?_⟩
 · intro p hp
   obtain ⟨j,hj⟩:=List.mem_iff_getElem?.1 hp
   rw [List.getElem?_set] at hj
   by_cases e:i=j
   · subst e
     have hlt:=(List.getElem?_eq_some_iff.1 hi).1
     simp [hlt] at hj
     subst hj; exact Agr.refl _ _
   · rw [if_neg e] at hj
     refine (h.ok p (List.mem_of_getElem? hj)).trans λb hb=>hE.blk b (h.lt b (Qhh (F:=p.1) (u:=p.2) hj hb)) (hother j (λh=>e h.symm) p hj b hb)
 · intro b hb
   rcases Qzp hi hb with hb | ⟨j,hj,p,hp,hb⟩
   · exact (hF' b hb).2
   · exact Nat.lt_of_lt_of_le (h.lt b (Qhh (F:=p.1) (u:=p.2) hp hb)) hE.size
 · intro b hb
   rcases Qzp hi hb with hb | ⟨j,hj,p,hp,hb⟩
   · rcases (hF' b hb).1 with h1 | h1
     · exact h.lo b (Qhh hi h1)
     · exact .inr (Nat.le_trans h.ext.size h1)
   · exact h.lo b (Qhh (F:=p.1) (u:=p.2) hp hb)
 · refine Q3q hi h.nd hnd λj hj p hp b hb hb'=>?_
   rcases (hF' b hb).1 with h1 | h1
   · exact hother j hj p hp b hb' h1
   · have:=h.lt b (Qhh (F:=p.1) (u:=p.2) hp hb'); omega
theorem St.split2 {F G:List Nat} {u:World} (h:St X w0 w ((F++G,u)::M)):St X w0 w ((F,u)::(G,u)::M):=by
 have e:fps ((F,u)::(G,u)::M)=fps ((F++G,u)::M):=by simp [fps]
 refine ⟨h.ext,?_,by rw [e]; exact h.lt,by rw [e]; exact h.lo,by rw [e]; exact h.nd⟩
 have h0:=h.ok (F++G,u) (by simp)
 intro p hp
 simp only [List.mem_cons] at hp
 rcases hp with rfl | rfl | hp
 · exact h0.sub (λb hb=>by simp [hb])
 · exact h0.sub (λb hb=>by simp [hb])
 · exact h.ok p (by simp [hp])
theorem St.join2 {F G:List Nat} {u v:World} (h:St X w0 w ((F,u)::(G,v)::M)):St X w0 w ((F++G,w)::M):=by
 have e:fps ((F++G,w)::M)=fps ((F,u)::(G,v)::M):=by simp [fps]
 refine ⟨h.ext,?_,by rw [e]; exact h.lt,by rw [e]; exact h.lo,by rw [e]; exact h.nd⟩
 intro p hp
 simp only [List.mem_cons] at hp
 rcases hp with rfl | hp
 · exact Agr.refl _ _
 · exact h.ok p (by simp [hp])
end
class Enc (α:Type) where
 sz:Nat
 rd:World→List Nat→List Value→α→Prop
 ow:World→List Nat→List Value→α→Prop
 rd_sz:∀ {w F cs x},rd w F cs x→cs.length=sz
 rd_one:∀ {w F cs x},rd w F cs x→∀ c∈cs,c.oneCell'=true
 ow_rd:∀ {w F cs x},ow w F cs x→rd w F cs x
 rd_lt:∀ {w F cs x},rd w F cs x→∀ b∈F,b<w.heap.size
 rd_agr:∀ {u w F cs x},rd u F cs x→Agr F u w→rd w F cs x
 ow_agr:∀ {u w F cs x},ow u F cs x→Agr F u w→ow w F cs x
 ow_nd:∀ {w F cs x},ow w F cs x→F.Nodup
open Enc (rd ow)
class Flat (α:Type) where
 sz:Nat
 e:α→List Value
 len:∀ x,(e x).length=sz
 one:∀ x,∀ c∈e x,c.oneCell'=true
instance {α:Type} [Flat α]:Enc α where
 sz:=Flat.sz α
 rd:=λ_ F cs x=>F=[]∧cs=Flat.e x
 ow:=λ_ F cs x=>F=[]∧cs=Flat.e x
 rd_sz:=λh=>by rw [h.2]; exact Flat.len _
 rd_one:=λh=>by rw [h.2]; exact Flat.one _
 ow_rd:=id
 rd_lt:=λh=>by rw [h.1]; simp
 rd_agr:=λh _=>h
 ow_agr:=λh _=>h
 ow_nd:=λh=>by rw [h.1]; simp
structure U8 where
 n:Int
 deriving DecidableEq
instance:Flat Int:=⟨1,λn=>[.int .i64 n],λ_=>rfl,λ_=>by simp [Value.oneCell']⟩
instance:Flat Bool:=⟨1,λn=>[.bool n],λ_=>rfl,λ_=>by simp [Value.oneCell']⟩
instance:Flat U8:=⟨1,λb=>[.int .u8 b.n],λ_=>rfl,λ_=>by simp [Value.oneCell']⟩
instance:Flat ByteArray:=⟨1,λs=>[.string s],λ_=>rfl,λ_=>by simp [Value.oneCell']⟩
theorem Qgx {w:World} {g:Nat} {o:Obj} (h:w.heap[g]? = some o):g<w.heap.size:=(Array.getElem?_eq_some_iff.1 h).1
theorem Jab {F:List Nat} {u w:World} (h:Agr F u w) (hl:∀ b∈F,b<u.heap.size):∀ b∈F,b<w.heap.size:=λb hb=>by
 have h1:=h b hb
 have h2:=hl b hb
 rw [Array.getElem?_eq_getElem h2] at h1
 exact Qgx h1
def rdL {α:Type} [Enc α] (w:World) (F:List Nat):List Value→List α→Prop
 | _,[]=>True
 | cells,x::xs=>(∃ G,(∀ b∈G,b∈F)∧rd w G (cells.take (Enc.sz α)) x)∧rdL w F (cells.drop (Enc.sz α)) xs
def owL {α:Type} [Enc α] (w:World):List (List Nat)→List Value→List α→Prop
 | [],cells,[]=>cells=[]
 | G::Gs,cells,x::xs=>ow w G (cells.take (Enc.sz α)) x∧owL w Gs (cells.drop (Enc.sz α)) xs
 | _,_,_=>False
theorem Jbm {α:Type} [Enc α] {u w:World} {F:List Nat} (hA:Agr F u w):∀ {cells:List Value} {xs:List α},rdL u F cells xs→rdL w F cells xs
 | _,[],_=>trivial
 | cells,x::xs,⟨⟨G,hG,h⟩,h'⟩=>⟨⟨G,hG,Enc.rd_agr h (hA.sub hG)⟩,Jbm hA h'⟩
theorem Qvr {α:Type} [Enc α] {u w:World}:∀ {Gs:List (List Nat)} {cells:List Value} {xs:List α},Agr Gs.flatten u w→owL u Gs cells xs→owL w Gs cells xs
 | [],_,[],_,h=>h
 | G::Gs,cells,x::xs,hA,⟨h,h'⟩=>⟨Enc.ow_agr h (hA.sub (λb hb=>by simp [hb])),Qvr (hA.sub (λb hb=>by rw [List.flatten_cons]; exact List.mem_append_right _ hb)) h'⟩
 | [],_,_::_,_,h=>h.elim
 | _::_,_,[],_,h=>h.elim
theorem Q5n {α:Type} [Enc α] {w:World} {F:List Nat}:∀ {Gs:List (List Nat)} {cells:List Value} {xs:List α},(∀ b∈Gs.flatten,b∈F)→owL w Gs cells xs→rdL w F cells xs
 | [],_,[],_,_=>trivial
 | G::Gs,cells,x::xs,hF,⟨h,h'⟩=>⟨⟨G,λb hb=>hF b (by simp [hb]),Enc.ow_rd h⟩,Q5n (λb hb=>hF b (by rw [List.flatten_cons]; exact List.mem_append_right _ hb)) h'⟩
 | [],_,_::_,_,h=>h.elim
 | _::_,_,[],_,h=>h.elim
theorem Qw1 {α:Type} [Enc α] {w:World}:∀ {Gs:List (List Nat)} {cells:List Value} {xs:List α},owL w Gs cells xs→Gs.length=xs.length∧cells.length=xs.length*Enc.sz α
 | [],_,[],h=>by simp only [owL] at h; subst h; simp
 | G::Gs,cells,x::xs,⟨h,h'⟩=>by
  obtain ⟨h1,h2⟩:=Qw1 h'
  have h3:=Enc.rd_sz (Enc.ow_rd h)
  simp only [List.length_take,List.length_drop] at h2 h3
  refine ⟨by simp [h1],?_⟩
  simp only [List.length_cons,Nat.add_mul,Nat.one_mul]
  omega
 | [],_,_::_,h=>h.elim
 | _::_,_,[],h=>h.elim
theorem Q46 {α:Type} [Enc α] {w:World}:∀ {Gs:List (List Nat)} {cells:List Value} {xs:List α},owL w Gs cells xs→∀ b∈Gs.flatten,b<w.heap.size
 | [],_,[],_=>by simp
 | G::Gs,cells,x::xs,⟨h,h'⟩=>by
  intro b hb
  rw [List.flatten_cons,List.mem_append] at hb
  rcases hb with hb | hb
  · exact Enc.rd_lt (Enc.ow_rd h) b hb
  · exact Q46 h' b hb
 | [],_,_::_,h=>h.elim
 | _::_,_,[],h=>h.elim
def rdS {α:Type} [Enc α] (w:World) (F:List Nat) (cs:List Value) (xs:List α):Prop :=
 ∃ ao cap,cs=[.slice ao xs.length cap]∧xs.length≤cap∧cap≤maxLen∧(∀ b∈F,b<w.heap.size) ∧
  (xs=[]∨∃ g off c e fr,ao=some ⟨g,off,none⟩∧g∈F∧w.heap[g]? = some (.cells c e fr)∧rdL w F (c.toList.drop off) xs)
def owS {α:Type} [Enc α] (w:World) (F:List Nat) (cs:List Value) (xs:List α):Prop :=
 (cs=[.slice none 0 0]∧xs=[]∧F=[]) ∨
 ∃ g off cap c e Gs,cs=[.slice (some ⟨g,off,none⟩) xs.length cap]∧xs.length≤cap∧cap≤maxLen∧w.heap[g]? = some (.cells c e (0,0)) ∧
  off+cap*Enc.sz α≤c.size∧owL w Gs ((c.toList.drop off).take (xs.length*Enc.sz α)) xs∧F=g::Gs.flatten∧F.Nodup
theorem Q6z {α:Type} [Enc α] {w:World} {F:List Nat}:∀ {xs:List α} {cells:List Value},rdL w F (cells.take (xs.length*Enc.sz α)) xs→rdL w F cells xs
 | [],_,_=>trivial
 | x::xs,cells,⟨⟨G,hG,h⟩,h'⟩=>by
  refine ⟨⟨G,hG,?_⟩,?_⟩
  · rw [List.take_take,show min (Enc.sz α) ((x::xs).length*Enc.sz α)=Enc.sz α by simp [Nat.add_mul]] at h
    exact h
  · refine Q6z ?_
    rw [List.drop_take] at h'
    rw [show (x::xs).length*Enc.sz α - Enc.sz α=xs.length*Enc.sz α by simp [Nat.add_mul]] at h'
    exact h'
theorem Q90 {α:Type} [Enc α] {w:World} {F:List Nat} {cs:List Value} {xs:List α} (h:owS w F cs xs):rdS w F cs xs:=by
 rcases h with ⟨rfl,rfl,rfl⟩ | ⟨g,off,cap,c,e,Gs,rfl,h1,h2,h3,h4,h5,rfl,h6⟩
 · exact ⟨none,0,rfl,by simp,by simp [maxLen],by simp,.inl rfl⟩
 · refine ⟨_,_,rfl,h1,h2,?_,?_⟩
   · intro b hb
     rcases List.mem_cons.1 hb with rfl | hb
     · exact Qgx h3
     · exact Q46 h5 b hb
   · exact .inr ⟨g,off,c,e,_,rfl,by simp,h3,Q6z (Q5n (λb hb=>List.mem_cons_of_mem _ hb) h5)⟩
instance {α:Type} [Enc α]:Enc (List α) where
 sz:=1
 rd:=rdS
 ow:=owS
 rd_sz:=λh=>by obtain ⟨_,_,rfl,_⟩:=h; rfl
 rd_one:=λh=>by obtain ⟨_,_,rfl,_⟩:=h; simp [Value.oneCell']
 ow_rd:=Q90
 rd_lt:=λh=>by obtain ⟨_,_,_,_,_,h,_⟩:=h; exact h
 rd_agr:=λh hA=>by
  obtain ⟨ao,cap,rfl,h1,h2,h3,h4⟩:=h
  refine ⟨ao,cap,rfl,h1,h2,Jab hA h3,?_⟩
  rcases h4 with h4 | ⟨g,off,c,e,fr,rfl,hg,hh,hl⟩
  · exact .inl h4
  · exact .inr ⟨g,off,c,e,fr,rfl,hg,(hA g hg).trans hh,Jbm hA hl⟩
 ow_agr:=λh hA=>by
  rcases h with ⟨rfl,rfl,rfl⟩ | ⟨g,off,cap,c,e,Gs,rfl,h1,h2,h3,h4,h5,rfl,h6⟩
  · exact .inl ⟨rfl,rfl,rfl⟩
  · exact .inr ⟨g,off,cap,c,e,Gs,rfl,h1,h2,(hA g (by simp)).trans h3,h4,Qvr (hA.sub (λb hb=>List.mem_cons_of_mem _ hb)) h5,rfl,h6⟩
 ow_nd:=λh=>by
  rcases h with ⟨rfl,rfl,rfl⟩ | ⟨g,off,cap,c,e,Gs,rfl,h1,h2,h3,h4,h5,rfl,h6⟩
  · simp
  · exact h6
def PtAt (u:World) (p:Addr) (cs:List Value):Prop :=
 ∃ g off c e fr,p=⟨g,off,none⟩∧u.heap[g]? = some (.cells c e fr)∧(c.toList.drop off).take cs.length=cs
theorem PtAt.agr {u w:World} {p:Addr} {cs:List Value} (h:PtAt u p cs) {F:List Nat} (hA:Agr F u w) (hp:p.block∈F):PtAt w p cs:=by
 obtain ⟨g,off,c,e,fr,rfl,hh,hc⟩:=h
 exact ⟨g,off,c,e,fr,rfl,(hA g hp).trans hh,hc⟩
theorem Qgk (g off k:Nat):(⟨g,off,none⟩:Addr).add k=⟨g,off+k,none⟩:=by unfold Addr.add; split <;> simp_all
theorem PtAt.fld {u:World} {p:Addr} {cs:List Value} (h:PtAt u p cs) (k n:Nat) (hk:k+n≤cs.length):PtAt u (p.add k) ((cs.drop k).take n):=by
 obtain ⟨g,off,c,e,fr,rfl,hh,hc⟩:=h
 refine ⟨g,off+k,c,e,fr,Qgk g off k,hh,?_⟩
 have hl:((cs.drop k).take n).length=n:=by simp; omega
 rw [hl]
 conv=>rhs; rw [← hc]
 rw [List.drop_take,List.take_take,List.drop_drop]
 congr 1
 omega
theorem PtAt.cell {u:World} {p:Addr} {cs:List Value} (h:PtAt u p cs):∀ j v,cs[j]? = some v→u.cell? (p.add j)=some v:=by
 intro j v hv
 obtain ⟨g,off,c,e,fr,rfl,hh,hc⟩:=h
 rw [Qgk,cell_of_row u g _ c e fr hh]
 rw [← hc,List.getElem?_take,List.getElem?_drop] at hv
 split at hv
 · simpa using hv
 · simp at hv
def bx (u:World) (b:Nat) (cs:List Value) (e:TypeId):Prop:=u.heap[b]? = some (.cells cs.toArray e (0,0))
theorem bx.pt {u:World} {b:Nat} {cs:List Value} {e:TypeId} (h:bx u b cs e):PtAt u ⟨b,0,none⟩ cs:=⟨b,0,_,e,_,rfl,h,by simp⟩
theorem bx.agr {u w:World} {b:Nat} {cs:List Value} {e:TypeId} (h:bx u b cs e) {F:List Nat} (hA:Agr F u w) (hb:b∈F):bx w b cs e:=(hA b hb).trans h
def Qmz (v:Value) (sz:Nat) (i:Nat):Addr:=match v with
 | .slice (some a) _ _=>a.add (i*sz)
 | _=>default
theorem Q3k {α:Type} [Enc α] {w:World} {F:List Nat}:∀ {xs:List α} {cells:List Value} {i:Nat} {x:α},rdL w F cells xs→xs[i]? = some x →
    ∃ G,(∀ b∈G,b∈F)∧rd w G ((cells.drop (i*Enc.sz α)).take (Enc.sz α)) x
 | [],_,i,x,_,h=>by simp at h
 | y::ys,cells,0,x,⟨⟨G,hG,h⟩,_⟩,hx=>by
  simp only [List.getElem?_cons_zero,Option.some.injEq] at hx
  subst hx
  exact ⟨G,hG,by simpa using h⟩
 | y::ys,cells,i+1,x,⟨_,h'⟩,hx=>by
  obtain ⟨G,hG,h⟩:=Q3k h' (by simpa using hx)
  refine ⟨G,hG,?_⟩
  rw [List.drop_drop] at h
  rw [show (i+1)*Enc.sz α=Enc.sz α+i*Enc.sz α by rw [Nat.add_mul]; omega]
  exact h
theorem Qaz {α:Type} [Enc α] {w:World} {F:List Nat} {v:Value} {xs:List α} {i:Nat} {x:α} (h:rd w F [v] xs) (hx:xs[i]? = some x) :
    ∃ G cells,(∀ b∈G,b∈F)∧rd w G cells x∧PtAt w (Qmz v (Enc.sz α) i) cells∧(Qmz v (Enc.sz α) i).block∈F:=by
 obtain ⟨ao,cap,hv,h1,h2,h3,h4⟩:=h
 simp only [List.cons.injEq,and_true] at hv
 subst hv
 rcases h4 with rfl | ⟨g,off,c,e,fr,rfl,hg,hh,hl⟩
 · simp at hx
 · obtain ⟨G,hG,hr⟩:=Q3k hl hx
   refine ⟨G,_,hG,hr,?_,?_⟩
   · simp only [Qmz,Qgk]
     refine ⟨g,_,c,e,fr,rfl,hh,?_⟩
     have:=Enc.rd_sz hr
     rw [this,List.drop_drop]
   · simpa [Qmz,Qgk] using hg
theorem Q5p {α:Type} [Flat α] {w:World} {F:List Nat} {v:Value} {xs:List α} {i:Nat} {x:α} (h:rd w F [v] xs) (hx:xs[i]? = some x) :
    PtAt w (Qmz v (Flat.sz α) i) (Flat.e x)∧(Qmz v (Flat.sz α) i).block∈F:=by
 obtain ⟨G,cells,_,hr,hp,hb⟩:=Qaz h hx
 have hr':G=[]∧cells=Flat.e x:=hr
 rw [hr'.2] at hp
 exact ⟨hp,hb⟩
theorem Ql0 {α:Type} [Enc α] {w:World} {F:List Nat} {v:Value} {xs:List α} (h:rd w F [v] xs):∃ ao cap,v=.slice ao xs.length cap∧xs.length≤cap∧cap≤maxLen:=by
 obtain ⟨ao,cap,hv,h1,h2,_⟩:=h
 simp only [List.cons.injEq,and_true] at hv
 exact ⟨ao,cap,hv,h1,h2⟩
end Go.Proofs.YthkaklkinepfkaaGreatDoor
set_option linter.unusedSimpArgs false
set_option linter.unusedVariables false
namespace Go.Proofs.YthkaklkinepfkaaGreatDoor
open Go Go.RowKit
open Enc (rd ow)
def ix {α:Type} (xs:List α) (n:Int):Option α:=if 0≤n then xs[n.toNat]? else none
theorem Qah {α:Type} {xs:List α} {n:Int} {x:α} (h:ix xs n=some x):0≤n∧n<xs.length∧xs[n.toNat]? = some x:=by
 unfold ix at h
 split at h
 · rename_i h0
   have:=(List.getElem?_eq_some_iff.1 h).1
   exact ⟨h0,by omega,h⟩
 · simp at h
section
variable {P:Program} {ops:Array Oper} {Q:Exit→Act→World→Prop} {rest:List Oper} {o:Oper} {a:Act} {w:World} {N:Nat} {L:List (Nat×Value)}
variable {X:List Nat} {w0:World} {M:List (List Nat×World)} {d:Nat}
theorem Que (hK:K N L a) {v:Value} {w':World} (hg:gd L ops o.guard=some true) (hd:o.dst=some d) (hN:Nat.blt d N=true)
    (hr:(execOp a.eval o).run P w=.ok (.value v) w') (h:∀ a,K N ((d,v)::L) a→wpList P ops Q rest a w'):wpList P ops Q (o::rest) a w :=
 Q1s hK hg hr λK' hK'=>by rw [Oper.upon_value,hd]; exact hK' _ _ (h _ (hK.put d hN v))
theorem Q9m (hK:K N L a) {w':World} (hg:gd L ops o.guard=some true) (hd:o.dst=none)
    (hr:(execOp a.eval o).run P w=.ok .skip w') (h:∀ a,K N L a→wpList P ops Q rest a w'):wpList P ops Q (o::rest) a w :=
 Q1s hK hg hr λK' hK'=>by rw [Oper.upon_skip,hd]; exact hK' _ _ (h _ hK)
theorem Jds {α:Type} [Enc α] {u:World} {F:List Nat} {v:Value} {xs:List α} (hf:rd u F [v] xs) (hK:K N L a) {t e:TypeId} (hu:P.underlying t=some (.slice e)) {x:Operand}
    (ho:o.op=.call { callee:=.builtin .len,args:=#[x],argTypes:=#[t] }) (hv:ev L x=some v) :
    (execOp a.eval o).run P w=.ok (.value (.int .i64 (xs.length:Int))) w:=by
 obtain ⟨ao,cap,rfl,_⟩:=Ql0 hf
 simp [execOp,ho,resolve,invoke,builtin,Builtin.len_,hK.ev hv,run_underlying hu,goInt]
theorem Q1l {s:ByteArray} (hK:K N L a) {t:TypeId} (hu:P.underlying t=some .string) {x:Operand}
    (ho:o.op=.call { callee:=.builtin .len,args:=#[x],argTypes:=#[t] }) (hv:ev L x=some (.string s)) :
    (execOp a.eval o).run P w=.ok (.value (.int .i64 (s.size:Int))) w:=by
 simp [execOp,ho,resolve,invoke,builtin,Builtin.len_,hK.ev hv,run_underlying hu,goInt]
def sx (s:ByteArray) (n:Int):Option Int:=if 0≤n then (s[n.toNat]?).map λb=>(b.toNat:Int) else none
theorem Q8v {s:ByteArray} {n:Int} {k:IntKind} {b:Int} (hx:sx s n=some b) (hK:K N L a) {t:TypeId} (hu:P.underlying t=some .string) {x i:Operand}
    (ho:o.op=.index t x i) (hv:ev L x=some (.string s)) (hi:ev L i=some (.int k n)) :
    (execOp a.eval o).run P w=.ok (.value (.int .u8 b)) w:=by
 unfold sx at hx
 split at hx
 · rename_i h0
   cases hb:s[n.toNat]? with
   | none=>simp [hb] at hx
   | some c =>
    simp only [hb,Option.map_some,Option.some.injEq] at hx
    subst hx
    simp [execOp,ho,Instr.index,hK.ev hv,hK.ev hi,run_underlying hu,asIntOf,h0,hb]
 · simp at hx
def ssl (s:ByteArray) (lo hi:Int):Option ByteArray:=if 0≤lo∧lo≤hi∧hi≤s.size then some (s.extract lo.toNat hi.toNat) else none
theorem Jgt {s r:ByteArray} {lo up:Int} {k k':IntKind} (hx:ssl s lo up=some r) (hK:K N L a) {t:TypeId} (hu:P.underlying t=some .string) {x i j:Operand}
    (ho:o.op=.slice t x (some i) (some j) none) (hv:ev L x=some (.string s)) (hi:ev L i=some (.int k lo)) (hj:ev L j=some (.int k' up)) :
    (execOp a.eval o).run P w=.ok (.value (.string r)) w:=by
 unfold ssl at hx
 split at hx
 · rename_i h0
   simp only [Option.some.injEq] at hx
   subst hx
   have h3:lo≤max up 0:=by omega
   simp [execOp,ho,Instr.sliceAt,Instr.slice,Instr.sliceBounds,Instr.sliceBound,hK.ev hv,hK.ev hi,hK.ev hj,run_underlying hu,asIntOf,h0.1,h0.2.2,h3,show 0≤up by omega]
 · simp at hx
theorem Jjd {s r:ByteArray} {lo:Int} {k:IntKind} (hx:ssl s lo s.size=some r) (hK:K N L a) {t:TypeId} (hu:P.underlying t=some .string) {x i:Operand}
    (ho:o.op=.slice t x (some i) none none) (hv:ev L x=some (.string s)) (hi:ev L i=some (.int k lo)) :
    (execOp a.eval o).run P w=.ok (.value (.string r)) w:=by
 unfold ssl at hx
 split at hx
 · rename_i h0
   simp only [Option.some.injEq] at hx
   subst hx
   simp [execOp,ho,Instr.sliceAt,Instr.slice,Instr.sliceBounds,Instr.sliceBound,hK.ev hv,hK.ev hi,run_underlying hu,asIntOf,h0.1,h0.2.1]
 · simp at hx
def Qs5 (x y:ByteArray):Option ByteArray:=if x.size+y.size≤140737488355328 then some (x++y) else none
theorem Qsw {x y r:ByteArray} (hx:Qs5 x y=some r) (hK:K N L a) {t t':TypeId} {i j:Operand}
    (ho:o.op=.binOp .add t i j t') (hv:ev L i=some (.string x)) (hi:ev L j=some (.string y)) :
    (execOp a.eval o).run P w=.ok (.value (.string r)) w:=by
 unfold Qs5 at hx
 split at hx
 · rename_i h0
   simp only [Option.some.injEq] at hx
   subst hx
   simp [execOp,ho,hK.ev hv,hK.ev hi,Qzg,binOp,Op.stringOp]
   omega
 · simp at hx
theorem Jgy {k k':IntKind} {n:Int} (hK:K N L a) {s t:TypeId} (hs:P.underlying s=some (.int k)) (ht:P.underlying t=some (.int k')) {x:Operand}
    (ho:o.op=.convert s t x) (hv:ev L x=some (.int k n)) :
    (execOp a.eval o).run P w=.ok (.value (.int k' (k'.wrap n))) w:=by
 simp [execOp,ho,convert,hK.ev hv,run_underlying hs,run_underlying ht,Conv.intToInt]
theorem Jk1 {k:IntKind} {x y:Int} (hy:y≠0) (hK:K N L a) {t t':TypeId} {i j:Operand}
    (ho:o.op=.binOp .rem t i j t') (hv:ev L i=some (.int k x)) (hi:ev L j=some (.int k y)) :
    (execOp a.eval o).run P w=.ok (.value (.int k (x.tmod y))) w:=by
 simp [execOp,ho,hK.ev hv,hK.ev hi,Qzx,binOp,Op.intDiv,hy]
theorem Q5d {k yk:IntKind} {x:Int} {y:Nat} (hK:K N L a) {t t':TypeId} {i j:Operand}
    (ho:o.op=.binOp .shr t i j t') (hv:ev L i=some (.int k x)) (hi:ev L j=some (.int yk (y:Int))) :
    (execOp a.eval o).run P w=.ok (.value (.int k (x.fdiv (2 ^ (min y k.bits))))) w:=by
 have h0:¬ ((y:Int)<0):=by omega
 simp [execOp,ho,hK.ev hv,hK.ev hi,eqGuard,binOp,Op.shift,h0]
theorem Q37 (P:Program) (w:World) (op:BinOp) (t:TypeId) (x y:Operand) (a b:Bool) :
    (eqGuard op t x y (.bool a) (.bool b)).run P w=.ok () w:=by
 unfold eqGuard
 by_cases h:(!(op matches .eql | .neq))=true <;> simp [h]
theorem Q8a {t:TypeId} (hu:P.underlying t=some .bool) (x y:Bool):(Op.equal t (.bool x) (.bool y)).run P w=.ok (x==y) w:=by
 show (Op.equalIn (9999+1) t (.bool x) (.bool y)).run P w=_
 generalize 9999=n
 simp only [Op.equalIn,Sem.run_bind,run_underlying hu w,Result.andThen_ok,Sem.run_pure]
theorem Je9 {x y:Bool} (hK:K N L a) {t t':TypeId} (hu:P.underlying t=some .bool) {i j:Operand}
    (ho:o.op=.binOp .neq t i j t') (hv:ev L i=some (.bool x)) (hi:ev L j=some (.bool y)) :
    (execOp a.eval o).run P w=.ok (.value (.bool (!(x==y)))) w:=by
 simp only [execOp,ho,hK.ev hv,hK.ev hi,Sem.run_bind,Q37,Result.andThen_ok,binOp,Q8a hu,Sem.run_pure]
theorem Qk9 (w:World) (cs:Array Value) (e:TypeId):∀ b∈[w.heap.size],w.heap.size≤b∧b<(w.alloc (.cells cs e)).heap.size:=by simp
theorem Qbd {cs:List Value} {v:Value} (hM:St X w0 w M) (hK:K N L a) {e:TypeId} {x:Operand}
    (hg:gd L ops o.guard=some true) (hd:o.dst=some d) (hN:Nat.blt d N=true)
    (ho:o.op=.box e x) (hv:ev L x=some v) (hc:v.cells=cs.toArray)
    (h:∀ b w' a,K N ((d,.pointer (some ⟨b,0,none⟩))::L) a→St X w0 w' (([b],w')::M)→Ext [] w w'→bx w' b cs e→wpList P ops Q rest a w'):wpList P ops Q (o::rest) a w:=by
 refine Que hK hg hd hN (v:=.pointer (some ⟨w.heap.size,0,none⟩)) (w':=w.alloc (.cells cs.toArray e)) ?_ λa hK=>h _ _ a hK (hM.new (Ext.alloc _ _) _ (Qk9 _ _ _) (by simp)) (Ext.alloc _ _) (heap_alloc_new w _)
 simp [execOp,ho,hK.ev hv,Instr.box,newVar,newRow,hc]
theorem Qaj {cs:List Value} {z:Value} (hM:St X w0 w M) (hK:K N L a) {e:TypeId} (hz:∀ w,(zeroValue e).run P w=.ok z w)
    (hg:gd L ops o.guard=some true) (hd:o.dst=some d) (hN:Nat.blt d N=true)
    (ho:o.op=.alloc e) (hc:z.cells=cs.toArray)
    (h:∀ b w' a,K N ((d,.pointer (some ⟨b,0,none⟩))::L) a→St X w0 w' (([b],w')::M)→Ext [] w w'→bx w' b cs e→wpList P ops Q rest a w'):wpList P ops Q (o::rest) a w:=by
 refine Que hK hg hd hN (v:=.pointer (some ⟨w.heap.size,0,none⟩)) (w':=w.alloc (.cells cs.toArray e)) ?_ λa hK=>h _ _ a hK (hM.new (Ext.alloc _ _) _ (Qk9 _ _ _) (by simp)) (Ext.alloc _ _) (heap_alloc_new w _)
 simp [execOp,ho,hz,Instr.alloc,newVar,newRow,hc]
def FA (P:Program) (t:TypeId) (f off:Nat):Prop:=∀ (w:World) (p:Addr),(Instr.fieldAt t (.pointer (some p)) f).run P w=.ok (.pointer (some (p.add off))) w
theorem Qeq {t:TypeId} {f off:Nat} {fs:Array Field} {fd:Field} {n:Nat} (hu:P.underlying t=some (.struct fs)) (hf:fs[f]? = some fd) (ho:fd.offset=off)
    (hs:∀ w,(sizeOf fd.type).run P w=.ok (n+1) w):FA P t f off:=λw p=>by
 subst ho
 simp [Instr.fieldAt,run_underlying hu,hf,Instr.sureAddr,fieldPlace,hs]
theorem Qwc {t:TypeId} {f off:Nat} (hF:FA P t f off) {p:Addr} (hK:K N L a) {x:Operand}
    (ho:o.op=.fieldAddr t x f) (hv:ev L x=some (.pointer (some p))) :
    (execOp a.eval o).run P w=.ok (.value (.pointer (some (p.add off)))) w:=by
 simp [execOp,ho,hK.ev hv,hF w p]
def T1 (P:Program) (t:TypeId):Prop:=(∀ w,(isAgg t).run P w=.ok false w)∧∀ w,(sizeOf t).run P w=.ok 1 w
def TA (P:Program) (t n:Nat):Prop:=(∀ w,(isAgg t).run P w=.ok true w)∧∀ w,(sizeOf t).run P w=.ok n w
theorem Q59 {t:TypeId} (hT:T1 P t) {p:Addr} {v:Value} {r:List Value} (h:PtAt w p (v::r)):(loadVar t p).run P w=.ok v w:=by
 have:=h.cell 0 v rfl
 rw [show p.add 0=p by simp [Addr.add]] at this
 simp [loadVar,hT.1,this]
theorem Q69 {t n:Nat} (hT:TA P t n) {p:Addr} {cs:List Value} (h:PtAt w p cs) (hn:cs.length=n):(loadVar t p).run P w=.ok (.agg cs.toArray) w:=by
 have hl:=run_loadCells_list (P:=P) w p cs h.cell
 rw [hn] at hl
 simp [loadVar,hT.1,hT.2,hl]
theorem Qcc {t:TypeId} (hT:T1 P t) {p:Addr} {v:Value} {r:List Value} (hp:PtAt w p (v::r)) (hK:K N L a) {x:Operand}
    (ho:o.op=.load t x) (hv:ev L x=some (.pointer (some p))) :
    (execOp a.eval o).run P w=.ok (.value (v)) w:=by
 simp [execOp,ho,hK.ev hv,Instr.loadAt,Instr.sureAddr,Q59 hT hp]
theorem Qjl {t n:Nat} (hT:TA P t n) {p:Addr} {cs:List Value} (hp:PtAt w p cs) (hn:cs.length=n) (hK:K N L a) {x:Operand}
    (ho:o.op=.load t x) (hv:ev L x=some (.pointer (some p))) :
    (execOp a.eval o).run P w=.ok (.value (.agg cs.toArray)) w:=by
 simp [execOp,ho,hK.ev hv,Instr.loadAt,Instr.sureAddr,Q69 hT hp hn]
theorem bx.at {u:World} {b:Nat} {cs:List Value} {e:TypeId} (hb:bx u b cs e) (hA:Agr [b] u w) (off n:Nat) {vs:List Value} (hv:(cs.drop off).take n=vs) (hl:vs.length=n) {p:Addr}
    (hp:p=(⟨b,0,none⟩:Addr).add off):PtAt w p vs:=by
 subst hv
 have hle:off+n≤cs.length∨n=0:=by simp at hl; omega
 have h1:=(hb.agr hA (by simp)).pt
 subst hp
 rcases hle with hle | rfl
 · exact h1.fld off n hle
 · simp only [List.take_zero]
   exact ⟨b,0+off,_,e,_,Qgk _ _ _,hb.agr hA (by simp),by simp⟩
theorem Jno {t:TypeId} (hT:T1 P t) (hM:St X w0 w M) (i:Nat) {u:World} {b:Nat} {cs:List Value} {e:TypeId} (hb:bx u b cs e) (off:Nat) (hK:K N L a) {x:Operand} {p:Addr} {v:Value}
    (hi:M[i]? = some ([b],u))
    (ho:o.op=.load t x) (hv:ev L x=some (.pointer (some p))) (hp:p=(⟨b,0,none⟩:Addr).add off) (hc:cs[off]? = some v) :
    (execOp a.eval o).run P w=.ok (.value (v)) w :=
 Qcc hT (r:=[]) (hb.at (hM.a i hi) off 1 (by
  obtain ⟨h1,h2⟩:=List.getElem?_eq_some_iff.1 hc
  rw [List.drop_eq_getElem_cons h1,h2]; rfl) rfl hp) hK ho hv
theorem Jlm {t n:Nat} (hT:TA P t n) (hM:St X w0 w M) (i:Nat) {u:World} {b:Nat} {cs:List Value} {e:TypeId} (hb:bx u b cs e) (off:Nat) (hK:K N L a) {x:Operand} {p:Addr} {vs:List Value}
    (hi:M[i]? = some ([b],u))
    (ho:o.op=.load t x) (hv:ev L x=some (.pointer (some p))) (hp:p=(⟨b,0,none⟩:Addr).add off) (hc:(cs.drop off).take n=vs) (hl:vs.length=n) :
    (execOp a.eval o).run P w=.ok (.value (.agg vs.toArray)) w :=
 Qjl hT (hb.at (hM.a i hi) off n hc hl hp) hl hK ho hv
def TS (P:Program) (t sz:Nat):Prop:=∃ e,P.underlying t=some (.slice e)∧∀ w,(sizeOf e).run P w=.ok sz w
theorem Qci {α:Type} [Enc α] {u:World} {F:List Nat} {v:Value} {xs:List α} (hf:rd u F [v] xs) {n:Int} {y:α} (hx:ix xs n=some y) (hK:K N L a) {t:TypeId} (hu:TS P t (Enc.sz α)) {x i:Operand} {k:IntKind}
    (ho:o.op=.indexAddr t x i) (hv:ev L x=some v) (hi:ev L i=some (.int k n)) :
    (execOp a.eval o).run P w=.ok (.value (.pointer (some (Qmz v (Enc.sz α) n.toNat)))) w:=by
 obtain ⟨h0,h1,h2⟩:=Qah hx
 obtain ⟨e,hu,hs⟩:=hu
 obtain ⟨ao,cap,hvv,h3,h4,h5,h6⟩:=hf
 simp only [List.cons.injEq,and_true] at hvv
 subst hvv
 rcases h6 with rfl | ⟨g,off,c,e',fr,rfl,hgF,hh,hl⟩
 · simp at h2
 · simp [execOp,ho,hK.ev hv,hK.ev hi,Instr.indexAt,asIntOf,run_underlying hu,hs,h0,h1,Qmz]
theorem Jf2 {α:Type} [Flat α] {u:World} {F:List Nat} {v:Value} {xs:List α} (hf:rd u F [v] xs) (hA:Agr F u w) {n:Int} {y:α} (hx:ix xs n=some y) {t:Nat} (hT:TA P t (Flat.sz α)) (hK:K N L a) {x:Operand}
    (ho:o.op=.load t x) (hv:ev L x=some (.pointer (some (Qmz v (Flat.sz α) n.toNat)))) :
    (execOp a.eval o).run P w=.ok (.value (.agg (Flat.e y).toArray)) w:=by
 obtain ⟨h1,h2⟩:=Q5p hf (Qah hx).2.2
 exact Qjl hT (h1.agr hA h2) (Flat.len _) hK ho hv
theorem Qcq {α:Type} [Flat α] {u:World} {F:List Nat} {v:Value} {xs:List α} (hf:rd u F [v] xs) (hA:Agr F u w) {n:Int} {y:α} (hx:ix xs n=some y) (off:Nat) {t:Nat} (hT:T1 P t) (hK:K N L a) {x:Operand} {p:Addr} {c:Value}
    (ho:o.op=.load t x) (hv:ev L x=some (.pointer (some p))) (hp:p=(Qmz v (Flat.sz α) n.toNat).add off) (hc:(Flat.e y)[off]? = some c) :
    (execOp a.eval o).run P w=.ok (.value (c)) w:=by
 obtain ⟨h1,h2⟩:=Q5p hf (Qah hx).2.2
 obtain ⟨h3,h4⟩:=List.getElem?_eq_some_iff.1 hc
 have h5:=(h1.agr hA h2).fld off 1 (by omega)
 rw [List.drop_eq_getElem_cons h3,h4] at h5
 subst hp
 exact Qcc hT (r:=[]) h5 hK ho hv
theorem Q8u (hK:K N L a) {f:FuncId} {xs:List Operand} {vs:List Value} {R:Ending→World→Prop} {tys:Array TypeId}
    (hcall:∀ (args:Array Value) (w:World),(callFunc f args).run P w=.ok (.enter f args) w)
    (hg:gd L ops o.guard=some true) (hd:o.dst=some d) (hN:Nat.blt d N=true)
    (ho:o.op=.call { callee:=.value (.func f),args:=xs.toArray,argTypes:=tys }) (hv:evs L xs=some vs)
    (hc:Calls P f vs.toArray w R) (hR:∀ e w',R e w'→∃ v,e=.returned v∧∀ a,K N ((d,v)::L) a→wpList P ops Q rest a w'):wpList P ops Q (o::rest) a w:=by
 have e1:(xs.map a.eval)=vs:=hK.evs hv
 have e2:xs.toArray.map a.eval=vs.toArray:=by rw [List.map_toArray,e1]
 refine Q1s hK hg (r:=.ok (.enter f vs.toArray) w) ?_ λK' hK'=>?_
 · simp [execOp,ho,resolve,Act.eval,Deferred.ofValue,invoke,e2,hcall,-List.map_toArray]
 · rw [Oper.upon_enter]
   refine hc.mono λe w' h=>?_
   obtain ⟨v,rfl,h2⟩:=hR e w' h
   rw [hd]
   exact hK' _ _ (h2 _ (hK.put d hN v))
theorem Qty (hK:K N L a) {f:FuncId} {fo:Operand} {cap:List Value} {xs:List Operand} {vs:List Value} {R:Ending→World→Prop} {tys:Array TypeId}
    (hcall:∀ (args:Array Value) (w:World),(callFunc f args).run P w=.ok (.enter f args) w)
    (hg:gd L ops o.guard=some true) (hd:o.dst=some d) (hN:Nat.blt d N=true)
    (ho:o.op=.call { callee:=.value fo,args:=xs.toArray,argTypes:=tys }) (hf:ev L fo=some (.func (.func f) #[] cap.toArray)) (hv:evs L xs=some vs)
    (hc:Calls P f (vs++cap).toArray w R) (hR:∀ e w',R e w'→∃ v,e=.returned v∧∀ a,K N ((d,v)::L) a→wpList P ops Q rest a w'):wpList P ops Q (o::rest) a w:=by
 have e1:(xs.map a.eval)=vs:=hK.evs hv
 have e2:xs.toArray.map a.eval=vs.toArray:=by rw [List.map_toArray,e1]
 refine Q1s hK hg (r:=.ok (.enter f (vs++cap).toArray) w) ?_ λK' hK'=>?_
 · simp [execOp,ho,resolve,hK.ev hf,Deferred.ofValue,invoke,e2,hcall,-List.map_toArray]
 · rw [Oper.upon_enter]
   refine hc.mono λe w' h=>?_
   obtain ⟨v,rfl,h2⟩:=hR e w' h
   rw [hd]
   exact hK' _ _ (h2 _ (hK.put d hN v))
end
end Go.Proofs.YthkaklkinepfkaaGreatDoor
