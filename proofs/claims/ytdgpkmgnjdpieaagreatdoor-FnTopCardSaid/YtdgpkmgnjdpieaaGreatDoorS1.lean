/- own lemmas -/
import Derived.WalkKit
set_option linter.unusedSimpArgs false
set_option linter.unusedVariables false
namespace Go.Proofs.YtdgpkmgnjdpieaaGreatDoor
open Go
theorem AC {p:Prop} (h:p:=by omega):p:=h
theorem AD {p:Prop} (h:p:=by simp):p:=h
theorem AJ {p:Prop} (h:p:=by simp; omega):p:=h
theorem A1 {p:Prop} (h:p:=by decide):p:=h
theorem AQ {p:Prop} (h:p:=by kernel_rfl):p:=h
def lk:List (Nat×Value)→Nat→Option Value
 | [],_=>none
 | (k,v)::r,t=>bif Nat.beq k t then some v else lk r t
structure K (N:Nat) (L:List (Nat×Value)) (a:Act):Prop where
 size:a.tmps.size=N
 defers:a.defers=[]
 at_:∀ t v,lk L t=some v→a.tmps[t]? = some v
theorem K.put {N:Nat} {L:List (Nat×Value)} {a:Act} (h:K N L a) (d:Nat) (D:Nat.blt d N=true) (v:Value) :
    K N ((d,v)::L) (a.put (some d) v):=by
 have A:d<a.tmps.size:=by rw [h.size]; simpa using D
 refine ⟨by simp [Act.put,h.size],by simp [Act.put,h.defers],λt u hl=>?_⟩
 simp only [lk] at hl
 by_cases e:d=t
 · subst e
   rw [show Nat.beq d d=true from Nat.beq_refl d] at hl
   simp only [cond_true,Option.some.injEq] at hl
   subst hl
   simp [Act.put,A]
 · have:Nat.beq d t=false:=by
     cases E:Nat.beq d t
     · rfl
     · exact absurd (Nat.eq_of_beq_eq_true E) e
   rw [this] at hl
   simp only [cond_false] at hl
   simp only [Act.put,Array.getElem?_setIfInBounds,if_neg e]
   exact h.at_ t u hl
def fz (L:List (Nat×Value)):List Nat→Option (List (Nat×Value))
 | []=>some []
 | t::ts=>match lk L t,fz L ts with
  | some v,some r=>some ((t,v)::r)
  | _,_=>none
theorem l3 {L:List (Nat×Value)}:∀ {J:List Nat} {D:List (Nat×Value)},fz L J=some D→∀ t v,lk D t=some v→lk L t=some v
 | [],D,h,t,v,hl=>by simp [fz] at h; subst h; simp [lk] at hl
 | s::J,D,h,t,v,hl=>by
  simp only [fz] at h
  cases A:lk L s with
  | none=>simp [A] at h
  | some u =>
   cases E:fz L J with
   | none=>simp [A,E] at h
   | some r =>
    simp only [A,E,Option.some.injEq] at h
    subst h
    simp only [lk] at hl
    by_cases e:s=t
    · subst e
      rw [show Nat.beq s s=true from Nat.beq_refl s] at hl
      simp only [cond_true,Option.some.injEq] at hl
      subst hl; exact A
    · have:Nat.beq s t=false:=by
        cases M:Nat.beq s t
        · rfl
        · exact absurd (Nat.eq_of_beq_eq_true M) e
      rw [this] at hl
      exact l3 E t v hl
theorem K.keep {N:Nat} {L A:List (Nat×Value)} {a:Act} (h:K N L a) (D:List Nat) (E:fz L D=some A):K N A a :=
 ⟨h.size,h.defers,λt v hl=>h.at_ t v (l3 E t v hl)⟩
def ev (L:List (Nat×Value)):Operand→Option Value
 | .tmp t=>lk L t
 | .const v=>some v
 | .func f=>some (.func (.func f) #[] #[])
 | .global g=>some (.pointer (some ⟨g,0,none⟩))
theorem K.ev {N:Nat} {L:List (Nat×Value)} {a:Act} (h:K N L a) {x:Operand} {v:Value} (A:ev L x=some v):a.eval x=v:=by
 cases x with
 | tmp t =>
  have:=h.at_ t v A
  simp [Act.eval,Array.getD_eq_getD_getElem?,this]
 | const u=>simpa [Proofs.YtdgpkmgnjdpieaaGreatDoor.ev,Act.eval] using A
 | global g=>simpa [Proofs.YtdgpkmgnjdpieaaGreatDoor.ev,Act.eval] using A
 | func f=>simpa [Proofs.YtdgpkmgnjdpieaaGreatDoor.ev,Act.eval] using A
def evs (L:List (Nat×Value)):List Operand→Option (List Value)
 | []=>some []
 | x::xs=>match ev L x,evs L xs with
  | some v,some r=>some (v::r)
  | _,_=>none
theorem K.evs {N:Nat} {L:List (Nat×Value)} {a:Act} (h:K N L a):∀ {D:List Operand} {vs:List Value},evs L D=some vs→D.map a.eval=vs
 | [],vs,hv=>by simp [Proofs.YtdgpkmgnjdpieaaGreatDoor.evs] at hv; subst hv; rfl
 | x::D,vs,hv=>by
  simp only [Proofs.YtdgpkmgnjdpieaaGreatDoor.evs] at hv
  cases A:Proofs.YtdgpkmgnjdpieaaGreatDoor.ev L x with
  | none=>simp [A] at hv
  | some u =>
   cases E:Proofs.YtdgpkmgnjdpieaaGreatDoor.evs L D with
   | none=>simp [A,E] at hv
   | some r =>
    simp only [A,E,Option.some.injEq] at hv
    subst hv
    simp [h.ev A,K.evs h E]
@[reducible] def AK (x:Int):Int:=IntKind.i64.wrap x
@[reducible] def w8 (x:Int):Int:=IntKind.u8.wrap x
def wI (A:BinOp) (k:IntKind) (x y:Int):Option Value :=
 match A with
 | .add=>some (.int k (k.wrap (x+y)))
 | .sub=>some (.int k (k.wrap (x - y)))
 | .mul=>some (.int k (k.wrap (x*y)))
 | .eql=>some (.bool (x==y))
 | .neq=>some (.bool (x != y))
 | .lss=>some (.bool (decide (x<y)))
 | .leq=>some (.bool (decide (x≤y)))
 | .gtr=>some (.bool (decide (x>y)))
 | .geq=>some (.bool (decide (x≥y)))
 | .and=>some (.int k (k.wrap (BitVec.ofInt k.bits x &&& BitVec.ofInt k.bits y).toNat))
 | .or=>some (.int k (k.wrap (BitVec.ofInt k.bits x ||| BitVec.ofInt k.bits y).toNat))
 | .xor=>some (.int k (k.wrap (BitVec.ofInt k.bits x ^^^ BitVec.ofInt k.bits y).toNat))
 | .quo=>match y with | .ofNat (n+1)=>some (.int k (k.wrap (x.tdiv (.ofNat (n+1))))) | _=>none
 | .rem=>match y with | .ofNat (n+1)=>some (.int k (x.tmod (.ofNat (n+1)))) | _=>none
 | _=>none
def xN (A:BinOp) (x y:ByteArray):Option Value :=
 match A with
 | .eql=>some (.bool (x.toList==y.toList))
 | .neq=>some (.bool (!(x.toList==y.toList)))
 | _=>none
def n5:IntKind→IntKind→Bool
 | .i64,.i64=>true
 | .u8,.u8=>true
 | .i32,.i32=>true
 | .u64,.u64=>true
 | _,_=>false
theorem tC {a b:IntKind} (h:n5 a b=true):a=b:=by cases a <;> cases b <;> simp_all [n5]
def Ll (L:List (Nat×Value)):Op→Option Value
 | .move x=>ev L x
 | .assign x=>ev L x
 | .pick c x y=>match ev L c with
  | some (.bool true)=>ev L x
  | some (.bool false)=>ev L y
  | _=>none
 | .binOp op _ x y _=>match ev L x,ev L y with
  | some (.int k a),some (.int k' b)=>bif n5 k k' then wI op k a b else none
  | some (.string a),some (.string b)=>xN op a b
  | _,_=>none
 | .unOp .not _ x=>match ev L x with
  | some (.bool b)=>some (.bool (!b))
  | _=>none
 | .unOp .neg _ x=>match ev L x with
  | some (.int k n)=>some (.int k (k.wrap (0 - n)))
  | _=>none
 | .extract t i=>match ev L t with
  | some (.tuple vs)=>vs[i]?
  | _=>none
 | .makeFunc fn first captured=>match evs L first.toList,evs L captured.toList with
  | some f,some c=>some (.func fn f.toArray c.toArray)
  | _,_=>none
 | .call { callee:=.builtin .max,args:=args,argTypes:=_ }=>match evs L args.toList with
  | some [.int k x,.int _ y]=>some (.int k (if y>x then y else x))
  | some [.int k x,.int _ y,.int _ z]=>some (.int k (if z>(if y>x then y else x) then z else (if y>x then y else x)))
  | _=>none
 | .call { callee:=.builtin .min,args:=args,argTypes:=_ }=>match evs L args.toList with
  | some [.int k x,.int _ y]=>some (.int k (if y<x then y else x))
  | _=>none
 | _=>none
theorem rc {A:BinOp} {k:IntKind} {x y:Int} {v:Value} (h:wI A k x y=some v) (P:Program) (w:World) (D:TypeId) :
    (binOp A D (.int k x) (.int k y)).run P w=.ok v w:=by
 cases A <;> simp only [wI,Option.some.injEq,reduceCtorEq] at h <;> try subst h
 all_goals first
  | (simp [binOp,Op.intArith]; done)
  | (simp [binOp,Op.intCmp]; done)
  | (simp [binOp,Op.intBits]; done)
  | skip
 · cases y with
   | ofNat n =>
    cases n with
    | zero=>simp at h
    | succ n =>
     simp only [Option.some.injEq] at h; subst h
     have:¬ (Int.ofNat (n+1)=0):=AJ
     simp [binOp,Op.intDiv,-Int.ofNat_eq_natCast,this]
   | negSucc n=>simp at h
 · cases y with
   | ofNat n =>
    cases n with
    | zero=>simp at h
    | succ n =>
     simp only [Option.some.injEq] at h; subst h
     have:¬ (Int.ofNat (n+1)=0):=AJ
     simp [binOp,Op.intDiv,-Int.ofNat_eq_natCast,this]
   | negSucc n=>simp at h
theorem dx (P:Program) (w:World) (A:BinOp) (t:TypeId) (x y:Operand) (k D:IntKind) (a b:Int) :
    (eqGuard A t x y (.int k a) (.int D b)).run P w=.ok () w:=by
 unfold eqGuard
 by_cases h:(!(A matches .eql | .neq))=true <;> simp [h]
theorem dA (P:Program) (w:World) (A:BinOp) (t:TypeId) (x y:Operand) (a b:ByteArray) :
    (eqGuard A t x y (.string a) (.string b)).run P w=.ok () w:=by
 unfold eqGuard
 by_cases h:(!(A matches .eql | .neq))=true <;> simp [h]
theorem th {A:BinOp} {x y:ByteArray} {v:Value} (h:xN A x y=some v) (P:Program) (w:World) (D:TypeId) :
    (binOp A D (.string x) (.string y)).run P w=.ok v w:=by
 cases A <;> simp [xN] at h <;> subst h <;> simp [binOp,Op.stringOp]
theorem aH {N:Nat} {L:List (Nat×Value)} {a:Act} (E:K N L a) {o:Oper} {v:Value} (h:Ll L o.op=some v) (P:Program) (w:World) :
    (execOp a.eval o).run P w=.ok (.value v) w:=by
 unfold execOp
 cases M:o.op with
 | move x=>rw [M] at h; simp [E.ev (x:=x) h]
 | assign x=>rw [M] at h; simp [E.ev (x:=x) h]
 | pick c x y =>
  rw [M] at h
  simp only [Ll] at h
  cases U:ev L c with
  | none=>simp [U] at h
  | some u =>
   cases u <;> simp only [U,reduceCtorEq] at h
   rename_i b
   cases b <;> simp only at h
   · simp [E.ev U,E.ev h,asBool]
   · simp [E.ev U,E.ev h,asBool]
 | binOp op t x y t' =>
  rw [M] at h
  simp only [Ll] at h
  cases D:ev L x with
  | none=>simp [D] at h
  | some u =>
   cases V:ev L y with
   | none=>simp [D,V] at h;
   | some u' =>
    cases u <;> cases u' <;> simp only [D,V,reduceCtorEq] at h
    · rename_i k n k' n'
      cases Z:n5 k k'
      · simp [Z] at h
      · simp only [Z,cond_true] at h
        have:=tC Z
        subst this
        simp [E.ev D,E.ev V,dx,rc h]
    · simp [E.ev D,E.ev V,dA,th h]
 | unOp op t x =>
  rw [M] at h
  cases op <;> simp only [Ll,reduceCtorEq] at h
  · cases D:ev L x with
    | none=>simp [D] at h
    | some u =>
     cases u <;> simp only [D,reduceCtorEq,Option.some.injEq] at h
     subst h; simp [E.ev D,Op.unary,Op.intArith]
  · cases D:ev L x with
    | none=>simp [D] at h
    | some u =>
     cases u <;> simp only [D,reduceCtorEq,Option.some.injEq] at h
     subst h; simp [E.ev D,Op.unary]
 | extract t i =>
  rw [M] at h
  simp only [Ll] at h
  cases D:ev L t with
  | none=>simp [D] at h
  | some u =>
   cases u <;> simp [D] at h
   simp [E.ev D,Instr.extract,h]
 | makeFunc fn J A =>
  rw [M] at h
  simp only [Ll] at h
  cases O:evs L J.toList with
  | none=>simp [O] at h
  | some f =>
   cases Y:evs L A.toList with
   | none=>simp [O,Y] at h
   | some c =>
    simp only [O,Y,Option.some.injEq] at h
    subst h
    have e:J.map a.eval=f.toArray:=by apply Array.ext'; rw [Array.toList_map,E.evs O]
    have e2:A.map a.eval=c.toArray:=by apply Array.ext'; rw [Array.toList_map,E.evs Y]
    simp [Instr.makeFunc,e,e2]
 | call c =>
  rw [M] at h
  obtain ⟨callee,args,argTypes⟩:=c
  cases callee with
  | value f=>simp [Ll] at h
  | invoke r m=>simp [Ll] at h
  | builtin b =>
   cases b <;> simp only [Ll,reduceCtorEq] at h
   all_goals
    cases O:evs L args.toList with
    | none=>simp [O] at h
    | some vs =>
     have e:args.map a.eval=vs.toArray:=by apply Array.ext'; rw [Array.toList_map,E.evs O]
     simp only [O] at h
     split at h <;> simp only [reduceCtorEq,Option.some.injEq] at h
     all_goals
      rename_i T
      simp only [Option.some.injEq] at T
      subst T; subst h
      simp [resolve,e,invoke,builtin,Builtin.max_,Builtin.min_,Builtin.max2,Builtin.min2,List.foldlM]
 | _=>rw [M] at h; simp [Ll] at h
def gd (L:List (Nat×Value)) (ops:Array Oper):Option (Nat×Bool)→Option Bool
 | none=>some true
 | some (j,b)=>match (ops[j]?).bind (·.dst) with
  | some d=>match lk L d with
   | some (.bool c)=>some (c==b)
   | some (.tuple _)=>some false
   | _=>none
  | none=>none
theorem K.wanted {N:Nat} {L:List (Nat×Value)} {a:Act} (M:K N L a) {ops:Array Oper} {o:Oper} {b:Bool} (h:gd L ops o.guard=some b) :
    Region.wanted o (yielded ops a.tmps)=b:=by
 unfold Region.wanted
 cases E:o.guard with
 | none=>simp [gd,E] at h; simp [h]
 | some p =>
  obtain ⟨j,A⟩:=p
  simp only [gd,E] at h
  cases D:(ops[j]?).bind (·.dst) with
  | none=>simp [D] at h
  | some d =>
   simp only [D] at h
   cases hl:lk L d with
   | none=>simp [hl] at h
   | some v =>
    have J:=M.at_ d v hl
    cases v <;> simp [hl] at h
    · subst h; simp only [yielded,D,Option.bind_some,J]
      rename_i c; cases c <;> cases A <;> rfl
    · subst h; simp [yielded,D,J]
section
variable {P:Program} {ops:Array Oper} {Q:Exit→Act→World→Prop} {rest:List Oper} {o:Oper} {a:Act} {w:World} {N:Nat} {L:List (Nat×Value)}
theorem ct (M:K N L a) (E:gd L ops o.guard=some true) {r:Result Next} (J:(execOp a.eval o).run P w=r)
    (h:∀ A:Act→World→Prop,(∀ a w,wpList P ops Q rest a w→A a w)→o.upon P a A Q r):wpList P ops Q (o::rest) a w :=
 wpList_step λA D=>by rw [if_pos (M.wanted E)]; unfold Oper.wp; rw [J]; exact h A D
theorem s1 (D:K N L a) {d:Nat} {v:Value} (E:gd L ops o.guard=some true) (J:o.dst=some d) (O:Nat.blt d N=true) (M:Ll L o.op=some v)
    (h:∀ a,K N ((d,v)::L) a→wpList P ops Q rest a w):wpList P ops Q (o::rest) a w :=
 ct D E (aH D M P w) λ_ A=>by
  rw [Oper.upon_value]; rw [J]; exact A _ _ (h _ (D.put d O v))
theorem sk (A:K N L a) {d:Nat} (D:gd L ops o.guard=some false) (E:o.dst=some d) (J:Nat.blt d N=true)
    (h:∀ a,K N ((d,undef)::L) a→wpList P ops Q rest a w):wpList P ops Q (o::rest) a w :=
 wpList_skip (A.wanted D) (by rw [E]; exact h _ (A.put d J undef))
theorem K.re (A:K N L a) {d:Nat} {v D:Value} (hl:lk L d=some v) (e:v=D):K N ((d,D)::L) a :=
 ⟨A.size,A.defers,λt u h=>by
  simp only [lk] at h
  by_cases E:d=t
  · subst E
    rw [show Nat.beq d d=true from Nat.beq_refl d] at h
    simp only [cond_true,Option.some.injEq] at h
    rw [← h,← e]; exact A.at_ _ _ hl
  · have:Nat.beq d t=false:=by
      cases J:Nat.beq d t
      · rfl
      · exact absurd (Nat.eq_of_beq_eq_true J) E
    rw [this] at h
    exact A.at_ _ _ h⟩
variable {c x y:Code}
theorem sj (D:K N L a) {r:Operand} {b:Bool} (A:ev L r=some (.bool b)) (J:b=true→x.wp P Q a w) (E:b=false→y.wp P Q a w) :
    (Code.cond r x y).wp P Q a w:=wp_cond_split (D.ev A) J E
theorem oc (R:Act→World→Prop) (A:∀ a w,R a w→y.wp P Q a w) (D:x.wp P (Exit.then R Q) a w):(Code.seq x y).wp P Q a w:=by
 refine wp_seq (wp_mono D λe a w h=>?_)
 cases e <;> first | exact A _ _ h | exact h
theorem w6 (I:Nat→Act→World→Prop) (T:∀ a w,¬ I 0 a w)
    (round:∀ n a w,I (n+1) a w→c.wp P (Exit.then (λE w'=>I n E w') Q) a w):∀ n a w,I n a w→(Code.loop c).wp P Q a w:=by
 intro n a w J b k cs
 have M:∀ n a w,I n a w →
     ∃ e E w',Q e E w'∧Arrives P (lone (b.at a (.code c::.inLoop c::k)) cs w) b k cs e E w':=by
  intro n
  induction n with
  | zero=>intro a w h; exact (T a w h).elim
  | succ n O =>
   intro a w J
   obtain ⟨e,a₁,w₁,D,A⟩:=round n a w J b (.inLoop c::k) cs
   cases e with
   | normal =>
    obtain ⟨e₂,a₂,w₂,D₂,A₂⟩:=O a₁ w₁ D
    exact ⟨e₂,a₂,w₂,D₂,.of_steps (Steps.trans A (.one step_inLoop)) A₂⟩
   | exit U=>exact ⟨_,a₁,w₁,D,.pass (x:=.inLoop c) rfl (λ_ _=>.inl AD) A⟩
   | goto l=>exact ⟨_,a₁,w₁,D,.pass (x:=.inLoop c) rfl (λ_ _=>.inl AD) A⟩
   | ret=>exact ⟨_,a₁,w₁,D,.pass (x:=.inLoop c) rfl (λ_ _=>.inl AD) A⟩
   | panic V=>exact ⟨_,a₁,w₁,D,.pass (x:=.inLoop c) rfl (λ_ _=>.inl AD) A⟩
   | outgrown=>exact ⟨_,a₁,w₁,D,.pass (x:=.inLoop c) rfl (λ_ _=>.inl AD) A⟩
 obtain ⟨e,E,w',D,A⟩:=M n a w J
 exact ⟨e,E,w',D,.of_steps (.one step_loop) A⟩
end
def m2:Nat→List Value→List (Nat×Value)
 | _,[]=>[]
 | i,v::vs=>(i,v)::m2 (i+1) vs
theorem oN:∀ (vs:List Value) (i t:Nat) (v:Value),lk (m2 i vs) t=some v→i≤t∧vs[t - i]? = some v
 | [],i,t,v,h=>by simp [m2,lk] at h
 | u::vs,i,t,v,h=>by
  simp only [m2,lk] at h
  by_cases e:i=t
  · subst e
    rw [show Nat.beq i i=true from Nat.beq_refl i] at h
    simp only [cond_true,Option.some.injEq] at h
    subst h; simp
  · have:Nat.beq i t=false:=by
      cases D:Nat.beq i t
      · rfl
      · exact absurd (Nat.eq_of_beq_eq_true D) e
    rw [this] at h
    obtain ⟨_,A⟩:=oN vs (i+1) t v h
    refine ⟨AC,?_⟩
    have:t - i=(t - (i+1))+1:=AC
    rw [this]; simpa using A
theorem enter {P:Program} {f:FuncId} {fn:Func} {c:Code} {w:World} {R:Ending→World→Prop} {N:Nat} {vs:List Value}
    (hf:P.funcs[f]? = some fn) (hb:fn.body=some c) (hn:fn.ntmps=N) (hle:Nat.ble vs.length N=true)
    (h:∀ a,K N (m2 0 vs) a→c.wp P (bodyPost P fn R) a w):Calls P f vs.toArray w R:=by
 refine calls_of_wp hf hb (h _ ⟨?_,rfl,λt v hl=>?_⟩)
 · have:=Nat.le_of_ble_eq_true hle
   simp [hn]; omega
 · obtain ⟨_,D⟩:=oN vs 0 t v hl
   have A:t<vs.length:=by
    have:=(List.getElem?_eq_some_iff.1 D).1
    omega
   simp only [Nat.sub_zero] at D
   rw [List.getElem?_eq_getElem A] at D
   simpa [Array.getElem?_append,A] using D
section
variable {P:Program} {fn:Func} {R:Ending→World→Prop} {a:Act} {w:World} {N:Nat} {L:List (Nat×Value)}
end
end Go.Proofs.YtdgpkmgnjdpieaaGreatDoor
set_option linter.unusedSimpArgs false
set_option linter.unusedVariables false
namespace Go.Proofs.YtdgpkmgnjdpieaaGreatDoor
open Go Go.RowKit
structure Ext (X:List Nat) (w w':World):Prop where
 os:w'.os=w.os
 tape:w'.tape=w.tape
 output:w'.output=w.output
 size:w.heap.size≤w'.heap.size
 blk:∀ k,k<w.heap.size→k∉X→w'.heap[k]? = w.heap[k]?
theorem Ext.refl (X:List Nat) (w:World):Ext X w w:=⟨rfl,rfl,rfl,Nat.le_refl _,λ_ _ _=>rfl⟩
theorem Ext.trans {X Y:List Nat} {a b c:World} (h:Ext X a b) (k:Ext Y b c) (J:∀ y∈Y,y∈X∨a.heap.size≤y):Ext X a c :=
 ⟨k.os.trans h.os,k.tape.trans h.tape,k.output.trans h.output,Nat.le_trans h.size k.size,λi hi D =>
  (k.blk i (Nat.lt_of_lt_of_le hi h.size) (λE=>by rcases J i E with A | A; exact D A; omega)).trans (h.blk i hi D)⟩
theorem Ext.wk {X Y:List Nat} {a b:World} (h:Ext X a b) (A:∀ x∈X,x∈Y):Ext Y a b :=
 ⟨h.os,h.tape,h.output,h.size,λk E D=>h.blk k E (λh=>D (A k h))⟩
theorem Ext.below {w w':World} (h:Ext [] w w'):Below w.heap.size w w':=⟨h.os,h.tape,h.output,h.size,λk A=>h.blk k A AD⟩
theorem Ext.alloc (w:World) (o:Obj):Ext [] w (w.alloc o):=⟨rfl,rfl,rfl,AD,λk A _=>by show (w.heap.push o)[k]? = w.heap[k]?; rw [Array.getElem?_push,if_neg (Nat.ne_of_lt A)]⟩
theorem Ext.drew (w:World):Ext [] w w.drew:=⟨rfl,rfl,rfl,Nat.le_refl _,λ_ _ _=>rfl⟩
theorem Ext.grown {w w':World} {A:Option Nat} (h:w.grownBy w' A):Ext A.toList w w' :=
 ⟨h.os,h.tape,h.output,h.size,λk E D=>h.block k E (λe=>D (by rw [← e]; simp))⟩
def Agr (F:List Nat) (u w:World):Prop:=∀ b∈F,w.heap[b]? = u.heap[b]?
theorem Agr.refl (F:List Nat) (w:World):Agr F w w:=λ_ _=>rfl
theorem Agr.sub {F G:List Nat} {u w:World} (h:Agr F u w) (A:∀ b∈G,b∈F):Agr G u w:=λb D=>h b (A b D)
theorem Agr.trans {F:List Nat} {u v w:World} (h:Agr F u v) (k:Agr F v w):Agr F u w:=λb A=>(k b A).trans (h b A)
def EC (M:List (List Nat×World)):List Nat:=M.flatMap (·.1)
structure St (X:List Nat) (w0 w:World) (M:List (List Nat×World)):Prop where
 ext:Ext X w0 w
 ok:∀ p∈M,Agr p.1 p.2 w
 lt:∀ b∈EC M,b<w.heap.size
 lo:∀ b∈EC M,b∈X∨w0.heap.size≤b
 nd:(EC M).Nodup
theorem St.start (w:World):St [] w w []:=⟨Ext.refl _ _,AD,by simp [EC],by simp [EC],by simp [EC]⟩
section
variable {X:List Nat} {w0 w w':World} {M:List (List Nat×World)}
theorem St.a (h:St X w0 w M) (i:Nat) {F:List Nat} {u:World} (hi:M[i]? = some (F,u)):Agr F u w:=h.ok _ (List.mem_of_getElem? hi)
theorem HT {F:List Nat} {u:World} {i:Nat} (hi:M[i]? = some (F,u)) {b:Nat} (A:b∈F):b∈EC M :=
 List.mem_flatMap.2 ⟨(F,u),List.mem_of_getElem? hi,A⟩
theorem St.ltF (h:St X w0 w M) (i:Nat) {F:List Nat} {u:World} (hi:M[i]? = some (F,u)):∀ b∈F,b<w.heap.size:=λ_ A=>h.lt _ (HT hi A)
theorem St.a0 (h:St X w0 w M) {F:List Nat} (A:∀ b∈F,b<w0.heap.size) (E:∀ b∈F,b∉X):Agr F w0 w :=
 λb D=>h.ext.blk b (A b D) (E b D)
theorem St.a00 (h:St [] w0 w M) {F:List Nat} (A:∀ b∈F,b<w0.heap.size):Agr F w0 w:=h.a0 A AD
theorem c6 {M:List (List Nat×World)}:(EC M).Nodup↔(∀ p∈M,p.1.Nodup)∧M.Pairwise (λp q=>∀ b∈p.1,b∉q.1):=by
 unfold EC List.Nodup
 rw [List.pairwise_flatMap]
 refine and_congr Iff.rfl ⟨λh=>h.imp fun {p q} h b J A=>h b J b A rfl,λh=>h.imp fun {p q} h x E y D=>?_⟩
 intro e; subst e; exact h x E D
theorem ac {F:List Nat} {u:World} {i:Nat} (hi:M[i]? = some (F,u)) (A:(EC M).Nodup):F.Nodup:=by
 exact (c6.1 A).1 _ (List.mem_of_getElem? hi)
theorem St.ndF (h:St X w0 w M) (i:Nat) {F:List Nat} {u:World} (hi:M[i]? = some (F,u)):F.Nodup:=ac hi h.nd
theorem St.size (h:St X w0 w M):w0.heap.size≤w.heap.size:=h.ext.size
theorem St.step (h:St X w0 w M) (D:Ext [] w w'):St X w0 w' M :=
 ⟨h.ext.trans D AD,λp E=>(h.ok p E).trans (λb A=>D.blk b (h.lt b (List.mem_flatMap.2 ⟨p,E,A⟩)) AD),
  λb A=>Nat.lt_of_lt_of_le (h.lt b A) D.size,h.lo,h.nd⟩
theorem St.new (h:St X w0 w M) (O:Ext [] w w') (F:List Nat) (J:∀ b∈F,w.heap.size≤b∧b<w'.heap.size) (L:F.Nodup):St X w0 w' ((F,w')::M):=by
 have D:=h.step O
 refine ⟨D.ext,?_,?_,?_,?_⟩
 · intro p E
   rcases List.mem_cons.1 E with rfl | E
   · exact Agr.refl _ _
   · exact D.ok p E
 · intro b A
   simp only [EC,List.flatMap_cons,List.mem_append] at A
   rcases A with A | A
   · exact (J b A).2
   · exact D.lt b A
 · intro b A
   simp only [EC,List.flatMap_cons,List.mem_append] at A
   rcases A with A | A
   · exact .inr (Nat.le_trans h.ext.size (J b A).1)
   · exact h.lo b A
 · simp only [EC,List.flatMap_cons]
   refine List.nodup_append.2 ⟨L,h.nd,?_⟩
   intro a N b A e
   subst e
   have:=h.lt a A
   have:=(J a N).1
   omega
def io (M:List (List Nat×World)):List Nat→Option (List (List Nat×World))
 | []=>some []
 | i::is=>match M[i]?,io M is with
  | some p,some r=>some (p::r)
  | _,_=>none
theorem bR:∀ {is:List Nat} {M':List (List Nat×World)},io M is=some M'→∀ p∈M',∃ i∈is,M[i]? = some p
 | [],M',h,p,A=>by simp [io] at h; subst h; simp at A
 | i::is,M',h,p,A=>by
  simp only [io] at h
  cases D:M[i]? with
  | none=>simp [D] at h
  | some q =>
   cases E:io M is with
   | none=>simp [D,E] at h
   | some r =>
    simp only [D,E,Option.some.injEq] at h
    subst h
    rcases List.mem_cons.1 A with rfl | A
    · exact ⟨i,AD,D⟩
    · obtain ⟨j,L,J⟩:=bR E p A
      exact ⟨j,by simp [L],J⟩
theorem ZC (U:(EC M).Nodup) {i j:Nat} (N:i≠j) {p q:List Nat×World} (hi:M[i]? = some p) (J:M[j]? = some q):∀ b∈p.1,b∉q.1:=by
 have Y:=(c6.1 U).2
 intro b E A
 have D:∀ i j:Nat,∀ p q:List Nat×World,i<j→M[i]? = some p→M[j]? = some q→b∈p.1→b∈q.1→False:=by
  intro i j p q V hi J E A
  obtain ⟨L,Q⟩:=List.getElem?_eq_some_iff.1 hi
  obtain ⟨O,T⟩:=List.getElem?_eq_some_iff.1 J
  have:=List.pairwise_iff_getElem.1 Y i j L O V
  rw [Q,T] at this
  exact this b E A
 rcases Nat.lt_or_gt_of_ne N with h | h
 · exact D i j p q h hi J E A
 · exact D j i q p h J hi A E
theorem gH (A:(EC M).Nodup):∀ {is:List Nat} {M':List (List Nat×World)},io M is=some M'→is.Nodup→(EC M').Nodup
 | [],M',h,_=>by simp [io] at h; subst h; simp [EC]
 | i::is,M',h,hn=>by
  simp only [io] at h
  cases D:M[i]? with
  | none=>simp [D] at h
  | some q =>
   cases J:io M is with
   | none=>simp [D,J] at h
   | some r =>
    simp only [D,J,Option.some.injEq] at h
    subst h
    have E:=List.nodup_cons.1 hn
    simp only [EC,List.flatMap_cons]
    refine List.nodup_append.2 ⟨ac (F:=q.1) (u:=q.2) D A,gH A J E.2,?_⟩
    intro a T b L e
    subst e
    obtain ⟨p,Q,L⟩:=List.mem_flatMap.1 L
    obtain ⟨j,O,N⟩:=bR J p Q
    exact ZC A (i:=i) (j:=j) (λe=>E.1 (e ▸ O)) D N a T L
theorem St.sel (h:St X w0 w M) (is:List Nat) {M':List (List Nat×World)} (J:io M is=some M') (L:is.Nodup):St X w0 w M':=by
 have A:∀ b∈EC M',b∈EC M:=λb D=>by
  obtain ⟨p,E,D⟩:=List.mem_flatMap.1 D
  obtain ⟨i,_,hi⟩:=bR J p E
  exact HT (F:=p.1) (u:=p.2) hi D
 exact ⟨h.ext,λp E=>by obtain ⟨i,_,hi⟩:=bR J p E; exact h.ok p (List.mem_of_getElem? hi),λb D=>h.lt b (A b D),λb D=>h.lo b (A b D),gH h.nd J L⟩
theorem dz {i:Nat} {F J:List Nat} {u N:World} (hi:M[i]? = some (F,u)) {b:Nat} (D:b∈EC (M.set i (J,N))):b∈J∨∃ j,j≠i∧∃ p,M[j]? = some p∧b∈p.1:=by
 obtain ⟨p,L,D⟩:=List.mem_flatMap.1 D
 obtain ⟨j,A⟩:=List.mem_iff_getElem?.1 L
 rw [List.getElem?_set] at A
 by_cases e:i=j
 · subst e
   have E:=(List.getElem?_eq_some_iff.1 hi).1
   simp [E] at A
   subst A
   exact .inl D
 · rw [if_neg e] at A
   exact .inr ⟨j,λh=>e h.symm,p,A,D⟩
theorem i7 {i:Nat} {F U:List Nat} {u h:World} (hi:M[i]? = some (F,u)) (E:(EC M).Nodup) (Q:U.Nodup)
    (hd:∀ j,j≠i→∀ p,M[j]? = some p→∀ b∈U,b∉p.1):(EC (M.set i (U,h))).Nodup:=by
 rw [c6] at *
 constructor
 · intro p hp
   obtain ⟨j,D⟩:=List.mem_iff_getElem?.1 hp
   rw [List.getElem?_set] at D
   by_cases e:i=j
   · subst e
     have Z:=(List.getElem?_eq_some_iff.1 hi).1
     simp [Z] at D
     subst D; exact Q
   · rw [if_neg e] at D
     exact E.1 p (List.mem_of_getElem? D)
 · rw [List.pairwise_iff_getElem]
   intro a b ha hb Y
   have L:a<M.length:=by simpa using ha
   have N:b<M.length:=by simpa using hb
   have J:=List.pairwise_iff_getElem.1 E.2 a b L N Y
   simp only [List.getElem_set]
   by_cases V:i=a
   · have O:¬ i=b:=AC
     rw [if_pos V,if_neg O]
     intro x T A
     exact hd b AC _ (List.getElem?_eq_getElem N) x T A
   · by_cases O:i=b
     · rw [if_neg V,if_pos O]
       intro x T A
       exact hd a AC _ (List.getElem?_eq_getElem L) x A T
     · rw [if_neg V,if_neg O]
       exact J
theorem St.mut (h:St X w0 w M) (i:Nat) {F:List Nat} {u:World} (hi:M[i]? = some (F,u)) (O:Ext F w w') (Q:List Nat)
    (hF':∀ b∈Q,(b∈F∨w.heap.size≤b)∧b<w'.heap.size) (hnd:Q.Nodup):St X w0 w' (M.set i (Q,w')):=by
 have D:∀ j,j≠i→∀ p,M[j]? = some p→∀ b∈p.1,b∉F:=λj E p J b A L=>ZC h.nd E J hi b A L
 refine ⟨h.ext.trans O (λy U=>h.lo y (HT hi U)),?_,?_,?_,?_⟩
 · intro p J
   obtain ⟨j,E⟩:=List.mem_iff_getElem?.1 J
   rw [List.getElem?_set] at E
   by_cases e:i=j
   · subst e
     have T:=(List.getElem?_eq_some_iff.1 hi).1
     simp [T] at E
     subst E; exact Agr.refl _ _
   · rw [if_neg e] at E
     refine (h.ok p (List.mem_of_getElem? E)).trans λb A=>O.blk b (h.lt b (HT (F:=p.1) (u:=p.2) E A)) (D j (λh=>e h.symm) p E b A)
 · intro b A
   rcases dz hi A with A | ⟨j,E,p,J,A⟩
   · exact (hF' b A).2
   · exact Nat.lt_of_lt_of_le (h.lt b (HT (F:=p.1) (u:=p.2) J A)) O.size
 · intro b A
   rcases dz hi A with A | ⟨j,E,p,J,A⟩
   · rcases (hF' b A).1 with N | N
     · exact h.lo b (HT hi N)
     · exact .inr (Nat.le_trans h.ext.size N)
   · exact h.lo b (HT (F:=p.1) (u:=p.2) J A)
 · refine i7 hi h.nd hnd λj E p J b A L=>?_
   rcases (hF' b A).1 with N | N
   · exact D j E p J b L N
   · have:=h.lt b (HT (F:=p.1) (u:=p.2) J L); omega
theorem St.split2 {F G:List Nat} {u:World} (h:St X w0 w ((F++G,u)::M)):St X w0 w ((F,u)::(G,u)::M):=by
 have e:EC ((F,u)::(G,u)::M)=EC ((F++G,u)::M):=by simp [EC]
 refine ⟨h.ext,?_,by rw [e]; exact h.lt,by rw [e]; exact h.lo,by rw [e]; exact h.nd⟩
 have E:=h.ok (F++G,u) AD
 intro p A
 simp only [List.mem_cons] at A
 rcases A with rfl | rfl | A
 · exact E.sub (λb D=>by simp [D])
 · exact E.sub (λb D=>by simp [D])
 · exact h.ok p (by simp [A])
theorem St.join2 {F G:List Nat} {u v:World} (h:St X w0 w ((F,u)::(G,v)::M)):St X w0 w ((F++G,w)::M):=by
 have e:EC ((F++G,w)::M)=EC ((F,u)::(G,v)::M):=by simp [EC]
 refine ⟨h.ext,?_,by rw [e]; exact h.lt,by rw [e]; exact h.lo,by rw [e]; exact h.nd⟩
 intro p A
 simp only [List.mem_cons] at A
 rcases A with rfl | A
 · exact Agr.refl _ _
 · exact h.ok p (by simp [A])
end
class Enc (α:Type) where
 sz:Nat
 rd:World→List Nat→List Value→α→Prop
 ow:World→List Nat→List Value→α→Prop
 rd_sz:∀ {w F cs x},rd w F cs x→cs.length=sz
 rd_one:∀ {w F cs x},rd w F cs x→∀ c∈cs,c.oneCell'=true
 ow_rd:∀ {w F cs x},ow w F cs x→rd w F cs x
 rd_lt:∀ {w F cs x},rd w F cs x→∀ b∈F,b<w.heap.size
 rd_agr:∀ {u w F cs x},rd u F cs x→Agr F u w→rd w F cs x
 ow_agr:∀ {u w F cs x},ow u F cs x→Agr F u w→ow w F cs x
 ow_nd:∀ {w F cs x},ow w F cs x→F.Nodup
open Enc (rd ow)
class Flat (α:Type) where
 sz:Nat
 e:α→List Value
 len:∀ x,(e x).length=sz
 one:∀ x,∀ c∈e x,c.oneCell'=true
instance {α:Type} [Flat α]:Enc α where
 sz:=Flat.sz α
 rd:=λ_ F cs x=>F=[]∧cs=Flat.e x
 ow:=λ_ F cs x=>F=[]∧cs=Flat.e x
 rd_sz:=λh=>by rw [h.2]; exact Flat.len _
 rd_one:=λh=>by rw [h.2]; exact Flat.one _
 ow_rd:=id
 rd_lt:=λh=>by rw [h.1]; simp
 rd_agr:=λh _=>h
 ow_agr:=λh _=>h
 ow_nd:=λh=>by rw [h.1]; simp
structure U8 where
 n:Int
 deriving DecidableEq
instance:Flat Int:=⟨1,λn=>[.int .i64 n],λ_=>rfl,λ_=>by simp [Value.oneCell']⟩
instance:Flat Bool:=⟨1,λn=>[.bool n],λ_=>rfl,λ_=>by simp [Value.oneCell']⟩
instance:Flat U8:=⟨1,λb=>[.int .u8 b.n],λ_=>rfl,λ_=>by simp [Value.oneCell']⟩
instance:Flat ByteArray:=⟨1,λs=>[.string s],λ_=>rfl,λ_=>by simp [Value.oneCell']⟩
theorem IF {w:World} {g:Nat} {o:Obj} (h:w.heap[g]? = some o):g<w.heap.size:=(Array.getElem?_eq_some_iff.1 h).1
theorem qo {F:List Nat} {u w:World} (h:Agr F u w) (hl:∀ b∈F,b<u.heap.size):∀ b∈F,b<w.heap.size:=λb D=>by
 have A:=h b D
 have E:=hl b D
 rw [Array.getElem?_eq_getElem E] at A
 exact IF A
def jM {α:Type} [Enc α] (w:World) (F:List Nat):List Value→List α→Prop
 | _,[]=>True
 | cells,x::xs=>(∃ G,(∀ b∈G,b∈F)∧rd w G (cells.take (Enc.sz α)) x)∧jM w F (cells.drop (Enc.sz α)) xs
def ah {α:Type} [Enc α] (w:World):List (List Nat)→List Value→List α→Prop
 | [],cells,[]=>cells=[]
 | G::Gs,cells,x::xs=>ow w G (cells.take (Enc.sz α)) x∧ah w Gs (cells.drop (Enc.sz α)) xs
 | _,_,_=>False
theorem pB {α:Type} [Enc α] {u w:World} {F:List Nat} (hA:Agr F u w):∀ {cells:List Value} {A:List α},jM u F cells A→jM w F cells A
 | _,[],_=>trivial
 | cells,x::A,⟨⟨G,hG,h⟩,h'⟩=>⟨⟨G,hG,Enc.rd_agr h (hA.sub hG)⟩,pB hA h'⟩
theorem YQ {α:Type} [Enc α] {u w:World}:∀ {Gs:List (List Nat)} {cells:List Value} {D:List α},Agr Gs.flatten u w→ah u Gs cells D→ah w Gs cells D
 | [],_,[],_,h=>h
 | G::Gs,cells,x::D,hA,⟨h,h'⟩=>⟨Enc.ow_agr h (hA.sub (λb A=>by simp [A])),YQ (hA.sub (λb A=>by rw [List.flatten_cons]; exact List.mem_append_right _ A)) h'⟩
 | [],_,_::_,_,h=>h.elim
 | _::_,_,[],_,h=>h.elim
theorem kF {α:Type} [Enc α] {w:World} {F:List Nat}:∀ {Gs:List (List Nat)} {cells:List Value} {D:List α},(∀ b∈Gs.flatten,b∈F)→ah w Gs cells D→jM w F cells D
 | [],_,[],_,_=>trivial
 | G::Gs,cells,x::D,hF,⟨h,h'⟩=>⟨⟨G,λb A=>hF b (by simp [A]),Enc.ow_rd h⟩,kF (λb A=>hF b (by rw [List.flatten_cons]; exact List.mem_append_right _ A)) h'⟩
 | [],_,_::_,_,h=>h.elim
 | _::_,_,[],_,h=>h.elim
theorem ZL {α:Type} [Enc α] {w:World}:∀ {Gs:List (List Nat)} {cells:List Value} {A:List α},ah w Gs cells A→Gs.length=A.length∧cells.length=A.length*Enc.sz α
 | [],_,[],h=>by simp only [ah] at h; subst h; simp
 | G::Gs,cells,x::A,⟨h,h'⟩=>by
  obtain ⟨E,D⟩:=ZL h'
  have J:=Enc.rd_sz (Enc.ow_rd h)
  simp only [List.length_take,List.length_drop] at D J
  refine ⟨by simp [E],?_⟩
  simp only [List.length_cons,Nat.add_mul,Nat.one_mul]
  omega
 | [],_,_::_,h=>h.elim
 | _::_,_,[],h=>h.elim
theorem gT {α:Type} [Enc α] {w:World}:∀ {Gs:List (List Nat)} {cells:List Value} {D:List α},ah w Gs cells D→∀ b∈Gs.flatten,b<w.heap.size
 | [],_,[],_=>by simp
 | G::Gs,cells,x::D,⟨h,h'⟩=>by
  intro b A
  rw [List.flatten_cons,List.mem_append] at A
  rcases A with A | A
  · exact Enc.rd_lt (Enc.ow_rd h) b A
  · exact gT h' b A
 | [],_,_::_,h=>h.elim
 | _::_,_,[],h=>h.elim
def rdS {α:Type} [Enc α] (w:World) (F:List Nat) (cs:List Value) (xs:List α):Prop :=
 ∃ A cap,cs=[.slice A xs.length cap]∧xs.length≤cap∧cap≤maxLen∧(∀ b∈F,b<w.heap.size) ∧
  (xs=[]∨∃ g off c e D,A=some ⟨g,off,none⟩∧g∈F∧w.heap[g]? = some (.cells c e D)∧jM w F (c.toList.drop off) xs)
def owS {α:Type} [Enc α] (w:World) (F:List Nat) (cs:List Value) (xs:List α):Prop :=
 (cs=[.slice none 0 0]∧xs=[]∧F=[]) ∨
 ∃ g off cap c e Gs,cs=[.slice (some ⟨g,off,none⟩) xs.length cap]∧xs.length≤cap∧cap≤maxLen∧w.heap[g]? = some (.cells c e (0,0)) ∧
  off+cap*Enc.sz α≤c.size∧ah w Gs ((c.toList.drop off).take (xs.length*Enc.sz α)) xs∧F=g::Gs.flatten∧F.Nodup
theorem ms {α:Type} [Enc α] {w:World} {F:List Nat}:∀ {A:List α} {cells:List Value},jM w F (cells.take (A.length*Enc.sz α)) A→jM w F cells A
 | [],_,_=>trivial
 | x::A,cells,⟨⟨G,hG,h⟩,h'⟩=>by
  refine ⟨⟨G,hG,?_⟩,?_⟩
  · rw [List.take_take,show min (Enc.sz α) ((x::A).length*Enc.sz α)=Enc.sz α by simp [Nat.add_mul]] at h
    exact h
  · refine ms ?_
    rw [List.drop_take] at h'
    rw [show (x::A).length*Enc.sz α - Enc.sz α=A.length*Enc.sz α by simp [Nat.add_mul]] at h'
    exact h'
theorem pj {α:Type} [Enc α] {w:World} {F:List Nat} {cs:List Value} {xs:List α} (h:owS w F cs xs):rdS w F cs xs:=by
 rcases h with ⟨rfl,rfl,rfl⟩ | ⟨g,off,cap,c,e,Gs,rfl,L,J,E,N,D,rfl,O⟩
 · exact ⟨none,0,rfl,AD,by simp [maxLen],AD,.inl rfl⟩
 · refine ⟨_,_,rfl,L,J,?_,?_⟩
   · intro b A
     rcases List.mem_cons.1 A with rfl | A
     · exact IF E
     · exact gT D b A
   · exact .inr ⟨g,off,c,e,_,rfl,AD,E,ms (kF (λb A=>List.mem_cons_of_mem _ A) D)⟩
instance {α:Type} [Enc α]:Enc (List α) where
 sz:=1
 rd:=rdS
 ow:=owS
 rd_sz:=λh=>by obtain ⟨_,_,rfl,_⟩:=h; rfl
 rd_one:=λh=>by obtain ⟨_,_,rfl,_⟩:=h; simp [Value.oneCell']
 ow_rd:=pj
 rd_lt:=λh=>by obtain ⟨_,_,_,_,_,h,_⟩:=h; exact h
 rd_agr:=λh hA=>by
  obtain ⟨ao,cap,rfl,h1,h2,h3,h4⟩:=h
  refine ⟨ao,cap,rfl,h1,h2,qo hA h3,?_⟩
  rcases h4 with h4 | ⟨g,off,c,e,fr,rfl,hg,hh,hl⟩
  · exact .inl h4
  · exact .inr ⟨g,off,c,e,fr,rfl,hg,(hA g hg).trans hh,pB hA hl⟩
 ow_agr:=λh hA=>by
  rcases h with ⟨rfl,rfl,rfl⟩ | ⟨g,off,cap,c,e,Gs,rfl,h1,h2,h3,h4,h5,rfl,h6⟩
  · exact .inl ⟨rfl,rfl,rfl⟩
  · exact .inr ⟨g,off,cap,c,e,Gs,rfl,h1,h2,(hA g AD).trans h3,h4,YQ (hA.sub (λb hb=>List.mem_cons_of_mem _ hb)) h5,rfl,h6⟩
 ow_nd:=λh=>by
  rcases h with ⟨rfl,rfl,rfl⟩ | ⟨g,off,cap,c,e,Gs,rfl,h1,h2,h3,h4,h5,rfl,h6⟩
  · simp
  · exact h6
def PtAt (u:World) (p:Addr) (cs:List Value):Prop :=
 ∃ g off c e A,p=⟨g,off,none⟩∧u.heap[g]? = some (.cells c e A)∧(c.toList.drop off).take cs.length=cs
theorem PtAt.agr {u w:World} {p:Addr} {cs:List Value} (h:PtAt u p cs) {F:List Nat} (L:Agr F u w) (D:p.block∈F):PtAt w p cs:=by
 obtain ⟨g,off,c,e,J,rfl,A,E⟩:=h
 exact ⟨g,off,c,e,J,rfl,(L g D).trans A,E⟩
theorem GS (g off k:Nat):(⟨g,off,none⟩:Addr).add k=⟨g,off+k,none⟩:=by unfold Addr.add; split <;> simp_all
theorem PtAt.fld {u:World} {p:Addr} {cs:List Value} (h:PtAt u p cs) (k n:Nat) (J:k+n≤cs.length):PtAt u (p.add k) ((cs.drop k).take n):=by
 obtain ⟨g,off,c,e,E,rfl,A,D⟩:=h
 refine ⟨g,off+k,c,e,E,GS g off k,A,?_⟩
 have hl:((cs.drop k).take n).length=n:=AJ
 rw [hl]
 conv=>rhs; rw [← D]
 rw [List.drop_take,List.take_take,List.drop_drop]
 congr 1
 omega
theorem PtAt.cell {u:World} {p:Addr} {cs:List Value} (h:PtAt u p cs):∀ j v,cs[j]? = some v→u.cell? (p.add j)=some v:=by
 intro j v A
 obtain ⟨g,off,c,e,J,rfl,D,E⟩:=h
 rw [GS,cell_of_row u g _ c e J D]
 rw [← E,List.getElem?_take,List.getElem?_drop] at A
 split at A
 · simpa using A
 · simp at A
def bx (u:World) (b:Nat) (cs:List Value) (e:TypeId):Prop:=u.heap[b]? = some (.cells cs.toArray e (0,0))
theorem bx.pt {u:World} {b:Nat} {cs:List Value} {e:TypeId} (h:bx u b cs e):PtAt u ⟨b,0,none⟩ cs:=⟨b,0,_,e,_,rfl,h,AD⟩
theorem bx.agr {u w:World} {b:Nat} {cs:List Value} {e:TypeId} (h:bx u b cs e) {F:List Nat} (A:Agr F u w) (D:b∈F):bx w b cs e:=(A b D).trans h
def Kh (v:Value) (sz:Nat) (i:Nat):Addr:=match v with
 | .slice (some a) _ _=>a.add (i*sz)
 | _=>default
theorem eR {α:Type} [Enc α] {w:World} {F:List Nat}:∀ {D:List α} {cells:List Value} {i:Nat} {x:α},jM w F cells D→D[i]? = some x →
    ∃ G,(∀ b∈G,b∈F)∧rd w G ((cells.drop (i*Enc.sz α)).take (Enc.sz α)) x
 | [],_,i,x,_,h=>by simp at h
 | y::ys,cells,0,x,⟨⟨G,A,h⟩,_⟩,hx=>by
  simp only [List.getElem?_cons_zero,Option.some.injEq] at hx
  subst hx
  exact ⟨G,A,by simpa using h⟩
 | y::ys,cells,i+1,x,⟨_,h'⟩,hx=>by
  obtain ⟨G,A,h⟩:=eR h' (by simpa using hx)
  refine ⟨G,A,?_⟩
  rw [List.drop_drop] at h
  rw [show (i+1)*Enc.sz α=Enc.sz α+i*Enc.sz α by rw [Nat.add_mul]; omega]
  exact h
theorem AR {α:Type} [Enc α] {w:World} {F:List Nat} {v:Value} {xs:List α} {i:Nat} {x:α} (h:rd w F [v] xs) (hx:xs[i]? = some x) :
    ∃ G cells,(∀ b∈G,b∈F)∧rd w G cells x∧PtAt w (Kh v (Enc.sz α) i) cells∧(Kh v (Enc.sz α) i).block∈F:=by
 obtain ⟨_,cap,D,_,_,_,O⟩:=h
 simp only [List.cons.injEq,and_true] at D
 subst D
 rcases O with rfl | ⟨g,off,c,e,L,rfl,N,E,hl⟩
 · simp at hx
 · obtain ⟨G,J,A⟩:=eR hl hx
   refine ⟨G,_,J,A,?_,?_⟩
   · simp only [Kh,GS]
     refine ⟨g,_,c,e,L,rfl,E,?_⟩
     have:=Enc.rd_sz A
     rw [this,List.drop_drop]
   · simpa [Kh,GS] using N
theorem kQ {α:Type} [Flat α] {w:World} {F:List Nat} {v:Value} {xs:List α} {i:Nat} {x:α} (h:rd w F [v] xs) (hx:xs[i]? = some x) :
    PtAt w (Kh v (Flat.sz α) i) (Flat.e x)∧(Kh v (Flat.sz α) i).block∈F:=by
 obtain ⟨G,cells,_,E,D,J⟩:=AR h hx
 have A:G=[]∧cells=Flat.e x:=E
 rw [A.2] at D
 exact ⟨D,J⟩
theorem ME {α:Type} [Enc α] {w:World} {F:List Nat} {v:Value} {xs:List α} (h:rd w F [v] xs):∃ A cap,v=.slice A xs.length cap∧xs.length≤cap∧cap≤maxLen:=by
 obtain ⟨A,cap,D,J,E,_⟩:=h
 simp only [List.cons.injEq,and_true] at D
 exact ⟨A,cap,D,J,E⟩
end Go.Proofs.YtdgpkmgnjdpieaaGreatDoor
set_option linter.unusedSimpArgs false
set_option linter.unusedVariables false
namespace Go.Proofs.YtdgpkmgnjdpieaaGreatDoor
open Go Go.RowKit
open Enc (rd ow)
def ix {α:Type} (A:List α) (n:Int):Option α:=if 0≤n then A[n.toNat]? else none
theorem AG {α:Type} {A:List α} {n:Int} {x:α} (h:ix A n=some x):0≤n∧n<A.length∧A[n.toNat]? = some x:=by
 unfold ix at h
 split at h
 · rename_i D
   have:=(List.getElem?_eq_some_iff.1 h).1
   exact ⟨D,AC,h⟩
 · simp at h
section
variable {P:Program} {ops:Array Oper} {Q:Exit→Act→World→Prop} {rest:List Oper} {o:Oper} {a:Act} {w:World} {N:Nat} {L:List (Nat×Value)}
variable {X:List Nat} {w0:World} {M:List (List Nat×World)} {d:Nat}
theorem Ux (D:K N L a) {v:Value} {w':World} (E:gd L ops o.guard=some true) (J:o.dst=some d) (O:Nat.blt d N=true)
    (hr:(execOp a.eval o).run P w=.ok (.value v) w') (h:∀ a,K N ((d,v)::L) a→wpList P ops Q rest a w'):wpList P ops Q (o::rest) a w :=
 ct D E hr λ_ A=>by rw [Oper.upon_value,J]; exact A _ _ (h _ (D.put d O v))
theorem m0 (D:K N L a) {w':World} (E:gd L ops o.guard=some true) (J:o.dst=none)
    (hr:(execOp a.eval o).run P w=.ok .skip w') (h:∀ a,K N L a→wpList P ops Q rest a w'):wpList P ops Q (o::rest) a w :=
 ct D E hr λ_ A=>by rw [Oper.upon_skip,J]; exact A _ _ (h _ D)
theorem ig {α:Type} [Enc α] {u:World} {F:List Nat} {v:Value} {xs:List α} (hf:rd u F [v] xs) (hK:K N L a) {t e:TypeId} (hu:P.underlying t=some (.slice e)) {x:Operand}
    (ho:o.op=.call { callee:=.builtin .len,args:=#[x],argTypes:=#[t] }) (hv:ev L x=some v) :
    (execOp a.eval o).run P w=.ok (.value (.int .i64 (xs.length:Int))) w:=by
 obtain ⟨_,cap,rfl,_⟩:=ME hf
 simp [execOp,ho,resolve,invoke,builtin,Builtin.len_,hK.ev hv,run_underlying hu,goInt]
theorem c8 {s:ByteArray} (A:K N L a) {t:TypeId} (D:P.underlying t=some .string) {x:Operand}
    (ho:o.op=.call { callee:=.builtin .len,args:=#[x],argTypes:=#[t] }) (hv:ev L x=some (.string s)) :
    (execOp a.eval o).run P w=.ok (.value (.int .i64 (s.size:Int))) w:=by
 simp [execOp,ho,resolve,invoke,builtin,Builtin.len_,A.ev hv,run_underlying D,goInt]
def sx (s:ByteArray) (n:Int):Option Int:=if 0≤n then (s[n.toNat]?).map λb=>(b.toNat:Int) else none
theorem mj {s:ByteArray} {n:Int} {k:IntKind} {b:Int} (A:sx s n=some b) (E:K N L a) {t:TypeId} (O:P.underlying t=some .string) {x i:Operand}
    (ho:o.op=.index t x i) (hv:ev L x=some (.string s)) (hi:ev L i=some (.int k n)) :
    (execOp a.eval o).run P w=.ok (.value (.int .u8 b)) w:=by
 unfold sx at A
 split at A
 · rename_i J
   cases D:s[n.toNat]? with
   | none=>simp [D] at A
   | some c =>
    simp only [D,Option.map_some,Option.some.injEq] at A
    subst A
    simp [execOp,ho,Instr.index,E.ev hv,E.ev hi,run_underlying O,asIntOf,J,D]
 · simp at A
def tM (s:ByteArray) (lo hi:Int):Option ByteArray:=if 0≤lo∧lo≤hi∧hi≤s.size then some (s.extract lo.toNat hi.toNat) else none
theorem tE {s r:ByteArray} {lo D:Int} {k O:IntKind} (A:tM s lo D=some r) (E:K N L a) {t:TypeId} (T:P.underlying t=some .string) {x i j:Operand}
    (ho:o.op=.slice t x (some i) (some j) none) (hv:ev L x=some (.string s)) (hi:ev L i=some (.int k lo)) (hj:ev L j=some (.int O D)) :
    (execOp a.eval o).run P w=.ok (.value (.string r)) w:=by
 unfold tM at A
 split at A
 · rename_i J
   simp only [Option.some.injEq] at A
   subst A
   have U:lo≤max D 0:=AC
   simp [execOp,ho,Instr.sliceAt,Instr.slice,Instr.sliceBounds,Instr.sliceBound,E.ev hv,E.ev hi,E.ev hj,run_underlying T,asIntOf,J.1,J.2.2,U,show 0≤D by omega]
 · simp at A
theorem ww {s r:ByteArray} {lo:Int} {k:IntKind} (A:tM s lo s.size=some r) (E:K N L a) {t:TypeId} (J:P.underlying t=some .string) {x i:Operand}
    (ho:o.op=.slice t x (some i) none none) (hv:ev L x=some (.string s)) (hi:ev L i=some (.int k lo)) :
    (execOp a.eval o).run P w=.ok (.value (.string r)) w:=by
 unfold tM at A
 split at A
 · rename_i D
   simp only [Option.some.injEq] at A
   subst A
   simp [execOp,ho,Instr.sliceAt,Instr.slice,Instr.sliceBounds,Instr.sliceBound,E.ev hv,E.ev hi,run_underlying J,asIntOf,D.1,D.2.1]
 · simp at A
def NY (x y:ByteArray):Option ByteArray:=if x.size+y.size≤140737488355328 then some (x++y) else none
theorem TP {x y r:ByteArray} (A:NY x y=some r) (D:K N L a) {t E:TypeId} {i j:Operand}
    (ho:o.op=.binOp .add t i j E) (hv:ev L i=some (.string x)) (hi:ev L j=some (.string y)) :
    (execOp a.eval o).run P w=.ok (.value (.string r)) w:=by
 unfold NY at A
 split at A
 · rename_i J
   simp only [Option.some.injEq] at A
   subst A
   simp [execOp,ho,D.ev hv,D.ev hi,dA,binOp,Op.stringOp]
   omega
 · simp at A
theorem nb {k A:IntKind} {n:Int} (E:K N L a) {s t:TypeId} (D:P.underlying s=some (.int k)) (J:P.underlying t=some (.int A)) {x:Operand}
    (ho:o.op=.convert s t x) (hv:ev L x=some (.int k n)) :
    (execOp a.eval o).run P w=.ok (.value (.int A (A.wrap n))) w:=by
 simp [execOp,ho,convert,E.ev hv,run_underlying D,run_underlying J,Conv.intToInt]
theorem wh {k:IntKind} {x y:Int} (D:y≠0) (A:K N L a) {t E:TypeId} {i j:Operand}
    (ho:o.op=.binOp .rem t i j E) (hv:ev L i=some (.int k x)) (hi:ev L j=some (.int k y)) :
    (execOp a.eval o).run P w=.ok (.value (.int k (x.tmod y))) w:=by
 simp [execOp,ho,A.ev hv,A.ev hi,dx,binOp,Op.intDiv,D]
theorem hX {k D:IntKind} {x:Int} {y:Nat} (A:K N L a) {t J:TypeId} {i j:Operand}
    (ho:o.op=.binOp .shr t i j J) (hv:ev L i=some (.int k x)) (hi:ev L j=some (.int D (y:Int))) :
    (execOp a.eval o).run P w=.ok (.value (.int k (x.fdiv (2 ^ (min y k.bits))))) w:=by
 have E:¬ ((y:Int)<0):=AC
 simp [execOp,ho,A.ev hv,A.ev hi,eqGuard,binOp,Op.shift,E]
theorem b4 (P:Program) (w:World) (A:BinOp) (t:TypeId) (x y:Operand) (a b:Bool) :
    (eqGuard A t x y (.bool a) (.bool b)).run P w=.ok () w:=by
 unfold eqGuard
 by_cases h:(!(A matches .eql | .neq))=true <;> simp [h]
theorem fo {t:TypeId} (A:P.underlying t=some .bool) (x y:Bool):(Op.equal t (.bool x) (.bool y)).run P w=.ok (x==y) w:=by
 show (Op.equalIn (9999+1) t (.bool x) (.bool y)).run P w=_
 generalize 9999=n
 simp only [Op.equalIn,Sem.run_bind,run_underlying A w,Result.andThen_ok,Sem.run_pure]
theorem q9 {x y:Bool} (A:K N L a) {t D:TypeId} (E:P.underlying t=some .bool) {i j:Operand}
    (ho:o.op=.binOp .eql t i j D) (hv:ev L i=some (.bool x)) (hi:ev L j=some (.bool y)) :
    (execOp a.eval o).run P w=.ok (.value (.bool (x==y))) w:=by
 simp only [execOp,ho,A.ev hv,A.ev hi,Sem.run_bind,b4,Result.andThen_ok,binOp,fo E,Sem.run_pure]
theorem sJ {x y:Bool} (A:K N L a) {t D:TypeId} (E:P.underlying t=some .bool) {i j:Operand}
    (ho:o.op=.binOp .neq t i j D) (hv:ev L i=some (.bool x)) (hi:ev L j=some (.bool y)) :
    (execOp a.eval o).run P w=.ok (.value (.bool (!(x==y)))) w:=by
 simp only [execOp,ho,A.ev hv,A.ev hi,Sem.run_bind,b4,Result.andThen_ok,binOp,fo E,Sem.run_pure]
theorem OR (w:World) (cs:Array Value) (e:TypeId):∀ b∈[w.heap.size],w.heap.size≤b∧b<(w.alloc (.cells cs e)).heap.size:=AD
theorem AW {cs:List Value} {v:Value} (D:St X w0 w M) (A:K N L a) {e:TypeId} {x:Operand}
    (hg:gd L ops o.guard=some true) (hd:o.dst=some d) (hN:Nat.blt d N=true)
    (ho:o.op=.box e x) (hv:ev L x=some v) (hc:v.cells=cs.toArray)
    (h:∀ b w' a,K N ((d,.pointer (some ⟨b,0,none⟩))::L) a→St X w0 w' (([b],w')::M)→Ext [] w w'→bx w' b cs e→wpList P ops Q rest a w'):wpList P ops Q (o::rest) a w:=by
 refine Ux A hg hd hN (v:=.pointer (some ⟨w.heap.size,0,none⟩)) (w':=w.alloc (.cells cs.toArray e)) ?_ λa A=>h _ _ a A (D.new (Ext.alloc _ _) _ (OR _ _ _) AD) (Ext.alloc _ _) (heap_alloc_new w _)
 simp [execOp,ho,A.ev hv,Instr.box,newVar,newRow,hc]
theorem AP {cs:List Value} {z:Value} (D:St X w0 w M) (A:K N L a) {e:TypeId} (E:∀ w,(zeroValue e).run P w=.ok z w)
    (hg:gd L ops o.guard=some true) (hd:o.dst=some d) (hN:Nat.blt d N=true)
    (ho:o.op=.alloc e) (hc:z.cells=cs.toArray)
    (h:∀ b w' a,K N ((d,.pointer (some ⟨b,0,none⟩))::L) a→St X w0 w' (([b],w')::M)→Ext [] w w'→bx w' b cs e→wpList P ops Q rest a w'):wpList P ops Q (o::rest) a w:=by
 refine Ux A hg hd hN (v:=.pointer (some ⟨w.heap.size,0,none⟩)) (w':=w.alloc (.cells cs.toArray e)) ?_ λa A=>h _ _ a A (D.new (Ext.alloc _ _) _ (OR _ _ _) AD) (Ext.alloc _ _) (heap_alloc_new w _)
 simp [execOp,ho,E,Instr.alloc,newVar,newRow,hc]
def FA (P:Program) (t:TypeId) (f off:Nat):Prop:=∀ (w:World) (p:Addr),(Instr.fieldAt t (.pointer (some p)) f).run P w=.ok (.pointer (some (p.add off))) w
theorem DQ {t:TypeId} {f off:Nat} {D:Array Field} {A:Field} {n:Nat} (O:P.underlying t=some (.struct D)) (J:D[f]? = some A) (E:A.offset=off)
    (hs:∀ w,(sizeOf A.type).run P w=.ok (n+1) w):FA P t f off:=λw p=>by
 subst E
 simp [Instr.fieldAt,run_underlying O,J,Instr.sureAddr,fieldPlace,hs]
theorem M5 {t:TypeId} {f off:Nat} (D:FA P t f off) {p:Addr} (A:K N L a) {x:Operand}
    (ho:o.op=.fieldAddr t x f) (hv:ev L x=some (.pointer (some p))) :
    (execOp a.eval o).run P w=.ok (.value (.pointer (some (p.add off)))) w:=by
 simp [execOp,ho,A.ev hv,D w p]
def T1 (P:Program) (t:TypeId):Prop:=(∀ w,(isAgg t).run P w=.ok false w)∧∀ w,(sizeOf t).run P w=.ok 1 w
def TA (P:Program) (t n:Nat):Prop:=(∀ w,(isAgg t).run P w=.ok true w)∧∀ w,(sizeOf t).run P w=.ok n w
theorem mL {t:TypeId} (A:T1 P t) {p:Addr} {v:Value} {r:List Value} (h:PtAt w p (v::r)):(loadVar t p).run P w=.ok v w:=by
 have:=h.cell 0 v rfl
 rw [show p.add 0=p by simp [Addr.add]] at this
 simp [loadVar,A.1,this]
theorem lv {t n:Nat} (A:TA P t n) {p:Addr} {cs:List Value} (h:PtAt w p cs) (D:cs.length=n):(loadVar t p).run P w=.ok (.agg cs.toArray) w:=by
 have hl:=run_loadCells_list (P:=P) w p cs h.cell
 rw [D] at hl
 simp [loadVar,A.1,A.2,hl]
theorem A9 {t:TypeId} (A:T1 P t) {p:Addr} {v:Value} {r:List Value} (D:PtAt w p (v::r)) (E:K N L a) {x:Operand}
    (ho:o.op=.load t x) (hv:ev L x=some (.pointer (some p))) :
    (execOp a.eval o).run P w=.ok (.value (v)) w:=by
 simp [execOp,ho,E.ev hv,Instr.loadAt,Instr.sureAddr,mL A D]
theorem DV {t n:Nat} (A:TA P t n) {p:Addr} {cs:List Value} (D:PtAt w p cs) (J:cs.length=n) (E:K N L a) {x:Operand}
    (ho:o.op=.load t x) (hv:ev L x=some (.pointer (some p))) :
    (execOp a.eval o).run P w=.ok (.value (.agg cs.toArray)) w:=by
 simp [execOp,ho,E.ev hv,Instr.loadAt,Instr.sureAddr,lv A D J]
theorem bx.at {u:World} {b:Nat} {cs:List Value} {e:TypeId} (D:bx u b cs e) (E:Agr [b] u w) (off n:Nat) {vs:List Value} (O:(cs.drop off).take n=vs) (hl:vs.length=n) {p:Addr}
    (hp:p=(⟨b,0,none⟩:Addr).add off):PtAt w p vs:=by
 subst O
 have A:off+n≤cs.length∨n=0:=by simp at hl; omega
 have J:=(D.agr E AD).pt
 subst hp
 rcases A with A | rfl
 · exact J.fld off n A
 · simp only [List.take_zero]
   exact ⟨b,0+off,_,e,_,GS _ _ _,D.agr E AD,AD⟩
theorem y5 {t:TypeId} (A:T1 P t) (T:St X w0 w M) (i:Nat) {u:World} {b:Nat} {cs:List Value} {e:TypeId} (O:bx u b cs e) (off:Nat) (J:K N L a) {x:Operand} {p:Addr} {v:Value}
    (hi:M[i]? = some ([b],u))
    (ho:o.op=.load t x) (hv:ev L x=some (.pointer (some p))) (hp:p=(⟨b,0,none⟩:Addr).add off) (hc:cs[off]? = some v) :
    (execOp a.eval o).run P w=.ok (.value (v)) w :=
 A9 A (r:=[]) (O.at (T.a i hi) off 1 (by
  obtain ⟨D,E⟩:=List.getElem?_eq_some_iff.1 hc
  rw [List.drop_eq_getElem_cons D,E]; rfl) rfl hp) J ho hv
theorem vG {t n:Nat} (A:TA P t n) (J:St X w0 w M) (i:Nat) {u:World} {b:Nat} {cs:List Value} {e:TypeId} (E:bx u b cs e) (off:Nat) (D:K N L a) {x:Operand} {p:Addr} {vs:List Value}
    (hi:M[i]? = some ([b],u))
    (ho:o.op=.load t x) (hv:ev L x=some (.pointer (some p))) (hp:p=(⟨b,0,none⟩:Addr).add off) (hc:(cs.drop off).take n=vs) (hl:vs.length=n) :
    (execOp a.eval o).run P w=.ok (.value (.agg vs.toArray)) w :=
 DV A (E.at (J.a i hi) off n hc hl hp) hl D ho hv
def TS (P:Program) (t sz:Nat):Prop:=∃ e,P.underlying t=some (.slice e)∧∀ w,(sizeOf e).run P w=.ok sz w
theorem BK {α:Type} [Enc α] {u:World} {F:List Nat} {v:Value} {xs:List α} (hf:rd u F [v] xs) {n:Int} {y:α} (hx:ix xs n=some y) (hK:K N L a) {t:TypeId} (D:TS P t (Enc.sz α)) {x i:Operand} {k:IntKind}
    (ho:o.op=.indexAddr t x i) (hv:ev L x=some v) (hi:ev L i=some (.int k n)) :
    (execOp a.eval o).run P w=.ok (.value (.pointer (some (Kh v (Enc.sz α) n.toNat)))) w:=by
 obtain ⟨T,E,O⟩:=AG hx
 obtain ⟨e,D,V⟩:=D
 obtain ⟨_,cap,A,_,_,_,U⟩:=hf
 simp only [List.cons.injEq,and_true] at A
 subst A
 rcases U with rfl | ⟨g,off,c,h,Z,rfl,J,Y,hl⟩
 · simp at O
 · simp [execOp,ho,hK.ev hv,hK.ev hi,Instr.indexAt,asIntOf,run_underlying D,V,T,E,Kh]
theorem sH {α:Type} [Flat α] {u:World} {F:List Nat} {v:Value} {xs:List α} (hf:rd u F [v] xs) (hA:Agr F u w) {n:Int} {y:α} (hx:ix xs n=some y) {t:Nat} (hT:TA P t (Flat.sz α)) (hK:K N L a) {x:Operand}
    (ho:o.op=.load t x) (hv:ev L x=some (.pointer (some (Kh v (Flat.sz α) n.toNat)))) :
    (execOp a.eval o).run P w=.ok (.value (.agg (Flat.e y).toArray)) w:=by
 obtain ⟨D,A⟩:=kQ hf (AG hx).2.2
 exact DV hT (D.agr hA A) (Flat.len _) hK ho hv
theorem CI {α:Type} [Flat α] {u:World} {F:List Nat} {v:Value} {xs:List α} (hf:rd u F [v] xs) (hA:Agr F u w) {n:Int} {y:α} (hx:ix xs n=some y) (off:Nat) {t:Nat} (hT:T1 P t) (hK:K N L a) {x:Operand} {p:Addr} {c:Value}
    (ho:o.op=.load t x) (hv:ev L x=some (.pointer (some p))) (hp:p=(Kh v (Flat.sz α) n.toNat).add off) (hc:(Flat.e y)[off]? = some c) :
    (execOp a.eval o).run P w=.ok (.value (c)) w:=by
 obtain ⟨E,D⟩:=kQ hf (AG hx).2.2
 obtain ⟨O,J⟩:=List.getElem?_eq_some_iff.1 hc
 have A:=(E.agr hA D).fld off 1 AC
 rw [List.drop_eq_getElem_cons O,J] at A
 subst hp
 exact A9 hT (r:=[]) A hK ho hv
theorem kX (J:K N L a) {f:FuncId} {A:List Operand} {vs:List Value} {R:Ending→World→Prop} {E:Array TypeId}
    (hcall:∀ (args:Array Value) (w:World),(callFunc f args).run P w=.ok (.enter f args) w)
    (hg:gd L ops o.guard=some true) (hd:o.dst=some d) (hN:Nat.blt d N=true)
    (ho:o.op=.call { callee:=.value (.func f),args:=A.toArray,argTypes:=E }) (hv:evs L A=some vs)
    (hc:Calls P f vs.toArray w R) (hR:∀ e w',R e w'→∃ v,e=.returned v∧∀ a,K N ((d,v)::L) a→wpList P ops Q rest a w'):wpList P ops Q (o::rest) a w:=by
 have U:(A.map a.eval)=vs:=J.evs hv
 have T:A.toArray.map a.eval=vs.toArray:=by rw [List.map_toArray,U]
 refine ct J hg (r:=.ok (.enter f vs.toArray) w) ?_ λ_ D=>?_
 · simp [execOp,ho,resolve,Act.eval,Deferred.ofValue,invoke,T,hcall,-List.map_toArray]
 · rw [Oper.upon_enter]
   refine hc.mono λe w' h=>?_
   obtain ⟨v,rfl,O⟩:=hR e w' h
   rw [hd]
   exact D _ _ (O _ (J.put d hN v))
theorem UA (D:K N L a) {f:FuncId} {O:Operand} {cap:List Value} {A:List Operand} {vs:List Value} {R:Ending→World→Prop} {J:Array TypeId}
    (hcall:∀ (args:Array Value) (w:World),(callFunc f args).run P w=.ok (.enter f args) w)
    (hg:gd L ops o.guard=some true) (hd:o.dst=some d) (hN:Nat.blt d N=true)
    (ho:o.op=.call { callee:=.value O,args:=A.toArray,argTypes:=J }) (hf:ev L O=some (.func (.func f) #[] cap.toArray)) (hv:evs L A=some vs)
    (hc:Calls P f (vs++cap).toArray w R) (hR:∀ e w',R e w'→∃ v,e=.returned v∧∀ a,K N ((d,v)::L) a→wpList P ops Q rest a w'):wpList P ops Q (o::rest) a w:=by
 have V:(A.map a.eval)=vs:=D.evs hv
 have U:A.toArray.map a.eval=vs.toArray:=by rw [List.map_toArray,V]
 refine ct D hg (r:=.ok (.enter f (vs++cap).toArray) w) ?_ λ_ E=>?_
 · simp [execOp,ho,resolve,D.ev hf,Deferred.ofValue,invoke,U,hcall,-List.map_toArray]
 · rw [Oper.upon_enter]
   refine hc.mono λe w' h=>?_
   obtain ⟨v,rfl,T⟩:=hR e w' h
   rw [hd]
   exact E _ _ (T _ (D.put d hN v))
end
end Go.Proofs.YtdgpkmgnjdpieaaGreatDoor
