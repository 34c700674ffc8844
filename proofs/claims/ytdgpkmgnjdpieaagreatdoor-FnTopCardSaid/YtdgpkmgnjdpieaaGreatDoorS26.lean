/- own lemmas -/
import Derived.Test.YtdgpkmgnjdpieaaGreatDoorS12
import Derived.Test.YtdgpkmgnjdpieaaGreatDoorS15
import Derived.Test.YtdgpkmgnjdpieaaGreatDoorRows
import Derived.Test.YtdgpkmgnjdpieaaGreatDoorS4
set_option linter.unusedSimpArgs false
set_option linter.unusedVariables false
namespace Go.Proofs.YtdgpkmgnjdpieaaGreatDoor
open Go Go.RowKit
open Enc (rd ow)
inductive Fr where
 | sq (y:Code)
 | fn (R:Act→World→Prop)
 | bk (id:Nat)
def WX (P:Program) (B:Exit→Act→World→Prop):List Fr→Exit→Act→World→Prop
 | []=>B
 | .sq y::s=>Exit.then (λa w=>y.wp P (WX P B s) a w) (WX P B s)
 | .fn R::s=>Exit.then R (WX P B s)
 | .bk id::s=>Exit.inBlock id (WX P B s)
inductive Cf where
 | ops (o:Array Oper) (l:List Oper)
 | code (c:Code)
 | ex (e:Exit)
 | pr (R:Act→World→Prop)
@[reducible] def tP (P:Program) (B:Exit→Act→World→Prop):Cf→List Fr→Act→World→Prop
 | .ops o l,s,a,w=>wpList P o (WX P B s) l a w
 | .code c,s,a,w=>c.wp P (WX P B s) a w
 | .ex e,[],a,w=>B e a w
 | .ex e,s,a,w=>WX P B s e a w
 | .pr R,_,a,w=>R a w
class Tys (P:Program) where
 fa:List (Nat×Nat×Nat)
 hfa:∀ x∈fa,FA P x.1 x.2.1 x.2.2
 ts:List (Nat×Nat)
 hts:∀ x∈ts,TS P x.1 x.2
 t1:List Nat
 ht1:∀ x∈t1,T1 P x
 ta:List (Nat×Nat)
 hta:∀ x∈ta,TA P x.1 x.2
 sl:List Nat
 hsl:∀ x∈sl,∃ e,P.underlying x=some (.slice e)
 hmx:P.follows .mixedOrders=true
def xa:List (Nat×Nat)→Nat→Option Nat
 | [],_=>none
 | (x,y)::r,t=>bif Nat.beq x t then some y else xa r t
def yT:List (Nat×Nat×Nat)→Nat→Nat→Option Nat
 | [],_,_=>none
 | (x,y,n)::r,t,f=>bif Nat.beq x t&&Nat.beq y f then some n else yT r t f
def qX:List Nat→Nat→Bool
 | [],_=>false
 | x::r,t=>bif Nat.beq x t then true else qX r t
theorem eQ:∀ {l:List (Nat×Nat)} {t y:Nat},xa l t=some y→(t,y)∈l
 | [],t,y,h=>by simp [xa] at h
 | (x,z)::r,t,y,h=>by
  unfold xa at h
  cases A:Nat.beq x t
  · rw [A] at h; exact List.mem_cons_of_mem _ (eQ h)
  · rw [A] at h
    have:=Nat.eq_of_beq_eq_true A
    subst this
    simp only [cond_true,Option.some.injEq] at h
    subst h; simp
theorem oW:∀ {l:List (Nat×Nat×Nat)} {t f y:Nat},yT l t f=some y→(t,f,y)∈l
 | [],t,f,y,h=>by simp [yT] at h
 | (x,g,z)::r,t,f,y,h=>by
  unfold yT at h
  cases A:Nat.beq x t&&Nat.beq g f
  · rw [A] at h; exact List.mem_cons_of_mem _ (oW h)
  · rw [A] at h
    simp only [Bool.and_eq_true] at A
    have E:=Nat.eq_of_beq_eq_true A.1
    have D:=Nat.eq_of_beq_eq_true A.2
    subst E D
    simp only [cond_true,Option.some.injEq] at h
    subst h; simp
theorem aU:∀ {l:List Nat} {t:Nat},qX l t=true→t∈l
 | [],t,h=>by simp [qX] at h
 | x::r,t,h=>by
  unfold qX at h
  cases A:Nat.beq x t
  · rw [A] at h; exact List.mem_cons_of_mem _ (aU h)
  · have:=Nat.eq_of_beq_eq_true A
    subst this; simp
theorem Ext.agr0 {w w':World} {F:List Nat} (h:Ext [] w w') (hl:∀ b∈F,b<w.heap.size):Agr F w w':=λb A=>h.blk b (hl b A) AD
theorem PtAt.ext {w w':World} {p:Addr} {cs:List Value} (h:PtAt w p cs) (J:Ext [] w w'):PtAt w' p cs:=by
 obtain ⟨g,off,c,e,E,rfl,A,D⟩:=h
 have hl:g<w.heap.size:=(Array.getElem?_eq_some_iff.1 A).1
 exact ⟨g,off,c,e,E,rfl,(J.blk g hl AD).trans A,D⟩
structure Fx (P:Program) (w:World) where
 f:List (Nat×Value)→Op→Option (Value×List (Option Value×Option Value))
 ok:∀ {N:Nat} {L:List (Nat×Value)} {a:Act} {o:Oper} {v:Value} {xs:List (Option Value×Option Value)},K N L a→f L o.op=some (v,xs)→(∀ p∈xs,p.1=p.2)→∀ {w':World},Ext [] w w'→(execOp a.eval o).run P w'=.ok (.value v) w'
theorem XC {P:Program} {w:World} {B:Exit→Act→World→Prop} {e:Exit} {s:List Fr} {a:Act}:tP P B (.ex e) s a w↔WX P B s e a w:=by
 cases s <;> exact Iff.rfl
section
variable {P:Program} [T:Tys P] {w u w0:World} {X:List Nat} {M:List (List Nat×World)} {F:List Nat}
def eE (P:Program) [T:Tys P] (L:List (Nat×Value)):Op→Option Value
 | .fieldAddr t x f=>match yT T.fa t f with
  | some off=>match ev L x with
   | some (.pointer (some p))=>some (.pointer (some (p.add off)))
   | _=>none
  | none=>none
 | .nilCheck x=>match ev L x with
  | some (.pointer (some p))=>some (.pointer (some p))
  | _=>none
 | _=>none
theorem dv {N:Nat} {L:List (Nat×Value)} {a:Act} {o:Oper} {v:Value} (E:K N L a) (h:eE P L o.op=some v):(execOp a.eval o).run P w=.ok (.value v) w:=by
 unfold eE at h
 split at h
 · rename_i t x f A
   split at h
   · rename_i off hl
     split at h
     · rename_i p D
       cases h
       exact M5 (T.hfa _ (oW hl)) E A D
     · cases h
   · cases h
 · rename_i x A
   split at h
   · rename_i p D
     cases h
     exact KT E A D
   · cases h
 · cases h
def iF {α:Type} [Enc α] {v:Value} {xs:List α} {n:Int} {y:α} (hf:rd u F [v] xs) (hx:ix xs n=some y):Fx P w where
 f:=λL o=>match o with
  | .indexAddr t x i=>match xa T.ts t with
   | some s=>bif Nat.beq s (Enc.sz α) then match ev L i with
    | some (.int k m)=>some (.pointer (some (Kh v (Enc.sz α) n.toNat)),[(ev L x,some v),(some (.int k m),some (.int k n))])
    | _=>none else none
   | none=>none
  | _=>none
 ok:=by
  intro N L a o V D O h e w' U
  split at h
  · rename_i t x i J
    split at h
    · rename_i s hl
      cases A:Nat.beq s (Enc.sz α)
      · rw [A] at h; cases h
      · rw [A] at h
        have:=Nat.eq_of_beq_eq_true A
        subst this
        simp only [cond_true] at h
        split at h
        · rename_i k m E
          cases h
          simp only [List.mem_cons,List.not_mem_nil,or_false,forall_eq_or_imp,forall_eq] at e
          exact BK hf hx O (T.hts _ (eQ hl)) J e.1 (E.trans e.2)
        · cases h
    · cases h
  · cases h
def eF {α:Type} [Flat α] {v:Value} {xs:List α} {n:Int} {y:α} (hf:rd w F [v] xs) (hx:ix xs n=some y) (off:Nat):Fx P w where
 f:=λL o=>match o with
  | .load t x=>bif qX T.t1 t then match (Flat.e y)[off]? with
      | some c=>some (c,[(ev L x,some (.pointer (some ((Kh v (Flat.sz α) n.toNat).add off))))])
      | none=>none else none
  | _=>none
 ok:=by
  intro N L a o V O E h e w' U
  split at h
  · rename_i t x D
    cases A:qX T.t1 t
    · rw [A] at h; cases h
    · rw [A] at h
      simp only [cond_true] at h
      split at h
      · rename_i c J
        cases h
        simp only [List.mem_cons,List.not_mem_nil,or_false,forall_eq_or_imp,forall_eq] at e
        exact CI hf (U.agr0 (Enc.rd_lt hf)) hx off (T.ht1 _ (aU A)) E D e rfl J
      · cases h
  · cases h
def eA {α:Type} [Flat α] {v:Value} {xs:List α} {n:Int} {y:α} (hf:rd w F [v] xs) (hx:ix xs n=some y):Fx P w where
 f:=λL o=>match o with
  | .load t x=>match xa T.ta t with
   | some s=>bif Nat.beq s (Flat.sz α) then some (.agg (Flat.e y).toArray,[(ev L x,some (.pointer (some (Kh v (Flat.sz α) n.toNat))))]) else none
   | none=>none
  | _=>none
 ok:=by
  intro N L a o U J E h e w' O
  split at h
  · rename_i t x D
    split at h
    · rename_i s hl
      cases A:Nat.beq s (Flat.sz α)
      · rw [A] at h; cases h
      · rw [A] at h
        have:=Nat.eq_of_beq_eq_true A
        subst this
        simp only [cond_true] at h
        cases h
        simp only [List.mem_cons,List.not_mem_nil,or_false,forall_eq_or_imp,forall_eq] at e
        exact sH hf (O.agr0 (Enc.rd_lt hf)) hx (T.hta _ (eQ hl)) E D e
    · cases h
  · cases h
def bF {b:Nat} {cs:List Value} {e:TypeId} (V:St X w0 w M) (i:Nat) (U:bx u b cs e) (hi:M[i]? = some ([b],u)):Fx P w where
 f:=λL o=>match o with
  | .load t x=>bif qX T.t1 t then match ev L x with
   | some (.pointer (some p))=>match cs[p.off]? with
    | some c=>some (c,[(some (.pointer (some p)),some (.pointer (some ((⟨b,0,none⟩:Addr).add p.off))))])
    | none=>none
   | _=>none else none
  | _=>none
 ok:=by
  intro N L a o v' E hK h e w' J
  split at h
  · rename_i t x ho
    cases A:qX T.t1 t
    · rw [A] at h; cases h
    · rw [A] at h
      simp only [cond_true] at h
      split at h
      · rename_i p O
        split at h
        · rename_i c D
          cases h
          simp only [List.mem_cons,List.not_mem_nil,or_false,forall_eq_or_imp,forall_eq,Option.some.injEq,Value.pointer.injEq] at e
          exact y5 (T.ht1 _ (aU A)) (V.step J) i U _ hK hi ho O e D
        · cases h
      · cases h
  · cases h
def bA {b:Nat} {cs:List Value} {e:TypeId} (U:St X w0 w M) (i:Nat) (O:bx u b cs e) (hi:M[i]? = some ([b],u)):Fx P w where
 f:=λL o=>match o with
  | .load t x=>match xa T.ta t with
   | some n=>match ev L x with
    | some (.pointer (some p))=>bif Nat.beq ((cs.drop p.off).take n).length n then some (.agg ((cs.drop p.off).take n).toArray,[(some (.pointer (some p)),some (.pointer (some ((⟨b,0,none⟩:Addr).add p.off))))]) else none
    | _=>none
   | none=>none
  | _=>none
 ok:=by
  intro N L a o v' D hK h e w' E
  split at h
  · rename_i t x V
    split at h
    · rename_i n hl
      split at h
      · rename_i p J
        cases A:Nat.beq ((cs.drop p.off).take n).length n
        · rw [A] at h; cases h
        · rw [A] at h
          simp only [cond_true] at h
          cases h
          simp only [List.mem_cons,List.not_mem_nil,or_false,forall_eq_or_imp,forall_eq,Option.some.injEq,Value.pointer.injEq] at e
          exact vG (T.hta _ (eQ hl)) (U.step E) i O _ hK hi V J e rfl (Nat.eq_of_beq_eq_true A)
      · cases h
    · cases h
  · cases h
def pF {p:Addr} {c:Value} {r:List Value} (O:PtAt w p (c::r)):Fx P w where
 f:=λL o=>match o with
  | .load t x=>bif qX T.t1 t then some (c,[(ev L x,some (.pointer (some p)))]) else none
  | _=>none
 ok:=by
  intro N L a o V D U h e w' E
  split at h
  · rename_i t x J
    cases A:qX T.t1 t
    · rw [A] at h; cases h
    · rw [A] at h
      simp only [cond_true] at h
      cases h
      simp only [List.mem_cons,List.not_mem_nil,or_false,forall_eq_or_imp,forall_eq] at e
      exact A9 (T.ht1 _ (aU A)) (O.ext E) U J e
  · cases h
def lF {α:Type} [Enc α] {v:Value} {xs:List α} (hf:rd u F [v] xs):Fx P w where
 f:=λL o=>match o with
  | .call { callee:=.builtin .len,args:=⟨[x]⟩,argTypes:=⟨[t]⟩ }=>bif qX T.sl t then some (.int .i64 (xs.length:Int),[(ev L x,some v)]) else none
  | _=>none
 ok:=by
  intro N L a o U O E h e w' V
  split at h
  · rename_i x t D
    cases A:qX T.sl t
    · rw [A] at h; cases h
    · rw [A] at h
      simp only [cond_true] at h
      cases h
      simp only [List.mem_cons,List.not_mem_nil,or_false,forall_eq_or_imp,forall_eq] at e
      obtain ⟨_,J⟩:=T.hsl _ (aU A)
      exact ig hf E J D e
  · cases h
structure Cfg (P:Program) (w:World) where
 c:Cf
 s:List Fr
 L:List (Nat×Value)
 fs:List (Fx P w)
 xs:List (Option Value×Option Value)
def step (N:Nat):Cfg P w→Option (Cfg P w)
 | ⟨.ops o [],s,L,fs,xs⟩=>some ⟨.ex .normal,s,L,fs,xs⟩
 | ⟨.ops o (q::r),s,L,fs,xs⟩=>match q.dst with
  | none=>none
  | some d=>bif Nat.blt d N then (match gd L o q.guard with
   | none=>none
   | some false=>some ⟨.ops o r,s,(d,undef)::L,fs,xs⟩
   | some true=>match Ll L q.op with
    | some v=>some ⟨.ops o r,s,(d,v)::L,fs,xs⟩
    | none=>match eE P L q.op with
     | some v=>some ⟨.ops o r,s,(d,v)::L,fs,xs⟩
     | none=>match fs with
      | []=>none
      | f::fs=>match f.f L q.op with
       | some (v,x)=>some ⟨.ops o r,s,(d,v)::L,fs,x++xs⟩
       | none=>none) else none
 | ⟨.code c,s,L,fs,xs⟩=>match c with
  | .seq x y=>some ⟨.code x,.sq y::s,L,fs,xs⟩
  | .region _ ⟨l⟩ false=>some ⟨.ops l.toArray l,s,L,fs,xs⟩
  | .block id c=>some ⟨.code c,.bk id::s,L,fs,xs⟩
  | .cond t x y=>match ev L t with
   | some (.bool true)=>some ⟨.code x,s,L,fs,xs⟩
   | some (.bool false)=>some ⟨.code y,s,L,fs,xs⟩
   | _=>none
  | .skip=>some ⟨.ex .normal,s,L,fs,xs⟩
  | .exit id=>some ⟨.ex (.exit id),s,L,fs,xs⟩
  | .ret=>some ⟨.ex .ret,s,L,fs,xs⟩
  | _=>none
 | ⟨.ex .normal,.sq y::s,L,fs,xs⟩=>some ⟨.code y,s,L,fs,xs⟩
 | ⟨.ex .normal,.fn R::s,L,fs,xs⟩=>some ⟨.pr R,s,L,fs,xs⟩
 | ⟨.ex .normal,.bk _::s,L,fs,xs⟩=>some ⟨.ex .normal,s,L,fs,xs⟩
 | ⟨.ex (.exit i),.bk id::s,L,fs,xs⟩=>bif Nat.beq i id then some ⟨.ex .normal,s,L,fs,xs⟩ else some ⟨.ex (.exit i),s,L,fs,xs⟩
 | ⟨.ex (.exit i),.sq _::s,L,fs,xs⟩=>some ⟨.ex (.exit i),s,L,fs,xs⟩
 | ⟨.ex (.exit i),.fn _::s,L,fs,xs⟩=>some ⟨.ex (.exit i),s,L,fs,xs⟩
 | ⟨.ex .ret,_::s,L,fs,xs⟩=>some ⟨.ex .ret,s,L,fs,xs⟩
 | _=>none
def run (N:Nat):Nat→Cfg P w→Option (Cfg P w)
 | 0,c=>some c
 | n+1,c=>match step N c with
  | some c=>run N n c
  | none=>none
def lZ:List (Option Value×Option Value)→List (Option Value)
 | []=>[]
 | p::r=>p.1::lZ r
def mR:List (Option Value×Option Value)→List (Option Value)
 | []=>[]
 | p::r=>p.2::mR r
theorem kN:∀ {l:List (Option Value×Option Value)},lZ l=mR l→∀ p∈l,p.1=p.2
 | [],_,p,h=>by simp at h
 | q::r,e,p,h=>by
  simp only [lZ,mR,List.cons.injEq] at e
  rcases List.mem_cons.1 h with rfl | h
  · exact e.1
  · exact kN e.2 p h
theorem vw {B:Exit→Act→World→Prop} {N:Nat} {c e:Cfg P w} (h:step N c=some e) (D:∀ p∈e.xs,p.1=p.2) :
    (∀ p∈c.xs,p.1=p.2)∧∀ {a:Act},K N c.L a→(∀ {a},K N e.L a→tP P B e.c e.s a w)→tP P B c.c c.s a w:=by
 unfold step at h
 split at h
 · rename_i o s L V xs
   cases h
   exact ⟨D,λA k=>wpList_nil (XC.1 (k A))⟩
 · rename_i o q r s L V xs
   cases J:q.dst with
   | none=>rw [J] at h; cases h
   | some d =>
    rw [J] at h
    simp only at h
    cases O:Nat.blt d N
    · rw [O] at h; cases h
    · rw [O] at h
      simp only [cond_true] at h
      split at h
      · cases h
      · rename_i U
        cases h
        exact ⟨D,λA k=>sk A U J O λa A=>k A⟩
      · rename_i U
        split at h
        · rename_i v E
          cases h
          exact ⟨D,λA k=>s1 A U J O E λa A=>k A⟩
        · split at h
          · rename_i v E
            cases h
            exact ⟨D,λA k=>Ux A U J O (dv A E) λa A=>k A⟩
          · split at h
            · cases h
            · rename_i f V
              split at h
              · rename_i v x hf
                cases h
                simp only [List.mem_append] at D
                exact ⟨λp E=>D p (.inr E),λA k=>Ux A U J O (f.ok A hf (λp E=>D p (.inl E)) (Ext.refl _ _)) λa A=>k A⟩
              · cases h
 · rename_i c s L V xs
   split at h
   · cases h; exact ⟨D,λA k=>wp_seq (k A)⟩
   · cases h; exact ⟨D,λA k=>wp_region_lit (k A)⟩
   · cases h; exact ⟨D,λA k=>wp_block (k A)⟩
   · split at h
     · rename_i hv
       cases h; exact ⟨D,λA k=>wp_cond_true (A.ev hv) (k A)⟩
     · rename_i hv
       cases h; exact ⟨D,λA k=>wp_cond_false (A.ev hv) (k A)⟩
     · cases h
   · cases h; exact ⟨D,λA k=>wp_skip (XC.1 (k A))⟩
   · cases h; exact ⟨D,λA k=>wp_exit (XC.1 (k A))⟩
   · cases h; exact ⟨D,λA k=>wp_ret (XC.1 (k A))⟩
   · cases h
 · cases h; exact ⟨D,λA k=>AF (k A)⟩
 · cases h; exact ⟨D,λA k=>AF (k A)⟩
 · cases h; exact ⟨D,λA k=>RF (XC.1 (k A))⟩
 · rename_i i id s L V xs
   cases hb:Nat.beq i id
   · rw [hb] at h
     cases h
     exact ⟨D,λA k=>rF hb (XC.1 (k A))⟩
   · rw [hb] at h
     cases h
     have:=Nat.eq_of_beq_eq_true hb
     subst this
     exact ⟨D,λA k=>uB (XC.1 (k A))⟩
 · cases h; exact ⟨D,λA k=>nM (XC.1 (k A))⟩
 · cases h; exact ⟨D,λA k=>nM (XC.1 (k A))⟩
 · rename_i f s L V xs
   cases h
   refine ⟨D,λA k=>?_⟩
   have:=XC.1 (k A)
   cases f
   · exact PV this
   · exact PV this
   · exact tH this
 · cases h
theorem cy {B:Exit→Act→World→Prop} {N:Nat}:∀ (n:Nat) {c A:Cfg P w},run N n c=some A→(∀ p∈A.xs,p.1=p.2) →
    (∀ p∈c.xs,p.1=p.2)∧∀ {a:Act},K N c.L a→(∀ {a},K N A.L a→tP P B A.c A.s a w)→tP P B c.c c.s a w
 | 0,c,A,h,ho=>by
  cases h
  exact ⟨ho,λD k=>k D⟩
 | n+1,c,A,h,ho=>by
  unfold run at h
  split at h
  · rename_i U O
    have E:=cy (B:=B) n h ho
    have J:=vw (B:=B) O E.1
    exact ⟨J.1,λD k=>J.2 D λD=>E.2 D k⟩
  · cases h
theorem gl {B:Exit→Act→World→Prop} {N:Nat} (n:Nat) (J:List (Fx P w)) {o:Array Oper} {l:List Oper} {s s':List Fr} {L L':List (Nat×Value)} {a:Act} {E:Cf} {A:List (Fx P w)} {D:List (Option Value×Option Value)}
    (hK:K N L a) (h:(run N n ⟨.ops o l,s,L,J,[]⟩,lZ D)=(some ⟨E,s',L',A,D⟩,mR D)) (k:∀ {a},K N L' a→tP P B E s' a w):wpList P o (WX P B s) l a w :=
 (cy (B:=B) n (congrArg Prod.fst h) (kN (congrArg Prod.snd h))).2 hK k
theorem gc {B:Exit→Act→World→Prop} {N:Nat} (n:Nat) (J:List (Fx P w)) {c:Code} {s s':List Fr} {L L':List (Nat×Value)} {a:Act} {E:Cf} {A:List (Fx P w)} {D:List (Option Value×Option Value)}
    (hK:K N L a) (h:(run N n ⟨.code c,s,L,J,[]⟩,lZ D)=(some ⟨E,s',L',A,D⟩,mR D)) (k:∀ {a},K N L' a→tP P B E s' a w):c.wp P (WX P B s) a w :=
 (cy (B:=B) n (congrArg Prod.fst h) (kN (congrArg Prod.snd h))).2 hK k
theorem ul {B:Exit→Act→World→Prop} {N:Nat} (n:Nat) {o:Array Oper} {l:List Oper} {s s':List Fr} {L L':List (Nat×Value)} {a:Act} {A:Cf}
    (hK:K N L a) (h:run N n (⟨.ops o l,s,L,[],[]⟩:Cfg P w)=some ⟨A,s',L',[],[]⟩) (k:∀ {a},K N L' a→tP P B A s' a w):wpList P o (WX P B s) l a w :=
 (cy (B:=B) n h AD).2 hK k
theorem uc {B:Exit→Act→World→Prop} {N:Nat} (n:Nat) {c:Code} {s s':List Fr} {L L':List (Nat×Value)} {a:Act} {A:Cf}
    (hK:K N L a) (h:run N n (⟨.code c,s,L,[],[]⟩:Cfg P w)=some ⟨A,s',L',[],[]⟩) (k:∀ {a},K N L' a→tP P B A s' a w):c.wp P (WX P B s) a w :=
 (cy (B:=B) n h AD).2 hK k
theorem ue {B:Exit→Act→World→Prop} {N:Nat} (n:Nat) {e:Exit} {s s':List Fr} {L L':List (Nat×Value)} {a:Act} {A:Cf}
    (hK:K N L a) (h:run N n (⟨.ex e,s,L,[],[]⟩:Cfg P w)=some ⟨A,s',L',[],[]⟩) (k:∀ {a},K N L' a→tP P B A s' a w):WX P B s e a w :=
 XC.1 ((cy (B:=B) n h AD).2 hK k)
def ie (N:Nat) (ops:Array Oper):List Nat→List (Nat×Value)→List (Fx P w)→List (Option Value×Option Value)→Option (List (Nat×Value)×List (Fx P w)×List (Option Value×Option Value))
 | [],L,fs,xs=>some (L,fs,xs)
 | i::is,L,fs,xs=>match ops[i]? with
  | none=>none
  | some q=>match q.dst with
   | none=>none
   | some d=>bif Nat.blt d N then (match gd L ops q.guard with
    | none=>none
    | some false=>ie N ops is ((d,undef)::L) fs xs
    | some true=>match Ll L q.op with
     | some v=>ie N ops is ((d,v)::L) fs xs
     | none=>match eE P L q.op with
      | some v=>ie N ops is ((d,v)::L) fs xs
      | none=>match fs with
       | []=>none
       | f::fs=>match f.f L q.op with
        | some (v,x)=>ie N ops is ((d,v)::L) fs (x++xs)
        | none=>none) else none
theorem Y8 {N:Nat} {ops:Array Oper}:∀ (is:List Nat) {L L':List (Nat×Value)} {J D:List (Fx P w)} {E A:List (Option Value×Option Value)},ie N ops is L J E=some (L',D,A)→∀ p∈E,p∈A
 | [],L,L',J,D,E,A,h=>by
  simp only [ie,Option.some.injEq,Prod.mk.injEq] at h
  rw [h.2.2]; exact λp h=>h
 | i::is,L,L',J,D,E,A,h=>by
  unfold ie at h
  split at h
  · cases h
  · split at h
    · cases h
    · rename_i d V
      cases O:Nat.blt d N
      · rw [O] at h; cases h
      · rw [O] at h
        simp only [cond_true] at h
        split at h
        · cases h
        · exact Y8 is h
        · split at h
          · exact Y8 is h
          · split at h
            · exact Y8 is h
            · split at h
              · cases h
              · split at h
                · exact λp U=>Y8 is h p (List.mem_append_right _ U)
                · cases h
theorem aZ {Q:Exit→Act→World→Prop} {N:Nat} {ops:Array Oper} {w1:World} (s:Ext [] w w1):∀ (is:List Nat) (n:Nat) {fuel:Nat} {listed:Array Bool} {L L':List (Nat×Value)} {a:Act} {fs J:List (Fx P w)} {xs D:List (Option Value×Option Value)},is.length=n→K N L a →
    ie N ops is L fs xs=some (L',J,D)→(∀ p∈D,p.1=p.2)→xb ops listed is=true→(∀ c (a:Act) d v w,Q (.panic c) (a.put (some d) v) w→Q (.panic c) a w) →
    (∀ {a},K N L' a→wpAnyH P .any ops Q (Ext [] w) fuel (si listed is) a w1)→wpAnyH P .any ops Q (Ext [] w) (fuel+n) listed a w1
 | [],n,fuel,listed,L,L',a,fs,J,xs,D,hn,A,h,hx,ho,hQ,k=>by
  subst hn
  simp only [ie,Option.some.injEq,Prod.mk.injEq] at h
  rw [← h.1] at k
  exact k A
 | i::is,n,fuel,listed,L,L',a,fs,J,xs,D,hn,A,h,hx,ho,hQ,k=>by
  subst hn
  unfold xb at ho
  simp only [Bool.and_eq_true] at ho
  unfold ie at h
  split at h
  · cases h
  · rename_i q hi
    split at h
    · cases h
    · rename_i d V
      cases O:Nat.blt d N
      · rw [O] at h; cases h
      · rw [O] at h
        simp only [cond_true] at h
        have E:∀ {v:Value},∀ c (a:Act) w,Q (.panic c) (a.put q.dst v) w→Q (.panic c) a w:=λc a w=>by rw [V]; exact hQ c a d _ w
        split at h
        · cases h
        · rename_i U
          exact nD A i hi (GM ho.1).1 (GM ho.1).2.1 (GM ho.1).2.2 U V O s E λa A=>aZ s is _ rfl A h hx ho.2 hQ k
        · rename_i U
          split at h
          · rename_i v e
            exact sw A i hi (GM ho.1).1 (GM ho.1).2.1 (GM ho.1).2.2 U V O s E e λa A=>aZ s is _ rfl A h hx ho.2 hQ k
          · split at h
            · rename_i v e
              exact kV A i hi (GM ho.1).1 (GM ho.1).2.1 (GM ho.1).2.2 U V O s E (λw _=>dv A e) λa A=>aZ s is _ rfl A h hx ho.2 hQ k
            · split at h
              · cases h
              · rename_i f fs
                split at h
                · rename_i v x hf
                  have hs:=Y8 is h
                  exact kV A i hi (GM ho.1).1 (GM ho.1).2.1 (GM ho.1).2.2 U V O s E (λw' hE=>f.ok A hf (λp e=>hx p (hs p (List.mem_append_left _ e))) hE) λa A=>aZ s is _ rfl A h hx ho.2 hQ k
                · cases h
theorem dr {Q:Exit→Act→World→Prop} {N:Nat} {ops:Array Oper} {A:World} (is:List Nat) (n:Nat) (J:List (Fx P w)) {fuel:Nat} {listed:Array Bool} {L L':List (Nat×Value)} {a:Act} {E:List (Fx P w)} {D:List (Option Value×Option Value)}
    (hK:K N L a) (h:(is.length,ie N ops is L J [],lZ D)=(n,some (L',E,D),mR D)) (s:Ext [] w A) (k:∀ {a},K N L' a→wpAnyH P .any ops Q (Ext [] w) fuel (si listed is) a A)
    (ho:xb ops listed is=true:=by kernel_rfl) (hQ:∀ c (a:Act) d v w,Q (.panic c) (a.put (some d) v) w→Q (.panic c) a w:=by exact λ_ _ _ _ _=>id):wpAnyH P .any ops Q (Ext [] w) (fuel+n) listed a A:=by
 simp only [Prod.mk.injEq] at h
 exact aZ s is n h.1 hK h.2.1 (kN h.2.2) ho hQ k
end
section
variable {P:Program} {w u w0:World} {X:List Nat} {M:List (List Nat×World)} {F:List Nat}
theorem K.p {N:Nat} {L L':List (Nat×Value)} {a:Act} (h:K N L a) (A:fz L (L'.map Prod.fst)=some L'):K N L' a:=h.keep _ A
theorem bS {α:Type} {b:Bool} {p q r:α} {G:Prop} {N:Nat} {L:List (Nat×Value)} {a:Act} (h:(bif b then p else q)=r) (D:K N L a) (d:Nat) (hl:lk L d=some (.bool b))
    (ht:b=true→p=r→K N ((d,.bool true)::L) a→G) (hf:b=false→q=r→K N ((d,.bool false)::L) a→G):G:=by
 cases A:b
 · exact hf A (WG A h) (D.rb d hl A)
 · exact ht A (WD A h) (D.rb d hl A)
theorem cJ {α:Type} {b:Bool} {p q r:α} {Q:Exit→Act→World→Prop} {N:Nat} {L:List (Nat×Value)} {a:Act} {x y:Code} {t:Operand} (h:(bif b then p else q)=r) (D:K N L a) (A:ev L t=some (.bool b)) (E:p=r→x.wp P Q a w) (J:q=r→y.wp P Q a w) :
    (Code.cond t x y).wp P Q a w:=cI h D A (λ_=>E) (λ_=>J)
theorem o2 {α β γ:Type} {m:Option α} {n:α→Option β} {k:α→β→Option γ} {r:γ} {p:Prop} (h:(AA m λx=>AA (n x) (k x))=some r) (J:∀ x,m=some x→∀ y,n x=some y→k x y=some r→p):p :=
 oE h λx D A=>oE A λy O E=>J x D y O E
theorem lG {B:Exit→Act→World→Prop} {s:List Fr} {c:Code} {a:Act} (I:Nat→Act→World→Prop)
    (round:∀ n a w,I (n+1) a w→c.wp P (WX P B (.fn (I n)::s)) a w) (n:Nat) (hI:I n a w) (h0:∀ a w,¬ I 0 a w:=by
     intro a w h
     repeat (first | exact nS h | obtain ⟨_,h⟩:=h)):(Code.loop c).wp P (WX P B s) a w:=w6 I h0 round n a w hI
theorem eg {f:FuncId} {fn:Func} {c:Code} {R:Ending→World→Prop} {N:Nat} {vs:List Value}
    (hf:P.funcs[f]? = some fn) (hb:fn.body=some c) (hn:fn.ntmps=N) (hle:Nat.ble vs.length N=true)
    (h:∀ {a},K N (m2 0 vs) a→St [] w w []→c.wp P (WX P (bodyPost P fn R) []) a w):Calls P f vs.toArray w R:=enter hf hb hn hle λa k=>h k (St.start w)
theorem cg {B:Exit→Act→World→Prop} {s:List Fr} {x y:Code} {a:Act} (R:Act→World→Prop) (A:∀ a w,R a w→y.wp P (WX P B s) a w) (D:x.wp P (WX P B (.fn R::s)) a w):(Code.seq x y).wp P (WX P B s) a w:=oc R A D
section
variable {ops:Array Oper} {Q:Exit→Act→World→Prop} {rest:List Oper} {o:Oper} {a:Act} {N d:Nat} {L:List (Nat×Value)}
theorem sL {α:Type} [Enc α] {r:α} (hK:K N L a) (hM:St X w0 w M) {f:FuncId} {xs:List Operand} {vs:List Value} {tys:Array TypeId}
    (hcall:∀ (args:Array Value) (w:World),(callFunc f args).run P w=.ok (.enter f args) w)
    (h1:(gd L ops o.guard,o.dst,Nat.blt d N,o.op,evs L xs)=(some true,some d,true,.call { callee:=.value (.func f),args:=xs.toArray,argTypes:=tys },some vs))
    (hc:Calls P f vs.toArray w λe w'=>∃ (v:Value) (G:List Nat),e=.returned v∧Ext [] w w'∧ow w' G [v] r∧∀ b∈G,w.heap.size≤b)
    (hR:∀ {a} w' v G,ow w' G [v] r→K N ((d,v)::L) a→St X w0 w' ((G,w')::M)→wpList P ops Q rest a w'):wpList P ops Q (o::rest) a w :=
 sC hK hcall h1 hc λe w' ⟨v,G,D,J,A,E⟩=>⟨v,D,λ_ k=>hR w' v G A k (hM.nw J E A)⟩
theorem sU {T:World→Prop} (hK:K N L a) (U:St X w0 w M) (i:Nat) {f:FuncId} {D:List Operand} {vs:List Value} {v:Value} {A:Array TypeId}
    (hcall:∀ (args:Array Value) (w:World),(callFunc f args).run P w=.ok (.enter f args) w)
    (h1:(gd L ops o.guard,o.dst,Nat.blt d N,o.op,evs L D,M[i]?)=(some true,some d,true,.call { callee:=.value (.func f),args:=D.toArray,argTypes:=A },some vs,some (F,u)))
    (hc:Calls P f vs.toArray w λe w'=>e=.returned v∧Ext F w w'∧T w')
    (hR:∀ {a} w',T w'→K N ((d,v)::L) a→St X w0 w' (M.set i (F,w'))→wpList P ops Q rest a w'):wpList P ops Q (o::rest) a w:=by
 simp only [Prod.mk.injEq] at h1
 obtain ⟨h,V,a3,a4,E,O⟩:=h1
 exact kX hK hcall h V a3 a4 E hc λe w' ⟨h2,J,hT⟩=>⟨_,h2,λ_ k=>hR w' hT k (U.mu i O J)⟩
end
section
variable {B:Exit→Act→World→Prop} {s:List Fr} {ops:Array Oper} {a:Act} {S:World→Prop} {fuel zz:Nat} {listed:Array Bool} {o o' o'':Oper}
@[reducible] def dR (P:Program) (B:Exit→Act→World→Prop) (s:List Fr) (ops:Array Oper) (S:World→Prop) (fuel:Nat) (listed:Array Bool) (i:Nat):Fr :=
 .fn λa' w'=>S w'∧wpAnyH P .any ops (WX P B s) S fuel (listed.setIfInBounds i true) a' w'
@[reducible] def qR (P:Program) (B:Exit→Act→World→Prop) (s:List Fr) (ops:Array Oper) (S:World→Prop) (zz fuel:Nat) (listed:Array Bool) (i:Nat):Fr :=
 .fn λa' w'=>(i≠zz→S w')∧RP P ops (WX P B s) S zz fuel (listed.setIfInBounds i true) a' w'
theorem dG (i:Nat) (hi:ops[i]? = some o) (h:wpList P ops (WX P B (dR P B s ops S fuel listed i::s)) [o] a w) (A:Region.ready .any ops listed=[i]:=by kernel_rfl):wpAnyH P .any ops (WX P B s) S (fuel+1) listed a w:=yr i A hi h
theorem VC (i j:Nat) (D:Region.ready .any ops listed=[i,j]) (hi:ops[i]? = some o) (A:ops[j]? = some o') (h:wpList P ops (WX P B (dR P B s ops S fuel listed i::s)) [o] a w)
    (h':wpList P ops (WX P B (dR P B s ops S fuel listed j::s)) [o'] a w):wpAnyH P .any ops (WX P B s) S (fuel+1) listed a w:=xV i j D hi A h h'
theorem dG3 (i j k:Nat) (D:Region.ready .any ops listed=[i,j,k]) (hi:ops[i]? = some o) (A:ops[j]? = some o') (E:ops[k]? = some o'') (h:wpList P ops (WX P B (dR P B s ops S fuel listed i::s)) [o] a w)
    (h':wpList P ops (WX P B (dR P B s ops S fuel listed j::s)) [o'] a w) (h'':wpList P ops (WX P B (dR P B s ops S fuel listed k::s)) [o''] a w):wpAnyH P .any ops (WX P B s) S (fuel+1) listed a w:=up i j k D hi A E h h' h''
theorem qG (i:Nat) (A:Region.ready .any ops listed=[i]) (hi:ops[i]? = some o) (h:wpList P ops (WX P B (qR P B s ops S zz fuel listed i::s)) [o] a w):RP P ops (WX P B s) S zz (fuel+1) listed a w:=yQ i A hi h
theorem yw (i j:Nat) (D:Region.ready .any ops listed=[i,j]) (hi:ops[i]? = some o) (A:ops[j]? = some o') (h:wpList P ops (WX P B (qR P B s ops S zz fuel listed i::s)) [o] a w)
    (h':wpList P ops (WX P B (qR P B s ops S zz fuel listed j::s)) [o'] a w):RP P ops (WX P B s) S zz (fuel+1) listed a w:=y9 i j D hi A h h'
theorem qG3 (i j k:Nat) (D:Region.ready .any ops listed=[i,j,k]) (hi:ops[i]? = some o) (A:ops[j]? = some o') (E:ops[k]? = some o'') (h:wpList P ops (WX P B (qR P B s ops S zz fuel listed i::s)) [o] a w)
    (h':wpList P ops (WX P B (qR P B s ops S zz fuel listed j::s)) [o'] a w) (h'':wpList P ops (WX P B (qR P B s ops S zz fuel listed k::s)) [o''] a w):RP P ops (WX P B s) S zz (fuel+1) listed a w:=tY i j k D hi A E h h' h''
end
end
section
variable {P:Program} {w u w0 w' wd:World} {X Z Y:List Nat} {M:List (List Nat×World)} {F:List Nat}
theorem dI [T:Tys P] {Q:Exit→Act→World→Prop} {a:Act} {id:Nat} {l:List Oper} (Z:List Nat) {n:Nat} (A:St X w0 w M) (hn:l.length=n)
    (h:∀ {wd},St X w0 wd M→St X w0 wd M→Ext Z wd wd→wpAnyH P .any l.toArray Q (Ext Z wd) n (List.replicate n false).toArray a wd):(Code.region id l.toArray true).wp P Q a w:=eZ Z T.hmx A hn λ_ A=>h A A (Ext.refl Z _)
theorem qI [T:Tys P] {Q:Exit→Act→World→Prop} {a:Act} {id:Nat} {l:List Oper} (Z:List Nat) (z:Nat) {n:Nat} (A:St X w0 w M) (hn:l.length=n)
    (h:∀ {wd},St X w0 wd M→St X w0 wd M→Ext Z wd wd→RP P l.toArray Q (Ext Z wd) z n (List.replicate n false).toArray a wd):(Code.region id l.toArray true).wp P Q a w:=zU Z z T.hmx A hn λ_ A=>h A A (Ext.refl Z _)
theorem Ext.lo (s:Ext Z u w) {b:Nat} (h:w.heap.size≤b):∀ y∈[b],u.heap.size≤y:=yY (Nat.le_trans s.size h)
theorem Ext.le (s:Ext Z u w) {A:List Nat} (h:∀ b∈A,w.heap.size≤b):∀ y∈A,u.heap.size≤y:=λy D=>Nat.le_trans s.size (h y D)
theorem iL {n:Nat}:∀ y∈Y,y∈Y∨n≤y:=λ_ h=>.inl h
theorem iA {A:List Nat} {n:Nat}:∀ y∈Y,y∈Y++A∨n≤y:=λ_ h=>.inl (List.mem_append_left _ h)
theorem iB {A:List Nat} {n:Nat}:∀ y∈Y,y∈A++Y∨n≤y:=λ_ h=>.inl (List.mem_append_right _ h)
theorem iN {n:Nat}:∀ y∈([]:List Nat),y∈Y∨n≤y:=AD
theorem iR {A:List Nat} {n:Nat} (h:∀ y∈A,n≤y):∀ y∈A,y∈Z∨n≤y:=λy D=>.inr (h y D)
theorem nt {ops:Array Oper} {Q:Exit→Act→World→Prop} {a:Act} {A:Act→World→Prop} (D:∀ y∈Y,y∈Z∨wd.heap.size≤y) (s:Ext Z wd w) (e:Ext Y w w') (h:Ext Z wd w'→A a w') :
    wpList P ops (Exit.then (λE w'=>Ext Z wd w'∧A E w') Q) [] a w':=wpList_nil ⟨s.trans e D,h (s.trans e D)⟩
theorem nq {ops:Array Oper} {Q:Exit→Act→World→Prop} {a:Act} {A:Act→World→Prop} {p:Prop} (D:∀ y∈Y,y∈Z∨wd.heap.size≤y) (s:Ext Z wd w) (e:Ext Y w w') (h:Ext Z wd w'→A a w') :
    wpList P ops (Exit.then (λE w'=>(p→Ext Z wd w')∧A E w') Q) [] a w':=wpList_nil ⟨λ_=>s.trans e D,h (s.trans e D)⟩
def zN:List (List Nat×World)→List (List Nat×World)→List (List Nat×World)
 | [],_=>[]
 | _::_,[]=>[]
 | _::r,x::s=>x::zN r s
theorem nT:∀ (A B:List (List Nat×World)),∃ C,B=zN A B++C
 | [],B=>⟨B,rfl⟩
 | _::_,[]=>⟨[],rfl⟩
 | _::r,x::s=>by
  obtain ⟨C,h⟩:=nT r s
  exact ⟨C,by simpa [zN] using h⟩
theorem St.f {M':List (List Nat×World)} (h:St X w0 w M) (O:zN M' M=M'):St X w0 w M':=by
 obtain ⟨C,E⟩:=nT M' M
 rw [O] at E
 subst E
 have D:∀ b∈EC M',b∈EC (M'++C):=λb A=>by simp only [EC,List.flatMap_append]; exact List.mem_append_left _ A
 refine ⟨h.ext,λq J=>h.ok q (List.mem_append_left _ J),λb A=>h.lt b (D b A),λb A=>h.lo b (D b A),?_⟩
 have:=h.nd
 simp only [EC,List.flatMap_append] at this
 exact (List.nodup_append.1 this).1
theorem St.mt {α:Type} [Enc α] {cs:List Value} {x:α} {G:List Nat} (h:St X w0 w M) (i:Nat) (hi:M[i]? = some (F,u)) (e:Ext F w w') (hf:∀ b∈G,b∈F∨w.heap.size≤b) (ho:ow w' G cs x):St X w0 w' (M.set i (G,w')) :=
 h.mut i hi e _ (λb A=>⟨hf b A,Enc.rd_lt (Enc.ow_rd ho) b A⟩) (Enc.ow_nd ho)
section
variable {ops:Array Oper} {Q:Exit→Act→World→Prop} {rest:List Oper} {o:Oper} {a:Act} {N d:Nat} {L:List (Nat×Value)} {S:World→Prop} {z fuel:Nat} {listed:Array Bool}
theorem qP (J:K N L a) (i:Nat) {v:Value} (A:(ops[i]?,gd L ops o.guard,o.dst,Nat.blt d N,Ll L o.op)=(some o,some true,some d,true,some v)) (D:S w)
    (h:∀ a,K N ((d,v)::L) a→RP P ops Q S z fuel (listed.setIfInBounds i true) a w)
    (hz:(ZV ops z i&&!(Nat.beq i z))=true:=by kernel_rfl) (hs:Region.noSelect ops=true:=by kernel_rfl) (hf:Region.free .any ops listed i=true:=by kernel_rfl) (hr:(Region.ready .any ops listed).contains i=true:=by kernel_rfl)
    (hQ:∀ c a w,Q (.panic c) (a.put o.dst v) w→Q (.panic c) a w:=by exact λ_ _ _ h=>h):RP P ops Q S z (fuel+1) listed a w:=by
 simp only [Prod.mk.injEq] at A
 obtain ⟨e,O,E,U,V⟩:=A
 exact xi J i e hz hs hf hr O E U D hQ V h
theorem qT (J:K N L a) (i:Nat) {v:Value} (A:(ops[i]?,gd L ops o.guard,o.dst,Nat.blt d N)=(some o,some true,some d,true)) (D:S w)
    (hy:∀ w,S w→(execOp a.eval o).run P w=.ok (.value v) w) (h:∀ a,K N ((d,v)::L) a→RP P ops Q S z fuel (listed.setIfInBounds i true) a w)
    (hz:(ZV ops z i&&!(Nat.beq i z))=true:=by kernel_rfl) (hs:Region.noSelect ops=true:=by kernel_rfl) (hf:Region.free .any ops listed i=true:=by kernel_rfl) (hr:(Region.ready .any ops listed).contains i=true:=by kernel_rfl)
    (hQ:∀ c a w,Q (.panic c) (a.put o.dst v) w→Q (.panic c) a w:=by exact λ_ _ _ h=>h):RP P ops Q S z (fuel+1) listed a w:=by
 simp only [Prod.mk.injEq] at A
 obtain ⟨V,O,E,U⟩:=A
 exact s6 J i V hz hs hf hr O E U D hQ hy h
theorem sV {T:World→Prop} (hK:K N L a) (U:St X w0 w M) (i:Nat) {f:FuncId} {D:List Operand} {vs:List Value} {v:Value} {A:Array TypeId}
    (hcall:∀ (args:Array Value) (w:World),(callFunc f args).run P w=.ok (.enter f args) w)
    (h1:(gd L ops o.guard,o.dst,Nat.blt d N,o.op,evs L D,M[i]?)=(some true,some d,true,.call { callee:=.value (.func f),args:=D.toArray,argTypes:=A },some vs,some (F,u)))
    (hc:Calls P f vs.toArray w λe w'=>e=.returned v∧Ext F w w'∧T w')
    (hR:∀ {a w'},T w'→Ext F w w'→K N ((d,v)::L) a→St X w0 w' (M.set i (F,w'))→wpList P ops Q rest a w'):wpList P ops Q (o::rest) a w:=by
 simp only [Prod.mk.injEq] at h1
 obtain ⟨h,V,a3,a4,J,O⟩:=h1
 exact kX hK hcall h V a3 a4 J hc λe w' ⟨h2,E,hT⟩=>⟨_,h2,λ_ k=>hR hT E k (U.mu i O E)⟩
theorem sM {α:Type} [Enc α] {r:α} (hK:K N L a) (hM:St X w0 w M) {f:FuncId} {xs:List Operand} {vs:List Value} {tys:Array TypeId}
    (hcall:∀ (args:Array Value) (w:World),(callFunc f args).run P w=.ok (.enter f args) w)
    (h1:(gd L ops o.guard,o.dst,Nat.blt d N,o.op,evs L xs)=(some true,some d,true,.call { callee:=.value (.func f),args:=xs.toArray,argTypes:=tys },some vs))
    (hc:Calls P f vs.toArray w λe w'=>∃ (v:Value) (G:List Nat),e=.returned v∧Ext [] w w'∧ow w' G [v] r∧∀ b∈G,w.heap.size≤b)
    (hR:∀ {a w'} v G,Ext [] w w'→ow w' G [v] r→(∀ b∈G,w.heap.size≤b)→K N ((d,v)::L) a→St X w0 w' ((G,w')::M)→wpList P ops Q rest a w'):wpList P ops Q (o::rest) a w :=
 sC hK hcall h1 hc λe w' ⟨v,G,J,E,A,D⟩=>⟨v,J,λ_ k=>hR v G E A D k (hM.nw E D A)⟩
theorem sN {α:Type} [Enc α] {r:α} (hK:K N L a) (hM:St X w0 w M) {f:FuncId} {xs:List Operand} {vs:List Value} {tys:Array TypeId}
    (hcall:∀ (args:Array Value) (w:World),(callFunc f args).run P w=.ok (.enter f args) w)
    (h1:(gd L ops o.guard,o.dst,Nat.blt d N,o.op,evs L xs)=(some true,some d,true,.call { callee:=.value (.func f),args:=xs.toArray,argTypes:=tys },some vs))
    (hc:Calls P f vs.toArray w λe w'=>∃ (v:List Value) (G:List Nat),e=.returned (.agg v.toArray)∧Ext [] w w'∧ow w' G v r∧∀ b∈G,w.heap.size≤b)
    (hR:∀ {a w'} v G,Ext [] w w'→ow w' G v r→(∀ b∈G,w.heap.size≤b)→K N ((d,.agg v.toArray)::L) a→St X w0 w' ((G,w')::M)→wpList P ops Q rest a w'):wpList P ops Q (o::rest) a w :=
 sC hK hcall h1 hc λe w' ⟨v,G,J,E,A,D⟩=>⟨_,J,λ_ k=>hR v G E A D k (hM.nw E D A)⟩
end
/- a run and the cond behind it -/
section
variable [T:Tys P] {B:Exit→Act→World→Prop} {N:Nat} {s s':List Fr} {L L':List (Nat×Value)} {a:Act} {t:Operand} {x y:Code} {α:Type} {b:Bool} {p q r:α}
theorem uJ (n:Nat) {c:Code} (h:(bif b then p else q)=r) (D:K N L a) (A:(run N n (⟨.code c,s,L,[],[]⟩:Cfg P w),ev L' t)=(some ⟨.code (.cond t x y),s',L',[],[]⟩,some (.bool b)))
    (ht:∀ {a},p=r→K N L' a→x.wp P (WX P B s') a w) (hf:∀ {a},q=r→K N L' a→y.wp P (WX P B s') a w):c.wp P (WX P B s) a w :=
 uc n D (congrArg Prod.fst A) λk=>cJ h k (congrArg Prod.snd A) (λh=>ht h k) λh=>hf h k
theorem lJ (n:Nat) {o:Array Oper} {l:List Oper} (h:(bif b then p else q)=r) (D:K N L a) (A:(run N n (⟨.ops o l,s,L,[],[]⟩:Cfg P w),ev L' t)=(some ⟨.code (.cond t x y),s',L',[],[]⟩,some (.bool b)))
    (ht:∀ {a},p=r→K N L' a→x.wp P (WX P B s') a w) (hf:∀ {a},q=r→K N L' a→y.wp P (WX P B s') a w):wpList P o (WX P B s) l a w :=
 ul n D (congrArg Prod.fst A) λk=>cJ h k (congrArg Prod.snd A) (λh=>ht h k) λh=>hf h k
theorem gJ (n:Nat) (J:List (Fx P w)) {A:List (Fx P w)} {D:List (Option Value×Option Value)} {c:Code} (h:(bif b then p else q)=r) (V:K N L a) (E:(run N n ⟨.code c,s,L,J,[]⟩,lZ D,ev L' t)=(some ⟨.code (.cond t x y),s',L',A,D⟩,mR D,some (.bool b)))
    (ht:∀ {a},p=r→K N L' a→x.wp P (WX P B s') a w) (hf:∀ {a},q=r→K N L' a→y.wp P (WX P B s') a w):c.wp P (WX P B s) a w:=by
 simp only [Prod.mk.injEq] at E
 obtain ⟨U,e,O⟩:=E
 exact gc n J V (by rw [U,e]) λk=>cJ h k O (λh=>ht h k) λh=>hf h k
theorem hJ (n:Nat) (J:List (Fx P w)) {D:List (Fx P w)} {A:List (Option Value×Option Value)} {o:Array Oper} {l:List Oper} (h:(bif b then p else q)=r) (U:K N L a) (E:(run N n ⟨.ops o l,s,L,J,[]⟩,lZ A,ev L' t)=(some ⟨.code (.cond t x y),s',L',D,A⟩,mR A,some (.bool b)))
    (ht:∀ {a},p=r→K N L' a→x.wp P (WX P B s') a w) (hf:∀ {a},q=r→K N L' a→y.wp P (WX P B s') a w):wpList P o (WX P B s) l a w:=by
 simp only [Prod.mk.injEq] at E
 obtain ⟨V,e,O⟩:=E
 exact gl n J U (by rw [V,e]) λk=>cJ h k O (λh=>ht h k) λh=>hf h k
end
theorem bT {α:Type} {b:Bool} {p q r:α} {G:Prop} {N:Nat} {L:List (Nat×Value)} {a:Act} (h:(bif b then p else q)=r) (A:K N L a) (d:Nat) (hl:lk L d=some (.bool b))
    (ht:p=r→K N ((d,.bool true)::L) a→G) (hf:q=r→K N ((d,.bool false)::L) a→G):G:=bS h A d hl (λ_=>ht) λ_=>hf
theorem fL {fn:Func} {a:Act} {N:Nat} {L:List (Nat×Value)} {t:Nat} {α:Type} [Enc α] {v:Value} {x r:α} {G:List Nat} (h:some x=some r) (hK:K N L a) (hM:St [] w0 w M) (ho:ow u G [v] x) (i:Nat) (hr:fn.results=#[.tmp t]) (hl:(lk L t,M[i]?)=(some v,some (G,u))) :
    bodyPost P fn (λe w=>∃ (v:Value) (G:List Nat),e=.returned v∧Ext [] w0 w∧ow w G [v] r∧∀ b∈G,w0.heap.size≤b) .ret a w:=by
 cases h
 exact C5 hK hr (RV.tmp hK (congrArg Prod.fst hl)) ⟨_,G,rfl,hM.ext,hM.v ho i (congrArg Prod.snd hl),hM.fresh i (congrArg Prod.snd hl)⟩
end
end Go.Proofs.YtdgpkmgnjdpieaaGreatDoor
set_option linter.unusedSimpArgs false
set_option linter.unusedVariables false
namespace Go.Proofs.YtdgpkmgnjdpieaaGreatDoor
open Go
open Enc (rd ow)
open Arg (argv)
open Ret (retv)
open Wf (wf)
instance:Wf Pallet:=⟨λx=>wf x.fW∧wf x.fD∧wf x.fH∧wf x.fQ⟩
instance:Wf Pair:=⟨λx=>wf x.fA∧wf x.fB⟩
instance:Wf Typ:=⟨λx=>wf x.fe∧wf x.fW∧wf x.fH∧wf x.fD∧wf x.ff∧wf x.fQ∧wf x.fd⟩
instance:Wf Item:=⟨λx=>wf x.fe∧wf x.fW∧wf x.fH∧wf x.fD∧wf x.fQ∧wf x.fO∧wf x.f9⟩
instance:Wf Request:=⟨λx=>wf x.fc∧wf x.fJ∧wf x.fR∧wf x.fT∧wf x.fG∧wf x.fP∧wf x.fU⟩
instance:Wf Carton:=⟨λx=>wf x.f8∧wf x.fF∧wf x.fK⟩
instance:Wf Spot:=⟨λx=>wf x.fJ∧wf x.fX∧wf x.fY∧wf x.fZ⟩
instance:Wf Plan:=⟨λx=>wf x.fV∧wf x.fE⟩
instance:Wf Box:=⟨λx=>wf x.fW∧wf x.fD∧wf x.fH∧wf x.fQ⟩
instance:Wf Load:=⟨λx=>wf x.f0∧wf x.fH∧wf x.fQ⟩
instance:Wf Layer:=⟨λx=>wf x.fM∧wf x.fD∧wf x.fH∧wf x.fQ⟩
instance:Wf Shelf:=⟨λx=>wf x.f7∧wf x.fW∧wf x.fD∧wf x.fH∧wf x.fQ⟩
instance:Wf L7:=⟨λx=>wf x.fvol∧wf x.fgram⟩
instance:Wf Cur:=⟨λx=>wf x.fb∧wf x.fi∧wf x.fh⟩
end Go.Proofs.YtdgpkmgnjdpieaaGreatDoor
set_option maxRecDepth 100000
namespace Go.Proofs.YtdgpkmgnjdpieaaGreatDoor
open Go
theorem yF : wordsSigns Tryz.prog.initOrder.toList=[([104, 97, 114, 110, 101, 115, 115].map Char.ofNat), ([49, 97, 50, 48, 97, 97, 50, 48, 53, 100, 49, 98, 98, 100, 101, 50, 102, 100, 54, 97, 100, 51, 99, 49, 102, 97, 55, 98, 98, 99, 97, 48, 54, 54, 97, 101, 98, 102, 48, 49, 100, 48, 54, 100, 54, 50, 57, 53, 48, 48, 52, 99, 101, 56, 52, 98, 100, 49, 50, 51, 98, 50, 51, 99].map Char.ofNat), ([99, 117, 116].map Char.ofNat), ([97, 116].map Char.ofNat), ([108, 111, 111, 112, 46, 101, 120, 97, 109, 112, 108, 101, 47, 103, 48, 48, 52, 56, 57, 47, 108, 97, 119, 115, 46, 70, 110, 84, 111, 112].map Char.ofNat)] := tV (l := ([104, 97, 114, 110, 101, 115, 115, 32, 49, 97, 50, 48, 97, 97, 50, 48, 53, 100, 49, 98, 98, 100, 101, 50, 102, 100, 54, 97, 100, 51, 99, 49, 102, 97, 55, 98, 98, 99, 97, 48, 54, 54, 97, 101, 98, 102, 48, 49, 100, 48, 54, 100, 54, 50, 57, 53, 48, 48, 52, 99, 101, 56, 52, 98, 100, 49, 50, 51, 98, 50, 51, 99, 32, 99, 117, 116, 32, 97, 116, 32, 108, 111, 111, 112, 46, 101, 120, 97, 109, 112, 108, 101, 47, 103, 48, 48, 52, 56, 57, 47, 108, 97, 119, 115, 46, 70, 110, 84, 111, 112].map Char.ofNat)) AQ AQ
theorem vK : (match behindMainWord [([104, 97, 114, 110, 101, 115, 115].map Char.ofNat), ([49, 97, 50, 48, 97, 97, 50, 48, 53, 100, 49, 98, 98, 100, 101, 50, 102, 100, 54, 97, 100, 51, 99, 49, 102, 97, 55, 98, 98, 99, 97, 48, 54, 54, 97, 101, 98, 102, 48, 49, 100, 48, 54, 100, 54, 50, 57, 53, 48, 48, 52, 99, 101, 56, 52, 98, 100, 49, 50, 51, 98, 50, 51, 99].map Char.ofNat), ([99, 117, 116].map Char.ofNat), ([97, 116].map Char.ofNat), ([108, 111, 111, 112, 46, 101, 120, 97, 109, 112, 108, 101, 47, 103, 48, 48, 52, 56, 57, 47, 108, 97, 119, 115, 46, 70, 110, 84, 111, 112].map Char.ofNat)] with | c :: _ => c == "cut".toList | [] => false) = true := by kernel_rfl
theorem wH : Tryz.prog.make=some .cut := zf yF vK
theorem vu : Tryz.prog.liftsFinal=false := y4 yF vK
theorem zK : Tryz.prog.mayEnter=true := by kernel_rfl
theorem oX : laidOutB Tryz.prog=true := by kernel_rfl
theorem own : ownKnob Tryz.prog.godebug=none := by kernel_rfl
theorem xz : mapsRowed Tryz.prog=true := by kernel_rfl
theorem wQ : Tryz.prog.plainKeys=true := by kernel_rfl
theorem u6 : Tryz.prog.stopsHeard=true := by kernel_rfl
end Go.Proofs.YtdgpkmgnjdpieaaGreatDoor
set_option linter.unusedSimpArgs false
set_option linter.unusedVariables false
namespace Go.Proofs.YtdgpkmgnjdpieaaGreatDoor
open Go
open Enc (rd ow)
open Arg (argv)
open Ret (retv)
open Wf (wf)
@[simp] theorem AB {α β:Type} (x:α) (k:α→Option β):AA (some x) k=k x:=rfl
@[simp] theorem zM {α β:Type} (k:α→Option β):AA none k=none:=rfl
theorem tg {α β:Type} {m:Option α} {x:α} {k:α→Option β} (h:m=some x):AA m k=k x:=by rw [h]; rfl
theorem AU {n:Int} (D:-9223372036854775808≤n) (A:n≤9223372036854775807):AK n=n:=by
 simp only [AK,IntKind.wrap_i64]; omega
theorem EG {α:Type} (l:List α) (i:Nat):ix l (i:Int)=l[i]?:=by simp [ix]
theorem mv {α:Type} {l:List α} {i:Nat} {x:α} (h:l[i]? = some x):ix l (i:Int)=some x:=by rw [EG,h]
theorem pq {α:Type} {A:Nat} {z:α} {n:Nat} (h:A*n≤140737488355328):mk A z (n:Int)=some (List.replicate n z):=by
 unfold mk
 have D:(A:Int)*(n:Int)≤140737488355328:=by rw [← Int.natCast_mul]; omega
 rw [if_pos ⟨Int.natCast_nonneg n,D⟩,Int.toNat_natCast]
theorem AX {α:Type} {c:Bool} (h:c=true) (a b:α):(bif c then a else b)=a:=by rw [h]; rfl
theorem AM {α:Type} {c:Bool} (h:c=false) (a b:α):(bif c then a else b)=b:=by rw [h]; rfl
end Go.Proofs.YtdgpkmgnjdpieaaGreatDoor
set_option linter.unusedSimpArgs false
set_option linter.unusedVariables false
namespace Go.Proofs.YtdgpkmgnjdpieaaGreatDoor
open Go
open Enc (rd ow)
open Arg (argv)
open Ret (retv)
open Wf (wf)
theorem Xi {α:Type} {l:List α} {i:Nat} (h:i<l.length):ix l (i:Int)=some l[i]:=by rw [EG,List.getElem?_eq_getElem h]
theorem YC (i:Nat) (h:i<4611686018427387904):AK ((i:Int)+1)=((i+1:Nat):Int):=by rw [AU AC AC]; omega
theorem XB {σ α β:Type} (l:List α) (L:Nat→σ→Int→Option β) (F:List α→σ→Option β) (I:List α→σ→Prop) (hl:l.length≤1099511627776)
    (hs:∀ n s (i:Int) x J,ix l i=some x→decide (i<(l.length:Int))=true→I (x::J) s→(∀ E,I J E→L n E (AK (i+1))=F J E)→L (n+1) s i=F (x::J) s)
    (he:∀ n s (i:Int),decide (i<(l.length:Int))=false→I [] s→L (n+1) s i=F [] s):∀ n s,I l s→l.length<n→L n s 0=F l s:=by
 have M:∀ (m i n:Nat) (s:σ),l.length - i=m→i≤l.length→m<n→I (l.drop i) s→L n s (i:Int)=F (l.drop i) s:=by
  intro m
  induction m with
  | zero =>
   intro i n s T hi O A
   obtain ⟨n,rfl⟩:∃ k,n=k+1:=⟨n - 1,AC⟩
   have e:l.drop i=[]:=List.drop_of_length_le AC
   rw [e] at A ⊢
   exact he n s i AJ A
  | succ m Q =>
   intro i n s T hi O A
   obtain ⟨n,rfl⟩:∃ k,n=k+1:=⟨n - 1,AC⟩
   have D:i<l.length:=AC
   rw [List.drop_eq_getElem_cons D] at A ⊢
   refine hs n s i _ _ (Xi D) (by simpa using D) A λE N=>?_
   rw [YC i AC]
   exact Q (i+1) n E AC AC AC N
 intro n s A O
 have:=M l.length 0 n s AC AC O (by simpa using A)
 simpa using this
theorem lp {σ α β:Type} (l:List α) (L:Nat→σ→Int→Option β) (F:List α→σ→Option β) (hl:l.length≤1099511627776)
    (hs:∀ n s (i:Int) x D,ix l i=some x→decide (i<(l.length:Int))=true→(∀ A,L n A (AK (i+1))=F D A)→L (n+1) s i=F (x::D) s)
    (he:∀ n s (i:Int),decide (i<(l.length:Int))=false→L (n+1) s i=F [] s):∀ n s,l.length<n→L n s 0=F l s:=λn s M =>
 XB l L F (λ_ _=>True) hl (λn s i x D N E _ J=>hs n s i x D N E λA=>J A trivial) (λn s i E _=>he n s i E) n s trivial M
def BW:Int→Nat→List Int
 | _,0=>[]
 | a,n+1=>a::BW (a+1) n
theorem wu {σ β:Type} (b:Int) (L:Nat→σ→Int→Option β) (F:List Int→σ→Option β) (O:b≤1099511627776)
    (hs:∀ n s (i:Int) D,0≤i→i<b→decide (i<b)=true→(∀ A,L n A (AK (i+1))=F D A)→L (n+1) s i=F (i::D) s)
    (he:∀ n s (i:Int),decide (i<b)=false→L (n+1) s i=F [] s):∀ (m:Nat) n s (a:Int),0≤a→(b - a).toNat=m→m<n→L n s a=F (BW a m) s:=by
 intro m
 induction m with
 | zero =>
  intro n s a E N M
  obtain ⟨n,rfl⟩:∃ k,n=k+1:=⟨n - 1,AC⟩
  exact he n s a AJ
 | succ m J =>
  intro n s a E N M
  obtain ⟨n,rfl⟩:∃ k,n=k+1:=⟨n - 1,AC⟩
  refine hs n s a _ E AC AJ λA=>?_
  rw [AU AC AC]
  exact J n A (a+1) AC AC AC
theorem cD {σ β:Type} (b:Int) (L:Nat→σ→Int→Option β) (F:List Int→σ→Option β) (I:List Int→σ→Prop) (T:b≤1099511627776)
    (hs:∀ n s (i:Int) D,0≤i→i<b→decide (i<b)=true→I (i::D) s→(∀ A,I D A→L n A (AK (i+1))=F D A)→L (n+1) s i=F (i::D) s)
    (he:∀ n s (i:Int),decide (i<b)=false→I [] s→L (n+1) s i=F [] s):∀ (m:Nat) n s (a:Int),0≤a→(b - a).toNat=m→m<n→I (BW a m) s→L n s a=F (BW a m) s:=by
 intro m
 induction m with
 | zero =>
  intro n s a M O Q E
  obtain ⟨n,rfl⟩:∃ k,n=k+1:=⟨n - 1,AC⟩
  exact he n s a AJ E
 | succ m N =>
  intro n s a M O Q E
  obtain ⟨n,rfl⟩:∃ k,n=k+1:=⟨n - 1,AC⟩
  refine hs n s a _ M AC AJ E λA J=>?_
  rw [AU AC AC]
  exact N n A (a+1) AC AC AC J
def RN:Nat→List Int
 | 0=>[]
 | n+1=>(n:Int)::RN n
theorem lpD {σ β:Type} (b:Nat) (L:Nat→σ→Int→Option β) (F:List Int→σ→Option β) (O:b≤1099511627776)
    (hs:∀ n s (i:Int) J,0≤i→i<b→decide (i≥0)=true→(∀ A,L n A (AK (i - 1))=F J A)→L (n+1) s i=F (i::J) s)
    (he:∀ n s (i:Int),decide (i≥0)=false→L (n+1) s i=F [] s):∀ n s,b<n→L n s (AK ((b:Int) - 1))=F (RN b) s:=by
 have D:∀ (m:Nat) n s,m≤b→m<n→L n s ((m:Int) - 1)=F (RN m) s:=by
  intro m
  induction m with
  | zero =>
   intro n s N E
   obtain ⟨n,rfl⟩:∃ k,n=k+1:=⟨n - 1,AC⟩
   exact he n s _ AD
  | succ m M =>
   intro n s N E
   obtain ⟨n,rfl⟩:∃ k,n=k+1:=⟨n - 1,AC⟩
   have e:((m+1:Nat):Int) - 1=(m:Int):=AC
   rw [e]
   refine hs n s m _ AC AC AD λA=>?_
   rw [AU AC AC]
   exact M n A AC AC
 intro n s E
 rw [AU AC AC]
 exact D b n s (Nat.le_refl _) E
theorem KO {α:Type} {A:Nat} {D ys:List α} (h:(D.length+ys.length)*A≤140737488355328):BE A D ys=some (D++ys):=by
 unfold BE; rw [if_pos h]
theorem N6 {α:Type} {A:List α} {lo hi:Int} (h:0≤lo∧lo≤hi∧hi≤A.length):RA A lo hi=some ((A.drop lo.toNat).take (hi.toNat - lo.toNat)):=by
 unfold RA; rw [if_pos h]
theorem oM {y:Int} (h:y≠0):qK y=some ():=by unfold qK; rw [if_pos h]
end Go.Proofs.YtdgpkmgnjdpieaaGreatDoor
set_option linter.unusedSimpArgs false
set_option linter.unusedVariables false
namespace Go.Proofs.YtdgpkmgnjdpieaaGreatDoor
open Go
open Enc (rd ow)
open Arg (argv)
open Ret (retv)
open Wf (wf)
def CW (n lo hi:Int):Bool:=decide (lo≤n∧n≤hi)
@[simp] theorem BS {n lo hi:Int}:CW n lo hi=true↔lo≤n∧n≤hi:=by simp [CW]
def Rc (p:Pallet):Bool:=CW p.fW 1 2000&&(CW p.fD 1 2000&&(CW p.fH 1 2000&&CW p.fQ 1 100000))
def Yu (t:Typ):Bool:=CW t.fe 0 999&&(CW t.fW 1 2000&&(CW t.fH 1 2000&&(CW t.fD 1 2000&&(CW t.ff 0 100000&&(CW t.fQ 1 100000&&CW t.fd 0 100000)))))
def VV (x:Item):Bool:=CW x.fe 0 999&&(CW x.fW 1 2000&&(CW x.fH 1 2000&&(CW x.fD 1 2000&&(CW x.fQ 1 100000&&(CW x.fO 0 3&&CW x.f9 1 6)))))
def t7 (p:Pair):Bool:=CW p.fA 0 3&&CW p.fB 0 3
def HW:List Int→Int
 | []=>0
 | x::xs=>x+HW xs
@[simp] theorem XQ:HW []=0:=rfl
@[simp] theorem ED (x:Int) (xs:List Int):HW (x::xs)=x+HW xs:=rfl
theorem LL (a b:List Int):HW (a++b)=HW a+HW b:=by
 induction a with
 | nil=>simp
 | cons x D A=>simp [A]; omega
theorem uj {α:Type} (f:α→Int) (l:List α) (b:Int) (h:∀ x∈l,f x≤b):HW (l.map f)≤b*l.length:=by
 induction l with
 | nil=>simp
 | cons x A E =>
  have L:=h x AD
  have J:=E (λy D=>h y (by simp [D]))
  simp only [List.map_cons,ED,List.length_cons]
  rw [show ((A.length+1:Nat):Int)=(A.length:Int)+1 by omega,Int.mul_add]
  omega
theorem aW {α:Type} (f:α→Int) (l:List α) (h:∀ x∈l,0≤f x):0≤HW (l.map f):=by
 induction l with
 | nil=>simp
 | cons x L D =>
  have J:=h x AD
  have E:=D (λy A=>h y (by simp [A]))
  simp only [List.map_cons,ED]
  omega
def Y6 (r:Request):Bool :=
 CW r.fc 0 1&&Rc r.fJ&&CW r.fR 1 4&&decide (r.fT.length≤16)&&r.fT.all t7&&CW r.fG.length 1 5&&r.fG.all Yu&&CW r.fP 0 999&&decide (r.fU.length≤8)&&(r.fU.all VV&&decide (HW (r.fU.map (·.f9))≤12))
def KW (l:List Pair) (a b:Int):Bool:=l.any λp=>p.fA==a&&p.fB==b
def i8 (l:List Pair) (c:Int):Bool:=CW c 1 4&&(BW 0 c.toNat).all λa=>KW l a a&&(BW 0 c.toNat).all λb=>KW l a b==KW l b a
def rU:Typ:=⟨0,0,0,0,0,0,0⟩
def jB:Item:=⟨0,0,0,0,0,0,0⟩
def KB (r:Request) (A:Int):Option Typ:=r.fG.find? λt=>t.fe==A
def WK (o:Option Typ):Typ×Bool:=match o with | some t=>(t,true) | none=>(rU,false)
def ek {α:Type} (f:α→Int):List α→List α→Bool
 | _,[]=>true
 | pre,x::xs=>!(pre.any λy=>f y==f x)&&ek f (pre++[x]) xs
def dO (c:Int):List Item→List Item→Bool
 | _,[]=>true
 | pre,x::xs=>!(decide (x.fO≥c))&&!(pre.any λy=>y.fe==x.fe)&&dO c (pre++[x]) xs
def dS (r:Request):Bool :=
 ek Typ.fe [] r.fG&&dO r.fR [] r.fU&&(KB r r.fP).isSome&&!(r.fT.any λp=>decide (p.fA≥r.fR)||decide (p.fB≥r.fR))
def Y4 (a b c:Int):Int×Int×Int :=
 let lo:=if a≤b then (if a≤c then a else c) else (if b≤c then b else c)
 let hi:=if a≥b then (if a≥c then a else c) else (if b≥c then b else c)
 (lo,a+b+c - lo - hi,hi)
def Yf (x:Item) (t:Typ):Bool :=
 decide ((Y4 x.fW x.fH x.fD).1≤(Y4 t.fW t.fH t.fD).1)&&decide ((Y4 x.fW x.fH x.fD).2.1≤(Y4 t.fW t.fH t.fD).2.1)&&decide ((Y4 x.fW x.fH x.fD).2.2≤(Y4 t.fW t.fH t.fD).2.2)&&decide (x.fQ≤t.fQ)
def VB (r:Request):Typ:=(WK (KB r r.fP)).1
def dQ (p:Pallet) (t:Typ):Bool:=decide (t.fW>p.fW)||(decide (t.fD>p.fD)||(decide (t.fH>p.fH)||decide (AK (t.ff+t.fQ)>p.fQ)))
def B9 (r:Request):Int :=
 bif !Y6 r then 2 else bif !dS r then 3 else bif !i8 r.fT r.fR then 4 else bif !(r.fU.all λx=>Yf x (VB r)) then 5 else bif r.fG.any (dQ r.fJ) then 6 else 0
def cj:Int→List Item→List Int
 | _,[]=>[]
 | i,x::xs=>List.replicate x.f9.toNat i++cj (i+1) xs
def tN (r:Request):List Int:=cj 0 r.fU
def CP (r:Request):List Int:=bif B9 r==0 then tN r else []
def XR (r:Request) (u:Int):Option Item:=AA (ix (CP r) u) λi=>ix r.fU i
def cY (w h d:Int):Int:=bif CW w 0 2000&&(CW h 0 2000&&CW d 0 2000) then w*h*d else 0
def iz (x:Item):Int:=cY x.fW x.fH x.fD
def iS (x:Typ):Int:=cY x.fW x.fH x.fD
def WH (r:Request) (us:List Int):List Item:=us.filterMap (XR r)
def Vx (r:Request) (us:List Int):Int:=HW ((WH r us).map iz)
theorem om (w h d:Int):0≤cY w h d∧cY w h d≤8000000000:=by
 unfold cY
 cases D:CW w 0 2000&&(CW h 0 2000&&CW d 0 2000)
 · simp
 · simp only [Bool.and_eq_true,BS] at D
   obtain ⟨⟨L,J⟩,⟨E,M⟩,A,N⟩:=D
   simp only [cond_true]
   have Q:0≤w*h:=Int.mul_nonneg L E
   have O:w*h≤2000*2000:=Int.mul_le_mul J M E AC
   have T:0≤w*h*d:=Int.mul_nonneg Q A
   have U:w*h*d≤2000*2000*2000:=Int.mul_le_mul O N A AC
   omega
theorem D4 {r:Request} (h:B9 r=0):Y6 r=true∧dS r=true∧i8 r.fT r.fR=true∧(∀ x∈r.fU,Yf x (VB r)=true)∧(∀ t∈r.fG,dQ r.fJ t=false):=by
 unfold B9 at h
 cases A:Y6 r
 · simp [A] at h
 cases D:dS r
 · simp [A,D] at h
 cases J:i8 r.fT r.fR
 · simp [A,D,J] at h
 cases E:r.fU.all λx=>Yf x (VB r)
 · simp only [A,D,J,E] at h; simp at h
 cases L:r.fG.any (dQ r.fJ)
 · refine ⟨rfl,rfl,rfl,by simpa using E,?_⟩
   intro t M
   have:=List.any_eq_false.1 L t M
   simpa using this
 · simp only [A,D,J,E,L] at h; simp at h
theorem ZH {r:Request} (h:Y6 r=true):∀ t∈r.fG,Yu t=true:=by
 simp only [Y6,Bool.and_eq_true,List.all_eq_true] at h
 exact h.1.1.1.2
theorem PT {r:Request} (h:Y6 r=true):(∀ x∈r.fU,VV x=true)∧HW (r.fU.map (·.f9))≤12∧r.fU.length≤8:=by
 simp only [Y6,Bool.and_eq_true,List.all_eq_true,decide_eq_true_eq] at h
 exact ⟨h.2.1,h.2.2,h.1.2⟩
theorem lP:∀ (l:List Item) (i:Int),(∀ x∈l,0≤x.f9)→((cj i l).length:Int)=HW (l.map (·.f9))
 | [],_,_=>rfl
 | x::xs,i,h=>by
  have:=lP xs (i+1) (λy A=>h y (by simp [A]))
  have D:=h x AD
  simp only [cj,List.length_append,List.length_replicate,List.map_cons,ED]
  omega
theorem l0:∀ (l:List Item) (i:Int) (u:Int),u∈cj i l→i≤u∧u<i+l.length
 | [],_,_,h=>by simp [cj] at h
 | x::xs,i,u,h=>by
  simp only [cj,List.mem_append] at h
  rcases h with h | h
  · have:=(List.mem_replicate.1 h).2
    simp; omega
  · have:=l0 xs (i+1) u h
    simp; omega
theorem nJ {r:Request} (h:Y6 r=true):(tN r).length≤12:=by
 obtain ⟨A,_,_⟩:=PT h
 have:=lP r.fU 0 (λx D=>by
  have:=A x D
  simp only [VV,Bool.and_eq_true,BS] at this
  omega)
 unfold tN
 omega
theorem YD (r:Request):(CP r).length≤12:=by
 unfold CP
 cases h:B9 r==0
 · simp
 · exact nJ (D4 (by simpa using h)).1
theorem gz {r:Request} {i:Int} (h:i∈CP r):0≤i∧i<r.fU.length:=by
 unfold CP at h
 cases A:B9 r==0
 · simp [A] at h
 · simp only [A,cond_true] at h
   have:=l0 _ _ _ h
   omega
theorem C8 {α:Type} {l:List α} {i:Int} {x:α} (h:ix l i=some x):x∈l:=List.mem_of_getElem? (AG h).2.2
theorem kT {r:Request} {u:Int} (h:0≤u∧u<(CP r).length):∃ i x,ix (CP r) u=some i∧ix r.fU i=some x∧XR r u=some x:=by
 have A:u.toNat<(CP r).length:=AC
 have E:ix (CP r) u=some (CP r)[u.toNat]:=by
  unfold ix; rw [if_pos h.1,List.getElem?_eq_getElem A]
 have J:=gz (List.getElem_mem A)
 have L:((CP r)[u.toNat]).toNat<r.fU.length:=AC
 have D:ix r.fU (CP r)[u.toNat]=some r.fU[((CP r)[u.toNat]).toNat]:=by
  unfold ix; rw [if_pos J.1,List.getElem?_eq_getElem L]
 refine ⟨_,_,E,D,?_⟩
 unfold XR
 rw [E,AB,D]
theorem gr {r:Request} {u:Int} (h:¬ (0≤u∧u<(CP r).length)):XR r u=none:=by
 unfold XR ix
 by_cases A:0≤u
 · rw [if_pos A,List.getElem?_eq_none AC]; rfl
 · rw [if_neg A]; rfl
theorem Zh (r:Request) (us:List Int):(WH r us).length≤us.length:=List.length_filterMap_le _ _
end Go.Proofs.YtdgpkmgnjdpieaaGreatDoor
set_option linter.unusedSimpArgs false
set_option linter.unusedVariables false
namespace Go.Proofs.YtdgpkmgnjdpieaaGreatDoor
open Go
open Enc (rd ow)
open Arg (argv)
open Ret (retv)
open Wf (wf)
def lx (k:Int→Int) (p q:Int):Prop:=k p<k q∨(k p=k q∧p<q)
theorem tI {k:Int→Int} {p q r:Int} (D:lx k p q) (A:lx k q r):lx k p r:=by
 unfold lx at *; omega
theorem rE {k:Int→Int} {p q:Int} (D:lx k p q) (A:lx k q p):False:=by
 unfold lx at *; omega
theorem Zu {α:Type} {R:α→α→Prop} (A:∀ x y,R x y→R y x→False):∀ {a b:List α},a.Perm b→a.Pairwise R→b.Pairwise R→a=b
 | [],b,h,_,_=>(List.Perm.nil_eq h)
 | x::a,[],h,_,_=>by have:=h.length_eq; simp at this
 | x::a,y::b,h,h1,h2=>by
  have D:x=y:=by
   have J:x∈y::b:=h.mem_iff.1 AD
   have E:y∈x::a:=h.mem_iff.2 AD
   rcases List.mem_cons.1 J with e | J
   · exact e
   rcases List.mem_cons.1 E with e | E
   · exact e.symm
   exact (A x y ((List.pairwise_cons.1 h1).1 y E) ((List.pairwise_cons.1 h2).1 x J)).elim
  subst D
  rw [Zu A (List.Perm.cons_inv h) (List.pairwise_cons.1 h1).2 (List.pairwise_cons.1 h2).2]
def gx (k:Int→Int):List Int→List Int→List Int
 | [],b=>b
 | x::a,[]=>x::a
 | x::a,y::b=>if k y<k x then y::gx k (x::a) b else x::gx k a (y::b)
termination_by a b=>a.length+b.length
theorem pO (k:Int→Int) (a:List Int):gx k a []=a:=by cases a <;> simp [gx]
theorem Y9 (k:Int→Int) (x y:Int) (a b:List Int):gx k (x::a) (y::b)=if k y<k x then y::gx k (x::a) b else x::gx k a (y::b):=by rw [gx]
theorem g8 (k:Int→Int) (a b:List Int):(gx k a b).Perm (a++b):=by
 induction a,b using gx.induct k with
 | case1 b=>simp [gx]
 | case2 x a=>simp [gx]
 | case3 x a y b h A =>
  rw [Y9,if_pos h]
  exact (A.cons y).trans (by simpa using (List.perm_middle (a:=y) (l₁:=x::a) (l₂:=b)).symm)
 | case4 x a y b h A =>
  rw [Y9,if_neg h]
  exact A.cons x
theorem mW (k:Int→Int) (a b:List Int):a.Pairwise (lx k)→b.Pairwise (lx k)→(∀ p∈a,∀ q∈b,p<q)→(gx k a b).Pairwise (lx k):=by
 induction a,b using gx.induct k with
 | case1 b=>intro _ h _; simpa [gx] using h
 | case2 x a=>intro h _ _; simpa [gx] using h
 | case3 x a y b h L =>
  intro E D J
  rw [Y9,if_pos h]
  refine List.pairwise_cons.2 ⟨λz A=>?_,L E (List.pairwise_cons.1 D).2 (λp M q N=>J p M q (by simp [N]))⟩
  rcases List.mem_append.1 ((g8 k _ _).mem_iff.1 A) with A | A
  · rcases List.mem_cons.1 A with e | A
    · subst e; exact .inl h
    · have:=(List.pairwise_cons.1 E).1 z A
      unfold lx at *; omega
  · exact (List.pairwise_cons.1 D).1 z A
 | case4 x a y b h L =>
  intro E D J
  rw [Y9,if_neg h]
  refine List.pairwise_cons.2 ⟨λz A=>?_,L (List.pairwise_cons.1 E).2 D (λp M q N=>J p (by simp [M]) q N)⟩
  rcases List.mem_append.1 ((g8 k _ _).mem_iff.1 A) with A | A
  · exact (List.pairwise_cons.1 E).1 z A
  · have O:=J x AD z A
    rcases List.mem_cons.1 A with e | A
    · subst e; unfold lx; omega
    · have:=(List.pairwise_cons.1 D).1 z A
      unfold lx at *; omega
def uy (k:Int→Int):Nat→List Int→List Int
 | 0,l=>l
 | n+1,l=>if l.length<2 then l else gx k (uy k n (l.take (l.length / 2))) (uy k n (l.drop (l.length / 2)))
theorem UO (k:Int→Int):∀ (n:Nat) (l:List Int),(uy k n l).Perm l
 | 0,l=>List.Perm.refl _
 | n+1,l=>by
  unfold uy
  split
  · exact List.Perm.refl _
  · refine (g8 k _ _).trans (((UO k n _).append (UO k n _)).trans ?_)
    rw [List.take_append_drop]
theorem XX (k:Int→Int):∀ (n:Nat) (l:List Int),l.length≤n→l.Pairwise (·<·)→(uy k n l).Pairwise (lx k)
 | 0,l,h,_=>by
  have:l=[]:=List.eq_nil_of_length_eq_zero AC
  subst this
  exact List.Pairwise.nil
 | n+1,l,h,hp=>by
  unfold uy
  split
  · rename_i J
    match l,J with
    | [],_=>exact List.Pairwise.nil
    | [x],_=>simp
  · rename_i J
    have A:=hp
    rw [← List.take_append_drop (l.length / 2) l,List.pairwise_append] at A
    refine mW k _ _ (XX k n _ (by rw [List.length_take]; omega) A.1) (XX k n _ (by rw [List.length_drop]; omega) A.2.1) λp D q E=>?_
    exact A.2.2 p ((UO k n _).mem_iff.1 D) q ((UO k n _).mem_iff.1 E)
theorem CF {a:Int} {n:Nat} {x:Int}:x∈BW a n↔a≤x∧x<a+n:=by
 induction n generalizing a with
 | zero=>simp [BW]
 | succ n A=>simp only [BW,List.mem_cons,A]; omega
theorem B5 (a:Int) (n:Nat):(BW a n).length=n:=by
 induction n generalizing a with
 | zero=>rfl
 | succ n A=>simp [BW,A]
theorem Xx (a:Int) (n:Nat):(BW a n).Pairwise (·<·):=by
 induction n generalizing a with
 | zero=>simp [BW]
 | succ n A=>simp only [BW,List.pairwise_cons,A,and_true]; intro x D; have:=CF.1 D; omega
theorem O2 (a:Int) (n:Nat):(BW a n).Nodup:=(Xx a n).imp (λh=>by omega)
theorem qC (a:Int) (n:Nat):BW a (n+1)=BW a n++[a+n]:=by
 induction n generalizing a with
 | zero=>simp [BW]
 | succ n A=>rw [BW,A (a+1)]; simp only [BW,List.cons_append,List.cons.injEq,true_and]; congr 2; omega
def kf (keys:List Int) (p:Int):Int:=(ix keys p).getD 0
def jt (k:Int→Int) (n:Nat):List Int:=uy k n (BW 0 n)
theorem XZ (k:Int→Int) (n:Nat):(jt k n).Perm (BW 0 n):=UO k n _
theorem aA (k:Int→Int) (n:Nat):(jt k n).Pairwise (lx k):=XX k n _ (by rw [B5]; omega) (Xx 0 n)
theorem gR {k:Int→Int} {n:Nat} {l:List Int} (h:l.Perm (BW 0 n)) (A:l.Pairwise (lx k)):l=jt k n :=
 Zu (λ_ _=>rE) (h.trans (XZ k n).symm) A (aA k n)
theorem V7 (k:Int→Int) (n:Nat):(jt k n).length=n:=by rw [(XZ k n).length_eq,B5]
theorem ZN {k:Int→Int} {n:Nat} {x:Int}:x∈jt k n↔0≤x∧x<n:=by rw [(XZ k n).mem_iff,CF]; omega
theorem oL {a b:List Int} (h:a.Perm b) (L:a.Pairwise (·≤·)) (A:b.Pairwise (·≤·)):a=b:=by
 induction a generalizing b with
 | nil=>exact List.Perm.nil_eq h
 | cons x a M =>
  match b,h,A with
  | [],h,_=>have:=h.length_eq; simp at this
  | y::b,h,A =>
   have D:x=y:=by
    have J:x∈y::b:=h.mem_iff.1 AD
    have E:y∈x::a:=h.mem_iff.2 AD
    have O:y≤x:=by
     rcases List.mem_cons.1 J with e | J
     · omega
     · exact (List.pairwise_cons.1 A).1 x J
    have N:x≤y:=by
     rcases List.mem_cons.1 E with e | E
     · omega
     · exact (List.pairwise_cons.1 L).1 y E
    omega
   subst D
   rw [M (List.Perm.cons_inv h) (List.pairwise_cons.1 L).2 (List.pairwise_cons.1 A).2]
theorem PP (l:List Int):(l.mergeSort λx y=>decide (x≤y)).Pairwise (·≤·):=by
 have:=List.pairwise_mergeSort (le:=λx y:Int=>decide (x≤y)) (λa b c _ _=>by simp at *; omega) (λa b=>by simp; omega) l
 exact this.imp (λh=>by simpa using h)
theorem eX (a b c:Int):(Y4 a b c).1≤(Y4 a b c).2.1∧(Y4 a b c).2.1≤(Y4 a b c).2.2:=by
 unfold Y4
 simp only
 split <;> split <;> split <;> (try split) <;> (try split) <;> omega
theorem vZ {a b c x y z:Int} (h:[a,b,c].Perm [x,y,z]) (Y:x≤y) (Z:y≤z):Y4 a b c=(x,y,z):=by
 have N:=h.mem_iff (a:=x)
 have T:=h.mem_iff (a:=z)
 have M:=h.mem_iff (a:=a)
 have V:=h.mem_iff (a:=b)
 have O:=h.mem_iff (a:=c)
 have Q:HW [a,b,c]=HW [x,y,z]:=by
  have D:∀ {l A:List Int},l.Perm A→HW l=HW A:=by
   intro l A U
   induction U with
   | nil=>rfl
   | cons x _ L=>simp [L]
   | swap x y l=>simp; omega
   | trans _ _ J E=>rw [J,E]
  exact D h
 simp at N T M V O Q
 unfold Y4
 simp only [Prod.mk.injEq]
 refine ⟨?_,?_,?_⟩ <;> (split <;> split <;> (try split) <;> (try split) <;> omega)
end Go.Proofs.YtdgpkmgnjdpieaaGreatDoor
