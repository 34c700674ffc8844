/- own lemmas -/
import Derived.Test.YthkaklkinepfkaaGreatDoorS12
import Derived.Test.YthkaklkinepfkaaGreatDoorS15
import Derived.Test.YthkaklkinepfkaaGreatDoorRows
import Derived.Test.YthkaklkinepfkaaGreatDoorS4
set_option linter.unusedSimpArgs false
set_option linter.unusedVariables false
namespace Go.Proofs.YthkaklkinepfkaaGreatDoor
open Go Go.RowKit
open Enc (rd ow)
inductive Fr where
 | sq (y:Code)
 | fn (R:Act→World→Prop)
 | bk (id:Nat)
def den (P:Program) (B:Exit→Act→World→Prop):List Fr→Exit→Act→World→Prop
 | []=>B
 | .sq y::s=>Exit.then (λa w=>y.wp P (den P B s) a w) (den P B s)
 | .fn R::s=>Exit.then R (den P B s)
 | .bk id::s=>Exit.inBlock id (den P B s)
inductive Cf where
 | ops (o:Array Oper) (l:List Oper)
 | code (c:Code)
 | ex (e:Exit)
 | pr (R:Act→World→Prop)
@[reducible] def tgt (P:Program) (B:Exit→Act→World→Prop):Cf→List Fr→Act→World→Prop
 | .ops o l,s,a,w=>wpList P o (den P B s) l a w
 | .code c,s,a,w=>c.wp P (den P B s) a w
 | .ex e,[],a,w=>B e a w
 | .ex e,s,a,w=>den P B s e a w
 | .pr R,_,a,w=>R a w
class Tys (P:Program) where
 fa:List (Nat×Nat×Nat)
 hfa:∀ x∈fa,FA P x.1 x.2.1 x.2.2
 ts:List (Nat×Nat)
 hts:∀ x∈ts,TS P x.1 x.2
 t1:List Nat
 ht1:∀ x∈t1,T1 P x
 ta:List (Nat×Nat)
 hta:∀ x∈ta,TA P x.1 x.2
 sl:List Nat
 hsl:∀ x∈sl,∃ e,P.underlying x=some (.slice e)
 hmx:P.follows .mixedOrders=true
def lk2:List (Nat×Nat)→Nat→Option Nat
 | [],_=>none
 | (x,y)::r,t=>bif Nat.beq x t then some y else lk2 r t
def lk3:List (Nat×Nat×Nat)→Nat→Nat→Option Nat
 | [],_,_=>none
 | (x,y,n)::r,t,f=>bif Nat.beq x t&&Nat.beq y f then some n else lk3 r t f
def lk1:List Nat→Nat→Bool
 | [],_=>false
 | x::r,t=>bif Nat.beq x t then true else lk1 r t
theorem Q3j:∀ {l:List (Nat×Nat)} {t y:Nat},lk2 l t=some y→(t,y)∈l
 | [],t,y,h=>by simp [lk2] at h
 | (x,z)::r,t,y,h=>by
  unfold lk2 at h
  cases hb:Nat.beq x t
  · rw [hb] at h; exact List.mem_cons_of_mem _ (Q3j h)
  · rw [hb] at h
    have:=Nat.eq_of_beq_eq_true hb
    subst this
    simp only [cond_true,Option.some.injEq] at h
    subst h; simp
theorem Q9p:∀ {l:List (Nat×Nat×Nat)} {t f y:Nat},lk3 l t f=some y→(t,f,y)∈l
 | [],t,f,y,h=>by simp [lk3] at h
 | (x,g,z)::r,t,f,y,h=>by
  unfold lk3 at h
  cases hb:Nat.beq x t&&Nat.beq g f
  · rw [hb] at h; exact List.mem_cons_of_mem _ (Q9p h)
  · rw [hb] at h
    simp only [Bool.and_eq_true] at hb
    have e1:=Nat.eq_of_beq_eq_true hb.1
    have e2:=Nat.eq_of_beq_eq_true hb.2
    subst e1 e2
    simp only [cond_true,Option.some.injEq] at h
    subst h; simp
theorem Qzm:∀ {l:List Nat} {t:Nat},lk1 l t=true→t∈l
 | [],t,h=>by simp [lk1] at h
 | x::r,t,h=>by
  unfold lk1 at h
  cases hb:Nat.beq x t
  · rw [hb] at h; exact List.mem_cons_of_mem _ (Qzm h)
  · have:=Nat.eq_of_beq_eq_true hb
    subst this; simp
theorem Ext.agr0 {w w':World} {F:List Nat} (h:Ext [] w w') (hl:∀ b∈F,b<w.heap.size):Agr F w w':=λb hb=>h.blk b (hl b hb) (by simp)
theorem PtAt.ext {w w':World} {p:Addr} {cs:List Value} (h:PtAt w p cs) (hE:Ext [] w w'):PtAt w' p cs:=by
 obtain ⟨g,off,c,e,fr,rfl,hh,hc⟩:=h
 have hl:g<w.heap.size:=(Array.getElem?_eq_some_iff.1 hh).1
 exact ⟨g,off,c,e,fr,rfl,(hE.blk g hl (by simp)).trans hh,hc⟩
structure Fx (P:Program) (w:World) where
 f:List (Nat×Value)→Op→Option (Value×List (Option Value×Option Value))
 ok:∀ {N:Nat} {L:List (Nat×Value)} {a:Act} {o:Oper} {v:Value} {xs:List (Option Value×Option Value)},K N L a→f L o.op=some (v,xs)→(∀ p∈xs,p.1=p.2)→∀ {w':World},Ext [] w w'→(execOp a.eval o).run P w'=.ok (.value v) w'
theorem Qu5 {P:Program} {w:World} {B:Exit→Act→World→Prop} {e:Exit} {s:List Fr} {a:Act}:tgt P B (.ex e) s a w↔den P B s e a w:=by
 cases s <;> exact Iff.rfl
section
variable {P:Program} [T:Tys P] {w u w0:World} {X:List Nat} {M:List (List Nat×World)} {F:List Nat}
def Q26 (P:Program) [T:Tys P] (L:List (Nat×Value)):Op→Option Value
 | .fieldAddr t x f=>match lk3 T.fa t f with
  | some off=>match ev L x with
   | some (.pointer (some p))=>some (.pointer (some (p.add off)))
   | _=>none
  | none=>none
 | .nilCheck x=>match ev L x with
  | some (.pointer (some p))=>some (.pointer (some p))
  | _=>none
 | _=>none
theorem Qy0 {N:Nat} {L:List (Nat×Value)} {a:Act} {o:Oper} {v:Value} (hK:K N L a) (h:Q26 P L o.op=some v):(execOp a.eval o).run P w=.ok (.value v) w:=by
 unfold Q26 at h
 split at h
 · rename_i t x f ho
   split at h
   · rename_i off hl
     split at h
     · rename_i p hv
       cases h
       exact Qwc (T.hfa _ (Q9p hl)) hK ho hv
     · cases h
   · cases h
 · rename_i x ho
   split at h
   · rename_i p hv
     cases h
     exact Qpi hK ho hv
   · cases h
 · cases h
def iF {α:Type} [Enc α] {v:Value} {xs:List α} {n:Int} {y:α} (hf:rd u F [v] xs) (hx:ix xs n=some y):Fx P w where
 f:=λL o=>match o with
  | .indexAddr t x i=>match lk2 T.ts t with
   | some s=>bif Nat.beq s (Enc.sz α) then match ev L i with
    | some (.int k m)=>some (.pointer (some (Qmz v (Enc.sz α) n.toNat)),[(ev L x,some v),(some (.int k m),some (.int k n))])
    | _=>none else none
   | none=>none
  | _=>none
 ok:=by
  intro N L a o v' xs' hK h e w' hE
  split at h
  · rename_i t x i ho
    split at h
    · rename_i s hl
      cases hb:Nat.beq s (Enc.sz α)
      · rw [hb] at h; cases h
      · rw [hb] at h
        have:=Nat.eq_of_beq_eq_true hb
        subst this
        simp only [cond_true] at h
        split at h
        · rename_i k m hv
          cases h
          simp only [List.mem_cons,List.not_mem_nil,or_false,forall_eq_or_imp,forall_eq] at e
          exact Qci hf hx hK (T.hts _ (Q3j hl)) ho e.1 (hv.trans e.2)
        · cases h
    · cases h
  · cases h
def eF {α:Type} [Flat α] {v:Value} {xs:List α} {n:Int} {y:α} (hf:rd w F [v] xs) (hx:ix xs n=some y) (off:Nat):Fx P w where
 f:=λL o=>match o with
  | .load t x=>bif lk1 T.t1 t then match (Flat.e y)[off]? with
      | some c=>some (c,[(ev L x,some (.pointer (some ((Qmz v (Flat.sz α) n.toNat).add off))))])
      | none=>none else none
  | _=>none
 ok:=by
  intro N L a o v' xs' hK h e w' hE
  split at h
  · rename_i t x ho
    cases hb:lk1 T.t1 t
    · rw [hb] at h; cases h
    · rw [hb] at h
      simp only [cond_true] at h
      split at h
      · rename_i c hc
        cases h
        simp only [List.mem_cons,List.not_mem_nil,or_false,forall_eq_or_imp,forall_eq] at e
        exact Qcq hf (hE.agr0 (Enc.rd_lt hf)) hx off (T.ht1 _ (Qzm hb)) hK ho e rfl hc
      · cases h
  · cases h
def eA {α:Type} [Flat α] {v:Value} {xs:List α} {n:Int} {y:α} (hf:rd w F [v] xs) (hx:ix xs n=some y):Fx P w where
 f:=λL o=>match o with
  | .load t x=>match lk2 T.ta t with
   | some s=>bif Nat.beq s (Flat.sz α) then some (.agg (Flat.e y).toArray,[(ev L x,some (.pointer (some (Qmz v (Flat.sz α) n.toNat))))]) else none
   | none=>none
  | _=>none
 ok:=by
  intro N L a o v' xs' hK h e w' hE
  split at h
  · rename_i t x ho
    split at h
    · rename_i s hl
      cases hb:Nat.beq s (Flat.sz α)
      · rw [hb] at h; cases h
      · rw [hb] at h
        have:=Nat.eq_of_beq_eq_true hb
        subst this
        simp only [cond_true] at h
        cases h
        simp only [List.mem_cons,List.not_mem_nil,or_false,forall_eq_or_imp,forall_eq] at e
        exact Jf2 hf (hE.agr0 (Enc.rd_lt hf)) hx (T.hta _ (Q3j hl)) hK ho e
    · cases h
  · cases h
def bF {b:Nat} {cs:List Value} {e:TypeId} (hM:St X w0 w M) (i:Nat) (hb:bx u b cs e) (hi:M[i]? = some ([b],u)):Fx P w where
 f:=λL o=>match o with
  | .load t x=>bif lk1 T.t1 t then match ev L x with
   | some (.pointer (some p))=>match cs[p.off]? with
    | some c=>some (c,[(some (.pointer (some p)),some (.pointer (some ((⟨b,0,none⟩:Addr).add p.off))))])
    | none=>none
   | _=>none else none
  | _=>none
 ok:=by
  intro N L a o v' xs' hK h e w' hE
  split at h
  · rename_i t x ho
    cases hb':lk1 T.t1 t
    · rw [hb'] at h; cases h
    · rw [hb'] at h
      simp only [cond_true] at h
      split at h
      · rename_i p hv
        split at h
        · rename_i c hc
          cases h
          simp only [List.mem_cons,List.not_mem_nil,or_false,forall_eq_or_imp,forall_eq,Option.some.injEq,Value.pointer.injEq] at e
          exact Jno (T.ht1 _ (Qzm hb')) (hM.step hE) i hb _ hK hi ho hv e hc
        · cases h
      · cases h
  · cases h
def bA {b:Nat} {cs:List Value} {e:TypeId} (hM:St X w0 w M) (i:Nat) (hb:bx u b cs e) (hi:M[i]? = some ([b],u)):Fx P w where
 f:=λL o=>match o with
  | .load t x=>match lk2 T.ta t with
   | some n=>match ev L x with
    | some (.pointer (some p))=>bif Nat.beq ((cs.drop p.off).take n).length n then some (.agg ((cs.drop p.off).take n).toArray,[(some (.pointer (some p)),some (.pointer (some ((⟨b,0,none⟩:Addr).add p.off))))]) else none
    | _=>none
   | none=>none
  | _=>none
 ok:=by
  intro N L a o v' xs' hK h e w' hE
  split at h
  · rename_i t x ho
    split at h
    · rename_i n hl
      split at h
      · rename_i p hv
        cases hb':Nat.beq ((cs.drop p.off).take n).length n
        · rw [hb'] at h; cases h
        · rw [hb'] at h
          simp only [cond_true] at h
          cases h
          simp only [List.mem_cons,List.not_mem_nil,or_false,forall_eq_or_imp,forall_eq,Option.some.injEq,Value.pointer.injEq] at e
          exact Jlm (T.hta _ (Q3j hl)) (hM.step hE) i hb _ hK hi ho hv e rfl (Nat.eq_of_beq_eq_true hb')
      · cases h
    · cases h
  · cases h
def pF {p:Addr} {c:Value} {r:List Value} (hp:PtAt w p (c::r)):Fx P w where
 f:=λL o=>match o with
  | .load t x=>bif lk1 T.t1 t then some (c,[(ev L x,some (.pointer (some p)))]) else none
  | _=>none
 ok:=by
  intro N L a o v' xs' hK h e w' hE
  split at h
  · rename_i t x ho
    cases hb':lk1 T.t1 t
    · rw [hb'] at h; cases h
    · rw [hb'] at h
      simp only [cond_true] at h
      cases h
      simp only [List.mem_cons,List.not_mem_nil,or_false,forall_eq_or_imp,forall_eq] at e
      exact Qcc (T.ht1 _ (Qzm hb')) (hp.ext hE) hK ho e
  · cases h
def lF {α:Type} [Enc α] {v:Value} {xs:List α} (hf:rd u F [v] xs):Fx P w where
 f:=λL o=>match o with
  | .call { callee:=.builtin .len,args:=⟨[x]⟩,argTypes:=⟨[t]⟩ }=>bif lk1 T.sl t then some (.int .i64 (xs.length:Int),[(ev L x,some v)]) else none
  | _=>none
 ok:=by
  intro N L a o v' xs' hK h e w' hE
  split at h
  · rename_i x t ho
    cases hb':lk1 T.sl t
    · rw [hb'] at h; cases h
    · rw [hb'] at h
      simp only [cond_true] at h
      cases h
      simp only [List.mem_cons,List.not_mem_nil,or_false,forall_eq_or_imp,forall_eq] at e
      obtain ⟨e',hu⟩:=T.hsl _ (Qzm hb')
      exact Jds hf hK hu ho e
  · cases h
structure Cfg (P:Program) (w:World) where
 c:Cf
 s:List Fr
 L:List (Nat×Value)
 fs:List (Fx P w)
 xs:List (Option Value×Option Value)
def step (N:Nat):Cfg P w→Option (Cfg P w)
 | ⟨.ops o [],s,L,fs,xs⟩=>some ⟨.ex .normal,s,L,fs,xs⟩
 | ⟨.ops o (q::r),s,L,fs,xs⟩=>match q.dst with
  | none=>none
  | some d=>bif Nat.blt d N then (match gd L o q.guard with
   | none=>none
   | some false=>some ⟨.ops o r,s,(d,undef)::L,fs,xs⟩
   | some true=>match Qnq L q.op with
    | some v=>some ⟨.ops o r,s,(d,v)::L,fs,xs⟩
    | none=>match Q26 P L q.op with
     | some v=>some ⟨.ops o r,s,(d,v)::L,fs,xs⟩
     | none=>match fs with
      | []=>none
      | f::fs=>match f.f L q.op with
       | some (v,x)=>some ⟨.ops o r,s,(d,v)::L,fs,x++xs⟩
       | none=>none) else none
 | ⟨.code c,s,L,fs,xs⟩=>match c with
  | .seq x y=>some ⟨.code x,.sq y::s,L,fs,xs⟩
  | .region _ ⟨l⟩ false=>some ⟨.ops l.toArray l,s,L,fs,xs⟩
  | .block id c=>some ⟨.code c,.bk id::s,L,fs,xs⟩
  | .cond t x y=>match ev L t with
   | some (.bool true)=>some ⟨.code x,s,L,fs,xs⟩
   | some (.bool false)=>some ⟨.code y,s,L,fs,xs⟩
   | _=>none
  | .skip=>some ⟨.ex .normal,s,L,fs,xs⟩
  | .exit id=>some ⟨.ex (.exit id),s,L,fs,xs⟩
  | .ret=>some ⟨.ex .ret,s,L,fs,xs⟩
  | _=>none
 | ⟨.ex .normal,.sq y::s,L,fs,xs⟩=>some ⟨.code y,s,L,fs,xs⟩
 | ⟨.ex .normal,.fn R::s,L,fs,xs⟩=>some ⟨.pr R,s,L,fs,xs⟩
 | ⟨.ex .normal,.bk _::s,L,fs,xs⟩=>some ⟨.ex .normal,s,L,fs,xs⟩
 | ⟨.ex (.exit i),.bk id::s,L,fs,xs⟩=>bif Nat.beq i id then some ⟨.ex .normal,s,L,fs,xs⟩ else some ⟨.ex (.exit i),s,L,fs,xs⟩
 | ⟨.ex (.exit i),.sq _::s,L,fs,xs⟩=>some ⟨.ex (.exit i),s,L,fs,xs⟩
 | ⟨.ex (.exit i),.fn _::s,L,fs,xs⟩=>some ⟨.ex (.exit i),s,L,fs,xs⟩
 | ⟨.ex .ret,_::s,L,fs,xs⟩=>some ⟨.ex .ret,s,L,fs,xs⟩
 | _=>none
def run (N:Nat):Nat→Cfg P w→Option (Cfg P w)
 | 0,c=>some c
 | n+1,c=>match step N c with
  | some c=>run N n c
  | none=>none
def Jh7:List (Option Value×Option Value)→List (Option Value)
 | []=>[]
 | p::r=>p.1::Jh7 r
def Jh3:List (Option Value×Option Value)→List (Option Value)
 | []=>[]
 | p::r=>p.2::Jh3 r
theorem Q7q:∀ {l:List (Option Value×Option Value)},Jh7 l=Jh3 l→∀ p∈l,p.1=p.2
 | [],_,p,h=>by simp at h
 | q::r,e,p,h=>by
  simp only [Jh7,Jh3,List.cons.injEq] at e
  rcases List.mem_cons.1 h with rfl | h
  · exact e.1
  · exact Q7q e.2 p h
theorem Jhk {B:Exit→Act→World→Prop} {N:Nat} {c c':Cfg P w} (h:step N c=some c') (ho:∀ p∈c'.xs,p.1=p.2) :
    (∀ p∈c.xs,p.1=p.2)∧∀ {a:Act},K N c.L a→(∀ {a},K N c'.L a→tgt P B c'.c c'.s a w)→tgt P B c.c c.s a w:=by
 unfold step at h
 split at h
 · rename_i o s L fs xs
   cases h
   exact ⟨ho,λhK k=>wpList_nil (Qu5.1 (k hK))⟩
 · rename_i o q r s L fs xs
   cases hd:q.dst with
   | none=>rw [hd] at h; cases h
   | some d =>
    rw [hd] at h
    simp only at h
    cases hN:Nat.blt d N
    · rw [hN] at h; cases h
    · rw [hN] at h
      simp only [cond_true] at h
      split at h
      · cases h
      · rename_i hg
        cases h
        exact ⟨ho,λhK k=>sk hK hg hd hN λa hK=>k hK⟩
      · rename_i hg
        split at h
        · rename_i v hp
          cases h
          exact ⟨ho,λhK k=>s1 hK hg hd hN hp λa hK=>k hK⟩
        · split at h
          · rename_i v hp
            cases h
            exact ⟨ho,λhK k=>Que hK hg hd hN (Qy0 hK hp) λa hK=>k hK⟩
          · split at h
            · cases h
            · rename_i f fs
              split at h
              · rename_i v x hf
                cases h
                simp only [List.mem_append] at ho
                exact ⟨λp hp=>ho p (.inr hp),λhK k=>Que hK hg hd hN (f.ok hK hf (λp hp=>ho p (.inl hp)) (Ext.refl _ _)) λa hK=>k hK⟩
              · cases h
 · rename_i c s L fs xs
   split at h
   · cases h; exact ⟨ho,λhK k=>wp_seq (k hK)⟩
   · cases h; exact ⟨ho,λhK k=>wp_region_lit (k hK)⟩
   · cases h; exact ⟨ho,λhK k=>wp_block (k hK)⟩
   · split at h
     · rename_i hv
       cases h; exact ⟨ho,λhK k=>wp_cond_true (hK.ev hv) (k hK)⟩
     · rename_i hv
       cases h; exact ⟨ho,λhK k=>wp_cond_false (hK.ev hv) (k hK)⟩
     · cases h
   · cases h; exact ⟨ho,λhK k=>wp_skip (Qu5.1 (k hK))⟩
   · cases h; exact ⟨ho,λhK k=>wp_exit (Qu5.1 (k hK))⟩
   · cases h; exact ⟨ho,λhK k=>wp_ret (Qu5.1 (k hK))⟩
   · cases h
 · cases h; exact ⟨ho,λhK k=>Qad (k hK)⟩
 · cases h; exact ⟨ho,λhK k=>Qad (k hK)⟩
 · cases h; exact ⟨ho,λhK k=>Qtd (Qu5.1 (k hK))⟩
 · rename_i i id s L fs xs
   cases hb:Nat.beq i id
   · rw [hb] at h
     cases h
     exact ⟨ho,λhK k=>Jcz hb (Qu5.1 (k hK))⟩
   · rw [hb] at h
     cases h
     have:=Nat.eq_of_beq_eq_true hb
     subst this
     exact ⟨ho,λhK k=>Jhm (Qu5.1 (k hK))⟩
 · cases h; exact ⟨ho,λhK k=>Q9e (Qu5.1 (k hK))⟩
 · cases h; exact ⟨ho,λhK k=>Q9e (Qu5.1 (k hK))⟩
 · rename_i f s L fs xs
   cases h
   refine ⟨ho,λhK k=>?_⟩
   have:=Qu5.1 (k hK)
   cases f
   · exact Qws this
   · exact Qws this
   · exact Jc2 this
 · cases h
theorem Q1m {B:Exit→Act→World→Prop} {N:Nat}:∀ (n:Nat) {c c':Cfg P w},run N n c=some c'→(∀ p∈c'.xs,p.1=p.2) →
    (∀ p∈c.xs,p.1=p.2)∧∀ {a:Act},K N c.L a→(∀ {a},K N c'.L a→tgt P B c'.c c'.s a w)→tgt P B c.c c.s a w
 | 0,c,c',h,ho=>by
  cases h
  exact ⟨ho,λhK k=>k hK⟩
 | n+1,c,c',h,ho=>by
  unfold run at h
  split at h
  · rename_i c1 h1
    have h2:=Q1m (B:=B) n h ho
    have h3:=Jhk (B:=B) h1 h2.1
    exact ⟨h3.1,λhK k=>h3.2 hK λhK=>h2.2 hK k⟩
  · cases h
theorem gl {B:Exit→Act→World→Prop} {N:Nat} (n:Nat) (fs:List (Fx P w)) {o:Array Oper} {l:List Oper} {s s':List Fr} {L L':List (Nat×Value)} {a:Act} {c':Cf} {fs':List (Fx P w)} {xs:List (Option Value×Option Value)}
    (hK:K N L a) (h:(run N n ⟨.ops o l,s,L,fs,[]⟩,Jh7 xs)=(some ⟨c',s',L',fs',xs⟩,Jh3 xs)) (k:∀ {a},K N L' a→tgt P B c' s' a w):wpList P o (den P B s) l a w :=
 (Q1m (B:=B) n (congrArg Prod.fst h) (Q7q (congrArg Prod.snd h))).2 hK k
theorem gc {B:Exit→Act→World→Prop} {N:Nat} (n:Nat) (fs:List (Fx P w)) {c:Code} {s s':List Fr} {L L':List (Nat×Value)} {a:Act} {c':Cf} {fs':List (Fx P w)} {xs:List (Option Value×Option Value)}
    (hK:K N L a) (h:(run N n ⟨.code c,s,L,fs,[]⟩,Jh7 xs)=(some ⟨c',s',L',fs',xs⟩,Jh3 xs)) (k:∀ {a},K N L' a→tgt P B c' s' a w):c.wp P (den P B s) a w :=
 (Q1m (B:=B) n (congrArg Prod.fst h) (Q7q (congrArg Prod.snd h))).2 hK k
theorem ul {B:Exit→Act→World→Prop} {N:Nat} (n:Nat) {o:Array Oper} {l:List Oper} {s s':List Fr} {L L':List (Nat×Value)} {a:Act} {c':Cf}
    (hK:K N L a) (h:run N n (⟨.ops o l,s,L,[],[]⟩:Cfg P w)=some ⟨c',s',L',[],[]⟩) (k:∀ {a},K N L' a→tgt P B c' s' a w):wpList P o (den P B s) l a w :=
 (Q1m (B:=B) n h (by simp)).2 hK k
theorem uc {B:Exit→Act→World→Prop} {N:Nat} (n:Nat) {c:Code} {s s':List Fr} {L L':List (Nat×Value)} {a:Act} {c':Cf}
    (hK:K N L a) (h:run N n (⟨.code c,s,L,[],[]⟩:Cfg P w)=some ⟨c',s',L',[],[]⟩) (k:∀ {a},K N L' a→tgt P B c' s' a w):c.wp P (den P B s) a w :=
 (Q1m (B:=B) n h (by simp)).2 hK k
theorem ue {B:Exit→Act→World→Prop} {N:Nat} (n:Nat) {e:Exit} {s s':List Fr} {L L':List (Nat×Value)} {a:Act} {c':Cf}
    (hK:K N L a) (h:run N n (⟨.ex e,s,L,[],[]⟩:Cfg P w)=some ⟨c',s',L',[],[]⟩) (k:∀ {a},K N L' a→tgt P B c' s' a w):den P B s e a w :=
 Qu5.1 ((Q1m (B:=B) n h (by simp)).2 hK k)
def Ja9 (N:Nat) (ops:Array Oper):List Nat→List (Nat×Value)→List (Fx P w)→List (Option Value×Option Value)→Option (List (Nat×Value)×List (Fx P w)×List (Option Value×Option Value))
 | [],L,fs,xs=>some (L,fs,xs)
 | i::is,L,fs,xs=>match ops[i]? with
  | none=>none
  | some q=>match q.dst with
   | none=>none
   | some d=>bif Nat.blt d N then (match gd L ops q.guard with
    | none=>none
    | some false=>Ja9 N ops is ((d,undef)::L) fs xs
    | some true=>match Qnq L q.op with
     | some v=>Ja9 N ops is ((d,v)::L) fs xs
     | none=>match Q26 P L q.op with
      | some v=>Ja9 N ops is ((d,v)::L) fs xs
      | none=>match fs with
       | []=>none
       | f::fs=>match f.f L q.op with
        | some (v,x)=>Ja9 N ops is ((d,v)::L) fs (x++xs)
        | none=>none) else none
theorem Qwa {N:Nat} {ops:Array Oper}:∀ (is:List Nat) {L L':List (Nat×Value)} {fs fs':List (Fx P w)} {xs xs':List (Option Value×Option Value)},Ja9 N ops is L fs xs=some (L',fs',xs')→∀ p∈xs,p∈xs'
 | [],L,L',fs,fs',xs,xs',h=>by
  simp only [Ja9,Option.some.injEq,Prod.mk.injEq] at h
  rw [h.2.2]; exact λp h=>h
 | i::is,L,L',fs,fs',xs,xs',h=>by
  unfold Ja9 at h
  split at h
  · cases h
  · split at h
    · cases h
    · rename_i d hd
      cases hN:Nat.blt d N
      · rw [hN] at h; cases h
      · rw [hN] at h
        simp only [cond_true] at h
        split at h
        · cases h
        · exact Qwa is h
        · split at h
          · exact Qwa is h
          · split at h
            · exact Qwa is h
            · split at h
              · cases h
              · split at h
                · exact λp hp=>Qwa is h p (List.mem_append_right _ hp)
                · cases h
theorem Qzj {Q:Exit→Act→World→Prop} {N:Nat} {ops:Array Oper} {w1:World} (s:Ext [] w w1):∀ (is:List Nat) (n:Nat) {fuel:Nat} {listed:Array Bool} {L L':List (Nat×Value)} {a:Act} {fs fs':List (Fx P w)} {xs xs':List (Option Value×Option Value)},is.length=n→K N L a →
    Ja9 N ops is L fs xs=some (L',fs',xs')→(∀ p∈xs',p.1=p.2)→okN ops listed is=true→(∀ c (a:Act) d v w,Q (.panic c) (a.put (some d) v) w→Q (.panic c) a w) →
    (∀ {a},K N L' a→wpAnyH P .any ops Q (Ext [] w) fuel (Jir listed is) a w1)→wpAnyH P .any ops Q (Ext [] w) (fuel+n) listed a w1
 | [],n,fuel,listed,L,L',a,fs,fs',xs,xs',hn,hK,h,hx,ho,hQ,k=>by
  subst hn
  simp only [Ja9,Option.some.injEq,Prod.mk.injEq] at h
  rw [← h.1] at k
  exact k hK
 | i::is,n,fuel,listed,L,L',a,fs,fs',xs,xs',hn,hK,h,hx,ho,hQ,k=>by
  subst hn
  unfold okN at ho
  simp only [Bool.and_eq_true] at ho
  unfold Ja9 at h
  split at h
  · cases h
  · rename_i q hi
    split at h
    · cases h
    · rename_i d hd
      cases hN:Nat.blt d N
      · rw [hN] at h; cases h
      · rw [hN] at h
        simp only [cond_true] at h
        have hQ':∀ {v:Value},∀ c (a:Act) w,Q (.panic c) (a.put q.dst v) w→Q (.panic c) a w:=λc a w=>by rw [hd]; exact hQ c a d _ w
        split at h
        · cases h
        · rename_i hg
          exact Jb4 hK i hi (Qgm ho.1).1 (Qgm ho.1).2.1 (Qgm ho.1).2.2 hg hd hN s hQ' λa hK=>Qzj s is _ rfl hK h hx ho.2 hQ k
        · rename_i hg
          split at h
          · rename_i v hp
            exact Jd5 hK i hi (Qgm ho.1).1 (Qgm ho.1).2.1 (Qgm ho.1).2.2 hg hd hN s hQ' hp λa hK=>Qzj s is _ rfl hK h hx ho.2 hQ k
          · split at h
            · rename_i v hp
              exact Q65 hK i hi (Qgm ho.1).1 (Qgm ho.1).2.1 (Qgm ho.1).2.2 hg hd hN s hQ' (λw _=>Qy0 hK hp) λa hK=>Qzj s is _ rfl hK h hx ho.2 hQ k
            · split at h
              · cases h
              · rename_i f fs
                split at h
                · rename_i v x hf
                  have hs:=Qwa is h
                  exact Q65 hK i hi (Qgm ho.1).1 (Qgm ho.1).2.1 (Qgm ho.1).2.2 hg hd hN s hQ' (λw' hE=>f.ok hK hf (λp hp=>hx p (hs p (List.mem_append_left _ hp))) hE) λa hK=>Qzj s is _ rfl hK h hx ho.2 hQ k
                · cases h
theorem dr {Q:Exit→Act→World→Prop} {N:Nat} {ops:Array Oper} {w1:World} (is:List Nat) (n:Nat) (fs:List (Fx P w)) {fuel:Nat} {listed:Array Bool} {L L':List (Nat×Value)} {a:Act} {fs':List (Fx P w)} {xs:List (Option Value×Option Value)}
    (hK:K N L a) (h:(is.length,Ja9 N ops is L fs [],Jh7 xs)=(n,some (L',fs',xs),Jh3 xs)) (s:Ext [] w w1) (k:∀ {a},K N L' a→wpAnyH P .any ops Q (Ext [] w) fuel (Jir listed is) a w1)
    (ho:okN ops listed is=true:=by kernel_rfl) (hQ:∀ c (a:Act) d v w,Q (.panic c) (a.put (some d) v) w→Q (.panic c) a w:=by exact λ_ _ _ _ _=>id):wpAnyH P .any ops Q (Ext [] w) (fuel+n) listed a w1:=by
 simp only [Prod.mk.injEq] at h
 exact Qzj s is n h.1 hK h.2.1 (Q7q h.2.2) ho hQ k
end
section
variable {P:Program} {w u w0:World} {X:List Nat} {M:List (List Nat×World)} {F:List Nat}
theorem K.p {N:Nat} {L L':List (Nat×Value)} {a:Act} (h:K N L a) (hk:Q5e L (L'.map Prod.fst)=some L'):K N L' a:=h.keep _ hk
theorem bS {α:Type} {b:Bool} {p q r:α} {G:Prop} {N:Nat} {L:List (Nat×Value)} {a:Act} (h:(bif b then p else q)=r) (hK:K N L a) (d:Nat) (hl:lk L d=some (.bool b))
    (ht:b=true→p=r→K N ((d,.bool true)::L) a→G) (hf:b=false→q=r→K N ((d,.bool false)::L) a→G):G:=by
 cases hb:b
 · exact hf hb (Qz6 hb h) (hK.rb d hl hb)
 · exact ht hb (Qzf hb h) (hK.rb d hl hb)
theorem cJ {α:Type} {b:Bool} {p q r:α} {Q:Exit→Act→World→Prop} {N:Nat} {L:List (Nat×Value)} {a:Act} {x y:Code} {t:Operand} (h:(bif b then p else q)=r) (hK:K N L a) (hc:ev L t=some (.bool b)) (ht:p=r→x.wp P Q a w) (hf:q=r→y.wp P Q a w) :
    (Code.cond t x y).wp P Q a w:=cI h hK hc (λ_=>ht) (λ_=>hf)
theorem o2 {α β γ:Type} {m:Option α} {n:α→Option β} {k:α→β→Option γ} {r:γ} {p:Prop} (h:(Qab m λx=>Qab (n x) (k x))=some r) (hp:∀ x,m=some x→∀ y,n x=some y→k x y=some r→p):p :=
 oE h λx h1 h2=>oE h2 λy h3 h4=>hp x h1 y h3 h4
theorem lG {B:Exit→Act→World→Prop} {s:List Fr} {c:Code} {a:Act} (I:Nat→Act→World→Prop)
    (round:∀ n a w,I (n+1) a w→c.wp P (den P B (.fn (I n)::s)) a w) (n:Nat) (hI:I n a w) (h0:∀ a w,¬ I 0 a w:=by
     intro a w h
     repeat (first | exact nS h | obtain ⟨_,h⟩:=h)):(Code.loop c).wp P (den P B s) a w:=Jin I h0 round n a w hI
theorem eg {f:FuncId} {fn:Func} {c:Code} {R:Ending→World→Prop} {N:Nat} {vs:List Value}
    (hf:P.funcs[f]? = some fn) (hb:fn.body=some c) (hn:fn.ntmps=N) (hle:Nat.ble vs.length N=true)
    (h:∀ {a},K N (Jgk 0 vs) a→St [] w w []→c.wp P (den P (bodyPost P fn R) []) a w):Calls P f vs.toArray w R:=enter hf hb hn hle λa k=>h k (St.start w)
theorem cg {B:Exit→Act→World→Prop} {s:List Fr} {x y:Code} {a:Act} (R:Act→World→Prop) (hy:∀ a w,R a w→y.wp P (den P B s) a w) (hx:x.wp P (den P B (.fn R::s)) a w):(Code.seq x y).wp P (den P B s) a w:=Jng R hy hx
section
variable {ops:Array Oper} {Q:Exit→Act→World→Prop} {rest:List Oper} {o:Oper} {a:Act} {N d:Nat} {L:List (Nat×Value)}
theorem sL {α:Type} [Enc α] {r:α} (hK:K N L a) (hM:St X w0 w M) {f:FuncId} {xs:List Operand} {vs:List Value} {tys:Array TypeId}
    (hcall:∀ (args:Array Value) (w:World),(callFunc f args).run P w=.ok (.enter f args) w)
    (h1:(gd L ops o.guard,o.dst,Nat.blt d N,o.op,evs L xs)=(some true,some d,true,.call { callee:=.value (.func f),args:=xs.toArray,argTypes:=tys },some vs))
    (hc:Calls P f vs.toArray w λe w'=>∃ (v:Value) (G:List Nat),e=.returned v∧Ext [] w w'∧ow w' G [v] r∧∀ b∈G,w.heap.size≤b)
    (hR:∀ {a} w' v G,ow w' G [v] r→K N ((d,v)::L) a→St X w0 w' ((G,w')::M)→wpList P ops Q rest a w'):wpList P ops Q (o::rest) a w :=
 sC hK hcall h1 hc λe w' ⟨v,G,h2,hE,ho,hf⟩=>⟨v,h2,λ_ k=>hR w' v G ho k (hM.nw hE hf ho)⟩
theorem sU {T:World→Prop} (hK:K N L a) (hM:St X w0 w M) (i:Nat) {f:FuncId} {xs:List Operand} {vs:List Value} {v:Value} {tys:Array TypeId}
    (hcall:∀ (args:Array Value) (w:World),(callFunc f args).run P w=.ok (.enter f args) w)
    (h1:(gd L ops o.guard,o.dst,Nat.blt d N,o.op,evs L xs,M[i]?)=(some true,some d,true,.call { callee:=.value (.func f),args:=xs.toArray,argTypes:=tys },some vs,some (F,u)))
    (hc:Calls P f vs.toArray w λe w'=>e=.returned v∧Ext F w w'∧T w')
    (hR:∀ {a} w',T w'→K N ((d,v)::L) a→St X w0 w' (M.set i (F,w'))→wpList P ops Q rest a w'):wpList P ops Q (o::rest) a w:=by
 simp only [Prod.mk.injEq] at h1
 obtain ⟨a1,a2,a3,a4,a5,a6⟩:=h1
 exact Q8u hK hcall a1 a2 a3 a4 a5 hc λe w' ⟨h2,hE,hT⟩=>⟨_,h2,λ_ k=>hR w' hT k (hM.mu i a6 hE)⟩
end
section
variable {B:Exit→Act→World→Prop} {s:List Fr} {ops:Array Oper} {a:Act} {S:World→Prop} {fuel zz:Nat} {listed:Array Bool} {o o' o'':Oper}
@[reducible] def dR (P:Program) (B:Exit→Act→World→Prop) (s:List Fr) (ops:Array Oper) (S:World→Prop) (fuel:Nat) (listed:Array Bool) (i:Nat):Fr :=
 .fn λa' w'=>S w'∧wpAnyH P .any ops (den P B s) S fuel (listed.setIfInBounds i true) a' w'
@[reducible] def qR (P:Program) (B:Exit→Act→World→Prop) (s:List Fr) (ops:Array Oper) (S:World→Prop) (zz fuel:Nat) (listed:Array Bool) (i:Nat):Fr :=
 .fn λa' w'=>(i≠zz→S w')∧Qw0 P ops (den P B s) S zz fuel (listed.setIfInBounds i true) a' w'
theorem dG (i:Nat) (hi:ops[i]? = some o) (h:wpList P ops (den P B (dR P B s ops S fuel listed i::s)) [o] a w) (hr:Region.ready .any ops listed=[i]:=by kernel_rfl):wpAnyH P .any ops (den P B s) S (fuel+1) listed a w:=Jni i hr hi h
theorem dG2 (i j:Nat) (hr:Region.ready .any ops listed=[i,j]) (hi:ops[i]? = some o) (hj:ops[j]? = some o') (h:wpList P ops (den P B (dR P B s ops S fuel listed i::s)) [o] a w)
    (h':wpList P ops (den P B (dR P B s ops S fuel listed j::s)) [o'] a w):wpAnyH P .any ops (den P B s) S (fuel+1) listed a w:=Jm5 i j hr hi hj h h'
theorem dG3 (i j k:Nat) (hr:Region.ready .any ops listed=[i,j,k]) (hi:ops[i]? = some o) (hj:ops[j]? = some o') (hk:ops[k]? = some o'') (h:wpList P ops (den P B (dR P B s ops S fuel listed i::s)) [o] a w)
    (h':wpList P ops (den P B (dR P B s ops S fuel listed j::s)) [o'] a w) (h'':wpList P ops (den P B (dR P B s ops S fuel listed k::s)) [o''] a w):wpAnyH P .any ops (den P B s) S (fuel+1) listed a w:=Jhf i j k hr hi hj hk h h' h''
theorem qG (i:Nat) (hr:Region.ready .any ops listed=[i]) (hi:ops[i]? = some o) (h:wpList P ops (den P B (qR P B s ops S zz fuel listed i::s)) [o] a w):Qw0 P ops (den P B s) S zz (fuel+1) listed a w:=Jmx i hr hi h
theorem qG2 (i j:Nat) (hr:Region.ready .any ops listed=[i,j]) (hi:ops[i]? = some o) (hj:ops[j]? = some o') (h:wpList P ops (den P B (qR P B s ops S zz fuel listed i::s)) [o] a w)
    (h':wpList P ops (den P B (qR P B s ops S zz fuel listed j::s)) [o'] a w):Qw0 P ops (den P B s) S zz (fuel+1) listed a w:=Jnm i j hr hi hj h h'
theorem qG3 (i j k:Nat) (hr:Region.ready .any ops listed=[i,j,k]) (hi:ops[i]? = some o) (hj:ops[j]? = some o') (hk:ops[k]? = some o'') (h:wpList P ops (den P B (qR P B s ops S zz fuel listed i::s)) [o] a w)
    (h':wpList P ops (den P B (qR P B s ops S zz fuel listed j::s)) [o'] a w) (h'':wpList P ops (den P B (qR P B s ops S zz fuel listed k::s)) [o''] a w):Qw0 P ops (den P B s) S zz (fuel+1) listed a w:=Jgn i j k hr hi hj hk h h' h''
end
end
section
variable {P:Program} {w u w0 w' wd:World} {X Z Y:List Nat} {M:List (List Nat×World)} {F:List Nat}
theorem Ext.lo (s:Ext Z u w) {b:Nat} (h:w.heap.size≤b):∀ y∈[b],u.heap.size≤y:=lo1 (Nat.le_trans s.size h)
theorem Ext.le (s:Ext Z u w) {A:List Nat} (h:∀ b∈A,w.heap.size≤b):∀ y∈A,u.heap.size≤y:=λy hy=>Nat.le_trans s.size (h y hy)
def pfx:List (List Nat×World)→List (List Nat×World)→List (List Nat×World)
 | [],_=>[]
 | _::_,[]=>[]
 | _::r,x::s=>x::pfx r s
theorem Jar:∀ (A B:List (List Nat×World)),∃ C,B=pfx A B++C
 | [],B=>⟨B,rfl⟩
 | _::_,[]=>⟨[],rfl⟩
 | _::r,x::s=>by
  obtain ⟨C,h⟩:=Jar r s
  exact ⟨C,by simpa [pfx] using h⟩
theorem St.f {M':List (List Nat×World)} (h:St X w0 w M) (hk:pfx M' M=M'):St X w0 w M':=by
 obtain ⟨C,hC⟩:=Jar M' M
 rw [hk] at hC
 subst hC
 have hs:∀ b∈fps M',b∈fps (M'++C):=λb hb=>by simp only [fps,List.flatMap_append]; exact List.mem_append_left _ hb
 refine ⟨h.ext,λq hq=>h.ok q (List.mem_append_left _ hq),λb hb=>h.lt b (hs b hb),λb hb=>h.lo b (hs b hb),?_⟩
 have:=h.nd
 simp only [fps,List.flatMap_append] at this
 exact (List.nodup_append.1 this).1
section
variable {ops:Array Oper} {Q:Exit→Act→World→Prop} {rest:List Oper} {o:Oper} {a:Act} {N d:Nat} {L:List (Nat×Value)} {S:World→Prop} {z fuel:Nat} {listed:Array Bool}
end
/- a run and the cond behind it -/
section
variable [T:Tys P] {B:Exit→Act→World→Prop} {N:Nat} {s s':List Fr} {L L':List (Nat×Value)} {a:Act} {t:Operand} {x y:Code} {α:Type} {b:Bool} {p q r:α}
end
end
end Go.Proofs.YthkaklkinepfkaaGreatDoor
set_option linter.unusedSimpArgs false
set_option linter.unusedVariables false
namespace Go.Proofs.YthkaklkinepfkaaGreatDoor
open Go
open Enc (rd ow)
open Arg (argv)
open Ret (retv)
open Wf (wf)
instance:Wf Pallet:=⟨λx=>wf x.fW∧wf x.fD∧wf x.fH∧wf x.fQ⟩
instance:Wf Pair:=⟨λx=>wf x.fA∧wf x.fB⟩
instance:Wf Typ:=⟨λx=>wf x.ft∧wf x.fW∧wf x.fH∧wf x.fD∧wf x.qQ∧wf x.fQ∧wf x.fl⟩
instance:Wf Item:=⟨λx=>wf x.ft∧wf x.fW∧wf x.fH∧wf x.fD∧wf x.fQ∧wf x.fK∧wf x.fF⟩
instance:Wf Request:=⟨λx=>wf x.f0∧wf x.fJ∧wf x.fG∧wf x.fR∧wf x.fU∧wf x.fT∧wf x.fV⟩
instance:Wf Carton:=⟨λx=>wf x.qY∧wf x.qJ∧wf x.fO⟩
instance:Wf Spot:=⟨λx=>wf x.fJ∧wf x.fX∧wf x.fY∧wf x.fZ⟩
instance:Wf Plan:=⟨λx=>wf x.fE∧wf x.f9⟩
instance:Wf Box:=⟨λx=>wf x.fW∧wf x.fD∧wf x.fH∧wf x.fQ⟩
instance:Wf Load:=⟨λx=>wf x.fL∧wf x.fH∧wf x.fQ⟩
instance:Wf Layer:=⟨λx=>wf x.fP∧wf x.fD∧wf x.fH∧wf x.fQ⟩
instance:Wf Shelf:=⟨λx=>wf x.fM∧wf x.fW∧wf x.fD∧wf x.fH∧wf x.fQ⟩
instance:Wf L7:=⟨λx=>wf x.fvol∧wf x.fgram⟩
instance:Wf Cur:=⟨λx=>wf x.fb∧wf x.fi∧wf x.fh⟩
end Go.Proofs.YthkaklkinepfkaaGreatDoor
set_option maxRecDepth 100000
namespace Go.Proofs.YthkaklkinepfkaaGreatDoor
open Go
theorem Jn7 : wordsSigns Tryz.prog.initOrder.toList=[([104, 97, 114, 110, 101, 115, 115].map Char.ofNat), ([53, 50, 100, 50, 98, 53, 51, 57, 49, 53, 50, 54, 101, 101, 102, 98, 99, 48, 57, 52, 101, 54, 54, 102, 50, 55, 49, 50, 102, 99, 49, 53, 55, 99, 57, 100, 52, 57, 57, 53, 51, 97, 53, 56, 98, 98, 56, 49, 101, 52, 49, 101, 57, 50, 50, 50, 56, 53, 54, 54, 57, 56, 98, 53].map Char.ofNat), ([99, 117, 116].map Char.ofNat), ([97, 116].map Char.ofNat), ([108, 111, 111, 112, 46, 101, 120, 97, 109, 112, 108, 101, 47, 103, 48, 48, 52, 56, 57, 47, 108, 97, 119, 115, 46, 70, 110, 84, 101, 120, 116, 115].map Char.ofNat), ([108, 111, 111, 112, 46, 101, 120, 97, 109, 112, 108, 101, 47, 103, 48, 48, 52, 56, 57, 47, 108, 97, 119, 115, 46, 70, 110, 69, 120, 97, 99, 116, 86, 101, 114, 105, 102, 121].map Char.ofNat), ([108, 111, 111, 112, 46, 101, 120, 97, 109, 112, 108, 101, 47, 103, 48, 48, 52, 56, 57, 47, 108, 97, 119, 115, 46, 70, 110, 69, 120, 97, 99, 116, 80, 97, 99, 107].map Char.ofNat), ([108, 111, 111, 112, 46, 101, 120, 97, 109, 112, 108, 101, 47, 103, 48, 48, 52, 56, 57, 47, 108, 97, 119, 115, 46, 70, 110, 69, 120, 97, 99, 116, 80, 97, 99, 107, 84, 101, 120, 116].map Char.ofNat), ([108, 111, 111, 112, 46, 101, 120, 97, 109, 112, 108, 101, 47, 103, 48, 48, 52, 56, 57, 47, 108, 97, 119, 115, 46, 70, 110, 82, 101, 110, 97, 109, 101, 100].map Char.ofNat), ([108, 111, 111, 112, 46, 101, 120, 97, 109, 112, 108, 101, 47, 103, 48, 48, 52, 56, 57, 47, 108, 97, 119, 115, 46, 70, 110, 80, 97, 99, 107, 84, 101, 120, 116].map Char.ofNat)] := Jf4 (l := ([104, 97, 114, 110, 101, 115, 115, 32, 53, 50, 100, 50, 98, 53, 51, 57, 49, 53, 50, 54, 101, 101, 102, 98, 99, 48, 57, 52, 101, 54, 54, 102, 50, 55, 49, 50, 102, 99, 49, 53, 55, 99, 57, 100, 52, 57, 57, 53, 51, 97, 53, 56, 98, 98, 56, 49, 101, 52, 49, 101, 57, 50, 50, 50, 56, 53, 54, 54, 57, 56, 98, 53, 32, 99, 117, 116, 32, 97, 116, 32, 108, 111, 111, 112, 46, 101, 120, 97, 109, 112, 108, 101, 47, 103, 48, 48, 52, 56, 57, 47, 108, 97, 119, 115, 46, 70, 110, 84, 101, 120, 116, 115, 32, 108, 111, 111, 112, 46, 101, 120, 97, 109, 112, 108, 101, 47, 103, 48, 48, 52, 56, 57, 47, 108, 97, 119, 115, 46, 70, 110, 69, 120, 97, 99, 116, 86, 101, 114, 105, 102, 121, 32, 108, 111, 111, 112, 46, 101, 120, 97, 109, 112, 108, 101, 47, 103, 48, 48, 52, 56, 57, 47, 108, 97, 119, 115, 46, 70, 110, 69, 120, 97, 99, 116, 80, 97, 99, 107, 32, 108, 111, 111, 112, 46, 101, 120, 97, 109, 112, 108, 101, 47, 103, 48, 48, 52, 56, 57, 47, 108, 97, 119, 115, 46, 70, 110, 69, 120, 97, 99, 116, 80, 97, 99, 107, 84, 101, 120, 116, 32, 108, 111, 111, 112, 46, 101, 120, 97, 109, 112, 108, 101, 47, 103, 48, 48, 52, 56, 57, 47, 108, 97, 119, 115, 46, 70, 110, 82, 101, 110, 97, 109, 101, 100, 32, 108, 111, 111, 112, 46, 101, 120, 97, 109, 112, 108, 101, 47, 103, 48, 48, 52, 56, 57, 47, 108, 97, 119, 115, 46, 70, 110, 80, 97, 99, 107, 84, 101, 120, 116].map Char.ofNat)) (by kernel_rfl) (by kernel_rfl)
theorem Jj0 : (match behindMainWord [([104, 97, 114, 110, 101, 115, 115].map Char.ofNat), ([53, 50, 100, 50, 98, 53, 51, 57, 49, 53, 50, 54, 101, 101, 102, 98, 99, 48, 57, 52, 101, 54, 54, 102, 50, 55, 49, 50, 102, 99, 49, 53, 55, 99, 57, 100, 52, 57, 57, 53, 51, 97, 53, 56, 98, 98, 56, 49, 101, 52, 49, 101, 57, 50, 50, 50, 56, 53, 54, 54, 57, 56, 98, 53].map Char.ofNat), ([99, 117, 116].map Char.ofNat), ([97, 116].map Char.ofNat), ([108, 111, 111, 112, 46, 101, 120, 97, 109, 112, 108, 101, 47, 103, 48, 48, 52, 56, 57, 47, 108, 97, 119, 115, 46, 70, 110, 84, 101, 120, 116, 115].map Char.ofNat), ([108, 111, 111, 112, 46, 101, 120, 97, 109, 112, 108, 101, 47, 103, 48, 48, 52, 56, 57, 47, 108, 97, 119, 115, 46, 70, 110, 69, 120, 97, 99, 116, 86, 101, 114, 105, 102, 121].map Char.ofNat), ([108, 111, 111, 112, 46, 101, 120, 97, 109, 112, 108, 101, 47, 103, 48, 48, 52, 56, 57, 47, 108, 97, 119, 115, 46, 70, 110, 69, 120, 97, 99, 116, 80, 97, 99, 107].map Char.ofNat), ([108, 111, 111, 112, 46, 101, 120, 97, 109, 112, 108, 101, 47, 103, 48, 48, 52, 56, 57, 47, 108, 97, 119, 115, 46, 70, 110, 69, 120, 97, 99, 116, 80, 97, 99, 107, 84, 101, 120, 116].map Char.ofNat), ([108, 111, 111, 112, 46, 101, 120, 97, 109, 112, 108, 101, 47, 103, 48, 48, 52, 56, 57, 47, 108, 97, 119, 115, 46, 70, 110, 82, 101, 110, 97, 109, 101, 100].map Char.ofNat), ([108, 111, 111, 112, 46, 101, 120, 97, 109, 112, 108, 101, 47, 103, 48, 48, 52, 56, 57, 47, 108, 97, 119, 115, 46, 70, 110, 80, 97, 99, 107, 84, 101, 120, 116].map Char.ofNat)] with | c :: _ => c == "cut".toList | [] => false) = true := by kernel_rfl
theorem Jj9 : Tryz.prog.make=some .cut := Jnc Jn7 Jj0
theorem Jgc : Tryz.prog.liftsFinal=false := Jm1 Jn7 Jj0
theorem Jm4 : Tryz.prog.mayEnter=true := by kernel_rfl
theorem Jbq : laidOutB Tryz.prog=true := by kernel_rfl
theorem own : ownKnob Tryz.prog.godebug=none := by kernel_rfl
theorem Ji7 : mapsRowed Tryz.prog=true := by kernel_rfl
theorem Jjp : Tryz.prog.plainKeys=true := by kernel_rfl
theorem Jfy : Tryz.prog.stopsHeard=true := by kernel_rfl
end Go.Proofs.YthkaklkinepfkaaGreatDoor
set_option linter.unusedSimpArgs false
set_option linter.unusedVariables false
namespace Go.Proofs.YthkaklkinepfkaaGreatDoor
open Go
open Enc (rd ow)
open Arg (argv)
open Ret (retv)
open Wf (wf)
@[simp] theorem Qaa {α β:Type} (x:α) (k:α→Option β):Qab (some x) k=k x:=rfl
@[simp] theorem Jnu {α β:Type} (k:α→Option β):Qab none k=none:=rfl
theorem Je7 {α β:Type} {m:Option α} {x:α} {k:α→Option β} (h:m=some x):Qab m k=k x:=by rw [h]; rfl
theorem Qam {n:Int} (h1:-9223372036854775808≤n) (h2:n≤9223372036854775807):w64 n=n:=by
 simp only [w64,IntKind.wrap_i64]; omega
theorem Qh3 {α:Type} (l:List α) (i:Nat):ix l (i:Int)=l[i]?:=by simp [ix]
theorem Jfh {α:Type} {l:List α} {i:Nat} {x:α} (h:l[i]? = some x):ix l (i:Int)=some x:=by rw [Qh3,h]
theorem Ja4 {α:Type} {bytes:Nat} {z:α} {n:Nat} (h:bytes*n≤140737488355328):mk bytes z (n:Int)=some (List.replicate n z):=by
 unfold mk
 have h':(bytes:Int)*(n:Int)≤140737488355328:=by rw [← Int.natCast_mul]; omega
 rw [if_pos ⟨Int.natCast_nonneg n,h'⟩,Int.toNat_natCast]
theorem Qao {α:Type} {c:Bool} (h:c=true) (a b:α):(bif c then a else b)=a:=by rw [h]; rfl
theorem Qaf {α:Type} {c:Bool} (h:c=false) (a b:α):(bif c then a else b)=b:=by rw [h]; rfl
end Go.Proofs.YthkaklkinepfkaaGreatDoor
set_option linter.unusedSimpArgs false
set_option linter.unusedVariables false
namespace Go.Proofs.YthkaklkinepfkaaGreatDoor
open Go
open Enc (rd ow)
open Arg (argv)
open Ret (retv)
open Wf (wf)
theorem Qz2 {α:Type} {l:List α} {i:Nat} (h:i<l.length):ix l (i:Int)=some l[i]:=by rw [Qh3,List.getElem?_eq_getElem h]
theorem Qyc (i:Nat) (h:i<4611686018427387904):w64 ((i:Int)+1)=((i+1:Nat):Int):=by rw [Qam (by omega) (by omega)]; omega
theorem lpI {σ α β:Type} (l:List α) (L:Nat→σ→Int→Option β) (F:List α→σ→Option β) (I:List α→σ→Prop) (hl:l.length≤1099511627776)
    (hs:∀ n s (i:Int) x xs,ix l i=some x→decide (i<(l.length:Int))=true→I (x::xs) s→(∀ s',I xs s'→L n s' (w64 (i+1))=F xs s')→L (n+1) s i=F (x::xs) s)
    (he:∀ n s (i:Int),decide (i<(l.length:Int))=false→I [] s→L (n+1) s i=F [] s):∀ n s,I l s→l.length<n→L n s 0=F l s:=by
 have key:∀ (m i n:Nat) (s:σ),l.length - i=m→i≤l.length→m<n→I (l.drop i) s→L n s (i:Int)=F (l.drop i) s:=by
  intro m
  induction m with
  | zero =>
   intro i n s hm hi hn hI
   obtain ⟨n,rfl⟩:∃ k,n=k+1:=⟨n - 1,by omega⟩
   have e:l.drop i=[]:=List.drop_of_length_le (by omega)
   rw [e] at hI ⊢
   exact he n s i (by simp; omega) hI
  | succ m ih =>
   intro i n s hm hi hn hI
   obtain ⟨n,rfl⟩:∃ k,n=k+1:=⟨n - 1,by omega⟩
   have hlt:i<l.length:=by omega
   rw [List.drop_eq_getElem_cons hlt] at hI ⊢
   refine hs n s i _ _ (Qz2 hlt) (by simpa using hlt) hI λs' hI'=>?_
   rw [Qyc i (by omega)]
   exact ih (i+1) n s' (by omega) (by omega) (by omega) hI'
 intro n s hI hn
 have:=key l.length 0 n s (by omega) (by omega) hn (by simpa using hI)
 simpa using this
theorem lp {σ α β:Type} (l:List α) (L:Nat→σ→Int→Option β) (F:List α→σ→Option β) (hl:l.length≤1099511627776)
    (hs:∀ n s (i:Int) x xs,ix l i=some x→decide (i<(l.length:Int))=true→(∀ s',L n s' (w64 (i+1))=F xs s')→L (n+1) s i=F (x::xs) s)
    (he:∀ n s (i:Int),decide (i<(l.length:Int))=false→L (n+1) s i=F [] s):∀ n s,l.length<n→L n s 0=F l s:=λn s hn =>
 lpI l L F (λ_ _=>True) hl (λn s i x xs hx hd _ ih=>hs n s i x xs hx hd λs'=>ih s' trivial) (λn s i hd _=>he n s i hd) n s trivial hn
def Qjw:Int→Nat→List Int
 | _,0=>[]
 | a,n+1=>a::Qjw (a+1) n
theorem lpN {σ β:Type} (b:Int) (L:Nat→σ→Int→Option β) (F:List Int→σ→Option β) (hb:b≤1099511627776)
    (hs:∀ n s (i:Int) xs,0≤i→i<b→decide (i<b)=true→(∀ s',L n s' (w64 (i+1))=F xs s')→L (n+1) s i=F (i::xs) s)
    (he:∀ n s (i:Int),decide (i<b)=false→L (n+1) s i=F [] s):∀ (m:Nat) n s (a:Int),0≤a→(b - a).toNat=m→m<n→L n s a=F (Qjw a m) s:=by
 intro m
 induction m with
 | zero =>
  intro n s a ha hm hn
  obtain ⟨n,rfl⟩:∃ k,n=k+1:=⟨n - 1,by omega⟩
  exact he n s a (by simp; omega)
 | succ m ih =>
  intro n s a ha hm hn
  obtain ⟨n,rfl⟩:∃ k,n=k+1:=⟨n - 1,by omega⟩
  refine hs n s a _ ha (by omega) (by simp; omega) λs'=>?_
  rw [Qam (by omega) (by omega)]
  exact ih n s' (a+1) (by omega) (by omega) (by omega)
theorem Q8g {σ β:Type} (b:Int) (L:Nat→σ→Int→Option β) (F:List Int→σ→Option β) (I:List Int→σ→Prop) (hb:b≤1099511627776)
    (hs:∀ n s (i:Int) xs,0≤i→i<b→decide (i<b)=true→I (i::xs) s→(∀ s',I xs s'→L n s' (w64 (i+1))=F xs s')→L (n+1) s i=F (i::xs) s)
    (he:∀ n s (i:Int),decide (i<b)=false→I [] s→L (n+1) s i=F [] s):∀ (m:Nat) n s (a:Int),0≤a→(b - a).toNat=m→m<n→I (Qjw a m) s→L n s a=F (Qjw a m) s:=by
 intro m
 induction m with
 | zero =>
  intro n s a ha hm hn hI
  obtain ⟨n,rfl⟩:∃ k,n=k+1:=⟨n - 1,by omega⟩
  exact he n s a (by simp; omega) hI
 | succ m ih =>
  intro n s a ha hm hn hI
  obtain ⟨n,rfl⟩:∃ k,n=k+1:=⟨n - 1,by omega⟩
  refine hs n s a _ ha (by omega) (by simp; omega) hI λs' hI'=>?_
  rw [Qam (by omega) (by omega)]
  exact ih n s' (a+1) (by omega) (by omega) (by omega) hI'
def Qvj:Nat→List Int
 | 0=>[]
 | n+1=>(n:Int)::Qvj n
theorem lpD {σ β:Type} (b:Nat) (L:Nat→σ→Int→Option β) (F:List Int→σ→Option β) (hb:b≤1099511627776)
    (hs:∀ n s (i:Int) xs,0≤i→i<b→decide (i≥0)=true→(∀ s',L n s' (w64 (i - 1))=F xs s')→L (n+1) s i=F (i::xs) s)
    (he:∀ n s (i:Int),decide (i≥0)=false→L (n+1) s i=F [] s):∀ n s,b<n→L n s (w64 ((b:Int) - 1))=F (Qvj b) s:=by
 have key:∀ (m:Nat) n s,m≤b→m<n→L n s ((m:Int) - 1)=F (Qvj m) s:=by
  intro m
  induction m with
  | zero =>
   intro n s hm hn
   obtain ⟨n,rfl⟩:∃ k,n=k+1:=⟨n - 1,by omega⟩
   exact he n s _ (by simp)
  | succ m ih =>
   intro n s hm hn
   obtain ⟨n,rfl⟩:∃ k,n=k+1:=⟨n - 1,by omega⟩
   have e:((m+1:Nat):Int) - 1=(m:Int):=by omega
   rw [e]
   refine hs n s m _ (by omega) (by omega) (by simp) λs'=>?_
   rw [Qam (by omega) (by omega)]
   exact ih n s' (by omega) (by omega)
 intro n s hn
 rw [Qam (by omega) (by omega)]
 exact key b n s (Nat.le_refl _) hn
theorem ap1 {α:Type} {bytes:Nat} {xs ys:List α} (h:(xs.length+ys.length)*bytes≤140737488355328):Qc7 bytes xs ys=some (xs++ys):=by
 unfold Qc7; rw [if_pos h]
theorem Qor {α:Type} {xs:List α} {lo hi:Int} (h:0≤lo∧lo≤hi∧hi≤xs.length):sls xs lo hi=some ((xs.drop lo.toNat).take (hi.toNat - lo.toNat)):=by
 unfold sls; rw [if_pos h]
theorem Q95 {y:Int} (h:y≠0):Jhx y=some ():=by unfold Jhx; rw [if_pos h]
end Go.Proofs.YthkaklkinepfkaaGreatDoor
set_option linter.unusedSimpArgs false
set_option linter.unusedVariables false
namespace Go.Proofs.YthkaklkinepfkaaGreatDoor
open Go
open Enc (rd ow)
open Arg (argv)
open Ret (retv)
open Wf (wf)
def inb (n lo hi:Int):Bool:=decide (lo≤n∧n≤hi)
@[simp] theorem Qcb {n lo hi:Int}:inb n lo hi=true↔lo≤n∧n≤hi:=by simp [inb]
def Qvu (p:Pallet):Bool:=inb p.fW 1 2000&&(inb p.fD 1 2000&&(inb p.fH 1 2000&&inb p.fQ 1 100000))
def Q2w (t:Typ):Bool:=inb t.ft 0 999&&(inb t.fW 1 2000&&(inb t.fH 1 2000&&(inb t.fD 1 2000&&(inb t.qQ 0 100000&&(inb t.fQ 1 100000&&inb t.fl 0 100000)))))
def Qx0 (x:Item):Bool:=inb x.ft 0 999&&(inb x.fW 1 2000&&(inb x.fH 1 2000&&(inb x.fD 1 2000&&(inb x.fQ 1 100000&&(inb x.fK 0 3&&inb x.fF 1 6)))))
def prB (p:Pair):Bool:=inb p.fA 0 3&&inb p.fB 0 3
def Qx8:List Int→Int
 | []=>0
 | x::xs=>x+Qx8 xs
@[simp] theorem Jlh:Qx8 []=0:=rfl
@[simp] theorem Qq2 (x:Int) (xs:List Int):Qx8 (x::xs)=x+Qx8 xs:=rfl
theorem Jfc {α:Type} (f:α→Int) (l:List α) (b:Int) (h:∀ x∈l,f x≤b):Qx8 (l.map f)≤b*l.length:=by
 induction l with
 | nil=>simp
 | cons x xs ih =>
  have h1:=h x (by simp)
  have h2:=ih (λy hy=>h y (by simp [hy]))
  simp only [List.map_cons,Qq2,List.length_cons]
  rw [show ((xs.length+1:Nat):Int)=(xs.length:Int)+1 by omega,Int.mul_add]
  omega
theorem Jaj {α:Type} (f:α→Int) (l:List α) (h:∀ x∈l,0≤f x):0≤Qx8 (l.map f):=by
 induction l with
 | nil=>simp
 | cons x xs ih =>
  have h1:=h x (by simp)
  have h2:=ih (λy hy=>h y (by simp [hy]))
  simp only [List.map_cons,Qq2]
  omega
def Q5a (r:Request):Bool :=
 inb r.f0 0 1&&Qvu r.fJ&&inb r.fG 1 4&&decide (r.fR.length≤16)&&r.fR.all prB&&inb r.fU.length 1 5&&r.fU.all Q2w&&inb r.fT 0 999&&decide (r.fV.length≤8)&&(r.fV.all Qx0&&decide (Qx8 (r.fV.map (·.fF))≤12))
def Qtz (l:List Pair) (a b:Int):Bool:=l.any λp=>p.fA==a&&p.fB==b
def Jcn (l:List Pair) (c:Int):Bool:=inb c 1 4&&(Qjw 0 c.toNat).all λa=>Qtz l a a&&(Qjw 0 c.toNat).all λb=>Qtz l a b==Qtz l b a
def Jil:Typ:=⟨0,0,0,0,0,0,0⟩
def Q8e:Item:=⟨0,0,0,0,0,0,0⟩
def Qt1 (r:Request) (id:Int):Option Typ:=r.fU.find? λt=>t.ft==id
def Qyi (o:Option Typ):Typ×Bool:=match o with | some t=>(t,true) | none=>(Jil,false)
def Q8n {α:Type} (f:α→Int):List α→List α→Bool
 | _,[]=>true
 | pre,x::xs=>!(pre.any λy=>f y==f x)&&Q8n f (pre++[x]) xs
def Jcb (c:Int):List Item→List Item→Bool
 | _,[]=>true
 | pre,x::xs=>!(decide (x.fK≥c))&&!(pre.any λy=>y.ft==x.ft)&&Jcb c (pre++[x]) xs
def Jae (r:Request):Bool :=
 Q8n Typ.ft [] r.fU&&Jcb r.fG [] r.fV&&(Qt1 r r.fT).isSome&&!(r.fR.any λp=>decide (p.fA≥r.fG)||decide (p.fB≥r.fG))
def sid (a b c:Int):Int×Int×Int :=
 let lo:=if a≤b then (if a≤c then a else c) else (if b≤c then b else c)
 let hi:=if a≥b then (if a≥c then a else c) else (if b≥c then b else c)
 (lo,a+b+c - lo - hi,hi)
def Q1c (x:Item) (t:Typ):Bool :=
 decide ((sid x.fW x.fH x.fD).1≤(sid t.fW t.fH t.fD).1)&&decide ((sid x.fW x.fH x.fD).2.1≤(sid t.fW t.fH t.fD).2.1)&&decide ((sid x.fW x.fH x.fD).2.2≤(sid t.fW t.fH t.fD).2.2)&&decide (x.fQ≤t.fQ)
def Qxp (r:Request):Typ:=(Qyi (Qt1 r r.fT)).1
def Q8i (p:Pallet) (t:Typ):Bool:=decide (t.fW>p.fW)||(decide (t.fD>p.fD)||(decide (t.fH>p.fH)||decide (w64 (t.qQ+t.fQ)>p.fQ)))
def Qhg (r:Request):Int :=
 bif !Q5a r then 2 else bif !Jae r then 3 else bif !Jcn r.fR r.fG then 4 else bif !(r.fV.all λx=>Q1c x (Qxp r)) then 5 else bif r.fU.any (Q8i r.fJ) then 6 else 0
def Q8h:Int→List Item→List Int
 | _,[]=>[]
 | i,x::xs=>List.replicate x.fF.toNat i++Q8h (i+1) xs
def l6M (r:Request):List Int:=Q8h 0 r.fV
def Qi6 (r:Request):List Int:=bif Qhg r==0 then l6M r else []
def Q3w (r:Request) (u:Int):Option Item:=Qab (ix (Qi6 r) u) λi=>ix r.fV i
def Q72 (w h d:Int):Int:=bif inb w 0 2000&&(inb h 0 2000&&inb d 0 2000) then w*h*d else 0
def Jbg (x:Item):Int:=Q72 x.fW x.fH x.fD
def Jcd (x:Typ):Int:=Q72 x.fW x.fH x.fD
def Qxn (r:Request) (us:List Int):List Item:=us.filterMap (Q3w r)
def Qxk (r:Request) (us:List Int):Int:=Qx8 ((Qxn r us).map Jbg)
theorem Jb1 (w h d:Int):0≤Q72 w h d∧Q72 w h d≤8000000000:=by
 unfold Q72
 cases hb:inb w 0 2000&&(inb h 0 2000&&inb d 0 2000)
 · simp
 · simp only [Bool.and_eq_true,Qcb] at hb
   obtain ⟨⟨h1,h2⟩,⟨h3,h4⟩,h5,h6⟩:=hb
   simp only [cond_true]
   have a1:0≤w*h:=Int.mul_nonneg h1 h3
   have a2:w*h≤2000*2000:=Int.mul_le_mul h2 h4 h3 (by omega)
   have a3:0≤w*h*d:=Int.mul_nonneg a1 h5
   have a4:w*h*d≤2000*2000*2000:=Int.mul_le_mul a2 h6 h5 (by omega)
   omega
theorem Qfn {r:Request} (h:Qhg r=0):Q5a r=true∧Jae r=true∧Jcn r.fR r.fG=true∧(∀ x∈r.fV,Q1c x (Qxp r)=true)∧(∀ t∈r.fU,Q8i r.fJ t=false):=by
 unfold Qhg at h
 cases h1:Q5a r
 · simp [h1] at h
 cases h2:Jae r
 · simp [h1,h2] at h
 cases h3:Jcn r.fR r.fG
 · simp [h1,h2,h3] at h
 cases h4:r.fV.all λx=>Q1c x (Qxp r)
 · simp only [h1,h2,h3,h4] at h; simp at h
 cases h5:r.fU.any (Q8i r.fJ)
 · refine ⟨rfl,rfl,rfl,by simpa using h4,?_⟩
   intro t ht
   have:=List.any_eq_false.1 h5 t ht
   simpa using this
 · simp only [h1,h2,h3,h4,h5] at h; simp at h
theorem Qy8 {r:Request} (h:Q5a r=true):∀ t∈r.fU,Q2w t=true:=by
 simp only [Q5a,Bool.and_eq_true,List.all_eq_true] at h
 exact h.1.1.1.2
theorem Qsz {r:Request} (h:Q5a r=true):(∀ x∈r.fV,Qx0 x=true)∧Qx8 (r.fV.map (·.fF))≤12∧r.fV.length≤8:=by
 simp only [Q5a,Bool.and_eq_true,List.all_eq_true,decide_eq_true_eq] at h
 exact ⟨h.2.1,h.2.2,h.1.2⟩
theorem Q6q:∀ (l:List Item) (i:Int),(∀ x∈l,0≤x.fF)→((Q8h i l).length:Int)=Qx8 (l.map (·.fF))
 | [],_,_=>rfl
 | x::xs,i,h=>by
  have:=Q6q xs (i+1) (λy hy=>h y (by simp [hy]))
  have hx:=h x (by simp)
  simp only [Q8h,List.length_append,List.length_replicate,List.map_cons,Qq2]
  omega
theorem Q57:∀ (l:List Item) (i:Int) (u:Int),u∈Q8h i l→i≤u∧u<i+l.length
 | [],_,_,h=>by simp [Q8h] at h
 | x::xs,i,u,h=>by
  simp only [Q8h,List.mem_append] at h
  rcases h with h | h
  · have:=(List.mem_replicate.1 h).2
    simp; omega
  · have:=Q57 xs (i+1) u h
    simp; omega
theorem Jbe {r:Request} (h:Q5a r=true):(l6M r).length≤12:=by
 obtain ⟨h1,h2,_⟩:=Qsz h
 have:=Q6q r.fV 0 (λx hx=>by
  have:=h1 x hx
  simp only [Qx0,Bool.and_eq_true,Qcb] at this
  omega)
 unfold l6M
 omega
theorem Q3u (r:Request):(Qi6 r).length≤12:=by
 unfold Qi6
 cases h:Qhg r==0
 · simp
 · exact Jbe (Qfn (by simpa using h)).1
theorem Q29 {r:Request} {i:Int} (h:i∈Qi6 r):0≤i∧i<r.fV.length:=by
 unfold Qi6 at h
 cases hc:Qhg r==0
 · simp [hc] at h
 · simp only [hc,cond_true] at h
   have:=Q57 _ _ _ h
   omega
theorem Qi2 {α:Type} {l:List α} {i:Int} {x:α} (h:ix l i=some x):x∈l:=List.mem_of_getElem? (Qah h).2.2
theorem Q50 {r:Request} {u:Int} (h:0≤u∧u<(Qi6 r).length):∃ i x,ix (Qi6 r) u=some i∧ix r.fV i=some x∧Q3w r u=some x:=by
 have h1:u.toNat<(Qi6 r).length:=by omega
 have e1:ix (Qi6 r) u=some (Qi6 r)[u.toNat]:=by
  unfold ix; rw [if_pos h.1,List.getElem?_eq_getElem h1]
 have h2:=Q29 (List.getElem_mem h1)
 have h3:((Qi6 r)[u.toNat]).toNat<r.fV.length:=by omega
 have e2:ix r.fV (Qi6 r)[u.toNat]=some r.fV[((Qi6 r)[u.toNat]).toNat]:=by
  unfold ix; rw [if_pos h2.1,List.getElem?_eq_getElem h3]
 refine ⟨_,_,e1,e2,?_⟩
 unfold Q3w
 rw [e1,Qaa,e2]
theorem Q17 {r:Request} {u:Int} (h:¬ (0≤u∧u<(Qi6 r).length)):Q3w r u=none:=by
 unfold Q3w ix
 by_cases h0:0≤u
 · rw [if_pos h0,List.getElem?_eq_none (by omega)]; rfl
 · rw [if_neg h0]; rfl
theorem Qym (r:Request) (us:List Int):(Qxn r us).length≤us.length:=List.length_filterMap_le _ _
end Go.Proofs.YthkaklkinepfkaaGreatDoor
set_option linter.unusedSimpArgs false
set_option linter.unusedVariables false
namespace Go.Proofs.YthkaklkinepfkaaGreatDoor
open Go
open Enc (rd ow)
open Arg (argv)
open Ret (retv)
open Wf (wf)
def lx (k:Int→Int) (p q:Int):Prop:=k p<k q∨(k p=k q∧p<q)
theorem Jd0 {k:Int→Int} {p q r:Int} (h1:lx k p q) (h2:lx k q r):lx k p r:=by
 unfold lx at *; omega
theorem Jcq {k:Int→Int} {p q:Int} (h1:lx k p q) (h2:lx k q p):False:=by
 unfold lx at *; omega
theorem Qvx {α:Type} {R:α→α→Prop} (has:∀ x y,R x y→R y x→False):∀ {a b:List α},a.Perm b→a.Pairwise R→b.Pairwise R→a=b
 | [],b,h,_,_=>(List.Perm.nil_eq h)
 | x::a,[],h,_,_=>by have:=h.length_eq; simp at this
 | x::a,y::b,h,h1,h2=>by
  have hxy:x=y:=by
   have m1:x∈y::b:=h.mem_iff.1 (by simp)
   have m2:y∈x::a:=h.mem_iff.2 (by simp)
   rcases List.mem_cons.1 m1 with e | m1
   · exact e
   rcases List.mem_cons.1 m2 with e | m2
   · exact e.symm
   exact (has x y ((List.pairwise_cons.1 h1).1 y m2) ((List.pairwise_cons.1 h2).1 x m1)).elim
  subst hxy
  rw [Qvx has (List.Perm.cons_inv h) (List.pairwise_cons.1 h1).2 (List.pairwise_cons.1 h2).2]
def mrg (k:Int→Int):List Int→List Int→List Int
 | [],b=>b
 | x::a,[]=>x::a
 | x::a,y::b=>if k y<k x then y::mrg k (x::a) b else x::mrg k a (y::b)
termination_by a b=>a.length+b.length
theorem Jba (k:Int→Int) (a:List Int):mrg k a []=a:=by cases a <;> simp [mrg]
theorem Qwk (k:Int→Int) (x y:Int) (a b:List Int):mrg k (x::a) (y::b)=if k y<k x then y::mrg k (x::a) b else x::mrg k a (y::b):=by rw [mrg]
theorem Q3c (k:Int→Int) (a b:List Int):(mrg k a b).Perm (a++b):=by
 induction a,b using mrg.induct k with
 | case1 b=>simp [mrg]
 | case2 x a=>simp [mrg]
 | case3 x a y b h ih =>
  rw [Qwk,if_pos h]
  exact (ih.cons y).trans (by simpa using (List.perm_middle (a:=y) (l₁:=x::a) (l₂:=b)).symm)
 | case4 x a y b h ih =>
  rw [Qwk,if_neg h]
  exact ih.cons x
theorem Q78 (k:Int→Int) (a b:List Int):a.Pairwise (lx k)→b.Pairwise (lx k)→(∀ p∈a,∀ q∈b,p<q)→(mrg k a b).Pairwise (lx k):=by
 induction a,b using mrg.induct k with
 | case1 b=>intro _ h _; simpa [mrg] using h
 | case2 x a=>intro h _ _; simpa [mrg] using h
 | case3 x a y b h ih =>
  intro ha hb hc
  rw [Qwk,if_pos h]
  refine List.pairwise_cons.2 ⟨λz hz=>?_,ih ha (List.pairwise_cons.1 hb).2 (λp hp q hq=>hc p hp q (by simp [hq]))⟩
  rcases List.mem_append.1 ((Q3c k _ _).mem_iff.1 hz) with hz | hz
  · rcases List.mem_cons.1 hz with e | hz
    · subst e; exact .inl h
    · have:=(List.pairwise_cons.1 ha).1 z hz
      unfold lx at *; omega
  · exact (List.pairwise_cons.1 hb).1 z hz
 | case4 x a y b h ih =>
  intro ha hb hc
  rw [Qwk,if_neg h]
  refine List.pairwise_cons.2 ⟨λz hz=>?_,ih (List.pairwise_cons.1 ha).2 hb (λp hp q hq=>hc p (by simp [hp]) q hq)⟩
  rcases List.mem_append.1 ((Q3c k _ _).mem_iff.1 hz) with hz | hz
  · exact (List.pairwise_cons.1 ha).1 z hz
  · have hxz:=hc x (by simp) z hz
    rcases List.mem_cons.1 hz with e | hz
    · subst e; unfold lx; omega
    · have:=(List.pairwise_cons.1 hb).1 z hz
      unfold lx at *; omega
def msr (k:Int→Int):Nat→List Int→List Int
 | 0,l=>l
 | n+1,l=>if l.length<2 then l else mrg k (msr k n (l.take (l.length / 2))) (msr k n (l.drop (l.length / 2)))
theorem Qr1 (k:Int→Int):∀ (n:Nat) (l:List Int),(msr k n l).Perm l
 | 0,l=>List.Perm.refl _
 | n+1,l=>by
  unfold msr
  split
  · exact List.Perm.refl _
  · refine (Q3c k _ _).trans (((Qr1 k n _).append (Qr1 k n _)).trans ?_)
    rw [List.take_append_drop]
theorem Qt6 (k:Int→Int):∀ (n:Nat) (l:List Int),l.length≤n→l.Pairwise (·<·)→(msr k n l).Pairwise (lx k)
 | 0,l,h,_=>by
  have:l=[]:=List.eq_nil_of_length_eq_zero (by omega)
  subst this
  exact List.Pairwise.nil
 | n+1,l,h,hp=>by
  unfold msr
  split
  · rename_i h2
    match l,h2 with
    | [],_=>exact List.Pairwise.nil
    | [x],_=>simp
  · rename_i h2
    have hp':=hp
    rw [← List.take_append_drop (l.length / 2) l,List.pairwise_append] at hp'
    refine Q78 k _ _ (Qt6 k n _ (by rw [List.length_take]; omega) hp'.1) (Qt6 k n _ (by rw [List.length_drop]; omega) hp'.2.1) λp hpm q hqm=>?_
    exact hp'.2.2 p ((Qr1 k n _).mem_iff.1 hpm) q ((Qr1 k n _).mem_iff.1 hqm)
theorem Qhn {a:Int} {n:Nat} {x:Int}:x∈Qjw a n↔a≤x∧x<a+n:=by
 induction n generalizing a with
 | zero=>simp [Qjw]
 | succ n ih=>simp only [Qjw,List.mem_cons,ih]; omega
theorem Qbx (a:Int) (n:Nat):(Qjw a n).length=n:=by
 induction n generalizing a with
 | zero=>rfl
 | succ n ih=>simp [Qjw,ih]
theorem Qvq (a:Int) (n:Nat):(Qjw a n).Pairwise (·<·):=by
 induction n generalizing a with
 | zero=>simp [Qjw]
 | succ n ih=>simp only [Qjw,List.pairwise_cons,ih,and_true]; intro x hx; have:=Qhn.1 hx; omega
theorem Q73 (a:Int) (n:Nat):(Qjw a n).Nodup:=(Qvq a n).imp (λh=>by omega)
theorem Jbv (a:Int) (n:Nat):Qjw a (n+1)=Qjw a n++[a+n]:=by
 induction n generalizing a with
 | zero=>simp [Qjw]
 | succ n ih=>rw [Qjw,ih (a+1)]; simp only [Qjw,List.cons_append,List.cons.injEq,true_and]; congr 2; omega
def kf (keys:List Int) (p:Int):Int:=(ix keys p).getD 0
def srt (k:Int→Int) (n:Nat):List Int:=msr k n (Qjw 0 n)
theorem Qvd (k:Int→Int) (n:Nat):(srt k n).Perm (Qjw 0 n):=Qr1 k n _
theorem Qwy (k:Int→Int) (n:Nat):(srt k n).Pairwise (lx k):=Qt6 k n _ (by rw [Qbx]; omega) (Qvq 0 n)
theorem Q22 {k:Int→Int} {n:Nat} {l:List Int} (h:l.Perm (Qjw 0 n)) (hs:l.Pairwise (lx k)):l=srt k n :=
 Qvx (λ_ _=>Jcq) (h.trans (Qvd k n).symm) hs (Qwy k n)
theorem Qtu (k:Int→Int) (n:Nat):(srt k n).length=n:=by rw [(Qvd k n).length_eq,Qbx]
theorem Qxd {k:Int→Int} {n:Nat} {x:Int}:x∈srt k n↔0≤x∧x<n:=by rw [(Qvd k n).mem_iff,Qhn]; omega
theorem Jfk {a b:List Int} (h:a.Perm b) (h1:a.Pairwise (·≤·)) (h2:b.Pairwise (·≤·)):a=b:=by
 induction a generalizing b with
 | nil=>exact List.Perm.nil_eq h
 | cons x a ih =>
  match b,h,h2 with
  | [],h,_=>have:=h.length_eq; simp at this
  | y::b,h,h2 =>
   have hxy:x=y:=by
    have m1:x∈y::b:=h.mem_iff.1 (by simp)
    have m2:y∈x::a:=h.mem_iff.2 (by simp)
    have c1:y≤x:=by
     rcases List.mem_cons.1 m1 with e | m1
     · omega
     · exact (List.pairwise_cons.1 h2).1 x m1
    have c2:x≤y:=by
     rcases List.mem_cons.1 m2 with e | m2
     · omega
     · exact (List.pairwise_cons.1 h1).1 y m2
    omega
   subst hxy
   rw [ih (List.Perm.cons_inv h) (List.pairwise_cons.1 h1).2 (List.pairwise_cons.1 h2).2]
theorem Qu3 (l:List Int):(l.mergeSort λx y=>decide (x≤y)).Pairwise (·≤·):=by
 have:=List.pairwise_mergeSort (le:=λx y:Int=>decide (x≤y)) (λa b c h1 h2=>by simp at *; omega) (λa b=>by simp; omega) l
 exact this.imp (λh=>by simpa using h)
theorem Q1r (a b c:Int):(sid a b c).1≤(sid a b c).2.1∧(sid a b c).2.1≤(sid a b c).2.2:=by
 unfold sid
 simp only
 split <;> split <;> split <;> (try split) <;> (try split) <;> omega
theorem Jkk {a b c x y z:Int} (h:[a,b,c].Perm [x,y,z]) (h1:x≤y) (h2:y≤z):sid a b c=(x,y,z):=by
 have m1:=h.mem_iff (a:=x)
 have m2:=h.mem_iff (a:=z)
 have m3:=h.mem_iff (a:=a)
 have m4:=h.mem_iff (a:=b)
 have m5:=h.mem_iff (a:=c)
 have hs:Qx8 [a,b,c]=Qx8 [x,y,z]:=by
  have key:∀ {l l':List Int},l.Perm l'→Qx8 l=Qx8 l':=by
   intro l l' hp
   induction hp with
   | nil=>rfl
   | cons x _ ih=>simp [ih]
   | swap x y l=>simp; omega
   | trans _ _ ih1 ih2=>rw [ih1,ih2]
  exact key h
 simp at m1 m2 m3 m4 m5 hs
 unfold sid
 simp only [Prod.mk.injEq]
 refine ⟨?_,?_,?_⟩ <;> (split <;> split <;> (try split) <;> (try split) <;> omega)
end Go.Proofs.YthkaklkinepfkaaGreatDoor
set_option linter.unusedSimpArgs false
set_option linter.unusedVariables false
namespace Go.Proofs.YthkaklkinepfkaaGreatDoor
open Go
open Enc (rd ow)
open Arg (argv)
open Ret (retv)
open Wf (wf)
theorem Q8q {a b:List Int} (h1:a.Pairwise (·<·)) (h2:b.Pairwise (·<·)) (h:∀ x,x∈a↔x∈b):a=b :=
 Qvx (R:=(·<·)) (λx y h1 h2=>by omega) ((List.perm_ext_iff_of_nodup (h1.imp λh=>by omega) (h2.imp λh=>by omega)).2 h) h1 h2
theorem Q0k (l:List Int) (hs:l.Pairwise (·≤·)):(Lib.compact l).Pairwise (·<·)∧∀ x,x∈Lib.compact l↔x∈l:=by
 have hget:∀ j (h:j<l.length),l.toArray[j]! = l[j]:=λj h=>by simp [h]
 have key:∀ m,m≤l.length→(Lib.compactUpTo l.toArray m).Pairwise (·<·)∧∀ x,x∈Lib.compactUpTo l.toArray m↔∃ j,j<m∧l[j]? = some x:=by
  intro m
  induction m with
  | zero=>intro _; simp [Lib.compactUpTo]
  | succ m ih =>
   intro hm
   obtain ⟨h1,h2⟩:=ih (by omega)
   have hmg:=hget m (by omega)
   rw [Lib.compactUpTo_succ]
   have hmem:∀ x,(∃ j,j<m+1∧l[j]? = some x)↔(∃ j,j<m∧l[j]? = some x)∨x=l[m]:=by
    intro x
    constructor
    · rintro ⟨j,hj,hx⟩
      by_cases e:j=m
      · subst e
        rw [List.getElem?_eq_getElem (by omega)] at hx
        exact .inr (Option.some.inj hx).symm
      · exact .inl ⟨j,by omega,hx⟩
    · rintro (⟨j,hj,hx⟩ | e)
      · exact ⟨j,by omega,hx⟩
      · exact ⟨m,by omega,by rw [e,List.getElem?_eq_getElem]⟩
   by_cases hk:m=0∨l.toArray[m]! ≠ l.toArray[m - 1]!
   · have hk':Lib.keeps l.toArray m=true:=by simpa [Lib.keeps] using hk
     rw [hk',if_pos rfl,hmg]
     refine ⟨List.pairwise_append.2 ⟨h1,by simp,?_⟩,?_⟩
     · intro x hx y hy
       simp only [List.mem_singleton] at hy
       subst hy
       obtain ⟨j,hj,hxj⟩:=(h2 x).1 hx
       have hm0:m≠0:=by omega
       have hne:l[m]≠l[m - 1]:=by
        rcases hk with hk | hk
        · exact absurd hk hm0
        · rw [hget m (by omega),hget (m - 1) (by omega)] at hk; exact hk
       have hx':x=l[j]:=by rw [List.getElem?_eq_getElem (by omega)] at hxj; exact (Option.some.inj hxj).symm
       have hp:=List.pairwise_iff_getElem.1 hs
       have c1:l[m - 1]≤l[m]:=hp (m - 1) m (by omega) (by omega) (by omega)
       have c2:l[j]≤l[m - 1]:=by
        by_cases e:j=m - 1
        · subst e; exact Int.le_refl _
        · exact hp j (m - 1) (by omega) (by omega) (by omega)
       omega
     · intro x
       rw [List.mem_append,h2,hmem]
       simp
   · have hk':Lib.keeps l.toArray m=false:=by simpa [Lib.keeps] using hk
     rw [hk']
     simp only [Bool.false_eq_true,if_false,List.append_nil]
     refine ⟨h1,λx=>?_⟩
     rw [h2,hmem]
     have hm0:m≠0:=λe=>hk (.inl e)
     have he:l[m]=l[m - 1]:=by
      have:¬ (l.toArray[m]! ≠ l.toArray[m - 1]!):=λh=>hk (.inr h)
      rw [hget m (by omega),hget (m - 1) (by omega)] at this
      exact Classical.not_not.1 this
     constructor
     · exact .inl
     · rintro (h | h)
       · exact h
       · exact ⟨m - 1,by omega,by rw [List.getElem?_eq_getElem (by omega),h,he]⟩
 obtain ⟨h1,h2⟩:=key l.length (Nat.le_refl _)
 refine ⟨h1,λx=>?_⟩
 have:=h2 x
 unfold Lib.compact
 rw [this,List.mem_iff_getElem?]
 constructor
 · rintro ⟨j,_,h⟩; exact ⟨j,h⟩
 · rintro ⟨j,h⟩; exact ⟨j,(List.getElem?_eq_some_iff.1 h).1,h⟩
def Q27 (p:List Pair) (a b:Int):Bool:=Qtz p a b&&Qtz p b a
def Q4p (r:Request):List Int:=bif Qhg r==0 then (Qjw 0 4).filter λc=>r.fV.any λx=>x.fK==c else []
def Qyg {α:Type} (g:α→Bool):List α→Option Nat
 | []=>none
 | x::xs=>bif g x then some 0 else (Qyg g xs).map (·+1)
def Q9r (p:List Pair) (out:List (List Int)) (c:Int):List (List Int) :=
 match Qyg (λg=>g.all (Q27 p c)) out with
 | some i=>out.set i ((out[i]?.getD [])++[c])
 | none=>out++[[c]]
def Qju (r:Request):List (List Int):=(Q4p r).foldl (Q9r r.fR) []
def ofG (r:Request) (g:List Int):Int→List Int→List Int
 | _,[]=>[]
 | u,i::us=>bif (match ix r.fV i with | some x=>g.contains x.fK | none=>false) then u::ofG r g (u+1) us else ofG r g (u+1) us
def Q5i (r:Request) (k:Int):List Int:=match ix (Qju r) k with | some g=>ofG r g 0 (Qi6 r) | none=>[]
def Qwj (r:Request) (us:List Int):Int:=Qx8 ((Qxn r us).map (·.fQ))
theorem Qvv (r:Request):(Q4p r).Pairwise (·<·):=by
 unfold Q4p
 cases Qhg r==0
 · exact List.Pairwise.nil
 · rw [cond_true]; exact (Qvq 0 4).filter _
theorem Q6o {r:Request} {c:Int} (h:c∈Q4p r):0≤c∧c<4:=by
 unfold Q4p at h
 cases hc:Qhg r==0
 · simp [hc] at h
 · simp only [hc,cond_true] at h
   have:=Qhn.1 (List.mem_filter.1 h).1
   omega
theorem Q2c (r:Request):(Q4p r).length≤4:=by
 unfold Q4p
 cases Qhg r==0
 · simp
 · exact Nat.le_trans (List.length_filter_le _ _) (by simp [Qjw])
theorem Qzu {α:Type} {g:α→Bool}:∀ {l:List α} {i:Nat},Qyg g l=some i→∃ x,l[i]? = some x∧g x=true
 | [],i,h=>by simp [Qyg] at h
 | x::xs,i,h=>by
  unfold Qyg at h
  cases hx:g x
  · simp only [hx,cond_false,Option.map_eq_some_iff] at h
    obtain ⟨j,hj,rfl⟩:=h
    simpa using Qzu hj
  · simp only [hx,cond_true,Option.some.injEq] at h
    subst h
    exact ⟨x,rfl,hx⟩
def okG (n:Nat) (out:List (List Int)):Prop:=out.length≤n∧∀ g∈out,g.length≤n
theorem Q56 {p:List Pair} {out:List (List Int)} {n:Nat} (c:Int) (h:okG n out):okG (n+1) (Q9r p out c):=by
 obtain ⟨h1,h2⟩:=h
 unfold Q9r
 split
 · rename_i i hi
   obtain ⟨x,hx,_⟩:=Qzu hi
   refine ⟨by simp; omega,λg hg=>?_⟩
   rcases List.mem_or_eq_of_mem_set hg with hg | hg
   · have:=h2 g hg; omega
   · subst hg
     rw [hx]
     have:=h2 x (List.mem_of_getElem? hx)
     simp; omega
 · refine ⟨by simp; omega,λg hg=>?_⟩
   rcases List.mem_append.1 hg with hg | hg
   · have:=h2 g hg; omega
   · simp at hg; subst hg; simp
theorem Q6y {p:List Pair}:∀ (l:List Int) {out:List (List Int)} {n:Nat},okG n out→okG (n+l.length) (l.foldl (Q9r p) out)
 | [],_,_,h=>h
 | c::l,out,n,h=>by
  have:=Q6y (p:=p) l (Q56 (p:=p) c h)
  simp only [List.foldl_cons,List.length_cons]
  rw [show n+(l.length+1)=n+1+l.length by omega]
  exact this
theorem Quw (r:Request):okG 4 (Qju r):=by
 have h:=Q6y (p:=r.fR) (Q4p r) (out:=[]) (n:=0) ⟨by simp,by simp⟩
 have hl:=Q2c r
 unfold okG at h
 exact ⟨by have:=h.1; unfold Qju; omega,λg hg=>by have:=h.2 g hg; omega⟩
theorem Jbr (r:Request) (g:List Int):∀ (us:List Int) (u:Int),(ofG r g u us).length≤us.length
 | [],_=>by simp [ofG]
 | i::us,u=>by
  have:=Jbr r g us (u+1)
  unfold ofG
  generalize (match ix r.fV i with | some x=>g.contains x.fK | none=>false)=b
  cases b <;> simp <;> omega
theorem Qye (r:Request) (k:Int):(Q5i r k).length≤12:=by
 have:=Q3u r
 unfold Q5i
 split
 · have:=Jbr r ‹_› (Qi6 r) 0; omega
 · simp
theorem Q3f {r:Request} {us:List Int} {x:Item} (h:x∈Qxn r us):0≤x.fQ∧x.fQ≤100000:=by
 unfold Qxn at h
 obtain ⟨u,_,hu⟩:=List.mem_filterMap.1 h
 unfold Q3w at hu
 obtain ⟨i,hi,hx⟩:=Qt3 hu
 have hm:=Qi2 hi
 unfold Qi6 at hm
 cases hc:Qhg r==0
 · simp [hc] at hm
 · have:=(Qsz (Qfn (by simpa using hc)).1).1 x (Qi2 hx)
   simp only [Qx0,Bool.and_eq_true,Qcb] at this
   omega
theorem Jai (r:Request) (us:List Int):0≤Qwj r us∧Qwj r us≤100000*us.length:=by
 refine ⟨Jaj _ _ λx hx=>(Q3f hx).1,?_⟩
 have h1:=Jfc (λx:Item=>x.fQ) (Qxn r us) 100000 λx hx=>(Q3f hx).2
 have h2:=Qym r us
 unfold Qwj
 omega
end Go.Proofs.YthkaklkinepfkaaGreatDoor
set_option linter.unusedSimpArgs false
set_option linter.unusedVariables false
namespace Go.Proofs.YthkaklkinepfkaaGreatDoor
open Go
open Enc (rd ow)
open Arg (argv)
open Ret (retv)
open Wf (wf)
theorem Q86 {r:Request} {u:Int} {x:Item} (h:Q3w r u=some x):Qhg r=0∧x∈r.fV:=by
 unfold Q3w at h
 obtain ⟨i,hi,hx⟩:=Qt3 h
 have hm:=Qi2 hi
 refine ⟨?_,Qi2 hx⟩
 unfold Qi6 at hm
 cases hc:Qhg r==0
 · simp [hc] at hm
 · simpa using hc
end Go.Proofs.YthkaklkinepfkaaGreatDoor
