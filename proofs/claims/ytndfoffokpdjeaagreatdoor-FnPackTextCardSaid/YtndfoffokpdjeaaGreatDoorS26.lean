/- Runs: many steps of .. -/
import Derived.Test.YtndfoffokpdjeaaGreatDoorS20
set_option linter.unusedSimpArgs false
set_option linter.unusedVariables false
namespace Go.Proofs.YtndfoffokpdjeaaGreatDoor
open Go Go.RowKit
open Enc (rd ow)
inductive Fr where
 | sq (y:Code)
 | fn (R:Act→World→Prop)
 | bk (id:Nat)
def den (P:Program) (B:Exit→Act→World→Prop):List Fr→Exit→Act→World→Prop
 | []=>B
 | .sq y::s=>Exit.then (λa w=>y.wp P (den P B s) a w) (den P B s)
 | .fn R::s=>Exit.then R (den P B s)
 | .bk id::s=>Exit.inBlock id (den P B s)
inductive Cf where
 | ops (o:Array Oper) (l:List Oper)
 | code (c:Code)
 | ex (e:Exit)
 | pr (R:Act→World→Prop)
@[reducible] def tgt (P:Program) (B:Exit→Act→World→Prop):Cf→List Fr→Act→World→Prop
 | .ops o l,s,a,w=>wpList P o (den P B s) l a w
 | .code c,s,a,w=>c.wp P (den P B s) a w
 | .ex e,[],a,w=>B e a w
 | .ex e,s,a,w=>den P B s e a w
 | .pr R,_,a,w=>R a w
class Tys (P:Program) where
 fa:List (Nat×Nat×Nat)
 hfa:∀ x∈fa,FA P x.1 x.2.1 x.2.2
 ts:List (Nat×Nat)
 hts:∀ x∈ts,TS P x.1 x.2
 t1:List Nat
 ht1:∀ x∈t1,T1 P x
 ta:List (Nat×Nat)
 hta:∀ x∈ta,TA P x.1 x.2
 sl:List Nat
 hsl:∀ x∈sl,∃ e,P.underlying x=some (.slice e)
def lk2:List (Nat×Nat)→Nat→Option Nat
 | [],_=>none
 | (x,y)::r,t=>bif Nat.beq x t then some y else lk2 r t
def lk3:List (Nat×Nat×Nat)→Nat→Nat→Option Nat
 | [],_,_=>none
 | (x,y,n)::r,t,f=>bif Nat.beq x t&&Nat.beq y f then some n else lk3 r t f
def lk1:List Nat→Nat→Bool
 | [],_=>false
 | x::r,t=>bif Nat.beq x t then true else lk1 r t
theorem Q3b:∀ {l:List (Nat×Nat)} {t y:Nat},lk2 l t=some y→(t,y)∈l
 | [],t,y,h=>by simp [lk2] at h
 | (x,z)::r,t,y,h=>by
  unfold lk2 at h
  cases hb:Nat.beq x t
  · rw [hb] at h; exact List.mem_cons_of_mem _ (Q3b h)
  · rw [hb] at h
    have:=Nat.eq_of_beq_eq_true hb
    subst this
    simp only [cond_true,Option.some.injEq] at h
    subst h; simp
theorem Q9k:∀ {l:List (Nat×Nat×Nat)} {t f y:Nat},lk3 l t f=some y→(t,f,y)∈l
 | [],t,f,y,h=>by simp [lk3] at h
 | (x,g,z)::r,t,f,y,h=>by
  unfold lk3 at h
  cases hb:Nat.beq x t&&Nat.beq g f
  · rw [hb] at h; exact List.mem_cons_of_mem _ (Q9k h)
  · rw [hb] at h
    simp only [Bool.and_eq_true] at hb
    have e1:=Nat.eq_of_beq_eq_true hb.1
    have e2:=Nat.eq_of_beq_eq_true hb.2
    subst e1 e2
    simp only [cond_true,Option.some.injEq] at h
    subst h; simp
theorem Qyp:∀ {l:List Nat} {t:Nat},lk1 l t=true→t∈l
 | [],t,h=>by simp [lk1] at h
 | x::r,t,h=>by
  unfold lk1 at h
  cases hb:Nat.beq x t
  · rw [hb] at h; exact List.mem_cons_of_mem _ (Qyp h)
  · have:=Nat.eq_of_beq_eq_true hb
    subst this; simp
theorem Ext.agr0 {w w':World} {F:List Nat} (h:Ext [] w w') (hl:∀ b∈F,b<w.heap.size):Agr F w w':=λb hb=>h.blk b (hl b hb) (by simp)
theorem PtAt.ext {w w':World} {p:Addr} {cs:List Value} (h:PtAt w p cs) (hE:Ext [] w w'):PtAt w' p cs:=by
 obtain ⟨g,off,c,e,fr,rfl,hh,hc⟩:=h
 have hl:g<w.heap.size:=(Array.getElem?_eq_some_iff.1 hh).1
 exact ⟨g,off,c,e,fr,rfl,(hE.blk g hl (by simp)).trans hh,hc⟩
structure Fx (P:Program) (w:World) where
 f:List (Nat×Value)→Op→Option (Value×List (Option Value×Option Value))
 ok:∀ {N:Nat} {L:List (Nat×Value)} {a:Act} {o:Oper} {v:Value} {xs:List (Option Value×Option Value)},K N L a→f L o.op=some (v,xs)→(∀ p∈xs,p.1=p.2)→∀ {w':World},Ext [] w w'→(execOp a.eval o).run P w'=.ok (.value v) w'
theorem Qut {P:Program} {w:World} {B:Exit→Act→World→Prop} {e:Exit} {s:List Fr} {a:Act}:tgt P B (.ex e) s a w↔den P B s e a w:=by
 cases s <;> exact Iff.rfl
section
variable {P:Program} [T:Tys P] {w u w0:World} {X:List Nat} {M:List (List Nat×World)} {F:List Nat}
def Q3k (P:Program) [T:Tys P] (L:List (Nat×Value)):Op→Option Value
 | .fieldAddr t x f=>match lk3 T.fa t f with
  | some off=>match ev L x with
   | some (.pointer (some p))=>some (.pointer (some (p.add off)))
   | _=>none
  | none=>none
 | .nilCheck x=>match ev L x with
  | some (.pointer (some p))=>some (.pointer (some p))
  | _=>none
 | _=>none
theorem Qzi {N:Nat} {L:List (Nat×Value)} {a:Act} {o:Oper} {v:Value} (hK:K N L a) (h:Q3k P L o.op=some v):(execOp a.eval o).run P w=.ok (.value v) w:=by
 unfold Q3k at h
 split at h
 · rename_i t x f ho
   split at h
   · rename_i off hl
     split at h
     · rename_i p hv
       cases h
       exact Qv3 (T.hfa _ (Q9k hl)) hK ho hv
     · cases h
   · cases h
 · rename_i x ho
   split at h
   · rename_i p hv
     cases h
     exact Qn5 hK ho hv
   · cases h
 · cases h
def iF {α:Type} [Enc α] {v:Value} {xs:List α} {n:Int} {y:α} (hf:rd u F [v] xs) (hx:ix xs n=some y):Fx P w where
 f:=λL o=>match o with
  | .indexAddr t x i=>match lk2 T.ts t with
   | some s=>bif Nat.beq s (Enc.sz α) then match ev L i with
    | some (.int k m)=>some (.pointer (some (Qmr v (Enc.sz α) n.toNat)),[(ev L x,some v),(some (.int k m),some (.int k n))])
    | _=>none else none
   | none=>none
  | _=>none
 ok:=by
  intro N L a o v' xs' hK h e w' hE
  split at h
  · rename_i t x i ho
    split at h
    · rename_i s hl
      cases hb:Nat.beq s (Enc.sz α)
      · rw [hb] at h; cases h
      · rw [hb] at h
        have:=Nat.eq_of_beq_eq_true hb
        subst this
        simp only [cond_true] at h
        split at h
        · rename_i k m hv
          cases h
          simp only [List.mem_cons,List.not_mem_nil,or_false,forall_eq_or_imp,forall_eq] at e
          exact Qci hf hx hK (T.hts _ (Q3b hl)) ho e.1 (hv.trans e.2)
        · cases h
    · cases h
  · cases h
def eF {α:Type} [Flat α] {v:Value} {xs:List α} {n:Int} {y:α} (hf:rd w F [v] xs) (hx:ix xs n=some y) (off:Nat):Fx P w where
 f:=λL o=>match o with
  | .load t x=>bif lk1 T.t1 t then match (Flat.e y)[off]? with
      | some c=>some (c,[(ev L x,some (.pointer (some ((Qmr v (Flat.sz α) n.toNat).add off))))])
      | none=>none else none
  | _=>none
 ok:=by
  intro N L a o v' xs' hK h e w' hE
  split at h
  · rename_i t x ho
    cases hb:lk1 T.t1 t
    · rw [hb] at h; cases h
    · rw [hb] at h
      simp only [cond_true] at h
      split at h
      · rename_i c hc
        cases h
        simp only [List.mem_cons,List.not_mem_nil,or_false,forall_eq_or_imp,forall_eq] at e
        exact Qcq hf (hE.agr0 (Enc.rd_lt hf)) hx off (T.ht1 _ (Qyp hb)) hK ho e rfl hc
      · cases h
  · cases h
def eA {α:Type} [Flat α] {v:Value} {xs:List α} {n:Int} {y:α} (hf:rd w F [v] xs) (hx:ix xs n=some y):Fx P w where
 f:=λL o=>match o with
  | .load t x=>match lk2 T.ta t with
   | some s=>bif Nat.beq s (Flat.sz α) then some (.agg (Flat.e y).toArray,[(ev L x,some (.pointer (some (Qmr v (Flat.sz α) n.toNat))))]) else none
   | none=>none
  | _=>none
 ok:=by
  intro N L a o v' xs' hK h e w' hE
  split at h
  · rename_i t x ho
    split at h
    · rename_i s hl
      cases hb:Nat.beq s (Flat.sz α)
      · rw [hb] at h; cases h
      · rw [hb] at h
        have:=Nat.eq_of_beq_eq_true hb
        subst this
        simp only [cond_true] at h
        cases h
        simp only [List.mem_cons,List.not_mem_nil,or_false,forall_eq_or_imp,forall_eq] at e
        exact Je7 hf (hE.agr0 (Enc.rd_lt hf)) hx (T.hta _ (Q3b hl)) hK ho e
    · cases h
  · cases h
def bF {b:Nat} {cs:List Value} {e:TypeId} (hM:St X w0 w M) (i:Nat) (hb:bx u b cs e) (hi:M[i]? = some ([b],u)):Fx P w where
 f:=λL o=>match o with
  | .load t x=>bif lk1 T.t1 t then match ev L x with
   | some (.pointer (some p))=>match cs[p.off]? with
    | some c=>some (c,[(some (.pointer (some p)),some (.pointer (some ((⟨b,0,none⟩:Addr).add p.off))))])
    | none=>none
   | _=>none else none
  | _=>none
 ok:=by
  intro N L a o v' xs' hK h e w' hE
  split at h
  · rename_i t x ho
    cases hb':lk1 T.t1 t
    · rw [hb'] at h; cases h
    · rw [hb'] at h
      simp only [cond_true] at h
      split at h
      · rename_i p hv
        split at h
        · rename_i c hc
          cases h
          simp only [List.mem_cons,List.not_mem_nil,or_false,forall_eq_or_imp,forall_eq,Option.some.injEq,Value.pointer.injEq] at e
          exact Jme (T.ht1 _ (Qyp hb')) (hM.step hE) i hb _ hK hi ho hv e hc
        · cases h
      · cases h
  · cases h
def bA {b:Nat} {cs:List Value} {e:TypeId} (hM:St X w0 w M) (i:Nat) (hb:bx u b cs e) (hi:M[i]? = some ([b],u)):Fx P w where
 f:=λL o=>match o with
  | .load t x=>match lk2 T.ta t with
   | some n=>match ev L x with
    | some (.pointer (some p))=>bif Nat.beq ((cs.drop p.off).take n).length n then some (.agg ((cs.drop p.off).take n).toArray,[(some (.pointer (some p)),some (.pointer (some ((⟨b,0,none⟩:Addr).add p.off))))]) else none
    | _=>none
   | none=>none
  | _=>none
 ok:=by
  intro N L a o v' xs' hK h e w' hE
  split at h
  · rename_i t x ho
    split at h
    · rename_i n hl
      split at h
      · rename_i p hv
        cases hb':Nat.beq ((cs.drop p.off).take n).length n
        · rw [hb'] at h; cases h
        · rw [hb'] at h
          simp only [cond_true] at h
          cases h
          simp only [List.mem_cons,List.not_mem_nil,or_false,forall_eq_or_imp,forall_eq,Option.some.injEq,Value.pointer.injEq] at e
          exact Jl9 (T.hta _ (Q3b hl)) (hM.step hE) i hb _ hK hi ho hv e rfl (Nat.eq_of_beq_eq_true hb')
      · cases h
    · cases h
  · cases h
def pF {p:Addr} {c:Value} {r:List Value} (hp:PtAt w p (c::r)):Fx P w where
 f:=λL o=>match o with
  | .load t x=>bif lk1 T.t1 t then some (c,[(ev L x,some (.pointer (some p)))]) else none
  | _=>none
 ok:=by
  intro N L a o v' xs' hK h e w' hE
  split at h
  · rename_i t x ho
    cases hb':lk1 T.t1 t
    · rw [hb'] at h; cases h
    · rw [hb'] at h
      simp only [cond_true] at h
      cases h
      simp only [List.mem_cons,List.not_mem_nil,or_false,forall_eq_or_imp,forall_eq] at e
      exact Qcc (T.ht1 _ (Qyp hb')) (hp.ext hE) hK ho e
  · cases h
def lF {α:Type} [Enc α] {v:Value} {xs:List α} (hf:rd u F [v] xs):Fx P w where
 f:=λL o=>match o with
  | .call { callee:=.builtin .len,args:=⟨[x]⟩,argTypes:=⟨[t]⟩ }=>bif lk1 T.sl t then some (.int .i64 (xs.length:Int),[(ev L x,some v)]) else none
  | _=>none
 ok:=by
  intro N L a o v' xs' hK h e w' hE
  split at h
  · rename_i x t ho
    cases hb':lk1 T.sl t
    · rw [hb'] at h; cases h
    · rw [hb'] at h
      simp only [cond_true] at h
      cases h
      simp only [List.mem_cons,List.not_mem_nil,or_false,forall_eq_or_imp,forall_eq] at e
      obtain ⟨e',hu⟩:=T.hsl _ (Qyp hb')
      exact Jcs hf hK hu ho e
  · cases h
structure Cfg (P:Program) (w:World) where
 c:Cf
 s:List Fr
 L:List (Nat×Value)
 fs:List (Fx P w)
 xs:List (Option Value×Option Value)
def step (N:Nat):Cfg P w→Option (Cfg P w)
 | ⟨.ops o [],s,L,fs,xs⟩=>some ⟨.ex .normal,s,L,fs,xs⟩
 | ⟨.ops o (q::r),s,L,fs,xs⟩=>match q.dst with
  | none=>none
  | some d=>bif Nat.blt d N then (match gd L o q.guard with
   | none=>none
   | some false=>some ⟨.ops o r,s,(d,undef)::L,fs,xs⟩
   | some true=>match Qoz L q.op with
    | some v=>some ⟨.ops o r,s,(d,v)::L,fs,xs⟩
    | none=>match Q3k P L q.op with
     | some v=>some ⟨.ops o r,s,(d,v)::L,fs,xs⟩
     | none=>match fs with
      | []=>none
      | f::fs=>match f.f L q.op with
       | some (v,x)=>some ⟨.ops o r,s,(d,v)::L,fs,x++xs⟩
       | none=>none) else none
 | ⟨.code c,s,L,fs,xs⟩=>match c with
  | .seq x y=>some ⟨.code x,.sq y::s,L,fs,xs⟩
  | .region _ ⟨l⟩ false=>some ⟨.ops l.toArray l,s,L,fs,xs⟩
  | .block id c=>some ⟨.code c,.bk id::s,L,fs,xs⟩
  | .cond t x y=>match ev L t with
   | some (.bool true)=>some ⟨.code x,s,L,fs,xs⟩
   | some (.bool false)=>some ⟨.code y,s,L,fs,xs⟩
   | _=>none
  | .skip=>some ⟨.ex .normal,s,L,fs,xs⟩
  | .exit id=>some ⟨.ex (.exit id),s,L,fs,xs⟩
  | .ret=>some ⟨.ex .ret,s,L,fs,xs⟩
  | _=>none
 | ⟨.ex .normal,.sq y::s,L,fs,xs⟩=>some ⟨.code y,s,L,fs,xs⟩
 | ⟨.ex .normal,.fn R::s,L,fs,xs⟩=>some ⟨.pr R,s,L,fs,xs⟩
 | ⟨.ex .normal,.bk _::s,L,fs,xs⟩=>some ⟨.ex .normal,s,L,fs,xs⟩
 | ⟨.ex (.exit i),.bk id::s,L,fs,xs⟩=>bif Nat.beq i id then some ⟨.ex .normal,s,L,fs,xs⟩ else some ⟨.ex (.exit i),s,L,fs,xs⟩
 | ⟨.ex (.exit i),.sq _::s,L,fs,xs⟩=>some ⟨.ex (.exit i),s,L,fs,xs⟩
 | ⟨.ex (.exit i),.fn _::s,L,fs,xs⟩=>some ⟨.ex (.exit i),s,L,fs,xs⟩
 | ⟨.ex .ret,_::s,L,fs,xs⟩=>some ⟨.ex .ret,s,L,fs,xs⟩
 | _=>none
def run (N:Nat):Nat→Cfg P w→Option (Cfg P w)
 | 0,c=>some c
 | n+1,c=>match step N c with
  | some c=>run N n c
  | none=>none
def Jhw:List (Option Value×Option Value)→List (Option Value)
 | []=>[]
 | p::r=>p.1::Jhw r
def Jhy:List (Option Value×Option Value)→List (Option Value)
 | []=>[]
 | p::r=>p.2::Jhy r
theorem Q7c:∀ {l:List (Option Value×Option Value)},Jhw l=Jhy l→∀ p∈l,p.1=p.2
 | [],_,p,h=>by simp at h
 | q::r,e,p,h=>by
  simp only [Jhw,Jhy,List.cons.injEq] at e
  rcases List.mem_cons.1 h with rfl | h
  · exact e.1
  · exact Q7c e.2 p h
theorem Jhf {B:Exit→Act→World→Prop} {N:Nat} {c c':Cfg P w} (h:step N c=some c') (ho:∀ p∈c'.xs,p.1=p.2) :
    (∀ p∈c.xs,p.1=p.2)∧∀ {a:Act},K N c.L a→(∀ {a},K N c'.L a→tgt P B c'.c c'.s a w)→tgt P B c.c c.s a w:=by
 unfold step at h
 split at h
 · rename_i o s L fs xs
   cases h
   exact ⟨ho,λhK k=>wpList_nil (Qut.1 (k hK))⟩
 · rename_i o q r s L fs xs
   cases hd:q.dst with
   | none=>rw [hd] at h; cases h
   | some d =>
    rw [hd] at h
    simp only at h
    cases hN:Nat.blt d N
    · rw [hN] at h; cases h
    · rw [hN] at h
      simp only [cond_true] at h
      split at h
      · cases h
      · rename_i hg
        cases h
        exact ⟨ho,λhK k=>sk hK hg hd hN λa hK=>k hK⟩
      · rename_i hg
        split at h
        · rename_i v hp
          cases h
          exact ⟨ho,λhK k=>s1 hK hg hd hN hp λa hK=>k hK⟩
        · split at h
          · rename_i v hp
            cases h
            exact ⟨ho,λhK k=>Qt8 hK hg hd hN (Qzi hK hp) λa hK=>k hK⟩
          · split at h
            · cases h
            · rename_i f fs
              split at h
              · rename_i v x hf
                cases h
                simp only [List.mem_append] at ho
                exact ⟨λp hp=>ho p (.inr hp),λhK k=>Qt8 hK hg hd hN (f.ok hK hf (λp hp=>ho p (.inl hp)) (Ext.refl _ _)) λa hK=>k hK⟩
              · cases h
 · rename_i c s L fs xs
   split at h
   · cases h; exact ⟨ho,λhK k=>wp_seq (k hK)⟩
   · cases h; exact ⟨ho,λhK k=>wp_region_lit (k hK)⟩
   · cases h; exact ⟨ho,λhK k=>wp_block (k hK)⟩
   · split at h
     · rename_i hv
       cases h; exact ⟨ho,λhK k=>wp_cond_true (hK.ev hv) (k hK)⟩
     · rename_i hv
       cases h; exact ⟨ho,λhK k=>wp_cond_false (hK.ev hv) (k hK)⟩
     · cases h
   · cases h; exact ⟨ho,λhK k=>wp_skip (Qut.1 (k hK))⟩
   · cases h; exact ⟨ho,λhK k=>wp_exit (Qut.1 (k hK))⟩
   · cases h; exact ⟨ho,λhK k=>wp_ret (Qut.1 (k hK))⟩
   · cases h
 · cases h; exact ⟨ho,λhK k=>Qad (k hK)⟩
 · cases h; exact ⟨ho,λhK k=>Qad (k hK)⟩
 · cases h; exact ⟨ho,λhK k=>Qs7 (Qut.1 (k hK))⟩
 · rename_i i id s L fs xs
   cases hb:Nat.beq i id
   · rw [hb] at h
     cases h
     exact ⟨ho,λhK k=>Jdz hb (Qut.1 (k hK))⟩
   · rw [hb] at h
     cases h
     have:=Nat.eq_of_beq_eq_true hb
     subst this
     exact ⟨ho,λhK k=>Jhi (Qut.1 (k hK))⟩
 · cases h; exact ⟨ho,λhK k=>Q85 (Qut.1 (k hK))⟩
 · cases h; exact ⟨ho,λhK k=>Q85 (Qut.1 (k hK))⟩
 · rename_i f s L fs xs
   cases h
   refine ⟨ho,λhK k=>?_⟩
   have:=Qut.1 (k hK)
   cases f
   · exact Qxb this
   · exact Qxb this
   · exact Jc4 this
 · cases h
theorem Q1k {B:Exit→Act→World→Prop} {N:Nat}:∀ (n:Nat) {c c':Cfg P w},run N n c=some c'→(∀ p∈c'.xs,p.1=p.2) →
    (∀ p∈c.xs,p.1=p.2)∧∀ {a:Act},K N c.L a→(∀ {a},K N c'.L a→tgt P B c'.c c'.s a w)→tgt P B c.c c.s a w
 | 0,c,c',h,ho=>by
  cases h
  exact ⟨ho,λhK k=>k hK⟩
 | n+1,c,c',h,ho=>by
  unfold run at h
  split at h
  · rename_i c1 h1
    have h2:=Q1k (B:=B) n h ho
    have h3:=Jhf (B:=B) h1 h2.1
    exact ⟨h3.1,λhK k=>h3.2 hK λhK=>h2.2 hK k⟩
  · cases h
theorem gl {B:Exit→Act→World→Prop} {N:Nat} (n:Nat) (fs:List (Fx P w)) {o:Array Oper} {l:List Oper} {s s':List Fr} {L L':List (Nat×Value)} {a:Act} {c':Cf} {fs':List (Fx P w)} {xs:List (Option Value×Option Value)}
    (hK:K N L a) (h:(run N n ⟨.ops o l,s,L,fs,[]⟩,Jhw xs)=(some ⟨c',s',L',fs',xs⟩,Jhy xs)) (k:∀ {a},K N L' a→tgt P B c' s' a w):wpList P o (den P B s) l a w :=
 (Q1k (B:=B) n (congrArg Prod.fst h) (Q7c (congrArg Prod.snd h))).2 hK k
theorem gc {B:Exit→Act→World→Prop} {N:Nat} (n:Nat) (fs:List (Fx P w)) {c:Code} {s s':List Fr} {L L':List (Nat×Value)} {a:Act} {c':Cf} {fs':List (Fx P w)} {xs:List (Option Value×Option Value)}
    (hK:K N L a) (h:(run N n ⟨.code c,s,L,fs,[]⟩,Jhw xs)=(some ⟨c',s',L',fs',xs⟩,Jhy xs)) (k:∀ {a},K N L' a→tgt P B c' s' a w):c.wp P (den P B s) a w :=
 (Q1k (B:=B) n (congrArg Prod.fst h) (Q7c (congrArg Prod.snd h))).2 hK k
theorem ul {B:Exit→Act→World→Prop} {N:Nat} (n:Nat) {o:Array Oper} {l:List Oper} {s s':List Fr} {L L':List (Nat×Value)} {a:Act} {c':Cf}
    (hK:K N L a) (h:run N n (⟨.ops o l,s,L,[],[]⟩:Cfg P w)=some ⟨c',s',L',[],[]⟩) (k:∀ {a},K N L' a→tgt P B c' s' a w):wpList P o (den P B s) l a w :=
 (Q1k (B:=B) n h (by simp)).2 hK k
theorem uc {B:Exit→Act→World→Prop} {N:Nat} (n:Nat) {c:Code} {s s':List Fr} {L L':List (Nat×Value)} {a:Act} {c':Cf}
    (hK:K N L a) (h:run N n (⟨.code c,s,L,[],[]⟩:Cfg P w)=some ⟨c',s',L',[],[]⟩) (k:∀ {a},K N L' a→tgt P B c' s' a w):c.wp P (den P B s) a w :=
 (Q1k (B:=B) n h (by simp)).2 hK k
theorem ue {B:Exit→Act→World→Prop} {N:Nat} (n:Nat) {e:Exit} {s s':List Fr} {L L':List (Nat×Value)} {a:Act} {c':Cf}
    (hK:K N L a) (h:run N n (⟨.ex e,s,L,[],[]⟩:Cfg P w)=some ⟨c',s',L',[],[]⟩) (k:∀ {a},K N L' a→tgt P B c' s' a w):den P B s e a w :=
 Qut.1 ((Q1k (B:=B) n h (by simp)).2 hK k)
def Q90 (N:Nat) (ops:Array Oper):List Nat→List (Nat×Value)→List (Fx P w)→List (Option Value×Option Value)→Option (List (Nat×Value)×List (Fx P w)×List (Option Value×Option Value))
 | [],L,fs,xs=>some (L,fs,xs)
 | i::is,L,fs,xs=>match ops[i]? with
  | none=>none
  | some q=>match q.dst with
   | none=>none
   | some d=>bif Nat.blt d N then (match gd L ops q.guard with
    | none=>none
    | some false=>Q90 N ops is ((d,undef)::L) fs xs
    | some true=>match Qoz L q.op with
     | some v=>Q90 N ops is ((d,v)::L) fs xs
     | none=>match Q3k P L q.op with
      | some v=>Q90 N ops is ((d,v)::L) fs xs
      | none=>match fs with
       | []=>none
       | f::fs=>match f.f L q.op with
        | some (v,x)=>Q90 N ops is ((d,v)::L) fs (x++xs)
        | none=>none) else none
theorem Qwl {N:Nat} {ops:Array Oper}:∀ (is:List Nat) {L L':List (Nat×Value)} {fs fs':List (Fx P w)} {xs xs':List (Option Value×Option Value)},Q90 N ops is L fs xs=some (L',fs',xs')→∀ p∈xs,p∈xs'
 | [],L,L',fs,fs',xs,xs',h=>by
  simp only [Q90,Option.some.injEq,Prod.mk.injEq] at h
  rw [h.2.2]; exact λp h=>h
 | i::is,L,L',fs,fs',xs,xs',h=>by
  unfold Q90 at h
  split at h
  · cases h
  · split at h
    · cases h
    · rename_i d hd
      cases hN:Nat.blt d N
      · rw [hN] at h; cases h
      · rw [hN] at h
        simp only [cond_true] at h
        split at h
        · cases h
        · exact Qwl is h
        · split at h
          · exact Qwl is h
          · split at h
            · exact Qwl is h
            · split at h
              · cases h
              · split at h
                · exact λp hp=>Qwl is h p (List.mem_append_right _ hp)
                · cases h
theorem Qzw {Q:Exit→Act→World→Prop} {N:Nat} {ops:Array Oper} {w1:World} (s:Ext [] w w1):∀ (is:List Nat) (n:Nat) {fuel:Nat} {listed:Array Bool} {L L':List (Nat×Value)} {a:Act} {fs fs':List (Fx P w)} {xs xs':List (Option Value×Option Value)},is.length=n→K N L a →
    Q90 N ops is L fs xs=some (L',fs',xs')→(∀ p∈xs',p.1=p.2)→okN ops listed is=true→(∀ c (a:Act) d v w,Q (.panic c) (a.put (some d) v) w→Q (.panic c) a w) →
    (∀ {a},K N L' a→wpAnyH P .any ops Q (Ext [] w) fuel (Jji listed is) a w1)→wpAnyH P .any ops Q (Ext [] w) (fuel+n) listed a w1
 | [],n,fuel,listed,L,L',a,fs,fs',xs,xs',hn,hK,h,hx,ho,hQ,k=>by
  subst hn
  simp only [Q90,Option.some.injEq,Prod.mk.injEq] at h
  rw [← h.1] at k
  exact k hK
 | i::is,n,fuel,listed,L,L',a,fs,fs',xs,xs',hn,hK,h,hx,ho,hQ,k=>by
  subst hn
  unfold okN at ho
  simp only [Bool.and_eq_true] at ho
  unfold Q90 at h
  split at h
  · cases h
  · rename_i q hi
    split at h
    · cases h
    · rename_i d hd
      cases hN:Nat.blt d N
      · rw [hN] at h; cases h
      · rw [hN] at h
        simp only [cond_true] at h
        have hQ':∀ {v:Value},∀ c (a:Act) w,Q (.panic c) (a.put q.dst v) w→Q (.panic c) a w:=λc a w=>by rw [hd]; exact hQ c a d _ w
        split at h
        · cases h
        · rename_i hg
          exact Jby hK i hi (Qgl ho.1).1 (Qgl ho.1).2.1 (Qgl ho.1).2.2 hg hd hN s hQ' λa hK=>Qzw s is _ rfl hK h hx ho.2 hQ k
        · rename_i hg
          split at h
          · rename_i v hp
            exact Jet hK i hi (Qgl ho.1).1 (Qgl ho.1).2.1 (Qgl ho.1).2.2 hg hd hN s hQ' hp λa hK=>Qzw s is _ rfl hK h hx ho.2 hQ k
          · split at h
            · rename_i v hp
              exact Q57 hK i hi (Qgl ho.1).1 (Qgl ho.1).2.1 (Qgl ho.1).2.2 hg hd hN s hQ' (λw _=>Qzi hK hp) λa hK=>Qzw s is _ rfl hK h hx ho.2 hQ k
            · split at h
              · cases h
              · rename_i f fs
                split at h
                · rename_i v x hf
                  have hs:=Qwl is h
                  exact Q57 hK i hi (Qgl ho.1).1 (Qgl ho.1).2.1 (Qgl ho.1).2.2 hg hd hN s hQ' (λw' hE=>f.ok hK hf (λp hp=>hx p (hs p (List.mem_append_left _ hp))) hE) λa hK=>Qzw s is _ rfl hK h hx ho.2 hQ k
                · cases h
theorem dr {Q:Exit→Act→World→Prop} {N:Nat} {ops:Array Oper} {w1:World} (is:List Nat) (n:Nat) (fs:List (Fx P w)) {fuel:Nat} {listed:Array Bool} {L L':List (Nat×Value)} {a:Act} {fs':List (Fx P w)} {xs:List (Option Value×Option Value)}
    (hK:K N L a) (h:(is.length,Q90 N ops is L fs [],Jhw xs)=(n,some (L',fs',xs),Jhy xs)) (s:Ext [] w w1) (k:∀ {a},K N L' a→wpAnyH P .any ops Q (Ext [] w) fuel (Jji listed is) a w1)
    (ho:okN ops listed is=true:=by kernel_rfl) (hQ:∀ c (a:Act) d v w,Q (.panic c) (a.put (some d) v) w→Q (.panic c) a w:=by exact λ_ _ _ _ _=>id):wpAnyH P .any ops Q (Ext [] w) (fuel+n) listed a w1:=by
 simp only [Prod.mk.injEq] at h
 exact Qzw s is n h.1 hK h.2.1 (Q7c h.2.2) ho hQ k
end
section
variable {P:Program} {w u w0:World} {X:List Nat} {M:List (List Nat×World)} {F:List Nat}
theorem K.p {N:Nat} {L L':List (Nat×Value)} {a:Act} (h:K N L a) (hk:Q5p L (L'.map Prod.fst)=some L'):K N L' a:=h.keep _ hk
theorem bS {α:Type} {b:Bool} {p q r:α} {G:Prop} {N:Nat} {L:List (Nat×Value)} {a:Act} (h:(bif b then p else q)=r) (hK:K N L a) (d:Nat) (hl:lk L d=some (.bool b))
    (ht:b=true→p=r→K N ((d,.bool true)::L) a→G) (hf:b=false→q=r→K N ((d,.bool false)::L) a→G):G:=by
 cases hb:b
 · exact hf hb (Qzb hb h) (hK.rb d hl hb)
 · exact ht hb (Qz3 hb h) (hK.rb d hl hb)
theorem cJ {α:Type} {b:Bool} {p q r:α} {Q:Exit→Act→World→Prop} {N:Nat} {L:List (Nat×Value)} {a:Act} {x y:Code} {t:Operand} (h:(bif b then p else q)=r) (hK:K N L a) (hc:ev L t=some (.bool b)) (ht:p=r→x.wp P Q a w) (hf:q=r→y.wp P Q a w) :
    (Code.cond t x y).wp P Q a w:=cI h hK hc (λ_=>ht) (λ_=>hf)
theorem o2 {α β γ:Type} {m:Option α} {n:α→Option β} {k:α→β→Option γ} {r:γ} {p:Prop} (h:(Qab m λx=>Qab (n x) (k x))=some r) (hp:∀ x,m=some x→∀ y,n x=some y→k x y=some r→p):p :=
 oE h λx h1 h2=>oE h2 λy h3 h4=>hp x h1 y h3 h4
theorem lG {B:Exit→Act→World→Prop} {s:List Fr} {c:Code} {a:Act} (I:Nat→Act→World→Prop)
    (round:∀ n a w,I (n+1) a w→c.wp P (den P B (.fn (I n)::s)) a w) (n:Nat) (hI:I n a w) (h0:∀ a w,¬ I 0 a w:=by
     intro a w h
     repeat (first | exact nS h | obtain ⟨_,h⟩:=h)):(Code.loop c).wp P (den P B s) a w:=Jh9 I h0 round n a w hI
theorem eg {f:FuncId} {fn:Func} {c:Code} {R:Ending→World→Prop} {N:Nat} {vs:List Value}
    (hf:P.funcs[f]? = some fn) (hb:fn.body=some c) (hn:fn.ntmps=N) (hle:Nat.ble vs.length N=true)
    (h:∀ {a},K N (Jfq 0 vs) a→St [] w w []→c.wp P (den P (bodyPost P fn R) []) a w):Calls P f vs.toArray w R:=enter hf hb hn hle λa k=>h k (St.start w)
theorem cg {B:Exit→Act→World→Prop} {s:List Fr} {x y:Code} {a:Act} (R:Act→World→Prop) (hy:∀ a w,R a w→y.wp P (den P B s) a w) (hx:x.wp P (den P B (.fn R::s)) a w):(Code.seq x y).wp P (den P B s) a w:=Jls R hy hx
section
variable {ops:Array Oper} {Q:Exit→Act→World→Prop} {rest:List Oper} {o:Oper} {a:Act} {N d:Nat} {L:List (Nat×Value)}
theorem sL {α:Type} [Enc α] {r:α} (hK:K N L a) (hM:St X w0 w M) {f:FuncId} {xs:List Operand} {vs:List Value} {tys:Array TypeId}
    (hcall:∀ (args:Array Value) (w:World),(callFunc f args).run P w=.ok (.enter f args) w)
    (h1:(gd L ops o.guard,o.dst,Nat.blt d N,o.op,evs L xs)=(some true,some d,true,.call { callee:=.value (.func f),args:=xs.toArray,argTypes:=tys },some vs))
    (hc:Calls P f vs.toArray w λe w'=>∃ (v:Value) (G:List Nat),e=.returned v∧Ext [] w w'∧ow w' G [v] r∧∀ b∈G,w.heap.size≤b)
    (hR:∀ {a} w' v G,ow w' G [v] r→K N ((d,v)::L) a→St X w0 w' ((G,w')::M)→wpList P ops Q rest a w'):wpList P ops Q (o::rest) a w :=
 sC hK hcall h1 hc λe w' ⟨v,G,h2,hE,ho,hf⟩=>⟨v,h2,λ_ k=>hR w' v G ho k (hM.nw hE hf ho)⟩
theorem sU {T:World→Prop} (hK:K N L a) (hM:St X w0 w M) (i:Nat) {f:FuncId} {xs:List Operand} {vs:List Value} {v:Value} {tys:Array TypeId}
    (hcall:∀ (args:Array Value) (w:World),(callFunc f args).run P w=.ok (.enter f args) w)
    (h1:(gd L ops o.guard,o.dst,Nat.blt d N,o.op,evs L xs,M[i]?)=(some true,some d,true,.call { callee:=.value (.func f),args:=xs.toArray,argTypes:=tys },some vs,some (F,u)))
    (hc:Calls P f vs.toArray w λe w'=>e=.returned v∧Ext F w w'∧T w')
    (hR:∀ {a} w',T w'→K N ((d,v)::L) a→St X w0 w' (M.set i (F,w'))→wpList P ops Q rest a w'):wpList P ops Q (o::rest) a w:=by
 simp only [Prod.mk.injEq] at h1
 obtain ⟨a1,a2,a3,a4,a5,a6⟩:=h1
 exact Q8s hK hcall a1 a2 a3 a4 a5 hc λe w' ⟨h2,hE,hT⟩=>⟨_,h2,λ_ k=>hR w' hT k (hM.mu i a6 hE)⟩
end
section
variable {B:Exit→Act→World→Prop} {s:List Fr} {ops:Array Oper} {a:Act} {S:World→Prop} {fuel zz:Nat} {listed:Array Bool} {o o' o'':Oper}
@[reducible] def dR (P:Program) (B:Exit→Act→World→Prop) (s:List Fr) (ops:Array Oper) (S:World→Prop) (fuel:Nat) (listed:Array Bool) (i:Nat):Fr :=
 .fn λa' w'=>S w'∧wpAnyH P .any ops (den P B s) S fuel (listed.setIfInBounds i true) a' w'
@[reducible] def qR (P:Program) (B:Exit→Act→World→Prop) (s:List Fr) (ops:Array Oper) (S:World→Prop) (zz fuel:Nat) (listed:Array Bool) (i:Nat):Fr :=
 .fn λa' w'=>(i≠zz→S w')∧Qxd P ops (den P B s) S zz fuel (listed.setIfInBounds i true) a' w'
theorem dG (i:Nat) (hi:ops[i]? = some o) (h:wpList P ops (den P B (dR P B s ops S fuel listed i::s)) [o] a w) (hr:Region.ready .any ops listed=[i]:=by kernel_rfl):wpAnyH P .any ops (den P B s) S (fuel+1) listed a w:=Jmm i hr hi h
theorem dG2 (i j:Nat) (hr:Region.ready .any ops listed=[i,j]) (hi:ops[i]? = some o) (hj:ops[j]? = some o') (h:wpList P ops (den P B (dR P B s ops S fuel listed i::s)) [o] a w)
    (h':wpList P ops (den P B (dR P B s ops S fuel listed j::s)) [o'] a w):wpAnyH P .any ops (den P B s) S (fuel+1) listed a w:=Jlq i j hr hi hj h h'
theorem dG3 (i j k:Nat) (hr:Region.ready .any ops listed=[i,j,k]) (hi:ops[i]? = some o) (hj:ops[j]? = some o') (hk:ops[k]? = some o'') (h:wpList P ops (den P B (dR P B s ops S fuel listed i::s)) [o] a w)
    (h':wpList P ops (den P B (dR P B s ops S fuel listed j::s)) [o'] a w) (h'':wpList P ops (den P B (dR P B s ops S fuel listed k::s)) [o''] a w):wpAnyH P .any ops (den P B s) S (fuel+1) listed a w:=Jg1 i j k hr hi hj hk h h' h''
theorem qG (i:Nat) (hr:Region.ready .any ops listed=[i]) (hi:ops[i]? = some o) (h:wpList P ops (den P B (qR P B s ops S zz fuel listed i::s)) [o] a w):Qxd P ops (den P B s) S zz (fuel+1) listed a w:=Jno i hr hi h
theorem qG2 (i j:Nat) (hr:Region.ready .any ops listed=[i,j]) (hi:ops[i]? = some o) (hj:ops[j]? = some o') (h:wpList P ops (den P B (qR P B s ops S zz fuel listed i::s)) [o] a w)
    (h':wpList P ops (den P B (qR P B s ops S zz fuel listed j::s)) [o'] a w):Qxd P ops (den P B s) S zz (fuel+1) listed a w:=Jmz i j hr hi hj h h'
theorem qG3 (i j k:Nat) (hr:Region.ready .any ops listed=[i,j,k]) (hi:ops[i]? = some o) (hj:ops[j]? = some o') (hk:ops[k]? = some o'') (h:wpList P ops (den P B (qR P B s ops S zz fuel listed i::s)) [o] a w)
    (h':wpList P ops (den P B (qR P B s ops S zz fuel listed j::s)) [o'] a w) (h'':wpList P ops (den P B (qR P B s ops S zz fuel listed k::s)) [o''] a w):Qxd P ops (den P B s) S zz (fuel+1) listed a w:=Jgg i j k hr hi hj hk h h' h''
end
end
end Go.Proofs.YtndfoffokpdjeaaGreatDoor
