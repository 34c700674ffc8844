/- Shorter words for what the printed walks say often. Own lemmas, over any program. -/
import Derived.Test.YtcboeijpplllfaaGreatS6
set_option linter.unusedSimpArgs false
set_option linter.unusedVariables false
namespace Go.Proofs.YtcboeijpplllfaaGreat
open Go Go.RowKit
open Enc (rd ow)
abbrev I (n:Int):Value:=.int .i64 n
theorem z.{u} {α:Sort u} {a:α}:a = a:=rfl
section
variable {P:Program} {ops:Array Oper} {Q:Exit → Act → World → Prop} {rest:List Oper} {o:Oper} {a:Act} {w:World} {N:Nat} {L:List (Nat × Value)}
variable {X:List Nat} {w0:World} {M:List (List Nat × World)} {d:Nat} {S:World → Prop} {fuel:Nat} {listed:Array Bool} {next:Act → World → Prop} {x y z:Code} {id:Nat} {l:List Oper}
theorem wr (h:wpList P l.toArray (Exit.then (fun a w=>y.wp P Q a w) Q) l a w):(Code.seq (.region id l.toArray false) y).wp P Q a w:=wp_seq (wp_region_lit h)
theorem nn (h:next a w):wpList P ops (Exit.then next Q) [] a w:=wpList_nil (nm_then h)
def chk (L:List (Nat × Value)) (ops:Array Oper) (N:Nat) (b:Bool) (o:Oper):Option Nat:=match o.dst with
 | none=>none
 | some d=>match gd L ops o.guard with
  | none=>none
  | some c=>bif Nat.blt d N then (if c = b then some d else none) else none
theorem chk_some {b:Bool} (h:chk L ops N b o = some d):gd L ops o.guard = some b ∧ o.dst = some d ∧ Nat.blt d N = true:=by
 unfold chk at h
 cases h1:o.dst with
 | none=>rw [h1] at h; cases h
 | some e =>
  rw [h1] at h
  cases h2:gd L ops o.guard with
  | none=>rw [h2] at h; cases h
  | some c =>
   rw [h2] at h
   cases h3:Nat.blt e N
   · simp [h3] at h
   · simp only [h3,cond_true] at h
     split at h
     · rename_i hc
       cases h
       exact ⟨by rw [hc],rfl,h3⟩
     · cases h
def runN (N:Nat) (ops:Array Oper):Nat → List Oper → List (Nat × Value) → Option (List Oper × List (Nat × Value))
 | 0,l,L=>some (l,L)
 | _ + 1,[],_=>none
 | n + 1,o :: r,L=>match o.dst with
  | none=>none
  | some d=>bif Nat.blt d N then (match gd L ops o.guard with
   | none=>none
   | some false=>runN N ops n r ((d,undef) :: L)
   | some true=>match pureOp L o.op with
    | none=>none
    | some v=>runN N ops n r ((d,v) :: L)) else none
theorem pN:∀ (n:Nat) {l:List Oper} {L L':List (Nat × Value)} {a:Act},K N L a → runN N ops n l L = some (rest,L') → (∀ a,K N L' a → wpList P ops Q rest a w) → wpList P ops Q l a w
 | 0,l,L,L',a,hK,h1,h=>by
  simp only [runN,Option.some.injEq,Prod.mk.injEq] at h1
  obtain ⟨rfl,rfl⟩:=h1
  exact h a hK
 | n + 1,[],L,L',a,hK,h1,h=>by simp [runN] at h1
 | n + 1,o :: r,L,L',a,hK,h1,h=>by
  unfold runN at h1
  cases hd:o.dst with
  | none=>simp [hd] at h1
  | some d =>
   simp only [hd] at h1
   cases hN:Nat.blt d N
   · simp [hN] at h1
   · simp only [hN,cond_true] at h1
     cases hg:gd L ops o.guard with
     | none=>simp [hg] at h1
     | some c =>
      simp only [hg] at h1
      cases c
      · exact sk hK hg hd hN fun a hK=>pN n hK h1 h
      · simp only at h1
        cases hp:pureOp L o.op with
        | none=>simp [hp] at h1
        | some v =>
         simp only [hp] at h1
         exact s1 hK hg hd hN hp fun a hK=>pN n hK h1 h
theorem sv (hK:K N L a) {v:Value} {w':World} (hc:chk L ops N true o = some d) (hr:(execOp a.eval o).run P w = .ok (.value v) w') (h:∀ a,K N ((d,v) :: L) a → wpList P ops Q rest a w'):wpList P ops Q (o :: rest) a w :=
 s_val hK (chk_some hc).1 (chk_some hc).2.1 (chk_some hc).2.2 hr h
theorem cE (hK:K N L a) (hM:St X w0 w M) {f:FuncId} {xs:List Operand} {vs:List Value} {v:Value} {tys:Array TypeId}
    (hcall:∀ (args:Array Value) (w:World),(callFunc f args).run P w = .ok (.enter f args) w) (hd:chk L ops N true o = some d)
    (ho:o.op = .call { callee:=.value (.func f),args:=xs.toArray,argTypes:=tys }) (hv:evs L xs = some vs)
    (hc:Calls P f vs.toArray w fun e w'=>e = .returned v ∧ Ext [] w w') (hR:∀ w',Ext [] w w' → ∀ a,K N ((d,v) :: L) a → St X w0 w' M → wpList P ops Q rest a w'):wpList P ops Q (o :: rest) a w :=
 s_call hK hcall (chk_some hd).1 (chk_some hd).2.1 (chk_some hd).2.2 ho hv hc fun e w' hR'=>by
  obtain ⟨rfl,hE⟩:=hR'
  exact ⟨_,rfl,fun a hK=>hR w' hE a hK (hM.step hE)⟩
def okD (ops:Array Oper) (listed:Array Bool) (i:Nat):Bool:=Region.noSelect ops && (Region.free .any ops listed i && (Region.ready .any ops listed).contains i)
theorem okD_iff {i:Nat} (h:okD ops listed i = true):Region.noSelect ops = true ∧ Region.free .any ops listed i = true ∧ (Region.ready .any ops listed).contains i = true:=by
 simpa [okD] using h
theorem dt (hK:K N L a) (i:Nat) {v:Value} (hi:ops[i]? = some o) (ho:okD ops listed i = true) (hc:chk L ops N true o = some d) (hS:S w) (hQ:∀ c a w,Q (.panic c) (a.put o.dst v) w → Q (.panic c) a w)
    (hy:∀ w,S w → (execOp a.eval o).run P w = .ok (.value v) w) (h:∀ a,K N ((d,v) :: L) a → wpAnyH P .any ops Q S fuel (listed.setIfInBounds i true) a w):wpAnyH P .any ops Q S (fuel + 1) listed a w :=
 d_take hK i hi (okD_iff ho).1 (okD_iff ho).2.1 (okD_iff ho).2.2 (chk_some hc).1 (chk_some hc).2.1 (chk_some hc).2.2 hS hQ hy h
theorem ds (hK:K N L a) (i:Nat) (hi:ops[i]? = some o) (ho:okD ops listed i = true) (hc:chk L ops N false o = some d) (hS:S w) (hQ:∀ c a w,Q (.panic c) (a.put o.dst undef) w → Q (.panic c) a w)
    (h:∀ a,K N ((d,undef) :: L) a → wpAnyH P .any ops Q S fuel (listed.setIfInBounds i true) a w):wpAnyH P .any ops Q S (fuel + 1) listed a w :=
 d_skip hK i hi (okD_iff ho).1 (okD_iff ho).2.1 (okD_iff ho).2.2 (chk_some hc).1 (chk_some hc).2.1 (chk_some hc).2.2 hS hQ h
def okN (ops:Array Oper):Array Bool → List Nat → Bool
 | _,[]=>true
 | l,i :: is=>okD ops l i && okN ops (l.setIfInBounds i true) is
def setN:Array Bool → List Nat → Array Bool
 | l,[]=>l
 | l,i :: is=>setN (l.setIfInBounds i true) is
def runV (N:Nat) (ops:Array Oper):List Nat → List (Nat × Value) → Option (List (Nat × Value))
 | [],L=>some L
 | i :: is,L=>match ops[i]? with
  | none=>none
  | some o=>match o.dst with
   | none=>none
   | some d=>bif Nat.blt d N then (match gd L ops o.guard with
    | none=>none
    | some false=>runV N ops is ((d,undef) :: L)
    | some true=>match pureOp L o.op with
     | none=>none
     | some v=>runV N ops is ((d,v) :: L)) else none
theorem dN:∀ (is:List Nat) (n:Nat) {listed:Array Bool} {L L':List (Nat × Value)} {a:Act},is.length = n → K N L a → okN ops listed is = true → runV N ops is L = some L' → S w →
    (∀ c (a:Act) d v w,Q (.panic c) (a.put (some d) v) w → Q (.panic c) a w) → (∀ a,K N L' a → wpAnyH P .any ops Q S fuel (setN listed is) a w) → wpAnyH P .any ops Q S (fuel + n) listed a w
 | [],n,listed,L,L',a,hn,hK,ho,hv,hS,hQ,h=>by
  subst hn
  simp only [runV,Option.some.injEq] at hv
  subst hv
  exact h a hK
 | i :: is,n,listed,L,L',a,hn,hK,ho,hv,hS,hQ,h=>by
  subst hn
  simp only [okN,Bool.and_eq_true] at ho
  unfold runV at hv
  cases hi:ops[i]? with
  | none=>simp [hi] at hv
  | some o =>
   simp only [hi] at hv
   cases hd:o.dst with
   | none=>simp [hd] at hv
   | some d =>
    simp only [hd] at hv
    cases hN:Nat.blt d N
    · simp [hN] at hv
    · simp only [hN,cond_true] at hv
      cases hg:gd L ops o.guard with
      | none=>simp [hg] at hv
      | some c =>
       simp only [hg] at hv
       cases c
       · exact d_skip hK i hi (okD_iff ho.1).1 (okD_iff ho.1).2.1 (okD_iff ho.1).2.2 hg hd hN hS (fun c a w=>by rw [hd]; exact hQ c a d _ w) fun a hK=>dN is _ rfl hK ho.2 hv hS hQ h
       · simp only at hv
         cases hp:pureOp L o.op with
         | none=>simp [hp] at hv
         | some v =>
          simp only [hp] at hv
          exact d_pure hK i hi (okD_iff ho.1).1 (okD_iff ho.1).2.1 (okD_iff ho.1).2.2 hg hd hN hS (fun c a w=>by rw [hd]; exact hQ c a d _ w) hp fun a hK=>dN is _ rfl hK ho.2 hv hS hQ h
theorem cI {α:Type} {b:Bool} {p q r:α} {t:Operand} (h:(bif b then p else q) = r) (hK:K N L a) (hc:ev L t = some (.bool b)) (ht:b = true → p = r → x.wp P Q a w) (hf:b = false → q = r → y.wp P Q a w) :
    (Code.cond t x y).wp P Q a w:=c_cond hK hc (fun hb=>ht hb (bif_t hb h)) (fun hb=>hf hb (bif_f hb h))
theorem K.rb (hK:K N L a) (d:Nat) {b c:Bool} (hl:lk L d = some (.bool b)) (e:b = c):K N ((d,.bool c) :: L) a:=hK.re hl (congrArg Value.bool e)
theorem rB (hK:K N L a) (d:Nat) {b c:Bool} {p:Prop} (hl:lk L d = some (.bool b)) (e:b = c) (h:K N ((d,.bool c) :: L) a → p):p:=h (hK.rb d hl e)
theorem oE {α β:Type} {m:Option α} {k:α → Option β} {r:β} {p:Prop} (h:obind m k = some r) (hp:∀ x,m = some x → k x = some r → p):p:=by
 obtain ⟨x,h1,h2⟩:=obind_some h
 exact hp x h1 h2
theorem nS {α:Type} {r:α} {p:Prop} (h:(none:Option α) = some r):p:=by cases h
end
theorem fx {P:Program} {fn:Func} {a:Act} {w w0:World} {N:Nat} {L:List (Nat × Value)} {X:List Nat} {M:List (List Nat × World)} {t:Nat} {v:Value} (hK:K N L a) (hM:St X w0 w M) (hr:fn.results = #[.tmp t]) (hl:lk L t = some v) :
    bodyPost P fn (fun e w=>e = .returned v ∧ Ext X w0 w) .ret a w:=finR1 hK hr (RV.tmp hK hl) ⟨rfl,hM.ext⟩
theorem fS {P:Program} {fn:Func} {a:Act} {w w0:World} {N:Nat} {L:List (Nat × Value)} {X:List Nat} {M:List (List Nat × World)} {t:Nat} {α:Type} {f:α → Value} {u r:α} (h:some u = some r) (hK:K N L a) (hM:St X w0 w M) (hr:fn.results = #[.tmp t]) (hl:lk L t = some (f u)) :
    bodyPost P fn (fun e w=>e = .returned (f r) ∧ Ext X w0 w) .ret a w:=by
 cases h
 exact fx hK hM hr hl
end Go.Proofs.YtcboeijpplllfaaGreat
