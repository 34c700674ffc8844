/- own lemmas -/
import Derived.Test.YthkaklkinepfkaaGreatDoorS4
import Derived.WalkKit
import Derived.ProofKit
import Derived.OpenShut
import Derived.Below
import Derived.ChangeSame
import Derived.ChangeMaps5
import Derived.Sort.Grow
import Derived.Laws.StructEq
import Derived.ChangeKeysEq
import Derived.Laws.CopyRow
import Derived.Laws.IdiomCopy
set_option linter.unusedSimpArgs false
set_option linter.unusedVariables false
namespace Go.Proofs.YthkaklkinepfkaaGreatDoor
open Go Go.RowKit
open Enc (rd ow)
abbrev I (n:Int):Value:=.int .i64 n
theorem z.{u} {α:Sort u} {a:α}:a = a:=rfl
theorem fillc {place:Nat → Option (Nat × Nat)} {cells c:Array Value} {i off:Nat} {v:Value} {rest:List (Nat × Value)} (hp:place i = some (off,1)) (hc:v.cells = #[v]) (hl:Nat.blt off cells.size = true)
    (h:Instr.fill place (cells.setIfInBounds off v) rest = some c):Instr.fill place cells ((i,v) :: rest) = some c:=by
 have hl':off < cells.size:=by simpa using hl
 unfold Instr.fill
 simp only [hp,hc]
 rw [if_neg (by simp; omega)]
 simpa using h
section
variable {P:Program} {ops:Array Oper} {Q:Exit → Act → World → Prop} {rest:List Oper} {o:Oper} {a:Act} {w:World} {N:Nat} {L:List (Nat × Value)}
variable {X:List Nat} {w0:World} {M:List (List Nat × World)} {d:Nat} {S:World → Prop} {fuel:Nat} {listed:Array Bool} {next:Act → World → Prop} {x y z:Code} {id:Nat} {l:List Oper}
theorem wr (h:wpList P l.toArray (Exit.then (fun a w=>y.wp P Q a w) Q) l a w):(Code.seq (.region id l.toArray false) y).wp P Q a w:=wp_seq (wp_region_lit h)
theorem nn (h:next a w):wpList P ops (Exit.then next Q) [] a w:=wpList_nil (nm_then h)
def chk (L:List (Nat × Value)) (ops:Array Oper) (N:Nat) (b:Bool) (o:Oper):Option Nat:=match o.dst with
 | none=>none
 | some d=>match gd L ops o.guard with
  | none=>none
  | some c=>bif Nat.blt d N then (if c = b then some d else none) else none
theorem chk_some {b:Bool} (h:chk L ops N b o = some d):gd L ops o.guard = some b ∧ o.dst = some d ∧ Nat.blt d N = true:=by
 unfold chk at h
 cases h1:o.dst with
 | none=>rw [h1] at h; cases h
 | some e =>
  rw [h1] at h
  cases h2:gd L ops o.guard with
  | none=>rw [h2] at h; cases h
  | some c =>
   rw [h2] at h
   cases h3:Nat.blt e N
   · simp [h3] at h
   · simp only [h3,cond_true] at h
     split at h
     · rename_i hc
       cases h
       exact ⟨by rw [hc],rfl,h3⟩
     · cases h
def runN (N:Nat) (ops:Array Oper):Nat → List Oper → List (Nat × Value) → Option (List Oper × List (Nat × Value))
 | 0,l,L=>some (l,L)
 | _ + 1,[],_=>none
 | n + 1,o :: r,L=>match o.dst with
  | none=>none
  | some d=>bif Nat.blt d N then (match gd L ops o.guard with
   | none=>none
   | some false=>runN N ops n r ((d,undef) :: L)
   | some true=>match pureOp L o.op with
    | none=>none
    | some v=>runN N ops n r ((d,v) :: L)) else none
theorem pN:∀ (n:Nat) {l:List Oper} {L L':List (Nat × Value)} {a:Act},K N L a → runN N ops n l L = some (rest,L') → (∀ a,K N L' a → wpList P ops Q rest a w) → wpList P ops Q l a w
 | 0,l,L,L',a,hK,h1,h=>by
  simp only [runN,Option.some.injEq,Prod.mk.injEq] at h1
  obtain ⟨rfl,rfl⟩:=h1
  exact h a hK
 | n + 1,[],L,L',a,hK,h1,h=>by simp [runN] at h1
 | n + 1,o :: r,L,L',a,hK,h1,h=>by
  unfold runN at h1
  cases hd:o.dst with
  | none=>simp [hd] at h1
  | some d =>
   simp only [hd] at h1
   cases hN:Nat.blt d N
   · simp [hN] at h1
   · simp only [hN,cond_true] at h1
     cases hg:gd L ops o.guard with
     | none=>simp [hg] at h1
     | some c =>
      simp only [hg] at h1
      cases c
      · exact sk hK hg hd hN fun a hK=>pN n hK h1 h
      · simp only at h1
        cases hp:pureOp L o.op with
        | none=>simp [hp] at h1
        | some v =>
         simp only [hp] at h1
         exact s1 hK hg hd hN hp fun a hK=>pN n hK h1 h
theorem sv (hK:K N L a) {v:Value} {w':World} (hc:chk L ops N true o = some d) (hr:(execOp a.eval o).run P w = .ok (.value v) w') (h:∀ a,K N ((d,v) :: L) a → wpList P ops Q rest a w'):wpList P ops Q (o :: rest) a w :=
 s_val hK (chk_some hc).1 (chk_some hc).2.1 (chk_some hc).2.2 hr h
theorem cE (hK:K N L a) (hM:St X w0 w M) {f:FuncId} {xs:List Operand} {vs:List Value} {v:Value} {tys:Array TypeId}
    (hcall:∀ (args:Array Value) (w:World),(callFunc f args).run P w = .ok (.enter f args) w) (hd:chk L ops N true o = some d)
    (ho:o.op = .call { callee:=.value (.func f),args:=xs.toArray,argTypes:=tys }) (hv:evs L xs = some vs)
    (hc:Calls P f vs.toArray w fun e w'=>e = .returned v ∧ Ext [] w w') (hR:∀ w',Ext [] w w' → ∀ a,K N ((d,v) :: L) a → St X w0 w' M → wpList P ops Q rest a w'):wpList P ops Q (o :: rest) a w :=
 s_call hK hcall (chk_some hd).1 (chk_some hd).2.1 (chk_some hd).2.2 ho hv hc fun e w' hR'=>by
  obtain ⟨rfl,hE⟩:=hR'
  exact ⟨_,rfl,fun a hK=>hR w' hE a hK (hM.step hE)⟩
def okD (ops:Array Oper) (listed:Array Bool) (i:Nat):Bool:=Region.noSelect ops && (Region.free .any ops listed i && (Region.ready .any ops listed).contains i)
theorem okD_iff {i:Nat} (h:okD ops listed i = true):Region.noSelect ops = true ∧ Region.free .any ops listed i = true ∧ (Region.ready .any ops listed).contains i = true:=by
 simpa [okD] using h
theorem dt (hK:K N L a) (i:Nat) {v:Value} (hi:ops[i]? = some o) (ho:okD ops listed i = true) (hc:chk L ops N true o = some d) (hS:S w) (hQ:∀ c a w,Q (.panic c) (a.put o.dst v) w → Q (.panic c) a w)
    (hy:∀ w,S w → (execOp a.eval o).run P w = .ok (.value v) w) (h:∀ a,K N ((d,v) :: L) a → wpAnyH P .any ops Q S fuel (listed.setIfInBounds i true) a w):wpAnyH P .any ops Q S (fuel + 1) listed a w :=
 d_take hK i hi (okD_iff ho).1 (okD_iff ho).2.1 (okD_iff ho).2.2 (chk_some hc).1 (chk_some hc).2.1 (chk_some hc).2.2 hS hQ hy h
theorem ds (hK:K N L a) (i:Nat) (hi:ops[i]? = some o) (ho:okD ops listed i = true) (hc:chk L ops N false o = some d) (hS:S w) (hQ:∀ c a w,Q (.panic c) (a.put o.dst undef) w → Q (.panic c) a w)
    (h:∀ a,K N ((d,undef) :: L) a → wpAnyH P .any ops Q S fuel (listed.setIfInBounds i true) a w):wpAnyH P .any ops Q S (fuel + 1) listed a w :=
 d_skip hK i hi (okD_iff ho).1 (okD_iff ho).2.1 (okD_iff ho).2.2 (chk_some hc).1 (chk_some hc).2.1 (chk_some hc).2.2 hS hQ h
def okN (ops:Array Oper):Array Bool → List Nat → Bool
 | _,[]=>true
 | l,i :: is=>okD ops l i && okN ops (l.setIfInBounds i true) is
def setN:Array Bool → List Nat → Array Bool
 | l,[]=>l
 | l,i :: is=>setN (l.setIfInBounds i true) is
def runV (N:Nat) (ops:Array Oper):List Nat → List (Nat × Value) → Option (List (Nat × Value))
 | [],L=>some L
 | i :: is,L=>match ops[i]? with
  | none=>none
  | some o=>match o.dst with
   | none=>none
   | some d=>bif Nat.blt d N then (match gd L ops o.guard with
    | none=>none
    | some false=>runV N ops is ((d,undef) :: L)
    | some true=>match pureOp L o.op with
     | none=>none
     | some v=>runV N ops is ((d,v) :: L)) else none
theorem dN:∀ (is:List Nat) (n:Nat) {listed:Array Bool} {L L':List (Nat × Value)} {a:Act},is.length = n → K N L a → okN ops listed is = true → runV N ops is L = some L' → S w →
    (∀ c (a:Act) d v w,Q (.panic c) (a.put (some d) v) w → Q (.panic c) a w) → (∀ a,K N L' a → wpAnyH P .any ops Q S fuel (setN listed is) a w) → wpAnyH P .any ops Q S (fuel + n) listed a w
 | [],n,listed,L,L',a,hn,hK,ho,hv,hS,hQ,h=>by
  subst hn
  simp only [runV,Option.some.injEq] at hv
  subst hv
  exact h a hK
 | i :: is,n,listed,L,L',a,hn,hK,ho,hv,hS,hQ,h=>by
  subst hn
  simp only [okN,Bool.and_eq_true] at ho
  unfold runV at hv
  cases hi:ops[i]? with
  | none=>simp [hi] at hv
  | some o =>
   simp only [hi] at hv
   cases hd:o.dst with
   | none=>simp [hd] at hv
   | some d =>
    simp only [hd] at hv
    cases hN:Nat.blt d N
    · simp [hN] at hv
    · simp only [hN,cond_true] at hv
      cases hg:gd L ops o.guard with
      | none=>simp [hg] at hv
      | some c =>
       simp only [hg] at hv
       cases c
       · exact d_skip hK i hi (okD_iff ho.1).1 (okD_iff ho.1).2.1 (okD_iff ho.1).2.2 hg hd hN hS (fun c a w=>by rw [hd]; exact hQ c a d _ w) fun a hK=>dN is _ rfl hK ho.2 hv hS hQ h
       · simp only at hv
         cases hp:pureOp L o.op with
         | none=>simp [hp] at hv
         | some v =>
          simp only [hp] at hv
          exact d_pure hK i hi (okD_iff ho.1).1 (okD_iff ho.1).2.1 (okD_iff ho.1).2.2 hg hd hN hS (fun c a w=>by rw [hd]; exact hQ c a d _ w) hp fun a hK=>dN is _ rfl hK ho.2 hv hS hQ h
theorem cI {α:Type} {b:Bool} {p q r:α} {t:Operand} (h:(bif b then p else q) = r) (hK:K N L a) (hc:ev L t = some (.bool b)) (ht:b = true → p = r → x.wp P Q a w) (hf:b = false → q = r → y.wp P Q a w) :
    (Code.cond t x y).wp P Q a w:=c_cond hK hc (fun hb=>ht hb (bif_t hb h)) (fun hb=>hf hb (bif_f hb h))
theorem K.rb (hK:K N L a) (d:Nat) {b c:Bool} (hl:lk L d = some (.bool b)) (e:b = c):K N ((d,.bool c) :: L) a:=hK.re hl (congrArg Value.bool e)
theorem rB (hK:K N L a) (d:Nat) {b c:Bool} {p:Prop} (hl:lk L d = some (.bool b)) (e:b = c) (h:K N ((d,.bool c) :: L) a → p):p:=h (hK.rb d hl e)
theorem oE {α β:Type} {m:Option α} {k:α → Option β} {r:β} {p:Prop} (h:obind m k = some r) (hp:∀ x,m = some x → k x = some r → p):p:=by
 obtain ⟨x,h1,h2⟩:=obind_some h
 exact hp x h1 h2
theorem nS {α:Type} {r:α} {p:Prop} (h:(none:Option α) = some r):p:=by cases h
end
theorem fx {P:Program} {fn:Func} {a:Act} {w w0:World} {N:Nat} {L:List (Nat × Value)} {X:List Nat} {M:List (List Nat × World)} {t:Nat} {v:Value} (hK:K N L a) (hM:St X w0 w M) (hr:fn.results = #[.tmp t]) (hl:lk L t = some v) :
    bodyPost P fn (fun e w=>e = .returned v ∧ Ext X w0 w) .ret a w:=finR1 hK hr (RV.tmp hK hl) ⟨rfl,hM.ext⟩
theorem fS {P:Program} {fn:Func} {a:Act} {w w0:World} {N:Nat} {L:List (Nat × Value)} {X:List Nat} {M:List (List Nat × World)} {t:Nat} {α:Type} {f:α → Value} {u r:α} (h:some u = some r) (hK:K N L a) (hM:St X w0 w M) (hr:fn.results = #[.tmp t]) (hl:lk L t = some (f u)) :
    bodyPost P fn (fun e w=>e = .returned (f r) ∧ Ext X w0 w) .ret a w:=by
 cases h
 exact fx hK hM hr hl
end Go.Proofs.YthkaklkinepfkaaGreatDoor
set_option linter.unusedSimpArgs false
set_option linter.unusedVariables false
namespace Go.Proofs.YthkaklkinepfkaaGreatDoor
open Go Go.RowKit
open Enc (rd ow)
open Arg (argv)
open Ret (retv)
structure Pallet where
 fW:Int
 fD:Int
 fH:Int
 fGram:Int
 deriving DecidableEq
instance:Flat Pallet:=⟨4,fun x=>[.int .i64 (x.fW),.int .i64 (x.fD),.int .i64 (x.fH),.int .i64 (x.fGram)],fun _=>rfl,fun x=>by intro c hc; simp only [List.mem_cons,List.not_mem_nil,or_false] at hc; rcases hc with rfl | rfl | rfl | rfl <;> rfl⟩
instance:Arg Pallet:=⟨fun _ v x=>v = .agg (Flat.e x).toArray⟩
instance:Ret Pallet:=⟨fun x=>.agg (Flat.e x).toArray⟩
structure Pair where
 fA:Int
 fB:Int
 deriving DecidableEq
instance:Flat Pair:=⟨2,fun x=>[.int .i64 (x.fA),.int .i64 (x.fB)],fun _=>rfl,fun x=>by intro c hc; simp only [List.mem_cons,List.not_mem_nil,or_false] at hc; rcases hc with rfl | rfl <;> rfl⟩
instance:Arg Pair:=⟨fun _ v x=>v = .agg (Flat.e x).toArray⟩
instance:Ret Pair:=⟨fun x=>.agg (Flat.e x).toArray⟩
structure Typ where
 fId:Int
 fW:Int
 fH:Int
 fD:Int
 fTare:Int
 fGram:Int
 fCost:Int
 deriving DecidableEq
instance:Flat Typ:=⟨7,fun x=>[.int .i64 (x.fId),.int .i64 (x.fW),.int .i64 (x.fH),.int .i64 (x.fD),.int .i64 (x.fTare),.int .i64 (x.fGram),.int .i64 (x.fCost)],fun _=>rfl,fun x=>by intro c hc; simp only [List.mem_cons,List.not_mem_nil,or_false] at hc; rcases hc with rfl | rfl | rfl | rfl | rfl | rfl | rfl <;> rfl⟩
instance:Arg Typ:=⟨fun _ v x=>v = .agg (Flat.e x).toArray⟩
instance:Ret Typ:=⟨fun x=>.agg (Flat.e x).toArray⟩
structure Item where
 fId:Int
 fW:Int
 fH:Int
 fD:Int
 fGram:Int
 fClass:Int
 fCount:Int
 deriving DecidableEq
instance:Flat Item:=⟨7,fun x=>[.int .i64 (x.fId),.int .i64 (x.fW),.int .i64 (x.fH),.int .i64 (x.fD),.int .i64 (x.fGram),.int .i64 (x.fClass),.int .i64 (x.fCount)],fun _=>rfl,fun x=>by intro c hc; simp only [List.mem_cons,List.not_mem_nil,or_false] at hc; rcases hc with rfl | rfl | rfl | rfl | rfl | rfl | rfl <;> rfl⟩
instance:Arg Item:=⟨fun _ v x=>v = .agg (Flat.e x).toArray⟩
instance:Ret Item:=⟨fun x=>.agg (Flat.e x).toArray⟩
structure Request where
 fWay:Int
 fPallet:Pallet
 fClasses:Int
 fPairs:List Pair
 fTypes:List Typ
 fMaster:Int
 fItems:List Item
instance:Enc Request where
 sz:=10
 rd:=fun w F cs x=>∃ (c0:Value) (F0:List Nat) (c1:Value) (F1:List Nat) (c2:Value) (F2:List Nat),cs = [.int .i64 (x.fWay),.int .i64 (x.fPallet.fW),.int .i64 (x.fPallet.fD),.int .i64 (x.fPallet.fH),.int .i64 (x.fPallet.fGram),.int .i64 (x.fClasses),c0,c1,.int .i64 (x.fMaster),c2] ∧ F = F0 ++ (F1 ++ (F2)) ∧ rd w F0 [c0] x.fPairs ∧ rd w F1 [c1] x.fTypes ∧ rd w F2 [c2] x.fItems
 ow:=fun w F cs x=>∃ (c0:Value) (F0:List Nat) (c1:Value) (F1:List Nat) (c2:Value) (F2:List Nat),cs = [.int .i64 (x.fWay),.int .i64 (x.fPallet.fW),.int .i64 (x.fPallet.fD),.int .i64 (x.fPallet.fH),.int .i64 (x.fPallet.fGram),.int .i64 (x.fClasses),c0,c1,.int .i64 (x.fMaster),c2] ∧ F = F0 ++ (F1 ++ (F2)) ∧ ow w F0 [c0] x.fPairs ∧ ow w F1 [c1] x.fTypes ∧ ow w F2 [c2] x.fItems ∧ F.Nodup
 rd_sz:=fun h=>by obtain ⟨c0,F0,c1,F1,c2,F2,rfl,rfl,h0,h1,h2⟩:=h; rfl
 rd_one:=fun h=>by
  obtain ⟨c0,F0,c1,F1,c2,F2,rfl,rfl,h0,h1,h2⟩:=h
  intro c hc
  simp only [List.mem_cons,List.not_mem_nil,or_false] at hc
  rcases hc with rfl | rfl | rfl | rfl | rfl | rfl | rfl | rfl | rfl | rfl <;> first | rfl | exact Enc.rd_one h0 _ (List.mem_singleton.2 rfl) | exact Enc.rd_one h1 _ (List.mem_singleton.2 rfl) | exact Enc.rd_one h2 _ (List.mem_singleton.2 rfl)
 ow_rd:=fun h=>by obtain ⟨c0,F0,c1,F1,c2,F2,rfl,rfl,h0,h1,h2,_⟩:=h; exact ⟨c0,_,c1,_,c2,_,rfl,rfl,Enc.ow_rd h0,Enc.ow_rd h1,Enc.ow_rd h2⟩
 rd_lt:=fun h=>by
  obtain ⟨c0,F0,c1,F1,c2,F2,rfl,rfl,h0,h1,h2⟩:=h
  intro b hb
  simp only [List.mem_append] at hb
  rcases hb with hb | hb | hb
  · exact Enc.rd_lt h0 b hb
  · exact Enc.rd_lt h1 b hb
  · exact Enc.rd_lt h2 b hb
 rd_agr:=fun h hA=>by obtain ⟨c0,F0,c1,F1,c2,F2,rfl,rfl,h0,h1,h2⟩:=h; exact ⟨c0,_,c1,_,c2,_,rfl,rfl,Enc.rd_agr h0 (hA.sub (fun b hb=>List.mem_append_left _ hb)),Enc.rd_agr h1 (hA.sub (fun b hb=>List.mem_append_right _ (List.mem_append_left _ hb))),Enc.rd_agr h2 (hA.sub (fun b hb=>List.mem_append_right _ (List.mem_append_right _ (hb))))⟩
 ow_agr:=fun h hA=>by obtain ⟨c0,F0,c1,F1,c2,F2,rfl,rfl,h0,h1,h2,hn⟩:=h; exact ⟨c0,_,c1,_,c2,_,rfl,rfl,Enc.ow_agr h0 (hA.sub (fun b hb=>List.mem_append_left _ hb)),Enc.ow_agr h1 (hA.sub (fun b hb=>List.mem_append_right _ (List.mem_append_left _ hb))),Enc.ow_agr h2 (hA.sub (fun b hb=>List.mem_append_right _ (List.mem_append_right _ (hb)))),hn⟩
 ow_nd:=fun h=>by obtain ⟨c0,F0,c1,F1,c2,F2,_,_,_,_,_,hn⟩:=h; exact hn
instance:Arg Request:=⟨fun w v x=>∃ cs F,v = .agg cs.toArray ∧ rd w F cs x⟩
structure Carton where
 fType:Int
 fGroup:Int
 fUnits:List Int
instance:Enc Carton where
 sz:=3
 rd:=fun w F cs x=>∃ (c0:Value) (F0:List Nat),cs = [.int .i64 (x.fType),.int .i64 (x.fGroup),c0] ∧ F = F0 ∧ rd w F0 [c0] x.fUnits
 ow:=fun w F cs x=>∃ (c0:Value) (F0:List Nat),cs = [.int .i64 (x.fType),.int .i64 (x.fGroup),c0] ∧ F = F0 ∧ ow w F0 [c0] x.fUnits ∧ F.Nodup
 rd_sz:=fun h=>by obtain ⟨c0,F0,rfl,rfl,h0⟩:=h; rfl
 rd_one:=fun h=>by
  obtain ⟨c0,F0,rfl,rfl,h0⟩:=h
  intro c hc
  simp only [List.mem_cons,List.not_mem_nil,or_false] at hc
  rcases hc with rfl | rfl | rfl <;> first | rfl | exact Enc.rd_one h0 _ (List.mem_singleton.2 rfl)
 ow_rd:=fun h=>by obtain ⟨c0,F0,rfl,rfl,h0,_⟩:=h; exact ⟨c0,_,rfl,rfl,Enc.ow_rd h0⟩
 rd_lt:=fun h=>by
  obtain ⟨c0,F0,rfl,rfl,h0⟩:=h
  intro b hb
  exact Enc.rd_lt h0 b hb
 rd_agr:=fun h hA=>by obtain ⟨c0,F0,rfl,rfl,h0⟩:=h; exact ⟨c0,_,rfl,rfl,Enc.rd_agr h0 hA⟩
 ow_agr:=fun h hA=>by obtain ⟨c0,F0,rfl,rfl,h0,hn⟩:=h; exact ⟨c0,_,rfl,rfl,Enc.ow_agr h0 hA,hn⟩
 ow_nd:=fun h=>by obtain ⟨c0,F0,_,_,_,hn⟩:=h; exact hn
instance:Arg Carton:=⟨fun w v x=>∃ cs F,v = .agg cs.toArray ∧ rd w F cs x⟩
structure Spot where
 fPallet:Int
 fX:Int
 fY:Int
 fZ:Int
 deriving DecidableEq
instance:Flat Spot:=⟨4,fun x=>[.int .i64 (x.fPallet),.int .i64 (x.fX),.int .i64 (x.fY),.int .i64 (x.fZ)],fun _=>rfl,fun x=>by intro c hc; simp only [List.mem_cons,List.not_mem_nil,or_false] at hc; rcases hc with rfl | rfl | rfl | rfl <;> rfl⟩
instance:Arg Spot:=⟨fun _ v x=>v = .agg (Flat.e x).toArray⟩
instance:Ret Spot:=⟨fun x=>.agg (Flat.e x).toArray⟩
structure Plan where
 fCartons:List Carton
 fSpots:List Spot
instance:Enc Plan where
 sz:=2
 rd:=fun w F cs x=>∃ (c0:Value) (F0:List Nat) (c1:Value) (F1:List Nat),cs = [c0,c1] ∧ F = F0 ++ (F1) ∧ rd w F0 [c0] x.fCartons ∧ rd w F1 [c1] x.fSpots
 ow:=fun w F cs x=>∃ (c0:Value) (F0:List Nat) (c1:Value) (F1:List Nat),cs = [c0,c1] ∧ F = F0 ++ (F1) ∧ ow w F0 [c0] x.fCartons ∧ ow w F1 [c1] x.fSpots ∧ F.Nodup
 rd_sz:=fun h=>by obtain ⟨c0,F0,c1,F1,rfl,rfl,h0,h1⟩:=h; rfl
 rd_one:=fun h=>by
  obtain ⟨c0,F0,c1,F1,rfl,rfl,h0,h1⟩:=h
  intro c hc
  simp only [List.mem_cons,List.not_mem_nil,or_false] at hc
  rcases hc with rfl | rfl <;> first | rfl | exact Enc.rd_one h0 _ (List.mem_singleton.2 rfl) | exact Enc.rd_one h1 _ (List.mem_singleton.2 rfl)
 ow_rd:=fun h=>by obtain ⟨c0,F0,c1,F1,rfl,rfl,h0,h1,_⟩:=h; exact ⟨c0,_,c1,_,rfl,rfl,Enc.ow_rd h0,Enc.ow_rd h1⟩
 rd_lt:=fun h=>by
  obtain ⟨c0,F0,c1,F1,rfl,rfl,h0,h1⟩:=h
  intro b hb
  simp only [List.mem_append] at hb
  rcases hb with hb | hb
  · exact Enc.rd_lt h0 b hb
  · exact Enc.rd_lt h1 b hb
 rd_agr:=fun h hA=>by obtain ⟨c0,F0,c1,F1,rfl,rfl,h0,h1⟩:=h; exact ⟨c0,_,c1,_,rfl,rfl,Enc.rd_agr h0 (hA.sub (fun b hb=>List.mem_append_left _ hb)),Enc.rd_agr h1 (hA.sub (fun b hb=>List.mem_append_right _ (hb)))⟩
 ow_agr:=fun h hA=>by obtain ⟨c0,F0,c1,F1,rfl,rfl,h0,h1,hn⟩:=h; exact ⟨c0,_,c1,_,rfl,rfl,Enc.ow_agr h0 (hA.sub (fun b hb=>List.mem_append_left _ hb)),Enc.ow_agr h1 (hA.sub (fun b hb=>List.mem_append_right _ (hb))),hn⟩
 ow_nd:=fun h=>by obtain ⟨c0,F0,c1,F1,_,_,_,_,hn⟩:=h; exact hn
instance:Arg Plan:=⟨fun w v x=>∃ cs F,v = .agg cs.toArray ∧ rd w F cs x⟩
structure Box where
 fW:Int
 fD:Int
 fH:Int
 fGram:Int
 deriving DecidableEq
instance:Flat Box:=⟨4,fun x=>[.int .i64 (x.fW),.int .i64 (x.fD),.int .i64 (x.fH),.int .i64 (x.fGram)],fun _=>rfl,fun x=>by intro c hc; simp only [List.mem_cons,List.not_mem_nil,or_false] at hc; rcases hc with rfl | rfl | rfl | rfl <;> rfl⟩
instance:Arg Box:=⟨fun _ v x=>v = .agg (Flat.e x).toArray⟩
instance:Ret Box:=⟨fun x=>.agg (Flat.e x).toArray⟩
structure Load where
 fLayers:List Int
 fH:Int
 fGram:Int
instance:Enc Load where
 sz:=3
 rd:=fun w F cs x=>∃ (c0:Value) (F0:List Nat),cs = [c0,.int .i64 (x.fH),.int .i64 (x.fGram)] ∧ F = F0 ∧ rd w F0 [c0] x.fLayers
 ow:=fun w F cs x=>∃ (c0:Value) (F0:List Nat),cs = [c0,.int .i64 (x.fH),.int .i64 (x.fGram)] ∧ F = F0 ∧ ow w F0 [c0] x.fLayers ∧ F.Nodup
 rd_sz:=fun h=>by obtain ⟨c0,F0,rfl,rfl,h0⟩:=h; rfl
 rd_one:=fun h=>by
  obtain ⟨c0,F0,rfl,rfl,h0⟩:=h
  intro c hc
  simp only [List.mem_cons,List.not_mem_nil,or_false] at hc
  rcases hc with rfl | rfl | rfl <;> first | rfl | exact Enc.rd_one h0 _ (List.mem_singleton.2 rfl)
 ow_rd:=fun h=>by obtain ⟨c0,F0,rfl,rfl,h0,_⟩:=h; exact ⟨c0,_,rfl,rfl,Enc.ow_rd h0⟩
 rd_lt:=fun h=>by
  obtain ⟨c0,F0,rfl,rfl,h0⟩:=h
  intro b hb
  exact Enc.rd_lt h0 b hb
 rd_agr:=fun h hA=>by obtain ⟨c0,F0,rfl,rfl,h0⟩:=h; exact ⟨c0,_,rfl,rfl,Enc.rd_agr h0 hA⟩
 ow_agr:=fun h hA=>by obtain ⟨c0,F0,rfl,rfl,h0,hn⟩:=h; exact ⟨c0,_,rfl,rfl,Enc.ow_agr h0 hA,hn⟩
 ow_nd:=fun h=>by obtain ⟨c0,F0,_,_,_,hn⟩:=h; exact hn
instance:Arg Load:=⟨fun w v x=>∃ cs F,v = .agg cs.toArray ∧ rd w F cs x⟩
structure Layer where
 fShelves:List Int
 fD:Int
 fH:Int
 fGram:Int
instance:Enc Layer where
 sz:=4
 rd:=fun w F cs x=>∃ (c0:Value) (F0:List Nat),cs = [c0,.int .i64 (x.fD),.int .i64 (x.fH),.int .i64 (x.fGram)] ∧ F = F0 ∧ rd w F0 [c0] x.fShelves
 ow:=fun w F cs x=>∃ (c0:Value) (F0:List Nat),cs = [c0,.int .i64 (x.fD),.int .i64 (x.fH),.int .i64 (x.fGram)] ∧ F = F0 ∧ ow w F0 [c0] x.fShelves ∧ F.Nodup
 rd_sz:=fun h=>by obtain ⟨c0,F0,rfl,rfl,h0⟩:=h; rfl
 rd_one:=fun h=>by
  obtain ⟨c0,F0,rfl,rfl,h0⟩:=h
  intro c hc
  simp only [List.mem_cons,List.not_mem_nil,or_false] at hc
  rcases hc with rfl | rfl | rfl | rfl <;> first | rfl | exact Enc.rd_one h0 _ (List.mem_singleton.2 rfl)
 ow_rd:=fun h=>by obtain ⟨c0,F0,rfl,rfl,h0,_⟩:=h; exact ⟨c0,_,rfl,rfl,Enc.ow_rd h0⟩
 rd_lt:=fun h=>by
  obtain ⟨c0,F0,rfl,rfl,h0⟩:=h
  intro b hb
  exact Enc.rd_lt h0 b hb
 rd_agr:=fun h hA=>by obtain ⟨c0,F0,rfl,rfl,h0⟩:=h; exact ⟨c0,_,rfl,rfl,Enc.rd_agr h0 hA⟩
 ow_agr:=fun h hA=>by obtain ⟨c0,F0,rfl,rfl,h0,hn⟩:=h; exact ⟨c0,_,rfl,rfl,Enc.ow_agr h0 hA,hn⟩
 ow_nd:=fun h=>by obtain ⟨c0,F0,_,_,_,hn⟩:=h; exact hn
instance:Arg Layer:=⟨fun w v x=>∃ cs F,v = .agg cs.toArray ∧ rd w F cs x⟩
structure Shelf where
 fList:List Int
 fW:Int
 fD:Int
 fH:Int
 fGram:Int
instance:Enc Shelf where
 sz:=5
 rd:=fun w F cs x=>∃ (c0:Value) (F0:List Nat),cs = [c0,.int .i64 (x.fW),.int .i64 (x.fD),.int .i64 (x.fH),.int .i64 (x.fGram)] ∧ F = F0 ∧ rd w F0 [c0] x.fList
 ow:=fun w F cs x=>∃ (c0:Value) (F0:List Nat),cs = [c0,.int .i64 (x.fW),.int .i64 (x.fD),.int .i64 (x.fH),.int .i64 (x.fGram)] ∧ F = F0 ∧ ow w F0 [c0] x.fList ∧ F.Nodup
 rd_sz:=fun h=>by obtain ⟨c0,F0,rfl,rfl,h0⟩:=h; rfl
 rd_one:=fun h=>by
  obtain ⟨c0,F0,rfl,rfl,h0⟩:=h
  intro c hc
  simp only [List.mem_cons,List.not_mem_nil,or_false] at hc
  rcases hc with rfl | rfl | rfl | rfl | rfl <;> first | rfl | exact Enc.rd_one h0 _ (List.mem_singleton.2 rfl)
 ow_rd:=fun h=>by obtain ⟨c0,F0,rfl,rfl,h0,_⟩:=h; exact ⟨c0,_,rfl,rfl,Enc.ow_rd h0⟩
 rd_lt:=fun h=>by
  obtain ⟨c0,F0,rfl,rfl,h0⟩:=h
  intro b hb
  exact Enc.rd_lt h0 b hb
 rd_agr:=fun h hA=>by obtain ⟨c0,F0,rfl,rfl,h0⟩:=h; exact ⟨c0,_,rfl,rfl,Enc.rd_agr h0 hA⟩
 ow_agr:=fun h hA=>by obtain ⟨c0,F0,rfl,rfl,h0,hn⟩:=h; exact ⟨c0,_,rfl,rfl,Enc.ow_agr h0 hA,hn⟩
 ow_nd:=fun h=>by obtain ⟨c0,F0,_,_,_,hn⟩:=h; exact hn
instance:Arg Shelf:=⟨fun w v x=>∃ cs F,v = .agg cs.toArray ∧ rd w F cs x⟩
structure L7 where
 fvol:Int
 fgram:Int
 deriving DecidableEq
instance:Flat L7:=⟨2,fun x=>[.int .i64 (x.fvol),.int .i64 (x.fgram)],fun _=>rfl,fun x=>by intro c hc; simp only [List.mem_cons,List.not_mem_nil,or_false] at hc; rcases hc with rfl | rfl <;> rfl⟩
instance:Arg L7:=⟨fun _ v x=>v = .agg (Flat.e x).toArray⟩
instance:Ret L7:=⟨fun x=>.agg (Flat.e x).toArray⟩
structure Cur where
 fb:List U8
 fi:Int
 fh:Int
instance:Enc Cur where
 sz:=3
 rd:=fun w F cs x=>∃ (c0:Value) (F0:List Nat),cs = [c0,.int .i64 (x.fi),.int .i64 (x.fh)] ∧ F = F0 ∧ rd w F0 [c0] x.fb
 ow:=fun w F cs x=>∃ (c0:Value) (F0:List Nat),cs = [c0,.int .i64 (x.fi),.int .i64 (x.fh)] ∧ F = F0 ∧ ow w F0 [c0] x.fb ∧ F.Nodup
 rd_sz:=fun h=>by obtain ⟨c0,F0,rfl,rfl,h0⟩:=h; rfl
 rd_one:=fun h=>by
  obtain ⟨c0,F0,rfl,rfl,h0⟩:=h
  intro c hc
  simp only [List.mem_cons,List.not_mem_nil,or_false] at hc
  rcases hc with rfl | rfl | rfl <;> first | rfl | exact Enc.rd_one h0 _ (List.mem_singleton.2 rfl)
 ow_rd:=fun h=>by obtain ⟨c0,F0,rfl,rfl,h0,_⟩:=h; exact ⟨c0,_,rfl,rfl,Enc.ow_rd h0⟩
 rd_lt:=fun h=>by
  obtain ⟨c0,F0,rfl,rfl,h0⟩:=h
  intro b hb
  exact Enc.rd_lt h0 b hb
 rd_agr:=fun h hA=>by obtain ⟨c0,F0,rfl,rfl,h0⟩:=h; exact ⟨c0,_,rfl,rfl,Enc.rd_agr h0 hA⟩
 ow_agr:=fun h hA=>by obtain ⟨c0,F0,rfl,rfl,h0,hn⟩:=h; exact ⟨c0,_,rfl,rfl,Enc.ow_agr h0 hA,hn⟩
 ow_nd:=fun h=>by obtain ⟨c0,F0,_,_,_,hn⟩:=h; exact hn
instance:Arg Cur:=⟨fun w v x=>∃ cs F,v = .agg cs.toArray ∧ rd w F cs x⟩
end Go.Proofs.YthkaklkinepfkaaGreatDoor
set_option linter.unusedSimpArgs false
set_option linter.unusedVariables false
namespace Go.Proofs.YthkaklkinepfkaaGreatDoor
open Go Go.RowKit Go.ChangeShapes Go.WideShapes Go.ChangeAt
open Enc (rd ow)
open Arg (argv)
open Ret (retv)
class Wf (α:Type) where
 wf:α → Prop
open Wf (wf)
instance:Wf Int:=⟨fun n=>-9223372036854775808 ≤ n ∧ n ≤ 9223372036854775807⟩
instance:Wf U8:=⟨fun b=>0 ≤ b.n ∧ b.n ≤ 255⟩
instance:Wf Bool:=⟨fun _=>True⟩
instance:Wf ByteArray:=⟨fun s=>s.size ≤ maxLen⟩
instance {α:Type} [Wf α]:Wf (List α):=⟨fun xs=>xs.length ≤ maxLen ∧ ∀ x ∈ xs,wf x⟩
def TR (P:Program) (t:TypeId) (α:Type) [Enc α] [Wf α]:Prop :=
 ∀ {H:Type} (enc:TypeId × Value → H) (W:World) (n:Nat) (cs:List Value) (x:DataW H × List MemPlace),
  DataW.trod enc P W 0 (fun _=>true) true n t cs = some x → ∃ F v,rd W F cs v ∧ wf (α:=α) v
theorem tr_u8 {P:Program} {t:TypeId} (ht:P.underlying t = some (.int .u8)):TR P t U8:=by
 intro H enc W n cs x h
 obtain ⟨m,rfl,_,hw⟩:=DataW.trod_int ht h
 simp only [Lit.wf,IntKind.min,IntKind.max,IntKind.signed,IntKind.bits,Bool.and_eq_true,decide_eq_true_eq] at hw
 refine ⟨[],⟨m⟩,⟨rfl,rfl⟩,?_⟩
 show _ ∧ _
 simpa using hw
theorem rdL_mono' {α:Type} [Enc α] {w:World} {F G:List Nat} (hs:∀ b ∈ F,b ∈ G):∀ {cells:List Value} {xs:List α},rdL w F cells xs → rdL w G cells xs
 | _,[],_=>trivial
 | _,_ :: _,⟨⟨K,hK,h⟩,h'⟩=>⟨⟨K,fun b hb=>hs b (hK b hb),h⟩,rdL_mono' hs h'⟩
theorem rdL_build {α:Type} [Enc α] [Wf α] {W:World} (cells:List Value):∀ (n:Nat) (off:Nat),
    (∀ i,i < n → ∃ G x,rd W G ((cells.drop (off + i * Enc.sz α)).take (Enc.sz α)) x ∧ wf (α:=α) x) →
    ∃ F xs,xs.length = n ∧ (∀ b ∈ F,b < W.heap.size) ∧ rdL (α:=α) W F (cells.drop off) xs ∧ ∀ x ∈ xs,wf x
 | 0,_,_=>⟨[],[],rfl,by simp,trivial,by simp⟩
 | n + 1,off,h=>by
  obtain ⟨G,x,hx,hw⟩:=h 0 (by omega)
  rw [Nat.zero_mul,Nat.add_zero] at hx
  obtain ⟨F,xs,hl,hlt,hr,hws⟩:=rdL_build cells n (off + Enc.sz α) (fun i hi=>by
   have:=h (i + 1) (by omega)
   rwa [show off + (i + 1) * Enc.sz α = off + Enc.sz α + i * Enc.sz α by rw [Nat.add_mul]; omega] at this)
  refine ⟨G ++ F,x :: xs,by simp [hl],?_,?_,?_⟩
  · intro b hb
    rcases List.mem_append.1 hb with hb | hb
    · exact Enc.rd_lt hx b hb
    · exact hlt b hb
  · refine ⟨⟨G,fun b hb=>List.mem_append_left _ hb,hx⟩,?_⟩
    rw [List.drop_drop]
    exact rdL_mono' (fun b hb=>List.mem_append_right _ hb) hr
  · intro y hy
    rcases List.mem_cons.1 hy with rfl | hy
    · exact hw
    · exact hws y hy
theorem tr_slice {P:Program} {t e:TypeId} {α:Type} [Enc α] [Wf α] (ht:P.underlying t = some (.slice e)) (hc:P.cellsOf e = Enc.sz α) (hp:0 < Enc.sz α) (he:TR P e α):TR P t (List α):=by
 intro H enc W fuel cs x h
 rcases DataW.trod_slice ht h with ⟨rfl,_⟩ | ⟨a,len,cap,elems,rest,n,_,rfl,_,_,hl,hm,hlen,hel,_,_⟩
 · exact ⟨[],[],⟨none,0,rfl,by simp,by simp [maxLen],by simp,.inl rfl⟩,by simp [maxLen],by simp⟩
 by_cases h0:len = 0
 · subst h0
   exact ⟨[],[],⟨some a,cap,rfl,by simp,hm,by simp,.inl rfl⟩,by simp,by simp⟩
 have each:∀ i,i < len → ∃ cs',W.cells? 0 (a.add (i * Enc.sz α)) (Enc.sz α) = some cs' ∧ ∃ G y,rd W G cs' y ∧ wf (α:=α) y:=by
  intro i hi
  have:=hel i hi
  rw [hc,List.getElem?_eq_getElem (by omega),Option.bind_eq_some_iff] at this
  obtain ⟨cs',h1,h2⟩:=this
  exact ⟨cs',h1,he enc W n cs' _ h2⟩
 obtain ⟨cs0,h1,_⟩:=each 0 (by omega)
 obtain ⟨_,hl0,hcell⟩:=World.cells?_some h1
 have h2:=hcell 0 hp
 rw [List.getElem?_eq_getElem (by omega)] at h2
 have e0:(a.add (0 * Enc.sz α)).add 0 = a:=by simp [Addr.add]
 rw [e0] at h2
 obtain ⟨g,off,spot⟩:=a
 unfold World.cell? at h2
 split at h2 <;> try simp at h2
 rename_i c ty fr hh
 simp only at hh
 have hs:spot = none:=by cases spot <;> simp_all
 subst hs
 have eadd:∀ k j,(((⟨g,off,none⟩:Addr).add k).add j) = ⟨g,off + k + j,none⟩:=by
  intro k j
  simp only [Addr.add]
  by_cases hk:k = 0 <;> by_cases hj:j = 0 <;> simp [hk,hj]
 obtain ⟨F,xs,hxl,hlt,hr,hw⟩:=rdL_build (α:=α) (W:=W) c.toList len off (fun i hi=>by
  obtain ⟨cs',h3,G,y,hy,hwy⟩:=each i hi
  obtain ⟨_,hl',hcell'⟩:=World.cells?_some h3
  have:cs' = (c.toList.drop (off + i * Enc.sz α)).take (Enc.sz α):=by
   apply List.ext_getElem?
   intro j
   by_cases hj:j < Enc.sz α
   · have h4:=hcell' j hj
     rw [eadd] at h4
     unfold World.cell? at h4
     rw [hh] at h4
     simp only [Option.isSome_none,Bool.false_eq_true,if_false] at h4
     rw [← h4,List.getElem?_take,if_pos hj,List.getElem?_drop,Array.getElem?_toList]
   · rw [List.getElem?_eq_none (by omega),List.getElem?_take,if_neg hj]
  exact ⟨G,y,this ▸ hy,hwy⟩)
 refine ⟨g :: F,xs,⟨_,cap,by rw [hxl],by omega,hm,?_,.inr ⟨g,off,c,ty,fr,rfl,by simp,hh,rdL_mono' (fun b hb=>List.mem_cons_of_mem _ hb) hr⟩⟩,by omega,hw⟩
 intro b hb
 rcases List.mem_cons.1 hb with rfl | hb
 · exact lt_of_heap hh
 · exact hlt b hb
section
variable {H:Type} {enc:TypeId × Value → H} {P:Program} {W:World} {t:TypeId} {v:Value} {d:DataW H} {ps:List MemPlace}
theorem arg_slice {e:TypeId} {α:Type} [Enc α] [Wf α] (ht:P.underlying t = some (.slice e)) (hT:TR P t (List α)) (hval:Value.okWide P W .any 0 t v) (hd:DataW.Trod enc P W 0 (fun _=>true) true t v d ps) :
    ∃ (x:List α) (F:List Nat),rd W F [v] x ∧ wf x:=by
 obtain ⟨a,len,cap,rfl⟩:=okWide_slice ht hval
 obtain ⟨fuel,hf⟩:=hd
 obtain ⟨F,x,hr,hw⟩:=hT enc W fuel _ _ hf
 exact ⟨x,F,by simpa [Value.cells] using hr,hw⟩
end
section
variable {H:Type} {enc:TypeId × Value → H} {P:Program}
theorem post_new {f:Func} {s:ChangeSpec} {apart fresh handsOn again:Bool} {W W':World} {args:Array Value} {v:Value} {ds gs:List (DataW H)} {before pa pv:List MemPlace}
    (hW:DataW.Whole enc P f.params.toList s.vars apart W args.toList ds gs before)
    (hres:∀ (b:Nat) (sp:Nat → Bool) (hd:Bool),DataW.TrodAll enc P W' b sp hd f.resultTypes.toList (v.resultList f.resultTypes.size) (s.fn H (ds ++ gs)).results [])
    (hargs:∀ sp:Nat → Bool,(∀ p ∈ before,sp p.block = true) → DataW.TrodAll enc P W' 0 sp true f.params.toList args.toList (s.fn H (ds ++ gs)).args pa)
    (hvars:∀ sp:Nat → Bool,(∀ p ∈ before,sp p.block = true) → DataW.TrodVars enc P W' sp s.vars (s.fn H (ds ++ gs)).vars pv)
    (hps:before = pa ++ pv) (hb:Below W.heap.size W W')
    (hok:∀ (j:Nat) (t:TypeId) (r:Value),f.resultTypes[j]? = some t → (v.resultList f.resultTypes.size)[j]? = some r → Value.okWide P W' .any 0 t r) :
    s.post enc P f apart fresh handsOn again W args v W':=by
 have hlt:∀ p ∈ before,p.block < W.heap.size:=fun p hp=>hW.lt p hp
 have hold:∀ p ∈ before,(fun b=>decide (b < W.heap.size)) p.block = true:=fun p hp=>by simpa using hlt p hp
 refine ⟨ds,gs,before,[],pa,pv,hW,hres _ _ _,hargs _ hold,hvars _ hold,World.keptBut_mono (fun p hp=>⟨hp,?_⟩) (hb.frame (· ∈ before)),fun _=>?_⟩
 · rw [hps,List.mem_append] at hp
   exact Or.inr hp
 · obtain ⟨_,_,_,_,_,hz,hn⟩:=hW
   refine ⟨hok,_,_,([] ++ pa) ++ pv,⟨[] ++ pa,pv,trodAll_append (hargs _ (fun _ _=>rfl)) (hres _ _ _),hvars _ (fun _ _=>rfl),rfl,?_,?_⟩,?_⟩
   · intro b off hp
     have hin:MemPlace.cell b off ∈ before:=by rw [hps]; simpa using hp
     rw [hb.frozen (hlt _ hin)]
     exact hz b off hin
   · intro ha
     have:=hn ha
     rw [hps] at this
     simpa using this
   · intro p hp _
     rw [hps]
     simpa using hp
theorem args_stay (hl:laidOutB P = true) {W W':World} (hb:Below W.heap.size W W'):∀ {ts:List TypeId} {vs:List Value} {ds:List (DataW H)} {ps:List MemPlace} {sp:Nat → Bool},
    (∀ t ∈ ts,P.readableRec t = true ∧ t < P.types.size) → DataW.TrodAll enc P W 0 (fun _=>true) true ts vs ds ps → (∀ x ∈ ps,x.block < W.heap.size) → (∀ x ∈ ps,sp x.block = true) →
    DataW.TrodAll enc P W' 0 sp true ts vs ds ps
 | [],vs,ds,ps,sp,_,h,_,_=>by
  obtain ⟨rfl,rfl,rfl⟩:=trodAll_nil h
  exact trodAll_mk0
 | t :: ts,vs,ds,ps,sp,hT,h,hlt,hs=>by
  obtain ⟨v,vs',d,ds',p,q,rfl,rfl,rfl,h1,h2⟩:=trodAll_cons h
  exact trodAll_cons_mk (WideElems.Trod_stays hl (hT t (by simp)).1 (hT t (by simp)).2 h1 (fun x hx=>hb.same (hlt x (by simp [hx]))) (fun x hx=>hs x (by simp [hx])))
   (args_stay hl hb (fun u hu=>hT u (by simp [hu])) h2 (fun x hx=>hlt x (by simp [hx])) (fun x hx=>hs x (by simp [hx])))
end
end Go.Proofs.YthkaklkinepfkaaGreatDoor
set_option linter.unusedSimpArgs false
set_option linter.unusedVariables false
namespace Go.Proofs.YthkaklkinepfkaaGreatDoor
open Go Go.RowKit
open Enc (rd ow)
open Arg (argv)
open Ret (retv)
theorem owL_cells {w:World}:∀ {Gs:List (List Nat)} {cells:List Value} {xs:List Int},owL w Gs cells xs → cells = xs.map (Value.int .i64)
 | [],_,[],h=>h
 | G :: Gs,cells,x :: xs,⟨h,h'⟩=>by
  have e:=owL_cells h'
  have h2:cells.take 1 = [Value.int .i64 x]:=h.2
  have h3:cells.drop 1 = xs.map (Value.int .i64):=e
  rw [← List.take_append_drop 1 cells,h2,h3]
  rfl
 | [],_,_ :: _,h=>h.elim
 | _ :: _,_,[],h=>h.elim
theorem holds_ow {w0:World} {g off cap:Nat} {c:Array Value} {e:TypeId} {xs:List Int} {Gs:List (List Nat)} (h3:w0.heap[g]? = some (.cells c e (0,0))) (h5:owL w0 Gs ((c.toList.drop off).take (xs.length * Enc.sz Int)) xs) :
    Go.Sort.Holds (Value.int .i64) w0 g off xs.toArray:=by
 have hc:=owL_cells h5
 have hsz:Enc.sz Int = 1:=rfl
 rw [hsz,Nat.mul_one] at hc
 have hcell:∀ j (hj:j < xs.length),c[off + j]? = some (Value.int .i64 xs[j]):=by
  intro j hj
  have:=congrArg (fun l=>l[j]?) hc
  simp only [List.getElem?_take,if_pos hj,List.getElem?_drop,Array.getElem?_toList,List.getElem?_map,List.getElem?_eq_getElem hj,Option.map_some] at this
  exact this
 intro j hj
 have hj':j < xs.length:=by simpa using hj
 refine ⟨?_,?_⟩
 · unfold World.cell?
   simp only [h3,Option.isSome_none,Bool.false_eq_true,if_false]
   rw [hcell j hj',getElem!_pos _ j (by simpa using hj')]
   simp
 · unfold World.frozen?
   simp only [h3]
   simp
theorem ow_putRow {w0 w:World} {g off cap:Nat} {c:Array Value} {e:TypeId} {xs ys:List Int} {Gs:List (List Nat)} (hl:ys.length = xs.length) (h1:xs.length ≤ cap) (h2:cap ≤ maxLen) (h3:w0.heap[g]? = some (.cells c e (0,0)))
    (h4:off + cap * Enc.sz Int ≤ c.size) (h5:owL w0 Gs ((c.toList.drop off).take (xs.length * Enc.sz Int)) xs) (h6:(g :: Gs.flatten).Nodup) {n:Nat} {os:Array Obj}
    (hw:w = Go.Sort.grow (Go.Sort.putRow (Value.int .i64) (Go.Sort.ahead w0 n) g off ys.toArray) os) :
    Ext (g :: Gs.flatten) w0 w ∧ ow w (g :: Gs.flatten) [.slice (some ⟨g,off,none⟩) ys.length cap] ys:=by
 have hG:=owL_flat_nils h5
 have hsz:Enc.sz Int = 1:=rfl
 rw [hsz,Nat.mul_one] at h4
 subst hw
 have hgl:=lt_of_heap h3
 have hblk:∀ k,k < w0.heap.size → (Go.Sort.grow (Go.Sort.putRow (Value.int .i64) (Go.Sort.ahead w0 n) g off ys.toArray) os).heap[k]? =
     if g = k then some (.cells (Go.Sort.putCells (Value.int .i64) off ys.toArray c) e (0,0)) else w0.heap[k]?:=by
  intro k hk
  have hk':k < (Go.Sort.putRow (Value.int .i64) (Go.Sort.ahead w0 n) g off ys.toArray).heap.size:=by simpa using hk
  simp only [Go.Sort.grow]
  rw [Array.getElem?_append_left hk']
  simp only [Go.Sort.putRow,Go.Sort.mapBlock,Go.Sort.heap_ahead,Array.getElem?_modify]
  by_cases hgk:g = k
  · subst hgk
    rw [if_pos rfl,if_pos rfl,h3]
    rfl
  · rw [if_neg hgk,if_neg hgk]
 refine ⟨⟨rfl,rfl,rfl,by simp,fun k hk hx=>?_⟩,?_⟩
 · rw [hblk k hk,if_neg (fun e=>hx (by simp [e]))]
 · have hh:=hblk g hgl
   rw [if_pos rfl] at hh
   refine .inr ⟨g,off,cap,_,e,ys.map fun _=>[],rfl,by omega,h2,hh,?_,?_,?_,h6⟩
   · simpa [Go.Sort.putCells,hsz] using h4
   · have hcs:(((Go.Sort.putCells (Value.int .i64) off ys.toArray c).toList.drop off).take (ys.length * Enc.sz Int)) = (ys.map Flat.e).flatten:=by
       have e2:(ys.map (Flat.e (α:=Int))).flatten = ys.map (Value.int .i64):=by
        clear hl hblk hh
        induction ys with
        | nil=>rfl
        | cons y ys ih=>simp only [List.map_cons,List.flatten_cons,ih]; rfl
       rw [e2,hsz,Nat.mul_one]
       have hle:off + ys.length ≤ c.size:=by omega
       apply List.ext_getElem?
       intro j
       simp only [List.getElem?_take,List.getElem?_drop,Array.getElem?_toList,List.getElem?_map]
       by_cases hj:j < ys.length
       · rw [if_pos hj]
         have hjc:off + j < c.size:=by omega
         simp only [Go.Sort.putCells,Array.getElem?_mapIdx,Array.getElem?_eq_getElem hjc,Option.map_some,List.size_toArray]
         rw [if_pos ⟨by omega,by omega⟩,show off + j - off = j by omega,getElem!_pos _ j (by simpa using hj)]
         simp [List.getElem?_eq_getElem hj]
       · rw [if_neg hj,List.getElem?_eq_none (by omega)]
         rfl
     rw [hcs]
     exact owL_flat _
   · rw [hG,flatten_nils]
def sortI (xs:List Int):Option (List Int):=if xs.length < 4611686018427387904 then some (xs.mergeSort fun x y=>decide (x ≤ y)) else none
theorem c_sortInt {P:Program} {fid:Nat}
    (hs:∀ (blk off cap:Nat) (zs:List Int) (w:World),Go.Sort.Holds (Value.int .i64) w blk off zs.toArray → blk < w.heap.size → zs.length < 4611686018427387904 →
     Calls P fid #[.slice (some ⟨blk,off,none⟩) zs.length cap] w fun e w'=>e = .returned (.tuple #[]) ∧ ∃ n os,w' = Go.Sort.grow (Go.Sort.putRow (Value.int .i64) (Go.Sort.ahead w n) blk off (zs.mergeSort fun x y=>decide (x ≤ y)).toArray) os)
    (hn:∀ (p:Option Addr) (cap:Nat) (w:World),Calls P fid #[.slice p 0 cap] w fun e w'=>e = .returned (.tuple #[]) ∧ w' = w)
    {w0:World} (xs:List Int) {v:Value} {F:List Nat} (h:ow w0 F [v] xs) {r:List Int} (hr:sortI xs = some r) :
    Calls P fid #[v] w0 fun e w=>e = .returned (.tuple #[]) ∧ Ext F w0 w ∧ ow w F [v] r:=by
 unfold sortI at hr
 split at hr
 · rename_i hlen
   simp only [Option.some.injEq] at hr
   subst hr
   rcases h with ⟨hv,rfl,rfl⟩ | ⟨g,off,cap,c,e,Gs,hv,h1,h2,h3,h4,h5,rfl,h6⟩
   · have:=(List.cons.inj hv).1
     subst this
     refine (hn none 0 w0).mono fun e w ⟨he,hw⟩=>?_
     subst hw
     exact ⟨he,Ext.refl _ _,.inl ⟨rfl,by simp,rfl⟩⟩
   · have:=(List.cons.inj hv).1
     subst this
     have hl:=List.length_mergeSort (le:=fun x y=>decide (x ≤ y)) xs
     refine (hs g off cap xs w0 (holds_ow (cap:=cap) h3 h5) (lt_of_heap h3) hlen).mono fun e' w ⟨he,n,os,hw⟩=>?_
     obtain ⟨hE,hO⟩:=ow_putRow hl h1 h2 h3 h4 h5 h6 hw
     rw [hl] at hO
     exact ⟨he,hE,hO⟩
 · cases hr
end Go.Proofs.YthkaklkinepfkaaGreatDoor
set_option linter.unusedSimpArgs false
set_option linter.unusedVariables false
namespace Go.Proofs.YthkaklkinepfkaaGreatDoor
open Go Go.RowKit
open Enc (rd ow)
open Arg (argv)
open Ret (retv)
theorem eqF {P:Program} {w:World} {d:Nat} {k:TypeId} (hk:P.underlying k = some (.int .i64)) (xs ys:Array Value):∀ (fs:List Field) (l:List (Nat × Int × Int)),
    fs.map (fun f=>(f.name == "_",f.type,f.offset)) = l.map (fun p=>(false,k,p.1)) → (∀ p ∈ l,xs[p.1]? = some (.int .i64 p.2.1) ∧ ys[p.1]? = some (.int .i64 p.2.2)) →
    (Op.eqFields (d + 1) xs ys fs).run P w = .ok (l.all fun p=>p.2.1 == p.2.2) w
 | [],[],_,_=>by simp [Op.eqFields]
 | [],_ :: _,h,_=>by simp at h
 | _ :: _,[],h,_=>by simp at h
 | f :: fs,(i,a,b) :: l,h,hv=>by
  simp only [List.map_cons,List.cons.injEq,Prod.mk.injEq,beq_eq_false_iff_ne,ne_eq] at h
  obtain ⟨⟨hn,ht,ho⟩,h⟩:=h
  have hp:P.plainKey k = true:=by simp [Program.plainKey,hk]
  have h1:=hv (i,a,b) (by simp)
  have p1:=run_part_plain (P:=P) w hp h1.1
  have p2:=run_part_plain (P:=P) w hp h1.2
  have ih:=eqF (d:=d) (w:=w) hk xs ys fs l h (fun p hp=>hv p (by simp [hp]))
  simp only [Op.eqFields,ne_eq,hn,not_false_eq_true,if_true,ht,ho,Sem.run_bind,p1,p2,run_equalIn_int w d k .i64 .i64 a b hk,Result.andThen_ok,List.all_cons]
  cases hab:(a == b)
  · simp
  · simpa using ih
theorem seqI {P:Program} {t k:TypeId} {fs:Array Field} {α:Type} [Flat α] [DecidableEq α] (hu:P.underlying t = some (.struct fs)) (hp:P.stoodInHeld t = false) (hm:P.eqGuardType P.depth t = false) (hk:P.underlying k = some (.int .i64))
    (z:α → α → List (Nat × Int × Int)) (hfs:∀ x y,fs.toList.map (fun f=>(f.name == "_",f.type,f.offset)) = (z x y).map (fun p=>(false,k,p.1)))
    (hz:∀ x y,∀ p ∈ z x y,(Flat.e x).toArray[p.1]? = some (.int .i64 p.2.1) ∧ (Flat.e y).toArray[p.1]? = some (.int .i64 p.2.2))
    (he:∀ x y,((z x y).all fun p=>p.2.1 == p.2.2) = decide (x = y)):SEq P t α:=by
 refine ⟨hm,fun w x y=>?_⟩
 have hf:P.fieldsOf t = fs:=by simp [Program.fieldsOf,hu]
 rw [show (10000:Nat) = 9999 + 1 from rfl,run_equalIn_struct w 9999 t _ _ (by rw [hf]; exact hu) hp,hf]
 rw [show (9999:Nat) = 9998 + 1 from rfl,eqF hk _ _ fs.toList (z x y) (hfs x y) (hz x y),he]
theorem seqPair {P:Program} {t k:TypeId} {fs:Array Field} (hu:P.underlying t = some (.struct fs)) (hp:P.stoodInHeld t = false) (hm:P.eqGuardType P.depth t = false) (hk:P.underlying k = some (.int .i64))
    (hfs:fs.toList.map (fun f=>(f.name == "_",f.type,f.offset)) = [(false,k,0),(false,k,1)]):SEq P t Pair :=
 seqI hu hp hm hk (fun x y=>[(0,x.fA,y.fA),(1,x.fB,y.fB)]) (fun x y=>by rw [hfs]; rfl) (fun x y p hp=>by
  simp only [List.mem_cons,List.not_mem_nil,or_false] at hp
  rcases hp with rfl | rfl <;> exact ⟨rfl,rfl⟩)
  (fun x y=>by
   rcases x with ⟨a0,a1⟩
   rcases y with ⟨b0,b1⟩
   apply Bool.eq_iff_iff.2
   simp)
end Go.Proofs.YthkaklkinepfkaaGreatDoor
set_option linter.unusedSimpArgs false
set_option linter.unusedVariables false
namespace Go.Proofs.YthkaklkinepfkaaGreatDoor
open Go Go.RowKit
open Enc (rd ow)
open Arg (argv)
open Ret (retv)
theorem rd_cellsI {w:World} {G:List Nat} {y:Value} {ys:List Int} (h:rd w G [y] ys):∃ ao cap,y = .slice ao ys.length cap ∧ (ys = [] ∨ ∃ a,ao = some a ∧ ∀ j v,(ys.map (Value.int .i64))[j]? = some v → w.cell? (a.add j) = some v):=by
 obtain ⟨ao,cap,hy,h1,h2,h3,h4⟩:=h
 have:=(List.cons.inj hy).1
 subst this
 refine ⟨ao,cap,rfl,?_⟩
 rcases h4 with rfl | ⟨g,off,c,e,fr,rfl,hg,hh,hl⟩
 · exact .inl rfl
 · refine .inr ⟨_,rfl,fun j v hv=>?_⟩
   rw [List.getElem?_map,Option.map_eq_some_iff] at hv
   obtain ⟨n,hn,rfl⟩:=hv
   obtain ⟨G',_,_,hr⟩:=rdL_get hl hn
   have hsz:Enc.sz Int = 1:=rfl
   rw [hsz,Nat.mul_one,List.drop_drop] at hr
   have h0:=congrArg (fun l=>l[0]?) hr
   simp only [List.getElem?_take,Nat.zero_lt_one,if_true,List.getElem?_drop,Nat.add_zero,Array.getElem?_toList] at h0
   have hadd:((⟨g,off,none⟩:Addr).add j) = ⟨g,off + j,none⟩:=by
    simp only [Addr.add]
    by_cases hj:j = 0 <;> simp [hj]
   rw [hadd]
   unfold World.cell?
   rw [hh]
   simp only [Option.isSome_none,Bool.false_eq_true,if_false]
   rw [h0]
   rfl
section
variable {P:Program} {ops:Array Oper} {Q:Exit → Act → World → Prop} {rest:List Oper} {o:Oper} {a:Act} {w:World} {N:Nat} {L:List (Nat × Value)}
variable {X:List Nat} {w0:World} {M:List (List Nat × World)} {d:Nat}
def Part (v:Value) (lo:Nat) (v':Value):Prop:=∀ ao n cap,v = .slice ao n cap → ∃ ao',v' = .slice ao' (n - lo) (cap - lo) ∧ ∀ g off,lo < n → ao = some ⟨g,off,none⟩ → ao' = some ⟨g,off + lo,none⟩
theorem Part.self (v:Value):Part v 0 v:=fun ao n cap h=>⟨ao,by simpa using h,fun g off _ h=>by simpa using h⟩
theorem s_slFromP {u:World} {F:List Nat} {v:Value} {xs ys:List Int} {lo:Int} {k:IntKind} (hf:rd u F [v] xs) (hx:sls xs lo xs.length = some ys) (hK:K N L a) {t:TypeId} (hu:TS P t (Enc.sz Int)) {x i:Operand}
    (hg:gd L ops o.guard = some true) (hd:o.dst = some d) (hN:Nat.blt d N = true)
    (ho:o.op = .slice t x (some i) none none) (hv:ev L x = some v) (hi':ev L i = some (.int k lo))
    (h:∀ v' a,K N ((d,v') :: L) a → rd u F [v'] ys → Part v lo.toNat v' → wpList P ops Q rest a w):wpList P ops Q (o :: rest) a w:=by
 obtain ⟨ao,cap,rfl,h1,h2⟩:=rd_slice hf
 obtain ⟨e,hu,hs⟩:=hu
 have hr:=rd_sls hf hx
 unfold sls at hx
 split at hx
 · rename_i h0
   refine s_val hK hg hd hN ?_ fun a hK=>h _ a hK (by simpa using hr) ?_
   · have c2:0 ≤ lo ∧ lo ≤ (xs.length:Int):=by omega
     simp [execOp,ho,Instr.sliceAt,Instr.slice,Instr.sliceBounds,Instr.sliceBound,hK.ev hv,hK.ev hi',run_underlying hu,asIntOf,c2,hs]
   · intro ao' n cap' he
     injection he with e1 e2 e3
     subst e1; subst e2; subst e3
     refine ⟨_,rfl,fun g off hlt hao=>?_⟩
     subst hao
     have hsz:Enc.sz Int = 1:=rfl
     rw [if_neg (by omega)]
     simp only [Option.map_some,hsz,Nat.mul_one,Addr.add]
     by_cases hl:lo.toNat = 0 <;> simp [hl]
 · simp at hx
theorem sl_from {u:World} {F:List Nat} {v:Value} {xs ys:List Int} {lo:Int} (hf:rd u F [v] xs) (hx:sls xs lo xs.length = some ys) {t:TypeId} (hu:TS P t (Enc.sz Int)) :
    ∃ v',rd u F [v'] ys ∧ Part v lo.toNat v' ∧ ∀ {N:Nat} {L:List (Nat × Value)} {a:Act} {o:Oper} {x i:Operand} {k:IntKind},K N L a → o.op = .slice t x (some i) none none → ev L x = some v → ev L i = some (.int k lo) → ∀ w:World,(execOp a.eval o).run P w = .ok (.value v') w:=by
 obtain ⟨ao,cap,rfl,h1,h2⟩:=rd_slice hf
 obtain ⟨e,hu,hs⟩:=hu
 have hr:=rd_sls hf hx
 unfold sls at hx
 split at hx
 · rename_i h0
   refine ⟨_,by simpa using hr,?_,?_⟩
   · intro ao' n cap' he
     injection he with e1 e2 e3
     subst e1; subst e2; subst e3
     refine ⟨_,rfl,fun g off hlt hao=>?_⟩
     subst hao
     have hsz:Enc.sz Int = 1:=rfl
     rw [if_neg (by omega)]
     simp only [Option.map_some,hsz,Nat.mul_one,Addr.add]
     by_cases hl:lo.toNat = 0 <;> simp [hl]
   · intro N L a o x i k hK ho hv hi' w
     have c2:0 ≤ lo ∧ lo ≤ (xs.length:Int):=by omega
     simp [execOp,ho,Instr.sliceAt,Instr.slice,Instr.sliceBounds,Instr.sliceBound,hK.ev hv,hK.ev hi',run_underlying hu,asIntOf,c2,hs]
 · simp at hx
theorem sl_to {u:World} {F:List Nat} {v:Value} {xs ys:List Int} {hi:Int} (hf:rd u F [v] xs) (hx:sls xs 0 hi = some ys) {t:TypeId} (hu:TS P t (Enc.sz Int)) :
    ∃ v',rd u F [v'] ys ∧ ∀ {N:Nat} {L:List (Nat × Value)} {a:Act} {o:Oper} {x j:Operand} {k:IntKind},K N L a → o.op = .slice t x none (some j) none → ev L x = some v → ev L j = some (.int k hi) → ∀ w:World,(execOp a.eval o).run P w = .ok (.value v') w:=by
 obtain ⟨ao,cap,rfl,h1,h2⟩:=rd_slice hf
 obtain ⟨e,hu,hs⟩:=hu
 have hr:=rd_sls hf hx
 unfold sls at hx
 split at hx
 · rename_i h0
   refine ⟨_,by simpa using hr,?_⟩
   intro N L a o x j k hK ho hv hj w
   have c1:0 ≤ hi ∧ hi ≤ (cap:Int):=by omega
   simp [execOp,ho,Instr.sliceAt,Instr.slice,Instr.sliceBounds,Instr.sliceBound,hK.ev hv,hK.ev hj,run_underlying hu,asIntOf,c1,hs]
 · simp at hx
def cpd (xs:List Int) (lo:Int) (ys:List Int):List Int:=xs.take lo.toNat ++ ys.take (min ys.length (xs.length - lo.toNat)) ++ xs.drop (lo.toNat + min ys.length (xs.length - lo.toNat))
def cpn (xs:List Int) (lo:Int) (ys:List Int):Int:=((min ys.length (xs.length - lo.toNat):Nat):Int)
theorem cpd_none {xs ys:List Int} {lo:Int} (h:min ys.length (xs.length - lo.toNat) = 0):cpd xs lo ys = xs:=by
 simp [cpd,h]
theorem s_cp {t t' bytes:Nat} {z:List Value} (hT:TE P t 1 bytes z) (hM:St X w0 w M) (i:Nat) {u:World} {F:List Nat} {v v':Value} {xs:List Int} (hown:ow u F [v] xs) {lo:Int} (hp:Part v lo.toNat v')
    {y:Value} {G:List Nat} {ys:List Int} (hy:rd w G [y] ys) (hK:K N L a) (hi:M[i]? = some (F,u)) {sd ss:Operand}
    (hg:gd L ops o.guard = some true) (hd:o.dst = some d) (hN:Nat.blt d N = true)
    (ho:o.op = .call { callee:=.builtin .copy,args:=#[sd,ss],argTypes:=#[t,t'] }) (hv1:ev L sd = some v') (hv2:ev L ss = some y)
    (h:∀ w' a,K N ((d,.int .i64 (cpn xs lo ys)) :: L) a → Ext F w w' → St X w0 w' (M.set i (F,w')) → ow w' F [v] (cpd xs lo ys) → wpList P ops Q rest a w'):wpList P ops Q (o :: rest) a w:=by
 obtain ⟨e,inf,hu,hinf,_,hsz1,_⟩:=hT
 have hs:(P.info? e).map (·.size) = some 1:=by rw [hinf]; simp [hsz1]
 have how:=Enc.ow_agr hown (hM.a i hi)
 have hnd:=hM.ndF i hi
 have hlt:=hM.ltF i hi
 obtain ⟨yo,ycap,rfl,hyc⟩:=rd_cellsI hy
 have hnone:∀ (ao:Option Addr) (n cap:Nat),v' = .slice ao n cap → min ys.length n = 0 → n = xs.length - lo.toNat → wpList P ops Q (o :: rest) a w:=by
  intro ao n cap hv' hm hn
  subst hv'; subst hn
  refine s_val hK hg hd hN (w':=w) (v:=.int .i64 (cpn xs lo ys)) ?_ fun a hK=>h w a hK (Ext.refl _ _) ?_ ?_
  · have:=run_copy_none (P:=P) w t t' o.type e ao yo (xs.length - lo.toNat) cap ys.length ycap hu hs hm
    simp [execOp,ho,resolve,invoke,builtin,hK.ev hv1,hK.ev hv2,this,cpn,hm,goInt]
  · exact hM.mut i hi (Ext.refl _ _) F (fun b hb=>⟨.inl hb,hlt b hb⟩) hnd
  · rw [cpd_none hm]; exact how
 rcases how with ⟨hv,rfl,rfl⟩ | ⟨g,off,cap,c,et,Gs,hv,h1,h2,h3,h4,h5,rfl,h6⟩
 · have:=(List.cons.inj hv).1
   subst this
   obtain ⟨ao',hv',_⟩:=hp none 0 0 rfl
   exact hnone ao' _ _ hv' (by simp) (by simp)
 · have:=(List.cons.inj hv).1
   subst this
   obtain ⟨ao',hv',hao⟩:=hp _ _ _ rfl
   by_cases hm:min ys.length (xs.length - lo.toNat) = 0
   · exact hnone ao' _ _ hv' hm rfl
   · subst hv'
     have hlo:lo.toNat < xs.length:=by omega
     have:=hao g off hlo rfl
     subst this
     rcases hyc with rfl | ⟨sa,rfl,hsrc⟩
     · simp at hm
     · have hsz:Enc.sz Int = 1:=rfl
       have hG:=owL_flat_nils h5
       have hc:=owL_cells h5
       rw [hsz,Nat.mul_one] at hc h4
       generalize hmm:min ys.length (xs.length - lo.toNat) = m at *
       have hcl:((ys.take m).map (Value.int .i64)).length = m:=by rw [List.length_map,List.length_take]; omega
       have hrun:=run_copy_row (P:=P) w t t' o.type e g (off + lo.toNat) (xs.length - lo.toNat) (cap - lo.toNat) sa ys.length ycap c et ((ys.take m).map (Value.int .i64)) hu hs h3 (by rw [hcl,← hmm])
        (fun j v hj=>hsrc j v (by
         rw [List.getElem?_map,List.getElem?_take] at hj
         split at hj
         · rw [List.getElem?_map]; exact hj
         · simp at hj)) (by rw [hcl]; omega) (by intro v hv; obtain ⟨n,_,rfl⟩:=List.mem_map.1 hv; rfl)
       rw [hcl] at hrun
       have hE:Ext (g :: Gs.flatten) w (w.setRow g (c.toList.take (off + lo.toNat) ++ (ys.take m).map (Value.int .i64) ++ c.toList.drop (off + lo.toNat + m)).toArray):=(Ext.setRow _ _).wk (by simp)
       have hst:=hM.mut i hi hE (g :: Gs.flatten) (fun b hb=>⟨.inl hb,Nat.lt_of_lt_of_le (hlt b hb) hE.size⟩) hnd
       have hnew:(w.setRow g (c.toList.take (off + lo.toNat) ++ (ys.take m).map (Value.int .i64) ++ c.toList.drop (off + lo.toNat + m)).toArray).heap[g]? = some (.cells (c.toList.take (off + lo.toNat) ++ (ys.take m).map (Value.int .i64) ++ c.toList.drop (off + lo.toNat + m)).toArray et (0,0)):=setRow_heap w g _ _ et _ h3
       have hsize:(c.toList.take (off + lo.toNat) ++ (ys.take m).map (Value.int .i64) ++ c.toList.drop (off + lo.toNat + m)).length = c.size:=by
        simp only [List.length_append,List.length_take,List.length_drop,hcl,Array.length_toList]; omega
       have hcpl:(cpd xs lo ys).length = xs.length:=by
        simp only [cpd,hmm,List.length_append,List.length_take,List.length_drop]; omega
       refine s_val hK hg hd hN (v:=.int .i64 (cpn xs lo ys)) ?_ fun a hK=>h _ a hK hE hst ?_
       · simp [execOp,ho,resolve,invoke,builtin,hK.ev hv1,hK.ev hv2,hrun,cpn,hmm,goInt]
       · refine .inr ⟨g,off,cap,_,et,(cpd xs lo ys).map fun _=>[],by rw [hcpl],by rw [hcpl]; exact h1,h2,hnew,?_,?_,by rw [hG,flatten_nils],h6⟩
         · rw [List.size_toArray,hsize,hsz,Nat.mul_one]; exact h4
         · have e2:((cpd xs lo ys).map (Flat.e (α:=Int))).flatten = (cpd xs lo ys).map (Value.int .i64):=by
             generalize cpd xs lo ys = zs
             induction zs with
             | nil=>rfl
             | cons z zs ih=>simp only [List.map_cons,List.flatten_cons,ih]; rfl
           have hcs:(((c.toList.take (off + lo.toNat) ++ (ys.take m).map (Value.int .i64) ++ c.toList.drop (off + lo.toNat + m)).toArray.toList.drop off).take ((cpd xs lo ys).length * Enc.sz Int)) = ((cpd xs lo ys).map Flat.e).flatten:=by
            rw [e2,hsz,Nat.mul_one,hcpl]
            have hxc:∀ j,j < xs.length → c.toList[off + j]? = (xs.map (Value.int .i64))[j]?:=by
             intro j hj
             have:=congrArg (fun l=>l[j]?) hc
             simpa [List.getElem?_take,hj,List.getElem?_drop] using this
            apply List.ext_getElem?
            intro j
            by_cases hj:j < xs.length
            · rw [List.getElem?_take,if_pos hj,List.getElem?_drop]
              simp only [cpd,hmm,List.map_append]
              by_cases hj1:j < lo.toNat
              · rw [List.getElem?_append_left (by simp [hcl]; omega),List.getElem?_append_left (by simp; omega),List.getElem?_append_left (by simp; omega),List.getElem?_append_left (by simp; omega)]
                rw [List.getElem?_take,if_pos (by omega),hxc j hj,List.map_take,List.getElem?_take,if_pos hj1]
              · by_cases hj2:j < lo.toNat + m
                · rw [List.getElem?_append_left (by simp; omega),List.getElem?_append_right (by simp; omega),List.getElem?_append_left (by simp; omega),List.getElem?_append_right (by simp; omega)]
                  congr 1
                  simp
                  omega
                · rw [List.getElem?_append_right (by simp; omega),List.getElem?_append_right (by simp; omega),List.getElem?_drop,List.map_drop,List.getElem?_drop]
                  have e3:(c.toList.take (off + lo.toNat) ++ (ys.take m).map (Value.int .i64)).length = off + lo.toNat + m:=by simp; omega
                  have e4:((xs.take lo.toNat).map (Value.int .i64) ++ (ys.take m).map (Value.int .i64)).length = lo.toNat + m:=by simp; omega
                  rw [e3,e4,show off + lo.toNat + m + (off + j - (off + lo.toNat + m)) = off + j by omega,show lo.toNat + m + (j - (lo.toNat + m)) = j by omega]
                  exact hxc j hj
            · rw [List.getElem?_take,if_neg hj,List.getElem?_eq_none (by rw [List.length_map,hcpl]; omega)]
           rw [hcs]
           exact owL_flat _
end
end Go.Proofs.YthkaklkinepfkaaGreatDoor
