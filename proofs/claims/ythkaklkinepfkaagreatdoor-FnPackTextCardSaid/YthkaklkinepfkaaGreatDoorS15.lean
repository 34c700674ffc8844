/- own lemmas -/
import Derived.Test.YthkaklkinepfkaaGreatDoorS4
import Derived.WalkKit
import Derived.ProofKit
import Derived.OpenShut
import Derived.Below
import Derived.ChangeSame
import Derived.ChangeMaps5
import Derived.Sort.Grow
import Derived.Laws.StructEq
import Derived.ChangeKeysEq
import Derived.Laws.CopyRow
import Derived.Laws.IdiomCopy
set_option linter.unusedSimpArgs false
set_option linter.unusedVariables false
namespace Go.Proofs.YthkaklkinepfkaaGreatDoor
open Go Go.RowKit
open Enc (rd ow)
abbrev I (n:Int):Value:=.int .i64 n
theorem z.{u} {α:Sort u} {a:α}:a=a:=rfl
theorem Qfl {place:Nat→Option (Nat×Nat)} {cells c:Array Value} {i off:Nat} {v:Value} {rest:List (Nat×Value)} (hp:place i=some (off,1)) (hc:v.cells=#[v]) (hl:Nat.blt off cells.size=true)
    (h:Instr.fill place (cells.setIfInBounds off v) rest=some c):Instr.fill place cells ((i,v)::rest)=some c:=by
 have hl':off<cells.size:=by simpa using hl
 unfold Instr.fill
 simp only [hp,hc]
 rw [if_neg (by simp; omega)]
 simpa using h
section
variable {P:Program} {ops:Array Oper} {Q:Exit→Act→World→Prop} {rest:List Oper} {o:Oper} {a:Act} {w:World} {N:Nat} {L:List (Nat×Value)}
variable {X:List Nat} {w0:World} {M:List (List Nat×World)} {d:Nat} {S:World→Prop} {fuel:Nat} {listed:Array Bool} {next:Act→World→Prop} {x y z:Code} {id:Nat} {l:List Oper}
theorem wr (h:wpList P l.toArray (Exit.then (λa w=>y.wp P Q a w) Q) l a w):(Code.seq (.region id l.toArray false) y).wp P Q a w:=wp_seq (wp_region_lit h)
theorem nn (h:next a w):wpList P ops (Exit.then next Q) [] a w:=wpList_nil (Qad h)
def chk (L:List (Nat×Value)) (ops:Array Oper) (N:Nat) (b:Bool) (o:Oper):Option Nat:=match o.dst with
 | none=>none
 | some d=>match gd L ops o.guard with
  | none=>none
  | some c=>bif Nat.blt d N then (if c=b then some d else none) else none
theorem Qlw {b:Bool} (h:chk L ops N b o=some d):gd L ops o.guard=some b∧o.dst=some d∧Nat.blt d N=true:=by
 unfold chk at h
 cases h1:o.dst with
 | none=>rw [h1] at h; cases h
 | some e =>
  rw [h1] at h
  cases h2:gd L ops o.guard with
  | none=>rw [h2] at h; cases h
  | some c =>
   rw [h2] at h
   cases h3:Nat.blt e N
   · simp [h3] at h
   · simp only [h3,cond_true] at h
     split at h
     · rename_i hc
       cases h
       exact ⟨by rw [hc],rfl,h3⟩
     · cases h
def Jhq (N:Nat) (ops:Array Oper):Nat→List Oper→List (Nat×Value)→Option (List Oper×List (Nat×Value))
 | 0,l,L=>some (l,L)
 | _+1,[],_=>none
 | n+1,o::r,L=>match o.dst with
  | none=>none
  | some d=>bif Nat.blt d N then (match gd L ops o.guard with
   | none=>none
   | some false=>Jhq N ops n r ((d,undef)::L)
   | some true=>match Qnq L o.op with
    | none=>none
    | some v=>Jhq N ops n r ((d,v)::L)) else none
theorem pN:∀ (n:Nat) {l:List Oper} {L L':List (Nat×Value)} {a:Act},K N L a→Jhq N ops n l L=some (rest,L')→(∀ a,K N L' a→wpList P ops Q rest a w)→wpList P ops Q l a w
 | 0,l,L,L',a,hK,h1,h=>by
  simp only [Jhq,Option.some.injEq,Prod.mk.injEq] at h1
  obtain ⟨rfl,rfl⟩:=h1
  exact h a hK
 | n+1,[],L,L',a,hK,h1,h=>by simp [Jhq] at h1
 | n+1,o::r,L,L',a,hK,h1,h=>by
  unfold Jhq at h1
  cases hd:o.dst with
  | none=>simp [hd] at h1
  | some d =>
   simp only [hd] at h1
   cases hN:Nat.blt d N
   · simp [hN] at h1
   · simp only [hN,cond_true] at h1
     cases hg:gd L ops o.guard with
     | none=>simp [hg] at h1
     | some c =>
      simp only [hg] at h1
      cases c
      · exact sk hK hg hd hN λa hK=>pN n hK h1 h
      · simp only at h1
        cases hp:Qnq L o.op with
        | none=>simp [hp] at h1
        | some v =>
         simp only [hp] at h1
         exact s1 hK hg hd hN hp λa hK=>pN n hK h1 h
theorem sv (hK:K N L a) {v:Value} {w':World} (hc:chk L ops N true o=some d) (hr:(execOp a.eval o).run P w=.ok (.value v) w') (h:∀ a,K N ((d,v)::L) a→wpList P ops Q rest a w'):wpList P ops Q (o::rest) a w :=
 Que hK (Qlw hc).1 (Qlw hc).2.1 (Qlw hc).2.2 hr h
theorem cE (hK:K N L a) (hM:St X w0 w M) {f:FuncId} {xs:List Operand} {vs:List Value} {v:Value} {tys:Array TypeId}
    (hcall:∀ (args:Array Value) (w:World),(callFunc f args).run P w=.ok (.enter f args) w) (hd:chk L ops N true o=some d)
    (ho:o.op=.call { callee:=.value (.func f),args:=xs.toArray,argTypes:=tys }) (hv:evs L xs=some vs)
    (hc:Calls P f vs.toArray w λe w'=>e=.returned v∧Ext [] w w') (hR:∀ w',Ext [] w w'→∀ a,K N ((d,v)::L) a→St X w0 w' M→wpList P ops Q rest a w'):wpList P ops Q (o::rest) a w :=
 Q8u hK hcall (Qlw hd).1 (Qlw hd).2.1 (Qlw hd).2.2 ho hv hc λe w' hR'=>by
  obtain ⟨rfl,hE⟩:=hR'
  exact ⟨_,rfl,λa hK=>hR w' hE a hK (hM.step hE)⟩
def okD (ops:Array Oper) (listed:Array Bool) (i:Nat):Bool:=Region.noSelect ops&&(Region.free .any ops listed i&&(Region.ready .any ops listed).contains i)
theorem Qgm {i:Nat} (h:okD ops listed i=true):Region.noSelect ops=true∧Region.free .any ops listed i=true∧(Region.ready .any ops listed).contains i=true:=by
 simpa [okD] using h
theorem dt (hK:K N L a) (i:Nat) {v:Value} (hi:ops[i]? = some o) (ho:okD ops listed i=true) (hc:chk L ops N true o=some d) (hS:S w) (hQ:∀ c a w,Q (.panic c) (a.put o.dst v) w→Q (.panic c) a w)
    (hy:∀ w,S w→(execOp a.eval o).run P w=.ok (.value v) w) (h:∀ a,K N ((d,v)::L) a→wpAnyH P .any ops Q S fuel (listed.setIfInBounds i true) a w):wpAnyH P .any ops Q S (fuel+1) listed a w :=
 Q65 hK i hi (Qgm ho).1 (Qgm ho).2.1 (Qgm ho).2.2 (Qlw hc).1 (Qlw hc).2.1 (Qlw hc).2.2 hS hQ hy h
theorem ds (hK:K N L a) (i:Nat) (hi:ops[i]? = some o) (ho:okD ops listed i=true) (hc:chk L ops N false o=some d) (hS:S w) (hQ:∀ c a w,Q (.panic c) (a.put o.dst undef) w→Q (.panic c) a w)
    (h:∀ a,K N ((d,undef)::L) a→wpAnyH P .any ops Q S fuel (listed.setIfInBounds i true) a w):wpAnyH P .any ops Q S (fuel+1) listed a w :=
 Jb4 hK i hi (Qgm ho).1 (Qgm ho).2.1 (Qgm ho).2.2 (Qlw hc).1 (Qlw hc).2.1 (Qlw hc).2.2 hS hQ h
def okN (ops:Array Oper):Array Bool→List Nat→Bool
 | _,[]=>true
 | l,i::is=>okD ops l i&&okN ops (l.setIfInBounds i true) is
def Jir:Array Bool→List Nat→Array Bool
 | l,[]=>l
 | l,i::is=>Jir (l.setIfInBounds i true) is
def Jh6 (N:Nat) (ops:Array Oper):List Nat→List (Nat×Value)→Option (List (Nat×Value))
 | [],L=>some L
 | i::is,L=>match ops[i]? with
  | none=>none
  | some o=>match o.dst with
   | none=>none
   | some d=>bif Nat.blt d N then (match gd L ops o.guard with
    | none=>none
    | some false=>Jh6 N ops is ((d,undef)::L)
    | some true=>match Qnq L o.op with
     | none=>none
     | some v=>Jh6 N ops is ((d,v)::L)) else none
theorem dN:∀ (is:List Nat) (n:Nat) {listed:Array Bool} {L L':List (Nat×Value)} {a:Act},is.length=n→K N L a→okN ops listed is=true→Jh6 N ops is L=some L'→S w →
    (∀ c (a:Act) d v w,Q (.panic c) (a.put (some d) v) w→Q (.panic c) a w)→(∀ a,K N L' a→wpAnyH P .any ops Q S fuel (Jir listed is) a w)→wpAnyH P .any ops Q S (fuel+n) listed a w
 | [],n,listed,L,L',a,hn,hK,ho,hv,hS,hQ,h=>by
  subst hn
  simp only [Jh6,Option.some.injEq] at hv
  subst hv
  exact h a hK
 | i::is,n,listed,L,L',a,hn,hK,ho,hv,hS,hQ,h=>by
  subst hn
  simp only [okN,Bool.and_eq_true] at ho
  unfold Jh6 at hv
  cases hi:ops[i]? with
  | none=>simp [hi] at hv
  | some o =>
   simp only [hi] at hv
   cases hd:o.dst with
   | none=>simp [hd] at hv
   | some d =>
    simp only [hd] at hv
    cases hN:Nat.blt d N
    · simp [hN] at hv
    · simp only [hN,cond_true] at hv
      cases hg:gd L ops o.guard with
      | none=>simp [hg] at hv
      | some c =>
       simp only [hg] at hv
       cases c
       · exact Jb4 hK i hi (Qgm ho.1).1 (Qgm ho.1).2.1 (Qgm ho.1).2.2 hg hd hN hS (λc a w=>by rw [hd]; exact hQ c a d _ w) λa hK=>dN is _ rfl hK ho.2 hv hS hQ h
       · simp only at hv
         cases hp:Qnq L o.op with
         | none=>simp [hp] at hv
         | some v =>
          simp only [hp] at hv
          exact Jd5 hK i hi (Qgm ho.1).1 (Qgm ho.1).2.1 (Qgm ho.1).2.2 hg hd hN hS (λc a w=>by rw [hd]; exact hQ c a d _ w) hp λa hK=>dN is _ rfl hK ho.2 hv hS hQ h
theorem cI {α:Type} {b:Bool} {p q r:α} {t:Operand} (h:(bif b then p else q)=r) (hK:K N L a) (hc:ev L t=some (.bool b)) (ht:b=true→p=r→x.wp P Q a w) (hf:b=false→q=r→y.wp P Q a w) :
    (Code.cond t x y).wp P Q a w:=Jec hK hc (λhb=>ht hb (Qzf hb h)) (λhb=>hf hb (Qz6 hb h))
theorem K.rb (hK:K N L a) (d:Nat) {b c:Bool} (hl:lk L d=some (.bool b)) (e:b=c):K N ((d,.bool c)::L) a:=hK.re hl (congrArg Value.bool e)
theorem rB (hK:K N L a) (d:Nat) {b c:Bool} {p:Prop} (hl:lk L d=some (.bool b)) (e:b=c) (h:K N ((d,.bool c)::L) a→p):p:=h (hK.rb d hl e)
theorem oE {α β:Type} {m:Option α} {k:α→Option β} {r:β} {p:Prop} (h:Qab m k=some r) (hp:∀ x,m=some x→k x=some r→p):p:=by
 obtain ⟨x,h1,h2⟩:=Qt3 h
 exact hp x h1 h2
theorem nS {α:Type} {r:α} {p:Prop} (h:(none:Option α)=some r):p:=by cases h
end
theorem fx {P:Program} {fn:Func} {a:Act} {w w0:World} {N:Nat} {L:List (Nat×Value)} {X:List Nat} {M:List (List Nat×World)} {t:Nat} {v:Value} (hK:K N L a) (hM:St X w0 w M) (hr:fn.results=#[.tmp t]) (hl:lk L t=some v) :
    bodyPost P fn (λe w=>e=.returned v∧Ext X w0 w) .ret a w:=Qbj hK hr (RV.tmp hK hl) ⟨rfl,hM.ext⟩
theorem fS {P:Program} {fn:Func} {a:Act} {w w0:World} {N:Nat} {L:List (Nat×Value)} {X:List Nat} {M:List (List Nat×World)} {t:Nat} {α:Type} {f:α→Value} {u r:α} (h:some u=some r) (hK:K N L a) (hM:St X w0 w M) (hr:fn.results=#[.tmp t]) (hl:lk L t=some (f u)) :
    bodyPost P fn (λe w=>e=.returned (f r)∧Ext X w0 w) .ret a w:=by
 cases h
 exact fx hK hM hr hl
end Go.Proofs.YthkaklkinepfkaaGreatDoor
set_option linter.unusedSimpArgs false
set_option linter.unusedVariables false
namespace Go.Proofs.YthkaklkinepfkaaGreatDoor
open Go Go.RowKit
open Enc (rd ow)
open Arg (argv)
open Ret (retv)
structure Pallet where
 fW:Int
 fD:Int
 fH:Int
 fQ:Int
 deriving DecidableEq
instance:Flat Pallet:=⟨4,λx=>[.int .i64 (x.fW),.int .i64 (x.fD),.int .i64 (x.fH),.int .i64 (x.fQ)],λ_=>rfl,λx=>by intro c hc; simp only [List.mem_cons,List.not_mem_nil,or_false] at hc; rcases hc with rfl | rfl | rfl | rfl <;> rfl⟩
instance:Arg Pallet:=⟨λ_ v x=>v=.agg (Flat.e x).toArray⟩
instance:Ret Pallet:=⟨λx=>.agg (Flat.e x).toArray⟩
structure Pair where
 fA:Int
 fB:Int
 deriving DecidableEq
instance:Flat Pair:=⟨2,λx=>[.int .i64 (x.fA),.int .i64 (x.fB)],λ_=>rfl,λx=>by intro c hc; simp only [List.mem_cons,List.not_mem_nil,or_false] at hc; rcases hc with rfl | rfl <;> rfl⟩
instance:Arg Pair:=⟨λ_ v x=>v=.agg (Flat.e x).toArray⟩
instance:Ret Pair:=⟨λx=>.agg (Flat.e x).toArray⟩
structure Typ where
 ft:Int
 fW:Int
 fH:Int
 fD:Int
 qQ:Int
 fQ:Int
 fl:Int
 deriving DecidableEq
instance:Flat Typ:=⟨7,λx=>[.int .i64 (x.ft),.int .i64 (x.fW),.int .i64 (x.fH),.int .i64 (x.fD),.int .i64 (x.qQ),.int .i64 (x.fQ),.int .i64 (x.fl)],λ_=>rfl,λx=>by intro c hc; simp only [List.mem_cons,List.not_mem_nil,or_false] at hc; rcases hc with rfl | rfl | rfl | rfl | rfl | rfl | rfl <;> rfl⟩
instance:Arg Typ:=⟨λ_ v x=>v=.agg (Flat.e x).toArray⟩
instance:Ret Typ:=⟨λx=>.agg (Flat.e x).toArray⟩
structure Item where
 ft:Int
 fW:Int
 fH:Int
 fD:Int
 fQ:Int
 fK:Int
 fF:Int
 deriving DecidableEq
instance:Flat Item:=⟨7,λx=>[.int .i64 (x.ft),.int .i64 (x.fW),.int .i64 (x.fH),.int .i64 (x.fD),.int .i64 (x.fQ),.int .i64 (x.fK),.int .i64 (x.fF)],λ_=>rfl,λx=>by intro c hc; simp only [List.mem_cons,List.not_mem_nil,or_false] at hc; rcases hc with rfl | rfl | rfl | rfl | rfl | rfl | rfl <;> rfl⟩
instance:Arg Item:=⟨λ_ v x=>v=.agg (Flat.e x).toArray⟩
instance:Ret Item:=⟨λx=>.agg (Flat.e x).toArray⟩
structure Request where
 f0:Int
 fJ:Pallet
 fG:Int
 fR:List Pair
 fU:List Typ
 fT:Int
 fV:List Item
instance:Enc Request where
 sz:=10
 rd:=λw F cs x=>∃ (c0:Value) (F0:List Nat) (c1:Value) (F1:List Nat) (c2:Value) (F2:List Nat),cs=[.int .i64 (x.f0),.int .i64 (x.fJ.fW),.int .i64 (x.fJ.fD),.int .i64 (x.fJ.fH),.int .i64 (x.fJ.fQ),.int .i64 (x.fG),c0,c1,.int .i64 (x.fT),c2]∧F=F0++(F1++(F2))∧rd w F0 [c0] x.fR∧rd w F1 [c1] x.fU∧rd w F2 [c2] x.fV
 ow:=λw F cs x=>∃ (c0:Value) (F0:List Nat) (c1:Value) (F1:List Nat) (c2:Value) (F2:List Nat),cs=[.int .i64 (x.f0),.int .i64 (x.fJ.fW),.int .i64 (x.fJ.fD),.int .i64 (x.fJ.fH),.int .i64 (x.fJ.fQ),.int .i64 (x.fG),c0,c1,.int .i64 (x.fT),c2]∧F=F0++(F1++(F2))∧ow w F0 [c0] x.fR∧ow w F1 [c1] x.fU∧ow w F2 [c2] x.fV∧F.Nodup
 rd_sz:=λh=>by obtain ⟨c0,F0,c1,F1,c2,F2,rfl,rfl,h0,h1,h2⟩:=h; rfl
 rd_one:=λh=>by
  obtain ⟨c0,F0,c1,F1,c2,F2,rfl,rfl,h0,h1,h2⟩:=h
  intro c hc
  simp only [List.mem_cons,List.not_mem_nil,or_false] at hc
  rcases hc with rfl | rfl | rfl | rfl | rfl | rfl | rfl | rfl | rfl | rfl <;> first | rfl | exact Enc.rd_one h0 _ (List.mem_singleton.2 rfl) | exact Enc.rd_one h1 _ (List.mem_singleton.2 rfl) | exact Enc.rd_one h2 _ (List.mem_singleton.2 rfl)
 ow_rd:=λh=>by obtain ⟨c0,F0,c1,F1,c2,F2,rfl,rfl,h0,h1,h2,_⟩:=h; exact ⟨c0,_,c1,_,c2,_,rfl,rfl,Enc.ow_rd h0,Enc.ow_rd h1,Enc.ow_rd h2⟩
 rd_lt:=λh=>by
  obtain ⟨c0,F0,c1,F1,c2,F2,rfl,rfl,h0,h1,h2⟩:=h
  intro b hb
  simp only [List.mem_append] at hb
  rcases hb with hb | hb | hb
  · exact Enc.rd_lt h0 b hb
  · exact Enc.rd_lt h1 b hb
  · exact Enc.rd_lt h2 b hb
 rd_agr:=λh hA=>by obtain ⟨c0,F0,c1,F1,c2,F2,rfl,rfl,h0,h1,h2⟩:=h; exact ⟨c0,_,c1,_,c2,_,rfl,rfl,Enc.rd_agr h0 (hA.sub (λb hb=>List.mem_append_left _ hb)),Enc.rd_agr h1 (hA.sub (λb hb=>List.mem_append_right _ (List.mem_append_left _ hb))),Enc.rd_agr h2 (hA.sub (λb hb=>List.mem_append_right _ (List.mem_append_right _ (hb))))⟩
 ow_agr:=λh hA=>by obtain ⟨c0,F0,c1,F1,c2,F2,rfl,rfl,h0,h1,h2,hn⟩:=h; exact ⟨c0,_,c1,_,c2,_,rfl,rfl,Enc.ow_agr h0 (hA.sub (λb hb=>List.mem_append_left _ hb)),Enc.ow_agr h1 (hA.sub (λb hb=>List.mem_append_right _ (List.mem_append_left _ hb))),Enc.ow_agr h2 (hA.sub (λb hb=>List.mem_append_right _ (List.mem_append_right _ (hb)))),hn⟩
 ow_nd:=λh=>by obtain ⟨c0,F0,c1,F1,c2,F2,_,_,_,_,_,hn⟩:=h; exact hn
instance:Arg Request:=⟨λw v x=>∃ cs F,v=.agg cs.toArray∧rd w F cs x⟩
structure Carton where
 qY:Int
 qJ:Int
 fO:List Int
instance:Enc Carton where
 sz:=3
 rd:=λw F cs x=>∃ (c0:Value) (F0:List Nat),cs=[.int .i64 (x.qY),.int .i64 (x.qJ),c0]∧F=F0∧rd w F0 [c0] x.fO
 ow:=λw F cs x=>∃ (c0:Value) (F0:List Nat),cs=[.int .i64 (x.qY),.int .i64 (x.qJ),c0]∧F=F0∧ow w F0 [c0] x.fO∧F.Nodup
 rd_sz:=λh=>by obtain ⟨c0,F0,rfl,rfl,h0⟩:=h; rfl
 rd_one:=λh=>by
  obtain ⟨c0,F0,rfl,rfl,h0⟩:=h
  intro c hc
  simp only [List.mem_cons,List.not_mem_nil,or_false] at hc
  rcases hc with rfl | rfl | rfl <;> first | rfl | exact Enc.rd_one h0 _ (List.mem_singleton.2 rfl)
 ow_rd:=λh=>by obtain ⟨c0,F0,rfl,rfl,h0,_⟩:=h; exact ⟨c0,_,rfl,rfl,Enc.ow_rd h0⟩
 rd_lt:=λh=>by
  obtain ⟨c0,F0,rfl,rfl,h0⟩:=h
  intro b hb
  exact Enc.rd_lt h0 b hb
 rd_agr:=λh hA=>by obtain ⟨c0,F0,rfl,rfl,h0⟩:=h; exact ⟨c0,_,rfl,rfl,Enc.rd_agr h0 hA⟩
 ow_agr:=λh hA=>by obtain ⟨c0,F0,rfl,rfl,h0,hn⟩:=h; exact ⟨c0,_,rfl,rfl,Enc.ow_agr h0 hA,hn⟩
 ow_nd:=λh=>by obtain ⟨c0,F0,_,_,_,hn⟩:=h; exact hn
instance:Arg Carton:=⟨λw v x=>∃ cs F,v=.agg cs.toArray∧rd w F cs x⟩
structure Spot where
 fJ:Int
 fX:Int
 fY:Int
 fZ:Int
 deriving DecidableEq
instance:Flat Spot:=⟨4,λx=>[.int .i64 (x.fJ),.int .i64 (x.fX),.int .i64 (x.fY),.int .i64 (x.fZ)],λ_=>rfl,λx=>by intro c hc; simp only [List.mem_cons,List.not_mem_nil,or_false] at hc; rcases hc with rfl | rfl | rfl | rfl <;> rfl⟩
instance:Arg Spot:=⟨λ_ v x=>v=.agg (Flat.e x).toArray⟩
instance:Ret Spot:=⟨λx=>.agg (Flat.e x).toArray⟩
structure Plan where
 fE:List Carton
 f9:List Spot
instance:Enc Plan where
 sz:=2
 rd:=λw F cs x=>∃ (c0:Value) (F0:List Nat) (c1:Value) (F1:List Nat),cs=[c0,c1]∧F=F0++(F1)∧rd w F0 [c0] x.fE∧rd w F1 [c1] x.f9
 ow:=λw F cs x=>∃ (c0:Value) (F0:List Nat) (c1:Value) (F1:List Nat),cs=[c0,c1]∧F=F0++(F1)∧ow w F0 [c0] x.fE∧ow w F1 [c1] x.f9∧F.Nodup
 rd_sz:=λh=>by obtain ⟨c0,F0,c1,F1,rfl,rfl,h0,h1⟩:=h; rfl
 rd_one:=λh=>by
  obtain ⟨c0,F0,c1,F1,rfl,rfl,h0,h1⟩:=h
  intro c hc
  simp only [List.mem_cons,List.not_mem_nil,or_false] at hc
  rcases hc with rfl | rfl <;> first | rfl | exact Enc.rd_one h0 _ (List.mem_singleton.2 rfl) | exact Enc.rd_one h1 _ (List.mem_singleton.2 rfl)
 ow_rd:=λh=>by obtain ⟨c0,F0,c1,F1,rfl,rfl,h0,h1,_⟩:=h; exact ⟨c0,_,c1,_,rfl,rfl,Enc.ow_rd h0,Enc.ow_rd h1⟩
 rd_lt:=λh=>by
  obtain ⟨c0,F0,c1,F1,rfl,rfl,h0,h1⟩:=h
  intro b hb
  simp only [List.mem_append] at hb
  rcases hb with hb | hb
  · exact Enc.rd_lt h0 b hb
  · exact Enc.rd_lt h1 b hb
 rd_agr:=λh hA=>by obtain ⟨c0,F0,c1,F1,rfl,rfl,h0,h1⟩:=h; exact ⟨c0,_,c1,_,rfl,rfl,Enc.rd_agr h0 (hA.sub (λb hb=>List.mem_append_left _ hb)),Enc.rd_agr h1 (hA.sub (λb hb=>List.mem_append_right _ (hb)))⟩
 ow_agr:=λh hA=>by obtain ⟨c0,F0,c1,F1,rfl,rfl,h0,h1,hn⟩:=h; exact ⟨c0,_,c1,_,rfl,rfl,Enc.ow_agr h0 (hA.sub (λb hb=>List.mem_append_left _ hb)),Enc.ow_agr h1 (hA.sub (λb hb=>List.mem_append_right _ (hb))),hn⟩
 ow_nd:=λh=>by obtain ⟨c0,F0,c1,F1,_,_,_,_,hn⟩:=h; exact hn
instance:Arg Plan:=⟨λw v x=>∃ cs F,v=.agg cs.toArray∧rd w F cs x⟩
structure Box where
 fW:Int
 fD:Int
 fH:Int
 fQ:Int
 deriving DecidableEq
instance:Flat Box:=⟨4,λx=>[.int .i64 (x.fW),.int .i64 (x.fD),.int .i64 (x.fH),.int .i64 (x.fQ)],λ_=>rfl,λx=>by intro c hc; simp only [List.mem_cons,List.not_mem_nil,or_false] at hc; rcases hc with rfl | rfl | rfl | rfl <;> rfl⟩
instance:Arg Box:=⟨λ_ v x=>v=.agg (Flat.e x).toArray⟩
instance:Ret Box:=⟨λx=>.agg (Flat.e x).toArray⟩
structure Load where
 fL:List Int
 fH:Int
 fQ:Int
instance:Enc Load where
 sz:=3
 rd:=λw F cs x=>∃ (c0:Value) (F0:List Nat),cs=[c0,.int .i64 (x.fH),.int .i64 (x.fQ)]∧F=F0∧rd w F0 [c0] x.fL
 ow:=λw F cs x=>∃ (c0:Value) (F0:List Nat),cs=[c0,.int .i64 (x.fH),.int .i64 (x.fQ)]∧F=F0∧ow w F0 [c0] x.fL∧F.Nodup
 rd_sz:=λh=>by obtain ⟨c0,F0,rfl,rfl,h0⟩:=h; rfl
 rd_one:=λh=>by
  obtain ⟨c0,F0,rfl,rfl,h0⟩:=h
  intro c hc
  simp only [List.mem_cons,List.not_mem_nil,or_false] at hc
  rcases hc with rfl | rfl | rfl <;> first | rfl | exact Enc.rd_one h0 _ (List.mem_singleton.2 rfl)
 ow_rd:=λh=>by obtain ⟨c0,F0,rfl,rfl,h0,_⟩:=h; exact ⟨c0,_,rfl,rfl,Enc.ow_rd h0⟩
 rd_lt:=λh=>by
  obtain ⟨c0,F0,rfl,rfl,h0⟩:=h
  intro b hb
  exact Enc.rd_lt h0 b hb
 rd_agr:=λh hA=>by obtain ⟨c0,F0,rfl,rfl,h0⟩:=h; exact ⟨c0,_,rfl,rfl,Enc.rd_agr h0 hA⟩
 ow_agr:=λh hA=>by obtain ⟨c0,F0,rfl,rfl,h0,hn⟩:=h; exact ⟨c0,_,rfl,rfl,Enc.ow_agr h0 hA,hn⟩
 ow_nd:=λh=>by obtain ⟨c0,F0,_,_,_,hn⟩:=h; exact hn
instance:Arg Load:=⟨λw v x=>∃ cs F,v=.agg cs.toArray∧rd w F cs x⟩
structure Layer where
 fP:List Int
 fD:Int
 fH:Int
 fQ:Int
instance:Enc Layer where
 sz:=4
 rd:=λw F cs x=>∃ (c0:Value) (F0:List Nat),cs=[c0,.int .i64 (x.fD),.int .i64 (x.fH),.int .i64 (x.fQ)]∧F=F0∧rd w F0 [c0] x.fP
 ow:=λw F cs x=>∃ (c0:Value) (F0:List Nat),cs=[c0,.int .i64 (x.fD),.int .i64 (x.fH),.int .i64 (x.fQ)]∧F=F0∧ow w F0 [c0] x.fP∧F.Nodup
 rd_sz:=λh=>by obtain ⟨c0,F0,rfl,rfl,h0⟩:=h; rfl
 rd_one:=λh=>by
  obtain ⟨c0,F0,rfl,rfl,h0⟩:=h
  intro c hc
  simp only [List.mem_cons,List.not_mem_nil,or_false] at hc
  rcases hc with rfl | rfl | rfl | rfl <;> first | rfl | exact Enc.rd_one h0 _ (List.mem_singleton.2 rfl)
 ow_rd:=λh=>by obtain ⟨c0,F0,rfl,rfl,h0,_⟩:=h; exact ⟨c0,_,rfl,rfl,Enc.ow_rd h0⟩
 rd_lt:=λh=>by
  obtain ⟨c0,F0,rfl,rfl,h0⟩:=h
  intro b hb
  exact Enc.rd_lt h0 b hb
 rd_agr:=λh hA=>by obtain ⟨c0,F0,rfl,rfl,h0⟩:=h; exact ⟨c0,_,rfl,rfl,Enc.rd_agr h0 hA⟩
 ow_agr:=λh hA=>by obtain ⟨c0,F0,rfl,rfl,h0,hn⟩:=h; exact ⟨c0,_,rfl,rfl,Enc.ow_agr h0 hA,hn⟩
 ow_nd:=λh=>by obtain ⟨c0,F0,_,_,_,hn⟩:=h; exact hn
instance:Arg Layer:=⟨λw v x=>∃ cs F,v=.agg cs.toArray∧rd w F cs x⟩
structure Shelf where
 fM:List Int
 fW:Int
 fD:Int
 fH:Int
 fQ:Int
instance:Enc Shelf where
 sz:=5
 rd:=λw F cs x=>∃ (c0:Value) (F0:List Nat),cs=[c0,.int .i64 (x.fW),.int .i64 (x.fD),.int .i64 (x.fH),.int .i64 (x.fQ)]∧F=F0∧rd w F0 [c0] x.fM
 ow:=λw F cs x=>∃ (c0:Value) (F0:List Nat),cs=[c0,.int .i64 (x.fW),.int .i64 (x.fD),.int .i64 (x.fH),.int .i64 (x.fQ)]∧F=F0∧ow w F0 [c0] x.fM∧F.Nodup
 rd_sz:=λh=>by obtain ⟨c0,F0,rfl,rfl,h0⟩:=h; rfl
 rd_one:=λh=>by
  obtain ⟨c0,F0,rfl,rfl,h0⟩:=h
  intro c hc
  simp only [List.mem_cons,List.not_mem_nil,or_false] at hc
  rcases hc with rfl | rfl | rfl | rfl | rfl <;> first | rfl | exact Enc.rd_one h0 _ (List.mem_singleton.2 rfl)
 ow_rd:=λh=>by obtain ⟨c0,F0,rfl,rfl,h0,_⟩:=h; exact ⟨c0,_,rfl,rfl,Enc.ow_rd h0⟩
 rd_lt:=λh=>by
  obtain ⟨c0,F0,rfl,rfl,h0⟩:=h
  intro b hb
  exact Enc.rd_lt h0 b hb
 rd_agr:=λh hA=>by obtain ⟨c0,F0,rfl,rfl,h0⟩:=h; exact ⟨c0,_,rfl,rfl,Enc.rd_agr h0 hA⟩
 ow_agr:=λh hA=>by obtain ⟨c0,F0,rfl,rfl,h0,hn⟩:=h; exact ⟨c0,_,rfl,rfl,Enc.ow_agr h0 hA,hn⟩
 ow_nd:=λh=>by obtain ⟨c0,F0,_,_,_,hn⟩:=h; exact hn
instance:Arg Shelf:=⟨λw v x=>∃ cs F,v=.agg cs.toArray∧rd w F cs x⟩
structure L7 where
 fvol:Int
 fgram:Int
 deriving DecidableEq
instance:Flat L7:=⟨2,λx=>[.int .i64 (x.fvol),.int .i64 (x.fgram)],λ_=>rfl,λx=>by intro c hc; simp only [List.mem_cons,List.not_mem_nil,or_false] at hc; rcases hc with rfl | rfl <;> rfl⟩
instance:Arg L7:=⟨λ_ v x=>v=.agg (Flat.e x).toArray⟩
instance:Ret L7:=⟨λx=>.agg (Flat.e x).toArray⟩
structure Cur where
 fb:List U8
 fi:Int
 fh:Int
instance:Enc Cur where
 sz:=3
 rd:=λw F cs x=>∃ (c0:Value) (F0:List Nat),cs=[c0,.int .i64 (x.fi),.int .i64 (x.fh)]∧F=F0∧rd w F0 [c0] x.fb
 ow:=λw F cs x=>∃ (c0:Value) (F0:List Nat),cs=[c0,.int .i64 (x.fi),.int .i64 (x.fh)]∧F=F0∧ow w F0 [c0] x.fb∧F.Nodup
 rd_sz:=λh=>by obtain ⟨c0,F0,rfl,rfl,h0⟩:=h; rfl
 rd_one:=λh=>by
  obtain ⟨c0,F0,rfl,rfl,h0⟩:=h
  intro c hc
  simp only [List.mem_cons,List.not_mem_nil,or_false] at hc
  rcases hc with rfl | rfl | rfl <;> first | rfl | exact Enc.rd_one h0 _ (List.mem_singleton.2 rfl)
 ow_rd:=λh=>by obtain ⟨c0,F0,rfl,rfl,h0,_⟩:=h; exact ⟨c0,_,rfl,rfl,Enc.ow_rd h0⟩
 rd_lt:=λh=>by
  obtain ⟨c0,F0,rfl,rfl,h0⟩:=h
  intro b hb
  exact Enc.rd_lt h0 b hb
 rd_agr:=λh hA=>by obtain ⟨c0,F0,rfl,rfl,h0⟩:=h; exact ⟨c0,_,rfl,rfl,Enc.rd_agr h0 hA⟩
 ow_agr:=λh hA=>by obtain ⟨c0,F0,rfl,rfl,h0,hn⟩:=h; exact ⟨c0,_,rfl,rfl,Enc.ow_agr h0 hA,hn⟩
 ow_nd:=λh=>by obtain ⟨c0,F0,_,_,_,hn⟩:=h; exact hn
instance:Arg Cur:=⟨λw v x=>∃ cs F,v=.agg cs.toArray∧rd w F cs x⟩
end Go.Proofs.YthkaklkinepfkaaGreatDoor
set_option linter.unusedSimpArgs false
set_option linter.unusedVariables false
namespace Go.Proofs.YthkaklkinepfkaaGreatDoor
open Go Go.RowKit Go.ChangeShapes Go.WideShapes Go.ChangeAt
open Enc (rd ow)
open Arg (argv)
open Ret (retv)
class Wf (α:Type) where
 wf:α→Prop
open Wf (wf)
instance:Wf Int:=⟨λn=>-9223372036854775808≤n∧n≤9223372036854775807⟩
instance:Wf U8:=⟨λb=>0≤b.n∧b.n≤255⟩
instance:Wf Bool:=⟨λ_=>True⟩
instance:Wf ByteArray:=⟨λs=>s.size≤maxLen⟩
instance {α:Type} [Wf α]:Wf (List α):=⟨λxs=>xs.length≤maxLen∧∀ x∈xs,wf x⟩
def TR (P:Program) (t:TypeId) (α:Type) [Enc α] [Wf α]:Prop :=
 ∀ {H:Type} (enc:TypeId×Value→H) (W:World) (n:Nat) (cs:List Value) (x:DataW H×List MemPlace),
  DataW.trod enc P W 0 (λ_=>true) true n t cs=some x→∃ F v,rd W F cs v∧wf (α:=α) v
theorem Jnk {P:Program} {t:TypeId} (ht:P.underlying t=some (.int .u8)):TR P t U8:=by
 intro H enc W n cs x h
 obtain ⟨m,rfl,_,hw⟩:=DataW.trod_int ht h
 simp only [Lit.wf,IntKind.min,IntKind.max,IntKind.signed,IntKind.bits,Bool.and_eq_true,decide_eq_true_eq] at hw
 refine ⟨[],⟨m⟩,⟨rfl,rfl⟩,?_⟩
 show _∧_
 simpa using hw
theorem Qyr {α:Type} [Enc α] {w:World} {F G:List Nat} (hs:∀ b∈F,b∈G):∀ {cells:List Value} {xs:List α},rdL w F cells xs→rdL w G cells xs
 | _,[],_=>trivial
 | _,_::_,⟨⟨K,hK,h⟩,h'⟩=>⟨⟨K,λb hb=>hs b (hK b hb),h⟩,Qyr hs h'⟩
theorem Q32 {α:Type} [Enc α] [Wf α] {W:World} (cells:List Value):∀ (n:Nat) (off:Nat),
    (∀ i,i<n→∃ G x,rd W G ((cells.drop (off+i*Enc.sz α)).take (Enc.sz α)) x∧wf (α:=α) x) →
    ∃ F xs,xs.length=n∧(∀ b∈F,b<W.heap.size)∧rdL (α:=α) W F (cells.drop off) xs∧∀ x∈xs,wf x
 | 0,_,_=>⟨[],[],rfl,by simp,trivial,by simp⟩
 | n+1,off,h=>by
  obtain ⟨G,x,hx,hw⟩:=h 0 (by omega)
  rw [Nat.zero_mul,Nat.add_zero] at hx
  obtain ⟨F,xs,hl,hlt,hr,hws⟩:=Q32 cells n (off+Enc.sz α) (λi hi=>by
   have:=h (i+1) (by omega)
   rwa [show off+(i+1)*Enc.sz α=off+Enc.sz α+i*Enc.sz α by rw [Nat.add_mul]; omega] at this)
  refine ⟨G++F,x::xs,by simp [hl],?_,?_,?_⟩
  · intro b hb
    rcases List.mem_append.1 hb with hb | hb
    · exact Enc.rd_lt hx b hb
    · exact hlt b hb
  · refine ⟨⟨G,λb hb=>List.mem_append_left _ hb,hx⟩,?_⟩
    rw [List.drop_drop]
    exact Qyr (λb hb=>List.mem_append_right _ hb) hr
  · intro y hy
    rcases List.mem_cons.1 hy with rfl | hy
    · exact hw
    · exact hws y hy
theorem Jdp {P:Program} {t e:TypeId} {α:Type} [Enc α] [Wf α] (ht:P.underlying t=some (.slice e)) (hc:P.cellsOf e=Enc.sz α) (hp:0<Enc.sz α) (he:TR P e α):TR P t (List α):=by
 intro H enc W fuel cs x h
 rcases DataW.trod_slice ht h with ⟨rfl,_⟩ | ⟨a,len,cap,elems,rest,n,_,rfl,_,_,hl,hm,hlen,hel,_,_⟩
 · exact ⟨[],[],⟨none,0,rfl,by simp,by simp [maxLen],by simp,.inl rfl⟩,by simp [maxLen],by simp⟩
 by_cases h0:len=0
 · subst h0
   exact ⟨[],[],⟨some a,cap,rfl,by simp,hm,by simp,.inl rfl⟩,by simp,by simp⟩
 have each:∀ i,i<len→∃ cs',W.cells? 0 (a.add (i*Enc.sz α)) (Enc.sz α)=some cs'∧∃ G y,rd W G cs' y∧wf (α:=α) y:=by
  intro i hi
  have:=hel i hi
  rw [hc,List.getElem?_eq_getElem (by omega),Option.bind_eq_some_iff] at this
  obtain ⟨cs',h1,h2⟩:=this
  exact ⟨cs',h1,he enc W n cs' _ h2⟩
 obtain ⟨cs0,h1,_⟩:=each 0 (by omega)
 obtain ⟨_,hl0,hcell⟩:=World.cells?_some h1
 have h2:=hcell 0 hp
 rw [List.getElem?_eq_getElem (by omega)] at h2
 have e0:(a.add (0*Enc.sz α)).add 0=a:=by simp [Addr.add]
 rw [e0] at h2
 obtain ⟨g,off,spot⟩:=a
 unfold World.cell? at h2
 split at h2 <;> try simp at h2
 rename_i c ty fr hh
 simp only at hh
 have hs:spot=none:=by cases spot <;> simp_all
 subst hs
 have eadd:∀ k j,(((⟨g,off,none⟩:Addr).add k).add j)=⟨g,off+k+j,none⟩:=by
  intro k j
  simp only [Addr.add]
  by_cases hk:k=0 <;> by_cases hj:j=0 <;> simp [hk,hj]
 obtain ⟨F,xs,hxl,hlt,hr,hw⟩:=Q32 (α:=α) (W:=W) c.toList len off (λi hi=>by
  obtain ⟨cs',h3,G,y,hy,hwy⟩:=each i hi
  obtain ⟨_,hl',hcell'⟩:=World.cells?_some h3
  have:cs'=(c.toList.drop (off+i*Enc.sz α)).take (Enc.sz α):=by
   apply List.ext_getElem?
   intro j
   by_cases hj:j<Enc.sz α
   · have h4:=hcell' j hj
     rw [eadd] at h4
     unfold World.cell? at h4
     rw [hh] at h4
     simp only [Option.isSome_none,Bool.false_eq_true,if_false] at h4
     rw [← h4,List.getElem?_take,if_pos hj,List.getElem?_drop,Array.getElem?_toList]
   · rw [List.getElem?_eq_none (by omega),List.getElem?_take,if_neg hj]
  exact ⟨G,y,this ▸ hy,hwy⟩)
 refine ⟨g::F,xs,⟨_,cap,by rw [hxl],by omega,hm,?_,.inr ⟨g,off,c,ty,fr,rfl,by simp,hh,Qyr (λb hb=>List.mem_cons_of_mem _ hb) hr⟩⟩,by omega,hw⟩
 intro b hb
 rcases List.mem_cons.1 hb with rfl | hb
 · exact Qgx hh
 · exact hlt b hb
section
variable {H:Type} {enc:TypeId×Value→H} {P:Program} {W:World} {t:TypeId} {v:Value} {d:DataW H} {ps:List MemPlace}
theorem Q9k {e:TypeId} {α:Type} [Enc α] [Wf α] (ht:P.underlying t=some (.slice e)) (hT:TR P t (List α)) (hval:Value.okWide P W .any 0 t v) (hd:DataW.Trod enc P W 0 (λ_=>true) true t v d ps) :
    ∃ (x:List α) (F:List Nat),rd W F [v] x∧wf x:=by
 obtain ⟨a,len,cap,rfl⟩:=okWide_slice ht hval
 obtain ⟨fuel,hf⟩:=hd
 obtain ⟨F,x,hr,hw⟩:=hT enc W fuel _ _ hf
 exact ⟨x,F,by simpa [Value.cells] using hr,hw⟩
end
section
variable {H:Type} {enc:TypeId×Value→H} {P:Program}
theorem Jdz {f:Func} {s:ChangeSpec} {apart fresh handsOn again:Bool} {W W':World} {args:Array Value} {v:Value} {ds gs:List (DataW H)} {before pa pv:List MemPlace}
    (hW:DataW.Whole enc P f.params.toList s.vars apart W args.toList ds gs before)
    (hres:∀ (b:Nat) (sp:Nat→Bool) (hd:Bool),DataW.TrodAll enc P W' b sp hd f.resultTypes.toList (v.resultList f.resultTypes.size) (s.fn H (ds++gs)).results [])
    (hargs:∀ sp:Nat→Bool,(∀ p∈before,sp p.block=true)→DataW.TrodAll enc P W' 0 sp true f.params.toList args.toList (s.fn H (ds++gs)).args pa)
    (hvars:∀ sp:Nat→Bool,(∀ p∈before,sp p.block=true)→DataW.TrodVars enc P W' sp s.vars (s.fn H (ds++gs)).vars pv)
    (hps:before=pa++pv) (hb:Below W.heap.size W W')
    (hok:∀ (j:Nat) (t:TypeId) (r:Value),f.resultTypes[j]? = some t→(v.resultList f.resultTypes.size)[j]? = some r→Value.okWide P W' .any 0 t r) :
    s.post enc P f apart fresh handsOn again W args v W':=by
 have hlt:∀ p∈before,p.block<W.heap.size:=λp hp=>hW.lt p hp
 have hold:∀ p∈before,(λb=>decide (b<W.heap.size)) p.block=true:=λp hp=>by simpa using hlt p hp
 refine ⟨ds,gs,before,[],pa,pv,hW,hres _ _ _,hargs _ hold,hvars _ hold,World.keptBut_mono (λp hp=>⟨hp,?_⟩) (hb.frame (·∈before)),λ_=>?_⟩
 · rw [hps,List.mem_append] at hp
   exact Or.inr hp
 · obtain ⟨_,_,_,_,_,hz,hn⟩:=hW
   refine ⟨hok,_,_,([]++pa)++pv,⟨[]++pa,pv,trodAll_append (hargs _ (λ_ _=>rfl)) (hres _ _ _),hvars _ (λ_ _=>rfl),rfl,?_,?_⟩,?_⟩
   · intro b off hp
     have hin:MemPlace.cell b off∈before:=by rw [hps]; simpa using hp
     rw [hb.frozen (hlt _ hin)]
     exact hz b off hin
   · intro ha
     have:=hn ha
     rw [hps] at this
     simpa using this
   · intro p hp _
     rw [hps]
     simpa using hp
theorem Q4x (hl:laidOutB P=true) {W W':World} (hb:Below W.heap.size W W'):∀ {ts:List TypeId} {vs:List Value} {ds:List (DataW H)} {ps:List MemPlace} {sp:Nat→Bool},
    (∀ t∈ts,P.readableRec t=true∧t<P.types.size)→DataW.TrodAll enc P W 0 (λ_=>true) true ts vs ds ps→(∀ x∈ps,x.block<W.heap.size)→(∀ x∈ps,sp x.block=true) →
    DataW.TrodAll enc P W' 0 sp true ts vs ds ps
 | [],vs,ds,ps,sp,_,h,_,_=>by
  obtain ⟨rfl,rfl,rfl⟩:=trodAll_nil h
  exact trodAll_mk0
 | t::ts,vs,ds,ps,sp,hT,h,hlt,hs=>by
  obtain ⟨v,vs',d,ds',p,q,rfl,rfl,rfl,h1,h2⟩:=trodAll_cons h
  exact trodAll_cons_mk (WideElems.Trod_stays hl (hT t (by simp)).1 (hT t (by simp)).2 h1 (λx hx=>hb.same (hlt x (by simp [hx]))) (λx hx=>hs x (by simp [hx])))
   (Q4x hl hb (λu hu=>hT u (by simp [hu])) h2 (λx hx=>hlt x (by simp [hx])) (λx hx=>hs x (by simp [hx])))
end
end Go.Proofs.YthkaklkinepfkaaGreatDoor
set_option linter.unusedSimpArgs false
set_option linter.unusedVariables false
namespace Go.Proofs.YthkaklkinepfkaaGreatDoor
open Go Go.RowKit
open Enc (rd ow)
open Arg (argv)
open Ret (retv)
theorem Qu7 {w:World}:∀ {Gs:List (List Nat)} {cells:List Value} {xs:List Int},owL w Gs cells xs→cells=xs.map (Value.int .i64)
 | [],_,[],h=>h
 | G::Gs,cells,x::xs,⟨h,h'⟩=>by
  have e:=Qu7 h'
  have h2:cells.take 1=[Value.int .i64 x]:=h.2
  have h3:cells.drop 1=xs.map (Value.int .i64):=e
  rw [← List.take_append_drop 1 cells,h2,h3]
  rfl
 | [],_,_::_,h=>h.elim
 | _::_,_,[],h=>h.elim
theorem Q7d {w0:World} {g off cap:Nat} {c:Array Value} {e:TypeId} {xs:List Int} {Gs:List (List Nat)} (h3:w0.heap[g]? = some (.cells c e (0,0))) (h5:owL w0 Gs ((c.toList.drop off).take (xs.length*Enc.sz Int)) xs) :
    Go.Sort.Holds (Value.int .i64) w0 g off xs.toArray:=by
 have hc:=Qu7 h5
 have hsz:Enc.sz Int=1:=rfl
 rw [hsz,Nat.mul_one] at hc
 have hcell:∀ j (hj:j<xs.length),c[off+j]? = some (Value.int .i64 xs[j]):=by
  intro j hj
  have:=congrArg (λl=>l[j]?) hc
  simp only [List.getElem?_take,if_pos hj,List.getElem?_drop,Array.getElem?_toList,List.getElem?_map,List.getElem?_eq_getElem hj,Option.map_some] at this
  exact this
 intro j hj
 have hj':j<xs.length:=by simpa using hj
 refine ⟨?_,?_⟩
 · unfold World.cell?
   simp only [h3,Option.isSome_none,Bool.false_eq_true,if_false]
   rw [hcell j hj',getElem!_pos _ j (by simpa using hj')]
   simp
 · unfold World.frozen?
   simp only [h3]
   simp
theorem Q4u {w0 w:World} {g off cap:Nat} {c:Array Value} {e:TypeId} {xs ys:List Int} {Gs:List (List Nat)} (hl:ys.length=xs.length) (h1:xs.length≤cap) (h2:cap≤maxLen) (h3:w0.heap[g]? = some (.cells c e (0,0)))
    (h4:off+cap*Enc.sz Int≤c.size) (h5:owL w0 Gs ((c.toList.drop off).take (xs.length*Enc.sz Int)) xs) (h6:(g::Gs.flatten).Nodup) {n:Nat} {os:Array Obj}
    (hw:w=Go.Sort.grow (Go.Sort.putRow (Value.int .i64) (Go.Sort.ahead w0 n) g off ys.toArray) os) :
    Ext (g::Gs.flatten) w0 w∧ow w (g::Gs.flatten) [.slice (some ⟨g,off,none⟩) ys.length cap] ys:=by
 have hG:=Qkc h5
 have hsz:Enc.sz Int=1:=rfl
 rw [hsz,Nat.mul_one] at h4
 subst hw
 have hgl:=Qgx h3
 have hblk:∀ k,k<w0.heap.size→(Go.Sort.grow (Go.Sort.putRow (Value.int .i64) (Go.Sort.ahead w0 n) g off ys.toArray) os).heap[k]? =
     if g=k then some (.cells (Go.Sort.putCells (Value.int .i64) off ys.toArray c) e (0,0)) else w0.heap[k]?:=by
  intro k hk
  have hk':k<(Go.Sort.putRow (Value.int .i64) (Go.Sort.ahead w0 n) g off ys.toArray).heap.size:=by simpa using hk
  simp only [Go.Sort.grow]
  rw [Array.getElem?_append_left hk']
  simp only [Go.Sort.putRow,Go.Sort.mapBlock,Go.Sort.heap_ahead,Array.getElem?_modify]
  by_cases hgk:g=k
  · subst hgk
    rw [if_pos rfl,if_pos rfl,h3]
    rfl
  · rw [if_neg hgk,if_neg hgk]
 refine ⟨⟨rfl,rfl,rfl,by simp,λk hk hx=>?_⟩,?_⟩
 · rw [hblk k hk,if_neg (λe=>hx (by simp [e]))]
 · have hh:=hblk g hgl
   rw [if_pos rfl] at hh
   refine .inr ⟨g,off,cap,_,e,ys.map λ_=>[],rfl,by omega,h2,hh,?_,?_,?_,h6⟩
   · simpa [Go.Sort.putCells,hsz] using h4
   · have hcs:(((Go.Sort.putCells (Value.int .i64) off ys.toArray c).toList.drop off).take (ys.length*Enc.sz Int))=(ys.map Flat.e).flatten:=by
       have e2:(ys.map (Flat.e (α:=Int))).flatten=ys.map (Value.int .i64):=by
        clear hl hblk hh
        induction ys with
        | nil=>rfl
        | cons y ys ih=>simp only [List.map_cons,List.flatten_cons,ih]; rfl
       rw [e2,hsz,Nat.mul_one]
       have hle:off+ys.length≤c.size:=by omega
       apply List.ext_getElem?
       intro j
       simp only [List.getElem?_take,List.getElem?_drop,Array.getElem?_toList,List.getElem?_map]
       by_cases hj:j<ys.length
       · rw [if_pos hj]
         have hjc:off+j<c.size:=by omega
         simp only [Go.Sort.putCells,Array.getElem?_mapIdx,Array.getElem?_eq_getElem hjc,Option.map_some,List.size_toArray]
         rw [if_pos ⟨by omega,by omega⟩,show off+j - off=j by omega,getElem!_pos _ j (by simpa using hj)]
         simp [List.getElem?_eq_getElem hj]
       · rw [if_neg hj,List.getElem?_eq_none (by omega)]
         rfl
     rw [hcs]
     exact Qs8 _
   · rw [hG,Qjm]
def Q2n (xs:List Int):Option (List Int):=if xs.length<4611686018427387904 then some (xs.mergeSort λx y=>decide (x≤y)) else none
theorem Jbf {P:Program} {fid:Nat}
    (hs:∀ (blk off cap:Nat) (zs:List Int) (w:World),Go.Sort.Holds (Value.int .i64) w blk off zs.toArray→blk<w.heap.size→zs.length<4611686018427387904 →
     Calls P fid #[.slice (some ⟨blk,off,none⟩) zs.length cap] w λe w'=>e=.returned (.tuple #[])∧∃ n os,w'=Go.Sort.grow (Go.Sort.putRow (Value.int .i64) (Go.Sort.ahead w n) blk off (zs.mergeSort λx y=>decide (x≤y)).toArray) os)
    (hn:∀ (p:Option Addr) (cap:Nat) (w:World),Calls P fid #[.slice p 0 cap] w λe w'=>e=.returned (.tuple #[])∧w'=w)
    {w0:World} (xs:List Int) {v:Value} {F:List Nat} (h:ow w0 F [v] xs) {r:List Int} (hr:Q2n xs=some r) :
    Calls P fid #[v] w0 λe w=>e=.returned (.tuple #[])∧Ext F w0 w∧ow w F [v] r:=by
 unfold Q2n at hr
 split at hr
 · rename_i hlen
   simp only [Option.some.injEq] at hr
   subst hr
   rcases h with ⟨hv,rfl,rfl⟩ | ⟨g,off,cap,c,e,Gs,hv,h1,h2,h3,h4,h5,rfl,h6⟩
   · have:=(List.cons.inj hv).1
     subst this
     refine (hn none 0 w0).mono λe w ⟨he,hw⟩=>?_
     subst hw
     exact ⟨he,Ext.refl _ _,.inl ⟨rfl,by simp,rfl⟩⟩
   · have:=(List.cons.inj hv).1
     subst this
     have hl:=List.length_mergeSort (le:=λx y=>decide (x≤y)) xs
     refine (hs g off cap xs w0 (Q7d (cap:=cap) h3 h5) (Qgx h3) hlen).mono λe' w ⟨he,n,os,hw⟩=>?_
     obtain ⟨hE,hO⟩:=Q4u hl h1 h2 h3 h4 h5 h6 hw
     rw [hl] at hO
     exact ⟨he,hE,hO⟩
 · cases hr
end Go.Proofs.YthkaklkinepfkaaGreatDoor
set_option linter.unusedSimpArgs false
set_option linter.unusedVariables false
namespace Go.Proofs.YthkaklkinepfkaaGreatDoor
open Go Go.RowKit
open Enc (rd ow)
open Arg (argv)
open Ret (retv)
theorem eqF {P:Program} {w:World} {d:Nat} {k:TypeId} (hk:P.underlying k=some (.int .i64)) (xs ys:Array Value):∀ (fs:List Field) (l:List (Nat×Int×Int)),
    fs.map (λf=>(f.name == "_",f.type,f.offset)) = l.map (λp=>(false,k,p.1)) → (∀ p ∈ l,xs[p.1]? = some (.int .i64 p.2.1) ∧ ys[p.1]? = some (.int .i64 p.2.2)) →
    (Op.eqFields (d+1) xs ys fs).run P w=.ok (l.all λp=>p.2.1==p.2.2) w
 | [],[],_,_=>by simp [Op.eqFields]
 | [],_::_,h,_=>by simp at h
 | _::_,[],h,_=>by simp at h
 | f::fs,(i,a,b)::l,h,hv=>by
  simp only [List.map_cons,List.cons.injEq,Prod.mk.injEq,beq_eq_false_iff_ne,ne_eq] at h
  obtain ⟨⟨hn,ht,ho⟩,h⟩:=h
  have hp:P.plainKey k=true:=by simp [Program.plainKey,hk]
  have h1:=hv (i,a,b) (by simp)
  have p1:=run_part_plain (P:=P) w hp h1.1
  have p2:=run_part_plain (P:=P) w hp h1.2
  have ih:=eqF (d:=d) (w:=w) hk xs ys fs l h (λp hp=>hv p (by simp [hp]))
  simp only [Op.eqFields,ne_eq,hn,not_false_eq_true,if_true,ht,ho,Sem.run_bind,p1,p2,run_equalIn_int w d k .i64 .i64 a b hk,Result.andThen_ok,List.all_cons]
  cases hab:(a==b)
  · simp
  · simpa using ih
theorem Jok {P:Program} {t k:TypeId} {fs:Array Field} {α:Type} [Flat α] [DecidableEq α] (hu:P.underlying t=some (.struct fs)) (hp:P.stoodInHeld t=false) (hm:P.eqGuardType P.depth t=false) (hk:P.underlying k=some (.int .i64))
    (z:α → α → List (Nat × Int × Int)) (hfs:∀ x y,fs.toList.map (λf=>(f.name == "_",f.type,f.offset)) = (z x y).map (λp=>(false,k,p.1)))
    (hz:∀ x y,∀ p∈z x y,(Flat.e x).toArray[p.1]? = some (.int .i64 p.2.1)∧(Flat.e y).toArray[p.1]? = some (.int .i64 p.2.2))
    (he:∀ x y,((z x y).all λp=>p.2.1==p.2.2)=decide (x=y)):SEq P t α:=by
 refine ⟨hm,λw x y=>?_⟩
 have hf:P.fieldsOf t=fs:=by simp [Program.fieldsOf,hu]
 rw [show (10000:Nat)=9999+1 from rfl,run_equalIn_struct w 9999 t _ _ (by rw [hf]; exact hu) hp,hf]
 rw [show (9999:Nat)=9998+1 from rfl,eqF hk _ _ fs.toList (z x y) (hfs x y) (hz x y),he]
theorem Jhl {P:Program} {t k:TypeId} {fs:Array Field} (hu:P.underlying t=some (.struct fs)) (hp:P.stoodInHeld t=false) (hm:P.eqGuardType P.depth t=false) (hk:P.underlying k=some (.int .i64))
    (hfs:fs.toList.map (λf=>(f.name == "_",f.type,f.offset)) = [(false,k,0),(false,k,1)]):SEq P t Pair :=
 Jok hu hp hm hk (λx y=>[(0,x.fA,y.fA),(1,x.fB,y.fB)]) (λx y=>by rw [hfs]; rfl) (λx y p hp=>by
  simp only [List.mem_cons,List.not_mem_nil,or_false] at hp
  rcases hp with rfl | rfl <;> exact ⟨rfl,rfl⟩)
  (λx y=>by
   rcases x with ⟨a0,a1⟩
   rcases y with ⟨b0,b1⟩
   apply Bool.eq_iff_iff.2
   simp)
end Go.Proofs.YthkaklkinepfkaaGreatDoor
set_option linter.unusedSimpArgs false
set_option linter.unusedVariables false
namespace Go.Proofs.YthkaklkinepfkaaGreatDoor
open Go Go.RowKit
open Enc (rd ow)
open Arg (argv)
open Ret (retv)
theorem Jao {w:World} {G:List Nat} {y:Value} {ys:List Int} (h:rd w G [y] ys):∃ ao cap,y=.slice ao ys.length cap∧(ys=[]∨∃ a,ao=some a∧∀ j v,(ys.map (Value.int .i64))[j]? = some v→w.cell? (a.add j)=some v):=by
 obtain ⟨ao,cap,hy,h1,h2,h3,h4⟩:=h
 have:=(List.cons.inj hy).1
 subst this
 refine ⟨ao,cap,rfl,?_⟩
 rcases h4 with rfl | ⟨g,off,c,e,fr,rfl,hg,hh,hl⟩
 · exact .inl rfl
 · refine .inr ⟨_,rfl,λj v hv=>?_⟩
   rw [List.getElem?_map,Option.map_eq_some_iff] at hv
   obtain ⟨n,hn,rfl⟩:=hv
   obtain ⟨G',_,_,hr⟩:=Q3k hl hn
   have hsz:Enc.sz Int=1:=rfl
   rw [hsz,Nat.mul_one,List.drop_drop] at hr
   have h0:=congrArg (λl=>l[0]?) hr
   simp only [List.getElem?_take,Nat.zero_lt_one,if_true,List.getElem?_drop,Nat.add_zero,Array.getElem?_toList] at h0
   have hadd:((⟨g,off,none⟩:Addr).add j)=⟨g,off+j,none⟩:=by
    simp only [Addr.add]
    by_cases hj:j=0 <;> simp [hj]
   rw [hadd]
   unfold World.cell?
   rw [hh]
   simp only [Option.isSome_none,Bool.false_eq_true,if_false]
   rw [h0]
   rfl
section
variable {P:Program} {ops:Array Oper} {Q:Exit→Act→World→Prop} {rest:List Oper} {o:Oper} {a:Act} {w:World} {N:Nat} {L:List (Nat×Value)}
variable {X:List Nat} {w0:World} {M:List (List Nat×World)} {d:Nat}
def Part (v:Value) (lo:Nat) (v':Value):Prop:=∀ ao n cap,v=.slice ao n cap→∃ ao',v'=.slice ao' (n - lo) (cap - lo)∧∀ g off,lo<n→ao=some ⟨g,off,none⟩→ao'=some ⟨g,off+lo,none⟩
theorem Part.self (v:Value):Part v 0 v:=λao n cap h=>⟨ao,by simpa using h,λg off _ h=>by simpa using h⟩
theorem Q9s {u:World} {F:List Nat} {v:Value} {xs ys:List Int} {lo:Int} {k:IntKind} (hf:rd u F [v] xs) (hx:sls xs lo xs.length=some ys) (hK:K N L a) {t:TypeId} (hu:TS P t (Enc.sz Int)) {x i:Operand}
    (hg:gd L ops o.guard=some true) (hd:o.dst=some d) (hN:Nat.blt d N=true)
    (ho:o.op=.slice t x (some i) none none) (hv:ev L x=some v) (hi':ev L i=some (.int k lo))
    (h:∀ v' a,K N ((d,v')::L) a→rd u F [v'] ys→Part v lo.toNat v'→wpList P ops Q rest a w):wpList P ops Q (o::rest) a w:=by
 obtain ⟨ao,cap,rfl,h1,h2⟩:=Ql0 hf
 obtain ⟨e,hu,hs⟩:=hu
 have hr:=Qxq hf hx
 unfold sls at hx
 split at hx
 · rename_i h0
   refine Que hK hg hd hN ?_ λa hK=>h _ a hK (by simpa using hr) ?_
   · have c2:0≤lo∧lo≤(xs.length:Int):=by omega
     simp [execOp,ho,Instr.sliceAt,Instr.slice,Instr.sliceBounds,Instr.sliceBound,hK.ev hv,hK.ev hi',run_underlying hu,asIntOf,c2,hs]
   · intro ao' n cap' he
     injection he with e1 e2 e3
     subst e1; subst e2; subst e3
     refine ⟨_,rfl,λg off hlt hao=>?_⟩
     subst hao
     have hsz:Enc.sz Int=1:=rfl
     rw [if_neg (by omega)]
     simp only [Option.map_some,hsz,Nat.mul_one,Addr.add]
     by_cases hl:lo.toNat=0 <;> simp [hl]
 · simp at hx
theorem Jg9 {u:World} {F:List Nat} {v:Value} {xs ys:List Int} {lo:Int} (hf:rd u F [v] xs) (hx:sls xs lo xs.length=some ys) {t:TypeId} (hu:TS P t (Enc.sz Int)) :
    ∃ v',rd u F [v'] ys∧Part v lo.toNat v'∧∀ {N:Nat} {L:List (Nat×Value)} {a:Act} {o:Oper} {x i:Operand} {k:IntKind},K N L a→o.op=.slice t x (some i) none none→ev L x=some v→ev L i=some (.int k lo)→∀ w:World,(execOp a.eval o).run P w=.ok (.value v') w:=by
 obtain ⟨ao,cap,rfl,h1,h2⟩:=Ql0 hf
 obtain ⟨e,hu,hs⟩:=hu
 have hr:=Qxq hf hx
 unfold sls at hx
 split at hx
 · rename_i h0
   refine ⟨_,by simpa using hr,?_,?_⟩
   · intro ao' n cap' he
     injection he with e1 e2 e3
     subst e1; subst e2; subst e3
     refine ⟨_,rfl,λg off hlt hao=>?_⟩
     subst hao
     have hsz:Enc.sz Int=1:=rfl
     rw [if_neg (by omega)]
     simp only [Option.map_some,hsz,Nat.mul_one,Addr.add]
     by_cases hl:lo.toNat=0 <;> simp [hl]
   · intro N L a o x i k hK ho hv hi' w
     have c2:0≤lo∧lo≤(xs.length:Int):=by omega
     simp [execOp,ho,Instr.sliceAt,Instr.slice,Instr.sliceBounds,Instr.sliceBound,hK.ev hv,hK.ev hi',run_underlying hu,asIntOf,c2,hs]
 · simp at hx
theorem Jmw {u:World} {F:List Nat} {v:Value} {xs ys:List Int} {hi:Int} (hf:rd u F [v] xs) (hx:sls xs 0 hi=some ys) {t:TypeId} (hu:TS P t (Enc.sz Int)) :
    ∃ v',rd u F [v'] ys∧∀ {N:Nat} {L:List (Nat×Value)} {a:Act} {o:Oper} {x j:Operand} {k:IntKind},K N L a→o.op=.slice t x none (some j) none→ev L x=some v→ev L j=some (.int k hi)→∀ w:World,(execOp a.eval o).run P w=.ok (.value v') w:=by
 obtain ⟨ao,cap,rfl,h1,h2⟩:=Ql0 hf
 obtain ⟨e,hu,hs⟩:=hu
 have hr:=Qxq hf hx
 unfold sls at hx
 split at hx
 · rename_i h0
   refine ⟨_,by simpa using hr,?_⟩
   intro N L a o x j k hK ho hv hj w
   have c1:0≤hi∧hi≤(cap:Int):=by omega
   simp [execOp,ho,Instr.sliceAt,Instr.slice,Instr.sliceBounds,Instr.sliceBound,hK.ev hv,hK.ev hj,run_underlying hu,asIntOf,c1,hs]
 · simp at hx
def cpd (xs:List Int) (lo:Int) (ys:List Int):List Int:=xs.take lo.toNat++ys.take (min ys.length (xs.length - lo.toNat))++xs.drop (lo.toNat+min ys.length (xs.length - lo.toNat))
def cpn (xs:List Int) (lo:Int) (ys:List Int):Int:=((min ys.length (xs.length - lo.toNat):Nat):Int)
theorem Jcu {xs ys:List Int} {lo:Int} (h:min ys.length (xs.length - lo.toNat)=0):cpd xs lo ys=xs:=by
 simp [cpd,h]
theorem Jn5 {t t' bytes:Nat} {z:List Value} (hT:TE P t 1 bytes z) (hM:St X w0 w M) (i:Nat) {u:World} {F:List Nat} {v v':Value} {xs:List Int} (hown:ow u F [v] xs) {lo:Int} (hp:Part v lo.toNat v')
    {y:Value} {G:List Nat} {ys:List Int} (hy:rd w G [y] ys) (hK:K N L a) (hi:M[i]? = some (F,u)) {sd ss:Operand}
    (hg:gd L ops o.guard=some true) (hd:o.dst=some d) (hN:Nat.blt d N=true)
    (ho:o.op=.call { callee:=.builtin .copy,args:=#[sd,ss],argTypes:=#[t,t'] }) (hv1:ev L sd=some v') (hv2:ev L ss=some y)
    (h:∀ w' a,K N ((d,.int .i64 (cpn xs lo ys))::L) a→Ext F w w'→St X w0 w' (M.set i (F,w'))→ow w' F [v] (cpd xs lo ys)→wpList P ops Q rest a w'):wpList P ops Q (o::rest) a w:=by
 obtain ⟨e,inf,hu,hinf,_,hsz1,_⟩:=hT
 have hs:(P.info? e).map (·.size)=some 1:=by rw [hinf]; simp [hsz1]
 have how:=Enc.ow_agr hown (hM.a i hi)
 have hnd:=hM.ndF i hi
 have hlt:=hM.ltF i hi
 obtain ⟨yo,ycap,rfl,hyc⟩:=Jao hy
 have hnone:∀ (ao:Option Addr) (n cap:Nat),v'=.slice ao n cap→min ys.length n=0→n=xs.length - lo.toNat→wpList P ops Q (o::rest) a w:=by
  intro ao n cap hv' hm hn
  subst hv'; subst hn
  refine Que hK hg hd hN (w':=w) (v:=.int .i64 (cpn xs lo ys)) ?_ λa hK=>h w a hK (Ext.refl _ _) ?_ ?_
  · have:=run_copy_none (P:=P) w t t' o.type e ao yo (xs.length - lo.toNat) cap ys.length ycap hu hs hm
    simp [execOp,ho,resolve,invoke,builtin,hK.ev hv1,hK.ev hv2,this,cpn,hm,goInt]
  · exact hM.mut i hi (Ext.refl _ _) F (λb hb=>⟨.inl hb,hlt b hb⟩) hnd
  · rw [Jcu hm]; exact how
 rcases how with ⟨hv,rfl,rfl⟩ | ⟨g,off,cap,c,et,Gs,hv,h1,h2,h3,h4,h5,rfl,h6⟩
 · have:=(List.cons.inj hv).1
   subst this
   obtain ⟨ao',hv',_⟩:=hp none 0 0 rfl
   exact hnone ao' _ _ hv' (by simp) (by simp)
 · have:=(List.cons.inj hv).1
   subst this
   obtain ⟨ao',hv',hao⟩:=hp _ _ _ rfl
   by_cases hm:min ys.length (xs.length - lo.toNat)=0
   · exact hnone ao' _ _ hv' hm rfl
   · subst hv'
     have hlo:lo.toNat<xs.length:=by omega
     have:=hao g off hlo rfl
     subst this
     rcases hyc with rfl | ⟨sa,rfl,hsrc⟩
     · simp at hm
     · have hsz:Enc.sz Int=1:=rfl
       have hG:=Qkc h5
       have hc:=Qu7 h5
       rw [hsz,Nat.mul_one] at hc h4
       generalize hmm:min ys.length (xs.length - lo.toNat)=m at *
       have hcl:((ys.take m).map (Value.int .i64)).length=m:=by rw [List.length_map,List.length_take]; omega
       have hrun:=run_copy_row (P:=P) w t t' o.type e g (off+lo.toNat) (xs.length - lo.toNat) (cap - lo.toNat) sa ys.length ycap c et ((ys.take m).map (Value.int .i64)) hu hs h3 (by rw [hcl,← hmm])
        (λj v hj=>hsrc j v (by
         rw [List.getElem?_map,List.getElem?_take] at hj
         split at hj
         · rw [List.getElem?_map]; exact hj
         · simp at hj)) (by rw [hcl]; omega) (by intro v hv; obtain ⟨n,_,rfl⟩:=List.mem_map.1 hv; rfl)
       rw [hcl] at hrun
       have hE:Ext (g::Gs.flatten) w (w.setRow g (c.toList.take (off+lo.toNat)++(ys.take m).map (Value.int .i64)++c.toList.drop (off+lo.toNat+m)).toArray):=(Ext.setRow _ _).wk (by simp)
       have hst:=hM.mut i hi hE (g::Gs.flatten) (λb hb=>⟨.inl hb,Nat.lt_of_lt_of_le (hlt b hb) hE.size⟩) hnd
       have hnew:(w.setRow g (c.toList.take (off+lo.toNat)++(ys.take m).map (Value.int .i64)++c.toList.drop (off+lo.toNat+m)).toArray).heap[g]? = some (.cells (c.toList.take (off+lo.toNat)++(ys.take m).map (Value.int .i64)++c.toList.drop (off+lo.toNat+m)).toArray et (0,0)):=setRow_heap w g _ _ et _ h3
       have hsize:(c.toList.take (off+lo.toNat)++(ys.take m).map (Value.int .i64)++c.toList.drop (off+lo.toNat+m)).length=c.size:=by
        simp only [List.length_append,List.length_take,List.length_drop,hcl,Array.length_toList]; omega
       have hcpl:(cpd xs lo ys).length=xs.length:=by
        simp only [cpd,hmm,List.length_append,List.length_take,List.length_drop]; omega
       refine Que hK hg hd hN (v:=.int .i64 (cpn xs lo ys)) ?_ λa hK=>h _ a hK hE hst ?_
       · simp [execOp,ho,resolve,invoke,builtin,hK.ev hv1,hK.ev hv2,hrun,cpn,hmm,goInt]
       · refine .inr ⟨g,off,cap,_,et,(cpd xs lo ys).map λ_=>[],by rw [hcpl],by rw [hcpl]; exact h1,h2,hnew,?_,?_,by rw [hG,Qjm],h6⟩
         · rw [List.size_toArray,hsize,hsz,Nat.mul_one]; exact h4
         · have e2:((cpd xs lo ys).map (Flat.e (α:=Int))).flatten=(cpd xs lo ys).map (Value.int .i64):=by
             generalize cpd xs lo ys=zs
             induction zs with
             | nil=>rfl
             | cons z zs ih=>simp only [List.map_cons,List.flatten_cons,ih]; rfl
           have hcs:(((c.toList.take (off+lo.toNat)++(ys.take m).map (Value.int .i64)++c.toList.drop (off+lo.toNat+m)).toArray.toList.drop off).take ((cpd xs lo ys).length*Enc.sz Int))=((cpd xs lo ys).map Flat.e).flatten:=by
            rw [e2,hsz,Nat.mul_one,hcpl]
            have hxc:∀ j,j<xs.length→c.toList[off+j]? = (xs.map (Value.int .i64))[j]?:=by
             intro j hj
             have:=congrArg (λl=>l[j]?) hc
             simpa [List.getElem?_take,hj,List.getElem?_drop] using this
            apply List.ext_getElem?
            intro j
            by_cases hj:j<xs.length
            · rw [List.getElem?_take,if_pos hj,List.getElem?_drop]
              simp only [cpd,hmm,List.map_append]
              by_cases hj1:j<lo.toNat
              · rw [List.getElem?_append_left (by simp [hcl]; omega),List.getElem?_append_left (by simp; omega),List.getElem?_append_left (by simp; omega),List.getElem?_append_left (by simp; omega)]
                rw [List.getElem?_take,if_pos (by omega),hxc j hj,List.map_take,List.getElem?_take,if_pos hj1]
              · by_cases hj2:j<lo.toNat+m
                · rw [List.getElem?_append_left (by simp; omega),List.getElem?_append_right (by simp; omega),List.getElem?_append_left (by simp; omega),List.getElem?_append_right (by simp; omega)]
                  congr 1
                  simp
                  omega
                · rw [List.getElem?_append_right (by simp; omega),List.getElem?_append_right (by simp; omega),List.getElem?_drop,List.map_drop,List.getElem?_drop]
                  have e3:(c.toList.take (off+lo.toNat)++(ys.take m).map (Value.int .i64)).length=off+lo.toNat+m:=by simp; omega
                  have e4:((xs.take lo.toNat).map (Value.int .i64)++(ys.take m).map (Value.int .i64)).length=lo.toNat+m:=by simp; omega
                  rw [e3,e4,show off+lo.toNat+m+(off+j - (off+lo.toNat+m))=off+j by omega,show lo.toNat+m+(j - (lo.toNat+m))=j by omega]
                  exact hxc j hj
            · rw [List.getElem?_take,if_neg hj,List.getElem?_eq_none (by rw [List.length_map,hcpl]; omega)]
           rw [hcs]
           exact Qs8 _
end
end Go.Proofs.YthkaklkinepfkaaGreatDoor
set_option linter.unusedSimpArgs false
set_option linter.unusedVariables false
namespace Go.Proofs.YthkaklkinepfkaaGreatDoor
open Go Go.RowKit
open Enc (rd ow)
open Arg (argv)
open Ret (retv)
section
variable {α:Type} [Enc α]
def Jcg (w:World):Nat→List (List Nat)→List Value→List α→Prop
 | 0,G::Gs,cells,_::xs=>G=[]∧Enc.sz α≤cells.length∧owL w Gs (cells.drop (Enc.sz α)) xs
 | i+1,G::Gs,cells,x::xs=>ow w G (cells.take (Enc.sz α)) x∧Jcg w i Gs (cells.drop (Enc.sz α)) xs
 | _,_,_,_=>False
theorem Q2v {u w:World}:∀ {i:Nat} {Gs:List (List Nat)} {cells:List Value} {xs:List α},Agr Gs.flatten u w→Jcg u i Gs cells xs→Jcg w i Gs cells xs
 | 0,G::Gs,cells,x::xs,hA,⟨h1,h2,h3⟩=>⟨h1,h2,Qvr (hA.sub (λb hb=>by rw [List.flatten_cons]; exact List.mem_append_right _ hb)) h3⟩
 | i+1,G::Gs,cells,x::xs,hA,⟨h1,h2⟩=>⟨Enc.ow_agr h1 (hA.sub (λb hb=>by simp [hb])),Q2v (hA.sub (λb hb=>by rw [List.flatten_cons]; exact List.mem_append_right _ hb)) h2⟩
 | 0,[],_,_,_,h=>h.elim
 | 0,_::_,_,[],_,h=>h.elim
 | _+1,[],_,_,_,h=>h.elim
 | _+1,_::_,_,[],_,h=>h.elim
theorem Qyl {w:World}:∀ {i:Nat} {Gs:List (List Nat)} {cells:List Value} {xs:List α},Jcg w i Gs cells xs→Gs.length=xs.length∧cells.length=xs.length*Enc.sz α∧i<xs.length∧Gs[i]? = some []
 | 0,G::Gs,cells,x::xs,⟨h1,h2,h3⟩=>by
  obtain ⟨e1,e2⟩:=Qw1 h3
  simp only [List.length_drop] at e2
  refine ⟨by simp [e1],?_,by simp,by simp [h1]⟩
  simp only [List.length_cons,Nat.add_mul,Nat.one_mul]; omega
 | i+1,G::Gs,cells,x::xs,⟨h1,h2⟩=>by
  obtain ⟨e1,e2,e3,e4⟩:=Qyl h2
  have h3:=Enc.rd_sz (Enc.ow_rd h1)
  simp only [List.length_take,List.length_drop] at e2 h3
  refine ⟨by simp [e1],?_,by simpa using e3,by simpa using e4⟩
  simp only [List.length_cons,Nat.add_mul,Nat.one_mul]; omega
 | 0,[],_,_,h=>h.elim
 | 0,_::_,_,[],h=>h.elim
 | _+1,[],_,_,h=>h.elim
 | _+1,_::_,_,[],h=>h.elim
theorem Q85 {w:World}:∀ {i:Nat} {Gs:List (List Nat)} {cells:List Value} {xs:List α} {x:α},owL w Gs cells xs→xs[i]? = some x →
    ∃ G,Gs[i]? = some G∧Jcg w i (Gs.set i []) cells xs∧ow w G ((cells.drop (i*Enc.sz α)).take (Enc.sz α)) x
 | 0,G::Gs,cells,y::xs,x,⟨h,h'⟩,hx=>by
  simp only [List.getElem?_cons_zero,Option.some.injEq] at hx
  subst hx
  have hl:=Enc.rd_sz (Enc.ow_rd h)
  simp only [List.length_take] at hl
  exact ⟨G,rfl,⟨rfl,by omega,h'⟩,by simpa using h⟩
 | i+1,G::Gs,cells,y::xs,x,⟨h,h'⟩,hx=>by
  obtain ⟨G',h1,h2,h3⟩:=Q85 h' (by simpa using hx)
  refine ⟨G',by simpa using h1,⟨h,h2⟩,?_⟩
  rw [List.drop_drop] at h3
  rw [show (i+1)*Enc.sz α=Enc.sz α+i*Enc.sz α by rw [Nat.add_mul]; omega]
  exact h3
 | _,[],_,[],x,_,hx=>by simp at hx
 | _,[],_,_::_,_,h,_=>h.elim
 | _,_::_,_,[],_,h,_=>h.elim
theorem Q6s {w:World} {G:List Nat} {cs:List Value} {y:α} (hy:ow w G cs y):∀ {i:Nat} {Gs:List (List Nat)} {cells:List Value} {xs:List α},Jcg w i Gs cells xs →
    (cells.drop (i*Enc.sz α)).take (Enc.sz α)=cs→owL w (Gs.set i G) cells (xs.set i y)
 | 0,H::Gs,cells,x::xs,⟨_,_,h3⟩,hc=>⟨by rw [Nat.zero_mul,List.drop_zero] at hc; rw [hc]; exact hy,h3⟩
 | i+1,H::Gs,cells,x::xs,⟨h1,h2⟩,hc=>⟨h1,Q6s hy h2 (by rw [List.drop_drop,← hc,show (i+1)*Enc.sz α=Enc.sz α+i*Enc.sz α by rw [Nat.add_mul]; omega])⟩
 | 0,[],_,_,h,_=>h.elim
 | 0,_::_,_,[],h,_=>h.elim
 | _+1,[],_,_,h,_=>h.elim
 | _+1,_::_,_,[],h,_=>h.elim
theorem Qz8 {w:World} {cs:List Value} (hl:cs.length=Enc.sz α):∀ {i:Nat} {Gs:List (List Nat)} {cells:List Value} {xs:List α},Jcg w i Gs cells xs→Jcg w i Gs (Qbb cells (i*Enc.sz α) cs) xs
 | 0,G::Gs,cells,x::xs,⟨h1,h2,h3⟩=>by
  refine ⟨h1,?_,?_⟩
  · simp only [Qbb,List.length_append,List.length_take,List.length_drop]; omega
  · simp only [Nat.zero_mul,Qbb,List.take_zero,List.nil_append,Nat.zero_add]
    rw [List.drop_left' hl,hl]; exact h3
 | i+1,G::Gs,cells,x::xs,⟨h1,h2⟩=>by
  have hl0:=Enc.rd_sz (Enc.ow_rd h1)
  have hle:Enc.sz α≤cells.length:=by simp at hl0; omega
  refine ⟨?_,?_⟩
  · have:(Qbb cells ((i+1)*Enc.sz α) cs).take (Enc.sz α)=cells.take (Enc.sz α):=by
      simp only [Qbb,List.append_assoc]
      rw [List.take_append_of_le_length (by simp [Nat.add_mul]; omega),List.take_take]
      congr 1
      simp [Nat.add_mul]
    rw [this]; exact h1
  · have:(Qbb cells ((i+1)*Enc.sz α) cs).drop (Enc.sz α)=Qbb (cells.drop (Enc.sz α)) (i*Enc.sz α) cs:=by
      simp only [Qbb,List.append_assoc]
      rw [List.drop_append_of_le_length (by simp [Nat.add_mul]; omega),List.drop_take,List.drop_drop]
      congr 3
      · simp [Nat.add_mul]
      · simp [Nat.add_mul]; omega
    rw [this]; exact Qz8 hl h2
 | 0,[],_,_,h=>h.elim
 | 0,_::_,_,[],h=>h.elim
 | _+1,[],_,_,h=>h.elim
 | _+1,_::_,_,[],h=>h.elim
theorem Q7u {Gs:List (List Nat)} {i:Nat} {G:List Nat} (h:Gs[i]? = some G):Gs.flatten.Perm ((Gs.set i []).flatten++G):=by
 induction Gs generalizing i with
 | nil=>simp at h
 | cons H Gs ih =>
  cases i with
  | zero =>
   simp only [List.getElem?_cons_zero,Option.some.injEq] at h
   subst h
   simp only [List.set_cons_zero,List.flatten_cons,List.nil_append]
   exact List.perm_append_comm
  | succ i =>
   simp only [List.set_cons_succ,List.flatten_cons,List.append_assoc]
   exact List.Perm.append_left _ (ih (by simpa using h))
theorem Jfj {Gs:List (List Nat)} {i:Nat} (h:Gs[i]? = some []) (G:List Nat):(Gs.set i G).flatten.Perm (Gs.flatten++G):=by
 have hlt:=(List.getElem?_eq_some_iff.1 h).1
 have h1:=Q7u (Gs:=Gs.set i G) (i:=i) (G:=G) (by simp [hlt])
 have e:(Gs.set i G).set i []=Gs:=by
  rw [List.set_set]
  apply List.ext_getElem?
  intro j
  rw [List.getElem?_set]
  by_cases e:i=j
  · subst e; simp [hlt,(List.getElem?_eq_some_iff.1 h).2]
  · simp [e]
 rw [e] at h1
 exact h1
def owH (w:World) (F:List Nat) (v:Value) (xs:List α) (i:Nat) (cs:List Value):Prop :=
 ∃ g off cap c e Gs,v=.slice (some ⟨g,off,none⟩) xs.length cap∧xs.length≤cap∧cap≤maxLen∧w.heap[g]? = some (.cells c e (0,0)) ∧
  off+cap*Enc.sz α≤c.size∧Jcg w i Gs ((c.toList.drop off).take (xs.length*Enc.sz α)) xs∧F=g::Gs.flatten∧F.Nodup ∧
  (((c.toList.drop off).take (xs.length*Enc.sz α)).drop (i*Enc.sz α)).take (Enc.sz α)=cs
theorem Q5s {u w:World} {F:List Nat} {v:Value} {xs:List α} {i:Nat} {cs:List Value} (h:owH u F v xs i cs) (hA:Agr F u w):owH w F v xs i cs:=by
 obtain ⟨g,off,cap,c,e,Gs,rfl,h1,h2,h3,h4,h5,rfl,h6,h7⟩:=h
 exact ⟨g,off,cap,c,e,Gs,rfl,h1,h2,(hA g (by simp)).trans h3,h4,Q2v (hA.sub (λb hb=>List.mem_cons_of_mem _ hb)) h5,rfl,h6,h7⟩
theorem Jkl {w:World} {F:List Nat} {v:Value} {xs:List α} {i:Nat} {cs:List Value} (h:owH w F v xs i cs):PtAt w (Qmz v (Enc.sz α) i) cs∧cs.length=Enc.sz α:=by
 obtain ⟨g,off,cap,c,e,Gs,rfl,h1,h2,h3,h4,h5,rfl,h6,rfl⟩:=h
 obtain ⟨e1,e2,e3,_⟩:=Qyl h5
 have hm:(i+1)*Enc.sz α≤xs.length*Enc.sz α:=Nat.mul_le_mul_right _ (by omega)
 rw [Nat.add_mul,Nat.one_mul] at hm
 have hl:((((c.toList.drop off).take (xs.length*Enc.sz α)).drop (i*Enc.sz α)).take (Enc.sz α)).length=Enc.sz α:=by
  rw [List.length_take,List.length_drop,e2]; omega
 refine ⟨?_,hl⟩
 simp only [Qmz,Qgk]
 refine ⟨g,_,c,e,_,rfl,h3,?_⟩
 rw [hl,List.drop_take,List.take_take,List.drop_drop]
 congr 1
 omega
theorem Jhd {u:World} {F:List Nat} {v:Value} {xs:List α} {i:Nat} {x:α} {cs:List Value} (h:ow u F [v] xs) (hx:xs[i]? = some x) (hp:PtAt u (Qmz v (Enc.sz α) i) cs) (hl:cs.length=Enc.sz α) :
    ∃ A B,owH u A v xs i cs∧ow u B cs x∧F.Perm (A++B):=by
 rcases h with ⟨_,rfl,_⟩ | ⟨g,off,cap,c,e,Gs,hv,h1,h2,h3,h4,h5,rfl,h6⟩
 · simp at hx
 · have:=(List.cons.inj hv).1
   subst this
   obtain ⟨G,hG,hH,hO⟩:=Q85 h5 hx
   have hpt:(((c.toList.drop off).take (xs.length*Enc.sz α)).drop (i*Enc.sz α)).take (Enc.sz α)=cs:=by
    obtain ⟨g',off',c',e',fr,he,hh,hc⟩:=hp
    simp only [Qmz,Qgk,Addr.mk.injEq,and_true] at he
    obtain ⟨rfl,rfl⟩:=he
    rw [h3] at hh
    injection hh with hh
    injection hh with hh _ _
    subst hh
    rw [hl] at hc
    rw [← hc,List.drop_take,List.take_take,List.drop_drop]
    have hi:=(List.getElem?_eq_some_iff.1 hx).1
    have hm:(i+1)*Enc.sz α≤xs.length*Enc.sz α:=Nat.mul_le_mul_right _ (by omega)
    rw [Nat.add_mul,Nat.one_mul] at hm
    congr 1
    omega
   rw [hpt] at hO
   have hperm:(g::Gs.flatten).Perm ((g::(Gs.set i []).flatten)++G):=List.Perm.cons _ (Q7u hG)
   refine ⟨_,G,⟨g,off,cap,c,e,Gs.set i [],rfl,h1,h2,h3,h4,hH,rfl,?_,hpt⟩,hO,hperm⟩
   exact (List.nodup_append.1 (hperm.nodup_iff.1 h6)).1
theorem Jib {w:World} {A B:List Nat} {v:Value} {xs:List α} {i:Nat} {y:α} {cs:List Value} (h:owH w A v xs i cs) (hy:ow w B cs y) (hn:(A++B).Nodup) :
    ∃ F,ow w F [v] (xs.set i y)∧F.Perm (A++B):=by
 obtain ⟨g,off,cap,c,e,Gs,rfl,h1,h2,h3,h4,h5,rfl,h6,h7⟩:=h
 obtain ⟨e1,e2,e3,e4⟩:=Qyl h5
 have hperm:(g::(Gs.set i B).flatten).Perm ((g::Gs.flatten)++B):=List.Perm.cons _ (Jfj e4 B)
 refine ⟨_,.inr ⟨g,off,cap,c,e,Gs.set i B,by simp,by simpa using h1,h2,h3,h4,?_,rfl,hperm.nodup_iff.2 hn⟩,hperm⟩
 rw [List.length_set]
 exact Q6s hy h5 h7
omit [Enc α] in
theorem Qc5 {xs:List α} {n:Int} {x:α} (y:α) (h:ix xs n=some x):ix (Qi0 xs n y) n=some y:=by
 obtain ⟨h0,h1,h2⟩:=Qah h
 have:=(List.getElem?_eq_some_iff.1 h2).1
 simp [ix,Qi0,h0,this]
end
section
variable {P:Program} {ops:Array Oper} {Q:Exit→Act→World→Prop} {rest:List Oper} {o:Oper} {a:Act} {w:World} {N:Nat} {L:List (Nat×Value)}
variable {X:List Nat} {w0:World} {M:List (List Nat×World)} {d:Nat}
theorem Jdq {M M':List (List Nat×World)} (h:M.Perm M'):(fps M).Perm (fps M'):=by
 unfold fps
 exact List.Perm.flatMap_right _ h
theorem Q1w {β:Type}:∀ (M:List β) (k:Nat) (p:β),M[k]? = some p→M.Perm (p::M.eraseIdx k)
 | [],_,_,h=>by simp at h
 | q::M,0,p,h=>by simp only [List.getElem?_cons_zero,Option.some.injEq] at h; subst h; exact List.Perm.refl _
 | q::M,k+1,p,h=>((Q1w M k p (by simpa using h)).cons q).trans (List.Perm.swap _ _ _)
theorem St.toFront (h:St X w0 w M) (k:Nat) {p:List Nat×World} (hk:M[k]? = some p):St X w0 w (p::M.eraseIdx k):=by
 have hp:M.Perm (p::M.eraseIdx k):=Q1w M k p hk
 have hf:=Jdq hp
 exact ⟨h.ext,λq hq=>h.ok q (hp.mem_iff.2 hq),λb hb=>h.lt b (hf.mem_iff.2 hb),λb hb=>h.lo b (hf.mem_iff.2 hb),hf.nodup_iff.1 h.nd⟩
theorem St.part {F A B:List Nat} {u:World} (h:St X w0 w ((F,u)::M)) (hp:F.Perm (A++B)):St X w0 w ((A,w)::(B,w)::M):=by
 have e:(fps ((F,u)::M)).Perm (fps ((A,w)::(B,w)::M)):=by
  simp only [fps,List.flatMap_cons]
  rw [← List.append_assoc]
  exact hp.append_right _
 refine ⟨h.ext,?_,λb hb=>h.lt b (e.mem_iff.2 hb),λb hb=>h.lo b (e.mem_iff.2 hb),e.nodup_iff.1 h.nd⟩
 intro p hq
 simp only [List.mem_cons] at hq
 rcases hq with rfl | rfl | hq
 · exact Agr.refl _ _
 · exact Agr.refl _ _
 · exact h.ok p (by simp [hq])
theorem St.whole {F A B:List Nat} {u v:World} (h:St X w0 w ((A,u)::(B,v)::M)) (hp:F.Perm (A++B)):St X w0 w ((F,w)::M):=by
 have h1:=h.join2
 have e:(fps ((A++B,w)::M)).Perm (fps ((F,w)::M)):=by
  simp only [fps,List.flatMap_cons]
  exact hp.symm.append_right _
 refine ⟨h1.ext,?_,λb hb=>h1.lt b (e.mem_iff.2 hb),λb hb=>h1.lo b (e.mem_iff.2 hb),e.nodup_iff.1 h1.nd⟩
 intro p hq
 simp only [List.mem_cons] at hq
 rcases hq with rfl | hq
 · exact Agr.refl _ _
 · exact h1.ok p (by simp [hq])
theorem St.opnS {α:Type} [Enc α] (hM:St X w0 w M) (k:Nat) {F:List Nat} {u:World} (hk:M[k]? = some (F,u)) {v:Value} {xs:List α} (h:ow u F [v] xs) {n:Int} {x:α} (hx:ix xs n=some x)
    {cs:List Value} (hp:PtAt u (Qmz v (Enc.sz α) n.toNat) cs) (hl:cs.length=Enc.sz α) {M':List (List Nat×World)} (hM':M.eraseIdx k=M') :
    ∃ A B,St X w0 w ((A,w)::(B,w)::M')∧owH w A v xs n.toNat cs∧ow w B cs x∧(∀ b∈A,b∈F)∧(∀ b∈B,b∈F):=by
 subst hM'
 obtain ⟨A,B,h1,h2,h3⟩:=Jhd h (Qah hx).2.2 hp hl
 have hA:=hM.a k hk
 have hAA:Agr A u w:=hA.sub (λb hb=>h3.mem_iff.2 (List.mem_append_left _ hb))
 have hAB:Agr B u w:=hA.sub (λb hb=>h3.mem_iff.2 (List.mem_append_right _ hb))
 exact ⟨A,B,(hM.toFront k hk).part h3,Q5s h1 hAA,Enc.ow_agr h2 hAB,λb hb=>h3.mem_iff.2 (List.mem_append_left _ hb),λb hb=>h3.mem_iff.2 (List.mem_append_right _ hb)⟩
theorem St.opn {α:Type} [Enc α] (hM:St X w0 w M) (k:Nat) {F:List Nat} {u:World} (hk:M[k]? = some (F,u)) {v:Value} {xs:List α} (h:ow u F [v] xs) {n:Int} {x:α} (hx:ix xs n=some x)
    {cs:List Value} (hp:PtAt u (Qmz v (Enc.sz α) n.toNat) cs) (hl:cs.length=Enc.sz α) {M':List (List Nat×World)} (hM':M.eraseIdx k=M') :
    ∃ A B,St X w0 w ((A,w)::(B,w)::M')∧owH w A v xs n.toNat cs∧ow w B cs x:=by
 obtain ⟨A,B,h1,h2,h3,_⟩:=hM.opnS k hk h hx hp hl hM'
 exact ⟨A,B,h1,h2,h3⟩
theorem St.cls {α:Type} [Enc α] {A B:List Nat} {u1 u2:World} (hM:St X w0 w ((A,u1)::(B,u2)::M)) {v:Value} {xs:List α} {n:Int} {cs:List Value} (h:owH u1 A v xs n.toNat cs) {y:α} (hy:ow u2 B cs y) :
    ∃ F,St X w0 w ((F,w)::M)∧ow w F [v] (Qi0 xs n y):=by
 have h1:=Q5s h (hM.a 0 rfl)
 have h2:=Enc.ow_agr hy (hM.a 1 rfl)
 obtain ⟨F,h3,h4⟩:=Jib h1 h2 (hM.join2.ndF 0 rfl)
 exact ⟨F,hM.whole h4,h3⟩
theorem Qu0 {α:Type} [Enc α] {t n sz:Nat} (hs:∀ w,(sizeOf t).run P w=.ok n w) (hM:St X w0 w M) (k:Nat) {F:List Nat} {u:World} {v:Value} {xs:List α} {m:Nat} {cs cs':List Value} (h:owH u F v xs m cs) (off:Nat) (hK:K N L a) {xo yo:Operand} {p:Addr} {c:Value}
    (hk:M[k]? = some (F,u)) (hg:gd L ops o.guard=some true) (hd:o.dst=none)
    (ho:o.op=.store t xo yo) (hp':ev L xo=some (.pointer (some p))) (hp:p=(Qmz v (Enc.sz α) m).add off) (hv:ev L yo=some c)
    (hsz:sz=Enc.sz α) (hle:Nat.ble (off+n) sz=true) (hvc:c.cells.toList.all Value.oneCell'=true) (hn:c.cells.size=n) (hc:Qbb cs off c.cells.toList=cs')
    (hk':∀ w' a,K N L a→Ext F w w'→St X w0 w' (M.set k (F,w'))→owH w' F v xs m cs'→wpList P ops Q rest a w'):wpList P ops Q (o::rest) a w:=by
 subst hsz
 have hH:=Q5s h (hM.a k hk)
 have hFl:=hM.ltF k hk
 have hle':=Nat.le_of_ble_eq_true hle
 have hcl:=(Jkl hH).2
 obtain ⟨g,boff,cap,cur,e,Gs,hvv,h2,h3,h4,h5,h6,rfl,h8,h9⟩:=hH
 subst hvv
 obtain ⟨e1,e2,e3,e4⟩:=Qyl h6
 have hb:bx w g cur.toList e:=h4
 have hm:(m+1)*Enc.sz α≤xs.length*Enc.sz α:=Nat.mul_le_mul_right _ (by omega)
 rw [Nat.add_mul,Nat.one_mul] at hm
 have hcap:xs.length*Enc.sz α≤cap*Enc.sz α:=Nat.mul_le_mul_right _ h2
 have hpos:boff+m*Enc.sz α+off+n≤cur.toList.length:=by simp; omega
 have hcll:c.cells.toList.length=n:=by simp [hn]
 have hr:=Qu1 (P:=P) (off:=boff+m*Enc.sz α+off) hs hb hn hpos (λu hu=>List.all_eq_true.1 hvc u hu)
 have hwr:bx (w.setRow g (Qbb cur.toList (boff+m*Enc.sz α+off) c.cells.toList).toArray) g (Qbb cur.toList (boff+m*Enc.sz α+off) c.cells.toList) e:=hb.store _
 have hEx:Ext (g::Gs.flatten) w (w.setRow g (Qbb cur.toList (boff+m*Enc.sz α+off) c.cells.toList).toArray):=(Ext.setRow g _).wk (by simp)
 have hlen:xs.length*Enc.sz α≤(cur.toList.drop boff).length:=by simp; omega
 have hcell:((Qbb cur.toList (boff+m*Enc.sz α+off) c.cells.toList).drop boff).take (xs.length*Enc.sz α)=Qbb ((cur.toList.drop boff).take (xs.length*Enc.sz α)) (m*Enc.sz α) cs':=by
  rw [← hc,← h9,Q4g _ _ _ _ _ (by omega) (by rw [e2]; omega),Nat.add_assoc boff,Qvy _ _ _ _ (by omega),Qvp _ _ _ _ (by omega) hlen]
 have hcl':cs'.length=Enc.sz α:=by rw [← hc,Qpm _ _ _ (by omega),hcl]
 have how':owH (w.setRow g (Qbb cur.toList (boff+m*Enc.sz α+off) c.cells.toList).toArray) (g::Gs.flatten) (.slice (some ⟨g,boff,none⟩) xs.length cap) xs m cs':=by
  refine ⟨g,boff,cap,_,e,Gs,rfl,h2,h3,hwr,?_,?_,rfl,h8,?_⟩
  · simp only [List.size_toArray]; rw [Qpm _ _ _ (by simp [hn] at hpos ⊢; omega)]; simpa using h5
  · rw [show (Qbb cur.toList (boff+m*Enc.sz α+off) c.cells.toList).toArray.toList=Qbb cur.toList (boff+m*Enc.sz α+off) c.cells.toList from rfl,hcell]
    refine Q2v ?_ (Qz8 hcl' h6)
    intro b hb'
    refine setRow_other w g b _ ?_
    intro hbg
    subst hbg
    exact (List.nodup_cons.1 h8).1 hb'
  · rw [show (Qbb cur.toList (boff+m*Enc.sz α+off) c.cells.toList).toArray.toList=Qbb cur.toList (boff+m*Enc.sz α+off) c.cells.toList from rfl,hcell]
    have e2':=e2
    simp only [Qbb]
    have hA:((List.take (xs.length*Enc.sz α) (List.drop boff cur.toList)).take (m*Enc.sz α)).length=m*Enc.sz α:=by rw [List.length_take,e2]; omega
    rw [List.append_assoc,List.drop_left' hA,List.take_left' hcl']
 refine Q9m hK hg hd (w':=w.setRow g (Qbb cur.toList (boff+m*Enc.sz α+off) c.cells.toList).toArray) ?_ λa hK=>hk' _ a hK hEx (hM.mut k hk hEx _ (λb hb=>⟨.inl hb,by simp; exact hFl b hb⟩) h8) how'
 subst hp
 simp only [execOp,ho,hK.ev hp',hK.ev hv,Instr.storeAt,Instr.sureAddr,Sem.run_bind,Sem.run_pure,Result.andThen_ok,Qmz,Qgk,hr]
theorem Quo {α:Type} [Enc α] {t sz:Nat} (hs:∀ w,(sizeOf t).run P w=.ok 1 w) (hM:St X w0 w M) (k:Nat) {F:List Nat} {u:World} {v:Value} {xs:List α} {m:Nat} {cs cs':List Value} (h:owH u F v xs m cs) (off:Nat) (hK:K N L a) {xo yo:Operand} {p:Addr} {c:Value}
    (hvc:c.cells=#[c]) (hvo:c.oneCell'=true) (hc:Qbb cs off [c]=cs')
    (hk:M[k]? = some (F,u)) (hg:gd L ops o.guard=some true) (hd:o.dst=none)
    (ho:o.op=.store t xo yo) (hp':ev L xo=some (.pointer (some p))) (hp:p=(Qmz v (Enc.sz α) m).add off) (hv:ev L yo=some c)
    (hsz:sz=Enc.sz α) (hle:Nat.ble (off+1) sz=true)
    (hk':∀ w' a,K N L a→Ext F w w'→St X w0 w' (M.set k (F,w'))→owH w' F v xs m cs'→wpList P ops Q rest a w'):wpList P ops Q (o::rest) a w :=
 Qu0 hs hM k h off hK hk hg hd ho hp' hp hv hsz hle (by rw [hvc]; simp [hvo]) (by rw [hvc]; rfl) (by rw [hvc]; exact hc) hk'
end
end Go.Proofs.YthkaklkinepfkaaGreatDoor
