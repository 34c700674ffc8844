/- own lemmas -/
import Derived.Test.YtdgpkmgnjdpieaaGreatDoorS4
import Derived.WalkKit
import Derived.ProofKit
import Derived.OpenShut
import Derived.Below
import Derived.ChangeSame
import Derived.ChangeMaps5
import Derived.Sort.Grow
import Derived.Laws.StructEq
import Derived.ChangeKeysEq
import Derived.Laws.CopyRow
import Derived.Laws.IdiomCopy
set_option linter.unusedSimpArgs false
set_option linter.unusedVariables false
namespace Go.Proofs.YtdgpkmgnjdpieaaGreatDoor
open Go Go.RowKit
open Enc (rd ow)
abbrev I (n:Int):Value:=.int .i64 n
theorem z.{u} {α:Sort u} {a:α}:a=a:=rfl
theorem CU {A:Nat→Option (Nat×Nat)} {cells c:Array Value} {i off:Nat} {v:Value} {rest:List (Nat×Value)} (D:A i=some (off,1)) (E:v.cells=#[v]) (hl:Nat.blt off cells.size=true)
    (h:Instr.fill A (cells.setIfInBounds off v) rest=some c):Instr.fill A cells ((i,v)::rest)=some c:=by
 have J:off<cells.size:=by simpa using hl
 unfold Instr.fill
 simp only [D,E]
 rw [if_neg AJ]
 simpa using h
section
variable {P:Program} {ops:Array Oper} {Q:Exit→Act→World→Prop} {rest:List Oper} {o:Oper} {a:Act} {w:World} {N:Nat} {L:List (Nat×Value)}
variable {X:List Nat} {w0:World} {M:List (List Nat×World)} {d:Nat} {S:World→Prop} {fuel:Nat} {listed:Array Bool} {next:Act→World→Prop} {x y z:Code} {id:Nat} {l:List Oper}
theorem wr (h:wpList P l.toArray (Exit.then (λa w=>y.wp P Q a w) Q) l a w):(Code.seq (.region id l.toArray false) y).wp P Q a w:=wp_seq (wp_region_lit h)
theorem nn (h:next a w):wpList P ops (Exit.then next Q) [] a w:=wpList_nil (AF h)
def uH (L:List (Nat×Value)) (ops:Array Oper) (N:Nat) (b:Bool) (o:Oper):Option Nat:=match o.dst with
 | none=>none
 | some d=>match gd L ops o.guard with
  | none=>none
  | some c=>bif Nat.blt d N then (if c=b then some d else none) else none
theorem MF {b:Bool} (h:uH L ops N b o=some d):gd L ops o.guard=some b∧o.dst=some d∧Nat.blt d N=true:=by
 unfold uH at h
 cases E:o.dst with
 | none=>rw [E] at h; cases h
 | some e =>
  rw [E] at h
  cases D:gd L ops o.guard with
  | none=>rw [D] at h; cases h
  | some c =>
   rw [D] at h
   cases A:Nat.blt e N
   · simp [A] at h
   · simp only [A,cond_true] at h
     split at h
     · rename_i J
       cases h
       exact ⟨by rw [J],rfl,A⟩
     · cases h
def qj (N:Nat) (ops:Array Oper):Nat→List Oper→List (Nat×Value)→Option (List Oper×List (Nat×Value))
 | 0,l,L=>some (l,L)
 | _+1,[],_=>none
 | n+1,o::r,L=>match o.dst with
  | none=>none
  | some d=>bif Nat.blt d N then (match gd L ops o.guard with
   | none=>none
   | some false=>qj N ops n r ((d,undef)::L)
   | some true=>match Ll L o.op with
    | none=>none
    | some v=>qj N ops n r ((d,v)::L)) else none
theorem pN:∀ (n:Nat) {l:List Oper} {L D:List (Nat×Value)} {a:Act},K N L a→qj N ops n l L=some (rest,D)→(∀ a,K N D a→wpList P ops Q rest a w)→wpList P ops Q l a w
 | 0,l,L,D,a,A,h1,h=>by
  simp only [qj,Option.some.injEq,Prod.mk.injEq] at h1
  obtain ⟨rfl,rfl⟩:=h1
  exact h a A
 | n+1,[],L,D,a,A,h1,h=>by simp [qj] at h1
 | n+1,o::r,L,D,a,A,h1,h=>by
  unfold qj at h1
  cases J:o.dst with
  | none=>simp [J] at h1
  | some d =>
   simp only [J] at h1
   cases O:Nat.blt d N
   · simp [O] at h1
   · simp only [O,cond_true] at h1
     cases E:gd L ops o.guard with
     | none=>simp [E] at h1
     | some c =>
      simp only [E] at h1
      cases c
      · exact sk A E J O λa A=>pN n A h1 h
      · simp only at h1
        cases T:Ll L o.op with
        | none=>simp [T] at h1
        | some v =>
         simp only [T] at h1
         exact s1 A E J O T λa A=>pN n A h1 h
theorem sv (E:K N L a) {v:Value} {w':World} (A:uH L ops N true o=some d) (D:(execOp a.eval o).run P w=.ok (.value v) w') (h:∀ a,K N ((d,v)::L) a→wpList P ops Q rest a w'):wpList P ops Q (o::rest) a w :=
 Ux E (MF A).1 (MF A).2.1 (MF A).2.2 D h
theorem cE (D:K N L a) (T:St X w0 w M) {f:FuncId} {J:List Operand} {vs:List Value} {v:Value} {A:Array TypeId}
    (hcall:∀ (args:Array Value) (w:World),(callFunc f args).run P w=.ok (.enter f args) w) (hd:uH L ops N true o=some d)
    (ho:o.op=.call { callee:=.value (.func f),args:=J.toArray,argTypes:=A }) (hv:evs L J=some vs)
    (hc:Calls P f vs.toArray w λe w'=>e=.returned v∧Ext [] w w') (hR:∀ w',Ext [] w w'→∀ a,K N ((d,v)::L) a→St X w0 w' M→wpList P ops Q rest a w'):wpList P ops Q (o::rest) a w :=
 kX D hcall (MF hd).1 (MF hd).2.1 (MF hd).2.2 ho hv hc λe w' E=>by
  obtain ⟨rfl,O⟩:=E
  exact ⟨_,rfl,λa D=>hR w' O a D (T.step O)⟩
def ws (ops:Array Oper) (listed:Array Bool) (i:Nat):Bool:=Region.noSelect ops&&(Region.free .any ops listed i&&(Region.ready .any ops listed).contains i)
theorem GM {i:Nat} (h:ws ops listed i=true):Region.noSelect ops=true∧Region.free .any ops listed i=true∧(Region.ready .any ops listed).contains i=true:=by
 simpa [ws] using h
theorem dt (J:K N L a) (i:Nat) {v:Value} (hi:ops[i]? = some o) (A:ws ops listed i=true) (D:uH L ops N true o=some d) (E:S w) (O:∀ c a w,Q (.panic c) (a.put o.dst v) w→Q (.panic c) a w)
    (hy:∀ w,S w→(execOp a.eval o).run P w=.ok (.value v) w) (h:∀ a,K N ((d,v)::L) a→wpAnyH P .any ops Q S fuel (listed.setIfInBounds i true) a w):wpAnyH P .any ops Q S (fuel+1) listed a w :=
 kV J i hi (GM A).1 (GM A).2.1 (GM A).2.2 (MF D).1 (MF D).2.1 (MF D).2.2 E O hy h
theorem ds (J:K N L a) (i:Nat) (hi:ops[i]? = some o) (A:ws ops listed i=true) (D:uH L ops N false o=some d) (E:S w) (O:∀ c a w,Q (.panic c) (a.put o.dst undef) w→Q (.panic c) a w)
    (h:∀ a,K N ((d,undef)::L) a→wpAnyH P .any ops Q S fuel (listed.setIfInBounds i true) a w):wpAnyH P .any ops Q S (fuel+1) listed a w :=
 nD J i hi (GM A).1 (GM A).2.1 (GM A).2.2 (MF D).1 (MF D).2.1 (MF D).2.2 E O h
def xb (ops:Array Oper):Array Bool→List Nat→Bool
 | _,[]=>true
 | l,i::is=>ws ops l i&&xb ops (l.setIfInBounds i true) is
def si:Array Bool→List Nat→Array Bool
 | l,[]=>l
 | l,i::is=>si (l.setIfInBounds i true) is
def qF (N:Nat) (ops:Array Oper):List Nat→List (Nat×Value)→Option (List (Nat×Value))
 | [],L=>some L
 | i::is,L=>match ops[i]? with
  | none=>none
  | some o=>match o.dst with
   | none=>none
   | some d=>bif Nat.blt d N then (match gd L ops o.guard with
    | none=>none
    | some false=>qF N ops is ((d,undef)::L)
    | some true=>match Ll L o.op with
     | none=>none
     | some v=>qF N ops is ((d,v)::L)) else none
theorem dN:∀ (is:List Nat) (n:Nat) {listed:Array Bool} {L J:List (Nat×Value)} {a:Act},is.length=n→K N L a→xb ops listed is=true→qF N ops is L=some J→S w →
    (∀ c (a:Act) d v w,Q (.panic c) (a.put (some d) v) w→Q (.panic c) a w)→(∀ a,K N J a→wpAnyH P .any ops Q S fuel (si listed is) a w)→wpAnyH P .any ops Q S (fuel+n) listed a w
 | [],n,listed,L,J,a,hn,A,ho,hv,hS,hQ,h=>by
  subst hn
  simp only [qF,Option.some.injEq] at hv
  subst hv
  exact h a A
 | i::is,n,listed,L,J,a,hn,A,ho,hv,hS,hQ,h=>by
  subst hn
  simp only [xb,Bool.and_eq_true] at ho
  unfold qF at hv
  cases hi:ops[i]? with
  | none=>simp [hi] at hv
  | some o =>
   simp only [hi] at hv
   cases D:o.dst with
   | none=>simp [D] at hv
   | some d =>
    simp only [D] at hv
    cases O:Nat.blt d N
    · simp [O] at hv
    · simp only [O,cond_true] at hv
      cases E:gd L ops o.guard with
      | none=>simp [E] at hv
      | some c =>
       simp only [E] at hv
       cases c
       · exact nD A i hi (GM ho.1).1 (GM ho.1).2.1 (GM ho.1).2.2 E D O hS (λc a w=>by rw [D]; exact hQ c a d _ w) λa A=>dN is _ rfl A ho.2 hv hS hQ h
       · simp only at hv
         cases T:Ll L o.op with
         | none=>simp [T] at hv
         | some v =>
          simp only [T] at hv
          exact sw A i hi (GM ho.1).1 (GM ho.1).2.1 (GM ho.1).2.2 E D O hS (λc a w=>by rw [D]; exact hQ c a d _ w) T λa A=>dN is _ rfl A ho.2 hv hS hQ h
theorem cI {α:Type} {b:Bool} {p q r:α} {t:Operand} (h:(bif b then p else q)=r) (E:K N L a) (D:ev L t=some (.bool b)) (J:b=true→p=r→x.wp P Q a w) (O:b=false→q=r→y.wp P Q a w) :
    (Code.cond t x y).wp P Q a w:=sj E D (λA=>J A (WD A h)) (λA=>O A (WG A h))
theorem K.rb (A:K N L a) (d:Nat) {b c:Bool} (hl:lk L d=some (.bool b)) (e:b=c):K N ((d,.bool c)::L) a:=A.re hl (congrArg Value.bool e)
theorem rB (A:K N L a) (d:Nat) {b c:Bool} {p:Prop} (hl:lk L d=some (.bool b)) (e:b=c) (h:K N ((d,.bool c)::L) a→p):p:=h (A.rb d hl e)
theorem oE {α β:Type} {m:Option α} {k:α→Option β} {r:β} {p:Prop} (h:AA m k=some r) (E:∀ x,m=some x→k x=some r→p):p:=by
 obtain ⟨x,D,A⟩:=XM h
 exact E x D A
theorem nS {α:Type} {r:α} {p:Prop} (h:(none:Option α)=some r):p:=by cases h
end
theorem fx {P:Program} {fn:Func} {a:Act} {w w0:World} {N:Nat} {L:List (Nat×Value)} {X:List Nat} {M:List (List Nat×World)} {t:Nat} {v:Value} (A:K N L a) (E:St X w0 w M) (D:fn.results=#[.tmp t]) (hl:lk L t=some v) :
    bodyPost P fn (λe w=>e=.returned v∧Ext X w0 w) .ret a w:=C5 A D (RV.tmp A hl) ⟨rfl,E.ext⟩
theorem fS {P:Program} {fn:Func} {a:Act} {w w0:World} {N:Nat} {L:List (Nat×Value)} {X:List Nat} {M:List (List Nat×World)} {t:Nat} {α:Type} {f:α→Value} {u r:α} (h:some u=some r) (E:K N L a) (D:St X w0 w M) (A:fn.results=#[.tmp t]) (hl:lk L t=some (f u)) :
    bodyPost P fn (λe w=>e=.returned (f r)∧Ext X w0 w) .ret a w:=by
 cases h
 exact fx E D A hl
end Go.Proofs.YtdgpkmgnjdpieaaGreatDoor
set_option linter.unusedSimpArgs false
set_option linter.unusedVariables false
namespace Go.Proofs.YtdgpkmgnjdpieaaGreatDoor
open Go Go.RowKit
open Enc (rd ow)
open Arg (argv)
open Ret (retv)
structure Pallet where
 fW:Int
 fD:Int
 fH:Int
 fQ:Int
 deriving DecidableEq
instance:Flat Pallet:=⟨4,λx=>[.int .i64 (x.fW),.int .i64 (x.fD),.int .i64 (x.fH),.int .i64 (x.fQ)],λ_=>rfl,λx=>by intro c hc; simp only [List.mem_cons,List.not_mem_nil,or_false] at hc; rcases hc with rfl | rfl | rfl | rfl <;> rfl⟩
instance:Arg Pallet:=⟨λ_ v x=>v=.agg (Flat.e x).toArray⟩
instance:Ret Pallet:=⟨λx=>.agg (Flat.e x).toArray⟩
structure Pair where
 fA:Int
 fB:Int
 deriving DecidableEq
instance:Flat Pair:=⟨2,λx=>[.int .i64 (x.fA),.int .i64 (x.fB)],λ_=>rfl,λx=>by intro c hc; simp only [List.mem_cons,List.not_mem_nil,or_false] at hc; rcases hc with rfl | rfl <;> rfl⟩
instance:Arg Pair:=⟨λ_ v x=>v=.agg (Flat.e x).toArray⟩
instance:Ret Pair:=⟨λx=>.agg (Flat.e x).toArray⟩
structure Typ where
 fe:Int
 fW:Int
 fH:Int
 fD:Int
 ff:Int
 fQ:Int
 fd:Int
 deriving DecidableEq
instance:Flat Typ:=⟨7,λx=>[.int .i64 (x.fe),.int .i64 (x.fW),.int .i64 (x.fH),.int .i64 (x.fD),.int .i64 (x.ff),.int .i64 (x.fQ),.int .i64 (x.fd)],λ_=>rfl,λx=>by intro c hc; simp only [List.mem_cons,List.not_mem_nil,or_false] at hc; rcases hc with rfl | rfl | rfl | rfl | rfl | rfl | rfl <;> rfl⟩
instance:Arg Typ:=⟨λ_ v x=>v=.agg (Flat.e x).toArray⟩
instance:Ret Typ:=⟨λx=>.agg (Flat.e x).toArray⟩
structure Item where
 fe:Int
 fW:Int
 fH:Int
 fD:Int
 fQ:Int
 fO:Int
 f9:Int
 deriving DecidableEq
instance:Flat Item:=⟨7,λx=>[.int .i64 (x.fe),.int .i64 (x.fW),.int .i64 (x.fH),.int .i64 (x.fD),.int .i64 (x.fQ),.int .i64 (x.fO),.int .i64 (x.f9)],λ_=>rfl,λx=>by intro c hc; simp only [List.mem_cons,List.not_mem_nil,or_false] at hc; rcases hc with rfl | rfl | rfl | rfl | rfl | rfl | rfl <;> rfl⟩
instance:Arg Item:=⟨λ_ v x=>v=.agg (Flat.e x).toArray⟩
instance:Ret Item:=⟨λx=>.agg (Flat.e x).toArray⟩
structure Request where
 fc:Int
 fJ:Pallet
 fR:Int
 fT:List Pair
 fG:List Typ
 fP:Int
 fU:List Item
instance:Enc Request where
 sz:=10
 rd:=λw F cs x=>∃ (c0:Value) (F0:List Nat) (c1:Value) (F1:List Nat) (c2:Value) (F2:List Nat),cs=[.int .i64 (x.fc),.int .i64 (x.fJ.fW),.int .i64 (x.fJ.fD),.int .i64 (x.fJ.fH),.int .i64 (x.fJ.fQ),.int .i64 (x.fR),c0,c1,.int .i64 (x.fP),c2]∧F=F0++(F1++(F2))∧rd w F0 [c0] x.fT∧rd w F1 [c1] x.fG∧rd w F2 [c2] x.fU
 ow:=λw F cs x=>∃ (c0:Value) (F0:List Nat) (c1:Value) (F1:List Nat) (c2:Value) (F2:List Nat),cs=[.int .i64 (x.fc),.int .i64 (x.fJ.fW),.int .i64 (x.fJ.fD),.int .i64 (x.fJ.fH),.int .i64 (x.fJ.fQ),.int .i64 (x.fR),c0,c1,.int .i64 (x.fP),c2]∧F=F0++(F1++(F2))∧ow w F0 [c0] x.fT∧ow w F1 [c1] x.fG∧ow w F2 [c2] x.fU∧F.Nodup
 rd_sz:=λh=>by obtain ⟨c0,F0,c1,F1,c2,F2,rfl,rfl,h0,h1,h2⟩:=h; rfl
 rd_one:=λh=>by
  obtain ⟨c0,F0,c1,F1,c2,F2,rfl,rfl,h0,h1,h2⟩:=h
  intro c hc
  simp only [List.mem_cons,List.not_mem_nil,or_false] at hc
  rcases hc with rfl | rfl | rfl | rfl | rfl | rfl | rfl | rfl | rfl | rfl <;> first | rfl | exact Enc.rd_one h0 _ (List.mem_singleton.2 rfl) | exact Enc.rd_one h1 _ (List.mem_singleton.2 rfl) | exact Enc.rd_one h2 _ (List.mem_singleton.2 rfl)
 ow_rd:=λh=>by obtain ⟨c0,F0,c1,F1,c2,F2,rfl,rfl,h0,h1,h2,_⟩:=h; exact ⟨c0,_,c1,_,c2,_,rfl,rfl,Enc.ow_rd h0,Enc.ow_rd h1,Enc.ow_rd h2⟩
 rd_lt:=λh=>by
  obtain ⟨c0,F0,c1,F1,c2,F2,rfl,rfl,h0,h1,h2⟩:=h
  intro b hb
  simp only [List.mem_append] at hb
  rcases hb with hb | hb | hb
  · exact Enc.rd_lt h0 b hb
  · exact Enc.rd_lt h1 b hb
  · exact Enc.rd_lt h2 b hb
 rd_agr:=λh hA=>by obtain ⟨c0,F0,c1,F1,c2,F2,rfl,rfl,h0,h1,h2⟩:=h; exact ⟨c0,_,c1,_,c2,_,rfl,rfl,Enc.rd_agr h0 (hA.sub (λb hb=>List.mem_append_left _ hb)),Enc.rd_agr h1 (hA.sub (λb hb=>List.mem_append_right _ (List.mem_append_left _ hb))),Enc.rd_agr h2 (hA.sub (λb hb=>List.mem_append_right _ (List.mem_append_right _ (hb))))⟩
 ow_agr:=λh hA=>by obtain ⟨c0,F0,c1,F1,c2,F2,rfl,rfl,h0,h1,h2,hn⟩:=h; exact ⟨c0,_,c1,_,c2,_,rfl,rfl,Enc.ow_agr h0 (hA.sub (λb hb=>List.mem_append_left _ hb)),Enc.ow_agr h1 (hA.sub (λb hb=>List.mem_append_right _ (List.mem_append_left _ hb))),Enc.ow_agr h2 (hA.sub (λb hb=>List.mem_append_right _ (List.mem_append_right _ (hb)))),hn⟩
 ow_nd:=λh=>by obtain ⟨c0,F0,c1,F1,c2,F2,_,_,_,_,_,hn⟩:=h; exact hn
instance:Arg Request:=⟨λw v x=>∃ cs F,v=.agg cs.toArray∧rd w F cs x⟩
structure Carton where
 f8:Int
 fF:Int
 fK:List Int
instance:Enc Carton where
 sz:=3
 rd:=λw F cs x=>∃ (c0:Value) (F0:List Nat),cs=[.int .i64 (x.f8),.int .i64 (x.fF),c0]∧F=F0∧rd w F0 [c0] x.fK
 ow:=λw F cs x=>∃ (c0:Value) (F0:List Nat),cs=[.int .i64 (x.f8),.int .i64 (x.fF),c0]∧F=F0∧ow w F0 [c0] x.fK∧F.Nodup
 rd_sz:=λh=>by obtain ⟨c0,F0,rfl,rfl,h0⟩:=h; rfl
 rd_one:=λh=>by
  obtain ⟨c0,F0,rfl,rfl,h0⟩:=h
  intro c hc
  simp only [List.mem_cons,List.not_mem_nil,or_false] at hc
  rcases hc with rfl | rfl | rfl <;> first | rfl | exact Enc.rd_one h0 _ (List.mem_singleton.2 rfl)
 ow_rd:=λh=>by obtain ⟨c0,F0,rfl,rfl,h0,_⟩:=h; exact ⟨c0,_,rfl,rfl,Enc.ow_rd h0⟩
 rd_lt:=λh=>by
  obtain ⟨c0,F0,rfl,rfl,h0⟩:=h
  intro b hb
  exact Enc.rd_lt h0 b hb
 rd_agr:=λh hA=>by obtain ⟨c0,F0,rfl,rfl,h0⟩:=h; exact ⟨c0,_,rfl,rfl,Enc.rd_agr h0 hA⟩
 ow_agr:=λh hA=>by obtain ⟨c0,F0,rfl,rfl,h0,hn⟩:=h; exact ⟨c0,_,rfl,rfl,Enc.ow_agr h0 hA,hn⟩
 ow_nd:=λh=>by obtain ⟨c0,F0,_,_,_,hn⟩:=h; exact hn
instance:Arg Carton:=⟨λw v x=>∃ cs F,v=.agg cs.toArray∧rd w F cs x⟩
structure Spot where
 fJ:Int
 fX:Int
 fY:Int
 fZ:Int
 deriving DecidableEq
instance:Flat Spot:=⟨4,λx=>[.int .i64 (x.fJ),.int .i64 (x.fX),.int .i64 (x.fY),.int .i64 (x.fZ)],λ_=>rfl,λx=>by intro c hc; simp only [List.mem_cons,List.not_mem_nil,or_false] at hc; rcases hc with rfl | rfl | rfl | rfl <;> rfl⟩
instance:Arg Spot:=⟨λ_ v x=>v=.agg (Flat.e x).toArray⟩
instance:Ret Spot:=⟨λx=>.agg (Flat.e x).toArray⟩
structure Plan where
 fV:List Carton
 fE:List Spot
instance:Enc Plan where
 sz:=2
 rd:=λw F cs x=>∃ (c0:Value) (F0:List Nat) (c1:Value) (F1:List Nat),cs=[c0,c1]∧F=F0++(F1)∧rd w F0 [c0] x.fV∧rd w F1 [c1] x.fE
 ow:=λw F cs x=>∃ (c0:Value) (F0:List Nat) (c1:Value) (F1:List Nat),cs=[c0,c1]∧F=F0++(F1)∧ow w F0 [c0] x.fV∧ow w F1 [c1] x.fE∧F.Nodup
 rd_sz:=λh=>by obtain ⟨c0,F0,c1,F1,rfl,rfl,h0,h1⟩:=h; rfl
 rd_one:=λh=>by
  obtain ⟨c0,F0,c1,F1,rfl,rfl,h0,h1⟩:=h
  intro c hc
  simp only [List.mem_cons,List.not_mem_nil,or_false] at hc
  rcases hc with rfl | rfl <;> first | rfl | exact Enc.rd_one h0 _ (List.mem_singleton.2 rfl) | exact Enc.rd_one h1 _ (List.mem_singleton.2 rfl)
 ow_rd:=λh=>by obtain ⟨c0,F0,c1,F1,rfl,rfl,h0,h1,_⟩:=h; exact ⟨c0,_,c1,_,rfl,rfl,Enc.ow_rd h0,Enc.ow_rd h1⟩
 rd_lt:=λh=>by
  obtain ⟨c0,F0,c1,F1,rfl,rfl,h0,h1⟩:=h
  intro b hb
  simp only [List.mem_append] at hb
  rcases hb with hb | hb
  · exact Enc.rd_lt h0 b hb
  · exact Enc.rd_lt h1 b hb
 rd_agr:=λh hA=>by obtain ⟨c0,F0,c1,F1,rfl,rfl,h0,h1⟩:=h; exact ⟨c0,_,c1,_,rfl,rfl,Enc.rd_agr h0 (hA.sub (λb hb=>List.mem_append_left _ hb)),Enc.rd_agr h1 (hA.sub (λb hb=>List.mem_append_right _ (hb)))⟩
 ow_agr:=λh hA=>by obtain ⟨c0,F0,c1,F1,rfl,rfl,h0,h1,hn⟩:=h; exact ⟨c0,_,c1,_,rfl,rfl,Enc.ow_agr h0 (hA.sub (λb hb=>List.mem_append_left _ hb)),Enc.ow_agr h1 (hA.sub (λb hb=>List.mem_append_right _ (hb))),hn⟩
 ow_nd:=λh=>by obtain ⟨c0,F0,c1,F1,_,_,_,_,hn⟩:=h; exact hn
instance:Arg Plan:=⟨λw v x=>∃ cs F,v=.agg cs.toArray∧rd w F cs x⟩
structure Box where
 fW:Int
 fD:Int
 fH:Int
 fQ:Int
 deriving DecidableEq
instance:Flat Box:=⟨4,λx=>[.int .i64 (x.fW),.int .i64 (x.fD),.int .i64 (x.fH),.int .i64 (x.fQ)],λ_=>rfl,λx=>by intro c hc; simp only [List.mem_cons,List.not_mem_nil,or_false] at hc; rcases hc with rfl | rfl | rfl | rfl <;> rfl⟩
instance:Arg Box:=⟨λ_ v x=>v=.agg (Flat.e x).toArray⟩
instance:Ret Box:=⟨λx=>.agg (Flat.e x).toArray⟩
structure Load where
 f0:List Int
 fH:Int
 fQ:Int
instance:Enc Load where
 sz:=3
 rd:=λw F cs x=>∃ (c0:Value) (F0:List Nat),cs=[c0,.int .i64 (x.fH),.int .i64 (x.fQ)]∧F=F0∧rd w F0 [c0] x.f0
 ow:=λw F cs x=>∃ (c0:Value) (F0:List Nat),cs=[c0,.int .i64 (x.fH),.int .i64 (x.fQ)]∧F=F0∧ow w F0 [c0] x.f0∧F.Nodup
 rd_sz:=λh=>by obtain ⟨c0,F0,rfl,rfl,h0⟩:=h; rfl
 rd_one:=λh=>by
  obtain ⟨c0,F0,rfl,rfl,h0⟩:=h
  intro c hc
  simp only [List.mem_cons,List.not_mem_nil,or_false] at hc
  rcases hc with rfl | rfl | rfl <;> first | rfl | exact Enc.rd_one h0 _ (List.mem_singleton.2 rfl)
 ow_rd:=λh=>by obtain ⟨c0,F0,rfl,rfl,h0,_⟩:=h; exact ⟨c0,_,rfl,rfl,Enc.ow_rd h0⟩
 rd_lt:=λh=>by
  obtain ⟨c0,F0,rfl,rfl,h0⟩:=h
  intro b hb
  exact Enc.rd_lt h0 b hb
 rd_agr:=λh hA=>by obtain ⟨c0,F0,rfl,rfl,h0⟩:=h; exact ⟨c0,_,rfl,rfl,Enc.rd_agr h0 hA⟩
 ow_agr:=λh hA=>by obtain ⟨c0,F0,rfl,rfl,h0,hn⟩:=h; exact ⟨c0,_,rfl,rfl,Enc.ow_agr h0 hA,hn⟩
 ow_nd:=λh=>by obtain ⟨c0,F0,_,_,_,hn⟩:=h; exact hn
instance:Arg Load:=⟨λw v x=>∃ cs F,v=.agg cs.toArray∧rd w F cs x⟩
structure Layer where
 fM:List Int
 fD:Int
 fH:Int
 fQ:Int
instance:Enc Layer where
 sz:=4
 rd:=λw F cs x=>∃ (c0:Value) (F0:List Nat),cs=[c0,.int .i64 (x.fD),.int .i64 (x.fH),.int .i64 (x.fQ)]∧F=F0∧rd w F0 [c0] x.fM
 ow:=λw F cs x=>∃ (c0:Value) (F0:List Nat),cs=[c0,.int .i64 (x.fD),.int .i64 (x.fH),.int .i64 (x.fQ)]∧F=F0∧ow w F0 [c0] x.fM∧F.Nodup
 rd_sz:=λh=>by obtain ⟨c0,F0,rfl,rfl,h0⟩:=h; rfl
 rd_one:=λh=>by
  obtain ⟨c0,F0,rfl,rfl,h0⟩:=h
  intro c hc
  simp only [List.mem_cons,List.not_mem_nil,or_false] at hc
  rcases hc with rfl | rfl | rfl | rfl <;> first | rfl | exact Enc.rd_one h0 _ (List.mem_singleton.2 rfl)
 ow_rd:=λh=>by obtain ⟨c0,F0,rfl,rfl,h0,_⟩:=h; exact ⟨c0,_,rfl,rfl,Enc.ow_rd h0⟩
 rd_lt:=λh=>by
  obtain ⟨c0,F0,rfl,rfl,h0⟩:=h
  intro b hb
  exact Enc.rd_lt h0 b hb
 rd_agr:=λh hA=>by obtain ⟨c0,F0,rfl,rfl,h0⟩:=h; exact ⟨c0,_,rfl,rfl,Enc.rd_agr h0 hA⟩
 ow_agr:=λh hA=>by obtain ⟨c0,F0,rfl,rfl,h0,hn⟩:=h; exact ⟨c0,_,rfl,rfl,Enc.ow_agr h0 hA,hn⟩
 ow_nd:=λh=>by obtain ⟨c0,F0,_,_,_,hn⟩:=h; exact hn
instance:Arg Layer:=⟨λw v x=>∃ cs F,v=.agg cs.toArray∧rd w F cs x⟩
structure Shelf where
 f7:List Int
 fW:Int
 fD:Int
 fH:Int
 fQ:Int
instance:Enc Shelf where
 sz:=5
 rd:=λw F cs x=>∃ (c0:Value) (F0:List Nat),cs=[c0,.int .i64 (x.fW),.int .i64 (x.fD),.int .i64 (x.fH),.int .i64 (x.fQ)]∧F=F0∧rd w F0 [c0] x.f7
 ow:=λw F cs x=>∃ (c0:Value) (F0:List Nat),cs=[c0,.int .i64 (x.fW),.int .i64 (x.fD),.int .i64 (x.fH),.int .i64 (x.fQ)]∧F=F0∧ow w F0 [c0] x.f7∧F.Nodup
 rd_sz:=λh=>by obtain ⟨c0,F0,rfl,rfl,h0⟩:=h; rfl
 rd_one:=λh=>by
  obtain ⟨c0,F0,rfl,rfl,h0⟩:=h
  intro c hc
  simp only [List.mem_cons,List.not_mem_nil,or_false] at hc
  rcases hc with rfl | rfl | rfl | rfl | rfl <;> first | rfl | exact Enc.rd_one h0 _ (List.mem_singleton.2 rfl)
 ow_rd:=λh=>by obtain ⟨c0,F0,rfl,rfl,h0,_⟩:=h; exact ⟨c0,_,rfl,rfl,Enc.ow_rd h0⟩
 rd_lt:=λh=>by
  obtain ⟨c0,F0,rfl,rfl,h0⟩:=h
  intro b hb
  exact Enc.rd_lt h0 b hb
 rd_agr:=λh hA=>by obtain ⟨c0,F0,rfl,rfl,h0⟩:=h; exact ⟨c0,_,rfl,rfl,Enc.rd_agr h0 hA⟩
 ow_agr:=λh hA=>by obtain ⟨c0,F0,rfl,rfl,h0,hn⟩:=h; exact ⟨c0,_,rfl,rfl,Enc.ow_agr h0 hA,hn⟩
 ow_nd:=λh=>by obtain ⟨c0,F0,_,_,_,hn⟩:=h; exact hn
instance:Arg Shelf:=⟨λw v x=>∃ cs F,v=.agg cs.toArray∧rd w F cs x⟩
structure L7 where
 fvol:Int
 fgram:Int
 deriving DecidableEq
instance:Flat L7:=⟨2,λx=>[.int .i64 (x.fvol),.int .i64 (x.fgram)],λ_=>rfl,λx=>by intro c hc; simp only [List.mem_cons,List.not_mem_nil,or_false] at hc; rcases hc with rfl | rfl <;> rfl⟩
instance:Arg L7:=⟨λ_ v x=>v=.agg (Flat.e x).toArray⟩
instance:Ret L7:=⟨λx=>.agg (Flat.e x).toArray⟩
structure Cur where
 fb:List U8
 fi:Int
 fh:Int
instance:Enc Cur where
 sz:=3
 rd:=λw F cs x=>∃ (c0:Value) (F0:List Nat),cs=[c0,.int .i64 (x.fi),.int .i64 (x.fh)]∧F=F0∧rd w F0 [c0] x.fb
 ow:=λw F cs x=>∃ (c0:Value) (F0:List Nat),cs=[c0,.int .i64 (x.fi),.int .i64 (x.fh)]∧F=F0∧ow w F0 [c0] x.fb∧F.Nodup
 rd_sz:=λh=>by obtain ⟨c0,F0,rfl,rfl,h0⟩:=h; rfl
 rd_one:=λh=>by
  obtain ⟨c0,F0,rfl,rfl,h0⟩:=h
  intro c hc
  simp only [List.mem_cons,List.not_mem_nil,or_false] at hc
  rcases hc with rfl | rfl | rfl <;> first | rfl | exact Enc.rd_one h0 _ (List.mem_singleton.2 rfl)
 ow_rd:=λh=>by obtain ⟨c0,F0,rfl,rfl,h0,_⟩:=h; exact ⟨c0,_,rfl,rfl,Enc.ow_rd h0⟩
 rd_lt:=λh=>by
  obtain ⟨c0,F0,rfl,rfl,h0⟩:=h
  intro b hb
  exact Enc.rd_lt h0 b hb
 rd_agr:=λh hA=>by obtain ⟨c0,F0,rfl,rfl,h0⟩:=h; exact ⟨c0,_,rfl,rfl,Enc.rd_agr h0 hA⟩
 ow_agr:=λh hA=>by obtain ⟨c0,F0,rfl,rfl,h0,hn⟩:=h; exact ⟨c0,_,rfl,rfl,Enc.ow_agr h0 hA,hn⟩
 ow_nd:=λh=>by obtain ⟨c0,F0,_,_,_,hn⟩:=h; exact hn
instance:Arg Cur:=⟨λw v x=>∃ cs F,v=.agg cs.toArray∧rd w F cs x⟩
end Go.Proofs.YtdgpkmgnjdpieaaGreatDoor
set_option linter.unusedSimpArgs false
set_option linter.unusedVariables false
namespace Go.Proofs.YtdgpkmgnjdpieaaGreatDoor
open Go Go.RowKit Go.ChangeShapes Go.WideShapes Go.ChangeAt
open Enc (rd ow)
open Arg (argv)
open Ret (retv)
class Wf (α:Type) where
 wf:α→Prop
open Wf (wf)
instance:Wf Int:=⟨λn=>-9223372036854775808≤n∧n≤9223372036854775807⟩
instance:Wf U8:=⟨λb=>0≤b.n∧b.n≤255⟩
instance:Wf Bool:=⟨λ_=>True⟩
instance:Wf ByteArray:=⟨λs=>s.size≤maxLen⟩
instance {α:Type} [Wf α]:Wf (List α):=⟨λxs=>xs.length≤maxLen∧∀ x∈xs,wf x⟩
def TR (P:Program) (t:TypeId) (α:Type) [Enc α] [Wf α]:Prop :=
 ∀ {H:Type} (enc:TypeId×Value→H) (W:World) (n:Nat) (cs:List Value) (x:DataW H×List MemPlace),
  DataW.trod enc P W 0 (λ_=>true) true n t cs=some x→∃ F v,rd W F cs v∧wf (α:=α) v
theorem yH {P:Program} {t:TypeId} (D:P.underlying t=some (.int .u8)):TR P t U8:=by
 intro H enc W n cs x h
 obtain ⟨m,rfl,_,A⟩:=DataW.trod_int D h
 simp only [Lit.wf,IntKind.min,IntKind.max,IntKind.signed,IntKind.bits,Bool.and_eq_true,decide_eq_true_eq] at A
 refine ⟨[],⟨m⟩,⟨rfl,rfl⟩,?_⟩
 show _∧_
 simpa using A
theorem ce {α:Type} [Enc α] {w:World} {F G:List Nat} (hs:∀ b∈F,b∈G):∀ {cells:List Value} {A:List α},jM w F cells A→jM w G cells A
 | _,[],_=>trivial
 | _,_::_,⟨⟨K,hK,h⟩,h'⟩=>⟨⟨K,λb D=>hs b (hK b D),h⟩,ce hs h'⟩
theorem ju {α:Type} [Enc α] [Wf α] {W:World} (cells:List Value):∀ (n:Nat) (off:Nat),
    (∀ i,i<n→∃ G x,rd W G ((cells.drop (off+i*Enc.sz α)).take (Enc.sz α)) x∧wf (α:=α) x) →
    ∃ F D,D.length=n∧(∀ b∈F,b<W.heap.size)∧jM (α:=α) W F (cells.drop off) D∧∀ x∈D,wf x
 | 0,_,_=>⟨[],[],rfl,AD,trivial,AD⟩
 | n+1,off,h=>by
  obtain ⟨G,x,J,O⟩:=h 0 AC
  rw [Nat.zero_mul,Nat.add_zero] at J
  obtain ⟨F,D,hl,M,N,E⟩:=ju cells n (off+Enc.sz α) (λi hi=>by
   have:=h (i+1) AC
   rwa [show off+(i+1)*Enc.sz α=off+Enc.sz α+i*Enc.sz α by rw [Nat.add_mul]; omega] at this)
  refine ⟨G++F,x::D,by simp [hl],?_,?_,?_⟩
  · intro b A
    rcases List.mem_append.1 A with A | A
    · exact Enc.rd_lt J b A
    · exact M b A
  · refine ⟨⟨G,λb A=>List.mem_append_left _ A,J⟩,?_⟩
    rw [List.drop_drop]
    exact ce (λb A=>List.mem_append_right _ A) N
  · intro y L
    rcases List.mem_cons.1 L with rfl | L
    · exact O
    · exact E y L
theorem ro {P:Program} {t e:TypeId} {α:Type} [Enc α] [Wf α] (ht:P.underlying t=some (.slice e)) (hc:P.cellsOf e=Enc.sz α) (hp:0<Enc.sz α) (he:TR P e α):TR P t (List α):=by
 intro H enc W fuel cs x h
 rcases DataW.trod_slice ht h with ⟨rfl,_⟩ | ⟨a,J,cap,V,rest,n,_,rfl,_,_,hl,hm,Ad,Ab,_,_⟩
 · exact ⟨[],[],⟨none,0,rfl,AD,by simp [maxLen],AD,.inl rfl⟩,by simp [maxLen],AD⟩
 by_cases h0:J=0
 · subst h0
   exact ⟨[],[],⟨some a,cap,rfl,AD,hm,AD,.inl rfl⟩,AD,AD⟩
 have E:∀ i,i<J→∃ cs',W.cells? 0 (a.add (i*Enc.sz α)) (Enc.sz α)=some cs'∧∃ G y,rd W G cs' y∧wf (α:=α) y:=by
  intro i hi
  have:=Ab i hi
  rw [hc,List.getElem?_eq_getElem AC,Option.bind_eq_some_iff] at this
  obtain ⟨cs',Y,L⟩:=this
  exact ⟨cs',Y,he enc W n cs' _ L⟩
 obtain ⟨_,Y,_⟩:=E 0 AC
 obtain ⟨_,_,M⟩:=World.cells?_some Y
 have L:=M 0 hp
 rw [List.getElem?_eq_getElem AC] at L
 have e0:(a.add (0*Enc.sz α)).add 0=a:=by simp [Addr.add]
 rw [e0] at L
 obtain ⟨g,off,D⟩:=a
 unfold World.cell? at L
 split at L <;> try simp at L
 rename_i c ty fr U
 simp only at U
 have hs:D=none:=by cases D <;> simp_all
 subst hs
 have O:∀ k j,(((⟨g,off,none⟩:Addr).add k).add j)=⟨g,off+k+j,none⟩:=by
  intro k j
  simp only [Addr.add]
  by_cases hk:k=0 <;> by_cases Q:j=0 <;> simp [hk,Q]
 obtain ⟨F,xs,Ac,Aa,hr,hw⟩:=ju (α:=α) (W:=W) c.toList J off (λi hi=>by
  obtain ⟨cs',h3,G,y,hy,Z⟩:=E i hi
  obtain ⟨_,_,A⟩:=World.cells?_some h3
  have:cs'=(c.toList.drop (off+i*Enc.sz α)).take (Enc.sz α):=by
   apply List.ext_getElem?
   intro j
   by_cases Q:j<Enc.sz α
   · have T:=A j Q
     rw [O] at T
     unfold World.cell? at T
     rw [U] at T
     simp only [Option.isSome_none,Bool.false_eq_true,if_false] at T
     rw [← T,List.getElem?_take,if_pos Q,List.getElem?_drop,Array.getElem?_toList]
   · rw [List.getElem?_eq_none AC,List.getElem?_take,if_neg Q]
  exact ⟨G,y,this ▸ hy,Z⟩)
 refine ⟨g::F,xs,⟨_,cap,by rw [Ac],AC,hm,?_,.inr ⟨g,off,c,ty,fr,rfl,AD,U,ce (λb N=>List.mem_cons_of_mem _ N) hr⟩⟩,AC,hw⟩
 intro b N
 rcases List.mem_cons.1 N with rfl | N
 · exact IF U
 · exact Aa b N
section
variable {H:Type} {enc:TypeId×Value→H} {P:Program} {W:World} {t:TypeId} {v:Value} {d:DataW H} {ps:List MemPlace}
theorem qL {e:TypeId} {α:Type} [Enc α] [Wf α] (ht:P.underlying t=some (.slice e)) (hT:TR P t (List α)) (hval:Value.okWide P W .any 0 t v) (hd:DataW.Trod enc P W 0 (λ_=>true) true t v d ps) :
    ∃ (x:List α) (F:List Nat),rd W F [v] x∧wf x:=by
 obtain ⟨a,_,cap,rfl⟩:=okWide_slice ht hval
 obtain ⟨fuel,E⟩:=hd
 obtain ⟨F,x,D,A⟩:=hT enc W fuel _ _ E
 exact ⟨x,F,by simpa [Value.cells] using D,A⟩
end
section
variable {H:Type} {enc:TypeId×Value→H} {P:Program}
theorem qZ {f:Func} {s:ChangeSpec} {D M E O:Bool} {W Q:World} {args:Array Value} {v:Value} {ds U:List (DataW H)} {A T pv:List MemPlace}
    (hW:DataW.Whole enc P f.params.toList s.vars D W args.toList ds U A)
    (hres:∀ (b:Nat) (N:Nat→Bool) (h:Bool),DataW.TrodAll enc P Q b N h f.resultTypes.toList (v.resultList f.resultTypes.size) (s.fn H (ds++U)).results [])
    (hargs:∀ N:Nat→Bool,(∀ p∈A,N p.block=true)→DataW.TrodAll enc P Q 0 N true f.params.toList args.toList (s.fn H (ds++U)).args T)
    (hvars:∀ N:Nat→Bool,(∀ p∈A,N p.block=true)→DataW.TrodVars enc P Q N s.vars (s.fn H (ds++U)).vars pv)
    (hps:A=T++pv) (hb:Below W.heap.size W Q)
    (hok:∀ (j:Nat) (t:TypeId) (r:Value),f.resultTypes[j]? = some t→(v.resultList f.resultTypes.size)[j]? = some r→Value.okWide P Q .any 0 t r) :
    s.post enc P f D M E O W args v Q:=by
 have V:∀ p∈A,p.block<W.heap.size:=λp J=>hW.lt p J
 have L:∀ p∈A,(λb=>decide (b<W.heap.size)) p.block=true:=λp J=>by simpa using V p J
 refine ⟨ds,U,A,[],T,pv,hW,hres _ _ _,hargs _ L,hvars _ L,World.keptBut_mono (λp J=>⟨J,?_⟩) (hb.frame (·∈A)),λ_=>?_⟩
 · rw [hps,List.mem_append] at J
   exact Or.inr J
 · obtain ⟨_,_,_,_,_,Z,hn⟩:=hW
   refine ⟨hok,_,_,([]++T)++pv,⟨[]++T,pv,trodAll_append (hargs _ (λ_ _=>rfl)) (hres _ _ _),hvars _ (λ_ _=>rfl),rfl,?_,?_⟩,?_⟩
   · intro b off J
     have Y:MemPlace.cell b off∈A:=by rw [hps]; simpa using J
     rw [hb.frozen (V _ Y)]
     exact Z b off Y
   · intro e
     have:=hn e
     rw [hps] at this
     simpa using this
   · intro p J _
     rw [hps]
     simpa using J
theorem jV (hl:laidOutB P=true) {W J:World} (L:Below W.heap.size W J):∀ {D:List TypeId} {vs:List Value} {ds:List (DataW H)} {ps:List MemPlace} {E:Nat→Bool},
    (∀ t∈D,P.readableRec t=true∧t<P.types.size)→DataW.TrodAll enc P W 0 (λ_=>true) true D vs ds ps→(∀ x∈ps,x.block<W.heap.size)→(∀ x∈ps,E x.block=true) →
    DataW.TrodAll enc P J 0 E true D vs ds ps
 | [],vs,ds,ps,E,_,h,_,_=>by
  obtain ⟨rfl,rfl,rfl⟩:=trodAll_nil h
  exact trodAll_mk0
 | t::D,vs,ds,ps,E,hT,h,hlt,hs=>by
  obtain ⟨v,_,d,_,p,q,rfl,rfl,rfl,M,O⟩:=trodAll_cons h
  exact trodAll_cons_mk (WideElems.Trod_stays hl (hT t AD).1 (hT t AD).2 M (λx A=>L.same (hlt x (by simp [A]))) (λx A=>hs x (by simp [A])))
   (jV hl L (λu N=>hT u (by simp [N])) O (λx A=>hlt x (by simp [A])) (λx A=>hs x (by simp [A])))
end
end Go.Proofs.YtdgpkmgnjdpieaaGreatDoor
set_option linter.unusedSimpArgs false
set_option linter.unusedVariables false
namespace Go.Proofs.YtdgpkmgnjdpieaaGreatDoor
open Go Go.RowKit
open Enc (rd ow)
open Arg (argv)
open Ret (retv)
theorem Yw {w:World}:∀ {Gs:List (List Nat)} {cells:List Value} {A:List Int},ah w Gs cells A→cells=A.map (Value.int .i64)
 | [],_,[],h=>h
 | G::Gs,cells,x::A,⟨h,h'⟩=>by
  have e:=Yw h'
  have D:cells.take 1=[Value.int .i64 x]:=h.2
  have E:cells.drop 1=A.map (Value.int .i64):=e
  rw [← List.take_append_drop 1 cells,D,E]
  rfl
 | [],_,_::_,h=>h.elim
 | _::_,_,[],h=>h.elim
theorem mH {M:World} {g off cap:Nat} {c:Array Value} {e:TypeId} {D:List Int} {Gs:List (List Nat)} (O:M.heap[g]? = some (.cells c e (0,0))) (Q:ah M Gs ((c.toList.drop off).take (D.length*Enc.sz Int)) D) :
    Go.Sort.Holds (Value.int .i64) M g off D.toArray:=by
 have N:=Yw Q
 have L:Enc.sz Int=1:=rfl
 rw [L,Nat.mul_one] at N
 have A:∀ j (E:j<D.length),c[off+j]? = some (Value.int .i64 D[j]):=by
  intro j E
  have:=congrArg (λl=>l[j]?) N
  simp only [List.getElem?_take,if_pos E,List.getElem?_drop,Array.getElem?_toList,List.getElem?_map,List.getElem?_eq_getElem E,Option.map_some] at this
  exact this
 intro j E
 have J:j<D.length:=by simpa using E
 refine ⟨?_,?_⟩
 · unfold World.cell?
   simp only [O,Option.isSome_none,Bool.false_eq_true,if_false]
   rw [A j J,getElem!_pos _ j (by simpa using J)]
   simp
 · unfold World.frozen?
   simp only [O]
   simp
theorem jx {D w:World} {g off cap:Nat} {c:Array Value} {e:TypeId} {L ys:List Int} {Gs:List (List Nat)} (hl:ys.length=L.length) (h1:L.length≤cap) (h2:cap≤maxLen) (Y:D.heap[g]? = some (.cells c e (0,0)))
    (h4:off+cap*Enc.sz Int≤c.size) (h5:ah D Gs ((c.toList.drop off).take (L.length*Enc.sz Int)) L) (h6:(g::Gs.flatten).Nodup) {n:Nat} {os:Array Obj}
    (hw:w=Go.Sort.grow (Go.Sort.putRow (Value.int .i64) (Go.Sort.ahead D n) g off ys.toArray) os) :
    Ext (g::Gs.flatten) D w∧ow w (g::Gs.flatten) [.slice (some ⟨g,off,none⟩) ys.length cap] ys:=by
 have h:=MQ h5
 have J:Enc.sz Int=1:=rfl
 rw [J,Nat.mul_one] at h4
 subst hw
 have Q:=IF Y
 have A:∀ k,k<D.heap.size→(Go.Sort.grow (Go.Sort.putRow (Value.int .i64) (Go.Sort.ahead D n) g off ys.toArray) os).heap[k]? =
     if g=k then some (.cells (Go.Sort.putCells (Value.int .i64) off ys.toArray c) e (0,0)) else D.heap[k]?:=by
  intro k V
  have T:k<(Go.Sort.putRow (Value.int .i64) (Go.Sort.ahead D n) g off ys.toArray).heap.size:=by simpa using V
  simp only [Go.Sort.grow]
  rw [Array.getElem?_append_left T]
  simp only [Go.Sort.putRow,Go.Sort.mapBlock,Go.Sort.heap_ahead,Array.getElem?_modify]
  by_cases E:g=k
  · subst E
    rw [if_pos rfl,if_pos rfl,Y]
    rfl
  · rw [if_neg E,if_neg E]
 refine ⟨⟨rfl,rfl,rfl,AD,λk V hx=>?_⟩,?_⟩
 · rw [A k V,if_neg (λe=>hx (by simp [e]))]
 · have O:=A g Q
   rw [if_pos rfl] at O
   refine .inr ⟨g,off,cap,_,e,ys.map λ_=>[],rfl,AC,h2,O,?_,?_,?_,h6⟩
   · simpa [Go.Sort.putCells,J] using h4
   · have U:(((Go.Sort.putCells (Value.int .i64) off ys.toArray c).toList.drop off).take (ys.length*Enc.sz Int))=(ys.map Flat.e).flatten:=by
       have e2:(ys.map (Flat.e (α:=Int))).flatten=ys.map (Value.int .i64):=by
        clear hl A O
        induction ys with
        | nil=>rfl
        | cons y ys Z=>simp only [List.map_cons,List.flatten_cons,Z]; rfl
       rw [e2,J,Nat.mul_one]
       have Aa:off+ys.length≤c.size:=AC
       apply List.ext_getElem?
       intro j
       simp only [List.getElem?_take,List.getElem?_drop,Array.getElem?_toList,List.getElem?_map]
       by_cases M:j<ys.length
       · rw [if_pos M]
         have N:off+j<c.size:=AC
         simp only [Go.Sort.putCells,Array.getElem?_mapIdx,Array.getElem?_eq_getElem N,Option.map_some,List.size_toArray]
         rw [if_pos ⟨AC,AC⟩,show off+j - off=j by omega,getElem!_pos _ j (by simpa using M)]
         simp [List.getElem?_eq_getElem M]
       · rw [if_neg M,List.getElem?_eq_none AC]
         rfl
     rw [U]
     exact WF _
   · rw [h,Mm]
def bU (A:List Int):Option (List Int):=if A.length<4611686018427387904 then some (A.mergeSort λx y=>decide (x≤y)) else none
theorem qi {P:Program} {D:Nat}
    (hs:∀ (A off cap:Nat) (J:List Int) (w:World),Go.Sort.Holds (Value.int .i64) w A off J.toArray→A<w.heap.size→J.length<4611686018427387904 →
     Calls P D #[.slice (some ⟨A,off,none⟩) J.length cap] w λe w'=>e=.returned (.tuple #[])∧∃ n os,w'=Go.Sort.grow (Go.Sort.putRow (Value.int .i64) (Go.Sort.ahead w n) A off (J.mergeSort λx y=>decide (x≤y)).toArray) os)
    (hn:∀ (p:Option Addr) (cap:Nat) (w:World),Calls P D #[.slice p 0 cap] w λe w'=>e=.returned (.tuple #[])∧w'=w)
    {w0:World} (xs:List Int) {v:Value} {F:List Nat} (h:ow w0 F [v] xs) {r:List Int} (hr:bU xs=some r) :
    Calls P D #[v] w0 λe w=>e=.returned (.tuple #[])∧Ext F w0 w∧ow w F [v] r:=by
 unfold bU at hr
 split at hr
 · rename_i E
   simp only [Option.some.injEq] at hr
   subst hr
   rcases h with ⟨M,rfl,rfl⟩ | ⟨g,off,cap,c,e,Gs,M,V,Y,L,h4,T,rfl,Z⟩
   · have:=(List.cons.inj M).1
     subst this
     refine (hn none 0 w0).mono λe w ⟨N,O⟩=>?_
     subst O
     exact ⟨N,Ext.refl _ _,.inl ⟨rfl,AD,rfl⟩⟩
   · have:=(List.cons.inj M).1
     subst this
     have hl:=List.length_mergeSort (le:=λx y=>decide (x≤y)) xs
     refine (hs g off cap xs w0 (mH (cap:=cap) L T) (IF L) E).mono λ_ w ⟨N,n,os,O⟩=>?_
     obtain ⟨U,Q⟩:=jx hl V Y L h4 T Z O
     rw [hl] at Q
     exact ⟨N,U,Q⟩
 · cases hr
end Go.Proofs.YtdgpkmgnjdpieaaGreatDoor
set_option linter.unusedSimpArgs false
set_option linter.unusedVariables false
namespace Go.Proofs.YtdgpkmgnjdpieaaGreatDoor
open Go Go.RowKit
open Enc (rd ow)
open Arg (argv)
open Ret (retv)
theorem eqF {P:Program} {w:World} {d:Nat} {k:TypeId} (J:P.underlying k=some (.int .i64)) (E ys:Array Value):∀ (A:List Field) (l:List (Nat×Int×Int)),
    A.map (λf=>(f.name == "_",f.type,f.offset)) = l.map (λp=>(false,k,p.1)) → (∀ p ∈ l,E[p.1]? = some (.int .i64 p.2.1) ∧ ys[p.1]? = some (.int .i64 p.2.2)) →
    (Op.eqFields (d+1) E ys A).run P w=.ok (l.all λp=>p.2.1==p.2.2) w
 | [],[],_,_=>by simp [Op.eqFields]
 | [],_::_,h,_=>by simp at h
 | _::_,[],h,_=>by simp at h
 | f::A,(i,a,b)::l,h,hv=>by
  simp only [List.map_cons,List.cons.injEq,Prod.mk.injEq,beq_eq_false_iff_ne,ne_eq] at h
  obtain ⟨⟨V,U,O⟩,h⟩:=h
  have D:P.plainKey k=true:=by simp [Program.plainKey,J]
  have L:=hv (i,a,b) AD
  have Q:=run_part_plain (P:=P) w D L.1
  have N:=run_part_plain (P:=P) w D L.2
  have M:=eqF (d:=d) (w:=w) J E ys A l h (λp D=>hv p (by simp [D]))
  simp only [Op.eqFields,ne_eq,V,not_false_eq_true,if_true,U,O,Sem.run_bind,Q,N,run_equalIn_int w d k .i64 .i64 a b J,Result.andThen_ok,List.all_cons]
  cases T:(a==b)
  · simp
  · simpa using M
theorem zZ {P:Program} {t k:TypeId} {A:Array Field} {α:Type} [Flat α] [DecidableEq α] (hu:P.underlying t=some (.struct A)) (hp:P.stoodInHeld t=false) (hm:P.eqGuardType P.depth t=false) (hk:P.underlying k=some (.int .i64))
    (z:α → α → List (Nat × Int × Int)) (hfs:∀ x y,A.toList.map (λf=>(f.name == "_",f.type,f.offset)) = (z x y).map (λp=>(false,k,p.1)))
    (hz:∀ x y,∀ p∈z x y,(Flat.e x).toArray[p.1]? = some (.int .i64 p.2.1)∧(Flat.e y).toArray[p.1]? = some (.int .i64 p.2.2))
    (he:∀ x y,((z x y).all λp=>p.2.1==p.2.2)=decide (x=y)):zO P t α:=by
 refine ⟨hm,λw x y=>?_⟩
 have D:P.fieldsOf t=A:=by simp [Program.fieldsOf,hu]
 rw [show (10000:Nat)=9999+1 from rfl,run_equalIn_struct w 9999 t _ _ (by rw [D]; exact hu) hp,D]
 rw [show (9999:Nat)=9998+1 from rfl,eqF hk _ _ A.toList (z x y) (hfs x y) (hz x y),he]
theorem ux {P:Program} {t k:TypeId} {D:Array Field} (E:P.underlying t=some (.struct D)) (A:P.stoodInHeld t=false) (L:P.eqGuardType P.depth t=false) (J:P.underlying k=some (.int .i64))
    (hfs:D.toList.map (λf=>(f.name == "_",f.type,f.offset)) = [(false,k,0),(false,k,1)]):zO P t Pair :=
 zZ E A L J (λx y=>[(0,x.fA,y.fA),(1,x.fB,y.fB)]) (λx y=>by rw [hfs]; rfl) (λx y p A=>by
  simp only [List.mem_cons,List.not_mem_nil,or_false] at A
  rcases A with rfl | rfl <;> exact ⟨rfl,rfl⟩)
  (λx y=>by
   rcases x with ⟨N,O⟩
   rcases y with ⟨Q,M⟩
   apply Bool.eq_iff_iff.2
   simp)
end Go.Proofs.YtdgpkmgnjdpieaaGreatDoor
set_option linter.unusedSimpArgs false
set_option linter.unusedVariables false
namespace Go.Proofs.YtdgpkmgnjdpieaaGreatDoor
open Go Go.RowKit
open Enc (rd ow)
open Arg (argv)
open Ret (retv)
theorem qu {w:World} {G:List Nat} {y:Value} {ys:List Int} (h:rd w G [y] ys):∃ D cap,y=.slice D ys.length cap∧(ys=[]∨∃ a,D=some a∧∀ j v,(ys.map (Value.int .i64))[j]? = some v→w.cell? (a.add j)=some v):=by
 obtain ⟨D,cap,V,_,_,_,Z⟩:=h
 have:=(List.cons.inj V).1
 subst this
 refine ⟨D,cap,rfl,?_⟩
 rcases Z with rfl | ⟨g,off,c,e,fr,rfl,hg,U,hl⟩
 · exact .inl rfl
 · refine .inr ⟨_,rfl,λj v O=>?_⟩
   rw [List.getElem?_map,Option.map_eq_some_iff] at O
   obtain ⟨n,hn,rfl⟩:=O
   obtain ⟨_,_,_,J⟩:=eR hl hn
   have E:Enc.sz Int=1:=rfl
   rw [E,Nat.mul_one,List.drop_drop] at J
   have T:=congrArg (λl=>l[0]?) J
   simp only [List.getElem?_take,Nat.zero_lt_one,if_true,List.getElem?_drop,Nat.add_zero,Array.getElem?_toList] at T
   have A:((⟨g,off,none⟩:Addr).add j)=⟨g,off+j,none⟩:=by
    simp only [Addr.add]
    by_cases Y:j=0 <;> simp [Y]
   rw [A]
   unfold World.cell?
   rw [U]
   simp only [Option.isSome_none,Bool.false_eq_true,if_false]
   rw [T]
   rfl
section
variable {P:Program} {ops:Array Oper} {Q:Exit→Act→World→Prop} {rest:List Oper} {o:Oper} {a:Act} {w:World} {N:Nat} {L:List (Nat×Value)}
variable {X:List Nat} {w0:World} {M:List (List Nat×World)} {d:Nat}
def Part (v:Value) (lo:Nat) (E:Value):Prop:=∀ D n cap,v=.slice D n cap→∃ A,E=.slice A (n - lo) (cap - lo)∧∀ g off,lo<n→D=some ⟨g,off,none⟩→A=some ⟨g,off+lo,none⟩
theorem Part.self (v:Value):Part v 0 v:=λA n cap h=>⟨A,by simpa using h,λg off _ h=>by simpa using h⟩
theorem qv {u:World} {F:List Nat} {v:Value} {D ys:List Int} {lo:Int} {k:IntKind} (V:rd u F [v] D) (E:RA D lo D.length=some ys) (A:K N L a) {t:TypeId} (O:TS P t (Enc.sz Int)) {x i:Operand}
    (hg:gd L ops o.guard=some true) (hd:o.dst=some d) (hN:Nat.blt d N=true)
    (ho:o.op=.slice t x (some i) none none) (hv:ev L x=some v) (hi':ev L i=some (.int k lo))
    (h:∀ J a,K N ((d,J)::L) a→rd u F [J] ys→Part v lo.toNat J→wpList P ops Q rest a w):wpList P ops Q (o::rest) a w:=by
 obtain ⟨_,cap,rfl,_,_⟩:=ME V
 obtain ⟨e,O,hs⟩:=O
 have Z:=Zb V E
 unfold RA at E
 split at E
 · rename_i h0
   refine Ux A hg hd hN ?_ λa A=>h _ a A (by simpa using Z) ?_
   · have c2:0≤lo∧lo≤(D.length:Int):=AC
     simp [execOp,ho,Instr.sliceAt,Instr.slice,Instr.sliceBounds,Instr.sliceBound,A.ev hv,A.ev hi',run_underlying O,asIntOf,c2,hs]
   · intro Aa n Y he
     injection he with e1 e2 e3
     subst e1; subst e2; subst e3
     refine ⟨_,rfl,λg off _ T=>?_⟩
     subst T
     have U:Enc.sz Int=1:=rfl
     rw [if_neg AC]
     simp only [Option.map_some,U,Nat.mul_one,Addr.add]
     by_cases hl:lo.toNat=0 <;> simp [hl]
 · simp at E
theorem pY {u:World} {F:List Nat} {v:Value} {A ys:List Int} {lo:Int} (V:rd u F [v] A) (D:RA A lo A.length=some ys) {t:TypeId} (J:TS P t (Enc.sz Int)) :
    ∃ E,rd u F [E] ys∧Part v lo.toNat E∧∀ {N:Nat} {L:List (Nat×Value)} {a:Act} {o:Oper} {x i:Operand} {k:IntKind},K N L a→o.op=.slice t x (some i) none none→ev L x=some v→ev L i=some (.int k lo)→∀ w:World,(execOp a.eval o).run P w=.ok (.value E) w:=by
 obtain ⟨_,cap,rfl,_,_⟩:=ME V
 obtain ⟨e,J,hs⟩:=J
 have h:=Zb V D
 unfold RA at D
 split at D
 · rename_i h0
   refine ⟨_,by simpa using h,?_,?_⟩
   · intro Aa n Y he
     injection he with e1 e2 e3
     subst e1; subst e2; subst e3
     refine ⟨_,rfl,λg off _ O=>?_⟩
     subst O
     have U:Enc.sz Int=1:=rfl
     rw [if_neg AC]
     simp only [Option.map_some,U,Nat.mul_one,Addr.add]
     by_cases hl:lo.toNat=0 <;> simp [hl]
   · intro N L a o x i k Z ho hv T w
     have c2:0≤lo∧lo≤(A.length:Int):=AC
     simp [execOp,ho,Instr.sliceAt,Instr.slice,Instr.sliceBounds,Instr.sliceBound,Z.ev hv,Z.ev T,run_underlying J,asIntOf,c2,hs]
 · simp at D
theorem yi {u:World} {F:List Nat} {v:Value} {E ys:List Int} {hi:Int} (O:rd u F [v] E) (A:RA E 0 hi=some ys) {t:TypeId} (D:TS P t (Enc.sz Int)) :
    ∃ J,rd u F [J] ys∧∀ {N:Nat} {L:List (Nat×Value)} {a:Act} {o:Oper} {x j:Operand} {k:IntKind},K N L a→o.op=.slice t x none (some j) none→ev L x=some v→ev L j=some (.int k hi)→∀ w:World,(execOp a.eval o).run P w=.ok (.value J) w:=by
 obtain ⟨_,cap,rfl,_,_⟩:=ME O
 obtain ⟨e,D,h⟩:=D
 have U:=Zb O A
 unfold RA at A
 split at A
 · rename_i h0
   refine ⟨_,by simpa using U,?_⟩
   intro N L a o x j k T ho V Z w
   have Y:0≤hi∧hi≤(cap:Int):=AC
   simp [execOp,ho,Instr.sliceAt,Instr.slice,Instr.sliceBounds,Instr.sliceBound,T.ev V,T.ev Z,run_underlying D,asIntOf,Y,h]
 · simp at A
def px (A:List Int) (lo:Int) (ys:List Int):List Int:=A.take lo.toNat++ys.take (min ys.length (A.length - lo.toNat))++A.drop (lo.toNat+min ys.length (A.length - lo.toNat))
def wM (A:List Int) (lo:Int) (ys:List Int):Int:=((min ys.length (A.length - lo.toNat):Nat):Int)
theorem rC {A ys:List Int} {lo:Int} (h:min ys.length (A.length - lo.toNat)=0):px A lo ys=A:=by
 simp [px,h]
theorem zb {t t' Ad:Nat} {z:List Value} (hT:TE P t 1 Ad z) (hM:St X w0 w M) (i:Nat) {u:World} {F:List Nat} {v v':Value} {A:List Int} (Af:ow u F [v] A) {lo:Int} (hp:Part v lo.toNat v')
    {y:Value} {G:List Nat} {ys:List Int} (hy:rd w G [y] ys) (U:K N L a) (hi:M[i]? = some (F,u)) {sd ss:Operand}
    (hg:gd L ops o.guard=some true) (hd:o.dst=some d) (hN:Nat.blt d N=true)
    (ho:o.op=.call { callee:=.builtin .copy,args:=#[sd,ss],argTypes:=#[t,t'] }) (hv1:ev L sd=some v') (hv2:ev L ss=some y)
    (h:∀ w' a,K N ((d,.int .i64 (wM A lo ys))::L) a→Ext F w w'→St X w0 w' (M.set i (F,w'))→ow w' F [v] (px A lo ys)→wpList P ops Q rest a w'):wpList P ops Q (o::rest) a w:=by
 obtain ⟨e,_,hu,Ah,_,Ae,_⟩:=hT
 have hs:(P.info? e).map (·.size)=some 1:=by rw [Ah]; simp [Ae]
 have Am:=Enc.ow_agr Af (hM.a i hi)
 have Ag:=hM.ndF i hi
 have Al:=hM.ltF i hi
 obtain ⟨yo,Y,rfl,As⟩:=qu hy
 have J:∀ (ao:Option Addr) (n cap:Nat),v'=.slice ao n cap→min ys.length n=0→n=A.length - lo.toNat→wpList P ops Q (o::rest) a w:=by
  intro ao n cap E hm hn
  subst E; subst hn
  refine Ux U hg hd hN (w':=w) (v:=.int .i64 (wM A lo ys)) ?_ λa U=>h w a U (Ext.refl _ _) ?_ ?_
  · have:=run_copy_none (P:=P) w t t' o.type e ao yo (A.length - lo.toNat) cap ys.length Y hu hs hm
    simp [execOp,ho,resolve,invoke,builtin,U.ev hv1,U.ev hv2,this,wM,hm,goInt]
  · exact hM.mut i hi (Ext.refl _ _) F (λb hb=>⟨.inl hb,Al b hb⟩) Ag
  · rw [rC hm]; exact Am
 rcases Am with ⟨hv,rfl,rfl⟩ | ⟨g,off,cap,c,et,Gs,hv,h1,h2,h3,h4,h5,rfl,h6⟩
 · have:=(List.cons.inj hv).1
   subst this
   obtain ⟨Ab,E,_⟩:=hp none 0 0 rfl
   exact J Ab _ _ E AD AD
 · have:=(List.cons.inj hv).1
   subst this
   obtain ⟨Ab,E,Ar⟩:=hp _ _ _ rfl
   by_cases hm:min ys.length (A.length - lo.toNat)=0
   · exact J Ab _ _ E hm rfl
   · subst E
     have Aq:lo.toNat<A.length:=AC
     have:=Ar g off Aq rfl
     subst this
     rcases As with rfl | ⟨sa,rfl,Aj⟩
     · simp at hm
     · have Ac:Enc.sz Int=1:=rfl
       have hG:=MQ h5
       have hc:=Yw h5
       rw [Ac,Nat.mul_one] at hc h4
       generalize V:min ys.length (A.length - lo.toNat)=m at *
       have O:((ys.take m).map (Value.int .i64)).length=m:=by rw [List.length_map,List.length_take]; omega
       have Z:=run_copy_row (P:=P) w t t' o.type e g (off+lo.toNat) (A.length - lo.toNat) (cap - lo.toNat) sa ys.length Y c et ((ys.take m).map (Value.int .i64)) hu hs h3 (by rw [O,← V])
        (λj v T=>Aj j v (by
         rw [List.getElem?_map,List.getElem?_take] at T
         split at T
         · rw [List.getElem?_map]; exact T
         · simp at T)) (by rw [O]; omega) (by intro v hv; obtain ⟨n,_,rfl⟩:=List.mem_map.1 hv; rfl)
       rw [O] at Z
       have hE:Ext (g::Gs.flatten) w (w.setRow g (c.toList.take (off+lo.toNat)++(ys.take m).map (Value.int .i64)++c.toList.drop (off+lo.toNat+m)).toArray):=(Ext.setRow _ _).wk AD
       have An:=hM.mut i hi hE (g::Gs.flatten) (λb hb=>⟨.inl hb,Nat.lt_of_lt_of_le (Al b hb) hE.size⟩) Ag
       have Ai:(w.setRow g (c.toList.take (off+lo.toNat)++(ys.take m).map (Value.int .i64)++c.toList.drop (off+lo.toNat+m)).toArray).heap[g]? = some (.cells (c.toList.take (off+lo.toNat)++(ys.take m).map (Value.int .i64)++c.toList.drop (off+lo.toNat+m)).toArray et (0,0)):=setRow_heap w g _ _ et _ h3
       have Aa:(c.toList.take (off+lo.toNat)++(ys.take m).map (Value.int .i64)++c.toList.drop (off+lo.toNat+m)).length=c.size:=by
        simp only [List.length_append,List.length_take,List.length_drop,O,Array.length_toList]; omega
       have D:(px A lo ys).length=A.length:=by
        simp only [px,V,List.length_append,List.length_take,List.length_drop]; omega
       refine Ux U hg hd hN (v:=.int .i64 (wM A lo ys)) ?_ λa U=>h _ a U hE An ?_
       · simp [execOp,ho,resolve,invoke,builtin,U.ev hv1,U.ev hv2,Z,wM,V,goInt]
       · refine .inr ⟨g,off,cap,_,et,(px A lo ys).map λ_=>[],by rw [D],by rw [D]; exact h1,h2,Ai,?_,?_,by rw [hG,Mm],h6⟩
         · rw [List.size_toArray,Aa,Ac,Nat.mul_one]; exact h4
         · have e2:((px A lo ys).map (Flat.e (α:=Int))).flatten=(px A lo ys).map (Value.int .i64):=by
             generalize px A lo ys=zs
             induction zs with
             | nil=>rfl
             | cons z zs ih=>simp only [List.map_cons,List.flatten_cons,ih]; rfl
           have Ap:(((c.toList.take (off+lo.toNat)++(ys.take m).map (Value.int .i64)++c.toList.drop (off+lo.toNat+m)).toArray.toList.drop off).take ((px A lo ys).length*Enc.sz Int))=((px A lo ys).map Flat.e).flatten:=by
            rw [e2,Ac,Nat.mul_one,D]
            have Ak:∀ j,j<A.length→c.toList[off+j]? = (A.map (Value.int .i64))[j]?:=by
             intro j T
             have:=congrArg (λl=>l[j]?) hc
             simpa [List.getElem?_take,T,List.getElem?_drop] using this
            apply List.ext_getElem?
            intro j
            by_cases T:j<A.length
            · rw [List.getElem?_take,if_pos T,List.getElem?_drop]
              simp only [px,V,List.map_append]
              by_cases Ao:j<lo.toNat
              · rw [List.getElem?_append_left (by simp [O]; omega),List.getElem?_append_left AJ,List.getElem?_append_left AJ,List.getElem?_append_left AJ]
                rw [List.getElem?_take,if_pos AC,Ak j T,List.map_take,List.getElem?_take,if_pos Ao]
              · by_cases At:j<lo.toNat+m
                · rw [List.getElem?_append_left AJ,List.getElem?_append_right AJ,List.getElem?_append_left AJ,List.getElem?_append_right AJ]
                  congr 1
                  simp
                  omega
                · rw [List.getElem?_append_right AJ,List.getElem?_append_right AJ,List.getElem?_drop,List.map_drop,List.getElem?_drop]
                  have e3:(c.toList.take (off+lo.toNat)++(ys.take m).map (Value.int .i64)).length=off+lo.toNat+m:=AJ
                  have e4:((A.take lo.toNat).map (Value.int .i64)++(ys.take m).map (Value.int .i64)).length=lo.toNat+m:=AJ
                  rw [e3,e4,show off+lo.toNat+m+(off+j - (off+lo.toNat+m))=off+j by omega,show lo.toNat+m+(j - (lo.toNat+m))=j by omega]
                  exact Ak j T
            · rw [List.getElem?_take,if_neg T,List.getElem?_eq_none (by rw [List.length_map,D]; omega)]
           rw [Ap]
           exact WF _
end
end Go.Proofs.YtdgpkmgnjdpieaaGreatDoor
set_option linter.unusedSimpArgs false
set_option linter.unusedVariables false
namespace Go.Proofs.YtdgpkmgnjdpieaaGreatDoor
open Go Go.RowKit
open Enc (rd ow)
open Arg (argv)
open Ret (retv)
section
variable {α:Type} [Enc α]
def kB (w:World):Nat→List (List Nat)→List Value→List α→Prop
 | 0,G::Gs,cells,_::xs=>G=[]∧Enc.sz α≤cells.length∧ah w Gs (cells.drop (Enc.sz α)) xs
 | i+1,G::Gs,cells,x::xs=>ow w G (cells.take (Enc.sz α)) x∧kB w i Gs (cells.drop (Enc.sz α)) xs
 | _,_,_,_=>False
theorem gA {u w:World}:∀ {i:Nat} {Gs:List (List Nat)} {cells:List Value} {D:List α},Agr Gs.flatten u w→kB u i Gs cells D→kB w i Gs cells D
 | 0,G::Gs,cells,x::D,hA,⟨h1,h2,h3⟩=>⟨h1,h2,YQ (hA.sub (λb A=>by rw [List.flatten_cons]; exact List.mem_append_right _ A)) h3⟩
 | i+1,G::Gs,cells,x::D,hA,⟨h1,h2⟩=>⟨Enc.ow_agr h1 (hA.sub (λb A=>by simp [A])),gA (hA.sub (λb A=>by rw [List.flatten_cons]; exact List.mem_append_right _ A)) h2⟩
 | 0,[],_,_,_,h=>h.elim
 | 0,_::_,_,[],_,h=>h.elim
 | _+1,[],_,_,_,h=>h.elim
 | _+1,_::_,_,[],_,h=>h.elim
theorem bJ {w:World}:∀ {i:Nat} {Gs:List (List Nat)} {cells:List Value} {A:List α},kB w i Gs cells A→Gs.length=A.length∧cells.length=A.length*Enc.sz α∧i<A.length∧Gs[i]? = some []
 | 0,G::Gs,cells,x::A,⟨h1,h2,J⟩=>by
  obtain ⟨E,D⟩:=ZL J
  simp only [List.length_drop] at D
  refine ⟨by simp [E],?_,AD,by simp [h1]⟩
  simp only [List.length_cons,Nat.add_mul,Nat.one_mul]; omega
 | i+1,G::Gs,cells,x::A,⟨h1,h2⟩=>by
  obtain ⟨E,D,T,O⟩:=bJ h2
  have J:=Enc.rd_sz (Enc.ow_rd h1)
  simp only [List.length_take,List.length_drop] at D J
  refine ⟨by simp [E],?_,by simpa using T,by simpa using O⟩
  simp only [List.length_cons,Nat.add_mul,Nat.one_mul]; omega
 | 0,[],_,_,h=>h.elim
 | 0,_::_,_,[],h=>h.elim
 | _+1,[],_,_,h=>h.elim
 | _+1,_::_,_,[],h=>h.elim
theorem oC {w:World}:∀ {i:Nat} {Gs:List (List Nat)} {cells:List Value} {A:List α} {x:α},ah w Gs cells A→A[i]? = some x →
    ∃ G,Gs[i]? = some G∧kB w i (Gs.set i []) cells A∧ow w G ((cells.drop (i*Enc.sz α)).take (Enc.sz α)) x
 | 0,G::Gs,cells,y::A,x,⟨h,h'⟩,hx=>by
  simp only [List.getElem?_cons_zero,Option.some.injEq] at hx
  subst hx
  have hl:=Enc.rd_sz (Enc.ow_rd h)
  simp only [List.length_take] at hl
  exact ⟨G,rfl,⟨rfl,AC,h'⟩,by simpa using h⟩
 | i+1,G::Gs,cells,y::A,x,⟨h,h'⟩,hx=>by
  obtain ⟨O,J,E,D⟩:=oC h' (by simpa using hx)
  refine ⟨O,by simpa using J,⟨h,E⟩,?_⟩
  rw [List.drop_drop] at D
  rw [show (i+1)*Enc.sz α=Enc.sz α+i*Enc.sz α by rw [Nat.add_mul]; omega]
  exact D
 | _,[],_,[],x,_,hx=>by simp at hx
 | _,[],_,_::_,_,h,_=>h.elim
 | _,_::_,_,[],_,h,_=>h.elim
theorem mB {w:World} {G:List Nat} {cs:List Value} {y:α} (D:ow w G cs y):∀ {i:Nat} {Gs:List (List Nat)} {cells:List Value} {A:List α},kB w i Gs cells A →
    (cells.drop (i*Enc.sz α)).take (Enc.sz α)=cs→ah w (Gs.set i G) cells (A.set i y)
 | 0,H::Gs,cells,x::A,⟨_,_,h3⟩,hc=>⟨by rw [Nat.zero_mul,List.drop_zero] at hc; rw [hc]; exact D,h3⟩
 | i+1,H::Gs,cells,x::A,⟨h1,h2⟩,hc=>⟨h1,mB D h2 (by rw [List.drop_drop,← hc,show (i+1)*Enc.sz α=Enc.sz α+i*Enc.sz α by rw [Nat.add_mul]; omega])⟩
 | 0,[],_,_,h,_=>h.elim
 | 0,_::_,_,[],h,_=>h.elim
 | _+1,[],_,_,h,_=>h.elim
 | _+1,_::_,_,[],h,_=>h.elim
theorem du {w:World} {cs:List Value} (hl:cs.length=Enc.sz α):∀ {i:Nat} {Gs:List (List Nat)} {cells:List Value} {A:List α},kB w i Gs cells A→kB w i Gs (BF cells (i*Enc.sz α) cs) A
 | 0,G::Gs,cells,x::A,⟨h1,h2,h3⟩=>by
  refine ⟨h1,?_,?_⟩
  · simp only [BF,List.length_append,List.length_take,List.length_drop]; omega
  · simp only [Nat.zero_mul,BF,List.take_zero,List.nil_append,Nat.zero_add]
    rw [List.drop_left' hl,hl]; exact h3
 | i+1,G::Gs,cells,x::A,⟨h1,h2⟩=>by
  have D:=Enc.rd_sz (Enc.ow_rd h1)
  have E:Enc.sz α≤cells.length:=by simp at D; omega
  refine ⟨?_,?_⟩
  · have:(BF cells ((i+1)*Enc.sz α) cs).take (Enc.sz α)=cells.take (Enc.sz α):=by
      simp only [BF,List.append_assoc]
      rw [List.take_append_of_le_length (by simp [Nat.add_mul]; omega),List.take_take]
      congr 1
      simp [Nat.add_mul]
    rw [this]; exact h1
  · have:(BF cells ((i+1)*Enc.sz α) cs).drop (Enc.sz α)=BF (cells.drop (Enc.sz α)) (i*Enc.sz α) cs:=by
      simp only [BF,List.append_assoc]
      rw [List.drop_append_of_le_length (by simp [Nat.add_mul]; omega),List.drop_take,List.drop_drop]
      congr 3
      · simp [Nat.add_mul]
      · simp [Nat.add_mul]; omega
    rw [this]; exact du hl h2
 | 0,[],_,_,h=>h.elim
 | 0,_::_,_,[],h=>h.elim
 | _+1,[],_,_,h=>h.elim
 | _+1,_::_,_,[],h=>h.elim
theorem mq {Gs:List (List Nat)} {i:Nat} {G:List Nat} (h:Gs[i]? = some G):Gs.flatten.Perm ((Gs.set i []).flatten++G):=by
 induction Gs generalizing i with
 | nil=>simp at h
 | cons H Gs A =>
  cases i with
  | zero =>
   simp only [List.getElem?_cons_zero,Option.some.injEq] at h
   subst h
   simp only [List.set_cons_zero,List.flatten_cons,List.nil_append]
   exact List.perm_append_comm
  | succ i =>
   simp only [List.set_cons_succ,List.flatten_cons,List.append_assoc]
   exact List.Perm.append_left _ (A (by simpa using h))
theorem uw {Gs:List (List Nat)} {i:Nat} (h:Gs[i]? = some []) (G:List Nat):(Gs.set i G).flatten.Perm (Gs.flatten++G):=by
 have A:=(List.getElem?_eq_some_iff.1 h).1
 have D:=mq (Gs:=Gs.set i G) (i:=i) (G:=G) (by simp [A])
 have e:(Gs.set i G).set i []=Gs:=by
  rw [List.set_set]
  apply List.ext_getElem?
  intro j
  rw [List.getElem?_set]
  by_cases e:i=j
  · subst e; simp [A,(List.getElem?_eq_some_iff.1 h).2]
  · simp [e]
 rw [e] at D
 exact D
def qm (w:World) (F:List Nat) (v:Value) (A:List α) (i:Nat) (cs:List Value):Prop :=
 ∃ g off cap c e Gs,v=.slice (some ⟨g,off,none⟩) A.length cap∧A.length≤cap∧cap≤maxLen∧w.heap[g]? = some (.cells c e (0,0)) ∧
  off+cap*Enc.sz α≤c.size∧kB w i Gs ((c.toList.drop off).take (A.length*Enc.sz α)) A∧F=g::Gs.flatten∧F.Nodup ∧
  (((c.toList.drop off).take (A.length*Enc.sz α)).drop (i*Enc.sz α)).take (Enc.sz α)=cs
theorem kz {u w:World} {F:List Nat} {v:Value} {A:List α} {i:Nat} {cs:List Value} (h:qm u F v A i cs) (D:Agr F u w):qm w F v A i cs:=by
 obtain ⟨g,off,cap,c,e,Gs,rfl,J,T,E,Y,V,rfl,U,Z⟩:=h
 exact ⟨g,off,cap,c,e,Gs,rfl,J,T,(D g AD).trans E,Y,gA (D.sub (λb O=>List.mem_cons_of_mem _ O)) V,rfl,U,Z⟩
theorem wY {w:World} {F:List Nat} {v:Value} {A:List α} {i:Nat} {cs:List Value} (h:qm w F v A i cs):PtAt w (Kh v (Enc.sz α) i) cs∧cs.length=Enc.sz α:=by
 obtain ⟨g,off,cap,c,e,Gs,rfl,_,_,D,_,O,rfl,_,rfl⟩:=h
 obtain ⟨_,J,_,_⟩:=bJ O
 have E:(i+1)*Enc.sz α≤A.length*Enc.sz α:=Nat.mul_le_mul_right _ AC
 rw [Nat.add_mul,Nat.one_mul] at E
 have hl:((((c.toList.drop off).take (A.length*Enc.sz α)).drop (i*Enc.sz α)).take (Enc.sz α)).length=Enc.sz α:=by
  rw [List.length_take,List.length_drop,J]; omega
 refine ⟨?_,hl⟩
 simp only [Kh,GS]
 refine ⟨g,_,c,e,_,rfl,D,?_⟩
 rw [hl,List.drop_take,List.take_take,List.drop_drop]
 congr 1
 omega
theorem vr {u:World} {F:List Nat} {v:Value} {J:List α} {i:Nat} {x:α} {cs:List Value} (h:ow u F [v] J) (T:J[i]? = some x) (hp:PtAt u (Kh v (Enc.sz α) i) cs) (hl:cs.length=Enc.sz α) :
    ∃ A B,qm u A v J i cs∧ow u B cs x∧F.Perm (A++B):=by
 rcases h with ⟨_,rfl,_⟩ | ⟨g,off,cap,c,e,Gs,hv,h1,h2,V,h4,h5,rfl,h6⟩
 · simp at T
 · have:=(List.cons.inj hv).1
   subst this
   obtain ⟨G,hG,hH,Y⟩:=oC h5 T
   have O:(((c.toList.drop off).take (J.length*Enc.sz α)).drop (i*Enc.sz α)).take (Enc.sz α)=cs:=by
    obtain ⟨_,_,_,_,_,Z,E,U⟩:=hp
    simp only [Kh,GS,Addr.mk.injEq,and_true] at Z
    obtain ⟨rfl,rfl⟩:=Z
    rw [V] at E
    injection E with E
    injection E with E _ _
    subst E
    rw [hl] at U
    rw [← U,List.drop_take,List.take_take,List.drop_drop]
    have hi:=(List.getElem?_eq_some_iff.1 T).1
    have hm:(i+1)*Enc.sz α≤J.length*Enc.sz α:=Nat.mul_le_mul_right _ AC
    rw [Nat.add_mul,Nat.one_mul] at hm
    congr 1
    omega
   rw [O] at Y
   have D:(g::Gs.flatten).Perm ((g::(Gs.set i []).flatten)++G):=List.Perm.cons _ (mq hG)
   refine ⟨_,G,⟨g,off,cap,c,e,Gs.set i [],rfl,h1,h2,V,h4,hH,rfl,?_,O⟩,Y,D⟩
   exact (List.nodup_append.1 (D.nodup_iff.1 h6)).1
theorem xp {w:World} {A B:List Nat} {v:Value} {E:List α} {i:Nat} {y:α} {cs:List Value} (h:qm w A v E i cs) (Y:ow w B cs y) (hn:(A++B).Nodup) :
    ∃ F,ow w F [v] (E.set i y)∧F.Perm (A++B):=by
 obtain ⟨g,off,cap,c,e,Gs,rfl,U,V,T,Z,J,rfl,_,h7⟩:=h
 obtain ⟨_,_,_,O⟩:=bJ J
 have D:(g::(Gs.set i B).flatten).Perm ((g::Gs.flatten)++B):=List.Perm.cons _ (uw O B)
 refine ⟨_,.inr ⟨g,off,cap,c,e,Gs.set i B,AD,by simpa using U,V,T,Z,?_,rfl,D.nodup_iff.2 hn⟩,D⟩
 rw [List.length_set]
 exact mB Y J h7
omit [Enc α] in
theorem DI {A:List α} {n:Int} {x:α} (y:α) (h:ix A n=some x):ix (DB A n y) n=some y:=by
 obtain ⟨D,_,E⟩:=AG h
 have:=(List.getElem?_eq_some_iff.1 E).1
 simp [ix,DB,D,this]
end
section
variable {P:Program} {ops:Array Oper} {Q:Exit→Act→World→Prop} {rest:List Oper} {o:Oper} {a:Act} {w:World} {N:Nat} {L:List (Nat×Value)}
variable {X:List Nat} {w0:World} {M:List (List Nat×World)} {d:Nat}
theorem rt {M M':List (List Nat×World)} (h:M.Perm M'):(EC M).Perm (EC M'):=by
 unfold EC
 exact List.Perm.flatMap_right _ h
theorem gQ {β:Type}:∀ (M:List β) (k:Nat) (p:β),M[k]? = some p→M.Perm (p::M.eraseIdx k)
 | [],_,_,h=>by simp at h
 | q::M,0,p,h=>by simp only [List.getElem?_cons_zero,Option.some.injEq] at h; subst h; exact List.Perm.refl _
 | q::M,k+1,p,h=>((gQ M k p (by simpa using h)).cons q).trans (List.Perm.swap _ _ _)
theorem St.toFront (h:St X w0 w M) (k:Nat) {p:List Nat×World} (O:M[k]? = some p):St X w0 w (p::M.eraseIdx k):=by
 have E:M.Perm (p::M.eraseIdx k):=gQ M k p O
 have A:=rt E
 exact ⟨h.ext,λq J=>h.ok q (E.mem_iff.2 J),λb D=>h.lt b (A.mem_iff.2 D),λb D=>h.lo b (A.mem_iff.2 D),A.nodup_iff.1 h.nd⟩
theorem St.part {F A B:List Nat} {u:World} (h:St X w0 w ((F,u)::M)) (J:F.Perm (A++B)):St X w0 w ((A,w)::(B,w)::M):=by
 have e:(EC ((F,u)::M)).Perm (EC ((A,w)::(B,w)::M)):=by
  simp only [EC,List.flatMap_cons]
  rw [← List.append_assoc]
  exact J.append_right _
 refine ⟨h.ext,?_,λb E=>h.lt b (e.mem_iff.2 E),λb E=>h.lo b (e.mem_iff.2 E),e.nodup_iff.1 h.nd⟩
 intro p D
 simp only [List.mem_cons] at D
 rcases D with rfl | rfl | D
 · exact Agr.refl _ _
 · exact Agr.refl _ _
 · exact h.ok p (by simp [D])
theorem St.whole {F A B:List Nat} {u v:World} (h:St X w0 w ((A,u)::(B,v)::M)) (O:F.Perm (A++B)):St X w0 w ((F,w)::M):=by
 have D:=h.join2
 have e:(EC ((A++B,w)::M)).Perm (EC ((F,w)::M)):=by
  simp only [EC,List.flatMap_cons]
  exact O.symm.append_right _
 refine ⟨D.ext,?_,λb J=>D.lt b (e.mem_iff.2 J),λb J=>D.lo b (e.mem_iff.2 J),e.nodup_iff.1 D.nd⟩
 intro p E
 simp only [List.mem_cons] at E
 rcases E with rfl | E
 · exact Agr.refl _ _
 · exact D.ok p (by simp [E])
theorem St.opnS {α:Type} [Enc α] (hM:St X w0 w M) (k:Nat) {F:List Nat} {u:World} (hk:M[k]? = some (F,u)) {v:Value} {xs:List α} (h:ow u F [v] xs) {n:Int} {x:α} (hx:ix xs n=some x)
    {cs:List Value} (hp:PtAt u (Kh v (Enc.sz α) n.toNat) cs) (hl:cs.length=Enc.sz α) {M':List (List Nat×World)} (hM':M.eraseIdx k=M') :
    ∃ A B,St X w0 w ((A,w)::(B,w)::M')∧qm w A v xs n.toNat cs∧ow w B cs x∧(∀ b∈A,b∈F)∧(∀ b∈B,b∈F):=by
 subst hM'
 obtain ⟨A,B,V,U,E⟩:=vr h (AG hx).2.2 hp hl
 have T:=hM.a k hk
 have O:Agr A u w:=T.sub (λb D=>E.mem_iff.2 (List.mem_append_left _ D))
 have J:Agr B u w:=T.sub (λb D=>E.mem_iff.2 (List.mem_append_right _ D))
 exact ⟨A,B,(hM.toFront k hk).part E,kz V O,Enc.ow_agr U J,λb D=>E.mem_iff.2 (List.mem_append_left _ D),λb D=>E.mem_iff.2 (List.mem_append_right _ D)⟩
theorem St.opn {α:Type} [Enc α] (hM:St X w0 w M) (k:Nat) {F:List Nat} {u:World} (hk:M[k]? = some (F,u)) {v:Value} {xs:List α} (h:ow u F [v] xs) {n:Int} {x:α} (hx:ix xs n=some x)
    {cs:List Value} (hp:PtAt u (Kh v (Enc.sz α) n.toNat) cs) (hl:cs.length=Enc.sz α) {M':List (List Nat×World)} (hM':M.eraseIdx k=M') :
    ∃ A B,St X w0 w ((A,w)::(B,w)::M')∧qm w A v xs n.toNat cs∧ow w B cs x:=by
 obtain ⟨A,B,E,D,J,_⟩:=hM.opnS k hk h hx hp hl hM'
 exact ⟨A,B,E,D,J⟩
theorem St.cls {α:Type} [Enc α] {A B:List Nat} {u1 u2:World} (hM:St X w0 w ((A,u1)::(B,u2)::M)) {v:Value} {xs:List α} {n:Int} {cs:List Value} (h:qm u1 A v xs n.toNat cs) {y:α} (hy:ow u2 B cs y) :
    ∃ F,St X w0 w ((F,w)::M)∧ow w F [v] (DB xs n y):=by
 have E:=kz h (hM.a 0 rfl)
 have D:=Enc.ow_agr hy (hM.a 1 rfl)
 obtain ⟨F,O,J⟩:=xp E D (hM.join2.ndF 0 rfl)
 exact ⟨F,hM.whole J,O⟩
theorem TQ {α:Type} [Enc α] {t n sz:Nat} (hs:∀ w,(sizeOf t).run P w=.ok n w) (hM:St X w0 w M) (k:Nat) {F:List Nat} {u:World} {v:Value} {xs:List α} {m:Nat} {cs cs':List Value} (h:qm u F v xs m cs) (off:Nat) (Y:K N L a) {xo yo:Operand} {p:Addr} {c:Value}
    (hk:M[k]? = some (F,u)) (hg:gd L ops o.guard=some true) (hd:o.dst=none)
    (ho:o.op=.store t xo yo) (hp':ev L xo=some (.pointer (some p))) (hp:p=(Kh v (Enc.sz α) m).add off) (hv:ev L yo=some c)
    (hsz:sz=Enc.sz α) (hle:Nat.ble (off+n) sz=true) (hvc:c.cells.toList.all Value.oneCell'=true) (hn:c.cells.size=n) (hc:BF cs off c.cells.toList=cs')
    (hk':∀ w' a,K N L a→Ext F w w'→St X w0 w' (M.set k (F,w'))→qm w' F v xs m cs'→wpList P ops Q rest a w'):wpList P ops Q (o::rest) a w:=by
 subst hsz
 have hH:=kz h (hM.a k hk)
 have Ad:=hM.ltF k hk
 have Ag:=Nat.le_of_ble_eq_true hle
 have Ac:=(wY hH).2
 obtain ⟨g,A,cap,D,e,Gs,Aa,h2,h3,h4,h5,h6,rfl,h8,h9⟩:=hH
 subst Aa
 obtain ⟨_,e2,_,_⟩:=bJ h6
 have T:bx w g D.toList e:=h4
 have hm:(m+1)*Enc.sz α≤xs.length*Enc.sz α:=Nat.mul_le_mul_right _ AC
 rw [Nat.add_mul,Nat.one_mul] at hm
 have Ai:xs.length*Enc.sz α≤cap*Enc.sz α:=Nat.mul_le_mul_right _ h2
 have O:A+m*Enc.sz α+off+n≤D.toList.length:=AJ
 have Ah:c.cells.toList.length=n:=by simp [hn]
 have hr:=YG (P:=P) (off:=A+m*Enc.sz α+off) hs T hn O (λu hu=>List.all_eq_true.1 hvc u hu)
 have Ab:bx (w.setRow g (BF D.toList (A+m*Enc.sz α+off) c.cells.toList).toArray) g (BF D.toList (A+m*Enc.sz α+off) c.cells.toList) e:=T.store _
 have U:Ext (g::Gs.flatten) w (w.setRow g (BF D.toList (A+m*Enc.sz α+off) c.cells.toList).toArray):=(Ext.setRow g _).wk AD
 have V:xs.length*Enc.sz α≤(D.toList.drop A).length:=AJ
 have E:((BF D.toList (A+m*Enc.sz α+off) c.cells.toList).drop A).take (xs.length*Enc.sz α)=BF ((D.toList.drop A).take (xs.length*Enc.sz α)) (m*Enc.sz α) cs':=by
  rw [← hc,← h9,jD _ _ _ _ _ AC (by rw [e2]; omega),Nat.add_assoc A,Zi _ _ _ _ AC,Ze _ _ _ _ AC V]
 have J:cs'.length=Enc.sz α:=by rw [← hc,S2 _ _ _ AC,Ac]
 have Z:qm (w.setRow g (BF D.toList (A+m*Enc.sz α+off) c.cells.toList).toArray) (g::Gs.flatten) (.slice (some ⟨g,A,none⟩) xs.length cap) xs m cs':=by
  refine ⟨g,A,cap,_,e,Gs,rfl,h2,h3,Ab,?_,?_,rfl,h8,?_⟩
  · simp only [List.size_toArray]; rw [S2 _ _ _ (by simp [hn] at O ⊢; omega)]; simpa using h5
  · rw [show (BF D.toList (A+m*Enc.sz α+off) c.cells.toList).toArray.toList=BF D.toList (A+m*Enc.sz α+off) c.cells.toList from rfl,E]
    refine gA ?_ (du J h6)
    intro b Ae
    refine setRow_other w g b _ ?_
    intro Af
    subst Af
    exact (List.nodup_cons.1 h8).1 Ae
  · rw [show (BF D.toList (A+m*Enc.sz α+off) c.cells.toList).toArray.toList=BF D.toList (A+m*Enc.sz α+off) c.cells.toList from rfl,E]
    have Aj:=e2
    simp only [BF]
    have hA:((List.take (xs.length*Enc.sz α) (List.drop A D.toList)).take (m*Enc.sz α)).length=m*Enc.sz α:=by rw [List.length_take,e2]; omega
    rw [List.append_assoc,List.drop_left' hA,List.take_left' J]
 refine m0 Y hg hd (w':=w.setRow g (BF D.toList (A+m*Enc.sz α+off) c.cells.toList).toArray) ?_ λa Y=>hk' _ a Y U (hM.mut k hk U _ (λb T=>⟨.inl T,by simp; exact Ad b T⟩) h8) Z
 subst hp
 simp only [execOp,ho,Y.ev hp',Y.ev hv,Instr.storeAt,Instr.sureAddr,Sem.run_bind,Sem.run_pure,Result.andThen_ok,Kh,GS,hr]
theorem Tv {α:Type} [Enc α] {t sz:Nat} (hs:∀ w,(sizeOf t).run P w=.ok 1 w) (hM:St X w0 w M) (k:Nat) {F:List Nat} {u:World} {v:Value} {xs:List α} {m:Nat} {cs cs':List Value} (h:qm u F v xs m cs) (off:Nat) (hK:K N L a) {xo yo:Operand} {p:Addr} {c:Value}
    (hvc:c.cells=#[c]) (hvo:c.oneCell'=true) (hc:BF cs off [c]=cs')
    (hk:M[k]? = some (F,u)) (hg:gd L ops o.guard=some true) (hd:o.dst=none)
    (ho:o.op=.store t xo yo) (hp':ev L xo=some (.pointer (some p))) (hp:p=(Kh v (Enc.sz α) m).add off) (hv:ev L yo=some c)
    (hsz:sz=Enc.sz α) (hle:Nat.ble (off+1) sz=true)
    (hk':∀ w' a,K N L a→Ext F w w'→St X w0 w' (M.set k (F,w'))→qm w' F v xs m cs'→wpList P ops Q rest a w'):wpList P ops Q (o::rest) a w :=
 TQ hs hM k h off hK hk hg hd ho hp' hp hv hsz hle (by rw [hvc]; simp [hvo]) (by rw [hvc]; rfl) (by rw [hvc]; exact hc) hk'
end
end Go.Proofs.YtdgpkmgnjdpieaaGreatDoor
