/- own lemmas -/
import Derived.Test.YtdgpkmgnjdpieaaGreatDoorS15
import Derived.Lib.SlicesCompact
import Derived.Shelf.SlicesE.Delete
import Derived.Laws.IdiomStrings
import Derived.Laws.BytesArg
import Derived.Shelf.Strconv.Itoa3
import Derived.Lib.SmallJoins
import Derived.Lib.ItoaLen
import Derived.Shelf.Strconv.AtoiAll
import Derived.Shelf.Strconv.ErrVarAll
import Derived.WideLaws
import Derived.Shelf.Strings.OnBuilder
set_option linter.unusedSimpArgs false
set_option linter.unusedVariables false
namespace Go.Proofs.YtdgpkmgnjdpieaaGreatDoor
open Go Go.RowKit
open Enc (rd ow)
open Arg (argv)
open Ret (retv)
section
variable {P:Program} {ops:Array Oper} {Q:Exit→Act→World→Prop} {rest:List Oper} {o:Oper} {a:Act} {w:World} {N:Nat} {L:List (Nat×Value)}
variable {X:List Nat} {w0:World} {M:List (List Nat×World)} {d:Nat}
theorem wD {α:Type} [Enc α] {u:World} {F:List Nat} {v:Value} {xs:List α} (hf:rd u F [v] xs):∃ b:Bool,(b=true→xs=[]) ∧
    ∀ {P:Program} {N:Nat} {L:List (Nat×Value)} {a:Act} {o:Oper} {t T e:TypeId} {i j:Operand} {w:World},K N L a→P.underlying t=some (.slice e) →
     o.op=.binOp .eql t i j T→ev L i=some v→ev L j=some (.slice none 0 0)→(execOp a.eval o).run P w=.ok (.value (.bool b)) w:=by
 obtain ⟨A,cap,V,_,_,_,E⟩:=hf
 have:=(List.cons.inj V).1
 subst this
 have D:∀ {P:Program} {t e:TypeId} (w:World) (A:Option Addr) (n cap:Nat),P.underlying t=some (.slice e)→(Op.equal t (.slice A n cap) (.slice none 0 0)).run P w=.ok A.isNone w:=by
  intro P t e w A n cap J
  show (Op.equalIn (9999+1) t _ _).run P w=_
  generalize 9999=m
  cases A <;> simp [Op.equalIn,run_underlying J w]
 refine ⟨A.isNone,λU=>?_,fun {P N L a o t T e i j w} O J Y hi Z=>?_⟩
 · rcases E with E | ⟨g,off,c,e,fr,rfl,_⟩
   · exact E
   · simp at U
 · have h:(eqGuard .eql t i j (.slice A xs.length cap) (.slice none 0 0)).run P w=.ok () w:=by
     unfold eqGuard
     simp
   simp only [execOp,Y,O.ev hi,O.ev Z,Sem.run_bind,h,Result.andThen_ok,binOp,D w A _ _ J,Sem.run_pure]
theorem rE {u:World} {F:List Nat} {Y:Option Addr} {cap:Nat} {A ys:List Int} {hi:Int} (h:ow u F [.slice Y A.length cap] A) (E:RA A 0 hi=some ys) :
    ow u F [.slice Y hi.toNat cap] ys∧hi.toNat≤A.length∧A.length≤cap∧0≤hi:=by
 unfold RA at E
 split at E
 · rename_i h0
   simp only [Option.some.injEq,Int.toNat_zero,List.drop_zero,Nat.sub_zero] at E
   subst E
   have hl:(A.take hi.toNat).length=hi.toNat:=by rw [List.length_take]; omega
   rcases h with ⟨J,rfl,rfl⟩ | ⟨g,off,U,c,e,Gs,J,h1,h2,h3,T,V,rfl,h6⟩
   · have:=(List.cons.inj J).1
     simp only [List.length_nil,Value.slice.injEq,true_and] at this
     obtain ⟨rfl,rfl⟩:=this
     have:hi.toNat=0:=by simp at h0; omega
     rw [this]
     exact ⟨.inl ⟨rfl,AD,rfl⟩,AD,AD,AC⟩
   · have:=(List.cons.inj J).1
     simp only [Value.slice.injEq,true_and] at this
     obtain ⟨rfl,rfl⟩:=this
     have D:Enc.sz Int=1:=rfl
     have hG:=MR V
     have Z:=Yl V
     rw [D,Nat.mul_one] at Z T
     refine ⟨.inr ⟨g,off,cap,c,e,(A.take hi.toNat).map λ_=>[],by rw [hl],AC,h2,h3,by rw [D,Nat.mul_one]; exact T,?_,by rw [hG,L0],h6⟩,AC,h1,AC⟩
     have e2:(((A.take hi.toNat).map (Flat.e (α:=Int))).flatten)=(A.take hi.toNat).map (Value.int .i64):=by
      generalize A.take hi.toNat=O
      induction O with
      | nil=>rfl
      | cons z O ih=>simp only [List.map_cons,List.flatten_cons,ih]; rfl
     have e3:(c.toList.drop off).take ((A.take hi.toNat).length*Enc.sz Int)=(A.take hi.toNat).map (Value.int .i64):=by
      rw [hl,D,Nat.mul_one,List.map_take,← Z,List.take_take]
      congr 1
      omega
     rw [e3,← e2]
     exact Wr _
 · simp at E
theorem uG {u:World} {F:List Nat} {v:Value} {E ys:List Int} {hi:Int} {Z:IntKind} (J:ow u F [v] E) (T:RA E 0 hi=some ys) (A:K N L a) {t:TypeId} (D:TS P t 1) {x j:Operand}
    (hg:gd L ops o.guard=some true) (hd:o.dst=some d) (hN:Nat.blt d N=true)
    (ho:o.op=.slice t x none (some j) none) (hv:ev L x=some v) (hj:ev L j=some (.int Z hi))
    (h:∀ O a,K N ((d,O)::L) a→ow u F [O] ys→wpList P ops Q rest a w):wpList P ops Q (o::rest) a w:=by
 obtain ⟨U,cap,rfl,_,_⟩:=MI (Enc.ow_rd J)
 obtain ⟨e,D,Y⟩:=D
 obtain ⟨V,_,_,_⟩:=rE J T
 refine TZ A hg hd hN ?_ λa A=>h _ a A V
 have c1:0≤hi∧hi≤(cap:Int):=AC
 simp [execOp,ho,Instr.sliceAt,Instr.slice,Instr.sliceBounds,Instr.sliceBound,A.ev hv,A.ev hj,run_underlying D,asIntOf,c1,Y]
 intro _
 cases U <;> simp [Addr.add]
def ZU (A:List Int) (lo:Int):List Int:=A.take lo.toNat++List.replicate (A.length - lo.toNat) 0
theorem pW {A:List Int} {lo:Int} (h:A.length - lo.toNat=0):ZU A lo=A:=by
 simp only [ZU,h,List.replicate_zero,List.append_nil]
 exact List.take_of_length_le AC
theorem xZ {t U:Nat} (hT:TE P t 1 U [.int .i64 0]) (hM:St X w0 w M) (i:Nat) {u:World} {F:List Nat} {v v':Value} {A:List Int} (Ah:ow u F [v] A) {lo:Int} (hp:Part v lo.toNat v')
    (hK:K N L a) (hi:M[i]? = some (F,u)) {sd:Operand}
    (hg:gd L ops o.guard=some true) (hd:o.dst=none)
    (ho:o.op=.call { callee:=.builtin .clear,args:=#[sd],argTypes:=#[t] }) (hv1:ev L sd=some v')
    (h:∀ w' a,K N L a→Ext F w w'→St X w0 w' (M.set i (F,w'))→ow w' F [v] (ZU A lo)→wpList P ops Q rest a w'):wpList P ops Q (o::rest) a w:=by
 obtain ⟨e,_,hu,Af,⟨zv,hz,Al⟩,_,_⟩:=hT
 have Ae:=Enc.ow_agr Ah (hM.a i hi)
 have Ai:=hM.ndF i hi
 have Ac:=hM.ltF i hi
 have J:∀ {r:Value} {w':World},(execOp a.eval o).run P w=.ok (.value r) w'→Ext F w w'→St X w0 w' (M.set i (F,w'))→ow w' F [v] (ZU A lo)→wpList P ops Q (o::rest) a w:=by
  intro r w' hr hE hS hO
  exact cP hK hg hr λ_ Am=>by rw [Oper.upon_value,hd]; exact Am _ _ (h _ _ hK hE hS hO)
 have E:∀ (ao:Option Addr) (n cap:Nat),v'=.slice ao n cap→n=0→n=A.length - lo.toNat→wpList P ops Q (o::rest) a w:=by
  intro ao n cap D hm hn
  subst D; subst hm
  refine J (r:=.tuple #[]) (w':=w) ?_ (Ext.refl _ _) (hM.mut i hi (Ext.refl _ _) F (λb V=>⟨.inl V,Ac b V⟩) Ai) (by rw [pW hn.symm]; exact Ae)
  cases ao <;> simp [execOp,ho,resolve,invoke,builtin,hK.ev hv1,Builtin.clear_,run_underlying hu]
 rcases Ae with ⟨hv,rfl,rfl⟩ | ⟨g,off,cap,c,et,Gs,hv,h1,h2,h3,h4,h5,rfl,h6⟩
 · have:=(List.cons.inj hv).1
   subst this
   obtain ⟨Z,D,_⟩:=hp none 0 0 rfl
   exact E Z _ _ D AD AD
 · have:=(List.cons.inj hv).1
   subst this
   obtain ⟨Z,D,Ao⟩:=hp _ _ _ rfl
   by_cases hm:A.length - lo.toNat=0
   · exact E Z _ _ D hm rfl
   · subst D
     have Ak:lo.toNat<A.length:=AC
     have:=Ao g off Ak rfl
     subst this
     have Aa:Enc.sz Int=1:=rfl
     have hG:=MR h5
     have hc:=Yl h5
     rw [Aa,Nat.mul_one] at hc h4
     have V:bx w g c.toList et:=h3
     have Ap:(List.replicate (A.length - lo.toNat) (Value.int .i64 0)).length=A.length - lo.toNat:=AD
     have Ab:=run_storeCells_at P g (off+lo.toNat) et (List.replicate (A.length - lo.toNat) (Value.int .i64 0)) 0 c w h3 AJ (by intro u hu; rw [List.eq_of_mem_replicate hu]; rfl)
     simp only [Nat.add_zero] at Ab
     have Y:(zeroValue e).run P w=.ok zv w:=by simp [zeroValue,typeInfo,Af,hz]
     have O:(Builtin.zeroCells zv.cells (A.length - lo.toNat)).toList=List.replicate (A.length - lo.toNat) (Value.int .i64 0):=by
      rw [Al]
      simp [Builtin.zeroCells]
      apply List.ext_getElem
      · simp
      · intro i h1 h2
        simp [Nat.mod_one]
     have Ag:(execOp a.eval o).run P w=.ok (.value (.tuple #[])) (w.setRow g (BF c.toList (off+lo.toNat) (List.replicate (A.length - lo.toNat) (Value.int .i64 0))).toArray):=by
      obtain ⟨m,Ad⟩:∃ m,A.length - lo.toNat=m+1:=⟨A.length - lo.toNat - 1,AC⟩
      rw [Ad] at O Ab Ap ⊢
      simp only [execOp,ho,resolve,invoke,builtin,hK.ev hv1,Builtin.clear_]
      simp [run_underlying hu,hK.ev hv1,Y,Builtin.clear_]
      rw [Ad,O,Ab]
      simp [BF]
     have hE:Ext (g::Gs.flatten) w (w.setRow g (BF c.toList (off+lo.toNat) (List.replicate (A.length - lo.toNat) (Value.int .i64 0))).toArray):=(Ext.setRow _ _).wk AD
     have hS:=hM.mut i hi hE (g::Gs.flatten) (λb V=>⟨.inl V,Nat.lt_of_lt_of_le (Ac b V) hE.size⟩) Ai
     refine J Ag hE hS ?_
     have Aj:(BF c.toList (off+lo.toNat) (List.replicate (A.length - lo.toNat) (Value.int .i64 0))).length=c.size:=by rw [Ty _ _ _ AJ]; simp
     have T:(ZU A lo).length=A.length:=by simp only [ZU,List.length_append,List.length_take,List.length_replicate]; omega
     refine .inr ⟨g,off,cap,_,et,(ZU A lo).map λ_=>[],by rw [T],by rw [T]; exact h1,h2,V.store _,?_,?_,by rw [hG,L0],h6⟩
     · rw [List.size_toArray,Aj,Aa,Nat.mul_one]; exact h4
     · have e2:((ZU A lo).map (Flat.e (α:=Int))).flatten=(ZU A lo).map (Value.int .i64):=by
         generalize ZU A lo=zs
         induction zs with
         | nil=>rfl
         | cons z zs ih=>simp only [List.map_cons,List.flatten_cons,ih]; rfl
       have An:(((BF c.toList (off+lo.toNat) (List.replicate (A.length - lo.toNat) (Value.int .i64 0))).toArray.toList.drop off).take ((ZU A lo).length*Enc.sz Int))=((ZU A lo).map Flat.e).flatten:=by
        rw [e2,Aa,Nat.mul_one,T]
        rw [show ∀ l:List Value,l.toArray.toList=l from λ_=>rfl,Zs _ _ _ _ AJ,Zo _ _ _ _ AJ AJ,hc]
        simp only [BF,ZU,List.map_append,List.map_take,List.map_replicate,List.length_replicate]
        rw [List.drop_of_length_le AJ]
        simp
       rw [An]
       exact Wr _
end
end Go.Proofs.YtdgpkmgnjdpieaaGreatDoor
set_option linter.unusedSimpArgs false
set_option linter.unusedVariables false
namespace Go.Proofs.YtdgpkmgnjdpieaaGreatDoor
open Go Go.RowKit
open Enc (rd ow)
open Arg (argv)
open Ret (retv)
def ug (A:List Int):Option (List Int):=if A.length<4611686018427387904 then some (Lib.compact A) else none
theorem fg (A:List Int):(Lib.compact A).length≤A.length:=by
 unfold Lib.compact Lib.compactUpTo
 rw [List.length_map]
 exact Nat.le_trans (List.length_filter_le _ _) AD
theorem kN {P:Program} {E:Nat}
    (hs:∀ (A off cap:Nat) (D:List Int) (w:World),Go.Sort.Holds (Value.int .i64) w A off D.toArray→D.length≤9223372036854775807→D.length≤cap →
     Calls P E #[.slice (some ⟨A,off,none⟩) D.length cap] w λe w'=>e=.returned (.slice (some ⟨A,off,none⟩) (Lib.compact D).length cap) ∧
      ∃ q,w'=Go.Sort.putRow (Value.int .i64) (Go.Sort.ahead w q) A off (Lib.compact D++List.replicate (D.length - (Lib.compact D).length) 0).toArray)
    (hn:∀ (p:Option Addr) (cap:Nat) (w:World),Calls P E #[.slice p 0 cap] w λe w'=>e=.returned (.slice p 0 cap)∧w'=w)
    {w0:World} (xs:List Int) {v:Value} {F:List Nat} (h:ow w0 F [v] xs) {r:List Int} (hr:ug xs=some r) :
    Calls P E #[v] w0 λe w=>∃ (Y:Value) (G0:List Nat),e=.returned Y∧Ext F w0 w∧ow w G0 [Y] r∧(∀ b∈G0,b∈F∨w0.heap.size≤b):=by
 unfold ug at hr
 split at hr
 · rename_i T
   simp only [Option.some.injEq] at hr
   subst hr
   rcases h with ⟨M,rfl,rfl⟩ | ⟨g,off,cap,c,e,Gs,M,U,h2,Z,h4,V,rfl,h6⟩
   · have:=(List.cons.inj M).1
     subst this
     refine (hn none 0 w0).mono λe w ⟨N,Q⟩=>?_
     subst Q
     refine ⟨_,[],N,Ext.refl _ _,.inl ⟨rfl,?_,rfl⟩,AD⟩
     exact List.eq_nil_of_length_eq_zero (Nat.le_zero.1 (fg []))
   · have:=(List.cons.inj M).1
     subst this
     have hl:=fg xs
     refine (hs g off cap xs w0 (lr (cap:=cap) Z V) AC U).mono λ_ w ⟨N,q,Q⟩=>?_
     have L:(Lib.compact xs++List.replicate (xs.length - (Lib.compact xs).length) 0).length=xs.length:=AJ
     have O:w=Go.Sort.grow (Go.Sort.putRow (Value.int .i64) (Go.Sort.ahead w0 q) g off (Lib.compact xs++List.replicate (xs.length - (Lib.compact xs).length) 0).toArray) #[]:=by
      rw [show ∀ w:World,Go.Sort.grow w #[]=w from λw=>by cases w; simp [Go.Sort.grow]]
      exact Q
     obtain ⟨hE,hO⟩:=jF L U h2 Z h4 V h6 O
     obtain ⟨J,_⟩:=rE (hi:=((Lib.compact xs).length:Int)) (ys:=Lib.compact xs) hO (by
      unfold RA
      rw [if_pos ⟨AC,AC,by rw [L]; omega⟩]
      simp)
     rw [Int.toNat_natCast] at J
     exact ⟨_,_,N,hE,J,λb hb=>.inl hb⟩
 · cases hr
end Go.Proofs.YtdgpkmgnjdpieaaGreatDoor
set_option linter.unusedSimpArgs false
set_option linter.unusedVariables false
namespace Go.Proofs.YtdgpkmgnjdpieaaGreatDoor
open Go Go.RowKit
open Enc (rd ow)
section
variable {α:Type} [Enc α]
def tE (w:World) (F:List Nat) (v:Value) (A:List α) (k:Int):Prop :=
 0≤k∧((v=.slice none 0 0∧A=[]∧F=[])∨∃ g off cap c e Gs,v=.slice (some ⟨g,off,none⟩) A.length cap∧A.length≤cap∧cap≤maxLen∧w.heap[g]? = some (.cells c e (0,0)) ∧
  off+cap*Enc.sz α≤c.size∧Z8 w Gs (((c.toList.drop off).take (A.length*Enc.sz α)).drop (k.toNat*Enc.sz α)) (A.drop k.toNat)∧F=g::Gs.flatten∧F.Nodup)
theorem ws {w:World} {F:List Nat} {v:Value} {J:List α} (h:ow w F [v] J):tE w F v J 0:=by
 refine ⟨Int.le_refl _,?_⟩
 rcases h with ⟨A,D,E⟩ | ⟨g,off,cap,c,e,Gs,T,A,D,E,O,V,U,Y⟩
 · exact .inl ⟨(List.cons.inj A).1,D,E⟩
 · exact .inr ⟨g,off,cap,c,e,Gs,(List.cons.inj T).1,A,D,E,O,by simpa using V,U,Y⟩
theorem uh {u w:World} {F:List Nat} {v:Value} {A:List α} {k:Int} (h:tE u F v A k) (D:Agr F u w):tE w F v A k:=by
 obtain ⟨Y,h⟩:=h
 refine ⟨Y,?_⟩
 rcases h with h | ⟨g,off,cap,c,e,Gs,rfl,T,U,Z,E,V,rfl,O⟩
 · exact .inl h
 · exact .inr ⟨g,off,cap,c,e,Gs,rfl,T,U,(D g AD).trans Z,E,YD (D.sub (λb J=>List.mem_cons_of_mem _ J)) V,rfl,O⟩
theorem qi {w:World} {F:List Nat} {v:Value} {A:List α} {k:Int} (h:tE w F v A k):∃ D cap,v=.slice D A.length cap∧(A=[]∨∃ g off,D=some ⟨g,off,none⟩):=by
 obtain ⟨_,h⟩:=h
 rcases h with ⟨rfl,rfl,_⟩ | ⟨g,off,cap,c,e,Gs,rfl,_⟩
 · exact ⟨none,0,rfl,.inl rfl⟩
 · exact ⟨_,cap,rfl,.inr ⟨g,off,rfl⟩⟩
theorem vb {w:World} {F:List Nat} {v:Value} {E:List α} {k:Int} {x:α} (h:tE w F v E k) (hx:ix E k=some x) :
    ∃ A B cs,tE w A v E (AK (k+1))∧ow w B cs x∧PtAt w (KD v (Enc.sz α) k.toNat) cs∧F.Perm (A++B):=by
 obtain ⟨_,_,U⟩:=AG hx
 obtain ⟨_,h⟩:=h
 rcases h with ⟨rfl,rfl,rfl⟩ | ⟨g,off,cap,c,e,Gs,rfl,h1,V,Z,h4,O,rfl,h6⟩
 · simp at U
 · have hk:k.toNat<E.length:=(List.getElem?_eq_some_iff.1 U).1
   have J:E[k.toNat]=x:=(List.getElem?_eq_some_iff.1 U).2
   have Y:AK (k+1)=k+1:=by
    simp only [maxLen] at V
    simp only [AK,IntKind.wrap_i64]
    omega
   rw [List.drop_eq_getElem_cons hk] at O
   cases Gs with
   | nil=>exact O.elim
   | cons G Gs =>
    obtain ⟨T,h8⟩:=O
    rw [J] at T
    have hn:(k+1).toNat=k.toNat+1:=AC
    have hm:(k.toNat+1)*Enc.sz α≤E.length*Enc.sz α:=Nat.mul_le_mul_right _ AC
    rw [Nat.add_mul,Nat.one_mul] at hm
    have D:(g::(G::Gs).flatten).Perm ((g::Gs.flatten)++G):=by
     rw [List.flatten_cons,List.cons_append]
     exact List.Perm.cons _ List.perm_append_comm
    refine ⟨g::Gs.flatten,G,_,⟨by rw [Y]; omega,.inr ⟨g,off,cap,c,e,Gs,rfl,h1,V,Z,h4,?_,rfl,?_⟩⟩,T,?_,D⟩
    · rw [Y,hn,Nat.add_mul,Nat.one_mul,← List.drop_drop]
      exact h8
    · exact (List.nodup_append.1 (D.nodup_iff.1 h6)).1
    · have hl:=Enc.rd_sz (Enc.ow_rd T)
      simp only [KD,HA]
      refine ⟨g,_,c,e,_,rfl,Z,?_⟩
      rw [hl,List.drop_take,List.take_take,List.drop_drop]
      congr 1
      omega
end
section
variable {P:Program} {ops:Array Oper} {Q:Exit→Act→World→Prop} {rest:List Oper} {o:Oper} {a:Act} {w:World} {N:Nat} {L:List (Nat×Value)}
variable {X:List Nat} {w0:World} {M:List (List Nat×World)} {d:Nat}
theorem xc {α:Type} [Enc α] {u:World} {F:List Nat} {v:Value} {xs:List α} {k0:Int} (hf:tE u F v xs k0) {n:Int} {y:α} (hx:ix xs n=some y) (hK:K N L a) {t:TypeId} (A:TS P t (Enc.sz α)) {x i:Operand} {k:IntKind}
    (ho:o.op=.indexAddr t x i) (hv:ev L x=some v) (hi:ev L i=some (.int k n)) :
    (execOp a.eval o).run P w=.ok (.value (.pointer (some (KD v (Enc.sz α) n.toNat)))) w:=by
 obtain ⟨E,T,D⟩:=AG hx
 obtain ⟨e,A,O⟩:=A
 obtain ⟨_,cap,rfl,J⟩:=qi hf
 rcases J with rfl | ⟨g,off,rfl⟩
 · simp at D
 · simp [execOp,ho,hK.ev hv,hK.ev hi,Instr.indexAt,asIntOf,run_underlying A,O,E,T,KD]
theorem St.popP {α:Type} [Enc α] (hM:St X w0 w M) (k:Nat) {F:List Nat} {u:World} (hk:M[k]? = some (F,u)) {v:Value} {xs:List α} {n:Int} (h:tE u F v xs n) {x:α} (hx:ix xs n=some x)
    {M':List (List Nat×World)} (hM':M.eraseIdx k=M') :
    ∃ A B cs,St X w0 w ((A,w)::(B,w)::M')∧tE w A v xs (AK (n+1))∧ow w B cs x∧PtAt w (KD v (Enc.sz α) n.toNat) cs:=by
 subst hM'
 obtain ⟨A,B,cs,O,D,J,E⟩:=vb (uh h (hM.a k hk)) hx
 exact ⟨A,B,cs,(hM.toFront k hk).part E,O,D,J⟩
end
end Go.Proofs.YtdgpkmgnjdpieaaGreatDoor
set_option linter.unusedSimpArgs false
set_option linter.unusedVariables false
namespace Go.Proofs.YtdgpkmgnjdpieaaGreatDoor
open Go Go.RowKit
open Enc (rd ow)
section
variable {P:Program} {ops:Array Oper} {Q:Exit→Act→World→Prop} {rest:List Oper} {o:Oper} {a:Act} {w:World} {N:Nat} {L:List (Nat×Value)}
variable {X:List Nat} {w0:World} {M:List (List Nat×World)} {d:Nat} {S:World→Prop} {fuel:Nat} {listed:Array Bool} {z:Nat}
def RS (P:Program) (ops:Array Oper) (Q:Exit→Act→World→Prop) (S:World→Prop) (z:Nat):Nat→Array Bool→Act→World→Prop
 | 0,l,a,w=>Region.ready .any ops l=[]∧Q .normal a w
 | n+1,l,a,w=>(Region.ready .any ops l=[]→Q .normal a w) ∧
  ∀ i∈Region.ready .any ops l,wpOp P ops Q i (λA w'=>(i≠z→S w')∧RS P ops Q S z n (l.setIfInBounds i true) A w') a w
theorem mo:∀ (n:Nat) (l:Array Bool) (a:Act) (w:World),RS P ops Q S z n l a w→wpAny P .any ops Q n l a w
 | 0,_,_,_,h=>h
 | n+1,_,_,_,h=>⟨h.1,λi hi=>wpOp_mono (λA w' D=>mo n _ A w' D.2) (h.2 i hi)⟩
def ZI (ops:Array Oper) (z i:Nat):Bool:=match ops[z]? with
 | some o=>o.after.any λe=>Region.binds .any e&&e.on==i
 | none=>false
theorem ui {i:Nat} {T:Oper} {v:Value} (hi:ops[i]? = some T) (hz:ZI ops z i=true) (Aa:∀ (j:Nat) (o:Oper) cs b,ops[j]? = some o→o.op≠.select cs b)
    (hQ:∀ c a w,Q (.panic c) (a.put T.dst v) w→Q (.panic c) a w) :
    ∀ (n:Nat) (l:Array Bool) (a:Act) (w:World),
     (∀ j oj,ops[j]? = some oj→j≠i→l.getD j true=false→(∀ e∈oj.after,Region.binds .any e=true→e.on≠i)→T.apart ops oj=true) →
     i∈Region.ready .any ops l→YieldsIf P ops S T v a→S w→i≠z →
     RS P ops Q S z n (l.setIfInBounds i true) (a.put T.dst v) w→RS P ops Q S z (n+1) l a w:=by
 intro n
 have J:∀ (l:Array Bool) (a:Act) (w:World),YieldsIf P ops S T v a→S w→i≠z→∀ m,RS P ops Q S z m (l.setIfInBounds i true) (a.put T.dst v) w →
     wpOp P ops Q i (λa' w'=>(i≠z→S w')∧RS P ops Q S z m (l.setIfInBounds i true) a' w') a w :=
  λl a w hy hS _ m H=>hy.wpOp hi hS ⟨λ_=>hS,H⟩
 induction n with
 | zero =>
  intro l a w _ hr hy hS V H
  refine ⟨λh=>(by rw [h] at hr; cases hr),λj hj=>?_⟩
  by_cases A:j=i
  · subst A; exact J l a w hy hS V 0 H
  · have:=ready_mono hj A
    rw [H.1] at this
    cases this
 | succ n ih =>
  intro l a w D hr hy hS V H
  refine ⟨λh=>(by rw [h] at hr; cases hr),λj hj=>?_⟩
  by_cases A:j=i
  · subst A; exact J l a w hy hS V _ H
  · have h1:=H.2 j (ready_mono hj A)
    obtain ⟨Z,oj,U,Ab⟩:=mem_ready.1 hj
    have E:∀ e∈oj.after,Region.binds .any e=true→e.on≠i:=λe he hb O=>by
     have h1:=Ab e he hb
     have h0:=(mem_ready.1 hr).1
     rw [O] at h1
     rcases Nat.lt_or_ge i l.size with h' | h'
     · simp [h'] at h0 h1; rw [h0] at h1; cases h1
     · simp [Array.getElem?_eq_none h'] at h1
    have Ae:j≠z:=λe=>by
     subst e
     simp only [ZI,U,List.any_eq_true,Array.any_eq_true,Bool.and_eq_true,beq_iff_eq] at hz
     first
      | (obtain ⟨e,he,hb,O⟩:=hz; exact E e he hb O)
      | (obtain ⟨k,hk,hb,O⟩:=hz; exact E _ (Array.getElem_mem hk) hb O)
    have h2:=wpOp_putIf U (D j oj U A Z E) (λcs b=>Aa i T cs b hi) (λcs b=>Aa j oj cs b U) hQ hy h1
    have Y:∀ k ok,ops[k]? = some ok→k≠i→(l.setIfInBounds j true).getD k true=false →
        (∀ e∈ok.after,Region.binds .any e=true→e.on≠i)→T.apart ops ok=true:=λk ok hk Ag Ac Af=>by
     refine D k ok hk Ag ?_ Af
     by_cases Ad:j=k
     · subst Ad; exact Z
     · rw [getD_set_ne true Ad] at Ac; exact Ac
    refine wpOp_mono (λa' w' h3=>⟨h3.2.1,ih (l.setIfInBounds j true) a' w' Y (ready_mono hr (Ne.symm A)) h3.1 (h3.2.1 Ae) V ?_⟩) h2
    rw [Array.setIfInBounds_comm _ _ A]
    exact h3.2.2
theorem zP {E:Nat} {l:List Oper} (Z:List Nat) (z:Nat) {n:Nat} (D:P.follows .mixedOrders=true) (O:St X w0 w M) (J:l.length=n)
    (h:∀ A,St X w0 A M→RS P l.toArray Q (Ext Z A) z n (List.replicate n false).toArray a A):(Code.region E l.toArray true).wp P Q a w:=by
 refine wp_region_any D (mo _ _ _ _ (S:=Ext Z w.drew) (z:=z) ?_)
 have:=h w.drew (O.step (Ext.drew w))
 subst J
 simpa using this
theorem r6 (E:K N L a) (i:Nat) {v:Value} (hi:ops[i]? = some o) (D:(ZI ops z i&&!(Nat.beq i z))=true) (O:Region.noSelect ops=true) (T:Region.free .any ops listed i=true) (J:(Region.ready .any ops listed).contains i=true)
    (hg:gd L ops o.guard=some true) (hd:o.dst=some d) (hN:Nat.blt d N=true) (hS:S w) (hQ:∀ c a w,Q (.panic c) (a.put o.dst v) w→Q (.panic c) a w)
    (hy:∀ w,S w→(execOp a.eval o).run P w=.ok (.value v) w) (h:∀ a,K N ((d,v)::L) a→RS P ops Q S z fuel (listed.setIfInBounds i true) a w):RS P ops Q S z (fuel+1) listed a w:=by
 simp only [Bool.and_eq_true,Bool.not_eq_true'] at D
 have A:i≠z:=λe=>by subst e; simp at D
 exact ui hi D.1 (Region.noSelect_spec O) hQ fuel listed a w (Region.free_spec hi T) (by simpa using J) (.inl ⟨E.wanted hg,hy⟩) hS A (by rw [hd]; exact h _ (E.put d hN v))
theorem xD (A:K N L a) (i:Nat) {v:Value} (hi:ops[i]? = some o) (D:(ZI ops z i&&!(Nat.beq i z))=true) (J:Region.noSelect ops=true) (O:Region.free .any ops listed i=true) (E:(Region.ready .any ops listed).contains i=true)
    (hg:gd L ops o.guard=some true) (hd:o.dst=some d) (hN:Nat.blt d N=true) (hS:S w) (hQ:∀ c a w,Q (.panic c) (a.put o.dst v) w→Q (.panic c) a w)
    (hp:LB L o.op=some v) (h:∀ a,K N ((d,v)::L) a→RS P ops Q S z fuel (listed.setIfInBounds i true) a w):RS P ops Q S z (fuel+1) listed a w :=
 r6 A i hi D J O E hg hd hN hS hQ (λw _=>aE A hp P w) h
theorem tg {A:List Nat} (E:Region.ready .any ops listed=A) (D:A≠[])
    (h:∀ i∈A,wpOp P ops Q i (λO w'=>(i≠z→S w')∧RS P ops Q S z fuel (listed.setIfInBounds i true) O w') a w):RS P ops Q S z (fuel+1) listed a w :=
 ⟨λJ=>absurd (E ▸ J) D,E ▸ h⟩
theorem zm (i:Nat) (E:Region.ready .any ops listed=[i]) (hi:ops[i]? = some o)
    (h:wpList P ops (Exit.then (λD w'=>(i≠z→S w')∧RS P ops Q S z fuel (listed.setIfInBounds i true) D w') Q) [o] a w):RS P ops Q S z (fuel+1) listed a w :=
 tg E AD λj A=>by
  simp only [List.mem_singleton] at A
  subst A
  exact Sc hi h
theorem yU (i j:Nat) {E:Oper} (O:Region.ready .any ops listed=[i,j]) (hi:ops[i]? = some o) (J:ops[j]? = some E)
    (h:wpList P ops (Exit.then (λA w'=>(i≠z→S w')∧RS P ops Q S z fuel (listed.setIfInBounds i true) A w') Q) [o] a w)
    (h':wpList P ops (Exit.then (λA w'=>(j≠z→S w')∧RS P ops Q S z fuel (listed.setIfInBounds j true) A w') Q) [E] a w):RS P ops Q S z (fuel+1) listed a w :=
 tg O AD λk D=>by
  simp only [List.mem_cons,List.not_mem_nil,or_false] at D
  rcases D with rfl | rfl
  · exact Sc hi h
  · exact Sc J h'
theorem uX (i j k:Nat) {E D:Oper} (O:Region.ready .any ops listed=[i,j,k]) (hi:ops[i]? = some o) (U:ops[j]? = some E) (T:ops[k]? = some D)
    (h:wpList P ops (Exit.then (λA w'=>(i≠z→S w')∧RS P ops Q S z fuel (listed.setIfInBounds i true) A w') Q) [o] a w)
    (h':wpList P ops (Exit.then (λA w'=>(j≠z→S w')∧RS P ops Q S z fuel (listed.setIfInBounds j true) A w') Q) [E] a w)
    (h'':wpList P ops (Exit.then (λA w'=>(k≠z→S w')∧RS P ops Q S z fuel (listed.setIfInBounds k true) A w') Q) [D] a w):RS P ops Q S z (fuel+1) listed a w :=
 tg O AD λm J=>by
  simp only [List.mem_cons,List.not_mem_nil,or_false] at J
  rcases J with rfl | rfl | rfl
  · exact Sc hi h
  · exact Sc U h'
  · exact Sc T h''
theorem Xx (A:Region.ready .any ops listed=[]) (h:Q .normal a w):∀ {fuel:Nat},RS P ops Q S z fuel listed a w
 | 0=>⟨A,h⟩
 | _+1=>⟨λ_=>h,by rw [A]; simp⟩
theorem cw {F G:List Nat} {n:Nat} (O:F.Nodup) (D:G.Nodup) (T:∀ b∈F,b<n) (A:∀ b∈G,n≤b):(F++G).Nodup :=
 List.nodup_append.2 ⟨O,D,λa J b E e=>by have:=T a J; have:=A b E; omega⟩
theorem XQ {α:Type} [Flat α] {w:World}:∀ (k:Nat) {Gs:List (List Nat)} {cells:List Value} {A:List α},Z8 w Gs cells A→k≤A.length→Z8 w (Gs.drop k) (cells.drop (k*Enc.sz α)) (A.drop k)
 | 0,Gs,cells,A,h,_=>by simpa using h
 | k+1,G::Gs,cells,x::A,⟨_,h⟩,hk=>by
  have:=XQ k h (by simpa using hk)
  rw [List.drop_drop] at this
  simpa [Nat.add_mul,Nat.add_comm] using this
 | k+1,[],_,[],h,hk=>by simp at hk
 | k+1,[],_,_::_,h,_=>h.elim
 | k+1,_::_,_,[],h,_=>h.elim
theorem aT {α:Type} [Flat α] {w:World}:∀ {Gs:List (List Nat)} {cells:List Value} {A:List α},Z8 w Gs cells A→Gs.flatten=[]
 | [],_,[],_=>rfl
 | G::Gs,cells,x::A,⟨h,h'⟩=>by
  have D:G=[]:=h.1
  rw [List.flatten_cons,D,aT h']; rfl
 | [],_,_::_,h=>h.elim
 | _::_,_,[],h=>h.elim
theorem cn {α:Type} [Flat α] {u:World} {F:List Nat} {v:Value} {xs ys:List α} {lo:Int} {k:IntKind} (hf:ow u F [v] xs) (hx:RA xs lo xs.length=some ys) (O:K N L a) {t:TypeId} (Y:TS P t (Enc.sz α)) {x i:Operand}
    (hg:gd L ops o.guard=some true) (hd:o.dst=some d) (hN:Nat.blt d N=true)
    (ho:o.op=.slice t x (some i) none none) (hv:ev L x=some v) (hi':ev L i=some (.int k lo))
    (h:∀ v' a,K N ((d,v')::L) a→ow u F [v'] ys→wpList P ops Q rest a w):wpList P ops Q (o::rest) a w:=by
 obtain ⟨ao,cap,rfl,_,_⟩:=MI (Enc.ow_rd hf)
 obtain ⟨e,Y,hs⟩:=Y
 have Ab:=hx
 unfold RA at hx
 split at hx
 · rename_i h0
   simp only [Option.some.injEq] at hx
   have hr:ow u F [.slice (if cap=lo.toNat then ao else ao.map (·.add (lo.toNat*Enc.sz α))) ((xs.length:Int).toNat - lo.toNat) (cap - lo.toNat)] ys:=by
    subst hx
    rcases hf with ⟨T,rfl,rfl⟩ | ⟨g,off,Aa,c,e',Gs,T,e1,e2,e3,e4,V,rfl,Z⟩
    · simp only [List.cons.injEq,Value.slice.injEq,and_true] at T
      obtain ⟨rfl,_,rfl⟩:=T
      refine .inl ⟨?_,AD,rfl⟩
      simp
    · simp only [List.cons.injEq,Value.slice.injEq,and_true,true_and] at T
      obtain ⟨rfl,rfl⟩:=T
      have E:((xs.drop lo.toNat).take ((xs.length:Int).toNat - lo.toNat))=xs.drop lo.toNat:=by
       apply List.take_of_length_le; simp
      rw [E]
      have A:(xs.drop lo.toNat).length=(xs.length:Int).toNat - lo.toNat:=AD
      have D:lo.toNat≤xs.length:=AC
      have U:(Gs.drop lo.toNat).flatten=[]:=aT (XQ lo.toNat V D)
      have J:Gs.flatten=[]:=aT V
      by_cases hc:cap=lo.toNat
      · refine .inr ⟨g,off,cap - lo.toNat,c,e',Gs.drop lo.toNat,?_,by rw [A]; omega,AC,e3,?_,?_,by rw [U,J],Z⟩
        · rw [if_pos hc,A]
        · rw [Nat.sub_mul]; omega
        · have hz:xs.drop lo.toNat=[]:=List.drop_of_length_le AC
          have:=XQ lo.toNat V D
          rw [hz] at this ⊢
          rw [List.drop_take,show xs.length*Enc.sz α - lo.toNat*Enc.sz α=0 by rw [show xs.length=lo.toNat by omega]; simp] at this
          simpa using this
      · refine .inr ⟨g,off+lo.toNat*Enc.sz α,cap - lo.toNat,c,e',Gs.drop lo.toNat,?_,by rw [A]; omega,AC,e3,?_,?_,by rw [U,J],Z⟩
        · rw [if_neg hc,A]; simp [HA]
        · have:lo.toNat*Enc.sz α≤cap*Enc.sz α:=Nat.mul_le_mul_right _ AC
          rw [Nat.sub_mul]; omega
        · have:=XQ lo.toNat V D
          rw [List.drop_take,List.drop_drop] at this
          rw [A,show ((xs.length:Int).toNat - lo.toNat)*Enc.sz α=xs.length*Enc.sz α - lo.toNat*Enc.sz α by rw [Nat.sub_mul]; simp]
          exact this
   refine TZ O hg hd hN ?_ λa O=>h _ a O hr
   have c2:0≤lo∧lo≤(xs.length:Int):=AC
   simp [execOp,ho,Instr.sliceAt,Instr.slice,Instr.sliceBounds,Instr.sliceBound,O.ev hv,O.ev hi',run_underlying Y,asIntOf,c2,hs]
 · simp at hx
end
end Go.Proofs.YtdgpkmgnjdpieaaGreatDoor
set_option linter.unusedSimpArgs false
set_option linter.unusedVariables false
namespace Go.Proofs.YtdgpkmgnjdpieaaGreatDoor
open Go Go.RowKit
open Enc (rd ow)
open Arg (argv)
open Ret (retv)
section
variable {β:Type} [Enc β] {w w0:World}
end
end Go.Proofs.YtdgpkmgnjdpieaaGreatDoor
set_option linter.unusedSimpArgs false
set_option linter.unusedVariables false
namespace Go.Proofs.YtdgpkmgnjdpieaaGreatDoor
open Go Go.RowKit
open Enc (rd ow)
def z7 (sz:Nat) (v:Value) (lo m:Nat) (E:Value):Prop:=∃ A D,E=.slice A m D∧∀ g off n cap,v=.slice (some ⟨g,off,none⟩) n cap→0<m→A=some ⟨g,off+lo*sz,none⟩
section
variable {α:Type} [Enc α]
end
section
variable {P:Program} {ops:Array Oper} {Q:Exit→Act→World→Prop} {rest:List Oper} {o:Oper} {a:Act} {w:World} {N:Nat} {L:List (Nat×Value)}
variable {X:List Nat} {w0:World} {M:List (List Nat×World)} {d:Nat}
theorem St.tail {p:List Nat×World} (h:St X w0 w (p::M)):St X w0 w M:=by
 have D:∀ b∈EC M,b∈EC (p::M):=λb A=>by simp only [EC,List.flatMap_cons]; exact List.mem_append_right _ A
 refine ⟨h.ext,λq E=>h.ok q (List.mem_cons_of_mem _ E),λb A=>h.lt b (D b A),λb A=>h.lo b (D b A),?_⟩
 have:=h.nd
 simp only [EC,List.flatMap_cons] at this
 exact (List.nodup_append.1 this).2.1
theorem d9 {α:Type} [Enc α] {u:World} {F:List Nat} {v:Value} {xs ys:List α} {lo:Int} (hf:rd u F [v] xs) (hx:RA xs lo xs.length=some ys) {t:TypeId} (A:TS P t (Enc.sz α)) :
    ∃ E,rd u F [E] ys∧z7 (Enc.sz α) v lo.toNat ys.length E∧∀ {N:Nat} {L:List (Nat×Value)} {a:Act} {o:Oper} {x i:Operand} {k:IntKind},K N L a→o.op=.slice t x (some i) none none→ev L x=some v→ev L i=some (.int k lo)→∀ w:World,(execOp a.eval o).run P w=.ok (.value E) w:=by
 obtain ⟨_,cap,rfl,_,_⟩:=MI hf
 obtain ⟨e,A,hs⟩:=A
 have hr:=Zl hf hx
 have U:=hx
 unfold RA at hx
 split at hx
 · rename_i h0
   have D:ys.length=(xs.length:Int).toNat - lo.toNat:=by
    simp only [Option.some.injEq] at hx
    subst hx; simp
   refine ⟨_,by simpa using hr,?_,?_⟩
   · rw [D]
     refine ⟨_,_,rfl,λg off n _ Y _=>?_⟩
     injection Y with T e2 Z
     subst T; subst Z
     rw [if_neg AC]
     simp only [Option.map_some,Addr.add]
     by_cases hl:lo.toNat*Enc.sz α=0 <;> simp [hl]
   · intro N L a o x i k O ho V J w
     have h:0≤lo∧lo≤(xs.length:Int):=AC
     simp [execOp,ho,Instr.sliceAt,Instr.slice,Instr.sliceBounds,Instr.sliceBound,O.ev V,O.ev J,run_underlying A,asIntOf,h,hs]
 · simp at hx
theorem oW {α:Type} [Enc α] {u:World} {F:List Nat} {v:Value} {xs ys:List α} {hi:Int} (hf:rd u F [v] xs) (hx:RA xs 0 hi=some ys) {t:TypeId} (D:TS P t (Enc.sz α)) :
    ∃ J,rd u F [J] ys∧z7 (Enc.sz α) v 0 ys.length J∧∀ {N:Nat} {L:List (Nat×Value)} {a:Act} {o:Oper} {x j:Operand} {k:IntKind},K N L a→o.op=.slice t x none (some j) none→ev L x=some v→ev L j=some (.int k hi)→∀ w:World,(execOp a.eval o).run P w=.ok (.value J) w:=by
 obtain ⟨A,cap,rfl,_,_⟩:=MI hf
 obtain ⟨e,D,h⟩:=D
 have U:=Zl hf hx
 unfold RA at hx
 split at hx
 · rename_i h0
   have E:ys.length=hi.toNat:=by
    simp only [Option.some.injEq] at hx
    subst hx; simp; omega
   refine ⟨.slice (if cap=0 then A else A) hi.toNat cap,?_,?_,?_⟩
   · have e:(if cap=(0:Int).toNat then A else A.map (·.add ((0:Int).toNat*Enc.sz α)))=(if cap=0 then A else A):=by
       by_cases O:cap=0
       · simp [O]
       · cases A with
         | none=>simp [O]
         | some p=>simp [O,Addr.add]
     rw [e] at U
     simpa using U
   · rw [E]
     refine ⟨_,_,rfl,λg off n _ Z _=>?_⟩
     injection Z with V e2 e3
     subst V
     simp
   · intro N L a o x j k T ho Y hj w
     have c1:0≤hi∧hi≤(cap:Int):=AC
     simp [execOp,ho,Instr.sliceAt,Instr.slice,Instr.sliceBounds,Instr.sliceBound,T.ev Y,T.ev hj,run_underlying D,asIntOf,c1,h]
     intro _
     cases A <;> simp [Addr.add]
 · simp at hx
structure Raw (n:Nat) where
 l:List Value
 len:l.length=n
 one:∀ c∈l,c.oneCell'=true
instance (n:Nat):Flat (Raw n):=⟨n,Raw.l,Raw.len,Raw.one⟩
end
end Go.Proofs.YtdgpkmgnjdpieaaGreatDoor
set_option linter.unusedSimpArgs false
set_option linter.unusedVariables false
namespace Go.Proofs.YtdgpkmgnjdpieaaGreatDoor
open Go Go.RowKit
open Enc (rd ow)
section
variable {P:Program} {ops:Array Oper} {Q:Exit→Act→World→Prop} {rest:List Oper} {o o1 o2:Oper} {a:Act} {w w':World} {N:Nat} {L:List (Nat×Value)}
variable {X:List Nat} {w0:World} {M:List (List Nat×World)} {d d':Nat} {S:World→Prop} {fuel:Nat} {listed:Array Bool}
variable {α:Type} [Enc α] {F:List Nat} {cs:List Value} {x:α} {u:World}
theorem St.r (h:St [] w0 w M) (A:rd w0 F cs x):rd w F cs x:=Enc.rd_agr A (h.a00 (Enc.rd_lt A))
theorem St.r1 (h:St X w0 w M) (A:rd w0 F cs x) (D:∀ b∈F,b∉X):rd w F cs x:=Enc.rd_agr A (h.a0 (Enc.rd_lt A) D)
theorem St.q (h:St X w0 w M) (A:ow u F cs x) (i:Nat) (hi:M[i]? = some (F,u)):rd w F cs x:=Enc.rd_agr (Enc.ow_rd A) (h.a i hi)
theorem St.v (h:St X w0 w M) (A:ow u F cs x) (i:Nat) (hi:M[i]? = some (F,u)):ow w F cs x:=Enc.ow_agr A (h.a i hi)
theorem St.y (h:St X w0 w M) {b:Nat} {e:TypeId} (A:bx u b cs e) (i:Nat) (hi:M[i]? = some ([b],u)):bx w b cs e:=A.agr (h.a i hi) AD
theorem St.here (h:St X w0 w M) (A:∀ w,ow w F cs x):ow w F cs x:=A w
theorem St.mu (h:St X w0 w M) (i:Nat) (hi:M[i]? = some (F,u)) (D:Ext F w w'):St X w0 w' (M.set i (F,w')) :=
 h.mut i hi D F (λb A=>⟨.inl A,D.lt1 (h.ltF i hi) b A⟩) (h.ndF i hi)
theorem St.nw (h:St X w0 w M) (E:Ext [] w w') (hl:∀ b∈F,w.heap.size≤b) (D:ow w' F cs x):St X w0 w' ((F,w')::M) :=
 h.new E F (λb A=>⟨hl b A,Enc.rd_lt (Enc.ow_rd D) b A⟩) (Enc.ow_nd D)
theorem dT (E:K N L a) (i:Nat) {v:Value} (hi:ops[i]? = some o) (D:uC L ops N true o=some d) (A:S w)
    (hy:∀ w,S w→(execOp a.eval o).run P w=.ok (.value v) w) (h:∀ a,K N ((d,v)::L) a→wpAnyH P .any ops Q S fuel (listed.setIfInBounds i true) a w)
    (ho:wQ ops listed i=true:=by kernel_rfl) (hQ:∀ c a w,Q (.panic c) (a.put o.dst v) w→Q (.panic c) a w:=by exact λ_ _ _=>id):wpAnyH P .any ops Q S (fuel+1) listed a w :=
 dt E i hi ho D A hQ hy h
theorem dM (is:List Nat) (n:Nat) {A:List (Nat×Value)} (E:is.length=n) (J:K N L a) (O:p4 N ops is L=some A) (D:S w)
    (h:∀ a,K N A a→wpAnyH P .any ops Q S fuel (rW listed is) a w) (ho:wA ops listed is=true:=by kernel_rfl)
    (hQ:∀ c (a:Act) d v w,Q (.panic c) (a.put (some d) v) w→Q (.panic c) a w:=by exact λ_ _ _ _ _=>id):wpAnyH P .any ops Q S (fuel+n) listed a w :=
 dN is n E J ho O D hQ h
theorem fC {β:Type} {p:β→Prop} {y:β} {l:List β} (D:p y) (A:∀ z∈l,p z):∀ z∈y::l,p z:=List.forall_mem_cons.2 ⟨D,A⟩
theorem fN {β:Type} {p:β→Prop}:∀ z∈([]:List β),p z:=List.forall_mem_nil _
abbrev pt (b:Nat):Value:=.pointer (some ⟨b,0,none⟩)
theorem ns {Z Y:List Nat} {D:World} {A:Act→World→Prop} (s:Ext Z D w) (e:Ext Y w w') (h:Ext Z D w'→A a w') (E:∀ y∈Y,y∈Z∨D.heap.size≤y:=by simp) :
    wpList P ops (Exit.then (λJ w'=>Ext Z D w'∧A J w') Q) [] a w':=by
 have t:=s.trans e E
 exact wpList_nil ⟨t,h t⟩
theorem dD (h:Q .normal a w) (A:Region.ready .any ops listed=[]:=by kernel_rfl):wpAnyH P .any ops Q S fuel listed a w:=we A h
theorem dF (A:K N L a) (i:Nat) {t:TypeId} {f off:Nat} (T:FA P t f off) {x:Operand} {p:Addr}
    (h1:(ops[i]?,o.op,ev L x,uC L ops N true o)=(some o,.fieldAddr t x f,some (.pointer (some p)),some d)) (hS:S w)
    (h:∀ a,K N ((d,.pointer (some (p.add off)))::L) a→wpAnyH P .any ops Q S fuel (listed.setIfInBounds i true) a w)
    (ho:wQ ops listed i=true:=by kernel_rfl) (hQ:∀ c a v w,Q (.panic c) (a.put o.dst v) w→Q (.panic c) a w:=by exact λ_ _ _ _=>id):wpAnyH P .any ops Q S (fuel+1) listed a w:=by
 simp only [Prod.mk.injEq] at h1
 obtain ⟨E,D,O,J⟩:=h1
 exact dt A i E ho J hS (λc a w=>hQ c a _ w) (λw s=>MV T A D O) h
theorem sT {t n:Nat} {cs':List Value} (hs:∀ w,(sizeOf t).run P w=.ok n w) (hM:St X w0 w M) (i:Nat) {b:Nat} {e:TypeId} (V:bx u b cs e) (off:Nat) (J:K N L a) {x y:Operand} {p:Addr} {v:Value}
    (h1:(M[i]?,gd L ops o.guard,o.dst,o.op,ev L x,p,ev L y,BF cs off v.cells.toList,v.cells.size,Nat.ble (off+n) cs.length)=(some ([b],u),some true,none,.store t x y,some (.pointer (some p)),(⟨b,0,none⟩:Addr).add off,some v,cs',n,true))
    (h2:v.cells.toList.all Value.oneCell'=true)
    (h:∀ w' a,K N L a→Ext [b] w w'→St X w0 w' (M.set i ([b],w'))→bx w' b cs' e→wpList P ops Q rest a w'):wpList P ops Q (o::rest) a w:=by
 simp only [Prod.mk.injEq] at h1
 obtain ⟨D,Y,a3,E,a5,O,T,U,Z,A⟩:=h1
 exact vt hs hM i V off J D Y a3 E a5 O T U Z A h2 h
theorem sB {t n sz A:Nat} {z:List Value} (Z:TE P t sz A z) (hM:St X w0 w M) (J:K N L a) {ps:List (Nat×Operand)} {vs:List Value} {cs:List Value}
    (h1:(gd L ops o.guard,o.dst,Nat.blt d N,o.op,evs L (ps.map (·.2)),ps.map (·.1),vs.length,vs.flatMap λv=>v.cells.toList)=(some true,some d,true,.buildSlice t n ps.toArray,some vs,List.range vs.length,n,cs))
    (hvs:∀ v∈vs,v.cells.size=sz)
    (h:∀ g w' e a,K N ((d,.slice (some ⟨g,0,none⟩) n n)::L) a→St X w0 w' (([g],w')::M)→Ext [] w w'→bx w' g cs e→wpList P ops Q rest a w') (hsm:n*sz≤16777216:=by decide):wpList P ops Q (o::rest) a w:=by
 simp only [Prod.mk.injEq] at h1
 obtain ⟨D,V,a3,E,Y,O,T,U⟩:=h1
 exact dQ Z hM J D V a3 E Y O T hsm U hvs h
theorem en {f:FuncId} {fn:Func} {c:Code} {R:Ending→World→Prop} {vs:List Value}
    (hf:P.funcs[f]? = some fn) (hb:fn.body=some c) (hn:fn.ntmps=N) (hle:Nat.ble vs.length N=true)
    (h:∀ a,K N (mJ 0 vs) a→St [] w w []→c.wp P (bodyPost P fn R) a w):Calls P f vs.toArray w R:=enter hf hb hn hle λa k=>h a k (St.start w)
theorem rL {t n:Nat} (V:TA P t n) (Y:St X w0 w M) (i:Nat) {b:Nat} {e:TypeId} (O:bx u b cs e) (off:Nat) (E:K N L a) {y:Operand} {p:Addr} {vs:List Value}
    (h1:(M[i]?,o.op,ev L y,p,(cs.drop off).take n,vs.length)=(some ([b],u),.load t y,some (.pointer (some p)),(⟨b,0,none⟩:Addr).add off,vs,n)) :
    (execOp a.eval o).run P w=.ok (.value (.agg vs.toArray)) w:=by
 simp only [Prod.mk.injEq] at h1
 obtain ⟨A,T,Z,D,U,J⟩:=h1
 exact vL V Y i O off E A T Z D U J
theorem St.sl (h:St X w0 w M) (is:List Nat) {M':List (List Nat×World)} (D:eV M is=some M') (A:is.Nodup:=by decide):St X w0 w M':=h.sel is D A
theorem sC (T:K N L a) {f:FuncId} {D:List Operand} {vs:List Value} {R:Ending→World→Prop} {A:Array TypeId}
    (hcall:∀ (args:Array Value) (w:World),(callFunc f args).run P w=.ok (.enter f args) w)
    (h1:(gd L ops o.guard,o.dst,Nat.blt d N,o.op,evs L D)=(some true,some d,true,.call { callee:=.value (.func f),args:=D.toArray,argTypes:=A },some vs))
    (hc:Calls P f vs.toArray w R) (hR:∀ e w',R e w'→∃ v,e=.returned v∧∀ a,K N ((d,v)::L) a→wpList P ops Q rest a w'):wpList P ops Q (o::rest) a w:=by
 simp only [Prod.mk.injEq] at h1
 obtain ⟨J,E,V,O,U⟩:=h1
 exact j4 T hcall J E V O U hc hR
theorem cC (T:K N L a) (O:St X w0 w M) {f:FuncId} {D:List Operand} {vs:List Value} {v:Value} {A:Array TypeId}
    (hcall:∀ (args:Array Value) (w:World),(callFunc f args).run P w=.ok (.enter f args) w)
    (h1:(o.op,evs L D,uC L ops N true o)=(.call { callee:=.value (.func f),args:=D.toArray,argTypes:=A },some vs,some d))
    (hc:Calls P f vs.toArray w λe w'=>e=.returned v∧Ext [] w w') (hR:∀ w',Ext [] w w'→∀ a,K N ((d,v)::L) a→St X w0 w' M→wpList P ops Q rest a w'):wpList P ops Q (o::rest) a w:=by
 simp only [Prod.mk.injEq] at h1
 obtain ⟨J,E,U⟩:=h1
 exact cE T O hcall U J E hc hR
end
end Go.Proofs.YtdgpkmgnjdpieaaGreatDoor
set_option linter.unusedSimpArgs false
set_option linter.unusedVariables false
namespace Go.Proofs.YtdgpkmgnjdpieaaGreatDoor
open Go Go.RowKit
open Enc (rd ow)
section
variable {P:Program} {ops:Array Oper} {rest:List Oper} {o:Oper} {a:Act} {w w':World} {N:Nat} {L:List (Nat×Value)}
variable {X:List Nat} {w0:World} {M:List (List Nat×World)}
def Ze (l:List U8):Option ByteArray:=if ∀ b∈l,0≤b.n∧b.n≤255 then some ⟨(l.map λb=>UInt8.ofNat b.n.toNat).toArray⟩ else none
theorem XC {l:List U8} {r:ByteArray} (E:Ze l=some r) {F:List Nat} {v:Value} (hr:rd w F [v] l) (Z:K N L a) {t D e:TypeId} (T:P.underlying t=some (.slice e)) (U:P.underlying e=some (.int .u8)) (Y:P.underlying D=some .string) {x:Operand}
    (ho:o.op=.convert t D x) (hv:ev L x=some v):(execOp a.eval o).run P w=.ok (.value (.string r)) w:=by
 unfold Ze at E
 split at E
 · rename_i V
   simp only [Option.some.injEq] at E
   subst E
   have J:∀ (j:Nat) (b:U8),l[j]? = some b→PtAt w (KD v 1 j) [.int .u8 b.n]:=λj b A=>(kr hr A).1
   obtain ⟨ao,cap,O,_,_,_,h4⟩:=hr
   simp only [List.cons.injEq,and_true] at O
   subst O
   rcases h4 with rfl | ⟨g,off,c,e',fr,rfl,_⟩
   · have Q:(convert t D (.slice ao (([]:List U8).length) cap)).run P w=.ok (.string ⟨#[]⟩) w:=by
       cases ao with
       | none=>exact run_convert_bytes_nil w t e T U 0 cap D Y
       | some ad=>exact run_convert_bytes_back (P:=P) w t D e ad cap [] T U Y (λj A=>absurd A AD)
     simp [execOp,ho,Z.ev hv] at Q ⊢
     simp [Q]
   · have Q:=run_convert_bytes_back (P:=P) w t D e ⟨g,off,none⟩ cap (l.map λb=>UInt8.ofNat b.n.toNat) T U Y (λj A=>by
       rw [List.length_map] at A
       have h:=(J j l[j] (List.getElem?_eq_getElem A)).cell 0 _ rfl
       simp only [KD,HA,Nat.mul_one,Nat.add_zero] at h
       rw [HA,h]
       simp only [List.getElem_map,Option.some.injEq,Value.int.injEq,true_and]
       have hb:=V l[j] (List.getElem_mem A)
       have:(UInt8.ofNat (l[j].n.toNat)).toNat=l[j].n.toNat:=by
        rw [UInt8.toNat_ofNat']
        omega
       rw [this]; omega)
     rw [List.length_map] at Q
     simp [execOp,ho,Z.ev hv,Q]
 · simp at E
def Tb (P:Program) (w:World):Prop:=(∃ g,P.globalNamed "internal/strconv.uint64pow10" = some g) ∧ Lib.TabIs P w "internal/strconv.uint64pow10" .u64 Lib.pow10Tab
theorem Tb.ext (h:Tb P w) (D:Ext [] w w'):Tb P w':=by
 obtain ⟨⟨g,A⟩,h⟩:=h
 exact ⟨⟨g,A⟩,Go.Joins.tab_stays A h D.below (Nat.le_refl _)⟩
theorem St.tb (h:St [] w0 w M) (A:Tb P w0):Tb P w:=A.ext h.ext
def n2 (n:Int):Option ByteArray:=if -9223372036854775808≤n∧n≤9223372036854775807 then some ⟨(Lib.itoa n).toArray⟩ else none
theorem rz (w:World) (q:Nat) (os:Array Obj):Ext [] w (Go.Sort.grow (w.drewN q) os) :=
 ⟨rfl,rfl,rfl,by simp [Go.Sort.grow],λi hi _=>by
  show ((w.drewN q).heap++os)[i]? = _
  rw [Array.getElem?_append_left (by show i<w.heap.size; omega)]
  rfl⟩
theorem wJ {f:FuncId} (E:∀ (n:Int),-9223372036854775808 ≤ n → n ≤ 9223372036854775807 → ∀ (w:World),Lib.TabIs P w "internal/strconv.uint64pow10" .u64 Lib.pow10Tab → Calls P f #[.int .i64 n] w λe w'=>e = .returned (.string ⟨(Lib.itoa n).toArray⟩) ∧ ∃ k os,w' = Go.Sort.grow (w.drewN k) os)
    (hT:Tb P w0) (n:Int) {r:ByteArray} (h:n2 n=some r):Calls P f #[.int .i64 n] w0 λe w=>e=.returned (.string r)∧Ext [] w0 w:=by
 unfold n2 at h
 split at h
 · rename_i A
   simp only [Option.some.injEq] at h
   subst h
   refine (E n A.1 A.2 w0 hT.2).mono λe w ⟨J,k,os,D⟩=>⟨J,?_⟩
   rw [D]
   exact rz _ _ _
 · simp at h
end
end Go.Proofs.YtdgpkmgnjdpieaaGreatDoor
set_option linter.unusedSimpArgs false
set_option linter.unusedVariables false
namespace Go.Proofs.YtdgpkmgnjdpieaaGreatDoor
open Go Go.RowKit
open Enc (rd ow)
section
variable {P:Program} {ops:Array Oper} {rest:List Oper} {o:Oper} {a:Act} {w w':World} {N:Nat} {L:List (Nat×Value)}
variable {X:List Nat} {w0:World} {M:List (List Nat×World)}
def obx (w:World) (F:List Nat) (b:Nat) (x:Request) (e:TypeId):Prop :=
 ∃ (J:Value) (E:List Nat) (D:Value) (Q:List Nat) (A:Value) (O:List Nat),bx w b [.int .i64 x.fc,.int .i64 x.fJ.fW,.int .i64 x.fJ.fD,.int .i64 x.fJ.fH,.int .i64 x.fJ.fQ,.int .i64 x.fR,J,D,.int .i64 x.fP,A] e ∧
  F=[b]++(E++(Q++O))∧ow w E [J] x.fT∧ow w Q [D] x.fG∧ow w O [A] x.fU∧F.Nodup
theorem obx.nd {F:List Nat} {b:Nat} {x:Request} {e:TypeId} (h:obx w F b x e):F.Nodup:=by
 obtain ⟨_,_,_,_,_,_,_,_,_,_,_,h⟩:=h
 exact h
theorem obx.lt {F:List Nat} {b:Nat} {x:Request} {e:TypeId} (h:obx w F b x e):∀ y∈F,y<w.heap.size:=by
 obtain ⟨_,_,_,_,_,_,J,rfl,E,O,D,_⟩:=h
 intro y A
 simp only [List.mem_append,List.mem_singleton] at A
 rcases A with rfl | A | A | A
 · exact Iv J
 · exact Enc.rd_lt (Enc.ow_rd E) y A
 · exact Enc.rd_lt (Enc.ow_rd O) y A
 · exact Enc.rd_lt (Enc.ow_rd D) y A
theorem St.split4 {A F G H:List Nat} {u:World} (h:St X w0 w ((A++(F++(G++H)),u)::M)):St X w0 w ((A,u)::(F,u)::(G,u)::(H,u)::M):=by
 have e:EC ((A,u)::(F,u)::(G,u)::(H,u)::M)=EC ((A++(F++(G++H)),u)::M):=by simp [EC]
 refine ⟨h.ext,?_,by rw [e]; exact h.lt,by rw [e]; exact h.lo,by rw [e]; exact h.nd⟩
 have E:=h.ok _ (List.mem_cons_self)
 intro p J
 simp only [List.mem_cons] at J
 rcases J with rfl | rfl | rfl | rfl | J
 · exact E.sub (λb D=>by simp [D])
 · exact E.sub (λb D=>by simp [D])
 · exact E.sub (λb D=>by simp [D])
 · exact E.sub (λb D=>by simp [D])
 · exact h.ok p (by simp [J])
theorem St.joinq {A F G H:List Nat} {Q E J O:World} (h:St X w0 w ((A,Q)::(F,E)::(G,J)::(H,O)::M)):St X w0 w ((A++(F++(G++H)),w)::M):=by
 have e:EC ((A++(F++(G++H)),w)::M)=EC ((A,Q)::(F,E)::(G,J)::(H,O)::M):=by simp [EC]
 refine ⟨h.ext,?_,by rw [e]; exact h.lt,by rw [e]; exact h.lo,by rw [e]; exact h.nd⟩
 intro p D
 rcases List.mem_cons.1 D with rfl | D
 · exact Agr.refl _ _
 · exact h.ok p (by simp [D])
theorem obx.start {F:List Nat} {b:Nat} {x:Request} {e:TypeId} (h:obx w0 F b x e) :
    ∃ (Q:Value) (A:List Nat) (E:Value) (O:List Nat) (D:Value) (J:List Nat),bx w0 b [.int .i64 x.fc,.int .i64 x.fJ.fW,.int .i64 x.fJ.fD,.int .i64 x.fJ.fH,.int .i64 x.fJ.fQ,.int .i64 x.fR,Q,E,.int .i64 x.fP,D] e ∧
     ow w0 A [Q] x.fT∧ow w0 O [E] x.fG∧ow w0 J [D] x.fU∧St F w0 w0 [([b],w0),(A,w0),(O,w0),(J,w0)]:=by
 have hl:=h.lt
 have T:=h.nd
 obtain ⟨Q,A,E,O,D,J,U,rfl,Z,V,Y,_⟩:=h
 exact ⟨Q,A,E,O,D,J,U,Z,V,Y,(St.start1 w0 hl T).split4⟩
theorem obx.fin {A E D:List Nat} {b:Nat} {x:Request} {e:TypeId} {Q O J:Value} (T:bx w b [.int .i64 x.fc,.int .i64 x.fJ.fW,.int .i64 x.fJ.fD,.int .i64 x.fJ.fH,.int .i64 x.fJ.fQ,.int .i64 x.fR,Q,O,.int .i64 x.fP,J] e)
    (h0:ow w A [Q] x.fT) (h1:ow w E [O] x.fG) (h2:ow w D [J] x.fU) (hn:([b]++(A++(E++D))).Nodup):obx w ([b]++(A++(E++D))) b x e:=⟨_,_,_,_,_,_,T,rfl,h0,h1,h2,hn⟩
structure Te (P:Program) (w:World):Prop where
 t:Tb P w
 s:∃ (g:Nat) (tp:TypeId) (p:Value),P.globalNamed "strconv.ErrSyntax" = some g ∧ w.var? P "strconv.ErrSyntax" = some #[.iface tp p]
 r:∃ (g:Nat) (tp:TypeId) (p:Value),P.globalNamed "strconv.ErrRange" = some g ∧ w.var? P "strconv.ErrRange" = some #[.iface tp p]
theorem nQ {n:String} {g:Nat} {cs:Array Value} (D:P.globalNamed n=some g) (h:w.var? P n=some cs) (E:Ext [] w w'):w'.var? P n=some cs:=by
 unfold World.var? at h ⊢
 rw [D] at h ⊢
 simp only [Option.bind_eq_bind,Option.bind_some] at h ⊢
 cases A:w.heap[g]? with
 | none=>simp [A] at h
 | some o =>
  rw [E.blk g (Array.getElem?_eq_some_iff.1 A).1 AD,A]
  rw [A] at h
  exact h
theorem Te.ext (h:Te P w) (A:Ext [] w w'):Te P w':=by
 obtain ⟨J,Z,V,E,O⟩:=h.s
 obtain ⟨Y,T,U,D,Q⟩:=h.r
 exact ⟨h.t.ext A,⟨J,Z,V,E,nQ E O A⟩,⟨Y,T,U,D,nQ D Q A⟩⟩
theorem St.te (h:St [] w0 w M) (A:Te P w0):Te P w:=A.ext h.ext
theorem St.te2 (h:St [] w0 w M) (A:Te P w0) (i:Nat) {F:List Nat} {u:World} (hi:M[i]? = some (F,u)):∀ w',Ext F w w'→Te P w':=λw' E =>
 A.ext (h.ext.trans E λy D=>.inr (h.fresh i hi y D))
def nT (s:ByteArray):Option (Int×Bool):=if s.size≤1048576 then some (match Lib.atoiAll s.data.toList with
 | .ok v=>(v,false)
 | .syntax=>(0,true)
 | .range=>(Lib.atoiSat s.data.toList,true)) else none
def isErr (v:Value) (b:Bool):Prop:=(b=false∧v=.nilIface)∨(b=true∧∃ t p,v=.iface t p)
theorem isErr.not {v:Value} {b:Bool} (h:isErr v b):v.oneCell'=true:=by
 rcases h with ⟨_,rfl⟩ | ⟨_,t,p,rfl⟩ <;> rfl
theorem y7 {v:Value} {b:Bool} (J:isErr v b) (A:K N L a) {t E:TypeId} (D:P.underlying t=some (.interface (P.methodsAt t))) {x:Operand} {c:Value}
    (ho:o.op=.binOp .neq t x (.const c) E) (h1:ev L x=some v) (h2:ev L (.const c)=some .nilIface):(execOp a.eval o).run P w=.ok (.value (.bool b)) w:=by
 rcases J with ⟨rfl,rfl⟩ | ⟨rfl,u,p,rfl⟩
 · have:=run_neq_nil_nil (P:=P) w t D
   simp [execOp,ho,A.ev h1,A.ev h2,eqGuard,this]
 · have:=run_neq_held_nil (P:=P) w t u p D
   simp [execOp,ho,A.ev h1,A.ev h2,eqGuard,this]
theorem co (h:Below w.heap.size w w'):Ext [] w w':=⟨h.os,h.tape,h.output,h.size,λk A _=>h.block k A⟩
theorem xA {f:FuncId} {Q:TypeId}
    (hok:∀ (s:ByteArray),s.size≤9223372036854775806→∀ (v:Int),Lib.atoiAll s.data.toList=.ok v→∀ (w:World),Calls P f #[.string s] w λe w'=>e=.returned (.tuple #[.int .i64 v,.nilIface])∧(w'=w∨∃ t,w'=Lib.bytesWorld w Q t))
    (hsy:∀ (s:ByteArray),s.size ≤ 281474976710656 → Lib.atoiAll s.data.toList = .syntax → ∀ (A:TypeId) (p:Value) (w:World),w.var? P "strconv.ErrSyntax" = some #[.iface A p] → Calls P f #[.string s] w λe w'=>∃ t q,e = .returned (.tuple #[.int .i64 0,.iface t q]) ∧ Below w.heap.size w w')
    (hra:∀ (s:ByteArray),s.size ≤ 281474976710656 → Lib.atoiAll s.data.toList = .range → ∀ (A:TypeId) (p:Value) (w:World),w.var? P "strconv.ErrRange" = some #[.iface A p] → Calls P f #[.string s] w λe w'=>∃ t q,e = .returned (.tuple #[.int .i64 (Lib.atoiSat s.data.toList),.iface t q]) ∧ Below w.heap.size w w')
    (hT:Te P w0) (s:ByteArray) {r:Int×Bool} (h:nT s=some r):Calls P f #[.string s] w0 λe w=>∃ v,e=.returned (.tuple #[.int .i64 r.1,v])∧Ext [] w0 w∧isErr v r.2:=by
 unfold nT at h
 split at h
 · rename_i hl
   simp only [Option.some.injEq] at h
   subst h
   cases E:Lib.atoiAll s.data.toList with
   | ok v =>
    refine (hok s AC v E w0).mono λe w ⟨D,T⟩=>⟨_,D,?_,.inl ⟨rfl,rfl⟩⟩
    rcases T with rfl | ⟨t,rfl⟩
    · exact Ext.refl _ _
    · exact co (Lib.bytesWorld_below _ _ _)
   | «syntax» =>
    obtain ⟨_,A,p,_,O⟩:=hT.s
    exact (hsy s AC E A p w0 O).mono λe w ⟨t,q,D,J⟩=>⟨_,D,co J,.inr ⟨rfl,_,_,rfl⟩⟩
   | range =>
    obtain ⟨_,A,p,_,O⟩:=hT.r
    exact (hra s AC E A p w0 O).mono λe w ⟨t,q,D,J⟩=>⟨_,D,co J,.inr ⟨rfl,_,_,rfl⟩⟩
 · simp at h
end
end Go.Proofs.YtdgpkmgnjdpieaaGreatDoor
set_option linter.unusedSimpArgs false
set_option linter.unusedVariables false
namespace Go.Proofs.YtdgpkmgnjdpieaaGreatDoor
open Go Go.RowKit
open Enc (rd ow)
theorem q5 {α:Type} [Enc α] {w:World} {g:Nat} {cs:List Value} {e:TypeId} (h:bx w g cs e) {y:α} {F:List Nat} (hy:rd w F cs y) :
    rd w (g::F) [.slice (some ⟨g,0,none⟩) 1 1] [y]:=by
 have hl:=Enc.rd_sz hy
 refine ⟨_,1,rfl,Nat.le_refl _,by simp [maxLen],λb A=>?_,.inr ⟨g,0,_,e,(0,0),rfl,AD,h,⟨F,λb A=>List.mem_cons_of_mem _ A,?_⟩,trivial⟩⟩
 · rcases List.mem_cons.1 A with rfl | A
   · exact Iv h
   · exact Enc.rd_lt hy b A
 · simp only [List.drop_zero]
   rw [← hl,List.take_length]
   exact hy
theorem sR {α:Type} [Flat α] {P:Program} {u:World} {F:List Nat} {v:Value} {xs ys:List α} {lo:Int} (hf:ow u F [v] xs) (hx:RA xs lo xs.length=some ys) {t:TypeId} (T:TS P t (Enc.sz α)) :
    ∃ v',ow u F [v'] ys∧∀ {N:Nat} {L:List (Nat×Value)} {a:Act} {o:Oper} {x i:Operand} {k:IntKind},K N L a→o.op=.slice t x (some i) none none→ev L x=some v→ev L i=some (.int k lo)→∀ w:World,(execOp a.eval o).run P w=.ok (.value v') w:=by
 obtain ⟨ao,cap,rfl,_,_⟩:=MI (Enc.ow_rd hf)
 obtain ⟨e,T,hs⟩:=T
 unfold RA at hx
 split at hx
 · rename_i h0
   simp only [Option.some.injEq] at hx
   have hr:ow u F [.slice (if cap=lo.toNat then ao else ao.map (·.add (lo.toNat*Enc.sz α))) ((xs.length:Int).toNat - lo.toNat) (cap - lo.toNat)] ys:=by
    subst hx
    rcases hf with ⟨M,rfl,rfl⟩ | ⟨g,off,Z,c,h,Gs,M,e1,e2,e3,e4,Q,rfl,V⟩
    · simp only [List.cons.injEq,Value.slice.injEq,and_true] at M
      obtain ⟨rfl,_,rfl⟩:=M
      refine .inl ⟨?_,AD,rfl⟩
      simp
    · simp only [List.cons.injEq,Value.slice.injEq,and_true,true_and] at M
      obtain ⟨rfl,rfl⟩:=M
      have E:((xs.drop lo.toNat).take ((xs.length:Int).toNat - lo.toNat))=xs.drop lo.toNat:=by
       apply List.take_of_length_le; simp
      rw [E]
      have A:(xs.drop lo.toNat).length=(xs.length:Int).toNat - lo.toNat:=AD
      have D:lo.toNat≤xs.length:=AC
      have O:(Gs.drop lo.toNat).flatten=[]:=aT (XQ lo.toNat Q D)
      have J:Gs.flatten=[]:=aT Q
      by_cases hc:cap=lo.toNat
      · refine .inr ⟨g,off,cap - lo.toNat,c,h,Gs.drop lo.toNat,?_,by rw [A]; omega,AC,e3,?_,?_,by rw [O,J],V⟩
        · rw [if_pos hc,A]
        · rw [Nat.sub_mul]; omega
        · have hz:xs.drop lo.toNat=[]:=List.drop_of_length_le AC
          have:=XQ lo.toNat Q D
          rw [hz] at this ⊢
          rw [List.drop_take,show xs.length*Enc.sz α - lo.toNat*Enc.sz α=0 by rw [show xs.length=lo.toNat by omega]; simp] at this
          simpa using this
      · refine .inr ⟨g,off+lo.toNat*Enc.sz α,cap - lo.toNat,c,h,Gs.drop lo.toNat,?_,by rw [A]; omega,AC,e3,?_,?_,by rw [O,J],V⟩
        · rw [if_neg hc,A]; simp [HA]
        · have:lo.toNat*Enc.sz α≤cap*Enc.sz α:=Nat.mul_le_mul_right _ AC
          rw [Nat.sub_mul]; omega
        · have:=XQ lo.toNat Q D
          rw [List.drop_take,List.drop_drop] at this
          rw [A,show ((xs.length:Int).toNat - lo.toNat)*Enc.sz α=xs.length*Enc.sz α - lo.toNat*Enc.sz α by rw [Nat.sub_mul]; simp]
          exact this
   refine ⟨_,hr,fun {N L a o x i k} Y ho hv U w=>?_⟩
   have c2:0≤lo∧lo≤(xs.length:Int):=AC
   simp [execOp,ho,Instr.sliceAt,Instr.slice,Instr.sliceBounds,Instr.sliceBound,Y.ev hv,Y.ev U,run_underlying T,asIntOf,c2,hs]
 · simp at hx
end Go.Proofs.YtdgpkmgnjdpieaaGreatDoor
set_option linter.unusedSimpArgs false
set_option linter.unusedVariables false
namespace Go.Proofs.YtdgpkmgnjdpieaaGreatDoor
open Go Go.RowKit
open Enc (rd ow)
section
variable {P:Program} {ops:Array Oper} {Q:Exit→Act→World→Prop} {rest:List Oper} {o:Oper} {a:Act} {w:World} {N:Nat} {L:List (Nat×Value)}
variable {X:List Nat} {w0:World} {M:List (List Nat×World)} {d:Nat}
def qh (s:ByteArray):Option (List U8):=if s.size≤1000000000 then some (s.data.toList.map λb=>(⟨(b.toNat:Int)⟩:U8)) else none
theorem ms {α:Type} [Flat α] {F:List Nat}:∀ (A:List α) (r:List Value),jr w F ((A.map Flat.e).flatten++r) A
 | [],_=>trivial
 | x::A,r=>by
  have hl:=Flat.len x
  refine ⟨⟨[],AD,rfl,?_⟩,?_⟩
  · show List.take (Flat.sz α) _=_
    rw [← hl]; simp
  · have:((List.map Flat.e (x::A)).flatten++r).drop (Enc.sz α)=(A.map Flat.e).flatten++r:=by
      show List.drop (Flat.sz α) _=_
      rw [← hl]; simp
    rw [this]
    exact ms A r
theorem vp {s:ByteArray} {l:List U8} (J:qh s=some l) {t T e:TypeId} (h1:P.underlying t=some .string) (h2:P.underlying T=some (.slice e)) (h3:P.underlying e=some (.int .u8)) (hM:St X w0 w M) (E:K N L a) {x:Operand}
    (hg:gd L ops o.guard=some true) (hd:o.dst=some d) (hN:Nat.blt d N=true)
    (ho:o.op=.convert t T x) (hv:ev L x=some (.string s))
    (h:∀ g w' a v,K N ((d,v)::L) a→St X w0 w' (([g],w')::M)→Ext [] w w'→rd w' [g] [v] l→wpList P ops Q rest a w'):wpList P ops Q (o::rest) a w:=by
 unfold qh at J
 split at J
 · rename_i Z
   have hl:=Option.some.inj J
   have hr:=run_bytes_of_string (P:=P) w t T e s h1 h2 h3
   have U:Ext [] w (w.drew.alloc (.cells (bytesRow s (grownCap w s.size 0 e)) e ((bytesRow s (grownCap w s.size 0 e)).size,(bytesRow s (grownCap w s.size 0 e)).size+1))):=(Ext.drew w).trans (Ext.alloc _ _) AD
   have A:=heap_alloc_new w.drew (.cells (bytesRow s (grownCap w s.size 0 e)) e ((bytesRow s (grownCap w s.size 0 e)).size,(bytesRow s (grownCap w s.size 0 e)).size+1))
   have D:l.length=s.size:=by rw [← hl,List.length_map]; exact Array.length_toList
   refine TZ E hg hd hN (v:=.slice (some ⟨w.heap.size,0,none⟩) s.size (grownCap w s.size 0 e)) (w':=w.drew.alloc (.cells (bytesRow s (grownCap w s.size 0 e)) e ((bytesRow s (grownCap w s.size 0 e)).size,(bytesRow s (grownCap w s.size 0 e)).size+1))) (by simp [execOp,ho,E.ev hv,hr]) λa E=>h w.heap.size _ a _ E (hM.new U [w.heap.size] (by
    intro b O
    rw [List.mem_singleton.1 O]
    exact ⟨Nat.le_refl _,Iv A⟩) AD) U ?_
   refine ⟨some ⟨w.heap.size,0,none⟩,grownCap w s.size 0 e,by rw [D],by rw [D]; exact grownCap_ge w s.size 0 e,grownCap_le_maxLen w _ 0 e (by simp only [maxLen]; omega),λb O=>by rw [List.mem_singleton.1 O]; exact Iv A,.inr ⟨_,0,_,e,_,rfl,AD,A,?_⟩⟩
   rw [List.drop_zero]
   have V:(bytesRow s (grownCap w s.size 0 e)).toList=(l.map Flat.e).flatten++List.replicate (grownCap w s.size 0 e - s.size) (.int .u8 0):=by
    rw [← hl]
    unfold bytesRow
    rw [Array.toList_append,Array.toList_map,Array.toList_replicate]
    congr 1
    rw [List.map_map]
    induction s.data.toList with
    | nil=>rfl
    | cons b r Y=>simp [Y,Flat.e]
   rw [V]
   exact ms l _
 · simp at J
theorem wN {α:Type} [Enc α] {g:Nat} {c1 c2:List Value} {e:TypeId} {x1 x2:α} {G1 G2:List Nat} (h:bx w g (c1++c2) e) (h1:ow w G1 c1 x1) (h2:ow w G2 c2 x2) (hn:(g::(G1++G2)).Nodup) :
    ow w (g::(G1++G2)) [.slice (some ⟨g,0,none⟩) 2 2] [x1,x2]:=by
 have A:=Enc.rd_sz (Enc.ow_rd h1)
 have D:=Enc.rd_sz (Enc.ow_rd h2)
 refine .inr ⟨g,0,2,_,e,[G1,G2],rfl,Nat.le_refl _,by simp [maxLen],h,by simp [A,D]; omega,?_,AD,hn⟩
 have E:(List.drop 0 (c1++c2).toArray.toList).take ([x1,x2].length*Enc.sz α)=c1++c2:=by
  simp only [List.drop_zero]
  exact List.take_of_length_le (by simp [A,D]; omega)
 rw [E]
 refine ⟨?_,?_,?_⟩
 · rw [← A,List.take_left]; exact h1
 · rw [← A,List.drop_left,A,← D,List.take_length]; exact h2
 · rw [← A,List.drop_left,A,← D,List.drop_length]; trivial
end
end Go.Proofs.YtdgpkmgnjdpieaaGreatDoor
set_option linter.unusedSimpArgs false
set_option linter.unusedVariables false
namespace Go.Proofs.YtdgpkmgnjdpieaaGreatDoor
open Go Go.RowKit
open Enc (rd ow)
section
variable {P:Program} {ops:Array Oper} {rest:List Oper} {o:Oper} {a:Act} {w w':World} {N:Nat} {L:List (Nat×Value)}
variable {X:List Nat} {w0:World} {M:List (List Nat×World)}
def cbx (w:World) (F:List Nat) (A D:Nat) (E O:TypeId) (g:Bool) (J:List ByteArray):Prop :=
 ∃ (v:Value) (G:List Nat),bx w A [.bool g] E∧bx w D [v] O∧F=[A]++([D]++G)∧ow w G [v] J∧F.Nodup
theorem cbx.nd {F:List Nat} {A D:Nat} {E O:TypeId} {g:Bool} {J:List ByteArray} (h:cbx w F A D E O g J):F.Nodup:=by
 obtain ⟨_,_,_,_,_,_,h⟩:=h
 exact h
theorem cbx.lt {F:List Nat} {E J:Nat} {O T:TypeId} {g:Bool} {Q:List ByteArray} (h:cbx w F E J O T g Q):∀ y∈F,y<w.heap.size:=by
 obtain ⟨v,G,V,D,rfl,U,_⟩:=h
 intro y A
 simp only [List.mem_append,List.mem_singleton] at A
 rcases A with rfl | rfl | A
 · exact Iv V
 · exact Iv D
 · exact Enc.rd_lt (Enc.ow_rd U) y A
theorem St.split3 {A F G:List Nat} {u:World} (h:St X w0 w ((A++(F++G),u)::M)):St X w0 w ((A,u)::(F,u)::(G,u)::M):=by
 have e:EC ((A,u)::(F,u)::(G,u)::M)=EC ((A++(F++G),u)::M):=by simp [EC]
 refine ⟨h.ext,?_,by rw [e]; exact h.lt,by rw [e]; exact h.lo,by rw [e]; exact h.nd⟩
 have J:=h.ok _ (List.mem_cons_self)
 intro p E
 simp only [List.mem_cons] at E
 rcases E with rfl | rfl | rfl | E
 · exact J.sub (λb D=>by simp [D])
 · exact J.sub (λb D=>by simp [D])
 · exact J.sub (λb D=>by simp [D])
 · exact h.ok p (by simp [E])
theorem cbx.start {F:List Nat} {A D:Nat} {E O:TypeId} {g:Bool} {J:List ByteArray} (h:cbx w0 F A D E O g J) :
    ∃ (v:Value) (G:List Nat),bx w0 A [.bool g] E∧bx w0 D [v] O∧ow w0 G [v] J∧St F w0 w0 [([A],w0),([D],w0),(G,w0)]:=by
 have hl:=h.lt
 have T:=h.nd
 obtain ⟨v,G,V,Q,rfl,U,_⟩:=h
 exact ⟨v,G,V,Q,U,(St.start1 w0 hl T).split3⟩
theorem cbx.fin {G:List Nat} {A D:Nat} {E O:TypeId} {g:Bool} {J:List ByteArray} {v:Value} (V:bx w A [.bool g] E) (Q:bx w D [v] O) (U:ow w G [v] J) (T:([A]++([D]++G)).Nodup):cbx w ([A]++([D]++G)) A D E O g J :=
 ⟨_,_,V,Q,rfl,U,T⟩
end
end Go.Proofs.YtdgpkmgnjdpieaaGreatDoor
