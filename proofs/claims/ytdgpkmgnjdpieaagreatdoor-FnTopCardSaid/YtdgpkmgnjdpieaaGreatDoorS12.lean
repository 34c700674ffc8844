/- own lemmas -/
import Derived.Test.YtdgpkmgnjdpieaaGreatDoorS15
import Derived.Lib.SlicesCompact
import Derived.Shelf.SlicesE.Delete
import Derived.Laws.IdiomStrings
import Derived.Laws.BytesArg
import Derived.Shelf.Strconv.Itoa3
import Derived.Lib.SmallJoins
import Derived.Lib.ItoaLen
import Derived.Shelf.Strconv.AtoiAll
import Derived.Shelf.Strconv.ErrVarAll
import Derived.WideLaws
import Derived.Shelf.Strings.OnBuilder
set_option linter.unusedSimpArgs false
set_option linter.unusedVariables false
namespace Go.Proofs.YtdgpkmgnjdpieaaGreatDoor
open Go Go.RowKit
open Enc (rd ow)
open Arg (argv)
open Ret (retv)
section
variable {P:Program} {ops:Array Oper} {Q:Exit→Act→World→Prop} {rest:List Oper} {o:Oper} {a:Act} {w:World} {N:Nat} {L:List (Nat×Value)}
variable {X:List Nat} {w0:World} {M:List (List Nat×World)} {d:Nat}
theorem wX {α:Type} [Enc α] {u:World} {F:List Nat} {v:Value} {xs:List α} (hf:rd u F [v] xs):∃ b:Bool,(b=true→xs=[]) ∧
    ∀ {P:Program} {N:Nat} {L:List (Nat×Value)} {a:Act} {o:Oper} {t O e:TypeId} {i j:Operand} {w:World},K N L a→P.underlying t=some (.slice e) →
     o.op=.binOp .eql t i j O→ev L i=some v→ev L j=some (.slice none 0 0)→(execOp a.eval o).run P w=.ok (.value (.bool b)) w:=by
 obtain ⟨A,cap,U,_,_,_,J⟩:=hf
 have:=(List.cons.inj U).1
 subst this
 have E:∀ {P:Program} {t e:TypeId} (w:World) (A:Option Addr) (n cap:Nat),P.underlying t=some (.slice e)→(Op.equal t (.slice A n cap) (.slice none 0 0)).run P w=.ok A.isNone w:=by
  intro P t e w A n cap D
  show (Op.equalIn (9999+1) t _ _).run P w=_
  generalize 9999=m
  cases A <;> simp [Op.equalIn,run_underlying D w]
 refine ⟨A.isNone,λV=>?_,fun {P N L a o t O e i j w} T D h hi Z=>?_⟩
 · rcases J with J | ⟨g,off,c,e,fr,rfl,_⟩
   · exact J
   · simp at V
 · have Y:(eqGuard .eql t i j (.slice A xs.length cap) (.slice none 0 0)).run P w=.ok () w:=by
     unfold eqGuard
     simp
   simp only [execOp,h,T.ev hi,T.ev Z,Sem.run_bind,Y,Result.andThen_ok,binOp,E w A _ _ D,Sem.run_pure]
theorem tt {u:World} {F:List Nat} {T:Option Addr} {cap:Nat} {A ys:List Int} {hi:Int} (h:ow u F [.slice T A.length cap] A) (E:RA A 0 hi=some ys) :
    ow u F [.slice T hi.toNat cap] ys∧hi.toNat≤A.length∧A.length≤cap∧0≤hi:=by
 unfold RA at E
 split at E
 · rename_i h0
   simp only [Option.some.injEq,Int.toNat_zero,List.drop_zero,Nat.sub_zero] at E
   subst E
   have hl:(A.take hi.toNat).length=hi.toNat:=by rw [List.length_take]; omega
   rcases h with ⟨J,rfl,rfl⟩ | ⟨g,off,U,c,e,Gs,J,h1,h2,h3,Z,Y,rfl,h6⟩
   · have:=(List.cons.inj J).1
     simp only [List.length_nil,Value.slice.injEq,true_and] at this
     obtain ⟨rfl,rfl⟩:=this
     have:hi.toNat=0:=by simp at h0; omega
     rw [this]
     exact ⟨.inl ⟨rfl,AD,rfl⟩,AD,AD,AC⟩
   · have:=(List.cons.inj J).1
     simp only [Value.slice.injEq,true_and] at this
     obtain ⟨rfl,rfl⟩:=this
     have D:Enc.sz Int=1:=rfl
     have hG:=MQ Y
     have O:=Yw Y
     rw [D,Nat.mul_one] at O Z
     refine ⟨.inr ⟨g,off,cap,c,e,(A.take hi.toNat).map λ_=>[],by rw [hl],AC,h2,h3,by rw [D,Nat.mul_one]; exact Z,?_,by rw [hG,Mm],h6⟩,AC,h1,AC⟩
     have e2:(((A.take hi.toNat).map (Flat.e (α:=Int))).flatten)=(A.take hi.toNat).map (Value.int .i64):=by
      generalize A.take hi.toNat=V
      induction V with
      | nil=>rfl
      | cons z V ih=>simp only [List.map_cons,List.flatten_cons,ih]; rfl
     have e3:(c.toList.drop off).take ((A.take hi.toNat).length*Enc.sz Int)=(A.take hi.toNat).map (Value.int .i64):=by
      rw [hl,D,Nat.mul_one,List.map_take,← O,List.take_take]
      congr 1
      omega
     rw [e3,← e2]
     exact WF _
 · simp at E
theorem u3 {u:World} {F:List Nat} {v:Value} {E ys:List Int} {hi:Int} {T:IntKind} (O:ow u F [v] E) (Y:RA E 0 hi=some ys) (A:K N L a) {t:TypeId} (D:TS P t 1) {x j:Operand}
    (hg:gd L ops o.guard=some true) (hd:o.dst=some d) (hN:Nat.blt d N=true)
    (ho:o.op=.slice t x none (some j) none) (hv:ev L x=some v) (hj:ev L j=some (.int T hi))
    (h:∀ J a,K N ((d,J)::L) a→ow u F [J] ys→wpList P ops Q rest a w):wpList P ops Q (o::rest) a w:=by
 obtain ⟨V,cap,rfl,_,_⟩:=ME (Enc.ow_rd O)
 obtain ⟨e,D,hs⟩:=D
 obtain ⟨U,_,_,_⟩:=tt O Y
 refine Ux A hg hd hN ?_ λa A=>h _ a A U
 have Z:0≤hi∧hi≤(cap:Int):=AC
 simp [execOp,ho,Instr.sliceAt,Instr.slice,Instr.sliceBounds,Instr.sliceBound,A.ev hv,A.ev hj,run_underlying D,asIntOf,Z,hs]
 intro _
 cases V <;> simp [Addr.add]
def Z1 (A:List Int) (lo:Int):List Int:=A.take lo.toNat++List.replicate (A.length - lo.toNat) 0
theorem p6 {A:List Int} {lo:Int} (h:A.length - lo.toNat=0):Z1 A lo=A:=by
 simp only [Z1,h,List.replicate_zero,List.append_nil]
 exact List.take_of_length_le AC
theorem yS {t Aa:Nat} (hT:TE P t 1 Aa [.int .i64 0]) (hM:St X w0 w M) (i:Nat) {u:World} {F:List Nat} {v v':Value} {A:List Int} (Ab:ow u F [v] A) {lo:Int} (hp:Part v lo.toNat v')
    (hK:K N L a) (hi:M[i]? = some (F,u)) {sd:Operand}
    (hg:gd L ops o.guard=some true) (hd:o.dst=none)
    (ho:o.op=.call { callee:=.builtin .clear,args:=#[sd],argTypes:=#[t] }) (hv1:ev L sd=some v')
    (h:∀ w' a,K N L a→Ext F w w'→St X w0 w' (M.set i (F,w'))→ow w' F [v] (Z1 A lo)→wpList P ops Q rest a w'):wpList P ops Q (o::rest) a w:=by
 obtain ⟨e,_,hu,Ad,⟨zv,hz,Am⟩,_,_⟩:=hT
 have Ah:=Enc.ow_agr Ab (hM.a i hi)
 have Ac:=hM.ndF i hi
 have Ag:=hM.ltF i hi
 have O:∀ {r:Value} {w':World},(execOp a.eval o).run P w=.ok (.value r) w'→Ext F w w'→St X w0 w' (M.set i (F,w'))→ow w' F [v] (Z1 A lo)→wpList P ops Q (o::rest) a w:=by
  intro r w' hr hE hS hO
  exact ct hK hg hr λ_ Ao=>by rw [Oper.upon_value,hd]; exact Ao _ _ (h _ _ hK hE hS hO)
 have E:∀ (ao:Option Addr) (n cap:Nat),v'=.slice ao n cap→n=0→n=A.length - lo.toNat→wpList P ops Q (o::rest) a w:=by
  intro ao n cap D hm hn
  subst D; subst hm
  refine O (r:=.tuple #[]) (w':=w) ?_ (Ext.refl _ _) (hM.mut i hi (Ext.refl _ _) F (λb hb=>⟨.inl hb,Ag b hb⟩) Ac) (by rw [p6 hn.symm]; exact Ah)
  cases ao <;> simp [execOp,ho,resolve,invoke,builtin,hK.ev hv1,Builtin.clear_,run_underlying hu]
 rcases Ah with ⟨hv,rfl,rfl⟩ | ⟨g,off,cap,c,et,Gs,hv,h1,h2,h3,h4,h5,rfl,h6⟩
 · have:=(List.cons.inj hv).1
   subst this
   obtain ⟨V,D,_⟩:=hp none 0 0 rfl
   exact E V _ _ D AD AD
 · have:=(List.cons.inj hv).1
   subst this
   obtain ⟨V,D,An⟩:=hp _ _ _ rfl
   by_cases hm:A.length - lo.toNat=0
   · exact E V _ _ D hm rfl
   · subst D
     have Al:lo.toNat<A.length:=AC
     have:=An g off Al rfl
     subst this
     have Y:Enc.sz Int=1:=rfl
     have hG:=MQ h5
     have hc:=Yw h5
     rw [Y,Nat.mul_one] at hc h4
     have hb:bx w g c.toList et:=h3
     have Ai:(List.replicate (A.length - lo.toNat) (Value.int .i64 0)).length=A.length - lo.toNat:=AD
     have U:=run_storeCells_at P g (off+lo.toNat) et (List.replicate (A.length - lo.toNat) (Value.int .i64 0)) 0 c w h3 AJ (by intro u hu; rw [List.eq_of_mem_replicate hu]; rfl)
     simp only [Nat.add_zero] at U
     have T:(zeroValue e).run P w=.ok zv w:=by simp [zeroValue,typeInfo,Ad,hz]
     have J:(Builtin.zeroCells zv.cells (A.length - lo.toNat)).toList=List.replicate (A.length - lo.toNat) (Value.int .i64 0):=by
      rw [Am]
      simp [Builtin.zeroCells]
      apply List.ext_getElem
      · simp
      · intro i h1 h2
        simp [Nat.mod_one]
     have Af:(execOp a.eval o).run P w=.ok (.value (.tuple #[])) (w.setRow g (BF c.toList (off+lo.toNat) (List.replicate (A.length - lo.toNat) (Value.int .i64 0))).toArray):=by
      obtain ⟨m,Ae⟩:∃ m,A.length - lo.toNat=m+1:=⟨A.length - lo.toNat - 1,AC⟩
      rw [Ae] at J U Ai ⊢
      simp only [execOp,ho,resolve,invoke,builtin,hK.ev hv1,Builtin.clear_]
      simp [run_underlying hu,hK.ev hv1,T,Builtin.clear_]
      rw [Ae,J,U]
      simp [BF]
     have hE:Ext (g::Gs.flatten) w (w.setRow g (BF c.toList (off+lo.toNat) (List.replicate (A.length - lo.toNat) (Value.int .i64 0))).toArray):=(Ext.setRow _ _).wk AD
     have hS:=hM.mut i hi hE (g::Gs.flatten) (λb hb=>⟨.inl hb,Nat.lt_of_lt_of_le (Ag b hb) hE.size⟩) Ac
     refine O Af hE hS ?_
     have Ak:(BF c.toList (off+lo.toNat) (List.replicate (A.length - lo.toNat) (Value.int .i64 0))).length=c.size:=by rw [S2 _ _ _ AJ]; simp
     have Z:(Z1 A lo).length=A.length:=by simp only [Z1,List.length_append,List.length_take,List.length_replicate]; omega
     refine .inr ⟨g,off,cap,_,et,(Z1 A lo).map λ_=>[],by rw [Z],by rw [Z]; exact h1,h2,hb.store _,?_,?_,by rw [hG,Mm],h6⟩
     · rw [List.size_toArray,Ak,Y,Nat.mul_one]; exact h4
     · have e2:((Z1 A lo).map (Flat.e (α:=Int))).flatten=(Z1 A lo).map (Value.int .i64):=by
         generalize Z1 A lo=zs
         induction zs with
         | nil=>rfl
         | cons z zs ih=>simp only [List.map_cons,List.flatten_cons,ih]; rfl
       have Aj:(((BF c.toList (off+lo.toNat) (List.replicate (A.length - lo.toNat) (Value.int .i64 0))).toArray.toList.drop off).take ((Z1 A lo).length*Enc.sz Int))=((Z1 A lo).map Flat.e).flatten:=by
        rw [e2,Y,Nat.mul_one,Z]
        rw [show ∀ l:List Value,l.toArray.toList=l from λ_=>rfl,Zi _ _ _ _ AJ,Ze _ _ _ _ AJ AJ,hc]
        simp only [BF,Z1,List.map_append,List.map_take,List.map_replicate,List.length_replicate]
        rw [List.drop_of_length_le AJ]
        simp
       rw [Aj]
       exact WF _
end
end Go.Proofs.YtdgpkmgnjdpieaaGreatDoor
set_option linter.unusedSimpArgs false
set_option linter.unusedVariables false
namespace Go.Proofs.YtdgpkmgnjdpieaaGreatDoor
open Go Go.RowKit
open Enc (rd ow)
open Arg (argv)
open Ret (retv)
def uZ (A:List Int):Option (List Int):=if A.length<4611686018427387904 then some (Lib.compact A) else none
theorem gn (A:List Int):(Lib.compact A).length≤A.length:=by
 unfold Lib.compact Lib.compactUpTo
 rw [List.length_map]
 exact Nat.le_trans (List.length_filter_le _ _) AD
theorem j6 {P:Program} {E:Nat}
    (hs:∀ (A off cap:Nat) (D:List Int) (w:World),Go.Sort.Holds (Value.int .i64) w A off D.toArray→D.length≤9223372036854775807→D.length≤cap →
     Calls P E #[.slice (some ⟨A,off,none⟩) D.length cap] w λe w'=>e=.returned (.slice (some ⟨A,off,none⟩) (Lib.compact D).length cap) ∧
      ∃ q,w'=Go.Sort.putRow (Value.int .i64) (Go.Sort.ahead w q) A off (Lib.compact D++List.replicate (D.length - (Lib.compact D).length) 0).toArray)
    (hn:∀ (p:Option Addr) (cap:Nat) (w:World),Calls P E #[.slice p 0 cap] w λe w'=>e=.returned (.slice p 0 cap)∧w'=w)
    {w0:World} (xs:List Int) {v:Value} {F:List Nat} (h:ow w0 F [v] xs) {r:List Int} (hr:uZ xs=some r) :
    Calls P E #[v] w0 λe w=>∃ (V:Value) (G0:List Nat),e=.returned V∧Ext F w0 w∧ow w G0 [V] r∧(∀ b∈G0,b∈F∨w0.heap.size≤b):=by
 unfold uZ at hr
 split at hr
 · rename_i Z
   simp only [Option.some.injEq] at hr
   subst hr
   rcases h with ⟨M,rfl,rfl⟩ | ⟨g,off,cap,c,e,Gs,M,U,h2,T,h4,Y,rfl,h6⟩
   · have:=(List.cons.inj M).1
     subst this
     refine (hn none 0 w0).mono λe w ⟨N,O⟩=>?_
     subst O
     refine ⟨_,[],N,Ext.refl _ _,.inl ⟨rfl,?_,rfl⟩,AD⟩
     exact List.eq_nil_of_length_eq_zero (Nat.le_zero.1 (gn []))
   · have:=(List.cons.inj M).1
     subst this
     have hl:=gn xs
     refine (hs g off cap xs w0 (mH (cap:=cap) T Y) AC U).mono λ_ w ⟨N,q,O⟩=>?_
     have L:(Lib.compact xs++List.replicate (xs.length - (Lib.compact xs).length) 0).length=xs.length:=AJ
     have Q:w=Go.Sort.grow (Go.Sort.putRow (Value.int .i64) (Go.Sort.ahead w0 q) g off (Lib.compact xs++List.replicate (xs.length - (Lib.compact xs).length) 0).toArray) #[]:=by
      rw [show ∀ w:World,Go.Sort.grow w #[]=w from λw=>by cases w; simp [Go.Sort.grow]]
      exact O
     obtain ⟨hE,hO⟩:=jx L U h2 T h4 Y h6 Q
     obtain ⟨J,_⟩:=tt (hi:=((Lib.compact xs).length:Int)) (ys:=Lib.compact xs) hO (by
      unfold RA
      rw [if_pos ⟨AC,AC,by rw [L]; omega⟩]
      simp)
     rw [Int.toNat_natCast] at J
     exact ⟨_,_,N,hE,J,λb hb=>.inl hb⟩
 · cases hr
end Go.Proofs.YtdgpkmgnjdpieaaGreatDoor
set_option linter.unusedSimpArgs false
set_option linter.unusedVariables false
namespace Go.Proofs.YtdgpkmgnjdpieaaGreatDoor
open Go Go.RowKit
open Enc (rd ow)
section
variable {α:Type} [Enc α]
def tL (w:World) (F:List Nat) (v:Value) (A:List α) (k:Int):Prop :=
 0≤k∧((v=.slice none 0 0∧A=[]∧F=[])∨∃ g off cap c e Gs,v=.slice (some ⟨g,off,none⟩) A.length cap∧A.length≤cap∧cap≤maxLen∧w.heap[g]? = some (.cells c e (0,0)) ∧
  off+cap*Enc.sz α≤c.size∧ah w Gs (((c.toList.drop off).take (A.length*Enc.sz α)).drop (k.toNat*Enc.sz α)) (A.drop k.toNat)∧F=g::Gs.flatten∧F.Nodup)
theorem xC {w:World} {F:List Nat} {v:Value} {J:List α} (h:ow w F [v] J):tL w F v J 0:=by
 refine ⟨Int.le_refl _,?_⟩
 rcases h with ⟨D,E,A⟩ | ⟨g,off,cap,c,e,Gs,O,D,E,A,V,U,T,Y⟩
 · exact .inl ⟨(List.cons.inj D).1,E,A⟩
 · exact .inr ⟨g,off,cap,c,e,Gs,(List.cons.inj O).1,D,E,A,V,by simpa using U,T,Y⟩
theorem uL {u w:World} {F:List Nat} {v:Value} {A:List α} {k:Int} (h:tL u F v A k) (D:Agr F u w):tL w F v A k:=by
 obtain ⟨U,h⟩:=h
 refine ⟨U,?_⟩
 rcases h with h | ⟨g,off,cap,c,e,Gs,rfl,J,T,E,Z,Y,rfl,V⟩
 · exact .inl h
 · exact .inr ⟨g,off,cap,c,e,Gs,rfl,J,T,(D g AD).trans E,Z,YQ (D.sub (λb O=>List.mem_cons_of_mem _ O)) Y,rfl,V⟩
theorem qq {w:World} {F:List Nat} {v:Value} {A:List α} {k:Int} (h:tL w F v A k):∃ D cap,v=.slice D A.length cap∧(A=[]∨∃ g off,D=some ⟨g,off,none⟩):=by
 obtain ⟨_,h⟩:=h
 rcases h with ⟨rfl,rfl,_⟩ | ⟨g,off,cap,c,e,Gs,rfl,_⟩
 · exact ⟨none,0,rfl,.inl rfl⟩
 · exact ⟨_,cap,rfl,.inr ⟨g,off,rfl⟩⟩
theorem ve {w:World} {F:List Nat} {v:Value} {E:List α} {k:Int} {x:α} (h:tL w F v E k) (hx:ix E k=some x) :
    ∃ A B cs,tL w A v E (AK (k+1))∧ow w B cs x∧PtAt w (Kh v (Enc.sz α) k.toNat) cs∧F.Perm (A++B):=by
 obtain ⟨_,_,J⟩:=AG hx
 obtain ⟨_,h⟩:=h
 rcases h with ⟨rfl,rfl,rfl⟩ | ⟨g,off,cap,c,e,Gs,rfl,h1,Y,V,h4,O,rfl,h6⟩
 · simp at J
 · have hk:k.toNat<E.length:=(List.getElem?_eq_some_iff.1 J).1
   have T:E[k.toNat]=x:=(List.getElem?_eq_some_iff.1 J).2
   have Z:AK (k+1)=k+1:=by
    simp only [maxLen] at Y
    simp only [AK,IntKind.wrap_i64]
    omega
   rw [List.drop_eq_getElem_cons hk] at O
   cases Gs with
   | nil=>exact O.elim
   | cons G Gs =>
    obtain ⟨U,h8⟩:=O
    rw [T] at U
    have hn:(k+1).toNat=k.toNat+1:=AC
    have hm:(k.toNat+1)*Enc.sz α≤E.length*Enc.sz α:=Nat.mul_le_mul_right _ AC
    rw [Nat.add_mul,Nat.one_mul] at hm
    have D:(g::(G::Gs).flatten).Perm ((g::Gs.flatten)++G):=by
     rw [List.flatten_cons,List.cons_append]
     exact List.Perm.cons _ List.perm_append_comm
    refine ⟨g::Gs.flatten,G,_,⟨by rw [Z]; omega,.inr ⟨g,off,cap,c,e,Gs,rfl,h1,Y,V,h4,?_,rfl,?_⟩⟩,U,?_,D⟩
    · rw [Z,hn,Nat.add_mul,Nat.one_mul,← List.drop_drop]
      exact h8
    · exact (List.nodup_append.1 (D.nodup_iff.1 h6)).1
    · have hl:=Enc.rd_sz (Enc.ow_rd U)
      simp only [Kh,GS]
      refine ⟨g,_,c,e,_,rfl,V,?_⟩
      rw [hl,List.drop_take,List.take_take,List.drop_drop]
      congr 1
      omega
end
section
variable {P:Program} {ops:Array Oper} {Q:Exit→Act→World→Prop} {rest:List Oper} {o:Oper} {a:Act} {w:World} {N:Nat} {L:List (Nat×Value)}
variable {X:List Nat} {w0:World} {M:List (List Nat×World)} {d:Nat}
theorem wZ {α:Type} [Enc α] {u:World} {F:List Nat} {v:Value} {xs:List α} {k0:Int} (hf:tL u F v xs k0) {n:Int} {y:α} (hx:ix xs n=some y) (hK:K N L a) {t:TypeId} (A:TS P t (Enc.sz α)) {x i:Operand} {k:IntKind}
    (ho:o.op=.indexAddr t x i) (hv:ev L x=some v) (hi:ev L i=some (.int k n)) :
    (execOp a.eval o).run P w=.ok (.value (.pointer (some (Kh v (Enc.sz α) n.toNat)))) w:=by
 obtain ⟨E,J,D⟩:=AG hx
 obtain ⟨e,A,O⟩:=A
 obtain ⟨_,cap,rfl,T⟩:=qq hf
 rcases T with rfl | ⟨g,off,rfl⟩
 · simp at D
 · simp [execOp,ho,hK.ev hv,hK.ev hi,Instr.indexAt,asIntOf,run_underlying A,O,E,J,Kh]
theorem St.popP {α:Type} [Enc α] (hM:St X w0 w M) (k:Nat) {F:List Nat} {u:World} (hk:M[k]? = some (F,u)) {v:Value} {xs:List α} {n:Int} (h:tL u F v xs n) {x:α} (hx:ix xs n=some x)
    {M':List (List Nat×World)} (hM':M.eraseIdx k=M') :
    ∃ A B cs,St X w0 w ((A,w)::(B,w)::M')∧tL w A v xs (AK (n+1))∧ow w B cs x∧PtAt w (Kh v (Enc.sz α) n.toNat) cs:=by
 subst hM'
 obtain ⟨A,B,cs,E,D,O,J⟩:=ve (uL h (hM.a k hk)) hx
 exact ⟨A,B,cs,(hM.toFront k hk).part J,E,D,O⟩
end
end Go.Proofs.YtdgpkmgnjdpieaaGreatDoor
set_option linter.unusedSimpArgs false
set_option linter.unusedVariables false
namespace Go.Proofs.YtdgpkmgnjdpieaaGreatDoor
open Go Go.RowKit
open Enc (rd ow)
section
variable {P:Program} {ops:Array Oper} {Q:Exit→Act→World→Prop} {rest:List Oper} {o:Oper} {a:Act} {w:World} {N:Nat} {L:List (Nat×Value)}
variable {X:List Nat} {w0:World} {M:List (List Nat×World)} {d:Nat} {S:World→Prop} {fuel:Nat} {listed:Array Bool} {z:Nat}
def RP (P:Program) (ops:Array Oper) (Q:Exit→Act→World→Prop) (S:World→Prop) (z:Nat):Nat→Array Bool→Act→World→Prop
 | 0,l,a,w=>Region.ready .any ops l=[]∧Q .normal a w
 | n+1,l,a,w=>(Region.ready .any ops l=[]→Q .normal a w) ∧
  ∀ i∈Region.ready .any ops l,wpOp P ops Q i (λA w'=>(i≠z→S w')∧RP P ops Q S z n (l.setIfInBounds i true) A w') a w
theorem mG:∀ (n:Nat) (l:Array Bool) (a:Act) (w:World),RP P ops Q S z n l a w→wpAny P .any ops Q n l a w
 | 0,_,_,_,h=>h
 | n+1,_,_,_,h=>⟨h.1,λi hi=>wpOp_mono (λA w' D=>mG n _ A w' D.2) (h.2 i hi)⟩
def ZV (ops:Array Oper) (z i:Nat):Bool:=match ops[z]? with
 | some o=>o.after.any λe=>Region.binds .any e&&e.on==i
 | none=>false
theorem vA {i:Nat} {Y:Oper} {v:Value} (hi:ops[i]? = some Y) (hz:ZV ops z i=true) (Z:∀ (j:Nat) (o:Oper) cs b,ops[j]? = some o→o.op≠.select cs b)
    (hQ:∀ c a w,Q (.panic c) (a.put Y.dst v) w→Q (.panic c) a w) :
    ∀ (n:Nat) (l:Array Bool) (a:Act) (w:World),
     (∀ j oj,ops[j]? = some oj→j≠i→l.getD j true=false→(∀ e∈oj.after,Region.binds .any e=true→e.on≠i)→Y.apart ops oj=true) →
     i∈Region.ready .any ops l→YieldsIf P ops S Y v a→S w→i≠z →
     RP P ops Q S z n (l.setIfInBounds i true) (a.put Y.dst v) w→RP P ops Q S z (n+1) l a w:=by
 intro n
 have D:∀ (l:Array Bool) (a:Act) (w:World),YieldsIf P ops S Y v a→S w→i≠z→∀ m,RP P ops Q S z m (l.setIfInBounds i true) (a.put Y.dst v) w →
     wpOp P ops Q i (λa' w'=>(i≠z→S w')∧RP P ops Q S z m (l.setIfInBounds i true) a' w') a w :=
  λl a w hy hS _ m H=>hy.wpOp hi hS ⟨λ_=>hS,H⟩
 induction n with
 | zero =>
  intro l a w _ hr hy hS U H
  refine ⟨λh=>(by rw [h] at hr; cases hr),λj hj=>?_⟩
  by_cases A:j=i
  · subst A; exact D l a w hy hS U 0 H
  · have:=ready_mono hj A
    rw [H.1] at this
    cases this
 | succ n ih =>
  intro l a w O hr hy hS U H
  refine ⟨λh=>(by rw [h] at hr; cases hr),λj hj=>?_⟩
  by_cases A:j=i
  · subst A; exact D l a w hy hS U _ H
  · have h1:=H.2 j (ready_mono hj A)
    obtain ⟨Aa,oj,T,Ad⟩:=mem_ready.1 hj
    have E:∀ e∈oj.after,Region.binds .any e=true→e.on≠i:=λe he hb J=>by
     have h1:=Ad e he hb
     have h0:=(mem_ready.1 hr).1
     rw [J] at h1
     rcases Nat.lt_or_ge i l.size with h' | h'
     · simp [h'] at h0 h1; rw [h0] at h1; cases h1
     · simp [Array.getElem?_eq_none h'] at h1
    have Ag:j≠z:=λe=>by
     subst e
     simp only [ZV,T,List.any_eq_true,Array.any_eq_true,Bool.and_eq_true,beq_iff_eq] at hz
     first
      | (obtain ⟨e,he,hb,J⟩:=hz; exact E e he hb J)
      | (obtain ⟨k,hk,hb,J⟩:=hz; exact E _ (Array.getElem_mem hk) hb J)
    have h2:=wpOp_putIf T (O j oj T A Aa E) (λcs b=>Z i Y cs b hi) (λcs b=>Z j oj cs b T) hQ hy h1
    have V:∀ k ok,ops[k]? = some ok→k≠i→(l.setIfInBounds j true).getD k true=false →
        (∀ e∈ok.after,Region.binds .any e=true→e.on≠i)→Y.apart ops ok=true:=λk ok hk Af Ac Ae=>by
     refine O k ok hk Af ?_ Ae
     by_cases Ab:j=k
     · subst Ab; exact Aa
     · rw [getD_set_ne true Ab] at Ac; exact Ac
    refine wpOp_mono (λa' w' h3=>⟨h3.2.1,ih (l.setIfInBounds j true) a' w' V (ready_mono hr (Ne.symm A)) h3.1 (h3.2.1 Ag) U ?_⟩) h2
    rw [Array.setIfInBounds_comm _ _ A]
    exact h3.2.2
theorem zU {D:Nat} {l:List Oper} (Z:List Nat) (z:Nat) {n:Nat} (O:P.follows .mixedOrders=true) (J:St X w0 w M) (E:l.length=n)
    (h:∀ A,St X w0 A M→RP P l.toArray Q (Ext Z A) z n (List.replicate n false).toArray a A):(Code.region D l.toArray true).wp P Q a w:=by
 refine wp_region_any O (mG _ _ _ _ (S:=Ext Z w.drew) (z:=z) ?_)
 have:=h w.drew (J.step (Ext.drew w))
 subst E
 simpa using this
theorem s6 (E:K N L a) (i:Nat) {v:Value} (hi:ops[i]? = some o) (D:(ZV ops z i&&!(Nat.beq i z))=true) (J:Region.noSelect ops=true) (T:Region.free .any ops listed i=true) (O:(Region.ready .any ops listed).contains i=true)
    (hg:gd L ops o.guard=some true) (hd:o.dst=some d) (hN:Nat.blt d N=true) (hS:S w) (hQ:∀ c a w,Q (.panic c) (a.put o.dst v) w→Q (.panic c) a w)
    (hy:∀ w,S w→(execOp a.eval o).run P w=.ok (.value v) w) (h:∀ a,K N ((d,v)::L) a→RP P ops Q S z fuel (listed.setIfInBounds i true) a w):RP P ops Q S z (fuel+1) listed a w:=by
 simp only [Bool.and_eq_true,Bool.not_eq_true'] at D
 have A:i≠z:=λe=>by subst e; simp at D
 exact vA hi D.1 (Region.noSelect_spec J) hQ fuel listed a w (Region.free_spec hi T) (by simpa using O) (.inl ⟨E.wanted hg,hy⟩) hS A (by rw [hd]; exact h _ (E.put d hN v))
theorem xi (A:K N L a) (i:Nat) {v:Value} (hi:ops[i]? = some o) (O:(ZV ops z i&&!(Nat.beq i z))=true) (D:Region.noSelect ops=true) (J:Region.free .any ops listed i=true) (E:(Region.ready .any ops listed).contains i=true)
    (hg:gd L ops o.guard=some true) (hd:o.dst=some d) (hN:Nat.blt d N=true) (hS:S w) (hQ:∀ c a w,Q (.panic c) (a.put o.dst v) w→Q (.panic c) a w)
    (hp:Ll L o.op=some v) (h:∀ a,K N ((d,v)::L) a→RP P ops Q S z fuel (listed.setIfInBounds i true) a w):RP P ops Q S z (fuel+1) listed a w :=
 s6 A i hi O D J E hg hd hN hS hQ (λw _=>aH A hp P w) h
theorem q6 {D:List Nat} (E:Region.ready .any ops listed=D) (A:D≠[])
    (h:∀ i∈D,wpOp P ops Q i (λJ w'=>(i≠z→S w')∧RP P ops Q S z fuel (listed.setIfInBounds i true) J w') a w):RP P ops Q S z (fuel+1) listed a w :=
 ⟨λO=>absurd (E ▸ O) A,E ▸ h⟩
theorem yQ (i:Nat) (E:Region.ready .any ops listed=[i]) (hi:ops[i]? = some o)
    (h:wpList P ops (Exit.then (λD w'=>(i≠z→S w')∧RP P ops Q S z fuel (listed.setIfInBounds i true) D w') Q) [o] a w):RP P ops Q S z (fuel+1) listed a w :=
 q6 E AD λj A=>by
  simp only [List.mem_singleton] at A
  subst A
  exact RX hi h
theorem y9 (i j:Nat) {D:Oper} (O:Region.ready .any ops listed=[i,j]) (hi:ops[i]? = some o) (J:ops[j]? = some D)
    (h:wpList P ops (Exit.then (λA w'=>(i≠z→S w')∧RP P ops Q S z fuel (listed.setIfInBounds i true) A w') Q) [o] a w)
    (h':wpList P ops (Exit.then (λA w'=>(j≠z→S w')∧RP P ops Q S z fuel (listed.setIfInBounds j true) A w') Q) [D] a w):RP P ops Q S z (fuel+1) listed a w :=
 q6 O AD λk E=>by
  simp only [List.mem_cons,List.not_mem_nil,or_false] at E
  rcases E with rfl | rfl
  · exact RX hi h
  · exact RX J h'
theorem tY (i j k:Nat) {E D:Oper} (T:Region.ready .any ops listed=[i,j,k]) (hi:ops[i]? = some o) (O:ops[j]? = some E) (U:ops[k]? = some D)
    (h:wpList P ops (Exit.then (λA w'=>(i≠z→S w')∧RP P ops Q S z fuel (listed.setIfInBounds i true) A w') Q) [o] a w)
    (h':wpList P ops (Exit.then (λA w'=>(j≠z→S w')∧RP P ops Q S z fuel (listed.setIfInBounds j true) A w') Q) [E] a w)
    (h'':wpList P ops (Exit.then (λA w'=>(k≠z→S w')∧RP P ops Q S z fuel (listed.setIfInBounds k true) A w') Q) [D] a w):RP P ops Q S z (fuel+1) listed a w :=
 q6 T AD λm J=>by
  simp only [List.mem_cons,List.not_mem_nil,or_false] at J
  rcases J with rfl | rfl | rfl
  · exact RX hi h
  · exact RX O h'
  · exact RX U h''
theorem XY (A:Region.ready .any ops listed=[]) (h:Q .normal a w):∀ {fuel:Nat},RP P ops Q S z fuel listed a w
 | 0=>⟨A,h⟩
 | _+1=>⟨λ_=>h,by rw [A]; simp⟩
theorem cN {F G:List Nat} {n:Nat} (O:F.Nodup) (D:G.Nodup) (E:∀ b∈F,b<n) (A:∀ b∈G,n≤b):(F++G).Nodup :=
 List.nodup_append.2 ⟨O,D,λa J b T e=>by have:=E a J; have:=A b T; omega⟩
theorem XF {α:Type} [Flat α] {w:World}:∀ (k:Nat) {Gs:List (List Nat)} {cells:List Value} {A:List α},ah w Gs cells A→k≤A.length→ah w (Gs.drop k) (cells.drop (k*Enc.sz α)) (A.drop k)
 | 0,Gs,cells,A,h,_=>by simpa using h
 | k+1,G::Gs,cells,x::A,⟨_,h⟩,hk=>by
  have:=XF k h (by simpa using hk)
  rw [List.drop_drop] at this
  simpa [Nat.add_mul,Nat.add_comm] using this
 | k+1,[],_,[],h,hk=>by simp at hk
 | k+1,[],_,_::_,h,_=>h.elim
 | k+1,_::_,_,[],h,_=>h.elim
theorem bz {α:Type} [Flat α] {w:World}:∀ {Gs:List (List Nat)} {cells:List Value} {A:List α},ah w Gs cells A→Gs.flatten=[]
 | [],_,[],_=>rfl
 | G::Gs,cells,x::A,⟨h,h'⟩=>by
  have D:G=[]:=h.1
  rw [List.flatten_cons,D,bz h']; rfl
 | [],_,_::_,h=>h.elim
 | _::_,_,[],h=>h.elim
theorem cX {α:Type} [Flat α] {u:World} {F:List Nat} {v:Value} {xs ys:List α} {lo:Int} {k:IntKind} (hf:ow u F [v] xs) (hx:RA xs lo xs.length=some ys) (T:K N L a) {t:TypeId} (Y:TS P t (Enc.sz α)) {x i:Operand}
    (hg:gd L ops o.guard=some true) (hd:o.dst=some d) (hN:Nat.blt d N=true)
    (ho:o.op=.slice t x (some i) none none) (hv:ev L x=some v) (hi':ev L i=some (.int k lo))
    (h:∀ v' a,K N ((d,v')::L) a→ow u F [v'] ys→wpList P ops Q rest a w):wpList P ops Q (o::rest) a w:=by
 obtain ⟨ao,cap,rfl,_,_⟩:=ME (Enc.ow_rd hf)
 obtain ⟨e,Y,hs⟩:=Y
 have Ab:=hx
 unfold RA at hx
 split at hx
 · rename_i h0
   simp only [Option.some.injEq] at hx
   have hr:ow u F [.slice (if cap=lo.toNat then ao else ao.map (·.add (lo.toNat*Enc.sz α))) ((xs.length:Int).toNat - lo.toNat) (cap - lo.toNat)] ys:=by
    subst hx
    rcases hf with ⟨U,rfl,rfl⟩ | ⟨g,off,Aa,c,e',Gs,U,e1,e2,e3,e4,V,rfl,e6⟩
    · simp only [List.cons.injEq,Value.slice.injEq,and_true] at U
      obtain ⟨rfl,_,rfl⟩:=U
      refine .inl ⟨?_,AD,rfl⟩
      simp
    · simp only [List.cons.injEq,Value.slice.injEq,and_true,true_and] at U
      obtain ⟨rfl,rfl⟩:=U
      have O:((xs.drop lo.toNat).take ((xs.length:Int).toNat - lo.toNat))=xs.drop lo.toNat:=by
       apply List.take_of_length_le; simp
      rw [O]
      have A:(xs.drop lo.toNat).length=(xs.length:Int).toNat - lo.toNat:=AD
      have D:lo.toNat≤xs.length:=AC
      have J:(Gs.drop lo.toNat).flatten=[]:=bz (XF lo.toNat V D)
      have E:Gs.flatten=[]:=bz V
      by_cases Z:cap=lo.toNat
      · refine .inr ⟨g,off,cap - lo.toNat,c,e',Gs.drop lo.toNat,?_,by rw [A]; omega,AC,e3,?_,?_,by rw [J,E],e6⟩
        · rw [if_pos Z,A]
        · rw [Nat.sub_mul]; omega
        · have hz:xs.drop lo.toNat=[]:=List.drop_of_length_le AC
          have:=XF lo.toNat V D
          rw [hz] at this ⊢
          rw [List.drop_take,show xs.length*Enc.sz α - lo.toNat*Enc.sz α=0 by rw [show xs.length=lo.toNat by omega]; simp] at this
          simpa using this
      · refine .inr ⟨g,off+lo.toNat*Enc.sz α,cap - lo.toNat,c,e',Gs.drop lo.toNat,?_,by rw [A]; omega,AC,e3,?_,?_,by rw [J,E],e6⟩
        · rw [if_neg Z,A]; simp [GS]
        · have:lo.toNat*Enc.sz α≤cap*Enc.sz α:=Nat.mul_le_mul_right _ AC
          rw [Nat.sub_mul]; omega
        · have:=XF lo.toNat V D
          rw [List.drop_take,List.drop_drop] at this
          rw [A,show ((xs.length:Int).toNat - lo.toNat)*Enc.sz α=xs.length*Enc.sz α - lo.toNat*Enc.sz α by rw [Nat.sub_mul]; simp]
          exact this
   refine Ux T hg hd hN ?_ λa T=>h _ a T hr
   have c2:0≤lo∧lo≤(xs.length:Int):=AC
   simp [execOp,ho,Instr.sliceAt,Instr.slice,Instr.sliceBounds,Instr.sliceBound,T.ev hv,T.ev hi',run_underlying Y,asIntOf,c2,hs]
 · simp at hx
end
end Go.Proofs.YtdgpkmgnjdpieaaGreatDoor
set_option linter.unusedSimpArgs false
set_option linter.unusedVariables false
namespace Go.Proofs.YtdgpkmgnjdpieaaGreatDoor
open Go Go.RowKit
open Enc (rd ow)
open Arg (argv)
open Ret (retv)
section
variable {β:Type} [Enc β] {w w0:World}
end
end Go.Proofs.YtdgpkmgnjdpieaaGreatDoor
set_option linter.unusedSimpArgs false
set_option linter.unusedVariables false
namespace Go.Proofs.YtdgpkmgnjdpieaaGreatDoor
open Go Go.RowKit
open Enc (rd ow)
def Win (sz:Nat) (v:Value) (lo m:Nat) (E:Value):Prop:=∃ A D,E=.slice A m D∧∀ g off n cap,v=.slice (some ⟨g,off,none⟩) n cap→0<m→A=some ⟨g,off+lo*sz,none⟩
section
variable {α:Type} [Enc α]
end
section
variable {P:Program} {ops:Array Oper} {Q:Exit→Act→World→Prop} {rest:List Oper} {o:Oper} {a:Act} {w:World} {N:Nat} {L:List (Nat×Value)}
variable {X:List Nat} {w0:World} {M:List (List Nat×World)} {d:Nat}
theorem St.tail {p:List Nat×World} (h:St X w0 w (p::M)):St X w0 w M:=by
 have D:∀ b∈EC M,b∈EC (p::M):=λb A=>by simp only [EC,List.flatMap_cons]; exact List.mem_append_right _ A
 refine ⟨h.ext,λq E=>h.ok q (List.mem_cons_of_mem _ E),λb A=>h.lt b (D b A),λb A=>h.lo b (D b A),?_⟩
 have:=h.nd
 simp only [EC,List.flatMap_cons] at this
 exact (List.nodup_append.1 this).2.1
theorem eM {α:Type} [Enc α] {u:World} {F:List Nat} {v:Value} {xs ys:List α} {lo:Int} (hf:rd u F [v] xs) (hx:RA xs lo xs.length=some ys) {t:TypeId} (D:TS P t (Enc.sz α)) :
    ∃ A,rd u F [A] ys∧Win (Enc.sz α) v lo.toNat ys.length A∧∀ {N:Nat} {L:List (Nat×Value)} {a:Act} {o:Oper} {x i:Operand} {k:IntKind},K N L a→o.op=.slice t x (some i) none none→ev L x=some v→ev L i=some (.int k lo)→∀ w:World,(execOp a.eval o).run P w=.ok (.value A) w:=by
 obtain ⟨_,cap,rfl,_,_⟩:=ME hf
 obtain ⟨e,D,hs⟩:=D
 have T:=Zb hf hx
 have Y:=hx
 unfold RA at hx
 split at hx
 · rename_i h0
   have J:ys.length=(xs.length:Int).toNat - lo.toNat:=by
    simp only [Option.some.injEq] at hx
    subst hx; simp
   refine ⟨_,by simpa using T,?_,?_⟩
   · rw [J]
     refine ⟨_,_,rfl,λg off n _ h _=>?_⟩
     injection h with e1 e2 V
     subst e1; subst V
     rw [if_neg AC]
     simp only [Option.map_some,Addr.add]
     by_cases hl:lo.toNat*Enc.sz α=0 <;> simp [hl]
   · intro N L a o x i k O ho Z E w
     have U:0≤lo∧lo≤(xs.length:Int):=AC
     simp [execOp,ho,Instr.sliceAt,Instr.slice,Instr.sliceBounds,Instr.sliceBound,O.ev Z,O.ev E,run_underlying D,asIntOf,U,hs]
 · simp at hx
theorem pU {α:Type} [Enc α] {u:World} {F:List Nat} {v:Value} {xs ys:List α} {hi:Int} (hf:rd u F [v] xs) (hx:RA xs 0 hi=some ys) {t:TypeId} (J:TS P t (Enc.sz α)) :
    ∃ E,rd u F [E] ys∧Win (Enc.sz α) v 0 ys.length E∧∀ {N:Nat} {L:List (Nat×Value)} {a:Act} {o:Oper} {x j:Operand} {k:IntKind},K N L a→o.op=.slice t x none (some j) none→ev L x=some v→ev L j=some (.int k hi)→∀ w:World,(execOp a.eval o).run P w=.ok (.value E) w:=by
 obtain ⟨A,cap,rfl,_,_⟩:=ME hf
 obtain ⟨e,J,hs⟩:=J
 have T:=Zb hf hx
 unfold RA at hx
 split at hx
 · rename_i h0
   have O:ys.length=hi.toNat:=by
    simp only [Option.some.injEq] at hx
    subst hx; simp; omega
   refine ⟨.slice (if cap=0 then A else A) hi.toNat cap,?_,?_,?_⟩
   · have e:(if cap=(0:Int).toNat then A else A.map (·.add ((0:Int).toNat*Enc.sz α)))=(if cap=0 then A else A):=by
       by_cases D:cap=0
       · simp [D]
       · cases A with
         | none=>simp [D]
         | some p=>simp [D,Addr.add]
     rw [e] at T
     simpa using T
   · rw [O]
     refine ⟨_,_,rfl,λg off n _ Y _=>?_⟩
     injection Y with e1 e2 e3
     subst e1
     simp
   · intro N L a o x j k U ho V h w
     have Z:0≤hi∧hi≤(cap:Int):=AC
     simp [execOp,ho,Instr.sliceAt,Instr.slice,Instr.sliceBounds,Instr.sliceBound,U.ev V,U.ev h,run_underlying J,asIntOf,Z,hs]
     intro _
     cases A <;> simp [Addr.add]
 · simp at hx
structure Raw (n:Nat) where
 l:List Value
 len:l.length=n
 one:∀ c∈l,c.oneCell'=true
instance (n:Nat):Flat (Raw n):=⟨n,Raw.l,Raw.len,Raw.one⟩
end
end Go.Proofs.YtdgpkmgnjdpieaaGreatDoor
set_option linter.unusedSimpArgs false
set_option linter.unusedVariables false
namespace Go.Proofs.YtdgpkmgnjdpieaaGreatDoor
open Go Go.RowKit
open Enc (rd ow)
section
variable {P:Program} {ops:Array Oper} {Q:Exit→Act→World→Prop} {rest:List Oper} {o o1 o2:Oper} {a:Act} {w w':World} {N:Nat} {L:List (Nat×Value)}
variable {X:List Nat} {w0:World} {M:List (List Nat×World)} {d d':Nat} {S:World→Prop} {fuel:Nat} {listed:Array Bool}
variable {α:Type} [Enc α] {F:List Nat} {cs:List Value} {x:α} {u:World}
theorem St.r (h:St [] w0 w M) (A:rd w0 F cs x):rd w F cs x:=Enc.rd_agr A (h.a00 (Enc.rd_lt A))
theorem St.r1 (h:St X w0 w M) (A:rd w0 F cs x) (D:∀ b∈F,b∉X):rd w F cs x:=Enc.rd_agr A (h.a0 (Enc.rd_lt A) D)
theorem St.q (h:St X w0 w M) (A:ow u F cs x) (i:Nat) (hi:M[i]? = some (F,u)):rd w F cs x:=Enc.rd_agr (Enc.ow_rd A) (h.a i hi)
theorem St.v (h:St X w0 w M) (A:ow u F cs x) (i:Nat) (hi:M[i]? = some (F,u)):ow w F cs x:=Enc.ow_agr A (h.a i hi)
theorem St.y (h:St X w0 w M) {b:Nat} {e:TypeId} (A:bx u b cs e) (i:Nat) (hi:M[i]? = some ([b],u)):bx w b cs e:=A.agr (h.a i hi) AD
theorem St.here (h:St X w0 w M) (A:∀ w,ow w F cs x):ow w F cs x:=A w
theorem St.mu (h:St X w0 w M) (i:Nat) (hi:M[i]? = some (F,u)) (D:Ext F w w'):St X w0 w' (M.set i (F,w')) :=
 h.mut i hi D F (λb A=>⟨.inl A,D.lt1 (h.ltF i hi) b A⟩) (h.ndF i hi)
theorem St.nw (h:St X w0 w M) (E:Ext [] w w') (hl:∀ b∈F,w.heap.size≤b) (A:ow w' F cs x):St X w0 w' ((F,w')::M) :=
 h.new E F (λb D=>⟨hl b D,Enc.rd_lt (Enc.ow_rd A) b D⟩) (Enc.ow_nd A)
theorem dT (E:K N L a) (i:Nat) {v:Value} (hi:ops[i]? = some o) (D:uH L ops N true o=some d) (A:S w)
    (hy:∀ w,S w→(execOp a.eval o).run P w=.ok (.value v) w) (h:∀ a,K N ((d,v)::L) a→wpAnyH P .any ops Q S fuel (listed.setIfInBounds i true) a w)
    (ho:ws ops listed i=true:=by kernel_rfl) (hQ:∀ c a w,Q (.panic c) (a.put o.dst v) w→Q (.panic c) a w:=by exact λ_ _ _=>id):wpAnyH P .any ops Q S (fuel+1) listed a w :=
 dt E i hi ho D A hQ hy h
theorem dM (is:List Nat) (n:Nat) {A:List (Nat×Value)} (O:is.length=n) (E:K N L a) (J:qF N ops is L=some A) (D:S w)
    (h:∀ a,K N A a→wpAnyH P .any ops Q S fuel (si listed is) a w) (ho:xb ops listed is=true:=by kernel_rfl)
    (hQ:∀ c (a:Act) d v w,Q (.panic c) (a.put (some d) v) w→Q (.panic c) a w:=by exact λ_ _ _ _ _=>id):wpAnyH P .any ops Q S (fuel+n) listed a w :=
 dN is n O E ho J D hQ h
theorem fC {β:Type} {p:β→Prop} {y:β} {l:List β} (D:p y) (A:∀ z∈l,p z):∀ z∈y::l,p z:=List.forall_mem_cons.2 ⟨D,A⟩
theorem fN {β:Type} {p:β→Prop}:∀ z∈([]:List β),p z:=List.forall_mem_nil _
abbrev pt (b:Nat):Value:=.pointer (some ⟨b,0,none⟩)
theorem ns {Z Y:List Nat} {D:World} {A:Act→World→Prop} (s:Ext Z D w) (e:Ext Y w w') (h:Ext Z D w'→A a w') (J:∀ y∈Y,y∈Z∨D.heap.size≤y:=by simp) :
    wpList P ops (Exit.then (λE w'=>Ext Z D w'∧A E w') Q) [] a w':=by
 have t:=s.trans e J
 exact wpList_nil ⟨t,h t⟩
theorem dD (h:Q .normal a w) (A:Region.ready .any ops listed=[]:=by kernel_rfl):wpAnyH P .any ops Q S fuel listed a w:=wN A h
theorem dF (A:K N L a) (i:Nat) {t:TypeId} {f off:Nat} (E:FA P t f off) {x:Operand} {p:Addr}
    (h1:(ops[i]?,o.op,ev L x,uH L ops N true o)=(some o,.fieldAddr t x f,some (.pointer (some p)),some d)) (hS:S w)
    (h:∀ a,K N ((d,.pointer (some (p.add off)))::L) a→wpAnyH P .any ops Q S fuel (listed.setIfInBounds i true) a w)
    (ho:ws ops listed i=true:=by kernel_rfl) (hQ:∀ c a v w,Q (.panic c) (a.put o.dst v) w→Q (.panic c) a w:=by exact λ_ _ _ _=>id):wpAnyH P .any ops Q S (fuel+1) listed a w:=by
 simp only [Prod.mk.injEq] at h1
 obtain ⟨T,J,D,O⟩:=h1
 exact dt A i T ho O hS (λc a w=>hQ c a _ w) (λw s=>M5 E A J D) h
theorem sT {t n:Nat} {cs':List Value} (hs:∀ w,(sizeOf t).run P w=.ok n w) (T:St X w0 w M) (i:Nat) {b:Nat} {e:TypeId} (O:bx u b cs e) (off:Nat) (hK:K N L a) {x y:Operand} {p:Addr} {v:Value}
    (h1:(M[i]?,gd L ops o.guard,o.dst,o.op,ev L x,p,ev L y,BF cs off v.cells.toList,v.cells.size,Nat.ble (off+n) cs.length)=(some ([b],u),some true,none,.store t x y,some (.pointer (some p)),(⟨b,0,none⟩:Addr).add off,some v,cs',n,true))
    (h2:v.cells.toList.all Value.oneCell'=true)
    (h:∀ w' a,K N L a→Ext [b] w w'→St X w0 w' (M.set i ([b],w'))→bx w' b cs' e→wpList P ops Q rest a w'):wpList P ops Q (o::rest) a w:=by
 simp only [Prod.mk.injEq] at h1
 obtain ⟨Y,V,Z,a4,E,J,U,a8,D,A⟩:=h1
 exact vW hs T i O off hK Y V Z a4 E J U a8 D A h2 h
theorem sB {t n sz A:Nat} {z:List Value} (V:TE P t sz A z) (J:St X w0 w M) (hK:K N L a) {ps:List (Nat×Operand)} {vs:List Value} {cs:List Value}
    (h1:(gd L ops o.guard,o.dst,Nat.blt d N,o.op,evs L (ps.map (·.2)),ps.map (·.1),vs.length,vs.flatMap λv=>v.cells.toList)=(some true,some d,true,.buildSlice t n ps.toArray,some vs,List.range vs.length,n,cs))
    (hvs:∀ v∈vs,v.cells.size=sz)
    (h:∀ g w' e a,K N ((d,.slice (some ⟨g,0,none⟩) n n)::L) a→St X w0 w' (([g],w')::M)→Ext [] w w'→bx w' g cs e→wpList P ops Q rest a w') (hsm:n*sz≤16777216:=by decide):wpList P ops Q (o::rest) a w:=by
 simp only [Prod.mk.injEq] at h1
 obtain ⟨U,T,Y,Z,D,E,O,a8⟩:=h1
 exact dY V J hK U T Y Z D E O hsm a8 hvs h
theorem en {f:FuncId} {fn:Func} {c:Code} {R:Ending→World→Prop} {vs:List Value}
    (hf:P.funcs[f]? = some fn) (hb:fn.body=some c) (hn:fn.ntmps=N) (hle:Nat.ble vs.length N=true)
    (h:∀ a,K N (m2 0 vs) a→St [] w w []→c.wp P (bodyPost P fn R) a w):Calls P f vs.toArray w R:=enter hf hb hn hle λa k=>h a k (St.start w)
theorem rL {t n:Nat} (U:TA P t n) (J:St X w0 w M) (i:Nat) {b:Nat} {e:TypeId} (E:bx u b cs e) (off:Nat) (Z:K N L a) {y:Operand} {p:Addr} {vs:List Value}
    (h1:(M[i]?,o.op,ev L y,p,(cs.drop off).take n,vs.length)=(some ([b],u),.load t y,some (.pointer (some p)),(⟨b,0,none⟩:Addr).add off,vs,n)) :
    (execOp a.eval o).run P w=.ok (.value (.agg vs.toArray)) w:=by
 simp only [Prod.mk.injEq] at h1
 obtain ⟨T,O,V,Y,A,D⟩:=h1
 exact vG U J i E off Z T O V Y A D
theorem St.sl (h:St X w0 w M) (is:List Nat) {M':List (List Nat×World)} (A:io M is=some M') (D:is.Nodup:=by decide):St X w0 w M':=h.sel is A D
theorem sC (J:K N L a) {f:FuncId} {D:List Operand} {vs:List Value} {R:Ending→World→Prop} {A:Array TypeId}
    (hcall:∀ (args:Array Value) (w:World),(callFunc f args).run P w=.ok (.enter f args) w)
    (h1:(gd L ops o.guard,o.dst,Nat.blt d N,o.op,evs L D)=(some true,some d,true,.call { callee:=.value (.func f),args:=D.toArray,argTypes:=A },some vs))
    (hc:Calls P f vs.toArray w R) (hR:∀ e w',R e w'→∃ v,e=.returned v∧∀ a,K N ((d,v)::L) a→wpList P ops Q rest a w'):wpList P ops Q (o::rest) a w:=by
 simp only [Prod.mk.injEq] at h1
 obtain ⟨V,O,E,T,U⟩:=h1
 exact kX J hcall V O E T U hc hR
theorem cC (J:K N L a) (O:St X w0 w M) {f:FuncId} {D:List Operand} {vs:List Value} {v:Value} {A:Array TypeId}
    (hcall:∀ (args:Array Value) (w:World),(callFunc f args).run P w=.ok (.enter f args) w)
    (h1:(o.op,evs L D,uH L ops N true o)=(.call { callee:=.value (.func f),args:=D.toArray,argTypes:=A },some vs,some d))
    (hc:Calls P f vs.toArray w λe w'=>e=.returned v∧Ext [] w w') (hR:∀ w',Ext [] w w'→∀ a,K N ((d,v)::L) a→St X w0 w' M→wpList P ops Q rest a w'):wpList P ops Q (o::rest) a w:=by
 simp only [Prod.mk.injEq] at h1
 obtain ⟨U,T,E⟩:=h1
 exact cE J O hcall E U T hc hR
end
end Go.Proofs.YtdgpkmgnjdpieaaGreatDoor
set_option linter.unusedSimpArgs false
set_option linter.unusedVariables false
namespace Go.Proofs.YtdgpkmgnjdpieaaGreatDoor
open Go Go.RowKit
open Enc (rd ow)
section
variable {P:Program} {ops:Array Oper} {rest:List Oper} {o:Oper} {a:Act} {w w':World} {N:Nat} {L:List (Nat×Value)}
variable {X:List Nat} {w0:World} {M:List (List Nat×World)}
def Zp (l:List U8):Option ByteArray:=if ∀ b∈l,0≤b.n∧b.n≤255 then some ⟨(l.map λb=>UInt8.ofNat b.n.toNat).toArray⟩ else none
theorem XE {l:List U8} {r:ByteArray} (Q:Zp l=some r) {F:List Nat} {v:Value} (Z:rd w F [v] l) (hK:K N L a) {t D e:TypeId} (U:P.underlying t=some (.slice e)) (Y:P.underlying e=some (.int .u8)) (T:P.underlying D=some .string) {x:Operand}
    (ho:o.op=.convert t D x) (hv:ev L x=some v):(execOp a.eval o).run P w=.ok (.value (.string r)) w:=by
 unfold Zp at Q
 split at Q
 · rename_i V
   simp only [Option.some.injEq] at Q
   subst Q
   have J:∀ (j:Nat) (b:U8),l[j]? = some b→PtAt w (Kh v 1 j) [.int .u8 b.n]:=λj b A=>(kQ Z A).1
   obtain ⟨h,cap,O,_,_,_,h4⟩:=Z
   simp only [List.cons.injEq,and_true] at O
   subst O
   rcases h4 with rfl | ⟨g,off,c,e',fr,rfl,_⟩
   · have E:(convert t D (.slice h (([]:List U8).length) cap)).run P w=.ok (.string ⟨#[]⟩) w:=by
       cases h with
       | none=>exact run_convert_bytes_nil w t e U Y 0 cap D T
       | some ad=>exact run_convert_bytes_back (P:=P) w t D e ad cap [] U Y T (λj A=>absurd A AD)
     simp [execOp,ho,hK.ev hv] at E ⊢
     simp [E]
   · have E:=run_convert_bytes_back (P:=P) w t D e ⟨g,off,none⟩ cap (l.map λb=>UInt8.ofNat b.n.toNat) U Y T (λj A=>by
       rw [List.length_map] at A
       have hp:=(J j l[j] (List.getElem?_eq_getElem A)).cell 0 _ rfl
       simp only [Kh,GS,Nat.mul_one,Nat.add_zero] at hp
       rw [GS,hp]
       simp only [List.getElem_map,Option.some.injEq,Value.int.injEq,true_and]
       have hb:=V l[j] (List.getElem_mem A)
       have:(UInt8.ofNat (l[j].n.toNat)).toNat=l[j].n.toNat:=by
        rw [UInt8.toNat_ofNat']
        omega
       rw [this]; omega)
     rw [List.length_map] at E
     simp [execOp,ho,hK.ev hv,E]
 · simp at Q
def Tb (P:Program) (w:World):Prop:=(∃ g,P.globalNamed "internal/strconv.uint64pow10" = some g) ∧ Lib.TabIs P w "internal/strconv.uint64pow10" .u64 Lib.pow10Tab
theorem Tb.ext (h:Tb P w) (D:Ext [] w w'):Tb P w':=by
 obtain ⟨⟨g,A⟩,h⟩:=h
 exact ⟨⟨g,A⟩,Go.Joins.tab_stays A h D.below (Nat.le_refl _)⟩
theorem St.tb (h:St [] w0 w M) (A:Tb P w0):Tb P w:=A.ext h.ext
def nQ (n:Int):Option ByteArray:=if -9223372036854775808≤n∧n≤9223372036854775807 then some ⟨(Lib.itoa n).toArray⟩ else none
theorem tc (w:World) (q:Nat) (os:Array Obj):Ext [] w (Go.Sort.grow (w.drewN q) os) :=
 ⟨rfl,rfl,rfl,by simp [Go.Sort.grow],λi hi _=>by
  show ((w.drewN q).heap++os)[i]? = _
  rw [Array.getElem?_append_left (by show i<w.heap.size; omega)]
  rfl⟩
theorem xl {f:FuncId} (E:∀ (n:Int),-9223372036854775808 ≤ n → n ≤ 9223372036854775807 → ∀ (w:World),Lib.TabIs P w "internal/strconv.uint64pow10" .u64 Lib.pow10Tab → Calls P f #[.int .i64 n] w λe w'=>e = .returned (.string ⟨(Lib.itoa n).toArray⟩) ∧ ∃ k os,w' = Go.Sort.grow (w.drewN k) os)
    (hT:Tb P w0) (n:Int) {r:ByteArray} (h:nQ n=some r):Calls P f #[.int .i64 n] w0 λe w=>e=.returned (.string r)∧Ext [] w0 w:=by
 unfold nQ at h
 split at h
 · rename_i A
   simp only [Option.some.injEq] at h
   subst h
   refine (E n A.1 A.2 w0 hT.2).mono λe w ⟨J,k,os,D⟩=>⟨J,?_⟩
   rw [D]
   exact tc _ _ _
 · simp at h
end
end Go.Proofs.YtdgpkmgnjdpieaaGreatDoor
set_option linter.unusedSimpArgs false
set_option linter.unusedVariables false
namespace Go.Proofs.YtdgpkmgnjdpieaaGreatDoor
open Go Go.RowKit
open Enc (rd ow)
section
variable {P:Program} {ops:Array Oper} {rest:List Oper} {o:Oper} {a:Act} {w w':World} {N:Nat} {L:List (Nat×Value)}
variable {X:List Nat} {w0:World} {M:List (List Nat×World)}
def obx (w:World) (F:List Nat) (b:Nat) (x:Request) (e:TypeId):Prop :=
 ∃ (E:Value) (J:List Nat) (Q:Value) (A:List Nat) (D:Value) (O:List Nat),bx w b [.int .i64 x.fc,.int .i64 x.fJ.fW,.int .i64 x.fJ.fD,.int .i64 x.fJ.fH,.int .i64 x.fJ.fQ,.int .i64 x.fR,E,Q,.int .i64 x.fP,D] e ∧
  F=[b]++(J++(A++O))∧ow w J [E] x.fT∧ow w A [Q] x.fG∧ow w O [D] x.fU∧F.Nodup
theorem obx.nd {F:List Nat} {b:Nat} {x:Request} {e:TypeId} (h:obx w F b x e):F.Nodup:=by
 obtain ⟨_,_,_,_,_,_,_,_,_,_,_,h⟩:=h
 exact h
theorem obx.lt {F:List Nat} {b:Nat} {x:Request} {e:TypeId} (h:obx w F b x e):∀ y∈F,y<w.heap.size:=by
 obtain ⟨_,_,_,_,_,_,O,rfl,D,J,E,_⟩:=h
 intro y A
 simp only [List.mem_append,List.mem_singleton] at A
 rcases A with rfl | A | A | A
 · exact IF O
 · exact Enc.rd_lt (Enc.ow_rd D) y A
 · exact Enc.rd_lt (Enc.ow_rd J) y A
 · exact Enc.rd_lt (Enc.ow_rd E) y A
theorem St.split4 {A F G H:List Nat} {u:World} (h:St X w0 w ((A++(F++(G++H)),u)::M)):St X w0 w ((A,u)::(F,u)::(G,u)::(H,u)::M):=by
 have e:EC ((A,u)::(F,u)::(G,u)::(H,u)::M)=EC ((A++(F++(G++H)),u)::M):=by simp [EC]
 refine ⟨h.ext,?_,by rw [e]; exact h.lt,by rw [e]; exact h.lo,by rw [e]; exact h.nd⟩
 have E:=h.ok _ (List.mem_cons_self)
 intro p J
 simp only [List.mem_cons] at J
 rcases J with rfl | rfl | rfl | rfl | J
 · exact E.sub (λb D=>by simp [D])
 · exact E.sub (λb D=>by simp [D])
 · exact E.sub (λb D=>by simp [D])
 · exact E.sub (λb D=>by simp [D])
 · exact h.ok p (by simp [J])
theorem St.joinq {A F G H:List Nat} {O J E Q:World} (h:St X w0 w ((A,O)::(F,J)::(G,E)::(H,Q)::M)):St X w0 w ((A++(F++(G++H)),w)::M):=by
 have e:EC ((A++(F++(G++H)),w)::M)=EC ((A,O)::(F,J)::(G,E)::(H,Q)::M):=by simp [EC]
 refine ⟨h.ext,?_,by rw [e]; exact h.lt,by rw [e]; exact h.lo,by rw [e]; exact h.nd⟩
 intro p D
 rcases List.mem_cons.1 D with rfl | D
 · exact Agr.refl _ _
 · exact h.ok p (by simp [D])
theorem obx.start {F:List Nat} {b:Nat} {x:Request} {e:TypeId} (h:obx w0 F b x e) :
    ∃ (E:Value) (O:List Nat) (J:Value) (D:List Nat) (A:Value) (Q:List Nat),bx w0 b [.int .i64 x.fc,.int .i64 x.fJ.fW,.int .i64 x.fJ.fD,.int .i64 x.fJ.fH,.int .i64 x.fJ.fQ,.int .i64 x.fR,E,J,.int .i64 x.fP,A] e ∧
     ow w0 O [E] x.fT∧ow w0 D [J] x.fG∧ow w0 Q [A] x.fU∧St F w0 w0 [([b],w0),(O,w0),(D,w0),(Q,w0)]:=by
 have hl:=h.lt
 have Z:=h.nd
 obtain ⟨E,O,J,D,A,Q,U,rfl,V,T,Y,_⟩:=h
 exact ⟨E,O,J,D,A,Q,U,V,T,Y,(St.start1 w0 hl Z).split4⟩
theorem obx.fin {D A E:List Nat} {b:Nat} {x:Request} {e:TypeId} {O Q J:Value} (T:bx w b [.int .i64 x.fc,.int .i64 x.fJ.fW,.int .i64 x.fJ.fD,.int .i64 x.fJ.fH,.int .i64 x.fJ.fQ,.int .i64 x.fR,O,Q,.int .i64 x.fP,J] e)
    (h0:ow w D [O] x.fT) (h1:ow w A [Q] x.fG) (h2:ow w E [J] x.fU) (hn:([b]++(D++(A++E))).Nodup):obx w ([b]++(D++(A++E))) b x e:=⟨_,_,_,_,_,_,T,rfl,h0,h1,h2,hn⟩
structure Te (P:Program) (w:World):Prop where
 t:Tb P w
 s:∃ (g:Nat) (tp:TypeId) (p:Value),P.globalNamed "strconv.ErrSyntax" = some g ∧ w.var? P "strconv.ErrSyntax" = some #[.iface tp p]
 r:∃ (g:Nat) (tp:TypeId) (p:Value),P.globalNamed "strconv.ErrRange" = some g ∧ w.var? P "strconv.ErrRange" = some #[.iface tp p]
theorem n3 {n:String} {g:Nat} {cs:Array Value} (D:P.globalNamed n=some g) (h:w.var? P n=some cs) (E:Ext [] w w'):w'.var? P n=some cs:=by
 unfold World.var? at h ⊢
 rw [D] at h ⊢
 simp only [Option.bind_eq_bind,Option.bind_some] at h ⊢
 cases A:w.heap[g]? with
 | none=>simp [A] at h
 | some o =>
  rw [E.blk g (Array.getElem?_eq_some_iff.1 A).1 AD,A]
  rw [A] at h
  exact h
theorem Te.ext (h:Te P w) (A:Ext [] w w'):Te P w':=by
 obtain ⟨V,O,U,E,T⟩:=h.s
 obtain ⟨Z,Y,J,D,Q⟩:=h.r
 exact ⟨h.t.ext A,⟨V,O,U,E,n3 E T A⟩,⟨Z,Y,J,D,n3 D Q A⟩⟩
theorem St.te (h:St [] w0 w M) (A:Te P w0):Te P w:=A.ext h.ext
theorem St.te2 (h:St [] w0 w M) (A:Te P w0) (i:Nat) {F:List Nat} {u:World} (hi:M[i]? = some (F,u)):∀ w',Ext F w w'→Te P w':=λw' E =>
 A.ext (h.ext.trans E λy D=>.inr (h.fresh i hi y D))
def nV (s:ByteArray):Option (Int×Bool):=if s.size≤1048576 then some (match Lib.atoiAll s.data.toList with
 | .ok v=>(v,false)
 | .range=>(Lib.atoiSat s.data.toList,true)
 | _=>(0,true)) else none
def isErr (v:Value) (b:Bool):Prop:=(b=false∧v=.nilIface)∨(b=true∧∃ t p,v=.iface t p)
theorem isErr.not {v:Value} {b:Bool} (h:isErr v b):v.oneCell'=true:=by
 rcases h with ⟨_,rfl⟩ | ⟨_,t,p,rfl⟩ <;> rfl
theorem yA {v:Value} {b:Bool} (E:isErr v b) (A:K N L a) {t J:TypeId} (D:P.underlying t=some (.interface (P.methodsAt t))) {x:Operand} {c:Value}
    (ho:o.op=.binOp .neq t x (.const c) J) (h1:ev L x=some v) (h2:ev L (.const c)=some .nilIface):(execOp a.eval o).run P w=.ok (.value (.bool b)) w:=by
 rcases E with ⟨rfl,rfl⟩ | ⟨rfl,u,p,rfl⟩
 · have:=run_neq_nil_nil (P:=P) w t D
   simp [execOp,ho,A.ev h1,A.ev h2,eqGuard,this]
 · have:=run_neq_held_nil (P:=P) w t u p D
   simp [execOp,ho,A.ev h1,A.ev h2,eqGuard,this]
theorem cB (h:Below w.heap.size w w'):Ext [] w w':=⟨h.os,h.tape,h.output,h.size,λk A _=>h.block k A⟩
theorem wF {f:FuncId} {Q:TypeId}
    (hok:∀ (s:ByteArray),s.size≤9223372036854775806→∀ (v:Int),Lib.atoiAll s.data.toList=.ok v→∀ (w:World),Calls P f #[.string s] w λe w'=>e=.returned (.tuple #[.int .i64 v,.nilIface])∧(w'=w∨∃ t,w'=Lib.bytesWorld w Q t))
    (hsy:∀ (s:ByteArray),s.size ≤ 281474976710656 → (∀ v,Lib.atoiAll s.data.toList ≠ .ok v) → Lib.atoiAll s.data.toList ≠ .range → ∀ (A:TypeId) (p:Value) (w:World),w.var? P "strconv.ErrSyntax" = some #[.iface A p] → Calls P f #[.string s] w λe w'=>∃ t q,e = .returned (.tuple #[.int .i64 0,.iface t q]) ∧ Below w.heap.size w w')
    (hra:∀ (s:ByteArray),s.size ≤ 281474976710656 → Lib.atoiAll s.data.toList = .range → ∀ (A:TypeId) (p:Value) (w:World),w.var? P "strconv.ErrRange" = some #[.iface A p] → Calls P f #[.string s] w λe w'=>∃ t q,e = .returned (.tuple #[.int .i64 (Lib.atoiSat s.data.toList),.iface t q]) ∧ Below w.heap.size w w')
    (hT:Te P w0) (s:ByteArray) {r:Int×Bool} (h:nV s=some r):Calls P f #[.string s] w0 λe w=>∃ v,e=.returned (.tuple #[.int .i64 r.1,v])∧Ext [] w0 w∧isErr v r.2:=by
 unfold nV at h
 split at h
 · rename_i hl
   simp only [Option.some.injEq] at h
   subst h
   cases E:Lib.atoiAll s.data.toList
   case ok v =>
    refine (hok s AC v E w0).mono λe w ⟨D,T⟩=>⟨_,D,?_,.inl ⟨rfl,rfl⟩⟩
    rcases T with rfl | ⟨t,rfl⟩
    · exact Ext.refl _ _
    · exact cB (Lib.bytesWorld_below _ _ _)
   case range =>
    obtain ⟨_,A,p,_,J⟩:=hT.r
    exact (hra s AC E A p w0 J).mono λe w ⟨t,q,D,O⟩=>⟨_,D,cB O,.inr ⟨rfl,_,_,rfl⟩⟩
   · obtain ⟨_,A,p,_,J⟩:=hT.s
     exact (hsy s AC (λv h=>by rw [E] at h; cases h) (λh=>by rw [E] at h; cases h) A p w0 J).mono λe w ⟨t,q,D,O⟩=>⟨_,D,cB O,.inr ⟨rfl,_,_,rfl⟩⟩
 · simp at h
end
end Go.Proofs.YtdgpkmgnjdpieaaGreatDoor
set_option linter.unusedSimpArgs false
set_option linter.unusedVariables false
namespace Go.Proofs.YtdgpkmgnjdpieaaGreatDoor
open Go Go.RowKit
open Enc (rd ow)
theorem r5 {α:Type} [Enc α] {w:World} {g:Nat} {cs:List Value} {e:TypeId} (h:bx w g cs e) {y:α} {F:List Nat} (hy:rd w F cs y) :
    rd w (g::F) [.slice (some ⟨g,0,none⟩) 1 1] [y]:=by
 have hl:=Enc.rd_sz hy
 refine ⟨_,1,rfl,Nat.le_refl _,by simp [maxLen],λb A=>?_,.inr ⟨g,0,_,e,(0,0),rfl,AD,h,⟨F,λb A=>List.mem_cons_of_mem _ A,?_⟩,trivial⟩⟩
 · rcases List.mem_cons.1 A with rfl | A
   · exact IF h
   · exact Enc.rd_lt hy b A
 · simp only [List.drop_zero]
   rw [← hl,List.take_length]
   exact hy
theorem rS {α:Type} [Flat α] {P:Program} {u:World} {F:List Nat} {v:Value} {xs ys:List α} {lo:Int} (hf:ow u F [v] xs) (hx:RA xs lo xs.length=some ys) {t:TypeId} (T:TS P t (Enc.sz α)) :
    ∃ Z,ow u F [Z] ys∧∀ {N:Nat} {L:List (Nat×Value)} {a:Act} {o:Oper} {x i:Operand} {k:IntKind},K N L a→o.op=.slice t x (some i) none none→ev L x=some v→ev L i=some (.int k lo)→∀ w:World,(execOp a.eval o).run P w=.ok (.value Z) w:=by
 obtain ⟨h,cap,rfl,_,_⟩:=ME (Enc.ow_rd hf)
 obtain ⟨e,T,hs⟩:=T
 unfold RA at hx
 split at hx
 · rename_i h0
   simp only [Option.some.injEq] at hx
   have hr:ow u F [.slice (if cap=lo.toNat then h else h.map (·.add (lo.toNat*Enc.sz α))) ((xs.length:Int).toNat - lo.toNat) (cap - lo.toNat)] ys:=by
    subst hx
    rcases hf with ⟨O,rfl,rfl⟩ | ⟨g,off,Aa,c,e',Gs,O,e1,e2,Y,e4,Q,rfl,e6⟩
    · simp only [List.cons.injEq,Value.slice.injEq,and_true] at O
      obtain ⟨rfl,_,rfl⟩:=O
      refine .inl ⟨?_,AD,rfl⟩
      simp
    · simp only [List.cons.injEq,Value.slice.injEq,and_true,true_and] at O
      obtain ⟨rfl,rfl⟩:=O
      have M:((xs.drop lo.toNat).take ((xs.length:Int).toNat - lo.toNat))=xs.drop lo.toNat:=by
       apply List.take_of_length_le; simp
      rw [M]
      have A:(xs.drop lo.toNat).length=(xs.length:Int).toNat - lo.toNat:=AD
      have D:lo.toNat≤xs.length:=AC
      have J:(Gs.drop lo.toNat).flatten=[]:=bz (XF lo.toNat Q D)
      have E:Gs.flatten=[]:=bz Q
      by_cases V:cap=lo.toNat
      · refine .inr ⟨g,off,cap - lo.toNat,c,e',Gs.drop lo.toNat,?_,by rw [A]; omega,AC,Y,?_,?_,by rw [J,E],e6⟩
        · rw [if_pos V,A]
        · rw [Nat.sub_mul]; omega
        · have hz:xs.drop lo.toNat=[]:=List.drop_of_length_le AC
          have:=XF lo.toNat Q D
          rw [hz] at this ⊢
          rw [List.drop_take,show xs.length*Enc.sz α - lo.toNat*Enc.sz α=0 by rw [show xs.length=lo.toNat by omega]; simp] at this
          simpa using this
      · refine .inr ⟨g,off+lo.toNat*Enc.sz α,cap - lo.toNat,c,e',Gs.drop lo.toNat,?_,by rw [A]; omega,AC,Y,?_,?_,by rw [J,E],e6⟩
        · rw [if_neg V,A]; simp [GS]
        · have:lo.toNat*Enc.sz α≤cap*Enc.sz α:=Nat.mul_le_mul_right _ AC
          rw [Nat.sub_mul]; omega
        · have:=XF lo.toNat Q D
          rw [List.drop_take,List.drop_drop] at this
          rw [A,show ((xs.length:Int).toNat - lo.toNat)*Enc.sz α=xs.length*Enc.sz α - lo.toNat*Enc.sz α by rw [Nat.sub_mul]; simp]
          exact this
   refine ⟨_,hr,fun {N L a o x i k} hK ho hv U w=>?_⟩
   have c2:0≤lo∧lo≤(xs.length:Int):=AC
   simp [execOp,ho,Instr.sliceAt,Instr.slice,Instr.sliceBounds,Instr.sliceBound,hK.ev hv,hK.ev U,run_underlying T,asIntOf,c2,hs]
 · simp at hx
end Go.Proofs.YtdgpkmgnjdpieaaGreatDoor
set_option linter.unusedSimpArgs false
set_option linter.unusedVariables false
namespace Go.Proofs.YtdgpkmgnjdpieaaGreatDoor
open Go Go.RowKit
open Enc (rd ow)
section
variable {P:Program} {ops:Array Oper} {Q:Exit→Act→World→Prop} {rest:List Oper} {o:Oper} {a:Act} {w:World} {N:Nat} {L:List (Nat×Value)}
variable {X:List Nat} {w0:World} {M:List (List Nat×World)} {d:Nat}
def qy (s:ByteArray):Option (List U8):=if s.size≤1000000000 then some (s.data.toList.map λb=>(⟨(b.toNat:Int)⟩:U8)) else none
theorem lY {α:Type} [Flat α] {F:List Nat}:∀ (A:List α) (r:List Value),jM w F ((A.map Flat.e).flatten++r) A
 | [],_=>trivial
 | x::A,r=>by
  have hl:=Flat.len x
  refine ⟨⟨[],AD,rfl,?_⟩,?_⟩
  · show List.take (Flat.sz α) _=_
    rw [← hl]; simp
  · have:((List.map Flat.e (x::A)).flatten++r).drop (Enc.sz α)=(A.map Flat.e).flatten++r:=by
      show List.drop (Flat.sz α) _=_
      rw [← hl]; simp
    rw [this]
    exact lY A r
theorem wo {s:ByteArray} {l:List U8} (E:qy s=some l) {t T e:TypeId} (h1:P.underlying t=some .string) (h2:P.underlying T=some (.slice e)) (Z:P.underlying e=some (.int .u8)) (hM:St X w0 w M) (J:K N L a) {x:Operand}
    (hg:gd L ops o.guard=some true) (hd:o.dst=some d) (hN:Nat.blt d N=true)
    (ho:o.op=.convert t T x) (hv:ev L x=some (.string s))
    (h:∀ g w' a v,K N ((d,v)::L) a→St X w0 w' (([g],w')::M)→Ext [] w w'→rd w' [g] [v] l→wpList P ops Q rest a w'):wpList P ops Q (o::rest) a w:=by
 unfold qy at E
 split at E
 · rename_i Aa
   have hl:=Option.some.inj E
   have Y:=run_bytes_of_string (P:=P) w t T e s h1 h2 Z
   have U:Ext [] w (w.drew.alloc (.cells (bytesRow s (grownCap w s.size 0 e)) e ((bytesRow s (grownCap w s.size 0 e)).size,(bytesRow s (grownCap w s.size 0 e)).size+1))):=(Ext.drew w).trans (Ext.alloc _ _) AD
   have A:=heap_alloc_new w.drew (.cells (bytesRow s (grownCap w s.size 0 e)) e ((bytesRow s (grownCap w s.size 0 e)).size,(bytesRow s (grownCap w s.size 0 e)).size+1))
   have D:l.length=s.size:=by rw [← hl,List.length_map]; exact Array.length_toList
   refine Ux J hg hd hN (v:=.slice (some ⟨w.heap.size,0,none⟩) s.size (grownCap w s.size 0 e)) (w':=w.drew.alloc (.cells (bytesRow s (grownCap w s.size 0 e)) e ((bytesRow s (grownCap w s.size 0 e)).size,(bytesRow s (grownCap w s.size 0 e)).size+1))) (by simp [execOp,ho,J.ev hv,Y]) λa J=>h w.heap.size _ a _ J (hM.new U [w.heap.size] (by
    intro b O
    rw [List.mem_singleton.1 O]
    exact ⟨Nat.le_refl _,IF A⟩) AD) U ?_
   refine ⟨some ⟨w.heap.size,0,none⟩,grownCap w s.size 0 e,by rw [D],by rw [D]; exact grownCap_ge w s.size 0 e,grownCap_le_maxLen w _ 0 e (by simp only [maxLen]; omega),λb O=>by rw [List.mem_singleton.1 O]; exact IF A,.inr ⟨_,0,_,e,_,rfl,AD,A,?_⟩⟩
   rw [List.drop_zero]
   have e1:(bytesRow s (grownCap w s.size 0 e)).toList=(l.map Flat.e).flatten++List.replicate (grownCap w s.size 0 e - s.size) (.int .u8 0):=by
    rw [← hl]
    unfold bytesRow
    rw [Array.toList_append,Array.toList_map,Array.toList_replicate]
    congr 1
    rw [List.map_map]
    induction s.data.toList with
    | nil=>rfl
    | cons b r V=>simp [V,Flat.e]
   rw [e1]
   exact lY l _
 · simp at E
theorem wt {α:Type} [Enc α] {g:Nat} {c1 c2:List Value} {e:TypeId} {x1 x2:α} {G1 G2:List Nat} (h:bx w g (c1++c2) e) (h1:ow w G1 c1 x1) (h2:ow w G2 c2 x2) (hn:(g::(G1++G2)).Nodup) :
    ow w (g::(G1++G2)) [.slice (some ⟨g,0,none⟩) 2 2] [x1,x2]:=by
 have A:=Enc.rd_sz (Enc.ow_rd h1)
 have D:=Enc.rd_sz (Enc.ow_rd h2)
 refine .inr ⟨g,0,2,_,e,[G1,G2],rfl,Nat.le_refl _,by simp [maxLen],h,by simp [A,D]; omega,?_,AD,hn⟩
 have E:(List.drop 0 (c1++c2).toArray.toList).take ([x1,x2].length*Enc.sz α)=c1++c2:=by
  simp only [List.drop_zero]
  exact List.take_of_length_le (by simp [A,D]; omega)
 rw [E]
 refine ⟨?_,?_,?_⟩
 · rw [← A,List.take_left]; exact h1
 · rw [← A,List.drop_left,A,← D,List.take_length]; exact h2
 · rw [← A,List.drop_left,A,← D,List.drop_length]; trivial
end
end Go.Proofs.YtdgpkmgnjdpieaaGreatDoor
set_option linter.unusedSimpArgs false
set_option linter.unusedVariables false
namespace Go.Proofs.YtdgpkmgnjdpieaaGreatDoor
open Go Go.RowKit
open Enc (rd ow)
section
variable {P:Program} {ops:Array Oper} {rest:List Oper} {o:Oper} {a:Act} {w w':World} {N:Nat} {L:List (Nat×Value)}
variable {X:List Nat} {w0:World} {M:List (List Nat×World)}
def cbx (w:World) (F:List Nat) (A D:Nat) (J E:TypeId) (g:Bool) (O:List ByteArray):Prop :=
 ∃ (v:Value) (G:List Nat),bx w A [.bool g] J∧bx w D [v] E∧F=[A]++([D]++G)∧ow w G [v] O∧F.Nodup
theorem cbx.nd {F:List Nat} {D O:Nat} {E A:TypeId} {g:Bool} {J:List ByteArray} (h:cbx w F D O E A g J):F.Nodup:=by
 obtain ⟨_,_,_,_,_,_,h⟩:=h
 exact h
theorem cbx.lt {F:List Nat} {O V:Nat} {Q J:TypeId} {g:Bool} {T:List ByteArray} (h:cbx w F O V Q J g T):∀ y∈F,y<w.heap.size:=by
 obtain ⟨v,G,E,D,rfl,U,_⟩:=h
 intro y A
 simp only [List.mem_append,List.mem_singleton] at A
 rcases A with rfl | rfl | A
 · exact IF E
 · exact IF D
 · exact Enc.rd_lt (Enc.ow_rd U) y A
theorem St.split3 {A F G:List Nat} {u:World} (h:St X w0 w ((A++(F++G),u)::M)):St X w0 w ((A,u)::(F,u)::(G,u)::M):=by
 have e:EC ((A,u)::(F,u)::(G,u)::M)=EC ((A++(F++G),u)::M):=by simp [EC]
 refine ⟨h.ext,?_,by rw [e]; exact h.lt,by rw [e]; exact h.lo,by rw [e]; exact h.nd⟩
 have J:=h.ok _ (List.mem_cons_self)
 intro p E
 simp only [List.mem_cons] at E
 rcases E with rfl | rfl | rfl | E
 · exact J.sub (λb D=>by simp [D])
 · exact J.sub (λb D=>by simp [D])
 · exact J.sub (λb D=>by simp [D])
 · exact h.ok p (by simp [E])
theorem cbx.start {F:List Nat} {A D:Nat} {J E:TypeId} {g:Bool} {O:List ByteArray} (h:cbx w0 F A D J E g O) :
    ∃ (v:Value) (G:List Nat),bx w0 A [.bool g] J∧bx w0 D [v] E∧ow w0 G [v] O∧St F w0 w0 [([A],w0),([D],w0),(G,w0)]:=by
 have hl:=h.lt
 have U:=h.nd
 obtain ⟨v,G,T,Q,rfl,V,_⟩:=h
 exact ⟨v,G,T,Q,V,(St.start1 w0 hl U).split3⟩
theorem cbx.fin {G:List Nat} {A D:Nat} {J E:TypeId} {g:Bool} {O:List ByteArray} {v:Value} (T:bx w A [.bool g] J) (Q:bx w D [v] E) (V:ow w G [v] O) (U:([A]++([D]++G)).Nodup):cbx w ([A]++([D]++G)) A D J E g O :=
 ⟨_,_,T,Q,rfl,V,U⟩
end
end Go.Proofs.YtdgpkmgnjdpieaaGreatDoor
