/- own lemmas -/
import Derived.Test.YthkaklkinepfkaaGreatDoorS15
import Derived.Lib.SlicesCompact
import Derived.Shelf.SlicesE.Delete
import Derived.Laws.IdiomStrings
import Derived.Laws.BytesArg
import Derived.Shelf.Strconv.Itoa3
import Derived.Lib.SmallJoins
import Derived.Lib.ItoaLen
import Derived.Shelf.Strconv.AtoiAll
import Derived.Shelf.Strconv.ErrVarAll
import Derived.WideLaws
import Derived.Shelf.Strings.OnBuilder
set_option linter.unusedSimpArgs false
set_option linter.unusedVariables false
namespace Go.Proofs.YthkaklkinepfkaaGreatDoor
open Go Go.RowKit
open Enc (rd ow)
open Arg (argv)
open Ret (retv)
section
variable {P:Program} {ops:Array Oper} {Q:Exit→Act→World→Prop} {rest:List Oper} {o:Oper} {a:Act} {w:World} {N:Nat} {L:List (Nat×Value)}
variable {X:List Nat} {w0:World} {M:List (List Nat×World)} {d:Nat}
theorem Jj4 {α:Type} [Enc α] {u:World} {F:List Nat} {v:Value} {xs:List α} (hf:rd u F [v] xs):∃ b:Bool,(b=true→xs=[]) ∧
    ∀ {P:Program} {N:Nat} {L:List (Nat×Value)} {a:Act} {o:Oper} {t t' e:TypeId} {i j:Operand} {w:World},K N L a→P.underlying t=some (.slice e) →
     o.op=.binOp .eql t i j t'→ev L i=some v→ev L j=some (.slice none 0 0)→(execOp a.eval o).run P w=.ok (.value (.bool b)) w:=by
 obtain ⟨ao,cap,hv,h1,h2,h3,h4⟩:=hf
 have:=(List.cons.inj hv).1
 subst this
 have key:∀ {P:Program} {t e:TypeId} (w:World) (ao:Option Addr) (n cap:Nat),P.underlying t=some (.slice e)→(Op.equal t (.slice ao n cap) (.slice none 0 0)).run P w=.ok ao.isNone w:=by
  intro P t e w ao n cap hu
  show (Op.equalIn (9999+1) t _ _).run P w=_
  generalize 9999=m
  cases ao <;> simp [Op.equalIn,run_underlying hu w]
 refine ⟨ao.isNone,λhb=>?_,fun {P N L a o t t' e i j w} hK hu ho hi hj=>?_⟩
 · rcases h4 with h4 | ⟨g,off,c,e,fr,rfl,_⟩
   · exact h4
   · simp at hb
 · have hg:(eqGuard .eql t i j (.slice ao xs.length cap) (.slice none 0 0)).run P w=.ok () w:=by
     unfold eqGuard
     simp
   simp only [execOp,ho,hK.ev hi,hK.ev hj,Sem.run_bind,hg,Result.andThen_ok,binOp,key w ao _ _ hu,Sem.run_pure]
theorem Jey {u:World} {F:List Nat} {ao:Option Addr} {cap:Nat} {xs ys:List Int} {hi:Int} (h:ow u F [.slice ao xs.length cap] xs) (hx:sls xs 0 hi=some ys) :
    ow u F [.slice ao hi.toNat cap] ys∧hi.toNat≤xs.length∧xs.length≤cap∧0≤hi:=by
 unfold sls at hx
 split at hx
 · rename_i h0
   simp only [Option.some.injEq,Int.toNat_zero,List.drop_zero,Nat.sub_zero] at hx
   subst hx
   have hl:(xs.take hi.toNat).length=hi.toNat:=by rw [List.length_take]; omega
   rcases h with ⟨hv,rfl,rfl⟩ | ⟨g,off,cap',c,e,Gs,hv,h1,h2,h3,h4,h5,rfl,h6⟩
   · have:=(List.cons.inj hv).1
     simp only [List.length_nil,Value.slice.injEq,true_and] at this
     obtain ⟨rfl,rfl⟩:=this
     have:hi.toNat=0:=by simp at h0; omega
     rw [this]
     exact ⟨.inl ⟨rfl,by simp,rfl⟩,by simp,by simp,by omega⟩
   · have:=(List.cons.inj hv).1
     simp only [Value.slice.injEq,true_and] at this
     obtain ⟨rfl,rfl⟩:=this
     have hsz:Enc.sz Int=1:=rfl
     have hG:=Qkc h5
     have hc:=Qu7 h5
     rw [hsz,Nat.mul_one] at hc h4
     refine ⟨.inr ⟨g,off,cap,c,e,(xs.take hi.toNat).map λ_=>[],by rw [hl],by omega,h2,h3,by rw [hsz,Nat.mul_one]; exact h4,?_,by rw [hG,Qjm],h6⟩,by omega,h1,by omega⟩
     have e2:(((xs.take hi.toNat).map (Flat.e (α:=Int))).flatten)=(xs.take hi.toNat).map (Value.int .i64):=by
      generalize xs.take hi.toNat=zs
      induction zs with
      | nil=>rfl
      | cons z zs ih=>simp only [List.map_cons,List.flatten_cons,ih]; rfl
     have e3:(c.toList.drop off).take ((xs.take hi.toNat).length*Enc.sz Int)=(xs.take hi.toNat).map (Value.int .i64):=by
      rw [hl,hsz,Nat.mul_one,List.map_take,← hc,List.take_take]
      congr 1
      omega
     rw [e3,← e2]
     exact Qs8 _
 · simp at hx
theorem Jhb {u:World} {F:List Nat} {v:Value} {xs ys:List Int} {hi:Int} {k':IntKind} (hf:ow u F [v] xs) (hx:sls xs 0 hi=some ys) (hK:K N L a) {t:TypeId} (hu:TS P t 1) {x j:Operand}
    (hg:gd L ops o.guard=some true) (hd:o.dst=some d) (hN:Nat.blt d N=true)
    (ho:o.op=.slice t x none (some j) none) (hv:ev L x=some v) (hj:ev L j=some (.int k' hi))
    (h:∀ v' a,K N ((d,v')::L) a→ow u F [v'] ys→wpList P ops Q rest a w):wpList P ops Q (o::rest) a w:=by
 obtain ⟨ao,cap,rfl,_,_⟩:=Ql0 (Enc.ow_rd hf)
 obtain ⟨e,hu,hs⟩:=hu
 obtain ⟨hr,h1,h2,h3⟩:=Jey hf hx
 refine Que hK hg hd hN ?_ λa hK=>h _ a hK hr
 have c1:0≤hi∧hi≤(cap:Int):=by omega
 simp [execOp,ho,Instr.sliceAt,Instr.slice,Instr.sliceBounds,Instr.sliceBound,hK.ev hv,hK.ev hj,run_underlying hu,asIntOf,c1,hs]
 intro _
 cases ao <;> simp [Addr.add]
def Q48 (xs:List Int) (lo:Int):List Int:=xs.take lo.toNat++List.replicate (xs.length - lo.toNat) 0
theorem Q96 {xs:List Int} {lo:Int} (h:xs.length - lo.toNat=0):Q48 xs lo=xs:=by
 simp only [Q48,h,List.replicate_zero,List.append_nil]
 exact List.take_of_length_le (by omega)
theorem Jmd {t bytes:Nat} (hT:TE P t 1 bytes [.int .i64 0]) (hM:St X w0 w M) (i:Nat) {u:World} {F:List Nat} {v v':Value} {xs:List Int} (hown:ow u F [v] xs) {lo:Int} (hp:Part v lo.toNat v')
    (hK:K N L a) (hi:M[i]? = some (F,u)) {sd:Operand}
    (hg:gd L ops o.guard=some true) (hd:o.dst=none)
    (ho:o.op=.call { callee:=.builtin .clear,args:=#[sd],argTypes:=#[t] }) (hv1:ev L sd=some v')
    (h:∀ w' a,K N L a→Ext F w w'→St X w0 w' (M.set i (F,w'))→ow w' F [v] (Q48 xs lo)→wpList P ops Q rest a w'):wpList P ops Q (o::rest) a w:=by
 obtain ⟨e,inf,hu,hinf,⟨zv,hz,hzc⟩,hsz1,_⟩:=hT
 have how:=Enc.ow_agr hown (hM.a i hi)
 have hnd:=hM.ndF i hi
 have hlt:=hM.ltF i hi
 have hfin:∀ {r:Value} {w':World},(execOp a.eval o).run P w=.ok (.value r) w'→Ext F w w'→St X w0 w' (M.set i (F,w'))→ow w' F [v] (Q48 xs lo)→wpList P ops Q (o::rest) a w:=by
  intro r w' hr hE hS hO
  exact Q1s hK hg hr λK' hK'=>by rw [Oper.upon_value,hd]; exact hK' _ _ (h _ _ hK hE hS hO)
 have hnone:∀ (ao:Option Addr) (n cap:Nat),v'=.slice ao n cap→n=0→n=xs.length - lo.toNat→wpList P ops Q (o::rest) a w:=by
  intro ao n cap hv' hm hn
  subst hv'; subst hm
  refine hfin (r:=.tuple #[]) (w':=w) ?_ (Ext.refl _ _) (hM.mut i hi (Ext.refl _ _) F (λb hb=>⟨.inl hb,hlt b hb⟩) hnd) (by rw [Q96 hn.symm]; exact how)
  cases ao <;> simp [execOp,ho,resolve,invoke,builtin,hK.ev hv1,Builtin.clear_,run_underlying hu]
 rcases how with ⟨hv,rfl,rfl⟩ | ⟨g,off,cap,c,et,Gs,hv,h1,h2,h3,h4,h5,rfl,h6⟩
 · have:=(List.cons.inj hv).1
   subst this
   obtain ⟨ao',hv',_⟩:=hp none 0 0 rfl
   exact hnone ao' _ _ hv' (by simp) (by simp)
 · have:=(List.cons.inj hv).1
   subst this
   obtain ⟨ao',hv',hao⟩:=hp _ _ _ rfl
   by_cases hm:xs.length - lo.toNat=0
   · exact hnone ao' _ _ hv' hm rfl
   · subst hv'
     have hlo:lo.toNat<xs.length:=by omega
     have:=hao g off hlo rfl
     subst this
     have hsz:Enc.sz Int=1:=rfl
     have hG:=Qkc h5
     have hc:=Qu7 h5
     rw [hsz,Nat.mul_one] at hc h4
     have hb:bx w g c.toList et:=h3
     have hl0:(List.replicate (xs.length - lo.toNat) (Value.int .i64 0)).length=xs.length - lo.toNat:=by simp
     have hst:=run_storeCells_at P g (off+lo.toNat) et (List.replicate (xs.length - lo.toNat) (Value.int .i64 0)) 0 c w h3 (by simp; omega) (by intro u hu; rw [List.eq_of_mem_replicate hu]; rfl)
     simp only [Nat.add_zero] at hst
     have hzero:(zeroValue e).run P w=.ok zv w:=by simp [zeroValue,typeInfo,hinf,hz]
     have hzc1:(Builtin.zeroCells zv.cells (xs.length - lo.toNat)).toList=List.replicate (xs.length - lo.toNat) (Value.int .i64 0):=by
      rw [hzc]
      simp [Builtin.zeroCells]
      apply List.ext_getElem
      · simp
      · intro i h1 h2
        simp [Nat.mod_one]
     have hrun:(execOp a.eval o).run P w=.ok (.value (.tuple #[])) (w.setRow g (Qbb c.toList (off+lo.toNat) (List.replicate (xs.length - lo.toNat) (Value.int .i64 0))).toArray):=by
      obtain ⟨m,hmm⟩:∃ m,xs.length - lo.toNat=m+1:=⟨xs.length - lo.toNat - 1,by omega⟩
      rw [hmm] at hzc1 hst hl0 ⊢
      simp only [execOp,ho,resolve,invoke,builtin,hK.ev hv1,Builtin.clear_]
      simp [run_underlying hu,hK.ev hv1,hzero,Builtin.clear_]
      rw [hmm,hzc1,hst]
      simp [Qbb]
     have hE:Ext (g::Gs.flatten) w (w.setRow g (Qbb c.toList (off+lo.toNat) (List.replicate (xs.length - lo.toNat) (Value.int .i64 0))).toArray):=(Ext.setRow _ _).wk (by simp)
     have hS:=hM.mut i hi hE (g::Gs.flatten) (λb hb=>⟨.inl hb,Nat.lt_of_lt_of_le (hlt b hb) hE.size⟩) hnd
     refine hfin hrun hE hS ?_
     have hsl:(Qbb c.toList (off+lo.toNat) (List.replicate (xs.length - lo.toNat) (Value.int .i64 0))).length=c.size:=by rw [Qpm _ _ _ (by simp; omega)]; simp
     have hcl:(Q48 xs lo).length=xs.length:=by simp only [Q48,List.length_append,List.length_take,List.length_replicate]; omega
     refine .inr ⟨g,off,cap,_,et,(Q48 xs lo).map λ_=>[],by rw [hcl],by rw [hcl]; exact h1,h2,hb.store _,?_,?_,by rw [hG,Qjm],h6⟩
     · rw [List.size_toArray,hsl,hsz,Nat.mul_one]; exact h4
     · have e2:((Q48 xs lo).map (Flat.e (α:=Int))).flatten=(Q48 xs lo).map (Value.int .i64):=by
         generalize Q48 xs lo=zs
         induction zs with
         | nil=>rfl
         | cons z zs ih=>simp only [List.map_cons,List.flatten_cons,ih]; rfl
       have hcs:(((Qbb c.toList (off+lo.toNat) (List.replicate (xs.length - lo.toNat) (Value.int .i64 0))).toArray.toList.drop off).take ((Q48 xs lo).length*Enc.sz Int))=((Q48 xs lo).map Flat.e).flatten:=by
        rw [e2,hsz,Nat.mul_one,hcl]
        rw [show ∀ l:List Value,l.toArray.toList=l from λ_=>rfl,Qvy _ _ _ _ (by simp; omega),Qvp _ _ _ _ (by simp; omega) (by simp; omega),hc]
        simp only [Qbb,Q48,List.map_append,List.map_take,List.map_replicate,List.length_replicate]
        rw [List.drop_of_length_le (by simp; omega)]
        simp
       rw [hcs]
       exact Qs8 _
end
end Go.Proofs.YthkaklkinepfkaaGreatDoor
set_option linter.unusedSimpArgs false
set_option linter.unusedVariables false
namespace Go.Proofs.YthkaklkinepfkaaGreatDoor
open Go Go.RowKit
open Enc (rd ow)
open Arg (argv)
open Ret (retv)
def Jld (xs:List Int):Option (List Int):=if xs.length<4611686018427387904 then some (Lib.compact xs) else none
theorem Q1q (xs:List Int):(Lib.compact xs).length≤xs.length:=by
 unfold Lib.compact Lib.compactUpTo
 rw [List.length_map]
 exact Nat.le_trans (List.length_filter_le _ _) (by simp)
theorem Q38 {P:Program} {fid:Nat}
    (hs:∀ (blk off cap:Nat) (zs:List Int) (w:World),Go.Sort.Holds (Value.int .i64) w blk off zs.toArray→zs.length≤9223372036854775807→zs.length≤cap →
     Calls P fid #[.slice (some ⟨blk,off,none⟩) zs.length cap] w λe w'=>e=.returned (.slice (some ⟨blk,off,none⟩) (Lib.compact zs).length cap) ∧
      ∃ q,w'=Go.Sort.putRow (Value.int .i64) (Go.Sort.ahead w q) blk off (Lib.compact zs++List.replicate (zs.length - (Lib.compact zs).length) 0).toArray)
    (hn:∀ (p:Option Addr) (cap:Nat) (w:World),Calls P fid #[.slice p 0 cap] w λe w'=>e=.returned (.slice p 0 cap)∧w'=w)
    {w0:World} (xs:List Int) {v:Value} {F:List Nat} (h:ow w0 F [v] xs) {r:List Int} (hr:Jld xs=some r) :
    Calls P fid #[v] w0 λe w=>∃ (v0:Value) (G0:List Nat),e=.returned v0∧Ext F w0 w∧ow w G0 [v0] r∧(∀ b∈G0,b∈F∨w0.heap.size≤b):=by
 unfold Jld at hr
 split at hr
 · rename_i hlen
   simp only [Option.some.injEq] at hr
   subst hr
   rcases h with ⟨hv,rfl,rfl⟩ | ⟨g,off,cap,c,e,Gs,hv,h1,h2,h3,h4,h5,rfl,h6⟩
   · have:=(List.cons.inj hv).1
     subst this
     refine (hn none 0 w0).mono λe w ⟨he,hw⟩=>?_
     subst hw
     refine ⟨_,[],he,Ext.refl _ _,.inl ⟨rfl,?_,rfl⟩,by simp⟩
     exact List.eq_nil_of_length_eq_zero (Nat.le_zero.1 (Q1q []))
   · have:=(List.cons.inj hv).1
     subst this
     have hl:=Q1q xs
     refine (hs g off cap xs w0 (Q7d (cap:=cap) h3 h5) (by omega) h1).mono λe' w ⟨he,q,hw⟩=>?_
     have hl2:(Lib.compact xs++List.replicate (xs.length - (Lib.compact xs).length) 0).length=xs.length:=by simp; omega
     have hw':w=Go.Sort.grow (Go.Sort.putRow (Value.int .i64) (Go.Sort.ahead w0 q) g off (Lib.compact xs++List.replicate (xs.length - (Lib.compact xs).length) 0).toArray) #[]:=by
      rw [show ∀ w:World,Go.Sort.grow w #[]=w from λw=>by cases w; simp [Go.Sort.grow]]
      exact hw
     obtain ⟨hE,hO⟩:=Q4u hl2 h1 h2 h3 h4 h5 h6 hw'
     obtain ⟨hO2,_⟩:=Jey (hi:=((Lib.compact xs).length:Int)) (ys:=Lib.compact xs) hO (by
      unfold sls
      rw [if_pos ⟨by omega,by omega,by rw [hl2]; omega⟩]
      simp)
     rw [Int.toNat_natCast] at hO2
     exact ⟨_,_,he,hE,hO2,λb hb=>.inl hb⟩
 · cases hr
end Go.Proofs.YthkaklkinepfkaaGreatDoor
set_option linter.unusedSimpArgs false
set_option linter.unusedVariables false
namespace Go.Proofs.YthkaklkinepfkaaGreatDoor
open Go Go.RowKit
open Enc (rd ow)
section
variable {α:Type} [Enc α]
def owP (w:World) (F:List Nat) (v:Value) (xs:List α) (k:Int):Prop :=
 0≤k∧((v=.slice none 0 0∧xs=[]∧F=[])∨∃ g off cap c e Gs,v=.slice (some ⟨g,off,none⟩) xs.length cap∧xs.length≤cap∧cap≤maxLen∧w.heap[g]? = some (.cells c e (0,0)) ∧
  off+cap*Enc.sz α≤c.size∧owL w Gs (((c.toList.drop off).take (xs.length*Enc.sz α)).drop (k.toNat*Enc.sz α)) (xs.drop k.toNat)∧F=g::Gs.flatten∧F.Nodup)
theorem Ji3 {w:World} {F:List Nat} {v:Value} {xs:List α} (h:ow w F [v] xs):owP w F v xs 0:=by
 refine ⟨Int.le_refl _,?_⟩
 rcases h with ⟨h1,h2,h3⟩ | ⟨g,off,cap,c,e,Gs,hv,h1,h2,h3,h4,h5,h6,h7⟩
 · exact .inl ⟨(List.cons.inj h1).1,h2,h3⟩
 · exact .inr ⟨g,off,cap,c,e,Gs,(List.cons.inj hv).1,h1,h2,h3,h4,by simpa using h5,h6,h7⟩
theorem Jhj {u w:World} {F:List Nat} {v:Value} {xs:List α} {k:Int} (h:owP u F v xs k) (hA:Agr F u w):owP w F v xs k:=by
 obtain ⟨h0,h⟩:=h
 refine ⟨h0,?_⟩
 rcases h with h | ⟨g,off,cap,c,e,Gs,rfl,h1,h2,h3,h4,h5,rfl,h6⟩
 · exact .inl h
 · exact .inr ⟨g,off,cap,c,e,Gs,rfl,h1,h2,(hA g (by simp)).trans h3,h4,Qvr (hA.sub (λb hb=>List.mem_cons_of_mem _ hb)) h5,rfl,h6⟩
theorem Jav {w:World} {F:List Nat} {v:Value} {xs:List α} {k:Int} (h:owP w F v xs k):∃ ao cap,v=.slice ao xs.length cap∧(xs=[]∨∃ g off,ao=some ⟨g,off,none⟩):=by
 obtain ⟨h0,h⟩:=h
 rcases h with ⟨rfl,rfl,_⟩ | ⟨g,off,cap,c,e,Gs,rfl,_⟩
 · exact ⟨none,0,rfl,.inl rfl⟩
 · exact ⟨_,cap,rfl,.inr ⟨g,off,rfl⟩⟩
theorem Jfx {w:World} {F:List Nat} {v:Value} {xs:List α} {k:Int} {x:α} (h:owP w F v xs k) (hx:ix xs k=some x) :
    ∃ A B cs,owP w A v xs (w64 (k+1))∧ow w B cs x∧PtAt w (Qmz v (Enc.sz α) k.toNat) cs∧F.Perm (A++B):=by
 obtain ⟨h0,hlt,hg⟩:=Qah hx
 obtain ⟨_,h⟩:=h
 rcases h with ⟨rfl,rfl,rfl⟩ | ⟨g,off,cap,c,e,Gs,rfl,h1,h2,h3,h4,h5,rfl,h6⟩
 · simp at hg
 · have hk:k.toNat<xs.length:=(List.getElem?_eq_some_iff.1 hg).1
   have hxk:xs[k.toNat]=x:=(List.getElem?_eq_some_iff.1 hg).2
   have hw:w64 (k+1)=k+1:=by
    simp only [maxLen] at h2
    simp only [w64,IntKind.wrap_i64]
    omega
   rw [List.drop_eq_getElem_cons hk] at h5
   cases Gs with
   | nil=>exact h5.elim
   | cons G Gs =>
    obtain ⟨h7,h8⟩:=h5
    rw [hxk] at h7
    have hn:(k+1).toNat=k.toNat+1:=by omega
    have hm:(k.toNat+1)*Enc.sz α≤xs.length*Enc.sz α:=Nat.mul_le_mul_right _ (by omega)
    rw [Nat.add_mul,Nat.one_mul] at hm
    have hperm:(g::(G::Gs).flatten).Perm ((g::Gs.flatten)++G):=by
     rw [List.flatten_cons,List.cons_append]
     exact List.Perm.cons _ List.perm_append_comm
    refine ⟨g::Gs.flatten,G,_,⟨by rw [hw]; omega,.inr ⟨g,off,cap,c,e,Gs,rfl,h1,h2,h3,h4,?_,rfl,?_⟩⟩,h7,?_,hperm⟩
    · rw [hw,hn,Nat.add_mul,Nat.one_mul,← List.drop_drop]
      exact h8
    · exact (List.nodup_append.1 (hperm.nodup_iff.1 h6)).1
    · have hl:=Enc.rd_sz (Enc.ow_rd h7)
      simp only [Qmz,Qgk]
      refine ⟨g,_,c,e,_,rfl,h3,?_⟩
      rw [hl,List.drop_take,List.take_take,List.drop_drop]
      congr 1
      omega
end
section
variable {P:Program} {ops:Array Oper} {Q:Exit→Act→World→Prop} {rest:List Oper} {o:Oper} {a:Act} {w:World} {N:Nat} {L:List (Nat×Value)}
variable {X:List Nat} {w0:World} {M:List (List Nat×World)} {d:Nat}
theorem Jix {α:Type} [Enc α] {u:World} {F:List Nat} {v:Value} {xs:List α} {k0:Int} (hf:owP u F v xs k0) {n:Int} {y:α} (hx:ix xs n=some y) (hK:K N L a) {t:TypeId} (hu:TS P t (Enc.sz α)) {x i:Operand} {k:IntKind}
    (ho:o.op=.indexAddr t x i) (hv:ev L x=some v) (hi:ev L i=some (.int k n)) :
    (execOp a.eval o).run P w=.ok (.value (.pointer (some (Qmz v (Enc.sz α) n.toNat)))) w:=by
 obtain ⟨h0,h1,h2⟩:=Qah hx
 obtain ⟨e,hu,hs⟩:=hu
 obtain ⟨ao,cap,rfl,h6⟩:=Jav hf
 rcases h6 with rfl | ⟨g,off,rfl⟩
 · simp at h2
 · simp [execOp,ho,hK.ev hv,hK.ev hi,Instr.indexAt,asIntOf,run_underlying hu,hs,h0,h1,Qmz]
theorem St.popP {α:Type} [Enc α] (hM:St X w0 w M) (k:Nat) {F:List Nat} {u:World} (hk:M[k]? = some (F,u)) {v:Value} {xs:List α} {n:Int} (h:owP u F v xs n) {x:α} (hx:ix xs n=some x)
    {M':List (List Nat×World)} (hM':M.eraseIdx k=M') :
    ∃ A B cs,St X w0 w ((A,w)::(B,w)::M')∧owP w A v xs (w64 (n+1))∧ow w B cs x∧PtAt w (Qmz v (Enc.sz α) n.toNat) cs:=by
 subst hM'
 obtain ⟨A,B,cs,h1,h2,h3,h4⟩:=Jfx (Jhj h (hM.a k hk)) hx
 exact ⟨A,B,cs,(hM.toFront k hk).part h4,h1,h2,h3⟩
end
end Go.Proofs.YthkaklkinepfkaaGreatDoor
set_option linter.unusedSimpArgs false
set_option linter.unusedVariables false
namespace Go.Proofs.YthkaklkinepfkaaGreatDoor
open Go Go.RowKit
open Enc (rd ow)
section
variable {P:Program} {ops:Array Oper} {Q:Exit→Act→World→Prop} {rest:List Oper} {o:Oper} {a:Act} {w:World} {N:Nat} {L:List (Nat×Value)}
variable {X:List Nat} {w0:World} {M:List (List Nat×World)} {d:Nat} {S:World→Prop} {fuel:Nat} {listed:Array Bool} {z:Nat}
def Qw0 (P:Program) (ops:Array Oper) (Q:Exit→Act→World→Prop) (S:World→Prop) (z:Nat):Nat→Array Bool→Act→World→Prop
 | 0,l,a,w=>Region.ready .any ops l=[]∧Q .normal a w
 | n+1,l,a,w=>(Region.ready .any ops l=[]→Q .normal a w) ∧
  ∀ i∈Region.ready .any ops l,wpOp P ops Q i (λa' w'=>(i≠z→S w')∧Qw0 P ops Q S z n (l.setIfInBounds i true) a' w') a w
theorem Q6t:∀ (n:Nat) (l:Array Bool) (a:Act) (w:World),Qw0 P ops Q S z n l a w→wpAny P .any ops Q n l a w
 | 0,_,_,_,h=>h
 | n+1,_,_,_,h=>⟨h.1,λi hi=>wpOp_mono (λa' w' h'=>Q6t n _ a' w' h'.2) (h.2 i hi)⟩
def Q3e (ops:Array Oper) (z i:Nat):Bool:=match ops[z]? with
 | some o=>o.after.any λe=>Region.binds .any e&&e.on==i
 | none=>false
theorem Jgg {i:Nat} {oi:Oper} {v:Value} (hi:ops[i]? = some oi) (hz:Q3e ops z i=true) (hsel:∀ (j:Nat) (o:Oper) cs b,ops[j]? = some o→o.op≠.select cs b)
    (hQ:∀ c a w,Q (.panic c) (a.put oi.dst v) w→Q (.panic c) a w) :
    ∀ (n:Nat) (l:Array Bool) (a:Act) (w:World),
     (∀ j oj,ops[j]? = some oj→j≠i→l.getD j true=false→(∀ e∈oj.after,Region.binds .any e=true→e.on≠i)→oi.apart ops oj=true) →
     i∈Region.ready .any ops l→YieldsIf P ops S oi v a→S w→i≠z →
     Qw0 P ops Q S z n (l.setIfInBounds i true) (a.put oi.dst v) w→Qw0 P ops Q S z (n+1) l a w:=by
 intro n
 have hself:∀ (l:Array Bool) (a:Act) (w:World),YieldsIf P ops S oi v a→S w→i≠z→∀ m,Qw0 P ops Q S z m (l.setIfInBounds i true) (a.put oi.dst v) w →
     wpOp P ops Q i (λa' w'=>(i≠z→S w')∧Qw0 P ops Q S z m (l.setIfInBounds i true) a' w') a w :=
  λl a w hy hS _ m H=>hy.wpOp hi hS ⟨λ_=>hS,H⟩
 induction n with
 | zero =>
  intro l a w _ hr hy hS hiz H
  refine ⟨λh=>(by rw [h] at hr; cases hr),λj hj=>?_⟩
  by_cases hji:j=i
  · subst hji; exact hself l a w hy hS hiz 0 H
  · have:=ready_mono hj hji
    rw [H.1] at this
    cases this
 | succ n ih =>
  intro l a w hfree hr hy hS hiz H
  refine ⟨λh=>(by rw [h] at hr; cases hr),λj hj=>?_⟩
  by_cases hji:j=i
  · subst hji; exact hself l a w hy hS hiz _ H
  · have h1:=H.2 j (ready_mono hj hji)
    obtain ⟨hjun,oj,hoj,hall⟩:=mem_ready.1 hj
    have hnot:∀ e∈oj.after,Region.binds .any e=true→e.on≠i:=λe he hb heq=>by
     have h1:=hall e he hb
     have h0:=(mem_ready.1 hr).1
     rw [heq] at h1
     rcases Nat.lt_or_ge i l.size with h' | h'
     · simp [h'] at h0 h1; rw [h0] at h1; cases h1
     · simp [Array.getElem?_eq_none h'] at h1
    have hjz:j≠z:=λe=>by
     subst e
     simp only [Q3e,hoj,List.any_eq_true,Array.any_eq_true,Bool.and_eq_true,beq_iff_eq] at hz
     first
      | (obtain ⟨e,he,hb,heq⟩:=hz; exact hnot e he hb heq)
      | (obtain ⟨k,hk,hb,heq⟩:=hz; exact hnot _ (Array.getElem_mem hk) hb heq)
    have h2:=wpOp_putIf hoj (hfree j oj hoj hji hjun hnot) (λcs b=>hsel i oi cs b hi) (λcs b=>hsel j oj cs b hoj) hQ hy h1
    have hfree':∀ k ok,ops[k]? = some ok→k≠i→(l.setIfInBounds j true).getD k true=false →
        (∀ e∈ok.after,Region.binds .any e=true→e.on≠i)→oi.apart ops ok=true:=λk ok hk hki hun hno=>by
     refine hfree k ok hk hki ?_ hno
     by_cases hjk:j=k
     · subst hjk; exact hjun
     · rw [getD_set_ne true hjk] at hun; exact hun
    refine wpOp_mono (λa' w' h3=>⟨h3.2.1,ih (l.setIfInBounds j true) a' w' hfree' (ready_mono hr (Ne.symm hji)) h3.1 (h3.2.1 hjz) hiz ?_⟩) h2
    rw [Array.setIfInBounds_comm _ _ hji]
    exact h3.2.2
theorem Jlb {id:Nat} {l:List Oper} (Z:List Nat) (z:Nat) {n:Nat} (hm:P.follows .mixedOrders=true) (hM:St X w0 w M) (hn:l.length=n)
    (h:∀ wd,St X w0 wd M→Qw0 P l.toArray Q (Ext Z wd) z n (List.replicate n false).toArray a wd):(Code.region id l.toArray true).wp P Q a w:=by
 refine wp_region_any hm (Q6t _ _ _ _ (S:=Ext Z w.drew) (z:=z) ?_)
 have:=h w.drew (hM.step (Ext.drew w))
 subst hn
 simpa using this
theorem Qg2 (hK:K N L a) (i:Nat) {v:Value} (hi:ops[i]? = some o) (hz:(Q3e ops z i&&!(Nat.beq i z))=true) (hs:Region.noSelect ops=true) (hf:Region.free .any ops listed i=true) (hr:(Region.ready .any ops listed).contains i=true)
    (hg:gd L ops o.guard=some true) (hd:o.dst=some d) (hN:Nat.blt d N=true) (hS:S w) (hQ:∀ c a w,Q (.panic c) (a.put o.dst v) w→Q (.panic c) a w)
    (hy:∀ w,S w→(execOp a.eval o).run P w=.ok (.value v) w) (h:∀ a,K N ((d,v)::L) a→Qw0 P ops Q S z fuel (listed.setIfInBounds i true) a w):Qw0 P ops Q S z (fuel+1) listed a w:=by
 simp only [Bool.and_eq_true,Bool.not_eq_true'] at hz
 have hne:i≠z:=λe=>by subst e; simp at hz
 exact Jgg hi hz.1 (Region.noSelect_spec hs) hQ fuel listed a w (Region.free_spec hi hf) (by simpa using hr) (.inl ⟨hK.wanted hg,hy⟩) hS hne (by rw [hd]; exact h _ (hK.put d hN v))
theorem Qk8 (hK:K N L a) (i:Nat) {v:Value} (hi:ops[i]? = some o) (hz:(Q3e ops z i&&!(Nat.beq i z))=true) (hs:Region.noSelect ops=true) (hf:Region.free .any ops listed i=true) (hr:(Region.ready .any ops listed).contains i=true)
    (hg:gd L ops o.guard=some true) (hd:o.dst=some d) (hN:Nat.blt d N=true) (hS:S w) (hQ:∀ c a w,Q (.panic c) (a.put o.dst v) w→Q (.panic c) a w)
    (hp:Qnq L o.op=some v) (h:∀ a,K N ((d,v)::L) a→Qw0 P ops Q S z fuel (listed.setIfInBounds i true) a w):Qw0 P ops Q S z (fuel+1) listed a w :=
 Qg2 hK i hi hz hs hf hr hg hd hN hS hQ (λw _=>Qw6 hK hp P w) h
theorem Jgw {rs:List Nat} (hr:Region.ready .any ops listed=rs) (hne:rs≠[])
    (h:∀ i∈rs,wpOp P ops Q i (λa' w'=>(i≠z→S w')∧Qw0 P ops Q S z fuel (listed.setIfInBounds i true) a' w') a w):Qw0 P ops Q S z (fuel+1) listed a w :=
 ⟨λh0=>absurd (hr ▸ h0) hne,hr ▸ h⟩
theorem Jmx (i:Nat) (hr:Region.ready .any ops listed=[i]) (hi:ops[i]? = some o)
    (h:wpList P ops (Exit.then (λa' w'=>(i≠z→S w')∧Qw0 P ops Q S z fuel (listed.setIfInBounds i true) a' w') Q) [o] a w):Qw0 P ops Q S z (fuel+1) listed a w :=
 Jgw hr (by simp) λj hj=>by
  simp only [List.mem_singleton] at hj
  subst hj
  exact Qrf hi h
theorem Jnm (i j:Nat) {o':Oper} (hr:Region.ready .any ops listed=[i,j]) (hi:ops[i]? = some o) (hj:ops[j]? = some o')
    (h:wpList P ops (Exit.then (λa' w'=>(i≠z→S w')∧Qw0 P ops Q S z fuel (listed.setIfInBounds i true) a' w') Q) [o] a w)
    (h':wpList P ops (Exit.then (λa' w'=>(j≠z→S w')∧Qw0 P ops Q S z fuel (listed.setIfInBounds j true) a' w') Q) [o'] a w):Qw0 P ops Q S z (fuel+1) listed a w :=
 Jgw hr (by simp) λk hk=>by
  simp only [List.mem_cons,List.not_mem_nil,or_false] at hk
  rcases hk with rfl | rfl
  · exact Qrf hi h
  · exact Qrf hj h'
theorem Jgn (i j k:Nat) {o' o'':Oper} (hr:Region.ready .any ops listed=[i,j,k]) (hi:ops[i]? = some o) (hj:ops[j]? = some o') (hk:ops[k]? = some o'')
    (h:wpList P ops (Exit.then (λa' w'=>(i≠z→S w')∧Qw0 P ops Q S z fuel (listed.setIfInBounds i true) a' w') Q) [o] a w)
    (h':wpList P ops (Exit.then (λa' w'=>(j≠z→S w')∧Qw0 P ops Q S z fuel (listed.setIfInBounds j true) a' w') Q) [o'] a w)
    (h'':wpList P ops (Exit.then (λa' w'=>(k≠z→S w')∧Qw0 P ops Q S z fuel (listed.setIfInBounds k true) a' w') Q) [o''] a w):Qw0 P ops Q S z (fuel+1) listed a w :=
 Jgw hr (by simp) λm hm=>by
  simp only [List.mem_cons,List.not_mem_nil,or_false] at hm
  rcases hm with rfl | rfl | rfl
  · exact Qrf hi h
  · exact Qrf hj h'
  · exact Qrf hk h''
theorem Quu (hr:Region.ready .any ops listed=[]) (h:Q .normal a w):∀ {fuel:Nat},Qw0 P ops Q S z fuel listed a w
 | 0=>⟨hr,h⟩
 | _+1=>⟨λ_=>h,by rw [hr]; simp⟩
theorem Q6c {F G:List Nat} {n:Nat} (hF:F.Nodup) (hG:G.Nodup) (h1:∀ b∈F,b<n) (h2:∀ b∈G,n≤b):(F++G).Nodup :=
 List.nodup_append.2 ⟨hF,hG,λa ha b hb e=>by have:=h1 a ha; have:=h2 b hb; omega⟩
theorem Quh {α:Type} [Flat α] {w:World}:∀ (k:Nat) {Gs:List (List Nat)} {cells:List Value} {xs:List α},owL w Gs cells xs→k≤xs.length→owL w (Gs.drop k) (cells.drop (k*Enc.sz α)) (xs.drop k)
 | 0,Gs,cells,xs,h,_=>by simpa using h
 | k+1,G::Gs,cells,x::xs,⟨_,h⟩,hk=>by
  have:=Quh k h (by simpa using hk)
  rw [List.drop_drop] at this
  simpa [Nat.add_mul,Nat.add_comm] using this
 | k+1,[],_,[],h,hk=>by simp at hk
 | k+1,[],_,_::_,h,_=>h.elim
 | k+1,_::_,_,[],h,_=>h.elim
theorem Qzy {α:Type} [Flat α] {w:World}:∀ {Gs:List (List Nat)} {cells:List Value} {xs:List α},owL w Gs cells xs→Gs.flatten=[]
 | [],_,[],_=>rfl
 | G::Gs,cells,x::xs,⟨h,h'⟩=>by
  have h0:G=[]:=h.1
  rw [List.flatten_cons,h0,Qzy h']; rfl
 | [],_,_::_,h=>h.elim
 | _::_,_,[],h=>h.elim
theorem Q3z {α:Type} [Flat α] {u:World} {F:List Nat} {v:Value} {xs ys:List α} {lo:Int} {k:IntKind} (hf:ow u F [v] xs) (hx:sls xs lo xs.length=some ys) (hK:K N L a) {t:TypeId} (hu:TS P t (Enc.sz α)) {x i:Operand}
    (hg:gd L ops o.guard=some true) (hd:o.dst=some d) (hN:Nat.blt d N=true)
    (ho:o.op=.slice t x (some i) none none) (hv:ev L x=some v) (hi':ev L i=some (.int k lo))
    (h:∀ v' a,K N ((d,v')::L) a→ow u F [v'] ys→wpList P ops Q rest a w):wpList P ops Q (o::rest) a w:=by
 obtain ⟨ao,cap,rfl,h1,h2⟩:=Ql0 (Enc.ow_rd hf)
 obtain ⟨e,hu,hs⟩:=hu
 have hx0:=hx
 unfold sls at hx
 split at hx
 · rename_i h0
   simp only [Option.some.injEq] at hx
   have hr:ow u F [.slice (if cap=lo.toNat then ao else ao.map (·.add (lo.toNat*Enc.sz α))) ((xs.length:Int).toNat - lo.toNat) (cap - lo.toNat)] ys:=by
    subst hx
    rcases hf with ⟨hq,rfl,rfl⟩ | ⟨g,off,cap',c,e',Gs,hq,e1,e2,e3,e4,e5,rfl,e6⟩
    · simp only [List.cons.injEq,Value.slice.injEq,and_true] at hq
      obtain ⟨rfl,_,rfl⟩:=hq
      refine .inl ⟨?_,by simp,rfl⟩
      simp
    · simp only [List.cons.injEq,Value.slice.injEq,and_true,true_and] at hq
      obtain ⟨rfl,rfl⟩:=hq
      have hlen:((xs.drop lo.toNat).take ((xs.length:Int).toNat - lo.toNat))=xs.drop lo.toNat:=by
       apply List.take_of_length_le; simp
      rw [hlen]
      have hll:(xs.drop lo.toNat).length=(xs.length:Int).toNat - lo.toNat:=by simp
      have hle:lo.toNat≤xs.length:=by omega
      have hGd:(Gs.drop lo.toNat).flatten=[]:=Qzy (Quh lo.toNat e5 hle)
      have hG0:Gs.flatten=[]:=Qzy e5
      by_cases hc:cap=lo.toNat
      · refine .inr ⟨g,off,cap - lo.toNat,c,e',Gs.drop lo.toNat,?_,by rw [hll]; omega,by omega,e3,?_,?_,by rw [hGd,hG0],e6⟩
        · rw [if_pos hc,hll]
        · rw [Nat.sub_mul]; omega
        · have hz:xs.drop lo.toNat=[]:=List.drop_of_length_le (by omega)
          have:=Quh lo.toNat e5 hle
          rw [hz] at this ⊢
          rw [List.drop_take,show xs.length*Enc.sz α - lo.toNat*Enc.sz α=0 by rw [show xs.length=lo.toNat by omega]; simp] at this
          simpa using this
      · refine .inr ⟨g,off+lo.toNat*Enc.sz α,cap - lo.toNat,c,e',Gs.drop lo.toNat,?_,by rw [hll]; omega,by omega,e3,?_,?_,by rw [hGd,hG0],e6⟩
        · rw [if_neg hc,hll]; simp [Qgk]
        · have:lo.toNat*Enc.sz α≤cap*Enc.sz α:=Nat.mul_le_mul_right _ (by omega)
          rw [Nat.sub_mul]; omega
        · have:=Quh lo.toNat e5 hle
          rw [List.drop_take,List.drop_drop] at this
          rw [hll,show ((xs.length:Int).toNat - lo.toNat)*Enc.sz α=xs.length*Enc.sz α - lo.toNat*Enc.sz α by rw [Nat.sub_mul]; simp]
          exact this
   refine Que hK hg hd hN ?_ λa hK=>h _ a hK hr
   have c2:0≤lo∧lo≤(xs.length:Int):=by omega
   simp [execOp,ho,Instr.sliceAt,Instr.slice,Instr.sliceBounds,Instr.sliceBound,hK.ev hv,hK.ev hi',run_underlying hu,asIntOf,c2,hs]
 · simp at hx
end
end Go.Proofs.YthkaklkinepfkaaGreatDoor
set_option linter.unusedSimpArgs false
set_option linter.unusedVariables false
namespace Go.Proofs.YthkaklkinepfkaaGreatDoor
open Go Go.RowKit
open Enc (rd ow)
open Arg (argv)
open Ret (retv)
section
variable {β:Type} [Enc β] {w w0:World}
end
end Go.Proofs.YthkaklkinepfkaaGreatDoor
set_option linter.unusedSimpArgs false
set_option linter.unusedVariables false
namespace Go.Proofs.YthkaklkinepfkaaGreatDoor
open Go Go.RowKit
open Enc (rd ow)
def Win (sz:Nat) (v:Value) (lo m:Nat) (v':Value):Prop:=∃ ao' cap',v'=.slice ao' m cap'∧∀ g off n cap,v=.slice (some ⟨g,off,none⟩) n cap→0<m→ao'=some ⟨g,off+lo*sz,none⟩
section
variable {α:Type} [Enc α]
end
section
variable {P:Program} {ops:Array Oper} {Q:Exit→Act→World→Prop} {rest:List Oper} {o:Oper} {a:Act} {w:World} {N:Nat} {L:List (Nat×Value)}
variable {X:List Nat} {w0:World} {M:List (List Nat×World)} {d:Nat}
theorem St.tail {p:List Nat×World} (h:St X w0 w (p::M)):St X w0 w M:=by
 have hs:∀ b∈fps M,b∈fps (p::M):=λb hb=>by simp only [fps,List.flatMap_cons]; exact List.mem_append_right _ hb
 refine ⟨h.ext,λq hq=>h.ok q (List.mem_cons_of_mem _ hq),λb hb=>h.lt b (hs b hb),λb hb=>h.lo b (hs b hb),?_⟩
 have:=h.nd
 simp only [fps,List.flatMap_cons] at this
 exact (List.nodup_append.1 this).2.1
theorem Ja1 {α:Type} [Enc α] {u:World} {F:List Nat} {v:Value} {xs ys:List α} {lo:Int} (hf:rd u F [v] xs) (hx:sls xs lo xs.length=some ys) {t:TypeId} (hu:TS P t (Enc.sz α)) :
    ∃ v',rd u F [v'] ys∧Win (Enc.sz α) v lo.toNat ys.length v'∧∀ {N:Nat} {L:List (Nat×Value)} {a:Act} {o:Oper} {x i:Operand} {k:IntKind},K N L a→o.op=.slice t x (some i) none none→ev L x=some v→ev L i=some (.int k lo)→∀ w:World,(execOp a.eval o).run P w=.ok (.value v') w:=by
 obtain ⟨ao,cap,rfl,h1,h2⟩:=Ql0 hf
 obtain ⟨e,hu,hs⟩:=hu
 have hr:=Qxq hf hx
 have hx0:=hx
 unfold sls at hx
 split at hx
 · rename_i h0
   have hyl:ys.length=(xs.length:Int).toNat - lo.toNat:=by
    simp only [Option.some.injEq] at hx
    subst hx; simp
   refine ⟨_,by simpa using hr,?_,?_⟩
   · rw [hyl]
     refine ⟨_,_,rfl,λg off n cap' he hm=>?_⟩
     injection he with e1 e2 e3
     subst e1; subst e3
     rw [if_neg (by omega)]
     simp only [Option.map_some,Addr.add]
     by_cases hl:lo.toNat*Enc.sz α=0 <;> simp [hl]
   · intro N L a o x i k hK ho hv hi' w
     have c2:0≤lo∧lo≤(xs.length:Int):=by omega
     simp [execOp,ho,Instr.sliceAt,Instr.slice,Instr.sliceBounds,Instr.sliceBound,hK.ev hv,hK.ev hi',run_underlying hu,asIntOf,c2,hs]
 · simp at hx
theorem Ji1 {α:Type} [Enc α] {u:World} {F:List Nat} {v:Value} {xs ys:List α} {hi:Int} (hf:rd u F [v] xs) (hx:sls xs 0 hi=some ys) {t:TypeId} (hu:TS P t (Enc.sz α)) :
    ∃ v',rd u F [v'] ys∧Win (Enc.sz α) v 0 ys.length v'∧∀ {N:Nat} {L:List (Nat×Value)} {a:Act} {o:Oper} {x j:Operand} {k:IntKind},K N L a→o.op=.slice t x none (some j) none→ev L x=some v→ev L j=some (.int k hi)→∀ w:World,(execOp a.eval o).run P w=.ok (.value v') w:=by
 obtain ⟨ao,cap,rfl,h1,h2⟩:=Ql0 hf
 obtain ⟨e,hu,hs⟩:=hu
 have hr:=Qxq hf hx
 unfold sls at hx
 split at hx
 · rename_i h0
   have hyl:ys.length=hi.toNat:=by
    simp only [Option.some.injEq] at hx
    subst hx; simp; omega
   refine ⟨.slice (if cap=0 then ao else ao) hi.toNat cap,?_,?_,?_⟩
   · have e:(if cap=(0:Int).toNat then ao else ao.map (·.add ((0:Int).toNat*Enc.sz α)))=(if cap=0 then ao else ao):=by
       by_cases hc:cap=0
       · simp [hc]
       · cases ao with
         | none=>simp [hc]
         | some p=>simp [hc,Addr.add]
     rw [e] at hr
     simpa using hr
   · rw [hyl]
     refine ⟨_,_,rfl,λg off n cap' he hm=>?_⟩
     injection he with e1 e2 e3
     subst e1
     simp
   · intro N L a o x j k hK ho hv hj w
     have c1:0≤hi∧hi≤(cap:Int):=by omega
     simp [execOp,ho,Instr.sliceAt,Instr.slice,Instr.sliceBounds,Instr.sliceBound,hK.ev hv,hK.ev hj,run_underlying hu,asIntOf,c1,hs]
     intro _
     cases ao <;> simp [Addr.add]
 · simp at hx
structure Raw (n:Nat) where
 l:List Value
 len:l.length=n
 one:∀ c∈l,c.oneCell'=true
instance (n:Nat):Flat (Raw n):=⟨n,Raw.l,Raw.len,Raw.one⟩
end
end Go.Proofs.YthkaklkinepfkaaGreatDoor
set_option linter.unusedSimpArgs false
set_option linter.unusedVariables false
namespace Go.Proofs.YthkaklkinepfkaaGreatDoor
open Go Go.RowKit
open Enc (rd ow)
section
variable {P:Program} {ops:Array Oper} {Q:Exit→Act→World→Prop} {rest:List Oper} {o o1 o2:Oper} {a:Act} {w w':World} {N:Nat} {L:List (Nat×Value)}
variable {X:List Nat} {w0:World} {M:List (List Nat×World)} {d d':Nat} {S:World→Prop} {fuel:Nat} {listed:Array Bool}
variable {α:Type} [Enc α] {F:List Nat} {cs:List Value} {x:α} {u:World}
theorem St.r (h:St [] w0 w M) (hr:rd w0 F cs x):rd w F cs x:=Enc.rd_agr hr (h.a00 (Enc.rd_lt hr))
theorem St.r1 (h:St X w0 w M) (hr:rd w0 F cs x) (hd:∀ b∈F,b∉X):rd w F cs x:=Enc.rd_agr hr (h.a0 (Enc.rd_lt hr) hd)
theorem St.q (h:St X w0 w M) (ho:ow u F cs x) (i:Nat) (hi:M[i]? = some (F,u)):rd w F cs x:=Enc.rd_agr (Enc.ow_rd ho) (h.a i hi)
theorem St.v (h:St X w0 w M) (ho:ow u F cs x) (i:Nat) (hi:M[i]? = some (F,u)):ow w F cs x:=Enc.ow_agr ho (h.a i hi)
theorem St.y (h:St X w0 w M) {b:Nat} {e:TypeId} (hb:bx u b cs e) (i:Nat) (hi:M[i]? = some ([b],u)):bx w b cs e:=hb.agr (h.a i hi) (by simp)
theorem St.here (h:St X w0 w M) (hx:∀ w,ow w F cs x):ow w F cs x:=hx w
theorem St.mu (h:St X w0 w M) (i:Nat) (hi:M[i]? = some (F,u)) (hE:Ext F w w'):St X w0 w' (M.set i (F,w')) :=
 h.mut i hi hE F (λb hb=>⟨.inl hb,hE.lt1 (h.ltF i hi) b hb⟩) (h.ndF i hi)
theorem St.nw (h:St X w0 w M) (hE:Ext [] w w') (hl:∀ b∈F,w.heap.size≤b) (ho:ow w' F cs x):St X w0 w' ((F,w')::M) :=
 h.new hE F (λb hb=>⟨hl b hb,Enc.rd_lt (Enc.ow_rd ho) b hb⟩) (Enc.ow_nd ho)
theorem dT (hK:K N L a) (i:Nat) {v:Value} (hi:ops[i]? = some o) (hc:chk L ops N true o=some d) (hS:S w)
    (hy:∀ w,S w→(execOp a.eval o).run P w=.ok (.value v) w) (h:∀ a,K N ((d,v)::L) a→wpAnyH P .any ops Q S fuel (listed.setIfInBounds i true) a w)
    (ho:okD ops listed i=true:=by kernel_rfl) (hQ:∀ c a w,Q (.panic c) (a.put o.dst v) w→Q (.panic c) a w:=by exact λ_ _ _=>id):wpAnyH P .any ops Q S (fuel+1) listed a w :=
 dt hK i hi ho hc hS hQ hy h
theorem dM (is:List Nat) (n:Nat) {L':List (Nat×Value)} (hn:is.length=n) (hK:K N L a) (hv:Jh6 N ops is L=some L') (hS:S w)
    (h:∀ a,K N L' a→wpAnyH P .any ops Q S fuel (Jir listed is) a w) (ho:okN ops listed is=true:=by kernel_rfl)
    (hQ:∀ c (a:Act) d v w,Q (.panic c) (a.put (some d) v) w→Q (.panic c) a w:=by exact λ_ _ _ _ _=>id):wpAnyH P .any ops Q S (fuel+n) listed a w :=
 dN is n hn hK ho hv hS hQ h
theorem fC {β:Type} {p:β→Prop} {y:β} {l:List β} (h1:p y) (h2:∀ z∈l,p z):∀ z∈y::l,p z:=List.forall_mem_cons.2 ⟨h1,h2⟩
theorem fN {β:Type} {p:β→Prop}:∀ z∈([]:List β),p z:=List.forall_mem_nil _
abbrev pt (b:Nat):Value:=.pointer (some ⟨b,0,none⟩)
theorem ns {Z Y:List Nat} {wd:World} {next:Act→World→Prop} (s:Ext Z wd w) (e:Ext Y w w') (h:Ext Z wd w'→next a w') (hY:∀ y∈Y,y∈Z∨wd.heap.size≤y:=by simp) :
    wpList P ops (Exit.then (λa' w'=>Ext Z wd w'∧next a' w') Q) [] a w':=by
 have t:=s.trans e hY
 exact wpList_nil ⟨t,h t⟩
theorem dD (h:Q .normal a w) (hr:Region.ready .any ops listed=[]:=by kernel_rfl):wpAnyH P .any ops Q S fuel listed a w:=Jip hr h
theorem dF (hK:K N L a) (i:Nat) {t:TypeId} {f off:Nat} (hF:FA P t f off) {x:Operand} {p:Addr}
    (h1:(ops[i]?,o.op,ev L x,chk L ops N true o)=(some o,.fieldAddr t x f,some (.pointer (some p)),some d)) (hS:S w)
    (h:∀ a,K N ((d,.pointer (some (p.add off)))::L) a→wpAnyH P .any ops Q S fuel (listed.setIfInBounds i true) a w)
    (ho:okD ops listed i=true:=by kernel_rfl) (hQ:∀ c a v w,Q (.panic c) (a.put o.dst v) w→Q (.panic c) a w:=by exact λ_ _ _ _=>id):wpAnyH P .any ops Q S (fuel+1) listed a w:=by
 simp only [Prod.mk.injEq] at h1
 obtain ⟨a1,a2,a3,a4⟩:=h1
 exact dt hK i a1 ho a4 hS (λc a w=>hQ c a _ w) (λw s=>Qwc hF hK a2 a3) h
theorem sT {t n:Nat} {cs':List Value} (hs:∀ w,(sizeOf t).run P w=.ok n w) (hM:St X w0 w M) (i:Nat) {b:Nat} {e:TypeId} (hb:bx u b cs e) (off:Nat) (hK:K N L a) {x y:Operand} {p:Addr} {v:Value}
    (h1:(M[i]?,gd L ops o.guard,o.dst,o.op,ev L x,p,ev L y,Qbb cs off v.cells.toList,v.cells.size,Nat.ble (off+n) cs.length)=(some ([b],u),some true,none,.store t x y,some (.pointer (some p)),(⟨b,0,none⟩:Addr).add off,some v,cs',n,true))
    (h2:v.cells.toList.all Value.oneCell'=true)
    (h:∀ w' a,K N L a→Ext [b] w w'→St X w0 w' (M.set i ([b],w'))→bx w' b cs' e→wpList P ops Q rest a w'):wpList P ops Q (o::rest) a w:=by
 simp only [Prod.mk.injEq] at h1
 obtain ⟨a1,a2,a3,a4,a5,a6,a7,a8,a9,a10⟩:=h1
 exact Jj5 hs hM i hb off hK a1 a2 a3 a4 a5 a6 a7 a8 a9 a10 h2 h
theorem sB {t n sz bytes:Nat} {z:List Value} (hT:TE P t sz bytes z) (hM:St X w0 w M) (hK:K N L a) {ps:List (Nat×Operand)} {vs:List Value} {cs:List Value}
    (h1:(gd L ops o.guard,o.dst,Nat.blt d N,o.op,evs L (ps.map (·.2)),ps.map (·.1),vs.length,vs.flatMap λv=>v.cells.toList)=(some true,some d,true,.buildSlice t n ps.toArray,some vs,List.range vs.length,n,cs))
    (hvs:∀ v∈vs,v.cells.size=sz)
    (h:∀ g w' e a,K N ((d,.slice (some ⟨g,0,none⟩) n n)::L) a→St X w0 w' (([g],w')::M)→Ext [] w w'→bx w' g cs e→wpList P ops Q rest a w') (hsm:n*sz≤16777216:=by decide):wpList P ops Q (o::rest) a w:=by
 simp only [Prod.mk.injEq] at h1
 obtain ⟨a1,a2,a3,a4,a5,a6,a7,a8⟩:=h1
 exact Q6m hT hM hK a1 a2 a3 a4 a5 a6 a7 hsm a8 hvs h
theorem en {f:FuncId} {fn:Func} {c:Code} {R:Ending→World→Prop} {vs:List Value}
    (hf:P.funcs[f]? = some fn) (hb:fn.body=some c) (hn:fn.ntmps=N) (hle:Nat.ble vs.length N=true)
    (h:∀ a,K N (Jgk 0 vs) a→St [] w w []→c.wp P (bodyPost P fn R) a w):Calls P f vs.toArray w R:=enter hf hb hn hle λa k=>h a k (St.start w)
theorem St.sl (h:St X w0 w M) (is:List Nat) {M':List (List Nat×World)} (hs:Jaq M is=some M') (hn:is.Nodup:=by decide):St X w0 w M':=h.sel is hs hn
theorem sC (hK:K N L a) {f:FuncId} {xs:List Operand} {vs:List Value} {R:Ending→World→Prop} {tys:Array TypeId}
    (hcall:∀ (args:Array Value) (w:World),(callFunc f args).run P w=.ok (.enter f args) w)
    (h1:(gd L ops o.guard,o.dst,Nat.blt d N,o.op,evs L xs)=(some true,some d,true,.call { callee:=.value (.func f),args:=xs.toArray,argTypes:=tys },some vs))
    (hc:Calls P f vs.toArray w R) (hR:∀ e w',R e w'→∃ v,e=.returned v∧∀ a,K N ((d,v)::L) a→wpList P ops Q rest a w'):wpList P ops Q (o::rest) a w:=by
 simp only [Prod.mk.injEq] at h1
 obtain ⟨a1,a2,a3,a4,a5⟩:=h1
 exact Q8u hK hcall a1 a2 a3 a4 a5 hc hR
theorem cC (hK:K N L a) (hM:St X w0 w M) {f:FuncId} {xs:List Operand} {vs:List Value} {v:Value} {tys:Array TypeId}
    (hcall:∀ (args:Array Value) (w:World),(callFunc f args).run P w=.ok (.enter f args) w)
    (h1:(o.op,evs L xs,chk L ops N true o)=(.call { callee:=.value (.func f),args:=xs.toArray,argTypes:=tys },some vs,some d))
    (hc:Calls P f vs.toArray w λe w'=>e=.returned v∧Ext [] w w') (hR:∀ w',Ext [] w w'→∀ a,K N ((d,v)::L) a→St X w0 w' M→wpList P ops Q rest a w'):wpList P ops Q (o::rest) a w:=by
 simp only [Prod.mk.injEq] at h1
 obtain ⟨a1,a2,a3⟩:=h1
 exact cE hK hM hcall a3 a1 a2 hc hR
end
end Go.Proofs.YthkaklkinepfkaaGreatDoor
set_option linter.unusedSimpArgs false
set_option linter.unusedVariables false
namespace Go.Proofs.YthkaklkinepfkaaGreatDoor
open Go Go.RowKit
open Enc (rd ow)
section
variable {P:Program} {ops:Array Oper} {rest:List Oper} {o:Oper} {a:Act} {w w':World} {N:Nat} {L:List (Nat×Value)}
variable {X:List Nat} {w0:World} {M:List (List Nat×World)}
def Q8o (l:List U8):Option ByteArray:=if ∀ b∈l,0≤b.n∧b.n≤255 then some ⟨(l.map λb=>UInt8.ofNat b.n.toNat).toArray⟩ else none
theorem Q10 {l:List U8} {r:ByteArray} (hx:Q8o l=some r) {F:List Nat} {v:Value} (hr:rd w F [v] l) (hK:K N L a) {t t' e:TypeId} (h1:P.underlying t=some (.slice e)) (h2:P.underlying e=some (.int .u8)) (h3:P.underlying t'=some .string) {x:Operand}
    (ho:o.op=.convert t t' x) (hv:ev L x=some v):(execOp a.eval o).run P w=.ok (.value (.string r)) w:=by
 unfold Q8o at hx
 split at hx
 · rename_i hbd
   simp only [Option.some.injEq] at hx
   subst hx
   have hget:∀ (j:Nat) (b:U8),l[j]? = some b→PtAt w (Qmz v 1 j) [.int .u8 b.n]:=λj b hj=>(Q5p hr hj).1
   obtain ⟨ao,cap,hvv,_,_,_,h4⟩:=hr
   simp only [List.cons.injEq,and_true] at hvv
   subst hvv
   rcases h4 with rfl | ⟨g,off,c,e',fr,rfl,_⟩
   · have hc:(convert t t' (.slice ao (([]:List U8).length) cap)).run P w=.ok (.string ⟨#[]⟩) w:=by
       cases ao with
       | none=>exact run_convert_bytes_nil w t e h1 h2 0 cap t' h3
       | some ad=>exact run_convert_bytes_back (P:=P) w t t' e ad cap [] h1 h2 h3 (λj hj=>absurd hj (by simp))
     simp [execOp,ho,hK.ev hv] at hc ⊢
     simp [hc]
   · have hc:=run_convert_bytes_back (P:=P) w t t' e ⟨g,off,none⟩ cap (l.map λb=>UInt8.ofNat b.n.toNat) h1 h2 h3 (λj hj=>by
       rw [List.length_map] at hj
       have hp:=(hget j l[j] (List.getElem?_eq_getElem hj)).cell 0 _ rfl
       simp only [Qmz,Qgk,Nat.mul_one,Nat.add_zero] at hp
       rw [Qgk,hp]
       simp only [List.getElem_map,Option.some.injEq,Value.int.injEq,true_and]
       have hb:=hbd l[j] (List.getElem_mem hj)
       have:(UInt8.ofNat (l[j].n.toNat)).toNat=l[j].n.toNat:=by
        rw [UInt8.toNat_ofNat']
        omega
       rw [this]; omega)
     rw [List.length_map] at hc
     simp [execOp,ho,hK.ev hv,hc]
 · simp at hx
def Tb (P:Program) (w:World):Prop:=(∃ g,P.globalNamed "internal/strconv.uint64pow10" = some g) ∧ Lib.TabIs P w "internal/strconv.uint64pow10" .u64 Lib.pow10Tab
theorem Tb.ext (h:Tb P w) (hE:Ext [] w w'):Tb P w':=by
 obtain ⟨⟨g,hg⟩,h⟩:=h
 exact ⟨⟨g,hg⟩,Go.Joins.tab_stays hg h hE.below (Nat.le_refl _)⟩
theorem St.tb (h:St [] w0 w M) (hT:Tb P w0):Tb P w:=hT.ext h.ext
def Jcw (n:Int):Option ByteArray:=if -9223372036854775808≤n∧n≤9223372036854775807 then some ⟨(Lib.itoa n).toArray⟩ else none
theorem Jc3 (w:World) (q:Nat) (os:Array Obj):Ext [] w (Go.Sort.grow (w.drewN q) os) :=
 ⟨rfl,rfl,rfl,by simp [Go.Sort.grow],λi hi _=>by
  show ((w.drewN q).heap++os)[i]? = _
  rw [Array.getElem?_append_left (by show i<w.heap.size; omega)]
  rfl⟩
theorem Jj8 {f:FuncId} (hc:∀ (n:Int),-9223372036854775808 ≤ n → n ≤ 9223372036854775807 → ∀ (w:World),Lib.TabIs P w "internal/strconv.uint64pow10" .u64 Lib.pow10Tab → Calls P f #[.int .i64 n] w λe w'=>e = .returned (.string ⟨(Lib.itoa n).toArray⟩) ∧ ∃ k os,w' = Go.Sort.grow (w.drewN k) os)
    (hT:Tb P w0) (n:Int) {r:ByteArray} (h:Jcw n=some r):Calls P f #[.int .i64 n] w0 λe w=>e=.returned (.string r)∧Ext [] w0 w:=by
 unfold Jcw at h
 split at h
 · rename_i h0
   simp only [Option.some.injEq] at h
   subst h
   refine (hc n h0.1 h0.2 w0 hT.2).mono λe w ⟨he,k,os,hw⟩=>⟨he,?_⟩
   rw [hw]
   exact Jc3 _ _ _
 · simp at h
end
end Go.Proofs.YthkaklkinepfkaaGreatDoor
set_option linter.unusedSimpArgs false
set_option linter.unusedVariables false
namespace Go.Proofs.YthkaklkinepfkaaGreatDoor
open Go Go.RowKit
open Enc (rd ow)
section
variable {P:Program} {ops:Array Oper} {rest:List Oper} {o:Oper} {a:Act} {w w':World} {N:Nat} {L:List (Nat×Value)}
variable {X:List Nat} {w0:World} {M:List (List Nat×World)}
def obx (w:World) (F:List Nat) (b:Nat) (x:Request) (e:TypeId):Prop :=
 ∃ (v0:Value) (F0:List Nat) (v1:Value) (F1:List Nat) (v2:Value) (F2:List Nat),bx w b [.int .i64 x.f0,.int .i64 x.fJ.fW,.int .i64 x.fJ.fD,.int .i64 x.fJ.fH,.int .i64 x.fJ.fQ,.int .i64 x.fG,v0,v1,.int .i64 x.fT,v2] e ∧
  F=[b]++(F0++(F1++F2))∧ow w F0 [v0] x.fR∧ow w F1 [v1] x.fU∧ow w F2 [v2] x.fV∧F.Nodup
theorem obx.nd {F:List Nat} {b:Nat} {x:Request} {e:TypeId} (h:obx w F b x e):F.Nodup:=by
 obtain ⟨_,_,_,_,_,_,_,_,_,_,_,h⟩:=h
 exact h
theorem obx.lt {F:List Nat} {b:Nat} {x:Request} {e:TypeId} (h:obx w F b x e):∀ y∈F,y<w.heap.size:=by
 obtain ⟨_,F0,_,F1,_,F2,hb,rfl,h0,h1,h2,_⟩:=h
 intro y hy
 simp only [List.mem_append,List.mem_singleton] at hy
 rcases hy with rfl | hy | hy | hy
 · exact Qgx hb
 · exact Enc.rd_lt (Enc.ow_rd h0) y hy
 · exact Enc.rd_lt (Enc.ow_rd h1) y hy
 · exact Enc.rd_lt (Enc.ow_rd h2) y hy
theorem St.split4 {A F G H:List Nat} {u:World} (h:St X w0 w ((A++(F++(G++H)),u)::M)):St X w0 w ((A,u)::(F,u)::(G,u)::(H,u)::M):=by
 have e:fps ((A,u)::(F,u)::(G,u)::(H,u)::M)=fps ((A++(F++(G++H)),u)::M):=by simp [fps]
 refine ⟨h.ext,?_,by rw [e]; exact h.lt,by rw [e]; exact h.lo,by rw [e]; exact h.nd⟩
 have h0:=h.ok _ (List.mem_cons_self)
 intro p hp
 simp only [List.mem_cons] at hp
 rcases hp with rfl | rfl | rfl | rfl | hp
 · exact h0.sub (λb hb=>by simp [hb])
 · exact h0.sub (λb hb=>by simp [hb])
 · exact h0.sub (λb hb=>by simp [hb])
 · exact h0.sub (λb hb=>by simp [hb])
 · exact h.ok p (by simp [hp])
theorem St.joinq {A F G H:List Nat} {u1 u2 u3 u4:World} (h:St X w0 w ((A,u1)::(F,u2)::(G,u3)::(H,u4)::M)):St X w0 w ((A++(F++(G++H)),w)::M):=by
 have e:fps ((A++(F++(G++H)),w)::M)=fps ((A,u1)::(F,u2)::(G,u3)::(H,u4)::M):=by simp [fps]
 refine ⟨h.ext,?_,by rw [e]; exact h.lt,by rw [e]; exact h.lo,by rw [e]; exact h.nd⟩
 intro p hp
 rcases List.mem_cons.1 hp with rfl | hp
 · exact Agr.refl _ _
 · exact h.ok p (by simp [hp])
theorem obx.start {F:List Nat} {b:Nat} {x:Request} {e:TypeId} (h:obx w0 F b x e) :
    ∃ (v0:Value) (F0:List Nat) (v1:Value) (F1:List Nat) (v2:Value) (F2:List Nat),bx w0 b [.int .i64 x.f0,.int .i64 x.fJ.fW,.int .i64 x.fJ.fD,.int .i64 x.fJ.fH,.int .i64 x.fJ.fQ,.int .i64 x.fG,v0,v1,.int .i64 x.fT,v2] e ∧
     ow w0 F0 [v0] x.fR∧ow w0 F1 [v1] x.fU∧ow w0 F2 [v2] x.fV∧St F w0 w0 [([b],w0),(F0,w0),(F1,w0),(F2,w0)]:=by
 have hl:=h.lt
 have hn:=h.nd
 obtain ⟨v0,F0,v1,F1,v2,F2,hb,rfl,h0,h1,h2,_⟩:=h
 exact ⟨v0,F0,v1,F1,v2,F2,hb,h0,h1,h2,(St.start1 w0 hl hn).split4⟩
theorem obx.fin {F0 F1 F2:List Nat} {b:Nat} {x:Request} {e:TypeId} {v0 v1 v2:Value} (hb:bx w b [.int .i64 x.f0,.int .i64 x.fJ.fW,.int .i64 x.fJ.fD,.int .i64 x.fJ.fH,.int .i64 x.fJ.fQ,.int .i64 x.fG,v0,v1,.int .i64 x.fT,v2] e)
    (h0:ow w F0 [v0] x.fR) (h1:ow w F1 [v1] x.fU) (h2:ow w F2 [v2] x.fV) (hn:([b]++(F0++(F1++F2))).Nodup):obx w ([b]++(F0++(F1++F2))) b x e:=⟨_,_,_,_,_,_,hb,rfl,h0,h1,h2,hn⟩
structure Te (P:Program) (w:World):Prop where
 t:Tb P w
 s:∃ (g:Nat) (tp:TypeId) (p:Value),P.globalNamed "strconv.ErrSyntax" = some g ∧ w.var? P "strconv.ErrSyntax" = some #[.iface tp p]
 r:∃ (g:Nat) (tp:TypeId) (p:Value),P.globalNamed "strconv.ErrRange" = some g ∧ w.var? P "strconv.ErrRange" = some #[.iface tp p]
theorem Q9x {n:String} {g:Nat} {cs:Array Value} (hg:P.globalNamed n=some g) (h:w.var? P n=some cs) (hE:Ext [] w w'):w'.var? P n=some cs:=by
 unfold World.var? at h ⊢
 rw [hg] at h ⊢
 simp only [Option.bind_eq_bind,Option.bind_some] at h ⊢
 cases hh:w.heap[g]? with
 | none=>simp [hh] at h
 | some o =>
  rw [hE.blk g (Array.getElem?_eq_some_iff.1 hh).1 (by simp),hh]
  rw [hh] at h
  exact h
theorem Te.ext (h:Te P w) (hE:Ext [] w w'):Te P w':=by
 obtain ⟨g1,t1,p1,a1,b1⟩:=h.s
 obtain ⟨g2,t2,p2,a2,b2⟩:=h.r
 exact ⟨h.t.ext hE,⟨g1,t1,p1,a1,Q9x a1 b1 hE⟩,⟨g2,t2,p2,a2,Q9x a2 b2 hE⟩⟩
theorem St.te (h:St [] w0 w M) (hT:Te P w0):Te P w:=hT.ext h.ext
theorem St.te2 (h:St [] w0 w M) (hT:Te P w0) (i:Nat) {F:List Nat} {u:World} (hi:M[i]? = some (F,u)):∀ w',Ext F w w'→Te P w':=λw' hE =>
 hT.ext (h.ext.trans hE λy hy=>.inr (h.fresh i hi y hy))
def Jdj (s:ByteArray):Option (Int×Bool):=if s.size≤1048576 then some (match Lib.atoiAll s.data.toList with
 | .ok v=>(v,false)
 | .range=>(Lib.atoiSat s.data.toList,true)
 | _=>(0,true)) else none
def isErr (v:Value) (b:Bool):Prop:=(b=false∧v=.nilIface)∨(b=true∧∃ t p,v=.iface t p)
theorem isErr.not {v:Value} {b:Bool} (h:isErr v b):v.oneCell'=true:=by
 rcases h with ⟨_,rfl⟩ | ⟨_,t,p,rfl⟩ <;> rfl
theorem Jnq {v:Value} {b:Bool} (he:isErr v b) (hK:K N L a) {t t':TypeId} (hu:P.underlying t=some (.interface (P.methodsAt t))) {x:Operand} {c:Value}
    (ho:o.op=.binOp .neq t x (.const c) t') (h1:ev L x=some v) (h2:ev L (.const c)=some .nilIface):(execOp a.eval o).run P w=.ok (.value (.bool b)) w:=by
 rcases he with ⟨rfl,rfl⟩ | ⟨rfl,u,p,rfl⟩
 · have:=run_neq_nil_nil (P:=P) w t hu
   simp [execOp,ho,hK.ev h1,hK.ev h2,eqGuard,this]
 · have:=run_neq_held_nil (P:=P) w t u p hu
   simp [execOp,ho,hK.ev h1,hK.ev h2,eqGuard,this]
theorem Qz9 (h:Below w.heap.size w w'):Ext [] w w':=⟨h.os,h.tape,h.output,h.size,λk hk _=>h.block k hk⟩
theorem Jke {f:FuncId} {tb:TypeId}
    (hok:∀ (s:ByteArray),s.size≤9223372036854775806→∀ (v:Int),Lib.atoiAll s.data.toList=.ok v→∀ (w:World),Calls P f #[.string s] w λe w'=>e=.returned (.tuple #[.int .i64 v,.nilIface])∧(w'=w∨∃ t,w'=Lib.bytesWorld w tb t))
    (hsy:∀ (s:ByteArray),s.size ≤ 281474976710656 → (∀ v,Lib.atoiAll s.data.toList ≠ .ok v) → Lib.atoiAll s.data.toList ≠ .range → ∀ (tp:TypeId) (p:Value) (w:World),w.var? P "strconv.ErrSyntax" = some #[.iface tp p] → Calls P f #[.string s] w λe w'=>∃ t q,e = .returned (.tuple #[.int .i64 0,.iface t q]) ∧ Below w.heap.size w w')
    (hra:∀ (s:ByteArray),s.size ≤ 281474976710656 → Lib.atoiAll s.data.toList = .range → ∀ (tp:TypeId) (p:Value) (w:World),w.var? P "strconv.ErrRange" = some #[.iface tp p] → Calls P f #[.string s] w λe w'=>∃ t q,e = .returned (.tuple #[.int .i64 (Lib.atoiSat s.data.toList),.iface t q]) ∧ Below w.heap.size w w')
    (hT:Te P w0) (s:ByteArray) {r:Int×Bool} (h:Jdj s=some r):Calls P f #[.string s] w0 λe w=>∃ v,e=.returned (.tuple #[.int .i64 r.1,v])∧Ext [] w0 w∧isErr v r.2:=by
 unfold Jdj at h
 split at h
 · rename_i hl
   simp only [Option.some.injEq] at h
   subst h
   cases ha:Lib.atoiAll s.data.toList
   case ok v =>
    refine (hok s (by omega) v ha w0).mono λe w ⟨he,hw⟩=>⟨_,he,?_,.inl ⟨rfl,rfl⟩⟩
    rcases hw with rfl | ⟨t,rfl⟩
    · exact Ext.refl _ _
    · exact Qz9 (Lib.bytesWorld_below _ _ _)
   case range =>
    obtain ⟨_,tp,p,_,hv⟩:=hT.r
    exact (hra s (by omega) ha tp p w0 hv).mono λe w ⟨t,q,he,hb⟩=>⟨_,he,Qz9 hb,.inr ⟨rfl,_,_,rfl⟩⟩
   · obtain ⟨_,tp,p,_,hv⟩:=hT.s
     exact (hsy s (by omega) (λv h=>by rw [ha] at h; cases h) (λh=>by rw [ha] at h; cases h) tp p w0 hv).mono λe w ⟨t,q,he,hb⟩=>⟨_,he,Qz9 hb,.inr ⟨rfl,_,_,rfl⟩⟩
 · simp at h
end
end Go.Proofs.YthkaklkinepfkaaGreatDoor
set_option linter.unusedSimpArgs false
set_option linter.unusedVariables false
namespace Go.Proofs.YthkaklkinepfkaaGreatDoor
open Go Go.RowKit
open Enc (rd ow)
theorem Jie {α:Type} [Enc α] {w:World} {g:Nat} {cs:List Value} {e:TypeId} (h:bx w g cs e) {y:α} {F:List Nat} (hy:rd w F cs y) :
    rd w (g::F) [.slice (some ⟨g,0,none⟩) 1 1] [y]:=by
 have hl:=Enc.rd_sz hy
 refine ⟨_,1,rfl,Nat.le_refl _,by simp [maxLen],λb hb=>?_,.inr ⟨g,0,_,e,(0,0),rfl,by simp,h,⟨F,λb hb=>List.mem_cons_of_mem _ hb,?_⟩,trivial⟩⟩
 · rcases List.mem_cons.1 hb with rfl | hb
   · exact Qgx h
   · exact Enc.rd_lt hy b hb
 · simp only [List.drop_zero]
   rw [← hl,List.take_length]
   exact hy
theorem Jdi {α:Type} [Flat α] {P:Program} {u:World} {F:List Nat} {v:Value} {xs ys:List α} {lo:Int} (hf:ow u F [v] xs) (hx:sls xs lo xs.length=some ys) {t:TypeId} (hu:TS P t (Enc.sz α)) :
    ∃ v',ow u F [v'] ys∧∀ {N:Nat} {L:List (Nat×Value)} {a:Act} {o:Oper} {x i:Operand} {k:IntKind},K N L a→o.op=.slice t x (some i) none none→ev L x=some v→ev L i=some (.int k lo)→∀ w:World,(execOp a.eval o).run P w=.ok (.value v') w:=by
 obtain ⟨ao,cap,rfl,h1,h2⟩:=Ql0 (Enc.ow_rd hf)
 obtain ⟨e,hu,hs⟩:=hu
 unfold sls at hx
 split at hx
 · rename_i h0
   simp only [Option.some.injEq] at hx
   have hr:ow u F [.slice (if cap=lo.toNat then ao else ao.map (·.add (lo.toNat*Enc.sz α))) ((xs.length:Int).toNat - lo.toNat) (cap - lo.toNat)] ys:=by
    subst hx
    rcases hf with ⟨hq,rfl,rfl⟩ | ⟨g,off,cap',c,e',Gs,hq,e1,e2,e3,e4,e5,rfl,e6⟩
    · simp only [List.cons.injEq,Value.slice.injEq,and_true] at hq
      obtain ⟨rfl,_,rfl⟩:=hq
      refine .inl ⟨?_,by simp,rfl⟩
      simp
    · simp only [List.cons.injEq,Value.slice.injEq,and_true,true_and] at hq
      obtain ⟨rfl,rfl⟩:=hq
      have hlen:((xs.drop lo.toNat).take ((xs.length:Int).toNat - lo.toNat))=xs.drop lo.toNat:=by
       apply List.take_of_length_le; simp
      rw [hlen]
      have hll:(xs.drop lo.toNat).length=(xs.length:Int).toNat - lo.toNat:=by simp
      have hle:lo.toNat≤xs.length:=by omega
      have hGd:(Gs.drop lo.toNat).flatten=[]:=Qzy (Quh lo.toNat e5 hle)
      have hG0:Gs.flatten=[]:=Qzy e5
      by_cases hc:cap=lo.toNat
      · refine .inr ⟨g,off,cap - lo.toNat,c,e',Gs.drop lo.toNat,?_,by rw [hll]; omega,by omega,e3,?_,?_,by rw [hGd,hG0],e6⟩
        · rw [if_pos hc,hll]
        · rw [Nat.sub_mul]; omega
        · have hz:xs.drop lo.toNat=[]:=List.drop_of_length_le (by omega)
          have:=Quh lo.toNat e5 hle
          rw [hz] at this ⊢
          rw [List.drop_take,show xs.length*Enc.sz α - lo.toNat*Enc.sz α=0 by rw [show xs.length=lo.toNat by omega]; simp] at this
          simpa using this
      · refine .inr ⟨g,off+lo.toNat*Enc.sz α,cap - lo.toNat,c,e',Gs.drop lo.toNat,?_,by rw [hll]; omega,by omega,e3,?_,?_,by rw [hGd,hG0],e6⟩
        · rw [if_neg hc,hll]; simp [Qgk]
        · have:lo.toNat*Enc.sz α≤cap*Enc.sz α:=Nat.mul_le_mul_right _ (by omega)
          rw [Nat.sub_mul]; omega
        · have:=Quh lo.toNat e5 hle
          rw [List.drop_take,List.drop_drop] at this
          rw [hll,show ((xs.length:Int).toNat - lo.toNat)*Enc.sz α=xs.length*Enc.sz α - lo.toNat*Enc.sz α by rw [Nat.sub_mul]; simp]
          exact this
   refine ⟨_,hr,fun {N L a o x i k} hK ho hv hi' w=>?_⟩
   have c2:0≤lo∧lo≤(xs.length:Int):=by omega
   simp [execOp,ho,Instr.sliceAt,Instr.slice,Instr.sliceBounds,Instr.sliceBound,hK.ev hv,hK.ev hi',run_underlying hu,asIntOf,c2,hs]
 · simp at hx
end Go.Proofs.YthkaklkinepfkaaGreatDoor
set_option linter.unusedSimpArgs false
set_option linter.unusedVariables false
namespace Go.Proofs.YthkaklkinepfkaaGreatDoor
open Go Go.RowKit
open Enc (rd ow)
section
variable {P:Program} {ops:Array Oper} {Q:Exit→Act→World→Prop} {rest:List Oper} {o:Oper} {a:Act} {w:World} {N:Nat} {L:List (Nat×Value)}
variable {X:List Nat} {w0:World} {M:List (List Nat×World)} {d:Nat}
def Ji6 (s:ByteArray):Option (List U8):=if s.size≤1000000000 then some (s.data.toList.map λb=>(⟨(b.toNat:Int)⟩:U8)) else none
theorem Q62 {α:Type} [Flat α] {F:List Nat}:∀ (xs:List α) (r:List Value),rdL w F ((xs.map Flat.e).flatten++r) xs
 | [],_=>trivial
 | x::xs,r=>by
  have hl:=Flat.len x
  refine ⟨⟨[],by simp,rfl,?_⟩,?_⟩
  · show List.take (Flat.sz α) _=_
    rw [← hl]; simp
  · have:((List.map Flat.e (x::xs)).flatten++r).drop (Enc.sz α)=(xs.map Flat.e).flatten++r:=by
      show List.drop (Flat.sz α) _=_
      rw [← hl]; simp
    rw [this]
    exact Q62 xs r
theorem Jmr {s:ByteArray} {l:List U8} (hx:Ji6 s=some l) {t t' e:TypeId} (h1:P.underlying t=some .string) (h2:P.underlying t'=some (.slice e)) (h3:P.underlying e=some (.int .u8)) (hM:St X w0 w M) (hK:K N L a) {x:Operand}
    (hg:gd L ops o.guard=some true) (hd:o.dst=some d) (hN:Nat.blt d N=true)
    (ho:o.op=.convert t t' x) (hv:ev L x=some (.string s))
    (h:∀ g w' a v,K N ((d,v)::L) a→St X w0 w' (([g],w')::M)→Ext [] w w'→rd w' [g] [v] l→wpList P ops Q rest a w'):wpList P ops Q (o::rest) a w:=by
 unfold Ji6 at hx
 split at hx
 · rename_i hsz
   have hl:=Option.some.inj hx
   have hr:=run_bytes_of_string (P:=P) w t t' e s h1 h2 h3
   have hE:Ext [] w (w.drew.alloc (.cells (bytesRow s (grownCap w s.size 0 e)) e ((bytesRow s (grownCap w s.size 0 e)).size,(bytesRow s (grownCap w s.size 0 e)).size+1))):=(Ext.drew w).trans (Ext.alloc _ _) (by simp)
   have hnew:=heap_alloc_new w.drew (.cells (bytesRow s (grownCap w s.size 0 e)) e ((bytesRow s (grownCap w s.size 0 e)).size,(bytesRow s (grownCap w s.size 0 e)).size+1))
   have hlen:l.length=s.size:=by rw [← hl,List.length_map]; exact Array.length_toList
   refine Que hK hg hd hN (v:=.slice (some ⟨w.heap.size,0,none⟩) s.size (grownCap w s.size 0 e)) (w':=w.drew.alloc (.cells (bytesRow s (grownCap w s.size 0 e)) e ((bytesRow s (grownCap w s.size 0 e)).size,(bytesRow s (grownCap w s.size 0 e)).size+1))) (by simp [execOp,ho,hK.ev hv,hr]) λa hK=>h w.heap.size _ a _ hK (hM.new hE [w.heap.size] (by
    intro b hb
    rw [List.mem_singleton.1 hb]
    exact ⟨Nat.le_refl _,Qgx hnew⟩) (by simp)) hE ?_
   refine ⟨some ⟨w.heap.size,0,none⟩,grownCap w s.size 0 e,by rw [hlen],by rw [hlen]; exact grownCap_ge w s.size 0 e,grownCap_le_maxLen w _ 0 e (by simp only [maxLen]; omega),λb hb=>by rw [List.mem_singleton.1 hb]; exact Qgx hnew,.inr ⟨_,0,_,e,_,rfl,by simp,hnew,?_⟩⟩
   rw [List.drop_zero]
   have e1:(bytesRow s (grownCap w s.size 0 e)).toList=(l.map Flat.e).flatten++List.replicate (grownCap w s.size 0 e - s.size) (.int .u8 0):=by
    rw [← hl]
    unfold bytesRow
    rw [Array.toList_append,Array.toList_map,Array.toList_replicate]
    congr 1
    rw [List.map_map]
    induction s.data.toList with
    | nil=>rfl
    | cons b r ih=>simp [ih,Flat.e]
   rw [e1]
   exact Q62 l _
 · simp at hx
theorem Jjk {α:Type} [Enc α] {g:Nat} {c1 c2:List Value} {e:TypeId} {x1 x2:α} {G1 G2:List Nat} (h:bx w g (c1++c2) e) (h1:ow w G1 c1 x1) (h2:ow w G2 c2 x2) (hn:(g::(G1++G2)).Nodup) :
    ow w (g::(G1++G2)) [.slice (some ⟨g,0,none⟩) 2 2] [x1,x2]:=by
 have l1:=Enc.rd_sz (Enc.ow_rd h1)
 have l2:=Enc.rd_sz (Enc.ow_rd h2)
 refine .inr ⟨g,0,2,_,e,[G1,G2],rfl,Nat.le_refl _,by simp [maxLen],h,by simp [l1,l2]; omega,?_,by simp,hn⟩
 have e0:(List.drop 0 (c1++c2).toArray.toList).take ([x1,x2].length*Enc.sz α)=c1++c2:=by
  simp only [List.drop_zero]
  exact List.take_of_length_le (by simp [l1,l2]; omega)
 rw [e0]
 refine ⟨?_,?_,?_⟩
 · rw [← l1,List.take_left]; exact h1
 · rw [← l1,List.drop_left,l1,← l2,List.take_length]; exact h2
 · rw [← l1,List.drop_left,l1,← l2,List.drop_length]; trivial
end
end Go.Proofs.YthkaklkinepfkaaGreatDoor
set_option linter.unusedSimpArgs false
set_option linter.unusedVariables false
namespace Go.Proofs.YthkaklkinepfkaaGreatDoor
open Go Go.RowKit
open Enc (rd ow)
section
variable {P:Program} {ops:Array Oper} {rest:List Oper} {o:Oper} {a:Act} {w w':World} {N:Nat} {L:List (Nat×Value)}
variable {X:List Nat} {w0:World} {M:List (List Nat×World)}
def cbx (w:World) (F:List Nat) (b1 b2:Nat) (e1 e2:TypeId) (g:Bool) (xs:List ByteArray):Prop :=
 ∃ (v:Value) (G:List Nat),bx w b1 [.bool g] e1∧bx w b2 [v] e2∧F=[b1]++([b2]++G)∧ow w G [v] xs∧F.Nodup
theorem cbx.nd {F:List Nat} {b1 b2:Nat} {e1 e2:TypeId} {g:Bool} {xs:List ByteArray} (h:cbx w F b1 b2 e1 e2 g xs):F.Nodup:=by
 obtain ⟨_,_,_,_,_,_,h⟩:=h
 exact h
theorem cbx.lt {F:List Nat} {b1 b2:Nat} {e1 e2:TypeId} {g:Bool} {xs:List ByteArray} (h:cbx w F b1 b2 e1 e2 g xs):∀ y∈F,y<w.heap.size:=by
 obtain ⟨v,G,h1,h2,rfl,h3,_⟩:=h
 intro y hy
 simp only [List.mem_append,List.mem_singleton] at hy
 rcases hy with rfl | rfl | hy
 · exact Qgx h1
 · exact Qgx h2
 · exact Enc.rd_lt (Enc.ow_rd h3) y hy
theorem St.split3 {A F G:List Nat} {u:World} (h:St X w0 w ((A++(F++G),u)::M)):St X w0 w ((A,u)::(F,u)::(G,u)::M):=by
 have e:fps ((A,u)::(F,u)::(G,u)::M)=fps ((A++(F++G),u)::M):=by simp [fps]
 refine ⟨h.ext,?_,by rw [e]; exact h.lt,by rw [e]; exact h.lo,by rw [e]; exact h.nd⟩
 have h0:=h.ok _ (List.mem_cons_self)
 intro p hp
 simp only [List.mem_cons] at hp
 rcases hp with rfl | rfl | rfl | hp
 · exact h0.sub (λb hb=>by simp [hb])
 · exact h0.sub (λb hb=>by simp [hb])
 · exact h0.sub (λb hb=>by simp [hb])
 · exact h.ok p (by simp [hp])
theorem cbx.start {F:List Nat} {b1 b2:Nat} {e1 e2:TypeId} {g:Bool} {xs:List ByteArray} (h:cbx w0 F b1 b2 e1 e2 g xs) :
    ∃ (v:Value) (G:List Nat),bx w0 b1 [.bool g] e1∧bx w0 b2 [v] e2∧ow w0 G [v] xs∧St F w0 w0 [([b1],w0),([b2],w0),(G,w0)]:=by
 have hl:=h.lt
 have hn:=h.nd
 obtain ⟨v,G,h1,h2,rfl,h3,_⟩:=h
 exact ⟨v,G,h1,h2,h3,(St.start1 w0 hl hn).split3⟩
theorem cbx.fin {G:List Nat} {b1 b2:Nat} {e1 e2:TypeId} {g:Bool} {xs:List ByteArray} {v:Value} (h1:bx w b1 [.bool g] e1) (h2:bx w b2 [v] e2) (h3:ow w G [v] xs) (hn:([b1]++([b2]++G)).Nodup):cbx w ([b1]++([b2]++G)) b1 b2 e1 e2 g xs :=
 ⟨_,_,h1,h2,rfl,h3,hn⟩
end
end Go.Proofs.YthkaklkinepfkaaGreatDoor
