/- Library functions on.. -/
import Derived.Test.YtndfoffokpdjeaaGreatDoorS11
set_option linter.unusedSimpArgs false
set_option linter.unusedVariables false
namespace Go.Proofs.YtndfoffokpdjeaaGreatDoor
open Go Go.RowKit
open Enc (rd ow)
open Arg (argv)
open Ret (retv)
section
variable {P:Program} {ops:Array Oper} {Q:Exit→Act→World→Prop} {rest:List Oper} {o:Oper} {a:Act} {w:World} {N:Nat} {L:List (Nat×Value)}
variable {X:List Nat} {w0:World} {M:List (List Nat×World)} {d:Nat}
theorem Jje {α:Type} [Enc α] {u:World} {F:List Nat} {v:Value} {xs:List α} (hf:rd u F [v] xs):∃ b:Bool,(b=true→xs=[]) ∧
    ∀ {P:Program} {N:Nat} {L:List (Nat×Value)} {a:Act} {o:Oper} {t t' e:TypeId} {i j:Operand} {w:World},K N L a→P.underlying t=some (.slice e) →
     o.op=.binOp .eql t i j t'→ev L i=some v→ev L j=some (.slice none 0 0)→(execOp a.eval o).run P w=.ok (.value (.bool b)) w:=by
 obtain ⟨ao,cap,hv,h1,h2,h3,h4⟩:=hf
 have:=(List.cons.inj hv).1
 subst this
 have key:∀ {P:Program} {t e:TypeId} (w:World) (ao:Option Addr) (n cap:Nat),P.underlying t=some (.slice e)→(Op.equal t (.slice ao n cap) (.slice none 0 0)).run P w=.ok ao.isNone w:=by
  intro P t e w ao n cap hu
  show (Op.equalIn (9999+1) t _ _).run P w=_
  generalize 9999=m
  cases ao <;> simp [Op.equalIn,run_underlying hu w]
 refine ⟨ao.isNone,λhb=>?_,fun {P N L a o t t' e i j w} hK hu ho hi hj=>?_⟩
 · rcases h4 with h4 | ⟨g,off,c,e,fr,rfl,_⟩
   · exact h4
   · simp at hb
 · have hg:(eqGuard .eql t i j (.slice ao xs.length cap) (.slice none 0 0)).run P w=.ok () w:=by
     unfold eqGuard
     simp
   simp only [execOp,ho,hK.ev hi,hK.ev hj,Sem.run_bind,hg,Result.andThen_ok,binOp,key w ao _ _ hu,Sem.run_pure]
theorem Jek {u:World} {F:List Nat} {ao:Option Addr} {cap:Nat} {xs ys:List Int} {hi:Int} (h:ow u F [.slice ao xs.length cap] xs) (hx:sls xs 0 hi=some ys) :
    ow u F [.slice ao hi.toNat cap] ys∧hi.toNat≤xs.length∧xs.length≤cap∧0≤hi:=by
 unfold sls at hx
 split at hx
 · rename_i h0
   simp only [Option.some.injEq,Int.toNat_zero,List.drop_zero,Nat.sub_zero] at hx
   subst hx
   have hl:(xs.take hi.toNat).length=hi.toNat:=by rw [List.length_take]; omega
   rcases h with ⟨hv,rfl,rfl⟩ | ⟨g,off,cap',c,e,Gs,hv,h1,h2,h3,h4,h5,rfl,h6⟩
   · have:=(List.cons.inj hv).1
     simp only [List.length_nil,Value.slice.injEq,true_and] at this
     obtain ⟨rfl,rfl⟩:=this
     have:hi.toNat=0:=by simp at h0; omega
     rw [this]
     exact ⟨.inl ⟨rfl,by simp,rfl⟩,by simp,by simp,by omega⟩
   · have:=(List.cons.inj hv).1
     simp only [Value.slice.injEq,true_and] at this
     obtain ⟨rfl,rfl⟩:=this
     have hsz:Enc.sz Int=1:=rfl
     have hG:=Qjv h5
     have hc:=Qu5 h5
     rw [hsz,Nat.mul_one] at hc h4
     refine ⟨.inr ⟨g,off,cap,c,e,(xs.take hi.toNat).map λ_=>[],by rw [hl],by omega,h2,h3,by rw [hsz,Nat.mul_one]; exact h4,?_,by rw [hG,Qjm],h6⟩,by omega,h1,by omega⟩
     have e2:(((xs.take hi.toNat).map (Flat.e (α:=Int))).flatten)=(xs.take hi.toNat).map (Value.int .i64):=by
      generalize xs.take hi.toNat=zs
      induction zs with
      | nil=>rfl
      | cons z zs ih=>simp only [List.map_cons,List.flatten_cons,ih]; rfl
     have e3:(c.toList.drop off).take ((xs.take hi.toNat).length*Enc.sz Int)=(xs.take hi.toNat).map (Value.int .i64):=by
      rw [hl,hsz,Nat.mul_one,List.map_take,← hc,List.take_take]
      congr 1
      omega
     rw [e3,← e2]
     exact Qtc _
 · simp at hx
theorem Jga {u:World} {F:List Nat} {v:Value} {xs ys:List Int} {hi:Int} {k':IntKind} (hf:ow u F [v] xs) (hx:sls xs 0 hi=some ys) (hK:K N L a) {t:TypeId} (hu:TS P t 1) {x j:Operand}
    (hg:gd L ops o.guard=some true) (hd:o.dst=some d) (hN:Nat.blt d N=true)
    (ho:o.op=.slice t x none (some j) none) (hv:ev L x=some v) (hj:ev L j=some (.int k' hi))
    (h:∀ v' a,K N ((d,v')::L) a→ow u F [v'] ys→wpList P ops Q rest a w):wpList P ops Q (o::rest) a w:=by
 obtain ⟨ao,cap,rfl,_,_⟩:=Ql4 (Enc.ow_rd hf)
 obtain ⟨e,hu,hs⟩:=hu
 obtain ⟨hr,h1,h2,h3⟩:=Jek hf hx
 refine Qt8 hK hg hd hN ?_ λa hK=>h _ a hK hr
 have c1:0≤hi∧hi≤(cap:Int):=by omega
 simp [execOp,ho,Instr.sliceAt,Instr.slice,Instr.sliceBounds,Instr.sliceBound,hK.ev hv,hK.ev hj,run_underlying hu,asIntOf,c1,hs]
 intro _
 cases ao <;> simp [Addr.add]
def Q48 (xs:List Int) (lo:Int):List Int:=xs.take lo.toNat++List.replicate (xs.length - lo.toNat) 0
theorem Jan {xs:List Int} {lo:Int} (h:xs.length - lo.toNat=0):Q48 xs lo=xs:=by
 simp only [Q48,h,List.replicate_zero,List.append_nil]
 exact List.take_of_length_le (by omega)
theorem Jmf {t bytes:Nat} (hT:TE P t 1 bytes [.int .i64 0]) (hM:St X w0 w M) (i:Nat) {u:World} {F:List Nat} {v v':Value} {xs:List Int} (hown:ow u F [v] xs) {lo:Int} (hp:Part v lo.toNat v')
    (hK:K N L a) (hi:M[i]? = some (F,u)) {sd:Operand}
    (hg:gd L ops o.guard=some true) (hd:o.dst=none)
    (ho:o.op=.call { callee:=.builtin .clear,args:=#[sd],argTypes:=#[t] }) (hv1:ev L sd=some v')
    (h:∀ w' a,K N L a→Ext F w w'→St X w0 w' (M.set i (F,w'))→ow w' F [v] (Q48 xs lo)→wpList P ops Q rest a w'):wpList P ops Q (o::rest) a w:=by
 obtain ⟨e,inf,hu,hinf,⟨zv,hz,hzc⟩,hsz1,_⟩:=hT
 have how:=Enc.ow_agr hown (hM.a i hi)
 have hnd:=hM.ndF i hi
 have hlt:=hM.ltF i hi
 have hfin:∀ {r:Value} {w':World},(execOp a.eval o).run P w=.ok (.value r) w'→Ext F w w'→St X w0 w' (M.set i (F,w'))→ow w' F [v] (Q48 xs lo)→wpList P ops Q (o::rest) a w:=by
  intro r w' hr hE hS hO
  exact Q11 hK hg hr λK' hK'=>by rw [Oper.upon_value,hd]; exact hK' _ _ (h _ _ hK hE hS hO)
 have hnone:∀ (ao:Option Addr) (n cap:Nat),v'=.slice ao n cap→n=0→n=xs.length - lo.toNat→wpList P ops Q (o::rest) a w:=by
  intro ao n cap hv' hm hn
  subst hv'; subst hm
  refine hfin (r:=.tuple #[]) (w':=w) ?_ (Ext.refl _ _) (hM.mut i hi (Ext.refl _ _) F (λb hb=>⟨.inl hb,hlt b hb⟩) hnd) (by rw [Jan hn.symm]; exact how)
  cases ao <;> simp [execOp,ho,resolve,invoke,builtin,hK.ev hv1,Builtin.clear_,run_underlying hu]
 rcases how with ⟨hv,rfl,rfl⟩ | ⟨g,off,cap,c,et,Gs,hv,h1,h2,h3,h4,h5,rfl,h6⟩
 · have:=(List.cons.inj hv).1
   subst this
   obtain ⟨ao',hv',_⟩:=hp none 0 0 rfl
   exact hnone ao' _ _ hv' (by simp) (by simp)
 · have:=(List.cons.inj hv).1
   subst this
   obtain ⟨ao',hv',hao⟩:=hp _ _ _ rfl
   by_cases hm:xs.length - lo.toNat=0
   · exact hnone ao' _ _ hv' hm rfl
   · subst hv'
     have hlo:lo.toNat<xs.length:=by omega
     have:=hao g off hlo rfl
     subst this
     have hsz:Enc.sz Int=1:=rfl
     have hG:=Qjv h5
     have hc:=Qu5 h5
     rw [hsz,Nat.mul_one] at hc h4
     have hb:bx w g c.toList et:=h3
     have hl0:(List.replicate (xs.length - lo.toNat) (Value.int .i64 0)).length=xs.length - lo.toNat:=by simp
     have hst:=run_storeCells_at P g (off+lo.toNat) et (List.replicate (xs.length - lo.toNat) (Value.int .i64 0)) 0 c w h3 (by simp; omega) (by intro u hu; rw [List.eq_of_mem_replicate hu]; rfl)
     simp only [Nat.add_zero] at hst
     have hzero:(zeroValue e).run P w=.ok zv w:=by simp [zeroValue,typeInfo,hinf,hz]
     have hzc1:(Builtin.zeroCells zv.cells (xs.length - lo.toNat)).toList=List.replicate (xs.length - lo.toNat) (Value.int .i64 0):=by
      rw [hzc]
      simp [Builtin.zeroCells]
      apply List.ext_getElem
      · simp
      · intro i h1 h2
        simp [Nat.mod_one]
     have hrun:(execOp a.eval o).run P w=.ok (.value (.tuple #[])) (w.setRow g (Qbb c.toList (off+lo.toNat) (List.replicate (xs.length - lo.toNat) (Value.int .i64 0))).toArray):=by
      obtain ⟨m,hmm⟩:∃ m,xs.length - lo.toNat=m+1:=⟨xs.length - lo.toNat - 1,by omega⟩
      rw [hmm] at hzc1 hst hl0 ⊢
      simp only [execOp,ho,resolve,invoke,builtin,hK.ev hv1,Builtin.clear_]
      simp [run_underlying hu,hK.ev hv1,hzero,Builtin.clear_]
      rw [hmm,hzc1,hst]
      simp [Qbb]
     have hE:Ext (g::Gs.flatten) w (w.setRow g (Qbb c.toList (off+lo.toNat) (List.replicate (xs.length - lo.toNat) (Value.int .i64 0))).toArray):=(Ext.setRow _ _).wk (by simp)
     have hS:=hM.mut i hi hE (g::Gs.flatten) (λb hb=>⟨.inl hb,Nat.lt_of_lt_of_le (hlt b hb) hE.size⟩) hnd
     refine hfin hrun hE hS ?_
     have hsl:(Qbb c.toList (off+lo.toNat) (List.replicate (xs.length - lo.toNat) (Value.int .i64 0))).length=c.size:=by rw [Qpv _ _ _ (by simp; omega)]; simp
     have hcl:(Q48 xs lo).length=xs.length:=by simp only [Q48,List.length_append,List.length_take,List.length_replicate]; omega
     refine .inr ⟨g,off,cap,_,et,(Q48 xs lo).map λ_=>[],by rw [hcl],by rw [hcl]; exact h1,h2,hb.store _,?_,?_,by rw [hG,Qjm],h6⟩
     · rw [List.size_toArray,hsl,hsz,Nat.mul_one]; exact h4
     · have e2:((Q48 xs lo).map (Flat.e (α:=Int))).flatten=(Q48 xs lo).map (Value.int .i64):=by
         generalize Q48 xs lo=zs
         induction zs with
         | nil=>rfl
         | cons z zs ih=>simp only [List.map_cons,List.flatten_cons,ih]; rfl
       have hcs:(((Qbb c.toList (off+lo.toNat) (List.replicate (xs.length - lo.toNat) (Value.int .i64 0))).toArray.toList.drop off).take ((Q48 xs lo).length*Enc.sz Int))=((Q48 xs lo).map Flat.e).flatten:=by
        rw [e2,hsz,Nat.mul_one,hcl]
        rw [show ∀ l:List Value,l.toArray.toList=l from λ_=>rfl,Qvp _ _ _ _ (by simp; omega),Qvn _ _ _ _ (by simp; omega) (by simp; omega),hc]
        simp only [Qbb,Q48,List.map_append,List.map_take,List.map_replicate,List.length_replicate]
        rw [List.drop_of_length_le (by simp; omega)]
        simp
       rw [hcs]
       exact Qtc _
end
end Go.Proofs.YtndfoffokpdjeaaGreatDoor
