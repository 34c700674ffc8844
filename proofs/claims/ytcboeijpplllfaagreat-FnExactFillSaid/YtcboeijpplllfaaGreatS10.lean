/- The builtin copy of ints into a part of a row of the call's own. Own lemmas, over any program. -/
import Derived.Test.YtcboeijpplllfaaGreatS8
import Derived.Laws.CopyRow
import Derived.Laws.IdiomCopy
set_option linter.unusedSimpArgs false
set_option linter.unusedVariables false
namespace Go.Proofs.YtcboeijpplllfaaGreat
open Go Go.RowKit
open Enc (rd ow)
open Arg (argv)
open Ret (retv)
theorem rd_cellsI {w:World} {G:List Nat} {y:Value} {ys:List Int} (h:rd w G [y] ys):∃ ao cap,y = .slice ao ys.length cap ∧ (ys = [] ∨ ∃ a,ao = some a ∧ ∀ j v,(ys.map (Value.int .i64))[j]? = some v → w.cell? (a.add j) = some v):=by
 obtain ⟨ao,cap,hy,h1,h2,h3,h4⟩:=h
 have:=(List.cons.inj hy).1
 subst this
 refine ⟨ao,cap,rfl,?_⟩
 rcases h4 with rfl | ⟨g,off,c,e,fr,rfl,hg,hh,hl⟩
 · exact .inl rfl
 · refine .inr ⟨_,rfl,fun j v hv=>?_⟩
   rw [List.getElem?_map,Option.map_eq_some_iff] at hv
   obtain ⟨n,hn,rfl⟩:=hv
   obtain ⟨G',_,_,hr⟩:=rdL_get hl hn
   have hsz:Enc.sz Int = 1:=rfl
   rw [hsz,Nat.mul_one,List.drop_drop] at hr
   have h0:=congrArg (fun l=>l[0]?) hr
   simp only [List.getElem?_take,Nat.zero_lt_one,if_true,List.getElem?_drop,Nat.add_zero,Array.getElem?_toList] at h0
   have hadd:((⟨g,off,none⟩:Addr).add j) = ⟨g,off + j,none⟩:=by
    simp only [Addr.add]
    by_cases hj:j = 0 <;> simp [hj]
   rw [hadd]
   unfold World.cell?
   rw [hh]
   simp only [Option.isSome_none,Bool.false_eq_true,if_false]
   rw [h0]
   rfl
section
variable {P:Program} {ops:Array Oper} {Q:Exit → Act → World → Prop} {rest:List Oper} {o:Oper} {a:Act} {w:World} {N:Nat} {L:List (Nat × Value)}
variable {X:List Nat} {w0:World} {M:List (List Nat × World)} {d:Nat}
def Part (v:Value) (lo:Nat) (v':Value):Prop:=∀ ao n cap,v = .slice ao n cap → ∃ ao',v' = .slice ao' (n - lo) (cap - lo) ∧ ∀ g off,lo < n → ao = some ⟨g,off,none⟩ → ao' = some ⟨g,off + lo,none⟩
theorem Part.self (v:Value):Part v 0 v:=fun ao n cap h=>⟨ao,by simpa using h,fun g off _ h=>by simpa using h⟩
theorem sl_from {u:World} {F:List Nat} {v:Value} {xs ys:List Int} {lo:Int} (hf:rd u F [v] xs) (hx:sls xs lo xs.length = some ys) {t:TypeId} (hu:TS P t (Enc.sz Int)) :
    ∃ v',rd u F [v'] ys ∧ Part v lo.toNat v' ∧ ∀ {N:Nat} {L:List (Nat × Value)} {a:Act} {o:Oper} {x i:Operand} {k:IntKind},K N L a → o.op = .slice t x (some i) none none → ev L x = some v → ev L i = some (.int k lo) → ∀ w:World,(execOp a.eval o).run P w = .ok (.value v') w:=by
 obtain ⟨ao,cap,rfl,h1,h2⟩:=rd_slice hf
 obtain ⟨e,hu,hs⟩:=hu
 have hr:=rd_sls hf hx
 unfold sls at hx
 split at hx
 · rename_i h0
   refine ⟨_,by simpa using hr,?_,?_⟩
   · intro ao' n cap' he
     injection he with e1 e2 e3
     subst e1; subst e2; subst e3
     refine ⟨_,rfl,fun g off hlt hao=>?_⟩
     subst hao
     have hsz:Enc.sz Int = 1:=rfl
     rw [if_neg (by omega)]
     simp only [Option.map_some,hsz,Nat.mul_one,Addr.add]
     by_cases hl:lo.toNat = 0 <;> simp [hl]
   · intro N L a o x i k hK ho hv hi' w
     have c2:0 ≤ lo ∧ lo ≤ (xs.length:Int):=by omega
     simp [execOp,ho,Instr.sliceAt,Instr.slice,Instr.sliceBounds,Instr.sliceBound,hK.ev hv,hK.ev hi',run_underlying hu,asIntOf,c2,hs]
 · simp at hx
theorem sl_to {u:World} {F:List Nat} {v:Value} {xs ys:List Int} {hi:Int} (hf:rd u F [v] xs) (hx:sls xs 0 hi = some ys) {t:TypeId} (hu:TS P t (Enc.sz Int)) :
    ∃ v',rd u F [v'] ys ∧ ∀ {N:Nat} {L:List (Nat × Value)} {a:Act} {o:Oper} {x j:Operand} {k:IntKind},K N L a → o.op = .slice t x none (some j) none → ev L x = some v → ev L j = some (.int k hi) → ∀ w:World,(execOp a.eval o).run P w = .ok (.value v') w:=by
 obtain ⟨ao,cap,rfl,h1,h2⟩:=rd_slice hf
 obtain ⟨e,hu,hs⟩:=hu
 have hr:=rd_sls hf hx
 unfold sls at hx
 split at hx
 · rename_i h0
   refine ⟨_,by simpa using hr,?_⟩
   intro N L a o x j k hK ho hv hj w
   have c1:0 ≤ hi ∧ hi ≤ (cap:Int):=by omega
   simp [execOp,ho,Instr.sliceAt,Instr.slice,Instr.sliceBounds,Instr.sliceBound,hK.ev hv,hK.ev hj,run_underlying hu,asIntOf,c1,hs]
 · simp at hx
def cpd (xs:List Int) (lo:Int) (ys:List Int):List Int:=xs.take lo.toNat ++ ys.take (min ys.length (xs.length - lo.toNat)) ++ xs.drop (lo.toNat + min ys.length (xs.length - lo.toNat))
def cpn (xs:List Int) (lo:Int) (ys:List Int):Int:=((min ys.length (xs.length - lo.toNat):Nat):Int)
theorem cpd_none {xs ys:List Int} {lo:Int} (h:min ys.length (xs.length - lo.toNat) = 0):cpd xs lo ys = xs:=by
 simp [cpd,h]
theorem s_cp {t t' bytes:Nat} {z:List Value} (hT:TE P t 1 bytes z) (hM:St X w0 w M) (i:Nat) {u:World} {F:List Nat} {v v':Value} {xs:List Int} (hown:ow u F [v] xs) {lo:Int} (hp:Part v lo.toNat v')
    {y:Value} {G:List Nat} {ys:List Int} (hy:rd w G [y] ys) (hK:K N L a) (hi:M[i]? = some (F,u)) {sd ss:Operand}
    (hg:gd L ops o.guard = some true) (hd:o.dst = some d) (hN:Nat.blt d N = true)
    (ho:o.op = .call { callee:=.builtin .copy,args:=#[sd,ss],argTypes:=#[t,t'] }) (hv1:ev L sd = some v') (hv2:ev L ss = some y)
    (h:∀ w' a,K N ((d,.int .i64 (cpn xs lo ys)) :: L) a → Ext F w w' → St X w0 w' (M.set i (F,w')) → ow w' F [v] (cpd xs lo ys) → wpList P ops Q rest a w'):wpList P ops Q (o :: rest) a w:=by
 obtain ⟨e,inf,hu,hinf,_,hsz1,_⟩:=hT
 have hs:(P.info? e).map (·.size) = some 1:=by rw [hinf]; simp [hsz1]
 have how:=Enc.ow_agr hown (hM.a i hi)
 have hnd:=hM.ndF i hi
 have hlt:=hM.ltF i hi
 obtain ⟨yo,ycap,rfl,hyc⟩:=rd_cellsI hy
 have hnone:∀ (ao:Option Addr) (n cap:Nat),v' = .slice ao n cap → min ys.length n = 0 → n = xs.length - lo.toNat → wpList P ops Q (o :: rest) a w:=by
  intro ao n cap hv' hm hn
  subst hv'; subst hn
  refine s_val hK hg hd hN (w':=w) (v:=.int .i64 (cpn xs lo ys)) ?_ fun a hK=>h w a hK (Ext.refl _ _) ?_ ?_
  · have:=run_copy_none (P:=P) w t t' o.type e ao yo (xs.length - lo.toNat) cap ys.length ycap hu hs hm
    simp [execOp,ho,resolve,invoke,builtin,hK.ev hv1,hK.ev hv2,this,cpn,hm,goInt]
  · exact hM.mut i hi (Ext.refl _ _) F (fun b hb=>⟨.inl hb,hlt b hb⟩) hnd
  · rw [cpd_none hm]; exact how
 rcases how with ⟨hv,rfl,rfl⟩ | ⟨g,off,cap,c,et,Gs,hv,h1,h2,h3,h4,h5,rfl,h6⟩
 · have:=(List.cons.inj hv).1
   subst this
   obtain ⟨ao',hv',_⟩:=hp none 0 0 rfl
   exact hnone ao' _ _ hv' (by simp) (by simp)
 · have:=(List.cons.inj hv).1
   subst this
   obtain ⟨ao',hv',hao⟩:=hp _ _ _ rfl
   by_cases hm:min ys.length (xs.length - lo.toNat) = 0
   · exact hnone ao' _ _ hv' hm rfl
   · subst hv'
     have hlo:lo.toNat < xs.length:=by omega
     have:=hao g off hlo rfl
     subst this
     rcases hyc with rfl | ⟨sa,rfl,hsrc⟩
     · simp at hm
     · have hsz:Enc.sz Int = 1:=rfl
       have hG:=owL_flat_nils h5
       have hc:=owL_cells h5
       rw [hsz,Nat.mul_one] at hc h4
       generalize hmm:min ys.length (xs.length - lo.toNat) = m at *
       have hcl:((ys.take m).map (Value.int .i64)).length = m:=by rw [List.length_map,List.length_take]; omega
       have hrun:=run_copy_row (P:=P) w t t' o.type e g (off + lo.toNat) (xs.length - lo.toNat) (cap - lo.toNat) sa ys.length ycap c et ((ys.take m).map (Value.int .i64)) hu hs h3 (by rw [hcl,← hmm])
        (fun j v hj=>hsrc j v (by
         rw [List.getElem?_map,List.getElem?_take] at hj
         split at hj
         · rw [List.getElem?_map]; exact hj
         · simp at hj)) (by rw [hcl]; omega) (by intro v hv; obtain ⟨n,_,rfl⟩:=List.mem_map.1 hv; rfl)
       rw [hcl] at hrun
       have hE:Ext (g :: Gs.flatten) w (w.setRow g (c.toList.take (off + lo.toNat) ++ (ys.take m).map (Value.int .i64) ++ c.toList.drop (off + lo.toNat + m)).toArray):=(Ext.setRow _ _).wk (by simp)
       have hst:=hM.mut i hi hE (g :: Gs.flatten) (fun b hb=>⟨.inl hb,Nat.lt_of_lt_of_le (hlt b hb) hE.size⟩) hnd
       have hnew:(w.setRow g (c.toList.take (off + lo.toNat) ++ (ys.take m).map (Value.int .i64) ++ c.toList.drop (off + lo.toNat + m)).toArray).heap[g]? = some (.cells (c.toList.take (off + lo.toNat) ++ (ys.take m).map (Value.int .i64) ++ c.toList.drop (off + lo.toNat + m)).toArray et (0,0)):=setRow_heap w g _ _ et _ h3
       have hsize:(c.toList.take (off + lo.toNat) ++ (ys.take m).map (Value.int .i64) ++ c.toList.drop (off + lo.toNat + m)).length = c.size:=by
        simp only [List.length_append,List.length_take,List.length_drop,hcl,Array.length_toList]; omega
       have hcpl:(cpd xs lo ys).length = xs.length:=by
        simp only [cpd,hmm,List.length_append,List.length_take,List.length_drop]; omega
       refine s_val hK hg hd hN (v:=.int .i64 (cpn xs lo ys)) ?_ fun a hK=>h _ a hK hE hst ?_
       · simp [execOp,ho,resolve,invoke,builtin,hK.ev hv1,hK.ev hv2,hrun,cpn,hmm,goInt]
       · refine .inr ⟨g,off,cap,_,et,(cpd xs lo ys).map fun _=>[],by rw [hcpl],by rw [hcpl]; exact h1,h2,hnew,?_,?_,by rw [hG,flatten_nils],h6⟩
         · rw [List.size_toArray,hsize,hsz,Nat.mul_one]; exact h4
         · have e2:((cpd xs lo ys).map (Flat.e (α:=Int))).flatten = (cpd xs lo ys).map (Value.int .i64):=by
             generalize cpd xs lo ys = zs
             induction zs with
             | nil=>rfl
             | cons z zs ih=>simp only [List.map_cons,List.flatten_cons,ih]; rfl
           have hcs:(((c.toList.take (off + lo.toNat) ++ (ys.take m).map (Value.int .i64) ++ c.toList.drop (off + lo.toNat + m)).toArray.toList.drop off).take ((cpd xs lo ys).length * Enc.sz Int)) = ((cpd xs lo ys).map Flat.e).flatten:=by
            rw [e2,hsz,Nat.mul_one,hcpl]
            have hxc:∀ j,j < xs.length → c.toList[off + j]? = (xs.map (Value.int .i64))[j]?:=by
             intro j hj
             have:=congrArg (fun l=>l[j]?) hc
             simpa [List.getElem?_take,hj,List.getElem?_drop] using this
            apply List.ext_getElem?
            intro j
            by_cases hj:j < xs.length
            · rw [List.getElem?_take,if_pos hj,List.getElem?_drop]
              simp only [cpd,hmm,List.map_append]
              by_cases hj1:j < lo.toNat
              · rw [List.getElem?_append_left (by simp [hcl]; omega),List.getElem?_append_left (by simp; omega),List.getElem?_append_left (by simp; omega),List.getElem?_append_left (by simp; omega)]
                rw [List.getElem?_take,if_pos (by omega),hxc j hj,List.map_take,List.getElem?_take,if_pos hj1]
              · by_cases hj2:j < lo.toNat + m
                · rw [List.getElem?_append_left (by simp; omega),List.getElem?_append_right (by simp; omega),List.getElem?_append_left (by simp; omega),List.getElem?_append_right (by simp; omega)]
                  congr 1
                  simp
                  omega
                · rw [List.getElem?_append_right (by simp; omega),List.getElem?_append_right (by simp; omega),List.getElem?_drop,List.map_drop,List.getElem?_drop]
                  have e3:(c.toList.take (off + lo.toNat) ++ (ys.take m).map (Value.int .i64)).length = off + lo.toNat + m:=by simp; omega
                  have e4:((xs.take lo.toNat).map (Value.int .i64) ++ (ys.take m).map (Value.int .i64)).length = lo.toNat + m:=by simp; omega
                  rw [e3,e4,show off + lo.toNat + m + (off + j - (off + lo.toNat + m)) = off + j by omega,show lo.toNat + m + (j - (lo.toNat + m)) = j by omega]
                  exact hxc j hj
            · rw [List.getElem?_take,if_neg hj,List.getElem?_eq_none (by rw [List.length_map,hcpl]; omega)]
           rw [hcs]
           exact owL_flat _
end
end Go.Proofs.YtcboeijpplllfaaGreat
