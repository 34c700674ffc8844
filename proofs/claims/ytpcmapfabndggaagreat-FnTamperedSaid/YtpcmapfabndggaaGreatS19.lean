/- Append of a part of .. -/
import Derived.Test.YtpcmapfabndggaaGreatS16
set_option linter.unusedSimpArgs false
set_option linter.unusedVariables false
namespace Go.Proofs.YtpcmapfabndggaaGreat
open Go Go.RowKit
open Enc (rd ow)
section
variable {α:Type} [Enc α]
end
section
variable {P:Program} {ops:Array Oper} {Q:Exit→Act→World→Prop} {rest:List Oper} {o:Oper} {a:Act} {w:World} {N:Nat} {L:List (Nat×Value)}
variable {X:List Nat} {w0:World} {M:List (List Nat×World)} {d:Nat}
structure Raw (n:Nat) where
 l:List Value
 len:l.length=n
 one:∀ c∈l,c.oneCell'=true
instance (n:Nat):Flat (Raw n):=⟨n,Raw.l,Raw.len,Raw.one⟩
theorem Q9v {α:Type} [Enc α] {w:World}:∀ {Gs:List (List Nat)} {cells:List Value} {xs:List α},owL w Gs cells xs→∃ R:List (Raw (Enc.sz α)),R.length=xs.length∧cells=(R.map Flat.e).flatten
 | [],_,[],h=>by simp only [owL] at h; exact ⟨[],rfl,by simp [h]⟩
 | G::Gs,cells,x::xs,⟨h,h'⟩=>by
  obtain ⟨R,h1,h2⟩:=Q9v h'
  refine ⟨⟨cells.take (Enc.sz α),Enc.rd_sz (Enc.ow_rd h),Enc.rd_one (Enc.ow_rd h)⟩::R,by simp [h1],?_⟩
  rw [List.map_cons,List.flatten_cons,← h2]
  exact (List.take_append_drop _ _).symm
 | [],_,_::_,h=>h.elim
 | _::_,_,[],h=>h.elim
theorem Jci {n:Nat} {w:World}:∀ (R:List (Raw n)),owL w (R.map λ_=>[]) (R.map Flat.e).flatten R:=λR=>Qsd R
theorem Q7g {α:Type} [Enc α] {w:World} {F:List Nat} {x:α} {G:List Nat} {cs:List Value} (hG:∀ b∈G,b∈F) (h:rd w G cs x):∀ {Gs:List (List Nat)} {cells:List Value} {xs:List α},(∀ b∈Gs.flatten,b∈F)→owL w Gs cells xs→rdL w F (cells++cs) (xs++[x])
 | [],cells,[],_,h0=>by
  simp only [owL] at h0
  subst h0
  refine ⟨⟨G,hG,?_⟩,trivial⟩
  rw [List.nil_append,← Enc.rd_sz h,List.take_length]
  exact h
 | H::Gs,cells,y::ys,hF,⟨h1,h2⟩=>by
  have hl:=Enc.rd_sz (Enc.ow_rd h1)
  have ih:=Q7g hG h (λb hb=>hF b (by rw [List.flatten_cons]; exact List.mem_append_right _ hb)) h2
  have hle:Enc.sz α≤cells.length:=by simp at hl; omega
  refine ⟨⟨H,λb hb=>hF b (by rw [List.flatten_cons]; exact List.mem_append_left _ hb),?_⟩,?_⟩
  · rw [List.take_append_of_le_length hle]; exact Enc.ow_rd h1
  · rw [List.drop_append_of_le_length hle]; exact ih
 | [],_,_::_,_,h=>h.elim
 | _::_,_,[],_,h=>h.elim
theorem Q98 {α:Type} [Enc α] {w:World}:∀ {Gs:List (List Nat)} {cells:List Value} {xs:List α} {i:Nat} {x:α},owL w Gs cells xs→xs[i]? = some x→∃ G,(∀ b∈G,b∈Gs.flatten)∧ow w G ((cells.drop (i*Enc.sz α)).take (Enc.sz α)) x
 | [],_,[],i,x,_,h=>by simp at h
 | G::Gs,cells,y::ys,0,x,⟨h,_⟩,hx=>by
  simp only [List.getElem?_cons_zero,Option.some.injEq] at hx
  subst hx
  exact ⟨G,λb hb=>by simp [hb],by simpa using h⟩
 | G::Gs,cells,y::ys,i+1,x,⟨_,h'⟩,hx=>by
  obtain ⟨H,hH,h⟩:=Q98 h' (by simpa using hx)
  refine ⟨H,λb hb=>by rw [List.flatten_cons]; exact List.mem_append_right _ (hH b hb),?_⟩
  rw [List.drop_drop] at h
  rw [show (i+1)*Enc.sz α=Enc.sz α+i*Enc.sz α by rw [Nat.add_mul]; omega]
  exact h
 | [],_,_::_,_,_,h,_=>h.elim
 | _::_,_,[],_,_,h,_=>h.elim
theorem Q6j {α:Type} [Enc α] {t bytes:Nat} {z:List Value} {xs zs:List α} {y0:α} (hz:Qgz bytes xs [y0]=some zs) (hT:TE P t (Enc.sz α) bytes z) (hb:Nat.blt 0 bytes=true) {F:List Nat} {u u1:World} (hM:St X w0 w ((F,u)::M)) {v:Value}
    (hown:ow u1 F [v] xs) (hA1:Agr F u1 w) {i:Int} (hi:ix xs i=some y0) {x:Value} {news:List Value} (hx:News w x 1 news) (hp:PtAt u1 (Qq8 v (Enc.sz α) i.toNat) news) (hnl:news.length=Enc.sz α) (hK:K N L a) {s y:Operand}
    (hg:gd L ops o.guard=some true) (hd:o.dst=some d) (hN:Nat.blt d N=true)
    (ho:o.op=.call { callee:=.builtin .append,args:=#[s,y],argTypes:=#[t,t] }) (hs:ev L s=some v) (hy:ev L y=some x)
    (h:∀ v' F' w' a,K N ((d,v')::L) a→Ext F w w'→St X w0 w' ((F',w')::M)→rd w' F' [v'] zs→(∀ b∈F',b∈F∨w.heap.size≤b)→wpList P ops Q rest a w'):wpList P ops Q (o::rest) a w:=by
 obtain ⟨h1,rfl⟩:=Q0g hz
 have hw:=Enc.ow_agr hown hA1
 rcases hw with ⟨_,rfl,_⟩ | ⟨g,off,cap,c,e,Gs,hv,b1,b2,b3,b4,b5,rfl,b6⟩
 · have:=Qaj hi
   simp at this
 simp only [List.cons.injEq,and_true] at hv
 subst hv
 obtain ⟨R,r1,r2⟩:=Q9v b5
 obtain ⟨j0,j1,j2⟩:=Qaj hi
 obtain ⟨G,hGs,hy0⟩:=Q98 b5 j2
 have hpw:=hp.agr hA1 (by simp [Qq8,Qin])
 obtain ⟨g2,off2,c2,e2,fr2,he2,hh2,hc2⟩:=hpw
 simp only [Qq8,Qin,Addr.mk.injEq,and_true] at he2
 obtain ⟨rfl,rfl⟩:=he2
 rw [b3] at hh2
 simp only [Option.some.injEq,Obj.cells.injEq] at hh2
 obtain ⟨rfl,_,_⟩:=hh2
 have hnw:(((c.toList.drop off).take (xs.length*Enc.sz α)).drop (i.toNat*Enc.sz α)).take (Enc.sz α)=news:=by
  have hle:(i.toNat+1)*Enc.sz α≤xs.length*Enc.sz α:=Nat.mul_le_mul_right _ (by omega)
  rw [Nat.add_mul] at hle
  rw [List.drop_take,List.take_take,List.drop_drop,Nat.min_eq_left (by omega),← hnl]
  rw [hnl] at hc2 ⊢
  exact hc2
 rw [hnw] at hy0
 have hy1:=Enc.ow_rd hy0
 have hraw:ow w [g] [.slice (some ⟨g,off,none⟩) xs.length cap] R:=.inr ⟨g,off,cap,c,e,R.map λ_=>[],by rw [r1],by omega,b2,b3,b4,by
  rw [r1,show Enc.sz (Raw (Enc.sz α))=Enc.sz α from rfl,r2]
  exact Jci R,by rw [Qky],by simp⟩
 have hM2:St X w0 w (([g]++Gs.flatten,u)::M):=hM
 have hM3:=hM2.split2
 let rw:Raw (Enc.sz α):=⟨news,Enc.rd_sz hy1,Enc.rd_one hy1⟩
 obtain ⟨v',F',w',hr,hE,how,hF'⟩:=Q5w (α:=Raw (Enc.sz α)) (P:=P) (ty:=o.type) hT hraw hx (Hs:=[[]]) (ys:=[rw]) (by
  have:=Qsd (w:=w) [rw]
  simpa [rw,Flat.e] using this) rfl (by simp) (by rw [r1]; exact h1) (by simpa using hb)
 have hGl:=Q1q b5
 have hE':Ext [g] w w':=hE.wk (by simp)
 have hgG:g∉Gs.flatten:=(List.nodup_cons.1 b6).1
 have hAG:Agr Gs.flatten w w':=λb hb=>hE'.blk b (hGl b hb) (by simp; rintro rfl; exact hgG hb)
 have hM4:=hM3.mut 0 rfl hE' F' (λb hb=>by
  obtain ⟨q1,q2⟩:=hF' b hb
  exact ⟨by simpa using q1,q2⟩) (Enc.ow_nd how)
 have hM5:=hM4.join2
 refine Qu0 hK hg hd hN ?_ λa hK=>h v' (F'++Gs.flatten) w' a hK (hE'.wk (by simp)) hM5 ?_ ?_
 · simp [execOp,ho,resolve,invoke,builtin,hK.ev hs,hK.ev hy,hr]
 · obtain ⟨ao,cap',hv',c1,c2,c3,c4⟩:=Enc.ow_rd how
   refine ⟨ao,cap',by rw [hv']; simp [r1],by simp at c1 ⊢; omega,c2,hM5.ltF 0 rfl,?_⟩
   rcases c4 with c4 | ⟨g',off',c',e',fr,rfl,d1,d2,d3⟩
   · simp at c4
   · refine .inr ⟨g',off',c',e',fr,rfl,List.mem_append_left _ d1,d2,Q21 ?_⟩
     have hc:=Qza d3
     rw [List.length_append,r1,List.length_singleton] at hc
     rw [List.length_append,List.length_singleton,show Enc.sz α=Flat.sz (Raw (Enc.sz α)) from rfl,hc,List.map_append,List.flatten_append,← r2]
     have hcs:([rw].map Flat.e).flatten=news:=by simp [rw,Flat.e]
     rw [hcs]
     exact Q7g (λb hb=>List.mem_append_right _ (hGs b hb)) (Enc.rd_agr hy1 (hAG.sub hGs)) (λb hb=>List.mem_append_right _ hb) (Quu hAG b5)
 · intro b hb
   rcases List.mem_append.1 hb with hb | hb
   · rcases (hF' b hb).1 with hb | hb
     · exact .inl (by simp at hb; simp [hb])
     · exact .inr hb
   · exact .inl (List.mem_cons_of_mem _ hb)
end
end Go.Proofs.YtpcmapfabndggaaGreat
