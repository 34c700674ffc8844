/- Append of a part of a list of the call's own: its elements are handed on. Own lemmas, over any program. -/
import Derived.Test.YthddjkokpfdbnaaGreatS16
set_option linter.unusedSimpArgs false
set_option linter.unusedVariables false
namespace Go.Proofs.YthddjkokpfdbnaaGreat
open Go Go.RowKit
open Enc (rd ow)
def Win (sz:Nat) (v:Value) (lo m:Nat) (v':Value):Prop:=∃ ao' cap',v' = .slice ao' m cap' ∧ ∀ g off n cap,v = .slice (some ⟨g,off,none⟩) n cap → 0 < m → ao' = some ⟨g,off + lo * sz,none⟩
section
variable {α:Type} [Enc α]
theorem owG_dr {w:World}:∀ (k:Nat) {Gs:List (List Nat)} {cells:List Value} {xs:List α},owL w Gs cells xs → owL w (Gs.drop k) (cells.drop (k * Enc.sz α)) (xs.drop k)
 | 0,Gs,cells,xs,h=>by simpa using h
 | k + 1,G :: Gs,cells,x :: xs,⟨_,h'⟩=>by
  have ih:=owG_dr k h'
  rw [List.drop_drop] at ih
  simpa [Nat.add_mul,Nat.add_comm] using ih
 | k + 1,[],cells,[],h=>by
  have h:cells = []:=h
  subst h
  simp; exact rfl
 | k + 1,[],_,_ :: _,h=>h.elim
 | k + 1,_ :: _,_,[],h=>h.elim
theorem owG_tk {w:World}:∀ (k:Nat) {Gs:List (List Nat)} {cells:List Value} {xs:List α},owL w Gs cells xs → owL w (Gs.take k) (cells.take (k * Enc.sz α)) (xs.take k)
 | 0,Gs,cells,xs,_=>by simp; exact rfl
 | k + 1,G :: Gs,cells,x :: xs,⟨h,h'⟩=>by
  have ih:=owG_tk k h'
  refine ⟨?_,?_⟩
  · rw [List.take_take,show min (Enc.sz α) ((k + 1) * Enc.sz α) = Enc.sz α by rw [Nat.add_mul]; omega]
    exact h
  · rw [List.drop_take,show (k + 1) * Enc.sz α - Enc.sz α = k * Enc.sz α by rw [Nat.add_mul]; omega]
    exact ih
 | k + 1,[],cells,[],h=>by
  have h:cells = []:=h
  subst h
  simp; exact rfl
 | k + 1,[],_,_ :: _,h=>h.elim
 | k + 1,_ :: _,_,[],h=>h.elim
theorem win_news {w:World} {F:List Nat} {v v':Value} {xs:List α} {k:Int} (h:owP w F v xs k) {lo m:Nat} (hw:Win (Enc.sz α) v lo m v') (hk:k.toNat ≤ lo) (hm:lo + m ≤ xs.length) :
    ∃ A Hs R news,owP w A v xs ((lo + m:Nat):Int) ∧ owL w Hs news ((xs.drop lo).take m) ∧ News w v' m news ∧ F.Perm (A ++ (Hs.flatten ++ R)):=by
 obtain ⟨ao',cap',rfl,hao⟩:=hw
 obtain ⟨h0,h⟩:=h
 rcases h with ⟨rfl,rfl,rfl⟩ | ⟨g,off,cap,c,e,Gs,rfl,h1,h2,h3,h4,h5,rfl,h6⟩
 · simp only [List.length_nil] at hm
   have e1:lo = 0:=by omega
   have e2:m = 0:=by omega
   subst e1; subst e2
   exact ⟨[],[],[],[],⟨by simp,.inl ⟨rfl,rfl,rfl⟩⟩,by simp; exact rfl,⟨_,_,rfl,.inl ⟨rfl,rfl⟩⟩,by simp⟩
 · have hA:=owG_dr (lo + m - k.toNat) h5
   have hH:=owG_tk m (owG_dr (lo - k.toNat) h5)
   rw [List.drop_drop] at hA hH
   rw [List.drop_drop] at hA hH
   have e1:k.toNat + (lo + m - k.toNat) = lo + m:=by omega
   have e2:k.toNat + (lo - k.toNat) = lo:=by omega
   have e3:k.toNat * Enc.sz α + (lo + m - k.toNat) * Enc.sz α = (lo + m) * Enc.sz α:=by rw [← Nat.add_mul,e1]
   have e4:k.toNat * Enc.sz α + (lo - k.toNat) * Enc.sz α = lo * Enc.sz α:=by rw [← Nat.add_mul,e2]
   rw [e1,e3] at hA
   rw [e2,e4] at hH
   have hg:Gs.flatten.Perm ((Gs.drop (lo + m - k.toNat)).flatten ++ (((Gs.drop (lo - k.toNat)).take m).flatten ++ (Gs.take (lo - k.toNat)).flatten)):=by
    have s1:Gs = Gs.take (lo - k.toNat) ++ Gs.drop (lo - k.toNat):=(List.take_append_drop _ _).symm
    have s2:Gs.drop (lo - k.toNat) = (Gs.drop (lo - k.toNat)).take m ++ Gs.drop (lo + m - k.toNat):=by
     have:=(List.take_append_drop m (Gs.drop (lo - k.toNat))).symm
     rw [List.drop_drop,show lo - k.toNat + m = lo + m - k.toNat by omega] at this
     exact this
    have s3:Gs.flatten = (Gs.take (lo - k.toNat)).flatten ++ (((Gs.drop (lo - k.toNat)).take m).flatten ++ (Gs.drop (lo + m - k.toNat)).flatten):=by
     rw [← List.flatten_append,← s2,← List.flatten_append,← s1]
    rw [s3]
    refine List.perm_append_comm.trans ?_
    rw [List.append_assoc]
    refine (List.perm_append_comm).trans ?_
    rw [List.append_assoc]
    exact List.Perm.append_left _ List.perm_append_comm
   have hperm:(g :: Gs.flatten).Perm ((g :: (Gs.drop (lo + m - k.toNat)).flatten) ++ (((Gs.drop (lo - k.toNat)).take m).flatten ++ (Gs.take (lo - k.toNat)).flatten)):=List.Perm.cons _ hg
   refine ⟨g :: (Gs.drop (lo + m - k.toNat)).flatten,(Gs.drop (lo - k.toNat)).take m,(Gs.take (lo - k.toNat)).flatten,_,⟨by omega,.inr ⟨g,off,cap,c,e,_,rfl,h1,h2,h3,h4,?_,rfl,(List.nodup_append.1 (hperm.nodup_iff.1 h6)).1⟩⟩,hH,?_,hperm⟩
   · rw [Int.toNat_natCast]; exact hA
   · by_cases hz:m = 0
     · subst hz
       exact ⟨_,_,rfl,.inl ⟨rfl,by simp⟩⟩
     · refine ⟨_,_,rfl,.inr ⟨_,hao g off _ _ rfl (by omega),g,_,c,e,_,rfl,h3,?_⟩⟩
       have hl:=(owL_len hH).2
       have hlm:((xs.drop lo).take m).length = m:=by rw [List.length_take,List.length_drop]; omega
       rw [hlm] at hl
       rw [hl]
       have hmm:(lo + m) * Enc.sz α ≤ xs.length * Enc.sz α:=Nat.mul_le_mul_right _ hm
       rw [Nat.add_mul] at hmm
       rw [List.drop_take,List.take_take,List.drop_drop]
       congr 1
       omega
end
section
variable {P:Program} {ops:Array Oper} {Q:Exit → Act → World → Prop} {rest:List Oper} {o:Oper} {a:Act} {w:World} {N:Nat} {L:List (Nat × Value)}
variable {X:List Nat} {w0:World} {M:List (List Nat × World)} {d:Nat}
theorem St.tail {p:List Nat × World} (h:St X w0 w (p :: M)):St X w0 w M:=by
 have hs:∀ b ∈ fps M,b ∈ fps (p :: M):=fun b hb=>by simp only [fps,List.flatMap_cons]; exact List.mem_append_right _ hb
 refine ⟨h.ext,fun q hq=>h.ok q (List.mem_cons_of_mem _ hq),fun b hb=>h.lt b (hs b hb),fun b hb=>h.lo b (hs b hb),?_⟩
 have:=h.nd
 simp only [fps,List.flatMap_cons] at this
 exact (List.nodup_append.1 this).2.1
theorem wl_from {α:Type} [Enc α] {u:World} {F:List Nat} {v:Value} {xs ys:List α} {lo:Int} (hf:rd u F [v] xs) (hx:sls xs lo xs.length = some ys) {t:TypeId} (hu:TS P t (Enc.sz α)) :
    ∃ v',rd u F [v'] ys ∧ Win (Enc.sz α) v lo.toNat ys.length v' ∧ ∀ {N:Nat} {L:List (Nat × Value)} {a:Act} {o:Oper} {x i:Operand} {k:IntKind},K N L a → o.op = .slice t x (some i) none none → ev L x = some v → ev L i = some (.int k lo) → ∀ w:World,(execOp a.eval o).run P w = .ok (.value v') w:=by
 obtain ⟨ao,cap,rfl,h1,h2⟩:=rd_slice hf
 obtain ⟨e,hu,hs⟩:=hu
 have hr:=rd_sls hf hx
 have hx0:=hx
 unfold sls at hx
 split at hx
 · rename_i h0
   have hyl:ys.length = (xs.length:Int).toNat - lo.toNat:=by
    simp only [Option.some.injEq] at hx
    subst hx; simp
   refine ⟨_,by simpa using hr,?_,?_⟩
   · rw [hyl]
     refine ⟨_,_,rfl,fun g off n cap' he hm=>?_⟩
     injection he with e1 e2 e3
     subst e1; subst e3
     rw [if_neg (by omega)]
     simp only [Option.map_some,Addr.add]
     by_cases hl:lo.toNat * Enc.sz α = 0 <;> simp [hl]
   · intro N L a o x i k hK ho hv hi' w
     have c2:0 ≤ lo ∧ lo ≤ (xs.length:Int):=by omega
     simp [execOp,ho,Instr.sliceAt,Instr.slice,Instr.sliceBounds,Instr.sliceBound,hK.ev hv,hK.ev hi',run_underlying hu,asIntOf,c2,hs]
 · simp at hx
theorem sls_d {α:Type} {os ys:List α} {lo hi:Int} (h:sls os lo hi = some ys):0 ≤ lo ∧ lo ≤ hi ∧ hi ≤ os.length ∧ ys = (os.drop lo.toNat).take ys.length ∧ lo.toNat + ys.length = hi.toNat:=by
 unfold sls at h
 split at h
 · rename_i h0
   simp only [Option.some.injEq] at h
   have hl:ys.length = hi.toNat - lo.toNat:=by subst h; simp; omega
   refine ⟨h0.1,h0.2.1,h0.2.2,by rw [hl]; exact h.symm,by omega⟩
 · simp at h
theorem s_appM {α:Type} [Enc α] {t bytes:Nat} {z:List Value} {xs ys zs os:List α} (hz:apnd bytes xs ys = some zs) (hT:TE P t (Enc.sz α) bytes z) (hb:Nat.blt 0 bytes = true) {F Fo:List Nat} {u1 u2:World} (hM:St X w0 w ((F,u1) :: (Fo,u2) :: M)) {v vo v1:Value}
    (hown:ow u1 F [v] xs) {k lo hi:Int} (ho:owP u2 Fo vo os k) (hw:Win (Enc.sz α) vo lo.toNat ys.length v1) (hys:sls os lo hi = some ys) (hk:k ≤ lo) (hK:K N L a) {s y:Operand}
    (hg:gd L ops o.guard = some true) (hd:o.dst = some d) (hN:Nat.blt d N = true)
    (hop:o.op = .call { callee:=.builtin .append,args:=#[s,y],argTypes:=#[t,t] }) (hs:ev L s = some v) (hy:ev L y = some v1)
    (h:∀ v' F' A w' a,K N ((d,v') :: L) a → Ext (F ++ Fo) w w' → St X w0 w' ((F',w') :: (A,w) :: M) → ow w' F' [v'] zs → owP w A vo os hi → (∀ b ∈ F',b ∈ F ++ Fo ∨ w.heap.size ≤ b) → (∀ b ∈ A,b ∈ Fo) → wpList P ops Q rest a w'):wpList P ops Q (o :: rest) a w:=by
 obtain ⟨h1,rfl⟩:=apnd_some hz
 obtain ⟨y1,y2,y3,y4,y5⟩:=sls_d hys
 have ho':=owP_agr ho (hM.a 1 rfl)
 obtain ⟨A,Hs,R,news,hA,hH,hN',hperm⟩:=win_news ho' hw (by have:=ho'.1; omega) (by omega)
 rw [y5,show ((hi.toNat:Nat):Int) = hi by omega] at hA
 rw [← y4] at hH
 have m1:St X w0 w ((Fo,u2) :: (F,u1) :: M):=hM.toFront 1 rfl
 have m2:=m1.part hperm
 have m3:St X w0 w ((Hs.flatten ++ R,w) :: (A,w) :: (F,u1) :: M):=m2.toFront 1 rfl
 have m4:=m3.split2
 have m5:St X w0 w ((R,w) :: (Hs.flatten,w) :: (A,w) :: (F,u1) :: M):=m4.toFront 1 rfl
 have m6:=m5.tail
 have m7:St X w0 w ((F,u1) :: (Hs.flatten,w) :: (A,w) :: M):=m6.toFront 2 rfl
 have m8:=m7.join2
 obtain ⟨v',F',w',hr,hE,how,hF'⟩:=run_app (P:=P) (ty:=o.type) hT (Enc.ow_agr hown (hM.a 0 rfl)) hN' hH rfl (m8.ndF 0 rfl) h1 (by simpa using hb)
 have hsub:∀ b ∈ F ++ Hs.flatten,b ∈ F ++ Fo:=fun b hb=>by
  rcases List.mem_append.1 hb with hb | hb
  · exact List.mem_append_left _ hb
  · exact List.mem_append_right _ (hperm.mem_iff.2 (List.mem_append_right _ (List.mem_append_left _ hb)))
 refine s_val hK hg hd hN ?_ fun a hK=>h v' F' A w' a hK (hE.wk hsub) (m8.mut 0 rfl hE F' hF' (Enc.ow_nd how)) how hA (fun b hb=>(hF' b hb).1.elim (fun hb=>.inl (hsub b hb)) .inr) (fun b hb=>hperm.mem_iff.2 (List.mem_append_left _ hb))
 simp [execOp,hop,resolve,invoke,builtin,hK.ev hs,hK.ev hy,hr]
end
end Go.Proofs.YthddjkokpfdbnaaGreat
