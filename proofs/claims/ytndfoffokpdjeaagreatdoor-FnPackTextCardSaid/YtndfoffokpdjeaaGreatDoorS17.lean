/- Regions that draw th.. -/
import Derived.Test.YtndfoffokpdjeaaGreatDoorS16
set_option linter.unusedSimpArgs false
set_option linter.unusedVariables false
namespace Go.Proofs.YtndfoffokpdjeaaGreatDoor
open Go Go.RowKit
open Enc (rd ow)
section
variable {P:Program} {ops:Array Oper} {Q:Exit→Act→World→Prop} {rest:List Oper} {o:Oper} {a:Act} {w:World} {N:Nat} {L:List (Nat×Value)}
variable {X:List Nat} {w0:World} {M:List (List Nat×World)} {d:Nat} {S:World→Prop} {fuel:Nat} {listed:Array Bool} {z:Nat}
def Qxd (P:Program) (ops:Array Oper) (Q:Exit→Act→World→Prop) (S:World→Prop) (z:Nat):Nat→Array Bool→Act→World→Prop
 | 0,l,a,w=>Region.ready .any ops l=[]∧Q .normal a w
 | n+1,l,a,w=>(Region.ready .any ops l=[]→Q .normal a w) ∧
  ∀ i∈Region.ready .any ops l,wpOp P ops Q i (λa' w'=>(i≠z→S w')∧Qxd P ops Q S z n (l.setIfInBounds i true) a' w') a w
theorem Q6a:∀ (n:Nat) (l:Array Bool) (a:Act) (w:World),Qxd P ops Q S z n l a w→wpAny P .any ops Q n l a w
 | 0,_,_,_,h=>h
 | n+1,_,_,_,h=>⟨h.1,λi hi=>wpOp_mono (λa' w' h'=>Q6a n _ a' w' h'.2) (h.2 i hi)⟩
def Q2t (ops:Array Oper) (z i:Nat):Bool:=match ops[z]? with
 | some o=>o.after.any λe=>Region.binds .any e&&e.on==i
 | none=>false
theorem Jgj {i:Nat} {oi:Oper} {v:Value} (hi:ops[i]? = some oi) (hz:Q2t ops z i=true) (hsel:∀ (j:Nat) (o:Oper) cs b,ops[j]? = some o→o.op≠.select cs b)
    (hQ:∀ c a w,Q (.panic c) (a.put oi.dst v) w→Q (.panic c) a w) :
    ∀ (n:Nat) (l:Array Bool) (a:Act) (w:World),
     (∀ j oj,ops[j]? = some oj→j≠i→l.getD j true=false→(∀ e∈oj.after,Region.binds .any e=true→e.on≠i)→oi.apart ops oj=true) →
     i∈Region.ready .any ops l→YieldsIf P ops S oi v a→S w→i≠z →
     Qxd P ops Q S z n (l.setIfInBounds i true) (a.put oi.dst v) w→Qxd P ops Q S z (n+1) l a w:=by
 intro n
 have hself:∀ (l:Array Bool) (a:Act) (w:World),YieldsIf P ops S oi v a→S w→i≠z→∀ m,Qxd P ops Q S z m (l.setIfInBounds i true) (a.put oi.dst v) w →
     wpOp P ops Q i (λa' w'=>(i≠z→S w')∧Qxd P ops Q S z m (l.setIfInBounds i true) a' w') a w :=
  λl a w hy hS _ m H=>hy.wpOp hi hS ⟨λ_=>hS,H⟩
 induction n with
 | zero =>
  intro l a w _ hr hy hS hiz H
  refine ⟨λh=>(by rw [h] at hr; cases hr),λj hj=>?_⟩
  by_cases hji:j=i
  · subst hji; exact hself l a w hy hS hiz 0 H
  · have:=ready_mono hj hji
    rw [H.1] at this
    cases this
 | succ n ih =>
  intro l a w hfree hr hy hS hiz H
  refine ⟨λh=>(by rw [h] at hr; cases hr),λj hj=>?_⟩
  by_cases hji:j=i
  · subst hji; exact hself l a w hy hS hiz _ H
  · have h1:=H.2 j (ready_mono hj hji)
    obtain ⟨hjun,oj,hoj,hall⟩:=mem_ready.1 hj
    have hnot:∀ e∈oj.after,Region.binds .any e=true→e.on≠i:=λe he hb heq=>by
     have h1:=hall e he hb
     have h0:=(mem_ready.1 hr).1
     rw [heq] at h1
     rcases Nat.lt_or_ge i l.size with h' | h'
     · simp [h'] at h0 h1; rw [h0] at h1; cases h1
     · simp [Array.getElem?_eq_none h'] at h1
    have hjz:j≠z:=λe=>by
     subst e
     simp only [Q2t,hoj,List.any_eq_true,Array.any_eq_true,Bool.and_eq_true,beq_iff_eq] at hz
     first
      | (obtain ⟨e,he,hb,heq⟩:=hz; exact hnot e he hb heq)
      | (obtain ⟨k,hk,hb,heq⟩:=hz; exact hnot _ (Array.getElem_mem hk) hb heq)
    have h2:=wpOp_putIf hoj (hfree j oj hoj hji hjun hnot) (λcs b=>hsel i oi cs b hi) (λcs b=>hsel j oj cs b hoj) hQ hy h1
    have hfree':∀ k ok,ops[k]? = some ok→k≠i→(l.setIfInBounds j true).getD k true=false →
        (∀ e∈ok.after,Region.binds .any e=true→e.on≠i)→oi.apart ops ok=true:=λk ok hk hki hun hno=>by
     refine hfree k ok hk hki ?_ hno
     by_cases hjk:j=k
     · subst hjk; exact hjun
     · rw [getD_set_ne true hjk] at hun; exact hun
    refine wpOp_mono (λa' w' h3=>⟨h3.2.1,ih (l.setIfInBounds j true) a' w' hfree' (ready_mono hr (Ne.symm hji)) h3.1 (h3.2.1 hjz) hiz ?_⟩) h2
    rw [Array.setIfInBounds_comm _ _ hji]
    exact h3.2.2
theorem Jk8 {id:Nat} {l:List Oper} (Z:List Nat) (z:Nat) {n:Nat} (hm:P.follows .mixedOrders=true) (hM:St X w0 w M) (hn:l.length=n)
    (h:∀ wd,St X w0 wd M→Qxd P l.toArray Q (Ext Z wd) z n (List.replicate n false).toArray a wd):(Code.region id l.toArray true).wp P Q a w:=by
 refine wp_region_any hm (Q6a _ _ _ _ (S:=Ext Z w.drew) (z:=z) ?_)
 have:=h w.drew (hM.step (Ext.drew w))
 subst hn
 simpa using this
theorem Qg3 (hK:K N L a) (i:Nat) {v:Value} (hi:ops[i]? = some o) (hz:(Q2t ops z i&&!(Nat.beq i z))=true) (hs:Region.noSelect ops=true) (hf:Region.free .any ops listed i=true) (hr:(Region.ready .any ops listed).contains i=true)
    (hg:gd L ops o.guard=some true) (hd:o.dst=some d) (hN:Nat.blt d N=true) (hS:S w) (hQ:∀ c a w,Q (.panic c) (a.put o.dst v) w→Q (.panic c) a w)
    (hy:∀ w,S w→(execOp a.eval o).run P w=.ok (.value v) w) (h:∀ a,K N ((d,v)::L) a→Qxd P ops Q S z fuel (listed.setIfInBounds i true) a w):Qxd P ops Q S z (fuel+1) listed a w:=by
 simp only [Bool.and_eq_true,Bool.not_eq_true'] at hz
 have hne:i≠z:=λe=>by subst e; simp at hz
 exact Jgj hi hz.1 (Region.noSelect_spec hs) hQ fuel listed a w (Region.free_spec hi hf) (by simpa using hr) (.inl ⟨hK.wanted hg,hy⟩) hS hne (by rw [hd]; exact h _ (hK.put d hN v))
theorem Qk9 (hK:K N L a) (i:Nat) {v:Value} (hi:ops[i]? = some o) (hz:(Q2t ops z i&&!(Nat.beq i z))=true) (hs:Region.noSelect ops=true) (hf:Region.free .any ops listed i=true) (hr:(Region.ready .any ops listed).contains i=true)
    (hg:gd L ops o.guard=some true) (hd:o.dst=some d) (hN:Nat.blt d N=true) (hS:S w) (hQ:∀ c a w,Q (.panic c) (a.put o.dst v) w→Q (.panic c) a w)
    (hp:Qoz L o.op=some v) (h:∀ a,K N ((d,v)::L) a→Qxd P ops Q S z fuel (listed.setIfInBounds i true) a w):Qxd P ops Q S z (fuel+1) listed a w :=
 Qg3 hK i hi hz hs hf hr hg hd hN hS hQ (λw _=>Qwy hK hp P w) h
theorem Jfo {rs:List Nat} (hr:Region.ready .any ops listed=rs) (hne:rs≠[])
    (h:∀ i∈rs,wpOp P ops Q i (λa' w'=>(i≠z→S w')∧Qxd P ops Q S z fuel (listed.setIfInBounds i true) a' w') a w):Qxd P ops Q S z (fuel+1) listed a w :=
 ⟨λh0=>absurd (hr ▸ h0) hne,hr ▸ h⟩
theorem Jno (i:Nat) (hr:Region.ready .any ops listed=[i]) (hi:ops[i]? = some o)
    (h:wpList P ops (Exit.then (λa' w'=>(i≠z→S w')∧Qxd P ops Q S z fuel (listed.setIfInBounds i true) a' w') Q) [o] a w):Qxd P ops Q S z (fuel+1) listed a w :=
 Jfo hr (by simp) λj hj=>by
  simp only [List.mem_singleton] at hj
  subst hj
  exact Qro hi h
theorem Jmz (i j:Nat) {o':Oper} (hr:Region.ready .any ops listed=[i,j]) (hi:ops[i]? = some o) (hj:ops[j]? = some o')
    (h:wpList P ops (Exit.then (λa' w'=>(i≠z→S w')∧Qxd P ops Q S z fuel (listed.setIfInBounds i true) a' w') Q) [o] a w)
    (h':wpList P ops (Exit.then (λa' w'=>(j≠z→S w')∧Qxd P ops Q S z fuel (listed.setIfInBounds j true) a' w') Q) [o'] a w):Qxd P ops Q S z (fuel+1) listed a w :=
 Jfo hr (by simp) λk hk=>by
  simp only [List.mem_cons,List.not_mem_nil,or_false] at hk
  rcases hk with rfl | rfl
  · exact Qro hi h
  · exact Qro hj h'
theorem Jgg (i j k:Nat) {o' o'':Oper} (hr:Region.ready .any ops listed=[i,j,k]) (hi:ops[i]? = some o) (hj:ops[j]? = some o') (hk:ops[k]? = some o'')
    (h:wpList P ops (Exit.then (λa' w'=>(i≠z→S w')∧Qxd P ops Q S z fuel (listed.setIfInBounds i true) a' w') Q) [o] a w)
    (h':wpList P ops (Exit.then (λa' w'=>(j≠z→S w')∧Qxd P ops Q S z fuel (listed.setIfInBounds j true) a' w') Q) [o'] a w)
    (h'':wpList P ops (Exit.then (λa' w'=>(k≠z→S w')∧Qxd P ops Q S z fuel (listed.setIfInBounds k true) a' w') Q) [o''] a w):Qxd P ops Q S z (fuel+1) listed a w :=
 Jfo hr (by simp) λm hm=>by
  simp only [List.mem_cons,List.not_mem_nil,or_false] at hm
  rcases hm with rfl | rfl | rfl
  · exact Qro hi h
  · exact Qro hj h'
  · exact Qro hk h''
theorem Qu6 (hr:Region.ready .any ops listed=[]) (h:Q .normal a w):∀ {fuel:Nat},Qxd P ops Q S z fuel listed a w
 | 0=>⟨hr,h⟩
 | _+1=>⟨λ_=>h,by rw [hr]; simp⟩
theorem Q6r {F G:List Nat} {n:Nat} (hF:F.Nodup) (hG:G.Nodup) (h1:∀ b∈F,b<n) (h2:∀ b∈G,n≤b):(F++G).Nodup :=
 List.nodup_append.2 ⟨hF,hG,λa ha b hb e=>by have:=h1 a ha; have:=h2 b hb; omega⟩
theorem Quj {α:Type} [Flat α] {w:World}:∀ (k:Nat) {Gs:List (List Nat)} {cells:List Value} {xs:List α},owL w Gs cells xs→k≤xs.length→owL w (Gs.drop k) (cells.drop (k*Enc.sz α)) (xs.drop k)
 | 0,Gs,cells,xs,h,_=>by simpa using h
 | k+1,G::Gs,cells,x::xs,⟨_,h⟩,hk=>by
  have:=Quj k h (by simpa using hk)
  rw [List.drop_drop] at this
  simpa [Nat.add_mul,Nat.add_comm] using this
 | k+1,[],_,[],h,hk=>by simp at hk
 | k+1,[],_,_::_,h,_=>h.elim
 | k+1,_::_,_,[],h,_=>h.elim
theorem Qy6 {α:Type} [Flat α] {w:World}:∀ {Gs:List (List Nat)} {cells:List Value} {xs:List α},owL w Gs cells xs→Gs.flatten=[]
 | [],_,[],_=>rfl
 | G::Gs,cells,x::xs,⟨h,h'⟩=>by
  have h0:G=[]:=h.1
  rw [List.flatten_cons,h0,Qy6 h']; rfl
 | [],_,_::_,h=>h.elim
 | _::_,_,[],h=>h.elim
theorem Q4d {α:Type} [Flat α] {u:World} {F:List Nat} {v:Value} {xs ys:List α} {lo:Int} {k:IntKind} (hf:ow u F [v] xs) (hx:sls xs lo xs.length=some ys) (hK:K N L a) {t:TypeId} (hu:TS P t (Enc.sz α)) {x i:Operand}
    (hg:gd L ops o.guard=some true) (hd:o.dst=some d) (hN:Nat.blt d N=true)
    (ho:o.op=.slice t x (some i) none none) (hv:ev L x=some v) (hi':ev L i=some (.int k lo))
    (h:∀ v' a,K N ((d,v')::L) a→ow u F [v'] ys→wpList P ops Q rest a w):wpList P ops Q (o::rest) a w:=by
 obtain ⟨ao,cap,rfl,h1,h2⟩:=Ql4 (Enc.ow_rd hf)
 obtain ⟨e,hu,hs⟩:=hu
 have hx0:=hx
 unfold sls at hx
 split at hx
 · rename_i h0
   simp only [Option.some.injEq] at hx
   have hr:ow u F [.slice (if cap=lo.toNat then ao else ao.map (·.add (lo.toNat*Enc.sz α))) ((xs.length:Int).toNat - lo.toNat) (cap - lo.toNat)] ys:=by
    subst hx
    rcases hf with ⟨hq,rfl,rfl⟩ | ⟨g,off,cap',c,e',Gs,hq,e1,e2,e3,e4,e5,rfl,e6⟩
    · simp only [List.cons.injEq,Value.slice.injEq,and_true] at hq
      obtain ⟨rfl,_,rfl⟩:=hq
      refine .inl ⟨?_,by simp,rfl⟩
      simp
    · simp only [List.cons.injEq,Value.slice.injEq,and_true,true_and] at hq
      obtain ⟨rfl,rfl⟩:=hq
      have hlen:((xs.drop lo.toNat).take ((xs.length:Int).toNat - lo.toNat))=xs.drop lo.toNat:=by
       apply List.take_of_length_le; simp
      rw [hlen]
      have hll:(xs.drop lo.toNat).length=(xs.length:Int).toNat - lo.toNat:=by simp
      have hle:lo.toNat≤xs.length:=by omega
      have hGd:(Gs.drop lo.toNat).flatten=[]:=Qy6 (Quj lo.toNat e5 hle)
      have hG0:Gs.flatten=[]:=Qy6 e5
      by_cases hc:cap=lo.toNat
      · refine .inr ⟨g,off,cap - lo.toNat,c,e',Gs.drop lo.toNat,?_,by rw [hll]; omega,by omega,e3,?_,?_,by rw [hGd,hG0],e6⟩
        · rw [if_pos hc,hll]
        · rw [Nat.sub_mul]; omega
        · have hz:xs.drop lo.toNat=[]:=List.drop_of_length_le (by omega)
          have:=Quj lo.toNat e5 hle
          rw [hz] at this ⊢
          rw [List.drop_take,show xs.length*Enc.sz α - lo.toNat*Enc.sz α=0 by rw [show xs.length=lo.toNat by omega]; simp] at this
          simpa using this
      · refine .inr ⟨g,off+lo.toNat*Enc.sz α,cap - lo.toNat,c,e',Gs.drop lo.toNat,?_,by rw [hll]; omega,by omega,e3,?_,?_,by rw [hGd,hG0],e6⟩
        · rw [if_neg hc,hll]; simp [Qgk]
        · have:lo.toNat*Enc.sz α≤cap*Enc.sz α:=Nat.mul_le_mul_right _ (by omega)
          rw [Nat.sub_mul]; omega
        · have:=Quj lo.toNat e5 hle
          rw [List.drop_take,List.drop_drop] at this
          rw [hll,show ((xs.length:Int).toNat - lo.toNat)*Enc.sz α=xs.length*Enc.sz α - lo.toNat*Enc.sz α by rw [Nat.sub_mul]; simp]
          exact this
   refine Qt8 hK hg hd hN ?_ λa hK=>h _ a hK hr
   have c2:0≤lo∧lo≤(xs.length:Int):=by omega
   simp [execOp,ho,Instr.sliceAt,Instr.slice,Instr.sliceBounds,Instr.sliceBound,hK.ev hv,hK.ev hi',run_underlying hu,asIntOf,c2,hs]
 · simp at hx
end
end Go.Proofs.YtndfoffokpdjeaaGreatDoor
