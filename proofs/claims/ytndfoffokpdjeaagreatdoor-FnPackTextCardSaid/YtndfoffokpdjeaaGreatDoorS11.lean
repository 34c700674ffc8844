/- An element of a nest.. -/
import Derived.Test.YtndfoffokpdjeaaGreatDoorS10
set_option linter.unusedSimpArgs false
set_option linter.unusedVariables false
namespace Go.Proofs.YtndfoffokpdjeaaGreatDoor
open Go Go.RowKit
open Enc (rd ow)
open Arg (argv)
open Ret (retv)
section
variable {α:Type} [Enc α]
def Jcn (w:World):Nat→List (List Nat)→List Value→List α→Prop
 | 0,G::Gs,cells,_::xs=>G=[]∧Enc.sz α≤cells.length∧owL w Gs (cells.drop (Enc.sz α)) xs
 | i+1,G::Gs,cells,x::xs=>ow w G (cells.take (Enc.sz α)) x∧Jcn w i Gs (cells.drop (Enc.sz α)) xs
 | _,_,_,_=>False
theorem Q2w {u w:World}:∀ {i:Nat} {Gs:List (List Nat)} {cells:List Value} {xs:List α},Agr Gs.flatten u w→Jcn u i Gs cells xs→Jcn w i Gs cells xs
 | 0,G::Gs,cells,x::xs,hA,⟨h1,h2,h3⟩=>⟨h1,h2,Qvt (hA.sub (λb hb=>by rw [List.flatten_cons]; exact List.mem_append_right _ hb)) h3⟩
 | i+1,G::Gs,cells,x::xs,hA,⟨h1,h2⟩=>⟨Enc.ow_agr h1 (hA.sub (λb hb=>by simp [hb])),Q2w (hA.sub (λb hb=>by rw [List.flatten_cons]; exact List.mem_append_right _ hb)) h2⟩
 | 0,[],_,_,_,h=>h.elim
 | 0,_::_,_,[],_,h=>h.elim
 | _+1,[],_,_,_,h=>h.elim
 | _+1,_::_,_,[],_,h=>h.elim
theorem Qyl {w:World}:∀ {i:Nat} {Gs:List (List Nat)} {cells:List Value} {xs:List α},Jcn w i Gs cells xs→Gs.length=xs.length∧cells.length=xs.length*Enc.sz α∧i<xs.length∧Gs[i]? = some []
 | 0,G::Gs,cells,x::xs,⟨h1,h2,h3⟩=>by
  obtain ⟨e1,e2⟩:=Qwu h3
  simp only [List.length_drop] at e2
  refine ⟨by simp [e1],?_,by simp,by simp [h1]⟩
  simp only [List.length_cons,Nat.add_mul,Nat.one_mul]; omega
 | i+1,G::Gs,cells,x::xs,⟨h1,h2⟩=>by
  obtain ⟨e1,e2,e3,e4⟩:=Qyl h2
  have h3:=Enc.rd_sz (Enc.ow_rd h1)
  simp only [List.length_take,List.length_drop] at e2 h3
  refine ⟨by simp [e1],?_,by simpa using e3,by simpa using e4⟩
  simp only [List.length_cons,Nat.add_mul,Nat.one_mul]; omega
 | 0,[],_,_,h=>h.elim
 | 0,_::_,_,[],h=>h.elim
 | _+1,[],_,_,h=>h.elim
 | _+1,_::_,_,[],h=>h.elim
theorem Q9i {w:World}:∀ {i:Nat} {Gs:List (List Nat)} {cells:List Value} {xs:List α} {x:α},owL w Gs cells xs→xs[i]? = some x →
    ∃ G,Gs[i]? = some G∧Jcn w i (Gs.set i []) cells xs∧ow w G ((cells.drop (i*Enc.sz α)).take (Enc.sz α)) x
 | 0,G::Gs,cells,y::xs,x,⟨h,h'⟩,hx=>by
  simp only [List.getElem?_cons_zero,Option.some.injEq] at hx
  subst hx
  have hl:=Enc.rd_sz (Enc.ow_rd h)
  simp only [List.length_take] at hl
  exact ⟨G,rfl,⟨rfl,by omega,h'⟩,by simpa using h⟩
 | i+1,G::Gs,cells,y::xs,x,⟨h,h'⟩,hx=>by
  obtain ⟨G',h1,h2,h3⟩:=Q9i h' (by simpa using hx)
  refine ⟨G',by simpa using h1,⟨h,h2⟩,?_⟩
  rw [List.drop_drop] at h3
  rw [show (i+1)*Enc.sz α=Enc.sz α+i*Enc.sz α by rw [Nat.add_mul]; omega]
  exact h3
 | _,[],_,[],x,_,hx=>by simp at hx
 | _,[],_,_::_,_,h,_=>h.elim
 | _,_::_,_,[],_,h,_=>h.elim
theorem Q6o {w:World} {G:List Nat} {cs:List Value} {y:α} (hy:ow w G cs y):∀ {i:Nat} {Gs:List (List Nat)} {cells:List Value} {xs:List α},Jcn w i Gs cells xs →
    (cells.drop (i*Enc.sz α)).take (Enc.sz α)=cs→owL w (Gs.set i G) cells (xs.set i y)
 | 0,H::Gs,cells,x::xs,⟨_,_,h3⟩,hc=>⟨by rw [Nat.zero_mul,List.drop_zero] at hc; rw [hc]; exact hy,h3⟩
 | i+1,H::Gs,cells,x::xs,⟨h1,h2⟩,hc=>⟨h1,Q6o hy h2 (by rw [List.drop_drop,← hc,show (i+1)*Enc.sz α=Enc.sz α+i*Enc.sz α by rw [Nat.add_mul]; omega])⟩
 | 0,[],_,_,h,_=>h.elim
 | 0,_::_,_,[],h,_=>h.elim
 | _+1,[],_,_,h,_=>h.elim
 | _+1,_::_,_,[],h,_=>h.elim
theorem Qzx {w:World} {cs:List Value} (hl:cs.length=Enc.sz α):∀ {i:Nat} {Gs:List (List Nat)} {cells:List Value} {xs:List α},Jcn w i Gs cells xs→Jcn w i Gs (Qbb cells (i*Enc.sz α) cs) xs
 | 0,G::Gs,cells,x::xs,⟨h1,h2,h3⟩=>by
  refine ⟨h1,?_,?_⟩
  · simp only [Qbb,List.length_append,List.length_take,List.length_drop]; omega
  · simp only [Nat.zero_mul,Qbb,List.take_zero,List.nil_append,Nat.zero_add]
    rw [List.drop_left' hl,hl]; exact h3
 | i+1,G::Gs,cells,x::xs,⟨h1,h2⟩=>by
  have hl0:=Enc.rd_sz (Enc.ow_rd h1)
  have hle:Enc.sz α≤cells.length:=by simp at hl0; omega
  refine ⟨?_,?_⟩
  · have:(Qbb cells ((i+1)*Enc.sz α) cs).take (Enc.sz α)=cells.take (Enc.sz α):=by
      simp only [Qbb,List.append_assoc]
      rw [List.take_append_of_le_length (by simp [Nat.add_mul]; omega),List.take_take]
      congr 1
      simp [Nat.add_mul]
    rw [this]; exact h1
  · have:(Qbb cells ((i+1)*Enc.sz α) cs).drop (Enc.sz α)=Qbb (cells.drop (Enc.sz α)) (i*Enc.sz α) cs:=by
      simp only [Qbb,List.append_assoc]
      rw [List.drop_append_of_le_length (by simp [Nat.add_mul]; omega),List.drop_take,List.drop_drop]
      congr 3
      · simp [Nat.add_mul]
      · simp [Nat.add_mul]; omega
    rw [this]; exact Qzx hl h2
 | 0,[],_,_,h=>h.elim
 | 0,_::_,_,[],h=>h.elim
 | _+1,[],_,_,h=>h.elim
 | _+1,_::_,_,[],h=>h.elim
theorem Q6b {Gs:List (List Nat)} {i:Nat} {G:List Nat} (h:Gs[i]? = some G):Gs.flatten.Perm ((Gs.set i []).flatten++G):=by
 induction Gs generalizing i with
 | nil=>simp at h
 | cons H Gs ih =>
  cases i with
  | zero =>
   simp only [List.getElem?_cons_zero,Option.some.injEq] at h
   subst h
   simp only [List.set_cons_zero,List.flatten_cons,List.nil_append]
   exact List.perm_append_comm
  | succ i =>
   simp only [List.set_cons_succ,List.flatten_cons,List.append_assoc]
   exact List.Perm.append_left _ (ih (by simpa using h))
theorem Jgb {Gs:List (List Nat)} {i:Nat} (h:Gs[i]? = some []) (G:List Nat):(Gs.set i G).flatten.Perm (Gs.flatten++G):=by
 have hlt:=(List.getElem?_eq_some_iff.1 h).1
 have h1:=Q6b (Gs:=Gs.set i G) (i:=i) (G:=G) (by simp [hlt])
 have e:(Gs.set i G).set i []=Gs:=by
  rw [List.set_set]
  apply List.ext_getElem?
  intro j
  rw [List.getElem?_set]
  by_cases e:i=j
  · subst e; simp [hlt,(List.getElem?_eq_some_iff.1 h).2]
  · simp [e]
 rw [e] at h1
 exact h1
def owH (w:World) (F:List Nat) (v:Value) (xs:List α) (i:Nat) (cs:List Value):Prop :=
 ∃ g off cap c e Gs,v=.slice (some ⟨g,off,none⟩) xs.length cap∧xs.length≤cap∧cap≤maxLen∧w.heap[g]? = some (.cells c e (0,0)) ∧
  off+cap*Enc.sz α≤c.size∧Jcn w i Gs ((c.toList.drop off).take (xs.length*Enc.sz α)) xs∧F=g::Gs.flatten∧F.Nodup ∧
  (((c.toList.drop off).take (xs.length*Enc.sz α)).drop (i*Enc.sz α)).take (Enc.sz α)=cs
theorem Q5q {u w:World} {F:List Nat} {v:Value} {xs:List α} {i:Nat} {cs:List Value} (h:owH u F v xs i cs) (hA:Agr F u w):owH w F v xs i cs:=by
 obtain ⟨g,off,cap,c,e,Gs,rfl,h1,h2,h3,h4,h5,rfl,h6,h7⟩:=h
 exact ⟨g,off,cap,c,e,Gs,rfl,h1,h2,(hA g (by simp)).trans h3,h4,Q2w (hA.sub (λb hb=>List.mem_cons_of_mem _ hb)) h5,rfl,h6,h7⟩
theorem Jit {w:World} {F:List Nat} {v:Value} {xs:List α} {i:Nat} {cs:List Value} (h:owH w F v xs i cs):PtAt w (Qmr v (Enc.sz α) i) cs∧cs.length=Enc.sz α:=by
 obtain ⟨g,off,cap,c,e,Gs,rfl,h1,h2,h3,h4,h5,rfl,h6,rfl⟩:=h
 obtain ⟨e1,e2,e3,_⟩:=Qyl h5
 have hm:(i+1)*Enc.sz α≤xs.length*Enc.sz α:=Nat.mul_le_mul_right _ (by omega)
 rw [Nat.add_mul,Nat.one_mul] at hm
 have hl:((((c.toList.drop off).take (xs.length*Enc.sz α)).drop (i*Enc.sz α)).take (Enc.sz α)).length=Enc.sz α:=by
  rw [List.length_take,List.length_drop,e2]; omega
 refine ⟨?_,hl⟩
 simp only [Qmr,Qgk]
 refine ⟨g,_,c,e,_,rfl,h3,?_⟩
 rw [hl,List.drop_take,List.take_take,List.drop_drop]
 congr 1
 omega
theorem Jgn {u:World} {F:List Nat} {v:Value} {xs:List α} {i:Nat} {x:α} {cs:List Value} (h:ow u F [v] xs) (hx:xs[i]? = some x) (hp:PtAt u (Qmr v (Enc.sz α) i) cs) (hl:cs.length=Enc.sz α) :
    ∃ A B,owH u A v xs i cs∧ow u B cs x∧F.Perm (A++B):=by
 rcases h with ⟨_,rfl,_⟩ | ⟨g,off,cap,c,e,Gs,hv,h1,h2,h3,h4,h5,rfl,h6⟩
 · simp at hx
 · have:=(List.cons.inj hv).1
   subst this
   obtain ⟨G,hG,hH,hO⟩:=Q9i h5 hx
   have hpt:(((c.toList.drop off).take (xs.length*Enc.sz α)).drop (i*Enc.sz α)).take (Enc.sz α)=cs:=by
    obtain ⟨g',off',c',e',fr,he,hh,hc⟩:=hp
    simp only [Qmr,Qgk,Addr.mk.injEq,and_true] at he
    obtain ⟨rfl,rfl⟩:=he
    rw [h3] at hh
    injection hh with hh
    injection hh with hh _ _
    subst hh
    rw [hl] at hc
    rw [← hc,List.drop_take,List.take_take,List.drop_drop]
    have hi:=(List.getElem?_eq_some_iff.1 hx).1
    have hm:(i+1)*Enc.sz α≤xs.length*Enc.sz α:=Nat.mul_le_mul_right _ (by omega)
    rw [Nat.add_mul,Nat.one_mul] at hm
    congr 1
    omega
   rw [hpt] at hO
   have hperm:(g::Gs.flatten).Perm ((g::(Gs.set i []).flatten)++G):=List.Perm.cons _ (Q6b hG)
   refine ⟨_,G,⟨g,off,cap,c,e,Gs.set i [],rfl,h1,h2,h3,h4,hH,rfl,?_,hpt⟩,hO,hperm⟩
   exact (List.nodup_append.1 (hperm.nodup_iff.1 h6)).1
theorem Jj4 {w:World} {A B:List Nat} {v:Value} {xs:List α} {i:Nat} {y:α} {cs:List Value} (h:owH w A v xs i cs) (hy:ow w B cs y) (hn:(A++B).Nodup) :
    ∃ F,ow w F [v] (xs.set i y)∧F.Perm (A++B):=by
 obtain ⟨g,off,cap,c,e,Gs,rfl,h1,h2,h3,h4,h5,rfl,h6,h7⟩:=h
 obtain ⟨e1,e2,e3,e4⟩:=Qyl h5
 have hperm:(g::(Gs.set i B).flatten).Perm ((g::Gs.flatten)++B):=List.Perm.cons _ (Jgb e4 B)
 refine ⟨_,.inr ⟨g,off,cap,c,e,Gs.set i B,by simp,by simpa using h1,h2,h3,h4,?_,rfl,hperm.nodup_iff.2 hn⟩,hperm⟩
 rw [List.length_set]
 exact Q6o hy h5 h7
omit [Enc α] in
theorem Qc5 {xs:List α} {n:Int} {x:α} (y:α) (h:ix xs n=some x):ix (Qi1 xs n y) n=some y:=by
 obtain ⟨h0,h1,h2⟩:=Qah h
 have:=(List.getElem?_eq_some_iff.1 h2).1
 simp [ix,Qi1,h0,this]
end
section
variable {P:Program} {ops:Array Oper} {Q:Exit→Act→World→Prop} {rest:List Oper} {o:Oper} {a:Act} {w:World} {N:Nat} {L:List (Nat×Value)}
variable {X:List Nat} {w0:World} {M:List (List Nat×World)} {d:Nat}
theorem Jco {M M':List (List Nat×World)} (h:M.Perm M'):(fps M).Perm (fps M'):=by
 unfold fps
 exact List.Perm.flatMap_right _ h
theorem Q1u {β:Type}:∀ (M:List β) (k:Nat) (p:β),M[k]? = some p→M.Perm (p::M.eraseIdx k)
 | [],_,_,h=>by simp at h
 | q::M,0,p,h=>by simp only [List.getElem?_cons_zero,Option.some.injEq] at h; subst h; exact List.Perm.refl _
 | q::M,k+1,p,h=>((Q1u M k p (by simpa using h)).cons q).trans (List.Perm.swap _ _ _)
theorem St.toFront (h:St X w0 w M) (k:Nat) {p:List Nat×World} (hk:M[k]? = some p):St X w0 w (p::M.eraseIdx k):=by
 have hp:M.Perm (p::M.eraseIdx k):=Q1u M k p hk
 have hf:=Jco hp
 exact ⟨h.ext,λq hq=>h.ok q (hp.mem_iff.2 hq),λb hb=>h.lt b (hf.mem_iff.2 hb),λb hb=>h.lo b (hf.mem_iff.2 hb),hf.nodup_iff.1 h.nd⟩
theorem St.part {F A B:List Nat} {u:World} (h:St X w0 w ((F,u)::M)) (hp:F.Perm (A++B)):St X w0 w ((A,w)::(B,w)::M):=by
 have e:(fps ((F,u)::M)).Perm (fps ((A,w)::(B,w)::M)):=by
  simp only [fps,List.flatMap_cons]
  rw [← List.append_assoc]
  exact hp.append_right _
 refine ⟨h.ext,?_,λb hb=>h.lt b (e.mem_iff.2 hb),λb hb=>h.lo b (e.mem_iff.2 hb),e.nodup_iff.1 h.nd⟩
 intro p hq
 simp only [List.mem_cons] at hq
 rcases hq with rfl | rfl | hq
 · exact Agr.refl _ _
 · exact Agr.refl _ _
 · exact h.ok p (by simp [hq])
theorem St.whole {F A B:List Nat} {u v:World} (h:St X w0 w ((A,u)::(B,v)::M)) (hp:F.Perm (A++B)):St X w0 w ((F,w)::M):=by
 have h1:=h.join2
 have e:(fps ((A++B,w)::M)).Perm (fps ((F,w)::M)):=by
  simp only [fps,List.flatMap_cons]
  exact hp.symm.append_right _
 refine ⟨h1.ext,?_,λb hb=>h1.lt b (e.mem_iff.2 hb),λb hb=>h1.lo b (e.mem_iff.2 hb),e.nodup_iff.1 h1.nd⟩
 intro p hq
 simp only [List.mem_cons] at hq
 rcases hq with rfl | hq
 · exact Agr.refl _ _
 · exact h1.ok p (by simp [hq])
theorem St.opnS {α:Type} [Enc α] (hM:St X w0 w M) (k:Nat) {F:List Nat} {u:World} (hk:M[k]? = some (F,u)) {v:Value} {xs:List α} (h:ow u F [v] xs) {n:Int} {x:α} (hx:ix xs n=some x)
    {cs:List Value} (hp:PtAt u (Qmr v (Enc.sz α) n.toNat) cs) (hl:cs.length=Enc.sz α) {M':List (List Nat×World)} (hM':M.eraseIdx k=M') :
    ∃ A B,St X w0 w ((A,w)::(B,w)::M')∧owH w A v xs n.toNat cs∧ow w B cs x∧(∀ b∈A,b∈F)∧(∀ b∈B,b∈F):=by
 subst hM'
 obtain ⟨A,B,h1,h2,h3⟩:=Jgn h (Qah hx).2.2 hp hl
 have hA:=hM.a k hk
 have hAA:Agr A u w:=hA.sub (λb hb=>h3.mem_iff.2 (List.mem_append_left _ hb))
 have hAB:Agr B u w:=hA.sub (λb hb=>h3.mem_iff.2 (List.mem_append_right _ hb))
 exact ⟨A,B,(hM.toFront k hk).part h3,Q5q h1 hAA,Enc.ow_agr h2 hAB,λb hb=>h3.mem_iff.2 (List.mem_append_left _ hb),λb hb=>h3.mem_iff.2 (List.mem_append_right _ hb)⟩
theorem St.opn {α:Type} [Enc α] (hM:St X w0 w M) (k:Nat) {F:List Nat} {u:World} (hk:M[k]? = some (F,u)) {v:Value} {xs:List α} (h:ow u F [v] xs) {n:Int} {x:α} (hx:ix xs n=some x)
    {cs:List Value} (hp:PtAt u (Qmr v (Enc.sz α) n.toNat) cs) (hl:cs.length=Enc.sz α) {M':List (List Nat×World)} (hM':M.eraseIdx k=M') :
    ∃ A B,St X w0 w ((A,w)::(B,w)::M')∧owH w A v xs n.toNat cs∧ow w B cs x:=by
 obtain ⟨A,B,h1,h2,h3,_⟩:=hM.opnS k hk h hx hp hl hM'
 exact ⟨A,B,h1,h2,h3⟩
theorem St.cls {α:Type} [Enc α] {A B:List Nat} {u1 u2:World} (hM:St X w0 w ((A,u1)::(B,u2)::M)) {v:Value} {xs:List α} {n:Int} {cs:List Value} (h:owH u1 A v xs n.toNat cs) {y:α} (hy:ow u2 B cs y) :
    ∃ F,St X w0 w ((F,w)::M)∧ow w F [v] (Qi1 xs n y):=by
 have h1:=Q5q h (hM.a 0 rfl)
 have h2:=Enc.ow_agr hy (hM.a 1 rfl)
 obtain ⟨F,h3,h4⟩:=Jj4 h1 h2 (hM.join2.ndF 0 rfl)
 exact ⟨F,hM.whole h4,h3⟩
theorem Qu8 {α:Type} [Enc α] {t n sz:Nat} (hs:∀ w,(sizeOf t).run P w=.ok n w) (hM:St X w0 w M) (k:Nat) {F:List Nat} {u:World} {v:Value} {xs:List α} {m:Nat} {cs cs':List Value} (h:owH u F v xs m cs) (off:Nat) (hK:K N L a) {xo yo:Operand} {p:Addr} {c:Value}
    (hk:M[k]? = some (F,u)) (hg:gd L ops o.guard=some true) (hd:o.dst=none)
    (ho:o.op=.store t xo yo) (hp':ev L xo=some (.pointer (some p))) (hp:p=(Qmr v (Enc.sz α) m).add off) (hv:ev L yo=some c)
    (hsz:sz=Enc.sz α) (hle:Nat.ble (off+n) sz=true) (hvc:c.cells.toList.all Value.oneCell'=true) (hn:c.cells.size=n) (hc:Qbb cs off c.cells.toList=cs')
    (hk':∀ w' a,K N L a→Ext F w w'→St X w0 w' (M.set k (F,w'))→owH w' F v xs m cs'→wpList P ops Q rest a w'):wpList P ops Q (o::rest) a w:=by
 subst hsz
 have hH:=Q5q h (hM.a k hk)
 have hFl:=hM.ltF k hk
 have hle':=Nat.le_of_ble_eq_true hle
 have hcl:=(Jit hH).2
 obtain ⟨g,boff,cap,cur,e,Gs,hvv,h2,h3,h4,h5,h6,rfl,h8,h9⟩:=hH
 subst hvv
 obtain ⟨e1,e2,e3,e4⟩:=Qyl h6
 have hb:bx w g cur.toList e:=h4
 have hm:(m+1)*Enc.sz α≤xs.length*Enc.sz α:=Nat.mul_le_mul_right _ (by omega)
 rw [Nat.add_mul,Nat.one_mul] at hm
 have hcap:xs.length*Enc.sz α≤cap*Enc.sz α:=Nat.mul_le_mul_right _ h2
 have hpos:boff+m*Enc.sz α+off+n≤cur.toList.length:=by simp; omega
 have hcll:c.cells.toList.length=n:=by simp [hn]
 have hr:=Quy (P:=P) (off:=boff+m*Enc.sz α+off) hs hb hn hpos (λu hu=>List.all_eq_true.1 hvc u hu)
 have hwr:bx (w.setRow g (Qbb cur.toList (boff+m*Enc.sz α+off) c.cells.toList).toArray) g (Qbb cur.toList (boff+m*Enc.sz α+off) c.cells.toList) e:=hb.store _
 have hEx:Ext (g::Gs.flatten) w (w.setRow g (Qbb cur.toList (boff+m*Enc.sz α+off) c.cells.toList).toArray):=(Ext.setRow g _).wk (by simp)
 have hlen:xs.length*Enc.sz α≤(cur.toList.drop boff).length:=by simp; omega
 have hcell:((Qbb cur.toList (boff+m*Enc.sz α+off) c.cells.toList).drop boff).take (xs.length*Enc.sz α)=Qbb ((cur.toList.drop boff).take (xs.length*Enc.sz α)) (m*Enc.sz α) cs':=by
  rw [← hc,← h9,Q4o _ _ _ _ _ (by omega) (by rw [e2]; omega),Nat.add_assoc boff,Qvp _ _ _ _ (by omega),Qvn _ _ _ _ (by omega) hlen]
 have hcl':cs'.length=Enc.sz α:=by rw [← hc,Qpv _ _ _ (by omega),hcl]
 have how':owH (w.setRow g (Qbb cur.toList (boff+m*Enc.sz α+off) c.cells.toList).toArray) (g::Gs.flatten) (.slice (some ⟨g,boff,none⟩) xs.length cap) xs m cs':=by
  refine ⟨g,boff,cap,_,e,Gs,rfl,h2,h3,hwr,?_,?_,rfl,h8,?_⟩
  · simp only [List.size_toArray]; rw [Qpv _ _ _ (by simp [hn] at hpos ⊢; omega)]; simpa using h5
  · rw [show (Qbb cur.toList (boff+m*Enc.sz α+off) c.cells.toList).toArray.toList=Qbb cur.toList (boff+m*Enc.sz α+off) c.cells.toList from rfl,hcell]
    refine Q2w ?_ (Qzx hcl' h6)
    intro b hb'
    refine setRow_other w g b _ ?_
    intro hbg
    subst hbg
    exact (List.nodup_cons.1 h8).1 hb'
  · rw [show (Qbb cur.toList (boff+m*Enc.sz α+off) c.cells.toList).toArray.toList=Qbb cur.toList (boff+m*Enc.sz α+off) c.cells.toList from rfl,hcell]
    have e2':=e2
    simp only [Qbb]
    have hA:((List.take (xs.length*Enc.sz α) (List.drop boff cur.toList)).take (m*Enc.sz α)).length=m*Enc.sz α:=by rw [List.length_take,e2]; omega
    rw [List.append_assoc,List.drop_left' hA,List.take_left' hcl']
 refine Q9x hK hg hd (w':=w.setRow g (Qbb cur.toList (boff+m*Enc.sz α+off) c.cells.toList).toArray) ?_ λa hK=>hk' _ a hK hEx (hM.mut k hk hEx _ (λb hb=>⟨.inl hb,by simp; exact hFl b hb⟩) h8) how'
 subst hp
 simp only [execOp,ho,hK.ev hp',hK.ev hv,Instr.storeAt,Instr.sureAddr,Sem.run_bind,Sem.run_pure,Result.andThen_ok,Qmr,Qgk,hr]
theorem Qup {α:Type} [Enc α] {t sz:Nat} (hs:∀ w,(sizeOf t).run P w=.ok 1 w) (hM:St X w0 w M) (k:Nat) {F:List Nat} {u:World} {v:Value} {xs:List α} {m:Nat} {cs cs':List Value} (h:owH u F v xs m cs) (off:Nat) (hK:K N L a) {xo yo:Operand} {p:Addr} {c:Value}
    (hvc:c.cells=#[c]) (hvo:c.oneCell'=true) (hc:Qbb cs off [c]=cs')
    (hk:M[k]? = some (F,u)) (hg:gd L ops o.guard=some true) (hd:o.dst=none)
    (ho:o.op=.store t xo yo) (hp':ev L xo=some (.pointer (some p))) (hp:p=(Qmr v (Enc.sz α) m).add off) (hv:ev L yo=some c)
    (hsz:sz=Enc.sz α) (hle:Nat.ble (off+1) sz=true)
    (hk':∀ w' a,K N L a→Ext F w w'→St X w0 w' (M.set k (F,w'))→owH w' F v xs m cs'→wpList P ops Q rest a w'):wpList P ops Q (o::rest) a w :=
 Qu8 hs hM k h off hK hk hg hd ho hp' hp hv hsz hle (by rw [hvc]; simp [hvo]) (by rw [hvc]; rfl) (by rw [hvc]; exact hc) hk'
end
end Go.Proofs.YtndfoffokpdjeaaGreatDoor
