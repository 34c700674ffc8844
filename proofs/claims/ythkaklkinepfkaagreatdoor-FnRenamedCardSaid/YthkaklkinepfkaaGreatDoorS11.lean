/- own lemmas -/
import Derived.Test.YthkaklkinepfkaaGreatDoorS15
import Derived.Lib.SlicesCompact
import Derived.Shelf.SlicesE.Delete
import Derived.Laws.IdiomStrings
import Derived.Laws.BytesArg
import Derived.Shelf.Strconv.Itoa3
import Derived.Lib.SmallJoins
import Derived.Lib.ItoaLen
set_option linter.unusedSimpArgs false
set_option linter.unusedVariables false
namespace Go.Proofs.YthkaklkinepfkaaGreatDoor
open Go Go.RowKit
open Enc (rd ow)
open Arg (argv)
open Ret (retv)
section
variable {α:Type} [Enc α]
def owLH (w:World):Nat → List (List Nat) → List Value → List α → Prop
 | 0,G :: Gs,cells,_ :: xs=>G = [] ∧ Enc.sz α ≤ cells.length ∧ owL w Gs (cells.drop (Enc.sz α)) xs
 | i + 1,G :: Gs,cells,x :: xs=>ow w G (cells.take (Enc.sz α)) x ∧ owLH w i Gs (cells.drop (Enc.sz α)) xs
 | _,_,_,_=>False
theorem owLH_agr {u w:World}:∀ {i:Nat} {Gs:List (List Nat)} {cells:List Value} {xs:List α},Agr Gs.flatten u w → owLH u i Gs cells xs → owLH w i Gs cells xs
 | 0,G :: Gs,cells,x :: xs,hA,⟨h1,h2,h3⟩=>⟨h1,h2,owL_agr (hA.sub (fun b hb=>by rw [List.flatten_cons]; exact List.mem_append_right _ hb)) h3⟩
 | i + 1,G :: Gs,cells,x :: xs,hA,⟨h1,h2⟩=>⟨Enc.ow_agr h1 (hA.sub (fun b hb=>by simp [hb])),owLH_agr (hA.sub (fun b hb=>by rw [List.flatten_cons]; exact List.mem_append_right _ hb)) h2⟩
 | 0,[],_,_,_,h=>h.elim
 | 0,_ :: _,_,[],_,h=>h.elim
 | _ + 1,[],_,_,_,h=>h.elim
 | _ + 1,_ :: _,_,[],_,h=>h.elim
theorem owLH_len {w:World}:∀ {i:Nat} {Gs:List (List Nat)} {cells:List Value} {xs:List α},owLH w i Gs cells xs → Gs.length = xs.length ∧ cells.length = xs.length * Enc.sz α ∧ i < xs.length ∧ Gs[i]? = some []
 | 0,G :: Gs,cells,x :: xs,⟨h1,h2,h3⟩=>by
  obtain ⟨e1,e2⟩:=owL_len h3
  simp only [List.length_drop] at e2
  refine ⟨by simp [e1],?_,by simp,by simp [h1]⟩
  simp only [List.length_cons,Nat.add_mul,Nat.one_mul]; omega
 | i + 1,G :: Gs,cells,x :: xs,⟨h1,h2⟩=>by
  obtain ⟨e1,e2,e3,e4⟩:=owLH_len h2
  have h3:=Enc.rd_sz (Enc.ow_rd h1)
  simp only [List.length_take,List.length_drop] at e2 h3
  refine ⟨by simp [e1],?_,by simpa using e3,by simpa using e4⟩
  simp only [List.length_cons,Nat.add_mul,Nat.one_mul]; omega
 | 0,[],_,_,h=>h.elim
 | 0,_ :: _,_,[],h=>h.elim
 | _ + 1,[],_,_,h=>h.elim
 | _ + 1,_ :: _,_,[],h=>h.elim
theorem owLH_of {w:World}:∀ {i:Nat} {Gs:List (List Nat)} {cells:List Value} {xs:List α} {x:α},owL w Gs cells xs → xs[i]? = some x →
    ∃ G,Gs[i]? = some G ∧ owLH w i (Gs.set i []) cells xs ∧ ow w G ((cells.drop (i * Enc.sz α)).take (Enc.sz α)) x
 | 0,G :: Gs,cells,y :: xs,x,⟨h,h'⟩,hx=>by
  simp only [List.getElem?_cons_zero,Option.some.injEq] at hx
  subst hx
  have hl:=Enc.rd_sz (Enc.ow_rd h)
  simp only [List.length_take] at hl
  exact ⟨G,rfl,⟨rfl,by omega,h'⟩,by simpa using h⟩
 | i + 1,G :: Gs,cells,y :: xs,x,⟨h,h'⟩,hx=>by
  obtain ⟨G',h1,h2,h3⟩:=owLH_of h' (by simpa using hx)
  refine ⟨G',by simpa using h1,⟨h,h2⟩,?_⟩
  rw [List.drop_drop] at h3
  rw [show (i + 1) * Enc.sz α = Enc.sz α + i * Enc.sz α by rw [Nat.add_mul]; omega]
  exact h3
 | _,[],_,[],x,_,hx=>by simp at hx
 | _,[],_,_ :: _,_,h,_=>h.elim
 | _,_ :: _,_,[],_,h,_=>h.elim
theorem owLH_put {w:World} {G:List Nat} {cs:List Value} {y:α} (hy:ow w G cs y):∀ {i:Nat} {Gs:List (List Nat)} {cells:List Value} {xs:List α},owLH w i Gs cells xs →
    (cells.drop (i * Enc.sz α)).take (Enc.sz α) = cs → owL w (Gs.set i G) cells (xs.set i y)
 | 0,H :: Gs,cells,x :: xs,⟨_,_,h3⟩,hc=>⟨by rw [Nat.zero_mul,List.drop_zero] at hc; rw [hc]; exact hy,h3⟩
 | i + 1,H :: Gs,cells,x :: xs,⟨h1,h2⟩,hc=>⟨h1,owLH_put hy h2 (by rw [List.drop_drop,← hc,show (i + 1) * Enc.sz α = Enc.sz α + i * Enc.sz α by rw [Nat.add_mul]; omega])⟩
 | 0,[],_,_,h,_=>h.elim
 | 0,_ :: _,_,[],h,_=>h.elim
 | _ + 1,[],_,_,h,_=>h.elim
 | _ + 1,_ :: _,_,[],h,_=>h.elim
theorem owLH_splice {w:World} {cs:List Value} (hl:cs.length = Enc.sz α):∀ {i:Nat} {Gs:List (List Nat)} {cells:List Value} {xs:List α},owLH w i Gs cells xs → owLH w i Gs (splice cells (i * Enc.sz α) cs) xs
 | 0,G :: Gs,cells,x :: xs,⟨h1,h2,h3⟩=>by
  refine ⟨h1,?_,?_⟩
  · simp only [splice,List.length_append,List.length_take,List.length_drop]; omega
  · simp only [Nat.zero_mul,splice,List.take_zero,List.nil_append,Nat.zero_add]
    rw [List.drop_left' hl,hl]; exact h3
 | i + 1,G :: Gs,cells,x :: xs,⟨h1,h2⟩=>by
  have hl0:=Enc.rd_sz (Enc.ow_rd h1)
  have hle:Enc.sz α ≤ cells.length:=by simp at hl0; omega
  refine ⟨?_,?_⟩
  · have:(splice cells ((i + 1) * Enc.sz α) cs).take (Enc.sz α) = cells.take (Enc.sz α):=by
      simp only [splice,List.append_assoc]
      rw [List.take_append_of_le_length (by simp [Nat.add_mul]; omega),List.take_take]
      congr 1
      simp [Nat.add_mul]
    rw [this]; exact h1
  · have:(splice cells ((i + 1) * Enc.sz α) cs).drop (Enc.sz α) = splice (cells.drop (Enc.sz α)) (i * Enc.sz α) cs:=by
      simp only [splice,List.append_assoc]
      rw [List.drop_append_of_le_length (by simp [Nat.add_mul]; omega),List.drop_take,List.drop_drop]
      congr 3
      · simp [Nat.add_mul]
      · simp [Nat.add_mul]; omega
    rw [this]; exact owLH_splice hl h2
 | 0,[],_,_,h=>h.elim
 | 0,_ :: _,_,[],h=>h.elim
 | _ + 1,[],_,_,h=>h.elim
 | _ + 1,_ :: _,_,[],h=>h.elim
theorem flat_out {Gs:List (List Nat)} {i:Nat} {G:List Nat} (h:Gs[i]? = some G):Gs.flatten.Perm ((Gs.set i []).flatten ++ G):=by
 induction Gs generalizing i with
 | nil=>simp at h
 | cons H Gs ih =>
  cases i with
  | zero =>
   simp only [List.getElem?_cons_zero,Option.some.injEq] at h
   subst h
   simp only [List.set_cons_zero,List.flatten_cons,List.nil_append]
   exact List.perm_append_comm
  | succ i =>
   simp only [List.set_cons_succ,List.flatten_cons,List.append_assoc]
   exact List.Perm.append_left _ (ih (by simpa using h))
theorem flat_in {Gs:List (List Nat)} {i:Nat} (h:Gs[i]? = some []) (G:List Nat):(Gs.set i G).flatten.Perm (Gs.flatten ++ G):=by
 have hlt:=(List.getElem?_eq_some_iff.1 h).1
 have h1:=flat_out (Gs:=Gs.set i G) (i:=i) (G:=G) (by simp [hlt])
 have e:(Gs.set i G).set i [] = Gs:=by
  rw [List.set_set]
  apply List.ext_getElem?
  intro j
  rw [List.getElem?_set]
  by_cases e:i = j
  · subst e; simp [hlt,(List.getElem?_eq_some_iff.1 h).2]
  · simp [e]
 rw [e] at h1
 exact h1
def owH (w:World) (F:List Nat) (v:Value) (xs:List α) (i:Nat) (cs:List Value):Prop :=
 ∃ g off cap c e Gs,v = .slice (some ⟨g,off,none⟩) xs.length cap ∧ xs.length ≤ cap ∧ cap ≤ maxLen ∧ w.heap[g]? = some (.cells c e (0,0)) ∧
  off + cap * Enc.sz α ≤ c.size ∧ owLH w i Gs ((c.toList.drop off).take (xs.length * Enc.sz α)) xs ∧ F = g :: Gs.flatten ∧ F.Nodup ∧
  (((c.toList.drop off).take (xs.length * Enc.sz α)).drop (i * Enc.sz α)).take (Enc.sz α) = cs
theorem owH_agr {u w:World} {F:List Nat} {v:Value} {xs:List α} {i:Nat} {cs:List Value} (h:owH u F v xs i cs) (hA:Agr F u w):owH w F v xs i cs:=by
 obtain ⟨g,off,cap,c,e,Gs,rfl,h1,h2,h3,h4,h5,rfl,h6,h7⟩:=h
 exact ⟨g,off,cap,c,e,Gs,rfl,h1,h2,(hA g (by simp)).trans h3,h4,owLH_agr (hA.sub (fun b hb=>List.mem_cons_of_mem _ hb)) h5,rfl,h6,h7⟩
theorem owH_pt {w:World} {F:List Nat} {v:Value} {xs:List α} {i:Nat} {cs:List Value} (h:owH w F v xs i cs):PtAt w (eAddr v (Enc.sz α) i) cs ∧ cs.length = Enc.sz α:=by
 obtain ⟨g,off,cap,c,e,Gs,rfl,h1,h2,h3,h4,h5,rfl,h6,rfl⟩:=h
 obtain ⟨e1,e2,e3,_⟩:=owLH_len h5
 have hm:(i + 1) * Enc.sz α ≤ xs.length * Enc.sz α:=Nat.mul_le_mul_right _ (by omega)
 rw [Nat.add_mul,Nat.one_mul] at hm
 have hl:((((c.toList.drop off).take (xs.length * Enc.sz α)).drop (i * Enc.sz α)).take (Enc.sz α)).length = Enc.sz α:=by
  rw [List.length_take,List.length_drop,e2]; omega
 refine ⟨?_,hl⟩
 simp only [eAddr,add_none]
 refine ⟨g,_,c,e,_,rfl,h3,?_⟩
 rw [hl,List.drop_take,List.take_take,List.drop_drop]
 congr 1
 omega
theorem ow_take {u:World} {F:List Nat} {v:Value} {xs:List α} {i:Nat} {x:α} {cs:List Value} (h:ow u F [v] xs) (hx:xs[i]? = some x) (hp:PtAt u (eAddr v (Enc.sz α) i) cs) (hl:cs.length = Enc.sz α) :
    ∃ A B,owH u A v xs i cs ∧ ow u B cs x ∧ F.Perm (A ++ B):=by
 rcases h with ⟨_,rfl,_⟩ | ⟨g,off,cap,c,e,Gs,hv,h1,h2,h3,h4,h5,rfl,h6⟩
 · simp at hx
 · have:=(List.cons.inj hv).1
   subst this
   obtain ⟨G,hG,hH,hO⟩:=owLH_of h5 hx
   have hpt:(((c.toList.drop off).take (xs.length * Enc.sz α)).drop (i * Enc.sz α)).take (Enc.sz α) = cs:=by
    obtain ⟨g',off',c',e',fr,he,hh,hc⟩:=hp
    simp only [eAddr,add_none,Addr.mk.injEq,and_true] at he
    obtain ⟨rfl,rfl⟩:=he
    rw [h3] at hh
    injection hh with hh
    injection hh with hh _ _
    subst hh
    rw [hl] at hc
    rw [← hc,List.drop_take,List.take_take,List.drop_drop]
    have hi:=(List.getElem?_eq_some_iff.1 hx).1
    have hm:(i + 1) * Enc.sz α ≤ xs.length * Enc.sz α:=Nat.mul_le_mul_right _ (by omega)
    rw [Nat.add_mul,Nat.one_mul] at hm
    congr 1
    omega
   rw [hpt] at hO
   have hperm:(g :: Gs.flatten).Perm ((g :: (Gs.set i []).flatten) ++ G):=List.Perm.cons _ (flat_out hG)
   refine ⟨_,G,⟨g,off,cap,c,e,Gs.set i [],rfl,h1,h2,h3,h4,hH,rfl,?_,hpt⟩,hO,hperm⟩
   exact (List.nodup_append.1 (hperm.nodup_iff.1 h6)).1
theorem ow_put {w:World} {A B:List Nat} {v:Value} {xs:List α} {i:Nat} {y:α} {cs:List Value} (h:owH w A v xs i cs) (hy:ow w B cs y) (hn:(A ++ B).Nodup) :
    ∃ F,ow w F [v] (xs.set i y) ∧ F.Perm (A ++ B):=by
 obtain ⟨g,off,cap,c,e,Gs,rfl,h1,h2,h3,h4,h5,rfl,h6,h7⟩:=h
 obtain ⟨e1,e2,e3,e4⟩:=owLH_len h5
 have hperm:(g :: (Gs.set i B).flatten).Perm ((g :: Gs.flatten) ++ B):=List.Perm.cons _ (flat_in e4 B)
 refine ⟨_,.inr ⟨g,off,cap,c,e,Gs.set i B,by simp,by simpa using h1,h2,h3,h4,?_,rfl,hperm.nodup_iff.2 hn⟩,hperm⟩
 rw [List.length_set]
 exact owLH_put hy h5 h7
omit [Enc α] in
theorem ix_setx {xs:List α} {n:Int} {x:α} (y:α) (h:ix xs n = some x):ix (setx xs n y) n = some y:=by
 obtain ⟨h0,h1,h2⟩:=ix_some h
 have:=(List.getElem?_eq_some_iff.1 h2).1
 simp [ix,setx,h0,this]
end
section
variable {P:Program} {ops:Array Oper} {Q:Exit → Act → World → Prop} {rest:List Oper} {o:Oper} {a:Act} {w:World} {N:Nat} {L:List (Nat × Value)}
variable {X:List Nat} {w0:World} {M:List (List Nat × World)} {d:Nat}
theorem fps_perm {M M':List (List Nat × World)} (h:M.Perm M'):(fps M).Perm (fps M'):=by
 unfold fps
 exact List.Perm.flatMap_right _ h
theorem front_perm {β:Type}:∀ (M:List β) (k:Nat) (p:β),M[k]? = some p → M.Perm (p :: M.eraseIdx k)
 | [],_,_,h=>by simp at h
 | q :: M,0,p,h=>by simp only [List.getElem?_cons_zero,Option.some.injEq] at h; subst h; exact List.Perm.refl _
 | q :: M,k + 1,p,h=>((front_perm M k p (by simpa using h)).cons q).trans (List.Perm.swap _ _ _)
theorem St.toFront (h:St X w0 w M) (k:Nat) {p:List Nat × World} (hk:M[k]? = some p):St X w0 w (p :: M.eraseIdx k):=by
 have hp:M.Perm (p :: M.eraseIdx k):=front_perm M k p hk
 have hf:=fps_perm hp
 exact ⟨h.ext,fun q hq=>h.ok q (hp.mem_iff.2 hq),fun b hb=>h.lt b (hf.mem_iff.2 hb),fun b hb=>h.lo b (hf.mem_iff.2 hb),hf.nodup_iff.1 h.nd⟩
theorem St.part {F A B:List Nat} {u:World} (h:St X w0 w ((F,u) :: M)) (hp:F.Perm (A ++ B)):St X w0 w ((A,w) :: (B,w) :: M):=by
 have e:(fps ((F,u) :: M)).Perm (fps ((A,w) :: (B,w) :: M)):=by
  simp only [fps,List.flatMap_cons]
  rw [← List.append_assoc]
  exact hp.append_right _
 refine ⟨h.ext,?_,fun b hb=>h.lt b (e.mem_iff.2 hb),fun b hb=>h.lo b (e.mem_iff.2 hb),e.nodup_iff.1 h.nd⟩
 intro p hq
 simp only [List.mem_cons] at hq
 rcases hq with rfl | rfl | hq
 · exact Agr.refl _ _
 · exact Agr.refl _ _
 · exact h.ok p (by simp [hq])
theorem St.whole {F A B:List Nat} {u v:World} (h:St X w0 w ((A,u) :: (B,v) :: M)) (hp:F.Perm (A ++ B)):St X w0 w ((F,w) :: M):=by
 have h1:=h.join2
 have e:(fps ((A ++ B,w) :: M)).Perm (fps ((F,w) :: M)):=by
  simp only [fps,List.flatMap_cons]
  exact hp.symm.append_right _
 refine ⟨h1.ext,?_,fun b hb=>h1.lt b (e.mem_iff.2 hb),fun b hb=>h1.lo b (e.mem_iff.2 hb),e.nodup_iff.1 h1.nd⟩
 intro p hq
 simp only [List.mem_cons] at hq
 rcases hq with rfl | hq
 · exact Agr.refl _ _
 · exact h1.ok p (by simp [hq])
theorem St.opnS {α:Type} [Enc α] (hM:St X w0 w M) (k:Nat) {F:List Nat} {u:World} (hk:M[k]? = some (F,u)) {v:Value} {xs:List α} (h:ow u F [v] xs) {n:Int} {x:α} (hx:ix xs n = some x)
    {cs:List Value} (hp:PtAt u (eAddr v (Enc.sz α) n.toNat) cs) (hl:cs.length = Enc.sz α) {M':List (List Nat × World)} (hM':M.eraseIdx k = M') :
    ∃ A B,St X w0 w ((A,w) :: (B,w) :: M') ∧ owH w A v xs n.toNat cs ∧ ow w B cs x ∧ (∀ b ∈ A,b ∈ F) ∧ (∀ b ∈ B,b ∈ F):=by
 subst hM'
 obtain ⟨A,B,h1,h2,h3⟩:=ow_take h (ix_some hx).2.2 hp hl
 have hA:=hM.a k hk
 have hAA:Agr A u w:=hA.sub (fun b hb=>h3.mem_iff.2 (List.mem_append_left _ hb))
 have hAB:Agr B u w:=hA.sub (fun b hb=>h3.mem_iff.2 (List.mem_append_right _ hb))
 exact ⟨A,B,(hM.toFront k hk).part h3,owH_agr h1 hAA,Enc.ow_agr h2 hAB,fun b hb=>h3.mem_iff.2 (List.mem_append_left _ hb),fun b hb=>h3.mem_iff.2 (List.mem_append_right _ hb)⟩
theorem St.opn {α:Type} [Enc α] (hM:St X w0 w M) (k:Nat) {F:List Nat} {u:World} (hk:M[k]? = some (F,u)) {v:Value} {xs:List α} (h:ow u F [v] xs) {n:Int} {x:α} (hx:ix xs n = some x)
    {cs:List Value} (hp:PtAt u (eAddr v (Enc.sz α) n.toNat) cs) (hl:cs.length = Enc.sz α) {M':List (List Nat × World)} (hM':M.eraseIdx k = M') :
    ∃ A B,St X w0 w ((A,w) :: (B,w) :: M') ∧ owH w A v xs n.toNat cs ∧ ow w B cs x:=by
 obtain ⟨A,B,h1,h2,h3,_⟩:=hM.opnS k hk h hx hp hl hM'
 exact ⟨A,B,h1,h2,h3⟩
theorem St.cls {α:Type} [Enc α] {A B:List Nat} {u1 u2:World} (hM:St X w0 w ((A,u1) :: (B,u2) :: M)) {v:Value} {xs:List α} {n:Int} {cs:List Value} (h:owH u1 A v xs n.toNat cs) {y:α} (hy:ow u2 B cs y) :
    ∃ F,St X w0 w ((F,w) :: M) ∧ ow w F [v] (setx xs n y):=by
 have h1:=owH_agr h (hM.a 0 rfl)
 have h2:=Enc.ow_agr hy (hM.a 1 rfl)
 obtain ⟨F,h3,h4⟩:=ow_put h1 h2 (hM.join2.ndF 0 rfl)
 exact ⟨F,hM.whole h4,h3⟩
theorem s_stH {α:Type} [Enc α] {t n sz:Nat} (hs:∀ w,(sizeOf t).run P w = .ok n w) (hM:St X w0 w M) (k:Nat) {F:List Nat} {u:World} {v:Value} {xs:List α} {m:Nat} {cs cs':List Value} (h:owH u F v xs m cs) (off:Nat) (hK:K N L a) {xo yo:Operand} {p:Addr} {c:Value}
    (hk:M[k]? = some (F,u)) (hg:gd L ops o.guard = some true) (hd:o.dst = none)
    (ho:o.op = .store t xo yo) (hp':ev L xo = some (.pointer (some p))) (hp:p = (eAddr v (Enc.sz α) m).add off) (hv:ev L yo = some c)
    (hsz:sz = Enc.sz α) (hle:Nat.ble (off + n) sz = true) (hvc:c.cells.toList.all Value.oneCell' = true) (hn:c.cells.size = n) (hc:splice cs off c.cells.toList = cs')
    (hk':∀ w' a,K N L a → Ext F w w' → St X w0 w' (M.set k (F,w')) → owH w' F v xs m cs' → wpList P ops Q rest a w'):wpList P ops Q (o :: rest) a w:=by
 subst hsz
 have hH:=owH_agr h (hM.a k hk)
 have hFl:=hM.ltF k hk
 have hle':=Nat.le_of_ble_eq_true hle
 have hcl:=(owH_pt hH).2
 obtain ⟨g,boff,cap,cur,e,Gs,hvv,h2,h3,h4,h5,h6,rfl,h8,h9⟩:=hH
 subst hvv
 obtain ⟨e1,e2,e3,e4⟩:=owLH_len h6
 have hb:bx w g cur.toList e:=h4
 have hm:(m + 1) * Enc.sz α ≤ xs.length * Enc.sz α:=Nat.mul_le_mul_right _ (by omega)
 rw [Nat.add_mul,Nat.one_mul] at hm
 have hcap:xs.length * Enc.sz α ≤ cap * Enc.sz α:=Nat.mul_le_mul_right _ h2
 have hpos:boff + m * Enc.sz α + off + n ≤ cur.toList.length:=by simp; omega
 have hcll:c.cells.toList.length = n:=by simp [hn]
 have hr:=run_storeVar (P:=P) (off:=boff + m * Enc.sz α + off) hs hb hn hpos (fun u hu=>List.all_eq_true.1 hvc u hu)
 have hwr:bx (w.setRow g (splice cur.toList (boff + m * Enc.sz α + off) c.cells.toList).toArray) g (splice cur.toList (boff + m * Enc.sz α + off) c.cells.toList) e:=hb.store _
 have hEx:Ext (g :: Gs.flatten) w (w.setRow g (splice cur.toList (boff + m * Enc.sz α + off) c.cells.toList).toArray):=(Ext.setRow g _).wk (by simp)
 have hlen:xs.length * Enc.sz α ≤ (cur.toList.drop boff).length:=by simp; omega
 have hcell:((splice cur.toList (boff + m * Enc.sz α + off) c.cells.toList).drop boff).take (xs.length * Enc.sz α) = splice ((cur.toList.drop boff).take (xs.length * Enc.sz α)) (m * Enc.sz α) cs':=by
  rw [← hc,← h9,splice_in _ _ _ _ _ (by omega) (by rw [e2]; omega),Nat.add_assoc boff,splice_drop _ _ _ _ (by omega),splice_take _ _ _ _ (by omega) hlen]
 have hcl':cs'.length = Enc.sz α:=by rw [← hc,splice_len _ _ _ (by omega),hcl]
 have how':owH (w.setRow g (splice cur.toList (boff + m * Enc.sz α + off) c.cells.toList).toArray) (g :: Gs.flatten) (.slice (some ⟨g,boff,none⟩) xs.length cap) xs m cs':=by
  refine ⟨g,boff,cap,_,e,Gs,rfl,h2,h3,hwr,?_,?_,rfl,h8,?_⟩
  · simp only [List.size_toArray]; rw [splice_len _ _ _ (by simp [hn] at hpos ⊢; omega)]; simpa using h5
  · rw [show (splice cur.toList (boff + m * Enc.sz α + off) c.cells.toList).toArray.toList = splice cur.toList (boff + m * Enc.sz α + off) c.cells.toList from rfl,hcell]
    refine owLH_agr ?_ (owLH_splice hcl' h6)
    intro b hb'
    refine setRow_other w g b _ ?_
    intro hbg
    subst hbg
    exact (List.nodup_cons.1 h8).1 hb'
  · rw [show (splice cur.toList (boff + m * Enc.sz α + off) c.cells.toList).toArray.toList = splice cur.toList (boff + m * Enc.sz α + off) c.cells.toList from rfl,hcell]
    have e2':=e2
    simp only [splice]
    have hA:((List.take (xs.length * Enc.sz α) (List.drop boff cur.toList)).take (m * Enc.sz α)).length = m * Enc.sz α:=by rw [List.length_take,e2]; omega
    rw [List.append_assoc,List.drop_left' hA,List.take_left' hcl']
 refine s_skip hK hg hd (w':=w.setRow g (splice cur.toList (boff + m * Enc.sz α + off) c.cells.toList).toArray) ?_ fun a hK=>hk' _ a hK hEx (hM.mut k hk hEx _ (fun b hb=>⟨.inl hb,by simp; exact hFl b hb⟩) h8) how'
 subst hp
 simp only [execOp,ho,hK.ev hp',hK.ev hv,Instr.storeAt,Instr.sureAddr,Sem.run_bind,Sem.run_pure,Result.andThen_ok,eAddr,add_none,hr]
theorem s_stH1 {α:Type} [Enc α] {t sz:Nat} (hs:∀ w,(sizeOf t).run P w = .ok 1 w) (hM:St X w0 w M) (k:Nat) {F:List Nat} {u:World} {v:Value} {xs:List α} {m:Nat} {cs cs':List Value} (h:owH u F v xs m cs) (off:Nat) (hK:K N L a) {xo yo:Operand} {p:Addr} {c:Value}
    (hvc:c.cells = #[c]) (hvo:c.oneCell' = true) (hc:splice cs off [c] = cs')
    (hk:M[k]? = some (F,u)) (hg:gd L ops o.guard = some true) (hd:o.dst = none)
    (ho:o.op = .store t xo yo) (hp':ev L xo = some (.pointer (some p))) (hp:p = (eAddr v (Enc.sz α) m).add off) (hv:ev L yo = some c)
    (hsz:sz = Enc.sz α) (hle:Nat.ble (off + 1) sz = true)
    (hk':∀ w' a,K N L a → Ext F w w' → St X w0 w' (M.set k (F,w')) → owH w' F v xs m cs' → wpList P ops Q rest a w'):wpList P ops Q (o :: rest) a w :=
 s_stH hs hM k h off hK hk hg hd ho hp' hp hv hsz hle (by rw [hvc]; simp [hvo]) (by rw [hvc]; rfl) (by rw [hvc]; exact hc) hk'
end
end Go.Proofs.YthkaklkinepfkaaGreatDoor
set_option linter.unusedSimpArgs false
set_option linter.unusedVariables false
namespace Go.Proofs.YthkaklkinepfkaaGreatDoor
open Go Go.RowKit
open Enc (rd ow)
open Arg (argv)
open Ret (retv)
section
variable {P:Program} {ops:Array Oper} {Q:Exit → Act → World → Prop} {rest:List Oper} {o:Oper} {a:Act} {w:World} {N:Nat} {L:List (Nat × Value)}
variable {X:List Nat} {w0:World} {M:List (List Nat × World)} {d:Nat}
theorem r_nilq {α:Type} [Enc α] {u:World} {F:List Nat} {v:Value} {xs:List α} (hf:rd u F [v] xs):∃ b:Bool,(b = true → xs = []) ∧
    ∀ {P:Program} {N:Nat} {L:List (Nat × Value)} {a:Act} {o:Oper} {t t' e:TypeId} {i j:Operand} {w:World},K N L a → P.underlying t = some (.slice e) →
     o.op = .binOp .eql t i j t' → ev L i = some v → ev L j = some (.slice none 0 0) → (execOp a.eval o).run P w = .ok (.value (.bool b)) w:=by
 obtain ⟨ao,cap,hv,h1,h2,h3,h4⟩:=hf
 have:=(List.cons.inj hv).1
 subst this
 have key:∀ {P:Program} {t e:TypeId} (w:World) (ao:Option Addr) (n cap:Nat),P.underlying t = some (.slice e) → (Op.equal t (.slice ao n cap) (.slice none 0 0)).run P w = .ok ao.isNone w:=by
  intro P t e w ao n cap hu
  show (Op.equalIn (9999 + 1) t _ _).run P w = _
  generalize 9999 = m
  cases ao <;> simp [Op.equalIn,run_underlying hu w]
 refine ⟨ao.isNone,fun hb=>?_,fun {P N L a o t t' e i j w} hK hu ho hi hj=>?_⟩
 · rcases h4 with h4 | ⟨g,off,c,e,fr,rfl,_⟩
   · exact h4
   · simp at hb
 · have hg:(eqGuard .eql t i j (.slice ao xs.length cap) (.slice none 0 0)).run P w = .ok () w:=by
     unfold eqGuard
     simp
   simp only [execOp,ho,hK.ev hi,hK.ev hj,Sem.run_bind,hg,Result.andThen_ok,binOp,key w ao _ _ hu,Sem.run_pure]
theorem ow_sls {u:World} {F:List Nat} {ao:Option Addr} {cap:Nat} {xs ys:List Int} {hi:Int} (h:ow u F [.slice ao xs.length cap] xs) (hx:sls xs 0 hi = some ys) :
    ow u F [.slice ao hi.toNat cap] ys ∧ hi.toNat ≤ xs.length ∧ xs.length ≤ cap ∧ 0 ≤ hi:=by
 unfold sls at hx
 split at hx
 · rename_i h0
   simp only [Option.some.injEq,Int.toNat_zero,List.drop_zero,Nat.sub_zero] at hx
   subst hx
   have hl:(xs.take hi.toNat).length = hi.toNat:=by rw [List.length_take]; omega
   rcases h with ⟨hv,rfl,rfl⟩ | ⟨g,off,cap',c,e,Gs,hv,h1,h2,h3,h4,h5,rfl,h6⟩
   · have:=(List.cons.inj hv).1
     simp only [List.length_nil,Value.slice.injEq,true_and] at this
     obtain ⟨rfl,rfl⟩:=this
     have:hi.toNat = 0:=by simp at h0; omega
     rw [this]
     exact ⟨.inl ⟨rfl,by simp,rfl⟩,by simp,by simp,by omega⟩
   · have:=(List.cons.inj hv).1
     simp only [Value.slice.injEq,true_and] at this
     obtain ⟨rfl,rfl⟩:=this
     have hsz:Enc.sz Int = 1:=rfl
     have hG:=owL_flat_nils h5
     have hc:=owL_cells h5
     rw [hsz,Nat.mul_one] at hc h4
     refine ⟨.inr ⟨g,off,cap,c,e,(xs.take hi.toNat).map fun _=>[],by rw [hl],by omega,h2,h3,by rw [hsz,Nat.mul_one]; exact h4,?_,by rw [hG,flatten_nils],h6⟩,by omega,h1,by omega⟩
     have e2:(((xs.take hi.toNat).map (Flat.e (α:=Int))).flatten) = (xs.take hi.toNat).map (Value.int .i64):=by
      generalize xs.take hi.toNat = zs
      induction zs with
      | nil=>rfl
      | cons z zs ih=>simp only [List.map_cons,List.flatten_cons,ih]; rfl
     have e3:(c.toList.drop off).take ((xs.take hi.toNat).length * Enc.sz Int) = (xs.take hi.toNat).map (Value.int .i64):=by
      rw [hl,hsz,Nat.mul_one,List.map_take,← hc,List.take_take]
      congr 1
      omega
     rw [e3,← e2]
     exact owL_flat _
 · simp at hx
theorem s_slToO {u:World} {F:List Nat} {v:Value} {xs ys:List Int} {hi:Int} {k':IntKind} (hf:ow u F [v] xs) (hx:sls xs 0 hi = some ys) (hK:K N L a) {t:TypeId} (hu:TS P t 1) {x j:Operand}
    (hg:gd L ops o.guard = some true) (hd:o.dst = some d) (hN:Nat.blt d N = true)
    (ho:o.op = .slice t x none (some j) none) (hv:ev L x = some v) (hj:ev L j = some (.int k' hi))
    (h:∀ v' a,K N ((d,v') :: L) a → ow u F [v'] ys → wpList P ops Q rest a w):wpList P ops Q (o :: rest) a w:=by
 obtain ⟨ao,cap,rfl,_,_⟩:=rd_slice (Enc.ow_rd hf)
 obtain ⟨e,hu,hs⟩:=hu
 obtain ⟨hr,h1,h2,h3⟩:=ow_sls hf hx
 refine s_val hK hg hd hN ?_ fun a hK=>h _ a hK hr
 have c1:0 ≤ hi ∧ hi ≤ (cap:Int):=by omega
 simp [execOp,ho,Instr.sliceAt,Instr.slice,Instr.sliceBounds,Instr.sliceBound,hK.ev hv,hK.ev hj,run_underlying hu,asIntOf,c1,hs]
 intro _
 cases ao <;> simp [Addr.add]
def clrd (xs:List Int) (lo:Int):List Int:=xs.take lo.toNat ++ List.replicate (xs.length - lo.toNat) 0
theorem clrd_none {xs:List Int} {lo:Int} (h:xs.length - lo.toNat = 0):clrd xs lo = xs:=by
 simp only [clrd,h,List.replicate_zero,List.append_nil]
 exact List.take_of_length_le (by omega)
theorem s_clr {t bytes:Nat} (hT:TE P t 1 bytes [.int .i64 0]) (hM:St X w0 w M) (i:Nat) {u:World} {F:List Nat} {v v':Value} {xs:List Int} (hown:ow u F [v] xs) {lo:Int} (hp:Part v lo.toNat v')
    (hK:K N L a) (hi:M[i]? = some (F,u)) {sd:Operand}
    (hg:gd L ops o.guard = some true) (hd:o.dst = none)
    (ho:o.op = .call { callee:=.builtin .clear,args:=#[sd],argTypes:=#[t] }) (hv1:ev L sd = some v')
    (h:∀ w' a,K N L a → Ext F w w' → St X w0 w' (M.set i (F,w')) → ow w' F [v] (clrd xs lo) → wpList P ops Q rest a w'):wpList P ops Q (o :: rest) a w:=by
 obtain ⟨e,inf,hu,hinf,⟨zv,hz,hzc⟩,hsz1,_⟩:=hT
 have how:=Enc.ow_agr hown (hM.a i hi)
 have hnd:=hM.ndF i hi
 have hlt:=hM.ltF i hi
 have hfin:∀ {r:Value} {w':World},(execOp a.eval o).run P w = .ok (.value r) w' → Ext F w w' → St X w0 w' (M.set i (F,w')) → ow w' F [v] (clrd xs lo) → wpList P ops Q (o :: rest) a w:=by
  intro r w' hr hE hS hO
  exact run_op hK hg hr fun K' hK'=>by rw [Oper.upon_value,hd]; exact hK' _ _ (h _ _ hK hE hS hO)
 have hnone:∀ (ao:Option Addr) (n cap:Nat),v' = .slice ao n cap → n = 0 → n = xs.length - lo.toNat → wpList P ops Q (o :: rest) a w:=by
  intro ao n cap hv' hm hn
  subst hv'; subst hm
  refine hfin (r:=.tuple #[]) (w':=w) ?_ (Ext.refl _ _) (hM.mut i hi (Ext.refl _ _) F (fun b hb=>⟨.inl hb,hlt b hb⟩) hnd) (by rw [clrd_none hn.symm]; exact how)
  cases ao <;> simp [execOp,ho,resolve,invoke,builtin,hK.ev hv1,Builtin.clear_,run_underlying hu]
 rcases how with ⟨hv,rfl,rfl⟩ | ⟨g,off,cap,c,et,Gs,hv,h1,h2,h3,h4,h5,rfl,h6⟩
 · have:=(List.cons.inj hv).1
   subst this
   obtain ⟨ao',hv',_⟩:=hp none 0 0 rfl
   exact hnone ao' _ _ hv' (by simp) (by simp)
 · have:=(List.cons.inj hv).1
   subst this
   obtain ⟨ao',hv',hao⟩:=hp _ _ _ rfl
   by_cases hm:xs.length - lo.toNat = 0
   · exact hnone ao' _ _ hv' hm rfl
   · subst hv'
     have hlo:lo.toNat < xs.length:=by omega
     have:=hao g off hlo rfl
     subst this
     have hsz:Enc.sz Int = 1:=rfl
     have hG:=owL_flat_nils h5
     have hc:=owL_cells h5
     rw [hsz,Nat.mul_one] at hc h4
     have hb:bx w g c.toList et:=h3
     have hl0:(List.replicate (xs.length - lo.toNat) (Value.int .i64 0)).length = xs.length - lo.toNat:=by simp
     have hst:=run_storeCells_at P g (off + lo.toNat) et (List.replicate (xs.length - lo.toNat) (Value.int .i64 0)) 0 c w h3 (by simp; omega) (by intro u hu; rw [List.eq_of_mem_replicate hu]; rfl)
     simp only [Nat.add_zero] at hst
     have hzero:(zeroValue e).run P w = .ok zv w:=by simp [zeroValue,typeInfo,hinf,hz]
     have hzc1:(Builtin.zeroCells zv.cells (xs.length - lo.toNat)).toList = List.replicate (xs.length - lo.toNat) (Value.int .i64 0):=by
      rw [hzc]
      simp [Builtin.zeroCells]
      apply List.ext_getElem
      · simp
      · intro i h1 h2
        simp [Nat.mod_one]
     have hrun:(execOp a.eval o).run P w = .ok (.value (.tuple #[])) (w.setRow g (splice c.toList (off + lo.toNat) (List.replicate (xs.length - lo.toNat) (Value.int .i64 0))).toArray):=by
      obtain ⟨m,hmm⟩:∃ m,xs.length - lo.toNat = m + 1:=⟨xs.length - lo.toNat - 1,by omega⟩
      rw [hmm] at hzc1 hst hl0 ⊢
      simp only [execOp,ho,resolve,invoke,builtin,hK.ev hv1,Builtin.clear_]
      simp [run_underlying hu,hK.ev hv1,hzero,Builtin.clear_]
      rw [hmm,hzc1,hst]
      simp [splice]
     have hE:Ext (g :: Gs.flatten) w (w.setRow g (splice c.toList (off + lo.toNat) (List.replicate (xs.length - lo.toNat) (Value.int .i64 0))).toArray):=(Ext.setRow _ _).wk (by simp)
     have hS:=hM.mut i hi hE (g :: Gs.flatten) (fun b hb=>⟨.inl hb,Nat.lt_of_lt_of_le (hlt b hb) hE.size⟩) hnd
     refine hfin hrun hE hS ?_
     have hsl:(splice c.toList (off + lo.toNat) (List.replicate (xs.length - lo.toNat) (Value.int .i64 0))).length = c.size:=by rw [splice_len _ _ _ (by simp; omega)]; simp
     have hcl:(clrd xs lo).length = xs.length:=by simp only [clrd,List.length_append,List.length_take,List.length_replicate]; omega
     refine .inr ⟨g,off,cap,_,et,(clrd xs lo).map fun _=>[],by rw [hcl],by rw [hcl]; exact h1,h2,hb.store _,?_,?_,by rw [hG,flatten_nils],h6⟩
     · rw [List.size_toArray,hsl,hsz,Nat.mul_one]; exact h4
     · have e2:((clrd xs lo).map (Flat.e (α:=Int))).flatten = (clrd xs lo).map (Value.int .i64):=by
         generalize clrd xs lo = zs
         induction zs with
         | nil=>rfl
         | cons z zs ih=>simp only [List.map_cons,List.flatten_cons,ih]; rfl
       have hcs:(((splice c.toList (off + lo.toNat) (List.replicate (xs.length - lo.toNat) (Value.int .i64 0))).toArray.toList.drop off).take ((clrd xs lo).length * Enc.sz Int)) = ((clrd xs lo).map Flat.e).flatten:=by
        rw [e2,hsz,Nat.mul_one,hcl]
        rw [show ∀ l:List Value,l.toArray.toList = l from fun _=>rfl,splice_drop _ _ _ _ (by simp; omega),splice_take _ _ _ _ (by simp; omega) (by simp; omega),hc]
        simp only [splice,clrd,List.map_append,List.map_take,List.map_replicate,List.length_replicate]
        rw [List.drop_of_length_le (by simp; omega)]
        simp
       rw [hcs]
       exact owL_flat _
end
end Go.Proofs.YthkaklkinepfkaaGreatDoor
set_option linter.unusedSimpArgs false
set_option linter.unusedVariables false
namespace Go.Proofs.YthkaklkinepfkaaGreatDoor
open Go Go.RowKit
open Enc (rd ow)
open Arg (argv)
open Ret (retv)
def cmpI (xs:List Int):Option (List Int):=if xs.length < 4611686018427387904 then some (Lib.compact xs) else none
theorem compact_le (xs:List Int):(Lib.compact xs).length ≤ xs.length:=by
 unfold Lib.compact Lib.compactUpTo
 rw [List.length_map]
 exact Nat.le_trans (List.length_filter_le _ _) (by simp)
theorem c_compactInt {P:Program} {fid:Nat}
    (hs:∀ (blk off cap:Nat) (zs:List Int) (w:World),Go.Sort.Holds (Value.int .i64) w blk off zs.toArray → zs.length ≤ 9223372036854775807 → zs.length ≤ cap →
     Calls P fid #[.slice (some ⟨blk,off,none⟩) zs.length cap] w fun e w'=>e = .returned (.slice (some ⟨blk,off,none⟩) (Lib.compact zs).length cap) ∧
      ∃ q,w' = Go.Sort.putRow (Value.int .i64) (Go.Sort.ahead w q) blk off (Lib.compact zs ++ List.replicate (zs.length - (Lib.compact zs).length) 0).toArray)
    (hn:∀ (p:Option Addr) (cap:Nat) (w:World),Calls P fid #[.slice p 0 cap] w fun e w'=>e = .returned (.slice p 0 cap) ∧ w' = w)
    {w0:World} (xs:List Int) {v:Value} {F:List Nat} (h:ow w0 F [v] xs) {r:List Int} (hr:cmpI xs = some r) :
    Calls P fid #[v] w0 fun e w=>∃ (v0:Value) (G0:List Nat),e = .returned v0 ∧ Ext F w0 w ∧ ow w G0 [v0] r ∧ (∀ b ∈ G0,b ∈ F ∨ w0.heap.size ≤ b):=by
 unfold cmpI at hr
 split at hr
 · rename_i hlen
   simp only [Option.some.injEq] at hr
   subst hr
   rcases h with ⟨hv,rfl,rfl⟩ | ⟨g,off,cap,c,e,Gs,hv,h1,h2,h3,h4,h5,rfl,h6⟩
   · have:=(List.cons.inj hv).1
     subst this
     refine (hn none 0 w0).mono fun e w ⟨he,hw⟩=>?_
     subst hw
     refine ⟨_,[],he,Ext.refl _ _,.inl ⟨rfl,?_,rfl⟩,by simp⟩
     exact List.eq_nil_of_length_eq_zero (Nat.le_zero.1 (compact_le []))
   · have:=(List.cons.inj hv).1
     subst this
     have hl:=compact_le xs
     refine (hs g off cap xs w0 (holds_ow (cap:=cap) h3 h5) (by omega) h1).mono fun e' w ⟨he,q,hw⟩=>?_
     have hl2:(Lib.compact xs ++ List.replicate (xs.length - (Lib.compact xs).length) 0).length = xs.length:=by simp; omega
     have hw':w = Go.Sort.grow (Go.Sort.putRow (Value.int .i64) (Go.Sort.ahead w0 q) g off (Lib.compact xs ++ List.replicate (xs.length - (Lib.compact xs).length) 0).toArray) #[]:=by
      rw [show ∀ w:World,Go.Sort.grow w #[] = w from fun w=>by cases w; simp [Go.Sort.grow]]
      exact hw
     obtain ⟨hE,hO⟩:=ow_putRow hl2 h1 h2 h3 h4 h5 h6 hw'
     obtain ⟨hO2,_⟩:=ow_sls (hi:=((Lib.compact xs).length:Int)) (ys:=Lib.compact xs) hO (by
      unfold sls
      rw [if_pos ⟨by omega,by omega,by rw [hl2]; omega⟩]
      simp)
     rw [Int.toNat_natCast] at hO2
     exact ⟨_,_,he,hE,hO2,fun b hb=>.inl hb⟩
 · cases hr
end Go.Proofs.YthkaklkinepfkaaGreatDoor
set_option linter.unusedSimpArgs false
set_option linter.unusedVariables false
namespace Go.Proofs.YthkaklkinepfkaaGreatDoor
open Go Go.RowKit
open Enc (rd ow)
section
variable {α:Type} [Enc α]
def owP (w:World) (F:List Nat) (v:Value) (xs:List α) (k:Int):Prop :=
 0 ≤ k ∧ ((v = .slice none 0 0 ∧ xs = [] ∧ F = []) ∨ ∃ g off cap c e Gs,v = .slice (some ⟨g,off,none⟩) xs.length cap ∧ xs.length ≤ cap ∧ cap ≤ maxLen ∧ w.heap[g]? = some (.cells c e (0,0)) ∧
  off + cap * Enc.sz α ≤ c.size ∧ owL w Gs (((c.toList.drop off).take (xs.length * Enc.sz α)).drop (k.toNat * Enc.sz α)) (xs.drop k.toNat) ∧ F = g :: Gs.flatten ∧ F.Nodup)
theorem owP_of {w:World} {F:List Nat} {v:Value} {xs:List α} (h:ow w F [v] xs):owP w F v xs 0:=by
 refine ⟨Int.le_refl _,?_⟩
 rcases h with ⟨h1,h2,h3⟩ | ⟨g,off,cap,c,e,Gs,hv,h1,h2,h3,h4,h5,h6,h7⟩
 · exact .inl ⟨(List.cons.inj h1).1,h2,h3⟩
 · exact .inr ⟨g,off,cap,c,e,Gs,(List.cons.inj hv).1,h1,h2,h3,h4,by simpa using h5,h6,h7⟩
theorem owP_agr {u w:World} {F:List Nat} {v:Value} {xs:List α} {k:Int} (h:owP u F v xs k) (hA:Agr F u w):owP w F v xs k:=by
 obtain ⟨h0,h⟩:=h
 refine ⟨h0,?_⟩
 rcases h with h | ⟨g,off,cap,c,e,Gs,rfl,h1,h2,h3,h4,h5,rfl,h6⟩
 · exact .inl h
 · exact .inr ⟨g,off,cap,c,e,Gs,rfl,h1,h2,(hA g (by simp)).trans h3,h4,owL_agr (hA.sub (fun b hb=>List.mem_cons_of_mem _ hb)) h5,rfl,h6⟩
theorem owP_slice {w:World} {F:List Nat} {v:Value} {xs:List α} {k:Int} (h:owP w F v xs k):∃ ao cap,v = .slice ao xs.length cap ∧ (xs = [] ∨ ∃ g off,ao = some ⟨g,off,none⟩):=by
 obtain ⟨h0,h⟩:=h
 rcases h with ⟨rfl,rfl,_⟩ | ⟨g,off,cap,c,e,Gs,rfl,_⟩
 · exact ⟨none,0,rfl,.inl rfl⟩
 · exact ⟨_,cap,rfl,.inr ⟨g,off,rfl⟩⟩
theorem owP_pop {w:World} {F:List Nat} {v:Value} {xs:List α} {k:Int} {x:α} (h:owP w F v xs k) (hx:ix xs k = some x) :
    ∃ A B cs,owP w A v xs (w64 (k + 1)) ∧ ow w B cs x ∧ PtAt w (eAddr v (Enc.sz α) k.toNat) cs ∧ F.Perm (A ++ B):=by
 obtain ⟨h0,hlt,hg⟩:=ix_some hx
 obtain ⟨_,h⟩:=h
 rcases h with ⟨rfl,rfl,rfl⟩ | ⟨g,off,cap,c,e,Gs,rfl,h1,h2,h3,h4,h5,rfl,h6⟩
 · simp at hg
 · have hk:k.toNat < xs.length:=(List.getElem?_eq_some_iff.1 hg).1
   have hxk:xs[k.toNat] = x:=(List.getElem?_eq_some_iff.1 hg).2
   have hw:w64 (k + 1) = k + 1:=by
    simp only [maxLen] at h2
    simp only [w64,IntKind.wrap_i64]
    omega
   rw [List.drop_eq_getElem_cons hk] at h5
   cases Gs with
   | nil=>exact h5.elim
   | cons G Gs =>
    obtain ⟨h7,h8⟩:=h5
    rw [hxk] at h7
    have hn:(k + 1).toNat = k.toNat + 1:=by omega
    have hm:(k.toNat + 1) * Enc.sz α ≤ xs.length * Enc.sz α:=Nat.mul_le_mul_right _ (by omega)
    rw [Nat.add_mul,Nat.one_mul] at hm
    have hperm:(g :: (G :: Gs).flatten).Perm ((g :: Gs.flatten) ++ G):=by
     rw [List.flatten_cons,List.cons_append]
     exact List.Perm.cons _ List.perm_append_comm
    refine ⟨g :: Gs.flatten,G,_,⟨by rw [hw]; omega,.inr ⟨g,off,cap,c,e,Gs,rfl,h1,h2,h3,h4,?_,rfl,?_⟩⟩,h7,?_,hperm⟩
    · rw [hw,hn,Nat.add_mul,Nat.one_mul,← List.drop_drop]
      exact h8
    · exact (List.nodup_append.1 (hperm.nodup_iff.1 h6)).1
    · have hl:=Enc.rd_sz (Enc.ow_rd h7)
      simp only [eAddr,add_none]
      refine ⟨g,_,c,e,_,rfl,h3,?_⟩
      rw [hl,List.drop_take,List.take_take,List.drop_drop]
      congr 1
      omega
end
section
variable {P:Program} {ops:Array Oper} {Q:Exit → Act → World → Prop} {rest:List Oper} {o:Oper} {a:Act} {w:World} {N:Nat} {L:List (Nat × Value)}
variable {X:List Nat} {w0:World} {M:List (List Nat × World)} {d:Nat}
theorem r_ixaP {α:Type} [Enc α] {u:World} {F:List Nat} {v:Value} {xs:List α} {k0:Int} (hf:owP u F v xs k0) {n:Int} {y:α} (hx:ix xs n = some y) (hK:K N L a) {t:TypeId} (hu:TS P t (Enc.sz α)) {x i:Operand} {k:IntKind}
    (ho:o.op = .indexAddr t x i) (hv:ev L x = some v) (hi:ev L i = some (.int k n)) :
    (execOp a.eval o).run P w = .ok (.value (.pointer (some (eAddr v (Enc.sz α) n.toNat)))) w:=by
 obtain ⟨h0,h1,h2⟩:=ix_some hx
 obtain ⟨e,hu,hs⟩:=hu
 obtain ⟨ao,cap,rfl,h6⟩:=owP_slice hf
 rcases h6 with rfl | ⟨g,off,rfl⟩
 · simp at h2
 · simp [execOp,ho,hK.ev hv,hK.ev hi,Instr.indexAt,asIntOf,run_underlying hu,hs,h0,h1,eAddr]
theorem St.popP {α:Type} [Enc α] (hM:St X w0 w M) (k:Nat) {F:List Nat} {u:World} (hk:M[k]? = some (F,u)) {v:Value} {xs:List α} {n:Int} (h:owP u F v xs n) {x:α} (hx:ix xs n = some x)
    {M':List (List Nat × World)} (hM':M.eraseIdx k = M') :
    ∃ A B cs,St X w0 w ((A,w) :: (B,w) :: M') ∧ owP w A v xs (w64 (n + 1)) ∧ ow w B cs x ∧ PtAt w (eAddr v (Enc.sz α) n.toNat) cs:=by
 subst hM'
 obtain ⟨A,B,cs,h1,h2,h3,h4⟩:=owP_pop (owP_agr h (hM.a k hk)) hx
 exact ⟨A,B,cs,(hM.toFront k hk).part h4,h1,h2,h3⟩
end
end Go.Proofs.YthkaklkinepfkaaGreatDoor
set_option linter.unusedSimpArgs false
set_option linter.unusedVariables false
namespace Go.Proofs.YthkaklkinepfkaaGreatDoor
open Go Go.RowKit
open Enc (rd ow)
section
variable {P:Program} {ops:Array Oper} {Q:Exit → Act → World → Prop} {rest:List Oper} {o:Oper} {a:Act} {w:World} {N:Nat} {L:List (Nat × Value)}
variable {X:List Nat} {w0:World} {M:List (List Nat × World)} {d:Nat} {S:World → Prop} {fuel:Nat} {listed:Array Bool} {z:Nat}
def anyQ (P:Program) (ops:Array Oper) (Q:Exit → Act → World → Prop) (S:World → Prop) (z:Nat):Nat → Array Bool → Act → World → Prop
 | 0,l,a,w=>Region.ready .any ops l = [] ∧ Q .normal a w
 | n + 1,l,a,w=>(Region.ready .any ops l = [] → Q .normal a w) ∧
  ∀ i ∈ Region.ready .any ops l,wpOp P ops Q i (fun a' w'=>(i ≠ z → S w') ∧ anyQ P ops Q S z n (l.setIfInBounds i true) a' w') a w
theorem any_of_Q:∀ (n:Nat) (l:Array Bool) (a:Act) (w:World),anyQ P ops Q S z n l a w → wpAny P .any ops Q n l a w
 | 0,_,_,_,h=>h
 | n + 1,_,_,_,h=>⟨h.1,fun i hi=>wpOp_mono (fun a' w' h'=>any_of_Q n _ a' w' h'.2) (h.2 i hi)⟩
def waitsOn (ops:Array Oper) (z i:Nat):Bool:=match ops[z]? with
 | some o=>o.after.any fun e=>Region.binds .any e && e.on == i
 | none=>false
theorem Q_first {i:Nat} {oi:Oper} {v:Value} (hi:ops[i]? = some oi) (hz:waitsOn ops z i = true) (hsel:∀ (j:Nat) (o:Oper) cs b,ops[j]? = some o → o.op ≠ .select cs b)
    (hQ:∀ c a w,Q (.panic c) (a.put oi.dst v) w → Q (.panic c) a w) :
    ∀ (n:Nat) (l:Array Bool) (a:Act) (w:World),
     (∀ j oj,ops[j]? = some oj → j ≠ i → l.getD j true = false → (∀ e ∈ oj.after,Region.binds .any e = true → e.on ≠ i) → oi.apart ops oj = true) →
     i ∈ Region.ready .any ops l → YieldsIf P ops S oi v a → S w → i ≠ z →
     anyQ P ops Q S z n (l.setIfInBounds i true) (a.put oi.dst v) w → anyQ P ops Q S z (n + 1) l a w:=by
 intro n
 have hself:∀ (l:Array Bool) (a:Act) (w:World),YieldsIf P ops S oi v a → S w → i ≠ z → ∀ m,anyQ P ops Q S z m (l.setIfInBounds i true) (a.put oi.dst v) w →
     wpOp P ops Q i (fun a' w'=>(i ≠ z → S w') ∧ anyQ P ops Q S z m (l.setIfInBounds i true) a' w') a w :=
  fun l a w hy hS _ m H=>hy.wpOp hi hS ⟨fun _=>hS,H⟩
 induction n with
 | zero =>
  intro l a w _ hr hy hS hiz H
  refine ⟨fun h=>(by rw [h] at hr; cases hr),fun j hj=>?_⟩
  by_cases hji:j = i
  · subst hji; exact hself l a w hy hS hiz 0 H
  · have:=ready_mono hj hji
    rw [H.1] at this
    cases this
 | succ n ih =>
  intro l a w hfree hr hy hS hiz H
  refine ⟨fun h=>(by rw [h] at hr; cases hr),fun j hj=>?_⟩
  by_cases hji:j = i
  · subst hji; exact hself l a w hy hS hiz _ H
  · have h1:=H.2 j (ready_mono hj hji)
    obtain ⟨hjun,oj,hoj,hall⟩:=mem_ready.1 hj
    have hnot:∀ e ∈ oj.after,Region.binds .any e = true → e.on ≠ i:=fun e he hb heq=>by
     have h1:=hall e he hb
     have h0:=(mem_ready.1 hr).1
     rw [heq] at h1
     rcases Nat.lt_or_ge i l.size with h' | h'
     · simp [h'] at h0 h1; rw [h0] at h1; cases h1
     · simp [Array.getElem?_eq_none h'] at h1
    have hjz:j ≠ z:=fun e=>by
     subst e
     simp only [waitsOn,hoj,List.any_eq_true,Array.any_eq_true,Bool.and_eq_true,beq_iff_eq] at hz
     first
      | (obtain ⟨e,he,hb,heq⟩:=hz; exact hnot e he hb heq)
      | (obtain ⟨k,hk,hb,heq⟩:=hz; exact hnot _ (Array.getElem_mem hk) hb heq)
    have h2:=wpOp_putIf hoj (hfree j oj hoj hji hjun hnot) (fun cs b=>hsel i oi cs b hi) (fun cs b=>hsel j oj cs b hoj) hQ hy h1
    have hfree':∀ k ok,ops[k]? = some ok → k ≠ i → (l.setIfInBounds j true).getD k true = false →
        (∀ e ∈ ok.after,Region.binds .any e = true → e.on ≠ i) → oi.apart ops ok = true:=fun k ok hk hki hun hno=>by
     refine hfree k ok hk hki ?_ hno
     by_cases hjk:j = k
     · subst hjk; exact hjun
     · rw [getD_set_ne true hjk] at hun; exact hun
    refine wpOp_mono (fun a' w' h3=>⟨h3.2.1,ih (l.setIfInBounds j true) a' w' hfree' (ready_mono hr (Ne.symm hji)) h3.1 (h3.2.1 hjz) hiz ?_⟩) h2
    rw [Array.setIfInBounds_comm _ _ hji]
    exact h3.2.2
theorem q_go {id:Nat} {l:List Oper} (Z:List Nat) (z:Nat) {n:Nat} (hm:P.follows .mixedOrders = true) (hM:St X w0 w M) (hn:l.length = n)
    (h:∀ wd,St X w0 wd M → anyQ P l.toArray Q (Ext Z wd) z n (List.replicate n false).toArray a wd):(Code.region id l.toArray true).wp P Q a w:=by
 refine wp_region_any hm (any_of_Q _ _ _ _ (S:=Ext Z w.drew) (z:=z) ?_)
 have:=h w.drew (hM.step (Ext.drew w))
 subst hn
 simpa using this
theorem q_take (hK:K N L a) (i:Nat) {v:Value} (hi:ops[i]? = some o) (hz:(waitsOn ops z i && !(Nat.beq i z)) = true) (hs:Region.noSelect ops = true) (hf:Region.free .any ops listed i = true) (hr:(Region.ready .any ops listed).contains i = true)
    (hg:gd L ops o.guard = some true) (hd:o.dst = some d) (hN:Nat.blt d N = true) (hS:S w) (hQ:∀ c a w,Q (.panic c) (a.put o.dst v) w → Q (.panic c) a w)
    (hy:∀ w,S w → (execOp a.eval o).run P w = .ok (.value v) w) (h:∀ a,K N ((d,v) :: L) a → anyQ P ops Q S z fuel (listed.setIfInBounds i true) a w):anyQ P ops Q S z (fuel + 1) listed a w:=by
 simp only [Bool.and_eq_true,Bool.not_eq_true'] at hz
 have hne:i ≠ z:=fun e=>by subst e; simp at hz
 exact Q_first hi hz.1 (Region.noSelect_spec hs) hQ fuel listed a w (Region.free_spec hi hf) (by simpa using hr) (.inl ⟨hK.wanted hg,hy⟩) hS hne (by rw [hd]; exact h _ (hK.put d hN v))
theorem q_pure (hK:K N L a) (i:Nat) {v:Value} (hi:ops[i]? = some o) (hz:(waitsOn ops z i && !(Nat.beq i z)) = true) (hs:Region.noSelect ops = true) (hf:Region.free .any ops listed i = true) (hr:(Region.ready .any ops listed).contains i = true)
    (hg:gd L ops o.guard = some true) (hd:o.dst = some d) (hN:Nat.blt d N = true) (hS:S w) (hQ:∀ c a w,Q (.panic c) (a.put o.dst v) w → Q (.panic c) a w)
    (hp:pureOp L o.op = some v) (h:∀ a,K N ((d,v) :: L) a → anyQ P ops Q S z fuel (listed.setIfInBounds i true) a w):anyQ P ops Q S z (fuel + 1) listed a w :=
 q_take hK i hi hz hs hf hr hg hd hN hS hQ (fun w _=>pureOp_run hK hp P w) h
theorem Q_all {rs:List Nat} (hr:Region.ready .any ops listed = rs) (hne:rs ≠ [])
    (h:∀ i ∈ rs,wpOp P ops Q i (fun a' w'=>(i ≠ z → S w') ∧ anyQ P ops Q S z fuel (listed.setIfInBounds i true) a' w') a w):anyQ P ops Q S z (fuel + 1) listed a w :=
 ⟨fun h0=>absurd (hr ▸ h0) hne,hr ▸ h⟩
theorem q_one (i:Nat) (hr:Region.ready .any ops listed = [i]) (hi:ops[i]? = some o)
    (h:wpList P ops (Exit.then (fun a' w'=>(i ≠ z → S w') ∧ anyQ P ops Q S z fuel (listed.setIfInBounds i true) a' w') Q) [o] a w):anyQ P ops Q S z (fuel + 1) listed a w :=
 Q_all hr (by simp) fun j hj=>by
  simp only [List.mem_singleton] at hj
  subst hj
  exact wpOp_of hi h
theorem q_two (i j:Nat) {o':Oper} (hr:Region.ready .any ops listed = [i,j]) (hi:ops[i]? = some o) (hj:ops[j]? = some o')
    (h:wpList P ops (Exit.then (fun a' w'=>(i ≠ z → S w') ∧ anyQ P ops Q S z fuel (listed.setIfInBounds i true) a' w') Q) [o] a w)
    (h':wpList P ops (Exit.then (fun a' w'=>(j ≠ z → S w') ∧ anyQ P ops Q S z fuel (listed.setIfInBounds j true) a' w') Q) [o'] a w):anyQ P ops Q S z (fuel + 1) listed a w :=
 Q_all hr (by simp) fun k hk=>by
  simp only [List.mem_cons,List.not_mem_nil,or_false] at hk
  rcases hk with rfl | rfl
  · exact wpOp_of hi h
  · exact wpOp_of hj h'
theorem q_three (i j k:Nat) {o' o'':Oper} (hr:Region.ready .any ops listed = [i,j,k]) (hi:ops[i]? = some o) (hj:ops[j]? = some o') (hk:ops[k]? = some o'')
    (h:wpList P ops (Exit.then (fun a' w'=>(i ≠ z → S w') ∧ anyQ P ops Q S z fuel (listed.setIfInBounds i true) a' w') Q) [o] a w)
    (h':wpList P ops (Exit.then (fun a' w'=>(j ≠ z → S w') ∧ anyQ P ops Q S z fuel (listed.setIfInBounds j true) a' w') Q) [o'] a w)
    (h'':wpList P ops (Exit.then (fun a' w'=>(k ≠ z → S w') ∧ anyQ P ops Q S z fuel (listed.setIfInBounds k true) a' w') Q) [o''] a w):anyQ P ops Q S z (fuel + 1) listed a w :=
 Q_all hr (by simp) fun m hm=>by
  simp only [List.mem_cons,List.not_mem_nil,or_false] at hm
  rcases hm with rfl | rfl | rfl
  · exact wpOp_of hi h
  · exact wpOp_of hj h'
  · exact wpOp_of hk h''
theorem q_done (hr:Region.ready .any ops listed = []) (h:Q .normal a w):∀ {fuel:Nat},anyQ P ops Q S z fuel listed a w
 | 0=>⟨hr,h⟩
 | _ + 1=>⟨fun _=>h,by rw [hr]; simp⟩
theorem nd_new {F G:List Nat} {n:Nat} (hF:F.Nodup) (hG:G.Nodup) (h1:∀ b ∈ F,b < n) (h2:∀ b ∈ G,n ≤ b):(F ++ G).Nodup :=
 List.nodup_append.2 ⟨hF,hG,fun a ha b hb e=>by have:=h1 a ha; have:=h2 b hb; omega⟩
theorem owF_drop {α:Type} [Flat α] {w:World}:∀ (k:Nat) {Gs:List (List Nat)} {cells:List Value} {xs:List α},owL w Gs cells xs → k ≤ xs.length → owL w (Gs.drop k) (cells.drop (k * Enc.sz α)) (xs.drop k)
 | 0,Gs,cells,xs,h,_=>by simpa using h
 | k + 1,G :: Gs,cells,x :: xs,⟨_,h⟩,hk=>by
  have:=owF_drop k h (by simpa using hk)
  rw [List.drop_drop] at this
  simpa [Nat.add_mul,Nat.add_comm] using this
 | k + 1,[],_,[],h,hk=>by simp at hk
 | k + 1,[],_,_ :: _,h,_=>h.elim
 | k + 1,_ :: _,_,[],h,_=>h.elim
theorem owF_nil {α:Type} [Flat α] {w:World}:∀ {Gs:List (List Nat)} {cells:List Value} {xs:List α},owL w Gs cells xs → Gs.flatten = []
 | [],_,[],_=>rfl
 | G :: Gs,cells,x :: xs,⟨h,h'⟩=>by
  have h0:G = []:=h.1
  rw [List.flatten_cons,h0,owF_nil h']; rfl
 | [],_,_ :: _,h=>h.elim
 | _ :: _,_,[],h=>h.elim
theorem s_slFromO {α:Type} [Flat α] {u:World} {F:List Nat} {v:Value} {xs ys:List α} {lo:Int} {k:IntKind} (hf:ow u F [v] xs) (hx:sls xs lo xs.length = some ys) (hK:K N L a) {t:TypeId} (hu:TS P t (Enc.sz α)) {x i:Operand}
    (hg:gd L ops o.guard = some true) (hd:o.dst = some d) (hN:Nat.blt d N = true)
    (ho:o.op = .slice t x (some i) none none) (hv:ev L x = some v) (hi':ev L i = some (.int k lo))
    (h:∀ v' a,K N ((d,v') :: L) a → ow u F [v'] ys → wpList P ops Q rest a w):wpList P ops Q (o :: rest) a w:=by
 obtain ⟨ao,cap,rfl,h1,h2⟩:=rd_slice (Enc.ow_rd hf)
 obtain ⟨e,hu,hs⟩:=hu
 have hx0:=hx
 unfold sls at hx
 split at hx
 · rename_i h0
   simp only [Option.some.injEq] at hx
   have hr:ow u F [.slice (if cap = lo.toNat then ao else ao.map (·.add (lo.toNat * Enc.sz α))) ((xs.length:Int).toNat - lo.toNat) (cap - lo.toNat)] ys:=by
    subst hx
    rcases hf with ⟨hq,rfl,rfl⟩ | ⟨g,off,cap',c,e',Gs,hq,e1,e2,e3,e4,e5,rfl,e6⟩
    · simp only [List.cons.injEq,Value.slice.injEq,and_true] at hq
      obtain ⟨rfl,_,rfl⟩:=hq
      refine .inl ⟨?_,by simp,rfl⟩
      simp
    · simp only [List.cons.injEq,Value.slice.injEq,and_true,true_and] at hq
      obtain ⟨rfl,rfl⟩:=hq
      have hlen:((xs.drop lo.toNat).take ((xs.length:Int).toNat - lo.toNat)) = xs.drop lo.toNat:=by
       apply List.take_of_length_le; simp
      rw [hlen]
      have hll:(xs.drop lo.toNat).length = (xs.length:Int).toNat - lo.toNat:=by simp
      have hle:lo.toNat ≤ xs.length:=by omega
      have hGd:(Gs.drop lo.toNat).flatten = []:=owF_nil (owF_drop lo.toNat e5 hle)
      have hG0:Gs.flatten = []:=owF_nil e5
      by_cases hc:cap = lo.toNat
      · refine .inr ⟨g,off,cap - lo.toNat,c,e',Gs.drop lo.toNat,?_,by rw [hll]; omega,by omega,e3,?_,?_,by rw [hGd,hG0],e6⟩
        · rw [if_pos hc,hll]
        · rw [Nat.sub_mul]; omega
        · have hz:xs.drop lo.toNat = []:=List.drop_of_length_le (by omega)
          have:=owF_drop lo.toNat e5 hle
          rw [hz] at this ⊢
          rw [List.drop_take,show xs.length * Enc.sz α - lo.toNat * Enc.sz α = 0 by rw [show xs.length = lo.toNat by omega]; simp] at this
          simpa using this
      · refine .inr ⟨g,off + lo.toNat * Enc.sz α,cap - lo.toNat,c,e',Gs.drop lo.toNat,?_,by rw [hll]; omega,by omega,e3,?_,?_,by rw [hGd,hG0],e6⟩
        · rw [if_neg hc,hll]; simp [add_none]
        · have:lo.toNat * Enc.sz α ≤ cap * Enc.sz α:=Nat.mul_le_mul_right _ (by omega)
          rw [Nat.sub_mul]; omega
        · have:=owF_drop lo.toNat e5 hle
          rw [List.drop_take,List.drop_drop] at this
          rw [hll,show ((xs.length:Int).toNat - lo.toNat) * Enc.sz α = xs.length * Enc.sz α - lo.toNat * Enc.sz α by rw [Nat.sub_mul]; simp]
          exact this
   refine s_val hK hg hd hN ?_ fun a hK=>h _ a hK hr
   have c2:0 ≤ lo ∧ lo ≤ (xs.length:Int):=by omega
   simp [execOp,ho,Instr.sliceAt,Instr.slice,Instr.sliceBounds,Instr.sliceBound,hK.ev hv,hK.ev hi',run_underlying hu,asIntOf,c2,hs]
 · simp at hx
end
end Go.Proofs.YthkaklkinepfkaaGreatDoor
set_option linter.unusedSimpArgs false
set_option linter.unusedVariables false
namespace Go.Proofs.YthkaklkinepfkaaGreatDoor
open Go Go.RowKit
open Enc (rd ow)
open Arg (argv)
open Ret (retv)
section
variable {β:Type} [Enc β] {w w0:World}
end
end Go.Proofs.YthkaklkinepfkaaGreatDoor
set_option linter.unusedSimpArgs false
set_option linter.unusedVariables false
namespace Go.Proofs.YthkaklkinepfkaaGreatDoor
open Go Go.RowKit
open Enc (rd ow)
section
variable {α:Type} [Enc α]
end
section
variable {P:Program} {ops:Array Oper} {Q:Exit → Act → World → Prop} {rest:List Oper} {o:Oper} {a:Act} {w:World} {N:Nat} {L:List (Nat × Value)}
variable {X:List Nat} {w0:World} {M:List (List Nat × World)} {d:Nat}
theorem St.tail {p:List Nat × World} (h:St X w0 w (p :: M)):St X w0 w M:=by
 have hs:∀ b ∈ fps M,b ∈ fps (p :: M):=fun b hb=>by simp only [fps,List.flatMap_cons]; exact List.mem_append_right _ hb
 refine ⟨h.ext,fun q hq=>h.ok q (List.mem_cons_of_mem _ hq),fun b hb=>h.lt b (hs b hb),fun b hb=>h.lo b (hs b hb),?_⟩
 have:=h.nd
 simp only [fps,List.flatMap_cons] at this
 exact (List.nodup_append.1 this).2.1
structure Raw (n:Nat) where
 l:List Value
 len:l.length = n
 one:∀ c ∈ l,c.oneCell' = true
instance (n:Nat):Flat (Raw n):=⟨n,Raw.l,Raw.len,Raw.one⟩
end
end Go.Proofs.YthkaklkinepfkaaGreatDoor
set_option linter.unusedSimpArgs false
set_option linter.unusedVariables false
namespace Go.Proofs.YthkaklkinepfkaaGreatDoor
open Go Go.RowKit
open Enc (rd ow)
section
variable {P:Program} {ops:Array Oper} {Q:Exit → Act → World → Prop} {rest:List Oper} {o o1 o2:Oper} {a:Act} {w w':World} {N:Nat} {L:List (Nat × Value)}
variable {X:List Nat} {w0:World} {M:List (List Nat × World)} {d d':Nat} {S:World → Prop} {fuel:Nat} {listed:Array Bool}
variable {α:Type} [Enc α] {F:List Nat} {cs:List Value} {x:α} {u:World}
theorem St.r (h:St [] w0 w M) (hr:rd w0 F cs x):rd w F cs x:=Enc.rd_agr hr (h.a00 (Enc.rd_lt hr))
theorem St.r1 (h:St X w0 w M) (hr:rd w0 F cs x) (hd:∀ b ∈ F,b ∉ X):rd w F cs x:=Enc.rd_agr hr (h.a0 (Enc.rd_lt hr) hd)
theorem St.q (h:St X w0 w M) (ho:ow u F cs x) (i:Nat) (hi:M[i]? = some (F,u)):rd w F cs x:=Enc.rd_agr (Enc.ow_rd ho) (h.a i hi)
theorem St.v (h:St X w0 w M) (ho:ow u F cs x) (i:Nat) (hi:M[i]? = some (F,u)):ow w F cs x:=Enc.ow_agr ho (h.a i hi)
theorem St.y (h:St X w0 w M) {b:Nat} {e:TypeId} (hb:bx u b cs e) (i:Nat) (hi:M[i]? = some ([b],u)):bx w b cs e:=hb.agr (h.a i hi) (by simp)
theorem St.here (h:St X w0 w M) (hx:∀ w,ow w F cs x):ow w F cs x:=hx w
theorem St.mu (h:St X w0 w M) (i:Nat) (hi:M[i]? = some (F,u)) (hE:Ext F w w'):St X w0 w' (M.set i (F,w')) :=
 h.mut i hi hE F (fun b hb=>⟨.inl hb,hE.lt1 (h.ltF i hi) b hb⟩) (h.ndF i hi)
theorem St.nw (h:St X w0 w M) (hE:Ext [] w w') (hl:∀ b ∈ F,w.heap.size ≤ b) (ho:ow w' F cs x):St X w0 w' ((F,w') :: M) :=
 h.new hE F (fun b hb=>⟨hl b hb,Enc.rd_lt (Enc.ow_rd ho) b hb⟩) (Enc.ow_nd ho)
theorem dT (hK:K N L a) (i:Nat) {v:Value} (hi:ops[i]? = some o) (hc:chk L ops N true o = some d) (hS:S w)
    (hy:∀ w,S w → (execOp a.eval o).run P w = .ok (.value v) w) (h:∀ a,K N ((d,v) :: L) a → wpAnyH P .any ops Q S fuel (listed.setIfInBounds i true) a w)
    (ho:okD ops listed i = true:=by kernel_rfl) (hQ:∀ c a w,Q (.panic c) (a.put o.dst v) w → Q (.panic c) a w:=by exact fun _ _ _=>id):wpAnyH P .any ops Q S (fuel + 1) listed a w :=
 dt hK i hi ho hc hS hQ hy h
theorem dM (is:List Nat) (n:Nat) {L':List (Nat × Value)} (hn:is.length = n) (hK:K N L a) (hv:runV N ops is L = some L') (hS:S w)
    (h:∀ a,K N L' a → wpAnyH P .any ops Q S fuel (setN listed is) a w) (ho:okN ops listed is = true:=by kernel_rfl)
    (hQ:∀ c (a:Act) d v w,Q (.panic c) (a.put (some d) v) w → Q (.panic c) a w:=by exact fun _ _ _ _ _=>id):wpAnyH P .any ops Q S (fuel + n) listed a w :=
 dN is n hn hK ho hv hS hQ h
theorem fC {β:Type} {p:β → Prop} {y:β} {l:List β} (h1:p y) (h2:∀ z ∈ l,p z):∀ z ∈ y :: l,p z:=List.forall_mem_cons.2 ⟨h1,h2⟩
theorem fN {β:Type} {p:β → Prop}:∀ z ∈ ([]:List β),p z:=List.forall_mem_nil _
abbrev pt (b:Nat):Value:=.pointer (some ⟨b,0,none⟩)
theorem fl {t t':TypeId} {f off:Nat} (hF:FA P t f off) (hT:T1 P t') (hM:St X w0 w M) (i:Nat) {b:Nat} {e:TypeId} (hb:bx u b cs e) (hK:K N L a) {y y':Operand} {v:Value}
    (h1:(o1.op,ev L y,chk L ops N true o1,M[i]?) = (.fieldAddr t y f,some (.pointer (some (⟨b,0,none⟩:Addr))),some d,some ([b],u)))
    (h2:(o2.op,ev ((d,.pointer (some ((⟨b,0,none⟩:Addr).add off))) :: L) y',chk ((d,.pointer (some ((⟨b,0,none⟩:Addr).add off))) :: L) ops N true o2,cs[off]?) = (.load t' y',some (.pointer (some ((⟨b,0,none⟩:Addr).add off))),some d',some v))
    (h:∀ a,K N ((d',v) :: (d,.pointer (some ((⟨b,0,none⟩:Addr).add off))) :: L) a → wpList P ops Q rest a w):wpList P ops Q (o1 :: o2 :: rest) a w:=by
 simp only [Prod.mk.injEq] at h1 h2
 obtain ⟨a1,a2,a3,a4⟩:=h1
 obtain ⟨b1,b2,b3,b4⟩:=h2
 exact sv hK a3 (r_fa hF hK a1 a2) fun a hK=>sv hK b3 (r_ldb hT hM i hb off hK a4 b1 b2 rfl b4) h
theorem ns {Z Y:List Nat} {wd:World} {next:Act → World → Prop} (s:Ext Z wd w) (e:Ext Y w w') (h:Ext Z wd w' → next a w') (hY:∀ y ∈ Y,y ∈ Z ∨ wd.heap.size ≤ y:=by simp) :
    wpList P ops (Exit.then (fun a' w'=>Ext Z wd w' ∧ next a' w') Q) [] a w':=by
 have t:=s.trans e hY
 exact wpList_nil ⟨t,h t⟩
theorem dO (i:Nat) (hi:ops[i]? = some o)
    (h:wpList P ops (Exit.then (fun a' w'=>S w' ∧ wpAnyH P .any ops Q S fuel (listed.setIfInBounds i true) a' w') Q) [o] a w) (hr:Region.ready .any ops listed = [i]:=by kernel_rfl):wpAnyH P .any ops Q S (fuel + 1) listed a w :=
 d_one i hr hi h
theorem dD (h:Q .normal a w) (hr:Region.ready .any ops listed = []:=by kernel_rfl):wpAnyH P .any ops Q S fuel listed a w:=d_done hr h
theorem dF (hK:K N L a) (i:Nat) {t:TypeId} {f off:Nat} (hF:FA P t f off) {x:Operand} {p:Addr}
    (h1:(ops[i]?,o.op,ev L x,chk L ops N true o) = (some o,.fieldAddr t x f,some (.pointer (some p)),some d)) (hS:S w)
    (h:∀ a,K N ((d,.pointer (some (p.add off))) :: L) a → wpAnyH P .any ops Q S fuel (listed.setIfInBounds i true) a w)
    (ho:okD ops listed i = true:=by kernel_rfl) (hQ:∀ c a v w,Q (.panic c) (a.put o.dst v) w → Q (.panic c) a w:=by exact fun _ _ _ _=>id):wpAnyH P .any ops Q S (fuel + 1) listed a w:=by
 simp only [Prod.mk.injEq] at h1
 obtain ⟨a1,a2,a3,a4⟩:=h1
 exact dt hK i a1 ho a4 hS (fun c a w=>hQ c a _ w) (fun w s=>r_fa hF hK a2 a3) h
theorem sT {t n:Nat} {cs':List Value} (hs:∀ w,(sizeOf t).run P w = .ok n w) (hM:St X w0 w M) (i:Nat) {b:Nat} {e:TypeId} (hb:bx u b cs e) (off:Nat) (hK:K N L a) {x y:Operand} {p:Addr} {v:Value}
    (h1:(M[i]?,gd L ops o.guard,o.dst,o.op,ev L x,p,ev L y,splice cs off v.cells.toList,v.cells.size,Nat.ble (off + n) cs.length) = (some ([b],u),some true,none,.store t x y,some (.pointer (some p)),(⟨b,0,none⟩:Addr).add off,some v,cs',n,true))
    (h2:v.cells.toList.all Value.oneCell' = true)
    (h:∀ w' a,K N L a → Ext [b] w w' → St X w0 w' (M.set i ([b],w')) → bx w' b cs' e → wpList P ops Q rest a w'):wpList P ops Q (o :: rest) a w:=by
 simp only [Prod.mk.injEq] at h1
 obtain ⟨a1,a2,a3,a4,a5,a6,a7,a8,a9,a10⟩:=h1
 exact s_stb hs hM i hb off hK a1 a2 a3 a4 a5 a6 a7 a8 a9 a10 h2 h
theorem sB {t n sz bytes:Nat} {z:List Value} (hT:TE P t sz bytes z) (hM:St X w0 w M) (hK:K N L a) {ps:List (Nat × Operand)} {vs:List Value} {cs:List Value}
    (h1:(gd L ops o.guard,o.dst,Nat.blt d N,o.op,evs L (ps.map (·.2)),ps.map (·.1),vs.length,vs.flatMap fun v=>v.cells.toList) = (some true,some d,true,.buildSlice t n ps.toArray,some vs,List.range vs.length,n,cs))
    (hvs:∀ v ∈ vs,v.cells.size = sz)
    (h:∀ g w' e a,K N ((d,.slice (some ⟨g,0,none⟩) n n) :: L) a → St X w0 w' (([g],w') :: M) → Ext [] w w' → bx w' g cs e → wpList P ops Q rest a w') (hsm:n * sz ≤ 16777216:=by decide):wpList P ops Q (o :: rest) a w:=by
 simp only [Prod.mk.injEq] at h1
 obtain ⟨a1,a2,a3,a4,a5,a6,a7,a8⟩:=h1
 exact s_bs hT hM hK a1 a2 a3 a4 a5 a6 a7 hsm a8 hvs h
theorem en {f:FuncId} {fn:Func} {c:Code} {R:Ending → World → Prop} {vs:List Value}
    (hf:P.funcs[f]? = some fn) (hb:fn.body = some c) (hn:fn.ntmps = N) (hle:Nat.ble vs.length N = true)
    (h:∀ a,K N (argL 0 vs) a → St [] w w [] → c.wp P (bodyPost P fn R) a w):Calls P f vs.toArray w R:=enter hf hb hn hle fun a k=>h a k (St.start w)
theorem rL {t n:Nat} (hT:TA P t n) (hM:St X w0 w M) (i:Nat) {b:Nat} {e:TypeId} (hb:bx u b cs e) (off:Nat) (hK:K N L a) {y:Operand} {p:Addr} {vs:List Value}
    (h1:(M[i]?,o.op,ev L y,p,(cs.drop off).take n,vs.length) = (some ([b],u),.load t y,some (.pointer (some p)),(⟨b,0,none⟩:Addr).add off,vs,n)) :
    (execOp a.eval o).run P w = .ok (.value (.agg vs.toArray)) w:=by
 simp only [Prod.mk.injEq] at h1
 obtain ⟨a1,a2,a3,a4,a5,a6⟩:=h1
 exact r_ldB hT hM i hb off hK a1 a2 a3 a4 a5 a6
theorem St.sl (h:St X w0 w M) (is:List Nat) {M':List (List Nat × World)} (hs:selM M is = some M') (hn:is.Nodup:=by decide):St X w0 w M':=h.sel is hs hn
theorem sC (hK:K N L a) {f:FuncId} {xs:List Operand} {vs:List Value} {R:Ending → World → Prop} {tys:Array TypeId}
    (hcall:∀ (args:Array Value) (w:World),(callFunc f args).run P w = .ok (.enter f args) w)
    (h1:(gd L ops o.guard,o.dst,Nat.blt d N,o.op,evs L xs) = (some true,some d,true,.call { callee:=.value (.func f),args:=xs.toArray,argTypes:=tys },some vs))
    (hc:Calls P f vs.toArray w R) (hR:∀ e w',R e w' → ∃ v,e = .returned v ∧ ∀ a,K N ((d,v) :: L) a → wpList P ops Q rest a w'):wpList P ops Q (o :: rest) a w:=by
 simp only [Prod.mk.injEq] at h1
 obtain ⟨a1,a2,a3,a4,a5⟩:=h1
 exact s_call hK hcall a1 a2 a3 a4 a5 hc hR
theorem cC (hK:K N L a) (hM:St X w0 w M) {f:FuncId} {xs:List Operand} {vs:List Value} {v:Value} {tys:Array TypeId}
    (hcall:∀ (args:Array Value) (w:World),(callFunc f args).run P w = .ok (.enter f args) w)
    (h1:(o.op,evs L xs,chk L ops N true o) = (.call { callee:=.value (.func f),args:=xs.toArray,argTypes:=tys },some vs,some d))
    (hc:Calls P f vs.toArray w fun e w'=>e = .returned v ∧ Ext [] w w') (hR:∀ w',Ext [] w w' → ∀ a,K N ((d,v) :: L) a → St X w0 w' M → wpList P ops Q rest a w'):wpList P ops Q (o :: rest) a w:=by
 simp only [Prod.mk.injEq] at h1
 obtain ⟨a1,a2,a3⟩:=h1
 exact cE hK hM hcall a3 a1 a2 hc hR
end
end Go.Proofs.YthkaklkinepfkaaGreatDoor
set_option linter.unusedSimpArgs false
set_option linter.unusedVariables false
namespace Go.Proofs.YthkaklkinepfkaaGreatDoor
open Go Go.RowKit
open Enc (rd ow)
section
variable {P:Program} {ops:Array Oper} {rest:List Oper} {o:Oper} {a:Act} {w w':World} {N:Nat} {L:List (Nat × Value)}
variable {X:List Nat} {w0:World} {M:List (List Nat × World)}
def Tb (P:Program) (w:World):Prop:=(∃ g,P.globalNamed "internal/strconv.uint64pow10" = some g) ∧ Lib.TabIs P w "internal/strconv.uint64pow10" .u64 Lib.pow10Tab
theorem Tb.ext (h:Tb P w) (hE:Ext [] w w'):Tb P w':=by
 obtain ⟨⟨g,hg⟩,h⟩:=h
 exact ⟨⟨g,hg⟩,Go.Joins.tab_stays hg h hE.below (Nat.le_refl _)⟩
theorem St.tb (h:St [] w0 w M) (hT:Tb P w0):Tb P w:=hT.ext h.ext
def itoaO (n:Int):Option ByteArray:=if -9223372036854775808 ≤ n ∧ n ≤ 9223372036854775807 then some ⟨(Lib.itoa n).toArray⟩ else none
theorem ext_grow (w:World) (q:Nat) (os:Array Obj):Ext [] w (Go.Sort.grow (w.drewN q) os) :=
 ⟨rfl,rfl,rfl,by simp [Go.Sort.grow],fun i hi _=>by
  show ((w.drewN q).heap ++ os)[i]? = _
  rw [Array.getElem?_append_left (by show i < w.heap.size; omega)]
  rfl⟩
theorem c_itoa {f:FuncId} (hc:∀ (n:Int),-9223372036854775808 ≤ n → n ≤ 9223372036854775807 → ∀ (w:World),Lib.TabIs P w "internal/strconv.uint64pow10" .u64 Lib.pow10Tab → Calls P f #[.int .i64 n] w fun e w'=>e = .returned (.string ⟨(Lib.itoa n).toArray⟩) ∧ ∃ k os,w' = Go.Sort.grow (w.drewN k) os)
    (hT:Tb P w0) (n:Int) {r:ByteArray} (h:itoaO n = some r):Calls P f #[.int .i64 n] w0 fun e w=>e = .returned (.string r) ∧ Ext [] w0 w:=by
 unfold itoaO at h
 split at h
 · rename_i h0
   simp only [Option.some.injEq] at h
   subst h
   refine (hc n h0.1 h0.2 w0 hT.2).mono fun e w ⟨he,k,os,hw⟩=>⟨he,?_⟩
   rw [hw]
   exact ext_grow _ _ _
 · simp at h
end
end Go.Proofs.YthkaklkinepfkaaGreatDoor
