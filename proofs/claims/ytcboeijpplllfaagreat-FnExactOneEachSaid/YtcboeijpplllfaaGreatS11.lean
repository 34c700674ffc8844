/- An element of a nested list of the call's own, taken out and put back; stores into it. Own lemmas, over any program. -/
import Derived.Test.YtcboeijpplllfaaGreatS10
set_option linter.unusedSimpArgs false
set_option linter.unusedVariables false
namespace Go.Proofs.YtcboeijpplllfaaGreat
open Go Go.RowKit
open Enc (rd ow)
open Arg (argv)
open Ret (retv)
section
variable {α:Type} [Enc α]
def owLH (w:World):Nat → List (List Nat) → List Value → List α → Prop
 | 0,G :: Gs,cells,_ :: xs=>G = [] ∧ Enc.sz α ≤ cells.length ∧ owL w Gs (cells.drop (Enc.sz α)) xs
 | i + 1,G :: Gs,cells,x :: xs=>ow w G (cells.take (Enc.sz α)) x ∧ owLH w i Gs (cells.drop (Enc.sz α)) xs
 | _,_,_,_=>False
theorem owLH_agr {u w:World}:∀ {i:Nat} {Gs:List (List Nat)} {cells:List Value} {xs:List α},Agr Gs.flatten u w → owLH u i Gs cells xs → owLH w i Gs cells xs
 | 0,G :: Gs,cells,x :: xs,hA,⟨h1,h2,h3⟩=>⟨h1,h2,owL_agr (hA.sub (fun b hb=>by rw [List.flatten_cons]; exact List.mem_append_right _ hb)) h3⟩
 | i + 1,G :: Gs,cells,x :: xs,hA,⟨h1,h2⟩=>⟨Enc.ow_agr h1 (hA.sub (fun b hb=>by simp [hb])),owLH_agr (hA.sub (fun b hb=>by rw [List.flatten_cons]; exact List.mem_append_right _ hb)) h2⟩
 | 0,[],_,_,_,h=>h.elim
 | 0,_ :: _,_,[],_,h=>h.elim
 | _ + 1,[],_,_,_,h=>h.elim
 | _ + 1,_ :: _,_,[],_,h=>h.elim
theorem owLH_len {w:World}:∀ {i:Nat} {Gs:List (List Nat)} {cells:List Value} {xs:List α},owLH w i Gs cells xs → Gs.length = xs.length ∧ cells.length = xs.length * Enc.sz α ∧ i < xs.length ∧ Gs[i]? = some []
 | 0,G :: Gs,cells,x :: xs,⟨h1,h2,h3⟩=>by
  obtain ⟨e1,e2⟩:=owL_len h3
  simp only [List.length_drop] at e2
  refine ⟨by simp [e1],?_,by simp,by simp [h1]⟩
  simp only [List.length_cons,Nat.add_mul,Nat.one_mul]; omega
 | i + 1,G :: Gs,cells,x :: xs,⟨h1,h2⟩=>by
  obtain ⟨e1,e2,e3,e4⟩:=owLH_len h2
  have h3:=Enc.rd_sz (Enc.ow_rd h1)
  simp only [List.length_take,List.length_drop] at e2 h3
  refine ⟨by simp [e1],?_,by simpa using e3,by simpa using e4⟩
  simp only [List.length_cons,Nat.add_mul,Nat.one_mul]; omega
 | 0,[],_,_,h=>h.elim
 | 0,_ :: _,_,[],h=>h.elim
 | _ + 1,[],_,_,h=>h.elim
 | _ + 1,_ :: _,_,[],h=>h.elim
theorem owLH_of {w:World}:∀ {i:Nat} {Gs:List (List Nat)} {cells:List Value} {xs:List α} {x:α},owL w Gs cells xs → xs[i]? = some x →
    ∃ G,Gs[i]? = some G ∧ owLH w i (Gs.set i []) cells xs ∧ ow w G ((cells.drop (i * Enc.sz α)).take (Enc.sz α)) x
 | 0,G :: Gs,cells,y :: xs,x,⟨h,h'⟩,hx=>by
  simp only [List.getElem?_cons_zero,Option.some.injEq] at hx
  subst hx
  have hl:=Enc.rd_sz (Enc.ow_rd h)
  simp only [List.length_take] at hl
  exact ⟨G,rfl,⟨rfl,by omega,h'⟩,by simpa using h⟩
 | i + 1,G :: Gs,cells,y :: xs,x,⟨h,h'⟩,hx=>by
  obtain ⟨G',h1,h2,h3⟩:=owLH_of h' (by simpa using hx)
  refine ⟨G',by simpa using h1,⟨h,h2⟩,?_⟩
  rw [List.drop_drop] at h3
  rw [show (i + 1) * Enc.sz α = Enc.sz α + i * Enc.sz α by rw [Nat.add_mul]; omega]
  exact h3
 | _,[],_,[],x,_,hx=>by simp at hx
 | _,[],_,_ :: _,_,h,_=>h.elim
 | _,_ :: _,_,[],_,h,_=>h.elim
theorem owLH_put {w:World} {G:List Nat} {cs:List Value} {y:α} (hy:ow w G cs y):∀ {i:Nat} {Gs:List (List Nat)} {cells:List Value} {xs:List α},owLH w i Gs cells xs →
    (cells.drop (i * Enc.sz α)).take (Enc.sz α) = cs → owL w (Gs.set i G) cells (xs.set i y)
 | 0,H :: Gs,cells,x :: xs,⟨_,_,h3⟩,hc=>⟨by rw [Nat.zero_mul,List.drop_zero] at hc; rw [hc]; exact hy,h3⟩
 | i + 1,H :: Gs,cells,x :: xs,⟨h1,h2⟩,hc=>⟨h1,owLH_put hy h2 (by rw [List.drop_drop,← hc,show (i + 1) * Enc.sz α = Enc.sz α + i * Enc.sz α by rw [Nat.add_mul]; omega])⟩
 | 0,[],_,_,h,_=>h.elim
 | 0,_ :: _,_,[],h,_=>h.elim
 | _ + 1,[],_,_,h,_=>h.elim
 | _ + 1,_ :: _,_,[],h,_=>h.elim
theorem flat_out {Gs:List (List Nat)} {i:Nat} {G:List Nat} (h:Gs[i]? = some G):Gs.flatten.Perm ((Gs.set i []).flatten ++ G):=by
 induction Gs generalizing i with
 | nil=>simp at h
 | cons H Gs ih =>
  cases i with
  | zero =>
   simp only [List.getElem?_cons_zero,Option.some.injEq] at h
   subst h
   simp only [List.set_cons_zero,List.flatten_cons,List.nil_append]
   exact List.perm_append_comm
  | succ i =>
   simp only [List.set_cons_succ,List.flatten_cons,List.append_assoc]
   exact List.Perm.append_left _ (ih (by simpa using h))
theorem flat_in {Gs:List (List Nat)} {i:Nat} (h:Gs[i]? = some []) (G:List Nat):(Gs.set i G).flatten.Perm (Gs.flatten ++ G):=by
 have hlt:=(List.getElem?_eq_some_iff.1 h).1
 have h1:=flat_out (Gs:=Gs.set i G) (i:=i) (G:=G) (by simp [hlt])
 have e:(Gs.set i G).set i [] = Gs:=by
  rw [List.set_set]
  apply List.ext_getElem?
  intro j
  rw [List.getElem?_set]
  by_cases e:i = j
  · subst e; simp [hlt,(List.getElem?_eq_some_iff.1 h).2]
  · simp [e]
 rw [e] at h1
 exact h1
def owH (w:World) (F:List Nat) (v:Value) (xs:List α) (i:Nat) (cs:List Value):Prop :=
 ∃ g off cap c e Gs,v = .slice (some ⟨g,off,none⟩) xs.length cap ∧ xs.length ≤ cap ∧ cap ≤ maxLen ∧ w.heap[g]? = some (.cells c e (0,0)) ∧
  off + cap * Enc.sz α ≤ c.size ∧ owLH w i Gs ((c.toList.drop off).take (xs.length * Enc.sz α)) xs ∧ F = g :: Gs.flatten ∧ F.Nodup ∧
  (((c.toList.drop off).take (xs.length * Enc.sz α)).drop (i * Enc.sz α)).take (Enc.sz α) = cs
theorem owH_agr {u w:World} {F:List Nat} {v:Value} {xs:List α} {i:Nat} {cs:List Value} (h:owH u F v xs i cs) (hA:Agr F u w):owH w F v xs i cs:=by
 obtain ⟨g,off,cap,c,e,Gs,rfl,h1,h2,h3,h4,h5,rfl,h6,h7⟩:=h
 exact ⟨g,off,cap,c,e,Gs,rfl,h1,h2,(hA g (by simp)).trans h3,h4,owLH_agr (hA.sub (fun b hb=>List.mem_cons_of_mem _ hb)) h5,rfl,h6,h7⟩
theorem ow_take {u:World} {F:List Nat} {v:Value} {xs:List α} {i:Nat} {x:α} {cs:List Value} (h:ow u F [v] xs) (hx:xs[i]? = some x) (hp:PtAt u (eAddr v (Enc.sz α) i) cs) (hl:cs.length = Enc.sz α) :
    ∃ A B,owH u A v xs i cs ∧ ow u B cs x ∧ F.Perm (A ++ B):=by
 rcases h with ⟨_,rfl,_⟩ | ⟨g,off,cap,c,e,Gs,hv,h1,h2,h3,h4,h5,rfl,h6⟩
 · simp at hx
 · have:=(List.cons.inj hv).1
   subst this
   obtain ⟨G,hG,hH,hO⟩:=owLH_of h5 hx
   have hpt:(((c.toList.drop off).take (xs.length * Enc.sz α)).drop (i * Enc.sz α)).take (Enc.sz α) = cs:=by
    obtain ⟨g',off',c',e',fr,he,hh,hc⟩:=hp
    simp only [eAddr,add_none,Addr.mk.injEq,and_true] at he
    obtain ⟨rfl,rfl⟩:=he
    rw [h3] at hh
    injection hh with hh
    injection hh with hh _ _
    subst hh
    rw [hl] at hc
    rw [← hc,List.drop_take,List.take_take,List.drop_drop]
    have hi:=(List.getElem?_eq_some_iff.1 hx).1
    have hm:(i + 1) * Enc.sz α ≤ xs.length * Enc.sz α:=Nat.mul_le_mul_right _ (by omega)
    rw [Nat.add_mul,Nat.one_mul] at hm
    congr 1
    omega
   rw [hpt] at hO
   have hperm:(g :: Gs.flatten).Perm ((g :: (Gs.set i []).flatten) ++ G):=List.Perm.cons _ (flat_out hG)
   refine ⟨_,G,⟨g,off,cap,c,e,Gs.set i [],rfl,h1,h2,h3,h4,hH,rfl,?_,hpt⟩,hO,hperm⟩
   exact (List.nodup_append.1 (hperm.nodup_iff.1 h6)).1
theorem ow_put {w:World} {A B:List Nat} {v:Value} {xs:List α} {i:Nat} {y:α} {cs:List Value} (h:owH w A v xs i cs) (hy:ow w B cs y) (hn:(A ++ B).Nodup) :
    ∃ F,ow w F [v] (xs.set i y) ∧ F.Perm (A ++ B):=by
 obtain ⟨g,off,cap,c,e,Gs,rfl,h1,h2,h3,h4,h5,rfl,h6,h7⟩:=h
 obtain ⟨e1,e2,e3,e4⟩:=owLH_len h5
 have hperm:(g :: (Gs.set i B).flatten).Perm ((g :: Gs.flatten) ++ B):=List.Perm.cons _ (flat_in e4 B)
 refine ⟨_,.inr ⟨g,off,cap,c,e,Gs.set i B,by simp,by simpa using h1,h2,h3,h4,?_,rfl,hperm.nodup_iff.2 hn⟩,hperm⟩
 rw [List.length_set]
 exact owLH_put hy h5 h7
omit [Enc α] in
end
section
variable {P:Program} {ops:Array Oper} {Q:Exit → Act → World → Prop} {rest:List Oper} {o:Oper} {a:Act} {w:World} {N:Nat} {L:List (Nat × Value)}
variable {X:List Nat} {w0:World} {M:List (List Nat × World)} {d:Nat}
theorem fps_perm {M M':List (List Nat × World)} (h:M.Perm M'):(fps M).Perm (fps M'):=by
 unfold fps
 exact List.Perm.flatMap_right _ h
theorem front_perm {β:Type}:∀ (M:List β) (k:Nat) (p:β),M[k]? = some p → M.Perm (p :: M.eraseIdx k)
 | [],_,_,h=>by simp at h
 | q :: M,0,p,h=>by simp only [List.getElem?_cons_zero,Option.some.injEq] at h; subst h; exact List.Perm.refl _
 | q :: M,k + 1,p,h=>((front_perm M k p (by simpa using h)).cons q).trans (List.Perm.swap _ _ _)
theorem St.toFront (h:St X w0 w M) (k:Nat) {p:List Nat × World} (hk:M[k]? = some p):St X w0 w (p :: M.eraseIdx k):=by
 have hp:M.Perm (p :: M.eraseIdx k):=front_perm M k p hk
 have hf:=fps_perm hp
 exact ⟨h.ext,fun q hq=>h.ok q (hp.mem_iff.2 hq),fun b hb=>h.lt b (hf.mem_iff.2 hb),fun b hb=>h.lo b (hf.mem_iff.2 hb),hf.nodup_iff.1 h.nd⟩
theorem St.part {F A B:List Nat} {u:World} (h:St X w0 w ((F,u) :: M)) (hp:F.Perm (A ++ B)):St X w0 w ((A,w) :: (B,w) :: M):=by
 have e:(fps ((F,u) :: M)).Perm (fps ((A,w) :: (B,w) :: M)):=by
  simp only [fps,List.flatMap_cons]
  rw [← List.append_assoc]
  exact hp.append_right _
 refine ⟨h.ext,?_,fun b hb=>h.lt b (e.mem_iff.2 hb),fun b hb=>h.lo b (e.mem_iff.2 hb),e.nodup_iff.1 h.nd⟩
 intro p hq
 simp only [List.mem_cons] at hq
 rcases hq with rfl | rfl | hq
 · exact Agr.refl _ _
 · exact Agr.refl _ _
 · exact h.ok p (by simp [hq])
theorem St.whole {F A B:List Nat} {u v:World} (h:St X w0 w ((A,u) :: (B,v) :: M)) (hp:F.Perm (A ++ B)):St X w0 w ((F,w) :: M):=by
 have h1:=h.join2
 have e:(fps ((A ++ B,w) :: M)).Perm (fps ((F,w) :: M)):=by
  simp only [fps,List.flatMap_cons]
  exact hp.symm.append_right _
 refine ⟨h1.ext,?_,fun b hb=>h1.lt b (e.mem_iff.2 hb),fun b hb=>h1.lo b (e.mem_iff.2 hb),e.nodup_iff.1 h1.nd⟩
 intro p hq
 simp only [List.mem_cons] at hq
 rcases hq with rfl | hq
 · exact Agr.refl _ _
 · exact h1.ok p (by simp [hq])
theorem St.opnS {α:Type} [Enc α] (hM:St X w0 w M) (k:Nat) {F:List Nat} {u:World} (hk:M[k]? = some (F,u)) {v:Value} {xs:List α} (h:ow u F [v] xs) {n:Int} {x:α} (hx:ix xs n = some x)
    {cs:List Value} (hp:PtAt u (eAddr v (Enc.sz α) n.toNat) cs) (hl:cs.length = Enc.sz α) {M':List (List Nat × World)} (hM':M.eraseIdx k = M') :
    ∃ A B,St X w0 w ((A,w) :: (B,w) :: M') ∧ owH w A v xs n.toNat cs ∧ ow w B cs x ∧ (∀ b ∈ A,b ∈ F) ∧ (∀ b ∈ B,b ∈ F):=by
 subst hM'
 obtain ⟨A,B,h1,h2,h3⟩:=ow_take h (ix_some hx).2.2 hp hl
 have hA:=hM.a k hk
 have hAA:Agr A u w:=hA.sub (fun b hb=>h3.mem_iff.2 (List.mem_append_left _ hb))
 have hAB:Agr B u w:=hA.sub (fun b hb=>h3.mem_iff.2 (List.mem_append_right _ hb))
 exact ⟨A,B,(hM.toFront k hk).part h3,owH_agr h1 hAA,Enc.ow_agr h2 hAB,fun b hb=>h3.mem_iff.2 (List.mem_append_left _ hb),fun b hb=>h3.mem_iff.2 (List.mem_append_right _ hb)⟩
theorem St.opn {α:Type} [Enc α] (hM:St X w0 w M) (k:Nat) {F:List Nat} {u:World} (hk:M[k]? = some (F,u)) {v:Value} {xs:List α} (h:ow u F [v] xs) {n:Int} {x:α} (hx:ix xs n = some x)
    {cs:List Value} (hp:PtAt u (eAddr v (Enc.sz α) n.toNat) cs) (hl:cs.length = Enc.sz α) {M':List (List Nat × World)} (hM':M.eraseIdx k = M') :
    ∃ A B,St X w0 w ((A,w) :: (B,w) :: M') ∧ owH w A v xs n.toNat cs ∧ ow w B cs x:=by
 obtain ⟨A,B,h1,h2,h3,_⟩:=hM.opnS k hk h hx hp hl hM'
 exact ⟨A,B,h1,h2,h3⟩
theorem St.cls {α:Type} [Enc α] {A B:List Nat} {u1 u2:World} (hM:St X w0 w ((A,u1) :: (B,u2) :: M)) {v:Value} {xs:List α} {n:Int} {cs:List Value} (h:owH u1 A v xs n.toNat cs) {y:α} (hy:ow u2 B cs y) :
    ∃ F,St X w0 w ((F,w) :: M) ∧ ow w F [v] (setx xs n y):=by
 have h1:=owH_agr h (hM.a 0 rfl)
 have h2:=Enc.ow_agr hy (hM.a 1 rfl)
 obtain ⟨F,h3,h4⟩:=ow_put h1 h2 (hM.join2.ndF 0 rfl)
 exact ⟨F,hM.whole h4,h3⟩
end
end Go.Proofs.YtcboeijpplllfaaGreat
