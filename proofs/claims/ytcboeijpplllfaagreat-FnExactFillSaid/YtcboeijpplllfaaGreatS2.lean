/- Memory: what a world keeps (Ext), what a call owns (St), how data lie in it (Enc). Own lemmas, over any program. -/
import Derived.Test.YtcboeijpplllfaaGreatS1
set_option linter.unusedSimpArgs false
set_option linter.unusedVariables false
namespace Go.Proofs.YtcboeijpplllfaaGreat
open Go Go.RowKit
structure Ext (X:List Nat) (w w':World):Prop where
 os:w'.os = w.os
 tape:w'.tape = w.tape
 output:w'.output = w.output
 size:w.heap.size ≤ w'.heap.size
 blk:∀ k,k < w.heap.size → k ∉ X → w'.heap[k]? = w.heap[k]?
theorem Ext.refl (X:List Nat) (w:World):Ext X w w:=⟨rfl,rfl,rfl,Nat.le_refl _,fun _ _ _=>rfl⟩
theorem Ext.trans {X Y:List Nat} {a b c:World} (h:Ext X a b) (k:Ext Y b c) (hY:∀ y ∈ Y,y ∈ X ∨ a.heap.size ≤ y):Ext X a c :=
 ⟨k.os.trans h.os,k.tape.trans h.tape,k.output.trans h.output,Nat.le_trans h.size k.size,fun i hi hx =>
  (k.blk i (Nat.lt_of_lt_of_le hi h.size) (fun hy=>by rcases hY i hy with h1 | h1; exact hx h1; omega)).trans (h.blk i hi hx)⟩
theorem Ext.wk {X Y:List Nat} {a b:World} (h:Ext X a b) (hs:∀ x ∈ X,x ∈ Y):Ext Y a b :=
 ⟨h.os,h.tape,h.output,h.size,fun k hk hx=>h.blk k hk (fun h=>hx (hs k h))⟩
theorem Ext.below {w w':World} (h:Ext [] w w'):Below w.heap.size w w':=⟨h.os,h.tape,h.output,h.size,fun k hk=>h.blk k hk (by simp)⟩
theorem Ext.alloc (w:World) (o:Obj):Ext [] w (w.alloc o):=⟨rfl,rfl,rfl,by simp,fun k hk _=>by show (w.heap.push o)[k]? = w.heap[k]?; rw [Array.getElem?_push,if_neg (Nat.ne_of_lt hk)]⟩
theorem Ext.drew (w:World):Ext [] w w.drew:=⟨rfl,rfl,rfl,Nat.le_refl _,fun _ _ _=>rfl⟩
theorem Ext.grown {w w':World} {row:Option Nat} (h:w.grownBy w' row):Ext row.toList w w' :=
 ⟨h.os,h.tape,h.output,h.size,fun k hk hx=>h.block k hk (fun e=>hx (by rw [← e]; simp))⟩
def Agr (F:List Nat) (u w:World):Prop:=∀ b ∈ F,w.heap[b]? = u.heap[b]?
theorem Agr.refl (F:List Nat) (w:World):Agr F w w:=fun _ _=>rfl
theorem Agr.sub {F G:List Nat} {u w:World} (h:Agr F u w) (hs:∀ b ∈ G,b ∈ F):Agr G u w:=fun b hb=>h b (hs b hb)
theorem Agr.trans {F:List Nat} {u v w:World} (h:Agr F u v) (k:Agr F v w):Agr F u w:=fun b hb=>(k b hb).trans (h b hb)
def fps (M:List (List Nat × World)):List Nat:=M.flatMap (·.1)
structure St (X:List Nat) (w0 w:World) (M:List (List Nat × World)):Prop where
 ext:Ext X w0 w
 ok:∀ p ∈ M,Agr p.1 p.2 w
 lt:∀ b ∈ fps M,b < w.heap.size
 lo:∀ b ∈ fps M,b ∈ X ∨ w0.heap.size ≤ b
 nd:(fps M).Nodup
theorem St.start (w:World):St [] w w []:=⟨Ext.refl _ _,by simp,by simp [fps],by simp [fps],by simp [fps]⟩
section
variable {X:List Nat} {w0 w w':World} {M:List (List Nat × World)}
theorem St.a (h:St X w0 w M) (i:Nat) {F:List Nat} {u:World} (hi:M[i]? = some (F,u)):Agr F u w:=h.ok _ (List.mem_of_getElem? hi)
theorem mem_fps {F:List Nat} {u:World} {i:Nat} (hi:M[i]? = some (F,u)) {b:Nat} (hb:b ∈ F):b ∈ fps M :=
 List.mem_flatMap.2 ⟨(F,u),List.mem_of_getElem? hi,hb⟩
theorem St.ltF (h:St X w0 w M) (i:Nat) {F:List Nat} {u:World} (hi:M[i]? = some (F,u)):∀ b ∈ F,b < w.heap.size:=fun _ hb=>h.lt _ (mem_fps hi hb)
theorem St.a0 (h:St X w0 w M) {F:List Nat} (hlt:∀ b ∈ F,b < w0.heap.size) (hd:∀ b ∈ F,b ∉ X):Agr F w0 w :=
 fun b hb=>h.ext.blk b (hlt b hb) (hd b hb)
theorem St.a00 (h:St [] w0 w M) {F:List Nat} (hlt:∀ b ∈ F,b < w0.heap.size):Agr F w0 w:=h.a0 hlt (by simp)
theorem fps_nodup {M:List (List Nat × World)}:(fps M).Nodup ↔ (∀ p ∈ M,p.1.Nodup) ∧ M.Pairwise (fun p q=>∀ b ∈ p.1,b ∉ q.1):=by
 unfold fps List.Nodup
 rw [List.pairwise_flatMap]
 refine and_congr Iff.rfl ⟨fun h=>h.imp fun {p q} h b hb hb'=>h b hb b hb' rfl,fun h=>h.imp fun {p q} h x hx y hy=>?_⟩
 intro e; subst e; exact h x hx hy
theorem fps_nodup_mem {F:List Nat} {u:World} {i:Nat} (hi:M[i]? = some (F,u)) (hnd:(fps M).Nodup):F.Nodup:=by
 exact (fps_nodup.1 hnd).1 _ (List.mem_of_getElem? hi)
theorem St.ndF (h:St X w0 w M) (i:Nat) {F:List Nat} {u:World} (hi:M[i]? = some (F,u)):F.Nodup:=fps_nodup_mem hi h.nd
theorem St.size (h:St X w0 w M):w0.heap.size ≤ w.heap.size:=h.ext.size
theorem St.step (h:St X w0 w M) (hE:Ext [] w w'):St X w0 w' M :=
 ⟨h.ext.trans hE (by simp),fun p hp=>(h.ok p hp).trans (fun b hb=>hE.blk b (h.lt b (List.mem_flatMap.2 ⟨p,hp,hb⟩)) (by simp)),
  fun b hb=>Nat.lt_of_lt_of_le (h.lt b hb) hE.size,h.lo,h.nd⟩
theorem St.new (h:St X w0 w M) (hE:Ext [] w w') (F:List Nat) (hF:∀ b ∈ F,w.heap.size ≤ b ∧ b < w'.heap.size) (hnd:F.Nodup):St X w0 w' ((F,w') :: M):=by
 have h1:=h.step hE
 refine ⟨h1.ext,?_,?_,?_,?_⟩
 · intro p hp
   rcases List.mem_cons.1 hp with rfl | hp
   · exact Agr.refl _ _
   · exact h1.ok p hp
 · intro b hb
   simp only [fps,List.flatMap_cons,List.mem_append] at hb
   rcases hb with hb | hb
   · exact (hF b hb).2
   · exact h1.lt b hb
 · intro b hb
   simp only [fps,List.flatMap_cons,List.mem_append] at hb
   rcases hb with hb | hb
   · exact .inr (Nat.le_trans h.ext.size (hF b hb).1)
   · exact h.lo b hb
 · simp only [fps,List.flatMap_cons]
   refine List.nodup_append.2 ⟨hnd,h.nd,?_⟩
   intro a ha b hb e
   subst e
   have:=h.lt a hb
   have:=(hF a ha).1
   omega
def selM (M:List (List Nat × World)):List Nat → Option (List (List Nat × World))
 | []=>some []
 | i :: is=>match M[i]?,selM M is with
  | some p,some r=>some (p :: r)
  | _,_=>none
theorem selM_mem:∀ {is:List Nat} {M':List (List Nat × World)},selM M is = some M' → ∀ p ∈ M',∃ i ∈ is,M[i]? = some p
 | [],M',h,p,hp=>by simp [selM] at h; subst h; simp at hp
 | i :: is,M',h,p,hp=>by
  simp only [selM] at h
  cases h1:M[i]? with
  | none=>simp [h1] at h
  | some q =>
   cases h2:selM M is with
   | none=>simp [h1,h2] at h
   | some r =>
    simp only [h1,h2,Option.some.injEq] at h
    subst h
    rcases List.mem_cons.1 hp with rfl | hp
    · exact ⟨i,by simp,h1⟩
    · obtain ⟨j,hj,hj'⟩:=selM_mem h2 p hp
      exact ⟨j,by simp [hj],hj'⟩
theorem fps_disj (hnd:(fps M).Nodup) {i j:Nat} (hij:i ≠ j) {p q:List Nat × World} (hi:M[i]? = some p) (hj:M[j]? = some q):∀ b ∈ p.1,b ∉ q.1:=by
 have hp:=(fps_nodup.1 hnd).2
 intro b hb hb'
 have key:∀ i j:Nat,∀ p q:List Nat × World,i < j → M[i]? = some p → M[j]? = some q → b ∈ p.1 → b ∈ q.1 → False:=by
  intro i j p q hlt hi hj hb hb'
  obtain ⟨hi1,hi2⟩:=List.getElem?_eq_some_iff.1 hi
  obtain ⟨hj1,hj2⟩:=List.getElem?_eq_some_iff.1 hj
  have:=List.pairwise_iff_getElem.1 hp i j hi1 hj1 hlt
  rw [hi2,hj2] at this
  exact this b hb hb'
 rcases Nat.lt_or_gt_of_ne hij with h | h
 · exact key i j p q h hi hj hb hb'
 · exact key j i q p h hj hi hb' hb
theorem selM_nodup (hnd:(fps M).Nodup):∀ {is:List Nat} {M':List (List Nat × World)},selM M is = some M' → is.Nodup → (fps M').Nodup
 | [],M',h,_=>by simp [selM] at h; subst h; simp [fps]
 | i :: is,M',h,hn=>by
  simp only [selM] at h
  cases h1:M[i]? with
  | none=>simp [h1] at h
  | some q =>
   cases h2:selM M is with
   | none=>simp [h1,h2] at h
   | some r =>
    simp only [h1,h2,Option.some.injEq] at h
    subst h
    have hn':=List.nodup_cons.1 hn
    simp only [fps,List.flatMap_cons]
    refine List.nodup_append.2 ⟨fps_nodup_mem (F:=q.1) (u:=q.2) h1 hnd,selM_nodup hnd h2 hn'.2,?_⟩
    intro a ha b hb e
    subst e
    obtain ⟨p,hp,hb⟩:=List.mem_flatMap.1 hb
    obtain ⟨j,hj,hj'⟩:=selM_mem h2 p hp
    exact fps_disj hnd (i:=i) (j:=j) (fun e=>hn'.1 (e ▸ hj)) h1 hj' a ha hb
theorem St.sel (h:St X w0 w M) (is:List Nat) {M':List (List Nat × World)} (hs:selM M is = some M') (hn:is.Nodup):St X w0 w M':=by
 have hmem:∀ b ∈ fps M',b ∈ fps M:=fun b hb=>by
  obtain ⟨p,hp,hb⟩:=List.mem_flatMap.1 hb
  obtain ⟨i,_,hi⟩:=selM_mem hs p hp
  exact mem_fps (F:=p.1) (u:=p.2) hi hb
 exact ⟨h.ext,fun p hp=>by obtain ⟨i,_,hi⟩:=selM_mem hs p hp; exact h.ok p (List.mem_of_getElem? hi),fun b hb=>h.lt b (hmem b hb),fun b hb=>h.lo b (hmem b hb),selM_nodup h.nd hs hn⟩
theorem fps_set_mem {i:Nat} {F F':List Nat} {u u':World} (hi:M[i]? = some (F,u)) {b:Nat} (hb:b ∈ fps (M.set i (F',u'))):b ∈ F' ∨ ∃ j,j ≠ i ∧ ∃ p,M[j]? = some p ∧ b ∈ p.1:=by
 obtain ⟨p,hp,hb⟩:=List.mem_flatMap.1 hb
 obtain ⟨j,hj⟩:=List.mem_iff_getElem?.1 hp
 rw [List.getElem?_set] at hj
 by_cases e:i = j
 · subst e
   have hlt:=(List.getElem?_eq_some_iff.1 hi).1
   simp [hlt] at hj
   subst hj
   exact .inl hb
 · rw [if_neg e] at hj
   exact .inr ⟨j,fun h=>e h.symm,p,hj,hb⟩
theorem fps_set_nodup {i:Nat} {F F':List Nat} {u u':World} (hi:M[i]? = some (F,u)) (hnd:(fps M).Nodup) (hF':F'.Nodup)
    (hd:∀ j,j ≠ i → ∀ p,M[j]? = some p → ∀ b ∈ F',b ∉ p.1):(fps (M.set i (F',u'))).Nodup:=by
 rw [fps_nodup] at *
 constructor
 · intro p hp
   obtain ⟨j,hj⟩:=List.mem_iff_getElem?.1 hp
   rw [List.getElem?_set] at hj
   by_cases e:i = j
   · subst e
     have hlt:=(List.getElem?_eq_some_iff.1 hi).1
     simp [hlt] at hj
     subst hj; exact hF'
   · rw [if_neg e] at hj
     exact hnd.1 p (List.mem_of_getElem? hj)
 · rw [List.pairwise_iff_getElem]
   intro a b ha hb hab
   have ha':a < M.length:=by simpa using ha
   have hb':b < M.length:=by simpa using hb
   have base:=List.pairwise_iff_getElem.1 hnd.2 a b ha' hb' hab
   simp only [List.getElem_set]
   by_cases e1:i = a
   · have e2:¬ i = b:=by omega
     rw [if_pos e1,if_neg e2]
     intro x hx hx'
     exact hd b (by omega) _ (List.getElem?_eq_getElem hb') x hx hx'
   · by_cases e2:i = b
     · rw [if_neg e1,if_pos e2]
       intro x hx hx'
       exact hd a (by omega) _ (List.getElem?_eq_getElem ha') x hx' hx
     · rw [if_neg e1,if_neg e2]
       exact base
theorem St.mut (h:St X w0 w M) (i:Nat) {F:List Nat} {u:World} (hi:M[i]? = some (F,u)) (hE:Ext F w w') (F':List Nat)
    (hF':∀ b ∈ F',(b ∈ F ∨ w.heap.size ≤ b) ∧ b < w'.heap.size) (hnd:F'.Nodup):St X w0 w' (M.set i (F',w')):=by
 have hother:∀ j,j ≠ i → ∀ p,M[j]? = some p → ∀ b ∈ p.1,b ∉ F:=fun j hj p hp b hb hb'=>fps_disj h.nd hj hp hi b hb hb'
 refine ⟨h.ext.trans hE (fun y hy=>h.lo y (mem_fps hi hy)),?_,?_,?_,?_⟩
 · intro p hp
   obtain ⟨j,hj⟩:=List.mem_iff_getElem?.1 hp
   rw [List.getElem?_set] at hj
   by_cases e:i = j
   · subst e
     have hlt:=(List.getElem?_eq_some_iff.1 hi).1
     simp [hlt] at hj
     subst hj; exact Agr.refl _ _
   · rw [if_neg e] at hj
     refine (h.ok p (List.mem_of_getElem? hj)).trans fun b hb=>hE.blk b (h.lt b (mem_fps (F:=p.1) (u:=p.2) hj hb)) (hother j (fun h=>e h.symm) p hj b hb)
 · intro b hb
   rcases fps_set_mem hi hb with hb | ⟨j,hj,p,hp,hb⟩
   · exact (hF' b hb).2
   · exact Nat.lt_of_lt_of_le (h.lt b (mem_fps (F:=p.1) (u:=p.2) hp hb)) hE.size
 · intro b hb
   rcases fps_set_mem hi hb with hb | ⟨j,hj,p,hp,hb⟩
   · rcases (hF' b hb).1 with h1 | h1
     · exact h.lo b (mem_fps hi h1)
     · exact .inr (Nat.le_trans h.ext.size h1)
   · exact h.lo b (mem_fps (F:=p.1) (u:=p.2) hp hb)
 · refine fps_set_nodup hi h.nd hnd fun j hj p hp b hb hb'=>?_
   rcases (hF' b hb).1 with h1 | h1
   · exact hother j hj p hp b hb' h1
   · have:=h.lt b (mem_fps (F:=p.1) (u:=p.2) hp hb'); omega
theorem St.split2 {F G:List Nat} {u:World} (h:St X w0 w ((F ++ G,u) :: M)):St X w0 w ((F,u) :: (G,u) :: M):=by
 have e:fps ((F,u) :: (G,u) :: M) = fps ((F ++ G,u) :: M):=by simp [fps]
 refine ⟨h.ext,?_,by rw [e]; exact h.lt,by rw [e]; exact h.lo,by rw [e]; exact h.nd⟩
 have h0:=h.ok (F ++ G,u) (by simp)
 intro p hp
 simp only [List.mem_cons] at hp
 rcases hp with rfl | rfl | hp
 · exact h0.sub (fun b hb=>by simp [hb])
 · exact h0.sub (fun b hb=>by simp [hb])
 · exact h.ok p (by simp [hp])
theorem St.join2 {F G:List Nat} {u v:World} (h:St X w0 w ((F,u) :: (G,v) :: M)):St X w0 w ((F ++ G,w) :: M):=by
 have e:fps ((F ++ G,w) :: M) = fps ((F,u) :: (G,v) :: M):=by simp [fps]
 refine ⟨h.ext,?_,by rw [e]; exact h.lt,by rw [e]; exact h.lo,by rw [e]; exact h.nd⟩
 intro p hp
 simp only [List.mem_cons] at hp
 rcases hp with rfl | hp
 · exact Agr.refl _ _
 · exact h.ok p (by simp [hp])
end
class Enc (α:Type) where
 sz:Nat
 rd:World → List Nat → List Value → α → Prop
 ow:World → List Nat → List Value → α → Prop
 rd_sz:∀ {w F cs x},rd w F cs x → cs.length = sz
 rd_one:∀ {w F cs x},rd w F cs x → ∀ c ∈ cs,c.oneCell' = true
 ow_rd:∀ {w F cs x},ow w F cs x → rd w F cs x
 rd_lt:∀ {w F cs x},rd w F cs x → ∀ b ∈ F,b < w.heap.size
 rd_agr:∀ {u w F cs x},rd u F cs x → Agr F u w → rd w F cs x
 ow_agr:∀ {u w F cs x},ow u F cs x → Agr F u w → ow w F cs x
 ow_nd:∀ {w F cs x},ow w F cs x → F.Nodup
open Enc (rd ow)
class Flat (α:Type) where
 sz:Nat
 e:α → List Value
 len:∀ x,(e x).length = sz
 one:∀ x,∀ c ∈ e x,c.oneCell' = true
instance {α:Type} [Flat α]:Enc α where
 sz:=Flat.sz α
 rd:=fun _ F cs x=>F = [] ∧ cs = Flat.e x
 ow:=fun _ F cs x=>F = [] ∧ cs = Flat.e x
 rd_sz:=fun h=>by rw [h.2]; exact Flat.len _
 rd_one:=fun h=>by rw [h.2]; exact Flat.one _
 ow_rd:=id
 rd_lt:=fun h=>by rw [h.1]; simp
 rd_agr:=fun h _=>h
 ow_agr:=fun h _=>h
 ow_nd:=fun h=>by rw [h.1]; simp
structure U8 where
 n:Int
 deriving DecidableEq
instance:Flat Int:=⟨1,fun n=>[.int .i64 n],fun _=>rfl,fun _=>by simp [Value.oneCell']⟩
instance:Flat Bool:=⟨1,fun n=>[.bool n],fun _=>rfl,fun _=>by simp [Value.oneCell']⟩
instance:Flat U8:=⟨1,fun b=>[.int .u8 b.n],fun _=>rfl,fun _=>by simp [Value.oneCell']⟩
instance:Flat ByteArray:=⟨1,fun s=>[.string s],fun _=>rfl,fun _=>by simp [Value.oneCell']⟩
theorem lt_of_heap {w:World} {g:Nat} {o:Obj} (h:w.heap[g]? = some o):g < w.heap.size:=(Array.getElem?_eq_some_iff.1 h).1
theorem lt_of_agr {F:List Nat} {u w:World} (h:Agr F u w) (hl:∀ b ∈ F,b < u.heap.size):∀ b ∈ F,b < w.heap.size:=fun b hb=>by
 have h1:=h b hb
 have h2:=hl b hb
 rw [Array.getElem?_eq_getElem h2] at h1
 exact lt_of_heap h1
def rdL {α:Type} [Enc α] (w:World) (F:List Nat):List Value → List α → Prop
 | _,[]=>True
 | cells,x :: xs=>(∃ G,(∀ b ∈ G,b ∈ F) ∧ rd w G (cells.take (Enc.sz α)) x) ∧ rdL w F (cells.drop (Enc.sz α)) xs
def owL {α:Type} [Enc α] (w:World):List (List Nat) → List Value → List α → Prop
 | [],cells,[]=>cells = []
 | G :: Gs,cells,x :: xs=>ow w G (cells.take (Enc.sz α)) x ∧ owL w Gs (cells.drop (Enc.sz α)) xs
 | _,_,_=>False
theorem rdL_agr {α:Type} [Enc α] {u w:World} {F:List Nat} (hA:Agr F u w):∀ {cells:List Value} {xs:List α},rdL u F cells xs → rdL w F cells xs
 | _,[],_=>trivial
 | cells,x :: xs,⟨⟨G,hG,h⟩,h'⟩=>⟨⟨G,hG,Enc.rd_agr h (hA.sub hG)⟩,rdL_agr hA h'⟩
theorem owL_agr {α:Type} [Enc α] {u w:World}:∀ {Gs:List (List Nat)} {cells:List Value} {xs:List α},Agr Gs.flatten u w → owL u Gs cells xs → owL w Gs cells xs
 | [],_,[],_,h=>h
 | G :: Gs,cells,x :: xs,hA,⟨h,h'⟩=>⟨Enc.ow_agr h (hA.sub (fun b hb=>by simp [hb])),owL_agr (hA.sub (fun b hb=>by rw [List.flatten_cons]; exact List.mem_append_right _ hb)) h'⟩
 | [],_,_ :: _,_,h=>h.elim
 | _ :: _,_,[],_,h=>h.elim
theorem owL_rdL {α:Type} [Enc α] {w:World} {F:List Nat}:∀ {Gs:List (List Nat)} {cells:List Value} {xs:List α},(∀ b ∈ Gs.flatten,b ∈ F) → owL w Gs cells xs → rdL w F cells xs
 | [],_,[],_,_=>trivial
 | G :: Gs,cells,x :: xs,hF,⟨h,h'⟩=>⟨⟨G,fun b hb=>hF b (by simp [hb]),Enc.ow_rd h⟩,owL_rdL (fun b hb=>hF b (by rw [List.flatten_cons]; exact List.mem_append_right _ hb)) h'⟩
 | [],_,_ :: _,_,h=>h.elim
 | _ :: _,_,[],_,h=>h.elim
theorem owL_len {α:Type} [Enc α] {w:World}:∀ {Gs:List (List Nat)} {cells:List Value} {xs:List α},owL w Gs cells xs → Gs.length = xs.length ∧ cells.length = xs.length * Enc.sz α
 | [],_,[],h=>by simp only [owL] at h; subst h; simp
 | G :: Gs,cells,x :: xs,⟨h,h'⟩=>by
  obtain ⟨h1,h2⟩:=owL_len h'
  have h3:=Enc.rd_sz (Enc.ow_rd h)
  simp only [List.length_take,List.length_drop] at h2 h3
  refine ⟨by simp [h1],?_⟩
  simp only [List.length_cons,Nat.add_mul,Nat.one_mul]
  omega
 | [],_,_ :: _,h=>h.elim
 | _ :: _,_,[],h=>h.elim
theorem owL_lt {α:Type} [Enc α] {w:World}:∀ {Gs:List (List Nat)} {cells:List Value} {xs:List α},owL w Gs cells xs → ∀ b ∈ Gs.flatten,b < w.heap.size
 | [],_,[],_=>by simp
 | G :: Gs,cells,x :: xs,⟨h,h'⟩=>by
  intro b hb
  rw [List.flatten_cons,List.mem_append] at hb
  rcases hb with hb | hb
  · exact Enc.rd_lt (Enc.ow_rd h) b hb
  · exact owL_lt h' b hb
 | [],_,_ :: _,h=>h.elim
 | _ :: _,_,[],h=>h.elim
def rdS {α:Type} [Enc α] (w:World) (F:List Nat) (cs:List Value) (xs:List α):Prop :=
 ∃ ao cap,cs = [.slice ao xs.length cap] ∧ xs.length ≤ cap ∧ cap ≤ maxLen ∧ (∀ b ∈ F,b < w.heap.size) ∧
  (xs = [] ∨ ∃ g off c e fr,ao = some ⟨g,off,none⟩ ∧ g ∈ F ∧ w.heap[g]? = some (.cells c e fr) ∧ rdL w F (c.toList.drop off) xs)
def owS {α:Type} [Enc α] (w:World) (F:List Nat) (cs:List Value) (xs:List α):Prop :=
 (cs = [.slice none 0 0] ∧ xs = [] ∧ F = []) ∨
 ∃ g off cap c e Gs,cs = [.slice (some ⟨g,off,none⟩) xs.length cap] ∧ xs.length ≤ cap ∧ cap ≤ maxLen ∧ w.heap[g]? = some (.cells c e (0,0)) ∧
  off + cap * Enc.sz α ≤ c.size ∧ owL w Gs ((c.toList.drop off).take (xs.length * Enc.sz α)) xs ∧ F = g :: Gs.flatten ∧ F.Nodup
theorem rdL_take {α:Type} [Enc α] {w:World} {F:List Nat}:∀ {xs:List α} {cells:List Value},rdL w F (cells.take (xs.length * Enc.sz α)) xs → rdL w F cells xs
 | [],_,_=>trivial
 | x :: xs,cells,⟨⟨G,hG,h⟩,h'⟩=>by
  refine ⟨⟨G,hG,?_⟩,?_⟩
  · rw [List.take_take,show min (Enc.sz α) ((x :: xs).length * Enc.sz α) = Enc.sz α by simp [Nat.add_mul]] at h
    exact h
  · refine rdL_take ?_
    rw [List.drop_take] at h'
    rw [show (x :: xs).length * Enc.sz α - Enc.sz α = xs.length * Enc.sz α by simp [Nat.add_mul]] at h'
    exact h'
theorem owS_rdS {α:Type} [Enc α] {w:World} {F:List Nat} {cs:List Value} {xs:List α} (h:owS w F cs xs):rdS w F cs xs:=by
 rcases h with ⟨rfl,rfl,rfl⟩ | ⟨g,off,cap,c,e,Gs,rfl,h1,h2,h3,h4,h5,rfl,h6⟩
 · exact ⟨none,0,rfl,by simp,by simp [maxLen],by simp,.inl rfl⟩
 · refine ⟨_,_,rfl,h1,h2,?_,?_⟩
   · intro b hb
     rcases List.mem_cons.1 hb with rfl | hb
     · exact lt_of_heap h3
     · exact owL_lt h5 b hb
   · exact .inr ⟨g,off,c,e,_,rfl,by simp,h3,rdL_take (owL_rdL (fun b hb=>List.mem_cons_of_mem _ hb) h5)⟩
instance {α:Type} [Enc α]:Enc (List α) where
 sz:=1
 rd:=rdS
 ow:=owS
 rd_sz:=fun h=>by obtain ⟨_,_,rfl,_⟩:=h; rfl
 rd_one:=fun h=>by obtain ⟨_,_,rfl,_⟩:=h; simp [Value.oneCell']
 ow_rd:=owS_rdS
 rd_lt:=fun h=>by obtain ⟨_,_,_,_,_,h,_⟩:=h; exact h
 rd_agr:=fun h hA=>by
  obtain ⟨ao,cap,rfl,h1,h2,h3,h4⟩:=h
  refine ⟨ao,cap,rfl,h1,h2,lt_of_agr hA h3,?_⟩
  rcases h4 with h4 | ⟨g,off,c,e,fr,rfl,hg,hh,hl⟩
  · exact .inl h4
  · exact .inr ⟨g,off,c,e,fr,rfl,hg,(hA g hg).trans hh,rdL_agr hA hl⟩
 ow_agr:=fun h hA=>by
  rcases h with ⟨rfl,rfl,rfl⟩ | ⟨g,off,cap,c,e,Gs,rfl,h1,h2,h3,h4,h5,rfl,h6⟩
  · exact .inl ⟨rfl,rfl,rfl⟩
  · exact .inr ⟨g,off,cap,c,e,Gs,rfl,h1,h2,(hA g (by simp)).trans h3,h4,owL_agr (hA.sub (fun b hb=>List.mem_cons_of_mem _ hb)) h5,rfl,h6⟩
 ow_nd:=fun h=>by
  rcases h with ⟨rfl,rfl,rfl⟩ | ⟨g,off,cap,c,e,Gs,rfl,h1,h2,h3,h4,h5,rfl,h6⟩
  · simp
  · exact h6
def PtAt (u:World) (p:Addr) (cs:List Value):Prop :=
 ∃ g off c e fr,p = ⟨g,off,none⟩ ∧ u.heap[g]? = some (.cells c e fr) ∧ (c.toList.drop off).take cs.length = cs
theorem PtAt.agr {u w:World} {p:Addr} {cs:List Value} (h:PtAt u p cs) {F:List Nat} (hA:Agr F u w) (hp:p.block ∈ F):PtAt w p cs:=by
 obtain ⟨g,off,c,e,fr,rfl,hh,hc⟩:=h
 exact ⟨g,off,c,e,fr,rfl,(hA g hp).trans hh,hc⟩
theorem add_none (g off k:Nat):(⟨g,off,none⟩:Addr).add k = ⟨g,off + k,none⟩:=by unfold Addr.add; split <;> simp_all
theorem PtAt.fld {u:World} {p:Addr} {cs:List Value} (h:PtAt u p cs) (k n:Nat) (hk:k + n ≤ cs.length):PtAt u (p.add k) ((cs.drop k).take n):=by
 obtain ⟨g,off,c,e,fr,rfl,hh,hc⟩:=h
 refine ⟨g,off + k,c,e,fr,add_none g off k,hh,?_⟩
 have hl:((cs.drop k).take n).length = n:=by simp; omega
 rw [hl]
 conv=>rhs; rw [← hc]
 rw [List.drop_take,List.take_take,List.drop_drop]
 congr 1
 omega
theorem PtAt.cell {u:World} {p:Addr} {cs:List Value} (h:PtAt u p cs):∀ j v,cs[j]? = some v → u.cell? (p.add j) = some v:=by
 intro j v hv
 obtain ⟨g,off,c,e,fr,rfl,hh,hc⟩:=h
 rw [add_none,cell_of_row u g _ c e fr hh]
 rw [← hc,List.getElem?_take,List.getElem?_drop] at hv
 split at hv
 · simpa using hv
 · simp at hv
def bx (u:World) (b:Nat) (cs:List Value) (e:TypeId):Prop:=u.heap[b]? = some (.cells cs.toArray e (0,0))
theorem bx.pt {u:World} {b:Nat} {cs:List Value} {e:TypeId} (h:bx u b cs e):PtAt u ⟨b,0,none⟩ cs:=⟨b,0,_,e,_,rfl,h,by simp⟩
theorem bx.agr {u w:World} {b:Nat} {cs:List Value} {e:TypeId} (h:bx u b cs e) {F:List Nat} (hA:Agr F u w) (hb:b ∈ F):bx w b cs e:=(hA b hb).trans h
def eAddr (v:Value) (sz:Nat) (i:Nat):Addr:=match v with
 | .slice (some a) _ _=>a.add (i * sz)
 | _=>default
theorem rdL_get {α:Type} [Enc α] {w:World} {F:List Nat}:∀ {xs:List α} {cells:List Value} {i:Nat} {x:α},rdL w F cells xs → xs[i]? = some x →
    ∃ G,(∀ b ∈ G,b ∈ F) ∧ rd w G ((cells.drop (i * Enc.sz α)).take (Enc.sz α)) x
 | [],_,i,x,_,h=>by simp at h
 | y :: ys,cells,0,x,⟨⟨G,hG,h⟩,_⟩,hx=>by
  simp only [List.getElem?_cons_zero,Option.some.injEq] at hx
  subst hx
  exact ⟨G,hG,by simpa using h⟩
 | y :: ys,cells,i + 1,x,⟨_,h'⟩,hx=>by
  obtain ⟨G,hG,h⟩:=rdL_get h' (by simpa using hx)
  refine ⟨G,hG,?_⟩
  rw [List.drop_drop] at h
  rw [show (i + 1) * Enc.sz α = Enc.sz α + i * Enc.sz α by rw [Nat.add_mul]; omega]
  exact h
theorem rd_get {α:Type} [Enc α] {w:World} {F:List Nat} {v:Value} {xs:List α} {i:Nat} {x:α} (h:rd w F [v] xs) (hx:xs[i]? = some x) :
    ∃ G cells,(∀ b ∈ G,b ∈ F) ∧ rd w G cells x ∧ PtAt w (eAddr v (Enc.sz α) i) cells ∧ (eAddr v (Enc.sz α) i).block ∈ F:=by
 obtain ⟨ao,cap,hv,h1,h2,h3,h4⟩:=h
 simp only [List.cons.injEq,and_true] at hv
 subst hv
 rcases h4 with rfl | ⟨g,off,c,e,fr,rfl,hg,hh,hl⟩
 · simp at hx
 · obtain ⟨G,hG,hr⟩:=rdL_get hl hx
   refine ⟨G,_,hG,hr,?_,?_⟩
   · simp only [eAddr,add_none]
     refine ⟨g,_,c,e,fr,rfl,hh,?_⟩
     have:=Enc.rd_sz hr
     rw [this,List.drop_drop]
   · simpa [eAddr,add_none] using hg
theorem rd_getF {α:Type} [Flat α] {w:World} {F:List Nat} {v:Value} {xs:List α} {i:Nat} {x:α} (h:rd w F [v] xs) (hx:xs[i]? = some x) :
    PtAt w (eAddr v (Flat.sz α) i) (Flat.e x) ∧ (eAddr v (Flat.sz α) i).block ∈ F:=by
 obtain ⟨G,cells,_,hr,hp,hb⟩:=rd_get h hx
 have hr':G = [] ∧ cells = Flat.e x:=hr
 rw [hr'.2] at hp
 exact ⟨hp,hb⟩
theorem rd_slice {α:Type} [Enc α] {w:World} {F:List Nat} {v:Value} {xs:List α} (h:rd w F [v] xs):∃ ao cap,v = .slice ao xs.length cap ∧ xs.length ≤ cap ∧ cap ≤ maxLen:=by
 obtain ⟨ao,cap,hv,h1,h2,_⟩:=h
 simp only [List.cons.injEq,and_true] at hv
 exact ⟨ao,cap,hv,h1,h2⟩
end Go.Proofs.YtcboeijpplllfaaGreat
