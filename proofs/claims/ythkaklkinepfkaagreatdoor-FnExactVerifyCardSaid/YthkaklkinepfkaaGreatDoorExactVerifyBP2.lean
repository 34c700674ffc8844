/- ExactVerifyBP: plain lemmas, part 2. -/
import Derived.Test.YthkaklkinepfkaaGreatDoorExactVerifyBP1
set_option linter.unusedSimpArgs false
set_option linter.unusedVariables false
namespace Go.Proofs.YthkaklkinepfkaaGreatDoor
open Go
open Enc (rd ow)
open Arg (argv)
open Ret (retv)
open Wf (wf)
theorem s_has {fu:Nat} {l:List Int} (hl:l.length ≤ 1048576) (hf:l.length < fu) (x:Int):d_spec_l1Has fu l x = some (l.contains x):=by
 unfold d_spec_l1Has
 refine lp l (fun n (_:Unit) i=>d_spec_l1Has_L1 fu l x n i) (fun l _=>some (l.contains x)) (by omega) ?_ ?_ fu () hf
 · intro n s i y ys hy hd ih
   simp only [d_spec_l1Has_L1.eq_2]
   unfold d_spec_l1Has_L1_B
   simp only [hd,cond_true,hy,ob_some,ih (),List.contains_cons]
   rw [ibeq y x]
   cases x == y <;> rfl
 · intro n s i hd
   simp only [d_spec_l1Has_L1.eq_2]
   unfold d_spec_l1Has_L1_B
   simp only [hd,cond_false]
   rfl
theorem i_has {fu:Nat} {l:List Int} (hl:l.length ≤ 1048576) (hf:l.length < fu) (x:Int):d_slices_Contains_int_int fu l x = some (l.contains x):=by
 unfold d_slices_Contains_int_int d_slices_Index_int_int
 have:=idx_loop l (fun n i=>d_slices_Index_int_int_L1 fu l x n i) (fun y=>x == y) (by omega) (by
  intro n i y hx hd
  simp only [d_slices_Index_int_int_L1.eq_2]
  unfold d_slices_Index_int_int_L1_B
  simp only [hd,cond_true,hx,ob_some]) (by
  intro n i hd
  simp only [d_slices_Index_int_int_L1.eq_2]
  unfold d_slices_Index_int_int_L1_B
  simp only [hd,cond_false]) fu hf
 rw [this,ob_some,fndI_any _ l 0 (by omega),List.contains_eq_any_beq]
theorem s_join {fu:Nat} {p:List Pair} (hp:p.length ≤ 1048576) (hpf:p.length < fu) {g:List Int} (hl:g.length ≤ 1048576) (hf:g.length < fu) (c:Int):d_spec_l3Joins fu p g c = some (g.all (mutB p c)):=by
 unfold d_spec_l3Joins
 refine lp g (fun n (_:Unit) i=>d_spec_l3Joins_L1 fu p g c n i) (fun l _=>some (l.all (mutB p c))) (by omega) ?_ ?_ fu () hf
 · intro n s i y ys hy hd ih
   simp only [d_spec_l3Joins_L1.eq_2]
   unfold d_spec_l3Joins_L1_B d_spec_l3Joins_J1
   simp only [hd,cond_true,hy,ob_some,ih (),s_bes hp hpf,List.all_cons,mutB]
   cases besB p y c <;> cases besB p c y <;> rfl
 · intro n s i hd
   simp only [d_spec_l3Joins_L1.eq_2]
   unfold d_spec_l3Joins_L1_B
   simp only [hd,cond_false]
   rfl
theorem s_prs {fu:Nat} {r:Request} (h:Sm fu r):d_spec_Present fu r = some (prsM r):=by
 have hfu:=h.fu
 have h1:=h.items
 unfold d_spec_Present prsM
 rw [s_cls h,ob_some]
 by_cases hc:clsM r = 0
 · rw [show (clsM r != 0) = false by simp [hc],show (clsM r == 0) = true by simp [hc],cond_false,cond_true]
   have e27:∀ (k:List Int → Int → Option (List Int)) (out:List Int) (c:Int),d_spec_Present_L1 fu k r out c fu false 0 = bif r.fItems.any (fun x=>x.fClass == c) then (obind (apnd 8 out [c]) fun x=>k x (w64 (c + 1))) else k out (w64 (c + 1)):=by
    intro k out c
    refine lp r.fItems (fun n f i=>d_spec_Present_L1 fu k r out c n f i) (fun l f=>bif f || l.any (fun x=>x.fClass == c) then (obind (apnd 8 out [c]) fun x=>k x (w64 (c + 1))) else k out (w64 (c + 1))) (by omega) ?_ ?_ fu false (by omega)
    · intro n f i x xs hx hd ih
      simp only [d_spec_Present_L1.eq_2]
      unfold d_spec_Present_L1_B d_spec_Present_J2
      simp only [hd,cond_true,hx,ob_some,ih,List.any_cons]
      cases f
      · rfl
      · rfl
    · intro n f i hd
      simp only [d_spec_Present_L1.eq_2]
      unfold d_spec_Present_L1_B d_spec_Present_J1
      simp only [hd,cond_false,List.any_nil,Bool.or_false]
   have:=lpNI 4 (fun n out i=>d_spec_Present_L2 fu r n out i) (fun xs out=>some (out ++ xs.filter fun c=>r.fItems.any fun x=>x.fClass == c)) (fun xs out=>out.length + xs.length ≤ 4) (by omega) ?_ ?_ 4 fu [] 0 (by omega) (by omega) (by omega) (by simp [ints])
   · simpa using this
   · intro n out i xs h0 h1 hd hI ih
     simp only [List.length_cons] at hI
     simp only [d_spec_Present_L2.eq_2]
     unfold d_spec_Present_L2_B
     simp only [hd,cond_true,e27]
     cases hb:r.fItems.any fun x=>x.fClass == i
     · rw [cond_false,ih out (by omega)]
       simp [hb]
     · rw [cond_true,ap1 (by simp; omega),ob_some,ih _ (by simp; omega)]
       simp [hb]
   · intro n out i hd hI
     simp only [d_spec_Present_L2.eq_2]
     unfold d_spec_Present_L2_B
     simp only [hd,cond_false]
     simp
 · rw [show (clsM r != 0) = true by simp [hc],show (clsM r == 0) = false by simp [hc],cond_false,cond_true]
theorem i_kinds {fu:Nat} {l:List Int} (hl:l.length ≤ 1048576):∃ k,d_impl_kinds fu l = some k ∧ k.Pairwise (· < ·) ∧ ∀ x,x ∈ k ↔ x ∈ l:=by
 unfold d_impl_kinds d_slices_Clone_int_int d_slices_Sort_int_int d_slices_Compact_int_int
 have hp:=List.mergeSort_perm l (fun x y=>decide (x ≤ y))
 have hs:=mergeSort_le l
 rw [ap1 (by simp; omega),ob_some,ob_some,List.nil_append]
 unfold sortI
 rw [if_pos (by omega),ob_some]
 unfold cmpI
 rw [if_pos (by rw [hp.length_eq]; omega),ob_some]
 obtain ⟨h1,h2⟩:=compact_sorted _ hs
 exact ⟨_,rfl,h1,fun x=>(h2 x).trans hp.mem_iff⟩
theorem i_kinds_sorted {fu:Nat} {l:List Int} (hl:l.length ≤ 1048576) (hs:l.Pairwise (· < ·)):d_impl_kinds fu l = some l:=by
 obtain ⟨k,h1,h2,h3⟩:=i_kinds (fu:=fu) hl
 rw [h1,lt_ext h2 hs h3]
theorem i_prs {fu:Nat} {r:Request} (h:Sm fu r):d_impl_Present fu r = some (prsM r):=by
 have hfu:=h.fu
 have h1:=h.items
 unfold d_impl_Present
 rw [i_sound h,ob_some]
 by_cases hc:clsM r = 0
 · rw [show (clsM r == 0) = true by simp [hc],Bool.not_true,cond_false]
   have:=lpI r.fItems (fun n out i=>d_impl_Present_L1 fu r n out i) (fun xs out=>obind (d_impl_kinds fu (out ++ xs.map (·.fClass))) fun x=>some x) (fun xs out=>out.length + xs.length ≤ 1048576) (by omega) ?_ ?_ fu [] (by simpa using h1) (by omega)
   · rw [List.nil_append] at this
     refine this.trans ?_
     obtain ⟨k,e1,e2,e3⟩:=i_kinds (fu:=fu) (l:=r.fItems.map (·.fClass)) (by simpa using h1)
     rw [e1,ob_some]
     congr 1
     refine lt_ext e2 (prsM_sorted r) fun x=>?_
     rw [e3]
     unfold prsM
     rw [show (clsM r == 0) = true by simp [hc],cond_true,List.mem_filter,ints_mem,List.any_eq_true,List.mem_map]
     constructor
     · rintro ⟨y,hy,rfl⟩
       have:=(bou_items (clsM_zero hc).1).1 y hy
       simp only [itmB,Bool.and_eq_true,inb_iff] at this
       exact ⟨by omega,y,hy,by simp⟩
     · rintro ⟨_,y,hy,e⟩
       exact ⟨y,hy,by simpa using e⟩
   · intro n out i x xs hx hd hI ih
     simp only [List.length_cons] at hI
     simp only [d_impl_Present_L1.eq_2]
     unfold d_impl_Present_L1_B
     simp only [hd,cond_true,hx,ob_some]
     rw [ap1 (by simp; omega),ob_some,ih _ (by simp; omega)]
     simp
   · intro n out i hd hI
     simp only [d_impl_Present_L1.eq_2]
     unfold d_impl_Present_L1_B
     simp only [hd,cond_false]
     simp
 · rw [show (clsM r == 0) = false by simp [hc],Bool.not_false,cond_true]
   unfold prsM
   rw [show (clsM r == 0) = false by simp [hc],cond_false]
theorem fstI_snoc {α:Type} (g:α → Bool) (x:α):∀ (l:List α),fstI g (l ++ [x]) = match fstI g l with | some i=>some i | none=>bif g x then some l.length else none
 | []=>by simp [fstI]
 | y :: ys=>by
  simp only [List.cons_append,fstI]
  cases g y
  · simp only [cond_false]
    rw [fstI_snoc g x ys]
    cases fstI g ys <;> simp
    cases g x <;> simp
  · rfl
def atB {α:Type} (g:α → Bool) (l:List α) (i:Int):Bool:=match ix l i with | some x=>g x | none=>false
def lasI {α:Type} (g:α → Bool) (l:List α) (a i:Int):Int:=bif atB g l i then i else a
theorem fold_down {α:Type} (g:α → Bool) (l:List α):∀ (m:Nat) (a:Int),m ≤ l.length → (down m).foldl (lasI g l) a = match fstI g (l.take m) with | some i=>(i:Int) | none=>a
 | 0,a,_=>by simp [down,fstI]
 | m + 1,a,h=>by
  simp only [down,List.foldl_cons]
  rw [fold_down g l m _ (by omega),List.take_succ_eq_append_getElem (by omega),fstI_snoc,List.length_take,Nat.min_eq_left (by omega)]
  unfold lasI atB
  rw [ix_i (by omega)]
  cases fstI g (l.take m) with
  | some i=>rfl
  | none =>
   simp only
   cases g l[m] <;> rfl
theorem fndI_fst {α:Type} (g:α → Bool):∀ (l:List α) (i:Int),fndI g l i = match fstI g l with | some j=>i + j | none=>-1
 | [],i=>rfl
 | x :: xs,i=>by
  simp only [fndI,fstI]
  cases g x
  · simp only [cond_false]
    rw [fndI_fst g xs (i + 1)]
    cases fstI g xs with
    | none=>rfl
    | some j =>
     show i + 1 + (j:Int) = i + ((j + 1:Nat):Int)
     omega
  · simp
theorem put_at {p:List Pair} {out:List (List Int)} {c:Int} {n:Nat} (h:okG n out) (hn:n ≤ 1048576) {β:Type} (k:List (List Int) → Option β) (a:Int) (ha:a = match fstI (fun g=>g.all (mutB p c)) out with | some i=>(i:Int) | none=>-1) :
    (bif (decide (a < 0)) then obind (apnd 24 out [([c]:List Int)]) fun x=>k x else obind (ix out a) fun x=>obind (apnd 8 x (([c]:List Int))) fun y=>obind (ix out a) fun z=>k (setx out a y)) = k (putG p out c):=by
 obtain ⟨h1,h2⟩:=h
 unfold putG
 cases hf:fstI (fun g=>g.all (mutB p c)) out with
 | none =>
  rw [hf] at ha
  simp only at ha
  subst ha
  rw [bif_true (by simp),ap1 (by simp; omega),ob_some]
 | some i =>
  rw [hf] at ha
  simp only at ha
  subst ha
  obtain ⟨x,hx,_⟩:=fstI_lt hf
  have:=h2 x (List.mem_of_getElem? hx)
  rw [bif_false (by simp),ix_nat,hx,ob_some,ap1 (by simp; omega),ob_some,ob_some]
  simp [setx,hx]
theorem s_grps {fu:Nat} {p:List Pair} (hp:p.length ≤ 1048576) (hfu:2097153 ≤ fu) {l:List Int} (hl:l.length ≤ 1048576):d_spec_Groups fu p l = some (((ints 0 4).filter l.contains).foldl (putG p) []):=by
 unfold d_spec_Groups
 have e27:∀ (k:List (List Int) → Int → Option (List (List Int))) (out:List (List Int)) (c:Int),okG 4 out → d_spec_Groups_L1 fu k p out c fu (-1) (w64 ((out.length:Int) - 1)) = k (putG p out c) (w64 (c + 1)):=by
  intro k out c ho
  obtain ⟨R,hR⟩:∃ R:Int → Option (List (List Int)),R = fun a=>bif (decide (a < 0)) then obind (apnd 24 out [([c]:List Int)]) fun x=>k x (w64 (c + 1)) else obind (ix out a) fun x=>obind (apnd 8 x (([c]:List Int))) fun y=>obind (ix out a) fun z=>k (setx out a y) (w64 (c + 1)):=⟨_,rfl⟩
  have:=lpD out.length (fun n a i=>d_spec_Groups_L1 fu k p out c n a i) (fun xs a=>R (xs.foldl (lasI (fun g=>g.all (mutB p c)) out) a)) (by have:=ho.1; omega) ?_ ?_ fu (-1) (by have:=ho.1; omega)
  · rw [this,hR]
    refine put_at (p:=p) ho (by omega) (fun x=>k x (w64 (c + 1))) _ ?_
    rw [fold_down (fun g=>g.all (mutB p c)) out out.length (-1) (Nat.le_refl _),List.take_length]
  · intro n a i xs h0 h1 hd ih
    simp only [d_spec_Groups_L1.eq_2]
    unfold d_spec_Groups_L1_B d_spec_Groups_J2
    obtain ⟨j,rfl⟩:∃ j:Nat,i = j:=⟨i.toNat,by omega⟩
    have hj:j < out.length:=by omega
    have hg:=ho.2 _ (List.getElem_mem hj)
    simp only [hd,cond_true,ix_i hj,ob_some,s_join hp (by omega) (show out[j].length ≤ 1048576 by omega) (show out[j].length < fu by omega),ih,List.foldl_cons]
    have e:lasI (fun g=>g.all (mutB p c)) out a (j:Int) = bif out[j].all (mutB p c) then (j:Int) else a:=by unfold lasI atB; rw [ix_i hj]
    rw [e]
    cases out[j].all (mutB p c) <;> rfl
  · intro n a i hd
    simp only [d_spec_Groups_L1.eq_2]
    unfold d_spec_Groups_L1_B d_spec_Groups_J1
    simp only [hd,cond_false,List.foldl_nil,hR]
 have:=lpNI 4 (fun n out i=>d_spec_Groups_L2 fu p l n out i) (fun xs out=>some ((xs.filter l.contains).foldl (putG p) out)) (fun xs out=>∃ m,m + xs.length ≤ 4 ∧ okG m out) (by omega) ?_ ?_ 4 fu [] 0 (by omega) (by omega) (by omega) ⟨0,by simp [ints],by simp,by simp⟩
 · exact this
 · intro n out i xs h0 h1 hd hI ih
   obtain ⟨m,hm,ho⟩:=hI
   simp only [List.length_cons] at hm
   simp only [d_spec_Groups_L2.eq_2]
   unfold d_spec_Groups_L2_B d_spec_Groups_J1
   simp only [hd,cond_true,s_has hl (show l.length < fu by omega),ob_some]
   cases hb:l.contains i
   · rw [Bool.not_false,cond_true,ih out ⟨m,by omega,ho⟩,List.filter_cons_of_neg (by rw [hb]; simp)]
   · rw [Bool.not_true,cond_false,e27 _ out i ⟨by have:=ho.1; omega,fun g hg=>by have:=ho.2 g hg; omega⟩,ih _ ⟨m + 1,by omega,putG_ok i ho⟩,List.filter_cons_of_pos hb,List.foldl_cons]
 · intro n out i hd hI
   simp only [d_spec_Groups_L2.eq_2]
   unfold d_spec_Groups_L2_B
   simp only [hd,cond_false]
   simp
theorem filter_prs (r:Request):(ints 0 4).filter (prsM r).contains = prsM r :=
 lt_ext ((ints_lt 0 4).filter _) (prsM_sorted r) fun x=>by
  rw [List.mem_filter,ints_mem]
  constructor
  · rintro ⟨_,h⟩; simpa using h
  · intro h; have:=prsM_mem h; exact ⟨by omega,by simpa using h⟩
theorem s_grp {fu:Nat} {r:Request} (h:Sm fu r):d_spec_GroupsOf fu r = some (grpM r):=by
 unfold d_spec_GroupsOf grpM
 rw [s_prs h,ob_some,s_grps h.pairs h.fu (by have:=prsM_len r; omega),ob_some,filter_prs]
theorem i_mut {fu:Nat} {p:List Pair} (hp:p.length ≤ 1048576) (hpf:p.length < fu) (a b:Int):d_impl_mutual fu p a b = some (mutB p a b):=by
 unfold d_impl_mutual mutB
 simp only [i_bes hp hpf,ob_some]
 cases besB p a b <;> rfl
theorem i_idxInt {fu:Nat} {l:List Int} (f:Int → Option Bool) (g:Int → Bool) (hg:∀ x ∈ l,f x = some (g x)) (hl:l.length ≤ 1048576) (hf:l.length < fu):d_slices_IndexFunc_int_int fu l f = some (fndI g l 0):=by
 unfold d_slices_IndexFunc_int_int
 refine idx_loop l (fun n i=>d_slices_IndexFunc_int_int_L1 fu l f n i) g (by omega) ?_ ?_ fu hf
 · intro n i x hx hd
   simp only [d_slices_IndexFunc_int_int_L1.eq_2]
   unfold d_slices_IndexFunc_int_int_L1_B
   simp only [hd,cond_true,hx,ob_some,hg x (ix_mem hx)]
 · intro n i hd
   simp only [d_slices_IndexFunc_int_int_L1.eq_2]
   unfold d_slices_IndexFunc_int_int_L1_B
   simp only [hd,cond_false]
theorem i_anyInt {fu:Nat} {l:List Int} (f:Int → Option Bool) (g:Int → Bool) (hg:∀ x ∈ l,f x = some (g x)) (hl:l.length ≤ 1048576) (hf:l.length < fu):d_slices_ContainsFunc_int_int fu l f = some (l.any g):=by
 unfold d_slices_ContainsFunc_int_int
 rw [i_idxInt f g hg hl hf,ob_some,fndI_any g l 0 (by omega)]
theorem i_idxInts {fu:Nat} {l:List (List Int)} (f:List Int → Option Bool) (g:List Int → Bool) (hg:∀ x ∈ l,f x = some (g x)) (hl:l.length ≤ 1048576) (hf:l.length < fu):d_slices_IndexFunc_ints_int fu l f = some (fndI g l 0):=by
 unfold d_slices_IndexFunc_ints_int
 refine idx_loop l (fun n i=>d_slices_IndexFunc_ints_int_L1 fu l f n i) g (by omega) ?_ ?_ fu hf
 · intro n i x hx hd
   simp only [d_slices_IndexFunc_ints_int_L1.eq_2]
   unfold d_slices_IndexFunc_ints_int_L1_B
   simp only [hd,cond_true,hx,ob_some,hg x (ix_mem hx)]
 · intro n i hd
   simp only [d_slices_IndexFunc_ints_int_L1.eq_2]
   unfold d_slices_IndexFunc_ints_int_L1_B
   simp only [hd,cond_false]
theorem i_grps {fu:Nat} {p:List Pair} (hp:p.length ≤ 1048576) (hfu:2097153 ≤ fu) {l:List Int} (hl:l.length ≤ 4) (hs:l.Pairwise (· < ·)) (hm:∀ c ∈ l,0 ≤ c ∧ c < 4):d_impl_Groups fu p l = some (l.foldl (putG p) []):=by
 unfold d_impl_Groups
 rw [i_kinds_sorted (by omega) hs,ob_some]
 have:=lpI l (fun n out i=>d_impl_Groups_L1 fu p l n out i) (fun xs out=>some (xs.foldl (putG p) out)) (fun xs out=>(∃ m,m + xs.length ≤ 4 ∧ okG m out) ∧ ∀ c ∈ xs,0 ≤ c ∧ c < 4) (by omega) ?_ ?_ fu [] ⟨⟨0,by simpa using hl,by simp,by simp⟩,hm⟩ (by omega)
 · exact this
 · intro n out i c xs hx hd hI ih
   obtain ⟨⟨m,hm,ho⟩,hc⟩:=hI
   simp only [List.length_cons] at hm
   have hc0:=hc c (by simp)
   simp only [d_impl_Groups_L1.eq_2]
   unfold d_impl_Groups_L1_B d_impl_Groups_J1
   simp only [hd,cond_true,hx,ob_some,i_in]
   rw [show inb c 0 3 = true by simp; omega,Bool.not_true,cond_false]
   rw [i_idxInts (fun y=>d_impl_Groups_1 fu y p c) (fun g=>g.all (mutB p c)) (fun g hg=>by
    have hgl:=ho.2 g hg
    unfold d_impl_Groups_1
    rw [i_anyInt (fun y=>d_impl_Groups_1_1 fu y p c) (fun x=>!mutB p c x) (fun x _=>by
     unfold d_impl_Groups_1_1
     rw [i_mut hp (by omega),ob_some]) (by omega) (by omega),ob_some]
    simp [List.any_eq_not_all_not]) (by have:=ho.1; omega) (by have:=ho.1; omega),ob_some]
   rw [put_at (p:=p) ho (by omega) (fun x=>d_impl_Groups_L1 fu p l n x (w64 (i + 1))) (fndI (fun g=>g.all (mutB p c)) out 0) (by
    rw [fndI_fst]
    cases fstI (fun g=>g.all (mutB p c)) out <;> simp)]
   rw [ih _ ⟨⟨m + 1,by omega,putG_ok c ho⟩,fun y hy=>hc y (by simp [hy])⟩]
   rfl
 · intro n out i hd hI
   simp only [d_impl_Groups_L1.eq_2]
   unfold d_impl_Groups_L1_B
   simp only [hd,cond_false]
   rfl
theorem i_grp {fu:Nat} {r:Request} (h:Sm fu r):d_impl_GroupsOf fu r = some (grpM r):=by
 unfold d_impl_GroupsOf
 rw [i_sound h,ob_some]
 by_cases hc:clsM r = 0
 · rw [show (clsM r == 0) = true by simp [hc],Bool.not_true,cond_false,i_prs h,ob_some,i_grps h.pairs h.fu (prsM_len r) (prsM_sorted r) (fun c hc=>prsM_mem hc),ob_some]
   rfl
 · rw [show (clsM r == 0) = false by simp [hc],Bool.not_false,cond_true]
   unfold grpM prsM
   rw [show (clsM r == 0) = false by simp [hc],cond_false]
   rfl
theorem vol_cons (r:Request) (x:Int) (xs:List Int):volM r (x :: xs) = volI (itmZ r x) + volM r xs:=by
 unfold volM itsM itmZ
 cases hm:itmM r x with
 | none=>simp [List.filterMap_cons,hm,vol_zero]
 | some y=>simp [List.filterMap_cons,hm]
theorem grm_cons (r:Request) (x:Int) (xs:List Int):grmM r (x :: xs) = (itmZ r x).fGram + grmM r xs:=by
 unfold grmM itsM itmZ
 cases hm:itmM r x with
 | none=>simp [List.filterMap_cons,hm,zItem]
 | some y=>simp [List.filterMap_cons,hm]
theorem s_l7Of {fu:Nat} (r:Request) (us:List Int) (hl:us.length ≤ 1048576) (hf:us.length < fu):d_spec_l7Of fu r (untM r) us = some ⟨volM r us,grmM r us⟩:=by
 unfold d_spec_l7Of
 have key:=lpI us (fun n s i=>d_spec_l7Of_L1 fu r (untM r) us n s i) (fun l s=>some (⟨s.fvol + volM r l,s.fgram + grmM r l⟩:L7))
  (fun l s=>0 ≤ s.fvol ∧ s.fvol + 8000000000 * l.length ≤ 8000000000 * 1048576 ∧ 0 ≤ s.fgram ∧ s.fgram + 100000 * l.length ≤ 100000 * 1048576) (by omega) ?_ ?_ fu ⟨0,0⟩ ⟨by simp,by simp; omega,by simp,by simp; omega⟩ hf
 · simpa using key
 · intro n s i x xs hx hd hI ih
   simp only [d_spec_l7Of_L1.eq_2]
   unfold d_spec_l7Of_L1_B d_spec_l7Of_J2 d_spec_l7Of_J1
   simp only [hd,cond_true,hx,ob_some,s_item,s_vol]
   have hv:=volB_nn (itmZ r x).fW (itmZ r x).fH (itmZ r x).fD
   have hg:=itmZ_gram r x
   obtain ⟨a1,a2,a3,a4⟩:=hI
   simp only [List.length_cons] at a2 a4
   rw [w64_id (n:=s.fvol + _) (by omega) (by omega),w64_id (n:=s.fgram + _) (by omega) (by omega),ih _ ⟨by simp; omega,by simp; omega,by simp; omega,by simp; omega⟩,vol_cons,grm_cons,show volB (itmZ r x).fW (itmZ r x).fH (itmZ r x).fD = volI (itmZ r x) from rfl]
   simp only [Option.some.injEq,L7.mk.injEq]
   constructor <;> omega
 · intro n s i hd _
   simp only [d_spec_l7Of_L1.eq_2]
   unfold d_spec_l7Of_L1_B
   simp only [hd,cond_false]
   simp [volM,grmM,itsM]
def witB (r:Request) (us:List Int) (t:Typ):Bool:=decide (volM r us ≤ volT t) && decide (grmM r us ≤ t.fGram)
theorem i_within {fu:Nat} {r:Request} (h:Sm fu r) (t:Typ) (us:List Int) (hl:us.length ≤ 1048576):d_impl_within fu r us t = some (witB r us t):=by
 have hfu:=h.fu
 unfold d_impl_within witB
 rw [i_volOf h us hl (by omega),ob_some,i_vol,ob_some,i_grm h us hl (by omega)]
 show (bif decide (volM r us ≤ volT t) then _ else _) = _
 cases decide (volM r us ≤ volT t) <;> simp
theorem i_places {fu:Nat} (n:Nat) (hn:n ≤ 1048576) (hf:n < fu):d_impl_places fu (n:Int) = some (ints 0 n):=by
 unfold d_impl_places
 have:=lpNI (n:Int) (fun k out i=>d_impl_places_L1 fu (n:Int) k out i) (fun xs out=>some (out ++ xs)) (fun xs out=>out.length + xs.length ≤ 1048576) (by omega) ?_ ?_ n fu [] 0 (by omega) (by omega) hf (by simpa [ints_len] using hn)
 · simpa using this
 · intro k out i xs h0 h1 hd hI ih
   simp only [List.length_cons] at hI
   simp only [d_impl_places_L1.eq_2]
   unfold d_impl_places_L1_B
   rw [hd,cond_true,ap1 (by simp; omega),ob_some,ih _ (by simp; omega)]
   simp
 · intro k out i hd hI
   simp only [d_impl_places_L1.eq_2]
   unfold d_impl_places_L1_B
   simp only [hd,cond_false]
   simp
theorem fnd_pre {α:Type} (g:α → Bool):∀ (l pre:List α),(fndI g l pre.length = -1 ∧ ∀ x ∈ l,g x = false) ∨ (∃ a x b,l = a ++ x :: b ∧ (∀ y ∈ a,g y = false) ∧ g x = true ∧ fndI g l pre.length = ((pre.length + a.length:Nat):Int))
 | [],pre=>.inl ⟨rfl,by simp⟩
 | x :: xs,pre=>by
  simp only [fndI]
  by_cases hx:g x = true
  · rw [hx,cond_true]; exact .inr ⟨[],x,xs,rfl,by simp,hx,by simp⟩
  · have hx':g x = false:=by simpa using hx
    rw [hx',cond_false]
    have:=fnd_pre g xs (pre ++ [x])
    simp only [List.length_append,List.length_singleton] at this
    rw [show ((pre.length + 1:Nat):Int) = (pre.length:Int) + 1 by omega] at this
    rcases this with ⟨h1,h2⟩ | ⟨a,y,b,h1,h2,h3,h4⟩
    · exact .inl ⟨h1,by simpa [hx'] using h2⟩
    · exact .inr ⟨x :: a,y,b,by simp [h1],by simpa [hx'] using h2,h3,by rw [h4]; simp; omega⟩
theorem i_del {fu:Nat} {l:List Int} (f:Int → Option Bool) (g:Int → Bool) (hg:∀ x ∈ l,f x = some (g x)) (hl:l.length ≤ 1048576) (hf:l.length < fu):d_slices_DeleteFunc_int_int fu l f = some (l.filter fun x=>!g x):=by
 unfold d_slices_DeleteFunc_int_int
 rw [i_idxInt f g hg hl hf,ob_some]
 have hp:=fnd_pre g l []
 simp only [List.length_nil,Nat.zero_add] at hp
 rcases hp with ⟨h1,h2⟩ | ⟨a,x,b,h1,h2,h3,h4⟩
 · have h1':fndI g l 0 = -1:=h1
   rw [h1',bif_true (by simp)]
   congr 1
   exact (List.filter_eq_self.2 fun y hy=>by simp [h2 y hy]).symm
 · have h4':fndI g l 0 = (a.length:Int):=h4
   rw [h4',bif_false (by simp)]
   have key:∀ (rest kept mid pre:List Int) (n:Nat),l = pre ++ rest → kept = pre.filter (fun x=>!g x) → mid ≠ [] → kept.length + mid.length = pre.length → rest.length < n →
       d_slices_DeleteFunc_int_int_L1 fu f n (kept ++ mid ++ rest) (kept.length:Int) (pre.length:Int) = some (l.filter fun x=>!g x):=by
    intro rest
    induction rest with
    | nil =>
     intro kept mid pre n e1 e2 e3 e4 hn
     obtain ⟨n,rfl⟩:∃ j,n = j + 1:=⟨n - 1,by omega⟩
     rw [d_slices_DeleteFunc_int_int_L1.eq_2]
     unfold d_slices_DeleteFunc_int_int_L1_B
     simp only [List.append_nil] at *
     subst e1
     rw [bif_false (by simp; omega),sls_some ⟨by omega,by simp; omega,by omega⟩,ob_some,sls_some ⟨by omega,by omega,by simp [clrd]; omega⟩,ob_some]
     rw [← e2]
     simp [clrd]
    | cons y rest ih =>
     intro kept mid pre n e1 e2 e3 e4 hn
     obtain ⟨n,rfl⟩:∃ j,n = j + 1:=⟨n - 1,by simp at hn; omega⟩
     have hlen:l.length = pre.length + (rest.length + 1):=by rw [e1]; simp
     have hyl:y ∈ l:=by rw [e1]; simp
     obtain ⟨m,ms,rfl⟩:∃ m ms,mid = m :: ms:=by
      cases mid with
      | nil=>exact absurd rfl e3
      | cons m ms=>exact ⟨m,ms,rfl⟩
     simp only [List.length_cons] at e4 hn
     have hx:ix (kept ++ (m :: ms) ++ y :: rest) (pre.length:Int) = some y:=by
      rw [ix_nat,List.getElem?_append_right (by simp; omega)]
      simp only [List.length_append,List.length_cons]
      rw [show pre.length - (kept.length + (ms.length + 1)) = 0 by omega]; rfl
     have hk:ix (kept ++ (m :: ms) ++ y :: rest) (kept.length:Int) = some m:=by
      rw [ix_nat]; simp
     rw [d_slices_DeleteFunc_int_int_L1.eq_2]
     unfold d_slices_DeleteFunc_int_int_L1_B d_slices_DeleteFunc_int_int_J1
     rw [bif_true (by simp; omega),hx,ob_some,hg y hyl,ob_some]
     cases hgy:g y
     · rw [Bool.not_false,cond_true,hk,ob_some,w64_s _ (by omega),w64_s _ (by omega)]
       have e5:setx (kept ++ (m :: ms) ++ y :: rest) (kept.length:Int) y = (kept ++ [y]) ++ (ms ++ [y]) ++ rest:=by simp [setx]
       rw [e5]
       have:=ih (kept ++ [y]) (ms ++ [y]) (pre ++ [y]) n (by simp [e1]) (by rw [e2,List.filter_append]; simp [hgy]) (by simp) (by simp; omega) (by omega)
       simp only [List.length_append,List.length_singleton] at this
       exact this
     · rw [Bool.not_true,cond_false,w64_s _ (by omega)]
       have:=ih kept ((m :: ms) ++ [y]) (pre ++ [y]) n (by simp [e1]) (by rw [e2,List.filter_append]; simp [hgy]) (by simp) (by simp; omega) (by omega)
       simp only [List.length_append,List.length_singleton] at this
       rw [show kept ++ (m :: ms) ++ y :: rest = kept ++ ((m :: ms) ++ [y]) ++ rest by simp]
       exact this
   have hlen:l.length = a.length + (b.length + 1):=by rw [h1]; simp
   have ha:a.filter (fun x=>!g x) = a:=List.filter_eq_self.2 fun y hy=>by simp [h2 y hy]
   have:=key b a [x] (a ++ [x]) fu (by simp [h1]) (by rw [List.filter_append,ha]; simp [h3]) (by simp) (by simp) (by omega)
   rw [w64_s _ (by omega)]
   simp only [List.length_append,List.length_singleton] at this
   rw [show a ++ [x] ++ b = l by simp [h1]] at this
   exact this
theorem s_bit (fu:Nat) (b:Bool):d_spec_l1Bit fu b = some (bitI b):=by cases b <;> rfl
theorem s_tim {fu:Nat} {l:List Int} (hl:l.length ≤ 1048576) (hf:l.length < fu) (x:Int):d_spec_l8Times fu l x = some (cntB (fun y=>y == x) l):=by
 unfold d_spec_l8Times
 have:=lpI l (fun n s i=>d_spec_l8Times_L1 fu l x n s i) (fun l n=>some (n + cntB (fun y=>y == x) l)) (fun l n=>0 ≤ n ∧ n + l.length ≤ 1048576) (by omega) ?_ ?_ fu 0 ⟨by omega,by omega⟩ hf
 · simpa using this
 · intro n s i y ys hy hd hI ih
   have h2:=hI.2
   simp only [List.length_cons] at h2
   have hb:=bitI_bd (y == x)
   simp only [d_spec_l8Times_L1.eq_2]
   unfold d_spec_l8Times_L1_B
   simp only [hd,cond_true,hy,ob_some,s_bit]
   rw [w64_id (by omega) (by omega),ih _ ⟨by omega,by omega⟩]
   simp only [cntB]
   congr 1
   omega
 · intro n s i hd hI
   simp only [d_spec_l8Times_L1.eq_2]
   unfold d_spec_l8Times_L1_B
   simp only [hd,cond_false,cntB]
   simp
theorem cnt_count (l:List Int) (x:Int):cntB (fun y=>y == x) l = (l.count x:Int):=by
 induction l with
 | nil=>rfl
 | cons y l ih =>
  unfold cntB bitI
  rw [ih,List.count_cons]
  cases hy:y == x <;> simp [hy] <;> omega
def thrM (r:Request) (us:List Int):List Int:=us.filter fun u=>inb u 0 (((untM r).length:Int) - 1)
def perB (a b:List Int):Bool:=decide ((a.mergeSort fun x y=>decide (x ≤ y)) = b.mergeSort fun x y=>decide (x ≤ y))
theorem perB_iff {a b:List Int}:perB a b = true ↔ a.Perm b:=by
 unfold perB
 rw [decide_eq_true_iff]
 constructor
 · intro h
   have h1:=List.mergeSort_perm a fun x y=>decide (x ≤ y)
   rw [h] at h1
   exact h1.symm.trans (List.mergeSort_perm b _)
 · intro h
   exact le_uniq (((List.mergeSort_perm a _).trans h).trans (List.mergeSort_perm b _).symm) (mergeSort_le a) (mergeSort_le b)
theorem perm_cnt:∀ (a b:List Int),a.length = b.length → (∀ x ∈ a,a.count x = b.count x) → a.Perm b
 | [],b,h,_=>by
  have:b = []:=List.eq_nil_of_length_eq_zero h.symm
  subst this
  exact List.Perm.refl _
 | x :: a,b,h,hc=>by
  have hx:=hc x (by simp)
  rw [List.count_cons_self] at hx
  have hm:x ∈ b:=List.count_pos_iff.1 (by omega)
  have hp:=List.perm_cons_erase hm
  refine List.Perm.trans (List.Perm.cons x (perm_cnt a (b.erase x) ?_ ?_)) hp.symm
  · have:=hp.length_eq
    simp only [List.length_cons] at this h
    omega
  · intro y hy
    have h1:=hc y (by simp [hy])
    have h2:=hp.count_eq y
    rw [List.count_cons] at h1 h2
    omega
theorem i_there {fu:Nat} {r:Request} (h:Sm fu r) (us:List Int) (hl:us.length ≤ 1048576):d_impl_thereOf fu r us = some (thrM r us):=by
 have hfu:=h.fu
 unfold d_impl_thereOf d_slices_Clone_int_int thrM
 rw [i_unt h,ob_some,ap1 (by simp; omega),ob_some,ob_some,List.nil_append,i_del _ (fun u=>!inb u 0 (((untM r).length:Int) - 1)) ?_ hl (by omega),ob_some]
 · simp
 · intro u _
   unfold d_impl_thereOf_1
   rw [w64_len,i_in,ob_some]
theorem zip_all:∀ (a b:List Int),a.length = b.length → ((a.zip b).all fun p=>p.1 == p.2) = decide (a = b)
 | [],[],_=>rfl
 | [],_ :: _,h=>by simp at h
 | _ :: _,[],h=>by simp at h
 | x :: a,y :: b,h=>by
  rw [List.zip_cons_cons,List.all_cons,zip_all a b (by simpa using h)]
  by_cases hx:x = y <;> simp [hx]
theorem i_equal {fu:Nat} (a b:List Int) (hl:a.length ≤ 1048576) (hf:a.length < fu):d_slices_Equal_int_int fu a b = some (decide (a = b)):=by
 unfold d_slices_Equal_int_int
 by_cases h:a.length = b.length
 · rw [bif_false (by simp [h])]
   have hz:(a.zip b).length = a.length:=by rw [List.length_zip]; omega
   have:=lp (a.zip b) (fun n (_:Unit) i=>d_slices_Equal_int_int_L1 fu a b n i) (fun l _=>some (l.all fun p=>p.1 == p.2)) (by omega) ?_ ?_ fu () (by omega)
   · rw [zip_all a b h] at this
     exact this
   · intro n _ i p xs hp hd ih
     obtain ⟨h1,_,h2⟩:=ix_some hp
     rw [List.getElem?_zip_eq_some] at h2
     rw [hz] at hd
     have e1:ix a i = some p.1:=by unfold ix; rw [if_pos h1]; exact h2.1
     have e2:ix b i = some p.2:=by unfold ix; rw [if_pos h1]; exact h2.2
     simp only [d_slices_Equal_int_int_L1.eq_2]
     unfold d_slices_Equal_int_int_L1_B
     rw [hd,cond_true,e1,ob_some,e2,ob_some,ih (),List.all_cons]
     by_cases hx:p.1 = p.2
     · rw [bif_false (by simp [hx])]; simp [hx]
     · rw [bif_true (by simpa using hx)]; simp [hx]
   · intro n _ i hd
     rw [hz] at hd
     simp only [d_slices_Equal_int_int_L1.eq_2]
     unfold d_slices_Equal_int_int_L1_B
     simp [hd]
 · rw [bif_true (by simp; omega)]
   have:a ≠ b:=fun e=>h (by rw [e])
   simp [this]
theorem sortI_some {xs:List Int} (h:xs.length ≤ 1048576):sortI xs = some (xs.mergeSort fun x y=>decide (x ≤ y)):=by
 unfold sortI
 rw [if_pos (by omega)]
theorem itmZ_in {r:Request} {u:Int} (h:0 ≤ u ∧ u < (untM r).length):itmM r u = some (itmZ r u):=by
 obtain ⟨_,x,_,_,hx⟩:=itmM_in h
 unfold itmZ
 rw [hx]; rfl
theorem itsM_map {r:Request}:∀ {l:List Int},(∀ u ∈ l,0 ≤ u ∧ u < (untM r).length) → itsM r l = l.map (itmZ r)
 | [],_=>rfl
 | u :: l,h=>by
  have ih:=itsM_map (r:=r) (l:=l) fun v hv=>h v (by simp [hv])
  unfold itsM at ih ⊢
  rw [List.filterMap_cons,itmZ_in (h u (by simp)),ih,List.map_cons]
theorem all_cong {α:Type} {p q:α → Bool}:∀ {l:List α},(∀ x ∈ l,p x = q x) → l.all p = l.all q
 | [],_=>rfl
 | x :: xs,h=>by rw [List.all_cons,List.all_cons,h x (by simp),all_cong fun y hy=>h y (by simp [hy])]
def uOk (r:Request) (t:Typ) (u:Int):Bool:=(itmM r u).isSome && fitB (itmZ r u) t
def hldB (r:Request) (us:List Int) (t:Typ):Bool:=clsM r == 0 && (us.all (uOk r t) && witB r us t)
theorem itm_isSome {r:Request} {u:Int}:(itmM r u).isSome = true ↔ 0 ≤ u ∧ u < (untM r).length:=by
 constructor
 · intro h
   apply Decidable.byContradiction
   intro hn
   rw [itmM_out hn] at h
   cases h
 · intro h
   rw [itmZ_in h]; rfl
theorem i_holds {fu:Nat} {r:Request} (h:Sm fu r) (us:List Int) (t:Typ) (hl:us.length ≤ 1048576):d_impl_Holds fu r us t = some (hldB r us t):=by
 have hfu:=h.fu
 have hil:=itsM_len r us
 unfold d_impl_Holds hldB
 rw [i_sound h,ob_some]
 cases hc:clsM r == 0
 · rfl
 · rw [Bool.not_true,cond_false,i_there h us hl,ob_some,Bool.true_and]
   by_cases ha:∀ u ∈ us,0 ≤ u ∧ u < (untM r).length
   · have e:thrM r us = us:=List.filter_eq_self.2 fun u hu=>by have:=ha u hu; simp; omega
     have e0:((us.length:Int) != (us.length:Int)) = false:=by simp
     rw [e,e0,cond_false]
     unfold d_impl_Holds_J1
     rw [i_items h us hl (by omega),ob_some,i_anyItem _ (fun x=>!fitB x t) ?_ (by omega) (by omega),ob_some]
     · rw [i_within h t us hl,ob_some,itsM_map ha,List.any_map]
       have e1:us.all (uOk r t) = !(us.any ((fun x=>!fitB x t) ∘ itmZ r)):=by
        rw [List.not_any_eq_all_not]
        apply all_cong
        intro u hu
        simp only [uOk,itm_isSome.2 (ha u hu),Bool.true_and,Function.comp,Bool.not_not]
       rw [e1]
       cases us.any ((fun x=>!fitB x t) ∘ itmZ r) <;> simp
     · intro x _
       unfold d_impl_Holds_1
       rw [i_fit,ob_some]
   · have hlt:(thrM r us).length < us.length:=by
       apply Decidable.byContradiction
       intro hn
       apply ha
       have e:(us.filter fun u=>inb u 0 (((untM r).length:Int) - 1)).length = us.length:=by
        have:=List.length_filter_le (fun u=>inb u 0 (((untM r).length:Int) - 1)) us
        have e':thrM r us = us.filter fun u=>inb u 0 (((untM r).length:Int) - 1):=rfl
        rw [e'] at hn
        omega
       intro u hu
       have:=List.length_filter_eq_length_iff.1 e u hu
       simp at this
       omega
     have e0:(((thrM r us).length:Int) != (us.length:Int)) = true:=by simp; omega
     rw [e0,cond_true]
     have e1:us.all (uOk r t) = false:=by
      apply Bool.eq_false_iff.2
      intro he
      apply ha
      intro u hu
      have:=List.all_eq_true.1 he u hu
      simp only [uOk,Bool.and_eq_true] at this
      exact itm_isSome.1 this.1
     rw [e1,Bool.false_and]
theorem s_holds {fu:Nat} {r:Request} (h:Sm fu r) (us:List Int) (t:Typ) (hl:us.length ≤ 1048576):d_spec_Holds fu r us t = some (hldB r us t):=by
 have hfu:=h.fu
 unfold d_spec_Holds hldB
 rw [s_cls h,ob_some]
 cases hc:clsM r == 0
 · have:(clsM r != 0) = true:=by simp only [bne,hc]; rfl
   rw [this]; rfl
 · have:(clsM r != 0) = false:=by simp only [bne,hc]; rfl
   have hz:clsM r = 0:=by simpa using hc
   have hu:d_spec_l6Units fu r = some (untM r):=s_l6c h hz
   rw [this,cond_false,hu,ob_some,Bool.true_and]
   have key:=lp us (fun n (_:Unit) i=>d_spec_Holds_L1 fu r us t (untM r) n i) (fun l _=>some (l.all (uOk r t) && witB r us t)) (by omega) ?_ ?_ fu () (by omega)
   · exact key
   · intro n _ i x xs hx hd ih
     simp only [d_spec_Holds_L1.eq_2]
     unfold d_spec_Holds_L1_B d_spec_Holds_J3 d_spec_Holds_J2
     simp only [hd,cond_true,hx,ob_some,s_item,ih (),List.all_cons,uOk]
     cases (itmM r x).isSome
     · rfl
     · simp only [Bool.not_true,cond_false,s_fit (show 2097153 ≤ fu by omega),ob_some]
       cases fitB (itmZ r x) t <;> rfl
   · intro n _ i hd
     simp only [d_spec_Holds_L1.eq_2]
     unfold d_spec_Holds_L1_B d_spec_Holds_J1
     simp only [hd,cond_false,s_l7Of r us hl (show us.length < fu by omega),ob_some,s_vol]
     show (bif decide (volM r us ≤ volT t) then _ else _) = _
     unfold witB
     cases decide (volM r us ≤ volT t) <;> simp
def chp (r:Request) (us:List Int) (s:Typ × Bool) (t:Typ):Typ × Bool :=
 bif hldB r us t && (!s.2 || (decide (t.fCost < s.1.fCost) || (t.fCost == s.1.fCost && decide (t.fId < s.1.fId)))) then (t,true) else s
def chpM (r:Request) (us:List Int):Typ × Bool:=r.fTypes.foldl (chp r us) (zTyp,false)
theorem i_cheap {fu:Nat} {r:Request} (h:Sm fu r) (us:List Int) (hl:us.length ≤ 1048576):d_impl_Cheapest fu r us = some (chpM r us):=by
 have hfu:=h.fu
 have ht:=h.types
 unfold d_impl_Cheapest
 have key:=lp r.fTypes (fun n (s:Typ × Bool) i=>d_impl_Cheapest_L1 fu r us n s.1 s.2 i) (fun l s=>some (l.foldl (chp r us) s)) (by omega) ?_ ?_ fu (zTyp,false) (by omega)
 · exact key
 · intro n s i x xs hx hd ih
   simp only [d_impl_Cheapest_L1.eq_2]
   unfold d_impl_Cheapest_L1_B d_impl_Cheapest_J1
   have ih':=fun a b=>ih (a,b)
   simp only at ih'
   obtain ⟨b,f⟩:=s
   simp only [hd,cond_true,hx,ob_some,i_holds h us x hl,ih',List.foldl_cons,chp]
   cases hldB r us x <;> cases f <;> cases decide (x.fCost < b.fCost) <;> cases x.fCost == b.fCost <;> cases decide (x.fId < b.fId) <;> rfl
 · intro n s i hd
   simp only [d_impl_Cheapest_L1.eq_2]
   unfold d_impl_Cheapest_L1_B
   simp only [hd,cond_false]
   rfl
theorem s_cheap {fu:Nat} {r:Request} (h:Sm fu r) (us:List Int) (hl:us.length ≤ 1048576):d_spec_Cheapest fu r us = some (chpM r us):=by
 have hfu:=h.fu
 have ht:=h.types
 unfold d_spec_Cheapest
 have key:=lp r.fTypes (fun n (s:Typ × Bool) i=>d_spec_Cheapest_L1 fu r us n s.1 s.2 i) (fun l s=>some (l.foldl (chp r us) s)) (by omega) ?_ ?_ fu (zTyp,false) (by omega)
 · exact key
 · intro n s i x xs hx hd ih
   simp only [d_spec_Cheapest_L1.eq_2]
   unfold d_spec_Cheapest_L1_B d_spec_Cheapest_J1
   have ih':=fun a b=>ih (a,b)
   simp only at ih'
   obtain ⟨b,f⟩:=s
   simp only [hd,cond_true,hx,ob_some,s_holds h us x hl,ih',List.foldl_cons,chp]
   cases hldB r us x <;> cases f <;> cases decide (x.fCost < b.fCost) <;> cases x.fCost == b.fCost <;> cases decide (x.fId < b.fId) <;> rfl
 · intro n s i hd
   simp only [d_spec_Cheapest_L1.eq_2]
   unfold d_spec_Cheapest_L1_B
   simp only [hd,cond_false]
   rfl
theorem s_typById {fu:Nat} {r:Request} (h:Sm fu r) (id:Int):d_spec_TypeById fu r id = some (othM (typM r id)):=by
 have hfu:=h.fu
 have ht:=h.types
 unfold d_spec_TypeById typM
 refine lp r.fTypes (fun n (_:Unit) i=>d_spec_TypeById_L1 fu r id n i) (fun l _=>some (othM (l.find? fun t=>t.fId == id))) (by omega) ?_ ?_ fu () (by omega)
 · intro n s i x xs hx hd ih
   simp only [d_spec_TypeById_L1.eq_2]
   unfold d_spec_TypeById_L1_B
   simp only [hd,cond_true,hx,ob_some,ih (),List.find?_cons]
   cases x.fId == id <;> rfl
 · intro n s i hd
   simp only [d_spec_TypeById_L1.eq_2]
   unfold d_spec_TypeById_L1_B
   simp only [hd,cond_false]
   rfl
def zBox:Box:=⟨0,0,0,0⟩
def grsM (r:Request) (x:Carton):Int:=match typM r x.fType with
 | some t=>bif clsM r == 0 then t.fTare + grmM r x.fUnits else 0
 | none=>0
def boxM (r:Request) (x:Carton):Box:=match typM r x.fType with
 | some t=>bif clsM r == 0 then ⟨t.fW,t.fD,t.fH,t.fTare + grmM r x.fUnits⟩ else zBox
 | none=>zBox
theorem typ_bd {r:Request} (hc:clsM r = 0) {id:Int} {t:Typ} (ht:typM r id = some t):typB t = true ∧ t ∈ r.fTypes ∧ t.fId = id:=by
 have hm:=List.mem_of_find?_eq_some ht
 have hp:=List.find?_some ht
 exact ⟨bou_types (clsM_zero hc).1 t hm,hm,by simpa using hp⟩
theorem tare_bd {r:Request} (hc:clsM r = 0) {id:Int} {t:Typ} (ht:typM r id = some t):0 ≤ t.fTare ∧ t.fTare ≤ 100000:=by
 have:=(typ_bd hc ht).1
 simp only [typB,Bool.and_eq_true,inb_iff] at this
 omega
theorem tare_add {r:Request} (hc:clsM r = 0) {id:Int} {t:Typ} (ht:typM r id = some t) (us:List Int) (hl:us.length ≤ 1048576):w64 (t.fTare + grmM r us) = t.fTare + grmM r us:=by
 have h1:=tare_bd hc ht
 have h2:=grmM_bd r us
 exact w64_id (by omega) (by omega)
theorem i_gross {fu:Nat} {r:Request} (h:Sm fu r) (x:Carton) (hl:x.fUnits.length ≤ 1048576):d_impl_Gross fu r x = some (grsM r x):=by
 have hfu:=h.fu
 unfold d_impl_Gross grsM
 rw [i_typById h,ob_some,othM_2]
 cases ht:typM r x.fType with
 | none=>rfl
 | some t =>
  rw [i_sound h]
  simp only [Option.isSome_some,Bool.not_true,cond_false,ob_some]
  cases hc:clsM r == 0
  · rfl
  · have hc':clsM r = 0:=by simpa using hc
    unfold d_impl_Gross_J1
    rw [i_grm h _ hl (by omega)]
    simp only [Bool.not_true,cond_false,cond_true,ob_some,othM,tare_add hc' ht _ hl]
theorem s_gross {fu:Nat} {r:Request} (h:Sm fu r) (x:Carton) (hl:x.fUnits.length ≤ 1048576):d_spec_Gross fu r x = some (grsM r x):=by
 have hfu:=h.fu
 unfold d_spec_Gross grsM
 rw [s_typById h,ob_some,othM_2,s_cls h,ob_some]
 cases hc:clsM r == 0
 · have:(clsM r != 0) = true:=by simp only [bne,hc]; rfl
   rw [this]
   cases typM r x.fType <;> rfl
 · have hc':clsM r = 0:=by simpa using hc
   rw [show (clsM r != 0) = false by simp [hc'],cond_false]
   cases ht:typM r x.fType with
   | none=>rfl
   | some t =>
    unfold d_spec_Gross_J1
    rw [s_grm h _ hl (by omega)]
    simp only [Option.isSome_some,Bool.not_true,cond_false,cond_true,ob_some,othM,tare_add hc' ht _ hl]
theorem i_boxM {fu:Nat} {r:Request} (h:Sm fu r) (x:Carton) (hl:x.fUnits.length ≤ 1048576):d_impl_BoxOf fu r x = some (boxM r x):=by
 unfold d_impl_BoxOf boxM
 rw [i_typById h,ob_some,othM_2]
 cases ht:typM r x.fType with
 | none=>rfl
 | some t =>
  rw [i_sound h]
  simp only [Option.isSome_some,Bool.not_true,cond_false,ob_some]
  cases hc:clsM r == 0
  · rfl
  · unfold d_impl_BoxOf_J1
    rw [i_gross h x hl]
    simp only [grsM,ht,hc,Bool.not_true,cond_false,cond_true,ob_some,othM]
theorem s_boxM {fu:Nat} {r:Request} (h:Sm fu r) (x:Carton) (hl:x.fUnits.length ≤ 1048576):d_spec_BoxOf fu r x = some (boxM r x):=by
 unfold d_spec_BoxOf boxM
 rw [s_typById h,ob_some,othM_2,s_cls h,ob_some]
 cases hc:clsM r == 0
 · have:(clsM r != 0) = true:=by simp only [bne,hc]; rfl
   rw [this]
   cases typM r x.fType <;> rfl
 · have hc':clsM r = 0:=by simpa using hc
   rw [show (clsM r != 0) = false by simp [hc'],cond_false]
   cases ht:typM r x.fType with
   | none=>rfl
   | some t =>
    unfold d_spec_BoxOf_J1
    rw [s_gross h x hl]
    simp only [grsM,ht,hc,Option.isSome_some,Bool.not_true,cond_false,cond_true,ob_some,othM]
def onL (k:Int):Int → List Spot → List Int
 | _,[]=>[]
 | i,s :: l=>bif s.fPallet == k then i :: onL k (i + 1) l else onL k (i + 1) l
def onM (x:Plan) (k:Int):List Int:=bif x.fSpots.length == x.fCartons.length then onL k 0 x.fSpots else []
theorem onL_mem (k:Int):∀ (l:List Spot) (a i:Int),i ∈ onL k a l ↔ ∃ (j:Nat) (s:Spot),l[j]? = some s ∧ i = a + j ∧ s.fPallet = k
 | [],a,i=>by simp [onL]
 | s :: l,a,i=>by
  have ih:=onL_mem k l (a + 1) i
  constructor
  · intro h
    unfold onL at h
    cases hk:s.fPallet == k
    · rw [hk,cond_false] at h
      obtain ⟨j,t,h1,h2,h3⟩:=ih.1 h
      exact ⟨j + 1,t,by simpa using h1,by omega,h3⟩
    · rw [hk,cond_true,List.mem_cons] at h
      rcases h with rfl | h
      · exact ⟨0,s,rfl,by omega,by simpa using hk⟩
      · obtain ⟨j,t,h1,h2,h3⟩:=ih.1 h
        exact ⟨j + 1,t,by simpa using h1,by omega,h3⟩
  · rintro ⟨j,t,h1,h2,h3⟩
    unfold onL
    cases j with
    | zero =>
     simp only [List.getElem?_cons_zero,Option.some.injEq] at h1
     subst h1
     rw [show (s.fPallet == k) = true by simpa using h3,cond_true]
     simp; omega
    | succ j =>
     have:i ∈ onL k (a + 1) l:=ih.2 ⟨j,t,by simpa using h1,by omega,h3⟩
     cases s.fPallet == k <;> simp [this]
theorem onL_len (k:Int):∀ (l:List Spot) (a:Int),(onL k a l).length ≤ l.length
 | [],_=>Nat.le_refl _
 | s :: l,a=>by
  have:=onL_len k l (a + 1)
  unfold onL
  cases s.fPallet == k <;> simp <;> omega
theorem onM_len (x:Plan) (k:Int):(onM x k).length ≤ x.fSpots.length:=by
 unfold onM
 cases x.fSpots.length == x.fCartons.length
 · simp
 · exact onL_len k _ 0
theorem onM_mem {x:Plan} {k i:Int} (h:i ∈ onM x k):∃ c s,ix x.fCartons i = some c ∧ ix x.fSpots i = some s ∧ s.fPallet = k:=by
 unfold onM at h
 cases he:x.fSpots.length == x.fCartons.length
 · rw [he] at h; simp at h
 · rw [he,cond_true] at h
   obtain ⟨j,s,h1,h2,h3⟩:=(onL_mem k _ 0 i).1 h
   have hj:=(List.getElem?_eq_some_iff.1 h1).1
   have hl:x.fSpots.length = x.fCartons.length:=by simpa using he
   have e:i = (j:Int):=by omega
   subst e
   exact ⟨_,s,ix_i (by omega),ix_at h1,h3⟩
theorem i_on {fu:Nat} {x:Plan} (hl:x.fSpots.length ≤ 1048576) (hf:x.fSpots.length < fu) (k:Int):d_impl_OnPallet fu x k = some (onM x k):=by
 unfold d_impl_OnPallet onM
 cases he:x.fSpots.length == x.fCartons.length
 · have:((x.fSpots.length:Int) != (x.fCartons.length:Int)) = true:=by simp at he ⊢; omega
   rw [this]; rfl
 · have:((x.fSpots.length:Int) != (x.fCartons.length:Int)) = false:=by simp at he ⊢; omega
   rw [this,cond_false,cond_true]
   have key:=lpPI x.fSpots (fun n (o:List Int) i=>d_impl_OnPallet_L1 fu x k n o i) (fun pre xs o=>some (o ++ onL k pre.length xs)) (fun pre xs o=>o.length + xs.length ≤ 1048576) (by omega) ?_ ?_ fu [] (by simp; omega) hf
   · simpa using key
   · intro n o pre s xs e hx hd hI ih
     simp only [List.length_cons] at hI
     simp only [d_impl_OnPallet_L1.eq_2]
     unfold d_impl_OnPallet_L1_B d_impl_OnPallet_J1 onL
     rw [hd,cond_true,hx,ob_some]
     cases s.fPallet == k
     · rw [cond_false,cond_false,ih _ (by omega)]; simp
     · rw [cond_true,cond_true,ap1 (by simp; omega),ob_some,ih _ (by simp; omega)]; simp
   · intro n o hd _
     simp only [d_impl_OnPallet_L1.eq_2]
     unfold d_impl_OnPallet_L1_B
     rw [hd,cond_false]; simp [onL]
theorem s_on {fu:Nat} {x:Plan} (hl:x.fSpots.length ≤ 1048576) (hc:x.fCartons.length ≤ 1048576) (hf:x.fSpots.length < fu) (hf':x.fCartons.length < fu) (k:Int):d_spec_OnPallet fu x k = some (onM x k):=by
 unfold d_spec_OnPallet onM
 cases he:x.fSpots.length == x.fCartons.length
 · have e:((x.fCartons.length:Int) == (x.fSpots.length:Int)) = false:=by simp at he ⊢; omega
   obtain ⟨m,rfl⟩:∃ m,fu = m + 1:=⟨fu - 1,by omega⟩
   rw [d_spec_OnPallet_L1.eq_2]
   unfold d_spec_OnPallet_L1_B
   rw [e]
   cases decide ((0:Int) < (x.fCartons.length:Int)) <;> rfl
 · have el:x.fSpots.length = x.fCartons.length:=by simpa using he
   have e:((x.fCartons.length:Int) == (x.fSpots.length:Int)) = true:=by simp; omega
   rw [cond_true]
   have key:=lpPI x.fSpots (fun n (o:List Int) i=>d_spec_OnPallet_L1 fu x k n o i) (fun pre xs o=>some (o ++ onL k pre.length xs)) (fun pre xs o=>o.length + xs.length ≤ 1048576) (by omega) ?_ ?_ fu [] (by simp; omega) hf
   · simpa using key
   · intro n o pre s xs e1 hx hd hI ih
     simp only [List.length_cons] at hI
     simp only [d_spec_OnPallet_L1.eq_2]
     unfold d_spec_OnPallet_L1_B d_spec_OnPallet_J2 d_spec_OnPallet_J1 onL
     rw [el] at hd
     rw [hd,cond_true,e,cond_true,hx,ob_some]
     cases s.fPallet == k
     · rw [cond_false,cond_false,ih _ (by omega)]; simp
     · rw [cond_true,cond_true,ap1 (by simp; omega),ob_some,ih _ (by simp; omega)]; simp
   · intro n o hd _
     simp only [d_spec_OnPallet_L1.eq_2]
     unfold d_spec_OnPallet_L1_B
     rw [← el,hd,cond_false]; simp [onL]
def zCar:Carton:=⟨0,0,[]⟩
def carM (x:Plan) (i:Int):Carton:=(ix x.fCartons i).getD zCar
def pgM (r:Request) (x:Plan) (k:Int):Int:=sumI ((onM x k).map fun i=>grsM r (carM x i))
theorem grs_bd (r:Request) (c:Carton) (hl:c.fUnits.length ≤ 1048576):0 ≤ grsM r c ∧ grsM r c ≤ 104857700000:=by
 unfold grsM
 cases ht:typM r c.fType with
 | none=>simp
 | some t =>
  cases hc:clsM r == 0
  · simp
  · have h1:=tare_bd (by simpa using hc) ht
    have h2:=grmM_bd r c.fUnits
    simp only [cond_true]
    omega
theorem i_pg {fu:Nat} {r:Request} (h:Sm fu r) {x:Plan} (hx:Sp x) (k:Int):d_impl_PalletGram fu r x k = some (pgM r x k):=by
 have hfu:=h.fu
 have h1:=hx.spots
 have h2:=onM_len x k
 unfold d_impl_PalletGram pgM
 rw [i_on h1 (by omega),ob_some]
 have key:=lpI (onM x k) (fun n (s:Int) i=>d_impl_PalletGram_L1 fu r x (onM x k) n s i) (fun l s=>some (s + sumI (l.map fun i=>grsM r (carM x i)))) (fun l s=>0 ≤ s ∧ s + 104857700000 * l.length ≤ 104857700000 * 1048576 ∧ ∀ i ∈ l,∃ c,ix x.fCartons i = some c) (by omega) ?_ ?_ fu 0 ⟨by omega,by omega,fun i hi=>?_⟩ (by omega)
 · simpa using key
 · intro n s i j xs hj hd hI ih
   obtain ⟨c,hc⟩:=hI.2.2 j (by simp)
   have hcu:=hx.units c (ix_mem hc)
   have hg:=grs_bd r c hcu
   have hI2:=hI.2.1
   simp only [List.length_cons] at hI2
   simp only [d_impl_PalletGram_L1.eq_2]
   unfold d_impl_PalletGram_L1_B
   rw [hd,cond_true,hj,ob_some,hc,ob_some,i_gross h c hcu,ob_some,w64_id (by omega) (by omega),ih _ ⟨by omega,by omega,fun i hi=>hI.2.2 i (by simp [hi])⟩]
   simp only [List.map_cons,sumI_cons,carM,hc,Option.getD_some]
   congr 1
   omega
 · intro n s i hd _
   simp only [d_impl_PalletGram_L1.eq_2]
   unfold d_impl_PalletGram_L1_B
   rw [hd,cond_false]; simp
 · obtain ⟨c,_,hc,_⟩:=onM_mem hi
   exact ⟨c,hc⟩
theorem s_pg {fu:Nat} {r:Request} (h:Sm fu r) {x:Plan} (hx:Sp x) (k:Int):d_spec_PalletGram fu r x k = some (pgM r x k):=by
 have hfu:=h.fu
 have h1:=hx.spots
 have h0:=hx.cars
 have h2:=onM_len x k
 unfold d_spec_PalletGram pgM
 rw [s_on h1 h0 (by omega) (by omega),ob_some]
 have key:=lpI (onM x k) (fun n (s:Int) i=>d_spec_PalletGram_L1 fu r x (onM x k) n s i) (fun l s=>some (s + sumI (l.map fun i=>grsM r (carM x i)))) (fun l s=>0 ≤ s ∧ s + 104857700000 * l.length ≤ 104857700000 * 1048576 ∧ ∀ i ∈ l,∃ c,ix x.fCartons i = some c) (by omega) ?_ ?_ fu 0 ⟨by omega,by omega,fun i hi=>?_⟩ (by omega)
 · simpa using key
 · intro n s i j xs hj hd hI ih
   obtain ⟨c,hc⟩:=hI.2.2 j (by simp)
   have hcu:=hx.units c (ix_mem hc)
   have hg:=grs_bd r c hcu
   have hI2:=hI.2.1
   simp only [List.length_cons] at hI2
   simp only [d_spec_PalletGram_L1.eq_2]
   unfold d_spec_PalletGram_L1_B
   rw [hd,cond_true,hj,ob_some,hc,ob_some,s_gross h c hcu,ob_some,w64_id (by omega) (by omega),ih _ ⟨by omega,by omega,fun i hi=>hI.2.2 i (by simp [hi])⟩]
   simp only [List.map_cons,sumI_cons,carM,hc,Option.getD_some]
   congr 1
   omega
 · intro n s i hd _
   simp only [d_spec_PalletGram_L1.eq_2]
   unfold d_spec_PalletGram_L1_B
   rw [hd,cond_false]; simp
 · obtain ⟨c,_,hc,_⟩:=onM_mem hi
   exact ⟨c,hc⟩
def flatU (l:List Carton):List Int:=(l.map (·.fUnits)).flatten
theorem flatU_len (l:List Carton):(flatU l).length = lensC l:=by
 induction l with
 | nil=>rfl
 | cons c l ih =>
  have e:flatU (c :: l) = c.fUnits ++ flatU l:=rfl
  rw [e,List.length_append,ih]; rfl
theorem s_flat {fu:Nat} {x:Plan} (h:Sp x) (hf:1048577 ≤ fu):d_spec_l15Flat fu x = some (flatU x.fCartons):=by
 have hc:=h.cars
 have hl:=flatU_len x.fCartons
 have ha:=h.all
 unfold d_spec_l15Flat
 have:=lpI x.fCartons (fun n out i=>d_spec_l15Flat_L1 fu x n out i) (fun xs out=>some (out ++ flatU xs)) (fun xs out=>out.length + (flatU xs).length ≤ 1048576) (by omega) ?_ ?_ fu [] (by simp; omega) (by omega)
 · simpa using this
 · intro n out i c xs hx hd hI ih
   have e:flatU (c :: xs) = c.fUnits ++ flatU xs:=rfl
   rw [e,List.length_append] at hI
   simp only [d_spec_l15Flat_L1.eq_2]
   unfold d_spec_l15Flat_L1_B
   rw [hd,cond_true,hx,ob_some,ap1 (by omega),ob_some,ih _ (by simp; omega),e]
   simp
 · intro n out i hd hI
   simp only [d_spec_l15Flat_L1.eq_2]
   unfold d_spec_l15Flat_L1_B
   simp only [hd,cond_false]
   simp [flatU]
theorem i_flat {fu:Nat} {x:Plan} (h:Sp x) (hf:1048577 ≤ fu):d_impl_allUnits fu x = some (flatU x.fCartons):=by
 have hc:=h.cars
 have hl:=flatU_len x.fCartons
 have ha:=h.all
 unfold d_impl_allUnits
 have:=lpI x.fCartons (fun n out i=>d_impl_allUnits_L1 fu x n out i) (fun xs out=>some (out ++ flatU xs)) (fun xs out=>out.length + (flatU xs).length ≤ 1048576) (by omega) ?_ ?_ fu [] (by simp; omega) (by omega)
 · simpa using this
 · intro n out i c xs hx hd hI ih
   have e:flatU (c :: xs) = c.fUnits ++ flatU xs:=rfl
   rw [e,List.length_append] at hI
   simp only [d_impl_allUnits_L1.eq_2]
   unfold d_impl_allUnits_L1_B
   rw [hd,cond_true,hx,ob_some,ap1 (by omega),ob_some,ih _ (by simp; omega),e]
   simp
 · intro n out i hd hI
   simp only [d_impl_allUnits_L1.eq_2]
   unfold d_impl_allUnits_L1_B
   simp only [hd,cond_false]
   simp [flatU]
theorem s_gof {fu:Nat} {gs:List (List Int)} (hl:gs.length ≤ 4) (hm:∀ g ∈ gs,g.length ≤ 4) (hfu:100 ≤ fu) (c:Int):d_spec_GroupOf fu gs c = some (gofM gs c):=by
 unfold d_spec_GroupOf
 have:=idx_loop gs (fun n i=>d_spec_GroupOf_L1 fu gs c n i) (fun g=>g.contains c) (by omega) (by
  intro n i x hx hd
  have:=hm x (ix_mem hx)
  simp only [d_spec_GroupOf_L1.eq_2]
  unfold d_spec_GroupOf_L1_B
  simp only [hd,cond_true,hx,ob_some,s_has (show x.length ≤ 1048576 by omega) (show x.length < fu by omega)]) (by
  intro n i hd
  simp only [d_spec_GroupOf_L1.eq_2]
  unfold d_spec_GroupOf_L1_B
  simp only [hd,cond_false]) fu (by omega)
 rw [this,fndI_fst]
 unfold gofM
 cases fstI (fun g=>g.contains c) gs <;> simp
theorem i_idxCar {fu:Nat} {l:List Carton} (f:Carton → Option Bool) (g:Carton → Bool) (hg:∀ x ∈ l,f x = some (g x)) (hl:l.length ≤ 1048576) (hf:l.length < fu):d_slices_IndexFunc_impl_Carton_impl_Carton fu l f = some (fndI g l 0):=by
 unfold d_slices_IndexFunc_impl_Carton_impl_Carton
 refine idx_loop l (fun n i=>d_slices_IndexFunc_impl_Carton_impl_Carton_L1 fu l f n i) g (by omega) ?_ ?_ fu hf
 · intro n i x hx hd
   simp only [d_slices_IndexFunc_impl_Carton_impl_Carton_L1.eq_2]
   unfold d_slices_IndexFunc_impl_Carton_impl_Carton_L1_B
   simp only [hd,cond_true,hx,ob_some,hg x (ix_mem hx)]
 · intro n i hd
   simp only [d_slices_IndexFunc_impl_Carton_impl_Carton_L1.eq_2]
   unfold d_slices_IndexFunc_impl_Carton_impl_Carton_L1_B
   simp only [hd,cond_false]
theorem i_anyCar {fu:Nat} {l:List Carton} (f:Carton → Option Bool) (g:Carton → Bool) (hg:∀ x ∈ l,f x = some (g x)) (hl:l.length ≤ 1048576) (hf:l.length < fu):d_slices_ContainsFunc_impl_Carton_impl_Carton fu l f = some (l.any g):=by
 unfold d_slices_ContainsFunc_impl_Carton_impl_Carton
 rw [i_idxCar f g hg hl hf,ob_some,fndI_any g l 0 (by omega)]
def empB (x:Plan):Bool:=x.fCartons.any fun c=>(c.fUnits.length:Int) == 0
theorem s_emp {fu:Nat} {x:Plan} (h:Sp x) (hf:1048577 ≤ fu):d_spec_l15Empty fu x = some (empB x):=by
 have hc:=h.cars
 unfold d_spec_l15Empty empB
 have key:=lp x.fCartons (fun n (_:Unit) i=>d_spec_l15Empty_L1 fu x n i) (fun l _=>some (l.any fun c=>(c.fUnits.length:Int) == 0)) (by omega) ?_ ?_ fu () (by omega)
 · exact key
 · intro n _ i c xs hx hd ih
   have ih:=ih ()
   simp only [d_spec_l15Empty_L1.eq_2]
   unfold d_spec_l15Empty_L1_B
   rw [hd,cond_true,hx,ob_some,ih,List.any_cons]
   cases (c.fUnits.length:Int) == 0 <;> rfl
 · intro n _ i hd
   simp only [d_spec_l15Empty_L1.eq_2]
   unfold d_spec_l15Empty_L1_B
   rw [hd,cond_false]; rfl
def onceB (r:Request) (x:Plan):Bool:=perB (flatU x.fCartons) (ints 0 (untM r).length)
theorem once_iff {r:Request} {x:Plan}:onceB r x = true ↔ (flatU x.fCartons).Perm (ints 0 (untM r).length):=perB_iff
theorem s_once {fu:Nat} {r:Request} (hfu:2097153 ≤ fu) {x:Plan} (h:Sp x):d_spec_l15Units fu (untM r) x = some (onceB r x):=by
 have hul:=untM_len r
 have hfl:=flatU_len x.fCartons
 have ha:=h.all
 unfold d_spec_l15Units
 rw [s_flat h (by omega),ob_some]
 by_cases hl:(flatU x.fCartons).length = (untM r).length
 · rw [show (((flatU x.fCartons).length:Int) != ((untM r).length:Int)) = false by simp; omega,cond_false]
   have key:=lpN ((untM r).length:Int) (fun n (_:Unit) i=>d_spec_l15Units_L1 fu (untM r) (flatU x.fCartons) n i) (fun l _=>some (l.all fun u=>(flatU x.fCartons).count u == 1)) (by omega) ?_ ?_ (untM r).length fu () 0 (by omega) (by omega) (by omega)
   · rw [key]
     congr 1
     apply Bool.eq_iff_iff.2
     rw [once_iff]
     constructor
     · intro hA
       refine (perm_cnt _ _ (by rw [ints_len,hl]) fun u hu=>?_).symm
       have h1:=List.all_eq_true.1 hA u hu
       have h2:(ints 0 (untM r).length).count u = 1:=by rw [List.Nodup.count (ints_nodup _ _),if_pos hu]
       have h3:(flatU x.fCartons).count u = 1:=by simpa using h1
       omega
     · intro hp
       refine List.all_eq_true.2 fun u hu=>?_
       have h2:(ints 0 (untM r).length).count u = 1:=by rw [List.Nodup.count (ints_nodup _ _),if_pos hu]
       have:=hp.count_eq u
       simp; omega
   · intro n _ i xs h0 h1 hd ih
     have ih:=ih ()
     simp only [d_spec_l15Units_L1.eq_2]
     unfold d_spec_l15Units_L1_B
     rw [hd,cond_true,s_tim (by omega) (by omega),ob_some,cnt_count,ih,List.all_cons]
     by_cases hc:(flatU x.fCartons).count i = 1
     · simp [hc]
     · rw [show (((flatU x.fCartons).count i:Int) != 1) = true by simp; omega,cond_true,show ((flatU x.fCartons).count i == 1) = false by simpa using hc]; rfl
   · intro n _ i hd
     simp only [d_spec_l15Units_L1.eq_2]
     unfold d_spec_l15Units_L1_B
     rw [hd,cond_false]; rfl
 · rw [show (((flatU x.fCartons).length:Int) != ((untM r).length:Int)) = true by simp; omega,cond_true]
   congr 1
   symm
   apply Bool.eq_false_iff.2
   intro hb
   have:=(once_iff.1 hb).length_eq
   rw [ints_len] at this
   exact hl this
theorem ints_sorted (a:Int) (n:Nat):(ints a n).mergeSort (fun x y=>decide (x ≤ y)) = ints a n :=
 List.mergeSort_of_pairwise ((ints_lt a n).imp fun h=>by simpa using (show _ ≤ _ by omega))
def chB (r:Request) (c:Carton):Bool:=match typM r c.fType with | some t=>hldB r c.fUnits t | none=>false
def cgB (r:Request) (c:Carton):Bool:=c.fUnits.all fun u=>gofM (grpM r) (itmZ r u).fClass == c.fGroup
def ccB (r:Request) (c:Carton):Bool:=(chpM r c.fUnits).2 && (chpM r c.fUnits).1.fId == c.fType
theorem s_holdsA {fu:Nat} {r:Request} (h:Sm fu r) {x:Plan} (hx:Sp x):d_spec_l15Holds fu r x = some (x.fCartons.all (chB r)):=by
 have hfu:=h.fu
 have hc:=hx.cars
 unfold d_spec_l15Holds
 have key:=lp x.fCartons (fun n (_:Unit) i=>d_spec_l15Holds_L1 fu r x n i) (fun l _=>some (l.all (chB r))) (by omega) ?_ ?_ fu () (by omega)
 · exact key
 · intro n _ i c xs e hd ih
   have ih:=ih ()
   have hu:=hx.units c (ix_mem e)
   simp only [d_spec_l15Holds_L1.eq_2]
   unfold d_spec_l15Holds_L1_B d_spec_l15Holds_J2 d_spec_l15Holds_J1
   rw [hd,cond_true,e,ob_some,s_typById h,ob_some,List.all_cons]
   unfold chB
   cases ht:typM r c.fType with
   | none=>rfl
   | some t =>
    simp only [othM,Bool.not_true,cond_false]
    rw [ob_some,s_holds h _ t hu,ob_some,ih]
    cases hldB r c.fUnits t <;> rfl
 · intro n _ i hd
   simp only [d_spec_l15Holds_L1.eq_2]
   unfold d_spec_l15Holds_L1_B
   rw [hd,cond_false]; rfl
theorem s_groupA {fu:Nat} {r:Request} (h:Sm fu r) {x:Plan} (hx:Sp x):d_spec_l15Group fu r (untM r) x = some (x.fCartons.all (cgB r)):=by
 have hfu:=h.fu
 have hc:=hx.cars
 unfold d_spec_l15Group
 rw [s_grp h,ob_some]
 have key:=lp x.fCartons (fun n (_:Unit) i=>d_spec_l15Group_L2 fu r (untM r) x (grpM r) n i) (fun l _=>some (l.all (cgB r))) (by omega) ?_ ?_ fu () (by omega)
 · exact key
 · intro n _ i c xs e hd ih
   have ih:=ih ()
   have hu:=hx.units c (ix_mem e)
   simp only [d_spec_l15Group_L2.eq_2]
   unfold d_spec_l15Group_L2_B
   rw [hd,cond_true]
   have key2:=lp c.fUnits (fun m (_:Unit) j=>d_spec_l15Group_L1 fu (d_spec_l15Group_L2 fu r (untM r) x (grpM r) n) r (untM r) x (grpM r) i m j) (fun l _=>some (l.all (fun u=>gofM (grpM r) (itmZ r u).fClass == c.fGroup) && xs.all (cgB r))) (by omega) ?_ ?_ fu () (by omega)
   · rw [key2]; rfl
   · intro m _ j u us e2 hd2 ih2
     have ih2:=ih2 ()
     simp only [d_spec_l15Group_L1.eq_2]
     unfold d_spec_l15Group_L1_B d_spec_l15Group_J3 d_spec_l15Group_J2
     simp only [e,ob_some,hd2,cond_true,e2,s_item,s_gof (grpM_ok r).1 (grpM_ok r).2 (show 100 ≤ fu by omega),ih2,List.all_cons,bne]
     cases gofM (grpM r) (itmZ r u).fClass == c.fGroup <;> rfl
   · intro m _ j hd2
     simp only [d_spec_l15Group_L1.eq_2]
     unfold d_spec_l15Group_L1_B d_spec_l15Group_J1
     simp only [e,ob_some,hd2,cond_false,ih]
     rfl
 · intro n _ i hd
   simp only [d_spec_l15Group_L2.eq_2]
   unfold d_spec_l15Group_L2_B
   rw [hd,cond_false]; rfl
theorem s_cheapA {fu:Nat} {r:Request} (h:Sm fu r) {x:Plan} (hx:Sp x):d_spec_l15Cheap fu r x = some (x.fCartons.all (ccB r)):=by
 have hfu:=h.fu
 have hc:=hx.cars
 unfold d_spec_l15Cheap
 have key:=lp x.fCartons (fun n (_:Unit) i=>d_spec_l15Cheap_L1 fu r x n i) (fun l _=>some (l.all (ccB r))) (by omega) ?_ ?_ fu () (by omega)
 · exact key
 · intro n _ i c xs e hd ih
   have ih:=ih ()
   have hu:=hx.units c (ix_mem e)
   simp only [d_spec_l15Cheap_L1.eq_2]
   unfold d_spec_l15Cheap_L1_B d_spec_l15Cheap_J2 d_spec_l15Cheap_J1
   simp only [hd,cond_true,e,ob_some,s_cheap h _ hu,List.all_cons,ih,bne,ccB]
   cases (chpM r c.fUnits).2 <;> cases (chpM r c.fUnits).1.fId == c.fType <;> rfl
 · intro n _ i hd
   simp only [d_spec_l15Cheap_L1.eq_2]
   unfold d_spec_l15Cheap_L1_B
   rw [hd,cond_false]; rfl
def cs (x:Plan):List (Carton × Spot):=x.fCartons.zip x.fSpots
def insP (r:Request) (p:Carton × Spot):Bool:=winB r.fPallet (boxM r p.1) p.2
def ovP (r:Request) (p q:Carton × Spot):Bool:=ovlB (boxM r p.1) p.2 (boxM r q.1) q.2
def aprL (r:Request):List (Carton × Spot) → List (Carton × Spot) → Bool
 | _,[]=>true
 | pre,p :: l=>pre.all (fun q=>!ovP r p q) && aprL r (pre ++ [p]) l
theorem cs_len {x:Plan} (el:x.fSpots.length = x.fCartons.length):(cs x).length = x.fCartons.length:=by simp [cs]; omega
theorem s_insA {fu:Nat} {r:Request} (h:Sm fu r) {x:Plan} (hx:Sp x) (el:x.fSpots.length = x.fCartons.length):d_spec_l15Inside fu r x = some ((cs x).all (insP r)):=by
 have hfu:=h.fu
 have hc:=hx.cars
 have hz:=cs_len el
 unfold d_spec_l15Inside
 have key:=lp (cs x) (fun n (_:Unit) i=>d_spec_l15Inside_L1 fu r x n i) (fun l _=>some (l.all (insP r))) (by omega) ?_ ?_ fu () (by omega)
 · exact key
 · intro n _ i p xs e hd ih
   have ih:=ih ()
   obtain ⟨e1,e2⟩:=zip_ix e
   have hu:=hx.units p.1 (ix_mem e1)
   rw [hz] at hd
   simp only [d_spec_l15Inside_L1.eq_2]
   unfold d_spec_l15Inside_L1_B
   simp only [hd,cond_true,e1,e2,ob_some,s_boxM h _ hu,s_win,ih,List.all_cons,insP]
   cases winB r.fPallet (boxM r p.1) p.2 <;> rfl
 · intro n _ i hd
   rw [hz] at hd
   simp only [d_spec_l15Inside_L1.eq_2]
   unfold d_spec_l15Inside_L1_B
   rw [hd,cond_false]; rfl
theorem s_aprA {fu:Nat} {r:Request} (h:Sm fu r) {x:Plan} (hx:Sp x) (el:x.fSpots.length = x.fCartons.length):d_spec_l15Apart fu r x = some (aprL r [] (cs x)):=by
 have hfu:=h.fu
 have hc:=hx.cars
 have hz:=cs_len el
 unfold d_spec_l15Apart
 have key:=lpP (cs x) (fun n (_:Unit) i=>d_spec_l15Apart_L2 fu r x n i) (fun pre l _=>some (aprL r pre l)) (by omega) ?_ ?_ fu () (by omega)
 · exact key
 · intro n _ pre p xs e0 e hd ih
   have ih:=ih ()
   obtain ⟨e1,e2⟩:=zip_ix e
   have hu:=hx.units p.1 (ix_mem e1)
   have hpl:pre.length ≤ (cs x).length:=by rw [e0]; simp
   rw [hz] at hd
   simp only [d_spec_l15Apart_L2.eq_2]
   unfold d_spec_l15Apart_L2_B
   rw [hd,cond_true]
   have key2:=lp pre (fun m (_:Unit) j=>d_spec_l15Apart_L1 fu (d_spec_l15Apart_L2 fu r x n) r x (pre.length:Int) m j) (fun l _=>some (l.all (fun q=>!ovP r p q) && aprL r (pre ++ [p]) xs)) (by omega) ?_ ?_ fu () (by omega)
   · rw [key2]; rfl
   · intro m _ j q qs f hd2 ih2
     have ih2:=ih2 ()
     have f':ix (cs x) j = some q:=by rw [e0]; exact ix_app f
     obtain ⟨f1,f2⟩:=zip_ix f'
     have hu2:=hx.units q.1 (ix_mem f1)
     simp only [d_spec_l15Apart_L1.eq_2]
     unfold d_spec_l15Apart_L1_B
     simp only [hd2,cond_true,e1,e2,f1,f2,ob_some,s_boxM h _ hu,s_boxM h _ hu2,s_ovl,ih2,List.all_cons,ovP]
     cases ovlB (boxM r p.1) p.2 (boxM r q.1) q.2 <;> rfl
   · intro m _ j hd2
     simp only [d_spec_l15Apart_L1.eq_2]
     unfold d_spec_l15Apart_L1_B
     rw [hd2,cond_false,ih]; rfl
 · intro n _ hd
   rw [hz] at hd ⊢
   simp only [d_spec_l15Apart_L2.eq_2]
   unfold d_spec_l15Apart_L2_B
   rw [hd,cond_false]; rfl
def plB (r:Request) (x:Plan) (k:Int):Bool :=
 !(((onM x k).length:Int) == 0) && (!(decide (pgM r x k > r.fPallet.fGram)) && (onM x k).all fun i=>(carM x i).fGroup == (carM x (ix (onM x k) 0 |>.getD 0)).fGroup)
theorem on_cars {x:Plan} {k:Int} (hne:(((onM x k).length:Int) == 0) = false):∃ i0 c0,ix (onM x k) 0 = some i0 ∧ ix x.fCartons i0 = some c0 ∧ ∃ rest,onM x k = i0 :: rest:=by
 cases hl:onM x k with
 | nil=>simp [hl] at hne
 | cons i0 rest =>
  obtain ⟨c0,_,h1,_⟩:=onM_mem (show i0 ∈ onM x k by rw [hl]; simp)
  exact ⟨i0,c0,rfl,h1,rest,rfl⟩
theorem s_pltA {fu:Nat} {r:Request} (h:Sm fu r) {x:Plan} (hx:Sp x):d_spec_l15Pallets fu r x = some ((ints 0 (palM x.fSpots).toNat).all (plB r x)):=by
 have hfu:=h.fu
 have hc:=hx.cars
 have hs:=hx.spots
 have hb:=palM_bd x.fSpots
 unfold d_spec_l15Pallets
 rw [s_pals hs (by omega),ob_some]
 have key:=lpN (palM x.fSpots) (fun n (_:Unit) i=>d_spec_l15Pallets_L2 fu r x (palM x.fSpots) n i) (fun l _=>some (l.all (plB r x))) (by omega) ?_ ?_ (palM x.fSpots).toNat fu () 0 (by omega) (by omega) (by omega)
 · exact key
 · intro n _ k xs h0 h1 hd ih
   have ih:=ih ()
   have hol:=onM_len x k
   simp only [d_spec_l15Pallets_L2.eq_2]
   unfold d_spec_l15Pallets_L2_B
   rw [hd,cond_true,s_on hs hc (by omega) (by omega),ob_some,List.all_cons]
   generalize xs.all (plB r x) = A at ih ⊢
   unfold plB
   cases hne:((onM x k).length:Int) == 0
   · rw [cond_false,s_pg h hx,ob_some,Bool.not_false,Bool.true_and]
     cases decide (pgM r x k > r.fPallet.fGram)
     · obtain ⟨i0,c0,g1,g2,rest,g3⟩:=on_cars hne
       rw [cond_false,g1,Option.getD_some,Bool.not_false,Bool.true_and]
       unfold d_spec_l15Pallets_J2
       have e0:carM x i0 = c0:=by unfold carM; rw [g2]; rfl
       rw [e0]
       have key2:∀ (qs:List Int) (pre:List Int) (m:Nat),onM x k = pre ++ qs → qs.length < m → d_spec_l15Pallets_L1 fu (d_spec_l15Pallets_L2 fu r x (palM x.fSpots) n) x k (onM x k) m (pre.length:Int) = some (qs.all (fun i=>(carM x i).fGroup == c0.fGroup) && A):=by
        intro qs
        induction qs with
        | nil =>
         intro pre m e hm
         obtain ⟨m,rfl⟩:∃ k,m = k + 1:=⟨m - 1,by omega⟩
         rw [d_spec_l15Pallets_L1.eq_2]
         unfold d_spec_l15Pallets_L1_B d_spec_l15Pallets_J1
         rw [show decide ((pre.length:Int) < ((onM x k).length:Int)) = false from decide_eq_false (by rw [e]; simp),cond_false,ih]
         rfl
        | cons i qs ihq =>
         intro pre m e hm
         obtain ⟨m,rfl⟩:∃ k,m = k + 1:=⟨m - 1,by omega⟩
         have hi:i ∈ onM x k:=by rw [e]; simp
         obtain ⟨c,_,hci,_⟩:=onM_mem hi
         have hpi:ix (onM x k) (pre.length:Int) = some i:=by rw [e,ix_nat]; simp
         have hpl:pre.length + 1 ≤ (onM x k).length:=by rw [e]; simp
         rw [d_spec_l15Pallets_L1.eq_2]
         unfold d_spec_l15Pallets_L1_B
         rw [show decide ((pre.length:Int) < ((onM x k).length:Int)) = true from decide_eq_true (by omega),cond_true,hpi,ob_some,hci,ob_some,g1,ob_some,g2,ob_some,w64_s _ (by omega)]
         have:=ihq (pre ++ [i]) m (by rw [e]; simp) (by simp at hm; omega)
         rw [List.length_append,List.length_singleton] at this
         rw [this,List.all_cons,show carM x i = c by unfold carM; rw [hci]; rfl]
         simp only [bne]
         cases c.fGroup == c0.fGroup <;> rfl
       have:=key2 rest [i0] fu (by rw [g3]; rfl) (by have:(onM x k).length = rest.length + 1:=(by rw [g3]; rfl); omega)
       rw [show ((1:Int)) = (([i0]:List Int).length:Int) from rfl,this]
       conv=>rhs; rw [g3]
       rw [List.all_cons,e0]
       simp
     · rfl
   · rfl
 · intro n _ i hd
   simp only [d_spec_l15Pallets_L2.eq_2]
   unfold d_spec_l15Pallets_L2_B
   rw [hd,cond_false]; rfl
def chkM (r:Request) (x:Plan):Int :=
 bif !(clsM r == 0) then 1 else bif !(pokB x) then 2 else bif empB x then 2 else bif !(onceB r x) then 3 else bif !(x.fCartons.all (chB r)) then 4 else
 bif !(x.fCartons.all (cgB r)) then 5 else bif !(x.fCartons.all (ccB r)) then 6 else bif !((cs x).all (insP r)) then 7 else bif !(aprL r [] (cs x)) then 8 else
 bif !((ints 0 (palM x.fSpots).toNat).all (plB r x)) then 9 else 0
theorem pok_len {x:Plan} (h:pokB x = true):x.fSpots.length = x.fCartons.length:=by
 unfold pokB at h
 simp only [Bool.and_eq_true] at h
 simpa using h.1
theorem s_check {fu:Nat} {r:Request} (h:Sm fu r) {x:Plan} (hx:Sp x):d_spec_Check fu r x = some (chkM r x):=by
 have hfu:=h.fu
 unfold d_spec_Check chkM
 rw [s_cls h,ob_some]
 cases hc:clsM r == 0
 · rw [show (clsM r != 0) = true by simp only [bne,hc]; rfl]; rfl
 · have hz:clsM r = 0:=by simpa using hc
   have hu:d_spec_l6Units fu r = some (untM r):=s_l6c h hz
   rw [show (clsM r != 0) = false by simp [hz],cond_false,s_pok hx (by omega),ob_some]
   cases hp:pokB x
   · rfl
   · have el:=pok_len hp
     unfold d_spec_Check_J1
     rw [Bool.not_true,cond_false,s_emp hx (by omega),ob_some]
     cases empB x
     · rw [cond_false,hu,ob_some,s_once hfu hx,ob_some,s_holdsA h hx,ob_some,s_groupA h hx,ob_some,s_cheapA h hx,ob_some,s_insA h hx el,ob_some,s_aprA h hx el,ob_some,s_pltA h hx,ob_some]
       cases onceB r x <;> cases x.fCartons.all (chB r) <;> cases x.fCartons.all (cgB r) <;> cases x.fCartons.all (ccB r) <;> cases (cs x).all (insP r) <;> cases aprL r [] (cs x) <;> cases (ints 0 (palM x.fSpots).toNat).all (plB r x) <;> rfl
     · rfl
theorem typ_mem {r:Request} {id:Int} {t:Typ} (h:typM r id = some t):t ∈ r.fTypes:=List.mem_of_find?_eq_some h
theorem chp_any (r:Request) (us:List Int):∀ (l:List Typ) (s:Typ × Bool),(l.foldl (chp r us) s).2 = (s.2 || l.any (hldB r us))
 | [],s=>by simp
 | t :: l,s=>by
  rw [List.foldl_cons,chp_any r us l,List.any_cons]
  unfold chp
  obtain ⟨b,f⟩:=s
  cases hldB r us t <;> cases f <;> simp
  cases (decide (t.fCost < b.fCost) || t.fCost == b.fCost && decide (t.fId < b.fId)) <;> simp
theorem chp_some {r:Request} {us:List Int} {t:Typ} (ht:t ∈ r.fTypes) (h:hldB r us t = true):(chpM r us).2 = true:=by
 unfold chpM
 rw [chp_any]
 simp only [Bool.false_or]
 exact List.any_eq_true.2 ⟨t,ht,h⟩
theorem ch_in {r:Request} {c:Carton} (h:chB r c = true):∀ u ∈ c.fUnits,0 ≤ u ∧ u < (untM r).length:=by
 unfold chB at h
 intro u hu
 split at h
 · simp only [hldB,Bool.and_eq_true] at h
   have:=List.all_eq_true.1 h.2.1 u hu
   simp only [uOk,Bool.and_eq_true] at this
   exact itm_isSome.1 this.1
 · cases h
theorem grp_named {r:Request} {u:Int} (hu:0 ≤ u ∧ u < (untM r).length) {g:Int} (hg:0 ≤ g) :
    (gofM (grpM r) (itmZ r u).fClass == g) = (match ix (grpM r) g with | some l=>l.contains (itmZ r u).fClass | none=>false):=by
 have hi:=itmZ_in hu
 obtain ⟨i,l,h1,h2,h3⟩:=gof_prs (itm_prs hi)
 rw [h3]
 apply Bool.eq_iff_iff.2
 constructor
 · intro h
   have e:(i:Int) = g:=by simpa using h
   rw [← e,ix_at h1]
   simpa using h2
 · intro h
   cases hx:ix (grpM r) g with
   | none=>rw [hx] at h; cases h
   | some m =>
    rw [hx] at h
    obtain ⟨g0,g1,g2⟩:=ix_some hx
    have:=grp_apart h1 g2 h2 (by simpa using h)
    simp; omega
theorem i_fault {fu:Nat} {r:Request} (h:Sm fu r) {x:Plan} (hx:Sp x) (hg:∀ c ∈ x.fCartons,0 ≤ c.fGroup):d_impl_cartonFault fu r x =
    some (bif !(x.fCartons.all (chB r)) then 4 else bif !(x.fCartons.all (cgB r)) then 5 else bif !(x.fCartons.all (ccB r)) then 6 else 0):=by
 have hfu:=h.fu
 have hc:=hx.cars
 unfold d_impl_cartonFault
 have key:=lpI x.fCartons (fun n (_:Unit) i=>d_impl_cartonFault_L3 fu r x n i) (fun l _=>some (bif !(l.all (chB r)) then 4 else bif !(x.fCartons.all (cgB r)) then 5 else bif !(x.fCartons.all (ccB r)) then 6 else 0))
  (fun l _=>l.all (chB r) = true → x.fCartons.all (chB r) = true) (by omega) ?_ ?_ fu () (fun h=>h) (by omega)
 · exact key
 · intro n _ i c xs e hd hI ih
   have hu:=hx.units c (ix_mem e)
   simp only [d_impl_cartonFault_L3.eq_2]
   unfold d_impl_cartonFault_L3_B d_impl_cartonFault_J1
   rw [hd,cond_true,e,ob_some,i_typById h,ob_some,List.all_cons]
   rw [List.all_cons] at hI
   cases ht:typM r c.fType with
   | none=>rw [show chB r c = false by unfold chB; rw [ht]]; rfl
   | some t =>
    simp only [othM,Bool.not_true,cond_false]
    rw [i_holds h _ t hu,ob_some]
    have e1:chB r c = hldB r c.fUnits t:=by unfold chB; rw [ht]
    rw [e1] at hI ⊢
    cases hh:hldB r c.fUnits t
    · rfl
    · rw [hh,Bool.true_and] at hI
      rw [Bool.not_true,cond_false,ih () hI,Bool.true_and]
 · intro n _ i hd hI
   have hA:=hI rfl
   simp only [d_impl_cartonFault_L3.eq_2]
   unfold d_impl_cartonFault_L3_B
   rw [hd,cond_false,i_grp h,ob_some]
   show _ = some (bif !(x.fCartons.all (cgB r)) then 5 else bif !(x.fCartons.all (ccB r)) then 6 else 0)
   have key2:=lp x.fCartons (fun n (_:Unit) i=>d_impl_cartonFault_L2 fu r x (grpM r) n i) (fun l _=>some (bif !(l.all (cgB r)) then 5 else bif !(x.fCartons.all (ccB r)) then 6 else 0)) (by omega) ?_ ?_ fu () (by omega)
   · exact key2
   · intro n _ i c xs e hd ih
     have ih:=ih ()
     have hu:=hx.units c (ix_mem e)
     have hin:=ch_in (List.all_eq_true.1 hA c (ix_mem e))
     have hil:=itsM_len r c.fUnits
     simp only [d_impl_cartonFault_L2.eq_2]
     unfold d_impl_cartonFault_L2_B
     rw [hd,cond_true,e,ob_some,i_items h _ hu (by omega),ob_some,itsM_map hin]
     rw [i_anyItem _ (fun y=>!(match ix (grpM r) c.fGroup with | some l=>l.contains y.fClass | none=>false)) ?_ (by simp; omega) (by simp; omega),ob_some,List.any_map,List.all_cons]
     · have e1:cgB r c = !(c.fUnits.any ((fun y=>!(match ix (grpM r) c.fGroup with | some l=>l.contains y.fClass | none=>false)) ∘ itmZ r)):=by
         unfold cgB
         rw [List.not_any_eq_all_not]
         apply all_cong
         intro u hu'
         rw [grp_named (hin u hu') (hg c (ix_mem e))]
         simp only [Function.comp,Bool.not_not]
       rw [e1,ih]
       cases c.fUnits.any ((fun y=>!(match ix (grpM r) c.fGroup with | some l=>l.contains y.fClass | none=>false)) ∘ itmZ r) <;> simp
     · intro y _
       unfold d_impl_cartonFault_1
       have hg0:=hg c (ix_mem e)
       by_cases hgl:c.fGroup ≥ (grpM r).length
       · have e0:ix (grpM r) c.fGroup = none:=by
           cases hq:ix (grpM r) c.fGroup with
           | none=>rfl
           | some l=>have:=(ix_some hq).2.1; omega
         rw [e0,decide_eq_true hgl,cond_true]; rfl
       · have hlt:c.fGroup.toNat < (grpM r).length:=by omega
         have e0:ix (grpM r) c.fGroup = some (grpM r)[c.fGroup.toNat]:=by
          have:=ix_i hlt
          rwa [show ((c.fGroup.toNat:Nat):Int) = c.fGroup by omega] at this
         have hgl':=(grpM_ok r).2 _ (List.getElem_mem hlt)
         rw [e0,decide_eq_false hgl,cond_false,ob_some,i_has (by omega) (by omega),ob_some]
   · intro n _ i hd
     simp only [d_impl_cartonFault_L2.eq_2]
     unfold d_impl_cartonFault_L2_B
     rw [hd,cond_false]
     show _ = some (bif !(x.fCartons.all (ccB r)) then 6 else 0)
     have key3:=lpI x.fCartons (fun n (_:Unit) i=>d_impl_cartonFault_L1 fu r x n i) (fun l _=>some (bif !(l.all (ccB r)) then 6 else 0)) (fun l _=>l.all (chB r) = true) (by omega) ?_ ?_ fu () hA (by omega)
     · exact key3
     · intro n _ i c xs e hd hI ih
       have hu:=hx.units c (ix_mem e)
       rw [List.all_cons,Bool.and_eq_true] at hI
       have hch:=hI.1
       have h2:(chpM r c.fUnits).2 = true:=by
        unfold chB at hch
        split at hch
        · rename_i t ht
          exact chp_some (typ_mem ht) hch
        · cases hch
       simp only [d_impl_cartonFault_L1.eq_2]
       unfold d_impl_cartonFault_L1_B
       rw [hd,cond_true,e,ob_some,i_cheap h _ hu,ob_some,ih () hI.2,List.all_cons,ccB,h2,Bool.true_and]
       simp only [bne]
       cases (chpM r c.fUnits).1.fId == c.fType <;> rfl
     · intro n _ i hd _
       simp only [d_impl_cartonFault_L1.eq_2]
       unfold d_impl_cartonFault_L1_B
       rw [hd,cond_false]; rfl
theorem i_spots {fu:Nat} {r:Request} (h:Sm fu r) {x:Plan} (hx:Sp x) (el:x.fSpots.length = x.fCartons.length):d_impl_spotFault fu r x =
    some (bif !((cs x).all (insP r)) then 7 else bif !(aprL r [] (cs x)) then 8 else bif !((ints 0 (palM x.fSpots).toNat).all (plB r x)) then 9 else 0):=by
 have hfu:=h.fu
 have hc:=hx.cars
 have hs:=hx.spots
 have hz:=cs_len el
 have hb:=palM_bd x.fSpots
 have bx_len:(((cs x).map fun p=>boxM r p.1).length:Int) = x.fCartons.length:=by simp [hz]
 unfold d_impl_spotFault
 have key:=lpPI (cs x) (fun n (o:List Box) i=>d_impl_spotFault_L4 fu r x n o i) (fun _ l _=>some (bif !(l.all (insP r)) then 7 else bif !(aprL r [] (cs x)) then 8 else bif !((ints 0 (palM x.fSpots).toNat).all (plB r x)) then 9 else 0))
  (fun pre l o=>o = pre.map fun p=>boxM r p.1) (by omega) ?_ ?_ fu [] rfl (by omega)
 · exact key
 · intro n o pre p xs e0 e hd hI ih
   obtain ⟨e1,e2⟩:=zip_ix e
   have hu:=hx.units p.1 (ix_mem e1)
   have hpl:pre.length ≤ (cs x).length:=by rw [e0]; simp
   rw [hz] at hd
   simp only [d_impl_spotFault_L4.eq_2]
   unfold d_impl_spotFault_L4_B
   rw [hd,cond_true,e1,ob_some,i_boxM h _ hu,ob_some,e2,ob_some,i_win,ob_some,List.all_cons,insP]
   cases winB r.fPallet (boxM r p.1) p.2
   · rfl
   · subst hI
     rw [Bool.not_true,cond_false,ap1 (by simp; omega),ob_some,ih _ (by simp),Bool.true_and]
 · intro n o hd hI
   rw [hz] at hd ⊢
   simp only [d_impl_spotFault_L4.eq_2]
   unfold d_impl_spotFault_L4_B
   rw [hd,cond_false]
   show _ = some (bif !(aprL r [] (cs x)) then 8 else bif !((ints 0 (palM x.fSpots).toNat).all (plB r x)) then 9 else 0)
   subst hI
   have key2:=lpP (cs x) (fun n (_:Unit) i=>d_impl_spotFault_L3 fu r x ((cs x).map fun p=>boxM r p.1) n i) (fun pre l _=>some (bif !(aprL r pre l) then 8 else bif !((ints 0 (palM x.fSpots).toNat).all (plB r x)) then 9 else 0)) (by omega) ?_ ?_ fu () (by omega)
   · exact key2
   · intro n _ pre p xs e0 e hd ih
     have ih:=ih ()
     obtain ⟨e1,e2⟩:=zip_ix e
     have hu:=hx.units p.1 (ix_mem e1)
     have hpl:pre.length ≤ (cs x).length:=by rw [e0]; simp
     have b1:ix ((cs x).map fun p=>boxM r p.1) (pre.length:Int) = some (boxM r p.1):=by
      rw [ix_nat,List.getElem?_map]
      rw [ix_nat] at e
      rw [e]; rfl
     simp only [d_impl_spotFault_L3.eq_2]
     unfold d_impl_spotFault_L3_B
     rw [bx_len,← hz,hd,cond_true]
     have key3:=lp pre (fun m (_:Unit) j=>d_impl_spotFault_L1 fu (d_impl_spotFault_L3 fu r x ((cs x).map fun p=>boxM r p.1) n) x ((cs x).map fun p=>boxM r p.1) (pre.length:Int) m j) (fun l _=>some (bif !(l.all (fun q=>!ovP r p q) && aprL r (pre ++ [p]) xs) then 8 else bif !((ints 0 (palM x.fSpots).toNat).all (plB r x)) then 9 else 0)) (by omega) ?_ ?_ fu () (by omega)
     · rw [key3]; rfl
     · intro m _ j q qs f hd2 ih2
       have ih2:=ih2 ()
       have f':ix (cs x) j = some q:=by rw [e0]; exact ix_app f
       obtain ⟨f1,f2⟩:=zip_ix f'
       obtain ⟨j0,j1,j2⟩:=ix_some f'
       have b2:ix ((cs x).map fun p=>boxM r p.1) j = some (boxM r q.1):=by
        unfold ix
        rw [if_pos j0,List.getElem?_map,j2]; rfl
       simp only [d_impl_spotFault_L1.eq_2]
       unfold d_impl_spotFault_L1_B
       simp only [hd2,cond_true,b1,e2,b2,f2,ob_some,i_ovl,ih2,List.all_cons,ovP]
       cases ovlB (boxM r p.1) p.2 (boxM r q.1) q.2 <;> rfl
     · intro m _ j hd2
       simp only [d_impl_spotFault_L1.eq_2]
       unfold d_impl_spotFault_L1_B
       rw [hd2,cond_false,ih]; rfl
   · intro n _ hd
     simp only [d_impl_spotFault_L3.eq_2]
     unfold d_impl_spotFault_L3_B
     rw [bx_len,← hz,hd,cond_false,i_pals hs (by omega),ob_some]
     show _ = some (bif !((ints 0 (palM x.fSpots).toNat).all (plB r x)) then 9 else 0)
     have key4:=lpN (palM x.fSpots) (fun n (_:Unit) i=>d_impl_spotFault_L2 fu r x (palM x.fSpots) n i) (fun l _=>some (bif !(l.all (plB r x)) then 9 else 0)) (by omega) ?_ ?_ (palM x.fSpots).toNat fu () 0 (by omega) (by omega) (by omega)
     · exact key4
     · intro n _ k xs h0 h1 hd ih
       have ih:=ih ()
       have hol:=onM_len x k
       simp only [d_impl_spotFault_L2.eq_2]
       unfold d_impl_spotFault_L2_B
       rw [hd,cond_true,i_on hs (by omega),ob_some,List.all_cons]
       generalize xs.all (plB r x) = A at ih ⊢
       unfold plB
       cases hne:((onM x k).length:Int) == 0
       · rw [cond_false,i_pg h hx,ob_some,Bool.not_false,Bool.true_and]
         cases decide (pgM r x k > r.fPallet.fGram)
         · obtain ⟨i0,c0,g1,g2,rest,g3⟩:=on_cars hne
           unfold d_impl_spotFault_J2 d_impl_spotFault_J1
           rw [cond_false,g1,Option.getD_some,Bool.not_false,Bool.true_and]
           have e0:carM x i0 = c0:=by unfold carM; rw [g2]; rfl
           rw [e0,i_anyInt _ (fun i=>!((carM x i).fGroup == c0.fGroup)) ?_ (by omega) (by omega),ob_some,ih]
           · rw [show (onM x k).all (fun i=>(carM x i).fGroup == c0.fGroup) = !((onM x k).any fun i=>!((carM x i).fGroup == c0.fGroup)) by rw [List.not_any_eq_all_not]; simp]
             cases (onM x k).any fun i=>!((carM x i).fGroup == c0.fGroup) <;> simp
           · intro i hi
             obtain ⟨c,_,hci,_⟩:=onM_mem hi
             unfold d_impl_spotFault_1
             rw [hci,ob_some,g1,ob_some,g2,ob_some,show carM x i = c by unfold carM; rw [hci]; rfl]
             rfl
         · rfl
       · rfl
     · intro n _ i hd
       simp only [d_impl_spotFault_L2.eq_2]
       unfold d_impl_spotFault_L2_B
       rw [hd,cond_false]; rfl
theorem pok_group {x:Plan} (h:pokB x = true):∀ c ∈ x.fCartons,0 ≤ c.fGroup ∧ c.fGroup ≤ 3:=by
 have el:=pok_len h
 unfold pokB at h
 simp only [Bool.and_eq_true] at h
 intro c hc
 obtain ⟨i,hi⟩:=List.mem_iff_getElem?.1 hc
 have hlt:=(List.getElem?_eq_some_iff.1 hi).1
 have hz:(c,x.fSpots[i]'(by omega)) ∈ x.fCartons.zip x.fSpots:=by
  apply List.mem_iff_getElem?.2
  refine ⟨i,List.getElem?_zip_eq_some.2 ⟨hi,List.getElem?_eq_getElem _⟩⟩
 have:=List.all_eq_true.1 h.2.2 _ hz
 simp only [cokB,Bool.and_eq_true,inb_iff] at this
 omega
theorem i_check {fu:Nat} {r:Request} (h:Sm fu r) {x:Plan} (hx:Sp x):d_impl_Check fu r x = some (chkM r x):=by
 have hfu:=h.fu
 have hc:=hx.cars
 have hfl:=flatU_len x.fCartons
 have ha:=hx.all
 have hul:=untM_len r
 unfold d_impl_Check chkM
 rw [i_sound h,ob_some]
 cases hz:clsM r == 0
 · rfl
 · rw [Bool.not_true,cond_false,i_pok hx (by omega),ob_some]
   cases hp:pokB x
   · rfl
   · have el:=pok_len hp
     rw [Bool.not_true,cond_false,i_anyCar (l:=x.fCartons) (fun y=>d_impl_Check_1 fu y) (fun c=>(c.fUnits.length:Int) == 0) (fun c _=>rfl) hc (by omega),ob_some]
     show (bif empB x then _ else _) = _
     cases empB x
     · rw [cond_false]
       unfold d_impl_Check_J1 d_slices_Sort_int_int
       rw [i_flat hx (by omega),ob_some,sortI_some (by omega),ob_some,i_unt h,ob_some,i_places _ (by omega) (by omega),ob_some,i_equal _ _ (by simp; omega) (by simp; omega),ob_some,i_fault h hx (fun c hc=>(pok_group hp c hc).1),ob_some,i_spots h hx el,ob_some]
       have e1:decide ((flatU x.fCartons).mergeSort (fun x y=>decide (x ≤ y)) = ints 0 (untM r).length) = onceB r x:=by
        unfold onceB perB
        rw [ints_sorted]
       rw [e1]
       cases onceB r x
       · rfl
       · cases x.fCartons.all (chB r)
         · rfl
         · cases x.fCartons.all (cgB r)
           · rfl
           · cases x.fCartons.all (ccB r) <;> rfl
     · rfl
end Go.Proofs.YthkaklkinepfkaaGreatDoor
