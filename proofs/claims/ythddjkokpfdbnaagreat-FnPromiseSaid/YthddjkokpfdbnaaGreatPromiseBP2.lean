import Derived.Test.YthddjkokpfdbnaaGreatPromiseBP1
set_option linter.unusedSimpArgs false
set_option linter.unusedVariables false
/- Kinds, groups and the units of a group, by spec and by impl. -/
namespace Go.Proofs.YthddjkokpfdbnaaGreat
open Go
open Enc (rd ow)
open Arg (argv)
open Ret (retv)
open Wf (wf)
theorem s_has {fu:Nat} {l:List Int} (hl:l.length ≤ 1048576) (hf:l.length < fu) (x:Int):d_spec_l1Has fu l x = some (l.contains x):=by
 unfold d_spec_l1Has
 refine lp l (fun n (_:Unit) i=>d_spec_l1Has_L1 fu l x n i) (fun l _=>some (l.contains x)) (by omega) ?_ ?_ fu () hf
 · intro n s i y ys hy hd ih
   simp only [d_spec_l1Has_L1.eq_2]
   unfold d_spec_l1Has_L1_B
   simp only [hd,cond_true,hy,ob_some,ih (),List.contains_cons]
   rw [ibeq y x]
   cases x == y <;> rfl
 · intro n s i hd
   simp only [d_spec_l1Has_L1.eq_2]
   unfold d_spec_l1Has_L1_B
   simp only [hd,cond_false]
   rfl
theorem i_has {fu:Nat} {l:List Int} (hl:l.length ≤ 1048576) (hf:l.length < fu) (x:Int):d_slices_Contains_int_int fu l x = some (l.contains x):=by
 unfold d_slices_Contains_int_int d_slices_Index_int_int
 have:=idx_loop l (fun n i=>d_slices_Index_int_int_L1 fu l x n i) (fun y=>x == y) (by omega) (by
  intro n i y hx hd
  simp only [d_slices_Index_int_int_L1.eq_2]
  unfold d_slices_Index_int_int_L1_B
  simp only [hd,cond_true,hx,ob_some]) (by
  intro n i hd
  simp only [d_slices_Index_int_int_L1.eq_2]
  unfold d_slices_Index_int_int_L1_B
  simp only [hd,cond_false]) fu hf
 rw [this,ob_some,fndI_any _ l 0 (by omega),List.contains_eq_any_beq]
theorem s_join {fu:Nat} {p:List Pair} (hp:p.length ≤ 1048576) (hpf:p.length < fu) {g:List Int} (hl:g.length ≤ 1048576) (hf:g.length < fu) (c:Int):d_spec_l3Joins fu p g c = some (g.all (mutB p c)):=by
 unfold d_spec_l3Joins
 refine lp g (fun n (_:Unit) i=>d_spec_l3Joins_L1 fu p g c n i) (fun l _=>some (l.all (mutB p c))) (by omega) ?_ ?_ fu () hf
 · intro n s i y ys hy hd ih
   simp only [d_spec_l3Joins_L1.eq_2]
   unfold d_spec_l3Joins_L1_B d_spec_l3Joins_J1
   simp only [hd,cond_true,hy,ob_some,ih (),s_bes hp hpf,List.all_cons,mutB]
   cases besB p y c <;> cases besB p c y <;> rfl
 · intro n s i hd
   simp only [d_spec_l3Joins_L1.eq_2]
   unfold d_spec_l3Joins_L1_B
   simp only [hd,cond_false]
   rfl
theorem s_prs {fu:Nat} {r:Request} (h:Sm fu r):d_spec_Present fu r = some (prsM r):=by
 have hfu:=h.fu
 have h1:=h.items
 unfold d_spec_Present prsM
 rw [s_cls h,ob_some]
 by_cases hc:clsM r = 0
 · rw [show (clsM r != 0) = false by simp [hc],show (clsM r == 0) = true by simp [hc],cond_false,cond_true]
   have e27:∀ (k:List Int → Int → Option (List Int)) (out:List Int) (c:Int),d_spec_Present_L1 fu k r out c fu false 0 = bif r.fItems.any (fun x=>x.fClass == c) then (obind (apnd 8 out [c]) fun x=>k x (w64 (c + 1))) else k out (w64 (c + 1)):=by
    intro k out c
    refine lp r.fItems (fun n f i=>d_spec_Present_L1 fu k r out c n f i) (fun l f=>bif f || l.any (fun x=>x.fClass == c) then (obind (apnd 8 out [c]) fun x=>k x (w64 (c + 1))) else k out (w64 (c + 1))) (by omega) ?_ ?_ fu false (by omega)
    · intro n f i x xs hx hd ih
      simp only [d_spec_Present_L1.eq_2]
      unfold d_spec_Present_L1_B d_spec_Present_J2
      simp only [hd,cond_true,hx,ob_some,ih,List.any_cons]
      cases f
      · rfl
      · rfl
    · intro n f i hd
      simp only [d_spec_Present_L1.eq_2]
      unfold d_spec_Present_L1_B d_spec_Present_J1
      simp only [hd,cond_false,List.any_nil,Bool.or_false]
   have:=lpNI 4 (fun n out i=>d_spec_Present_L2 fu r n out i) (fun xs out=>some (out ++ xs.filter fun c=>r.fItems.any fun x=>x.fClass == c)) (fun xs out=>out.length + xs.length ≤ 4) (by omega) ?_ ?_ 4 fu [] 0 (by omega) (by omega) (by omega) (by simp [ints])
   · simpa using this
   · intro n out i xs h0 h1 hd hI ih
     simp only [List.length_cons] at hI
     simp only [d_spec_Present_L2.eq_2]
     unfold d_spec_Present_L2_B
     simp only [hd,cond_true,e27]
     cases hb:r.fItems.any fun x=>x.fClass == i
     · rw [cond_false,ih out (by omega)]
       simp [hb]
     · rw [cond_true,ap1 (by simp; omega),ob_some,ih _ (by simp; omega)]
       simp [hb]
   · intro n out i hd hI
     simp only [d_spec_Present_L2.eq_2]
     unfold d_spec_Present_L2_B
     simp only [hd,cond_false]
     simp
 · rw [show (clsM r != 0) = true by simp [hc],show (clsM r == 0) = false by simp [hc],cond_false,cond_true]
theorem i_kinds {fu:Nat} {l:List Int} (hl:l.length ≤ 1048576):∃ k,d_impl_kinds fu l = some k ∧ k.Pairwise (· < ·) ∧ ∀ x,x ∈ k ↔ x ∈ l:=by
 unfold d_impl_kinds d_slices_Clone_int_int d_slices_Sort_int_int d_slices_Compact_int_int
 have hp:=List.mergeSort_perm l (fun x y=>decide (x ≤ y))
 have hs:=mergeSort_le l
 rw [ap1 (by simp; omega),ob_some,ob_some,List.nil_append]
 unfold sortI
 rw [if_pos (by omega),ob_some]
 unfold cmpI
 rw [if_pos (by rw [hp.length_eq]; omega),ob_some]
 obtain ⟨h1,h2⟩:=compact_sorted _ hs
 exact ⟨_,rfl,h1,fun x=>(h2 x).trans hp.mem_iff⟩
theorem i_kinds_sorted {fu:Nat} {l:List Int} (hl:l.length ≤ 1048576) (hs:l.Pairwise (· < ·)):d_impl_kinds fu l = some l:=by
 obtain ⟨k,h1,h2,h3⟩:=i_kinds (fu:=fu) hl
 rw [h1,lt_ext h2 hs h3]
theorem i_prs {fu:Nat} {r:Request} (h:Sm fu r):d_impl_Present fu r = some (prsM r):=by
 have hfu:=h.fu
 have h1:=h.items
 unfold d_impl_Present
 rw [i_sound h,ob_some]
 by_cases hc:clsM r = 0
 · rw [show (clsM r == 0) = true by simp [hc],Bool.not_true,cond_false]
   have:=lpI r.fItems (fun n out i=>d_impl_Present_L1 fu r n out i) (fun xs out=>obind (d_impl_kinds fu (out ++ xs.map (·.fClass))) fun x=>some x) (fun xs out=>out.length + xs.length ≤ 1048576) (by omega) ?_ ?_ fu [] (by simpa using h1) (by omega)
   · rw [List.nil_append] at this
     refine this.trans ?_
     obtain ⟨k,e1,e2,e3⟩:=i_kinds (fu:=fu) (l:=r.fItems.map (·.fClass)) (by simpa using h1)
     rw [e1,ob_some]
     congr 1
     refine lt_ext e2 (prsM_sorted r) fun x=>?_
     rw [e3]
     unfold prsM
     rw [show (clsM r == 0) = true by simp [hc],cond_true,List.mem_filter,ints_mem,List.any_eq_true,List.mem_map]
     constructor
     · rintro ⟨y,hy,rfl⟩
       have:=(bou_items (clsM_zero hc).1).1 y hy
       simp only [itmB,Bool.and_eq_true,inb_iff] at this
       exact ⟨by omega,y,hy,by simp⟩
     · rintro ⟨_,y,hy,e⟩
       exact ⟨y,hy,by simpa using e⟩
   · intro n out i x xs hx hd hI ih
     simp only [List.length_cons] at hI
     simp only [d_impl_Present_L1.eq_2]
     unfold d_impl_Present_L1_B
     simp only [hd,cond_true,hx,ob_some]
     rw [ap1 (by simp; omega),ob_some,ih _ (by simp; omega)]
     simp
   · intro n out i hd hI
     simp only [d_impl_Present_L1.eq_2]
     unfold d_impl_Present_L1_B
     simp only [hd,cond_false]
     simp
 · rw [show (clsM r == 0) = false by simp [hc],Bool.not_false,cond_true]
   unfold prsM
   rw [show (clsM r == 0) = false by simp [hc],cond_false]
theorem fstI_snoc {α:Type} (g:α → Bool) (x:α):∀ (l:List α),fstI g (l ++ [x]) = match fstI g l with | some i=>some i | none=>bif g x then some l.length else none
 | []=>by simp [fstI]
 | y :: ys=>by
  simp only [List.cons_append,fstI]
  cases g y
  · simp only [cond_false]
    rw [fstI_snoc g x ys]
    cases fstI g ys <;> simp
    cases g x <;> simp
  · rfl
def atB {α:Type} (g:α → Bool) (l:List α) (i:Int):Bool:=match ix l i with | some x=>g x | none=>false
def lasI {α:Type} (g:α → Bool) (l:List α) (a i:Int):Int:=bif atB g l i then i else a
theorem fold_down {α:Type} (g:α → Bool) (l:List α):∀ (m:Nat) (a:Int),m ≤ l.length → (down m).foldl (lasI g l) a = match fstI g (l.take m) with | some i=>(i:Int) | none=>a
 | 0,a,_=>by simp [down,fstI]
 | m + 1,a,h=>by
  simp only [down,List.foldl_cons]
  rw [fold_down g l m _ (by omega),List.take_succ_eq_append_getElem (by omega),fstI_snoc,List.length_take,Nat.min_eq_left (by omega)]
  unfold lasI atB
  rw [ix_i (by omega)]
  cases fstI g (l.take m) with
  | some i=>rfl
  | none =>
   simp only
   cases g l[m] <;> rfl
theorem fndI_fst {α:Type} (g:α → Bool):∀ (l:List α) (i:Int),fndI g l i = match fstI g l with | some j=>i + j | none=>-1
 | [],i=>rfl
 | x :: xs,i=>by
  simp only [fndI,fstI]
  cases g x
  · simp only [cond_false]
    rw [fndI_fst g xs (i + 1)]
    cases fstI g xs with
    | none=>rfl
    | some j =>
     show i + 1 + (j:Int) = i + ((j + 1:Nat):Int)
     omega
  · simp
theorem put_at {p:List Pair} {out:List (List Int)} {c:Int} {n:Nat} (h:okG n out) (hn:n ≤ 1048576) {β:Type} (k:List (List Int) → Option β) (a:Int) (ha:a = match fstI (fun g=>g.all (mutB p c)) out with | some i=>(i:Int) | none=>-1) :
    (bif (decide (a < 0)) then obind (apnd 24 out [([c]:List Int)]) fun x=>k x else obind (ix out a) fun x=>obind (apnd 8 x (([c]:List Int))) fun y=>obind (ix out a) fun z=>k (setx out a y)) = k (putG p out c):=by
 obtain ⟨h1,h2⟩:=h
 unfold putG
 cases hf:fstI (fun g=>g.all (mutB p c)) out with
 | none =>
  rw [hf] at ha
  simp only at ha
  subst ha
  rw [bif_true (by simp),ap1 (by simp; omega),ob_some]
 | some i =>
  rw [hf] at ha
  simp only at ha
  subst ha
  obtain ⟨x,hx,_⟩:=fstI_lt hf
  have:=h2 x (List.mem_of_getElem? hx)
  rw [bif_false (by simp),ix_nat,hx,ob_some,ap1 (by simp; omega),ob_some,ob_some]
  simp [setx,hx]
theorem s_grps {fu:Nat} {p:List Pair} (hp:p.length ≤ 1048576) (hfu:2097153 ≤ fu) {l:List Int} (hl:l.length ≤ 1048576):d_spec_Groups fu p l = some (((ints 0 4).filter l.contains).foldl (putG p) []):=by
 unfold d_spec_Groups
 have e27:∀ (k:List (List Int) → Int → Option (List (List Int))) (out:List (List Int)) (c:Int),okG 4 out → d_spec_Groups_L1 fu k p out c fu (-1) (w64 ((out.length:Int) - 1)) = k (putG p out c) (w64 (c + 1)):=by
  intro k out c ho
  obtain ⟨R,hR⟩:∃ R:Int → Option (List (List Int)),R = fun a=>bif (decide (a < 0)) then obind (apnd 24 out [([c]:List Int)]) fun x=>k x (w64 (c + 1)) else obind (ix out a) fun x=>obind (apnd 8 x (([c]:List Int))) fun y=>obind (ix out a) fun z=>k (setx out a y) (w64 (c + 1)):=⟨_,rfl⟩
  have:=lpD out.length (fun n a i=>d_spec_Groups_L1 fu k p out c n a i) (fun xs a=>R (xs.foldl (lasI (fun g=>g.all (mutB p c)) out) a)) (by have:=ho.1; omega) ?_ ?_ fu (-1) (by have:=ho.1; omega)
  · rw [this,hR]
    refine put_at (p:=p) ho (by omega) (fun x=>k x (w64 (c + 1))) _ ?_
    rw [fold_down (fun g=>g.all (mutB p c)) out out.length (-1) (Nat.le_refl _),List.take_length]
  · intro n a i xs h0 h1 hd ih
    simp only [d_spec_Groups_L1.eq_2]
    unfold d_spec_Groups_L1_B d_spec_Groups_J2
    obtain ⟨j,rfl⟩:∃ j:Nat,i = j:=⟨i.toNat,by omega⟩
    have hj:j < out.length:=by omega
    have hg:=ho.2 _ (List.getElem_mem hj)
    simp only [hd,cond_true,ix_i hj,ob_some,s_join hp (by omega) (show out[j].length ≤ 1048576 by omega) (show out[j].length < fu by omega),ih,List.foldl_cons]
    have e:lasI (fun g=>g.all (mutB p c)) out a (j:Int) = bif out[j].all (mutB p c) then (j:Int) else a:=by unfold lasI atB; rw [ix_i hj]
    rw [e]
    cases out[j].all (mutB p c) <;> rfl
  · intro n a i hd
    simp only [d_spec_Groups_L1.eq_2]
    unfold d_spec_Groups_L1_B d_spec_Groups_J1
    simp only [hd,cond_false,List.foldl_nil,hR]
 have:=lpNI 4 (fun n out i=>d_spec_Groups_L2 fu p l n out i) (fun xs out=>some ((xs.filter l.contains).foldl (putG p) out)) (fun xs out=>∃ m,m + xs.length ≤ 4 ∧ okG m out) (by omega) ?_ ?_ 4 fu [] 0 (by omega) (by omega) (by omega) ⟨0,by simp [ints],by simp,by simp⟩
 · exact this
 · intro n out i xs h0 h1 hd hI ih
   obtain ⟨m,hm,ho⟩:=hI
   simp only [List.length_cons] at hm
   simp only [d_spec_Groups_L2.eq_2]
   unfold d_spec_Groups_L2_B d_spec_Groups_J1
   simp only [hd,cond_true,s_has hl (show l.length < fu by omega),ob_some]
   cases hb:l.contains i
   · rw [Bool.not_false,cond_true,ih out ⟨m,by omega,ho⟩,List.filter_cons_of_neg (by rw [hb]; simp)]
   · rw [Bool.not_true,cond_false,e27 _ out i ⟨by have:=ho.1; omega,fun g hg=>by have:=ho.2 g hg; omega⟩,ih _ ⟨m + 1,by omega,putG_ok i ho⟩,List.filter_cons_of_pos hb,List.foldl_cons]
 · intro n out i hd hI
   simp only [d_spec_Groups_L2.eq_2]
   unfold d_spec_Groups_L2_B
   simp only [hd,cond_false]
   simp
theorem filter_prs (r:Request):(ints 0 4).filter (prsM r).contains = prsM r :=
 lt_ext ((ints_lt 0 4).filter _) (prsM_sorted r) fun x=>by
  rw [List.mem_filter,ints_mem]
  constructor
  · rintro ⟨_,h⟩; simpa using h
  · intro h; have:=prsM_mem h; exact ⟨by omega,by simpa using h⟩
theorem s_grp {fu:Nat} {r:Request} (h:Sm fu r):d_spec_GroupsOf fu r = some (grpM r):=by
 unfold d_spec_GroupsOf grpM
 rw [s_prs h,ob_some,s_grps h.pairs h.fu (by have:=prsM_len r; omega),ob_some,filter_prs]
theorem i_mut {fu:Nat} {p:List Pair} (hp:p.length ≤ 1048576) (hpf:p.length < fu) (a b:Int):d_impl_mutual fu p a b = some (mutB p a b):=by
 unfold d_impl_mutual mutB
 simp only [i_bes hp hpf,ob_some]
 cases besB p a b <;> rfl
theorem i_idxInt {fu:Nat} {l:List Int} (f:Int → Option Bool) (g:Int → Bool) (hg:∀ x ∈ l,f x = some (g x)) (hl:l.length ≤ 1048576) (hf:l.length < fu):d_slices_IndexFunc_int_int fu l f = some (fndI g l 0):=by
 unfold d_slices_IndexFunc_int_int
 refine idx_loop l (fun n i=>d_slices_IndexFunc_int_int_L1 fu l f n i) g (by omega) ?_ ?_ fu hf
 · intro n i x hx hd
   simp only [d_slices_IndexFunc_int_int_L1.eq_2]
   unfold d_slices_IndexFunc_int_int_L1_B
   simp only [hd,cond_true,hx,ob_some,hg x (ix_mem hx)]
 · intro n i hd
   simp only [d_slices_IndexFunc_int_int_L1.eq_2]
   unfold d_slices_IndexFunc_int_int_L1_B
   simp only [hd,cond_false]
theorem i_anyInt {fu:Nat} {l:List Int} (f:Int → Option Bool) (g:Int → Bool) (hg:∀ x ∈ l,f x = some (g x)) (hl:l.length ≤ 1048576) (hf:l.length < fu):d_slices_ContainsFunc_int_int fu l f = some (l.any g):=by
 unfold d_slices_ContainsFunc_int_int
 rw [i_idxInt f g hg hl hf,ob_some,fndI_any g l 0 (by omega)]
theorem i_idxInts {fu:Nat} {l:List (List Int)} (f:List Int → Option Bool) (g:List Int → Bool) (hg:∀ x ∈ l,f x = some (g x)) (hl:l.length ≤ 1048576) (hf:l.length < fu):d_slices_IndexFunc_ints_int fu l f = some (fndI g l 0):=by
 unfold d_slices_IndexFunc_ints_int
 refine idx_loop l (fun n i=>d_slices_IndexFunc_ints_int_L1 fu l f n i) g (by omega) ?_ ?_ fu hf
 · intro n i x hx hd
   simp only [d_slices_IndexFunc_ints_int_L1.eq_2]
   unfold d_slices_IndexFunc_ints_int_L1_B
   simp only [hd,cond_true,hx,ob_some,hg x (ix_mem hx)]
 · intro n i hd
   simp only [d_slices_IndexFunc_ints_int_L1.eq_2]
   unfold d_slices_IndexFunc_ints_int_L1_B
   simp only [hd,cond_false]
theorem i_grps {fu:Nat} {p:List Pair} (hp:p.length ≤ 1048576) (hfu:2097153 ≤ fu) {l:List Int} (hl:l.length ≤ 4) (hs:l.Pairwise (· < ·)) (hm:∀ c ∈ l,0 ≤ c ∧ c < 4):d_impl_Groups fu p l = some (l.foldl (putG p) []):=by
 unfold d_impl_Groups
 rw [i_kinds_sorted (by omega) hs,ob_some]
 have:=lpI l (fun n out i=>d_impl_Groups_L1 fu p l n out i) (fun xs out=>some (xs.foldl (putG p) out)) (fun xs out=>(∃ m,m + xs.length ≤ 4 ∧ okG m out) ∧ ∀ c ∈ xs,0 ≤ c ∧ c < 4) (by omega) ?_ ?_ fu [] ⟨⟨0,by simpa using hl,by simp,by simp⟩,hm⟩ (by omega)
 · exact this
 · intro n out i c xs hx hd hI ih
   obtain ⟨⟨m,hm,ho⟩,hc⟩:=hI
   simp only [List.length_cons] at hm
   have hc0:=hc c (by simp)
   simp only [d_impl_Groups_L1.eq_2]
   unfold d_impl_Groups_L1_B d_impl_Groups_J1
   simp only [hd,cond_true,hx,ob_some,i_in]
   rw [show inb c 0 3 = true by simp; omega,Bool.not_true,cond_false]
   rw [i_idxInts (fun y=>d_impl_Groups_1 fu y p c) (fun g=>g.all (mutB p c)) (fun g hg=>by
    have hgl:=ho.2 g hg
    unfold d_impl_Groups_1
    rw [i_anyInt (fun y=>d_impl_Groups_1_1 fu y p c) (fun x=>!mutB p c x) (fun x _=>by
     unfold d_impl_Groups_1_1
     rw [i_mut hp (by omega),ob_some]) (by omega) (by omega),ob_some]
    simp [List.any_eq_not_all_not]) (by have:=ho.1; omega) (by have:=ho.1; omega),ob_some]
   rw [put_at (p:=p) ho (by omega) (fun x=>d_impl_Groups_L1 fu p l n x (w64 (i + 1))) (fndI (fun g=>g.all (mutB p c)) out 0) (by
    rw [fndI_fst]
    cases fstI (fun g=>g.all (mutB p c)) out <;> simp)]
   rw [ih _ ⟨⟨m + 1,by omega,putG_ok c ho⟩,fun y hy=>hc y (by simp [hy])⟩]
   rfl
 · intro n out i hd hI
   simp only [d_impl_Groups_L1.eq_2]
   unfold d_impl_Groups_L1_B
   simp only [hd,cond_false]
   rfl
theorem i_grp {fu:Nat} {r:Request} (h:Sm fu r):d_impl_GroupsOf fu r = some (grpM r):=by
 unfold d_impl_GroupsOf
 rw [i_sound h,ob_some]
 by_cases hc:clsM r = 0
 · rw [show (clsM r == 0) = true by simp [hc],Bool.not_true,cond_false,i_prs h,ob_some,i_grps h.pairs h.fu (prsM_len r) (prsM_sorted r) (fun c hc=>prsM_mem hc),ob_some]
   rfl
 · rw [show (clsM r == 0) = false by simp [hc],Bool.not_false,cond_true]
   unfold grpM prsM
   rw [show (clsM r == 0) = false by simp [hc],cond_false]
   rfl
theorem w64_grp (r:Request):w64 (((grpM r).length:Int) - 1) = ((grpM r).length:Int) - 1:=by
 have:=(grpM_ok r).1
 exact w64_id (by omega) (by omega)
end Go.Proofs.YthddjkokpfdbnaaGreat
/- Load of units, room for one more, units that may lie beside: by spec and by impl. -/
namespace Go.Proofs.YthddjkokpfdbnaaGreat
open Go
open Enc (rd ow)
open Arg (argv)
open Ret (retv)
open Wf (wf)
theorem vol_cons (r:Request) (x:Int) (xs:List Int):volM r (x :: xs) = volI (itmZ r x) + volM r xs:=by
 unfold volM itsM itmZ
 cases hm:itmM r x with
 | none=>simp [List.filterMap_cons,hm,vol_zero]
 | some y=>simp [List.filterMap_cons,hm]
theorem grm_cons (r:Request) (x:Int) (xs:List Int):grmM r (x :: xs) = (itmZ r x).fGram + grmM r xs:=by
 unfold grmM itsM itmZ
 cases hm:itmM r x with
 | none=>simp [List.filterMap_cons,hm,zItem]
 | some y=>simp [List.filterMap_cons,hm]
theorem s_l7Of {fu:Nat} (r:Request) (us:List Int) (hl:us.length ≤ 1048576) (hf:us.length < fu):d_spec_l7Of fu r (untM r) us = some ⟨volM r us,grmM r us⟩:=by
 unfold d_spec_l7Of
 have key:=lpI us (fun n s i=>d_spec_l7Of_L1 fu r (untM r) us n s i) (fun l s=>some (⟨s.fvol + volM r l,s.fgram + grmM r l⟩:L7))
  (fun l s=>0 ≤ s.fvol ∧ s.fvol + 8000000000 * l.length ≤ 8000000000 * 1048576 ∧ 0 ≤ s.fgram ∧ s.fgram + 100000 * l.length ≤ 100000 * 1048576) (by omega) ?_ ?_ fu ⟨0,0⟩ ⟨by simp,by simp; omega,by simp,by simp; omega⟩ hf
 · simpa using key
 · intro n s i x xs hx hd hI ih
   simp only [d_spec_l7Of_L1.eq_2]
   unfold d_spec_l7Of_L1_B d_spec_l7Of_J2 d_spec_l7Of_J1
   simp only [hd,cond_true,hx,ob_some,s_item,s_vol]
   have hv:=volB_nn (itmZ r x).fW (itmZ r x).fH (itmZ r x).fD
   have hg:=itmZ_gram r x
   obtain ⟨a1,a2,a3,a4⟩:=hI
   simp only [List.length_cons] at a2 a4
   rw [w64_id (n:=s.fvol + _) (by omega) (by omega),w64_id (n:=s.fgram + _) (by omega) (by omega),ih _ ⟨by simp; omega,by simp; omega,by simp; omega,by simp; omega⟩,vol_cons,grm_cons,show volB (itmZ r x).fW (itmZ r x).fH (itmZ r x).fD = volI (itmZ r x) from rfl]
   simp only [Option.some.injEq,L7.mk.injEq]
   constructor <;> omega
 · intro n s i hd _
   simp only [d_spec_l7Of_L1.eq_2]
   unfold d_spec_l7Of_L1_B
   simp only [hd,cond_false]
   simp [volM,grmM,itsM]
def witB (r:Request) (us:List Int) (t:Typ):Bool:=decide (volM r us ≤ volT t) && decide (grmM r us ≤ t.fGram)
theorem s_l7Room {fu:Nat} (r:Request) (t:Typ) (us:List Int) (u:Int) (hl:us.length < 1048576) (hf:us.length + 1 < fu):d_spec_l7Room fu r (untM r) t us u = some (witB r (us ++ [u]) t):=by
 unfold d_spec_l7Room d_spec_l7Room_J1 witB
 rw [ap1 (by simp; omega),ob_some,List.nil_append,ap1 (by simp; omega),ob_some,s_l7Of r _ (by simp; omega) (by simp; omega),ob_some,s_vol,ob_some]
 show (bif decide (volM r (us ++ [u]) ≤ volT t) then _ else _) = _
 cases decide (volM r (us ++ [u]) ≤ volT t) <;> simp
theorem i_within {fu:Nat} {r:Request} (h:Sm fu r) (t:Typ) (us:List Int) (hl:us.length ≤ 1048576):d_impl_within fu r us t = some (witB r us t):=by
 have hfu:=h.fu
 unfold d_impl_within witB
 rw [i_volOf h us hl (by omega),ob_some,i_vol,ob_some,i_grm h us hl (by omega)]
 show (bif decide (volM r us ≤ volT t) then _ else _) = _
 cases decide (volM r us ≤ volT t) <;> simp
theorem othM_1 {r:Request}:(othM (typM r r.fMaster)).1 = masM r:=rfl
theorem i_room1 {fu:Nat} {r:Request} (h:Sm fu r) (us:List Int) (u:Int) (hl:us.length < 1048576):d_impl_Room fu r us u = some (clsM r == 0 && witB r (us ++ [u]) (masM r)):=by
 have hfu:=h.fu
 unfold d_impl_Room d_slices_Clone_int_int
 rw [i_mas h,ob_some,i_sound h,ob_some]
 cases hc:clsM r == 0
 · rfl
 · rw [cond_true,ap1 (by simp; omega),ob_some,ob_some,List.nil_append,ap1 (by simp; omega),ob_some,i_within h _ _ (by simp; omega)]
   rfl
def mayB (r:Request) (us:List Int) (u:Int):Bool:=(itsM r us).all fun x=>(itsM r [u]).all fun y=>mutB r.fPairs x.fClass y.fClass
theorem i_may {fu:Nat} {r:Request} (h:Sm fu r) (us:List Int) (u:Int) (hl:us.length ≤ 1048576):d_impl_mayLie fu r us u = some (mayB r us u):=by
 have hfu:=h.fu
 have hil:=itsM_len r us
 have hiu:=itsM_len r [u]
 simp only [List.length_singleton] at hiu
 unfold d_impl_mayLie
 rw [i_items h [u] (by simp) (by simp; omega),ob_some,i_items h us hl (by omega),ob_some]
 rw [i_anyItem _ (fun x=>(itsM r [u]).any fun y=>!mutB r.fPairs x.fClass y.fClass) ?_ (by omega) (by omega),ob_some]
 · unfold mayB
   congr 1
   rw [List.not_any_eq_all_not]
   congr 1
   funext x
   rw [List.not_any_eq_all_not]
   congr 1
   funext y
   simp
 · intro x _
   unfold d_impl_mayLie_1
   rw [i_anyItem _ (fun y=>!mutB r.fPairs x.fClass y.fClass) ?_ (by omega) (by omega),ob_some]
   intro y _
   unfold d_impl_mayLie_1_1
   rw [i_mut h.pairs (by have:=h.pairs; omega),ob_some]
theorem itsM_one {r:Request} {u:Int} {x:Item} (h:itmM r u = some x):itsM r [u] = [x]:=by simp [itsM,List.filterMap_cons,h]
theorem s_may {fu:Nat} {r:Request} (h:Sm fu r) (us:List Int) (u:Int) (hl:us.length ≤ 1048576) (hu:0 ≤ u ∧ u < (untM r).length) (hm:∀ y ∈ us,0 ≤ y ∧ y < (untM r).length):d_spec_l18May fu r (untM r) us u = some (mayB r us u):=by
 have hfu:=h.fu
 obtain ⟨_,x,_,_,hx⟩:=itmM_in hu
 unfold d_spec_l18May mayB
 rw [s_item,ob_some,itsM_one hx,show itmZ r u = x by unfold itmZ; rw [hx]; rfl]
 have:=lpI us (fun n (_:Unit) i=>d_spec_l18May_L1 fu r (untM r) us (x,(itmM r u).isSome) n i) (fun l _=>some ((itsM r l).all fun y=>[x].all fun z=>mutB r.fPairs y.fClass z.fClass)) (fun l _=>∀ y ∈ l,0 ≤ y ∧ y < (untM r).length) (by omega) ?_ ?_ fu () hm (by omega)
 · exact this
 · intro n _ i y ys hy hd hI ih
   obtain ⟨_,z,_,_,hz⟩:=itmM_in (hI y (by simp))
   have ih':=ih () fun w hw=>hI w (by simp [hw])
   simp only [d_spec_l18May_L1.eq_2]
   unfold d_spec_l18May_L1_B d_spec_l18May_J2 d_spec_l18May_J1
   rw [hd,cond_true,hy,ob_some,s_item,ob_some,show itmZ r y = z by unfold itmZ; rw [hz]; rfl,s_bes h.pairs (by have:=h.pairs; omega),ob_some,s_bes h.pairs (by have:=h.pairs; omega),ob_some,ih']
   unfold itsM
   simp only [List.filterMap_cons,hz,List.all_cons,List.all_nil,Bool.and_true,mutB]
   cases besB r.fPairs x.fClass z.fClass <;> cases besB r.fPairs z.fClass x.fClass <;> simp
 · intro n _ i hd _
   simp only [d_spec_l18May_L1.eq_2]
   unfold d_spec_l18May_L1_B
   simp [hd,itsM]
end Go.Proofs.YthddjkokpfdbnaaGreat
/- slices.DeleteFunc at numbers, places. -/
namespace Go.Proofs.YthddjkokpfdbnaaGreat
open Go
open Enc (rd ow)
open Arg (argv)
open Ret (retv)
open Wf (wf)
theorem i_places {fu:Nat} (n:Nat) (hn:n ≤ 1048576) (hf:n < fu):d_impl_places fu (n:Int) = some (ints 0 n):=by
 unfold d_impl_places
 have:=lpNI (n:Int) (fun k out i=>d_impl_places_L1 fu (n:Int) k out i) (fun xs out=>some (out ++ xs)) (fun xs out=>out.length + xs.length ≤ 1048576) (by omega) ?_ ?_ n fu [] 0 (by omega) (by omega) hf (by simpa [ints_len] using hn)
 · simpa using this
 · intro k out i xs h0 h1 hd hI ih
   simp only [List.length_cons] at hI
   simp only [d_impl_places_L1.eq_2]
   unfold d_impl_places_L1_B
   rw [hd,cond_true,ap1 (by simp; omega),ob_some,ih _ (by simp; omega)]
   simp
 · intro k out i hd hI
   simp only [d_impl_places_L1.eq_2]
   unfold d_impl_places_L1_B
   simp only [hd,cond_false]
   simp
theorem fnd_pre {α:Type} (g:α → Bool):∀ (l pre:List α),(fndI g l pre.length = -1 ∧ ∀ x ∈ l,g x = false) ∨ (∃ a x b,l = a ++ x :: b ∧ (∀ y ∈ a,g y = false) ∧ g x = true ∧ fndI g l pre.length = ((pre.length + a.length:Nat):Int))
 | [],pre=>.inl ⟨rfl,by simp⟩
 | x :: xs,pre=>by
  simp only [fndI]
  by_cases hx:g x = true
  · rw [hx,cond_true]; exact .inr ⟨[],x,xs,rfl,by simp,hx,by simp⟩
  · have hx':g x = false:=by simpa using hx
    rw [hx',cond_false]
    have:=fnd_pre g xs (pre ++ [x])
    simp only [List.length_append,List.length_singleton] at this
    rw [show ((pre.length + 1:Nat):Int) = (pre.length:Int) + 1 by omega] at this
    rcases this with ⟨h1,h2⟩ | ⟨a,y,b,h1,h2,h3,h4⟩
    · exact .inl ⟨h1,by simpa [hx'] using h2⟩
    · exact .inr ⟨x :: a,y,b,by simp [h1],by simpa [hx'] using h2,h3,by rw [h4]; simp; omega⟩
theorem i_del {fu:Nat} {l:List Int} (f:Int → Option Bool) (g:Int → Bool) (hg:∀ x ∈ l,f x = some (g x)) (hl:l.length ≤ 1048576) (hf:l.length < fu):d_slices_DeleteFunc_int_int fu l f = some (l.filter fun x=>!g x):=by
 unfold d_slices_DeleteFunc_int_int
 rw [i_idxInt f g hg hl hf,ob_some]
 have hp:=fnd_pre g l []
 simp only [List.length_nil,Nat.zero_add] at hp
 rcases hp with ⟨h1,h2⟩ | ⟨a,x,b,h1,h2,h3,h4⟩
 · have h1':fndI g l 0 = -1:=h1
   rw [h1',bif_true (by simp)]
   congr 1
   exact (List.filter_eq_self.2 fun y hy=>by simp [h2 y hy]).symm
 · have h4':fndI g l 0 = (a.length:Int):=h4
   rw [h4',bif_false (by simp)]
   have key:∀ (rest kept mid pre:List Int) (n:Nat),l = pre ++ rest → kept = pre.filter (fun x=>!g x) → mid ≠ [] → kept.length + mid.length = pre.length → rest.length < n →
       d_slices_DeleteFunc_int_int_L1 fu f n (kept ++ mid ++ rest) (kept.length:Int) (pre.length:Int) = some (l.filter fun x=>!g x):=by
    intro rest
    induction rest with
    | nil =>
     intro kept mid pre n e1 e2 e3 e4 hn
     obtain ⟨n,rfl⟩:∃ j,n = j + 1:=⟨n - 1,by omega⟩
     rw [d_slices_DeleteFunc_int_int_L1.eq_2]
     unfold d_slices_DeleteFunc_int_int_L1_B
     simp only [List.append_nil] at *
     subst e1
     rw [bif_false (by simp; omega),sls_some ⟨by omega,by simp; omega,by omega⟩,ob_some,sls_some ⟨by omega,by omega,by simp [clrd]; omega⟩,ob_some]
     rw [← e2]
     simp [clrd]
    | cons y rest ih =>
     intro kept mid pre n e1 e2 e3 e4 hn
     obtain ⟨n,rfl⟩:∃ j,n = j + 1:=⟨n - 1,by simp at hn; omega⟩
     have hlen:l.length = pre.length + (rest.length + 1):=by rw [e1]; simp
     have hyl:y ∈ l:=by rw [e1]; simp
     obtain ⟨m,ms,rfl⟩:∃ m ms,mid = m :: ms:=by
      cases mid with
      | nil=>exact absurd rfl e3
      | cons m ms=>exact ⟨m,ms,rfl⟩
     simp only [List.length_cons] at e4 hn
     have hx:ix (kept ++ (m :: ms) ++ y :: rest) (pre.length:Int) = some y:=by
      rw [ix_nat,List.getElem?_append_right (by simp; omega)]
      simp only [List.length_append,List.length_cons]
      rw [show pre.length - (kept.length + (ms.length + 1)) = 0 by omega]; rfl
     have hk:ix (kept ++ (m :: ms) ++ y :: rest) (kept.length:Int) = some m:=by
      rw [ix_nat]; simp
     rw [d_slices_DeleteFunc_int_int_L1.eq_2]
     unfold d_slices_DeleteFunc_int_int_L1_B d_slices_DeleteFunc_int_int_J1
     rw [bif_true (by simp; omega),hx,ob_some,hg y hyl,ob_some]
     cases hgy:g y
     · rw [Bool.not_false,cond_true,hk,ob_some,w64_s _ (by omega),w64_s _ (by omega)]
       have e5:setx (kept ++ (m :: ms) ++ y :: rest) (kept.length:Int) y = (kept ++ [y]) ++ (ms ++ [y]) ++ rest:=by simp [setx]
       rw [e5]
       have:=ih (kept ++ [y]) (ms ++ [y]) (pre ++ [y]) n (by simp [e1]) (by rw [e2,List.filter_append]; simp [hgy]) (by simp) (by simp; omega) (by omega)
       simp only [List.length_append,List.length_singleton] at this
       exact this
     · rw [Bool.not_true,cond_false,w64_s _ (by omega)]
       have:=ih kept ((m :: ms) ++ [y]) (pre ++ [y]) n (by simp [e1]) (by rw [e2,List.filter_append]; simp [hgy]) (by simp) (by simp; omega) (by omega)
       simp only [List.length_append,List.length_singleton] at this
       rw [show kept ++ (m :: ms) ++ y :: rest = kept ++ ((m :: ms) ++ [y]) ++ rest by simp]
       exact this
   have hlen:l.length = a.length + (b.length + 1):=by rw [h1]; simp
   have ha:a.filter (fun x=>!g x) = a:=List.filter_eq_self.2 fun y hy=>by simp [h2 y hy]
   have:=key b a [x] (a ++ [x]) fu (by simp [h1]) (by rw [List.filter_append,ha]; simp [h3]) (by simp) (by simp) (by omega)
   rw [w64_s _ (by omega)]
   simp only [List.length_append,List.length_singleton] at this
   rw [show a ++ [x] ++ b = l by simp [h1]] at this
   exact this
end Go.Proofs.YthddjkokpfdbnaaGreat
/- A bit, by spec. -/
namespace Go.Proofs.YthddjkokpfdbnaaGreat
open Go
open Enc (rd ow)
open Arg (argv)
open Ret (retv)
open Wf (wf)
theorem s_bit (fu:Nat) (b:Bool):d_spec_l1Bit fu b = some (bitI b):=by cases b <;> rfl
end Go.Proofs.YthddjkokpfdbnaaGreat
/- How often a number stands in a list, by spec. -/
namespace Go.Proofs.YthddjkokpfdbnaaGreat
open Go
open Enc (rd ow)
open Arg (argv)
open Ret (retv)
open Wf (wf)
theorem s_tim {fu:Nat} {l:List Int} (hl:l.length ≤ 1048576) (hf:l.length < fu) (x:Int):d_spec_l8Times fu l x = some (cntB (fun y=>y == x) l):=by
 unfold d_spec_l8Times
 have:=lpI l (fun n s i=>d_spec_l8Times_L1 fu l x n s i) (fun l n=>some (n + cntB (fun y=>y == x) l)) (fun l n=>0 ≤ n ∧ n + l.length ≤ 1048576) (by omega) ?_ ?_ fu 0 ⟨by omega,by omega⟩ hf
 · simpa using this
 · intro n s i y ys hy hd hI ih
   have h2:=hI.2
   simp only [List.length_cons] at h2
   have hb:=bitI_bd (y == x)
   simp only [d_spec_l8Times_L1.eq_2]
   unfold d_spec_l8Times_L1_B
   simp only [hd,cond_true,hy,ob_some,s_bit]
   rw [w64_id (by omega) (by omega),ih _ ⟨by omega,by omega⟩]
   simp only [cntB]
   congr 1
   omega
 · intro n s i hd hI
   simp only [d_spec_l8Times_L1.eq_2]
   unfold d_spec_l8Times_L1_B
   simp only [hd,cond_false,cntB]
   simp
theorem cnt_count (l:List Int) (x:Int):cntB (fun y=>y == x) l = (l.count x:Int):=by
 induction l with
 | nil=>rfl
 | cons y l ih =>
  unfold cntB bitI
  rw [ih,List.count_cons]
  cases hy:y == x <;> simp [hy] <;> omega
end Go.Proofs.YthddjkokpfdbnaaGreat
/- Orders in the laws: their size, copies, equality. -/
namespace Go.Proofs.YthddjkokpfdbnaaGreat
open Go
open Enc (rd ow)
open Arg (argv)
open Ret (retv)
open Wf (wf)
end Go.Proofs.YthddjkokpfdbnaaGreat
/- Lists of lists of numbers in the laws: their size, copies. -/
namespace Go.Proofs.YthddjkokpfdbnaaGreat
open Go
open Enc (rd ow)
open Arg (argv)
open Ret (retv)
open Wf (wf)
def lensL:List (List Int) → Nat
 | []=>0
 | x :: xs=>x.length + lensL xs
end Go.Proofs.YthddjkokpfdbnaaGreat
/- IsPacking of spec and of impl. -/
namespace Go.Proofs.YthddjkokpfdbnaaGreat
open Go
open Enc (rd ow)
open Arg (argv)
open Ret (retv)
open Wf (wf)
def thrM (r:Request) (us:List Int):List Int:=us.filter fun u=>inb u 0 (((untM r).length:Int) - 1)
def perB (a b:List Int):Bool:=decide ((a.mergeSort fun x y=>decide (x ≤ y)) = b.mergeSort fun x y=>decide (x ≤ y))
theorem perB_iff {a b:List Int}:perB a b = true ↔ a.Perm b:=by
 unfold perB
 rw [decide_eq_true_iff]
 constructor
 · intro h
   have h1:=List.mergeSort_perm a fun x y=>decide (x ≤ y)
   rw [h] at h1
   exact h1.symm.trans (List.mergeSort_perm b _)
 · intro h
   exact le_uniq (((List.mergeSort_perm a _).trans h).trans (List.mergeSort_perm b _).symm) (mergeSort_le a) (mergeSort_le b)
theorem perm_cnt:∀ (a b:List Int),a.length = b.length → (∀ x ∈ a,a.count x = b.count x) → a.Perm b
 | [],b,h,_=>by
  have:b = []:=List.eq_nil_of_length_eq_zero h.symm
  subst this
  exact List.Perm.refl _
 | x :: a,b,h,hc=>by
  have hx:=hc x (by simp)
  rw [List.count_cons_self] at hx
  have hm:x ∈ b:=List.count_pos_iff.1 (by omega)
  have hp:=List.perm_cons_erase hm
  refine List.Perm.trans (List.Perm.cons x (perm_cnt a (b.erase x) ?_ ?_)) hp.symm
  · have:=hp.length_eq
    simp only [List.length_cons] at this h
    omega
  · intro y hy
    have h1:=hc y (by simp [hy])
    have h2:=hp.count_eq y
    rw [List.count_cons] at h1 h2
    omega
theorem i_there {fu:Nat} {r:Request} (h:Sm fu r) (us:List Int) (hl:us.length ≤ 1048576):d_impl_thereOf fu r us = some (thrM r us):=by
 have hfu:=h.fu
 unfold d_impl_thereOf d_slices_Clone_int_int thrM
 rw [i_unt h,ob_some,ap1 (by simp; omega),ob_some,ob_some,List.nil_append,i_del _ (fun u=>!inb u 0 (((untM r).length:Int) - 1)) ?_ hl (by omega),ob_some]
 · simp
 · intro u _
   unfold d_impl_thereOf_1
   rw [w64_len,i_in,ob_some]
theorem s_known {fu:Nat} {r:Request} (h:Sm fu r) (us:List Int) (hl:us.length ≤ 1048576):d_spec_l7Known fu (untM r) us = some (thrM r us):=by
 have hfu:=h.fu
 unfold d_spec_l7Known thrM
 have:=lpI us (fun n out i=>d_spec_l7Known_L1 fu (untM r) us n out i) (fun xs out=>some (out ++ xs.filter fun u=>inb u 0 (((untM r).length:Int) - 1))) (fun xs out=>out.length + xs.length ≤ 1048576) (by omega) ?_ ?_ fu [] (by simpa using hl) (by omega)
 · simpa using this
 · intro n out i x xs hx hd hI ih
   simp only [List.length_cons] at hI
   simp only [d_spec_l7Known_L1.eq_2]
   unfold d_spec_l7Known_L1_B d_spec_l7Known_J1
   rw [hd,cond_true,hx,ob_some,w64_len,s_in,ob_some,ob_some,List.filter_cons]
   cases hb:inb x 0 (((untM r).length:Int) - 1)
   · rw [cond_false,ih _ (by omega)]; simp
   · rw [cond_true,ap1 (by simp; omega),ob_some,ih _ (by simp; omega)]; simp
 · intro n out i hd hI
   simp only [d_spec_l7Known_L1.eq_2]
   unfold d_spec_l7Known_L1_B
   simp only [hd,cond_false]
   simp
theorem zip_all:∀ (a b:List Int),a.length = b.length → ((a.zip b).all fun p=>p.1 == p.2) = decide (a = b)
 | [],[],_=>rfl
 | [],_ :: _,h=>by simp at h
 | _ :: _,[],h=>by simp at h
 | x :: a,y :: b,h=>by
  rw [List.zip_cons_cons,List.all_cons,zip_all a b (by simpa using h)]
  by_cases hx:x = y <;> simp [hx]
theorem i_equal {fu:Nat} (a b:List Int) (hl:a.length ≤ 1048576) (hf:a.length < fu):d_slices_Equal_int_int fu a b = some (decide (a = b)):=by
 unfold d_slices_Equal_int_int
 by_cases h:a.length = b.length
 · rw [bif_false (by simp [h])]
   have hz:(a.zip b).length = a.length:=by rw [List.length_zip]; omega
   have:=lp (a.zip b) (fun n (_:Unit) i=>d_slices_Equal_int_int_L1 fu a b n i) (fun l _=>some (l.all fun p=>p.1 == p.2)) (by omega) ?_ ?_ fu () (by omega)
   · rw [zip_all a b h] at this
     exact this
   · intro n _ i p xs hp hd ih
     obtain ⟨h1,_,h2⟩:=ix_some hp
     rw [List.getElem?_zip_eq_some] at h2
     rw [hz] at hd
     have e1:ix a i = some p.1:=by unfold ix; rw [if_pos h1]; exact h2.1
     have e2:ix b i = some p.2:=by unfold ix; rw [if_pos h1]; exact h2.2
     simp only [d_slices_Equal_int_int_L1.eq_2]
     unfold d_slices_Equal_int_int_L1_B
     rw [hd,cond_true,e1,ob_some,e2,ob_some,ih (),List.all_cons]
     by_cases hx:p.1 = p.2
     · rw [bif_false (by simp [hx])]; simp [hx]
     · rw [bif_true (by simpa using hx)]; simp [hx]
   · intro n _ i hd
     rw [hz] at hd
     simp only [d_slices_Equal_int_int_L1.eq_2]
     unfold d_slices_Equal_int_int_L1_B
     simp [hd]
 · rw [bif_true (by simp; omega)]
   have:a ≠ b:=fun e=>h (by rw [e])
   simp [this]
theorem sortI_some {xs:List Int} (h:xs.length ≤ 1048576):sortI xs = some (xs.mergeSort fun x y=>decide (x ≤ y)):=by
 unfold sortI
 rw [if_pos (by omega)]
def okC (r:Request) (l:List Int):Bool:=l.length != 0 && witB r l (masM r)
def packB (r:Request) (us:List Int) (cs:List (List Int)):Bool:=clsM r == 0 && (cs.all (okC r) && perB cs.flatten (thrM r us))
theorem thrM_len (r:Request) (us:List Int):(thrM r us).length ≤ us.length:=List.length_filter_le _ _
theorem i_pack {fu:Nat} {r:Request} (h:Sm fu r) (us:List Int) (cs:List (List Int)) (hu:us.length ≤ 1048576) (hl:cs.length ≤ 1048576) (hs:lensL cs ≤ 1048576):d_impl_IsPacking fu r us cs = some (packB r us cs):=by
 have hfu:=h.fu
 unfold d_impl_IsPacking packB
 rw [i_sound h,ob_some]
 cases hc:clsM r == 0
 · rfl
 rw [Bool.not_true,cond_false,i_mas h,ob_some,Bool.true_and]
 have ht:=thrM_len r us
 have:=lpI cs (fun n all i=>d_impl_IsPacking_L1 fu r us cs (othM (typM r r.fMaster)) n all i) (fun xs all=>some (xs.all (okC r) && perB (all ++ xs.flatten) (thrM r us))) (fun xs all=>all.length + lensL xs ≤ 1048576) (by omega) ?_ ?_ fu [] (by simpa using hs) (by omega)
 · simpa using this
 · intro n all i x xs hx hd hI ih
   simp only [lensL] at hI
   simp only [d_impl_IsPacking_L1.eq_2]
   unfold d_impl_IsPacking_L1_B d_impl_IsPacking_J2 d_impl_IsPacking_J1
   rw [hd,cond_true,hx,ob_some,i_within h _ _ (by omega),ob_some,ap1 (by omega),ob_some,ih _ (by simp; omega),List.all_cons,List.flatten_cons,← List.append_assoc]
   unfold okC
   rw [show (othM (typM r r.fMaster)).1 = masM r from rfl]
   by_cases hx0:x.length = 0
   · rw [bif_true (by simp [hx0])]; simp [hx0]
   · rw [bif_false (by simpa using hx0)]
     have e:(x.length != 0) = true:=by simpa using hx0
     cases witB r x (masM r) <;> simp [e]
 · intro n all i hd hI
   simp only [lensL] at hI
   simp only [d_impl_IsPacking_L1.eq_2]
   unfold d_impl_IsPacking_L1_B d_slices_Sort_int_int
   rw [hd,cond_false,i_there h us hu,ob_some,sortI_some (by omega),ob_some,sortI_some (by omega),ob_some,i_equal _ _ (by rw [List.length_mergeSort]; omega) (by rw [List.length_mergeSort]; omega),ob_some]
   simp [perB]
theorem s_pack {fu:Nat} {r:Request} (h:Sm fu r) (us:List Int) (cs:List (List Int)) (hu:us.length ≤ 1048576) (hl:cs.length ≤ 1048576) (hs:lensL cs ≤ 1048576):d_spec_IsPacking fu r us cs = some (packB r us cs):=by
 have hfu:=h.fu
 unfold d_spec_IsPacking packB
 rw [s_cls h,ob_some]
 by_cases hc:clsM r = 0
 rotate_left
 · rw [bif_true (by simpa using hc)]
   have:(clsM r == 0) = false:=by simpa using hc
   rw [this]; rfl
 rw [bif_false (by simp [hc]),s_mas h,ob_some,s_l6 h (clsM_zero hc).1,ob_some]
 have e6:l6M r = untM r:=by unfold untM; simp [hc]
 have e0:(clsM r == 0) = true:=by simp [hc]
 rw [e6,e0,Bool.true_and]
 have ht:=thrM_len r us
 have:=lpI cs (fun n all i=>d_spec_IsPacking_L2 fu r us cs (othM (typM r r.fMaster)) (untM r) n all i) (fun xs all=>some (xs.all (okC r) && perB (all ++ xs.flatten) (thrM r us))) (fun xs all=>all.length + lensL xs ≤ 1048576) (by omega) ?_ ?_ fu [] (by simpa using hs) (by omega)
 · simpa using this
 · intro n all i x xs hx hd hI ih
   simp only [lensL] at hI
   simp only [d_spec_IsPacking_L2.eq_2]
   unfold d_spec_IsPacking_L2_B d_spec_IsPacking_J4 d_spec_IsPacking_J3 d_spec_IsPacking_J2
   rw [hd,cond_true,hx,ob_some,s_l7Of r x (by omega) (by omega),ob_some,ob_some,s_vol,ob_some,ob_some,ap1 (by omega),ob_some,ih _ (by simp; omega),List.all_cons,List.flatten_cons,← List.append_assoc]
   unfold okC witB
   rw [show (othM (typM r r.fMaster)).1 = masM r from rfl,show volB (masM r).fW (masM r).fH (masM r).fD = volT (masM r) from rfl]
   by_cases hx0:x.length = 0
   · rw [bif_true (by simp [hx0])]; simp [hx0]
   · rw [bif_false (by simpa using hx0)]
     have e:(x.length != 0) = true:=by simpa using hx0
     by_cases hv:volM r x ≤ volT (masM r)
     · rw [bif_false (by simpa using hv)]
       by_cases hg:grmM r x ≤ (masM r).fGram
       · rw [bif_false (by simpa using hg)]; simp [e,hv,hg]
       · rw [bif_true (by simpa using hg)]; simp [hg]
     · rw [bif_true (by simpa using hv)]; simp [hv]
 · intro n all i hd hI
   simp only [lensL] at hI
   simp only [d_spec_IsPacking_L2.eq_2]
   unfold d_spec_IsPacking_L2_B d_spec_IsPacking_J1
   rw [hd,cond_false,s_known h us hu,ob_some]
   simp only [List.all_nil,Bool.true_and,List.flatten_nil,List.append_nil]
   by_cases hlen:(thrM r us).length = all.length
   rotate_left
   · rw [bif_true (by simp; omega)]
     congr 1
     symm
     rw [Bool.eq_false_iff]
     intro hp
     exact hlen (perB_iff.1 hp).length_eq.symm
   rw [bif_false (by simp [hlen])]
   have key:=lp all (fun n (_:Unit) i=>d_spec_IsPacking_L1 fu all (thrM r us) n i) (fun l _=>some (l.all fun x=>all.count x == (thrM r us).count x)) (by omega) ?_ ?_ fu () (by omega)
   · refine key.trans ?_
     congr 1
     apply Bool.eq_iff_iff.2
     rw [perB_iff]
     simp only [List.all_eq_true,beq_iff_eq]
     exact ⟨fun hc=>perm_cnt _ _ hlen.symm hc,fun hp x _=>hp.count_eq x⟩
   · intro n _ i x xs hx hd ih
     simp only [d_spec_IsPacking_L1.eq_2]
     unfold d_spec_IsPacking_L1_B
     rw [hd,cond_true,hx,ob_some,ob_some,s_tim (by omega) (by omega),ob_some,s_tim (by omega) (by omega),ob_some,ih (),List.all_cons,cnt_count,cnt_count]
     by_cases he:all.count x = (thrM r us).count x
     · rw [bif_false (by simp [he])]; simp [he]
     · rw [bif_true (by rw [bne_iff_ne]; omega)]
       have:(all.count x == (thrM r us).count x) = false:=by simpa using he
       rw [this]; rfl
   · intro n _ i hd
     simp only [d_spec_IsPacking_L1.eq_2]
     unfold d_spec_IsPacking_L1_B
     simp [hd]
end Go.Proofs.YthddjkokpfdbnaaGreat
/- IsRival of spec and of impl. -/
namespace Go.Proofs.YthddjkokpfdbnaaGreat
open Go
open Enc (rd ow)
open Arg (argv)
open Ret (retv)
open Wf (wf)
def clsZ (r:Request) (u:Int):Int:=(itmZ r u).fClass
def allBes (r:Request) (c:List Int):Bool:=c.all fun x=>c.all fun y=>besB r.fPairs (clsZ r x) (clsZ r y)
def rivB (r:Request) (cs:List (List Int)):Bool:=packB r (ints 0 (untM r).length) cs && cs.all (allBes r)
theorem thr_mem {r:Request} {us:List Int} {u:Int} (h:u ∈ thrM r us):0 ≤ u ∧ u < (untM r).length:=by
 unfold thrM at h
 have:=(List.mem_filter.1 h).2
 rw [inb_iff] at this
 omega
theorem pack_mem {r:Request} {us:List Int} {cs:List (List Int)} (h:packB r us cs = true):∀ c ∈ cs,∀ u ∈ c,0 ≤ u ∧ u < (untM r).length:=by
 intro c hc u hu
 simp only [packB,Bool.and_eq_true] at h
 exact thr_mem (((perB_iff.1 h.2.2).mem_iff).1 (List.mem_flatten.2 ⟨c,hc,hu⟩))
theorem itmZ_in {r:Request} {u:Int} (h:0 ≤ u ∧ u < (untM r).length):itmM r u = some (itmZ r u):=by
 obtain ⟨_,x,_,_,hx⟩:=itmM_in h
 unfold itmZ
 rw [hx]; rfl
theorem itsM_map {r:Request}:∀ {l:List Int},(∀ u ∈ l,0 ≤ u ∧ u < (untM r).length) → itsM r l = l.map (itmZ r)
 | [],_=>rfl
 | u :: l,h=>by
  have ih:=itsM_map (r:=r) (l:=l) fun v hv=>h v (by simp [hv])
  unfold itsM at ih ⊢
  rw [List.filterMap_cons,itmZ_in (h u (by simp)),ih,List.map_cons]
theorem may_in {r:Request} {l:List Int} {u:Int} (hl:∀ u ∈ l,0 ≤ u ∧ u < (untM r).length) (hu:0 ≤ u ∧ u < (untM r).length):mayB r l u = l.all fun x=>mutB r.fPairs (clsZ r x) (clsZ r u):=by
 unfold mayB
 rw [itsM_map hl,itsM_one (itmZ_in hu),List.all_map]
 congr 1
 funext x
 simp [clsZ]
theorem all_may {r:Request} {l:List Int} (hl:∀ u ∈ l,0 ≤ u ∧ u < (untM r).length):(l.all fun u=>mayB r l u) = allBes r l:=by
 unfold allBes
 apply Bool.eq_iff_iff.2
 simp only [List.all_eq_true]
 constructor
 · intro h x hx y hy
   have:=h y hy
   rw [may_in hl (hl y hy)] at this
   have:=List.all_eq_true.1 this x hx
   simp only [mutB,Bool.and_eq_true] at this
   exact this.1
 · intro h u hu
   rw [may_in hl (hl u hu),List.all_eq_true]
   intro x hx
   simp only [mutB,Bool.and_eq_true]
   exact ⟨h x hx u hu,h u hu x hx⟩
theorem i_rival {fu:Nat} {r:Request} (h:Sm fu r) (cs:List (List Int)) (hl:cs.length ≤ 1048576) (hm:∀ x ∈ cs,x.length ≤ 1048576) (hs:lensL cs ≤ 1048576):d_impl_IsRival fu r cs = some (rivB r cs):=by
 have hfu:=h.fu
 have hul:=untM_len r
 unfold d_impl_IsRival rivB
 rw [i_unt h,ob_some,i_places _ (by omega) (by omega),ob_some,i_pack h _ cs (by rw [ints_len]; omega) hl hs,ob_some]
 cases hp:packB r (ints 0 (untM r).length) cs
 · rfl
 rw [Bool.not_true,cond_false,Bool.true_and]
 unfold d_slices_ContainsFunc_ints_int
 rw [i_idxInts (fun y=>d_impl_IsRival_1 fu y r) (fun c=>!allBes r c) (fun c hc=>by
  have hcl:=hm c hc
  have hcm:=pack_mem hp c hc
  unfold d_impl_IsRival_1
  rw [i_anyInt (fun y=>d_impl_IsRival_1_1 fu y r c) (fun u=>!mayB r c u) (fun u _=>by
   unfold d_impl_IsRival_1_1
   rw [i_may h c u hcl,ob_some]) hcl (by omega),ob_some,← all_may hcm,List.not_all_eq_any_not]) hl (by omega),ob_some,fndI_any _ cs 0 (by omega),ob_some]
 congr 1
 rw [List.not_any_eq_all_not]
 congr 1
 funext c
 simp
theorem s_rival {fu:Nat} {r:Request} (h:Sm fu r) (cs:List (List Int)) (hl:cs.length ≤ 1048576) (hm:∀ x ∈ cs,x.length ≤ 1048576) (hs:lensL cs ≤ 1048576):d_spec_IsRival fu r cs = some (rivB r cs):=by
 have hfu:=h.fu
 have hul:=untM_len r
 unfold d_spec_IsRival rivB
 rw [s_unt h,ob_some,s_places _ (by omega) (by omega),ob_some,s_pack h _ cs (by rw [ints_len]; omega) hl hs,ob_some]
 cases hp:packB r (ints 0 (untM r).length) cs
 · rfl
 rw [Bool.not_true,cond_false,Bool.true_and]
 have hpp:=h.pairs
 have eb:∀ (k:Int → Option Bool) (i a x:Int) (c:List Int),ix cs i = some c → ix c a = some x → d_spec_IsRival_L1 fu k r cs (untM r) i a fu 0 = bif (c.all fun y=>besB r.fPairs (clsZ r x) (clsZ r y)) then k (w64 (a + 1)) else some false:=by
  intro k i a x c hc hx
  have hcl:=hm c (ix_mem hc)
  refine lp c (fun n (_:Unit) b=>d_spec_IsRival_L1 fu k r cs (untM r) i a n b) (fun l _=>bif (l.all fun y=>besB r.fPairs (clsZ r x) (clsZ r y)) then k (w64 (a + 1)) else some false) (by omega) ?_ ?_ fu () (by omega)
  · intro n _ b y ys hy hd ih
    simp only [d_spec_IsRival_L1.eq_2]
    unfold d_spec_IsRival_L1_B d_spec_IsRival_J5 d_spec_IsRival_J4 d_spec_IsRival_J3
    rw [hc,ob_some,hd,cond_true,ob_some,hx,ob_some,s_item,ob_some]
    simp only [ob_some,hy,s_item]
    rw [s_bes hpp (by omega),ob_some,ih (),List.all_cons,show (itmZ r x).fClass = clsZ r x from rfl,show (itmZ r y).fClass = clsZ r y from rfl]
    cases besB r.fPairs (clsZ r x) (clsZ r y) <;> rfl
  · intro n _ b hd
    simp only [d_spec_IsRival_L1.eq_2]
    unfold d_spec_IsRival_L1_B d_spec_IsRival_J2
    rw [hc,ob_some,hd]; rfl
 have ea:∀ (k:Int → Option Bool) (i:Int) (c:List Int),ix cs i = some c → d_spec_IsRival_L2 fu k r cs (untM r) i fu 0 = bif allBes r c then k (w64 (i + 1)) else some false:=by
  intro k i c hc
  have hcl:=hm c (ix_mem hc)
  refine lp c (fun n (_:Unit) a=>d_spec_IsRival_L2 fu k r cs (untM r) i n a) (fun l _=>bif (l.all fun x=>c.all fun y=>besB r.fPairs (clsZ r x) (clsZ r y)) then k (w64 (i + 1)) else some false) (by omega) ?_ ?_ fu () (by omega)
  · intro n _ a x xs hx hd ih
    simp only [d_spec_IsRival_L2.eq_2]
    unfold d_spec_IsRival_L2_B
    rw [hc,ob_some,hd,cond_true,eb _ i a x c hc hx,ih (),List.all_cons]
    cases (c.all fun y=>besB r.fPairs (clsZ r x) (clsZ r y)) <;> rfl
  · intro n _ a hd
    simp only [d_spec_IsRival_L2.eq_2]
    unfold d_spec_IsRival_L2_B d_spec_IsRival_J1
    rw [hc,ob_some,hd]; rfl
 refine lp cs (fun n (_:Unit) i=>d_spec_IsRival_L3 fu r cs (untM r) n i) (fun l _=>some (l.all (allBes r))) (by omega) ?_ ?_ fu () (by omega)
 · intro n _ i c xs hc hd ih
   simp only [d_spec_IsRival_L3.eq_2]
   unfold d_spec_IsRival_L3_B
   rw [hd,cond_true,ea _ i c hc,ih (),List.all_cons]
   cases allBes r c <;> rfl
 · intro n _ i hd
   simp only [d_spec_IsRival_L3.eq_2]
   unfold d_spec_IsRival_L3_B
   rw [hd]; rfl
end Go.Proofs.YthddjkokpfdbnaaGreat
/- RivalBy of spec and of impl. -/
namespace Go.Proofs.YthddjkokpfdbnaaGreat
open Go
open Enc (rd ow)
open Arg (argv)
open Ret (retv)
open Wf (wf)
def optB (r:Request) (u:Int) (c:List Int):Bool:=witB r (c ++ [u]) (masM r) && mayB r c u
def optsM (r:Request) (out:List (List Int)) (u:Int):List Int:=(ints 0 out.length).filter fun i=>optB r u ((ix out i).getD [])
def putM (out:List (List Int)) (u:Int) (l:List Int) (t:Int):List (List Int) :=
 if (if t < 0 then t + l.length + 1 else t) < l.length then
  match ix l (if t < 0 then t + l.length + 1 else t) with
  | some j=>setx out j ((ix out j).getD [] ++ [u])
  | none=>out
 else out ++ [[u]]
def stepM (r:Request) (picks:List Int) (out:List (List Int)) (u:Int):List (List Int) :=
 putM out u (optsM r out u) (Int.tmod ((ix picks u).getD 0) ((optsM r out u).length + 1))
def rbyM (r:Request) (picks:List Int):List (List Int):=(ints 0 (untM r).length).foldl (stepM r picks) []
def okR (r:Request) (m:Nat) (out:List (List Int)):Prop:=out.length + m ≤ 12 ∧ ∀ c ∈ out,c.length + m ≤ 12 ∧ ∀ y ∈ c,0 ≤ y ∧ y < (untM r).length
theorem tmod_bd (p:Int) {n:Int} (h:0 < n):-n < Int.tmod p n ∧ Int.tmod p n < n:=by
 refine ⟨?_,Int.tmod_lt_of_pos p h⟩
 have:=Int.tmod_lt_of_pos (-p) h
 rw [Int.neg_tmod] at this
 omega
theorem put_ok {r:Request} {m:Nat} {out:List (List Int)} {u:Int} {l:List Int} {t:Int} (h:okR r (m + 1) out) (hu:0 ≤ u ∧ u < (untM r).length):okR r m (putM out u l t):=by
 obtain ⟨h1,h2⟩:=h
 have happ:okR r m (out ++ [[u]]):=by
  refine ⟨by simp; omega,fun c hc=>?_⟩
  rcases List.mem_append.1 hc with hc | hc
  · have:=h2 c hc
    exact ⟨by omega,this.2⟩
  · rw [List.mem_singleton.1 hc]
    exact ⟨by simp; omega,fun y hy=>by rw [List.mem_singleton.1 hy]; exact hu⟩
 have hout:okR r m out:=⟨by omega,fun c hc=>⟨by have:=(h2 c hc).1; omega,(h2 c hc).2⟩⟩
 unfold putM
 generalize (if t < 0 then t + (l.length:Int) + 1 else t) = q
 split
 · split
   · rename_i j _
     unfold setx
     refine ⟨by simp; omega,fun c hc=>?_⟩
     rcases List.mem_or_eq_of_mem_set hc with hc | hc
     · exact hout.2 c hc
     · subst hc
       cases hj:ix out j with
       | none=>exact ⟨by simp; omega,fun y hy=>by simp at hy; rw [hy]; exact hu⟩
       | some d =>
        have hd:=h2 d (ix_mem hj)
        refine ⟨by simp; omega,fun y hy=>?_⟩
        simp only [Option.getD_some,List.mem_append,List.mem_singleton] at hy
        rcases hy with hy | hy
        · exact hd.2 y hy
        · rw [hy]; exact hu
   · exact hout
 · exact happ
theorem ix_in {α:Type} {l:List α} {i:Int} (h0:0 ≤ i) (h1:i < l.length):∃ x,ix l i = some x:=by
 obtain ⟨j,rfl⟩:∃ j:Nat,i = j:=⟨i.toNat,by omega⟩
 exact ⟨_,ix_i (by omega)⟩
theorem s_rby {fu:Nat} {r:Request} (h:Sm fu r) (picks:List Int) (hpl:picks.length ≤ 1048576):d_spec_RivalBy fu r picks = some (rbyM r picks):=by
 have hfu:=h.fu
 have hul:=untM_len r
 unfold d_spec_RivalBy rbyM
 rw [s_cls h,ob_some]
 by_cases hc:clsM r = 0
 rotate_left
 · have:(clsM r != 0) = true:=by simpa using hc
   rw [this,cond_true]
   have:untM r = []:=by unfold untM; rw [bif_false (by simpa using hc)]
   rw [this]; rfl
 rw [bif_false (by simp [hc]),s_mas h,ob_some,s_l6 h (clsM_zero hc).1,ob_some]
 have e6:l6M r = untM r:=by unfold untM; simp [hc]
 rw [e6]
 have eput:∀ (k:List (List Int) → Int → Option (List (List Int))) (out:List (List Int)) (u:Int) (l:List Int) (t:Int),out.length ≤ 12 → (∀ c ∈ out,c.length ≤ 12) → l.length ≤ 12 → (∀ j ∈ l,0 ≤ j ∧ j < out.length) → -(l.length + 1:Int) < t → t < l.length + 1 → d_spec_RivalBy_J4 fu k out u l t = k (putM out u l t) (w64 (u + 1)):=by
  intro k out u l t ho hco hl hj ht1 ht2
  have e3:∀ t:Int,0 ≤ t → d_spec_RivalBy_J3 fu k out u l t = k (if t < l.length then match ix l t with | some j=>setx out j ((ix out j).getD [] ++ [u]) | none=>out else out ++ [[u]]) (w64 (u + 1)):=by
   intro t ht
   unfold d_spec_RivalBy_J3 d_spec_RivalBy_J1
   by_cases hlt:t < l.length
   · obtain ⟨j,hj1⟩:=ix_in ht hlt
     have hjm:=hj j (ix_mem hj1)
     obtain ⟨c,hc1⟩:=ix_in hjm.1 hjm.2
     have hcl:=hco c (ix_mem hc1)
     rw [bif_true (by simpa using hlt),hj1,ob_some,ob_some,hc1,ob_some,ap1 (by simp; omega),ob_some,ob_some,if_pos hlt]
     simp only [hc1,Option.getD_some]
   · rw [bif_false (by simpa using hlt),ap1 (by simp; omega),ob_some,if_neg hlt]
  unfold d_spec_RivalBy_J4 putM
  by_cases ht:t < 0
  · rw [bif_true (by simpa using ht),w64_id (n:=t + _) (by omega) (by omega),w64_id (by omega) (by omega),e3 _ (by omega),if_pos ht]
  · rw [bif_false (by simpa using ht),e3 _ (by omega),if_neg ht]
 have e1:∀ (k:List (List Int) → Int → Option (List (List Int))) (out:List (List Int)) (u:Int) (m:Nat),okR r (m + 1) out → 0 ≤ u → u < (untM r).length → d_spec_RivalBy_L1 fu k r picks (othM (typM r r.fMaster)) (untM r) out u fu [] 0 = k (stepM r picks out u) (w64 (u + 1)):=by
  intro k out u m ho hu0 hu1
  have ho1:=ho.1
  have:=lpNI (out.length:Int) (fun n list i=>d_spec_RivalBy_L1 fu k r picks (othM (typM r r.fMaster)) (untM r) out u n list i) (fun xs list=>(fun l=>k (putM out u l (Int.tmod ((ix picks u).getD 0) (l.length + 1))) (w64 (u + 1))) (list ++ xs.filter fun i=>optB r u ((ix out i).getD []))) (fun xs list=>list.length + xs.length ≤ 12 ∧ ∀ j ∈ list,0 ≤ j ∧ j < out.length) (by omega) ?_ ?_ out.length fu [] 0 (by omega) (by omega) (by omega) ⟨by simp [ints_len]; omega,by simp⟩
  · simpa [stepM,optsM] using this
  · intro n list i xs h0 h1 hd hI ih
    obtain ⟨hI1,hI2⟩:=hI
    simp only [List.length_cons] at hI1
    obtain ⟨c,hc1⟩:=ix_in h0 h1
    have hcm:=ho.2 c (ix_mem hc1)
    simp only [d_spec_RivalBy_L1.eq_2]
    unfold d_spec_RivalBy_L1_B d_spec_RivalBy_J2
    rw [hd,cond_true,hc1,ob_some,s_l7Room r _ c u (by omega) (by omega),ob_some,ob_some,s_may h c u (by omega) ⟨hu0,hu1⟩ hcm.2,ob_some,ap1 (by simp; omega),ob_some,ih list ⟨by omega,hI2⟩,List.filter_cons,hc1,Option.getD_some]
    rw [show (othM (typM r r.fMaster)).1 = masM r from rfl]
    rw [show optB r u c = (witB r (c ++ [u]) (masM r) && mayB r c u) from rfl]
    cases witB r (c ++ [u]) (masM r)
    · simp
    · cases mayB r c u
      · simp
      · rw [ih _ ⟨by simp; omega,fun j hj=>by
          rcases List.mem_append.1 hj with hj | hj
          · exact hI2 j hj
          · rw [List.mem_singleton.1 hj]; exact ⟨h0,h1⟩⟩]
        simp
  · intro n list i hd hI
    obtain ⟨hI1,hI2⟩:=hI
    simp only [List.length_nil,Nat.add_zero] at hI1
    simp only [d_spec_RivalBy_L1.eq_2]
    unfold d_spec_RivalBy_L1_B
    have hw:w64 (((list.length:Int)) + 1) = (list.length:Int) + 1:=w64_id (by omega) (by omega)
    rw [hd,cond_false,hw,List.filter_nil,List.append_nil,odiv_ok (by omega)]
    by_cases hp:u < picks.length
    · obtain ⟨p,hp1⟩:=ix_in hu0 hp
      have hb:=tmod_bd p (n:=(list.length:Int) + 1) (by omega)
      rw [bif_true (by simpa using hp),hp1,ob_some,ob_some,eput k out u list _ (by omega) (fun c hc=>by have:=(ho.2 c hc).1; omega) (by omega) hI2 hb.1 hb.2]
      rfl
    · have hp1:ix picks u = none:=by unfold ix; rw [if_pos hu0,List.getElem?_eq_none (by omega)]
      rw [bif_false (by simpa using hp),eput k out u list _ (by omega) (fun c hc=>by have:=(ho.2 c hc).1; omega) (by omega) hI2 (by omega) (by omega),hp1]
      simp
 have:=lpNI ((untM r).length:Int) (fun n out i=>d_spec_RivalBy_L2 fu r picks (othM (typM r r.fMaster)) (untM r) n out i) (fun xs out=>some (xs.foldl (stepM r picks) out)) (fun xs out=>okR r xs.length out) (by omega) ?_ ?_ (untM r).length fu [] 0 (by omega) (by omega) (by omega) ⟨by simp [ints_len]; omega,by simp⟩
 · exact this
 · intro n out i xs h0 h1 hd hI ih
   simp only [d_spec_RivalBy_L2.eq_2]
   unfold d_spec_RivalBy_L2_B
   rw [hd,cond_true,e1 _ out i xs.length hI h0 h1,ih (stepM r picks out i) (put_ok hI ⟨h0,h1⟩)]
   rfl
 · intro n out i hd _
   simp only [d_spec_RivalBy_L2.eq_2]
   unfold d_spec_RivalBy_L2_B
   rw [hd]; rfl
theorem rby_ok (r:Request) (picks:List Int):okR r 0 (rbyM r picks):=by
 have key:∀ (xs:List Int) (out:List (List Int)),okR r xs.length out → (∀ u ∈ xs,0 ≤ u ∧ u < (untM r).length) → okR r 0 (xs.foldl (stepM r picks) out):=by
  intro xs
  induction xs with
  | nil=>intro out h _; exact h
  | cons x xs ih=>intro out h hm; exact ih _ (put_ok h (hm x (by simp))) fun u hu=>hm u (by simp [hu])
 have hul:=untM_len r
 refine key _ [] ⟨by simp [ints_len]; omega,by simp⟩ fun u hu=>?_
 rw [ints_mem] at hu
 omega
end Go.Proofs.YthddjkokpfdbnaaGreat
/- Others' cartons that are drawn are there, and small. -/
namespace Go.Proofs.YthddjkokpfdbnaaGreat
open Go
open Enc (rd ow)
open Arg (argv)
open Ret (retv)
open Wf (wf)
def SmC (cs:List (List Int)):Prop:=cs.length ≤ 12 ∧ ∀ c ∈ cs,c.length ≤ 24
theorem SmC.lens {cs:List (List Int)} (h:SmC cs):cs.length ≤ 1048576 ∧ (∀ x ∈ cs,x.length ≤ 1048576) ∧ lensL cs ≤ 1048576:=by
 have key:∀ (l:List (List Int)),(∀ c ∈ l,c.length ≤ 24) → lensL l ≤ 24 * l.length:=by
  intro l
  induction l with
  | nil=>simp [lensL]
  | cons x xs ih =>
   intro hx
   have h1:=ih fun c hc=>hx c (by simp [hc])
   have h2:=hx x (by simp)
   simp only [lensL,List.length_cons]; omega
 have:=key cs h.2
 have:=h.1
 exact ⟨by omega,fun x hx=>by have:=h.2 x hx; omega,by omega⟩
theorem dr_rival {fu:Nat} {b:List U8} (hb:b.length ≤ 1048576) (hf:2097153 ≤ fu):Tot (d_spec_l17Rival fu b) fun x=>SmR x.1 ∧ SmC x.2:=by
 unfold d_spec_l17Rival
 refine Tot.bind (dr_class hb hf) fun r hr=>Tot.bind (dr_new hb (by omega)) fun c hc=>?_
 have L1:=lpT 12 (fun n (s:Int × Int × List Int) i=>d_spec_l17Rival_L1 fu b r n s.1 s.2.1 s.2.2 i) (fun x:Request × List (List Int)=>SmR x.1 ∧ SmC x.2) (fun i s=>0 ≤ s.1 ∧ (s.2.2.length:Int) ≤ i ∧ i ≤ 12) (by omega) ?_ ?_ 12 fu (c.fi,c.fh,[]) 0 (by omega) rfl (by omega) ⟨hc.2.1,by simp,by omega⟩
 · exact L1
 · intro n ⟨f1,f2,ps⟩ i h0 h1 hI ih
   obtain ⟨j1,j2,j3⟩:0 ≤ f1 ∧ (ps.length:Int) ≤ i ∧ i ≤ 12:=hI
   simp only [d_spec_l17Rival_L1.eq_2]
   unfold d_spec_l17Rival_L1_B
   rw [bif_true (by simpa using h1)]
   refine Tot.bind (dr_below (b:=b) (c:=⟨b,f1,f2⟩) ⟨rfl,j1,hb⟩ 5) fun x hx=>Tot.ap (by simp; omega) ?_
   exact ih (x.2.fi,x.2.fh,_) ⟨hx.2.2.1,by simp; omega,by omega⟩
 · intro n ⟨f1,f2,ps⟩ i h0 h1 hI
   obtain ⟨j1,j2,j3⟩:0 ≤ f1 ∧ (ps.length:Int) ≤ i ∧ i ≤ 12:=hI
   simp only [d_spec_l17Rival_L1.eq_2]
   unfold d_spec_l17Rival_L1_B d_spec_l17Rival_J1
   rw [bif_false (by simpa using h1),s_rby (hr.sm hf) ps (by omega),ob_some]
   obtain ⟨o1,o2⟩:=rby_ok r ps
   have hc:SmC (rbyM r ps):=⟨by omega,fun c hc=>by have:=(o2 c hc).1; omega⟩
   refine Tot.bif (fun hl=>?_) fun _=>Tot.mk ⟨hr,hc⟩
   have hl:1 < (rbyM r ps).length:=by have:=of_decide_eq_true hl; omega
   refine Tot.bind (dr_once (b:=b) (c:=⟨b,f1,f2⟩) ⟨rfl,j1,hb⟩ 6) fun x hx=>?_
   refine Tot.bif (fun _=>?_) fun _=>Tot.mk ⟨hr,hc⟩
   refine Tot.ix (by omega) fun c0 h0=>Tot.ix (by omega) fun c1 h1=>?_
   have l0:=(o2 c0 h0).1
   have l1:=(o2 c1 h1).1
   rw [sls_some (by omega),ob_some]
   refine Tot.ap (by simp; omega) (Tot.ap (by simp; omega) (Tot.ap (by simp; omega) (Tot.mk ⟨hr,by simp; omega,fun c hc=>?_⟩)))
   rcases List.mem_append.1 hc with hc | hc
   · rw [List.mem_singleton.1 hc]; simp; omega
   · have:=(o2 c (List.mem_of_mem_drop (List.mem_of_mem_take hc))).1; omega
end Go.Proofs.YthddjkokpfdbnaaGreat
/- SortDown, by spec and by impl (short lists). -/
namespace Go.Proofs.YthddjkokpfdbnaaGreat
open Go
open Enc (rd ow)
open Arg (argv)
open Ret (retv)
open Wf (wf)
def dnk (keys:List Int) (p:Int):Int:=- kf keys p
theorem s_down {fu:Nat} {keys:List Int} (hfu:2097153 ≤ fu) (hl:keys.length ≤ 1048576):d_spec_SortDown fu keys = some (srt (dnk keys) keys.length):=by
 unfold d_spec_SortDown d_spec_l1Merge
 rw [s_places keys.length hl (by omega),ob_some]
 obtain ⟨m,rfl⟩:∃ m,fu = m + 1:=⟨fu - 1,by omega⟩
 rw [s_msrR true hfu m _ (by rw [ints_len]; omega) (by rw [ints_len]; omega) (fun p hp=>by have:=ints_mem.1 hp; omega),ob_some]
 congr 1
 have e:dk keys true = dnk keys:=rfl
 rw [e]
 exact srt_uniq (msr_perm _ _ _) (msr_sorted _ _ _ (by rw [ints_len]; omega) (ints_lt _ _))
def insL (k:Int → Int) (x:Int):List Int → List Int → List Int
 | [],mid=>x :: mid
 | y :: ys,mid=>if k x < k y then insL k x ys (y :: mid) else (y :: ys).reverse ++ x :: mid
theorem insL_perm (k:Int → Int) (x:Int):∀ (ys mid:List Int),(insL k x ys mid).Perm (ys.reverse ++ x :: mid)
 | [],mid=>List.Perm.refl _
 | y :: ys,mid=>by
  unfold insL
  split
  · refine (insL_perm k x ys (y :: mid)).trans ?_
    rw [List.reverse_cons,List.append_assoc]
    refine List.Perm.append_left _ ?_
    exact List.Perm.swap _ _ _
  · exact List.Perm.refl _
theorem insL_sorted (k:Int → Int) (x:Int):∀ (ys mid:List Int),(ys.reverse ++ mid).Pairwise (lx k) → (∀ m ∈ mid,lx k x m) → (∀ p ∈ ys,p < x) → (insL k x ys mid).Pairwise (lx k)
 | [],mid,h,hm,_=>by
  unfold insL
  exact List.pairwise_cons.2 ⟨hm,by simpa using h⟩
 | y :: ys,mid,h,hm,hy=>by
  unfold insL
  rw [List.reverse_cons,List.append_assoc] at h
  split
  · rename_i hk
    refine insL_sorted k x ys (y :: mid) (by simpa using h) ?_ (fun p hp=>hy p (by simp [hp]))
    intro m hmm
    rcases List.mem_cons.1 hmm with rfl | hmm
    · exact .inl hk
    · exact hm m hmm
  · rename_i hk
    have hyx:lx k y x:=by
     have:=hy y (by simp)
     by_cases he:k y < k x
     · exact .inl he
     · exact .inr ⟨by omega,this⟩
    rw [List.reverse_cons,List.append_assoc]
    obtain ⟨h1,h2,h3⟩:=List.pairwise_append.1 h
    simp only [List.singleton_append] at h2 h3
    refine List.pairwise_append.2 ⟨h1,?_,?_⟩
    · simp only [List.singleton_append]
      obtain ⟨h4,h5⟩:=List.pairwise_cons.1 h2
      refine List.pairwise_cons.2 ⟨?_,List.pairwise_cons.2 ⟨hm,h5⟩⟩
      intro m hmm
      rcases List.mem_cons.1 hmm with rfl | hmm
      · exact hyx
      · exact h4 m hmm
    · intro a ha b hb
      simp only [List.singleton_append,List.mem_cons] at hb
      have hay:=h3 a ha y (by simp)
      rcases hb with rfl | rfl | hb
      · exact hay
      · exact lx_trans hay hyx
      · exact h3 a ha b (by simp [hb])
theorem insL_app (k:Int → Int) (x:Int):∀ (ys mid rest:List Int),insL k x ys (mid ++ rest) = insL k x ys mid ++ rest
 | [],mid,rest=>rfl
 | y :: ys,mid,rest=>by
  unfold insL
  split
  · exact insL_app k x ys (y :: mid) rest
  · simp
theorem ix_m {A:List Int} {y:Int} {B:List Int} {n:Nat} (h:A.length = n):ix (A ++ y :: B) (n:Int) = some y:=by subst h; rw [ix_nat]; simp
theorem setx_m {A:List Int} {y z:Int} {B:List Int} {n:Nat} (h:A.length = n):setx (A ++ y :: B) (n:Int) z = A ++ z :: B:=by subst h; simp [setx]
theorem ins_loop {fu:Nat} {f:Int → Int → Option Int} {k:Int → Int} (K9:List Int → Int → Option (List Int)) (i0:Int) (hf:∀ a b c,f a b = some c → (c < 0 ↔ k a < k b)) (x:Int) :
    ∀ (ys mid:List Int) (n:Nat),(∀ p ∈ ys,∃ c,f x p = some c) → ys.length < n → ys.length ≤ 1048576 → d_slices_insertionSortCmpFunc_int_L1 fu K9 0 f i0 n (ys.reverse ++ x :: mid) (ys.length:Int) = K9 (insL k x ys mid) (w64 (i0 + 1))
 | [],mid,n,_,hn,_=>by
  obtain ⟨n,rfl⟩:∃ j,n = j + 1:=⟨n - 1,by omega⟩
  rw [d_slices_insertionSortCmpFunc_int_L1.eq_2]
  unfold d_slices_insertionSortCmpFunc_int_L1_B insL
  rw [bif_false (by simp)]; rfl
 | y :: ys,mid,n,hy,hn,hl=>by
  simp only [List.length_cons] at hn hl
  obtain ⟨n,rfl⟩:∃ j,n = j + 1:=⟨n - 1,by omega⟩
  obtain ⟨c,hc⟩:=hy y (by simp)
  have hw:w64 (((y :: ys).length:Int) - 1) = (ys.length:Int):=by simp only [List.length_cons]; rw [w64_id (by omega) (by omega)]; omega
  have e0:(y :: ys).reverse ++ x :: mid = ys.reverse ++ y :: x :: mid:=by simp
  have e1:ix ((y :: ys).reverse ++ x :: mid) ((y :: ys).length:Int) = some x:=ix_m (by simp)
  have e2:ix ((y :: ys).reverse ++ x :: mid) (ys.length:Int) = some y:=by rw [e0]; exact ix_m (by simp)
  rw [d_slices_insertionSortCmpFunc_int_L1.eq_2]
  unfold d_slices_insertionSortCmpFunc_int_L1_B insL
  rw [bif_true (by simp),e1,ob_some,hw,e2,ob_some,hc,ob_some]
  by_cases hk:k x < k y
  · rw [if_pos hk,decide_eq_true ((hf _ _ _ hc).2 hk),cond_true]
    unfold d_slices_insertionSortCmpFunc_int_J1
    have e3:setx ((y :: ys).reverse ++ x :: mid) ((y :: ys).length:Int) y = (y :: ys).reverse ++ y :: mid:=setx_m (by simp)
    have e4:ix ((y :: ys).reverse ++ y :: mid) (ys.length:Int) = some y:=by rw [show (y :: ys).reverse ++ y :: mid = ys.reverse ++ y :: y :: mid by simp]; exact ix_m (by simp)
    have e5:setx ((y :: ys).reverse ++ y :: mid) (ys.length:Int) x = ys.reverse ++ x :: y :: mid:=by rw [show (y :: ys).reverse ++ y :: mid = ys.reverse ++ y :: y :: mid by simp]; exact setx_m (by simp)
    rw [hw,e2,ob_some,e1,ob_some,ob_some,e3,e4,ob_some,e5]
    exact ins_loop K9 i0 hf x ys (y :: mid) n (fun p hp=>hy p (by simp [hp])) (by omega) (by omega)
  · rw [if_neg hk,decide_eq_false (fun h=>hk ((hf _ _ _ hc).1 h)),cond_false]
def insA (k:Int → Int):List Int → List Int → List Int
 | P,[]=>P
 | P,x :: xs=>insA k (insL k x P.reverse []) xs
theorem insA_spec (k:Int → Int):∀ (xs P:List Int),P.Pairwise (lx k) → (∀ p ∈ P,∀ x ∈ xs,p < x) → xs.Pairwise (· < ·) → (insA k P xs).Perm (P ++ xs) ∧ (insA k P xs).Pairwise (lx k)
 | [],P,h,_,_=>by simpa [insA] using h
 | x :: xs,P,h,hp,hx=>by
  obtain ⟨h1,h2⟩:=List.pairwise_cons.1 hx
  have hs:(insL k x P.reverse []).Pairwise (lx k):=insL_sorted k x P.reverse [] (by simpa using h) (by simp) (fun p hp'=>hp p (by simpa using hp') x (by simp))
  have hpm:(insL k x P.reverse []).Perm (P ++ [x]):=by simpa using insL_perm k x P.reverse []
  have ih:=insA_spec k xs (insL k x P.reverse []) hs (fun p hp' y hy=>by
   rcases List.mem_append.1 (hpm.mem_iff.1 hp') with h' | h'
   · exact hp p h' y (by simp [hy])
   · rw [List.mem_singleton.1 h']; exact h1 y hy) h2
  refine ⟨?_,ih.2⟩
  unfold insA
  refine ih.1.trans ?_
  refine (hpm.append_right xs).trans ?_
  simp
theorem ins_all {fu:Nat} {f:Int → Int → Option Int} {k:Int → Int} (hfu:2097153 ≤ fu) (hf:∀ a b c,f a b = some c → (c < 0 ↔ k a < k b)) {n:Nat} (hn:n ≤ 1048576) (hin:∀ a b:Int,0 ≤ a → a < n → 0 ≤ b → b < n → ∃ c,f a b = some c) :
    ∀ (xs P:List Int) (m:Nat),xs.length < m → P.length + xs.length = n → (∀ p ∈ P ++ xs,0 ≤ p ∧ p < n) → d_slices_insertionSortCmpFunc_int_L2 fu 0 (n:Int) f m (P ++ xs) (P.length:Int) = some (insA k P xs)
 | [],P,m,hm,hl,_=>by
  obtain ⟨m,rfl⟩:∃ j,m = j + 1:=⟨m - 1,by omega⟩
  simp only [List.length_nil] at hl
  rw [d_slices_insertionSortCmpFunc_int_L2.eq_2]
  unfold d_slices_insertionSortCmpFunc_int_L2_B
  rw [bif_false (by simp; omega)]; simp [insA]
 | x :: xs,P,m,hm,hl,hp=>by
  simp only [List.length_cons] at hl hm
  obtain ⟨m,rfl⟩:∃ j,m = j + 1:=⟨m - 1,by omega⟩
  rw [d_slices_insertionSortCmpFunc_int_L2.eq_2]
  unfold d_slices_insertionSortCmpFunc_int_L2_B
  rw [bif_true (by simp; omega)]
  have key:=ins_loop (fu:=fu) (f:=f) (k:=k) (d_slices_insertionSortCmpFunc_int_L2 fu 0 (n:Int) f m) (P.length:Int) hf x P.reverse xs fu (fun p hp'=>by
   have h1:=hp p (by simp at hp'; simp [hp'])
   have h2:=hp x (by simp)
   exact hin x p h2.1 h2.2 h1.1 h1.2) (by simp; omega) (by simp; omega)
  rw [List.reverse_reverse,List.length_reverse] at key
  rw [key,w64_s _ (by omega)]
  have e:insL k x P.reverse xs = insL k x P.reverse [] ++ xs:=by
   have:=insL_app k x P.reverse [] xs
   simpa using this
  have hpm:(insL k x P.reverse []).Perm (P ++ [x]):=by simpa using insL_perm k x P.reverse []
  have hlen:(insL k x P.reverse []).length = P.length + 1:=by rw [hpm.length_eq]; simp
  rw [e]
  have ih:=ins_all hfu hf hn hin xs (insL k x P.reverse []) m (by omega) (by omega) (fun p hp'=>by
   rcases List.mem_append.1 hp' with h' | h'
   · rcases List.mem_append.1 (hpm.mem_iff.1 h') with h'' | h''
     · exact hp p (by simp [h''])
     · exact hp p (by rw [List.mem_singleton.1 h'']; simp)
   · exact hp p (by simp [h']))
  rw [hlen] at ih
  rw [ih]; rfl
theorem i_cmp (fu:Nat) (a b:Int):∃ c,d_impl_compare fu a b = some c ∧ (c < 0 ↔ a < b):=by
 unfold d_impl_compare
 by_cases h:a < b
 · exact ⟨-1,by simp [h],by simp [h]⟩
 · by_cases h2:a > b
   · exact ⟨1,by simp [h,h2],by simp [h]⟩
   · exact ⟨0,by simp [h,h2],by simp [h]⟩
theorem i_down {fu:Nat} {keys:List Int} (hfu:2097153 ≤ fu) (hl:keys.length < 20):d_impl_SortDown fu keys = some (srt (dnk keys) keys.length):=by
 unfold d_impl_SortDown d_slices_SortStableFunc_int_int d_slices_stableCmpFunc_int
 rw [i_places _ (by omega) (by omega),ob_some]
 obtain ⟨f,hfd⟩:∃ f:Int → Int → Option Int,f = fun a b=>d_impl_SortDown_1 fu a b keys:=⟨_,rfl⟩
 have hdef:∀ a b:Int,0 ≤ a → a < keys.length → 0 ≤ b → b < keys.length → ∃ c,f a b = some c ∧ (c < 0 ↔ dnk keys a < dnk keys b):=by
  intro a b ha ha' hb hb'
  obtain ⟨c,h1,h2⟩:=i_cmp fu (kf keys b) (kf keys a)
  refine ⟨c,?_,?_⟩
  · rw [hfd]
    show d_impl_SortDown_1 fu a b keys = _
    unfold d_impl_SortDown_1
    rw [kf_ix ⟨hb,hb'⟩,ob_some,kf_ix ⟨ha,ha'⟩,ob_some,h1,ob_some]
  · rw [h2]; unfold dnk; omega
 have hf:∀ a b c,f a b = some c → (c < 0 ↔ dnk keys a < dnk keys b):=by
  intro a b c h
  have h0:=h
  rw [hfd] at h
  change d_impl_SortDown_1 fu a b keys = _ at h
  unfold d_impl_SortDown_1 at h
  obtain ⟨x,hx,h⟩:=obind_some h
  obtain ⟨y,hy,h⟩:=obind_some h
  obtain ⟨b0,b1,_⟩:=ix_some hx
  obtain ⟨a0,a1,_⟩:=ix_some hy
  obtain ⟨d,h1,h2⟩:=hdef a b a0 a1 b0 b1
  rw [h0] at h1
  cases h1
  exact h2
 have ha:=ins_all (fu:=fu) (f:=f) (k:=dnk keys) hfu hf (n:=keys.length) (by omega) (fun a b h1 h2 h3 h4=>by obtain ⟨c,h,_⟩:=hdef a b h1 h2 h3 h4; exact ⟨c,h⟩)
 have hI:d_slices_insertionSortCmpFunc_int fu (ints 0 keys.length) 0 ((ints 0 keys.length).length:Int) f = some (srt (dnk keys) keys.length):=by
  unfold d_slices_insertionSortCmpFunc_int
  rw [ints_len,show w64 ((0:Int) + 1) = 1 by rw [w64_id (by omega) (by omega)]; rfl]
  cases hk:keys.length with
  | zero =>
   obtain ⟨m,rfl⟩:∃ m,fu = m + 1:=⟨fu - 1,by omega⟩
   rw [d_slices_insertionSortCmpFunc_int_L2.eq_2]
   unfold d_slices_insertionSortCmpFunc_int_L2_B
   rw [bif_false (by simp)]; rfl
  | succ n =>
   rw [hk] at ha
   have:=ha (ints 1 n) [0] fu (by rw [ints_len]; omega) (by rw [ints_len]; simp; omega) (fun p hp=>by
    have:p ∈ ints 0 (n + 1):=hp
    have:=ints_mem.1 this
    omega)
   have e:ints 0 (n + 1) = [0] ++ ints 1 n:=rfl
   rw [e]
   have h1:(([0]:List Int).length:Int) = 1:=rfl
   rw [h1] at this
   rw [this]
   congr 1
   have hsp:=insA_spec (dnk keys) (ints 1 n) [0] (by simp) (fun p hp x hx=>by
    have:=ints_mem.1 hx
    rw [List.mem_singleton.1 hp]; omega) (ints_lt _ _)
   exact srt_uniq hsp.1 hsp.2
 obtain ⟨m,rfl⟩:∃ m,fu = m + 1:=⟨fu - 1,by omega⟩
 rw [d_slices_stableCmpFunc_int_L3.eq_2]
 unfold d_slices_stableCmpFunc_int_L3_B
 rw [bif_false (by rw [ints_len]; simp; omega)]
 rw [← hfd,hI,ob_some,d_slices_stableCmpFunc_int_L2.eq_2]
 unfold d_slices_stableCmpFunc_int_L2_B
 rw [bif_false (by rw [ints_len]; simp; omega)]
 rfl
end Go.Proofs.YthddjkokpfdbnaaGreat
/- Transitive of spec and of impl; where it is, groups are apart. -/
namespace Go.Proofs.YthddjkokpfdbnaaGreat
open Go
open Enc (rd ow)
open Arg (argv)
open Ret (retv)
open Wf (wf)
structure Sep (p:List Pair) (P:List Int) (out:List (List Int)):Prop where
 ne:∀ g ∈ out,g ≠ []
 inn:∀ g ∈ out,∀ x ∈ g,x ∈ P
 one:∀ g ∈ out,∀ x ∈ g,∀ y ∈ g,x ≠ y → mutB p x y = true
 two:∀ (i j:Nat) (g h:List Int),out[i]? = some g → out[j]? = some h → i ≠ j → ∀ x ∈ g,∀ y ∈ h,mutB p x y = false
end Go.Proofs.YthddjkokpfdbnaaGreat
/- Holds and Cheapest, by spec and by impl. -/
namespace Go.Proofs.YthddjkokpfdbnaaGreat
open Go
open Enc (rd ow)
open Arg (argv)
open Ret (retv)
open Wf (wf)
theorem all_cong {α:Type} {p q:α → Bool}:∀ {l:List α},(∀ x ∈ l,p x = q x) → l.all p = l.all q
 | [],_=>rfl
 | x :: xs,h=>by rw [List.all_cons,List.all_cons,h x (by simp),all_cong fun y hy=>h y (by simp [hy])]
def uOk (r:Request) (t:Typ) (u:Int):Bool:=(itmM r u).isSome && fitB (itmZ r u) t
def hldB (r:Request) (us:List Int) (t:Typ):Bool:=clsM r == 0 && (us.all (uOk r t) && witB r us t)
theorem itm_isSome {r:Request} {u:Int}:(itmM r u).isSome = true ↔ 0 ≤ u ∧ u < (untM r).length:=by
 constructor
 · intro h
   apply Decidable.byContradiction
   intro hn
   rw [itmM_out hn] at h
   cases h
 · intro h
   rw [itmZ_in h]; rfl
theorem i_holds {fu:Nat} {r:Request} (h:Sm fu r) (us:List Int) (t:Typ) (hl:us.length ≤ 1048576):d_impl_Holds fu r us t = some (hldB r us t):=by
 have hfu:=h.fu
 have hil:=itsM_len r us
 unfold d_impl_Holds hldB
 rw [i_sound h,ob_some]
 cases hc:clsM r == 0
 · rfl
 · rw [Bool.not_true,cond_false,i_there h us hl,ob_some,Bool.true_and]
   by_cases ha:∀ u ∈ us,0 ≤ u ∧ u < (untM r).length
   · have e:thrM r us = us:=List.filter_eq_self.2 fun u hu=>by have:=ha u hu; simp; omega
     have e0:((us.length:Int) != (us.length:Int)) = false:=by simp
     rw [e,e0,cond_false]
     unfold d_impl_Holds_J1
     rw [i_items h us hl (by omega),ob_some,i_anyItem _ (fun x=>!fitB x t) ?_ (by omega) (by omega),ob_some]
     · rw [i_within h t us hl,ob_some,itsM_map ha,List.any_map]
       have e1:us.all (uOk r t) = !(us.any ((fun x=>!fitB x t) ∘ itmZ r)):=by
        rw [List.not_any_eq_all_not]
        apply all_cong
        intro u hu
        simp only [uOk,itm_isSome.2 (ha u hu),Bool.true_and,Function.comp,Bool.not_not]
       rw [e1]
       cases us.any ((fun x=>!fitB x t) ∘ itmZ r) <;> simp
     · intro x _
       unfold d_impl_Holds_1
       rw [i_fit,ob_some]
   · have hlt:(thrM r us).length < us.length:=by
       apply Decidable.byContradiction
       intro hn
       apply ha
       have e:(us.filter fun u=>inb u 0 (((untM r).length:Int) - 1)).length = us.length:=by
        have:=List.length_filter_le (fun u=>inb u 0 (((untM r).length:Int) - 1)) us
        have e':thrM r us = us.filter fun u=>inb u 0 (((untM r).length:Int) - 1):=rfl
        rw [e'] at hn
        omega
       intro u hu
       have:=List.length_filter_eq_length_iff.1 e u hu
       simp at this
       omega
     have e0:(((thrM r us).length:Int) != (us.length:Int)) = true:=by simp; omega
     rw [e0,cond_true]
     have e1:us.all (uOk r t) = false:=by
      apply Bool.eq_false_iff.2
      intro he
      apply ha
      intro u hu
      have:=List.all_eq_true.1 he u hu
      simp only [uOk,Bool.and_eq_true] at this
      exact itm_isSome.1 this.1
     rw [e1,Bool.false_and]
theorem s_holds {fu:Nat} {r:Request} (h:Sm fu r) (us:List Int) (t:Typ) (hl:us.length ≤ 1048576):d_spec_Holds fu r us t = some (hldB r us t):=by
 have hfu:=h.fu
 unfold d_spec_Holds hldB
 rw [s_cls h,ob_some]
 cases hc:clsM r == 0
 · have:(clsM r != 0) = true:=by simp only [bne,hc]; rfl
   rw [this]; rfl
 · have:(clsM r != 0) = false:=by simp only [bne,hc]; rfl
   have hz:clsM r = 0:=by simpa using hc
   have hu:d_spec_l6Units fu r = some (untM r):=s_l6c h hz
   rw [this,cond_false,hu,ob_some,Bool.true_and]
   have key:=lp us (fun n (_:Unit) i=>d_spec_Holds_L1 fu r us t (untM r) n i) (fun l _=>some (l.all (uOk r t) && witB r us t)) (by omega) ?_ ?_ fu () (by omega)
   · exact key
   · intro n _ i x xs hx hd ih
     simp only [d_spec_Holds_L1.eq_2]
     unfold d_spec_Holds_L1_B d_spec_Holds_J3 d_spec_Holds_J2
     simp only [hd,cond_true,hx,ob_some,s_item,ih (),List.all_cons,uOk]
     cases (itmM r x).isSome
     · rfl
     · simp only [Bool.not_true,cond_false,s_fit (show 2097153 ≤ fu by omega),ob_some]
       cases fitB (itmZ r x) t <;> rfl
   · intro n _ i hd
     simp only [d_spec_Holds_L1.eq_2]
     unfold d_spec_Holds_L1_B d_spec_Holds_J1
     simp only [hd,cond_false,s_l7Of r us hl (show us.length < fu by omega),ob_some,s_vol]
     show (bif decide (volM r us ≤ volT t) then _ else _) = _
     unfold witB
     cases decide (volM r us ≤ volT t) <;> simp
def chp (r:Request) (us:List Int) (s:Typ × Bool) (t:Typ):Typ × Bool :=
 bif hldB r us t && (!s.2 || (decide (t.fCost < s.1.fCost) || (t.fCost == s.1.fCost && decide (t.fId < s.1.fId)))) then (t,true) else s
def chpM (r:Request) (us:List Int):Typ × Bool:=r.fTypes.foldl (chp r us) (zTyp,false)
theorem i_cheap {fu:Nat} {r:Request} (h:Sm fu r) (us:List Int) (hl:us.length ≤ 1048576):d_impl_Cheapest fu r us = some (chpM r us):=by
 have hfu:=h.fu
 have ht:=h.types
 unfold d_impl_Cheapest
 have key:=lp r.fTypes (fun n (s:Typ × Bool) i=>d_impl_Cheapest_L1 fu r us n s.1 s.2 i) (fun l s=>some (l.foldl (chp r us) s)) (by omega) ?_ ?_ fu (zTyp,false) (by omega)
 · exact key
 · intro n s i x xs hx hd ih
   simp only [d_impl_Cheapest_L1.eq_2]
   unfold d_impl_Cheapest_L1_B d_impl_Cheapest_J1
   have ih':=fun a b=>ih (a,b)
   simp only at ih'
   obtain ⟨b,f⟩:=s
   simp only [hd,cond_true,hx,ob_some,i_holds h us x hl,ih',List.foldl_cons,chp]
   cases hldB r us x <;> cases f <;> cases decide (x.fCost < b.fCost) <;> cases x.fCost == b.fCost <;> cases decide (x.fId < b.fId) <;> rfl
 · intro n s i hd
   simp only [d_impl_Cheapest_L1.eq_2]
   unfold d_impl_Cheapest_L1_B
   simp only [hd,cond_false]
   rfl
theorem s_cheap {fu:Nat} {r:Request} (h:Sm fu r) (us:List Int) (hl:us.length ≤ 1048576):d_spec_Cheapest fu r us = some (chpM r us):=by
 have hfu:=h.fu
 have ht:=h.types
 unfold d_spec_Cheapest
 have key:=lp r.fTypes (fun n (s:Typ × Bool) i=>d_spec_Cheapest_L1 fu r us n s.1 s.2 i) (fun l s=>some (l.foldl (chp r us) s)) (by omega) ?_ ?_ fu (zTyp,false) (by omega)
 · exact key
 · intro n s i x xs hx hd ih
   simp only [d_spec_Cheapest_L1.eq_2]
   unfold d_spec_Cheapest_L1_B d_spec_Cheapest_J1
   have ih':=fun a b=>ih (a,b)
   simp only at ih'
   obtain ⟨b,f⟩:=s
   simp only [hd,cond_true,hx,ob_some,s_holds h us x hl,ih',List.foldl_cons,chp]
   cases hldB r us x <;> cases f <;> cases decide (x.fCost < b.fCost) <;> cases x.fCost == b.fCost <;> cases decide (x.fId < b.fId) <;> rfl
 · intro n s i hd
   simp only [d_spec_Cheapest_L1.eq_2]
   unfold d_spec_Cheapest_L1_B
   simp only [hd,cond_false]
   rfl
end Go.Proofs.YthddjkokpfdbnaaGreat
/- Gross and BoxOf, by spec and by impl. -/
namespace Go.Proofs.YthddjkokpfdbnaaGreat
open Go
open Enc (rd ow)
open Arg (argv)
open Ret (retv)
open Wf (wf)
end Go.Proofs.YthddjkokpfdbnaaGreat
/- Within, Overlap, Pallets: by spec and by impl. -/
namespace Go.Proofs.YthddjkokpfdbnaaGreat
open Go
open Enc (rd ow)
open Arg (argv)
open Ret (retv)
open Wf (wf)
end Go.Proofs.YthddjkokpfdbnaaGreat
