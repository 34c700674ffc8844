/- RenamedBP: plain lemmas, part 2. -/
import Derived.Test.YthkaklkinepfkaaGreatDoorRenamedBP1
set_option linter.unusedSimpArgs false
set_option linter.unusedVariables false
namespace Go.Proofs.YthkaklkinepfkaaGreatDoor
open Go
open Enc (rd ow)
open Arg (argv)
open Ret (retv)
open Wf (wf)
theorem itmZ_gram (r:Request) (u:Int):0 ≤ (itmZ r u).fGram ∧ (itmZ r u).fGram ≤ 100000:=by
 unfold itmZ
 cases hm:itmM r u with
 | none=>simp [zItem]
 | some x=>exact grm_mem (r:=r) (us:=[u]) (by simp [itsM,List.filterMap_cons,hm])
theorem s_grm {fu:Nat} {r:Request} (h:Sm fu r) (us:List Int) (hl:us.length ≤ 1048576) (hf:us.length < fu):d_spec_GramOf fu r us = some (grmM r us):=by
 unfold d_spec_GramOf
 rw [s_unt h,ob_some]
 have key:=lpI us (fun n s i=>d_spec_GramOf_L1 fu r us (untM r) n s i) (fun l n=>some (n + grmM r l)) (fun l n=>0 ≤ n ∧ n + 100000 * l.length ≤ 100000 * 1048576) (by omega) ?_ ?_ fu 0 ⟨by omega,by omega⟩ hf
 · simpa using key
 · intro n s i x xs hx hd hI ih
   simp only [d_spec_GramOf_L1.eq_2]
   unfold d_spec_GramOf_L1_B d_spec_GramOf_J2 d_spec_GramOf_J1
   simp only [hd,cond_true,hx,ob_some,s_item]
   have hv:=itmZ_gram r x
   have h2:=hI.2
   simp only [List.length_cons] at h2
   rw [w64_id (by omega) (by omega),ih _ ⟨by omega,by omega⟩]
   congr 1
   have e:grmM r (x :: xs) = (itmZ r x).fGram + grmM r xs:=by
    unfold grmM itsM itmZ
    cases hm:itmM r x with
    | none=>simp [List.filterMap_cons,hm,zItem]
    | some y=>simp [List.filterMap_cons,hm]
   rw [e]
   omega
 · intro n s i hd _
   simp only [d_spec_GramOf_L1.eq_2]
   unfold d_spec_GramOf_L1_B
   simp only [hd,cond_false]
   simp [grmM,itsM]
theorem i_grm {fu:Nat} {r:Request} (h:Sm fu r) (us:List Int) (hl:us.length ≤ 1048576) (hf:us.length < fu):d_impl_GramOf fu r us = some (grmM r us):=by
 unfold d_impl_GramOf
 rw [i_items h us hl hf,ob_some]
 have hlen:=itsM_len r us
 have key:=lpI (itsM r us) (fun n s i=>d_impl_GramOf_L1 fu (itsM r us) n s i) (fun l n=>some (n + sumI (l.map (·.fGram)))) (fun l n=>0 ≤ n ∧ n + 100000 * l.length ≤ 100000 * 1048576 ∧ ∀ x ∈ l,0 ≤ x.fGram ∧ x.fGram ≤ 100000) (by omega) ?_ ?_ fu 0 ⟨by omega,by omega,fun x hx=>grm_mem hx⟩ (by omega)
 · simpa [grmM] using key
 · intro n s i x xs hx hd hI ih
   simp only [d_impl_GramOf_L1.eq_2]
   unfold d_impl_GramOf_L1_B
   simp only [hd,cond_true,hx,ob_some]
   have hv:=hI.2.2 x (by simp)
   have h2:=hI.2.1
   simp only [List.length_cons] at h2
   rw [w64_id (by omega) (by omega),ih _ ⟨by omega,by omega,fun y hy=>hI.2.2 y (by simp [hy])⟩]
   simp only [List.map_cons,sumI_cons]
   congr 1
   omega
 · intro n s i hd _
   simp only [d_impl_GramOf_L1.eq_2]
   unfold d_impl_GramOf_L1_B
   simp only [hd,cond_false]
   simp
theorem vol_cons (r:Request) (x:Int) (xs:List Int):volM r (x :: xs) = volI (itmZ r x) + volM r xs:=by
 unfold volM itsM itmZ
 cases hm:itmM r x with
 | none=>simp [List.filterMap_cons,hm,vol_zero]
 | some y=>simp [List.filterMap_cons,hm]
theorem grm_cons (r:Request) (x:Int) (xs:List Int):grmM r (x :: xs) = (itmZ r x).fGram + grmM r xs:=by
 unfold grmM itsM itmZ
 cases hm:itmM r x with
 | none=>simp [List.filterMap_cons,hm,zItem]
 | some y=>simp [List.filterMap_cons,hm]
theorem s_l7Of {fu:Nat} (r:Request) (us:List Int) (hl:us.length ≤ 1048576) (hf:us.length < fu):d_spec_l7Of fu r (untM r) us = some ⟨volM r us,grmM r us⟩:=by
 unfold d_spec_l7Of
 have key:=lpI us (fun n s i=>d_spec_l7Of_L1 fu r (untM r) us n s i) (fun l s=>some (⟨s.fvol + volM r l,s.fgram + grmM r l⟩:L7))
  (fun l s=>0 ≤ s.fvol ∧ s.fvol + 8000000000 * l.length ≤ 8000000000 * 1048576 ∧ 0 ≤ s.fgram ∧ s.fgram + 100000 * l.length ≤ 100000 * 1048576) (by omega) ?_ ?_ fu ⟨0,0⟩ ⟨by simp,by simp; omega,by simp,by simp; omega⟩ hf
 · simpa using key
 · intro n s i x xs hx hd hI ih
   simp only [d_spec_l7Of_L1.eq_2]
   unfold d_spec_l7Of_L1_B d_spec_l7Of_J2 d_spec_l7Of_J1
   simp only [hd,cond_true,hx,ob_some,s_item,s_vol]
   have hv:=volB_nn (itmZ r x).fW (itmZ r x).fH (itmZ r x).fD
   have hg:=itmZ_gram r x
   obtain ⟨a1,a2,a3,a4⟩:=hI
   simp only [List.length_cons] at a2 a4
   rw [w64_id (n:=s.fvol + _) (by omega) (by omega),w64_id (n:=s.fgram + _) (by omega) (by omega),ih _ ⟨by simp; omega,by simp; omega,by simp; omega,by simp; omega⟩,vol_cons,grm_cons,show volB (itmZ r x).fW (itmZ r x).fH (itmZ r x).fD = volI (itmZ r x) from rfl]
   simp only [Option.some.injEq,L7.mk.injEq]
   constructor <;> omega
 · intro n s i hd _
   simp only [d_spec_l7Of_L1.eq_2]
   unfold d_spec_l7Of_L1_B
   simp only [hd,cond_false]
   simp [volM,grmM,itsM]
def witB (r:Request) (us:List Int) (t:Typ):Bool:=decide (volM r us ≤ volT t) && decide (grmM r us ≤ t.fGram)
theorem s_l7Room {fu:Nat} (r:Request) (t:Typ) (us:List Int) (u:Int) (hl:us.length < 1048576) (hf:us.length + 1 < fu):d_spec_l7Room fu r (untM r) t us u = some (witB r (us ++ [u]) t):=by
 unfold d_spec_l7Room d_spec_l7Room_J1 witB
 rw [ap1 (by simp; omega),ob_some,List.nil_append,ap1 (by simp; omega),ob_some,s_l7Of r _ (by simp; omega) (by simp; omega),ob_some,s_vol,ob_some]
 show (bif decide (volM r (us ++ [u]) ≤ volT t) then _ else _) = _
 cases decide (volM r (us ++ [u]) ≤ volT t) <;> simp
theorem i_within {fu:Nat} {r:Request} (h:Sm fu r) (t:Typ) (us:List Int) (hl:us.length ≤ 1048576):d_impl_within fu r us t = some (witB r us t):=by
 have hfu:=h.fu
 unfold d_impl_within witB
 rw [i_volOf h us hl (by omega),ob_some,i_vol,ob_some,i_grm h us hl (by omega)]
 show (bif decide (volM r us ≤ volT t) then _ else _) = _
 cases decide (volM r us ≤ volT t) <;> simp
theorem othM_1 {r:Request}:(othM (typM r r.fMaster)).1 = masM r:=rfl
theorem i_room1 {fu:Nat} {r:Request} (h:Sm fu r) (us:List Int) (u:Int) (hl:us.length < 1048576):d_impl_Room fu r us u = some (clsM r == 0 && witB r (us ++ [u]) (masM r)):=by
 have hfu:=h.fu
 unfold d_impl_Room d_slices_Clone_int_int
 rw [i_mas h,ob_some,i_sound h,ob_some]
 cases hc:clsM r == 0
 · rfl
 · rw [cond_true,ap1 (by simp; omega),ob_some,ob_some,List.nil_append,ap1 (by simp; omega),ob_some,i_within h _ _ (by simp; omega)]
   rfl
def thrM (r:Request) (us:List Int):List Int:=us.filter fun u=>inb u 0 (((untM r).length:Int) - 1)
theorem i_there {fu:Nat} {r:Request} (h:Sm fu r) (us:List Int) (hl:us.length ≤ 1048576):d_impl_thereOf fu r us = some (thrM r us):=by
 have hfu:=h.fu
 unfold d_impl_thereOf d_slices_Clone_int_int thrM
 rw [i_unt h,ob_some,ap1 (by simp; omega),ob_some,ob_some,List.nil_append,i_del _ (fun u=>!inb u 0 (((untM r).length:Int) - 1)) ?_ hl (by omega),ob_some]
 · simp
 · intro u _
   unfold d_impl_thereOf_1
   rw [w64_len,i_in,ob_some]
theorem s_known {fu:Nat} {r:Request} (h:Sm fu r) (us:List Int) (hl:us.length ≤ 1048576):d_spec_l7Known fu (untM r) us = some (thrM r us):=by
 have hfu:=h.fu
 unfold d_spec_l7Known thrM
 have:=lpI us (fun n out i=>d_spec_l7Known_L1 fu (untM r) us n out i) (fun xs out=>some (out ++ xs.filter fun u=>inb u 0 (((untM r).length:Int) - 1))) (fun xs out=>out.length + xs.length ≤ 1048576) (by omega) ?_ ?_ fu [] (by simpa using hl) (by omega)
 · simpa using this
 · intro n out i x xs hx hd hI ih
   simp only [List.length_cons] at hI
   simp only [d_spec_l7Known_L1.eq_2]
   unfold d_spec_l7Known_L1_B d_spec_l7Known_J1
   rw [hd,cond_true,hx,ob_some,w64_len,s_in,ob_some,ob_some,List.filter_cons]
   cases hb:inb x 0 (((untM r).length:Int) - 1)
   · rw [cond_false,ih _ (by omega)]; simp
   · rw [cond_true,ap1 (by simp; omega),ob_some,ih _ (by simp; omega)]; simp
 · intro n out i hd hI
   simp only [d_spec_l7Known_L1.eq_2]
   unfold d_spec_l7Known_L1_B
   simp only [hd,cond_false]
   simp
theorem sortI_some {xs:List Int} (h:xs.length ≤ 1048576):sortI xs = some (xs.mergeSort fun x y=>decide (x ≤ y)):=by
 unfold sortI
 rw [if_pos (by omega)]
theorem thrM_len (r:Request) (us:List Int):(thrM r us).length ≤ us.length:=List.length_filter_le _ _
theorem thr_mem {r:Request} {us:List Int} {u:Int} (h:u ∈ thrM r us):0 ≤ u ∧ u < (untM r).length:=by
 unfold thrM at h
 have:=(List.mem_filter.1 h).2
 rw [inb_iff] at this
 omega
theorem itmZ_in {r:Request} {u:Int} (h:0 ≤ u ∧ u < (untM r).length):itmM r u = some (itmZ r u):=by
 obtain ⟨_,x,_,_,hx⟩:=itmM_in h
 unfold itmZ
 rw [hx]; rfl
theorem itsM_map {r:Request}:∀ {l:List Int},(∀ u ∈ l,0 ≤ u ∧ u < (untM r).length) → itsM r l = l.map (itmZ r)
 | [],_=>rfl
 | u :: l,h=>by
  have ih:=itsM_map (r:=r) (l:=l) fun v hv=>h v (by simp [hv])
  unfold itsM at ih ⊢
  rw [List.filterMap_cons,itmZ_in (h u (by simp)),ih,List.map_cons]
theorem lpAll {α:Type} (l:List α) (L:Nat → Int → Option Bool) (g:α → Bool) (fin:Option Bool) (hl:l.length ≤ 1099511627776)
    (hs:∀ n (i:Int) x,ix l i = some x → decide (i < (l.length:Int)) = true → L (n + 1) i = bif g x then L n (w64 (i + 1)) else some false)
    (he:∀ n (i:Int),decide (i < (l.length:Int)) = false → L (n + 1) i = fin):∀ n,l.length < n → L n 0 = bif l.all g then fin else some false:=by
 intro n hn
 refine lp l (fun n (_:Unit) i=>L n i) (fun xs _=>bif xs.all g then fin else some false) hl ?_ ?_ n () hn
 · intro n s i x xs hx hd ih
   rw [hs n i x hx hd,ih (),List.all_cons]
   cases g x <;> rfl
 · intro n s i hd
   rw [he n i hd]; rfl
structure Sep (p:List Pair) (P:List Int) (out:List (List Int)):Prop where
 ne:∀ g ∈ out,g ≠ []
 inn:∀ g ∈ out,∀ x ∈ g,x ∈ P
 one:∀ g ∈ out,∀ x ∈ g,∀ y ∈ g,x ≠ y → mutB p x y = true
 two:∀ (i j:Nat) (g h:List Int),out[i]? = some g → out[j]? = some h → i ≠ j → ∀ x ∈ g,∀ y ∈ h,mutB p x y = false
theorem all_cong {α:Type} {p q:α → Bool}:∀ {l:List α},(∀ x ∈ l,p x = q x) → l.all p = l.all q
 | [],_=>rfl
 | x :: xs,h=>by rw [List.all_cons,List.all_cons,h x (by simp),all_cong fun y hy=>h y (by simp [hy])]
def uOk (r:Request) (t:Typ) (u:Int):Bool:=(itmM r u).isSome && fitB (itmZ r u) t
def hldB (r:Request) (us:List Int) (t:Typ):Bool:=clsM r == 0 && (us.all (uOk r t) && witB r us t)
theorem itm_isSome {r:Request} {u:Int}:(itmM r u).isSome = true ↔ 0 ≤ u ∧ u < (untM r).length:=by
 constructor
 · intro h
   apply Decidable.byContradiction
   intro hn
   rw [itmM_out hn] at h
   cases h
 · intro h
   rw [itmZ_in h]; rfl
theorem i_holds {fu:Nat} {r:Request} (h:Sm fu r) (us:List Int) (t:Typ) (hl:us.length ≤ 1048576):d_impl_Holds fu r us t = some (hldB r us t):=by
 have hfu:=h.fu
 have hil:=itsM_len r us
 unfold d_impl_Holds hldB
 rw [i_sound h,ob_some]
 cases hc:clsM r == 0
 · rfl
 · rw [Bool.not_true,cond_false,i_there h us hl,ob_some,Bool.true_and]
   by_cases ha:∀ u ∈ us,0 ≤ u ∧ u < (untM r).length
   · have e:thrM r us = us:=List.filter_eq_self.2 fun u hu=>by have:=ha u hu; simp; omega
     have e0:((us.length:Int) != (us.length:Int)) = false:=by simp
     rw [e,e0,cond_false]
     unfold d_impl_Holds_J1
     rw [i_items h us hl (by omega),ob_some,i_anyItem _ (fun x=>!fitB x t) ?_ (by omega) (by omega),ob_some]
     · rw [i_within h t us hl,ob_some,itsM_map ha,List.any_map]
       have e1:us.all (uOk r t) = !(us.any ((fun x=>!fitB x t) ∘ itmZ r)):=by
        rw [List.not_any_eq_all_not]
        apply all_cong
        intro u hu
        simp only [uOk,itm_isSome.2 (ha u hu),Bool.true_and,Function.comp,Bool.not_not]
       rw [e1]
       cases us.any ((fun x=>!fitB x t) ∘ itmZ r) <;> simp
     · intro x _
       unfold d_impl_Holds_1
       rw [i_fit,ob_some]
   · have hlt:(thrM r us).length < us.length:=by
       apply Decidable.byContradiction
       intro hn
       apply ha
       have e:(us.filter fun u=>inb u 0 (((untM r).length:Int) - 1)).length = us.length:=by
        have:=List.length_filter_le (fun u=>inb u 0 (((untM r).length:Int) - 1)) us
        have e':thrM r us = us.filter fun u=>inb u 0 (((untM r).length:Int) - 1):=rfl
        rw [e'] at hn
        omega
       intro u hu
       have:=List.length_filter_eq_length_iff.1 e u hu
       simp at this
       omega
     have e0:(((thrM r us).length:Int) != (us.length:Int)) = true:=by simp; omega
     rw [e0,cond_true]
     have e1:us.all (uOk r t) = false:=by
      apply Bool.eq_false_iff.2
      intro he
      apply ha
      intro u hu
      have:=List.all_eq_true.1 he u hu
      simp only [uOk,Bool.and_eq_true] at this
      exact itm_isSome.1 this.1
     rw [e1,Bool.false_and]
theorem s_holds {fu:Nat} {r:Request} (h:Sm fu r) (us:List Int) (t:Typ) (hl:us.length ≤ 1048576):d_spec_Holds fu r us t = some (hldB r us t):=by
 have hfu:=h.fu
 unfold d_spec_Holds hldB
 rw [s_cls h,ob_some]
 cases hc:clsM r == 0
 · have:(clsM r != 0) = true:=by simp only [bne,hc]; rfl
   rw [this]; rfl
 · have:(clsM r != 0) = false:=by simp only [bne,hc]; rfl
   have hz:clsM r = 0:=by simpa using hc
   have hu:d_spec_l6Units fu r = some (untM r):=s_l6c h hz
   rw [this,cond_false,hu,ob_some,Bool.true_and]
   have key:=lp us (fun n (_:Unit) i=>d_spec_Holds_L1 fu r us t (untM r) n i) (fun l _=>some (l.all (uOk r t) && witB r us t)) (by omega) ?_ ?_ fu () (by omega)
   · exact key
   · intro n _ i x xs hx hd ih
     simp only [d_spec_Holds_L1.eq_2]
     unfold d_spec_Holds_L1_B d_spec_Holds_J3 d_spec_Holds_J2
     simp only [hd,cond_true,hx,ob_some,s_item,ih (),List.all_cons,uOk]
     cases (itmM r x).isSome
     · rfl
     · simp only [Bool.not_true,cond_false,s_fit (show 2097153 ≤ fu by omega),ob_some]
       cases fitB (itmZ r x) t <;> rfl
   · intro n _ i hd
     simp only [d_spec_Holds_L1.eq_2]
     unfold d_spec_Holds_L1_B d_spec_Holds_J1
     simp only [hd,cond_false,s_l7Of r us hl (show us.length < fu by omega),ob_some,s_vol]
     show (bif decide (volM r us ≤ volT t) then _ else _) = _
     unfold witB
     cases decide (volM r us ≤ volT t) <;> simp
def chp (r:Request) (us:List Int) (s:Typ × Bool) (t:Typ):Typ × Bool :=
 bif hldB r us t && (!s.2 || (decide (t.fCost < s.1.fCost) || (t.fCost == s.1.fCost && decide (t.fId < s.1.fId)))) then (t,true) else s
def chpM (r:Request) (us:List Int):Typ × Bool:=r.fTypes.foldl (chp r us) (zTyp,false)
theorem i_cheap {fu:Nat} {r:Request} (h:Sm fu r) (us:List Int) (hl:us.length ≤ 1048576):d_impl_Cheapest fu r us = some (chpM r us):=by
 have hfu:=h.fu
 have ht:=h.types
 unfold d_impl_Cheapest
 have key:=lp r.fTypes (fun n (s:Typ × Bool) i=>d_impl_Cheapest_L1 fu r us n s.1 s.2 i) (fun l s=>some (l.foldl (chp r us) s)) (by omega) ?_ ?_ fu (zTyp,false) (by omega)
 · exact key
 · intro n s i x xs hx hd ih
   simp only [d_impl_Cheapest_L1.eq_2]
   unfold d_impl_Cheapest_L1_B d_impl_Cheapest_J1
   have ih':=fun a b=>ih (a,b)
   simp only at ih'
   obtain ⟨b,f⟩:=s
   simp only [hd,cond_true,hx,ob_some,i_holds h us x hl,ih',List.foldl_cons,chp]
   cases hldB r us x <;> cases f <;> cases decide (x.fCost < b.fCost) <;> cases x.fCost == b.fCost <;> cases decide (x.fId < b.fId) <;> rfl
 · intro n s i hd
   simp only [d_impl_Cheapest_L1.eq_2]
   unfold d_impl_Cheapest_L1_B
   simp only [hd,cond_false]
   rfl
theorem s_cheap {fu:Nat} {r:Request} (h:Sm fu r) (us:List Int) (hl:us.length ≤ 1048576):d_spec_Cheapest fu r us = some (chpM r us):=by
 have hfu:=h.fu
 have ht:=h.types
 unfold d_spec_Cheapest
 have key:=lp r.fTypes (fun n (s:Typ × Bool) i=>d_spec_Cheapest_L1 fu r us n s.1 s.2 i) (fun l s=>some (l.foldl (chp r us) s)) (by omega) ?_ ?_ fu (zTyp,false) (by omega)
 · exact key
 · intro n s i x xs hx hd ih
   simp only [d_spec_Cheapest_L1.eq_2]
   unfold d_spec_Cheapest_L1_B d_spec_Cheapest_J1
   have ih':=fun a b=>ih (a,b)
   simp only at ih'
   obtain ⟨b,f⟩:=s
   simp only [hd,cond_true,hx,ob_some,s_holds h us x hl,ih',List.foldl_cons,chp]
   cases hldB r us x <;> cases f <;> cases decide (x.fCost < b.fCost) <;> cases x.fCost == b.fCost <;> cases decide (x.fId < b.fId) <;> rfl
 · intro n s i hd
   simp only [d_spec_Cheapest_L1.eq_2]
   unfold d_spec_Cheapest_L1_B
   simp only [hd,cond_false]
   rfl
theorem s_typById {fu:Nat} {r:Request} (h:Sm fu r) (id:Int):d_spec_TypeById fu r id = some (othM (typM r id)):=by
 have hfu:=h.fu
 have ht:=h.types
 unfold d_spec_TypeById typM
 refine lp r.fTypes (fun n (_:Unit) i=>d_spec_TypeById_L1 fu r id n i) (fun l _=>some (othM (l.find? fun t=>t.fId == id))) (by omega) ?_ ?_ fu () (by omega)
 · intro n s i x xs hx hd ih
   simp only [d_spec_TypeById_L1.eq_2]
   unfold d_spec_TypeById_L1_B
   simp only [hd,cond_true,hx,ob_some,ih (),List.find?_cons]
   cases x.fId == id <;> rfl
 · intro n s i hd
   simp only [d_spec_TypeById_L1.eq_2]
   unfold d_spec_TypeById_L1_B
   simp only [hd,cond_false]
   rfl
def zBox:Box:=⟨0,0,0,0⟩
def grsM (r:Request) (x:Carton):Int:=match typM r x.fType with
 | some t=>bif clsM r == 0 then t.fTare + grmM r x.fUnits else 0
 | none=>0
def boxM (r:Request) (x:Carton):Box:=match typM r x.fType with
 | some t=>bif clsM r == 0 then ⟨t.fW,t.fD,t.fH,t.fTare + grmM r x.fUnits⟩ else zBox
 | none=>zBox
theorem typ_bd {r:Request} (hc:clsM r = 0) {id:Int} {t:Typ} (ht:typM r id = some t):typB t = true ∧ t ∈ r.fTypes ∧ t.fId = id:=by
 have hm:=List.mem_of_find?_eq_some ht
 have hp:=List.find?_some ht
 exact ⟨bou_types (clsM_zero hc).1 t hm,hm,by simpa using hp⟩
theorem tare_bd {r:Request} (hc:clsM r = 0) {id:Int} {t:Typ} (ht:typM r id = some t):0 ≤ t.fTare ∧ t.fTare ≤ 100000:=by
 have:=(typ_bd hc ht).1
 simp only [typB,Bool.and_eq_true,inb_iff] at this
 omega
theorem tare_add {r:Request} (hc:clsM r = 0) {id:Int} {t:Typ} (ht:typM r id = some t) (us:List Int) (hl:us.length ≤ 1048576):w64 (t.fTare + grmM r us) = t.fTare + grmM r us:=by
 have h1:=tare_bd hc ht
 have h2:=grmM_bd r us
 exact w64_id (by omega) (by omega)
theorem i_gross {fu:Nat} {r:Request} (h:Sm fu r) (x:Carton) (hl:x.fUnits.length ≤ 1048576):d_impl_Gross fu r x = some (grsM r x):=by
 have hfu:=h.fu
 unfold d_impl_Gross grsM
 rw [i_typById h,ob_some,othM_2]
 cases ht:typM r x.fType with
 | none=>rfl
 | some t =>
  rw [i_sound h]
  simp only [Option.isSome_some,Bool.not_true,cond_false,ob_some]
  cases hc:clsM r == 0
  · rfl
  · have hc':clsM r = 0:=by simpa using hc
    unfold d_impl_Gross_J1
    rw [i_grm h _ hl (by omega)]
    simp only [Bool.not_true,cond_false,cond_true,ob_some,othM,tare_add hc' ht _ hl]
theorem s_gross {fu:Nat} {r:Request} (h:Sm fu r) (x:Carton) (hl:x.fUnits.length ≤ 1048576):d_spec_Gross fu r x = some (grsM r x):=by
 have hfu:=h.fu
 unfold d_spec_Gross grsM
 rw [s_typById h,ob_some,othM_2,s_cls h,ob_some]
 cases hc:clsM r == 0
 · have:(clsM r != 0) = true:=by simp only [bne,hc]; rfl
   rw [this]
   cases typM r x.fType <;> rfl
 · have hc':clsM r = 0:=by simpa using hc
   rw [show (clsM r != 0) = false by simp [hc'],cond_false]
   cases ht:typM r x.fType with
   | none=>rfl
   | some t =>
    unfold d_spec_Gross_J1
    rw [s_grm h _ hl (by omega)]
    simp only [Option.isSome_some,Bool.not_true,cond_false,cond_true,ob_some,othM,tare_add hc' ht _ hl]
theorem i_boxM {fu:Nat} {r:Request} (h:Sm fu r) (x:Carton) (hl:x.fUnits.length ≤ 1048576):d_impl_BoxOf fu r x = some (boxM r x):=by
 unfold d_impl_BoxOf boxM
 rw [i_typById h,ob_some,othM_2]
 cases ht:typM r x.fType with
 | none=>rfl
 | some t =>
  rw [i_sound h]
  simp only [Option.isSome_some,Bool.not_true,cond_false,ob_some]
  cases hc:clsM r == 0
  · rfl
  · unfold d_impl_BoxOf_J1
    rw [i_gross h x hl]
    simp only [grsM,ht,hc,Bool.not_true,cond_false,cond_true,ob_some,othM]
theorem s_boxM {fu:Nat} {r:Request} (h:Sm fu r) (x:Carton) (hl:x.fUnits.length ≤ 1048576):d_spec_BoxOf fu r x = some (boxM r x):=by
 unfold d_spec_BoxOf boxM
 rw [s_typById h,ob_some,othM_2,s_cls h,ob_some]
 cases hc:clsM r == 0
 · have:(clsM r != 0) = true:=by simp only [bne,hc]; rfl
   rw [this]
   cases typM r x.fType <;> rfl
 · have hc':clsM r = 0:=by simpa using hc
   rw [show (clsM r != 0) = false by simp [hc'],cond_false]
   cases ht:typM r x.fType with
   | none=>rfl
   | some t =>
    unfold d_spec_BoxOf_J1
    rw [s_gross h x hl]
    simp only [grsM,ht,hc,Option.isSome_some,Bool.not_true,cond_false,cond_true,ob_some,othM]
theorem i_place (fu:Nat) (n:Int):d_impl_isPlace fu n = some (inb n 0 2000):=by unfold d_impl_isPlace; rw [i_in]; rfl
def palS (n:Int) (s:Spot):Int:=bif inb s.fPallet 0 999999 then (if s.fPallet + 1 > n then s.fPallet + 1 else n) else n
def palM (l:List Spot):Int:=l.foldl palS 0
theorem palS_bd {n:Int} (s:Spot) (h:0 ≤ n ∧ n ≤ 1000000):0 ≤ palS n s ∧ palS n s ≤ 1000000:=by
 unfold palS
 cases hi:inb s.fPallet 0 999999
 · exact h
 · have:=inb_iff.1 hi
   simp only [cond_true]
   split <;> omega
theorem palF_bd:∀ (l:List Spot) {n:Int},0 ≤ n ∧ n ≤ 1000000 → 0 ≤ l.foldl palS n ∧ l.foldl palS n ≤ 1000000
 | [],_,h=>h
 | s :: l,_,h=>palF_bd l (palS_bd s h)
theorem palM_bd (l:List Spot):0 ≤ palM l ∧ palM l ≤ 1000000:=palF_bd l (by omega)
theorem i_pals {fu:Nat} {l:List Spot} (hl:l.length ≤ 1048576) (hf:l.length < fu):d_impl_Pallets fu l = some (palM l):=by
 unfold d_impl_Pallets
 have key:=lp l (fun n (s:Int) i=>d_impl_Pallets_L1 fu l n s i) (fun l s=>some (l.foldl palS s)) (by omega) ?_ ?_ fu 0 hf
 · exact key
 · intro n s i x xs hx hd ih
   simp only [d_impl_Pallets_L1.eq_2]
   unfold d_impl_Pallets_L1_B d_impl_Pallets_J1
   simp only [hd,cond_true,hx,ob_some,i_in,ih,List.foldl_cons]
   unfold palS
   cases hi:inb x.fPallet 0 999999
   · rfl
   · have:=inb_iff.1 hi
     simp only [cond_true]
     rw [w64_id (by omega) (by omega)]
 · intro n s i hd
   simp only [d_impl_Pallets_L1.eq_2]
   unfold d_impl_Pallets_L1_B
   simp only [hd,cond_false]
   rfl
theorem s_max (fu:Nat) (a b:Int):d_spec_l1Max fu a b = some (if a > b then a else b):=by
 unfold d_spec_l1Max
 by_cases h:a > b
 · simp [h]
 · simp [h]
theorem s_pals {fu:Nat} {l:List Spot} (hl:l.length ≤ 1048576) (hf:l.length < fu):d_spec_Pallets fu l = some (palM l):=by
 unfold d_spec_Pallets
 have key:=lp l (fun n (s:Int) i=>d_spec_Pallets_L1 fu l n s i) (fun l s=>some (l.foldl palS s)) (by omega) ?_ ?_ fu 0 hf
 · exact key
 · intro n s i x xs hx hd ih
   simp only [d_spec_Pallets_L1.eq_2]
   unfold d_spec_Pallets_L1_B d_spec_Pallets_J1
   simp only [hd,cond_true,hx,ob_some,s_in,s_max,ih,List.foldl_cons]
   unfold palS
   cases hi:inb x.fPallet 0 999999
   · rfl
   · have:=inb_iff.1 hi
     simp only [cond_true]
     rw [w64_id (by omega) (by omega)]
     congr 2
     split <;> split <;> omega
 · intro n s i hd
   simp only [d_spec_Pallets_L1.eq_2]
   unfold d_spec_Pallets_L1_B
   simp only [hd,cond_false]
   rfl
def putF (g:List Int → Bool) (out:List (List Int)) (u:Int):List (List Int):=match fstI g out with
 | some i=>match out[i]? with
  | some x=>out.set i (x ++ [u])
  | none=>out
 | none=>out ++ [[u]]
def romB (r:Request) (u:Int) (l:List Int):Bool:=witB r (l ++ [u]) (masM r)
def fitF (r:Request) (out:List (List Int)) (u:Int):List (List Int):=putF (romB r u) out u
def nxtF (r:Request) (out:List (List Int)) (u:Int):List (List Int):=match out.getLast? with
 | some l=>bif romB r u l then out.set (out.length - 1) (l ++ [u]) else out ++ [[u]]
 | none=>[[u]]
theorem nxtF_some {r:Request} {out:List (List Int)} {l:List Int} (u:Int) (h:out.getLast? = some l):nxtF r out u = bif romB r u l then out.set (out.length - 1) (l ++ [u]) else out ++ [[u]]:=by unfold nxtF; rw [h]
def ordM (r:Request) (us:List Int):List Int:=(srt (dnk (us.map fun u=>volM r [u])) us.length).map fun p=>(ix us p).getD 0
def nfM (r:Request) (us:List Int):List (List Int):=(thrM r us).foldl (nxtF r) []
def ffM (r:Request) (us:List Int):List (List Int):=(ordM r (thrM r us)).foldl (fitF r) []
def pwM (r:Request) (us:List Int):List (List Int):=bif r.fWay == 1 then nfM r us else ffM r us
theorem putF_ok {g:List Int → Bool} {out:List (List Int)} {n:Nat} (u:Int) (h:okG n out):okG (n + 1) (putF g out u):=by
 obtain ⟨h1,h2⟩:=h
 unfold putF
 split
 · rename_i i hi
   split
   · rename_i x hx
     refine ⟨by simp; omega,fun l hl=>?_⟩
     rcases List.mem_or_eq_of_mem_set hl with hl | rfl
     · have:=h2 l hl; omega
     · have:=h2 x (List.mem_of_getElem? hx); simp; omega
   · exact ⟨by omega,fun l hl=>by have:=h2 l hl; omega⟩
 · refine ⟨by simp; omega,fun l hl=>?_⟩
   rcases List.mem_append.1 hl with hl | hl
   · have:=h2 l hl; omega
   · rw [List.mem_singleton.1 hl]; simp
theorem nxtF_ok {r:Request} {out:List (List Int)} {n:Nat} (u:Int) (h:okG n out):okG (n + 1) (nxtF r out u):=by
 obtain ⟨h1,h2⟩:=h
 unfold nxtF
 split
 · rename_i x hx
   have hm:=List.mem_of_getLast? hx
   cases romB r u x
   · refine ⟨by simp; omega,fun l hl=>?_⟩
     rcases List.mem_append.1 hl with hl | hl
     · have:=h2 l hl; omega
     · rw [List.mem_singleton.1 hl]; simp
   · refine ⟨by simp; omega,fun l hl=>?_⟩
     rcases List.mem_or_eq_of_mem_set hl with hl | rfl
     · have:=h2 l hl; omega
     · have:=h2 x hm; simp; omega
 · exact ⟨by simp,fun l hl=>by rw [List.mem_singleton.1 hl]; simp⟩
theorem fold_ok {F:List (List Int) → Int → List (List Int)} (hF:∀ out n u,okG n out → okG (n + 1) (F out u)):∀ (l:List Int) {out:List (List Int)} {n:Nat},okG n out → okG (n + l.length) (l.foldl F out)
 | [],_,_,h=>h
 | u :: l,out,n,h=>by
  have:=fold_ok hF l (hF out n u h)
  rw [List.foldl_cons,List.length_cons,show n + (l.length + 1) = n + 1 + l.length by omega]
  exact this
theorem thr_le {r:Request} {us:List Int} (h:us.length ≤ 12):(thrM r us).length ≤ 12:=Nat.le_trans (thrM_len r us) h
theorem ordM_len (r:Request) (us:List Int):(ordM r us).length = us.length:=by simp [ordM,srt_len]
theorem pwM_ok {r:Request} {us:List Int} (h:us.length ≤ 12):okG 12 (pwM r us):=by
 have ht:=thr_le (r:=r) h
 have h0:okG 0 ([]:List (List Int)):=⟨by simp,by simp⟩
 unfold pwM
 cases r.fWay == 1
 · have:=fold_ok (F:=fitF r) (fun out n u ho=>putF_ok u ho) (ordM r (thrM r us)) h0
   rw [ordM_len] at this
   exact ⟨by have:=this.1; simp only [cond_false]; unfold ffM; omega,fun l hl=>by have:=this.2 l hl; omega⟩
 · have:=fold_ok (F:=nxtF r) (fun out n u ho=>nxtF_ok u ho) (thrM r us) h0
   exact ⟨by have:=this.1; simp only [cond_true]; unfold nfM; omega,fun l hl=>by have:=this.2 l hl; omega⟩
theorem put_atF {g:List Int → Bool} {out:List (List Int)} {c:Int} {n:Nat} (h:okG n out) (hn:n ≤ 1048576) {β:Type} (k:List (List Int) → Option β) (a:Int) (ha:a = match fstI g out with | some i=>(i:Int) | none=>-1) :
    (bif (decide (a < 0)) then obind (apnd 24 out [([c]:List Int)]) fun x=>k x else obind (ix out a) fun x=>obind (apnd 8 x (([c]:List Int))) fun y=>obind (ix out a) fun z=>k (setx out a y)) = k (putF g out c):=by
 obtain ⟨h1,h2⟩:=h
 unfold putF
 cases hf:fstI g out with
 | none =>
  rw [hf] at ha
  simp only at ha
  subst ha
  rw [bif_true (by simp),ap1 (by simp; omega),ob_some]
 | some i =>
  rw [hf] at ha
  simp only at ha
  subst ha
  obtain ⟨x,hx,_⟩:=fstI_lt hf
  have:=h2 x (List.mem_of_getElem? hx)
  rw [bif_false (by simp),ix_nat,hx,ob_some,ap1 (by simp; omega),ob_some,ob_some]
  simp [setx,hx]
theorem thr_cls {r:Request} (h:(clsM r == 0) = false) (us:List Int):thrM r us = []:=by
 unfold thrM untM
 rw [h]
 apply List.filter_eq_nil_iff.2
 intro u _
 simp; omega
theorem s_l6u {fu:Nat} {r:Request} (h:Sm fu r) (hc:clsM r = 0):d_spec_l6Units fu r = some (untM r):=s_l6c h hc
theorem last_at {α:Type} {out:List α} (h:out ≠ []):∃ l,out.getLast? = some l ∧ ix out ((out.length:Int) - 1) = some l:=by
 cases hl:out.getLast? with
 | none=>exact absurd (List.getLast?_eq_none_iff.1 hl) h
 | some l =>
  have hp:=List.length_pos_iff.2 h
  refine ⟨l,rfl,?_⟩
  rw [show (out.length:Int) - 1 = ((out.length - 1:Nat):Int) by omega,ix_nat,← List.getLast?_eq_getElem?,hl]
theorem i_next {fu:Nat} {r:Request} (h:Sm fu r) (us:List Int) (hl:us.length ≤ 1048575):d_impl_NextFit fu r us = some (nfM r us):=by
 have hfu:=h.fu
 have htl:=thrM_len r us
 unfold d_impl_NextFit nfM
 rw [i_there h us (by omega),ob_some]
 cases hc:clsM r == 0
 · rw [thr_cls hc]
   obtain ⟨m,rfl⟩:∃ m,fu = m + 1:=⟨fu - 1,by omega⟩
   rw [d_impl_NextFit_L1.eq_2]; rfl
 · have key:=lpI (thrM r us) (fun n (o:List (List Int)) i=>d_impl_NextFit_L1 fu r (thrM r us) n o i) (fun xs o=>some (xs.foldl (nxtF r) o)) (fun xs o=>∃ m,m + xs.length ≤ 1048575 ∧ okG m o) (by omega) ?_ ?_ fu [] ⟨0,by omega,by simp,by simp⟩ (by omega)
   · exact key
   · intro n o i u xs hx hd hI ih
     obtain ⟨m,hm,ho⟩:=hI
     simp only [List.length_cons] at hm
     have h1:=ho.1
     have h2:=ho.2
     have hI':=ih (nxtF r o u) ⟨m + 1,by omega,nxtF_ok u ho⟩
     simp only [d_impl_NextFit_L1.eq_2]
     unfold d_impl_NextFit_L1_B d_impl_NextFit_J1
     rw [hd,cond_true,hx,ob_some,List.foldl_cons,← hI',w64_id (by omega) (by omega)]
     by_cases he:o = []
     · subst he
       rw [decide_eq_false (by simp),cond_false,ap1 (by simp),ob_some]; rfl
     · obtain ⟨l,e1,e2⟩:=last_at he
       have hp:=List.length_pos_iff.2 he
       have hll:=h2 l (List.mem_of_getLast? e1)
       rw [decide_eq_true (by omega),cond_true,e2,ob_some,i_room1 h l u (by omega),ob_some,hc,Bool.true_and]
       rw [nxtF_some u e1]
       unfold romB
       cases witB r (l ++ [u]) (masM r)
       · rw [cond_false,cond_false,ap1 (by simp; omega),ob_some]
       · rw [cond_true,cond_true,ob_some,ap1 (by simp; omega),ob_some,ob_some]
         rw [show setx o ((o.length:Int) - 1) (l ++ [u]) = o.set (o.length - 1) (l ++ [u]) by unfold setx; congr 1; omega]
   · intro n o i hd _
     simp only [d_impl_NextFit_L1.eq_2]
     unfold d_impl_NextFit_L1_B
     rw [hd,cond_false]; rfl
theorem s_next {fu:Nat} {r:Request} (h:Sm fu r) (us:List Int) (hl:us.length ≤ 1048575):d_spec_NextFit fu r us = some (nfM r us):=by
 have hfu:=h.fu
 have htl:=thrM_len r us
 unfold d_spec_NextFit nfM
 rw [s_cls h,ob_some]
 cases hc:clsM r == 0
 · rw [show (clsM r != 0) = true by simp only [bne,hc]; rfl,cond_true,thr_cls hc]; rfl
 · have hz:clsM r = 0:=by simpa using hc
   rw [show (clsM r != 0) = false by simp [hz],cond_false,s_l6u h hz,ob_some,s_known h us (by omega),ob_some]
   unfold d_spec_l7Next
   rw [s_mas h,ob_some,s_l6u h hz,ob_some]
   have key:=lpI (thrM r us) (fun n (o:List (List Int)) i=>d_spec_l7Next_L1 fu r (thrM r us) (othM (typM r r.fMaster)) (untM r) n o i) (fun xs o=>some (xs.foldl (nxtF r) o)) (fun xs o=>∃ m,m + xs.length ≤ 1048575 ∧ okG m o) (by omega) ?_ ?_ fu [] ⟨0,by omega,by simp,by simp⟩ (by omega)
   · rw [key]; rfl
   · intro n o i u xs hx hd hI ih
     obtain ⟨m,hm,ho⟩:=hI
     simp only [List.length_cons] at hm
     have h1:=ho.1
     have h2:=ho.2
     have hI':=ih (nxtF r o u) ⟨m + 1,by omega,nxtF_ok u ho⟩
     simp only [d_spec_l7Next_L1.eq_2]
     unfold d_spec_l7Next_L1_B d_spec_l7Next_J1
     rw [hd,cond_true,List.foldl_cons,← hI',w64_id (by omega) (by omega)]
     by_cases he:o = []
     · subst he
       rw [decide_eq_false (by simp),cond_false,hx,ob_some,ap1 (by simp),ob_some]; rfl
     · obtain ⟨l,e1,e2⟩:=last_at he
       have hp:=List.length_pos_iff.2 he
       have hll:=h2 l (List.mem_of_getLast? e1)
       rw [decide_eq_true (by omega),cond_true,e2,ob_some,hx,ob_some,othM_1,s_l7Room r _ l u (by omega) (by omega),ob_some]
       rw [nxtF_some u e1]
       unfold romB
       cases witB r (l ++ [u]) (masM r)
       · rw [cond_false,cond_false,ob_some,ap1 (by simp; omega),ob_some]
       · rw [cond_true,cond_true,ob_some,ob_some,ap1 (by simp; omega),ob_some,ob_some]
         rw [show setx o ((o.length:Int) - 1) (l ++ [u]) = o.set (o.length - 1) (l ++ [u]) by unfold setx; congr 1; omega]
   · intro n o i hd _
     simp only [d_spec_l7Next_L1.eq_2]
     unfold d_spec_l7Next_L1_B
     rw [hd,cond_false]; rfl
theorem ord_ix {us:List Int} {p:Int} (h:0 ≤ p ∧ p < us.length):ix us p = some ((ix us p).getD 0):=by
 have:=ix_i (l:=us) (i:=p.toNat) (by omega)
 rw [show ((p.toNat:Nat):Int) = p by omega] at this
 rw [this]; rfl
theorem foldl_map' {α β γ:Type} (f:γ → β → γ) (g:α → β):∀ (l:List α) (s:γ),(l.map g).foldl f s = l.foldl (fun s x=>f s (g x)) s
 | [],_=>rfl
 | x :: l,s=>by rw [List.map_cons,List.foldl_cons,List.foldl_cons,foldl_map' f g l]
theorem i_first {fu:Nat} {r:Request} (h:Sm fu r) (us:List Int) (hl:us.length < 20):d_impl_FirstFit fu r us = some (ffM r us):=by
 have hfu:=h.fu
 have htl:=thrM_len r us
 unfold d_impl_FirstFit ffM ordM
 rw [i_there h us (by omega),ob_some]
 obtain ⟨t,ht⟩:∃ t,t = thrM r us:=⟨_,rfl⟩
 rw [← ht] at htl ⊢
 have key:=lpI t (fun n (o:List Int) i=>d_impl_FirstFit_L2 fu r t n o i) (fun xs o=>obind (d_impl_SortDown fu (o ++ xs.map fun u=>volM r [u])) fun x=>d_impl_FirstFit_L1 fu r t x fu [] 0) (fun xs o=>o.length + xs.length ≤ 20) (by omega) ?_ ?_ fu [] (by simp; omega) (by omega)
 · rw [key,List.nil_append,i_down hfu (by simp; omega),ob_some,foldl_map',List.length_map]
   have hsl:=srt_len (dnk (t.map fun u=>volM r [u])) t.length
   have hsm:=fun x=>srt_mem (k:=dnk (t.map fun u=>volM r [u])) (n:=t.length) (x:=x)
   generalize srt (dnk (t.map fun u=>volM r [u])) t.length = S at hsl hsm ⊢
   cases hc:clsM r == 0
   · have:t = []:=by rw [ht]; exact thr_cls hc us
     subst this
     have:S = []:=List.length_eq_zero_iff.1 (by simpa using hsl)
     subst this
     obtain ⟨m,rfl⟩:∃ m,fu = m + 1:=⟨fu - 1,by omega⟩
     rw [d_impl_FirstFit_L1.eq_2]; rfl
   · have key1:=lpI S (fun n (o:List (List Int)) i=>d_impl_FirstFit_L1 fu r t S n o i) (fun xs o=>some (xs.foldl (fun s p=>fitF r s ((ix t p).getD 0)) o)) (fun xs o=>(∃ m,m + xs.length ≤ 20 ∧ okG m o) ∧ ∀ p ∈ xs,0 ≤ p ∧ p < t.length) (by omega) ?_ ?_ fu [] ⟨⟨0,by omega,by simp,by simp⟩,fun p hp=>(hsm p).1 hp⟩ (by omega)
     · exact key1
     · intro n o i p xs hx hd hI ih
       obtain ⟨⟨m,hm,ho⟩,hin⟩:=hI
       simp only [List.length_cons] at hm
       have hp:=ord_ix (hin p (by simp))
       simp only [d_impl_FirstFit_L1.eq_2]
       unfold d_impl_FirstFit_L1_B d_impl_FirstFit_J1
       rw [hd,cond_true,hx,ob_some,hp,ob_some,List.foldl_cons]
       generalize (ix t p).getD 0 = u
       rw [i_idxInts (fun y=>d_impl_FirstFit_1 fu y r u) (romB r u) (fun l hl=>by
        have:=ho.2 l hl
        unfold d_impl_FirstFit_1 romB
        rw [i_room1 h l u (by omega),ob_some,hc,Bool.true_and]) (by have:=ho.1; omega) (by have:=ho.1; omega),ob_some]
       refine (put_atF (g:=romB r u) (c:=u) ho (by omega) (fun x=>d_impl_FirstFit_L1 fu r t S n x (w64 (i + 1))) (fndI (romB r u) o 0) (by
        rw [fndI_fst]
        cases fstI (romB r u) o <;> simp)).trans ?_
       exact ih _ ⟨⟨m + 1,by omega,putF_ok u ho⟩,fun q hq=>hin q (by simp [hq])⟩
     · intro n o i hd _
       simp only [d_impl_FirstFit_L1.eq_2]
       unfold d_impl_FirstFit_L1_B
       rw [hd,cond_false]; rfl
 · intro n o i u xs hx hd hI ih
   simp only [List.length_cons] at hI
   simp only [d_impl_FirstFit_L2.eq_2]
   unfold d_impl_FirstFit_L2_B
   rw [hd,cond_true,hx,ob_some,i_volOf h [u] (by simp) (by simp; omega),ob_some,ap1 (by simp; omega),ob_some,ih _ (by simp; omega)]
   simp
 · intro n o i hd _
   simp only [d_impl_FirstFit_L2.eq_2]
   unfold d_impl_FirstFit_L2_B
   rw [hd,cond_false]; simp
theorem s_first {fu:Nat} {r:Request} (h:Sm fu r) (us:List Int) (hl:us.length < 20):d_spec_FirstFit fu r us = some (ffM r us):=by
 have hfu:=h.fu
 have htl:=thrM_len r us
 unfold d_spec_FirstFit ffM ordM
 rw [s_cls h,ob_some]
 cases hc:clsM r == 0
 · rw [show (clsM r != 0) = true by simp only [bne,hc]; rfl,cond_true,thr_cls hc]; rfl
 · have hz:clsM r = 0:=by simpa using hc
   rw [show (clsM r != 0) = false by simp [hz],cond_false,s_l6u h hz,ob_some,s_known h us (by omega),ob_some]
   unfold d_spec_l7First
   rw [s_mas h,ob_some,s_l6u h hz,ob_some]
   generalize thrM r us = t at htl ⊢
   have key:=lpI t (fun n (o:List Int) i=>d_spec_l7First_L3 fu r t (othM (typM r r.fMaster)) (untM r) n o i) (fun xs o=>obind (d_spec_SortDown fu (o ++ xs.map fun u=>volM r [u])) fun x=>d_spec_l7First_L2 fu r t (othM (typM r r.fMaster)) (untM r) x fu [] 0) (fun xs o=>o.length + xs.length ≤ 20) (by omega) ?_ ?_ fu [] (by simp; omega) (by omega)
   · rw [key,List.nil_append,s_down hfu (by simp; omega),ob_some,foldl_map',List.length_map]
     have hsl:=srt_len (dnk (t.map fun u=>volM r [u])) t.length
     have hsm:=fun x=>srt_mem (k:=dnk (t.map fun u=>volM r [u])) (n:=t.length) (x:=x)
     generalize srt (dnk (t.map fun u=>volM r [u])) t.length = S at hsl hsm ⊢
     have key1:=lpI S (fun n (o:List (List Int)) i=>d_spec_l7First_L2 fu r t (othM (typM r r.fMaster)) (untM r) S n o i) (fun xs o=>some (xs.foldl (fun s p=>fitF r s ((ix t p).getD 0)) o)) (fun xs o=>(∃ m,m + xs.length ≤ 20 ∧ okG m o) ∧ ∀ p ∈ xs,0 ≤ p ∧ p < t.length) (by omega) ?_ ?_ fu [] ⟨⟨0,by omega,by simp,by simp⟩,fun p hp=>(hsm p).1 hp⟩ (by omega)
     · rw [key1]; rfl
     · intro n o i p xs hx hd hI ih
       obtain ⟨⟨m,hm,ho⟩,hin⟩:=hI
       simp only [List.length_cons] at hm
       have hp:=ord_ix (hin p (by simp))
       have ho1:=ho.1
       simp only [d_spec_l7First_L2.eq_2]
       unfold d_spec_l7First_L2_B
       rw [hd,cond_true,hx,ob_some,hp,ob_some,List.foldl_cons]
       generalize (ix t p).getD 0 = u
       obtain ⟨K,hK⟩:∃ K,K = d_spec_l7First_L2 fu r t (othM (typM r r.fMaster)) (untM r) S n:=⟨_,rfl⟩
       rw [← hK] at ih ⊢
       obtain ⟨R,hR⟩:∃ R:Int → Option (List (List Int)),R = fun a=>bif (decide (a < 0)) then obind (apnd 24 o [([u]:List Int)]) fun x=>K x (w64 (i + 1)) else obind (ix o a) fun x=>obind (apnd 8 x (([u]:List Int))) fun y=>obind (ix o a) fun z=>K (setx o a y) (w64 (i + 1)):=⟨_,rfl⟩
       have hD:=lpD o.length (fun n a j=>d_spec_l7First_L1 fu K r (othM (typM r r.fMaster)) (untM r) o i u n a j) (fun xs a=>R (xs.foldl (lasI (romB r u) o) a)) (by omega) ?_ ?_ fu (-1) (by omega)
       · rw [hD,hR]
         refine (put_atF (g:=romB r u) (c:=u) ho (by omega) (fun x=>K x (w64 (i + 1))) _ ?_).trans (ih _ ⟨⟨m + 1,by omega,putF_ok u ho⟩,fun q hq=>hin q (by simp [hq])⟩)
         rw [fold_down (romB r u) o o.length (-1) (Nat.le_refl _),List.take_length]
         cases fstI (romB r u) o <;> rfl
       · intro n a j xs h0 h1 hd ih
         simp only [d_spec_l7First_L1.eq_2]
         unfold d_spec_l7First_L1_B d_spec_l7First_J2
         obtain ⟨j,rfl⟩:∃ q:Nat,j = q:=⟨j.toNat,by omega⟩
         have hj:j < o.length:=by omega
         have hg:=ho.2 _ (List.getElem_mem hj)
         rw [hd,cond_true,ix_i hj,ob_some,othM_1,s_l7Room r _ _ u (by omega) (by omega),ob_some]
         have e:lasI (romB r u) o a (j:Int) = bif witB r (o[j] ++ [u]) (masM r) then (j:Int) else a:=by unfold lasI atB romB; rw [ix_i hj]
         simp only [ih,List.foldl_cons,e]
         cases witB r (o[j] ++ [u]) (masM r) <;> rfl
       · intro n a j hd
         simp only [d_spec_l7First_L1.eq_2]
         unfold d_spec_l7First_L1_B d_spec_l7First_J1
         rw [hd,cond_false,hR]; rfl
     · intro n o i hd _
       simp only [d_spec_l7First_L2.eq_2]
       unfold d_spec_l7First_L2_B
       rw [hd,cond_false]; rfl
   · intro n o i u xs hx hd hI ih
     simp only [List.length_cons] at hI
     obtain ⟨i0,i1,i2⟩:=ix_some hx
     have e:sls t i (w64 (i + 1)) = some [u]:=by
      rw [w64_id (by omega) (by omega),sls_some (by omega)]
      congr 1
      rw [show (i + 1).toNat - i.toNat = 1 by omega]
      have hlt:=(List.getElem?_eq_some_iff.1 i2).1
      have heq:=(List.getElem?_eq_some_iff.1 i2).2
      rw [List.drop_eq_getElem_cons hlt,heq]; rfl
     simp only [d_spec_l7First_L3.eq_2]
     unfold d_spec_l7First_L3_B
     rw [hd,cond_true,e,ob_some,s_l7Of r [u] (by simp) (by simp; omega),ob_some,ap1 (by simp; omega),ob_some,ih _ (by simp; omega)]
     simp
   · intro n o i hd _
     simp only [d_spec_l7First_L3.eq_2]
     unfold d_spec_l7First_L3_B
     rw [hd,cond_false]; simp
theorem i_way {fu:Nat} {r:Request} (h:Sm fu r) (us:List Int) (hl:us.length < 20):d_impl_PackWay fu r us = some (pwM r us):=by
 unfold d_impl_PackWay pwM
 rw [i_next h us (by omega),i_first h us hl]
 cases r.fWay == 1 <;> rfl
theorem s_way {fu:Nat} {r:Request} (h:Sm fu r) (us:List Int) (hl:us.length < 20):d_spec_PackWay fu r us = some (pwM r us):=by
 unfold d_spec_PackWay pwM
 rw [s_next h us (by omega),s_first h us hl]
 cases r.fWay == 1 <;> rfl
theorem ix_in {α:Type} {l:List α} {i:Int} (h0:0 ≤ i) (h1:i < l.length):∃ x,ix l i = some x:=by
 obtain ⟨j,rfl⟩:∃ j:Nat,i = j:=⟨i.toNat,by omega⟩
 exact ⟨_,ix_i (by omega)⟩
def bokB (p:Pallet) (b:Box):Bool:=inb b.fW 1 p.fW && (inb b.fD 1 p.fD && (inb b.fH 1 p.fH && inb b.fGram 1 p.fGram))
def bosB (p:Pallet) (l:List Box):Bool:=palB p && l.all (bokB p)
theorem s_bos {fu:Nat} (p:Pallet) (l:List Box) (hl:l.length ≤ 1048576) (hf:l.length < fu):d_spec_BoxesOk fu p l = some (bosB p l):=by
 unfold d_spec_BoxesOk bosB
 rw [s_pal,ob_some]
 cases palB p
 · rfl
 · rw [Bool.not_true,cond_false,Bool.true_and]
   have:=lpAll l (fun n i=>d_spec_BoxesOk_L1 fu p l n i) (bokB p) (some true) (by omega) ?_ ?_ fu hf
   · rw [this]
     cases l.all (bokB p) <;> rfl
   · intro n i x hx hd
     simp only [d_spec_BoxesOk_L1.eq_2]
     unfold d_spec_BoxesOk_L1_B d_spec_BoxesOk_J1 bokB
     simp only [hd,cond_true,hx,ob_some,s_in]
     cases inb x.fW 1 p.fW <;> cases inb x.fD 1 p.fD <;> cases inb x.fH 1 p.fH <;> cases inb x.fGram 1 p.fGram <;> rfl
   · intro n i hd
     simp only [d_spec_BoxesOk_L1.eq_2]
     unfold d_spec_BoxesOk_L1_B
     rw [hd,cond_false]
def nxG {σ:Type} (fits:σ → Bool) (add:σ → σ) (z:σ) (out:List σ):List σ:=match out.getLast? with
 | some s=>bif fits s then out.set (out.length - 1) (add s) else out ++ [add z]
 | none=>[add z]
theorem nxG_some {σ:Type} {fits:σ → Bool} {add:σ → σ} {z:σ} {out:List σ} {s:σ} (h:out.getLast? = some s):nxG fits add z out = bif fits s then out.set (out.length - 1) (add s) else out ++ [add z]:=by unfold nxG; rw [h]
theorem nxG_len {σ:Type} (fits:σ → Bool) (add:σ → σ) (z:σ) (out:List σ):(nxG fits add z out).length ≤ out.length + 1:=by
 unfold nxG
 split
 · cases fits _ <;> simp
 · simp
theorem nxG_all {σ:Type} {fits:σ → Bool} {add:σ → σ} {z:σ} {out:List σ} {I:σ → Prop} (h:∀ s ∈ out,I s) (ha:∀ s,I s → fits s = true → I (add s)) (hz:I (add z)):∀ s ∈ nxG fits add z out,I s:=by
 intro s hs
 unfold nxG at hs
 split at hs
 · rename_i x hx
   have hm:=List.mem_of_getLast? hx
   cases hf:fits x
   · rw [hf,cond_false] at hs
     rcases List.mem_append.1 hs with hs | hs
     · exact h s hs
     · rw [List.mem_singleton.1 hs]; exact hz
   · rw [hf,cond_true] at hs
     rcases List.mem_or_eq_of_mem_set hs with hs | rfl
     · exact h s hs
     · exact ha x (h x hm) hf
 · rw [List.mem_singleton.1 hs]; exact hz
theorem nxG_flat {σ:Type} {fits:σ → Bool} {add:σ → σ} {z:σ} {out:List σ} {f:σ → List Int} {i:Int} (ha:∀ s,f (add s) = f s ++ [i]) (hz:f z = []):((nxG fits add z out).map f).flatten = (out.map f).flatten ++ [i]:=by
 unfold nxG
 split
 · rename_i x hx
   cases fits x
   · rw [cond_false,List.map_append,List.flatten_append]
     simp [ha,hz]
   · rw [cond_true]
     have hne:out ≠ []:=by intro e; rw [e] at hx; simp at hx
     have e:out = out.dropLast ++ [x]:=by
      have h1:=List.dropLast_concat_getLast hne
      rw [List.getLast?_eq_some_getLast hne] at hx
      rw [Option.some.inj hx] at h1
      exact h1.symm
     obtain ⟨d,hd⟩:∃ d,out = d ++ [x]:=⟨_,e⟩
     rw [hd]
     simp [ha]
 · rename_i hx
   have:out = []:=List.getLast?_eq_none_iff.1 hx
   subst this
   simp [ha,hz]
def mxI (a b:Int):Int:=if a > b then a else b
theorem mxI_ge (a b:Int):a ≤ mxI a b ∧ b ≤ mxI a b ∧ (mxI a b = a ∨ mxI a b = b):=by unfold mxI; split <;> omega
def zBx:Box:=⟨0,0,0,0⟩
def bxA (l:List Box) (i:Int):Box:=(ix l i).getD zBx
def zSh:Shelf:=⟨[],0,0,0,0⟩
def shAdd (s:Shelf) (i:Int) (b:Box):Shelf:=⟨s.fList ++ [i],s.fW + b.fW,mxI s.fD b.fD,mxI s.fH b.fH,s.fGram + b.fGram⟩
def shFit (p:Pallet) (b:Box) (s:Shelf):Bool:=decide (s.fW + b.fW ≤ p.fW) && decide (s.fGram + b.fGram ≤ p.fGram)
def shS (p:Pallet) (l:List Box) (out:List Shelf) (i:Int):List Shelf:=nxG (shFit p (bxA l i)) (fun s=>shAdd s i (bxA l i)) zSh out
def shM (p:Pallet) (l:List Box):List Shelf:=bif bosB p l then (srt (dnk (l.map (·.fD))) l.length).foldl (shS p l) [] else []
structure ShI (p:Pallet) (n:Nat) (s:Shelf):Prop where
 ne:s.fList ≠ []
 inn:∀ i ∈ s.fList,0 ≤ i ∧ i < n
 w:1 ≤ s.fW ∧ s.fW ≤ p.fW
 d:1 ≤ s.fD ∧ s.fD ≤ p.fD
 h:1 ≤ s.fH ∧ s.fH ≤ p.fH
 g:1 ≤ s.fGram ∧ s.fGram ≤ p.fGram
theorem bok_at {p:Pallet} {l:List Box} (h:bosB p l = true) {i:Int} (hi:0 ≤ i ∧ i < l.length):ix l i = some (bxA l i) ∧ (1 ≤ (bxA l i).fW ∧ (bxA l i).fW ≤ p.fW) ∧ (1 ≤ (bxA l i).fD ∧ (bxA l i).fD ≤ p.fD) ∧ (1 ≤ (bxA l i).fH ∧ (bxA l i).fH ≤ p.fH) ∧ (1 ≤ (bxA l i).fGram ∧ (bxA l i).fGram ≤ p.fGram):=by
 obtain ⟨x,hx⟩:=ix_in (l:=l) hi.1 hi.2
 have e:bxA l i = x:=by unfold bxA; rw [hx]; rfl
 unfold bosB at h
 simp only [Bool.and_eq_true] at h
 have:=List.all_eq_true.1 h.2 x (ix_mem hx)
 simp only [bokB,Bool.and_eq_true,inb_iff] at this
 rw [e]
 exact ⟨hx,this.1,this.2.1,this.2.2.1,this.2.2.2⟩
theorem pal_bd {p:Pallet} (h:palB p = true):(1 ≤ p.fW ∧ p.fW ≤ 2000) ∧ (1 ≤ p.fD ∧ p.fD ≤ 2000) ∧ (1 ≤ p.fH ∧ p.fH ≤ 2000) ∧ (1 ≤ p.fGram ∧ p.fGram ≤ 100000):=by
 simp only [palB,Bool.and_eq_true,inb_iff] at h
 exact ⟨h.1,h.2.1,h.2.2.1,h.2.2.2⟩
theorem bos_pal {p:Pallet} {l:List Box} (h:bosB p l = true):palB p = true:=by
 unfold bosB at h
 simp only [Bool.and_eq_true] at h
 exact h.1
theorem shS_all {p:Pallet} {l:List Box} (hb:bosB p l = true) {out:List Shelf} {i:Int} (hi:0 ≤ i ∧ i < l.length) (h:∀ s ∈ out,ShI p l.length s):∀ s ∈ shS p l out i,ShI p l.length s:=by
 obtain ⟨_,b1,b2,b3,b4⟩:=bok_at hb hi
 refine nxG_all h (fun s hs hf=>?_) ⟨by simp [shAdd],fun j hj=>?_,?_,?_,?_,?_⟩
 · unfold shFit at hf
   simp only [Bool.and_eq_true,decide_eq_true_eq] at hf
   obtain ⟨s1,s2,s3,s4,s5,s6⟩:=hs
   have m1:=mxI_ge s.fD (bxA l i).fD
   have m2:=mxI_ge s.fH (bxA l i).fH
   refine ⟨by simp [shAdd],fun j hj=>?_,?_,?_,?_,?_⟩
   · simp only [shAdd,List.mem_append,List.mem_singleton] at hj
     rcases hj with hj | rfl
     · exact s2 j hj
     · exact hi
   · simp only [shAdd]; omega
   · simp only [shAdd]; omega
   · simp only [shAdd]; omega
   · simp only [shAdd]; omega
 · simp only [shAdd,zSh,List.nil_append,List.mem_singleton] at hj
   rw [hj]; exact hi
 · simp only [shAdd,zSh]; omega
 · have:=mxI_ge 0 (bxA l i).fD
   simp only [shAdd,zSh]; omega
 · have:=mxI_ge 0 (bxA l i).fH
   simp only [shAdd,zSh]; omega
 · simp only [shAdd,zSh]; omega
theorem shF_all {p:Pallet} {l:List Box} (hb:bosB p l = true):∀ (is:List Int) (out:List Shelf),(∀ i ∈ is,0 ≤ i ∧ i < l.length) → (∀ s ∈ out,ShI p l.length s) → (∀ s ∈ is.foldl (shS p l) out,ShI p l.length s) ∧ ((is.foldl (shS p l) out).map (·.fList)).flatten = (out.map (·.fList)).flatten ++ is ∧ (is.foldl (shS p l) out).length ≤ out.length + is.length
 | [],out,_,h=>⟨h,by simp,by simp⟩
 | i :: is,out,hi,h=>by
  rw [List.foldl_cons]
  obtain ⟨h1,h2,h3⟩:=shF_all hb is (shS p l out i) (fun j hj=>hi j (by simp [hj])) (shS_all hb (hi i (by simp)) h)
  have h4:((shS p l out i).map (·.fList)).flatten = (out.map (·.fList)).flatten ++ [i]:=nxG_flat (fun s=>rfl) rfl
  have h5:(shS p l out i).length ≤ out.length + 1:=nxG_len _ _ _ _
  refine ⟨h1,by rw [h2,h4]; simp,by simp; omega⟩
theorem shM_all {p:Pallet} {l:List Box} (hb:bosB p l = true):(∀ s ∈ shM p l,ShI p l.length s) ∧ ((shM p l).map (·.fList)).flatten = srt (dnk (l.map (·.fD))) l.length ∧ (shM p l).length ≤ l.length:=by
 unfold shM
 rw [hb,cond_true]
 obtain ⟨h1,h2,h3⟩:=shF_all hb (srt (dnk (l.map (·.fD))) l.length) [] (fun i hi=>srt_mem.1 hi) (by simp)
 refine ⟨h1,by simpa using h2,?_⟩
 rw [srt_len] at h3
 simpa using h3
theorem s_l10 {fu:Nat} (s:Shelf) (i:Int) (b:Box) (hl:s.fList.length ≤ 1000000) (h1:-1000000000 ≤ s.fW + b.fW ∧ s.fW + b.fW ≤ 1000000000) (h2:-1000000000 ≤ s.fGram + b.fGram ∧ s.fGram + b.fGram ≤ 1000000000):d_spec_l10Add fu s i b = some (shAdd s i b):=by
 unfold d_spec_l10Add
 rw [ap1 (by simp; omega),ob_some,ap1 (by simp; omega),ob_some,s_max,ob_some,s_max,ob_some,w64_id (by omega) (by omega),w64_id (by omega) (by omega)]
 rfl
theorem flat_le {σ:Type} (f:σ → List Int):∀ (l:List σ) (s:σ),s ∈ l → (f s).length ≤ ((l.map f).flatten).length
 | [],_,h=>by simp at h
 | x :: l,s,h=>by
  simp only [List.map_cons,List.flatten_cons,List.length_append]
  rcases List.mem_cons.1 h with rfl | h
  · omega
  · have:=flat_le f l s h; omega
theorem s_shelves {fu:Nat} (hfu:2097153 ≤ fu) (p:Pallet) (l:List Box) (hl:l.length ≤ 1000):d_spec_Shelves fu p l = some (shM p l):=by
 unfold d_spec_Shelves shM
 rw [s_bos p l (by omega) (by omega),ob_some]
 cases hb:bosB p l
 · rfl
 · rw [Bool.not_true,cond_false,cond_true]
   have key:=lpI l (fun n (o:List Int) i=>d_spec_Shelves_L2 fu p l n o i) (fun xs o=>obind (d_spec_SortDown fu (o ++ xs.map (·.fD))) fun x=>d_spec_Shelves_L1 fu p l x fu [] 0) (fun xs o=>o.length + xs.length ≤ 1000) (by omega) ?_ ?_ fu [] (by simp; omega) (by omega)
   · rw [key,List.nil_append,s_down hfu (by simp; omega),ob_some,List.length_map]
     have hsl:=srt_len (dnk (l.map (·.fD))) l.length
     have hsm:=fun x=>srt_mem (k:=dnk (l.map (·.fD))) (n:=l.length) (x:=x)
     generalize srt (dnk (l.map (·.fD))) l.length = S at hsl hsm ⊢
     have L1:=lpI S (fun n (o:List Shelf) i=>d_spec_Shelves_L1 fu p l S n o i) (fun xs o=>some (xs.foldl (shS p l) o)) (fun xs o=>(∀ i ∈ xs,0 ≤ i ∧ i < l.length) ∧ (∀ s ∈ o,ShI p l.length s) ∧ ((o.map (·.fList)).flatten).length + xs.length ≤ 1000 ∧ o.length + xs.length ≤ 1000) (by omega) ?_ ?_ fu [] ⟨fun i hi=>(hsm i).1 hi,by simp,by simp; omega,by simp; omega⟩ (by omega)
     · exact L1
     · intro n o i x xs hx hd hI ih
       obtain ⟨i1,i2,i3,i4⟩:=hI
       simp only [List.length_cons] at i3 i4
       have hxi:=i1 x (by simp)
       obtain ⟨hbx,b1,b2,b3,b4⟩:=bok_at hb hxi
       obtain ⟨p1,p2,p3,p4⟩:=pal_bd (bos_pal hb)
       have hn:d_spec_l10Add fu zSh x (bxA l x) = some (shAdd zSh x (bxA l x)):=s_l10 zSh x _ (by simp [zSh]) (by simp [zSh]; omega) (by simp [zSh]; omega)
       have hn':d_spec_l10Add fu (⟨[],0,0,0,0⟩:Shelf) x (bxA l x) = some (shAdd zSh x (bxA l x)):=hn
       have hflat:((shS p l o x).map (·.fList)).flatten = (o.map (·.fList)).flatten ++ [x]:=nxG_flat (fun s=>rfl) rfl
       have hlen:(shS p l o x).length ≤ o.length + 1:=nxG_len _ _ _ _
       have ih':=ih (shS p l o x) ⟨fun j hj=>i1 j (by simp [hj]),shS_all hb hxi i2,by rw [hflat,List.length_append,List.length_singleton]; omega,by omega⟩
       simp only [d_spec_Shelves_L1.eq_2]
       unfold d_spec_Shelves_L1_B d_spec_Shelves_J1
       rw [hd,cond_true,hx,ob_some,hbx,ob_some,List.foldl_cons,← ih',hn',ob_some]
       by_cases he:o = []
       · subst he
         rw [bif_false (by simp),ob_some,ap1 (by simp),ob_some]; rfl
       · obtain ⟨s,e1,e2⟩:=last_at he
         have hp:=List.length_pos_iff.2 he
         have hsm':=List.mem_of_getLast? e1
         have hs:=i2 s hsm'
         have hsl':=flat_le (fun s:Shelf=>s.fList) o s hsm'
         rw [w64_id (n:=(o.length:Int) - 1) (by omega) (by omega),e2,ob_some,bif_true (by simp; omega)]
         obtain ⟨s1,s2,s3,s4,s5,s6⟩:=hs
         rw [w64_id (n:=s.fW + _) (by omega) (by omega),w64_id (n:=s.fGram + _) (by omega) (by omega),ob_some,ob_some,ob_some,s_l10 (fu:=fu) s x (bxA l x) (by omega) (by omega) (by omega)]
         simp only [ob_some]
         rw [ap1 (by simp; omega),ob_some]
         have eS:shS p l o x = bif shFit p (bxA l x) s then o.set (o.length - 1) (shAdd s x (bxA l x)) else o ++ [shAdd zSh x (bxA l x)]:=nxG_some e1
         rw [eS]
         unfold shFit
         rw [show setx o ((o.length:Int) - 1) (shAdd s x (bxA l x)) = o.set (o.length - 1) (shAdd s x (bxA l x)) by unfold setx; congr 1; omega]
         cases decide (s.fW + (bxA l x).fW ≤ p.fW) <;> cases decide (s.fGram + (bxA l x).fGram ≤ p.fGram) <;> rfl
     · intro n o i hd _
       simp only [d_spec_Shelves_L1.eq_2]
       unfold d_spec_Shelves_L1_B
       rw [hd,cond_false]; rfl
   · intro n o i x xs hx hd hI ih
     simp only [List.length_cons] at hI
     simp only [d_spec_Shelves_L2.eq_2]
     unfold d_spec_Shelves_L2_B
     rw [hd,cond_true,hx,ob_some,ap1 (by simp; omega),ob_some,ih _ (by simp; omega)]
     simp
   · intro n o i hd _
     simp only [d_spec_Shelves_L2.eq_2]
     unfold d_spec_Shelves_L2_B
     rw [hd,cond_false]; simp
def okL (p:Pallet) (d h g:Int):Bool:=inb d 1 p.fD && (inb h 1 p.fH && inb g 1 p.fGram)
theorem s_l11 (fu:Nat) (p:Pallet) (d h g:Int):d_spec_l11Ok fu p d h g = some (okL p d h g):=by
 unfold d_spec_l11Ok okL
 simp only [s_in,ob_some]
 cases inb d 1 p.fD <;> cases inb h 1 p.fH <;> rfl
theorem s_sho {fu:Nat} (p:Pallet) (l:List Shelf) (hl:l.length ≤ 1048576) (hf:l.length < fu):d_spec_ShelvesOk fu p l = some (palB p && l.all fun s=>okL p s.fD s.fH s.fGram):=by
 unfold d_spec_ShelvesOk
 rw [s_pal,ob_some]
 cases palB p
 · rfl
 · rw [Bool.not_true,cond_false,Bool.true_and]
   have:=lpAll l (fun n i=>d_spec_ShelvesOk_L1 fu p l n i) (fun s=>okL p s.fD s.fH s.fGram) (some true) (by omega) ?_ ?_ fu hf
   · rw [this]
     cases l.all fun s=>okL p s.fD s.fH s.fGram <;> rfl
   · intro n i x hx hd
     simp only [d_spec_ShelvesOk_L1.eq_2]
     unfold d_spec_ShelvesOk_L1_B
     simp only [hd,cond_true,hx,ob_some,s_l11]
     cases okL p x.fD x.fH x.fGram <;> rfl
   · intro n i hd
     simp only [d_spec_ShelvesOk_L1.eq_2]
     unfold d_spec_ShelvesOk_L1_B
     rw [hd,cond_false]
theorem s_sto {fu:Nat} (p:Pallet) (l:List Layer) (hl:l.length ≤ 1048576) (hf:l.length < fu):d_spec_StacksOk fu p l = some (palB p && l.all fun s=>okL p s.fD s.fH s.fGram):=by
 unfold d_spec_StacksOk
 rw [s_pal,ob_some]
 cases palB p
 · rfl
 · rw [Bool.not_true,cond_false,Bool.true_and]
   have:=lpAll l (fun n i=>d_spec_StacksOk_L1 fu p l n i) (fun s=>okL p s.fD s.fH s.fGram) (some true) (by omega) ?_ ?_ fu hf
   · rw [this]
     cases l.all fun s=>okL p s.fD s.fH s.fGram <;> rfl
   · intro n i x hx hd
     simp only [d_spec_StacksOk_L1.eq_2]
     unfold d_spec_StacksOk_L1_B
     simp only [hd,cond_true,hx,ob_some,s_l11]
     cases okL p x.fD x.fH x.fGram <;> rfl
   · intro n i hd
     simp only [d_spec_StacksOk_L1.eq_2]
     unfold d_spec_StacksOk_L1_B
     rw [hd,cond_false]
def shA (l:List Shelf) (i:Int):Shelf:=(ix l i).getD zSh
def zLy:Layer:=⟨[],0,0,0⟩
def lyAdd (x:Layer) (i:Int) (s:Shelf):Layer:=⟨x.fShelves ++ [i],x.fD + s.fD,mxI x.fH s.fH,x.fGram + s.fGram⟩
def lyFit (p:Pallet) (s:Shelf) (x:Layer):Bool:=decide (x.fD + s.fD ≤ p.fD) && decide (x.fGram + s.fGram ≤ p.fGram)
def lyS (p:Pallet) (l:List Shelf) (out:List Layer) (i:Int):List Layer:=nxG (lyFit p (shA l i)) (fun s=>lyAdd s i (shA l i)) zLy out
def lyM (p:Pallet) (l:List Shelf):List Layer:=(ints 0 l.length).foldl (lyS p l) []
structure LyI (p:Pallet) (n:Nat) (s:Layer):Prop where
 ne:s.fShelves ≠ []
 inn:∀ i ∈ s.fShelves,0 ≤ i ∧ i < n
 d:1 ≤ s.fD ∧ s.fD ≤ p.fD
 h:1 ≤ s.fH ∧ s.fH ≤ p.fH
 g:1 ≤ s.fGram ∧ s.fGram ≤ p.fGram
def OkS (p:Pallet) (l:List Shelf):Prop:=∀ s ∈ l,(1 ≤ s.fD ∧ s.fD ≤ p.fD) ∧ (1 ≤ s.fH ∧ s.fH ≤ p.fH) ∧ (1 ≤ s.fGram ∧ s.fGram ≤ p.fGram)
theorem shA_at {p:Pallet} {l:List Shelf} (h:OkS p l) {i:Int} (hi:0 ≤ i ∧ i < l.length):ix l i = some (shA l i) ∧ (1 ≤ (shA l i).fD ∧ (shA l i).fD ≤ p.fD) ∧ (1 ≤ (shA l i).fH ∧ (shA l i).fH ≤ p.fH) ∧ (1 ≤ (shA l i).fGram ∧ (shA l i).fGram ≤ p.fGram) ∧ shA l i ∈ l:=by
 obtain ⟨x,hx⟩:=ix_in (l:=l) hi.1 hi.2
 have e:shA l i = x:=by unfold shA; rw [hx]; rfl
 rw [e]
 exact ⟨hx,(h x (ix_mem hx)).1,(h x (ix_mem hx)).2.1,(h x (ix_mem hx)).2.2,ix_mem hx⟩
theorem lyS_all {p:Pallet} {l:List Shelf} (hb:OkS p l) {out:List Layer} {i:Int} (hi:0 ≤ i ∧ i < l.length) (h:∀ s ∈ out,LyI p l.length s):∀ s ∈ lyS p l out i,LyI p l.length s:=by
 obtain ⟨_,b1,b2,b3,_⟩:=shA_at hb hi
 refine nxG_all h (fun s hs hf=>?_) ⟨by simp [lyAdd],fun j hj=>?_,?_,?_,?_⟩
 · unfold lyFit at hf
   simp only [Bool.and_eq_true,decide_eq_true_eq] at hf
   obtain ⟨s1,s2,s4,s5,s6⟩:=hs
   have m2:=mxI_ge s.fH (shA l i).fH
   refine ⟨by simp [lyAdd],fun j hj=>?_,?_,?_,?_⟩
   · simp only [lyAdd,List.mem_append,List.mem_singleton] at hj
     rcases hj with hj | rfl
     · exact s2 j hj
     · exact hi
   · simp only [lyAdd]; omega
   · simp only [lyAdd]; omega
   · simp only [lyAdd]; omega
 · simp only [lyAdd,zLy,List.nil_append,List.mem_singleton] at hj
   rw [hj]; exact hi
 · simp only [lyAdd,zLy]; omega
 · have:=mxI_ge 0 (shA l i).fH
   simp only [lyAdd,zLy]; omega
 · simp only [lyAdd,zLy]; omega
theorem lyF_all {p:Pallet} {l:List Shelf} (hb:OkS p l):∀ (is:List Int) (out:List Layer),(∀ i ∈ is,0 ≤ i ∧ i < l.length) → (∀ s ∈ out,LyI p l.length s) → (∀ s ∈ is.foldl (lyS p l) out,LyI p l.length s) ∧ ((is.foldl (lyS p l) out).map (·.fShelves)).flatten = (out.map (·.fShelves)).flatten ++ is ∧ (is.foldl (lyS p l) out).length ≤ out.length + is.length
 | [],out,_,h=>⟨h,by simp,by simp⟩
 | i :: is,out,hi,h=>by
  rw [List.foldl_cons]
  obtain ⟨h1,h2,h3⟩:=lyF_all hb is (lyS p l out i) (fun j hj=>hi j (by simp [hj])) (lyS_all hb (hi i (by simp)) h)
  have h4:((lyS p l out i).map (·.fShelves)).flatten = (out.map (·.fShelves)).flatten ++ [i]:=nxG_flat (fun s=>rfl) rfl
  have h5:(lyS p l out i).length ≤ out.length + 1:=nxG_len _ _ _ _
  refine ⟨h1,by rw [h2,h4]; simp,by simp; omega⟩
theorem lyM_all {p:Pallet} {l:List Shelf} (hb:OkS p l):(∀ s ∈ lyM p l,LyI p l.length s) ∧ ((lyM p l).map (·.fShelves)).flatten = ints 0 l.length ∧ (lyM p l).length ≤ l.length:=by
 unfold lyM
 obtain ⟨h1,h2,h3⟩:=lyF_all hb (ints 0 l.length) [] (fun i hi=>by have:=ints_mem.1 hi; omega) (by simp)
 refine ⟨h1,by simpa using h2,?_⟩
 rw [ints_len] at h3
 simpa using h3
theorem okS_b {p:Pallet} {l:List Shelf} (h:OkS p l):(l.all fun s=>okL p s.fD s.fH s.fGram) = true:=by
 refine List.all_eq_true.2 fun s hs=>?_
 unfold okL
 simp only [Bool.and_eq_true,inb_iff]
 exact ⟨(h s hs).1,(h s hs).2.1,(h s hs).2.2⟩
theorem s_layers {fu:Nat} (hfu:2097153 ≤ fu) {p:Pallet} (hp:palB p = true) {l:List Shelf} (hb:OkS p l) (hl:l.length ≤ 1000):d_spec_LayersOf fu p l = some (lyM p l):=by
 unfold d_spec_LayersOf lyM
 rw [s_sho p l (by omega) (by omega),hp,okS_b hb,ob_some,Bool.and_self,Bool.not_true,cond_false]
 obtain ⟨p1,p2,p3,p4⟩:=pal_bd hp
 have L1:=lpNI (l.length:Int) (fun n (o:List Layer) i=>d_spec_LayersOf_L1 fu p l n o i) (fun xs o=>some (xs.foldl (lyS p l) o)) (fun xs o=>(∀ s ∈ o,LyI p l.length s) ∧ ((o.map (·.fShelves)).flatten).length + xs.length ≤ 1000 ∧ o.length + xs.length ≤ 1000) (by omega) ?_ ?_ l.length fu [] 0 (by omega) (by omega) (by omega) ⟨by simp,by simp [ints_len]; omega,by simp [ints_len]; omega⟩
 · exact L1
 · intro n o i xs x0 x1 hd hI ih
   obtain ⟨i2,i3,i4⟩:=hI
   simp only [List.length_cons] at i3 i4
   obtain ⟨hbx,b1,b2,b3,_⟩:=shA_at hb ⟨x0,x1⟩
   have hflat:((lyS p l o i).map (·.fShelves)).flatten = (o.map (·.fShelves)).flatten ++ [i]:=nxG_flat (fun s=>rfl) rfl
   have hlen:(lyS p l o i).length ≤ o.length + 1:=nxG_len _ _ _ _
   have ih':=ih (lyS p l o i) ⟨lyS_all hb ⟨x0,x1⟩ i2,by rw [hflat,List.length_append,List.length_singleton]; omega,by omega⟩
   have J:∀ (o':List Layer) (x:Layer),o'.length ≤ 1000 → (x.fShelves.length ≤ 1000) → (0 ≤ x.fD ∧ x.fD ≤ 2000) → (0 ≤ x.fGram ∧ x.fGram ≤ 100000) → d_spec_LayersOf_J2 fu (d_spec_LayersOf_L1 fu p l n) i (shA l i) (o' ++ [x]) ((o'.length:Int) + 1) = d_spec_LayersOf_L1 fu p l n (o' ++ [lyAdd x i (shA l i)]) (w64 (i + 1)):=by
    intro o' x h1 h2 h3 h4
    unfold d_spec_LayersOf_J2 d_spec_LayersOf_J1
    have e1:w64 ((o'.length:Int) + 1 - 1) = (o'.length:Int):=by rw [w64_id (by omega) (by omega)]; omega
    have e2:ix (o' ++ [x]) (o'.length:Int) = some x:=by rw [ix_nat]; simp
    rw [e1,e2,ob_some,ap1 (by simp; omega),ob_some,ap1 (by simp; omega),ob_some,s_max,ob_some,ob_some,w64_id (n:=x.fD + _) (by omega) (by omega),w64_id (n:=x.fGram + _) (by omega) (by omega)]
    have e3:∀ y:Layer,setx (o' ++ [x]) (o'.length:Int) y = o' ++ [y]:=by intro y; simp [setx]
    rw [e3]
    rfl
   simp only [d_spec_LayersOf_L1.eq_2]
   unfold d_spec_LayersOf_L1_B
   rw [hd,cond_true,hbx,ob_some,List.foldl_cons,← ih']
   by_cases he:o = []
   · subst he
     rw [bif_true (by simp),ap1 (by simp),ob_some]
     have:=J [] zLy (by simp) (by simp [zLy]) (by simp [zLy]) (by simp [zLy])
     rw [w64_id (by simp) (by simp)]
     exact this
   · obtain ⟨s,e1,e2⟩:=last_at he
     have hpl:=List.length_pos_iff.2 he
     have hsm':=List.mem_of_getLast? e1
     have hs:=i2 s hsm'
     have hsl':=flat_le (fun s:Layer=>s.fShelves) o s hsm'
     obtain ⟨s1,s2,s4,s5,s6⟩:=hs
     have eS:lyS p l o i = bif lyFit p (shA l i) s then o.set (o.length - 1) (lyAdd s i (shA l i)) else o ++ [lyAdd zLy i (shA l i)]:=nxG_some e1
     have eo:o = o.dropLast ++ [s]:=by
      have h1:=List.dropLast_concat_getLast he
      rw [List.getLast?_eq_some_getLast he] at e1
      rw [Option.some.inj e1] at h1
      exact h1.symm
     have e3:d_spec_LayersOf_J2 fu (d_spec_LayersOf_L1 fu p l n) i (shA l i) o (o.length:Int) = d_spec_LayersOf_L1 fu p l n (o.set (o.length - 1) (lyAdd s i (shA l i))) (w64 (i + 1)):=by
      obtain ⟨d,hd⟩:∃ d,o = d ++ [s]:=⟨_,eo⟩
      rw [hd] at i4 ⊢
      simp only [List.length_append,List.length_singleton] at i4
      have:=J d s (by omega) (by omega) (by omega) (by omega)
      rw [show (((d ++ [s]).length:Nat):Int) = (d.length:Int) + 1 by simp,this]
      congr 1
      simp
     have e4:d_spec_LayersOf_J2 fu (d_spec_LayersOf_L1 fu p l n) i (shA l i) (o ++ [zLy]) (w64 ((o.length:Int) + 1)) = d_spec_LayersOf_L1 fu p l n (o ++ [lyAdd zLy i (shA l i)]) (w64 (i + 1)):=by
      rw [w64_id (by omega) (by omega)]
      exact J o zLy (by omega) (by simp [zLy]) (by simp [zLy]) (by simp [zLy])
     rw [w64_id (n:=(o.length:Int) - 1) (by omega) (by omega),e2,ob_some,bif_false (by simp; omega),ob_some,w64_id (n:=s.fD + _) (by omega) (by omega),w64_id (n:=s.fGram + _) (by omega) (by omega),ap1 (by simp; omega),ob_some,e3]
     rw [show (⟨[],0,0,0⟩:Layer) = zLy from rfl,e4,eS]
     unfold lyFit
     by_cases c1:s.fD + (shA l i).fD ≤ p.fD
     · rw [bif_false (c:=decide (s.fD + (shA l i).fD > p.fD)) (by simp; omega),decide_eq_true c1]
       by_cases c2:s.fGram + (shA l i).fGram ≤ p.fGram
       · rw [bif_false (c:=decide (s.fGram + (shA l i).fGram > p.fGram)) (by simp; omega),decide_eq_true c2]; rfl
       · rw [bif_true (c:=decide (s.fGram + (shA l i).fGram > p.fGram)) (by simp; omega),decide_eq_false c2]; rfl
     · rw [bif_true (c:=decide (s.fD + (shA l i).fD > p.fD)) (by simp; omega),decide_eq_false c1]; rfl
 · intro n o i hd _
   simp only [d_spec_LayersOf_L1.eq_2]
   unfold d_spec_LayersOf_L1_B
   rw [hd,cond_false]; rfl
def lyA (l:List Layer) (i:Int):Layer:=(ix l i).getD zLy
def zLd:Load:=⟨[],0,0⟩
def ldAdd (x:Load) (i:Int) (s:Layer):Load:=⟨x.fLayers ++ [i],x.fH + s.fH,x.fGram + s.fGram⟩
def ldFit (p:Pallet) (s:Layer) (x:Load):Bool:=decide (x.fH + s.fH ≤ p.fH) && decide (x.fGram + s.fGram ≤ p.fGram)
def ldS (p:Pallet) (l:List Layer) (out:List Load) (i:Int):List Load:=nxG (ldFit p (lyA l i)) (fun s=>ldAdd s i (lyA l i)) zLd out
def ldM (p:Pallet) (l:List Layer):List Load:=(ints 0 l.length).foldl (ldS p l) []
structure LdI (p:Pallet) (n:Nat) (s:Load):Prop where
 ne:s.fLayers ≠ []
 inn:∀ i ∈ s.fLayers,0 ≤ i ∧ i < n
 h:1 ≤ s.fH ∧ s.fH ≤ p.fH
 g:1 ≤ s.fGram ∧ s.fGram ≤ p.fGram
def OkY (p:Pallet) (l:List Layer):Prop:=∀ s ∈ l,(1 ≤ s.fD ∧ s.fD ≤ p.fD) ∧ (1 ≤ s.fH ∧ s.fH ≤ p.fH) ∧ (1 ≤ s.fGram ∧ s.fGram ≤ p.fGram)
theorem lyA_at {p:Pallet} {l:List Layer} (h:OkY p l) {i:Int} (hi:0 ≤ i ∧ i < l.length):ix l i = some (lyA l i) ∧ (1 ≤ (lyA l i).fD ∧ (lyA l i).fD ≤ p.fD) ∧ (1 ≤ (lyA l i).fH ∧ (lyA l i).fH ≤ p.fH) ∧ (1 ≤ (lyA l i).fGram ∧ (lyA l i).fGram ≤ p.fGram) ∧ lyA l i ∈ l:=by
 obtain ⟨x,hx⟩:=ix_in (l:=l) hi.1 hi.2
 have e:lyA l i = x:=by unfold lyA; rw [hx]; rfl
 rw [e]
 exact ⟨hx,(h x (ix_mem hx)).1,(h x (ix_mem hx)).2.1,(h x (ix_mem hx)).2.2,ix_mem hx⟩
theorem ldS_all {p:Pallet} {l:List Layer} (hb:OkY p l) {out:List Load} {i:Int} (hi:0 ≤ i ∧ i < l.length) (h:∀ s ∈ out,LdI p l.length s):∀ s ∈ ldS p l out i,LdI p l.length s:=by
 obtain ⟨_,b1,b2,b3,_⟩:=lyA_at hb hi
 refine nxG_all h (fun s hs hf=>?_) ⟨by simp [ldAdd],fun j hj=>?_,?_,?_⟩
 · unfold ldFit at hf
   simp only [Bool.and_eq_true,decide_eq_true_eq] at hf
   obtain ⟨s1,s2,s5,s6⟩:=hs
   refine ⟨by simp [ldAdd],fun j hj=>?_,?_,?_⟩
   · simp only [ldAdd,List.mem_append,List.mem_singleton] at hj
     rcases hj with hj | rfl
     · exact s2 j hj
     · exact hi
   · simp only [ldAdd]; omega
   · simp only [ldAdd]; omega
 · simp only [ldAdd,zLd,List.nil_append,List.mem_singleton] at hj
   rw [hj]; exact hi
 · simp only [ldAdd,zLd]; omega
 · simp only [ldAdd,zLd]; omega
theorem ldF_all {p:Pallet} {l:List Layer} (hb:OkY p l):∀ (is:List Int) (out:List Load),(∀ i ∈ is,0 ≤ i ∧ i < l.length) → (∀ s ∈ out,LdI p l.length s) → (∀ s ∈ is.foldl (ldS p l) out,LdI p l.length s) ∧ ((is.foldl (ldS p l) out).map (·.fLayers)).flatten = (out.map (·.fLayers)).flatten ++ is ∧ (is.foldl (ldS p l) out).length ≤ out.length + is.length
 | [],out,_,h=>⟨h,by simp,by simp⟩
 | i :: is,out,hi,h=>by
  rw [List.foldl_cons]
  obtain ⟨h1,h2,h3⟩:=ldF_all hb is (ldS p l out i) (fun j hj=>hi j (by simp [hj])) (ldS_all hb (hi i (by simp)) h)
  have h4:((ldS p l out i).map (·.fLayers)).flatten = (out.map (·.fLayers)).flatten ++ [i]:=nxG_flat (fun s=>rfl) rfl
  have h5:(ldS p l out i).length ≤ out.length + 1:=nxG_len _ _ _ _
  refine ⟨h1,by rw [h2,h4]; simp,by simp; omega⟩
theorem ldM_all {p:Pallet} {l:List Layer} (hb:OkY p l):(∀ s ∈ ldM p l,LdI p l.length s) ∧ ((ldM p l).map (·.fLayers)).flatten = ints 0 l.length ∧ (ldM p l).length ≤ l.length:=by
 unfold ldM
 obtain ⟨h1,h2,h3⟩:=ldF_all hb (ints 0 l.length) [] (fun i hi=>by have:=ints_mem.1 hi; omega) (by simp)
 refine ⟨h1,by simpa using h2,?_⟩
 rw [ints_len] at h3
 simpa using h3
theorem okY_b {p:Pallet} {l:List Layer} (h:OkY p l):(l.all fun s=>okL p s.fD s.fH s.fGram) = true:=by
 refine List.all_eq_true.2 fun s hs=>?_
 unfold okL
 simp only [Bool.and_eq_true,inb_iff]
 exact ⟨(h s hs).1,(h s hs).2.1,(h s hs).2.2⟩
theorem s_loads {fu:Nat} (hfu:2097153 ≤ fu) {p:Pallet} (hp:palB p = true) {l:List Layer} (hb:OkY p l) (hl:l.length ≤ 1000):d_spec_LoadsOf fu p l = some (ldM p l):=by
 unfold d_spec_LoadsOf ldM
 rw [s_sto p l (by omega) (by omega),hp,okY_b hb,ob_some,Bool.and_self,Bool.not_true,cond_false]
 obtain ⟨p1,p2,p3,p4⟩:=pal_bd hp
 have L1:=lpNI (l.length:Int) (fun n (o:List Load) i=>d_spec_LoadsOf_L1 fu p l n o i) (fun xs o=>some (xs.foldl (ldS p l) o)) (fun xs o=>(∀ s ∈ o,LdI p l.length s) ∧ ((o.map (·.fLayers)).flatten).length + xs.length ≤ 1000 ∧ o.length + xs.length ≤ 1000) (by omega) ?_ ?_ l.length fu [] 0 (by omega) (by omega) (by omega) ⟨by simp,by simp [ints_len]; omega,by simp [ints_len]; omega⟩
 · exact L1
 · intro n o i xs x0 x1 hd hI ih
   obtain ⟨i2,i3,i4⟩:=hI
   simp only [List.length_cons] at i3 i4
   obtain ⟨hbx,b1,b2,b3,_⟩:=lyA_at hb ⟨x0,x1⟩
   have hflat:((ldS p l o i).map (·.fLayers)).flatten = (o.map (·.fLayers)).flatten ++ [i]:=nxG_flat (fun s=>rfl) rfl
   have hlen:(ldS p l o i).length ≤ o.length + 1:=nxG_len _ _ _ _
   have ih':=ih (ldS p l o i) ⟨ldS_all hb ⟨x0,x1⟩ i2,by rw [hflat,List.length_append,List.length_singleton]; omega,by omega⟩
   have J:∀ (o':List Load) (x:Load),o'.length ≤ 1000 → (x.fLayers.length ≤ 1000) → (0 ≤ x.fH ∧ x.fH ≤ 2000) → (0 ≤ x.fGram ∧ x.fGram ≤ 100000) → d_spec_LoadsOf_J2 fu (d_spec_LoadsOf_L1 fu p l n) i (lyA l i) (o' ++ [x]) ((o'.length:Int) + 1) = d_spec_LoadsOf_L1 fu p l n (o' ++ [ldAdd x i (lyA l i)]) (w64 (i + 1)):=by
    intro o' x h1 h2 h3 h4
    unfold d_spec_LoadsOf_J2 d_spec_LoadsOf_J1
    have e1:w64 ((o'.length:Int) + 1 - 1) = (o'.length:Int):=by rw [w64_id (by omega) (by omega)]; omega
    have e2:ix (o' ++ [x]) (o'.length:Int) = some x:=by rw [ix_nat]; simp
    rw [e1,e2,ob_some,ap1 (by simp; omega),ob_some,ap1 (by simp; omega),ob_some,ob_some,w64_id (n:=x.fH + _) (by omega) (by omega),w64_id (n:=x.fGram + _) (by omega) (by omega)]
    have e3:∀ y:Load,setx (o' ++ [x]) (o'.length:Int) y = o' ++ [y]:=by intro y; simp [setx]
    rw [e3]
    rfl
   simp only [d_spec_LoadsOf_L1.eq_2]
   unfold d_spec_LoadsOf_L1_B
   rw [hd,cond_true,hbx,ob_some,List.foldl_cons,← ih']
   by_cases he:o = []
   · subst he
     rw [bif_true (by simp),ap1 (by simp),ob_some]
     have:=J [] zLd (by simp) (by simp [zLd]) (by simp [zLd]) (by simp [zLd])
     rw [w64_id (by simp) (by simp)]
     exact this
   · obtain ⟨s,e1,e2⟩:=last_at he
     have hpl:=List.length_pos_iff.2 he
     have hsm':=List.mem_of_getLast? e1
     have hs:=i2 s hsm'
     have hsl':=flat_le (fun s:Load=>s.fLayers) o s hsm'
     obtain ⟨s1,s2,s5,s6⟩:=hs
     have eS:ldS p l o i = bif ldFit p (lyA l i) s then o.set (o.length - 1) (ldAdd s i (lyA l i)) else o ++ [ldAdd zLd i (lyA l i)]:=nxG_some e1
     have eo:o = o.dropLast ++ [s]:=by
      have h1:=List.dropLast_concat_getLast he
      rw [List.getLast?_eq_some_getLast he] at e1
      rw [Option.some.inj e1] at h1
      exact h1.symm
     have e3:d_spec_LoadsOf_J2 fu (d_spec_LoadsOf_L1 fu p l n) i (lyA l i) o (o.length:Int) = d_spec_LoadsOf_L1 fu p l n (o.set (o.length - 1) (ldAdd s i (lyA l i))) (w64 (i + 1)):=by
      obtain ⟨d,hd⟩:∃ d,o = d ++ [s]:=⟨_,eo⟩
      rw [hd] at i4 ⊢
      simp only [List.length_append,List.length_singleton] at i4
      have:=J d s (by omega) (by omega) (by omega) (by omega)
      rw [show (((d ++ [s]).length:Nat):Int) = (d.length:Int) + 1 by simp,this]
      congr 1
      simp
     have e4:d_spec_LoadsOf_J2 fu (d_spec_LoadsOf_L1 fu p l n) i (lyA l i) (o ++ [zLd]) (w64 ((o.length:Int) + 1)) = d_spec_LoadsOf_L1 fu p l n (o ++ [ldAdd zLd i (lyA l i)]) (w64 (i + 1)):=by
      rw [w64_id (by omega) (by omega)]
      exact J o zLd (by omega) (by simp [zLd]) (by simp [zLd]) (by simp [zLd])
     rw [w64_id (n:=(o.length:Int) - 1) (by omega) (by omega),e2,ob_some,bif_false (by simp; omega),ob_some,w64_id (n:=s.fH + _) (by omega) (by omega),w64_id (n:=s.fGram + _) (by omega) (by omega),ap1 (by simp; omega),ob_some,e3]
     rw [show (⟨[],0,0⟩:Load) = zLd from rfl,e4,eS]
     unfold ldFit
     by_cases c1:s.fH + (lyA l i).fH ≤ p.fH
     · rw [bif_false (c:=decide (s.fH + (lyA l i).fH > p.fH)) (by simp; omega),decide_eq_true c1]
       by_cases c2:s.fGram + (lyA l i).fGram ≤ p.fGram
       · rw [bif_false (c:=decide (s.fGram + (lyA l i).fGram > p.fGram)) (by simp; omega),decide_eq_true c2]; rfl
       · rw [bif_true (c:=decide (s.fGram + (lyA l i).fGram > p.fGram)) (by simp; omega),decide_eq_false c2]; rfl
     · rw [bif_true (c:=decide (s.fH + (lyA l i).fH > p.fH)) (by simp; omega),decide_eq_false c1]; rfl
 · intro n o i hd _
   simp only [d_spec_LoadsOf_L1.eq_2]
   unfold d_spec_LoadsOf_L1_B
   rw [hd,cond_false]; rfl
end Go.Proofs.YthkaklkinepfkaaGreatDoor
