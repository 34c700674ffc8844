import Derived.Test.YtkkfmjpbiimkbaaGreatExactSqueezeBP1
set_option linter.unusedSimpArgs false
set_option linter.unusedVariables false
/- IsPacking of spec and of impl. -/
namespace Go.Proofs.YtkkfmjpbiimkbaaGreat
open Go
open Enc (rd ow)
open Arg (argv)
open Ret (retv)
open Wf (wf)
def thrM (r:Request) (us:List Int):List Int:=us.filter fun u=>inb u 0 (((untM r).length:Int) - 1)
def perB (a b:List Int):Bool:=decide ((a.mergeSort fun x y=>decide (x ≤ y)) = b.mergeSort fun x y=>decide (x ≤ y))
theorem perB_iff {a b:List Int}:perB a b = true ↔ a.Perm b:=by
 unfold perB
 rw [decide_eq_true_iff]
 constructor
 · intro h
   have h1:=List.mergeSort_perm a fun x y=>decide (x ≤ y)
   rw [h] at h1
   exact h1.symm.trans (List.mergeSort_perm b _)
 · intro h
   exact le_uniq (((List.mergeSort_perm a _).trans h).trans (List.mergeSort_perm b _).symm) (mergeSort_le a) (mergeSort_le b)
theorem perm_cnt:∀ (a b:List Int),a.length = b.length → (∀ x ∈ a,a.count x = b.count x) → a.Perm b
 | [],b,h,_=>by
  have:b = []:=List.eq_nil_of_length_eq_zero h.symm
  subst this
  exact List.Perm.refl _
 | x :: a,b,h,hc=>by
  have hx:=hc x (by simp)
  rw [List.count_cons_self] at hx
  have hm:x ∈ b:=List.count_pos_iff.1 (by omega)
  have hp:=List.perm_cons_erase hm
  refine List.Perm.trans (List.Perm.cons x (perm_cnt a (b.erase x) ?_ ?_)) hp.symm
  · have:=hp.length_eq
    simp only [List.length_cons] at this h
    omega
  · intro y hy
    have h1:=hc y (by simp [hy])
    have h2:=hp.count_eq y
    rw [List.count_cons] at h1 h2
    omega
theorem i_there {fu:Nat} {r:Request} (h:Sm fu r) (us:List Int) (hl:us.length ≤ 1048576):d_impl_thereOf fu r us = some (thrM r us):=by
 have hfu:=h.fu
 unfold d_impl_thereOf d_slices_Clone_int_int thrM
 rw [i_unt h,ob_some,ap1 (by simp; omega),ob_some,ob_some,List.nil_append,i_del _ (fun u=>!inb u 0 (((untM r).length:Int) - 1)) ?_ hl (by omega),ob_some]
 · simp
 · intro u _
   unfold d_impl_thereOf_1
   rw [w64_len,i_in,ob_some]
theorem s_known {fu:Nat} {r:Request} (h:Sm fu r) (us:List Int) (hl:us.length ≤ 1048576):d_spec_l7Known fu (untM r) us = some (thrM r us):=by
 have hfu:=h.fu
 unfold d_spec_l7Known thrM
 have:=lpI us (fun n out i=>d_spec_l7Known_L1 fu (untM r) us n out i) (fun xs out=>some (out ++ xs.filter fun u=>inb u 0 (((untM r).length:Int) - 1))) (fun xs out=>out.length + xs.length ≤ 1048576) (by omega) ?_ ?_ fu [] (by simpa using hl) (by omega)
 · simpa using this
 · intro n out i x xs hx hd hI ih
   simp only [List.length_cons] at hI
   simp only [d_spec_l7Known_L1.eq_2]
   unfold d_spec_l7Known_L1_B d_spec_l7Known_J1
   rw [hd,cond_true,hx,ob_some,w64_len,s_in,ob_some,ob_some,List.filter_cons]
   cases hb:inb x 0 (((untM r).length:Int) - 1)
   · rw [cond_false,ih _ (by omega)]; simp
   · rw [cond_true,ap1 (by simp; omega),ob_some,ih _ (by simp; omega)]; simp
 · intro n out i hd hI
   simp only [d_spec_l7Known_L1.eq_2]
   unfold d_spec_l7Known_L1_B
   simp only [hd,cond_false]
   simp
theorem zip_all:∀ (a b:List Int),a.length = b.length → ((a.zip b).all fun p=>p.1 == p.2) = decide (a = b)
 | [],[],_=>rfl
 | [],_ :: _,h=>by simp at h
 | _ :: _,[],h=>by simp at h
 | x :: a,y :: b,h=>by
  rw [List.zip_cons_cons,List.all_cons,zip_all a b (by simpa using h)]
  by_cases hx:x = y <;> simp [hx]
theorem i_equal {fu:Nat} (a b:List Int) (hl:a.length ≤ 1048576) (hf:a.length < fu):d_slices_Equal_int_int fu a b = some (decide (a = b)):=by
 unfold d_slices_Equal_int_int
 by_cases h:a.length = b.length
 · rw [bif_false (by simp [h])]
   have hz:(a.zip b).length = a.length:=by rw [List.length_zip]; omega
   have:=lp (a.zip b) (fun n (_:Unit) i=>d_slices_Equal_int_int_L1 fu a b n i) (fun l _=>some (l.all fun p=>p.1 == p.2)) (by omega) ?_ ?_ fu () (by omega)
   · rw [zip_all a b h] at this
     exact this
   · intro n _ i p xs hp hd ih
     obtain ⟨h1,_,h2⟩:=ix_some hp
     rw [List.getElem?_zip_eq_some] at h2
     rw [hz] at hd
     have e1:ix a i = some p.1:=by unfold ix; rw [if_pos h1]; exact h2.1
     have e2:ix b i = some p.2:=by unfold ix; rw [if_pos h1]; exact h2.2
     simp only [d_slices_Equal_int_int_L1.eq_2]
     unfold d_slices_Equal_int_int_L1_B
     rw [hd,cond_true,e1,ob_some,e2,ob_some,ih (),List.all_cons]
     by_cases hx:p.1 = p.2
     · rw [bif_false (by simp [hx])]; simp [hx]
     · rw [bif_true (by simpa using hx)]; simp [hx]
   · intro n _ i hd
     rw [hz] at hd
     simp only [d_slices_Equal_int_int_L1.eq_2]
     unfold d_slices_Equal_int_int_L1_B
     simp [hd]
 · rw [bif_true (by simp; omega)]
   have:a ≠ b:=fun e=>h (by rw [e])
   simp [this]
theorem sortI_some {xs:List Int} (h:xs.length ≤ 1048576):sortI xs = some (xs.mergeSort fun x y=>decide (x ≤ y)):=by
 unfold sortI
 rw [if_pos (by omega)]
def okC (r:Request) (l:List Int):Bool:=l.length != 0 && witB r l (masM r)
def packB (r:Request) (us:List Int) (cs:List (List Int)):Bool:=clsM r == 0 && (cs.all (okC r) && perB cs.flatten (thrM r us))
theorem thrM_len (r:Request) (us:List Int):(thrM r us).length ≤ us.length:=List.length_filter_le _ _
theorem i_pack {fu:Nat} {r:Request} (h:Sm fu r) (us:List Int) (cs:List (List Int)) (hu:us.length ≤ 1048576) (hl:cs.length ≤ 1048576) (hs:lensL cs ≤ 1048576):d_impl_IsPacking fu r us cs = some (packB r us cs):=by
 have hfu:=h.fu
 unfold d_impl_IsPacking packB
 rw [i_sound h,ob_some]
 cases hc:clsM r == 0
 · rfl
 rw [Bool.not_true,cond_false,i_mas h,ob_some,Bool.true_and]
 have ht:=thrM_len r us
 have:=lpI cs (fun n all i=>d_impl_IsPacking_L1 fu r us cs (othM (typM r r.fMaster)) n all i) (fun xs all=>some (xs.all (okC r) && perB (all ++ xs.flatten) (thrM r us))) (fun xs all=>all.length + lensL xs ≤ 1048576) (by omega) ?_ ?_ fu [] (by simpa using hs) (by omega)
 · simpa using this
 · intro n all i x xs hx hd hI ih
   simp only [lensL] at hI
   simp only [d_impl_IsPacking_L1.eq_2]
   unfold d_impl_IsPacking_L1_B d_impl_IsPacking_J2 d_impl_IsPacking_J1
   rw [hd,cond_true,hx,ob_some,i_within h _ _ (by omega),ob_some,ap1 (by omega),ob_some,ih _ (by simp; omega),List.all_cons,List.flatten_cons,← List.append_assoc]
   unfold okC
   rw [show (othM (typM r r.fMaster)).1 = masM r from rfl]
   by_cases hx0:x.length = 0
   · rw [bif_true (by simp [hx0])]; simp [hx0]
   · rw [bif_false (by simpa using hx0)]
     have e:(x.length != 0) = true:=by simpa using hx0
     cases witB r x (masM r) <;> simp [e]
 · intro n all i hd hI
   simp only [lensL] at hI
   simp only [d_impl_IsPacking_L1.eq_2]
   unfold d_impl_IsPacking_L1_B d_slices_Sort_int_int
   rw [hd,cond_false,i_there h us hu,ob_some,sortI_some (by omega),ob_some,sortI_some (by omega),ob_some,i_equal _ _ (by rw [List.length_mergeSort]; omega) (by rw [List.length_mergeSort]; omega),ob_some]
   simp [perB]
theorem s_pack {fu:Nat} {r:Request} (h:Sm fu r) (us:List Int) (cs:List (List Int)) (hu:us.length ≤ 1048576) (hl:cs.length ≤ 1048576) (hs:lensL cs ≤ 1048576):d_spec_IsPacking fu r us cs = some (packB r us cs):=by
 have hfu:=h.fu
 unfold d_spec_IsPacking packB
 rw [s_cls h,ob_some]
 by_cases hc:clsM r = 0
 rotate_left
 · rw [bif_true (by simpa using hc)]
   have:(clsM r == 0) = false:=by simpa using hc
   rw [this]; rfl
 rw [bif_false (by simp [hc]),s_mas h,ob_some,s_l6 h (clsM_zero hc).1,ob_some]
 have e6:l6M r = untM r:=by unfold untM; simp [hc]
 have e0:(clsM r == 0) = true:=by simp [hc]
 rw [e6,e0,Bool.true_and]
 have ht:=thrM_len r us
 have:=lpI cs (fun n all i=>d_spec_IsPacking_L2 fu r us cs (othM (typM r r.fMaster)) (untM r) n all i) (fun xs all=>some (xs.all (okC r) && perB (all ++ xs.flatten) (thrM r us))) (fun xs all=>all.length + lensL xs ≤ 1048576) (by omega) ?_ ?_ fu [] (by simpa using hs) (by omega)
 · simpa using this
 · intro n all i x xs hx hd hI ih
   simp only [lensL] at hI
   simp only [d_spec_IsPacking_L2.eq_2]
   unfold d_spec_IsPacking_L2_B d_spec_IsPacking_J4 d_spec_IsPacking_J3 d_spec_IsPacking_J2
   rw [hd,cond_true,hx,ob_some,s_l7Of r x (by omega) (by omega),ob_some,ob_some,s_vol,ob_some,ob_some,ap1 (by omega),ob_some,ih _ (by simp; omega),List.all_cons,List.flatten_cons,← List.append_assoc]
   unfold okC witB
   rw [show (othM (typM r r.fMaster)).1 = masM r from rfl,show volB (masM r).fW (masM r).fH (masM r).fD = volT (masM r) from rfl]
   by_cases hx0:x.length = 0
   · rw [bif_true (by simp [hx0])]; simp [hx0]
   · rw [bif_false (by simpa using hx0)]
     have e:(x.length != 0) = true:=by simpa using hx0
     by_cases hv:volM r x ≤ volT (masM r)
     · rw [bif_false (by simpa using hv)]
       by_cases hg:grmM r x ≤ (masM r).fGram
       · rw [bif_false (by simpa using hg)]; simp [e,hv,hg]
       · rw [bif_true (by simpa using hg)]; simp [hg]
     · rw [bif_true (by simpa using hv)]; simp [hv]
 · intro n all i hd hI
   simp only [lensL] at hI
   simp only [d_spec_IsPacking_L2.eq_2]
   unfold d_spec_IsPacking_L2_B d_spec_IsPacking_J1
   rw [hd,cond_false,s_known h us hu,ob_some]
   simp only [List.all_nil,Bool.true_and,List.flatten_nil,List.append_nil]
   by_cases hlen:(thrM r us).length = all.length
   rotate_left
   · rw [bif_true (by simp; omega)]
     congr 1
     symm
     rw [Bool.eq_false_iff]
     intro hp
     exact hlen (perB_iff.1 hp).length_eq.symm
   rw [bif_false (by simp [hlen])]
   have key:=lp all (fun n (_:Unit) i=>d_spec_IsPacking_L1 fu all (thrM r us) n i) (fun l _=>some (l.all fun x=>all.count x == (thrM r us).count x)) (by omega) ?_ ?_ fu () (by omega)
   · refine key.trans ?_
     congr 1
     apply Bool.eq_iff_iff.2
     rw [perB_iff]
     simp only [List.all_eq_true,beq_iff_eq]
     exact ⟨fun hc=>perm_cnt _ _ hlen.symm hc,fun hp x _=>hp.count_eq x⟩
   · intro n _ i x xs hx hd ih
     simp only [d_spec_IsPacking_L1.eq_2]
     unfold d_spec_IsPacking_L1_B
     rw [hd,cond_true,hx,ob_some,ob_some,s_tim (by omega) (by omega),ob_some,s_tim (by omega) (by omega),ob_some,ih (),List.all_cons,cnt_count,cnt_count]
     by_cases he:all.count x = (thrM r us).count x
     · rw [bif_false (by simp [he])]; simp [he]
     · rw [bif_true (by rw [bne_iff_ne]; omega)]
       have:(all.count x == (thrM r us).count x) = false:=by simpa using he
       rw [this]; rfl
   · intro n _ i hd
     simp only [d_spec_IsPacking_L1.eq_2]
     unfold d_spec_IsPacking_L1_B
     simp [hd]
end Go.Proofs.YtkkfmjpbiimkbaaGreat
/- IsRival of spec and of impl. -/
namespace Go.Proofs.YtkkfmjpbiimkbaaGreat
open Go
open Enc (rd ow)
open Arg (argv)
open Ret (retv)
open Wf (wf)
def clsZ (r:Request) (u:Int):Int:=(itmZ r u).fClass
def allBes (r:Request) (c:List Int):Bool:=c.all fun x=>c.all fun y=>besB r.fPairs (clsZ r x) (clsZ r y)
def rivB (r:Request) (cs:List (List Int)):Bool:=packB r (ints 0 (untM r).length) cs && cs.all (allBes r)
theorem thr_mem {r:Request} {us:List Int} {u:Int} (h:u ∈ thrM r us):0 ≤ u ∧ u < (untM r).length:=by
 unfold thrM at h
 have:=(List.mem_filter.1 h).2
 rw [inb_iff] at this
 omega
theorem pack_mem {r:Request} {us:List Int} {cs:List (List Int)} (h:packB r us cs = true):∀ c ∈ cs,∀ u ∈ c,0 ≤ u ∧ u < (untM r).length:=by
 intro c hc u hu
 simp only [packB,Bool.and_eq_true] at h
 exact thr_mem (((perB_iff.1 h.2.2).mem_iff).1 (List.mem_flatten.2 ⟨c,hc,hu⟩))
theorem itmZ_in {r:Request} {u:Int} (h:0 ≤ u ∧ u < (untM r).length):itmM r u = some (itmZ r u):=by
 obtain ⟨_,x,_,_,hx⟩:=itmM_in h
 unfold itmZ
 rw [hx]; rfl
theorem itsM_map {r:Request}:∀ {l:List Int},(∀ u ∈ l,0 ≤ u ∧ u < (untM r).length) → itsM r l = l.map (itmZ r)
 | [],_=>rfl
 | u :: l,h=>by
  have ih:=itsM_map (r:=r) (l:=l) fun v hv=>h v (by simp [hv])
  unfold itsM at ih ⊢
  rw [List.filterMap_cons,itmZ_in (h u (by simp)),ih,List.map_cons]
theorem may_in {r:Request} {l:List Int} {u:Int} (hl:∀ u ∈ l,0 ≤ u ∧ u < (untM r).length) (hu:0 ≤ u ∧ u < (untM r).length):mayB r l u = l.all fun x=>mutB r.fPairs (clsZ r x) (clsZ r u):=by
 unfold mayB
 rw [itsM_map hl,itsM_one (itmZ_in hu),List.all_map]
 congr 1
 funext x
 simp [clsZ]
theorem all_may {r:Request} {l:List Int} (hl:∀ u ∈ l,0 ≤ u ∧ u < (untM r).length):(l.all fun u=>mayB r l u) = allBes r l:=by
 unfold allBes
 apply Bool.eq_iff_iff.2
 simp only [List.all_eq_true]
 constructor
 · intro h x hx y hy
   have:=h y hy
   rw [may_in hl (hl y hy)] at this
   have:=List.all_eq_true.1 this x hx
   simp only [mutB,Bool.and_eq_true] at this
   exact this.1
 · intro h u hu
   rw [may_in hl (hl u hu),List.all_eq_true]
   intro x hx
   simp only [mutB,Bool.and_eq_true]
   exact ⟨h x hx u hu,h u hu x hx⟩
theorem i_rival {fu:Nat} {r:Request} (h:Sm fu r) (cs:List (List Int)) (hl:cs.length ≤ 1048576) (hm:∀ x ∈ cs,x.length ≤ 1048576) (hs:lensL cs ≤ 1048576):d_impl_IsRival fu r cs = some (rivB r cs):=by
 have hfu:=h.fu
 have hul:=untM_len r
 unfold d_impl_IsRival rivB
 rw [i_unt h,ob_some,i_places _ (by omega) (by omega),ob_some,i_pack h _ cs (by rw [ints_len]; omega) hl hs,ob_some]
 cases hp:packB r (ints 0 (untM r).length) cs
 · rfl
 rw [Bool.not_true,cond_false,Bool.true_and]
 unfold d_slices_ContainsFunc_ints_int
 rw [i_idxInts (fun y=>d_impl_IsRival_1 fu y r) (fun c=>!allBes r c) (fun c hc=>by
  have hcl:=hm c hc
  have hcm:=pack_mem hp c hc
  unfold d_impl_IsRival_1
  rw [i_anyInt (fun y=>d_impl_IsRival_1_1 fu y r c) (fun u=>!mayB r c u) (fun u _=>by
   unfold d_impl_IsRival_1_1
   rw [i_may h c u hcl,ob_some]) hcl (by omega),ob_some,← all_may hcm,List.not_all_eq_any_not]) hl (by omega),ob_some,fndI_any _ cs 0 (by omega),ob_some]
 congr 1
 rw [List.not_any_eq_all_not]
 congr 1
 funext c
 simp
theorem s_rival {fu:Nat} {r:Request} (h:Sm fu r) (cs:List (List Int)) (hl:cs.length ≤ 1048576) (hm:∀ x ∈ cs,x.length ≤ 1048576) (hs:lensL cs ≤ 1048576):d_spec_IsRival fu r cs = some (rivB r cs):=by
 have hfu:=h.fu
 have hul:=untM_len r
 unfold d_spec_IsRival rivB
 rw [s_unt h,ob_some,s_places _ (by omega) (by omega),ob_some,s_pack h _ cs (by rw [ints_len]; omega) hl hs,ob_some]
 cases hp:packB r (ints 0 (untM r).length) cs
 · rfl
 rw [Bool.not_true,cond_false,Bool.true_and]
 have hpp:=h.pairs
 have eb:∀ (k:Int → Option Bool) (i a x:Int) (c:List Int),ix cs i = some c → ix c a = some x → d_spec_IsRival_L1 fu k r cs (untM r) i a fu 0 = bif (c.all fun y=>besB r.fPairs (clsZ r x) (clsZ r y)) then k (w64 (a + 1)) else some false:=by
  intro k i a x c hc hx
  have hcl:=hm c (ix_mem hc)
  refine lp c (fun n (_:Unit) b=>d_spec_IsRival_L1 fu k r cs (untM r) i a n b) (fun l _=>bif (l.all fun y=>besB r.fPairs (clsZ r x) (clsZ r y)) then k (w64 (a + 1)) else some false) (by omega) ?_ ?_ fu () (by omega)
  · intro n _ b y ys hy hd ih
    simp only [d_spec_IsRival_L1.eq_2]
    unfold d_spec_IsRival_L1_B d_spec_IsRival_J5 d_spec_IsRival_J4 d_spec_IsRival_J3
    rw [hc,ob_some,hd,cond_true,ob_some,hx,ob_some,s_item,ob_some]
    simp only [ob_some,hy,s_item]
    rw [s_bes hpp (by omega),ob_some,ih (),List.all_cons,show (itmZ r x).fClass = clsZ r x from rfl,show (itmZ r y).fClass = clsZ r y from rfl]
    cases besB r.fPairs (clsZ r x) (clsZ r y) <;> rfl
  · intro n _ b hd
    simp only [d_spec_IsRival_L1.eq_2]
    unfold d_spec_IsRival_L1_B d_spec_IsRival_J2
    rw [hc,ob_some,hd]; rfl
 have ea:∀ (k:Int → Option Bool) (i:Int) (c:List Int),ix cs i = some c → d_spec_IsRival_L2 fu k r cs (untM r) i fu 0 = bif allBes r c then k (w64 (i + 1)) else some false:=by
  intro k i c hc
  have hcl:=hm c (ix_mem hc)
  refine lp c (fun n (_:Unit) a=>d_spec_IsRival_L2 fu k r cs (untM r) i n a) (fun l _=>bif (l.all fun x=>c.all fun y=>besB r.fPairs (clsZ r x) (clsZ r y)) then k (w64 (i + 1)) else some false) (by omega) ?_ ?_ fu () (by omega)
  · intro n _ a x xs hx hd ih
    simp only [d_spec_IsRival_L2.eq_2]
    unfold d_spec_IsRival_L2_B
    rw [hc,ob_some,hd,cond_true,eb _ i a x c hc hx,ih (),List.all_cons]
    cases (c.all fun y=>besB r.fPairs (clsZ r x) (clsZ r y)) <;> rfl
  · intro n _ a hd
    simp only [d_spec_IsRival_L2.eq_2]
    unfold d_spec_IsRival_L2_B d_spec_IsRival_J1
    rw [hc,ob_some,hd]; rfl
 refine lp cs (fun n (_:Unit) i=>d_spec_IsRival_L3 fu r cs (untM r) n i) (fun l _=>some (l.all (allBes r))) (by omega) ?_ ?_ fu () (by omega)
 · intro n _ i c xs hc hd ih
   simp only [d_spec_IsRival_L3.eq_2]
   unfold d_spec_IsRival_L3_B
   rw [hd,cond_true,ea _ i c hc,ih (),List.all_cons]
   cases allBes r c <;> rfl
 · intro n _ i hd
   simp only [d_spec_IsRival_L3.eq_2]
   unfold d_spec_IsRival_L3_B
   rw [hd]; rfl
end Go.Proofs.YtkkfmjpbiimkbaaGreat
/- RivalBy of spec and of impl. -/
namespace Go.Proofs.YtkkfmjpbiimkbaaGreat
open Go
open Enc (rd ow)
open Arg (argv)
open Ret (retv)
open Wf (wf)
def optB (r:Request) (u:Int) (c:List Int):Bool:=witB r (c ++ [u]) (masM r) && mayB r c u
theorem ix_in {α:Type} {l:List α} {i:Int} (h0:0 ≤ i) (h1:i < l.length):∃ x,ix l i = some x:=by
 obtain ⟨j,rfl⟩:∃ j:Nat,i = j:=⟨i.toNat,by omega⟩
 exact ⟨_,ix_i (by omega)⟩
end Go.Proofs.YtkkfmjpbiimkbaaGreat
/- SortDown, by spec and by impl (short lists). -/
namespace Go.Proofs.YtkkfmjpbiimkbaaGreat
open Go
open Enc (rd ow)
open Arg (argv)
open Ret (retv)
open Wf (wf)
end Go.Proofs.YtkkfmjpbiimkbaaGreat
/- The two ways of packing, by spec and by impl. -/
namespace Go.Proofs.YtkkfmjpbiimkbaaGreat
open Go
open Enc (rd ow)
open Arg (argv)
open Ret (retv)
open Wf (wf)
theorem s_l6u {fu:Nat} {r:Request} (h:Sm fu r) (hc:clsM r = 0):d_spec_l6Units fu r = some (untM r):=by
 have:=s_unt h
 unfold d_spec_Units at this
 rw [s_cls h,ob_some,show (clsM r != 0) = false by simp [hc],cond_false] at this
 first | exact this | (obtain ⟨x,h1,h2⟩:=obind_some this; rw [h1]; exact h2)
end Go.Proofs.YtkkfmjpbiimkbaaGreat
/- Squeeze and Spare of spec and of impl. -/
namespace Go.Proofs.YtkkfmjpbiimkbaaGreat
open Go
open Enc (rd ow)
open Arg (argv)
open Ret (retv)
open Wf (wf)
def seek (g:Int → Bool):List Int → Option Int
 | []=>none
 | i :: is=>bif g i then some i else seek g is
theorem seek_app (g:Int → Bool):∀ (a b:List Int),seek g (a ++ b) = match seek g a with | some i=>some i | none=>seek g b
 | [],_=>rfl
 | i :: a,b=>by
  have:=seek_app g a b
  simp only [List.cons_append,seek]
  cases g i
  · simpa using this
  · rfl
theorem seek_down (g:Int → Bool):∀ (n:Nat) (a:Int),(down n).foldl (fun a j=>bif g j then j else a) a = (seek g (ints 0 n)).getD a
 | 0,_=>rfl
 | n + 1,a=>by
  rw [show down (n + 1) = (n:Int) :: down n from rfl,List.foldl_cons,seek_down g n,ints_snoc,seek_app]
  cases seek g (ints 0 n) with
  | some i=>rfl
  | none =>
   simp only [seek,Int.zero_add]
   cases g n <;> rfl
theorem seek_some {g:Int → Bool}:∀ {l:List Int} {i:Int},seek g l = some i → i ∈ l ∧ g i = true
 | [],_,h=>by simp [seek] at h
 | j :: l,i,h=>by
  unfold seek at h
  cases hj:g j
  · rw [hj,cond_false] at h
    have:=seek_some h
    exact ⟨by simp [this.1],this.2⟩
  · rw [hj,cond_true] at h
    cases h
    exact ⟨by simp,hj⟩
def mvB (r:Request) (k:Int) (u:Int) (out:List (List Int)) (j:Int):Bool:=(j != k) && optB r u ((ix out j).getD [])
def empM (r:Request) (k:Int):List Int → List (List Int) → Option (List (List Int))
 | [],out=>some (out.take k.toNat ++ out.drop (k.toNat + 1))
 | u :: us,out=>match seek (mvB r k u out) (ints 0 out.length) with
  | some j=>empM r k us (setx out j ((ix out j).getD [] ++ [u]))
  | none=>none
def witM (r:Request) (cs:List (List Int)) (k:Int):List (List Int):=(empM r k ((ix cs k).getD []) cs).getD cs
def sqzM (r:Request) (cs:List (List Int)):List (List Int):=bif rivB r cs then (down cs.length).foldl (witM r) cs else []
def inU (r:Request) (cs:List (List Int)):Prop:=∀ c ∈ cs,∀ y ∈ c,0 ≤ y ∧ y < (untM r).length
theorem len_le_flat {c:List Int} {cs:List (List Int)} (h:c ∈ cs):c.length ≤ cs.flatten.length:=by
 induction cs with
 | nil=>simp at h
 | cons x xs ih =>
  rw [List.flatten_cons,List.length_append]
  rcases List.mem_cons.1 h with e | h
  · subst e; omega
  · have:=ih h; omega
theorem setx_flat {out:List (List Int)} {j u:Int} {c:List Int} (h:ix out j = some c):(setx out j (c ++ [u])).flatten.Perm (out.flatten ++ [u]):=by
 obtain ⟨h0,h1,h2⟩:=ix_some h
 exact set_flat h2
theorem cut_flat {out:List (List Int)} {k:Int} {c:List Int} (h:ix out k = some c):out.flatten.Perm ((out.take k.toNat ++ out.drop (k.toNat + 1)).flatten ++ c):=by
 obtain ⟨h0,h1,h2⟩:=ix_some h
 have hk:=(List.getElem?_eq_some_iff.1 h2).1
 have hx:=(List.getElem?_eq_some_iff.1 h2).2
 have e:out = out.take k.toNat ++ c :: out.drop (k.toNat + 1):=by
  rw [← hx,← List.drop_eq_getElem_cons hk,List.take_append_drop]
 have e2:out.flatten = (out.take k.toNat).flatten ++ (c ++ (out.drop (k.toNat + 1)).flatten):=by
  conv=>lhs; rw [e]
  simp
 rw [e2,List.flatten_append,List.append_assoc]
 exact List.Perm.append_left _ List.perm_append_comm
structure Ez (r:Request) (k:Int) (c0:List Int) (T:List Int) (us:List Int) (out:List (List Int)):Prop where
 src:ix out k = some c0
 all:(out.flatten ++ us).Perm (T ++ c0)
 inn:inU r out
 inu:∀ u ∈ us,0 ≤ u ∧ u < (untM r).length
 len:out.length ≤ 12
 tot:(T ++ c0).length ≤ 24
theorem Ez.lens {r:Request} {k:Int} {c0 T us:List Int} {out:List (List Int)} (h:Ez r k c0 T us out):out.flatten.length + us.length ≤ 24:=by
 have h1:=h.all.length_eq
 have h2:=h.tot
 simp only [List.length_append] at h1 h2
 omega
theorem Ez.step {r:Request} {k:Int} {c0 T us:List Int} {out:List (List Int)} {u j:Int} {c:List Int} (h:Ez r k c0 T (u :: us) out) (hj:ix out j = some c) (hjk:j ≠ k):Ez r k c0 T us (setx out j (c ++ [u])):=by
 obtain ⟨j0,j1,j2⟩:=ix_some hj
 obtain ⟨k0,k1,k2⟩:=ix_some h.src
 refine ⟨?_,?_,?_,fun v hv=>h.inu v (by simp [hv]),by unfold setx; simp; exact h.len,h.tot⟩
 · unfold ix setx
   rw [if_pos k0,List.getElem?_set,if_neg (by omega)]
   exact k2
 · refine ((setx_flat (u:=u) hj).append_right us).trans ?_
   simpa using h.all
 · intro d hd y hy
   unfold setx at hd
   rcases List.mem_or_eq_of_mem_set hd with hd | rfl
   · exact h.inn d hd y hy
   · rcases List.mem_append.1 hy with hy | hy
     · exact h.inn c (ix_mem hj) y hy
     · rw [List.mem_singleton.1 hy]; exact h.inu u (by simp)
theorem mv_some {r:Request} {k u j:Int} {out:List (List Int)} (h:seek (mvB r k u out) (ints 0 out.length) = some j):∃ c,ix out j = some c ∧ j ≠ k ∧ optB r u c = true ∧ (ix out j).getD [] = c:=by
 obtain ⟨h1,h2⟩:=seek_some h
 have hm:=ints_mem.1 h1
 obtain ⟨c,hc⟩:=ix_in (l:=out) (i:=j) (by omega) (by omega)
 unfold mvB at h2
 rw [hc,Option.getD_some,Bool.and_eq_true] at h2
 exact ⟨c,hc,by simpa using h2.1,h2.2,by rw [hc]; rfl⟩
theorem emp_perm {r:Request} {k:Int} {c0 T:List Int}:∀ {us:List Int} {out o:List (List Int)},Ez r k c0 T us out → empM r k us out = some o → o.flatten.Perm T ∧ o.length + 1 = out.length ∧ inU r o
 | [],out,o,h,he=>by
  simp only [empM,Option.some.injEq] at he
  subst he
  have h1:=cut_flat h.src
  have h2:=h.all
  rw [List.append_nil] at h2
  obtain ⟨k0,k1,k2⟩:=ix_some h.src
  have hk:=(List.getElem?_eq_some_iff.1 k2).1
  refine ⟨(List.perm_append_right_iff c0).1 (h1.symm.trans h2),by simp; omega,fun c hc=>?_⟩
  rcases List.mem_append.1 hc with hc | hc
  · exact h.inn c (List.mem_of_mem_take hc)
  · exact h.inn c (List.mem_of_mem_drop hc)
 | u :: us,out,o,h,he=>by
  unfold empM at he
  cases hs:seek (mvB r k u out) (ints 0 out.length) with
  | none=>rw [hs] at he; cases he
  | some j =>
   rw [hs] at he
   obtain ⟨c,hc,hjk,_,hd⟩:=mv_some hs
   simp only [hd] at he
   have:=emp_perm (h.step hc hjk) he
   refine ⟨this.1,?_,this.2.2⟩
   rw [this.2.1]; simp [setx]
structure Rz (r:Request) (cs:List (List Int)):Prop where
 len:cs.length ≤ 12
 tot:cs.flatten.length ≤ 12
 inn:inU r cs
theorem Rz.ez {r:Request} {cs:List (List Int)} (h:Rz r cs) {k:Int} {c:List Int} (hk:ix cs k = some c):Ez r k c cs.flatten c cs :=
 ⟨hk,List.Perm.refl _,h.inn,h.inn c (ix_mem hk),h.len,by have:=len_le_flat (ix_mem hk); have:=h.tot; rw [List.length_append]; omega⟩
theorem Rz.wit {r:Request} {cs:List (List Int)} (h:Rz r cs) {k:Int} {c:List Int} (hk:ix cs k = some c):Rz r (witM r cs k) ∧ cs.length ≤ (witM r cs k).length + 1 ∧ (witM r cs k).flatten.Perm cs.flatten ∧ (witM r cs k).length ≤ cs.length:=by
 unfold witM
 rw [hk,Option.getD_some]
 cases he:empM r k c cs with
 | none=>exact ⟨h,by simp,List.Perm.refl _,Nat.le_refl _⟩
 | some o =>
  obtain ⟨h1,h2,h3⟩:=emp_perm (h.ez hk) he
  simp only [Option.getD_some]
  exact ⟨⟨by have:=h.len; omega,by rw [h1.length_eq]; exact h.tot,h3⟩,by omega,h1,by omega⟩
theorem riv_rz {r:Request} {cs:List (List Int)} (h:rivB r cs = true):Rz r cs ∧ (untM r ≠ [] ∨ cs = []) ∧ clsM r = 0:=by
 unfold rivB at h
 simp only [Bool.and_eq_true] at h
 have hp:=h.1
 have hm:=pack_mem hp
 unfold packB at hp
 simp only [Bool.and_eq_true] at hp
 have hper:=perB_iff.1 hp.2.2
 have hn:∀ c ∈ cs,c ≠ []:=by
  intro c hc e
  have:=List.all_eq_true.1 hp.2.1 c hc
  unfold okC at this
  subst e
  simp at this
 have hl:cs.flatten.length ≤ 12:=by
  rw [hper.length_eq]
  have:=thrM_len r (ints 0 (untM r).length)
  have:=untM_len r
  rw [ints_len] at *
  omega
 have hcl:∀ (l:List (List Int)),(∀ c ∈ l,c ≠ []) → l.length ≤ l.flatten.length:=by
  intro l
  induction l with
  | nil=>simp
  | cons x xs ih =>
   intro hx
   have h1:=ih fun c hc=>hx c (by simp [hc])
   have h2:=List.length_pos_iff.2 (hx x (by simp))
   simp only [List.length_cons,List.flatten_cons,List.length_append]; omega
 have hc12:=hcl cs hn
 refine ⟨⟨by omega,hl,hm⟩,?_,by simpa using hp.1⟩
 cases cs with
 | nil=>exact .inr rfl
 | cons c cs =>
  obtain ⟨y,hy⟩:=List.exists_mem_of_ne_nil _ (hn c (by simp))
  have:=hm c (by simp) y hy
  refine .inl fun e=>?_
  rw [e] at this
  simp at this; omega
theorem i_clone (fu:Nat) (l:List Int) (h:l.length ≤ 1048576):d_slices_Clone_int_int fu l = some l:=by
 unfold d_slices_Clone_int_int
 rw [ap1 (by simp; omega),ob_some,List.nil_append]
theorem i_clones {fu:Nat} {l:List (List Int)} (hl:l.length ≤ 1048576) (hm:∀ x ∈ l,x.length ≤ 1048576) (hf:1048577 ≤ fu):d_impl_cloneLists fu l = some l:=by
 unfold d_impl_cloneLists
 have:=lpI l (fun n o i=>d_impl_cloneLists_L1 fu l n o i) (fun xs o=>some (o ++ xs)) (fun xs o=>o.length + xs.length ≤ 1048576 ∧ ∀ x ∈ xs,x.length ≤ 1048576) (by omega) ?_ ?_ fu [] ⟨by simpa using hl,hm⟩ (by omega)
 · simpa using this
 · intro n o i x xs hx hd hI ih
   obtain ⟨h1,h2⟩:=hI
   simp only [List.length_cons] at h1
   simp only [d_impl_cloneLists_L1.eq_2]
   unfold d_impl_cloneLists_L1_B
   rw [hd,cond_true,hx,ob_some,i_clone fu x (h2 x (by simp)),ob_some,ap1 (by simp; omega),ob_some,ih _ ⟨by simp; omega,fun y hy=>h2 y (by simp [hy])⟩]
   simp
 · intro n o i hd _
   simp only [d_impl_cloneLists_L1.eq_2]
   unfold d_impl_cloneLists_L1_B
   rw [hd,cond_false]; simp
theorem s_clones {fu:Nat} {l:List (List Int)} (hl:l.length ≤ 1048576) (hm:∀ x ∈ l,x.length ≤ 1048576) (hf:1048577 ≤ fu):d_spec_l20Copy fu l = some l:=by
 unfold d_spec_l20Copy
 have:=lpI l (fun n o i=>d_spec_l20Copy_L1 fu l n o i) (fun xs o=>some (o ++ xs)) (fun xs o=>o.length + xs.length ≤ 1048576 ∧ ∀ x ∈ xs,x.length ≤ 1048576) (by omega) ?_ ?_ fu [] ⟨by simpa using hl,hm⟩ (by omega)
 · simpa using this
 · intro n o i x xs hx hd hI ih
   obtain ⟨h1,h2⟩:=hI
   simp only [List.length_cons] at h1
   have:=h2 x (by simp)
   simp only [d_spec_l20Copy_L1.eq_2]
   unfold d_spec_l20Copy_L1_B
   rw [hd,cond_true,hx,ob_some,ap1 (by simp; omega),ob_some,ap1 (by simp; omega),ob_some,ih _ ⟨by simp; omega,fun y hy=>h2 y (by simp [hy])⟩]
   simp
 · intro n o i hd _
   simp only [d_spec_l20Copy_L1.eq_2]
   unfold d_spec_l20Copy_L1_B
   rw [hd,cond_false]; simp
def witR (r:Request) (cs:List (List Int)) (k:Int):List (List Int) × Bool:=match empM r k ((ix cs k).getD []) cs with
 | some o=>(o,true)
 | none=>(cs,false)
theorem witR_1 (r:Request) (cs:List (List Int)) (k:Int):(witR r cs k).1 = witM r cs k:=by
 unfold witR witM
 cases empM r k ((ix cs k).getD []) cs <;> rfl
theorem i_without {fu:Nat} {r:Request} (h:Sm fu r) (hcz:clsM r = 0) {cs:List (List Int)} (hz:Rz r cs) {k:Int} {c0:List Int} (hk:ix cs k = some c0):d_impl_without fu r cs k = some (witR r cs k):=by
 have hfu:=h.fu
 have hlen:=hz.len
 have htot:=hz.tot
 have hcs:∀ x ∈ cs,x.length ≤ 12:=fun x hx=>by have:=len_le_flat hx; omega
 have hc0:=hcs c0 (ix_mem hk)
 have hb:(clsM r == 0) = true:=by simp [hcz]
 obtain ⟨k0,k1,k2⟩:=ix_some hk
 unfold d_impl_without witR
 rw [i_clones (by omega) (fun x hx=>by have:=hcs x hx; omega) (by omega),ob_some,hk,ob_some,Option.getD_some]
 have main:=lpI c0 (fun n o i=>d_impl_without_L2 fu r cs k c0 n o i) (fun us o=>some (match empM r k us o with | some o=>(o,true) | none=>(cs,false))) (fun us o=>Ez r k c0 cs.flatten us o) (by omega) ?_ ?_ fu cs (hz.ez hk) (by omega)
 · exact main
 · intro n o i u us hx hd hI ih
   have hol:=hI.len
   have hot:=hI.lens
   have hom:∀ x ∈ o,x.length ≤ 24:=fun x hx=>by have:=len_le_flat hx; omega
   simp only [d_impl_without_L2.eq_2]
   unfold d_impl_without_L2_B
   rw [hd,cond_true,hx,ob_some]
   have J2:∀ j:Int,(j < 0 → seek (mvB r k u o) (ints 0 o.length) = none) → (0 ≤ j → seek (mvB r k u o) (ints 0 o.length) = some j) → d_impl_without_J2 fu (d_impl_without_L2 fu r cs k c0 n) cs o i u j = some (match empM r k (u :: us) o with | some o=>(o,true) | none=>(cs,false)):=by
    intro j hn hj
    unfold d_impl_without_J2 d_impl_without_J1
    by_cases h0:j < 0
    · rw [bif_true (by simpa using h0)]
      simp only [empM,hn h0]
    · have hs:=hj (by omega)
      obtain ⟨c,hc,hjk,_,hgd⟩:=mv_some hs
      have:=hom c (ix_mem hc)
      rw [bif_false (by simpa using h0),hc,ob_some,ap1 (by simp; omega),ob_some,ob_some,ih _ (hI.step hc hjk)]
      simp only [empM,hs,hgd]
   have L1:=lpN (o.length:Int) (fun m (_:Unit) q=>d_impl_without_L1 fu (d_impl_without_L2 fu r cs k c0 n) r cs k o i u m q) (fun qs _=>match seek (mvB r k u o) qs with
    | some j=>d_impl_without_J2 fu (d_impl_without_L2 fu r cs k c0 n) cs o i u j
    | none=>d_impl_without_J2 fu (d_impl_without_L2 fu r cs k c0 n) cs o i u (-1)) (by omega) ?_ ?_ o.length fu () 0 (by omega) (by omega) (by omega)
   · refine L1.trans ?_
     cases hs:seek (mvB r k u o) (ints 0 o.length) with
     | none=>exact J2 (-1) (fun _=>hs) (fun h=>by omega)
     | some j =>
      have:=ints_mem.1 (seek_some hs).1
      exact J2 j (fun h=>by omega) (fun _=>hs)
   · intro m s q qs q0 q1 hqd ih1
     obtain ⟨c,hc⟩:=ix_in (l:=o) (i:=q) q0 q1
     have hcl:=hom c (ix_mem hc)
     simp only [d_impl_without_L1.eq_2]
     unfold d_impl_without_L1_B d_impl_without_J3
     rw [hqd,cond_true,hc,ob_some,i_room1 h c u (by omega),ob_some,i_may h c u (by omega),ob_some,hb,Bool.true_and,ih1 ()]
     simp only [seek,mvB,hc,Option.getD_some,optB]
     cases q != k <;> cases witB r (c ++ [u]) (masM r) <;> cases mayB r c u <;> rfl
   · intro m s q hqd
     simp only [d_impl_without_L1.eq_2]
     unfold d_impl_without_L1_B
     rw [hqd,cond_false]; rfl
 · intro n o i hd hI
   obtain ⟨e0,e1,e2⟩:=ix_some hI.src
   have hlt:=(List.getElem?_eq_some_iff.1 e2).1
   have hol:=hI.len
   simp only [d_impl_without_L2.eq_2]
   unfold d_impl_without_L2_B d_slices_Delete_ints_int delI
   rw [hd,cond_false,w64_id (by omega) (by omega),if_pos ⟨by omega,by omega,by omega,by omega⟩,ob_some]
   simp only [empM]
   rw [show (k + 1).toNat = k.toNat + 1 by omega]
theorem s_empty {fu:Nat} {r:Request} (h:Sm fu r) {cs:List (List Int)} (hz:Rz r cs) {k:Int} {c0:List Int} (hk:ix cs k = some c0):d_spec_l20Empty fu r (untM r) (masM r) cs k = some (witR r cs k):=by
 have hfu:=h.fu
 have hlen:=hz.len
 have htot:=hz.tot
 have hcs:∀ x ∈ cs,x.length ≤ 12:=fun x hx=>by have:=len_le_flat hx; omega
 have hc0:=hcs c0 (ix_mem hk)
 obtain ⟨k0,k1,k2⟩:=ix_some hk
 unfold d_spec_l20Empty witR
 rw [s_clones (by omega) (fun x hx=>by have:=hcs x hx; omega) (by omega),ob_some,hk,Option.getD_some]
 have main:=lpI c0 (fun n o i=>d_spec_l20Empty_L2 fu r (untM r) (masM r) cs k n o i) (fun us o=>some (match empM r k us o with | some o=>(o,true) | none=>(cs,false))) (fun us o=>Ez r k c0 cs.flatten us o) (by omega) ?_ ?_ fu cs (hz.ez hk) (by omega)
 · exact main
 · intro n o i u us hx hd hI ih
   have hol:=hI.len
   have hot:=hI.lens
   have hom:∀ x ∈ o,x.length ≤ 24:=fun x hx=>by have:=len_le_flat hx; omega
   simp only [d_spec_l20Empty_L2.eq_2]
   unfold d_spec_l20Empty_L2_B
   rw [hk,ob_some,hd,cond_true,ob_some,hx,ob_some]
   have L1:=lpD o.length (fun m (a:Int) q=>d_spec_l20Empty_L1 fu (d_spec_l20Empty_L2 fu r (untM r) (masM r) cs k n) r (untM r) (masM r) cs k o i u m a q) (fun qs a=>(fun at_:Int=>bif decide (at_ < 0) then some (cs,false) else obind (ix o at_) fun x625=>obind (apnd 8 x625 (([u]:List Int))) fun x639=>obind (ix o at_) fun x649=>d_spec_l20Empty_L2 fu r (untM r) (masM r) cs k n (setx o at_ x639) (w64 (i + 1))) (qs.foldl (fun a j=>bif mvB r k u o j then j else a) a)) (by omega) ?_ ?_ fu (-1) (by omega)
   · rw [L1,seek_down]
     cases hs:seek (mvB r k u o) (ints 0 o.length) with
     | none =>
      simp only [Option.getD_none]
      rw [bif_true (by simp)]
      simp only [empM,hs]
     | some j =>
      have hj:=ints_mem.1 (seek_some hs).1
      obtain ⟨c,hc,hjk,_,hgd⟩:=mv_some hs
      have:=hom c (ix_mem hc)
      simp only [Option.getD_some]
      rw [bif_false (by simp; omega),hc,ob_some,ap1 (by simp; omega),ob_some,ob_some,ih _ (hI.step hc hjk)]
      simp only [empM,hs,hgd]
   · intro m a q qs q0 q1 hqd ih1
     obtain ⟨c,hc⟩:=ix_in (l:=o) (i:=q) q0 q1
     have hcl:=hom c (ix_mem hc)
     simp only [d_spec_l20Empty_L1.eq_2]
     unfold d_spec_l20Empty_L1_B d_spec_l20Empty_J1
     rw [hqd,cond_true,hc,ob_some,s_l7Room r _ c u (by omega) (by omega),ob_some,ob_some,s_may h c u (by omega) (hI.inu u (by simp)) (hI.inn c (ix_mem hc)),ob_some,ih1,ih1]
     simp only [List.foldl_cons,mvB,hc,Option.getD_some,optB]
     cases q != k <;> cases witB r (c ++ [u]) (masM r) <;> cases mayB r c u <;> rfl
   · intro m a q hqd
     simp only [d_spec_l20Empty_L1.eq_2]
     unfold d_spec_l20Empty_L1_B
     rw [hqd,cond_false]; rfl
 · intro n o i hd hI
   obtain ⟨e0,e1,e2⟩:=ix_some hI.src
   have hlt:=(List.getElem?_eq_some_iff.1 e2).1
   have hol:=hI.len
   simp only [d_spec_l20Empty_L2.eq_2]
   unfold d_spec_l20Empty_L2_B
   rw [hk,ob_some,hd,cond_false,sls_some (by omega),ob_some,w64_id (by omega) (by omega),sls_some (by omega),ob_some,ap1 (by simp; omega),ob_some,ap1 (by simp; omega),ob_some]
   simp only [empM]
   rw [show (k + 1).toNat = k.toNat + 1 by omega]
   simp only [Int.toNat_zero,List.drop_zero,Nat.sub_zero,List.nil_append,Int.toNat_natCast]
   rw [List.take_of_length_le (l:=List.drop _ _) (by simp)]
theorem sq_keep {r:Request}:∀ (n:Nat) {cs:List (List Int)},Rz r cs → n ≤ cs.length → Rz r ((down n).foldl (witM r) cs) ∧ ((down n).foldl (witM r) cs).flatten.Perm cs.flatten ∧ ((down n).foldl (witM r) cs).length ≤ cs.length
 | 0,cs,h,_=>⟨h,List.Perm.refl _,Nat.le_refl _⟩
 | n + 1,cs,h,hn=>by
  obtain ⟨c,hc⟩:=ix_in (l:=cs) (i:=n) (by omega) (by omega)
  obtain ⟨h1,h2,h3,h4⟩:=h.wit hc
  have ih:=sq_keep n h1 (by omega)
  rw [show down (n + 1) = (n:Int) :: down n from rfl,List.foldl_cons]
  exact ⟨ih.1,ih.2.1.trans h3,Nat.le_trans ih.2.2 h4⟩
theorem i_sqz {fu:Nat} {r:Request} (h:Sm fu r) (cs:List (List Int)) (hl:cs.length ≤ 1048576) (hm:∀ x ∈ cs,x.length ≤ 1048576) (hs:lensL cs ≤ 1048576):d_impl_Squeeze fu r cs = some (sqzM r cs):=by
 have hfu:=h.fu
 unfold d_impl_Squeeze sqzM
 rw [i_rival h cs hl hm hs,ob_some]
 cases hr:rivB r cs
 · rfl
 · obtain ⟨hz,_,hcz⟩:=riv_rz hr
   have hlen:=hz.len
   rw [Bool.not_true,cond_false,cond_true,i_clones hl hm (by omega),ob_some]
   have key:∀ (m n:Nat) (o:List (List Int)),Rz r o → m ≤ o.length → m < n → d_impl_Squeeze_L1 fu r n o ((m:Int) - 1) = some ((down m).foldl (witM r) o):=by
    intro m
    induction m with
    | zero =>
     intro n o _ _ hn
     obtain ⟨n,rfl⟩:∃ j,n = j + 1:=⟨n - 1,by omega⟩
     rw [d_impl_Squeeze_L1.eq_2]
     unfold d_impl_Squeeze_L1_B
     rw [bif_false (by simp)]; rfl
    | succ m ih =>
     intro n o ho hm hn
     obtain ⟨n,rfl⟩:∃ j,n = j + 1:=⟨n - 1,by omega⟩
     obtain ⟨c,hc⟩:=ix_in (l:=o) (i:=m) (by omega) (by omega)
     obtain ⟨h1,h2,h3,h4⟩:=ho.wit hc
     have hol:=ho.len
     rw [d_impl_Squeeze_L1.eq_2]
     unfold d_impl_Squeeze_L1_B
     rw [show ((m + 1:Nat):Int) - 1 = (m:Int) by omega,bif_true (by simp),i_without h hcz ho hc,ob_some,w64_id (by omega) (by omega),witR_1]
     exact ih n _ h1 (by omega) (by omega)
   rw [w64_id (by omega) (by omega)]
   exact key cs.length fu cs hz (Nat.le_refl _) (by omega)
theorem s_sqz {fu:Nat} {r:Request} (h:Sm fu r) (cs:List (List Int)) (hl:cs.length ≤ 1048576) (hm:∀ x ∈ cs,x.length ≤ 1048576) (hs:lensL cs ≤ 1048576):d_spec_Squeeze fu r cs = some (sqzM r cs):=by
 have hfu:=h.fu
 unfold d_spec_Squeeze sqzM
 rw [s_rival h cs hl hm hs,ob_some]
 cases hr:rivB r cs
 · rfl
 · obtain ⟨hz,_,hcz⟩:=riv_rz hr
   have hlen:=hz.len
   rw [Bool.not_true,cond_false,cond_true,s_mas h,ob_some,s_l6u h hcz,ob_some,s_clones hl hm (by omega),ob_some]
   have key:∀ (m n:Nat) (o:List (List Int)),Rz r o → m ≤ o.length → m < n → d_spec_Squeeze_L1 fu r (othM (typM r r.fMaster)) (untM r) n o ((m:Int) - 1) = some ((down m).foldl (witM r) o):=by
    intro m
    induction m with
    | zero =>
     intro n o _ _ hn
     obtain ⟨n,rfl⟩:∃ j,n = j + 1:=⟨n - 1,by omega⟩
     rw [d_spec_Squeeze_L1.eq_2]
     unfold d_spec_Squeeze_L1_B
     rw [bif_false (by simp)]; rfl
    | succ m ih =>
     intro n o ho hm hn
     obtain ⟨n,rfl⟩:∃ j,n = j + 1:=⟨n - 1,by omega⟩
     obtain ⟨c,hc⟩:=ix_in (l:=o) (i:=m) (by omega) (by omega)
     obtain ⟨h1,h2,h3,h4⟩:=ho.wit hc
     have hol:=ho.len
     rw [d_spec_Squeeze_L1.eq_2]
     unfold d_spec_Squeeze_L1_B d_spec_Squeeze_J1
     have ih':=ih n (witM r o m) h1 (by omega) (by omega)
     rw [show ((m + 1:Nat):Int) - 1 = (m:Int) by omega,bif_true (by simp),show (othM (typM r r.fMaster)).1 = masM r from rfl,s_empty h ho hc,ob_some,w64_id (by omega) (by omega)]
     rw [show down (m + 1) = (m:Int) :: down m from rfl,List.foldl_cons,← ih',← witR_1]
     unfold witR
     cases empM r m ((ix o (m:Int)).getD []) o <;> rfl
   rw [w64_id (by omega) (by omega)]
   exact key cs.length fu cs hz (Nat.le_refl _) (by omega)
theorem sqz_ok (r:Request) (cs:List (List Int)):(sqzM r cs).length ≤ 12 ∧ ∀ l ∈ sqzM r cs,l.length ≤ 12:=by
 unfold sqzM
 cases hr:rivB r cs
 · simp
 · obtain ⟨hz,_,_⟩:=riv_rz hr
   obtain ⟨h1,h2,h3⟩:=sq_keep cs.length hz (Nat.le_refl _)
   have hl:=hz.len
   exact ⟨by simp only [cond_true]; omega,fun l hl=>by simp only [cond_true] at hl; have:=len_le_flat hl; have:=h1.tot; omega⟩
def spaM (r:Request) (cs:List (List Int)):Int:=bif rivB r cs then (cs.length:Int) - ((sqzM r cs).length:Int) else 0
end Go.Proofs.YtkkfmjpbiimkbaaGreat
/- What is marked: orders, lists of numbers, lists of lists. -/
namespace Go.Proofs.YtkkfmjpbiimkbaaGreat
open Go
open Enc (rd ow)
open Arg (argv)
open Ret (retv)
open Wf (wf)
end Go.Proofs.YtkkfmjpbiimkbaaGreat
/- What is marked: lists of numbers. -/
namespace Go.Proofs.YtkkfmjpbiimkbaaGreat
open Go
open Enc (rd ow)
open Arg (argv)
open Ret (retv)
open Wf (wf)
end Go.Proofs.YtkkfmjpbiimkbaaGreat
/- What is held: lists of numbers. -/
namespace Go.Proofs.YtkkfmjpbiimkbaaGreat
open Go
open Enc (rd ow)
open Arg (argv)
open Ret (retv)
open Wf (wf)
end Go.Proofs.YtkkfmjpbiimkbaaGreat
/- Lists of lists of numbers in the laws: equality. -/
namespace Go.Proofs.YtkkfmjpbiimkbaaGreat
open Go
open Enc (rd ow)
open Arg (argv)
open Ret (retv)
open Wf (wf)
theorem eqIntSS (fu:Nat) (l:List (List Int)) (h:l.length ≤ 1048576) (hm:∀ x ∈ l,x.length ≤ 1048576) (hf:1048577 ≤ fu):d_laws_eqIntSS fu l l = some true:=by
 unfold d_laws_eqIntSS
 rw [bif_false (by simp)]
 refine eqS_loop l (fun n i=>d_laws_eqIntSS_L1 fu l l n i) h ?_ ?_ fu (by omega)
 · intro n i x hx hd
   have:=hm x (List.mem_of_getElem? (ix_some hx).2.2)
   simp only [d_laws_eqIntSS_L1.eq_2]
   unfold d_laws_eqIntSS_L1_B
   simp [hd,hx,eqIntS fu x this (by omega)]
 · intro n i hd
   simp only [d_laws_eqIntSS_L1.eq_2]
   unfold d_laws_eqIntSS_L1_B
   simp only [hd,cond_false]
end Go.Proofs.YtkkfmjpbiimkbaaGreat
/- Lists of lists of numbers in the laws: what is marked and held. -/
namespace Go.Proofs.YtkkfmjpbiimkbaaGreat
open Go
open Enc (rd ow)
open Arg (argv)
open Ret (retv)
open Wf (wf)
def lens:List (List Int) → Nat
 | []=>0
 | x :: xs=>x.length + lens xs
end Go.Proofs.YtkkfmjpbiimkbaaGreat
