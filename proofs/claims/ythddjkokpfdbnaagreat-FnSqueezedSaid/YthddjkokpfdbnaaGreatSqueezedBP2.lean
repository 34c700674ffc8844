import Derived.Test.YthddjkokpfdbnaaGreatSqueezedBP1
set_option linter.unusedSimpArgs false
set_option linter.unusedVariables false
/- slices.DeleteFunc at numbers, places. -/
namespace Go.Proofs.YthddjkokpfdbnaaGreat
open Go
open Enc (rd ow)
open Arg (argv)
open Ret (retv)
open Wf (wf)
theorem i_places {fu:Nat} (n:Nat) (hn:n ≤ 1048576) (hf:n < fu):d_impl_places fu (n:Int) = some (ints 0 n):=by
 unfold d_impl_places
 have:=lpNI (n:Int) (fun k out i=>d_impl_places_L1 fu (n:Int) k out i) (fun xs out=>some (out ++ xs)) (fun xs out=>out.length + xs.length ≤ 1048576) (by omega) ?_ ?_ n fu [] 0 (by omega) (by omega) hf (by simpa [ints_len] using hn)
 · simpa using this
 · intro k out i xs h0 h1 hd hI ih
   simp only [List.length_cons] at hI
   simp only [d_impl_places_L1.eq_2]
   unfold d_impl_places_L1_B
   rw [hd,cond_true,ap1 (by simp; omega),ob_some,ih _ (by simp; omega)]
   simp
 · intro k out i hd hI
   simp only [d_impl_places_L1.eq_2]
   unfold d_impl_places_L1_B
   simp only [hd,cond_false]
   simp
theorem fnd_pre {α:Type} (g:α → Bool):∀ (l pre:List α),(fndI g l pre.length = -1 ∧ ∀ x ∈ l,g x = false) ∨ (∃ a x b,l = a ++ x :: b ∧ (∀ y ∈ a,g y = false) ∧ g x = true ∧ fndI g l pre.length = ((pre.length + a.length:Nat):Int))
 | [],pre=>.inl ⟨rfl,by simp⟩
 | x :: xs,pre=>by
  simp only [fndI]
  by_cases hx:g x = true
  · rw [hx,cond_true]; exact .inr ⟨[],x,xs,rfl,by simp,hx,by simp⟩
  · have hx':g x = false:=by simpa using hx
    rw [hx',cond_false]
    have:=fnd_pre g xs (pre ++ [x])
    simp only [List.length_append,List.length_singleton] at this
    rw [show ((pre.length + 1:Nat):Int) = (pre.length:Int) + 1 by omega] at this
    rcases this with ⟨h1,h2⟩ | ⟨a,y,b,h1,h2,h3,h4⟩
    · exact .inl ⟨h1,by simpa [hx'] using h2⟩
    · exact .inr ⟨x :: a,y,b,by simp [h1],by simpa [hx'] using h2,h3,by rw [h4]; simp; omega⟩
theorem i_del {fu:Nat} {l:List Int} (f:Int → Option Bool) (g:Int → Bool) (hg:∀ x ∈ l,f x = some (g x)) (hl:l.length ≤ 1048576) (hf:l.length < fu):d_slices_DeleteFunc_int_int fu l f = some (l.filter fun x=>!g x):=by
 unfold d_slices_DeleteFunc_int_int
 rw [i_idxInt f g hg hl hf,ob_some]
 have hp:=fnd_pre g l []
 simp only [List.length_nil,Nat.zero_add] at hp
 rcases hp with ⟨h1,h2⟩ | ⟨a,x,b,h1,h2,h3,h4⟩
 · have h1':fndI g l 0 = -1:=h1
   rw [h1',bif_true (by simp)]
   congr 1
   exact (List.filter_eq_self.2 fun y hy=>by simp [h2 y hy]).symm
 · have h4':fndI g l 0 = (a.length:Int):=h4
   rw [h4',bif_false (by simp)]
   have key:∀ (rest kept mid pre:List Int) (n:Nat),l = pre ++ rest → kept = pre.filter (fun x=>!g x) → mid ≠ [] → kept.length + mid.length = pre.length → rest.length < n →
       d_slices_DeleteFunc_int_int_L1 fu f n (kept ++ mid ++ rest) (kept.length:Int) (pre.length:Int) = some (l.filter fun x=>!g x):=by
    intro rest
    induction rest with
    | nil =>
     intro kept mid pre n e1 e2 e3 e4 hn
     obtain ⟨n,rfl⟩:∃ j,n = j + 1:=⟨n - 1,by omega⟩
     rw [d_slices_DeleteFunc_int_int_L1.eq_2]
     unfold d_slices_DeleteFunc_int_int_L1_B
     simp only [List.append_nil] at *
     subst e1
     rw [bif_false (by simp; omega),sls_some ⟨by omega,by simp; omega,by omega⟩,ob_some,sls_some ⟨by omega,by omega,by simp [clrd]; omega⟩,ob_some]
     rw [← e2]
     simp [clrd]
    | cons y rest ih =>
     intro kept mid pre n e1 e2 e3 e4 hn
     obtain ⟨n,rfl⟩:∃ j,n = j + 1:=⟨n - 1,by simp at hn; omega⟩
     have hlen:l.length = pre.length + (rest.length + 1):=by rw [e1]; simp
     have hyl:y ∈ l:=by rw [e1]; simp
     obtain ⟨m,ms,rfl⟩:∃ m ms,mid = m :: ms:=by
      cases mid with
      | nil=>exact absurd rfl e3
      | cons m ms=>exact ⟨m,ms,rfl⟩
     simp only [List.length_cons] at e4 hn
     have hx:ix (kept ++ (m :: ms) ++ y :: rest) (pre.length:Int) = some y:=by
      rw [ix_nat,List.getElem?_append_right (by simp; omega)]
      simp only [List.length_append,List.length_cons]
      rw [show pre.length - (kept.length + (ms.length + 1)) = 0 by omega]; rfl
     have hk:ix (kept ++ (m :: ms) ++ y :: rest) (kept.length:Int) = some m:=by
      rw [ix_nat]; simp
     rw [d_slices_DeleteFunc_int_int_L1.eq_2]
     unfold d_slices_DeleteFunc_int_int_L1_B d_slices_DeleteFunc_int_int_J1
     rw [bif_true (by simp; omega),hx,ob_some,hg y hyl,ob_some]
     cases hgy:g y
     · rw [Bool.not_false,cond_true,hk,ob_some,w64_s _ (by omega),w64_s _ (by omega)]
       have e5:setx (kept ++ (m :: ms) ++ y :: rest) (kept.length:Int) y = (kept ++ [y]) ++ (ms ++ [y]) ++ rest:=by simp [setx]
       rw [e5]
       have:=ih (kept ++ [y]) (ms ++ [y]) (pre ++ [y]) n (by simp [e1]) (by rw [e2,List.filter_append]; simp [hgy]) (by simp) (by simp; omega) (by omega)
       simp only [List.length_append,List.length_singleton] at this
       exact this
     · rw [Bool.not_true,cond_false,w64_s _ (by omega)]
       have:=ih kept ((m :: ms) ++ [y]) (pre ++ [y]) n (by simp [e1]) (by rw [e2,List.filter_append]; simp [hgy]) (by simp) (by simp; omega) (by omega)
       simp only [List.length_append,List.length_singleton] at this
       rw [show kept ++ (m :: ms) ++ y :: rest = kept ++ ((m :: ms) ++ [y]) ++ rest by simp]
       exact this
   have hlen:l.length = a.length + (b.length + 1):=by rw [h1]; simp
   have ha:a.filter (fun x=>!g x) = a:=List.filter_eq_self.2 fun y hy=>by simp [h2 y hy]
   have:=key b a [x] (a ++ [x]) fu (by simp [h1]) (by rw [List.filter_append,ha]; simp [h3]) (by simp) (by simp) (by omega)
   rw [w64_s _ (by omega)]
   simp only [List.length_append,List.length_singleton] at this
   rw [show a ++ [x] ++ b = l by simp [h1]] at this
   exact this
end Go.Proofs.YthddjkokpfdbnaaGreat
/- A bit, by spec. -/
namespace Go.Proofs.YthddjkokpfdbnaaGreat
open Go
open Enc (rd ow)
open Arg (argv)
open Ret (retv)
open Wf (wf)
theorem s_bit (fu:Nat) (b:Bool):d_spec_l1Bit fu b = some (bitI b):=by cases b <;> rfl
end Go.Proofs.YthddjkokpfdbnaaGreat
/- How often a number stands in a list, by spec. -/
namespace Go.Proofs.YthddjkokpfdbnaaGreat
open Go
open Enc (rd ow)
open Arg (argv)
open Ret (retv)
open Wf (wf)
theorem s_tim {fu:Nat} {l:List Int} (hl:l.length ≤ 1048576) (hf:l.length < fu) (x:Int):d_spec_l8Times fu l x = some (cntB (fun y=>y == x) l):=by
 unfold d_spec_l8Times
 have:=lpI l (fun n s i=>d_spec_l8Times_L1 fu l x n s i) (fun l n=>some (n + cntB (fun y=>y == x) l)) (fun l n=>0 ≤ n ∧ n + l.length ≤ 1048576) (by omega) ?_ ?_ fu 0 ⟨by omega,by omega⟩ hf
 · simpa using this
 · intro n s i y ys hy hd hI ih
   have h2:=hI.2
   simp only [List.length_cons] at h2
   have hb:=bitI_bd (y == x)
   simp only [d_spec_l8Times_L1.eq_2]
   unfold d_spec_l8Times_L1_B
   simp only [hd,cond_true,hy,ob_some,s_bit]
   rw [w64_id (by omega) (by omega),ih _ ⟨by omega,by omega⟩]
   simp only [cntB]
   congr 1
   omega
 · intro n s i hd hI
   simp only [d_spec_l8Times_L1.eq_2]
   unfold d_spec_l8Times_L1_B
   simp only [hd,cond_false,cntB]
   simp
theorem cnt_count (l:List Int) (x:Int):cntB (fun y=>y == x) l = (l.count x:Int):=by
 induction l with
 | nil=>rfl
 | cons y l ih =>
  unfold cntB bitI
  rw [ih,List.count_cons]
  cases hy:y == x <;> simp [hy] <;> omega
end Go.Proofs.YthddjkokpfdbnaaGreat
/- Orders in the laws: their size, copies, equality. -/
namespace Go.Proofs.YthddjkokpfdbnaaGreat
open Go
open Enc (rd ow)
open Arg (argv)
open Ret (retv)
open Wf (wf)
end Go.Proofs.YthddjkokpfdbnaaGreat
/- Lists of lists of numbers in the laws: their size, copies. -/
namespace Go.Proofs.YthddjkokpfdbnaaGreat
open Go
open Enc (rd ow)
open Arg (argv)
open Ret (retv)
open Wf (wf)
def lensL:List (List Int) → Nat
 | []=>0
 | x :: xs=>x.length + lensL xs
end Go.Proofs.YthddjkokpfdbnaaGreat
/- IsPacking of spec and of impl. -/
namespace Go.Proofs.YthddjkokpfdbnaaGreat
open Go
open Enc (rd ow)
open Arg (argv)
open Ret (retv)
open Wf (wf)
def thrM (r:Request) (us:List Int):List Int:=us.filter fun u=>inb u 0 (((untM r).length:Int) - 1)
def perB (a b:List Int):Bool:=decide ((a.mergeSort fun x y=>decide (x ≤ y)) = b.mergeSort fun x y=>decide (x ≤ y))
theorem perB_iff {a b:List Int}:perB a b = true ↔ a.Perm b:=by
 unfold perB
 rw [decide_eq_true_iff]
 constructor
 · intro h
   have h1:=List.mergeSort_perm a fun x y=>decide (x ≤ y)
   rw [h] at h1
   exact h1.symm.trans (List.mergeSort_perm b _)
 · intro h
   exact le_uniq (((List.mergeSort_perm a _).trans h).trans (List.mergeSort_perm b _).symm) (mergeSort_le a) (mergeSort_le b)
theorem perm_cnt:∀ (a b:List Int),a.length = b.length → (∀ x ∈ a,a.count x = b.count x) → a.Perm b
 | [],b,h,_=>by
  have:b = []:=List.eq_nil_of_length_eq_zero h.symm
  subst this
  exact List.Perm.refl _
 | x :: a,b,h,hc=>by
  have hx:=hc x (by simp)
  rw [List.count_cons_self] at hx
  have hm:x ∈ b:=List.count_pos_iff.1 (by omega)
  have hp:=List.perm_cons_erase hm
  refine List.Perm.trans (List.Perm.cons x (perm_cnt a (b.erase x) ?_ ?_)) hp.symm
  · have:=hp.length_eq
    simp only [List.length_cons] at this h
    omega
  · intro y hy
    have h1:=hc y (by simp [hy])
    have h2:=hp.count_eq y
    rw [List.count_cons] at h1 h2
    omega
theorem i_there {fu:Nat} {r:Request} (h:Sm fu r) (us:List Int) (hl:us.length ≤ 1048576):d_impl_thereOf fu r us = some (thrM r us):=by
 have hfu:=h.fu
 unfold d_impl_thereOf d_slices_Clone_int_int thrM
 rw [i_unt h,ob_some,ap1 (by simp; omega),ob_some,ob_some,List.nil_append,i_del _ (fun u=>!inb u 0 (((untM r).length:Int) - 1)) ?_ hl (by omega),ob_some]
 · simp
 · intro u _
   unfold d_impl_thereOf_1
   rw [w64_len,i_in,ob_some]
theorem s_known {fu:Nat} {r:Request} (h:Sm fu r) (us:List Int) (hl:us.length ≤ 1048576):d_spec_l7Known fu (untM r) us = some (thrM r us):=by
 have hfu:=h.fu
 unfold d_spec_l7Known thrM
 have:=lpI us (fun n out i=>d_spec_l7Known_L1 fu (untM r) us n out i) (fun xs out=>some (out ++ xs.filter fun u=>inb u 0 (((untM r).length:Int) - 1))) (fun xs out=>out.length + xs.length ≤ 1048576) (by omega) ?_ ?_ fu [] (by simpa using hl) (by omega)
 · simpa using this
 · intro n out i x xs hx hd hI ih
   simp only [List.length_cons] at hI
   simp only [d_spec_l7Known_L1.eq_2]
   unfold d_spec_l7Known_L1_B d_spec_l7Known_J1
   rw [hd,cond_true,hx,ob_some,w64_len,s_in,ob_some,ob_some,List.filter_cons]
   cases hb:inb x 0 (((untM r).length:Int) - 1)
   · rw [cond_false,ih _ (by omega)]; simp
   · rw [cond_true,ap1 (by simp; omega),ob_some,ih _ (by simp; omega)]; simp
 · intro n out i hd hI
   simp only [d_spec_l7Known_L1.eq_2]
   unfold d_spec_l7Known_L1_B
   simp only [hd,cond_false]
   simp
theorem zip_all:∀ (a b:List Int),a.length = b.length → ((a.zip b).all fun p=>p.1 == p.2) = decide (a = b)
 | [],[],_=>rfl
 | [],_ :: _,h=>by simp at h
 | _ :: _,[],h=>by simp at h
 | x :: a,y :: b,h=>by
  rw [List.zip_cons_cons,List.all_cons,zip_all a b (by simpa using h)]
  by_cases hx:x = y <;> simp [hx]
theorem i_equal {fu:Nat} (a b:List Int) (hl:a.length ≤ 1048576) (hf:a.length < fu):d_slices_Equal_int_int fu a b = some (decide (a = b)):=by
 unfold d_slices_Equal_int_int
 by_cases h:a.length = b.length
 · rw [bif_false (by simp [h])]
   have hz:(a.zip b).length = a.length:=by rw [List.length_zip]; omega
   have:=lp (a.zip b) (fun n (_:Unit) i=>d_slices_Equal_int_int_L1 fu a b n i) (fun l _=>some (l.all fun p=>p.1 == p.2)) (by omega) ?_ ?_ fu () (by omega)
   · rw [zip_all a b h] at this
     exact this
   · intro n _ i p xs hp hd ih
     obtain ⟨h1,_,h2⟩:=ix_some hp
     rw [List.getElem?_zip_eq_some] at h2
     rw [hz] at hd
     have e1:ix a i = some p.1:=by unfold ix; rw [if_pos h1]; exact h2.1
     have e2:ix b i = some p.2:=by unfold ix; rw [if_pos h1]; exact h2.2
     simp only [d_slices_Equal_int_int_L1.eq_2]
     unfold d_slices_Equal_int_int_L1_B
     rw [hd,cond_true,e1,ob_some,e2,ob_some,ih (),List.all_cons]
     by_cases hx:p.1 = p.2
     · rw [bif_false (by simp [hx])]; simp [hx]
     · rw [bif_true (by simpa using hx)]; simp [hx]
   · intro n _ i hd
     rw [hz] at hd
     simp only [d_slices_Equal_int_int_L1.eq_2]
     unfold d_slices_Equal_int_int_L1_B
     simp [hd]
 · rw [bif_true (by simp; omega)]
   have:a ≠ b:=fun e=>h (by rw [e])
   simp [this]
theorem sortI_some {xs:List Int} (h:xs.length ≤ 1048576):sortI xs = some (xs.mergeSort fun x y=>decide (x ≤ y)):=by
 unfold sortI
 rw [if_pos (by omega)]
def okC (r:Request) (l:List Int):Bool:=l.length != 0 && witB r l (masM r)
def packB (r:Request) (us:List Int) (cs:List (List Int)):Bool:=clsM r == 0 && (cs.all (okC r) && perB cs.flatten (thrM r us))
theorem thrM_len (r:Request) (us:List Int):(thrM r us).length ≤ us.length:=List.length_filter_le _ _
theorem i_pack {fu:Nat} {r:Request} (h:Sm fu r) (us:List Int) (cs:List (List Int)) (hu:us.length ≤ 1048576) (hl:cs.length ≤ 1048576) (hs:lensL cs ≤ 1048576):d_impl_IsPacking fu r us cs = some (packB r us cs):=by
 have hfu:=h.fu
 unfold d_impl_IsPacking packB
 rw [i_sound h,ob_some]
 cases hc:clsM r == 0
 · rfl
 rw [Bool.not_true,cond_false,i_mas h,ob_some,Bool.true_and]
 have ht:=thrM_len r us
 have:=lpI cs (fun n all i=>d_impl_IsPacking_L1 fu r us cs (othM (typM r r.fMaster)) n all i) (fun xs all=>some (xs.all (okC r) && perB (all ++ xs.flatten) (thrM r us))) (fun xs all=>all.length + lensL xs ≤ 1048576) (by omega) ?_ ?_ fu [] (by simpa using hs) (by omega)
 · simpa using this
 · intro n all i x xs hx hd hI ih
   simp only [lensL] at hI
   simp only [d_impl_IsPacking_L1.eq_2]
   unfold d_impl_IsPacking_L1_B d_impl_IsPacking_J2 d_impl_IsPacking_J1
   rw [hd,cond_true,hx,ob_some,i_within h _ _ (by omega),ob_some,ap1 (by omega),ob_some,ih _ (by simp; omega),List.all_cons,List.flatten_cons,← List.append_assoc]
   unfold okC
   rw [show (othM (typM r r.fMaster)).1 = masM r from rfl]
   by_cases hx0:x.length = 0
   · rw [bif_true (by simp [hx0])]; simp [hx0]
   · rw [bif_false (by simpa using hx0)]
     have e:(x.length != 0) = true:=by simpa using hx0
     cases witB r x (masM r) <;> simp [e]
 · intro n all i hd hI
   simp only [lensL] at hI
   simp only [d_impl_IsPacking_L1.eq_2]
   unfold d_impl_IsPacking_L1_B d_slices_Sort_int_int
   rw [hd,cond_false,i_there h us hu,ob_some,sortI_some (by omega),ob_some,sortI_some (by omega),ob_some,i_equal _ _ (by rw [List.length_mergeSort]; omega) (by rw [List.length_mergeSort]; omega),ob_some]
   simp [perB]
theorem s_pack {fu:Nat} {r:Request} (h:Sm fu r) (us:List Int) (cs:List (List Int)) (hu:us.length ≤ 1048576) (hl:cs.length ≤ 1048576) (hs:lensL cs ≤ 1048576):d_spec_IsPacking fu r us cs = some (packB r us cs):=by
 have hfu:=h.fu
 unfold d_spec_IsPacking packB
 rw [s_cls h,ob_some]
 by_cases hc:clsM r = 0
 rotate_left
 · rw [bif_true (by simpa using hc)]
   have:(clsM r == 0) = false:=by simpa using hc
   rw [this]; rfl
 rw [bif_false (by simp [hc]),s_mas h,ob_some,s_l6 h (clsM_zero hc).1,ob_some]
 have e6:l6M r = untM r:=by unfold untM; simp [hc]
 have e0:(clsM r == 0) = true:=by simp [hc]
 rw [e6,e0,Bool.true_and]
 have ht:=thrM_len r us
 have:=lpI cs (fun n all i=>d_spec_IsPacking_L2 fu r us cs (othM (typM r r.fMaster)) (untM r) n all i) (fun xs all=>some (xs.all (okC r) && perB (all ++ xs.flatten) (thrM r us))) (fun xs all=>all.length + lensL xs ≤ 1048576) (by omega) ?_ ?_ fu [] (by simpa using hs) (by omega)
 · simpa using this
 · intro n all i x xs hx hd hI ih
   simp only [lensL] at hI
   simp only [d_spec_IsPacking_L2.eq_2]
   unfold d_spec_IsPacking_L2_B d_spec_IsPacking_J4 d_spec_IsPacking_J3 d_spec_IsPacking_J2
   rw [hd,cond_true,hx,ob_some,s_l7Of r x (by omega) (by omega),ob_some,ob_some,s_vol,ob_some,ob_some,ap1 (by omega),ob_some,ih _ (by simp; omega),List.all_cons,List.flatten_cons,← List.append_assoc]
   unfold okC witB
   rw [show (othM (typM r r.fMaster)).1 = masM r from rfl,show volB (masM r).fW (masM r).fH (masM r).fD = volT (masM r) from rfl]
   by_cases hx0:x.length = 0
   · rw [bif_true (by simp [hx0])]; simp [hx0]
   · rw [bif_false (by simpa using hx0)]
     have e:(x.length != 0) = true:=by simpa using hx0
     by_cases hv:volM r x ≤ volT (masM r)
     · rw [bif_false (by simpa using hv)]
       by_cases hg:grmM r x ≤ (masM r).fGram
       · rw [bif_false (by simpa using hg)]; simp [e,hv,hg]
       · rw [bif_true (by simpa using hg)]; simp [hg]
     · rw [bif_true (by simpa using hv)]; simp [hv]
 · intro n all i hd hI
   simp only [lensL] at hI
   simp only [d_spec_IsPacking_L2.eq_2]
   unfold d_spec_IsPacking_L2_B d_spec_IsPacking_J1
   rw [hd,cond_false,s_known h us hu,ob_some]
   simp only [List.all_nil,Bool.true_and,List.flatten_nil,List.append_nil]
   by_cases hlen:(thrM r us).length = all.length
   rotate_left
   · rw [bif_true (by simp; omega)]
     congr 1
     symm
     rw [Bool.eq_false_iff]
     intro hp
     exact hlen (perB_iff.1 hp).length_eq.symm
   rw [bif_false (by simp [hlen])]
   have key:=lp all (fun n (_:Unit) i=>d_spec_IsPacking_L1 fu all (thrM r us) n i) (fun l _=>some (l.all fun x=>all.count x == (thrM r us).count x)) (by omega) ?_ ?_ fu () (by omega)
   · refine key.trans ?_
     congr 1
     apply Bool.eq_iff_iff.2
     rw [perB_iff]
     simp only [List.all_eq_true,beq_iff_eq]
     exact ⟨fun hc=>perm_cnt _ _ hlen.symm hc,fun hp x _=>hp.count_eq x⟩
   · intro n _ i x xs hx hd ih
     simp only [d_spec_IsPacking_L1.eq_2]
     unfold d_spec_IsPacking_L1_B
     rw [hd,cond_true,hx,ob_some,ob_some,s_tim (by omega) (by omega),ob_some,s_tim (by omega) (by omega),ob_some,ih (),List.all_cons,cnt_count,cnt_count]
     by_cases he:all.count x = (thrM r us).count x
     · rw [bif_false (by simp [he])]; simp [he]
     · rw [bif_true (by rw [bne_iff_ne]; omega)]
       have:(all.count x == (thrM r us).count x) = false:=by simpa using he
       rw [this]; rfl
   · intro n _ i hd
     simp only [d_spec_IsPacking_L1.eq_2]
     unfold d_spec_IsPacking_L1_B
     simp [hd]
end Go.Proofs.YthddjkokpfdbnaaGreat
/- IsRival of spec and of impl. -/
namespace Go.Proofs.YthddjkokpfdbnaaGreat
open Go
open Enc (rd ow)
open Arg (argv)
open Ret (retv)
open Wf (wf)
def clsZ (r:Request) (u:Int):Int:=(itmZ r u).fClass
def allBes (r:Request) (c:List Int):Bool:=c.all fun x=>c.all fun y=>besB r.fPairs (clsZ r x) (clsZ r y)
def rivB (r:Request) (cs:List (List Int)):Bool:=packB r (ints 0 (untM r).length) cs && cs.all (allBes r)
theorem thr_mem {r:Request} {us:List Int} {u:Int} (h:u ∈ thrM r us):0 ≤ u ∧ u < (untM r).length:=by
 unfold thrM at h
 have:=(List.mem_filter.1 h).2
 rw [inb_iff] at this
 omega
theorem pack_mem {r:Request} {us:List Int} {cs:List (List Int)} (h:packB r us cs = true):∀ c ∈ cs,∀ u ∈ c,0 ≤ u ∧ u < (untM r).length:=by
 intro c hc u hu
 simp only [packB,Bool.and_eq_true] at h
 exact thr_mem (((perB_iff.1 h.2.2).mem_iff).1 (List.mem_flatten.2 ⟨c,hc,hu⟩))
theorem itmZ_in {r:Request} {u:Int} (h:0 ≤ u ∧ u < (untM r).length):itmM r u = some (itmZ r u):=by
 obtain ⟨_,x,_,_,hx⟩:=itmM_in h
 unfold itmZ
 rw [hx]; rfl
theorem itsM_map {r:Request}:∀ {l:List Int},(∀ u ∈ l,0 ≤ u ∧ u < (untM r).length) → itsM r l = l.map (itmZ r)
 | [],_=>rfl
 | u :: l,h=>by
  have ih:=itsM_map (r:=r) (l:=l) fun v hv=>h v (by simp [hv])
  unfold itsM at ih ⊢
  rw [List.filterMap_cons,itmZ_in (h u (by simp)),ih,List.map_cons]
theorem may_in {r:Request} {l:List Int} {u:Int} (hl:∀ u ∈ l,0 ≤ u ∧ u < (untM r).length) (hu:0 ≤ u ∧ u < (untM r).length):mayB r l u = l.all fun x=>mutB r.fPairs (clsZ r x) (clsZ r u):=by
 unfold mayB
 rw [itsM_map hl,itsM_one (itmZ_in hu),List.all_map]
 congr 1
 funext x
 simp [clsZ]
theorem all_may {r:Request} {l:List Int} (hl:∀ u ∈ l,0 ≤ u ∧ u < (untM r).length):(l.all fun u=>mayB r l u) = allBes r l:=by
 unfold allBes
 apply Bool.eq_iff_iff.2
 simp only [List.all_eq_true]
 constructor
 · intro h x hx y hy
   have:=h y hy
   rw [may_in hl (hl y hy)] at this
   have:=List.all_eq_true.1 this x hx
   simp only [mutB,Bool.and_eq_true] at this
   exact this.1
 · intro h u hu
   rw [may_in hl (hl u hu),List.all_eq_true]
   intro x hx
   simp only [mutB,Bool.and_eq_true]
   exact ⟨h x hx u hu,h u hu x hx⟩
theorem i_rival {fu:Nat} {r:Request} (h:Sm fu r) (cs:List (List Int)) (hl:cs.length ≤ 1048576) (hm:∀ x ∈ cs,x.length ≤ 1048576) (hs:lensL cs ≤ 1048576):d_impl_IsRival fu r cs = some (rivB r cs):=by
 have hfu:=h.fu
 have hul:=untM_len r
 unfold d_impl_IsRival rivB
 rw [i_unt h,ob_some,i_places _ (by omega) (by omega),ob_some,i_pack h _ cs (by rw [ints_len]; omega) hl hs,ob_some]
 cases hp:packB r (ints 0 (untM r).length) cs
 · rfl
 rw [Bool.not_true,cond_false,Bool.true_and]
 unfold d_slices_ContainsFunc_ints_int
 rw [i_idxInts (fun y=>d_impl_IsRival_1 fu y r) (fun c=>!allBes r c) (fun c hc=>by
  have hcl:=hm c hc
  have hcm:=pack_mem hp c hc
  unfold d_impl_IsRival_1
  rw [i_anyInt (fun y=>d_impl_IsRival_1_1 fu y r c) (fun u=>!mayB r c u) (fun u _=>by
   unfold d_impl_IsRival_1_1
   rw [i_may h c u hcl,ob_some]) hcl (by omega),ob_some,← all_may hcm,List.not_all_eq_any_not]) hl (by omega),ob_some,fndI_any _ cs 0 (by omega),ob_some]
 congr 1
 rw [List.not_any_eq_all_not]
 congr 1
 funext c
 simp
theorem s_rival {fu:Nat} {r:Request} (h:Sm fu r) (cs:List (List Int)) (hl:cs.length ≤ 1048576) (hm:∀ x ∈ cs,x.length ≤ 1048576) (hs:lensL cs ≤ 1048576):d_spec_IsRival fu r cs = some (rivB r cs):=by
 have hfu:=h.fu
 have hul:=untM_len r
 unfold d_spec_IsRival rivB
 rw [s_unt h,ob_some,s_places _ (by omega) (by omega),ob_some,s_pack h _ cs (by rw [ints_len]; omega) hl hs,ob_some]
 cases hp:packB r (ints 0 (untM r).length) cs
 · rfl
 rw [Bool.not_true,cond_false,Bool.true_and]
 have hpp:=h.pairs
 have eb:∀ (k:Int → Option Bool) (i a x:Int) (c:List Int),ix cs i = some c → ix c a = some x → d_spec_IsRival_L1 fu k r cs (untM r) i a fu 0 = bif (c.all fun y=>besB r.fPairs (clsZ r x) (clsZ r y)) then k (w64 (a + 1)) else some false:=by
  intro k i a x c hc hx
  have hcl:=hm c (ix_mem hc)
  refine lp c (fun n (_:Unit) b=>d_spec_IsRival_L1 fu k r cs (untM r) i a n b) (fun l _=>bif (l.all fun y=>besB r.fPairs (clsZ r x) (clsZ r y)) then k (w64 (a + 1)) else some false) (by omega) ?_ ?_ fu () (by omega)
  · intro n _ b y ys hy hd ih
    simp only [d_spec_IsRival_L1.eq_2]
    unfold d_spec_IsRival_L1_B d_spec_IsRival_J5 d_spec_IsRival_J4 d_spec_IsRival_J3
    rw [hc,ob_some,hd,cond_true,ob_some,hx,ob_some,s_item,ob_some]
    simp only [ob_some,hy,s_item]
    rw [s_bes hpp (by omega),ob_some,ih (),List.all_cons,show (itmZ r x).fClass = clsZ r x from rfl,show (itmZ r y).fClass = clsZ r y from rfl]
    cases besB r.fPairs (clsZ r x) (clsZ r y) <;> rfl
  · intro n _ b hd
    simp only [d_spec_IsRival_L1.eq_2]
    unfold d_spec_IsRival_L1_B d_spec_IsRival_J2
    rw [hc,ob_some,hd]; rfl
 have ea:∀ (k:Int → Option Bool) (i:Int) (c:List Int),ix cs i = some c → d_spec_IsRival_L2 fu k r cs (untM r) i fu 0 = bif allBes r c then k (w64 (i + 1)) else some false:=by
  intro k i c hc
  have hcl:=hm c (ix_mem hc)
  refine lp c (fun n (_:Unit) a=>d_spec_IsRival_L2 fu k r cs (untM r) i n a) (fun l _=>bif (l.all fun x=>c.all fun y=>besB r.fPairs (clsZ r x) (clsZ r y)) then k (w64 (i + 1)) else some false) (by omega) ?_ ?_ fu () (by omega)
  · intro n _ a x xs hx hd ih
    simp only [d_spec_IsRival_L2.eq_2]
    unfold d_spec_IsRival_L2_B
    rw [hc,ob_some,hd,cond_true,eb _ i a x c hc hx,ih (),List.all_cons]
    cases (c.all fun y=>besB r.fPairs (clsZ r x) (clsZ r y)) <;> rfl
  · intro n _ a hd
    simp only [d_spec_IsRival_L2.eq_2]
    unfold d_spec_IsRival_L2_B d_spec_IsRival_J1
    rw [hc,ob_some,hd]; rfl
 refine lp cs (fun n (_:Unit) i=>d_spec_IsRival_L3 fu r cs (untM r) n i) (fun l _=>some (l.all (allBes r))) (by omega) ?_ ?_ fu () (by omega)
 · intro n _ i c xs hc hd ih
   simp only [d_spec_IsRival_L3.eq_2]
   unfold d_spec_IsRival_L3_B
   rw [hd,cond_true,ea _ i c hc,ih (),List.all_cons]
   cases allBes r c <;> rfl
 · intro n _ i hd
   simp only [d_spec_IsRival_L3.eq_2]
   unfold d_spec_IsRival_L3_B
   rw [hd]; rfl
end Go.Proofs.YthddjkokpfdbnaaGreat
/- RivalBy of spec and of impl. -/
namespace Go.Proofs.YthddjkokpfdbnaaGreat
open Go
open Enc (rd ow)
open Arg (argv)
open Ret (retv)
open Wf (wf)
def optB (r:Request) (u:Int) (c:List Int):Bool:=witB r (c ++ [u]) (masM r) && mayB r c u
def optsM (r:Request) (out:List (List Int)) (u:Int):List Int:=(ints 0 out.length).filter fun i=>optB r u ((ix out i).getD [])
def putM (out:List (List Int)) (u:Int) (l:List Int) (t:Int):List (List Int) :=
 if (if t < 0 then t + l.length + 1 else t) < l.length then
  match ix l (if t < 0 then t + l.length + 1 else t) with
  | some j=>setx out j ((ix out j).getD [] ++ [u])
  | none=>out
 else out ++ [[u]]
def stepM (r:Request) (picks:List Int) (out:List (List Int)) (u:Int):List (List Int) :=
 putM out u (optsM r out u) (Int.tmod ((ix picks u).getD 0) ((optsM r out u).length + 1))
def rbyM (r:Request) (picks:List Int):List (List Int):=(ints 0 (untM r).length).foldl (stepM r picks) []
def okR (r:Request) (m:Nat) (out:List (List Int)):Prop:=out.length + m ≤ 12 ∧ ∀ c ∈ out,c.length + m ≤ 12 ∧ ∀ y ∈ c,0 ≤ y ∧ y < (untM r).length
theorem tmod_bd (p:Int) {n:Int} (h:0 < n):-n < Int.tmod p n ∧ Int.tmod p n < n:=by
 refine ⟨?_,Int.tmod_lt_of_pos p h⟩
 have:=Int.tmod_lt_of_pos (-p) h
 rw [Int.neg_tmod] at this
 omega
theorem put_ok {r:Request} {m:Nat} {out:List (List Int)} {u:Int} {l:List Int} {t:Int} (h:okR r (m + 1) out) (hu:0 ≤ u ∧ u < (untM r).length):okR r m (putM out u l t):=by
 obtain ⟨h1,h2⟩:=h
 have happ:okR r m (out ++ [[u]]):=by
  refine ⟨by simp; omega,fun c hc=>?_⟩
  rcases List.mem_append.1 hc with hc | hc
  · have:=h2 c hc
    exact ⟨by omega,this.2⟩
  · rw [List.mem_singleton.1 hc]
    exact ⟨by simp; omega,fun y hy=>by rw [List.mem_singleton.1 hy]; exact hu⟩
 have hout:okR r m out:=⟨by omega,fun c hc=>⟨by have:=(h2 c hc).1; omega,(h2 c hc).2⟩⟩
 unfold putM
 generalize (if t < 0 then t + (l.length:Int) + 1 else t) = q
 split
 · split
   · rename_i j _
     unfold setx
     refine ⟨by simp; omega,fun c hc=>?_⟩
     rcases List.mem_or_eq_of_mem_set hc with hc | hc
     · exact hout.2 c hc
     · subst hc
       cases hj:ix out j with
       | none=>exact ⟨by simp; omega,fun y hy=>by simp at hy; rw [hy]; exact hu⟩
       | some d =>
        have hd:=h2 d (ix_mem hj)
        refine ⟨by simp; omega,fun y hy=>?_⟩
        simp only [Option.getD_some,List.mem_append,List.mem_singleton] at hy
        rcases hy with hy | hy
        · exact hd.2 y hy
        · rw [hy]; exact hu
   · exact hout
 · exact happ
theorem ix_in {α:Type} {l:List α} {i:Int} (h0:0 ≤ i) (h1:i < l.length):∃ x,ix l i = some x:=by
 obtain ⟨j,rfl⟩:∃ j:Nat,i = j:=⟨i.toNat,by omega⟩
 exact ⟨_,ix_i (by omega)⟩
theorem s_rby {fu:Nat} {r:Request} (h:Sm fu r) (picks:List Int) (hpl:picks.length ≤ 1048576):d_spec_RivalBy fu r picks = some (rbyM r picks):=by
 have hfu:=h.fu
 have hul:=untM_len r
 unfold d_spec_RivalBy rbyM
 rw [s_cls h,ob_some]
 by_cases hc:clsM r = 0
 rotate_left
 · have:(clsM r != 0) = true:=by simpa using hc
   rw [this,cond_true]
   have:untM r = []:=by unfold untM; rw [bif_false (by simpa using hc)]
   rw [this]; rfl
 rw [bif_false (by simp [hc]),s_mas h,ob_some,s_l6 h (clsM_zero hc).1,ob_some]
 have e6:l6M r = untM r:=by unfold untM; simp [hc]
 rw [e6]
 have eput:∀ (k:List (List Int) → Int → Option (List (List Int))) (out:List (List Int)) (u:Int) (l:List Int) (t:Int),out.length ≤ 12 → (∀ c ∈ out,c.length ≤ 12) → l.length ≤ 12 → (∀ j ∈ l,0 ≤ j ∧ j < out.length) → -(l.length + 1:Int) < t → t < l.length + 1 → d_spec_RivalBy_J4 fu k out u l t = k (putM out u l t) (w64 (u + 1)):=by
  intro k out u l t ho hco hl hj ht1 ht2
  have e3:∀ t:Int,0 ≤ t → d_spec_RivalBy_J3 fu k out u l t = k (if t < l.length then match ix l t with | some j=>setx out j ((ix out j).getD [] ++ [u]) | none=>out else out ++ [[u]]) (w64 (u + 1)):=by
   intro t ht
   unfold d_spec_RivalBy_J3 d_spec_RivalBy_J1
   by_cases hlt:t < l.length
   · obtain ⟨j,hj1⟩:=ix_in ht hlt
     have hjm:=hj j (ix_mem hj1)
     obtain ⟨c,hc1⟩:=ix_in hjm.1 hjm.2
     have hcl:=hco c (ix_mem hc1)
     rw [bif_true (by simpa using hlt),hj1,ob_some,ob_some,hc1,ob_some,ap1 (by simp; omega),ob_some,ob_some,if_pos hlt]
     simp only [hc1,Option.getD_some]
   · rw [bif_false (by simpa using hlt),ap1 (by simp; omega),ob_some,if_neg hlt]
  unfold d_spec_RivalBy_J4 putM
  by_cases ht:t < 0
  · rw [bif_true (by simpa using ht),w64_id (n:=t + _) (by omega) (by omega),w64_id (by omega) (by omega),e3 _ (by omega),if_pos ht]
  · rw [bif_false (by simpa using ht),e3 _ (by omega),if_neg ht]
 have e1:∀ (k:List (List Int) → Int → Option (List (List Int))) (out:List (List Int)) (u:Int) (m:Nat),okR r (m + 1) out → 0 ≤ u → u < (untM r).length → d_spec_RivalBy_L1 fu k r picks (othM (typM r r.fMaster)) (untM r) out u fu [] 0 = k (stepM r picks out u) (w64 (u + 1)):=by
  intro k out u m ho hu0 hu1
  have ho1:=ho.1
  have:=lpNI (out.length:Int) (fun n list i=>d_spec_RivalBy_L1 fu k r picks (othM (typM r r.fMaster)) (untM r) out u n list i) (fun xs list=>(fun l=>k (putM out u l (Int.tmod ((ix picks u).getD 0) (l.length + 1))) (w64 (u + 1))) (list ++ xs.filter fun i=>optB r u ((ix out i).getD []))) (fun xs list=>list.length + xs.length ≤ 12 ∧ ∀ j ∈ list,0 ≤ j ∧ j < out.length) (by omega) ?_ ?_ out.length fu [] 0 (by omega) (by omega) (by omega) ⟨by simp [ints_len]; omega,by simp⟩
  · simpa [stepM,optsM] using this
  · intro n list i xs h0 h1 hd hI ih
    obtain ⟨hI1,hI2⟩:=hI
    simp only [List.length_cons] at hI1
    obtain ⟨c,hc1⟩:=ix_in h0 h1
    have hcm:=ho.2 c (ix_mem hc1)
    simp only [d_spec_RivalBy_L1.eq_2]
    unfold d_spec_RivalBy_L1_B d_spec_RivalBy_J2
    rw [hd,cond_true,hc1,ob_some,s_l7Room r _ c u (by omega) (by omega),ob_some,ob_some,s_may h c u (by omega) ⟨hu0,hu1⟩ hcm.2,ob_some,ap1 (by simp; omega),ob_some,ih list ⟨by omega,hI2⟩,List.filter_cons,hc1,Option.getD_some]
    rw [show (othM (typM r r.fMaster)).1 = masM r from rfl]
    rw [show optB r u c = (witB r (c ++ [u]) (masM r) && mayB r c u) from rfl]
    cases witB r (c ++ [u]) (masM r)
    · simp
    · cases mayB r c u
      · simp
      · rw [ih _ ⟨by simp; omega,fun j hj=>by
          rcases List.mem_append.1 hj with hj | hj
          · exact hI2 j hj
          · rw [List.mem_singleton.1 hj]; exact ⟨h0,h1⟩⟩]
        simp
  · intro n list i hd hI
    obtain ⟨hI1,hI2⟩:=hI
    simp only [List.length_nil,Nat.add_zero] at hI1
    simp only [d_spec_RivalBy_L1.eq_2]
    unfold d_spec_RivalBy_L1_B
    have hw:w64 (((list.length:Int)) + 1) = (list.length:Int) + 1:=w64_id (by omega) (by omega)
    rw [hd,cond_false,hw,List.filter_nil,List.append_nil,odiv_ok (by omega)]
    by_cases hp:u < picks.length
    · obtain ⟨p,hp1⟩:=ix_in hu0 hp
      have hb:=tmod_bd p (n:=(list.length:Int) + 1) (by omega)
      rw [bif_true (by simpa using hp),hp1,ob_some,ob_some,eput k out u list _ (by omega) (fun c hc=>by have:=(ho.2 c hc).1; omega) (by omega) hI2 hb.1 hb.2]
      rfl
    · have hp1:ix picks u = none:=by unfold ix; rw [if_pos hu0,List.getElem?_eq_none (by omega)]
      rw [bif_false (by simpa using hp),eput k out u list _ (by omega) (fun c hc=>by have:=(ho.2 c hc).1; omega) (by omega) hI2 (by omega) (by omega),hp1]
      simp
 have:=lpNI ((untM r).length:Int) (fun n out i=>d_spec_RivalBy_L2 fu r picks (othM (typM r r.fMaster)) (untM r) n out i) (fun xs out=>some (xs.foldl (stepM r picks) out)) (fun xs out=>okR r xs.length out) (by omega) ?_ ?_ (untM r).length fu [] 0 (by omega) (by omega) (by omega) ⟨by simp [ints_len]; omega,by simp⟩
 · exact this
 · intro n out i xs h0 h1 hd hI ih
   simp only [d_spec_RivalBy_L2.eq_2]
   unfold d_spec_RivalBy_L2_B
   rw [hd,cond_true,e1 _ out i xs.length hI h0 h1,ih (stepM r picks out i) (put_ok hI ⟨h0,h1⟩)]
   rfl
 · intro n out i hd _
   simp only [d_spec_RivalBy_L2.eq_2]
   unfold d_spec_RivalBy_L2_B
   rw [hd]; rfl
theorem rby_ok (r:Request) (picks:List Int):okR r 0 (rbyM r picks):=by
 have key:∀ (xs:List Int) (out:List (List Int)),okR r xs.length out → (∀ u ∈ xs,0 ≤ u ∧ u < (untM r).length) → okR r 0 (xs.foldl (stepM r picks) out):=by
  intro xs
  induction xs with
  | nil=>intro out h _; exact h
  | cons x xs ih=>intro out h hm; exact ih _ (put_ok h (hm x (by simp))) fun u hu=>hm u (by simp [hu])
 have hul:=untM_len r
 refine key _ [] ⟨by simp [ints_len]; omega,by simp⟩ fun u hu=>?_
 rw [ints_mem] at hu
 omega
end Go.Proofs.YthddjkokpfdbnaaGreat
/- Others' cartons that are drawn are there, and small. -/
namespace Go.Proofs.YthddjkokpfdbnaaGreat
open Go
open Enc (rd ow)
open Arg (argv)
open Ret (retv)
open Wf (wf)
def SmC (cs:List (List Int)):Prop:=cs.length ≤ 12 ∧ ∀ c ∈ cs,c.length ≤ 24
theorem SmC.lens {cs:List (List Int)} (h:SmC cs):cs.length ≤ 1048576 ∧ (∀ x ∈ cs,x.length ≤ 1048576) ∧ lensL cs ≤ 1048576:=by
 have key:∀ (l:List (List Int)),(∀ c ∈ l,c.length ≤ 24) → lensL l ≤ 24 * l.length:=by
  intro l
  induction l with
  | nil=>simp [lensL]
  | cons x xs ih =>
   intro hx
   have h1:=ih fun c hc=>hx c (by simp [hc])
   have h2:=hx x (by simp)
   simp only [lensL,List.length_cons]; omega
 have:=key cs h.2
 have:=h.1
 exact ⟨by omega,fun x hx=>by have:=h.2 x hx; omega,by omega⟩
theorem dr_rival {fu:Nat} {b:List U8} (hb:b.length ≤ 1048576) (hf:2097153 ≤ fu):Tot (d_spec_l17Rival fu b) fun x=>SmR x.1 ∧ SmC x.2:=by
 unfold d_spec_l17Rival
 refine Tot.bind (dr_class hb hf) fun r hr=>Tot.bind (dr_new hb (by omega)) fun c hc=>?_
 have L1:=lpT 12 (fun n (s:Int × Int × List Int) i=>d_spec_l17Rival_L1 fu b r n s.1 s.2.1 s.2.2 i) (fun x:Request × List (List Int)=>SmR x.1 ∧ SmC x.2) (fun i s=>0 ≤ s.1 ∧ (s.2.2.length:Int) ≤ i ∧ i ≤ 12) (by omega) ?_ ?_ 12 fu (c.fi,c.fh,[]) 0 (by omega) rfl (by omega) ⟨hc.2.1,by simp,by omega⟩
 · exact L1
 · intro n ⟨f1,f2,ps⟩ i h0 h1 hI ih
   obtain ⟨j1,j2,j3⟩:0 ≤ f1 ∧ (ps.length:Int) ≤ i ∧ i ≤ 12:=hI
   simp only [d_spec_l17Rival_L1.eq_2]
   unfold d_spec_l17Rival_L1_B
   rw [bif_true (by simpa using h1)]
   refine Tot.bind (dr_below (b:=b) (c:=⟨b,f1,f2⟩) ⟨rfl,j1,hb⟩ 5) fun x hx=>Tot.ap (by simp; omega) ?_
   exact ih (x.2.fi,x.2.fh,_) ⟨hx.2.2.1,by simp; omega,by omega⟩
 · intro n ⟨f1,f2,ps⟩ i h0 h1 hI
   obtain ⟨j1,j2,j3⟩:0 ≤ f1 ∧ (ps.length:Int) ≤ i ∧ i ≤ 12:=hI
   simp only [d_spec_l17Rival_L1.eq_2]
   unfold d_spec_l17Rival_L1_B d_spec_l17Rival_J1
   rw [bif_false (by simpa using h1),s_rby (hr.sm hf) ps (by omega),ob_some]
   obtain ⟨o1,o2⟩:=rby_ok r ps
   have hc:SmC (rbyM r ps):=⟨by omega,fun c hc=>by have:=(o2 c hc).1; omega⟩
   refine Tot.bif (fun hl=>?_) fun _=>Tot.mk ⟨hr,hc⟩
   have hl:1 < (rbyM r ps).length:=by have:=of_decide_eq_true hl; omega
   refine Tot.bind (dr_once (b:=b) (c:=⟨b,f1,f2⟩) ⟨rfl,j1,hb⟩ 6) fun x hx=>?_
   refine Tot.bif (fun _=>?_) fun _=>Tot.mk ⟨hr,hc⟩
   refine Tot.ix (by omega) fun c0 h0=>Tot.ix (by omega) fun c1 h1=>?_
   have l0:=(o2 c0 h0).1
   have l1:=(o2 c1 h1).1
   rw [sls_some (by omega),ob_some]
   refine Tot.ap (by simp; omega) (Tot.ap (by simp; omega) (Tot.ap (by simp; omega) (Tot.mk ⟨hr,by simp; omega,fun c hc=>?_⟩)))
   rcases List.mem_append.1 hc with hc | hc
   · rw [List.mem_singleton.1 hc]; simp; omega
   · have:=(o2 c (List.mem_of_mem_drop (List.mem_of_mem_take hc))).1; omega
end Go.Proofs.YthddjkokpfdbnaaGreat
/- SortDown, by spec and by impl (short lists). -/
namespace Go.Proofs.YthddjkokpfdbnaaGreat
open Go
open Enc (rd ow)
open Arg (argv)
open Ret (retv)
open Wf (wf)
end Go.Proofs.YthddjkokpfdbnaaGreat
/- Transitive of spec and of impl; where it is, groups are apart. -/
namespace Go.Proofs.YthddjkokpfdbnaaGreat
open Go
open Enc (rd ow)
open Arg (argv)
open Ret (retv)
open Wf (wf)
structure Sep (p:List Pair) (P:List Int) (out:List (List Int)):Prop where
 ne:∀ g ∈ out,g ≠ []
 inn:∀ g ∈ out,∀ x ∈ g,x ∈ P
 one:∀ g ∈ out,∀ x ∈ g,∀ y ∈ g,x ≠ y → mutB p x y = true
 two:∀ (i j:Nat) (g h:List Int),out[i]? = some g → out[j]? = some h → i ≠ j → ∀ x ∈ g,∀ y ∈ h,mutB p x y = false
end Go.Proofs.YthddjkokpfdbnaaGreat
/- Holds and Cheapest, by spec and by impl. -/
namespace Go.Proofs.YthddjkokpfdbnaaGreat
open Go
open Enc (rd ow)
open Arg (argv)
open Ret (retv)
open Wf (wf)
end Go.Proofs.YthddjkokpfdbnaaGreat
/- Gross and BoxOf, by spec and by impl. -/
namespace Go.Proofs.YthddjkokpfdbnaaGreat
open Go
open Enc (rd ow)
open Arg (argv)
open Ret (retv)
open Wf (wf)
end Go.Proofs.YthddjkokpfdbnaaGreat
/- Within, Overlap, Pallets: by spec and by impl. -/
namespace Go.Proofs.YthddjkokpfdbnaaGreat
open Go
open Enc (rd ow)
open Arg (argv)
open Ret (retv)
open Wf (wf)
end Go.Proofs.YthddjkokpfdbnaaGreat
/- The two ways of packing, by spec and by impl. -/
namespace Go.Proofs.YthddjkokpfdbnaaGreat
open Go
open Enc (rd ow)
open Arg (argv)
open Ret (retv)
open Wf (wf)
theorem s_l6u {fu:Nat} {r:Request} (h:Sm fu r) (hc:clsM r = 0):d_spec_l6Units fu r = some (untM r):=s_l6c h hc
end Go.Proofs.YthddjkokpfdbnaaGreat
/- Shelves, layers, loads, spots of spec: what they compute, and what holds of them. -/
namespace Go.Proofs.YthddjkokpfdbnaaGreat
open Go
open Enc (rd ow)
open Arg (argv)
open Ret (retv)
open Wf (wf)
def mxI (a b:Int):Int:=if a > b then a else b
structure ShI (p:Pallet) (n:Nat) (s:Shelf):Prop where
 ne:s.fList ≠ []
 inn:∀ i ∈ s.fList,0 ≤ i ∧ i < n
 w:1 ≤ s.fW ∧ s.fW ≤ p.fW
 d:1 ≤ s.fD ∧ s.fD ≤ p.fD
 h:1 ≤ s.fH ∧ s.fH ≤ p.fH
 g:1 ≤ s.fGram ∧ s.fGram ≤ p.fGram
end Go.Proofs.YthddjkokpfdbnaaGreat
/- Layers and loads of spec. -/
namespace Go.Proofs.YthddjkokpfdbnaaGreat
open Go
open Enc (rd ow)
open Arg (argv)
open Ret (retv)
open Wf (wf)
structure LyI (p:Pallet) (n:Nat) (s:Layer):Prop where
 ne:s.fShelves ≠ []
 inn:∀ i ∈ s.fShelves,0 ≤ i ∧ i < n
 d:1 ≤ s.fD ∧ s.fD ≤ p.fD
 h:1 ≤ s.fH ∧ s.fH ≤ p.fH
 g:1 ≤ s.fGram ∧ s.fGram ≤ p.fGram
structure LdI (p:Pallet) (n:Nat) (s:Load):Prop where
 ne:s.fLayers ≠ []
 inn:∀ i ∈ s.fLayers,0 ≤ i ∧ i < n
 h:1 ≤ s.fH ∧ s.fH ≤ p.fH
 g:1 ≤ s.fGram ∧ s.fGram ≤ p.fGram
end Go.Proofs.YthddjkokpfdbnaaGreat
/- The spots of boxes, by spec. -/
namespace Go.Proofs.YthddjkokpfdbnaaGreat
open Go
open Enc (rd ow)
open Arg (argv)
open Ret (retv)
open Wf (wf)
end Go.Proofs.YthddjkokpfdbnaaGreat
/- The units of a group, by spec and by impl. -/
namespace Go.Proofs.YthddjkokpfdbnaaGreat
open Go
open Enc (rd ow)
open Arg (argv)
open Ret (retv)
open Wf (wf)
end Go.Proofs.YthddjkokpfdbnaaGreat
/- CartonsOf of spec and of impl. -/
namespace Go.Proofs.YthddjkokpfdbnaaGreat
open Go
open Enc (rd ow)
open Arg (argv)
open Ret (retv)
open Wf (wf)
end Go.Proofs.YthddjkokpfdbnaaGreat
/- What the ways of packing keep: every unit once, every carton within the master's. -/
namespace Go.Proofs.YthddjkokpfdbnaaGreat
open Go
open Enc (rd ow)
open Arg (argv)
open Ret (retv)
open Wf (wf)
theorem itmZ_mem {r:Request} {u:Int} (h:0 ≤ u ∧ u < (untM r).length):itmZ r u ∈ r.fItems:=(itm_cls (itmZ_in h)).2
theorem cls_in {r:Request} {u:Int} (h:0 ≤ u ∧ u < (untM r).length):clsM r = 0:=(itm_cls (itmZ_in h)).1
theorem mas_typ {r:Request} (hc:clsM r = 0):typM r r.fMaster = some (masM r) ∧ masM r ∈ r.fTypes ∧ typB (masM r) = true:=by
 have h:=(clsM_zero hc).2.1
 unfold namB at h
 simp only [Bool.and_eq_true] at h
 obtain ⟨t,ht⟩:=Option.isSome_iff_exists.1 h.1.2
 have e:masM r = t:=by unfold masM; rw [ht]; rfl
 have hm:t ∈ r.fTypes:=List.mem_of_find?_eq_some ht
 rw [e]
 exact ⟨ht,hm,bou_types (clsM_zero hc).1 t hm⟩
def Qc (r:Request) (us:List Int) (l:List Int):Prop:=l ≠ [] ∧ (∀ u ∈ l,u ∈ us) ∧ witB r l (masM r) = true
end Go.Proofs.YthddjkokpfdbnaaGreat
