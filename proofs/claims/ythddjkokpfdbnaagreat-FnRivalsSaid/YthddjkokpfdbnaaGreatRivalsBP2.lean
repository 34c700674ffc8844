import Derived.Test.YthddjkokpfdbnaaGreatRivalsBP1
set_option linter.unusedSimpArgs false
set_option linter.unusedVariables false
/- Load of units, room for one more, units that may lie beside: by spec and by impl. -/
namespace Go.Proofs.YthddjkokpfdbnaaGreat
open Go
open Enc (rd ow)
open Arg (argv)
open Ret (retv)
open Wf (wf)
theorem vol_cons (r:Request) (x:Int) (xs:List Int):volM r (x :: xs) = volI (itmZ r x) + volM r xs:=by
 unfold volM itsM itmZ
 cases hm:itmM r x with
 | none=>simp [List.filterMap_cons,hm,vol_zero]
 | some y=>simp [List.filterMap_cons,hm]
theorem grm_cons (r:Request) (x:Int) (xs:List Int):grmM r (x :: xs) = (itmZ r x).fGram + grmM r xs:=by
 unfold grmM itsM itmZ
 cases hm:itmM r x with
 | none=>simp [List.filterMap_cons,hm,zItem]
 | some y=>simp [List.filterMap_cons,hm]
theorem s_l7Of {fu:Nat} (r:Request) (us:List Int) (hl:us.length ≤ 1048576) (hf:us.length < fu):d_spec_l7Of fu r (untM r) us = some ⟨volM r us,grmM r us⟩:=by
 unfold d_spec_l7Of
 have key:=lpI us (fun n s i=>d_spec_l7Of_L1 fu r (untM r) us n s i) (fun l s=>some (⟨s.fvol + volM r l,s.fgram + grmM r l⟩:L7))
  (fun l s=>0 ≤ s.fvol ∧ s.fvol + 8000000000 * l.length ≤ 8000000000 * 1048576 ∧ 0 ≤ s.fgram ∧ s.fgram + 100000 * l.length ≤ 100000 * 1048576) (by omega) ?_ ?_ fu ⟨0,0⟩ ⟨by simp,by simp; omega,by simp,by simp; omega⟩ hf
 · simpa using key
 · intro n s i x xs hx hd hI ih
   simp only [d_spec_l7Of_L1.eq_2]
   unfold d_spec_l7Of_L1_B d_spec_l7Of_J2 d_spec_l7Of_J1
   simp only [hd,cond_true,hx,ob_some,s_item,s_vol]
   have hv:=volB_nn (itmZ r x).fW (itmZ r x).fH (itmZ r x).fD
   have hg:=itmZ_gram r x
   obtain ⟨a1,a2,a3,a4⟩:=hI
   simp only [List.length_cons] at a2 a4
   rw [w64_id (n:=s.fvol + _) (by omega) (by omega),w64_id (n:=s.fgram + _) (by omega) (by omega),ih _ ⟨by simp; omega,by simp; omega,by simp; omega,by simp; omega⟩,vol_cons,grm_cons,show volB (itmZ r x).fW (itmZ r x).fH (itmZ r x).fD = volI (itmZ r x) from rfl]
   simp only [Option.some.injEq,L7.mk.injEq]
   constructor <;> omega
 · intro n s i hd _
   simp only [d_spec_l7Of_L1.eq_2]
   unfold d_spec_l7Of_L1_B
   simp only [hd,cond_false]
   simp [volM,grmM,itsM]
def witB (r:Request) (us:List Int) (t:Typ):Bool:=decide (volM r us ≤ volT t) && decide (grmM r us ≤ t.fGram)
theorem s_l7Room {fu:Nat} (r:Request) (t:Typ) (us:List Int) (u:Int) (hl:us.length < 1048576) (hf:us.length + 1 < fu):d_spec_l7Room fu r (untM r) t us u = some (witB r (us ++ [u]) t):=by
 unfold d_spec_l7Room d_spec_l7Room_J1 witB
 rw [ap1 (by simp; omega),ob_some,List.nil_append,ap1 (by simp; omega),ob_some,s_l7Of r _ (by simp; omega) (by simp; omega),ob_some,s_vol,ob_some]
 show (bif decide (volM r (us ++ [u]) ≤ volT t) then _ else _) = _
 cases decide (volM r (us ++ [u]) ≤ volT t) <;> simp
theorem i_within {fu:Nat} {r:Request} (h:Sm fu r) (t:Typ) (us:List Int) (hl:us.length ≤ 1048576):d_impl_within fu r us t = some (witB r us t):=by
 have hfu:=h.fu
 unfold d_impl_within witB
 rw [i_volOf h us hl (by omega),ob_some,i_vol,ob_some,i_grm h us hl (by omega)]
 show (bif decide (volM r us ≤ volT t) then _ else _) = _
 cases decide (volM r us ≤ volT t) <;> simp
theorem i_room1 {fu:Nat} {r:Request} (h:Sm fu r) (us:List Int) (u:Int) (hl:us.length < 1048576):d_impl_Room fu r us u = some (clsM r == 0 && witB r (us ++ [u]) (masM r)):=by
 have hfu:=h.fu
 unfold d_impl_Room d_slices_Clone_int_int
 rw [i_mas h,ob_some,i_sound h,ob_some]
 cases hc:clsM r == 0
 · rfl
 · rw [cond_true,ap1 (by simp; omega),ob_some,ob_some,List.nil_append,ap1 (by simp; omega),ob_some,i_within h _ _ (by simp; omega)]
   rfl
def mayB (r:Request) (us:List Int) (u:Int):Bool:=(itsM r us).all fun x=>(itsM r [u]).all fun y=>mutB r.fPairs x.fClass y.fClass
theorem i_may {fu:Nat} {r:Request} (h:Sm fu r) (us:List Int) (u:Int) (hl:us.length ≤ 1048576):d_impl_mayLie fu r us u = some (mayB r us u):=by
 have hfu:=h.fu
 have hil:=itsM_len r us
 have hiu:=itsM_len r [u]
 simp only [List.length_singleton] at hiu
 unfold d_impl_mayLie
 rw [i_items h [u] (by simp) (by simp; omega),ob_some,i_items h us hl (by omega),ob_some]
 rw [i_anyItem _ (fun x=>(itsM r [u]).any fun y=>!mutB r.fPairs x.fClass y.fClass) ?_ (by omega) (by omega),ob_some]
 · unfold mayB
   congr 1
   rw [List.not_any_eq_all_not]
   congr 1
   funext x
   rw [List.not_any_eq_all_not]
   congr 1
   funext y
   simp
 · intro x _
   unfold d_impl_mayLie_1
   rw [i_anyItem _ (fun y=>!mutB r.fPairs x.fClass y.fClass) ?_ (by omega) (by omega),ob_some]
   intro y _
   unfold d_impl_mayLie_1_1
   rw [i_mut h.pairs (by have:=h.pairs; omega),ob_some]
theorem itsM_one {r:Request} {u:Int} {x:Item} (h:itmM r u = some x):itsM r [u] = [x]:=by simp [itsM,List.filterMap_cons,h]
theorem s_may {fu:Nat} {r:Request} (h:Sm fu r) (us:List Int) (u:Int) (hl:us.length ≤ 1048576) (hu:0 ≤ u ∧ u < (untM r).length) (hm:∀ y ∈ us,0 ≤ y ∧ y < (untM r).length):d_spec_l18May fu r (untM r) us u = some (mayB r us u):=by
 have hfu:=h.fu
 obtain ⟨_,x,_,_,hx⟩:=itmM_in hu
 unfold d_spec_l18May mayB
 rw [s_item,ob_some,itsM_one hx,show itmZ r u = x by unfold itmZ; rw [hx]; rfl]
 have:=lpI us (fun n (_:Unit) i=>d_spec_l18May_L1 fu r (untM r) us (x,(itmM r u).isSome) n i) (fun l _=>some ((itsM r l).all fun y=>[x].all fun z=>mutB r.fPairs y.fClass z.fClass)) (fun l _=>∀ y ∈ l,0 ≤ y ∧ y < (untM r).length) (by omega) ?_ ?_ fu () hm (by omega)
 · exact this
 · intro n _ i y ys hy hd hI ih
   obtain ⟨_,z,_,_,hz⟩:=itmM_in (hI y (by simp))
   have ih':=ih () fun w hw=>hI w (by simp [hw])
   simp only [d_spec_l18May_L1.eq_2]
   unfold d_spec_l18May_L1_B d_spec_l18May_J2 d_spec_l18May_J1
   rw [hd,cond_true,hy,ob_some,s_item,ob_some,show itmZ r y = z by unfold itmZ; rw [hz]; rfl,s_bes h.pairs (by have:=h.pairs; omega),ob_some,s_bes h.pairs (by have:=h.pairs; omega),ob_some,ih']
   unfold itsM
   simp only [List.filterMap_cons,hz,List.all_cons,List.all_nil,Bool.and_true,mutB]
   cases besB r.fPairs x.fClass z.fClass <;> cases besB r.fPairs z.fClass x.fClass <;> simp
 · intro n _ i hd _
   simp only [d_spec_l18May_L1.eq_2]
   unfold d_spec_l18May_L1_B
   simp [hd,itsM]
end Go.Proofs.YthddjkokpfdbnaaGreat
/- slices.DeleteFunc at numbers, places. -/
namespace Go.Proofs.YthddjkokpfdbnaaGreat
open Go
open Enc (rd ow)
open Arg (argv)
open Ret (retv)
open Wf (wf)
theorem i_places {fu:Nat} (n:Nat) (hn:n ≤ 1048576) (hf:n < fu):d_impl_places fu (n:Int) = some (ints 0 n):=by
 unfold d_impl_places
 have:=lpNI (n:Int) (fun k out i=>d_impl_places_L1 fu (n:Int) k out i) (fun xs out=>some (out ++ xs)) (fun xs out=>out.length + xs.length ≤ 1048576) (by omega) ?_ ?_ n fu [] 0 (by omega) (by omega) hf (by simpa [ints_len] using hn)
 · simpa using this
 · intro k out i xs h0 h1 hd hI ih
   simp only [List.length_cons] at hI
   simp only [d_impl_places_L1.eq_2]
   unfold d_impl_places_L1_B
   rw [hd,cond_true,ap1 (by simp; omega),ob_some,ih _ (by simp; omega)]
   simp
 · intro k out i hd hI
   simp only [d_impl_places_L1.eq_2]
   unfold d_impl_places_L1_B
   simp only [hd,cond_false]
   simp
theorem fnd_pre {α:Type} (g:α → Bool):∀ (l pre:List α),(fndI g l pre.length = -1 ∧ ∀ x ∈ l,g x = false) ∨ (∃ a x b,l = a ++ x :: b ∧ (∀ y ∈ a,g y = false) ∧ g x = true ∧ fndI g l pre.length = ((pre.length + a.length:Nat):Int))
 | [],pre=>.inl ⟨rfl,by simp⟩
 | x :: xs,pre=>by
  simp only [fndI]
  by_cases hx:g x = true
  · rw [hx,cond_true]; exact .inr ⟨[],x,xs,rfl,by simp,hx,by simp⟩
  · have hx':g x = false:=by simpa using hx
    rw [hx',cond_false]
    have:=fnd_pre g xs (pre ++ [x])
    simp only [List.length_append,List.length_singleton] at this
    rw [show ((pre.length + 1:Nat):Int) = (pre.length:Int) + 1 by omega] at this
    rcases this with ⟨h1,h2⟩ | ⟨a,y,b,h1,h2,h3,h4⟩
    · exact .inl ⟨h1,by simpa [hx'] using h2⟩
    · exact .inr ⟨x :: a,y,b,by simp [h1],by simpa [hx'] using h2,h3,by rw [h4]; simp; omega⟩
theorem i_del {fu:Nat} {l:List Int} (f:Int → Option Bool) (g:Int → Bool) (hg:∀ x ∈ l,f x = some (g x)) (hl:l.length ≤ 1048576) (hf:l.length < fu):d_slices_DeleteFunc_int_int fu l f = some (l.filter fun x=>!g x):=by
 unfold d_slices_DeleteFunc_int_int
 rw [i_idxInt f g hg hl hf,ob_some]
 have hp:=fnd_pre g l []
 simp only [List.length_nil,Nat.zero_add] at hp
 rcases hp with ⟨h1,h2⟩ | ⟨a,x,b,h1,h2,h3,h4⟩
 · have h1':fndI g l 0 = -1:=h1
   rw [h1',bif_true (by simp)]
   congr 1
   exact (List.filter_eq_self.2 fun y hy=>by simp [h2 y hy]).symm
 · have h4':fndI g l 0 = (a.length:Int):=h4
   rw [h4',bif_false (by simp)]
   have key:∀ (rest kept mid pre:List Int) (n:Nat),l = pre ++ rest → kept = pre.filter (fun x=>!g x) → mid ≠ [] → kept.length + mid.length = pre.length → rest.length < n →
       d_slices_DeleteFunc_int_int_L1 fu f n (kept ++ mid ++ rest) (kept.length:Int) (pre.length:Int) = some (l.filter fun x=>!g x):=by
    intro rest
    induction rest with
    | nil =>
     intro kept mid pre n e1 e2 e3 e4 hn
     obtain ⟨n,rfl⟩:∃ j,n = j + 1:=⟨n - 1,by omega⟩
     rw [d_slices_DeleteFunc_int_int_L1.eq_2]
     unfold d_slices_DeleteFunc_int_int_L1_B
     simp only [List.append_nil] at *
     subst e1
     rw [bif_false (by simp; omega),sls_some ⟨by omega,by simp; omega,by omega⟩,ob_some,sls_some ⟨by omega,by omega,by simp [clrd]; omega⟩,ob_some]
     rw [← e2]
     simp [clrd]
    | cons y rest ih =>
     intro kept mid pre n e1 e2 e3 e4 hn
     obtain ⟨n,rfl⟩:∃ j,n = j + 1:=⟨n - 1,by simp at hn; omega⟩
     have hlen:l.length = pre.length + (rest.length + 1):=by rw [e1]; simp
     have hyl:y ∈ l:=by rw [e1]; simp
     obtain ⟨m,ms,rfl⟩:∃ m ms,mid = m :: ms:=by
      cases mid with
      | nil=>exact absurd rfl e3
      | cons m ms=>exact ⟨m,ms,rfl⟩
     simp only [List.length_cons] at e4 hn
     have hx:ix (kept ++ (m :: ms) ++ y :: rest) (pre.length:Int) = some y:=by
      rw [ix_nat,List.getElem?_append_right (by simp; omega)]
      simp only [List.length_append,List.length_cons]
      rw [show pre.length - (kept.length + (ms.length + 1)) = 0 by omega]; rfl
     have hk:ix (kept ++ (m :: ms) ++ y :: rest) (kept.length:Int) = some m:=by
      rw [ix_nat]; simp
     rw [d_slices_DeleteFunc_int_int_L1.eq_2]
     unfold d_slices_DeleteFunc_int_int_L1_B d_slices_DeleteFunc_int_int_J1
     rw [bif_true (by simp; omega),hx,ob_some,hg y hyl,ob_some]
     cases hgy:g y
     · rw [Bool.not_false,cond_true,hk,ob_some,w64_s _ (by omega),w64_s _ (by omega)]
       have e5:setx (kept ++ (m :: ms) ++ y :: rest) (kept.length:Int) y = (kept ++ [y]) ++ (ms ++ [y]) ++ rest:=by simp [setx]
       rw [e5]
       have:=ih (kept ++ [y]) (ms ++ [y]) (pre ++ [y]) n (by simp [e1]) (by rw [e2,List.filter_append]; simp [hgy]) (by simp) (by simp; omega) (by omega)
       simp only [List.length_append,List.length_singleton] at this
       exact this
     · rw [Bool.not_true,cond_false,w64_s _ (by omega)]
       have:=ih kept ((m :: ms) ++ [y]) (pre ++ [y]) n (by simp [e1]) (by rw [e2,List.filter_append]; simp [hgy]) (by simp) (by simp; omega) (by omega)
       simp only [List.length_append,List.length_singleton] at this
       rw [show kept ++ (m :: ms) ++ y :: rest = kept ++ ((m :: ms) ++ [y]) ++ rest by simp]
       exact this
   have hlen:l.length = a.length + (b.length + 1):=by rw [h1]; simp
   have ha:a.filter (fun x=>!g x) = a:=List.filter_eq_self.2 fun y hy=>by simp [h2 y hy]
   have:=key b a [x] (a ++ [x]) fu (by simp [h1]) (by rw [List.filter_append,ha]; simp [h3]) (by simp) (by simp) (by omega)
   rw [w64_s _ (by omega)]
   simp only [List.length_append,List.length_singleton] at this
   rw [show a ++ [x] ++ b = l by simp [h1]] at this
   exact this
end Go.Proofs.YthddjkokpfdbnaaGreat
/- How often a number stands in a list, by spec. -/
namespace Go.Proofs.YthddjkokpfdbnaaGreat
open Go
open Enc (rd ow)
open Arg (argv)
open Ret (retv)
open Wf (wf)
end Go.Proofs.YthddjkokpfdbnaaGreat
/- Orders in the laws: their size, copies, equality. -/
namespace Go.Proofs.YthddjkokpfdbnaaGreat
open Go
open Enc (rd ow)
open Arg (argv)
open Ret (retv)
open Wf (wf)
end Go.Proofs.YthddjkokpfdbnaaGreat
/- Lists of lists of numbers in the laws: their size, copies. -/
namespace Go.Proofs.YthddjkokpfdbnaaGreat
open Go
open Enc (rd ow)
open Arg (argv)
open Ret (retv)
open Wf (wf)
def lensL:List (List Int) → Nat
 | []=>0
 | x :: xs=>x.length + lensL xs
end Go.Proofs.YthddjkokpfdbnaaGreat
/- IsPacking of spec and of impl. -/
namespace Go.Proofs.YthddjkokpfdbnaaGreat
open Go
open Enc (rd ow)
open Arg (argv)
open Ret (retv)
open Wf (wf)
def thrM (r:Request) (us:List Int):List Int:=us.filter fun u=>inb u 0 (((untM r).length:Int) - 1)
def perB (a b:List Int):Bool:=decide ((a.mergeSort fun x y=>decide (x ≤ y)) = b.mergeSort fun x y=>decide (x ≤ y))
theorem perB_iff {a b:List Int}:perB a b = true ↔ a.Perm b:=by
 unfold perB
 rw [decide_eq_true_iff]
 constructor
 · intro h
   have h1:=List.mergeSort_perm a fun x y=>decide (x ≤ y)
   rw [h] at h1
   exact h1.symm.trans (List.mergeSort_perm b _)
 · intro h
   exact le_uniq (((List.mergeSort_perm a _).trans h).trans (List.mergeSort_perm b _).symm) (mergeSort_le a) (mergeSort_le b)
theorem i_there {fu:Nat} {r:Request} (h:Sm fu r) (us:List Int) (hl:us.length ≤ 1048576):d_impl_thereOf fu r us = some (thrM r us):=by
 have hfu:=h.fu
 unfold d_impl_thereOf d_slices_Clone_int_int thrM
 rw [i_unt h,ob_some,ap1 (by simp; omega),ob_some,ob_some,List.nil_append,i_del _ (fun u=>!inb u 0 (((untM r).length:Int) - 1)) ?_ hl (by omega),ob_some]
 · simp
 · intro u _
   unfold d_impl_thereOf_1
   rw [w64_len,i_in,ob_some]
theorem zip_all:∀ (a b:List Int),a.length = b.length → ((a.zip b).all fun p=>p.1 == p.2) = decide (a = b)
 | [],[],_=>rfl
 | [],_ :: _,h=>by simp at h
 | _ :: _,[],h=>by simp at h
 | x :: a,y :: b,h=>by
  rw [List.zip_cons_cons,List.all_cons,zip_all a b (by simpa using h)]
  by_cases hx:x = y <;> simp [hx]
theorem i_equal {fu:Nat} (a b:List Int) (hl:a.length ≤ 1048576) (hf:a.length < fu):d_slices_Equal_int_int fu a b = some (decide (a = b)):=by
 unfold d_slices_Equal_int_int
 by_cases h:a.length = b.length
 · rw [bif_false (by simp [h])]
   have hz:(a.zip b).length = a.length:=by rw [List.length_zip]; omega
   have:=lp (a.zip b) (fun n (_:Unit) i=>d_slices_Equal_int_int_L1 fu a b n i) (fun l _=>some (l.all fun p=>p.1 == p.2)) (by omega) ?_ ?_ fu () (by omega)
   · rw [zip_all a b h] at this
     exact this
   · intro n _ i p xs hp hd ih
     obtain ⟨h1,_,h2⟩:=ix_some hp
     rw [List.getElem?_zip_eq_some] at h2
     rw [hz] at hd
     have e1:ix a i = some p.1:=by unfold ix; rw [if_pos h1]; exact h2.1
     have e2:ix b i = some p.2:=by unfold ix; rw [if_pos h1]; exact h2.2
     simp only [d_slices_Equal_int_int_L1.eq_2]
     unfold d_slices_Equal_int_int_L1_B
     rw [hd,cond_true,e1,ob_some,e2,ob_some,ih (),List.all_cons]
     by_cases hx:p.1 = p.2
     · rw [bif_false (by simp [hx])]; simp [hx]
     · rw [bif_true (by simpa using hx)]; simp [hx]
   · intro n _ i hd
     rw [hz] at hd
     simp only [d_slices_Equal_int_int_L1.eq_2]
     unfold d_slices_Equal_int_int_L1_B
     simp [hd]
 · rw [bif_true (by simp; omega)]
   have:a ≠ b:=fun e=>h (by rw [e])
   simp [this]
theorem sortI_some {xs:List Int} (h:xs.length ≤ 1048576):sortI xs = some (xs.mergeSort fun x y=>decide (x ≤ y)):=by
 unfold sortI
 rw [if_pos (by omega)]
def okC (r:Request) (l:List Int):Bool:=l.length != 0 && witB r l (masM r)
def packB (r:Request) (us:List Int) (cs:List (List Int)):Bool:=clsM r == 0 && (cs.all (okC r) && perB cs.flatten (thrM r us))
theorem thrM_len (r:Request) (us:List Int):(thrM r us).length ≤ us.length:=List.length_filter_le _ _
theorem i_pack {fu:Nat} {r:Request} (h:Sm fu r) (us:List Int) (cs:List (List Int)) (hu:us.length ≤ 1048576) (hl:cs.length ≤ 1048576) (hs:lensL cs ≤ 1048576):d_impl_IsPacking fu r us cs = some (packB r us cs):=by
 have hfu:=h.fu
 unfold d_impl_IsPacking packB
 rw [i_sound h,ob_some]
 cases hc:clsM r == 0
 · rfl
 rw [Bool.not_true,cond_false,i_mas h,ob_some,Bool.true_and]
 have ht:=thrM_len r us
 have:=lpI cs (fun n all i=>d_impl_IsPacking_L1 fu r us cs (othM (typM r r.fMaster)) n all i) (fun xs all=>some (xs.all (okC r) && perB (all ++ xs.flatten) (thrM r us))) (fun xs all=>all.length + lensL xs ≤ 1048576) (by omega) ?_ ?_ fu [] (by simpa using hs) (by omega)
 · simpa using this
 · intro n all i x xs hx hd hI ih
   simp only [lensL] at hI
   simp only [d_impl_IsPacking_L1.eq_2]
   unfold d_impl_IsPacking_L1_B d_impl_IsPacking_J2 d_impl_IsPacking_J1
   rw [hd,cond_true,hx,ob_some,i_within h _ _ (by omega),ob_some,ap1 (by omega),ob_some,ih _ (by simp; omega),List.all_cons,List.flatten_cons,← List.append_assoc]
   unfold okC
   rw [show (othM (typM r r.fMaster)).1 = masM r from rfl]
   by_cases hx0:x.length = 0
   · rw [bif_true (by simp [hx0])]; simp [hx0]
   · rw [bif_false (by simpa using hx0)]
     have e:(x.length != 0) = true:=by simpa using hx0
     cases witB r x (masM r) <;> simp [e]
 · intro n all i hd hI
   simp only [lensL] at hI
   simp only [d_impl_IsPacking_L1.eq_2]
   unfold d_impl_IsPacking_L1_B d_slices_Sort_int_int
   rw [hd,cond_false,i_there h us hu,ob_some,sortI_some (by omega),ob_some,sortI_some (by omega),ob_some,i_equal _ _ (by rw [List.length_mergeSort]; omega) (by rw [List.length_mergeSort]; omega),ob_some]
   simp [perB]
end Go.Proofs.YthddjkokpfdbnaaGreat
/- IsRival of spec and of impl. -/
namespace Go.Proofs.YthddjkokpfdbnaaGreat
open Go
open Enc (rd ow)
open Arg (argv)
open Ret (retv)
open Wf (wf)
def clsZ (r:Request) (u:Int):Int:=(itmZ r u).fClass
def allBes (r:Request) (c:List Int):Bool:=c.all fun x=>c.all fun y=>besB r.fPairs (clsZ r x) (clsZ r y)
def rivB (r:Request) (cs:List (List Int)):Bool:=packB r (ints 0 (untM r).length) cs && cs.all (allBes r)
theorem thr_mem {r:Request} {us:List Int} {u:Int} (h:u ∈ thrM r us):0 ≤ u ∧ u < (untM r).length:=by
 unfold thrM at h
 have:=(List.mem_filter.1 h).2
 rw [inb_iff] at this
 omega
theorem pack_mem {r:Request} {us:List Int} {cs:List (List Int)} (h:packB r us cs = true):∀ c ∈ cs,∀ u ∈ c,0 ≤ u ∧ u < (untM r).length:=by
 intro c hc u hu
 simp only [packB,Bool.and_eq_true] at h
 exact thr_mem (((perB_iff.1 h.2.2).mem_iff).1 (List.mem_flatten.2 ⟨c,hc,hu⟩))
theorem itmZ_in {r:Request} {u:Int} (h:0 ≤ u ∧ u < (untM r).length):itmM r u = some (itmZ r u):=by
 obtain ⟨_,x,_,_,hx⟩:=itmM_in h
 unfold itmZ
 rw [hx]; rfl
theorem itsM_map {r:Request}:∀ {l:List Int},(∀ u ∈ l,0 ≤ u ∧ u < (untM r).length) → itsM r l = l.map (itmZ r)
 | [],_=>rfl
 | u :: l,h=>by
  have ih:=itsM_map (r:=r) (l:=l) fun v hv=>h v (by simp [hv])
  unfold itsM at ih ⊢
  rw [List.filterMap_cons,itmZ_in (h u (by simp)),ih,List.map_cons]
theorem may_in {r:Request} {l:List Int} {u:Int} (hl:∀ u ∈ l,0 ≤ u ∧ u < (untM r).length) (hu:0 ≤ u ∧ u < (untM r).length):mayB r l u = l.all fun x=>mutB r.fPairs (clsZ r x) (clsZ r u):=by
 unfold mayB
 rw [itsM_map hl,itsM_one (itmZ_in hu),List.all_map]
 congr 1
 funext x
 simp [clsZ]
theorem all_may {r:Request} {l:List Int} (hl:∀ u ∈ l,0 ≤ u ∧ u < (untM r).length):(l.all fun u=>mayB r l u) = allBes r l:=by
 unfold allBes
 apply Bool.eq_iff_iff.2
 simp only [List.all_eq_true]
 constructor
 · intro h x hx y hy
   have:=h y hy
   rw [may_in hl (hl y hy)] at this
   have:=List.all_eq_true.1 this x hx
   simp only [mutB,Bool.and_eq_true] at this
   exact this.1
 · intro h u hu
   rw [may_in hl (hl u hu),List.all_eq_true]
   intro x hx
   simp only [mutB,Bool.and_eq_true]
   exact ⟨h x hx u hu,h u hu x hx⟩
theorem i_rival {fu:Nat} {r:Request} (h:Sm fu r) (cs:List (List Int)) (hl:cs.length ≤ 1048576) (hm:∀ x ∈ cs,x.length ≤ 1048576) (hs:lensL cs ≤ 1048576):d_impl_IsRival fu r cs = some (rivB r cs):=by
 have hfu:=h.fu
 have hul:=untM_len r
 unfold d_impl_IsRival rivB
 rw [i_unt h,ob_some,i_places _ (by omega) (by omega),ob_some,i_pack h _ cs (by rw [ints_len]; omega) hl hs,ob_some]
 cases hp:packB r (ints 0 (untM r).length) cs
 · rfl
 rw [Bool.not_true,cond_false,Bool.true_and]
 unfold d_slices_ContainsFunc_ints_int
 rw [i_idxInts (fun y=>d_impl_IsRival_1 fu y r) (fun c=>!allBes r c) (fun c hc=>by
  have hcl:=hm c hc
  have hcm:=pack_mem hp c hc
  unfold d_impl_IsRival_1
  rw [i_anyInt (fun y=>d_impl_IsRival_1_1 fu y r c) (fun u=>!mayB r c u) (fun u _=>by
   unfold d_impl_IsRival_1_1
   rw [i_may h c u hcl,ob_some]) hcl (by omega),ob_some,← all_may hcm,List.not_all_eq_any_not]) hl (by omega),ob_some,fndI_any _ cs 0 (by omega),ob_some]
 congr 1
 rw [List.not_any_eq_all_not]
 congr 1
 funext c
 simp
end Go.Proofs.YthddjkokpfdbnaaGreat
/- RivalBy of spec and of impl. -/
namespace Go.Proofs.YthddjkokpfdbnaaGreat
open Go
open Enc (rd ow)
open Arg (argv)
open Ret (retv)
open Wf (wf)
def optB (r:Request) (u:Int) (c:List Int):Bool:=witB r (c ++ [u]) (masM r) && mayB r c u
def optsM (r:Request) (out:List (List Int)) (u:Int):List Int:=(ints 0 out.length).filter fun i=>optB r u ((ix out i).getD [])
def putM (out:List (List Int)) (u:Int) (l:List Int) (t:Int):List (List Int) :=
 if (if t < 0 then t + l.length + 1 else t) < l.length then
  match ix l (if t < 0 then t + l.length + 1 else t) with
  | some j=>setx out j ((ix out j).getD [] ++ [u])
  | none=>out
 else out ++ [[u]]
def stepM (r:Request) (picks:List Int) (out:List (List Int)) (u:Int):List (List Int) :=
 putM out u (optsM r out u) (Int.tmod ((ix picks u).getD 0) ((optsM r out u).length + 1))
def rbyM (r:Request) (picks:List Int):List (List Int):=(ints 0 (untM r).length).foldl (stepM r picks) []
def okR (r:Request) (m:Nat) (out:List (List Int)):Prop:=out.length + m ≤ 12 ∧ ∀ c ∈ out,c.length + m ≤ 12 ∧ ∀ y ∈ c,0 ≤ y ∧ y < (untM r).length
theorem tmod_bd (p:Int) {n:Int} (h:0 < n):-n < Int.tmod p n ∧ Int.tmod p n < n:=by
 refine ⟨?_,Int.tmod_lt_of_pos p h⟩
 have:=Int.tmod_lt_of_pos (-p) h
 rw [Int.neg_tmod] at this
 omega
theorem tmod_two (p:Int) {n:Int} (h:0 < n):Int.tmod (Int.tmod p n + n) n = if Int.tmod p n < 0 then Int.tmod p n + n else Int.tmod p n:=by
 have hb:=tmod_bd p h
 rw [Int.tmod_eq_emod_of_nonneg (by omega)]
 split
 · exact Int.emod_eq_of_lt (by omega) (by omega)
 · rw [Int.add_emod_right]
   exact Int.emod_eq_of_lt (by omega) (by omega)
theorem opts_mem {r:Request} {out:List (List Int)} {u j:Int} (h:j ∈ optsM r out u):0 ≤ j ∧ j < out.length:=by
 have:=(List.mem_filter.1 h).1
 rw [ints_mem] at this
 omega
theorem put_ok {r:Request} {m:Nat} {out:List (List Int)} {u:Int} {l:List Int} {t:Int} (h:okR r (m + 1) out) (hu:0 ≤ u ∧ u < (untM r).length):okR r m (putM out u l t):=by
 obtain ⟨h1,h2⟩:=h
 have happ:okR r m (out ++ [[u]]):=by
  refine ⟨by simp; omega,fun c hc=>?_⟩
  rcases List.mem_append.1 hc with hc | hc
  · have:=h2 c hc
    exact ⟨by omega,this.2⟩
  · rw [List.mem_singleton.1 hc]
    exact ⟨by simp; omega,fun y hy=>by rw [List.mem_singleton.1 hy]; exact hu⟩
 have hout:okR r m out:=⟨by omega,fun c hc=>⟨by have:=(h2 c hc).1; omega,(h2 c hc).2⟩⟩
 unfold putM
 generalize (if t < 0 then t + (l.length:Int) + 1 else t) = q
 split
 · split
   · rename_i j _
     unfold setx
     refine ⟨by simp; omega,fun c hc=>?_⟩
     rcases List.mem_or_eq_of_mem_set hc with hc | hc
     · exact hout.2 c hc
     · subst hc
       cases hj:ix out j with
       | none=>exact ⟨by simp; omega,fun y hy=>by simp at hy; rw [hy]; exact hu⟩
       | some d =>
        have hd:=h2 d (ix_mem hj)
        refine ⟨by simp; omega,fun y hy=>?_⟩
        simp only [Option.getD_some,List.mem_append,List.mem_singleton] at hy
        rcases hy with hy | hy
        · exact hd.2 y hy
        · rw [hy]; exact hu
   · exact hout
 · exact happ
theorem ix_in {α:Type} {l:List α} {i:Int} (h0:0 ≤ i) (h1:i < l.length):∃ x,ix l i = some x:=by
 obtain ⟨j,rfl⟩:∃ j:Nat,i = j:=⟨i.toNat,by omega⟩
 exact ⟨_,ix_i (by omega)⟩
theorem s_rby {fu:Nat} {r:Request} (h:Sm fu r) (picks:List Int) (hpl:picks.length ≤ 1048576):d_spec_RivalBy fu r picks = some (rbyM r picks):=by
 have hfu:=h.fu
 have hul:=untM_len r
 unfold d_spec_RivalBy rbyM
 rw [s_cls h,ob_some]
 by_cases hc:clsM r = 0
 rotate_left
 · have:(clsM r != 0) = true:=by simpa using hc
   rw [this,cond_true]
   have:untM r = []:=by unfold untM; rw [bif_false (by simpa using hc)]
   rw [this]; rfl
 rw [bif_false (by simp [hc]),s_mas h,ob_some,s_l6 h (clsM_zero hc).1,ob_some]
 have e6:l6M r = untM r:=by unfold untM; simp [hc]
 rw [e6]
 have eput:∀ (k:List (List Int) → Int → Option (List (List Int))) (out:List (List Int)) (u:Int) (l:List Int) (t:Int),out.length ≤ 12 → (∀ c ∈ out,c.length ≤ 12) → l.length ≤ 12 → (∀ j ∈ l,0 ≤ j ∧ j < out.length) → -(l.length + 1:Int) < t → t < l.length + 1 → d_spec_RivalBy_J4 fu k out u l t = k (putM out u l t) (w64 (u + 1)):=by
  intro k out u l t ho hco hl hj ht1 ht2
  have e3:∀ t:Int,0 ≤ t → d_spec_RivalBy_J3 fu k out u l t = k (if t < l.length then match ix l t with | some j=>setx out j ((ix out j).getD [] ++ [u]) | none=>out else out ++ [[u]]) (w64 (u + 1)):=by
   intro t ht
   unfold d_spec_RivalBy_J3 d_spec_RivalBy_J1
   by_cases hlt:t < l.length
   · obtain ⟨j,hj1⟩:=ix_in ht hlt
     have hjm:=hj j (ix_mem hj1)
     obtain ⟨c,hc1⟩:=ix_in hjm.1 hjm.2
     have hcl:=hco c (ix_mem hc1)
     rw [bif_true (by simpa using hlt),hj1,ob_some,ob_some,hc1,ob_some,ap1 (by simp; omega),ob_some,ob_some,if_pos hlt]
     simp only [hc1,Option.getD_some]
   · rw [bif_false (by simpa using hlt),ap1 (by simp; omega),ob_some,if_neg hlt]
  unfold d_spec_RivalBy_J4 putM
  by_cases ht:t < 0
  · rw [bif_true (by simpa using ht),w64_id (n:=t + _) (by omega) (by omega),w64_id (by omega) (by omega),e3 _ (by omega),if_pos ht]
  · rw [bif_false (by simpa using ht),e3 _ (by omega),if_neg ht]
 have e1:∀ (k:List (List Int) → Int → Option (List (List Int))) (out:List (List Int)) (u:Int) (m:Nat),okR r (m + 1) out → 0 ≤ u → u < (untM r).length → d_spec_RivalBy_L1 fu k r picks (othM (typM r r.fMaster)) (untM r) out u fu [] 0 = k (stepM r picks out u) (w64 (u + 1)):=by
  intro k out u m ho hu0 hu1
  have ho1:=ho.1
  have:=lpNI (out.length:Int) (fun n list i=>d_spec_RivalBy_L1 fu k r picks (othM (typM r r.fMaster)) (untM r) out u n list i) (fun xs list=>(fun l=>k (putM out u l (Int.tmod ((ix picks u).getD 0) (l.length + 1))) (w64 (u + 1))) (list ++ xs.filter fun i=>optB r u ((ix out i).getD []))) (fun xs list=>list.length + xs.length ≤ 12 ∧ ∀ j ∈ list,0 ≤ j ∧ j < out.length) (by omega) ?_ ?_ out.length fu [] 0 (by omega) (by omega) (by omega) ⟨by simp [ints_len]; omega,by simp⟩
  · simpa [stepM,optsM] using this
  · intro n list i xs h0 h1 hd hI ih
    obtain ⟨hI1,hI2⟩:=hI
    simp only [List.length_cons] at hI1
    obtain ⟨c,hc1⟩:=ix_in h0 h1
    have hcm:=ho.2 c (ix_mem hc1)
    simp only [d_spec_RivalBy_L1.eq_2]
    unfold d_spec_RivalBy_L1_B d_spec_RivalBy_J2
    rw [hd,cond_true,hc1,ob_some,s_l7Room r _ c u (by omega) (by omega),ob_some,ob_some,s_may h c u (by omega) ⟨hu0,hu1⟩ hcm.2,ob_some,ap1 (by simp; omega),ob_some,ih list ⟨by omega,hI2⟩,List.filter_cons,hc1,Option.getD_some]
    rw [show (othM (typM r r.fMaster)).1 = masM r from rfl]
    rw [show optB r u c = (witB r (c ++ [u]) (masM r) && mayB r c u) from rfl]
    cases witB r (c ++ [u]) (masM r)
    · simp
    · cases mayB r c u
      · simp
      · rw [ih _ ⟨by simp; omega,fun j hj=>by
          rcases List.mem_append.1 hj with hj | hj
          · exact hI2 j hj
          · rw [List.mem_singleton.1 hj]; exact ⟨h0,h1⟩⟩]
        simp
  · intro n list i hd hI
    obtain ⟨hI1,hI2⟩:=hI
    simp only [List.length_nil,Nat.add_zero] at hI1
    simp only [d_spec_RivalBy_L1.eq_2]
    unfold d_spec_RivalBy_L1_B
    have hw:w64 (((list.length:Int)) + 1) = (list.length:Int) + 1:=w64_id (by omega) (by omega)
    rw [hd,cond_false,hw,List.filter_nil,List.append_nil,odiv_ok (by omega)]
    by_cases hp:u < picks.length
    · obtain ⟨p,hp1⟩:=ix_in hu0 hp
      have hb:=tmod_bd p (n:=(list.length:Int) + 1) (by omega)
      rw [bif_true (by simpa using hp),hp1,ob_some,ob_some,eput k out u list _ (by omega) (fun c hc=>by have:=(ho.2 c hc).1; omega) (by omega) hI2 hb.1 hb.2]
      rfl
    · have hp1:ix picks u = none:=by unfold ix; rw [if_pos hu0,List.getElem?_eq_none (by omega)]
      rw [bif_false (by simpa using hp),eput k out u list _ (by omega) (fun c hc=>by have:=(ho.2 c hc).1; omega) (by omega) hI2 (by omega) (by omega),hp1]
      simp
 have:=lpNI ((untM r).length:Int) (fun n out i=>d_spec_RivalBy_L2 fu r picks (othM (typM r r.fMaster)) (untM r) n out i) (fun xs out=>some (xs.foldl (stepM r picks) out)) (fun xs out=>okR r xs.length out) (by omega) ?_ ?_ (untM r).length fu [] 0 (by omega) (by omega) (by omega) ⟨by simp [ints_len]; omega,by simp⟩
 · exact this
 · intro n out i xs h0 h1 hd hI ih
   simp only [d_spec_RivalBy_L2.eq_2]
   unfold d_spec_RivalBy_L2_B
   rw [hd,cond_true,e1 _ out i xs.length hI h0 h1,ih (stepM r picks out i) (put_ok hI ⟨h0,h1⟩)]
   rfl
 · intro n out i hd _
   simp only [d_spec_RivalBy_L2.eq_2]
   unfold d_spec_RivalBy_L2_B
   rw [hd]; rfl
theorem i_rby {fu:Nat} {r:Request} (h:Sm fu r) (picks:List Int) (hpl:picks.length ≤ 1048576):d_impl_RivalBy fu r picks = some (rbyM r picks):=by
 have hfu:=h.fu
 have hul:=untM_len r
 unfold d_impl_RivalBy rbyM
 rw [i_unt h,ob_some]
 have e1:∀ (k:List (List Int) → Int → Option (List (List Int))) (out:List (List Int)) (u:Int) (m:Nat),okR r (m + 1) out → 0 ≤ u → u < (untM r).length → d_impl_RivalBy_L1 fu k r out u ((ix picks u).getD 0) fu [] 0 = k (stepM r picks out u) (w64 (u + 1)):=by
  intro k out u m ho hu0 hu1
  have ho1:=ho.1
  have hcz:(clsM r == 0) = true:=by
   cases hc:clsM r == 0
   · have:untM r = []:=by unfold untM; rw [hc]; rfl
     rw [this] at hu1
     simp at hu1
     omega
   · rfl
  have:=lpNI (out.length:Int) (fun n list i=>d_impl_RivalBy_L1 fu k r out u ((ix picks u).getD 0) n list i) (fun xs list=>(fun l=>k (putM out u l (Int.tmod ((ix picks u).getD 0) (l.length + 1))) (w64 (u + 1))) (list ++ xs.filter fun i=>optB r u ((ix out i).getD []))) (fun xs list=>list.length + xs.length ≤ 12 ∧ ∀ j ∈ list,0 ≤ j ∧ j < out.length) (by omega) ?_ ?_ out.length fu [] 0 (by omega) (by omega) (by omega) ⟨by simp [ints_len]; omega,by simp⟩
  · simpa [stepM,optsM] using this
  · intro n list i xs h0 h1 hd hI ih
    obtain ⟨hI1,hI2⟩:=hI
    simp only [List.length_cons] at hI1
    obtain ⟨c,hc1⟩:=ix_in h0 h1
    have hcm:=ho.2 c (ix_mem hc1)
    simp only [d_impl_RivalBy_L1.eq_2]
    unfold d_impl_RivalBy_L1_B d_impl_RivalBy_J2
    rw [hd,cond_true,hc1,ob_some,i_room1 h c u (by omega),ob_some,i_may h c u (by omega),ob_some,ap1 (by simp; omega),ob_some,ih list ⟨by omega,hI2⟩,List.filter_cons,hc1,Option.getD_some,hcz,Bool.true_and]
    rw [show optB r u c = (witB r (c ++ [u]) (masM r) && mayB r c u) from rfl]
    cases witB r (c ++ [u]) (masM r)
    · simp
    · cases mayB r c u
      · simp
      · rw [ih _ ⟨by simp; omega,fun j hj=>by
          rcases List.mem_append.1 hj with hj | hj
          · exact hI2 j hj
          · rw [List.mem_singleton.1 hj]; exact ⟨h0,h1⟩⟩]
        simp
  · intro n list i hd hI
    obtain ⟨hI1,hI2⟩:=hI
    simp only [List.length_nil,Nat.add_zero] at hI1
    simp only [d_impl_RivalBy_L1.eq_2]
    unfold d_impl_RivalBy_L1_B d_impl_RivalBy_J1
    have hw:w64 (((list.length:Int)) + 1) = (list.length:Int) + 1:=w64_id (by omega) (by omega)
    have hb:=tmod_bd ((ix picks u).getD 0) (n:=(list.length:Int) + 1) (by omega)
    rw [hd,cond_false,hw,List.filter_nil,List.append_nil,odiv_ok (by omega),ob_some,ob_some,w64_id (n:=Int.tmod _ _ + _) (by omega) (by omega),tmod_two _ (by omega)]
    generalize Int.tmod ((ix picks u).getD 0) ((list.length:Int) + 1) = t at hb ⊢
    unfold putM
    have e:t + ((list.length:Int) + 1) = t + list.length + 1:=by omega
    rw [e]
    have hk0:0 ≤ (if t < 0 then t + (list.length:Int) + 1 else t):=by split <;> omega
    have hk1:(if t < 0 then t + (list.length:Int) + 1 else t) < list.length + 1:=by split <;> omega
    generalize (if t < 0 then t + (list.length:Int) + 1 else t) = q at hk0 hk1 ⊢
    by_cases hq:q = list.length
    · rw [bif_true (by simp [hq]),ap1 (by simp; omega),ob_some,if_neg (by omega)]
    · have hlt:q < list.length:=by omega
      obtain ⟨j,hj1⟩:=ix_in hk0 hlt
      have hjm:=hI2 j (ix_mem hj1)
      obtain ⟨c,hc1⟩:=ix_in hjm.1 hjm.2
      have hcl:=(ho.2 c (ix_mem hc1)).1
      rw [bif_false (by simpa using hq),hj1,ob_some,ob_some,hc1,ob_some,ap1 (by simp; omega),ob_some,ob_some,if_pos hlt]
      simp only [hc1,Option.getD_some]
 have:=lpNI ((untM r).length:Int) (fun n out i=>d_impl_RivalBy_L2 fu r picks (untM r) n out i) (fun xs out=>some (xs.foldl (stepM r picks) out)) (fun xs out=>okR r xs.length out) (by omega) ?_ ?_ (untM r).length fu [] 0 (by omega) (by omega) (by omega) ⟨by simp [ints_len]; omega,by simp⟩
 · exact this
 · intro n out i xs h0 h1 hd hI ih
   simp only [d_impl_RivalBy_L2.eq_2]
   unfold d_impl_RivalBy_L2_B d_impl_RivalBy_J3
   rw [hd,cond_true,List.foldl_cons,← ih (stepM r picks out i) (put_ok hI ⟨h0,h1⟩),← e1 (d_impl_RivalBy_L2 fu r picks (untM r) n) out i xs.length hI h0 h1]
   by_cases hp:i < picks.length
   · obtain ⟨p,hp1⟩:=ix_in h0 hp
     rw [bif_true (by simpa using hp),hp1,ob_some]
     rfl
   · have hp1:ix picks i = none:=by unfold ix; rw [if_pos h0,List.getElem?_eq_none (by omega)]
     rw [bif_false (by simpa using hp),hp1]
     rfl
 · intro n out i hd _
   simp only [d_impl_RivalBy_L2.eq_2]
   unfold d_impl_RivalBy_L2_B
   rw [hd]; rfl
theorem rby_ok (r:Request) (picks:List Int):okR r 0 (rbyM r picks):=by
 have key:∀ (xs:List Int) (out:List (List Int)),okR r xs.length out → (∀ u ∈ xs,0 ≤ u ∧ u < (untM r).length) → okR r 0 (xs.foldl (stepM r picks) out):=by
  intro xs
  induction xs with
  | nil=>intro out h _; exact h
  | cons x xs ih=>intro out h hm; exact ih _ (put_ok h (hm x (by simp))) fun u hu=>hm u (by simp [hu])
 have hul:=untM_len r
 refine key _ [] ⟨by simp [ints_len]; omega,by simp⟩ fun u hu=>?_
 rw [ints_mem] at hu
 omega
end Go.Proofs.YthddjkokpfdbnaaGreat
/- Others' cartons that are drawn are there, and small. -/
namespace Go.Proofs.YthddjkokpfdbnaaGreat
open Go
open Enc (rd ow)
open Arg (argv)
open Ret (retv)
open Wf (wf)
end Go.Proofs.YthddjkokpfdbnaaGreat
/- SortDown, by spec and by impl (short lists). -/
namespace Go.Proofs.YthddjkokpfdbnaaGreat
open Go
open Enc (rd ow)
open Arg (argv)
open Ret (retv)
open Wf (wf)
def dnk (keys:List Int) (p:Int):Int:=- kf keys p
def insL (k:Int → Int) (x:Int):List Int → List Int → List Int
 | [],mid=>x :: mid
 | y :: ys,mid=>if k x < k y then insL k x ys (y :: mid) else (y :: ys).reverse ++ x :: mid
theorem insL_perm (k:Int → Int) (x:Int):∀ (ys mid:List Int),(insL k x ys mid).Perm (ys.reverse ++ x :: mid)
 | [],mid=>List.Perm.refl _
 | y :: ys,mid=>by
  unfold insL
  split
  · refine (insL_perm k x ys (y :: mid)).trans ?_
    rw [List.reverse_cons,List.append_assoc]
    refine List.Perm.append_left _ ?_
    exact List.Perm.swap _ _ _
  · exact List.Perm.refl _
theorem insL_sorted (k:Int → Int) (x:Int):∀ (ys mid:List Int),(ys.reverse ++ mid).Pairwise (lx k) → (∀ m ∈ mid,lx k x m) → (∀ p ∈ ys,p < x) → (insL k x ys mid).Pairwise (lx k)
 | [],mid,h,hm,_=>by
  unfold insL
  exact List.pairwise_cons.2 ⟨hm,by simpa using h⟩
 | y :: ys,mid,h,hm,hy=>by
  unfold insL
  rw [List.reverse_cons,List.append_assoc] at h
  split
  · rename_i hk
    refine insL_sorted k x ys (y :: mid) (by simpa using h) ?_ (fun p hp=>hy p (by simp [hp]))
    intro m hmm
    rcases List.mem_cons.1 hmm with rfl | hmm
    · exact .inl hk
    · exact hm m hmm
  · rename_i hk
    have hyx:lx k y x:=by
     have:=hy y (by simp)
     by_cases he:k y < k x
     · exact .inl he
     · exact .inr ⟨by omega,this⟩
    rw [List.reverse_cons,List.append_assoc]
    obtain ⟨h1,h2,h3⟩:=List.pairwise_append.1 h
    simp only [List.singleton_append] at h2 h3
    refine List.pairwise_append.2 ⟨h1,?_,?_⟩
    · simp only [List.singleton_append]
      obtain ⟨h4,h5⟩:=List.pairwise_cons.1 h2
      refine List.pairwise_cons.2 ⟨?_,List.pairwise_cons.2 ⟨hm,h5⟩⟩
      intro m hmm
      rcases List.mem_cons.1 hmm with rfl | hmm
      · exact hyx
      · exact h4 m hmm
    · intro a ha b hb
      simp only [List.singleton_append,List.mem_cons] at hb
      have hay:=h3 a ha y (by simp)
      rcases hb with rfl | rfl | hb
      · exact hay
      · exact lx_trans hay hyx
      · exact h3 a ha b (by simp [hb])
theorem insL_app (k:Int → Int) (x:Int):∀ (ys mid rest:List Int),insL k x ys (mid ++ rest) = insL k x ys mid ++ rest
 | [],mid,rest=>rfl
 | y :: ys,mid,rest=>by
  unfold insL
  split
  · exact insL_app k x ys (y :: mid) rest
  · simp
theorem ix_m {A:List Int} {y:Int} {B:List Int} {n:Nat} (h:A.length = n):ix (A ++ y :: B) (n:Int) = some y:=by subst h; rw [ix_nat]; simp
theorem setx_m {A:List Int} {y z:Int} {B:List Int} {n:Nat} (h:A.length = n):setx (A ++ y :: B) (n:Int) z = A ++ z :: B:=by subst h; simp [setx]
theorem ins_loop {fu:Nat} {f:Int → Int → Option Int} {k:Int → Int} (K9:List Int → Int → Option (List Int)) (i0:Int) (hf:∀ a b c,f a b = some c → (c < 0 ↔ k a < k b)) (x:Int) :
    ∀ (ys mid:List Int) (n:Nat),(∀ p ∈ ys,∃ c,f x p = some c) → ys.length < n → ys.length ≤ 1048576 → d_slices_insertionSortCmpFunc_int_L1 fu K9 0 f i0 n (ys.reverse ++ x :: mid) (ys.length:Int) = K9 (insL k x ys mid) (w64 (i0 + 1))
 | [],mid,n,_,hn,_=>by
  obtain ⟨n,rfl⟩:∃ j,n = j + 1:=⟨n - 1,by omega⟩
  rw [d_slices_insertionSortCmpFunc_int_L1.eq_2]
  unfold d_slices_insertionSortCmpFunc_int_L1_B insL
  rw [bif_false (by simp)]; rfl
 | y :: ys,mid,n,hy,hn,hl=>by
  simp only [List.length_cons] at hn hl
  obtain ⟨n,rfl⟩:∃ j,n = j + 1:=⟨n - 1,by omega⟩
  obtain ⟨c,hc⟩:=hy y (by simp)
  have hw:w64 (((y :: ys).length:Int) - 1) = (ys.length:Int):=by simp only [List.length_cons]; rw [w64_id (by omega) (by omega)]; omega
  have e0:(y :: ys).reverse ++ x :: mid = ys.reverse ++ y :: x :: mid:=by simp
  have e1:ix ((y :: ys).reverse ++ x :: mid) ((y :: ys).length:Int) = some x:=ix_m (by simp)
  have e2:ix ((y :: ys).reverse ++ x :: mid) (ys.length:Int) = some y:=by rw [e0]; exact ix_m (by simp)
  rw [d_slices_insertionSortCmpFunc_int_L1.eq_2]
  unfold d_slices_insertionSortCmpFunc_int_L1_B insL
  rw [bif_true (by simp),e1,ob_some,hw,e2,ob_some,hc,ob_some]
  by_cases hk:k x < k y
  · rw [if_pos hk,decide_eq_true ((hf _ _ _ hc).2 hk),cond_true]
    unfold d_slices_insertionSortCmpFunc_int_J1
    have e3:setx ((y :: ys).reverse ++ x :: mid) ((y :: ys).length:Int) y = (y :: ys).reverse ++ y :: mid:=setx_m (by simp)
    have e4:ix ((y :: ys).reverse ++ y :: mid) (ys.length:Int) = some y:=by rw [show (y :: ys).reverse ++ y :: mid = ys.reverse ++ y :: y :: mid by simp]; exact ix_m (by simp)
    have e5:setx ((y :: ys).reverse ++ y :: mid) (ys.length:Int) x = ys.reverse ++ x :: y :: mid:=by rw [show (y :: ys).reverse ++ y :: mid = ys.reverse ++ y :: y :: mid by simp]; exact setx_m (by simp)
    rw [hw,e2,ob_some,e1,ob_some,ob_some,e3,e4,ob_some,e5]
    exact ins_loop K9 i0 hf x ys (y :: mid) n (fun p hp=>hy p (by simp [hp])) (by omega) (by omega)
  · rw [if_neg hk,decide_eq_false (fun h=>hk ((hf _ _ _ hc).1 h)),cond_false]
def insA (k:Int → Int):List Int → List Int → List Int
 | P,[]=>P
 | P,x :: xs=>insA k (insL k x P.reverse []) xs
theorem insA_spec (k:Int → Int):∀ (xs P:List Int),P.Pairwise (lx k) → (∀ p ∈ P,∀ x ∈ xs,p < x) → xs.Pairwise (· < ·) → (insA k P xs).Perm (P ++ xs) ∧ (insA k P xs).Pairwise (lx k)
 | [],P,h,_,_=>by simpa [insA] using h
 | x :: xs,P,h,hp,hx=>by
  obtain ⟨h1,h2⟩:=List.pairwise_cons.1 hx
  have hs:(insL k x P.reverse []).Pairwise (lx k):=insL_sorted k x P.reverse [] (by simpa using h) (by simp) (fun p hp'=>hp p (by simpa using hp') x (by simp))
  have hpm:(insL k x P.reverse []).Perm (P ++ [x]):=by simpa using insL_perm k x P.reverse []
  have ih:=insA_spec k xs (insL k x P.reverse []) hs (fun p hp' y hy=>by
   rcases List.mem_append.1 (hpm.mem_iff.1 hp') with h' | h'
   · exact hp p h' y (by simp [hy])
   · rw [List.mem_singleton.1 h']; exact h1 y hy) h2
  refine ⟨?_,ih.2⟩
  unfold insA
  refine ih.1.trans ?_
  refine (hpm.append_right xs).trans ?_
  simp
theorem ins_all {fu:Nat} {f:Int → Int → Option Int} {k:Int → Int} (hfu:2097153 ≤ fu) (hf:∀ a b c,f a b = some c → (c < 0 ↔ k a < k b)) {n:Nat} (hn:n ≤ 1048576) (hin:∀ a b:Int,0 ≤ a → a < n → 0 ≤ b → b < n → ∃ c,f a b = some c) :
    ∀ (xs P:List Int) (m:Nat),xs.length < m → P.length + xs.length = n → (∀ p ∈ P ++ xs,0 ≤ p ∧ p < n) → d_slices_insertionSortCmpFunc_int_L2 fu 0 (n:Int) f m (P ++ xs) (P.length:Int) = some (insA k P xs)
 | [],P,m,hm,hl,_=>by
  obtain ⟨m,rfl⟩:∃ j,m = j + 1:=⟨m - 1,by omega⟩
  simp only [List.length_nil] at hl
  rw [d_slices_insertionSortCmpFunc_int_L2.eq_2]
  unfold d_slices_insertionSortCmpFunc_int_L2_B
  rw [bif_false (by simp; omega)]; simp [insA]
 | x :: xs,P,m,hm,hl,hp=>by
  simp only [List.length_cons] at hl hm
  obtain ⟨m,rfl⟩:∃ j,m = j + 1:=⟨m - 1,by omega⟩
  rw [d_slices_insertionSortCmpFunc_int_L2.eq_2]
  unfold d_slices_insertionSortCmpFunc_int_L2_B
  rw [bif_true (by simp; omega)]
  have key:=ins_loop (fu:=fu) (f:=f) (k:=k) (d_slices_insertionSortCmpFunc_int_L2 fu 0 (n:Int) f m) (P.length:Int) hf x P.reverse xs fu (fun p hp'=>by
   have h1:=hp p (by simp at hp'; simp [hp'])
   have h2:=hp x (by simp)
   exact hin x p h2.1 h2.2 h1.1 h1.2) (by simp; omega) (by simp; omega)
  rw [List.reverse_reverse,List.length_reverse] at key
  rw [key,w64_s _ (by omega)]
  have e:insL k x P.reverse xs = insL k x P.reverse [] ++ xs:=by
   have:=insL_app k x P.reverse [] xs
   simpa using this
  have hpm:(insL k x P.reverse []).Perm (P ++ [x]):=by simpa using insL_perm k x P.reverse []
  have hlen:(insL k x P.reverse []).length = P.length + 1:=by rw [hpm.length_eq]; simp
  rw [e]
  have ih:=ins_all hfu hf hn hin xs (insL k x P.reverse []) m (by omega) (by omega) (fun p hp'=>by
   rcases List.mem_append.1 hp' with h' | h'
   · rcases List.mem_append.1 (hpm.mem_iff.1 h') with h'' | h''
     · exact hp p (by simp [h''])
     · exact hp p (by rw [List.mem_singleton.1 h'']; simp)
   · exact hp p (by simp [h']))
  rw [hlen] at ih
  rw [ih]; rfl
theorem i_cmp (fu:Nat) (a b:Int):∃ c,d_impl_compare fu a b = some c ∧ (c < 0 ↔ a < b):=by
 unfold d_impl_compare
 by_cases h:a < b
 · exact ⟨-1,by simp [h],by simp [h]⟩
 · by_cases h2:a > b
   · exact ⟨1,by simp [h,h2],by simp [h]⟩
   · exact ⟨0,by simp [h,h2],by simp [h]⟩
theorem i_down {fu:Nat} {keys:List Int} (hfu:2097153 ≤ fu) (hl:keys.length < 20):d_impl_SortDown fu keys = some (srt (dnk keys) keys.length):=by
 unfold d_impl_SortDown d_slices_SortStableFunc_int_int d_slices_stableCmpFunc_int
 rw [i_places _ (by omega) (by omega),ob_some]
 obtain ⟨f,hfd⟩:∃ f:Int → Int → Option Int,f = fun a b=>d_impl_SortDown_1 fu a b keys:=⟨_,rfl⟩
 have hdef:∀ a b:Int,0 ≤ a → a < keys.length → 0 ≤ b → b < keys.length → ∃ c,f a b = some c ∧ (c < 0 ↔ dnk keys a < dnk keys b):=by
  intro a b ha ha' hb hb'
  obtain ⟨c,h1,h2⟩:=i_cmp fu (kf keys b) (kf keys a)
  refine ⟨c,?_,?_⟩
  · rw [hfd]
    show d_impl_SortDown_1 fu a b keys = _
    unfold d_impl_SortDown_1
    rw [kf_ix ⟨hb,hb'⟩,ob_some,kf_ix ⟨ha,ha'⟩,ob_some,h1,ob_some]
  · rw [h2]; unfold dnk; omega
 have hf:∀ a b c,f a b = some c → (c < 0 ↔ dnk keys a < dnk keys b):=by
  intro a b c h
  have h0:=h
  rw [hfd] at h
  change d_impl_SortDown_1 fu a b keys = _ at h
  unfold d_impl_SortDown_1 at h
  obtain ⟨x,hx,h⟩:=obind_some h
  obtain ⟨y,hy,h⟩:=obind_some h
  obtain ⟨b0,b1,_⟩:=ix_some hx
  obtain ⟨a0,a1,_⟩:=ix_some hy
  obtain ⟨d,h1,h2⟩:=hdef a b a0 a1 b0 b1
  rw [h0] at h1
  cases h1
  exact h2
 have ha:=ins_all (fu:=fu) (f:=f) (k:=dnk keys) hfu hf (n:=keys.length) (by omega) (fun a b h1 h2 h3 h4=>by obtain ⟨c,h,_⟩:=hdef a b h1 h2 h3 h4; exact ⟨c,h⟩)
 have hI:d_slices_insertionSortCmpFunc_int fu (ints 0 keys.length) 0 ((ints 0 keys.length).length:Int) f = some (srt (dnk keys) keys.length):=by
  unfold d_slices_insertionSortCmpFunc_int
  rw [ints_len,show w64 ((0:Int) + 1) = 1 by rw [w64_id (by omega) (by omega)]; rfl]
  cases hk:keys.length with
  | zero =>
   obtain ⟨m,rfl⟩:∃ m,fu = m + 1:=⟨fu - 1,by omega⟩
   rw [d_slices_insertionSortCmpFunc_int_L2.eq_2]
   unfold d_slices_insertionSortCmpFunc_int_L2_B
   rw [bif_false (by simp)]; rfl
  | succ n =>
   rw [hk] at ha
   have:=ha (ints 1 n) [0] fu (by rw [ints_len]; omega) (by rw [ints_len]; simp; omega) (fun p hp=>by
    have:p ∈ ints 0 (n + 1):=hp
    have:=ints_mem.1 this
    omega)
   have e:ints 0 (n + 1) = [0] ++ ints 1 n:=rfl
   rw [e]
   have h1:(([0]:List Int).length:Int) = 1:=rfl
   rw [h1] at this
   rw [this]
   congr 1
   have hsp:=insA_spec (dnk keys) (ints 1 n) [0] (by simp) (fun p hp x hx=>by
    have:=ints_mem.1 hx
    rw [List.mem_singleton.1 hp]; omega) (ints_lt _ _)
   exact srt_uniq hsp.1 hsp.2
 obtain ⟨m,rfl⟩:∃ m,fu = m + 1:=⟨fu - 1,by omega⟩
 rw [d_slices_stableCmpFunc_int_L3.eq_2]
 unfold d_slices_stableCmpFunc_int_L3_B
 rw [bif_false (by rw [ints_len]; simp; omega)]
 rw [← hfd,hI,ob_some,d_slices_stableCmpFunc_int_L2.eq_2]
 unfold d_slices_stableCmpFunc_int_L2_B
 rw [bif_false (by rw [ints_len]; simp; omega)]
 rfl
end Go.Proofs.YthddjkokpfdbnaaGreat
/- Transitive of spec and of impl; where it is, groups are apart. -/
namespace Go.Proofs.YthddjkokpfdbnaaGreat
open Go
open Enc (rd ow)
open Arg (argv)
open Ret (retv)
open Wf (wf)
structure Sep (p:List Pair) (P:List Int) (out:List (List Int)):Prop where
 ne:∀ g ∈ out,g ≠ []
 inn:∀ g ∈ out,∀ x ∈ g,x ∈ P
 one:∀ g ∈ out,∀ x ∈ g,∀ y ∈ g,x ≠ y → mutB p x y = true
 two:∀ (i j:Nat) (g h:List Int),out[i]? = some g → out[j]? = some h → i ≠ j → ∀ x ∈ g,∀ y ∈ h,mutB p x y = false
end Go.Proofs.YthddjkokpfdbnaaGreat
/- Holds and Cheapest, by spec and by impl. -/
namespace Go.Proofs.YthddjkokpfdbnaaGreat
open Go
open Enc (rd ow)
open Arg (argv)
open Ret (retv)
open Wf (wf)
theorem all_cong {α:Type} {p q:α → Bool}:∀ {l:List α},(∀ x ∈ l,p x = q x) → l.all p = l.all q
 | [],_=>rfl
 | x :: xs,h=>by rw [List.all_cons,List.all_cons,h x (by simp),all_cong fun y hy=>h y (by simp [hy])]
def uOk (r:Request) (t:Typ) (u:Int):Bool:=(itmM r u).isSome && fitB (itmZ r u) t
def hldB (r:Request) (us:List Int) (t:Typ):Bool:=clsM r == 0 && (us.all (uOk r t) && witB r us t)
theorem itm_isSome {r:Request} {u:Int}:(itmM r u).isSome = true ↔ 0 ≤ u ∧ u < (untM r).length:=by
 constructor
 · intro h
   apply Decidable.byContradiction
   intro hn
   rw [itmM_out hn] at h
   cases h
 · intro h
   rw [itmZ_in h]; rfl
theorem i_holds {fu:Nat} {r:Request} (h:Sm fu r) (us:List Int) (t:Typ) (hl:us.length ≤ 1048576):d_impl_Holds fu r us t = some (hldB r us t):=by
 have hfu:=h.fu
 have hil:=itsM_len r us
 unfold d_impl_Holds hldB
 rw [i_sound h,ob_some]
 cases hc:clsM r == 0
 · rfl
 · rw [Bool.not_true,cond_false,i_there h us hl,ob_some,Bool.true_and]
   by_cases ha:∀ u ∈ us,0 ≤ u ∧ u < (untM r).length
   · have e:thrM r us = us:=List.filter_eq_self.2 fun u hu=>by have:=ha u hu; simp; omega
     have e0:((us.length:Int) != (us.length:Int)) = false:=by simp
     rw [e,e0,cond_false]
     unfold d_impl_Holds_J1
     rw [i_items h us hl (by omega),ob_some,i_anyItem _ (fun x=>!fitB x t) ?_ (by omega) (by omega),ob_some]
     · rw [i_within h t us hl,ob_some,itsM_map ha,List.any_map]
       have e1:us.all (uOk r t) = !(us.any ((fun x=>!fitB x t) ∘ itmZ r)):=by
        rw [List.not_any_eq_all_not]
        apply all_cong
        intro u hu
        simp only [uOk,itm_isSome.2 (ha u hu),Bool.true_and,Function.comp,Bool.not_not]
       rw [e1]
       cases us.any ((fun x=>!fitB x t) ∘ itmZ r) <;> simp
     · intro x _
       unfold d_impl_Holds_1
       rw [i_fit,ob_some]
   · have hlt:(thrM r us).length < us.length:=by
       apply Decidable.byContradiction
       intro hn
       apply ha
       have e:(us.filter fun u=>inb u 0 (((untM r).length:Int) - 1)).length = us.length:=by
        have:=List.length_filter_le (fun u=>inb u 0 (((untM r).length:Int) - 1)) us
        have e':thrM r us = us.filter fun u=>inb u 0 (((untM r).length:Int) - 1):=rfl
        rw [e'] at hn
        omega
       intro u hu
       have:=List.length_filter_eq_length_iff.1 e u hu
       simp at this
       omega
     have e0:(((thrM r us).length:Int) != (us.length:Int)) = true:=by simp; omega
     rw [e0,cond_true]
     have e1:us.all (uOk r t) = false:=by
      apply Bool.eq_false_iff.2
      intro he
      apply ha
      intro u hu
      have:=List.all_eq_true.1 he u hu
      simp only [uOk,Bool.and_eq_true] at this
      exact itm_isSome.1 this.1
     rw [e1,Bool.false_and]
def chp (r:Request) (us:List Int) (s:Typ × Bool) (t:Typ):Typ × Bool :=
 bif hldB r us t && (!s.2 || (decide (t.fCost < s.1.fCost) || (t.fCost == s.1.fCost && decide (t.fId < s.1.fId)))) then (t,true) else s
def chpM (r:Request) (us:List Int):Typ × Bool:=r.fTypes.foldl (chp r us) (zTyp,false)
theorem i_cheap {fu:Nat} {r:Request} (h:Sm fu r) (us:List Int) (hl:us.length ≤ 1048576):d_impl_Cheapest fu r us = some (chpM r us):=by
 have hfu:=h.fu
 have ht:=h.types
 unfold d_impl_Cheapest
 have key:=lp r.fTypes (fun n (s:Typ × Bool) i=>d_impl_Cheapest_L1 fu r us n s.1 s.2 i) (fun l s=>some (l.foldl (chp r us) s)) (by omega) ?_ ?_ fu (zTyp,false) (by omega)
 · exact key
 · intro n s i x xs hx hd ih
   simp only [d_impl_Cheapest_L1.eq_2]
   unfold d_impl_Cheapest_L1_B d_impl_Cheapest_J1
   have ih':=fun a b=>ih (a,b)
   simp only at ih'
   obtain ⟨b,f⟩:=s
   simp only [hd,cond_true,hx,ob_some,i_holds h us x hl,ih',List.foldl_cons,chp]
   cases hldB r us x <;> cases f <;> cases decide (x.fCost < b.fCost) <;> cases x.fCost == b.fCost <;> cases decide (x.fId < b.fId) <;> rfl
 · intro n s i hd
   simp only [d_impl_Cheapest_L1.eq_2]
   unfold d_impl_Cheapest_L1_B
   simp only [hd,cond_false]
   rfl
end Go.Proofs.YthddjkokpfdbnaaGreat
/- Gross and BoxOf, by spec and by impl. -/
namespace Go.Proofs.YthddjkokpfdbnaaGreat
open Go
open Enc (rd ow)
open Arg (argv)
open Ret (retv)
open Wf (wf)
end Go.Proofs.YthddjkokpfdbnaaGreat
/- Within, Overlap, Pallets: by spec and by impl. -/
namespace Go.Proofs.YthddjkokpfdbnaaGreat
open Go
open Enc (rd ow)
open Arg (argv)
open Ret (retv)
open Wf (wf)
end Go.Proofs.YthddjkokpfdbnaaGreat
/- The two ways of packing, by spec and by impl. -/
namespace Go.Proofs.YthddjkokpfdbnaaGreat
open Go
open Enc (rd ow)
open Arg (argv)
open Ret (retv)
open Wf (wf)
def putF (g:List Int → Bool) (out:List (List Int)) (u:Int):List (List Int):=match fstI g out with
 | some i=>match out[i]? with
  | some x=>out.set i (x ++ [u])
  | none=>out
 | none=>out ++ [[u]]
def romB (r:Request) (u:Int) (l:List Int):Bool:=witB r (l ++ [u]) (masM r)
def fitF (r:Request) (out:List (List Int)) (u:Int):List (List Int):=putF (romB r u) out u
def nxtF (r:Request) (out:List (List Int)) (u:Int):List (List Int):=match out.getLast? with
 | some l=>bif romB r u l then out.set (out.length - 1) (l ++ [u]) else out ++ [[u]]
 | none=>[[u]]
theorem nxtF_some {r:Request} {out:List (List Int)} {l:List Int} (u:Int) (h:out.getLast? = some l):nxtF r out u = bif romB r u l then out.set (out.length - 1) (l ++ [u]) else out ++ [[u]]:=by unfold nxtF; rw [h]
def ordM (r:Request) (us:List Int):List Int:=(srt (dnk (us.map fun u=>volM r [u])) us.length).map fun p=>(ix us p).getD 0
def nfM (r:Request) (us:List Int):List (List Int):=(thrM r us).foldl (nxtF r) []
def ffM (r:Request) (us:List Int):List (List Int):=(ordM r (thrM r us)).foldl (fitF r) []
def pwM (r:Request) (us:List Int):List (List Int):=bif r.fWay == 1 then nfM r us else ffM r us
theorem putF_ok {g:List Int → Bool} {out:List (List Int)} {n:Nat} (u:Int) (h:okG n out):okG (n + 1) (putF g out u):=by
 obtain ⟨h1,h2⟩:=h
 unfold putF
 split
 · rename_i i hi
   split
   · rename_i x hx
     refine ⟨by simp; omega,fun l hl=>?_⟩
     rcases List.mem_or_eq_of_mem_set hl with hl | rfl
     · have:=h2 l hl; omega
     · have:=h2 x (List.mem_of_getElem? hx); simp; omega
   · exact ⟨by omega,fun l hl=>by have:=h2 l hl; omega⟩
 · refine ⟨by simp; omega,fun l hl=>?_⟩
   rcases List.mem_append.1 hl with hl | hl
   · have:=h2 l hl; omega
   · rw [List.mem_singleton.1 hl]; simp
theorem nxtF_ok {r:Request} {out:List (List Int)} {n:Nat} (u:Int) (h:okG n out):okG (n + 1) (nxtF r out u):=by
 obtain ⟨h1,h2⟩:=h
 unfold nxtF
 split
 · rename_i x hx
   have hm:=List.mem_of_getLast? hx
   cases romB r u x
   · refine ⟨by simp; omega,fun l hl=>?_⟩
     rcases List.mem_append.1 hl with hl | hl
     · have:=h2 l hl; omega
     · rw [List.mem_singleton.1 hl]; simp
   · refine ⟨by simp; omega,fun l hl=>?_⟩
     rcases List.mem_or_eq_of_mem_set hl with hl | rfl
     · have:=h2 l hl; omega
     · have:=h2 x hm; simp; omega
 · exact ⟨by simp,fun l hl=>by rw [List.mem_singleton.1 hl]; simp⟩
theorem fold_ok {F:List (List Int) → Int → List (List Int)} (hF:∀ out n u,okG n out → okG (n + 1) (F out u)):∀ (l:List Int) {out:List (List Int)} {n:Nat},okG n out → okG (n + l.length) (l.foldl F out)
 | [],_,_,h=>h
 | u :: l,out,n,h=>by
  have:=fold_ok hF l (hF out n u h)
  rw [List.foldl_cons,List.length_cons,show n + (l.length + 1) = n + 1 + l.length by omega]
  exact this
theorem thr_le {r:Request} {us:List Int} (h:us.length ≤ 12):(thrM r us).length ≤ 12:=Nat.le_trans (thrM_len r us) h
theorem ordM_len (r:Request) (us:List Int):(ordM r us).length = us.length:=by simp [ordM,srt_len]
theorem pwM_ok {r:Request} {us:List Int} (h:us.length ≤ 12):okG 12 (pwM r us):=by
 have ht:=thr_le (r:=r) h
 have h0:okG 0 ([]:List (List Int)):=⟨by simp,by simp⟩
 unfold pwM
 cases r.fWay == 1
 · have:=fold_ok (F:=fitF r) (fun out n u ho=>putF_ok u ho) (ordM r (thrM r us)) h0
   rw [ordM_len] at this
   exact ⟨by have:=this.1; simp only [cond_false]; unfold ffM; omega,fun l hl=>by have:=this.2 l hl; omega⟩
 · have:=fold_ok (F:=nxtF r) (fun out n u ho=>nxtF_ok u ho) (thrM r us) h0
   exact ⟨by have:=this.1; simp only [cond_true]; unfold nfM; omega,fun l hl=>by have:=this.2 l hl; omega⟩
theorem put_atF {g:List Int → Bool} {out:List (List Int)} {c:Int} {n:Nat} (h:okG n out) (hn:n ≤ 1048576) {β:Type} (k:List (List Int) → Option β) (a:Int) (ha:a = match fstI g out with | some i=>(i:Int) | none=>-1) :
    (bif (decide (a < 0)) then obind (apnd 24 out [([c]:List Int)]) fun x=>k x else obind (ix out a) fun x=>obind (apnd 8 x (([c]:List Int))) fun y=>obind (ix out a) fun z=>k (setx out a y)) = k (putF g out c):=by
 obtain ⟨h1,h2⟩:=h
 unfold putF
 cases hf:fstI g out with
 | none =>
  rw [hf] at ha
  simp only at ha
  subst ha
  rw [bif_true (by simp),ap1 (by simp; omega),ob_some]
 | some i =>
  rw [hf] at ha
  simp only at ha
  subst ha
  obtain ⟨x,hx,_⟩:=fstI_lt hf
  have:=h2 x (List.mem_of_getElem? hx)
  rw [bif_false (by simp),ix_nat,hx,ob_some,ap1 (by simp; omega),ob_some,ob_some]
  simp [setx,hx]
theorem thr_cls {r:Request} (h:(clsM r == 0) = false) (us:List Int):thrM r us = []:=by
 unfold thrM untM
 rw [h]
 apply List.filter_eq_nil_iff.2
 intro u _
 simp; omega
theorem last_at {α:Type} {out:List α} (h:out ≠ []):∃ l,out.getLast? = some l ∧ ix out ((out.length:Int) - 1) = some l:=by
 cases hl:out.getLast? with
 | none=>exact absurd (List.getLast?_eq_none_iff.1 hl) h
 | some l =>
  have hp:=List.length_pos_iff.2 h
  refine ⟨l,rfl,?_⟩
  rw [show (out.length:Int) - 1 = ((out.length - 1:Nat):Int) by omega,ix_nat,← List.getLast?_eq_getElem?,hl]
theorem i_next {fu:Nat} {r:Request} (h:Sm fu r) (us:List Int) (hl:us.length ≤ 1048575):d_impl_NextFit fu r us = some (nfM r us):=by
 have hfu:=h.fu
 have htl:=thrM_len r us
 unfold d_impl_NextFit nfM
 rw [i_there h us (by omega),ob_some]
 cases hc:clsM r == 0
 · rw [thr_cls hc]
   obtain ⟨m,rfl⟩:∃ m,fu = m + 1:=⟨fu - 1,by omega⟩
   rw [d_impl_NextFit_L1.eq_2]; rfl
 · have key:=lpI (thrM r us) (fun n (o:List (List Int)) i=>d_impl_NextFit_L1 fu r (thrM r us) n o i) (fun xs o=>some (xs.foldl (nxtF r) o)) (fun xs o=>∃ m,m + xs.length ≤ 1048575 ∧ okG m o) (by omega) ?_ ?_ fu [] ⟨0,by omega,by simp,by simp⟩ (by omega)
   · exact key
   · intro n o i u xs hx hd hI ih
     obtain ⟨m,hm,ho⟩:=hI
     simp only [List.length_cons] at hm
     have h1:=ho.1
     have h2:=ho.2
     have hI':=ih (nxtF r o u) ⟨m + 1,by omega,nxtF_ok u ho⟩
     simp only [d_impl_NextFit_L1.eq_2]
     unfold d_impl_NextFit_L1_B d_impl_NextFit_J1
     rw [hd,cond_true,hx,ob_some,List.foldl_cons,← hI',w64_id (by omega) (by omega)]
     by_cases he:o = []
     · subst he
       rw [decide_eq_false (by simp),cond_false,ap1 (by simp),ob_some]; rfl
     · obtain ⟨l,e1,e2⟩:=last_at he
       have hp:=List.length_pos_iff.2 he
       have hll:=h2 l (List.mem_of_getLast? e1)
       rw [decide_eq_true (by omega),cond_true,e2,ob_some,i_room1 h l u (by omega),ob_some,hc,Bool.true_and]
       rw [nxtF_some u e1]
       unfold romB
       cases witB r (l ++ [u]) (masM r)
       · rw [cond_false,cond_false,ap1 (by simp; omega),ob_some]
       · rw [cond_true,cond_true,ob_some,ap1 (by simp; omega),ob_some,ob_some]
         rw [show setx o ((o.length:Int) - 1) (l ++ [u]) = o.set (o.length - 1) (l ++ [u]) by unfold setx; congr 1; omega]
   · intro n o i hd _
     simp only [d_impl_NextFit_L1.eq_2]
     unfold d_impl_NextFit_L1_B
     rw [hd,cond_false]; rfl
theorem ord_ix {us:List Int} {p:Int} (h:0 ≤ p ∧ p < us.length):ix us p = some ((ix us p).getD 0):=by
 have:=ix_i (l:=us) (i:=p.toNat) (by omega)
 rw [show ((p.toNat:Nat):Int) = p by omega] at this
 rw [this]; rfl
theorem foldl_map' {α β γ:Type} (f:γ → β → γ) (g:α → β):∀ (l:List α) (s:γ),(l.map g).foldl f s = l.foldl (fun s x=>f s (g x)) s
 | [],_=>rfl
 | x :: l,s=>by rw [List.map_cons,List.foldl_cons,List.foldl_cons,foldl_map' f g l]
theorem i_first {fu:Nat} {r:Request} (h:Sm fu r) (us:List Int) (hl:us.length < 20):d_impl_FirstFit fu r us = some (ffM r us):=by
 have hfu:=h.fu
 have htl:=thrM_len r us
 unfold d_impl_FirstFit ffM ordM
 rw [i_there h us (by omega),ob_some]
 obtain ⟨t,ht⟩:∃ t,t = thrM r us:=⟨_,rfl⟩
 rw [← ht] at htl ⊢
 have key:=lpI t (fun n (o:List Int) i=>d_impl_FirstFit_L2 fu r t n o i) (fun xs o=>obind (d_impl_SortDown fu (o ++ xs.map fun u=>volM r [u])) fun x=>d_impl_FirstFit_L1 fu r t x fu [] 0) (fun xs o=>o.length + xs.length ≤ 20) (by omega) ?_ ?_ fu [] (by simp; omega) (by omega)
 · rw [key,List.nil_append,i_down hfu (by simp; omega),ob_some,foldl_map',List.length_map]
   have hsl:=srt_len (dnk (t.map fun u=>volM r [u])) t.length
   have hsm:=fun x=>srt_mem (k:=dnk (t.map fun u=>volM r [u])) (n:=t.length) (x:=x)
   generalize srt (dnk (t.map fun u=>volM r [u])) t.length = S at hsl hsm ⊢
   cases hc:clsM r == 0
   · have:t = []:=by rw [ht]; exact thr_cls hc us
     subst this
     have:S = []:=List.length_eq_zero_iff.1 (by simpa using hsl)
     subst this
     obtain ⟨m,rfl⟩:∃ m,fu = m + 1:=⟨fu - 1,by omega⟩
     rw [d_impl_FirstFit_L1.eq_2]; rfl
   · have key1:=lpI S (fun n (o:List (List Int)) i=>d_impl_FirstFit_L1 fu r t S n o i) (fun xs o=>some (xs.foldl (fun s p=>fitF r s ((ix t p).getD 0)) o)) (fun xs o=>(∃ m,m + xs.length ≤ 20 ∧ okG m o) ∧ ∀ p ∈ xs,0 ≤ p ∧ p < t.length) (by omega) ?_ ?_ fu [] ⟨⟨0,by omega,by simp,by simp⟩,fun p hp=>(hsm p).1 hp⟩ (by omega)
     · exact key1
     · intro n o i p xs hx hd hI ih
       obtain ⟨⟨m,hm,ho⟩,hin⟩:=hI
       simp only [List.length_cons] at hm
       have hp:=ord_ix (hin p (by simp))
       simp only [d_impl_FirstFit_L1.eq_2]
       unfold d_impl_FirstFit_L1_B d_impl_FirstFit_J1
       rw [hd,cond_true,hx,ob_some,hp,ob_some,List.foldl_cons]
       generalize (ix t p).getD 0 = u
       rw [i_idxInts (fun y=>d_impl_FirstFit_1 fu y r u) (romB r u) (fun l hl=>by
        have:=ho.2 l hl
        unfold d_impl_FirstFit_1 romB
        rw [i_room1 h l u (by omega),ob_some,hc,Bool.true_and]) (by have:=ho.1; omega) (by have:=ho.1; omega),ob_some]
       refine (put_atF (g:=romB r u) (c:=u) ho (by omega) (fun x=>d_impl_FirstFit_L1 fu r t S n x (w64 (i + 1))) (fndI (romB r u) o 0) (by
        rw [fndI_fst]
        cases fstI (romB r u) o <;> simp)).trans ?_
       exact ih _ ⟨⟨m + 1,by omega,putF_ok u ho⟩,fun q hq=>hin q (by simp [hq])⟩
     · intro n o i hd _
       simp only [d_impl_FirstFit_L1.eq_2]
       unfold d_impl_FirstFit_L1_B
       rw [hd,cond_false]; rfl
 · intro n o i u xs hx hd hI ih
   simp only [List.length_cons] at hI
   simp only [d_impl_FirstFit_L2.eq_2]
   unfold d_impl_FirstFit_L2_B
   rw [hd,cond_true,hx,ob_some,i_volOf h [u] (by simp) (by simp; omega),ob_some,ap1 (by simp; omega),ob_some,ih _ (by simp; omega)]
   simp
 · intro n o i hd _
   simp only [d_impl_FirstFit_L2.eq_2]
   unfold d_impl_FirstFit_L2_B
   rw [hd,cond_false]; simp
theorem i_way {fu:Nat} {r:Request} (h:Sm fu r) (us:List Int) (hl:us.length < 20):d_impl_PackWay fu r us = some (pwM r us):=by
 unfold d_impl_PackWay pwM
 rw [i_next h us (by omega),i_first h us hl]
 cases r.fWay == 1 <;> rfl
end Go.Proofs.YthddjkokpfdbnaaGreat
/- Shelves, layers, loads, spots of spec: what they compute, and what holds of them. -/
namespace Go.Proofs.YthddjkokpfdbnaaGreat
open Go
open Enc (rd ow)
open Arg (argv)
open Ret (retv)
open Wf (wf)
def mxI (a b:Int):Int:=if a > b then a else b
structure ShI (p:Pallet) (n:Nat) (s:Shelf):Prop where
 ne:s.fList ≠ []
 inn:∀ i ∈ s.fList,0 ≤ i ∧ i < n
 w:1 ≤ s.fW ∧ s.fW ≤ p.fW
 d:1 ≤ s.fD ∧ s.fD ≤ p.fD
 h:1 ≤ s.fH ∧ s.fH ≤ p.fH
 g:1 ≤ s.fGram ∧ s.fGram ≤ p.fGram
end Go.Proofs.YthddjkokpfdbnaaGreat
/- Layers and loads of spec. -/
namespace Go.Proofs.YthddjkokpfdbnaaGreat
open Go
open Enc (rd ow)
open Arg (argv)
open Ret (retv)
open Wf (wf)
structure LyI (p:Pallet) (n:Nat) (s:Layer):Prop where
 ne:s.fShelves ≠ []
 inn:∀ i ∈ s.fShelves,0 ≤ i ∧ i < n
 d:1 ≤ s.fD ∧ s.fD ≤ p.fD
 h:1 ≤ s.fH ∧ s.fH ≤ p.fH
 g:1 ≤ s.fGram ∧ s.fGram ≤ p.fGram
structure LdI (p:Pallet) (n:Nat) (s:Load):Prop where
 ne:s.fLayers ≠ []
 inn:∀ i ∈ s.fLayers,0 ≤ i ∧ i < n
 h:1 ≤ s.fH ∧ s.fH ≤ p.fH
 g:1 ≤ s.fGram ∧ s.fGram ≤ p.fGram
end Go.Proofs.YthddjkokpfdbnaaGreat
