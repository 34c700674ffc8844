/- ExactVerifyBP: plain lemmas, part 1. -/
import Derived.Test.YthkaklkinepfkaaGreatDoorExactVerifyBD
import Derived.Test.YthkaklkinepfkaaGreatDoorM3
set_option linter.unusedSimpArgs false
set_option linter.unusedVariables false
namespace Go.Proofs.YthkaklkinepfkaaGreatDoor
open Go
open Enc (rd ow)
open Arg (argv)
open Ret (retv)
open Wf (wf)
structure Sm (fu:Nat) (r:Request):Prop where
 fu:2097153 ≤ fu
 pairs:r.fPairs.length ≤ 1048576
 types:r.fTypes.length ≤ 1048576
 items:r.fItems.length ≤ 1048576
theorem s_in (fu:Nat) (n lo hi:Int):d_spec_l1In fu n lo hi = some (inb n lo hi):=by
 unfold d_spec_l1In inb
 by_cases h:lo ≤ n
 · simp [h]
 · simp [h]
theorem i_in (fu:Nat) (n lo hi:Int):d_impl_in fu n lo hi = some (inb n lo hi):=s_in fu n lo hi
theorem s_side (fu:Nat) (n:Int):d_spec_l2Side fu n = some (inb n 1 2000):=by unfold d_spec_l2Side; rw [s_in]; rfl
theorem s_id (fu:Nat) (n:Int):d_spec_l2Id fu n = some (inb n 0 999):=by unfold d_spec_l2Id; rw [s_in]; rfl
theorem i_side (fu:Nat) (n:Int):d_impl_isSide fu n = some (inb n 1 2000):=by unfold d_impl_isSide; rw [i_in]; rfl
theorem s_pal (fu:Nat) (p:Pallet):d_spec_PalletOk fu p = some (palB p):=by
 unfold d_spec_PalletOk palB
 simp only [s_side,s_in,ob_some]
 cases inb p.fW 1 2000 <;> cases inb p.fD 1 2000 <;> cases inb p.fH 1 2000 <;> rfl
theorem i_pal (fu:Nat) (p:Pallet):d_impl_PalletOk fu p = some (palB p):=by
 unfold d_impl_PalletOk palB
 simp only [i_side,i_in,ob_some]
 cases inb p.fW 1 2000 <;> cases inb p.fD 1 2000 <;> cases inb p.fH 1 2000 <;> rfl
theorem s_typ (fu:Nat) (t:Typ):d_spec_TypeOk fu t = some (typB t):=by
 unfold d_spec_TypeOk typB
 simp only [s_side,s_in,s_id,ob_some]
 cases inb t.fId 0 999 <;> cases inb t.fW 1 2000 <;> cases inb t.fH 1 2000 <;> cases inb t.fD 1 2000 <;> cases inb t.fTare 0 100000 <;> cases inb t.fGram 1 100000 <;> rfl
theorem i_typ (fu:Nat) (t:Typ):d_impl_TypeOk fu t = some (typB t):=by
 unfold d_impl_TypeOk typB
 simp only [i_side,i_in,ob_some]
 cases inb t.fId 0 999 <;> cases inb t.fW 1 2000 <;> cases inb t.fH 1 2000 <;> cases inb t.fD 1 2000 <;> cases inb t.fTare 0 100000 <;> cases inb t.fGram 1 100000 <;> rfl
theorem s_itm (fu:Nat) (t:Item):d_spec_ItemOk fu t = some (itmB t):=by
 unfold d_spec_ItemOk itmB
 simp only [s_side,s_in,s_id,ob_some]
 cases inb t.fId 0 999 <;> cases inb t.fW 1 2000 <;> cases inb t.fH 1 2000 <;> cases inb t.fD 1 2000 <;> cases inb t.fGram 1 100000 <;> cases inb t.fClass 0 3 <;> rfl
theorem i_itm (fu:Nat) (t:Item):d_impl_ItemOk fu t = some (itmB t):=by
 unfold d_impl_ItemOk itmB
 simp only [i_side,i_in,ob_some]
 cases inb t.fId 0 999 <;> cases inb t.fW 1 2000 <;> cases inb t.fH 1 2000 <;> cases inb t.fD 1 2000 <;> cases inb t.fGram 1 100000 <;> cases inb t.fClass 0 3 <;> rfl
def cntF:List Item → Int → Option Bool
 | [],n=>some (decide (n ≤ 12))
 | x :: xs,n=>bif !itmB x then some false else cntF xs (w64 (n + x.fCount))
theorem cntF_eq:∀ (l:List Item) (n:Int),0 ≤ n → n + 6 * l.length ≤ 4611686018427387904 → cntF l n = some (l.all itmB && decide (n + sumI (l.map (·.fCount)) ≤ 12))
 | [],n,_,_=>by simp [cntF]
 | x :: xs,n,h0,h1=>by
  unfold cntF
  cases hx:itmB x
  · simp [hx]
  · have hc:=hx
    simp only [itmB,Bool.and_eq_true,inb_iff] at hc
    have hc:=hc.2.2.2.2.2.2
    simp only [List.length_cons] at h1
    rw [w64_id (by omega) (by omega)]
    simp only [Bool.not_true,cond_false]
    rw [cntF_eq xs (n + x.fCount) (by omega) (by omega)]
    simp only [List.all_cons,hx,Bool.true_and,List.map_cons,sumI_cons,Int.add_assoc]
theorem s_bou {fu:Nat} {r:Request} (h:Sm fu r):d_spec_BoundsOk fu r = some (bouB r):=by
 have hfu:=h.fu
 have h7:r.fItems.length ≤ 8 → d_spec_BoundsOk_L1 fu r fu 0 0 = some (r.fItems.all itmB && decide (sumI (r.fItems.map (·.fCount)) ≤ 12)):=by
  intro h8
  rw [lp r.fItems (fun n s i=>d_spec_BoundsOk_L1 fu r n s i) cntF (by have:=h.items; omega) ?_ ?_ fu 0 (by have:=h.items; omega),cntF_eq _ _ (by omega) (by have:=h.items; omega)]
  · simp
  · intro n s i x xs hx hd ih
    simp only [d_spec_BoundsOk_L1.eq_2]
    unfold d_spec_BoundsOk_L1_B
    simp only [hd,cond_true,hx,ob_some,s_itm,ih]
    rfl
  · intro n s i hd
    simp only [d_spec_BoundsOk_L1.eq_2]
    unfold d_spec_BoundsOk_L1_B
    simp only [hd,cond_false]
    rfl
 have h6:∀ b:Bool,(d_spec_BoundsOk_L1 fu r fu 0 0 = some b) → d_spec_BoundsOk_L2 fu r fu 0 = some (r.fTypes.all typB && b):=by
  intro b hb
  refine lp r.fTypes (fun n (_:Unit) i=>d_spec_BoundsOk_L2 fu r n i) (fun l _=>some (l.all typB && b)) (by have:=h.types; omega) ?_ ?_ fu () (by have:=h.types; omega)
  · intro n s i x xs hx hd ih
    simp only [d_spec_BoundsOk_L2.eq_2]
    unfold d_spec_BoundsOk_L2_B
    simp only [hd,cond_true,hx,ob_some,s_typ,ih (),List.all_cons]
    cases typB x <;> rfl
  · intro n s i hd
    simp only [d_spec_BoundsOk_L2.eq_2]
    unfold d_spec_BoundsOk_L2_B
    simp only [hd,cond_false,hb]
    rfl
 have h4:∀ b:Bool,(d_spec_BoundsOk_L2 fu r fu 0 = some b) → d_spec_BoundsOk_L3 fu r fu 0 = some (r.fPairs.all prB && b):=by
  intro b hb
  refine lp r.fPairs (fun n (_:Unit) i=>d_spec_BoundsOk_L3 fu r n i) (fun l _=>some (l.all prB && b)) (by have:=h.pairs; omega) ?_ ?_ fu () (by have:=h.pairs; omega)
  · intro n s i x xs hx hd ih
    simp only [d_spec_BoundsOk_L3.eq_2]
    unfold d_spec_BoundsOk_L3_B d_spec_BoundsOk_J1
    simp only [hd,cond_true,hx,ob_some,s_in,ih ()]
    simp only [List.all_cons,prB]
    cases inb x.fA 0 3 <;> cases inb x.fB 0 3 <;> rfl
  · intro n s i hd
    simp only [d_spec_BoundsOk_L3.eq_2]
    unfold d_spec_BoundsOk_L3_B
    simp only [hd,cond_false,hb]
    rfl
 unfold d_spec_BoundsOk d_spec_BoundsOk_J2 bouB
 simp only [s_in,s_id,s_pal,ob_some]
 by_cases h8:r.fItems.length ≤ 8
 · rw [h4 _ (h6 _ (h7 h8))]
   have e8:decide ((r.fItems.length:Int) > 8) = false:=by simp; omega
   rw [e8]
   by_cases hp:r.fPairs.length ≤ 16
   · have e16:decide ((r.fPairs.length:Int) > 16) = false:=by simp; omega
     rw [e16]
     simp only [hp,h8,decide_true,cond_false,Bool.and_true]
     cases inb r.fWay 0 1 <;> cases palB r.fPallet <;> cases inb r.fClasses 1 4 <;> cases inb (r.fTypes.length:Int) 1 5 <;> cases inb r.fMaster 0 999 <;> simp <;> cases r.fPairs.all prB <;> cases r.fTypes.all typB <;> rfl
   · have e16:decide ((r.fPairs.length:Int) > 16) = true:=by simp; omega
     rw [e16]
     simp only [hp,decide_false,cond_true]
     cases inb r.fWay 0 1 <;> cases palB r.fPallet <;> cases inb r.fClasses 1 4 <;> simp
 · have e8:decide ((r.fItems.length:Int) > 8) = true:=by simp; omega
   rw [e8]
   simp only [h8,decide_false,cond_true,Bool.and_false,Bool.false_and]
   cases inb r.fWay 0 1 <;> cases palB r.fPallet <;> cases inb r.fClasses 1 4 <;> simp
def fndI {α:Type} (g:α → Bool):List α → Int → Int
 | [],_=>-1
 | x :: xs,i=>bif g x then i else fndI g xs (i + 1)
theorem fndI_any {α:Type} (g:α → Bool):∀ (l:List α) (i:Int),0 ≤ i → decide (fndI g l i ≥ 0) = l.any g
 | [],i,_=>rfl
 | x :: xs,i,h=>by
  simp only [fndI,List.any_cons]
  by_cases hx:g x = true
  · simpa [hx] using h
  · simpa [hx] using fndI_any g xs (i + 1) (by omega)
theorem fndI_find {α:Type} (g:α → Bool):∀ (l pre:List α) ,(fndI g l pre.length < 0 ∧ l.find? g = none) ∨ (0 ≤ fndI g l pre.length ∧ ∃ x,l.find? g = some x ∧ ix (pre ++ l) (fndI g l pre.length) = some x)
 | [],pre=>.inl ⟨by simp [fndI],rfl⟩
 | x :: xs,pre=>by
  simp only [fndI]
  cases hx:g x
  · have:=fndI_find g xs (pre ++ [x])
    simp only [List.length_append,List.length_singleton,List.append_assoc,List.singleton_append] at this
    simpa [List.find?_cons,hx] using this
  · refine .inr ⟨by simp,x,by simp [hx],?_⟩
    rw [cond_true,ix_nat]
    simp
theorem idx_loop {α:Type} (l:List α) (L:Nat → Int → Option Int) (g:α → Bool) (hl:l.length ≤ 1099511627776)
    (hs:∀ n (i:Int) x,ix l i = some x → decide (i < (l.length:Int)) = true → L (n + 1) i = bif g x then some i else L n (w64 (i + 1)))
    (he:∀ n (i:Int),decide (i < (l.length:Int)) = false → L (n + 1) i = some (-1)) (n:Nat) (hn:l.length < n):L n 0 = some (fndI g l 0):=by
 have key:∀ (m i n:Nat),l.length - i = m → i ≤ l.length → m < n → L n (i:Int) = some (fndI g (l.drop i) i):=by
  intro m
  induction m with
  | zero =>
   intro i n hm hi hn
   obtain ⟨n,rfl⟩:∃ k,n = k + 1:=⟨n - 1,by omega⟩
   rw [List.drop_of_length_le (by omega),he n i (by simp; omega)]
   rfl
  | succ m ih =>
   intro i n hm hi hn
   obtain ⟨n,rfl⟩:∃ k,n = k + 1:=⟨n - 1,by omega⟩
   have hlt:i < l.length:=by omega
   rw [hs n i _ (ix_i hlt) (by simpa using hlt),List.drop_eq_getElem_cons hlt]
   simp only [fndI]
   cases g l[i]
   · rw [cond_false,cond_false,w64_s i (by omega)]
     have:=ih (i + 1) n (by omega) (by omega) (by omega)
     simpa using this
   · rfl
 simpa using key l.length 0 n (by omega) (by omega) hn
theorem i_idxTyp {fu:Nat} {l:List Typ} (f:Typ → Option Bool) (g:Typ → Bool) (hg:∀ x ∈ l,f x = some (g x)) (hl:l.length ≤ 1048576) (hf:l.length < fu):d_slices_IndexFunc_impl_Type_impl_Type fu l f = some (fndI g l 0):=by
 unfold d_slices_IndexFunc_impl_Type_impl_Type
 refine idx_loop l (fun n i=>d_slices_IndexFunc_impl_Type_impl_Type_L1 fu l f n i) g (by omega) ?_ ?_ fu hf
 · intro n i x hx hd
   simp only [d_slices_IndexFunc_impl_Type_impl_Type_L1.eq_2]
   unfold d_slices_IndexFunc_impl_Type_impl_Type_L1_B
   simp only [hd,cond_true,hx,ob_some,hg x (ix_mem hx)]
 · intro n i hd
   simp only [d_slices_IndexFunc_impl_Type_impl_Type_L1.eq_2]
   unfold d_slices_IndexFunc_impl_Type_impl_Type_L1_B
   simp only [hd,cond_false]
theorem i_anyTyp {fu:Nat} {l:List Typ} (f:Typ → Option Bool) (g:Typ → Bool) (hg:∀ x ∈ l,f x = some (g x)) (hl:l.length ≤ 1048576) (hf:l.length < fu):d_slices_ContainsFunc_impl_Type_impl_Type fu l f = some (l.any g):=by
 unfold d_slices_ContainsFunc_impl_Type_impl_Type
 rw [i_idxTyp f g hg hl hf,ob_some,fndI_any g l 0 (by omega)]
theorem i_idxPair {fu:Nat} {l:List Pair} (f:Pair → Option Bool) (g:Pair → Bool) (hg:∀ x ∈ l,f x = some (g x)) (hl:l.length ≤ 1048576) (hf:l.length < fu):d_slices_IndexFunc_impl_Pair_impl_Pair fu l f = some (fndI g l 0):=by
 unfold d_slices_IndexFunc_impl_Pair_impl_Pair
 refine idx_loop l (fun n i=>d_slices_IndexFunc_impl_Pair_impl_Pair_L1 fu l f n i) g (by omega) ?_ ?_ fu hf
 · intro n i x hx hd
   simp only [d_slices_IndexFunc_impl_Pair_impl_Pair_L1.eq_2]
   unfold d_slices_IndexFunc_impl_Pair_impl_Pair_L1_B
   simp only [hd,cond_true,hx,ob_some,hg x (ix_mem hx)]
 · intro n i hd
   simp only [d_slices_IndexFunc_impl_Pair_impl_Pair_L1.eq_2]
   unfold d_slices_IndexFunc_impl_Pair_impl_Pair_L1_B
   simp only [hd,cond_false]
theorem i_anyPair {fu:Nat} {l:List Pair} (f:Pair → Option Bool) (g:Pair → Bool) (hg:∀ x ∈ l,f x = some (g x)) (hl:l.length ≤ 1048576) (hf:l.length < fu):d_slices_ContainsFunc_impl_Pair_impl_Pair fu l f = some (l.any g):=by
 unfold d_slices_ContainsFunc_impl_Pair_impl_Pair
 rw [i_idxPair f g hg hl hf,ob_some,fndI_any g l 0 (by omega)]
theorem i_idxItem {fu:Nat} {l:List Item} (f:Item → Option Bool) (g:Item → Bool) (hg:∀ x ∈ l,f x = some (g x)) (hl:l.length ≤ 1048576) (hf:l.length < fu):d_slices_IndexFunc_impl_Item_impl_Item fu l f = some (fndI g l 0):=by
 unfold d_slices_IndexFunc_impl_Item_impl_Item
 refine idx_loop l (fun n i=>d_slices_IndexFunc_impl_Item_impl_Item_L1 fu l f n i) g (by omega) ?_ ?_ fu hf
 · intro n i x hx hd
   simp only [d_slices_IndexFunc_impl_Item_impl_Item_L1.eq_2]
   unfold d_slices_IndexFunc_impl_Item_impl_Item_L1_B
   simp only [hd,cond_true,hx,ob_some,hg x (ix_mem hx)]
 · intro n i hd
   simp only [d_slices_IndexFunc_impl_Item_impl_Item_L1.eq_2]
   unfold d_slices_IndexFunc_impl_Item_impl_Item_L1_B
   simp only [hd,cond_false]
theorem i_anyItem {fu:Nat} {l:List Item} (f:Item → Option Bool) (g:Item → Bool) (hg:∀ x ∈ l,f x = some (g x)) (hl:l.length ≤ 1048576) (hf:l.length < fu):d_slices_ContainsFunc_impl_Item_impl_Item fu l f = some (l.any g):=by
 unfold d_slices_ContainsFunc_impl_Item_impl_Item
 rw [i_idxItem f g hg hl hf,ob_some,fndI_any g l 0 (by omega)]
theorem i_bou {fu:Nat} {r:Request} (h:Sm fu r):d_impl_BoundsOk fu r = some (bouB r):=by
 have hfu:=h.fu
 have h1:=h.items
 have h2:=h.types
 have h3:=h.pairs
 have e3:d_impl_BoundsOk_L1 fu r fu 0 0 = some (r.fItems.all itmB && decide (sumI (r.fItems.map (·.fCount)) ≤ 12)):=by
  rw [lp r.fItems (fun n s i=>d_impl_BoundsOk_L1 fu r n s i) cntF (by omega) ?_ ?_ fu 0 (by omega),cntF_eq _ _ (by omega) (by omega)]
  · simp
  · intro n s i x xs hx hd ih
    simp only [d_impl_BoundsOk_L1.eq_2]
    unfold d_impl_BoundsOk_L1_B
    simp only [hd,cond_true,hx,ob_some,i_itm,ih]
    rfl
  · intro n s i hd
    simp only [d_impl_BoundsOk_L1.eq_2]
    unfold d_impl_BoundsOk_L1_B
    simp only [hd,cond_false]
    rfl
 have ep:d_slices_ContainsFunc_impl_Pair_impl_Pair fu r.fPairs (fun y34=>d_impl_BoundsOk_1 fu y34) = some (!(r.fPairs.all prB)):=by
  rw [i_anyPair _ (fun p=>!prB p) (fun p _=>by
   unfold d_impl_BoundsOk_1 prB
   simp only [i_in,ob_some]
   cases inb p.fA 0 3 <;> rfl) h3 (by omega)]
  simp [List.not_all_eq_any_not]
 have et:d_slices_ContainsFunc_impl_Type_impl_Type fu r.fTypes (fun y34=>d_impl_BoundsOk_2 fu y34) = some (!(r.fTypes.all typB)):=by
  rw [i_anyTyp _ (fun p=>!typB p) (fun p _=>by
   unfold d_impl_BoundsOk_2
   rw [i_typ]; rfl) h2 (by omega)]
  simp [List.not_all_eq_any_not]
 unfold d_impl_BoundsOk d_impl_BoundsOk_J2 d_impl_BoundsOk_J1 bouB
 rw [e3,ep,et]
 simp only [i_in,i_pal,ob_some]
 have e8:decide ((r.fItems.length:Int) > 8) = !decide (r.fItems.length ≤ 8):=by
  by_cases hh:r.fItems.length ≤ 8
  · have:¬ ((r.fItems.length:Int) > 8):=by omega
    simp [hh,this]
  · have:(r.fItems.length:Int) > 8:=by omega
    simp [hh,this]
 have e16:decide ((r.fPairs.length:Int) > 16) = !decide (r.fPairs.length ≤ 16):=by
  by_cases hh:r.fPairs.length ≤ 16
  · have:¬ ((r.fPairs.length:Int) > 16):=by omega
    simp [hh,this]
  · have:(r.fPairs.length:Int) > 16:=by omega
    simp [hh,this]
 rw [e8,e16]
 cases inb r.fWay 0 1 <;> cases palB r.fPallet <;> cases inb r.fClasses 1 4 <;> cases decide (r.fPairs.length ≤ 16) <;> cases r.fPairs.all prB <;> cases inb (r.fTypes.length:Int) 1 5 <;> cases r.fTypes.all typB <;> cases inb r.fMaster 0 999 <;> cases decide (r.fItems.length ≤ 8) <;> rfl
def knoB (b:Box) (s:Spot):Bool:=inb b.fW 0 2000 && (inb b.fD 0 2000 && (inb b.fH 0 2000 && (inb s.fX 0 2000 && (inb s.fY 0 2000 && inb s.fZ 0 2000))))
def winB (p:Pallet) (b:Box) (s:Spot):Bool :=
 knoB b s && (decide (b.fW > 0) && (decide (b.fD > 0) && (decide (b.fH > 0) && (decide (w64 (s.fX + b.fW) ≤ p.fW) && (decide (w64 (s.fY + b.fD) ≤ p.fD) && decide (w64 (s.fZ + b.fH) ≤ p.fH))))))
def crsB (a la b lb:Int):Bool:=decide (a < w64 (b + lb)) && decide (b < w64 (a + la))
def ovlB (a:Box) (s:Spot) (b:Box) (t:Spot):Bool :=
 knoB a s && (knoB b t && (s.fPallet == t.fPallet && (crsB s.fX a.fW t.fX b.fW && (crsB s.fY a.fD t.fY b.fD && crsB s.fZ a.fH t.fZ b.fH))))
theorem i_place (fu:Nat) (n:Int):d_impl_isPlace fu n = some (inb n 0 2000):=by unfold d_impl_isPlace; rw [i_in]; rfl
theorem s_kno (fu:Nat) (b:Box) (s:Spot):d_spec_l12Known fu b s = some (knoB b s):=by
 unfold d_spec_l12Known knoB
 simp only [s_in,ob_some]
 cases inb b.fW 0 2000 <;> cases inb b.fD 0 2000 <;> cases inb b.fH 0 2000 <;> cases inb s.fX 0 2000 <;> cases inb s.fY 0 2000 <;> cases inb s.fZ 0 2000 <;> rfl
theorem i_kno (fu:Nat) (b:Box) (s:Spot):d_impl_placed fu b s = some (knoB b s):=by
 unfold d_impl_placed knoB
 simp only [i_place,ob_some]
 cases inb b.fW 0 2000 <;> cases inb b.fD 0 2000 <;> cases inb b.fH 0 2000 <;> cases inb s.fX 0 2000 <;> cases inb s.fY 0 2000 <;> cases inb s.fZ 0 2000 <;> rfl
theorem s_win (fu:Nat) (p:Pallet) (b:Box) (s:Spot):d_spec_Within fu p b s = some (winB p b s):=by
 unfold d_spec_Within winB
 simp only [s_kno,ob_some]
 cases knoB b s <;> cases decide (b.fW > 0) <;> cases decide (b.fD > 0) <;> cases decide (b.fH > 0) <;> cases decide (w64 (s.fX + b.fW) ≤ p.fW) <;> cases decide (w64 (s.fY + b.fD) ≤ p.fD) <;> rfl
theorem side_inb (n:Int):inb n 1 2000 = (inb n 0 2000 && decide (n > 0)):=by
 apply Bool.eq_iff_iff.2
 simp only [inb_iff,Bool.and_eq_true,decide_eq_true_eq]
 omega
theorem i_win (fu:Nat) (p:Pallet) (b:Box) (s:Spot):d_impl_Within fu p b s = some (winB p b s):=by
 unfold d_impl_Within d_impl_Within_J1 winB knoB
 simp only [i_place,i_side,ob_some,side_inb]
 cases inb b.fW 0 2000 <;> cases inb b.fD 0 2000 <;> cases inb b.fH 0 2000 <;> cases inb s.fX 0 2000 <;> cases inb s.fY 0 2000 <;> cases inb s.fZ 0 2000 <;> simp
 all_goals cases decide (0 < b.fW) <;> cases decide (0 < b.fD) <;> cases decide (0 < b.fH) <;> simp
 all_goals cases decide (w64 (s.fX + b.fW) ≤ p.fW) <;> cases decide (w64 (s.fY + b.fD) ≤ p.fD) <;> simp
theorem s_crs (fu:Nat) (a la b lb:Int):d_spec_l12Cross fu a la b lb = some (crsB a la b lb):=by
 unfold d_spec_l12Cross crsB
 cases decide (a < w64 (b + lb)) <;> rfl
theorem i_crs (fu:Nat) (a la b lb:Int):d_impl_cross fu a la b lb = some (crsB a la b lb):=by
 unfold d_impl_cross crsB
 cases decide (a < w64 (b + lb)) <;> rfl
theorem s_ovl (fu:Nat) (a:Box) (s:Spot) (b:Box) (t:Spot):d_spec_Overlap fu a s b t = some (ovlB a s b t):=by
 unfold d_spec_Overlap ovlB
 simp only [s_kno,s_crs,ob_some]
 cases knoB a s <;> cases knoB b t <;> cases s.fPallet == t.fPallet <;> cases crsB s.fX a.fW t.fX b.fW <;> cases crsB s.fY a.fD t.fY b.fD <;> rfl
theorem i_ovl (fu:Nat) (a:Box) (s:Spot) (b:Box) (t:Spot):d_impl_Overlap fu a s b t = some (ovlB a s b t):=by
 unfold d_impl_Overlap d_impl_Overlap_J1 ovlB
 simp only [i_kno,i_crs,ob_some,bne]
 cases knoB a s <;> cases knoB b t <;> cases s.fPallet == t.fPallet <;> cases crsB s.fX a.fW t.fX b.fW <;> cases crsB s.fY a.fD t.fY b.fD <;> rfl
def palS (n:Int) (s:Spot):Int:=bif inb s.fPallet 0 999999 then (if s.fPallet + 1 > n then s.fPallet + 1 else n) else n
def palM (l:List Spot):Int:=l.foldl palS 0
theorem palS_bd {n:Int} (s:Spot) (h:0 ≤ n ∧ n ≤ 1000000):0 ≤ palS n s ∧ palS n s ≤ 1000000:=by
 unfold palS
 cases hi:inb s.fPallet 0 999999
 · exact h
 · have:=inb_iff.1 hi
   simp only [cond_true]
   split <;> omega
theorem palF_bd:∀ (l:List Spot) {n:Int},0 ≤ n ∧ n ≤ 1000000 → 0 ≤ l.foldl palS n ∧ l.foldl palS n ≤ 1000000
 | [],_,h=>h
 | s :: l,_,h=>palF_bd l (palS_bd s h)
theorem palM_bd (l:List Spot):0 ≤ palM l ∧ palM l ≤ 1000000:=palF_bd l (by omega)
theorem i_pals {fu:Nat} {l:List Spot} (hl:l.length ≤ 1048576) (hf:l.length < fu):d_impl_Pallets fu l = some (palM l):=by
 unfold d_impl_Pallets
 have key:=lp l (fun n (s:Int) i=>d_impl_Pallets_L1 fu l n s i) (fun l s=>some (l.foldl palS s)) (by omega) ?_ ?_ fu 0 hf
 · exact key
 · intro n s i x xs hx hd ih
   simp only [d_impl_Pallets_L1.eq_2]
   unfold d_impl_Pallets_L1_B d_impl_Pallets_J1
   simp only [hd,cond_true,hx,ob_some,i_in,ih,List.foldl_cons]
   unfold palS
   cases hi:inb x.fPallet 0 999999
   · rfl
   · have:=inb_iff.1 hi
     simp only [cond_true]
     rw [w64_id (by omega) (by omega)]
 · intro n s i hd
   simp only [d_impl_Pallets_L1.eq_2]
   unfold d_impl_Pallets_L1_B
   simp only [hd,cond_false]
   rfl
theorem s_max (fu:Nat) (a b:Int):d_spec_l1Max fu a b = some (if a > b then a else b):=by
 unfold d_spec_l1Max
 by_cases h:a > b
 · simp [h]
 · simp [h]
theorem s_pals {fu:Nat} {l:List Spot} (hl:l.length ≤ 1048576) (hf:l.length < fu):d_spec_Pallets fu l = some (palM l):=by
 unfold d_spec_Pallets
 have key:=lp l (fun n (s:Int) i=>d_spec_Pallets_L1 fu l n s i) (fun l s=>some (l.foldl palS s)) (by omega) ?_ ?_ fu 0 hf
 · exact key
 · intro n s i x xs hx hd ih
   simp only [d_spec_Pallets_L1.eq_2]
   unfold d_spec_Pallets_L1_B d_spec_Pallets_J1
   simp only [hd,cond_true,hx,ob_some,s_in,s_max,ih,List.foldl_cons]
   unfold palS
   cases hi:inb x.fPallet 0 999999
   · rfl
   · have:=inb_iff.1 hi
     simp only [cond_true]
     rw [w64_id (by omega) (by omega)]
     congr 2
     split <;> split <;> omega
 · intro n s i hd
   simp only [d_spec_Pallets_L1.eq_2]
   unfold d_spec_Pallets_L1_B
   simp only [hd,cond_false]
   rfl
def lensC:List Carton → Nat
 | []=>0
 | x :: xs=>x.fUnits.length + lensC xs
structure Sp (x:Plan):Prop where
 cars:x.fCartons.length ≤ 1048576
 units:∀ c ∈ x.fCartons,c.fUnits.length ≤ 1048576
 all:lensC x.fCartons ≤ 1048576
 spots:x.fSpots.length ≤ 1048576
theorem s_places {fu:Nat} (n:Nat) (hn:n ≤ 1048576) (hf:n < fu):d_spec_l1Places fu (n:Int) = some (ints 0 n):=by
 unfold d_spec_l1Places
 have key:∀ (m i k:Nat),n - i = m → i ≤ n → m < k → d_spec_l1Places_L1 fu (n:Int) k (ints 0 i) (i:Int) = some (ints 0 n):=by
  intro m
  induction m with
  | zero =>
   intro i k hm hi hk
   obtain ⟨k,rfl⟩:∃ j,k = j + 1:=⟨k - 1,by omega⟩
   have:i = n:=by omega
   subst this
   rw [d_spec_l1Places_L1.eq_2]
   unfold d_spec_l1Places_L1_B
   simp
  | succ m ih =>
   intro i k hm hi hk
   obtain ⟨k,rfl⟩:∃ j,k = j + 1:=⟨k - 1,by omega⟩
   rw [d_spec_l1Places_L1.eq_2]
   unfold d_spec_l1Places_L1_B
   rw [bif_true (by simp; omega),ap1 (by rw [ints_len]; simp; omega),ob_some,w64_s i (by omega)]
   have e:=ints_snoc 0 i
   rw [Int.zero_add] at e
   rw [← e]
   exact ih (i + 1) k (by omega) (by omega) (by omega)
 exact key n 0 fu (by omega) (by omega) hf
def dk (keys:List Int) (down:Bool) (p:Int):Int:=bif down then - kf keys p else kf keys p
theorem kf_ix {keys:List Int} {p:Int} (h:0 ≤ p ∧ p < keys.length):ix keys p = some (kf keys p):=by
 have h1:p.toNat < keys.length:=by omega
 unfold kf ix
 rw [if_pos h.1,List.getElem?_eq_getElem h1]
 rfl
theorem s_mrg {fu:Nat} {keys a b:List Int} (down:Bool) (ha:∀ p ∈ a,0 ≤ p ∧ p < keys.length) (hb:∀ p ∈ b,0 ≤ p ∧ p < keys.length) (hla:a.length ≤ 1048576) (hlb:b.length ≤ 1048576) :
    ∀ (m:Nat) (n:Nat) (out:List Int) (i j:Nat),i ≤ a.length → j ≤ b.length → (a.length - i) + (b.length - j) = m → m < n → out.length + m ≤ 2097152 →
     d_spec_l1Merge_L1 fu keys down a b n out i j = some (out ++ mrg (dk keys down) (a.drop i) (b.drop j)):=by
 intro m
 induction m with
 | zero =>
  intro n out i j hi hj hm hn ho
  obtain ⟨n,rfl⟩:∃ k,n = k + 1:=⟨n - 1,by omega⟩
  rw [d_spec_l1Merge_L1.eq_2]
  unfold d_spec_l1Merge_L1_B
  rw [bif_false (by simp; omega),bif_false (by simp; omega),List.drop_of_length_le (show a.length ≤ i by omega),List.drop_of_length_le (show b.length ≤ j by omega)]
  simp [mrg]
 | succ m ih =>
  intro n out i j hi hj hm hn ho
  obtain ⟨n,rfl⟩:∃ k,n = k + 1:=⟨n - 1,by omega⟩
  have hL:d_spec_l1Merge_L1 fu keys down a b (n + 1) out i j = d_spec_l1Merge_J1 fu (d_spec_l1Merge_L1 fu keys down a b n) keys down a b out i j:=by
   rw [d_spec_l1Merge_L1.eq_2]
   unfold d_spec_l1Merge_L1_B
   by_cases h:i < a.length
   · rw [bif_true (by simpa using h)]
   · rw [bif_false (by simpa using h),bif_true (by simp; omega)]
  have tA:∀ (h:i < a.length),(apnd 8 out [a[i]]) = some (out ++ [a[i]]):=fun h=>ap1 (by simp; omega)
  have tB:∀ (h:j < b.length),(apnd 8 out [b[j]]) = some (out ++ [b[j]]):=fun h=>ap1 (by simp; omega)
  have nA:∀ (h:i < a.length),d_spec_l1Merge_L1 fu keys down a b n (out ++ [a[i]]) (w64 ((i:Int) + 1)) j = some (out ++ a[i] :: mrg (dk keys down) (a.drop (i + 1)) (b.drop j)):=fun h=>by
   rw [w64_s i (by omega),ih n (out ++ [a[i]]) (i + 1) j (by omega) hj (by omega) (by omega) (by simp; omega)]
   simp
  have nB:∀ (h:j < b.length),d_spec_l1Merge_L1 fu keys down a b n (out ++ [b[j]]) i (w64 ((j:Int) + 1)) = some (out ++ b[j] :: mrg (dk keys down) (a.drop i) (b.drop (j + 1))):=fun h=>by
   rw [w64_s j (by omega),ih n (out ++ [b[j]]) i (j + 1) hi (by omega) (by omega) (by omega) (by simp; omega)]
   simp
  rw [hL]
  unfold d_spec_l1Merge_J1
  by_cases hjb:j = b.length
  · have h:i < a.length:=by omega
    rw [bif_true (by simp [hjb]),ix_i h,ob_some,tA h,ob_some,nA h,List.drop_of_length_le (show b.length ≤ j by omega),mrg_nil,mrg_nil,← List.drop_eq_getElem_cons h]
  · have hj':j < b.length:=by omega
    rw [bif_false (by simp; omega)]
    by_cases hia:i = a.length
    · rw [bif_true (by simp [hia]),ix_i hj',ob_some,tB hj',ob_some,nB hj',List.drop_of_length_le (show a.length ≤ i by omega)]
      have e1:∀ l,mrg (dk keys down) [] l = l:=fun l=>by rw [mrg]
      rw [e1,e1,← List.drop_eq_getElem_cons hj']
    · have hi':i < a.length:=by omega
      rw [bif_false (by simp; omega)]
      simp only [ix_i hi',ix_i hj',ob_some,kf_ix (ha _ (List.getElem_mem hi')),kf_ix (hb _ (List.getElem_mem hj')),tA hi',tB hj',nA hi',nB hj']
      rw [List.drop_eq_getElem_cons hi',List.drop_eq_getElem_cons hj',mrg_cons,← List.drop_eq_getElem_cons hi',← List.drop_eq_getElem_cons hj']
      have hx:dk keys down a[i] = bif down then - kf keys a[i] else kf keys a[i]:=rfl
      have hy:dk keys down b[j] = bif down then - kf keys b[j] else kf keys b[j]:=rfl
      rw [hx,hy]
      generalize kf keys a[i] = x
      generalize kf keys b[j] = y
      cases down
      · by_cases hc:y < x
        · rw [if_pos (by simpa using hc)]; simp [hc]
        · rw [if_neg (by simpa using hc)]
          have:decide (y > x) = true ∨ decide (y > x) = false:=by cases decide (y > x) <;> simp
          rcases this with h | h <;> simp [hc,h]
      · by_cases hc:x < y
        · have h:¬ y < x:=by omega
          rw [if_pos (by simpa using hc)]; simp [hc,h]
        · rw [if_neg (by simpa using hc)]
          have h:decide (y < x) = true ∨ decide (y < x) = false:=by cases decide (y < x) <;> simp
          rcases h with h | h <;> simp [hc,h]
theorem s_msrR {fu:Nat} {keys:List Int} (down:Bool) (hfu:2097153 ≤ fu):∀ (n:Nat) (l:List Int),l.length ≤ n → l.length ≤ 1048576 → (∀ p ∈ l,0 ≤ p ∧ p < keys.length) →
    d_spec_l1Merge_R fu (n + 1) keys l down = some (msr (dk keys down) (n + 1) l)
 | n,l,hn,hl,hm=>by
  rw [d_spec_l1Merge_R.eq_2]
  unfold d_spec_l1Merge_RB msr
  by_cases h2:l.length < 2
  · rw [bif_true (by simp; omega),if_pos h2,ap1 (by simp; omega)]; rfl
  · rw [bif_false (by simp; omega),if_neg h2]
    have hd:Int.tdiv (l.length:Int) 2 = ((l.length / 2:Nat):Int):=by simp [Int.tdiv]
    obtain ⟨n,rfl⟩:∃ k,n = k + 1:=⟨n - 1,by omega⟩
    rw [hd,w64_id (by omega) (by omega),sls_some (by omega),sls_some (by omega),ob_some]
    simp only [Int.toNat_natCast,Int.toNat_zero,List.drop_zero,Nat.sub_zero,ob_some]
    rw [s_msrR down hfu n (l.take (l.length / 2)) (by rw [List.length_take]; omega) (by rw [List.length_take]; omega) (fun p hp=>hm p (List.mem_of_mem_take hp)),ob_some]
    have e:(l.drop (l.length / 2)).take (l.length - l.length / 2) = l.drop (l.length / 2):=List.take_of_length_le (by rw [List.length_drop]; omega)
    rw [e,s_msrR down hfu n (l.drop (l.length / 2)) (by rw [List.length_drop]; omega) (by rw [List.length_drop]; omega) (fun p hp=>hm p (List.mem_of_mem_drop hp)),ob_some]
    have hp1:=(msr_perm (dk keys down) (n + 1) (l.take (l.length / 2)))
    have hp2:=(msr_perm (dk keys down) (n + 1) (l.drop (l.length / 2)))
    have l1:=hp1.length_eq
    have l2:=hp2.length_eq
    rw [List.length_take] at l1
    rw [List.length_drop] at l2
    rw [show (0:Int) = ((0:Nat):Int) from rfl]
    rw [s_mrg down (fun p hp=>hm p (List.mem_of_mem_take (hp1.mem_iff.1 hp))) (fun p hp=>hm p (List.mem_of_mem_drop (hp2.mem_iff.1 hp))) (by omega) (by omega) _ fu [] 0 0 (by omega) (by omega) rfl (by omega) (by simp; omega)]
    simp
theorem s_up {fu:Nat} {keys:List Int} (hfu:2097153 ≤ fu) (hl:keys.length ≤ 1048576):d_spec_SortUp fu keys = some (srt (kf keys) keys.length):=by
 unfold d_spec_SortUp d_spec_l1Merge
 rw [s_places keys.length hl (by omega),ob_some]
 obtain ⟨m,rfl⟩:∃ m,fu = m + 1:=⟨fu - 1,by omega⟩
 rw [s_msrR false hfu m _ (by rw [ints_len]; omega) (by rw [ints_len]; omega) (fun p hp=>by have:=ints_mem.1 hp; omega),ob_some]
 congr 1
 have e:dk keys false = kf keys:=rfl
 rw [e]
 exact srt_uniq (msr_perm _ _ _) (msr_sorted _ _ _ (by rw [ints_len]; omega) (ints_lt _ _))
theorem lpP {σ α β:Type} (l:List α) (L:Nat → σ → Int → Option β) (F:List α → List α → σ → Option β) (hl:l.length ≤ 1099511627776)
    (hs:∀ n s pre x xs,l = pre ++ x :: xs → ix l (pre.length:Int) = some x → decide ((pre.length:Int) < (l.length:Int)) = true → (∀ s',L n s' (w64 ((pre.length:Int) + 1)) = F (pre ++ [x]) xs s') → L (n + 1) s (pre.length:Int) = F pre (x :: xs) s)
    (he:∀ n s,decide ((l.length:Int) < (l.length:Int)) = false → L (n + 1) s (l.length:Int) = F l [] s):∀ n s,l.length < n → L n s 0 = F [] l s:=by
 have key:∀ (xs pre:List α) (n:Nat) (s:σ),l = pre ++ xs → xs.length < n → L n s (pre.length:Int) = F pre xs s:=by
  intro xs
  induction xs with
  | nil =>
   intro pre n s he' hn
   obtain ⟨n,rfl⟩:∃ k,n = k + 1:=⟨n - 1,by omega⟩
   simp only [List.append_nil] at he'
   subst he'
   exact he n s (by simp)
  | cons x xs ih =>
   intro pre n s he' hn
   obtain ⟨n,rfl⟩:∃ k,n = k + 1:=⟨n - 1,by simp at hn; omega⟩
   have hlen:l.length = pre.length + (xs.length + 1):=by rw [he']; simp
   refine hs n s pre x xs he' ?_ (by simp; omega) fun s'=>?_
   · rw [ix_nat,he']; simp
   · rw [w64_s _ (by omega)]
     have:=ih (pre ++ [x]) n s' (by simp [he']) (by simp at hn; omega)
     simpa using this
 intro n s hn
 simpa using key l [] n s rfl hn
theorem ix_app {α:Type} {pre rest:List α} {i:Int} {y:α} (h:ix pre i = some y):ix (pre ++ rest) i = some y:=by
 obtain ⟨h0,h1,h2⟩:=ix_some h
 unfold ix
 rw [if_pos h0,List.getElem?_append_left (by omega),h2]
theorem ibeq (a b:Int):(a == b) = (b == a):=Bool.eq_iff_iff.2 (by simp only [beq_iff_eq]; exact ⟨Eq.symm,Eq.symm⟩)
theorem i_typById {fu:Nat} {r:Request} (h:Sm fu r) (id:Int):d_impl_TypeById fu r id = some (othM (typM r id)):=by
 have hfu:=h.fu
 have ht:=h.types
 unfold d_impl_TypeById typM
 rw [i_idxTyp (fun y24=>d_impl_TypeById_1 fu y24 id) (fun t=>t.fId == id) (fun t _=>rfl) ht (by omega),ob_some]
 rcases fndI_find (fun t:Typ=>t.fId == id) r.fTypes [] with ⟨h1,h2⟩ | ⟨h1,x,h2,h3⟩
 · simp only [List.length_nil] at h1
   rw [bif_true (by simpa using h1),h2]; rfl
 · simp only [List.length_nil,List.nil_append] at h1 h3
   rw [bif_false (by simpa using h1),h2]
   have h3':ix r.fTypes (fndI (fun t=>t.fId == id) r.fTypes 0) = some x:=h3
   rw [h3']; rfl
theorem s_mas {fu:Nat} {r:Request} (h:Sm fu r):d_spec_MasterOf fu r = some (othM (typM r r.fMaster)):=by
 have hfu:=h.fu
 have ht:=h.types
 unfold d_spec_MasterOf typM
 refine lp r.fTypes (fun n (_:Unit) i=>d_spec_MasterOf_L1 fu r n i) (fun l _=>some (othM (l.find? fun t=>t.fId == r.fMaster))) (by omega) ?_ ?_ fu () (by omega)
 · intro n s i x xs hx hd ih
   simp only [d_spec_MasterOf_L1.eq_2]
   unfold d_spec_MasterOf_L1_B
   simp only [hd,cond_true,hx,ob_some,ih (),List.find?_cons]
   cases x.fId == r.fMaster <;> rfl
 · intro n s i hd
   simp only [d_spec_MasterOf_L1.eq_2]
   unfold d_spec_MasterOf_L1_B
   simp only [hd,cond_false]
   rfl
theorem i_mas {fu:Nat} {r:Request} (h:Sm fu r):d_impl_MasterOf fu r = some (othM (typM r r.fMaster)):=by
 unfold d_impl_MasterOf
 rw [i_typById h]; rfl
theorem othM_2 (o:Option Typ):(othM o).2 = o.isSome:=by cases o <;> rfl
theorem s_nam {fu:Nat} {r:Request} (h:Sm fu r):d_spec_l5Names fu r = some (namB r):=by
 have hfu:=h.fu
 have h1:=h.items
 have h2:=h.types
 have h3:=h.pairs
 have e11:d_spec_l5Names_L3 fu r fu 0 = some (!(r.fPairs.any fun p=>decide (p.fA ≥ r.fClasses) || decide (p.fB ≥ r.fClasses)) && (typM r r.fMaster).isSome):=by
  refine lp r.fPairs (fun n (_:Unit) i=>d_spec_l5Names_L3 fu r n i) (fun l _=>some (!(l.any fun p=>decide (p.fA ≥ r.fClasses) || decide (p.fB ≥ r.fClasses)) && (typM r r.fMaster).isSome)) (by omega) ?_ ?_ fu () (by omega)
  · intro n s i x xs hx hd ih
    simp only [d_spec_l5Names_L3.eq_2]
    unfold d_spec_l5Names_L3_B d_spec_l5Names_J1
    simp only [hd,cond_true,hx,ob_some,ih (),List.any_cons]
    cases decide (x.fA ≥ r.fClasses) <;> cases decide (x.fB ≥ r.fClasses) <;> rfl
  · intro n s i hd
    simp only [d_spec_l5Names_L3.eq_2]
    unfold d_spec_l5Names_L3_B
    simp only [hd,cond_false,s_mas h,ob_some,othM_2]
    rfl
 have e7:∀ b,d_spec_l5Names_L3 fu r fu 0 = some b → d_spec_l5Names_L4 fu r fu 0 = some (nodC r.fClasses [] r.fItems && b):=by
  intro b hb
  refine lpP r.fItems (fun n (_:Unit) i=>d_spec_l5Names_L4 fu r n i) (fun pre l _=>some (nodC r.fClasses pre l && b)) (by omega) ?_ ?_ fu () (by omega)
  · intro n s pre x xs hl hx hd ih
    simp only [d_spec_l5Names_L4.eq_2]
    unfold d_spec_l5Names_L4_B
    simp only [hd,cond_true,hx,ob_some,nodC]
    cases hc:decide (x.fClass ≥ r.fClasses)
    · have hpl:pre.length ≤ r.fItems.length:=by rw [hl]; simp
      have e8:d_spec_l5Names_L2 fu (fun i=>d_spec_l5Names_L4 fu r n i) r (pre.length:Int) fu 0 = bif pre.any (fun y=>y.fId == x.fId) then some false else d_spec_l5Names_L4 fu r n (w64 ((pre.length:Int) + 1)):=by
       refine lp pre (fun m (_:Unit) i=>d_spec_l5Names_L2 fu (fun i=>d_spec_l5Names_L4 fu r n i) r (pre.length:Int) m i) (fun l _=>bif l.any (fun y=>y.fId == x.fId) then some false else d_spec_l5Names_L4 fu r n (w64 ((pre.length:Int) + 1))) (by omega) ?_ ?_ fu () (by omega)
       · intro m s i y ys hy hd ih
         simp only [d_spec_l5Names_L2.eq_2]
         unfold d_spec_l5Names_L2_B
         have hy':ix r.fItems i = some y:=by rw [hl]; exact ix_app hy
         simp only [hd,cond_true,hx,hy',ob_some,ih (),List.any_cons]
         rw [ibeq x.fId y.fId]
         cases y.fId == x.fId <;> rfl
       · intro m s i hd
         simp only [d_spec_l5Names_L2.eq_2]
         unfold d_spec_l5Names_L2_B
         simp only [hd,cond_false]
         rfl
      have e8':d_spec_l5Names_L2 fu (d_spec_l5Names_L4 fu r n) r (pre.length:Int) fu 0 = bif pre.any (fun y=>y.fId == x.fId) then some false else d_spec_l5Names_L4 fu r n (w64 ((pre.length:Int) + 1)):=e8
      rw [cond_false,e8',ih ()]
      cases pre.any (fun y=>y.fId == x.fId) <;> rfl
    · rfl
  · intro n s hd
    simp only [d_spec_l5Names_L4.eq_2]
    unfold d_spec_l5Names_L4_B
    simp only [hd,cond_false,hb]
    rfl
 have e3:∀ b,d_spec_l5Names_L4 fu r fu 0 = some b → d_spec_l5Names_L5 fu r fu 0 = some (nodB Typ.fId [] r.fTypes && b):=by
  intro b hb
  refine lpP r.fTypes (fun n (_:Unit) i=>d_spec_l5Names_L5 fu r n i) (fun pre l _=>some (nodB Typ.fId pre l && b)) (by omega) ?_ ?_ fu () (by omega)
  · intro n s pre x xs hl hx hd ih
    simp only [d_spec_l5Names_L5.eq_2]
    unfold d_spec_l5Names_L5_B
    simp only [hd,cond_true,nodB]
    have hpl:pre.length ≤ r.fTypes.length:=by rw [hl]; simp
    have e8:d_spec_l5Names_L1 fu (fun i=>d_spec_l5Names_L5 fu r n i) r (pre.length:Int) fu 0 = bif pre.any (fun y=>y.fId == x.fId) then some false else d_spec_l5Names_L5 fu r n (w64 ((pre.length:Int) + 1)):=by
     refine lp pre (fun m (_:Unit) i=>d_spec_l5Names_L1 fu (fun i=>d_spec_l5Names_L5 fu r n i) r (pre.length:Int) m i) (fun l _=>bif l.any (fun y=>y.fId == x.fId) then some false else d_spec_l5Names_L5 fu r n (w64 ((pre.length:Int) + 1))) (by omega) ?_ ?_ fu () (by omega)
     · intro m s i y ys hy hd ih
       simp only [d_spec_l5Names_L1.eq_2]
       unfold d_spec_l5Names_L1_B
       have hy':ix r.fTypes i = some y:=by rw [hl]; exact ix_app hy
       simp only [hd,cond_true,hx,hy',ob_some,ih (),List.any_cons]
       rw [ibeq x.fId y.fId]
       cases y.fId == x.fId <;> rfl
     · intro m s i hd
       simp only [d_spec_l5Names_L1.eq_2]
       unfold d_spec_l5Names_L1_B
       simp only [hd,cond_false]
       rfl
    have e8':d_spec_l5Names_L1 fu (d_spec_l5Names_L5 fu r n) r (pre.length:Int) fu 0 = bif pre.any (fun y=>y.fId == x.fId) then some false else d_spec_l5Names_L5 fu r n (w64 ((pre.length:Int) + 1)):=e8
    rw [e8',ih ()]
    cases pre.any (fun y=>y.fId == x.fId) <;> rfl
  · intro n s hd
    simp only [d_spec_l5Names_L5.eq_2]
    unfold d_spec_l5Names_L5_B
    simp only [hd,cond_false,hb]
    rfl
 unfold d_spec_l5Names namB
 rw [e3 _ (e7 _ e11)]
 congr 1
 cases nodB Typ.fId [] r.fTypes <;> cases nodC r.fClasses [] r.fItems <;> cases (typM r r.fMaster).isSome <;> cases r.fPairs.any fun p=>decide (p.fA ≥ r.fClasses) || decide (p.fB ≥ r.fClasses) <;> rfl
theorem sls_pre {α:Type} {l pre xs:List α} {x:α} (h:l = pre ++ x :: xs):sls l 0 (pre.length:Int) = some pre:=by
 rw [sls_some ⟨by omega,by omega,by rw [h]; simp; omega⟩]
 simp [h]
theorem i_nam {fu:Nat} {r:Request} (h:Sm fu r):d_impl_namesOk fu r = some (namB r):=by
 have hfu:=h.fu
 have h1:=h.items
 have h2:=h.types
 have h3:=h.pairs
 have e4:d_impl_namesOk_L1 fu r fu 0 = some (nodC r.fClasses [] r.fItems && ((typM r r.fMaster).isSome && !(r.fPairs.any fun p=>decide (p.fA ≥ r.fClasses) || decide (p.fB ≥ r.fClasses)))):=by
  refine lpP r.fItems (fun n (_:Unit) i=>d_impl_namesOk_L1 fu r n i) (fun pre l _=>some (nodC r.fClasses pre l && ((typM r r.fMaster).isSome && !(r.fPairs.any fun p=>decide (p.fA ≥ r.fClasses) || decide (p.fB ≥ r.fClasses))))) (by omega) ?_ ?_ fu () (by omega)
  · intro n s pre x xs hl hx hd ih
    simp only [d_impl_namesOk_L1.eq_2]
    unfold d_impl_namesOk_L1_B d_impl_namesOk_J1
    have hpl:pre.length ≤ r.fItems.length:=by rw [hl]; simp
    simp only [hd,cond_true,hx,ob_some,sls_pre hl,i_anyItem (fun y=>d_impl_namesOk_2 fu y x) (fun y=>y.fId == x.fId) (fun y _=>rfl) (show pre.length ≤ 1048576 by omega) (show pre.length < fu by omega),nodC,ih ()]
    cases decide (x.fClass ≥ r.fClasses) <;> cases pre.any (fun y=>y.fId == x.fId) <;> rfl
  · intro n s hd
    simp only [d_impl_namesOk_L1.eq_2]
    unfold d_impl_namesOk_L1_B
    simp only [hd,cond_false,i_mas h,ob_some,othM_2]
    rw [i_anyPair (fun y=>d_impl_namesOk_3 fu y r) (fun p=>decide (p.fA ≥ r.fClasses) || decide (p.fB ≥ r.fClasses)) (fun p _=>by
     unfold d_impl_namesOk_3
     cases decide (p.fA ≥ r.fClasses) <;> rfl) h3 (by omega),ob_some]
    cases (typM r r.fMaster).isSome <;> rfl
 have e3:∀ b,d_impl_namesOk_L1 fu r fu 0 = some b → d_impl_namesOk_L2 fu r fu 0 = some (nodB Typ.fId [] r.fTypes && b):=by
  intro b hb
  refine lpP r.fTypes (fun n (_:Unit) i=>d_impl_namesOk_L2 fu r n i) (fun pre l _=>some (nodB Typ.fId pre l && b)) (by omega) ?_ ?_ fu () (by omega)
  · intro n s pre x xs hl hx hd ih
    simp only [d_impl_namesOk_L2.eq_2]
    unfold d_impl_namesOk_L2_B
    have hpl:pre.length ≤ r.fTypes.length:=by rw [hl]; simp
    simp only [hd,cond_true,hx,ob_some,sls_pre hl,i_anyTyp (fun y=>d_impl_namesOk_1 fu y x) (fun y=>y.fId == x.fId) (fun y _=>rfl) (show pre.length ≤ 1048576 by omega) (show pre.length < fu by omega),nodB,ih ()]
    cases pre.any (fun y=>y.fId == x.fId) <;> rfl
  · intro n s hd
    simp only [d_impl_namesOk_L2.eq_2]
    unfold d_impl_namesOk_L2_B
    simp only [hd,cond_false,hb]
    rfl
 unfold d_impl_namesOk namB
 rw [e3 _ e4]
 congr 1
 cases nodB Typ.fId [] r.fTypes <;> cases nodC r.fClasses [] r.fItems <;> cases (typM r r.fMaster).isSome <;> cases r.fPairs.any fun p=>decide (p.fA ≥ r.fClasses) || decide (p.fB ≥ r.fClasses) <;> rfl
theorem s_bes {fu:Nat} {l:List Pair} (hl:l.length ≤ 1048576) (hf:l.length < fu) (a b:Int):d_spec_Beside fu l a b = some (besB l a b):=by
 unfold d_spec_Beside besB
 refine lp l (fun n (_:Unit) i=>d_spec_Beside_L1 fu l a b n i) (fun l _=>some (l.any fun p=>p.fA == a && p.fB == b)) (by omega) ?_ ?_ fu () hf
 · intro n s i x xs hx hd ih
   simp only [d_spec_Beside_L1.eq_2]
   unfold d_spec_Beside_L1_B d_spec_Beside_J1
   simp only [hd,cond_true,hx,ob_some,ih (),List.any_cons]
   cases x.fA == a <;> cases x.fB == b <;> rfl
 · intro n s i hd
   simp only [d_spec_Beside_L1.eq_2]
   unfold d_spec_Beside_L1_B
   simp only [hd,cond_false]
   rfl
theorem i_bes {fu:Nat} {l:List Pair} (hl:l.length ≤ 1048576) (hf:l.length < fu) (a b:Int):d_impl_Beside fu l a b = some (besB l a b):=by
 unfold d_impl_Beside d_slices_Contains_impl_Pair_impl_Pair d_slices_Index_impl_Pair_impl_Pair besB
 have:=idx_loop l (fun n i=>d_slices_Index_impl_Pair_impl_Pair_L1 fu l (⟨a,b⟩:Pair) n i) (fun p=>p.fA == a && p.fB == b) (by omega) (by
  intro n i x hx hd
  simp only [d_slices_Index_impl_Pair_impl_Pair_L1.eq_2]
  unfold d_slices_Index_impl_Pair_impl_Pair_L1_B
  simp only [hd,cond_true,hx,ob_some]
  have:decide ((⟨a,b⟩:Pair) = x) = (x.fA == a && x.fB == b):=by
   rcases x with ⟨c,d⟩
   apply Bool.eq_iff_iff.2
   simp only [decide_eq_true_eq,Pair.mk.injEq,Bool.and_eq_true,beq_iff_eq]
   exact ⟨fun ⟨h1,h2⟩=>⟨h1.symm,h2.symm⟩,fun ⟨h1,h2⟩=>⟨h1.symm,h2.symm⟩⟩
  rw [this]) (by
  intro n i hd
  simp only [d_slices_Index_impl_Pair_impl_Pair_L1.eq_2]
  unfold d_slices_Index_impl_Pair_impl_Pair_L1_B
  simp only [hd,cond_false]) fu hf
 rw [this,ob_some,fndI_any _ l 0 (by omega),ob_some]
theorem i_tab {fu:Nat} {l:List Pair} (hl:l.length ≤ 1048576) (hf:l.length < fu) (h64:64 < fu) (c:Int):d_impl_TableOk fu l c = some (tabB l c):=by
 unfold d_impl_TableOk tabB
 rw [i_in,ob_some]
 cases hc:inb c 1 4
 · rfl
 rw [inb_iff] at hc
 simp only [Bool.not_true,cond_false,Bool.true_and]
 have e4:∀ (k:Int → Option Bool) (a:Int),d_impl_TableOk_L1 fu k l c a fu 0 = bif (ints 0 c.toNat).all fun b=>besB l a b == besB l b a then k (w64 (a + 1)) else some false:=by
  intro k a
  refine lpN c (fun n (_:Unit) i=>d_impl_TableOk_L1 fu k l c a n i) (fun xs _=>bif xs.all fun b=>besB l a b == besB l b a then k (w64 (a + 1)) else some false) (by omega) ?_ ?_ c.toNat fu () 0 (by omega) (by omega) (by omega)
  · intro n s i xs h0 h1 hd ih
    simp only [d_impl_TableOk_L1.eq_2]
    unfold d_impl_TableOk_L1_B
    simp only [hd,cond_true,i_bes hl hf,ob_some,ih (),List.all_cons]
    cases besB l a i == besB l i a <;> rfl
  · intro n s i hd
    simp only [d_impl_TableOk_L1.eq_2]
    unfold d_impl_TableOk_L1_B
    simp only [hd,cond_false]
    rfl
 refine lpN c (fun n (_:Unit) i=>d_impl_TableOk_L2 fu l c n i) (fun xs _=>some (xs.all fun a=>besB l a a && (ints 0 c.toNat).all fun b=>besB l a b == besB l b a)) (by omega) ?_ ?_ c.toNat fu () 0 (by omega) (by omega) (by omega)
 · intro n s i xs h0 h1 hd ih
   simp only [d_impl_TableOk_L2.eq_2]
   unfold d_impl_TableOk_L2_B
   simp only [hd,cond_true,i_bes hl hf,ob_some,e4,ih (),List.all_cons]
   cases besB l i i <;> cases (ints 0 c.toNat).all fun b=>besB l i b == besB l b i <;> rfl
 · intro n s i hd
   simp only [d_impl_TableOk_L2.eq_2]
   unfold d_impl_TableOk_L2_B
   simp only [hd,cond_false]
   rfl
theorem s_tab {fu:Nat} {l:List Pair} (hl:l.length ≤ 1048576) (hf:l.length < fu) (h64:64 < fu) (c:Int):d_spec_TableOk fu l c = some (tabB l c):=by
 unfold d_spec_TableOk tabB
 rw [s_in,ob_some]
 cases hc:inb c 1 4
 · rfl
 rw [inb_iff] at hc
 simp only [Bool.not_true,cond_false,Bool.true_and]
 have e4:∀ (k:Int → Option Bool) (a:Int),d_spec_TableOk_L1 fu k l c a fu 0 = bif (ints 0 c.toNat).all fun b=>(!(a == b) || besB l a a) && (besB l a b == besB l b a) then k (w64 (a + 1)) else some false:=by
  intro k a
  refine lpN c (fun n (_:Unit) i=>d_spec_TableOk_L1 fu k l c a n i) (fun xs _=>bif xs.all fun b=>(!(a == b) || besB l a a) && (besB l a b == besB l b a) then k (w64 (a + 1)) else some false) (by omega) ?_ ?_ c.toNat fu () 0 (by omega) (by omega) (by omega)
  · intro n s i xs h0 h1 hd ih
    simp only [d_spec_TableOk_L1.eq_2]
    unfold d_spec_TableOk_L1_B d_spec_TableOk_J1
    simp only [hd,cond_true,s_bes hl hf,ob_some,ih (),List.all_cons]
    cases a == i <;> cases besB l a a <;> cases besB l a i == besB l i a <;> rfl
  · intro n s i hd
    simp only [d_spec_TableOk_L1.eq_2]
    unfold d_spec_TableOk_L1_B
    simp only [hd,cond_false]
    rfl
 have e9:d_spec_TableOk_L2 fu l c fu 0 = some ((ints 0 c.toNat).all fun a=>(ints 0 c.toNat).all fun b=>(!(a == b) || besB l a a) && (besB l a b == besB l b a)):=by
  refine lpN c (fun n (_:Unit) i=>d_spec_TableOk_L2 fu l c n i) (fun xs _=>some (xs.all fun a=>(ints 0 c.toNat).all fun b=>(!(a == b) || besB l a a) && (besB l a b == besB l b a))) (by omega) ?_ ?_ c.toNat fu () 0 (by omega) (by omega) (by omega)
  · intro n s i xs h0 h1 hd ih
    simp only [d_spec_TableOk_L2.eq_2]
    unfold d_spec_TableOk_L2_B
    simp only [hd,cond_true,e4,ih (),List.all_cons]
    cases (ints 0 c.toNat).all fun b=>(!(i == b) || besB l i i) && (besB l i b == besB l b i) <;> rfl
  · intro n s i hd
    simp only [d_spec_TableOk_L2.eq_2]
    unfold d_spec_TableOk_L2_B
    simp only [hd,cond_false]
    rfl
 rw [e9]
 congr 1
 apply Bool.eq_iff_iff.2
 simp only [List.all_eq_true,Bool.and_eq_true,Bool.or_eq_true,Bool.not_eq_true',beq_eq_false_iff_ne,beq_iff_eq]
 constructor
 · intro h a ha
   refine ⟨?_,fun b hb=>(h a ha b hb).2⟩
   rcases (h a ha a ha).1 with h1 | h1
   · exact absurd rfl h1
   · exact h1
 · intro h a ha b hb
   exact ⟨.inr (h a ha).1,(h a ha).2 b hb⟩
theorem len3 {l:List Int} (h:l.length = 3):∃ p q s,l = [p,q,s]:=by
 match l,h with
 | [p,q,s],_=>exact ⟨p,q,s,rfl⟩
theorem s_sid {fu:Nat} (hfu:2097153 ≤ fu) (a b c:Int):d_spec_l5Sides fu a b c = some [(sid a b c).1,(sid a b c).2.1,(sid a b c).2.2]:=by
 unfold d_spec_l5Sides
 rw [s_up hfu (by simp),ob_some,show [a,b,c].length = 3 from rfl]
 have hp:=srt_perm (kf [a,b,c]) 3
 have hs:=srt_sorted (kf [a,b,c]) 3
 obtain ⟨p,q,s,hq⟩:=len3 (srt_len (kf [a,b,c]) 3)
 rw [hq] at hp hs ⊢
 have hmem:∀ x ∈ [p,q,s],0 ≤ x ∧ x < 3:=fun x hx=>by
  have:=ints_mem.1 (hp.mem_iff.1 hx)
  omega
 have k1:=kf_ix (keys:=[a,b,c]) (p:=p) (by have:=hmem p (by simp); simpa using this)
 have k2:=kf_ix (keys:=[a,b,c]) (p:=q) (by have:=hmem q (by simp); simpa using this)
 have k3:=kf_ix (keys:=[a,b,c]) (p:=s) (by have:=hmem s (by simp); simpa using this)
 rw [show ix [p,q,s] 0 = some p from rfl,show ix [p,q,s] 1 = some q from rfl,show ix [p,q,s] 2 = some s from rfl]
 simp only [ob_some,k1,k2,k3]
 have hp3:([a,b,c]).Perm [kf [a,b,c] p,kf [a,b,c] q,kf [a,b,c] s]:=(hp.map (kf [a,b,c])).symm
 simp only [List.pairwise_cons,List.mem_cons,List.not_mem_nil,or_false,forall_eq_or_imp,forall_eq,lx] at hs
 have:=perm3 hp3 (by omega) (by omega)
 rw [this]
theorem s_fit {fu:Nat} (hfu:2097153 ≤ fu) (x:Item) (t:Typ):d_spec_Fits fu x t = some (fitB x t):=by
 unfold d_spec_Fits fitB
 rw [s_sid hfu,s_sid hfu]
 simp only [ob_some]
 have e0:∀ a b c:Int,ix [a,b,c] 0 = some a:=fun _ _ _=>rfl
 have e1:∀ a b c:Int,ix [a,b,c] 1 = some b:=fun _ _ _=>rfl
 have e2:∀ a b c:Int,ix [a,b,c] 2 = some c:=fun _ _ _=>rfl
 simp only [e0,e1,e2,ob_some]
 cases decide ((sid x.fW x.fH x.fD).1 ≤ (sid t.fW t.fH t.fD).1) <;> cases decide ((sid x.fW x.fH x.fD).2.1 ≤ (sid t.fW t.fH t.fD).2.1) <;> cases decide ((sid x.fW x.fH x.fD).2.2 ≤ (sid t.fW t.fH t.fD).2.2) <;> rfl
theorem sortI3 (a b c:Int):sortI [a,b,c] = some [(sid a b c).1,(sid a b c).2.1,(sid a b c).2.2]:=by
 unfold sortI
 rw [if_pos (by simp)]
 have hp:=List.mergeSort_perm [a,b,c] (fun x y=>decide (x ≤ y))
 have hs:=mergeSort_le [a,b,c]
 obtain ⟨p,q,s,hq⟩:=len3 (hp.length_eq)
 rw [hq] at hp hs ⊢
 simp only [List.pairwise_cons,List.mem_cons,List.not_mem_nil,or_false,forall_eq_or_imp,forall_eq] at hs
 rw [perm3 hp.symm (by omega) (by omega)]
theorem i_fit (fu:Nat) (x:Item) (t:Typ):d_impl_Fits fu x t = some (fitB x t):=by
 unfold d_impl_Fits d_impl_Fits_J1 d_slices_Sort_int_int fitB
 rw [sortI3,sortI3]
 have e0:∀ a b c:Int,ix [a,b,c] 0 = some a:=fun _ _ _=>rfl
 have e1:∀ a b c:Int,ix [a,b,c] 1 = some b:=fun _ _ _=>rfl
 have e2:∀ a b c:Int,ix [a,b,c] 2 = some c:=fun _ _ _=>rfl
 simp only [ob_some,e0,e1,e2]
 cases decide ((sid x.fW x.fH x.fD).1 ≤ (sid t.fW t.fH t.fD).1) <;> cases decide ((sid x.fW x.fH x.fD).2.1 ≤ (sid t.fW t.fH t.fD).2.1) <;> cases decide ((sid x.fW x.fH x.fD).2.2 ≤ (sid t.fW t.fH t.fD).2.2) <;> rfl
theorem s_cls {fu:Nat} {r:Request} (h:Sm fu r):d_spec_Class fu r = some (clsM r):=by
 have hfu:=h.fu
 have h1:=h.items
 have h2:=h.types
 have h3:=h.pairs
 have e4:d_spec_Class_L1 fu r fu 0 = some (bif r.fTypes.any (tooB r.fPallet) then 6 else 0):=by
  refine lp r.fTypes (fun n (_:Unit) i=>d_spec_Class_L1 fu r n i) (fun l _=>some (bif l.any (tooB r.fPallet) then 6 else 0)) (by omega) ?_ ?_ fu () (by omega)
  · intro n s i x xs hx hd ih
    simp only [d_spec_Class_L1.eq_2]
    unfold d_spec_Class_L1_B d_spec_Class_J1
    simp only [hd,cond_true,hx,ob_some,ih (),List.any_cons,tooB]
    cases decide (x.fW > r.fPallet.fW) <;> cases decide (x.fD > r.fPallet.fD) <;> cases decide (x.fH > r.fPallet.fH) <;> cases decide (w64 (x.fTare + x.fGram) > r.fPallet.fGram) <;> rfl
  · intro n s i hd
    simp only [d_spec_Class_L1.eq_2]
    unfold d_spec_Class_L1_B
    simp only [hd,cond_false]
    rfl
 unfold d_spec_Class clsM
 rw [s_bou h,ob_some,s_nam h,ob_some,s_tab h3 (by omega) (by omega),ob_some,s_mas h,ob_some]
 have e1:d_spec_Class_L2 fu r (othM (typM r r.fMaster)) fu 0 = some (bif !(r.fItems.all fun x=>fitB x (masM r)) then 5 else bif r.fTypes.any (tooB r.fPallet) then 6 else 0):=by
  refine lp r.fItems (fun n (_:Unit) i=>d_spec_Class_L2 fu r (othM (typM r r.fMaster)) n i) (fun l _=>some (bif !(l.all fun x=>fitB x (masM r)) then 5 else bif r.fTypes.any (tooB r.fPallet) then 6 else 0)) (by omega) ?_ ?_ fu () (by omega)
  · intro n s i x xs hx hd ih
    simp only [d_spec_Class_L2.eq_2]
    unfold d_spec_Class_L2_B
    simp only [hd,cond_true,hx,ob_some,s_fit hfu,ih (),List.all_cons]
    rw [show (othM (typM r r.fMaster)).1 = masM r from rfl]
    cases fitB x (masM r) <;> rfl
  · intro n s i hd
    simp only [d_spec_Class_L2.eq_2]
    unfold d_spec_Class_L2_B
    simp only [hd,cond_false,e4]
    rfl
 rw [e1]
 cases bouB r <;> cases namB r <;> cases tabB r.fPairs r.fClasses <;> rfl
theorem i_cls {fu:Nat} {r:Request} (h:Sm fu r):d_impl_Class fu r = some (clsM r):=by
 have hfu:=h.fu
 have h1:=h.items
 have h2:=h.types
 have h3:=h.pairs
 unfold d_impl_Class clsM
 rw [i_mas h,ob_some,i_bou h,ob_some,i_nam h,ob_some,i_tab h3 (by omega) (by omega),ob_some]
 rw [i_anyItem (fun y=>d_impl_Class_1 fu y (othM (typM r r.fMaster)).1) (fun x=>!fitB x (masM r)) (fun x _=>by
  unfold d_impl_Class_1
  rw [i_fit,ob_some]; rfl) h1 (by omega),ob_some]
 rw [i_anyTyp (fun y=>d_impl_Class_2 fu y r.fPallet) (tooB r.fPallet) (fun x _=>by
  unfold d_impl_Class_2 tooB
  cases decide (x.fW > r.fPallet.fW) <;> cases decide (x.fD > r.fPallet.fD) <;> cases decide (x.fH > r.fPallet.fH) <;> rfl) h2 (by omega),ob_some]
 rw [show (r.fItems.any fun x=>!fitB x (masM r)) = !(r.fItems.all fun x=>fitB x (masM r)) by simp [List.not_all_eq_any_not]]
 cases bouB r <;> cases namB r <;> cases tabB r.fPairs r.fClasses <;> cases r.fItems.all fun x=>fitB x (masM r) <;> cases r.fTypes.any (tooB r.fPallet) <;> rfl
theorem i_sound {fu:Nat} {r:Request} (h:Sm fu r):d_impl_sound fu r = some (clsM r == 0):=by
 unfold d_impl_sound
 rw [i_cls h]; rfl
def incP:List Int → List Int → Bool
 | _,[]=>true
 | pre,x :: xs=>inb x 0 999 && ((match pre.getLast? with | none=>true | some y=>decide (y < x)) && incP (pre ++ [x]) xs)
def uriB (l:List Int):Bool:=incP [] l && decide ((l.length:Int) ≤ 100)
def cokB (c:Carton):Bool:=inb c.fType 0 999 && (inb c.fGroup 0 3 && uriB c.fUnits)
def sokB (s:Spot):Bool:=inb s.fPallet 0 2000 && (inb s.fX 0 2000 && (inb s.fY 0 2000 && inb s.fZ 0 2000))
def pokB (x:Plan):Bool:=x.fSpots.length == x.fCartons.length && (decide ((x.fCartons.length:Int) ≤ 100) && (x.fCartons.zip x.fSpots).all fun p=>cokB p.1 && sokB p.2)
theorem last_ix {pre:List Int} {x:Int} {xs l:List Int} (hl:l.length ≤ 1048576) (e:l = pre ++ x :: xs):(pre.getLast? = none ∧ pre.length = 0) ∨ ∃ y,pre.getLast? = some y ∧ 0 < pre.length ∧ ix l (w64 ((pre.length:Int) - 1)) = some y:=by
 cases hp:pre.getLast? with
 | none=>exact .inl ⟨rfl,by simpa using List.getLast?_eq_none_iff.1 hp⟩
 | some y =>
  have hne:pre ≠ []:=fun e=>by subst e; simp at hp
  have hpos:0 < pre.length:=List.length_pos_iff.2 hne
  refine .inr ⟨y,rfl,hpos,?_⟩
  have h1:w64 ((pre.length:Int) - 1) = ((pre.length - 1:Nat):Int):=by
   have:pre.length ≤ l.length:=by rw [e]; simp
   rw [w64_id (by omega) (by omega)]; omega
  rw [h1,ix_nat,e,List.getElem?_append_left (by omega),← List.getLast?_eq_getElem?,hp]
theorem i_uri {fu:Nat} {l:List Int} (hl:l.length ≤ 1048576) (hf:l.length < fu):d_impl_unitsRight fu l = some (uriB l):=by
 unfold d_impl_unitsRight uriB
 have key:=lpP l (fun n (_:Unit) i=>d_impl_unitsRight_L1 fu l n i) (fun pre xs _=>some (incP pre xs && decide ((l.length:Int) ≤ 100))) (by omega) ?_ ?_ fu () hf
 · exact key
 · intro n _ pre x xs e hx hd ih
   have ih:=ih ()
   simp only [d_impl_unitsRight_L1.eq_2]
   unfold d_impl_unitsRight_L1_B d_impl_unitsRight_J1 incP
   rw [hd,cond_true,hx,ob_some,i_in,ob_some]
   cases inb x 0 999
   · rfl
   · rw [Bool.not_true,cond_false,Bool.true_and]
     rcases last_ix (hl:=hl) e with ⟨h1,h2⟩ | ⟨y,h1,h2,h3⟩
     · rw [h1,show decide ((pre.length:Int) > 0) = false from decide_eq_false (by omega),cond_false,ih]
       simp
     · rw [h1,show decide ((pre.length:Int) > 0) = true from decide_eq_true (by omega),cond_true,h3,ob_some,ih]
       by_cases hy:y < x
       · rw [show decide (y ≥ x) = false by simp; omega,cond_false]; simp [hy]
       · rw [show decide (y ≥ x) = true by simp; omega,cond_true]; simp [hy]
 · intro n _ hd
   simp only [d_impl_unitsRight_L1.eq_2]
   unfold d_impl_unitsRight_L1_B
   rw [hd,cond_false]
   simp [incP]
theorem s_cok {fu:Nat} {c:Carton} (hl:c.fUnits.length ≤ 1048576) (hf:c.fUnits.length < fu):d_spec_l13Carton fu c = some (cokB c):=by
 unfold d_spec_l13Carton cokB
 rw [s_id,ob_some,s_in,ob_some]
 cases inb c.fType 0 999
 · rfl
 · rw [Bool.not_true,cond_false]
   cases inb c.fGroup 0 3
   · rfl
   · rw [Bool.not_true,cond_false,Bool.true_and,Bool.true_and]
     unfold uriB
     by_cases h1:(c.fUnits.length:Int) ≤ 100
     · rw [show decide ((c.fUnits.length:Int) > 100) = false by simp; omega,cond_false,show decide ((c.fUnits.length:Int) ≤ 100) = true by simpa using h1,Bool.and_true]
       unfold d_spec_l13Carton_J2
       have key:=lpP c.fUnits (fun n (_:Unit) i=>d_spec_l13Carton_L1 fu c n i) (fun pre xs _=>some (incP pre xs)) (by omega) ?_ ?_ fu () hf
       · exact key
       · intro n _ pre x xs e hx hd ih
         have ih:=ih ()
         simp only [d_spec_l13Carton_L1.eq_2]
         unfold d_spec_l13Carton_L1_B d_spec_l13Carton_J1 incP
         rw [hd,cond_true,hx,ob_some,s_in,ob_some]
         cases inb x 0 999
         · rfl
         · rw [Bool.not_true,cond_false,Bool.true_and]
           rcases last_ix (hl:=hl) e with ⟨h1,h2⟩ | ⟨y,h1,h2,h3⟩
           · rw [h1,show decide ((pre.length:Int) > 0) = false from decide_eq_false (by omega),cond_false,ih]
             simp
           · rw [h1,show decide ((pre.length:Int) > 0) = true from decide_eq_true (by omega),cond_true,ob_some,h3,ob_some,ih]
             by_cases hy:y < x
             · rw [show decide (x ≤ y) = false by simp; omega,cond_false]; simp [hy]
             · rw [show decide (x ≤ y) = true by simp; omega,cond_true]; simp [hy]
       · intro n _ hd
         simp only [d_spec_l13Carton_L1.eq_2]
         unfold d_spec_l13Carton_L1_B
         rw [hd,cond_false]
         simp [incP]
     · rw [show decide ((c.fUnits.length:Int) > 100) = true by simp; omega,cond_true,show decide ((c.fUnits.length:Int) ≤ 100) = false by simpa using h1,Bool.and_false]
theorem zip_ix {α β:Type} {a:List α} {b:List β} {i:Int} {p:α × β} (h:ix (a.zip b) i = some p):ix a i = some p.1 ∧ ix b i = some p.2:=by
 obtain ⟨h0,_,h1⟩:=ix_some h
 have:=List.getElem?_zip_eq_some.1 h1
 unfold ix
 rw [if_pos h0,if_pos h0]
 exact this
theorem i_pok {fu:Nat} {x:Plan} (h:Sp x) (hf:1048577 ≤ fu):d_impl_PlanOk fu x = some (pokB x):=by
 have hs:=h.spots
 have hc:=h.cars
 unfold d_impl_PlanOk pokB
 cases he:x.fSpots.length == x.fCartons.length
 · have:((x.fSpots.length:Int) != (x.fCartons.length:Int)) = true:=by simp at he ⊢; omega
   rw [this]; rfl
 · have el:x.fSpots.length = x.fCartons.length:=by simpa using he
   have:((x.fSpots.length:Int) != (x.fCartons.length:Int)) = false:=by simp; omega
   rw [this,cond_false,Bool.true_and]
   by_cases h1:(x.fCartons.length:Int) ≤ 100
   · rw [show decide ((x.fCartons.length:Int) > 100) = false by simp; omega,cond_false,show decide ((x.fCartons.length:Int) ≤ 100) = true by simpa using h1,Bool.true_and]
     unfold d_impl_PlanOk_J2
     have hz:(x.fCartons.zip x.fSpots).length = x.fCartons.length:=by simp; omega
     have key:=lp (x.fCartons.zip x.fSpots) (fun n (_:Unit) i=>d_impl_PlanOk_L1 fu x n i) (fun l _=>some (l.all fun p=>cokB p.1 && sokB p.2)) (by omega) ?_ ?_ fu () (by omega)
     · exact key
     · intro n _ i p xs hx hd ih
       have ih:=ih ()
       obtain ⟨e1,e2⟩:=zip_ix hx
       have hu:=h.units p.1 (ix_mem e1)
       rw [hz] at hd
       simp only [d_impl_PlanOk_L1.eq_2]
       unfold d_impl_PlanOk_L1_B d_impl_PlanOk_J1
       simp only [hd,cond_true,e1,e2,ob_some,i_in,i_uri hu (show p.1.fUnits.length < fu by omega),i_place,ih,List.all_cons]
       unfold cokB sokB
       cases inb p.1.fType 0 999 <;> cases inb p.1.fGroup 0 3 <;> cases uriB p.1.fUnits <;> cases inb p.2.fPallet 0 2000 <;> cases inb p.2.fX 0 2000 <;> cases inb p.2.fY 0 2000 <;> cases inb p.2.fZ 0 2000 <;> rfl
     · intro n _ i hd
       rw [hz] at hd
       simp only [d_impl_PlanOk_L1.eq_2]
       unfold d_impl_PlanOk_L1_B
       simp [hd]
   · rw [show decide ((x.fCartons.length:Int) > 100) = true by simp; omega,cond_true,show decide ((x.fCartons.length:Int) ≤ 100) = false by simpa using h1,Bool.false_and]
theorem s_pok {fu:Nat} {x:Plan} (h:Sp x) (hf:1048577 ≤ fu):d_spec_PlanOk fu x = some (pokB x):=by
 have hs:=h.spots
 have hc:=h.cars
 unfold d_spec_PlanOk pokB
 cases he:x.fSpots.length == x.fCartons.length
 · have:((x.fCartons.length:Int) != (x.fSpots.length:Int)) = true:=by simp at he ⊢; omega
   rw [this]; rfl
 · have el:x.fSpots.length = x.fCartons.length:=by simpa using he
   have:((x.fCartons.length:Int) != (x.fSpots.length:Int)) = false:=by simp; omega
   rw [this,cond_false,Bool.true_and]
   by_cases h1:(x.fCartons.length:Int) ≤ 100
   · rw [show decide ((x.fCartons.length:Int) > 100) = false by simp; omega,cond_false,show decide ((x.fCartons.length:Int) ≤ 100) = true by simpa using h1,Bool.true_and]
     unfold d_spec_PlanOk_J2
     have hz:(x.fCartons.zip x.fSpots).length = x.fCartons.length:=by simp; omega
     have key:=lp (x.fCartons.zip x.fSpots) (fun n (_:Unit) i=>d_spec_PlanOk_L1 fu x n i) (fun l _=>some (l.all fun p=>cokB p.1 && sokB p.2)) (by omega) ?_ ?_ fu () (by omega)
     · exact key
     · intro n _ i p xs hx hd ih
       have ih:=ih ()
       obtain ⟨e1,e2⟩:=zip_ix hx
       have hu:=h.units p.1 (ix_mem e1)
       rw [hz] at hd
       simp only [d_spec_PlanOk_L1.eq_2]
       unfold d_spec_PlanOk_L1_B d_spec_PlanOk_J1
       simp only [hd,cond_true,e1,e2,ob_some,s_in,s_cok hu (show p.1.fUnits.length < fu by omega),ih,List.all_cons]
       unfold sokB
       cases cokB p.1 <;> cases inb p.2.fPallet 0 2000 <;> cases inb p.2.fX 0 2000 <;> cases inb p.2.fY 0 2000 <;> cases inb p.2.fZ 0 2000 <;> rfl
     · intro n _ i hd
       rw [hz] at hd
       simp only [d_spec_PlanOk_L1.eq_2]
       unfold d_spec_PlanOk_L1_B
       simp [hd]
   · rw [show decide ((x.fCartons.length:Int) > 100) = true by simp; omega,cond_true,show decide ((x.fCartons.length:Int) ≤ 100) = false by simpa using h1,Bool.false_and]
theorem lpPI {σ α β:Type} (l:List α) (L:Nat → σ → Int → Option β) (F:List α → List α → σ → Option β) (I:List α → List α → σ → Prop) (hl:l.length ≤ 1099511627776)
    (hs:∀ n s pre x xs,l = pre ++ x :: xs → ix l (pre.length:Int) = some x → decide ((pre.length:Int) < (l.length:Int)) = true → I pre (x :: xs) s → (∀ s',I (pre ++ [x]) xs s' → L n s' (w64 ((pre.length:Int) + 1)) = F (pre ++ [x]) xs s') → L (n + 1) s (pre.length:Int) = F pre (x :: xs) s)
    (he:∀ n s,decide ((l.length:Int) < (l.length:Int)) = false → I l [] s → L (n + 1) s (l.length:Int) = F l [] s):∀ n s,I [] l s → l.length < n → L n s 0 = F [] l s:=by
 have key:∀ (xs pre:List α) (n:Nat) (s:σ),l = pre ++ xs → I pre xs s → xs.length < n → L n s (pre.length:Int) = F pre xs s:=by
  intro xs
  induction xs with
  | nil =>
   intro pre n s he' hI hn
   obtain ⟨n,rfl⟩:∃ k,n = k + 1:=⟨n - 1,by omega⟩
   simp only [List.append_nil] at he'
   subst he'
   exact he n s (by simp) hI
  | cons x xs ih =>
   intro pre n s he' hI hn
   obtain ⟨n,rfl⟩:∃ k,n = k + 1:=⟨n - 1,by simp at hn; omega⟩
   have hlen:l.length = pre.length + (xs.length + 1):=by rw [he']; simp
   refine hs n s pre x xs he' ?_ (by simp; omega) hI fun s' hI'=>?_
   · rw [ix_nat,he']; simp
   · rw [w64_s _ (by omega)]
     have:=ih (pre ++ [x]) n s' (by simp [he']) hI' (by simp at hn; omega)
     simpa using this
 intro n s hI hn
 simpa using key l [] n s rfl hI hn
theorem itm_count {x:Item} (h:itmB x = true):1 ≤ x.fCount ∧ x.fCount ≤ 6:=by
 simp only [itmB,Bool.and_eq_true,inb_iff] at h
 omega
theorem cnt_nn {xs:List Item} (h:∀ x ∈ xs,itmB x = true):0 ≤ sumI (xs.map (·.fCount)):=sumI_nn _ _ fun x hx=>by have:=itm_count (h x hx); omega
theorem s_l6 {fu:Nat} {r:Request} (h:Sm fu r) (hb:bouB r = true):d_spec_l6Units fu r = some (l6M r):=by
 have hfu:=h.fu
 obtain ⟨hi,hs,hl⟩:=bou_items hb
 have e4:∀ (k:List Int → Int → Option (List Int)) (i:Int) (x:Item),ix r.fItems i = some x → ∀ (m n:Nat) (c:Int) (out:List Int),0 ≤ c → c ≤ x.fCount → (x.fCount - c).toNat = m → x.fCount ≤ 6 → m < n → out.length + m ≤ 100 →
     d_spec_l6Units_L1 fu k r i n out c = k (out ++ List.replicate m i) (w64 (i + 1)):=by
  intro k i x hx m
  induction m with
  | zero =>
   intro n c out h0 h1 h2 h3 h4 h5
   obtain ⟨n,rfl⟩:∃ j,n = j + 1:=⟨n - 1,by omega⟩
   rw [d_spec_l6Units_L1.eq_2]
   unfold d_spec_l6Units_L1_B
   rw [hx,ob_some,bif_false (by simp; omega)]
   simp
  | succ m ih =>
   intro n c out h0 h1 h2 h3 h4 h5
   obtain ⟨n,rfl⟩:∃ j,n = j + 1:=⟨n - 1,by omega⟩
   rw [d_spec_l6Units_L1.eq_2]
   unfold d_spec_l6Units_L1_B
   rw [hx,ob_some,bif_true (by simp; omega),ap1 (by simp; omega),ob_some,w64_id (by omega) (by omega),ih n (c + 1) (out ++ [i]) (by omega) (by omega) (by omega) h3 (by omega) (by simp; omega)]
   rw [List.append_assoc,List.singleton_append,← List.replicate_succ]
 unfold d_spec_l6Units l6M
 have:=lpPI r.fItems (fun n out i=>d_spec_l6Units_L2 fu r n out i) (fun pre xs out=>some (out ++ repU (pre.length:Int) xs)) (fun pre xs out=>(out.length:Int) + sumI (xs.map (·.fCount)) ≤ 12 ∧ ∀ x ∈ xs,itmB x = true) (by omega) ?_ ?_ fu [] ⟨by simpa using hs,hi⟩ (by omega)
 · simpa using this
 · intro n out pre x xs hl' hx hd hI ih
   simp only [d_spec_l6Units_L2.eq_2]
   unfold d_spec_l6Units_L2_B
   have hc:=itm_count (hI.2 x (by simp))
   have hsum:=hI.1
   have hnn:=cnt_nn (fun y hy=>hI.2 y (by simp [hy]):∀ y ∈ xs,itmB y = true)
   simp only [List.map_cons,sumI_cons] at hsum
   have e:=e4 (d_spec_l6Units_L2 fu r n) (pre.length:Int) x hx x.fCount.toNat fu 0 out (by omega) (by omega) (by omega) (by omega) (by omega) (by omega)
   rw [hd,cond_true,e,ih _ ⟨by simp; omega,fun y hy=>hI.2 y (by simp [hy])⟩]
   simp [repU]
 · intro n out hd hI
   simp only [d_spec_l6Units_L2.eq_2]
   unfold d_spec_l6Units_L2_B
   simp only [hd,cond_false]
   simp [repU]
theorem s_l6c {fu:Nat} {r:Request} (h:Sm fu r) (hc:clsM r = 0):d_spec_l6Units fu r = some (untM r):=by
 unfold untM
 rw [s_l6 h (clsM_zero hc).1,bif_true (by simp [hc])]
theorem s_unt {fu:Nat} {r:Request} (h:Sm fu r):d_spec_Units fu r = some (untM r):=by
 unfold d_spec_Units untM
 rw [s_cls h,ob_some]
 by_cases hc:clsM r = 0
 · rw [bif_false (by simp [hc]),s_l6 h (clsM_zero hc).1,ob_some,bif_true (by simp [hc])]
 · rw [bif_true (by simp [hc]),bif_false (by simp [hc])]
theorem mul6 (fu:Nat) (c:Int) (h:1 ≤ c ∧ c ≤ 6):d_bits_Mul fu (IntKind.wrap .u64 1) (IntKind.wrap .u64 c) = some (0,c):=by
 have:c = 1 ∨ c = 2 ∨ c = 3 ∨ c = 4 ∨ c = 5 ∨ c = 6:=by omega
 rcases this with rfl | rfl | rfl | rfl | rfl | rfl <;> rfl
theorem rep_1 (m:Nat) (i:Int):d_slices_Repeat_int_int_J1 (m + 10) [i] (0,1) = some (List.replicate 1 i):=by kernel_rfl
theorem rep_2 (m:Nat) (i:Int):d_slices_Repeat_int_int_J1 (m + 10) [i] (0,2) = some (List.replicate 2 i):=by kernel_rfl
theorem rep_3 (m:Nat) (i:Int):d_slices_Repeat_int_int_J1 (m + 10) [i] (0,3) = some (List.replicate 3 i):=by kernel_rfl
theorem rep_4 (m:Nat) (i:Int):d_slices_Repeat_int_int_J1 (m + 10) [i] (0,4) = some (List.replicate 4 i):=by kernel_rfl
theorem rep_5 (m:Nat) (i:Int):d_slices_Repeat_int_int_J1 (m + 10) [i] (0,5) = some (List.replicate 5 i):=by kernel_rfl
theorem rep_6 (m:Nat) (i:Int):d_slices_Repeat_int_int_J1 (m + 10) [i] (0,6) = some (List.replicate 6 i):=by kernel_rfl
theorem rep6 {fu:Nat} (hfu:10 ≤ fu) (i c:Int) (h:1 ≤ c ∧ c ≤ 6):d_slices_Repeat_int_int fu [i] c = some (List.replicate c.toNat i):=by
 unfold d_slices_Repeat_int_int d_slices_Repeat_int_int_J2
 rw [bif_false (by simp; omega)]
 rw [show (([i]:List Int).length:Int) = 1 from rfl,mul6 fu c h,ob_some,bif_false (by simp),bif_false (by simp; omega)]
 obtain ⟨m,rfl⟩:∃ m,fu = m + 10:=⟨fu - 10,by omega⟩
 have:c = 1 ∨ c = 2 ∨ c = 3 ∨ c = 4 ∨ c = 5 ∨ c = 6:=by omega
 rcases this with rfl | rfl | rfl | rfl | rfl | rfl
 · exact rep_1 m i
 · exact rep_2 m i
 · exact rep_3 m i
 · exact rep_4 m i
 · exact rep_5 m i
 · exact rep_6 m i
theorem i_unt {fu:Nat} {r:Request} (h:Sm fu r):d_impl_Units fu r = some (untM r):=by
 have hfu:=h.fu
 unfold d_impl_Units untM
 rw [i_sound h,ob_some]
 by_cases hc:clsM r = 0
 · obtain ⟨hi,hs,hl⟩:=bou_items (clsM_zero hc).1
   rw [bif_false (by simp [hc]),bif_true (by simp [hc])]
   unfold l6M
   have:=lpPI r.fItems (fun n out i=>d_impl_Units_L1 fu r n out i) (fun pre xs out=>some (out ++ repU (pre.length:Int) xs)) (fun pre xs out=>(out.length:Int) + sumI (xs.map (·.fCount)) ≤ 12 ∧ ∀ x ∈ xs,itmB x = true) (by omega) ?_ ?_ fu [] ⟨by simpa using hs,hi⟩ (by omega)
   · simpa using this
   · intro n out pre x xs hl' hx hd hI ih
     simp only [d_impl_Units_L1.eq_2]
     unfold d_impl_Units_L1_B
     have hc:=itm_count (hI.2 x (by simp))
     have hsum:=hI.1
     have hnn:=cnt_nn (fun y hy=>hI.2 y (by simp [hy]):∀ y ∈ xs,itmB y = true)
     simp only [List.map_cons,sumI_cons] at hsum
     rw [hd,cond_true,hx,ob_some,rep6 (by omega) _ _ hc,ob_some,ap1 (by simp; omega),ob_some,ih _ ⟨by simp; omega,fun y hy=>hI.2 y (by simp [hy])⟩]
     simp [repU]
   · intro n out hd hI
     simp only [d_impl_Units_L1.eq_2]
     unfold d_impl_Units_L1_B
     simp only [hd,cond_false]
     simp [repU]
 · rw [bif_true (by simp [hc]),bif_false (by simp [hc])]
theorem vol3 {w h d:Int} (hb:(inb w 0 2000 && (inb h 0 2000 && inb d 0 2000)) = true):w64 ((w64 (w * h)) * d) = w * h * d:=by
 simp only [Bool.and_eq_true,inb_iff] at hb
 obtain ⟨⟨h1,h2⟩,⟨h3,h4⟩,h5,h6⟩:=hb
 have a1:0 ≤ w * h:=Int.mul_nonneg h1 h3
 have a2:w * h ≤ 2000 * 2000:=Int.mul_le_mul h2 h4 h3 (by omega)
 have a3:0 ≤ w * h * d:=Int.mul_nonneg a1 h5
 have a4:w * h * d ≤ 2000 * 2000 * 2000:=Int.mul_le_mul a2 h6 h5 (by omega)
 rw [w64_id (n:=w * h) (by omega) (by omega),w64_id (by omega) (by omega)]
theorem s_vol (fu:Nat) (w h d:Int):d_spec_Volume fu w h d = some (volB w h d):=by
 unfold d_spec_Volume d_spec_Volume_J1 volB
 simp only [s_in,ob_some]
 cases h1:inb w 0 2000 <;> cases h2:inb h 0 2000 <;> cases h3:inb d 0 2000 <;> simp only [Bool.not_true,Bool.not_false,cond_true,cond_false,Bool.and_true,Bool.and_false]
 rw [vol3 (by simp only [h1,h2,h3]; rfl)]
theorem i_vol (fu:Nat) (w h d:Int):d_impl_Volume fu w h d = some (volB w h d):=by
 unfold d_impl_Volume d_impl_Volume_J1 volB
 simp only [i_in,ob_some]
 cases h1:inb w 0 2000 <;> cases h2:inb h 0 2000 <;> cases h3:inb d 0 2000 <;> simp only [Bool.not_true,Bool.not_false,cond_true,cond_false,Bool.and_true,Bool.and_false]
 rw [vol3 (by simp only [h1,h2,h3]; rfl)]
def itmZ (r:Request) (u:Int):Item:=(itmM r u).getD zItem
theorem w64_len (r:Request):w64 (((untM r).length:Int) - 1) = ((untM r).length:Int) - 1:=by
 have:=untM_len r
 exact w64_id (by omega) (by omega)
theorem s_item (fu:Nat) (r:Request) (u:Int):d_spec_l6Item fu r (untM r) u = some (itmZ r u,(itmM r u).isSome):=by
 unfold d_spec_l6Item itmZ
 rw [w64_len,s_in,ob_some]
 by_cases h:0 ≤ u ∧ u < (untM r).length
 · obtain ⟨i,x,h1,h2,h3⟩:=itmM_in h
   rw [bif_false (by simp; omega),h1,ob_some,h2,ob_some,h3]
   rfl
 · rw [bif_true (by simp [inb]; omega),itmM_out h]
   rfl
theorem vol_zero:volI zItem = 0:=by simp [volI,volB,zItem]
theorem i_items {fu:Nat} {r:Request} (h:Sm fu r) (us:List Int) (hl:us.length ≤ 1048576) (hf:us.length < fu):d_impl_itemsOf fu r us = some (itsM r us):=by
 unfold d_impl_itemsOf
 rw [i_unt h,ob_some]
 have key:=lpI us (fun n s i=>d_impl_itemsOf_L1 fu r us (untM r) n s i) (fun l out=>some (out ++ itsM r l)) (fun l out=>out.length + l.length ≤ 1048576) (by omega) ?_ ?_ fu [] (by simpa using hl) hf
 · simpa using key
 · intro n s i x xs hx hd hI ih
   simp only [d_impl_itemsOf_L1.eq_2]
   unfold d_impl_itemsOf_L1_B d_impl_itemsOf_J1
   simp only [hd,cond_true,hx,ob_some,w64_len,i_in]
   simp only [List.length_cons] at hI
   by_cases hu:0 ≤ x ∧ x < (untM r).length
   · obtain ⟨i',y,h1,h2,h3⟩:=itmM_in hu
     rw [bif_true (by simp; omega),h1,ob_some,h2,ob_some,ap1 (by simp; omega),ob_some,ih _ (by simp; omega)]
     simp [itsM,List.filterMap_cons,h3]
   · rw [bif_false (by simp [inb]; omega),ih _ (by omega)]
     simp [itsM,List.filterMap_cons,itmM_out hu]
 · intro n s i hd _
   simp only [d_impl_itemsOf_L1.eq_2]
   unfold d_impl_itemsOf_L1_B
   simp only [hd,cond_false]
   simp [itsM]
theorem i_volOf {fu:Nat} {r:Request} (h:Sm fu r) (us:List Int) (hl:us.length ≤ 1048576) (hf:us.length < fu):d_impl_VolumeOf fu r us = some (volM r us):=by
 unfold d_impl_VolumeOf
 rw [i_items h us hl hf,ob_some]
 have hlen:=itsM_len r us
 have key:=lpI (itsM r us) (fun n s i=>d_impl_VolumeOf_L1 fu (itsM r us) n s i) (fun l n=>some (n + sumI (l.map volI))) (fun l n=>0 ≤ n ∧ n + 8000000000 * l.length ≤ 8000000000 * 1048576) (by omega) ?_ ?_ fu 0 ⟨by omega,by omega⟩ (by omega)
 · simpa [volM] using key
 · intro n s i x xs hx hd hI ih
   simp only [d_impl_VolumeOf_L1.eq_2]
   unfold d_impl_VolumeOf_L1_B
   simp only [hd,cond_true,hx,ob_some,i_vol]
   have hv:=volB_nn x.fW x.fH x.fD
   have h2:=hI.2
   simp only [List.length_cons] at h2
   rw [w64_id (by omega) (by omega),ih _ ⟨by omega,by omega⟩]
   simp only [List.map_cons,sumI_cons,volI]
   congr 1
   omega
 · intro n s i hd _
   simp only [d_impl_VolumeOf_L1.eq_2]
   unfold d_impl_VolumeOf_L1_B
   simp only [hd,cond_false]
   simp
theorem itmZ_gram (r:Request) (u:Int):0 ≤ (itmZ r u).fGram ∧ (itmZ r u).fGram ≤ 100000:=by
 unfold itmZ
 cases hm:itmM r u with
 | none=>simp [zItem]
 | some x=>exact grm_mem (r:=r) (us:=[u]) (by simp [itsM,List.filterMap_cons,hm])
theorem s_grm {fu:Nat} {r:Request} (h:Sm fu r) (us:List Int) (hl:us.length ≤ 1048576) (hf:us.length < fu):d_spec_GramOf fu r us = some (grmM r us):=by
 unfold d_spec_GramOf
 rw [s_unt h,ob_some]
 have key:=lpI us (fun n s i=>d_spec_GramOf_L1 fu r us (untM r) n s i) (fun l n=>some (n + grmM r l)) (fun l n=>0 ≤ n ∧ n + 100000 * l.length ≤ 100000 * 1048576) (by omega) ?_ ?_ fu 0 ⟨by omega,by omega⟩ hf
 · simpa using key
 · intro n s i x xs hx hd hI ih
   simp only [d_spec_GramOf_L1.eq_2]
   unfold d_spec_GramOf_L1_B d_spec_GramOf_J2 d_spec_GramOf_J1
   simp only [hd,cond_true,hx,ob_some,s_item]
   have hv:=itmZ_gram r x
   have h2:=hI.2
   simp only [List.length_cons] at h2
   rw [w64_id (by omega) (by omega),ih _ ⟨by omega,by omega⟩]
   congr 1
   have e:grmM r (x :: xs) = (itmZ r x).fGram + grmM r xs:=by
    unfold grmM itsM itmZ
    cases hm:itmM r x with
    | none=>simp [List.filterMap_cons,hm,zItem]
    | some y=>simp [List.filterMap_cons,hm]
   rw [e]
   omega
 · intro n s i hd _
   simp only [d_spec_GramOf_L1.eq_2]
   unfold d_spec_GramOf_L1_B
   simp only [hd,cond_false]
   simp [grmM,itsM]
theorem i_grm {fu:Nat} {r:Request} (h:Sm fu r) (us:List Int) (hl:us.length ≤ 1048576) (hf:us.length < fu):d_impl_GramOf fu r us = some (grmM r us):=by
 unfold d_impl_GramOf
 rw [i_items h us hl hf,ob_some]
 have hlen:=itsM_len r us
 have key:=lpI (itsM r us) (fun n s i=>d_impl_GramOf_L1 fu (itsM r us) n s i) (fun l n=>some (n + sumI (l.map (·.fGram)))) (fun l n=>0 ≤ n ∧ n + 100000 * l.length ≤ 100000 * 1048576 ∧ ∀ x ∈ l,0 ≤ x.fGram ∧ x.fGram ≤ 100000) (by omega) ?_ ?_ fu 0 ⟨by omega,by omega,fun x hx=>grm_mem hx⟩ (by omega)
 · simpa [grmM] using key
 · intro n s i x xs hx hd hI ih
   simp only [d_impl_GramOf_L1.eq_2]
   unfold d_impl_GramOf_L1_B
   simp only [hd,cond_true,hx,ob_some]
   have hv:=hI.2.2 x (by simp)
   have h2:=hI.2.1
   simp only [List.length_cons] at h2
   rw [w64_id (by omega) (by omega),ih _ ⟨by omega,by omega,fun y hy=>hI.2.2 y (by simp [hy])⟩]
   simp only [List.map_cons,sumI_cons]
   congr 1
   omega
 · intro n s i hd _
   simp only [d_impl_GramOf_L1.eq_2]
   unfold d_impl_GramOf_L1_B
   simp only [hd,cond_false]
   simp
end Go.Proofs.YthkaklkinepfkaaGreatDoor
