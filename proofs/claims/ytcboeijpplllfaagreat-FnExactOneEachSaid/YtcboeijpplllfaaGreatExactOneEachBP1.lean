/- ExactOneEachBP: plain lemmas, part 1. -/
import Derived.Test.YtcboeijpplllfaaGreatExactOneEachBD
import Derived.Test.YtcboeijpplllfaaGreatM3
set_option linter.unusedSimpArgs false
set_option linter.unusedVariables false
namespace Go.Proofs.YtcboeijpplllfaaGreat
open Go
open Enc (rd ow)
open Arg (argv)
open Ret (retv)
open Wf (wf)
structure Sm (fu:Nat) (r:Request):Prop where
 fu:2097153 ≤ fu
 pairs:r.fPairs.length ≤ 1048576
 types:r.fTypes.length ≤ 1048576
 items:r.fItems.length ≤ 1048576
theorem s_in (fu:Nat) (n lo hi:Int):d_spec_l1In fu n lo hi = some (inb n lo hi):=by
 unfold d_spec_l1In inb
 by_cases h:lo ≤ n
 · simp [h]
 · simp [h]
theorem i_in (fu:Nat) (n lo hi:Int):d_impl_in fu n lo hi = some (inb n lo hi):=s_in fu n lo hi
theorem s_side (fu:Nat) (n:Int):d_spec_l2Side fu n = some (inb n 1 2000):=by unfold d_spec_l2Side; rw [s_in]; rfl
theorem s_id (fu:Nat) (n:Int):d_spec_l2Id fu n = some (inb n 0 999):=by unfold d_spec_l2Id; rw [s_in]; rfl
theorem i_side (fu:Nat) (n:Int):d_impl_isSide fu n = some (inb n 1 2000):=by unfold d_impl_isSide; rw [i_in]; rfl
theorem s_pal (fu:Nat) (p:Pallet):d_spec_PalletOk fu p = some (palB p):=by
 unfold d_spec_PalletOk palB
 simp only [s_side,s_in,ob_some]
 cases inb p.fW 1 2000 <;> cases inb p.fD 1 2000 <;> cases inb p.fH 1 2000 <;> rfl
theorem i_pal (fu:Nat) (p:Pallet):d_impl_PalletOk fu p = some (palB p):=by
 unfold d_impl_PalletOk palB
 simp only [i_side,i_in,ob_some]
 cases inb p.fW 1 2000 <;> cases inb p.fD 1 2000 <;> cases inb p.fH 1 2000 <;> rfl
theorem s_typ (fu:Nat) (t:Typ):d_spec_TypeOk fu t = some (typB t):=by
 unfold d_spec_TypeOk typB
 simp only [s_side,s_in,s_id,ob_some]
 cases inb t.fId 0 999 <;> cases inb t.fW 1 2000 <;> cases inb t.fH 1 2000 <;> cases inb t.fD 1 2000 <;> cases inb t.fTare 0 100000 <;> cases inb t.fGram 1 100000 <;> rfl
theorem i_typ (fu:Nat) (t:Typ):d_impl_TypeOk fu t = some (typB t):=by
 unfold d_impl_TypeOk typB
 simp only [i_side,i_in,ob_some]
 cases inb t.fId 0 999 <;> cases inb t.fW 1 2000 <;> cases inb t.fH 1 2000 <;> cases inb t.fD 1 2000 <;> cases inb t.fTare 0 100000 <;> cases inb t.fGram 1 100000 <;> rfl
theorem s_itm (fu:Nat) (t:Item):d_spec_ItemOk fu t = some (itmB t):=by
 unfold d_spec_ItemOk itmB
 simp only [s_side,s_in,s_id,ob_some]
 cases inb t.fId 0 999 <;> cases inb t.fW 1 2000 <;> cases inb t.fH 1 2000 <;> cases inb t.fD 1 2000 <;> cases inb t.fGram 1 100000 <;> cases inb t.fClass 0 3 <;> rfl
theorem i_itm (fu:Nat) (t:Item):d_impl_ItemOk fu t = some (itmB t):=by
 unfold d_impl_ItemOk itmB
 simp only [i_side,i_in,ob_some]
 cases inb t.fId 0 999 <;> cases inb t.fW 1 2000 <;> cases inb t.fH 1 2000 <;> cases inb t.fD 1 2000 <;> cases inb t.fGram 1 100000 <;> cases inb t.fClass 0 3 <;> rfl
def cntF:List Item → Int → Option Bool
 | [],n=>some (decide (n ≤ 12))
 | x :: xs,n=>bif !itmB x then some false else cntF xs (w64 (n + x.fCount))
theorem cntF_eq:∀ (l:List Item) (n:Int),0 ≤ n → n + 6 * l.length ≤ 4611686018427387904 → cntF l n = some (l.all itmB && decide (n + sumI (l.map (·.fCount)) ≤ 12))
 | [],n,_,_=>by simp [cntF]
 | x :: xs,n,h0,h1=>by
  unfold cntF
  cases hx:itmB x
  · simp [hx]
  · have hc:=hx
    simp only [itmB,Bool.and_eq_true,inb_iff] at hc
    have hc:=hc.2.2.2.2.2.2
    simp only [List.length_cons] at h1
    rw [w64_id (by omega) (by omega)]
    simp only [Bool.not_true,cond_false]
    rw [cntF_eq xs (n + x.fCount) (by omega) (by omega)]
    simp only [List.all_cons,hx,Bool.true_and,List.map_cons,sumI_cons,Int.add_assoc]
theorem s_bou {fu:Nat} {r:Request} (h:Sm fu r):d_spec_BoundsOk fu r = some (bouB r):=by
 have hfu:=h.fu
 have h7:r.fItems.length ≤ 8 → d_spec_BoundsOk_L1 fu r fu 0 0 = some (r.fItems.all itmB && decide (sumI (r.fItems.map (·.fCount)) ≤ 12)):=by
  intro h8
  rw [lp r.fItems (fun n s i=>d_spec_BoundsOk_L1 fu r n s i) cntF (by have:=h.items; omega) ?_ ?_ fu 0 (by have:=h.items; omega),cntF_eq _ _ (by omega) (by have:=h.items; omega)]
  · simp
  · intro n s i x xs hx hd ih
    simp only [d_spec_BoundsOk_L1.eq_2]
    unfold d_spec_BoundsOk_L1_B
    simp only [hd,cond_true,hx,ob_some,s_itm,ih]
    rfl
  · intro n s i hd
    simp only [d_spec_BoundsOk_L1.eq_2]
    unfold d_spec_BoundsOk_L1_B
    simp only [hd,cond_false]
    rfl
 have h6:∀ b:Bool,(d_spec_BoundsOk_L1 fu r fu 0 0 = some b) → d_spec_BoundsOk_L2 fu r fu 0 = some (r.fTypes.all typB && b):=by
  intro b hb
  refine lp r.fTypes (fun n (_:Unit) i=>d_spec_BoundsOk_L2 fu r n i) (fun l _=>some (l.all typB && b)) (by have:=h.types; omega) ?_ ?_ fu () (by have:=h.types; omega)
  · intro n s i x xs hx hd ih
    simp only [d_spec_BoundsOk_L2.eq_2]
    unfold d_spec_BoundsOk_L2_B
    simp only [hd,cond_true,hx,ob_some,s_typ,ih (),List.all_cons]
    cases typB x <;> rfl
  · intro n s i hd
    simp only [d_spec_BoundsOk_L2.eq_2]
    unfold d_spec_BoundsOk_L2_B
    simp only [hd,cond_false,hb]
    rfl
 have h4:∀ b:Bool,(d_spec_BoundsOk_L2 fu r fu 0 = some b) → d_spec_BoundsOk_L3 fu r fu 0 = some (r.fPairs.all prB && b):=by
  intro b hb
  refine lp r.fPairs (fun n (_:Unit) i=>d_spec_BoundsOk_L3 fu r n i) (fun l _=>some (l.all prB && b)) (by have:=h.pairs; omega) ?_ ?_ fu () (by have:=h.pairs; omega)
  · intro n s i x xs hx hd ih
    simp only [d_spec_BoundsOk_L3.eq_2]
    unfold d_spec_BoundsOk_L3_B d_spec_BoundsOk_J1
    simp only [hd,cond_true,hx,ob_some,s_in,ih ()]
    simp only [List.all_cons,prB]
    cases inb x.fA 0 3 <;> cases inb x.fB 0 3 <;> rfl
  · intro n s i hd
    simp only [d_spec_BoundsOk_L3.eq_2]
    unfold d_spec_BoundsOk_L3_B
    simp only [hd,cond_false,hb]
    rfl
 unfold d_spec_BoundsOk d_spec_BoundsOk_J2 bouB
 simp only [s_in,s_id,s_pal,ob_some]
 by_cases h8:r.fItems.length ≤ 8
 · rw [h4 _ (h6 _ (h7 h8))]
   have e8:decide ((r.fItems.length:Int) > 8) = false:=by simp; omega
   rw [e8]
   by_cases hp:r.fPairs.length ≤ 16
   · have e16:decide ((r.fPairs.length:Int) > 16) = false:=by simp; omega
     rw [e16]
     simp only [hp,h8,decide_true,cond_false,Bool.and_true]
     cases inb r.fWay 0 1 <;> cases palB r.fPallet <;> cases inb r.fClasses 1 4 <;> cases inb (r.fTypes.length:Int) 1 5 <;> cases inb r.fMaster 0 999 <;> simp <;> cases r.fPairs.all prB <;> cases r.fTypes.all typB <;> rfl
   · have e16:decide ((r.fPairs.length:Int) > 16) = true:=by simp; omega
     rw [e16]
     simp only [hp,decide_false,cond_true]
     cases inb r.fWay 0 1 <;> cases palB r.fPallet <;> cases inb r.fClasses 1 4 <;> simp
 · have e8:decide ((r.fItems.length:Int) > 8) = true:=by simp; omega
   rw [e8]
   simp only [h8,decide_false,cond_true,Bool.and_false,Bool.false_and]
   cases inb r.fWay 0 1 <;> cases palB r.fPallet <;> cases inb r.fClasses 1 4 <;> simp
def fndI {α:Type} (g:α → Bool):List α → Int → Int
 | [],_=>-1
 | x :: xs,i=>bif g x then i else fndI g xs (i + 1)
theorem fndI_any {α:Type} (g:α → Bool):∀ (l:List α) (i:Int),0 ≤ i → decide (fndI g l i ≥ 0) = l.any g
 | [],i,_=>rfl
 | x :: xs,i,h=>by
  simp only [fndI,List.any_cons]
  by_cases hx:g x = true
  · simpa [hx] using h
  · simpa [hx] using fndI_any g xs (i + 1) (by omega)
theorem fndI_find {α:Type} (g:α → Bool):∀ (l pre:List α) ,(fndI g l pre.length < 0 ∧ l.find? g = none) ∨ (0 ≤ fndI g l pre.length ∧ ∃ x,l.find? g = some x ∧ ix (pre ++ l) (fndI g l pre.length) = some x)
 | [],pre=>.inl ⟨by simp [fndI],rfl⟩
 | x :: xs,pre=>by
  simp only [fndI]
  cases hx:g x
  · have:=fndI_find g xs (pre ++ [x])
    simp only [List.length_append,List.length_singleton,List.append_assoc,List.singleton_append] at this
    simpa [List.find?_cons,hx] using this
  · refine .inr ⟨by simp,x,by simp [hx],?_⟩
    rw [cond_true,ix_nat]
    simp
theorem idx_loop {α:Type} (l:List α) (L:Nat → Int → Option Int) (g:α → Bool) (hl:l.length ≤ 1099511627776)
    (hs:∀ n (i:Int) x,ix l i = some x → decide (i < (l.length:Int)) = true → L (n + 1) i = bif g x then some i else L n (w64 (i + 1)))
    (he:∀ n (i:Int),decide (i < (l.length:Int)) = false → L (n + 1) i = some (-1)) (n:Nat) (hn:l.length < n):L n 0 = some (fndI g l 0):=by
 have key:∀ (m i n:Nat),l.length - i = m → i ≤ l.length → m < n → L n (i:Int) = some (fndI g (l.drop i) i):=by
  intro m
  induction m with
  | zero =>
   intro i n hm hi hn
   obtain ⟨n,rfl⟩:∃ k,n = k + 1:=⟨n - 1,by omega⟩
   rw [List.drop_of_length_le (by omega),he n i (by simp; omega)]
   rfl
  | succ m ih =>
   intro i n hm hi hn
   obtain ⟨n,rfl⟩:∃ k,n = k + 1:=⟨n - 1,by omega⟩
   have hlt:i < l.length:=by omega
   rw [hs n i _ (ix_i hlt) (by simpa using hlt),List.drop_eq_getElem_cons hlt]
   simp only [fndI]
   cases g l[i]
   · rw [cond_false,cond_false,w64_s i (by omega)]
     have:=ih (i + 1) n (by omega) (by omega) (by omega)
     simpa using this
   · rfl
 simpa using key l.length 0 n (by omega) (by omega) hn
theorem i_idxTyp {fu:Nat} {l:List Typ} (f:Typ → Option Bool) (g:Typ → Bool) (hg:∀ x ∈ l,f x = some (g x)) (hl:l.length ≤ 1048576) (hf:l.length < fu):d_slices_IndexFunc_impl_Type_impl_Type fu l f = some (fndI g l 0):=by
 unfold d_slices_IndexFunc_impl_Type_impl_Type
 refine idx_loop l (fun n i=>d_slices_IndexFunc_impl_Type_impl_Type_L1 fu l f n i) g (by omega) ?_ ?_ fu hf
 · intro n i x hx hd
   simp only [d_slices_IndexFunc_impl_Type_impl_Type_L1.eq_2]
   unfold d_slices_IndexFunc_impl_Type_impl_Type_L1_B
   simp only [hd,cond_true,hx,ob_some,hg x (ix_mem hx)]
 · intro n i hd
   simp only [d_slices_IndexFunc_impl_Type_impl_Type_L1.eq_2]
   unfold d_slices_IndexFunc_impl_Type_impl_Type_L1_B
   simp only [hd,cond_false]
theorem i_anyTyp {fu:Nat} {l:List Typ} (f:Typ → Option Bool) (g:Typ → Bool) (hg:∀ x ∈ l,f x = some (g x)) (hl:l.length ≤ 1048576) (hf:l.length < fu):d_slices_ContainsFunc_impl_Type_impl_Type fu l f = some (l.any g):=by
 unfold d_slices_ContainsFunc_impl_Type_impl_Type
 rw [i_idxTyp f g hg hl hf,ob_some,fndI_any g l 0 (by omega)]
theorem i_idxPair {fu:Nat} {l:List Pair} (f:Pair → Option Bool) (g:Pair → Bool) (hg:∀ x ∈ l,f x = some (g x)) (hl:l.length ≤ 1048576) (hf:l.length < fu):d_slices_IndexFunc_impl_Pair_impl_Pair fu l f = some (fndI g l 0):=by
 unfold d_slices_IndexFunc_impl_Pair_impl_Pair
 refine idx_loop l (fun n i=>d_slices_IndexFunc_impl_Pair_impl_Pair_L1 fu l f n i) g (by omega) ?_ ?_ fu hf
 · intro n i x hx hd
   simp only [d_slices_IndexFunc_impl_Pair_impl_Pair_L1.eq_2]
   unfold d_slices_IndexFunc_impl_Pair_impl_Pair_L1_B
   simp only [hd,cond_true,hx,ob_some,hg x (ix_mem hx)]
 · intro n i hd
   simp only [d_slices_IndexFunc_impl_Pair_impl_Pair_L1.eq_2]
   unfold d_slices_IndexFunc_impl_Pair_impl_Pair_L1_B
   simp only [hd,cond_false]
theorem i_anyPair {fu:Nat} {l:List Pair} (f:Pair → Option Bool) (g:Pair → Bool) (hg:∀ x ∈ l,f x = some (g x)) (hl:l.length ≤ 1048576) (hf:l.length < fu):d_slices_ContainsFunc_impl_Pair_impl_Pair fu l f = some (l.any g):=by
 unfold d_slices_ContainsFunc_impl_Pair_impl_Pair
 rw [i_idxPair f g hg hl hf,ob_some,fndI_any g l 0 (by omega)]
theorem i_idxItem {fu:Nat} {l:List Item} (f:Item → Option Bool) (g:Item → Bool) (hg:∀ x ∈ l,f x = some (g x)) (hl:l.length ≤ 1048576) (hf:l.length < fu):d_slices_IndexFunc_impl_Item_impl_Item fu l f = some (fndI g l 0):=by
 unfold d_slices_IndexFunc_impl_Item_impl_Item
 refine idx_loop l (fun n i=>d_slices_IndexFunc_impl_Item_impl_Item_L1 fu l f n i) g (by omega) ?_ ?_ fu hf
 · intro n i x hx hd
   simp only [d_slices_IndexFunc_impl_Item_impl_Item_L1.eq_2]
   unfold d_slices_IndexFunc_impl_Item_impl_Item_L1_B
   simp only [hd,cond_true,hx,ob_some,hg x (ix_mem hx)]
 · intro n i hd
   simp only [d_slices_IndexFunc_impl_Item_impl_Item_L1.eq_2]
   unfold d_slices_IndexFunc_impl_Item_impl_Item_L1_B
   simp only [hd,cond_false]
theorem i_anyItem {fu:Nat} {l:List Item} (f:Item → Option Bool) (g:Item → Bool) (hg:∀ x ∈ l,f x = some (g x)) (hl:l.length ≤ 1048576) (hf:l.length < fu):d_slices_ContainsFunc_impl_Item_impl_Item fu l f = some (l.any g):=by
 unfold d_slices_ContainsFunc_impl_Item_impl_Item
 rw [i_idxItem f g hg hl hf,ob_some,fndI_any g l 0 (by omega)]
theorem i_bou {fu:Nat} {r:Request} (h:Sm fu r):d_impl_BoundsOk fu r = some (bouB r):=by
 have hfu:=h.fu
 have h1:=h.items
 have h2:=h.types
 have h3:=h.pairs
 have e3:d_impl_BoundsOk_L1 fu r fu 0 0 = some (r.fItems.all itmB && decide (sumI (r.fItems.map (·.fCount)) ≤ 12)):=by
  rw [lp r.fItems (fun n s i=>d_impl_BoundsOk_L1 fu r n s i) cntF (by omega) ?_ ?_ fu 0 (by omega),cntF_eq _ _ (by omega) (by omega)]
  · simp
  · intro n s i x xs hx hd ih
    simp only [d_impl_BoundsOk_L1.eq_2]
    unfold d_impl_BoundsOk_L1_B
    simp only [hd,cond_true,hx,ob_some,i_itm,ih]
    rfl
  · intro n s i hd
    simp only [d_impl_BoundsOk_L1.eq_2]
    unfold d_impl_BoundsOk_L1_B
    simp only [hd,cond_false]
    rfl
 have ep:d_slices_ContainsFunc_impl_Pair_impl_Pair fu r.fPairs (fun y34=>d_impl_BoundsOk_1 fu y34) = some (!(r.fPairs.all prB)):=by
  rw [i_anyPair _ (fun p=>!prB p) (fun p _=>by
   unfold d_impl_BoundsOk_1 prB
   simp only [i_in,ob_some]
   cases inb p.fA 0 3 <;> rfl) h3 (by omega)]
  simp [List.not_all_eq_any_not]
 have et:d_slices_ContainsFunc_impl_Type_impl_Type fu r.fTypes (fun y34=>d_impl_BoundsOk_2 fu y34) = some (!(r.fTypes.all typB)):=by
  rw [i_anyTyp _ (fun p=>!typB p) (fun p _=>by
   unfold d_impl_BoundsOk_2
   rw [i_typ]; rfl) h2 (by omega)]
  simp [List.not_all_eq_any_not]
 unfold d_impl_BoundsOk d_impl_BoundsOk_J2 d_impl_BoundsOk_J1 bouB
 rw [e3,ep,et]
 simp only [i_in,i_pal,ob_some]
 have e8:decide ((r.fItems.length:Int) > 8) = !decide (r.fItems.length ≤ 8):=by
  by_cases hh:r.fItems.length ≤ 8
  · have:¬ ((r.fItems.length:Int) > 8):=by omega
    simp [hh,this]
  · have:(r.fItems.length:Int) > 8:=by omega
    simp [hh,this]
 have e16:decide ((r.fPairs.length:Int) > 16) = !decide (r.fPairs.length ≤ 16):=by
  by_cases hh:r.fPairs.length ≤ 16
  · have:¬ ((r.fPairs.length:Int) > 16):=by omega
    simp [hh,this]
  · have:(r.fPairs.length:Int) > 16:=by omega
    simp [hh,this]
 rw [e8,e16]
 cases inb r.fWay 0 1 <;> cases palB r.fPallet <;> cases inb r.fClasses 1 4 <;> cases decide (r.fPairs.length ≤ 16) <;> cases r.fPairs.all prB <;> cases inb (r.fTypes.length:Int) 1 5 <;> cases r.fTypes.all typB <;> cases inb r.fMaster 0 999 <;> cases decide (r.fItems.length ≤ 8) <;> rfl
theorem s_places {fu:Nat} (n:Nat) (hn:n ≤ 1048576) (hf:n < fu):d_spec_l1Places fu (n:Int) = some (ints 0 n):=by
 unfold d_spec_l1Places
 have key:∀ (m i k:Nat),n - i = m → i ≤ n → m < k → d_spec_l1Places_L1 fu (n:Int) k (ints 0 i) (i:Int) = some (ints 0 n):=by
  intro m
  induction m with
  | zero =>
   intro i k hm hi hk
   obtain ⟨k,rfl⟩:∃ j,k = j + 1:=⟨k - 1,by omega⟩
   have:i = n:=by omega
   subst this
   rw [d_spec_l1Places_L1.eq_2]
   unfold d_spec_l1Places_L1_B
   simp
  | succ m ih =>
   intro i k hm hi hk
   obtain ⟨k,rfl⟩:∃ j,k = j + 1:=⟨k - 1,by omega⟩
   rw [d_spec_l1Places_L1.eq_2]
   unfold d_spec_l1Places_L1_B
   rw [bif_true (by simp; omega),ap1 (by rw [ints_len]; simp; omega),ob_some,w64_s i (by omega)]
   have e:=ints_snoc 0 i
   rw [Int.zero_add] at e
   rw [← e]
   exact ih (i + 1) k (by omega) (by omega) (by omega)
 exact key n 0 fu (by omega) (by omega) hf
def dk (keys:List Int) (down:Bool) (p:Int):Int:=bif down then - kf keys p else kf keys p
theorem kf_ix {keys:List Int} {p:Int} (h:0 ≤ p ∧ p < keys.length):ix keys p = some (kf keys p):=by
 have h1:p.toNat < keys.length:=by omega
 unfold kf ix
 rw [if_pos h.1,List.getElem?_eq_getElem h1]
 rfl
theorem s_mrg {fu:Nat} {keys a b:List Int} (down:Bool) (ha:∀ p ∈ a,0 ≤ p ∧ p < keys.length) (hb:∀ p ∈ b,0 ≤ p ∧ p < keys.length) (hla:a.length ≤ 1048576) (hlb:b.length ≤ 1048576) :
    ∀ (m:Nat) (n:Nat) (out:List Int) (i j:Nat),i ≤ a.length → j ≤ b.length → (a.length - i) + (b.length - j) = m → m < n → out.length + m ≤ 2097152 →
     d_spec_l1Merge_L1 fu keys down a b n out i j = some (out ++ mrg (dk keys down) (a.drop i) (b.drop j)):=by
 intro m
 induction m with
 | zero =>
  intro n out i j hi hj hm hn ho
  obtain ⟨n,rfl⟩:∃ k,n = k + 1:=⟨n - 1,by omega⟩
  rw [d_spec_l1Merge_L1.eq_2]
  unfold d_spec_l1Merge_L1_B
  rw [bif_false (by simp; omega),bif_false (by simp; omega),List.drop_of_length_le (show a.length ≤ i by omega),List.drop_of_length_le (show b.length ≤ j by omega)]
  simp [mrg]
 | succ m ih =>
  intro n out i j hi hj hm hn ho
  obtain ⟨n,rfl⟩:∃ k,n = k + 1:=⟨n - 1,by omega⟩
  have hL:d_spec_l1Merge_L1 fu keys down a b (n + 1) out i j = d_spec_l1Merge_J1 fu (d_spec_l1Merge_L1 fu keys down a b n) keys down a b out i j:=by
   rw [d_spec_l1Merge_L1.eq_2]
   unfold d_spec_l1Merge_L1_B
   by_cases h:i < a.length
   · rw [bif_true (by simpa using h)]
   · rw [bif_false (by simpa using h),bif_true (by simp; omega)]
  have tA:∀ (h:i < a.length),(apnd 8 out [a[i]]) = some (out ++ [a[i]]):=fun h=>ap1 (by simp; omega)
  have tB:∀ (h:j < b.length),(apnd 8 out [b[j]]) = some (out ++ [b[j]]):=fun h=>ap1 (by simp; omega)
  have nA:∀ (h:i < a.length),d_spec_l1Merge_L1 fu keys down a b n (out ++ [a[i]]) (w64 ((i:Int) + 1)) j = some (out ++ a[i] :: mrg (dk keys down) (a.drop (i + 1)) (b.drop j)):=fun h=>by
   rw [w64_s i (by omega),ih n (out ++ [a[i]]) (i + 1) j (by omega) hj (by omega) (by omega) (by simp; omega)]
   simp
  have nB:∀ (h:j < b.length),d_spec_l1Merge_L1 fu keys down a b n (out ++ [b[j]]) i (w64 ((j:Int) + 1)) = some (out ++ b[j] :: mrg (dk keys down) (a.drop i) (b.drop (j + 1))):=fun h=>by
   rw [w64_s j (by omega),ih n (out ++ [b[j]]) i (j + 1) hi (by omega) (by omega) (by omega) (by simp; omega)]
   simp
  rw [hL]
  unfold d_spec_l1Merge_J1
  by_cases hjb:j = b.length
  · have h:i < a.length:=by omega
    rw [bif_true (by simp [hjb]),ix_i h,ob_some,tA h,ob_some,nA h,List.drop_of_length_le (show b.length ≤ j by omega),mrg_nil,mrg_nil,← List.drop_eq_getElem_cons h]
  · have hj':j < b.length:=by omega
    rw [bif_false (by simp; omega)]
    by_cases hia:i = a.length
    · rw [bif_true (by simp [hia]),ix_i hj',ob_some,tB hj',ob_some,nB hj',List.drop_of_length_le (show a.length ≤ i by omega)]
      have e1:∀ l,mrg (dk keys down) [] l = l:=fun l=>by rw [mrg]
      rw [e1,e1,← List.drop_eq_getElem_cons hj']
    · have hi':i < a.length:=by omega
      rw [bif_false (by simp; omega)]
      simp only [ix_i hi',ix_i hj',ob_some,kf_ix (ha _ (List.getElem_mem hi')),kf_ix (hb _ (List.getElem_mem hj')),tA hi',tB hj',nA hi',nB hj']
      rw [List.drop_eq_getElem_cons hi',List.drop_eq_getElem_cons hj',mrg_cons,← List.drop_eq_getElem_cons hi',← List.drop_eq_getElem_cons hj']
      have hx:dk keys down a[i] = bif down then - kf keys a[i] else kf keys a[i]:=rfl
      have hy:dk keys down b[j] = bif down then - kf keys b[j] else kf keys b[j]:=rfl
      rw [hx,hy]
      generalize kf keys a[i] = x
      generalize kf keys b[j] = y
      cases down
      · by_cases hc:y < x
        · rw [if_pos (by simpa using hc)]; simp [hc]
        · rw [if_neg (by simpa using hc)]
          have:decide (y > x) = true ∨ decide (y > x) = false:=by cases decide (y > x) <;> simp
          rcases this with h | h <;> simp [hc,h]
      · by_cases hc:x < y
        · have h:¬ y < x:=by omega
          rw [if_pos (by simpa using hc)]; simp [hc,h]
        · rw [if_neg (by simpa using hc)]
          have h:decide (y < x) = true ∨ decide (y < x) = false:=by cases decide (y < x) <;> simp
          rcases h with h | h <;> simp [hc,h]
theorem s_msrR {fu:Nat} {keys:List Int} (down:Bool) (hfu:2097153 ≤ fu):∀ (n:Nat) (l:List Int),l.length ≤ n → l.length ≤ 1048576 → (∀ p ∈ l,0 ≤ p ∧ p < keys.length) →
    d_spec_l1Merge_R fu (n + 1) keys l down = some (msr (dk keys down) (n + 1) l)
 | n,l,hn,hl,hm=>by
  rw [d_spec_l1Merge_R.eq_2]
  unfold d_spec_l1Merge_RB msr
  by_cases h2:l.length < 2
  · rw [bif_true (by simp; omega),if_pos h2,ap1 (by simp; omega)]; rfl
  · rw [bif_false (by simp; omega),if_neg h2]
    have hd:Int.tdiv (l.length:Int) 2 = ((l.length / 2:Nat):Int):=by simp [Int.tdiv]
    obtain ⟨n,rfl⟩:∃ k,n = k + 1:=⟨n - 1,by omega⟩
    rw [hd,w64_id (by omega) (by omega),sls_some (by omega),sls_some (by omega),ob_some]
    simp only [Int.toNat_natCast,Int.toNat_zero,List.drop_zero,Nat.sub_zero,ob_some]
    rw [s_msrR down hfu n (l.take (l.length / 2)) (by rw [List.length_take]; omega) (by rw [List.length_take]; omega) (fun p hp=>hm p (List.mem_of_mem_take hp)),ob_some]
    have e:(l.drop (l.length / 2)).take (l.length - l.length / 2) = l.drop (l.length / 2):=List.take_of_length_le (by rw [List.length_drop]; omega)
    rw [e,s_msrR down hfu n (l.drop (l.length / 2)) (by rw [List.length_drop]; omega) (by rw [List.length_drop]; omega) (fun p hp=>hm p (List.mem_of_mem_drop hp)),ob_some]
    have hp1:=(msr_perm (dk keys down) (n + 1) (l.take (l.length / 2)))
    have hp2:=(msr_perm (dk keys down) (n + 1) (l.drop (l.length / 2)))
    have l1:=hp1.length_eq
    have l2:=hp2.length_eq
    rw [List.length_take] at l1
    rw [List.length_drop] at l2
    rw [show (0:Int) = ((0:Nat):Int) from rfl]
    rw [s_mrg down (fun p hp=>hm p (List.mem_of_mem_take (hp1.mem_iff.1 hp))) (fun p hp=>hm p (List.mem_of_mem_drop (hp2.mem_iff.1 hp))) (by omega) (by omega) _ fu [] 0 0 (by omega) (by omega) rfl (by omega) (by simp; omega)]
    simp
theorem s_up {fu:Nat} {keys:List Int} (hfu:2097153 ≤ fu) (hl:keys.length ≤ 1048576):d_spec_SortUp fu keys = some (srt (kf keys) keys.length):=by
 unfold d_spec_SortUp d_spec_l1Merge
 rw [s_places keys.length hl (by omega),ob_some]
 obtain ⟨m,rfl⟩:∃ m,fu = m + 1:=⟨fu - 1,by omega⟩
 rw [s_msrR false hfu m _ (by rw [ints_len]; omega) (by rw [ints_len]; omega) (fun p hp=>by have:=ints_mem.1 hp; omega),ob_some]
 congr 1
 have e:dk keys false = kf keys:=rfl
 rw [e]
 exact srt_uniq (msr_perm _ _ _) (msr_sorted _ _ _ (by rw [ints_len]; omega) (ints_lt _ _))
theorem lpP {σ α β:Type} (l:List α) (L:Nat → σ → Int → Option β) (F:List α → List α → σ → Option β) (hl:l.length ≤ 1099511627776)
    (hs:∀ n s pre x xs,l = pre ++ x :: xs → ix l (pre.length:Int) = some x → decide ((pre.length:Int) < (l.length:Int)) = true → (∀ s',L n s' (w64 ((pre.length:Int) + 1)) = F (pre ++ [x]) xs s') → L (n + 1) s (pre.length:Int) = F pre (x :: xs) s)
    (he:∀ n s,decide ((l.length:Int) < (l.length:Int)) = false → L (n + 1) s (l.length:Int) = F l [] s):∀ n s,l.length < n → L n s 0 = F [] l s:=by
 have key:∀ (xs pre:List α) (n:Nat) (s:σ),l = pre ++ xs → xs.length < n → L n s (pre.length:Int) = F pre xs s:=by
  intro xs
  induction xs with
  | nil =>
   intro pre n s he' hn
   obtain ⟨n,rfl⟩:∃ k,n = k + 1:=⟨n - 1,by omega⟩
   simp only [List.append_nil] at he'
   subst he'
   exact he n s (by simp)
  | cons x xs ih =>
   intro pre n s he' hn
   obtain ⟨n,rfl⟩:∃ k,n = k + 1:=⟨n - 1,by simp at hn; omega⟩
   have hlen:l.length = pre.length + (xs.length + 1):=by rw [he']; simp
   refine hs n s pre x xs he' ?_ (by simp; omega) fun s'=>?_
   · rw [ix_nat,he']; simp
   · rw [w64_s _ (by omega)]
     have:=ih (pre ++ [x]) n s' (by simp [he']) (by simp at hn; omega)
     simpa using this
 intro n s hn
 simpa using key l [] n s rfl hn
theorem ix_app {α:Type} {pre rest:List α} {i:Int} {y:α} (h:ix pre i = some y):ix (pre ++ rest) i = some y:=by
 obtain ⟨h0,h1,h2⟩:=ix_some h
 unfold ix
 rw [if_pos h0,List.getElem?_append_left (by omega),h2]
theorem ibeq (a b:Int):(a == b) = (b == a):=Bool.eq_iff_iff.2 (by simp only [beq_iff_eq]; exact ⟨Eq.symm,Eq.symm⟩)
theorem i_typById {fu:Nat} {r:Request} (h:Sm fu r) (id:Int):d_impl_TypeById fu r id = some (othM (typM r id)):=by
 have hfu:=h.fu
 have ht:=h.types
 unfold d_impl_TypeById typM
 rw [i_idxTyp (fun y24=>d_impl_TypeById_1 fu y24 id) (fun t=>t.fId == id) (fun t _=>rfl) ht (by omega),ob_some]
 rcases fndI_find (fun t:Typ=>t.fId == id) r.fTypes [] with ⟨h1,h2⟩ | ⟨h1,x,h2,h3⟩
 · simp only [List.length_nil] at h1
   rw [bif_true (by simpa using h1),h2]; rfl
 · simp only [List.length_nil,List.nil_append] at h1 h3
   rw [bif_false (by simpa using h1),h2]
   have h3':ix r.fTypes (fndI (fun t=>t.fId == id) r.fTypes 0) = some x:=h3
   rw [h3']; rfl
theorem s_mas {fu:Nat} {r:Request} (h:Sm fu r):d_spec_MasterOf fu r = some (othM (typM r r.fMaster)):=by
 have hfu:=h.fu
 have ht:=h.types
 unfold d_spec_MasterOf typM
 refine lp r.fTypes (fun n (_:Unit) i=>d_spec_MasterOf_L1 fu r n i) (fun l _=>some (othM (l.find? fun t=>t.fId == r.fMaster))) (by omega) ?_ ?_ fu () (by omega)
 · intro n s i x xs hx hd ih
   simp only [d_spec_MasterOf_L1.eq_2]
   unfold d_spec_MasterOf_L1_B
   simp only [hd,cond_true,hx,ob_some,ih (),List.find?_cons]
   cases x.fId == r.fMaster <;> rfl
 · intro n s i hd
   simp only [d_spec_MasterOf_L1.eq_2]
   unfold d_spec_MasterOf_L1_B
   simp only [hd,cond_false]
   rfl
theorem i_mas {fu:Nat} {r:Request} (h:Sm fu r):d_impl_MasterOf fu r = some (othM (typM r r.fMaster)):=by
 unfold d_impl_MasterOf
 rw [i_typById h]; rfl
theorem othM_2 (o:Option Typ):(othM o).2 = o.isSome:=by cases o <;> rfl
theorem s_nam {fu:Nat} {r:Request} (h:Sm fu r):d_spec_l5Names fu r = some (namB r):=by
 have hfu:=h.fu
 have h1:=h.items
 have h2:=h.types
 have h3:=h.pairs
 have e11:d_spec_l5Names_L3 fu r fu 0 = some (!(r.fPairs.any fun p=>decide (p.fA ≥ r.fClasses) || decide (p.fB ≥ r.fClasses)) && (typM r r.fMaster).isSome):=by
  refine lp r.fPairs (fun n (_:Unit) i=>d_spec_l5Names_L3 fu r n i) (fun l _=>some (!(l.any fun p=>decide (p.fA ≥ r.fClasses) || decide (p.fB ≥ r.fClasses)) && (typM r r.fMaster).isSome)) (by omega) ?_ ?_ fu () (by omega)
  · intro n s i x xs hx hd ih
    simp only [d_spec_l5Names_L3.eq_2]
    unfold d_spec_l5Names_L3_B d_spec_l5Names_J1
    simp only [hd,cond_true,hx,ob_some,ih (),List.any_cons]
    cases decide (x.fA ≥ r.fClasses) <;> cases decide (x.fB ≥ r.fClasses) <;> rfl
  · intro n s i hd
    simp only [d_spec_l5Names_L3.eq_2]
    unfold d_spec_l5Names_L3_B
    simp only [hd,cond_false,s_mas h,ob_some,othM_2]
    rfl
 have e7:∀ b,d_spec_l5Names_L3 fu r fu 0 = some b → d_spec_l5Names_L4 fu r fu 0 = some (nodC r.fClasses [] r.fItems && b):=by
  intro b hb
  refine lpP r.fItems (fun n (_:Unit) i=>d_spec_l5Names_L4 fu r n i) (fun pre l _=>some (nodC r.fClasses pre l && b)) (by omega) ?_ ?_ fu () (by omega)
  · intro n s pre x xs hl hx hd ih
    simp only [d_spec_l5Names_L4.eq_2]
    unfold d_spec_l5Names_L4_B
    simp only [hd,cond_true,hx,ob_some,nodC]
    cases hc:decide (x.fClass ≥ r.fClasses)
    · have hpl:pre.length ≤ r.fItems.length:=by rw [hl]; simp
      have e8:d_spec_l5Names_L2 fu (fun i=>d_spec_l5Names_L4 fu r n i) r (pre.length:Int) fu 0 = bif pre.any (fun y=>y.fId == x.fId) then some false else d_spec_l5Names_L4 fu r n (w64 ((pre.length:Int) + 1)):=by
       refine lp pre (fun m (_:Unit) i=>d_spec_l5Names_L2 fu (fun i=>d_spec_l5Names_L4 fu r n i) r (pre.length:Int) m i) (fun l _=>bif l.any (fun y=>y.fId == x.fId) then some false else d_spec_l5Names_L4 fu r n (w64 ((pre.length:Int) + 1))) (by omega) ?_ ?_ fu () (by omega)
       · intro m s i y ys hy hd ih
         simp only [d_spec_l5Names_L2.eq_2]
         unfold d_spec_l5Names_L2_B
         have hy':ix r.fItems i = some y:=by rw [hl]; exact ix_app hy
         simp only [hd,cond_true,hx,hy',ob_some,ih (),List.any_cons]
         rw [ibeq x.fId y.fId]
         cases y.fId == x.fId <;> rfl
       · intro m s i hd
         simp only [d_spec_l5Names_L2.eq_2]
         unfold d_spec_l5Names_L2_B
         simp only [hd,cond_false]
         rfl
      have e8':d_spec_l5Names_L2 fu (d_spec_l5Names_L4 fu r n) r (pre.length:Int) fu 0 = bif pre.any (fun y=>y.fId == x.fId) then some false else d_spec_l5Names_L4 fu r n (w64 ((pre.length:Int) + 1)):=e8
      rw [cond_false,e8',ih ()]
      cases pre.any (fun y=>y.fId == x.fId) <;> rfl
    · rfl
  · intro n s hd
    simp only [d_spec_l5Names_L4.eq_2]
    unfold d_spec_l5Names_L4_B
    simp only [hd,cond_false,hb]
    rfl
 have e3:∀ b,d_spec_l5Names_L4 fu r fu 0 = some b → d_spec_l5Names_L5 fu r fu 0 = some (nodB Typ.fId [] r.fTypes && b):=by
  intro b hb
  refine lpP r.fTypes (fun n (_:Unit) i=>d_spec_l5Names_L5 fu r n i) (fun pre l _=>some (nodB Typ.fId pre l && b)) (by omega) ?_ ?_ fu () (by omega)
  · intro n s pre x xs hl hx hd ih
    simp only [d_spec_l5Names_L5.eq_2]
    unfold d_spec_l5Names_L5_B
    simp only [hd,cond_true,nodB]
    have hpl:pre.length ≤ r.fTypes.length:=by rw [hl]; simp
    have e8:d_spec_l5Names_L1 fu (fun i=>d_spec_l5Names_L5 fu r n i) r (pre.length:Int) fu 0 = bif pre.any (fun y=>y.fId == x.fId) then some false else d_spec_l5Names_L5 fu r n (w64 ((pre.length:Int) + 1)):=by
     refine lp pre (fun m (_:Unit) i=>d_spec_l5Names_L1 fu (fun i=>d_spec_l5Names_L5 fu r n i) r (pre.length:Int) m i) (fun l _=>bif l.any (fun y=>y.fId == x.fId) then some false else d_spec_l5Names_L5 fu r n (w64 ((pre.length:Int) + 1))) (by omega) ?_ ?_ fu () (by omega)
     · intro m s i y ys hy hd ih
       simp only [d_spec_l5Names_L1.eq_2]
       unfold d_spec_l5Names_L1_B
       have hy':ix r.fTypes i = some y:=by rw [hl]; exact ix_app hy
       simp only [hd,cond_true,hx,hy',ob_some,ih (),List.any_cons]
       rw [ibeq x.fId y.fId]
       cases y.fId == x.fId <;> rfl
     · intro m s i hd
       simp only [d_spec_l5Names_L1.eq_2]
       unfold d_spec_l5Names_L1_B
       simp only [hd,cond_false]
       rfl
    have e8':d_spec_l5Names_L1 fu (d_spec_l5Names_L5 fu r n) r (pre.length:Int) fu 0 = bif pre.any (fun y=>y.fId == x.fId) then some false else d_spec_l5Names_L5 fu r n (w64 ((pre.length:Int) + 1)):=e8
    rw [e8',ih ()]
    cases pre.any (fun y=>y.fId == x.fId) <;> rfl
  · intro n s hd
    simp only [d_spec_l5Names_L5.eq_2]
    unfold d_spec_l5Names_L5_B
    simp only [hd,cond_false,hb]
    rfl
 unfold d_spec_l5Names namB
 rw [e3 _ (e7 _ e11)]
 congr 1
 cases nodB Typ.fId [] r.fTypes <;> cases nodC r.fClasses [] r.fItems <;> cases (typM r r.fMaster).isSome <;> cases r.fPairs.any fun p=>decide (p.fA ≥ r.fClasses) || decide (p.fB ≥ r.fClasses) <;> rfl
theorem sls_pre {α:Type} {l pre xs:List α} {x:α} (h:l = pre ++ x :: xs):sls l 0 (pre.length:Int) = some pre:=by
 rw [sls_some ⟨by omega,by omega,by rw [h]; simp; omega⟩]
 simp [h]
theorem i_nam {fu:Nat} {r:Request} (h:Sm fu r):d_impl_namesOk fu r = some (namB r):=by
 have hfu:=h.fu
 have h1:=h.items
 have h2:=h.types
 have h3:=h.pairs
 have e4:d_impl_namesOk_L1 fu r fu 0 = some (nodC r.fClasses [] r.fItems && ((typM r r.fMaster).isSome && !(r.fPairs.any fun p=>decide (p.fA ≥ r.fClasses) || decide (p.fB ≥ r.fClasses)))):=by
  refine lpP r.fItems (fun n (_:Unit) i=>d_impl_namesOk_L1 fu r n i) (fun pre l _=>some (nodC r.fClasses pre l && ((typM r r.fMaster).isSome && !(r.fPairs.any fun p=>decide (p.fA ≥ r.fClasses) || decide (p.fB ≥ r.fClasses))))) (by omega) ?_ ?_ fu () (by omega)
  · intro n s pre x xs hl hx hd ih
    simp only [d_impl_namesOk_L1.eq_2]
    unfold d_impl_namesOk_L1_B d_impl_namesOk_J1
    have hpl:pre.length ≤ r.fItems.length:=by rw [hl]; simp
    simp only [hd,cond_true,hx,ob_some,sls_pre hl,i_anyItem (fun y=>d_impl_namesOk_2 fu y x) (fun y=>y.fId == x.fId) (fun y _=>rfl) (show pre.length ≤ 1048576 by omega) (show pre.length < fu by omega),nodC,ih ()]
    cases decide (x.fClass ≥ r.fClasses) <;> cases pre.any (fun y=>y.fId == x.fId) <;> rfl
  · intro n s hd
    simp only [d_impl_namesOk_L1.eq_2]
    unfold d_impl_namesOk_L1_B
    simp only [hd,cond_false,i_mas h,ob_some,othM_2]
    rw [i_anyPair (fun y=>d_impl_namesOk_3 fu y r) (fun p=>decide (p.fA ≥ r.fClasses) || decide (p.fB ≥ r.fClasses)) (fun p _=>by
     unfold d_impl_namesOk_3
     cases decide (p.fA ≥ r.fClasses) <;> rfl) h3 (by omega),ob_some]
    cases (typM r r.fMaster).isSome <;> rfl
 have e3:∀ b,d_impl_namesOk_L1 fu r fu 0 = some b → d_impl_namesOk_L2 fu r fu 0 = some (nodB Typ.fId [] r.fTypes && b):=by
  intro b hb
  refine lpP r.fTypes (fun n (_:Unit) i=>d_impl_namesOk_L2 fu r n i) (fun pre l _=>some (nodB Typ.fId pre l && b)) (by omega) ?_ ?_ fu () (by omega)
  · intro n s pre x xs hl hx hd ih
    simp only [d_impl_namesOk_L2.eq_2]
    unfold d_impl_namesOk_L2_B
    have hpl:pre.length ≤ r.fTypes.length:=by rw [hl]; simp
    simp only [hd,cond_true,hx,ob_some,sls_pre hl,i_anyTyp (fun y=>d_impl_namesOk_1 fu y x) (fun y=>y.fId == x.fId) (fun y _=>rfl) (show pre.length ≤ 1048576 by omega) (show pre.length < fu by omega),nodB,ih ()]
    cases pre.any (fun y=>y.fId == x.fId) <;> rfl
  · intro n s hd
    simp only [d_impl_namesOk_L2.eq_2]
    unfold d_impl_namesOk_L2_B
    simp only [hd,cond_false,hb]
    rfl
 unfold d_impl_namesOk namB
 rw [e3 _ e4]
 congr 1
 cases nodB Typ.fId [] r.fTypes <;> cases nodC r.fClasses [] r.fItems <;> cases (typM r r.fMaster).isSome <;> cases r.fPairs.any fun p=>decide (p.fA ≥ r.fClasses) || decide (p.fB ≥ r.fClasses) <;> rfl
theorem s_bes {fu:Nat} {l:List Pair} (hl:l.length ≤ 1048576) (hf:l.length < fu) (a b:Int):d_spec_Beside fu l a b = some (besB l a b):=by
 unfold d_spec_Beside besB
 refine lp l (fun n (_:Unit) i=>d_spec_Beside_L1 fu l a b n i) (fun l _=>some (l.any fun p=>p.fA == a && p.fB == b)) (by omega) ?_ ?_ fu () hf
 · intro n s i x xs hx hd ih
   simp only [d_spec_Beside_L1.eq_2]
   unfold d_spec_Beside_L1_B d_spec_Beside_J1
   simp only [hd,cond_true,hx,ob_some,ih (),List.any_cons]
   cases x.fA == a <;> cases x.fB == b <;> rfl
 · intro n s i hd
   simp only [d_spec_Beside_L1.eq_2]
   unfold d_spec_Beside_L1_B
   simp only [hd,cond_false]
   rfl
theorem i_bes {fu:Nat} {l:List Pair} (hl:l.length ≤ 1048576) (hf:l.length < fu) (a b:Int):d_impl_Beside fu l a b = some (besB l a b):=by
 unfold d_impl_Beside d_slices_Contains_impl_Pair_impl_Pair d_slices_Index_impl_Pair_impl_Pair besB
 have:=idx_loop l (fun n i=>d_slices_Index_impl_Pair_impl_Pair_L1 fu l (⟨a,b⟩:Pair) n i) (fun p=>p.fA == a && p.fB == b) (by omega) (by
  intro n i x hx hd
  simp only [d_slices_Index_impl_Pair_impl_Pair_L1.eq_2]
  unfold d_slices_Index_impl_Pair_impl_Pair_L1_B
  simp only [hd,cond_true,hx,ob_some]
  have:decide ((⟨a,b⟩:Pair) = x) = (x.fA == a && x.fB == b):=by
   rcases x with ⟨c,d⟩
   apply Bool.eq_iff_iff.2
   simp only [decide_eq_true_eq,Pair.mk.injEq,Bool.and_eq_true,beq_iff_eq]
   exact ⟨fun ⟨h1,h2⟩=>⟨h1.symm,h2.symm⟩,fun ⟨h1,h2⟩=>⟨h1.symm,h2.symm⟩⟩
  rw [this]) (by
  intro n i hd
  simp only [d_slices_Index_impl_Pair_impl_Pair_L1.eq_2]
  unfold d_slices_Index_impl_Pair_impl_Pair_L1_B
  simp only [hd,cond_false]) fu hf
 rw [this,ob_some,fndI_any _ l 0 (by omega),ob_some]
theorem i_tab {fu:Nat} {l:List Pair} (hl:l.length ≤ 1048576) (hf:l.length < fu) (h64:64 < fu) (c:Int):d_impl_TableOk fu l c = some (tabB l c):=by
 unfold d_impl_TableOk tabB
 rw [i_in,ob_some]
 cases hc:inb c 1 4
 · rfl
 rw [inb_iff] at hc
 simp only [Bool.not_true,cond_false,Bool.true_and]
 have e4:∀ (k:Int → Option Bool) (a:Int),d_impl_TableOk_L1 fu k l c a fu 0 = bif (ints 0 c.toNat).all fun b=>besB l a b == besB l b a then k (w64 (a + 1)) else some false:=by
  intro k a
  refine lpN c (fun n (_:Unit) i=>d_impl_TableOk_L1 fu k l c a n i) (fun xs _=>bif xs.all fun b=>besB l a b == besB l b a then k (w64 (a + 1)) else some false) (by omega) ?_ ?_ c.toNat fu () 0 (by omega) (by omega) (by omega)
  · intro n s i xs h0 h1 hd ih
    simp only [d_impl_TableOk_L1.eq_2]
    unfold d_impl_TableOk_L1_B
    simp only [hd,cond_true,i_bes hl hf,ob_some,ih (),List.all_cons]
    cases besB l a i == besB l i a <;> rfl
  · intro n s i hd
    simp only [d_impl_TableOk_L1.eq_2]
    unfold d_impl_TableOk_L1_B
    simp only [hd,cond_false]
    rfl
 refine lpN c (fun n (_:Unit) i=>d_impl_TableOk_L2 fu l c n i) (fun xs _=>some (xs.all fun a=>besB l a a && (ints 0 c.toNat).all fun b=>besB l a b == besB l b a)) (by omega) ?_ ?_ c.toNat fu () 0 (by omega) (by omega) (by omega)
 · intro n s i xs h0 h1 hd ih
   simp only [d_impl_TableOk_L2.eq_2]
   unfold d_impl_TableOk_L2_B
   simp only [hd,cond_true,i_bes hl hf,ob_some,e4,ih (),List.all_cons]
   cases besB l i i <;> cases (ints 0 c.toNat).all fun b=>besB l i b == besB l b i <;> rfl
 · intro n s i hd
   simp only [d_impl_TableOk_L2.eq_2]
   unfold d_impl_TableOk_L2_B
   simp only [hd,cond_false]
   rfl
theorem s_tab {fu:Nat} {l:List Pair} (hl:l.length ≤ 1048576) (hf:l.length < fu) (h64:64 < fu) (c:Int):d_spec_TableOk fu l c = some (tabB l c):=by
 unfold d_spec_TableOk tabB
 rw [s_in,ob_some]
 cases hc:inb c 1 4
 · rfl
 rw [inb_iff] at hc
 simp only [Bool.not_true,cond_false,Bool.true_and]
 have e4:∀ (k:Int → Option Bool) (a:Int),d_spec_TableOk_L1 fu k l c a fu 0 = bif (ints 0 c.toNat).all fun b=>(!(a == b) || besB l a a) && (besB l a b == besB l b a) then k (w64 (a + 1)) else some false:=by
  intro k a
  refine lpN c (fun n (_:Unit) i=>d_spec_TableOk_L1 fu k l c a n i) (fun xs _=>bif xs.all fun b=>(!(a == b) || besB l a a) && (besB l a b == besB l b a) then k (w64 (a + 1)) else some false) (by omega) ?_ ?_ c.toNat fu () 0 (by omega) (by omega) (by omega)
  · intro n s i xs h0 h1 hd ih
    simp only [d_spec_TableOk_L1.eq_2]
    unfold d_spec_TableOk_L1_B d_spec_TableOk_J1
    simp only [hd,cond_true,s_bes hl hf,ob_some,ih (),List.all_cons]
    cases a == i <;> cases besB l a a <;> cases besB l a i == besB l i a <;> rfl
  · intro n s i hd
    simp only [d_spec_TableOk_L1.eq_2]
    unfold d_spec_TableOk_L1_B
    simp only [hd,cond_false]
    rfl
 have e9:d_spec_TableOk_L2 fu l c fu 0 = some ((ints 0 c.toNat).all fun a=>(ints 0 c.toNat).all fun b=>(!(a == b) || besB l a a) && (besB l a b == besB l b a)):=by
  refine lpN c (fun n (_:Unit) i=>d_spec_TableOk_L2 fu l c n i) (fun xs _=>some (xs.all fun a=>(ints 0 c.toNat).all fun b=>(!(a == b) || besB l a a) && (besB l a b == besB l b a))) (by omega) ?_ ?_ c.toNat fu () 0 (by omega) (by omega) (by omega)
  · intro n s i xs h0 h1 hd ih
    simp only [d_spec_TableOk_L2.eq_2]
    unfold d_spec_TableOk_L2_B
    simp only [hd,cond_true,e4,ih (),List.all_cons]
    cases (ints 0 c.toNat).all fun b=>(!(i == b) || besB l i i) && (besB l i b == besB l b i) <;> rfl
  · intro n s i hd
    simp only [d_spec_TableOk_L2.eq_2]
    unfold d_spec_TableOk_L2_B
    simp only [hd,cond_false]
    rfl
 rw [e9]
 congr 1
 apply Bool.eq_iff_iff.2
 simp only [List.all_eq_true,Bool.and_eq_true,Bool.or_eq_true,Bool.not_eq_true',beq_eq_false_iff_ne,beq_iff_eq]
 constructor
 · intro h a ha
   refine ⟨?_,fun b hb=>(h a ha b hb).2⟩
   rcases (h a ha a ha).1 with h1 | h1
   · exact absurd rfl h1
   · exact h1
 · intro h a ha b hb
   exact ⟨.inr (h a ha).1,(h a ha).2 b hb⟩
theorem len3 {l:List Int} (h:l.length = 3):∃ p q s,l = [p,q,s]:=by
 match l,h with
 | [p,q,s],_=>exact ⟨p,q,s,rfl⟩
theorem s_sid {fu:Nat} (hfu:2097153 ≤ fu) (a b c:Int):d_spec_l5Sides fu a b c = some [(sid a b c).1,(sid a b c).2.1,(sid a b c).2.2]:=by
 unfold d_spec_l5Sides
 rw [s_up hfu (by simp),ob_some,show [a,b,c].length = 3 from rfl]
 have hp:=srt_perm (kf [a,b,c]) 3
 have hs:=srt_sorted (kf [a,b,c]) 3
 obtain ⟨p,q,s,hq⟩:=len3 (srt_len (kf [a,b,c]) 3)
 rw [hq] at hp hs ⊢
 have hmem:∀ x ∈ [p,q,s],0 ≤ x ∧ x < 3:=fun x hx=>by
  have:=ints_mem.1 (hp.mem_iff.1 hx)
  omega
 have k1:=kf_ix (keys:=[a,b,c]) (p:=p) (by have:=hmem p (by simp); simpa using this)
 have k2:=kf_ix (keys:=[a,b,c]) (p:=q) (by have:=hmem q (by simp); simpa using this)
 have k3:=kf_ix (keys:=[a,b,c]) (p:=s) (by have:=hmem s (by simp); simpa using this)
 rw [show ix [p,q,s] 0 = some p from rfl,show ix [p,q,s] 1 = some q from rfl,show ix [p,q,s] 2 = some s from rfl]
 simp only [ob_some,k1,k2,k3]
 have hp3:([a,b,c]).Perm [kf [a,b,c] p,kf [a,b,c] q,kf [a,b,c] s]:=(hp.map (kf [a,b,c])).symm
 simp only [List.pairwise_cons,List.mem_cons,List.not_mem_nil,or_false,forall_eq_or_imp,forall_eq,lx] at hs
 have:=perm3 hp3 (by omega) (by omega)
 rw [this]
theorem s_fit {fu:Nat} (hfu:2097153 ≤ fu) (x:Item) (t:Typ):d_spec_Fits fu x t = some (fitB x t):=by
 unfold d_spec_Fits fitB
 rw [s_sid hfu,s_sid hfu]
 simp only [ob_some]
 have e0:∀ a b c:Int,ix [a,b,c] 0 = some a:=fun _ _ _=>rfl
 have e1:∀ a b c:Int,ix [a,b,c] 1 = some b:=fun _ _ _=>rfl
 have e2:∀ a b c:Int,ix [a,b,c] 2 = some c:=fun _ _ _=>rfl
 simp only [e0,e1,e2,ob_some]
 cases decide ((sid x.fW x.fH x.fD).1 ≤ (sid t.fW t.fH t.fD).1) <;> cases decide ((sid x.fW x.fH x.fD).2.1 ≤ (sid t.fW t.fH t.fD).2.1) <;> cases decide ((sid x.fW x.fH x.fD).2.2 ≤ (sid t.fW t.fH t.fD).2.2) <;> rfl
theorem sortI3 (a b c:Int):sortI [a,b,c] = some [(sid a b c).1,(sid a b c).2.1,(sid a b c).2.2]:=by
 unfold sortI
 rw [if_pos (by simp)]
 have hp:=List.mergeSort_perm [a,b,c] (fun x y=>decide (x ≤ y))
 have hs:=mergeSort_le [a,b,c]
 obtain ⟨p,q,s,hq⟩:=len3 (hp.length_eq)
 rw [hq] at hp hs ⊢
 simp only [List.pairwise_cons,List.mem_cons,List.not_mem_nil,or_false,forall_eq_or_imp,forall_eq] at hs
 rw [perm3 hp.symm (by omega) (by omega)]
theorem i_fit (fu:Nat) (x:Item) (t:Typ):d_impl_Fits fu x t = some (fitB x t):=by
 unfold d_impl_Fits d_impl_Fits_J1 d_slices_Sort_int_int fitB
 rw [sortI3,sortI3]
 have e0:∀ a b c:Int,ix [a,b,c] 0 = some a:=fun _ _ _=>rfl
 have e1:∀ a b c:Int,ix [a,b,c] 1 = some b:=fun _ _ _=>rfl
 have e2:∀ a b c:Int,ix [a,b,c] 2 = some c:=fun _ _ _=>rfl
 simp only [ob_some,e0,e1,e2]
 cases decide ((sid x.fW x.fH x.fD).1 ≤ (sid t.fW t.fH t.fD).1) <;> cases decide ((sid x.fW x.fH x.fD).2.1 ≤ (sid t.fW t.fH t.fD).2.1) <;> cases decide ((sid x.fW x.fH x.fD).2.2 ≤ (sid t.fW t.fH t.fD).2.2) <;> rfl
theorem s_cls {fu:Nat} {r:Request} (h:Sm fu r):d_spec_Class fu r = some (clsM r):=by
 have hfu:=h.fu
 have h1:=h.items
 have h2:=h.types
 have h3:=h.pairs
 have e4:d_spec_Class_L1 fu r fu 0 = some (bif r.fTypes.any (tooB r.fPallet) then 6 else 0):=by
  refine lp r.fTypes (fun n (_:Unit) i=>d_spec_Class_L1 fu r n i) (fun l _=>some (bif l.any (tooB r.fPallet) then 6 else 0)) (by omega) ?_ ?_ fu () (by omega)
  · intro n s i x xs hx hd ih
    simp only [d_spec_Class_L1.eq_2]
    unfold d_spec_Class_L1_B d_spec_Class_J1
    simp only [hd,cond_true,hx,ob_some,ih (),List.any_cons,tooB]
    cases decide (x.fW > r.fPallet.fW) <;> cases decide (x.fD > r.fPallet.fD) <;> cases decide (x.fH > r.fPallet.fH) <;> cases decide (w64 (x.fTare + x.fGram) > r.fPallet.fGram) <;> rfl
  · intro n s i hd
    simp only [d_spec_Class_L1.eq_2]
    unfold d_spec_Class_L1_B
    simp only [hd,cond_false]
    rfl
 unfold d_spec_Class clsM
 rw [s_bou h,ob_some,s_nam h,ob_some,s_tab h3 (by omega) (by omega),ob_some,s_mas h,ob_some]
 have e1:d_spec_Class_L2 fu r (othM (typM r r.fMaster)) fu 0 = some (bif !(r.fItems.all fun x=>fitB x (masM r)) then 5 else bif r.fTypes.any (tooB r.fPallet) then 6 else 0):=by
  refine lp r.fItems (fun n (_:Unit) i=>d_spec_Class_L2 fu r (othM (typM r r.fMaster)) n i) (fun l _=>some (bif !(l.all fun x=>fitB x (masM r)) then 5 else bif r.fTypes.any (tooB r.fPallet) then 6 else 0)) (by omega) ?_ ?_ fu () (by omega)
  · intro n s i x xs hx hd ih
    simp only [d_spec_Class_L2.eq_2]
    unfold d_spec_Class_L2_B
    simp only [hd,cond_true,hx,ob_some,s_fit hfu,ih (),List.all_cons]
    rw [show (othM (typM r r.fMaster)).1 = masM r from rfl]
    cases fitB x (masM r) <;> rfl
  · intro n s i hd
    simp only [d_spec_Class_L2.eq_2]
    unfold d_spec_Class_L2_B
    simp only [hd,cond_false,e4]
    rfl
 rw [e1]
 cases bouB r <;> cases namB r <;> cases tabB r.fPairs r.fClasses <;> rfl
theorem i_cls {fu:Nat} {r:Request} (h:Sm fu r):d_impl_Class fu r = some (clsM r):=by
 have hfu:=h.fu
 have h1:=h.items
 have h2:=h.types
 have h3:=h.pairs
 unfold d_impl_Class clsM
 rw [i_mas h,ob_some,i_bou h,ob_some,i_nam h,ob_some,i_tab h3 (by omega) (by omega),ob_some]
 rw [i_anyItem (fun y=>d_impl_Class_1 fu y (othM (typM r r.fMaster)).1) (fun x=>!fitB x (masM r)) (fun x _=>by
  unfold d_impl_Class_1
  rw [i_fit,ob_some]; rfl) h1 (by omega),ob_some]
 rw [i_anyTyp (fun y=>d_impl_Class_2 fu y r.fPallet) (tooB r.fPallet) (fun x _=>by
  unfold d_impl_Class_2 tooB
  cases decide (x.fW > r.fPallet.fW) <;> cases decide (x.fD > r.fPallet.fD) <;> cases decide (x.fH > r.fPallet.fH) <;> rfl) h2 (by omega),ob_some]
 rw [show (r.fItems.any fun x=>!fitB x (masM r)) = !(r.fItems.all fun x=>fitB x (masM r)) by simp [List.not_all_eq_any_not]]
 cases bouB r <;> cases namB r <;> cases tabB r.fPairs r.fClasses <;> cases r.fItems.all fun x=>fitB x (masM r) <;> cases r.fTypes.any (tooB r.fPallet) <;> rfl
theorem i_sound {fu:Nat} {r:Request} (h:Sm fu r):d_impl_sound fu r = some (clsM r == 0):=by
 unfold d_impl_sound
 rw [i_cls h]; rfl
theorem lpPI {σ α β:Type} (l:List α) (L:Nat → σ → Int → Option β) (F:List α → List α → σ → Option β) (I:List α → List α → σ → Prop) (hl:l.length ≤ 1099511627776)
    (hs:∀ n s pre x xs,l = pre ++ x :: xs → ix l (pre.length:Int) = some x → decide ((pre.length:Int) < (l.length:Int)) = true → I pre (x :: xs) s → (∀ s',I (pre ++ [x]) xs s' → L n s' (w64 ((pre.length:Int) + 1)) = F (pre ++ [x]) xs s') → L (n + 1) s (pre.length:Int) = F pre (x :: xs) s)
    (he:∀ n s,decide ((l.length:Int) < (l.length:Int)) = false → I l [] s → L (n + 1) s (l.length:Int) = F l [] s):∀ n s,I [] l s → l.length < n → L n s 0 = F [] l s:=by
 have key:∀ (xs pre:List α) (n:Nat) (s:σ),l = pre ++ xs → I pre xs s → xs.length < n → L n s (pre.length:Int) = F pre xs s:=by
  intro xs
  induction xs with
  | nil =>
   intro pre n s he' hI hn
   obtain ⟨n,rfl⟩:∃ k,n = k + 1:=⟨n - 1,by omega⟩
   simp only [List.append_nil] at he'
   subst he'
   exact he n s (by simp) hI
  | cons x xs ih =>
   intro pre n s he' hI hn
   obtain ⟨n,rfl⟩:∃ k,n = k + 1:=⟨n - 1,by simp at hn; omega⟩
   have hlen:l.length = pre.length + (xs.length + 1):=by rw [he']; simp
   refine hs n s pre x xs he' ?_ (by simp; omega) hI fun s' hI'=>?_
   · rw [ix_nat,he']; simp
   · rw [w64_s _ (by omega)]
     have:=ih (pre ++ [x]) n s' (by simp [he']) hI' (by simp at hn; omega)
     simpa using this
 intro n s hI hn
 simpa using key l [] n s rfl hI hn
theorem itm_count {x:Item} (h:itmB x = true):1 ≤ x.fCount ∧ x.fCount ≤ 6:=by
 simp only [itmB,Bool.and_eq_true,inb_iff] at h
 omega
theorem cnt_nn {xs:List Item} (h:∀ x ∈ xs,itmB x = true):0 ≤ sumI (xs.map (·.fCount)):=sumI_nn _ _ fun x hx=>by have:=itm_count (h x hx); omega
theorem s_l6 {fu:Nat} {r:Request} (h:Sm fu r) (hb:bouB r = true):d_spec_l6Units fu r = some (l6M r):=by
 have hfu:=h.fu
 obtain ⟨hi,hs,hl⟩:=bou_items hb
 have e4:∀ (k:List Int → Int → Option (List Int)) (i:Int) (x:Item),ix r.fItems i = some x → ∀ (m n:Nat) (c:Int) (out:List Int),0 ≤ c → c ≤ x.fCount → (x.fCount - c).toNat = m → x.fCount ≤ 6 → m < n → out.length + m ≤ 100 →
     d_spec_l6Units_L1 fu k r i n out c = k (out ++ List.replicate m i) (w64 (i + 1)):=by
  intro k i x hx m
  induction m with
  | zero =>
   intro n c out h0 h1 h2 h3 h4 h5
   obtain ⟨n,rfl⟩:∃ j,n = j + 1:=⟨n - 1,by omega⟩
   rw [d_spec_l6Units_L1.eq_2]
   unfold d_spec_l6Units_L1_B
   rw [hx,ob_some,bif_false (by simp; omega)]
   simp
  | succ m ih =>
   intro n c out h0 h1 h2 h3 h4 h5
   obtain ⟨n,rfl⟩:∃ j,n = j + 1:=⟨n - 1,by omega⟩
   rw [d_spec_l6Units_L1.eq_2]
   unfold d_spec_l6Units_L1_B
   rw [hx,ob_some,bif_true (by simp; omega),ap1 (by simp; omega),ob_some,w64_id (by omega) (by omega),ih n (c + 1) (out ++ [i]) (by omega) (by omega) (by omega) h3 (by omega) (by simp; omega)]
   rw [List.append_assoc,List.singleton_append,← List.replicate_succ]
 unfold d_spec_l6Units l6M
 have:=lpPI r.fItems (fun n out i=>d_spec_l6Units_L2 fu r n out i) (fun pre xs out=>some (out ++ repU (pre.length:Int) xs)) (fun pre xs out=>(out.length:Int) + sumI (xs.map (·.fCount)) ≤ 12 ∧ ∀ x ∈ xs,itmB x = true) (by omega) ?_ ?_ fu [] ⟨by simpa using hs,hi⟩ (by omega)
 · simpa using this
 · intro n out pre x xs hl' hx hd hI ih
   simp only [d_spec_l6Units_L2.eq_2]
   unfold d_spec_l6Units_L2_B
   have hc:=itm_count (hI.2 x (by simp))
   have hsum:=hI.1
   have hnn:=cnt_nn (fun y hy=>hI.2 y (by simp [hy]):∀ y ∈ xs,itmB y = true)
   simp only [List.map_cons,sumI_cons] at hsum
   have e:=e4 (d_spec_l6Units_L2 fu r n) (pre.length:Int) x hx x.fCount.toNat fu 0 out (by omega) (by omega) (by omega) (by omega) (by omega) (by omega)
   rw [hd,cond_true,e,ih _ ⟨by simp; omega,fun y hy=>hI.2 y (by simp [hy])⟩]
   simp [repU]
 · intro n out hd hI
   simp only [d_spec_l6Units_L2.eq_2]
   unfold d_spec_l6Units_L2_B
   simp only [hd,cond_false]
   simp [repU]
theorem s_unt {fu:Nat} {r:Request} (h:Sm fu r):d_spec_Units fu r = some (untM r):=by
 unfold d_spec_Units untM
 rw [s_cls h,ob_some]
 by_cases hc:clsM r = 0
 · rw [bif_false (by simp [hc]),s_l6 h (clsM_zero hc).1,ob_some,bif_true (by simp [hc])]
 · rw [bif_true (by simp [hc]),bif_false (by simp [hc])]
theorem mul6 (fu:Nat) (c:Int) (h:1 ≤ c ∧ c ≤ 6):d_bits_Mul fu (IntKind.wrap .u64 1) (IntKind.wrap .u64 c) = some (0,c):=by
 have:c = 1 ∨ c = 2 ∨ c = 3 ∨ c = 4 ∨ c = 5 ∨ c = 6:=by omega
 rcases this with rfl | rfl | rfl | rfl | rfl | rfl <;> rfl
theorem rep_1 (m:Nat) (i:Int):d_slices_Repeat_int_int_J1 (m + 10) [i] (0,1) = some (List.replicate 1 i):=by kernel_rfl
theorem rep_2 (m:Nat) (i:Int):d_slices_Repeat_int_int_J1 (m + 10) [i] (0,2) = some (List.replicate 2 i):=by kernel_rfl
theorem rep_3 (m:Nat) (i:Int):d_slices_Repeat_int_int_J1 (m + 10) [i] (0,3) = some (List.replicate 3 i):=by kernel_rfl
theorem rep_4 (m:Nat) (i:Int):d_slices_Repeat_int_int_J1 (m + 10) [i] (0,4) = some (List.replicate 4 i):=by kernel_rfl
theorem rep_5 (m:Nat) (i:Int):d_slices_Repeat_int_int_J1 (m + 10) [i] (0,5) = some (List.replicate 5 i):=by kernel_rfl
theorem rep_6 (m:Nat) (i:Int):d_slices_Repeat_int_int_J1 (m + 10) [i] (0,6) = some (List.replicate 6 i):=by kernel_rfl
theorem rep6 {fu:Nat} (hfu:10 ≤ fu) (i c:Int) (h:1 ≤ c ∧ c ≤ 6):d_slices_Repeat_int_int fu [i] c = some (List.replicate c.toNat i):=by
 unfold d_slices_Repeat_int_int d_slices_Repeat_int_int_J2
 rw [bif_false (by simp; omega)]
 rw [show (([i]:List Int).length:Int) = 1 from rfl,mul6 fu c h,ob_some,bif_false (by simp),bif_false (by simp; omega)]
 obtain ⟨m,rfl⟩:∃ m,fu = m + 10:=⟨fu - 10,by omega⟩
 have:c = 1 ∨ c = 2 ∨ c = 3 ∨ c = 4 ∨ c = 5 ∨ c = 6:=by omega
 rcases this with rfl | rfl | rfl | rfl | rfl | rfl
 · exact rep_1 m i
 · exact rep_2 m i
 · exact rep_3 m i
 · exact rep_4 m i
 · exact rep_5 m i
 · exact rep_6 m i
theorem i_unt {fu:Nat} {r:Request} (h:Sm fu r):d_impl_Units fu r = some (untM r):=by
 have hfu:=h.fu
 unfold d_impl_Units untM
 rw [i_sound h,ob_some]
 by_cases hc:clsM r = 0
 · obtain ⟨hi,hs,hl⟩:=bou_items (clsM_zero hc).1
   rw [bif_false (by simp [hc]),bif_true (by simp [hc])]
   unfold l6M
   have:=lpPI r.fItems (fun n out i=>d_impl_Units_L1 fu r n out i) (fun pre xs out=>some (out ++ repU (pre.length:Int) xs)) (fun pre xs out=>(out.length:Int) + sumI (xs.map (·.fCount)) ≤ 12 ∧ ∀ x ∈ xs,itmB x = true) (by omega) ?_ ?_ fu [] ⟨by simpa using hs,hi⟩ (by omega)
   · simpa using this
   · intro n out pre x xs hl' hx hd hI ih
     simp only [d_impl_Units_L1.eq_2]
     unfold d_impl_Units_L1_B
     have hc:=itm_count (hI.2 x (by simp))
     have hsum:=hI.1
     have hnn:=cnt_nn (fun y hy=>hI.2 y (by simp [hy]):∀ y ∈ xs,itmB y = true)
     simp only [List.map_cons,sumI_cons] at hsum
     rw [hd,cond_true,hx,ob_some,rep6 (by omega) _ _ hc,ob_some,ap1 (by simp; omega),ob_some,ih _ ⟨by simp; omega,fun y hy=>hI.2 y (by simp [hy])⟩]
     simp [repU]
   · intro n out hd hI
     simp only [d_impl_Units_L1.eq_2]
     unfold d_impl_Units_L1_B
     simp only [hd,cond_false]
     simp [repU]
 · rw [bif_true (by simp [hc]),bif_false (by simp [hc])]
theorem toS_loop {α:Type} (l:List α) (L:Nat → List α → Int → Option (List α)) (z:α) (hl:l.length ≤ 1048576)
    (hs:∀ n out (i:Int) x y,ix l i = some x → decide (i < (l.length:Int)) = true → ix out i = some y → L (n + 1) out i = L n (setx out i x) (w64 (i + 1)))
    (he:∀ n out (i:Int),decide (i < (l.length:Int)) = false → L (n + 1) out i = some out) (n:Nat) (hn:l.length < n):L n (List.replicate l.length z) 0 = some l:=by
 have key:∀ (xs pre:List α) (n:Nat) (out:List α),l = pre ++ xs → out.length = l.length → xs.length < n → L n out (pre.length:Int) = some (out.take pre.length ++ xs):=by
  intro xs
  induction xs with
  | nil =>
   intro pre n out h ho hn
   obtain ⟨n,rfl⟩:∃ k,n = k + 1:=⟨n - 1,by omega⟩
   simp only [List.append_nil] at h
   subst h
   rw [he n out _ (by simp),← ho]
   simp
  | cons x xs ih =>
   intro pre n out h ho hn
   obtain ⟨n,rfl⟩:∃ k,n = k + 1:=⟨n - 1,by simp at hn; omega⟩
   have hlen:l.length = pre.length + (xs.length + 1):=by rw [h]; simp
   have hlt:pre.length < out.length:=by omega
   rw [hs n out _ x out[pre.length] (by rw [ix_nat,h]; simp) (by simp; omega) (ix_i hlt),w64_s _ (by omega)]
   have:=ih (pre ++ [x]) n (setx out (pre.length:Int) x) (by simp [h]) (by simp [setx,ho]) (by simp at hn; omega)
   simp only [List.length_append,List.length_singleton] at this
   rw [this]
   congr 1
   simp only [setx,Int.toNat_natCast]
   rw [List.take_succ_eq_append_getElem (by simp; omega)]
   simp [List.take_set_of_le]
 have:=key l [] n (List.replicate l.length z) rfl (by simp) hn
 simpa using this
theorem eqS_loop {α:Type} (l:List α) (L:Nat → Int → Option Bool) (hl:l.length ≤ 1048576)
    (hs:∀ n (i:Int) x,ix l i = some x → decide (i < (l.length:Int)) = true → L (n + 1) i = L n (w64 (i + 1)))
    (he:∀ n (i:Int),decide (i < (l.length:Int)) = false → L (n + 1) i = some true) (n:Nat) (hn:l.length < n):L n 0 = some true :=
 lp l (fun n (_:Unit) i=>L n i) (fun _ _=>some true) (by omega) (fun n s i x xs hx hd ih=>by rw [hs n i x hx hd]; exact ih ()) (fun n s i hd=>he n i hd) n () hn
theorem szS {n:Nat} {left:Int} (hn:n ≤ maxLen) (h1:0 ≤ left) (h2:left ≤ 1048576):(bif (decide ((w64 (left - (n:Int))) < 0)) then some (-1) else some (w64 (left - (n:Int)))) = some (if left < n then -1 else left - n):=by
 have:(n:Int) ≤ 9223372036854775807:=by simp only [maxLen] at hn; omega
 rw [w64_id (by omega) (by omega)]
 by_cases h:left < n
 · rw [bif_true (by simp; omega),if_pos h]
 · rw [bif_false (by simp; omega),if_neg h]
theorem szPairS (fu:Nat) (l:List Pair) (left:Int) (hl:l.length ≤ maxLen) (h1:0 ≤ left) (h2:left ≤ 1048576):d_laws_szPairS fu l left = some (if left < l.length then -1 else left - l.length):=szS hl h1 h2
theorem szTypeS (fu:Nat) (l:List Typ) (left:Int) (hl:l.length ≤ maxLen) (h1:0 ≤ left) (h2:left ≤ 1048576):d_laws_szTypeS fu l left = some (if left < l.length then -1 else left - l.length):=szS hl h1 h2
theorem szItemS (fu:Nat) (l:List Item) (left:Int) (hl:l.length ≤ maxLen) (h1:0 ≤ left) (h2:left ≤ 1048576):d_laws_szItemS fu l left = some (if left < l.length then -1 else left - l.length):=szS hl h1 h2
theorem szReq (fu:Nat) (r:Request) (hw:wf r):(∃ x,d_laws_szRequest fu r 1048576 = some x ∧ x < 0) ∨ (∃ x,d_laws_szRequest fu r 1048576 = some x ∧ 0 ≤ x ∧ x ≤ 1048576 ∧ r.fPairs.length ≤ 1048576 ∧ r.fTypes.length ≤ 1048576 ∧ r.fItems.length ≤ 1048576):=by
 have hp:r.fPairs.length ≤ maxLen:=hw.2.2.2.1.1
 have ht:r.fTypes.length ≤ maxLen:=hw.2.2.2.2.1.1
 have hi:r.fItems.length ≤ maxLen:=hw.2.2.2.2.2.2.1
 unfold d_laws_szRequest
 rw [szPairS fu _ _ hp (by omega) (by omega),ob_some]
 by_cases h1:(1048576:Int) < r.fPairs.length
 · rw [if_pos h1]; exact .inl ⟨-1,by simp,by omega⟩
 rw [if_neg h1,bif_false (by simp; omega),szTypeS fu _ _ ht (by omega) (by omega),ob_some]
 by_cases h2:(1048576:Int) - r.fPairs.length < r.fTypes.length
 · rw [if_pos h2]; exact .inl ⟨-1,by simp,by omega⟩
 rw [if_neg h2,bif_false (by simp; omega),szItemS fu _ _ hi (by omega) (by omega),ob_some]
 by_cases h3:(1048576:Int) - r.fPairs.length - r.fTypes.length < r.fItems.length
 · rw [if_pos h3]; exact .inl ⟨-1,by simp,by omega⟩
 rw [if_neg h3,bif_false (by simp; omega)]
 exact .inr ⟨_,rfl,by omega,by omega,by omega,by omega,by omega⟩
theorem toPairS (fu:Nat) (l:List Pair) (h:l.length ≤ 1048576) (hf:l.length < fu):d_laws_toPairS fu l = some l:=by
 unfold d_laws_toPairS
 rw [mk_some (by omega),ob_some]
 refine toS_loop l (fun n out i=>d_laws_toPairS_L1 fu l n out i) _ h ?_ ?_ fu hf
 · intro n out i x y hx hd hy
   simp only [d_laws_toPairS_L1.eq_2]
   unfold d_laws_toPairS_L1_B d_laws_toPair
   simp only [hd,cond_true,hx,ob_some,hy]
 · intro n out i hd
   simp only [d_laws_toPairS_L1.eq_2]
   unfold d_laws_toPairS_L1_B
   simp only [hd,cond_false]
theorem toTypeS (fu:Nat) (l:List Typ) (h:l.length ≤ 1048576) (hf:l.length < fu):d_laws_toTypeS fu l = some l:=by
 unfold d_laws_toTypeS
 rw [mk_some (by omega),ob_some]
 refine toS_loop l (fun n out i=>d_laws_toTypeS_L1 fu l n out i) _ h ?_ ?_ fu hf
 · intro n out i x y hx hd hy
   simp only [d_laws_toTypeS_L1.eq_2]
   unfold d_laws_toTypeS_L1_B d_laws_toType
   simp only [hd,cond_true,hx,ob_some,hy]
 · intro n out i hd
   simp only [d_laws_toTypeS_L1.eq_2]
   unfold d_laws_toTypeS_L1_B
   simp only [hd,cond_false]
theorem toItemS (fu:Nat) (l:List Item) (h:l.length ≤ 1048576) (hf:l.length < fu):d_laws_toItemS fu l = some l:=by
 unfold d_laws_toItemS
 rw [mk_some (by omega),ob_some]
 refine toS_loop l (fun n out i=>d_laws_toItemS_L1 fu l n out i) _ h ?_ ?_ fu hf
 · intro n out i x y hx hd hy
   simp only [d_laws_toItemS_L1.eq_2]
   unfold d_laws_toItemS_L1_B d_laws_toItem
   simp only [hd,cond_true,hx,ob_some,hy]
 · intro n out i hd
   simp only [d_laws_toItemS_L1.eq_2]
   unfold d_laws_toItemS_L1_B
   simp only [hd,cond_false]
theorem toReq {fu:Nat} {r:Request} (h:Sm fu r):d_laws_toRequest fu r = some r:=by
 have hfu:=h.fu
 have h1:=h.items
 have h2:=h.types
 have h3:=h.pairs
 unfold d_laws_toRequest d_laws_toPallet
 rw [ob_some,toPairS fu _ h3 (by omega),ob_some,toTypeS fu _ h2 (by omega),ob_some,toItemS fu _ h1 (by omega),ob_some]
theorem eqPairS (fu:Nat) (l:List Pair) (h:l.length ≤ 1048576) (hf:l.length < fu):d_laws_eqPairS fu l l = some true:=by
 unfold d_laws_eqPairS
 rw [bif_false (by simp)]
 refine eqS_loop l (fun n i=>d_laws_eqPairS_L1 fu l l n i) h ?_ ?_ fu hf
 · intro n i x hx hd
   simp only [d_laws_eqPairS_L1.eq_2]
   unfold d_laws_eqPairS_L1_B d_laws_eqPair
   simp [hd,hx]
 · intro n i hd
   simp only [d_laws_eqPairS_L1.eq_2]
   unfold d_laws_eqPairS_L1_B
   simp only [hd,cond_false]
theorem eqTypeS (fu:Nat) (l:List Typ) (h:l.length ≤ 1048576) (hf:l.length < fu):d_laws_eqTypeS fu l l = some true:=by
 unfold d_laws_eqTypeS
 rw [bif_false (by simp)]
 refine eqS_loop l (fun n i=>d_laws_eqTypeS_L1 fu l l n i) h ?_ ?_ fu hf
 · intro n i x hx hd
   simp only [d_laws_eqTypeS_L1.eq_2]
   unfold d_laws_eqTypeS_L1_B d_laws_eqType
   simp [hd,hx]
 · intro n i hd
   simp only [d_laws_eqTypeS_L1.eq_2]
   unfold d_laws_eqTypeS_L1_B
   simp only [hd,cond_false]
theorem eqItemS (fu:Nat) (l:List Item) (h:l.length ≤ 1048576) (hf:l.length < fu):d_laws_eqItemS fu l l = some true:=by
 unfold d_laws_eqItemS
 rw [bif_false (by simp)]
 refine eqS_loop l (fun n i=>d_laws_eqItemS_L1 fu l l n i) h ?_ ?_ fu hf
 · intro n i x hx hd
   simp only [d_laws_eqItemS_L1.eq_2]
   unfold d_laws_eqItemS_L1_B d_laws_eqItem
   simp [hd,hx]
 · intro n i hd
   simp only [d_laws_eqItemS_L1.eq_2]
   unfold d_laws_eqItemS_L1_B
   simp only [hd,cond_false]
theorem eqReq {fu:Nat} {r:Request} (h:Sm fu r):d_laws_eqRequest fu r r = some true:=by
 have hfu:=h.fu
 have h1:=h.items
 have h2:=h.types
 have h3:=h.pairs
 unfold d_laws_eqRequest d_laws_eqPallet
 rw [eqPairS fu _ h3 (by omega),eqTypeS fu _ h2 (by omega),eqItemS fu _ h1 (by omega)]
 simp
theorem ix_setx_eq {α:Type} (xs:List α) (n:Int) (y:α):ix (setx xs n y) n = (ix xs n).map fun _=>y:=by
 unfold ix setx
 split
 · by_cases h:n.toNat < xs.length
   · simp [h]
   · rw [List.getElem?_eq_none (by simp; omega),List.getElem?_eq_none (by omega)]; rfl
 · rfl
theorem setx_len {α:Type} (xs:List α) (n:Int) (y:α):(setx xs n y).length = xs.length:=by simp [setx]
theorem mark_loop {α:Type} (c:Nat) (hc:c ≤ 10) (L:Nat → List α → Int → Int → Option (Int × List α))
    (hs:∀ n x kv (i:Int) y,ix x i = some y → decide (i < (x.length:Int)) = true → 0 ≤ kv → kv ≤ 1099511627776 → ∃ x':List α,x'.length = x.length ∧ L (n + 1) x kv i = L n x' (kv + c) (w64 (i + 1)))
    (he:∀ n x kv (i:Int),decide (i < (x.length:Int)) = false → L (n + 1) x kv i = some (kv,x)) (l:List α) (kv:Int) (n:Nat) (hl:l.length ≤ 1048576) (h0:0 ≤ kv) (h1:kv ≤ 68719476736) (hn:l.length < n) :
    ∃ x',L n l kv 0 = some (kv + c * l.length,x'):=by
 have key:∀ (m i n:Nat) (x:List α) (kv:Int),x.length = l.length → l.length - i = m → i ≤ l.length → m < n → 0 ≤ kv → kv + c * m ≤ 1099511627776 → ∃ x',L n x kv (i:Int) = some (kv + c * m,x'):=by
  intro m
  induction m with
  | zero =>
   intro i n x kv hx hm hi hn h0 h1
   obtain ⟨n,rfl⟩:∃ k,n = k + 1:=⟨n - 1,by omega⟩
   exact ⟨x,by rw [he n x kv i (by simp; omega)]; simp⟩
  | succ m ih =>
   intro i n x kv hx hm hi hn h0 h1
   obtain ⟨n,rfl⟩:∃ k,n = k + 1:=⟨n - 1,by omega⟩
   have hlt:i < x.length:=by omega
   have e:(c:Int) * ((m + 1:Nat):Int) = c * m + c:=by rw [show ((m + 1:Nat):Int) = (m:Int) + 1 by omega,Int.mul_add]; omega
   have hcm:0 ≤ (c:Int) * m:=Int.mul_nonneg (by omega) (by omega)
   obtain ⟨x',hx',h⟩:=hs n x kv i x[i] (ix_i hlt) (by simpa using hlt) h0 (by omega)
   rw [h,w64_s i (by omega)]
   obtain ⟨z,hz⟩:=ih (i + 1) n x' (kv + c) (by omega) (by omega) (by omega) (by omega) (by omega) (by omega)
   exact ⟨z,by rw [hz,e]; congr 2; omega⟩
 have hb:(c:Int) * (l.length:Int) ≤ 10 * 1048576:=Int.mul_le_mul (by omega) (by omega) (by omega) (by omega)
 exact key l.length 0 n l kv rfl (by omega) (by omega) hn h0 (by omega)
theorem markPairS (fu:Nat) (l:List Pair) (kv:Int) (hl:l.length ≤ 1048576) (h0:0 ≤ kv) (h1:kv ≤ 68719476736) (hn:l.length < fu):∃ x',d_laws_markPairS fu l kv = some (kv + 2 * l.length,x'):=by
 refine mark_loop 2 (by omega) (fun n x kv i=>d_laws_markPairS_L1 fu n x kv i) ?_ ?_ l kv fu hl h0 h1 hn
 · intro n x kv i y hy hd h0 h1
   have e1:w64 (kv + 1) = kv + 1:=w64_id (by omega) (by omega)
   have e2:w64 (kv + 1 + 1) = kv + 1 + 1:=w64_id (by omega) (by omega)
   have e':kv + 1 + 1 = kv + 2:=by omega
   refine ⟨?_,?_,?_⟩
   rotate_left 2
   · simp only [d_laws_markPairS_L1.eq_2]
     unfold d_laws_markPairS_L1_B
     simp only [hd,cond_true,hy,ob_some,ix_setx_eq,Option.map_some,e1,e2]
     rw [e']
     rfl
   · simp [setx_len]
 · intro n x kv i hd
   simp only [d_laws_markPairS_L1.eq_2]
   unfold d_laws_markPairS_L1_B
   simp only [hd,cond_false]
theorem markTypeS (fu:Nat) (l:List Typ) (kv:Int) (hl:l.length ≤ 1048576) (h0:0 ≤ kv) (h1:kv ≤ 68719476736) (hn:l.length < fu):∃ x',d_laws_markTypeS fu l kv = some (kv + 7 * l.length,x'):=by
 refine mark_loop 7 (by omega) (fun n x kv i=>d_laws_markTypeS_L1 fu n x kv i) ?_ ?_ l kv fu hl h0 h1 hn
 · intro n x kv i y hy hd h0 h1
   have e1:w64 (kv + 1) = kv + 1:=w64_id (by omega) (by omega)
   have e2:w64 (kv + 1 + 1) = kv + 1 + 1:=w64_id (by omega) (by omega)
   have e3:w64 (kv + 1 + 1 + 1) = kv + 1 + 1 + 1:=w64_id (by omega) (by omega)
   have e4:w64 (kv + 1 + 1 + 1 + 1) = kv + 1 + 1 + 1 + 1:=w64_id (by omega) (by omega)
   have e5:w64 (kv + 1 + 1 + 1 + 1 + 1) = kv + 1 + 1 + 1 + 1 + 1:=w64_id (by omega) (by omega)
   have e6:w64 (kv + 1 + 1 + 1 + 1 + 1 + 1) = kv + 1 + 1 + 1 + 1 + 1 + 1:=w64_id (by omega) (by omega)
   have e7:w64 (kv + 1 + 1 + 1 + 1 + 1 + 1 + 1) = kv + 1 + 1 + 1 + 1 + 1 + 1 + 1:=w64_id (by omega) (by omega)
   have e':kv + 1 + 1 + 1 + 1 + 1 + 1 + 1 = kv + 7:=by omega
   refine ⟨?_,?_,?_⟩
   rotate_left 2
   · simp only [d_laws_markTypeS_L1.eq_2]
     unfold d_laws_markTypeS_L1_B
     simp only [hd,cond_true,hy,ob_some,ix_setx_eq,Option.map_some,e1,e2,e3,e4,e5,e6,e7]
     rw [e']
     rfl
   · simp [setx_len]
 · intro n x kv i hd
   simp only [d_laws_markTypeS_L1.eq_2]
   unfold d_laws_markTypeS_L1_B
   simp only [hd,cond_false]
theorem markItemS (fu:Nat) (l:List Item) (kv:Int) (hl:l.length ≤ 1048576) (h0:0 ≤ kv) (h1:kv ≤ 68719476736) (hn:l.length < fu):∃ x',d_laws_markItemS fu l kv = some (kv + 7 * l.length,x'):=by
 refine mark_loop 7 (by omega) (fun n x kv i=>d_laws_markItemS_L1 fu n x kv i) ?_ ?_ l kv fu hl h0 h1 hn
 · intro n x kv i y hy hd h0 h1
   have e1:w64 (kv + 1) = kv + 1:=w64_id (by omega) (by omega)
   have e2:w64 (kv + 1 + 1) = kv + 1 + 1:=w64_id (by omega) (by omega)
   have e3:w64 (kv + 1 + 1 + 1) = kv + 1 + 1 + 1:=w64_id (by omega) (by omega)
   have e4:w64 (kv + 1 + 1 + 1 + 1) = kv + 1 + 1 + 1 + 1:=w64_id (by omega) (by omega)
   have e5:w64 (kv + 1 + 1 + 1 + 1 + 1) = kv + 1 + 1 + 1 + 1 + 1:=w64_id (by omega) (by omega)
   have e6:w64 (kv + 1 + 1 + 1 + 1 + 1 + 1) = kv + 1 + 1 + 1 + 1 + 1 + 1:=w64_id (by omega) (by omega)
   have e7:w64 (kv + 1 + 1 + 1 + 1 + 1 + 1 + 1) = kv + 1 + 1 + 1 + 1 + 1 + 1 + 1:=w64_id (by omega) (by omega)
   have e':kv + 1 + 1 + 1 + 1 + 1 + 1 + 1 = kv + 7:=by omega
   refine ⟨?_,?_,?_⟩
   rotate_left 2
   · simp only [d_laws_markItemS_L1.eq_2]
     unfold d_laws_markItemS_L1_B
     simp only [hd,cond_true,hy,ob_some,ix_setx_eq,Option.map_some,e1,e2,e3,e4,e5,e6,e7]
     rw [e']
     rfl
   · simp [setx_len]
 · intro n x kv i hd
   simp only [d_laws_markItemS_L1.eq_2]
   unfold d_laws_markItemS_L1_B
   simp only [hd,cond_false]
theorem markReq {fu:Nat} {r:Request} (h:Sm fu r) (kv:Int) (h0:0 ≤ kv) (h1:kv ≤ 1073741824):∃ k x',d_laws_markRequest fu r kv = some (k,x') ∧ 0 ≤ k ∧ k ≤ kv + 16777216:=by
 have hfu:=h.fu
 have a1:=h.items
 have a2:=h.types
 have a3:=h.pairs
 unfold d_laws_markRequest
 obtain ⟨x1,e1⟩:=markPairS fu r.fPairs kv a3 h0 (by omega) (by omega)
 rw [e1,ob_some]
 obtain ⟨x2,e2⟩:=markTypeS fu r.fTypes (kv + 2 * r.fPairs.length) a2 (by omega) (by omega) (by omega)
 rw [e2,ob_some]
 obtain ⟨x3,e3⟩:=markItemS fu r.fItems (kv + 2 * r.fPairs.length + 7 * r.fTypes.length) a1 (by omega) (by omega) (by omega)
 rw [e3,ob_some]
 exact ⟨_,_,rfl,by omega,by omega⟩
theorem markIntS (fu:Nat) (l:List Int) (kv:Int) (hl:l.length ≤ 1048576) (h0:0 ≤ kv) (h1:kv ≤ 68719476736) (hn:l.length < fu):d_laws_markIntS fu l kv = some (kv + l.length,ints kv l.length):=by
 unfold d_laws_markIntS
 have key:∀ (xs pre:List Int) (n:Nat) (k:Int),pre.length + xs.length = l.length → xs.length < n → 0 ≤ k → k + xs.length ≤ 1099511627776 →
     d_laws_markIntS_L1 fu n (pre ++ xs) k (pre.length:Int) = some (k + xs.length,pre ++ ints k xs.length):=by
  intro xs
  induction xs with
  | nil =>
   intro pre n k h hn h0 h1
   obtain ⟨n,rfl⟩:∃ j,n = j + 1:=⟨n - 1,by omega⟩
   rw [d_laws_markIntS_L1.eq_2]
   unfold d_laws_markIntS_L1_B
   rw [bif_false (by simp)]
   simp [ints]
  | cons x xs ih =>
   intro pre n k h hn h0 h1
   obtain ⟨n,rfl⟩:∃ j,n = j + 1:=⟨n - 1,by simp at hn; omega⟩
   simp only [List.length_cons] at h h1 hn
   rw [d_laws_markIntS_L1.eq_2]
   unfold d_laws_markIntS_L1_B
   have e:ix (pre ++ x :: xs) (pre.length:Int) = some x:=by rw [ix_nat]; simp
   rw [bif_true (by simp; omega),e,ob_some,w64_id (n:=k + 1) (by omega) (by omega),w64_s _ (by omega)]
   have e2:setx (pre ++ x :: xs) (pre.length:Int) k = (pre ++ [k]) ++ xs:=by simp [setx]
   have:=ih (pre ++ [k]) n (k + 1) (by simp; omega) (by omega) (by omega) (by omega)
   simp only [List.length_append,List.length_singleton] at this
   rw [e2,this]
   simp only [List.length_cons,ints,List.append_assoc,List.singleton_append]
   congr 2
   omega
 have:=key l [] fu kv (by simp) hn h0 (by omega)
 simpa using this
theorem ints_get:∀ (m:Nat) (a:Int) (i:Nat),i < m → (ints a m)[i]? = some (a + i)
 | 0,_,_,h=>by omega
 | m + 1,a,0,_=>by simp [ints]
 | m + 1,a,i + 1,h=>by
  simp only [ints,List.getElem?_cons_succ]
  rw [ints_get m (a + 1) i (by omega)]
  congr 1
  omega
theorem heldIntS (fu:Nat) (m:Nat) (kv:Int) (hl:m ≤ 1048576) (h0:0 ≤ kv) (h1:kv ≤ 68719476736) (hn:m < fu):d_laws_heldIntS fu (ints kv m) kv = some (kv + m):=by
 unfold d_laws_heldIntS
 have key:∀ (j i n:Nat),m - i = j → i ≤ m → j < n → d_laws_heldIntS_L1 fu (ints kv m) n (kv + i) (i:Int) = some (kv + m):=by
  intro j
  induction j with
  | zero =>
   intro i n hj hi hn
   obtain ⟨n,rfl⟩:∃ j,n = j + 1:=⟨n - 1,by omega⟩
   rw [d_laws_heldIntS_L1.eq_2]
   unfold d_laws_heldIntS_L1_B
   rw [bif_false (by rw [ints_len]; simp; omega)]
   congr 1
   omega
  | succ j ih =>
   intro i n hj hi hn
   obtain ⟨n,rfl⟩:∃ j,n = j + 1:=⟨n - 1,by omega⟩
   rw [d_laws_heldIntS_L1.eq_2]
   unfold d_laws_heldIntS_L1_B
   rw [bif_true (by rw [ints_len]; simp; omega),ix_nat,ints_get m kv i (by omega),ob_some,bif_false (by simp),w64_id (by omega) (by omega),w64_s _ (by omega)]
   have:=ih (i + 1) n (by omega) (by omega) (by omega)
   rw [← this]
   congr 1
   omega
 have:=key m 0 fu (by omega) (by omega) hn
 simpa using this
theorem eqIntS (fu:Nat) (l:List Int) (h:l.length ≤ 1048576) (hf:l.length < fu):d_laws_eqIntS fu l l = some true:=by
 unfold d_laws_eqIntS
 rw [bif_false (by simp)]
 refine eqS_loop l (fun n i=>d_laws_eqIntS_L1 fu l l n i) h ?_ ?_ fu hf
 · intro n i x hx hd
   simp only [d_laws_eqIntS_L1.eq_2]
   unfold d_laws_eqIntS_L1_B
   simp [hd,hx]
 · intro n i hd
   simp only [d_laws_eqIntS_L1.eq_2]
   unfold d_laws_eqIntS_L1_B
   simp only [hd,cond_false]
theorem eqIntSS (fu:Nat) (l:List (List Int)) (h:l.length ≤ 1048576) (hm:∀ x ∈ l,x.length ≤ 1048576) (hf:1048577 ≤ fu):d_laws_eqIntSS fu l l = some true:=by
 unfold d_laws_eqIntSS
 rw [bif_false (by simp)]
 refine eqS_loop l (fun n i=>d_laws_eqIntSS_L1 fu l l n i) h ?_ ?_ fu (by omega)
 · intro n i x hx hd
   have:=hm x (List.mem_of_getElem? (ix_some hx).2.2)
   simp only [d_laws_eqIntSS_L1.eq_2]
   unfold d_laws_eqIntSS_L1_B
   simp [hd,hx,eqIntS fu x this (by omega)]
 · intro n i hd
   simp only [d_laws_eqIntSS_L1.eq_2]
   unfold d_laws_eqIntSS_L1_B
   simp only [hd,cond_false]
def lens:List (List Int) → Nat
 | []=>0
 | x :: xs=>x.length + lens xs
def segs:Int → List (List Int) → List (List Int)
 | _,[]=>[]
 | k,x :: xs=>ints k x.length :: segs (k + x.length) xs
theorem segs_len:∀ (k:Int) (l:List (List Int)),(segs k l).length = l.length
 | _,[]=>rfl
 | k,x :: xs=>by simp [segs,segs_len]
theorem markIntSS (fu:Nat) (l:List (List Int)) (kv:Int) (hl:l.length ≤ 1048576) (hm:∀ x ∈ l,x.length ≤ 1048576) (hs:lens l ≤ 1073741824) (h0:0 ≤ kv) (h1:kv ≤ 1073741824) (hf:1048577 ≤ fu) :
    d_laws_markIntSS fu l kv = some (kv + lens l,segs kv l):=by
 unfold d_laws_markIntSS
 have key:∀ (xs pre:List (List Int)) (n:Nat) (k:Int),pre.length + xs.length = l.length → xs.length < n → 0 ≤ k → k + lens xs ≤ 2147483648 → (∀ x ∈ xs,x.length ≤ 1048576) →
     d_laws_markIntSS_L1 fu n (pre ++ xs) k (pre.length:Int) = some (k + lens xs,pre ++ segs k xs):=by
  intro xs
  induction xs with
  | nil =>
   intro pre n k h hn h0 h1 hm
   obtain ⟨n,rfl⟩:∃ j,n = j + 1:=⟨n - 1,by omega⟩
   rw [d_laws_markIntSS_L1.eq_2]
   unfold d_laws_markIntSS_L1_B
   rw [bif_false (by simp)]
   simp [segs,lens]
  | cons x xs ih =>
   intro pre n k h hn h0 h1 hm
   obtain ⟨n,rfl⟩:∃ j,n = j + 1:=⟨n - 1,by simp at hn; omega⟩
   simp only [List.length_cons,lens] at h h1 hn
   have hx:=hm x (by simp)
   rw [d_laws_markIntSS_L1.eq_2]
   unfold d_laws_markIntSS_L1_B
   have e:ix (pre ++ x :: xs) (pre.length:Int) = some x:=by rw [ix_nat]; simp
   rw [bif_true (by simp; omega),e,ob_some,markIntS fu x k hx h0 (by omega) (by omega),ob_some,w64_s _ (by omega)]
   have e2:setx (pre ++ x :: xs) (pre.length:Int) (ints k x.length) = (pre ++ [ints k x.length]) ++ xs:=by simp [setx]
   have:=ih (pre ++ [ints k x.length]) n (k + x.length) (by simp; omega) (by omega) (by omega) (by omega) (fun y hy=>hm y (by simp [hy]))
   simp only [List.length_append,List.length_singleton] at this
   rw [e2,this]
   simp only [segs,lens,List.append_assoc,List.singleton_append]
   congr 2
   omega
 have:=key l [] fu kv (by simp) (by omega) h0 (by omega) hm
 simpa using this
theorem heldIntSS (fu:Nat) (l:List (List Int)) (kv:Int) (hl:l.length ≤ 1048576) (hm:∀ x ∈ l,x.length ≤ 1048576) (hs:lens l ≤ 1073741824) (h0:0 ≤ kv) (h1:kv ≤ 1073741824) (hf:1048577 ≤ fu) :
    d_laws_heldIntSS fu (segs kv l) kv = some (kv + lens l):=by
 unfold d_laws_heldIntSS
 have hL:=segs_len kv l
 have key:∀ (xs:List (List Int)) (pre:List (List Int)) (n:Nat) (k:Int),segs kv l = pre ++ segs k xs → pre.length + xs.length = l.length → xs.length < n → 0 ≤ k → k + lens xs = kv + lens l → (∀ x ∈ xs,x.length ≤ 1048576) →
     d_laws_heldIntSS_L1 fu (segs kv l) n k (pre.length:Int) = some (kv + lens l):=by
  intro xs
  induction xs with
  | nil =>
   intro pre n k he h hn h0 h1 hm
   obtain ⟨n,rfl⟩:∃ j,n = j + 1:=⟨n - 1,by omega⟩
   rw [d_laws_heldIntSS_L1.eq_2]
   unfold d_laws_heldIntSS_L1_B
   simp only [List.length_nil,lens] at h h1
   rw [bif_false (by rw [hL]; simp; omega)]
   congr 1
   omega
  | cons x xs ih =>
   intro pre n k he h hn h0 h1 hm
   obtain ⟨n,rfl⟩:∃ j,n = j + 1:=⟨n - 1,by simp at hn; omega⟩
   simp only [List.length_cons,lens,segs] at h h1 hn he
   have hx:=hm x (by simp)
   rw [d_laws_heldIntSS_L1.eq_2]
   unfold d_laws_heldIntSS_L1_B
   have e:ix (segs kv l) (pre.length:Int) = some (ints k x.length):=by rw [ix_nat,he]; simp
   rw [bif_true (by rw [hL]; simp; omega),e,ob_some,heldIntS fu x.length k hx h0 (by omega) (by omega),ob_some,bif_false (by simp; omega),w64_s _ (by omega)]
   have:=ih (pre ++ [ints k x.length]) n (k + x.length) (by simp [he]) (by simp; omega) (by omega) (by omega) (by omega) (fun y hy=>hm y (by simp [hy]))
   simp only [List.length_append,List.length_singleton] at this
   exact this
 have:=key l [] fu kv rfl (by simp) (by omega) h0 rfl hm
 simpa using this
end Go.Proofs.YtcboeijpplllfaaGreat
