/- RenamedBP: plain lemmas, part 1. -/
import Derived.Test.YthkaklkinepfkaaGreatDoorRenamedBD
import Derived.Test.YthkaklkinepfkaaGreatDoorM1
set_option linter.unusedSimpArgs false
set_option linter.unusedVariables false
namespace Go.Proofs.YthkaklkinepfkaaGreatDoor
open Go
open Enc (rd ow)
open Arg (argv)
open Ret (retv)
open Wf (wf)
theorem s_places {fu:Nat} (n:Nat) (hn:n ≤ 1048576) (hf:n < fu):d_spec_l1Places fu (n:Int) = some (ints 0 n):=by
 unfold d_spec_l1Places
 have key:∀ (m i k:Nat),n - i = m → i ≤ n → m < k → d_spec_l1Places_L1 fu (n:Int) k (ints 0 i) (i:Int) = some (ints 0 n):=by
  intro m
  induction m with
  | zero =>
   intro i k hm hi hk
   obtain ⟨k,rfl⟩:∃ j,k = j + 1:=⟨k - 1,by omega⟩
   have:i = n:=by omega
   subst this
   rw [d_spec_l1Places_L1.eq_2]
   unfold d_spec_l1Places_L1_B
   simp
  | succ m ih =>
   intro i k hm hi hk
   obtain ⟨k,rfl⟩:∃ j,k = j + 1:=⟨k - 1,by omega⟩
   rw [d_spec_l1Places_L1.eq_2]
   unfold d_spec_l1Places_L1_B
   rw [bif_true (by simp; omega),ap1 (by rw [ints_len]; simp; omega),ob_some,w64_s i (by omega)]
   have e:=ints_snoc 0 i
   rw [Int.zero_add] at e
   rw [← e]
   exact ih (i + 1) k (by omega) (by omega) (by omega)
 exact key n 0 fu (by omega) (by omega) hf
def dk (keys:List Int) (down:Bool) (p:Int):Int:=bif down then - kf keys p else kf keys p
theorem kf_ix {keys:List Int} {p:Int} (h:0 ≤ p ∧ p < keys.length):ix keys p = some (kf keys p):=by
 have h1:p.toNat < keys.length:=by omega
 unfold kf ix
 rw [if_pos h.1,List.getElem?_eq_getElem h1]
 rfl
theorem s_mrg {fu:Nat} {keys a b:List Int} (down:Bool) (ha:∀ p ∈ a,0 ≤ p ∧ p < keys.length) (hb:∀ p ∈ b,0 ≤ p ∧ p < keys.length) (hla:a.length ≤ 1048576) (hlb:b.length ≤ 1048576) :
    ∀ (m:Nat) (n:Nat) (out:List Int) (i j:Nat),i ≤ a.length → j ≤ b.length → (a.length - i) + (b.length - j) = m → m < n → out.length + m ≤ 2097152 →
     d_spec_l1Merge_L1 fu keys down a b n out i j = some (out ++ mrg (dk keys down) (a.drop i) (b.drop j)):=by
 intro m
 induction m with
 | zero =>
  intro n out i j hi hj hm hn ho
  obtain ⟨n,rfl⟩:∃ k,n = k + 1:=⟨n - 1,by omega⟩
  rw [d_spec_l1Merge_L1.eq_2]
  unfold d_spec_l1Merge_L1_B
  rw [bif_false (by simp; omega),bif_false (by simp; omega),List.drop_of_length_le (show a.length ≤ i by omega),List.drop_of_length_le (show b.length ≤ j by omega)]
  simp [mrg]
 | succ m ih =>
  intro n out i j hi hj hm hn ho
  obtain ⟨n,rfl⟩:∃ k,n = k + 1:=⟨n - 1,by omega⟩
  have hL:d_spec_l1Merge_L1 fu keys down a b (n + 1) out i j = d_spec_l1Merge_J1 fu (d_spec_l1Merge_L1 fu keys down a b n) keys down a b out i j:=by
   rw [d_spec_l1Merge_L1.eq_2]
   unfold d_spec_l1Merge_L1_B
   by_cases h:i < a.length
   · rw [bif_true (by simpa using h)]
   · rw [bif_false (by simpa using h),bif_true (by simp; omega)]
  have tA:∀ (h:i < a.length),(apnd 8 out [a[i]]) = some (out ++ [a[i]]):=fun h=>ap1 (by simp; omega)
  have tB:∀ (h:j < b.length),(apnd 8 out [b[j]]) = some (out ++ [b[j]]):=fun h=>ap1 (by simp; omega)
  have nA:∀ (h:i < a.length),d_spec_l1Merge_L1 fu keys down a b n (out ++ [a[i]]) (w64 ((i:Int) + 1)) j = some (out ++ a[i] :: mrg (dk keys down) (a.drop (i + 1)) (b.drop j)):=fun h=>by
   rw [w64_s i (by omega),ih n (out ++ [a[i]]) (i + 1) j (by omega) hj (by omega) (by omega) (by simp; omega)]
   simp
  have nB:∀ (h:j < b.length),d_spec_l1Merge_L1 fu keys down a b n (out ++ [b[j]]) i (w64 ((j:Int) + 1)) = some (out ++ b[j] :: mrg (dk keys down) (a.drop i) (b.drop (j + 1))):=fun h=>by
   rw [w64_s j (by omega),ih n (out ++ [b[j]]) i (j + 1) hi (by omega) (by omega) (by omega) (by simp; omega)]
   simp
  rw [hL]
  unfold d_spec_l1Merge_J1
  by_cases hjb:j = b.length
  · have h:i < a.length:=by omega
    rw [bif_true (by simp [hjb]),ix_i h,ob_some,tA h,ob_some,nA h,List.drop_of_length_le (show b.length ≤ j by omega),mrg_nil,mrg_nil,← List.drop_eq_getElem_cons h]
  · have hj':j < b.length:=by omega
    rw [bif_false (by simp; omega)]
    by_cases hia:i = a.length
    · rw [bif_true (by simp [hia]),ix_i hj',ob_some,tB hj',ob_some,nB hj',List.drop_of_length_le (show a.length ≤ i by omega)]
      have e1:∀ l,mrg (dk keys down) [] l = l:=fun l=>by rw [mrg]
      rw [e1,e1,← List.drop_eq_getElem_cons hj']
    · have hi':i < a.length:=by omega
      rw [bif_false (by simp; omega)]
      simp only [ix_i hi',ix_i hj',ob_some,kf_ix (ha _ (List.getElem_mem hi')),kf_ix (hb _ (List.getElem_mem hj')),tA hi',tB hj',nA hi',nB hj']
      rw [List.drop_eq_getElem_cons hi',List.drop_eq_getElem_cons hj',mrg_cons,← List.drop_eq_getElem_cons hi',← List.drop_eq_getElem_cons hj']
      have hx:dk keys down a[i] = bif down then - kf keys a[i] else kf keys a[i]:=rfl
      have hy:dk keys down b[j] = bif down then - kf keys b[j] else kf keys b[j]:=rfl
      rw [hx,hy]
      generalize kf keys a[i] = x
      generalize kf keys b[j] = y
      cases down
      · by_cases hc:y < x
        · rw [if_pos (by simpa using hc)]; simp [hc]
        · rw [if_neg (by simpa using hc)]
          have:decide (y > x) = true ∨ decide (y > x) = false:=by cases decide (y > x) <;> simp
          rcases this with h | h <;> simp [hc,h]
      · by_cases hc:x < y
        · have h:¬ y < x:=by omega
          rw [if_pos (by simpa using hc)]; simp [hc,h]
        · rw [if_neg (by simpa using hc)]
          have h:decide (y < x) = true ∨ decide (y < x) = false:=by cases decide (y < x) <;> simp
          rcases h with h | h <;> simp [hc,h]
theorem s_msrR {fu:Nat} {keys:List Int} (down:Bool) (hfu:2097153 ≤ fu):∀ (n:Nat) (l:List Int),l.length ≤ n → l.length ≤ 1048576 → (∀ p ∈ l,0 ≤ p ∧ p < keys.length) →
    d_spec_l1Merge_R fu (n + 1) keys l down = some (msr (dk keys down) (n + 1) l)
 | n,l,hn,hl,hm=>by
  rw [d_spec_l1Merge_R.eq_2]
  unfold d_spec_l1Merge_RB msr
  by_cases h2:l.length < 2
  · rw [bif_true (by simp; omega),if_pos h2,ap1 (by simp; omega)]; rfl
  · rw [bif_false (by simp; omega),if_neg h2]
    have hd:Int.tdiv (l.length:Int) 2 = ((l.length / 2:Nat):Int):=by simp [Int.tdiv]
    obtain ⟨n,rfl⟩:∃ k,n = k + 1:=⟨n - 1,by omega⟩
    rw [hd,w64_id (by omega) (by omega),sls_some (by omega),sls_some (by omega),ob_some]
    simp only [Int.toNat_natCast,Int.toNat_zero,List.drop_zero,Nat.sub_zero,ob_some]
    rw [s_msrR down hfu n (l.take (l.length / 2)) (by rw [List.length_take]; omega) (by rw [List.length_take]; omega) (fun p hp=>hm p (List.mem_of_mem_take hp)),ob_some]
    have e:(l.drop (l.length / 2)).take (l.length - l.length / 2) = l.drop (l.length / 2):=List.take_of_length_le (by rw [List.length_drop]; omega)
    rw [e,s_msrR down hfu n (l.drop (l.length / 2)) (by rw [List.length_drop]; omega) (by rw [List.length_drop]; omega) (fun p hp=>hm p (List.mem_of_mem_drop hp)),ob_some]
    have hp1:=(msr_perm (dk keys down) (n + 1) (l.take (l.length / 2)))
    have hp2:=(msr_perm (dk keys down) (n + 1) (l.drop (l.length / 2)))
    have l1:=hp1.length_eq
    have l2:=hp2.length_eq
    rw [List.length_take] at l1
    rw [List.length_drop] at l2
    rw [show (0:Int) = ((0:Nat):Int) from rfl]
    rw [s_mrg down (fun p hp=>hm p (List.mem_of_mem_take (hp1.mem_iff.1 hp))) (fun p hp=>hm p (List.mem_of_mem_drop (hp2.mem_iff.1 hp))) (by omega) (by omega) _ fu [] 0 0 (by omega) (by omega) rfl (by omega) (by simp; omega)]
    simp
theorem s_up {fu:Nat} {keys:List Int} (hfu:2097153 ≤ fu) (hl:keys.length ≤ 1048576):d_spec_SortUp fu keys = some (srt (kf keys) keys.length):=by
 unfold d_spec_SortUp d_spec_l1Merge
 rw [s_places keys.length hl (by omega),ob_some]
 obtain ⟨m,rfl⟩:∃ m,fu = m + 1:=⟨fu - 1,by omega⟩
 rw [s_msrR false hfu m _ (by rw [ints_len]; omega) (by rw [ints_len]; omega) (fun p hp=>by have:=ints_mem.1 hp; omega),ob_some]
 congr 1
 have e:dk keys false = kf keys:=rfl
 rw [e]
 exact srt_uniq (msr_perm _ _ _) (msr_sorted _ _ _ (by rw [ints_len]; omega) (ints_lt _ _))
structure Sm (fu:Nat) (r:Request):Prop where
 fu:2097153 ≤ fu
 pairs:r.fPairs.length ≤ 1048576
 types:r.fTypes.length ≤ 1048576
 items:r.fItems.length ≤ 1048576
theorem s_in (fu:Nat) (n lo hi:Int):d_spec_l1In fu n lo hi = some (inb n lo hi):=by
 unfold d_spec_l1In inb
 by_cases h:lo ≤ n
 · simp [h]
 · simp [h]
theorem i_in (fu:Nat) (n lo hi:Int):d_impl_in fu n lo hi = some (inb n lo hi):=s_in fu n lo hi
theorem s_side (fu:Nat) (n:Int):d_spec_l2Side fu n = some (inb n 1 2000):=by unfold d_spec_l2Side; rw [s_in]; rfl
theorem s_id (fu:Nat) (n:Int):d_spec_l2Id fu n = some (inb n 0 999):=by unfold d_spec_l2Id; rw [s_in]; rfl
theorem i_side (fu:Nat) (n:Int):d_impl_isSide fu n = some (inb n 1 2000):=by unfold d_impl_isSide; rw [i_in]; rfl
theorem s_pal (fu:Nat) (p:Pallet):d_spec_PalletOk fu p = some (palB p):=by
 unfold d_spec_PalletOk palB
 simp only [s_side,s_in,ob_some]
 cases inb p.fW 1 2000 <;> cases inb p.fD 1 2000 <;> cases inb p.fH 1 2000 <;> rfl
theorem i_pal (fu:Nat) (p:Pallet):d_impl_PalletOk fu p = some (palB p):=by
 unfold d_impl_PalletOk palB
 simp only [i_side,i_in,ob_some]
 cases inb p.fW 1 2000 <;> cases inb p.fD 1 2000 <;> cases inb p.fH 1 2000 <;> rfl
theorem s_typ (fu:Nat) (t:Typ):d_spec_TypeOk fu t = some (typB t):=by
 unfold d_spec_TypeOk typB
 simp only [s_side,s_in,s_id,ob_some]
 cases inb t.fId 0 999 <;> cases inb t.fW 1 2000 <;> cases inb t.fH 1 2000 <;> cases inb t.fD 1 2000 <;> cases inb t.fTare 0 100000 <;> cases inb t.fGram 1 100000 <;> rfl
theorem i_typ (fu:Nat) (t:Typ):d_impl_TypeOk fu t = some (typB t):=by
 unfold d_impl_TypeOk typB
 simp only [i_side,i_in,ob_some]
 cases inb t.fId 0 999 <;> cases inb t.fW 1 2000 <;> cases inb t.fH 1 2000 <;> cases inb t.fD 1 2000 <;> cases inb t.fTare 0 100000 <;> cases inb t.fGram 1 100000 <;> rfl
theorem s_itm (fu:Nat) (t:Item):d_spec_ItemOk fu t = some (itmB t):=by
 unfold d_spec_ItemOk itmB
 simp only [s_side,s_in,s_id,ob_some]
 cases inb t.fId 0 999 <;> cases inb t.fW 1 2000 <;> cases inb t.fH 1 2000 <;> cases inb t.fD 1 2000 <;> cases inb t.fGram 1 100000 <;> cases inb t.fClass 0 3 <;> rfl
theorem i_itm (fu:Nat) (t:Item):d_impl_ItemOk fu t = some (itmB t):=by
 unfold d_impl_ItemOk itmB
 simp only [i_side,i_in,ob_some]
 cases inb t.fId 0 999 <;> cases inb t.fW 1 2000 <;> cases inb t.fH 1 2000 <;> cases inb t.fD 1 2000 <;> cases inb t.fGram 1 100000 <;> cases inb t.fClass 0 3 <;> rfl
def cntF:List Item → Int → Option Bool
 | [],n=>some (decide (n ≤ 12))
 | x :: xs,n=>bif !itmB x then some false else cntF xs (w64 (n + x.fCount))
theorem cntF_eq:∀ (l:List Item) (n:Int),0 ≤ n → n + 6 * l.length ≤ 4611686018427387904 → cntF l n = some (l.all itmB && decide (n + sumI (l.map (·.fCount)) ≤ 12))
 | [],n,_,_=>by simp [cntF]
 | x :: xs,n,h0,h1=>by
  unfold cntF
  cases hx:itmB x
  · simp [hx]
  · have hc:=hx
    simp only [itmB,Bool.and_eq_true,inb_iff] at hc
    have hc:=hc.2.2.2.2.2.2
    simp only [List.length_cons] at h1
    rw [w64_id (by omega) (by omega)]
    simp only [Bool.not_true,cond_false]
    rw [cntF_eq xs (n + x.fCount) (by omega) (by omega)]
    simp only [List.all_cons,hx,Bool.true_and,List.map_cons,sumI_cons,Int.add_assoc]
theorem s_bou {fu:Nat} {r:Request} (h:Sm fu r):d_spec_BoundsOk fu r = some (bouB r):=by
 have hfu:=h.fu
 have h7:r.fItems.length ≤ 8 → d_spec_BoundsOk_L1 fu r fu 0 0 = some (r.fItems.all itmB && decide (sumI (r.fItems.map (·.fCount)) ≤ 12)):=by
  intro h8
  rw [lp r.fItems (fun n s i=>d_spec_BoundsOk_L1 fu r n s i) cntF (by have:=h.items; omega) ?_ ?_ fu 0 (by have:=h.items; omega),cntF_eq _ _ (by omega) (by have:=h.items; omega)]
  · simp
  · intro n s i x xs hx hd ih
    simp only [d_spec_BoundsOk_L1.eq_2]
    unfold d_spec_BoundsOk_L1_B
    simp only [hd,cond_true,hx,ob_some,s_itm,ih]
    rfl
  · intro n s i hd
    simp only [d_spec_BoundsOk_L1.eq_2]
    unfold d_spec_BoundsOk_L1_B
    simp only [hd,cond_false]
    rfl
 have h6:∀ b:Bool,(d_spec_BoundsOk_L1 fu r fu 0 0 = some b) → d_spec_BoundsOk_L2 fu r fu 0 = some (r.fTypes.all typB && b):=by
  intro b hb
  refine lp r.fTypes (fun n (_:Unit) i=>d_spec_BoundsOk_L2 fu r n i) (fun l _=>some (l.all typB && b)) (by have:=h.types; omega) ?_ ?_ fu () (by have:=h.types; omega)
  · intro n s i x xs hx hd ih
    simp only [d_spec_BoundsOk_L2.eq_2]
    unfold d_spec_BoundsOk_L2_B
    simp only [hd,cond_true,hx,ob_some,s_typ,ih (),List.all_cons]
    cases typB x <;> rfl
  · intro n s i hd
    simp only [d_spec_BoundsOk_L2.eq_2]
    unfold d_spec_BoundsOk_L2_B
    simp only [hd,cond_false,hb]
    rfl
 have h4:∀ b:Bool,(d_spec_BoundsOk_L2 fu r fu 0 = some b) → d_spec_BoundsOk_L3 fu r fu 0 = some (r.fPairs.all prB && b):=by
  intro b hb
  refine lp r.fPairs (fun n (_:Unit) i=>d_spec_BoundsOk_L3 fu r n i) (fun l _=>some (l.all prB && b)) (by have:=h.pairs; omega) ?_ ?_ fu () (by have:=h.pairs; omega)
  · intro n s i x xs hx hd ih
    simp only [d_spec_BoundsOk_L3.eq_2]
    unfold d_spec_BoundsOk_L3_B d_spec_BoundsOk_J1
    simp only [hd,cond_true,hx,ob_some,s_in,ih ()]
    simp only [List.all_cons,prB]
    cases inb x.fA 0 3 <;> cases inb x.fB 0 3 <;> rfl
  · intro n s i hd
    simp only [d_spec_BoundsOk_L3.eq_2]
    unfold d_spec_BoundsOk_L3_B
    simp only [hd,cond_false,hb]
    rfl
 unfold d_spec_BoundsOk d_spec_BoundsOk_J2 bouB
 simp only [s_in,s_id,s_pal,ob_some]
 by_cases h8:r.fItems.length ≤ 8
 · rw [h4 _ (h6 _ (h7 h8))]
   have e8:decide ((r.fItems.length:Int) > 8) = false:=by simp; omega
   rw [e8]
   by_cases hp:r.fPairs.length ≤ 16
   · have e16:decide ((r.fPairs.length:Int) > 16) = false:=by simp; omega
     rw [e16]
     simp only [hp,h8,decide_true,cond_false,Bool.and_true]
     cases inb r.fWay 0 1 <;> cases palB r.fPallet <;> cases inb r.fClasses 1 4 <;> cases inb (r.fTypes.length:Int) 1 5 <;> cases inb r.fMaster 0 999 <;> simp <;> cases r.fPairs.all prB <;> cases r.fTypes.all typB <;> rfl
   · have e16:decide ((r.fPairs.length:Int) > 16) = true:=by simp; omega
     rw [e16]
     simp only [hp,decide_false,cond_true]
     cases inb r.fWay 0 1 <;> cases palB r.fPallet <;> cases inb r.fClasses 1 4 <;> simp
 · have e8:decide ((r.fItems.length:Int) > 8) = true:=by simp; omega
   rw [e8]
   simp only [h8,decide_false,cond_true,Bool.and_false,Bool.false_and]
   cases inb r.fWay 0 1 <;> cases palB r.fPallet <;> cases inb r.fClasses 1 4 <;> simp
def fndI {α:Type} (g:α → Bool):List α → Int → Int
 | [],_=>-1
 | x :: xs,i=>bif g x then i else fndI g xs (i + 1)
theorem fndI_any {α:Type} (g:α → Bool):∀ (l:List α) (i:Int),0 ≤ i → decide (fndI g l i ≥ 0) = l.any g
 | [],i,_=>rfl
 | x :: xs,i,h=>by
  simp only [fndI,List.any_cons]
  by_cases hx:g x = true
  · simpa [hx] using h
  · simpa [hx] using fndI_any g xs (i + 1) (by omega)
theorem fndI_find {α:Type} (g:α → Bool):∀ (l pre:List α) ,(fndI g l pre.length < 0 ∧ l.find? g = none) ∨ (0 ≤ fndI g l pre.length ∧ ∃ x,l.find? g = some x ∧ ix (pre ++ l) (fndI g l pre.length) = some x)
 | [],pre=>.inl ⟨by simp [fndI],rfl⟩
 | x :: xs,pre=>by
  simp only [fndI]
  cases hx:g x
  · have:=fndI_find g xs (pre ++ [x])
    simp only [List.length_append,List.length_singleton,List.append_assoc,List.singleton_append] at this
    simpa [List.find?_cons,hx] using this
  · refine .inr ⟨by simp,x,by simp [hx],?_⟩
    rw [cond_true,ix_nat]
    simp
theorem idx_loop {α:Type} (l:List α) (L:Nat → Int → Option Int) (g:α → Bool) (hl:l.length ≤ 1099511627776)
    (hs:∀ n (i:Int) x,ix l i = some x → decide (i < (l.length:Int)) = true → L (n + 1) i = bif g x then some i else L n (w64 (i + 1)))
    (he:∀ n (i:Int),decide (i < (l.length:Int)) = false → L (n + 1) i = some (-1)) (n:Nat) (hn:l.length < n):L n 0 = some (fndI g l 0):=by
 have key:∀ (m i n:Nat),l.length - i = m → i ≤ l.length → m < n → L n (i:Int) = some (fndI g (l.drop i) i):=by
  intro m
  induction m with
  | zero =>
   intro i n hm hi hn
   obtain ⟨n,rfl⟩:∃ k,n = k + 1:=⟨n - 1,by omega⟩
   rw [List.drop_of_length_le (by omega),he n i (by simp; omega)]
   rfl
  | succ m ih =>
   intro i n hm hi hn
   obtain ⟨n,rfl⟩:∃ k,n = k + 1:=⟨n - 1,by omega⟩
   have hlt:i < l.length:=by omega
   rw [hs n i _ (ix_i hlt) (by simpa using hlt),List.drop_eq_getElem_cons hlt]
   simp only [fndI]
   cases g l[i]
   · rw [cond_false,cond_false,w64_s i (by omega)]
     have:=ih (i + 1) n (by omega) (by omega) (by omega)
     simpa using this
   · rfl
 simpa using key l.length 0 n (by omega) (by omega) hn
theorem i_idxTyp {fu:Nat} {l:List Typ} (f:Typ → Option Bool) (g:Typ → Bool) (hg:∀ x ∈ l,f x = some (g x)) (hl:l.length ≤ 1048576) (hf:l.length < fu):d_slices_IndexFunc_impl_Type_impl_Type fu l f = some (fndI g l 0):=by
 unfold d_slices_IndexFunc_impl_Type_impl_Type
 refine idx_loop l (fun n i=>d_slices_IndexFunc_impl_Type_impl_Type_L1 fu l f n i) g (by omega) ?_ ?_ fu hf
 · intro n i x hx hd
   simp only [d_slices_IndexFunc_impl_Type_impl_Type_L1.eq_2]
   unfold d_slices_IndexFunc_impl_Type_impl_Type_L1_B
   simp only [hd,cond_true,hx,ob_some,hg x (ix_mem hx)]
 · intro n i hd
   simp only [d_slices_IndexFunc_impl_Type_impl_Type_L1.eq_2]
   unfold d_slices_IndexFunc_impl_Type_impl_Type_L1_B
   simp only [hd,cond_false]
theorem i_anyTyp {fu:Nat} {l:List Typ} (f:Typ → Option Bool) (g:Typ → Bool) (hg:∀ x ∈ l,f x = some (g x)) (hl:l.length ≤ 1048576) (hf:l.length < fu):d_slices_ContainsFunc_impl_Type_impl_Type fu l f = some (l.any g):=by
 unfold d_slices_ContainsFunc_impl_Type_impl_Type
 rw [i_idxTyp f g hg hl hf,ob_some,fndI_any g l 0 (by omega)]
theorem i_idxPair {fu:Nat} {l:List Pair} (f:Pair → Option Bool) (g:Pair → Bool) (hg:∀ x ∈ l,f x = some (g x)) (hl:l.length ≤ 1048576) (hf:l.length < fu):d_slices_IndexFunc_impl_Pair_impl_Pair fu l f = some (fndI g l 0):=by
 unfold d_slices_IndexFunc_impl_Pair_impl_Pair
 refine idx_loop l (fun n i=>d_slices_IndexFunc_impl_Pair_impl_Pair_L1 fu l f n i) g (by omega) ?_ ?_ fu hf
 · intro n i x hx hd
   simp only [d_slices_IndexFunc_impl_Pair_impl_Pair_L1.eq_2]
   unfold d_slices_IndexFunc_impl_Pair_impl_Pair_L1_B
   simp only [hd,cond_true,hx,ob_some,hg x (ix_mem hx)]
 · intro n i hd
   simp only [d_slices_IndexFunc_impl_Pair_impl_Pair_L1.eq_2]
   unfold d_slices_IndexFunc_impl_Pair_impl_Pair_L1_B
   simp only [hd,cond_false]
theorem i_anyPair {fu:Nat} {l:List Pair} (f:Pair → Option Bool) (g:Pair → Bool) (hg:∀ x ∈ l,f x = some (g x)) (hl:l.length ≤ 1048576) (hf:l.length < fu):d_slices_ContainsFunc_impl_Pair_impl_Pair fu l f = some (l.any g):=by
 unfold d_slices_ContainsFunc_impl_Pair_impl_Pair
 rw [i_idxPair f g hg hl hf,ob_some,fndI_any g l 0 (by omega)]
theorem i_idxItem {fu:Nat} {l:List Item} (f:Item → Option Bool) (g:Item → Bool) (hg:∀ x ∈ l,f x = some (g x)) (hl:l.length ≤ 1048576) (hf:l.length < fu):d_slices_IndexFunc_impl_Item_impl_Item fu l f = some (fndI g l 0):=by
 unfold d_slices_IndexFunc_impl_Item_impl_Item
 refine idx_loop l (fun n i=>d_slices_IndexFunc_impl_Item_impl_Item_L1 fu l f n i) g (by omega) ?_ ?_ fu hf
 · intro n i x hx hd
   simp only [d_slices_IndexFunc_impl_Item_impl_Item_L1.eq_2]
   unfold d_slices_IndexFunc_impl_Item_impl_Item_L1_B
   simp only [hd,cond_true,hx,ob_some,hg x (ix_mem hx)]
 · intro n i hd
   simp only [d_slices_IndexFunc_impl_Item_impl_Item_L1.eq_2]
   unfold d_slices_IndexFunc_impl_Item_impl_Item_L1_B
   simp only [hd,cond_false]
theorem i_anyItem {fu:Nat} {l:List Item} (f:Item → Option Bool) (g:Item → Bool) (hg:∀ x ∈ l,f x = some (g x)) (hl:l.length ≤ 1048576) (hf:l.length < fu):d_slices_ContainsFunc_impl_Item_impl_Item fu l f = some (l.any g):=by
 unfold d_slices_ContainsFunc_impl_Item_impl_Item
 rw [i_idxItem f g hg hl hf,ob_some,fndI_any g l 0 (by omega)]
theorem i_bou {fu:Nat} {r:Request} (h:Sm fu r):d_impl_BoundsOk fu r = some (bouB r):=by
 have hfu:=h.fu
 have h1:=h.items
 have h2:=h.types
 have h3:=h.pairs
 have e3:d_impl_BoundsOk_L1 fu r fu 0 0 = some (r.fItems.all itmB && decide (sumI (r.fItems.map (·.fCount)) ≤ 12)):=by
  rw [lp r.fItems (fun n s i=>d_impl_BoundsOk_L1 fu r n s i) cntF (by omega) ?_ ?_ fu 0 (by omega),cntF_eq _ _ (by omega) (by omega)]
  · simp
  · intro n s i x xs hx hd ih
    simp only [d_impl_BoundsOk_L1.eq_2]
    unfold d_impl_BoundsOk_L1_B
    simp only [hd,cond_true,hx,ob_some,i_itm,ih]
    rfl
  · intro n s i hd
    simp only [d_impl_BoundsOk_L1.eq_2]
    unfold d_impl_BoundsOk_L1_B
    simp only [hd,cond_false]
    rfl
 have ep:d_slices_ContainsFunc_impl_Pair_impl_Pair fu r.fPairs (fun y34=>d_impl_BoundsOk_1 fu y34) = some (!(r.fPairs.all prB)):=by
  rw [i_anyPair _ (fun p=>!prB p) (fun p _=>by
   unfold d_impl_BoundsOk_1 prB
   simp only [i_in,ob_some]
   cases inb p.fA 0 3 <;> rfl) h3 (by omega)]
  simp [List.not_all_eq_any_not]
 have et:d_slices_ContainsFunc_impl_Type_impl_Type fu r.fTypes (fun y34=>d_impl_BoundsOk_2 fu y34) = some (!(r.fTypes.all typB)):=by
  rw [i_anyTyp _ (fun p=>!typB p) (fun p _=>by
   unfold d_impl_BoundsOk_2
   rw [i_typ]; rfl) h2 (by omega)]
  simp [List.not_all_eq_any_not]
 unfold d_impl_BoundsOk d_impl_BoundsOk_J2 d_impl_BoundsOk_J1 bouB
 rw [e3,ep,et]
 simp only [i_in,i_pal,ob_some]
 have e8:decide ((r.fItems.length:Int) > 8) = !decide (r.fItems.length ≤ 8):=by
  by_cases hh:r.fItems.length ≤ 8
  · have:¬ ((r.fItems.length:Int) > 8):=by omega
    simp [hh,this]
  · have:(r.fItems.length:Int) > 8:=by omega
    simp [hh,this]
 have e16:decide ((r.fPairs.length:Int) > 16) = !decide (r.fPairs.length ≤ 16):=by
  by_cases hh:r.fPairs.length ≤ 16
  · have:¬ ((r.fPairs.length:Int) > 16):=by omega
    simp [hh,this]
  · have:(r.fPairs.length:Int) > 16:=by omega
    simp [hh,this]
 rw [e8,e16]
 cases inb r.fWay 0 1 <;> cases palB r.fPallet <;> cases inb r.fClasses 1 4 <;> cases decide (r.fPairs.length ≤ 16) <;> cases r.fPairs.all prB <;> cases inb (r.fTypes.length:Int) 1 5 <;> cases r.fTypes.all typB <;> cases inb r.fMaster 0 999 <;> cases decide (r.fItems.length ≤ 8) <;> rfl
theorem lpP {σ α β:Type} (l:List α) (L:Nat → σ → Int → Option β) (F:List α → List α → σ → Option β) (hl:l.length ≤ 1099511627776)
    (hs:∀ n s pre x xs,l = pre ++ x :: xs → ix l (pre.length:Int) = some x → decide ((pre.length:Int) < (l.length:Int)) = true → (∀ s',L n s' (w64 ((pre.length:Int) + 1)) = F (pre ++ [x]) xs s') → L (n + 1) s (pre.length:Int) = F pre (x :: xs) s)
    (he:∀ n s,decide ((l.length:Int) < (l.length:Int)) = false → L (n + 1) s (l.length:Int) = F l [] s):∀ n s,l.length < n → L n s 0 = F [] l s:=by
 have key:∀ (xs pre:List α) (n:Nat) (s:σ),l = pre ++ xs → xs.length < n → L n s (pre.length:Int) = F pre xs s:=by
  intro xs
  induction xs with
  | nil =>
   intro pre n s he' hn
   obtain ⟨n,rfl⟩:∃ k,n = k + 1:=⟨n - 1,by omega⟩
   simp only [List.append_nil] at he'
   subst he'
   exact he n s (by simp)
  | cons x xs ih =>
   intro pre n s he' hn
   obtain ⟨n,rfl⟩:∃ k,n = k + 1:=⟨n - 1,by simp at hn; omega⟩
   have hlen:l.length = pre.length + (xs.length + 1):=by rw [he']; simp
   refine hs n s pre x xs he' ?_ (by simp; omega) fun s'=>?_
   · rw [ix_nat,he']; simp
   · rw [w64_s _ (by omega)]
     have:=ih (pre ++ [x]) n s' (by simp [he']) (by simp at hn; omega)
     simpa using this
 intro n s hn
 simpa using key l [] n s rfl hn
theorem ix_app {α:Type} {pre rest:List α} {i:Int} {y:α} (h:ix pre i = some y):ix (pre ++ rest) i = some y:=by
 obtain ⟨h0,h1,h2⟩:=ix_some h
 unfold ix
 rw [if_pos h0,List.getElem?_append_left (by omega),h2]
theorem ibeq (a b:Int):(a == b) = (b == a):=Bool.eq_iff_iff.2 (by simp only [beq_iff_eq]; exact ⟨Eq.symm,Eq.symm⟩)
theorem i_typById {fu:Nat} {r:Request} (h:Sm fu r) (id:Int):d_impl_TypeById fu r id = some (othM (typM r id)):=by
 have hfu:=h.fu
 have ht:=h.types
 unfold d_impl_TypeById typM
 rw [i_idxTyp (fun y24=>d_impl_TypeById_1 fu y24 id) (fun t=>t.fId == id) (fun t _=>rfl) ht (by omega),ob_some]
 rcases fndI_find (fun t:Typ=>t.fId == id) r.fTypes [] with ⟨h1,h2⟩ | ⟨h1,x,h2,h3⟩
 · simp only [List.length_nil] at h1
   rw [bif_true (by simpa using h1),h2]; rfl
 · simp only [List.length_nil,List.nil_append] at h1 h3
   rw [bif_false (by simpa using h1),h2]
   have h3':ix r.fTypes (fndI (fun t=>t.fId == id) r.fTypes 0) = some x:=h3
   rw [h3']; rfl
theorem s_mas {fu:Nat} {r:Request} (h:Sm fu r):d_spec_MasterOf fu r = some (othM (typM r r.fMaster)):=by
 have hfu:=h.fu
 have ht:=h.types
 unfold d_spec_MasterOf typM
 refine lp r.fTypes (fun n (_:Unit) i=>d_spec_MasterOf_L1 fu r n i) (fun l _=>some (othM (l.find? fun t=>t.fId == r.fMaster))) (by omega) ?_ ?_ fu () (by omega)
 · intro n s i x xs hx hd ih
   simp only [d_spec_MasterOf_L1.eq_2]
   unfold d_spec_MasterOf_L1_B
   simp only [hd,cond_true,hx,ob_some,ih (),List.find?_cons]
   cases x.fId == r.fMaster <;> rfl
 · intro n s i hd
   simp only [d_spec_MasterOf_L1.eq_2]
   unfold d_spec_MasterOf_L1_B
   simp only [hd,cond_false]
   rfl
theorem i_mas {fu:Nat} {r:Request} (h:Sm fu r):d_impl_MasterOf fu r = some (othM (typM r r.fMaster)):=by
 unfold d_impl_MasterOf
 rw [i_typById h]; rfl
theorem othM_2 (o:Option Typ):(othM o).2 = o.isSome:=by cases o <;> rfl
theorem s_nam {fu:Nat} {r:Request} (h:Sm fu r):d_spec_l5Names fu r = some (namB r):=by
 have hfu:=h.fu
 have h1:=h.items
 have h2:=h.types
 have h3:=h.pairs
 have e11:d_spec_l5Names_L3 fu r fu 0 = some (!(r.fPairs.any fun p=>decide (p.fA ≥ r.fClasses) || decide (p.fB ≥ r.fClasses)) && (typM r r.fMaster).isSome):=by
  refine lp r.fPairs (fun n (_:Unit) i=>d_spec_l5Names_L3 fu r n i) (fun l _=>some (!(l.any fun p=>decide (p.fA ≥ r.fClasses) || decide (p.fB ≥ r.fClasses)) && (typM r r.fMaster).isSome)) (by omega) ?_ ?_ fu () (by omega)
  · intro n s i x xs hx hd ih
    simp only [d_spec_l5Names_L3.eq_2]
    unfold d_spec_l5Names_L3_B d_spec_l5Names_J1
    simp only [hd,cond_true,hx,ob_some,ih (),List.any_cons]
    cases decide (x.fA ≥ r.fClasses) <;> cases decide (x.fB ≥ r.fClasses) <;> rfl
  · intro n s i hd
    simp only [d_spec_l5Names_L3.eq_2]
    unfold d_spec_l5Names_L3_B
    simp only [hd,cond_false,s_mas h,ob_some,othM_2]
    rfl
 have e7:∀ b,d_spec_l5Names_L3 fu r fu 0 = some b → d_spec_l5Names_L4 fu r fu 0 = some (nodC r.fClasses [] r.fItems && b):=by
  intro b hb
  refine lpP r.fItems (fun n (_:Unit) i=>d_spec_l5Names_L4 fu r n i) (fun pre l _=>some (nodC r.fClasses pre l && b)) (by omega) ?_ ?_ fu () (by omega)
  · intro n s pre x xs hl hx hd ih
    simp only [d_spec_l5Names_L4.eq_2]
    unfold d_spec_l5Names_L4_B
    simp only [hd,cond_true,hx,ob_some,nodC]
    cases hc:decide (x.fClass ≥ r.fClasses)
    · have hpl:pre.length ≤ r.fItems.length:=by rw [hl]; simp
      have e8:d_spec_l5Names_L2 fu (fun i=>d_spec_l5Names_L4 fu r n i) r (pre.length:Int) fu 0 = bif pre.any (fun y=>y.fId == x.fId) then some false else d_spec_l5Names_L4 fu r n (w64 ((pre.length:Int) + 1)):=by
       refine lp pre (fun m (_:Unit) i=>d_spec_l5Names_L2 fu (fun i=>d_spec_l5Names_L4 fu r n i) r (pre.length:Int) m i) (fun l _=>bif l.any (fun y=>y.fId == x.fId) then some false else d_spec_l5Names_L4 fu r n (w64 ((pre.length:Int) + 1))) (by omega) ?_ ?_ fu () (by omega)
       · intro m s i y ys hy hd ih
         simp only [d_spec_l5Names_L2.eq_2]
         unfold d_spec_l5Names_L2_B
         have hy':ix r.fItems i = some y:=by rw [hl]; exact ix_app hy
         simp only [hd,cond_true,hx,hy',ob_some,ih (),List.any_cons]
         rw [ibeq x.fId y.fId]
         cases y.fId == x.fId <;> rfl
       · intro m s i hd
         simp only [d_spec_l5Names_L2.eq_2]
         unfold d_spec_l5Names_L2_B
         simp only [hd,cond_false]
         rfl
      have e8':d_spec_l5Names_L2 fu (d_spec_l5Names_L4 fu r n) r (pre.length:Int) fu 0 = bif pre.any (fun y=>y.fId == x.fId) then some false else d_spec_l5Names_L4 fu r n (w64 ((pre.length:Int) + 1)):=e8
      rw [cond_false,e8',ih ()]
      cases pre.any (fun y=>y.fId == x.fId) <;> rfl
    · rfl
  · intro n s hd
    simp only [d_spec_l5Names_L4.eq_2]
    unfold d_spec_l5Names_L4_B
    simp only [hd,cond_false,hb]
    rfl
 have e3:∀ b,d_spec_l5Names_L4 fu r fu 0 = some b → d_spec_l5Names_L5 fu r fu 0 = some (nodB Typ.fId [] r.fTypes && b):=by
  intro b hb
  refine lpP r.fTypes (fun n (_:Unit) i=>d_spec_l5Names_L5 fu r n i) (fun pre l _=>some (nodB Typ.fId pre l && b)) (by omega) ?_ ?_ fu () (by omega)
  · intro n s pre x xs hl hx hd ih
    simp only [d_spec_l5Names_L5.eq_2]
    unfold d_spec_l5Names_L5_B
    simp only [hd,cond_true,nodB]
    have hpl:pre.length ≤ r.fTypes.length:=by rw [hl]; simp
    have e8:d_spec_l5Names_L1 fu (fun i=>d_spec_l5Names_L5 fu r n i) r (pre.length:Int) fu 0 = bif pre.any (fun y=>y.fId == x.fId) then some false else d_spec_l5Names_L5 fu r n (w64 ((pre.length:Int) + 1)):=by
     refine lp pre (fun m (_:Unit) i=>d_spec_l5Names_L1 fu (fun i=>d_spec_l5Names_L5 fu r n i) r (pre.length:Int) m i) (fun l _=>bif l.any (fun y=>y.fId == x.fId) then some false else d_spec_l5Names_L5 fu r n (w64 ((pre.length:Int) + 1))) (by omega) ?_ ?_ fu () (by omega)
     · intro m s i y ys hy hd ih
       simp only [d_spec_l5Names_L1.eq_2]
       unfold d_spec_l5Names_L1_B
       have hy':ix r.fTypes i = some y:=by rw [hl]; exact ix_app hy
       simp only [hd,cond_true,hx,hy',ob_some,ih (),List.any_cons]
       rw [ibeq x.fId y.fId]
       cases y.fId == x.fId <;> rfl
     · intro m s i hd
       simp only [d_spec_l5Names_L1.eq_2]
       unfold d_spec_l5Names_L1_B
       simp only [hd,cond_false]
       rfl
    have e8':d_spec_l5Names_L1 fu (d_spec_l5Names_L5 fu r n) r (pre.length:Int) fu 0 = bif pre.any (fun y=>y.fId == x.fId) then some false else d_spec_l5Names_L5 fu r n (w64 ((pre.length:Int) + 1)):=e8
    rw [e8',ih ()]
    cases pre.any (fun y=>y.fId == x.fId) <;> rfl
  · intro n s hd
    simp only [d_spec_l5Names_L5.eq_2]
    unfold d_spec_l5Names_L5_B
    simp only [hd,cond_false,hb]
    rfl
 unfold d_spec_l5Names namB
 rw [e3 _ (e7 _ e11)]
 congr 1
 cases nodB Typ.fId [] r.fTypes <;> cases nodC r.fClasses [] r.fItems <;> cases (typM r r.fMaster).isSome <;> cases r.fPairs.any fun p=>decide (p.fA ≥ r.fClasses) || decide (p.fB ≥ r.fClasses) <;> rfl
theorem sls_pre {α:Type} {l pre xs:List α} {x:α} (h:l = pre ++ x :: xs):sls l 0 (pre.length:Int) = some pre:=by
 rw [sls_some ⟨by omega,by omega,by rw [h]; simp; omega⟩]
 simp [h]
theorem i_nam {fu:Nat} {r:Request} (h:Sm fu r):d_impl_namesOk fu r = some (namB r):=by
 have hfu:=h.fu
 have h1:=h.items
 have h2:=h.types
 have h3:=h.pairs
 have e4:d_impl_namesOk_L1 fu r fu 0 = some (nodC r.fClasses [] r.fItems && ((typM r r.fMaster).isSome && !(r.fPairs.any fun p=>decide (p.fA ≥ r.fClasses) || decide (p.fB ≥ r.fClasses)))):=by
  refine lpP r.fItems (fun n (_:Unit) i=>d_impl_namesOk_L1 fu r n i) (fun pre l _=>some (nodC r.fClasses pre l && ((typM r r.fMaster).isSome && !(r.fPairs.any fun p=>decide (p.fA ≥ r.fClasses) || decide (p.fB ≥ r.fClasses))))) (by omega) ?_ ?_ fu () (by omega)
  · intro n s pre x xs hl hx hd ih
    simp only [d_impl_namesOk_L1.eq_2]
    unfold d_impl_namesOk_L1_B d_impl_namesOk_J1
    have hpl:pre.length ≤ r.fItems.length:=by rw [hl]; simp
    simp only [hd,cond_true,hx,ob_some,sls_pre hl,i_anyItem (fun y=>d_impl_namesOk_2 fu y x) (fun y=>y.fId == x.fId) (fun y _=>rfl) (show pre.length ≤ 1048576 by omega) (show pre.length < fu by omega),nodC,ih ()]
    cases decide (x.fClass ≥ r.fClasses) <;> cases pre.any (fun y=>y.fId == x.fId) <;> rfl
  · intro n s hd
    simp only [d_impl_namesOk_L1.eq_2]
    unfold d_impl_namesOk_L1_B
    simp only [hd,cond_false,i_mas h,ob_some,othM_2]
    rw [i_anyPair (fun y=>d_impl_namesOk_3 fu y r) (fun p=>decide (p.fA ≥ r.fClasses) || decide (p.fB ≥ r.fClasses)) (fun p _=>by
     unfold d_impl_namesOk_3
     cases decide (p.fA ≥ r.fClasses) <;> rfl) h3 (by omega),ob_some]
    cases (typM r r.fMaster).isSome <;> rfl
 have e3:∀ b,d_impl_namesOk_L1 fu r fu 0 = some b → d_impl_namesOk_L2 fu r fu 0 = some (nodB Typ.fId [] r.fTypes && b):=by
  intro b hb
  refine lpP r.fTypes (fun n (_:Unit) i=>d_impl_namesOk_L2 fu r n i) (fun pre l _=>some (nodB Typ.fId pre l && b)) (by omega) ?_ ?_ fu () (by omega)
  · intro n s pre x xs hl hx hd ih
    simp only [d_impl_namesOk_L2.eq_2]
    unfold d_impl_namesOk_L2_B
    have hpl:pre.length ≤ r.fTypes.length:=by rw [hl]; simp
    simp only [hd,cond_true,hx,ob_some,sls_pre hl,i_anyTyp (fun y=>d_impl_namesOk_1 fu y x) (fun y=>y.fId == x.fId) (fun y _=>rfl) (show pre.length ≤ 1048576 by omega) (show pre.length < fu by omega),nodB,ih ()]
    cases pre.any (fun y=>y.fId == x.fId) <;> rfl
  · intro n s hd
    simp only [d_impl_namesOk_L2.eq_2]
    unfold d_impl_namesOk_L2_B
    simp only [hd,cond_false,hb]
    rfl
 unfold d_impl_namesOk namB
 rw [e3 _ e4]
 congr 1
 cases nodB Typ.fId [] r.fTypes <;> cases nodC r.fClasses [] r.fItems <;> cases (typM r r.fMaster).isSome <;> cases r.fPairs.any fun p=>decide (p.fA ≥ r.fClasses) || decide (p.fB ≥ r.fClasses) <;> rfl
theorem s_bes {fu:Nat} {l:List Pair} (hl:l.length ≤ 1048576) (hf:l.length < fu) (a b:Int):d_spec_Beside fu l a b = some (besB l a b):=by
 unfold d_spec_Beside besB
 refine lp l (fun n (_:Unit) i=>d_spec_Beside_L1 fu l a b n i) (fun l _=>some (l.any fun p=>p.fA == a && p.fB == b)) (by omega) ?_ ?_ fu () hf
 · intro n s i x xs hx hd ih
   simp only [d_spec_Beside_L1.eq_2]
   unfold d_spec_Beside_L1_B d_spec_Beside_J1
   simp only [hd,cond_true,hx,ob_some,ih (),List.any_cons]
   cases x.fA == a <;> cases x.fB == b <;> rfl
 · intro n s i hd
   simp only [d_spec_Beside_L1.eq_2]
   unfold d_spec_Beside_L1_B
   simp only [hd,cond_false]
   rfl
theorem i_bes {fu:Nat} {l:List Pair} (hl:l.length ≤ 1048576) (hf:l.length < fu) (a b:Int):d_impl_Beside fu l a b = some (besB l a b):=by
 unfold d_impl_Beside d_slices_Contains_impl_Pair_impl_Pair d_slices_Index_impl_Pair_impl_Pair besB
 have:=idx_loop l (fun n i=>d_slices_Index_impl_Pair_impl_Pair_L1 fu l (⟨a,b⟩:Pair) n i) (fun p=>p.fA == a && p.fB == b) (by omega) (by
  intro n i x hx hd
  simp only [d_slices_Index_impl_Pair_impl_Pair_L1.eq_2]
  unfold d_slices_Index_impl_Pair_impl_Pair_L1_B
  simp only [hd,cond_true,hx,ob_some]
  have:decide ((⟨a,b⟩:Pair) = x) = (x.fA == a && x.fB == b):=by
   rcases x with ⟨c,d⟩
   apply Bool.eq_iff_iff.2
   simp only [decide_eq_true_eq,Pair.mk.injEq,Bool.and_eq_true,beq_iff_eq]
   exact ⟨fun ⟨h1,h2⟩=>⟨h1.symm,h2.symm⟩,fun ⟨h1,h2⟩=>⟨h1.symm,h2.symm⟩⟩
  rw [this]) (by
  intro n i hd
  simp only [d_slices_Index_impl_Pair_impl_Pair_L1.eq_2]
  unfold d_slices_Index_impl_Pair_impl_Pair_L1_B
  simp only [hd,cond_false]) fu hf
 rw [this,ob_some,fndI_any _ l 0 (by omega),ob_some]
theorem i_tab {fu:Nat} {l:List Pair} (hl:l.length ≤ 1048576) (hf:l.length < fu) (h64:64 < fu) (c:Int):d_impl_TableOk fu l c = some (tabB l c):=by
 unfold d_impl_TableOk tabB
 rw [i_in,ob_some]
 cases hc:inb c 1 4
 · rfl
 rw [inb_iff] at hc
 simp only [Bool.not_true,cond_false,Bool.true_and]
 have e4:∀ (k:Int → Option Bool) (a:Int),d_impl_TableOk_L1 fu k l c a fu 0 = bif (ints 0 c.toNat).all fun b=>besB l a b == besB l b a then k (w64 (a + 1)) else some false:=by
  intro k a
  refine lpN c (fun n (_:Unit) i=>d_impl_TableOk_L1 fu k l c a n i) (fun xs _=>bif xs.all fun b=>besB l a b == besB l b a then k (w64 (a + 1)) else some false) (by omega) ?_ ?_ c.toNat fu () 0 (by omega) (by omega) (by omega)
  · intro n s i xs h0 h1 hd ih
    simp only [d_impl_TableOk_L1.eq_2]
    unfold d_impl_TableOk_L1_B
    simp only [hd,cond_true,i_bes hl hf,ob_some,ih (),List.all_cons]
    cases besB l a i == besB l i a <;> rfl
  · intro n s i hd
    simp only [d_impl_TableOk_L1.eq_2]
    unfold d_impl_TableOk_L1_B
    simp only [hd,cond_false]
    rfl
 refine lpN c (fun n (_:Unit) i=>d_impl_TableOk_L2 fu l c n i) (fun xs _=>some (xs.all fun a=>besB l a a && (ints 0 c.toNat).all fun b=>besB l a b == besB l b a)) (by omega) ?_ ?_ c.toNat fu () 0 (by omega) (by omega) (by omega)
 · intro n s i xs h0 h1 hd ih
   simp only [d_impl_TableOk_L2.eq_2]
   unfold d_impl_TableOk_L2_B
   simp only [hd,cond_true,i_bes hl hf,ob_some,e4,ih (),List.all_cons]
   cases besB l i i <;> cases (ints 0 c.toNat).all fun b=>besB l i b == besB l b i <;> rfl
 · intro n s i hd
   simp only [d_impl_TableOk_L2.eq_2]
   unfold d_impl_TableOk_L2_B
   simp only [hd,cond_false]
   rfl
theorem s_tab {fu:Nat} {l:List Pair} (hl:l.length ≤ 1048576) (hf:l.length < fu) (h64:64 < fu) (c:Int):d_spec_TableOk fu l c = some (tabB l c):=by
 unfold d_spec_TableOk tabB
 rw [s_in,ob_some]
 cases hc:inb c 1 4
 · rfl
 rw [inb_iff] at hc
 simp only [Bool.not_true,cond_false,Bool.true_and]
 have e4:∀ (k:Int → Option Bool) (a:Int),d_spec_TableOk_L1 fu k l c a fu 0 = bif (ints 0 c.toNat).all fun b=>(!(a == b) || besB l a a) && (besB l a b == besB l b a) then k (w64 (a + 1)) else some false:=by
  intro k a
  refine lpN c (fun n (_:Unit) i=>d_spec_TableOk_L1 fu k l c a n i) (fun xs _=>bif xs.all fun b=>(!(a == b) || besB l a a) && (besB l a b == besB l b a) then k (w64 (a + 1)) else some false) (by omega) ?_ ?_ c.toNat fu () 0 (by omega) (by omega) (by omega)
  · intro n s i xs h0 h1 hd ih
    simp only [d_spec_TableOk_L1.eq_2]
    unfold d_spec_TableOk_L1_B d_spec_TableOk_J1
    simp only [hd,cond_true,s_bes hl hf,ob_some,ih (),List.all_cons]
    cases a == i <;> cases besB l a a <;> cases besB l a i == besB l i a <;> rfl
  · intro n s i hd
    simp only [d_spec_TableOk_L1.eq_2]
    unfold d_spec_TableOk_L1_B
    simp only [hd,cond_false]
    rfl
 have e9:d_spec_TableOk_L2 fu l c fu 0 = some ((ints 0 c.toNat).all fun a=>(ints 0 c.toNat).all fun b=>(!(a == b) || besB l a a) && (besB l a b == besB l b a)):=by
  refine lpN c (fun n (_:Unit) i=>d_spec_TableOk_L2 fu l c n i) (fun xs _=>some (xs.all fun a=>(ints 0 c.toNat).all fun b=>(!(a == b) || besB l a a) && (besB l a b == besB l b a))) (by omega) ?_ ?_ c.toNat fu () 0 (by omega) (by omega) (by omega)
  · intro n s i xs h0 h1 hd ih
    simp only [d_spec_TableOk_L2.eq_2]
    unfold d_spec_TableOk_L2_B
    simp only [hd,cond_true,e4,ih (),List.all_cons]
    cases (ints 0 c.toNat).all fun b=>(!(i == b) || besB l i i) && (besB l i b == besB l b i) <;> rfl
  · intro n s i hd
    simp only [d_spec_TableOk_L2.eq_2]
    unfold d_spec_TableOk_L2_B
    simp only [hd,cond_false]
    rfl
 rw [e9]
 congr 1
 apply Bool.eq_iff_iff.2
 simp only [List.all_eq_true,Bool.and_eq_true,Bool.or_eq_true,Bool.not_eq_true',beq_eq_false_iff_ne,beq_iff_eq]
 constructor
 · intro h a ha
   refine ⟨?_,fun b hb=>(h a ha b hb).2⟩
   rcases (h a ha a ha).1 with h1 | h1
   · exact absurd rfl h1
   · exact h1
 · intro h a ha b hb
   exact ⟨.inr (h a ha).1,(h a ha).2 b hb⟩
theorem len3 {l:List Int} (h:l.length = 3):∃ p q s,l = [p,q,s]:=by
 match l,h with
 | [p,q,s],_=>exact ⟨p,q,s,rfl⟩
theorem s_sid {fu:Nat} (hfu:2097153 ≤ fu) (a b c:Int):d_spec_l5Sides fu a b c = some [(sid a b c).1,(sid a b c).2.1,(sid a b c).2.2]:=by
 unfold d_spec_l5Sides
 rw [s_up hfu (by simp),ob_some,show [a,b,c].length = 3 from rfl]
 have hp:=srt_perm (kf [a,b,c]) 3
 have hs:=srt_sorted (kf [a,b,c]) 3
 obtain ⟨p,q,s,hq⟩:=len3 (srt_len (kf [a,b,c]) 3)
 rw [hq] at hp hs ⊢
 have hmem:∀ x ∈ [p,q,s],0 ≤ x ∧ x < 3:=fun x hx=>by
  have:=ints_mem.1 (hp.mem_iff.1 hx)
  omega
 have k1:=kf_ix (keys:=[a,b,c]) (p:=p) (by have:=hmem p (by simp); simpa using this)
 have k2:=kf_ix (keys:=[a,b,c]) (p:=q) (by have:=hmem q (by simp); simpa using this)
 have k3:=kf_ix (keys:=[a,b,c]) (p:=s) (by have:=hmem s (by simp); simpa using this)
 rw [show ix [p,q,s] 0 = some p from rfl,show ix [p,q,s] 1 = some q from rfl,show ix [p,q,s] 2 = some s from rfl]
 simp only [ob_some,k1,k2,k3]
 have hp3:([a,b,c]).Perm [kf [a,b,c] p,kf [a,b,c] q,kf [a,b,c] s]:=(hp.map (kf [a,b,c])).symm
 simp only [List.pairwise_cons,List.mem_cons,List.not_mem_nil,or_false,forall_eq_or_imp,forall_eq,lx] at hs
 have:=perm3 hp3 (by omega) (by omega)
 rw [this]
theorem s_fit {fu:Nat} (hfu:2097153 ≤ fu) (x:Item) (t:Typ):d_spec_Fits fu x t = some (fitB x t):=by
 unfold d_spec_Fits fitB
 rw [s_sid hfu,s_sid hfu]
 simp only [ob_some]
 have e0:∀ a b c:Int,ix [a,b,c] 0 = some a:=fun _ _ _=>rfl
 have e1:∀ a b c:Int,ix [a,b,c] 1 = some b:=fun _ _ _=>rfl
 have e2:∀ a b c:Int,ix [a,b,c] 2 = some c:=fun _ _ _=>rfl
 simp only [e0,e1,e2,ob_some]
 cases decide ((sid x.fW x.fH x.fD).1 ≤ (sid t.fW t.fH t.fD).1) <;> cases decide ((sid x.fW x.fH x.fD).2.1 ≤ (sid t.fW t.fH t.fD).2.1) <;> cases decide ((sid x.fW x.fH x.fD).2.2 ≤ (sid t.fW t.fH t.fD).2.2) <;> rfl
theorem sortI3 (a b c:Int):sortI [a,b,c] = some [(sid a b c).1,(sid a b c).2.1,(sid a b c).2.2]:=by
 unfold sortI
 rw [if_pos (by simp)]
 have hp:=List.mergeSort_perm [a,b,c] (fun x y=>decide (x ≤ y))
 have hs:=mergeSort_le [a,b,c]
 obtain ⟨p,q,s,hq⟩:=len3 (hp.length_eq)
 rw [hq] at hp hs ⊢
 simp only [List.pairwise_cons,List.mem_cons,List.not_mem_nil,or_false,forall_eq_or_imp,forall_eq] at hs
 rw [perm3 hp.symm (by omega) (by omega)]
theorem i_fit (fu:Nat) (x:Item) (t:Typ):d_impl_Fits fu x t = some (fitB x t):=by
 unfold d_impl_Fits d_impl_Fits_J1 d_slices_Sort_int_int fitB
 rw [sortI3,sortI3]
 have e0:∀ a b c:Int,ix [a,b,c] 0 = some a:=fun _ _ _=>rfl
 have e1:∀ a b c:Int,ix [a,b,c] 1 = some b:=fun _ _ _=>rfl
 have e2:∀ a b c:Int,ix [a,b,c] 2 = some c:=fun _ _ _=>rfl
 simp only [ob_some,e0,e1,e2]
 cases decide ((sid x.fW x.fH x.fD).1 ≤ (sid t.fW t.fH t.fD).1) <;> cases decide ((sid x.fW x.fH x.fD).2.1 ≤ (sid t.fW t.fH t.fD).2.1) <;> cases decide ((sid x.fW x.fH x.fD).2.2 ≤ (sid t.fW t.fH t.fD).2.2) <;> rfl
theorem s_cls {fu:Nat} {r:Request} (h:Sm fu r):d_spec_Class fu r = some (clsM r):=by
 have hfu:=h.fu
 have h1:=h.items
 have h2:=h.types
 have h3:=h.pairs
 have e4:d_spec_Class_L1 fu r fu 0 = some (bif r.fTypes.any (tooB r.fPallet) then 6 else 0):=by
  refine lp r.fTypes (fun n (_:Unit) i=>d_spec_Class_L1 fu r n i) (fun l _=>some (bif l.any (tooB r.fPallet) then 6 else 0)) (by omega) ?_ ?_ fu () (by omega)
  · intro n s i x xs hx hd ih
    simp only [d_spec_Class_L1.eq_2]
    unfold d_spec_Class_L1_B d_spec_Class_J1
    simp only [hd,cond_true,hx,ob_some,ih (),List.any_cons,tooB]
    cases decide (x.fW > r.fPallet.fW) <;> cases decide (x.fD > r.fPallet.fD) <;> cases decide (x.fH > r.fPallet.fH) <;> cases decide (w64 (x.fTare + x.fGram) > r.fPallet.fGram) <;> rfl
  · intro n s i hd
    simp only [d_spec_Class_L1.eq_2]
    unfold d_spec_Class_L1_B
    simp only [hd,cond_false]
    rfl
 unfold d_spec_Class clsM
 rw [s_bou h,ob_some,s_nam h,ob_some,s_tab h3 (by omega) (by omega),ob_some,s_mas h,ob_some]
 have e1:d_spec_Class_L2 fu r (othM (typM r r.fMaster)) fu 0 = some (bif !(r.fItems.all fun x=>fitB x (masM r)) then 5 else bif r.fTypes.any (tooB r.fPallet) then 6 else 0):=by
  refine lp r.fItems (fun n (_:Unit) i=>d_spec_Class_L2 fu r (othM (typM r r.fMaster)) n i) (fun l _=>some (bif !(l.all fun x=>fitB x (masM r)) then 5 else bif r.fTypes.any (tooB r.fPallet) then 6 else 0)) (by omega) ?_ ?_ fu () (by omega)
  · intro n s i x xs hx hd ih
    simp only [d_spec_Class_L2.eq_2]
    unfold d_spec_Class_L2_B
    simp only [hd,cond_true,hx,ob_some,s_fit hfu,ih (),List.all_cons]
    rw [show (othM (typM r r.fMaster)).1 = masM r from rfl]
    cases fitB x (masM r) <;> rfl
  · intro n s i hd
    simp only [d_spec_Class_L2.eq_2]
    unfold d_spec_Class_L2_B
    simp only [hd,cond_false,e4]
    rfl
 rw [e1]
 cases bouB r <;> cases namB r <;> cases tabB r.fPairs r.fClasses <;> rfl
theorem i_cls {fu:Nat} {r:Request} (h:Sm fu r):d_impl_Class fu r = some (clsM r):=by
 have hfu:=h.fu
 have h1:=h.items
 have h2:=h.types
 have h3:=h.pairs
 unfold d_impl_Class clsM
 rw [i_mas h,ob_some,i_bou h,ob_some,i_nam h,ob_some,i_tab h3 (by omega) (by omega),ob_some]
 rw [i_anyItem (fun y=>d_impl_Class_1 fu y (othM (typM r r.fMaster)).1) (fun x=>!fitB x (masM r)) (fun x _=>by
  unfold d_impl_Class_1
  rw [i_fit,ob_some]; rfl) h1 (by omega),ob_some]
 rw [i_anyTyp (fun y=>d_impl_Class_2 fu y r.fPallet) (tooB r.fPallet) (fun x _=>by
  unfold d_impl_Class_2 tooB
  cases decide (x.fW > r.fPallet.fW) <;> cases decide (x.fD > r.fPallet.fD) <;> cases decide (x.fH > r.fPallet.fH) <;> rfl) h2 (by omega),ob_some]
 rw [show (r.fItems.any fun x=>!fitB x (masM r)) = !(r.fItems.all fun x=>fitB x (masM r)) by simp [List.not_all_eq_any_not]]
 cases bouB r <;> cases namB r <;> cases tabB r.fPairs r.fClasses <;> cases r.fItems.all fun x=>fitB x (masM r) <;> cases r.fTypes.any (tooB r.fPallet) <;> rfl
theorem i_sound {fu:Nat} {r:Request} (h:Sm fu r):d_impl_sound fu r = some (clsM r == 0):=by
 unfold d_impl_sound
 rw [i_cls h]; rfl
theorem lpPI {σ α β:Type} (l:List α) (L:Nat → σ → Int → Option β) (F:List α → List α → σ → Option β) (I:List α → List α → σ → Prop) (hl:l.length ≤ 1099511627776)
    (hs:∀ n s pre x xs,l = pre ++ x :: xs → ix l (pre.length:Int) = some x → decide ((pre.length:Int) < (l.length:Int)) = true → I pre (x :: xs) s → (∀ s',I (pre ++ [x]) xs s' → L n s' (w64 ((pre.length:Int) + 1)) = F (pre ++ [x]) xs s') → L (n + 1) s (pre.length:Int) = F pre (x :: xs) s)
    (he:∀ n s,decide ((l.length:Int) < (l.length:Int)) = false → I l [] s → L (n + 1) s (l.length:Int) = F l [] s):∀ n s,I [] l s → l.length < n → L n s 0 = F [] l s:=by
 have key:∀ (xs pre:List α) (n:Nat) (s:σ),l = pre ++ xs → I pre xs s → xs.length < n → L n s (pre.length:Int) = F pre xs s:=by
  intro xs
  induction xs with
  | nil =>
   intro pre n s he' hI hn
   obtain ⟨n,rfl⟩:∃ k,n = k + 1:=⟨n - 1,by omega⟩
   simp only [List.append_nil] at he'
   subst he'
   exact he n s (by simp) hI
  | cons x xs ih =>
   intro pre n s he' hI hn
   obtain ⟨n,rfl⟩:∃ k,n = k + 1:=⟨n - 1,by simp at hn; omega⟩
   have hlen:l.length = pre.length + (xs.length + 1):=by rw [he']; simp
   refine hs n s pre x xs he' ?_ (by simp; omega) hI fun s' hI'=>?_
   · rw [ix_nat,he']; simp
   · rw [w64_s _ (by omega)]
     have:=ih (pre ++ [x]) n s' (by simp [he']) hI' (by simp at hn; omega)
     simpa using this
 intro n s hI hn
 simpa using key l [] n s rfl hI hn
theorem itm_count {x:Item} (h:itmB x = true):1 ≤ x.fCount ∧ x.fCount ≤ 6:=by
 simp only [itmB,Bool.and_eq_true,inb_iff] at h
 omega
theorem cnt_nn {xs:List Item} (h:∀ x ∈ xs,itmB x = true):0 ≤ sumI (xs.map (·.fCount)):=sumI_nn _ _ fun x hx=>by have:=itm_count (h x hx); omega
theorem s_l6 {fu:Nat} {r:Request} (h:Sm fu r) (hb:bouB r = true):d_spec_l6Units fu r = some (l6M r):=by
 have hfu:=h.fu
 obtain ⟨hi,hs,hl⟩:=bou_items hb
 have e4:∀ (k:List Int → Int → Option (List Int)) (i:Int) (x:Item),ix r.fItems i = some x → ∀ (m n:Nat) (c:Int) (out:List Int),0 ≤ c → c ≤ x.fCount → (x.fCount - c).toNat = m → x.fCount ≤ 6 → m < n → out.length + m ≤ 100 →
     d_spec_l6Units_L1 fu k r i n out c = k (out ++ List.replicate m i) (w64 (i + 1)):=by
  intro k i x hx m
  induction m with
  | zero =>
   intro n c out h0 h1 h2 h3 h4 h5
   obtain ⟨n,rfl⟩:∃ j,n = j + 1:=⟨n - 1,by omega⟩
   rw [d_spec_l6Units_L1.eq_2]
   unfold d_spec_l6Units_L1_B
   rw [hx,ob_some,bif_false (by simp; omega)]
   simp
  | succ m ih =>
   intro n c out h0 h1 h2 h3 h4 h5
   obtain ⟨n,rfl⟩:∃ j,n = j + 1:=⟨n - 1,by omega⟩
   rw [d_spec_l6Units_L1.eq_2]
   unfold d_spec_l6Units_L1_B
   rw [hx,ob_some,bif_true (by simp; omega),ap1 (by simp; omega),ob_some,w64_id (by omega) (by omega),ih n (c + 1) (out ++ [i]) (by omega) (by omega) (by omega) h3 (by omega) (by simp; omega)]
   rw [List.append_assoc,List.singleton_append,← List.replicate_succ]
 unfold d_spec_l6Units l6M
 have:=lpPI r.fItems (fun n out i=>d_spec_l6Units_L2 fu r n out i) (fun pre xs out=>some (out ++ repU (pre.length:Int) xs)) (fun pre xs out=>(out.length:Int) + sumI (xs.map (·.fCount)) ≤ 12 ∧ ∀ x ∈ xs,itmB x = true) (by omega) ?_ ?_ fu [] ⟨by simpa using hs,hi⟩ (by omega)
 · simpa using this
 · intro n out pre x xs hl' hx hd hI ih
   simp only [d_spec_l6Units_L2.eq_2]
   unfold d_spec_l6Units_L2_B
   have hc:=itm_count (hI.2 x (by simp))
   have hsum:=hI.1
   have hnn:=cnt_nn (fun y hy=>hI.2 y (by simp [hy]):∀ y ∈ xs,itmB y = true)
   simp only [List.map_cons,sumI_cons] at hsum
   have e:=e4 (d_spec_l6Units_L2 fu r n) (pre.length:Int) x hx x.fCount.toNat fu 0 out (by omega) (by omega) (by omega) (by omega) (by omega) (by omega)
   rw [hd,cond_true,e,ih _ ⟨by simp; omega,fun y hy=>hI.2 y (by simp [hy])⟩]
   simp [repU]
 · intro n out hd hI
   simp only [d_spec_l6Units_L2.eq_2]
   unfold d_spec_l6Units_L2_B
   simp only [hd,cond_false]
   simp [repU]
theorem s_l6c {fu:Nat} {r:Request} (h:Sm fu r) (hc:clsM r = 0):d_spec_l6Units fu r = some (untM r):=by
 unfold untM
 rw [s_l6 h (clsM_zero hc).1,bif_true (by simp [hc])]
theorem s_unt {fu:Nat} {r:Request} (h:Sm fu r):d_spec_Units fu r = some (untM r):=by
 unfold d_spec_Units untM
 rw [s_cls h,ob_some]
 by_cases hc:clsM r = 0
 · rw [bif_false (by simp [hc]),s_l6 h (clsM_zero hc).1,ob_some,bif_true (by simp [hc])]
 · rw [bif_true (by simp [hc]),bif_false (by simp [hc])]
theorem mul6 (fu:Nat) (c:Int) (h:1 ≤ c ∧ c ≤ 6):d_bits_Mul fu (IntKind.wrap .u64 1) (IntKind.wrap .u64 c) = some (0,c):=by
 have:c = 1 ∨ c = 2 ∨ c = 3 ∨ c = 4 ∨ c = 5 ∨ c = 6:=by omega
 rcases this with rfl | rfl | rfl | rfl | rfl | rfl <;> rfl
theorem rep_1 (m:Nat) (i:Int):d_slices_Repeat_int_int_J1 (m + 10) [i] (0,1) = some (List.replicate 1 i):=by kernel_rfl
theorem rep_2 (m:Nat) (i:Int):d_slices_Repeat_int_int_J1 (m + 10) [i] (0,2) = some (List.replicate 2 i):=by kernel_rfl
theorem rep_3 (m:Nat) (i:Int):d_slices_Repeat_int_int_J1 (m + 10) [i] (0,3) = some (List.replicate 3 i):=by kernel_rfl
theorem rep_4 (m:Nat) (i:Int):d_slices_Repeat_int_int_J1 (m + 10) [i] (0,4) = some (List.replicate 4 i):=by kernel_rfl
theorem rep_5 (m:Nat) (i:Int):d_slices_Repeat_int_int_J1 (m + 10) [i] (0,5) = some (List.replicate 5 i):=by kernel_rfl
theorem rep_6 (m:Nat) (i:Int):d_slices_Repeat_int_int_J1 (m + 10) [i] (0,6) = some (List.replicate 6 i):=by kernel_rfl
theorem rep6 {fu:Nat} (hfu:10 ≤ fu) (i c:Int) (h:1 ≤ c ∧ c ≤ 6):d_slices_Repeat_int_int fu [i] c = some (List.replicate c.toNat i):=by
 unfold d_slices_Repeat_int_int d_slices_Repeat_int_int_J2
 rw [bif_false (by simp; omega)]
 rw [show (([i]:List Int).length:Int) = 1 from rfl,mul6 fu c h,ob_some,bif_false (by simp),bif_false (by simp; omega)]
 obtain ⟨m,rfl⟩:∃ m,fu = m + 10:=⟨fu - 10,by omega⟩
 have:c = 1 ∨ c = 2 ∨ c = 3 ∨ c = 4 ∨ c = 5 ∨ c = 6:=by omega
 rcases this with rfl | rfl | rfl | rfl | rfl | rfl
 · exact rep_1 m i
 · exact rep_2 m i
 · exact rep_3 m i
 · exact rep_4 m i
 · exact rep_5 m i
 · exact rep_6 m i
theorem i_unt {fu:Nat} {r:Request} (h:Sm fu r):d_impl_Units fu r = some (untM r):=by
 have hfu:=h.fu
 unfold d_impl_Units untM
 rw [i_sound h,ob_some]
 by_cases hc:clsM r = 0
 · obtain ⟨hi,hs,hl⟩:=bou_items (clsM_zero hc).1
   rw [bif_false (by simp [hc]),bif_true (by simp [hc])]
   unfold l6M
   have:=lpPI r.fItems (fun n out i=>d_impl_Units_L1 fu r n out i) (fun pre xs out=>some (out ++ repU (pre.length:Int) xs)) (fun pre xs out=>(out.length:Int) + sumI (xs.map (·.fCount)) ≤ 12 ∧ ∀ x ∈ xs,itmB x = true) (by omega) ?_ ?_ fu [] ⟨by simpa using hs,hi⟩ (by omega)
   · simpa using this
   · intro n out pre x xs hl' hx hd hI ih
     simp only [d_impl_Units_L1.eq_2]
     unfold d_impl_Units_L1_B
     have hc:=itm_count (hI.2 x (by simp))
     have hsum:=hI.1
     have hnn:=cnt_nn (fun y hy=>hI.2 y (by simp [hy]):∀ y ∈ xs,itmB y = true)
     simp only [List.map_cons,sumI_cons] at hsum
     rw [hd,cond_true,hx,ob_some,rep6 (by omega) _ _ hc,ob_some,ap1 (by simp; omega),ob_some,ih _ ⟨by simp; omega,fun y hy=>hI.2 y (by simp [hy])⟩]
     simp [repU]
   · intro n out hd hI
     simp only [d_impl_Units_L1.eq_2]
     unfold d_impl_Units_L1_B
     simp only [hd,cond_false]
     simp [repU]
 · rw [bif_true (by simp [hc]),bif_false (by simp [hc])]
theorem s_has {fu:Nat} {l:List Int} (hl:l.length ≤ 1048576) (hf:l.length < fu) (x:Int):d_spec_l1Has fu l x = some (l.contains x):=by
 unfold d_spec_l1Has
 refine lp l (fun n (_:Unit) i=>d_spec_l1Has_L1 fu l x n i) (fun l _=>some (l.contains x)) (by omega) ?_ ?_ fu () hf
 · intro n s i y ys hy hd ih
   simp only [d_spec_l1Has_L1.eq_2]
   unfold d_spec_l1Has_L1_B
   simp only [hd,cond_true,hy,ob_some,ih (),List.contains_cons]
   rw [ibeq y x]
   cases x == y <;> rfl
 · intro n s i hd
   simp only [d_spec_l1Has_L1.eq_2]
   unfold d_spec_l1Has_L1_B
   simp only [hd,cond_false]
   rfl
theorem i_has {fu:Nat} {l:List Int} (hl:l.length ≤ 1048576) (hf:l.length < fu) (x:Int):d_slices_Contains_int_int fu l x = some (l.contains x):=by
 unfold d_slices_Contains_int_int d_slices_Index_int_int
 have:=idx_loop l (fun n i=>d_slices_Index_int_int_L1 fu l x n i) (fun y=>x == y) (by omega) (by
  intro n i y hx hd
  simp only [d_slices_Index_int_int_L1.eq_2]
  unfold d_slices_Index_int_int_L1_B
  simp only [hd,cond_true,hx,ob_some]) (by
  intro n i hd
  simp only [d_slices_Index_int_int_L1.eq_2]
  unfold d_slices_Index_int_int_L1_B
  simp only [hd,cond_false]) fu hf
 rw [this,ob_some,fndI_any _ l 0 (by omega),List.contains_eq_any_beq]
theorem s_join {fu:Nat} {p:List Pair} (hp:p.length ≤ 1048576) (hpf:p.length < fu) {g:List Int} (hl:g.length ≤ 1048576) (hf:g.length < fu) (c:Int):d_spec_l3Joins fu p g c = some (g.all (mutB p c)):=by
 unfold d_spec_l3Joins
 refine lp g (fun n (_:Unit) i=>d_spec_l3Joins_L1 fu p g c n i) (fun l _=>some (l.all (mutB p c))) (by omega) ?_ ?_ fu () hf
 · intro n s i y ys hy hd ih
   simp only [d_spec_l3Joins_L1.eq_2]
   unfold d_spec_l3Joins_L1_B d_spec_l3Joins_J1
   simp only [hd,cond_true,hy,ob_some,ih (),s_bes hp hpf,List.all_cons,mutB]
   cases besB p y c <;> cases besB p c y <;> rfl
 · intro n s i hd
   simp only [d_spec_l3Joins_L1.eq_2]
   unfold d_spec_l3Joins_L1_B
   simp only [hd,cond_false]
   rfl
theorem s_prs {fu:Nat} {r:Request} (h:Sm fu r):d_spec_Present fu r = some (prsM r):=by
 have hfu:=h.fu
 have h1:=h.items
 unfold d_spec_Present prsM
 rw [s_cls h,ob_some]
 by_cases hc:clsM r = 0
 · rw [show (clsM r != 0) = false by simp [hc],show (clsM r == 0) = true by simp [hc],cond_false,cond_true]
   have e27:∀ (k:List Int → Int → Option (List Int)) (out:List Int) (c:Int),d_spec_Present_L1 fu k r out c fu false 0 = bif r.fItems.any (fun x=>x.fClass == c) then (obind (apnd 8 out [c]) fun x=>k x (w64 (c + 1))) else k out (w64 (c + 1)):=by
    intro k out c
    refine lp r.fItems (fun n f i=>d_spec_Present_L1 fu k r out c n f i) (fun l f=>bif f || l.any (fun x=>x.fClass == c) then (obind (apnd 8 out [c]) fun x=>k x (w64 (c + 1))) else k out (w64 (c + 1))) (by omega) ?_ ?_ fu false (by omega)
    · intro n f i x xs hx hd ih
      simp only [d_spec_Present_L1.eq_2]
      unfold d_spec_Present_L1_B d_spec_Present_J2
      simp only [hd,cond_true,hx,ob_some,ih,List.any_cons]
      cases f
      · rfl
      · rfl
    · intro n f i hd
      simp only [d_spec_Present_L1.eq_2]
      unfold d_spec_Present_L1_B d_spec_Present_J1
      simp only [hd,cond_false,List.any_nil,Bool.or_false]
   have:=lpNI 4 (fun n out i=>d_spec_Present_L2 fu r n out i) (fun xs out=>some (out ++ xs.filter fun c=>r.fItems.any fun x=>x.fClass == c)) (fun xs out=>out.length + xs.length ≤ 4) (by omega) ?_ ?_ 4 fu [] 0 (by omega) (by omega) (by omega) (by simp [ints])
   · simpa using this
   · intro n out i xs h0 h1 hd hI ih
     simp only [List.length_cons] at hI
     simp only [d_spec_Present_L2.eq_2]
     unfold d_spec_Present_L2_B
     simp only [hd,cond_true,e27]
     cases hb:r.fItems.any fun x=>x.fClass == i
     · rw [cond_false,ih out (by omega)]
       simp [hb]
     · rw [cond_true,ap1 (by simp; omega),ob_some,ih _ (by simp; omega)]
       simp [hb]
   · intro n out i hd hI
     simp only [d_spec_Present_L2.eq_2]
     unfold d_spec_Present_L2_B
     simp only [hd,cond_false]
     simp
 · rw [show (clsM r != 0) = true by simp [hc],show (clsM r == 0) = false by simp [hc],cond_false,cond_true]
theorem i_kinds {fu:Nat} {l:List Int} (hl:l.length ≤ 1048576):∃ k,d_impl_kinds fu l = some k ∧ k.Pairwise (· < ·) ∧ ∀ x,x ∈ k ↔ x ∈ l:=by
 unfold d_impl_kinds d_slices_Clone_int_int d_slices_Sort_int_int d_slices_Compact_int_int
 have hp:=List.mergeSort_perm l (fun x y=>decide (x ≤ y))
 have hs:=mergeSort_le l
 rw [ap1 (by simp; omega),ob_some,ob_some,List.nil_append]
 unfold sortI
 rw [if_pos (by omega),ob_some]
 unfold cmpI
 rw [if_pos (by rw [hp.length_eq]; omega),ob_some]
 obtain ⟨h1,h2⟩:=compact_sorted _ hs
 exact ⟨_,rfl,h1,fun x=>(h2 x).trans hp.mem_iff⟩
theorem i_kinds_sorted {fu:Nat} {l:List Int} (hl:l.length ≤ 1048576) (hs:l.Pairwise (· < ·)):d_impl_kinds fu l = some l:=by
 obtain ⟨k,h1,h2,h3⟩:=i_kinds (fu:=fu) hl
 rw [h1,lt_ext h2 hs h3]
theorem i_prs {fu:Nat} {r:Request} (h:Sm fu r):d_impl_Present fu r = some (prsM r):=by
 have hfu:=h.fu
 have h1:=h.items
 unfold d_impl_Present
 rw [i_sound h,ob_some]
 by_cases hc:clsM r = 0
 · rw [show (clsM r == 0) = true by simp [hc],Bool.not_true,cond_false]
   have:=lpI r.fItems (fun n out i=>d_impl_Present_L1 fu r n out i) (fun xs out=>obind (d_impl_kinds fu (out ++ xs.map (·.fClass))) fun x=>some x) (fun xs out=>out.length + xs.length ≤ 1048576) (by omega) ?_ ?_ fu [] (by simpa using h1) (by omega)
   · rw [List.nil_append] at this
     refine this.trans ?_
     obtain ⟨k,e1,e2,e3⟩:=i_kinds (fu:=fu) (l:=r.fItems.map (·.fClass)) (by simpa using h1)
     rw [e1,ob_some]
     congr 1
     refine lt_ext e2 (prsM_sorted r) fun x=>?_
     rw [e3]
     unfold prsM
     rw [show (clsM r == 0) = true by simp [hc],cond_true,List.mem_filter,ints_mem,List.any_eq_true,List.mem_map]
     constructor
     · rintro ⟨y,hy,rfl⟩
       have:=(bou_items (clsM_zero hc).1).1 y hy
       simp only [itmB,Bool.and_eq_true,inb_iff] at this
       exact ⟨by omega,y,hy,by simp⟩
     · rintro ⟨_,y,hy,e⟩
       exact ⟨y,hy,by simpa using e⟩
   · intro n out i x xs hx hd hI ih
     simp only [List.length_cons] at hI
     simp only [d_impl_Present_L1.eq_2]
     unfold d_impl_Present_L1_B
     simp only [hd,cond_true,hx,ob_some]
     rw [ap1 (by simp; omega),ob_some,ih _ (by simp; omega)]
     simp
   · intro n out i hd hI
     simp only [d_impl_Present_L1.eq_2]
     unfold d_impl_Present_L1_B
     simp only [hd,cond_false]
     simp
 · rw [show (clsM r == 0) = false by simp [hc],Bool.not_false,cond_true]
   unfold prsM
   rw [show (clsM r == 0) = false by simp [hc],cond_false]
theorem fstI_snoc {α:Type} (g:α → Bool) (x:α):∀ (l:List α),fstI g (l ++ [x]) = match fstI g l with | some i=>some i | none=>bif g x then some l.length else none
 | []=>by simp [fstI]
 | y :: ys=>by
  simp only [List.cons_append,fstI]
  cases g y
  · simp only [cond_false]
    rw [fstI_snoc g x ys]
    cases fstI g ys <;> simp
    cases g x <;> simp
  · rfl
def atB {α:Type} (g:α → Bool) (l:List α) (i:Int):Bool:=match ix l i with | some x=>g x | none=>false
def lasI {α:Type} (g:α → Bool) (l:List α) (a i:Int):Int:=bif atB g l i then i else a
theorem fold_down {α:Type} (g:α → Bool) (l:List α):∀ (m:Nat) (a:Int),m ≤ l.length → (down m).foldl (lasI g l) a = match fstI g (l.take m) with | some i=>(i:Int) | none=>a
 | 0,a,_=>by simp [down,fstI]
 | m + 1,a,h=>by
  simp only [down,List.foldl_cons]
  rw [fold_down g l m _ (by omega),List.take_succ_eq_append_getElem (by omega),fstI_snoc,List.length_take,Nat.min_eq_left (by omega)]
  unfold lasI atB
  rw [ix_i (by omega)]
  cases fstI g (l.take m) with
  | some i=>rfl
  | none =>
   simp only
   cases g l[m] <;> rfl
theorem fndI_fst {α:Type} (g:α → Bool):∀ (l:List α) (i:Int),fndI g l i = match fstI g l with | some j=>i + j | none=>-1
 | [],i=>rfl
 | x :: xs,i=>by
  simp only [fndI,fstI]
  cases g x
  · simp only [cond_false]
    rw [fndI_fst g xs (i + 1)]
    cases fstI g xs with
    | none=>rfl
    | some j =>
     show i + 1 + (j:Int) = i + ((j + 1:Nat):Int)
     omega
  · simp
theorem put_at {p:List Pair} {out:List (List Int)} {c:Int} {n:Nat} (h:okG n out) (hn:n ≤ 1048576) {β:Type} (k:List (List Int) → Option β) (a:Int) (ha:a = match fstI (fun g=>g.all (mutB p c)) out with | some i=>(i:Int) | none=>-1) :
    (bif (decide (a < 0)) then obind (apnd 24 out [([c]:List Int)]) fun x=>k x else obind (ix out a) fun x=>obind (apnd 8 x (([c]:List Int))) fun y=>obind (ix out a) fun z=>k (setx out a y)) = k (putG p out c):=by
 obtain ⟨h1,h2⟩:=h
 unfold putG
 cases hf:fstI (fun g=>g.all (mutB p c)) out with
 | none =>
  rw [hf] at ha
  simp only at ha
  subst ha
  rw [bif_true (by simp),ap1 (by simp; omega),ob_some]
 | some i =>
  rw [hf] at ha
  simp only at ha
  subst ha
  obtain ⟨x,hx,_⟩:=fstI_lt hf
  have:=h2 x (List.mem_of_getElem? hx)
  rw [bif_false (by simp),ix_nat,hx,ob_some,ap1 (by simp; omega),ob_some,ob_some]
  simp [setx,hx]
theorem s_grps {fu:Nat} {p:List Pair} (hp:p.length ≤ 1048576) (hfu:2097153 ≤ fu) {l:List Int} (hl:l.length ≤ 1048576):d_spec_Groups fu p l = some (((ints 0 4).filter l.contains).foldl (putG p) []):=by
 unfold d_spec_Groups
 have e27:∀ (k:List (List Int) → Int → Option (List (List Int))) (out:List (List Int)) (c:Int),okG 4 out → d_spec_Groups_L1 fu k p out c fu (-1) (w64 ((out.length:Int) - 1)) = k (putG p out c) (w64 (c + 1)):=by
  intro k out c ho
  obtain ⟨R,hR⟩:∃ R:Int → Option (List (List Int)),R = fun a=>bif (decide (a < 0)) then obind (apnd 24 out [([c]:List Int)]) fun x=>k x (w64 (c + 1)) else obind (ix out a) fun x=>obind (apnd 8 x (([c]:List Int))) fun y=>obind (ix out a) fun z=>k (setx out a y) (w64 (c + 1)):=⟨_,rfl⟩
  have:=lpD out.length (fun n a i=>d_spec_Groups_L1 fu k p out c n a i) (fun xs a=>R (xs.foldl (lasI (fun g=>g.all (mutB p c)) out) a)) (by have:=ho.1; omega) ?_ ?_ fu (-1) (by have:=ho.1; omega)
  · rw [this,hR]
    refine put_at (p:=p) ho (by omega) (fun x=>k x (w64 (c + 1))) _ ?_
    rw [fold_down (fun g=>g.all (mutB p c)) out out.length (-1) (Nat.le_refl _),List.take_length]
  · intro n a i xs h0 h1 hd ih
    simp only [d_spec_Groups_L1.eq_2]
    unfold d_spec_Groups_L1_B d_spec_Groups_J2
    obtain ⟨j,rfl⟩:∃ j:Nat,i = j:=⟨i.toNat,by omega⟩
    have hj:j < out.length:=by omega
    have hg:=ho.2 _ (List.getElem_mem hj)
    simp only [hd,cond_true,ix_i hj,ob_some,s_join hp (by omega) (show out[j].length ≤ 1048576 by omega) (show out[j].length < fu by omega),ih,List.foldl_cons]
    have e:lasI (fun g=>g.all (mutB p c)) out a (j:Int) = bif out[j].all (mutB p c) then (j:Int) else a:=by unfold lasI atB; rw [ix_i hj]
    rw [e]
    cases out[j].all (mutB p c) <;> rfl
  · intro n a i hd
    simp only [d_spec_Groups_L1.eq_2]
    unfold d_spec_Groups_L1_B d_spec_Groups_J1
    simp only [hd,cond_false,List.foldl_nil,hR]
 have:=lpNI 4 (fun n out i=>d_spec_Groups_L2 fu p l n out i) (fun xs out=>some ((xs.filter l.contains).foldl (putG p) out)) (fun xs out=>∃ m,m + xs.length ≤ 4 ∧ okG m out) (by omega) ?_ ?_ 4 fu [] 0 (by omega) (by omega) (by omega) ⟨0,by simp [ints],by simp,by simp⟩
 · exact this
 · intro n out i xs h0 h1 hd hI ih
   obtain ⟨m,hm,ho⟩:=hI
   simp only [List.length_cons] at hm
   simp only [d_spec_Groups_L2.eq_2]
   unfold d_spec_Groups_L2_B d_spec_Groups_J1
   simp only [hd,cond_true,s_has hl (show l.length < fu by omega),ob_some]
   cases hb:l.contains i
   · rw [Bool.not_false,cond_true,ih out ⟨m,by omega,ho⟩,List.filter_cons_of_neg (by rw [hb]; simp)]
   · rw [Bool.not_true,cond_false,e27 _ out i ⟨by have:=ho.1; omega,fun g hg=>by have:=ho.2 g hg; omega⟩,ih _ ⟨m + 1,by omega,putG_ok i ho⟩,List.filter_cons_of_pos hb,List.foldl_cons]
 · intro n out i hd hI
   simp only [d_spec_Groups_L2.eq_2]
   unfold d_spec_Groups_L2_B
   simp only [hd,cond_false]
   simp
theorem filter_prs (r:Request):(ints 0 4).filter (prsM r).contains = prsM r :=
 lt_ext ((ints_lt 0 4).filter _) (prsM_sorted r) fun x=>by
  rw [List.mem_filter,ints_mem]
  constructor
  · rintro ⟨_,h⟩; simpa using h
  · intro h; have:=prsM_mem h; exact ⟨by omega,by simpa using h⟩
theorem s_grp {fu:Nat} {r:Request} (h:Sm fu r):d_spec_GroupsOf fu r = some (grpM r):=by
 unfold d_spec_GroupsOf grpM
 rw [s_prs h,ob_some,s_grps h.pairs h.fu (by have:=prsM_len r; omega),ob_some,filter_prs]
theorem i_mut {fu:Nat} {p:List Pair} (hp:p.length ≤ 1048576) (hpf:p.length < fu) (a b:Int):d_impl_mutual fu p a b = some (mutB p a b):=by
 unfold d_impl_mutual mutB
 simp only [i_bes hp hpf,ob_some]
 cases besB p a b <;> rfl
theorem i_idxInt {fu:Nat} {l:List Int} (f:Int → Option Bool) (g:Int → Bool) (hg:∀ x ∈ l,f x = some (g x)) (hl:l.length ≤ 1048576) (hf:l.length < fu):d_slices_IndexFunc_int_int fu l f = some (fndI g l 0):=by
 unfold d_slices_IndexFunc_int_int
 refine idx_loop l (fun n i=>d_slices_IndexFunc_int_int_L1 fu l f n i) g (by omega) ?_ ?_ fu hf
 · intro n i x hx hd
   simp only [d_slices_IndexFunc_int_int_L1.eq_2]
   unfold d_slices_IndexFunc_int_int_L1_B
   simp only [hd,cond_true,hx,ob_some,hg x (ix_mem hx)]
 · intro n i hd
   simp only [d_slices_IndexFunc_int_int_L1.eq_2]
   unfold d_slices_IndexFunc_int_int_L1_B
   simp only [hd,cond_false]
theorem i_anyInt {fu:Nat} {l:List Int} (f:Int → Option Bool) (g:Int → Bool) (hg:∀ x ∈ l,f x = some (g x)) (hl:l.length ≤ 1048576) (hf:l.length < fu):d_slices_ContainsFunc_int_int fu l f = some (l.any g):=by
 unfold d_slices_ContainsFunc_int_int
 rw [i_idxInt f g hg hl hf,ob_some,fndI_any g l 0 (by omega)]
theorem i_idxInts {fu:Nat} {l:List (List Int)} (f:List Int → Option Bool) (g:List Int → Bool) (hg:∀ x ∈ l,f x = some (g x)) (hl:l.length ≤ 1048576) (hf:l.length < fu):d_slices_IndexFunc_ints_int fu l f = some (fndI g l 0):=by
 unfold d_slices_IndexFunc_ints_int
 refine idx_loop l (fun n i=>d_slices_IndexFunc_ints_int_L1 fu l f n i) g (by omega) ?_ ?_ fu hf
 · intro n i x hx hd
   simp only [d_slices_IndexFunc_ints_int_L1.eq_2]
   unfold d_slices_IndexFunc_ints_int_L1_B
   simp only [hd,cond_true,hx,ob_some,hg x (ix_mem hx)]
 · intro n i hd
   simp only [d_slices_IndexFunc_ints_int_L1.eq_2]
   unfold d_slices_IndexFunc_ints_int_L1_B
   simp only [hd,cond_false]
theorem i_grps {fu:Nat} {p:List Pair} (hp:p.length ≤ 1048576) (hfu:2097153 ≤ fu) {l:List Int} (hl:l.length ≤ 4) (hs:l.Pairwise (· < ·)) (hm:∀ c ∈ l,0 ≤ c ∧ c < 4):d_impl_Groups fu p l = some (l.foldl (putG p) []):=by
 unfold d_impl_Groups
 rw [i_kinds_sorted (by omega) hs,ob_some]
 have:=lpI l (fun n out i=>d_impl_Groups_L1 fu p l n out i) (fun xs out=>some (xs.foldl (putG p) out)) (fun xs out=>(∃ m,m + xs.length ≤ 4 ∧ okG m out) ∧ ∀ c ∈ xs,0 ≤ c ∧ c < 4) (by omega) ?_ ?_ fu [] ⟨⟨0,by simpa using hl,by simp,by simp⟩,hm⟩ (by omega)
 · exact this
 · intro n out i c xs hx hd hI ih
   obtain ⟨⟨m,hm,ho⟩,hc⟩:=hI
   simp only [List.length_cons] at hm
   have hc0:=hc c (by simp)
   simp only [d_impl_Groups_L1.eq_2]
   unfold d_impl_Groups_L1_B d_impl_Groups_J1
   simp only [hd,cond_true,hx,ob_some,i_in]
   rw [show inb c 0 3 = true by simp; omega,Bool.not_true,cond_false]
   rw [i_idxInts (fun y=>d_impl_Groups_1 fu y p c) (fun g=>g.all (mutB p c)) (fun g hg=>by
    have hgl:=ho.2 g hg
    unfold d_impl_Groups_1
    rw [i_anyInt (fun y=>d_impl_Groups_1_1 fu y p c) (fun x=>!mutB p c x) (fun x _=>by
     unfold d_impl_Groups_1_1
     rw [i_mut hp (by omega),ob_some]) (by omega) (by omega),ob_some]
    simp [List.any_eq_not_all_not]) (by have:=ho.1; omega) (by have:=ho.1; omega),ob_some]
   rw [put_at (p:=p) ho (by omega) (fun x=>d_impl_Groups_L1 fu p l n x (w64 (i + 1))) (fndI (fun g=>g.all (mutB p c)) out 0) (by
    rw [fndI_fst]
    cases fstI (fun g=>g.all (mutB p c)) out <;> simp)]
   rw [ih _ ⟨⟨m + 1,by omega,putG_ok c ho⟩,fun y hy=>hc y (by simp [hy])⟩]
   rfl
 · intro n out i hd hI
   simp only [d_impl_Groups_L1.eq_2]
   unfold d_impl_Groups_L1_B
   simp only [hd,cond_false]
   rfl
theorem i_grp {fu:Nat} {r:Request} (h:Sm fu r):d_impl_GroupsOf fu r = some (grpM r):=by
 unfold d_impl_GroupsOf
 rw [i_sound h,ob_some]
 by_cases hc:clsM r = 0
 · rw [show (clsM r == 0) = true by simp [hc],Bool.not_true,cond_false,i_prs h,ob_some,i_grps h.pairs h.fu (prsM_len r) (prsM_sorted r) (fun c hc=>prsM_mem hc),ob_some]
   rfl
 · rw [show (clsM r == 0) = false by simp [hc],Bool.not_false,cond_true]
   unfold grpM prsM
   rw [show (clsM r == 0) = false by simp [hc],cond_false]
   rfl
theorem w64_grp (r:Request):w64 (((grpM r).length:Int) - 1) = ((grpM r).length:Int) - 1:=by
 have:=(grpM_ok r).1
 exact w64_id (by omega) (by omega)
theorem i_places {fu:Nat} (n:Nat) (hn:n ≤ 1048576) (hf:n < fu):d_impl_places fu (n:Int) = some (ints 0 n):=by
 unfold d_impl_places
 have:=lpNI (n:Int) (fun k out i=>d_impl_places_L1 fu (n:Int) k out i) (fun xs out=>some (out ++ xs)) (fun xs out=>out.length + xs.length ≤ 1048576) (by omega) ?_ ?_ n fu [] 0 (by omega) (by omega) hf (by simpa [ints_len] using hn)
 · simpa using this
 · intro k out i xs h0 h1 hd hI ih
   simp only [List.length_cons] at hI
   simp only [d_impl_places_L1.eq_2]
   unfold d_impl_places_L1_B
   rw [hd,cond_true,ap1 (by simp; omega),ob_some,ih _ (by simp; omega)]
   simp
 · intro k out i hd hI
   simp only [d_impl_places_L1.eq_2]
   unfold d_impl_places_L1_B
   simp only [hd,cond_false]
   simp
theorem fnd_pre {α:Type} (g:α → Bool):∀ (l pre:List α),(fndI g l pre.length = -1 ∧ ∀ x ∈ l,g x = false) ∨ (∃ a x b,l = a ++ x :: b ∧ (∀ y ∈ a,g y = false) ∧ g x = true ∧ fndI g l pre.length = ((pre.length + a.length:Nat):Int))
 | [],pre=>.inl ⟨rfl,by simp⟩
 | x :: xs,pre=>by
  simp only [fndI]
  by_cases hx:g x = true
  · rw [hx,cond_true]; exact .inr ⟨[],x,xs,rfl,by simp,hx,by simp⟩
  · have hx':g x = false:=by simpa using hx
    rw [hx',cond_false]
    have:=fnd_pre g xs (pre ++ [x])
    simp only [List.length_append,List.length_singleton] at this
    rw [show ((pre.length + 1:Nat):Int) = (pre.length:Int) + 1 by omega] at this
    rcases this with ⟨h1,h2⟩ | ⟨a,y,b,h1,h2,h3,h4⟩
    · exact .inl ⟨h1,by simpa [hx'] using h2⟩
    · exact .inr ⟨x :: a,y,b,by simp [h1],by simpa [hx'] using h2,h3,by rw [h4]; simp; omega⟩
theorem i_del {fu:Nat} {l:List Int} (f:Int → Option Bool) (g:Int → Bool) (hg:∀ x ∈ l,f x = some (g x)) (hl:l.length ≤ 1048576) (hf:l.length < fu):d_slices_DeleteFunc_int_int fu l f = some (l.filter fun x=>!g x):=by
 unfold d_slices_DeleteFunc_int_int
 rw [i_idxInt f g hg hl hf,ob_some]
 have hp:=fnd_pre g l []
 simp only [List.length_nil,Nat.zero_add] at hp
 rcases hp with ⟨h1,h2⟩ | ⟨a,x,b,h1,h2,h3,h4⟩
 · have h1':fndI g l 0 = -1:=h1
   rw [h1',bif_true (by simp)]
   congr 1
   exact (List.filter_eq_self.2 fun y hy=>by simp [h2 y hy]).symm
 · have h4':fndI g l 0 = (a.length:Int):=h4
   rw [h4',bif_false (by simp)]
   have key:∀ (rest kept mid pre:List Int) (n:Nat),l = pre ++ rest → kept = pre.filter (fun x=>!g x) → mid ≠ [] → kept.length + mid.length = pre.length → rest.length < n →
       d_slices_DeleteFunc_int_int_L1 fu f n (kept ++ mid ++ rest) (kept.length:Int) (pre.length:Int) = some (l.filter fun x=>!g x):=by
    intro rest
    induction rest with
    | nil =>
     intro kept mid pre n e1 e2 e3 e4 hn
     obtain ⟨n,rfl⟩:∃ j,n = j + 1:=⟨n - 1,by omega⟩
     rw [d_slices_DeleteFunc_int_int_L1.eq_2]
     unfold d_slices_DeleteFunc_int_int_L1_B
     simp only [List.append_nil] at *
     subst e1
     rw [bif_false (by simp; omega),sls_some ⟨by omega,by simp; omega,by omega⟩,ob_some,sls_some ⟨by omega,by omega,by simp [clrd]; omega⟩,ob_some]
     rw [← e2]
     simp [clrd]
    | cons y rest ih =>
     intro kept mid pre n e1 e2 e3 e4 hn
     obtain ⟨n,rfl⟩:∃ j,n = j + 1:=⟨n - 1,by simp at hn; omega⟩
     have hlen:l.length = pre.length + (rest.length + 1):=by rw [e1]; simp
     have hyl:y ∈ l:=by rw [e1]; simp
     obtain ⟨m,ms,rfl⟩:∃ m ms,mid = m :: ms:=by
      cases mid with
      | nil=>exact absurd rfl e3
      | cons m ms=>exact ⟨m,ms,rfl⟩
     simp only [List.length_cons] at e4 hn
     have hx:ix (kept ++ (m :: ms) ++ y :: rest) (pre.length:Int) = some y:=by
      rw [ix_nat,List.getElem?_append_right (by simp; omega)]
      simp only [List.length_append,List.length_cons]
      rw [show pre.length - (kept.length + (ms.length + 1)) = 0 by omega]; rfl
     have hk:ix (kept ++ (m :: ms) ++ y :: rest) (kept.length:Int) = some m:=by
      rw [ix_nat]; simp
     rw [d_slices_DeleteFunc_int_int_L1.eq_2]
     unfold d_slices_DeleteFunc_int_int_L1_B d_slices_DeleteFunc_int_int_J1
     rw [bif_true (by simp; omega),hx,ob_some,hg y hyl,ob_some]
     cases hgy:g y
     · rw [Bool.not_false,cond_true,hk,ob_some,w64_s _ (by omega),w64_s _ (by omega)]
       have e5:setx (kept ++ (m :: ms) ++ y :: rest) (kept.length:Int) y = (kept ++ [y]) ++ (ms ++ [y]) ++ rest:=by simp [setx]
       rw [e5]
       have:=ih (kept ++ [y]) (ms ++ [y]) (pre ++ [y]) n (by simp [e1]) (by rw [e2,List.filter_append]; simp [hgy]) (by simp) (by simp; omega) (by omega)
       simp only [List.length_append,List.length_singleton] at this
       exact this
     · rw [Bool.not_true,cond_false,w64_s _ (by omega)]
       have:=ih kept ((m :: ms) ++ [y]) (pre ++ [y]) n (by simp [e1]) (by rw [e2,List.filter_append]; simp [hgy]) (by simp) (by simp; omega) (by omega)
       simp only [List.length_append,List.length_singleton] at this
       rw [show kept ++ (m :: ms) ++ y :: rest = kept ++ ((m :: ms) ++ [y]) ++ rest by simp]
       exact this
   have hlen:l.length = a.length + (b.length + 1):=by rw [h1]; simp
   have ha:a.filter (fun x=>!g x) = a:=List.filter_eq_self.2 fun y hy=>by simp [h2 y hy]
   have:=key b a [x] (a ++ [x]) fu (by simp [h1]) (by rw [List.filter_append,ha]; simp [h3]) (by simp) (by simp) (by omega)
   rw [w64_s _ (by omega)]
   simp only [List.length_append,List.length_singleton] at this
   rw [show a ++ [x] ++ b = l by simp [h1]] at this
   exact this
def dnk (keys:List Int) (p:Int):Int:=- kf keys p
theorem s_down {fu:Nat} {keys:List Int} (hfu:2097153 ≤ fu) (hl:keys.length ≤ 1048576):d_spec_SortDown fu keys = some (srt (dnk keys) keys.length):=by
 unfold d_spec_SortDown d_spec_l1Merge
 rw [s_places keys.length hl (by omega),ob_some]
 obtain ⟨m,rfl⟩:∃ m,fu = m + 1:=⟨fu - 1,by omega⟩
 rw [s_msrR true hfu m _ (by rw [ints_len]; omega) (by rw [ints_len]; omega) (fun p hp=>by have:=ints_mem.1 hp; omega),ob_some]
 congr 1
 have e:dk keys true = dnk keys:=rfl
 rw [e]
 exact srt_uniq (msr_perm _ _ _) (msr_sorted _ _ _ (by rw [ints_len]; omega) (ints_lt _ _))
def insL (k:Int → Int) (x:Int):List Int → List Int → List Int
 | [],mid=>x :: mid
 | y :: ys,mid=>if k x < k y then insL k x ys (y :: mid) else (y :: ys).reverse ++ x :: mid
theorem insL_perm (k:Int → Int) (x:Int):∀ (ys mid:List Int),(insL k x ys mid).Perm (ys.reverse ++ x :: mid)
 | [],mid=>List.Perm.refl _
 | y :: ys,mid=>by
  unfold insL
  split
  · refine (insL_perm k x ys (y :: mid)).trans ?_
    rw [List.reverse_cons,List.append_assoc]
    refine List.Perm.append_left _ ?_
    exact List.Perm.swap _ _ _
  · exact List.Perm.refl _
theorem insL_sorted (k:Int → Int) (x:Int):∀ (ys mid:List Int),(ys.reverse ++ mid).Pairwise (lx k) → (∀ m ∈ mid,lx k x m) → (∀ p ∈ ys,p < x) → (insL k x ys mid).Pairwise (lx k)
 | [],mid,h,hm,_=>by
  unfold insL
  exact List.pairwise_cons.2 ⟨hm,by simpa using h⟩
 | y :: ys,mid,h,hm,hy=>by
  unfold insL
  rw [List.reverse_cons,List.append_assoc] at h
  split
  · rename_i hk
    refine insL_sorted k x ys (y :: mid) (by simpa using h) ?_ (fun p hp=>hy p (by simp [hp]))
    intro m hmm
    rcases List.mem_cons.1 hmm with rfl | hmm
    · exact .inl hk
    · exact hm m hmm
  · rename_i hk
    have hyx:lx k y x:=by
     have:=hy y (by simp)
     by_cases he:k y < k x
     · exact .inl he
     · exact .inr ⟨by omega,this⟩
    rw [List.reverse_cons,List.append_assoc]
    obtain ⟨h1,h2,h3⟩:=List.pairwise_append.1 h
    simp only [List.singleton_append] at h2 h3
    refine List.pairwise_append.2 ⟨h1,?_,?_⟩
    · simp only [List.singleton_append]
      obtain ⟨h4,h5⟩:=List.pairwise_cons.1 h2
      refine List.pairwise_cons.2 ⟨?_,List.pairwise_cons.2 ⟨hm,h5⟩⟩
      intro m hmm
      rcases List.mem_cons.1 hmm with rfl | hmm
      · exact hyx
      · exact h4 m hmm
    · intro a ha b hb
      simp only [List.singleton_append,List.mem_cons] at hb
      have hay:=h3 a ha y (by simp)
      rcases hb with rfl | rfl | hb
      · exact hay
      · exact lx_trans hay hyx
      · exact h3 a ha b (by simp [hb])
theorem insL_app (k:Int → Int) (x:Int):∀ (ys mid rest:List Int),insL k x ys (mid ++ rest) = insL k x ys mid ++ rest
 | [],mid,rest=>rfl
 | y :: ys,mid,rest=>by
  unfold insL
  split
  · exact insL_app k x ys (y :: mid) rest
  · simp
theorem ix_m {A:List Int} {y:Int} {B:List Int} {n:Nat} (h:A.length = n):ix (A ++ y :: B) (n:Int) = some y:=by subst h; rw [ix_nat]; simp
theorem setx_m {A:List Int} {y z:Int} {B:List Int} {n:Nat} (h:A.length = n):setx (A ++ y :: B) (n:Int) z = A ++ z :: B:=by subst h; simp [setx]
theorem ins_loop {fu:Nat} {f:Int → Int → Option Int} {k:Int → Int} (K9:List Int → Int → Option (List Int)) (i0:Int) (hf:∀ a b c,f a b = some c → (c < 0 ↔ k a < k b)) (x:Int) :
    ∀ (ys mid:List Int) (n:Nat),(∀ p ∈ ys,∃ c,f x p = some c) → ys.length < n → ys.length ≤ 1048576 → d_slices_insertionSortCmpFunc_int_L1 fu K9 0 f i0 n (ys.reverse ++ x :: mid) (ys.length:Int) = K9 (insL k x ys mid) (w64 (i0 + 1))
 | [],mid,n,_,hn,_=>by
  obtain ⟨n,rfl⟩:∃ j,n = j + 1:=⟨n - 1,by omega⟩
  rw [d_slices_insertionSortCmpFunc_int_L1.eq_2]
  unfold d_slices_insertionSortCmpFunc_int_L1_B insL
  rw [bif_false (by simp)]; rfl
 | y :: ys,mid,n,hy,hn,hl=>by
  simp only [List.length_cons] at hn hl
  obtain ⟨n,rfl⟩:∃ j,n = j + 1:=⟨n - 1,by omega⟩
  obtain ⟨c,hc⟩:=hy y (by simp)
  have hw:w64 (((y :: ys).length:Int) - 1) = (ys.length:Int):=by simp only [List.length_cons]; rw [w64_id (by omega) (by omega)]; omega
  have e0:(y :: ys).reverse ++ x :: mid = ys.reverse ++ y :: x :: mid:=by simp
  have e1:ix ((y :: ys).reverse ++ x :: mid) ((y :: ys).length:Int) = some x:=ix_m (by simp)
  have e2:ix ((y :: ys).reverse ++ x :: mid) (ys.length:Int) = some y:=by rw [e0]; exact ix_m (by simp)
  rw [d_slices_insertionSortCmpFunc_int_L1.eq_2]
  unfold d_slices_insertionSortCmpFunc_int_L1_B insL
  rw [bif_true (by simp),e1,ob_some,hw,e2,ob_some,hc,ob_some]
  by_cases hk:k x < k y
  · rw [if_pos hk,decide_eq_true ((hf _ _ _ hc).2 hk),cond_true]
    unfold d_slices_insertionSortCmpFunc_int_J1
    have e3:setx ((y :: ys).reverse ++ x :: mid) ((y :: ys).length:Int) y = (y :: ys).reverse ++ y :: mid:=setx_m (by simp)
    have e4:ix ((y :: ys).reverse ++ y :: mid) (ys.length:Int) = some y:=by rw [show (y :: ys).reverse ++ y :: mid = ys.reverse ++ y :: y :: mid by simp]; exact ix_m (by simp)
    have e5:setx ((y :: ys).reverse ++ y :: mid) (ys.length:Int) x = ys.reverse ++ x :: y :: mid:=by rw [show (y :: ys).reverse ++ y :: mid = ys.reverse ++ y :: y :: mid by simp]; exact setx_m (by simp)
    rw [hw,e2,ob_some,e1,ob_some,ob_some,e3,e4,ob_some,e5]
    exact ins_loop K9 i0 hf x ys (y :: mid) n (fun p hp=>hy p (by simp [hp])) (by omega) (by omega)
  · rw [if_neg hk,decide_eq_false (fun h=>hk ((hf _ _ _ hc).1 h)),cond_false]
def insA (k:Int → Int):List Int → List Int → List Int
 | P,[]=>P
 | P,x :: xs=>insA k (insL k x P.reverse []) xs
theorem insA_spec (k:Int → Int):∀ (xs P:List Int),P.Pairwise (lx k) → (∀ p ∈ P,∀ x ∈ xs,p < x) → xs.Pairwise (· < ·) → (insA k P xs).Perm (P ++ xs) ∧ (insA k P xs).Pairwise (lx k)
 | [],P,h,_,_=>by simpa [insA] using h
 | x :: xs,P,h,hp,hx=>by
  obtain ⟨h1,h2⟩:=List.pairwise_cons.1 hx
  have hs:(insL k x P.reverse []).Pairwise (lx k):=insL_sorted k x P.reverse [] (by simpa using h) (by simp) (fun p hp'=>hp p (by simpa using hp') x (by simp))
  have hpm:(insL k x P.reverse []).Perm (P ++ [x]):=by simpa using insL_perm k x P.reverse []
  have ih:=insA_spec k xs (insL k x P.reverse []) hs (fun p hp' y hy=>by
   rcases List.mem_append.1 (hpm.mem_iff.1 hp') with h' | h'
   · exact hp p h' y (by simp [hy])
   · rw [List.mem_singleton.1 h']; exact h1 y hy) h2
  refine ⟨?_,ih.2⟩
  unfold insA
  refine ih.1.trans ?_
  refine (hpm.append_right xs).trans ?_
  simp
theorem ins_all {fu:Nat} {f:Int → Int → Option Int} {k:Int → Int} (hfu:2097153 ≤ fu) (hf:∀ a b c,f a b = some c → (c < 0 ↔ k a < k b)) {n:Nat} (hn:n ≤ 1048576) (hin:∀ a b:Int,0 ≤ a → a < n → 0 ≤ b → b < n → ∃ c,f a b = some c) :
    ∀ (xs P:List Int) (m:Nat),xs.length < m → P.length + xs.length = n → (∀ p ∈ P ++ xs,0 ≤ p ∧ p < n) → d_slices_insertionSortCmpFunc_int_L2 fu 0 (n:Int) f m (P ++ xs) (P.length:Int) = some (insA k P xs)
 | [],P,m,hm,hl,_=>by
  obtain ⟨m,rfl⟩:∃ j,m = j + 1:=⟨m - 1,by omega⟩
  simp only [List.length_nil] at hl
  rw [d_slices_insertionSortCmpFunc_int_L2.eq_2]
  unfold d_slices_insertionSortCmpFunc_int_L2_B
  rw [bif_false (by simp; omega)]; simp [insA]
 | x :: xs,P,m,hm,hl,hp=>by
  simp only [List.length_cons] at hl hm
  obtain ⟨m,rfl⟩:∃ j,m = j + 1:=⟨m - 1,by omega⟩
  rw [d_slices_insertionSortCmpFunc_int_L2.eq_2]
  unfold d_slices_insertionSortCmpFunc_int_L2_B
  rw [bif_true (by simp; omega)]
  have key:=ins_loop (fu:=fu) (f:=f) (k:=k) (d_slices_insertionSortCmpFunc_int_L2 fu 0 (n:Int) f m) (P.length:Int) hf x P.reverse xs fu (fun p hp'=>by
   have h1:=hp p (by simp at hp'; simp [hp'])
   have h2:=hp x (by simp)
   exact hin x p h2.1 h2.2 h1.1 h1.2) (by simp; omega) (by simp; omega)
  rw [List.reverse_reverse,List.length_reverse] at key
  rw [key,w64_s _ (by omega)]
  have e:insL k x P.reverse xs = insL k x P.reverse [] ++ xs:=by
   have:=insL_app k x P.reverse [] xs
   simpa using this
  have hpm:(insL k x P.reverse []).Perm (P ++ [x]):=by simpa using insL_perm k x P.reverse []
  have hlen:(insL k x P.reverse []).length = P.length + 1:=by rw [hpm.length_eq]; simp
  rw [e]
  have ih:=ins_all hfu hf hn hin xs (insL k x P.reverse []) m (by omega) (by omega) (fun p hp'=>by
   rcases List.mem_append.1 hp' with h' | h'
   · rcases List.mem_append.1 (hpm.mem_iff.1 h') with h'' | h''
     · exact hp p (by simp [h''])
     · exact hp p (by rw [List.mem_singleton.1 h'']; simp)
   · exact hp p (by simp [h']))
  rw [hlen] at ih
  rw [ih]; rfl
theorem i_cmp (fu:Nat) (a b:Int):∃ c,d_impl_compare fu a b = some c ∧ (c < 0 ↔ a < b):=by
 unfold d_impl_compare
 by_cases h:a < b
 · exact ⟨-1,by simp [h],by simp [h]⟩
 · by_cases h2:a > b
   · exact ⟨1,by simp [h,h2],by simp [h]⟩
   · exact ⟨0,by simp [h,h2],by simp [h]⟩
theorem i_down {fu:Nat} {keys:List Int} (hfu:2097153 ≤ fu) (hl:keys.length < 20):d_impl_SortDown fu keys = some (srt (dnk keys) keys.length):=by
 unfold d_impl_SortDown d_slices_SortStableFunc_int_int d_slices_stableCmpFunc_int
 rw [i_places _ (by omega) (by omega),ob_some]
 obtain ⟨f,hfd⟩:∃ f:Int → Int → Option Int,f = fun a b=>d_impl_SortDown_1 fu a b keys:=⟨_,rfl⟩
 have hdef:∀ a b:Int,0 ≤ a → a < keys.length → 0 ≤ b → b < keys.length → ∃ c,f a b = some c ∧ (c < 0 ↔ dnk keys a < dnk keys b):=by
  intro a b ha ha' hb hb'
  obtain ⟨c,h1,h2⟩:=i_cmp fu (kf keys b) (kf keys a)
  refine ⟨c,?_,?_⟩
  · rw [hfd]
    show d_impl_SortDown_1 fu a b keys = _
    unfold d_impl_SortDown_1
    rw [kf_ix ⟨hb,hb'⟩,ob_some,kf_ix ⟨ha,ha'⟩,ob_some,h1,ob_some]
  · rw [h2]; unfold dnk; omega
 have hf:∀ a b c,f a b = some c → (c < 0 ↔ dnk keys a < dnk keys b):=by
  intro a b c h
  have h0:=h
  rw [hfd] at h
  change d_impl_SortDown_1 fu a b keys = _ at h
  unfold d_impl_SortDown_1 at h
  obtain ⟨x,hx,h⟩:=obind_some h
  obtain ⟨y,hy,h⟩:=obind_some h
  obtain ⟨b0,b1,_⟩:=ix_some hx
  obtain ⟨a0,a1,_⟩:=ix_some hy
  obtain ⟨d,h1,h2⟩:=hdef a b a0 a1 b0 b1
  rw [h0] at h1
  cases h1
  exact h2
 have ha:=ins_all (fu:=fu) (f:=f) (k:=dnk keys) hfu hf (n:=keys.length) (by omega) (fun a b h1 h2 h3 h4=>by obtain ⟨c,h,_⟩:=hdef a b h1 h2 h3 h4; exact ⟨c,h⟩)
 have hI:d_slices_insertionSortCmpFunc_int fu (ints 0 keys.length) 0 ((ints 0 keys.length).length:Int) f = some (srt (dnk keys) keys.length):=by
  unfold d_slices_insertionSortCmpFunc_int
  rw [ints_len,show w64 ((0:Int) + 1) = 1 by rw [w64_id (by omega) (by omega)]; rfl]
  cases hk:keys.length with
  | zero =>
   obtain ⟨m,rfl⟩:∃ m,fu = m + 1:=⟨fu - 1,by omega⟩
   rw [d_slices_insertionSortCmpFunc_int_L2.eq_2]
   unfold d_slices_insertionSortCmpFunc_int_L2_B
   rw [bif_false (by simp)]; rfl
  | succ n =>
   rw [hk] at ha
   have:=ha (ints 1 n) [0] fu (by rw [ints_len]; omega) (by rw [ints_len]; simp; omega) (fun p hp=>by
    have:p ∈ ints 0 (n + 1):=hp
    have:=ints_mem.1 this
    omega)
   have e:ints 0 (n + 1) = [0] ++ ints 1 n:=rfl
   rw [e]
   have h1:(([0]:List Int).length:Int) = 1:=rfl
   rw [h1] at this
   rw [this]
   congr 1
   have hsp:=insA_spec (dnk keys) (ints 1 n) [0] (by simp) (fun p hp x hx=>by
    have:=ints_mem.1 hx
    rw [List.mem_singleton.1 hp]; omega) (ints_lt _ _)
   exact srt_uniq hsp.1 hsp.2
 obtain ⟨m,rfl⟩:∃ m,fu = m + 1:=⟨fu - 1,by omega⟩
 rw [d_slices_stableCmpFunc_int_L3.eq_2]
 unfold d_slices_stableCmpFunc_int_L3_B
 rw [bif_false (by rw [ints_len]; simp; omega)]
 rw [← hfd,hI,ob_some,d_slices_stableCmpFunc_int_L2.eq_2]
 unfold d_slices_stableCmpFunc_int_L2_B
 rw [bif_false (by rw [ints_len]; simp; omega)]
 rfl
theorem vol3 {w h d:Int} (hb:(inb w 0 2000 && (inb h 0 2000 && inb d 0 2000)) = true):w64 ((w64 (w * h)) * d) = w * h * d:=by
 simp only [Bool.and_eq_true,inb_iff] at hb
 obtain ⟨⟨h1,h2⟩,⟨h3,h4⟩,h5,h6⟩:=hb
 have a1:0 ≤ w * h:=Int.mul_nonneg h1 h3
 have a2:w * h ≤ 2000 * 2000:=Int.mul_le_mul h2 h4 h3 (by omega)
 have a3:0 ≤ w * h * d:=Int.mul_nonneg a1 h5
 have a4:w * h * d ≤ 2000 * 2000 * 2000:=Int.mul_le_mul a2 h6 h5 (by omega)
 rw [w64_id (n:=w * h) (by omega) (by omega),w64_id (by omega) (by omega)]
theorem s_vol (fu:Nat) (w h d:Int):d_spec_Volume fu w h d = some (volB w h d):=by
 unfold d_spec_Volume d_spec_Volume_J1 volB
 simp only [s_in,ob_some]
 cases h1:inb w 0 2000 <;> cases h2:inb h 0 2000 <;> cases h3:inb d 0 2000 <;> simp only [Bool.not_true,Bool.not_false,cond_true,cond_false,Bool.and_true,Bool.and_false]
 rw [vol3 (by simp only [h1,h2,h3]; rfl)]
theorem i_vol (fu:Nat) (w h d:Int):d_impl_Volume fu w h d = some (volB w h d):=by
 unfold d_impl_Volume d_impl_Volume_J1 volB
 simp only [i_in,ob_some]
 cases h1:inb w 0 2000 <;> cases h2:inb h 0 2000 <;> cases h3:inb d 0 2000 <;> simp only [Bool.not_true,Bool.not_false,cond_true,cond_false,Bool.and_true,Bool.and_false]
 rw [vol3 (by simp only [h1,h2,h3]; rfl)]
def itmZ (r:Request) (u:Int):Item:=(itmM r u).getD zItem
theorem w64_len (r:Request):w64 (((untM r).length:Int) - 1) = ((untM r).length:Int) - 1:=by
 have:=untM_len r
 exact w64_id (by omega) (by omega)
theorem s_item (fu:Nat) (r:Request) (u:Int):d_spec_l6Item fu r (untM r) u = some (itmZ r u,(itmM r u).isSome):=by
 unfold d_spec_l6Item itmZ
 rw [w64_len,s_in,ob_some]
 by_cases h:0 ≤ u ∧ u < (untM r).length
 · obtain ⟨i,x,h1,h2,h3⟩:=itmM_in h
   rw [bif_false (by simp; omega),h1,ob_some,h2,ob_some,h3]
   rfl
 · rw [bif_true (by simp [inb]; omega),itmM_out h]
   rfl
theorem vol_zero:volI zItem = 0:=by simp [volI,volB,zItem]
theorem i_items {fu:Nat} {r:Request} (h:Sm fu r) (us:List Int) (hl:us.length ≤ 1048576) (hf:us.length < fu):d_impl_itemsOf fu r us = some (itsM r us):=by
 unfold d_impl_itemsOf
 rw [i_unt h,ob_some]
 have key:=lpI us (fun n s i=>d_impl_itemsOf_L1 fu r us (untM r) n s i) (fun l out=>some (out ++ itsM r l)) (fun l out=>out.length + l.length ≤ 1048576) (by omega) ?_ ?_ fu [] (by simpa using hl) hf
 · simpa using key
 · intro n s i x xs hx hd hI ih
   simp only [d_impl_itemsOf_L1.eq_2]
   unfold d_impl_itemsOf_L1_B d_impl_itemsOf_J1
   simp only [hd,cond_true,hx,ob_some,w64_len,i_in]
   simp only [List.length_cons] at hI
   by_cases hu:0 ≤ x ∧ x < (untM r).length
   · obtain ⟨i',y,h1,h2,h3⟩:=itmM_in hu
     rw [bif_true (by simp; omega),h1,ob_some,h2,ob_some,ap1 (by simp; omega),ob_some,ih _ (by simp; omega)]
     simp [itsM,List.filterMap_cons,h3]
   · rw [bif_false (by simp [inb]; omega),ih _ (by omega)]
     simp [itsM,List.filterMap_cons,itmM_out hu]
 · intro n s i hd _
   simp only [d_impl_itemsOf_L1.eq_2]
   unfold d_impl_itemsOf_L1_B
   simp only [hd,cond_false]
   simp [itsM]
theorem i_volOf {fu:Nat} {r:Request} (h:Sm fu r) (us:List Int) (hl:us.length ≤ 1048576) (hf:us.length < fu):d_impl_VolumeOf fu r us = some (volM r us):=by
 unfold d_impl_VolumeOf
 rw [i_items h us hl hf,ob_some]
 have hlen:=itsM_len r us
 have key:=lpI (itsM r us) (fun n s i=>d_impl_VolumeOf_L1 fu (itsM r us) n s i) (fun l n=>some (n + sumI (l.map volI))) (fun l n=>0 ≤ n ∧ n + 8000000000 * l.length ≤ 8000000000 * 1048576) (by omega) ?_ ?_ fu 0 ⟨by omega,by omega⟩ (by omega)
 · simpa [volM] using key
 · intro n s i x xs hx hd hI ih
   simp only [d_impl_VolumeOf_L1.eq_2]
   unfold d_impl_VolumeOf_L1_B
   simp only [hd,cond_true,hx,ob_some,i_vol]
   have hv:=volB_nn x.fW x.fH x.fD
   have h2:=hI.2
   simp only [List.length_cons] at h2
   rw [w64_id (by omega) (by omega),ih _ ⟨by omega,by omega⟩]
   simp only [List.map_cons,sumI_cons,volI]
   congr 1
   omega
 · intro n s i hd _
   simp only [d_impl_VolumeOf_L1.eq_2]
   unfold d_impl_VolumeOf_L1_B
   simp only [hd,cond_false]
   simp
end Go.Proofs.YthkaklkinepfkaaGreatDoor
