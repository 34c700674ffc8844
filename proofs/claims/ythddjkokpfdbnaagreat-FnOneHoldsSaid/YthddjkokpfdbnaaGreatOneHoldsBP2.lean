import Derived.Test.YthddjkokpfdbnaaGreatOneHoldsBP1
set_option linter.unusedSimpArgs false
set_option linter.unusedVariables false
/- slices.DeleteFunc at numbers, places. -/
namespace Go.Proofs.YthddjkokpfdbnaaGreat
open Go
open Enc (rd ow)
open Arg (argv)
open Ret (retv)
open Wf (wf)
theorem i_places {fu:Nat} (n:Nat) (hn:n ≤ 1048576) (hf:n < fu):d_impl_places fu (n:Int) = some (ints 0 n):=by
 unfold d_impl_places
 have:=lpNI (n:Int) (fun k out i=>d_impl_places_L1 fu (n:Int) k out i) (fun xs out=>some (out ++ xs)) (fun xs out=>out.length + xs.length ≤ 1048576) (by omega) ?_ ?_ n fu [] 0 (by omega) (by omega) hf (by simpa [ints_len] using hn)
 · simpa using this
 · intro k out i xs h0 h1 hd hI ih
   simp only [List.length_cons] at hI
   simp only [d_impl_places_L1.eq_2]
   unfold d_impl_places_L1_B
   rw [hd,cond_true,ap1 (by simp; omega),ob_some,ih _ (by simp; omega)]
   simp
 · intro k out i hd hI
   simp only [d_impl_places_L1.eq_2]
   unfold d_impl_places_L1_B
   simp only [hd,cond_false]
   simp
theorem fnd_pre {α:Type} (g:α → Bool):∀ (l pre:List α),(fndI g l pre.length = -1 ∧ ∀ x ∈ l,g x = false) ∨ (∃ a x b,l = a ++ x :: b ∧ (∀ y ∈ a,g y = false) ∧ g x = true ∧ fndI g l pre.length = ((pre.length + a.length:Nat):Int))
 | [],pre=>.inl ⟨rfl,by simp⟩
 | x :: xs,pre=>by
  simp only [fndI]
  by_cases hx:g x = true
  · rw [hx,cond_true]; exact .inr ⟨[],x,xs,rfl,by simp,hx,by simp⟩
  · have hx':g x = false:=by simpa using hx
    rw [hx',cond_false]
    have:=fnd_pre g xs (pre ++ [x])
    simp only [List.length_append,List.length_singleton] at this
    rw [show ((pre.length + 1:Nat):Int) = (pre.length:Int) + 1 by omega] at this
    rcases this with ⟨h1,h2⟩ | ⟨a,y,b,h1,h2,h3,h4⟩
    · exact .inl ⟨h1,by simpa [hx'] using h2⟩
    · exact .inr ⟨x :: a,y,b,by simp [h1],by simpa [hx'] using h2,h3,by rw [h4]; simp; omega⟩
theorem i_del {fu:Nat} {l:List Int} (f:Int → Option Bool) (g:Int → Bool) (hg:∀ x ∈ l,f x = some (g x)) (hl:l.length ≤ 1048576) (hf:l.length < fu):d_slices_DeleteFunc_int_int fu l f = some (l.filter fun x=>!g x):=by
 unfold d_slices_DeleteFunc_int_int
 rw [i_idxInt f g hg hl hf,ob_some]
 have hp:=fnd_pre g l []
 simp only [List.length_nil,Nat.zero_add] at hp
 rcases hp with ⟨h1,h2⟩ | ⟨a,x,b,h1,h2,h3,h4⟩
 · have h1':fndI g l 0 = -1:=h1
   rw [h1',bif_true (by simp)]
   congr 1
   exact (List.filter_eq_self.2 fun y hy=>by simp [h2 y hy]).symm
 · have h4':fndI g l 0 = (a.length:Int):=h4
   rw [h4',bif_false (by simp)]
   have key:∀ (rest kept mid pre:List Int) (n:Nat),l = pre ++ rest → kept = pre.filter (fun x=>!g x) → mid ≠ [] → kept.length + mid.length = pre.length → rest.length < n →
       d_slices_DeleteFunc_int_int_L1 fu f n (kept ++ mid ++ rest) (kept.length:Int) (pre.length:Int) = some (l.filter fun x=>!g x):=by
    intro rest
    induction rest with
    | nil =>
     intro kept mid pre n e1 e2 e3 e4 hn
     obtain ⟨n,rfl⟩:∃ j,n = j + 1:=⟨n - 1,by omega⟩
     rw [d_slices_DeleteFunc_int_int_L1.eq_2]
     unfold d_slices_DeleteFunc_int_int_L1_B
     simp only [List.append_nil] at *
     subst e1
     rw [bif_false (by simp; omega),sls_some ⟨by omega,by simp; omega,by omega⟩,ob_some,sls_some ⟨by omega,by omega,by simp [clrd]; omega⟩,ob_some]
     rw [← e2]
     simp [clrd]
    | cons y rest ih =>
     intro kept mid pre n e1 e2 e3 e4 hn
     obtain ⟨n,rfl⟩:∃ j,n = j + 1:=⟨n - 1,by simp at hn; omega⟩
     have hlen:l.length = pre.length + (rest.length + 1):=by rw [e1]; simp
     have hyl:y ∈ l:=by rw [e1]; simp
     obtain ⟨m,ms,rfl⟩:∃ m ms,mid = m :: ms:=by
      cases mid with
      | nil=>exact absurd rfl e3
      | cons m ms=>exact ⟨m,ms,rfl⟩
     simp only [List.length_cons] at e4 hn
     have hx:ix (kept ++ (m :: ms) ++ y :: rest) (pre.length:Int) = some y:=by
      rw [ix_nat,List.getElem?_append_right (by simp; omega)]
      simp only [List.length_append,List.length_cons]
      rw [show pre.length - (kept.length + (ms.length + 1)) = 0 by omega]; rfl
     have hk:ix (kept ++ (m :: ms) ++ y :: rest) (kept.length:Int) = some m:=by
      rw [ix_nat]; simp
     rw [d_slices_DeleteFunc_int_int_L1.eq_2]
     unfold d_slices_DeleteFunc_int_int_L1_B d_slices_DeleteFunc_int_int_J1
     rw [bif_true (by simp; omega),hx,ob_some,hg y hyl,ob_some]
     cases hgy:g y
     · rw [Bool.not_false,cond_true,hk,ob_some,w64_s _ (by omega),w64_s _ (by omega)]
       have e5:setx (kept ++ (m :: ms) ++ y :: rest) (kept.length:Int) y = (kept ++ [y]) ++ (ms ++ [y]) ++ rest:=by simp [setx]
       rw [e5]
       have:=ih (kept ++ [y]) (ms ++ [y]) (pre ++ [y]) n (by simp [e1]) (by rw [e2,List.filter_append]; simp [hgy]) (by simp) (by simp; omega) (by omega)
       simp only [List.length_append,List.length_singleton] at this
       exact this
     · rw [Bool.not_true,cond_false,w64_s _ (by omega)]
       have:=ih kept ((m :: ms) ++ [y]) (pre ++ [y]) n (by simp [e1]) (by rw [e2,List.filter_append]; simp [hgy]) (by simp) (by simp; omega) (by omega)
       simp only [List.length_append,List.length_singleton] at this
       rw [show kept ++ (m :: ms) ++ y :: rest = kept ++ ((m :: ms) ++ [y]) ++ rest by simp]
       exact this
   have hlen:l.length = a.length + (b.length + 1):=by rw [h1]; simp
   have ha:a.filter (fun x=>!g x) = a:=List.filter_eq_self.2 fun y hy=>by simp [h2 y hy]
   have:=key b a [x] (a ++ [x]) fu (by simp [h1]) (by rw [List.filter_append,ha]; simp [h3]) (by simp) (by simp) (by omega)
   rw [w64_s _ (by omega)]
   simp only [List.length_append,List.length_singleton] at this
   rw [show a ++ [x] ++ b = l by simp [h1]] at this
   exact this
end Go.Proofs.YthddjkokpfdbnaaGreat
/- SortDown, by spec and by impl (short lists). -/
namespace Go.Proofs.YthddjkokpfdbnaaGreat
open Go
open Enc (rd ow)
open Arg (argv)
open Ret (retv)
open Wf (wf)
def dnk (keys:List Int) (p:Int):Int:=- kf keys p
def insL (k:Int → Int) (x:Int):List Int → List Int → List Int
 | [],mid=>x :: mid
 | y :: ys,mid=>if k x < k y then insL k x ys (y :: mid) else (y :: ys).reverse ++ x :: mid
theorem insL_perm (k:Int → Int) (x:Int):∀ (ys mid:List Int),(insL k x ys mid).Perm (ys.reverse ++ x :: mid)
 | [],mid=>List.Perm.refl _
 | y :: ys,mid=>by
  unfold insL
  split
  · refine (insL_perm k x ys (y :: mid)).trans ?_
    rw [List.reverse_cons,List.append_assoc]
    refine List.Perm.append_left _ ?_
    exact List.Perm.swap _ _ _
  · exact List.Perm.refl _
theorem insL_sorted (k:Int → Int) (x:Int):∀ (ys mid:List Int),(ys.reverse ++ mid).Pairwise (lx k) → (∀ m ∈ mid,lx k x m) → (∀ p ∈ ys,p < x) → (insL k x ys mid).Pairwise (lx k)
 | [],mid,h,hm,_=>by
  unfold insL
  exact List.pairwise_cons.2 ⟨hm,by simpa using h⟩
 | y :: ys,mid,h,hm,hy=>by
  unfold insL
  rw [List.reverse_cons,List.append_assoc] at h
  split
  · rename_i hk
    refine insL_sorted k x ys (y :: mid) (by simpa using h) ?_ (fun p hp=>hy p (by simp [hp]))
    intro m hmm
    rcases List.mem_cons.1 hmm with rfl | hmm
    · exact .inl hk
    · exact hm m hmm
  · rename_i hk
    have hyx:lx k y x:=by
     have:=hy y (by simp)
     by_cases he:k y < k x
     · exact .inl he
     · exact .inr ⟨by omega,this⟩
    rw [List.reverse_cons,List.append_assoc]
    obtain ⟨h1,h2,h3⟩:=List.pairwise_append.1 h
    simp only [List.singleton_append] at h2 h3
    refine List.pairwise_append.2 ⟨h1,?_,?_⟩
    · simp only [List.singleton_append]
      obtain ⟨h4,h5⟩:=List.pairwise_cons.1 h2
      refine List.pairwise_cons.2 ⟨?_,List.pairwise_cons.2 ⟨hm,h5⟩⟩
      intro m hmm
      rcases List.mem_cons.1 hmm with rfl | hmm
      · exact hyx
      · exact h4 m hmm
    · intro a ha b hb
      simp only [List.singleton_append,List.mem_cons] at hb
      have hay:=h3 a ha y (by simp)
      rcases hb with rfl | rfl | hb
      · exact hay
      · exact lx_trans hay hyx
      · exact h3 a ha b (by simp [hb])
theorem insL_app (k:Int → Int) (x:Int):∀ (ys mid rest:List Int),insL k x ys (mid ++ rest) = insL k x ys mid ++ rest
 | [],mid,rest=>rfl
 | y :: ys,mid,rest=>by
  unfold insL
  split
  · exact insL_app k x ys (y :: mid) rest
  · simp
theorem ix_m {A:List Int} {y:Int} {B:List Int} {n:Nat} (h:A.length = n):ix (A ++ y :: B) (n:Int) = some y:=by subst h; rw [ix_nat]; simp
theorem setx_m {A:List Int} {y z:Int} {B:List Int} {n:Nat} (h:A.length = n):setx (A ++ y :: B) (n:Int) z = A ++ z :: B:=by subst h; simp [setx]
theorem ins_loop {fu:Nat} {f:Int → Int → Option Int} {k:Int → Int} (K9:List Int → Int → Option (List Int)) (i0:Int) (hf:∀ a b c,f a b = some c → (c < 0 ↔ k a < k b)) (x:Int) :
    ∀ (ys mid:List Int) (n:Nat),(∀ p ∈ ys,∃ c,f x p = some c) → ys.length < n → ys.length ≤ 1048576 → d_slices_insertionSortCmpFunc_int_L1 fu K9 0 f i0 n (ys.reverse ++ x :: mid) (ys.length:Int) = K9 (insL k x ys mid) (w64 (i0 + 1))
 | [],mid,n,_,hn,_=>by
  obtain ⟨n,rfl⟩:∃ j,n = j + 1:=⟨n - 1,by omega⟩
  rw [d_slices_insertionSortCmpFunc_int_L1.eq_2]
  unfold d_slices_insertionSortCmpFunc_int_L1_B insL
  rw [bif_false (by simp)]; rfl
 | y :: ys,mid,n,hy,hn,hl=>by
  simp only [List.length_cons] at hn hl
  obtain ⟨n,rfl⟩:∃ j,n = j + 1:=⟨n - 1,by omega⟩
  obtain ⟨c,hc⟩:=hy y (by simp)
  have hw:w64 (((y :: ys).length:Int) - 1) = (ys.length:Int):=by simp only [List.length_cons]; rw [w64_id (by omega) (by omega)]; omega
  have e0:(y :: ys).reverse ++ x :: mid = ys.reverse ++ y :: x :: mid:=by simp
  have e1:ix ((y :: ys).reverse ++ x :: mid) ((y :: ys).length:Int) = some x:=ix_m (by simp)
  have e2:ix ((y :: ys).reverse ++ x :: mid) (ys.length:Int) = some y:=by rw [e0]; exact ix_m (by simp)
  rw [d_slices_insertionSortCmpFunc_int_L1.eq_2]
  unfold d_slices_insertionSortCmpFunc_int_L1_B insL
  rw [bif_true (by simp),e1,ob_some,hw,e2,ob_some,hc,ob_some]
  by_cases hk:k x < k y
  · rw [if_pos hk,decide_eq_true ((hf _ _ _ hc).2 hk),cond_true]
    unfold d_slices_insertionSortCmpFunc_int_J1
    have e3:setx ((y :: ys).reverse ++ x :: mid) ((y :: ys).length:Int) y = (y :: ys).reverse ++ y :: mid:=setx_m (by simp)
    have e4:ix ((y :: ys).reverse ++ y :: mid) (ys.length:Int) = some y:=by rw [show (y :: ys).reverse ++ y :: mid = ys.reverse ++ y :: y :: mid by simp]; exact ix_m (by simp)
    have e5:setx ((y :: ys).reverse ++ y :: mid) (ys.length:Int) x = ys.reverse ++ x :: y :: mid:=by rw [show (y :: ys).reverse ++ y :: mid = ys.reverse ++ y :: y :: mid by simp]; exact setx_m (by simp)
    rw [hw,e2,ob_some,e1,ob_some,ob_some,e3,e4,ob_some,e5]
    exact ins_loop K9 i0 hf x ys (y :: mid) n (fun p hp=>hy p (by simp [hp])) (by omega) (by omega)
  · rw [if_neg hk,decide_eq_false (fun h=>hk ((hf _ _ _ hc).1 h)),cond_false]
def insA (k:Int → Int):List Int → List Int → List Int
 | P,[]=>P
 | P,x :: xs=>insA k (insL k x P.reverse []) xs
theorem insA_spec (k:Int → Int):∀ (xs P:List Int),P.Pairwise (lx k) → (∀ p ∈ P,∀ x ∈ xs,p < x) → xs.Pairwise (· < ·) → (insA k P xs).Perm (P ++ xs) ∧ (insA k P xs).Pairwise (lx k)
 | [],P,h,_,_=>by simpa [insA] using h
 | x :: xs,P,h,hp,hx=>by
  obtain ⟨h1,h2⟩:=List.pairwise_cons.1 hx
  have hs:(insL k x P.reverse []).Pairwise (lx k):=insL_sorted k x P.reverse [] (by simpa using h) (by simp) (fun p hp'=>hp p (by simpa using hp') x (by simp))
  have hpm:(insL k x P.reverse []).Perm (P ++ [x]):=by simpa using insL_perm k x P.reverse []
  have ih:=insA_spec k xs (insL k x P.reverse []) hs (fun p hp' y hy=>by
   rcases List.mem_append.1 (hpm.mem_iff.1 hp') with h' | h'
   · exact hp p h' y (by simp [hy])
   · rw [List.mem_singleton.1 h']; exact h1 y hy) h2
  refine ⟨?_,ih.2⟩
  unfold insA
  refine ih.1.trans ?_
  refine (hpm.append_right xs).trans ?_
  simp
theorem ins_all {fu:Nat} {f:Int → Int → Option Int} {k:Int → Int} (hfu:2097153 ≤ fu) (hf:∀ a b c,f a b = some c → (c < 0 ↔ k a < k b)) {n:Nat} (hn:n ≤ 1048576) (hin:∀ a b:Int,0 ≤ a → a < n → 0 ≤ b → b < n → ∃ c,f a b = some c) :
    ∀ (xs P:List Int) (m:Nat),xs.length < m → P.length + xs.length = n → (∀ p ∈ P ++ xs,0 ≤ p ∧ p < n) → d_slices_insertionSortCmpFunc_int_L2 fu 0 (n:Int) f m (P ++ xs) (P.length:Int) = some (insA k P xs)
 | [],P,m,hm,hl,_=>by
  obtain ⟨m,rfl⟩:∃ j,m = j + 1:=⟨m - 1,by omega⟩
  simp only [List.length_nil] at hl
  rw [d_slices_insertionSortCmpFunc_int_L2.eq_2]
  unfold d_slices_insertionSortCmpFunc_int_L2_B
  rw [bif_false (by simp; omega)]; simp [insA]
 | x :: xs,P,m,hm,hl,hp=>by
  simp only [List.length_cons] at hl hm
  obtain ⟨m,rfl⟩:∃ j,m = j + 1:=⟨m - 1,by omega⟩
  rw [d_slices_insertionSortCmpFunc_int_L2.eq_2]
  unfold d_slices_insertionSortCmpFunc_int_L2_B
  rw [bif_true (by simp; omega)]
  have key:=ins_loop (fu:=fu) (f:=f) (k:=k) (d_slices_insertionSortCmpFunc_int_L2 fu 0 (n:Int) f m) (P.length:Int) hf x P.reverse xs fu (fun p hp'=>by
   have h1:=hp p (by simp at hp'; simp [hp'])
   have h2:=hp x (by simp)
   exact hin x p h2.1 h2.2 h1.1 h1.2) (by simp; omega) (by simp; omega)
  rw [List.reverse_reverse,List.length_reverse] at key
  rw [key,w64_s _ (by omega)]
  have e:insL k x P.reverse xs = insL k x P.reverse [] ++ xs:=by
   have:=insL_app k x P.reverse [] xs
   simpa using this
  have hpm:(insL k x P.reverse []).Perm (P ++ [x]):=by simpa using insL_perm k x P.reverse []
  have hlen:(insL k x P.reverse []).length = P.length + 1:=by rw [hpm.length_eq]; simp
  rw [e]
  have ih:=ins_all hfu hf hn hin xs (insL k x P.reverse []) m (by omega) (by omega) (fun p hp'=>by
   rcases List.mem_append.1 hp' with h' | h'
   · rcases List.mem_append.1 (hpm.mem_iff.1 h') with h'' | h''
     · exact hp p (by simp [h''])
     · exact hp p (by rw [List.mem_singleton.1 h'']; simp)
   · exact hp p (by simp [h']))
  rw [hlen] at ih
  rw [ih]; rfl
theorem i_cmp (fu:Nat) (a b:Int):∃ c,d_impl_compare fu a b = some c ∧ (c < 0 ↔ a < b):=by
 unfold d_impl_compare
 by_cases h:a < b
 · exact ⟨-1,by simp [h],by simp [h]⟩
 · by_cases h2:a > b
   · exact ⟨1,by simp [h,h2],by simp [h]⟩
   · exact ⟨0,by simp [h,h2],by simp [h]⟩
theorem i_down {fu:Nat} {keys:List Int} (hfu:2097153 ≤ fu) (hl:keys.length < 20):d_impl_SortDown fu keys = some (srt (dnk keys) keys.length):=by
 unfold d_impl_SortDown d_slices_SortStableFunc_int_int d_slices_stableCmpFunc_int
 rw [i_places _ (by omega) (by omega),ob_some]
 obtain ⟨f,hfd⟩:∃ f:Int → Int → Option Int,f = fun a b=>d_impl_SortDown_1 fu a b keys:=⟨_,rfl⟩
 have hdef:∀ a b:Int,0 ≤ a → a < keys.length → 0 ≤ b → b < keys.length → ∃ c,f a b = some c ∧ (c < 0 ↔ dnk keys a < dnk keys b):=by
  intro a b ha ha' hb hb'
  obtain ⟨c,h1,h2⟩:=i_cmp fu (kf keys b) (kf keys a)
  refine ⟨c,?_,?_⟩
  · rw [hfd]
    show d_impl_SortDown_1 fu a b keys = _
    unfold d_impl_SortDown_1
    rw [kf_ix ⟨hb,hb'⟩,ob_some,kf_ix ⟨ha,ha'⟩,ob_some,h1,ob_some]
  · rw [h2]; unfold dnk; omega
 have hf:∀ a b c,f a b = some c → (c < 0 ↔ dnk keys a < dnk keys b):=by
  intro a b c h
  have h0:=h
  rw [hfd] at h
  change d_impl_SortDown_1 fu a b keys = _ at h
  unfold d_impl_SortDown_1 at h
  obtain ⟨x,hx,h⟩:=obind_some h
  obtain ⟨y,hy,h⟩:=obind_some h
  obtain ⟨b0,b1,_⟩:=ix_some hx
  obtain ⟨a0,a1,_⟩:=ix_some hy
  obtain ⟨d,h1,h2⟩:=hdef a b a0 a1 b0 b1
  rw [h0] at h1
  cases h1
  exact h2
 have ha:=ins_all (fu:=fu) (f:=f) (k:=dnk keys) hfu hf (n:=keys.length) (by omega) (fun a b h1 h2 h3 h4=>by obtain ⟨c,h,_⟩:=hdef a b h1 h2 h3 h4; exact ⟨c,h⟩)
 have hI:d_slices_insertionSortCmpFunc_int fu (ints 0 keys.length) 0 ((ints 0 keys.length).length:Int) f = some (srt (dnk keys) keys.length):=by
  unfold d_slices_insertionSortCmpFunc_int
  rw [ints_len,show w64 ((0:Int) + 1) = 1 by rw [w64_id (by omega) (by omega)]; rfl]
  cases hk:keys.length with
  | zero =>
   obtain ⟨m,rfl⟩:∃ m,fu = m + 1:=⟨fu - 1,by omega⟩
   rw [d_slices_insertionSortCmpFunc_int_L2.eq_2]
   unfold d_slices_insertionSortCmpFunc_int_L2_B
   rw [bif_false (by simp)]; rfl
  | succ n =>
   rw [hk] at ha
   have:=ha (ints 1 n) [0] fu (by rw [ints_len]; omega) (by rw [ints_len]; simp; omega) (fun p hp=>by
    have:p ∈ ints 0 (n + 1):=hp
    have:=ints_mem.1 this
    omega)
   have e:ints 0 (n + 1) = [0] ++ ints 1 n:=rfl
   rw [e]
   have h1:(([0]:List Int).length:Int) = 1:=rfl
   rw [h1] at this
   rw [this]
   congr 1
   have hsp:=insA_spec (dnk keys) (ints 1 n) [0] (by simp) (fun p hp x hx=>by
    have:=ints_mem.1 hx
    rw [List.mem_singleton.1 hp]; omega) (ints_lt _ _)
   exact srt_uniq hsp.1 hsp.2
 obtain ⟨m,rfl⟩:∃ m,fu = m + 1:=⟨fu - 1,by omega⟩
 rw [d_slices_stableCmpFunc_int_L3.eq_2]
 unfold d_slices_stableCmpFunc_int_L3_B
 rw [bif_false (by rw [ints_len]; simp; omega)]
 rw [← hfd,hI,ob_some,d_slices_stableCmpFunc_int_L2.eq_2]
 unfold d_slices_stableCmpFunc_int_L2_B
 rw [bif_false (by rw [ints_len]; simp; omega)]
 rfl
end Go.Proofs.YthddjkokpfdbnaaGreat
/- Volumes of units, by spec and by impl. -/
namespace Go.Proofs.YthddjkokpfdbnaaGreat
open Go
open Enc (rd ow)
open Arg (argv)
open Ret (retv)
open Wf (wf)
theorem vol3 {w h d:Int} (hb:(inb w 0 2000 && (inb h 0 2000 && inb d 0 2000)) = true):w64 ((w64 (w * h)) * d) = w * h * d:=by
 simp only [Bool.and_eq_true,inb_iff] at hb
 obtain ⟨⟨h1,h2⟩,⟨h3,h4⟩,h5,h6⟩:=hb
 have a1:0 ≤ w * h:=Int.mul_nonneg h1 h3
 have a2:w * h ≤ 2000 * 2000:=Int.mul_le_mul h2 h4 h3 (by omega)
 have a3:0 ≤ w * h * d:=Int.mul_nonneg a1 h5
 have a4:w * h * d ≤ 2000 * 2000 * 2000:=Int.mul_le_mul a2 h6 h5 (by omega)
 rw [w64_id (n:=w * h) (by omega) (by omega),w64_id (by omega) (by omega)]
theorem s_vol (fu:Nat) (w h d:Int):d_spec_Volume fu w h d = some (volB w h d):=by
 unfold d_spec_Volume d_spec_Volume_J1 volB
 simp only [s_in,ob_some]
 cases h1:inb w 0 2000 <;> cases h2:inb h 0 2000 <;> cases h3:inb d 0 2000 <;> simp only [Bool.not_true,Bool.not_false,cond_true,cond_false,Bool.and_true,Bool.and_false]
 rw [vol3 (by simp only [h1,h2,h3]; rfl)]
theorem i_vol (fu:Nat) (w h d:Int):d_impl_Volume fu w h d = some (volB w h d):=by
 unfold d_impl_Volume d_impl_Volume_J1 volB
 simp only [i_in,ob_some]
 cases h1:inb w 0 2000 <;> cases h2:inb h 0 2000 <;> cases h3:inb d 0 2000 <;> simp only [Bool.not_true,Bool.not_false,cond_true,cond_false,Bool.and_true,Bool.and_false]
 rw [vol3 (by simp only [h1,h2,h3]; rfl)]
def itmZ (r:Request) (u:Int):Item:=(itmM r u).getD zItem
theorem w64_len (r:Request):w64 (((untM r).length:Int) - 1) = ((untM r).length:Int) - 1:=by
 have:=untM_len r
 exact w64_id (by omega) (by omega)
theorem s_item (fu:Nat) (r:Request) (u:Int):d_spec_l6Item fu r (untM r) u = some (itmZ r u,(itmM r u).isSome):=by
 unfold d_spec_l6Item itmZ
 rw [w64_len,s_in,ob_some]
 by_cases h:0 ≤ u ∧ u < (untM r).length
 · obtain ⟨i,x,h1,h2,h3⟩:=itmM_in h
   rw [bif_false (by simp; omega),h1,ob_some,h2,ob_some,h3]
   rfl
 · rw [bif_true (by simp [inb]; omega),itmM_out h]
   rfl
theorem vol_zero:volI zItem = 0:=by simp [volI,volB,zItem]
theorem s_volOf {fu:Nat} {r:Request} (h:Sm fu r) (us:List Int) (hl:us.length ≤ 1048576) (hf:us.length < fu):d_spec_VolumeOf fu r us = some (volM r us):=by
 unfold d_spec_VolumeOf
 rw [s_unt h,ob_some]
 have key:=lpI us (fun n s i=>d_spec_VolumeOf_L1 fu r us (untM r) n s i) (fun l n=>some (n + volM r l)) (fun l n=>0 ≤ n ∧ n + 8000000000 * l.length ≤ 8000000000 * 1048576) (by omega) ?_ ?_ fu 0 ⟨by omega,by omega⟩ hf
 · simpa using key
 · intro n s i x xs hx hd hI ih
   simp only [d_spec_VolumeOf_L1.eq_2]
   unfold d_spec_VolumeOf_L1_B d_spec_VolumeOf_J2 d_spec_VolumeOf_J1
   simp only [hd,cond_true,hx,ob_some,s_item,s_vol]
   have hv:=volB_nn (itmZ r x).fW (itmZ r x).fH (itmZ r x).fD
   have h2:=hI.2
   simp only [List.length_cons] at h2
   rw [w64_id (by omega) (by omega),ih _ ⟨by omega,by omega⟩]
   congr 1
   have e:volM r (x :: xs) = volI (itmZ r x) + volM r xs:=by
    unfold volM itsM itmZ
    cases hm:itmM r x with
    | none=>simp [List.filterMap_cons,hm,vol_zero]
    | some y=>simp [List.filterMap_cons,hm]
   rw [e,show volB (itmZ r x).fW (itmZ r x).fH (itmZ r x).fD = volI (itmZ r x) from rfl]
   omega
 · intro n s i hd _
   simp only [d_spec_VolumeOf_L1.eq_2]
   unfold d_spec_VolumeOf_L1_B
   simp only [hd,cond_false]
   simp [volM,itsM]
theorem i_items {fu:Nat} {r:Request} (h:Sm fu r) (us:List Int) (hl:us.length ≤ 1048576) (hf:us.length < fu):d_impl_itemsOf fu r us = some (itsM r us):=by
 unfold d_impl_itemsOf
 rw [i_unt h,ob_some]
 have key:=lpI us (fun n s i=>d_impl_itemsOf_L1 fu r us (untM r) n s i) (fun l out=>some (out ++ itsM r l)) (fun l out=>out.length + l.length ≤ 1048576) (by omega) ?_ ?_ fu [] (by simpa using hl) hf
 · simpa using key
 · intro n s i x xs hx hd hI ih
   simp only [d_impl_itemsOf_L1.eq_2]
   unfold d_impl_itemsOf_L1_B d_impl_itemsOf_J1
   simp only [hd,cond_true,hx,ob_some,w64_len,i_in]
   simp only [List.length_cons] at hI
   by_cases hu:0 ≤ x ∧ x < (untM r).length
   · obtain ⟨i',y,h1,h2,h3⟩:=itmM_in hu
     rw [bif_true (by simp; omega),h1,ob_some,h2,ob_some,ap1 (by simp; omega),ob_some,ih _ (by simp; omega)]
     simp [itsM,List.filterMap_cons,h3]
   · rw [bif_false (by simp [inb]; omega),ih _ (by omega)]
     simp [itsM,List.filterMap_cons,itmM_out hu]
 · intro n s i hd _
   simp only [d_impl_itemsOf_L1.eq_2]
   unfold d_impl_itemsOf_L1_B
   simp only [hd,cond_false]
   simp [itsM]
theorem i_volOf {fu:Nat} {r:Request} (h:Sm fu r) (us:List Int) (hl:us.length ≤ 1048576) (hf:us.length < fu):d_impl_VolumeOf fu r us = some (volM r us):=by
 unfold d_impl_VolumeOf
 rw [i_items h us hl hf,ob_some]
 have hlen:=itsM_len r us
 have key:=lpI (itsM r us) (fun n s i=>d_impl_VolumeOf_L1 fu (itsM r us) n s i) (fun l n=>some (n + sumI (l.map volI))) (fun l n=>0 ≤ n ∧ n + 8000000000 * l.length ≤ 8000000000 * 1048576) (by omega) ?_ ?_ fu 0 ⟨by omega,by omega⟩ (by omega)
 · simpa [volM] using key
 · intro n s i x xs hx hd hI ih
   simp only [d_impl_VolumeOf_L1.eq_2]
   unfold d_impl_VolumeOf_L1_B
   simp only [hd,cond_true,hx,ob_some,i_vol]
   have hv:=volB_nn x.fW x.fH x.fD
   have h2:=hI.2
   simp only [List.length_cons] at h2
   rw [w64_id (by omega) (by omega),ih _ ⟨by omega,by omega⟩]
   simp only [List.map_cons,sumI_cons,volI]
   congr 1
   omega
 · intro n s i hd _
   simp only [d_impl_VolumeOf_L1.eq_2]
   unfold d_impl_VolumeOf_L1_B
   simp only [hd,cond_false]
   simp
end Go.Proofs.YthddjkokpfdbnaaGreat
/- Weights of units, by spec and by impl. -/
namespace Go.Proofs.YthddjkokpfdbnaaGreat
open Go
open Enc (rd ow)
open Arg (argv)
open Ret (retv)
open Wf (wf)
theorem itmZ_gram (r:Request) (u:Int):0 ≤ (itmZ r u).fGram ∧ (itmZ r u).fGram ≤ 100000:=by
 unfold itmZ
 cases hm:itmM r u with
 | none=>simp [zItem]
 | some x=>exact grm_mem (r:=r) (us:=[u]) (by simp [itsM,List.filterMap_cons,hm])
theorem s_grm {fu:Nat} {r:Request} (h:Sm fu r) (us:List Int) (hl:us.length ≤ 1048576) (hf:us.length < fu):d_spec_GramOf fu r us = some (grmM r us):=by
 unfold d_spec_GramOf
 rw [s_unt h,ob_some]
 have key:=lpI us (fun n s i=>d_spec_GramOf_L1 fu r us (untM r) n s i) (fun l n=>some (n + grmM r l)) (fun l n=>0 ≤ n ∧ n + 100000 * l.length ≤ 100000 * 1048576) (by omega) ?_ ?_ fu 0 ⟨by omega,by omega⟩ hf
 · simpa using key
 · intro n s i x xs hx hd hI ih
   simp only [d_spec_GramOf_L1.eq_2]
   unfold d_spec_GramOf_L1_B d_spec_GramOf_J2 d_spec_GramOf_J1
   simp only [hd,cond_true,hx,ob_some,s_item]
   have hv:=itmZ_gram r x
   have h2:=hI.2
   simp only [List.length_cons] at h2
   rw [w64_id (by omega) (by omega),ih _ ⟨by omega,by omega⟩]
   congr 1
   have e:grmM r (x :: xs) = (itmZ r x).fGram + grmM r xs:=by
    unfold grmM itsM itmZ
    cases hm:itmM r x with
    | none=>simp [List.filterMap_cons,hm,zItem]
    | some y=>simp [List.filterMap_cons,hm]
   rw [e]
   omega
 · intro n s i hd _
   simp only [d_spec_GramOf_L1.eq_2]
   unfold d_spec_GramOf_L1_B
   simp only [hd,cond_false]
   simp [grmM,itsM]
theorem i_grm {fu:Nat} {r:Request} (h:Sm fu r) (us:List Int) (hl:us.length ≤ 1048576) (hf:us.length < fu):d_impl_GramOf fu r us = some (grmM r us):=by
 unfold d_impl_GramOf
 rw [i_items h us hl hf,ob_some]
 have hlen:=itsM_len r us
 have key:=lpI (itsM r us) (fun n s i=>d_impl_GramOf_L1 fu (itsM r us) n s i) (fun l n=>some (n + sumI (l.map (·.fGram)))) (fun l n=>0 ≤ n ∧ n + 100000 * l.length ≤ 100000 * 1048576 ∧ ∀ x ∈ l,0 ≤ x.fGram ∧ x.fGram ≤ 100000) (by omega) ?_ ?_ fu 0 ⟨by omega,by omega,fun x hx=>grm_mem hx⟩ (by omega)
 · simpa [grmM] using key
 · intro n s i x xs hx hd hI ih
   simp only [d_impl_GramOf_L1.eq_2]
   unfold d_impl_GramOf_L1_B
   simp only [hd,cond_true,hx,ob_some]
   have hv:=hI.2.2 x (by simp)
   have h2:=hI.2.1
   simp only [List.length_cons] at h2
   rw [w64_id (by omega) (by omega),ih _ ⟨by omega,by omega,fun y hy=>hI.2.2 y (by simp [hy])⟩]
   simp only [List.map_cons,sumI_cons]
   congr 1
   omega
 · intro n s i hd _
   simp only [d_impl_GramOf_L1.eq_2]
   unfold d_impl_GramOf_L1_B
   simp only [hd,cond_false]
   simp
end Go.Proofs.YthddjkokpfdbnaaGreat
/- Load of units, room for one more, units that may lie beside: by spec and by impl. -/
namespace Go.Proofs.YthddjkokpfdbnaaGreat
open Go
open Enc (rd ow)
open Arg (argv)
open Ret (retv)
open Wf (wf)
def witB (r:Request) (us:List Int) (t:Typ):Bool:=decide (volM r us ≤ volT t) && decide (grmM r us ≤ t.fGram)
theorem i_within {fu:Nat} {r:Request} (h:Sm fu r) (t:Typ) (us:List Int) (hl:us.length ≤ 1048576):d_impl_within fu r us t = some (witB r us t):=by
 have hfu:=h.fu
 unfold d_impl_within witB
 rw [i_volOf h us hl (by omega),ob_some,i_vol,ob_some,i_grm h us hl (by omega)]
 show (bif decide (volM r us ≤ volT t) then _ else _) = _
 cases decide (volM r us ≤ volT t) <;> simp
theorem i_room1 {fu:Nat} {r:Request} (h:Sm fu r) (us:List Int) (u:Int) (hl:us.length < 1048576):d_impl_Room fu r us u = some (clsM r == 0 && witB r (us ++ [u]) (masM r)):=by
 have hfu:=h.fu
 unfold d_impl_Room d_slices_Clone_int_int
 rw [i_mas h,ob_some,i_sound h,ob_some]
 cases hc:clsM r == 0
 · rfl
 · rw [cond_true,ap1 (by simp; omega),ob_some,ob_some,List.nil_append,ap1 (by simp; omega),ob_some,i_within h _ _ (by simp; omega)]
   rfl
end Go.Proofs.YthddjkokpfdbnaaGreat
/- How often a number stands in a list, by spec. -/
namespace Go.Proofs.YthddjkokpfdbnaaGreat
open Go
open Enc (rd ow)
open Arg (argv)
open Ret (retv)
open Wf (wf)
end Go.Proofs.YthddjkokpfdbnaaGreat
/- Orders in the laws: their size, copies, equality. -/
namespace Go.Proofs.YthddjkokpfdbnaaGreat
open Go
open Enc (rd ow)
open Arg (argv)
open Ret (retv)
open Wf (wf)
end Go.Proofs.YthddjkokpfdbnaaGreat
/- Lists of lists of numbers in the laws: their size, copies. -/
namespace Go.Proofs.YthddjkokpfdbnaaGreat
open Go
open Enc (rd ow)
open Arg (argv)
open Ret (retv)
open Wf (wf)
end Go.Proofs.YthddjkokpfdbnaaGreat
/- IsPacking of spec and of impl. -/
namespace Go.Proofs.YthddjkokpfdbnaaGreat
open Go
open Enc (rd ow)
open Arg (argv)
open Ret (retv)
open Wf (wf)
def thrM (r:Request) (us:List Int):List Int:=us.filter fun u=>inb u 0 (((untM r).length:Int) - 1)
theorem i_there {fu:Nat} {r:Request} (h:Sm fu r) (us:List Int) (hl:us.length ≤ 1048576):d_impl_thereOf fu r us = some (thrM r us):=by
 have hfu:=h.fu
 unfold d_impl_thereOf d_slices_Clone_int_int thrM
 rw [i_unt h,ob_some,ap1 (by simp; omega),ob_some,ob_some,List.nil_append,i_del _ (fun u=>!inb u 0 (((untM r).length:Int) - 1)) ?_ hl (by omega),ob_some]
 · simp
 · intro u _
   unfold d_impl_thereOf_1
   rw [w64_len,i_in,ob_some]
theorem sortI_some {xs:List Int} (h:xs.length ≤ 1048576):sortI xs = some (xs.mergeSort fun x y=>decide (x ≤ y)):=by
 unfold sortI
 rw [if_pos (by omega)]
theorem thrM_len (r:Request) (us:List Int):(thrM r us).length ≤ us.length:=List.length_filter_le _ _
end Go.Proofs.YthddjkokpfdbnaaGreat
/- IsRival of spec and of impl. -/
namespace Go.Proofs.YthddjkokpfdbnaaGreat
open Go
open Enc (rd ow)
open Arg (argv)
open Ret (retv)
open Wf (wf)
def clsZ (r:Request) (u:Int):Int:=(itmZ r u).fClass
def allBes (r:Request) (c:List Int):Bool:=c.all fun x=>c.all fun y=>besB r.fPairs (clsZ r x) (clsZ r y)
theorem itmZ_in {r:Request} {u:Int} (h:0 ≤ u ∧ u < (untM r).length):itmM r u = some (itmZ r u):=by
 obtain ⟨_,x,_,_,hx⟩:=itmM_in h
 unfold itmZ
 rw [hx]; rfl
theorem itsM_map {r:Request}:∀ {l:List Int},(∀ u ∈ l,0 ≤ u ∧ u < (untM r).length) → itsM r l = l.map (itmZ r)
 | [],_=>rfl
 | u :: l,h=>by
  have ih:=itsM_map (r:=r) (l:=l) fun v hv=>h v (by simp [hv])
  unfold itsM at ih ⊢
  rw [List.filterMap_cons,itmZ_in (h u (by simp)),ih,List.map_cons]
end Go.Proofs.YthddjkokpfdbnaaGreat
/- Transitive of spec and of impl; where it is, groups are apart. -/
namespace Go.Proofs.YthddjkokpfdbnaaGreat
open Go
open Enc (rd ow)
open Arg (argv)
open Ret (retv)
open Wf (wf)
structure Sep (p:List Pair) (P:List Int) (out:List (List Int)):Prop where
 ne:∀ g ∈ out,g ≠ []
 inn:∀ g ∈ out,∀ x ∈ g,x ∈ P
 one:∀ g ∈ out,∀ x ∈ g,∀ y ∈ g,x ≠ y → mutB p x y = true
 two:∀ (i j:Nat) (g h:List Int),out[i]? = some g → out[j]? = some h → i ≠ j → ∀ x ∈ g,∀ y ∈ h,mutB p x y = false
end Go.Proofs.YthddjkokpfdbnaaGreat
/- Holds and Cheapest, by spec and by impl. -/
namespace Go.Proofs.YthddjkokpfdbnaaGreat
open Go
open Enc (rd ow)
open Arg (argv)
open Ret (retv)
open Wf (wf)
theorem all_cong {α:Type} {p q:α → Bool}:∀ {l:List α},(∀ x ∈ l,p x = q x) → l.all p = l.all q
 | [],_=>rfl
 | x :: xs,h=>by rw [List.all_cons,List.all_cons,h x (by simp),all_cong fun y hy=>h y (by simp [hy])]
def uOk (r:Request) (t:Typ) (u:Int):Bool:=(itmM r u).isSome && fitB (itmZ r u) t
def hldB (r:Request) (us:List Int) (t:Typ):Bool:=clsM r == 0 && (us.all (uOk r t) && witB r us t)
theorem itm_isSome {r:Request} {u:Int}:(itmM r u).isSome = true ↔ 0 ≤ u ∧ u < (untM r).length:=by
 constructor
 · intro h
   apply Decidable.byContradiction
   intro hn
   rw [itmM_out hn] at h
   cases h
 · intro h
   rw [itmZ_in h]; rfl
theorem i_holds {fu:Nat} {r:Request} (h:Sm fu r) (us:List Int) (t:Typ) (hl:us.length ≤ 1048576):d_impl_Holds fu r us t = some (hldB r us t):=by
 have hfu:=h.fu
 have hil:=itsM_len r us
 unfold d_impl_Holds hldB
 rw [i_sound h,ob_some]
 cases hc:clsM r == 0
 · rfl
 · rw [Bool.not_true,cond_false,i_there h us hl,ob_some,Bool.true_and]
   by_cases ha:∀ u ∈ us,0 ≤ u ∧ u < (untM r).length
   · have e:thrM r us = us:=List.filter_eq_self.2 fun u hu=>by have:=ha u hu; simp; omega
     have e0:((us.length:Int) != (us.length:Int)) = false:=by simp
     rw [e,e0,cond_false]
     unfold d_impl_Holds_J1
     rw [i_items h us hl (by omega),ob_some,i_anyItem _ (fun x=>!fitB x t) ?_ (by omega) (by omega),ob_some]
     · rw [i_within h t us hl,ob_some,itsM_map ha,List.any_map]
       have e1:us.all (uOk r t) = !(us.any ((fun x=>!fitB x t) ∘ itmZ r)):=by
        rw [List.not_any_eq_all_not]
        apply all_cong
        intro u hu
        simp only [uOk,itm_isSome.2 (ha u hu),Bool.true_and,Function.comp,Bool.not_not]
       rw [e1]
       cases us.any ((fun x=>!fitB x t) ∘ itmZ r) <;> simp
     · intro x _
       unfold d_impl_Holds_1
       rw [i_fit,ob_some]
   · have hlt:(thrM r us).length < us.length:=by
       apply Decidable.byContradiction
       intro hn
       apply ha
       have e:(us.filter fun u=>inb u 0 (((untM r).length:Int) - 1)).length = us.length:=by
        have:=List.length_filter_le (fun u=>inb u 0 (((untM r).length:Int) - 1)) us
        have e':thrM r us = us.filter fun u=>inb u 0 (((untM r).length:Int) - 1):=rfl
        rw [e'] at hn
        omega
       intro u hu
       have:=List.length_filter_eq_length_iff.1 e u hu
       simp at this
       omega
     have e0:(((thrM r us).length:Int) != (us.length:Int)) = true:=by simp; omega
     rw [e0,cond_true]
     have e1:us.all (uOk r t) = false:=by
      apply Bool.eq_false_iff.2
      intro he
      apply ha
      intro u hu
      have:=List.all_eq_true.1 he u hu
      simp only [uOk,Bool.and_eq_true] at this
      exact itm_isSome.1 this.1
     rw [e1,Bool.false_and]
def chp (r:Request) (us:List Int) (s:Typ × Bool) (t:Typ):Typ × Bool :=
 bif hldB r us t && (!s.2 || (decide (t.fCost < s.1.fCost) || (t.fCost == s.1.fCost && decide (t.fId < s.1.fId)))) then (t,true) else s
def chpM (r:Request) (us:List Int):Typ × Bool:=r.fTypes.foldl (chp r us) (zTyp,false)
theorem i_cheap {fu:Nat} {r:Request} (h:Sm fu r) (us:List Int) (hl:us.length ≤ 1048576):d_impl_Cheapest fu r us = some (chpM r us):=by
 have hfu:=h.fu
 have ht:=h.types
 unfold d_impl_Cheapest
 have key:=lp r.fTypes (fun n (s:Typ × Bool) i=>d_impl_Cheapest_L1 fu r us n s.1 s.2 i) (fun l s=>some (l.foldl (chp r us) s)) (by omega) ?_ ?_ fu (zTyp,false) (by omega)
 · exact key
 · intro n s i x xs hx hd ih
   simp only [d_impl_Cheapest_L1.eq_2]
   unfold d_impl_Cheapest_L1_B d_impl_Cheapest_J1
   have ih':=fun a b=>ih (a,b)
   simp only at ih'
   obtain ⟨b,f⟩:=s
   simp only [hd,cond_true,hx,ob_some,i_holds h us x hl,ih',List.foldl_cons,chp]
   cases hldB r us x <;> cases f <;> cases decide (x.fCost < b.fCost) <;> cases x.fCost == b.fCost <;> cases decide (x.fId < b.fId) <;> rfl
 · intro n s i hd
   simp only [d_impl_Cheapest_L1.eq_2]
   unfold d_impl_Cheapest_L1_B
   simp only [hd,cond_false]
   rfl
end Go.Proofs.YthddjkokpfdbnaaGreat
/- Gross and BoxOf, by spec and by impl. -/
namespace Go.Proofs.YthddjkokpfdbnaaGreat
open Go
open Enc (rd ow)
open Arg (argv)
open Ret (retv)
open Wf (wf)
end Go.Proofs.YthddjkokpfdbnaaGreat
/- Within, Overlap, Pallets: by spec and by impl. -/
namespace Go.Proofs.YthddjkokpfdbnaaGreat
open Go
open Enc (rd ow)
open Arg (argv)
open Ret (retv)
open Wf (wf)
end Go.Proofs.YthddjkokpfdbnaaGreat
/- The two ways of packing, by spec and by impl. -/
namespace Go.Proofs.YthddjkokpfdbnaaGreat
open Go
open Enc (rd ow)
open Arg (argv)
open Ret (retv)
open Wf (wf)
def putF (g:List Int → Bool) (out:List (List Int)) (u:Int):List (List Int):=match fstI g out with
 | some i=>match out[i]? with
  | some x=>out.set i (x ++ [u])
  | none=>out
 | none=>out ++ [[u]]
def romB (r:Request) (u:Int) (l:List Int):Bool:=witB r (l ++ [u]) (masM r)
def fitF (r:Request) (out:List (List Int)) (u:Int):List (List Int):=putF (romB r u) out u
def nxtF (r:Request) (out:List (List Int)) (u:Int):List (List Int):=match out.getLast? with
 | some l=>bif romB r u l then out.set (out.length - 1) (l ++ [u]) else out ++ [[u]]
 | none=>[[u]]
theorem nxtF_some {r:Request} {out:List (List Int)} {l:List Int} (u:Int) (h:out.getLast? = some l):nxtF r out u = bif romB r u l then out.set (out.length - 1) (l ++ [u]) else out ++ [[u]]:=by unfold nxtF; rw [h]
def ordM (r:Request) (us:List Int):List Int:=(srt (dnk (us.map fun u=>volM r [u])) us.length).map fun p=>(ix us p).getD 0
def nfM (r:Request) (us:List Int):List (List Int):=(thrM r us).foldl (nxtF r) []
def ffM (r:Request) (us:List Int):List (List Int):=(ordM r (thrM r us)).foldl (fitF r) []
def pwM (r:Request) (us:List Int):List (List Int):=bif r.fWay == 1 then nfM r us else ffM r us
theorem putF_ok {g:List Int → Bool} {out:List (List Int)} {n:Nat} (u:Int) (h:okG n out):okG (n + 1) (putF g out u):=by
 obtain ⟨h1,h2⟩:=h
 unfold putF
 split
 · rename_i i hi
   split
   · rename_i x hx
     refine ⟨by simp; omega,fun l hl=>?_⟩
     rcases List.mem_or_eq_of_mem_set hl with hl | rfl
     · have:=h2 l hl; omega
     · have:=h2 x (List.mem_of_getElem? hx); simp; omega
   · exact ⟨by omega,fun l hl=>by have:=h2 l hl; omega⟩
 · refine ⟨by simp; omega,fun l hl=>?_⟩
   rcases List.mem_append.1 hl with hl | hl
   · have:=h2 l hl; omega
   · rw [List.mem_singleton.1 hl]; simp
theorem nxtF_ok {r:Request} {out:List (List Int)} {n:Nat} (u:Int) (h:okG n out):okG (n + 1) (nxtF r out u):=by
 obtain ⟨h1,h2⟩:=h
 unfold nxtF
 split
 · rename_i x hx
   have hm:=List.mem_of_getLast? hx
   cases romB r u x
   · refine ⟨by simp; omega,fun l hl=>?_⟩
     rcases List.mem_append.1 hl with hl | hl
     · have:=h2 l hl; omega
     · rw [List.mem_singleton.1 hl]; simp
   · refine ⟨by simp; omega,fun l hl=>?_⟩
     rcases List.mem_or_eq_of_mem_set hl with hl | rfl
     · have:=h2 l hl; omega
     · have:=h2 x hm; simp; omega
 · exact ⟨by simp,fun l hl=>by rw [List.mem_singleton.1 hl]; simp⟩
theorem fold_ok {F:List (List Int) → Int → List (List Int)} (hF:∀ out n u,okG n out → okG (n + 1) (F out u)):∀ (l:List Int) {out:List (List Int)} {n:Nat},okG n out → okG (n + l.length) (l.foldl F out)
 | [],_,_,h=>h
 | u :: l,out,n,h=>by
  have:=fold_ok hF l (hF out n u h)
  rw [List.foldl_cons,List.length_cons,show n + (l.length + 1) = n + 1 + l.length by omega]
  exact this
theorem thr_le {r:Request} {us:List Int} (h:us.length ≤ 12):(thrM r us).length ≤ 12:=Nat.le_trans (thrM_len r us) h
theorem ordM_len (r:Request) (us:List Int):(ordM r us).length = us.length:=by simp [ordM,srt_len]
theorem pwM_ok {r:Request} {us:List Int} (h:us.length ≤ 12):okG 12 (pwM r us):=by
 have ht:=thr_le (r:=r) h
 have h0:okG 0 ([]:List (List Int)):=⟨by simp,by simp⟩
 unfold pwM
 cases r.fWay == 1
 · have:=fold_ok (F:=fitF r) (fun out n u ho=>putF_ok u ho) (ordM r (thrM r us)) h0
   rw [ordM_len] at this
   exact ⟨by have:=this.1; simp only [cond_false]; unfold ffM; omega,fun l hl=>by have:=this.2 l hl; omega⟩
 · have:=fold_ok (F:=nxtF r) (fun out n u ho=>nxtF_ok u ho) (thrM r us) h0
   exact ⟨by have:=this.1; simp only [cond_true]; unfold nfM; omega,fun l hl=>by have:=this.2 l hl; omega⟩
theorem put_atF {g:List Int → Bool} {out:List (List Int)} {c:Int} {n:Nat} (h:okG n out) (hn:n ≤ 1048576) {β:Type} (k:List (List Int) → Option β) (a:Int) (ha:a = match fstI g out with | some i=>(i:Int) | none=>-1) :
    (bif (decide (a < 0)) then obind (apnd 24 out [([c]:List Int)]) fun x=>k x else obind (ix out a) fun x=>obind (apnd 8 x (([c]:List Int))) fun y=>obind (ix out a) fun z=>k (setx out a y)) = k (putF g out c):=by
 obtain ⟨h1,h2⟩:=h
 unfold putF
 cases hf:fstI g out with
 | none =>
  rw [hf] at ha
  simp only at ha
  subst ha
  rw [bif_true (by simp),ap1 (by simp; omega),ob_some]
 | some i =>
  rw [hf] at ha
  simp only at ha
  subst ha
  obtain ⟨x,hx,_⟩:=fstI_lt hf
  have:=h2 x (List.mem_of_getElem? hx)
  rw [bif_false (by simp),ix_nat,hx,ob_some,ap1 (by simp; omega),ob_some,ob_some]
  simp [setx,hx]
theorem thr_cls {r:Request} (h:(clsM r == 0) = false) (us:List Int):thrM r us = []:=by
 unfold thrM untM
 rw [h]
 apply List.filter_eq_nil_iff.2
 intro u _
 simp; omega
theorem last_at {α:Type} {out:List α} (h:out ≠ []):∃ l,out.getLast? = some l ∧ ix out ((out.length:Int) - 1) = some l:=by
 cases hl:out.getLast? with
 | none=>exact absurd (List.getLast?_eq_none_iff.1 hl) h
 | some l =>
  have hp:=List.length_pos_iff.2 h
  refine ⟨l,rfl,?_⟩
  rw [show (out.length:Int) - 1 = ((out.length - 1:Nat):Int) by omega,ix_nat,← List.getLast?_eq_getElem?,hl]
theorem i_next {fu:Nat} {r:Request} (h:Sm fu r) (us:List Int) (hl:us.length ≤ 1048575):d_impl_NextFit fu r us = some (nfM r us):=by
 have hfu:=h.fu
 have htl:=thrM_len r us
 unfold d_impl_NextFit nfM
 rw [i_there h us (by omega),ob_some]
 cases hc:clsM r == 0
 · rw [thr_cls hc]
   obtain ⟨m,rfl⟩:∃ m,fu = m + 1:=⟨fu - 1,by omega⟩
   rw [d_impl_NextFit_L1.eq_2]; rfl
 · have key:=lpI (thrM r us) (fun n (o:List (List Int)) i=>d_impl_NextFit_L1 fu r (thrM r us) n o i) (fun xs o=>some (xs.foldl (nxtF r) o)) (fun xs o=>∃ m,m + xs.length ≤ 1048575 ∧ okG m o) (by omega) ?_ ?_ fu [] ⟨0,by omega,by simp,by simp⟩ (by omega)
   · exact key
   · intro n o i u xs hx hd hI ih
     obtain ⟨m,hm,ho⟩:=hI
     simp only [List.length_cons] at hm
     have h1:=ho.1
     have h2:=ho.2
     have hI':=ih (nxtF r o u) ⟨m + 1,by omega,nxtF_ok u ho⟩
     simp only [d_impl_NextFit_L1.eq_2]
     unfold d_impl_NextFit_L1_B d_impl_NextFit_J1
     rw [hd,cond_true,hx,ob_some,List.foldl_cons,← hI',w64_id (by omega) (by omega)]
     by_cases he:o = []
     · subst he
       rw [decide_eq_false (by simp),cond_false,ap1 (by simp),ob_some]; rfl
     · obtain ⟨l,e1,e2⟩:=last_at he
       have hp:=List.length_pos_iff.2 he
       have hll:=h2 l (List.mem_of_getLast? e1)
       rw [decide_eq_true (by omega),cond_true,e2,ob_some,i_room1 h l u (by omega),ob_some,hc,Bool.true_and]
       rw [nxtF_some u e1]
       unfold romB
       cases witB r (l ++ [u]) (masM r)
       · rw [cond_false,cond_false,ap1 (by simp; omega),ob_some]
       · rw [cond_true,cond_true,ob_some,ap1 (by simp; omega),ob_some,ob_some]
         rw [show setx o ((o.length:Int) - 1) (l ++ [u]) = o.set (o.length - 1) (l ++ [u]) by unfold setx; congr 1; omega]
   · intro n o i hd _
     simp only [d_impl_NextFit_L1.eq_2]
     unfold d_impl_NextFit_L1_B
     rw [hd,cond_false]; rfl
theorem ord_ix {us:List Int} {p:Int} (h:0 ≤ p ∧ p < us.length):ix us p = some ((ix us p).getD 0):=by
 have:=ix_i (l:=us) (i:=p.toNat) (by omega)
 rw [show ((p.toNat:Nat):Int) = p by omega] at this
 rw [this]; rfl
theorem foldl_map' {α β γ:Type} (f:γ → β → γ) (g:α → β):∀ (l:List α) (s:γ),(l.map g).foldl f s = l.foldl (fun s x=>f s (g x)) s
 | [],_=>rfl
 | x :: l,s=>by rw [List.map_cons,List.foldl_cons,List.foldl_cons,foldl_map' f g l]
theorem i_first {fu:Nat} {r:Request} (h:Sm fu r) (us:List Int) (hl:us.length < 20):d_impl_FirstFit fu r us = some (ffM r us):=by
 have hfu:=h.fu
 have htl:=thrM_len r us
 unfold d_impl_FirstFit ffM ordM
 rw [i_there h us (by omega),ob_some]
 obtain ⟨t,ht⟩:∃ t,t = thrM r us:=⟨_,rfl⟩
 rw [← ht] at htl ⊢
 have key:=lpI t (fun n (o:List Int) i=>d_impl_FirstFit_L2 fu r t n o i) (fun xs o=>obind (d_impl_SortDown fu (o ++ xs.map fun u=>volM r [u])) fun x=>d_impl_FirstFit_L1 fu r t x fu [] 0) (fun xs o=>o.length + xs.length ≤ 20) (by omega) ?_ ?_ fu [] (by simp; omega) (by omega)
 · rw [key,List.nil_append,i_down hfu (by simp; omega),ob_some,foldl_map',List.length_map]
   have hsl:=srt_len (dnk (t.map fun u=>volM r [u])) t.length
   have hsm:=fun x=>srt_mem (k:=dnk (t.map fun u=>volM r [u])) (n:=t.length) (x:=x)
   generalize srt (dnk (t.map fun u=>volM r [u])) t.length = S at hsl hsm ⊢
   cases hc:clsM r == 0
   · have:t = []:=by rw [ht]; exact thr_cls hc us
     subst this
     have:S = []:=List.length_eq_zero_iff.1 (by simpa using hsl)
     subst this
     obtain ⟨m,rfl⟩:∃ m,fu = m + 1:=⟨fu - 1,by omega⟩
     rw [d_impl_FirstFit_L1.eq_2]; rfl
   · have key1:=lpI S (fun n (o:List (List Int)) i=>d_impl_FirstFit_L1 fu r t S n o i) (fun xs o=>some (xs.foldl (fun s p=>fitF r s ((ix t p).getD 0)) o)) (fun xs o=>(∃ m,m + xs.length ≤ 20 ∧ okG m o) ∧ ∀ p ∈ xs,0 ≤ p ∧ p < t.length) (by omega) ?_ ?_ fu [] ⟨⟨0,by omega,by simp,by simp⟩,fun p hp=>(hsm p).1 hp⟩ (by omega)
     · exact key1
     · intro n o i p xs hx hd hI ih
       obtain ⟨⟨m,hm,ho⟩,hin⟩:=hI
       simp only [List.length_cons] at hm
       have hp:=ord_ix (hin p (by simp))
       simp only [d_impl_FirstFit_L1.eq_2]
       unfold d_impl_FirstFit_L1_B d_impl_FirstFit_J1
       rw [hd,cond_true,hx,ob_some,hp,ob_some,List.foldl_cons]
       generalize (ix t p).getD 0 = u
       rw [i_idxInts (fun y=>d_impl_FirstFit_1 fu y r u) (romB r u) (fun l hl=>by
        have:=ho.2 l hl
        unfold d_impl_FirstFit_1 romB
        rw [i_room1 h l u (by omega),ob_some,hc,Bool.true_and]) (by have:=ho.1; omega) (by have:=ho.1; omega),ob_some]
       refine (put_atF (g:=romB r u) (c:=u) ho (by omega) (fun x=>d_impl_FirstFit_L1 fu r t S n x (w64 (i + 1))) (fndI (romB r u) o 0) (by
        rw [fndI_fst]
        cases fstI (romB r u) o <;> simp)).trans ?_
       exact ih _ ⟨⟨m + 1,by omega,putF_ok u ho⟩,fun q hq=>hin q (by simp [hq])⟩
     · intro n o i hd _
       simp only [d_impl_FirstFit_L1.eq_2]
       unfold d_impl_FirstFit_L1_B
       rw [hd,cond_false]; rfl
 · intro n o i u xs hx hd hI ih
   simp only [List.length_cons] at hI
   simp only [d_impl_FirstFit_L2.eq_2]
   unfold d_impl_FirstFit_L2_B
   rw [hd,cond_true,hx,ob_some,i_volOf h [u] (by simp) (by simp; omega),ob_some,ap1 (by simp; omega),ob_some,ih _ (by simp; omega)]
   simp
 · intro n o i hd _
   simp only [d_impl_FirstFit_L2.eq_2]
   unfold d_impl_FirstFit_L2_B
   rw [hd,cond_false]; simp
theorem i_way {fu:Nat} {r:Request} (h:Sm fu r) (us:List Int) (hl:us.length < 20):d_impl_PackWay fu r us = some (pwM r us):=by
 unfold d_impl_PackWay pwM
 rw [i_next h us (by omega),i_first h us hl]
 cases r.fWay == 1 <;> rfl
end Go.Proofs.YthddjkokpfdbnaaGreat
/- RivalBy of spec and of impl. -/
namespace Go.Proofs.YthddjkokpfdbnaaGreat
open Go
open Enc (rd ow)
open Arg (argv)
open Ret (retv)
open Wf (wf)
theorem ix_in {α:Type} {l:List α} {i:Int} (h0:0 ≤ i) (h1:i < l.length):∃ x,ix l i = some x:=by
 obtain ⟨j,rfl⟩:∃ j:Nat,i = j:=⟨i.toNat,by omega⟩
 exact ⟨_,ix_i (by omega)⟩
end Go.Proofs.YthddjkokpfdbnaaGreat
/- Shelves, layers, loads, spots of spec: what they compute, and what holds of them. -/
namespace Go.Proofs.YthddjkokpfdbnaaGreat
open Go
open Enc (rd ow)
open Arg (argv)
open Ret (retv)
open Wf (wf)
structure ShI (p:Pallet) (n:Nat) (s:Shelf):Prop where
 ne:s.fList ≠ []
 inn:∀ i ∈ s.fList,0 ≤ i ∧ i < n
 w:1 ≤ s.fW ∧ s.fW ≤ p.fW
 d:1 ≤ s.fD ∧ s.fD ≤ p.fD
 h:1 ≤ s.fH ∧ s.fH ≤ p.fH
 g:1 ≤ s.fGram ∧ s.fGram ≤ p.fGram
end Go.Proofs.YthddjkokpfdbnaaGreat
/- Layers and loads of spec. -/
namespace Go.Proofs.YthddjkokpfdbnaaGreat
open Go
open Enc (rd ow)
open Arg (argv)
open Ret (retv)
open Wf (wf)
structure LyI (p:Pallet) (n:Nat) (s:Layer):Prop where
 ne:s.fShelves ≠ []
 inn:∀ i ∈ s.fShelves,0 ≤ i ∧ i < n
 d:1 ≤ s.fD ∧ s.fD ≤ p.fD
 h:1 ≤ s.fH ∧ s.fH ≤ p.fH
 g:1 ≤ s.fGram ∧ s.fGram ≤ p.fGram
structure LdI (p:Pallet) (n:Nat) (s:Load):Prop where
 ne:s.fLayers ≠ []
 inn:∀ i ∈ s.fLayers,0 ≤ i ∧ i < n
 h:1 ≤ s.fH ∧ s.fH ≤ p.fH
 g:1 ≤ s.fGram ∧ s.fGram ≤ p.fGram
end Go.Proofs.YthddjkokpfdbnaaGreat
/- The spots of boxes, by spec. -/
namespace Go.Proofs.YthddjkokpfdbnaaGreat
open Go
open Enc (rd ow)
open Arg (argv)
open Ret (retv)
open Wf (wf)
end Go.Proofs.YthddjkokpfdbnaaGreat
/- The units of a group, by spec and by impl. -/
namespace Go.Proofs.YthddjkokpfdbnaaGreat
open Go
open Enc (rd ow)
open Arg (argv)
open Ret (retv)
open Wf (wf)
def hasG (r:Request) (k:Int):Bool:=inb k 0 (((grpM r).length:Int) - 1)
theorem cls_of_grp {r:Request} {k:Int} (h:hasG r k = true):clsM r = 0:=by
 unfold hasG at h
 rw [inb_iff] at h
 by_cases hc:clsM r = 0
 · exact hc
 · have:grpM r = []:=by
     unfold grpM prsM
     rw [show (clsM r == 0) = false by simp [hc]]
     rfl
   rw [this] at h
   simp at h
   omega
theorem ofG_step (r:Request) (g:List Int) (u i:Int) (us:List Int) {x:Item} (hx:ix r.fItems i = some x):ofG r g u (i :: us) = bif g.contains x.fClass then u :: ofG r g (u + 1) us else ofG r g (u + 1) us:=by
 rw [ofG,hx]
theorem s_uof {fu:Nat} {r:Request} (h:Sm fu r) (k:Int):d_spec_UnitsOf fu r k = some (uofM r k):=by
 have hfu:=h.fu
 unfold d_spec_UnitsOf uofM
 rw [s_grp h,ob_some,w64_grp,s_in,ob_some]
 cases hg:inb k 0 (((grpM r).length:Int) - 1)
 · rw [Bool.not_false,cond_true]
   have:ix (grpM r) k = none:=by
    have hk:¬ (0 ≤ k ∧ k ≤ ((grpM r).length:Int) - 1):=by intro hk; rw [(inb_iff).2 hk] at hg; cases hg
    unfold ix
    by_cases h0:0 ≤ k
    · rw [if_pos h0,List.getElem?_eq_none (by omega)]
    · rw [if_neg h0]
   rw [this]
 · have hc:=cls_of_grp hg
   rw [inb_iff] at hg
   obtain ⟨j,rfl⟩:∃ j:Nat,k = j:=⟨k.toNat,by omega⟩
   have hj:j < (grpM r).length:=by omega
   have hgl:=(grpM_ok r).2 _ (List.getElem_mem hj)
   rw [Bool.not_true,cond_false,s_l6 h (clsM_zero hc).1,ob_some,ix_i hj]
   have e:untM r = l6M r:=by unfold untM; rw [show (clsM r == 0) = true by simp [hc],cond_true]
   simp only [e]
   have hlen:(l6M r).length ≤ 12:=l6M_len (clsM_zero hc).1
   have:=lpPI (l6M r) (fun n out i=>d_spec_UnitsOf_L1 fu r (j:Int) (grpM r) (l6M r) n out i) (fun pre xs out=>some (out ++ ofG r (grpM r)[j] (pre.length:Int) xs)) (fun pre xs out=>out.length + xs.length ≤ 12) (by omega) ?_ ?_ fu [] (by simpa using hlen) (by omega)
   · simpa using this
   · intro n out pre i xs hl hx hd hI ih
     simp only [List.length_cons] at hI
     have hi:i ∈ untM r:=by rw [e,hl]; simp
     have hi2:=untM_mem hi
     obtain ⟨q,rfl⟩:∃ q:Nat,i = q:=⟨i.toNat,by omega⟩
     have hq:q < r.fItems.length:=by omega
     simp only [d_spec_UnitsOf_L1.eq_2]
     unfold d_spec_UnitsOf_L1_B d_spec_UnitsOf_J1
     simp only [hd,cond_true,hx,ob_some,ix_i hj,ix_i hq,s_has (show (grpM r)[j].length ≤ 1048576 by omega) (show (grpM r)[j].length < fu by omega)]
     rw [ofG_step r _ _ _ _ (ix_i hq)]
     cases (grpM r)[j].contains r.fItems[q].fClass
     · rw [cond_false,cond_false,ih _ (by omega)]
       simp
     · rw [cond_true,cond_true,ap1 (by simp; omega),ob_some,ih _ (by simp; omega)]
       simp
   · intro n out hd hI
     simp only [d_spec_UnitsOf_L1.eq_2]
     unfold d_spec_UnitsOf_L1_B
     simp only [hd,cond_false]
     simp [ofG]
theorem i_uof {fu:Nat} {r:Request} (h:Sm fu r) (k:Int):d_impl_UnitsOf fu r k = some (uofM r k):=by
 have hfu:=h.fu
 unfold d_impl_UnitsOf uofM
 rw [i_grp h,ob_some,w64_grp,i_in,ob_some]
 cases hg:inb k 0 (((grpM r).length:Int) - 1)
 · rw [Bool.not_false,cond_true]
   have:ix (grpM r) k = none:=by
    have hk:¬ (0 ≤ k ∧ k ≤ ((grpM r).length:Int) - 1):=by intro hk; rw [(inb_iff).2 hk] at hg; cases hg
    unfold ix
    by_cases h0:0 ≤ k
    · rw [if_pos h0,List.getElem?_eq_none (by omega)]
    · rw [if_neg h0]
   rw [this]
 · have hc:=cls_of_grp hg
   rw [inb_iff] at hg
   obtain ⟨j,rfl⟩:∃ j:Nat,k = j:=⟨k.toNat,by omega⟩
   have hj:j < (grpM r).length:=by omega
   have hgl:=(grpM_ok r).2 _ (List.getElem_mem hj)
   rw [Bool.not_true,cond_false,i_unt h,ob_some,ix_i hj]
   have hlen:=untM_len r
   have:=lpPI (untM r) (fun n out i=>d_impl_UnitsOf_L1 fu r (j:Int) (grpM r) (untM r) n out i) (fun pre xs out=>some (out ++ ofG r (grpM r)[j] (pre.length:Int) xs)) (fun pre xs out=>out.length + xs.length ≤ 12) (by omega) ?_ ?_ fu [] (by simpa using hlen) (by omega)
   · simpa using this
   · intro n out pre i xs hl hx hd hI ih
     simp only [List.length_cons] at hI
     have hi:i ∈ untM r:=by rw [hl]; simp
     have hi2:=untM_mem hi
     obtain ⟨q,rfl⟩:∃ q:Nat,i = q:=⟨i.toNat,by omega⟩
     have hq:q < r.fItems.length:=by omega
     simp only [d_impl_UnitsOf_L1.eq_2]
     unfold d_impl_UnitsOf_L1_B d_impl_UnitsOf_J1
     simp only [hd,cond_true,hx,ob_some,ix_i hj,ix_i hq,i_has (show (grpM r)[j].length ≤ 1048576 by omega) (show (grpM r)[j].length < fu by omega)]
     rw [ofG_step r _ _ _ _ (ix_i hq)]
     cases (grpM r)[j].contains r.fItems[q].fClass
     · rw [cond_false,cond_false,ih _ (by omega)]
       simp
     · rw [cond_true,cond_true,ap1 (by simp; omega),ob_some,ih _ (by simp; omega)]
       simp
   · intro n out hd hI
     simp only [d_impl_UnitsOf_L1.eq_2]
     unfold d_impl_UnitsOf_L1_B
     simp only [hd,cond_false]
     simp [ofG]
end Go.Proofs.YthddjkokpfdbnaaGreat
