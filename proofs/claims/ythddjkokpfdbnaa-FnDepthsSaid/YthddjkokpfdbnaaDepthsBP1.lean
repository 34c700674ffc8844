import Derived.Test.YthddjkokpfdbnaaDepthsBD
import Derived.Test.YthddjkokpfdbnaaM3
set_option linter.unusedSimpArgs false
set_option linter.unusedVariables false
/- What is drawn is there, and in bounds. -/
namespace Go.Proofs.Ythddjkokpfdbnaa
open Go
open Enc (rd ow)
open Arg (argv)
open Ret (retv)
open Wf (wf)
def Tot {α:Type} (o:Option α) (Q:α → Prop):Prop:=∃ x,o = some x ∧ Q x
theorem Tot.mk {α:Type} {x:α} {Q:α → Prop} (h:Q x):Tot (some x) Q:=⟨x,rfl,h⟩
theorem Tot.of {α:Type} {o:Option α} {x:α} {Q:α → Prop} (e:o = some x) (h:Q x):Tot o Q:=⟨x,e,h⟩
theorem Tot.bind {α β:Type} {m:Option α} {k:α → Option β} {R:α → Prop} {Q:β → Prop} (h:Tot m R) (hk:∀ x,R x → Tot (k x) Q):Tot (obind m k) Q:=by
 obtain ⟨x,rfl,hx⟩:=h
 exact hk x hx
theorem Tot.bif {α:Type} {c:Bool} {a b:Option α} {Q:α → Prop} (h1:c = true → Tot a Q) (h2:c = false → Tot b Q):Tot (bif c then a else b) Q:=by
 cases c
 · exact h2 rfl
 · exact h1 rfl
theorem Tot.imp {α:Type} {o:Option α} {Q R:α → Prop} (h:Tot o Q) (hi:∀ x,Q x → R x):Tot o R:=by
 obtain ⟨x,e,hx⟩:=h
 exact ⟨x,e,hi x hx⟩
theorem Tot.ap {α β:Type} {bytes:Nat} {xs ys:List α} {k:List α → Option β} {Q:β → Prop} (h:(xs.length + ys.length) * bytes ≤ 140737488355328) (hk:Tot (k (xs ++ ys)) Q):Tot (obind (apnd bytes xs ys) k) Q:=by
 rw [ap1 h]; exact hk
theorem Tot.ix {α β:Type} {l:List α} {i:Int} {k:α → Option β} {Q:β → Prop} (h:0 ≤ i ∧ i < l.length) (hk:∀ x,x ∈ l → Tot (k x) Q):Tot (obind (ix l i) k) Q:=by
 have e:=ix_i (l:=l) (i:=i.toNat) (by omega)
 rw [show ((i.toNat:Nat):Int) = i by omega] at e
 rw [e]
 exact hk _ (List.getElem_mem _)
theorem lpT {σ β:Type} (b:Int) (L:Nat → σ → Int → Option β) (Q:β → Prop) (I:Int → σ → Prop) (hb:b ≤ 1099511627776)
    (hs:∀ n s (i:Int),0 ≤ i → i < b → I i s → (∀ s',I (i + 1) s' → Tot (L n s' (w64 (i + 1))) Q) → Tot (L (n + 1) s i) Q)
    (he:∀ n s (i:Int),0 ≤ i → b ≤ i → I i s → Tot (L (n + 1) s i) Q):∀ (m:Nat) n s (a:Int),0 ≤ a → (b - a).toNat = m → m < n → I a s → Tot (L n s a) Q:=by
 intro m
 induction m with
 | zero =>
  intro n s a ha hm hn hI
  obtain ⟨n,rfl⟩:∃ k,n = k + 1:=⟨n - 1,by omega⟩
  exact he n s a ha (by omega) hI
 | succ m ih =>
  intro n s a ha hm hn hI
  obtain ⟨n,rfl⟩:∃ k,n = k + 1:=⟨n - 1,by omega⟩
  refine hs n s a ha (by omega) hI fun s' hI'=>?_
  rw [w64_id (by omega) (by omega)]
  exact ih n s' (a + 1) (by omega) (by omega) (by omega) hI'
def CO (b:List U8) (c:Cur):Prop:=c.fb = b ∧ 0 ≤ c.fi ∧ b.length ≤ 1048576
theorem CO.re {b:List U8} {c c':Cur} (h:CO b c) (h':CO b c'):CO b ⟨c.fb,c'.fi,c'.fh⟩:=⟨h.1,h'.2⟩
theorem CO.re' {b:List U8} {c':Cur} (h':CO b c'):CO b ⟨b,c'.fi,c'.fh⟩:=⟨rfl,h'.2⟩
theorem and255 (x:Int):0 ≤ IntKind.wrap .i64 (((BitVec.ofInt (IntKind.bits .i64) x &&& BitVec.ofInt (IntKind.bits .i64) 255).toNat:Nat):Int) ∧ IntKind.wrap .i64 (((BitVec.ofInt (IntKind.bits .i64) x &&& BitVec.ofInt (IntKind.bits .i64) 255).toNat:Nat):Int) ≤ 255:=by
 have h:(BitVec.ofInt (IntKind.bits .i64) x &&& BitVec.ofInt (IntKind.bits .i64) 255).toNat ≤ 255:=by
  rw [BitVec.toNat_and]
  have h2:(BitVec.ofInt (IntKind.bits .i64) 255).toNat = 255:=by decide
  rw [h2]
  exact Nat.and_le_right
 have e:=w64_id (n:=(((BitVec.ofInt (IntKind.bits .i64) x &&& BitVec.ofInt (IntKind.bits .i64) 255).toNat:Nat):Int)) (by omega) (by omega)
 unfold w64 at e
 rw [e]
 omega
theorem dr_byte {fu:Nat} {b:List U8} {c:Cur} (h:CO b c):Tot (d_spec_l1Byte fu c) fun x=>(0 ≤ x.1 ∧ x.1 ≤ 255) ∧ CO b x.2:=by
 obtain ⟨h1,h2,h3⟩:=h
 unfold d_spec_l1Byte
 refine Tot.bif (fun hc=>?_) fun hc=>?_
 · have hlt:=of_decide_eq_true hc
   refine Tot.ix ⟨h2,hlt⟩ fun x _=>Tot.mk ⟨and255 _,h1,?_,h3⟩
   show 0 ≤ w64 (c.fi + 1)
   rw [h1] at hlt
   rw [w64_id (by omega) (by omega)]; omega
 · exact Tot.mk ⟨and255 _,h1,h2,h3⟩
theorem dr_below {fu:Nat} {b:List U8} {c:Cur} (h:CO b c) (n:Int):Tot (d_spec_l1Below fu c n) fun x=>(0 ≤ x.1 ∧ (0 < n → x.1 < n)) ∧ CO b x.2:=by
 unfold d_spec_l1Below
 refine Tot.bif (fun hc=>?_) fun hc=>?_
 · have hlt:=of_decide_eq_true hc
   exact Tot.mk ⟨⟨Int.le_refl _,fun h=>by omega⟩,h⟩
 · have hn:0 < n:=by simpa using hc
   refine Tot.bif (fun hc=>?_) fun hc=>?_
   · refine Tot.bind (dr_byte h) fun x hx=>?_
     rw [odiv_ok (by omega),ob_some]
     exact Tot.mk ⟨⟨Int.tmod_nonneg _ hx.1.1,fun _=>Int.tmod_lt_of_pos _ hn⟩,h.re hx.2⟩
   · refine Tot.bind (dr_byte h) fun x hx=>Tot.bind (dr_byte (h.re hx.2)) fun y hy=>Tot.bind (dr_byte (h.re hy.2)) fun z hz=>Tot.bind (dr_byte (h.re hz.2)) fun q hq=>?_
     rw [odiv_ok (by omega),ob_some]
     obtain ⟨⟨x0,x1⟩,_⟩:=hx
     obtain ⟨⟨y0,y1⟩,_⟩:=hy
     obtain ⟨⟨z0,z1⟩,_⟩:=hz
     obtain ⟨⟨q0,q1⟩,hq2⟩:=hq
     refine Tot.mk ⟨⟨?_,fun _=>Int.tmod_lt_of_pos _ hn⟩,h.re hq2⟩
     apply Int.tmod_nonneg
     simp only [w64_id (n:=x.1 * 16777216) (by omega) (by omega),w64_id (n:=y.1 * 65536) (by omega) (by omega),w64_id (n:=z.1 * 256) (by omega) (by omega)]
     rw [w64_id (n:=x.1 * 16777216 + y.1 * 65536) (by omega) (by omega),w64_id (n:=x.1 * 16777216 + y.1 * 65536 + z.1 * 256) (by omega) (by omega),w64_id (by omega) (by omega)]
     omega
theorem dr_once {fu:Nat} {b:List U8} {c:Cur} (h:CO b c) (n:Int):Tot (d_spec_l1Once fu c n) fun x=>CO b x.2:=by
 unfold d_spec_l1Once
 exact Tot.bind (dr_below h n) fun x hx=>Tot.mk (h.re hx.2)
theorem dr_pick {fu:Nat} {b:List U8} {c:Cur} (h:CO b c) (l:List Int) (hl:0 < l.length):Tot (d_spec_l1PickInt fu c l) fun x=>x.1 ∈ l ∧ CO b x.2:=by
 unfold d_spec_l1PickInt
 exact Tot.bind (dr_below h _) fun x hx=>Tot.ix ⟨hx.1.1,hx.1.2 (by omega)⟩ fun y hy=>Tot.mk ⟨hy,h.re hx.2⟩
theorem dr_new {fu:Nat} {b:List U8} (hb:b.length ≤ 1048576) (hf:1048577 ≤ fu):Tot (d_spec_l1New fu b) (CO b):=by
 unfold d_spec_l1New
 refine lpT (b.length:Int) (fun n s i=>d_spec_l1New_L1 fu b n s i) (CO b) (fun _ _=>True) (by omega) ?_ ?_ b.length fu _ 0 (by omega) (by omega) (by omega) trivial
 · intro n s i h0 h1 _ ih
   simp only [d_spec_l1New_L1.eq_2]
   unfold d_spec_l1New_L1_B d_spec_l1New_J1
   rw [bif_true (by simpa using h1)]
   refine Tot.bif (fun hc=>?_) fun hc=>?_
   · exact Tot.ix ⟨h0,h1⟩ fun x _=>ih _ trivial
   · exact Tot.mk ⟨rfl,by simp,hb⟩
 · intro n s i h0 h1 _
   simp only [d_spec_l1New_L1.eq_2]
   unfold d_spec_l1New_L1_B
   rw [bif_false (by simp; omega)]
   exact Tot.mk ⟨rfl,by simp,hb⟩
end Go.Proofs.Ythddjkokpfdbnaa
/- spec's sorting by halves is the plain function of M1. -/
namespace Go.Proofs.Ythddjkokpfdbnaa
open Go
open Enc (rd ow)
open Arg (argv)
open Ret (retv)
open Wf (wf)
theorem kf_ix {keys:List Int} {p:Int} (h:0 ≤ p ∧ p < keys.length):ix keys p = some (kf keys p):=by
 have h1:p.toNat < keys.length:=by omega
 unfold kf ix
 rw [if_pos h.1,List.getElem?_eq_getElem h1]
 rfl
end Go.Proofs.Ythddjkokpfdbnaa
/- The first layers of spec and of impl: bounds, table, names, fitting, the reason, the units. Each is the plain function of M0. -/
namespace Go.Proofs.Ythddjkokpfdbnaa
open Go
open Enc (rd ow)
open Arg (argv)
open Ret (retv)
open Wf (wf)
structure Sm (fu:Nat) (r:Request):Prop where
 fu:2097153 ≤ fu
 pairs:r.fPairs.length ≤ 1048576
 types:r.fTypes.length ≤ 1048576
 items:r.fItems.length ≤ 1048576
end Go.Proofs.Ythddjkokpfdbnaa
/- Names, table, fitting, the reason of spec and of impl. Each is the plain function of M0. -/
namespace Go.Proofs.Ythddjkokpfdbnaa
open Go
open Enc (rd ow)
open Arg (argv)
open Ret (retv)
open Wf (wf)
end Go.Proofs.Ythddjkokpfdbnaa
/- The units of an order, by spec and by impl. -/
namespace Go.Proofs.Ythddjkokpfdbnaa
open Go
open Enc (rd ow)
open Arg (argv)
open Ret (retv)
open Wf (wf)
end Go.Proofs.Ythddjkokpfdbnaa
/- Kinds, groups and the units of a group, by spec and by impl. -/
namespace Go.Proofs.Ythddjkokpfdbnaa
open Go
open Enc (rd ow)
open Arg (argv)
open Ret (retv)
open Wf (wf)
end Go.Proofs.Ythddjkokpfdbnaa
/- slices.DeleteFunc at numbers, places. -/
namespace Go.Proofs.Ythddjkokpfdbnaa
open Go
open Enc (rd ow)
open Arg (argv)
open Ret (retv)
open Wf (wf)
theorem i_places {fu:Nat} (n:Nat) (hn:n ≤ 1048576) (hf:n < fu):d_impl_places fu (n:Int) = some (ints 0 n):=by
 unfold d_impl_places
 have:=lpNI (n:Int) (fun k out i=>d_impl_places_L1 fu (n:Int) k out i) (fun xs out=>some (out ++ xs)) (fun xs out=>out.length + xs.length ≤ 1048576) (by omega) ?_ ?_ n fu [] 0 (by omega) (by omega) hf (by simpa [ints_len] using hn)
 · simpa using this
 · intro k out i xs h0 h1 hd hI ih
   simp only [List.length_cons] at hI
   simp only [d_impl_places_L1.eq_2]
   unfold d_impl_places_L1_B
   rw [hd,cond_true,ap1 (by simp; omega),ob_some,ih _ (by simp; omega)]
   simp
 · intro k out i hd hI
   simp only [d_impl_places_L1.eq_2]
   unfold d_impl_places_L1_B
   simp only [hd,cond_false]
   simp
end Go.Proofs.Ythddjkokpfdbnaa
/- SortDown, by spec and by impl (short lists). -/
namespace Go.Proofs.Ythddjkokpfdbnaa
open Go
open Enc (rd ow)
open Arg (argv)
open Ret (retv)
open Wf (wf)
def dnk (keys:List Int) (p:Int):Int:=- kf keys p
def insL (k:Int → Int) (x:Int):List Int → List Int → List Int
 | [],mid=>x :: mid
 | y :: ys,mid=>if k x < k y then insL k x ys (y :: mid) else (y :: ys).reverse ++ x :: mid
theorem insL_perm (k:Int → Int) (x:Int):∀ (ys mid:List Int),(insL k x ys mid).Perm (ys.reverse ++ x :: mid)
 | [],mid=>List.Perm.refl _
 | y :: ys,mid=>by
  unfold insL
  split
  · refine (insL_perm k x ys (y :: mid)).trans ?_
    rw [List.reverse_cons,List.append_assoc]
    refine List.Perm.append_left _ ?_
    exact List.Perm.swap _ _ _
  · exact List.Perm.refl _
theorem insL_sorted (k:Int → Int) (x:Int):∀ (ys mid:List Int),(ys.reverse ++ mid).Pairwise (lx k) → (∀ m ∈ mid,lx k x m) → (∀ p ∈ ys,p < x) → (insL k x ys mid).Pairwise (lx k)
 | [],mid,h,hm,_=>by
  unfold insL
  exact List.pairwise_cons.2 ⟨hm,by simpa using h⟩
 | y :: ys,mid,h,hm,hy=>by
  unfold insL
  rw [List.reverse_cons,List.append_assoc] at h
  split
  · rename_i hk
    refine insL_sorted k x ys (y :: mid) (by simpa using h) ?_ (fun p hp=>hy p (by simp [hp]))
    intro m hmm
    rcases List.mem_cons.1 hmm with rfl | hmm
    · exact .inl hk
    · exact hm m hmm
  · rename_i hk
    have hyx:lx k y x:=by
     have:=hy y (by simp)
     by_cases he:k y < k x
     · exact .inl he
     · exact .inr ⟨by omega,this⟩
    rw [List.reverse_cons,List.append_assoc]
    obtain ⟨h1,h2,h3⟩:=List.pairwise_append.1 h
    simp only [List.singleton_append] at h2 h3
    refine List.pairwise_append.2 ⟨h1,?_,?_⟩
    · simp only [List.singleton_append]
      obtain ⟨h4,h5⟩:=List.pairwise_cons.1 h2
      refine List.pairwise_cons.2 ⟨?_,List.pairwise_cons.2 ⟨hm,h5⟩⟩
      intro m hmm
      rcases List.mem_cons.1 hmm with rfl | hmm
      · exact hyx
      · exact h4 m hmm
    · intro a ha b hb
      simp only [List.singleton_append,List.mem_cons] at hb
      have hay:=h3 a ha y (by simp)
      rcases hb with rfl | rfl | hb
      · exact hay
      · exact lx_trans hay hyx
      · exact h3 a ha b (by simp [hb])
theorem insL_app (k:Int → Int) (x:Int):∀ (ys mid rest:List Int),insL k x ys (mid ++ rest) = insL k x ys mid ++ rest
 | [],mid,rest=>rfl
 | y :: ys,mid,rest=>by
  unfold insL
  split
  · exact insL_app k x ys (y :: mid) rest
  · simp
theorem ix_m {A:List Int} {y:Int} {B:List Int} {n:Nat} (h:A.length = n):ix (A ++ y :: B) (n:Int) = some y:=by subst h; rw [ix_nat]; simp
theorem setx_m {A:List Int} {y z:Int} {B:List Int} {n:Nat} (h:A.length = n):setx (A ++ y :: B) (n:Int) z = A ++ z :: B:=by subst h; simp [setx]
theorem ins_loop {fu:Nat} {f:Int → Int → Option Int} {k:Int → Int} (K9:List Int → Int → Option (List Int)) (i0:Int) (hf:∀ a b c,f a b = some c → (c < 0 ↔ k a < k b)) (x:Int) :
    ∀ (ys mid:List Int) (n:Nat),(∀ p ∈ ys,∃ c,f x p = some c) → ys.length < n → ys.length ≤ 1048576 → d_slices_insertionSortCmpFunc_int_L1 fu K9 0 f i0 n (ys.reverse ++ x :: mid) (ys.length:Int) = K9 (insL k x ys mid) (w64 (i0 + 1))
 | [],mid,n,_,hn,_=>by
  obtain ⟨n,rfl⟩:∃ j,n = j + 1:=⟨n - 1,by omega⟩
  rw [d_slices_insertionSortCmpFunc_int_L1.eq_2]
  unfold d_slices_insertionSortCmpFunc_int_L1_B insL
  rw [bif_false (by simp)]; rfl
 | y :: ys,mid,n,hy,hn,hl=>by
  simp only [List.length_cons] at hn hl
  obtain ⟨n,rfl⟩:∃ j,n = j + 1:=⟨n - 1,by omega⟩
  obtain ⟨c,hc⟩:=hy y (by simp)
  have hw:w64 (((y :: ys).length:Int) - 1) = (ys.length:Int):=by simp only [List.length_cons]; rw [w64_id (by omega) (by omega)]; omega
  have e0:(y :: ys).reverse ++ x :: mid = ys.reverse ++ y :: x :: mid:=by simp
  have e1:ix ((y :: ys).reverse ++ x :: mid) ((y :: ys).length:Int) = some x:=ix_m (by simp)
  have e2:ix ((y :: ys).reverse ++ x :: mid) (ys.length:Int) = some y:=by rw [e0]; exact ix_m (by simp)
  rw [d_slices_insertionSortCmpFunc_int_L1.eq_2]
  unfold d_slices_insertionSortCmpFunc_int_L1_B insL
  rw [bif_true (by simp),e1,ob_some,hw,e2,ob_some,hc,ob_some]
  by_cases hk:k x < k y
  · rw [if_pos hk,decide_eq_true ((hf _ _ _ hc).2 hk),cond_true]
    unfold d_slices_insertionSortCmpFunc_int_J1
    have e3:setx ((y :: ys).reverse ++ x :: mid) ((y :: ys).length:Int) y = (y :: ys).reverse ++ y :: mid:=setx_m (by simp)
    have e4:ix ((y :: ys).reverse ++ y :: mid) (ys.length:Int) = some y:=by rw [show (y :: ys).reverse ++ y :: mid = ys.reverse ++ y :: y :: mid by simp]; exact ix_m (by simp)
    have e5:setx ((y :: ys).reverse ++ y :: mid) (ys.length:Int) x = ys.reverse ++ x :: y :: mid:=by rw [show (y :: ys).reverse ++ y :: mid = ys.reverse ++ y :: y :: mid by simp]; exact setx_m (by simp)
    rw [hw,e2,ob_some,e1,ob_some,ob_some,e3,e4,ob_some,e5]
    exact ins_loop K9 i0 hf x ys (y :: mid) n (fun p hp=>hy p (by simp [hp])) (by omega) (by omega)
  · rw [if_neg hk,decide_eq_false (fun h=>hk ((hf _ _ _ hc).1 h)),cond_false]
def insA (k:Int → Int):List Int → List Int → List Int
 | P,[]=>P
 | P,x :: xs=>insA k (insL k x P.reverse []) xs
theorem insA_spec (k:Int → Int):∀ (xs P:List Int),P.Pairwise (lx k) → (∀ p ∈ P,∀ x ∈ xs,p < x) → xs.Pairwise (· < ·) → (insA k P xs).Perm (P ++ xs) ∧ (insA k P xs).Pairwise (lx k)
 | [],P,h,_,_=>by simpa [insA] using h
 | x :: xs,P,h,hp,hx=>by
  obtain ⟨h1,h2⟩:=List.pairwise_cons.1 hx
  have hs:(insL k x P.reverse []).Pairwise (lx k):=insL_sorted k x P.reverse [] (by simpa using h) (by simp) (fun p hp'=>hp p (by simpa using hp') x (by simp))
  have hpm:(insL k x P.reverse []).Perm (P ++ [x]):=by simpa using insL_perm k x P.reverse []
  have ih:=insA_spec k xs (insL k x P.reverse []) hs (fun p hp' y hy=>by
   rcases List.mem_append.1 (hpm.mem_iff.1 hp') with h' | h'
   · exact hp p h' y (by simp [hy])
   · rw [List.mem_singleton.1 h']; exact h1 y hy) h2
  refine ⟨?_,ih.2⟩
  unfold insA
  refine ih.1.trans ?_
  refine (hpm.append_right xs).trans ?_
  simp
theorem ins_all {fu:Nat} {f:Int → Int → Option Int} {k:Int → Int} (hfu:2097153 ≤ fu) (hf:∀ a b c,f a b = some c → (c < 0 ↔ k a < k b)) {n:Nat} (hn:n ≤ 1048576) (hin:∀ a b:Int,0 ≤ a → a < n → 0 ≤ b → b < n → ∃ c,f a b = some c) :
    ∀ (xs P:List Int) (m:Nat),xs.length < m → P.length + xs.length = n → (∀ p ∈ P ++ xs,0 ≤ p ∧ p < n) → d_slices_insertionSortCmpFunc_int_L2 fu 0 (n:Int) f m (P ++ xs) (P.length:Int) = some (insA k P xs)
 | [],P,m,hm,hl,_=>by
  obtain ⟨m,rfl⟩:∃ j,m = j + 1:=⟨m - 1,by omega⟩
  simp only [List.length_nil] at hl
  rw [d_slices_insertionSortCmpFunc_int_L2.eq_2]
  unfold d_slices_insertionSortCmpFunc_int_L2_B
  rw [bif_false (by simp; omega)]; simp [insA]
 | x :: xs,P,m,hm,hl,hp=>by
  simp only [List.length_cons] at hl hm
  obtain ⟨m,rfl⟩:∃ j,m = j + 1:=⟨m - 1,by omega⟩
  rw [d_slices_insertionSortCmpFunc_int_L2.eq_2]
  unfold d_slices_insertionSortCmpFunc_int_L2_B
  rw [bif_true (by simp; omega)]
  have key:=ins_loop (fu:=fu) (f:=f) (k:=k) (d_slices_insertionSortCmpFunc_int_L2 fu 0 (n:Int) f m) (P.length:Int) hf x P.reverse xs fu (fun p hp'=>by
   have h1:=hp p (by simp at hp'; simp [hp'])
   have h2:=hp x (by simp)
   exact hin x p h2.1 h2.2 h1.1 h1.2) (by simp; omega) (by simp; omega)
  rw [List.reverse_reverse,List.length_reverse] at key
  rw [key,w64_s _ (by omega)]
  have e:insL k x P.reverse xs = insL k x P.reverse [] ++ xs:=by
   have:=insL_app k x P.reverse [] xs
   simpa using this
  have hpm:(insL k x P.reverse []).Perm (P ++ [x]):=by simpa using insL_perm k x P.reverse []
  have hlen:(insL k x P.reverse []).length = P.length + 1:=by rw [hpm.length_eq]; simp
  rw [e]
  have ih:=ins_all hfu hf hn hin xs (insL k x P.reverse []) m (by omega) (by omega) (fun p hp'=>by
   rcases List.mem_append.1 hp' with h' | h'
   · rcases List.mem_append.1 (hpm.mem_iff.1 h') with h'' | h''
     · exact hp p (by simp [h''])
     · exact hp p (by rw [List.mem_singleton.1 h'']; simp)
   · exact hp p (by simp [h']))
  rw [hlen] at ih
  rw [ih]; rfl
theorem i_cmp (fu:Nat) (a b:Int):∃ c,d_impl_compare fu a b = some c ∧ (c < 0 ↔ a < b):=by
 unfold d_impl_compare
 by_cases h:a < b
 · exact ⟨-1,by simp [h],by simp [h]⟩
 · by_cases h2:a > b
   · exact ⟨1,by simp [h,h2],by simp [h]⟩
   · exact ⟨0,by simp [h,h2],by simp [h]⟩
theorem i_down {fu:Nat} {keys:List Int} (hfu:2097153 ≤ fu) (hl:keys.length < 20):d_impl_SortDown fu keys = some (srt (dnk keys) keys.length):=by
 unfold d_impl_SortDown d_slices_SortStableFunc_int_int d_slices_stableCmpFunc_int
 rw [i_places _ (by omega) (by omega),ob_some]
 obtain ⟨f,hfd⟩:∃ f:Int → Int → Option Int,f = fun a b=>d_impl_SortDown_1 fu a b keys:=⟨_,rfl⟩
 have hdef:∀ a b:Int,0 ≤ a → a < keys.length → 0 ≤ b → b < keys.length → ∃ c,f a b = some c ∧ (c < 0 ↔ dnk keys a < dnk keys b):=by
  intro a b ha ha' hb hb'
  obtain ⟨c,h1,h2⟩:=i_cmp fu (kf keys b) (kf keys a)
  refine ⟨c,?_,?_⟩
  · rw [hfd]
    show d_impl_SortDown_1 fu a b keys = _
    unfold d_impl_SortDown_1
    rw [kf_ix ⟨hb,hb'⟩,ob_some,kf_ix ⟨ha,ha'⟩,ob_some,h1,ob_some]
  · rw [h2]; unfold dnk; omega
 have hf:∀ a b c,f a b = some c → (c < 0 ↔ dnk keys a < dnk keys b):=by
  intro a b c h
  have h0:=h
  rw [hfd] at h
  change d_impl_SortDown_1 fu a b keys = _ at h
  unfold d_impl_SortDown_1 at h
  obtain ⟨x,hx,h⟩:=obind_some h
  obtain ⟨y,hy,h⟩:=obind_some h
  obtain ⟨b0,b1,_⟩:=ix_some hx
  obtain ⟨a0,a1,_⟩:=ix_some hy
  obtain ⟨d,h1,h2⟩:=hdef a b a0 a1 b0 b1
  rw [h0] at h1
  cases h1
  exact h2
 have ha:=ins_all (fu:=fu) (f:=f) (k:=dnk keys) hfu hf (n:=keys.length) (by omega) (fun a b h1 h2 h3 h4=>by obtain ⟨c,h,_⟩:=hdef a b h1 h2 h3 h4; exact ⟨c,h⟩)
 have hI:d_slices_insertionSortCmpFunc_int fu (ints 0 keys.length) 0 ((ints 0 keys.length).length:Int) f = some (srt (dnk keys) keys.length):=by
  unfold d_slices_insertionSortCmpFunc_int
  rw [ints_len,show w64 ((0:Int) + 1) = 1 by rw [w64_id (by omega) (by omega)]; rfl]
  cases hk:keys.length with
  | zero =>
   obtain ⟨m,rfl⟩:∃ m,fu = m + 1:=⟨fu - 1,by omega⟩
   rw [d_slices_insertionSortCmpFunc_int_L2.eq_2]
   unfold d_slices_insertionSortCmpFunc_int_L2_B
   rw [bif_false (by simp)]; rfl
  | succ n =>
   rw [hk] at ha
   have:=ha (ints 1 n) [0] fu (by rw [ints_len]; omega) (by rw [ints_len]; simp; omega) (fun p hp=>by
    have:p ∈ ints 0 (n + 1):=hp
    have:=ints_mem.1 this
    omega)
   have e:ints 0 (n + 1) = [0] ++ ints 1 n:=rfl
   rw [e]
   have h1:(([0]:List Int).length:Int) = 1:=rfl
   rw [h1] at this
   rw [this]
   congr 1
   have hsp:=insA_spec (dnk keys) (ints 1 n) [0] (by simp) (fun p hp x hx=>by
    have:=ints_mem.1 hx
    rw [List.mem_singleton.1 hp]; omega) (ints_lt _ _)
   exact srt_uniq hsp.1 hsp.2
 obtain ⟨m,rfl⟩:∃ m,fu = m + 1:=⟨fu - 1,by omega⟩
 rw [d_slices_stableCmpFunc_int_L3.eq_2]
 unfold d_slices_stableCmpFunc_int_L3_B
 rw [bif_false (by rw [ints_len]; simp; omega)]
 rw [← hfd,hI,ob_some,d_slices_stableCmpFunc_int_L2.eq_2]
 unfold d_slices_stableCmpFunc_int_L2_B
 rw [bif_false (by rw [ints_len]; simp; omega)]
 rfl
end Go.Proofs.Ythddjkokpfdbnaa
/- Volumes of units, by spec and by impl. -/
namespace Go.Proofs.Ythddjkokpfdbnaa
open Go
open Enc (rd ow)
open Arg (argv)
open Ret (retv)
open Wf (wf)
end Go.Proofs.Ythddjkokpfdbnaa
/- Weights of units, by spec and by impl. -/
namespace Go.Proofs.Ythddjkokpfdbnaa
open Go
open Enc (rd ow)
open Arg (argv)
open Ret (retv)
open Wf (wf)
end Go.Proofs.Ythddjkokpfdbnaa
/- Load of units, room for one more, units that may lie beside: by spec and by impl. -/
namespace Go.Proofs.Ythddjkokpfdbnaa
open Go
open Enc (rd ow)
open Arg (argv)
open Ret (retv)
open Wf (wf)
end Go.Proofs.Ythddjkokpfdbnaa
/- How often a number stands in a list, by spec. -/
namespace Go.Proofs.Ythddjkokpfdbnaa
open Go
open Enc (rd ow)
open Arg (argv)
open Ret (retv)
open Wf (wf)
end Go.Proofs.Ythddjkokpfdbnaa
/- Orders in the laws: their size, copies, equality. -/
namespace Go.Proofs.Ythddjkokpfdbnaa
open Go
open Enc (rd ow)
open Arg (argv)
open Ret (retv)
open Wf (wf)
end Go.Proofs.Ythddjkokpfdbnaa
/- Lists of lists of numbers in the laws: their size, copies. -/
namespace Go.Proofs.Ythddjkokpfdbnaa
open Go
open Enc (rd ow)
open Arg (argv)
open Ret (retv)
open Wf (wf)
end Go.Proofs.Ythddjkokpfdbnaa
/- IsPacking of spec and of impl. -/
namespace Go.Proofs.Ythddjkokpfdbnaa
open Go
open Enc (rd ow)
open Arg (argv)
open Ret (retv)
open Wf (wf)
end Go.Proofs.Ythddjkokpfdbnaa
/- IsRival of spec and of impl. -/
namespace Go.Proofs.Ythddjkokpfdbnaa
open Go
open Enc (rd ow)
open Arg (argv)
open Ret (retv)
open Wf (wf)
end Go.Proofs.Ythddjkokpfdbnaa
/- Transitive of spec and of impl; where it is, groups are apart. -/
namespace Go.Proofs.Ythddjkokpfdbnaa
open Go
open Enc (rd ow)
open Arg (argv)
open Ret (retv)
open Wf (wf)
structure Sep (p:List Pair) (P:List Int) (out:List (List Int)):Prop where
 ne:∀ g ∈ out,g ≠ []
 inn:∀ g ∈ out,∀ x ∈ g,x ∈ P
 one:∀ g ∈ out,∀ x ∈ g,∀ y ∈ g,x ≠ y → mutB p x y = true
 two:∀ (i j:Nat) (g h:List Int),out[i]? = some g → out[j]? = some h → i ≠ j → ∀ x ∈ g,∀ y ∈ h,mutB p x y = false
end Go.Proofs.Ythddjkokpfdbnaa
/- Holds and Cheapest, by spec and by impl. -/
namespace Go.Proofs.Ythddjkokpfdbnaa
open Go
open Enc (rd ow)
open Arg (argv)
open Ret (retv)
open Wf (wf)
end Go.Proofs.Ythddjkokpfdbnaa
/- Gross and BoxOf, by spec and by impl. -/
namespace Go.Proofs.Ythddjkokpfdbnaa
open Go
open Enc (rd ow)
open Arg (argv)
open Ret (retv)
open Wf (wf)
end Go.Proofs.Ythddjkokpfdbnaa
/- Within, Overlap, Pallets: by spec and by impl. -/
namespace Go.Proofs.Ythddjkokpfdbnaa
open Go
open Enc (rd ow)
open Arg (argv)
open Ret (retv)
open Wf (wf)
end Go.Proofs.Ythddjkokpfdbnaa
/- The two ways of packing, by spec and by impl. -/
namespace Go.Proofs.Ythddjkokpfdbnaa
open Go
open Enc (rd ow)
open Arg (argv)
open Ret (retv)
open Wf (wf)
theorem last_at {α:Type} {out:List α} (h:out ≠ []):∃ l,out.getLast? = some l ∧ ix out ((out.length:Int) - 1) = some l:=by
 cases hl:out.getLast? with
 | none=>exact absurd (List.getLast?_eq_none_iff.1 hl) h
 | some l =>
  have hp:=List.length_pos_iff.2 h
  refine ⟨l,rfl,?_⟩
  rw [show (out.length:Int) - 1 = ((out.length - 1:Nat):Int) by omega,ix_nat,← List.getLast?_eq_getElem?,hl]
end Go.Proofs.Ythddjkokpfdbnaa
/- RivalBy of spec and of impl. -/
namespace Go.Proofs.Ythddjkokpfdbnaa
open Go
open Enc (rd ow)
open Arg (argv)
open Ret (retv)
open Wf (wf)
theorem ix_in {α:Type} {l:List α} {i:Int} (h0:0 ≤ i) (h1:i < l.length):∃ x,ix l i = some x:=by
 obtain ⟨j,rfl⟩:∃ j:Nat,i = j:=⟨i.toNat,by omega⟩
 exact ⟨_,ix_i (by omega)⟩
end Go.Proofs.Ythddjkokpfdbnaa
/- Shelves, layers, loads, spots of spec: what they compute, and what holds of them. -/
namespace Go.Proofs.Ythddjkokpfdbnaa
open Go
open Enc (rd ow)
open Arg (argv)
open Ret (retv)
open Wf (wf)
def bokB (p:Pallet) (b:Box):Bool:=inb b.fW 1 p.fW && (inb b.fD 1 p.fD && (inb b.fH 1 p.fH && inb b.fGram 1 p.fGram))
def bosB (p:Pallet) (l:List Box):Bool:=palB p && l.all (bokB p)
def nxG {σ:Type} (fits:σ → Bool) (add:σ → σ) (z:σ) (out:List σ):List σ:=match out.getLast? with
 | some s=>bif fits s then out.set (out.length - 1) (add s) else out ++ [add z]
 | none=>[add z]
theorem nxG_some {σ:Type} {fits:σ → Bool} {add:σ → σ} {z:σ} {out:List σ} {s:σ} (h:out.getLast? = some s):nxG fits add z out = bif fits s then out.set (out.length - 1) (add s) else out ++ [add z]:=by unfold nxG; rw [h]
theorem nxG_nil {σ:Type} {fits:σ → Bool} {add:σ → σ} {z:σ}:nxG fits add z [] = [add z]:=rfl
theorem nxG_len {σ:Type} (fits:σ → Bool) (add:σ → σ) (z:σ) (out:List σ):(nxG fits add z out).length ≤ out.length + 1:=by
 unfold nxG
 split
 · cases fits _ <;> simp
 · simp
theorem nxG_all {σ:Type} {fits:σ → Bool} {add:σ → σ} {z:σ} {out:List σ} {I:σ → Prop} (h:∀ s ∈ out,I s) (ha:∀ s,I s → fits s = true → I (add s)) (hz:I (add z)):∀ s ∈ nxG fits add z out,I s:=by
 intro s hs
 unfold nxG at hs
 split at hs
 · rename_i x hx
   have hm:=List.mem_of_getLast? hx
   cases hf:fits x
   · rw [hf,cond_false] at hs
     rcases List.mem_append.1 hs with hs | hs
     · exact h s hs
     · rw [List.mem_singleton.1 hs]; exact hz
   · rw [hf,cond_true] at hs
     rcases List.mem_or_eq_of_mem_set hs with hs | rfl
     · exact h s hs
     · exact ha x (h x hm) hf
 · rw [List.mem_singleton.1 hs]; exact hz
theorem nxG_flat {σ:Type} {fits:σ → Bool} {add:σ → σ} {z:σ} {out:List σ} {f:σ → List Int} {i:Int} (ha:∀ s,f (add s) = f s ++ [i]) (hz:f z = []):((nxG fits add z out).map f).flatten = (out.map f).flatten ++ [i]:=by
 unfold nxG
 split
 · rename_i x hx
   cases fits x
   · rw [cond_false,List.map_append,List.flatten_append]
     simp [ha,hz]
   · rw [cond_true]
     have hne:out ≠ []:=by intro e; rw [e] at hx; simp at hx
     have e:out = out.dropLast ++ [x]:=by
      have h1:=List.dropLast_concat_getLast hne
      rw [List.getLast?_eq_some_getLast hne] at hx
      rw [Option.some.inj hx] at h1
      exact h1.symm
     obtain ⟨d,hd⟩:∃ d,out = d ++ [x]:=⟨_,e⟩
     rw [hd]
     simp [ha]
 · rename_i hx
   have:out = []:=List.getLast?_eq_none_iff.1 hx
   subst this
   simp [ha,hz]
def mxI (a b:Int):Int:=if a > b then a else b
theorem mxI_ge (a b:Int):a ≤ mxI a b ∧ b ≤ mxI a b ∧ (mxI a b = a ∨ mxI a b = b):=by unfold mxI; split <;> omega
def zBx:Box:=⟨0,0,0,0⟩
def bxA (l:List Box) (i:Int):Box:=(ix l i).getD zBx
def zSh:Shelf:=⟨[],0,0,0,0⟩
def shAdd (s:Shelf) (i:Int) (b:Box):Shelf:=⟨s.fList ++ [i],s.fW + b.fW,mxI s.fD b.fD,mxI s.fH b.fH,s.fGram + b.fGram⟩
def shFit (p:Pallet) (b:Box) (s:Shelf):Bool:=decide (s.fW + b.fW ≤ p.fW) && decide (s.fGram + b.fGram ≤ p.fGram)
def shS (p:Pallet) (l:List Box) (out:List Shelf) (i:Int):List Shelf:=nxG (shFit p (bxA l i)) (fun s=>shAdd s i (bxA l i)) zSh out
def shM (p:Pallet) (l:List Box):List Shelf:=bif bosB p l then (srt (dnk (l.map (·.fD))) l.length).foldl (shS p l) [] else []
structure ShI (p:Pallet) (n:Nat) (s:Shelf):Prop where
 ne:s.fList ≠ []
 inn:∀ i ∈ s.fList,0 ≤ i ∧ i < n
 w:1 ≤ s.fW ∧ s.fW ≤ p.fW
 d:1 ≤ s.fD ∧ s.fD ≤ p.fD
 h:1 ≤ s.fH ∧ s.fH ≤ p.fH
 g:1 ≤ s.fGram ∧ s.fGram ≤ p.fGram
theorem bok_at {p:Pallet} {l:List Box} (h:bosB p l = true) {i:Int} (hi:0 ≤ i ∧ i < l.length):ix l i = some (bxA l i) ∧ (1 ≤ (bxA l i).fW ∧ (bxA l i).fW ≤ p.fW) ∧ (1 ≤ (bxA l i).fD ∧ (bxA l i).fD ≤ p.fD) ∧ (1 ≤ (bxA l i).fH ∧ (bxA l i).fH ≤ p.fH) ∧ (1 ≤ (bxA l i).fGram ∧ (bxA l i).fGram ≤ p.fGram):=by
 obtain ⟨x,hx⟩:=ix_in (l:=l) hi.1 hi.2
 have e:bxA l i = x:=by unfold bxA; rw [hx]; rfl
 unfold bosB at h
 simp only [Bool.and_eq_true] at h
 have:=List.all_eq_true.1 h.2 x (ix_mem hx)
 simp only [bokB,Bool.and_eq_true,inb_iff] at this
 rw [e]
 exact ⟨hx,this.1,this.2.1,this.2.2.1,this.2.2.2⟩
theorem pal_bd {p:Pallet} (h:palB p = true):(1 ≤ p.fW ∧ p.fW ≤ 2000) ∧ (1 ≤ p.fD ∧ p.fD ≤ 2000) ∧ (1 ≤ p.fH ∧ p.fH ≤ 2000) ∧ (1 ≤ p.fGram ∧ p.fGram ≤ 100000):=by
 simp only [palB,Bool.and_eq_true,inb_iff] at h
 exact ⟨h.1,h.2.1,h.2.2.1,h.2.2.2⟩
theorem bos_pal {p:Pallet} {l:List Box} (h:bosB p l = true):palB p = true:=by
 unfold bosB at h
 simp only [Bool.and_eq_true] at h
 exact h.1
theorem shS_all {p:Pallet} {l:List Box} (hb:bosB p l = true) {out:List Shelf} {i:Int} (hi:0 ≤ i ∧ i < l.length) (h:∀ s ∈ out,ShI p l.length s):∀ s ∈ shS p l out i,ShI p l.length s:=by
 obtain ⟨_,b1,b2,b3,b4⟩:=bok_at hb hi
 refine nxG_all h (fun s hs hf=>?_) ⟨by simp [shAdd],fun j hj=>?_,?_,?_,?_,?_⟩
 · unfold shFit at hf
   simp only [Bool.and_eq_true,decide_eq_true_eq] at hf
   obtain ⟨s1,s2,s3,s4,s5,s6⟩:=hs
   have m1:=mxI_ge s.fD (bxA l i).fD
   have m2:=mxI_ge s.fH (bxA l i).fH
   refine ⟨by simp [shAdd],fun j hj=>?_,?_,?_,?_,?_⟩
   · simp only [shAdd,List.mem_append,List.mem_singleton] at hj
     rcases hj with hj | rfl
     · exact s2 j hj
     · exact hi
   · simp only [shAdd]; omega
   · simp only [shAdd]; omega
   · simp only [shAdd]; omega
   · simp only [shAdd]; omega
 · simp only [shAdd,zSh,List.nil_append,List.mem_singleton] at hj
   rw [hj]; exact hi
 · simp only [shAdd,zSh]; omega
 · have:=mxI_ge 0 (bxA l i).fD
   simp only [shAdd,zSh]; omega
 · have:=mxI_ge 0 (bxA l i).fH
   simp only [shAdd,zSh]; omega
 · simp only [shAdd,zSh]; omega
theorem shF_all {p:Pallet} {l:List Box} (hb:bosB p l = true):∀ (is:List Int) (out:List Shelf),(∀ i ∈ is,0 ≤ i ∧ i < l.length) → (∀ s ∈ out,ShI p l.length s) → (∀ s ∈ is.foldl (shS p l) out,ShI p l.length s) ∧ ((is.foldl (shS p l) out).map (·.fList)).flatten = (out.map (·.fList)).flatten ++ is ∧ (is.foldl (shS p l) out).length ≤ out.length + is.length
 | [],out,_,h=>⟨h,by simp,by simp⟩
 | i :: is,out,hi,h=>by
  rw [List.foldl_cons]
  obtain ⟨h1,h2,h3⟩:=shF_all hb is (shS p l out i) (fun j hj=>hi j (by simp [hj])) (shS_all hb (hi i (by simp)) h)
  have h4:((shS p l out i).map (·.fList)).flatten = (out.map (·.fList)).flatten ++ [i]:=nxG_flat (fun s=>rfl) rfl
  have h5:(shS p l out i).length ≤ out.length + 1:=nxG_len _ _ _ _
  refine ⟨h1,by rw [h2,h4]; simp,by simp; omega⟩
theorem shM_all {p:Pallet} {l:List Box} (hb:bosB p l = true):(∀ s ∈ shM p l,ShI p l.length s) ∧ ((shM p l).map (·.fList)).flatten = srt (dnk (l.map (·.fD))) l.length ∧ (shM p l).length ≤ l.length:=by
 unfold shM
 rw [hb,cond_true]
 obtain ⟨h1,h2,h3⟩:=shF_all hb (srt (dnk (l.map (·.fD))) l.length) [] (fun i hi=>srt_mem.1 hi) (by simp)
 refine ⟨h1,by simpa using h2,?_⟩
 rw [srt_len] at h3
 simpa using h3
theorem flat_le {σ:Type} (f:σ → List Int):∀ (l:List σ) (s:σ),s ∈ l → (f s).length ≤ ((l.map f).flatten).length
 | [],_,h=>by simp at h
 | x :: l,s,h=>by
  simp only [List.map_cons,List.flatten_cons,List.length_append]
  rcases List.mem_cons.1 h with rfl | h
  · omega
  · have:=flat_le f l s h; omega
end Go.Proofs.Ythddjkokpfdbnaa
/- Layers and loads of spec. -/
namespace Go.Proofs.Ythddjkokpfdbnaa
open Go
open Enc (rd ow)
open Arg (argv)
open Ret (retv)
open Wf (wf)
def okL (p:Pallet) (d h g:Int):Bool:=inb d 1 p.fD && (inb h 1 p.fH && inb g 1 p.fGram)
def shA (l:List Shelf) (i:Int):Shelf:=(ix l i).getD zSh
def zLy:Layer:=⟨[],0,0,0⟩
def lyAdd (x:Layer) (i:Int) (s:Shelf):Layer:=⟨x.fShelves ++ [i],x.fD + s.fD,mxI x.fH s.fH,x.fGram + s.fGram⟩
def lyFit (p:Pallet) (s:Shelf) (x:Layer):Bool:=decide (x.fD + s.fD ≤ p.fD) && decide (x.fGram + s.fGram ≤ p.fGram)
def lyS (p:Pallet) (l:List Shelf) (out:List Layer) (i:Int):List Layer:=nxG (lyFit p (shA l i)) (fun s=>lyAdd s i (shA l i)) zLy out
def lyM (p:Pallet) (l:List Shelf):List Layer:=(ints 0 l.length).foldl (lyS p l) []
structure LyI (p:Pallet) (n:Nat) (s:Layer):Prop where
 ne:s.fShelves ≠ []
 inn:∀ i ∈ s.fShelves,0 ≤ i ∧ i < n
 d:1 ≤ s.fD ∧ s.fD ≤ p.fD
 h:1 ≤ s.fH ∧ s.fH ≤ p.fH
 g:1 ≤ s.fGram ∧ s.fGram ≤ p.fGram
def OkS (p:Pallet) (l:List Shelf):Prop:=∀ s ∈ l,(1 ≤ s.fD ∧ s.fD ≤ p.fD) ∧ (1 ≤ s.fH ∧ s.fH ≤ p.fH) ∧ (1 ≤ s.fGram ∧ s.fGram ≤ p.fGram)
theorem shA_at {p:Pallet} {l:List Shelf} (h:OkS p l) {i:Int} (hi:0 ≤ i ∧ i < l.length):ix l i = some (shA l i) ∧ (1 ≤ (shA l i).fD ∧ (shA l i).fD ≤ p.fD) ∧ (1 ≤ (shA l i).fH ∧ (shA l i).fH ≤ p.fH) ∧ (1 ≤ (shA l i).fGram ∧ (shA l i).fGram ≤ p.fGram) ∧ shA l i ∈ l:=by
 obtain ⟨x,hx⟩:=ix_in (l:=l) hi.1 hi.2
 have e:shA l i = x:=by unfold shA; rw [hx]; rfl
 rw [e]
 exact ⟨hx,(h x (ix_mem hx)).1,(h x (ix_mem hx)).2.1,(h x (ix_mem hx)).2.2,ix_mem hx⟩
theorem lyS_all {p:Pallet} {l:List Shelf} (hb:OkS p l) {out:List Layer} {i:Int} (hi:0 ≤ i ∧ i < l.length) (h:∀ s ∈ out,LyI p l.length s):∀ s ∈ lyS p l out i,LyI p l.length s:=by
 obtain ⟨_,b1,b2,b3,_⟩:=shA_at hb hi
 refine nxG_all h (fun s hs hf=>?_) ⟨by simp [lyAdd],fun j hj=>?_,?_,?_,?_⟩
 · unfold lyFit at hf
   simp only [Bool.and_eq_true,decide_eq_true_eq] at hf
   obtain ⟨s1,s2,s4,s5,s6⟩:=hs
   have m2:=mxI_ge s.fH (shA l i).fH
   refine ⟨by simp [lyAdd],fun j hj=>?_,?_,?_,?_⟩
   · simp only [lyAdd,List.mem_append,List.mem_singleton] at hj
     rcases hj with hj | rfl
     · exact s2 j hj
     · exact hi
   · simp only [lyAdd]; omega
   · simp only [lyAdd]; omega
   · simp only [lyAdd]; omega
 · simp only [lyAdd,zLy,List.nil_append,List.mem_singleton] at hj
   rw [hj]; exact hi
 · simp only [lyAdd,zLy]; omega
 · have:=mxI_ge 0 (shA l i).fH
   simp only [lyAdd,zLy]; omega
 · simp only [lyAdd,zLy]; omega
theorem lyF_all {p:Pallet} {l:List Shelf} (hb:OkS p l):∀ (is:List Int) (out:List Layer),(∀ i ∈ is,0 ≤ i ∧ i < l.length) → (∀ s ∈ out,LyI p l.length s) → (∀ s ∈ is.foldl (lyS p l) out,LyI p l.length s) ∧ ((is.foldl (lyS p l) out).map (·.fShelves)).flatten = (out.map (·.fShelves)).flatten ++ is ∧ (is.foldl (lyS p l) out).length ≤ out.length + is.length
 | [],out,_,h=>⟨h,by simp,by simp⟩
 | i :: is,out,hi,h=>by
  rw [List.foldl_cons]
  obtain ⟨h1,h2,h3⟩:=lyF_all hb is (lyS p l out i) (fun j hj=>hi j (by simp [hj])) (lyS_all hb (hi i (by simp)) h)
  have h4:((lyS p l out i).map (·.fShelves)).flatten = (out.map (·.fShelves)).flatten ++ [i]:=nxG_flat (fun s=>rfl) rfl
  have h5:(lyS p l out i).length ≤ out.length + 1:=nxG_len _ _ _ _
  refine ⟨h1,by rw [h2,h4]; simp,by simp; omega⟩
theorem lyM_all {p:Pallet} {l:List Shelf} (hb:OkS p l):(∀ s ∈ lyM p l,LyI p l.length s) ∧ ((lyM p l).map (·.fShelves)).flatten = ints 0 l.length ∧ (lyM p l).length ≤ l.length:=by
 unfold lyM
 obtain ⟨h1,h2,h3⟩:=lyF_all hb (ints 0 l.length) [] (fun i hi=>by have:=ints_mem.1 hi; omega) (by simp)
 refine ⟨h1,by simpa using h2,?_⟩
 rw [ints_len] at h3
 simpa using h3
theorem okS_b {p:Pallet} {l:List Shelf} (h:OkS p l):(l.all fun s=>okL p s.fD s.fH s.fGram) = true:=by
 refine List.all_eq_true.2 fun s hs=>?_
 unfold okL
 simp only [Bool.and_eq_true,inb_iff]
 exact ⟨(h s hs).1,(h s hs).2.1,(h s hs).2.2⟩
structure LdI (p:Pallet) (n:Nat) (s:Load):Prop where
 ne:s.fLayers ≠ []
 inn:∀ i ∈ s.fLayers,0 ≤ i ∧ i < n
 h:1 ≤ s.fH ∧ s.fH ≤ p.fH
 g:1 ≤ s.fGram ∧ s.fGram ≤ p.fGram
end Go.Proofs.Ythddjkokpfdbnaa
/- The spots of boxes, by spec. -/
namespace Go.Proofs.Ythddjkokpfdbnaa
open Go
open Enc (rd ow)
open Arg (argv)
open Ret (retv)
open Wf (wf)
end Go.Proofs.Ythddjkokpfdbnaa
/- The units of a group, by spec and by impl. -/
namespace Go.Proofs.Ythddjkokpfdbnaa
open Go
open Enc (rd ow)
open Arg (argv)
open Ret (retv)
open Wf (wf)
end Go.Proofs.Ythddjkokpfdbnaa
/- CartonsOf of spec and of impl. -/
namespace Go.Proofs.Ythddjkokpfdbnaa
open Go
open Enc (rd ow)
open Arg (argv)
open Ret (retv)
open Wf (wf)
end Go.Proofs.Ythddjkokpfdbnaa
