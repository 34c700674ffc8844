/- TextsBP: plain lemmas, part 1. -/
import Derived.Test.YthkaklkinepfkaaGreatDoorTextsBD
import Derived.Test.YthkaklkinepfkaaGreatDoorM3
set_option linter.unusedSimpArgs false
set_option linter.unusedVariables false
namespace Go.Proofs.YthkaklkinepfkaaGreatDoor
open Go
open Enc (rd ow)
open Arg (argv)
open Ret (retv)
open Wf (wf)
def Tot {α:Type} (o:Option α) (Q:α → Prop):Prop:=∃ x,o = some x ∧ Q x
theorem Tot.mk {α:Type} {x:α} {Q:α → Prop} (h:Q x):Tot (some x) Q:=⟨x,rfl,h⟩
theorem Tot.of {α:Type} {o:Option α} {x:α} {Q:α → Prop} (e:o = some x) (h:Q x):Tot o Q:=⟨x,e,h⟩
theorem Tot.bind {α β:Type} {m:Option α} {k:α → Option β} {R:α → Prop} {Q:β → Prop} (h:Tot m R) (hk:∀ x,R x → Tot (k x) Q):Tot (obind m k) Q:=by
 obtain ⟨x,rfl,hx⟩:=h
 exact hk x hx
theorem Tot.bif {α:Type} {c:Bool} {a b:Option α} {Q:α → Prop} (h1:c = true → Tot a Q) (h2:c = false → Tot b Q):Tot (bif c then a else b) Q:=by
 cases c
 · exact h2 rfl
 · exact h1 rfl
theorem Tot.imp {α:Type} {o:Option α} {Q R:α → Prop} (h:Tot o Q) (hi:∀ x,Q x → R x):Tot o R:=by
 obtain ⟨x,e,hx⟩:=h
 exact ⟨x,e,hi x hx⟩
theorem Tot.ap {α β:Type} {bytes:Nat} {xs ys:List α} {k:List α → Option β} {Q:β → Prop} (h:(xs.length + ys.length) * bytes ≤ 140737488355328) (hk:Tot (k (xs ++ ys)) Q):Tot (obind (apnd bytes xs ys) k) Q:=by
 rw [ap1 h]; exact hk
theorem Tot.ix {α β:Type} {l:List α} {i:Int} {k:α → Option β} {Q:β → Prop} (h:0 ≤ i ∧ i < l.length) (hk:∀ x,x ∈ l → Tot (k x) Q):Tot (obind (ix l i) k) Q:=by
 have e:=ix_i (l:=l) (i:=i.toNat) (by omega)
 rw [show ((i.toNat:Nat):Int) = i by omega] at e
 rw [e]
 exact hk _ (List.getElem_mem _)
theorem lpT {σ β:Type} (b:Int) (L:Nat → σ → Int → Option β) (Q:β → Prop) (I:Int → σ → Prop) (hb:b ≤ 1099511627776)
    (hs:∀ n s (i:Int),0 ≤ i → i < b → I i s → (∀ s',I (i + 1) s' → Tot (L n s' (w64 (i + 1))) Q) → Tot (L (n + 1) s i) Q)
    (he:∀ n s (i:Int),0 ≤ i → b ≤ i → I i s → Tot (L (n + 1) s i) Q):∀ (m:Nat) n s (a:Int),0 ≤ a → (b - a).toNat = m → m < n → I a s → Tot (L n s a) Q:=by
 intro m
 induction m with
 | zero =>
  intro n s a ha hm hn hI
  obtain ⟨n,rfl⟩:∃ k,n = k + 1:=⟨n - 1,by omega⟩
  exact he n s a ha (by omega) hI
 | succ m ih =>
  intro n s a ha hm hn hI
  obtain ⟨n,rfl⟩:∃ k,n = k + 1:=⟨n - 1,by omega⟩
  refine hs n s a ha (by omega) hI fun s' hI'=>?_
  rw [w64_id (by omega) (by omega)]
  exact ih n s' (a + 1) (by omega) (by omega) (by omega) hI'
def CO (b:List U8) (c:Cur):Prop:=c.fb = b ∧ 0 ≤ c.fi ∧ b.length ≤ 1048576
theorem CO.re {b:List U8} {c c':Cur} (h:CO b c) (h':CO b c'):CO b ⟨c.fb,c'.fi,c'.fh⟩:=⟨h.1,h'.2⟩
theorem CO.re' {b:List U8} {c':Cur} (h':CO b c'):CO b ⟨b,c'.fi,c'.fh⟩:=⟨rfl,h'.2⟩
theorem and255 (x:Int):0 ≤ IntKind.wrap .i64 (((BitVec.ofInt (IntKind.bits .i64) x &&& BitVec.ofInt (IntKind.bits .i64) 255).toNat:Nat):Int) ∧ IntKind.wrap .i64 (((BitVec.ofInt (IntKind.bits .i64) x &&& BitVec.ofInt (IntKind.bits .i64) 255).toNat:Nat):Int) ≤ 255:=by
 have h:(BitVec.ofInt (IntKind.bits .i64) x &&& BitVec.ofInt (IntKind.bits .i64) 255).toNat ≤ 255:=by
  rw [BitVec.toNat_and]
  have h2:(BitVec.ofInt (IntKind.bits .i64) 255).toNat = 255:=by decide
  rw [h2]
  exact Nat.and_le_right
 have e:=w64_id (n:=(((BitVec.ofInt (IntKind.bits .i64) x &&& BitVec.ofInt (IntKind.bits .i64) 255).toNat:Nat):Int)) (by omega) (by omega)
 unfold w64 at e
 rw [e]
 omega
theorem dr_byte {fu:Nat} {b:List U8} {c:Cur} (h:CO b c):Tot (d_spec_l1Byte fu c) fun x=>(0 ≤ x.1 ∧ x.1 ≤ 255) ∧ CO b x.2:=by
 obtain ⟨h1,h2,h3⟩:=h
 unfold d_spec_l1Byte
 refine Tot.bif (fun hc=>?_) fun hc=>?_
 · have hlt:=of_decide_eq_true hc
   refine Tot.ix ⟨h2,hlt⟩ fun x _=>Tot.mk ⟨and255 _,h1,?_,h3⟩
   show 0 ≤ w64 (c.fi + 1)
   rw [h1] at hlt
   rw [w64_id (by omega) (by omega)]; omega
 · exact Tot.mk ⟨and255 _,h1,h2,h3⟩
theorem dr_below {fu:Nat} {b:List U8} {c:Cur} (h:CO b c) (n:Int):Tot (d_spec_l1Below fu c n) fun x=>(0 ≤ x.1 ∧ (0 < n → x.1 < n)) ∧ CO b x.2:=by
 unfold d_spec_l1Below
 refine Tot.bif (fun hc=>?_) fun hc=>?_
 · have hlt:=of_decide_eq_true hc
   exact Tot.mk ⟨⟨Int.le_refl _,fun h=>by omega⟩,h⟩
 · have hn:0 < n:=by simpa using hc
   refine Tot.bif (fun hc=>?_) fun hc=>?_
   · refine Tot.bind (dr_byte h) fun x hx=>?_
     rw [odiv_ok (by omega),ob_some]
     exact Tot.mk ⟨⟨Int.tmod_nonneg _ hx.1.1,fun _=>Int.tmod_lt_of_pos _ hn⟩,h.re hx.2⟩
   · refine Tot.bind (dr_byte h) fun x hx=>Tot.bind (dr_byte (h.re hx.2)) fun y hy=>Tot.bind (dr_byte (h.re hy.2)) fun z hz=>Tot.bind (dr_byte (h.re hz.2)) fun q hq=>?_
     rw [odiv_ok (by omega),ob_some]
     obtain ⟨⟨x0,x1⟩,_⟩:=hx
     obtain ⟨⟨y0,y1⟩,_⟩:=hy
     obtain ⟨⟨z0,z1⟩,_⟩:=hz
     obtain ⟨⟨q0,q1⟩,hq2⟩:=hq
     refine Tot.mk ⟨⟨?_,fun _=>Int.tmod_lt_of_pos _ hn⟩,h.re hq2⟩
     apply Int.tmod_nonneg
     simp only [w64_id (n:=x.1 * 16777216) (by omega) (by omega),w64_id (n:=y.1 * 65536) (by omega) (by omega),w64_id (n:=z.1 * 256) (by omega) (by omega)]
     rw [w64_id (n:=x.1 * 16777216 + y.1 * 65536) (by omega) (by omega),w64_id (n:=x.1 * 16777216 + y.1 * 65536 + z.1 * 256) (by omega) (by omega),w64_id (by omega) (by omega)]
     omega
theorem dr_once {fu:Nat} {b:List U8} {c:Cur} (h:CO b c) (n:Int):Tot (d_spec_l1Once fu c n) fun x=>CO b x.2:=by
 unfold d_spec_l1Once
 exact Tot.bind (dr_below h n) fun x hx=>Tot.mk (h.re hx.2)
theorem dr_pick {fu:Nat} {b:List U8} {c:Cur} (h:CO b c) (l:List Int) (hl:0 < l.length):Tot (d_spec_l1PickInt fu c l) fun x=>x.1 ∈ l ∧ CO b x.2:=by
 unfold d_spec_l1PickInt
 exact Tot.bind (dr_below h _) fun x hx=>Tot.ix ⟨hx.1.1,hx.1.2 (by omega)⟩ fun y hy=>Tot.mk ⟨hy,h.re hx.2⟩
theorem dr_new {fu:Nat} {b:List U8} (hb:b.length ≤ 1048576) (hf:1048577 ≤ fu):Tot (d_spec_l1New fu b) (CO b):=by
 unfold d_spec_l1New
 refine lpT (b.length:Int) (fun n s i=>d_spec_l1New_L1 fu b n s i) (CO b) (fun _ _=>True) (by omega) ?_ ?_ b.length fu _ 0 (by omega) (by omega) (by omega) trivial
 · intro n s i h0 h1 _ ih
   simp only [d_spec_l1New_L1.eq_2]
   unfold d_spec_l1New_L1_B d_spec_l1New_J1
   rw [bif_true (by simpa using h1)]
   refine Tot.bif (fun hc=>?_) fun hc=>?_
   · exact Tot.ix ⟨h0,h1⟩ fun x _=>ih _ trivial
   · exact Tot.mk ⟨rfl,by simp,hb⟩
 · intro n s i h0 h1 _
   simp only [d_spec_l1New_L1.eq_2]
   unfold d_spec_l1New_L1_B
   rw [bif_false (by simp; omega)]
   exact Tot.mk ⟨rfl,by simp,hb⟩
structure Sm (fu:Nat) (r:Request):Prop where
 fu:2097153 ≤ fu
 pairs:r.fPairs.length ≤ 1048576
 types:r.fTypes.length ≤ 1048576
 items:r.fItems.length ≤ 1048576
theorem s_in (fu:Nat) (n lo hi:Int):d_spec_l1In fu n lo hi = some (inb n lo hi):=by
 unfold d_spec_l1In inb
 by_cases h:lo ≤ n
 · simp [h]
 · simp [h]
theorem i_in (fu:Nat) (n lo hi:Int):d_impl_in fu n lo hi = some (inb n lo hi):=s_in fu n lo hi
theorem s_side (fu:Nat) (n:Int):d_spec_l2Side fu n = some (inb n 1 2000):=by unfold d_spec_l2Side; rw [s_in]; rfl
theorem s_id (fu:Nat) (n:Int):d_spec_l2Id fu n = some (inb n 0 999):=by unfold d_spec_l2Id; rw [s_in]; rfl
theorem s_pal (fu:Nat) (p:Pallet):d_spec_PalletOk fu p = some (palB p):=by
 unfold d_spec_PalletOk palB
 simp only [s_side,s_in,ob_some]
 cases inb p.fW 1 2000 <;> cases inb p.fD 1 2000 <;> cases inb p.fH 1 2000 <;> rfl
theorem s_typ (fu:Nat) (t:Typ):d_spec_TypeOk fu t = some (typB t):=by
 unfold d_spec_TypeOk typB
 simp only [s_side,s_in,s_id,ob_some]
 cases inb t.fId 0 999 <;> cases inb t.fW 1 2000 <;> cases inb t.fH 1 2000 <;> cases inb t.fD 1 2000 <;> cases inb t.fTare 0 100000 <;> cases inb t.fGram 1 100000 <;> rfl
theorem s_itm (fu:Nat) (t:Item):d_spec_ItemOk fu t = some (itmB t):=by
 unfold d_spec_ItemOk itmB
 simp only [s_side,s_in,s_id,ob_some]
 cases inb t.fId 0 999 <;> cases inb t.fW 1 2000 <;> cases inb t.fH 1 2000 <;> cases inb t.fD 1 2000 <;> cases inb t.fGram 1 100000 <;> cases inb t.fClass 0 3 <;> rfl
def cntF:List Item → Int → Option Bool
 | [],n=>some (decide (n ≤ 12))
 | x :: xs,n=>bif !itmB x then some false else cntF xs (w64 (n + x.fCount))
theorem cntF_eq:∀ (l:List Item) (n:Int),0 ≤ n → n + 6 * l.length ≤ 4611686018427387904 → cntF l n = some (l.all itmB && decide (n + sumI (l.map (·.fCount)) ≤ 12))
 | [],n,_,_=>by simp [cntF]
 | x :: xs,n,h0,h1=>by
  unfold cntF
  cases hx:itmB x
  · simp [hx]
  · have hc:=hx
    simp only [itmB,Bool.and_eq_true,inb_iff] at hc
    have hc:=hc.2.2.2.2.2.2
    simp only [List.length_cons] at h1
    rw [w64_id (by omega) (by omega)]
    simp only [Bool.not_true,cond_false]
    rw [cntF_eq xs (n + x.fCount) (by omega) (by omega)]
    simp only [List.all_cons,hx,Bool.true_and,List.map_cons,sumI_cons,Int.add_assoc]
theorem s_bou {fu:Nat} {r:Request} (h:Sm fu r):d_spec_BoundsOk fu r = some (bouB r):=by
 have hfu:=h.fu
 have h7:r.fItems.length ≤ 8 → d_spec_BoundsOk_L1 fu r fu 0 0 = some (r.fItems.all itmB && decide (sumI (r.fItems.map (·.fCount)) ≤ 12)):=by
  intro h8
  rw [lp r.fItems (fun n s i=>d_spec_BoundsOk_L1 fu r n s i) cntF (by have:=h.items; omega) ?_ ?_ fu 0 (by have:=h.items; omega),cntF_eq _ _ (by omega) (by have:=h.items; omega)]
  · simp
  · intro n s i x xs hx hd ih
    simp only [d_spec_BoundsOk_L1.eq_2]
    unfold d_spec_BoundsOk_L1_B
    simp only [hd,cond_true,hx,ob_some,s_itm,ih]
    rfl
  · intro n s i hd
    simp only [d_spec_BoundsOk_L1.eq_2]
    unfold d_spec_BoundsOk_L1_B
    simp only [hd,cond_false]
    rfl
 have h6:∀ b:Bool,(d_spec_BoundsOk_L1 fu r fu 0 0 = some b) → d_spec_BoundsOk_L2 fu r fu 0 = some (r.fTypes.all typB && b):=by
  intro b hb
  refine lp r.fTypes (fun n (_:Unit) i=>d_spec_BoundsOk_L2 fu r n i) (fun l _=>some (l.all typB && b)) (by have:=h.types; omega) ?_ ?_ fu () (by have:=h.types; omega)
  · intro n s i x xs hx hd ih
    simp only [d_spec_BoundsOk_L2.eq_2]
    unfold d_spec_BoundsOk_L2_B
    simp only [hd,cond_true,hx,ob_some,s_typ,ih (),List.all_cons]
    cases typB x <;> rfl
  · intro n s i hd
    simp only [d_spec_BoundsOk_L2.eq_2]
    unfold d_spec_BoundsOk_L2_B
    simp only [hd,cond_false,hb]
    rfl
 have h4:∀ b:Bool,(d_spec_BoundsOk_L2 fu r fu 0 = some b) → d_spec_BoundsOk_L3 fu r fu 0 = some (r.fPairs.all prB && b):=by
  intro b hb
  refine lp r.fPairs (fun n (_:Unit) i=>d_spec_BoundsOk_L3 fu r n i) (fun l _=>some (l.all prB && b)) (by have:=h.pairs; omega) ?_ ?_ fu () (by have:=h.pairs; omega)
  · intro n s i x xs hx hd ih
    simp only [d_spec_BoundsOk_L3.eq_2]
    unfold d_spec_BoundsOk_L3_B d_spec_BoundsOk_J1
    simp only [hd,cond_true,hx,ob_some,s_in,ih ()]
    simp only [List.all_cons,prB]
    cases inb x.fA 0 3 <;> cases inb x.fB 0 3 <;> rfl
  · intro n s i hd
    simp only [d_spec_BoundsOk_L3.eq_2]
    unfold d_spec_BoundsOk_L3_B
    simp only [hd,cond_false,hb]
    rfl
 unfold d_spec_BoundsOk d_spec_BoundsOk_J2 bouB
 simp only [s_in,s_id,s_pal,ob_some]
 by_cases h8:r.fItems.length ≤ 8
 · rw [h4 _ (h6 _ (h7 h8))]
   have e8:decide ((r.fItems.length:Int) > 8) = false:=by simp; omega
   rw [e8]
   by_cases hp:r.fPairs.length ≤ 16
   · have e16:decide ((r.fPairs.length:Int) > 16) = false:=by simp; omega
     rw [e16]
     simp only [hp,h8,decide_true,cond_false,Bool.and_true]
     cases inb r.fWay 0 1 <;> cases palB r.fPallet <;> cases inb r.fClasses 1 4 <;> cases inb (r.fTypes.length:Int) 1 5 <;> cases inb r.fMaster 0 999 <;> simp <;> cases r.fPairs.all prB <;> cases r.fTypes.all typB <;> rfl
   · have e16:decide ((r.fPairs.length:Int) > 16) = true:=by simp; omega
     rw [e16]
     simp only [hp,decide_false,cond_true]
     cases inb r.fWay 0 1 <;> cases palB r.fPallet <;> cases inb r.fClasses 1 4 <;> simp
 · have e8:decide ((r.fItems.length:Int) > 8) = true:=by simp; omega
   rw [e8]
   simp only [h8,decide_false,cond_true,Bool.and_false,Bool.false_and]
   cases inb r.fWay 0 1 <;> cases palB r.fPallet <;> cases inb r.fClasses 1 4 <;> simp
theorem s_places {fu:Nat} (n:Nat) (hn:n ≤ 1048576) (hf:n < fu):d_spec_l1Places fu (n:Int) = some (ints 0 n):=by
 unfold d_spec_l1Places
 have key:∀ (m i k:Nat),n - i = m → i ≤ n → m < k → d_spec_l1Places_L1 fu (n:Int) k (ints 0 i) (i:Int) = some (ints 0 n):=by
  intro m
  induction m with
  | zero =>
   intro i k hm hi hk
   obtain ⟨k,rfl⟩:∃ j,k = j + 1:=⟨k - 1,by omega⟩
   have:i = n:=by omega
   subst this
   rw [d_spec_l1Places_L1.eq_2]
   unfold d_spec_l1Places_L1_B
   simp
  | succ m ih =>
   intro i k hm hi hk
   obtain ⟨k,rfl⟩:∃ j,k = j + 1:=⟨k - 1,by omega⟩
   rw [d_spec_l1Places_L1.eq_2]
   unfold d_spec_l1Places_L1_B
   rw [bif_true (by simp; omega),ap1 (by rw [ints_len]; simp; omega),ob_some,w64_s i (by omega)]
   have e:=ints_snoc 0 i
   rw [Int.zero_add] at e
   rw [← e]
   exact ih (i + 1) k (by omega) (by omega) (by omega)
 exact key n 0 fu (by omega) (by omega) hf
def dk (keys:List Int) (down:Bool) (p:Int):Int:=bif down then - kf keys p else kf keys p
theorem kf_ix {keys:List Int} {p:Int} (h:0 ≤ p ∧ p < keys.length):ix keys p = some (kf keys p):=by
 have h1:p.toNat < keys.length:=by omega
 unfold kf ix
 rw [if_pos h.1,List.getElem?_eq_getElem h1]
 rfl
theorem s_mrg {fu:Nat} {keys a b:List Int} (down:Bool) (ha:∀ p ∈ a,0 ≤ p ∧ p < keys.length) (hb:∀ p ∈ b,0 ≤ p ∧ p < keys.length) (hla:a.length ≤ 1048576) (hlb:b.length ≤ 1048576) :
    ∀ (m:Nat) (n:Nat) (out:List Int) (i j:Nat),i ≤ a.length → j ≤ b.length → (a.length - i) + (b.length - j) = m → m < n → out.length + m ≤ 2097152 →
     d_spec_l1Merge_L1 fu keys down a b n out i j = some (out ++ mrg (dk keys down) (a.drop i) (b.drop j)):=by
 intro m
 induction m with
 | zero =>
  intro n out i j hi hj hm hn ho
  obtain ⟨n,rfl⟩:∃ k,n = k + 1:=⟨n - 1,by omega⟩
  rw [d_spec_l1Merge_L1.eq_2]
  unfold d_spec_l1Merge_L1_B
  rw [bif_false (by simp; omega),bif_false (by simp; omega),List.drop_of_length_le (show a.length ≤ i by omega),List.drop_of_length_le (show b.length ≤ j by omega)]
  simp [mrg]
 | succ m ih =>
  intro n out i j hi hj hm hn ho
  obtain ⟨n,rfl⟩:∃ k,n = k + 1:=⟨n - 1,by omega⟩
  have hL:d_spec_l1Merge_L1 fu keys down a b (n + 1) out i j = d_spec_l1Merge_J1 fu (d_spec_l1Merge_L1 fu keys down a b n) keys down a b out i j:=by
   rw [d_spec_l1Merge_L1.eq_2]
   unfold d_spec_l1Merge_L1_B
   by_cases h:i < a.length
   · rw [bif_true (by simpa using h)]
   · rw [bif_false (by simpa using h),bif_true (by simp; omega)]
  have tA:∀ (h:i < a.length),(apnd 8 out [a[i]]) = some (out ++ [a[i]]):=fun h=>ap1 (by simp; omega)
  have tB:∀ (h:j < b.length),(apnd 8 out [b[j]]) = some (out ++ [b[j]]):=fun h=>ap1 (by simp; omega)
  have nA:∀ (h:i < a.length),d_spec_l1Merge_L1 fu keys down a b n (out ++ [a[i]]) (w64 ((i:Int) + 1)) j = some (out ++ a[i] :: mrg (dk keys down) (a.drop (i + 1)) (b.drop j)):=fun h=>by
   rw [w64_s i (by omega),ih n (out ++ [a[i]]) (i + 1) j (by omega) hj (by omega) (by omega) (by simp; omega)]
   simp
  have nB:∀ (h:j < b.length),d_spec_l1Merge_L1 fu keys down a b n (out ++ [b[j]]) i (w64 ((j:Int) + 1)) = some (out ++ b[j] :: mrg (dk keys down) (a.drop i) (b.drop (j + 1))):=fun h=>by
   rw [w64_s j (by omega),ih n (out ++ [b[j]]) i (j + 1) hi (by omega) (by omega) (by omega) (by simp; omega)]
   simp
  rw [hL]
  unfold d_spec_l1Merge_J1
  by_cases hjb:j = b.length
  · have h:i < a.length:=by omega
    rw [bif_true (by simp [hjb]),ix_i h,ob_some,tA h,ob_some,nA h,List.drop_of_length_le (show b.length ≤ j by omega),mrg_nil,mrg_nil,← List.drop_eq_getElem_cons h]
  · have hj':j < b.length:=by omega
    rw [bif_false (by simp; omega)]
    by_cases hia:i = a.length
    · rw [bif_true (by simp [hia]),ix_i hj',ob_some,tB hj',ob_some,nB hj',List.drop_of_length_le (show a.length ≤ i by omega)]
      have e1:∀ l,mrg (dk keys down) [] l = l:=fun l=>by rw [mrg]
      rw [e1,e1,← List.drop_eq_getElem_cons hj']
    · have hi':i < a.length:=by omega
      rw [bif_false (by simp; omega)]
      simp only [ix_i hi',ix_i hj',ob_some,kf_ix (ha _ (List.getElem_mem hi')),kf_ix (hb _ (List.getElem_mem hj')),tA hi',tB hj',nA hi',nB hj']
      rw [List.drop_eq_getElem_cons hi',List.drop_eq_getElem_cons hj',mrg_cons,← List.drop_eq_getElem_cons hi',← List.drop_eq_getElem_cons hj']
      have hx:dk keys down a[i] = bif down then - kf keys a[i] else kf keys a[i]:=rfl
      have hy:dk keys down b[j] = bif down then - kf keys b[j] else kf keys b[j]:=rfl
      rw [hx,hy]
      generalize kf keys a[i] = x
      generalize kf keys b[j] = y
      cases down
      · by_cases hc:y < x
        · rw [if_pos (by simpa using hc)]; simp [hc]
        · rw [if_neg (by simpa using hc)]
          have:decide (y > x) = true ∨ decide (y > x) = false:=by cases decide (y > x) <;> simp
          rcases this with h | h <;> simp [hc,h]
      · by_cases hc:x < y
        · have h:¬ y < x:=by omega
          rw [if_pos (by simpa using hc)]; simp [hc,h]
        · rw [if_neg (by simpa using hc)]
          have h:decide (y < x) = true ∨ decide (y < x) = false:=by cases decide (y < x) <;> simp
          rcases h with h | h <;> simp [hc,h]
theorem s_msrR {fu:Nat} {keys:List Int} (down:Bool) (hfu:2097153 ≤ fu):∀ (n:Nat) (l:List Int),l.length ≤ n → l.length ≤ 1048576 → (∀ p ∈ l,0 ≤ p ∧ p < keys.length) →
    d_spec_l1Merge_R fu (n + 1) keys l down = some (msr (dk keys down) (n + 1) l)
 | n,l,hn,hl,hm=>by
  rw [d_spec_l1Merge_R.eq_2]
  unfold d_spec_l1Merge_RB msr
  by_cases h2:l.length < 2
  · rw [bif_true (by simp; omega),if_pos h2,ap1 (by simp; omega)]; rfl
  · rw [bif_false (by simp; omega),if_neg h2]
    have hd:Int.tdiv (l.length:Int) 2 = ((l.length / 2:Nat):Int):=by simp [Int.tdiv]
    obtain ⟨n,rfl⟩:∃ k,n = k + 1:=⟨n - 1,by omega⟩
    rw [hd,w64_id (by omega) (by omega),sls_some (by omega),sls_some (by omega),ob_some]
    simp only [Int.toNat_natCast,Int.toNat_zero,List.drop_zero,Nat.sub_zero,ob_some]
    rw [s_msrR down hfu n (l.take (l.length / 2)) (by rw [List.length_take]; omega) (by rw [List.length_take]; omega) (fun p hp=>hm p (List.mem_of_mem_take hp)),ob_some]
    have e:(l.drop (l.length / 2)).take (l.length - l.length / 2) = l.drop (l.length / 2):=List.take_of_length_le (by rw [List.length_drop]; omega)
    rw [e,s_msrR down hfu n (l.drop (l.length / 2)) (by rw [List.length_drop]; omega) (by rw [List.length_drop]; omega) (fun p hp=>hm p (List.mem_of_mem_drop hp)),ob_some]
    have hp1:=(msr_perm (dk keys down) (n + 1) (l.take (l.length / 2)))
    have hp2:=(msr_perm (dk keys down) (n + 1) (l.drop (l.length / 2)))
    have l1:=hp1.length_eq
    have l2:=hp2.length_eq
    rw [List.length_take] at l1
    rw [List.length_drop] at l2
    rw [show (0:Int) = ((0:Nat):Int) from rfl]
    rw [s_mrg down (fun p hp=>hm p (List.mem_of_mem_take (hp1.mem_iff.1 hp))) (fun p hp=>hm p (List.mem_of_mem_drop (hp2.mem_iff.1 hp))) (by omega) (by omega) _ fu [] 0 0 (by omega) (by omega) rfl (by omega) (by simp; omega)]
    simp
theorem s_up {fu:Nat} {keys:List Int} (hfu:2097153 ≤ fu) (hl:keys.length ≤ 1048576):d_spec_SortUp fu keys = some (srt (kf keys) keys.length):=by
 unfold d_spec_SortUp d_spec_l1Merge
 rw [s_places keys.length hl (by omega),ob_some]
 obtain ⟨m,rfl⟩:∃ m,fu = m + 1:=⟨fu - 1,by omega⟩
 rw [s_msrR false hfu m _ (by rw [ints_len]; omega) (by rw [ints_len]; omega) (fun p hp=>by have:=ints_mem.1 hp; omega),ob_some]
 congr 1
 have e:dk keys false = kf keys:=rfl
 rw [e]
 exact srt_uniq (msr_perm _ _ _) (msr_sorted _ _ _ (by rw [ints_len]; omega) (ints_lt _ _))
theorem lpP {σ α β:Type} (l:List α) (L:Nat → σ → Int → Option β) (F:List α → List α → σ → Option β) (hl:l.length ≤ 1099511627776)
    (hs:∀ n s pre x xs,l = pre ++ x :: xs → ix l (pre.length:Int) = some x → decide ((pre.length:Int) < (l.length:Int)) = true → (∀ s',L n s' (w64 ((pre.length:Int) + 1)) = F (pre ++ [x]) xs s') → L (n + 1) s (pre.length:Int) = F pre (x :: xs) s)
    (he:∀ n s,decide ((l.length:Int) < (l.length:Int)) = false → L (n + 1) s (l.length:Int) = F l [] s):∀ n s,l.length < n → L n s 0 = F [] l s:=by
 have key:∀ (xs pre:List α) (n:Nat) (s:σ),l = pre ++ xs → xs.length < n → L n s (pre.length:Int) = F pre xs s:=by
  intro xs
  induction xs with
  | nil =>
   intro pre n s he' hn
   obtain ⟨n,rfl⟩:∃ k,n = k + 1:=⟨n - 1,by omega⟩
   simp only [List.append_nil] at he'
   subst he'
   exact he n s (by simp)
  | cons x xs ih =>
   intro pre n s he' hn
   obtain ⟨n,rfl⟩:∃ k,n = k + 1:=⟨n - 1,by simp at hn; omega⟩
   have hlen:l.length = pre.length + (xs.length + 1):=by rw [he']; simp
   refine hs n s pre x xs he' ?_ (by simp; omega) fun s'=>?_
   · rw [ix_nat,he']; simp
   · rw [w64_s _ (by omega)]
     have:=ih (pre ++ [x]) n s' (by simp [he']) (by simp at hn; omega)
     simpa using this
 intro n s hn
 simpa using key l [] n s rfl hn
theorem ix_app {α:Type} {pre rest:List α} {i:Int} {y:α} (h:ix pre i = some y):ix (pre ++ rest) i = some y:=by
 obtain ⟨h0,h1,h2⟩:=ix_some h
 unfold ix
 rw [if_pos h0,List.getElem?_append_left (by omega),h2]
theorem ibeq (a b:Int):(a == b) = (b == a):=Bool.eq_iff_iff.2 (by simp only [beq_iff_eq]; exact ⟨Eq.symm,Eq.symm⟩)
theorem s_mas {fu:Nat} {r:Request} (h:Sm fu r):d_spec_MasterOf fu r = some (othM (typM r r.fMaster)):=by
 have hfu:=h.fu
 have ht:=h.types
 unfold d_spec_MasterOf typM
 refine lp r.fTypes (fun n (_:Unit) i=>d_spec_MasterOf_L1 fu r n i) (fun l _=>some (othM (l.find? fun t=>t.fId == r.fMaster))) (by omega) ?_ ?_ fu () (by omega)
 · intro n s i x xs hx hd ih
   simp only [d_spec_MasterOf_L1.eq_2]
   unfold d_spec_MasterOf_L1_B
   simp only [hd,cond_true,hx,ob_some,ih (),List.find?_cons]
   cases x.fId == r.fMaster <;> rfl
 · intro n s i hd
   simp only [d_spec_MasterOf_L1.eq_2]
   unfold d_spec_MasterOf_L1_B
   simp only [hd,cond_false]
   rfl
theorem othM_2 (o:Option Typ):(othM o).2 = o.isSome:=by cases o <;> rfl
theorem s_nam {fu:Nat} {r:Request} (h:Sm fu r):d_spec_l5Names fu r = some (namB r):=by
 have hfu:=h.fu
 have h1:=h.items
 have h2:=h.types
 have h3:=h.pairs
 have e11:d_spec_l5Names_L3 fu r fu 0 = some (!(r.fPairs.any fun p=>decide (p.fA ≥ r.fClasses) || decide (p.fB ≥ r.fClasses)) && (typM r r.fMaster).isSome):=by
  refine lp r.fPairs (fun n (_:Unit) i=>d_spec_l5Names_L3 fu r n i) (fun l _=>some (!(l.any fun p=>decide (p.fA ≥ r.fClasses) || decide (p.fB ≥ r.fClasses)) && (typM r r.fMaster).isSome)) (by omega) ?_ ?_ fu () (by omega)
  · intro n s i x xs hx hd ih
    simp only [d_spec_l5Names_L3.eq_2]
    unfold d_spec_l5Names_L3_B d_spec_l5Names_J1
    simp only [hd,cond_true,hx,ob_some,ih (),List.any_cons]
    cases decide (x.fA ≥ r.fClasses) <;> cases decide (x.fB ≥ r.fClasses) <;> rfl
  · intro n s i hd
    simp only [d_spec_l5Names_L3.eq_2]
    unfold d_spec_l5Names_L3_B
    simp only [hd,cond_false,s_mas h,ob_some,othM_2]
    rfl
 have e7:∀ b,d_spec_l5Names_L3 fu r fu 0 = some b → d_spec_l5Names_L4 fu r fu 0 = some (nodC r.fClasses [] r.fItems && b):=by
  intro b hb
  refine lpP r.fItems (fun n (_:Unit) i=>d_spec_l5Names_L4 fu r n i) (fun pre l _=>some (nodC r.fClasses pre l && b)) (by omega) ?_ ?_ fu () (by omega)
  · intro n s pre x xs hl hx hd ih
    simp only [d_spec_l5Names_L4.eq_2]
    unfold d_spec_l5Names_L4_B
    simp only [hd,cond_true,hx,ob_some,nodC]
    cases hc:decide (x.fClass ≥ r.fClasses)
    · have hpl:pre.length ≤ r.fItems.length:=by rw [hl]; simp
      have e8:d_spec_l5Names_L2 fu (fun i=>d_spec_l5Names_L4 fu r n i) r (pre.length:Int) fu 0 = bif pre.any (fun y=>y.fId == x.fId) then some false else d_spec_l5Names_L4 fu r n (w64 ((pre.length:Int) + 1)):=by
       refine lp pre (fun m (_:Unit) i=>d_spec_l5Names_L2 fu (fun i=>d_spec_l5Names_L4 fu r n i) r (pre.length:Int) m i) (fun l _=>bif l.any (fun y=>y.fId == x.fId) then some false else d_spec_l5Names_L4 fu r n (w64 ((pre.length:Int) + 1))) (by omega) ?_ ?_ fu () (by omega)
       · intro m s i y ys hy hd ih
         simp only [d_spec_l5Names_L2.eq_2]
         unfold d_spec_l5Names_L2_B
         have hy':ix r.fItems i = some y:=by rw [hl]; exact ix_app hy
         simp only [hd,cond_true,hx,hy',ob_some,ih (),List.any_cons]
         rw [ibeq x.fId y.fId]
         cases y.fId == x.fId <;> rfl
       · intro m s i hd
         simp only [d_spec_l5Names_L2.eq_2]
         unfold d_spec_l5Names_L2_B
         simp only [hd,cond_false]
         rfl
      have e8':d_spec_l5Names_L2 fu (d_spec_l5Names_L4 fu r n) r (pre.length:Int) fu 0 = bif pre.any (fun y=>y.fId == x.fId) then some false else d_spec_l5Names_L4 fu r n (w64 ((pre.length:Int) + 1)):=e8
      rw [cond_false,e8',ih ()]
      cases pre.any (fun y=>y.fId == x.fId) <;> rfl
    · rfl
  · intro n s hd
    simp only [d_spec_l5Names_L4.eq_2]
    unfold d_spec_l5Names_L4_B
    simp only [hd,cond_false,hb]
    rfl
 have e3:∀ b,d_spec_l5Names_L4 fu r fu 0 = some b → d_spec_l5Names_L5 fu r fu 0 = some (nodB Typ.fId [] r.fTypes && b):=by
  intro b hb
  refine lpP r.fTypes (fun n (_:Unit) i=>d_spec_l5Names_L5 fu r n i) (fun pre l _=>some (nodB Typ.fId pre l && b)) (by omega) ?_ ?_ fu () (by omega)
  · intro n s pre x xs hl hx hd ih
    simp only [d_spec_l5Names_L5.eq_2]
    unfold d_spec_l5Names_L5_B
    simp only [hd,cond_true,nodB]
    have hpl:pre.length ≤ r.fTypes.length:=by rw [hl]; simp
    have e8:d_spec_l5Names_L1 fu (fun i=>d_spec_l5Names_L5 fu r n i) r (pre.length:Int) fu 0 = bif pre.any (fun y=>y.fId == x.fId) then some false else d_spec_l5Names_L5 fu r n (w64 ((pre.length:Int) + 1)):=by
     refine lp pre (fun m (_:Unit) i=>d_spec_l5Names_L1 fu (fun i=>d_spec_l5Names_L5 fu r n i) r (pre.length:Int) m i) (fun l _=>bif l.any (fun y=>y.fId == x.fId) then some false else d_spec_l5Names_L5 fu r n (w64 ((pre.length:Int) + 1))) (by omega) ?_ ?_ fu () (by omega)
     · intro m s i y ys hy hd ih
       simp only [d_spec_l5Names_L1.eq_2]
       unfold d_spec_l5Names_L1_B
       have hy':ix r.fTypes i = some y:=by rw [hl]; exact ix_app hy
       simp only [hd,cond_true,hx,hy',ob_some,ih (),List.any_cons]
       rw [ibeq x.fId y.fId]
       cases y.fId == x.fId <;> rfl
     · intro m s i hd
       simp only [d_spec_l5Names_L1.eq_2]
       unfold d_spec_l5Names_L1_B
       simp only [hd,cond_false]
       rfl
    have e8':d_spec_l5Names_L1 fu (d_spec_l5Names_L5 fu r n) r (pre.length:Int) fu 0 = bif pre.any (fun y=>y.fId == x.fId) then some false else d_spec_l5Names_L5 fu r n (w64 ((pre.length:Int) + 1)):=e8
    rw [e8',ih ()]
    cases pre.any (fun y=>y.fId == x.fId) <;> rfl
  · intro n s hd
    simp only [d_spec_l5Names_L5.eq_2]
    unfold d_spec_l5Names_L5_B
    simp only [hd,cond_false,hb]
    rfl
 unfold d_spec_l5Names namB
 rw [e3 _ (e7 _ e11)]
 congr 1
 cases nodB Typ.fId [] r.fTypes <;> cases nodC r.fClasses [] r.fItems <;> cases (typM r r.fMaster).isSome <;> cases r.fPairs.any fun p=>decide (p.fA ≥ r.fClasses) || decide (p.fB ≥ r.fClasses) <;> rfl
theorem s_bes {fu:Nat} {l:List Pair} (hl:l.length ≤ 1048576) (hf:l.length < fu) (a b:Int):d_spec_Beside fu l a b = some (besB l a b):=by
 unfold d_spec_Beside besB
 refine lp l (fun n (_:Unit) i=>d_spec_Beside_L1 fu l a b n i) (fun l _=>some (l.any fun p=>p.fA == a && p.fB == b)) (by omega) ?_ ?_ fu () hf
 · intro n s i x xs hx hd ih
   simp only [d_spec_Beside_L1.eq_2]
   unfold d_spec_Beside_L1_B d_spec_Beside_J1
   simp only [hd,cond_true,hx,ob_some,ih (),List.any_cons]
   cases x.fA == a <;> cases x.fB == b <;> rfl
 · intro n s i hd
   simp only [d_spec_Beside_L1.eq_2]
   unfold d_spec_Beside_L1_B
   simp only [hd,cond_false]
   rfl
theorem s_tab {fu:Nat} {l:List Pair} (hl:l.length ≤ 1048576) (hf:l.length < fu) (h64:64 < fu) (c:Int):d_spec_TableOk fu l c = some (tabB l c):=by
 unfold d_spec_TableOk tabB
 rw [s_in,ob_some]
 cases hc:inb c 1 4
 · rfl
 rw [inb_iff] at hc
 simp only [Bool.not_true,cond_false,Bool.true_and]
 have e4:∀ (k:Int → Option Bool) (a:Int),d_spec_TableOk_L1 fu k l c a fu 0 = bif (ints 0 c.toNat).all fun b=>(!(a == b) || besB l a a) && (besB l a b == besB l b a) then k (w64 (a + 1)) else some false:=by
  intro k a
  refine lpN c (fun n (_:Unit) i=>d_spec_TableOk_L1 fu k l c a n i) (fun xs _=>bif xs.all fun b=>(!(a == b) || besB l a a) && (besB l a b == besB l b a) then k (w64 (a + 1)) else some false) (by omega) ?_ ?_ c.toNat fu () 0 (by omega) (by omega) (by omega)
  · intro n s i xs h0 h1 hd ih
    simp only [d_spec_TableOk_L1.eq_2]
    unfold d_spec_TableOk_L1_B d_spec_TableOk_J1
    simp only [hd,cond_true,s_bes hl hf,ob_some,ih (),List.all_cons]
    cases a == i <;> cases besB l a a <;> cases besB l a i == besB l i a <;> rfl
  · intro n s i hd
    simp only [d_spec_TableOk_L1.eq_2]
    unfold d_spec_TableOk_L1_B
    simp only [hd,cond_false]
    rfl
 have e9:d_spec_TableOk_L2 fu l c fu 0 = some ((ints 0 c.toNat).all fun a=>(ints 0 c.toNat).all fun b=>(!(a == b) || besB l a a) && (besB l a b == besB l b a)):=by
  refine lpN c (fun n (_:Unit) i=>d_spec_TableOk_L2 fu l c n i) (fun xs _=>some (xs.all fun a=>(ints 0 c.toNat).all fun b=>(!(a == b) || besB l a a) && (besB l a b == besB l b a))) (by omega) ?_ ?_ c.toNat fu () 0 (by omega) (by omega) (by omega)
  · intro n s i xs h0 h1 hd ih
    simp only [d_spec_TableOk_L2.eq_2]
    unfold d_spec_TableOk_L2_B
    simp only [hd,cond_true,e4,ih (),List.all_cons]
    cases (ints 0 c.toNat).all fun b=>(!(i == b) || besB l i i) && (besB l i b == besB l b i) <;> rfl
  · intro n s i hd
    simp only [d_spec_TableOk_L2.eq_2]
    unfold d_spec_TableOk_L2_B
    simp only [hd,cond_false]
    rfl
 rw [e9]
 congr 1
 apply Bool.eq_iff_iff.2
 simp only [List.all_eq_true,Bool.and_eq_true,Bool.or_eq_true,Bool.not_eq_true',beq_eq_false_iff_ne,beq_iff_eq]
 constructor
 · intro h a ha
   refine ⟨?_,fun b hb=>(h a ha b hb).2⟩
   rcases (h a ha a ha).1 with h1 | h1
   · exact absurd rfl h1
   · exact h1
 · intro h a ha b hb
   exact ⟨.inr (h a ha).1,(h a ha).2 b hb⟩
theorem len3 {l:List Int} (h:l.length = 3):∃ p q s,l = [p,q,s]:=by
 match l,h with
 | [p,q,s],_=>exact ⟨p,q,s,rfl⟩
theorem s_sid {fu:Nat} (hfu:2097153 ≤ fu) (a b c:Int):d_spec_l5Sides fu a b c = some [(sid a b c).1,(sid a b c).2.1,(sid a b c).2.2]:=by
 unfold d_spec_l5Sides
 rw [s_up hfu (by simp),ob_some,show [a,b,c].length = 3 from rfl]
 have hp:=srt_perm (kf [a,b,c]) 3
 have hs:=srt_sorted (kf [a,b,c]) 3
 obtain ⟨p,q,s,hq⟩:=len3 (srt_len (kf [a,b,c]) 3)
 rw [hq] at hp hs ⊢
 have hmem:∀ x ∈ [p,q,s],0 ≤ x ∧ x < 3:=fun x hx=>by
  have:=ints_mem.1 (hp.mem_iff.1 hx)
  omega
 have k1:=kf_ix (keys:=[a,b,c]) (p:=p) (by have:=hmem p (by simp); simpa using this)
 have k2:=kf_ix (keys:=[a,b,c]) (p:=q) (by have:=hmem q (by simp); simpa using this)
 have k3:=kf_ix (keys:=[a,b,c]) (p:=s) (by have:=hmem s (by simp); simpa using this)
 rw [show ix [p,q,s] 0 = some p from rfl,show ix [p,q,s] 1 = some q from rfl,show ix [p,q,s] 2 = some s from rfl]
 simp only [ob_some,k1,k2,k3]
 have hp3:([a,b,c]).Perm [kf [a,b,c] p,kf [a,b,c] q,kf [a,b,c] s]:=(hp.map (kf [a,b,c])).symm
 simp only [List.pairwise_cons,List.mem_cons,List.not_mem_nil,or_false,forall_eq_or_imp,forall_eq,lx] at hs
 have:=perm3 hp3 (by omega) (by omega)
 rw [this]
theorem s_fit {fu:Nat} (hfu:2097153 ≤ fu) (x:Item) (t:Typ):d_spec_Fits fu x t = some (fitB x t):=by
 unfold d_spec_Fits fitB
 rw [s_sid hfu,s_sid hfu]
 simp only [ob_some]
 have e0:∀ a b c:Int,ix [a,b,c] 0 = some a:=fun _ _ _=>rfl
 have e1:∀ a b c:Int,ix [a,b,c] 1 = some b:=fun _ _ _=>rfl
 have e2:∀ a b c:Int,ix [a,b,c] 2 = some c:=fun _ _ _=>rfl
 simp only [e0,e1,e2,ob_some]
 cases decide ((sid x.fW x.fH x.fD).1 ≤ (sid t.fW t.fH t.fD).1) <;> cases decide ((sid x.fW x.fH x.fD).2.1 ≤ (sid t.fW t.fH t.fD).2.1) <;> cases decide ((sid x.fW x.fH x.fD).2.2 ≤ (sid t.fW t.fH t.fD).2.2) <;> rfl
theorem sortI3 (a b c:Int):sortI [a,b,c] = some [(sid a b c).1,(sid a b c).2.1,(sid a b c).2.2]:=by
 unfold sortI
 rw [if_pos (by simp)]
 have hp:=List.mergeSort_perm [a,b,c] (fun x y=>decide (x ≤ y))
 have hs:=mergeSort_le [a,b,c]
 obtain ⟨p,q,s,hq⟩:=len3 (hp.length_eq)
 rw [hq] at hp hs ⊢
 simp only [List.pairwise_cons,List.mem_cons,List.not_mem_nil,or_false,forall_eq_or_imp,forall_eq] at hs
 rw [perm3 hp.symm (by omega) (by omega)]
theorem s_cls {fu:Nat} {r:Request} (h:Sm fu r):d_spec_Class fu r = some (clsM r):=by
 have hfu:=h.fu
 have h1:=h.items
 have h2:=h.types
 have h3:=h.pairs
 have e4:d_spec_Class_L1 fu r fu 0 = some (bif r.fTypes.any (tooB r.fPallet) then 6 else 0):=by
  refine lp r.fTypes (fun n (_:Unit) i=>d_spec_Class_L1 fu r n i) (fun l _=>some (bif l.any (tooB r.fPallet) then 6 else 0)) (by omega) ?_ ?_ fu () (by omega)
  · intro n s i x xs hx hd ih
    simp only [d_spec_Class_L1.eq_2]
    unfold d_spec_Class_L1_B d_spec_Class_J1
    simp only [hd,cond_true,hx,ob_some,ih (),List.any_cons,tooB]
    cases decide (x.fW > r.fPallet.fW) <;> cases decide (x.fD > r.fPallet.fD) <;> cases decide (x.fH > r.fPallet.fH) <;> cases decide (w64 (x.fTare + x.fGram) > r.fPallet.fGram) <;> rfl
  · intro n s i hd
    simp only [d_spec_Class_L1.eq_2]
    unfold d_spec_Class_L1_B
    simp only [hd,cond_false]
    rfl
 unfold d_spec_Class clsM
 rw [s_bou h,ob_some,s_nam h,ob_some,s_tab h3 (by omega) (by omega),ob_some,s_mas h,ob_some]
 have e1:d_spec_Class_L2 fu r (othM (typM r r.fMaster)) fu 0 = some (bif !(r.fItems.all fun x=>fitB x (masM r)) then 5 else bif r.fTypes.any (tooB r.fPallet) then 6 else 0):=by
  refine lp r.fItems (fun n (_:Unit) i=>d_spec_Class_L2 fu r (othM (typM r r.fMaster)) n i) (fun l _=>some (bif !(l.all fun x=>fitB x (masM r)) then 5 else bif r.fTypes.any (tooB r.fPallet) then 6 else 0)) (by omega) ?_ ?_ fu () (by omega)
  · intro n s i x xs hx hd ih
    simp only [d_spec_Class_L2.eq_2]
    unfold d_spec_Class_L2_B
    simp only [hd,cond_true,hx,ob_some,s_fit hfu,ih (),List.all_cons]
    rw [show (othM (typM r r.fMaster)).1 = masM r from rfl]
    cases fitB x (masM r) <;> rfl
  · intro n s i hd
    simp only [d_spec_Class_L2.eq_2]
    unfold d_spec_Class_L2_B
    simp only [hd,cond_false,e4]
    rfl
 rw [e1]
 cases bouB r <;> cases namB r <;> cases tabB r.fPairs r.fClasses <;> rfl
def SmR (r:Request):Prop:=r.fPairs.length ≤ 64 ∧ r.fTypes.length ≤ 64 ∧ r.fItems.length ≤ 64
theorem SmR.sm {r:Request} (h:SmR r) {fu:Nat} (hf:2097153 ≤ fu):Sm fu r:=⟨hf,by have:=h.1; omega,by have:=h.2.1; omega,by have:=h.2.2; omega⟩
theorem dr_right {fu:Nat} {b:List U8} {c:Cur} (h:CO b c) (hf:1048577 ≤ fu):Tot (d_spec_l2Right fu c) fun x=>(x.1.fPairs.length ≤ 40 ∧ (1 ≤ x.1.fTypes.length ∧ x.1.fTypes.length ≤ 8) ∧ x.1.fItems.length ≤ 8) ∧ CO b x.2:=by
 unfold d_spec_l2Right
 refine Tot.bind (dr_below h _) fun x1 h1=>Tot.bind (dr_pick (h.re h1.2) _ (by simp)) fun x2 h2=>Tot.bind (dr_pick (h.re h2.2) _ (by simp)) fun x3 h3=>Tot.bind (dr_pick (h.re h3.2) _ (by simp)) fun x4 h4=>Tot.bind (dr_pick (h.re h4.2) _ (by simp)) fun x5 h5=>Tot.bind (dr_below (h.re h5.2) _) fun x6 h6=>?_
 have hb:=h.2.2
 have hcb:=h.1
 obtain ⟨c0,c1⟩:=h6.1
 have c1:=c1 (by omega)
 have ew:w64 (1 + x6.1) = 1 + x6.1:=w64_id (by omega) (by omega)
 have L4:=lpT (1 + x6.1) (fun n (s:Int × Int × List Pair) i=>d_spec_l2Right_L4 fu c x1 x2 x3 x4 x5 x6 n s.1 s.2.1 s.2.2 i) (fun x:Request × Cur=>(x.1.fPairs.length ≤ 40 ∧ (1 ≤ x.1.fTypes.length ∧ x.1.fTypes.length ≤ 8) ∧ x.1.fItems.length ≤ 8) ∧ CO b x.2)
  (fun i s=>0 ≤ s.1 ∧ (s.2.2.length:Int) ≤ 8 * i ∧ i ≤ 4) (by omega) ?_ ?_ (1 + x6.1 - 0).toNat fu (x6.2.fi,x6.2.fh,[]) 0 (by omega) rfl (by omega) ⟨h6.2.2.1,by simp,by omega⟩
 · exact L4
 · intro n ⟨f1,f2,ps⟩ a ha0 ha1 hI ih
   obtain ⟨i1,i2,i3⟩:0 ≤ f1 ∧ (ps.length:Int) ≤ 8 * a ∧ a ≤ 4:=hI
   simp only [d_spec_l2Right_L4.eq_2]
   unfold d_spec_l2Right_L4_B
   rw [ew,bif_true (by simpa using ha1)]
   have L1:=lpT (a + 1) (fun m (s:Int × Int × List Pair) i=>d_spec_l2Right_L1 fu (d_spec_l2Right_L4 fu c x1 x2 x3 x4 x5 x6 n) c a m s.1 s.2.1 s.2.2 i) (fun x:Request × Cur=>(x.1.fPairs.length ≤ 40 ∧ (1 ≤ x.1.fTypes.length ∧ x.1.fTypes.length ≤ 8) ∧ x.1.fItems.length ≤ 8) ∧ CO b x.2)
    (fun i s=>0 ≤ s.1 ∧ (s.2.2.length:Int) ≤ 8 * a + 2 * i ∧ i ≤ a + 1) (by omega) ?_ ?_ (a + 1 - 0).toNat fu (f1,f2,ps) 0 (by omega) rfl (by omega) ⟨i1,by simp; omega,by omega⟩
   · exact L1
   · intro m ⟨g1,g2,qs⟩ i hi0 hi1 hI ih2
     obtain ⟨j1,j2,j3⟩:0 ≤ g1 ∧ (qs.length:Int) ≤ 8 * a + 2 * i ∧ i ≤ a + 1:=hI
     simp only [d_spec_l2Right_L1.eq_2]
     unfold d_spec_l2Right_L1_B
     rw [bif_true (by simp; omega)]
     unfold d_spec_l2Right_J1
     refine Tot.bif (fun hc=>?_) fun hc=>?_
     · refine Tot.ap (by simp; omega) ?_
       exact ih2 (g1,g2,_) ⟨j1,by simp; omega,by omega⟩
     · refine Tot.bind (dr_once (b:=b) (c:=⟨c.fb,g1,g2⟩) ⟨hcb,j1,hb⟩ 2) fun y hy=>?_
       refine Tot.bif (fun hc=>?_) fun hc=>?_
       · refine Tot.ap (by simp; omega) ?_
         exact ih2 (y.2.fi,y.2.fh,_) ⟨hy.2.1,by simp; omega,by omega⟩
       · exact ih2 (y.2.fi,y.2.fh,_) ⟨hy.2.1,by simp; omega,by omega⟩
   · intro m ⟨g1,g2,qs⟩ i hi0 hi1 hI
     obtain ⟨j1,j2,j3⟩:0 ≤ g1 ∧ (qs.length:Int) ≤ 8 * a + 2 * i ∧ i ≤ a + 1:=hI
     simp only [d_spec_l2Right_L1.eq_2]
     unfold d_spec_l2Right_L1_B
     rw [bif_false (by simp; omega)]
     have:i = a + 1:=by omega
     exact ih (g1,g2,qs) ⟨j1,by simp; omega,by omega⟩
 · intro n ⟨f1,f2,ps⟩ a ha0 ha1 hI
   obtain ⟨i1,i2,i3⟩:0 ≤ f1 ∧ (ps.length:Int) ≤ 8 * a ∧ a ≤ 4:=hI
   simp only [d_spec_l2Right_L4.eq_2]
   unfold d_spec_l2Right_L4_B
   rw [ew,bif_false (by simpa using ha1)]
   refine Tot.bind (dr_below (b:=b) (c:=⟨c.fb,f1,f2⟩) ⟨hcb,i1,hb⟩ _) fun y1 g1=>Tot.bind (dr_pick (h.re g1.2) _ (by simp)) fun y2 g2=>Tot.bind (dr_pick (h.re g2.2) _ (by simp)) fun y3 g3=>Tot.ap (by simp) ?_
   unfold d_spec_l2Right_J5
   refine Tot.bind (dr_below (h.re g3.2) _) fun y4 g4=>?_
   obtain ⟨e0,e1⟩:=g4.1
   have e1:=e1 (by omega)
   have L3:=lpT y4.1 (fun m (s':Int × Int × List Typ) i=>d_spec_l2Right_L3 fu c x1 x2 x3 x4 x5 x6 ps y4 m s'.1 s'.2.1 s'.2.2 i) (fun x:Request × Cur=>(x.1.fPairs.length ≤ 40 ∧ (1 ≤ x.1.fTypes.length ∧ x.1.fTypes.length ≤ 8) ∧ x.1.fItems.length ≤ 8) ∧ CO b x.2)
    (fun i s=>0 ≤ s.1 ∧ (s.2.2.length:Int) = 1 + i ∧ i ≤ y4.1) (by omega) ?_ ?_ (y4.1 - 0).toNat fu (y4.2.fi,y4.2.fh,([]:List Typ) ++ [(⟨7,12,10,11,y1.1,y2.1,y3.1⟩:Typ)]) 0 (by omega) rfl (by omega) ⟨g4.2.2.1,by simp,by omega⟩
   · exact L3
   · intro m ⟨g1,g2,ts⟩ i hi0 hi1 hI ih2
     obtain ⟨j1,j2,j3⟩:0 ≤ g1 ∧ (ts.length:Int) = 1 + i ∧ i ≤ y4.1:=hI
     simp only [d_spec_l2Right_L3.eq_2]
     unfold d_spec_l2Right_L3_B
     rw [bif_true (by simp; omega)]
     refine Tot.bind (dr_below (b:=b) (c:=⟨c.fb,g1,g2⟩) ⟨hcb,j1,hb⟩ _) fun z1 f1=>Tot.bind (dr_below (h.re f1.2) _) fun z2 f2=>Tot.bind (dr_below (h.re f2.2) _) fun z3 f3=>Tot.bind (dr_below (h.re f3.2) _) fun z4 f4=>Tot.bind (dr_below (h.re f4.2) _) fun z5 f5=>Tot.bind (dr_below (h.re f5.2) _) fun z6 f6=>Tot.ap (by simp; omega) ?_
     exact ih2 (z6.2.fi,z6.2.fh,_) ⟨f6.2.2.1,by simp; omega,by omega⟩
   · intro m ⟨g1,g2,ts⟩ i hi0 hi1 hI
     obtain ⟨j1,j2,j3⟩:0 ≤ g1 ∧ (ts.length:Int) = 1 + i ∧ i ≤ y4.1:=hI
     simp only [d_spec_l2Right_L3.eq_2]
     unfold d_spec_l2Right_L3_B
     rw [bif_false (by simp; omega)]
     refine Tot.bind (dr_below (b:=b) (c:=⟨c.fb,g1,g2⟩) ⟨hcb,j1,hb⟩ _) fun z f=>?_
     obtain ⟨q0,q1⟩:=f.1
     have q1:=q1 (by omega)
     have L2:=lpT z.1 (fun m (t:Int × Int × List Item × Int) i=>d_spec_l2Right_L2 fu c x1 x2 x3 x4 x5 x6 ps ts z m t.1 t.2.1 t.2.2.1 t.2.2.2 i) (fun x:Request × Cur=>(x.1.fPairs.length ≤ 40 ∧ (1 ≤ x.1.fTypes.length ∧ x.1.fTypes.length ≤ 8) ∧ x.1.fItems.length ≤ 8) ∧ CO b x.2)
      (fun i t=>0 ≤ t.1 ∧ (t.2.2.1.length:Int) ≤ i ∧ i ≤ z.1) (by omega) ?_ ?_ (z.1 - 0).toNat fu (z.2.fi,z.2.fh,[],0) 0 (by omega) rfl (by omega) ⟨f.2.2.1,by simp,by omega⟩
     · exact L2
     · intro m' ⟨k4,k5,is,un⟩ i' hi0 hi1 hI ih2
       obtain ⟨k1,k2,k3⟩:0 ≤ k4 ∧ (is.length:Int) ≤ i' ∧ i' ≤ z.1:=hI
       simp only [d_spec_l2Right_L2.eq_2]
       unfold d_spec_l2Right_L2_B
       rw [bif_true (by simp; omega)]
       refine Tot.bind (dr_below (b:=b) (c:=⟨c.fb,k4,k5⟩) ⟨hcb,k1,hb⟩ _) fun w1 v1=>Tot.bind (dr_below (h.re v1.2) _) fun w2 v2=>Tot.bind (dr_below (h.re v2.2) _) fun w3 v3=>Tot.bind (dr_below (h.re v3.2) _) fun w4 v4=>Tot.bind (dr_below (h.re v4.2) _) fun w5 v5=>Tot.bind (dr_below (h.re v5.2) _) fun w6 v6=>?_
       unfold d_spec_l2Right_J4
       have J3:∀ (p q:Int) (x:Item),0 ≤ p → Tot (d_spec_l2Right_J3 fu (d_spec_l2Right_L2 fu c x1 x2 x3 x4 x5 x6 ps ts z m') is un i' p q x) (fun x:Request × Cur=>(x.1.fPairs.length ≤ 40 ∧ (1 ≤ x.1.fTypes.length ∧ x.1.fTypes.length ≤ 8) ∧ x.1.fItems.length ≤ 8) ∧ CO b x.2):=by
        intro p q x hp
        unfold d_spec_l2Right_J3 d_spec_l2Right_J2
        refine Tot.bif (fun hc=>?_) fun hc=>?_
        · refine Tot.ap (by simp; omega) ?_
          exact ih2 (p,q,_,_) ⟨hp,by simp; omega,by omega⟩
        · exact ih2 (p,q,_,_) ⟨hp,by simp; omega,by omega⟩
       refine Tot.bind (dr_once (h.re v6.2) _) fun w7 v7=>?_
       refine Tot.bif (fun hc=>?_) fun hc=>?_
       · refine Tot.bind (dr_below (h.re v7) _) fun w8 v8=>?_
         exact J3 _ _ _ v8.2.2.1
       · exact J3 _ _ _ v7.2.1
     · intro m' ⟨k4,k5,is,un⟩ i' hi0 hi1 hI
       obtain ⟨k1,k2,k3⟩:0 ≤ k4 ∧ (is.length:Int) ≤ i' ∧ i' ≤ z.1:=hI
       simp only [d_spec_l2Right_L2.eq_2]
       unfold d_spec_l2Right_L2_B
       rw [bif_false (by simp; omega)]
       exact Tot.mk ⟨⟨by simp; omega,by simp; omega,by simp; omega⟩,hcb,k1,hb⟩
theorem dr_good {fu:Nat} {b:List U8} {c:Cur} (h:CO b c) (hf:2097153 ≤ fu):Tot (d_spec_l5Good fu c) fun x=>SmR x.1 ∧ CO b x.2:=by
 unfold d_spec_l5Good
 refine Tot.bind (dr_right h (by omega)) fun x hx=>?_
 obtain ⟨⟨a1,a2,a3⟩,hc⟩:=hx
 have hs:SmR x.1:=⟨by omega,by omega,by omega⟩
 rw [s_cls (hs.sm hf),ob_some]
 refine Tot.bif (fun _=>?_) fun _=>Tot.mk ⟨hs,h.re hc⟩
 have hs2:Sm fu (⟨x.1.fWay,(⟨30,25,24,400⟩:Pallet),x.1.fClasses,x.1.fPairs,x.1.fTypes,x.1.fMaster,x.1.fItems⟩:Request):=⟨hf,by simp; omega,by simp; omega,by simp; omega⟩
 rw [s_mas hs2,ob_some]
 generalize othM _ = t
 refine lpT (x.1.fItems.length:Int) (fun n s i=>d_spec_l5Good_L1 fu c x t n s i) _ (fun i s=>(s.length:Int) ≤ i ∧ i ≤ x.1.fItems.length) (by omega) ?_ ?_ _ fu [] 0 (by omega) rfl (by omega) ⟨by simp,by omega⟩
 · intro n s i h0 h1 hI ih
   simp only [d_spec_l5Good_L1.eq_2]
   unfold d_spec_l5Good_L1_B d_spec_l5Good_J1
   rw [bif_true (by simpa using h1)]
   refine Tot.ix ⟨h0,h1⟩ fun y hy=>?_
   rw [s_fit hf,ob_some]
   refine Tot.bif (fun _=>?_) fun _=>ih _ ⟨by omega,by omega⟩
   refine Tot.ix ⟨h0,h1⟩ fun y hy=>Tot.ap (by simp; omega) ?_
   exact ih _ ⟨by simp; omega,by omega⟩
 · intro n s i h0 h1 hI
   simp only [d_spec_l5Good_L1.eq_2]
   unfold d_spec_l5Good_L1_B
   rw [bif_false (by simp; omega)]
   exact Tot.mk ⟨⟨by simp; omega,by simp; omega,by simp; omega⟩,h.re hc⟩
theorem setx_lenD {α:Type} (l:List α) (i:Int) (y:α):(setx l i y).length = l.length:=by simp [setx]
theorem sls_from1 {α:Type} {l:List α} (h:0 < l.length):sls l 1 (l.length:Int) = some (l.drop 1):=by
 rw [sls_some (by omega)]
 congr 1
 exact List.take_of_length_le (by simp)
theorem dr_draw {fu:Nat} {b:List U8} {c:Cur} (h:CO b c) (hf:2097153 ≤ fu):Tot (d_spec_l2Draw fu c) fun x=>SmR x.1 ∧ CO b x.2:=by
 unfold d_spec_l2Draw
 refine Tot.bind (dr_right h (by omega)) fun x hx=>?_
 obtain ⟨⟨a1,a2,a3⟩,hc⟩:=hx
 obtain ⟨c1,c2,c3⟩:=h
 have h:CO b c:=⟨c1,c2,c3⟩
 refine Tot.bind (dr_pick (h.re hc) _ (by simp)) fun y hy=>Tot.bind (dr_below (h.re hy.2) _) fun z hz=>?_
 have J:∀ (f264 f265 f266 f267:Int) (f268:List Pair) (f273:List Typ) (f278:Int) (f279:List Item) (f286 f287:Int),f268.length ≤ 64 → f273.length ≤ 64 → f279.length ≤ 64 → 0 ≤ f286 → Tot (d_spec_l2Draw_J1 fu c x f264 f265 f266 f267 f268 f273 f278 f279 f286 f287) fun x=>SmR x.1 ∧ CO b x.2:=by
  intro f264 f265 f266 f267 f268 f273 f278 f279 f286 f287 q1 q2 q3 q4
  exact Tot.mk ⟨⟨q1,q2,q3⟩,c1,q4,c3⟩
 have hz0:=hz.2.2.1
 refine Tot.bif (fun _=>?_) fun _=>?_
 · exact Tot.bind (dr_pick (h.re hz.2) _ (by simp)) fun y hy=>J _ _ _ _ _ _ _ _ _ _ (by omega) (by omega) (by omega) hy.2.2.1
 refine Tot.bif (fun _=>?_) fun _=>?_
 · exact J _ _ _ _ _ _ _ _ _ _ (by omega) (by omega) (by omega) hz0
 refine Tot.bif (fun _=>?_) fun _=>?_
 · exact J _ _ _ _ _ _ _ _ _ _ (by omega) (by omega) (by omega) hz0
 refine Tot.bif (fun _=>?_) fun _=>?_
 · exact Tot.bind (dr_pick (h.re hz.2) _ (by simp)) fun y hy=>J _ _ _ _ _ _ _ _ _ _ (by omega) (by omega) (by omega) hy.2.2.1
 refine Tot.bif (fun _=>?_) fun _=>?_
 · exact Tot.bind (dr_below (h.re hz.2) _) fun y hy=>Tot.bind (dr_below (h.re hy.2) _) fun v hv=>Tot.ap (by simp; omega) (J _ _ _ _ _ _ _ _ _ _ (by simp; omega) (by omega) (by omega) hv.2.2.1)
 refine Tot.bif (fun _=>?_) fun _=>?_
 · exact Tot.ix (by omega) fun y hy=>J _ _ _ _ _ _ _ _ _ _ (by omega) (by rw [setx_lenD]; omega) (by omega) hz0
 refine Tot.bif (fun _=>?_) fun _=>?_
 · exact Tot.bind (dr_below (h.re hz.2) _) fun y hy=>Tot.ix ⟨hy.1.1,hy.1.2 (by omega)⟩ fun v hv=>J _ _ _ _ _ _ _ _ _ _ (by omega) (by rw [setx_lenD]; omega) (by omega) hy.2.2.1
 refine Tot.bif (fun _=>?_) fun _=>?_
 · exact Tot.bind (dr_pick (h.re hz.2) _ (by simp)) fun y hy=>J _ _ _ _ _ _ _ _ _ _ (by omega) (by omega) (by omega) hy.2.2.1
 refine Tot.bif (fun _=>?_) fun _=>?_
 · exact Tot.bind (dr_below (h.re hz.2) _) fun y hy=>Tot.bind (dr_below (h.re hy.2) _) fun v hv=>Tot.ap (by simp; omega) (J _ _ _ _ _ _ _ _ _ _ (by omega) (by omega) (by simp; omega) hv.2.2.1)
 refine Tot.bif (fun _=>?_) fun _=>?_
 · refine Tot.bif (fun hc=>?_) fun _=>?_
   · have:=of_decide_eq_true hc
     exact Tot.ix (by omega) fun y hy=>J _ _ _ _ _ _ _ _ _ _ (by omega) (by omega) (by rw [setx_lenD]; omega) hz0
   · exact J _ _ _ _ _ _ _ _ _ _ (by omega) (by omega) (by omega) hz0
 refine Tot.bif (fun _=>?_) fun _=>?_
 · refine Tot.bif (fun hc=>?_) fun _=>?_
   · have:=of_decide_eq_true hc
     rw [sls_from1 (by omega),ob_some]
     exact J _ _ _ _ _ _ _ _ _ _ (by simp; omega) (by omega) (by omega) hz0
   · exact J _ _ _ _ _ _ _ _ _ _ (by omega) (by omega) (by omega) hz0
 refine Tot.bif (fun _=>?_) fun _=>?_
 · exact Tot.ix (by omega) fun y hy=>Tot.ap (by simp; omega) (J _ _ _ _ _ _ _ _ _ _ (by omega) (by simp; omega) (by omega) hz0)
 refine Tot.bif (fun _=>?_) fun _=>?_
 · exact J _ _ _ _ _ _ _ _ _ _ (by omega) (by simp) (by omega) hz0
 · exact J _ _ _ _ _ _ _ _ _ _ (by omega) (by omega) (by omega) hz0
theorem dr_class {fu:Nat} {b:List U8} (hb:b.length ≤ 1048576) (hf:2097153 ≤ fu):Tot (d_spec_DrawClass fu b) SmR:=by
 unfold d_spec_DrawClass
 refine Tot.bind (dr_new hb (by omega)) fun x hx=>Tot.bind (dr_once hx.re' _) fun y hy=>?_
 refine Tot.bif (fun _=>?_) fun _=>?_
 · exact Tot.bind (dr_good hy.re' hf) fun z hz=>Tot.mk hz.1
 · exact Tot.bind (dr_draw hy.re' hf) fun z hz=>Tot.mk hz.1
theorem s_big (fu:Nat) (b:List U8):d_laws_big fu b = some (decide ((b.length:Int) > 1048576)):=rfl
theorem lpPI {σ α β:Type} (l:List α) (L:Nat → σ → Int → Option β) (F:List α → List α → σ → Option β) (I:List α → List α → σ → Prop) (hl:l.length ≤ 1099511627776)
    (hs:∀ n s pre x xs,l = pre ++ x :: xs → ix l (pre.length:Int) = some x → decide ((pre.length:Int) < (l.length:Int)) = true → I pre (x :: xs) s → (∀ s',I (pre ++ [x]) xs s' → L n s' (w64 ((pre.length:Int) + 1)) = F (pre ++ [x]) xs s') → L (n + 1) s (pre.length:Int) = F pre (x :: xs) s)
    (he:∀ n s,decide ((l.length:Int) < (l.length:Int)) = false → I l [] s → L (n + 1) s (l.length:Int) = F l [] s):∀ n s,I [] l s → l.length < n → L n s 0 = F [] l s:=by
 have key:∀ (xs pre:List α) (n:Nat) (s:σ),l = pre ++ xs → I pre xs s → xs.length < n → L n s (pre.length:Int) = F pre xs s:=by
  intro xs
  induction xs with
  | nil =>
   intro pre n s he' hI hn
   obtain ⟨n,rfl⟩:∃ k,n = k + 1:=⟨n - 1,by omega⟩
   simp only [List.append_nil] at he'
   subst he'
   exact he n s (by simp) hI
  | cons x xs ih =>
   intro pre n s he' hI hn
   obtain ⟨n,rfl⟩:∃ k,n = k + 1:=⟨n - 1,by simp at hn; omega⟩
   have hlen:l.length = pre.length + (xs.length + 1):=by rw [he']; simp
   refine hs n s pre x xs he' ?_ (by simp; omega) hI fun s' hI'=>?_
   · rw [ix_nat,he']; simp
   · rw [w64_s _ (by omega)]
     have:=ih (pre ++ [x]) n s' (by simp [he']) hI' (by simp at hn; omega)
     simpa using this
 intro n s hI hn
 simpa using key l [] n s rfl hI hn
theorem itm_count {x:Item} (h:itmB x = true):1 ≤ x.fCount ∧ x.fCount ≤ 6:=by
 simp only [itmB,Bool.and_eq_true,inb_iff] at h
 omega
theorem cnt_nn {xs:List Item} (h:∀ x ∈ xs,itmB x = true):0 ≤ sumI (xs.map (·.fCount)):=sumI_nn _ _ fun x hx=>by have:=itm_count (h x hx); omega
theorem s_l6 {fu:Nat} {r:Request} (h:Sm fu r) (hb:bouB r = true):d_spec_l6Units fu r = some (l6M r):=by
 have hfu:=h.fu
 obtain ⟨hi,hs,hl⟩:=bou_items hb
 have e4:∀ (k:List Int → Int → Option (List Int)) (i:Int) (x:Item),ix r.fItems i = some x → ∀ (m n:Nat) (c:Int) (out:List Int),0 ≤ c → c ≤ x.fCount → (x.fCount - c).toNat = m → x.fCount ≤ 6 → m < n → out.length + m ≤ 100 →
     d_spec_l6Units_L1 fu k r i n out c = k (out ++ List.replicate m i) (w64 (i + 1)):=by
  intro k i x hx m
  induction m with
  | zero =>
   intro n c out h0 h1 h2 h3 h4 h5
   obtain ⟨n,rfl⟩:∃ j,n = j + 1:=⟨n - 1,by omega⟩
   rw [d_spec_l6Units_L1.eq_2]
   unfold d_spec_l6Units_L1_B
   rw [hx,ob_some,bif_false (by simp; omega)]
   simp
  | succ m ih =>
   intro n c out h0 h1 h2 h3 h4 h5
   obtain ⟨n,rfl⟩:∃ j,n = j + 1:=⟨n - 1,by omega⟩
   rw [d_spec_l6Units_L1.eq_2]
   unfold d_spec_l6Units_L1_B
   rw [hx,ob_some,bif_true (by simp; omega),ap1 (by simp; omega),ob_some,w64_id (by omega) (by omega),ih n (c + 1) (out ++ [i]) (by omega) (by omega) (by omega) h3 (by omega) (by simp; omega)]
   rw [List.append_assoc,List.singleton_append,← List.replicate_succ]
 unfold d_spec_l6Units l6M
 have:=lpPI r.fItems (fun n out i=>d_spec_l6Units_L2 fu r n out i) (fun pre xs out=>some (out ++ repU (pre.length:Int) xs)) (fun pre xs out=>(out.length:Int) + sumI (xs.map (·.fCount)) ≤ 12 ∧ ∀ x ∈ xs,itmB x = true) (by omega) ?_ ?_ fu [] ⟨by simpa using hs,hi⟩ (by omega)
 · simpa using this
 · intro n out pre x xs hl' hx hd hI ih
   simp only [d_spec_l6Units_L2.eq_2]
   unfold d_spec_l6Units_L2_B
   have hc:=itm_count (hI.2 x (by simp))
   have hsum:=hI.1
   have hnn:=cnt_nn (fun y hy=>hI.2 y (by simp [hy]):∀ y ∈ xs,itmB y = true)
   simp only [List.map_cons,sumI_cons] at hsum
   have e:=e4 (d_spec_l6Units_L2 fu r n) (pre.length:Int) x hx x.fCount.toNat fu 0 out (by omega) (by omega) (by omega) (by omega) (by omega) (by omega)
   rw [hd,cond_true,e,ih _ ⟨by simp; omega,fun y hy=>hI.2 y (by simp [hy])⟩]
   simp [repU]
 · intro n out hd hI
   simp only [d_spec_l6Units_L2.eq_2]
   unfold d_spec_l6Units_L2_B
   simp only [hd,cond_false]
   simp [repU]
theorem s_l6c {fu:Nat} {r:Request} (h:Sm fu r) (hc:clsM r = 0):d_spec_l6Units fu r = some (untM r):=by
 unfold untM
 rw [s_l6 h (clsM_zero hc).1,bif_true (by simp [hc])]
theorem s_unt {fu:Nat} {r:Request} (h:Sm fu r):d_spec_Units fu r = some (untM r):=by
 unfold d_spec_Units untM
 rw [s_cls h,ob_some]
 by_cases hc:clsM r = 0
 · rw [bif_false (by simp [hc]),s_l6 h (clsM_zero hc).1,ob_some,bif_true (by simp [hc])]
 · rw [bif_true (by simp [hc]),bif_false (by simp [hc])]
theorem s_has {fu:Nat} {l:List Int} (hl:l.length ≤ 1048576) (hf:l.length < fu) (x:Int):d_spec_l1Has fu l x = some (l.contains x):=by
 unfold d_spec_l1Has
 refine lp l (fun n (_:Unit) i=>d_spec_l1Has_L1 fu l x n i) (fun l _=>some (l.contains x)) (by omega) ?_ ?_ fu () hf
 · intro n s i y ys hy hd ih
   simp only [d_spec_l1Has_L1.eq_2]
   unfold d_spec_l1Has_L1_B
   simp only [hd,cond_true,hy,ob_some,ih (),List.contains_cons]
   rw [ibeq y x]
   cases x == y <;> rfl
 · intro n s i hd
   simp only [d_spec_l1Has_L1.eq_2]
   unfold d_spec_l1Has_L1_B
   simp only [hd,cond_false]
   rfl
theorem s_join {fu:Nat} {p:List Pair} (hp:p.length ≤ 1048576) (hpf:p.length < fu) {g:List Int} (hl:g.length ≤ 1048576) (hf:g.length < fu) (c:Int):d_spec_l3Joins fu p g c = some (g.all (mutB p c)):=by
 unfold d_spec_l3Joins
 refine lp g (fun n (_:Unit) i=>d_spec_l3Joins_L1 fu p g c n i) (fun l _=>some (l.all (mutB p c))) (by omega) ?_ ?_ fu () hf
 · intro n s i y ys hy hd ih
   simp only [d_spec_l3Joins_L1.eq_2]
   unfold d_spec_l3Joins_L1_B d_spec_l3Joins_J1
   simp only [hd,cond_true,hy,ob_some,ih (),s_bes hp hpf,List.all_cons,mutB]
   cases besB p y c <;> cases besB p c y <;> rfl
 · intro n s i hd
   simp only [d_spec_l3Joins_L1.eq_2]
   unfold d_spec_l3Joins_L1_B
   simp only [hd,cond_false]
   rfl
theorem s_prs {fu:Nat} {r:Request} (h:Sm fu r):d_spec_Present fu r = some (prsM r):=by
 have hfu:=h.fu
 have h1:=h.items
 unfold d_spec_Present prsM
 rw [s_cls h,ob_some]
 by_cases hc:clsM r = 0
 · rw [show (clsM r != 0) = false by simp [hc],show (clsM r == 0) = true by simp [hc],cond_false,cond_true]
   have e27:∀ (k:List Int → Int → Option (List Int)) (out:List Int) (c:Int),d_spec_Present_L1 fu k r out c fu false 0 = bif r.fItems.any (fun x=>x.fClass == c) then (obind (apnd 8 out [c]) fun x=>k x (w64 (c + 1))) else k out (w64 (c + 1)):=by
    intro k out c
    refine lp r.fItems (fun n f i=>d_spec_Present_L1 fu k r out c n f i) (fun l f=>bif f || l.any (fun x=>x.fClass == c) then (obind (apnd 8 out [c]) fun x=>k x (w64 (c + 1))) else k out (w64 (c + 1))) (by omega) ?_ ?_ fu false (by omega)
    · intro n f i x xs hx hd ih
      simp only [d_spec_Present_L1.eq_2]
      unfold d_spec_Present_L1_B d_spec_Present_J2
      simp only [hd,cond_true,hx,ob_some,ih,List.any_cons]
      cases f
      · rfl
      · rfl
    · intro n f i hd
      simp only [d_spec_Present_L1.eq_2]
      unfold d_spec_Present_L1_B d_spec_Present_J1
      simp only [hd,cond_false,List.any_nil,Bool.or_false]
   have:=lpNI 4 (fun n out i=>d_spec_Present_L2 fu r n out i) (fun xs out=>some (out ++ xs.filter fun c=>r.fItems.any fun x=>x.fClass == c)) (fun xs out=>out.length + xs.length ≤ 4) (by omega) ?_ ?_ 4 fu [] 0 (by omega) (by omega) (by omega) (by simp [ints])
   · simpa using this
   · intro n out i xs h0 h1 hd hI ih
     simp only [List.length_cons] at hI
     simp only [d_spec_Present_L2.eq_2]
     unfold d_spec_Present_L2_B
     simp only [hd,cond_true,e27]
     cases hb:r.fItems.any fun x=>x.fClass == i
     · rw [cond_false,ih out (by omega)]
       simp [hb]
     · rw [cond_true,ap1 (by simp; omega),ob_some,ih _ (by simp; omega)]
       simp [hb]
   · intro n out i hd hI
     simp only [d_spec_Present_L2.eq_2]
     unfold d_spec_Present_L2_B
     simp only [hd,cond_false]
     simp
 · rw [show (clsM r != 0) = true by simp [hc],show (clsM r == 0) = false by simp [hc],cond_false,cond_true]
theorem fstI_snoc {α:Type} (g:α → Bool) (x:α):∀ (l:List α),fstI g (l ++ [x]) = match fstI g l with | some i=>some i | none=>bif g x then some l.length else none
 | []=>by simp [fstI]
 | y :: ys=>by
  simp only [List.cons_append,fstI]
  cases g y
  · simp only [cond_false]
    rw [fstI_snoc g x ys]
    cases fstI g ys <;> simp
    cases g x <;> simp
  · rfl
def atB {α:Type} (g:α → Bool) (l:List α) (i:Int):Bool:=match ix l i with | some x=>g x | none=>false
def lasI {α:Type} (g:α → Bool) (l:List α) (a i:Int):Int:=bif atB g l i then i else a
theorem fold_down {α:Type} (g:α → Bool) (l:List α):∀ (m:Nat) (a:Int),m ≤ l.length → (down m).foldl (lasI g l) a = match fstI g (l.take m) with | some i=>(i:Int) | none=>a
 | 0,a,_=>by simp [down,fstI]
 | m + 1,a,h=>by
  simp only [down,List.foldl_cons]
  rw [fold_down g l m _ (by omega),List.take_succ_eq_append_getElem (by omega),fstI_snoc,List.length_take,Nat.min_eq_left (by omega)]
  unfold lasI atB
  rw [ix_i (by omega)]
  cases fstI g (l.take m) with
  | some i=>rfl
  | none =>
   simp only
   cases g l[m] <;> rfl
theorem put_at {p:List Pair} {out:List (List Int)} {c:Int} {n:Nat} (h:okG n out) (hn:n ≤ 1048576) {β:Type} (k:List (List Int) → Option β) (a:Int) (ha:a = match fstI (fun g=>g.all (mutB p c)) out with | some i=>(i:Int) | none=>-1) :
    (bif (decide (a < 0)) then obind (apnd 24 out [([c]:List Int)]) fun x=>k x else obind (ix out a) fun x=>obind (apnd 8 x (([c]:List Int))) fun y=>obind (ix out a) fun z=>k (setx out a y)) = k (putG p out c):=by
 obtain ⟨h1,h2⟩:=h
 unfold putG
 cases hf:fstI (fun g=>g.all (mutB p c)) out with
 | none =>
  rw [hf] at ha
  simp only at ha
  subst ha
  rw [bif_true (by simp),ap1 (by simp; omega),ob_some]
 | some i =>
  rw [hf] at ha
  simp only at ha
  subst ha
  obtain ⟨x,hx,_⟩:=fstI_lt hf
  have:=h2 x (List.mem_of_getElem? hx)
  rw [bif_false (by simp),ix_nat,hx,ob_some,ap1 (by simp; omega),ob_some,ob_some]
  simp [setx,hx]
theorem s_grps {fu:Nat} {p:List Pair} (hp:p.length ≤ 1048576) (hfu:2097153 ≤ fu) {l:List Int} (hl:l.length ≤ 1048576):d_spec_Groups fu p l = some (((ints 0 4).filter l.contains).foldl (putG p) []):=by
 unfold d_spec_Groups
 have e27:∀ (k:List (List Int) → Int → Option (List (List Int))) (out:List (List Int)) (c:Int),okG 4 out → d_spec_Groups_L1 fu k p out c fu (-1) (w64 ((out.length:Int) - 1)) = k (putG p out c) (w64 (c + 1)):=by
  intro k out c ho
  obtain ⟨R,hR⟩:∃ R:Int → Option (List (List Int)),R = fun a=>bif (decide (a < 0)) then obind (apnd 24 out [([c]:List Int)]) fun x=>k x (w64 (c + 1)) else obind (ix out a) fun x=>obind (apnd 8 x (([c]:List Int))) fun y=>obind (ix out a) fun z=>k (setx out a y) (w64 (c + 1)):=⟨_,rfl⟩
  have:=lpD out.length (fun n a i=>d_spec_Groups_L1 fu k p out c n a i) (fun xs a=>R (xs.foldl (lasI (fun g=>g.all (mutB p c)) out) a)) (by have:=ho.1; omega) ?_ ?_ fu (-1) (by have:=ho.1; omega)
  · rw [this,hR]
    refine put_at (p:=p) ho (by omega) (fun x=>k x (w64 (c + 1))) _ ?_
    rw [fold_down (fun g=>g.all (mutB p c)) out out.length (-1) (Nat.le_refl _),List.take_length]
  · intro n a i xs h0 h1 hd ih
    simp only [d_spec_Groups_L1.eq_2]
    unfold d_spec_Groups_L1_B d_spec_Groups_J2
    obtain ⟨j,rfl⟩:∃ j:Nat,i = j:=⟨i.toNat,by omega⟩
    have hj:j < out.length:=by omega
    have hg:=ho.2 _ (List.getElem_mem hj)
    simp only [hd,cond_true,ix_i hj,ob_some,s_join hp (by omega) (show out[j].length ≤ 1048576 by omega) (show out[j].length < fu by omega),ih,List.foldl_cons]
    have e:lasI (fun g=>g.all (mutB p c)) out a (j:Int) = bif out[j].all (mutB p c) then (j:Int) else a:=by unfold lasI atB; rw [ix_i hj]
    rw [e]
    cases out[j].all (mutB p c) <;> rfl
  · intro n a i hd
    simp only [d_spec_Groups_L1.eq_2]
    unfold d_spec_Groups_L1_B d_spec_Groups_J1
    simp only [hd,cond_false,List.foldl_nil,hR]
 have:=lpNI 4 (fun n out i=>d_spec_Groups_L2 fu p l n out i) (fun xs out=>some ((xs.filter l.contains).foldl (putG p) out)) (fun xs out=>∃ m,m + xs.length ≤ 4 ∧ okG m out) (by omega) ?_ ?_ 4 fu [] 0 (by omega) (by omega) (by omega) ⟨0,by simp [ints],by simp,by simp⟩
 · exact this
 · intro n out i xs h0 h1 hd hI ih
   obtain ⟨m,hm,ho⟩:=hI
   simp only [List.length_cons] at hm
   simp only [d_spec_Groups_L2.eq_2]
   unfold d_spec_Groups_L2_B d_spec_Groups_J1
   simp only [hd,cond_true,s_has hl (show l.length < fu by omega),ob_some]
   cases hb:l.contains i
   · rw [Bool.not_false,cond_true,ih out ⟨m,by omega,ho⟩,List.filter_cons_of_neg (by rw [hb]; simp)]
   · rw [Bool.not_true,cond_false,e27 _ out i ⟨by have:=ho.1; omega,fun g hg=>by have:=ho.2 g hg; omega⟩,ih _ ⟨m + 1,by omega,putG_ok i ho⟩,List.filter_cons_of_pos hb,List.foldl_cons]
 · intro n out i hd hI
   simp only [d_spec_Groups_L2.eq_2]
   unfold d_spec_Groups_L2_B
   simp only [hd,cond_false]
   simp
theorem filter_prs (r:Request):(ints 0 4).filter (prsM r).contains = prsM r :=
 lt_ext ((ints_lt 0 4).filter _) (prsM_sorted r) fun x=>by
  rw [List.mem_filter,ints_mem]
  constructor
  · rintro ⟨_,h⟩; simpa using h
  · intro h; have:=prsM_mem h; exact ⟨by omega,by simpa using h⟩
theorem s_grp {fu:Nat} {r:Request} (h:Sm fu r):d_spec_GroupsOf fu r = some (grpM r):=by
 unfold d_spec_GroupsOf grpM
 rw [s_prs h,ob_some,s_grps h.pairs h.fu (by have:=prsM_len r; omega),ob_some,filter_prs]
theorem w64_grp (r:Request):w64 (((grpM r).length:Int) - 1) = ((grpM r).length:Int) - 1:=by
 have:=(grpM_ok r).1
 exact w64_id (by omega) (by omega)
def dnk (keys:List Int) (p:Int):Int:=- kf keys p
theorem s_down {fu:Nat} {keys:List Int} (hfu:2097153 ≤ fu) (hl:keys.length ≤ 1048576):d_spec_SortDown fu keys = some (srt (dnk keys) keys.length):=by
 unfold d_spec_SortDown d_spec_l1Merge
 rw [s_places keys.length hl (by omega),ob_some]
 obtain ⟨m,rfl⟩:∃ m,fu = m + 1:=⟨fu - 1,by omega⟩
 rw [s_msrR true hfu m _ (by rw [ints_len]; omega) (by rw [ints_len]; omega) (fun p hp=>by have:=ints_mem.1 hp; omega),ob_some]
 congr 1
 have e:dk keys true = dnk keys:=rfl
 rw [e]
 exact srt_uniq (msr_perm _ _ _) (msr_sorted _ _ _ (by rw [ints_len]; omega) (ints_lt _ _))
theorem vol3 {w h d:Int} (hb:(inb w 0 2000 && (inb h 0 2000 && inb d 0 2000)) = true):w64 ((w64 (w * h)) * d) = w * h * d:=by
 simp only [Bool.and_eq_true,inb_iff] at hb
 obtain ⟨⟨h1,h2⟩,⟨h3,h4⟩,h5,h6⟩:=hb
 have a1:0 ≤ w * h:=Int.mul_nonneg h1 h3
 have a2:w * h ≤ 2000 * 2000:=Int.mul_le_mul h2 h4 h3 (by omega)
 have a3:0 ≤ w * h * d:=Int.mul_nonneg a1 h5
 have a4:w * h * d ≤ 2000 * 2000 * 2000:=Int.mul_le_mul a2 h6 h5 (by omega)
 rw [w64_id (n:=w * h) (by omega) (by omega),w64_id (by omega) (by omega)]
theorem s_vol (fu:Nat) (w h d:Int):d_spec_Volume fu w h d = some (volB w h d):=by
 unfold d_spec_Volume d_spec_Volume_J1 volB
 simp only [s_in,ob_some]
 cases h1:inb w 0 2000 <;> cases h2:inb h 0 2000 <;> cases h3:inb d 0 2000 <;> simp only [Bool.not_true,Bool.not_false,cond_true,cond_false,Bool.and_true,Bool.and_false]
 rw [vol3 (by simp only [h1,h2,h3]; rfl)]
def itmZ (r:Request) (u:Int):Item:=(itmM r u).getD zItem
theorem w64_len (r:Request):w64 (((untM r).length:Int) - 1) = ((untM r).length:Int) - 1:=by
 have:=untM_len r
 exact w64_id (by omega) (by omega)
theorem s_item (fu:Nat) (r:Request) (u:Int):d_spec_l6Item fu r (untM r) u = some (itmZ r u,(itmM r u).isSome):=by
 unfold d_spec_l6Item itmZ
 rw [w64_len,s_in,ob_some]
 by_cases h:0 ≤ u ∧ u < (untM r).length
 · obtain ⟨i,x,h1,h2,h3⟩:=itmM_in h
   rw [bif_false (by simp; omega),h1,ob_some,h2,ob_some,h3]
   rfl
 · rw [bif_true (by simp [inb]; omega),itmM_out h]
   rfl
theorem vol_zero:volI zItem = 0:=by simp [volI,volB,zItem]
theorem itmZ_gram (r:Request) (u:Int):0 ≤ (itmZ r u).fGram ∧ (itmZ r u).fGram ≤ 100000:=by
 unfold itmZ
 cases hm:itmM r u with
 | none=>simp [zItem]
 | some x=>exact grm_mem (r:=r) (us:=[u]) (by simp [itsM,List.filterMap_cons,hm])
theorem s_grm {fu:Nat} {r:Request} (h:Sm fu r) (us:List Int) (hl:us.length ≤ 1048576) (hf:us.length < fu):d_spec_GramOf fu r us = some (grmM r us):=by
 unfold d_spec_GramOf
 rw [s_unt h,ob_some]
 have key:=lpI us (fun n s i=>d_spec_GramOf_L1 fu r us (untM r) n s i) (fun l n=>some (n + grmM r l)) (fun l n=>0 ≤ n ∧ n + 100000 * l.length ≤ 100000 * 1048576) (by omega) ?_ ?_ fu 0 ⟨by omega,by omega⟩ hf
 · simpa using key
 · intro n s i x xs hx hd hI ih
   simp only [d_spec_GramOf_L1.eq_2]
   unfold d_spec_GramOf_L1_B d_spec_GramOf_J2 d_spec_GramOf_J1
   simp only [hd,cond_true,hx,ob_some,s_item]
   have hv:=itmZ_gram r x
   have h2:=hI.2
   simp only [List.length_cons] at h2
   rw [w64_id (by omega) (by omega),ih _ ⟨by omega,by omega⟩]
   congr 1
   have e:grmM r (x :: xs) = (itmZ r x).fGram + grmM r xs:=by
    unfold grmM itsM itmZ
    cases hm:itmM r x with
    | none=>simp [List.filterMap_cons,hm,zItem]
    | some y=>simp [List.filterMap_cons,hm]
   rw [e]
   omega
 · intro n s i hd _
   simp only [d_spec_GramOf_L1.eq_2]
   unfold d_spec_GramOf_L1_B
   simp only [hd,cond_false]
   simp [grmM,itsM]
theorem vol_cons (r:Request) (x:Int) (xs:List Int):volM r (x :: xs) = volI (itmZ r x) + volM r xs:=by
 unfold volM itsM itmZ
 cases hm:itmM r x with
 | none=>simp [List.filterMap_cons,hm,vol_zero]
 | some y=>simp [List.filterMap_cons,hm]
theorem grm_cons (r:Request) (x:Int) (xs:List Int):grmM r (x :: xs) = (itmZ r x).fGram + grmM r xs:=by
 unfold grmM itsM itmZ
 cases hm:itmM r x with
 | none=>simp [List.filterMap_cons,hm,zItem]
 | some y=>simp [List.filterMap_cons,hm]
theorem s_l7Of {fu:Nat} (r:Request) (us:List Int) (hl:us.length ≤ 1048576) (hf:us.length < fu):d_spec_l7Of fu r (untM r) us = some ⟨volM r us,grmM r us⟩:=by
 unfold d_spec_l7Of
 have key:=lpI us (fun n s i=>d_spec_l7Of_L1 fu r (untM r) us n s i) (fun l s=>some (⟨s.fvol + volM r l,s.fgram + grmM r l⟩:L7))
  (fun l s=>0 ≤ s.fvol ∧ s.fvol + 8000000000 * l.length ≤ 8000000000 * 1048576 ∧ 0 ≤ s.fgram ∧ s.fgram + 100000 * l.length ≤ 100000 * 1048576) (by omega) ?_ ?_ fu ⟨0,0⟩ ⟨by simp,by simp; omega,by simp,by simp; omega⟩ hf
 · simpa using key
 · intro n s i x xs hx hd hI ih
   simp only [d_spec_l7Of_L1.eq_2]
   unfold d_spec_l7Of_L1_B d_spec_l7Of_J2 d_spec_l7Of_J1
   simp only [hd,cond_true,hx,ob_some,s_item,s_vol]
   have hv:=volB_nn (itmZ r x).fW (itmZ r x).fH (itmZ r x).fD
   have hg:=itmZ_gram r x
   obtain ⟨a1,a2,a3,a4⟩:=hI
   simp only [List.length_cons] at a2 a4
   rw [w64_id (n:=s.fvol + _) (by omega) (by omega),w64_id (n:=s.fgram + _) (by omega) (by omega),ih _ ⟨by simp; omega,by simp; omega,by simp; omega,by simp; omega⟩,vol_cons,grm_cons,show volB (itmZ r x).fW (itmZ r x).fH (itmZ r x).fD = volI (itmZ r x) from rfl]
   simp only [Option.some.injEq,L7.mk.injEq]
   constructor <;> omega
 · intro n s i hd _
   simp only [d_spec_l7Of_L1.eq_2]
   unfold d_spec_l7Of_L1_B
   simp only [hd,cond_false]
   simp [volM,grmM,itsM]
def witB (r:Request) (us:List Int) (t:Typ):Bool:=decide (volM r us ≤ volT t) && decide (grmM r us ≤ t.fGram)
theorem s_l7Room {fu:Nat} (r:Request) (t:Typ) (us:List Int) (u:Int) (hl:us.length < 1048576) (hf:us.length + 1 < fu):d_spec_l7Room fu r (untM r) t us u = some (witB r (us ++ [u]) t):=by
 unfold d_spec_l7Room d_spec_l7Room_J1 witB
 rw [ap1 (by simp; omega),ob_some,List.nil_append,ap1 (by simp; omega),ob_some,s_l7Of r _ (by simp; omega) (by simp; omega),ob_some,s_vol,ob_some]
 show (bif decide (volM r (us ++ [u]) ≤ volT t) then _ else _) = _
 cases decide (volM r (us ++ [u]) ≤ volT t) <;> simp
theorem othM_1 {r:Request}:(othM (typM r r.fMaster)).1 = masM r:=rfl
def thrM (r:Request) (us:List Int):List Int:=us.filter fun u=>inb u 0 (((untM r).length:Int) - 1)
def perB (a b:List Int):Bool:=decide ((a.mergeSort fun x y=>decide (x ≤ y)) = b.mergeSort fun x y=>decide (x ≤ y))
theorem perB_iff {a b:List Int}:perB a b = true ↔ a.Perm b:=by
 unfold perB
 rw [decide_eq_true_iff]
 constructor
 · intro h
   have h1:=List.mergeSort_perm a fun x y=>decide (x ≤ y)
   rw [h] at h1
   exact h1.symm.trans (List.mergeSort_perm b _)
 · intro h
   exact le_uniq (((List.mergeSort_perm a _).trans h).trans (List.mergeSort_perm b _).symm) (mergeSort_le a) (mergeSort_le b)
theorem s_known {fu:Nat} {r:Request} (h:Sm fu r) (us:List Int) (hl:us.length ≤ 1048576):d_spec_l7Known fu (untM r) us = some (thrM r us):=by
 have hfu:=h.fu
 unfold d_spec_l7Known thrM
 have:=lpI us (fun n out i=>d_spec_l7Known_L1 fu (untM r) us n out i) (fun xs out=>some (out ++ xs.filter fun u=>inb u 0 (((untM r).length:Int) - 1))) (fun xs out=>out.length + xs.length ≤ 1048576) (by omega) ?_ ?_ fu [] (by simpa using hl) (by omega)
 · simpa using this
 · intro n out i x xs hx hd hI ih
   simp only [List.length_cons] at hI
   simp only [d_spec_l7Known_L1.eq_2]
   unfold d_spec_l7Known_L1_B d_spec_l7Known_J1
   rw [hd,cond_true,hx,ob_some,w64_len,s_in,ob_some,ob_some,List.filter_cons]
   cases hb:inb x 0 (((untM r).length:Int) - 1)
   · rw [cond_false,ih _ (by omega)]; simp
   · rw [cond_true,ap1 (by simp; omega),ob_some,ih _ (by simp; omega)]; simp
 · intro n out i hd hI
   simp only [d_spec_l7Known_L1.eq_2]
   unfold d_spec_l7Known_L1_B
   simp only [hd,cond_false]
   simp
theorem thrM_len (r:Request) (us:List Int):(thrM r us).length ≤ us.length:=List.length_filter_le _ _
def clsZ (r:Request) (u:Int):Int:=(itmZ r u).fClass
def allBes (r:Request) (c:List Int):Bool:=c.all fun x=>c.all fun y=>besB r.fPairs (clsZ r x) (clsZ r y)
theorem thr_mem {r:Request} {us:List Int} {u:Int} (h:u ∈ thrM r us):0 ≤ u ∧ u < (untM r).length:=by
 unfold thrM at h
 have:=(List.mem_filter.1 h).2
 rw [inb_iff] at this
 omega
theorem itmZ_in {r:Request} {u:Int} (h:0 ≤ u ∧ u < (untM r).length):itmM r u = some (itmZ r u):=by
 obtain ⟨_,x,_,_,hx⟩:=itmM_in h
 unfold itmZ
 rw [hx]; rfl
end Go.Proofs.YthkaklkinepfkaaGreatDoor
