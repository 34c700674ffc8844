import Derived.Test.YtkkfmjpbiimkbaaGreatCkdLawBD
import Derived.Test.YtkkfmjpbiimkbaaGreatM3
set_option linter.unusedSimpArgs false
set_option linter.unusedVariables false
/- What is drawn is there, and in bounds. -/
namespace Go.Proofs.YtkkfmjpbiimkbaaGreat
open Go
open Enc (rd ow)
open Arg (argv)
open Ret (retv)
open Wf (wf)
def Tot {α:Type} (o:Option α) (Q:α → Prop):Prop:=∃ x,o = some x ∧ Q x
theorem Tot.mk {α:Type} {x:α} {Q:α → Prop} (h:Q x):Tot (some x) Q:=⟨x,rfl,h⟩
theorem Tot.of {α:Type} {o:Option α} {x:α} {Q:α → Prop} (e:o = some x) (h:Q x):Tot o Q:=⟨x,e,h⟩
theorem Tot.bind {α β:Type} {m:Option α} {k:α → Option β} {R:α → Prop} {Q:β → Prop} (h:Tot m R) (hk:∀ x,R x → Tot (k x) Q):Tot (Qad m k) Q:=by
 obtain ⟨x,rfl,hx⟩:=h
 exact hk x hx
theorem Tot.bif {α:Type} {c:Bool} {a b:Option α} {Q:α → Prop} (h1:c = true → Tot a Q) (h2:c = false → Tot b Q):Tot (bif c then a else b) Q:=by
 cases c
 · exact h2 rfl
 · exact h1 rfl
theorem Tot.imp {α:Type} {o:Option α} {Q R:α → Prop} (h:Tot o Q) (hi:∀ x,Q x → R x):Tot o R:=by
 obtain ⟨x,e,hx⟩:=h
 exact ⟨x,e,hi x hx⟩
theorem Tot.ap {α β:Type} {bytes:Nat} {xs ys:List α} {k:List α → Option β} {Q:β → Prop} (h:(xs.length + ys.length) * bytes ≤ 140737488355328) (hk:Tot (k (xs ++ ys)) Q):Tot (Qad (Qh3 bytes xs ys) k) Q:=by
 rw [ap1 h]; exact hk
theorem Tot.ix {α β:Type} {l:List α} {i:Int} {k:α → Option β} {Q:β → Prop} (h:0 ≤ i ∧ i < l.length) (hk:∀ x,x ∈ l → Tot (k x) Q):Tot (Qad (ix l i) k) Q:=by
 have e:=Qz2 (l:=l) (i:=i.toNat) (by omega)
 rw [show ((i.toNat:Nat):Int) = i by omega] at e
 rw [e]
 exact hk _ (List.getElem_mem _)
theorem lpT {σ β:Type} (b:Int) (L:Nat → σ → Int → Option β) (Q:β → Prop) (I:Int → σ → Prop) (hb:b ≤ 1099511627776)
    (hs:∀ n s (i:Int),0 ≤ i → i < b → I i s → (∀ s',I (i + 1) s' → Tot (L n s' (w64 (i + 1))) Q) → Tot (L (n + 1) s i) Q)
    (he:∀ n s (i:Int),0 ≤ i → b ≤ i → I i s → Tot (L (n + 1) s i) Q):∀ (m:Nat) n s (a:Int),0 ≤ a → (b - a).toNat = m → m < n → I a s → Tot (L n s a) Q:=by
 intro m
 induction m with
 | zero =>
  intro n s a ha hm hn hI
  obtain ⟨n,rfl⟩:∃ k,n = k + 1:=⟨n - 1,by omega⟩
  exact he n s a ha (by omega) hI
 | succ m ih =>
  intro n s a ha hm hn hI
  obtain ⟨n,rfl⟩:∃ k,n = k + 1:=⟨n - 1,by omega⟩
  refine hs n s a ha (by omega) hI fun s' hI'=>?_
  rw [Qcj (by omega) (by omega)]
  exact ih n s' (a + 1) (by omega) (by omega) (by omega) hI'
def CO (b:List U8) (c:Cur):Prop:=c.fb = b ∧ 0 ≤ c.fi ∧ b.length ≤ 1048576
theorem CO.re {b:List U8} {c c':Cur} (h:CO b c) (h':CO b c'):CO b ⟨c.fb,c'.fi,c'.fh⟩:=⟨h.1,h'.2⟩
theorem CO.re' {b:List U8} {c':Cur} (h':CO b c'):CO b ⟨b,c'.fi,c'.fh⟩:=⟨rfl,h'.2⟩
theorem Jak (x:Int):0 ≤ IntKind.wrap .i64 (((BitVec.ofInt (IntKind.bits .i64) x &&& BitVec.ofInt (IntKind.bits .i64) 255).toNat:Nat):Int) ∧ IntKind.wrap .i64 (((BitVec.ofInt (IntKind.bits .i64) x &&& BitVec.ofInt (IntKind.bits .i64) 255).toNat:Nat):Int) ≤ 255:=by
 have h:(BitVec.ofInt (IntKind.bits .i64) x &&& BitVec.ofInt (IntKind.bits .i64) 255).toNat ≤ 255:=by
  rw [BitVec.toNat_and]
  have h2:(BitVec.ofInt (IntKind.bits .i64) 255).toNat = 255:=by decide
  rw [h2]
  exact Nat.and_le_right
 have e:=Qcj (n:=(((BitVec.ofInt (IntKind.bits .i64) x &&& BitVec.ofInt (IntKind.bits .i64) 255).toNat:Nat):Int)) (by omega) (by omega)
 unfold w64 at e
 rw [e]
 omega
theorem Qyg {fu:Nat} {b:List U8} {c:Cur} (h:CO b c):Tot (Qg2 fu c) fun x=>(0 ≤ x.1 ∧ x.1 ≤ 255) ∧ CO b x.2:=by
 obtain ⟨h1,h2,h3⟩:=h
 unfold Qg2
 refine Tot.bif (fun hc=>?_) fun hc=>?_
 · have hlt:=of_decide_eq_true hc
   refine Tot.ix ⟨h2,hlt⟩ fun x _=>Tot.mk ⟨Jak _,h1,?_,h3⟩
   show 0 ≤ w64 (c.fi + 1)
   rw [h1] at hlt
   rw [Qcj (by omega) (by omega)]; omega
 · exact Tot.mk ⟨Jak _,h1,h2,h3⟩
theorem Qc8 {fu:Nat} {b:List U8} {c:Cur} (h:CO b c) (n:Int):Tot (Qaq fu c n) fun x=>(0 ≤ x.1 ∧ (0 < n → x.1 < n)) ∧ CO b x.2:=by
 unfold Qaq
 refine Tot.bif (fun hc=>?_) fun hc=>?_
 · have hlt:=of_decide_eq_true hc
   exact Tot.mk ⟨⟨Int.le_refl _,fun h=>by omega⟩,h⟩
 · have hn:0 < n:=by simpa using hc
   refine Tot.bif (fun hc=>?_) fun hc=>?_
   · refine Tot.bind (Qyg h) fun x hx=>?_
     rw [Q60 (by omega),Qab]
     exact Tot.mk ⟨⟨Int.tmod_nonneg _ hx.1.1,fun _=>Int.tmod_lt_of_pos _ hn⟩,h.re hx.2⟩
   · refine Tot.bind (Qyg h) fun x hx=>Tot.bind (Qyg (h.re hx.2)) fun y hy=>Tot.bind (Qyg (h.re hy.2)) fun z hz=>Tot.bind (Qyg (h.re hz.2)) fun q hq=>?_
     rw [Q60 (by omega),Qab]
     obtain ⟨⟨x0,x1⟩,_⟩:=hx
     obtain ⟨⟨y0,y1⟩,_⟩:=hy
     obtain ⟨⟨z0,z1⟩,_⟩:=hz
     obtain ⟨⟨q0,q1⟩,hq2⟩:=hq
     refine Tot.mk ⟨⟨?_,fun _=>Int.tmod_lt_of_pos _ hn⟩,h.re hq2⟩
     apply Int.tmod_nonneg
     simp only [Qcj (n:=x.1 * 16777216) (by omega) (by omega),Qcj (n:=y.1 * 65536) (by omega) (by omega),Qcj (n:=z.1 * 256) (by omega) (by omega)]
     rw [Qcj (n:=x.1 * 16777216 + y.1 * 65536) (by omega) (by omega),Qcj (n:=x.1 * 16777216 + y.1 * 65536 + z.1 * 256) (by omega) (by omega),Qcj (by omega) (by omega)]
     omega
theorem Q26 {fu:Nat} {b:List U8} {c:Cur} (h:CO b c) (n:Int):Tot (Qkr fu c n) fun x=>CO b x.2:=by
 unfold Qkr
 exact Tot.bind (Qc8 h n) fun x hx=>Tot.mk (h.re hx.2)
theorem Qr5 {fu:Nat} {b:List U8} {c:Cur} (h:CO b c) (l:List Int) (hl:0 < l.length):Tot (Qbw fu c l) fun x=>x.1 ∈ l ∧ CO b x.2:=by
 unfold Qbw
 exact Tot.bind (Qc8 h _) fun x hx=>Tot.ix ⟨hx.1.1,hx.1.2 (by omega)⟩ fun y hy=>Tot.mk ⟨hy,h.re hx.2⟩
theorem Jaw {fu:Nat} {b:List U8} (hb:b.length ≤ 1048576) (hf:1048577 ≤ fu):Tot (Qqa fu b) (CO b):=by
 unfold Qqa
 refine lpT (b.length:Int) (fun n s i=>Qgn fu b n s i) (CO b) (fun _ _=>True) (by omega) ?_ ?_ b.length fu _ 0 (by omega) (by omega) (by omega) trivial
 · intro n s i h0 h1 _ ih
   simp only [Qgn.eq_2]
   unfold Qn7 Qq2
   rw [Qcm (by simpa using h1)]
   refine Tot.bif (fun hc=>?_) fun hc=>?_
   · exact Tot.ix ⟨h0,h1⟩ fun x _=>ih _ trivial
   · exact Tot.mk ⟨rfl,by simp,hb⟩
 · intro n s i h0 h1 _
   simp only [Qgn.eq_2]
   unfold Qn7
   rw [Qbj (by simp; omega)]
   exact Tot.mk ⟨rfl,by simp,hb⟩
end Go.Proofs.YtkkfmjpbiimkbaaGreat
/- The first layers of spec and of impl: bounds, table, names, fitting, the reason, the units. Each is the plain function of M0. -/
namespace Go.Proofs.YtkkfmjpbiimkbaaGreat
open Go
open Enc (rd ow)
open Arg (argv)
open Ret (retv)
open Wf (wf)
structure Sm (fu:Nat) (r:Request):Prop where
 fu:2097153 ≤ fu
 pairs:r.fPairs.length ≤ 1048576
 types:r.fTypes.length ≤ 1048576
 items:r.fItems.length ≤ 1048576
theorem Qzv (fu:Nat) (n lo hi:Int):Qar fu n lo hi = some (inb n lo hi):=by
 unfold Qar inb
 by_cases h:lo ≤ n
 · simp [h]
 · simp [h]
theorem Q2q (fu:Nat) (n lo hi:Int):Qca fu n lo hi = some (inb n lo hi):=Qzv fu n lo hi
theorem Q6d (fu:Nat) (n:Int):Qd6 fu n = some (inb n 1 2000):=by unfold Qd6; rw [Qzv]; rfl
theorem Jeu (fu:Nat) (n:Int):Qnl fu n = some (inb n 0 999):=by unfold Qnl; rw [Qzv]; rfl
theorem Q4l (fu:Nat) (n:Int):Qcu fu n = some (inb n 1 2000):=by unfold Qcu; rw [Q2q]; rfl
theorem Q9c (fu:Nat) (p:Pallet):Qgm fu p = some (Qzz p):=by
 unfold Qgm Qzz
 simp only [Q6d,Qzv,Qab]
 cases inb p.fW 1 2000 <;> cases inb p.fD 1 2000 <;> cases inb p.fH 1 2000 <;> rfl
theorem Jfl (fu:Nat) (p:Pallet):Qn1 fu p = some (Qzz p):=by
 unfold Qn1 Qzz
 simp only [Q4l,Q2q,Qab]
 cases inb p.fW 1 2000 <;> cases inb p.fD 1 2000 <;> cases inb p.fH 1 2000 <;> rfl
theorem Je7 (fu:Nat) (t:Typ):Qrg fu t = some (Q0n t):=by
 unfold Qrg Q0n
 simp only [Q6d,Qzv,Jeu,Qab]
 cases inb t.fId 0 999 <;> cases inb t.fW 1 2000 <;> cases inb t.fH 1 2000 <;> cases inb t.fD 1 2000 <;> cases inb t.fTare 0 100000 <;> cases inb t.fGram 1 100000 <;> rfl
theorem Jfv (fu:Nat) (t:Typ):Qrb fu t = some (Q0n t):=by
 unfold Qrb Q0n
 simp only [Q4l,Q2q,Qab]
 cases inb t.fId 0 999 <;> cases inb t.fW 1 2000 <;> cases inb t.fH 1 2000 <;> cases inb t.fD 1 2000 <;> cases inb t.fTare 0 100000 <;> cases inb t.fGram 1 100000 <;> rfl
theorem Jfz (fu:Nat) (t:Item):Qq6 fu t = some (Qwt t):=by
 unfold Qq6 Qwt
 simp only [Q6d,Qzv,Jeu,Qab]
 cases inb t.fId 0 999 <;> cases inb t.fW 1 2000 <;> cases inb t.fH 1 2000 <;> cases inb t.fD 1 2000 <;> cases inb t.fGram 1 100000 <;> cases inb t.fClass 0 3 <;> rfl
theorem Jf8 (fu:Nat) (t:Item):Qq3 fu t = some (Qwt t):=by
 unfold Qq3 Qwt
 simp only [Q4l,Q2q,Qab]
 cases inb t.fId 0 999 <;> cases inb t.fW 1 2000 <;> cases inb t.fH 1 2000 <;> cases inb t.fD 1 2000 <;> cases inb t.fGram 1 100000 <;> cases inb t.fClass 0 3 <;> rfl
def Jcn:List Item → Int → Option Bool
 | [],n=>some (decide (n ≤ 12))
 | x :: xs,n=>bif !Qwt x then some false else Jcn xs (w64 (n + x.fCount))
theorem Q3o:∀ (l:List Item) (n:Int),0 ≤ n → n + 6 * l.length ≤ 4611686018427387904 → Jcn l n = some (l.all Qwt && decide (n + Qvx (l.map (·.fCount)) ≤ 12))
 | [],n,_,_=>by simp [Jcn]
 | x :: xs,n,h0,h1=>by
  unfold Jcn
  cases hx:Qwt x
  · simp [hx]
  · have hc:=hx
    simp only [Qwt,Bool.and_eq_true,Qfu] at hc
    have hc:=hc.2.2.2.2.2.2
    simp only [List.length_cons] at h1
    rw [Qcj (by omega) (by omega)]
    simp only [Bool.not_true,cond_false]
    rw [Q3o xs (n + x.fCount) (by omega) (by omega)]
    simp only [List.all_cons,hx,Bool.true_and,List.map_cons,Qpa,Int.add_assoc]
theorem Jfy {fu:Nat} {r:Request} (h:Sm fu r):Qnn fu r = some (Q2v r):=by
 have hfu:=h.fu
 have h7:r.fItems.length ≤ 8 → Qdp fu r fu 0 0 = some (r.fItems.all Qwt && decide (Qvx (r.fItems.map (·.fCount)) ≤ 12)):=by
  intro h8
  rw [lp r.fItems (fun n s i=>Qdp fu r n s i) Jcn (by have:=h.items; omega) ?_ ?_ fu 0 (by have:=h.items; omega),Q3o _ _ (by omega) (by have:=h.items; omega)]
  · simp
  · intro n s i x xs hx hd ih
    simp only [Qdp.eq_2]
    unfold Qjb
    simp only [hd,cond_true,hx,Qab,Jfz,ih]
    rfl
  · intro n s i hd
    simp only [Qdp.eq_2]
    unfold Qjb
    simp only [hd,cond_false]
    rfl
 have h6:∀ b:Bool,(Qdp fu r fu 0 0 = some b) → Qds fu r fu 0 = some (r.fTypes.all Q0n && b):=by
  intro b hb
  refine lp r.fTypes (fun n (_:Unit) i=>Qds fu r n i) (fun l _=>some (l.all Q0n && b)) (by have:=h.types; omega) ?_ ?_ fu () (by have:=h.types; omega)
  · intro n s i x xs hx hd ih
    simp only [Qds.eq_2]
    unfold Qjd
    simp only [hd,cond_true,hx,Qab,Je7,ih (),List.all_cons]
    cases Q0n x <;> rfl
  · intro n s i hd
    simp only [Qds.eq_2]
    unfold Qjd
    simp only [hd,cond_false,hb]
    rfl
 have h4:∀ b:Bool,(Qds fu r fu 0 = some b) → Qdq fu r fu 0 = some (r.fPairs.all prB && b):=by
  intro b hb
  refine lp r.fPairs (fun n (_:Unit) i=>Qdq fu r n i) (fun l _=>some (l.all prB && b)) (by have:=h.pairs; omega) ?_ ?_ fu () (by have:=h.pairs; omega)
  · intro n s i x xs hx hd ih
    simp only [Qdq.eq_2]
    unfold Qje Qmp
    simp only [hd,cond_true,hx,Qab,Qzv,ih ()]
    simp only [List.all_cons,prB]
    cases inb x.fA 0 3 <;> cases inb x.fB 0 3 <;> rfl
  · intro n s i hd
    simp only [Qdq.eq_2]
    unfold Qje
    simp only [hd,cond_false,hb]
    rfl
 unfold Qnn Qmu Q2v
 simp only [Qzv,Jeu,Q9c,Qab]
 by_cases h8:r.fItems.length ≤ 8
 · rw [h4 _ (h6 _ (h7 h8))]
   have e8:decide ((r.fItems.length:Int) > 8) = false:=by simp; omega
   rw [e8]
   by_cases hp:r.fPairs.length ≤ 16
   · have e16:decide ((r.fPairs.length:Int) > 16) = false:=by simp; omega
     rw [e16]
     simp only [hp,h8,decide_true,cond_false,Bool.and_true]
     cases inb r.fWay 0 1 <;> cases Qzz r.fPallet <;> cases inb r.fClasses 1 4 <;> cases inb (r.fTypes.length:Int) 1 5 <;> cases inb r.fMaster 0 999 <;> simp <;> cases r.fPairs.all prB <;> cases r.fTypes.all Q0n <;> rfl
   · have e16:decide ((r.fPairs.length:Int) > 16) = true:=by simp; omega
     rw [e16]
     simp only [hp,decide_false,cond_true]
     cases inb r.fWay 0 1 <;> cases Qzz r.fPallet <;> cases inb r.fClasses 1 4 <;> simp
 · have e8:decide ((r.fItems.length:Int) > 8) = true:=by simp; omega
   rw [e8]
   simp only [h8,decide_false,cond_true,Bool.and_false,Bool.false_and]
   cases inb r.fWay 0 1 <;> cases Qzz r.fPallet <;> cases inb r.fClasses 1 4 <;> simp
def Qwl {α:Type} (g:α → Bool):List α → Int → Int
 | [],_=>-1
 | x :: xs,i=>bif g x then i else Qwl g xs (i + 1)
theorem Qsq {α:Type} (g:α → Bool):∀ (l:List α) (i:Int),0 ≤ i → decide (Qwl g l i ≥ 0) = l.any g
 | [],i,_=>rfl
 | x :: xs,i,h=>by
  simp only [Qwl,List.any_cons]
  by_cases hx:g x = true
  · simpa [hx] using h
  · simpa [hx] using Qsq g xs (i + 1) (by omega)
theorem Q2k {α:Type} (g:α → Bool):∀ (l pre:List α) ,(Qwl g l pre.length < 0 ∧ l.find? g = none) ∨ (0 ≤ Qwl g l pre.length ∧ ∃ x,l.find? g = some x ∧ ix (pre ++ l) (Qwl g l pre.length) = some x)
 | [],pre=>.inl ⟨by simp [Qwl],rfl⟩
 | x :: xs,pre=>by
  simp only [Qwl]
  cases hx:g x
  · have:=Q2k g xs (pre ++ [x])
    simp only [List.length_append,List.length_singleton,List.append_assoc,List.singleton_append] at this
    simpa [List.find?_cons,hx] using this
  · refine .inr ⟨by simp,x,by simp [hx],?_⟩
    rw [cond_true,Qrh]
    simp
theorem Qr9 {α:Type} (l:List α) (L:Nat → Int → Option Int) (g:α → Bool) (hl:l.length ≤ 1099511627776)
    (hs:∀ n (i:Int) x,ix l i = some x → decide (i < (l.length:Int)) = true → L (n + 1) i = bif g x then some i else L n (w64 (i + 1)))
    (he:∀ n (i:Int),decide (i < (l.length:Int)) = false → L (n + 1) i = some (-1)) (n:Nat) (hn:l.length < n):L n 0 = some (Qwl g l 0):=by
 have key:∀ (m i n:Nat),l.length - i = m → i ≤ l.length → m < n → L n (i:Int) = some (Qwl g (l.drop i) i):=by
  intro m
  induction m with
  | zero =>
   intro i n hm hi hn
   obtain ⟨n,rfl⟩:∃ k,n = k + 1:=⟨n - 1,by omega⟩
   rw [List.drop_of_length_le (by omega),he n i (by simp; omega)]
   rfl
  | succ m ih =>
   intro i n hm hi hn
   obtain ⟨n,rfl⟩:∃ k,n = k + 1:=⟨n - 1,by omega⟩
   have hlt:i < l.length:=by omega
   rw [hs n i _ (Qz2 hlt) (by simpa using hlt),List.drop_eq_getElem_cons hlt]
   simp only [Qwl]
   cases g l[i]
   · rw [cond_false,cond_false,Qw7 i (by omega)]
     have:=ih (i + 1) n (by omega) (by omega) (by omega)
     simpa using this
   · rfl
 simpa using key l.length 0 n (by omega) (by omega) hn
theorem Q4o {fu:Nat} {l:List Typ} (f:Typ → Option Bool) (g:Typ → Bool) (hg:∀ x ∈ l,f x = some (g x)) (hl:l.length ≤ 1048576) (hf:l.length < fu):Qbk fu l f = some (Qwl g l 0):=by
 unfold Qbk
 refine Qr9 l (fun n i=>Qba fu l f n i) g (by omega) ?_ ?_ fu hf
 · intro n i x hx hd
   simp only [Qba.eq_2]
   unfold Qb5
   simp only [hd,cond_true,hx,Qab,hg x (Qe2 hx)]
 · intro n i hd
   simp only [Qba.eq_2]
   unfold Qb5
   simp only [hd,cond_false]
theorem Q09 {fu:Nat} {l:List Typ} (f:Typ → Option Bool) (g:Typ → Bool) (hg:∀ x ∈ l,f x = some (g x)) (hl:l.length ≤ 1048576) (hf:l.length < fu):Qay fu l f = some (l.any g):=by
 unfold Qay
 rw [Q4o f g hg hl hf,Qab,Qsq g l 0 (by omega)]
theorem Q6t {fu:Nat} {l:List Pair} (f:Pair → Option Bool) (g:Pair → Bool) (hg:∀ x ∈ l,f x = some (g x)) (hl:l.length ≤ 1048576) (hf:l.length < fu):Qb0 fu l f = some (Qwl g l 0):=by
 unfold Qb0
 refine Qr9 l (fun n i=>Qa9 fu l f n i) g (by omega) ?_ ?_ fu hf
 · intro n i x hx hd
   simp only [Qa9.eq_2]
   unfold Qb7
   simp only [hd,cond_true,hx,Qab,hg x (Qe2 hx)]
 · intro n i hd
   simp only [Qa9.eq_2]
   unfold Qb7
   simp only [hd,cond_false]
theorem Q2b {fu:Nat} {l:List Pair} (f:Pair → Option Bool) (g:Pair → Bool) (hg:∀ x ∈ l,f x = some (g x)) (hl:l.length ≤ 1048576) (hf:l.length < fu):Qa8 fu l f = some (l.any g):=by
 unfold Qa8
 rw [Q6t f g hg hl hf,Qab,Qsq g l 0 (by omega)]
theorem Q6j {fu:Nat} {l:List Item} (f:Item → Option Bool) (g:Item → Bool) (hg:∀ x ∈ l,f x = some (g x)) (hl:l.length ≤ 1048576) (hf:l.length < fu):Qbz fu l f = some (Qwl g l 0):=by
 unfold Qbz
 refine Qr9 l (fun n i=>Qa7 fu l f n i) g (by omega) ?_ ?_ fu hf
 · intro n i x hx hd
   simp only [Qa7.eq_2]
   unfold Qb6
   simp only [hd,cond_true,hx,Qab,hg x (Qe2 hx)]
 · intro n i hd
   simp only [Qa7.eq_2]
   unfold Qb6
   simp only [hd,cond_false]
theorem Qvt {fu:Nat} {l:List Item} (f:Item → Option Bool) (g:Item → Bool) (hg:∀ x ∈ l,f x = some (g x)) (hl:l.length ≤ 1048576) (hf:l.length < fu):Qax fu l f = some (l.any g):=by
 unfold Qax
 rw [Q6j f g hg hl hf,Qab,Qsq g l 0 (by omega)]
theorem Jgg {fu:Nat} {r:Request} (h:Sm fu r):Qni fu r = some (Q2v r):=by
 have hfu:=h.fu
 have h1:=h.items
 have h2:=h.types
 have h3:=h.pairs
 have e3:Qek fu r fu 0 0 = some (r.fItems.all Qwt && decide (Qvx (r.fItems.map (·.fCount)) ≤ 12)):=by
  rw [lp r.fItems (fun n s i=>Qek fu r n s i) Jcn (by omega) ?_ ?_ fu 0 (by omega),Q3o _ _ (by omega) (by omega)]
  · simp
  · intro n s i x xs hx hd ih
    simp only [Qek.eq_2]
    unfold Qi2
    simp only [hd,cond_true,hx,Qab,Jf8,ih]
    rfl
  · intro n s i hd
    simp only [Qek.eq_2]
    unfold Qi2
    simp only [hd,cond_false]
    rfl
 have ep:Qa8 fu r.fPairs (fun y34=>Qjy fu y34) = some (!(r.fPairs.all prB)):=by
  rw [Q2b _ (fun p=>!prB p) (fun p _=>by
   unfold Qjy prB
   simp only [Q2q,Qab]
   cases inb p.fA 0 3 <;> rfl) h3 (by omega)]
  simp [List.not_all_eq_any_not]
 have et:Qay fu r.fTypes (fun y34=>Qjr fu y34) = some (!(r.fTypes.all Q0n)):=by
  rw [Q09 _ (fun p=>!Q0n p) (fun p _=>by
   unfold Qjr
   rw [Jfv]; rfl) h2 (by omega)]
  simp [List.not_all_eq_any_not]
 unfold Qni Qm6 Qnc Q2v
 rw [e3,ep,et]
 simp only [Q2q,Jfl,Qab]
 have e8:decide ((r.fItems.length:Int) > 8) = !decide (r.fItems.length ≤ 8):=by
  by_cases hh:r.fItems.length ≤ 8
  · have:¬ ((r.fItems.length:Int) > 8):=by omega
    simp [hh,this]
  · have:(r.fItems.length:Int) > 8:=by omega
    simp [hh,this]
 have e16:decide ((r.fPairs.length:Int) > 16) = !decide (r.fPairs.length ≤ 16):=by
  by_cases hh:r.fPairs.length ≤ 16
  · have:¬ ((r.fPairs.length:Int) > 16):=by omega
    simp [hh,this]
  · have:(r.fPairs.length:Int) > 16:=by omega
    simp [hh,this]
 rw [e8,e16]
 cases inb r.fWay 0 1 <;> cases Qzz r.fPallet <;> cases inb r.fClasses 1 4 <;> cases decide (r.fPairs.length ≤ 16) <;> cases r.fPairs.all prB <;> cases inb (r.fTypes.length:Int) 1 5 <;> cases r.fTypes.all Q0n <;> cases inb r.fMaster 0 999 <;> cases decide (r.fItems.length ≤ 8) <;> rfl
end Go.Proofs.YtkkfmjpbiimkbaaGreat
/- spec's sorting by halves is the plain function of M1. -/
namespace Go.Proofs.YtkkfmjpbiimkbaaGreat
open Go
open Enc (rd ow)
open Arg (argv)
open Ret (retv)
open Wf (wf)
theorem Q4y {fu:Nat} (n:Nat) (hn:n ≤ 1048576) (hf:n < fu):Qj7 fu (n:Int) = some (Qka 0 n):=by
 unfold Qj7
 have key:∀ (m i k:Nat),n - i = m → i ≤ n → m < k → Qfl fu (n:Int) k (Qka 0 i) (i:Int) = some (Qka 0 n):=by
  intro m
  induction m with
  | zero =>
   intro i k hm hi hk
   obtain ⟨k,rfl⟩:∃ j,k = j + 1:=⟨k - 1,by omega⟩
   have:i = n:=by omega
   subst this
   rw [Qfl.eq_2]
   unfold Qi4
   simp
  | succ m ih =>
   intro i k hm hi hk
   obtain ⟨k,rfl⟩:∃ j,k = j + 1:=⟨k - 1,by omega⟩
   rw [Qfl.eq_2]
   unfold Qi4
   rw [Qcm (by simp; omega),ap1 (by rw [Qei]; simp; omega),Qab,Qw7 i (by omega)]
   have e:=Q54 0 i
   rw [Int.zero_add] at e
   rw [← e]
   exact ih (i + 1) k (by omega) (by omega) (by omega)
 exact key n 0 fu (by omega) (by omega) hf
def dk (keys:List Int) (Quk:Bool) (p:Int):Int:=bif Quk then - kf keys p else kf keys p
theorem Q6a {keys:List Int} {p:Int} (h:0 ≤ p ∧ p < keys.length):ix keys p = some (kf keys p):=by
 have h1:p.toNat < keys.length:=by omega
 unfold kf ix
 rw [if_pos h.1,List.getElem?_eq_getElem h1]
 rfl
theorem Jgb {fu:Nat} {keys a b:List Int} (Quk:Bool) (ha:∀ p ∈ a,0 ≤ p ∧ p < keys.length) (hb:∀ p ∈ b,0 ≤ p ∧ p < keys.length) (hla:a.length ≤ 1048576) (hlb:b.length ≤ 1048576) :
    ∀ (m:Nat) (n:Nat) (out:List Int) (i j:Nat),i ≤ a.length → j ≤ b.length → (a.length - i) + (b.length - j) = m → m < n → out.length + m ≤ 2097152 →
     Qcn fu keys Quk a b n out i j = some (out ++ mrg (dk keys Quk) (a.drop i) (b.drop j)):=by
 intro m
 induction m with
 | zero =>
  intro n out i j hi hj hm hn ho
  obtain ⟨n,rfl⟩:∃ k,n = k + 1:=⟨n - 1,by omega⟩
  rw [Qcn.eq_2]
  unfold Qlc
  rw [Qbj (by simp; omega),Qbj (by simp; omega),List.drop_of_length_le (show a.length ≤ i by omega),List.drop_of_length_le (show b.length ≤ j by omega)]
  simp [mrg]
 | succ m ih =>
  intro n out i j hi hj hm hn ho
  obtain ⟨n,rfl⟩:∃ k,n = k + 1:=⟨n - 1,by omega⟩
  have hL:Qcn fu keys Quk a b (n + 1) out i j = Qha fu (Qcn fu keys Quk a b n) keys Quk a b out i j:=by
   rw [Qcn.eq_2]
   unfold Qlc
   by_cases h:i < a.length
   · rw [Qcm (by simpa using h)]
   · rw [Qbj (by simpa using h),Qcm (by simp; omega)]
  have tA:∀ (h:i < a.length),(Qh3 8 out [a[i]]) = some (out ++ [a[i]]):=fun h=>ap1 (by simp; omega)
  have tB:∀ (h:j < b.length),(Qh3 8 out [b[j]]) = some (out ++ [b[j]]):=fun h=>ap1 (by simp; omega)
  have nA:∀ (h:i < a.length),Qcn fu keys Quk a b n (out ++ [a[i]]) (w64 ((i:Int) + 1)) j = some (out ++ a[i] :: mrg (dk keys Quk) (a.drop (i + 1)) (b.drop j)):=fun h=>by
   rw [Qw7 i (by omega),ih n (out ++ [a[i]]) (i + 1) j (by omega) hj (by omega) (by omega) (by simp; omega)]
   simp
  have nB:∀ (h:j < b.length),Qcn fu keys Quk a b n (out ++ [b[j]]) i (w64 ((j:Int) + 1)) = some (out ++ b[j] :: mrg (dk keys Quk) (a.drop i) (b.drop (j + 1))):=fun h=>by
   rw [Qw7 j (by omega),ih n (out ++ [b[j]]) i (j + 1) hi (by omega) (by omega) (by omega) (by simp; omega)]
   simp
  rw [hL]
  unfold Qha
  by_cases hjb:j = b.length
  · have h:i < a.length:=by omega
    rw [Qcm (by simp [hjb]),Qz2 h,Qab,tA h,Qab,nA h,List.drop_of_length_le (show b.length ≤ j by omega),Q8g,Q8g,← List.drop_eq_getElem_cons h]
  · have hj':j < b.length:=by omega
    rw [Qbj (by simp; omega)]
    by_cases hia:i = a.length
    · rw [Qcm (by simp [hia]),Qz2 hj',Qab,tB hj',Qab,nB hj',List.drop_of_length_le (show a.length ≤ i by omega)]
      have e1:∀ l,mrg (dk keys Quk) [] l = l:=fun l=>by rw [mrg]
      rw [e1,e1,← List.drop_eq_getElem_cons hj']
    · have hi':i < a.length:=by omega
      rw [Qbj (by simp; omega)]
      simp only [Qz2 hi',Qz2 hj',Qab,Q6a (ha _ (List.getElem_mem hi')),Q6a (hb _ (List.getElem_mem hj')),tA hi',tB hj',nA hi',nB hj']
      rw [List.drop_eq_getElem_cons hi',List.drop_eq_getElem_cons hj',Qvp,← List.drop_eq_getElem_cons hi',← List.drop_eq_getElem_cons hj']
      have hx:dk keys Quk a[i] = bif Quk then - kf keys a[i] else kf keys a[i]:=rfl
      have hy:dk keys Quk b[j] = bif Quk then - kf keys b[j] else kf keys b[j]:=rfl
      rw [hx,hy]
      generalize kf keys a[i] = x
      generalize kf keys b[j] = y
      cases Quk
      · by_cases hc:y < x
        · rw [if_pos (by simpa using hc)]; simp [hc]
        · rw [if_neg (by simpa using hc)]
          have:decide (y > x) = true ∨ decide (y > x) = false:=by cases decide (y > x) <;> simp
          rcases this with h | h <;> simp [hc,h]
      · by_cases hc:x < y
        · have h:¬ y < x:=by omega
          rw [if_pos (by simpa using hc)]; simp [hc,h]
        · rw [if_neg (by simpa using hc)]
          have h:decide (y < x) = true ∨ decide (y < x) = false:=by cases decide (y < x) <;> simp
          rcases h with h | h <;> simp [hc,h]
theorem Q40 {fu:Nat} {keys:List Int} (Quk:Bool) (hfu:2097153 ≤ fu):∀ (n:Nat) (l:List Int),l.length ≤ n → l.length ≤ 1048576 → (∀ p ∈ l,0 ≤ p ∧ p < keys.length) →
    Qh7 fu (n + 1) keys l Quk = some (msr (dk keys Quk) (n + 1) l)
 | n,l,hn,hl,hm=>by
  rw [Qh7.eq_2]
  unfold Qrm msr
  by_cases h2:l.length < 2
  · rw [Qcm (by simp; omega),if_pos h2,ap1 (by simp; omega)]; rfl
  · rw [Qbj (by simp; omega),if_neg h2]
    have hd:Int.tdiv (l.length:Int) 2 = ((l.length / 2:Nat):Int):=by simp [Int.tdiv]
    obtain ⟨n,rfl⟩:∃ k,n = k + 1:=⟨n - 1,by omega⟩
    rw [hd,Qcj (by omega) (by omega),Qtc (by omega),Qtc (by omega),Qab]
    simp only [Int.toNat_natCast,Int.toNat_zero,List.drop_zero,Nat.sub_zero,Qab]
    rw [Q40 Quk hfu n (l.take (l.length / 2)) (by rw [List.length_take]; omega) (by rw [List.length_take]; omega) (fun p hp=>hm p (List.mem_of_mem_take hp)),Qab]
    have e:(l.drop (l.length / 2)).take (l.length - l.length / 2) = l.drop (l.length / 2):=List.take_of_length_le (by rw [List.length_drop]; omega)
    rw [e,Q40 Quk hfu n (l.drop (l.length / 2)) (by rw [List.length_drop]; omega) (by rw [List.length_drop]; omega) (fun p hp=>hm p (List.mem_of_mem_drop hp)),Qab]
    have hp1:=(Qsc (dk keys Quk) (n + 1) (l.take (l.length / 2)))
    have hp2:=(Qsc (dk keys Quk) (n + 1) (l.drop (l.length / 2)))
    have l1:=hp1.length_eq
    have l2:=hp2.length_eq
    rw [List.length_take] at l1
    rw [List.length_drop] at l2
    rw [show (0:Int) = ((0:Nat):Int) from rfl]
    rw [Jgb Quk (fun p hp=>hm p (List.mem_of_mem_take (hp1.mem_iff.1 hp))) (fun p hp=>hm p (List.mem_of_mem_drop (hp2.mem_iff.1 hp))) (by omega) (by omega) _ fu [] 0 0 (by omega) (by omega) rfl (by omega) (by simp; omega)]
    simp
theorem Jgr {fu:Nat} {keys:List Int} (hfu:2097153 ≤ fu) (hl:keys.length ≤ 1048576):Qon fu keys = some (srt (kf keys) keys.length):=by
 unfold Qon Qpk
 rw [Q4y keys.length hl (by omega),Qab]
 obtain ⟨m,rfl⟩:∃ m,fu = m + 1:=⟨fu - 1,by omega⟩
 rw [Q40 false hfu m _ (by rw [Qei]; omega) (by rw [Qei]; omega) (fun p hp=>by have:=Qk2.1 hp; omega),Qab]
 congr 1
 have e:dk keys false = kf keys:=rfl
 rw [e]
 exact Q43 (Qsc _ _ _) (Qsz _ _ _ (by rw [Qei]; omega) (Qu3 _ _))
end Go.Proofs.YtkkfmjpbiimkbaaGreat
/- Names, table, fitting, the reason of spec and of impl. Each is the plain function of M0. -/
namespace Go.Proofs.YtkkfmjpbiimkbaaGreat
open Go
open Enc (rd ow)
open Arg (argv)
open Ret (retv)
open Wf (wf)
theorem lpP {σ α β:Type} (l:List α) (L:Nat → σ → Int → Option β) (F:List α → List α → σ → Option β) (hl:l.length ≤ 1099511627776)
    (hs:∀ n s pre x xs,l = pre ++ x :: xs → ix l (pre.length:Int) = some x → decide ((pre.length:Int) < (l.length:Int)) = true → (∀ s',L n s' (w64 ((pre.length:Int) + 1)) = F (pre ++ [x]) xs s') → L (n + 1) s (pre.length:Int) = F pre (x :: xs) s)
    (he:∀ n s,decide ((l.length:Int) < (l.length:Int)) = false → L (n + 1) s (l.length:Int) = F l [] s):∀ n s,l.length < n → L n s 0 = F [] l s:=by
 have key:∀ (xs pre:List α) (n:Nat) (s:σ),l = pre ++ xs → xs.length < n → L n s (pre.length:Int) = F pre xs s:=by
  intro xs
  induction xs with
  | nil =>
   intro pre n s he' hn
   obtain ⟨n,rfl⟩:∃ k,n = k + 1:=⟨n - 1,by omega⟩
   simp only [List.append_nil] at he'
   subst he'
   exact he n s (by simp)
  | cons x xs ih =>
   intro pre n s he' hn
   obtain ⟨n,rfl⟩:∃ k,n = k + 1:=⟨n - 1,by simp at hn; omega⟩
   have hlen:l.length = pre.length + (xs.length + 1):=by rw [he']; simp
   refine hs n s pre x xs he' ?_ (by simp; omega) fun s'=>?_
   · rw [Qrh,he']; simp
   · rw [Qw7 _ (by omega)]
     have:=ih (pre ++ [x]) n s' (by simp [he']) (by simp at hn; omega)
     simpa using this
 intro n s hn
 simpa using key l [] n s rfl hn
theorem Q4s {α:Type} {pre rest:List α} {i:Int} {y:α} (h:ix pre i = some y):ix (pre ++ rest) i = some y:=by
 obtain ⟨h0,h1,h2⟩:=Qas h
 unfold ix
 rw [if_pos h0,List.getElem?_append_left (by omega),h2]
theorem Je5 (a b:Int):(a == b) = (b == a):=Bool.eq_iff_iff.2 (by simp only [beq_iff_eq]; exact ⟨Eq.symm,Eq.symm⟩)
theorem Qt8 {fu:Nat} {r:Request} (h:Sm fu r) (id:Int):Qfp fu r id = some (Qwd (Qsh r id)):=by
 have hfu:=h.fu
 have ht:=h.types
 unfold Qfp Qsh
 rw [Q4o (fun y24=>Qob fu y24 id) (fun t=>t.fId == id) (fun t _=>rfl) ht (by omega),Qab]
 rcases Q2k (fun t:Typ=>t.fId == id) r.fTypes [] with ⟨h1,h2⟩ | ⟨h1,x,h2,h3⟩
 · simp only [List.length_nil] at h1
   rw [Qcm (by simpa using h1),h2]; rfl
 · simp only [List.length_nil,List.nil_append] at h1 h3
   rw [Qbj (by simpa using h1),h2]
   have h3':ix r.fTypes (Qwl (fun t=>t.fId == id) r.fTypes 0) = some x:=h3
   rw [h3']; rfl
theorem Q8m {fu:Nat} {r:Request} (h:Sm fu r):Qfd fu r = some (Qwd (Qsh r r.fMaster)):=by
 have hfu:=h.fu
 have ht:=h.types
 unfold Qfd Qsh
 refine lp r.fTypes (fun n (_:Unit) i=>Qfk fu r n i) (fun l _=>some (Qwd (l.find? fun t=>t.fId == r.fMaster))) (by omega) ?_ ?_ fu () (by omega)
 · intro n s i x xs hx hd ih
   simp only [Qfk.eq_2]
   unfold Qiw
   simp only [hd,cond_true,hx,Qab,ih (),List.find?_cons]
   cases x.fId == r.fMaster <;> rfl
 · intro n s i hd
   simp only [Qfk.eq_2]
   unfold Qiw
   simp only [hd,cond_false]
   rfl
theorem Jdv {fu:Nat} {r:Request} (h:Sm fu r):Qjq fu r = some (Qwd (Qsh r r.fMaster)):=by
 unfold Qjq
 rw [Qt8 h]; rfl
theorem Qz3 (o:Option Typ):(Qwd o).2 = o.isSome:=by cases o <;> rfl
theorem Je8 {fu:Nat} {r:Request} (h:Sm fu r):Qpc fu r = some (Q6y r):=by
 have hfu:=h.fu
 have h1:=h.items
 have h2:=h.types
 have h3:=h.pairs
 have e11:Qdg fu r fu 0 = some (!(r.fPairs.any fun p=>decide (p.fA ≥ r.fClasses) || decide (p.fB ≥ r.fClasses)) && (Qsh r r.fMaster).isSome):=by
  refine lp r.fPairs (fun n (_:Unit) i=>Qdg fu r n i) (fun l _=>some (!(l.any fun p=>decide (p.fA ≥ r.fClasses) || decide (p.fB ≥ r.fClasses)) && (Qsh r r.fMaster).isSome)) (by omega) ?_ ?_ fu () (by omega)
  · intro n s i x xs hx hd ih
    simp only [Qdg.eq_2]
    unfold Qko Qom
    simp only [hd,cond_true,hx,Qab,ih (),List.any_cons]
    cases decide (x.fA ≥ r.fClasses) <;> cases decide (x.fB ≥ r.fClasses) <;> rfl
  · intro n s i hd
    simp only [Qdg.eq_2]
    unfold Qko
    simp only [hd,cond_false,Q8m h,Qab,Qz3]
    rfl
 have e7:∀ b,Qdg fu r fu 0 = some b → Qbo fu r fu 0 = some (Q8s r.fClasses [] r.fItems && b):=by
  intro b hb
  refine lpP r.fItems (fun n (_:Unit) i=>Qbo fu r n i) (fun pre l _=>some (Q8s r.fClasses pre l && b)) (by omega) ?_ ?_ fu () (by omega)
  · intro n s pre x xs hl hx hd ih
    simp only [Qbo.eq_2]
    unfold Qkn
    simp only [hd,cond_true,hx,Qab,Q8s]
    cases hc:decide (x.fClass ≥ r.fClasses)
    · have hpl:pre.length ≤ r.fItems.length:=by rw [hl]; simp
      have e8:Qeb fu (fun i=>Qbo fu r n i) r (pre.length:Int) fu 0 = bif pre.any (fun y=>y.fId == x.fId) then some false else Qbo fu r n (w64 ((pre.length:Int) + 1)):=by
       refine lp pre (fun m (_:Unit) i=>Qeb fu (fun i=>Qbo fu r n i) r (pre.length:Int) m i) (fun l _=>bif l.any (fun y=>y.fId == x.fId) then some false else Qbo fu r n (w64 ((pre.length:Int) + 1))) (by omega) ?_ ?_ fu () (by omega)
       · intro m s i y ys hy hd ih
         simp only [Qeb.eq_2]
         unfold Qlv
         have hy':ix r.fItems i = some y:=by rw [hl]; exact Q4s hy
         simp only [hd,cond_true,hx,hy',Qab,ih (),List.any_cons]
         rw [Je5 x.fId y.fId]
         cases y.fId == x.fId <;> rfl
       · intro m s i hd
         simp only [Qeb.eq_2]
         unfold Qlv
         simp only [hd,cond_false]
         rfl
      have e8':Qeb fu (Qbo fu r n) r (pre.length:Int) fu 0 = bif pre.any (fun y=>y.fId == x.fId) then some false else Qbo fu r n (w64 ((pre.length:Int) + 1)):=e8
      rw [cond_false,e8',ih ()]
      cases pre.any (fun y=>y.fId == x.fId) <;> rfl
    · rfl
  · intro n s hd
    simp only [Qbo.eq_2]
    unfold Qkn
    simp only [hd,cond_false,hb]
    rfl
 have e3:∀ b,Qbo fu r fu 0 = some b → Qbu fu r fu 0 = some (Q5s Typ.fId [] r.fTypes && b):=by
  intro b hb
  refine lpP r.fTypes (fun n (_:Unit) i=>Qbu fu r n i) (fun pre l _=>some (Q5s Typ.fId pre l && b)) (by omega) ?_ ?_ fu () (by omega)
  · intro n s pre x xs hl hx hd ih
    simp only [Qbu.eq_2]
    unfold Qlo
    simp only [hd,cond_true,Q5s]
    have hpl:pre.length ≤ r.fTypes.length:=by rw [hl]; simp
    have e8:Qd4 fu (fun i=>Qbu fu r n i) r (pre.length:Int) fu 0 = bif pre.any (fun y=>y.fId == x.fId) then some false else Qbu fu r n (w64 ((pre.length:Int) + 1)):=by
     refine lp pre (fun m (_:Unit) i=>Qd4 fu (fun i=>Qbu fu r n i) r (pre.length:Int) m i) (fun l _=>bif l.any (fun y=>y.fId == x.fId) then some false else Qbu fu r n (w64 ((pre.length:Int) + 1))) (by omega) ?_ ?_ fu () (by omega)
     · intro m s i y ys hy hd ih
       simp only [Qd4.eq_2]
       unfold Qlt
       have hy':ix r.fTypes i = some y:=by rw [hl]; exact Q4s hy
       simp only [hd,cond_true,hx,hy',Qab,ih (),List.any_cons]
       rw [Je5 x.fId y.fId]
       cases y.fId == x.fId <;> rfl
     · intro m s i hd
       simp only [Qd4.eq_2]
       unfold Qlt
       simp only [hd,cond_false]
       rfl
    have e8':Qd4 fu (Qbu fu r n) r (pre.length:Int) fu 0 = bif pre.any (fun y=>y.fId == x.fId) then some false else Qbu fu r n (w64 ((pre.length:Int) + 1)):=e8
    rw [e8',ih ()]
    cases pre.any (fun y=>y.fId == x.fId) <;> rfl
  · intro n s hd
    simp only [Qbu.eq_2]
    unfold Qlo
    simp only [hd,cond_false,hb]
    rfl
 unfold Qpc Q6y
 rw [e3 _ (e7 _ e11)]
 congr 1
 cases Q5s Typ.fId [] r.fTypes <;> cases Q8s r.fClasses [] r.fItems <;> cases (Qsh r r.fMaster).isSome <;> cases r.fPairs.any fun p=>decide (p.fA ≥ r.fClasses) || decide (p.fB ≥ r.fClasses) <;> rfl
theorem Q6m {α:Type} {l pre xs:List α} {x:α} (h:l = pre ++ x :: xs):sls l 0 (pre.length:Int) = some pre:=by
 rw [Qtc ⟨by omega,by omega,by rw [h]; simp; omega⟩]
 simp [h]
theorem Jfm {fu:Nat} {r:Request} (h:Sm fu r):Qoy fu r = some (Q6y r):=by
 have hfu:=h.fu
 have h1:=h.items
 have h2:=h.types
 have h3:=h.pairs
 have e4:Qdb fu r fu 0 = some (Q8s r.fClasses [] r.fItems && ((Qsh r r.fMaster).isSome && !(r.fPairs.any fun p=>decide (p.fA ≥ r.fClasses) || decide (p.fB ≥ r.fClasses)))):=by
  refine lpP r.fItems (fun n (_:Unit) i=>Qdb fu r n i) (fun pre l _=>some (Q8s r.fClasses pre l && ((Qsh r r.fMaster).isSome && !(r.fPairs.any fun p=>decide (p.fA ≥ r.fClasses) || decide (p.fB ≥ r.fClasses))))) (by omega) ?_ ?_ fu () (by omega)
  · intro n s pre x xs hl hx hd ih
    simp only [Qdb.eq_2]
    unfold Qlx Qn5
    have hpl:pre.length ≤ r.fItems.length:=by rw [hl]; simp
    simp only [hd,cond_true,hx,Qab,Q6m hl,Qvt (fun y=>Qpv fu y x) (fun y=>y.fId == x.fId) (fun y _=>rfl) (show pre.length ≤ 1048576 by omega) (show pre.length < fu by omega),Q8s,ih ()]
    cases decide (x.fClass ≥ r.fClasses) <;> cases pre.any (fun y=>y.fId == x.fId) <;> rfl
  · intro n s hd
    simp only [Qdb.eq_2]
    unfold Qlx
    simp only [hd,cond_false,Jdv h,Qab,Qz3]
    rw [Q2b (fun y=>Ql4 fu y r) (fun p=>decide (p.fA ≥ r.fClasses) || decide (p.fB ≥ r.fClasses)) (fun p _=>by
     unfold Ql4
     cases decide (p.fA ≥ r.fClasses) <;> rfl) h3 (by omega),Qab]
    cases (Qsh r r.fMaster).isSome <;> rfl
 have e3:∀ b,Qdb fu r fu 0 = some b → Qfa fu r fu 0 = some (Q5s Typ.fId [] r.fTypes && b):=by
  intro b hb
  refine lpP r.fTypes (fun n (_:Unit) i=>Qfa fu r n i) (fun pre l _=>some (Q5s Typ.fId pre l && b)) (by omega) ?_ ?_ fu () (by omega)
  · intro n s pre x xs hl hx hd ih
    simp only [Qfa.eq_2]
    unfold Qkx
    have hpl:pre.length ≤ r.fTypes.length:=by rw [hl]; simp
    simp only [hd,cond_true,hx,Qab,Q6m hl,Q09 (fun y=>Qpx fu y x) (fun y=>y.fId == x.fId) (fun y _=>rfl) (show pre.length ≤ 1048576 by omega) (show pre.length < fu by omega),Q5s,ih ()]
    cases pre.any (fun y=>y.fId == x.fId) <;> rfl
  · intro n s hd
    simp only [Qfa.eq_2]
    unfold Qkx
    simp only [hd,cond_false,hb]
    rfl
 unfold Qoy Q6y
 rw [e3 _ e4]
 congr 1
 cases Q5s Typ.fId [] r.fTypes <;> cases Q8s r.fClasses [] r.fItems <;> cases (Qsh r r.fMaster).isSome <;> cases r.fPairs.any fun p=>decide (p.fA ≥ r.fClasses) || decide (p.fB ≥ r.fClasses) <;> rfl
theorem Jdu {fu:Nat} {l:List Pair} (hl:l.length ≤ 1048576) (hf:l.length < fu) (a b:Int):Qfg fu l a b = some (Qsv l a b):=by
 unfold Qfg Qsv
 refine lp l (fun n (_:Unit) i=>Qfx fu l a b n i) (fun l _=>some (l.any fun p=>p.fA == a && p.fB == b)) (by omega) ?_ ?_ fu () hf
 · intro n s i x xs hx hd ih
   simp only [Qfx.eq_2]
   unfold Qmx Qmc
   simp only [hd,cond_true,hx,Qab,ih (),List.any_cons]
   cases x.fA == a <;> cases x.fB == b <;> rfl
 · intro n s i hd
   simp only [Qfx.eq_2]
   unfold Qmx
   simp only [hd,cond_false]
   rfl
theorem Jb9 {fu:Nat} {l:List Pair} (hl:l.length ≤ 1048576) (hf:l.length < fu) (a b:Int):Qg4 fu l a b = some (Qsv l a b):=by
 unfold Qg4 Qcv Qda Qsv
 have:=Qr9 l (fun n i=>Qbg fu l (⟨a,b⟩:Pair) n i) (fun p=>p.fA == a && p.fB == b) (by omega) (by
  intro n i x hx hd
  simp only [Qbg.eq_2]
  unfold Qcq
  simp only [hd,cond_true,hx,Qab]
  have:decide ((⟨a,b⟩:Pair) = x) = (x.fA == a && x.fB == b):=by
   rcases x with ⟨c,d⟩
   apply Bool.eq_iff_iff.2
   simp only [decide_eq_true_eq,Pair.mk.injEq,Bool.and_eq_true,beq_iff_eq]
   exact ⟨fun ⟨h1,h2⟩=>⟨h1.symm,h2.symm⟩,fun ⟨h1,h2⟩=>⟨h1.symm,h2.symm⟩⟩
  rw [this]) (by
  intro n i hd
  simp only [Qbg.eq_2]
  unfold Qcq
  simp only [hd,cond_false]) fu hf
 rw [this,Qab,Qsq _ l 0 (by omega),Qab]
theorem Je2 {fu:Nat} {l:List Pair} (hl:l.length ≤ 1048576) (hf:l.length < fu) (h64:64 < fu) (c:Int):Qpe fu l c = some (Q97 l c):=by
 unfold Qpe Q97
 rw [Q2q,Qab]
 cases hc:inb c 1 4
 · rfl
 rw [Qfu] at hc
 simp only [Bool.not_true,cond_false,Bool.true_and]
 have e4:∀ (k:Int → Option Bool) (a:Int),Qe9 fu k l c a fu 0 = bif (Qka 0 c.toNat).all fun b=>Qsv l a b == Qsv l b a then k (w64 (a + 1)) else some false:=by
  intro k a
  refine lpN c (fun n (_:Unit) i=>Qe9 fu k l c a n i) (fun xs _=>bif xs.all fun b=>Qsv l a b == Qsv l b a then k (w64 (a + 1)) else some false) (by omega) ?_ ?_ c.toNat fu () 0 (by omega) (by omega) (by omega)
  · intro n s i xs h0 h1 hd ih
    simp only [Qe9.eq_2]
    unfold Qkl
    simp only [hd,cond_true,Jb9 hl hf,Qab,ih (),List.all_cons]
    cases Qsv l a i == Qsv l i a <;> rfl
  · intro n s i hd
    simp only [Qe9.eq_2]
    unfold Qkl
    simp only [hd,cond_false]
    rfl
 refine lpN c (fun n (_:Unit) i=>Qez fu l c n i) (fun xs _=>some (xs.all fun a=>Qsv l a a && (Qka 0 c.toNat).all fun b=>Qsv l a b == Qsv l b a)) (by omega) ?_ ?_ c.toNat fu () 0 (by omega) (by omega) (by omega)
 · intro n s i xs h0 h1 hd ih
   simp only [Qez.eq_2]
   unfold Qlj
   simp only [hd,cond_true,Jb9 hl hf,Qab,e4,ih (),List.all_cons]
   cases Qsv l i i <;> cases (Qka 0 c.toNat).all fun b=>Qsv l i b == Qsv l b i <;> rfl
 · intro n s i hd
   simp only [Qez.eq_2]
   unfold Qlj
   simp only [hd,cond_false]
   rfl
theorem Jfr {fu:Nat} {l:List Pair} (hl:l.length ≤ 1048576) (hf:l.length < fu) (h64:64 < fu) (c:Int):Qph fu l c = some (Q97 l c):=by
 unfold Qph Q97
 rw [Qzv,Qab]
 cases hc:inb c 1 4
 · rfl
 rw [Qfu] at hc
 simp only [Bool.not_true,cond_false,Bool.true_and]
 have e4:∀ (k:Int → Option Bool) (a:Int),Qea fu k l c a fu 0 = bif (Qka 0 c.toNat).all fun b=>(!(a == b) || Qsv l a a) && (Qsv l a b == Qsv l b a) then k (w64 (a + 1)) else some false:=by
  intro k a
  refine lpN c (fun n (_:Unit) i=>Qea fu k l c a n i) (fun xs _=>bif xs.all fun b=>(!(a == b) || Qsv l a a) && (Qsv l a b == Qsv l b a) then k (w64 (a + 1)) else some false) (by omega) ?_ ?_ c.toNat fu () 0 (by omega) (by omega) (by omega)
  · intro n s i xs h0 h1 hd ih
    simp only [Qea.eq_2]
    unfold Qlz Qjl
    simp only [hd,cond_true,Jdu hl hf,Qab,ih (),List.all_cons]
    cases a == i <;> cases Qsv l a a <;> cases Qsv l a i == Qsv l i a <;> rfl
  · intro n s i hd
    simp only [Qea.eq_2]
    unfold Qlz
    simp only [hd,cond_false]
    rfl
 have e9:Qdj fu l c fu 0 = some ((Qka 0 c.toNat).all fun a=>(Qka 0 c.toNat).all fun b=>(!(a == b) || Qsv l a a) && (Qsv l a b == Qsv l b a)):=by
  refine lpN c (fun n (_:Unit) i=>Qdj fu l c n i) (fun xs _=>some (xs.all fun a=>(Qka 0 c.toNat).all fun b=>(!(a == b) || Qsv l a a) && (Qsv l a b == Qsv l b a))) (by omega) ?_ ?_ c.toNat fu () 0 (by omega) (by omega) (by omega)
  · intro n s i xs h0 h1 hd ih
    simp only [Qdj.eq_2]
    unfold Qky
    simp only [hd,cond_true,e4,ih (),List.all_cons]
    cases (Qka 0 c.toNat).all fun b=>(!(i == b) || Qsv l i i) && (Qsv l i b == Qsv l b i) <;> rfl
  · intro n s i hd
    simp only [Qdj.eq_2]
    unfold Qky
    simp only [hd,cond_false]
    rfl
 rw [e9]
 congr 1
 apply Bool.eq_iff_iff.2
 simp only [List.all_eq_true,Bool.and_eq_true,Bool.or_eq_true,Bool.not_eq_true',beq_eq_false_iff_ne,beq_iff_eq]
 constructor
 · intro h a ha
   refine ⟨?_,fun b hb=>(h a ha b hb).2⟩
   rcases (h a ha a ha).1 with h1 | h1
   · exact absurd rfl h1
   · exact h1
 · intro h a ha b hb
   exact ⟨.inr (h a ha).1,(h a ha).2 b hb⟩
theorem Jgt {l:List Int} (h:l.length = 3):∃ p q s,l = [p,q,s]:=by
 match l,h with
 | [p,q,s],_=>exact ⟨p,q,s,rfl⟩
theorem Jcy {fu:Nat} (hfu:2097153 ≤ fu) (a b c:Int):Qmf fu a b c = some [(sid a b c).1,(sid a b c).2.1,(sid a b c).2.2]:=by
 unfold Qmf
 rw [Jgr hfu (by simp),Qab,show [a,b,c].length = 3 from rfl]
 have hp:=Quc (kf [a,b,c]) 3
 have hs:=Qv1 (kf [a,b,c]) 3
 obtain ⟨p,q,s,hq⟩:=Jgt (Qu0 (kf [a,b,c]) 3)
 rw [hq] at hp hs ⊢
 have hmem:∀ x ∈ [p,q,s],0 ≤ x ∧ x < 3:=fun x hx=>by
  have:=Qk2.1 (hp.mem_iff.1 hx)
  omega
 have k1:=Q6a (keys:=[a,b,c]) (p:=p) (by have:=hmem p (by simp); simpa using this)
 have k2:=Q6a (keys:=[a,b,c]) (p:=q) (by have:=hmem q (by simp); simpa using this)
 have k3:=Q6a (keys:=[a,b,c]) (p:=s) (by have:=hmem s (by simp); simpa using this)
 rw [show ix [p,q,s] 0 = some p from rfl,show ix [p,q,s] 1 = some q from rfl,show ix [p,q,s] 2 = some s from rfl]
 simp only [Qab,k1,k2,k3]
 have hp3:([a,b,c]).Perm [kf [a,b,c] p,kf [a,b,c] q,kf [a,b,c] s]:=(hp.map (kf [a,b,c])).symm
 simp only [List.pairwise_cons,List.mem_cons,List.not_mem_nil,or_false,forall_eq_or_imp,forall_eq,lx] at hs
 have:=Jd6 hp3 (by omega) (by omega)
 rw [this]
theorem Jba {fu:Nat} (hfu:2097153 ≤ fu) (x:Item) (t:Typ):Qp4 fu x t = some (Qzn x t):=by
 unfold Qp4 Qzn
 rw [Jcy hfu,Jcy hfu]
 simp only [Qab]
 have e0:∀ a b c:Int,ix [a,b,c] 0 = some a:=fun _ _ _=>rfl
 have e1:∀ a b c:Int,ix [a,b,c] 1 = some b:=fun _ _ _=>rfl
 have e2:∀ a b c:Int,ix [a,b,c] 2 = some c:=fun _ _ _=>rfl
 simp only [e0,e1,e2,Qab]
 cases decide ((sid x.fW x.fH x.fD).1 ≤ (sid t.fW t.fH t.fD).1) <;> cases decide ((sid x.fW x.fH x.fD).2.1 ≤ (sid t.fW t.fH t.fD).2.1) <;> cases decide ((sid x.fW x.fH x.fD).2.2 ≤ (sid t.fW t.fH t.fD).2.2) <;> rfl
theorem Q8a (a b c:Int):Q0z [a,b,c] = some [(sid a b c).1,(sid a b c).2.1,(sid a b c).2.2]:=by
 unfold Q0z
 rw [if_pos (by simp)]
 have hp:=List.mergeSort_perm [a,b,c] (fun x y=>decide (x ≤ y))
 have hs:=Qry [a,b,c]
 obtain ⟨p,q,s,hq⟩:=Jgt (hp.length_eq)
 rw [hq] at hp hs ⊢
 simp only [List.pairwise_cons,List.mem_cons,List.not_mem_nil,or_false,forall_eq_or_imp,forall_eq] at hs
 rw [Jd6 hp.symm (by omega) (by omega)]
theorem Jef (fu:Nat) (x:Item) (t:Typ):Qrj fu x t = some (Qzn x t):=by
 unfold Qrj Qrv Qc4 Qzn
 rw [Q8a,Q8a]
 have e0:∀ a b c:Int,ix [a,b,c] 0 = some a:=fun _ _ _=>rfl
 have e1:∀ a b c:Int,ix [a,b,c] 1 = some b:=fun _ _ _=>rfl
 have e2:∀ a b c:Int,ix [a,b,c] 2 = some c:=fun _ _ _=>rfl
 simp only [Qab,e0,e1,e2]
 cases decide ((sid x.fW x.fH x.fD).1 ≤ (sid t.fW t.fH t.fD).1) <;> cases decide ((sid x.fW x.fH x.fD).2.1 ≤ (sid t.fW t.fH t.fD).2.1) <;> cases decide ((sid x.fW x.fH x.fD).2.2 ≤ (sid t.fW t.fH t.fD).2.2) <;> rfl
theorem Qyw {fu:Nat} {r:Request} (h:Sm fu r):Qem fu r = some (Qhm r):=by
 have hfu:=h.fu
 have h1:=h.items
 have h2:=h.types
 have h3:=h.pairs
 have e4:Qfm fu r fu 0 = some (bif r.fTypes.any (Q5t r.fPallet) then 6 else 0):=by
  refine lp r.fTypes (fun n (_:Unit) i=>Qfm fu r n i) (fun l _=>some (bif l.any (Q5t r.fPallet) then 6 else 0)) (by omega) ?_ ?_ fu () (by omega)
  · intro n s i x xs hx hd ih
    simp only [Qfm.eq_2]
    unfold Qod Qqo
    simp only [hd,cond_true,hx,Qab,ih (),List.any_cons,Q5t]
    cases decide (x.fW > r.fPallet.fW) <;> cases decide (x.fD > r.fPallet.fD) <;> cases decide (x.fH > r.fPallet.fH) <;> cases decide (w64 (x.fTare + x.fGram) > r.fPallet.fGram) <;> rfl
  · intro n s i hd
    simp only [Qfm.eq_2]
    unfold Qod
    simp only [hd,cond_false]
    rfl
 unfold Qem Qhm
 rw [Jfy h,Qab,Je8 h,Qab,Jfr h3 (by omega) (by omega),Qab,Q8m h,Qab]
 have e1:Qgq fu r (Qwd (Qsh r r.fMaster)) fu 0 = some (bif !(r.fItems.all fun x=>Qzn x (Qxg r)) then 5 else bif r.fTypes.any (Q5t r.fPallet) then 6 else 0):=by
  refine lp r.fItems (fun n (_:Unit) i=>Qgq fu r (Qwd (Qsh r r.fMaster)) n i) (fun l _=>some (bif !(l.all fun x=>Qzn x (Qxg r)) then 5 else bif r.fTypes.any (Q5t r.fPallet) then 6 else 0)) (by omega) ?_ ?_ fu () (by omega)
  · intro n s i x xs hx hd ih
    simp only [Qgq.eq_2]
    unfold Qoi
    simp only [hd,cond_true,hx,Qab,Jba hfu,ih (),List.all_cons]
    rw [show (Qwd (Qsh r r.fMaster)).1 = Qxg r from rfl]
    cases Qzn x (Qxg r) <;> rfl
  · intro n s i hd
    simp only [Qgq.eq_2]
    unfold Qoi
    simp only [hd,cond_false,e4]
    rfl
 rw [e1]
 cases Q2v r <;> cases Q6y r <;> cases Q97 r.fPairs r.fClasses <;> rfl
theorem Jft {fu:Nat} {r:Request} (h:Sm fu r):Qr2 fu r = some (Qhm r):=by
 have hfu:=h.fu
 have h1:=h.items
 have h2:=h.types
 have h3:=h.pairs
 unfold Qr2 Qhm
 rw [Jdv h,Qab,Jgg h,Qab,Jfm h,Qab,Je2 h3 (by omega) (by omega),Qab]
 rw [Qvt (fun y=>Qpg fu y (Qwd (Qsh r r.fMaster)).1) (fun x=>!Qzn x (Qxg r)) (fun x _=>by
  unfold Qpg
  rw [Jef,Qab]; rfl) h1 (by omega),Qab]
 rw [Q09 (fun y=>Qo2 fu y r.fPallet) (Q5t r.fPallet) (fun x _=>by
  unfold Qo2 Q5t
  cases decide (x.fW > r.fPallet.fW) <;> cases decide (x.fD > r.fPallet.fD) <;> cases decide (x.fH > r.fPallet.fH) <;> rfl) h2 (by omega),Qab]
 rw [show (r.fItems.any fun x=>!Qzn x (Qxg r)) = !(r.fItems.all fun x=>Qzn x (Qxg r)) by simp [List.not_all_eq_any_not]]
 cases Q2v r <;> cases Q6y r <;> cases Q97 r.fPairs r.fClasses <;> cases r.fItems.all fun x=>Qzn x (Qxg r) <;> cases r.fTypes.any (Q5t r.fPallet) <;> rfl
theorem Qu6 {fu:Nat} {r:Request} (h:Sm fu r):Qgr fu r = some (Qhm r == 0):=by
 unfold Qgr
 rw [Jft h]; rfl
end Go.Proofs.YtkkfmjpbiimkbaaGreat
/- An order that is drawn is there, and small. -/
namespace Go.Proofs.YtkkfmjpbiimkbaaGreat
open Go
open Enc (rd ow)
open Arg (argv)
open Ret (retv)
open Wf (wf)
def SmR (r:Request):Prop:=r.fPairs.length ≤ 64 ∧ r.fTypes.length ≤ 64 ∧ r.fItems.length ≤ 64
theorem SmR.sm {r:Request} (h:SmR r) {fu:Nat} (hf:2097153 ≤ fu):Sm fu r:=⟨hf,by have:=h.1; omega,by have:=h.2.1; omega,by have:=h.2.2; omega⟩
theorem Q44 {fu:Nat} {b:List U8} {c:Cur} (h:CO b c) (hf:1048577 ≤ fu):Tot (Qmj fu c) fun x=>(x.1.fPairs.length ≤ 40 ∧ (1 ≤ x.1.fTypes.length ∧ x.1.fTypes.length ≤ 8) ∧ x.1.fItems.length ≤ 8) ∧ CO b x.2:=by
 unfold Qmj
 refine Tot.bind (Qc8 h _) fun x1 h1=>Tot.bind (Qr5 (h.re h1.2) _ (by simp)) fun x2 h2=>Tot.bind (Qr5 (h.re h2.2) _ (by simp)) fun x3 h3=>Tot.bind (Qr5 (h.re h3.2) _ (by simp)) fun x4 h4=>Tot.bind (Qr5 (h.re h4.2) _ (by simp)) fun x5 h5=>Tot.bind (Qc8 (h.re h5.2) _) fun x6 h6=>?_
 have hb:=h.2.2
 have hcb:=h.1
 obtain ⟨c0,c1⟩:=h6.1
 have c1:=c1 (by omega)
 have ew:w64 (1 + x6.1) = 1 + x6.1:=Qcj (by omega) (by omega)
 have L4:=lpT (1 + x6.1) (fun n (s:Int × Int × List Pair) i=>Qdf fu c x1 x2 x3 x4 x5 x6 n s.1 s.2.1 s.2.2 i) (fun x:Request × Cur=>(x.1.fPairs.length ≤ 40 ∧ (1 ≤ x.1.fTypes.length ∧ x.1.fTypes.length ≤ 8) ∧ x.1.fItems.length ≤ 8) ∧ CO b x.2)
  (fun i s=>0 ≤ s.1 ∧ (s.2.2.length:Int) ≤ 8 * i ∧ i ≤ 4) (by omega) ?_ ?_ (1 + x6.1 - 0).toNat fu (x6.2.fi,x6.2.fh,[]) 0 (by omega) rfl (by omega) ⟨h6.2.2.1,by simp,by omega⟩
 · exact L4
 · intro n ⟨f1,f2,ps⟩ a ha0 ha1 hI ih
   obtain ⟨i1,i2,i3⟩:0 ≤ f1 ∧ (ps.length:Int) ≤ 8 * a ∧ a ≤ 4:=hI
   simp only [Qdf.eq_2]
   unfold Qlu
   rw [ew,Qcm (by simpa using ha1)]
   have L1:=lpT (a + 1) (fun m (s:Int × Int × List Pair) i=>Qe6 fu (Qdf fu c x1 x2 x3 x4 x5 x6 n) c a m s.1 s.2.1 s.2.2 i) (fun x:Request × Cur=>(x.1.fPairs.length ≤ 40 ∧ (1 ≤ x.1.fTypes.length ∧ x.1.fTypes.length ≤ 8) ∧ x.1.fItems.length ≤ 8) ∧ CO b x.2)
    (fun i s=>0 ≤ s.1 ∧ (s.2.2.length:Int) ≤ 8 * a + 2 * i ∧ i ≤ a + 1) (by omega) ?_ ?_ (a + 1 - 0).toNat fu (f1,f2,ps) 0 (by omega) rfl (by omega) ⟨i1,by simp; omega,by omega⟩
   · exact L1
   · intro m ⟨g1,g2,qs⟩ i hi0 hi1 hI ih2
     obtain ⟨j1,j2,j3⟩:0 ≤ g1 ∧ (qs.length:Int) ≤ 8 * a + 2 * i ∧ i ≤ a + 1:=hI
     simp only [Qe6.eq_2]
     unfold Qlg
     rw [Qcm (by simp; omega)]
     unfold Qhc
     refine Tot.bif (fun hc=>?_) fun hc=>?_
     · refine Tot.ap (by simp; omega) ?_
       exact ih2 (g1,g2,_) ⟨j1,by simp; omega,by omega⟩
     · refine Tot.bind (Q26 (b:=b) (c:=⟨c.fb,g1,g2⟩) ⟨hcb,j1,hb⟩ 2) fun y hy=>?_
       refine Tot.bif (fun hc=>?_) fun hc=>?_
       · refine Tot.ap (by simp; omega) ?_
         exact ih2 (y.2.fi,y.2.fh,_) ⟨hy.2.1,by simp; omega,by omega⟩
       · exact ih2 (y.2.fi,y.2.fh,_) ⟨hy.2.1,by simp; omega,by omega⟩
   · intro m ⟨g1,g2,qs⟩ i hi0 hi1 hI
     obtain ⟨j1,j2,j3⟩:0 ≤ g1 ∧ (qs.length:Int) ≤ 8 * a + 2 * i ∧ i ≤ a + 1:=hI
     simp only [Qe6.eq_2]
     unfold Qlg
     rw [Qbj (by simp; omega)]
     have:i = a + 1:=by omega
     exact ih (g1,g2,qs) ⟨j1,by simp; omega,by omega⟩
 · intro n ⟨f1,f2,ps⟩ a ha0 ha1 hI
   obtain ⟨i1,i2,i3⟩:0 ≤ f1 ∧ (ps.length:Int) ≤ 8 * a ∧ a ≤ 4:=hI
   simp only [Qdf.eq_2]
   unfold Qlu
   rw [ew,Qbj (by simpa using ha1)]
   refine Tot.bind (Qc8 (b:=b) (c:=⟨c.fb,f1,f2⟩) ⟨hcb,i1,hb⟩ _) fun y1 g1=>Tot.bind (Qr5 (h.re g1.2) _ (by simp)) fun y2 g2=>Tot.bind (Qr5 (h.re g2.2) _ (by simp)) fun y3 g3=>Tot.ap (by simp) ?_
   unfold Qn8
   refine Tot.bind (Qc8 (h.re g3.2) _) fun y4 g4=>?_
   obtain ⟨e0,e1⟩:=g4.1
   have e1:=e1 (by omega)
   have L3:=lpT y4.1 (fun m (s':Int × Int × List Typ) i=>Qgf fu c x1 x2 x3 x4 x5 x6 ps y4 m s'.1 s'.2.1 s'.2.2 i) (fun x:Request × Cur=>(x.1.fPairs.length ≤ 40 ∧ (1 ≤ x.1.fTypes.length ∧ x.1.fTypes.length ≤ 8) ∧ x.1.fItems.length ≤ 8) ∧ CO b x.2)
    (fun i s=>0 ≤ s.1 ∧ (s.2.2.length:Int) = 1 + i ∧ i ≤ y4.1) (by omega) ?_ ?_ (y4.1 - 0).toNat fu (y4.2.fi,y4.2.fh,([]:List Typ) ++ [(⟨7,12,10,11,y1.1,y2.1,y3.1⟩:Typ)]) 0 (by omega) rfl (by omega) ⟨g4.2.2.1,by simp,by omega⟩
   · exact L3
   · intro m ⟨g1,g2,ts⟩ i hi0 hi1 hI ih2
     obtain ⟨j1,j2,j3⟩:0 ≤ g1 ∧ (ts.length:Int) = 1 + i ∧ i ≤ y4.1:=hI
     simp only [Qgf.eq_2]
     unfold Qkh
     rw [Qcm (by simp; omega)]
     refine Tot.bind (Qc8 (b:=b) (c:=⟨c.fb,g1,g2⟩) ⟨hcb,j1,hb⟩ _) fun z1 f1=>Tot.bind (Qc8 (h.re f1.2) _) fun z2 f2=>Tot.bind (Qc8 (h.re f2.2) _) fun z3 f3=>Tot.bind (Qc8 (h.re f3.2) _) fun z4 f4=>Tot.bind (Qc8 (h.re f4.2) _) fun z5 f5=>Tot.bind (Qc8 (h.re f5.2) _) fun z6 f6=>Tot.ap (by simp; omega) ?_
     exact ih2 (z6.2.fi,z6.2.fh,_) ⟨f6.2.2.1,by simp; omega,by omega⟩
   · intro m ⟨g1,g2,ts⟩ i hi0 hi1 hI
     obtain ⟨j1,j2,j3⟩:0 ≤ g1 ∧ (ts.length:Int) = 1 + i ∧ i ≤ y4.1:=hI
     simp only [Qgf.eq_2]
     unfold Qkh
     rw [Qbj (by simp; omega)]
     refine Tot.bind (Qc8 (b:=b) (c:=⟨c.fb,g1,g2⟩) ⟨hcb,j1,hb⟩ _) fun z f=>?_
     obtain ⟨q0,q1⟩:=f.1
     have q1:=q1 (by omega)
     have L2:=lpT z.1 (fun m (t:Int × Int × List Item × Int) i=>Qcy fu c x1 x2 x3 x4 x5 x6 ps ts z m t.1 t.2.1 t.2.2.1 t.2.2.2 i) (fun x:Request × Cur=>(x.1.fPairs.length ≤ 40 ∧ (1 ≤ x.1.fTypes.length ∧ x.1.fTypes.length ≤ 8) ∧ x.1.fItems.length ≤ 8) ∧ CO b x.2)
      (fun i t=>0 ≤ t.1 ∧ (t.2.2.1.length:Int) ≤ i ∧ i ≤ z.1) (by omega) ?_ ?_ (z.1 - 0).toNat fu (z.2.fi,z.2.fh,[],0) 0 (by omega) rfl (by omega) ⟨f.2.2.1,by simp,by omega⟩
     · exact L2
     · intro m' ⟨k4,k5,is,un⟩ i' hi0 hi1 hI ih2
       obtain ⟨k1,k2,k3⟩:0 ≤ k4 ∧ (is.length:Int) ≤ i' ∧ i' ≤ z.1:=hI
       simp only [Qcy.eq_2]
       unfold Qku
       rw [Qcm (by simp; omega)]
       refine Tot.bind (Qc8 (b:=b) (c:=⟨c.fb,k4,k5⟩) ⟨hcb,k1,hb⟩ _) fun w1 v1=>Tot.bind (Qc8 (h.re v1.2) _) fun w2 v2=>Tot.bind (Qc8 (h.re v2.2) _) fun w3 v3=>Tot.bind (Qc8 (h.re v3.2) _) fun w4 v4=>Tot.bind (Qc8 (h.re v4.2) _) fun w5 v5=>Tot.bind (Qc8 (h.re v5.2) _) fun w6 v6=>?_
       unfold Qoc
       have J3:∀ (p q:Int) (x:Item),0 ≤ p → Tot (Qhd fu (Qcy fu c x1 x2 x3 x4 x5 x6 ps ts z m') is un i' p q x) (fun x:Request × Cur=>(x.1.fPairs.length ≤ 40 ∧ (1 ≤ x.1.fTypes.length ∧ x.1.fTypes.length ≤ 8) ∧ x.1.fItems.length ≤ 8) ∧ CO b x.2):=by
        intro p q x hp
        unfold Qhd Qj4
        refine Tot.bif (fun hc=>?_) fun hc=>?_
        · refine Tot.ap (by simp; omega) ?_
          exact ih2 (p,q,_,_) ⟨hp,by simp; omega,by omega⟩
        · exact ih2 (p,q,_,_) ⟨hp,by simp; omega,by omega⟩
       refine Tot.bind (Q26 (h.re v6.2) _) fun w7 v7=>?_
       refine Tot.bif (fun hc=>?_) fun hc=>?_
       · refine Tot.bind (Qc8 (h.re v7) _) fun w8 v8=>?_
         exact J3 _ _ _ v8.2.2.1
       · exact J3 _ _ _ v7.2.1
     · intro m' ⟨k4,k5,is,un⟩ i' hi0 hi1 hI
       obtain ⟨k1,k2,k3⟩:0 ≤ k4 ∧ (is.length:Int) ≤ i' ∧ i' ≤ z.1:=hI
       simp only [Qcy.eq_2]
       unfold Qku
       rw [Qbj (by simp; omega)]
       exact Tot.mk ⟨⟨by simp; omega,by simp; omega,by simp; omega⟩,hcb,k1,hb⟩
theorem Jcb {fu:Nat} {b:List U8} {c:Cur} (h:CO b c) (hf:2097153 ≤ fu):Tot (Qre fu c) fun x=>SmR x.1 ∧ CO b x.2:=by
 unfold Qre
 refine Tot.bind (Q44 h (by omega)) fun x hx=>?_
 obtain ⟨⟨a1,a2,a3⟩,hc⟩:=hx
 have hs:SmR x.1:=⟨by omega,by omega,by omega⟩
 rw [Qyw (hs.sm hf),Qab]
 refine Tot.bif (fun _=>?_) fun _=>Tot.mk ⟨hs,h.re hc⟩
 have hs2:Sm fu (⟨x.1.fWay,(⟨30,25,24,400⟩:Pallet),x.1.fClasses,x.1.fPairs,x.1.fTypes,x.1.fMaster,x.1.fItems⟩:Request):=⟨hf,by simp; omega,by simp; omega,by simp; omega⟩
 rw [Q8m hs2,Qab]
 generalize Qwd _ = t
 refine lpT (x.1.fItems.length:Int) (fun n s i=>Qfy fu c x t n s i) _ (fun i s=>(s.length:Int) ≤ i ∧ i ≤ x.1.fItems.length) (by omega) ?_ ?_ _ fu [] 0 (by omega) rfl (by omega) ⟨by simp,by omega⟩
 · intro n s i h0 h1 hI ih
   simp only [Qfy.eq_2]
   unfold Qm1 Ql5
   rw [Qcm (by simpa using h1)]
   refine Tot.ix ⟨h0,h1⟩ fun y hy=>?_
   rw [Jba hf,Qab]
   refine Tot.bif (fun _=>?_) fun _=>ih _ ⟨by omega,by omega⟩
   refine Tot.ix ⟨h0,h1⟩ fun y hy=>Tot.ap (by simp; omega) ?_
   exact ih _ ⟨by simp; omega,by omega⟩
 · intro n s i h0 h1 hI
   simp only [Qfy.eq_2]
   unfold Qm1
   rw [Qbj (by simp; omega)]
   exact Tot.mk ⟨⟨by simp; omega,by simp; omega,by simp; omega⟩,h.re hc⟩
theorem Qys {α:Type} (l:List α) (i:Int) (y:α):(Qjp l i y).length = l.length:=by simp [Qjp]
theorem Q2h {α:Type} {l:List α} (h:0 < l.length):sls l 1 (l.length:Int) = some (l.drop 1):=by
 rw [Qtc (by omega)]
 congr 1
 exact List.take_of_length_le (by simp)
theorem Jbb {fu:Nat} {b:List U8} {c:Cur} (h:CO b c) (hf:2097153 ≤ fu):Tot (Qrf fu c) fun x=>SmR x.1 ∧ CO b x.2:=by
 unfold Qrf
 refine Tot.bind (Q44 h (by omega)) fun x hx=>?_
 obtain ⟨⟨a1,a2,a3⟩,hc⟩:=hx
 obtain ⟨c1,c2,c3⟩:=h
 have h:CO b c:=⟨c1,c2,c3⟩
 refine Tot.bind (Qr5 (h.re hc) _ (by simp)) fun y hy=>Tot.bind (Qc8 (h.re hy.2) _) fun z hz=>?_
 have J:∀ (f264 f265 f266 f267:Int) (f268:List Pair) (f273:List Typ) (f278:Int) (f279:List Item) (f286 f287:Int),f268.length ≤ 64 → f273.length ≤ 64 → f279.length ≤ 64 → 0 ≤ f286 → Tot (Qbh fu c x f264 f265 f266 f267 f268 f273 f278 f279 f286 f287) fun x=>SmR x.1 ∧ CO b x.2:=by
  intro f264 f265 f266 f267 f268 f273 f278 f279 f286 f287 q1 q2 q3 q4
  exact Tot.mk ⟨⟨q1,q2,q3⟩,c1,q4,c3⟩
 have hz0:=hz.2.2.1
 refine Tot.bif (fun _=>?_) fun _=>?_
 · exact Tot.bind (Qr5 (h.re hz.2) _ (by simp)) fun y hy=>J _ _ _ _ _ _ _ _ _ _ (by omega) (by omega) (by omega) hy.2.2.1
 refine Tot.bif (fun _=>?_) fun _=>?_
 · exact J _ _ _ _ _ _ _ _ _ _ (by omega) (by omega) (by omega) hz0
 refine Tot.bif (fun _=>?_) fun _=>?_
 · exact J _ _ _ _ _ _ _ _ _ _ (by omega) (by omega) (by omega) hz0
 refine Tot.bif (fun _=>?_) fun _=>?_
 · exact Tot.bind (Qr5 (h.re hz.2) _ (by simp)) fun y hy=>J _ _ _ _ _ _ _ _ _ _ (by omega) (by omega) (by omega) hy.2.2.1
 refine Tot.bif (fun _=>?_) fun _=>?_
 · exact Tot.bind (Qc8 (h.re hz.2) _) fun y hy=>Tot.bind (Qc8 (h.re hy.2) _) fun v hv=>Tot.ap (by simp; omega) (J _ _ _ _ _ _ _ _ _ _ (by simp; omega) (by omega) (by omega) hv.2.2.1)
 refine Tot.bif (fun _=>?_) fun _=>?_
 · exact Tot.ix (by omega) fun y hy=>J _ _ _ _ _ _ _ _ _ _ (by omega) (by rw [Qys]; omega) (by omega) hz0
 refine Tot.bif (fun _=>?_) fun _=>?_
 · exact Tot.bind (Qc8 (h.re hz.2) _) fun y hy=>Tot.ix ⟨hy.1.1,hy.1.2 (by omega)⟩ fun v hv=>J _ _ _ _ _ _ _ _ _ _ (by omega) (by rw [Qys]; omega) (by omega) hy.2.2.1
 refine Tot.bif (fun _=>?_) fun _=>?_
 · exact Tot.bind (Qr5 (h.re hz.2) _ (by simp)) fun y hy=>J _ _ _ _ _ _ _ _ _ _ (by omega) (by omega) (by omega) hy.2.2.1
 refine Tot.bif (fun _=>?_) fun _=>?_
 · exact Tot.bind (Qc8 (h.re hz.2) _) fun y hy=>Tot.bind (Qc8 (h.re hy.2) _) fun v hv=>Tot.ap (by simp; omega) (J _ _ _ _ _ _ _ _ _ _ (by omega) (by omega) (by simp; omega) hv.2.2.1)
 refine Tot.bif (fun _=>?_) fun _=>?_
 · refine Tot.bif (fun hc=>?_) fun _=>?_
   · have:=of_decide_eq_true hc
     exact Tot.ix (by omega) fun y hy=>J _ _ _ _ _ _ _ _ _ _ (by omega) (by omega) (by rw [Qys]; omega) hz0
   · exact J _ _ _ _ _ _ _ _ _ _ (by omega) (by omega) (by omega) hz0
 refine Tot.bif (fun _=>?_) fun _=>?_
 · refine Tot.bif (fun hc=>?_) fun _=>?_
   · have:=of_decide_eq_true hc
     rw [Q2h (by omega),Qab]
     exact J _ _ _ _ _ _ _ _ _ _ (by simp; omega) (by omega) (by omega) hz0
   · exact J _ _ _ _ _ _ _ _ _ _ (by omega) (by omega) (by omega) hz0
 refine Tot.bif (fun _=>?_) fun _=>?_
 · exact Tot.ix (by omega) fun y hy=>Tot.ap (by simp; omega) (J _ _ _ _ _ _ _ _ _ _ (by omega) (by simp; omega) (by omega) hz0)
 refine Tot.bif (fun _=>?_) fun _=>?_
 · exact J _ _ _ _ _ _ _ _ _ _ (by omega) (by simp) (by omega) hz0
 · exact J _ _ _ _ _ _ _ _ _ _ (by omega) (by omega) (by omega) hz0
theorem Q9d {fu:Nat} {b:List U8} (hb:b.length ≤ 1048576) (hf:2097153 ≤ fu):Tot (Qma fu b) SmR:=by
 unfold Qma
 refine Tot.bind (Jaw hb (by omega)) fun x hx=>Tot.bind (Q26 hx.re' _) fun y hy=>?_
 refine Tot.bif (fun _=>?_) fun _=>?_
 · exact Tot.bind (Jcb hy.re' hf) fun z hz=>Tot.mk hz.1
 · exact Tot.bind (Jbb hy.re' hf) fun z hz=>Tot.mk hz.1
theorem Jf0 (fu:Nat) (b:List U8):Qub fu b = some (decide ((b.length:Int) > 1048576)):=rfl
end Go.Proofs.YtkkfmjpbiimkbaaGreat
/- The units of an order, by spec and by impl. -/
namespace Go.Proofs.YtkkfmjpbiimkbaaGreat
open Go
open Enc (rd ow)
open Arg (argv)
open Ret (retv)
open Wf (wf)
theorem Jcm {σ α β:Type} (l:List α) (L:Nat → σ → Int → Option β) (F:List α → List α → σ → Option β) (I:List α → List α → σ → Prop) (hl:l.length ≤ 1099511627776)
    (hs:∀ n s pre x xs,l = pre ++ x :: xs → ix l (pre.length:Int) = some x → decide ((pre.length:Int) < (l.length:Int)) = true → I pre (x :: xs) s → (∀ s',I (pre ++ [x]) xs s' → L n s' (w64 ((pre.length:Int) + 1)) = F (pre ++ [x]) xs s') → L (n + 1) s (pre.length:Int) = F pre (x :: xs) s)
    (he:∀ n s,decide ((l.length:Int) < (l.length:Int)) = false → I l [] s → L (n + 1) s (l.length:Int) = F l [] s):∀ n s,I [] l s → l.length < n → L n s 0 = F [] l s:=by
 have key:∀ (xs pre:List α) (n:Nat) (s:σ),l = pre ++ xs → I pre xs s → xs.length < n → L n s (pre.length:Int) = F pre xs s:=by
  intro xs
  induction xs with
  | nil =>
   intro pre n s he' hI hn
   obtain ⟨n,rfl⟩:∃ k,n = k + 1:=⟨n - 1,by omega⟩
   simp only [List.append_nil] at he'
   subst he'
   exact he n s (by simp) hI
  | cons x xs ih =>
   intro pre n s he' hI hn
   obtain ⟨n,rfl⟩:∃ k,n = k + 1:=⟨n - 1,by simp at hn; omega⟩
   have hlen:l.length = pre.length + (xs.length + 1):=by rw [he']; simp
   refine hs n s pre x xs he' ?_ (by simp; omega) hI fun s' hI'=>?_
   · rw [Qrh,he']; simp
   · rw [Qw7 _ (by omega)]
     have:=ih (pre ++ [x]) n s' (by simp [he']) hI' (by simp at hn; omega)
     simpa using this
 intro n s hI hn
 simpa using key l [] n s rfl hI hn
theorem Qyf {x:Item} (h:Qwt x = true):1 ≤ x.fCount ∧ x.fCount ≤ 6:=by
 simp only [Qwt,Bool.and_eq_true,Qfu] at h
 omega
theorem Jax {xs:List Item} (h:∀ x ∈ xs,Qwt x = true):0 ≤ Qvx (xs.map (·.fCount)):=Q7o _ _ fun x hx=>by have:=Qyf (h x hx); omega
theorem Jgn {fu:Nat} {r:Request} (h:Sm fu r) (hb:Q2v r = true):Qcl fu r = some (l6M r):=by
 have hfu:=h.fu
 obtain ⟨hi,hs,hl⟩:=Qr1 hb
 have e4:∀ (k:List Int → Int → Option (List Int)) (i:Int) (x:Item),ix r.fItems i = some x → ∀ (m n:Nat) (c:Int) (out:List Int),0 ≤ c → c ≤ x.fCount → (x.fCount - c).toNat = m → x.fCount ≤ 6 → m < n → out.length + m ≤ 100 →
     Qgb fu k r i n out c = k (out ++ List.replicate m i) (w64 (i + 1)):=by
  intro k i x hx m
  induction m with
  | zero =>
   intro n c out h0 h1 h2 h3 h4 h5
   obtain ⟨n,rfl⟩:∃ j,n = j + 1:=⟨n - 1,by omega⟩
   rw [Qgb.eq_2]
   unfold Qlm
   rw [hx,Qab,Qbj (by simp; omega)]
   simp
  | succ m ih =>
   intro n c out h0 h1 h2 h3 h4 h5
   obtain ⟨n,rfl⟩:∃ j,n = j + 1:=⟨n - 1,by omega⟩
   rw [Qgb.eq_2]
   unfold Qlm
   rw [hx,Qab,Qcm (by simp; omega),ap1 (by simp; omega),Qab,Qcj (by omega) (by omega),ih n (c + 1) (out ++ [i]) (by omega) (by omega) (by omega) h3 (by omega) (by simp; omega)]
   rw [List.append_assoc,List.singleton_append,← List.replicate_succ]
 unfold Qcl l6M
 have:=Jcm r.fItems (fun n out i=>Qd7 fu r n out i) (fun pre xs out=>some (out ++ Q5c (pre.length:Int) xs)) (fun pre xs out=>(out.length:Int) + Qvx (xs.map (·.fCount)) ≤ 12 ∧ ∀ x ∈ xs,Qwt x = true) (by omega) ?_ ?_ fu [] ⟨by simpa using hs,hi⟩ (by omega)
 · simpa using this
 · intro n out pre x xs hl' hx hd hI ih
   simp only [Qd7.eq_2]
   unfold Qk5
   have hc:=Qyf (hI.2 x (by simp))
   have hsum:=hI.1
   have hnn:=Jax (fun y hy=>hI.2 y (by simp [hy]):∀ y ∈ xs,Qwt y = true)
   simp only [List.map_cons,Qpa] at hsum
   have e:=e4 (Qd7 fu r n) (pre.length:Int) x hx x.fCount.toNat fu 0 out (by omega) (by omega) (by omega) (by omega) (by omega) (by omega)
   rw [hd,cond_true,e,ih _ ⟨by simp; omega,fun y hy=>hI.2 y (by simp [hy])⟩]
   simp [Q5c]
 · intro n out hd hI
   simp only [Qd7.eq_2]
   unfold Qk5
   simp only [hd,cond_false]
   simp [Q5c]
theorem Jbe {fu:Nat} {r:Request} (h:Sm fu r) (hc:Qhm r = 0):Qcl fu r = some (Qh8 r):=by
 unfold Qh8
 rw [Jgn h (Qf7 hc).1,Qcm (by simp [hc])]
theorem Jfu {fu:Nat} {r:Request} (h:Sm fu r):Qrz fu r = some (Qh8 r):=by
 unfold Qrz Qh8
 rw [Qyw h,Qab]
 by_cases hc:Qhm r = 0
 · rw [Qbj (by simp [hc]),Jgn h (Qf7 hc).1,Qab,Qcm (by simp [hc])]
 · rw [Qcm (by simp [hc]),Qbj (by simp [hc])]
theorem Jg9 (fu:Nat) (c:Int) (h:1 ≤ c ∧ c ≤ 6):Qud fu (IntKind.wrap .u64 1) (IntKind.wrap .u64 c) = some (0,c):=by
 have:c = 1 ∨ c = 2 ∨ c = 3 ∨ c = 4 ∨ c = 5 ∨ c = 6:=by omega
 rcases this with rfl | rfl | rfl | rfl | rfl | rfl <;> rfl
theorem Jfq (m:Nat) (i:Int):Qbs (m + 10) [i] (0,1) = some (List.replicate 1 i):=by kernel_rfl
theorem Jfx (m:Nat) (i:Int):Qbs (m + 10) [i] (0,2) = some (List.replicate 2 i):=by kernel_rfl
theorem Jfk (m:Nat) (i:Int):Qbs (m + 10) [i] (0,3) = some (List.replicate 3 i):=by kernel_rfl
theorem Jgc (m:Nat) (i:Int):Qbs (m + 10) [i] (0,4) = some (List.replicate 4 i):=by kernel_rfl
theorem Jf7 (m:Nat) (i:Int):Qbs (m + 10) [i] (0,5) = some (List.replicate 5 i):=by kernel_rfl
theorem Jgd (m:Nat) (i:Int):Qbs (m + 10) [i] (0,6) = some (List.replicate 6 i):=by kernel_rfl
theorem Jhc {fu:Nat} (hfu:10 ≤ fu) (i c:Int) (h:1 ≤ c ∧ c ≤ 6):Qff fu [i] c = some (List.replicate c.toNat i):=by
 unfold Qff Qf4
 rw [Qbj (by simp; omega)]
 rw [show (([i]:List Int).length:Int) = 1 from rfl,Jg9 fu c h,Qab,Qbj (by simp),Qbj (by simp; omega)]
 obtain ⟨m,rfl⟩:∃ m,fu = m + 10:=⟨fu - 10,by omega⟩
 have:c = 1 ∨ c = 2 ∨ c = 3 ∨ c = 4 ∨ c = 5 ∨ c = 6:=by omega
 rcases this with rfl | rfl | rfl | rfl | rfl | rfl
 · exact Jfq m i
 · exact Jfx m i
 · exact Jfk m i
 · exact Jgc m i
 · exact Jf7 m i
 · exact Jgd m i
theorem Q9a {fu:Nat} {r:Request} (h:Sm fu r):Qkd fu r = some (Qh8 r):=by
 have hfu:=h.fu
 unfold Qkd Qh8
 rw [Qu6 h,Qab]
 by_cases hc:Qhm r = 0
 · obtain ⟨hi,hs,hl⟩:=Qr1 (Qf7 hc).1
   rw [Qbj (by simp [hc]),Qcm (by simp [hc])]
   unfold l6M
   have:=Jcm r.fItems (fun n out i=>Qhj fu r n out i) (fun pre xs out=>some (out ++ Q5c (pre.length:Int) xs)) (fun pre xs out=>(out.length:Int) + Qvx (xs.map (·.fCount)) ≤ 12 ∧ ∀ x ∈ xs,Qwt x = true) (by omega) ?_ ?_ fu [] ⟨by simpa using hs,hi⟩ (by omega)
   · simpa using this
   · intro n out pre x xs hl' hx hd hI ih
     simp only [Qhj.eq_2]
     unfold Qoj
     have hc:=Qyf (hI.2 x (by simp))
     have hsum:=hI.1
     have hnn:=Jax (fun y hy=>hI.2 y (by simp [hy]):∀ y ∈ xs,Qwt y = true)
     simp only [List.map_cons,Qpa] at hsum
     rw [hd,cond_true,hx,Qab,Jhc (by omega) _ _ hc,Qab,ap1 (by simp; omega),Qab,ih _ ⟨by simp; omega,fun y hy=>hI.2 y (by simp [hy])⟩]
     simp [Q5c]
   · intro n out hd hI
     simp only [Qhj.eq_2]
     unfold Qoj
     simp only [hd,cond_false]
     simp [Q5c]
 · rw [Qcm (by simp [hc]),Qbj (by simp [hc])]
end Go.Proofs.YtkkfmjpbiimkbaaGreat
/- Kinds, groups and the units of a group, by spec and by impl. -/
namespace Go.Proofs.YtkkfmjpbiimkbaaGreat
open Go
open Enc (rd ow)
open Arg (argv)
open Ret (retv)
open Wf (wf)
theorem Jbh {fu:Nat} {l:List Int} (hl:l.length ≤ 1048576) (hf:l.length < fu) (x:Int):Qnk fu l x = some (l.contains x):=by
 unfold Qnk
 refine lp l (fun n (_:Unit) i=>Qhn fu l x n i) (fun l _=>some (l.contains x)) (by omega) ?_ ?_ fu () hf
 · intro n s i y ys hy hd ih
   simp only [Qhn.eq_2]
   unfold Qoq
   simp only [hd,cond_true,hy,Qab,ih (),List.contains_cons]
   rw [Je5 y x]
   cases x == y <;> rfl
 · intro n s i hd
   simp only [Qhn.eq_2]
   unfold Qoq
   simp only [hd,cond_false]
   rfl
theorem Jda {fu:Nat} {l:List Int} (hl:l.length ≤ 1048576) (hf:l.length < fu) (x:Int):Qdh fu l x = some (l.contains x):=by
 unfold Qdh Qhz
 have:=Qr9 l (fun n i=>Qcs fu l x n i) (fun y=>x == y) (by omega) (by
  intro n i y hx hd
  simp only [Qcs.eq_2]
  unfold Qfo
  simp only [hd,cond_true,hx,Qab]) (by
  intro n i hd
  simp only [Qcs.eq_2]
  unfold Qfo
  simp only [hd,cond_false]) fu hf
 rw [this,Qab,Qsq _ l 0 (by omega),List.contains_eq_any_beq]
theorem Jc3 {fu:Nat} {p:List Pair} (hp:p.length ≤ 1048576) (hpf:p.length < fu) {g:List Int} (hl:g.length ≤ 1048576) (hf:g.length < fu) (c:Int):Qpb fu p g c = some (g.all (Q1f p c)):=by
 unfold Qpb
 refine lp g (fun n (_:Unit) i=>Qe0 fu p g c n i) (fun l _=>some (l.all (Q1f p c))) (by omega) ?_ ?_ fu () hf
 · intro n s i y ys hy hd ih
   simp only [Qe0.eq_2]
   unfold Qll Qoe
   simp only [hd,cond_true,hy,Qab,ih (),Jdu hp hpf,List.all_cons,Q1f]
   cases Qsv p y c <;> cases Qsv p c y <;> rfl
 · intro n s i hd
   simp only [Qe0.eq_2]
   unfold Qll
   simp only [hd,cond_false]
   rfl
theorem Jf1 {fu:Nat} {r:Request} (h:Sm fu r):Qo7 fu r = some (Qyu r):=by
 have hfu:=h.fu
 have h1:=h.items
 unfold Qo7 Qyu
 rw [Qyw h,Qab]
 by_cases hc:Qhm r = 0
 · rw [show (Qhm r != 0) = false by simp [hc],show (Qhm r == 0) = true by simp [hc],cond_false,cond_true]
   have e27:∀ (k:List Int → Int → Option (List Int)) (out:List Int) (c:Int),Qd8 fu k r out c fu false 0 = bif r.fItems.any (fun x=>x.fClass == c) then (Qad (Qh3 8 out [c]) fun x=>k x (w64 (c + 1))) else k out (w64 (c + 1)):=by
    intro k out c
    refine lp r.fItems (fun n f i=>Qd8 fu k r out c n f i) (fun l f=>bif f || l.any (fun x=>x.fClass == c) then (Qad (Qh3 8 out [c]) fun x=>k x (w64 (c + 1))) else k out (w64 (c + 1))) (by omega) ?_ ?_ fu false (by omega)
    · intro n f i x xs hx hd ih
      simp only [Qd8.eq_2]
      unfold Qk4 Qj1
      simp only [hd,cond_true,hx,Qab,ih,List.any_cons]
      cases f
      · rfl
      · rfl
    · intro n f i hd
      simp only [Qd8.eq_2]
      unfold Qk4 Qj5
      simp only [hd,cond_false,List.any_nil,Bool.or_false]
   have:=Q82 4 (fun n out i=>Qde fu r n out i) (fun xs out=>some (out ++ xs.filter fun c=>r.fItems.any fun x=>x.fClass == c)) (fun xs out=>out.length + xs.length ≤ 4) (by omega) ?_ ?_ 4 fu [] 0 (by omega) (by omega) (by omega) (by simp [Qka])
   · simpa using this
   · intro n out i xs h0 h1 hd hI ih
     simp only [List.length_cons] at hI
     simp only [Qde.eq_2]
     unfold Qly
     simp only [hd,cond_true,e27]
     cases hb:r.fItems.any fun x=>x.fClass == i
     · rw [cond_false,ih out (by omega)]
       simp [hb]
     · rw [cond_true,ap1 (by simp; omega),Qab,ih _ (by simp; omega)]
       simp [hb]
   · intro n out i hd hI
     simp only [Qde.eq_2]
     unfold Qly
     simp only [hd,cond_false]
     simp
 · rw [show (Qhm r != 0) = true by simp [hc],show (Qhm r == 0) = false by simp [hc],cond_false,cond_true]
theorem Q5w {fu:Nat} {l:List Int} (hl:l.length ≤ 1048576):∃ k,Qkb fu l = some k ∧ k.Pairwise (· < ·) ∧ ∀ x,x ∈ k ↔ x ∈ l:=by
 unfold Qkb Qen Qc4 Qjx
 have hp:=List.mergeSort_perm l (fun x y=>decide (x ≤ y))
 have hs:=Qry l
 rw [ap1 (by simp; omega),Qab,Qab,List.nil_append]
 unfold Q0z
 rw [if_pos (by omega),Qab]
 unfold Jer
 rw [if_pos (by rw [hp.length_eq]; omega),Qab]
 obtain ⟨h1,h2⟩:=Qzq _ hs
 exact ⟨_,rfl,h1,fun x=>(h2 x).trans hp.mem_iff⟩
theorem Qzs {fu:Nat} {l:List Int} (hl:l.length ≤ 1048576) (hs:l.Pairwise (· < ·)):Qkb fu l = some l:=by
 obtain ⟨k,h1,h2,h3⟩:=Q5w (fu:=fu) hl
 rw [h1,Q7n h2 hs h3]
theorem Jey {fu:Nat} {r:Request} (h:Sm fu r):Qpf fu r = some (Qyu r):=by
 have hfu:=h.fu
 have h1:=h.items
 unfold Qpf
 rw [Qu6 h,Qab]
 by_cases hc:Qhm r = 0
 · rw [show (Qhm r == 0) = true by simp [hc],Bool.not_true,cond_false]
   have:=lpI r.fItems (fun n out i=>Qga fu r n out i) (fun xs out=>Qad (Qkb fu (out ++ xs.map (·.fClass))) fun x=>some x) (fun xs out=>out.length + xs.length ≤ 1048576) (by omega) ?_ ?_ fu [] (by simpa using h1) (by omega)
   · rw [List.nil_append] at this
     refine this.trans ?_
     obtain ⟨k,e1,e2,e3⟩:=Q5w (fu:=fu) (l:=r.fItems.map (·.fClass)) (by simpa using h1)
     rw [e1,Qab]
     congr 1
     refine Q7n e2 (Qs7 r) fun x=>?_
     rw [e3]
     unfold Qyu
     rw [show (Qhm r == 0) = true by simp [hc],cond_true,List.mem_filter,Qk2,List.any_eq_true,List.mem_map]
     constructor
     · rintro ⟨y,hy,rfl⟩
       have:=(Qr1 (Qf7 hc).1).1 y hy
       simp only [Qwt,Bool.and_eq_true,Qfu] at this
       exact ⟨by omega,y,hy,by simp⟩
     · rintro ⟨_,y,hy,e⟩
       exact ⟨y,hy,by simpa using e⟩
   · intro n out i x xs hx hd hI ih
     simp only [List.length_cons] at hI
     simp only [Qga.eq_2]
     unfold Qk3
     simp only [hd,cond_true,hx,Qab]
     rw [ap1 (by simp; omega),Qab,ih _ (by simp; omega)]
     simp
   · intro n out i hd hI
     simp only [Qga.eq_2]
     unfold Qk3
     simp only [hd,cond_false]
     simp
 · rw [show (Qhm r == 0) = false by simp [hc],Bool.not_false,cond_true]
   unfold Qyu
   rw [show (Qhm r == 0) = false by simp [hc],cond_false]
theorem Q18 {α:Type} (g:α → Bool) (x:α):∀ (l:List α),Qvv g (l ++ [x]) = match Qvv g l with | some i=>some i | none=>bif g x then some l.length else none
 | []=>by simp [Qvv]
 | y :: ys=>by
  simp only [List.cons_append,Qvv]
  cases g y
  · simp only [cond_false]
    rw [Q18 g x ys]
    cases Qvv g ys <;> simp
    cases g x <;> simp
  · rfl
def atB {α:Type} (g:α → Bool) (l:List α) (i:Int):Bool:=match ix l i with | some x=>g x | none=>false
def Ja0 {α:Type} (g:α → Bool) (l:List α) (a i:Int):Int:=bif atB g l i then i else a
theorem Qxy {α:Type} (g:α → Bool) (l:List α):∀ (m:Nat) (a:Int),m ≤ l.length → (Quk m).foldl (Ja0 g l) a = match Qvv g (l.take m) with | some i=>(i:Int) | none=>a
 | 0,a,_=>by simp [Quk,Qvv]
 | m + 1,a,h=>by
  simp only [Quk,List.foldl_cons]
  rw [Qxy g l m _ (by omega),List.take_succ_eq_append_getElem (by omega),Q18,List.length_take,Nat.min_eq_left (by omega)]
  unfold Ja0 atB
  rw [Qz2 (by omega)]
  cases Qvv g (l.take m) with
  | some i=>rfl
  | none =>
   simp only
   cases g l[m] <;> rfl
theorem Q0f {α:Type} (g:α → Bool):∀ (l:List α) (i:Int),Qwl g l i = match Qvv g l with | some j=>i + j | none=>-1
 | [],i=>rfl
 | x :: xs,i=>by
  simp only [Qwl,Qvv]
  cases g x
  · simp only [cond_false]
    rw [Q0f g xs (i + 1)]
    cases Qvv g xs with
    | none=>rfl
    | some j =>
     show i + 1 + (j:Int) = i + ((j + 1:Nat):Int)
     omega
  · simp
theorem Jar {p:List Pair} {out:List (List Int)} {c:Int} {n:Nat} (h:okG n out) (hn:n ≤ 1048576) {β:Type} (k:List (List Int) → Option β) (a:Int) (ha:a = match Qvv (fun g=>g.all (Q1f p c)) out with | some i=>(i:Int) | none=>-1) :
    (bif (decide (a < 0)) then Qad (Qh3 24 out [([c]:List Int)]) fun x=>k x else Qad (ix out a) fun x=>Qad (Qh3 8 x (([c]:List Int))) fun y=>Qad (ix out a) fun z=>k (Qjp out a y)) = k (Q4f p out c):=by
 obtain ⟨h1,h2⟩:=h
 unfold Q4f
 cases hf:Qvv (fun g=>g.all (Q1f p c)) out with
 | none =>
  rw [hf] at ha
  simp only at ha
  subst ha
  rw [Qcm (by simp),ap1 (by simp; omega),Qab]
 | some i =>
  rw [hf] at ha
  simp only at ha
  subst ha
  obtain ⟨x,hx,_⟩:=Qu7 hf
  have:=h2 x (List.mem_of_getElem? hx)
  rw [Qbj (by simp),Qrh,hx,Qab,ap1 (by simp; omega),Qab,Qab]
  simp [Qjp,hx]
theorem Jek {fu:Nat} {p:List Pair} (hp:p.length ≤ 1048576) (hfu:2097153 ≤ fu) {l:List Int} (hl:l.length ≤ 1048576):Qrc fu p l = some (((Qka 0 4).filter l.contains).foldl (Q4f p) []):=by
 unfold Qrc
 have e27:∀ (k:List (List Int) → Int → Option (List (List Int))) (out:List (List Int)) (c:Int),okG 4 out → Qeo fu k p out c fu (-1) (w64 ((out.length:Int) - 1)) = k (Q4f p out c) (w64 (c + 1)):=by
  intro k out c ho
  obtain ⟨R,hR⟩:∃ R:Int → Option (List (List Int)),R = fun a=>bif (decide (a < 0)) then Qad (Qh3 24 out [([c]:List Int)]) fun x=>k x (w64 (c + 1)) else Qad (ix out a) fun x=>Qad (Qh3 8 x (([c]:List Int))) fun y=>Qad (ix out a) fun z=>k (Qjp out a y) (w64 (c + 1)):=⟨_,rfl⟩
  have:=lpD out.length (fun n a i=>Qeo fu k p out c n a i) (fun xs a=>R (xs.foldl (Ja0 (fun g=>g.all (Q1f p c)) out) a)) (by have:=ho.1; omega) ?_ ?_ fu (-1) (by have:=ho.1; omega)
  · rw [this,hR]
    refine Jar (p:=p) ho (by omega) (fun x=>k x (w64 (c + 1))) _ ?_
    rw [Qxy (fun g=>g.all (Q1f p c)) out out.length (-1) (Nat.le_refl _),List.take_length]
  · intro n a i xs h0 h1 hd ih
    simp only [Qeo.eq_2]
    unfold Qm3 Ql1
    obtain ⟨j,rfl⟩:∃ j:Nat,i = j:=⟨i.toNat,by omega⟩
    have hj:j < out.length:=by omega
    have hg:=ho.2 _ (List.getElem_mem hj)
    simp only [hd,cond_true,Qz2 hj,Qab,Jc3 hp (by omega) (show out[j].length ≤ 1048576 by omega) (show out[j].length < fu by omega),ih,List.foldl_cons]
    have e:Ja0 (fun g=>g.all (Q1f p c)) out a (j:Int) = bif out[j].all (Q1f p c) then (j:Int) else a:=by unfold Ja0 atB; rw [Qz2 hj]
    rw [e]
    cases out[j].all (Q1f p c) <;> rfl
  · intro n a i hd
    simp only [Qeo.eq_2]
    unfold Qm3 Qgw
    simp only [hd,cond_false,List.foldl_nil,hR]
 have:=Q82 4 (fun n out i=>Qd3 fu p l n out i) (fun xs out=>some ((xs.filter l.contains).foldl (Q4f p) out)) (fun xs out=>∃ m,m + xs.length ≤ 4 ∧ okG m out) (by omega) ?_ ?_ 4 fu [] 0 (by omega) (by omega) (by omega) ⟨0,by simp [Qka],by simp,by simp⟩
 · exact this
 · intro n out i xs h0 h1 hd hI ih
   obtain ⟨m,hm,ho⟩:=hI
   simp only [List.length_cons] at hm
   simp only [Qd3.eq_2]
   unfold Qm0 Qgw
   simp only [hd,cond_true,Jbh hl (show l.length < fu by omega),Qab]
   cases hb:l.contains i
   · rw [Bool.not_false,cond_true,ih out ⟨m,by omega,ho⟩,List.filter_cons_of_neg (by rw [hb]; simp)]
   · rw [Bool.not_true,cond_false,e27 _ out i ⟨by have:=ho.1; omega,fun g hg=>by have:=ho.2 g hg; omega⟩,ih _ ⟨m + 1,by omega,Q27 i ho⟩,List.filter_cons_of_pos hb,List.foldl_cons]
 · intro n out i hd hI
   simp only [Qd3.eq_2]
   unfold Qm0
   simp only [hd,cond_false]
   simp
theorem Q5o (r:Request):(Qka 0 4).filter (Qyu r).contains = Qyu r :=
 Q7n ((Qu3 0 4).filter _) (Qs7 r) fun x=>by
  rw [List.mem_filter,Qk2]
  constructor
  · rintro ⟨_,h⟩; simpa using h
  · intro h; have:=Q39 h; exact ⟨by omega,by simpa using h⟩
theorem Q9o {fu:Nat} {r:Request} (h:Sm fu r):Qgs fu r = some (Qna r):=by
 unfold Qgs Qna
 rw [Jf1 h,Qab,Jek h.pairs h.fu (by have:=Q1q r; omega),Qab,Q5o]
theorem Jfd {fu:Nat} {p:List Pair} (hp:p.length ≤ 1048576) (hpf:p.length < fu) (a b:Int):Qqp fu p a b = some (Q1f p a b):=by
 unfold Qqp Q1f
 simp only [Jb9 hp hpf,Qab]
 cases Qsv p a b <;> rfl
theorem Q4r {fu:Nat} {l:List Int} (f:Int → Option Bool) (g:Int → Bool) (hg:∀ x ∈ l,f x = some (g x)) (hl:l.length ≤ 1048576) (hf:l.length < fu):Qc6 fu l f = some (Qwl g l 0):=by
 unfold Qc6
 refine Qr9 l (fun n i=>Qb1 fu l f n i) g (by omega) ?_ ?_ fu hf
 · intro n i x hx hd
   simp only [Qb1.eq_2]
   unfold Qd9
   simp only [hd,cond_true,hx,Qab,hg x (Qe2 hx)]
 · intro n i hd
   simp only [Qb1.eq_2]
   unfold Qd9
   simp only [hd,cond_false]
theorem Q4c {fu:Nat} {l:List Int} (f:Int → Option Bool) (g:Int → Bool) (hg:∀ x ∈ l,f x = some (g x)) (hl:l.length ≤ 1048576) (hf:l.length < fu):Qcp fu l f = some (l.any g):=by
 unfold Qcp
 rw [Q4r f g hg hl hf,Qab,Qsq g l 0 (by omega)]
theorem Q5z {fu:Nat} {l:List (List Int)} (f:List Int → Option Bool) (g:List Int → Bool) (hg:∀ x ∈ l,f x = some (g x)) (hl:l.length ≤ 1048576) (hf:l.length < fu):Qdy fu l f = some (Qwl g l 0):=by
 unfold Qdy
 refine Qr9 l (fun n i=>Qby fu l f n i) g (by omega) ?_ ?_ fu hf
 · intro n i x hx hd
   simp only [Qby.eq_2]
   unfold Qdw
   simp only [hd,cond_true,hx,Qab,hg x (Qe2 hx)]
 · intro n i hd
   simp only [Qby.eq_2]
   unfold Qdw
   simp only [hd,cond_false]
theorem Jdx {fu:Nat} {p:List Pair} (hp:p.length ≤ 1048576) (hfu:2097153 ≤ fu) {l:List Int} (hl:l.length ≤ 4) (hs:l.Pairwise (· < ·)) (hm:∀ c ∈ l,0 ≤ c ∧ c < 4):Qqs fu p l = some (l.foldl (Q4f p) []):=by
 unfold Qqs
 rw [Qzs (by omega) hs,Qab]
 have:=lpI l (fun n out i=>Qer fu p l n out i) (fun xs out=>some (xs.foldl (Q4f p) out)) (fun xs out=>(∃ m,m + xs.length ≤ 4 ∧ okG m out) ∧ ∀ c ∈ xs,0 ≤ c ∧ c < 4) (by omega) ?_ ?_ fu [] ⟨⟨0,by simpa using hl,by simp,by simp⟩,hm⟩ (by omega)
 · exact this
 · intro n out i c xs hx hd hI ih
   obtain ⟨⟨m,hm,ho⟩,hc⟩:=hI
   simp only [List.length_cons] at hm
   have hc0:=hc c (by simp)
   simp only [Qer.eq_2]
   unfold Qmw Qh6
   simp only [hd,cond_true,hx,Qab,Q2q]
   rw [show inb c 0 3 = true by simp; omega,Bool.not_true,cond_false]
   rw [Q5z (fun y=>Qn3 fu y p c) (fun g=>g.all (Q1f p c)) (fun g hg=>by
    have hgl:=ho.2 g hg
    unfold Qn3
    rw [Q4c (fun y=>Qjn fu y p c) (fun x=>!Q1f p c x) (fun x _=>by
     unfold Qjn
     rw [Jfd hp (by omega),Qab]) (by omega) (by omega),Qab]
    simp [List.any_eq_not_all_not]) (by have:=ho.1; omega) (by have:=ho.1; omega),Qab]
   rw [Jar (p:=p) ho (by omega) (fun x=>Qer fu p l n x (w64 (i + 1))) (Qwl (fun g=>g.all (Q1f p c)) out 0) (by
    rw [Q0f]
    cases Qvv (fun g=>g.all (Q1f p c)) out <;> simp)]
   rw [ih _ ⟨⟨m + 1,by omega,Q27 c ho⟩,fun y hy=>hc y (by simp [hy])⟩]
   rfl
 · intro n out i hd hI
   simp only [Qer.eq_2]
   unfold Qmw
   simp only [hd,cond_false]
   rfl
theorem Jfg {fu:Nat} {r:Request} (h:Sm fu r):Qnr fu r = some (Qna r):=by
 unfold Qnr
 rw [Qu6 h,Qab]
 by_cases hc:Qhm r = 0
 · rw [show (Qhm r == 0) = true by simp [hc],Bool.not_true,cond_false,Jey h,Qab,Jdx h.pairs h.fu (Q1q r) (Qs7 r) (fun c hc=>Q39 hc),Qab]
   rfl
 · rw [show (Qhm r == 0) = false by simp [hc],Bool.not_false,cond_true]
   unfold Qna Qyu
   rw [show (Qhm r == 0) = false by simp [hc],cond_false]
   rfl
theorem Ja5 (r:Request):w64 (((Qna r).length:Int) - 1) = ((Qna r).length:Int) - 1:=by
 have:=(Qtr r).1
 exact Qcj (by omega) (by omega)
end Go.Proofs.YtkkfmjpbiimkbaaGreat
