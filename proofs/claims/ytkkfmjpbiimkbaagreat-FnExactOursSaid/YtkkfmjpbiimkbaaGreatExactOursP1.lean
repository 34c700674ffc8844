import Derived.Test.YtkkfmjpbiimkbaaGreatExactOursD
import Derived.Test.YtkkfmjpbiimkbaaGreatExactCountInBP2
set_option linter.unusedSimpArgs false
set_option linter.unusedVariables false
/- Lists of numbers in the laws: equality. -/
namespace Go.Proofs.YtkkfmjpbiimkbaaGreat
open Go
open Enc (rd ow)
open Arg (argv)
open Ret (retv)
open Wf (wf)
theorem eqIntS (fu:Nat) (l:List Int) (h:l.length ≤ 1048576) (hf:l.length < fu):d_laws_eqIntS fu l l = some true:=by
 unfold d_laws_eqIntS
 rw [bif_false (by simp)]
 refine eqS_loop l (fun n i=>d_laws_eqIntS_L1 fu l l n i) h ?_ ?_ fu hf
 · intro n i x hx hd
   simp only [d_laws_eqIntS_L1.eq_2]
   unfold d_laws_eqIntS_L1_B
   simp [hd,hx]
 · intro n i hd
   simp only [d_laws_eqIntS_L1.eq_2]
   unfold d_laws_eqIntS_L1_B
   simp only [hd,cond_false]
end Go.Proofs.YtkkfmjpbiimkbaaGreat
/- Ours of spec and of impl. -/
namespace Go.Proofs.YtkkfmjpbiimkbaaGreat
open Go
open Enc (rd ow)
open Arg (argv)
open Ret (retv)
open Wf (wf)
def ourM (r:Request):List (List Int):=(crtL r).map (·.fUnits)
theorem i_ours {fu:Nat} {r:Request} (h:Sm fu r):d_impl_Ours fu r = some (ourM r):=by
 have hfu:=h.fu
 have hl:=crtL_len r
 unfold d_impl_Ours ourM
 rw [i_crt h,ob_some]
 generalize crtL r = L at hl ⊢
 have:=lpI L (fun n s i=>d_impl_Ours_L1 fu L n s i) (fun xs s=>some (s ++ xs.map (·.fUnits))) (fun xs s=>s.length + xs.length ≤ 48) (by omega) ?_ ?_ fu [] (by simp; omega) (by omega)
 · simpa using this
 · intro n s i x xs hx hd hI ih
   simp only [List.length_cons] at hI
   simp only [d_impl_Ours_L1.eq_2]
   unfold d_impl_Ours_L1_B
   rw [hd,cond_true,hx,ob_some,ap1 (by simp; omega),ob_some,ih _ (by simp; omega)]
   simp
 · intro n s i hd _
   simp only [d_impl_Ours_L1.eq_2]
   unfold d_impl_Ours_L1_B
   rw [hd,cond_false]; simp
theorem s_ours {fu:Nat} {r:Request} (h:Sm fu r):d_spec_Ours fu r = some (ourM r):=by
 have hfu:=h.fu
 have hl:=crtL_len r
 have hu:=fun c=>crt_units (r:=r) (c:=c)
 unfold d_spec_Ours ourM
 rw [s_crt h,ob_some]
 generalize crtL r = L at hl hu ⊢
 have:=lpI L (fun n s i=>d_spec_Ours_L1 fu L n s i) (fun xs s=>some (s ++ xs.map (·.fUnits))) (fun xs s=>s.length + xs.length ≤ 48 ∧ ∀ c ∈ xs,c.fUnits.length ≤ 12) (by omega) ?_ ?_ fu [] ⟨by simp; omega,hu⟩ (by omega)
 · simpa using this
 · intro n s i x xs hx hd hI ih
   obtain ⟨h1,h2⟩:=hI
   simp only [List.length_cons] at h1
   have:=h2 x (by simp)
   simp only [d_spec_Ours_L1.eq_2]
   unfold d_spec_Ours_L1_B
   rw [hd,cond_true,hx,ob_some,ap1 (by simp; omega),ob_some,ap1 (by simp; omega),ob_some,ih _ ⟨by simp; omega,fun c hc=>h2 c (by simp [hc])⟩]
   simp
 · intro n s i hd _
   simp only [d_spec_Ours_L1.eq_2]
   unfold d_spec_Ours_L1_B
   rw [hd,cond_false]; simp
theorem our_ok (r:Request):(ourM r).length ≤ 48 ∧ ∀ l ∈ ourM r,l.length ≤ 12:=by
 refine ⟨by simpa [ourM] using crtL_len r,fun l hl=>?_⟩
 obtain ⟨c,hc,rfl⟩:=List.mem_map.1 hl
 exact crt_units hc
end Go.Proofs.YtkkfmjpbiimkbaaGreat
/- What is marked: orders, lists of numbers, lists of lists. -/
namespace Go.Proofs.YtkkfmjpbiimkbaaGreat
open Go
open Enc (rd ow)
open Arg (argv)
open Ret (retv)
open Wf (wf)
theorem ix_setx_eq {α:Type} (xs:List α) (n:Int) (y:α):ix (setx xs n y) n = (ix xs n).map fun _=>y:=by
 unfold ix setx
 split
 · by_cases h:n.toNat < xs.length
   · simp [h]
   · rw [List.getElem?_eq_none (by simp; omega),List.getElem?_eq_none (by omega)]; rfl
 · rfl
theorem setx_len {α:Type} (xs:List α) (n:Int) (y:α):(setx xs n y).length = xs.length:=by simp [setx]
theorem mark_loop {α:Type} (c:Nat) (hc:c ≤ 10) (L:Nat → List α → Int → Int → Option (Int × List α))
    (hs:∀ n x kv (i:Int) y,ix x i = some y → decide (i < (x.length:Int)) = true → 0 ≤ kv → kv ≤ 1099511627776 → ∃ x':List α,x'.length = x.length ∧ L (n + 1) x kv i = L n x' (kv + c) (w64 (i + 1)))
    (he:∀ n x kv (i:Int),decide (i < (x.length:Int)) = false → L (n + 1) x kv i = some (kv,x)) (l:List α) (kv:Int) (n:Nat) (hl:l.length ≤ 1048576) (h0:0 ≤ kv) (h1:kv ≤ 68719476736) (hn:l.length < n) :
    ∃ x',L n l kv 0 = some (kv + c * l.length,x'):=by
 have key:∀ (m i n:Nat) (x:List α) (kv:Int),x.length = l.length → l.length - i = m → i ≤ l.length → m < n → 0 ≤ kv → kv + c * m ≤ 1099511627776 → ∃ x',L n x kv (i:Int) = some (kv + c * m,x'):=by
  intro m
  induction m with
  | zero =>
   intro i n x kv hx hm hi hn h0 h1
   obtain ⟨n,rfl⟩:∃ k,n = k + 1:=⟨n - 1,by omega⟩
   exact ⟨x,by rw [he n x kv i (by simp; omega)]; simp⟩
  | succ m ih =>
   intro i n x kv hx hm hi hn h0 h1
   obtain ⟨n,rfl⟩:∃ k,n = k + 1:=⟨n - 1,by omega⟩
   have hlt:i < x.length:=by omega
   have e:(c:Int) * ((m + 1:Nat):Int) = c * m + c:=by rw [show ((m + 1:Nat):Int) = (m:Int) + 1 by omega,Int.mul_add]; omega
   have hcm:0 ≤ (c:Int) * m:=Int.mul_nonneg (by omega) (by omega)
   obtain ⟨x',hx',h⟩:=hs n x kv i x[i] (ix_i hlt) (by simpa using hlt) h0 (by omega)
   rw [h,w64_s i (by omega)]
   obtain ⟨z,hz⟩:=ih (i + 1) n x' (kv + c) (by omega) (by omega) (by omega) (by omega) (by omega) (by omega)
   exact ⟨z,by rw [hz,e]; congr 2; omega⟩
 have hb:(c:Int) * (l.length:Int) ≤ 10 * 1048576:=Int.mul_le_mul (by omega) (by omega) (by omega) (by omega)
 exact key l.length 0 n l kv rfl (by omega) (by omega) hn h0 (by omega)
theorem markPairS (fu:Nat) (l:List Pair) (kv:Int) (hl:l.length ≤ 1048576) (h0:0 ≤ kv) (h1:kv ≤ 68719476736) (hn:l.length < fu):∃ x',d_laws_markPairS fu l kv = some (kv + 2 * l.length,x'):=by
 refine mark_loop 2 (by omega) (fun n x kv i=>d_laws_markPairS_L1 fu n x kv i) ?_ ?_ l kv fu hl h0 h1 hn
 · intro n x kv i y hy hd h0 h1
   have e1:w64 (kv + 1) = kv + 1:=w64_id (by omega) (by omega)
   have e2:w64 (kv + 1 + 1) = kv + 1 + 1:=w64_id (by omega) (by omega)
   have e':kv + 1 + 1 = kv + 2:=by omega
   refine ⟨?_,?_,?_⟩
   rotate_left 2
   · simp only [d_laws_markPairS_L1.eq_2]
     unfold d_laws_markPairS_L1_B
     simp only [hd,cond_true,hy,ob_some,ix_setx_eq,Option.map_some,e1,e2]
     rw [e']
     rfl
   · simp [setx_len]
 · intro n x kv i hd
   simp only [d_laws_markPairS_L1.eq_2]
   unfold d_laws_markPairS_L1_B
   simp only [hd,cond_false]
theorem markTypeS (fu:Nat) (l:List Typ) (kv:Int) (hl:l.length ≤ 1048576) (h0:0 ≤ kv) (h1:kv ≤ 68719476736) (hn:l.length < fu):∃ x',d_laws_markTypeS fu l kv = some (kv + 7 * l.length,x'):=by
 refine mark_loop 7 (by omega) (fun n x kv i=>d_laws_markTypeS_L1 fu n x kv i) ?_ ?_ l kv fu hl h0 h1 hn
 · intro n x kv i y hy hd h0 h1
   have e1:w64 (kv + 1) = kv + 1:=w64_id (by omega) (by omega)
   have e2:w64 (kv + 1 + 1) = kv + 1 + 1:=w64_id (by omega) (by omega)
   have e3:w64 (kv + 1 + 1 + 1) = kv + 1 + 1 + 1:=w64_id (by omega) (by omega)
   have e4:w64 (kv + 1 + 1 + 1 + 1) = kv + 1 + 1 + 1 + 1:=w64_id (by omega) (by omega)
   have e5:w64 (kv + 1 + 1 + 1 + 1 + 1) = kv + 1 + 1 + 1 + 1 + 1:=w64_id (by omega) (by omega)
   have e6:w64 (kv + 1 + 1 + 1 + 1 + 1 + 1) = kv + 1 + 1 + 1 + 1 + 1 + 1:=w64_id (by omega) (by omega)
   have e7:w64 (kv + 1 + 1 + 1 + 1 + 1 + 1 + 1) = kv + 1 + 1 + 1 + 1 + 1 + 1 + 1:=w64_id (by omega) (by omega)
   have e':kv + 1 + 1 + 1 + 1 + 1 + 1 + 1 = kv + 7:=by omega
   refine ⟨?_,?_,?_⟩
   rotate_left 2
   · simp only [d_laws_markTypeS_L1.eq_2]
     unfold d_laws_markTypeS_L1_B
     simp only [hd,cond_true,hy,ob_some,ix_setx_eq,Option.map_some,e1,e2,e3,e4,e5,e6,e7]
     rw [e']
     rfl
   · simp [setx_len]
 · intro n x kv i hd
   simp only [d_laws_markTypeS_L1.eq_2]
   unfold d_laws_markTypeS_L1_B
   simp only [hd,cond_false]
theorem markItemS (fu:Nat) (l:List Item) (kv:Int) (hl:l.length ≤ 1048576) (h0:0 ≤ kv) (h1:kv ≤ 68719476736) (hn:l.length < fu):∃ x',d_laws_markItemS fu l kv = some (kv + 7 * l.length,x'):=by
 refine mark_loop 7 (by omega) (fun n x kv i=>d_laws_markItemS_L1 fu n x kv i) ?_ ?_ l kv fu hl h0 h1 hn
 · intro n x kv i y hy hd h0 h1
   have e1:w64 (kv + 1) = kv + 1:=w64_id (by omega) (by omega)
   have e2:w64 (kv + 1 + 1) = kv + 1 + 1:=w64_id (by omega) (by omega)
   have e3:w64 (kv + 1 + 1 + 1) = kv + 1 + 1 + 1:=w64_id (by omega) (by omega)
   have e4:w64 (kv + 1 + 1 + 1 + 1) = kv + 1 + 1 + 1 + 1:=w64_id (by omega) (by omega)
   have e5:w64 (kv + 1 + 1 + 1 + 1 + 1) = kv + 1 + 1 + 1 + 1 + 1:=w64_id (by omega) (by omega)
   have e6:w64 (kv + 1 + 1 + 1 + 1 + 1 + 1) = kv + 1 + 1 + 1 + 1 + 1 + 1:=w64_id (by omega) (by omega)
   have e7:w64 (kv + 1 + 1 + 1 + 1 + 1 + 1 + 1) = kv + 1 + 1 + 1 + 1 + 1 + 1 + 1:=w64_id (by omega) (by omega)
   have e':kv + 1 + 1 + 1 + 1 + 1 + 1 + 1 = kv + 7:=by omega
   refine ⟨?_,?_,?_⟩
   rotate_left 2
   · simp only [d_laws_markItemS_L1.eq_2]
     unfold d_laws_markItemS_L1_B
     simp only [hd,cond_true,hy,ob_some,ix_setx_eq,Option.map_some,e1,e2,e3,e4,e5,e6,e7]
     rw [e']
     rfl
   · simp [setx_len]
 · intro n x kv i hd
   simp only [d_laws_markItemS_L1.eq_2]
   unfold d_laws_markItemS_L1_B
   simp only [hd,cond_false]
theorem markReq {fu:Nat} {r:Request} (h:Sm fu r) (kv:Int) (h0:0 ≤ kv) (h1:kv ≤ 1073741824):∃ k x',d_laws_markRequest fu r kv = some (k,x') ∧ 0 ≤ k ∧ k ≤ kv + 16777216:=by
 have hfu:=h.fu
 have a1:=h.items
 have a2:=h.types
 have a3:=h.pairs
 unfold d_laws_markRequest
 obtain ⟨x1,e1⟩:=markPairS fu r.fPairs kv a3 h0 (by omega) (by omega)
 rw [e1,ob_some]
 obtain ⟨x2,e2⟩:=markTypeS fu r.fTypes (kv + 2 * r.fPairs.length) a2 (by omega) (by omega) (by omega)
 rw [e2,ob_some]
 obtain ⟨x3,e3⟩:=markItemS fu r.fItems (kv + 2 * r.fPairs.length + 7 * r.fTypes.length) a1 (by omega) (by omega) (by omega)
 rw [e3,ob_some]
 exact ⟨_,_,rfl,by omega,by omega⟩
end Go.Proofs.YtkkfmjpbiimkbaaGreat
/- What is marked: lists of numbers. -/
namespace Go.Proofs.YtkkfmjpbiimkbaaGreat
open Go
open Enc (rd ow)
open Arg (argv)
open Ret (retv)
open Wf (wf)
theorem markIntS (fu:Nat) (l:List Int) (kv:Int) (hl:l.length ≤ 1048576) (h0:0 ≤ kv) (h1:kv ≤ 68719476736) (hn:l.length < fu):d_laws_markIntS fu l kv = some (kv + l.length,ints kv l.length):=by
 unfold d_laws_markIntS
 have key:∀ (xs pre:List Int) (n:Nat) (k:Int),pre.length + xs.length = l.length → xs.length < n → 0 ≤ k → k + xs.length ≤ 1099511627776 →
     d_laws_markIntS_L1 fu n (pre ++ xs) k (pre.length:Int) = some (k + xs.length,pre ++ ints k xs.length):=by
  intro xs
  induction xs with
  | nil =>
   intro pre n k h hn h0 h1
   obtain ⟨n,rfl⟩:∃ j,n = j + 1:=⟨n - 1,by omega⟩
   rw [d_laws_markIntS_L1.eq_2]
   unfold d_laws_markIntS_L1_B
   rw [bif_false (by simp)]
   simp [ints]
  | cons x xs ih =>
   intro pre n k h hn h0 h1
   obtain ⟨n,rfl⟩:∃ j,n = j + 1:=⟨n - 1,by simp at hn; omega⟩
   simp only [List.length_cons] at h h1 hn
   rw [d_laws_markIntS_L1.eq_2]
   unfold d_laws_markIntS_L1_B
   have e:ix (pre ++ x :: xs) (pre.length:Int) = some x:=by rw [ix_nat]; simp
   rw [bif_true (by simp; omega),e,ob_some,w64_id (n:=k + 1) (by omega) (by omega),w64_s _ (by omega)]
   have e2:setx (pre ++ x :: xs) (pre.length:Int) k = (pre ++ [k]) ++ xs:=by simp [setx]
   have:=ih (pre ++ [k]) n (k + 1) (by simp; omega) (by omega) (by omega) (by omega)
   simp only [List.length_append,List.length_singleton] at this
   rw [e2,this]
   simp only [List.length_cons,ints,List.append_assoc,List.singleton_append]
   congr 2
   omega
 have:=key l [] fu kv (by simp) hn h0 (by omega)
 simpa using this
end Go.Proofs.YtkkfmjpbiimkbaaGreat
/- What is held: lists of numbers. -/
namespace Go.Proofs.YtkkfmjpbiimkbaaGreat
open Go
open Enc (rd ow)
open Arg (argv)
open Ret (retv)
open Wf (wf)
theorem ints_get:∀ (m:Nat) (a:Int) (i:Nat),i < m → (ints a m)[i]? = some (a + i)
 | 0,_,_,h=>by omega
 | m + 1,a,0,_=>by simp [ints]
 | m + 1,a,i + 1,h=>by
  simp only [ints,List.getElem?_cons_succ]
  rw [ints_get m (a + 1) i (by omega)]
  congr 1
  omega
theorem heldIntS (fu:Nat) (m:Nat) (kv:Int) (hl:m ≤ 1048576) (h0:0 ≤ kv) (h1:kv ≤ 68719476736) (hn:m < fu):d_laws_heldIntS fu (ints kv m) kv = some (kv + m):=by
 unfold d_laws_heldIntS
 have key:∀ (j i n:Nat),m - i = j → i ≤ m → j < n → d_laws_heldIntS_L1 fu (ints kv m) n (kv + i) (i:Int) = some (kv + m):=by
  intro j
  induction j with
  | zero =>
   intro i n hj hi hn
   obtain ⟨n,rfl⟩:∃ j,n = j + 1:=⟨n - 1,by omega⟩
   rw [d_laws_heldIntS_L1.eq_2]
   unfold d_laws_heldIntS_L1_B
   rw [bif_false (by rw [ints_len]; simp; omega)]
   congr 1
   omega
  | succ j ih =>
   intro i n hj hi hn
   obtain ⟨n,rfl⟩:∃ j,n = j + 1:=⟨n - 1,by omega⟩
   rw [d_laws_heldIntS_L1.eq_2]
   unfold d_laws_heldIntS_L1_B
   rw [bif_true (by rw [ints_len]; simp; omega),ix_nat,ints_get m kv i (by omega),ob_some,bif_false (by simp),w64_id (by omega) (by omega),w64_s _ (by omega)]
   have:=ih (i + 1) n (by omega) (by omega) (by omega)
   rw [← this]
   congr 1
   omega
 have:=key m 0 fu (by omega) (by omega) hn
 simpa using this
end Go.Proofs.YtkkfmjpbiimkbaaGreat
/- Lists of lists of numbers in the laws: equality. -/
namespace Go.Proofs.YtkkfmjpbiimkbaaGreat
open Go
open Enc (rd ow)
open Arg (argv)
open Ret (retv)
open Wf (wf)
theorem eqIntSS (fu:Nat) (l:List (List Int)) (h:l.length ≤ 1048576) (hm:∀ x ∈ l,x.length ≤ 1048576) (hf:1048577 ≤ fu):d_laws_eqIntSS fu l l = some true:=by
 unfold d_laws_eqIntSS
 rw [bif_false (by simp)]
 refine eqS_loop l (fun n i=>d_laws_eqIntSS_L1 fu l l n i) h ?_ ?_ fu (by omega)
 · intro n i x hx hd
   have:=hm x (List.mem_of_getElem? (ix_some hx).2.2)
   simp only [d_laws_eqIntSS_L1.eq_2]
   unfold d_laws_eqIntSS_L1_B
   simp [hd,hx,eqIntS fu x this (by omega)]
 · intro n i hd
   simp only [d_laws_eqIntSS_L1.eq_2]
   unfold d_laws_eqIntSS_L1_B
   simp only [hd,cond_false]
end Go.Proofs.YtkkfmjpbiimkbaaGreat
/- Lists of lists of numbers in the laws: what is marked and held. -/
namespace Go.Proofs.YtkkfmjpbiimkbaaGreat
open Go
open Enc (rd ow)
open Arg (argv)
open Ret (retv)
open Wf (wf)
def lens:List (List Int) → Nat
 | []=>0
 | x :: xs=>x.length + lens xs
def segs:Int → List (List Int) → List (List Int)
 | _,[]=>[]
 | k,x :: xs=>ints k x.length :: segs (k + x.length) xs
theorem segs_len:∀ (k:Int) (l:List (List Int)),(segs k l).length = l.length
 | _,[]=>rfl
 | k,x :: xs=>by simp [segs,segs_len]
theorem markIntSS (fu:Nat) (l:List (List Int)) (kv:Int) (hl:l.length ≤ 1048576) (hm:∀ x ∈ l,x.length ≤ 1048576) (hs:lens l ≤ 1073741824) (h0:0 ≤ kv) (h1:kv ≤ 1073741824) (hf:1048577 ≤ fu) :
    d_laws_markIntSS fu l kv = some (kv + lens l,segs kv l):=by
 unfold d_laws_markIntSS
 have key:∀ (xs pre:List (List Int)) (n:Nat) (k:Int),pre.length + xs.length = l.length → xs.length < n → 0 ≤ k → k + lens xs ≤ 2147483648 → (∀ x ∈ xs,x.length ≤ 1048576) →
     d_laws_markIntSS_L1 fu n (pre ++ xs) k (pre.length:Int) = some (k + lens xs,pre ++ segs k xs):=by
  intro xs
  induction xs with
  | nil =>
   intro pre n k h hn h0 h1 hm
   obtain ⟨n,rfl⟩:∃ j,n = j + 1:=⟨n - 1,by omega⟩
   rw [d_laws_markIntSS_L1.eq_2]
   unfold d_laws_markIntSS_L1_B
   rw [bif_false (by simp)]
   simp [segs,lens]
  | cons x xs ih =>
   intro pre n k h hn h0 h1 hm
   obtain ⟨n,rfl⟩:∃ j,n = j + 1:=⟨n - 1,by simp at hn; omega⟩
   simp only [List.length_cons,lens] at h h1 hn
   have hx:=hm x (by simp)
   rw [d_laws_markIntSS_L1.eq_2]
   unfold d_laws_markIntSS_L1_B
   have e:ix (pre ++ x :: xs) (pre.length:Int) = some x:=by rw [ix_nat]; simp
   rw [bif_true (by simp; omega),e,ob_some,markIntS fu x k hx h0 (by omega) (by omega),ob_some,w64_s _ (by omega)]
   have e2:setx (pre ++ x :: xs) (pre.length:Int) (ints k x.length) = (pre ++ [ints k x.length]) ++ xs:=by simp [setx]
   have:=ih (pre ++ [ints k x.length]) n (k + x.length) (by simp; omega) (by omega) (by omega) (by omega) (fun y hy=>hm y (by simp [hy]))
   simp only [List.length_append,List.length_singleton] at this
   rw [e2,this]
   simp only [segs,lens,List.append_assoc,List.singleton_append]
   congr 2
   omega
 have:=key l [] fu kv (by simp) (by omega) h0 (by omega) hm
 simpa using this
theorem heldIntSS (fu:Nat) (l:List (List Int)) (kv:Int) (hl:l.length ≤ 1048576) (hm:∀ x ∈ l,x.length ≤ 1048576) (hs:lens l ≤ 1073741824) (h0:0 ≤ kv) (h1:kv ≤ 1073741824) (hf:1048577 ≤ fu) :
    d_laws_heldIntSS fu (segs kv l) kv = some (kv + lens l):=by
 unfold d_laws_heldIntSS
 have hL:=segs_len kv l
 have key:∀ (xs:List (List Int)) (pre:List (List Int)) (n:Nat) (k:Int),segs kv l = pre ++ segs k xs → pre.length + xs.length = l.length → xs.length < n → 0 ≤ k → k + lens xs = kv + lens l → (∀ x ∈ xs,x.length ≤ 1048576) →
     d_laws_heldIntSS_L1 fu (segs kv l) n k (pre.length:Int) = some (kv + lens l):=by
  intro xs
  induction xs with
  | nil =>
   intro pre n k he h hn h0 h1 hm
   obtain ⟨n,rfl⟩:∃ j,n = j + 1:=⟨n - 1,by omega⟩
   rw [d_laws_heldIntSS_L1.eq_2]
   unfold d_laws_heldIntSS_L1_B
   simp only [List.length_nil,lens] at h h1
   rw [bif_false (by rw [hL]; simp; omega)]
   congr 1
   omega
  | cons x xs ih =>
   intro pre n k he h hn h0 h1 hm
   obtain ⟨n,rfl⟩:∃ j,n = j + 1:=⟨n - 1,by simp at hn; omega⟩
   simp only [List.length_cons,lens,segs] at h h1 hn he
   have hx:=hm x (by simp)
   rw [d_laws_heldIntSS_L1.eq_2]
   unfold d_laws_heldIntSS_L1_B
   have e:ix (segs kv l) (pre.length:Int) = some (ints k x.length):=by rw [ix_nat,he]; simp
   rw [bif_true (by rw [hL]; simp; omega),e,ob_some,heldIntS fu x.length k hx h0 (by omega) (by omega),ob_some,bif_false (by simp; omega),w64_s _ (by omega)]
   have:=ih (pre ++ [ints k x.length]) n (k + x.length) (by simp [he]) (by simp; omega) (by omega) (by omega) (by omega) (fun y hy=>hm y (by simp [hy]))
   simp only [List.length_append,List.length_singleton] at this
   exact this
 have:=key l [] fu kv rfl (by simp) (by omega) h0 rfl hm
 simpa using this
end Go.Proofs.YtkkfmjpbiimkbaaGreat
/- The plain law of FnExactOurs. -/
namespace Go.Proofs.YtkkfmjpbiimkbaaGreat
open Go
open Enc (rd ow)
open Arg (argv)
open Ret (retv)
open Wf (wf)
theorem lens_leO:∀ (l:List (List Int)) (b:Nat),(∀ x ∈ l,x.length ≤ b) → lens l ≤ b * l.length
 | [],_,_=>by simp [lens]
 | x :: xs,b,h=>by
  have h1:=h x (by simp)
  have h2:=lens_leO xs b (fun y hy=>h y (by simp [hy]))
  simp only [lens,List.length_cons,Nat.mul_add]; omega
theorem fnExactOurs_pure (r:Request) (hr:wf r):∃ fu,d_laws_FnExactOurs fu r = some true:=by
 refine ⟨2097153,?_⟩
 unfold d_laws_FnExactOurs d_laws_FnExactOurs_J1
 rcases szReq 2097153 r hr with ⟨y,h1,h2⟩ | ⟨y,h1,h2,h3,hp,ht,hi⟩
 · rw [h1,ob_some,bif_true (by simp; omega)]
 rw [h1,ob_some,bif_false (by simp; omega)]
 have hs:Sm 2097153 r:=⟨by omega,hp,ht,hi⟩
 obtain ⟨o1,o2⟩:=our_ok r
 have hm':∀ x ∈ ourM r,x.length ≤ 1048576:=fun x hx=>by have:=o2 x hx; omega
 have hle:=lens_leO (ourM r) 12 o2
 obtain ⟨k,x',hk,hk0,hk1⟩:=markReq hs 1 (by omega) (by omega)
 simp only [toReq hs,ob_some,s_ours hs,i_ours hs,eqReq hs,eqIntSS 2097153 (ourM r) (by omega) hm' (by omega),hk,markIntSS 2097153 (ourM r) 1 (by omega) hm' (by omega) (by omega) (by omega) (by omega),heldIntSS 2097153 (ourM r) 1 (by omega) hm' (by omega) (by omega) (by omega) (by omega)]
 have e1:decide (k < 0) = false:=by simp; omega
 have e2:decide ((1:Int) + (lens (ourM r):Int) < 0) = false:=by simp; omega
 simp [e1,e2]
end Go.Proofs.YtkkfmjpbiimkbaaGreat
