import Derived.Test.YthddjkokpfdbnaaDepthsBP1
set_option linter.unusedSimpArgs false
set_option linter.unusedVariables false
/- What the ways of packing keep: every unit once, every carton within the master's. -/
namespace Go.Proofs.Ythddjkokpfdbnaa
open Go
open Enc (rd ow)
open Arg (argv)
open Ret (retv)
open Wf (wf)
end Go.Proofs.Ythddjkokpfdbnaa
/- What is marked: orders, lists of numbers, lists of lists. -/
namespace Go.Proofs.Ythddjkokpfdbnaa
open Go
open Enc (rd ow)
open Arg (argv)
open Ret (retv)
open Wf (wf)
end Go.Proofs.Ythddjkokpfdbnaa
/- Lists of cartons in the laws: their size, copies, equality, marks. -/
namespace Go.Proofs.Ythddjkokpfdbnaa
open Go
open Enc (rd ow)
open Arg (argv)
open Ret (retv)
open Wf (wf)
def lensC:List Carton → Nat
 | []=>0
 | x :: xs=>x.fUnits.length + lensC xs
end Go.Proofs.Ythddjkokpfdbnaa
/- Plans in the laws: their size, copies, equality, marks. -/
namespace Go.Proofs.Ythddjkokpfdbnaa
open Go
open Enc (rd ow)
open Arg (argv)
open Ret (retv)
open Wf (wf)
structure Sp (x:Plan):Prop where
 cars:x.fCartons.length ≤ 1048576
 units:∀ c ∈ x.fCartons,c.fUnits.length ≤ 1048576
 all:lensC x.fCartons ≤ 1048576
 spots:x.fSpots.length ≤ 1048576
end Go.Proofs.Ythddjkokpfdbnaa
/- PlanOk, by spec and by impl. -/
namespace Go.Proofs.Ythddjkokpfdbnaa
open Go
open Enc (rd ow)
open Arg (argv)
open Ret (retv)
open Wf (wf)
end Go.Proofs.Ythddjkokpfdbnaa
/- OnPallet and PalletGram, by spec and by impl. -/
namespace Go.Proofs.Ythddjkokpfdbnaa
open Go
open Enc (rd ow)
open Arg (argv)
open Ret (retv)
open Wf (wf)
end Go.Proofs.Ythddjkokpfdbnaa
/- Lost of spec and of impl. -/
namespace Go.Proofs.Ythddjkokpfdbnaa
open Go
open Enc (rd ow)
open Arg (argv)
open Ret (retv)
open Wf (wf)
end Go.Proofs.Ythddjkokpfdbnaa
/- Mixes of spec and of impl. -/
namespace Go.Proofs.Ythddjkokpfdbnaa
open Go
open Enc (rd ow)
open Arg (argv)
open Ret (retv)
open Wf (wf)
end Go.Proofs.Ythddjkokpfdbnaa
/- Check, by spec and by impl. -/
namespace Go.Proofs.Ythddjkokpfdbnaa
open Go
open Enc (rd ow)
open Arg (argv)
open Ret (retv)
open Wf (wf)
def cs (x:Plan):List (Carton × Spot):=x.fCartons.zip x.fSpots
end Go.Proofs.Ythddjkokpfdbnaa
/- Check, by impl. -/
namespace Go.Proofs.Ythddjkokpfdbnaa
open Go
open Enc (rd ow)
open Arg (argv)
open Ret (retv)
open Wf (wf)
end Go.Proofs.Ythddjkokpfdbnaa
/- The plan of an order, by spec. -/
namespace Go.Proofs.Ythddjkokpfdbnaa
open Go
open Enc (rd ow)
open Arg (argv)
open Ret (retv)
open Wf (wf)
theorem sumI_perm {a b:List Int} (h:a.Perm b):sumI a = sumI b:=by
 induction h with
 | nil=>rfl
 | cons x _ ih=>simp [ih]
 | swap x y l=>simp; omega
 | trans _ _ h1 h2=>rw [h1,h2]
end Go.Proofs.Ythddjkokpfdbnaa
/- How deep shelves are together, and how many layers they take: next fit where weight does not bind. -/
namespace Go.Proofs.Ythddjkokpfdbnaa
open Go
open Enc (rd ow)
open Arg (argv)
open Ret (retv)
open Wf (wf)
def dI (l:List Box) (i:Int):Int:=(bxA l i).fD
def gI (l:List Box) (i:Int):Int:=(bxA l i).fGram
def arI (l:List Box) (i:Int):Int:=(bxA l i).fW * (bxA l i).fD
def arS (l:List Box) (s:Shelf):Int:=sumI (s.fList.map (arI l))
def fstA (l:List Box) (s:Shelf):Int:=match s.fList with | i :: _=>arI l i | []=>0
def AdjS (p:Pallet) (l:List Box):List Shelf → Prop
 | s :: t :: r=>(p.fW + 1) * t.fD ≤ arS l s + fstA l t ∧ AdjS p l (t :: r)
 | _=>True
theorem adjS_snoc {p:Pallet} {l:List Box} {x y:Shelf}:∀ {d:List Shelf},AdjS p l (d ++ [x]) → (p.fW + 1) * y.fD ≤ arS l x + fstA l y → AdjS p l (d ++ [x] ++ [y])
 | [],_,h=>⟨h,trivial⟩
 | [a],h,h2=>⟨h.1,h2,trivial⟩
 | a :: b :: d,h,h2=>⟨h.1,adjS_snoc (d:=b :: d) h.2 h2⟩
theorem adjS_grow {p:Pallet} {l:List Box} {x y:Shelf} (h1:y.fD = x.fD) (h2:fstA l y = fstA l x):∀ {d:List Shelf},AdjS p l (d ++ [x]) → AdjS p l (d ++ [y])
 | [],_=>trivial
 | [a],h=>⟨by have:=h.1; rw [h1,h2]; exact this,trivial⟩
 | a :: b :: d,h=>⟨h.1,adjS_grow h1 h2 (d:=b :: d) h.2⟩
theorem last_cases {α:Type} (out:List α):out = [] ∨ ∃ d x,out = d ++ [x]:=by
 rcases List.eq_nil_or_concat out with h | ⟨d,x,h⟩
 · exact .inl h
 · exact .inr ⟨d,x,by simpa using h⟩
theorem nxG_snoc {σ:Type} {fits:σ → Bool} {add:σ → σ} {z:σ} (d:List σ) (x:σ):nxG fits add z (d ++ [x]) = bif fits x then d ++ [add x] else d ++ [x] ++ [add z]:=by
 rw [nxG_some (s:=x) (by simp)]
 cases fits x
 · rfl
 · simp
theorem nxG_sum {σ:Type} {fits:σ → Bool} {add:σ → σ} {z:σ} (f:σ → Int) (c:Int) (ha:∀ s,f (add s) = f s + c) (hz:f z = 0) (out:List σ):sumI ((nxG fits add z out).map f) = sumI (out.map f) + c:=by
 rcases last_cases out with rfl | ⟨d,x,rfl⟩
 · rw [nxG_nil]
   simp [ha,hz]
 · rw [nxG_snoc]
   cases fits x
   · rw [cond_false,List.map_append,sumI_append]
     simp [ha,hz]
   · rw [cond_true,List.map_append,List.map_append,sumI_append,sumI_append]
     simp [ha]
     omega
structure ShJ (l:List Box) (rest:List Int) (s:Shelf):Prop where
 ne:s.fList ≠ []
 low:∀ j ∈ rest,s.fW * dI l j ≤ arS l s ∧ dI l j ≤ s.fD
 up:arS l s ≤ s.fW * s.fD
 g:0 ≤ s.fGram
 w:0 ≤ s.fW
theorem arS_add (l:List Box) (s:Shelf) (i:Int) (b:Box):arS l (shAdd s i b) = arS l s + arI l i:=by
 unfold arS shAdd
 simp only [List.map_append,sumI_append]
 simp
theorem fstA_add {l:List Box} {s:Shelf} (h:s.fList ≠ []) (i:Int) (b:Box):fstA l (shAdd s i b) = fstA l s:=by
 unfold fstA shAdd
 cases hs:s.fList with
 | nil=>exact absurd hs h
 | cons j js=>simp
theorem sum_mem_le {α:Type} (f:α → Int):∀ (l:List α),(∀ x ∈ l,0 ≤ f x) → ∀ x ∈ l,f x ≤ sumI (l.map f)
 | [],_,x,hx=>by simp at hx
 | y :: l,h,x,hx=>by
  have h1:=sumI_nn f l fun z hz=>h z (by simp [hz])
  rw [List.map_cons,sumI_cons]
  rcases List.mem_cons.1 hx with rfl | hx
  · omega
  · have:=sum_mem_le f l (fun z hz=>h z (by simp [hz])) x hx
    have:=h y (by simp)
    omega
theorem sh_fold {p:Pallet} {l:List Box} (hb:bosB p l = true):∀ (is:List Int) (out:List Shelf),(∀ i ∈ is,0 ≤ i ∧ i < l.length) → is.Pairwise (fun i j=>dI l j ≤ dI l i) →
    (∀ s ∈ out,ShJ l is s) → AdjS p l out → sumI (out.map (·.fGram)) + sumI (is.map (gI l)) ≤ p.fGram →
    AdjS p l (is.foldl (shS p l) out) ∧ ∀ s ∈ is.foldl (shS p l) out,ShJ l [] s
 | [],out,_,_,h,ha,_=>⟨ha,h⟩
 | i :: is,out,hi,hs,h,ha,hg=>by
  rw [List.foldl_cons]
  obtain ⟨_,b1,b2,b3,b4⟩:=bok_at hb (hi i (by simp))
  rw [List.pairwise_cons] at hs
  obtain ⟨hs1,hs2⟩:=hs
  have hrest:0 ≤ sumI (is.map (gI l)):=sumI_nn _ _ fun j hj=>by
   have:=(bok_at hb (hi j (by simp [hj]))).2.2.2.2
   unfold gI; omega
  have hd:dI l i = (bxA l i).fD:=rfl
  have ea:arI l i = (bxA l i).fW * dI l i:=rfl
  have hga:∀ s ∈ out,0 ≤ s.fGram:=fun s hs=>(h s hs).g
  rw [List.map_cons,sumI_cons] at hg
  have hnew:ShJ l is (shAdd zSh i (bxA l i)):=by
   refine ⟨by simp [shAdd],fun j hj=>?_,?_,?_,?_⟩
   · have h1:=hs1 j hj
     have e:(shAdd zSh i (bxA l i)).fD = dI l i:=by
      have:=mxI_ge 0 (bxA l i).fD
      simp only [shAdd,zSh,hd]; omega
     rw [arS_add,e]
     refine ⟨?_,h1⟩
     have e2:arS l zSh = 0:=rfl
     have e3:(shAdd zSh i (bxA l i)).fW = (bxA l i).fW:=by simp [shAdd,zSh]
     rw [e2,e3,ea]
     have:=Int.mul_le_mul_of_nonneg_left h1 (by omega:0 ≤ (bxA l i).fW)
     omega
   · have e:(shAdd zSh i (bxA l i)).fD = dI l i:=by
       have:=mxI_ge 0 (bxA l i).fD
       simp only [shAdd,zSh,hd]; omega
     have e2:arS l zSh = 0:=rfl
     have e3:(shAdd zSh i (bxA l i)).fW = (bxA l i).fW:=by simp [shAdd,zSh]
     rw [arS_add,e,e2,e3,ea]; omega
   · simp only [shAdd,zSh]; omega
   · simp only [shAdd,zSh]; omega
  have hgs:sumI ((shS p l out i).map (·.fGram)) + sumI (is.map (gI l)) ≤ p.fGram:=by
   have:sumI ((shS p l out i).map (·.fGram)) = sumI (out.map (·.fGram)) + gI l i:=nxG_sum (·.fGram) (gI l i) (fun s=>rfl) rfl out
   omega
  refine sh_fold hb is _ (fun j hj=>hi j (by simp [hj])) hs2 ?_ ?_ hgs
  · intro s hsm
    unfold shS at hsm
    rcases last_cases out with rfl | ⟨d,x,rfl⟩
    · rw [nxG_nil] at hsm
      rw [List.mem_singleton.1 hsm]; exact hnew
    · rw [nxG_snoc] at hsm
      have hold:∀ s ∈ d ++ [x],ShJ l is s:=fun s hs=>⟨(h s hs).ne,fun j hj=>(h s hs).low j (by simp [hj]),(h s hs).up,(h s hs).g,(h s hs).w⟩
      cases hf:shFit p (bxA l i) x
      · rw [hf,cond_false] at hsm
        rcases List.mem_append.1 hsm with hsm | hsm
        · exact hold s hsm
        · rw [List.mem_singleton.1 hsm]; exact hnew
      · rw [hf,cond_true] at hsm
        rcases List.mem_append.1 hsm with hsm | hsm
        · exact hold s (by simp [hsm])
        · rw [List.mem_singleton.1 hsm]
          have hx:=h x (by simp)
          obtain ⟨q1,q2⟩:=hx.low i (by simp)
          have e:(shAdd x i (bxA l i)).fD = x.fD:=by
           have:=mxI_ge x.fD (bxA l i).fD
           simp only [shAdd]; omega
          have e3:(shAdd x i (bxA l i)).fW = x.fW + (bxA l i).fW:=rfl
          have hw:=hx.w
          refine ⟨by simp [shAdd],fun j hj=>?_,?_,?_,?_⟩
          · have h1:=hs1 j hj
            obtain ⟨r1,r2⟩:=hx.low j (by simp [hj])
            rw [arS_add,e,e3,ea,Int.add_mul]
            have:=Int.mul_le_mul_of_nonneg_left h1 (by omega:0 ≤ (bxA l i).fW)
            exact ⟨by omega,r2⟩
          · have h1:=hx.up
            have:=Int.mul_le_mul_of_nonneg_left q2 (by omega:0 ≤ (bxA l i).fW)
            rw [arS_add,e,e3,ea,Int.add_mul]; omega
          · have:=hx.g
            simp only [shAdd]; omega
          · rw [e3]; omega
  · unfold shS
    rcases last_cases out with rfl | ⟨d,x,rfl⟩
    · trivial
    · rw [nxG_snoc]
      have hx:=h x (by simp)
      obtain ⟨q1,q2⟩:=hx.low i (by simp)
      cases hf:shFit p (bxA l i) x
      · rw [cond_false]
        refine adjS_snoc ha ?_
        have hxg:=sum_mem_le (·.fGram) (d ++ [x]) hga x (by simp)
        unfold shFit at hf
        rw [Bool.and_eq_false_iff,decide_eq_false_iff_not,decide_eq_false_iff_not] at hf
        have eg:gI l i = (bxA l i).fGram:=rfl
        have hw:p.fW + 1 ≤ x.fW + (bxA l i).fW:=by
         have:x.fGram ≤ sumI ((d ++ [x]).map (·.fGram)):=hxg
         omega
        have e:(shAdd zSh i (bxA l i)).fD = dI l i:=by
         have:=mxI_ge 0 (bxA l i).fD
         simp only [shAdd,zSh,hd]; omega
        have ef:fstA l (shAdd zSh i (bxA l i)) = arI l i:=rfl
        rw [e,ef,ea]
        have h1:=Int.mul_le_mul_of_nonneg_right hw (by omega:0 ≤ dI l i)
        rw [Int.add_mul x.fW] at h1
        omega
      · rw [cond_true]
        refine adjS_grow ?_ (fstA_add hx.ne _ _) ha
        have:=mxI_ge x.fD (bxA l i).fD
        simp only [shAdd]; omega
theorem adj_sum {p:Pallet} {l:List Box} (h0:∀ i,0 ≤ arI l i):∀ (r:List Shelf) (s:Shelf),AdjS p l (s :: r) → (p.fW + 1) * sumI (r.map (·.fD)) ≤ arS l s + 2 * sumI (r.map (arS l))
 | [],s,_=>by
  have:=sumI_nn (arI l) s.fList fun i _=>h0 i
  simp only [List.map_nil,sumI_nil,Int.mul_zero]
  unfold arS; omega
 | t :: r,s,h=>by
  have ih:=adj_sum h0 r t h.2
  have h1:=h.1
  have hf:fstA l t ≤ arS l t:=by
   unfold fstA arS
   cases t.fList with
   | nil=>simp
   | cons i is =>
    have:=sumI_nn (arI l) is fun i _=>h0 i
    simp only [List.map_cons,sumI_cons]; omega
  simp only [List.map_cons,sumI_cons,Int.mul_add]
  omega
def AdjL (p:Pallet):List Layer → Prop
 | a :: b :: r=>p.fD + 1 ≤ a.fD + b.fD ∧ AdjL p (b :: r)
 | _=>True
theorem adjL_snoc {p:Pallet} {x y:Layer}:∀ {d:List Layer},AdjL p (d ++ [x]) → p.fD + 1 ≤ x.fD + y.fD → AdjL p (d ++ [x] ++ [y])
 | [],_,h=>⟨h,trivial⟩
 | [a],h,h2=>⟨h.1,h2,trivial⟩
 | a :: b :: d,h,h2=>⟨h.1,adjL_snoc (d:=b :: d) h.2 h2⟩
theorem adjL_grow {p:Pallet} {x y:Layer} (h1:x.fD ≤ y.fD):∀ {d:List Layer},AdjL p (d ++ [x]) → AdjL p (d ++ [y])
 | [],_=>trivial
 | [a],h=>⟨by have:=h.1; omega,trivial⟩
 | a :: b :: d,h=>⟨h.1,adjL_grow h1 (d:=b :: d) h.2⟩
theorem ly_fold {p:Pallet} {l:List Shelf} (hb:OkS p l):∀ (is:List Int) (out:List Layer),(∀ i ∈ is,0 ≤ i ∧ i < l.length) → (∀ s ∈ out,0 ≤ s.fGram) → AdjL p out →
    sumI (out.map (·.fGram)) + sumI (is.map fun i=>(shA l i).fGram) ≤ p.fGram →
    AdjL p (is.foldl (lyS p l) out) ∧ sumI ((is.foldl (lyS p l) out).map (·.fD)) = sumI (out.map (·.fD)) + sumI (is.map fun i=>(shA l i).fD)
 | [],out,_,_,ha,_=>⟨ha,by simp⟩
 | i :: is,out,hi,h,ha,hg=>by
  rw [List.foldl_cons]
  obtain ⟨_,b1,b2,b3,_⟩:=shA_at hb (hi i (by simp))
  have hrest:0 ≤ sumI (is.map fun i=>(shA l i).fGram):=sumI_nn _ _ fun j hj=>by
   have:=(shA_at hb (hi j (by simp [hj]))).2.2.2.1
   omega
  rw [List.map_cons,sumI_cons] at hg
  have e1:sumI ((lyS p l out i).map (·.fGram)) = sumI (out.map (·.fGram)) + (shA l i).fGram:=nxG_sum (·.fGram) _ (fun s=>rfl) rfl out
  have e2:sumI ((lyS p l out i).map (·.fD)) = sumI (out.map (·.fD)) + (shA l i).fD:=nxG_sum (·.fD) _ (fun s=>rfl) rfl out
  have hgn:∀ s ∈ lyS p l out i,0 ≤ s.fGram:=nxG_all h (fun s hs _=>by simp only [lyAdd]; omega) (by simp only [lyAdd,zLy]; omega)
  have hadj:AdjL p (lyS p l out i):=by
   unfold lyS
   rcases last_cases out with rfl | ⟨d,x,rfl⟩
   · trivial
   · rw [nxG_snoc]
     cases hf:lyFit p (shA l i) x
     · rw [cond_false]
       refine adjL_snoc ha ?_
       have hxg:x.fGram ≤ sumI ((d ++ [x]).map (·.fGram)):=sum_mem_le (·.fGram) (d ++ [x]) h x (by simp)
       unfold lyFit at hf
       rw [Bool.and_eq_false_iff,decide_eq_false_iff_not,decide_eq_false_iff_not] at hf
       simp only [lyAdd,zLy]
       omega
     · rw [cond_true]
       refine adjL_grow ?_ ha
       simp only [lyAdd]; omega
  obtain ⟨r1,r2⟩:=ly_fold hb is (lyS p l out i) (fun j hj=>hi j (by simp [hj])) hgn hadj (by omega)
  refine ⟨r1,?_⟩
  rw [r2,e2,List.map_cons,sumI_cons]; omega
theorem adjL_half {p:Pallet}:∀ (l:List Layer),(∀ x ∈ l,0 ≤ x.fD) → AdjL p l → ((l.length / 2:Nat):Int) * (p.fD + 1) ≤ sumI (l.map (·.fD))
 | [],_,_=>by simp
 | [a],h,_=>by have:=h a (by simp); simp; omega
 | a :: b :: l,h,ha=>by
  have h2:AdjL p l:=by
   have:=ha.2
   cases l with
   | nil=>trivial
   | cons c l=>exact this.2
  have ih:=adjL_half l (fun x hx=>h x (by simp [hx])) h2
  have e:(a :: b :: l).length / 2 = l.length / 2 + 1:=by simp only [List.length_cons]; omega
  rw [e,show (((l.length / 2 + 1:Nat)):Int) = ((l.length / 2:Nat):Int) + 1 by omega,Int.add_mul,Int.one_mul]
  have:=ha.1
  simp only [List.map_cons,sumI_cons]
  omega
end Go.Proofs.Ythddjkokpfdbnaa
/- Squeeze and Spare of spec and of impl. -/
namespace Go.Proofs.Ythddjkokpfdbnaa
open Go
open Enc (rd ow)
open Arg (argv)
open Ret (retv)
open Wf (wf)
def inU (r:Request) (cs:List (List Int)):Prop:=∀ c ∈ cs,∀ y ∈ c,0 ≤ y ∧ y < (untM r).length
theorem setx_flat {out:List (List Int)} {j u:Int} {c:List Int} (h:ix out j = some c):(setx out j (c ++ [u])).flatten.Perm (out.flatten ++ [u]):=by
 obtain ⟨h0,h1,h2⟩:=ix_some h
 exact set_flat h2
structure Ez (r:Request) (k:Int) (c0:List Int) (T:List Int) (us:List Int) (out:List (List Int)):Prop where
 src:ix out k = some c0
 all:(out.flatten ++ us).Perm (T ++ c0)
 inn:inU r out
 inu:∀ u ∈ us,0 ≤ u ∧ u < (untM r).length
 len:out.length ≤ 12
 tot:(T ++ c0).length ≤ 24
theorem Ez.step {r:Request} {k:Int} {c0 T us:List Int} {out:List (List Int)} {u j:Int} {c:List Int} (h:Ez r k c0 T (u :: us) out) (hj:ix out j = some c) (hjk:j ≠ k):Ez r k c0 T us (setx out j (c ++ [u])):=by
 obtain ⟨j0,j1,j2⟩:=ix_some hj
 obtain ⟨k0,k1,k2⟩:=ix_some h.src
 refine ⟨?_,?_,?_,fun v hv=>h.inu v (by simp [hv]),by unfold setx; simp; exact h.len,h.tot⟩
 · unfold ix setx
   rw [if_pos k0,List.getElem?_set,if_neg (by omega)]
   exact k2
 · refine ((setx_flat (u:=u) hj).append_right us).trans ?_
   simpa using h.all
 · intro d hd y hy
   unfold setx at hd
   rcases List.mem_or_eq_of_mem_set hd with hd | rfl
   · exact h.inn d hd y hy
   · rcases List.mem_append.1 hy with hy | hy
     · exact h.inn c (ix_mem hj) y hy
     · rw [List.mem_singleton.1 hy]; exact h.inu u (by simp)
structure Rz (r:Request) (cs:List (List Int)):Prop where
 len:cs.length ≤ 12
 tot:cs.flatten.length ≤ 12
 inn:inU r cs
end Go.Proofs.Ythddjkokpfdbnaa
/- Lower bounds: no packing has fewer cartons. -/
namespace Go.Proofs.Ythddjkokpfdbnaa
open Go
open Enc (rd ow)
open Arg (argv)
open Ret (retv)
open Wf (wf)
def upM (a b:Int):Int:=Int.tdiv (a + b - 1) b
theorem up_le {a b n:Int} (hb:1 ≤ b) (h0:0 ≤ a) (h:a ≤ n * b):upM a b ≤ n:=by
 unfold upM
 rw [Int.tdiv_eq_ediv_of_nonneg (by omega)]
 have h1:a + b - 1 < (n + 1) * b:=by rw [Int.add_mul]; omega
 have:=Int.ediv_lt_of_lt_mul (a:=a + b - 1) (b:=n + 1) (c:=b) (by omega) h1
 omega
end Go.Proofs.Ythddjkokpfdbnaa
/- What is promised of depths and layers. -/
namespace Go.Proofs.Ythddjkokpfdbnaa
open Go
open Enc (rd ow)
open Arg (argv)
open Ret (retv)
open Wf (wf)
theorem ints_map {α β:Type} (l:List α) (d:α) (f:α → β):(ints 0 l.length).map (fun p=>f ((ix l p).getD d)) = l.map f:=by
 have key:∀ (xs pre:List α),l = pre ++ xs → (ints pre.length xs.length).map (fun p=>f ((ix l p).getD d)) = xs.map f:=by
  intro xs
  induction xs with
  | nil=>intro pre _; rfl
  | cons x xs ih =>
   intro pre he
   have h1:=ih (pre ++ [x]) (by simp [he])
   simp only [List.length_append,List.length_singleton] at h1
   simp only [List.length_cons,ints,List.map_cons]
   rw [show ((pre.length:Int) + 1) = ((pre.length + 1:Nat):Int) by omega,h1]
   congr 1
   rw [ix_nat,he]
   simp
 exact key l [] rfl
theorem sum_flat (f:Int → Int) (g:Shelf → List Int):∀ (s:List Shelf),sumI (s.map fun x=>sumI ((g x).map f)) = sumI (((s.map g).flatten).map f)
 | []=>rfl
 | x :: s=>by
  have ih:=sum_flat f g s
  simp only [List.map_cons,sumI_cons,List.flatten_cons,List.map_append,sumI_append,ih]
theorem sum_mono {α:Type} (f g:α → Int):∀ (l:List α),(∀ x ∈ l,f x ≤ g x) → sumI (l.map f) ≤ sumI (l.map g)
 | [],_=>by simp
 | x :: l,h=>by
  have ih:=sum_mono f g l fun y hy=>h y (by simp [hy])
  have:=h x (by simp)
  simp only [List.map_cons,sumI_cons]; omega
theorem sum_mul {α:Type} (c:Int) (f:α → Int):∀ (l:List α),sumI (l.map fun x=>c * f x) = c * sumI (l.map f)
 | []=>by simp
 | x :: l=>by
  have ih:=sum_mul c f l
  simp only [List.map_cons,sumI_cons,ih,Int.mul_add]
theorem ord_down (l:List Box):(srt (dnk (l.map (·.fD))) l.length).Pairwise fun i j=>dI l j ≤ dI l i:=by
 have hs:=srt_sorted (dnk (l.map (·.fD))) l.length
 have hm:∀ p ∈ srt (dnk (l.map (·.fD))) l.length,0 ≤ p ∧ p < l.length:=fun p hp=>srt_mem.1 hp
 refine hs.imp_of_mem fun {p q} hp hq h=>?_
 have key:∀ p,0 ≤ p ∧ p < (l.length:Int) → kf (l.map (·.fD)) p = dI l p:=by
  intro p hp
  obtain ⟨x,hx⟩:=ix_in (l:=l) hp.1 hp.2
  obtain ⟨a1,a2,a3⟩:=ix_some hx
  unfold kf dI bxA
  have:ix (l.map (·.fD)) p = some x.fD:=by
   unfold ix
   rw [if_pos a1,List.getElem?_map,a3]; rfl
  rw [this,hx]; rfl
 unfold lx dnk at h
 rw [key p (hm p hp),key q (hm q hq)] at h
 omega
theorem sh_deep {p:Pallet} {l:List Box} {m:Int} (h0:0 ≤ m) (h:∀ i,0 ≤ i ∧ i < (l.length:Int) → dI l i ≤ m):∀ (is:List Int) (out:List Shelf),(∀ i ∈ is,0 ≤ i ∧ i < l.length) → (∀ s ∈ out,s.fD ≤ m) → ∀ s ∈ is.foldl (shS p l) out,s.fD ≤ m
 | [],_,_,ho=>ho
 | i :: is,out,hi,ho=>by
  rw [List.foldl_cons]
  have hd:(bxA l i).fD ≤ m:=h i (hi i (by simp))
  refine sh_deep h0 h is _ (fun j hj=>hi j (by simp [hj])) (nxG_all ho (fun s hs _=>?_) ?_)
  · have:=mxI_ge s.fD (bxA l i).fD
    simp only [shAdd]; omega
  · have:=mxI_ge 0 (bxA l i).fD
    simp only [shAdd,zSh]; omega
def areaI (l:List Box):Int:=sumI (l.map fun b=>b.fW * b.fD)
theorem depths {p:Pallet} {l:List Box} (hb:bosB p l = true) (hg:sumI (l.map (·.fGram)) ≤ p.fGram) {m:Int} (hm0:0 ≤ m) (hm:∀ b ∈ l,b.fD ≤ m) :
    OkS p (shM p l) ∧ (1 < (shM p l).length → p.fW * (sumI ((shM p l).map (·.fD)) - m) < 2 * areaI l) ∧
    sumI ((shM p l).map (·.fD)) ≤ m + Int.tdiv (2 * areaI l) p.fW ∧
    ((lyM p (shM p l)).length:Int) ≤ 4 * upM (areaI l) (p.fW * p.fD) + 1 ∧ upM (areaI l) (p.fW * p.fD) ≤ (lyM p (shM p l)).length ∧ 0 ≤ upM (areaI l) (p.fW * p.fD) ∧ 0 ≤ areaI l:=by
 obtain ⟨q1,q2,q3⟩:=shM_all hb
 obtain ⟨pw,pd,ph,pg⟩:=pal_bd (bos_pal hb)
 have hS:∀ i ∈ srt (dnk (l.map (·.fD))) l.length,0 ≤ i ∧ i < l.length:=fun i hi=>srt_mem.1 hi
 have hperm:=srt_perm (dnk (l.map (·.fD))) l.length
 have hdm:∀ i,0 ≤ i ∧ i < (l.length:Int) → dI l i ≤ m:=fun i hi=>hm _ (ix_mem (bok_at hb hi).1)
 have eM:shM p l = (srt (dnk (l.map (·.fD))) l.length).foldl (shS p l) []:=by unfold shM; rw [hb]; rfl
 have hsum:∀ f:Box → Int,sumI ((srt (dnk (l.map (·.fD))) l.length).map fun i=>f (bxA l i)) = sumI (l.map f):=fun f=>by
  rw [sumI_perm (hperm.map _)]
  unfold bxA
  rw [ints_map l zBx f]
 obtain ⟨a1,a2⟩:=sh_fold hb (srt (dnk (l.map (·.fD))) l.length) [] hS (ord_down l) (by simp) trivial (by
  have:=hsum (·.fGram)
  simp only [List.map_nil,sumI_nil]
  unfold gI; omega)
 have a3:=sh_deep (p:=p) hm0 hdm (srt (dnk (l.map (·.fD))) l.length) [] hS (by simp)
 rw [← eM] at a1 a2 a3
 have hok:OkS p (shM p l):=fun s hs=>⟨(q1 s hs).d,(q1 s hs).h,(q1 s hs).g⟩
 have hA:sumI ((shM p l).map (arS l)) = areaI l:=by
  have:=sum_flat (arI l) (·.fList) (shM p l)
  rw [q2] at this
  exact this.trans (hsum fun b=>b.fW * b.fD)
 have har:∀ i,0 ≤ arI l i:=fun i=>by
  unfold arI bxA
  by_cases hi:0 ≤ i ∧ i < (l.length:Int)
  · obtain ⟨h1,h2,h3,_,_⟩:=bok_at hb hi
    have:(ix l i).getD zBx = bxA l i:=rfl
    rw [this]
    exact Int.mul_nonneg (by omega) (by omega)
  · have:ix l i = none:=by
      cases hx:ix l i with
      | none=>rfl
      | some x=>have:=ix_some hx; omega
    rw [this]; decide
 have harS:∀ s,0 ≤ arS l s:=fun s=>sumI_nn _ _ fun i _=>har i
 have hA0:0 ≤ areaI l:=by rw [← hA]; exact sumI_nn _ _ fun s _=>harS s
 have hd1:∀ s ∈ shM p l,1 ≤ s.fD:=fun s hs=>(q1 s hs).d.1
 have hAW:areaI l ≤ p.fW * sumI ((shM p l).map (·.fD)):=by
  rw [← hA,← sum_mul]
  refine sum_mono _ _ _ fun s hs=>?_
  have h1:=(a2 s hs).up
  have h2:=Int.mul_le_mul_of_nonneg_right (q1 s hs).w.2 (by have:=hd1 s hs; omega:0 ≤ s.fD)
  omega
 have hback:∃ d0 R:Int,sumI ((shM p l).map (·.fD)) = d0 + R ∧ 0 ≤ d0 ∧ d0 ≤ m ∧ d0 ≤ p.fD ∧ 0 ≤ R ∧ (1 < (shM p l).length → 1 ≤ R) ∧ (p.fW + 1) * R ≤ 2 * areaI l:=by
  cases hs:shM p l with
  | nil=>exact ⟨0,0,by simp,by omega,hm0,by omega,by omega,by simp,by omega⟩
  | cons s r =>
   have h1:=adj_sum har r s (by rw [← hs]; exact a1)
   have h2:=a3 s (by rw [hs]; simp)
   have h3:=(q1 s (by rw [hs]; simp)).d
   have hr:∀ x ∈ r,1 ≤ x.fD:=fun x hx=>hd1 x (by rw [hs]; simp [hx])
   rw [hs,List.map_cons,sumI_cons] at hA
   have h4:=harS s
   refine ⟨s.fD,sumI (r.map (·.fD)),by simp,by omega,h2,h3.2,sumI_nn _ _ fun x hx=>by have:=hr x hx; omega,fun hl=>?_,by omega⟩
   cases hr':r with
   | nil=>rw [hr'] at hl; simp at hl
   | cons x r' =>
    have h5:=hr x (by rw [hr']; simp)
    have h6:0 ≤ sumI (r'.map (·.fD)):=sumI_nn _ _ fun y hy=>by have:=hr y (by rw [hr']; simp [hy]); omega
    rw [List.map_cons,sumI_cons]; omega
 obtain ⟨d0,R,e1,e2,e3,e4,e5,e6,e7⟩:=hback
 rw [Int.add_mul,Int.one_mul] at e7
 have hlay:=ly_fold hok (ints 0 (shM p l).length) [] (fun i hi=>by have:=ints_mem.1 hi; omega) (by simp) trivial (by
  have h1:sumI ((ints 0 (shM p l).length).map fun i=>(shA (shM p l) i).fGram) = sumI ((shM p l).map (·.fGram)):=by
   unfold shA
   rw [ints_map (shM p l) zSh (·.fGram)]
  have h2:∀ (is:List Int) (out:List Shelf),sumI ((is.foldl (shS p l) out).map (·.fGram)) = sumI (out.map (·.fGram)) + sumI (is.map (gI l)):=by
   intro is
   induction is with
   | nil=>intro out; simp
   | cons i is ih =>
    intro out
    have e:sumI ((shS p l out i).map (·.fGram)) = sumI (out.map (·.fGram)) + gI l i:=nxG_sum (·.fGram) (gI l i) (fun s=>rfl) rfl out
    rw [List.foldl_cons,ih,e,List.map_cons,sumI_cons]; omega
  have h3:=h2 (srt (dnk (l.map (·.fD))) l.length) []
  rw [← eM] at h3
  have h4:=hsum (·.fGram)
  rw [h1,h3]
  simp only [List.map_nil,sumI_nil]
  unfold gI; omega)
 obtain ⟨l1,l2⟩:=hlay
 have eL:lyM p (shM p l) = (ints 0 (shM p l).length).foldl (lyS p (shM p l)) []:=rfl
 rw [← eL] at l1 l2
 have h1:sumI ((ints 0 (shM p l).length).map fun i=>(shA (shM p l) i).fD) = sumI ((shM p l).map (·.fD)):=by
  unfold shA
  rw [ints_map (shM p l) zSh (·.fD)]
 rw [h1,List.map_nil,sumI_nil,Int.zero_add] at l2
 obtain ⟨y1,y2,y3⟩:=lyM_all hok
 have hhalf:=adjL_half (lyM p (shM p l)) (fun x hx=>by have:=(y1 x hx).d; omega) l1
 have hcap:sumI ((shM p l).map (·.fD)) ≤ p.fD * (lyM p (shM p l)).length:=by
  rw [← l2]
  exact sumI_le (·.fD) _ _ fun x hx=>(y1 x hx).d.2
 have hWD:1 ≤ p.fW * p.fD:=by
  have:=Int.mul_le_mul pw.1 pd.1 (by omega) (by omega:0 ≤ p.fW)
  simpa using this
 have hneeds:upM (areaI l) (p.fW * p.fD) ≤ (lyM p (shM p l)).length:=by
  refine up_le hWD hA0 ?_
  have h2:=Int.mul_le_mul_of_nonneg_left hcap (by omega:0 ≤ p.fW)
  rw [show ((lyM p (shM p l)).length:Int) * (p.fW * p.fD) = p.fW * (p.fD * (lyM p (shM p l)).length) by rw [Int.mul_comm,Int.mul_assoc]]
  omega
 have hup:areaI l ≤ upM (areaI l) (p.fW * p.fD) * (p.fW * p.fD) ∧ 0 ≤ upM (areaI l) (p.fW * p.fD):=by
  unfold upM
  generalize p.fW * p.fD = b at hWD
  generalize areaI l = a at hA0
  rw [Int.tdiv_eq_ediv_of_nonneg (by omega)]
  have h2:=Int.emod_add_mul_ediv (a + b - 1) b
  have h3:=Int.emod_lt_of_pos (a + b - 1) (by omega:0 < b)
  have h4:0 ≤ (a + b - 1) / b:=Int.ediv_nonneg (by omega) (by omega)
  rw [Int.mul_comm] at h2
  exact ⟨by omega,h4⟩
 refine ⟨hok,fun hl=>?_,?_,?_,hneeds,hup.2,hA0⟩
 · have h2:=e6 hl
   rw [e1]
   have h3:p.fW * (d0 + R - m) ≤ p.fW * R:=Int.mul_le_mul_of_nonneg_left (by omega) (by omega)
   omega
 · rw [Int.tdiv_eq_ediv_of_nonneg (by omega),e1]
   have:R ≤ 2 * areaI l / p.fW:=Int.le_ediv_of_mul_le (by omega) (by rw [Int.mul_comm]; omega)
   omega
 · generalize upM (areaI l) (p.fW * p.fD) = u at *
   obtain ⟨u1,u2⟩:=hup
   have h3:p.fW * R ≤ p.fW * (2 * u * p.fD):=by
    rw [show p.fW * (2 * u * p.fD) = 2 * (u * (p.fW * p.fD)) by
     rw [Int.mul_assoc 2,Int.mul_left_comm p.fW 2,Int.mul_left_comm p.fW u]]
    omega
   have h4:R ≤ 2 * u * p.fD:=Int.le_of_mul_le_mul_left h3 (by omega)
   rw [l2,e1] at hhalf
   rcases Int.lt_or_le (((lyM p (shM p l)).length / 2:Nat):Int) (2 * u + 1) with h5 | h5
   · omega
   · exfalso
     have h6:=Int.mul_le_mul_of_nonneg_right h5 (by omega:0 ≤ p.fD + 1)
     rw [Int.add_mul,Int.mul_add (2 * u),Int.mul_one,Int.one_mul] at h6
     omega
end Go.Proofs.Ythddjkokpfdbnaa
/- 'in' of spec and of impl: between two bounds. -/
namespace Go.Proofs.Ythddjkokpfdbnaa
open Go
open Enc (rd ow)
open Arg (argv)
open Ret (retv)
open Wf (wf)
def inB (n lo hi:Int):Bool:=decide (lo ≤ n ∧ n ≤ hi)
theorem inB_iff {n lo hi:Int}:inB n lo hi = true ↔ lo ≤ n ∧ n ≤ hi:=by simp [inB]
theorem l1In_eq (fu:Nat) (n lo hi:Int):d_spec_l1In fu n lo hi = some (inB n lo hi):=by
 unfold d_spec_l1In inB
 by_cases h:n ≥ lo
 · rw [bif_true (by simpa using h)]
   have:lo ≤ n:=h
   simp [this]
 · rw [bif_false (by simpa using h)]
   have:¬ lo ≤ n:=h
   simp [this]
theorem in_eq (fu:Nat) (n lo hi:Int):d_impl_in fu n lo hi = some (inB n lo hi):=l1In_eq fu n lo hi
end Go.Proofs.Ythddjkokpfdbnaa
/- PalletOk and BoxesOk of spec and of impl, as one Bool. -/
namespace Go.Proofs.Ythddjkokpfdbnaa
open Go
open Enc (rd ow)
open Arg (argv)
open Ret (retv)
open Wf (wf)
def palletB (p:Pallet):Bool:=inB p.fW 1 2000 && (inB p.fD 1 2000 && (inB p.fH 1 2000 && inB p.fGram 1 100000))
def boxB (p:Pallet) (b:Box):Bool:=inB b.fW 1 p.fW && (inB b.fD 1 p.fD && (inB b.fH 1 p.fH && inB b.fGram 1 p.fGram))
def boxesB (p:Pallet) (l:List Box):Bool:=palletB p && l.all (boxB p)
theorem specPalletOk_eq (fu:Nat) (p:Pallet):d_spec_PalletOk fu p = some (palletB p):=by
 unfold d_spec_PalletOk d_spec_l2Side palletB
 simp only [l1In_eq,ob_some]
 cases inB p.fW 1 2000 <;> cases inB p.fD 1 2000 <;> cases inB p.fH 1 2000 <;> rfl
theorem implPalletOk_eq (fu:Nat) (p:Pallet):d_impl_PalletOk fu p = some (palletB p):=by
 unfold d_impl_PalletOk d_impl_isSide palletB
 simp only [in_eq,ob_some]
 cases inB p.fW 1 2000 <;> cases inB p.fD 1 2000 <;> cases inB p.fH 1 2000 <;> rfl
theorem runE_all {α:Type} (f:α → Bool):∀ (l:List α),runE (β:=Bool) (fun (_:Unit) x=>bif f x then .ok () else .error (some false)) (fun _=>some true) l () = some (l.all f)
 | []=>rfl
 | x :: xs=>by
  simp only [runE,List.all_cons]
  cases h:f x
  · rfl
  · simpa using runE_all f xs
theorem specBoxesOk_eq (fu:Nat) (p:Pallet) (l:List Box) (h:l.length ≤ 1048576) (hf:l.length < fu):d_spec_BoxesOk fu p l = some (boxesB p l):=by
 unfold d_spec_BoxesOk boxesB
 rw [specPalletOk_eq,ob_some]
 cases palletB p
 · rfl
 simp only [Bool.not_true,cond_false,Bool.true_and]
 rw [← runE_all]
 refine loopE l (fun n (_:Unit) i=>d_spec_BoxesOk_L1 fu p l n i) _ _ ?_ ?_ fu () hf
 · intro n s i x hx hi
   simp only [d_spec_BoxesOk_L1.eq_2]
   unfold d_spec_BoxesOk_L1_B d_spec_BoxesOk_J1
   rw [bif_true (by simpa using hi),ob_of (ix_at hx),w64_id (by omega) (by omega)]
   simp only [l1In_eq,ob_some,boxB]
   cases inB x.fW 1 p.fW <;> cases inB x.fD 1 p.fD <;> cases inB x.fH 1 p.fH <;> cases inB x.fGram 1 p.fGram <;> rfl
 · intro n s
   simp only [d_spec_BoxesOk_L1.eq_2]
   unfold d_spec_BoxesOk_L1_B
   rw [bif_false (by simp)]
theorem boxesOk1_eq (fu:Nat) (b:Box) (p:Pallet):d_impl_BoxesOk_1 fu b p = some (!boxB p b):=by
 unfold d_impl_BoxesOk_1 boxB
 simp only [in_eq,ob_some]
 cases inB b.fW 1 p.fW <;> cases inB b.fD 1 p.fD <;> cases inB b.fH 1 p.fH <;> rfl
theorem containsBox_eq (fu:Nat) (l:List Box) (f:Box → Option Bool) (g:Box → Bool) (hg:∀ b,f b = some (g b)) (h:l.length ≤ 1048576) (hf:l.length < fu) :
    d_slices_ContainsFunc_impl_Box_impl_Box fu l f = some (l.any g):=by
 unfold d_slices_ContainsFunc_impl_Box_impl_Box d_slices_IndexFunc_impl_Box_impl_Box
 have key:∀ (m i n:Nat),l.length - i = m → i ≤ l.length → m < n → ∃ r,d_slices_IndexFunc_impl_Box_impl_Box_L1 fu l f n i = some r ∧ decide (r ≥ 0) = (l.drop i).any g:=by
  intro m
  induction m with
  | zero =>
   intro i n hm hi hn
   obtain ⟨n,rfl⟩:∃ k,n = k + 1:=⟨n - 1,by omega⟩
   rw [d_slices_IndexFunc_impl_Box_impl_Box_L1.eq_2]
   unfold d_slices_IndexFunc_impl_Box_impl_Box_L1_B
   rw [bif_false (by simp; omega),List.drop_eq_nil_of_le (by omega)]
   exact ⟨_,rfl,rfl⟩
  | succ m ih =>
   intro i n hm hi hn
   obtain ⟨n,rfl⟩:∃ k,n = k + 1:=⟨n - 1,by omega⟩
   have hlt:i < l.length:=by omega
   rw [d_slices_IndexFunc_impl_Box_impl_Box_L1.eq_2]
   unfold d_slices_IndexFunc_impl_Box_impl_Box_L1_B
   rw [bif_true (by simpa using hlt),ob_of (ix_at (List.getElem?_eq_getElem hlt)),hg,ob_some,List.drop_eq_getElem_cons hlt,List.any_cons]
   cases hgx:g l[i]
   · rw [bif_false rfl,w64_id (by omega) (by omega),Bool.false_or]
     have:=ih (i + 1) n (by omega) (by omega) (by omega)
     simpa using this
   · rw [bif_true rfl]
     exact ⟨_,rfl,by simp⟩
 obtain ⟨r,h1,h2⟩:=key l.length 0 fu (by omega) (by omega) hf
 have h1':d_slices_IndexFunc_impl_Box_impl_Box_L1 fu l f fu 0 = some r:=h1
 rw [h1',ob_some,h2]
 rfl
theorem implBoxesOk_eq (fu:Nat) (p:Pallet) (l:List Box) (h:l.length ≤ 1048576) (hf:l.length < fu):d_impl_BoxesOk fu p l = some (boxesB p l):=by
 unfold d_impl_BoxesOk boxesB
 rw [implPalletOk_eq,ob_some]
 cases palletB p
 · rfl
 rw [bif_true rfl,containsBox_eq fu l _ (fun b=>!boxB p b) (fun b=>boxesOk1_eq fu b p) h hf,ob_some,Bool.true_and]
 congr 1
 induction l with
 | nil=>rfl
 | cons x xs ih =>
  simp only [List.any_cons,List.all_cons,Bool.not_or,Bool.not_not]
  rw [ih (by simp at h; omega) (by simp at hf; omega)]
end Go.Proofs.Ythddjkokpfdbnaa
/- Shelves and layers of impl. -/
namespace Go.Proofs.Ythddjkokpfdbnaa
open Go
open Enc (rd ow)
open Arg (argv)
open Ret (retv)
open Wf (wf)
theorem bos_eq (p:Pallet) (l:List Box):boxesB p l = bosB p l:=by
 have e:∀ a b c:Int,inB a b c = inb a b c:=fun a b c=>Bool.eq_iff_iff.2 (by rw [inB_iff,inb_iff])
 have e2:boxB p = bokB p:=by funext b; unfold boxB bokB; simp only [e]
 unfold boxesB bosB palletB palB
 simp only [e,e2]
theorem mx_if (a b:Int):(if b > a then b else a) = mxI a b:=by unfold mxI; split <;> split <;> omega
theorem setx_nat {α:Type} (l:List α) (j:Nat) (a:α):setx l (j:Int) a = l.set j a:=by simp [setx]
theorem i_shJ2 {fu:Nat} {k8:List Shelf → Int → Option (List Shelf)} {x i:Int} {b:Box} {o:List Shelf} {j:Nat} {s:Shelf} (hs:o[j]? = some s) (hl:s.fList.length ≤ 1000000)
    (h1:-1000000000 ≤ s.fW + b.fW ∧ s.fW + b.fW ≤ 1000000000) (h2:-1000000000 ≤ s.fGram + b.fGram ∧ s.fGram + b.fGram ≤ 1000000000):d_impl_Shelves_J2 fu k8 x i b o (j:Int) = k8 (o.set j (shAdd s i b)) (w64 (x + 1)):=by
 unfold d_impl_Shelves_J2 d_impl_Shelves_J1
 rw [ix_nat,hs,ob_some,ap1 (by simp; omega),ob_some]
 simp only [ob_some,setx_nat,List.set_set,mx_if]
 rw [w64_id (n:=s.fW + b.fW) (by omega) (by omega),w64_id (n:=s.fGram + b.fGram) (by omega) (by omega)]
 rfl
theorem i_shelves {fu:Nat} (hfu:2097153 ≤ fu) (p:Pallet) (l:List Box) (hl:l.length < 20):d_impl_Shelves fu p l = some (shM p l):=by
 unfold d_impl_Shelves shM
 rw [implBoxesOk_eq fu p l (by omega) (by omega),ob_some,bos_eq]
 cases hb:bosB p l
 · rfl
 · rw [Bool.not_true,cond_false,cond_true]
   have key:=lpI l (fun n (o:List Int) i=>d_impl_Shelves_L2 fu p l n o i) (fun xs o=>obind (d_impl_SortDown fu (o ++ xs.map (·.fD))) fun x=>d_impl_Shelves_L1 fu p l x fu [] 0) (fun xs o=>o.length + xs.length ≤ 1000) (by omega) ?_ ?_ fu [] (by simp; omega) (by omega)
   · rw [key,List.nil_append,i_down hfu (by simp; omega),ob_some,List.length_map]
     have hsl:=srt_len (dnk (l.map (·.fD))) l.length
     have hsm:=fun x=>srt_mem (k:=dnk (l.map (·.fD))) (n:=l.length) (x:=x)
     generalize srt (dnk (l.map (·.fD))) l.length = S at hsl hsm ⊢
     refine lpI S (fun n (o:List Shelf) i=>d_impl_Shelves_L1 fu p l S n o i) (fun xs o=>some (xs.foldl (shS p l) o)) (fun xs o=>(∀ i ∈ xs,0 ≤ i ∧ i < l.length) ∧ (∀ s ∈ o,ShI p l.length s) ∧ ((o.map (·.fList)).flatten).length + xs.length ≤ 1000 ∧ o.length + xs.length ≤ 1000) (by omega) ?_ ?_ fu [] ⟨fun i hi=>(hsm i).1 hi,by simp,by simp; omega,by simp; omega⟩ (by omega)
     · intro n o i x xs hx hd hI ih
       obtain ⟨i1,i2,i3,i4⟩:=hI
       simp only [List.length_cons] at i3 i4
       have hxi:=i1 x (by simp)
       obtain ⟨hbx,b1,b2,b3,b4⟩:=bok_at hb hxi
       obtain ⟨p1,p2,p3,p4⟩:=pal_bd (bos_pal hb)
       have hflat:((shS p l o x).map (·.fList)).flatten = (o.map (·.fList)).flatten ++ [x]:=nxG_flat (fun s=>rfl) rfl
       have hlen:(shS p l o x).length ≤ o.length + 1:=nxG_len _ _ _ _
       have ih':=ih (shS p l o x) ⟨fun j hj=>i1 j (by simp [hj]),shS_all hb hxi i2,by rw [hflat,List.length_append,List.length_singleton]; omega,by omega⟩
       simp only [d_impl_Shelves_L1.eq_2]
       unfold d_impl_Shelves_L1_B
       rw [hd,cond_true,hx,ob_some,hbx,ob_some,List.foldl_cons,← ih']
       have hnew:∀ o':List Shelf,o'.length ≤ 1000 → d_impl_Shelves_J2 fu (fun o i=>d_impl_Shelves_L1 fu p l S n o i) i x (bxA l x) (o' ++ [zSh]) ((o'.length:Nat):Int) = d_impl_Shelves_L1 fu p l S n (o' ++ [shAdd zSh x (bxA l x)]) (w64 (i + 1)):=fun o' ho'=>by
        rw [i_shJ2 (s:=zSh) (by simp) (by simp [zSh]) (by simp [zSh]; omega) (by simp [zSh]; omega)]
        simp
       by_cases he:o = []
       · subst he
         rw [bif_true (by decide),ap1 (by simp),ob_some]
         exact hnew [] (by simp)
       · obtain ⟨s,e1,e2⟩:=last_at he
         have hp:=List.length_pos_iff.2 he
         have hsm':=List.mem_of_getLast? e1
         have hs:=i2 s hsm'
         have hsl':=flat_le (fun s:Shelf=>s.fList) o s hsm'
         have eS:shS p l o x = bif shFit p (bxA l x) s then o.set (o.length - 1) (shAdd s x (bxA l x)) else o ++ [shAdd zSh x (bxA l x)]:=nxG_some e1
         have e3:w64 ((o.length:Int) - 1) = ((o.length - 1:Nat):Int):=by rw [w64_id (by omega) (by omega)]; omega
         have e4:w64 (((o.length - 1:Nat):Int) + 1) = ((o.length:Nat):Int):=by rw [w64_id (by omega) (by omega)]; omega
         have e5:o[o.length - 1]? = some s:=by rw [← List.getLast?_eq_getElem?]; exact e1
         obtain ⟨s1,s2,s3,s4,s5,s6⟩:=hs
         rw [e3,e4,bif_false (by simp),ix_nat,e5,ob_some,w64_id (n:=s.fW + _) (by omega) (by omega),w64_id (n:=s.fGram + _) (by omega) (by omega),ap1 (by simp; omega),ob_some,eS]
         unfold shFit
         have c1:decide (s.fW + (bxA l x).fW > p.fW) = !decide (s.fW + (bxA l x).fW ≤ p.fW):=by
          by_cases h:s.fW + (bxA l x).fW ≤ p.fW <;> simp [h] <;> omega
         have c2:decide (s.fGram + (bxA l x).fGram > p.fGram) = !decide (s.fGram + (bxA l x).fGram ≤ p.fGram):=by
          by_cases h:s.fGram + (bxA l x).fGram ≤ p.fGram <;> simp [h] <;> omega
         rw [c1,c2,ob_some]
         have h1:=hnew o (by omega)
         have h2:d_impl_Shelves_J2 fu (fun o i=>d_impl_Shelves_L1 fu p l S n o i) i x (bxA l x) o ((o.length - 1:Nat):Int) = d_impl_Shelves_L1 fu p l S n (o.set (o.length - 1) (shAdd s x (bxA l x))) (w64 (i + 1)):=i_shJ2 e5 (by omega) (by omega) (by omega)
         cases decide (s.fW + (bxA l x).fW ≤ p.fW)
         · exact h1
         · cases decide (s.fGram + (bxA l x).fGram ≤ p.fGram)
           · exact h1
           · exact h2
     · intro n o i hd _
       simp only [d_impl_Shelves_L1.eq_2]
       unfold d_impl_Shelves_L1_B
       rw [hd,cond_false]; rfl
   · intro n o i x xs hx hd hI ih
     simp only [List.length_cons] at hI
     simp only [d_impl_Shelves_L2.eq_2]
     unfold d_impl_Shelves_L2_B
     rw [hd,cond_true,hx,ob_some,ap1 (by simp; omega),ob_some,ih _ (by simp; omega)]
     simp
   · intro n o i hd _
     simp only [d_impl_Shelves_L2.eq_2]
     unfold d_impl_Shelves_L2_B
     rw [hd,cond_false]; simp
theorem i_lyJ2 {fu:Nat} {k7:List Layer → Int → Option (List Layer)} {i:Int} {b:Shelf} {o:List Layer} {j:Nat} {s:Layer} (hs:o[j]? = some s) (hl:s.fShelves.length ≤ 1000000)
    (h1:-1000000000 ≤ s.fD + b.fD ∧ s.fD + b.fD ≤ 1000000000) (h2:-1000000000 ≤ s.fGram + b.fGram ∧ s.fGram + b.fGram ≤ 1000000000):d_impl_LayersOf_J2 fu k7 i b o (j:Int) = k7 (o.set j (lyAdd s i b)) (w64 (i + 1)):=by
 unfold d_impl_LayersOf_J2 d_impl_LayersOf_J1
 rw [ix_nat,hs,ob_some,ap1 (by simp; omega),ob_some]
 simp only [ob_some,setx_nat,List.set_set,mx_if]
 rw [w64_id (n:=s.fD + b.fD) (by omega) (by omega),w64_id (n:=s.fGram + b.fGram) (by omega) (by omega)]
 rfl
theorem containsShelf_eq (fu:Nat) (l:List Shelf) (f:Shelf → Option Bool) (g:Shelf → Bool) (hg:∀ b,f b = some (g b)) (h:l.length ≤ 1048576) (hf:l.length < fu) :
    d_slices_ContainsFunc_impl_Shelf_impl_Shelf fu l f = some (l.any g):=by
 unfold d_slices_ContainsFunc_impl_Shelf_impl_Shelf d_slices_IndexFunc_impl_Shelf_impl_Shelf
 have key:∀ (m i n:Nat),l.length - i = m → i ≤ l.length → m < n → ∃ r,d_slices_IndexFunc_impl_Shelf_impl_Shelf_L1 fu l f n i = some r ∧ decide (r ≥ 0) = (l.drop i).any g:=by
  intro m
  induction m with
  | zero =>
   intro i n hm hi hn
   obtain ⟨n,rfl⟩:∃ k,n = k + 1:=⟨n - 1,by omega⟩
   rw [d_slices_IndexFunc_impl_Shelf_impl_Shelf_L1.eq_2]
   unfold d_slices_IndexFunc_impl_Shelf_impl_Shelf_L1_B
   rw [bif_false (by simp; omega),List.drop_eq_nil_of_le (by omega)]
   exact ⟨_,rfl,rfl⟩
  | succ m ih =>
   intro i n hm hi hn
   obtain ⟨n,rfl⟩:∃ k,n = k + 1:=⟨n - 1,by omega⟩
   have hlt:i < l.length:=by omega
   rw [d_slices_IndexFunc_impl_Shelf_impl_Shelf_L1.eq_2]
   unfold d_slices_IndexFunc_impl_Shelf_impl_Shelf_L1_B
   rw [bif_true (by simpa using hlt),ob_of (ix_at (List.getElem?_eq_getElem hlt)),hg,ob_some,List.drop_eq_getElem_cons hlt,List.any_cons]
   cases hgx:g l[i]
   · rw [bif_false rfl,w64_id (by omega) (by omega),Bool.false_or]
     have:=ih (i + 1) n (by omega) (by omega) (by omega)
     simpa using this
   · rw [bif_true rfl]
     exact ⟨_,rfl,by simp⟩
 obtain ⟨r,h1,h2⟩:=key l.length 0 fu (by omega) (by omega) hf
 have h1':d_slices_IndexFunc_impl_Shelf_impl_Shelf_L1 fu l f fu 0 = some r:=h1
 rw [h1',ob_some,h2]
 rfl
theorem i_sho {fu:Nat} (p:Pallet) (l:List Shelf) (hl:l.length ≤ 1048576) (hf:l.length < fu):d_impl_ShelvesOk fu p l = some (palB p && l.all fun s=>okL p s.fD s.fH s.fGram):=by
 unfold d_impl_ShelvesOk
 have e:∀ a b c:Int,inB a b c = inb a b c:=fun a b c=>Bool.eq_iff_iff.2 (by rw [inB_iff,inb_iff])
 have ep:palletB p = palB p:=by unfold palletB palB; simp only [e]
 rw [implPalletOk_eq,ob_some,ep,containsShelf_eq fu l _ (fun s=>!okL p s.fD s.fH s.fGram) (fun s=>by
  unfold d_impl_ShelvesOk_1 okL
  simp only [in_eq,ob_some,e]
  cases inb s.fD 1 p.fD <;> cases inb s.fH 1 p.fH <;> rfl) hl hf,ob_some]
 cases palB p
 · rfl
 · rw [cond_true,Bool.true_and]
   congr 1
   rw [Bool.eq_iff_iff]
   simp
theorem i_layers {fu:Nat} (hfu:2097153 ≤ fu) {p:Pallet} (hp:palB p = true) {l:List Shelf} (hb:OkS p l) (hl:l.length ≤ 1000):d_impl_LayersOf fu p l = some (lyM p l):=by
 unfold d_impl_LayersOf lyM
 rw [i_sho p l (by omega) (by omega),hp,okS_b hb,ob_some,Bool.and_self,Bool.not_true,cond_false]
 obtain ⟨p1,p2,p3,p4⟩:=pal_bd hp
 refine lpNI (l.length:Int) (fun n (o:List Layer) i=>d_impl_LayersOf_L1 fu p l n o i) (fun xs o=>some (xs.foldl (lyS p l) o)) (fun xs o=>(∀ s ∈ o,LyI p l.length s) ∧ ((o.map (·.fShelves)).flatten).length + xs.length ≤ 1000 ∧ o.length + xs.length ≤ 1000) (by omega) ?_ ?_ l.length fu [] 0 (by omega) (by omega) (by omega) ⟨by simp,by simp [ints_len]; omega,by simp [ints_len]; omega⟩
 · intro n o i xs x0 x1 hd hI ih
   obtain ⟨i2,i3,i4⟩:=hI
   simp only [List.length_cons] at i3 i4
   obtain ⟨hbx,b1,b2,b3,_⟩:=shA_at hb ⟨x0,x1⟩
   have hflat:((lyS p l o i).map (·.fShelves)).flatten = (o.map (·.fShelves)).flatten ++ [i]:=nxG_flat (fun s=>rfl) rfl
   have hlen:(lyS p l o i).length ≤ o.length + 1:=nxG_len _ _ _ _
   have ih':=ih (lyS p l o i) ⟨lyS_all hb ⟨x0,x1⟩ i2,by rw [hflat,List.length_append,List.length_singleton]; omega,by omega⟩
   simp only [d_impl_LayersOf_L1.eq_2]
   unfold d_impl_LayersOf_L1_B
   rw [hd,cond_true,hbx,ob_some,List.foldl_cons,← ih']
   have hnew:∀ o':List Layer,o'.length ≤ 1000 → d_impl_LayersOf_J2 fu (fun o i=>d_impl_LayersOf_L1 fu p l n o i) i (shA l i) (o' ++ [zLy]) ((o'.length:Nat):Int) = d_impl_LayersOf_L1 fu p l n (o' ++ [lyAdd zLy i (shA l i)]) (w64 (i + 1)):=fun o' ho'=>by
    rw [i_lyJ2 (s:=zLy) (by simp) (by simp [zLy]) (by simp [zLy]; omega) (by simp [zLy]; omega)]
    simp
   by_cases he:o = []
   · subst he
     rw [bif_true (by decide),ap1 (by simp),ob_some]
     exact hnew [] (by simp)
   · obtain ⟨s,e1,e2⟩:=last_at he
     have hp:=List.length_pos_iff.2 he
     have hsm':=List.mem_of_getLast? e1
     have hs:=i2 s hsm'
     have hsl':=flat_le (fun s:Layer=>s.fShelves) o s hsm'
     have eS:lyS p l o i = bif lyFit p (shA l i) s then o.set (o.length - 1) (lyAdd s i (shA l i)) else o ++ [lyAdd zLy i (shA l i)]:=nxG_some e1
     have e3:w64 ((o.length:Int) - 1) = ((o.length - 1:Nat):Int):=by rw [w64_id (by omega) (by omega)]; omega
     have e4:w64 (((o.length - 1:Nat):Int) + 1) = ((o.length:Nat):Int):=by rw [w64_id (by omega) (by omega)]; omega
     have e5:o[o.length - 1]? = some s:=by rw [← List.getLast?_eq_getElem?]; exact e1
     obtain ⟨s1,s2,s4,s5,s6⟩:=hs
     rw [e3,e4,bif_false (by simp),ix_nat,e5,ob_some,w64_id (n:=s.fD + _) (by omega) (by omega),w64_id (n:=s.fGram + _) (by omega) (by omega),ap1 (by simp; omega),ob_some,eS]
     unfold lyFit
     have c1:decide (s.fD + (shA l i).fD > p.fD) = !decide (s.fD + (shA l i).fD ≤ p.fD):=by
      by_cases h:s.fD + (shA l i).fD ≤ p.fD <;> simp [h] <;> omega
     have c2:decide (s.fGram + (shA l i).fGram > p.fGram) = !decide (s.fGram + (shA l i).fGram ≤ p.fGram):=by
      by_cases h:s.fGram + (shA l i).fGram ≤ p.fGram <;> simp [h] <;> omega
     rw [c1,c2,ob_some]
     have h1:=hnew o (by omega)
     have h2:d_impl_LayersOf_J2 fu (fun o i=>d_impl_LayersOf_L1 fu p l n o i) i (shA l i) o ((o.length - 1:Nat):Int) = d_impl_LayersOf_L1 fu p l n (o.set (o.length - 1) (lyAdd s i (shA l i))) (w64 (i + 1)):=i_lyJ2 e5 (by omega) (by omega) (by omega)
     cases decide (s.fD + (shA l i).fD ≤ p.fD)
     · exact h1
     · cases decide (s.fGram + (shA l i).fGram ≤ p.fGram)
       · exact h1
       · exact h2
 · intro n o i hd _
   simp only [d_impl_LayersOf_L1.eq_2]
   unfold d_impl_LayersOf_L1_B
   rw [hd,cond_false]; rfl
end Go.Proofs.Ythddjkokpfdbnaa
/- AreaOf of spec and of impl. -/
namespace Go.Proofs.Ythddjkokpfdbnaa
open Go
open Enc (rd ow)
open Arg (argv)
open Ret (retv)
open Wf (wf)
def boxArea (b:Box):Int:=if inB b.fW 0 2000 = true ∧ inB b.fD 0 2000 = true then b.fW * b.fD else 0
theorem boxArea_le (b:Box):0 ≤ boxArea b ∧ boxArea b ≤ 4000000:=by
 unfold boxArea
 by_cases h:inB b.fW 0 2000 = true ∧ inB b.fD 0 2000 = true
 · rw [if_pos h]
   simp only [inB_iff] at h
   refine ⟨Int.mul_nonneg h.1.1 h.2.1,?_⟩
   have:=Int.mul_le_mul h.1.2 h.2.2 h.2.1 (by omega:(0:Int) ≤ 2000)
   omega
 · rw [if_neg h]; omega
def areaOf (l:List Box):Int:=l.foldl (fun n b=>n + boxArea b) 0
theorem specAreaOf_eq (fu:Nat) (l:List Box) (h:l.length ≤ 1048576) (hf:l.length < fu):d_spec_AreaOf fu l = some (areaOf l):=by
 unfold d_spec_AreaOf
 refine (loopI l (fun n s i=>d_spec_AreaOf_L1 fu l n s i) (fun n b=>n + boxArea b) some (fun i n=>0 ≤ n ∧ n ≤ i * 4000000) ?_ ?_ fu 0 (by simp) hf).1
 · intro n s i x hx hi hI
   have hb:=boxArea_le x
   have hI1:=hI.1
   have hI2:=hI.2
   have he:w64 ((i:Int) + 1) = ((i + 1:Nat):Int):=by rw [w64_id (by omega) (by omega)]; omega
   refine ⟨?_,by omega,by push_cast; omega⟩
   simp only [d_spec_AreaOf_L1.eq_2]
   unfold d_spec_AreaOf_L1_B d_spec_AreaOf_J1
   rw [bif_true (by simpa using hi)]
   simp only [ob_of (ix_at hx),l1In_eq,ob_some,he]
   unfold boxArea at hb ⊢
   cases h1:inB x.fW 0 2000
   · simp
   · cases h2:inB x.fD 0 2000
     · simp
     · rw [if_pos ⟨h1,h2⟩] at hb
       simp only [cond_true,and_self,if_true]
       rw [w64_id (n:=x.fW * x.fD) (by omega) (by omega),w64_id (by omega) (by omega)]
 · intro n s hI
   simp only [d_spec_AreaOf_L1.eq_2]
   unfold d_spec_AreaOf_L1_B
   rw [bif_false (by simp)]
theorem implVolume1_eq (fu:Nat) (b:Box):d_impl_Volume fu b.fW 1 b.fD = some (boxArea b):=by
 have hb:=boxArea_le b
 unfold d_impl_Volume d_impl_Volume_J1
 simp only [in_eq,ob_some]
 unfold boxArea at hb ⊢
 cases h1:inB b.fW 0 2000
 · simp
 · cases h2:inB b.fD 0 2000
   · have:inB 1 0 2000 = true:=by decide
     simp [this]
   · have:inB 1 0 2000 = true:=by decide
     rw [if_pos ⟨h1,h2⟩] at hb
     simp only [this,Bool.not_true,cond_false,and_self,if_true,Int.mul_one]
     rw [w64_id (n:=b.fW) (by simp only [inB_iff] at h1; omega) (by simp only [inB_iff] at h1; omega),w64_id (by omega) (by omega)]
theorem implAreaOf_eq (fu:Nat) (l:List Box) (h:l.length ≤ 1048576) (hf:l.length < fu):d_impl_AreaOf fu l = some (areaOf l):=by
 unfold d_impl_AreaOf
 refine (loopI l (fun n s i=>d_impl_AreaOf_L1 fu l n s i) (fun n b=>n + boxArea b) some (fun i n=>0 ≤ n ∧ n ≤ i * 4000000) ?_ ?_ fu 0 (by simp) hf).1
 · intro n s i x hx hi hI
   have hb:=boxArea_le x
   have hI1:=hI.1
   have hI2:=hI.2
   have he:w64 ((i:Int) + 1) = ((i + 1:Nat):Int):=by rw [w64_id (by omega) (by omega)]; omega
   refine ⟨?_,by omega,by push_cast; omega⟩
   simp only [d_impl_AreaOf_L1.eq_2]
   unfold d_impl_AreaOf_L1_B
   rw [bif_true (by simpa using hi)]
   simp only [ob_of (ix_at hx),implVolume1_eq,ob_some,he]
   rw [w64_id (n:=s + boxArea x) (by omega) (by omega)]
 · intro n s hI
   simp only [d_impl_AreaOf_L1.eq_2]
   unfold d_impl_AreaOf_L1_B
   rw [bif_false (by simp)]
end Go.Proofs.Ythddjkokpfdbnaa
/- Deepest of spec and of impl. -/
namespace Go.Proofs.Ythddjkokpfdbnaa
open Go
open Enc (rd ow)
open Arg (argv)
open Ret (retv)
open Wf (wf)
def deepest (l:List Box):Int:=l.foldl (fun n b=>if b.fD > n then b.fD else n) 0
theorem implDeepest_eq (fu:Nat) (l:List Box) (h:l.length ≤ 1048576) (hf:l.length < fu):d_impl_Deepest fu l = some (deepest l):=by
 unfold d_impl_Deepest
 rw [loopF l (fun n s i=>d_impl_Deepest_L1 fu l n s i) (fun n b=>if b.fD > n then b.fD else n) some ?_ ?_ fu 0 hf]
 · rfl
 · intro n s i x hx hi
   simp only [d_impl_Deepest_L1.eq_2]
   unfold d_impl_Deepest_L1_B
   rw [bif_true (by simpa using hi),ob_of (ix_at hx),w64_id (by omega) (by omega)]
   rfl
 · intro n s
   simp only [d_impl_Deepest_L1.eq_2]
   unfold d_impl_Deepest_L1_B
   rw [bif_false (by simp)]
theorem max_eq (fu:Nat) (a b:Int):d_spec_l1Max fu a b = some (if b > a then b else a):=by
 unfold d_spec_l1Max
 by_cases h:a > b
 · rw [bif_true (by simpa using h),if_neg (by omega)]
 · rw [bif_false (by simpa using h)]
   by_cases h':b > a
   · rw [if_pos h']
   · rw [if_neg h',show a = b by omega]
theorem specDeepest_eq (fu:Nat) (l:List Box) (h:l.length ≤ 1048576) (hf:l.length < fu):d_spec_Deepest fu l = some (deepest l):=by
 unfold d_spec_Deepest
 rw [loopF l (fun n s i=>d_spec_Deepest_L1 fu l n s i) (fun n b=>if b.fD > n then b.fD else n) some ?_ ?_ fu 0 hf]
 · rfl
 · intro n s i x hx hi
   simp only [d_spec_Deepest_L1.eq_2]
   unfold d_spec_Deepest_L1_B
   rw [bif_true (by simpa using hi),ob_of (ix_at hx),w64_id (by omega) (by omega),max_eq]
   rfl
 · intro n s
   simp only [d_spec_Deepest_L1.eq_2]
   unfold d_spec_Deepest_L1_B
   rw [bif_false (by simp)]
end Go.Proofs.Ythddjkokpfdbnaa
/- The plain law of FnExactLight. -/
namespace Go.Proofs.Ythddjkokpfdbnaa
open Go
open Enc (rd ow)
open Arg (argv)
open Ret (retv)
open Wf (wf)
def gramSum (l:List Box) (n:Int):Int:=l.foldl (fun n b=>w64 (n + b.fGram)) n
theorem specLight_eq (fu:Nat) (p:Pallet) (l:List Box) (h:l.length ≤ 1048576) (hf:l.length < fu) :
    d_spec_Light fu p l = some (boxesB p l && decide (gramSum l 0 ≤ p.fGram)):=by
 unfold d_spec_Light
 rw [specBoxesOk_eq fu p l h hf,ob_some]
 cases boxesB p l
 · rfl
 simp only [Bool.not_true,cond_false,Bool.true_and]
 rw [loopF l (fun n s i=>d_spec_Light_L1 fu p l n s i) (fun n b=>w64 (n + b.fGram)) (fun n=>some (decide (n ≤ p.fGram))) ?_ ?_ fu 0 hf]
 · rfl
 · intro n s i x hx hi
   simp only [d_spec_Light_L1.eq_2]
   unfold d_spec_Light_L1_B
   rw [bif_true (by simpa using hi),ob_of (ix_at hx),w64_id (n:=(i:Int) + 1) (by omega) (by omega)]
   rfl
 · intro n s
   simp only [d_spec_Light_L1.eq_2]
   unfold d_spec_Light_L1_B
   rw [bif_false (by simp)]
theorem implLight_eq (fu:Nat) (p:Pallet) (l:List Box) (h:l.length ≤ 1048576) (hf:l.length < fu) :
    d_impl_Light fu p l = some (boxesB p l && decide (l.foldl (fun n b=>w64 (n + (if 100000 < b.fGram then 100000 else b.fGram))) 0 ≤ p.fGram)):=by
 unfold d_impl_Light
 rw [loopF l (fun n s i=>d_impl_Light_L1 fu p l n s i) (fun n b=>w64 (n + (if 100000 < b.fGram then 100000 else b.fGram))) (fun n=>some (boxesB p l && decide (n ≤ p.fGram))) ?_ ?_ fu 0 hf]
 · intro n s i x hx hi
   simp only [d_impl_Light_L1.eq_2]
   unfold d_impl_Light_L1_B
   rw [bif_true (by simpa using hi),ob_of (ix_at hx),w64_id (n:=(i:Int) + 1) (by omega) (by omega)]
   rfl
 · intro n s
   simp only [d_impl_Light_L1.eq_2]
   unfold d_impl_Light_L1_B
   rw [bif_false (by simp),implBoxesOk_eq fu p l h hf,ob_some]
   cases boxesB p l <;> rfl
theorem light_eq (fu:Nat) (p:Pallet) (l:List Box) (h:l.length ≤ 1048576) (hf:l.length < fu):d_impl_Light fu p l = d_spec_Light fu p l:=by
 rw [specLight_eq fu p l h hf,implLight_eq fu p l h hf]
 cases hb:boxesB p l
 · rfl
 congr 2
 unfold gramSum
 have hall:∀ b ∈ l,b.fGram ≤ 100000:=by
  simp only [boxesB,palletB,Bool.and_eq_true,List.all_eq_true,boxB,inB_iff] at hb
  intro b hm
  have:=(hb.2 b hm).2.2.2
  omega
 have:∀ (l:List Box) (n:Int),(∀ b ∈ l,b.fGram ≤ 100000) → l.foldl (fun n b=>w64 (n + (if 100000 < b.fGram then 100000 else b.fGram))) n = l.foldl (fun n b=>w64 (n + b.fGram)) n:=by
  intro l
  induction l with
  | nil=>intro _ _; rfl
  | cons x xs ih =>
   intro n hx
   simp only [List.foldl_cons]
   rw [if_neg (by have:=hx x (by simp); omega)]
   exact ih _ (fun b hb=>hx b (by simp [hb]))
 rw [this l 0 hall]
end Go.Proofs.Ythddjkokpfdbnaa
