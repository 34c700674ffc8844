import Derived.Test.YtkkfmjpbiimkbaaGreatExactDroppedD
import Derived.Test.YtkkfmjpbiimkbaaGreatExactFeasibleBP2
set_option linter.unusedSimpArgs false
set_option linter.unusedVariables false
/- What is marked: orders, lists of numbers, lists of lists. -/
namespace Go.Proofs.YtkkfmjpbiimkbaaGreat
open Go
open Enc (rd ow)
open Arg (argv)
open Ret (retv)
open Wf (wf)
theorem markPairS (fu:Nat) (l:List Pair) (kv:Int) (hl:l.length ≤ 1048576) (h0:0 ≤ kv) (h1:kv ≤ 68719476736) (hn:l.length < fu):∃ x',d_laws_markPairS fu l kv = some (kv + 2 * l.length,x'):=by
 refine mark_loop 2 (by omega) (fun n x kv i=>d_laws_markPairS_L1 fu n x kv i) ?_ ?_ l kv fu hl h0 h1 hn
 · intro n x kv i y hy hd h0 h1
   have e1:w64 (kv + 1) = kv + 1:=w64_id (by omega) (by omega)
   have e2:w64 (kv + 1 + 1) = kv + 1 + 1:=w64_id (by omega) (by omega)
   have e':kv + 1 + 1 = kv + 2:=by omega
   refine ⟨?_,?_,?_⟩
   rotate_left 2
   · simp only [d_laws_markPairS_L1_s]
     unfold d_laws_markPairS_L1_B
     simp only [hd,cond_true,hy,ob_some,ix_setx_eq,Option.map_some,e1,e2]
     rw [e']
     rfl
   · simp [setx_len]
 · intro n x kv i hd
   simp only [d_laws_markPairS_L1_s]
   unfold d_laws_markPairS_L1_B
   simp only [hd,cond_false]
theorem markTypeS (fu:Nat) (l:List Typ) (kv:Int) (hl:l.length ≤ 1048576) (h0:0 ≤ kv) (h1:kv ≤ 68719476736) (hn:l.length < fu):∃ x',d_laws_markTypeS fu l kv = some (kv + 7 * l.length,x'):=by
 refine mark_loop 7 (by omega) (fun n x kv i=>d_laws_markTypeS_L1 fu n x kv i) ?_ ?_ l kv fu hl h0 h1 hn
 · intro n x kv i y hy hd h0 h1
   have e1:w64 (kv + 1) = kv + 1:=w64_id (by omega) (by omega)
   have e2:w64 (kv + 1 + 1) = kv + 1 + 1:=w64_id (by omega) (by omega)
   have e3:w64 (kv + 1 + 1 + 1) = kv + 1 + 1 + 1:=w64_id (by omega) (by omega)
   have e4:w64 (kv + 1 + 1 + 1 + 1) = kv + 1 + 1 + 1 + 1:=w64_id (by omega) (by omega)
   have e5:w64 (kv + 1 + 1 + 1 + 1 + 1) = kv + 1 + 1 + 1 + 1 + 1:=w64_id (by omega) (by omega)
   have e6:w64 (kv + 1 + 1 + 1 + 1 + 1 + 1) = kv + 1 + 1 + 1 + 1 + 1 + 1:=w64_id (by omega) (by omega)
   have e7:w64 (kv + 1 + 1 + 1 + 1 + 1 + 1 + 1) = kv + 1 + 1 + 1 + 1 + 1 + 1 + 1:=w64_id (by omega) (by omega)
   have e':kv + 1 + 1 + 1 + 1 + 1 + 1 + 1 = kv + 7:=by omega
   refine ⟨?_,?_,?_⟩
   rotate_left 2
   · simp only [d_laws_markTypeS_L1_s]
     unfold d_laws_markTypeS_L1_B
     simp only [hd,cond_true,hy,ob_some,ix_setx_eq,Option.map_some,e1,e2,e3,e4,e5,e6,e7]
     rw [e']
     rfl
   · simp [setx_len]
 · intro n x kv i hd
   simp only [d_laws_markTypeS_L1_s]
   unfold d_laws_markTypeS_L1_B
   simp only [hd,cond_false]
theorem markItemS (fu:Nat) (l:List Item) (kv:Int) (hl:l.length ≤ 1048576) (h0:0 ≤ kv) (h1:kv ≤ 68719476736) (hn:l.length < fu):∃ x',d_laws_markItemS fu l kv = some (kv + 7 * l.length,x'):=by
 refine mark_loop 7 (by omega) (fun n x kv i=>d_laws_markItemS_L1 fu n x kv i) ?_ ?_ l kv fu hl h0 h1 hn
 · intro n x kv i y hy hd h0 h1
   have e1:w64 (kv + 1) = kv + 1:=w64_id (by omega) (by omega)
   have e2:w64 (kv + 1 + 1) = kv + 1 + 1:=w64_id (by omega) (by omega)
   have e3:w64 (kv + 1 + 1 + 1) = kv + 1 + 1 + 1:=w64_id (by omega) (by omega)
   have e4:w64 (kv + 1 + 1 + 1 + 1) = kv + 1 + 1 + 1 + 1:=w64_id (by omega) (by omega)
   have e5:w64 (kv + 1 + 1 + 1 + 1 + 1) = kv + 1 + 1 + 1 + 1 + 1:=w64_id (by omega) (by omega)
   have e6:w64 (kv + 1 + 1 + 1 + 1 + 1 + 1) = kv + 1 + 1 + 1 + 1 + 1 + 1:=w64_id (by omega) (by omega)
   have e7:w64 (kv + 1 + 1 + 1 + 1 + 1 + 1 + 1) = kv + 1 + 1 + 1 + 1 + 1 + 1 + 1:=w64_id (by omega) (by omega)
   have e':kv + 1 + 1 + 1 + 1 + 1 + 1 + 1 = kv + 7:=by omega
   refine ⟨?_,?_,?_⟩
   rotate_left 2
   · simp only [d_laws_markItemS_L1_s]
     unfold d_laws_markItemS_L1_B
     simp only [hd,cond_true,hy,ob_some,ix_setx_eq,Option.map_some,e1,e2,e3,e4,e5,e6,e7]
     rw [e']
     rfl
   · simp [setx_len]
 · intro n x kv i hd
   simp only [d_laws_markItemS_L1_s]
   unfold d_laws_markItemS_L1_B
   simp only [hd,cond_false]
theorem markReq {fu:Nat} {r:Request} (h:Sm fu r) (kv:Int) (h0:0 ≤ kv) (h1:kv ≤ 1073741824):∃ k x',d_laws_markRequest fu r kv = some (k,x') ∧ 0 ≤ k ∧ k ≤ kv + 16777216:=by
 have hfu:=h.fu
 have a1:=h.items
 have a2:=h.types
 have a3:=h.pairs
 unfold d_laws_markRequest
 obtain ⟨x1,e1⟩:=markPairS fu r.fPairs kv a3 h0 (by omega) (by omega)
 rw [e1,ob_some]
 obtain ⟨x2,e2⟩:=markTypeS fu r.fTypes (kv + 2 * r.fPairs.length) a2 (by omega) (by omega) (by omega)
 rw [e2,ob_some]
 obtain ⟨x3,e3⟩:=markItemS fu r.fItems (kv + 2 * r.fPairs.length + 7 * r.fTypes.length) a1 (by omega) (by omega) (by omega)
 rw [e3,ob_some]
 exact ⟨_,_,rfl,by omega,by omega⟩
end Go.Proofs.YtkkfmjpbiimkbaaGreat
/- What is marked: lists of numbers. -/
namespace Go.Proofs.YtkkfmjpbiimkbaaGreat
open Go
open Enc (rd ow)
open Arg (argv)
open Ret (retv)
open Wf (wf)
theorem markIntS (fu:Nat) (l:List Int) (kv:Int) (hl:l.length ≤ 1048576) (h0:0 ≤ kv) (h1:kv ≤ 68719476736) (hn:l.length < fu):d_laws_markIntS fu l kv = some (kv + l.length,ints kv l.length):=by
 unfold d_laws_markIntS
 have key:∀ (xs pre:List Int) (n:Nat) (k:Int),pre.length + xs.length = l.length → xs.length < n → 0 ≤ k → k + xs.length ≤ 1099511627776 →
     d_laws_markIntS_L1 fu n (pre ++ xs) k (pre.length:Int) = some (k + xs.length,pre ++ ints k xs.length):=by
  intro xs
  induction xs with
  | nil =>
   intro pre n k h hn h0 h1
   obtain ⟨n,rfl⟩:∃ j,n = j + 1:=⟨n - 1,by omega⟩
   rw [d_laws_markIntS_L1_s]
   unfold d_laws_markIntS_L1_B
   rw [bif_false (by simp)]
   simp [ints]
  | cons x xs ih =>
   intro pre n k h hn h0 h1
   obtain ⟨n,rfl⟩:∃ j,n = j + 1:=⟨n - 1,by simp at hn; omega⟩
   simp only [List.length_cons] at h h1 hn
   rw [d_laws_markIntS_L1_s]
   unfold d_laws_markIntS_L1_B
   have e:ix (pre ++ x :: xs) (pre.length:Int) = some x:=by rw [ix_nat]; simp
   rw [bif_true (by simp; omega),e,ob_some,w64_id (n:=k + 1) (by omega) (by omega),w64_s _ (by omega)]
   have e2:setx (pre ++ x :: xs) (pre.length:Int) k = (pre ++ [k]) ++ xs:=by simp [setx]
   have:=ih (pre ++ [k]) n (k + 1) (by simp; omega) (by omega) (by omega) (by omega)
   simp only [List.length_append,List.length_singleton] at this
   rw [e2,this]
   simp only [List.length_cons,ints,List.append_assoc,List.singleton_append]
   congr 2
   omega
 have:=key l [] fu kv (by simp) hn h0 (by omega)
 simpa using this
end Go.Proofs.YtkkfmjpbiimkbaaGreat
/- Lists of cartons in the laws: their size, copies, equality, marks. -/
namespace Go.Proofs.YtkkfmjpbiimkbaaGreat
open Go
open Enc (rd ow)
open Arg (argv)
open Ret (retv)
open Wf (wf)
theorem markCarS (fu:Nat) (l:List Carton) (kv:Int) (hl:l.length ≤ 1048576) (hm:∀ x ∈ l,x.fUnits.length ≤ 1048576) (hs:lensC l ≤ 1073741824) (h0:0 ≤ kv) (h1:kv ≤ 1073741824) (hf:1048577 ≤ fu) :
    ∃ k x',d_laws_markCartonS fu l kv = some (k,x') ∧ 0 ≤ k ∧ k = kv + 2 * l.length + lensC l:=by
 unfold d_laws_markCartonS
 have key:∀ (xs pre:List Carton) (n:Nat) (k:Int),pre.length + xs.length = l.length → xs.length < n → 0 ≤ k → k + 2 * xs.length + lensC xs ≤ 4294967296 → (∀ x ∈ xs,x.fUnits.length ≤ 1048576) →
     ∃ x',d_laws_markCartonS_L1 fu n (pre ++ xs) k (pre.length:Int) = some (k + 2 * xs.length + lensC xs,x'):=by
  intro xs
  induction xs with
  | nil =>
   intro pre n k h hn h0 h1 hm
   obtain ⟨n,rfl⟩:∃ j,n = j + 1:=⟨n - 1,by omega⟩
   rw [d_laws_markCartonS_L1_s]
   unfold d_laws_markCartonS_L1_B
   rw [bif_false (by simp)]
   exact ⟨pre,by simp [lensC]⟩
  | cons x xs ih =>
   intro pre n k h hn h0 h1 hm
   obtain ⟨n,rfl⟩:∃ j,n = j + 1:=⟨n - 1,by simp at hn; omega⟩
   simp only [List.length_cons,lensC] at h h1 hn
   have hx:=hm x (by simp)
   rw [d_laws_markCartonS_L1_s]
   unfold d_laws_markCartonS_L1_B
   have e:ix (pre ++ x :: xs) (pre.length:Int) = some x:=by rw [ix_nat]; simp
   have e1:w64 (k + 1) = k + 1:=w64_id (by omega) (by omega)
   have e2:w64 (k + 1 + 1) = k + 1 + 1:=w64_id (by omega) (by omega)
   have em:=markIntS fu x.fUnits (k + 1 + 1) hx (by omega) (by omega) (by omega)
   rw [bif_true (by simp; omega)]
   simp only [e,ob_some,ix_setx_eq,Option.map_some,e1,e2,em]
   rw [w64_s _ (by omega)]
   have e3:∀ y:Carton,setx (setx (setx (pre ++ x :: xs) (pre.length:Int) ⟨k,x.fGroup,x.fUnits⟩) (pre.length:Int) ⟨k,k + 1,x.fUnits⟩) (pre.length:Int) y = (pre ++ [y]) ++ xs:=by intro y; simp [setx]
   rw [e3]
   have:=ih (pre ++ [⟨k,k + 1,ints (k + 1 + 1) x.fUnits.length⟩]) n (k + 1 + 1 + x.fUnits.length) (by simp; omega) (by omega) (by omega) (by omega) (fun y hy=>hm y (by simp [hy]))
   simp only [List.length_append,List.length_singleton] at this
   obtain ⟨x',hx'⟩:=this
   refine ⟨x',hx'.trans ?_⟩
   simp only [List.length_cons,lensC]
   congr 2
   omega
 obtain ⟨x',hx'⟩:=key l [] fu kv (by simp) (by omega) h0 (by omega) hm
 exact ⟨_,x',by simpa using hx',by omega,rfl⟩
end Go.Proofs.YtkkfmjpbiimkbaaGreat
/- Plans in the laws: their size, copies, equality, marks. -/
namespace Go.Proofs.YtkkfmjpbiimkbaaGreat
open Go
open Enc (rd ow)
open Arg (argv)
open Ret (retv)
open Wf (wf)
theorem markSpotS (fu:Nat) (l:List Spot) (kv:Int) (hl:l.length ≤ 1048576) (h0:0 ≤ kv) (h1:kv ≤ 68719476736) (hn:l.length < fu):∃ x',d_laws_markSpotS fu l kv = some (kv + 4 * l.length,x'):=by
 refine mark_loop 4 (by omega) (fun n x kv i=>d_laws_markSpotS_L1 fu n x kv i) ?_ ?_ l kv fu hl h0 h1 hn
 · intro n x kv i y hy hd h0 h1
   have e1:w64 (kv + 1) = kv + 1:=w64_id (by omega) (by omega)
   have e2:w64 (kv + 1 + 1) = kv + 1 + 1:=w64_id (by omega) (by omega)
   have e3:w64 (kv + 1 + 1 + 1) = kv + 1 + 1 + 1:=w64_id (by omega) (by omega)
   have e4:w64 (kv + 1 + 1 + 1 + 1) = kv + 1 + 1 + 1 + 1:=w64_id (by omega) (by omega)
   have e':kv + 1 + 1 + 1 + 1 = kv + 4:=by omega
   refine ⟨?_,?_,?_⟩
   rotate_left 2
   · simp only [d_laws_markSpotS_L1_s]
     unfold d_laws_markSpotS_L1_B
     simp only [hd,cond_true,hy,ob_some,ix_setx_eq,Option.map_some,e1,e2,e3,e4]
     rw [e']
     rfl
   · simp [setx_len]
 · intro n x kv i hd
   simp only [d_laws_markSpotS_L1_s]
   unfold d_laws_markSpotS_L1_B
   simp only [hd,cond_false]
theorem markPln {fu:Nat} {x:Plan} (h:Sp x) (hf:1048577 ≤ fu) (kv:Int) (h0:0 ≤ kv) (h1:kv ≤ 1073741824):∃ k x',d_laws_markPlan fu x kv = some (k,x') ∧ 0 ≤ k ∧ k ≤ kv + 16777216:=by
 have hs:=h.spots
 have hc:=h.cars
 have ha:=h.all
 unfold d_laws_markPlan
 obtain ⟨k,x1,e1,e2,e3⟩:=markCarS fu x.fCartons kv hc h.units (by omega) h0 h1 hf
 rw [e1,ob_some]
 obtain ⟨x2,e4⟩:=markSpotS fu x.fSpots k hs e2 (by omega) (by omega)
 simp only [e4,ob_some]
 exact ⟨_,_,rfl,by omega,by omega⟩
end Go.Proofs.YtkkfmjpbiimkbaaGreat
/- Copies of plans; plans that are turned: by spec and by impl. -/
namespace Go.Proofs.YtkkfmjpbiimkbaaGreat
open Go
open Enc (rd ow)
open Arg (argv)
open Ret (retv)
open Wf (wf)
theorem i_cloneC {fu:Nat} {l:List Carton} (hl:l.length ≤ 1048576) (hm:∀ c ∈ l,c.fUnits.length ≤ 1048576) (hf:1048577 ≤ fu):d_impl_cloneCartons fu l = some l:=by
 unfold d_impl_cloneCartons
 have key:=lpI l (fun n (o:List Carton) i=>d_impl_cloneCartons_L1 fu l n o i) (fun xs o=>some (o ++ xs)) (fun xs o=>o.length + xs.length ≤ 1048576 ∧ ∀ c ∈ xs,c.fUnits.length ≤ 1048576) (by omega) ?_ ?_ fu [] ⟨by simp; omega,hm⟩ (by omega)
 · simpa using key
 · intro n o i c xs hx hd hI ih
   have hI1:=hI.1
   have hu:=hI.2 c (by simp)
   simp only [List.length_cons] at hI1
   simp only [d_impl_cloneCartons_L1_s]
   unfold d_impl_cloneCartons_L1_B d_slices_Clone_int_int
   rw [hd,cond_true,hx,ob_some,ap1 (by simp; omega),ob_some,ob_some,ap1 (by simp; omega),ob_some,ih _ ⟨by simp; omega,fun d hd=>hI.2 d (by simp [hd])⟩]
   simp
 · intro n o i hd _
   simp only [d_impl_cloneCartons_L1_s]
   unfold d_impl_cloneCartons_L1_B
   rw [hd,cond_false]; simp
theorem i_cloneP {fu:Nat} {x:Plan} (h:Sp x) (hf:1048577 ≤ fu):d_impl_clonePlan fu x = some x:=by
 have hs:=h.spots
 unfold d_impl_clonePlan d_slices_Clone_impl_Spot_impl_Spot
 rw [i_cloneC h.cars h.units hf,ob_some,ap1 (by simp; omega)]
 simp
theorem s_copyP {fu:Nat} {x:Plan} (h:Sp x) (hf:1048577 ≤ fu):d_spec_l13Copy fu x = some x:=by
 have hs:=h.spots
 have hc:=h.cars
 unfold d_spec_l13Copy
 rw [ap1 (by simp; omega),ob_some,List.nil_append]
 have key:=lpI x.fCartons (fun n (o:List Carton) i=>d_spec_l13Copy_L1 fu x x.fSpots n o i) (fun xs o=>some (⟨o ++ xs,x.fSpots⟩:Plan)) (fun xs o=>o.length + xs.length ≤ 1048576 ∧ ∀ c ∈ xs,c.fUnits.length ≤ 1048576) (by omega) ?_ ?_ fu [] ⟨by simp; omega,h.units⟩ (by omega)
 · simpa using key
 · intro n o i c xs hx hd hI ih
   have hI1:=hI.1
   have hu:=hI.2 c (by simp)
   simp only [List.length_cons] at hI1
   simp only [d_spec_l13Copy_L1_s]
   unfold d_spec_l13Copy_L1_B d_spec_l9Carton
   rw [hd,cond_true,hx,ob_some,ap1 (by simp; omega),ob_some,ob_some,ap1 (by simp; omega),ob_some,ih _ ⟨by simp; omega,fun d hd=>hI.2 d (by simp [hd])⟩]
   simp
 · intro n o i hd _
   simp only [d_spec_l13Copy_L1_s]
   unfold d_spec_l13Copy_L1_B
   rw [hd,cond_false]; simp
theorem feas_len {r:Request} {x:Plan} (h:feaB r x = true):x.fSpots.length = x.fCartons.length:=by
 unfold feaB chkM at h
 cases hp:pokB x
 · rw [hp] at h
   cases hc:clsM r == 0 <;> rw [hc] at h <;> simp at h
 · exact pok_len hp
theorem turn_loop {β:Type} (z:List (Carton × Spot)) (L:Nat → List Spot → Int → Option β) (f:Carton × Spot → Spot) (fin:List Spot → Option β) (hl:z.length ≤ 1048576)
    (hs:∀ n out (i:Int) p,ix z i = some p → decide (i < (z.length:Int)) = true → out.length = z.length → ix out i = some p.2 → L (n + 1) out i = L n (setx out i (f p)) (w64 (i + 1)))
    (he:∀ n out,out.length = z.length → decide ((z.length:Int) < (z.length:Int)) = false → L (n + 1) out (z.length:Int) = fin out):∀ n,z.length < n → L n (z.map (·.2)) 0 = fin (z.map f):=by
 intro n hn
 have key:=lpPI z (fun n (o:List Spot) i=>L n o i) (fun pre xs _=>fin (pre.map f ++ xs.map f)) (fun pre xs o=>o = pre.map f ++ xs.map (·.2)) (by omega) ?_ ?_ n (z.map (·.2)) (by simp) hn
 · simpa using key
 · intro n o pre p xs e hx hd hI ih
   have hz:z.length = pre.length + (xs.length + 1):=by rw [e]; simp
   subst hI
   have ho:ix (pre.map f ++ (p :: xs).map (·.2)) (pre.length:Int) = some p.2:=by rw [ix_nat]; simp
   show L (n + 1) _ _ = _
   rw [hs n _ _ p hx hd (by simp [hz]) ho,ih _ ?_]
   · simp
   · simp [setx]
 · intro n o hd hI
   subst hI
   show L (n + 1) _ _ = _
   rw [he n _ (by simp) hd]
   simp
theorem cs_spots {x:Plan} (el:x.fSpots.length = x.fCartons.length):(cs x).map (·.2) = x.fSpots:=by
 unfold cs
 rw [List.map_snd_zip]
 omega
def turnM (r:Request) (x:Plan) (f:Box → Spot → Spot):Plan:=bif feaB r x then ⟨x.fCartons,(cs x).map fun p=>f (boxM r p.1) p.2⟩ else x
def mirF (r:Request) (b:Box) (s:Spot):Spot:=⟨s.fPallet,w64 (w64 (r.fPallet.fW - s.fX) - b.fW),s.fY,s.fZ⟩
def froF (r:Request) (b:Box) (s:Spot):Spot:=⟨s.fPallet,s.fX,w64 (w64 (r.fPallet.fD - s.fY) - b.fD),s.fZ⟩
def swaF (a b:Int) (_:Box) (s:Spot):Spot:=bif s.fPallet == a then ⟨b,s.fX,s.fY,s.fZ⟩ else bif s.fPallet == b then ⟨a,s.fX,s.fY,s.fZ⟩ else s
def swaM (r:Request) (x:Plan) (a b:Int):Plan:=bif inb a 0 (palM x.fSpots - 1) && inb b 0 (palM x.fSpots - 1) then turnM r x (swaF a b) else x
theorem w64_pal (x:Plan):w64 (palM x.fSpots - 1) = palM x.fSpots - 1:=by
 have:=palM_bd x.fSpots
 exact w64_id (by omega) (by omega)
theorem turnM_sp {r:Request} {x:Plan} (h:Sp x) (f:Box → Spot → Spot):Sp (turnM r x f):=by
 unfold turnM
 cases hb:feaB r x
 · exact h
 · have el:=feas_len hb
   have hs:=h.spots
   exact ⟨h.cars,h.units,h.all,by simp [cs_len el]; omega⟩
theorem swaM_sp {r:Request} {x:Plan} (h:Sp x) (a b:Int):Sp (swaM r x a b):=by
 unfold swaM
 cases inb a 0 (palM x.fSpots - 1) && inb b 0 (palM x.fSpots - 1)
 · exact h
 · exact turnM_sp h _
end Go.Proofs.YtkkfmjpbiimkbaaGreat
/- What is held: lists of numbers. -/
namespace Go.Proofs.YtkkfmjpbiimkbaaGreat
open Go
open Enc (rd ow)
open Arg (argv)
open Ret (retv)
open Wf (wf)
theorem ints_get:∀ (m:Nat) (a:Int) (i:Nat),i < m → (ints a m)[i]? = some (a + i)
 | 0,_,_,h=>by omega
 | m + 1,a,0,_=>by simp [ints]
 | m + 1,a,i + 1,h=>by
  simp only [ints,List.getElem?_cons_succ]
  rw [ints_get m (a + 1) i (by omega)]
  congr 1
  omega
theorem heldIntS (fu:Nat) (m:Nat) (kv:Int) (hl:m ≤ 1048576) (h0:0 ≤ kv) (h1:kv ≤ 68719476736) (hn:m < fu):d_laws_heldIntS fu (ints kv m) kv = some (kv + m):=by
 unfold d_laws_heldIntS
 have key:∀ (j i n:Nat),m - i = j → i ≤ m → j < n → d_laws_heldIntS_L1 fu (ints kv m) n (kv + i) (i:Int) = some (kv + m):=by
  intro j
  induction j with
  | zero =>
   intro i n hj hi hn
   obtain ⟨n,rfl⟩:∃ j,n = j + 1:=⟨n - 1,by omega⟩
   rw [d_laws_heldIntS_L1_s]
   unfold d_laws_heldIntS_L1_B
   rw [bif_false (by rw [ints_len]; simp; omega)]
   congr 1
   omega
  | succ j ih =>
   intro i n hj hi hn
   obtain ⟨n,rfl⟩:∃ j,n = j + 1:=⟨n - 1,by omega⟩
   rw [d_laws_heldIntS_L1_s]
   unfold d_laws_heldIntS_L1_B
   rw [bif_true (by rw [ints_len]; simp; omega),ix_nat,ints_get m kv i (by omega),ob_some,bif_false (by simp),w64_id (by omega) (by omega),w64_s _ (by omega)]
   have:=ih (i + 1) n (by omega) (by omega) (by omega)
   rw [← this]
   congr 1
   omega
 have:=key m 0 fu (by omega) (by omega) hn
 simpa using this
end Go.Proofs.YtkkfmjpbiimkbaaGreat
/- Shuffled, by spec and by impl. -/
namespace Go.Proofs.YtkkfmjpbiimkbaaGreat
open Go
open Enc (rd ow)
open Arg (argv)
open Ret (retv)
open Wf (wf)
def zSpot:Spot:=⟨0,0,0,0⟩
def spoM (x:Plan) (i:Int):Spot:=(ix x.fSpots i).getD zSpot
def shuM (r:Request) (x:Plan) (o:List Int):Plan :=
 bif feaB r x && perB o (ints 0 x.fCartons.length) then ⟨o.map (carM x),o.map (spoM x)⟩ else x
theorem per_len {o:List Int} {n:Nat} (h:perB o (ints 0 n) = true):o.length = n:=by
 have:=(perB_iff.1 h).length_eq
 rwa [ints_len] at this
theorem per_in {o:List Int} {n:Nat} (h:perB o (ints 0 n) = true):∀ k ∈ o,0 ≤ k ∧ k < n:=fun k hk=>by
 have:=ints_mem.1 ((perB_iff.1 h).mem_iff.1 hk)
 omega
theorem car_in {x:Plan} {k:Int} (h:0 ≤ k ∧ k < x.fCartons.length):ix x.fCartons k = some (carM x k):=by
 have h1:k.toNat < x.fCartons.length:=by omega
 have:=ix_i h1
 rw [show ((k.toNat:Nat):Int) = k by omega] at this
 unfold carM; rw [this]; rfl
theorem spo_in {x:Plan} {k:Int} (h:0 ≤ k ∧ k < x.fSpots.length):ix x.fSpots k = some (spoM x k):=by
 have h1:k.toNat < x.fSpots.length:=by omega
 have:=ix_i h1
 rw [show ((k.toNat:Nat):Int) = k by omega] at this
 unfold spoM; rw [this]; rfl
theorem car_units {x:Plan} (hx:Sp x) {k:Int} (h:0 ≤ k ∧ k < x.fCartons.length):(carM x k).fUnits.length ≤ 1048576:=hx.units _ (ix_mem (car_in h))
theorem ix_mid {α:Type} (A:List α) (y:α) (B:List α) (n:Nat) (h:A.length = n):ix (A ++ y :: B) (n:Int) = some y:=by subst h; rw [ix_nat]; simp
theorem setx_mid {α:Type} (A:List α) (y0 y:α) (B:List α) (n:Nat) (h:A.length = n):setx (A ++ y0 :: B) (n:Int) y = A ++ y :: B:=by subst h; simp [setx]
theorem lensC_perm {a b:List Carton} (h:a.Perm b):lensC a = lensC b:=by
 induction h with
 | nil=>rfl
 | cons x _ ih=>simp only [lensC,ih]
 | swap x y l=>simp only [lensC]; omega
 | trans _ _ h1 h2=>exact h1.trans h2
theorem map_car (x:Plan):(ints 0 x.fCartons.length).map (carM x) = x.fCartons:=by
 apply List.ext_getElem?
 intro i
 rw [List.getElem?_map]
 by_cases hi:i < x.fCartons.length
 · rw [ints_get _ _ _ hi,Option.map_some,Int.zero_add]
   unfold carM
   rw [ix_i hi,List.getElem?_eq_getElem hi]; rfl
 · rw [List.getElem?_eq_none (by rw [ints_len]; omega),List.getElem?_eq_none (by omega)]; rfl
theorem shuM_sp {r:Request} {x:Plan} (hx:Sp x) (o:List Int):Sp (shuM r x o):=by
 have hc:=hx.cars
 unfold shuM
 cases hb:feaB r x && perB o (ints 0 x.fCartons.length)
 · exact hx
 · simp only [Bool.and_eq_true] at hb
   have hl:=per_len hb.2
   have hp:=(perB_iff.1 hb.2).map (carM x)
   rw [map_car] at hp
   exact ⟨by simp [hl]; exact hc,fun c hc=>hx.units c (hp.mem_iff.1 hc),by rw [cond_true,lensC_perm hp]; exact hx.all,by simp [hl]; exact hc⟩
end Go.Proofs.YtkkfmjpbiimkbaaGreat
/- Dropped, by spec and by impl. -/
namespace Go.Proofs.YtkkfmjpbiimkbaaGreat
open Go
open Enc (rd ow)
open Arg (argv)
open Ret (retv)
open Wf (wf)
def hitL (b:Box) (s:Spot) (i:Int):Int → List (Box × Spot) → Bool
 | _,[]=>false
 | j,q :: l=>(j != i && ovlB b s q.1 q.2) || hitL b s i (j + 1) l
def dwn (s:Spot):Spot:=⟨s.fPallet,s.fX,s.fY,w64 (s.fZ - 1)⟩
def fallS (b:Box) (i:Int) (z:List (Box × Spot)):Nat → Spot → Spot
 | 0,s=>s
 | n + 1,s=>bif decide (s.fZ > 0) then (bif hitL b (dwn s) i 0 z then s else fallS b i z n (dwn s)) else s
def drpF (bs:List Box) (sp:List Spot) (i:Int):List Spot:=match ix bs i,ix sp i with
 | some b,some s=>setx sp i (fallS b i (bs.zip sp) (s.fZ.toNat + 1) s)
 | _,_=>sp
def bxs (r:Request) (x:Plan):List Box:=x.fCartons.map (boxM r)
def drpM (r:Request) (x:Plan):Plan:=bif feaB r x then ⟨x.fCartons,(ints 0 x.fCartons.length).foldl (drpF (bxs r x)) x.fSpots⟩ else x
theorem drpF_len (bs:List Box) (sp:List Spot) (i:Int):(drpF bs sp i).length = sp.length:=by
 unfold drpF
 split
 · simp [setx]
 · rfl
theorem drpA_len (bs:List Box):∀ (l:List Int) (sp:List Spot),(l.foldl (drpF bs) sp).length = sp.length
 | [],_=>rfl
 | i :: l,sp=>by rw [List.foldl_cons,drpA_len bs l,drpF_len]
theorem s_boxes {fu:Nat} {r:Request} (h:Sm fu r) {x:Plan} (hx:Sp x):d_spec_l21Boxes fu r x = some (bxs r x):=by
 have hfu:=h.fu
 have hc:=hx.cars
 unfold d_spec_l21Boxes
 have key:=lpI x.fCartons (fun n (o:List Box) i=>d_spec_l21Boxes_L1 fu r x n o i) (fun xs o=>some (o ++ xs.map (boxM r))) (fun xs o=>o.length + xs.length ≤ 1048576) (by omega) ?_ ?_ fu [] (by simp; omega) (by omega)
 · simpa [bxs] using key
 · intro n o i c xs e hd hI ih
   have hu:=hx.units c (ix_mem e)
   simp only [List.length_cons] at hI
   simp only [d_spec_l21Boxes_L1_s]
   unfold d_spec_l21Boxes_L1_B
   rw [hd,cond_true,e,ob_some,s_boxM h _ hu,ob_some,ap1 (by simp; omega),ob_some,ih _ (by simp; omega)]
   simp
 · intro n o i hd _
   simp only [d_spec_l21Boxes_L1_s]
   unfold d_spec_l21Boxes_L1_B
   rw [hd,cond_false]; simp
theorem s_free {fu:Nat} {bs:List Box} {x:Plan} (hl:bs.length ≤ 1048576) (hf:bs.length < fu) (he:x.fSpots.length = bs.length) {i:Int} {b:Box} (hb:ix bs i = some b) (s:Spot):d_spec_l21Free fu bs x i s = some (!(hitL b s i 0 (bs.zip x.fSpots))):=by
 have hz:(bs.zip x.fSpots).length = bs.length:=by simp; omega
 unfold d_spec_l21Free
 have key:=lpP (bs.zip x.fSpots) (fun n (_:Unit) j=>d_spec_l21Free_L1 fu bs x i s n j) (fun pre l _=>some (!(hitL b s i (pre.length:Int) l))) (by omega) ?_ ?_ fu () (by omega)
 · exact key
 · intro n _ pre q xs e hq hd ih
   have ih:=ih ()
   obtain ⟨e1,e2⟩:=zip_ix hq
   rw [hz] at hd
   simp only [d_spec_l21Free_L1_s]
   unfold d_spec_l21Free_L1_B d_spec_l21Free_J1 hitL
   have e3:(((pre ++ [q]).length:Nat):Int) = (pre.length:Int) + 1:=by simp
   rw [e3] at ih
   rw [hd,cond_true]
   cases (pre.length:Int) != i
   · rw [cond_false,ih]; simp
   · rw [cond_true,hb,ob_some,e1,ob_some,e2,ob_some,s_ovl,ob_some,ih]
     cases ovlB b s q.1 q.2 <;> simp
 · intro n _ hd
   rw [hz] at hd ⊢
   simp only [d_spec_l21Free_L1_s]
   unfold d_spec_l21Free_L1_B
   rw [hd,cond_false]; simp [hitL]
theorem dwn_z {s:Spot} (h:0 < s.fZ ∧ s.fZ ≤ 2000):(dwn s).fZ = s.fZ - 1:=by
 unfold dwn
 exact w64_id (by omega) (by omega)
def zOk (sp:List Spot):Prop:=∀ s ∈ sp,s.fZ ≤ 2000
theorem fall_z (b:Box) (i:Int) (z:List (Box × Spot)):∀ (n:Nat) (s:Spot),s.fZ ≤ 2000 → (fallS b i z n s).fZ ≤ 2000
 | 0,s,h=>h
 | n + 1,s,h=>by
  unfold fallS
  by_cases hz:s.fZ > 0
  · rw [decide_eq_true hz,cond_true]
    cases hitL b (dwn s) i 0 z
    · exact fall_z b i z n _ (by rw [dwn_z ⟨hz,h⟩]; omega)
    · exact h
  · rw [decide_eq_false hz]; exact h
theorem drpF_z {bs:List Box} {sp:List Spot} (h:zOk sp) (i:Int):zOk (drpF bs sp i):=by
 unfold drpF
 split
 · rename_i b s hb hs
   intro t ht
   rcases List.mem_or_eq_of_mem_set ht with ht | rfl
   · exact h t ht
   · exact fall_z _ _ _ _ _ (h s (ix_mem hs))
 · exact h
theorem feas_pok {r:Request} {x:Plan} (h:feaB r x = true):pokB x = true:=by
 unfold feaB chkM at h
 cases hp:pokB x
 · rw [hp] at h
   cases hc:clsM r == 0 <;> rw [hc] at h <;> simp at h
 · rfl
theorem feas_z {r:Request} {x:Plan} (h:feaB r x = true):zOk x.fSpots:=by
 have hp:=feas_pok h
 have el:=pok_len hp
 unfold pokB at hp
 simp only [Bool.and_eq_true] at hp
 intro s hs
 obtain ⟨i,hi⟩:=List.mem_iff_getElem?.1 hs
 have hlt:=(List.getElem?_eq_some_iff.1 hi).1
 have hz:(x.fCartons[i]'(by omega),s) ∈ x.fCartons.zip x.fSpots:=List.mem_iff_getElem?.2 ⟨i,List.getElem?_zip_eq_some.2 ⟨List.getElem?_eq_getElem _,hi⟩⟩
 have:=List.all_eq_true.1 hp.2.2 _ hz
 simp only [sokB,Bool.and_eq_true,inb_iff] at this
 omega
theorem s_drop {fu:Nat} {r:Request} (h:Sm fu r) {x:Plan} (hx:Sp x):d_spec_Dropped fu r x = some (drpM r x):=by
 have hfu:=h.fu
 have hc:=hx.cars
 unfold d_spec_Dropped drpM
 rw [s_copyP hx (by omega),ob_some,s_feas h hx,ob_some]
 cases hb:feaB r x
 · rfl
 · have el:=feas_len hb
   have hbl:(bxs r x).length = x.fCartons.length:=by simp [bxs]
   rw [Bool.not_true,cond_false,s_boxes h hx,ob_some,cond_true]
   have key:=lpNI (x.fCartons.length:Int) (fun n (o:List Spot) i=>d_spec_Dropped_L2 fu x (bxs r x) n o i) (fun xs o=>some (⟨x.fCartons,xs.foldl (drpF (bxs r x)) o⟩:Plan)) (fun _ o=>o.length = x.fCartons.length ∧ zOk o) (by omega) ?_ ?_ x.fCartons.length fu x.fSpots 0 (by omega) (by omega) (by omega) ⟨el,feas_z hb⟩
   · exact key
   · intro n o i xs h0 h1 hd hI ih
     obtain ⟨hol,hoz⟩:=hI
     have hi:i.toNat < x.fCartons.length:=by omega
     have hsi:ix o i = some (o[i.toNat]'(by omega)):=by have:=ix_i (l:=o) (i:=i.toNat) (by omega); rwa [show ((i.toNat:Nat):Int) = i by omega] at this
     have hbi:ix (bxs r x) i = some ((bxs r x)[i.toNat]'(by omega)):=by have:=ix_i (l:=bxs r x) (i:=i.toNat) (by omega); rwa [show ((i.toNat:Nat):Int) = i by omega] at this
     generalize o[i.toNat]'(by omega) = s0 at hsi
     generalize (bxs r x)[i.toNat]'(by omega) = b0 at hbi
     rw [← hol] at hd
     simp only [d_spec_Dropped_L2_s]
     unfold d_spec_Dropped_L2_B
     rw [hd,cond_true,hsi,ob_some,List.foldl_cons]
     have e0:drpF (bxs r x) o i = setx o i (fallS b0 i ((bxs r x).zip o) (s0.fZ.toNat + 1) s0):=by unfold drpF; rw [hbi,hsi]
     rw [e0]
     have hsz:=hoz s0 (ix_mem hsi)
     have key2:∀ (m:Nat) (s:Spot) (k:Nat),s.fZ.toNat + 1 = m → s.fZ ≤ 2000 → m ≤ k → d_spec_Dropped_L1 fu (d_spec_Dropped_L2 fu x (bxs r x) n) x (bxs r x) o i k s = d_spec_Dropped_L2 fu x (bxs r x) n (setx o i (fallS b0 i ((bxs r x).zip o) m s)) (w64 (i + 1)):=by
      intro m
      induction m with
      | zero=>intro s k hm; omega
      | succ m ihm =>
       intro s k hm hz hk
       obtain ⟨k,rfl⟩:∃ j,k = j + 1:=⟨k - 1,by omega⟩
       rw [d_spec_Dropped_L1_s]
       unfold d_spec_Dropped_L1_B d_spec_Dropped_J2 d_spec_Dropped_J1 fallS
       by_cases hp:s.fZ > 0
       · rw [decide_eq_true hp,cond_true,cond_true,s_free (x:=⟨x.fCartons,o⟩) (by omega) (by omega) (by simp [hol,hbl]) hbi,ob_some]
         show (bif !(!(hitL b0 (dwn s) i 0 ((bxs r x).zip o))) then _ else _) = _
         cases hitL b0 (dwn s) i 0 ((bxs r x).zip o)
         · have hd1:=dwn_z ⟨hp,hz⟩
           show d_spec_Dropped_L1 fu _ x (bxs r x) o i k (dwn s) = _
           rw [ihm (dwn s) k (by omega) (by omega) (by omega)]; rfl
         · simp only [Bool.not_true,Bool.not_false,cond_true]
           rw [hsi,ob_some]
       · rw [decide_eq_false hp,cond_false,cond_false,hsi,ob_some]
     rw [key2 _ s0 fu rfl hsz (by omega),ih _ ⟨by simp [setx,hol],?_⟩]
     rw [← e0]; exact drpF_z hoz i
   · intro n o i hd hI
     rw [← hI.1] at hd
     simp only [d_spec_Dropped_L2_s]
     unfold d_spec_Dropped_L2_B
     rw [hd,cond_false]; rfl
theorem hit_set {b:Box} {s:Spot} {i:Nat} {t:Spot}:∀ {bs:List Box} {sp:List Spot} {j:Nat} {J:Int},J = (j:Int) → hitL b s (i:Int) J (bs.zip sp) = hitL b s (i:Int) J (bs.zip (if j ≤ i then sp.set (i - j) t else sp))
 | [],sp,j,J,_=>by simp [hitL]
 | c :: bs,[],j,J,_=>by split <;> simp [hitL]
 | c :: bs,q :: sp,j,J,hJ=>by
  have ih:=hit_set (b:=b) (s:=s) (i:=i) (t:=t) (bs:=bs) (sp:=sp) (j:=j + 1) (J:=J + 1) (by omega)
  by_cases h1:j ≤ i
  · rw [if_pos h1]
    by_cases h2:j = i
    · subst h2
      rw [Nat.sub_self,List.set_cons_zero,List.zip_cons_cons,List.zip_cons_cons]
      unfold hitL
      rw [show (J != (j:Int)) = false by simp [hJ]]
      rw [if_neg (by omega)] at ih
      simp
    · have:i - j = (i - (j + 1)) + 1:=by omega
      rw [this,List.set_cons_succ,List.zip_cons_cons,List.zip_cons_cons]
      unfold hitL
      rw [if_pos (by omega)] at ih
      rw [ih]
  · rw [if_neg h1]
theorem hit_setx (b:Box) (s:Spot) {i:Int} (hi:0 ≤ i) (t:Spot) (bs:List Box) (sp:List Spot):hitL b s i 0 (bs.zip (setx sp i t)) = hitL b s i 0 (bs.zip sp):=by
 have:=hit_set (b:=b) (s:=s) (i:=i.toNat) (t:=t) (bs:=bs) (sp:=sp) (j:=0) (J:=0) rfl
 rw [if_pos (by omega),Nat.sub_zero,show ((i.toNat:Nat):Int) = i by omega] at this
 exact this.symm
theorem fall_setx (b:Box) {i:Int} (hi:0 ≤ i) (t:Spot) (bs:List Box) (sp:List Spot):∀ (n:Nat) (s:Spot),fallS b i (bs.zip (setx sp i t)) n s = fallS b i (bs.zip sp) n s
 | 0,s=>rfl
 | n + 1,s=>by unfold fallS; rw [hit_setx b (dwn s) hi,fall_setx b hi t bs sp n]
theorem setx_setx {α:Type} (l:List α) (i:Int) (a b:α):setx (setx l i a) i b = setx l i b:=by simp [setx]
theorem i_drop {fu:Nat} {r:Request} (h:Sm fu r) {x:Plan} (hx:Sp x):d_impl_Dropped fu r x = some (drpM r x):=by
 have hfu:=h.fu
 have hc:=hx.cars
 unfold d_impl_Dropped drpM
 rw [i_cloneP hx (by omega),ob_some,i_feas h hx,ob_some]
 cases hb:feaB r x
 · rfl
 · have el:=feas_len hb
   have hbl:(bxs r x).length = x.fCartons.length:=by simp [bxs]
   rw [Bool.not_true,cond_false,cond_true]
   have key:=lpI x.fCartons (fun n (o:List Box) i=>d_impl_Dropped_L4 fu r x x n o i) (fun xs o=>d_impl_Dropped_L3 fu x (o ++ xs.map (boxM r)) fu x.fSpots 0) (fun xs o=>o.length + xs.length ≤ 1048576) (by omega) ?_ ?_ fu [] (by simp; omega) (by omega)
   · rw [key,List.nil_append]
     have key1:=lpNI (x.fCartons.length:Int) (fun n (o:List Spot) i=>d_impl_Dropped_L3 fu x (bxs r x) n o i) (fun xs o=>some (⟨x.fCartons,xs.foldl (drpF (bxs r x)) o⟩:Plan)) (fun _ o=>o.length = x.fCartons.length ∧ zOk o) (by omega) ?_ ?_ x.fCartons.length fu x.fSpots 0 (by omega) (by omega) (by omega) ⟨el,feas_z hb⟩
     · exact key1
     · intro n o i xs h0 h1 hd hI ih
       obtain ⟨hol,hoz⟩:=hI
       have hi:i.toNat < x.fCartons.length:=by omega
       have hsi:ix o i = some (o[i.toNat]'(by omega)):=by have:=ix_i (l:=o) (i:=i.toNat) (by omega); rwa [show ((i.toNat:Nat):Int) = i by omega] at this
       have hbi:ix (bxs r x) i = some ((bxs r x)[i.toNat]'(by omega)):=by have:=ix_i (l:=bxs r x) (i:=i.toNat) (by omega); rwa [show ((i.toNat:Nat):Int) = i by omega] at this
       generalize o[i.toNat]'(by omega) = s0 at hsi
       generalize (bxs r x)[i.toNat]'(by omega) = b0 at hbi
       rw [← hbl] at hd
       simp only [d_impl_Dropped_L3_s]
       unfold d_impl_Dropped_L3_B
       rw [hd,cond_true,hbi,ob_some,List.foldl_cons]
       have e0:drpF (bxs r x) o i = setx o i (fallS b0 i ((bxs r x).zip o) (s0.fZ.toNat + 1) s0):=by unfold drpF; rw [hbi,hsi]
       rw [e0]
       have hsz:=hoz s0 (ix_mem hsi)
       have keyh:∀ (p:List Spot) (s:Spot) (K:List Spot → Option Plan),p.length = x.fCartons.length → d_impl_Dropped_L1 fu (d_impl_Dropped_L3 fu x (bxs r x) n) K (bxs r x) i b0 p s fu false 0 = (bif hitL b0 (dwn s) i 0 ((bxs r x).zip p) then d_impl_Dropped_L3 fu x (bxs r x) n p (w64 (i + 1)) else obind (ix p i) fun _=>K (setx p i (dwn s))):=by
        intro p s K hpl
        have hz:((bxs r x).zip p).length = (bxs r x).length:=by simp; omega
        have kk:=lpP ((bxs r x).zip p) (fun m (g:Bool) j=>d_impl_Dropped_L1 fu (d_impl_Dropped_L3 fu x (bxs r x) n) K (bxs r x) i b0 p s m g j) (fun pre l g=>(bif g || hitL b0 (dwn s) i (pre.length:Int) l then d_impl_Dropped_L3 fu x (bxs r x) n p (w64 (i + 1)) else obind (ix p i) fun _=>K (setx p i (dwn s)))) (by omega) ?_ ?_ fu false (by omega)
        · simpa using kk
        · intro m g pre q qs e hq hd2 ih2
          obtain ⟨e1,e2⟩:=zip_ix hq
          have e3:(((pre ++ [q]).length:Nat):Int) = (pre.length:Int) + 1:=by simp
          rw [e3] at ih2
          rw [hz] at hd2
          simp only [d_impl_Dropped_L1_s]
          unfold d_impl_Dropped_L1_B d_impl_Dropped_J2 hitL
          rw [hd2,cond_true,e1,ob_some]
          cases g
          · rw [cond_false]
            cases (pre.length:Int) != i
            · rw [cond_false,ih2]; simp
            · rw [cond_true,e2,ob_some]
              show obind (d_impl_Overlap fu b0 (dwn s) q.1 q.2) _ = _
              rw [i_ovl,ob_some,ih2]; simp
          · rw [cond_true,ih2]; simp
        · intro m g hd2
          rw [hz] at hd2 ⊢
          simp only [d_impl_Dropped_L1_s]
          unfold d_impl_Dropped_L1_B d_impl_Dropped_J1 hitL
          rw [hd2,cond_false]
          cases g <;> rfl
       have key2:∀ (m:Nat) (s:Spot) (p:List Spot) (k:Nat),s.fZ.toNat + 1 = m → s.fZ ≤ 2000 → m ≤ k → p = setx o i s → d_impl_Dropped_L2 fu (d_impl_Dropped_L3 fu x (bxs r x) n) (bxs r x) i b0 k p = d_impl_Dropped_L3 fu x (bxs r x) n (setx o i (fallS b0 i ((bxs r x).zip o) m s)) (w64 (i + 1)):=by
        intro m
        induction m with
        | zero=>intro s p k hm; omega
        | succ m ihm =>
         intro s p k hm hz hk hp
         obtain ⟨k,rfl⟩:∃ j,k = j + 1:=⟨k - 1,by omega⟩
         have hpi:ix p i = some s:=by subst hp; rw [ix_setx_eq,hsi]; rfl
         have hpl:p.length = x.fCartons.length:=by subst hp; simp [setx,hol]
         rw [d_impl_Dropped_L2_s]
         unfold d_impl_Dropped_L2_B fallS
         rw [hpi,ob_some]
         by_cases hz0:s.fZ > 0
         · rw [decide_eq_true hz0,cond_true,cond_true,ob_some,keyh p s _ hpl]
           rw [show hitL b0 (dwn s) i 0 ((bxs r x).zip p) = hitL b0 (dwn s) i 0 ((bxs r x).zip o) by subst hp; exact hit_setx _ _ h0 _ _ _]
           cases hitL b0 (dwn s) i 0 ((bxs r x).zip o)
           · have hd1:=dwn_z ⟨hz0,hz⟩
             rw [cond_false,cond_false,hpi,ob_some,ihm (dwn s) _ k (by omega) (by omega) (by omega) (by subst hp; rw [setx_setx])]
           · rw [cond_true,cond_true,hp]
         · unfold d_impl_Dropped_J1
           rw [decide_eq_false hz0,cond_false,cond_false,hp]
       have hself:setx o i s0 = o:=by
        unfold setx
        obtain ⟨_,_,h1⟩:=ix_some hsi
        have hlt:=(List.getElem?_eq_some_iff.1 h1).1
        have heq:=(List.getElem?_eq_some_iff.1 h1).2
        rw [← heq,List.set_getElem_self]
       rw [key2 _ s0 o fu rfl hsz (by omega) hself.symm,ih _ ⟨by simp [setx,hol],?_⟩]
       rw [← e0]; exact drpF_z hoz i
     · intro n o i hd hI
       rw [← hbl] at hd
       simp only [d_impl_Dropped_L3_s]
       unfold d_impl_Dropped_L3_B
       rw [hd,cond_false]; rfl
   · intro n o i c xs e hd hI ih
     have hu:=hx.units c (ix_mem e)
     simp only [List.length_cons] at hI
     simp only [d_impl_Dropped_L4_s]
     unfold d_impl_Dropped_L4_B
     rw [hd,cond_true,e,ob_some,i_boxM h _ hu,ob_some,ap1 (by simp; omega),ob_some,ih _ (by simp; omega)]
     simp
   · intro n o i hd _
     simp only [d_impl_Dropped_L4_s]
     unfold d_impl_Dropped_L4_B
     rw [hd,cond_false]; simp
theorem drpM_sp {r:Request} {x:Plan} (h:Sp x):Sp (drpM r x):=by
 unfold drpM
 cases hb:feaB r x
 · exact h
 · exact ⟨h.cars,h.units,h.all,by rw [cond_true,drpA_len]; exact h.spots⟩
end Go.Proofs.YtkkfmjpbiimkbaaGreat
/- Marks on a plan, exactly; what is held of them. -/
namespace Go.Proofs.YtkkfmjpbiimkbaaGreat
open Go
open Enc (rd ow)
open Arg (argv)
open Ret (retv)
open Wf (wf)
def mkC:Int → List Carton → List Carton
 | _,[]=>[]
 | k,c :: l=>⟨k,k + 1,ints (k + 2) c.fUnits.length⟩ :: mkC (k + 2 + c.fUnits.length) l
def mkS:Int → List Spot → List Spot
 | _,[]=>[]
 | k,_ :: l=>⟨k,k + 1,k + 2,k + 3⟩ :: mkS (k + 4) l
theorem mkC_len:∀ (k:Int) (l:List Carton),(mkC k l).length = l.length
 | _,[]=>rfl
 | k,c :: l=>by simp [mkC,mkC_len _ l]
theorem mkS_len:∀ (k:Int) (l:List Spot),(mkS k l).length = l.length
 | _,[]=>rfl
 | k,c :: l=>by simp [mkS,mkS_len _ l]
theorem markCarX (fu:Nat) (l:List Carton) (kv:Int) (hl:l.length ≤ 1048576) (hm:∀ x ∈ l,x.fUnits.length ≤ 1048576) (hs:lensC l ≤ 1073741824) (h0:0 ≤ kv) (h1:kv ≤ 1073741824) (hf:1048577 ≤ fu) :
    d_laws_markCartonS fu l kv = some (kv + 2 * l.length + lensC l,mkC kv l):=by
 unfold d_laws_markCartonS
 have key:∀ (xs pre:List Carton) (n:Nat) (k:Int),pre.length + xs.length = l.length → xs.length < n → 0 ≤ k → k + 2 * xs.length + lensC xs ≤ 4294967296 → (∀ x ∈ xs,x.fUnits.length ≤ 1048576) →
     d_laws_markCartonS_L1 fu n (pre ++ xs) k (pre.length:Int) = some (k + 2 * xs.length + lensC xs,pre ++ mkC k xs):=by
  intro xs
  induction xs with
  | nil =>
   intro pre n k h hn h0 h1 hm
   obtain ⟨n,rfl⟩:∃ j,n = j + 1:=⟨n - 1,by omega⟩
   rw [d_laws_markCartonS_L1_s]
   unfold d_laws_markCartonS_L1_B
   rw [bif_false (by simp)]
   simp [lensC,mkC]
  | cons x xs ih =>
   intro pre n k h hn h0 h1 hm
   obtain ⟨n,rfl⟩:∃ j,n = j + 1:=⟨n - 1,by simp at hn; omega⟩
   simp only [List.length_cons,lensC] at h h1 hn
   have hx:=hm x (by simp)
   rw [d_laws_markCartonS_L1_s]
   unfold d_laws_markCartonS_L1_B
   have e:ix (pre ++ x :: xs) (pre.length:Int) = some x:=by rw [ix_nat]; simp
   have e1:w64 (k + 1) = k + 1:=w64_id (by omega) (by omega)
   have e2:w64 (k + 1 + 1) = k + 1 + 1:=w64_id (by omega) (by omega)
   have em:=markIntS fu x.fUnits (k + 1 + 1) hx (by omega) (by omega) (by omega)
   rw [bif_true (by simp; omega)]
   simp only [e,ob_some,ix_setx_eq,Option.map_some,e1,e2,em]
   rw [w64_s _ (by omega)]
   have e3:∀ y:Carton,setx (setx (setx (pre ++ x :: xs) (pre.length:Int) ⟨k,x.fGroup,x.fUnits⟩) (pre.length:Int) ⟨k,k + 1,x.fUnits⟩) (pre.length:Int) y = (pre ++ [y]) ++ xs:=by intro y; simp [setx]
   rw [e3]
   have:=ih (pre ++ [⟨k,k + 1,ints (k + 1 + 1) x.fUnits.length⟩]) n (k + 1 + 1 + x.fUnits.length) (by simp; omega) (by omega) (by omega) (by omega) (fun y hy=>hm y (by simp [hy]))
   simp only [List.length_append,List.length_singleton] at this
   rw [this]
   have e4:k + 1 + 1 = k + 2:=by omega
   simp only [List.length_cons,lensC,mkC,e4,List.append_assoc,List.singleton_append]
   congr 2
   omega
 have:=key l [] fu kv (by simp) (by omega) h0 (by omega) hm
 simpa using this
theorem markSpX (fu:Nat) (l:List Spot) (kv:Int) (hl:l.length ≤ 1048576) (h0:0 ≤ kv) (h1:kv ≤ 68719476736) (hn:l.length < fu):d_laws_markSpotS fu l kv = some (kv + 4 * l.length,mkS kv l):=by
 unfold d_laws_markSpotS
 have key:∀ (xs pre:List Spot) (n:Nat) (k:Int),pre.length + xs.length = l.length → xs.length < n → 0 ≤ k → k + 4 * xs.length ≤ 687194767360 →
     d_laws_markSpotS_L1 fu n (pre ++ xs) k (pre.length:Int) = some (k + 4 * xs.length,pre ++ mkS k xs):=by
  intro xs
  induction xs with
  | nil =>
   intro pre n k h hn h0 h1
   obtain ⟨n,rfl⟩:∃ j,n = j + 1:=⟨n - 1,by omega⟩
   rw [d_laws_markSpotS_L1_s]
   unfold d_laws_markSpotS_L1_B
   rw [bif_false (by simp)]
   simp [mkS]
  | cons x xs ih =>
   intro pre n k h hn h0 h1
   obtain ⟨n,rfl⟩:∃ j,n = j + 1:=⟨n - 1,by simp at hn; omega⟩
   simp only [List.length_cons] at h h1 hn
   rw [d_laws_markSpotS_L1_s]
   unfold d_laws_markSpotS_L1_B
   have e:ix (pre ++ x :: xs) (pre.length:Int) = some x:=by rw [ix_nat]; simp
   have e1:w64 (k + 1) = k + 1:=w64_id (by omega) (by omega)
   have e2:w64 (k + 1 + 1) = k + 2:=by rw [w64_id (by omega) (by omega)]; omega
   have e3:w64 (k + 2 + 1) = k + 3:=by rw [w64_id (by omega) (by omega)]; omega
   have e4:w64 (k + 3 + 1) = k + 4:=by rw [w64_id (by omega) (by omega)]; omega
   rw [bif_true (by simp; omega)]
   simp only [e,ob_some,ix_setx_eq,Option.map_some,e1,e2,e3,e4]
   rw [w64_s _ (by omega)]
   have e5:∀ y1 y2 y3 y:Spot,setx (setx (setx (setx (pre ++ x :: xs) (pre.length:Int) y1) (pre.length:Int) y2) (pre.length:Int) y3) (pre.length:Int) y = (pre ++ [y]) ++ xs:=by intro _ _ _ y; simp [setx]
   rw [e5]
   have:=ih (pre ++ [⟨k,k + 1,k + 2,k + 3⟩]) n (k + 4) (by simp; omega) (by omega) (by omega) (by omega)
   simp only [List.length_append,List.length_singleton] at this
   rw [this]
   simp only [List.length_cons,mkS,List.append_assoc,List.singleton_append]
   congr 2
   omega
 have:=key l [] fu kv (by simp) (by omega) h0 (by omega)
 simpa using this
theorem heldCarX (fu:Nat) (l:List Carton) (kv:Int) (hl:l.length ≤ 1048576) (hm:∀ x ∈ l,x.fUnits.length ≤ 1048576) (hs:lensC l ≤ 1073741824) (h0:0 ≤ kv) (h1:kv ≤ 1073741824) (hf:1048577 ≤ fu) :
    d_laws_heldCartonS fu (mkC kv l) kv = some (kv + 2 * l.length + lensC l):=by
 unfold d_laws_heldCartonS
 have hml:=mkC_len kv l
 have key:∀ (xs:List Carton) (pre:List Carton) (n:Nat) (k:Int),pre ++ mkC k xs = mkC kv l → xs.length < n → 0 ≤ k → k + 2 * xs.length + lensC xs ≤ 4294967296 → (∀ x ∈ xs,x.fUnits.length ≤ 1048576) →
     d_laws_heldCartonS_L1 fu (mkC kv l) n k (pre.length:Int) = some (k + 2 * xs.length + lensC xs):=by
  intro xs
  induction xs with
  | nil =>
   intro pre n k h hn h0 h1 hm
   obtain ⟨n,rfl⟩:∃ j,n = j + 1:=⟨n - 1,by omega⟩
   rw [d_laws_heldCartonS_L1_s]
   unfold d_laws_heldCartonS_L1_B
   rw [← h]
   rw [bif_false (by simp [mkC])]
   simp [lensC]
  | cons x xs ih =>
   intro pre n k h hn h0 h1 hm
   obtain ⟨n,rfl⟩:∃ j,n = j + 1:=⟨n - 1,by simp at hn; omega⟩
   simp only [List.length_cons,lensC] at h1 hn
   have hx:=hm x (by simp)
   have hlen:pre.length + (1 + (mkC (k + 2 + x.fUnits.length) xs).length) = (mkC kv l).length:=by rw [← h]; simp [mkC]; omega
   have e:ix (mkC kv l) (pre.length:Int) = some ⟨k,k + 1,ints (k + 2) x.fUnits.length⟩:=by rw [← h,ix_nat]; simp [mkC]
   have e1:w64 (k + 1) = k + 1:=w64_id (by omega) (by omega)
   have e2:w64 (k + 1 + 1) = k + 2:=by rw [w64_id (by omega) (by omega)]; omega
   have eh:=heldIntS fu x.fUnits.length (k + 2) hx (by omega) (by omega) (by omega)
   rw [d_laws_heldCartonS_L1_s]
   unfold d_laws_heldCartonS_L1_B
   rw [bif_true (by simp; omega)]
   simp only [e,ob_some,e1,e2,eh,bne_self_eq_false,cond_false]
   rw [bif_false (by simp; omega),w64_s _ (by omega)]
   have:=ih (pre ++ [⟨k,k + 1,ints (k + 2) x.fUnits.length⟩]) n (k + 2 + x.fUnits.length) (by rw [← h]; simp [mkC]) (by omega) (by omega) (by omega) (fun y hy=>hm y (by simp [hy]))
   simp only [List.length_append,List.length_singleton] at this
   rw [this]
   simp only [List.length_cons,lensC]
   congr 1
   omega
 have:=key l [] fu kv (by simp) (by omega) h0 (by omega) hm
 simpa using this
theorem heldSpX (fu:Nat) (l:List Spot) (kv:Int) (hl:l.length ≤ 1048576) (h0:0 ≤ kv) (h1:kv ≤ 68719476736) (hn:l.length < fu):d_laws_heldSpotS fu (mkS kv l) kv = some (kv + 4 * l.length):=by
 unfold d_laws_heldSpotS
 have hml:=mkS_len kv l
 have key:∀ (xs pre:List Spot) (n:Nat) (k:Int),pre ++ mkS k xs = mkS kv l → xs.length < n → 0 ≤ k → k + 4 * xs.length ≤ 687194767360 →
     d_laws_heldSpotS_L1 fu (mkS kv l) n k (pre.length:Int) = some (k + 4 * xs.length):=by
  intro xs
  induction xs with
  | nil =>
   intro pre n k h hn h0 h1
   obtain ⟨n,rfl⟩:∃ j,n = j + 1:=⟨n - 1,by omega⟩
   rw [d_laws_heldSpotS_L1_s]
   unfold d_laws_heldSpotS_L1_B
   rw [← h,bif_false (by simp [mkS])]
   simp
  | cons x xs ih =>
   intro pre n k h hn h0 h1
   obtain ⟨n,rfl⟩:∃ j,n = j + 1:=⟨n - 1,by simp at hn; omega⟩
   simp only [List.length_cons] at h1 hn
   have hlen:pre.length + (1 + (mkS (k + 4) xs).length) = (mkS kv l).length:=by rw [← h]; simp [mkS]; omega
   have e:ix (mkS kv l) (pre.length:Int) = some ⟨k,k + 1,k + 2,k + 3⟩:=by rw [← h,ix_nat]; simp [mkS]
   have e1:w64 (k + 1) = k + 1:=w64_id (by omega) (by omega)
   have e2:w64 (k + 1 + 1) = k + 2:=by rw [w64_id (by omega) (by omega)]; omega
   have e3:w64 (k + 2 + 1) = k + 3:=by rw [w64_id (by omega) (by omega)]; omega
   have e4:w64 (k + 3 + 1) = k + 4:=by rw [w64_id (by omega) (by omega)]; omega
   rw [d_laws_heldSpotS_L1_s]
   unfold d_laws_heldSpotS_L1_B
   rw [bif_true (by simp; omega)]
   simp only [e,ob_some,e1,e2,e3,e4,bne_self_eq_false,cond_false]
   rw [w64_s _ (by omega)]
   have:=ih (pre ++ [⟨k,k + 1,k + 2,k + 3⟩]) n (k + 4) (by rw [← h]; simp [mkS]) (by omega) (by omega) (by omega)
   simp only [List.length_append,List.length_singleton] at this
   rw [this]
   simp only [List.length_cons]
   congr 1
   omega
 have:=key l [] fu kv (by simp) (by omega) h0 (by omega)
 simpa using this
def mkP (k:Int) (x:Plan):Plan:=⟨mkC k x.fCartons,mkS (k + 2 * x.fCartons.length + lensC x.fCartons) x.fSpots⟩
def mkN (k:Int) (x:Plan):Int:=k + 2 * x.fCartons.length + lensC x.fCartons + 4 * x.fSpots.length
theorem markPlX {fu:Nat} {x:Plan} (h:Sp x) (hf:1048577 ≤ fu) (kv:Int) (h0:0 ≤ kv) (h1:kv ≤ 1073741824):d_laws_markPlan fu x kv = some (mkN kv x,mkP kv x):=by
 have hs:=h.spots
 have hc:=h.cars
 have ha:=h.all
 unfold d_laws_markPlan mkN mkP
 rw [markCarX fu x.fCartons kv hc h.units (by omega) h0 h1 hf,ob_some]
 simp only [markSpX fu x.fSpots (kv + 2 * x.fCartons.length + lensC x.fCartons) hs (by omega) (by omega) (by omega),ob_some]
theorem heldPlX {fu:Nat} {x:Plan} (h:Sp x) (hf:1048577 ≤ fu) (kv:Int) (h0:0 ≤ kv) (h1:kv ≤ 1073741824):d_laws_heldPlan fu (mkP kv x) kv = some (mkN kv x):=by
 have hs:=h.spots
 have hc:=h.cars
 have ha:=h.all
 unfold d_laws_heldPlan mkN mkP
 rw [heldCarX fu x.fCartons kv hc h.units (by omega) h0 h1 hf,ob_some,bif_false (by simp; omega)]
 simp only [heldSpX fu x.fSpots (kv + 2 * x.fCartons.length + lensC x.fCartons) hs (by omega) (by omega) (by omega),ob_some]
 rw [bif_false (by simp; omega)]
theorem mkN_bd {x:Plan} (h:Sp x):0 ≤ mkN 1 x:=by unfold mkN; omega
end Go.Proofs.YtkkfmjpbiimkbaaGreat
/- FnExactDropped holds at every input. -/
namespace Go.Proofs.YtkkfmjpbiimkbaaGreat
open Go
open Enc (rd ow)
open Arg (argv)
open Ret (retv)
open Wf (wf)
theorem fnExactDropped_pure (x0:Request) (x1:Plan) (w0:wf x0) (w1:wf x1):∃ fu,d_laws_FnExactDropped fu x0 x1 = some true:=by
 refine ⟨2097153,?_⟩
 unfold d_laws_FnExactDropped d_laws_FnExactDropped_J3 d_laws_FnExactDropped_J2 d_laws_FnExactDropped_J1
 rcases szReq 2097153 x0 w0 with ⟨y,h1,h2⟩ | ⟨y,h1,h2,h3,hp,ht,hi⟩
 · rw [h1,ob_some,bif_true (by simp; omega)]
 rw [h1,ob_some,bif_false (by simp; omega)]
 rcases szPln 2097153 x1 y w1 h2 h3 (by omega) with ⟨z,h4,h5⟩ | ⟨z,h4,h5,h6,h7⟩
 · rw [h4,ob_some,bif_true (by simp; omega)]
 rw [h4,ob_some,bif_false (by simp; omega)]
 have hs:Sm 2097153 x0:=⟨by omega,hp,ht,hi⟩
 have hR:Sp (drpM x0 x1):=drpM_sp h7
 obtain ⟨k,x',hk,hk0,hk1⟩:=markReq hs 1 (by omega) (by omega)
 obtain ⟨k2,x2,hk2,hk20,hk21⟩:=markPln (fu:=2097153) h7 (by omega) k hk0 (by omega)
 have e1:decide (k2 < 0) = false:=by simp; omega
 have e2:decide (mkN 1 (drpM x0 x1) < 0) = false:=by have:=mkN_bd hR; simp; omega
 have eq:=eqPln (fu:=2097153) hR (by omega)
 simp only [toReq hs,ob_some,toPln (fu:=2097153) h7 (by omega),s_drop hs h7,i_drop hs h7,eqReq hs,eqPln (fu:=2097153) h7 (by omega),hk,hk2,markPlX (fu:=2097153) hR (by omega) 1 (by omega) (by omega),heldPlX (fu:=2097153) hR (by omega) 1 (by omega) (by omega)]
 simp [e1,e2,eq]
end Go.Proofs.YtkkfmjpbiimkbaaGreat
