import Derived.Test.YtkkfmjpbiimkbaaGreatExactShuffledD
import Derived.Test.YtkkfmjpbiimkbaaGreatExactFeasibleBP2
set_option linter.unusedSimpArgs false
set_option linter.unusedVariables false
/- What is marked: orders, lists of numbers, lists of lists. -/
namespace Go.Proofs.YtkkfmjpbiimkbaaGreat
open Go
open Enc (rd ow)
open Arg (argv)
open Ret (retv)
open Wf (wf)
theorem markPairS (fu:Nat) (l:List Pair) (kv:Int) (hl:l.length ≤ 1048576) (h0:0 ≤ kv) (h1:kv ≤ 68719476736) (hn:l.length < fu):∃ x',d_laws_markPairS fu l kv = some (kv + 2 * l.length,x'):=by
 refine mark_loop 2 (by omega) (fun n x kv i=>d_laws_markPairS_L1 fu n x kv i) ?_ ?_ l kv fu hl h0 h1 hn
 · intro n x kv i y hy hd h0 h1
   have e1:w64 (kv + 1) = kv + 1:=w64_id (by omega) (by omega)
   have e2:w64 (kv + 1 + 1) = kv + 1 + 1:=w64_id (by omega) (by omega)
   have e':kv + 1 + 1 = kv + 2:=by omega
   refine ⟨?_,?_,?_⟩
   rotate_left 2
   · simp only [d_laws_markPairS_L1_s]
     unfold d_laws_markPairS_L1_B
     simp only [hd,cond_true,hy,ob_some,ix_setx_eq,Option.map_some,e1,e2]
     rw [e']
     rfl
   · simp [setx_len]
 · intro n x kv i hd
   simp only [d_laws_markPairS_L1_s]
   unfold d_laws_markPairS_L1_B
   simp only [hd,cond_false]
theorem markTypeS (fu:Nat) (l:List Typ) (kv:Int) (hl:l.length ≤ 1048576) (h0:0 ≤ kv) (h1:kv ≤ 68719476736) (hn:l.length < fu):∃ x',d_laws_markTypeS fu l kv = some (kv + 7 * l.length,x'):=by
 refine mark_loop 7 (by omega) (fun n x kv i=>d_laws_markTypeS_L1 fu n x kv i) ?_ ?_ l kv fu hl h0 h1 hn
 · intro n x kv i y hy hd h0 h1
   have e1:w64 (kv + 1) = kv + 1:=w64_id (by omega) (by omega)
   have e2:w64 (kv + 1 + 1) = kv + 1 + 1:=w64_id (by omega) (by omega)
   have e3:w64 (kv + 1 + 1 + 1) = kv + 1 + 1 + 1:=w64_id (by omega) (by omega)
   have e4:w64 (kv + 1 + 1 + 1 + 1) = kv + 1 + 1 + 1 + 1:=w64_id (by omega) (by omega)
   have e5:w64 (kv + 1 + 1 + 1 + 1 + 1) = kv + 1 + 1 + 1 + 1 + 1:=w64_id (by omega) (by omega)
   have e6:w64 (kv + 1 + 1 + 1 + 1 + 1 + 1) = kv + 1 + 1 + 1 + 1 + 1 + 1:=w64_id (by omega) (by omega)
   have e7:w64 (kv + 1 + 1 + 1 + 1 + 1 + 1 + 1) = kv + 1 + 1 + 1 + 1 + 1 + 1 + 1:=w64_id (by omega) (by omega)
   have e':kv + 1 + 1 + 1 + 1 + 1 + 1 + 1 = kv + 7:=by omega
   refine ⟨?_,?_,?_⟩
   rotate_left 2
   · simp only [d_laws_markTypeS_L1_s]
     unfold d_laws_markTypeS_L1_B
     simp only [hd,cond_true,hy,ob_some,ix_setx_eq,Option.map_some,e1,e2,e3,e4,e5,e6,e7]
     rw [e']
     rfl
   · simp [setx_len]
 · intro n x kv i hd
   simp only [d_laws_markTypeS_L1_s]
   unfold d_laws_markTypeS_L1_B
   simp only [hd,cond_false]
theorem markItemS (fu:Nat) (l:List Item) (kv:Int) (hl:l.length ≤ 1048576) (h0:0 ≤ kv) (h1:kv ≤ 68719476736) (hn:l.length < fu):∃ x',d_laws_markItemS fu l kv = some (kv + 7 * l.length,x'):=by
 refine mark_loop 7 (by omega) (fun n x kv i=>d_laws_markItemS_L1 fu n x kv i) ?_ ?_ l kv fu hl h0 h1 hn
 · intro n x kv i y hy hd h0 h1
   have e1:w64 (kv + 1) = kv + 1:=w64_id (by omega) (by omega)
   have e2:w64 (kv + 1 + 1) = kv + 1 + 1:=w64_id (by omega) (by omega)
   have e3:w64 (kv + 1 + 1 + 1) = kv + 1 + 1 + 1:=w64_id (by omega) (by omega)
   have e4:w64 (kv + 1 + 1 + 1 + 1) = kv + 1 + 1 + 1 + 1:=w64_id (by omega) (by omega)
   have e5:w64 (kv + 1 + 1 + 1 + 1 + 1) = kv + 1 + 1 + 1 + 1 + 1:=w64_id (by omega) (by omega)
   have e6:w64 (kv + 1 + 1 + 1 + 1 + 1 + 1) = kv + 1 + 1 + 1 + 1 + 1 + 1:=w64_id (by omega) (by omega)
   have e7:w64 (kv + 1 + 1 + 1 + 1 + 1 + 1 + 1) = kv + 1 + 1 + 1 + 1 + 1 + 1 + 1:=w64_id (by omega) (by omega)
   have e':kv + 1 + 1 + 1 + 1 + 1 + 1 + 1 = kv + 7:=by omega
   refine ⟨?_,?_,?_⟩
   rotate_left 2
   · simp only [d_laws_markItemS_L1_s]
     unfold d_laws_markItemS_L1_B
     simp only [hd,cond_true,hy,ob_some,ix_setx_eq,Option.map_some,e1,e2,e3,e4,e5,e6,e7]
     rw [e']
     rfl
   · simp [setx_len]
 · intro n x kv i hd
   simp only [d_laws_markItemS_L1_s]
   unfold d_laws_markItemS_L1_B
   simp only [hd,cond_false]
theorem markReq {fu:Nat} {r:Request} (h:Sm fu r) (kv:Int) (h0:0 ≤ kv) (h1:kv ≤ 1073741824):∃ k x',d_laws_markRequest fu r kv = some (k,x') ∧ 0 ≤ k ∧ k ≤ kv + 16777216:=by
 have hfu:=h.fu
 have a1:=h.items
 have a2:=h.types
 have a3:=h.pairs
 unfold d_laws_markRequest
 obtain ⟨x1,e1⟩:=markPairS fu r.fPairs kv a3 h0 (by omega) (by omega)
 rw [e1,ob_some]
 obtain ⟨x2,e2⟩:=markTypeS fu r.fTypes (kv + 2 * r.fPairs.length) a2 (by omega) (by omega) (by omega)
 rw [e2,ob_some]
 obtain ⟨x3,e3⟩:=markItemS fu r.fItems (kv + 2 * r.fPairs.length + 7 * r.fTypes.length) a1 (by omega) (by omega) (by omega)
 rw [e3,ob_some]
 exact ⟨_,_,rfl,by omega,by omega⟩
end Go.Proofs.YtkkfmjpbiimkbaaGreat
/- What is marked: lists of numbers. -/
namespace Go.Proofs.YtkkfmjpbiimkbaaGreat
open Go
open Enc (rd ow)
open Arg (argv)
open Ret (retv)
open Wf (wf)
theorem markIntS (fu:Nat) (l:List Int) (kv:Int) (hl:l.length ≤ 1048576) (h0:0 ≤ kv) (h1:kv ≤ 68719476736) (hn:l.length < fu):d_laws_markIntS fu l kv = some (kv + l.length,ints kv l.length):=by
 unfold d_laws_markIntS
 have key:∀ (xs pre:List Int) (n:Nat) (k:Int),pre.length + xs.length = l.length → xs.length < n → 0 ≤ k → k + xs.length ≤ 1099511627776 →
     d_laws_markIntS_L1 fu n (pre ++ xs) k (pre.length:Int) = some (k + xs.length,pre ++ ints k xs.length):=by
  intro xs
  induction xs with
  | nil =>
   intro pre n k h hn h0 h1
   obtain ⟨n,rfl⟩:∃ j,n = j + 1:=⟨n - 1,by omega⟩
   rw [d_laws_markIntS_L1_s]
   unfold d_laws_markIntS_L1_B
   rw [bif_false (by simp)]
   simp [ints]
  | cons x xs ih =>
   intro pre n k h hn h0 h1
   obtain ⟨n,rfl⟩:∃ j,n = j + 1:=⟨n - 1,by simp at hn; omega⟩
   simp only [List.length_cons] at h h1 hn
   rw [d_laws_markIntS_L1_s]
   unfold d_laws_markIntS_L1_B
   have e:ix (pre ++ x :: xs) (pre.length:Int) = some x:=by rw [ix_nat]; simp
   rw [bif_true (by simp; omega),e,ob_some,w64_id (n:=k + 1) (by omega) (by omega),w64_s _ (by omega)]
   have e2:setx (pre ++ x :: xs) (pre.length:Int) k = (pre ++ [k]) ++ xs:=by simp [setx]
   have:=ih (pre ++ [k]) n (k + 1) (by simp; omega) (by omega) (by omega) (by omega)
   simp only [List.length_append,List.length_singleton] at this
   rw [e2,this]
   simp only [List.length_cons,ints,List.append_assoc,List.singleton_append]
   congr 2
   omega
 have:=key l [] fu kv (by simp) hn h0 (by omega)
 simpa using this
end Go.Proofs.YtkkfmjpbiimkbaaGreat
/- Lists of cartons in the laws: their size, copies, equality, marks. -/
namespace Go.Proofs.YtkkfmjpbiimkbaaGreat
open Go
open Enc (rd ow)
open Arg (argv)
open Ret (retv)
open Wf (wf)
theorem markCarS (fu:Nat) (l:List Carton) (kv:Int) (hl:l.length ≤ 1048576) (hm:∀ x ∈ l,x.fUnits.length ≤ 1048576) (hs:lensC l ≤ 1073741824) (h0:0 ≤ kv) (h1:kv ≤ 1073741824) (hf:1048577 ≤ fu) :
    ∃ k x',d_laws_markCartonS fu l kv = some (k,x') ∧ 0 ≤ k ∧ k = kv + 2 * l.length + lensC l:=by
 unfold d_laws_markCartonS
 have key:∀ (xs pre:List Carton) (n:Nat) (k:Int),pre.length + xs.length = l.length → xs.length < n → 0 ≤ k → k + 2 * xs.length + lensC xs ≤ 4294967296 → (∀ x ∈ xs,x.fUnits.length ≤ 1048576) →
     ∃ x',d_laws_markCartonS_L1 fu n (pre ++ xs) k (pre.length:Int) = some (k + 2 * xs.length + lensC xs,x'):=by
  intro xs
  induction xs with
  | nil =>
   intro pre n k h hn h0 h1 hm
   obtain ⟨n,rfl⟩:∃ j,n = j + 1:=⟨n - 1,by omega⟩
   rw [d_laws_markCartonS_L1_s]
   unfold d_laws_markCartonS_L1_B
   rw [bif_false (by simp)]
   exact ⟨pre,by simp [lensC]⟩
  | cons x xs ih =>
   intro pre n k h hn h0 h1 hm
   obtain ⟨n,rfl⟩:∃ j,n = j + 1:=⟨n - 1,by simp at hn; omega⟩
   simp only [List.length_cons,lensC] at h h1 hn
   have hx:=hm x (by simp)
   rw [d_laws_markCartonS_L1_s]
   unfold d_laws_markCartonS_L1_B
   have e:ix (pre ++ x :: xs) (pre.length:Int) = some x:=by rw [ix_nat]; simp
   have e1:w64 (k + 1) = k + 1:=w64_id (by omega) (by omega)
   have e2:w64 (k + 1 + 1) = k + 1 + 1:=w64_id (by omega) (by omega)
   have em:=markIntS fu x.fUnits (k + 1 + 1) hx (by omega) (by omega) (by omega)
   rw [bif_true (by simp; omega)]
   simp only [e,ob_some,ix_setx_eq,Option.map_some,e1,e2,em]
   rw [w64_s _ (by omega)]
   have e3:∀ y:Carton,setx (setx (setx (pre ++ x :: xs) (pre.length:Int) ⟨k,x.fGroup,x.fUnits⟩) (pre.length:Int) ⟨k,k + 1,x.fUnits⟩) (pre.length:Int) y = (pre ++ [y]) ++ xs:=by intro y; simp [setx]
   rw [e3]
   have:=ih (pre ++ [⟨k,k + 1,ints (k + 1 + 1) x.fUnits.length⟩]) n (k + 1 + 1 + x.fUnits.length) (by simp; omega) (by omega) (by omega) (by omega) (fun y hy=>hm y (by simp [hy]))
   simp only [List.length_append,List.length_singleton] at this
   obtain ⟨x',hx'⟩:=this
   refine ⟨x',hx'.trans ?_⟩
   simp only [List.length_cons,lensC]
   congr 2
   omega
 obtain ⟨x',hx'⟩:=key l [] fu kv (by simp) (by omega) h0 (by omega) hm
 exact ⟨_,x',by simpa using hx',by omega,rfl⟩
end Go.Proofs.YtkkfmjpbiimkbaaGreat
/- Plans in the laws: their size, copies, equality, marks. -/
namespace Go.Proofs.YtkkfmjpbiimkbaaGreat
open Go
open Enc (rd ow)
open Arg (argv)
open Ret (retv)
open Wf (wf)
theorem markSpotS (fu:Nat) (l:List Spot) (kv:Int) (hl:l.length ≤ 1048576) (h0:0 ≤ kv) (h1:kv ≤ 68719476736) (hn:l.length < fu):∃ x',d_laws_markSpotS fu l kv = some (kv + 4 * l.length,x'):=by
 refine mark_loop 4 (by omega) (fun n x kv i=>d_laws_markSpotS_L1 fu n x kv i) ?_ ?_ l kv fu hl h0 h1 hn
 · intro n x kv i y hy hd h0 h1
   have e1:w64 (kv + 1) = kv + 1:=w64_id (by omega) (by omega)
   have e2:w64 (kv + 1 + 1) = kv + 1 + 1:=w64_id (by omega) (by omega)
   have e3:w64 (kv + 1 + 1 + 1) = kv + 1 + 1 + 1:=w64_id (by omega) (by omega)
   have e4:w64 (kv + 1 + 1 + 1 + 1) = kv + 1 + 1 + 1 + 1:=w64_id (by omega) (by omega)
   have e':kv + 1 + 1 + 1 + 1 = kv + 4:=by omega
   refine ⟨?_,?_,?_⟩
   rotate_left 2
   · simp only [d_laws_markSpotS_L1_s]
     unfold d_laws_markSpotS_L1_B
     simp only [hd,cond_true,hy,ob_some,ix_setx_eq,Option.map_some,e1,e2,e3,e4]
     rw [e']
     rfl
   · simp [setx_len]
 · intro n x kv i hd
   simp only [d_laws_markSpotS_L1_s]
   unfold d_laws_markSpotS_L1_B
   simp only [hd,cond_false]
theorem markPln {fu:Nat} {x:Plan} (h:Sp x) (hf:1048577 ≤ fu) (kv:Int) (h0:0 ≤ kv) (h1:kv ≤ 1073741824):∃ k x',d_laws_markPlan fu x kv = some (k,x') ∧ 0 ≤ k ∧ k ≤ kv + 16777216:=by
 have hs:=h.spots
 have hc:=h.cars
 have ha:=h.all
 unfold d_laws_markPlan
 obtain ⟨k,x1,e1,e2,e3⟩:=markCarS fu x.fCartons kv hc h.units (by omega) h0 h1 hf
 rw [e1,ob_some]
 obtain ⟨x2,e4⟩:=markSpotS fu x.fSpots k hs e2 (by omega) (by omega)
 simp only [e4,ob_some]
 exact ⟨_,_,rfl,by omega,by omega⟩
end Go.Proofs.YtkkfmjpbiimkbaaGreat
/- Copies of plans; plans that are turned: by spec and by impl. -/
namespace Go.Proofs.YtkkfmjpbiimkbaaGreat
open Go
open Enc (rd ow)
open Arg (argv)
open Ret (retv)
open Wf (wf)
theorem i_cloneC {fu:Nat} {l:List Carton} (hl:l.length ≤ 1048576) (hm:∀ c ∈ l,c.fUnits.length ≤ 1048576) (hf:1048577 ≤ fu):d_impl_cloneCartons fu l = some l:=by
 unfold d_impl_cloneCartons
 have key:=lpI l (fun n (o:List Carton) i=>d_impl_cloneCartons_L1 fu l n o i) (fun xs o=>some (o ++ xs)) (fun xs o=>o.length + xs.length ≤ 1048576 ∧ ∀ c ∈ xs,c.fUnits.length ≤ 1048576) (by omega) ?_ ?_ fu [] ⟨by simp; omega,hm⟩ (by omega)
 · simpa using key
 · intro n o i c xs hx hd hI ih
   have hI1:=hI.1
   have hu:=hI.2 c (by simp)
   simp only [List.length_cons] at hI1
   simp only [d_impl_cloneCartons_L1_s]
   unfold d_impl_cloneCartons_L1_B d_slices_Clone_int_int
   rw [hd,cond_true,hx,ob_some,ap1 (by simp; omega),ob_some,ob_some,ap1 (by simp; omega),ob_some,ih _ ⟨by simp; omega,fun d hd=>hI.2 d (by simp [hd])⟩]
   simp
 · intro n o i hd _
   simp only [d_impl_cloneCartons_L1_s]
   unfold d_impl_cloneCartons_L1_B
   rw [hd,cond_false]; simp
theorem i_cloneP {fu:Nat} {x:Plan} (h:Sp x) (hf:1048577 ≤ fu):d_impl_clonePlan fu x = some x:=by
 have hs:=h.spots
 unfold d_impl_clonePlan d_slices_Clone_impl_Spot_impl_Spot
 rw [i_cloneC h.cars h.units hf,ob_some,ap1 (by simp; omega)]
 simp
theorem s_copyP {fu:Nat} {x:Plan} (h:Sp x) (hf:1048577 ≤ fu):d_spec_l13Copy fu x = some x:=by
 have hs:=h.spots
 have hc:=h.cars
 unfold d_spec_l13Copy
 rw [ap1 (by simp; omega),ob_some,List.nil_append]
 have key:=lpI x.fCartons (fun n (o:List Carton) i=>d_spec_l13Copy_L1 fu x x.fSpots n o i) (fun xs o=>some (⟨o ++ xs,x.fSpots⟩:Plan)) (fun xs o=>o.length + xs.length ≤ 1048576 ∧ ∀ c ∈ xs,c.fUnits.length ≤ 1048576) (by omega) ?_ ?_ fu [] ⟨by simp; omega,h.units⟩ (by omega)
 · simpa using key
 · intro n o i c xs hx hd hI ih
   have hI1:=hI.1
   have hu:=hI.2 c (by simp)
   simp only [List.length_cons] at hI1
   simp only [d_spec_l13Copy_L1_s]
   unfold d_spec_l13Copy_L1_B d_spec_l9Carton
   rw [hd,cond_true,hx,ob_some,ap1 (by simp; omega),ob_some,ob_some,ap1 (by simp; omega),ob_some,ih _ ⟨by simp; omega,fun d hd=>hI.2 d (by simp [hd])⟩]
   simp
 · intro n o i hd _
   simp only [d_spec_l13Copy_L1_s]
   unfold d_spec_l13Copy_L1_B
   rw [hd,cond_false]; simp
theorem feas_len {r:Request} {x:Plan} (h:feaB r x = true):x.fSpots.length = x.fCartons.length:=by
 unfold feaB chkM at h
 cases hp:pokB x
 · rw [hp] at h
   cases hc:clsM r == 0 <;> rw [hc] at h <;> simp at h
 · exact pok_len hp
theorem turn_loop {β:Type} (z:List (Carton × Spot)) (L:Nat → List Spot → Int → Option β) (f:Carton × Spot → Spot) (fin:List Spot → Option β) (hl:z.length ≤ 1048576)
    (hs:∀ n out (i:Int) p,ix z i = some p → decide (i < (z.length:Int)) = true → out.length = z.length → ix out i = some p.2 → L (n + 1) out i = L n (setx out i (f p)) (w64 (i + 1)))
    (he:∀ n out,out.length = z.length → decide ((z.length:Int) < (z.length:Int)) = false → L (n + 1) out (z.length:Int) = fin out):∀ n,z.length < n → L n (z.map (·.2)) 0 = fin (z.map f):=by
 intro n hn
 have key:=lpPI z (fun n (o:List Spot) i=>L n o i) (fun pre xs _=>fin (pre.map f ++ xs.map f)) (fun pre xs o=>o = pre.map f ++ xs.map (·.2)) (by omega) ?_ ?_ n (z.map (·.2)) (by simp) hn
 · simpa using key
 · intro n o pre p xs e hx hd hI ih
   have hz:z.length = pre.length + (xs.length + 1):=by rw [e]; simp
   subst hI
   have ho:ix (pre.map f ++ (p :: xs).map (·.2)) (pre.length:Int) = some p.2:=by rw [ix_nat]; simp
   show L (n + 1) _ _ = _
   rw [hs n _ _ p hx hd (by simp [hz]) ho,ih _ ?_]
   · simp
   · simp [setx]
 · intro n o hd hI
   subst hI
   show L (n + 1) _ _ = _
   rw [he n _ (by simp) hd]
   simp
theorem cs_spots {x:Plan} (el:x.fSpots.length = x.fCartons.length):(cs x).map (·.2) = x.fSpots:=by
 unfold cs
 rw [List.map_snd_zip]
 omega
def turnM (r:Request) (x:Plan) (f:Box → Spot → Spot):Plan:=bif feaB r x then ⟨x.fCartons,(cs x).map fun p=>f (boxM r p.1) p.2⟩ else x
def mirF (r:Request) (b:Box) (s:Spot):Spot:=⟨s.fPallet,w64 (w64 (r.fPallet.fW - s.fX) - b.fW),s.fY,s.fZ⟩
def froF (r:Request) (b:Box) (s:Spot):Spot:=⟨s.fPallet,s.fX,w64 (w64 (r.fPallet.fD - s.fY) - b.fD),s.fZ⟩
def swaF (a b:Int) (_:Box) (s:Spot):Spot:=bif s.fPallet == a then ⟨b,s.fX,s.fY,s.fZ⟩ else bif s.fPallet == b then ⟨a,s.fX,s.fY,s.fZ⟩ else s
def swaM (r:Request) (x:Plan) (a b:Int):Plan:=bif inb a 0 (palM x.fSpots - 1) && inb b 0 (palM x.fSpots - 1) then turnM r x (swaF a b) else x
theorem w64_pal (x:Plan):w64 (palM x.fSpots - 1) = palM x.fSpots - 1:=by
 have:=palM_bd x.fSpots
 exact w64_id (by omega) (by omega)
theorem turnM_sp {r:Request} {x:Plan} (h:Sp x) (f:Box → Spot → Spot):Sp (turnM r x f):=by
 unfold turnM
 cases hb:feaB r x
 · exact h
 · have el:=feas_len hb
   have hs:=h.spots
   exact ⟨h.cars,h.units,h.all,by simp [cs_len el]; omega⟩
theorem swaM_sp {r:Request} {x:Plan} (h:Sp x) (a b:Int):Sp (swaM r x a b):=by
 unfold swaM
 cases inb a 0 (palM x.fSpots - 1) && inb b 0 (palM x.fSpots - 1)
 · exact h
 · exact turnM_sp h _
end Go.Proofs.YtkkfmjpbiimkbaaGreat
/- What is held: lists of numbers. -/
namespace Go.Proofs.YtkkfmjpbiimkbaaGreat
open Go
open Enc (rd ow)
open Arg (argv)
open Ret (retv)
open Wf (wf)
theorem ints_get:∀ (m:Nat) (a:Int) (i:Nat),i < m → (ints a m)[i]? = some (a + i)
 | 0,_,_,h=>by omega
 | m + 1,a,0,_=>by simp [ints]
 | m + 1,a,i + 1,h=>by
  simp only [ints,List.getElem?_cons_succ]
  rw [ints_get m (a + 1) i (by omega)]
  congr 1
  omega
theorem heldIntS (fu:Nat) (m:Nat) (kv:Int) (hl:m ≤ 1048576) (h0:0 ≤ kv) (h1:kv ≤ 68719476736) (hn:m < fu):d_laws_heldIntS fu (ints kv m) kv = some (kv + m):=by
 unfold d_laws_heldIntS
 have key:∀ (j i n:Nat),m - i = j → i ≤ m → j < n → d_laws_heldIntS_L1 fu (ints kv m) n (kv + i) (i:Int) = some (kv + m):=by
  intro j
  induction j with
  | zero =>
   intro i n hj hi hn
   obtain ⟨n,rfl⟩:∃ j,n = j + 1:=⟨n - 1,by omega⟩
   rw [d_laws_heldIntS_L1_s]
   unfold d_laws_heldIntS_L1_B
   rw [bif_false (by rw [ints_len]; simp; omega)]
   congr 1
   omega
  | succ j ih =>
   intro i n hj hi hn
   obtain ⟨n,rfl⟩:∃ j,n = j + 1:=⟨n - 1,by omega⟩
   rw [d_laws_heldIntS_L1_s]
   unfold d_laws_heldIntS_L1_B
   rw [bif_true (by rw [ints_len]; simp; omega),ix_nat,ints_get m kv i (by omega),ob_some,bif_false (by simp),w64_id (by omega) (by omega),w64_s _ (by omega)]
   have:=ih (i + 1) n (by omega) (by omega) (by omega)
   rw [← this]
   congr 1
   omega
 have:=key m 0 fu (by omega) (by omega) hn
 simpa using this
end Go.Proofs.YtkkfmjpbiimkbaaGreat
/- Shuffled, by spec and by impl. -/
namespace Go.Proofs.YtkkfmjpbiimkbaaGreat
open Go
open Enc (rd ow)
open Arg (argv)
open Ret (retv)
open Wf (wf)
def zSpot:Spot:=⟨0,0,0,0⟩
def spoM (x:Plan) (i:Int):Spot:=(ix x.fSpots i).getD zSpot
def shuM (r:Request) (x:Plan) (o:List Int):Plan :=
 bif feaB r x && perB o (ints 0 x.fCartons.length) then ⟨o.map (carM x),o.map (spoM x)⟩ else x
theorem per_len {o:List Int} {n:Nat} (h:perB o (ints 0 n) = true):o.length = n:=by
 have:=(perB_iff.1 h).length_eq
 rwa [ints_len] at this
theorem per_in {o:List Int} {n:Nat} (h:perB o (ints 0 n) = true):∀ k ∈ o,0 ≤ k ∧ k < n:=fun k hk=>by
 have:=ints_mem.1 ((perB_iff.1 h).mem_iff.1 hk)
 omega
theorem car_in {x:Plan} {k:Int} (h:0 ≤ k ∧ k < x.fCartons.length):ix x.fCartons k = some (carM x k):=by
 have h1:k.toNat < x.fCartons.length:=by omega
 have:=ix_i h1
 rw [show ((k.toNat:Nat):Int) = k by omega] at this
 unfold carM; rw [this]; rfl
theorem spo_in {x:Plan} {k:Int} (h:0 ≤ k ∧ k < x.fSpots.length):ix x.fSpots k = some (spoM x k):=by
 have h1:k.toNat < x.fSpots.length:=by omega
 have:=ix_i h1
 rw [show ((k.toNat:Nat):Int) = k by omega] at this
 unfold spoM; rw [this]; rfl
theorem car_units {x:Plan} (hx:Sp x) {k:Int} (h:0 ≤ k ∧ k < x.fCartons.length):(carM x k).fUnits.length ≤ 1048576:=hx.units _ (ix_mem (car_in h))
theorem ix_mid {α:Type} (A:List α) (y:α) (B:List α) (n:Nat) (h:A.length = n):ix (A ++ y :: B) (n:Int) = some y:=by subst h; rw [ix_nat]; simp
theorem setx_mid {α:Type} (A:List α) (y0 y:α) (B:List α) (n:Nat) (h:A.length = n):setx (A ++ y0 :: B) (n:Int) y = A ++ y :: B:=by subst h; simp [setx]
theorem i_shu {fu:Nat} {r:Request} (h:Sm fu r) {x:Plan} (hx:Sp x) (o:List Int) (ho:o.length ≤ 1048576):d_impl_Shuffled fu r x o = some (shuM r x o):=by
 have hfu:=h.fu
 have hc:=hx.cars
 unfold d_impl_Shuffled d_slices_Clone_int_int d_slices_Sort_int_int shuM
 rw [i_cloneP hx (by omega),ob_some,ap1 (by simp; omega),ob_some,ob_some,List.nil_append,sortI_some ho,ob_some,i_feas h hx,ob_some]
 cases hb:feaB r x
 · rfl
 · have el:=feas_len hb
   rw [Bool.not_true,cond_false,i_places _ hc (by omega),ob_some,i_equal _ _ (by simp; omega) (by simp; omega),ob_some]
   have e1:decide (o.mergeSort (fun x y=>decide (x ≤ y)) = ints 0 x.fCartons.length) = perB o (ints 0 x.fCartons.length):=by
    unfold perB; rw [ints_sorted]
   rw [e1,Bool.true_and]
   cases hp:perB o (ints 0 x.fCartons.length)
   · rfl
   · have hol:=per_len hp
     have hin:=per_in hp
     rw [Bool.not_true,cond_false,cond_true]
     unfold d_impl_Shuffled_J1
     have key:=lpPI o (fun n (s:List Carton × List Spot) i=>d_impl_Shuffled_L1 fu x o n s.1 s.2 i) (fun pre xs _=>some (⟨pre.map (carM x) ++ xs.map (carM x),pre.map (spoM x) ++ xs.map (spoM x)⟩:Plan))
      (fun pre xs s=>s.1 = pre.map (carM x) ++ x.fCartons.drop pre.length ∧ s.2 = pre.map (spoM x) ++ x.fSpots.drop pre.length) (by omega) ?_ ?_ fu (x.fCartons,x.fSpots) (by simp) (by omega)
     · simpa using key
     · intro n s pre k xs e hk hd hI ih
       obtain ⟨s1,s2⟩:=s
       obtain ⟨rfl,rfl⟩:=hI
       have ih':=fun a b=>ih (a,b)
       simp only at ih'
       have hkk:=hin k (by rw [e]; simp)
       have hpl:pre.length + 1 ≤ x.fCartons.length:=by rw [← hol,e]; simp
       have hu:=car_units hx hkk
       have d1:x.fCartons.drop pre.length = x.fCartons[pre.length]'(by omega) :: x.fCartons.drop (pre.length + 1):=List.drop_eq_getElem_cons (by omega)
       have d2:x.fSpots.drop pre.length = x.fSpots[pre.length]'(by omega) :: x.fSpots.drop (pre.length + 1):=List.drop_eq_getElem_cons (by omega)
       have f1:ix (pre.map (carM x) ++ x.fCartons.drop pre.length) (pre.length:Int) = some (x.fCartons[pre.length]'(by omega)):=by rw [d1,ix_mid _ _ _ _ (by simp)]
       have f2:ix (pre.map (spoM x) ++ x.fSpots.drop pre.length) (pre.length:Int) = some (x.fSpots[pre.length]'(by omega)):=by rw [d2,ix_mid _ _ _ _ (by simp)]
       simp only [d_impl_Shuffled_L1_s]
       unfold d_impl_Shuffled_L1_B d_slices_Clone_int_int
       rw [hd,cond_true,hk,ob_some,car_in hkk,ob_some,ap1 (by simp; omega),ob_some,ob_some,f1,ob_some,spo_in (by omega),ob_some,f2,ob_some,ih' _ _ ?_]
       · simp
       · simp only [List.nil_append]
         constructor
         · rw [d1,setx_mid _ _ _ _ _ (by simp)]; simp
         · rw [d2,setx_mid _ _ _ _ _ (by simp)]; simp
     · intro n s hd hI
       obtain ⟨s1,s2⟩:=s
       obtain ⟨rfl,rfl⟩:=hI
       simp only [d_impl_Shuffled_L1_s]
       unfold d_impl_Shuffled_L1_B
       rw [hd,cond_false]
       simp [hol,el]
theorem s_shu {fu:Nat} {r:Request} (h:Sm fu r) {x:Plan} (hx:Sp x) (o:List Int) (ho:o.length ≤ 1048576):d_spec_Shuffled fu r x o = some (shuM r x o):=by
 have hfu:=h.fu
 have hc:=hx.cars
 unfold d_spec_Shuffled shuM
 rw [s_feas h hx,ob_some]
 cases hb:feaB r x
 · rw [Bool.not_false,cond_true,s_copyP hx (by omega)]; rfl
 · have el:=feas_len hb
   rw [Bool.not_true,cond_false,Bool.true_and]
   by_cases hl:o.length = x.fCartons.length
   · rw [show ((o.length:Int) != (x.fCartons.length:Int)) = false by simp; omega,cond_false]
     unfold d_spec_Shuffled_J1
     have key:=lpPI o (fun n (s:List Carton × List Spot) i=>d_spec_Shuffled_L1 fu x o n s.1 s.2 i) (fun pre xs _=>some (bif perB o (ints 0 x.fCartons.length) then (⟨o.map (carM x),o.map (spoM x)⟩:Plan) else x))
      (fun pre xs s=>s.1 = pre.map (carM x) ∧ s.2 = pre.map (spoM x) ∧ ∀ i ∈ ints 0 pre.length,o.count i = 1) (by omega) ?_ ?_ fu ([],[]) (by simp [ints]) (by omega)
     · exact key
     · intro n s pre k xs e hk hd hI ih
       obtain ⟨s1,s2⟩:=s
       obtain ⟨rfl,rfl,hcnt⟩:=hI
       have ih':=fun a b=>ih (a,b)
       simp only at ih'
       have hpl:pre.length + 1 ≤ x.fCartons.length:=by rw [← hl,e]; simp
       have hd':decide ((pre.length:Int) < (x.fCartons.length:Int)) = true:=decide_eq_true (by omega)
       simp only [d_spec_Shuffled_L1_s]
       unfold d_spec_Shuffled_L1_B d_spec_l9Carton
       rw [hd',cond_true,s_tim ho (by omega),ob_some,cnt_count]
       by_cases hc1:o.count (pre.length:Int) = 1
       · rw [show (((o.count (pre.length:Int):Nat):Int) != 1) = false by simp; omega,cond_false,hk,ob_some,s_in,ob_some,w64_id (by omega) (by omega)]
         cases hin:inb k 0 ((x.fCartons.length:Int) - 1)
         · rw [Bool.not_false,cond_true,s_copyP hx (by omega),ob_some]
           have:perB o (ints 0 x.fCartons.length) = false:=by
            apply Bool.eq_false_iff.2
            intro hp
            have:=per_in hp k (by rw [e]; simp)
            have:inb k 0 ((x.fCartons.length:Int) - 1) = true:=inb_iff.2 (by omega)
            rw [hin] at this; cases this
           rw [this]; rfl
         · have hkk:0 ≤ k ∧ k < x.fCartons.length:=by have:=inb_iff.1 hin; omega
           have hu:=car_units hx hkk
           rw [Bool.not_true,cond_false,ob_some,car_in hkk,ob_some,ap1 (by simp; omega),ob_some,ob_some,ap1 (by simp; omega),ob_some,ob_some,spo_in (by omega),ob_some,ap1 (by simp; omega),ob_some,ih' _ _ ?_]
           refine ⟨by simp,by simp,?_⟩
           rw [List.length_append,List.length_singleton,ints_snoc]
           intro i hi
           rw [List.mem_append,List.mem_singleton] at hi
           rcases hi with hi | rfl
           · exact hcnt i hi
           · rw [Int.zero_add]; exact hc1
       · rw [show (((o.count (pre.length:Int):Nat):Int) != 1) = true by simp; omega,cond_true,s_copyP hx (by omega),ob_some]
         have:perB o (ints 0 x.fCartons.length) = false:=by
          apply Bool.eq_false_iff.2
          intro hp
          apply hc1
          rw [(perB_iff.1 hp).count_eq,List.Nodup.count (ints_nodup _ _),if_pos (ints_mem.2 (by omega))]
         rw [this]; rfl
     · intro n s hd hI
       obtain ⟨s1,s2⟩:=s
       obtain ⟨rfl,rfl,hcnt⟩:=hI
       rw [hl] at hd hcnt ⊢
       simp only [d_spec_Shuffled_L1_s]
       unfold d_spec_Shuffled_L1_B
       rw [hd,cond_false]
       have:perB o (ints 0 x.fCartons.length) = true:=by
        refine perB_iff.2 (perm_cnt _ _ (by rw [ints_len,hl]) fun u hu=>?_).symm
        rw [List.Nodup.count (ints_nodup _ _),if_pos hu,hcnt u hu]
       rw [this]; rfl
   · rw [show ((o.length:Int) != (x.fCartons.length:Int)) = true by simp; omega,cond_true,s_copyP hx (by omega),ob_some]
     have:perB o (ints 0 x.fCartons.length) = false:=by
      apply Bool.eq_false_iff.2
      intro hp
      exact hl (per_len hp)
     rw [this]; rfl
theorem lensC_perm {a b:List Carton} (h:a.Perm b):lensC a = lensC b:=by
 induction h with
 | nil=>rfl
 | cons x _ ih=>simp only [lensC,ih]
 | swap x y l=>simp only [lensC]; omega
 | trans _ _ h1 h2=>exact h1.trans h2
theorem map_car (x:Plan):(ints 0 x.fCartons.length).map (carM x) = x.fCartons:=by
 apply List.ext_getElem?
 intro i
 rw [List.getElem?_map]
 by_cases hi:i < x.fCartons.length
 · rw [ints_get _ _ _ hi,Option.map_some,Int.zero_add]
   unfold carM
   rw [ix_i hi,List.getElem?_eq_getElem hi]; rfl
 · rw [List.getElem?_eq_none (by rw [ints_len]; omega),List.getElem?_eq_none (by omega)]; rfl
theorem shuM_sp {r:Request} {x:Plan} (hx:Sp x) (o:List Int):Sp (shuM r x o):=by
 have hc:=hx.cars
 unfold shuM
 cases hb:feaB r x && perB o (ints 0 x.fCartons.length)
 · exact hx
 · simp only [Bool.and_eq_true] at hb
   have hl:=per_len hb.2
   have hp:=(perB_iff.1 hb.2).map (carM x)
   rw [map_car] at hp
   exact ⟨by simp [hl]; exact hc,fun c hc=>hx.units c (hp.mem_iff.1 hc),by rw [cond_true,lensC_perm hp]; exact hx.all,by simp [hl]; exact hc⟩
end Go.Proofs.YtkkfmjpbiimkbaaGreat
/- Marks on a plan, exactly; what is held of them. -/
namespace Go.Proofs.YtkkfmjpbiimkbaaGreat
open Go
open Enc (rd ow)
open Arg (argv)
open Ret (retv)
open Wf (wf)
def mkC:Int → List Carton → List Carton
 | _,[]=>[]
 | k,c :: l=>⟨k,k + 1,ints (k + 2) c.fUnits.length⟩ :: mkC (k + 2 + c.fUnits.length) l
def mkS:Int → List Spot → List Spot
 | _,[]=>[]
 | k,_ :: l=>⟨k,k + 1,k + 2,k + 3⟩ :: mkS (k + 4) l
theorem mkC_len:∀ (k:Int) (l:List Carton),(mkC k l).length = l.length
 | _,[]=>rfl
 | k,c :: l=>by simp [mkC,mkC_len _ l]
theorem mkS_len:∀ (k:Int) (l:List Spot),(mkS k l).length = l.length
 | _,[]=>rfl
 | k,c :: l=>by simp [mkS,mkS_len _ l]
theorem markCarX (fu:Nat) (l:List Carton) (kv:Int) (hl:l.length ≤ 1048576) (hm:∀ x ∈ l,x.fUnits.length ≤ 1048576) (hs:lensC l ≤ 1073741824) (h0:0 ≤ kv) (h1:kv ≤ 1073741824) (hf:1048577 ≤ fu) :
    d_laws_markCartonS fu l kv = some (kv + 2 * l.length + lensC l,mkC kv l):=by
 unfold d_laws_markCartonS
 have key:∀ (xs pre:List Carton) (n:Nat) (k:Int),pre.length + xs.length = l.length → xs.length < n → 0 ≤ k → k + 2 * xs.length + lensC xs ≤ 4294967296 → (∀ x ∈ xs,x.fUnits.length ≤ 1048576) →
     d_laws_markCartonS_L1 fu n (pre ++ xs) k (pre.length:Int) = some (k + 2 * xs.length + lensC xs,pre ++ mkC k xs):=by
  intro xs
  induction xs with
  | nil =>
   intro pre n k h hn h0 h1 hm
   obtain ⟨n,rfl⟩:∃ j,n = j + 1:=⟨n - 1,by omega⟩
   rw [d_laws_markCartonS_L1_s]
   unfold d_laws_markCartonS_L1_B
   rw [bif_false (by simp)]
   simp [lensC,mkC]
  | cons x xs ih =>
   intro pre n k h hn h0 h1 hm
   obtain ⟨n,rfl⟩:∃ j,n = j + 1:=⟨n - 1,by simp at hn; omega⟩
   simp only [List.length_cons,lensC] at h h1 hn
   have hx:=hm x (by simp)
   rw [d_laws_markCartonS_L1_s]
   unfold d_laws_markCartonS_L1_B
   have e:ix (pre ++ x :: xs) (pre.length:Int) = some x:=by rw [ix_nat]; simp
   have e1:w64 (k + 1) = k + 1:=w64_id (by omega) (by omega)
   have e2:w64 (k + 1 + 1) = k + 1 + 1:=w64_id (by omega) (by omega)
   have em:=markIntS fu x.fUnits (k + 1 + 1) hx (by omega) (by omega) (by omega)
   rw [bif_true (by simp; omega)]
   simp only [e,ob_some,ix_setx_eq,Option.map_some,e1,e2,em]
   rw [w64_s _ (by omega)]
   have e3:∀ y:Carton,setx (setx (setx (pre ++ x :: xs) (pre.length:Int) ⟨k,x.fGroup,x.fUnits⟩) (pre.length:Int) ⟨k,k + 1,x.fUnits⟩) (pre.length:Int) y = (pre ++ [y]) ++ xs:=by intro y; simp [setx]
   rw [e3]
   have:=ih (pre ++ [⟨k,k + 1,ints (k + 1 + 1) x.fUnits.length⟩]) n (k + 1 + 1 + x.fUnits.length) (by simp; omega) (by omega) (by omega) (by omega) (fun y hy=>hm y (by simp [hy]))
   simp only [List.length_append,List.length_singleton] at this
   rw [this]
   have e4:k + 1 + 1 = k + 2:=by omega
   simp only [List.length_cons,lensC,mkC,e4,List.append_assoc,List.singleton_append]
   congr 2
   omega
 have:=key l [] fu kv (by simp) (by omega) h0 (by omega) hm
 simpa using this
theorem markSpX (fu:Nat) (l:List Spot) (kv:Int) (hl:l.length ≤ 1048576) (h0:0 ≤ kv) (h1:kv ≤ 68719476736) (hn:l.length < fu):d_laws_markSpotS fu l kv = some (kv + 4 * l.length,mkS kv l):=by
 unfold d_laws_markSpotS
 have key:∀ (xs pre:List Spot) (n:Nat) (k:Int),pre.length + xs.length = l.length → xs.length < n → 0 ≤ k → k + 4 * xs.length ≤ 687194767360 →
     d_laws_markSpotS_L1 fu n (pre ++ xs) k (pre.length:Int) = some (k + 4 * xs.length,pre ++ mkS k xs):=by
  intro xs
  induction xs with
  | nil =>
   intro pre n k h hn h0 h1
   obtain ⟨n,rfl⟩:∃ j,n = j + 1:=⟨n - 1,by omega⟩
   rw [d_laws_markSpotS_L1_s]
   unfold d_laws_markSpotS_L1_B
   rw [bif_false (by simp)]
   simp [mkS]
  | cons x xs ih =>
   intro pre n k h hn h0 h1
   obtain ⟨n,rfl⟩:∃ j,n = j + 1:=⟨n - 1,by simp at hn; omega⟩
   simp only [List.length_cons] at h h1 hn
   rw [d_laws_markSpotS_L1_s]
   unfold d_laws_markSpotS_L1_B
   have e:ix (pre ++ x :: xs) (pre.length:Int) = some x:=by rw [ix_nat]; simp
   have e1:w64 (k + 1) = k + 1:=w64_id (by omega) (by omega)
   have e2:w64 (k + 1 + 1) = k + 2:=by rw [w64_id (by omega) (by omega)]; omega
   have e3:w64 (k + 2 + 1) = k + 3:=by rw [w64_id (by omega) (by omega)]; omega
   have e4:w64 (k + 3 + 1) = k + 4:=by rw [w64_id (by omega) (by omega)]; omega
   rw [bif_true (by simp; omega)]
   simp only [e,ob_some,ix_setx_eq,Option.map_some,e1,e2,e3,e4]
   rw [w64_s _ (by omega)]
   have e5:∀ y1 y2 y3 y:Spot,setx (setx (setx (setx (pre ++ x :: xs) (pre.length:Int) y1) (pre.length:Int) y2) (pre.length:Int) y3) (pre.length:Int) y = (pre ++ [y]) ++ xs:=by intro _ _ _ y; simp [setx]
   rw [e5]
   have:=ih (pre ++ [⟨k,k + 1,k + 2,k + 3⟩]) n (k + 4) (by simp; omega) (by omega) (by omega) (by omega)
   simp only [List.length_append,List.length_singleton] at this
   rw [this]
   simp only [List.length_cons,mkS,List.append_assoc,List.singleton_append]
   congr 2
   omega
 have:=key l [] fu kv (by simp) (by omega) h0 (by omega)
 simpa using this
theorem heldCarX (fu:Nat) (l:List Carton) (kv:Int) (hl:l.length ≤ 1048576) (hm:∀ x ∈ l,x.fUnits.length ≤ 1048576) (hs:lensC l ≤ 1073741824) (h0:0 ≤ kv) (h1:kv ≤ 1073741824) (hf:1048577 ≤ fu) :
    d_laws_heldCartonS fu (mkC kv l) kv = some (kv + 2 * l.length + lensC l):=by
 unfold d_laws_heldCartonS
 have hml:=mkC_len kv l
 have key:∀ (xs:List Carton) (pre:List Carton) (n:Nat) (k:Int),pre ++ mkC k xs = mkC kv l → xs.length < n → 0 ≤ k → k + 2 * xs.length + lensC xs ≤ 4294967296 → (∀ x ∈ xs,x.fUnits.length ≤ 1048576) →
     d_laws_heldCartonS_L1 fu (mkC kv l) n k (pre.length:Int) = some (k + 2 * xs.length + lensC xs):=by
  intro xs
  induction xs with
  | nil =>
   intro pre n k h hn h0 h1 hm
   obtain ⟨n,rfl⟩:∃ j,n = j + 1:=⟨n - 1,by omega⟩
   rw [d_laws_heldCartonS_L1_s]
   unfold d_laws_heldCartonS_L1_B
   rw [← h]
   rw [bif_false (by simp [mkC])]
   simp [lensC]
  | cons x xs ih =>
   intro pre n k h hn h0 h1 hm
   obtain ⟨n,rfl⟩:∃ j,n = j + 1:=⟨n - 1,by simp at hn; omega⟩
   simp only [List.length_cons,lensC] at h1 hn
   have hx:=hm x (by simp)
   have hlen:pre.length + (1 + (mkC (k + 2 + x.fUnits.length) xs).length) = (mkC kv l).length:=by rw [← h]; simp [mkC]; omega
   have e:ix (mkC kv l) (pre.length:Int) = some ⟨k,k + 1,ints (k + 2) x.fUnits.length⟩:=by rw [← h,ix_nat]; simp [mkC]
   have e1:w64 (k + 1) = k + 1:=w64_id (by omega) (by omega)
   have e2:w64 (k + 1 + 1) = k + 2:=by rw [w64_id (by omega) (by omega)]; omega
   have eh:=heldIntS fu x.fUnits.length (k + 2) hx (by omega) (by omega) (by omega)
   rw [d_laws_heldCartonS_L1_s]
   unfold d_laws_heldCartonS_L1_B
   rw [bif_true (by simp; omega)]
   simp only [e,ob_some,e1,e2,eh,bne_self_eq_false,cond_false]
   rw [bif_false (by simp; omega),w64_s _ (by omega)]
   have:=ih (pre ++ [⟨k,k + 1,ints (k + 2) x.fUnits.length⟩]) n (k + 2 + x.fUnits.length) (by rw [← h]; simp [mkC]) (by omega) (by omega) (by omega) (fun y hy=>hm y (by simp [hy]))
   simp only [List.length_append,List.length_singleton] at this
   rw [this]
   simp only [List.length_cons,lensC]
   congr 1
   omega
 have:=key l [] fu kv (by simp) (by omega) h0 (by omega) hm
 simpa using this
theorem heldSpX (fu:Nat) (l:List Spot) (kv:Int) (hl:l.length ≤ 1048576) (h0:0 ≤ kv) (h1:kv ≤ 68719476736) (hn:l.length < fu):d_laws_heldSpotS fu (mkS kv l) kv = some (kv + 4 * l.length):=by
 unfold d_laws_heldSpotS
 have hml:=mkS_len kv l
 have key:∀ (xs pre:List Spot) (n:Nat) (k:Int),pre ++ mkS k xs = mkS kv l → xs.length < n → 0 ≤ k → k + 4 * xs.length ≤ 687194767360 →
     d_laws_heldSpotS_L1 fu (mkS kv l) n k (pre.length:Int) = some (k + 4 * xs.length):=by
  intro xs
  induction xs with
  | nil =>
   intro pre n k h hn h0 h1
   obtain ⟨n,rfl⟩:∃ j,n = j + 1:=⟨n - 1,by omega⟩
   rw [d_laws_heldSpotS_L1_s]
   unfold d_laws_heldSpotS_L1_B
   rw [← h,bif_false (by simp [mkS])]
   simp
  | cons x xs ih =>
   intro pre n k h hn h0 h1
   obtain ⟨n,rfl⟩:∃ j,n = j + 1:=⟨n - 1,by simp at hn; omega⟩
   simp only [List.length_cons] at h1 hn
   have hlen:pre.length + (1 + (mkS (k + 4) xs).length) = (mkS kv l).length:=by rw [← h]; simp [mkS]; omega
   have e:ix (mkS kv l) (pre.length:Int) = some ⟨k,k + 1,k + 2,k + 3⟩:=by rw [← h,ix_nat]; simp [mkS]
   have e1:w64 (k + 1) = k + 1:=w64_id (by omega) (by omega)
   have e2:w64 (k + 1 + 1) = k + 2:=by rw [w64_id (by omega) (by omega)]; omega
   have e3:w64 (k + 2 + 1) = k + 3:=by rw [w64_id (by omega) (by omega)]; omega
   have e4:w64 (k + 3 + 1) = k + 4:=by rw [w64_id (by omega) (by omega)]; omega
   rw [d_laws_heldSpotS_L1_s]
   unfold d_laws_heldSpotS_L1_B
   rw [bif_true (by simp; omega)]
   simp only [e,ob_some,e1,e2,e3,e4,bne_self_eq_false,cond_false]
   rw [w64_s _ (by omega)]
   have:=ih (pre ++ [⟨k,k + 1,k + 2,k + 3⟩]) n (k + 4) (by rw [← h]; simp [mkS]) (by omega) (by omega) (by omega)
   simp only [List.length_append,List.length_singleton] at this
   rw [this]
   simp only [List.length_cons]
   congr 1
   omega
 have:=key l [] fu kv (by simp) (by omega) h0 (by omega)
 simpa using this
def mkP (k:Int) (x:Plan):Plan:=⟨mkC k x.fCartons,mkS (k + 2 * x.fCartons.length + lensC x.fCartons) x.fSpots⟩
def mkN (k:Int) (x:Plan):Int:=k + 2 * x.fCartons.length + lensC x.fCartons + 4 * x.fSpots.length
theorem markPlX {fu:Nat} {x:Plan} (h:Sp x) (hf:1048577 ≤ fu) (kv:Int) (h0:0 ≤ kv) (h1:kv ≤ 1073741824):d_laws_markPlan fu x kv = some (mkN kv x,mkP kv x):=by
 have hs:=h.spots
 have hc:=h.cars
 have ha:=h.all
 unfold d_laws_markPlan mkN mkP
 rw [markCarX fu x.fCartons kv hc h.units (by omega) h0 h1 hf,ob_some]
 simp only [markSpX fu x.fSpots (kv + 2 * x.fCartons.length + lensC x.fCartons) hs (by omega) (by omega) (by omega),ob_some]
theorem heldPlX {fu:Nat} {x:Plan} (h:Sp x) (hf:1048577 ≤ fu) (kv:Int) (h0:0 ≤ kv) (h1:kv ≤ 1073741824):d_laws_heldPlan fu (mkP kv x) kv = some (mkN kv x):=by
 have hs:=h.spots
 have hc:=h.cars
 have ha:=h.all
 unfold d_laws_heldPlan mkN mkP
 rw [heldCarX fu x.fCartons kv hc h.units (by omega) h0 h1 hf,ob_some,bif_false (by simp; omega)]
 simp only [heldSpX fu x.fSpots (kv + 2 * x.fCartons.length + lensC x.fCartons) hs (by omega) (by omega) (by omega),ob_some]
 rw [bif_false (by simp; omega)]
theorem mkN_bd {x:Plan} (h:Sp x):0 ≤ mkN 1 x:=by unfold mkN; omega
end Go.Proofs.YtkkfmjpbiimkbaaGreat
/- FnExactShuffled holds at every input. -/
namespace Go.Proofs.YtkkfmjpbiimkbaaGreat
open Go
open Enc (rd ow)
open Arg (argv)
open Ret (retv)
open Wf (wf)
theorem fnExactShuffled_pure (x0:Request) (x1:Plan) (x2:List Int) (w0:wf x0) (w1:wf x1) (w2:wf x2):∃ fu,d_laws_FnExactShuffled fu x0 x1 x2 = some true:=by
 refine ⟨2097153,?_⟩
 unfold d_laws_FnExactShuffled d_laws_FnExactShuffled_J3 d_laws_FnExactShuffled_J2 d_laws_FnExactShuffled_J1
 by_cases hlo:x2.length ≤ 1048576
 case neg=>rw [bif_true (by simp; omega)]
 rw [bif_false (by simp; omega)]
 rcases szReq 2097153 x0 w0 with ⟨y,h1,h2⟩ | ⟨y,h1,h2,h3,hp,ht,hi⟩
 · rw [h1,ob_some,bif_true (by simp; omega)]
 rw [h1,ob_some,bif_false (by simp; omega)]
 rcases szPln 2097153 x1 y w1 h2 h3 (by omega) with ⟨z,h4,h5⟩ | ⟨z,h4,h5,h6,h7⟩
 · rw [h4,ob_some,bif_true (by simp; omega)]
 rw [h4,ob_some,bif_false (by simp; omega)]
 have hs:Sm 2097153 x0:=⟨by omega,hp,ht,hi⟩
 have hR:Sp (shuM x0 x1 x2):=shuM_sp h7 _
 obtain ⟨k,x',hk,hk0,hk1⟩:=markReq hs 1 (by omega) (by omega)
 obtain ⟨k2,xx2,hk2,hk20,hk21⟩:=markPln (fu:=2097153) h7 (by omega) k hk0 (by omega)
 have em:=markIntS 2097153 x2 k2 hlo hk20 (by omega) (by omega)
 have e1:decide (k2 + (x2.length:Int) < 0) = false:=by simp; omega
 have e2:decide (mkN 1 (shuM x0 x1 x2) < 0) = false:=by have:=mkN_bd hR; simp; omega
 have eq:=eqPln (fu:=2097153) hR (by omega)
 simp only [toReq hs,ob_some,toPln (fu:=2097153) h7 (by omega),s_shu hs h7 x2 hlo,i_shu hs h7 x2 hlo,eqReq hs,eqPln (fu:=2097153) h7 (by omega),hk,hk2,em,toIntS 2097153 x2 hlo (by omega),eqIntS 2097153 x2 hlo (by omega),markPlX (fu:=2097153) hR (by omega) 1 (by omega) (by omega),heldPlX (fu:=2097153) hR (by omega) 1 (by omega) (by omega)]
 simp [e1,e2,eq]
end Go.Proofs.YtkkfmjpbiimkbaaGreat
