import Derived.Test.YtkkfmjpbiimkbaaGreatFillD
import Derived.Test.YtkkfmjpbiimkbaaGreatFillBP2
set_option linter.unusedSimpArgs false
set_option linter.unusedVariables false
/- The plain law of FnFill: what is full is at most full. -/
namespace Go.Proofs.YtkkfmjpbiimkbaaGreat
open Go
open Enc (rd ow)
open Arg (argv)
open Ret (retv)
open Wf (wf)
theorem fil_hold {r:Request} {x:Carton} {t:Typ} (ht:typM r x.fType = some t) (h:hldB r x.fUnits t = true):0 ≤ filM r x ∧ filM r x ≤ 1000:=by
 unfold hldB at h
 simp only [Bool.and_eq_true] at h
 obtain ⟨hc,_,hw⟩:=h
 have hv:volM r x.fUnits ≤ volT t:=by
  unfold witB at hw
  simp only [Bool.and_eq_true,decide_eq_true_eq] at hw
  exact hw.1
 have hp:1 ≤ volT t:=volT_pos (bou_types (clsM_zero (by simpa using hc)).1 t (List.mem_of_find?_eq_some ht))
 have h0:=(volM_bd r x.fUnits).1
 have hV:=(volB_nn t.fW t.fH t.fD).2
 have e:filM r x = Int.tdiv (1000 * volM r x.fUnits) (volT t):=by
  unfold filM
  rw [ht,hc]; rfl
 rw [e]
 refine ⟨Int.tdiv_nonneg (by omega) (by omega),?_⟩
 rw [Int.tdiv_eq_ediv_of_nonneg (by omega)]
 have:1000 * volM r x.fUnits < 1001 * volT t:=by omega
 have:=Int.ediv_lt_of_lt_mul (a:=1000 * volM r x.fUnits) (b:=1001) (c:=volT t) (by omega) (by omega)
 omega
theorem fnFill_pure (b:List U8) (_:wf b):∃ fu,d_laws_FnFill fu b = some true:=by
 refine ⟨2097153,?_⟩
 unfold d_laws_FnFill
 rw [s_big,ob_some]
 by_cases hb:(b.length:Int) > 1048576
 · rw [bif_true (by simpa using hb)]
 rw [bif_false (by simpa using hb)]
 have hb:b.length ≤ 1048576:=by omega
 obtain ⟨x,hx,hr,hu⟩:=dr_gross (fu:=2097153) hb (by omega)
 obtain ⟨y,hy,hr',hy1,hy2⟩:=dr_l9 (fu:=2097153) hb (by omega)
 have hs:=hr.sm (fu:=2097153) (by omega)
 have hs':=hr'.sm (fu:=2097153) (by omega)
 have J2:d_laws_FnFill_J2 2097153 b = some true:=by
  unfold d_laws_FnFill_J2 d_spec_DrawFills
  rw [hy,ob_some,ob_some,i_fills hs' y.2 (show y.2.length ≤ 1048576 by omega) (fun c hc=>by have:=hy2 c hc; omega),ob_some]
  have hlen:(y.2.map (filM y.1)).length = y.2.length:=by simp
  have:=lp y.2 (fun n (_:Unit) i=>d_laws_FnFill_L1 2097153 (y.1,y.2) (y.2.map (filM y.1)) n i) (fun _ _=>some true) (by omega) ?_ ?_ 2097153 () (by omega)
  · exact this
  · intro n s i z zs hz hd ih
    simp only [d_laws_FnFill_L1.eq_2]
    unfold d_laws_FnFill_L1_B d_laws_FnFill_J1
    have hz2:ix (y.2.map (filM y.1)) i = some (filM y.1 z):=by
     obtain ⟨h0,h1,h2⟩:=ix_some hz
     unfold ix
     rw [if_pos h0,List.getElem?_map,h2]; rfl
    have hzu:=hy2 z (ix_mem hz)
    rw [bif_true hd,hlen,bif_false (by simp),hz2,ob_some,hz,ob_some,i_fill hs' z (by omega),ob_some,bif_false (by simp)]
    exact ih ()
  · intro n s i hd
    simp only [d_laws_FnFill_L1.eq_2]
    unfold d_laws_FnFill_L1_B
    rw [bif_false hd,hlen]; simp
 unfold d_spec_DrawFill
 rw [hx,ob_some,ob_some]
 simp only [i_fill hs x.2 (by omega),s_fill hs x.2 (by omega),i_typById hs,s_cls hs,ob_some]
 rw [bif_false (by simp)]
 cases ht:typM x.1 x.2.fType with
 | none =>
  have:filM x.1 x.2 = 0:=by unfold filM; rw [ht]; cases clsM x.1 == 0 <;> rfl
  simp [othM,this]
 | some t =>
  rw [show (othM (some t)) = (t,true) from rfl]
  simp only [Bool.not_true,cond_false]
  by_cases hc:clsM x.1 = 0
  · rw [bif_false (by simp [hc])]
    unfold d_laws_FnFill_J3
    simp only [i_holds hs x.2.fUnits t (by omega),ob_some]
    cases hh:hldB x.1 x.2.fUnits t
    · simpa using J2
    · obtain ⟨f0,f1⟩:=fil_hold ht hh
      rw [cond_true,bif_false (by simp; omega),bif_false (by simp; omega)]
      exact J2
  · rw [bif_true (by simpa using hc)]
    have:filM x.1 x.2 = 0:=by unfold filM; rw [bif_false (by simpa using hc)]
    simp [this]
end Go.Proofs.YtkkfmjpbiimkbaaGreat
