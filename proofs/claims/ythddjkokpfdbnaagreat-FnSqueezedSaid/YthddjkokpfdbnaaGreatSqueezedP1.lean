import Derived.Test.YthddjkokpfdbnaaGreatSqueezedD
import Derived.Test.YthddjkokpfdbnaaGreatSqueezedBP3
set_option linter.unusedSimpArgs false
set_option linter.unusedVariables false
/- The plain law of FnSqueezed: what is squeezed is a packing still. -/
namespace Go.Proofs.YthddjkokpfdbnaaGreat
open Go
open Enc (rd ow)
open Arg (argv)
open Ret (retv)
open Wf (wf)
theorem lp_every (n:Nat) (hn:n ≤ 1000) {β:Type} (L:Nat → List Int → Int → Option β) (fin:List Int → Option β)
    (hs:∀ k out (i:Int),decide (i < (n:Int)) = true → L (k + 1) out i = obind (apnd 8 out [i]) fun x=>L k x (w64 (i + 1))) (he:∀ k out (i:Int),decide (i < (n:Int)) = false → L (k + 1) out i = fin out) (fu:Nat) (hf:1001 ≤ fu) :
    L fu [] 0 = fin (ints 0 n):=by
 have key:=lpNI (n:Int) (fun k out i=>L k out i) (fun xs out=>fin (out ++ xs)) (fun xs out=>out.length + xs.length ≤ 1000) (by omega) ?_ ?_ n fu [] 0 (by omega) (by omega) (by omega) (by simp [ints_len]; omega)
 · simpa using key
 · intro k out i xs h0 h1 hd hI ih
   simp only [List.length_cons] at hI
   rw [hs k out i hd,ap1 (by simp; omega),ob_some,ih _ (by simp; omega)]
   simp
 · intro k out i hd _
   rw [he k out i hd]; simp
theorem fnSqueezed_pure (b:List U8) (_:wf b):∃ fu,d_laws_FnSqueezed fu b = some true:=by
 refine ⟨2097153,?_⟩
 unfold d_laws_FnSqueezed
 rw [s_big,ob_some]
 by_cases hb:(b.length:Int) > 1048576
 · rw [bif_true (by simpa using hb)]
 rw [bif_false (by simpa using hb)]
 obtain ⟨y,hy,hr,hc⟩:=dr_rival (fu:=2097153) (b:=b) (by omega) (by omega)
 obtain ⟨r,cs⟩:=y
 have hr:SmR r:=hr
 have hc:SmC cs:=hc
 have hs:=hr.sm (fu:=2097153) (by omega)
 obtain ⟨c1,c2,c3⟩:=hc.lens
 have hul:=untM_len r
 obtain ⟨o1,o2⟩:=sqz_ok r cs
 have om:∀ x ∈ sqzM r cs,x.length ≤ 1048576:=fun x hx=>by have:=o2 x hx; omega
 have ol:SmC (sqzM r cs):=⟨o1,fun c hc=>by have:=o2 c hc; omega⟩
 obtain ⟨_,_,o3⟩:=ol.lens
 have hcl:=hc.1
 unfold d_spec_DrawSqueeze d_laws_FnSqueezed_J1
 rw [hy,ob_some,ob_some]
 simp only [i_sqz hs cs c1 c2 c3,s_sqz hs cs c1 c2 c3,i_spa hs cs c1 c2 c3,s_spa hs cs c1 c2 c3,s_rival hs cs c1 c2 c3,i_unt hs,ob_some]
 rw [bif_false (by simp),bif_false (by simp)]
 cases hv:rivB r cs
 · have e1:sqzM r cs = []:=by unfold sqzM; rw [hv]; rfl
   have e2:spaM r cs = 0:=by unfold spaM; rw [hv]; rfl
   rw [e1,e2]; rfl
 · rw [Bool.not_true,cond_false]
   obtain ⟨q1,q2⟩:=sqz_riv hv
   obtain ⟨p1,p2,p3⟩:=riv_parts q1
   have hlow:=low_le p1 (fun c h=>(p2 c h).2.1) p3
   have hsp:spaM r cs = (cs.length:Int) - ((sqzM r cs).length:Int):=by unfold spaM; rw [hv]; rfl
   rw [lp_every (untM r).length (by omega) (fun n o i=>d_laws_FnSqueezed_L1 2097153 (r,cs) (sqzM r cs) (untM r) n o i) (fun o=>obind (d_impl_IsRival 2097153 r (sqzM r cs)) fun x148=>bif x148 then bif (decide (((sqzM r cs).length:Int) ≤ (cs.length:Int))) then obind (d_impl_Spare 2097153 r cs) fun x154=>bif (x154 == (w64 ((cs.length:Int) - ((sqzM r cs).length:Int)))) then obind (d_impl_Lower 2097153 r o) fun x159=>some (decide (((sqzM r cs).length:Int) ≥ x159)) else some (false) else some (false) else some (false)) ?_ ?_ 2097153 (by omega)]
   · simp only [i_rival hs (sqzM r cs) (by omega) om o3,q1,ob_some,cond_true,i_spa hs cs c1 c2 c3,hsp,i_low hs p1 (us:=ints 0 (untM r).length) (by rw [ints_len]; omega)]
     rw [bif_true (by simpa using q2),w64_id (by omega) (by omega),bif_true (by simp)]
     simp only [Option.some.injEq,decide_eq_true_eq]
     omega
   · intro k o i hd
     simp only [d_laws_FnSqueezed_L1.eq_2]
     unfold d_laws_FnSqueezed_L1_B
     rw [hd,cond_true]
   · intro k o i hd
     simp only [d_laws_FnSqueezed_L1.eq_2]
     unfold d_laws_FnSqueezed_L1_B
     rw [hd,cond_false]
end Go.Proofs.YthddjkokpfdbnaaGreat
