import Derived.Test.YthddjkokpfdbnaaGreatSlackTotalD
import Derived.Test.YthddjkokpfdbnaaGreatSlackTotalBP4
set_option linter.unusedSimpArgs false
set_option linter.unusedVariables false
/- The plain law of FnSlackTotal. -/
namespace Go.Proofs.YthddjkokpfdbnaaGreat
open Go
open Enc (rd ow)
open Arg (argv)
open Ret (retv)
open Wf (wf)
theorem fnSlackTotal_pure (b:List U8) (_:wf b):∃ fu,d_laws_FnSlackTotal fu b = some true:=by
 refine ⟨2097153,?_⟩
 unfold d_laws_FnSlackTotal
 rw [s_big,ob_some]
 by_cases hb:(b.length:Int) > 1048576
 · rw [bif_true (by simpa using hb)]
 rw [bif_false (by simpa using hb)]
 obtain ⟨y,hy,hr,hc⟩:=dr_rival (fu:=2097153) (b:=b) (by omega) (by omega)
 obtain ⟨r,cs⟩:=y
 have hr:SmR r:=hr
 have hc:SmC cs:=hc
 have hs:=hr.sm (fu:=2097153) (by omega)
 obtain ⟨c1,c2,c3⟩:=hc.lens
 have hgl:=(grpM_ok r).1
 have hcl:=hc.1
 have hkl:=crtL_len r
 unfold d_spec_DrawIsRival
 rw [hy,ob_some,ob_some]
 simp only [i_rival hs cs c1 c2 c3,s_rival hs cs c1 c2 c3,i_grp hs,ob_some]
 rw [bif_false (by simp)]
 have key:=lpN ((grpM r).length:Int) (fun n (s:Bool) i=>d_laws_FnSlackTotal_L1 2097153 (r,cs) (rivB r cs) (grpM r) n s i) (fun xs s=>bif rivB r cs && (s && xs.all (slgM r)) && !cs.any (mixB r) then d_laws_FnSlackTotal_J3 2097153 (r,cs) (grpM r) else some true) (by omega) ?_ ?_ (grpM r).length 2097153 true 0 (by omega) (by omega) (by omega)
 · refine key.trans ?_
   rw [Bool.true_and]
   cases hv:rivB r cs
   · rfl
   cases hm:cs.any (mixB r)
   rotate_left
   · cases (ints 0 (grpM r).length).all (slgM r) <;> rfl
   cases ha:(ints 0 (grpM r).length).all (slgM r)
   · rfl
   obtain ⟨t1,t2⟩:=slack_tot hv hm fun k h0 h1=>List.all_eq_true.1 ha k (ints_mem.2 (by omega))
   obtain ⟨p1,_,_⟩:=riv_parts hv
   show d_laws_FnSlackTotal_J3 2097153 (r,cs) (grpM r) = some true
   unfold d_laws_FnSlackTotal_J3
   show (obind (d_impl_CartonsOf 2097153 r) fun x263=>bif (r.fWay == 0) then some (decide ((w64 (2 * ((x263.length:Int)))) ≤ (w64 (3 * ((cs.length:Int)))))) else some (decide (((x263.length:Int)) ≤ (w64 ((w64 (2 * ((cs.length:Int)))) - (((grpM r).length:Int))))))) = some true
   rw [i_crt hs,ob_some]
   by_cases hw:r.fWay = 0
   · have:=t1 hw
     rw [bif_true (by simpa using hw),w64_id (by omega) (by omega),w64_id (by omega) (by omega)]
     simp only [Option.some.injEq,decide_eq_true_eq]
     omega
   · have hw1:r.fWay = 1:=by
       have:=(clsM_zero p1).1
       unfold bouB at this
       simp only [Bool.and_eq_true,inb_iff] at this
       omega
     have:=t2 hw1
     rw [bif_false (by simpa using hw),w64_id (n:=2 * _) (by omega) (by omega),w64_id (by omega) (by omega)]
     simp only [Option.some.injEq,decide_eq_true_eq]
     omega
 · intro n s i xs h0 h1 hd ih
   simp only [d_laws_FnSlackTotal_L1.eq_2]
   unfold d_laws_FnSlackTotal_L1_B d_laws_FnSlackTotal_J2 d_laws_FnSlackTotal_J1
   simp only [hd,cond_true,i_slg hs,i_tou hs cs i c1 c2,i_pro hs,s_pro hs,ob_some,bne_self_eq_false,cond_false,ih,List.all_cons]
   cases s <;> cases slgM r i <;> rfl
 · intro n s i hd
   simp only [d_laws_FnSlackTotal_L1.eq_2]
   unfold d_laws_FnSlackTotal_L1_B
   simp only [hd,cond_false,s_grp hs,ob_some,i_mix hs cs c1 c2,List.all_nil,Bool.and_true,beq_self_eq_true]
   cases rivB r cs <;> cases s <;> cases cs.any (mixB r) <;> rfl
end Go.Proofs.YthddjkokpfdbnaaGreat
