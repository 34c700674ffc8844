import Derived.Test.YthddjkokpfdbnaaGreatPromiseD
import Derived.Test.YthddjkokpfdbnaaGreatPromiseBP4
set_option linter.unusedSimpArgs false
set_option linter.unusedVariables false
/- The plain law of FnPromise. -/
namespace Go.Proofs.YthddjkokpfdbnaaGreat
open Go
open Enc (rd ow)
open Arg (argv)
open Ret (retv)
open Wf (wf)
theorem tou_len (r:Request) (cs:List (List Int)) (k:Int):touM r cs k = ((cs.filter (tchB r k)).length:Int):=by
 unfold touM
 rw [cntB_filter]; rfl
theorem sum_cnt (r:Request):∀ (ks:List Int),(∀ k ∈ ks,0 ≤ k ∧ k < (grpM r).length) → sumI (ks.map (cntM r)) = ((crtF r ks).length:Int)
 | [],_=>rfl
 | k :: ks,h=>by
  have ih:=sum_cnt r ks fun k hk=>h k (by simp [hk])
  rw [List.map_cons,crtF,List.length_append,sumI,ih,cnt_len (h k (by simp))]
  unfold crtK
  rw [List.length_map]
  omega
theorem sum_cn (f:Int → Nat) (c:Nat):∀ (ks:List Int),(∀ k ∈ ks,f k ≤ c) → sumN (ks.map f) ≤ ks.length * c
 | [],_=>by simp [sumN]
 | k :: ks,h=>by
  have ih:=sum_cn f c ks fun k hk=>h k (by simp [hk])
  have:=h k (by simp)
  simp only [List.map_cons,sumN,List.length_cons,Nat.add_mul,Nat.one_mul]
  omega
theorem pro_all {r:Request} {cs:List (List Int)} (hv:rivB r cs = true) :
    (cs.length = 0 → (grpM r).length = 0) ∧ ((crtL r).length + (grpM r).length ≤ (grpM r).length * (4 * cs.length)) ∧ (cs.any (mixB r) = false → (crtL r).length + (grpM r).length ≤ 4 * cs.length):=by
 obtain ⟨p1,p2,p3⟩:=riv_parts hv
 have hl:=crtF_lenS r (ints 0 (grpM r).length)
 have hi:=ints_len 0 (grpM r).length
 have hkk:∀ k ∈ ints 0 (grpM r).length,0 ≤ k ∧ k < (grpM r).length:=fun k hk=>by have:=ints_mem.1 hk; omega
 have key:=sum_le (fun k=>(pwM r (uofM r k)).length) (fun k=>(cs.filter (tchB r k)).length) 1 4 3 (ints 0 (grpM r).length) fun k hk=>by
  have:=(grp_pro hv (hkk k hk)).2.2.1
  show 1 * (pwM r (uofM r k)).length + 3 ≤ 4 * (cs.filter (tchB r k)).length
  omega
 rw [hi] at key
 refine ⟨fun h0=>?_,?_,fun hm=>?_⟩
 · rcases Nat.eq_zero_or_pos (grpM r).length with h | h
   · exact h
   · have h1:=(grp_pro hv (k:=0) (by omega)).2.1
     have h2:(cs.filter (tchB r 0)).length ≤ cs.length:=List.length_filter_le _ _
     omega
 · have:=sum_cn (fun k=>(cs.filter (tchB r k)).length) cs.length (ints 0 (grpM r).length) fun k _=>List.length_filter_le _ _
   rw [hi] at this
   unfold crtL
   rw [Nat.mul_left_comm]
   omega
 · have e:((ints 0 (grpM r).length).map fun k=>(cs.filter (tchB r k)).length) = (ints 0 (grpM r).length).map fun k=>(cs.filter (hdB r k)).length:=by
     refine List.map_congr_left fun k hk=>?_
     congr 1
     refine List.filter_congr fun c hc=>?_
     have hu:∀ u ∈ c,0 ≤ u ∧ u < (untM r).length:=fun u hu=>by
      have:=ints_mem.1 (p3.mem_iff.1 (List.mem_flatten.2 ⟨c,hc,hu⟩))
      omega
     have ha:=all_or (hkk k hk) hu (by simpa using List.any_eq_false.1 hm c hc)
     obtain ⟨u,l,rfl⟩:∃ u l,c = u :: l:=by
      cases c with
      | nil=>exact absurd rfl (p2 [] hc).1
      | cons u l=>exact ⟨u,l,rfl⟩
     unfold tchB
     cases hb:hdB r k (u :: l)
     · refine List.any_eq_false.2 fun x hx=>?_
       rw [ha x hx,hb]; simp
     · exact List.any_eq_true.2 ⟨u,by simp,by rw [ha u (by simp),hb]⟩
   have hps:=part_sum (hdB r) (hd_one r) (ints 0 (grpM r).length) (ints_nodup _ _) cs
   rw [← e] at hps
   unfold crtL
   omega
theorem fnPromise_pure (b:List U8) (_:wf b):∃ fu,d_laws_FnPromise fu b = some true:=by
 refine ⟨2097153,?_⟩
 unfold d_laws_FnPromise
 rw [s_big,ob_some]
 by_cases hb:(b.length:Int) > 1048576
 · rw [bif_true (by simpa using hb)]
 rw [bif_false (by simpa using hb)]
 obtain ⟨y,hy,hr,hc⟩:=dr_rival (fu:=2097153) (b:=b) (by omega) (by omega)
 obtain ⟨r,cs⟩:=y
 have hr:SmR r:=hr
 have hc:SmC cs:=hc
 have hs:=hr.sm (fu:=2097153) (by omega)
 obtain ⟨c1,c2,c3⟩:=hc.lens
 have hgl:=(grpM_ok r).1
 have hcl:=hc.1
 have hkl:=crtL_len r
 unfold d_spec_DrawIsRival
 rw [hy,ob_some,ob_some]
 simp only [i_rival hs cs c1 c2 c3,s_rival hs cs c1 c2 c3,i_grp hs,ob_some]
 rw [bif_false (by simp)]
 have hcb:∀ k,0 ≤ cntM r k ∧ cntM r k ≤ 48:=fun k=>by
  unfold cntM
  rw [cntB_filter]
  have:((crtL r).filter fun c=>c.fGroup == k).length ≤ (crtL r).length:=List.length_filter_le _ _
  omega
 have hnn:∀ xs:List Int,0 ≤ sumI (xs.map (cntM r)):=fun xs=>by
  induction xs with
  | nil=>simp [sumI]
  | cons x xs ih =>
   have:=(hcb x).1
   rw [List.map_cons,sumI]; omega
 refine lpNI ((grpM r).length:Int) (fun n (s:Int) i=>d_laws_FnPromise_L1 2097153 (r,cs) (rivB r cs) (grpM r) n s i) (fun xs s=>some true) (fun xs s=>0 ≤ s ∧ s + sumI (xs.map (cntM r)) = ((crtL r).length:Int)) (by omega) ?_ ?_ (grpM r).length 2097153 0 0 (by omega) (by omega) (by omega) ⟨by omega,by
  rw [sum_cnt r _ fun k hk=>by have:=ints_mem.1 hk; omega]
  unfold crtL
  omega⟩
 · intro n s i xs h0 h1 hd hI ih
   obtain ⟨j0,j1⟩:=hI
   have hb1:=hcb i
   have hb2:=hnn xs
   rw [List.map_cons,sumI] at j1
   simp only [d_laws_FnPromise_L1.eq_2]
   unfold d_laws_FnPromise_L1_B d_laws_FnPromise_J3 d_laws_FnPromise_J2 d_laws_FnPromise_J1
   simp only [hd,cond_true,i_cnt hs,s_cnt hs,i_tou hs cs i c1 c2,s_tou hs cs i c1 c2,i_pro hs,ob_some,bne_self_eq_false,cond_false]
   rw [w64_id (n:=s + cntM r i) (by omega) (by omega),ih _ ⟨by omega,by omega⟩]
   cases hv:rivB r cs
   · rfl
   · obtain ⟨g1,g2,g3,g4⟩:=grp_pro hv (k:=i) (by omega)
     have g4:=g4 (by omega)
     have hfl:(cs.filter (tchB r i)).length ≤ cs.length:=List.length_filter_le _ _
     rw [tou_len,cnt_len (by omega)]
     rw [w64_id (n:=4 * _) (by omega) (by omega),w64_id (by omega) (by omega)]
     rw [cond_true,bif_false (by simp; omega),bif_false (by simp; omega),bif_false (by simp; omega),bif_false (by simp; omega)]
 · intro n s i hd hI
   simp only [d_laws_FnPromise_L1.eq_2]
   have hsum:s = ((crtL r).length:Int):=by have:=hI.2; simpa [sumI] using this
   unfold d_laws_FnPromise_L1_B
   simp only [hd,cond_false,s_cls hs,i_crt hs,i_mix hs cs c1 c2,ob_some,hsum,beq_self_eq_true,cond_true]
   cases hv:rivB r cs
   · cases clsM r != 0 <;> rfl
   · obtain ⟨t0,t1,t2⟩:=pro_all hv
     rw [Bool.not_true,cond_false]
     have h4:w64 (4 * (cs.length:Int)) = 4 * (cs.length:Int):=w64_id (by omega) (by omega)
     have h5:w64 (4 * (cs.length:Int) - 1) = 4 * (cs.length:Int) - 1:=w64_id (by omega) (by omega)
     have h6:w64 (4 * (cs.length:Int) - ((grpM r).length:Int)) = 4 * (cs.length:Int) - ((grpM r).length:Int):=w64_id (by omega) (by omega)
     have hG:((grpM r).length:Int) * (4 * (cs.length:Int) - 1) = (((grpM r).length * (4 * cs.length):Nat):Int) - ((grpM r).length:Int):=by
      rw [Int.mul_sub,Int.mul_one]; push_cast; rfl
     have hGb:(grpM r).length * (4 * cs.length) ≤ 4 * (4 * 12):=Nat.mul_le_mul hgl (by omega)
     have h7:w64 (((grpM r).length:Int) * (4 * (cs.length:Int) - 1)) = ((grpM r).length:Int) * (4 * (cs.length:Int) - 1):=w64_id (by rw [hG]; omega) (by rw [hG]; omega)
     simp only [h4,h5,h6,h7]
     have q1:decide (((crtL r).length:Int) ≤ ((grpM r).length:Int) * (4 * (cs.length:Int) - 1)) = true:=by rw [hG,decide_eq_true_eq]; omega
     simp only [q1,cond_true]
     cases hm:cs.any (mixB r)
     · have:=t2 hm
       have q2:decide (((crtL r).length:Int) ≤ 4 * (cs.length:Int) - ((grpM r).length:Int)) = true:=by rw [decide_eq_true_eq]; omega
       simp only [q2,cond_true,cond_false]
       cases (cs.length:Int) == 0 <;> cases ((crtL r).length:Int) == 0 <;> rfl
     · simp only [cond_true]
       cases (cs.length:Int) == 0 <;> cases ((crtL r).length:Int) == 0 <;> rfl
end Go.Proofs.YthddjkokpfdbnaaGreat
