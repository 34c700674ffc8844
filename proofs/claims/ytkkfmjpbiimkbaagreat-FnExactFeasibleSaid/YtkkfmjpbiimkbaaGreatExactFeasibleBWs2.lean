/- FnExactFeasible: the walks of functions that it reaches (ExactFeasibleBWs,part 2). Printed by gen.py. -/
import Derived.Test.YtkkfmjpbiimkbaaGreatExactFeasibleBWs1
set_option maxRecDepth 20000
set_option linter.unusedSimpArgs false
set_option linter.unusedVariables false
namespace Go.Proofs.YtkkfmjpbiimkbaaGreat
open Go Go.RowKit
open Enc (rd ow)
open Arg (argv)
open Ret (retv)
open Go.Proofs.Tryz

theorem c_spec_l13Carton (fu:Nat) {w0:World} (x1:Carton) {Ai:List Value} {F3:List Nat} (Au:rd w0 F3 Ai x1) {r:Bool}
    (h:d_spec_l13Carton fu x1 = some r) :
    Calls Tryz.prog 210 #[.agg Ai.toArray] w0 fun e w=>e = .returned (.bool (r)) ∧ Ext [] w0 w:=by
 refine enter (vs:=[_]) func210 z ntmps210 z fun a k=>?_
 have m:=St.start w0
 obtain ⟨v5,_,rfl,rfl,Aa⟩:=Au
 unfold d_spec_l13Carton at h
 refine wr (s_box (cs:=[I x1.fType,I x1.fGroup,v5]) m k z z z z z z fun b7 w9 a k m e Ac=>pN 1 k z fun a k=>nn (c_cut (fun a w=>K 52 [(1,.pointer (some (⟨b7,0,none⟩:Addr)))] a ∧ St [] w0 w [([b7],w9)] ∧ d_spec_l13Carton_J2 fu x1 = some r) ?_ ?_))
 · rintro a Bf ⟨k,m,h⟩
   unfold d_spec_l13Carton_J2 at h
   refine wp_seq (wr (pN 1 k z fun a k=>nn (wp_block (c_loop (fun n a w=>∃ (Ab:Int),K 52 [(1,.pointer (some (⟨b7,0,none⟩:Addr))),(3,I Ab)] a ∧ St [] w0 w [([b7],w9)] ∧ d_spec_l13Carton_L1 fu x1 n Ab = some r) ?_ ?_ fu _ _ ?_))))
   · rintro a w ⟨_,_,_,h⟩
     exact nS h
   · rintro Av a Bb ⟨Ab,k,m,h⟩
     rw [d_spec_l13Carton_L1_s] at h
     unfold d_spec_l13Carton_L1_B at h
     refine wp_seq (wr (pN 1 k z fun a k=>sv k z (r_fa fa83_2 k z z) fun a k=>sv k z (r_ldb t163 m 0 Ac 2 k z z z z z) fun a k=>sv k z (r_len (α:=Int) Aa k underlying63 z z) fun a k=>pN 1 k z fun a k=>nn (cI h k z (fun Ak h=>?_) fun Ak h=>?_)))
     · refine wp_skip (nm_then ?_)
       refine c_cut (fun a w=>K 52 [(1,.pointer (some (⟨b7,0,none⟩:Addr))),(3,I Ab)] a ∧ St [] w0 w [([b7],w9)] ∧ d_spec_l13Carton_J1 fu (d_spec_l13Carton_L1 fu x1 Av) Ab = some r) ?_ ?_
       · rintro a Ay ⟨k,m,h⟩
         unfold d_spec_l13Carton_J1 at h
         refine wp_region_lit (pN 3 k z fun a k=>nn ?_)
         exact ⟨w64 (Ab + 1),k.keep [1,3] z,m.sel [0] z (by decide),h⟩
       refine wp_block (wp_seq (d_go [] mixo m z fun Am hMd=>?_))
       have m:=hMd
       have s:=Ext.refl ([]:List Nat) Am
       refine dN [2] 1 z k (by kernel_rfl) z s (fun _ _ _ _ _=>id) fun a k=>dt k 0 z (by kernel_rfl) z s (fun _ _ _=>id) (fun w s=>r_fa fa83_2 k z z) fun a k=>dt k 1 z (by kernel_rfl) z s (fun _ _ _=>id) (fun w s=>r_ld1 t163 (r:=[]) (Ac.at ((hMd.step s).a 0 z) 2 1 z z z) k z z) fun a k=>oE h fun Az Ah h=>dt k 3 z (by kernel_rfl) z s (fun _ _ _=>id) (fun w s=>r_ixa Aa Ah k ts63 z z z) fun a k=>dt k 4 z (by kernel_rfl) z s (fun _ _ _=>id) (fun w s=>r_lde1 Aa ((hMd.step s).a00 (Enc.rd_lt Aa)) Ah 0 t13 k z z z z) fun a k=>d_one 5 (by kernel_rfl) z (oE h fun Ap Aw h=>cE k m call130 z z z (c_spec_l1In fu _ _ _  Aw) fun Bc e a k m=>?_)
       have s:=s.trans e (by simp)
       refine wpList_nil ⟨s,?_⟩
       refine dN [6,7] 2 z k (by kernel_rfl) z s (fun _ _ _ _ _=>id) fun a k=>bsplit (!Ap) (fun Ae=>?_) (fun Ae=>?_)
       · have h:=bif_t Ae h
         refine rB k 34 z Ae fun k=>dN [8,9,10,11,12,13,14,15,16,17,18,19,20,21,22,23,24] 17 z k (by kernel_rfl) z s (fun _ _ _ _ _=>id) fun a k=>d_done (by kernel_rfl) ?_
         have k:=k.keep [1,3,51] z
         refine (nm_then ?_)
         refine wp_cond_true (k.ev z) (wr (pN 1 k z fun a k=>nn (wp_ret (rt_block (rt_then (rt_then (rt_block (rt_then ?_))))))))
         refine fS h k m z z
       have h:=bif_f Ae h
       refine rB k 34 z Ae fun k=>dN [8,9,10] 3 z k (by kernel_rfl) z s (fun _ _ _ _ _=>id) fun a k=>bsplit (decide (Ab > 0)) (fun Ag=>?_) (fun Ag=>?_)
       · have h:=bif_t Ag h
         refine rB k 37 z Ag fun k=>dN [13,18,19] 3 z k (by kernel_rfl) z s (fun _ _ _ _ _=>id) fun a k=>dt k 11 z (by kernel_rfl) z s (fun _ _ _=>id) (fun w s=>r_fa fa83_2 k z z) fun a k=>dt k 12 z (by kernel_rfl) z s (fun _ _ _=>id) (fun w s=>r_ld1 t163 (r:=[]) (Ac.at ((hMd.step s).a 0 z) 2 1 z z z) k z z) fun a k=>oE h fun Bg Bd h=>dt k 14 z (by kernel_rfl) z s (fun _ _ _=>id) (fun w s=>r_ixa Aa Ah k ts63 z z z) fun a k=>dt k 15 z (by kernel_rfl) z s (fun _ _ _=>id) (fun w s=>r_lde1 Aa ((hMd.step s).a00 (Enc.rd_lt Aa)) Ah 0 t13 k z z z z) fun a k=>dt k 16 z (by kernel_rfl) z s (fun _ _ _=>id) (fun w s=>r_fa fa83_2 k z z) fun a k=>?_
         refine dt k 17 z (by kernel_rfl) z s (fun _ _ _=>id) (fun w s=>r_ld1 t163 (r:=[]) (Ac.at ((hMd.step s).a 0 z) 2 1 z z z) k z z) fun a k=>oE h fun Ax Aj h=>dt k 20 z (by kernel_rfl) z s (fun _ _ _=>id) (fun w s=>r_ixa Aa Aj k ts63 z z z) fun a k=>dt k 21 z (by kernel_rfl) z s (fun _ _ _=>id) (fun w s=>r_lde1 Aa ((hMd.step s).a00 (Enc.rd_lt Aa)) Aj 0 t13 k z z z z) fun a k=>dN [22,23,24] 3 z k (by kernel_rfl) z s (fun _ _ _ _ _=>id) fun a k=>d_done (by kernel_rfl) ?_
         have k:=k.keep [1,3,51] z
         refine (nm_then ?_)
         refine cI h k z (fun Ar h=>?_) fun Ar h=>?_
         · refine wr (pN 1 k z fun a k=>nn (wp_ret (rt_block (rt_then (rt_then (rt_block (rt_then ?_)))))))
           refine fS h k m z z
         refine wp_skip (nm_block (nm_then ?_))
         exact ⟨k.keep [1,3] z,m.sel [0] z (by decide),h⟩
       have h:=bif_f Ag h
       refine rB k 37 z Ag fun k=>dN [11,12,13,14,15,16,17,18,19,20,21,22,23,24] 14 z k (by kernel_rfl) z s (fun _ _ _ _ _=>id) fun a k=>d_done (by kernel_rfl) ?_
       have k:=k.keep [1,3,51] z
       refine (nm_then ?_)
       refine wp_cond_false (k.ev z) (wp_skip (nm_block (nm_then ?_)))
       exact ⟨k.keep [1,3] z,m.sel [0] z (by decide),h⟩
     refine wp_exit (ex_then (ex_then (ex_same (nm_then ?_))))
     refine wr (pN 1 k z fun a k=>nn (wp_ret (fS h k m z z)))
   exact ⟨0,k.keep [1,3] z,m.sel [0] z (by decide),h⟩
 refine wr (sv k z (r_fa fa83_0 k z z) fun a k=>sv k z (r_ldb t13 m 0 Ac 0 k z z z z z) fun a k=>oE h fun As Al h=>cE k m call259 z z z (c_spec_l2Id fu _  Al) fun Be e a k m=>pN 2 k z fun a k=>bsplit (!As) (fun Ad=>?_) (fun Ad=>?_))
 · have h:=bif_t Ad h
   refine rB k 8 z Ad fun k=>pN 11 k z fun a k=>nn (wp_cond_true (k.ev z) (wr (pN 1 k z fun a k=>nn (wp_ret (rt_then ?_)))))
   refine fS h k m z z
 have h:=bif_f Ad h
 refine rB k 8 z Ad fun k=>sv k z (r_fa fa83_1 k z z) fun a k=>sv k z (r_ldb t13 m 0 Ac 1 k z z z z z) fun a k=>oE h fun Aq Ao h=>cE k m call130 z z z (c_spec_l1In fu _ _ _  Ao) fun Ba e a k m=>pN 3 k z fun a k=>bsplit (!Aq) (fun Af=>?_) (fun Af=>?_)
 · have h:=bif_t Af h
   refine rB k 14 z Af fun k=>pN 5 k z fun a k=>nn (wp_cond_true (k.ev z) (wr (pN 1 k z fun a k=>nn (wp_ret (rt_then ?_)))))
   refine fS h k m z z
 have h:=bif_f Af h
 refine rB k 14 z Af fun k=>sv k z (r_fa fa83_2 k z z) fun a k=>sv k z (r_ldb t163 m 0 Ac 2 k z z z z z) fun a k=>sv k z (r_len (α:=Int) Aa k underlying63 z z) fun a k=>pN 2 k z fun a k=>nn (cI h k z (fun At h=>?_) fun At h=>?_)
 · refine wr (pN 1 k z fun a k=>nn (wp_ret (rt_then ?_)))
   refine fS h k m z z
 refine wp_skip (nm_then ?_)
 exact ⟨k.keep [1] z,m.sel [0] z (by decide),h⟩
theorem c_spec_PlanOk (fu:Nat) {w0:World} (x1:Plan) {Ar:List Value} {F3:List Nat} (Ba:rd w0 F3 Ar x1) {r:Bool}
    (h:d_spec_PlanOk fu x1 = some r) :
    Calls Tryz.prog 104 #[.agg Ar.toArray] w0 fun e w=>e = .returned (.bool (r)) ∧ Ext [] w0 w:=by
 refine enter (vs:=[_]) func104 z ntmps104 z fun a k=>?_
 have m:=St.start w0
 obtain ⟨v5,F6,v7,F8,rfl,rfl,Ad,Aj⟩:=Ba
 unfold d_spec_PlanOk at h
 refine wr (s_box (cs:=[v5,v7]) m k z z z z z z fun Aa Ao a k m e Ab=>pN 1 k z fun a k=>nn (c_cut (fun a w=>K 61 [(1,.pointer (some (⟨Aa,0,none⟩:Addr)))] a ∧ St [] w0 w [([Aa],Ao)] ∧ d_spec_PlanOk_J2 fu x1 = some r) ?_ ?_))
 · rintro a Bz ⟨k,m,h⟩
   unfold d_spec_PlanOk_J2 at h
   refine wp_seq (wr (pN 1 k z fun a k=>nn (wp_block (c_loop (fun n a w=>∃ (Ac:Int),K 61 [(1,.pointer (some (⟨Aa,0,none⟩:Addr))),(3,I Ac)] a ∧ St [] w0 w [([Aa],Ao)] ∧ d_spec_PlanOk_L1 fu x1 n Ac = some r) ?_ ?_ fu _ _ ?_))))
   · rintro a w ⟨_,_,_,h⟩
     exact nS h
   · rintro Bi a Bu ⟨Ac,k,m,h⟩
     rw [d_spec_PlanOk_L1_s] at h
     unfold d_spec_PlanOk_L1_B at h
     refine wp_seq (wr (pN 1 k z fun a k=>sv k z (r_fa fa58_0 k z z) fun a k=>sv k z (r_ldb t155 m 0 Ab 0 k z z z z z) fun a k=>sv k z (r_len (α:=Carton) Ad k underlying55 z z) fun a k=>pN 1 k z fun a k=>nn (cI h k z (fun Au h=>?_) fun Au h=>?_)))
     · refine wp_skip (nm_then ?_)
       refine c_cut (fun a w=>K 61 [(1,.pointer (some (⟨Aa,0,none⟩:Addr))),(3,I Ac)] a ∧ St [] w0 w [([Aa],Ao)] ∧ d_spec_PlanOk_J1 fu (d_spec_PlanOk_L1 fu x1 Bi) Ac = some r) ?_ ?_
       · rintro a Bt ⟨k,m,h⟩
         unfold d_spec_PlanOk_J1 at h
         refine wp_region_lit (pN 3 k z fun a k=>nn ?_)
         exact ⟨w64 (Ac + 1),k.keep [1,3] z,m.sel [0] z (by decide),h⟩
       refine wp_block (wr (sv k z (r_fa fa58_1 k z z) fun a k=>sv k z (r_ldb t156 m 0 Ab 1 k z z z z z) fun a k=>pN 1 k z fun a k=>oE h fun Ak Aq h=>sv k z (r_ixa Aj Aq k ts56 z z z) fun a k=>sv k z (r_lde Aj (m.a00 (Enc.rd_lt Aj)) Aq ta89 k z z) fun a k=>s_alloc (cs:=[I 0,I 0,I 0,I 0]) m k zeroValue89 z z z z z fun Bo Bq a k m e Bf=>s_stb (cs':=[I Ak.fPallet,I Ak.fX,I Ak.fY,I Ak.fZ]) sizeOf89 m 0 Bf 0 k z z z z z z z z z z z fun Bm a k e m Al=>nn (wr (sv k z (r_fa fa58_0 k z z) fun a k=>sv k z (r_ldb t155 m 1 Ab 0 k z z z z z) fun a k=>pN 1 k z fun a k=>oE h fun Am As h=>?_))))
       refine sv k z (r_ixa Ad As k ts55 z z z) fun a k=>?_
       obtain ⟨Ca,Bp,Bs,Bk,Aw,Bh⟩:=rd_get Ad (ix_some As).2.2
       obtain ⟨Av,_,rfl,rfl,Ap⟩:=Bk
       refine sv k z (r_ldA ta83 (Aw.agr (m.a00 (Enc.rd_lt Ad)) Bh) z k z z) fun a k=>oE h fun Bd Bc h=>cE k m call210 z z z (c_spec_l13Carton fu _ (show rd _ _ [I Am.fType,I Am.fGroup,Av] (Am:Carton) from ⟨_,_,z,z,(Enc.rd_agr Ap (m.a00 (Enc.rd_lt Ap)))⟩) Bc) fun Bw e a k m=>pN 2 k z fun a k=>bsplit (!Bd) (fun Af=>?_) (fun Af=>?_)
       · have h:=bif_t Af h
         refine rB k 37 z Af fun k=>pN 23 k z fun a k=>?_
         have k:=k.keep [1,3,60] z
         refine nn (wp_cond_true (k.ev z) (wr (pN 1 k z fun a k=>nn (wp_ret (rt_block (rt_then (rt_then (rt_block (rt_then ?_)))))))))
         refine fS h k m z z
       have h:=bif_f Af h
       refine rB k 37 z Af fun k=>sv k z (r_fa fa89_0 k z z) fun a k=>sv k z (r_ldb t13 m 0 Al 0 k z z z z z) fun a k=>oE h fun At Bl h=>cE k m call130 z z z (c_spec_l1In fu _ _ _  Bl) fun Bn e a k m=>pN 3 k z fun a k=>bsplit (!At) (fun Ai=>?_) (fun Ai=>?_)
       · have h:=bif_t Ai h
         refine rB k 43 z Ai fun k=>pN 17 k z fun a k=>?_
         have k:=k.keep [1,3,60] z
         refine nn (wp_cond_true (k.ev z) (wr (pN 1 k z fun a k=>nn (wp_ret (rt_block (rt_then (rt_then (rt_block (rt_then ?_)))))))))
         refine fS h k m z z
       have h:=bif_f Ai h
       refine rB k 43 z Ai fun k=>sv k z (r_fa fa89_1 k z z) fun a k=>sv k z (r_ldb t13 m 0 Al 1 k z z z z z) fun a k=>oE h fun Bj Az h=>cE k m call130 z z z (c_spec_l1In fu _ _ _  Az) fun Br e a k m=>pN 3 k z fun a k=>bsplit (!Bj) (fun Ae=>?_) (fun Ae=>?_)
       · have h:=bif_t Ae h
         refine rB k 49 z Ae fun k=>pN 11 k z fun a k=>?_
         have k:=k.keep [1,3,60] z
         refine nn (wp_cond_true (k.ev z) (wr (pN 1 k z fun a k=>nn (wp_ret (rt_block (rt_then (rt_then (rt_block (rt_then ?_)))))))))
         refine fS h k m z z
       have h:=bif_f Ae h
       refine rB k 49 z Ae fun k=>sv k z (r_fa fa89_2 k z z) fun a k=>sv k z (r_ldb t13 m 0 Al 2 k z z z z z) fun a k=>oE h fun Ay Be h=>cE k m call130 z z z (c_spec_l1In fu _ _ _  Be) fun Bx e a k m=>pN 3 k z fun a k=>bsplit (!Ay) (fun Ah=>?_) (fun Ah=>?_)
       · have h:=bif_t Ah h
         refine rB k 55 z Ah fun k=>pN 5 k z fun a k=>?_
         have k:=k.keep [1,3,60] z
         refine nn (wp_cond_true (k.ev z) (wr (pN 1 k z fun a k=>nn (wp_ret (rt_block (rt_then (rt_then (rt_block (rt_then ?_)))))))))
         refine fS h k m z z
       have h:=bif_f Ah h
       refine rB k 55 z Ah fun k=>sv k z (r_fa fa89_3 k z z) fun a k=>sv k z (r_ldb t13 m 0 Al 3 k z z z z z) fun a k=>oE h fun By Ax h=>cE k m call130 z z z (c_spec_l1In fu _ _ _  Ax) fun Bv e a k m=>pN 2 k z fun a k=>?_
       have k:=k.keep [1,3,60] z
       refine nn (cI h k z (fun Bb h=>?_) fun Bb h=>?_)
       · refine wr (pN 1 k z fun a k=>nn (wp_ret (rt_block (rt_then (rt_then (rt_block (rt_then ?_)))))))
         refine fS h k m z z
       refine wp_skip (nm_block (nm_then ?_))
       exact ⟨k.keep [1,3] z,m.sel [1] z (by decide),h⟩
     refine wp_exit (ex_then (ex_then (ex_same (nm_then ?_))))
     refine wr (pN 1 k z fun a k=>nn (wp_ret (fS h k m z z)))
   exact ⟨0,k.keep [1,3] z,m.sel [0] z (by decide),h⟩
 refine wr (sv k z (r_fa fa58_0 k z z) fun a k=>sv k z (r_ldb t155 m 0 Ab 0 k z z z z z) fun a k=>sv k z (r_len (α:=Carton) Ad k underlying55 z z) fun a k=>sv k z (r_fa fa58_1 k z z) fun a k=>sv k z (r_ldb t156 m 0 Ab 1 k z z z z z) fun a k=>sv k z (r_len (α:=Spot) Aj k underlying56 z z) fun a k=>pN 2 k z fun a k=>bsplit (((x1.fCartons.length:Int)) != ((x1.fSpots.length:Int))) (fun Ag=>?_) (fun Ag=>?_))
 · have h:=bif_t Ag h
   refine rB k 12 z Ag fun k=>pN 5 k z fun a k=>nn (wp_cond_true (k.ev z) (wr (pN 1 k z fun a k=>nn (wp_ret (rt_then ?_)))))
   refine fS h k m z z
 have h:=bif_f Ag h
 refine rB k 12 z Ag fun k=>sv k z (r_fa fa58_0 k z z) fun a k=>sv k z (r_ldb t155 m 0 Ab 0 k z z z z z) fun a k=>sv k z (r_len (α:=Carton) Ad k underlying55 z z) fun a k=>pN 2 k z fun a k=>nn (cI h k z (fun Bg h=>?_) fun Bg h=>?_)
 · refine wr (pN 1 k z fun a k=>nn (wp_ret (rt_then ?_)))
   refine fS h k m z z
 refine wp_skip (nm_then ?_)
 exact ⟨k.keep [1] z,m.sel [0] z (by decide),h⟩
theorem c_spec_l15Empty (fu:Nat) {w0:World} (x1:Plan) {Af:List Value} {F3:List Nat} (Al:rd w0 F3 Af x1) {r:Bool}
    (h:d_spec_l15Empty fu x1 = some r) :
    Calls Tryz.prog 105 #[.agg Af.toArray] w0 fun e w=>e = .returned (.bool (r)) ∧ Ext [] w0 w:=by
 refine enter (vs:=[_]) func105 z ntmps105 z fun a k=>?_
 have m:=St.start w0
 obtain ⟨v5,F6,v7,F8,rfl,rfl,Ab,Ap⟩:=Al
 unfold d_spec_l15Empty at h
 refine wr (s_box (cs:=[v5,v7]) m k z z z z z z fun Ad Ah a k m e Ae=>pN 1 k z fun a k=>nn (wp_seq (wr (pN 1 k z fun a k=>nn (wp_block (c_loop (fun n a w=>∃ (Aa:Int),K 19 [(1,.pointer (some (⟨Ad,0,none⟩:Addr))),(3,I Aa)] a ∧ St [] w0 w [([Ad],Ah)] ∧ d_spec_l15Empty_L1 fu x1 n Aa = some r) ?_ ?_ fu _ _ ?_))))))
 · rintro a w ⟨_,_,_,h⟩
   exact nS h
 · rintro As a Av ⟨Aa,k,m,h⟩
   rw [d_spec_l15Empty_L1_s] at h
   unfold d_spec_l15Empty_L1_B at h
   refine wp_seq (wr (pN 1 k z fun a k=>sv k z (r_fa fa58_0 k z z) fun a k=>sv k z (r_ldb t155 m 0 Ae 0 k z z z z z) fun a k=>sv k z (r_len (α:=Carton) Ab k underlying55 z z) fun a k=>pN 1 k z fun a k=>nn (cI h k z (fun Am h=>?_) fun Am h=>?_)))
   · refine wp_skip (nm_then ?_)
     refine wp_seq (wp_block (wr (sv k z (r_fa fa58_0 k z z) fun a k=>sv k z (r_ldb t155 m 0 Ae 0 k z z z z z) fun a k=>pN 1 k z fun a k=>oE h fun Aq Ac h=>sv k z (r_ixa Ab Ac k ts55 z z z) fun a k=>sv k z (r_fa fa83_2 k z z) fun a k=>?_)))
     obtain ⟨Aw,Au,At,Ao,Ag,Ak⟩:=rd_get Ab (ix_some Ac).2.2
     obtain ⟨Ar,_,rfl,rfl,Ai⟩:=Ao
     refine sv k z (r_ld1 t163 ((Ag.agr (m.a00 (Enc.rd_lt Ab)) Ak).fld 2 1 (Nat.le_of_ble_eq_true z)) k z z) fun a k=>sv k z (r_len (α:=Int) Ai k underlying63 z z) fun a k=>pN 1 k z fun a k=>nn (cI h k z (fun Aj h=>?_) fun Aj h=>?_)
     · refine wr (pN 1 k z fun a k=>nn (wp_ret (rt_block (rt_then (rt_then (rt_block (rt_then ?_)))))))
       refine fS h k m z z
     refine wp_skip (nm_block (nm_then ?_))
     refine wp_region_lit (pN 3 k z fun a k=>nn ?_)
     exact ⟨w64 (Aa + 1),k.keep [1,3] z,m.sel [0] z (by decide),h⟩
   refine wp_exit (ex_then (ex_then (ex_same (nm_then ?_))))
   refine wr (pN 1 k z fun a k=>nn (wp_ret (fS h k m z z)))
 exact ⟨0,k.keep [1,3] z,m.sel [0] z (by decide),h⟩
theorem c_spec_l6Units (fu:Nat) {w0:World} (r1:Request) {Ap:List Value} {F3:List Nat} (Be:rd w0 F3 Ap r1) {r:(List Int)}
    (h:d_spec_l6Units fu r1 = some r) :
    Calls Tryz.prog 90 #[.agg Ap.toArray] w0 fun e w=>∃ (v0:Value) (G0:List Nat),e = .returned (v0) ∧ Ext [] w0 w ∧ ow w G0 [v0] r ∧ (∀ b ∈ G0,w0.heap.size ≤ b):=by
 refine enter (vs:=[_]) func90 z ntmps90 z fun a k=>?_
 have m:=St.start w0
 obtain ⟨v5,F6,v7,F8,v9,Bm,rfl,rfl,Bj,Bo,Ac⟩:=Be
 unfold d_spec_l6Units at h
 refine wr (s_box (cs:=[I r1.fWay,I r1.fPallet.fW,I r1.fPallet.fD,I r1.fPallet.fH,I r1.fPallet.fGram,I r1.fClasses,v5,v7,I r1.fMaster,v9]) m k z z z z z z fun Ah As a k m e At=>pN 1 k z fun a k=>nn (wr (s_bs (cs:=[]) (ps:=[]) te63 m k z z z z z z z (by decide) z (by exact (List.forall_mem_nil _)) fun Ao Bb Bp a k m e Bh=>?_)))
 have Ay:=ow_bx Bh ([]:List Int) z z z
 refine pN 1 k z fun a k=>nn (wp_seq (wr (pN 1 k z fun a k=>nn (wp_block (c_loop (fun n a w=>∃ (Ai:List Int) (Af:Value) (Ab:List Nat) (Ad:World) (Aa:Int),K 29 [(1,.pointer (some (⟨Ah,0,none⟩:Addr))),(3,Af),(4,I Aa)] a ∧ St [] w0 w [([Ah],As),(Ab,Ad)] ∧ ow Ad Ab [Af] Ai ∧ d_spec_l6Units_L2 fu r1 n Ai Aa = some r) ?_ ?_ fu _ _ ?_)))))
 · rintro a w ⟨_,_,_,_,_,_,_,_,h⟩
   exact nS h
 · rintro Ax a Bl ⟨Ai,Af,Ab,Ad,Aa,k,m,Ar,h⟩
   rw [d_spec_l6Units_L2_s] at h
   unfold d_spec_l6Units_L2_B at h
   refine wp_seq (wr (pN 1 k z fun a k=>sv k z (r_fa fa38_6 k z z) fun a k=>sv k z (r_ldb t136 m 0 At 9 k z z z z z) fun a k=>sv k z (r_len (α:=Item) Ac k underlying36 z z) fun a k=>pN 1 k z fun a k=>nn (cI h k z (fun Bc h=>?_) fun Bc h=>?_)))
   · refine wp_skip (nm_then ?_)
     refine wp_seq (wp_block (wr (pN 1 k z fun a k=>nn (wp_block (c_loop (fun n a w=>∃ (Ag:List Int) (Aj:Value) (Ae:List Nat) (Al:World) (Ak:Int),K 29 [(1,.pointer (some (⟨Ah,0,none⟩:Addr))),(3,Aj),(4,I Aa),(5,I Ak)] a ∧ St [] w0 w [([Ah],As),(Ae,Al)] ∧ ow Al Ae [Aj] Ag ∧ d_spec_l6Units_L1 fu (d_spec_l6Units_L2 fu r1 Ax) r1 Aa n Ag Ak = some r) ?_ ?_ fu _ _ ?_)))))
     · rintro a w ⟨_,_,_,_,_,_,_,_,h⟩
       exact nS h
     · rintro Br a Bs ⟨Ag,Aj,Ae,Al,Ak,k,m,Am,h⟩
       rw [d_spec_l6Units_L1_s] at h
       unfold d_spec_l6Units_L1_B at h
       refine wp_seq (wr (pN 1 k z fun a k=>sv k z (r_fa fa38_6 k z z) fun a k=>sv k z (r_ldb t136 m 0 At 9 k z z z z z) fun a k=>pN 1 k z fun a k=>oE h fun Bt Aq h=>sv k z (r_ixa Ac Aq k ts36 z z z) fun a k=>sv k z (r_fa fa158_6 k z z) fun a k=>sv k z (r_lde1 Ac (m.a00 (Enc.rd_lt Ac)) Aq 6 t13 k z z z z) fun a k=>pN 1 k z fun a k=>nn (cI h k z (fun Az h=>?_) fun Az h=>?_)))
       · refine wp_skip (nm_then ?_)
         refine wp_seq (wp_block (wp_region_lit (pN 2 k z fun a k=>s_bs (cs:=[I Aa]) (ps:=[(0,.tmp 25)]) te63 m k z z z z z z z (by decide) z (by exact (List.forall_mem_cons.2 ⟨z,(List.forall_mem_nil _)⟩)) fun Bn Bk Bq a k m e Aw=>?_)))
         have Bg:=ow_bx Aw ([Aa]:List Int) z z z
         refine oE h fun Bf Bi h=>s_appF Bi te63 z m 2 Am (News.rd (Enc.rd_agr (Enc.ow_rd Bg) (m.a 0 z))) z z k z z z z z z z fun Bd Au Ba a k e m Av=>pN 1 k z fun a k=>wpList_nil (nm_block (nm_then ?_))
         refine wp_region_lit (pN 3 k z fun a k=>nn ?_)
         exact ⟨Bf,Bd,Au,Ba,w64 (Ak + 1),k.keep [1,3,4,5] z,m.sel [1,2] z (by decide),Av,h⟩
       refine wp_exit (ex_then (ex_then (ex_same (nm_block (nm_then ?_)))))
       refine wp_region_lit (pN 3 k z fun a k=>nn ?_)
       exact ⟨Ag,Aj,Ae,Al,w64 (Aa + 1),k.keep [1,3,4] z,m.sel [0,1] z (by decide),Am,h⟩
     exact ⟨Ai,Af,Ab,Ad,0,k.keep [1,3,4,5] z,m.sel [0,1] z (by decide),Ar,h⟩
   refine wp_exit (ex_then (ex_then (ex_same (nm_then ?_))))
   refine wr (pN 2 k z fun a k=>nn (wp_ret ?_))
   cases h
   exact finR1 k z (RV.tmp k z) ⟨_,Ab,z,m.ext,(Enc.ow_agr Ar (m.a 1 z)),(m.fresh 1 z)⟩
 exact ⟨([]:List Int),(.slice (some ⟨Ao,0,none⟩) 0 0),[Ao],Bb,0,k.keep [1,3,4] z,m.sel [1,0] z (by decide),Ay,h⟩
theorem c_spec_l15Flat (fu:Nat) {w0:World} (x1:Plan) {Aj:List Value} {F3:List Nat} (Ax:rd w0 F3 Aj x1) {r:(List Int)}
    (h:d_spec_l15Flat fu x1 = some r) :
    Calls Tryz.prog 211 #[.agg Aj.toArray] w0 fun e w=>∃ (v0:Value) (G0:List Nat),e = .returned (v0) ∧ Ext [] w0 w ∧ ow w G0 [v0] r ∧ (∀ b ∈ G0,w0.heap.size ≤ b):=by
 refine enter (vs:=[_]) func211 z ntmps211 z fun a k=>?_
 have m:=St.start w0
 obtain ⟨v5,F6,v7,F8,rfl,rfl,Ac,Bd⟩:=Ax
 unfold d_spec_l15Flat at h
 refine wr (s_box (cs:=[v5,v7]) m k z z z z z z fun Ag Aq a k m e Ah=>pN 1 k z fun a k=>nn (wr (s_bs (cs:=[]) (ps:=[]) te63 m k z z z z z z z (by decide) z (by exact (List.forall_mem_nil _)) fun Ai Bb Bf a k m e Bc=>?_)))
 have Aw:=ow_bx Bc ([]:List Int) z z z
 refine pN 1 k z fun a k=>nn (wp_seq (wr (pN 1 k z fun a k=>nn (wp_block (c_loop (fun n a w=>∃ (Af:List Int) (Ae:Value) (Aa:List Nat) (Ad:World) (Ab:Int),K 22 [(1,.pointer (some (⟨Ag,0,none⟩:Addr))),(3,Ae),(4,I Ab)] a ∧ St [] w0 w [([Ag],Aq),(Aa,Ad)] ∧ ow Ad Aa [Ae] Af ∧ d_spec_l15Flat_L1 fu x1 n Af Ab = some r) ?_ ?_ fu _ _ ?_)))))
 · rintro a w ⟨_,_,_,_,_,_,_,_,h⟩
   exact nS h
 · rintro Bk a Bi ⟨Af,Ae,Aa,Ad,Ab,k,m,Ak,h⟩
   rw [d_spec_l15Flat_L1_s] at h
   unfold d_spec_l15Flat_L1_B at h
   refine wp_seq (wr (pN 1 k z fun a k=>sv k z (r_fa fa58_0 k z z) fun a k=>sv k z (r_ldb t155 m 0 Ah 0 k z z z z z) fun a k=>sv k z (r_len (α:=Carton) Ac k underlying55 z z) fun a k=>pN 1 k z fun a k=>nn (cI h k z (fun Ay h=>?_) fun Ay h=>?_)))
   · refine wp_skip (nm_then ?_)
     refine wp_seq (wp_block (wp_region_lit (pN 1 k z fun a k=>sv k z (r_fa fa58_0 k z z) fun a k=>sv k z (r_ldb t155 m 0 Ah 0 k z z z z z) fun a k=>pN 1 k z fun a k=>oE h fun Bj Al h=>sv k z (r_ixa Ac Al k ts55 z z z) fun a k=>sv k z (r_fa fa83_2 k z z) fun a k=>?_)))
     obtain ⟨Bg,Bl,Be,As,Au,Av⟩:=rd_get Ac (ix_some Al).2.2
     obtain ⟨Bh,_,rfl,rfl,Am⟩:=As
     refine sv k z (r_ld1 t163 ((Au.agr (m.a00 (Enc.rd_lt Ac)) Av).fld 2 1 (Nat.le_of_ble_eq_true z)) k z z) fun a k=>oE h fun Ao Ar h=>s_appF Ar te63 z m 1 Ak (News.rd (Enc.rd_agr Am (m.a00 (Enc.rd_lt Am)))) z z k z z z z z z z fun Az At Ba a k e m Ap=>pN 1 k z fun a k=>wpList_nil (nm_block (nm_then ?_))
     refine wp_region_lit (pN 3 k z fun a k=>nn ?_)
     exact ⟨Ao,Az,At,Ba,w64 (Ab + 1),k.keep [1,3,4] z,m.sel [0,1] z (by decide),Ap,h⟩
   refine wp_exit (ex_then (ex_then (ex_same (nm_then ?_))))
   refine wr (pN 2 k z fun a k=>nn (wp_ret ?_))
   cases h
   exact finR1 k z (RV.tmp k z) ⟨_,Aa,z,m.ext,(Enc.ow_agr Ak (m.a 1 z)),(m.fresh 1 z)⟩
 exact ⟨([]:List Int),(.slice (some ⟨Ai,0,none⟩) 0 0),[Ai],Bb,0,k.keep [1,3,4] z,m.sel [1,0] z (by decide),Aw,h⟩
theorem c_spec_l1Bit (fu:Nat) {w0:World} (Aa:Bool)  {r:Int}
    (h:d_spec_l1Bit fu Aa = some r) :
    Calls Tryz.prog 100 #[.bool (Aa)] w0 fun e w=>e = .returned (I r) ∧ Ext [] w0 w:=by
 refine enter (vs:=[_]) func100 z ntmps100 z fun a k=>?_
 have m:=St.start w0
 unfold d_spec_l1Bit at h
 refine wr (pN 1 k z fun a k=>nn (wp_seq (wr (pN 1 k z fun a k=>nn (cI h k z (fun Ab h=>?_) fun Ab h=>?_)))))
 · refine wr (pN 1 k z fun a k=>nn (wp_ret (rt_then ?_)))
   refine fS h k m z z
 refine wp_skip (nm_then ?_)
 refine wr (pN 1 k z fun a k=>nn (wp_ret (fS h k m z z)))
theorem c_spec_l8Times (fu:Nat) {w0:World} (Ad:List Int) (x5:Int) {v2:Value} {F3:List Nat} (Ab:rd w0 F3 [v2] Ad) {r:Int}
    (h:d_spec_l8Times fu Ad x5 = some r) :
    Calls Tryz.prog 129 #[v2,I x5] w0 fun e w=>e = .returned (I r) ∧ Ext [] w0 w:=by
 refine enter (vs:=[_,_]) func129 z ntmps129 z fun a k=>?_
 have m:=St.start w0
 unfold d_spec_l8Times at h
 refine wr (pN 1 k z fun a k=>nn (wr (pN 1 k z fun a k=>nn (wp_seq (wr (pN 1 k z fun a k=>nn (wp_block (c_loop (fun n a w=>∃ (Ac:Int) (Aa:Int),K 23 [(0,v2),(1,I x5),(5,I Ac),(6,I Aa)] a ∧ St [] w0 w [] ∧ d_spec_l8Times_L1 fu Ad x5 n Ac Aa = some r) ?_ ?_ fu _ _ ?_))))))))
 · rintro a w ⟨_,_,_,_,h⟩
   exact nS h
 · rintro Al a Ak ⟨Ac,Aa,k,m,h⟩
   rw [d_spec_l8Times_L1_s] at h
   unfold d_spec_l8Times_L1_B at h
   refine wp_seq (wr (pN 2 k z fun a k=>sv k z (r_len (α:=Int) Ab k underlying63 z z) fun a k=>pN 1 k z fun a k=>nn (cI h k z (fun Ag h=>?_) fun Ag h=>?_)))
   · refine wp_skip (nm_then ?_)
     refine wp_seq (wp_block (wp_region_lit (pN 3 k z fun a k=>oE h fun Aj Ae h=>sv k z (r_ixa Ab Ae k ts63 z z z) fun a k=>sv k z (r_lde1 Ab (m.a00 (Enc.rd_lt Ab)) Ae 0 t13 k z z z z) fun a k=>pN 2 k z fun a k=>oE h fun Af Ah h=>cE k m call100 z z z (c_spec_l1Bit fu _  Ah) fun Ai e a k m=>pN 2 k z fun a k=>wpList_nil (nm_block (nm_then ?_)))))
     refine wp_region_lit (pN 3 k z fun a k=>nn ?_)
     exact ⟨w64 (Ac + Af),w64 (Aa + 1),k.keep [0,1,5,6] z,m.sel [] z (by decide),h⟩
   refine wp_exit (ex_then (ex_then (ex_same (nm_then ?_))))
   refine wr (pN 2 k z fun a k=>nn (wp_ret (fS h k m z z)))
 exact ⟨0,0,k.keep [0,1,5,6] z,m.sel [] z (by decide),h⟩
theorem c_spec_l15Units (fu:Nat) {w0:World} (Ac:List Int) (x5:Plan) {v2:Value} {F3:List Nat} (Ai:rd w0 F3 [v2] Ac) {Ae:List Value} {F7:List Nat} (As:rd w0 F7 Ae x5) {r:Bool}
    (h:d_spec_l15Units fu Ac x5 = some r) :
    Calls Tryz.prog 106 #[v2,.agg Ae.toArray] w0 fun e w=>e = .returned (.bool (r)) ∧ Ext [] w0 w:=by
 refine enter (vs:=[_,_]) func106 z ntmps106 z fun a k=>?_
 have m:=St.start w0
 obtain ⟨v9,Ay,Ah,Bd,rfl,rfl,Af,Ag⟩:=As
 unfold d_spec_l15Units at h
 refine wr (s_box (cs:=[v9,Ah]) m k z z z z z z fun Bc Av a k m e Au=>pN 1 k z fun a k=>nn (wr (sv k z (r_ldB ta58 m 0 Au 0 k z z z z z z) fun a k=>oE h fun Aj At h=>s_call k call211 z z z z z (c_spec_l15Flat fu _ (show rd _ _ [v9,Ah] (x5:Plan) from ⟨_,_,_,_,z,z,(Enc.rd_agr Af (m.a00 (Enc.rd_lt Af))),(Enc.rd_agr Ag (m.a00 (Enc.rd_lt Ag)))⟩) At) fun Az Ar hR=>?_)))
 obtain ⟨Aq,Ad,rfl,e,Aa,Ao⟩:=hR
 refine ⟨_,z,fun a k=>?_⟩
 have m:=m.new e Ad (fun b hb=>⟨Ao b hb,Enc.rd_lt (Enc.ow_rd Aa) b hb⟩) (Enc.ow_nd Aa)
 refine pN 1 k z fun a k=>nn (wp_seq (wr (pN 1 k z fun a k=>sv k z (r_len (α:=Int) (Enc.ow_rd Aa) k underlying63 z z) fun a k=>pN 1 k z fun a k=>sv k z (r_len (α:=Int) Ai k underlying63 z z) fun a k=>pN 1 k z fun a k=>nn (cI h k z (fun Ap h=>?_) fun Ap h=>?_))))
 · refine wr (pN 1 k z fun a k=>nn (wp_ret (rt_then ?_)))
   refine fS h k m z z
 refine wp_skip (nm_then ?_)
 refine wp_seq (wr (pN 1 k z fun a k=>nn (wp_block (c_loop (fun n a w=>∃ (Ab:Int),K 24 [(0,v2),(5,Aq),(6,I Ab)] a ∧ St [] w0 w [(Ad,Ar)] ∧ d_spec_l15Units_L1 fu Ac Aj n Ab = some r) ?_ ?_ fu _ _ ?_))))
 · rintro a w ⟨_,_,_,h⟩
   exact nS h
 · rintro Ba a Aw ⟨Ab,k,m,h⟩
   rw [d_spec_l15Units_L1_s] at h
   unfold d_spec_l15Units_L1_B at h
   refine wp_seq (wr (pN 2 k z fun a k=>sv k z (r_len (α:=Int) Ai k underlying63 z z) fun a k=>pN 1 k z fun a k=>nn (cI h k z (fun Ak h=>?_) fun Ak h=>?_)))
   · refine wp_skip (nm_then ?_)
     refine wp_seq (wp_block (wr (pN 2 k z fun a k=>oE h fun Bb Am h=>cE k m call129 z z z (c_spec_l8Times fu _ _ (Enc.rd_agr (Enc.ow_rd Aa) (m.a 0 z)) Am) fun Ax e a k m=>pN 1 k z fun a k=>nn (cI h k z (fun Al h=>?_) fun Al h=>?_))))
     · refine wr (pN 1 k z fun a k=>nn (wp_ret (rt_block (rt_then (rt_then (rt_block (rt_then ?_)))))))
       refine fS h k m z z
     refine wp_skip (nm_block (nm_then ?_))
     refine wp_region_lit (pN 3 k z fun a k=>nn ?_)
     exact ⟨w64 (Ab + 1),k.keep [0,5,6] z,m.sel [0] z (by decide),h⟩
   refine wp_exit (ex_then (ex_then (ex_same (nm_then ?_))))
   refine wr (pN 1 k z fun a k=>nn (wp_ret (fS h k m z z)))
 exact ⟨0,k.keep [0,5,6] z,m.sel [0] z (by decide),h⟩
theorem c_spec_TypeById (fu:Nat) {w0:World} (r1:Request) (Ad:Int) {Ai:List Value} {F3:List Nat} (Ar:rd w0 F3 Ai r1) {r:Typ × Bool}
    (h:d_spec_TypeById fu r1 Ad = some r) :
    Calls Tryz.prog 184 #[.agg Ai.toArray,I Ad] w0 fun e w=>e = .returned (.tuple #[.agg (Flat.e r.1).toArray,.bool (r.2)]) ∧ Ext [] w0 w:=by
 refine enter (vs:=[_,_]) func184 z ntmps184 z fun a k=>?_
 have m:=St.start w0
 obtain ⟨v6,F7,v8,F9,Al,Av,rfl,rfl,Ay,Aa,Ax⟩:=Ar
 unfold d_spec_TypeById at h
 refine wr (s_box (cs:=[I r1.fWay,I r1.fPallet.fW,I r1.fPallet.fD,I r1.fPallet.fH,I r1.fPallet.fGram,I r1.fClasses,v6,v8,I r1.fMaster,Al]) m k z z z z z z fun Ah Ak a k m e Af=>s_alloc (cs:=[I 0,I 0,I 0,I 0,I 0,I 0,I 0]) m k zeroValue79 z z z z z fun Ag Am a k m e Aj=>pN 1 k z fun a k=>nn (wp_seq (wr (pN 1 k z fun a k=>nn (wp_block (c_loop (fun n a w=>∃ (Ac:Int),K 28 [(1,I Ad),(2,.pointer (some (⟨Ah,0,none⟩:Addr))),(4,.pointer (some (⟨Ag,0,none⟩:Addr))),(6,I Ac)] a ∧ St [] w0 w [([Ah],Ak),([Ag],Am)] ∧ d_spec_TypeById_L1 fu r1 Ad n Ac = some r) ?_ ?_ fu _ _ ?_))))))
 · rintro a w ⟨_,_,_,h⟩
   exact nS h
 · rintro Au a Aw ⟨Ac,k,m,h⟩
   rw [d_spec_TypeById_L1_s] at h
   unfold d_spec_TypeById_L1_B at h
   refine wp_seq (wr (pN 1 k z fun a k=>sv k z (r_fa fa38_4 k z z) fun a k=>sv k z (r_ldb t135 m 0 Af 7 k z z z z z) fun a k=>sv k z (r_len (α:=Typ) Aa k underlying35 z z) fun a k=>pN 1 k z fun a k=>nn (cI h k z (fun Aq h=>?_) fun Aq h=>?_)))
   · refine wp_skip (nm_then ?_)
     refine wp_seq (wp_block (wr (sv k z (r_fa fa38_4 k z z) fun a k=>sv k z (r_ldb t135 m 0 Af 7 k z z z z z) fun a k=>pN 1 k z fun a k=>oE h fun Ab Ae h=>sv k z (r_ixa Aa Ae k ts35 z z z) fun a k=>sv k z (r_fa fa79_0 k z z) fun a k=>sv k z (r_lde1 Aa (m.a00 (Enc.rd_lt Aa)) Ae 0 t13 k z z z z) fun a k=>pN 2 k z fun a k=>nn (cI h k z (fun Ao h=>?_) fun Ao h=>?_))))
     · refine wr (sv k z (r_fa fa38_4 k z z) fun a k=>sv k z (r_ldb t135 m 0 Af 7 k z z z z z) fun a k=>pN 1 k z fun a k=>oE h fun Ba Az h=>sv k z (r_ixa Aa Ae k ts35 z z z) fun a k=>sv k z (r_lde Aa (m.a00 (Enc.rd_lt Aa)) Ae ta79 k z z) fun a k=>s_stb (cs':=[I Ab.fId,I Ab.fW,I Ab.fH,I Ab.fD,I Ab.fTare,I Ab.fGram,I Ab.fCost]) sizeOf79 m 1 Aj 0 k z z z z z z z z z z z fun Bb a k e m As=>pN 1 k z fun a k=>nn (wp_ret (rt_block (rt_then (rt_then (rt_block (rt_then ?_)))))))
       cases h
       exact finR2 k z (RV.cA k z ta79 (As.at (m.a 1 z) 0 7 z z z) z) (RV.tmp k z) ⟨z,m.ext⟩
     refine wp_skip (nm_block (nm_then ?_))
     refine wp_region_lit (pN 3 k z fun a k=>nn ?_)
     exact ⟨w64 (Ac + 1),k.keep [1,2,4,6] z,m.sel [0,1] z (by decide),h⟩
   refine wp_exit (ex_then (ex_then (ex_same (nm_then ?_))))
   refine wr (sv k z (r_build bt79 k (cs:=#[I 0,I 0,I 0,I 0,I 0,I 0,I 0]) (ps:=[]) z z (by kernel_rfl)) fun a k=>s_stb (cs':=[I 0,I 0,I 0,I 0,I 0,I 0,I 0]) sizeOf79 m 1 Aj 0 k z z z z z z z z z z z fun At a k e m Ap=>pN 1 k z fun a k=>nn (wp_ret ?_))
   cases h
   exact finR2 k z (RV.cA k z ta79 (Ap.at (m.a 1 z) 0 7 z z z) z) (RV.tmp k z) ⟨z,m.ext⟩
 exact ⟨0,k.keep [1,2,4,6] z,m.sel [1,0] z (by decide),h⟩
theorem c_spec_l6Item (fu:Nat) {w0:World} (r1:Request) (Ai:List Int) (u9:Int) {Ag:List Value} {F3:List Nat} (Ao:rd w0 F3 Ag r1) {v6:Value} {F7:List Nat} (Ab:rd w0 F7 [v6] Ai) {r:Item × Bool}
    (h:d_spec_l6Item fu r1 Ai u9 = some r) :
    Calls Tryz.prog 168 #[.agg Ag.toArray,v6,I u9] w0 fun e w=>e = .returned (.tuple #[.agg (Flat.e r.1).toArray,.bool (r.2)]) ∧ Ext [] w0 w:=by
 refine enter (vs:=[_,_,_]) func168 z ntmps168 z fun a k=>?_
 have m:=St.start w0
 obtain ⟨Al,Ax,Ap,Bg,As,Az,rfl,rfl,Be,Bc,Ac⟩:=Ao
 unfold d_spec_l6Item at h
 refine wr (s_box (cs:=[I r1.fWay,I r1.fPallet.fW,I r1.fPallet.fD,I r1.fPallet.fH,I r1.fPallet.fGram,I r1.fClasses,Al,Ap,I r1.fMaster,As]) m k z z z z z z fun Bd Bf a k m e Aj=>s_alloc (cs:=[I 0,I 0,I 0,I 0,I 0,I 0,I 0]) m k zeroValue158 z z z z z fun Ah Av a k m e Af=>pN 1 k z fun a k=>nn (wp_seq (wr (pN 2 k z fun a k=>sv k z (r_len (α:=Int) Ab k underlying63 z z) fun a k=>pN 1 k z fun a k=>oE h fun Bb At h=>cE k m call130 z z z (c_spec_l1In fu _ _ _  At) fun Au e a k m=>pN 1 k z fun a k=>nn (cI h k z (fun Aq h=>?_) fun Aq h=>?_)))))
 · refine wr (sv k z (r_build bt158 k (cs:=#[I 0,I 0,I 0,I 0,I 0,I 0,I 0]) (ps:=[]) z z (by kernel_rfl)) fun a k=>s_stb (cs':=[I 0,I 0,I 0,I 0,I 0,I 0,I 0]) sizeOf158 m 0 Af 0 k z z z z z z z z z z z fun Aw a k e m Am=>pN 1 k z fun a k=>nn (wp_ret (rt_then ?_)))
   cases h
   exact finR2 k z (RV.cA k z ta158 (Am.at (m.a 0 z) 0 7 z z z) z) (RV.tmp k z) ⟨z,m.ext⟩
 refine wp_skip (nm_then ?_)
 refine wp_seq (d_go ([Ah]) mixo m z fun Ak hMd=>?_)
 have m:=hMd
 have s:=Ext.refl (([Ah]):List Nat) Ak
 refine dN [2,3] 2 z k (by kernel_rfl) z s (fun _ _ _ _ _=>id) fun a k=>dt k 0 z (by kernel_rfl) z s (fun _ _ _=>id) (fun w s=>r_fa fa38_6 k z z) fun a k=>dt k 1 z (by kernel_rfl) z s (fun _ _ _=>id) (fun w s=>r_ld1 t136 (r:=[]) (Aj.at (hMd.az 1 0 z z z s) 9 1 z z z) k z z) fun a k=>oE h fun Ba Ad h=>dt k 4 z (by kernel_rfl) z s (fun _ _ _=>id) (fun w s=>r_ixa Ab Ad k ts63 z z z) fun a k=>dt k 5 z (by kernel_rfl) z s (fun _ _ _=>id) (fun w s=>r_lde1 Ab (hMd.az0 0 z z (Enc.rd_lt Ab) s) Ad 0 t13 k z z z z) fun a k=>oE h fun Aa Ae h=>dt k 6 z (by kernel_rfl) z s (fun _ _ _=>id) (fun w s=>r_ixa Ac Ae k ts36 z z z) fun a k=>?_
 refine dt k 7 z (by kernel_rfl) z s (fun _ _ _=>id) (fun w s=>r_lde Ac (hMd.az0 0 z z (Enc.rd_lt Ac) s) Ae ta158 k z z) fun a k=>d_one 8 (by kernel_rfl) z (s_stb (cs':=[I Aa.fId,I Aa.fW,I Aa.fH,I Aa.fD,I Aa.fGram,I Aa.fClass,I Aa.fCount]) sizeOf158 m 0 Af 0 k z z z z z z z z z z z fun Ay a k e m Ar=>?_)
 have s:=s.trans e (fun y hy=>Or.inl hy)
 refine wpList_nil ⟨s,?_⟩
 refine dN [9] 1 z k (by kernel_rfl) z s (fun _ _ _ _ _=>id) fun a k=>d_done (by kernel_rfl) ((nm_then ?_))
 refine wp_ret ?_
 cases h
 exact finR2 k z (RV.cA k z ta158 (Ar.at (m.a 0 z) 0 7 z z z) z) (RV.tmp k z) ⟨z,m.ext⟩
theorem c_spec_Volume (fu:Nat) {w0:World} (Ac:Int) (h2:Int) (d3:Int)  {r:Int}
    (h:d_spec_Volume fu Ac h2 d3 = some r) :
    Calls Tryz.prog 186 #[I Ac,I h2,I d3] w0 fun e w=>e = .returned (I r) ∧ Ext [] w0 w:=by
 refine enter (vs:=[_,_,_]) func186 z ntmps186 z fun a k=>?_
 have m:=St.start w0
 unfold d_spec_Volume at h
 refine wr (pN 1 k z fun a k=>nn (c_cut (fun a w=>K 25 [(0,I Ac),(1,I h2),(2,I d3)] a ∧ St [] w0 w [] ∧ d_spec_Volume_J1 fu Ac h2 d3 = some r) ?_ ?_))
 · rintro a Ao ⟨k,m,h⟩
   unfold d_spec_Volume_J1 at h
   refine wr (pN 6 k z fun a k=>nn (wp_ret (fS h k m z z)))
 refine wr (pN 1 k z fun a k=>oE h fun Ah Ad h=>cE k m call130 z z z (c_spec_l1In fu _ _ _  Ad) fun Aj e a k m=>pN 2 k z fun a k=>bsplit (!Ah) (fun Aa=>?_) (fun Aa=>?_))
 · have h:=bif_t Aa h
   refine rB k 10 z Aa fun k=>pN 9 k z fun a k=>nn (wp_cond_true (k.ev z) (wr (pN 1 k z fun a k=>nn (wp_ret (rt_then ?_)))))
   refine fS h k m z z
 have h:=bif_f Aa h
 refine rB k 10 z Aa fun k=>pN 1 k z fun a k=>oE h fun Ai Ae h=>cE k m call130 z z z (c_spec_l1In fu _ _ _  Ae) fun Am e a k m=>pN 3 k z fun a k=>bsplit (!Ai) (fun Ab=>?_) (fun Ab=>?_)
 · have h:=bif_t Ab h
   refine rB k 15 z Ab fun k=>pN 4 k z fun a k=>nn (wp_cond_true (k.ev z) (wr (pN 1 k z fun a k=>nn (wp_ret (rt_then ?_)))))
   refine fS h k m z z
 have h:=bif_f Ab h
 refine rB k 15 z Ab fun k=>pN 1 k z fun a k=>oE h fun Ak Ag h=>cE k m call130 z z z (c_spec_l1In fu _ _ _  Ag) fun Al e a k m=>pN 2 k z fun a k=>nn (cI h k z (fun Af h=>?_) fun Af h=>?_)
 · refine wr (pN 1 k z fun a k=>nn (wp_ret (rt_then ?_)))
   refine fS h k m z z
 refine wp_skip (nm_then ?_)
 exact ⟨k.keep [0,1,2] z,m.sel [] z (by decide),h⟩
theorem c_spec_l7Of (fu:Nat) {w0:World} (r1:Request) (Ao:List Int) (Al:List Int) {Bh:List Value} {F3:List Nat} (Cg:rd w0 F3 Bh r1) {v6:Value} {F7:List Nat} (As:rd w0 F7 [v6] Ao) {Aj:Value} {Ck:List Nat} (Ap:rd w0 Ck [Aj] Al) {r:L7}
    (h:d_spec_l7Of fu r1 Ao Al = some r) :
    Calls Tryz.prog 254 #[.agg Bh.toArray,v6,Aj] w0 fun e w=>e = .returned (.agg (Flat.e r).toArray) ∧ Ext [] w0 w:=by
 refine enter (vs:=[_,_,_]) func254 z ntmps254 z fun a k=>?_
 have m:=St.start w0
 obtain ⟨Bb,De,Ba,Cs,Ay,Cx,rfl,rfl,At,Aq,Av⟩:=Cg
 unfold d_spec_l7Of at h
 refine wr (s_box (cs:=[I r1.fWay,I r1.fPallet.fW,I r1.fPallet.fD,I r1.fPallet.fH,I r1.fPallet.fGram,I r1.fClasses,Bb,Ba,I r1.fMaster,Ay]) m k z z z z z z fun Ah Be a k m e Cl=>s_alloc (cs:=[I 0,I 0]) m k zeroValue224 z z z z z fun Ag Bd a k m e Bk=>nn (wr (sv k z (r_build bt224 k (cs:=#[I 0,I 0]) (ps:=[]) z z (by kernel_rfl)) fun a k=>s_alloc (cs:=[I 0,I 0]) m k zeroValue224 z z z z z fun Ac Df a k m e Bt=>s_stb (cs':=[I 0,I 0]) sizeOf224 m 0 Bt 0 k z z z z z z z z z z z fun Bm a k e m Co=>nn (wp_seq (wr (pN 1 k z fun a k=>nn (wp_block ?_)))))))
 refine c_loop (fun n a w=>∃ (Aa:L7) (Au:World) (Ae:Int),K 46 [(1,v6),(2,Aj),(3,.pointer (some (⟨Ah,0,none⟩:Addr))),(6,.pointer (some (⟨Ag,0,none⟩:Addr))),(7,.pointer (some (⟨Ac,0,none⟩:Addr))),(8,I Ae)] a ∧ St [] w0 w [([Ah],Be),([Ag],Bd),([Ac],Au)] ∧ bx Au Ac [I Aa.fvol,I Aa.fgram] 224 ∧ d_spec_l7Of_L1 fu r1 Ao Al n Aa Ae = some r) ?_ ?_ fu _ _ ?_
 · rintro a w ⟨_,_,_,_,_,_,h⟩
   exact nS h
 · rintro Bj a Cy ⟨Aa,Au,Ae,k,m,Ai,h⟩
   rw [d_spec_l7Of_L1_s] at h
   unfold d_spec_l7Of_L1_B at h
   refine wp_seq (wr (pN 2 k z fun a k=>sv k z (r_len (α:=Int) Ap k underlying63 z z) fun a k=>pN 1 k z fun a k=>nn (cI h k z (fun Bz h=>?_) fun Bz h=>?_)))
   · refine wp_skip (nm_then ?_)
     refine c_cut (fun a w=>∃ (Ak:L7) (Ar:World),K 46 [(1,v6),(2,Aj),(3,.pointer (some (⟨Ah,0,none⟩:Addr))),(6,.pointer (some (⟨Ag,0,none⟩:Addr))),(7,.pointer (some (⟨Ac,0,none⟩:Addr))),(8,I Ae)] a ∧ St [] w0 w [([Ah],Be),([Ag],Bd),([Ac],Ar)] ∧ bx Ar Ac [I Ak.fvol,I Ak.fgram] 224 ∧ d_spec_l7Of_J1 fu (d_spec_l7Of_L1 fu r1 Ao Al Bj) Ae Ak = some r) ?_ ?_
     · rintro a Dg ⟨Ak,Ar,k,m,Cp,h⟩
       unfold d_spec_l7Of_J1 at h
       refine wp_region_lit (pN 3 k z fun a k=>nn ?_)
       exact ⟨Ak,Ar,w64 (Ae + 1),k.keep [1,2,3,6,7,8] z,m.sel [0,1,2] z (by decide),Cp,h⟩
     refine wp_block (c_cut (fun a w=>∃ (Ab:Item) (Aw:Nat) (Ax:World),K 46 [(1,v6),(2,Aj),(3,.pointer (some (⟨Ah,0,none⟩:Addr))),(6,.pointer (some (⟨Ag,0,none⟩:Addr))),(7,.pointer (some (⟨Ac,0,none⟩:Addr))),(8,I Ae),(9,.pointer (some (⟨Aw,0,none⟩:Addr)))] a ∧ St [] w0 w [([Ah],Be),([Ag],Bd),([Ac],Au),([Aw],Ax)] ∧ bx Ax Aw [I Ab.fId,I Ab.fW,I Ab.fH,I Ab.fD,I Ab.fGram,I Ab.fClass,I Ab.fCount] 158 ∧ d_spec_l7Of_J2 fu (d_spec_l7Of_L1 fu r1 Ao Al Bj) Aa Ae Ab = some r) ?_ ?_)
     · rintro a Da ⟨Ab,Aw,Ax,k,m,Am,h⟩
       unfold d_spec_l7Of_J2 at h
       refine wp_seq (d_go ([Ac]) mixo m z fun Cb hMd=>?_)
       have m:=hMd
       have s:=Ext.refl (([Ac]):List Nat) Cb
       refine dt k 0 z (by kernel_rfl) z s (fun _ _ _=>id) (fun w s=>r_fa fa224_0 k z z) fun a k=>dt k 2 z (by kernel_rfl) z s (fun _ _ _=>id) (fun w s=>r_fa fa158_1 k z z) fun a k=>dt k 3 z (by kernel_rfl) z s (fun _ _ _=>id) (fun w s=>r_ld1 t13 (r:=[]) (Am.at (hMd.az 3 2 z z z s) 1 1 z z z) k z z) fun a k=>dt k 4 z (by kernel_rfl) z s (fun _ _ _=>id) (fun w s=>r_fa fa158_2 k z z) fun a k=>dt k 5 z (by kernel_rfl) z s (fun _ _ _=>id) (fun w s=>r_ld1 t13 (r:=[]) (Am.at (hMd.az 3 2 z z z s) 2 1 z z z) k z z) fun a k=>dt k 6 z (by kernel_rfl) z s (fun _ _ _=>id) (fun w s=>r_fa fa158_3 k z z) fun a k=>?_
       refine dt k 7 z (by kernel_rfl) z s (fun _ _ _=>id) (fun w s=>r_ld1 t13 (r:=[]) (Am.at (hMd.az 3 2 z z z s) 3 1 z z z) k z z) fun a k=>d_two 1 8 (by kernel_rfl) z z ?_ ?_ 
       · refine sv k z (r_ldb t13 m 2 Ai 0 k z z z z z) fun a k=>wpList_nil ⟨s,?_⟩
         refine d_one 8 (by kernel_rfl) z (oE h fun Az Bs h=>cE k m call186 z z z (c_spec_Volume fu _ _ _  Bs) fun Dd e a k m=>?_)
         have s:=s.trans e (by simp)
         refine wpList_nil ⟨s,?_⟩
         refine dN [9] 1 z k (by kernel_rfl) z s (fun _ _ _ _ _=>id) fun a k=>dt k 10 z (by kernel_rfl) z s (fun _ _ _=>id) (fun w s=>r_fa fa224_0 k z z) fun a k=>d_one 11 (by kernel_rfl) z (s_stb (cs':=[I (w64 (Aa.fvol + Az)),I Aa.fgram]) sizeOf3 m 2 Ai 0 k z z z z z z z z z z z fun Cu a k e m Bi=>?_)
         have s:=s.trans e (fun y hy=>Or.inl hy)
         refine wpList_nil ⟨s,?_⟩
         refine d_done (by kernel_rfl) ((nm_then ?_))
         refine wp_region_lit (sv k z (r_fa fa224_1 k z z) fun a k=>sv k z (r_ldb t13 m 2 Bi 1 k z z z z z) fun a k=>sv k z (r_fa fa158_4 k z z) fun a k=>sv k z (r_ldb t13 m 3 Am 4 k z z z z z) fun a k=>pN 1 k z fun a k=>sv k z (r_fa fa224_1 k z z) fun a k=>s_stb (cs':=[I (w64 (Aa.fvol + Az)),I (w64 (Aa.fgram + Ab.fGram))]) sizeOf3 m 2 Bi 1 k z z z z z z z z z z z fun Cn a k e m Cm=>wpList_nil (nm_block (nm_then ?_)))
         exact ⟨(⟨w64 (Aa.fvol + Az),w64 (Aa.fgram + Ab.fGram)⟩:L7),Cn,k.keep [1,2,3,6,7,8] z,m.sel [0,1,2] z (by decide),Cm,h⟩
       refine oE h fun Bc Cd h=>cE k m call186 z z z (c_spec_Volume fu _ _ _  Cd) fun Cv e a k m=>?_
       have s:=s.trans e (by simp)
       refine wpList_nil ⟨s,?_⟩
       refine d_one 1 (by kernel_rfl) z (sv k z (r_ldb t13 m 2 Ai 0 k z z z z z) fun a k=>wpList_nil ⟨s,?_⟩)
       refine dN [9] 1 z k (by kernel_rfl) z s (fun _ _ _ _ _=>id) fun a k=>dt k 10 z (by kernel_rfl) z s (fun _ _ _=>id) (fun w s=>r_fa fa224_0 k z z) fun a k=>d_one 11 (by kernel_rfl) z (s_stb (cs':=[I (w64 (Aa.fvol + Bc)),I Aa.fgram]) sizeOf3 m 2 Ai 0 k z z z z z z z z z z z fun Db a k e m Bg=>?_)
       have s:=s.trans e (fun y hy=>Or.inl hy)
       refine wpList_nil ⟨s,?_⟩
       refine d_done (by kernel_rfl) ((nm_then ?_))
       refine wp_region_lit (sv k z (r_fa fa224_1 k z z) fun a k=>sv k z (r_ldb t13 m 2 Bg 1 k z z z z z) fun a k=>sv k z (r_fa fa158_4 k z z) fun a k=>sv k z (r_ldb t13 m 3 Am 4 k z z z z z) fun a k=>pN 1 k z fun a k=>sv k z (r_fa fa224_1 k z z) fun a k=>s_stb (cs':=[I (w64 (Aa.fvol + Bc)),I (w64 (Aa.fgram + Ab.fGram))]) sizeOf3 m 2 Bg 1 k z z z z z z z z z z z fun Cj a k e m Ch=>wpList_nil (nm_block (nm_then ?_)))
       exact ⟨(⟨w64 (Aa.fvol + Bc),w64 (Aa.fgram + Ab.fGram)⟩:L7),Cj,k.keep [1,2,3,6,7,8] z,m.sel [0,1,2] z (by decide),Ch,h⟩
     refine d_go [] mixo m z fun Bo hMd=>?_
     have m:=hMd
     have s:=Ext.refl ([]:List Nat) Bo
     refine dN [1,2,3] 3 z k (by kernel_rfl) z s (fun _ _ _ _ _=>id) fun a k=>dt k 0 z (by kernel_rfl) z s (fun _ _ _=>id) (fun w s=>r_ldA ta38 (Cl.at ((hMd.step s).a 0 z) 0 10 z z z) z k z z) fun a k=>oE h fun Ct Bf h=>dt k 4 z (by kernel_rfl) z s (fun _ _ _=>id) (fun w s=>r_ixa Ap Bf k ts63 z z z) fun a k=>dt k 5 z (by kernel_rfl) z s (fun _ _ _=>id) (fun w s=>r_lde1 Ap ((hMd.step s).a00 (Enc.rd_lt Ap)) Bf 0 t13 k z z z z) fun a k=>d_two 6 10 (by kernel_rfl) z z ?_ ?_ 
     · refine oE h fun Ad Bu h=>cE k m call168 z z z (c_spec_l6Item fu _ _ _ (show rd _ _ [I r1.fWay,I r1.fPallet.fW,I r1.fPallet.fD,I r1.fPallet.fH,I r1.fPallet.fGram,I r1.fClasses,Bb,Ba,I r1.fMaster,Ay] (r1:Request) from ⟨_,_,_,_,_,_,z,z,(Enc.rd_agr At (m.a00 (Enc.rd_lt At))),(Enc.rd_agr Aq (m.a00 (Enc.rd_lt Aq))),(Enc.rd_agr Av (m.a00 (Enc.rd_lt Av)))⟩) (Enc.rd_agr As (m.a00 (Enc.rd_lt As))) Bu) fun Cq e a k m=>?_
       have s:=s.trans e (by simp)
       refine wpList_nil ⟨s,?_⟩
       refine dN [7,8,9] 3 z k (by kernel_rfl) z s (fun _ _ _ _ _=>id) fun a k=>d_one 10 (by kernel_rfl) z (s_allocN (cs:=[I 0,I 0,I 0,I 0,I 0,I 0,I 0]) m k zeroValue158 z z z z z fun Cf Cz a k m e Bn Bp=>?_)
       have Bx:=lo1 (Nat.le_trans s.size Bp)
       have s:=s.trans e (by simp)
       refine wpList_nil ⟨s,?_⟩
       refine d_one 11 (by kernel_rfl) z (s_stb (cs':=[I Ad.1.fId,I Ad.1.fW,I Ad.1.fH,I Ad.1.fD,I Ad.1.fGram,I Ad.1.fClass,I Ad.1.fCount]) sizeOf158 m 0 Bn 0 k z z z z z z z z z z z fun By a k e m Ca=>?_)
       have s:=s.trans e (fun y hy=>Or.inr (Bx y hy))
       refine wpList_nil ⟨s,?_⟩
       refine dN [12] 1 z k (by kernel_rfl) z s (fun _ _ _ _ _=>id) fun a k=>d_done (by kernel_rfl) ((nm_then ?_))
       exact ⟨Ad.1,Cf,By,k.keep [1,2,3,6,7,8,9] z,m.sel [1,2,3,0] z (by decide),Ca,h⟩
     refine s_allocN (cs:=[I 0,I 0,I 0,I 0,I 0,I 0,I 0]) m k zeroValue158 z z z z z fun Ci Dc a k m e Br Bl=>?_
     have Bv:=lo1 (Nat.le_trans s.size Bl)
     have s:=s.trans e (by simp)
     refine wpList_nil ⟨s,?_⟩
     refine d_one 6 (by kernel_rfl) z (oE h fun Af Cc h=>cE k m call168 z z z (c_spec_l6Item fu _ _ _ (show rd _ _ [I r1.fWay,I r1.fPallet.fW,I r1.fPallet.fD,I r1.fPallet.fH,I r1.fPallet.fGram,I r1.fClasses,Bb,Ba,I r1.fMaster,Ay] (r1:Request) from ⟨_,_,_,_,_,_,z,z,(Enc.rd_agr At (m.a00 (Enc.rd_lt At))),(Enc.rd_agr Aq (m.a00 (Enc.rd_lt Aq))),(Enc.rd_agr Av (m.a00 (Enc.rd_lt Av)))⟩) (Enc.rd_agr As (m.a00 (Enc.rd_lt As))) Cc) fun Cr e a k m=>?_)
     have s:=s.trans e (by simp)
     refine wpList_nil ⟨s,?_⟩
     refine dN [7,8,9] 3 z k (by kernel_rfl) z s (fun _ _ _ _ _=>id) fun a k=>d_one 11 (by kernel_rfl) z (s_stb (cs':=[I Af.1.fId,I Af.1.fW,I Af.1.fH,I Af.1.fD,I Af.1.fGram,I Af.1.fClass,I Af.1.fCount]) sizeOf158 m 0 Br 0 k z z z z z z z z z z z fun Bw a k e m Ce=>?_)
     have s:=s.trans e (fun y hy=>Or.inr (Bv y hy))
     refine wpList_nil ⟨s,?_⟩
     refine dN [12] 1 z k (by kernel_rfl) z s (fun _ _ _ _ _=>id) fun a k=>d_done (by kernel_rfl) ((nm_then ?_))
     exact ⟨Af.1,Ci,Bw,k.keep [1,2,3,6,7,8,9] z,m.sel [1,2,3,0] z (by decide),Ce,h⟩
   refine wp_exit (ex_then (ex_then (ex_same (nm_then ?_))))
   refine wr (sv k z (r_ldB ta224 m 2 Ai 0 k z z z z z z) fun a k=>s_stb (cs':=[I Aa.fvol,I Aa.fgram]) sizeOf224 m 1 Bk 0 k z z z z z z z z z z z fun Cw a k e m Bq=>nn (wp_ret ?_))
   cases h
   exact finR1 k z (RV.cA k z ta224 (Bq.at (m.a 1 z) 0 2 z z z) z) ⟨z,m.ext⟩
 exact ⟨(⟨0,0⟩:L7),Bm,0,k.keep [1,2,3,6,7,8] z,m.sel [2,1,0] z (by decide),Co,h⟩
theorem c_spec_Holds (fu:Nat) {w0:World} (r1:Request) (Ao:List Int) (t9:Typ) {Bf:List Value} {F3:List Nat} (Ce:rd w0 F3 Bf r1) {v6:Value} {F7:List Nat} (Ak:rd w0 F7 [v6] Ao) {r:Bool}
    (h:d_spec_Holds fu r1 Ao t9 = some r) :
    Calls Tryz.prog 212 #[.agg Bf.toArray,v6,.agg (Flat.e (t9)).toArray] w0 fun e w=>e = .returned (.bool (r)) ∧ Ext [] w0 w:=by
 refine enter (vs:=[_,_,_]) func212 z ntmps212 z fun a k=>?_
 have m:=St.start w0
 obtain ⟨Am,Da,Al,Cv,Aj,Db,rfl,rfl,Ab,Ad,Aa⟩:=Ce
 unfold d_spec_Holds at h
 refine wr (s_box (cs:=[I r1.fWay,I r1.fPallet.fW,I r1.fPallet.fD,I r1.fPallet.fH,I r1.fPallet.fGram,I r1.fClasses,Am,Al,I r1.fMaster,Aj]) m k z z z z z z fun Ai Bb a k m e Ax=>s_box (cs:=[I t9.fId,I t9.fW,I t9.fH,I t9.fD,I t9.fTare,I t9.fGram,I t9.fCost]) m k z z z z z z fun Ag Ba a k m e Ar=>pN 1 k z fun a k=>nn (wp_seq (wr (sv k z (r_ldB ta38 m 1 Ax 0 k z z z z z z) fun a k=>oE h fun Cp Br h=>?_))))
 refine cE k m call74 z z z (c_spec_Class fu _ (show rd _ _ [I r1.fWay,I r1.fPallet.fW,I r1.fPallet.fD,I r1.fPallet.fH,I r1.fPallet.fGram,I r1.fClasses,Am,Al,I r1.fMaster,Aj] (r1:Request) from ⟨_,_,_,_,_,_,z,z,(Enc.rd_agr Ab (m.a00 (Enc.rd_lt Ab))),(Enc.rd_agr Ad (m.a00 (Enc.rd_lt Ad))),(Enc.rd_agr Aa (m.a00 (Enc.rd_lt Aa)))⟩) Br) fun Cy e a k m=>pN 1 k z fun a k=>nn (cI h k z (fun Bo h=>?_) fun Bo h=>?_)
 · refine wr (pN 1 k z fun a k=>nn (wp_ret (rt_then ?_)))
   refine fS h k m z z
 refine wp_skip (nm_then ?_)
 refine wr (sv k z (r_ldB ta38 m 1 Ax 0 k z z z z z z) fun a k=>oE h fun Av Bk h=>s_call k call90 z z z z z (c_spec_l6Units fu _ (show rd _ _ [I r1.fWay,I r1.fPallet.fW,I r1.fPallet.fD,I r1.fPallet.fH,I r1.fPallet.fGram,I r1.fClasses,Am,Al,I r1.fMaster,Aj] (r1:Request) from ⟨_,_,_,_,_,_,z,z,(Enc.rd_agr Ab (m.a00 (Enc.rd_lt Ab))),(Enc.rd_agr Ad (m.a00 (Enc.rd_lt Ad))),(Enc.rd_agr Aa (m.a00 (Enc.rd_lt Aa)))⟩) Bk) fun Dd Au hR=>?_)
 obtain ⟨Az,Aq,rfl,e,At,Bp⟩:=hR
 refine ⟨_,z,fun a k=>?_⟩
 have m:=m.new e Aq (fun b hb=>⟨Bp b hb,Enc.rd_lt (Enc.ow_rd At) b hb⟩) (Enc.ow_nd At)
 refine pN 1 k z fun a k=>nn (c_cut (fun a w=>K 62 [(1,v6),(3,.pointer (some (⟨Ai,0,none⟩:Addr))),(5,.pointer (some (⟨Ag,0,none⟩:Addr))),(7,Az)] a ∧ St [] w0 w [([Ai],Bb),([Ag],Ba),(Aq,Au)] ∧ d_spec_Holds_J1 fu r1 Ao t9 Av = some r) ?_ ?_)
 · rintro a Df ⟨k,m,h⟩
   unfold d_spec_Holds_J1 at h
   refine wr (sv k z (r_ldB ta38 m 0 Ax 0 k z z z z z z) fun a k=>pN 2 k z fun a k=>oE h fun Bd Bj h=>cE k m call254 z z z (c_spec_l7Of fu _ _ _ (show rd _ _ [I r1.fWay,I r1.fPallet.fW,I r1.fPallet.fD,I r1.fPallet.fH,I r1.fPallet.fGram,I r1.fClasses,Am,Al,I r1.fMaster,Aj] (r1:Request) from ⟨_,_,_,_,_,_,z,z,(Enc.rd_agr Ab (m.a00 (Enc.rd_lt Ab))),(Enc.rd_agr Ad (m.a00 (Enc.rd_lt Ad))),(Enc.rd_agr Aa (m.a00 (Enc.rd_lt Aa)))⟩) (Enc.rd_agr (Enc.ow_rd At) (m.a 2 z)) (Enc.rd_agr Ak (m.a00 (Enc.rd_lt Ak))) Bj) fun De e a k m=>s_alloc (cs:=[I 0,I 0]) m k zeroValue224 z z z z z fun Cl Cm a k m e Ch=>?_)
   refine s_stb (cs':=[I Bd.fvol,I Bd.fgram]) sizeOf224 m 0 Ch 0 k z z z z z z z z z z z fun Cs a k e m Bh=>nn (wp_seq (d_go [] mixo m z fun Bl hMd=>?_))
   have m:=hMd
   have s:=Ext.refl ([]:List Nat) Bl
   refine dt k 0 z (by kernel_rfl) z s (fun _ _ _=>id) (fun w s=>r_fa fa224_0 k z z) fun a k=>dt k 1 z (by kernel_rfl) z s (fun _ _ _=>id) (fun w s=>r_ld1 t13 (r:=[]) (Bh.at ((hMd.step s).a 0 z) 0 1 z z z) k z z) fun a k=>dt k 2 z (by kernel_rfl) z s (fun _ _ _=>id) (fun w s=>r_fa fa79_1 k z z) fun a k=>dt k 3 z (by kernel_rfl) z s (fun _ _ _=>id) (fun w s=>r_ld1 t13 (r:=[]) (Ar.at ((hMd.step s).a 2 z) 1 1 z z z) k z z) fun a k=>dt k 4 z (by kernel_rfl) z s (fun _ _ _=>id) (fun w s=>r_fa fa79_2 k z z) fun a k=>dt k 5 z (by kernel_rfl) z s (fun _ _ _=>id) (fun w s=>r_ld1 t13 (r:=[]) (Ar.at ((hMd.step s).a 2 z) 2 1 z z z) k z z) fun a k=>?_
   refine dt k 6 z (by kernel_rfl) z s (fun _ _ _=>id) (fun w s=>r_fa fa79_3 k z z) fun a k=>dt k 7 z (by kernel_rfl) z s (fun _ _ _=>id) (fun w s=>r_ld1 t13 (r:=[]) (Ar.at ((hMd.step s).a 2 z) 3 1 z z z) k z z) fun a k=>d_one 8 (by kernel_rfl) z (oE h fun Bs Cc h=>cE k m call186 z z z (c_spec_Volume fu _ _ _  Cc) fun Cu e a k m=>?_)
   have s:=s.trans e (by simp)
   refine wpList_nil ⟨s,?_⟩
   refine dN [9,10] 2 z k (by kernel_rfl) z s (fun _ _ _ _ _=>id) fun a k=>bsplit (decide (Bd.fvol ≤ Bs)) (fun As=>?_) (fun As=>?_)
   · have h:=bif_t As h
     refine rB k 55 z As fun k=>dt k 11 z (by kernel_rfl) z s (fun _ _ _=>id) (fun w s=>r_fa fa224_1 k z z) fun a k=>dt k 12 z (by kernel_rfl) z s (fun _ _ _=>id) (fun w s=>r_ld1 t13 (r:=[]) (Bh.at ((hMd.step s).a 0 z) 1 1 z z z) k z z) fun a k=>dt k 13 z (by kernel_rfl) z s (fun _ _ _=>id) (fun w s=>r_fa fa79_5 k z z) fun a k=>dt k 14 z (by kernel_rfl) z s (fun _ _ _=>id) (fun w s=>r_ld1 t13 (r:=[]) (Ar.at ((hMd.step s).a 2 z) 5 1 z z z) k z z) fun a k=>dN [15,16,17] 3 z k (by kernel_rfl) z s (fun _ _ _ _ _=>id) fun a k=>d_done (by kernel_rfl) ((nm_then ?_))
     refine wp_ret (fS h k m z z)
   have h:=bif_f As h
   refine rB k 55 z As fun k=>dN [11,12,13,14,15,16,17] 7 z k (by kernel_rfl) z s (fun _ _ _ _ _=>id) fun a k=>d_done (by kernel_rfl) ((nm_then ?_))
   refine wp_ret (fS h k m z z)
 refine wr (pN 1 k z fun a k=>nn (wp_block (c_loop (fun n a w=>∃ (Ah:Int),K 62 [(1,v6),(3,.pointer (some (⟨Ai,0,none⟩:Addr))),(5,.pointer (some (⟨Ag,0,none⟩:Addr))),(7,Az),(8,I Ah)] a ∧ St [] w0 w [([Ai],Bb),([Ag],Ba),(Aq,Au)] ∧ d_spec_Holds_L1 fu r1 Ao t9 Av n Ah = some r) ?_ ?_ fu _ _ ?_)))
 · rintro a w ⟨_,_,_,h⟩
   exact nS h
 · rintro Be a Cx ⟨Ah,k,m,h⟩
   rw [d_spec_Holds_L1_s] at h
   unfold d_spec_Holds_L1_B at h
   refine wp_seq (wr (pN 2 k z fun a k=>sv k z (r_len (α:=Int) Ak k underlying63 z z) fun a k=>pN 1 k z fun a k=>nn (cI h k z (fun By h=>?_) fun By h=>?_)))
   · refine wp_skip (nm_then ?_)
     refine c_cut (fun a w=>K 62 [(1,v6),(3,.pointer (some (⟨Ai,0,none⟩:Addr))),(5,.pointer (some (⟨Ag,0,none⟩:Addr))),(7,Az),(8,I Ah)] a ∧ St [] w0 w [([Ai],Bb),([Ag],Ba),(Aq,Au)] ∧ d_spec_Holds_J2 fu (d_spec_Holds_L1 fu r1 Ao t9 Av Be) Ah = some r) ?_ ?_
     · rintro a Cr ⟨k,m,h⟩
       unfold d_spec_Holds_J2 at h
       refine wp_region_lit (pN 3 k z fun a k=>nn ?_)
       exact ⟨w64 (Ah + 1),k.keep [1,3,5,7,8] z,m.sel [0,1,2] z (by decide),h⟩
     refine wp_block (c_cut (fun a w=>∃ (Ac:Item) (Ay:Nat) (Bc:World) (Aw:Bool),K 62 [(1,v6),(3,.pointer (some (⟨Ai,0,none⟩:Addr))),(5,.pointer (some (⟨Ag,0,none⟩:Addr))),(7,Az),(8,I Ah),(9,.pointer (some (⟨Ay,0,none⟩:Addr))),(10,.bool (Aw))] a ∧ St [] w0 w [([Ai],Bb),([Ag],Ba),(Aq,Au),([Ay],Bc)] ∧ bx Bc Ay [I Ac.fId,I Ac.fW,I Ac.fH,I Ac.fD,I Ac.fGram,I Ac.fClass,I Ac.fCount] 158 ∧ d_spec_Holds_J3 fu (d_spec_Holds_L1 fu r1 Ao t9 Av Be) t9 Ah Ac Aw = some r) ?_ ?_)
     · rintro a Cz ⟨Ac,Ay,Bc,Aw,k,m,Bn,h⟩
       unfold d_spec_Holds_J3 at h
       refine wr (pN 3 k z fun a k=>bsplit (!Aw) (fun Ap=>?_) (fun Ap=>?_))
       · have h:=bif_t Ap h
         refine rB k 35 z Ap fun k=>pN 5 k z fun a k=>nn (wp_cond_true (k.ev z) (wr (pN 1 k z fun a k=>nn (wp_ret (rt_block (rt_then (rt_then (rt_block (rt_then ?_)))))))))
         refine fS h k m z z
       have h:=bif_f Ap h
       refine rB k 35 z Ap fun k=>sv k z (r_ldB ta158 m 3 Bn 0 k z z z z z z) fun a k=>sv k z (r_ldB ta79 m 1 Ar 0 k z z z z z z) fun a k=>oE h fun Dc Cb h=>cE k m call190 z z z (c_spec_Fits fu (Ac:Item) (t9:Typ)  Cb) fun Dg e a k m=>pN 2 k z fun a k=>nn (cI h k z (fun Ck h=>?_) fun Ck h=>?_)
       · refine wr (pN 1 k z fun a k=>nn (wp_ret (rt_block (rt_then (rt_then (rt_block (rt_then ?_)))))))
         refine fS h k m z z
       refine wp_skip (nm_block (nm_then ?_))
       exact ⟨k.keep [1,3,5,7,8] z,m.sel [0,1,2] z (by decide),h⟩
     refine d_go [] mixo m z fun Ca hMd=>?_
     have m:=hMd
     have s:=Ext.refl ([]:List Nat) Ca
     refine dN [1,2,3] 3 z k (by kernel_rfl) z s (fun _ _ _ _ _=>id) fun a k=>dt k 0 z (by kernel_rfl) z s (fun _ _ _=>id) (fun w s=>r_ldA ta38 (Ax.at ((hMd.step s).a 0 z) 0 10 z z z) z k z z) fun a k=>oE h fun Cw Bg h=>dt k 4 z (by kernel_rfl) z s (fun _ _ _=>id) (fun w s=>r_ixa Ak Bg k ts63 z z z) fun a k=>dt k 5 z (by kernel_rfl) z s (fun _ _ _=>id) (fun w s=>r_lde1 Ak ((hMd.step s).a00 (Enc.rd_lt Ak)) Bg 0 t13 k z z z z) fun a k=>d_two 6 10 (by kernel_rfl) z z ?_ ?_ 
     · refine oE h fun Af Cd h=>cE k m call168 z z z (c_spec_l6Item fu _ _ _ (show rd _ _ [I r1.fWay,I r1.fPallet.fW,I r1.fPallet.fD,I r1.fPallet.fH,I r1.fPallet.fGram,I r1.fClasses,Am,Al,I r1.fMaster,Aj] (r1:Request) from ⟨_,_,_,_,_,_,z,z,(Enc.rd_agr Ab (m.a00 (Enc.rd_lt Ab))),(Enc.rd_agr Ad (m.a00 (Enc.rd_lt Ad))),(Enc.rd_agr Aa (m.a00 (Enc.rd_lt Aa)))⟩) (Enc.rd_agr (Enc.ow_rd At) (m.a 2 z)) Cd) fun Co e a k m=>?_
       have s:=s.trans e (by simp)
       refine wpList_nil ⟨s,?_⟩
       refine dN [7,8,9] 3 z k (by kernel_rfl) z s (fun _ _ _ _ _=>id) fun a k=>d_one 10 (by kernel_rfl) z (s_allocN (cs:=[I 0,I 0,I 0,I 0,I 0,I 0,I 0]) m k zeroValue158 z z z z z fun Cg Cq a k m e Bz Bi=>?_)
       have Bx:=lo1 (Nat.le_trans s.size Bi)
       have s:=s.trans e (by simp)
       refine wpList_nil ⟨s,?_⟩
       refine d_one 11 (by kernel_rfl) z (s_stb (cs':=[I Af.1.fId,I Af.1.fW,I Af.1.fH,I Af.1.fD,I Af.1.fGram,I Af.1.fClass,I Af.1.fCount]) sizeOf158 m 0 Bz 0 k z z z z z z z z z z z fun Bw a k e m Cj=>?_)
       have s:=s.trans e (fun y hy=>Or.inr (Bx y hy))
       refine wpList_nil ⟨s,?_⟩
       refine dN [12] 1 z k (by kernel_rfl) z s (fun _ _ _ _ _=>id) fun a k=>d_done (by kernel_rfl) ((nm_then ?_))
       exact ⟨Af.1,Cg,Bw,Af.2,k.keep [1,3,5,7,8,9,10] z,m.sel [1,2,3,0] z (by decide),Cj,h⟩
     refine s_allocN (cs:=[I 0,I 0,I 0,I 0,I 0,I 0,I 0]) m k zeroValue158 z z z z z fun Bt Cn a k m e Bq Bv=>?_
     have Ci:=lo1 (Nat.le_trans s.size Bv)
     have s:=s.trans e (by simp)
     refine wpList_nil ⟨s,?_⟩
     refine d_one 6 (by kernel_rfl) z (oE h fun Ae Bu h=>cE k m call168 z z z (c_spec_l6Item fu _ _ _ (show rd _ _ [I r1.fWay,I r1.fPallet.fW,I r1.fPallet.fD,I r1.fPallet.fH,I r1.fPallet.fGram,I r1.fClasses,Am,Al,I r1.fMaster,Aj] (r1:Request) from ⟨_,_,_,_,_,_,z,z,(Enc.rd_agr Ab (m.a00 (Enc.rd_lt Ab))),(Enc.rd_agr Ad (m.a00 (Enc.rd_lt Ad))),(Enc.rd_agr Aa (m.a00 (Enc.rd_lt Aa)))⟩) (Enc.rd_agr (Enc.ow_rd At) (m.a 3 z)) Bu) fun Ct e a k m=>?_)
     have s:=s.trans e (by simp)
     refine wpList_nil ⟨s,?_⟩
     refine dN [7,8,9] 3 z k (by kernel_rfl) z s (fun _ _ _ _ _=>id) fun a k=>d_one 11 (by kernel_rfl) z (s_stb (cs':=[I Ae.1.fId,I Ae.1.fW,I Ae.1.fH,I Ae.1.fD,I Ae.1.fGram,I Ae.1.fClass,I Ae.1.fCount]) sizeOf158 m 0 Bq 0 k z z z z z z z z z z z fun Cf a k e m Bm=>?_)
     have s:=s.trans e (fun y hy=>Or.inr (Ci y hy))
     refine wpList_nil ⟨s,?_⟩
     refine dN [12] 1 z k (by kernel_rfl) z s (fun _ _ _ _ _=>id) fun a k=>d_done (by kernel_rfl) ((nm_then ?_))
     exact ⟨Ae.1,Bt,Cf,Ae.2,k.keep [1,3,5,7,8,9,10] z,m.sel [1,2,3,0] z (by decide),Bm,h⟩
   refine wp_exit (ex_then (ex_then (ex_same (nm_then ?_))))
   exact ⟨k.keep [1,3,5,7] z,m.sel [0,1,2] z (by decide),h⟩
 exact ⟨0,k.keep [1,3,5,7,8] z,m.sel [2,1,0] z (by decide),h⟩
theorem c_spec_l15Holds (fu:Nat) {w0:World} (r1:Request) (x5:Plan) {Av:List Value} {F3:List Nat} (Bn:rd w0 F3 Av r1) {Az:List Value} {F7:List Nat} (Be:rd w0 F7 Az x5) {r:Bool}
    (h:d_spec_l15Holds fu r1 x5 = some r) :
    Calls Tryz.prog 107 #[.agg Av.toArray,.agg Az.toArray] w0 fun e w=>e = .returned (.bool (r)) ∧ Ext [] w0 w:=by
 refine enter (vs:=[_,_]) func107 z ntmps107 z fun a k=>?_
 have m:=St.start w0
 obtain ⟨v9,Ck,Ap,Ct,Am,Cw,rfl,rfl,Ah,Ag,Aj⟩:=Bn
 obtain ⟨Bp,Ch,Bi,Cq,rfl,rfl,Ae,Cm⟩:=Be
 unfold d_spec_l15Holds at h
 refine wr (s_box (cs:=[I r1.fWay,I r1.fPallet.fW,I r1.fPallet.fD,I r1.fPallet.fH,I r1.fPallet.fGram,I r1.fClasses,v9,Ap,I r1.fMaster,Am]) m k z z z z z z fun Ai Aq a k m e Ay=>s_box (cs:=[Bp,Bi]) m k z z z z z z fun Af At a k m e As=>pN 1 k z fun a k=>nn (wp_seq (wr (pN 1 k z fun a k=>nn (wp_block (c_loop (fun n a w=>∃ (Ad:Int),K 40 [(2,.pointer (some (⟨Ai,0,none⟩:Addr))),(3,.pointer (some (⟨Af,0,none⟩:Addr))),(5,I Ad)] a ∧ St [] w0 w [([Ai],Aq),([Af],At)] ∧ d_spec_l15Holds_L1 fu r1 x5 n Ad = some r) ?_ ?_ fu _ _ ?_))))))
 · rintro a w ⟨_,_,_,h⟩
   exact nS h
 · rintro Ax a Cv ⟨Ad,k,m,h⟩
   rw [d_spec_l15Holds_L1_s] at h
   unfold d_spec_l15Holds_L1_B at h
   refine wp_seq (wr (pN 1 k z fun a k=>sv k z (r_fa fa58_0 k z z) fun a k=>sv k z (r_ldb t155 m 1 As 0 k z z z z z) fun a k=>sv k z (r_len (α:=Carton) Ae k underlying55 z z) fun a k=>pN 1 k z fun a k=>nn (cI h k z (fun Ca h=>?_) fun Ca h=>?_)))
   · refine wp_skip (nm_then ?_)
     refine c_cut (fun a w=>K 40 [(2,.pointer (some (⟨Ai,0,none⟩:Addr))),(3,.pointer (some (⟨Af,0,none⟩:Addr))),(5,I Ad)] a ∧ St [] w0 w [([Ai],Aq),([Af],At)] ∧ d_spec_l15Holds_J1 fu (d_spec_l15Holds_L1 fu r1 x5 Ax) Ad = some r) ?_ ?_
     · rintro a Ci ⟨k,m,h⟩
       unfold d_spec_l15Holds_J1 at h
       refine wp_region_lit (pN 3 k z fun a k=>nn ?_)
       exact ⟨w64 (Ad + 1),k.keep [2,3,5] z,m.sel [0,1] z (by decide),h⟩
     refine wp_block (c_cut (fun a w=>∃ (Aa:Typ) (Al:Nat) (Ar:World) (Ao:Bool),K 40 [(2,.pointer (some (⟨Ai,0,none⟩:Addr))),(3,.pointer (some (⟨Af,0,none⟩:Addr))),(5,I Ad),(6,.pointer (some (⟨Al,0,none⟩:Addr))),(7,.bool (Ao))] a ∧ St [] w0 w [([Ai],Aq),([Af],At),([Al],Ar)] ∧ bx Ar Al [I Aa.fId,I Aa.fW,I Aa.fH,I Aa.fD,I Aa.fTare,I Aa.fGram,I Aa.fCost] 79 ∧ d_spec_l15Holds_J2 fu (d_spec_l15Holds_L1 fu r1 x5 Ax) r1 x5 Ad Aa Ao = some r) ?_ ?_)
     · rintro a Db ⟨Aa,Al,Ar,Ao,k,m,Bv,h⟩
       unfold d_spec_l15Holds_J2 at h
       refine wp_seq (d_go [] mixo m z fun Bt hMd=>?_)
       have m:=hMd
       have s:=Ext.refl ([]:List Nat) Bt
       refine dN [0,1,2] 3 z k (by kernel_rfl) z s (fun _ _ _ _ _=>id) fun a k=>bsplit (!Ao) (fun Ak=>?_) (fun Ak=>?_)
       · have h:=bif_t Ak h
         refine rB k 28 z Ak fun k=>dN [3,4,5,6,7,8,9,10,11,12,13] 11 z k (by kernel_rfl) z s (fun _ _ _ _ _=>id) fun a k=>d_done (by kernel_rfl) ((nm_then ?_))
         refine wp_cond_true (k.ev z) (wr (pN 1 k z fun a k=>nn (wp_ret (rt_block (rt_then (rt_then (rt_block (rt_then ?_))))))))
         refine fS h k m z z
       have h:=bif_f Ak h
       refine rB k 28 z Ak fun k=>dN [6] 1 z k (by kernel_rfl) z s (fun _ _ _ _ _=>id) fun a k=>dt k 3 z (by kernel_rfl) z s (fun _ _ _=>id) (fun w s=>r_ldA ta38 (Ay.at ((hMd.step s).a 0 z) 0 10 z z z) z k z z) fun a k=>dt k 4 z (by kernel_rfl) z s (fun _ _ _=>id) (fun w s=>r_fa fa58_0 k z z) fun a k=>dt k 5 z (by kernel_rfl) z s (fun _ _ _=>id) (fun w s=>r_ld1 t155 (r:=[]) (As.at ((hMd.step s).a 1 z) 0 1 z z z) k z z) fun a k=>oE h fun Cz Ba h=>dt k 7 z (by kernel_rfl) z s (fun _ _ _=>id) (fun w s=>r_ixa Ae Ba k ts55 z z z) fun a k=>dt k 8 z (by kernel_rfl) z s (fun _ _ _=>id) (fun w s=>r_fa fa83_2 k z z) fun a k=>?_
       obtain ⟨Cj,Cg,Cr,Bh,Br,Bq⟩:=rd_get Ae (ix_some Ba).2.2
       obtain ⟨Cl,_,rfl,rfl,Aw⟩:=Bh
       refine dt k 9 z (by kernel_rfl) z s (fun _ _ _=>id) (fun w s=>r_ld1 t163 ((Br.agr ((hMd.step s).a00 (Enc.rd_lt Ae)) Bq).fld 2 1 (Nat.le_of_ble_eq_true z)) k z z) fun a k=>dt k 10 z (by kernel_rfl) z s (fun _ _ _=>id) (fun w s=>r_ldA ta79 (Bv.at ((hMd.step s).a 2 z) 0 7 z z z) z k z z) fun a k=>d_one 11 (by kernel_rfl) z (oE h fun Cs Cc h=>?_)
       refine cE k m call212 z z z (c_spec_Holds fu _ _ (Aa:Typ) (show rd _ _ [I r1.fWay,I r1.fPallet.fW,I r1.fPallet.fD,I r1.fPallet.fH,I r1.fPallet.fGram,I r1.fClasses,v9,Ap,I r1.fMaster,Am] (r1:Request) from ⟨_,_,_,_,_,_,z,z,(Enc.rd_agr Ah (m.a00 (Enc.rd_lt Ah))),(Enc.rd_agr Ag (m.a00 (Enc.rd_lt Ag))),(Enc.rd_agr Aj (m.a00 (Enc.rd_lt Aj)))⟩) (Enc.rd_agr Aw (m.a00 (Enc.rd_lt Aw))) Cc) fun De e a k m=>?_
       have s:=s.trans e (by simp)
       refine wpList_nil ⟨s,?_⟩
       refine dN [12,13] 2 z k (by kernel_rfl) z s (fun _ _ _ _ _=>id) fun a k=>d_done (by kernel_rfl) ((nm_then ?_))
       refine cI h k z (fun Bk h=>?_) fun Bk h=>?_
       · refine wr (pN 1 k z fun a k=>nn (wp_ret (rt_block (rt_then (rt_then (rt_block (rt_then ?_)))))))
         refine fS h k m z z
       refine wp_skip (nm_block (nm_then ?_))
       exact ⟨k.keep [2,3,5] z,m.sel [0,1] z (by decide),h⟩
     refine d_go [] mixo m z fun Bf hMd=>?_
     have m:=hMd
     have s:=Ext.refl ([]:List Nat) Bf
     refine dN [3] 1 z k (by kernel_rfl) z s (fun _ _ _ _ _=>id) fun a k=>dt k 0 z (by kernel_rfl) z s (fun _ _ _=>id) (fun w s=>r_ldA ta38 (Ay.at ((hMd.step s).a 0 z) 0 10 z z z) z k z z) fun a k=>dt k 1 z (by kernel_rfl) z s (fun _ _ _=>id) (fun w s=>r_fa fa58_0 k z z) fun a k=>dt k 2 z (by kernel_rfl) z s (fun _ _ _=>id) (fun w s=>r_ld1 t155 (r:=[]) (As.at ((hMd.step s).a 1 z) 0 1 z z z) k z z) fun a k=>oE h fun Dd Au h=>dt k 4 z (by kernel_rfl) z s (fun _ _ _=>id) (fun w s=>r_ixa Ae Au k ts55 z z z) fun a k=>dt k 5 z (by kernel_rfl) z s (fun _ _ _=>id) (fun w s=>r_fa fa83_0 k z z) fun a k=>?_
     obtain ⟨Cu,Cp,Dc,Ce,Cb,Bw⟩:=rd_get Ae (ix_some Au).2.2
     obtain ⟨Cn,_,rfl,rfl,Cx⟩:=Ce
     refine dt k 6 z (by kernel_rfl) z s (fun _ _ _=>id) (fun w s=>r_ld1 t13 ((Cb.agr ((hMd.step s).a00 (Enc.rd_lt Ae)) Bw).fld 0 1 (Nat.le_of_ble_eq_true z)) k z z) fun a k=>d_two 7 11 (by kernel_rfl) z z ?_ ?_ 
     · refine oE h fun Ab Bx h=>cE k m call184 z z z (c_spec_TypeById fu _ _ (show rd _ _ [I r1.fWay,I r1.fPallet.fW,I r1.fPallet.fD,I r1.fPallet.fH,I r1.fPallet.fGram,I r1.fClasses,v9,Ap,I r1.fMaster,Am] (r1:Request) from ⟨_,_,_,_,_,_,z,z,(Enc.rd_agr Ah (m.a00 (Enc.rd_lt Ah))),(Enc.rd_agr Ag (m.a00 (Enc.rd_lt Ag))),(Enc.rd_agr Aj (m.a00 (Enc.rd_lt Aj)))⟩) Bx) fun Cy e a k m=>?_
       have s:=s.trans e (by simp)
       refine wpList_nil ⟨s,?_⟩
       refine dN [8,9,10] 3 z k (by kernel_rfl) z s (fun _ _ _ _ _=>id) fun a k=>d_one 11 (by kernel_rfl) z (s_allocN (cs:=[I 0,I 0,I 0,I 0,I 0,I 0,I 0]) m k zeroValue79 z z z z z fun Bd Cf a k m e Bj Bz=>?_)
       have Cd:=lo1 (Nat.le_trans s.size Bz)
       have s:=s.trans e (by simp)
       refine wpList_nil ⟨s,?_⟩
       refine d_one 12 (by kernel_rfl) z (s_stb (cs':=[I Ab.1.fId,I Ab.1.fW,I Ab.1.fH,I Ab.1.fD,I Ab.1.fTare,I Ab.1.fGram,I Ab.1.fCost]) sizeOf79 m 0 Bj 0 k z z z z z z z z z z z fun Bs a k e m Bm=>?_)
       have s:=s.trans e (fun y hy=>Or.inr (Cd y hy))
       refine wpList_nil ⟨s,?_⟩
       refine dN [13] 1 z k (by kernel_rfl) z s (fun _ _ _ _ _=>id) fun a k=>d_done (by kernel_rfl) ((nm_then ?_))
       exact ⟨Ab.1,Bd,Bs,Ab.2,k.keep [2,3,5,6,7] z,m.sel [1,2,0] z (by decide),Bm,h⟩
     refine s_allocN (cs:=[I 0,I 0,I 0,I 0,I 0,I 0,I 0]) m k zeroValue79 z z z z z fun Bb Co a k m e Bl By=>?_
     have Bu:=lo1 (Nat.le_trans s.size By)
     have s:=s.trans e (by simp)
     refine wpList_nil ⟨s,?_⟩
     refine d_one 7 (by kernel_rfl) z (oE h fun Ac Bo h=>cE k m call184 z z z (c_spec_TypeById fu _ _ (show rd _ _ [I r1.fWay,I r1.fPallet.fW,I r1.fPallet.fD,I r1.fPallet.fH,I r1.fPallet.fGram,I r1.fClasses,v9,Ap,I r1.fMaster,Am] (r1:Request) from ⟨_,_,_,_,_,_,z,z,(Enc.rd_agr Ah (m.a00 (Enc.rd_lt Ah))),(Enc.rd_agr Ag (m.a00 (Enc.rd_lt Ag))),(Enc.rd_agr Aj (m.a00 (Enc.rd_lt Aj)))⟩) Bo) fun Da e a k m=>?_)
     have s:=s.trans e (by simp)
     refine wpList_nil ⟨s,?_⟩
     refine dN [8,9,10] 3 z k (by kernel_rfl) z s (fun _ _ _ _ _=>id) fun a k=>d_one 12 (by kernel_rfl) z (s_stb (cs':=[I Ac.1.fId,I Ac.1.fW,I Ac.1.fH,I Ac.1.fD,I Ac.1.fTare,I Ac.1.fGram,I Ac.1.fCost]) sizeOf79 m 0 Bl 0 k z z z z z z z z z z z fun Bc a k e m Bg=>?_)
     have s:=s.trans e (fun y hy=>Or.inr (Bu y hy))
     refine wpList_nil ⟨s,?_⟩
     refine dN [13] 1 z k (by kernel_rfl) z s (fun _ _ _ _ _=>id) fun a k=>d_done (by kernel_rfl) ((nm_then ?_))
     exact ⟨Ac.1,Bb,Bc,Ac.2,k.keep [2,3,5,6,7] z,m.sel [1,2,0] z (by decide),Bg,h⟩
   refine wp_exit (ex_then (ex_then (ex_same (nm_then ?_))))
   refine wr (pN 1 k z fun a k=>nn (wp_ret (fS h k m z z)))
 exact ⟨0,k.keep [2,3,5] z,m.sel [1,0] z (by decide),h⟩
theorem c_spec_Present (fu:Nat) {w0:World} (r1:Request) {Az:List Value} {F3:List Nat} (Bk:rd w0 F3 Az r1) {r:(List Int)}
    (h:d_spec_Present fu r1 = some r) :
    Calls Tryz.prog 70 #[.agg Az.toArray] w0 fun e w=>∃ (v0:Value) (G0:List Nat),e = .returned (v0) ∧ Ext [] w0 w ∧ ow w G0 [v0] r ∧ (∀ b ∈ G0,w0.heap.size ≤ b):=by
 refine enter (vs:=[_]) func70 z ntmps70 z fun a k=>?_
 have m:=St.start w0
 obtain ⟨v5,F6,v7,F8,v9,Bu,rfl,rfl,Aw,Ay,Af⟩:=Bk
 unfold d_spec_Present at h
 refine wr (s_box (cs:=[I r1.fWay,I r1.fPallet.fW,I r1.fPallet.fD,I r1.fPallet.fH,I r1.fPallet.fGram,I r1.fClasses,v5,v7,I r1.fMaster,v9]) m k z z z z z z fun Ab Aq a k m e Au=>pN 1 k z fun a k=>nn (wr (s_bs (cs:=[]) (ps:=[]) te63 m k z z z z z z z (by decide) z (by exact (List.forall_mem_nil _)) fun At Bh Bw a k m e Bq=>?_)))
 have Av:=ow_bx Bq ([]:List Int) z z z
 refine pN 1 k z fun a k=>nn (wp_seq (wr (sv k z (r_ldB ta38 m 1 Au 0 k z z z z z z) fun a k=>oE h fun By Bi h=>cE k m call74 z z z (c_spec_Class fu _ (show rd _ _ [I r1.fWay,I r1.fPallet.fW,I r1.fPallet.fD,I r1.fPallet.fH,I r1.fPallet.fGram,I r1.fClasses,v5,v7,I r1.fMaster,v9] (r1:Request) from ⟨_,_,_,_,_,_,z,z,(Enc.rd_agr Aw (m.a00 (Enc.rd_lt Aw))),(Enc.rd_agr Ay (m.a00 (Enc.rd_lt Ay))),(Enc.rd_agr Af (m.a00 (Enc.rd_lt Af)))⟩) Bi) fun Bv e a k m=>pN 1 k z fun a k=>nn (cI h k z (fun Bb h=>?_) fun Bb h=>?_))))
 · refine wr (pN 2 k z fun a k=>nn (wp_ret (rt_then ?_)))
   cases h
   exact finR1 k z (RV.tmp k z) ⟨_,[At],z,m.ext,(Enc.ow_agr Av (m.a 0 z)),(m.fresh 0 z)⟩
 refine wp_skip (nm_then ?_)
 refine wp_seq (wr (pN 1 k z fun a k=>nn (wp_block (c_loop (fun n a w=>∃ (Ae:List Int) (Ag:Value) (Ac:List Nat) (Ad:World) (Aa:Int),K 40 [(1,.pointer (some (⟨Ab,0,none⟩:Addr))),(3,Ag),(4,I Aa)] a ∧ St [] w0 w [([Ab],Aq),(Ac,Ad)] ∧ ow Ad Ac [Ag] Ae ∧ d_spec_Present_L2 fu r1 n Ae Aa = some r) ?_ ?_ fu _ _ ?_))))
 · rintro a w ⟨_,_,_,_,_,_,_,_,h⟩
   exact nS h
 · rintro As a Ca ⟨Ae,Ag,Ac,Ad,Aa,k,m,Ar,h⟩
   rw [d_spec_Present_L2_s] at h
   unfold d_spec_Present_L2_B at h
   refine wp_seq (wr (pN 2 k z fun a k=>nn (cI h k z (fun Be h=>?_) fun Be h=>?_)))
   · refine wp_skip (nm_then ?_)
     refine c_cut (fun a w=>∃ (Al:List Int) (Am:Value) (Aj:List Nat) (Ap:World),K 40 [(1,.pointer (some (⟨Ab,0,none⟩:Addr))),(3,Am),(4,I Aa)] a ∧ St [] w0 w [([Ab],Aq),(Aj,Ap)] ∧ ow Ap Aj [Am] Al ∧ d_spec_Present_J1 fu (d_spec_Present_L2 fu r1 As) Aa Al = some r) ?_ ?_
     · rintro a Cb ⟨Al,Am,Aj,Ap,k,m,Ba,h⟩
       unfold d_spec_Present_J1 at h
       refine wp_region_lit (pN 3 k z fun a k=>nn ?_)
       exact ⟨Al,Am,Aj,Ap,w64 (Aa + 1),k.keep [1,3,4] z,m.sel [0,1] z (by decide),Ba,h⟩
     refine wp_block (wr (pN 1 k z fun a k=>nn (wp_seq (wr (pN 1 k z fun a k=>nn (wp_block (c_loop (fun n a w=>∃ (Ao:Bool) (Ah:Int),K 40 [(1,.pointer (some (⟨Ab,0,none⟩:Addr))),(3,Ag),(4,I Aa),(5,.bool (Ao)),(6,I Ah)] a ∧ St [] w0 w [([Ab],Aq),(Ac,Ad)] ∧ d_spec_Present_L1 fu (d_spec_Present_L2 fu r1 As) r1 Ae Aa n Ao Ah = some r) ?_ ?_ fu _ _ ?_)))))))
     · rintro a w ⟨_,_,_,_,h⟩
       exact nS h
     · rintro Bd a Bx ⟨Ao,Ah,k,m,h⟩
       rw [d_spec_Present_L1_s] at h
       unfold d_spec_Present_L1_B at h
       refine wp_seq (wr (pN 1 k z fun a k=>sv k z (r_fa fa38_6 k z z) fun a k=>sv k z (r_ldb t136 m 0 Au 9 k z z z z z) fun a k=>sv k z (r_len (α:=Item) Af k underlying36 z z) fun a k=>pN 1 k z fun a k=>nn (cI h k z (fun Bj h=>?_) fun Bj h=>?_)))
       · refine wp_skip (nm_then ?_)
         refine c_cut (fun a w=>∃ (Ak:Bool),K 40 [(1,.pointer (some (⟨Ab,0,none⟩:Addr))),(3,Ag),(4,I Aa),(5,.bool (Ak)),(6,I Ah)] a ∧ St [] w0 w [([Ab],Aq),(Ac,Ad)] ∧ d_spec_Present_J2 fu (d_spec_Present_L1 fu (d_spec_Present_L2 fu r1 As) r1 Ae Aa Bd) Ah Ak = some r) ?_ ?_
         · rintro a Bt ⟨Ak,k,m,h⟩
           unfold d_spec_Present_J2 at h
           refine wp_region_lit (pN 3 k z fun a k=>nn ?_)
           exact ⟨Ak,w64 (Ah + 1),k.keep [1,3,4,5,6] z,m.sel [0,1] z (by decide),h⟩
         refine wp_block (wp_region_lit (pN 2 k z fun a k=>bsplit (Ao) (fun Ai=>?_) (fun Ai=>?_)))
         · have h:=bif_t Ai h
           refine rB k 24 z Ai fun k=>pN 10 k z fun a k=>wpList_nil (nm_block (nm_then ?_))
           exact ⟨true,k.keep [1,3,4,5,6] z,m.sel [0,1] z (by decide),h⟩
         have h:=bif_f Ai h
         refine rB k 24 z Ai fun k=>sv k z (r_fa fa38_6 k z z) fun a k=>sv k z (r_ldb t136 m 0 Au 9 k z z z z z) fun a k=>pN 1 k z fun a k=>oE h fun Bp Ax h=>sv k z (r_ixa Af Ax k ts36 z z z) fun a k=>sv k z (r_fa fa158_5 k z z) fun a k=>sv k z (r_lde1 Af (m.a00 (Enc.rd_lt Af)) Ax 5 t13 k z z z z) fun a k=>pN 4 k z fun a k=>wpList_nil (nm_block (nm_then ?_))
         exact ⟨Bp.fClass == Aa,k.keep [1,3,4,5,6] z,m.sel [0,1] z (by decide),h⟩
       refine wp_exit (ex_then (ex_then (ex_same (nm_then ?_))))
       refine wr (pN 1 k z fun a k=>nn (cI h k z (fun Br h=>?_) fun Br h=>?_))
       · refine wp_region_lit (pN 2 k z fun a k=>s_bs (cs:=[I Aa]) (ps:=[(0,.tmp 36)]) te63 m k z z z z z z z (by decide) z (by exact (List.forall_mem_cons.2 ⟨z,(List.forall_mem_nil _)⟩)) fun Cc Bz Cd a k m e Bm=>?_)
         have Bs:=ow_bx Bm ([Aa]:List Int) z z z
         refine oE h fun Bl Bg h=>s_appF Bg te63 z m 2 Ar (News.rd (Enc.rd_agr (Enc.ow_rd Bs) (m.a 0 z))) z z k z z z z z z z fun Bn Bo Bf a k e m Bc=>pN 1 k z fun a k=>wpList_nil (nm_block (nm_then ?_))
         exact ⟨Bl,Bn,Bo,Bf,k.keep [1,3,4] z,m.sel [1,2] z (by decide),Bc,h⟩
       refine wp_skip (nm_block (nm_then ?_))
       exact ⟨Ae,Ag,Ac,Ad,k.keep [1,3,4] z,m.sel [0,1] z (by decide),Ar,h⟩
     exact ⟨false,0,k.keep [1,3,4,5,6] z,m.sel [0,1] z (by decide),h⟩
   refine wp_exit (ex_then (ex_then (ex_same (nm_then ?_))))
   refine wr (pN 2 k z fun a k=>nn (wp_ret ?_))
   cases h
   exact finR1 k z (RV.tmp k z) ⟨_,Ac,z,m.ext,(Enc.ow_agr Ar (m.a 1 z)),(m.fresh 1 z)⟩
 exact ⟨([]:List Int),(.slice (some ⟨At,0,none⟩) 0 0),[At],Bh,0,k.keep [1,3,4] z,m.sel [1,0] z (by decide),Av,h⟩
theorem c_spec_l1Has (fu:Nat) {w0:World} (Ac:List Int) (x5:Int) {v2:Value} {F3:List Nat} (Aa:rd w0 F3 [v2] Ac) {r:Bool}
    (h:d_spec_l1Has fu Ac x5 = some r) :
    Calls Tryz.prog 249 #[v2,I x5] w0 fun e w=>e = .returned (.bool (r)) ∧ Ext [] w0 w:=by
 refine enter (vs:=[_,_]) func249 z ntmps249 z fun a k=>?_
 have m:=St.start w0
 unfold d_spec_l1Has at h
 refine wr (pN 1 k z fun a k=>nn (wp_seq (wr (pN 1 k z fun a k=>nn (wp_block (c_loop (fun n a w=>∃ (Ab:Int),K 18 [(0,v2),(1,I x5),(5,I Ab)] a ∧ St [] w0 w [] ∧ d_spec_l1Has_L1 fu Ac x5 n Ab = some r) ?_ ?_ fu _ _ ?_))))))
 · rintro a w ⟨_,_,_,h⟩
   exact nS h
 · rintro Ai a Ah ⟨Ab,k,m,h⟩
   rw [d_spec_l1Has_L1_s] at h
   unfold d_spec_l1Has_L1_B at h
   refine wp_seq (wr (pN 2 k z fun a k=>sv k z (r_len (α:=Int) Aa k underlying63 z z) fun a k=>pN 1 k z fun a k=>nn (cI h k z (fun Ae h=>?_) fun Ae h=>?_)))
   · refine wp_skip (nm_then ?_)
     refine wp_seq (wp_block (wr (pN 2 k z fun a k=>oE h fun Ag Ad h=>sv k z (r_ixa Aa Ad k ts63 z z z) fun a k=>sv k z (r_lde1 Aa (m.a00 (Enc.rd_lt Aa)) Ad 0 t13 k z z z z) fun a k=>pN 2 k z fun a k=>nn (cI h k z (fun Af h=>?_) fun Af h=>?_))))
     · refine wr (pN 1 k z fun a k=>nn (wp_ret (rt_block (rt_then (rt_then (rt_block (rt_then ?_)))))))
       refine fS h k m z z
     refine wp_skip (nm_block (nm_then ?_))
     refine wp_region_lit (pN 3 k z fun a k=>nn ?_)
     exact ⟨w64 (Ab + 1),k.keep [0,1,5] z,m.sel [] z (by decide),h⟩
   refine wp_exit (ex_then (ex_then (ex_same (nm_then ?_))))
   refine wr (pN 1 k z fun a k=>nn (wp_ret (fS h k m z z)))
 exact ⟨0,k.keep [0,1,5] z,m.sel [] z (by decide),h⟩
theorem c_spec_l3Joins (fu:Nat) {w0:World} (Af:List Pair) (Ae:List Int) (Ac:Int) {v2:Value} {F3:List Nat} (Ag:rd w0 F3 [v2] Af) {v6:Value} {F7:List Nat} (Aa:rd w0 F7 [v6] Ae) {r:Bool}
    (h:d_spec_l3Joins fu Af Ae Ac = some r) :
    Calls Tryz.prog 295 #[v2,v6,I Ac] w0 fun e w=>e = .returned (.bool (r)) ∧ Ext [] w0 w:=by
 refine enter (vs:=[_,_,_]) func295 z ntmps295 z fun a k=>?_
 have m:=St.start w0
 unfold d_spec_l3Joins at h
 refine wr (pN 1 k z fun a k=>nn (wp_seq (wr (pN 1 k z fun a k=>nn (wp_block (c_loop (fun n a w=>∃ (Ab:Int),K 32 [(0,v2),(1,v6),(2,I Ac),(7,I Ab)] a ∧ St [] w0 w [] ∧ d_spec_l3Joins_L1 fu Af Ae Ac n Ab = some r) ?_ ?_ fu _ _ ?_))))))
 · rintro a w ⟨_,_,_,h⟩
   exact nS h
 · rintro Aj a Ap ⟨Ab,k,m,h⟩
   rw [d_spec_l3Joins_L1_s] at h
   unfold d_spec_l3Joins_L1_B at h
   refine wp_seq (wr (pN 2 k z fun a k=>sv k z (r_len (α:=Int) Aa k underlying63 z z) fun a k=>pN 1 k z fun a k=>nn (cI h k z (fun Ak h=>?_) fun Ak h=>?_)))
   · refine wp_skip (nm_then ?_)
     refine c_cut (fun a w=>K 32 [(0,v2),(1,v6),(2,I Ac),(7,I Ab)] a ∧ St [] w0 w [] ∧ d_spec_l3Joins_J1 fu (d_spec_l3Joins_L1 fu Af Ae Ac Aj) Ab = some r) ?_ ?_
     · rintro a Aw ⟨k,m,h⟩
       unfold d_spec_l3Joins_J1 at h
       refine wp_region_lit (pN 3 k z fun a k=>nn ?_)
       exact ⟨w64 (Ab + 1),k.keep [0,1,2,7] z,m.sel [] z (by decide),h⟩
     refine wp_block (wr (pN 3 k z fun a k=>oE h fun As Ah h=>sv k z (r_ixa Aa Ah k ts63 z z z) fun a k=>sv k z (r_lde1 Aa (m.a00 (Enc.rd_lt Aa)) Ah 0 t13 k z z z z) fun a k=>pN 1 k z fun a k=>oE h fun Ai Am h=>cE k m call177 z z z (c_spec_Beside fu _ _ _ (Enc.rd_agr Ag (m.a00 (Enc.rd_lt Ag))) Am) fun Av e a k m=>pN 2 k z fun a k=>bsplit (!Ai) (fun Ad=>?_) (fun Ad=>?_)))
     · have h:=bif_t Ad h
       refine rB k 22 z Ad fun k=>pN 9 k z fun a k=>nn (wp_cond_true (k.ev z) (wr (pN 1 k z fun a k=>nn (wp_ret (rt_block (rt_then (rt_then (rt_block (rt_then ?_)))))))))
       refine fS h k m z z
     have h:=bif_f Ad h
     refine rB k 22 z Ad fun k=>pN 4 k z fun a k=>oE h fun Au Ar h=>sv k z (r_ixa Aa Ah k ts63 z z z) fun a k=>sv k z (r_lde1 Aa (m.a00 (Enc.rd_lt Aa)) Ah 0 t13 k z z z z) fun a k=>oE h fun At Ao h=>cE k m call177 z z z (c_spec_Beside fu _ _ _ (Enc.rd_agr Ag (m.a00 (Enc.rd_lt Ag))) Ao) fun Aq e a k m=>pN 2 k z fun a k=>nn (cI h k z (fun Al h=>?_) fun Al h=>?_)
     · refine wr (pN 1 k z fun a k=>nn (wp_ret (rt_block (rt_then (rt_then (rt_block (rt_then ?_)))))))
       refine fS h k m z z
     refine wp_skip (nm_block (nm_then ?_))
     exact ⟨k.keep [0,1,2,7] z,m.sel [] z (by decide),h⟩
   refine wp_exit (ex_then (ex_then (ex_same (nm_then ?_))))
   refine wr (pN 1 k z fun a k=>nn (wp_ret (fS h k m z z)))
 exact ⟨0,k.keep [0,1,2,7] z,m.sel [] z (by decide),h⟩
theorem c_spec_Groups (fu:Nat) {w0:World} (Ad:List Pair) (Ai:List Int) {v2:Value} {F3:List Nat} (Aw:rd w0 F3 [v2] Ad) {v6:Value} {F7:List Nat} (Au:rd w0 F7 [v6] Ai) {r:(List (List Int))}
    (h:d_spec_Groups fu Ad Ai = some r) :
    Calls Tryz.prog 248 #[v2,v6] w0 fun e w=>∃ (v0:Value) (G0:List Nat),e = .returned (v0) ∧ Ext [] w0 w ∧ ow w G0 [v0] r ∧ (∀ b ∈ G0,w0.heap.size ≤ b):=by
 refine enter (vs:=[_,_]) func248 z ntmps248 z fun a k=>?_
 have m:=St.start w0
 unfold d_spec_Groups at h
 refine wr (pN 1 k z fun a k=>nn (wr (s_bs (cs:=[]) (ps:=[]) te29 m k z z z z z z z (by decide) z (by exact (List.forall_mem_nil _)) fun g9 Bz Dn a k m e Bl=>?_)))
 have Cj:=ow_bx0 (α:=List Int) Bl
 refine pN 1 k z fun a k=>nn (wp_seq (wr (pN 1 k z fun a k=>nn (wp_block (c_loop (fun n a w=>∃ (Ae:List (List Int)) (Af:Value) (Ac:List Nat) (Ah:World) (Aa:Int),K 51 [(0,v2),(1,v6),(5,Af),(6,I Aa)] a ∧ St [] w0 w [(Ac,Ah)] ∧ ow Ah Ac [Af] Ae ∧ d_spec_Groups_L2 fu Ad Ai n Ae Aa = some r) ?_ ?_ fu _ _ ?_)))))
 · rintro a w ⟨_,_,_,_,_,_,_,_,h⟩
   exact nS h
 · rintro Ar a Dg ⟨Ae,Af,Ac,Ah,Aa,k,m,Ab,h⟩
   rw [d_spec_Groups_L2_s] at h
   unfold d_spec_Groups_L2_B at h
   refine wp_seq (wr (pN 2 k z fun a k=>nn (cI h k z (fun Cb h=>?_) fun Cb h=>?_)))
   · refine wp_skip (nm_then ?_)
     refine c_cut (fun a w=>∃ (Ap:List (List Int)) (Am:Value) (Aq:List Nat) (Al:World),K 51 [(0,v2),(1,v6),(5,Am),(6,I Aa)] a ∧ St [] w0 w [(Aq,Al)] ∧ ow Al Aq [Am] Ap ∧ d_spec_Groups_J1 fu (d_spec_Groups_L2 fu Ad Ai Ar) Aa Ap = some r) ?_ ?_
     · rintro a Dj ⟨Ap,Am,Aq,Al,k,m,Co,h⟩
       unfold d_spec_Groups_J1 at h
       refine wp_region_lit (pN 3 k z fun a k=>nn ?_)
       exact ⟨Ap,Am,Aq,Al,w64 (Aa + 1),k.keep [0,1,5,6] z,m.sel [0] z (by decide),Co,h⟩
     refine wp_block (wp_seq (wr (pN 2 k z fun a k=>oE h fun Cv Bj h=>cE k m call249 z z z (c_spec_l1Has fu _ _ (Enc.rd_agr Au (m.a00 (Enc.rd_lt Au))) Bj) fun Do e a k m=>pN 1 k z fun a k=>nn (cI h k z (fun Ci h=>?_) fun Ci h=>?_))))
     · refine wp_exit (ex_then (ex_same (nm_then ?_)))
       exact ⟨Ae,Af,Ac,Ah,k.keep [0,1,5,6] z,m.sel [0] z (by decide),Ab,h⟩
     refine wp_skip (nm_then ?_)
     refine wr (pN 1 k z fun a k=>nn (wp_seq (wr (pN 1 k z fun a k=>sv k z (r_len (α:=List Int) (Enc.ow_rd Ab) k underlying29 z z) fun a k=>pN 2 k z fun a k=>nn (wp_block (c_loop (fun n a w=>∃ (Aj:Int) (Ag:Int),K 51 [(0,v2),(1,v6),(5,Af),(6,I Aa),(7,I Aj),(8,I Ag)] a ∧ St [] w0 w [(Ac,Ah)] ∧ d_spec_Groups_L1 fu (d_spec_Groups_L2 fu Ad Ai Ar) Ad Ae Aa n Aj Ag = some r) ?_ ?_ fu _ _ ?_))))))
     · rintro a w ⟨_,_,_,_,h⟩
       exact nS h
     · rintro Bv a Df ⟨Aj,Ag,k,m,h⟩
       rw [d_spec_Groups_L1_s] at h
       unfold d_spec_Groups_L1_B at h
       refine wp_seq (wr (pN 2 k z fun a k=>nn (cI h k z (fun Bc h=>?_) fun Bc h=>?_)))
       · refine wp_skip (nm_then ?_)
         refine c_cut (fun a w=>∃ (Ao:Int),K 51 [(0,v2),(1,v6),(5,Af),(6,I Aa),(7,I Ao),(8,I Ag)] a ∧ St [] w0 w [(Ac,Ah)] ∧ d_spec_Groups_J2 fu (d_spec_Groups_L1 fu (d_spec_Groups_L2 fu Ad Ai Ar) Ad Ae Aa Bv) Ag Ao = some r) ?_ ?_
         · rintro a Dq ⟨Ao,k,m,h⟩
           unfold d_spec_Groups_J2 at h
           refine wp_region_lit (pN 3 k z fun a k=>nn ?_)
           exact ⟨Ao,w64 (Ag - 1),k.keep [0,1,5,6,7,8] z,m.sel [0] z (by decide),h⟩
         refine wp_block (wr (pN 3 k z fun a k=>oE h fun De Ay h=>sv k z (r_ixa (Enc.ow_rd Ab) Ay k ts29 z z z) fun a k=>?_))
         obtain ⟨Cx,Bd,Cf,Az,Ca,Bk⟩:=rd_get (Enc.ow_rd Ab) (ix_some Ay).2.2
         obtain ⟨Dd,rfl⟩:∃ v,Bd = [v]:=by obtain ⟨_,_,hq,_⟩:=Az; exact ⟨_,hq⟩
         refine sv k z (r_ld1 t163 (Ca.agr (m.a 0 z) Bk) k z z) fun a k=>pN 1 k z fun a k=>oE h fun Dr Bp h=>cE k m call295 z z z (c_spec_l3Joins fu _ _ _ (Enc.rd_agr Aw (m.a00 (Enc.rd_lt Aw))) (Enc.rd_agr Az ((m.a 0 z).sub Cf)) Bp) fun Cw e a k m=>nn (cI h k z (fun Bq h=>?_) fun Bq h=>?_)
         · refine wp_region_lit (pN 2 k z fun a k=>wpList_nil (nm_block (nm_then ?_)))
           exact ⟨Ag,k.keep [0,1,5,6,7,8] z,m.sel [0] z (by decide),h⟩
         refine wp_skip (nm_block (nm_then ?_))
         exact ⟨Aj,k.keep [0,1,5,6,7,8] z,m.sel [0] z (by decide),h⟩
       refine wp_exit (ex_then (ex_then (ex_same (nm_then ?_))))
       refine wr (pN 2 k z fun a k=>nn (cI h k z (fun Bw h=>?_) fun Bw h=>?_))
       · refine wp_region_lit (pN 2 k z fun a k=>s_bs (cs:=[I Aa]) (ps:=[(0,.tmp 36)]) te63 m k z z z z z z z (by decide) z (by exact (List.forall_mem_cons.2 ⟨z,(List.forall_mem_nil _)⟩)) fun Av Cs Cr a k m e Bh=>?_)
         have At:=ow_bx Bh ([Aa]:List Int) z z z
         refine s_bs (cs:=[(.slice (some ⟨Av,0,none⟩) 1 1)]) (ps:=[(0,.tmp 37)]) te29 m k z z z z z z z (by decide) z (by exact (List.forall_mem_cons.2 ⟨congrArg Array.size (rd_c (Enc.ow_rd At)),(List.forall_mem_nil _)⟩)) fun Cy Dm Ds a k m e Cd=>oE h fun By Be h=>?_
         have Bi:=Enc.ow_agr At (m.a 1 z)
         have Cp:=News.box Cd (m.a 0 z) (by simp) (m:=1)
         have Br:=m.a 2 z
         have m:=m.sel [2,1,0] z (by decide)
         have m:=m.join2
         refine s_appO (F:=Ac) (G:=[Av]) Be te29 z m Ab Br Cp Bi (Agr.refl _ _) k z z z z z z fun Cl Bx Ck a k e m Bs=>pN 1 k z fun a k=>wpList_nil (nm_block (nm_then ?_))
         exact ⟨By,Cl,Bx,Ck,k.keep [0,1,5,6] z,m.sel [0] z (by decide),Bs,h⟩
       refine wp_region_lit (pN 4 k z fun a k=>oE h fun Cu Ak h=>sv k z (r_ixa (Enc.ow_rd Ab) Ak k ts29 z z z) fun a k=>?_)
       obtain ⟨Db,Cg,Dk,Cq,Ax,Bg⟩:=rd_get (Enc.ow_rd Ab) (ix_some Ak).2.2
       obtain ⟨Dl,rfl⟩:∃ v,Cg = [v]:=by obtain ⟨_,_,hq,_⟩:=Cq; exact ⟨_,hq⟩
       refine sv k z (r_ld1 t163 (Ax.agr (m.a 0 z) Bg) k z z) fun a k=>pN 1 k z fun a k=>s_bs (cs:=[I Aa]) (ps:=[(0,.tmp 46)]) te63 m k z z z z z z z (by decide) z (by exact (List.forall_mem_cons.2 ⟨z,(List.forall_mem_nil _)⟩)) fun Ce Cm Cz a k m e Ba=>?_
       have Bo:=ow_bx Ba ([Aa]:List Int) z z z
       obtain ⟨Dc,Ct,m,Ch,Cn⟩:=m.opn 1 z Ab Ak Ax z (M':=[([Ce],Cm)]) z
       refine oE h fun Bu Bb h=>s_appF Bb te63 z m 1 Cn (News.rd (Enc.rd_agr (Enc.ow_rd Bo) (m.a 2 z))) z z k z z z z z z z fun Bf Da Dh a k e m As=>oE h fun Di Dp h=>sv k z (r_ixa (Enc.ow_rd Ab) Ak k ts29 z z z) fun a k=>s_stH1 (α:=List Int) (sz:=1) (cs':=[Bf]) sizeOf63 m 0 Ch 0 k (rd_c (Enc.ow_rd As)) (rd_o (Enc.ow_rd As)) z z z z z z z z z z fun Bm a k e m Cc=>?_
       obtain ⟨Bt,m,Bn⟩:=(m.sel [0,1,2] z (by decide)).cls Cc As
       refine wpList_nil (nm_block (nm_then ?_))
       exact ⟨setx Ae Aj Bu,Af,Bt,Bm,k.keep [0,1,5,6] z,m.sel [0] z (by decide),Bn,h⟩
     exact ⟨(-1),w64 (((Ae.length:Int)) - 1),k.keep [0,1,5,6,7,8] z,m.sel [0] z (by decide),h⟩
   refine wp_exit (ex_then (ex_then (ex_same (nm_then ?_))))
   refine wr (pN 2 k z fun a k=>nn (wp_ret ?_))
   cases h
   exact finR1 k z (RV.tmp k z) ⟨_,Ac,z,m.ext,(Enc.ow_agr Ab (m.a 0 z)),(m.fresh 0 z)⟩
 exact ⟨([]:List (List Int)),(.slice (some ⟨g9,0,none⟩) 0 0),[g9],Bz,0,k.keep [0,1,5,6] z,m.sel [0] z (by decide),Cj,h⟩
theorem c_spec_GroupsOf (fu:Nat) {w0:World} (r1:Request) {Ai:List Value} {F3:List Nat} (Am:rd w0 F3 Ai r1) {r:(List (List Int))}
    (h:d_spec_GroupsOf fu r1 = some r) :
    Calls Tryz.prog 167 #[.agg Ai.toArray] w0 fun e w=>∃ (v0:Value) (G0:List Nat),e = .returned (v0) ∧ Ext [] w0 w ∧ ow w G0 [v0] r ∧ (∀ b ∈ G0,w0.heap.size ≤ b):=by
 refine enter (vs:=[_]) func167 z ntmps167 z fun a k=>?_
 have m:=St.start w0
 obtain ⟨v5,F6,v7,F8,v9,Au,rfl,rfl,Aa,Ag,Af⟩:=Am
 unfold d_spec_GroupsOf at h
 refine wr (s_box (cs:=[I r1.fWay,I r1.fPallet.fW,I r1.fPallet.fD,I r1.fPallet.fH,I r1.fPallet.fGram,I r1.fClasses,v5,v7,I r1.fMaster,v9]) m k z z z z z z fun Ay Bb a k m e Ak=>pN 1 k z fun a k=>nn (wp_seq (d_go [] mixo m z fun Al hMd=>?_)))
 have m:=hMd
 have s:=Ext.refl ([]:List Nat) Al
 refine dt k 0 z (by kernel_rfl) z s (fun _ _ _=>id) (fun w s=>r_fa fa38_3 k z z) fun a k=>dt k 1 z (by kernel_rfl) z s (fun _ _ _=>id) (fun w s=>r_ld1 t134 (r:=[]) (Ak.at ((hMd.step s).a 0 z) 6 1 z z z) k z z) fun a k=>dt k 2 z (by kernel_rfl) z s (fun _ _ _=>id) (fun w s=>r_ldA ta38 (Ak.at ((hMd.step s).a 0 z) 0 10 z z z) z k z z) fun a k=>d_one 3 (by kernel_rfl) z (oE h fun As Ao h=>?_)
 refine s_call k call70 z z z z z (c_spec_Present fu _ (show rd _ _ [I r1.fWay,I r1.fPallet.fW,I r1.fPallet.fD,I r1.fPallet.fH,I r1.fPallet.fGram,I r1.fClasses,v5,v7,I r1.fMaster,v9] (r1:Request) from ⟨_,_,_,_,_,_,z,z,(Enc.rd_agr Aa (m.a00 (Enc.rd_lt Aa))),(Enc.rd_agr Ag (m.a00 (Enc.rd_lt Ag))),(Enc.rd_agr Af (m.a00 (Enc.rd_lt Af)))⟩) Ao) fun Ax Ba hR=>?_
 obtain ⟨Az,Ae,rfl,e,Ad,Ah⟩:=hR
 refine ⟨_,z,fun a k=>?_⟩
 have m:=m.new e Ae (fun b hb=>⟨Ah b hb,Enc.rd_lt (Enc.ow_rd Ad) b hb⟩) (Enc.ow_nd Ad)
 have Aw:=fun (y:Nat) (hy:y ∈ Ae)=>Nat.le_trans s.size (Ah y hy)
 have s:=s.trans e (by simp)
 refine wpList_nil ⟨s,?_⟩
 refine d_one 4 (by kernel_rfl) z (oE h fun Av Ap h=>s_call k call248 z z z z z (c_spec_Groups fu _ _ (Enc.rd_agr Aa (m.a00 (Enc.rd_lt Aa))) (Enc.rd_agr (Enc.ow_rd Ad) (m.a 0 z)) Ap) fun Ar Aq hR=>?_)
 obtain ⟨Bc,Ab,rfl,e,Ac,Aj⟩:=hR
 refine ⟨_,z,fun a k=>?_⟩
 have m:=m.new e Ab (fun b hb=>⟨Aj b hb,Enc.rd_lt (Enc.ow_rd Ac) b hb⟩) (Enc.ow_nd Ac)
 have At:=fun (y:Nat) (hy:y ∈ Ab)=>Nat.le_trans s.size (Aj y hy)
 have s:=s.trans e (by simp)
 refine wpList_nil ⟨s,?_⟩
 refine dN [5] 1 z k (by kernel_rfl) z s (fun _ _ _ _ _=>id) fun a k=>d_done (by kernel_rfl) ((nm_then ?_))
 refine wp_ret ?_
 cases h
 exact finR1 k z (RV.tmp k z) ⟨_,Ab,z,m.ext,(Enc.ow_agr Ac (m.a 0 z)),(m.fresh 0 z)⟩
theorem c_spec_GroupOf (fu:Nat) {w0:World} (Ad:List (List Int)) (Aa:Int) {v2:Value} {F3:List Nat} (Ab:rd w0 F3 [v2] Ad) {r:Int}
    (h:d_spec_GroupOf fu Ad Aa = some r) :
    Calls Tryz.prog 169 #[v2,I Aa] w0 fun e w=>e = .returned (I r) ∧ Ext [] w0 w:=by
 refine enter (vs:=[_,_]) func169 z ntmps169 z fun a k=>?_
 have m:=St.start w0
 unfold d_spec_GroupOf at h
 refine wr (pN 1 k z fun a k=>nn (wp_seq (wr (pN 1 k z fun a k=>nn (wp_block (c_loop (fun n a w=>∃ (Ac:Int),K 19 [(0,v2),(1,I Aa),(5,I Ac)] a ∧ St [] w0 w [] ∧ d_spec_GroupOf_L1 fu Ad Aa n Ac = some r) ?_ ?_ fu _ _ ?_))))))
 · rintro a w ⟨_,_,_,h⟩
   exact nS h
 · rintro Aq a Ao ⟨Ac,k,m,h⟩
   rw [d_spec_GroupOf_L1_s] at h
   unfold d_spec_GroupOf_L1_B at h
   refine wp_seq (wr (pN 2 k z fun a k=>sv k z (r_len (α:=List Int) Ab k underlying29 z z) fun a k=>pN 1 k z fun a k=>nn (cI h k z (fun Ai h=>?_) fun Ai h=>?_)))
   · refine wp_skip (nm_then ?_)
     refine wp_seq (wp_block (wr (pN 2 k z fun a k=>oE h fun As Af h=>sv k z (r_ixa Ab Af k ts29 z z z) fun a k=>?_)))
     obtain ⟨Ap,Ak,Au,Ae,Al,Aj⟩:=rd_get Ab (ix_some Af).2.2
     obtain ⟨Ar,rfl⟩:∃ v,Ak = [v]:=by obtain ⟨_,_,hq,_⟩:=Ae; exact ⟨_,hq⟩
     refine sv k z (r_ld1 t163 (Al.agr (m.a00 (Enc.rd_lt Ab)) Aj) k z z) fun a k=>pN 1 k z fun a k=>oE h fun Am Ah h=>cE k m call249 z z z (c_spec_l1Has fu _ _ (Enc.rd_agr Ae (m.a00 (Enc.rd_lt Ae))) Ah) fun At e a k m=>nn (cI h k z (fun Ag h=>?_) fun Ag h=>?_)
     · refine wr (pN 2 k z fun a k=>nn (wp_ret (rt_block (rt_then (rt_then (rt_block (rt_then ?_)))))))
       refine fS h k m z z
     refine wp_skip (nm_block (nm_then ?_))
     refine wp_region_lit (pN 3 k z fun a k=>nn ?_)
     exact ⟨w64 (Ac + 1),k.keep [0,1,5] z,m.sel [] z (by decide),h⟩
   refine wp_exit (ex_then (ex_then (ex_same (nm_then ?_))))
   refine wr (pN 1 k z fun a k=>nn (wp_ret (fS h k m z z)))
 exact ⟨0,k.keep [0,1,5] z,m.sel [] z (by decide),h⟩
theorem c_spec_l15Group (fu:Nat) {w0:World} (r1:Request) (Ad:List Int) (x9:Plan) {Bf:List Value} {F3:List Nat} (Cb:rd w0 F3 Bf r1) {v6:Value} {F7:List Nat} (At:rd w0 F7 [v6] Ad) {Bi:List Value} {Ch:List Nat} (Cq:rd w0 Ch Bi x9) {r:Bool}
    (h:d_spec_l15Group fu r1 Ad x9 = some r) :
    Calls Tryz.prog 108 #[.agg Bf.toArray,v6,.agg Bi.toArray] w0 fun e w=>e = .returned (.bool (r)) ∧ Ext [] w0 w:=by
 refine enter (vs:=[_,_,_]) func108 z ntmps108 z fun a k=>?_
 have m:=St.start w0
 obtain ⟨Aw,Dp,Av,Cu,Au,Db,rfl,rfl,Al,Ak,Am⟩:=Cb
 obtain ⟨Br,Dv,Ce,Da,rfl,rfl,Ag,Do⟩:=Cq
 unfold d_spec_l15Group at h
 refine wr (s_box (cs:=[I r1.fWay,I r1.fPallet.fW,I r1.fPallet.fD,I r1.fPallet.fH,I r1.fPallet.fGram,I r1.fClasses,Aw,Av,I r1.fMaster,Au]) m k z z z z z z fun Ac As a k m e Be=>s_box (cs:=[Br,Ce]) m k z z z z z z fun Ab Ap a k m e Az=>pN 1 k z fun a k=>nn (wr (sv k z (r_ldB ta38 m 1 Be 0 k z z z z z z) fun a k=>oE h fun Af Bu h=>?_)))
 refine s_call k call167 z z z z z (c_spec_GroupsOf fu _ (show rd _ _ [I r1.fWay,I r1.fPallet.fW,I r1.fPallet.fD,I r1.fPallet.fH,I r1.fPallet.fGram,I r1.fClasses,Aw,Av,I r1.fMaster,Au] (r1:Request) from ⟨_,_,_,_,_,_,z,z,(Enc.rd_agr Al (m.a00 (Enc.rd_lt Al))),(Enc.rd_agr Ak (m.a00 (Enc.rd_lt Ak))),(Enc.rd_agr Am (m.a00 (Enc.rd_lt Am)))⟩) Bu) fun Dg Aq hR=>?_
 obtain ⟨Ar,Ao,rfl,e,Bc,Bz⟩:=hR
 refine ⟨_,z,fun a k=>?_⟩
 have m:=m.new e Ao (fun b hb=>⟨Bz b hb,Enc.rd_lt (Enc.ow_rd Bc) b hb⟩) (Enc.ow_nd Bc)
 refine pN 1 k z fun a k=>nn (wp_seq (wr (pN 1 k z fun a k=>nn (wp_block (c_loop (fun n a w=>∃ (Aa:Int),K 58 [(1,v6),(3,.pointer (some (⟨Ac,0,none⟩:Addr))),(5,.pointer (some (⟨Ab,0,none⟩:Addr))),(7,Ar),(8,I Aa)] a ∧ St [] w0 w [([Ac],As),([Ab],Ap),(Ao,Aq)] ∧ d_spec_l15Group_L2 fu r1 Ad x9 Af n Aa = some r) ?_ ?_ fu _ _ ?_)))))
 · rintro a w ⟨_,_,_,h⟩
   exact nS h
 · rintro Ay a Du ⟨Aa,k,m,h⟩
   rw [d_spec_l15Group_L2_s] at h
   unfold d_spec_l15Group_L2_B at h
   refine wp_seq (wr (pN 1 k z fun a k=>sv k z (r_fa fa58_0 k z z) fun a k=>sv k z (r_ldb t155 m 1 Az 0 k z z z z z) fun a k=>sv k z (r_len (α:=Carton) Ag k underlying55 z z) fun a k=>pN 1 k z fun a k=>nn (cI h k z (fun Ca h=>?_) fun Ca h=>?_)))
   · refine wp_skip (nm_then ?_)
     refine c_cut (fun a w=>K 58 [(1,v6),(3,.pointer (some (⟨Ac,0,none⟩:Addr))),(5,.pointer (some (⟨Ab,0,none⟩:Addr))),(7,Ar),(8,I Aa)] a ∧ St [] w0 w [([Ac],As),([Ab],Ap),(Ao,Aq)] ∧ d_spec_l15Group_J1 fu (d_spec_l15Group_L2 fu r1 Ad x9 Af Ay) Aa = some r) ?_ ?_
     · rintro a Cz ⟨k,m,h⟩
       unfold d_spec_l15Group_J1 at h
       refine wp_region_lit (pN 3 k z fun a k=>nn ?_)
       exact ⟨w64 (Aa + 1),k.keep [1,3,5,7,8] z,m.sel [0,1,2] z (by decide),h⟩
     refine wp_block (wr (pN 1 k z fun a k=>nn (wp_block (c_loop (fun n a w=>∃ (Ah:Int),K 58 [(1,v6),(3,.pointer (some (⟨Ac,0,none⟩:Addr))),(5,.pointer (some (⟨Ab,0,none⟩:Addr))),(7,Ar),(8,I Aa),(9,I Ah)] a ∧ St [] w0 w [([Ac],As),([Ab],Ap),(Ao,Aq)] ∧ d_spec_l15Group_L1 fu (d_spec_l15Group_L2 fu r1 Ad x9 Af Ay) r1 Ad x9 Af Aa n Ah = some r) ?_ ?_ fu _ _ ?_))))
     · rintro a w ⟨_,_,_,h⟩
       exact nS h
     · rintro Bg a Ct ⟨Ah,k,m,h⟩
       rw [d_spec_l15Group_L1_s] at h
       unfold d_spec_l15Group_L1_B at h
       refine wp_seq (wr (pN 1 k z fun a k=>sv k z (r_fa fa58_0 k z z) fun a k=>sv k z (r_ldb t155 m 1 Az 0 k z z z z z) fun a k=>pN 1 k z fun a k=>oE h fun Ds Bd h=>sv k z (r_ixa Ag Bd k ts55 z z z) fun a k=>sv k z (r_fa fa83_2 k z z) fun a k=>?_))
       obtain ⟨Cw,Dr,Dn,Bm,Bk,Bl⟩:=rd_get Ag (ix_some Bd).2.2
       obtain ⟨Dd,_,rfl,rfl,Ax⟩:=Bm
       refine sv k z (r_ld1 t163 ((Bk.agr (m.a00 (Enc.rd_lt Ag)) Bl).fld 2 1 (Nat.le_of_ble_eq_true z)) k z z) fun a k=>sv k z (r_len (α:=Int) Ax k underlying63 z z) fun a k=>pN 1 k z fun a k=>nn (cI h k z (fun Bs h=>?_) fun Bs h=>?_)
       · refine wp_skip (nm_then ?_)
         refine c_cut (fun a w=>K 58 [(1,v6),(3,.pointer (some (⟨Ac,0,none⟩:Addr))),(5,.pointer (some (⟨Ab,0,none⟩:Addr))),(7,Ar),(8,I Aa),(9,I Ah)] a ∧ St [] w0 w [([Ac],As),([Ab],Ap),(Ao,Aq)] ∧ d_spec_l15Group_J2 fu (d_spec_l15Group_L1 fu (d_spec_l15Group_L2 fu r1 Ad x9 Af Ay) r1 Ad x9 Af Aa Bg) Ah = some r) ?_ ?_
         · rintro a Di ⟨k,m,h⟩
           unfold d_spec_l15Group_J2 at h
           refine wp_region_lit (pN 3 k z fun a k=>nn ?_)
           exact ⟨w64 (Ah + 1),k.keep [1,3,5,7,8,9] z,m.sel [0,1,2] z (by decide),h⟩
         refine wp_block (c_cut (fun a w=>∃ (Ae:Item) (Ba:Nat) (Bb:World),K 58 [(1,v6),(3,.pointer (some (⟨Ac,0,none⟩:Addr))),(5,.pointer (some (⟨Ab,0,none⟩:Addr))),(7,Ar),(8,I Aa),(9,I Ah),(10,.pointer (some (⟨Ba,0,none⟩:Addr)))] a ∧ St [] w0 w [([Ac],As),([Ab],Ap),(Ao,Aq),([Ba],Bb)] ∧ bx Bb Ba [I Ae.fId,I Ae.fW,I Ae.fH,I Ae.fD,I Ae.fGram,I Ae.fClass,I Ae.fCount] 158 ∧ d_spec_l15Group_J3 fu (d_spec_l15Group_L1 fu (d_spec_l15Group_L2 fu r1 Ad x9 Af Ay) r1 Ad x9 Af Aa Bg) x9 Af Aa Ah Ae = some r) ?_ ?_)
         · rintro a Cs ⟨Ae,Ba,Bb,k,m,Bo,h⟩
           unfold d_spec_l15Group_J3 at h
           refine wp_seq (d_go [] mixo m z fun Ck hMd=>?_)
           have m:=hMd
           have s:=Ext.refl ([]:List Nat) Ck
           refine dN [0,6] 2 z k (by kernel_rfl) z s (fun _ _ _ _ _=>id) fun a k=>dt k 1 z (by kernel_rfl) z s (fun _ _ _=>id) (fun w s=>r_fa fa158_5 k z z) fun a k=>dt k 2 z (by kernel_rfl) z s (fun _ _ _=>id) (fun w s=>r_ld1 t13 (r:=[]) (Bo.at ((hMd.step s).a 3 z) 5 1 z z z) k z z) fun a k=>dt k 4 z (by kernel_rfl) z s (fun _ _ _=>id) (fun w s=>r_fa fa58_0 k z z) fun a k=>dt k 5 z (by kernel_rfl) z s (fun _ _ _=>id) (fun w s=>r_ld1 t155 (r:=[]) (Az.at ((hMd.step s).a 1 z) 0 1 z z z) k z z) fun a k=>oE h fun Df Bj h=>dt k 7 z (by kernel_rfl) z s (fun _ _ _=>id) (fun w s=>r_ixa Ag Bj k ts55 z z z) fun a k=>dt k 8 z (by kernel_rfl) z s (fun _ _ _=>id) (fun w s=>r_fa fa83_1 k z z) fun a k=>?_
           obtain ⟨Dj,Dk,Cx,By,Cg,Cm⟩:=rd_get Ag (ix_some Bj).2.2
           obtain ⟨Dw,_,rfl,rfl,Dl⟩:=By
           refine dt k 9 z (by kernel_rfl) z s (fun _ _ _=>id) (fun w s=>r_ld1 t13 ((Cg.agr ((hMd.step s).a00 (Enc.rd_lt Ag)) Cm).fld 1 1 (Nat.le_of_ble_eq_true z)) k z z) fun a k=>d_one 3 (by kernel_rfl) z (oE h fun Dt Bn h=>cE k m call169 z z z (c_spec_GroupOf fu _ _ (Enc.rd_agr (Enc.ow_rd Bc) (m.a 2 z)) Bn) fun Cy e a k m=>?_)
           have s:=s.trans e (by simp)
           refine wpList_nil ⟨s,?_⟩
           refine dN [10] 1 z k (by kernel_rfl) z s (fun _ _ _ _ _=>id) fun a k=>d_done (by kernel_rfl) ((nm_then ?_))
           refine cI h k z (fun Ci h=>?_) fun Ci h=>?_
           · refine wr (pN 1 k z fun a k=>nn (wp_ret (rt_block (rt_then (rt_then (rt_block (rt_block (rt_then (rt_then (rt_block (rt_then ?_)))))))))))
             refine fS h k m z z
           refine wp_skip (nm_block (nm_then ?_))
           exact ⟨k.keep [1,3,5,7,8,9] z,m.sel [0,1,2] z (by decide),h⟩
         refine d_go [] mixo m z fun Cp hMd=>?_
         have m:=hMd
         have s:=Ext.refl ([]:List Nat) Cp
         refine dN [1,4,8] 3 z k (by kernel_rfl) z s (fun _ _ _ _ _=>id) fun a k=>dt k 0 z (by kernel_rfl) z s (fun _ _ _=>id) (fun w s=>r_ldA ta38 (Be.at ((hMd.step s).a 0 z) 0 10 z z z) z k z z) fun a k=>dt k 2 z (by kernel_rfl) z s (fun _ _ _=>id) (fun w s=>r_fa fa58_0 k z z) fun a k=>dt k 3 z (by kernel_rfl) z s (fun _ _ _=>id) (fun w s=>r_ld1 t155 (r:=[]) (Az.at ((hMd.step s).a 1 z) 0 1 z z z) k z z) fun a k=>oE h fun Cv Dx h=>dt k 5 z (by kernel_rfl) z s (fun _ _ _=>id) (fun w s=>r_ixa Ag Bd k ts55 z z z) fun a k=>dt k 6 z (by kernel_rfl) z s (fun _ _ _=>id) (fun w s=>r_fa fa83_2 k z z) fun a k=>?_
         refine dt k 7 z (by kernel_rfl) z s (fun _ _ _=>id) (fun w s=>r_ld1 t163 ((Bk.agr ((hMd.step s).a00 (Enc.rd_lt Ag)) Bl).fld 2 1 (Nat.le_of_ble_eq_true z)) k z z) fun a k=>oE h fun Dm Bh h=>dt k 9 z (by kernel_rfl) z s (fun _ _ _=>id) (fun w s=>r_ixa Ax Bh k ts63 z z z) fun a k=>dt k 10 z (by kernel_rfl) z s (fun _ _ _=>id) (fun w s=>r_lde1 Ax ((hMd.step s).a00 (Enc.rd_lt Ax)) Bh 0 t13 k z z z z) fun a k=>d_two 11 15 (by kernel_rfl) z z ?_ ?_ 
         · refine oE h fun Ai Cc h=>cE k m call168 z z z (c_spec_l6Item fu _ _ _ (show rd _ _ [I r1.fWay,I r1.fPallet.fW,I r1.fPallet.fD,I r1.fPallet.fH,I r1.fPallet.fGram,I r1.fClasses,Aw,Av,I r1.fMaster,Au] (r1:Request) from ⟨_,_,_,_,_,_,z,z,(Enc.rd_agr Al (m.a00 (Enc.rd_lt Al))),(Enc.rd_agr Ak (m.a00 (Enc.rd_lt Ak))),(Enc.rd_agr Am (m.a00 (Enc.rd_lt Am)))⟩) (Enc.rd_agr At (m.a00 (Enc.rd_lt At))) Cc) fun De e a k m=>?_
           have s:=s.trans e (by simp)
           refine wpList_nil ⟨s,?_⟩
           refine dN [12,13,14] 3 z k (by kernel_rfl) z s (fun _ _ _ _ _=>id) fun a k=>d_one 15 (by kernel_rfl) z (s_allocN (cs:=[I 0,I 0,I 0,I 0,I 0,I 0,I 0]) m k zeroValue158 z z z z z fun Cn Dc a k m e Cd Cr=>?_)
           have Cj:=lo1 (Nat.le_trans s.size Cr)
           have s:=s.trans e (by simp)
           refine wpList_nil ⟨s,?_⟩
           refine d_one 16 (by kernel_rfl) z (s_stb (cs':=[I Ai.1.fId,I Ai.1.fW,I Ai.1.fH,I Ai.1.fD,I Ai.1.fGram,I Ai.1.fClass,I Ai.1.fCount]) sizeOf158 m 0 Cd 0 k z z z z z z z z z z z fun Bx a k e m Co=>?_)
           have s:=s.trans e (fun y hy=>Or.inr (Cj y hy))
           refine wpList_nil ⟨s,?_⟩
           refine dN [17] 1 z k (by kernel_rfl) z s (fun _ _ _ _ _=>id) fun a k=>d_done (by kernel_rfl) ?_
           have k:=k.keep [1,3,5,7,8,9,10] z
           refine (nm_then ?_)
           exact ⟨Ai.1,Cn,Bx,k.keep [1,3,5,7,8,9,10] z,m.sel [1,2,3,0] z (by decide),Co,h⟩
         refine s_allocN (cs:=[I 0,I 0,I 0,I 0,I 0,I 0,I 0]) m k zeroValue158 z z z z z fun Bw Dh a k m e Cf Bp=>?_
         have Bt:=lo1 (Nat.le_trans s.size Bp)
         have s:=s.trans e (by simp)
         refine wpList_nil ⟨s,?_⟩
         refine d_one 11 (by kernel_rfl) z (oE h fun Aj Cl h=>cE k m call168 z z z (c_spec_l6Item fu _ _ _ (show rd _ _ [I r1.fWay,I r1.fPallet.fW,I r1.fPallet.fD,I r1.fPallet.fH,I r1.fPallet.fGram,I r1.fClasses,Aw,Av,I r1.fMaster,Au] (r1:Request) from ⟨_,_,_,_,_,_,z,z,(Enc.rd_agr Al (m.a00 (Enc.rd_lt Al))),(Enc.rd_agr Ak (m.a00 (Enc.rd_lt Ak))),(Enc.rd_agr Am (m.a00 (Enc.rd_lt Am)))⟩) (Enc.rd_agr At (m.a00 (Enc.rd_lt At))) Cl) fun Dq e a k m=>?_)
         have s:=s.trans e (by simp)
         refine wpList_nil ⟨s,?_⟩
         refine dN [12,13,14] 3 z k (by kernel_rfl) z s (fun _ _ _ _ _=>id) fun a k=>d_one 16 (by kernel_rfl) z (s_stb (cs':=[I Aj.1.fId,I Aj.1.fW,I Aj.1.fH,I Aj.1.fD,I Aj.1.fGram,I Aj.1.fClass,I Aj.1.fCount]) sizeOf158 m 0 Cf 0 k z z z z z z z z z z z fun Bq a k e m Bv=>?_)
         have s:=s.trans e (fun y hy=>Or.inr (Bt y hy))
         refine wpList_nil ⟨s,?_⟩
         refine dN [17] 1 z k (by kernel_rfl) z s (fun _ _ _ _ _=>id) fun a k=>d_done (by kernel_rfl) ?_
         have k:=k.keep [1,3,5,7,8,9,10] z
         refine (nm_then ?_)
         exact ⟨Aj.1,Bw,Bq,k.keep [1,3,5,7,8,9,10] z,m.sel [1,2,3,0] z (by decide),Bv,h⟩
       refine wp_exit (ex_then (ex_then (ex_same (nm_block (nm_then ?_)))))
       exact ⟨k.keep [1,3,5,7,8] z,m.sel [0,1,2] z (by decide),h⟩
     exact ⟨0,k.keep [1,3,5,7,8,9] z,m.sel [0,1,2] z (by decide),h⟩
   refine wp_exit (ex_then (ex_then (ex_same (nm_then ?_))))
   refine wr (pN 1 k z fun a k=>nn (wp_ret (fS h k m z z)))
 exact ⟨0,k.keep [1,3,5,7,8] z,m.sel [2,1,0] z (by decide),h⟩
theorem c_spec_Cheapest (fu:Nat) {w0:World} (r1:Request) (Ar:List Int) {Az:List Value} {F3:List Nat} (Bk:rd w0 F3 Az r1) {v6:Value} {F7:List Nat} (Ba:rd w0 F7 [v6] Ar) {r:Typ × Bool}
    (h:d_spec_Cheapest fu r1 Ar = some r) :
    Calls Tryz.prog 204 #[.agg Az.toArray,v6] w0 fun e w=>e = .returned (.tuple #[.agg (Flat.e r.1).toArray,.bool (r.2)]) ∧ Ext [] w0 w:=by
 refine enter (vs:=[_,_]) func204 z ntmps204 z fun a k=>?_
 have m:=St.start w0
 obtain ⟨v9,Ca,Ax,Cg,Bb,Bx,rfl,rfl,Av,Aj,Ay⟩:=Bk
 unfold d_spec_Cheapest at h
 refine wr (s_box (cs:=[I r1.fWay,I r1.fPallet.fW,I r1.fPallet.fD,I r1.fPallet.fH,I r1.fPallet.fGram,I r1.fClasses,v9,Ax,I r1.fMaster,Bb]) m k z z z z z z fun As Au a k m e At=>s_alloc (cs:=[I 0,I 0,I 0,I 0,I 0,I 0,I 0]) m k zeroValue79 z z z z z fun Aq Aw a k m e Bv=>pN 1 k z fun a k=>nn (wr (sv k z (r_build bt79 k (cs:=#[I 0,I 0,I 0,I 0,I 0,I 0,I 0]) (ps:=[]) z z (by kernel_rfl)) fun a k=>?_)))
 refine s_alloc (cs:=[I 0,I 0,I 0,I 0,I 0,I 0,I 0]) m k zeroValue79 z z z z z fun Ag Cb a k m e Bq=>s_stb (cs':=[I 0,I 0,I 0,I 0,I 0,I 0,I 0]) sizeOf79 m 0 Bq 0 k z z z z z z z z z z z fun Bn a k e m Bh=>nn (wr (pN 1 k z fun a k=>nn (wp_seq (wr (pN 1 k z fun a k=>nn (wp_block ?_))))))
 refine c_loop (fun n a w=>∃ (Ab:Typ) (Ah:World) (Ae:Bool) (Ai:Int),K 54 [(1,v6),(2,.pointer (some (⟨As,0,none⟩:Addr))),(4,.pointer (some (⟨Aq,0,none⟩:Addr))),(6,.pointer (some (⟨Ag,0,none⟩:Addr))),(7,.bool (Ae)),(8,I Ai)] a ∧ St [] w0 w [([As],Au),([Aq],Aw),([Ag],Ah)] ∧ bx Ah Ag [I Ab.fId,I Ab.fW,I Ab.fH,I Ab.fD,I Ab.fTare,I Ab.fGram,I Ab.fCost] 79 ∧ d_spec_Cheapest_L1 fu r1 Ar n Ab Ae Ai = some r) ?_ ?_ fu _ _ ?_
 · rintro a w ⟨_,_,_,_,_,_,_,h⟩
   exact nS h
 · rintro Bp a Cf ⟨Ab,Ah,Ae,Ai,k,m,Ad,h⟩
   rw [d_spec_Cheapest_L1_s] at h
   unfold d_spec_Cheapest_L1_B at h
   refine wp_seq (wr (pN 1 k z fun a k=>sv k z (r_fa fa38_4 k z z) fun a k=>sv k z (r_ldb t135 m 0 At 7 k z z z z z) fun a k=>sv k z (r_len (α:=Typ) Aj k underlying35 z z) fun a k=>pN 1 k z fun a k=>nn (cI h k z (fun Bj h=>?_) fun Bj h=>?_)))
   · refine wp_skip (nm_then ?_)
     refine c_cut (fun a w=>∃ (Ac:Typ) (Ao:World) (Ap:Bool),K 54 [(1,v6),(2,.pointer (some (⟨As,0,none⟩:Addr))),(4,.pointer (some (⟨Aq,0,none⟩:Addr))),(6,.pointer (some (⟨Ag,0,none⟩:Addr))),(7,.bool (Ap)),(8,I Ai)] a ∧ St [] w0 w [([As],Au),([Aq],Aw),([Ag],Ao)] ∧ bx Ao Ag [I Ac.fId,I Ac.fW,I Ac.fH,I Ac.fD,I Ac.fTare,I Ac.fGram,I Ac.fCost] 79 ∧ d_spec_Cheapest_J1 fu (d_spec_Cheapest_L1 fu r1 Ar Bp) Ai Ac Ap = some r) ?_ ?_
     · rintro a Bw ⟨Ac,Ao,Ap,k,m,Bd,h⟩
       unfold d_spec_Cheapest_J1 at h
       refine wp_region_lit (pN 3 k z fun a k=>nn ?_)
       exact ⟨Ac,Ao,Ap,w64 (Ai + 1),k.keep [1,2,4,6,7,8] z,m.sel [0,1,2] z (by decide),Bd,h⟩
     refine wp_block (wr (sv k z (r_fa fa38_4 k z z) fun a k=>sv k z (r_ldb t135 m 0 At 7 k z z z z z) fun a k=>pN 1 k z fun a k=>oE h fun Aa Bc h=>sv k z (r_ixa Aj Bc k ts35 z z z) fun a k=>sv k z (r_lde Aj (m.a00 (Enc.rd_lt Aj)) Bc ta79 k z z) fun a k=>s_alloc (cs:=[I 0,I 0,I 0,I 0,I 0,I 0,I 0]) m k zeroValue79 z z z z z fun By Bz a k m e Be=>s_stb (cs':=[I Aa.fId,I Aa.fW,I Aa.fH,I Aa.fD,I Aa.fTare,I Aa.fGram,I Aa.fCost]) sizeOf79 m 0 Be 0 k z z z z z z z z z z z fun Cc a k e m Af=>nn (wp_seq (wr ?_))))
     refine sv k z (r_ldB ta38 m 1 At 0 k z z z z z z) fun a k=>pN 1 k z fun a k=>sv k z (r_ldB ta79 m 0 Af 0 k z z z z z z) fun a k=>oE h fun Ch Br h=>cE k m call212 z z z (c_spec_Holds fu _ _ (Aa:Typ) (show rd _ _ [I r1.fWay,I r1.fPallet.fW,I r1.fPallet.fD,I r1.fPallet.fH,I r1.fPallet.fGram,I r1.fClasses,v9,Ax,I r1.fMaster,Bb] (r1:Request) from ⟨_,_,_,_,_,_,z,z,(Enc.rd_agr Av (m.a00 (Enc.rd_lt Av))),(Enc.rd_agr Aj (m.a00 (Enc.rd_lt Aj))),(Enc.rd_agr Ay (m.a00 (Enc.rd_lt Ay)))⟩) (Enc.rd_agr Ba (m.a00 (Enc.rd_lt Ba))) Br) fun Cd e a k m=>pN 1 k z fun a k=>nn (cI h k z (fun Bm h=>?_) fun Bm h=>?_)
     · refine wp_exit (ex_then (ex_same (nm_then ?_)))
       exact ⟨Ab,Ah,Ae,k.keep [1,2,4,6,7,8] z,m.sel [1,2,3] z (by decide),Ad,h⟩
     refine wp_skip (nm_then ?_)
     refine wr (pN 3 k z fun a k=>bsplit (!Ae) (fun Am=>?_) (fun Am=>?_))
     · have h:=bif_t Am h
       refine rB k 30 z Am fun k=>pN 20 k z fun a k=>?_
       have k:=k.keep [1,2,4,6,7,8,9,50] z
       refine nn (wp_cond_true (k.ev z) (wr (sv k z (r_ldB ta79 m 0 Af 0 k z z z z z z) fun a k=>s_stb (cs':=[I Aa.fId,I Aa.fW,I Aa.fH,I Aa.fD,I Aa.fTare,I Aa.fGram,I Aa.fCost]) sizeOf79 m 3 Ad 0 k z z z z z z z z z z z fun Bi a k e m Bu=>nn (wp_region_lit (pN 1 k z fun a k=>wpList_nil (nm_block (nm_then ?_)))))))
       exact ⟨Aa,Bi,true,k.keep [1,2,4,6,7,8] z,m.sel [1,2,3] z (by decide),Bu,h⟩
     have h:=bif_f Am h
     refine rB k 30 z Am fun k=>sv k z (r_fa fa79_6 k z z) fun a k=>sv k z (r_ldb t13 m 0 Af 6 k z z z z z) fun a k=>sv k z (r_fa fa79_6 k z z) fun a k=>sv k z (r_ldb t13 m 3 Ad 6 k z z z z z) fun a k=>pN 3 k z fun a k=>bsplit (decide (Aa.fCost < Ab.fCost)) (fun Ak=>?_) (fun Ak=>?_)
     · have h:=bif_t Ak h
       refine rB k 37 z Ak fun k=>pN 13 k z fun a k=>?_
       have k:=k.keep [1,2,4,6,7,8,9,50] z
       refine nn (wp_cond_true (k.ev z) (wr (sv k z (r_ldB ta79 m 0 Af 0 k z z z z z z) fun a k=>s_stb (cs':=[I Aa.fId,I Aa.fW,I Aa.fH,I Aa.fD,I Aa.fTare,I Aa.fGram,I Aa.fCost]) sizeOf79 m 3 Ad 0 k z z z z z z z z z z z fun Bt a k e m Bg=>nn (wp_region_lit (pN 1 k z fun a k=>wpList_nil (nm_block (nm_then ?_)))))))
       exact ⟨Aa,Bt,true,k.keep [1,2,4,6,7,8] z,m.sel [1,2,3] z (by decide),Bg,h⟩
     have h:=bif_f Ak h
     refine rB k 37 z Ak fun k=>sv k z (r_fa fa79_6 k z z) fun a k=>sv k z (r_ldb t13 m 0 Af 6 k z z z z z) fun a k=>sv k z (r_fa fa79_6 k z z) fun a k=>sv k z (r_ldb t13 m 3 Ad 6 k z z z z z) fun a k=>pN 2 k z fun a k=>bsplit (Aa.fCost == Ab.fCost) (fun Al=>?_) (fun Al=>?_)
     · have h:=bif_t Al h
       refine rB k 43 z Al fun k=>sv k z (r_fa fa79_0 k z z) fun a k=>sv k z (r_ldb t13 m 0 Af 0 k z z z z z) fun a k=>sv k z (r_fa fa79_0 k z z) fun a k=>sv k z (r_ldb t13 m 3 Ad 0 k z z z z z) fun a k=>pN 3 k z fun a k=>?_
       have k:=k.keep [1,2,4,6,7,8,9,50] z
       refine nn (cI h k z (fun Bf h=>?_) fun Bf h=>?_)
       · refine wr (sv k z (r_ldB ta79 m 0 Af 0 k z z z z z z) fun a k=>s_stb (cs':=[I Aa.fId,I Aa.fW,I Aa.fH,I Aa.fD,I Aa.fTare,I Aa.fGram,I Aa.fCost]) sizeOf79 m 3 Ad 0 k z z z z z z z z z z z fun Bo a k e m Bs=>nn (wp_region_lit (pN 1 k z fun a k=>wpList_nil (nm_block (nm_then ?_)))))
         exact ⟨Aa,Bo,true,k.keep [1,2,4,6,7,8] z,m.sel [1,2,3] z (by decide),Bs,h⟩
       refine wp_skip (nm_block (nm_then ?_))
       exact ⟨Ab,Ah,Ae,k.keep [1,2,4,6,7,8] z,m.sel [1,2,3] z (by decide),Ad,h⟩
     have h:=bif_f Al h
     refine rB k 43 z Al fun k=>pN 7 k z fun a k=>?_
     have k:=k.keep [1,2,4,6,7,8,9,50] z
     refine nn (wp_cond_false (k.ev z) (wp_skip (nm_block (nm_then ?_))))
     exact ⟨Ab,Ah,Ae,k.keep [1,2,4,6,7,8] z,m.sel [1,2,3] z (by decide),Ad,h⟩
   refine wp_exit (ex_then (ex_then (ex_same (nm_then ?_))))
   refine wr (sv k z (r_ldB ta79 m 2 Ad 0 k z z z z z z) fun a k=>pN 1 k z fun a k=>s_stb (cs':=[I Ab.fId,I Ab.fW,I Ab.fH,I Ab.fD,I Ab.fTare,I Ab.fGram,I Ab.fCost]) sizeOf79 m 1 Bv 0 k z z z z z z z z z z z fun Ce a k e m Bl=>pN 1 k z fun a k=>nn (wp_ret ?_))
   cases h
   exact finR2 k z (RV.cA k z ta79 (Bl.at (m.a 1 z) 0 7 z z z) z) (RV.tmp k z) ⟨z,m.ext⟩
 exact ⟨(⟨0,0,0,0,0,0,0⟩:Typ),Bn,false,0,k.keep [1,2,4,6,7,8] z,m.sel [2,1,0] z (by decide),Bh,h⟩

end Go.Proofs.YtkkfmjpbiimkbaaGreat
