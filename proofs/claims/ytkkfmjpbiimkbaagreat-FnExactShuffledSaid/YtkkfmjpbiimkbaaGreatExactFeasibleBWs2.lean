/- FnExactFeasible: the walks of functions that it reaches (ExactFeasibleBWs,part 2). Printed by gen.py. -/
import Derived.Test.YtkkfmjpbiimkbaaGreatExactFeasibleBWs1
set_option maxRecDepth 20000
set_option linter.unusedSimpArgs false
set_option linter.unusedVariables false
namespace Go.Proofs.YtkkfmjpbiimkbaaGreat
open Go Go.RowKit
open Enc (rd ow)
open Arg (argv)
open Ret (retv)
open Go.Proofs.Tryz

theorem c_spec_l13Carton (fu:Nat) {w0:World} (x1:Carton) {Ai:List Value} {F3:List Nat} (Al:rd w0 F3 Ai x1) {r:Bool}
    (h:d_spec_l13Carton fu x1 = some r) :
    Calls Tryz.prog 210 #[.agg Ai.toArray] w0 fun e w=>e = .returned (.bool (r)) ∧ Ext [] w0 w:=by
 refine enter (vs:=[_]) func210 z ntmps210 z fun a k=>?_
 have m:=St.start w0
 obtain ⟨v5,_,rfl,rfl,Aa⟩:=Al
 unfold d_spec_l13Carton at h
 refine wr (s_box (cs:=[I x1.fType,I x1.fGroup,v5]) m k z z z z z z fun b7 w9 a k m e Ab=>pN 1 k z fun a k=>nn (c_cut (fun a w=>K 52 [(1,.pointer (some (⟨b7,0,none⟩:Addr)))] a ∧ St [] w0 w [([b7],w9)] ∧ d_spec_l13Carton_J2 fu x1 = some r) ?_ ?_))
 · rintro a Ay ⟨k,m,h⟩
   unfold d_spec_l13Carton_J2 at h
   refine wp_seq (wr (pN 1 k z fun a k=>nn (wp_block (c_loop (fun n a w=>∃ (Ac:Int),K 52 [(1,.pointer (some (⟨b7,0,none⟩:Addr))),(3,I Ac)] a ∧ St [] w0 w [([b7],w9)] ∧ d_spec_l13Carton_L1 fu x1 n Ac = some r) ?_ ?_ fu _ _ ?_))))
   · rintro a w ⟨_,_,_,h⟩
     exact nS h
   · rintro Au a Ax ⟨Ac,k,m,h⟩
     rw [d_spec_l13Carton_L1_s] at h
     unfold d_spec_l13Carton_L1_B at h
     refine wp_seq (wr (pN 1 k z fun a k=>sv k z (r_fa fa83_2 k z z) fun a k=>sv k z (r_ldb t163 m 0 Ab 2 k z z z z z) fun a k=>sv k z (r_len (α:=Int) Aa k underlying63 z z) fun a k=>pN 1 k z fun a k=>nn (cI h k z (fun Av h=>?_) fun Av h=>?_)))
     · refine wp_skip (nm_then ?_)
       refine c_cut (fun a w=>K 52 [(1,.pointer (some (⟨b7,0,none⟩:Addr))),(3,I Ac)] a ∧ St [] w0 w [([b7],w9)] ∧ d_spec_l13Carton_J1 fu (d_spec_l13Carton_L1 fu x1 Au) Ac = some r) ?_ ?_
       · rintro a Az ⟨k,m,h⟩
         unfold d_spec_l13Carton_J1 at h
         refine wp_region_lit (pN 3 k z fun a k=>nn ?_)
         exact ⟨w64 (Ac + 1),k.keep [1,3] z,m.sel [0] z (by decide),h⟩
       refine wp_block (wp_seq (d_go [] mixo m z fun Ao hMd=>?_))
       have m:=hMd
       have s:=Ext.refl ([]:List Nat) Ao
       refine dN [2] 1 z k (by kernel_rfl) z s (fun _ _ _ _ _=>id) fun a k=>dt k 0 z (by kernel_rfl) z s (fun _ _ _=>id) (fun w s=>r_fa fa83_2 k z z) fun a k=>dt k 1 z (by kernel_rfl) z s (fun _ _ _=>id) (fun w s=>r_ld1 t163 (r:=[]) (Ab.at ((hMd.step s).a 0 z) 2 1 z z z) k z z) fun a k=>oE h fun Ba Ah h=>dt k 3 z (by kernel_rfl) z s (fun _ _ _=>id) (fun w s=>r_ixa Aa Ah k ts63 z z z) fun a k=>dt k 4 z (by kernel_rfl) z s (fun _ _ _=>id) (fun w s=>r_lde1 Aa ((hMd.step s).a00 (Enc.rd_lt Aa)) Ah 0 t13 k z z z z) fun a k=>d_one 5 (by kernel_rfl) z (oE h fun Ap At h=>cE k m call130 z z z (c_spec_l1In fu _ _ _  At) fun Be e a k m=>?_)
       have s:=s.trans e (by simp)
       refine wpList_nil ⟨s,?_⟩
       refine dN [6,7] 2 z k (by kernel_rfl) z s (fun _ _ _ _ _=>id) fun a k=>bsplit (!Ap) (fun Af=>?_) (fun Af=>?_)
       · have h:=bif_t Af h
         refine rB k 34 z Af fun k=>dN [8,9,10,11,12,13,14,15,16,17,18,19,20,21,22,23,24] 17 z k (by kernel_rfl) z s (fun _ _ _ _ _=>id) fun a k=>d_done (by kernel_rfl) ?_
         have k:=k.keep [1,3,51] z
         refine (nm_then ?_)
         refine wp_cond_true (k.ev z) (wr (pN 1 k z fun a k=>nn (wp_ret (rt_block (rt_then (rt_then (rt_block (rt_then ?_))))))))
         refine fS h k m z z
       have h:=bif_f Af h
       refine rB k 34 z Af fun k=>dN [8,9,10] 3 z k (by kernel_rfl) z s (fun _ _ _ _ _=>id) fun a k=>bsplit (decide (Ac > 0)) (fun Ae=>?_) (fun Ae=>?_)
       · have h:=bif_t Ae h
         refine rB k 37 z Ae fun k=>dN [13,18,19] 3 z k (by kernel_rfl) z s (fun _ _ _ _ _=>id) fun a k=>dt k 11 z (by kernel_rfl) z s (fun _ _ _=>id) (fun w s=>r_fa fa83_2 k z z) fun a k=>dt k 12 z (by kernel_rfl) z s (fun _ _ _=>id) (fun w s=>r_ld1 t163 (r:=[]) (Ab.at ((hMd.step s).a 0 z) 2 1 z z z) k z z) fun a k=>oE h fun Bg Bc h=>dt k 14 z (by kernel_rfl) z s (fun _ _ _=>id) (fun w s=>r_ixa Aa Ah k ts63 z z z) fun a k=>dt k 15 z (by kernel_rfl) z s (fun _ _ _=>id) (fun w s=>r_lde1 Aa ((hMd.step s).a00 (Enc.rd_lt Aa)) Ah 0 t13 k z z z z) fun a k=>dt k 16 z (by kernel_rfl) z s (fun _ _ _=>id) (fun w s=>r_fa fa83_2 k z z) fun a k=>?_
         refine dt k 17 z (by kernel_rfl) z s (fun _ _ _=>id) (fun w s=>r_ld1 t163 (r:=[]) (Ab.at ((hMd.step s).a 0 z) 2 1 z z z) k z z) fun a k=>oE h fun Bf Aj h=>dt k 20 z (by kernel_rfl) z s (fun _ _ _=>id) (fun w s=>r_ixa Aa Aj k ts63 z z z) fun a k=>dt k 21 z (by kernel_rfl) z s (fun _ _ _=>id) (fun w s=>r_lde1 Aa ((hMd.step s).a00 (Enc.rd_lt Aa)) Aj 0 t13 k z z z z) fun a k=>dN [22,23,24] 3 z k (by kernel_rfl) z s (fun _ _ _ _ _=>id) fun a k=>d_done (by kernel_rfl) ?_
         have k:=k.keep [1,3,51] z
         refine (nm_then ?_)
         refine cI h k z (fun Aq h=>?_) fun Aq h=>?_
         · refine wr (pN 1 k z fun a k=>nn (wp_ret (rt_block (rt_then (rt_then (rt_block (rt_then ?_)))))))
           refine fS h k m z z
         refine wp_skip (nm_block (nm_then ?_))
         exact ⟨k.keep [1,3] z,m.sel [0] z (by decide),h⟩
       have h:=bif_f Ae h
       refine rB k 37 z Ae fun k=>dN [11,12,13,14,15,16,17,18,19,20,21,22,23,24] 14 z k (by kernel_rfl) z s (fun _ _ _ _ _=>id) fun a k=>d_done (by kernel_rfl) ?_
       have k:=k.keep [1,3,51] z
       refine (nm_then ?_)
       refine wp_cond_false (k.ev z) (wp_skip (nm_block (nm_then ?_)))
       exact ⟨k.keep [1,3] z,m.sel [0] z (by decide),h⟩
     refine wp_exit (ex_then (ex_then (ex_same (nm_then ?_))))
     refine wr (pN 1 k z fun a k=>nn (wp_ret (fS h k m z z)))
   exact ⟨0,k.keep [1,3] z,m.sel [0] z (by decide),h⟩
 refine wr (sv k z (r_fa fa83_0 k z z) fun a k=>sv k z (r_ldb t13 m 0 Ab 0 k z z z z z) fun a k=>oE h fun As Am h=>cE k m call259 z z z (c_spec_l2Id fu _  Am) fun Bd e a k m=>pN 2 k z fun a k=>bsplit (!As) (fun Ad=>?_) (fun Ad=>?_))
 · have h:=bif_t Ad h
   refine rB k 8 z Ad fun k=>pN 11 k z fun a k=>nn (wp_cond_true (k.ev z) (wr (pN 1 k z fun a k=>nn (wp_ret (rt_then ?_)))))
   refine fS h k m z z
 have h:=bif_f Ad h
 refine rB k 8 z Ad fun k=>sv k z (r_fa fa83_1 k z z) fun a k=>sv k z (r_ldb t13 m 0 Ab 1 k z z z z z) fun a k=>oE h fun Ak Aw h=>cE k m call130 z z z (c_spec_l1In fu _ _ _  Aw) fun Bb e a k m=>pN 3 k z fun a k=>bsplit (!Ak) (fun Ag=>?_) (fun Ag=>?_)
 · have h:=bif_t Ag h
   refine rB k 14 z Ag fun k=>pN 5 k z fun a k=>nn (wp_cond_true (k.ev z) (wr (pN 1 k z fun a k=>nn (wp_ret (rt_then ?_)))))
   refine fS h k m z z
 have h:=bif_f Ag h
 refine rB k 14 z Ag fun k=>sv k z (r_fa fa83_2 k z z) fun a k=>sv k z (r_ldb t163 m 0 Ab 2 k z z z z z) fun a k=>sv k z (r_len (α:=Int) Aa k underlying63 z z) fun a k=>pN 2 k z fun a k=>nn (cI h k z (fun Ar h=>?_) fun Ar h=>?_)
 · refine wr (pN 1 k z fun a k=>nn (wp_ret (rt_then ?_)))
   refine fS h k m z z
 refine wp_skip (nm_then ?_)
 exact ⟨k.keep [1] z,m.sel [0] z (by decide),h⟩
theorem c_spec_PlanOk (fu:Nat) {w0:World} (x1:Plan) {Aq:List Value} {F3:List Nat} (Av:rd w0 F3 Aq x1) {r:Bool}
    (h:d_spec_PlanOk fu x1 = some r) :
    Calls Tryz.prog 104 #[.agg Aq.toArray] w0 fun e w=>e = .returned (.bool (r)) ∧ Ext [] w0 w:=by
 refine enter (vs:=[_]) func104 z ntmps104 z fun a k=>?_
 have m:=St.start w0
 obtain ⟨v5,F6,v7,F8,rfl,rfl,Ad,Al⟩:=Av
 unfold d_spec_PlanOk at h
 refine wr (s_box (cs:=[v5,v7]) m k z z z z z z fun Ac Am a k m e Ab=>pN 1 k z fun a k=>nn (c_cut (fun a w=>K 61 [(1,.pointer (some (⟨Ac,0,none⟩:Addr)))] a ∧ St [] w0 w [([Ac],Am)] ∧ d_spec_PlanOk_J2 fu x1 = some r) ?_ ?_))
 · rintro a Ca ⟨k,m,h⟩
   unfold d_spec_PlanOk_J2 at h
   refine wp_seq (wr (pN 1 k z fun a k=>nn (wp_block (c_loop (fun n a w=>∃ (Aa:Int),K 61 [(1,.pointer (some (⟨Ac,0,none⟩:Addr))),(3,I Aa)] a ∧ St [] w0 w [([Ac],Am)] ∧ d_spec_PlanOk_L1 fu x1 n Aa = some r) ?_ ?_ fu _ _ ?_))))
   · rintro a w ⟨_,_,_,h⟩
     exact nS h
   · rintro Be a Bo ⟨Aa,k,m,h⟩
     rw [d_spec_PlanOk_L1_s] at h
     unfold d_spec_PlanOk_L1_B at h
     refine wp_seq (wr (pN 1 k z fun a k=>sv k z (r_fa fa58_0 k z z) fun a k=>sv k z (r_ldb t155 m 0 Ab 0 k z z z z z) fun a k=>sv k z (r_len (α:=Carton) Ad k underlying55 z z) fun a k=>pN 1 k z fun a k=>nn (cI h k z (fun Bd h=>?_) fun Bd h=>?_)))
     · refine wp_skip (nm_then ?_)
       refine c_cut (fun a w=>K 61 [(1,.pointer (some (⟨Ac,0,none⟩:Addr))),(3,I Aa)] a ∧ St [] w0 w [([Ac],Am)] ∧ d_spec_PlanOk_J1 fu (d_spec_PlanOk_L1 fu x1 Be) Aa = some r) ?_ ?_
       · rintro a Bm ⟨k,m,h⟩
         unfold d_spec_PlanOk_J1 at h
         refine wp_region_lit (pN 3 k z fun a k=>nn ?_)
         exact ⟨w64 (Aa + 1),k.keep [1,3] z,m.sel [0] z (by decide),h⟩
       refine wp_block (wr (sv k z (r_fa fa58_1 k z z) fun a k=>sv k z (r_ldb t156 m 0 Ab 1 k z z z z z) fun a k=>pN 1 k z fun a k=>oE h fun Ak Ap h=>sv k z (r_ixa Al Ap k ts56 z z z) fun a k=>sv k z (r_lde Al (m.a00 (Enc.rd_lt Al)) Ap ta89 k z z) fun a k=>s_alloc (cs:=[I 0,I 0,I 0,I 0]) m k zeroValue89 z z z z z fun Bz By a k m e Aw=>s_stb (cs':=[I Ak.fPallet,I Ak.fX,I Ak.fY,I Ak.fZ]) sizeOf89 m 0 Aw 0 k z z z z z z z z z z z fun Bw a k e m Aj=>nn (wr (sv k z (r_fa fa58_0 k z z) fun a k=>sv k z (r_ldb t155 m 1 Ab 0 k z z z z z) fun a k=>pN 1 k z fun a k=>oE h fun Ao Ar h=>?_))))
       refine sv k z (r_ixa Ad Ar k ts55 z z z) fun a k=>?_
       obtain ⟨Bn,Bq,Bu,Bj,Bh,Bg⟩:=rd_get Ad (ix_some Ar).2.2
       obtain ⟨Bb,_,rfl,rfl,As⟩:=Bj
       refine sv k z (r_ldA ta83 (Bh.agr (m.a00 (Enc.rd_lt Ad)) Bg) z k z z) fun a k=>oE h fun Ay Bk h=>cE k m call210 z z z (c_spec_l13Carton fu _ (show rd _ _ [I Ao.fType,I Ao.fGroup,Bb] (Ao:Carton) from ⟨_,_,z,z,(Enc.rd_agr As (m.a00 (Enc.rd_lt As)))⟩) Bk) fun Bp e a k m=>pN 2 k z fun a k=>bsplit (!Ay) (fun Ag=>?_) (fun Ag=>?_)
       · have h:=bif_t Ag h
         refine rB k 37 z Ag fun k=>pN 23 k z fun a k=>?_
         have k:=k.keep [1,3,60] z
         refine nn (wp_cond_true (k.ev z) (wr (pN 1 k z fun a k=>nn (wp_ret (rt_block (rt_then (rt_then (rt_block (rt_then ?_)))))))))
         refine fS h k m z z
       have h:=bif_f Ag h
       refine rB k 37 z Ag fun k=>sv k z (r_fa fa89_0 k z z) fun a k=>sv k z (r_ldb t13 m 0 Aj 0 k z z z z z) fun a k=>oE h fun Bc Bi h=>cE k m call130 z z z (c_spec_l1In fu _ _ _  Bi) fun Bt e a k m=>pN 3 k z fun a k=>bsplit (!Bc) (fun Ah=>?_) (fun Ah=>?_)
       · have h:=bif_t Ah h
         refine rB k 43 z Ah fun k=>pN 17 k z fun a k=>?_
         have k:=k.keep [1,3,60] z
         refine nn (wp_cond_true (k.ev z) (wr (pN 1 k z fun a k=>nn (wp_ret (rt_block (rt_then (rt_then (rt_block (rt_then ?_)))))))))
         refine fS h k m z z
       have h:=bif_f Ah h
       refine rB k 43 z Ah fun k=>sv k z (r_fa fa89_1 k z z) fun a k=>sv k z (r_ldb t13 m 0 Aj 1 k z z z z z) fun a k=>oE h fun Ba Bl h=>cE k m call130 z z z (c_spec_l1In fu _ _ _  Bl) fun Bv e a k m=>pN 3 k z fun a k=>bsplit (!Ba) (fun Af=>?_) (fun Af=>?_)
       · have h:=bif_t Af h
         refine rB k 49 z Af fun k=>pN 11 k z fun a k=>?_
         have k:=k.keep [1,3,60] z
         refine nn (wp_cond_true (k.ev z) (wr (pN 1 k z fun a k=>nn (wp_ret (rt_block (rt_then (rt_then (rt_block (rt_then ?_)))))))))
         refine fS h k m z z
       have h:=bif_f Af h
       refine rB k 49 z Af fun k=>sv k z (r_fa fa89_2 k z z) fun a k=>sv k z (r_ldb t13 m 0 Aj 2 k z z z z z) fun a k=>oE h fun Az Au h=>cE k m call130 z z z (c_spec_l1In fu _ _ _  Au) fun Br e a k m=>pN 3 k z fun a k=>bsplit (!Az) (fun Ai=>?_) (fun Ai=>?_)
       · have h:=bif_t Ai h
         refine rB k 55 z Ai fun k=>pN 5 k z fun a k=>?_
         have k:=k.keep [1,3,60] z
         refine nn (wp_cond_true (k.ev z) (wr (pN 1 k z fun a k=>nn (wp_ret (rt_block (rt_then (rt_then (rt_block (rt_then ?_)))))))))
         refine fS h k m z z
       have h:=bif_f Ai h
       refine rB k 55 z Ai fun k=>sv k z (r_fa fa89_3 k z z) fun a k=>sv k z (r_ldb t13 m 0 Aj 3 k z z z z z) fun a k=>oE h fun Bs Bf h=>cE k m call130 z z z (c_spec_l1In fu _ _ _  Bf) fun Bx e a k m=>pN 2 k z fun a k=>?_
       have k:=k.keep [1,3,60] z
       refine nn (cI h k z (fun At h=>?_) fun At h=>?_)
       · refine wr (pN 1 k z fun a k=>nn (wp_ret (rt_block (rt_then (rt_then (rt_block (rt_then ?_)))))))
         refine fS h k m z z
       refine wp_skip (nm_block (nm_then ?_))
       exact ⟨k.keep [1,3] z,m.sel [1] z (by decide),h⟩
     refine wp_exit (ex_then (ex_then (ex_same (nm_then ?_))))
     refine wr (pN 1 k z fun a k=>nn (wp_ret (fS h k m z z)))
   exact ⟨0,k.keep [1,3] z,m.sel [0] z (by decide),h⟩
 refine wr (sv k z (r_fa fa58_0 k z z) fun a k=>sv k z (r_ldb t155 m 0 Ab 0 k z z z z z) fun a k=>sv k z (r_len (α:=Carton) Ad k underlying55 z z) fun a k=>sv k z (r_fa fa58_1 k z z) fun a k=>sv k z (r_ldb t156 m 0 Ab 1 k z z z z z) fun a k=>sv k z (r_len (α:=Spot) Al k underlying56 z z) fun a k=>pN 2 k z fun a k=>bsplit (((x1.fCartons.length:Int)) != ((x1.fSpots.length:Int))) (fun Ae=>?_) (fun Ae=>?_))
 · have h:=bif_t Ae h
   refine rB k 12 z Ae fun k=>pN 5 k z fun a k=>nn (wp_cond_true (k.ev z) (wr (pN 1 k z fun a k=>nn (wp_ret (rt_then ?_)))))
   refine fS h k m z z
 have h:=bif_f Ae h
 refine rB k 12 z Ae fun k=>sv k z (r_fa fa58_0 k z z) fun a k=>sv k z (r_ldb t155 m 0 Ab 0 k z z z z z) fun a k=>sv k z (r_len (α:=Carton) Ad k underlying55 z z) fun a k=>pN 2 k z fun a k=>nn (cI h k z (fun Ax h=>?_) fun Ax h=>?_)
 · refine wr (pN 1 k z fun a k=>nn (wp_ret (rt_then ?_)))
   refine fS h k m z z
 refine wp_skip (nm_then ?_)
 exact ⟨k.keep [1] z,m.sel [0] z (by decide),h⟩
theorem c_spec_l15Empty (fu:Nat) {w0:World} (x1:Plan) {Ae:List Value} {F3:List Nat} (Ah:rd w0 F3 Ae x1) {r:Bool}
    (h:d_spec_l15Empty fu x1 = some r) :
    Calls Tryz.prog 105 #[.agg Ae.toArray] w0 fun e w=>e = .returned (.bool (r)) ∧ Ext [] w0 w:=by
 refine enter (vs:=[_]) func105 z ntmps105 z fun a k=>?_
 have m:=St.start w0
 obtain ⟨v5,F6,v7,F8,rfl,rfl,Ab,Aw⟩:=Ah
 unfold d_spec_l15Empty at h
 refine wr (s_box (cs:=[v5,v7]) m k z z z z z z fun Af Al a k m e Ad=>pN 1 k z fun a k=>nn (wp_seq (wr (pN 1 k z fun a k=>nn (wp_block (c_loop (fun n a w=>∃ (Aa:Int),K 19 [(1,.pointer (some (⟨Af,0,none⟩:Addr))),(3,I Aa)] a ∧ St [] w0 w [([Af],Al)] ∧ d_spec_l15Empty_L1 fu x1 n Aa = some r) ?_ ?_ fu _ _ ?_))))))
 · rintro a w ⟨_,_,_,h⟩
   exact nS h
 · rintro As a Av ⟨Aa,k,m,h⟩
   rw [d_spec_l15Empty_L1_s] at h
   unfold d_spec_l15Empty_L1_B at h
   refine wp_seq (wr (pN 1 k z fun a k=>sv k z (r_fa fa58_0 k z z) fun a k=>sv k z (r_ldb t155 m 0 Ad 0 k z z z z z) fun a k=>sv k z (r_len (α:=Carton) Ab k underlying55 z z) fun a k=>pN 1 k z fun a k=>nn (cI h k z (fun Ai h=>?_) fun Ai h=>?_)))
   · refine wp_skip (nm_then ?_)
     refine wp_seq (wp_block (wr (sv k z (r_fa fa58_0 k z z) fun a k=>sv k z (r_ldb t155 m 0 Ad 0 k z z z z z) fun a k=>pN 1 k z fun a k=>oE h fun At Ac h=>sv k z (r_ixa Ab Ac k ts55 z z z) fun a k=>sv k z (r_fa fa83_2 k z z) fun a k=>?_)))
     obtain ⟨Aq,Ar,Au,Ak,Am,Ag⟩:=rd_get Ab (ix_some Ac).2.2
     obtain ⟨Ap,_,rfl,rfl,Ao⟩:=Ak
     refine sv k z (r_ld1 t163 ((Am.agr (m.a00 (Enc.rd_lt Ab)) Ag).fld 2 1 (Nat.le_of_ble_eq_true z)) k z z) fun a k=>sv k z (r_len (α:=Int) Ao k underlying63 z z) fun a k=>pN 1 k z fun a k=>nn (cI h k z (fun Aj h=>?_) fun Aj h=>?_)
     · refine wr (pN 1 k z fun a k=>nn (wp_ret (rt_block (rt_then (rt_then (rt_block (rt_then ?_)))))))
       refine fS h k m z z
     refine wp_skip (nm_block (nm_then ?_))
     refine wp_region_lit (pN 3 k z fun a k=>nn ?_)
     exact ⟨w64 (Aa + 1),k.keep [1,3] z,m.sel [0] z (by decide),h⟩
   refine wp_exit (ex_then (ex_then (ex_same (nm_then ?_))))
   refine wr (pN 1 k z fun a k=>nn (wp_ret (fS h k m z z)))
 exact ⟨0,k.keep [1,3] z,m.sel [0] z (by decide),h⟩
theorem c_spec_l6Units (fu:Nat) {w0:World} (r1:Request) {At:List Value} {F3:List Nat} (Aw:rd w0 F3 At r1) {r:(List Int)}
    (h:d_spec_l6Units fu r1 = some r) :
    Calls Tryz.prog 90 #[.agg At.toArray] w0 fun e w=>∃ (v0:Value) (G0:List Nat),e = .returned (v0) ∧ Ext [] w0 w ∧ ow w G0 [v0] r ∧ (∀ b ∈ G0,w0.heap.size ≤ b):=by
 refine enter (vs:=[_]) func90 z ntmps90 z fun a k=>?_
 have m:=St.start w0
 obtain ⟨v5,F6,v7,F8,v9,Bp,rfl,rfl,Bj,Bt,Af⟩:=Aw
 unfold d_spec_l6Units at h
 refine wr (s_box (cs:=[I r1.fWay,I r1.fPallet.fW,I r1.fPallet.fD,I r1.fPallet.fH,I r1.fPallet.fGram,I r1.fClasses,v5,v7,I r1.fMaster,v9]) m k z z z z z z fun Ac As a k m e Aq=>pN 1 k z fun a k=>nn (wr (s_bs (cs:=[]) (ps:=[]) te63 m k z z z z z z z (by decide) z (by exact (List.forall_mem_nil _)) fun Am Ax Bn a k m e Av=>?_)))
 have Az:=ow_bx Av ([]:List Int) z z z
 refine pN 1 k z fun a k=>nn (wp_seq (wr (pN 1 k z fun a k=>nn (wp_block (c_loop (fun n a w=>∃ (Aj:List Int) (Al:Value) (Ab:List Nat) (Ah:World) (Aa:Int),K 29 [(1,.pointer (some (⟨Ac,0,none⟩:Addr))),(3,Al),(4,I Aa)] a ∧ St [] w0 w [([Ac],As),(Ab,Ah)] ∧ ow Ah Ab [Al] Aj ∧ d_spec_l6Units_L2 fu r1 n Aj Aa = some r) ?_ ?_ fu _ _ ?_)))))
 · rintro a w ⟨_,_,_,_,_,_,_,_,h⟩
   exact nS h
 · rintro Au a Bm ⟨Aj,Al,Ab,Ah,Aa,k,m,Ap,h⟩
   rw [d_spec_l6Units_L2_s] at h
   unfold d_spec_l6Units_L2_B at h
   refine wp_seq (wr (pN 1 k z fun a k=>sv k z (r_fa fa38_6 k z z) fun a k=>sv k z (r_ldb t136 m 0 Aq 9 k z z z z z) fun a k=>sv k z (r_len (α:=Item) Af k underlying36 z z) fun a k=>pN 1 k z fun a k=>nn (cI h k z (fun Bc h=>?_) fun Bc h=>?_)))
   · refine wp_skip (nm_then ?_)
     refine wp_seq (wp_block (wr (pN 1 k z fun a k=>nn (wp_block (c_loop (fun n a w=>∃ (Ai:List Int) (Ag:Value) (Ad:List Nat) (Ae:World) (Ak:Int),K 29 [(1,.pointer (some (⟨Ac,0,none⟩:Addr))),(3,Ag),(4,I Aa),(5,I Ak)] a ∧ St [] w0 w [([Ac],As),(Ad,Ae)] ∧ ow Ae Ad [Ag] Ai ∧ d_spec_l6Units_L1 fu (d_spec_l6Units_L2 fu r1 Au) r1 Aa n Ai Ak = some r) ?_ ?_ fu _ _ ?_)))))
     · rintro a w ⟨_,_,_,_,_,_,_,_,h⟩
       exact nS h
     · rintro Bl a Bq ⟨Ai,Ag,Ad,Ae,Ak,k,m,Ao,h⟩
       rw [d_spec_l6Units_L1_s] at h
       unfold d_spec_l6Units_L1_B at h
       refine wp_seq (wr (pN 1 k z fun a k=>sv k z (r_fa fa38_6 k z z) fun a k=>sv k z (r_ldb t136 m 0 Aq 9 k z z z z z) fun a k=>pN 1 k z fun a k=>oE h fun Bs Ar h=>sv k z (r_ixa Af Ar k ts36 z z z) fun a k=>sv k z (r_fa fa158_6 k z z) fun a k=>sv k z (r_lde1 Af (m.a00 (Enc.rd_lt Af)) Ar 6 t13 k z z z z) fun a k=>pN 1 k z fun a k=>nn (cI h k z (fun Be h=>?_) fun Be h=>?_)))
       · refine wp_skip (nm_then ?_)
         refine wp_seq (wp_block (wp_region_lit (pN 2 k z fun a k=>s_bs (cs:=[I Aa]) (ps:=[(0,.tmp 25)]) te63 m k z z z z z z z (by decide) z (by exact (List.forall_mem_cons.2 ⟨z,(List.forall_mem_nil _)⟩)) fun Bo Bk Br a k m e Ay=>?_)))
         have Bd:=ow_bx Ay ([Aa]:List Int) z z z
         refine oE h fun Bg Bf h=>s_appF Bf te63 z m 2 Ao (News.rd (Enc.rd_agr (Enc.ow_rd Bd) (m.a 0 z))) z z k z z z z z z z fun Bi Ba Bb a k e m Bh=>pN 1 k z fun a k=>wpList_nil (nm_block (nm_then ?_))
         refine wp_region_lit (pN 3 k z fun a k=>nn ?_)
         exact ⟨Bg,Bi,Ba,Bb,w64 (Ak + 1),k.keep [1,3,4,5] z,m.sel [1,2] z (by decide),Bh,h⟩
       refine wp_exit (ex_then (ex_then (ex_same (nm_block (nm_then ?_)))))
       refine wp_region_lit (pN 3 k z fun a k=>nn ?_)
       exact ⟨Ai,Ag,Ad,Ae,w64 (Aa + 1),k.keep [1,3,4] z,m.sel [0,1] z (by decide),Ao,h⟩
     exact ⟨Aj,Al,Ab,Ah,0,k.keep [1,3,4,5] z,m.sel [0,1] z (by decide),Ap,h⟩
   refine wp_exit (ex_then (ex_then (ex_same (nm_then ?_))))
   refine wr (pN 2 k z fun a k=>nn (wp_ret ?_))
   cases h
   exact finR1 k z (RV.tmp k z) ⟨_,Ab,z,m.ext,(Enc.ow_agr Ap (m.a 1 z)),(m.fresh 1 z)⟩
 exact ⟨([]:List Int),(.slice (some ⟨Am,0,none⟩) 0 0),[Am],Ax,0,k.keep [1,3,4] z,m.sel [1,0] z (by decide),Az,h⟩
theorem c_spec_l15Flat (fu:Nat) {w0:World} (x1:Plan) {Ak:List Value} {F3:List Nat} (Ap:rd w0 F3 Ak x1) {r:(List Int)}
    (h:d_spec_l15Flat fu x1 = some r) :
    Calls Tryz.prog 211 #[.agg Ak.toArray] w0 fun e w=>∃ (v0:Value) (G0:List Nat),e = .returned (v0) ∧ Ext [] w0 w ∧ ow w G0 [v0] r ∧ (∀ b ∈ G0,w0.heap.size ≤ b):=by
 refine enter (vs:=[_]) func211 z ntmps211 z fun a k=>?_
 have m:=St.start w0
 obtain ⟨v5,F6,v7,F8,rfl,rfl,Ac,Bk⟩:=Ap
 unfold d_spec_l15Flat at h
 refine wr (s_box (cs:=[v5,v7]) m k z z z z z z fun Al Az a k m e Ah=>pN 1 k z fun a k=>nn (wr (s_bs (cs:=[]) (ps:=[]) te63 m k z z z z z z z (by decide) z (by exact (List.forall_mem_nil _)) fun Aj Ax Bf a k m e Ba=>?_)))
 have Bc:=ow_bx Ba ([]:List Int) z z z
 refine pN 1 k z fun a k=>nn (wp_seq (wr (pN 1 k z fun a k=>nn (wp_block (c_loop (fun n a w=>∃ (Ae:List Int) (Ad:Value) (Aa:List Nat) (Af:World) (Ab:Int),K 22 [(1,.pointer (some (⟨Al,0,none⟩:Addr))),(3,Ad),(4,I Ab)] a ∧ St [] w0 w [([Al],Az),(Aa,Af)] ∧ ow Af Aa [Ad] Ae ∧ d_spec_l15Flat_L1 fu x1 n Ae Ab = some r) ?_ ?_ fu _ _ ?_)))))
 · rintro a w ⟨_,_,_,_,_,_,_,_,h⟩
   exact nS h
 · rintro Bg a Bh ⟨Ae,Ad,Aa,Af,Ab,k,m,Ai,h⟩
   rw [d_spec_l15Flat_L1_s] at h
   unfold d_spec_l15Flat_L1_B at h
   refine wp_seq (wr (pN 1 k z fun a k=>sv k z (r_fa fa58_0 k z z) fun a k=>sv k z (r_ldb t155 m 0 Ah 0 k z z z z z) fun a k=>sv k z (r_len (α:=Carton) Ac k underlying55 z z) fun a k=>pN 1 k z fun a k=>nn (cI h k z (fun Au h=>?_) fun Au h=>?_)))
   · refine wp_skip (nm_then ?_)
     refine wp_seq (wp_block (wp_region_lit (pN 1 k z fun a k=>sv k z (r_fa fa58_0 k z z) fun a k=>sv k z (r_ldb t155 m 0 Ah 0 k z z z z z) fun a k=>pN 1 k z fun a k=>oE h fun Bj Ag h=>sv k z (r_ixa Ac Ag k ts55 z z z) fun a k=>sv k z (r_fa fa83_2 k z z) fun a k=>?_)))
     obtain ⟨Bd,Be,Bi,Ar,Aw,Ay⟩:=rd_get Ac (ix_some Ag).2.2
     obtain ⟨Bl,_,rfl,rfl,Am⟩:=Ar
     refine sv k z (r_ld1 t163 ((Aw.agr (m.a00 (Enc.rd_lt Ac)) Ay).fld 2 1 (Nat.le_of_ble_eq_true z)) k z z) fun a k=>oE h fun Aq As h=>s_appF As te63 z m 1 Ai (News.rd (Enc.rd_agr Am (m.a00 (Enc.rd_lt Am)))) z z k z z z z z z z fun At Ao Av a k e m Bb=>pN 1 k z fun a k=>wpList_nil (nm_block (nm_then ?_))
     refine wp_region_lit (pN 3 k z fun a k=>nn ?_)
     exact ⟨Aq,At,Ao,Av,w64 (Ab + 1),k.keep [1,3,4] z,m.sel [0,1] z (by decide),Bb,h⟩
   refine wp_exit (ex_then (ex_then (ex_same (nm_then ?_))))
   refine wr (pN 2 k z fun a k=>nn (wp_ret ?_))
   cases h
   exact finR1 k z (RV.tmp k z) ⟨_,Aa,z,m.ext,(Enc.ow_agr Ai (m.a 1 z)),(m.fresh 1 z)⟩
 exact ⟨([]:List Int),(.slice (some ⟨Aj,0,none⟩) 0 0),[Aj],Ax,0,k.keep [1,3,4] z,m.sel [1,0] z (by decide),Bc,h⟩
theorem c_spec_l1Bit (fu:Nat) {w0:World} (Aa:Bool)  {r:Int}
    (h:d_spec_l1Bit fu Aa = some r) :
    Calls Tryz.prog 100 #[.bool (Aa)] w0 fun e w=>e = .returned (I r) ∧ Ext [] w0 w:=by
 refine enter (vs:=[_]) func100 z ntmps100 z fun a k=>?_
 have m:=St.start w0
 unfold d_spec_l1Bit at h
 refine wr (pN 1 k z fun a k=>nn (wp_seq (wr (pN 1 k z fun a k=>nn (cI h k z (fun Ab h=>?_) fun Ab h=>?_)))))
 · refine wr (pN 1 k z fun a k=>nn (wp_ret (rt_then ?_)))
   refine fS h k m z z
 refine wp_skip (nm_then ?_)
 refine wr (pN 1 k z fun a k=>nn (wp_ret (fS h k m z z)))
theorem c_spec_l8Times (fu:Nat) {w0:World} (Ad:List Int) (x5:Int) {v2:Value} {F3:List Nat} (Aa:rd w0 F3 [v2] Ad) {r:Int}
    (h:d_spec_l8Times fu Ad x5 = some r) :
    Calls Tryz.prog 129 #[v2,I x5] w0 fun e w=>e = .returned (I r) ∧ Ext [] w0 w:=by
 refine enter (vs:=[_,_]) func129 z ntmps129 z fun a k=>?_
 have m:=St.start w0
 unfold d_spec_l8Times at h
 refine wr (pN 1 k z fun a k=>nn (wr (pN 1 k z fun a k=>nn (wp_seq (wr (pN 1 k z fun a k=>nn (wp_block (c_loop (fun n a w=>∃ (Ac:Int) (Ab:Int),K 23 [(0,v2),(1,I x5),(5,I Ac),(6,I Ab)] a ∧ St [] w0 w [] ∧ d_spec_l8Times_L1 fu Ad x5 n Ac Ab = some r) ?_ ?_ fu _ _ ?_))))))))
 · rintro a w ⟨_,_,_,_,h⟩
   exact nS h
 · rintro Aj a Al ⟨Ac,Ab,k,m,h⟩
   rw [d_spec_l8Times_L1_s] at h
   unfold d_spec_l8Times_L1_B at h
   refine wp_seq (wr (pN 2 k z fun a k=>sv k z (r_len (α:=Int) Aa k underlying63 z z) fun a k=>pN 1 k z fun a k=>nn (cI h k z (fun Ah h=>?_) fun Ah h=>?_)))
   · refine wp_skip (nm_then ?_)
     refine wp_seq (wp_block (wp_region_lit (pN 3 k z fun a k=>oE h fun Ak Ae h=>sv k z (r_ixa Aa Ae k ts63 z z z) fun a k=>sv k z (r_lde1 Aa (m.a00 (Enc.rd_lt Aa)) Ae 0 t13 k z z z z) fun a k=>pN 2 k z fun a k=>oE h fun Af Ag h=>cE k m call100 z z z (c_spec_l1Bit fu _  Ag) fun Ai e a k m=>pN 2 k z fun a k=>wpList_nil (nm_block (nm_then ?_)))))
     refine wp_region_lit (pN 3 k z fun a k=>nn ?_)
     exact ⟨w64 (Ac + Af),w64 (Ab + 1),k.keep [0,1,5,6] z,m.sel [] z (by decide),h⟩
   refine wp_exit (ex_then (ex_then (ex_same (nm_then ?_))))
   refine wr (pN 2 k z fun a k=>nn (wp_ret (fS h k m z z)))
 exact ⟨0,0,k.keep [0,1,5,6] z,m.sel [] z (by decide),h⟩
theorem c_spec_l15Units (fu:Nat) {w0:World} (Ac:List Int) (x5:Plan) {v2:Value} {F3:List Nat} (Ad:rd w0 F3 [v2] Ac) {Ag:List Value} {F7:List Nat} (Aq:rd w0 F7 Ag x5) {r:Bool}
    (h:d_spec_l15Units fu Ac x5 = some r) :
    Calls Tryz.prog 106 #[v2,.agg Ag.toArray] w0 fun e w=>e = .returned (.bool (r)) ∧ Ext [] w0 w:=by
 refine enter (vs:=[_,_]) func106 z ntmps106 z fun a k=>?_
 have m:=St.start w0
 obtain ⟨v9,Ay,Ae,Ba,rfl,rfl,Ah,Ai⟩:=Aq
 unfold d_spec_l15Units at h
 refine wr (s_box (cs:=[v9,Ae]) m k z z z z z z fun Av Bb a k m e Ar=>pN 1 k z fun a k=>nn (wr (sv k z (r_ldB ta58 m 0 Ar 0 k z z z z z z) fun a k=>oE h fun Ao Ap h=>s_call k call211 z z z z z (c_spec_l15Flat fu _ (show rd _ _ [v9,Ae] (x5:Plan) from ⟨_,_,_,_,z,z,(Enc.rd_agr Ah (m.a00 (Enc.rd_lt Ah))),(Enc.rd_agr Ai (m.a00 (Enc.rd_lt Ai)))⟩) Ap) fun Aw Ak hR=>?_)))
 obtain ⟨Al,Af,rfl,e,Ab,At⟩:=hR
 refine ⟨_,z,fun a k=>?_⟩
 have m:=m.new e Af (fun b hb=>⟨At b hb,Enc.rd_lt (Enc.ow_rd Ab) b hb⟩) (Enc.ow_nd Ab)
 refine pN 1 k z fun a k=>nn (wp_seq (wr (pN 1 k z fun a k=>sv k z (r_len (α:=Int) (Enc.ow_rd Ab) k underlying63 z z) fun a k=>pN 1 k z fun a k=>sv k z (r_len (α:=Int) Ad k underlying63 z z) fun a k=>pN 1 k z fun a k=>nn (cI h k z (fun Aj h=>?_) fun Aj h=>?_))))
 · refine wr (pN 1 k z fun a k=>nn (wp_ret (rt_then ?_)))
   refine fS h k m z z
 refine wp_skip (nm_then ?_)
 refine wp_seq (wr (pN 1 k z fun a k=>nn (wp_block (c_loop (fun n a w=>∃ (Aa:Int),K 24 [(0,v2),(5,Al),(6,I Aa)] a ∧ St [] w0 w [(Af,Ak)] ∧ d_spec_l15Units_L1 fu Ac Ao n Aa = some r) ?_ ?_ fu _ _ ?_))))
 · rintro a w ⟨_,_,_,h⟩
   exact nS h
 · rintro Az a Bd ⟨Aa,k,m,h⟩
   rw [d_spec_l15Units_L1_s] at h
   unfold d_spec_l15Units_L1_B at h
   refine wp_seq (wr (pN 2 k z fun a k=>sv k z (r_len (α:=Int) Ad k underlying63 z z) fun a k=>pN 1 k z fun a k=>nn (cI h k z (fun Au h=>?_) fun Au h=>?_)))
   · refine wp_skip (nm_then ?_)
     refine wp_seq (wp_block (wr (pN 2 k z fun a k=>oE h fun Bc As h=>cE k m call129 z z z (c_spec_l8Times fu _ _ (Enc.rd_agr (Enc.ow_rd Ab) (m.a 0 z)) As) fun Ax e a k m=>pN 1 k z fun a k=>nn (cI h k z (fun Am h=>?_) fun Am h=>?_))))
     · refine wr (pN 1 k z fun a k=>nn (wp_ret (rt_block (rt_then (rt_then (rt_block (rt_then ?_)))))))
       refine fS h k m z z
     refine wp_skip (nm_block (nm_then ?_))
     refine wp_region_lit (pN 3 k z fun a k=>nn ?_)
     exact ⟨w64 (Aa + 1),k.keep [0,5,6] z,m.sel [0] z (by decide),h⟩
   refine wp_exit (ex_then (ex_then (ex_same (nm_then ?_))))
   refine wr (pN 1 k z fun a k=>nn (wp_ret (fS h k m z z)))
 exact ⟨0,k.keep [0,5,6] z,m.sel [0] z (by decide),h⟩
theorem c_spec_TypeById (fu:Nat) {w0:World} (r1:Request) (Ac:Int) {Ai:List Value} {F3:List Nat} (Ao:rd w0 F3 Ai r1) {r:Typ × Bool}
    (h:d_spec_TypeById fu r1 Ac = some r) :
    Calls Tryz.prog 184 #[.agg Ai.toArray,I Ac] w0 fun e w=>e = .returned (.tuple #[.agg (Flat.e r.1).toArray,.bool (r.2)]) ∧ Ext [] w0 w:=by
 refine enter (vs:=[_,_]) func184 z ntmps184 z fun a k=>?_
 have m:=St.start w0
 obtain ⟨v6,F7,v8,F9,Ar,Aw,rfl,rfl,Ba,Aa,Av⟩:=Ao
 unfold d_spec_TypeById at h
 refine wr (s_box (cs:=[I r1.fWay,I r1.fPallet.fW,I r1.fPallet.fD,I r1.fPallet.fH,I r1.fPallet.fGram,I r1.fClasses,v6,v8,I r1.fMaster,Ar]) m k z z z z z z fun Ah Aq a k m e Af=>s_alloc (cs:=[I 0,I 0,I 0,I 0,I 0,I 0,I 0]) m k zeroValue79 z z z z z fun Aj Al a k m e Ag=>pN 1 k z fun a k=>nn (wp_seq (wr (pN 1 k z fun a k=>nn (wp_block (c_loop (fun n a w=>∃ (Ae:Int),K 28 [(1,I Ac),(2,.pointer (some (⟨Ah,0,none⟩:Addr))),(4,.pointer (some (⟨Aj,0,none⟩:Addr))),(6,I Ae)] a ∧ St [] w0 w [([Ah],Aq),([Aj],Al)] ∧ d_spec_TypeById_L1 fu r1 Ac n Ae = some r) ?_ ?_ fu _ _ ?_))))))
 · rintro a w ⟨_,_,_,h⟩
   exact nS h
 · rintro Ax a Au ⟨Ae,k,m,h⟩
   rw [d_spec_TypeById_L1_s] at h
   unfold d_spec_TypeById_L1_B at h
   refine wp_seq (wr (pN 1 k z fun a k=>sv k z (r_fa fa38_4 k z z) fun a k=>sv k z (r_ldb t135 m 0 Af 7 k z z z z z) fun a k=>sv k z (r_len (α:=Typ) Aa k underlying35 z z) fun a k=>pN 1 k z fun a k=>nn (cI h k z (fun Ak h=>?_) fun Ak h=>?_)))
   · refine wp_skip (nm_then ?_)
     refine wp_seq (wp_block (wr (sv k z (r_fa fa38_4 k z z) fun a k=>sv k z (r_ldb t135 m 0 Af 7 k z z z z z) fun a k=>pN 1 k z fun a k=>oE h fun Ab Ad h=>sv k z (r_ixa Aa Ad k ts35 z z z) fun a k=>sv k z (r_fa fa79_0 k z z) fun a k=>sv k z (r_lde1 Aa (m.a00 (Enc.rd_lt Aa)) Ad 0 t13 k z z z z) fun a k=>pN 2 k z fun a k=>nn (cI h k z (fun As h=>?_) fun As h=>?_))))
     · refine wr (sv k z (r_fa fa38_4 k z z) fun a k=>sv k z (r_ldb t135 m 0 Af 7 k z z z z z) fun a k=>pN 1 k z fun a k=>oE h fun Az Ay h=>sv k z (r_ixa Aa Ad k ts35 z z z) fun a k=>sv k z (r_lde Aa (m.a00 (Enc.rd_lt Aa)) Ad ta79 k z z) fun a k=>s_stb (cs':=[I Ab.fId,I Ab.fW,I Ab.fH,I Ab.fD,I Ab.fTare,I Ab.fGram,I Ab.fCost]) sizeOf79 m 1 Ag 0 k z z z z z z z z z z z fun At a k e m Ap=>pN 1 k z fun a k=>nn (wp_ret (rt_block (rt_then (rt_then (rt_block (rt_then ?_)))))))
       cases h
       exact finR2 k z (RV.cA k z ta79 (Ap.at (m.a 1 z) 0 7 z z z) z) (RV.tmp k z) ⟨z,m.ext⟩
     refine wp_skip (nm_block (nm_then ?_))
     refine wp_region_lit (pN 3 k z fun a k=>nn ?_)
     exact ⟨w64 (Ae + 1),k.keep [1,2,4,6] z,m.sel [0,1] z (by decide),h⟩
   refine wp_exit (ex_then (ex_then (ex_same (nm_then ?_))))
   refine wr (sv k z (r_build bt79 k (cs:=#[I 0,I 0,I 0,I 0,I 0,I 0,I 0]) (ps:=[]) z z (by kernel_rfl)) fun a k=>s_stb (cs':=[I 0,I 0,I 0,I 0,I 0,I 0,I 0]) sizeOf79 m 1 Ag 0 k z z z z z z z z z z z fun Bb a k e m Am=>pN 1 k z fun a k=>nn (wp_ret ?_))
   cases h
   exact finR2 k z (RV.cA k z ta79 (Am.at (m.a 1 z) 0 7 z z z) z) (RV.tmp k z) ⟨z,m.ext⟩
 exact ⟨0,k.keep [1,2,4,6] z,m.sel [1,0] z (by decide),h⟩
theorem c_spec_l6Item (fu:Nat) {w0:World} (r1:Request) (Ad:List Int) (u9:Int) {Ag:List Value} {F3:List Nat} (Al:rd w0 F3 Ag r1) {v6:Value} {F7:List Nat} (Ab:rd w0 F7 [v6] Ad) {r:Item × Bool}
    (h:d_spec_l6Item fu r1 Ad u9 = some r) :
    Calls Tryz.prog 168 #[.agg Ag.toArray,v6,I u9] w0 fun e w=>e = .returned (.tuple #[.agg (Flat.e r.1).toArray,.bool (r.2)]) ∧ Ext [] w0 w:=by
 refine enter (vs:=[_,_,_]) func168 z ntmps168 z fun a k=>?_
 have m:=St.start w0
 obtain ⟨Ar,Az,Aq,Bd,At,Bf,rfl,rfl,Bg,Av,Ac⟩:=Al
 unfold d_spec_l6Item at h
 refine wr (s_box (cs:=[I r1.fWay,I r1.fPallet.fW,I r1.fPallet.fD,I r1.fPallet.fH,I r1.fPallet.fGram,I r1.fClasses,Ar,Aq,I r1.fMaster,At]) m k z z z z z z fun Bb Ay a k m e Aj=>s_alloc (cs:=[I 0,I 0,I 0,I 0,I 0,I 0,I 0]) m k zeroValue158 z z z z z fun Ah Bc a k m e Af=>pN 1 k z fun a k=>nn (wp_seq (wr (pN 2 k z fun a k=>sv k z (r_len (α:=Int) Ab k underlying63 z z) fun a k=>pN 1 k z fun a k=>oE h fun Be Ao h=>cE k m call130 z z z (c_spec_l1In fu _ _ _  Ao) fun Aw e a k m=>pN 1 k z fun a k=>nn (cI h k z (fun Ap h=>?_) fun Ap h=>?_)))))
 · refine wr (sv k z (r_build bt158 k (cs:=#[I 0,I 0,I 0,I 0,I 0,I 0,I 0]) (ps:=[]) z z (by kernel_rfl)) fun a k=>s_stb (cs':=[I 0,I 0,I 0,I 0,I 0,I 0,I 0]) sizeOf158 m 0 Af 0 k z z z z z z z z z z z fun Ba a k e m As=>pN 1 k z fun a k=>nn (wp_ret (rt_then ?_)))
   cases h
   exact finR2 k z (RV.cA k z ta158 (As.at (m.a 0 z) 0 7 z z z) z) (RV.tmp k z) ⟨z,m.ext⟩
 refine wp_skip (nm_then ?_)
 refine wp_seq (d_go ([Ah]) mixo m z fun Am hMd=>?_)
 have m:=hMd
 have s:=Ext.refl (([Ah]):List Nat) Am
 refine dN [2,3] 2 z k (by kernel_rfl) z s (fun _ _ _ _ _=>id) fun a k=>dt k 0 z (by kernel_rfl) z s (fun _ _ _=>id) (fun w s=>r_fa fa38_6 k z z) fun a k=>dt k 1 z (by kernel_rfl) z s (fun _ _ _=>id) (fun w s=>r_ld1 t136 (r:=[]) (Aj.at (hMd.az 1 0 z z z s) 9 1 z z z) k z z) fun a k=>oE h fun Ax Ae h=>dt k 4 z (by kernel_rfl) z s (fun _ _ _=>id) (fun w s=>r_ixa Ab Ae k ts63 z z z) fun a k=>dt k 5 z (by kernel_rfl) z s (fun _ _ _=>id) (fun w s=>r_lde1 Ab (hMd.az0 0 z z (Enc.rd_lt Ab) s) Ae 0 t13 k z z z z) fun a k=>oE h fun Aa Ai h=>dt k 6 z (by kernel_rfl) z s (fun _ _ _=>id) (fun w s=>r_ixa Ac Ai k ts36 z z z) fun a k=>?_
 refine dt k 7 z (by kernel_rfl) z s (fun _ _ _=>id) (fun w s=>r_lde Ac (hMd.az0 0 z z (Enc.rd_lt Ac) s) Ai ta158 k z z) fun a k=>d_one 8 (by kernel_rfl) z (s_stb (cs':=[I Aa.fId,I Aa.fW,I Aa.fH,I Aa.fD,I Aa.fGram,I Aa.fClass,I Aa.fCount]) sizeOf158 m 0 Af 0 k z z z z z z z z z z z fun Au a k e m Ak=>?_)
 have s:=s.trans e (fun y hy=>Or.inl hy)
 refine wpList_nil ⟨s,?_⟩
 refine dN [9] 1 z k (by kernel_rfl) z s (fun _ _ _ _ _=>id) fun a k=>d_done (by kernel_rfl) ((nm_then ?_))
 refine wp_ret ?_
 cases h
 exact finR2 k z (RV.cA k z ta158 (Ak.at (m.a 0 z) 0 7 z z z) z) (RV.tmp k z) ⟨z,m.ext⟩
theorem c_spec_Volume (fu:Nat) {w0:World} (Ac:Int) (h2:Int) (d3:Int)  {r:Int}
    (h:d_spec_Volume fu Ac h2 d3 = some r) :
    Calls Tryz.prog 186 #[I Ac,I h2,I d3] w0 fun e w=>e = .returned (I r) ∧ Ext [] w0 w:=by
 refine enter (vs:=[_,_,_]) func186 z ntmps186 z fun a k=>?_
 have m:=St.start w0
 unfold d_spec_Volume at h
 refine wr (pN 1 k z fun a k=>nn (c_cut (fun a w=>K 25 [(0,I Ac),(1,I h2),(2,I d3)] a ∧ St [] w0 w [] ∧ d_spec_Volume_J1 fu Ac h2 d3 = some r) ?_ ?_))
 · rintro a Aj ⟨k,m,h⟩
   unfold d_spec_Volume_J1 at h
   refine wr (pN 6 k z fun a k=>nn (wp_ret (fS h k m z z)))
 refine wr (pN 1 k z fun a k=>oE h fun Ae Ah h=>cE k m call130 z z z (c_spec_l1In fu _ _ _  Ah) fun Am e a k m=>pN 2 k z fun a k=>bsplit (!Ae) (fun Ab=>?_) (fun Ab=>?_))
 · have h:=bif_t Ab h
   refine rB k 10 z Ab fun k=>pN 9 k z fun a k=>nn (wp_cond_true (k.ev z) (wr (pN 1 k z fun a k=>nn (wp_ret (rt_then ?_)))))
   refine fS h k m z z
 have h:=bif_f Ab h
 refine rB k 10 z Ab fun k=>pN 1 k z fun a k=>oE h fun Af Ai h=>cE k m call130 z z z (c_spec_l1In fu _ _ _  Ai) fun Ao e a k m=>pN 3 k z fun a k=>bsplit (!Af) (fun Aa=>?_) (fun Aa=>?_)
 · have h:=bif_t Aa h
   refine rB k 15 z Aa fun k=>pN 4 k z fun a k=>nn (wp_cond_true (k.ev z) (wr (pN 1 k z fun a k=>nn (wp_ret (rt_then ?_)))))
   refine fS h k m z z
 have h:=bif_f Aa h
 refine rB k 15 z Aa fun k=>pN 1 k z fun a k=>oE h fun Al Ag h=>cE k m call130 z z z (c_spec_l1In fu _ _ _  Ag) fun Ak e a k m=>pN 2 k z fun a k=>nn (cI h k z (fun Ad h=>?_) fun Ad h=>?_)
 · refine wr (pN 1 k z fun a k=>nn (wp_ret (rt_then ?_)))
   refine fS h k m z z
 refine wp_skip (nm_then ?_)
 exact ⟨k.keep [0,1,2] z,m.sel [] z (by decide),h⟩
theorem c_spec_l7Of (fu:Nat) {w0:World} (r1:Request) (Al:List Int) (Ao:List Int) {Bi:List Value} {F3:List Nat} (Cf:rd w0 F3 Bi r1) {v6:Value} {F7:List Nat} (Aw:rd w0 F7 [v6] Al) {Am:Value} {Bm:List Nat} (Av:rd w0 Bm [Am] Ao) {r:L7}
    (h:d_spec_l7Of fu r1 Al Ao = some r) :
    Calls Tryz.prog 254 #[.agg Bi.toArray,v6,Am] w0 fun e w=>e = .returned (.agg (Flat.e r).toArray) ∧ Ext [] w0 w:=by
 refine enter (vs:=[_,_,_]) func254 z ntmps254 z fun a k=>?_
 have m:=St.start w0
 obtain ⟨Be,Cs,Bb,Da,Az,Cr,rfl,rfl,Ap,As,Au⟩:=Cf
 unfold d_spec_l7Of at h
 refine wr (s_box (cs:=[I r1.fWay,I r1.fPallet.fW,I r1.fPallet.fD,I r1.fPallet.fH,I r1.fPallet.fGram,I r1.fClasses,Be,Bb,I r1.fMaster,Az]) m k z z z z z z fun Ah Ay a k m e Bx=>s_alloc (cs:=[I 0,I 0]) m k zeroValue224 z z z z z fun Ag Bc a k m e Cj=>nn (wr (sv k z (r_build bt224 k (cs:=#[I 0,I 0]) (ps:=[]) z z (by kernel_rfl)) fun a k=>s_alloc (cs:=[I 0,I 0]) m k zeroValue224 z z z z z fun Ac Ct a k m e Cp=>s_stb (cs':=[I 0,I 0]) sizeOf224 m 0 Cp 0 k z z z z z z z z z z z fun Bl a k e m Ca=>nn (wp_seq (wr (pN 1 k z fun a k=>nn (wp_block ?_)))))))
 refine c_loop (fun n a w=>∃ (Aa:L7) (Ar:World) (Ae:Int),K 46 [(1,v6),(2,Am),(3,.pointer (some (⟨Ah,0,none⟩:Addr))),(6,.pointer (some (⟨Ag,0,none⟩:Addr))),(7,.pointer (some (⟨Ac,0,none⟩:Addr))),(8,I Ae)] a ∧ St [] w0 w [([Ah],Ay),([Ag],Bc),([Ac],Ar)] ∧ bx Ar Ac [I Aa.fvol,I Aa.fgram] 224 ∧ d_spec_l7Of_L1 fu r1 Al Ao n Aa Ae = some r) ?_ ?_ fu _ _ ?_
 · rintro a w ⟨_,_,_,_,_,_,h⟩
   exact nS h
 · rintro Bg a Cq ⟨Aa,Ar,Ae,k,m,Ai,h⟩
   rw [d_spec_l7Of_L1_s] at h
   unfold d_spec_l7Of_L1_B at h
   refine wp_seq (wr (pN 2 k z fun a k=>sv k z (r_len (α:=Int) Av k underlying63 z z) fun a k=>pN 1 k z fun a k=>nn (cI h k z (fun Bs h=>?_) fun Bs h=>?_)))
   · refine wp_skip (nm_then ?_)
     refine c_cut (fun a w=>∃ (Ak:L7) (Aq:World),K 46 [(1,v6),(2,Am),(3,.pointer (some (⟨Ah,0,none⟩:Addr))),(6,.pointer (some (⟨Ag,0,none⟩:Addr))),(7,.pointer (some (⟨Ac,0,none⟩:Addr))),(8,I Ae)] a ∧ St [] w0 w [([Ah],Ay),([Ag],Bc),([Ac],Aq)] ∧ bx Aq Ac [I Ak.fvol,I Ak.fgram] 224 ∧ d_spec_l7Of_J1 fu (d_spec_l7Of_L1 fu r1 Al Ao Bg) Ae Ak = some r) ?_ ?_
     · rintro a Db ⟨Ak,Aq,k,m,Ck,h⟩
       unfold d_spec_l7Of_J1 at h
       refine wp_region_lit (pN 3 k z fun a k=>nn ?_)
       exact ⟨Ak,Aq,w64 (Ae + 1),k.keep [1,2,3,6,7,8] z,m.sel [0,1,2] z (by decide),Ck,h⟩
     refine wp_block (c_cut (fun a w=>∃ (Ab:Item) (At:Nat) (Ba:World),K 46 [(1,v6),(2,Am),(3,.pointer (some (⟨Ah,0,none⟩:Addr))),(6,.pointer (some (⟨Ag,0,none⟩:Addr))),(7,.pointer (some (⟨Ac,0,none⟩:Addr))),(8,I Ae),(9,.pointer (some (⟨At,0,none⟩:Addr)))] a ∧ St [] w0 w [([Ah],Ay),([Ag],Bc),([Ac],Ar),([At],Ba)] ∧ bx Ba At [I Ab.fId,I Ab.fW,I Ab.fH,I Ab.fD,I Ab.fGram,I Ab.fClass,I Ab.fCount] 158 ∧ d_spec_l7Of_J2 fu (d_spec_l7Of_L1 fu r1 Al Ao Bg) Aa Ae Ab = some r) ?_ ?_)
     · rintro a De ⟨Ab,At,Ba,k,m,Aj,h⟩
       unfold d_spec_l7Of_J2 at h
       refine wp_seq (d_go ([Ac]) mixo m z fun Cl hMd=>?_)
       have m:=hMd
       have s:=Ext.refl (([Ac]):List Nat) Cl
       refine dt k 0 z (by kernel_rfl) z s (fun _ _ _=>id) (fun w s=>r_fa fa224_0 k z z) fun a k=>dt k 2 z (by kernel_rfl) z s (fun _ _ _=>id) (fun w s=>r_fa fa158_1 k z z) fun a k=>dt k 3 z (by kernel_rfl) z s (fun _ _ _=>id) (fun w s=>r_ld1 t13 (r:=[]) (Aj.at (hMd.az 3 2 z z z s) 1 1 z z z) k z z) fun a k=>dt k 4 z (by kernel_rfl) z s (fun _ _ _=>id) (fun w s=>r_fa fa158_2 k z z) fun a k=>dt k 5 z (by kernel_rfl) z s (fun _ _ _=>id) (fun w s=>r_ld1 t13 (r:=[]) (Aj.at (hMd.az 3 2 z z z s) 2 1 z z z) k z z) fun a k=>dt k 6 z (by kernel_rfl) z s (fun _ _ _=>id) (fun w s=>r_fa fa158_3 k z z) fun a k=>?_
       refine dt k 7 z (by kernel_rfl) z s (fun _ _ _=>id) (fun w s=>r_ld1 t13 (r:=[]) (Aj.at (hMd.az 3 2 z z z s) 3 1 z z z) k z z) fun a k=>d_two 1 8 (by kernel_rfl) z z ?_ ?_ 
       · refine sv k z (r_ldb t13 m 2 Ai 0 k z z z z z) fun a k=>wpList_nil ⟨s,?_⟩
         refine d_one 8 (by kernel_rfl) z (oE h fun Bd Bk h=>cE k m call186 z z z (c_spec_Volume fu _ _ _  Bk) fun Cw e a k m=>?_)
         have s:=s.trans e (by simp)
         refine wpList_nil ⟨s,?_⟩
         refine dN [9] 1 z k (by kernel_rfl) z s (fun _ _ _ _ _=>id) fun a k=>dt k 10 z (by kernel_rfl) z s (fun _ _ _=>id) (fun w s=>r_fa fa224_0 k z z) fun a k=>d_one 11 (by kernel_rfl) z (s_stb (cs':=[I (w64 (Aa.fvol + Bd)),I Aa.fgram]) sizeOf3 m 2 Ai 0 k z z z z z z z z z z z fun Cu a k e m Bj=>?_)
         have s:=s.trans e (fun y hy=>Or.inl hy)
         refine wpList_nil ⟨s,?_⟩
         refine d_done (by kernel_rfl) ((nm_then ?_))
         refine wp_region_lit (sv k z (r_fa fa224_1 k z z) fun a k=>sv k z (r_ldb t13 m 2 Bj 1 k z z z z z) fun a k=>sv k z (r_fa fa158_4 k z z) fun a k=>sv k z (r_ldb t13 m 3 Aj 4 k z z z z z) fun a k=>pN 1 k z fun a k=>sv k z (r_fa fa224_1 k z z) fun a k=>s_stb (cs':=[I (w64 (Aa.fvol + Bd)),I (w64 (Aa.fgram + Ab.fGram))]) sizeOf3 m 2 Bj 1 k z z z z z z z z z z z fun Cg a k e m Bt=>wpList_nil (nm_block (nm_then ?_)))
         exact ⟨(⟨w64 (Aa.fvol + Bd),w64 (Aa.fgram + Ab.fGram)⟩:L7),Cg,k.keep [1,2,3,6,7,8] z,m.sel [0,1,2] z (by decide),Bt,h⟩
       refine oE h fun Ax Bq h=>cE k m call186 z z z (c_spec_Volume fu _ _ _  Bq) fun Cz e a k m=>?_
       have s:=s.trans e (by simp)
       refine wpList_nil ⟨s,?_⟩
       refine d_one 1 (by kernel_rfl) z (sv k z (r_ldb t13 m 2 Ai 0 k z z z z z) fun a k=>wpList_nil ⟨s,?_⟩)
       refine dN [9] 1 z k (by kernel_rfl) z s (fun _ _ _ _ _=>id) fun a k=>dt k 10 z (by kernel_rfl) z s (fun _ _ _=>id) (fun w s=>r_fa fa224_0 k z z) fun a k=>d_one 11 (by kernel_rfl) z (s_stb (cs':=[I (w64 (Aa.fvol + Ax)),I Aa.fgram]) sizeOf3 m 2 Ai 0 k z z z z z z z z z z z fun Cx a k e m Bh=>?_)
       have s:=s.trans e (fun y hy=>Or.inl hy)
       refine wpList_nil ⟨s,?_⟩
       refine d_done (by kernel_rfl) ((nm_then ?_))
       refine wp_region_lit (sv k z (r_fa fa224_1 k z z) fun a k=>sv k z (r_ldb t13 m 2 Bh 1 k z z z z z) fun a k=>sv k z (r_fa fa158_4 k z z) fun a k=>sv k z (r_ldb t13 m 3 Aj 4 k z z z z z) fun a k=>pN 1 k z fun a k=>sv k z (r_fa fa224_1 k z z) fun a k=>s_stb (cs':=[I (w64 (Aa.fvol + Ax)),I (w64 (Aa.fgram + Ab.fGram))]) sizeOf3 m 2 Bh 1 k z z z z z z z z z z z fun Bu a k e m Br=>wpList_nil (nm_block (nm_then ?_)))
       exact ⟨(⟨w64 (Aa.fvol + Ax),w64 (Aa.fgram + Ab.fGram)⟩:L7),Bu,k.keep [1,2,3,6,7,8] z,m.sel [0,1,2] z (by decide),Br,h⟩
     refine d_go [] mixo m z fun Co hMd=>?_
     have m:=hMd
     have s:=Ext.refl ([]:List Nat) Co
     refine dN [1,2,3] 3 z k (by kernel_rfl) z s (fun _ _ _ _ _=>id) fun a k=>dt k 0 z (by kernel_rfl) z s (fun _ _ _=>id) (fun w s=>r_ldA ta38 (Bx.at ((hMd.step s).a 0 z) 0 10 z z z) z k z z) fun a k=>oE h fun Dc Bf h=>dt k 4 z (by kernel_rfl) z s (fun _ _ _=>id) (fun w s=>r_ixa Av Bf k ts63 z z z) fun a k=>dt k 5 z (by kernel_rfl) z s (fun _ _ _=>id) (fun w s=>r_lde1 Av ((hMd.step s).a00 (Enc.rd_lt Av)) Bf 0 t13 k z z z z) fun a k=>d_two 6 10 (by kernel_rfl) z z ?_ ?_ 
     · refine oE h fun Ad Bz h=>cE k m call168 z z z (c_spec_l6Item fu _ _ _ (show rd _ _ [I r1.fWay,I r1.fPallet.fW,I r1.fPallet.fD,I r1.fPallet.fH,I r1.fPallet.fGram,I r1.fClasses,Be,Bb,I r1.fMaster,Az] (r1:Request) from ⟨_,_,_,_,_,_,z,z,(Enc.rd_agr Ap (m.a00 (Enc.rd_lt Ap))),(Enc.rd_agr As (m.a00 (Enc.rd_lt As))),(Enc.rd_agr Au (m.a00 (Enc.rd_lt Au)))⟩) (Enc.rd_agr Aw (m.a00 (Enc.rd_lt Aw))) Bz) fun Cv e a k m=>?_
       have s:=s.trans e (by simp)
       refine wpList_nil ⟨s,?_⟩
       refine dN [7,8,9] 3 z k (by kernel_rfl) z s (fun _ _ _ _ _=>id) fun a k=>d_one 10 (by kernel_rfl) z (s_allocN (cs:=[I 0,I 0,I 0,I 0,I 0,I 0,I 0]) m k zeroValue158 z z z z z fun Ce Dd a k m e Ch Ci=>?_)
       have Bw:=lo1 (Nat.le_trans s.size Ci)
       have s:=s.trans e (by simp)
       refine wpList_nil ⟨s,?_⟩
       refine d_one 11 (by kernel_rfl) z (s_stb (cs':=[I Ad.1.fId,I Ad.1.fW,I Ad.1.fH,I Ad.1.fD,I Ad.1.fGram,I Ad.1.fClass,I Ad.1.fCount]) sizeOf158 m 0 Ch 0 k z z z z z z z z z z z fun Cn a k e m Cc=>?_)
       have s:=s.trans e (fun y hy=>Or.inr (Bw y hy))
       refine wpList_nil ⟨s,?_⟩
       refine dN [12] 1 z k (by kernel_rfl) z s (fun _ _ _ _ _=>id) fun a k=>d_done (by kernel_rfl) ((nm_then ?_))
       exact ⟨Ad.1,Ce,Cn,k.keep [1,2,3,6,7,8,9] z,m.sel [1,2,3,0] z (by decide),Cc,h⟩
     refine s_allocN (cs:=[I 0,I 0,I 0,I 0,I 0,I 0,I 0]) m k zeroValue158 z z z z z fun Bo Cy a k m e Bp Cb=>?_
     have Bv:=lo1 (Nat.le_trans s.size Cb)
     have s:=s.trans e (by simp)
     refine wpList_nil ⟨s,?_⟩
     refine d_one 6 (by kernel_rfl) z (oE h fun Af Bn h=>cE k m call168 z z z (c_spec_l6Item fu _ _ _ (show rd _ _ [I r1.fWay,I r1.fPallet.fW,I r1.fPallet.fD,I r1.fPallet.fH,I r1.fPallet.fGram,I r1.fClasses,Be,Bb,I r1.fMaster,Az] (r1:Request) from ⟨_,_,_,_,_,_,z,z,(Enc.rd_agr Ap (m.a00 (Enc.rd_lt Ap))),(Enc.rd_agr As (m.a00 (Enc.rd_lt As))),(Enc.rd_agr Au (m.a00 (Enc.rd_lt Au)))⟩) (Enc.rd_agr Aw (m.a00 (Enc.rd_lt Aw))) Bn) fun Dg e a k m=>?_)
     have s:=s.trans e (by simp)
     refine wpList_nil ⟨s,?_⟩
     refine dN [7,8,9] 3 z k (by kernel_rfl) z s (fun _ _ _ _ _=>id) fun a k=>d_one 11 (by kernel_rfl) z (s_stb (cs':=[I Af.1.fId,I Af.1.fW,I Af.1.fH,I Af.1.fD,I Af.1.fGram,I Af.1.fClass,I Af.1.fCount]) sizeOf158 m 0 Bp 0 k z z z z z z z z z z z fun By a k e m Cm=>?_)
     have s:=s.trans e (fun y hy=>Or.inr (Bv y hy))
     refine wpList_nil ⟨s,?_⟩
     refine dN [12] 1 z k (by kernel_rfl) z s (fun _ _ _ _ _=>id) fun a k=>d_done (by kernel_rfl) ((nm_then ?_))
     exact ⟨Af.1,Bo,By,k.keep [1,2,3,6,7,8,9] z,m.sel [1,2,3,0] z (by decide),Cm,h⟩
   refine wp_exit (ex_then (ex_then (ex_same (nm_then ?_))))
   refine wr (sv k z (r_ldB ta224 m 2 Ai 0 k z z z z z z) fun a k=>s_stb (cs':=[I Aa.fvol,I Aa.fgram]) sizeOf224 m 1 Cj 0 k z z z z z z z z z z z fun Df a k e m Cd=>nn (wp_ret ?_))
   cases h
   exact finR1 k z (RV.cA k z ta224 (Cd.at (m.a 1 z) 0 2 z z z) z) ⟨z,m.ext⟩
 exact ⟨(⟨0,0⟩:L7),Bl,0,k.keep [1,2,3,6,7,8] z,m.sel [2,1,0] z (by decide),Ca,h⟩
theorem c_spec_Holds (fu:Nat) {w0:World} (r1:Request) (Ak:List Int) (t9:Typ) {Bg:List Value} {F3:List Nat} (By:rd w0 F3 Bg r1) {v6:Value} {F7:List Nat} (Am:rd w0 F7 [v6] Ak) {r:Bool}
    (h:d_spec_Holds fu r1 Ak t9 = some r) :
    Calls Tryz.prog 212 #[.agg Bg.toArray,v6,.agg (Flat.e (t9)).toArray] w0 fun e w=>e = .returned (.bool (r)) ∧ Ext [] w0 w:=by
 refine enter (vs:=[_,_,_]) func212 z ntmps212 z fun a k=>?_
 have m:=St.start w0
 obtain ⟨Al,Cp,Aj,Dc,Ao,Ct,rfl,rfl,Ad,Ab,Aa⟩:=By
 unfold d_spec_Holds at h
 refine wr (s_box (cs:=[I r1.fWay,I r1.fPallet.fW,I r1.fPallet.fD,I r1.fPallet.fH,I r1.fPallet.fGram,I r1.fClasses,Al,Aj,I r1.fMaster,Ao]) m k z z z z z z fun Ag Aw a k m e Au=>s_box (cs:=[I t9.fId,I t9.fW,I t9.fH,I t9.fD,I t9.fTare,I t9.fGram,I t9.fCost]) m k z z z z z z fun Ah Ax a k m e Aq=>pN 1 k z fun a k=>nn (wp_seq (wr (sv k z (r_ldB ta38 m 1 Au 0 k z z z z z z) fun a k=>oE h fun Cs Cb h=>?_))))
 refine cE k m call74 z z z (c_spec_Class fu _ (show rd _ _ [I r1.fWay,I r1.fPallet.fW,I r1.fPallet.fD,I r1.fPallet.fH,I r1.fPallet.fGram,I r1.fClasses,Al,Aj,I r1.fMaster,Ao] (r1:Request) from ⟨_,_,_,_,_,_,z,z,(Enc.rd_agr Ad (m.a00 (Enc.rd_lt Ad))),(Enc.rd_agr Ab (m.a00 (Enc.rd_lt Ab))),(Enc.rd_agr Aa (m.a00 (Enc.rd_lt Aa)))⟩) Cb) fun Co e a k m=>pN 1 k z fun a k=>nn (cI h k z (fun Ci h=>?_) fun Ci h=>?_)
 · refine wr (pN 1 k z fun a k=>nn (wp_ret (rt_then ?_)))
   refine fS h k m z z
 refine wp_skip (nm_then ?_)
 refine wr (sv k z (r_ldB ta38 m 1 Au 0 k z z z z z z) fun a k=>oE h fun Ba Bv h=>s_call k call90 z z z z z (c_spec_l6Units fu _ (show rd _ _ [I r1.fWay,I r1.fPallet.fW,I r1.fPallet.fD,I r1.fPallet.fH,I r1.fPallet.fGram,I r1.fClasses,Al,Aj,I r1.fMaster,Ao] (r1:Request) from ⟨_,_,_,_,_,_,z,z,(Enc.rd_agr Ad (m.a00 (Enc.rd_lt Ad))),(Enc.rd_agr Ab (m.a00 (Enc.rd_lt Ab))),(Enc.rd_agr Aa (m.a00 (Enc.rd_lt Aa)))⟩) Bv) fun Cm Av hR=>?_)
 obtain ⟨Bb,Ap,rfl,e,As,Bj⟩:=hR
 refine ⟨_,z,fun a k=>?_⟩
 have m:=m.new e Ap (fun b hb=>⟨Bj b hb,Enc.rd_lt (Enc.ow_rd As) b hb⟩) (Enc.ow_nd As)
 refine pN 1 k z fun a k=>nn (c_cut (fun a w=>K 62 [(1,v6),(3,.pointer (some (⟨Ag,0,none⟩:Addr))),(5,.pointer (some (⟨Ah,0,none⟩:Addr))),(7,Bb)] a ∧ St [] w0 w [([Ag],Aw),([Ah],Ax),(Ap,Av)] ∧ d_spec_Holds_J1 fu r1 Ak t9 Ba = some r) ?_ ?_)
 · rintro a Cn ⟨k,m,h⟩
   unfold d_spec_Holds_J1 at h
   refine wr (sv k z (r_ldB ta38 m 0 Au 0 k z z z z z z) fun a k=>pN 2 k z fun a k=>oE h fun Bd Cg h=>cE k m call254 z z z (c_spec_l7Of fu _ _ _ (show rd _ _ [I r1.fWay,I r1.fPallet.fW,I r1.fPallet.fD,I r1.fPallet.fH,I r1.fPallet.fGram,I r1.fClasses,Al,Aj,I r1.fMaster,Ao] (r1:Request) from ⟨_,_,_,_,_,_,z,z,(Enc.rd_agr Ad (m.a00 (Enc.rd_lt Ad))),(Enc.rd_agr Ab (m.a00 (Enc.rd_lt Ab))),(Enc.rd_agr Aa (m.a00 (Enc.rd_lt Aa)))⟩) (Enc.rd_agr (Enc.ow_rd As) (m.a 2 z)) (Enc.rd_agr Am (m.a00 (Enc.rd_lt Am))) Cg) fun Db e a k m=>s_alloc (cs:=[I 0,I 0]) m k zeroValue224 z z z z z fun Da Cq a k m e Bu=>?_)
   refine s_stb (cs':=[I Bd.fvol,I Bd.fgram]) sizeOf224 m 0 Bu 0 k z z z z z z z z z z z fun Df a k e m Bf=>nn (wp_seq (d_go [] mixo m z fun Cj hMd=>?_))
   have m:=hMd
   have s:=Ext.refl ([]:List Nat) Cj
   refine dt k 0 z (by kernel_rfl) z s (fun _ _ _=>id) (fun w s=>r_fa fa224_0 k z z) fun a k=>dt k 1 z (by kernel_rfl) z s (fun _ _ _=>id) (fun w s=>r_ld1 t13 (r:=[]) (Bf.at ((hMd.step s).a 0 z) 0 1 z z z) k z z) fun a k=>dt k 2 z (by kernel_rfl) z s (fun _ _ _=>id) (fun w s=>r_fa fa79_1 k z z) fun a k=>dt k 3 z (by kernel_rfl) z s (fun _ _ _=>id) (fun w s=>r_ld1 t13 (r:=[]) (Aq.at ((hMd.step s).a 2 z) 1 1 z z z) k z z) fun a k=>dt k 4 z (by kernel_rfl) z s (fun _ _ _=>id) (fun w s=>r_fa fa79_2 k z z) fun a k=>dt k 5 z (by kernel_rfl) z s (fun _ _ _=>id) (fun w s=>r_ld1 t13 (r:=[]) (Aq.at ((hMd.step s).a 2 z) 2 1 z z z) k z z) fun a k=>?_
   refine dt k 6 z (by kernel_rfl) z s (fun _ _ _=>id) (fun w s=>r_fa fa79_3 k z z) fun a k=>dt k 7 z (by kernel_rfl) z s (fun _ _ _=>id) (fun w s=>r_ld1 t13 (r:=[]) (Aq.at ((hMd.step s).a 2 z) 3 1 z z z) k z z) fun a k=>d_one 8 (by kernel_rfl) z (oE h fun Bz Ch h=>cE k m call186 z z z (c_spec_Volume fu _ _ _  Ch) fun Cz e a k m=>?_)
   have s:=s.trans e (by simp)
   refine wpList_nil ⟨s,?_⟩
   refine dN [9,10] 2 z k (by kernel_rfl) z s (fun _ _ _ _ _=>id) fun a k=>bsplit (decide (Bd.fvol ≤ Bz)) (fun Ar=>?_) (fun Ar=>?_)
   · have h:=bif_t Ar h
     refine rB k 55 z Ar fun k=>dt k 11 z (by kernel_rfl) z s (fun _ _ _=>id) (fun w s=>r_fa fa224_1 k z z) fun a k=>dt k 12 z (by kernel_rfl) z s (fun _ _ _=>id) (fun w s=>r_ld1 t13 (r:=[]) (Bf.at ((hMd.step s).a 0 z) 1 1 z z z) k z z) fun a k=>dt k 13 z (by kernel_rfl) z s (fun _ _ _=>id) (fun w s=>r_fa fa79_5 k z z) fun a k=>dt k 14 z (by kernel_rfl) z s (fun _ _ _=>id) (fun w s=>r_ld1 t13 (r:=[]) (Aq.at ((hMd.step s).a 2 z) 5 1 z z z) k z z) fun a k=>dN [15,16,17] 3 z k (by kernel_rfl) z s (fun _ _ _ _ _=>id) fun a k=>d_done (by kernel_rfl) ((nm_then ?_))
     refine wp_ret (fS h k m z z)
   have h:=bif_f Ar h
   refine rB k 55 z Ar fun k=>dN [11,12,13,14,15,16,17] 7 z k (by kernel_rfl) z s (fun _ _ _ _ _=>id) fun a k=>d_done (by kernel_rfl) ((nm_then ?_))
   refine wp_ret (fS h k m z z)
 refine wr (pN 1 k z fun a k=>nn (wp_block (c_loop (fun n a w=>∃ (Ai:Int),K 62 [(1,v6),(3,.pointer (some (⟨Ag,0,none⟩:Addr))),(5,.pointer (some (⟨Ah,0,none⟩:Addr))),(7,Bb),(8,I Ai)] a ∧ St [] w0 w [([Ag],Aw),([Ah],Ax),(Ap,Av)] ∧ d_spec_Holds_L1 fu r1 Ak t9 Ba n Ai = some r) ?_ ?_ fu _ _ ?_)))
 · rintro a w ⟨_,_,_,h⟩
   exact nS h
 · rintro Bh a Cx ⟨Ai,k,m,h⟩
   rw [d_spec_Holds_L1_s] at h
   unfold d_spec_Holds_L1_B at h
   refine wp_seq (wr (pN 2 k z fun a k=>sv k z (r_len (α:=Int) Am k underlying63 z z) fun a k=>pN 1 k z fun a k=>nn (cI h k z (fun Bm h=>?_) fun Bm h=>?_)))
   · refine wp_skip (nm_then ?_)
     refine c_cut (fun a w=>K 62 [(1,v6),(3,.pointer (some (⟨Ag,0,none⟩:Addr))),(5,.pointer (some (⟨Ah,0,none⟩:Addr))),(7,Bb),(8,I Ai)] a ∧ St [] w0 w [([Ag],Aw),([Ah],Ax),(Ap,Av)] ∧ d_spec_Holds_J2 fu (d_spec_Holds_L1 fu r1 Ak t9 Ba Bh) Ai = some r) ?_ ?_
     · rintro a Cv ⟨k,m,h⟩
       unfold d_spec_Holds_J2 at h
       refine wp_region_lit (pN 3 k z fun a k=>nn ?_)
       exact ⟨w64 (Ai + 1),k.keep [1,3,5,7,8] z,m.sel [0,1,2] z (by decide),h⟩
     refine wp_block (c_cut (fun a w=>∃ (Ac:Item) (Az:Nat) (Bc:World) (Ay:Bool),K 62 [(1,v6),(3,.pointer (some (⟨Ag,0,none⟩:Addr))),(5,.pointer (some (⟨Ah,0,none⟩:Addr))),(7,Bb),(8,I Ai),(9,.pointer (some (⟨Az,0,none⟩:Addr))),(10,.bool (Ay))] a ∧ St [] w0 w [([Ag],Aw),([Ah],Ax),(Ap,Av),([Az],Bc)] ∧ bx Bc Az [I Ac.fId,I Ac.fW,I Ac.fH,I Ac.fD,I Ac.fGram,I Ac.fClass,I Ac.fCount] 158 ∧ d_spec_Holds_J3 fu (d_spec_Holds_L1 fu r1 Ak t9 Ba Bh) t9 Ai Ac Ay = some r) ?_ ?_)
     · rintro a Cy ⟨Ac,Az,Bc,Ay,k,m,Bs,h⟩
       unfold d_spec_Holds_J3 at h
       refine wr (pN 3 k z fun a k=>bsplit (!Ay) (fun At=>?_) (fun At=>?_))
       · have h:=bif_t At h
         refine rB k 35 z At fun k=>pN 5 k z fun a k=>nn (wp_cond_true (k.ev z) (wr (pN 1 k z fun a k=>nn (wp_ret (rt_block (rt_then (rt_then (rt_block (rt_then ?_)))))))))
         refine fS h k m z z
       have h:=bif_f At h
       refine rB k 35 z At fun k=>sv k z (r_ldB ta158 m 3 Bs 0 k z z z z z z) fun a k=>sv k z (r_ldB ta79 m 1 Aq 0 k z z z z z z) fun a k=>oE h fun Dg Br h=>cE k m call190 z z z (c_spec_Fits fu (Ac:Item) (t9:Typ)  Br) fun De e a k m=>pN 2 k z fun a k=>nn (cI h k z (fun Bq h=>?_) fun Bq h=>?_)
       · refine wr (pN 1 k z fun a k=>nn (wp_ret (rt_block (rt_then (rt_then (rt_block (rt_then ?_)))))))
         refine fS h k m z z
       refine wp_skip (nm_block (nm_then ?_))
       exact ⟨k.keep [1,3,5,7,8] z,m.sel [0,1,2] z (by decide),h⟩
     refine d_go [] mixo m z fun Bk hMd=>?_
     have m:=hMd
     have s:=Ext.refl ([]:List Nat) Bk
     refine dN [1,2,3] 3 z k (by kernel_rfl) z s (fun _ _ _ _ _=>id) fun a k=>dt k 0 z (by kernel_rfl) z s (fun _ _ _=>id) (fun w s=>r_ldA ta38 (Au.at ((hMd.step s).a 0 z) 0 10 z z z) z k z z) fun a k=>oE h fun Cr Be h=>dt k 4 z (by kernel_rfl) z s (fun _ _ _=>id) (fun w s=>r_ixa Am Be k ts63 z z z) fun a k=>dt k 5 z (by kernel_rfl) z s (fun _ _ _=>id) (fun w s=>r_lde1 Am ((hMd.step s).a00 (Enc.rd_lt Am)) Be 0 t13 k z z z z) fun a k=>d_two 6 10 (by kernel_rfl) z z ?_ ?_ 
     · refine oE h fun Af Bi h=>cE k m call168 z z z (c_spec_l6Item fu _ _ _ (show rd _ _ [I r1.fWay,I r1.fPallet.fW,I r1.fPallet.fD,I r1.fPallet.fH,I r1.fPallet.fGram,I r1.fClasses,Al,Aj,I r1.fMaster,Ao] (r1:Request) from ⟨_,_,_,_,_,_,z,z,(Enc.rd_agr Ad (m.a00 (Enc.rd_lt Ad))),(Enc.rd_agr Ab (m.a00 (Enc.rd_lt Ab))),(Enc.rd_agr Aa (m.a00 (Enc.rd_lt Aa)))⟩) (Enc.rd_agr (Enc.ow_rd As) (m.a 2 z)) Bi) fun Dd e a k m=>?_
       have s:=s.trans e (by simp)
       refine wpList_nil ⟨s,?_⟩
       refine dN [7,8,9] 3 z k (by kernel_rfl) z s (fun _ _ _ _ _=>id) fun a k=>d_one 10 (by kernel_rfl) z (s_allocN (cs:=[I 0,I 0,I 0,I 0,I 0,I 0,I 0]) m k zeroValue158 z z z z z fun Bl Cu a k m e Bn Bp=>?_)
       have Ck:=lo1 (Nat.le_trans s.size Bp)
       have s:=s.trans e (by simp)
       refine wpList_nil ⟨s,?_⟩
       refine d_one 11 (by kernel_rfl) z (s_stb (cs':=[I Af.1.fId,I Af.1.fW,I Af.1.fH,I Af.1.fD,I Af.1.fGram,I Af.1.fClass,I Af.1.fCount]) sizeOf158 m 0 Bn 0 k z z z z z z z z z z z fun Ca a k e m Ce=>?_)
       have s:=s.trans e (fun y hy=>Or.inr (Ck y hy))
       refine wpList_nil ⟨s,?_⟩
       refine dN [12] 1 z k (by kernel_rfl) z s (fun _ _ _ _ _=>id) fun a k=>d_done (by kernel_rfl) ((nm_then ?_))
       exact ⟨Af.1,Bl,Ca,Af.2,k.keep [1,3,5,7,8,9,10] z,m.sel [1,2,3,0] z (by decide),Ce,h⟩
     refine s_allocN (cs:=[I 0,I 0,I 0,I 0,I 0,I 0,I 0]) m k zeroValue158 z z z z z fun Bw Cl a k m e Cd Cc=>?_
     have Cf:=lo1 (Nat.le_trans s.size Cc)
     have s:=s.trans e (by simp)
     refine wpList_nil ⟨s,?_⟩
     refine d_one 6 (by kernel_rfl) z (oE h fun Ae Bx h=>cE k m call168 z z z (c_spec_l6Item fu _ _ _ (show rd _ _ [I r1.fWay,I r1.fPallet.fW,I r1.fPallet.fD,I r1.fPallet.fH,I r1.fPallet.fGram,I r1.fClasses,Al,Aj,I r1.fMaster,Ao] (r1:Request) from ⟨_,_,_,_,_,_,z,z,(Enc.rd_agr Ad (m.a00 (Enc.rd_lt Ad))),(Enc.rd_agr Ab (m.a00 (Enc.rd_lt Ab))),(Enc.rd_agr Aa (m.a00 (Enc.rd_lt Aa)))⟩) (Enc.rd_agr (Enc.ow_rd As) (m.a 3 z)) Bx) fun Cw e a k m=>?_)
     have s:=s.trans e (by simp)
     refine wpList_nil ⟨s,?_⟩
     refine dN [7,8,9] 3 z k (by kernel_rfl) z s (fun _ _ _ _ _=>id) fun a k=>d_one 11 (by kernel_rfl) z (s_stb (cs':=[I Ae.1.fId,I Ae.1.fW,I Ae.1.fH,I Ae.1.fD,I Ae.1.fGram,I Ae.1.fClass,I Ae.1.fCount]) sizeOf158 m 0 Cd 0 k z z z z z z z z z z z fun Bt a k e m Bo=>?_)
     have s:=s.trans e (fun y hy=>Or.inr (Cf y hy))
     refine wpList_nil ⟨s,?_⟩
     refine dN [12] 1 z k (by kernel_rfl) z s (fun _ _ _ _ _=>id) fun a k=>d_done (by kernel_rfl) ((nm_then ?_))
     exact ⟨Ae.1,Bw,Bt,Ae.2,k.keep [1,3,5,7,8,9,10] z,m.sel [1,2,3,0] z (by decide),Bo,h⟩
   refine wp_exit (ex_then (ex_then (ex_same (nm_then ?_))))
   exact ⟨k.keep [1,3,5,7] z,m.sel [0,1,2] z (by decide),h⟩
 exact ⟨0,k.keep [1,3,5,7,8] z,m.sel [2,1,0] z (by decide),h⟩
theorem c_spec_l15Holds (fu:Nat) {w0:World} (r1:Request) (x5:Plan) {Ax:List Value} {F3:List Nat} (Bq:rd w0 F3 Ax r1) {Az:List Value} {F7:List Nat} (Cb:rd w0 F7 Az x5) {r:Bool}
    (h:d_spec_l15Holds fu r1 x5 = some r) :
    Calls Tryz.prog 107 #[.agg Ax.toArray,.agg Az.toArray] w0 fun e w=>e = .returned (.bool (r)) ∧ Ext [] w0 w:=by
 refine enter (vs:=[_,_]) func107 z ntmps107 z fun a k=>?_
 have m:=St.start w0
 obtain ⟨v9,Cp,Al,Cq,Ap,Cj,rfl,rfl,Ag,Aj,Ai⟩:=Bq
 obtain ⟨Bs,Cx,Bf,Da,rfl,rfl,Ae,Cf⟩:=Cb
 unfold d_spec_l15Holds at h
 refine wr (s_box (cs:=[I r1.fWay,I r1.fPallet.fW,I r1.fPallet.fD,I r1.fPallet.fH,I r1.fPallet.fGram,I r1.fClasses,v9,Al,I r1.fMaster,Ap]) m k z z z z z z fun Ah As a k m e Ba=>s_box (cs:=[Bs,Bf]) m k z z z z z z fun Af Ar a k m e At=>pN 1 k z fun a k=>nn (wp_seq (wr (pN 1 k z fun a k=>nn (wp_block (c_loop (fun n a w=>∃ (Ad:Int),K 40 [(2,.pointer (some (⟨Ah,0,none⟩:Addr))),(3,.pointer (some (⟨Af,0,none⟩:Addr))),(5,I Ad)] a ∧ St [] w0 w [([Ah],As),([Af],Ar)] ∧ d_spec_l15Holds_L1 fu r1 x5 n Ad = some r) ?_ ?_ fu _ _ ?_))))))
 · rintro a w ⟨_,_,_,h⟩
   exact nS h
 · rintro Au a Cu ⟨Ad,k,m,h⟩
   rw [d_spec_l15Holds_L1_s] at h
   unfold d_spec_l15Holds_L1_B at h
   refine wp_seq (wr (pN 1 k z fun a k=>sv k z (r_fa fa58_0 k z z) fun a k=>sv k z (r_ldb t155 m 1 At 0 k z z z z z) fun a k=>sv k z (r_len (α:=Carton) Ae k underlying55 z z) fun a k=>pN 1 k z fun a k=>nn (cI h k z (fun By h=>?_) fun By h=>?_)))
   · refine wp_skip (nm_then ?_)
     refine c_cut (fun a w=>K 40 [(2,.pointer (some (⟨Ah,0,none⟩:Addr))),(3,.pointer (some (⟨Af,0,none⟩:Addr))),(5,I Ad)] a ∧ St [] w0 w [([Ah],As),([Af],Ar)] ∧ d_spec_l15Holds_J1 fu (d_spec_l15Holds_L1 fu r1 x5 Au) Ad = some r) ?_ ?_
     · rintro a Cl ⟨k,m,h⟩
       unfold d_spec_l15Holds_J1 at h
       refine wp_region_lit (pN 3 k z fun a k=>nn ?_)
       exact ⟨w64 (Ad + 1),k.keep [2,3,5] z,m.sel [0,1] z (by decide),h⟩
     refine wp_block (c_cut (fun a w=>∃ (Aa:Typ) (Ao:Nat) (Aq:World) (Am:Bool),K 40 [(2,.pointer (some (⟨Ah,0,none⟩:Addr))),(3,.pointer (some (⟨Af,0,none⟩:Addr))),(5,I Ad),(6,.pointer (some (⟨Ao,0,none⟩:Addr))),(7,.bool (Am))] a ∧ St [] w0 w [([Ah],As),([Af],Ar),([Ao],Aq)] ∧ bx Aq Ao [I Aa.fId,I Aa.fW,I Aa.fH,I Aa.fD,I Aa.fTare,I Aa.fGram,I Aa.fCost] 79 ∧ d_spec_l15Holds_J2 fu (d_spec_l15Holds_L1 fu r1 x5 Au) r1 x5 Ad Aa Am = some r) ?_ ?_)
     · rintro a Cy ⟨Aa,Ao,Aq,Am,k,m,Bi,h⟩
       unfold d_spec_l15Holds_J2 at h
       refine wp_seq (d_go [] mixo m z fun Bl hMd=>?_)
       have m:=hMd
       have s:=Ext.refl ([]:List Nat) Bl
       refine dN [0,1,2] 3 z k (by kernel_rfl) z s (fun _ _ _ _ _=>id) fun a k=>bsplit (!Am) (fun Ak=>?_) (fun Ak=>?_)
       · have h:=bif_t Ak h
         refine rB k 28 z Ak fun k=>dN [3,4,5,6,7,8,9,10,11,12,13] 11 z k (by kernel_rfl) z s (fun _ _ _ _ _=>id) fun a k=>d_done (by kernel_rfl) ((nm_then ?_))
         refine wp_cond_true (k.ev z) (wr (pN 1 k z fun a k=>nn (wp_ret (rt_block (rt_then (rt_then (rt_block (rt_then ?_))))))))
         refine fS h k m z z
       have h:=bif_f Ak h
       refine rB k 28 z Ak fun k=>dN [6] 1 z k (by kernel_rfl) z s (fun _ _ _ _ _=>id) fun a k=>dt k 3 z (by kernel_rfl) z s (fun _ _ _=>id) (fun w s=>r_ldA ta38 (Ba.at ((hMd.step s).a 0 z) 0 10 z z z) z k z z) fun a k=>dt k 4 z (by kernel_rfl) z s (fun _ _ _=>id) (fun w s=>r_fa fa58_0 k z z) fun a k=>dt k 5 z (by kernel_rfl) z s (fun _ _ _=>id) (fun w s=>r_ld1 t155 (r:=[]) (At.at ((hMd.step s).a 1 z) 0 1 z z z) k z z) fun a k=>oE h fun Cv Ay h=>dt k 7 z (by kernel_rfl) z s (fun _ _ _=>id) (fun w s=>r_ixa Ae Ay k ts55 z z z) fun a k=>dt k 8 z (by kernel_rfl) z s (fun _ _ _=>id) (fun w s=>r_fa fa83_2 k z z) fun a k=>?_
       obtain ⟨Cm,Ch,Cw,Bh,Bv,Bj⟩:=rd_get Ae (ix_some Ay).2.2
       obtain ⟨Cr,_,rfl,rfl,Av⟩:=Bh
       refine dt k 9 z (by kernel_rfl) z s (fun _ _ _=>id) (fun w s=>r_ld1 t163 ((Bv.agr ((hMd.step s).a00 (Enc.rd_lt Ae)) Bj).fld 2 1 (Nat.le_of_ble_eq_true z)) k z z) fun a k=>dt k 10 z (by kernel_rfl) z s (fun _ _ _=>id) (fun w s=>r_ldA ta79 (Bi.at ((hMd.step s).a 2 z) 0 7 z z z) z k z z) fun a k=>d_one 11 (by kernel_rfl) z (oE h fun Ci Cd h=>?_)
       refine cE k m call212 z z z (c_spec_Holds fu _ _ (Aa:Typ) (show rd _ _ [I r1.fWay,I r1.fPallet.fW,I r1.fPallet.fD,I r1.fPallet.fH,I r1.fPallet.fGram,I r1.fClasses,v9,Al,I r1.fMaster,Ap] (r1:Request) from ⟨_,_,_,_,_,_,z,z,(Enc.rd_agr Ag (m.a00 (Enc.rd_lt Ag))),(Enc.rd_agr Aj (m.a00 (Enc.rd_lt Aj))),(Enc.rd_agr Ai (m.a00 (Enc.rd_lt Ai)))⟩) (Enc.rd_agr Av (m.a00 (Enc.rd_lt Av))) Cd) fun Co e a k m=>?_
       have s:=s.trans e (by simp)
       refine wpList_nil ⟨s,?_⟩
       refine dN [12,13] 2 z k (by kernel_rfl) z s (fun _ _ _ _ _=>id) fun a k=>d_done (by kernel_rfl) ((nm_then ?_))
       refine cI h k z (fun Bw h=>?_) fun Bw h=>?_
       · refine wr (pN 1 k z fun a k=>nn (wp_ret (rt_block (rt_then (rt_then (rt_block (rt_then ?_)))))))
         refine fS h k m z z
       refine wp_skip (nm_block (nm_then ?_))
       exact ⟨k.keep [2,3,5] z,m.sel [0,1] z (by decide),h⟩
     refine d_go [] mixo m z fun Bn hMd=>?_
     have m:=hMd
     have s:=Ext.refl ([]:List Nat) Bn
     refine dN [3] 1 z k (by kernel_rfl) z s (fun _ _ _ _ _=>id) fun a k=>dt k 0 z (by kernel_rfl) z s (fun _ _ _=>id) (fun w s=>r_ldA ta38 (Ba.at ((hMd.step s).a 0 z) 0 10 z z z) z k z z) fun a k=>dt k 1 z (by kernel_rfl) z s (fun _ _ _=>id) (fun w s=>r_fa fa58_0 k z z) fun a k=>dt k 2 z (by kernel_rfl) z s (fun _ _ _=>id) (fun w s=>r_ld1 t155 (r:=[]) (At.at ((hMd.step s).a 1 z) 0 1 z z z) k z z) fun a k=>oE h fun Ct Aw h=>dt k 4 z (by kernel_rfl) z s (fun _ _ _=>id) (fun w s=>r_ixa Ae Aw k ts55 z z z) fun a k=>dt k 5 z (by kernel_rfl) z s (fun _ _ _=>id) (fun w s=>r_fa fa83_0 k z z) fun a k=>?_
     obtain ⟨Dd,Dc,Cz,Bz,Bp,Ce⟩:=rd_get Ae (ix_some Aw).2.2
     obtain ⟨Cg,_,rfl,rfl,Db⟩:=Bz
     refine dt k 6 z (by kernel_rfl) z s (fun _ _ _=>id) (fun w s=>r_ld1 t13 ((Bp.agr ((hMd.step s).a00 (Enc.rd_lt Ae)) Ce).fld 0 1 (Nat.le_of_ble_eq_true z)) k z z) fun a k=>d_two 7 11 (by kernel_rfl) z z ?_ ?_ 
     · refine oE h fun Ac Bt h=>cE k m call184 z z z (c_spec_TypeById fu _ _ (show rd _ _ [I r1.fWay,I r1.fPallet.fW,I r1.fPallet.fD,I r1.fPallet.fH,I r1.fPallet.fGram,I r1.fClasses,v9,Al,I r1.fMaster,Ap] (r1:Request) from ⟨_,_,_,_,_,_,z,z,(Enc.rd_agr Ag (m.a00 (Enc.rd_lt Ag))),(Enc.rd_agr Aj (m.a00 (Enc.rd_lt Aj))),(Enc.rd_agr Ai (m.a00 (Enc.rd_lt Ai)))⟩) Bt) fun De e a k m=>?_
       have s:=s.trans e (by simp)
       refine wpList_nil ⟨s,?_⟩
       refine dN [8,9,10] 3 z k (by kernel_rfl) z s (fun _ _ _ _ _=>id) fun a k=>d_one 11 (by kernel_rfl) z (s_allocN (cs:=[I 0,I 0,I 0,I 0,I 0,I 0,I 0]) m k zeroValue79 z z z z z fun Bx Cs a k m e Bc Cc=>?_)
       have Ca:=lo1 (Nat.le_trans s.size Cc)
       have s:=s.trans e (by simp)
       refine wpList_nil ⟨s,?_⟩
       refine d_one 12 (by kernel_rfl) z (s_stb (cs':=[I Ac.1.fId,I Ac.1.fW,I Ac.1.fH,I Ac.1.fD,I Ac.1.fTare,I Ac.1.fGram,I Ac.1.fCost]) sizeOf79 m 0 Bc 0 k z z z z z z z z z z z fun Bo a k e m Bd=>?_)
       have s:=s.trans e (fun y hy=>Or.inr (Ca y hy))
       refine wpList_nil ⟨s,?_⟩
       refine dN [13] 1 z k (by kernel_rfl) z s (fun _ _ _ _ _=>id) fun a k=>d_done (by kernel_rfl) ((nm_then ?_))
       exact ⟨Ac.1,Bx,Bo,Ac.2,k.keep [2,3,5,6,7] z,m.sel [1,2,0] z (by decide),Bd,h⟩
     refine s_allocN (cs:=[I 0,I 0,I 0,I 0,I 0,I 0,I 0]) m k zeroValue79 z z z z z fun Bu Ck a k m e Be Bg=>?_
     have Bk:=lo1 (Nat.le_trans s.size Bg)
     have s:=s.trans e (by simp)
     refine wpList_nil ⟨s,?_⟩
     refine d_one 7 (by kernel_rfl) z (oE h fun Ab Br h=>cE k m call184 z z z (c_spec_TypeById fu _ _ (show rd _ _ [I r1.fWay,I r1.fPallet.fW,I r1.fPallet.fD,I r1.fPallet.fH,I r1.fPallet.fGram,I r1.fClasses,v9,Al,I r1.fMaster,Ap] (r1:Request) from ⟨_,_,_,_,_,_,z,z,(Enc.rd_agr Ag (m.a00 (Enc.rd_lt Ag))),(Enc.rd_agr Aj (m.a00 (Enc.rd_lt Aj))),(Enc.rd_agr Ai (m.a00 (Enc.rd_lt Ai)))⟩) Br) fun Cn e a k m=>?_)
     have s:=s.trans e (by simp)
     refine wpList_nil ⟨s,?_⟩
     refine dN [8,9,10] 3 z k (by kernel_rfl) z s (fun _ _ _ _ _=>id) fun a k=>d_one 12 (by kernel_rfl) z (s_stb (cs':=[I Ab.1.fId,I Ab.1.fW,I Ab.1.fH,I Ab.1.fD,I Ab.1.fTare,I Ab.1.fGram,I Ab.1.fCost]) sizeOf79 m 0 Be 0 k z z z z z z z z z z z fun Bm a k e m Bb=>?_)
     have s:=s.trans e (fun y hy=>Or.inr (Bk y hy))
     refine wpList_nil ⟨s,?_⟩
     refine dN [13] 1 z k (by kernel_rfl) z s (fun _ _ _ _ _=>id) fun a k=>d_done (by kernel_rfl) ((nm_then ?_))
     exact ⟨Ab.1,Bu,Bm,Ab.2,k.keep [2,3,5,6,7] z,m.sel [1,2,0] z (by decide),Bb,h⟩
   refine wp_exit (ex_then (ex_then (ex_same (nm_then ?_))))
   refine wr (pN 1 k z fun a k=>nn (wp_ret (fS h k m z z)))
 exact ⟨0,k.keep [2,3,5] z,m.sel [1,0] z (by decide),h⟩
theorem c_spec_Present (fu:Nat) {w0:World} (r1:Request) {Ay:List Value} {F3:List Nat} (Bd:rd w0 F3 Ay r1) {r:(List Int)}
    (h:d_spec_Present fu r1 = some r) :
    Calls Tryz.prog 70 #[.agg Ay.toArray] w0 fun e w=>∃ (v0:Value) (G0:List Nat),e = .returned (v0) ∧ Ext [] w0 w ∧ ow w G0 [v0] r ∧ (∀ b ∈ G0,w0.heap.size ≤ b):=by
 refine enter (vs:=[_]) func70 z ntmps70 z fun a k=>?_
 have m:=St.start w0
 obtain ⟨v5,F6,v7,F8,v9,Bw,rfl,rfl,Av,Az,Ae⟩:=Bd
 unfold d_spec_Present at h
 refine wr (s_box (cs:=[I r1.fWay,I r1.fPallet.fW,I r1.fPallet.fD,I r1.fPallet.fH,I r1.fPallet.fGram,I r1.fClasses,v5,v7,I r1.fMaster,v9]) m k z z z z z z fun Ab Ap a k m e At=>pN 1 k z fun a k=>nn (wr (s_bs (cs:=[]) (ps:=[]) te63 m k z z z z z z z (by decide) z (by exact (List.forall_mem_nil _)) fun Ar Be Bv a k m e Ba=>?_)))
 have Ax:=ow_bx Ba ([]:List Int) z z z
 refine pN 1 k z fun a k=>nn (wp_seq (wr (sv k z (r_ldB ta38 m 1 At 0 k z z z z z z) fun a k=>oE h fun Ca Bi h=>cE k m call74 z z z (c_spec_Class fu _ (show rd _ _ [I r1.fWay,I r1.fPallet.fW,I r1.fPallet.fD,I r1.fPallet.fH,I r1.fPallet.fGram,I r1.fClasses,v5,v7,I r1.fMaster,v9] (r1:Request) from ⟨_,_,_,_,_,_,z,z,(Enc.rd_agr Av (m.a00 (Enc.rd_lt Av))),(Enc.rd_agr Az (m.a00 (Enc.rd_lt Az))),(Enc.rd_agr Ae (m.a00 (Enc.rd_lt Ae)))⟩) Bi) fun Bx e a k m=>pN 1 k z fun a k=>nn (cI h k z (fun Bc h=>?_) fun Bc h=>?_))))
 · refine wr (pN 2 k z fun a k=>nn (wp_ret (rt_then ?_)))
   cases h
   exact finR1 k z (RV.tmp k z) ⟨_,[Ar],z,m.ext,(Enc.ow_agr Ax (m.a 0 z)),(m.fresh 0 z)⟩
 refine wp_skip (nm_then ?_)
 refine wp_seq (wr (pN 1 k z fun a k=>nn (wp_block (c_loop (fun n a w=>∃ (Ad:List Int) (Ah:Value) (Ac:List Nat) (Af:World) (Aa:Int),K 40 [(1,.pointer (some (⟨Ab,0,none⟩:Addr))),(3,Ah),(4,I Aa)] a ∧ St [] w0 w [([Ab],Ap),(Ac,Af)] ∧ ow Af Ac [Ah] Ad ∧ d_spec_Present_L2 fu r1 n Ad Aa = some r) ?_ ?_ fu _ _ ?_))))
 · rintro a w ⟨_,_,_,_,_,_,_,_,h⟩
   exact nS h
 · rintro Au a Bu ⟨Ad,Ah,Ac,Af,Aa,k,m,As,h⟩
   rw [d_spec_Present_L2_s] at h
   unfold d_spec_Present_L2_B at h
   refine wp_seq (wr (pN 2 k z fun a k=>nn (cI h k z (fun Bp h=>?_) fun Bp h=>?_)))
   · refine wp_skip (nm_then ?_)
     refine c_cut (fun a w=>∃ (Aj:List Int) (Ak:Value) (Am:List Nat) (Aq:World),K 40 [(1,.pointer (some (⟨Ab,0,none⟩:Addr))),(3,Ak),(4,I Aa)] a ∧ St [] w0 w [([Ab],Ap),(Am,Aq)] ∧ ow Aq Am [Ak] Aj ∧ d_spec_Present_J1 fu (d_spec_Present_L2 fu r1 Au) Aa Aj = some r) ?_ ?_
     · rintro a Bz ⟨Aj,Ak,Am,Aq,k,m,Bh,h⟩
       unfold d_spec_Present_J1 at h
       refine wp_region_lit (pN 3 k z fun a k=>nn ?_)
       exact ⟨Aj,Ak,Am,Aq,w64 (Aa + 1),k.keep [1,3,4] z,m.sel [0,1] z (by decide),Bh,h⟩
     refine wp_block (wr (pN 1 k z fun a k=>nn (wp_seq (wr (pN 1 k z fun a k=>nn (wp_block (c_loop (fun n a w=>∃ (Al:Bool) (Ag:Int),K 40 [(1,.pointer (some (⟨Ab,0,none⟩:Addr))),(3,Ah),(4,I Aa),(5,.bool (Al)),(6,I Ag)] a ∧ St [] w0 w [([Ab],Ap),(Ac,Af)] ∧ d_spec_Present_L1 fu (d_spec_Present_L2 fu r1 Au) r1 Ad Aa n Al Ag = some r) ?_ ?_ fu _ _ ?_)))))))
     · rintro a w ⟨_,_,_,_,h⟩
       exact nS h
     · rintro Bs a Cc ⟨Al,Ag,k,m,h⟩
       rw [d_spec_Present_L1_s] at h
       unfold d_spec_Present_L1_B at h
       refine wp_seq (wr (pN 1 k z fun a k=>sv k z (r_fa fa38_6 k z z) fun a k=>sv k z (r_ldb t136 m 0 At 9 k z z z z z) fun a k=>sv k z (r_len (α:=Item) Ae k underlying36 z z) fun a k=>pN 1 k z fun a k=>nn (cI h k z (fun Bf h=>?_) fun Bf h=>?_)))
       · refine wp_skip (nm_then ?_)
         refine c_cut (fun a w=>∃ (Ao:Bool),K 40 [(1,.pointer (some (⟨Ab,0,none⟩:Addr))),(3,Ah),(4,I Aa),(5,.bool (Ao)),(6,I Ag)] a ∧ St [] w0 w [([Ab],Ap),(Ac,Af)] ∧ d_spec_Present_J2 fu (d_spec_Present_L1 fu (d_spec_Present_L2 fu r1 Au) r1 Ad Aa Bs) Ag Ao = some r) ?_ ?_
         · rintro a By ⟨Ao,k,m,h⟩
           unfold d_spec_Present_J2 at h
           refine wp_region_lit (pN 3 k z fun a k=>nn ?_)
           exact ⟨Ao,w64 (Ag + 1),k.keep [1,3,4,5,6] z,m.sel [0,1] z (by decide),h⟩
         refine wp_block (wp_region_lit (pN 2 k z fun a k=>bsplit (Al) (fun Ai=>?_) (fun Ai=>?_)))
         · have h:=bif_t Ai h
           refine rB k 24 z Ai fun k=>pN 10 k z fun a k=>wpList_nil (nm_block (nm_then ?_))
           exact ⟨true,k.keep [1,3,4,5,6] z,m.sel [0,1] z (by decide),h⟩
         have h:=bif_f Ai h
         refine rB k 24 z Ai fun k=>sv k z (r_fa fa38_6 k z z) fun a k=>sv k z (r_ldb t136 m 0 At 9 k z z z z z) fun a k=>pN 1 k z fun a k=>oE h fun Bg Aw h=>sv k z (r_ixa Ae Aw k ts36 z z z) fun a k=>sv k z (r_fa fa158_5 k z z) fun a k=>sv k z (r_lde1 Ae (m.a00 (Enc.rd_lt Ae)) Aw 5 t13 k z z z z) fun a k=>pN 4 k z fun a k=>wpList_nil (nm_block (nm_then ?_))
         exact ⟨Bg.fClass == Aa,k.keep [1,3,4,5,6] z,m.sel [0,1] z (by decide),h⟩
       refine wp_exit (ex_then (ex_then (ex_same (nm_then ?_))))
       refine wr (pN 1 k z fun a k=>nn (cI h k z (fun Bo h=>?_) fun Bo h=>?_))
       · refine wp_region_lit (pN 2 k z fun a k=>s_bs (cs:=[I Aa]) (ps:=[(0,.tmp 36)]) te63 m k z z z z z z z (by decide) z (by exact (List.forall_mem_cons.2 ⟨z,(List.forall_mem_nil _)⟩)) fun Cb Cd Bt a k m e Br=>?_)
         have Bk:=ow_bx Br ([Aa]:List Int) z z z
         refine oE h fun Bq Bm h=>s_appF Bm te63 z m 2 As (News.rd (Enc.rd_agr (Enc.ow_rd Bk) (m.a 0 z))) z z k z z z z z z z fun Bl Bn Bj a k e m Bb=>pN 1 k z fun a k=>wpList_nil (nm_block (nm_then ?_))
         exact ⟨Bq,Bl,Bn,Bj,k.keep [1,3,4] z,m.sel [1,2] z (by decide),Bb,h⟩
       refine wp_skip (nm_block (nm_then ?_))
       exact ⟨Ad,Ah,Ac,Af,k.keep [1,3,4] z,m.sel [0,1] z (by decide),As,h⟩
     exact ⟨false,0,k.keep [1,3,4,5,6] z,m.sel [0,1] z (by decide),h⟩
   refine wp_exit (ex_then (ex_then (ex_same (nm_then ?_))))
   refine wr (pN 2 k z fun a k=>nn (wp_ret ?_))
   cases h
   exact finR1 k z (RV.tmp k z) ⟨_,Ac,z,m.ext,(Enc.ow_agr As (m.a 1 z)),(m.fresh 1 z)⟩
 exact ⟨([]:List Int),(.slice (some ⟨Ar,0,none⟩) 0 0),[Ar],Be,0,k.keep [1,3,4] z,m.sel [1,0] z (by decide),Ax,h⟩
theorem c_spec_l1Has (fu:Nat) {w0:World} (Ac:List Int) (x5:Int) {v2:Value} {F3:List Nat} (Ab:rd w0 F3 [v2] Ac) {r:Bool}
    (h:d_spec_l1Has fu Ac x5 = some r) :
    Calls Tryz.prog 249 #[v2,I x5] w0 fun e w=>e = .returned (.bool (r)) ∧ Ext [] w0 w:=by
 refine enter (vs:=[_,_]) func249 z ntmps249 z fun a k=>?_
 have m:=St.start w0
 unfold d_spec_l1Has at h
 refine wr (pN 1 k z fun a k=>nn (wp_seq (wr (pN 1 k z fun a k=>nn (wp_block (c_loop (fun n a w=>∃ (Aa:Int),K 18 [(0,v2),(1,I x5),(5,I Aa)] a ∧ St [] w0 w [] ∧ d_spec_l1Has_L1 fu Ac x5 n Aa = some r) ?_ ?_ fu _ _ ?_))))))
 · rintro a w ⟨_,_,_,h⟩
   exact nS h
 · rintro Ai a Ag ⟨Aa,k,m,h⟩
   rw [d_spec_l1Has_L1_s] at h
   unfold d_spec_l1Has_L1_B at h
   refine wp_seq (wr (pN 2 k z fun a k=>sv k z (r_len (α:=Int) Ab k underlying63 z z) fun a k=>pN 1 k z fun a k=>nn (cI h k z (fun Ae h=>?_) fun Ae h=>?_)))
   · refine wp_skip (nm_then ?_)
     refine wp_seq (wp_block (wr (pN 2 k z fun a k=>oE h fun Ah Ad h=>sv k z (r_ixa Ab Ad k ts63 z z z) fun a k=>sv k z (r_lde1 Ab (m.a00 (Enc.rd_lt Ab)) Ad 0 t13 k z z z z) fun a k=>pN 2 k z fun a k=>nn (cI h k z (fun Af h=>?_) fun Af h=>?_))))
     · refine wr (pN 1 k z fun a k=>nn (wp_ret (rt_block (rt_then (rt_then (rt_block (rt_then ?_)))))))
       refine fS h k m z z
     refine wp_skip (nm_block (nm_then ?_))
     refine wp_region_lit (pN 3 k z fun a k=>nn ?_)
     exact ⟨w64 (Aa + 1),k.keep [0,1,5] z,m.sel [] z (by decide),h⟩
   refine wp_exit (ex_then (ex_then (ex_same (nm_then ?_))))
   refine wr (pN 1 k z fun a k=>nn (wp_ret (fS h k m z z)))
 exact ⟨0,k.keep [0,1,5] z,m.sel [] z (by decide),h⟩
theorem c_spec_l3Joins (fu:Nat) {w0:World} (Af:List Pair) (Ae:List Int) (Ab:Int) {v2:Value} {F3:List Nat} (Ag:rd w0 F3 [v2] Af) {v6:Value} {F7:List Nat} (Aa:rd w0 F7 [v6] Ae) {r:Bool}
    (h:d_spec_l3Joins fu Af Ae Ab = some r) :
    Calls Tryz.prog 295 #[v2,v6,I Ab] w0 fun e w=>e = .returned (.bool (r)) ∧ Ext [] w0 w:=by
 refine enter (vs:=[_,_,_]) func295 z ntmps295 z fun a k=>?_
 have m:=St.start w0
 unfold d_spec_l3Joins at h
 refine wr (pN 1 k z fun a k=>nn (wp_seq (wr (pN 1 k z fun a k=>nn (wp_block (c_loop (fun n a w=>∃ (Ac:Int),K 32 [(0,v2),(1,v6),(2,I Ab),(7,I Ac)] a ∧ St [] w0 w [] ∧ d_spec_l3Joins_L1 fu Af Ae Ab n Ac = some r) ?_ ?_ fu _ _ ?_))))))
 · rintro a w ⟨_,_,_,h⟩
   exact nS h
 · rintro Aj a At ⟨Ac,k,m,h⟩
   rw [d_spec_l3Joins_L1_s] at h
   unfold d_spec_l3Joins_L1_B at h
   refine wp_seq (wr (pN 2 k z fun a k=>sv k z (r_len (α:=Int) Aa k underlying63 z z) fun a k=>pN 1 k z fun a k=>nn (cI h k z (fun Al h=>?_) fun Al h=>?_)))
   · refine wp_skip (nm_then ?_)
     refine c_cut (fun a w=>K 32 [(0,v2),(1,v6),(2,I Ab),(7,I Ac)] a ∧ St [] w0 w [] ∧ d_spec_l3Joins_J1 fu (d_spec_l3Joins_L1 fu Af Ae Ab Aj) Ac = some r) ?_ ?_
     · rintro a As ⟨k,m,h⟩
       unfold d_spec_l3Joins_J1 at h
       refine wp_region_lit (pN 3 k z fun a k=>nn ?_)
       exact ⟨w64 (Ac + 1),k.keep [0,1,2,7] z,m.sel [] z (by decide),h⟩
     refine wp_block (wr (pN 3 k z fun a k=>oE h fun Av Ah h=>sv k z (r_ixa Aa Ah k ts63 z z z) fun a k=>sv k z (r_lde1 Aa (m.a00 (Enc.rd_lt Aa)) Ah 0 t13 k z z z z) fun a k=>pN 1 k z fun a k=>oE h fun Ak Ao h=>cE k m call177 z z z (c_spec_Beside fu _ _ _ (Enc.rd_agr Ag (m.a00 (Enc.rd_lt Ag))) Ao) fun Ap e a k m=>pN 2 k z fun a k=>bsplit (!Ak) (fun Ad=>?_) (fun Ad=>?_)))
     · have h:=bif_t Ad h
       refine rB k 22 z Ad fun k=>pN 9 k z fun a k=>nn (wp_cond_true (k.ev z) (wr (pN 1 k z fun a k=>nn (wp_ret (rt_block (rt_then (rt_then (rt_block (rt_then ?_)))))))))
       refine fS h k m z z
     have h:=bif_f Ad h
     refine rB k 22 z Ad fun k=>pN 4 k z fun a k=>oE h fun Ar Aw h=>sv k z (r_ixa Aa Ah k ts63 z z z) fun a k=>sv k z (r_lde1 Aa (m.a00 (Enc.rd_lt Aa)) Ah 0 t13 k z z z z) fun a k=>oE h fun Au Am h=>cE k m call177 z z z (c_spec_Beside fu _ _ _ (Enc.rd_agr Ag (m.a00 (Enc.rd_lt Ag))) Am) fun Aq e a k m=>pN 2 k z fun a k=>nn (cI h k z (fun Ai h=>?_) fun Ai h=>?_)
     · refine wr (pN 1 k z fun a k=>nn (wp_ret (rt_block (rt_then (rt_then (rt_block (rt_then ?_)))))))
       refine fS h k m z z
     refine wp_skip (nm_block (nm_then ?_))
     exact ⟨k.keep [0,1,2,7] z,m.sel [] z (by decide),h⟩
   refine wp_exit (ex_then (ex_then (ex_same (nm_then ?_))))
   refine wr (pN 1 k z fun a k=>nn (wp_ret (fS h k m z z)))
 exact ⟨0,k.keep [0,1,2,7] z,m.sel [] z (by decide),h⟩
theorem c_spec_Groups (fu:Nat) {w0:World} (Ac:List Pair) (Ah:List Int) {v2:Value} {F3:List Nat} (Av:rd w0 F3 [v2] Ac) {v6:Value} {F7:List Nat} (Az:rd w0 F7 [v6] Ah) {r:(List (List Int))}
    (h:d_spec_Groups fu Ac Ah = some r) :
    Calls Tryz.prog 248 #[v2,v6] w0 fun e w=>∃ (v0:Value) (G0:List Nat),e = .returned (v0) ∧ Ext [] w0 w ∧ ow w G0 [v0] r ∧ (∀ b ∈ G0,w0.heap.size ≤ b):=by
 refine enter (vs:=[_,_]) func248 z ntmps248 z fun a k=>?_
 have m:=St.start w0
 unfold d_spec_Groups at h
 refine wr (pN 1 k z fun a k=>nn (wr (s_bs (cs:=[]) (ps:=[]) te29 m k z z z z z z z (by decide) z (by exact (List.forall_mem_nil _)) fun g9 Be Di a k m e Bb=>?_)))
 have Cj:=ow_bx0 (α:=List Int) Bb
 refine pN 1 k z fun a k=>nn (wp_seq (wr (pN 1 k z fun a k=>nn (wp_block (c_loop (fun n a w=>∃ (Ad:List (List Int)) (Ag:Value) (Ae:List Nat) (Ai:World) (Aa:Int),K 51 [(0,v2),(1,v6),(5,Ag),(6,I Aa)] a ∧ St [] w0 w [(Ae,Ai)] ∧ ow Ai Ae [Ag] Ad ∧ d_spec_Groups_L2 fu Ac Ah n Ad Aa = some r) ?_ ?_ fu _ _ ?_)))))
 · rintro a w ⟨_,_,_,_,_,_,_,_,h⟩
   exact nS h
 · rintro Ar a De ⟨Ad,Ag,Ae,Ai,Aa,k,m,Ab,h⟩
   rw [d_spec_Groups_L2_s] at h
   unfold d_spec_Groups_L2_B at h
   refine wp_seq (wr (pN 2 k z fun a k=>nn (cI h k z (fun Bw h=>?_) fun Bw h=>?_)))
   · refine wp_skip (nm_then ?_)
     refine c_cut (fun a w=>∃ (Ap:List (List Int)) (Ao:Value) (Am:List Nat) (Al:World),K 51 [(0,v2),(1,v6),(5,Ao),(6,I Aa)] a ∧ St [] w0 w [(Am,Al)] ∧ ow Al Am [Ao] Ap ∧ d_spec_Groups_J1 fu (d_spec_Groups_L2 fu Ac Ah Ar) Aa Ap = some r) ?_ ?_
     · rintro a Cu ⟨Ap,Ao,Am,Al,k,m,Bk,h⟩
       unfold d_spec_Groups_J1 at h
       refine wp_region_lit (pN 3 k z fun a k=>nn ?_)
       exact ⟨Ap,Ao,Am,Al,w64 (Aa + 1),k.keep [0,1,5,6] z,m.sel [0] z (by decide),Bk,h⟩
     refine wp_block (wp_seq (wr (pN 2 k z fun a k=>oE h fun Db Ci h=>cE k m call249 z z z (c_spec_l1Has fu _ _ (Enc.rd_agr Az (m.a00 (Enc.rd_lt Az))) Ci) fun Do e a k m=>pN 1 k z fun a k=>nn (cI h k z (fun Bn h=>?_) fun Bn h=>?_))))
     · refine wp_exit (ex_then (ex_same (nm_then ?_)))
       exact ⟨Ad,Ag,Ae,Ai,k.keep [0,1,5,6] z,m.sel [0] z (by decide),Ab,h⟩
     refine wp_skip (nm_then ?_)
     refine wr (pN 1 k z fun a k=>nn (wp_seq (wr (pN 1 k z fun a k=>sv k z (r_len (α:=List Int) (Enc.ow_rd Ab) k underlying29 z z) fun a k=>pN 2 k z fun a k=>nn (wp_block (c_loop (fun n a w=>∃ (Aj:Int) (Af:Int),K 51 [(0,v2),(1,v6),(5,Ag),(6,I Aa),(7,I Aj),(8,I Af)] a ∧ St [] w0 w [(Ae,Ai)] ∧ d_spec_Groups_L1 fu (d_spec_Groups_L2 fu Ac Ah Ar) Ac Ad Aa n Aj Af = some r) ?_ ?_ fu _ _ ?_))))))
     · rintro a w ⟨_,_,_,_,h⟩
       exact nS h
     · rintro Ck a Ct ⟨Aj,Af,k,m,h⟩
       rw [d_spec_Groups_L1_s] at h
       unfold d_spec_Groups_L1_B at h
       refine wp_seq (wr (pN 2 k z fun a k=>nn (cI h k z (fun Cf h=>?_) fun Cf h=>?_)))
       · refine wp_skip (nm_then ?_)
         refine c_cut (fun a w=>∃ (Aq:Int),K 51 [(0,v2),(1,v6),(5,Ag),(6,I Aa),(7,I Aq),(8,I Af)] a ∧ St [] w0 w [(Ae,Ai)] ∧ d_spec_Groups_J2 fu (d_spec_Groups_L1 fu (d_spec_Groups_L2 fu Ac Ah Ar) Ac Ad Aa Ck) Af Aq = some r) ?_ ?_
         · rintro a Dp ⟨Aq,k,m,h⟩
           unfold d_spec_Groups_J2 at h
           refine wp_region_lit (pN 3 k z fun a k=>nn ?_)
           exact ⟨Aq,w64 (Af - 1),k.keep [0,1,5,6,7,8] z,m.sel [0] z (by decide),h⟩
         refine wp_block (wr (pN 3 k z fun a k=>oE h fun Dl Ax h=>sv k z (r_ixa (Enc.ow_rd Ab) Ax k ts29 z z z) fun a k=>?_))
         obtain ⟨Dq,Cn,Bo,Au,Bz,Bh⟩:=rd_get (Enc.ow_rd Ab) (ix_some Ax).2.2
         obtain ⟨Dj,rfl⟩:∃ v,Cn = [v]:=by obtain ⟨_,_,hq,_⟩:=Au; exact ⟨_,hq⟩
         refine sv k z (r_ld1 t163 (Bz.agr (m.a 0 z) Bh) k z z) fun a k=>pN 1 k z fun a k=>oE h fun Dd Bx h=>cE k m call295 z z z (c_spec_l3Joins fu _ _ _ (Enc.rd_agr Av (m.a00 (Enc.rd_lt Av))) (Enc.rd_agr Au ((m.a 0 z).sub Bo)) Bx) fun Cv e a k m=>nn (cI h k z (fun Bp h=>?_) fun Bp h=>?_)
         · refine wp_region_lit (pN 2 k z fun a k=>wpList_nil (nm_block (nm_then ?_)))
           exact ⟨Af,k.keep [0,1,5,6,7,8] z,m.sel [0] z (by decide),h⟩
         refine wp_skip (nm_block (nm_then ?_))
         exact ⟨Aj,k.keep [0,1,5,6,7,8] z,m.sel [0] z (by decide),h⟩
       refine wp_exit (ex_then (ex_then (ex_same (nm_then ?_))))
       refine wr (pN 2 k z fun a k=>nn (cI h k z (fun Cb h=>?_) fun Cb h=>?_))
       · refine wp_region_lit (pN 2 k z fun a k=>s_bs (cs:=[I Aa]) (ps:=[(0,.tmp 36)]) te63 m k z z z z z z z (by decide) z (by exact (List.forall_mem_cons.2 ⟨z,(List.forall_mem_nil _)⟩)) fun Ay Dr Dm a k m e Bd=>?_)
         have At:=ow_bx Bd ([Aa]:List Int) z z z
         refine s_bs (cs:=[(.slice (some ⟨Ay,0,none⟩) 1 1)]) (ps:=[(0,.tmp 37)]) te29 m k z z z z z z z (by decide) z (by exact (List.forall_mem_cons.2 ⟨congrArg Array.size (rd_c (Enc.ow_rd At)),(List.forall_mem_nil _)⟩)) fun Dn Cx Cr a k m e By=>oE h fun Cg Ca h=>?_
         have Cp:=Enc.ow_agr At (m.a 1 z)
         have Bq:=News.box By (m.a 0 z) (by simp) (m:=1)
         have Bf:=m.a 2 z
         have m:=m.sel [2,1,0] z (by decide)
         have m:=m.join2
         refine s_appO (F:=Ae) (G:=[Ay]) Ca te29 z m Ab Bf Bq Cp (Agr.refl _ _) k z z z z z z fun Cq Ce Cm a k e m Bc=>pN 1 k z fun a k=>wpList_nil (nm_block (nm_then ?_))
         exact ⟨Cg,Cq,Ce,Cm,k.keep [0,1,5,6] z,m.sel [0] z (by decide),Bc,h⟩
       refine wp_region_lit (pN 4 k z fun a k=>oE h fun Ds Ak h=>sv k z (r_ixa (Enc.ow_rd Ab) Ak k ts29 z z z) fun a k=>?_)
       obtain ⟨Cw,Bv,Dg,Bi,Aw,Bj⟩:=rd_get (Enc.ow_rd Ab) (ix_some Ak).2.2
       obtain ⟨Df,rfl⟩:∃ v,Bv = [v]:=by obtain ⟨_,_,hq,_⟩:=Bi; exact ⟨_,hq⟩
       refine sv k z (r_ld1 t163 (Aw.agr (m.a 0 z) Bj) k z z) fun a k=>pN 1 k z fun a k=>s_bs (cs:=[I Aa]) (ps:=[(0,.tmp 46)]) te63 m k z z z z z z z (by decide) z (by exact (List.forall_mem_cons.2 ⟨z,(List.forall_mem_nil _)⟩)) fun Cd Bs Cs a k m e Ch=>?_
       have Bu:=ow_bx Ch ([Aa]:List Int) z z z
       obtain ⟨Dc,Dh,m,Co,Br⟩:=m.opn 1 z Ab Ak Aw z (M':=[([Cd],Bs)]) z
       refine oE h fun Cc Bl h=>s_appF Bl te63 z m 1 Br (News.rd (Enc.rd_agr (Enc.ow_rd Bu) (m.a 2 z))) z z k z z z z z z z fun Bg Dk Cz a k e m As=>oE h fun Da Cy h=>sv k z (r_ixa (Enc.ow_rd Ab) Ak k ts29 z z z) fun a k=>s_stH1 (α:=List Int) (sz:=1) (cs':=[Bg]) sizeOf63 m 0 Co 0 k (rd_c (Enc.ow_rd As)) (rd_o (Enc.ow_rd As)) z z z z z z z z z z fun Bm a k e m Bt=>?_
       obtain ⟨Cl,m,Ba⟩:=(m.sel [0,1,2] z (by decide)).cls Bt As
       refine wpList_nil (nm_block (nm_then ?_))
       exact ⟨setx Ad Aj Cc,Ag,Cl,Bm,k.keep [0,1,5,6] z,m.sel [0] z (by decide),Ba,h⟩
     exact ⟨(-1),w64 (((Ad.length:Int)) - 1),k.keep [0,1,5,6,7,8] z,m.sel [0] z (by decide),h⟩
   refine wp_exit (ex_then (ex_then (ex_same (nm_then ?_))))
   refine wr (pN 2 k z fun a k=>nn (wp_ret ?_))
   cases h
   exact finR1 k z (RV.tmp k z) ⟨_,Ae,z,m.ext,(Enc.ow_agr Ab (m.a 0 z)),(m.fresh 0 z)⟩
 exact ⟨([]:List (List Int)),(.slice (some ⟨g9,0,none⟩) 0 0),[g9],Be,0,k.keep [0,1,5,6] z,m.sel [0] z (by decide),Cj,h⟩
theorem c_spec_GroupsOf (fu:Nat) {w0:World} (r1:Request) {Ai:List Value} {F3:List Nat} (Al:rd w0 F3 Ai r1) {r:(List (List Int))}
    (h:d_spec_GroupsOf fu r1 = some r) :
    Calls Tryz.prog 167 #[.agg Ai.toArray] w0 fun e w=>∃ (v0:Value) (G0:List Nat),e = .returned (v0) ∧ Ext [] w0 w ∧ ow w G0 [v0] r ∧ (∀ b ∈ G0,w0.heap.size ≤ b):=by
 refine enter (vs:=[_]) func167 z ntmps167 z fun a k=>?_
 have m:=St.start w0
 obtain ⟨v5,F6,v7,F8,v9,Ay,rfl,rfl,Aa,Aj,Ag⟩:=Al
 unfold d_spec_GroupsOf at h
 refine wr (s_box (cs:=[I r1.fWay,I r1.fPallet.fW,I r1.fPallet.fD,I r1.fPallet.fH,I r1.fPallet.fGram,I r1.fClasses,v5,v7,I r1.fMaster,v9]) m k z z z z z z fun Ar Ba a k m e Ah=>pN 1 k z fun a k=>nn (wp_seq (d_go [] mixo m z fun Ap hMd=>?_)))
 have m:=hMd
 have s:=Ext.refl ([]:List Nat) Ap
 refine dt k 0 z (by kernel_rfl) z s (fun _ _ _=>id) (fun w s=>r_fa fa38_3 k z z) fun a k=>dt k 1 z (by kernel_rfl) z s (fun _ _ _=>id) (fun w s=>r_ld1 t134 (r:=[]) (Ah.at ((hMd.step s).a 0 z) 6 1 z z z) k z z) fun a k=>dt k 2 z (by kernel_rfl) z s (fun _ _ _=>id) (fun w s=>r_ldA ta38 (Ah.at ((hMd.step s).a 0 z) 0 10 z z z) z k z z) fun a k=>d_one 3 (by kernel_rfl) z (oE h fun Az Ao h=>?_)
 refine s_call k call70 z z z z z (c_spec_Present fu _ (show rd _ _ [I r1.fWay,I r1.fPallet.fW,I r1.fPallet.fD,I r1.fPallet.fH,I r1.fPallet.fGram,I r1.fClasses,v5,v7,I r1.fMaster,v9] (r1:Request) from ⟨_,_,_,_,_,_,z,z,(Enc.rd_agr Aa (m.a00 (Enc.rd_lt Aa))),(Enc.rd_agr Aj (m.a00 (Enc.rd_lt Aj))),(Enc.rd_agr Ag (m.a00 (Enc.rd_lt Ag)))⟩) Ao) fun Aw At hR=>?_
 obtain ⟨Av,Af,rfl,e,Ac,Ak⟩:=hR
 refine ⟨_,z,fun a k=>?_⟩
 have m:=m.new e Af (fun b hb=>⟨Ak b hb,Enc.rd_lt (Enc.ow_rd Ac) b hb⟩) (Enc.ow_nd Ac)
 have Bc:=fun (y:Nat) (hy:y ∈ Af)=>Nat.le_trans s.size (Ak y hy)
 have s:=s.trans e (by simp)
 refine wpList_nil ⟨s,?_⟩
 refine d_one 4 (by kernel_rfl) z (oE h fun Bb Am h=>s_call k call248 z z z z z (c_spec_Groups fu _ _ (Enc.rd_agr Aa (m.a00 (Enc.rd_lt Aa))) (Enc.rd_agr (Enc.ow_rd Ac) (m.a 0 z)) Am) fun Au As hR=>?_)
 obtain ⟨Aq,Ad,rfl,e,Ab,Ae⟩:=hR
 refine ⟨_,z,fun a k=>?_⟩
 have m:=m.new e Ad (fun b hb=>⟨Ae b hb,Enc.rd_lt (Enc.ow_rd Ab) b hb⟩) (Enc.ow_nd Ab)
 have Ax:=fun (y:Nat) (hy:y ∈ Ad)=>Nat.le_trans s.size (Ae y hy)
 have s:=s.trans e (by simp)
 refine wpList_nil ⟨s,?_⟩
 refine dN [5] 1 z k (by kernel_rfl) z s (fun _ _ _ _ _=>id) fun a k=>d_done (by kernel_rfl) ((nm_then ?_))
 refine wp_ret ?_
 cases h
 exact finR1 k z (RV.tmp k z) ⟨_,Ad,z,m.ext,(Enc.ow_agr Ab (m.a 0 z)),(m.fresh 0 z)⟩
theorem c_spec_GroupOf (fu:Nat) {w0:World} (Ae:List (List Int)) (Aa:Int) {v2:Value} {F3:List Nat} (Ab:rd w0 F3 [v2] Ae) {r:Int}
    (h:d_spec_GroupOf fu Ae Aa = some r) :
    Calls Tryz.prog 169 #[v2,I Aa] w0 fun e w=>e = .returned (I r) ∧ Ext [] w0 w:=by
 refine enter (vs:=[_,_]) func169 z ntmps169 z fun a k=>?_
 have m:=St.start w0
 unfold d_spec_GroupOf at h
 refine wr (pN 1 k z fun a k=>nn (wp_seq (wr (pN 1 k z fun a k=>nn (wp_block (c_loop (fun n a w=>∃ (Ac:Int),K 19 [(0,v2),(1,I Aa),(5,I Ac)] a ∧ St [] w0 w [] ∧ d_spec_GroupOf_L1 fu Ae Aa n Ac = some r) ?_ ?_ fu _ _ ?_))))))
 · rintro a w ⟨_,_,_,h⟩
   exact nS h
 · rintro Ao a Am ⟨Ac,k,m,h⟩
   rw [d_spec_GroupOf_L1_s] at h
   unfold d_spec_GroupOf_L1_B at h
   refine wp_seq (wr (pN 2 k z fun a k=>sv k z (r_len (α:=List Int) Ab k underlying29 z z) fun a k=>pN 1 k z fun a k=>nn (cI h k z (fun Ak h=>?_) fun Ak h=>?_)))
   · refine wp_skip (nm_then ?_)
     refine wp_seq (wp_block (wr (pN 2 k z fun a k=>oE h fun Aq Af h=>sv k z (r_ixa Ab Af k ts29 z z z) fun a k=>?_)))
     obtain ⟨At,Ah,Ar,Ad,Aj,Ag⟩:=rd_get Ab (ix_some Af).2.2
     obtain ⟨Au,rfl⟩:∃ v,Ah = [v]:=by obtain ⟨_,_,hq,_⟩:=Ad; exact ⟨_,hq⟩
     refine sv k z (r_ld1 t163 (Aj.agr (m.a00 (Enc.rd_lt Ab)) Ag) k z z) fun a k=>pN 1 k z fun a k=>oE h fun Ap Al h=>cE k m call249 z z z (c_spec_l1Has fu _ _ (Enc.rd_agr Ad (m.a00 (Enc.rd_lt Ad))) Al) fun As e a k m=>nn (cI h k z (fun Ai h=>?_) fun Ai h=>?_)
     · refine wr (pN 2 k z fun a k=>nn (wp_ret (rt_block (rt_then (rt_then (rt_block (rt_then ?_)))))))
       refine fS h k m z z
     refine wp_skip (nm_block (nm_then ?_))
     refine wp_region_lit (pN 3 k z fun a k=>nn ?_)
     exact ⟨w64 (Ac + 1),k.keep [0,1,5] z,m.sel [] z (by decide),h⟩
   refine wp_exit (ex_then (ex_then (ex_same (nm_then ?_))))
   refine wr (pN 1 k z fun a k=>nn (wp_ret (fS h k m z z)))
 exact ⟨0,k.keep [0,1,5] z,m.sel [] z (by decide),h⟩
theorem c_spec_l15Group (fu:Nat) {w0:World} (r1:Request) (Ac:List Int) (x9:Plan) {Bg:List Value} {F3:List Nat} (Ca:rd w0 F3 Bg r1) {v6:Value} {F7:List Nat} (Az:rd w0 F7 [v6] Ac) {Bi:List Value} {Bn:List Nat} (Cm:rd w0 Bn Bi x9) {r:Bool}
    (h:d_spec_l15Group fu r1 Ac x9 = some r) :
    Calls Tryz.prog 108 #[.agg Bg.toArray,v6,.agg Bi.toArray] w0 fun e w=>e = .returned (.bool (r)) ∧ Ext [] w0 w:=by
 refine enter (vs:=[_,_,_]) func108 z ntmps108 z fun a k=>?_
 have m:=St.start w0
 obtain ⟨Ay,Cy,Ax,Dr,Au,Cv,rfl,rfl,Ak,Am,Ao⟩:=Ca
 obtain ⟨Bu,Dl,Cg,Dt,rfl,rfl,Af,Cu⟩:=Cm
 unfold d_spec_l15Group at h
 refine wr (s_box (cs:=[I r1.fWay,I r1.fPallet.fW,I r1.fPallet.fD,I r1.fPallet.fH,I r1.fPallet.fGram,I r1.fClasses,Ay,Ax,I r1.fMaster,Au]) m k z z z z z z fun Ab Aq a k m e Bk=>s_box (cs:=[Bu,Cg]) m k z z z z z z fun Ad Ar a k m e Av=>pN 1 k z fun a k=>nn (wr (sv k z (r_ldB ta38 m 1 Bk 0 k z z z z z z) fun a k=>oE h fun Ae Cd h=>?_)))
 refine s_call k call167 z z z z z (c_spec_GroupsOf fu _ (show rd _ _ [I r1.fWay,I r1.fPallet.fW,I r1.fPallet.fD,I r1.fPallet.fH,I r1.fPallet.fGram,I r1.fClasses,Ay,Ax,I r1.fMaster,Au] (r1:Request) from ⟨_,_,_,_,_,_,z,z,(Enc.rd_agr Ak (m.a00 (Enc.rd_lt Ak))),(Enc.rd_agr Am (m.a00 (Enc.rd_lt Am))),(Enc.rd_agr Ao (m.a00 (Enc.rd_lt Ao)))⟩) Cd) fun Dm As hR=>?_
 obtain ⟨Ap,Al,rfl,e,Bb,Cc⟩:=hR
 refine ⟨_,z,fun a k=>?_⟩
 have m:=m.new e Al (fun b hb=>⟨Cc b hb,Enc.rd_lt (Enc.ow_rd Bb) b hb⟩) (Enc.ow_nd Bb)
 refine pN 1 k z fun a k=>nn (wp_seq (wr (pN 1 k z fun a k=>nn (wp_block (c_loop (fun n a w=>∃ (Aa:Int),K 58 [(1,v6),(3,.pointer (some (⟨Ab,0,none⟩:Addr))),(5,.pointer (some (⟨Ad,0,none⟩:Addr))),(7,Ap),(8,I Aa)] a ∧ St [] w0 w [([Ab],Aq),([Ad],Ar),(Al,As)] ∧ d_spec_l15Group_L2 fu r1 Ac x9 Ae n Aa = some r) ?_ ?_ fu _ _ ?_)))))
 · rintro a w ⟨_,_,_,h⟩
   exact nS h
 · rintro Ba a Du ⟨Aa,k,m,h⟩
   rw [d_spec_l15Group_L2_s] at h
   unfold d_spec_l15Group_L2_B at h
   refine wp_seq (wr (pN 1 k z fun a k=>sv k z (r_fa fa58_0 k z z) fun a k=>sv k z (r_ldb t155 m 1 Av 0 k z z z z z) fun a k=>sv k z (r_len (α:=Carton) Af k underlying55 z z) fun a k=>pN 1 k z fun a k=>nn (cI h k z (fun Cn h=>?_) fun Cn h=>?_)))
   · refine wp_skip (nm_then ?_)
     refine c_cut (fun a w=>K 58 [(1,v6),(3,.pointer (some (⟨Ab,0,none⟩:Addr))),(5,.pointer (some (⟨Ad,0,none⟩:Addr))),(7,Ap),(8,I Aa)] a ∧ St [] w0 w [([Ab],Aq),([Ad],Ar),(Al,As)] ∧ d_spec_l15Group_J1 fu (d_spec_l15Group_L2 fu r1 Ac x9 Ae Ba) Aa = some r) ?_ ?_
     · rintro a Da ⟨k,m,h⟩
       unfold d_spec_l15Group_J1 at h
       refine wp_region_lit (pN 3 k z fun a k=>nn ?_)
       exact ⟨w64 (Aa + 1),k.keep [1,3,5,7,8] z,m.sel [0,1,2] z (by decide),h⟩
     refine wp_block (wr (pN 1 k z fun a k=>nn (wp_block (c_loop (fun n a w=>∃ (Ai:Int),K 58 [(1,v6),(3,.pointer (some (⟨Ab,0,none⟩:Addr))),(5,.pointer (some (⟨Ad,0,none⟩:Addr))),(7,Ap),(8,I Aa),(9,I Ai)] a ∧ St [] w0 w [([Ab],Aq),([Ad],Ar),(Al,As)] ∧ d_spec_l15Group_L1 fu (d_spec_l15Group_L2 fu r1 Ac x9 Ae Ba) r1 Ac x9 Ae Aa n Ai = some r) ?_ ?_ fu _ _ ?_))))
     · rintro a w ⟨_,_,_,h⟩
       exact nS h
     · rintro Bj a Cs ⟨Ai,k,m,h⟩
       rw [d_spec_l15Group_L1_s] at h
       unfold d_spec_l15Group_L1_B at h
       refine wp_seq (wr (pN 1 k z fun a k=>sv k z (r_fa fa58_0 k z z) fun a k=>sv k z (r_ldb t155 m 1 Av 0 k z z z z z) fun a k=>pN 1 k z fun a k=>oE h fun De Bd h=>sv k z (r_ixa Af Bd k ts55 z z z) fun a k=>sv k z (r_fa fa83_2 k z z) fun a k=>?_))
       obtain ⟨Dv,Dc,Dd,Bz,Bf,Bl⟩:=rd_get Af (ix_some Bd).2.2
       obtain ⟨Ct,_,rfl,rfl,Aw⟩:=Bz
       refine sv k z (r_ld1 t163 ((Bf.agr (m.a00 (Enc.rd_lt Af)) Bl).fld 2 1 (Nat.le_of_ble_eq_true z)) k z z) fun a k=>sv k z (r_len (α:=Int) Aw k underlying63 z z) fun a k=>pN 1 k z fun a k=>nn (cI h k z (fun Cj h=>?_) fun Cj h=>?_)
       · refine wp_skip (nm_then ?_)
         refine c_cut (fun a w=>K 58 [(1,v6),(3,.pointer (some (⟨Ab,0,none⟩:Addr))),(5,.pointer (some (⟨Ad,0,none⟩:Addr))),(7,Ap),(8,I Aa),(9,I Ai)] a ∧ St [] w0 w [([Ab],Aq),([Ad],Ar),(Al,As)] ∧ d_spec_l15Group_J2 fu (d_spec_l15Group_L1 fu (d_spec_l15Group_L2 fu r1 Ac x9 Ae Ba) r1 Ac x9 Ae Aa Bj) Ai = some r) ?_ ?_
         · rintro a Dq ⟨k,m,h⟩
           unfold d_spec_l15Group_J2 at h
           refine wp_region_lit (pN 3 k z fun a k=>nn ?_)
           exact ⟨w64 (Ai + 1),k.keep [1,3,5,7,8,9] z,m.sel [0,1,2] z (by decide),h⟩
         refine wp_block (c_cut (fun a w=>∃ (Ag:Item) (At:Nat) (Bc:World),K 58 [(1,v6),(3,.pointer (some (⟨Ab,0,none⟩:Addr))),(5,.pointer (some (⟨Ad,0,none⟩:Addr))),(7,Ap),(8,I Aa),(9,I Ai),(10,.pointer (some (⟨At,0,none⟩:Addr)))] a ∧ St [] w0 w [([Ab],Aq),([Ad],Ar),(Al,As),([At],Bc)] ∧ bx Bc At [I Ag.fId,I Ag.fW,I Ag.fH,I Ag.fD,I Ag.fGram,I Ag.fClass,I Ag.fCount] 158 ∧ d_spec_l15Group_J3 fu (d_spec_l15Group_L1 fu (d_spec_l15Group_L2 fu r1 Ac x9 Ae Ba) r1 Ac x9 Ae Aa Bj) x9 Ae Aa Ai Ag = some r) ?_ ?_)
         · rintro a Do ⟨Ag,At,Bc,k,m,Ck,h⟩
           unfold d_spec_l15Group_J3 at h
           refine wp_seq (d_go [] mixo m z fun Cq hMd=>?_)
           have m:=hMd
           have s:=Ext.refl ([]:List Nat) Cq
           refine dN [0,6] 2 z k (by kernel_rfl) z s (fun _ _ _ _ _=>id) fun a k=>dt k 1 z (by kernel_rfl) z s (fun _ _ _=>id) (fun w s=>r_fa fa158_5 k z z) fun a k=>dt k 2 z (by kernel_rfl) z s (fun _ _ _=>id) (fun w s=>r_ld1 t13 (r:=[]) (Ck.at ((hMd.step s).a 3 z) 5 1 z z z) k z z) fun a k=>dt k 4 z (by kernel_rfl) z s (fun _ _ _=>id) (fun w s=>r_fa fa58_0 k z z) fun a k=>dt k 5 z (by kernel_rfl) z s (fun _ _ _=>id) (fun w s=>r_ld1 t155 (r:=[]) (Av.at ((hMd.step s).a 1 z) 0 1 z z z) k z z) fun a k=>oE h fun Dw Bh h=>dt k 7 z (by kernel_rfl) z s (fun _ _ _=>id) (fun w s=>r_ixa Af Bh k ts55 z z z) fun a k=>dt k 8 z (by kernel_rfl) z s (fun _ _ _=>id) (fun w s=>r_fa fa83_1 k z z) fun a k=>?_
           obtain ⟨Dn,Cx,Dk,Ce,Cp,Bv⟩:=rd_get Af (ix_some Bh).2.2
           obtain ⟨Cw,_,rfl,rfl,Dx⟩:=Ce
           refine dt k 9 z (by kernel_rfl) z s (fun _ _ _=>id) (fun w s=>r_ld1 t13 ((Cp.agr ((hMd.step s).a00 (Enc.rd_lt Af)) Bv).fld 1 1 (Nat.le_of_ble_eq_true z)) k z z) fun a k=>d_one 3 (by kernel_rfl) z (oE h fun Df Ch h=>cE k m call169 z z z (c_spec_GroupOf fu _ _ (Enc.rd_agr (Enc.ow_rd Bb) (m.a 2 z)) Ch) fun Dp e a k m=>?_)
           have s:=s.trans e (by simp)
           refine wpList_nil ⟨s,?_⟩
           refine dN [10] 1 z k (by kernel_rfl) z s (fun _ _ _ _ _=>id) fun a k=>d_done (by kernel_rfl) ((nm_then ?_))
           refine cI h k z (fun Bp h=>?_) fun Bp h=>?_
           · refine wr (pN 1 k z fun a k=>nn (wp_ret (rt_block (rt_then (rt_then (rt_block (rt_block (rt_then (rt_then (rt_block (rt_then ?_)))))))))))
             refine fS h k m z z
           refine wp_skip (nm_block (nm_then ?_))
           exact ⟨k.keep [1,3,5,7,8,9] z,m.sel [0,1,2] z (by decide),h⟩
         refine d_go [] mixo m z fun Br hMd=>?_
         have m:=hMd
         have s:=Ext.refl ([]:List Nat) Br
         refine dN [1,4,8] 3 z k (by kernel_rfl) z s (fun _ _ _ _ _=>id) fun a k=>dt k 0 z (by kernel_rfl) z s (fun _ _ _=>id) (fun w s=>r_ldA ta38 (Bk.at ((hMd.step s).a 0 z) 0 10 z z z) z k z z) fun a k=>dt k 2 z (by kernel_rfl) z s (fun _ _ _=>id) (fun w s=>r_fa fa58_0 k z z) fun a k=>dt k 3 z (by kernel_rfl) z s (fun _ _ _=>id) (fun w s=>r_ld1 t155 (r:=[]) (Av.at ((hMd.step s).a 1 z) 0 1 z z z) k z z) fun a k=>oE h fun Cz Dh h=>dt k 5 z (by kernel_rfl) z s (fun _ _ _=>id) (fun w s=>r_ixa Af Bd k ts55 z z z) fun a k=>dt k 6 z (by kernel_rfl) z s (fun _ _ _=>id) (fun w s=>r_fa fa83_2 k z z) fun a k=>?_
         refine dt k 7 z (by kernel_rfl) z s (fun _ _ _=>id) (fun w s=>r_ld1 t163 ((Bf.agr ((hMd.step s).a00 (Enc.rd_lt Af)) Bl).fld 2 1 (Nat.le_of_ble_eq_true z)) k z z) fun a k=>oE h fun Di Be h=>dt k 9 z (by kernel_rfl) z s (fun _ _ _=>id) (fun w s=>r_ixa Aw Be k ts63 z z z) fun a k=>dt k 10 z (by kernel_rfl) z s (fun _ _ _=>id) (fun w s=>r_lde1 Aw ((hMd.step s).a00 (Enc.rd_lt Aw)) Be 0 t13 k z z z z) fun a k=>d_two 11 15 (by kernel_rfl) z z ?_ ?_ 
         · refine oE h fun Aj Cr h=>cE k m call168 z z z (c_spec_l6Item fu _ _ _ (show rd _ _ [I r1.fWay,I r1.fPallet.fW,I r1.fPallet.fD,I r1.fPallet.fH,I r1.fPallet.fGram,I r1.fClasses,Ay,Ax,I r1.fMaster,Au] (r1:Request) from ⟨_,_,_,_,_,_,z,z,(Enc.rd_agr Ak (m.a00 (Enc.rd_lt Ak))),(Enc.rd_agr Am (m.a00 (Enc.rd_lt Am))),(Enc.rd_agr Ao (m.a00 (Enc.rd_lt Ao)))⟩) (Enc.rd_agr Az (m.a00 (Enc.rd_lt Az))) Cr) fun Dg e a k m=>?_
           have s:=s.trans e (by simp)
           refine wpList_nil ⟨s,?_⟩
           refine dN [12,13,14] 3 z k (by kernel_rfl) z s (fun _ _ _ _ _=>id) fun a k=>d_one 15 (by kernel_rfl) z (s_allocN (cs:=[I 0,I 0,I 0,I 0,I 0,I 0,I 0]) m k zeroValue158 z z z z z fun Ci Db a k m e Cf Bo=>?_)
           have Bt:=lo1 (Nat.le_trans s.size Bo)
           have s:=s.trans e (by simp)
           refine wpList_nil ⟨s,?_⟩
           refine d_one 16 (by kernel_rfl) z (s_stb (cs':=[I Aj.1.fId,I Aj.1.fW,I Aj.1.fH,I Aj.1.fD,I Aj.1.fGram,I Aj.1.fClass,I Aj.1.fCount]) sizeOf158 m 0 Cf 0 k z z z z z z z z z z z fun Bx a k e m Cb=>?_)
           have s:=s.trans e (fun y hy=>Or.inr (Bt y hy))
           refine wpList_nil ⟨s,?_⟩
           refine dN [17] 1 z k (by kernel_rfl) z s (fun _ _ _ _ _=>id) fun a k=>d_done (by kernel_rfl) ?_
           have k:=k.keep [1,3,5,7,8,9,10] z
           refine (nm_then ?_)
           exact ⟨Aj.1,Ci,Bx,k.keep [1,3,5,7,8,9,10] z,m.sel [1,2,3,0] z (by decide),Cb,h⟩
         refine s_allocN (cs:=[I 0,I 0,I 0,I 0,I 0,I 0,I 0]) m k zeroValue158 z z z z z fun Bs Dj a k m e Bq By=>?_
         have Co:=lo1 (Nat.le_trans s.size By)
         have s:=s.trans e (by simp)
         refine wpList_nil ⟨s,?_⟩
         refine d_one 11 (by kernel_rfl) z (oE h fun Ah Bm h=>cE k m call168 z z z (c_spec_l6Item fu _ _ _ (show rd _ _ [I r1.fWay,I r1.fPallet.fW,I r1.fPallet.fD,I r1.fPallet.fH,I r1.fPallet.fGram,I r1.fClasses,Ay,Ax,I r1.fMaster,Au] (r1:Request) from ⟨_,_,_,_,_,_,z,z,(Enc.rd_agr Ak (m.a00 (Enc.rd_lt Ak))),(Enc.rd_agr Am (m.a00 (Enc.rd_lt Am))),(Enc.rd_agr Ao (m.a00 (Enc.rd_lt Ao)))⟩) (Enc.rd_agr Az (m.a00 (Enc.rd_lt Az))) Bm) fun Ds e a k m=>?_)
         have s:=s.trans e (by simp)
         refine wpList_nil ⟨s,?_⟩
         refine dN [12,13,14] 3 z k (by kernel_rfl) z s (fun _ _ _ _ _=>id) fun a k=>d_one 16 (by kernel_rfl) z (s_stb (cs':=[I Ah.1.fId,I Ah.1.fW,I Ah.1.fH,I Ah.1.fD,I Ah.1.fGram,I Ah.1.fClass,I Ah.1.fCount]) sizeOf158 m 0 Bq 0 k z z z z z z z z z z z fun Cl a k e m Bw=>?_)
         have s:=s.trans e (fun y hy=>Or.inr (Co y hy))
         refine wpList_nil ⟨s,?_⟩
         refine dN [17] 1 z k (by kernel_rfl) z s (fun _ _ _ _ _=>id) fun a k=>d_done (by kernel_rfl) ?_
         have k:=k.keep [1,3,5,7,8,9,10] z
         refine (nm_then ?_)
         exact ⟨Ah.1,Bs,Cl,k.keep [1,3,5,7,8,9,10] z,m.sel [1,2,3,0] z (by decide),Bw,h⟩
       refine wp_exit (ex_then (ex_then (ex_same (nm_block (nm_then ?_)))))
       exact ⟨k.keep [1,3,5,7,8] z,m.sel [0,1,2] z (by decide),h⟩
     exact ⟨0,k.keep [1,3,5,7,8,9] z,m.sel [0,1,2] z (by decide),h⟩
   refine wp_exit (ex_then (ex_then (ex_same (nm_then ?_))))
   refine wr (pN 1 k z fun a k=>nn (wp_ret (fS h k m z z)))
 exact ⟨0,k.keep [1,3,5,7,8] z,m.sel [2,1,0] z (by decide),h⟩
theorem c_spec_Cheapest (fu:Nat) {w0:World} (r1:Request) (Ap:List Int) {Bc:List Value} {F3:List Nat} (Bg:rd w0 F3 Bc r1) {v6:Value} {F7:List Nat} (Bb:rd w0 F7 [v6] Ap) {r:Typ × Bool}
    (h:d_spec_Cheapest fu r1 Ap = some r) :
    Calls Tryz.prog 204 #[.agg Bc.toArray,v6] w0 fun e w=>e = .returned (.tuple #[.agg (Flat.e r.1).toArray,.bool (r.2)]) ∧ Ext [] w0 w:=by
 refine enter (vs:=[_,_]) func204 z ntmps204 z fun a k=>?_
 have m:=St.start w0
 obtain ⟨v9,Bz,Ax,Ca,Az,Cd,rfl,rfl,Ba,Ai,Aw⟩:=Bg
 unfold d_spec_Cheapest at h
 refine wr (s_box (cs:=[I r1.fWay,I r1.fPallet.fW,I r1.fPallet.fD,I r1.fPallet.fH,I r1.fPallet.fGram,I r1.fClasses,v9,Ax,I r1.fMaster,Az]) m k z z z z z z fun As Av a k m e At=>s_alloc (cs:=[I 0,I 0,I 0,I 0,I 0,I 0,I 0]) m k zeroValue79 z z z z z fun Ao Ay a k m e Bs=>pN 1 k z fun a k=>nn (wr (sv k z (r_build bt79 k (cs:=#[I 0,I 0,I 0,I 0,I 0,I 0,I 0]) (ps:=[]) z z (by kernel_rfl)) fun a k=>?_)))
 refine s_alloc (cs:=[I 0,I 0,I 0,I 0,I 0,I 0,I 0]) m k zeroValue79 z z z z z fun Aj Cc a k m e Bt=>s_stb (cs':=[I 0,I 0,I 0,I 0,I 0,I 0,I 0]) sizeOf79 m 0 Bt 0 k z z z z z z z z z z z fun Bj a k e m Bi=>nn (wr (pN 1 k z fun a k=>nn (wp_seq (wr (pN 1 k z fun a k=>nn (wp_block ?_))))))
 refine c_loop (fun n a w=>∃ (Ab:Typ) (Ah:World) (Ae:Bool) (Ag:Int),K 54 [(1,v6),(2,.pointer (some (⟨As,0,none⟩:Addr))),(4,.pointer (some (⟨Ao,0,none⟩:Addr))),(6,.pointer (some (⟨Aj,0,none⟩:Addr))),(7,.bool (Ae)),(8,I Ag)] a ∧ St [] w0 w [([As],Av),([Ao],Ay),([Aj],Ah)] ∧ bx Ah Aj [I Ab.fId,I Ab.fW,I Ab.fH,I Ab.fD,I Ab.fTare,I Ab.fGram,I Ab.fCost] 79 ∧ d_spec_Cheapest_L1 fu r1 Ap n Ab Ae Ag = some r) ?_ ?_ fu _ _ ?_
 · rintro a w ⟨_,_,_,_,_,_,_,h⟩
   exact nS h
 · rintro Br a Ce ⟨Ab,Ah,Ae,Ag,k,m,Ac,h⟩
   rw [d_spec_Cheapest_L1_s] at h
   unfold d_spec_Cheapest_L1_B at h
   refine wp_seq (wr (pN 1 k z fun a k=>sv k z (r_fa fa38_4 k z z) fun a k=>sv k z (r_ldb t135 m 0 At 7 k z z z z z) fun a k=>sv k z (r_len (α:=Typ) Ai k underlying35 z z) fun a k=>pN 1 k z fun a k=>nn (cI h k z (fun Bo h=>?_) fun Bo h=>?_)))
   · refine wp_skip (nm_then ?_)
     refine c_cut (fun a w=>∃ (Ad:Typ) (Aq:World) (Ar:Bool),K 54 [(1,v6),(2,.pointer (some (⟨As,0,none⟩:Addr))),(4,.pointer (some (⟨Ao,0,none⟩:Addr))),(6,.pointer (some (⟨Aj,0,none⟩:Addr))),(7,.bool (Ar)),(8,I Ag)] a ∧ St [] w0 w [([As],Av),([Ao],Ay),([Aj],Aq)] ∧ bx Aq Aj [I Ad.fId,I Ad.fW,I Ad.fH,I Ad.fD,I Ad.fTare,I Ad.fGram,I Ad.fCost] 79 ∧ d_spec_Cheapest_J1 fu (d_spec_Cheapest_L1 fu r1 Ap Br) Ag Ad Ar = some r) ?_ ?_
     · rintro a Bx ⟨Ad,Aq,Ar,k,m,Bh,h⟩
       unfold d_spec_Cheapest_J1 at h
       refine wp_region_lit (pN 3 k z fun a k=>nn ?_)
       exact ⟨Ad,Aq,Ar,w64 (Ag + 1),k.keep [1,2,4,6,7,8] z,m.sel [0,1,2] z (by decide),Bh,h⟩
     refine wp_block (wr (sv k z (r_fa fa38_4 k z z) fun a k=>sv k z (r_ldb t135 m 0 At 7 k z z z z z) fun a k=>pN 1 k z fun a k=>oE h fun Aa Au h=>sv k z (r_ixa Ai Au k ts35 z z z) fun a k=>sv k z (r_lde Ai (m.a00 (Enc.rd_lt Ai)) Au ta79 k z z) fun a k=>s_alloc (cs:=[I 0,I 0,I 0,I 0,I 0,I 0,I 0]) m k zeroValue79 z z z z z fun Cg Ch a k m e Bv=>s_stb (cs':=[I Aa.fId,I Aa.fW,I Aa.fH,I Aa.fD,I Aa.fTare,I Aa.fGram,I Aa.fCost]) sizeOf79 m 0 Bv 0 k z z z z z z z z z z z fun Cf a k e m Af=>nn (wp_seq (wr ?_))))
     refine sv k z (r_ldB ta38 m 1 At 0 k z z z z z z) fun a k=>pN 1 k z fun a k=>sv k z (r_ldB ta79 m 0 Af 0 k z z z z z z) fun a k=>oE h fun By Be h=>cE k m call212 z z z (c_spec_Holds fu _ _ (Aa:Typ) (show rd _ _ [I r1.fWay,I r1.fPallet.fW,I r1.fPallet.fD,I r1.fPallet.fH,I r1.fPallet.fGram,I r1.fClasses,v9,Ax,I r1.fMaster,Az] (r1:Request) from ⟨_,_,_,_,_,_,z,z,(Enc.rd_agr Ba (m.a00 (Enc.rd_lt Ba))),(Enc.rd_agr Ai (m.a00 (Enc.rd_lt Ai))),(Enc.rd_agr Aw (m.a00 (Enc.rd_lt Aw)))⟩) (Enc.rd_agr Bb (m.a00 (Enc.rd_lt Bb))) Be) fun Cb e a k m=>pN 1 k z fun a k=>nn (cI h k z (fun Bd h=>?_) fun Bd h=>?_)
     · refine wp_exit (ex_then (ex_same (nm_then ?_)))
       exact ⟨Ab,Ah,Ae,k.keep [1,2,4,6,7,8] z,m.sel [1,2,3] z (by decide),Ac,h⟩
     refine wp_skip (nm_then ?_)
     refine wr (pN 3 k z fun a k=>bsplit (!Ae) (fun Am=>?_) (fun Am=>?_))
     · have h:=bif_t Am h
       refine rB k 30 z Am fun k=>pN 20 k z fun a k=>?_
       have k:=k.keep [1,2,4,6,7,8,9,50] z
       refine nn (wp_cond_true (k.ev z) (wr (sv k z (r_ldB ta79 m 0 Af 0 k z z z z z z) fun a k=>s_stb (cs':=[I Aa.fId,I Aa.fW,I Aa.fH,I Aa.fD,I Aa.fTare,I Aa.fGram,I Aa.fCost]) sizeOf79 m 3 Ac 0 k z z z z z z z z z z z fun Bm a k e m Bp=>nn (wp_region_lit (pN 1 k z fun a k=>wpList_nil (nm_block (nm_then ?_)))))))
       exact ⟨Aa,Bm,true,k.keep [1,2,4,6,7,8] z,m.sel [1,2,3] z (by decide),Bp,h⟩
     have h:=bif_f Am h
     refine rB k 30 z Am fun k=>sv k z (r_fa fa79_6 k z z) fun a k=>sv k z (r_ldb t13 m 0 Af 6 k z z z z z) fun a k=>sv k z (r_fa fa79_6 k z z) fun a k=>sv k z (r_ldb t13 m 3 Ac 6 k z z z z z) fun a k=>pN 3 k z fun a k=>bsplit (decide (Aa.fCost < Ab.fCost)) (fun Al=>?_) (fun Al=>?_)
     · have h:=bif_t Al h
       refine rB k 37 z Al fun k=>pN 13 k z fun a k=>?_
       have k:=k.keep [1,2,4,6,7,8,9,50] z
       refine nn (wp_cond_true (k.ev z) (wr (sv k z (r_ldB ta79 m 0 Af 0 k z z z z z z) fun a k=>s_stb (cs':=[I Aa.fId,I Aa.fW,I Aa.fH,I Aa.fD,I Aa.fTare,I Aa.fGram,I Aa.fCost]) sizeOf79 m 3 Ac 0 k z z z z z z z z z z z fun Bk a k e m Bq=>nn (wp_region_lit (pN 1 k z fun a k=>wpList_nil (nm_block (nm_then ?_)))))))
       exact ⟨Aa,Bk,true,k.keep [1,2,4,6,7,8] z,m.sel [1,2,3] z (by decide),Bq,h⟩
     have h:=bif_f Al h
     refine rB k 37 z Al fun k=>sv k z (r_fa fa79_6 k z z) fun a k=>sv k z (r_ldb t13 m 0 Af 6 k z z z z z) fun a k=>sv k z (r_fa fa79_6 k z z) fun a k=>sv k z (r_ldb t13 m 3 Ac 6 k z z z z z) fun a k=>pN 2 k z fun a k=>bsplit (Aa.fCost == Ab.fCost) (fun Ak=>?_) (fun Ak=>?_)
     · have h:=bif_t Ak h
       refine rB k 43 z Ak fun k=>sv k z (r_fa fa79_0 k z z) fun a k=>sv k z (r_ldb t13 m 0 Af 0 k z z z z z) fun a k=>sv k z (r_fa fa79_0 k z z) fun a k=>sv k z (r_ldb t13 m 3 Ac 0 k z z z z z) fun a k=>pN 3 k z fun a k=>?_
       have k:=k.keep [1,2,4,6,7,8,9,50] z
       refine nn (cI h k z (fun Bu h=>?_) fun Bu h=>?_)
       · refine wr (sv k z (r_ldB ta79 m 0 Af 0 k z z z z z z) fun a k=>s_stb (cs':=[I Aa.fId,I Aa.fW,I Aa.fH,I Aa.fD,I Aa.fTare,I Aa.fGram,I Aa.fCost]) sizeOf79 m 3 Ac 0 k z z z z z z z z z z z fun Bf a k e m Bn=>nn (wp_region_lit (pN 1 k z fun a k=>wpList_nil (nm_block (nm_then ?_)))))
         exact ⟨Aa,Bf,true,k.keep [1,2,4,6,7,8] z,m.sel [1,2,3] z (by decide),Bn,h⟩
       refine wp_skip (nm_block (nm_then ?_))
       exact ⟨Ab,Ah,Ae,k.keep [1,2,4,6,7,8] z,m.sel [1,2,3] z (by decide),Ac,h⟩
     have h:=bif_f Ak h
     refine rB k 43 z Ak fun k=>pN 7 k z fun a k=>?_
     have k:=k.keep [1,2,4,6,7,8,9,50] z
     refine nn (wp_cond_false (k.ev z) (wp_skip (nm_block (nm_then ?_))))
     exact ⟨Ab,Ah,Ae,k.keep [1,2,4,6,7,8] z,m.sel [1,2,3] z (by decide),Ac,h⟩
   refine wp_exit (ex_then (ex_then (ex_same (nm_then ?_))))
   refine wr (sv k z (r_ldB ta79 m 2 Ac 0 k z z z z z z) fun a k=>pN 1 k z fun a k=>s_stb (cs':=[I Ab.fId,I Ab.fW,I Ab.fH,I Ab.fD,I Ab.fTare,I Ab.fGram,I Ab.fCost]) sizeOf79 m 1 Bs 0 k z z z z z z z z z z z fun Bw a k e m Bl=>pN 1 k z fun a k=>nn (wp_ret ?_))
   cases h
   exact finR2 k z (RV.cA k z ta79 (Bl.at (m.a 1 z) 0 7 z z z) z) (RV.tmp k z) ⟨z,m.ext⟩
 exact ⟨(⟨0,0,0,0,0,0,0⟩:Typ),Bj,false,0,k.keep [1,2,4,6,7,8] z,m.sel [2,1,0] z (by decide),Bi,h⟩

end Go.Proofs.YtkkfmjpbiimkbaaGreat
