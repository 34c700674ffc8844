/- FnExactFeasible: the walks of functions that it reaches (ExactFeasibleBWs,part 2). Printed by gen.py. -/
import Derived.Test.YtkkfmjpbiimkbaaGreatExactFeasibleBWs1
set_option maxRecDepth 20000
set_option linter.unusedSimpArgs false
set_option linter.unusedVariables false
namespace Go.Proofs.YtkkfmjpbiimkbaaGreat
open Go Go.RowKit
open Enc (rd ow)
open Arg (argv)
open Ret (retv)
open Go.Proofs.Tryz

theorem c_spec_l13Carton (fu:Nat) {w0:World} (x1:Carton) {Aj:List Value} {F3:List Nat} (Ao:rd w0 F3 Aj x1) {r:Bool}
    (h:d_spec_l13Carton fu x1 = some r) :
    Calls Tryz.prog 210 #[.agg Aj.toArray] w0 fun e w=>e = .returned (.bool (r)) ∧ Ext [] w0 w:=by
 refine enter (vs:=[_]) func210 z ntmps210 z fun a k=>?_
 have m:=St.start w0
 obtain ⟨v5,_,rfl,rfl,Aa⟩:=Ao
 unfold d_spec_l13Carton at h
 refine wr (s_box (cs:=[I x1.fType,I x1.fGroup,v5]) m k z z z z z z fun b7 w9 a k m e Ab=>pN 1 k z fun a k=>nn (c_cut (fun a w=>K 52 [(1,.pointer (some (⟨b7,0,none⟩:Addr)))] a ∧ St [] w0 w [([b7],w9)] ∧ d_spec_l13Carton_J2 fu x1 = some r) ?_ ?_))
 · rintro a Bc ⟨k,m,h⟩
   unfold d_spec_l13Carton_J2 at h
   refine wp_seq (wr (pN 1 k z fun a k=>nn (wp_block (c_loop (fun n a w=>∃ (Ac:Int),K 52 [(1,.pointer (some (⟨b7,0,none⟩:Addr))),(3,I Ac)] a ∧ St [] w0 w [([b7],w9)] ∧ d_spec_l13Carton_L1 fu x1 n Ac = some r) ?_ ?_ fu _ _ ?_))))
   · rintro a w ⟨_,_,_,h⟩
     exact nS h
   · rintro Aq a Be ⟨Ac,k,m,h⟩
     rw [d_spec_l13Carton_L1_s] at h
     unfold d_spec_l13Carton_L1_B at h
     refine wp_seq (wr (pN 1 k z fun a k=>sv k z (r_fa fa83_2 k z z) fun a k=>sv k z (r_ldb t163 m 0 Ab 2 k z z z z z) fun a k=>sv k z (r_len (α:=Int) Aa k underlying63 z z) fun a k=>pN 1 k z fun a k=>nn (cI h k z (fun Am h=>?_) fun Am h=>?_)))
     · refine wp_skip (nm_then ?_)
       refine c_cut (fun a w=>K 52 [(1,.pointer (some (⟨b7,0,none⟩:Addr))),(3,I Ac)] a ∧ St [] w0 w [([b7],w9)] ∧ d_spec_l13Carton_J1 fu (d_spec_l13Carton_L1 fu x1 Aq) Ac = some r) ?_ ?_
       · rintro a Bg ⟨k,m,h⟩
         unfold d_spec_l13Carton_J1 at h
         refine wp_region_lit (pN 3 k z fun a k=>nn ?_)
         exact ⟨w64 (Ac + 1),k.keep [1,3] z,m.sel [0] z (by decide),h⟩
       refine wp_block (wp_seq (d_go [] mixo m z fun Al hMd=>?_))
       have m:=hMd
       have s:=Ext.refl ([]:List Nat) Al
       refine dN [2] 1 z k (by kernel_rfl) z s (fun _ _ _ _ _=>id) fun a k=>dt k 0 z (by kernel_rfl) z s (fun _ _ _=>id) (fun w s=>r_fa fa83_2 k z z) fun a k=>dt k 1 z (by kernel_rfl) z s (fun _ _ _=>id) (fun w s=>r_ld1 t163 (r:=[]) (Ab.at ((hMd.step s).a 0 z) 2 1 z z z) k z z) fun a k=>oE h fun Ba Ah h=>dt k 3 z (by kernel_rfl) z s (fun _ _ _=>id) (fun w s=>r_ixa Aa Ah k ts63 z z z) fun a k=>dt k 4 z (by kernel_rfl) z s (fun _ _ _=>id) (fun w s=>r_lde1 Aa ((hMd.step s).a00 (Enc.rd_lt Aa)) Ah 0 t13 k z z z z) fun a k=>d_one 5 (by kernel_rfl) z (oE h fun Av At h=>cE k m call130 z z z (c_spec_l1In fu _ _ _  At) fun Ax e a k m=>?_)
       have s:=s.trans e (by simp)
       refine wpList_nil ⟨s,?_⟩
       refine dN [6,7] 2 z k (by kernel_rfl) z s (fun _ _ _ _ _=>id) fun a k=>bsplit (!Av) (fun Ad=>?_) (fun Ad=>?_)
       · have h:=bif_t Ad h
         refine rB k 34 z Ad fun k=>dN [8,9,10,11,12,13,14,15,16,17,18,19,20,21,22,23,24] 17 z k (by kernel_rfl) z s (fun _ _ _ _ _=>id) fun a k=>d_done (by kernel_rfl) ?_
         have k:=k.keep [1,3,51] z
         refine (nm_then ?_)
         refine wp_cond_true (k.ev z) (wr (pN 1 k z fun a k=>nn (wp_ret (rt_block (rt_then (rt_then (rt_block (rt_then ?_))))))))
         refine fS h k m z z
       have h:=bif_f Ad h
       refine rB k 34 z Ad fun k=>dN [8,9,10] 3 z k (by kernel_rfl) z s (fun _ _ _ _ _=>id) fun a k=>bsplit (decide (Ac > 0)) (fun Ae=>?_) (fun Ae=>?_)
       · have h:=bif_t Ae h
         refine rB k 37 z Ae fun k=>dN [13,18,19] 3 z k (by kernel_rfl) z s (fun _ _ _ _ _=>id) fun a k=>dt k 11 z (by kernel_rfl) z s (fun _ _ _=>id) (fun w s=>r_fa fa83_2 k z z) fun a k=>dt k 12 z (by kernel_rfl) z s (fun _ _ _=>id) (fun w s=>r_ld1 t163 (r:=[]) (Ab.at ((hMd.step s).a 0 z) 2 1 z z z) k z z) fun a k=>oE h fun Az Ay h=>dt k 14 z (by kernel_rfl) z s (fun _ _ _=>id) (fun w s=>r_ixa Aa Ah k ts63 z z z) fun a k=>dt k 15 z (by kernel_rfl) z s (fun _ _ _=>id) (fun w s=>r_lde1 Aa ((hMd.step s).a00 (Enc.rd_lt Aa)) Ah 0 t13 k z z z z) fun a k=>dt k 16 z (by kernel_rfl) z s (fun _ _ _=>id) (fun w s=>r_fa fa83_2 k z z) fun a k=>?_
         refine dt k 17 z (by kernel_rfl) z s (fun _ _ _=>id) (fun w s=>r_ld1 t163 (r:=[]) (Ab.at ((hMd.step s).a 0 z) 2 1 z z z) k z z) fun a k=>oE h fun Bf Ai h=>dt k 20 z (by kernel_rfl) z s (fun _ _ _=>id) (fun w s=>r_ixa Aa Ai k ts63 z z z) fun a k=>dt k 21 z (by kernel_rfl) z s (fun _ _ _=>id) (fun w s=>r_lde1 Aa ((hMd.step s).a00 (Enc.rd_lt Aa)) Ai 0 t13 k z z z z) fun a k=>dN [22,23,24] 3 z k (by kernel_rfl) z s (fun _ _ _ _ _=>id) fun a k=>d_done (by kernel_rfl) ?_
         have k:=k.keep [1,3,51] z
         refine (nm_then ?_)
         refine cI h k z (fun Au h=>?_) fun Au h=>?_
         · refine wr (pN 1 k z fun a k=>nn (wp_ret (rt_block (rt_then (rt_then (rt_block (rt_then ?_)))))))
           refine fS h k m z z
         refine wp_skip (nm_block (nm_then ?_))
         exact ⟨k.keep [1,3] z,m.sel [0] z (by decide),h⟩
       have h:=bif_f Ae h
       refine rB k 37 z Ae fun k=>dN [11,12,13,14,15,16,17,18,19,20,21,22,23,24] 14 z k (by kernel_rfl) z s (fun _ _ _ _ _=>id) fun a k=>d_done (by kernel_rfl) ?_
       have k:=k.keep [1,3,51] z
       refine (nm_then ?_)
       refine wp_cond_false (k.ev z) (wp_skip (nm_block (nm_then ?_)))
       exact ⟨k.keep [1,3] z,m.sel [0] z (by decide),h⟩
     refine wp_exit (ex_then (ex_then (ex_same (nm_then ?_))))
     refine wr (pN 1 k z fun a k=>nn (wp_ret (fS h k m z z)))
   exact ⟨0,k.keep [1,3] z,m.sel [0] z (by decide),h⟩
 refine wr (sv k z (r_fa fa83_0 k z z) fun a k=>sv k z (r_ldb t13 m 0 Ab 0 k z z z z z) fun a k=>oE h fun Ak As h=>cE k m call259 z z z (c_spec_l2Id fu _  As) fun Bd e a k m=>pN 2 k z fun a k=>bsplit (!Ak) (fun Ag=>?_) (fun Ag=>?_))
 · have h:=bif_t Ag h
   refine rB k 8 z Ag fun k=>pN 11 k z fun a k=>nn (wp_cond_true (k.ev z) (wr (pN 1 k z fun a k=>nn (wp_ret (rt_then ?_)))))
   refine fS h k m z z
 have h:=bif_f Ag h
 refine rB k 8 z Ag fun k=>sv k z (r_fa fa83_1 k z z) fun a k=>sv k z (r_ldb t13 m 0 Ab 1 k z z z z z) fun a k=>oE h fun Ap Aw h=>cE k m call130 z z z (c_spec_l1In fu _ _ _  Aw) fun Bb e a k m=>pN 3 k z fun a k=>bsplit (!Ap) (fun Af=>?_) (fun Af=>?_)
 · have h:=bif_t Af h
   refine rB k 14 z Af fun k=>pN 5 k z fun a k=>nn (wp_cond_true (k.ev z) (wr (pN 1 k z fun a k=>nn (wp_ret (rt_then ?_)))))
   refine fS h k m z z
 have h:=bif_f Af h
 refine rB k 14 z Af fun k=>sv k z (r_fa fa83_2 k z z) fun a k=>sv k z (r_ldb t163 m 0 Ab 2 k z z z z z) fun a k=>sv k z (r_len (α:=Int) Aa k underlying63 z z) fun a k=>pN 2 k z fun a k=>nn (cI h k z (fun Ar h=>?_) fun Ar h=>?_)
 · refine wr (pN 1 k z fun a k=>nn (wp_ret (rt_then ?_)))
   refine fS h k m z z
 refine wp_skip (nm_then ?_)
 exact ⟨k.keep [1] z,m.sel [0] z (by decide),h⟩
theorem c_spec_PlanOk (fu:Nat) {w0:World} (x1:Plan) {Ar:List Value} {F3:List Nat} (Ba:rd w0 F3 Ar x1) {r:Bool}
    (h:d_spec_PlanOk fu x1 = some r) :
    Calls Tryz.prog 104 #[.agg Ar.toArray] w0 fun e w=>e = .returned (.bool (r)) ∧ Ext [] w0 w:=by
 refine enter (vs:=[_]) func104 z ntmps104 z fun a k=>?_
 have m:=St.start w0
 obtain ⟨v5,F6,v7,F8,rfl,rfl,Aa,Aj⟩:=Ba
 unfold d_spec_PlanOk at h
 refine wr (s_box (cs:=[v5,v7]) m k z z z z z z fun Ac Ao a k m e Ab=>pN 1 k z fun a k=>nn (c_cut (fun a w=>K 61 [(1,.pointer (some (⟨Ac,0,none⟩:Addr)))] a ∧ St [] w0 w [([Ac],Ao)] ∧ d_spec_PlanOk_J2 fu x1 = some r) ?_ ?_))
 · rintro a Bu ⟨k,m,h⟩
   unfold d_spec_PlanOk_J2 at h
   refine wp_seq (wr (pN 1 k z fun a k=>nn (wp_block (c_loop (fun n a w=>∃ (Ad:Int),K 61 [(1,.pointer (some (⟨Ac,0,none⟩:Addr))),(3,I Ad)] a ∧ St [] w0 w [([Ac],Ao)] ∧ d_spec_PlanOk_L1 fu x1 n Ad = some r) ?_ ?_ fu _ _ ?_))))
   · rintro a w ⟨_,_,_,h⟩
     exact nS h
   · rintro Bg a Bp ⟨Ad,k,m,h⟩
     rw [d_spec_PlanOk_L1_s] at h
     unfold d_spec_PlanOk_L1_B at h
     refine wp_seq (wr (pN 1 k z fun a k=>sv k z (r_fa fa58_0 k z z) fun a k=>sv k z (r_ldb t155 m 0 Ab 0 k z z z z z) fun a k=>sv k z (r_len (α:=Carton) Aa k underlying55 z z) fun a k=>pN 1 k z fun a k=>nn (cI h k z (fun Bi h=>?_) fun Bi h=>?_)))
     · refine wp_skip (nm_then ?_)
       refine c_cut (fun a w=>K 61 [(1,.pointer (some (⟨Ac,0,none⟩:Addr))),(3,I Ad)] a ∧ St [] w0 w [([Ac],Ao)] ∧ d_spec_PlanOk_J1 fu (d_spec_PlanOk_L1 fu x1 Bg) Ad = some r) ?_ ?_
       · rintro a Bv ⟨k,m,h⟩
         unfold d_spec_PlanOk_J1 at h
         refine wp_region_lit (pN 3 k z fun a k=>nn ?_)
         exact ⟨w64 (Ad + 1),k.keep [1,3] z,m.sel [0] z (by decide),h⟩
       refine wp_block (wr (sv k z (r_fa fa58_1 k z z) fun a k=>sv k z (r_ldb t156 m 0 Ab 1 k z z z z z) fun a k=>pN 1 k z fun a k=>oE h fun Al Aq h=>sv k z (r_ixa Aj Aq k ts56 z z z) fun a k=>sv k z (r_lde Aj (m.a00 (Enc.rd_lt Aj)) Aq ta89 k z z) fun a k=>s_alloc (cs:=[I 0,I 0,I 0,I 0]) m k zeroValue89 z z z z z fun Bs Bm a k m e Bj=>s_stb (cs':=[I Al.fPallet,I Al.fX,I Al.fY,I Al.fZ]) sizeOf89 m 0 Bj 0 k z z z z z z z z z z z fun Bo a k e m Ak=>nn (wr (sv k z (r_fa fa58_0 k z z) fun a k=>sv k z (r_ldb t155 m 1 Ab 0 k z z z z z) fun a k=>pN 1 k z fun a k=>oE h fun Am As h=>?_))))
       refine sv k z (r_ixa Aa As k ts55 z z z) fun a k=>?_
       obtain ⟨Bz,Bn,Ca,Av,Aw,Bk⟩:=rd_get Aa (ix_some As).2.2
       obtain ⟨Bc,_,rfl,rfl,Ap⟩:=Av
       refine sv k z (r_ldA ta83 (Aw.agr (m.a00 (Enc.rd_lt Aa)) Bk) z k z z) fun a k=>oE h fun Bh Bd h=>cE k m call210 z z z (c_spec_l13Carton fu _ (show rd _ _ [I Am.fType,I Am.fGroup,Bc] (Am:Carton) from ⟨_,_,z,z,(Enc.rd_agr Ap (m.a00 (Enc.rd_lt Ap)))⟩) Bd) fun Bx e a k m=>pN 2 k z fun a k=>bsplit (!Bh) (fun Ag=>?_) (fun Ag=>?_)
       · have h:=bif_t Ag h
         refine rB k 37 z Ag fun k=>pN 23 k z fun a k=>?_
         have k:=k.keep [1,3,60] z
         refine nn (wp_cond_true (k.ev z) (wr (pN 1 k z fun a k=>nn (wp_ret (rt_block (rt_then (rt_then (rt_block (rt_then ?_)))))))))
         refine fS h k m z z
       have h:=bif_f Ag h
       refine rB k 37 z Ag fun k=>sv k z (r_fa fa89_0 k z z) fun a k=>sv k z (r_ldb t13 m 0 Ak 0 k z z z z z) fun a k=>oE h fun At Bl h=>cE k m call130 z z z (c_spec_l1In fu _ _ _  Bl) fun Bq e a k m=>pN 3 k z fun a k=>bsplit (!At) (fun Ae=>?_) (fun Ae=>?_)
       · have h:=bif_t Ae h
         refine rB k 43 z Ae fun k=>pN 17 k z fun a k=>?_
         have k:=k.keep [1,3,60] z
         refine nn (wp_cond_true (k.ev z) (wr (pN 1 k z fun a k=>nn (wp_ret (rt_block (rt_then (rt_then (rt_block (rt_then ?_)))))))))
         refine fS h k m z z
       have h:=bif_f Ae h
       refine rB k 43 z Ae fun k=>sv k z (r_fa fa89_1 k z z) fun a k=>sv k z (r_ldb t13 m 0 Ak 1 k z z z z z) fun a k=>oE h fun Az Ax h=>cE k m call130 z z z (c_spec_l1In fu _ _ _  Ax) fun Bw e a k m=>pN 3 k z fun a k=>bsplit (!Az) (fun Ah=>?_) (fun Ah=>?_)
       · have h:=bif_t Ah h
         refine rB k 49 z Ah fun k=>pN 11 k z fun a k=>?_
         have k:=k.keep [1,3,60] z
         refine nn (wp_cond_true (k.ev z) (wr (pN 1 k z fun a k=>nn (wp_ret (rt_block (rt_then (rt_then (rt_block (rt_then ?_)))))))))
         refine fS h k m z z
       have h:=bif_f Ah h
       refine rB k 49 z Ah fun k=>sv k z (r_fa fa89_2 k z z) fun a k=>sv k z (r_ldb t13 m 0 Ak 2 k z z z z z) fun a k=>oE h fun Be Au h=>cE k m call130 z z z (c_spec_l1In fu _ _ _  Au) fun Br e a k m=>pN 3 k z fun a k=>bsplit (!Be) (fun Ai=>?_) (fun Ai=>?_)
       · have h:=bif_t Ai h
         refine rB k 55 z Ai fun k=>pN 5 k z fun a k=>?_
         have k:=k.keep [1,3,60] z
         refine nn (wp_cond_true (k.ev z) (wr (pN 1 k z fun a k=>nn (wp_ret (rt_block (rt_then (rt_then (rt_block (rt_then ?_)))))))))
         refine fS h k m z z
       have h:=bif_f Ai h
       refine rB k 55 z Ai fun k=>sv k z (r_fa fa89_3 k z z) fun a k=>sv k z (r_ldb t13 m 0 Ak 3 k z z z z z) fun a k=>oE h fun Bt Bb h=>cE k m call130 z z z (c_spec_l1In fu _ _ _  Bb) fun By e a k m=>pN 2 k z fun a k=>?_
       have k:=k.keep [1,3,60] z
       refine nn (cI h k z (fun Bf h=>?_) fun Bf h=>?_)
       · refine wr (pN 1 k z fun a k=>nn (wp_ret (rt_block (rt_then (rt_then (rt_block (rt_then ?_)))))))
         refine fS h k m z z
       refine wp_skip (nm_block (nm_then ?_))
       exact ⟨k.keep [1,3] z,m.sel [1] z (by decide),h⟩
     refine wp_exit (ex_then (ex_then (ex_same (nm_then ?_))))
     refine wr (pN 1 k z fun a k=>nn (wp_ret (fS h k m z z)))
   exact ⟨0,k.keep [1,3] z,m.sel [0] z (by decide),h⟩
 refine wr (sv k z (r_fa fa58_0 k z z) fun a k=>sv k z (r_ldb t155 m 0 Ab 0 k z z z z z) fun a k=>sv k z (r_len (α:=Carton) Aa k underlying55 z z) fun a k=>sv k z (r_fa fa58_1 k z z) fun a k=>sv k z (r_ldb t156 m 0 Ab 1 k z z z z z) fun a k=>sv k z (r_len (α:=Spot) Aj k underlying56 z z) fun a k=>pN 2 k z fun a k=>bsplit (((x1.fCartons.length:Int)) != ((x1.fSpots.length:Int))) (fun Af=>?_) (fun Af=>?_))
 · have h:=bif_t Af h
   refine rB k 12 z Af fun k=>pN 5 k z fun a k=>nn (wp_cond_true (k.ev z) (wr (pN 1 k z fun a k=>nn (wp_ret (rt_then ?_)))))
   refine fS h k m z z
 have h:=bif_f Af h
 refine rB k 12 z Af fun k=>sv k z (r_fa fa58_0 k z z) fun a k=>sv k z (r_ldb t155 m 0 Ab 0 k z z z z z) fun a k=>sv k z (r_len (α:=Carton) Aa k underlying55 z z) fun a k=>pN 2 k z fun a k=>nn (cI h k z (fun Ay h=>?_) fun Ay h=>?_)
 · refine wr (pN 1 k z fun a k=>nn (wp_ret (rt_then ?_)))
   refine fS h k m z z
 refine wp_skip (nm_then ?_)
 exact ⟨k.keep [1] z,m.sel [0] z (by decide),h⟩
theorem c_spec_l15Empty (fu:Nat) {w0:World} (x1:Plan) {Ae:List Value} {F3:List Nat} (Ah:rd w0 F3 Ae x1) {r:Bool}
    (h:d_spec_l15Empty fu x1 = some r) :
    Calls Tryz.prog 105 #[.agg Ae.toArray] w0 fun e w=>e = .returned (.bool (r)) ∧ Ext [] w0 w:=by
 refine enter (vs:=[_]) func105 z ntmps105 z fun a k=>?_
 have m:=St.start w0
 obtain ⟨v5,F6,v7,F8,rfl,rfl,Aa,Aq⟩:=Ah
 unfold d_spec_l15Empty at h
 refine wr (s_box (cs:=[v5,v7]) m k z z z z z z fun Af Ai a k m e Ad=>pN 1 k z fun a k=>nn (wp_seq (wr (pN 1 k z fun a k=>nn (wp_block (c_loop (fun n a w=>∃ (Ab:Int),K 19 [(1,.pointer (some (⟨Af,0,none⟩:Addr))),(3,I Ab)] a ∧ St [] w0 w [([Af],Ai)] ∧ d_spec_l15Empty_L1 fu x1 n Ab = some r) ?_ ?_ fu _ _ ?_))))))
 · rintro a w ⟨_,_,_,h⟩
   exact nS h
 · rintro Av a Ap ⟨Ab,k,m,h⟩
   rw [d_spec_l15Empty_L1_s] at h
   unfold d_spec_l15Empty_L1_B at h
   refine wp_seq (wr (pN 1 k z fun a k=>sv k z (r_fa fa58_0 k z z) fun a k=>sv k z (r_ldb t155 m 0 Ad 0 k z z z z z) fun a k=>sv k z (r_len (α:=Carton) Aa k underlying55 z z) fun a k=>pN 1 k z fun a k=>nn (cI h k z (fun Ag h=>?_) fun Ag h=>?_)))
   · refine wp_skip (nm_then ?_)
     refine wp_seq (wp_block (wr (sv k z (r_fa fa58_0 k z z) fun a k=>sv k z (r_ldb t155 m 0 Ad 0 k z z z z z) fun a k=>pN 1 k z fun a k=>oE h fun Au Ac h=>sv k z (r_ixa Aa Ac k ts55 z z z) fun a k=>sv k z (r_fa fa83_2 k z z) fun a k=>?_)))
     obtain ⟨As,At,Ar,Ak,Ao,Al⟩:=rd_get Aa (ix_some Ac).2.2
     obtain ⟨Aw,_,rfl,rfl,Am⟩:=Ak
     refine sv k z (r_ld1 t163 ((Ao.agr (m.a00 (Enc.rd_lt Aa)) Al).fld 2 1 (Nat.le_of_ble_eq_true z)) k z z) fun a k=>sv k z (r_len (α:=Int) Am k underlying63 z z) fun a k=>pN 1 k z fun a k=>nn (cI h k z (fun Aj h=>?_) fun Aj h=>?_)
     · refine wr (pN 1 k z fun a k=>nn (wp_ret (rt_block (rt_then (rt_then (rt_block (rt_then ?_)))))))
       refine fS h k m z z
     refine wp_skip (nm_block (nm_then ?_))
     refine wp_region_lit (pN 3 k z fun a k=>nn ?_)
     exact ⟨w64 (Ab + 1),k.keep [1,3] z,m.sel [0] z (by decide),h⟩
   refine wp_exit (ex_then (ex_then (ex_same (nm_then ?_))))
   refine wr (pN 1 k z fun a k=>nn (wp_ret (fS h k m z z)))
 exact ⟨0,k.keep [1,3] z,m.sel [0] z (by decide),h⟩
theorem c_spec_l6Units (fu:Nat) {w0:World} (r1:Request) {Aq:List Value} {F3:List Nat} (Ax:rd w0 F3 Aq r1) {r:(List Int)}
    (h:d_spec_l6Units fu r1 = some r) :
    Calls Tryz.prog 90 #[.agg Aq.toArray] w0 fun e w=>∃ (v0:Value) (G0:List Nat),e = .returned (v0) ∧ Ext [] w0 w ∧ ow w G0 [v0] r ∧ (∀ b ∈ G0,w0.heap.size ≤ b):=by
 refine enter (vs:=[_]) func90 z ntmps90 z fun a k=>?_
 have m:=St.start w0
 obtain ⟨v5,F6,v7,F8,v9,Br,rfl,rfl,Bn,Bt,Ai⟩:=Ax
 unfold d_spec_l6Units at h
 refine wr (s_box (cs:=[I r1.fWay,I r1.fPallet.fW,I r1.fPallet.fD,I r1.fPallet.fH,I r1.fPallet.fGram,I r1.fClasses,v5,v7,I r1.fMaster,v9]) m k z z z z z z fun Al At a k m e Ar=>pN 1 k z fun a k=>nn (wr (s_bs (cs:=[]) (ps:=[]) te63 m k z z z z z z z (by decide) z (by exact (List.forall_mem_nil _)) fun Ap Ba Bl a k m e Au=>?_)))
 have Bc:=ow_bx Au ([]:List Int) z z z
 refine pN 1 k z fun a k=>nn (wp_seq (wr (pN 1 k z fun a k=>nn (wp_block (c_loop (fun n a w=>∃ (Ag:List Int) (Ah:Value) (Ab:List Nat) (Ac:World) (Aa:Int),K 29 [(1,.pointer (some (⟨Al,0,none⟩:Addr))),(3,Ah),(4,I Aa)] a ∧ St [] w0 w [([Al],At),(Ab,Ac)] ∧ ow Ac Ab [Ah] Ag ∧ d_spec_l6Units_L2 fu r1 n Ag Aa = some r) ?_ ?_ fu _ _ ?_)))))
 · rintro a w ⟨_,_,_,_,_,_,_,_,h⟩
   exact nS h
 · rintro Bf a Bo ⟨Ag,Ah,Ab,Ac,Aa,k,m,Ao,h⟩
   rw [d_spec_l6Units_L2_s] at h
   unfold d_spec_l6Units_L2_B at h
   refine wp_seq (wr (pN 1 k z fun a k=>sv k z (r_fa fa38_6 k z z) fun a k=>sv k z (r_ldb t136 m 0 Ar 9 k z z z z z) fun a k=>sv k z (r_len (α:=Item) Ai k underlying36 z z) fun a k=>pN 1 k z fun a k=>nn (cI h k z (fun Be h=>?_) fun Be h=>?_)))
   · refine wp_skip (nm_then ?_)
     refine wp_seq (wp_block (wr (pN 1 k z fun a k=>nn (wp_block (c_loop (fun n a w=>∃ (Ak:List Int) (Ad:Value) (Aj:List Nat) (Ae:World) (Af:Int),K 29 [(1,.pointer (some (⟨Al,0,none⟩:Addr))),(3,Ad),(4,I Aa),(5,I Af)] a ∧ St [] w0 w [([Al],At),(Aj,Ae)] ∧ ow Ae Aj [Ad] Ak ∧ d_spec_l6Units_L1 fu (d_spec_l6Units_L2 fu r1 Bf) r1 Aa n Ak Af = some r) ?_ ?_ fu _ _ ?_)))))
     · rintro a w ⟨_,_,_,_,_,_,_,_,h⟩
       exact nS h
     · rintro Bm a Bq ⟨Ak,Ad,Aj,Ae,Af,k,m,As,h⟩
       rw [d_spec_l6Units_L1_s] at h
       unfold d_spec_l6Units_L1_B at h
       refine wp_seq (wr (pN 1 k z fun a k=>sv k z (r_fa fa38_6 k z z) fun a k=>sv k z (r_ldb t136 m 0 Ar 9 k z z z z z) fun a k=>pN 1 k z fun a k=>oE h fun Bj Am h=>sv k z (r_ixa Ai Am k ts36 z z z) fun a k=>sv k z (r_fa fa158_6 k z z) fun a k=>sv k z (r_lde1 Ai (m.a00 (Enc.rd_lt Ai)) Am 6 t13 k z z z z) fun a k=>pN 1 k z fun a k=>nn (cI h k z (fun Az h=>?_) fun Az h=>?_)))
       · refine wp_skip (nm_then ?_)
         refine wp_seq (wp_block (wp_region_lit (pN 2 k z fun a k=>s_bs (cs:=[I Aa]) (ps:=[(0,.tmp 25)]) te63 m k z z z z z z z (by decide) z (by exact (List.forall_mem_cons.2 ⟨z,(List.forall_mem_nil _)⟩)) fun Bs Bp Bk a k m e Aw=>?_)))
         have Bd:=ow_bx Aw ([Aa]:List Int) z z z
         refine oE h fun Bb Ay h=>s_appF Ay te63 z m 2 As (News.rd (Enc.rd_agr (Enc.ow_rd Bd) (m.a 0 z))) z z k z z z z z z z fun Bi Bh Av a k e m Bg=>pN 1 k z fun a k=>wpList_nil (nm_block (nm_then ?_))
         refine wp_region_lit (pN 3 k z fun a k=>nn ?_)
         exact ⟨Bb,Bi,Bh,Av,w64 (Af + 1),k.keep [1,3,4,5] z,m.sel [1,2] z (by decide),Bg,h⟩
       refine wp_exit (ex_then (ex_then (ex_same (nm_block (nm_then ?_)))))
       refine wp_region_lit (pN 3 k z fun a k=>nn ?_)
       exact ⟨Ak,Ad,Aj,Ae,w64 (Aa + 1),k.keep [1,3,4] z,m.sel [0,1] z (by decide),As,h⟩
     exact ⟨Ag,Ah,Ab,Ac,0,k.keep [1,3,4,5] z,m.sel [0,1] z (by decide),Ao,h⟩
   refine wp_exit (ex_then (ex_then (ex_same (nm_then ?_))))
   refine wr (pN 2 k z fun a k=>nn (wp_ret ?_))
   cases h
   exact finR1 k z (RV.tmp k z) ⟨_,Ab,z,m.ext,(Enc.ow_agr Ao (m.a 1 z)),(m.fresh 1 z)⟩
 exact ⟨([]:List Int),(.slice (some ⟨Ap,0,none⟩) 0 0),[Ap],Ba,0,k.keep [1,3,4] z,m.sel [1,0] z (by decide),Bc,h⟩
theorem c_spec_l15Flat (fu:Nat) {w0:World} (x1:Plan) {Al:List Value} {F3:List Nat} (Ar:rd w0 F3 Al x1) {r:(List Int)}
    (h:d_spec_l15Flat fu x1 = some r) :
    Calls Tryz.prog 211 #[.agg Al.toArray] w0 fun e w=>∃ (v0:Value) (G0:List Nat),e = .returned (v0) ∧ Ext [] w0 w ∧ ow w G0 [v0] r ∧ (∀ b ∈ G0,w0.heap.size ≤ b):=by
 refine enter (vs:=[_]) func211 z ntmps211 z fun a k=>?_
 have m:=St.start w0
 obtain ⟨v5,F6,v7,F8,rfl,rfl,Ab,Bd⟩:=Ar
 unfold d_spec_l15Flat at h
 refine wr (s_box (cs:=[v5,v7]) m k z z z z z z fun Am Av a k m e Aj=>pN 1 k z fun a k=>nn (wr (s_bs (cs:=[]) (ps:=[]) te63 m k z z z z z z z (by decide) z (by exact (List.forall_mem_nil _)) fun Ak Ay Be a k m e Aw=>?_)))
 have Ba:=ow_bx Aw ([]:List Int) z z z
 refine pN 1 k z fun a k=>nn (wp_seq (wr (pN 1 k z fun a k=>nn (wp_block (c_loop (fun n a w=>∃ (Ad:List Int) (Af:Value) (Ac:List Nat) (Ae:World) (Aa:Int),K 22 [(1,.pointer (some (⟨Am,0,none⟩:Addr))),(3,Af),(4,I Aa)] a ∧ St [] w0 w [([Am],Av),(Ac,Ae)] ∧ ow Ae Ac [Af] Ad ∧ d_spec_l15Flat_L1 fu x1 n Ad Aa = some r) ?_ ?_ fu _ _ ?_)))))
 · rintro a w ⟨_,_,_,_,_,_,_,_,h⟩
   exact nS h
 · rintro Bf a Bk ⟨Ad,Af,Ac,Ae,Aa,k,m,Ag,h⟩
   rw [d_spec_l15Flat_L1_s] at h
   unfold d_spec_l15Flat_L1_B at h
   refine wp_seq (wr (pN 1 k z fun a k=>sv k z (r_fa fa58_0 k z z) fun a k=>sv k z (r_ldb t155 m 0 Aj 0 k z z z z z) fun a k=>sv k z (r_len (α:=Carton) Ab k underlying55 z z) fun a k=>pN 1 k z fun a k=>nn (cI h k z (fun As h=>?_) fun As h=>?_)))
   · refine wp_skip (nm_then ?_)
     refine wp_seq (wp_block (wp_region_lit (pN 1 k z fun a k=>sv k z (r_fa fa58_0 k z z) fun a k=>sv k z (r_ldb t155 m 0 Aj 0 k z z z z z) fun a k=>pN 1 k z fun a k=>oE h fun Bj Ah h=>sv k z (r_ixa Ab Ah k ts55 z z z) fun a k=>sv k z (r_fa fa83_2 k z z) fun a k=>?_)))
     obtain ⟨Bl,Bh,Bi,Ao,Az,Ap⟩:=rd_get Ab (ix_some Ah).2.2
     obtain ⟨Bg,_,rfl,rfl,Ai⟩:=Ao
     refine sv k z (r_ld1 t163 ((Az.agr (m.a00 (Enc.rd_lt Ab)) Ap).fld 2 1 (Nat.le_of_ble_eq_true z)) k z z) fun a k=>oE h fun Ax Aq h=>s_appF Aq te63 z m 1 Ag (News.rd (Enc.rd_agr Ai (m.a00 (Enc.rd_lt Ai)))) z z k z z z z z z z fun Bb At Bc a k e m Au=>pN 1 k z fun a k=>wpList_nil (nm_block (nm_then ?_))
     refine wp_region_lit (pN 3 k z fun a k=>nn ?_)
     exact ⟨Ax,Bb,At,Bc,w64 (Aa + 1),k.keep [1,3,4] z,m.sel [0,1] z (by decide),Au,h⟩
   refine wp_exit (ex_then (ex_then (ex_same (nm_then ?_))))
   refine wr (pN 2 k z fun a k=>nn (wp_ret ?_))
   cases h
   exact finR1 k z (RV.tmp k z) ⟨_,Ac,z,m.ext,(Enc.ow_agr Ag (m.a 1 z)),(m.fresh 1 z)⟩
 exact ⟨([]:List Int),(.slice (some ⟨Ak,0,none⟩) 0 0),[Ak],Ay,0,k.keep [1,3,4] z,m.sel [1,0] z (by decide),Ba,h⟩
theorem c_spec_l1Bit (fu:Nat) {w0:World} (Aa:Bool)  {r:Int}
    (h:d_spec_l1Bit fu Aa = some r) :
    Calls Tryz.prog 100 #[.bool (Aa)] w0 fun e w=>e = .returned (I r) ∧ Ext [] w0 w:=by
 refine enter (vs:=[_]) func100 z ntmps100 z fun a k=>?_
 have m:=St.start w0
 unfold d_spec_l1Bit at h
 refine wr (pN 1 k z fun a k=>nn (wp_seq (wr (pN 1 k z fun a k=>nn (cI h k z (fun Ab h=>?_) fun Ab h=>?_)))))
 · refine wr (pN 1 k z fun a k=>nn (wp_ret (rt_then ?_)))
   refine fS h k m z z
 refine wp_skip (nm_then ?_)
 refine wr (pN 1 k z fun a k=>nn (wp_ret (fS h k m z z)))
theorem c_spec_l8Times (fu:Nat) {w0:World} (Ad:List Int) (x5:Int) {v2:Value} {F3:List Nat} (Ab:rd w0 F3 [v2] Ad) {r:Int}
    (h:d_spec_l8Times fu Ad x5 = some r) :
    Calls Tryz.prog 129 #[v2,I x5] w0 fun e w=>e = .returned (I r) ∧ Ext [] w0 w:=by
 refine enter (vs:=[_,_]) func129 z ntmps129 z fun a k=>?_
 have m:=St.start w0
 unfold d_spec_l8Times at h
 refine wr (pN 1 k z fun a k=>nn (wr (pN 1 k z fun a k=>nn (wp_seq (wr (pN 1 k z fun a k=>nn (wp_block (c_loop (fun n a w=>∃ (Aa:Int) (Ac:Int),K 23 [(0,v2),(1,I x5),(5,I Aa),(6,I Ac)] a ∧ St [] w0 w [] ∧ d_spec_l8Times_L1 fu Ad x5 n Aa Ac = some r) ?_ ?_ fu _ _ ?_))))))))
 · rintro a w ⟨_,_,_,_,h⟩
   exact nS h
 · rintro Ak a Ai ⟨Aa,Ac,k,m,h⟩
   rw [d_spec_l8Times_L1_s] at h
   unfold d_spec_l8Times_L1_B at h
   refine wp_seq (wr (pN 2 k z fun a k=>sv k z (r_len (α:=Int) Ab k underlying63 z z) fun a k=>pN 1 k z fun a k=>nn (cI h k z (fun Ag h=>?_) fun Ag h=>?_)))
   · refine wp_skip (nm_then ?_)
     refine wp_seq (wp_block (wp_region_lit (pN 3 k z fun a k=>oE h fun Aj Ae h=>sv k z (r_ixa Ab Ae k ts63 z z z) fun a k=>sv k z (r_lde1 Ab (m.a00 (Enc.rd_lt Ab)) Ae 0 t13 k z z z z) fun a k=>pN 2 k z fun a k=>oE h fun Af Ah h=>cE k m call100 z z z (c_spec_l1Bit fu _  Ah) fun Al e a k m=>pN 2 k z fun a k=>wpList_nil (nm_block (nm_then ?_)))))
     refine wp_region_lit (pN 3 k z fun a k=>nn ?_)
     exact ⟨w64 (Aa + Af),w64 (Ac + 1),k.keep [0,1,5,6] z,m.sel [] z (by decide),h⟩
   refine wp_exit (ex_then (ex_then (ex_same (nm_then ?_))))
   refine wr (pN 2 k z fun a k=>nn (wp_ret (fS h k m z z)))
 exact ⟨0,0,k.keep [0,1,5,6] z,m.sel [] z (by decide),h⟩
theorem c_spec_l15Units (fu:Nat) {w0:World} (Ac:List Int) (x5:Plan) {v2:Value} {F3:List Nat} (Af:rd w0 F3 [v2] Ac) {Ad:List Value} {F7:List Nat} (Ar:rd w0 F7 Ad x5) {r:Bool}
    (h:d_spec_l15Units fu Ac x5 = some r) :
    Calls Tryz.prog 106 #[v2,.agg Ad.toArray] w0 fun e w=>e = .returned (.bool (r)) ∧ Ext [] w0 w:=by
 refine enter (vs:=[_,_]) func106 z ntmps106 z fun a k=>?_
 have m:=St.start w0
 obtain ⟨v9,Bb,Ai,Ay,rfl,rfl,Ag,Ae⟩:=Ar
 unfold d_spec_l15Units at h
 refine wr (s_box (cs:=[v9,Ai]) m k z z z z z z fun Bd Az a k m e Ap=>pN 1 k z fun a k=>nn (wr (sv k z (r_ldB ta58 m 0 Ap 0 k z z z z z z) fun a k=>oE h fun At Ak h=>s_call k call211 z z z z z (c_spec_l15Flat fu _ (show rd _ _ [v9,Ai] (x5:Plan) from ⟨_,_,_,_,z,z,(Enc.rd_agr Ag (m.a00 (Enc.rd_lt Ag))),(Enc.rd_agr Ae (m.a00 (Enc.rd_lt Ae)))⟩) Ak) fun Aw Ao hR=>?_)))
 obtain ⟨Aj,Ah,rfl,e,Aa,Al⟩:=hR
 refine ⟨_,z,fun a k=>?_⟩
 have m:=m.new e Ah (fun b hb=>⟨Al b hb,Enc.rd_lt (Enc.ow_rd Aa) b hb⟩) (Enc.ow_nd Aa)
 refine pN 1 k z fun a k=>nn (wp_seq (wr (pN 1 k z fun a k=>sv k z (r_len (α:=Int) (Enc.ow_rd Aa) k underlying63 z z) fun a k=>pN 1 k z fun a k=>sv k z (r_len (α:=Int) Af k underlying63 z z) fun a k=>pN 1 k z fun a k=>nn (cI h k z (fun As h=>?_) fun As h=>?_))))
 · refine wr (pN 1 k z fun a k=>nn (wp_ret (rt_then ?_)))
   refine fS h k m z z
 refine wp_skip (nm_then ?_)
 refine wp_seq (wr (pN 1 k z fun a k=>nn (wp_block (c_loop (fun n a w=>∃ (Ab:Int),K 24 [(0,v2),(5,Aj),(6,I Ab)] a ∧ St [] w0 w [(Ah,Ao)] ∧ d_spec_l15Units_L1 fu Ac At n Ab = some r) ?_ ?_ fu _ _ ?_))))
 · rintro a w ⟨_,_,_,h⟩
   exact nS h
 · rintro Ba a Ax ⟨Ab,k,m,h⟩
   rw [d_spec_l15Units_L1_s] at h
   unfold d_spec_l15Units_L1_B at h
   refine wp_seq (wr (pN 2 k z fun a k=>sv k z (r_len (α:=Int) Af k underlying63 z z) fun a k=>pN 1 k z fun a k=>nn (cI h k z (fun Aq h=>?_) fun Aq h=>?_)))
   · refine wp_skip (nm_then ?_)
     refine wp_seq (wp_block (wr (pN 2 k z fun a k=>oE h fun Av Am h=>cE k m call129 z z z (c_spec_l8Times fu _ _ (Enc.rd_agr (Enc.ow_rd Aa) (m.a 0 z)) Am) fun Bc e a k m=>pN 1 k z fun a k=>nn (cI h k z (fun Au h=>?_) fun Au h=>?_))))
     · refine wr (pN 1 k z fun a k=>nn (wp_ret (rt_block (rt_then (rt_then (rt_block (rt_then ?_)))))))
       refine fS h k m z z
     refine wp_skip (nm_block (nm_then ?_))
     refine wp_region_lit (pN 3 k z fun a k=>nn ?_)
     exact ⟨w64 (Ab + 1),k.keep [0,5,6] z,m.sel [0] z (by decide),h⟩
   refine wp_exit (ex_then (ex_then (ex_same (nm_then ?_))))
   refine wr (pN 1 k z fun a k=>nn (wp_ret (fS h k m z z)))
 exact ⟨0,k.keep [0,5,6] z,m.sel [0] z (by decide),h⟩
theorem c_spec_TypeById (fu:Nat) {w0:World} (r1:Request) (Ad:Int) {Ai:List Value} {F3:List Nat} (Al:rd w0 F3 Ai r1) {r:Typ × Bool}
    (h:d_spec_TypeById fu r1 Ad = some r) :
    Calls Tryz.prog 184 #[.agg Ai.toArray,I Ad] w0 fun e w=>e = .returned (.tuple #[.agg (Flat.e r.1).toArray,.bool (r.2)]) ∧ Ext [] w0 w:=by
 refine enter (vs:=[_,_]) func184 z ntmps184 z fun a k=>?_
 have m:=St.start w0
 obtain ⟨v6,F7,v8,F9,Ao,Ba,rfl,rfl,Bb,Aa,Aw⟩:=Al
 unfold d_spec_TypeById at h
 refine wr (s_box (cs:=[I r1.fWay,I r1.fPallet.fW,I r1.fPallet.fD,I r1.fPallet.fH,I r1.fPallet.fGram,I r1.fClasses,v6,v8,I r1.fMaster,Ao]) m k z z z z z z fun Aj Am a k m e Af=>s_alloc (cs:=[I 0,I 0,I 0,I 0,I 0,I 0,I 0]) m k zeroValue79 z z z z z fun Ah Ar a k m e Ag=>pN 1 k z fun a k=>nn (wp_seq (wr (pN 1 k z fun a k=>nn (wp_block (c_loop (fun n a w=>∃ (Ac:Int),K 28 [(1,I Ad),(2,.pointer (some (⟨Aj,0,none⟩:Addr))),(4,.pointer (some (⟨Ah,0,none⟩:Addr))),(6,I Ac)] a ∧ St [] w0 w [([Aj],Am),([Ah],Ar)] ∧ d_spec_TypeById_L1 fu r1 Ad n Ac = some r) ?_ ?_ fu _ _ ?_))))))
 · rintro a w ⟨_,_,_,h⟩
   exact nS h
 · rintro Ay a Av ⟨Ac,k,m,h⟩
   rw [d_spec_TypeById_L1_s] at h
   unfold d_spec_TypeById_L1_B at h
   refine wp_seq (wr (pN 1 k z fun a k=>sv k z (r_fa fa38_4 k z z) fun a k=>sv k z (r_ldb t135 m 0 Af 7 k z z z z z) fun a k=>sv k z (r_len (α:=Typ) Aa k underlying35 z z) fun a k=>pN 1 k z fun a k=>nn (cI h k z (fun Ak h=>?_) fun Ak h=>?_)))
   · refine wp_skip (nm_then ?_)
     refine wp_seq (wp_block (wr (sv k z (r_fa fa38_4 k z z) fun a k=>sv k z (r_ldb t135 m 0 Af 7 k z z z z z) fun a k=>pN 1 k z fun a k=>oE h fun Ab Ae h=>sv k z (r_ixa Aa Ae k ts35 z z z) fun a k=>sv k z (r_fa fa79_0 k z z) fun a k=>sv k z (r_lde1 Aa (m.a00 (Enc.rd_lt Aa)) Ae 0 t13 k z z z z) fun a k=>pN 2 k z fun a k=>nn (cI h k z (fun Ap h=>?_) fun Ap h=>?_))))
     · refine wr (sv k z (r_fa fa38_4 k z z) fun a k=>sv k z (r_ldb t135 m 0 Af 7 k z z z z z) fun a k=>pN 1 k z fun a k=>oE h fun At Ax h=>sv k z (r_ixa Aa Ae k ts35 z z z) fun a k=>sv k z (r_lde Aa (m.a00 (Enc.rd_lt Aa)) Ae ta79 k z z) fun a k=>s_stb (cs':=[I Ab.fId,I Ab.fW,I Ab.fH,I Ab.fD,I Ab.fTare,I Ab.fGram,I Ab.fCost]) sizeOf79 m 1 Ag 0 k z z z z z z z z z z z fun Az a k e m Aq=>pN 1 k z fun a k=>nn (wp_ret (rt_block (rt_then (rt_then (rt_block (rt_then ?_)))))))
       cases h
       exact finR2 k z (RV.cA k z ta79 (Aq.at (m.a 1 z) 0 7 z z z) z) (RV.tmp k z) ⟨z,m.ext⟩
     refine wp_skip (nm_block (nm_then ?_))
     refine wp_region_lit (pN 3 k z fun a k=>nn ?_)
     exact ⟨w64 (Ac + 1),k.keep [1,2,4,6] z,m.sel [0,1] z (by decide),h⟩
   refine wp_exit (ex_then (ex_then (ex_same (nm_then ?_))))
   refine wr (sv k z (r_build bt79 k (cs:=#[I 0,I 0,I 0,I 0,I 0,I 0,I 0]) (ps:=[]) z z (by kernel_rfl)) fun a k=>s_stb (cs':=[I 0,I 0,I 0,I 0,I 0,I 0,I 0]) sizeOf79 m 1 Ag 0 k z z z z z z z z z z z fun Au a k e m As=>pN 1 k z fun a k=>nn (wp_ret ?_))
   cases h
   exact finR2 k z (RV.cA k z ta79 (As.at (m.a 1 z) 0 7 z z z) z) (RV.tmp k z) ⟨z,m.ext⟩
 exact ⟨0,k.keep [1,2,4,6] z,m.sel [1,0] z (by decide),h⟩
theorem c_spec_l6Item (fu:Nat) {w0:World} (r1:Request) (Ad:List Int) (u9:Int) {Ai:List Value} {F3:List Nat} (Ak:rd w0 F3 Ai r1) {v6:Value} {F7:List Nat} (Ab:rd w0 F7 [v6] Ad) {r:Item × Bool}
    (h:d_spec_l6Item fu r1 Ad u9 = some r) :
    Calls Tryz.prog 168 #[.agg Ai.toArray,v6,I u9] w0 fun e w=>e = .returned (.tuple #[.agg (Flat.e r.1).toArray,.bool (r.2)]) ∧ Ext [] w0 w:=by
 refine enter (vs:=[_,_,_]) func168 z ntmps168 z fun a k=>?_
 have m:=St.start w0
 obtain ⟨Ao,Bg,Ar,Be,Ap,Az,rfl,rfl,Au,Bc,Ac⟩:=Ak
 unfold d_spec_l6Item at h
 refine wr (s_box (cs:=[I r1.fWay,I r1.fPallet.fW,I r1.fPallet.fD,I r1.fPallet.fH,I r1.fPallet.fGram,I r1.fClasses,Ao,Ar,I r1.fMaster,Ap]) m k z z z z z z fun Bf Ax a k m e At=>s_alloc (cs:=[I 0,I 0,I 0,I 0,I 0,I 0,I 0]) m k zeroValue158 z z z z z fun Ah Av a k m e Af=>pN 1 k z fun a k=>nn (wp_seq (wr (pN 2 k z fun a k=>sv k z (r_len (α:=Int) Ab k underlying63 z z) fun a k=>pN 1 k z fun a k=>oE h fun Bd As h=>cE k m call130 z z z (c_spec_l1In fu _ _ _  As) fun Ba e a k m=>pN 1 k z fun a k=>nn (cI h k z (fun Aq h=>?_) fun Aq h=>?_)))))
 · refine wr (sv k z (r_build bt158 k (cs:=#[I 0,I 0,I 0,I 0,I 0,I 0,I 0]) (ps:=[]) z z (by kernel_rfl)) fun a k=>s_stb (cs':=[I 0,I 0,I 0,I 0,I 0,I 0,I 0]) sizeOf158 m 0 Af 0 k z z z z z z z z z z z fun Aw a k e m Am=>pN 1 k z fun a k=>nn (wp_ret (rt_then ?_)))
   cases h
   exact finR2 k z (RV.cA k z ta158 (Am.at (m.a 0 z) 0 7 z z z) z) (RV.tmp k z) ⟨z,m.ext⟩
 refine wp_skip (nm_then ?_)
 refine wp_seq (d_go ([Ah]) mixo m z fun Al hMd=>?_)
 have m:=hMd
 have s:=Ext.refl (([Ah]):List Nat) Al
 refine dN [2,3] 2 z k (by kernel_rfl) z s (fun _ _ _ _ _=>id) fun a k=>dt k 0 z (by kernel_rfl) z s (fun _ _ _=>id) (fun w s=>r_fa fa38_6 k z z) fun a k=>dt k 1 z (by kernel_rfl) z s (fun _ _ _=>id) (fun w s=>r_ld1 t136 (r:=[]) (At.at (hMd.az 1 0 z z z s) 9 1 z z z) k z z) fun a k=>oE h fun Ay Ag h=>dt k 4 z (by kernel_rfl) z s (fun _ _ _=>id) (fun w s=>r_ixa Ab Ag k ts63 z z z) fun a k=>dt k 5 z (by kernel_rfl) z s (fun _ _ _=>id) (fun w s=>r_lde1 Ab (hMd.az0 0 z z (Enc.rd_lt Ab) s) Ag 0 t13 k z z z z) fun a k=>oE h fun Aa Ae h=>dt k 6 z (by kernel_rfl) z s (fun _ _ _=>id) (fun w s=>r_ixa Ac Ae k ts36 z z z) fun a k=>?_
 refine dt k 7 z (by kernel_rfl) z s (fun _ _ _=>id) (fun w s=>r_lde Ac (hMd.az0 0 z z (Enc.rd_lt Ac) s) Ae ta158 k z z) fun a k=>d_one 8 (by kernel_rfl) z (s_stb (cs':=[I Aa.fId,I Aa.fW,I Aa.fH,I Aa.fD,I Aa.fGram,I Aa.fClass,I Aa.fCount]) sizeOf158 m 0 Af 0 k z z z z z z z z z z z fun Bb a k e m Aj=>?_)
 have s:=s.trans e (fun y hy=>Or.inl hy)
 refine wpList_nil ⟨s,?_⟩
 refine dN [9] 1 z k (by kernel_rfl) z s (fun _ _ _ _ _=>id) fun a k=>d_done (by kernel_rfl) ((nm_then ?_))
 refine wp_ret ?_
 cases h
 exact finR2 k z (RV.cA k z ta158 (Aj.at (m.a 0 z) 0 7 z z z) z) (RV.tmp k z) ⟨z,m.ext⟩
theorem c_spec_Volume (fu:Nat) {w0:World} (Ac:Int) (h2:Int) (d3:Int)  {r:Int}
    (h:d_spec_Volume fu Ac h2 d3 = some r) :
    Calls Tryz.prog 186 #[I Ac,I h2,I d3] w0 fun e w=>e = .returned (I r) ∧ Ext [] w0 w:=by
 refine enter (vs:=[_,_,_]) func186 z ntmps186 z fun a k=>?_
 have m:=St.start w0
 unfold d_spec_Volume at h
 refine wr (pN 1 k z fun a k=>nn (c_cut (fun a w=>K 25 [(0,I Ac),(1,I h2),(2,I d3)] a ∧ St [] w0 w [] ∧ d_spec_Volume_J1 fu Ac h2 d3 = some r) ?_ ?_))
 · rintro a Am ⟨k,m,h⟩
   unfold d_spec_Volume_J1 at h
   refine wr (pN 6 k z fun a k=>nn (wp_ret (fS h k m z z)))
 refine wr (pN 1 k z fun a k=>oE h fun Ag Ai h=>cE k m call130 z z z (c_spec_l1In fu _ _ _  Ai) fun Ak e a k m=>pN 2 k z fun a k=>bsplit (!Ag) (fun Aa=>?_) (fun Aa=>?_))
 · have h:=bif_t Aa h
   refine rB k 10 z Aa fun k=>pN 9 k z fun a k=>nn (wp_cond_true (k.ev z) (wr (pN 1 k z fun a k=>nn (wp_ret (rt_then ?_)))))
   refine fS h k m z z
 have h:=bif_f Aa h
 refine rB k 10 z Aa fun k=>pN 1 k z fun a k=>oE h fun Ad Ae h=>cE k m call130 z z z (c_spec_l1In fu _ _ _  Ae) fun Aj e a k m=>pN 3 k z fun a k=>bsplit (!Ad) (fun Ab=>?_) (fun Ab=>?_)
 · have h:=bif_t Ab h
   refine rB k 15 z Ab fun k=>pN 4 k z fun a k=>nn (wp_cond_true (k.ev z) (wr (pN 1 k z fun a k=>nn (wp_ret (rt_then ?_)))))
   refine fS h k m z z
 have h:=bif_f Ab h
 refine rB k 15 z Ab fun k=>pN 1 k z fun a k=>oE h fun Al Af h=>cE k m call130 z z z (c_spec_l1In fu _ _ _  Af) fun Ao e a k m=>pN 2 k z fun a k=>nn (cI h k z (fun Ah h=>?_) fun Ah h=>?_)
 · refine wr (pN 1 k z fun a k=>nn (wp_ret (rt_then ?_)))
   refine fS h k m z z
 refine wp_skip (nm_then ?_)
 exact ⟨k.keep [0,1,2] z,m.sel [] z (by decide),h⟩
theorem c_spec_l7Of (fu:Nat) {w0:World} (r1:Request) (Al:List Int) (Ak:List Int) {Bg:List Value} {F3:List Nat} (Bl:rd w0 F3 Bg r1) {v6:Value} {F7:List Nat} (Ap:rd w0 F7 [v6] Al) {Ao:Value} {Cg:List Nat} (At:rd w0 Cg [Ao] Ak) {r:L7}
    (h:d_spec_l7Of fu r1 Al Ak = some r) :
    Calls Tryz.prog 254 #[.agg Bg.toArray,v6,Ao] w0 fun e w=>e = .returned (.agg (Flat.e r).toArray) ∧ Ext [] w0 w:=by
 refine enter (vs:=[_,_,_]) func254 z ntmps254 z fun a k=>?_
 have m:=St.start w0
 obtain ⟨Az,Cw,Ax,De,Bb,Cz,rfl,rfl,Au,Aq,Ar⟩:=Bl
 unfold d_spec_l7Of at h
 refine wr (s_box (cs:=[I r1.fWay,I r1.fPallet.fW,I r1.fPallet.fD,I r1.fPallet.fH,I r1.fPallet.fGram,I r1.fClasses,Az,Ax,I r1.fMaster,Bb]) m k z z z z z z fun Ah Bc a k m e Ck=>s_alloc (cs:=[I 0,I 0]) m k zeroValue224 z z z z z fun Ag Bd a k m e Bs=>nn (wr (sv k z (r_build bt224 k (cs:=#[I 0,I 0]) (ps:=[]) z z (by kernel_rfl)) fun a k=>s_alloc (cs:=[I 0,I 0]) m k zeroValue224 z z z z z fun Ac Da a k m e Ce=>s_stb (cs':=[I 0,I 0]) sizeOf224 m 0 Ce 0 k z z z z z z z z z z z fun Bp a k e m Cc=>nn (wp_seq (wr (pN 1 k z fun a k=>nn (wp_block ?_)))))))
 refine c_loop (fun n a w=>∃ (Aa:L7) (Aw:World) (Ad:Int),K 46 [(1,v6),(2,Ao),(3,.pointer (some (⟨Ah,0,none⟩:Addr))),(6,.pointer (some (⟨Ag,0,none⟩:Addr))),(7,.pointer (some (⟨Ac,0,none⟩:Addr))),(8,I Ad)] a ∧ St [] w0 w [([Ah],Bc),([Ag],Bd),([Ac],Aw)] ∧ bx Aw Ac [I Aa.fvol,I Aa.fgram] 224 ∧ d_spec_l7Of_L1 fu r1 Al Ak n Aa Ad = some r) ?_ ?_ fu _ _ ?_
 · rintro a w ⟨_,_,_,_,_,_,h⟩
   exact nS h
 · rintro Bj a Ct ⟨Aa,Aw,Ad,k,m,Aj,h⟩
   rw [d_spec_l7Of_L1_s] at h
   unfold d_spec_l7Of_L1_B at h
   refine wp_seq (wr (pN 2 k z fun a k=>sv k z (r_len (α:=Int) At k underlying63 z z) fun a k=>pN 1 k z fun a k=>nn (cI h k z (fun Ch h=>?_) fun Ch h=>?_)))
   · refine wp_skip (nm_then ?_)
     refine c_cut (fun a w=>∃ (Am:L7) (As:World),K 46 [(1,v6),(2,Ao),(3,.pointer (some (⟨Ah,0,none⟩:Addr))),(6,.pointer (some (⟨Ag,0,none⟩:Addr))),(7,.pointer (some (⟨Ac,0,none⟩:Addr))),(8,I Ad)] a ∧ St [] w0 w [([Ah],Bc),([Ag],Bd),([Ac],As)] ∧ bx As Ac [I Am.fvol,I Am.fgram] 224 ∧ d_spec_l7Of_J1 fu (d_spec_l7Of_L1 fu r1 Al Ak Bj) Ad Am = some r) ?_ ?_
     · rintro a Dd ⟨Am,As,k,m,Bu,h⟩
       unfold d_spec_l7Of_J1 at h
       refine wp_region_lit (pN 3 k z fun a k=>nn ?_)
       exact ⟨Am,As,w64 (Ad + 1),k.keep [1,2,3,6,7,8] z,m.sel [0,1,2] z (by decide),Bu,h⟩
     refine wp_block (c_cut (fun a w=>∃ (Ab:Item) (Av:Nat) (Be:World),K 46 [(1,v6),(2,Ao),(3,.pointer (some (⟨Ah,0,none⟩:Addr))),(6,.pointer (some (⟨Ag,0,none⟩:Addr))),(7,.pointer (some (⟨Ac,0,none⟩:Addr))),(8,I Ad),(9,.pointer (some (⟨Av,0,none⟩:Addr)))] a ∧ St [] w0 w [([Ah],Bc),([Ag],Bd),([Ac],Aw),([Av],Be)] ∧ bx Be Av [I Ab.fId,I Ab.fW,I Ab.fH,I Ab.fD,I Ab.fGram,I Ab.fClass,I Ab.fCount] 158 ∧ d_spec_l7Of_J2 fu (d_spec_l7Of_L1 fu r1 Al Ak Bj) Aa Ad Ab = some r) ?_ ?_)
     · rintro a Dc ⟨Ab,Av,Be,k,m,Ai,h⟩
       unfold d_spec_l7Of_J2 at h
       refine wp_seq (d_go ([Ac]) mixo m z fun Cl hMd=>?_)
       have m:=hMd
       have s:=Ext.refl (([Ac]):List Nat) Cl
       refine dt k 0 z (by kernel_rfl) z s (fun _ _ _=>id) (fun w s=>r_fa fa224_0 k z z) fun a k=>dt k 2 z (by kernel_rfl) z s (fun _ _ _=>id) (fun w s=>r_fa fa158_1 k z z) fun a k=>dt k 3 z (by kernel_rfl) z s (fun _ _ _=>id) (fun w s=>r_ld1 t13 (r:=[]) (Ai.at (hMd.az 3 2 z z z s) 1 1 z z z) k z z) fun a k=>dt k 4 z (by kernel_rfl) z s (fun _ _ _=>id) (fun w s=>r_fa fa158_2 k z z) fun a k=>dt k 5 z (by kernel_rfl) z s (fun _ _ _=>id) (fun w s=>r_ld1 t13 (r:=[]) (Ai.at (hMd.az 3 2 z z z s) 2 1 z z z) k z z) fun a k=>dt k 6 z (by kernel_rfl) z s (fun _ _ _=>id) (fun w s=>r_fa fa158_3 k z z) fun a k=>?_
       refine dt k 7 z (by kernel_rfl) z s (fun _ _ _=>id) (fun w s=>r_ld1 t13 (r:=[]) (Ai.at (hMd.az 3 2 z z z s) 3 1 z z z) k z z) fun a k=>d_two 1 8 (by kernel_rfl) z z ?_ ?_ 
       · refine sv k z (r_ldb t13 m 2 Aj 0 k z z z z z) fun a k=>wpList_nil ⟨s,?_⟩
         refine d_one 8 (by kernel_rfl) z (oE h fun Ay Cf h=>cE k m call186 z z z (c_spec_Volume fu _ _ _  Cf) fun Cq e a k m=>?_)
         have s:=s.trans e (by simp)
         refine wpList_nil ⟨s,?_⟩
         refine dN [9] 1 z k (by kernel_rfl) z s (fun _ _ _ _ _=>id) fun a k=>dt k 10 z (by kernel_rfl) z s (fun _ _ _=>id) (fun w s=>r_fa fa224_0 k z z) fun a k=>d_one 11 (by kernel_rfl) z (s_stb (cs':=[I (w64 (Aa.fvol + Ay)),I Aa.fgram]) sizeOf3 m 2 Aj 0 k z z z z z z z z z z z fun Cx a k e m Bi=>?_)
         have s:=s.trans e (fun y hy=>Or.inl hy)
         refine wpList_nil ⟨s,?_⟩
         refine d_done (by kernel_rfl) ((nm_then ?_))
         refine wp_region_lit (sv k z (r_fa fa224_1 k z z) fun a k=>sv k z (r_ldb t13 m 2 Bi 1 k z z z z z) fun a k=>sv k z (r_fa fa158_4 k z z) fun a k=>sv k z (r_ldb t13 m 3 Ai 4 k z z z z z) fun a k=>pN 1 k z fun a k=>sv k z (r_fa fa224_1 k z z) fun a k=>s_stb (cs':=[I (w64 (Aa.fvol + Ay)),I (w64 (Aa.fgram + Ab.fGram))]) sizeOf3 m 2 Bi 1 k z z z z z z z z z z z fun Cp a k e m Cd=>wpList_nil (nm_block (nm_then ?_)))
         exact ⟨(⟨w64 (Aa.fvol + Ay),w64 (Aa.fgram + Ab.fGram)⟩:L7),Cp,k.keep [1,2,3,6,7,8] z,m.sel [0,1,2] z (by decide),Cd,h⟩
       refine oE h fun Ba Cb h=>cE k m call186 z z z (c_spec_Volume fu _ _ _  Cb) fun Df e a k m=>?_
       have s:=s.trans e (by simp)
       refine wpList_nil ⟨s,?_⟩
       refine d_one 1 (by kernel_rfl) z (sv k z (r_ldb t13 m 2 Aj 0 k z z z z z) fun a k=>wpList_nil ⟨s,?_⟩)
       refine dN [9] 1 z k (by kernel_rfl) z s (fun _ _ _ _ _=>id) fun a k=>dt k 10 z (by kernel_rfl) z s (fun _ _ _=>id) (fun w s=>r_fa fa224_0 k z z) fun a k=>d_one 11 (by kernel_rfl) z (s_stb (cs':=[I (w64 (Aa.fvol + Ba)),I Aa.fgram]) sizeOf3 m 2 Aj 0 k z z z z z z z z z z z fun Cu a k e m Bh=>?_)
       have s:=s.trans e (fun y hy=>Or.inl hy)
       refine wpList_nil ⟨s,?_⟩
       refine d_done (by kernel_rfl) ((nm_then ?_))
       refine wp_region_lit (sv k z (r_fa fa224_1 k z z) fun a k=>sv k z (r_ldb t13 m 2 Bh 1 k z z z z z) fun a k=>sv k z (r_fa fa158_4 k z z) fun a k=>sv k z (r_ldb t13 m 3 Ai 4 k z z z z z) fun a k=>pN 1 k z fun a k=>sv k z (r_fa fa224_1 k z z) fun a k=>s_stb (cs':=[I (w64 (Aa.fvol + Ba)),I (w64 (Aa.fgram + Ab.fGram))]) sizeOf3 m 2 Bh 1 k z z z z z z z z z z z fun Co a k e m Cn=>wpList_nil (nm_block (nm_then ?_)))
       exact ⟨(⟨w64 (Aa.fvol + Ba),w64 (Aa.fgram + Ab.fGram)⟩:L7),Co,k.keep [1,2,3,6,7,8] z,m.sel [0,1,2] z (by decide),Cn,h⟩
     refine d_go [] mixo m z fun Bt hMd=>?_
     have m:=hMd
     have s:=Ext.refl ([]:List Nat) Bt
     refine dN [1,2,3] 3 z k (by kernel_rfl) z s (fun _ _ _ _ _=>id) fun a k=>dt k 0 z (by kernel_rfl) z s (fun _ _ _=>id) (fun w s=>r_ldA ta38 (Ck.at ((hMd.step s).a 0 z) 0 10 z z z) z k z z) fun a k=>oE h fun Cy Bf h=>dt k 4 z (by kernel_rfl) z s (fun _ _ _=>id) (fun w s=>r_ixa At Bf k ts63 z z z) fun a k=>dt k 5 z (by kernel_rfl) z s (fun _ _ _=>id) (fun w s=>r_lde1 At ((hMd.step s).a00 (Enc.rd_lt At)) Bf 0 t13 k z z z z) fun a k=>d_two 6 10 (by kernel_rfl) z z ?_ ?_ 
     · refine oE h fun Ae Bm h=>cE k m call168 z z z (c_spec_l6Item fu _ _ _ (show rd _ _ [I r1.fWay,I r1.fPallet.fW,I r1.fPallet.fD,I r1.fPallet.fH,I r1.fPallet.fGram,I r1.fClasses,Az,Ax,I r1.fMaster,Bb] (r1:Request) from ⟨_,_,_,_,_,_,z,z,(Enc.rd_agr Au (m.a00 (Enc.rd_lt Au))),(Enc.rd_agr Aq (m.a00 (Enc.rd_lt Aq))),(Enc.rd_agr Ar (m.a00 (Enc.rd_lt Ar)))⟩) (Enc.rd_agr Ap (m.a00 (Enc.rd_lt Ap))) Bm) fun Cr e a k m=>?_
       have s:=s.trans e (by simp)
       refine wpList_nil ⟨s,?_⟩
       refine dN [7,8,9] 3 z k (by kernel_rfl) z s (fun _ _ _ _ _=>id) fun a k=>d_one 10 (by kernel_rfl) z (s_allocN (cs:=[I 0,I 0,I 0,I 0,I 0,I 0,I 0]) m k zeroValue158 z z z z z fun Cj Dg a k m e Br Bn=>?_)
       have Bq:=lo1 (Nat.le_trans s.size Bn)
       have s:=s.trans e (by simp)
       refine wpList_nil ⟨s,?_⟩
       refine d_one 11 (by kernel_rfl) z (s_stb (cs':=[I Ae.1.fId,I Ae.1.fW,I Ae.1.fH,I Ae.1.fD,I Ae.1.fGram,I Ae.1.fClass,I Ae.1.fCount]) sizeOf158 m 0 Br 0 k z z z z z z z z z z z fun By a k e m Bx=>?_)
       have s:=s.trans e (fun y hy=>Or.inr (Bq y hy))
       refine wpList_nil ⟨s,?_⟩
       refine dN [12] 1 z k (by kernel_rfl) z s (fun _ _ _ _ _=>id) fun a k=>d_done (by kernel_rfl) ((nm_then ?_))
       exact ⟨Ae.1,Cj,By,k.keep [1,2,3,6,7,8,9] z,m.sel [1,2,3,0] z (by decide),Bx,h⟩
     refine s_allocN (cs:=[I 0,I 0,I 0,I 0,I 0,I 0,I 0]) m k zeroValue158 z z z z z fun Bk Cv a k m e Bv Ca=>?_
     have Ci:=lo1 (Nat.le_trans s.size Ca)
     have s:=s.trans e (by simp)
     refine wpList_nil ⟨s,?_⟩
     refine d_one 6 (by kernel_rfl) z (oE h fun Af Cm h=>cE k m call168 z z z (c_spec_l6Item fu _ _ _ (show rd _ _ [I r1.fWay,I r1.fPallet.fW,I r1.fPallet.fD,I r1.fPallet.fH,I r1.fPallet.fGram,I r1.fClasses,Az,Ax,I r1.fMaster,Bb] (r1:Request) from ⟨_,_,_,_,_,_,z,z,(Enc.rd_agr Au (m.a00 (Enc.rd_lt Au))),(Enc.rd_agr Aq (m.a00 (Enc.rd_lt Aq))),(Enc.rd_agr Ar (m.a00 (Enc.rd_lt Ar)))⟩) (Enc.rd_agr Ap (m.a00 (Enc.rd_lt Ap))) Cm) fun Db e a k m=>?_)
     have s:=s.trans e (by simp)
     refine wpList_nil ⟨s,?_⟩
     refine dN [7,8,9] 3 z k (by kernel_rfl) z s (fun _ _ _ _ _=>id) fun a k=>d_one 11 (by kernel_rfl) z (s_stb (cs':=[I Af.1.fId,I Af.1.fW,I Af.1.fH,I Af.1.fD,I Af.1.fGram,I Af.1.fClass,I Af.1.fCount]) sizeOf158 m 0 Bv 0 k z z z z z z z z z z z fun Bz a k e m Bw=>?_)
     have s:=s.trans e (fun y hy=>Or.inr (Ci y hy))
     refine wpList_nil ⟨s,?_⟩
     refine dN [12] 1 z k (by kernel_rfl) z s (fun _ _ _ _ _=>id) fun a k=>d_done (by kernel_rfl) ((nm_then ?_))
     exact ⟨Af.1,Bk,Bz,k.keep [1,2,3,6,7,8,9] z,m.sel [1,2,3,0] z (by decide),Bw,h⟩
   refine wp_exit (ex_then (ex_then (ex_same (nm_then ?_))))
   refine wr (sv k z (r_ldB ta224 m 2 Aj 0 k z z z z z z) fun a k=>s_stb (cs':=[I Aa.fvol,I Aa.fgram]) sizeOf224 m 1 Bs 0 k z z z z z z z z z z z fun Cs a k e m Bo=>nn (wp_ret ?_))
   cases h
   exact finR1 k z (RV.cA k z ta224 (Bo.at (m.a 1 z) 0 2 z z z) z) ⟨z,m.ext⟩
 exact ⟨(⟨0,0⟩:L7),Bp,0,k.keep [1,2,3,6,7,8] z,m.sel [2,1,0] z (by decide),Cc,h⟩
theorem c_spec_Holds (fu:Nat) {w0:World} (r1:Request) (Ak:List Int) (t9:Typ) {Bf:List Value} {F3:List Nat} (Bl:rd w0 F3 Bf r1) {v6:Value} {F7:List Nat} (Aj:rd w0 F7 [v6] Ak) {r:Bool}
    (h:d_spec_Holds fu r1 Ak t9 = some r) :
    Calls Tryz.prog 212 #[.agg Bf.toArray,v6,.agg (Flat.e (t9)).toArray] w0 fun e w=>e = .returned (.bool (r)) ∧ Ext [] w0 w:=by
 refine enter (vs:=[_,_,_]) func212 z ntmps212 z fun a k=>?_
 have m:=St.start w0
 obtain ⟨Am,Db,Ao,Da,Al,Cx,rfl,rfl,Ac,Aa,Ab⟩:=Bl
 unfold d_spec_Holds at h
 refine wr (s_box (cs:=[I r1.fWay,I r1.fPallet.fW,I r1.fPallet.fD,I r1.fPallet.fH,I r1.fPallet.fGram,I r1.fClasses,Am,Ao,I r1.fMaster,Al]) m k z z z z z z fun Ag Aw a k m e Ax=>s_box (cs:=[I t9.fId,I t9.fW,I t9.fH,I t9.fD,I t9.fTare,I t9.fGram,I t9.fCost]) m k z z z z z z fun Ai Ba a k m e At=>pN 1 k z fun a k=>nn (wp_seq (wr (sv k z (r_ldB ta38 m 1 Ax 0 k z z z z z z) fun a k=>oE h fun Df Cj h=>?_))))
 refine cE k m call74 z z z (c_spec_Class fu _ (show rd _ _ [I r1.fWay,I r1.fPallet.fW,I r1.fPallet.fD,I r1.fPallet.fH,I r1.fPallet.fGram,I r1.fClasses,Am,Ao,I r1.fMaster,Al] (r1:Request) from ⟨_,_,_,_,_,_,z,z,(Enc.rd_agr Ac (m.a00 (Enc.rd_lt Ac))),(Enc.rd_agr Aa (m.a00 (Enc.rd_lt Aa))),(Enc.rd_agr Ab (m.a00 (Enc.rd_lt Ab)))⟩) Cj) fun De e a k m=>pN 1 k z fun a k=>nn (cI h k z (fun Ce h=>?_) fun Ce h=>?_)
 · refine wr (pN 1 k z fun a k=>nn (wp_ret (rt_then ?_)))
   refine fS h k m z z
 refine wp_skip (nm_then ?_)
 refine wr (sv k z (r_ldB ta38 m 1 Ax 0 k z z z z z z) fun a k=>oE h fun Az Bi h=>s_call k call90 z z z z z (c_spec_l6Units fu _ (show rd _ _ [I r1.fWay,I r1.fPallet.fW,I r1.fPallet.fD,I r1.fPallet.fH,I r1.fPallet.fGram,I r1.fClasses,Am,Ao,I r1.fMaster,Al] (r1:Request) from ⟨_,_,_,_,_,_,z,z,(Enc.rd_agr Ac (m.a00 (Enc.rd_lt Ac))),(Enc.rd_agr Aa (m.a00 (Enc.rd_lt Aa))),(Enc.rd_agr Ab (m.a00 (Enc.rd_lt Ab)))⟩) Bi) fun Dc Au hR=>?_)
 obtain ⟨Ay,Aq,rfl,e,Ap,Cg⟩:=hR
 refine ⟨_,z,fun a k=>?_⟩
 have m:=m.new e Aq (fun b hb=>⟨Cg b hb,Enc.rd_lt (Enc.ow_rd Ap) b hb⟩) (Enc.ow_nd Ap)
 refine pN 1 k z fun a k=>nn (c_cut (fun a w=>K 62 [(1,v6),(3,.pointer (some (⟨Ag,0,none⟩:Addr))),(5,.pointer (some (⟨Ai,0,none⟩:Addr))),(7,Ay)] a ∧ St [] w0 w [([Ag],Aw),([Ai],Ba),(Aq,Au)] ∧ d_spec_Holds_J1 fu r1 Ak t9 Az = some r) ?_ ?_)
 · rintro a Cm ⟨k,m,h⟩
   unfold d_spec_Holds_J1 at h
   refine wr (sv k z (r_ldB ta38 m 0 Ax 0 k z z z z z z) fun a k=>pN 2 k z fun a k=>oE h fun Bd Bw h=>cE k m call254 z z z (c_spec_l7Of fu _ _ _ (show rd _ _ [I r1.fWay,I r1.fPallet.fW,I r1.fPallet.fD,I r1.fPallet.fH,I r1.fPallet.fGram,I r1.fClasses,Am,Ao,I r1.fMaster,Al] (r1:Request) from ⟨_,_,_,_,_,_,z,z,(Enc.rd_agr Ac (m.a00 (Enc.rd_lt Ac))),(Enc.rd_agr Aa (m.a00 (Enc.rd_lt Aa))),(Enc.rd_agr Ab (m.a00 (Enc.rd_lt Ab)))⟩) (Enc.rd_agr (Enc.ow_rd Ap) (m.a 2 z)) (Enc.rd_agr Aj (m.a00 (Enc.rd_lt Aj))) Bw) fun Cq e a k m=>s_alloc (cs:=[I 0,I 0]) m k zeroValue224 z z z z z fun Cs Cp a k m e Cd=>?_)
   refine s_stb (cs':=[I Bd.fvol,I Bd.fgram]) sizeOf224 m 0 Cd 0 k z z z z z z z z z z z fun Cl a k e m Bh=>nn (wp_seq (d_go [] mixo m z fun Bq hMd=>?_))
   have m:=hMd
   have s:=Ext.refl ([]:List Nat) Bq
   refine dt k 0 z (by kernel_rfl) z s (fun _ _ _=>id) (fun w s=>r_fa fa224_0 k z z) fun a k=>dt k 1 z (by kernel_rfl) z s (fun _ _ _=>id) (fun w s=>r_ld1 t13 (r:=[]) (Bh.at ((hMd.step s).a 0 z) 0 1 z z z) k z z) fun a k=>dt k 2 z (by kernel_rfl) z s (fun _ _ _=>id) (fun w s=>r_fa fa79_1 k z z) fun a k=>dt k 3 z (by kernel_rfl) z s (fun _ _ _=>id) (fun w s=>r_ld1 t13 (r:=[]) (At.at ((hMd.step s).a 2 z) 1 1 z z z) k z z) fun a k=>dt k 4 z (by kernel_rfl) z s (fun _ _ _=>id) (fun w s=>r_fa fa79_2 k z z) fun a k=>dt k 5 z (by kernel_rfl) z s (fun _ _ _=>id) (fun w s=>r_ld1 t13 (r:=[]) (At.at ((hMd.step s).a 2 z) 2 1 z z z) k z z) fun a k=>?_
   refine dt k 6 z (by kernel_rfl) z s (fun _ _ _=>id) (fun w s=>r_fa fa79_3 k z z) fun a k=>dt k 7 z (by kernel_rfl) z s (fun _ _ _=>id) (fun w s=>r_ld1 t13 (r:=[]) (At.at ((hMd.step s).a 2 z) 3 1 z z z) k z z) fun a k=>d_one 8 (by kernel_rfl) z (oE h fun Bt Bs h=>cE k m call186 z z z (c_spec_Volume fu _ _ _  Bs) fun Ct e a k m=>?_)
   have s:=s.trans e (by simp)
   refine wpList_nil ⟨s,?_⟩
   refine dN [9,10] 2 z k (by kernel_rfl) z s (fun _ _ _ _ _=>id) fun a k=>bsplit (decide (Bd.fvol ≤ Bt)) (fun As=>?_) (fun As=>?_)
   · have h:=bif_t As h
     refine rB k 55 z As fun k=>dt k 11 z (by kernel_rfl) z s (fun _ _ _=>id) (fun w s=>r_fa fa224_1 k z z) fun a k=>dt k 12 z (by kernel_rfl) z s (fun _ _ _=>id) (fun w s=>r_ld1 t13 (r:=[]) (Bh.at ((hMd.step s).a 0 z) 1 1 z z z) k z z) fun a k=>dt k 13 z (by kernel_rfl) z s (fun _ _ _=>id) (fun w s=>r_fa fa79_5 k z z) fun a k=>dt k 14 z (by kernel_rfl) z s (fun _ _ _=>id) (fun w s=>r_ld1 t13 (r:=[]) (At.at ((hMd.step s).a 2 z) 5 1 z z z) k z z) fun a k=>dN [15,16,17] 3 z k (by kernel_rfl) z s (fun _ _ _ _ _=>id) fun a k=>d_done (by kernel_rfl) ((nm_then ?_))
     refine wp_ret (fS h k m z z)
   have h:=bif_f As h
   refine rB k 55 z As fun k=>dN [11,12,13,14,15,16,17] 7 z k (by kernel_rfl) z s (fun _ _ _ _ _=>id) fun a k=>d_done (by kernel_rfl) ((nm_then ?_))
   refine wp_ret (fS h k m z z)
 refine wr (pN 1 k z fun a k=>nn (wp_block (c_loop (fun n a w=>∃ (Ah:Int),K 62 [(1,v6),(3,.pointer (some (⟨Ag,0,none⟩:Addr))),(5,.pointer (some (⟨Ai,0,none⟩:Addr))),(7,Ay),(8,I Ah)] a ∧ St [] w0 w [([Ag],Aw),([Ai],Ba),(Aq,Au)] ∧ d_spec_Holds_L1 fu r1 Ak t9 Az n Ah = some r) ?_ ?_ fu _ _ ?_)))
 · rintro a w ⟨_,_,_,h⟩
   exact nS h
 · rintro Be a Cv ⟨Ah,k,m,h⟩
   rw [d_spec_Holds_L1_s] at h
   unfold d_spec_Holds_L1_B at h
   refine wp_seq (wr (pN 2 k z fun a k=>sv k z (r_len (α:=Int) Aj k underlying63 z z) fun a k=>pN 1 k z fun a k=>nn (cI h k z (fun Bp h=>?_) fun Bp h=>?_)))
   · refine wp_skip (nm_then ?_)
     refine c_cut (fun a w=>K 62 [(1,v6),(3,.pointer (some (⟨Ag,0,none⟩:Addr))),(5,.pointer (some (⟨Ai,0,none⟩:Addr))),(7,Ay),(8,I Ah)] a ∧ St [] w0 w [([Ag],Aw),([Ai],Ba),(Aq,Au)] ∧ d_spec_Holds_J2 fu (d_spec_Holds_L1 fu r1 Ak t9 Az Be) Ah = some r) ?_ ?_
     · rintro a Cy ⟨k,m,h⟩
       unfold d_spec_Holds_J2 at h
       refine wp_region_lit (pN 3 k z fun a k=>nn ?_)
       exact ⟨w64 (Ah + 1),k.keep [1,3,5,7,8] z,m.sel [0,1,2] z (by decide),h⟩
     refine wp_block (c_cut (fun a w=>∃ (Ad:Item) (Av:Nat) (Bc:World) (Bb:Bool),K 62 [(1,v6),(3,.pointer (some (⟨Ag,0,none⟩:Addr))),(5,.pointer (some (⟨Ai,0,none⟩:Addr))),(7,Ay),(8,I Ah),(9,.pointer (some (⟨Av,0,none⟩:Addr))),(10,.bool (Bb))] a ∧ St [] w0 w [([Ag],Aw),([Ai],Ba),(Aq,Au),([Av],Bc)] ∧ bx Bc Av [I Ad.fId,I Ad.fW,I Ad.fH,I Ad.fD,I Ad.fGram,I Ad.fClass,I Ad.fCount] 158 ∧ d_spec_Holds_J3 fu (d_spec_Holds_L1 fu r1 Ak t9 Az Be) t9 Ah Ad Bb = some r) ?_ ?_)
     · rintro a Cu ⟨Ad,Av,Bc,Bb,k,m,Bn,h⟩
       unfold d_spec_Holds_J3 at h
       refine wr (pN 3 k z fun a k=>bsplit (!Bb) (fun Ar=>?_) (fun Ar=>?_))
       · have h:=bif_t Ar h
         refine rB k 35 z Ar fun k=>pN 5 k z fun a k=>nn (wp_cond_true (k.ev z) (wr (pN 1 k z fun a k=>nn (wp_ret (rt_block (rt_then (rt_then (rt_block (rt_then ?_)))))))))
         refine fS h k m z z
       have h:=bif_f Ar h
       refine rB k 35 z Ar fun k=>sv k z (r_ldB ta158 m 3 Bn 0 k z z z z z z) fun a k=>sv k z (r_ldB ta79 m 1 At 0 k z z z z z z) fun a k=>oE h fun Cr Bv h=>cE k m call190 z z z (c_spec_Fits fu (Ad:Item) (t9:Typ)  Bv) fun Cz e a k m=>pN 2 k z fun a k=>nn (cI h k z (fun Ch h=>?_) fun Ch h=>?_)
       · refine wr (pN 1 k z fun a k=>nn (wp_ret (rt_block (rt_then (rt_then (rt_block (rt_then ?_)))))))
         refine fS h k m z z
       refine wp_skip (nm_block (nm_then ?_))
       exact ⟨k.keep [1,3,5,7,8] z,m.sel [0,1,2] z (by decide),h⟩
     refine d_go [] mixo m z fun Ci hMd=>?_
     have m:=hMd
     have s:=Ext.refl ([]:List Nat) Ci
     refine dN [1,2,3] 3 z k (by kernel_rfl) z s (fun _ _ _ _ _=>id) fun a k=>dt k 0 z (by kernel_rfl) z s (fun _ _ _=>id) (fun w s=>r_ldA ta38 (Ax.at ((hMd.step s).a 0 z) 0 10 z z z) z k z z) fun a k=>oE h fun Cn Bg h=>dt k 4 z (by kernel_rfl) z s (fun _ _ _=>id) (fun w s=>r_ixa Aj Bg k ts63 z z z) fun a k=>dt k 5 z (by kernel_rfl) z s (fun _ _ _=>id) (fun w s=>r_lde1 Aj ((hMd.step s).a00 (Enc.rd_lt Aj)) Bg 0 t13 k z z z z) fun a k=>d_two 6 10 (by kernel_rfl) z z ?_ ?_ 
     · refine oE h fun Ae Cc h=>cE k m call168 z z z (c_spec_l6Item fu _ _ _ (show rd _ _ [I r1.fWay,I r1.fPallet.fW,I r1.fPallet.fD,I r1.fPallet.fH,I r1.fPallet.fGram,I r1.fClasses,Am,Ao,I r1.fMaster,Al] (r1:Request) from ⟨_,_,_,_,_,_,z,z,(Enc.rd_agr Ac (m.a00 (Enc.rd_lt Ac))),(Enc.rd_agr Aa (m.a00 (Enc.rd_lt Aa))),(Enc.rd_agr Ab (m.a00 (Enc.rd_lt Ab)))⟩) (Enc.rd_agr (Enc.ow_rd Ap) (m.a 2 z)) Cc) fun Dg e a k m=>?_
       have s:=s.trans e (by simp)
       refine wpList_nil ⟨s,?_⟩
       refine dN [7,8,9] 3 z k (by kernel_rfl) z s (fun _ _ _ _ _=>id) fun a k=>d_one 10 (by kernel_rfl) z (s_allocN (cs:=[I 0,I 0,I 0,I 0,I 0,I 0,I 0]) m k zeroValue158 z z z z z fun Br Dd a k m e Bm Bo=>?_)
       have Bj:=lo1 (Nat.le_trans s.size Bo)
       have s:=s.trans e (by simp)
       refine wpList_nil ⟨s,?_⟩
       refine d_one 11 (by kernel_rfl) z (s_stb (cs':=[I Ae.1.fId,I Ae.1.fW,I Ae.1.fH,I Ae.1.fD,I Ae.1.fGram,I Ae.1.fClass,I Ae.1.fCount]) sizeOf158 m 0 Bm 0 k z z z z z z z z z z z fun Cf a k e m Ck=>?_)
       have s:=s.trans e (fun y hy=>Or.inr (Bj y hy))
       refine wpList_nil ⟨s,?_⟩
       refine dN [12] 1 z k (by kernel_rfl) z s (fun _ _ _ _ _=>id) fun a k=>d_done (by kernel_rfl) ((nm_then ?_))
       exact ⟨Ae.1,Br,Cf,Ae.2,k.keep [1,3,5,7,8,9,10] z,m.sel [1,2,3,0] z (by decide),Ck,h⟩
     refine s_allocN (cs:=[I 0,I 0,I 0,I 0,I 0,I 0,I 0]) m k zeroValue158 z z z z z fun Ca Co a k m e By Cb=>?_
     have Bk:=lo1 (Nat.le_trans s.size Cb)
     have s:=s.trans e (by simp)
     refine wpList_nil ⟨s,?_⟩
     refine d_one 6 (by kernel_rfl) z (oE h fun Af Bx h=>cE k m call168 z z z (c_spec_l6Item fu _ _ _ (show rd _ _ [I r1.fWay,I r1.fPallet.fW,I r1.fPallet.fD,I r1.fPallet.fH,I r1.fPallet.fGram,I r1.fClasses,Am,Ao,I r1.fMaster,Al] (r1:Request) from ⟨_,_,_,_,_,_,z,z,(Enc.rd_agr Ac (m.a00 (Enc.rd_lt Ac))),(Enc.rd_agr Aa (m.a00 (Enc.rd_lt Aa))),(Enc.rd_agr Ab (m.a00 (Enc.rd_lt Ab)))⟩) (Enc.rd_agr (Enc.ow_rd Ap) (m.a 3 z)) Bx) fun Cw e a k m=>?_)
     have s:=s.trans e (by simp)
     refine wpList_nil ⟨s,?_⟩
     refine dN [7,8,9] 3 z k (by kernel_rfl) z s (fun _ _ _ _ _=>id) fun a k=>d_one 11 (by kernel_rfl) z (s_stb (cs':=[I Af.1.fId,I Af.1.fW,I Af.1.fH,I Af.1.fD,I Af.1.fGram,I Af.1.fClass,I Af.1.fCount]) sizeOf158 m 0 By 0 k z z z z z z z z z z z fun Bu a k e m Bz=>?_)
     have s:=s.trans e (fun y hy=>Or.inr (Bk y hy))
     refine wpList_nil ⟨s,?_⟩
     refine dN [12] 1 z k (by kernel_rfl) z s (fun _ _ _ _ _=>id) fun a k=>d_done (by kernel_rfl) ((nm_then ?_))
     exact ⟨Af.1,Ca,Bu,Af.2,k.keep [1,3,5,7,8,9,10] z,m.sel [1,2,3,0] z (by decide),Bz,h⟩
   refine wp_exit (ex_then (ex_then (ex_same (nm_then ?_))))
   exact ⟨k.keep [1,3,5,7] z,m.sel [0,1,2] z (by decide),h⟩
 exact ⟨0,k.keep [1,3,5,7,8] z,m.sel [2,1,0] z (by decide),h⟩
theorem c_spec_l15Holds (fu:Nat) {w0:World} (r1:Request) (x5:Plan) {Aw:List Value} {F3:List Nat} (Bf:rd w0 F3 Aw r1) {Ax:List Value} {F7:List Nat} (Bh:rd w0 F7 Ax x5) {r:Bool}
    (h:d_spec_l15Holds fu r1 x5 = some r) :
    Calls Tryz.prog 107 #[.agg Aw.toArray,.agg Ax.toArray] w0 fun e w=>e = .returned (.bool (r)) ∧ Ext [] w0 w:=by
 refine enter (vs:=[_,_]) func107 z ntmps107 z fun a k=>?_
 have m:=St.start w0
 obtain ⟨v9,Cv,Al,Cg,Am,Cn,rfl,rfl,Aj,Ai,Ah⟩:=Bf
 obtain ⟨Bp,Cp,Bw,Cj,rfl,rfl,Ae,Db⟩:=Bh
 unfold d_spec_l15Holds at h
 refine wr (s_box (cs:=[I r1.fWay,I r1.fPallet.fW,I r1.fPallet.fD,I r1.fPallet.fH,I r1.fPallet.fGram,I r1.fClasses,v9,Al,I r1.fMaster,Am]) m k z z z z z z fun Ag Aq a k m e Av=>s_box (cs:=[Bp,Bw]) m k z z z z z z fun Af Ar a k m e As=>pN 1 k z fun a k=>nn (wp_seq (wr (pN 1 k z fun a k=>nn (wp_block (c_loop (fun n a w=>∃ (Ad:Int),K 40 [(2,.pointer (some (⟨Ag,0,none⟩:Addr))),(3,.pointer (some (⟨Af,0,none⟩:Addr))),(5,I Ad)] a ∧ St [] w0 w [([Ag],Aq),([Af],Ar)] ∧ d_spec_l15Holds_L1 fu r1 x5 n Ad = some r) ?_ ?_ fu _ _ ?_))))))
 · rintro a w ⟨_,_,_,h⟩
   exact nS h
 · rintro Au a Da ⟨Ad,k,m,h⟩
   rw [d_spec_l15Holds_L1_s] at h
   unfold d_spec_l15Holds_L1_B at h
   refine wp_seq (wr (pN 1 k z fun a k=>sv k z (r_fa fa58_0 k z z) fun a k=>sv k z (r_ldb t155 m 1 As 0 k z z z z z) fun a k=>sv k z (r_len (α:=Carton) Ae k underlying55 z z) fun a k=>pN 1 k z fun a k=>nn (cI h k z (fun Bm h=>?_) fun Bm h=>?_)))
   · refine wp_skip (nm_then ?_)
     refine c_cut (fun a w=>K 40 [(2,.pointer (some (⟨Ag,0,none⟩:Addr))),(3,.pointer (some (⟨Af,0,none⟩:Addr))),(5,I Ad)] a ∧ St [] w0 w [([Ag],Aq),([Af],Ar)] ∧ d_spec_l15Holds_J1 fu (d_spec_l15Holds_L1 fu r1 x5 Au) Ad = some r) ?_ ?_
     · rintro a Ci ⟨k,m,h⟩
       unfold d_spec_l15Holds_J1 at h
       refine wp_region_lit (pN 3 k z fun a k=>nn ?_)
       exact ⟨w64 (Ad + 1),k.keep [2,3,5] z,m.sel [0,1] z (by decide),h⟩
     refine wp_block (c_cut (fun a w=>∃ (Aa:Typ) (Ao:Nat) (At:World) (Ap:Bool),K 40 [(2,.pointer (some (⟨Ag,0,none⟩:Addr))),(3,.pointer (some (⟨Af,0,none⟩:Addr))),(5,I Ad),(6,.pointer (some (⟨Ao,0,none⟩:Addr))),(7,.bool (Ap))] a ∧ St [] w0 w [([Ag],Aq),([Af],Ar),([Ao],At)] ∧ bx At Ao [I Aa.fId,I Aa.fW,I Aa.fH,I Aa.fD,I Aa.fTare,I Aa.fGram,I Aa.fCost] 79 ∧ d_spec_l15Holds_J2 fu (d_spec_l15Holds_L1 fu r1 x5 Au) r1 x5 Ad Aa Ap = some r) ?_ ?_)
     · rintro a Cr ⟨Aa,Ao,At,Ap,k,m,Bl,h⟩
       unfold d_spec_l15Holds_J2 at h
       refine wp_seq (d_go [] mixo m z fun Bd hMd=>?_)
       have m:=hMd
       have s:=Ext.refl ([]:List Nat) Bd
       refine dN [0,1,2] 3 z k (by kernel_rfl) z s (fun _ _ _ _ _=>id) fun a k=>bsplit (!Ap) (fun Ak=>?_) (fun Ak=>?_)
       · have h:=bif_t Ak h
         refine rB k 28 z Ak fun k=>dN [3,4,5,6,7,8,9,10,11,12,13] 11 z k (by kernel_rfl) z s (fun _ _ _ _ _=>id) fun a k=>d_done (by kernel_rfl) ((nm_then ?_))
         refine wp_cond_true (k.ev z) (wr (pN 1 k z fun a k=>nn (wp_ret (rt_block (rt_then (rt_then (rt_block (rt_then ?_))))))))
         refine fS h k m z z
       have h:=bif_f Ak h
       refine rB k 28 z Ak fun k=>dN [6] 1 z k (by kernel_rfl) z s (fun _ _ _ _ _=>id) fun a k=>dt k 3 z (by kernel_rfl) z s (fun _ _ _=>id) (fun w s=>r_ldA ta38 (Av.at ((hMd.step s).a 0 z) 0 10 z z z) z k z z) fun a k=>dt k 4 z (by kernel_rfl) z s (fun _ _ _=>id) (fun w s=>r_fa fa58_0 k z z) fun a k=>dt k 5 z (by kernel_rfl) z s (fun _ _ _=>id) (fun w s=>r_ld1 t155 (r:=[]) (As.at ((hMd.step s).a 1 z) 0 1 z z z) k z z) fun a k=>oE h fun Ck Ba h=>dt k 7 z (by kernel_rfl) z s (fun _ _ _=>id) (fun w s=>r_ixa Ae Ba k ts55 z z z) fun a k=>dt k 8 z (by kernel_rfl) z s (fun _ _ _=>id) (fun w s=>r_fa fa83_2 k z z) fun a k=>?_
       obtain ⟨Cl,Cu,Co,Be,Bn,Ca⟩:=rd_get Ae (ix_some Ba).2.2
       obtain ⟨Cs,_,rfl,rfl,Az⟩:=Be
       refine dt k 9 z (by kernel_rfl) z s (fun _ _ _=>id) (fun w s=>r_ld1 t163 ((Bn.agr ((hMd.step s).a00 (Enc.rd_lt Ae)) Ca).fld 2 1 (Nat.le_of_ble_eq_true z)) k z z) fun a k=>dt k 10 z (by kernel_rfl) z s (fun _ _ _=>id) (fun w s=>r_ldA ta79 (Bl.at ((hMd.step s).a 2 z) 0 7 z z z) z k z z) fun a k=>d_one 11 (by kernel_rfl) z (oE h fun Ct Bo h=>?_)
       refine cE k m call212 z z z (c_spec_Holds fu _ _ (Aa:Typ) (show rd _ _ [I r1.fWay,I r1.fPallet.fW,I r1.fPallet.fD,I r1.fPallet.fH,I r1.fPallet.fGram,I r1.fClasses,v9,Al,I r1.fMaster,Am] (r1:Request) from ⟨_,_,_,_,_,_,z,z,(Enc.rd_agr Aj (m.a00 (Enc.rd_lt Aj))),(Enc.rd_agr Ai (m.a00 (Enc.rd_lt Ai))),(Enc.rd_agr Ah (m.a00 (Enc.rd_lt Ah)))⟩) (Enc.rd_agr Az (m.a00 (Enc.rd_lt Az))) Bo) fun De e a k m=>?_
       have s:=s.trans e (by simp)
       refine wpList_nil ⟨s,?_⟩
       refine dN [12,13] 2 z k (by kernel_rfl) z s (fun _ _ _ _ _=>id) fun a k=>d_done (by kernel_rfl) ((nm_then ?_))
       refine cI h k z (fun By h=>?_) fun By h=>?_
       · refine wr (pN 1 k z fun a k=>nn (wp_ret (rt_block (rt_then (rt_then (rt_block (rt_then ?_)))))))
         refine fS h k m z z
       refine wp_skip (nm_block (nm_then ?_))
       exact ⟨k.keep [2,3,5] z,m.sel [0,1] z (by decide),h⟩
     refine d_go [] mixo m z fun Bv hMd=>?_
     have m:=hMd
     have s:=Ext.refl ([]:List Nat) Bv
     refine dN [3] 1 z k (by kernel_rfl) z s (fun _ _ _ _ _=>id) fun a k=>dt k 0 z (by kernel_rfl) z s (fun _ _ _=>id) (fun w s=>r_ldA ta38 (Av.at ((hMd.step s).a 0 z) 0 10 z z z) z k z z) fun a k=>dt k 1 z (by kernel_rfl) z s (fun _ _ _=>id) (fun w s=>r_fa fa58_0 k z z) fun a k=>dt k 2 z (by kernel_rfl) z s (fun _ _ _=>id) (fun w s=>r_ld1 t155 (r:=[]) (As.at ((hMd.step s).a 1 z) 0 1 z z z) k z z) fun a k=>oE h fun Ch Ay h=>dt k 4 z (by kernel_rfl) z s (fun _ _ _=>id) (fun w s=>r_ixa Ae Ay k ts55 z z z) fun a k=>dt k 5 z (by kernel_rfl) z s (fun _ _ _=>id) (fun w s=>r_fa fa83_0 k z z) fun a k=>?_
     obtain ⟨Cm,Cy,Cw,Br,Cc,Bb⟩:=rd_get Ae (ix_some Ay).2.2
     obtain ⟨Dc,_,rfl,rfl,Cz⟩:=Br
     refine dt k 6 z (by kernel_rfl) z s (fun _ _ _=>id) (fun w s=>r_ld1 t13 ((Cc.agr ((hMd.step s).a00 (Enc.rd_lt Ae)) Bb).fld 0 1 (Nat.le_of_ble_eq_true z)) k z z) fun a k=>d_two 7 11 (by kernel_rfl) z z ?_ ?_ 
     · refine oE h fun Ac Bc h=>cE k m call184 z z z (c_spec_TypeById fu _ _ (show rd _ _ [I r1.fWay,I r1.fPallet.fW,I r1.fPallet.fD,I r1.fPallet.fH,I r1.fPallet.fGram,I r1.fClasses,v9,Al,I r1.fMaster,Am] (r1:Request) from ⟨_,_,_,_,_,_,z,z,(Enc.rd_agr Aj (m.a00 (Enc.rd_lt Aj))),(Enc.rd_agr Ai (m.a00 (Enc.rd_lt Ai))),(Enc.rd_agr Ah (m.a00 (Enc.rd_lt Ah)))⟩) Bc) fun Cf e a k m=>?_
       have s:=s.trans e (by simp)
       refine wpList_nil ⟨s,?_⟩
       refine dN [8,9,10] 3 z k (by kernel_rfl) z s (fun _ _ _ _ _=>id) fun a k=>d_one 11 (by kernel_rfl) z (s_allocN (cs:=[I 0,I 0,I 0,I 0,I 0,I 0,I 0]) m k zeroValue79 z z z z z fun Bi Cq a k m e Bk Cd=>?_)
       have Bu:=lo1 (Nat.le_trans s.size Cd)
       have s:=s.trans e (by simp)
       refine wpList_nil ⟨s,?_⟩
       refine d_one 12 (by kernel_rfl) z (s_stb (cs':=[I Ac.1.fId,I Ac.1.fW,I Ac.1.fH,I Ac.1.fD,I Ac.1.fTare,I Ac.1.fGram,I Ac.1.fCost]) sizeOf79 m 0 Bk 0 k z z z z z z z z z z z fun Cb a k e m Bt=>?_)
       have s:=s.trans e (fun y hy=>Or.inr (Bu y hy))
       refine wpList_nil ⟨s,?_⟩
       refine dN [13] 1 z k (by kernel_rfl) z s (fun _ _ _ _ _=>id) fun a k=>d_done (by kernel_rfl) ((nm_then ?_))
       exact ⟨Ac.1,Bi,Cb,Ac.2,k.keep [2,3,5,6,7] z,m.sel [1,2,0] z (by decide),Bt,h⟩
     refine s_allocN (cs:=[I 0,I 0,I 0,I 0,I 0,I 0,I 0]) m k zeroValue79 z z z z z fun Bg Cx a k m e Bx Ce=>?_
     have Bz:=lo1 (Nat.le_trans s.size Ce)
     have s:=s.trans e (by simp)
     refine wpList_nil ⟨s,?_⟩
     refine d_one 7 (by kernel_rfl) z (oE h fun Ab Bq h=>cE k m call184 z z z (c_spec_TypeById fu _ _ (show rd _ _ [I r1.fWay,I r1.fPallet.fW,I r1.fPallet.fD,I r1.fPallet.fH,I r1.fPallet.fGram,I r1.fClasses,v9,Al,I r1.fMaster,Am] (r1:Request) from ⟨_,_,_,_,_,_,z,z,(Enc.rd_agr Aj (m.a00 (Enc.rd_lt Aj))),(Enc.rd_agr Ai (m.a00 (Enc.rd_lt Ai))),(Enc.rd_agr Ah (m.a00 (Enc.rd_lt Ah)))⟩) Bq) fun Dd e a k m=>?_)
     have s:=s.trans e (by simp)
     refine wpList_nil ⟨s,?_⟩
     refine dN [8,9,10] 3 z k (by kernel_rfl) z s (fun _ _ _ _ _=>id) fun a k=>d_one 12 (by kernel_rfl) z (s_stb (cs':=[I Ab.1.fId,I Ab.1.fW,I Ab.1.fH,I Ab.1.fD,I Ab.1.fTare,I Ab.1.fGram,I Ab.1.fCost]) sizeOf79 m 0 Bx 0 k z z z z z z z z z z z fun Bs a k e m Bj=>?_)
     have s:=s.trans e (fun y hy=>Or.inr (Bz y hy))
     refine wpList_nil ⟨s,?_⟩
     refine dN [13] 1 z k (by kernel_rfl) z s (fun _ _ _ _ _=>id) fun a k=>d_done (by kernel_rfl) ((nm_then ?_))
     exact ⟨Ab.1,Bg,Bs,Ab.2,k.keep [2,3,5,6,7] z,m.sel [1,2,0] z (by decide),Bj,h⟩
   refine wp_exit (ex_then (ex_then (ex_same (nm_then ?_))))
   refine wr (pN 1 k z fun a k=>nn (wp_ret (fS h k m z z)))
 exact ⟨0,k.keep [2,3,5] z,m.sel [1,0] z (by decide),h⟩
theorem c_spec_Present (fu:Nat) {w0:World} (r1:Request) {Ax:List Value} {F3:List Nat} (Be:rd w0 F3 Ax r1) {r:(List Int)}
    (h:d_spec_Present fu r1 = some r) :
    Calls Tryz.prog 70 #[.agg Ax.toArray] w0 fun e w=>∃ (v0:Value) (G0:List Nat),e = .returned (v0) ∧ Ext [] w0 w ∧ ow w G0 [v0] r ∧ (∀ b ∈ G0,w0.heap.size ≤ b):=by
 refine enter (vs:=[_]) func70 z ntmps70 z fun a k=>?_
 have m:=St.start w0
 obtain ⟨v5,F6,v7,F8,v9,Cc,rfl,rfl,Av,Az,Af⟩:=Be
 unfold d_spec_Present at h
 refine wr (s_box (cs:=[I r1.fWay,I r1.fPallet.fW,I r1.fPallet.fD,I r1.fPallet.fH,I r1.fPallet.fGram,I r1.fClasses,v5,v7,I r1.fMaster,v9]) m k z z z z z z fun Ab Aq a k m e Au=>pN 1 k z fun a k=>nn (wr (s_bs (cs:=[]) (ps:=[]) te63 m k z z z z z z z (by decide) z (by exact (List.forall_mem_nil _)) fun At Bn Bt a k m e Ba=>?_)))
 have Aw:=ow_bx Ba ([]:List Int) z z z
 refine pN 1 k z fun a k=>nn (wp_seq (wr (sv k z (r_ldB ta38 m 1 Au 0 k z z z z z z) fun a k=>oE h fun Bv Bg h=>cE k m call74 z z z (c_spec_Class fu _ (show rd _ _ [I r1.fWay,I r1.fPallet.fW,I r1.fPallet.fD,I r1.fPallet.fH,I r1.fPallet.fGram,I r1.fClasses,v5,v7,I r1.fMaster,v9] (r1:Request) from ⟨_,_,_,_,_,_,z,z,(Enc.rd_agr Av (m.a00 (Enc.rd_lt Av))),(Enc.rd_agr Az (m.a00 (Enc.rd_lt Az))),(Enc.rd_agr Af (m.a00 (Enc.rd_lt Af)))⟩) Bg) fun By e a k m=>pN 1 k z fun a k=>nn (cI h k z (fun Bh h=>?_) fun Bh h=>?_))))
 · refine wr (pN 2 k z fun a k=>nn (wp_ret (rt_then ?_)))
   cases h
   exact finR1 k z (RV.tmp k z) ⟨_,[At],z,m.ext,(Enc.ow_agr Aw (m.a 0 z)),(m.fresh 0 z)⟩
 refine wp_skip (nm_then ?_)
 refine wp_seq (wr (pN 1 k z fun a k=>nn (wp_block (c_loop (fun n a w=>∃ (Ah:List Int) (Ad:Value) (Ac:List Nat) (Ag:World) (Aa:Int),K 40 [(1,.pointer (some (⟨Ab,0,none⟩:Addr))),(3,Ad),(4,I Aa)] a ∧ St [] w0 w [([Ab],Aq),(Ac,Ag)] ∧ ow Ag Ac [Ad] Ah ∧ d_spec_Present_L2 fu r1 n Ah Aa = some r) ?_ ?_ fu _ _ ?_))))
 · rintro a w ⟨_,_,_,_,_,_,_,_,h⟩
   exact nS h
 · rintro As a Ca ⟨Ah,Ad,Ac,Ag,Aa,k,m,Ar,h⟩
   rw [d_spec_Present_L2_s] at h
   unfold d_spec_Present_L2_B at h
   refine wp_seq (wr (pN 2 k z fun a k=>nn (cI h k z (fun Bc h=>?_) fun Bc h=>?_)))
   · refine wp_skip (nm_then ?_)
     refine c_cut (fun a w=>∃ (Ao:List Int) (Al:Value) (Ap:List Nat) (Am:World),K 40 [(1,.pointer (some (⟨Ab,0,none⟩:Addr))),(3,Al),(4,I Aa)] a ∧ St [] w0 w [([Ab],Aq),(Ap,Am)] ∧ ow Am Ap [Al] Ao ∧ d_spec_Present_J1 fu (d_spec_Present_L2 fu r1 As) Aa Ao = some r) ?_ ?_
     · rintro a Cb ⟨Ao,Al,Ap,Am,k,m,Bp,h⟩
       unfold d_spec_Present_J1 at h
       refine wp_region_lit (pN 3 k z fun a k=>nn ?_)
       exact ⟨Ao,Al,Ap,Am,w64 (Aa + 1),k.keep [1,3,4] z,m.sel [0,1] z (by decide),Bp,h⟩
     refine wp_block (wr (pN 1 k z fun a k=>nn (wp_seq (wr (pN 1 k z fun a k=>nn (wp_block (c_loop (fun n a w=>∃ (Ak:Bool) (Ae:Int),K 40 [(1,.pointer (some (⟨Ab,0,none⟩:Addr))),(3,Ad),(4,I Aa),(5,.bool (Ak)),(6,I Ae)] a ∧ St [] w0 w [([Ab],Aq),(Ac,Ag)] ∧ d_spec_Present_L1 fu (d_spec_Present_L2 fu r1 As) r1 Ah Aa n Ak Ae = some r) ?_ ?_ fu _ _ ?_)))))))
     · rintro a w ⟨_,_,_,_,h⟩
       exact nS h
     · rintro Bk a Bx ⟨Ak,Ae,k,m,h⟩
       rw [d_spec_Present_L1_s] at h
       unfold d_spec_Present_L1_B at h
       refine wp_seq (wr (pN 1 k z fun a k=>sv k z (r_fa fa38_6 k z z) fun a k=>sv k z (r_ldb t136 m 0 Au 9 k z z z z z) fun a k=>sv k z (r_len (α:=Item) Af k underlying36 z z) fun a k=>pN 1 k z fun a k=>nn (cI h k z (fun Bb h=>?_) fun Bb h=>?_)))
       · refine wp_skip (nm_then ?_)
         refine c_cut (fun a w=>∃ (Aj:Bool),K 40 [(1,.pointer (some (⟨Ab,0,none⟩:Addr))),(3,Ad),(4,I Aa),(5,.bool (Aj)),(6,I Ae)] a ∧ St [] w0 w [([Ab],Aq),(Ac,Ag)] ∧ d_spec_Present_J2 fu (d_spec_Present_L1 fu (d_spec_Present_L2 fu r1 As) r1 Ah Aa Bk) Ae Aj = some r) ?_ ?_
         · rintro a Bu ⟨Aj,k,m,h⟩
           unfold d_spec_Present_J2 at h
           refine wp_region_lit (pN 3 k z fun a k=>nn ?_)
           exact ⟨Aj,w64 (Ae + 1),k.keep [1,3,4,5,6] z,m.sel [0,1] z (by decide),h⟩
         refine wp_block (wp_region_lit (pN 2 k z fun a k=>bsplit (Ak) (fun Ai=>?_) (fun Ai=>?_)))
         · have h:=bif_t Ai h
           refine rB k 24 z Ai fun k=>pN 10 k z fun a k=>wpList_nil (nm_block (nm_then ?_))
           exact ⟨true,k.keep [1,3,4,5,6] z,m.sel [0,1] z (by decide),h⟩
         have h:=bif_f Ai h
         refine rB k 24 z Ai fun k=>sv k z (r_fa fa38_6 k z z) fun a k=>sv k z (r_ldb t136 m 0 Au 9 k z z z z z) fun a k=>pN 1 k z fun a k=>oE h fun Bf Ay h=>sv k z (r_ixa Af Ay k ts36 z z z) fun a k=>sv k z (r_fa fa158_5 k z z) fun a k=>sv k z (r_lde1 Af (m.a00 (Enc.rd_lt Af)) Ay 5 t13 k z z z z) fun a k=>pN 4 k z fun a k=>wpList_nil (nm_block (nm_then ?_))
         exact ⟨Bf.fClass == Aa,k.keep [1,3,4,5,6] z,m.sel [0,1] z (by decide),h⟩
       refine wp_exit (ex_then (ex_then (ex_same (nm_then ?_))))
       refine wr (pN 1 k z fun a k=>nn (cI h k z (fun Bq h=>?_) fun Bq h=>?_))
       · refine wp_region_lit (pN 2 k z fun a k=>s_bs (cs:=[I Aa]) (ps:=[(0,.tmp 36)]) te63 m k z z z z z z z (by decide) z (by exact (List.forall_mem_cons.2 ⟨z,(List.forall_mem_nil _)⟩)) fun Cd Bz Bw a k m e Bi=>?_)
         have Bm:=ow_bx Bi ([Aa]:List Int) z z z
         refine oE h fun Bs Br h=>s_appF Br te63 z m 2 Ar (News.rd (Enc.rd_agr (Enc.ow_rd Bm) (m.a 0 z))) z z k z z z z z z z fun Bl Bj Bo a k e m Bd=>pN 1 k z fun a k=>wpList_nil (nm_block (nm_then ?_))
         exact ⟨Bs,Bl,Bj,Bo,k.keep [1,3,4] z,m.sel [1,2] z (by decide),Bd,h⟩
       refine wp_skip (nm_block (nm_then ?_))
       exact ⟨Ah,Ad,Ac,Ag,k.keep [1,3,4] z,m.sel [0,1] z (by decide),Ar,h⟩
     exact ⟨false,0,k.keep [1,3,4,5,6] z,m.sel [0,1] z (by decide),h⟩
   refine wp_exit (ex_then (ex_then (ex_same (nm_then ?_))))
   refine wr (pN 2 k z fun a k=>nn (wp_ret ?_))
   cases h
   exact finR1 k z (RV.tmp k z) ⟨_,Ac,z,m.ext,(Enc.ow_agr Ar (m.a 1 z)),(m.fresh 1 z)⟩
 exact ⟨([]:List Int),(.slice (some ⟨At,0,none⟩) 0 0),[At],Bn,0,k.keep [1,3,4] z,m.sel [1,0] z (by decide),Aw,h⟩
theorem c_spec_l1Has (fu:Nat) {w0:World} (Ac:List Int) (x5:Int) {v2:Value} {F3:List Nat} (Ab:rd w0 F3 [v2] Ac) {r:Bool}
    (h:d_spec_l1Has fu Ac x5 = some r) :
    Calls Tryz.prog 249 #[v2,I x5] w0 fun e w=>e = .returned (.bool (r)) ∧ Ext [] w0 w:=by
 refine enter (vs:=[_,_]) func249 z ntmps249 z fun a k=>?_
 have m:=St.start w0
 unfold d_spec_l1Has at h
 refine wr (pN 1 k z fun a k=>nn (wp_seq (wr (pN 1 k z fun a k=>nn (wp_block (c_loop (fun n a w=>∃ (Aa:Int),K 18 [(0,v2),(1,I x5),(5,I Aa)] a ∧ St [] w0 w [] ∧ d_spec_l1Has_L1 fu Ac x5 n Aa = some r) ?_ ?_ fu _ _ ?_))))))
 · rintro a w ⟨_,_,_,h⟩
   exact nS h
 · rintro Ai a Ah ⟨Aa,k,m,h⟩
   rw [d_spec_l1Has_L1_s] at h
   unfold d_spec_l1Has_L1_B at h
   refine wp_seq (wr (pN 2 k z fun a k=>sv k z (r_len (α:=Int) Ab k underlying63 z z) fun a k=>pN 1 k z fun a k=>nn (cI h k z (fun Ae h=>?_) fun Ae h=>?_)))
   · refine wp_skip (nm_then ?_)
     refine wp_seq (wp_block (wr (pN 2 k z fun a k=>oE h fun Ag Ad h=>sv k z (r_ixa Ab Ad k ts63 z z z) fun a k=>sv k z (r_lde1 Ab (m.a00 (Enc.rd_lt Ab)) Ad 0 t13 k z z z z) fun a k=>pN 2 k z fun a k=>nn (cI h k z (fun Af h=>?_) fun Af h=>?_))))
     · refine wr (pN 1 k z fun a k=>nn (wp_ret (rt_block (rt_then (rt_then (rt_block (rt_then ?_)))))))
       refine fS h k m z z
     refine wp_skip (nm_block (nm_then ?_))
     refine wp_region_lit (pN 3 k z fun a k=>nn ?_)
     exact ⟨w64 (Aa + 1),k.keep [0,1,5] z,m.sel [] z (by decide),h⟩
   refine wp_exit (ex_then (ex_then (ex_same (nm_then ?_))))
   refine wr (pN 1 k z fun a k=>nn (wp_ret (fS h k m z z)))
 exact ⟨0,k.keep [0,1,5] z,m.sel [] z (by decide),h⟩
theorem c_spec_l3Joins (fu:Nat) {w0:World} (Ag:List Pair) (Ah:List Int) (Ac:Int) {v2:Value} {F3:List Nat} (Ae:rd w0 F3 [v2] Ag) {v6:Value} {F7:List Nat} (Aa:rd w0 F7 [v6] Ah) {r:Bool}
    (h:d_spec_l3Joins fu Ag Ah Ac = some r) :
    Calls Tryz.prog 295 #[v2,v6,I Ac] w0 fun e w=>e = .returned (.bool (r)) ∧ Ext [] w0 w:=by
 refine enter (vs:=[_,_,_]) func295 z ntmps295 z fun a k=>?_
 have m:=St.start w0
 unfold d_spec_l3Joins at h
 refine wr (pN 1 k z fun a k=>nn (wp_seq (wr (pN 1 k z fun a k=>nn (wp_block (c_loop (fun n a w=>∃ (Ab:Int),K 32 [(0,v2),(1,v6),(2,I Ac),(7,I Ab)] a ∧ St [] w0 w [] ∧ d_spec_l3Joins_L1 fu Ag Ah Ac n Ab = some r) ?_ ?_ fu _ _ ?_))))))
 · rintro a w ⟨_,_,_,h⟩
   exact nS h
 · rintro Am a Av ⟨Ab,k,m,h⟩
   rw [d_spec_l3Joins_L1_s] at h
   unfold d_spec_l3Joins_L1_B at h
   refine wp_seq (wr (pN 2 k z fun a k=>sv k z (r_len (α:=Int) Aa k underlying63 z z) fun a k=>pN 1 k z fun a k=>nn (cI h k z (fun Ai h=>?_) fun Ai h=>?_)))
   · refine wp_skip (nm_then ?_)
     refine c_cut (fun a w=>K 32 [(0,v2),(1,v6),(2,I Ac),(7,I Ab)] a ∧ St [] w0 w [] ∧ d_spec_l3Joins_J1 fu (d_spec_l3Joins_L1 fu Ag Ah Ac Am) Ab = some r) ?_ ?_
     · rintro a Aq ⟨k,m,h⟩
       unfold d_spec_l3Joins_J1 at h
       refine wp_region_lit (pN 3 k z fun a k=>nn ?_)
       exact ⟨w64 (Ab + 1),k.keep [0,1,2,7] z,m.sel [] z (by decide),h⟩
     refine wp_block (wr (pN 3 k z fun a k=>oE h fun Ap Af h=>sv k z (r_ixa Aa Af k ts63 z z z) fun a k=>sv k z (r_lde1 Aa (m.a00 (Enc.rd_lt Aa)) Af 0 t13 k z z z z) fun a k=>pN 1 k z fun a k=>oE h fun Al Aj h=>cE k m call177 z z z (c_spec_Beside fu _ _ _ (Enc.rd_agr Ae (m.a00 (Enc.rd_lt Ae))) Aj) fun As e a k m=>pN 2 k z fun a k=>bsplit (!Al) (fun Ad=>?_) (fun Ad=>?_)))
     · have h:=bif_t Ad h
       refine rB k 22 z Ad fun k=>pN 9 k z fun a k=>nn (wp_cond_true (k.ev z) (wr (pN 1 k z fun a k=>nn (wp_ret (rt_block (rt_then (rt_then (rt_block (rt_then ?_)))))))))
       refine fS h k m z z
     have h:=bif_f Ad h
     refine rB k 22 z Ad fun k=>pN 4 k z fun a k=>oE h fun At Aw h=>sv k z (r_ixa Aa Af k ts63 z z z) fun a k=>sv k z (r_lde1 Aa (m.a00 (Enc.rd_lt Aa)) Af 0 t13 k z z z z) fun a k=>oE h fun Au Ao h=>cE k m call177 z z z (c_spec_Beside fu _ _ _ (Enc.rd_agr Ae (m.a00 (Enc.rd_lt Ae))) Ao) fun Ar e a k m=>pN 2 k z fun a k=>nn (cI h k z (fun Ak h=>?_) fun Ak h=>?_)
     · refine wr (pN 1 k z fun a k=>nn (wp_ret (rt_block (rt_then (rt_then (rt_block (rt_then ?_)))))))
       refine fS h k m z z
     refine wp_skip (nm_block (nm_then ?_))
     exact ⟨k.keep [0,1,2,7] z,m.sel [] z (by decide),h⟩
   refine wp_exit (ex_then (ex_then (ex_same (nm_then ?_))))
   refine wr (pN 1 k z fun a k=>nn (wp_ret (fS h k m z z)))
 exact ⟨0,k.keep [0,1,2,7] z,m.sel [] z (by decide),h⟩
theorem c_spec_Groups (fu:Nat) {w0:World} (Ae:List Pair) (Ai:List Int) {v2:Value} {F3:List Nat} (At:rd w0 F3 [v2] Ae) {v6:Value} {F7:List Nat} (Au:rd w0 F7 [v6] Ai) {r:(List (List Int))}
    (h:d_spec_Groups fu Ae Ai = some r) :
    Calls Tryz.prog 248 #[v2,v6] w0 fun e w=>∃ (v0:Value) (G0:List Nat),e = .returned (v0) ∧ Ext [] w0 w ∧ ow w G0 [v0] r ∧ (∀ b ∈ G0,w0.heap.size ≤ b):=by
 refine enter (vs:=[_,_]) func248 z ntmps248 z fun a k=>?_
 have m:=St.start w0
 unfold d_spec_Groups at h
 refine wr (pN 1 k z fun a k=>nn (wr (s_bs (cs:=[]) (ps:=[]) te29 m k z z z z z z z (by decide) z (by exact (List.forall_mem_nil _)) fun g9 Bq Cw a k m e Cp=>?_)))
 have Cf:=ow_bx0 (α:=List Int) Cp
 refine pN 1 k z fun a k=>nn (wp_seq (wr (pN 1 k z fun a k=>nn (wp_block (c_loop (fun n a w=>∃ (Ad:List (List Int)) (Ag:Value) (Ac:List Nat) (Ah:World) (Aa:Int),K 51 [(0,v2),(1,v6),(5,Ag),(6,I Aa)] a ∧ St [] w0 w [(Ac,Ah)] ∧ ow Ah Ac [Ag] Ad ∧ d_spec_Groups_L2 fu Ae Ai n Ad Aa = some r) ?_ ?_ fu _ _ ?_)))))
 · rintro a w ⟨_,_,_,_,_,_,_,_,h⟩
   exact nS h
 · rintro Ar a Do ⟨Ad,Ag,Ac,Ah,Aa,k,m,Ab,h⟩
   rw [d_spec_Groups_L2_s] at h
   unfold d_spec_Groups_L2_B at h
   refine wp_seq (wr (pN 2 k z fun a k=>nn (cI h k z (fun Co h=>?_) fun Co h=>?_)))
   · refine wp_skip (nm_then ?_)
     refine c_cut (fun a w=>∃ (Aq:List (List Int)) (Am:Value) (Al:List Nat) (Ap:World),K 51 [(0,v2),(1,v6),(5,Am),(6,I Aa)] a ∧ St [] w0 w [(Al,Ap)] ∧ ow Ap Al [Am] Aq ∧ d_spec_Groups_J1 fu (d_spec_Groups_L2 fu Ae Ai Ar) Aa Aq = some r) ?_ ?_
     · rintro a Dh ⟨Aq,Am,Al,Ap,k,m,Cn,h⟩
       unfold d_spec_Groups_J1 at h
       refine wp_region_lit (pN 3 k z fun a k=>nn ?_)
       exact ⟨Aq,Am,Al,Ap,w64 (Aa + 1),k.keep [0,1,5,6] z,m.sel [0] z (by decide),Cn,h⟩
     refine wp_block (wp_seq (wr (pN 2 k z fun a k=>oE h fun Cr Ci h=>cE k m call249 z z z (c_spec_l1Has fu _ _ (Enc.rd_agr Au (m.a00 (Enc.rd_lt Au))) Ci) fun Da e a k m=>pN 1 k z fun a k=>nn (cI h k z (fun By h=>?_) fun By h=>?_))))
     · refine wp_exit (ex_then (ex_same (nm_then ?_)))
       exact ⟨Ad,Ag,Ac,Ah,k.keep [0,1,5,6] z,m.sel [0] z (by decide),Ab,h⟩
     refine wp_skip (nm_then ?_)
     refine wr (pN 1 k z fun a k=>nn (wp_seq (wr (pN 1 k z fun a k=>sv k z (r_len (α:=List Int) (Enc.ow_rd Ab) k underlying29 z z) fun a k=>pN 2 k z fun a k=>nn (wp_block (c_loop (fun n a w=>∃ (Aj:Int) (Af:Int),K 51 [(0,v2),(1,v6),(5,Ag),(6,I Aa),(7,I Aj),(8,I Af)] a ∧ St [] w0 w [(Ac,Ah)] ∧ d_spec_Groups_L1 fu (d_spec_Groups_L2 fu Ae Ai Ar) Ae Ad Aa n Aj Af = some r) ?_ ?_ fu _ _ ?_))))))
     · rintro a w ⟨_,_,_,_,h⟩
       exact nS h
     · rintro Ce a Di ⟨Aj,Af,k,m,h⟩
       rw [d_spec_Groups_L1_s] at h
       unfold d_spec_Groups_L1_B at h
       refine wp_seq (wr (pN 2 k z fun a k=>nn (cI h k z (fun Bp h=>?_) fun Bp h=>?_)))
       · refine wp_skip (nm_then ?_)
         refine c_cut (fun a w=>∃ (Ak:Int),K 51 [(0,v2),(1,v6),(5,Ag),(6,I Aa),(7,I Ak),(8,I Af)] a ∧ St [] w0 w [(Ac,Ah)] ∧ d_spec_Groups_J2 fu (d_spec_Groups_L1 fu (d_spec_Groups_L2 fu Ae Ai Ar) Ae Ad Aa Ce) Af Ak = some r) ?_ ?_
         · rintro a Cz ⟨Ak,k,m,h⟩
           unfold d_spec_Groups_J2 at h
           refine wp_region_lit (pN 3 k z fun a k=>nn ?_)
           exact ⟨Ak,w64 (Af - 1),k.keep [0,1,5,6,7,8] z,m.sel [0] z (by decide),h⟩
         refine wp_block (wr (pN 3 k z fun a k=>oE h fun Dd Az h=>sv k z (r_ixa (Enc.ow_rd Ab) Az k ts29 z z z) fun a k=>?_))
         obtain ⟨Cs,Bh,Be,Ay,Cg,Bg⟩:=rd_get (Enc.ow_rd Ab) (ix_some Az).2.2
         obtain ⟨Cu,rfl⟩:∃ v,Bh = [v]:=by obtain ⟨_,_,hq,_⟩:=Ay; exact ⟨_,hq⟩
         refine sv k z (r_ld1 t163 (Cg.agr (m.a 0 z) Bg) k z z) fun a k=>pN 1 k z fun a k=>oE h fun Dq Ba h=>cE k m call295 z z z (c_spec_l3Joins fu _ _ _ (Enc.rd_agr At (m.a00 (Enc.rd_lt At))) (Enc.rd_agr Ay ((m.a 0 z).sub Be)) Ba) fun Dn e a k m=>nn (cI h k z (fun Cd h=>?_) fun Cd h=>?_)
         · refine wp_region_lit (pN 2 k z fun a k=>wpList_nil (nm_block (nm_then ?_)))
           exact ⟨Af,k.keep [0,1,5,6,7,8] z,m.sel [0] z (by decide),h⟩
         refine wp_skip (nm_block (nm_then ?_))
         exact ⟨Aj,k.keep [0,1,5,6,7,8] z,m.sel [0] z (by decide),h⟩
       refine wp_exit (ex_then (ex_then (ex_same (nm_then ?_))))
       refine wr (pN 2 k z fun a k=>nn (cI h k z (fun Bt h=>?_) fun Bt h=>?_))
       · refine wp_region_lit (pN 2 k z fun a k=>s_bs (cs:=[I Aa]) (ps:=[(0,.tmp 36)]) te63 m k z z z z z z z (by decide) z (by exact (List.forall_mem_cons.2 ⟨z,(List.forall_mem_nil _)⟩)) fun Av Ct Dr a k m e Bb=>?_)
         have Ax:=ow_bx Bb ([Aa]:List Int) z z z
         refine s_bs (cs:=[(.slice (some ⟨Av,0,none⟩) 1 1)]) (ps:=[(0,.tmp 37)]) te29 m k z z z z z z z (by decide) z (by exact (List.forall_mem_cons.2 ⟨congrArg Array.size (rd_c (Enc.ow_rd Ax)),(List.forall_mem_nil _)⟩)) fun Cv Dg De a k m e Bc=>oE h fun Bf Bu h=>?_
         have Cc:=Enc.ow_agr Ax (m.a 1 z)
         have Ca:=News.box Bc (m.a 0 z) (by simp) (m:=1)
         have Bs:=m.a 2 z
         have m:=m.sel [2,1,0] z (by decide)
         have m:=m.join2
         refine s_appO (F:=Ac) (G:=[Av]) Bu te29 z m Ab Bs Ca Cc (Agr.refl _ _) k z z z z z z fun Cb Bm Ck a k e m Bl=>pN 1 k z fun a k=>wpList_nil (nm_block (nm_then ?_))
         exact ⟨Bf,Cb,Bm,Ck,k.keep [0,1,5,6] z,m.sel [0] z (by decide),Bl,h⟩
       refine wp_region_lit (pN 4 k z fun a k=>oE h fun Dj Ao h=>sv k z (r_ixa (Enc.ow_rd Ab) Ao k ts29 z z z) fun a k=>?_)
       obtain ⟨Dm,Bx,Cy,Cj,Aw,Cl⟩:=rd_get (Enc.ow_rd Ab) (ix_some Ao).2.2
       obtain ⟨Db,rfl⟩:∃ v,Bx = [v]:=by obtain ⟨_,_,hq,_⟩:=Cj; exact ⟨_,hq⟩
       refine sv k z (r_ld1 t163 (Aw.agr (m.a 0 z) Cl) k z z) fun a k=>pN 1 k z fun a k=>s_bs (cs:=[I Aa]) (ps:=[(0,.tmp 46)]) te63 m k z z z z z z z (by decide) z (by exact (List.forall_mem_cons.2 ⟨z,(List.forall_mem_nil _)⟩)) fun Bd Bv Dk a k m e Cq=>?_
       have Bn:=ow_bx Cq ([Aa]:List Int) z z z
       obtain ⟨Cx,Ds,m,Bj,Ch⟩:=m.opn 1 z Ab Ao Aw z (M':=[([Bd],Bv)]) z
       refine oE h fun Bi Bz h=>s_appF Bz te63 z m 1 Ch (News.rd (Enc.rd_agr (Enc.ow_rd Bn) (m.a 2 z))) z z k z z z z z z z fun Br Dl Dc a k e m As=>oE h fun Dp Df h=>sv k z (r_ixa (Enc.ow_rd Ab) Ao k ts29 z z z) fun a k=>s_stH1 (α:=List Int) (sz:=1) (cs':=[Br]) sizeOf63 m 0 Bj 0 k (rd_c (Enc.ow_rd As)) (rd_o (Enc.ow_rd As)) z z z z z z z z z z fun Bk a k e m Bw=>?_
       obtain ⟨Bo,m,Cm⟩:=(m.sel [0,1,2] z (by decide)).cls Bw As
       refine wpList_nil (nm_block (nm_then ?_))
       exact ⟨setx Ad Aj Bi,Ag,Bo,Bk,k.keep [0,1,5,6] z,m.sel [0] z (by decide),Cm,h⟩
     exact ⟨(-1),w64 (((Ad.length:Int)) - 1),k.keep [0,1,5,6,7,8] z,m.sel [0] z (by decide),h⟩
   refine wp_exit (ex_then (ex_then (ex_same (nm_then ?_))))
   refine wr (pN 2 k z fun a k=>nn (wp_ret ?_))
   cases h
   exact finR1 k z (RV.tmp k z) ⟨_,Ac,z,m.ext,(Enc.ow_agr Ab (m.a 0 z)),(m.fresh 0 z)⟩
 exact ⟨([]:List (List Int)),(.slice (some ⟨g9,0,none⟩) 0 0),[g9],Bq,0,k.keep [0,1,5,6] z,m.sel [0] z (by decide),Cf,h⟩
theorem c_spec_GroupsOf (fu:Nat) {w0:World} (r1:Request) {Af:List Value} {F3:List Nat} (Ao:rd w0 F3 Af r1) {r:(List (List Int))}
    (h:d_spec_GroupsOf fu r1 = some r) :
    Calls Tryz.prog 167 #[.agg Af.toArray] w0 fun e w=>∃ (v0:Value) (G0:List Nat),e = .returned (v0) ∧ Ext [] w0 w ∧ ow w G0 [v0] r ∧ (∀ b ∈ G0,w0.heap.size ≤ b):=by
 refine enter (vs:=[_]) func167 z ntmps167 z fun a k=>?_
 have m:=St.start w0
 obtain ⟨v5,F6,v7,F8,v9,Ay,rfl,rfl,Aa,Ak,Ai⟩:=Ao
 unfold d_spec_GroupsOf at h
 refine wr (s_box (cs:=[I r1.fWay,I r1.fPallet.fW,I r1.fPallet.fD,I r1.fPallet.fH,I r1.fPallet.fGram,I r1.fClasses,v5,v7,I r1.fMaster,v9]) m k z z z z z z fun Bb Bc a k m e Ah=>pN 1 k z fun a k=>nn (wp_seq (d_go [] mixo m z fun Ap hMd=>?_)))
 have m:=hMd
 have s:=Ext.refl ([]:List Nat) Ap
 refine dt k 0 z (by kernel_rfl) z s (fun _ _ _=>id) (fun w s=>r_fa fa38_3 k z z) fun a k=>dt k 1 z (by kernel_rfl) z s (fun _ _ _=>id) (fun w s=>r_ld1 t134 (r:=[]) (Ah.at ((hMd.step s).a 0 z) 6 1 z z z) k z z) fun a k=>dt k 2 z (by kernel_rfl) z s (fun _ _ _=>id) (fun w s=>r_ldA ta38 (Ah.at ((hMd.step s).a 0 z) 0 10 z z z) z k z z) fun a k=>d_one 3 (by kernel_rfl) z (oE h fun Az Al h=>?_)
 refine s_call k call70 z z z z z (c_spec_Present fu _ (show rd _ _ [I r1.fWay,I r1.fPallet.fW,I r1.fPallet.fD,I r1.fPallet.fH,I r1.fPallet.fGram,I r1.fClasses,v5,v7,I r1.fMaster,v9] (r1:Request) from ⟨_,_,_,_,_,_,z,z,(Enc.rd_agr Aa (m.a00 (Enc.rd_lt Aa))),(Enc.rd_agr Ak (m.a00 (Enc.rd_lt Ak))),(Enc.rd_agr Ai (m.a00 (Enc.rd_lt Ai)))⟩) Al) fun At Aw hR=>?_
 obtain ⟨Ar,Aj,rfl,e,Ab,Ae⟩:=hR
 refine ⟨_,z,fun a k=>?_⟩
 have m:=m.new e Aj (fun b hb=>⟨Ae b hb,Enc.rd_lt (Enc.ow_rd Ab) b hb⟩) (Enc.ow_nd Ab)
 have As:=fun (y:Nat) (hy:y ∈ Aj)=>Nat.le_trans s.size (Ae y hy)
 have s:=s.trans e (by simp)
 refine wpList_nil ⟨s,?_⟩
 refine d_one 4 (by kernel_rfl) z (oE h fun Av Am h=>s_call k call248 z z z z z (c_spec_Groups fu _ _ (Enc.rd_agr Aa (m.a00 (Enc.rd_lt Aa))) (Enc.rd_agr (Enc.ow_rd Ab) (m.a 0 z)) Am) fun Ax Aq hR=>?_)
 obtain ⟨Au,Ad,rfl,e,Ac,Ag⟩:=hR
 refine ⟨_,z,fun a k=>?_⟩
 have m:=m.new e Ad (fun b hb=>⟨Ag b hb,Enc.rd_lt (Enc.ow_rd Ac) b hb⟩) (Enc.ow_nd Ac)
 have Ba:=fun (y:Nat) (hy:y ∈ Ad)=>Nat.le_trans s.size (Ag y hy)
 have s:=s.trans e (by simp)
 refine wpList_nil ⟨s,?_⟩
 refine dN [5] 1 z k (by kernel_rfl) z s (fun _ _ _ _ _=>id) fun a k=>d_done (by kernel_rfl) ((nm_then ?_))
 refine wp_ret ?_
 cases h
 exact finR1 k z (RV.tmp k z) ⟨_,Ad,z,m.ext,(Enc.ow_agr Ac (m.a 0 z)),(m.fresh 0 z)⟩
theorem c_spec_GroupOf (fu:Nat) {w0:World} (Ae:List (List Int)) (Ac:Int) {v2:Value} {F3:List Nat} (Ab:rd w0 F3 [v2] Ae) {r:Int}
    (h:d_spec_GroupOf fu Ae Ac = some r) :
    Calls Tryz.prog 169 #[v2,I Ac] w0 fun e w=>e = .returned (I r) ∧ Ext [] w0 w:=by
 refine enter (vs:=[_,_]) func169 z ntmps169 z fun a k=>?_
 have m:=St.start w0
 unfold d_spec_GroupOf at h
 refine wr (pN 1 k z fun a k=>nn (wp_seq (wr (pN 1 k z fun a k=>nn (wp_block (c_loop (fun n a w=>∃ (Aa:Int),K 19 [(0,v2),(1,I Ac),(5,I Aa)] a ∧ St [] w0 w [] ∧ d_spec_GroupOf_L1 fu Ae Ac n Aa = some r) ?_ ?_ fu _ _ ?_))))))
 · rintro a w ⟨_,_,_,h⟩
   exact nS h
 · rintro Au a Ar ⟨Aa,k,m,h⟩
   rw [d_spec_GroupOf_L1_s] at h
   unfold d_spec_GroupOf_L1_B at h
   refine wp_seq (wr (pN 2 k z fun a k=>sv k z (r_len (α:=List Int) Ab k underlying29 z z) fun a k=>pN 1 k z fun a k=>nn (cI h k z (fun Ai h=>?_) fun Ai h=>?_)))
   · refine wp_skip (nm_then ?_)
     refine wp_seq (wp_block (wr (pN 2 k z fun a k=>oE h fun Ap Af h=>sv k z (r_ixa Ab Af k ts29 z z z) fun a k=>?_)))
     obtain ⟨At,Aj,Am,Ad,Al,Ak⟩:=rd_get Ab (ix_some Af).2.2
     obtain ⟨Ao,rfl⟩:∃ v,Aj = [v]:=by obtain ⟨_,_,hq,_⟩:=Ad; exact ⟨_,hq⟩
     refine sv k z (r_ld1 t163 (Al.agr (m.a00 (Enc.rd_lt Ab)) Ak) k z z) fun a k=>pN 1 k z fun a k=>oE h fun Aq Ah h=>cE k m call249 z z z (c_spec_l1Has fu _ _ (Enc.rd_agr Ad (m.a00 (Enc.rd_lt Ad))) Ah) fun As e a k m=>nn (cI h k z (fun Ag h=>?_) fun Ag h=>?_)
     · refine wr (pN 2 k z fun a k=>nn (wp_ret (rt_block (rt_then (rt_then (rt_block (rt_then ?_)))))))
       refine fS h k m z z
     refine wp_skip (nm_block (nm_then ?_))
     refine wp_region_lit (pN 3 k z fun a k=>nn ?_)
     exact ⟨w64 (Aa + 1),k.keep [0,1,5] z,m.sel [] z (by decide),h⟩
   refine wp_exit (ex_then (ex_then (ex_same (nm_then ?_))))
   refine wr (pN 1 k z fun a k=>nn (wp_ret (fS h k m z z)))
 exact ⟨0,k.keep [0,1,5] z,m.sel [] z (by decide),h⟩
theorem c_spec_l15Group (fu:Nat) {w0:World} (r1:Request) (Ab:List Int) (x9:Plan) {Bg:List Value} {F3:List Nat} (Bn:rd w0 F3 Bg r1) {v6:Value} {F7:List Nat} (Au:rd w0 F7 [v6] Ab) {Bk:List Value} {Ck:List Nat} (Cg:rd w0 Ck Bk x9) {r:Bool}
    (h:d_spec_l15Group fu r1 Ab x9 = some r) :
    Calls Tryz.prog 108 #[.agg Bg.toArray,v6,.agg Bk.toArray] w0 fun e w=>e = .returned (.bool (r)) ∧ Ext [] w0 w:=by
 refine enter (vs:=[_,_,_]) func108 z ntmps108 z fun a k=>?_
 have m:=St.start w0
 obtain ⟨Ay,Df,At,Dv,Az,Dl,rfl,rfl,Am,Ak,Al⟩:=Bn
 obtain ⟨Cl,Da,Bx,Cy,rfl,rfl,Ae,Cw⟩:=Cg
 unfold d_spec_l15Group at h
 refine wr (s_box (cs:=[I r1.fWay,I r1.fPallet.fW,I r1.fPallet.fD,I r1.fPallet.fH,I r1.fPallet.fGram,I r1.fClasses,Ay,At,I r1.fMaster,Az]) m k z z z z z z fun Ac Aq a k m e Bj=>s_box (cs:=[Cl,Bx]) m k z z z z z z fun Ad Ap a k m e Ax=>pN 1 k z fun a k=>nn (wr (sv k z (r_ldB ta38 m 1 Bj 0 k z z z z z z) fun a k=>oE h fun Af Co h=>?_)))
 refine s_call k call167 z z z z z (c_spec_GroupsOf fu _ (show rd _ _ [I r1.fWay,I r1.fPallet.fW,I r1.fPallet.fD,I r1.fPallet.fH,I r1.fPallet.fGram,I r1.fClasses,Ay,At,I r1.fMaster,Az] (r1:Request) from ⟨_,_,_,_,_,_,z,z,(Enc.rd_agr Am (m.a00 (Enc.rd_lt Am))),(Enc.rd_agr Ak (m.a00 (Enc.rd_lt Ak))),(Enc.rd_agr Al (m.a00 (Enc.rd_lt Al)))⟩) Co) fun Dn Ar hR=>?_
 obtain ⟨As,Ao,rfl,e,Bc,Cd⟩:=hR
 refine ⟨_,z,fun a k=>?_⟩
 have m:=m.new e Ao (fun b hb=>⟨Cd b hb,Enc.rd_lt (Enc.ow_rd Bc) b hb⟩) (Enc.ow_nd Bc)
 refine pN 1 k z fun a k=>nn (wp_seq (wr (pN 1 k z fun a k=>nn (wp_block (c_loop (fun n a w=>∃ (Aa:Int),K 58 [(1,v6),(3,.pointer (some (⟨Ac,0,none⟩:Addr))),(5,.pointer (some (⟨Ad,0,none⟩:Addr))),(7,As),(8,I Aa)] a ∧ St [] w0 w [([Ac],Aq),([Ad],Ap),(Ao,Ar)] ∧ d_spec_l15Group_L2 fu r1 Ab x9 Af n Aa = some r) ?_ ?_ fu _ _ ?_)))))
 · rintro a w ⟨_,_,_,h⟩
   exact nS h
 · rintro Av a Dp ⟨Aa,k,m,h⟩
   rw [d_spec_l15Group_L2_s] at h
   unfold d_spec_l15Group_L2_B at h
   refine wp_seq (wr (pN 1 k z fun a k=>sv k z (r_fa fa58_0 k z z) fun a k=>sv k z (r_ldb t155 m 1 Ax 0 k z z z z z) fun a k=>sv k z (r_len (α:=Carton) Ae k underlying55 z z) fun a k=>pN 1 k z fun a k=>nn (cI h k z (fun Bv h=>?_) fun Bv h=>?_)))
   · refine wp_skip (nm_then ?_)
     refine c_cut (fun a w=>K 58 [(1,v6),(3,.pointer (some (⟨Ac,0,none⟩:Addr))),(5,.pointer (some (⟨Ad,0,none⟩:Addr))),(7,As),(8,I Aa)] a ∧ St [] w0 w [([Ac],Aq),([Ad],Ap),(Ao,Ar)] ∧ d_spec_l15Group_J1 fu (d_spec_l15Group_L2 fu r1 Ab x9 Af Av) Aa = some r) ?_ ?_
     · rintro a Dw ⟨k,m,h⟩
       unfold d_spec_l15Group_J1 at h
       refine wp_region_lit (pN 3 k z fun a k=>nn ?_)
       exact ⟨w64 (Aa + 1),k.keep [1,3,5,7,8] z,m.sel [0,1,2] z (by decide),h⟩
     refine wp_block (wr (pN 1 k z fun a k=>nn (wp_block (c_loop (fun n a w=>∃ (Ah:Int),K 58 [(1,v6),(3,.pointer (some (⟨Ac,0,none⟩:Addr))),(5,.pointer (some (⟨Ad,0,none⟩:Addr))),(7,As),(8,I Aa),(9,I Ah)] a ∧ St [] w0 w [([Ac],Aq),([Ad],Ap),(Ao,Ar)] ∧ d_spec_l15Group_L1 fu (d_spec_l15Group_L2 fu r1 Ab x9 Af Av) r1 Ab x9 Af Aa n Ah = some r) ?_ ?_ fu _ _ ?_))))
     · rintro a w ⟨_,_,_,h⟩
       exact nS h
     · rintro Bl a Ds ⟨Ah,k,m,h⟩
       rw [d_spec_l15Group_L1_s] at h
       unfold d_spec_l15Group_L1_B at h
       refine wp_seq (wr (pN 1 k z fun a k=>sv k z (r_fa fa58_0 k z z) fun a k=>sv k z (r_ldb t155 m 1 Ax 0 k z z z z z) fun a k=>pN 1 k z fun a k=>oE h fun Cv Bd h=>sv k z (r_ixa Ae Bd k ts55 z z z) fun a k=>sv k z (r_fa fa83_2 k z z) fun a k=>?_))
       obtain ⟨Dt,Du,Dk,Ce,Bi,Bh⟩:=rd_get Ae (ix_some Bd).2.2
       obtain ⟨Di,_,rfl,rfl,Ba⟩:=Ce
       refine sv k z (r_ld1 t163 ((Bi.agr (m.a00 (Enc.rd_lt Ae)) Bh).fld 2 1 (Nat.le_of_ble_eq_true z)) k z z) fun a k=>sv k z (r_len (α:=Int) Ba k underlying63 z z) fun a k=>pN 1 k z fun a k=>nn (cI h k z (fun Cc h=>?_) fun Cc h=>?_)
       · refine wp_skip (nm_then ?_)
         refine c_cut (fun a w=>K 58 [(1,v6),(3,.pointer (some (⟨Ac,0,none⟩:Addr))),(5,.pointer (some (⟨Ad,0,none⟩:Addr))),(7,As),(8,I Aa),(9,I Ah)] a ∧ St [] w0 w [([Ac],Aq),([Ad],Ap),(Ao,Ar)] ∧ d_spec_l15Group_J2 fu (d_spec_l15Group_L1 fu (d_spec_l15Group_L2 fu r1 Ab x9 Af Av) r1 Ab x9 Af Aa Bl) Ah = some r) ?_ ?_
         · rintro a Do ⟨k,m,h⟩
           unfold d_spec_l15Group_J2 at h
           refine wp_region_lit (pN 3 k z fun a k=>nn ?_)
           exact ⟨w64 (Ah + 1),k.keep [1,3,5,7,8,9] z,m.sel [0,1,2] z (by decide),h⟩
         refine wp_block (c_cut (fun a w=>∃ (Ag:Item) (Aw:Nat) (Bb:World),K 58 [(1,v6),(3,.pointer (some (⟨Ac,0,none⟩:Addr))),(5,.pointer (some (⟨Ad,0,none⟩:Addr))),(7,As),(8,I Aa),(9,I Ah),(10,.pointer (some (⟨Aw,0,none⟩:Addr)))] a ∧ St [] w0 w [([Ac],Aq),([Ad],Ap),(Ao,Ar),([Aw],Bb)] ∧ bx Bb Aw [I Ag.fId,I Ag.fW,I Ag.fH,I Ag.fD,I Ag.fGram,I Ag.fClass,I Ag.fCount] 158 ∧ d_spec_l15Group_J3 fu (d_spec_l15Group_L1 fu (d_spec_l15Group_L2 fu r1 Ab x9 Af Av) r1 Ab x9 Af Aa Bl) x9 Af Aa Ah Ag = some r) ?_ ?_)
         · rintro a Dr ⟨Ag,Aw,Bb,k,m,Cq,h⟩
           unfold d_spec_l15Group_J3 at h
           refine wp_seq (d_go [] mixo m z fun Cf hMd=>?_)
           have m:=hMd
           have s:=Ext.refl ([]:List Nat) Cf
           refine dN [0,6] 2 z k (by kernel_rfl) z s (fun _ _ _ _ _=>id) fun a k=>dt k 1 z (by kernel_rfl) z s (fun _ _ _=>id) (fun w s=>r_fa fa158_5 k z z) fun a k=>dt k 2 z (by kernel_rfl) z s (fun _ _ _=>id) (fun w s=>r_ld1 t13 (r:=[]) (Cq.at ((hMd.step s).a 3 z) 5 1 z z z) k z z) fun a k=>dt k 4 z (by kernel_rfl) z s (fun _ _ _=>id) (fun w s=>r_fa fa58_0 k z z) fun a k=>dt k 5 z (by kernel_rfl) z s (fun _ _ _=>id) (fun w s=>r_ld1 t155 (r:=[]) (Ax.at ((hMd.step s).a 1 z) 0 1 z z z) k z z) fun a k=>oE h fun Dq Bf h=>dt k 7 z (by kernel_rfl) z s (fun _ _ _=>id) (fun w s=>r_ixa Ae Bf k ts55 z z z) fun a k=>dt k 8 z (by kernel_rfl) z s (fun _ _ _=>id) (fun w s=>r_fa fa83_1 k z z) fun a k=>?_
           obtain ⟨Db,Dd,Dc,Cb,Bm,Cr⟩:=rd_get Ae (ix_some Bf).2.2
           obtain ⟨Dj,_,rfl,rfl,Dh⟩:=Cb
           refine dt k 9 z (by kernel_rfl) z s (fun _ _ _=>id) (fun w s=>r_ld1 t13 ((Bm.agr ((hMd.step s).a00 (Enc.rd_lt Ae)) Cr).fld 1 1 (Nat.le_of_ble_eq_true z)) k z z) fun a k=>d_one 3 (by kernel_rfl) z (oE h fun Dg Bp h=>cE k m call169 z z z (c_spec_GroupOf fu _ _ (Enc.rd_agr (Enc.ow_rd Bc) (m.a 2 z)) Bp) fun Cs e a k m=>?_)
           have s:=s.trans e (by simp)
           refine wpList_nil ⟨s,?_⟩
           refine dN [10] 1 z k (by kernel_rfl) z s (fun _ _ _ _ _=>id) fun a k=>d_done (by kernel_rfl) ((nm_then ?_))
           refine cI h k z (fun Br h=>?_) fun Br h=>?_
           · refine wr (pN 1 k z fun a k=>nn (wp_ret (rt_block (rt_then (rt_then (rt_block (rt_block (rt_then (rt_then (rt_block (rt_then ?_)))))))))))
             refine fS h k m z z
           refine wp_skip (nm_block (nm_then ?_))
           exact ⟨k.keep [1,3,5,7,8,9] z,m.sel [0,1,2] z (by decide),h⟩
         refine d_go [] mixo m z fun Cj hMd=>?_
         have m:=hMd
         have s:=Ext.refl ([]:List Nat) Cj
         refine dN [1,4,8] 3 z k (by kernel_rfl) z s (fun _ _ _ _ _=>id) fun a k=>dt k 0 z (by kernel_rfl) z s (fun _ _ _=>id) (fun w s=>r_ldA ta38 (Bj.at ((hMd.step s).a 0 z) 0 10 z z z) z k z z) fun a k=>dt k 2 z (by kernel_rfl) z s (fun _ _ _=>id) (fun w s=>r_fa fa58_0 k z z) fun a k=>dt k 3 z (by kernel_rfl) z s (fun _ _ _=>id) (fun w s=>r_ld1 t155 (r:=[]) (Ax.at ((hMd.step s).a 1 z) 0 1 z z z) k z z) fun a k=>oE h fun Cx Ct h=>dt k 5 z (by kernel_rfl) z s (fun _ _ _=>id) (fun w s=>r_ixa Ae Bd k ts55 z z z) fun a k=>dt k 6 z (by kernel_rfl) z s (fun _ _ _=>id) (fun w s=>r_fa fa83_2 k z z) fun a k=>?_
         refine dt k 7 z (by kernel_rfl) z s (fun _ _ _=>id) (fun w s=>r_ld1 t163 ((Bi.agr ((hMd.step s).a00 (Enc.rd_lt Ae)) Bh).fld 2 1 (Nat.le_of_ble_eq_true z)) k z z) fun a k=>oE h fun Dm Be h=>dt k 9 z (by kernel_rfl) z s (fun _ _ _=>id) (fun w s=>r_ixa Ba Be k ts63 z z z) fun a k=>dt k 10 z (by kernel_rfl) z s (fun _ _ _=>id) (fun w s=>r_lde1 Ba ((hMd.step s).a00 (Enc.rd_lt Ba)) Be 0 t13 k z z z z) fun a k=>d_two 11 15 (by kernel_rfl) z z ?_ ?_ 
         · refine oE h fun Ai Bq h=>cE k m call168 z z z (c_spec_l6Item fu _ _ _ (show rd _ _ [I r1.fWay,I r1.fPallet.fW,I r1.fPallet.fD,I r1.fPallet.fH,I r1.fPallet.fGram,I r1.fClasses,Ay,At,I r1.fMaster,Az] (r1:Request) from ⟨_,_,_,_,_,_,z,z,(Enc.rd_agr Am (m.a00 (Enc.rd_lt Am))),(Enc.rd_agr Ak (m.a00 (Enc.rd_lt Ak))),(Enc.rd_agr Al (m.a00 (Enc.rd_lt Al)))⟩) (Enc.rd_agr Au (m.a00 (Enc.rd_lt Au))) Bq) fun Cu e a k m=>?_
           have s:=s.trans e (by simp)
           refine wpList_nil ⟨s,?_⟩
           refine dN [12,13,14] 3 z k (by kernel_rfl) z s (fun _ _ _ _ _=>id) fun a k=>d_one 15 (by kernel_rfl) z (s_allocN (cs:=[I 0,I 0,I 0,I 0,I 0,I 0,I 0]) m k zeroValue158 z z z z z fun Cm De a k m e Ci Bu=>?_)
           have Bt:=lo1 (Nat.le_trans s.size Bu)
           have s:=s.trans e (by simp)
           refine wpList_nil ⟨s,?_⟩
           refine d_one 16 (by kernel_rfl) z (s_stb (cs':=[I Ai.1.fId,I Ai.1.fW,I Ai.1.fH,I Ai.1.fD,I Ai.1.fGram,I Ai.1.fClass,I Ai.1.fCount]) sizeOf158 m 0 Ci 0 k z z z z z z z z z z z fun Cp a k e m Bz=>?_)
           have s:=s.trans e (fun y hy=>Or.inr (Bt y hy))
           refine wpList_nil ⟨s,?_⟩
           refine dN [17] 1 z k (by kernel_rfl) z s (fun _ _ _ _ _=>id) fun a k=>d_done (by kernel_rfl) ?_
           have k:=k.keep [1,3,5,7,8,9,10] z
           refine (nm_then ?_)
           exact ⟨Ai.1,Cm,Cp,k.keep [1,3,5,7,8,9,10] z,m.sel [1,2,3,0] z (by decide),Bz,h⟩
         refine s_allocN (cs:=[I 0,I 0,I 0,I 0,I 0,I 0,I 0]) m k zeroValue158 z z z z z fun Bs Cz a k m e Bw Cn=>?_
         have By:=lo1 (Nat.le_trans s.size Cn)
         have s:=s.trans e (by simp)
         refine wpList_nil ⟨s,?_⟩
         refine d_one 11 (by kernel_rfl) z (oE h fun Aj Ca h=>cE k m call168 z z z (c_spec_l6Item fu _ _ _ (show rd _ _ [I r1.fWay,I r1.fPallet.fW,I r1.fPallet.fD,I r1.fPallet.fH,I r1.fPallet.fGram,I r1.fClasses,Ay,At,I r1.fMaster,Az] (r1:Request) from ⟨_,_,_,_,_,_,z,z,(Enc.rd_agr Am (m.a00 (Enc.rd_lt Am))),(Enc.rd_agr Ak (m.a00 (Enc.rd_lt Ak))),(Enc.rd_agr Al (m.a00 (Enc.rd_lt Al)))⟩) (Enc.rd_agr Au (m.a00 (Enc.rd_lt Au))) Ca) fun Dx e a k m=>?_)
         have s:=s.trans e (by simp)
         refine wpList_nil ⟨s,?_⟩
         refine dN [12,13,14] 3 z k (by kernel_rfl) z s (fun _ _ _ _ _=>id) fun a k=>d_one 16 (by kernel_rfl) z (s_stb (cs':=[I Aj.1.fId,I Aj.1.fW,I Aj.1.fH,I Aj.1.fD,I Aj.1.fGram,I Aj.1.fClass,I Aj.1.fCount]) sizeOf158 m 0 Bw 0 k z z z z z z z z z z z fun Bo a k e m Ch=>?_)
         have s:=s.trans e (fun y hy=>Or.inr (By y hy))
         refine wpList_nil ⟨s,?_⟩
         refine dN [17] 1 z k (by kernel_rfl) z s (fun _ _ _ _ _=>id) fun a k=>d_done (by kernel_rfl) ?_
         have k:=k.keep [1,3,5,7,8,9,10] z
         refine (nm_then ?_)
         exact ⟨Aj.1,Bs,Bo,k.keep [1,3,5,7,8,9,10] z,m.sel [1,2,3,0] z (by decide),Ch,h⟩
       refine wp_exit (ex_then (ex_then (ex_same (nm_block (nm_then ?_)))))
       exact ⟨k.keep [1,3,5,7,8] z,m.sel [0,1,2] z (by decide),h⟩
     exact ⟨0,k.keep [1,3,5,7,8,9] z,m.sel [0,1,2] z (by decide),h⟩
   refine wp_exit (ex_then (ex_then (ex_same (nm_then ?_))))
   refine wr (pN 1 k z fun a k=>nn (wp_ret (fS h k m z z)))
 exact ⟨0,k.keep [1,3,5,7,8] z,m.sel [2,1,0] z (by decide),h⟩
theorem c_spec_Cheapest (fu:Nat) {w0:World} (r1:Request) (Ar:List Int) {Ay:List Value} {F3:List Nat} (Bi:rd w0 F3 Ay r1) {v6:Value} {F7:List Nat} (Az:rd w0 F7 [v6] Ar) {r:Typ × Bool}
    (h:d_spec_Cheapest fu r1 Ar = some r) :
    Calls Tryz.prog 204 #[.agg Ay.toArray,v6] w0 fun e w=>e = .returned (.tuple #[.agg (Flat.e r.1).toArray,.bool (r.2)]) ∧ Ext [] w0 w:=by
 refine enter (vs:=[_,_]) func204 z ntmps204 z fun a k=>?_
 have m:=St.start w0
 obtain ⟨v9,Ch,Bc,Cc,Bb,Ce,rfl,rfl,Av,Ag,Ax⟩:=Bi
 unfold d_spec_Cheapest at h
 refine wr (s_box (cs:=[I r1.fWay,I r1.fPallet.fW,I r1.fPallet.fD,I r1.fPallet.fH,I r1.fPallet.fGram,I r1.fClasses,v9,Bc,I r1.fMaster,Bb]) m k z z z z z z fun Ao Ba a k m e At=>s_alloc (cs:=[I 0,I 0,I 0,I 0,I 0,I 0,I 0]) m k zeroValue79 z z z z z fun Aq Au a k m e Bd=>pN 1 k z fun a k=>nn (wr (sv k z (r_build bt79 k (cs:=#[I 0,I 0,I 0,I 0,I 0,I 0,I 0]) (ps:=[]) z z (by kernel_rfl)) fun a k=>?_)))
 refine s_alloc (cs:=[I 0,I 0,I 0,I 0,I 0,I 0,I 0]) m k zeroValue79 z z z z z fun Ah Bz a k m e Bl=>s_stb (cs':=[I 0,I 0,I 0,I 0,I 0,I 0,I 0]) sizeOf79 m 0 Bl 0 k z z z z z z z z z z z fun Bs a k e m Bm=>nn (wr (pN 1 k z fun a k=>nn (wp_seq (wr (pN 1 k z fun a k=>nn (wp_block ?_))))))
 refine c_loop (fun n a w=>∃ (Ab:Typ) (Ai:World) (Af:Bool) (Aj:Int),K 54 [(1,v6),(2,.pointer (some (⟨Ao,0,none⟩:Addr))),(4,.pointer (some (⟨Aq,0,none⟩:Addr))),(6,.pointer (some (⟨Ah,0,none⟩:Addr))),(7,.bool (Af)),(8,I Aj)] a ∧ St [] w0 w [([Ao],Ba),([Aq],Au),([Ah],Ai)] ∧ bx Ai Ah [I Ab.fId,I Ab.fW,I Ab.fH,I Ab.fD,I Ab.fTare,I Ab.fGram,I Ab.fCost] 79 ∧ d_spec_Cheapest_L1 fu r1 Ar n Ab Af Aj = some r) ?_ ?_ fu _ _ ?_
 · rintro a w ⟨_,_,_,_,_,_,_,h⟩
   exact nS h
 · rintro Bv a Cg ⟨Ab,Ai,Af,Aj,k,m,Ad,h⟩
   rw [d_spec_Cheapest_L1_s] at h
   unfold d_spec_Cheapest_L1_B at h
   refine wp_seq (wr (pN 1 k z fun a k=>sv k z (r_fa fa38_4 k z z) fun a k=>sv k z (r_ldb t135 m 0 At 7 k z z z z z) fun a k=>sv k z (r_len (α:=Typ) Ag k underlying35 z z) fun a k=>pN 1 k z fun a k=>nn (cI h k z (fun Bj h=>?_) fun Bj h=>?_)))
   · refine wp_skip (nm_then ?_)
     refine c_cut (fun a w=>∃ (Ac:Typ) (As:World) (Ap:Bool),K 54 [(1,v6),(2,.pointer (some (⟨Ao,0,none⟩:Addr))),(4,.pointer (some (⟨Aq,0,none⟩:Addr))),(6,.pointer (some (⟨Ah,0,none⟩:Addr))),(7,.bool (Ap)),(8,I Aj)] a ∧ St [] w0 w [([Ao],Ba),([Aq],Au),([Ah],As)] ∧ bx As Ah [I Ac.fId,I Ac.fW,I Ac.fH,I Ac.fD,I Ac.fTare,I Ac.fGram,I Ac.fCost] 79 ∧ d_spec_Cheapest_J1 fu (d_spec_Cheapest_L1 fu r1 Ar Bv) Aj Ac Ap = some r) ?_ ?_
     · rintro a Bw ⟨Ac,As,Ap,k,m,Bg,h⟩
       unfold d_spec_Cheapest_J1 at h
       refine wp_region_lit (pN 3 k z fun a k=>nn ?_)
       exact ⟨Ac,As,Ap,w64 (Aj + 1),k.keep [1,2,4,6,7,8] z,m.sel [0,1,2] z (by decide),Bg,h⟩
     refine wp_block (wr (sv k z (r_fa fa38_4 k z z) fun a k=>sv k z (r_ldb t135 m 0 At 7 k z z z z z) fun a k=>pN 1 k z fun a k=>oE h fun Aa Aw h=>sv k z (r_ixa Ag Aw k ts35 z z z) fun a k=>sv k z (r_lde Ag (m.a00 (Enc.rd_lt Ag)) Aw ta79 k z z) fun a k=>s_alloc (cs:=[I 0,I 0,I 0,I 0,I 0,I 0,I 0]) m k zeroValue79 z z z z z fun Bx Cd a k m e Bh=>s_stb (cs':=[I Aa.fId,I Aa.fW,I Aa.fH,I Aa.fD,I Aa.fTare,I Aa.fGram,I Aa.fCost]) sizeOf79 m 0 Bh 0 k z z z z z z z z z z z fun By a k e m Ae=>nn (wp_seq (wr ?_))))
     refine sv k z (r_ldB ta38 m 1 At 0 k z z z z z z) fun a k=>pN 1 k z fun a k=>sv k z (r_ldB ta79 m 0 Ae 0 k z z z z z z) fun a k=>oE h fun Cf Bp h=>cE k m call212 z z z (c_spec_Holds fu _ _ (Aa:Typ) (show rd _ _ [I r1.fWay,I r1.fPallet.fW,I r1.fPallet.fD,I r1.fPallet.fH,I r1.fPallet.fGram,I r1.fClasses,v9,Bc,I r1.fMaster,Bb] (r1:Request) from ⟨_,_,_,_,_,_,z,z,(Enc.rd_agr Av (m.a00 (Enc.rd_lt Av))),(Enc.rd_agr Ag (m.a00 (Enc.rd_lt Ag))),(Enc.rd_agr Ax (m.a00 (Enc.rd_lt Ax)))⟩) (Enc.rd_agr Az (m.a00 (Enc.rd_lt Az))) Bp) fun Ca e a k m=>pN 1 k z fun a k=>nn (cI h k z (fun Be h=>?_) fun Be h=>?_)
     · refine wp_exit (ex_then (ex_same (nm_then ?_)))
       exact ⟨Ab,Ai,Af,k.keep [1,2,4,6,7,8] z,m.sel [1,2,3] z (by decide),Ad,h⟩
     refine wp_skip (nm_then ?_)
     refine wr (pN 3 k z fun a k=>bsplit (!Af) (fun Al=>?_) (fun Al=>?_))
     · have h:=bif_t Al h
       refine rB k 30 z Al fun k=>pN 20 k z fun a k=>?_
       have k:=k.keep [1,2,4,6,7,8,9,50] z
       refine nn (wp_cond_true (k.ev z) (wr (sv k z (r_ldB ta79 m 0 Ae 0 k z z z z z z) fun a k=>s_stb (cs':=[I Aa.fId,I Aa.fW,I Aa.fH,I Aa.fD,I Aa.fTare,I Aa.fGram,I Aa.fCost]) sizeOf79 m 3 Ad 0 k z z z z z z z z z z z fun Bt a k e m Bk=>nn (wp_region_lit (pN 1 k z fun a k=>wpList_nil (nm_block (nm_then ?_)))))))
       exact ⟨Aa,Bt,true,k.keep [1,2,4,6,7,8] z,m.sel [1,2,3] z (by decide),Bk,h⟩
     have h:=bif_f Al h
     refine rB k 30 z Al fun k=>sv k z (r_fa fa79_6 k z z) fun a k=>sv k z (r_ldb t13 m 0 Ae 6 k z z z z z) fun a k=>sv k z (r_fa fa79_6 k z z) fun a k=>sv k z (r_ldb t13 m 3 Ad 6 k z z z z z) fun a k=>pN 3 k z fun a k=>bsplit (decide (Aa.fCost < Ab.fCost)) (fun Ak=>?_) (fun Ak=>?_)
     · have h:=bif_t Ak h
       refine rB k 37 z Ak fun k=>pN 13 k z fun a k=>?_
       have k:=k.keep [1,2,4,6,7,8,9,50] z
       refine nn (wp_cond_true (k.ev z) (wr (sv k z (r_ldB ta79 m 0 Ae 0 k z z z z z z) fun a k=>s_stb (cs':=[I Aa.fId,I Aa.fW,I Aa.fH,I Aa.fD,I Aa.fTare,I Aa.fGram,I Aa.fCost]) sizeOf79 m 3 Ad 0 k z z z z z z z z z z z fun Bq a k e m Bf=>nn (wp_region_lit (pN 1 k z fun a k=>wpList_nil (nm_block (nm_then ?_)))))))
       exact ⟨Aa,Bq,true,k.keep [1,2,4,6,7,8] z,m.sel [1,2,3] z (by decide),Bf,h⟩
     have h:=bif_f Ak h
     refine rB k 37 z Ak fun k=>sv k z (r_fa fa79_6 k z z) fun a k=>sv k z (r_ldb t13 m 0 Ae 6 k z z z z z) fun a k=>sv k z (r_fa fa79_6 k z z) fun a k=>sv k z (r_ldb t13 m 3 Ad 6 k z z z z z) fun a k=>pN 2 k z fun a k=>bsplit (Aa.fCost == Ab.fCost) (fun Am=>?_) (fun Am=>?_)
     · have h:=bif_t Am h
       refine rB k 43 z Am fun k=>sv k z (r_fa fa79_0 k z z) fun a k=>sv k z (r_ldb t13 m 0 Ae 0 k z z z z z) fun a k=>sv k z (r_fa fa79_0 k z z) fun a k=>sv k z (r_ldb t13 m 3 Ad 0 k z z z z z) fun a k=>pN 3 k z fun a k=>?_
       have k:=k.keep [1,2,4,6,7,8,9,50] z
       refine nn (cI h k z (fun Bo h=>?_) fun Bo h=>?_)
       · refine wr (sv k z (r_ldB ta79 m 0 Ae 0 k z z z z z z) fun a k=>s_stb (cs':=[I Aa.fId,I Aa.fW,I Aa.fH,I Aa.fD,I Aa.fTare,I Aa.fGram,I Aa.fCost]) sizeOf79 m 3 Ad 0 k z z z z z z z z z z z fun Br a k e m Bu=>nn (wp_region_lit (pN 1 k z fun a k=>wpList_nil (nm_block (nm_then ?_)))))
         exact ⟨Aa,Br,true,k.keep [1,2,4,6,7,8] z,m.sel [1,2,3] z (by decide),Bu,h⟩
       refine wp_skip (nm_block (nm_then ?_))
       exact ⟨Ab,Ai,Af,k.keep [1,2,4,6,7,8] z,m.sel [1,2,3] z (by decide),Ad,h⟩
     have h:=bif_f Am h
     refine rB k 43 z Am fun k=>pN 7 k z fun a k=>?_
     have k:=k.keep [1,2,4,6,7,8,9,50] z
     refine nn (wp_cond_false (k.ev z) (wp_skip (nm_block (nm_then ?_))))
     exact ⟨Ab,Ai,Af,k.keep [1,2,4,6,7,8] z,m.sel [1,2,3] z (by decide),Ad,h⟩
   refine wp_exit (ex_then (ex_then (ex_same (nm_then ?_))))
   refine wr (sv k z (r_ldB ta79 m 2 Ad 0 k z z z z z z) fun a k=>pN 1 k z fun a k=>s_stb (cs':=[I Ab.fId,I Ab.fW,I Ab.fH,I Ab.fD,I Ab.fTare,I Ab.fGram,I Ab.fCost]) sizeOf79 m 1 Bd 0 k z z z z z z z z z z z fun Cb a k e m Bn=>pN 1 k z fun a k=>nn (wp_ret ?_))
   cases h
   exact finR2 k z (RV.cA k z ta79 (Bn.at (m.a 1 z) 0 7 z z z) z) (RV.tmp k z) ⟨z,m.ext⟩
 exact ⟨(⟨0,0,0,0,0,0,0⟩:Typ),Bs,false,0,k.keep [1,2,4,6,7,8] z,m.sel [2,1,0] z (by decide),Bm,h⟩

end Go.Proofs.YtkkfmjpbiimkbaaGreat
