/- FnExactFeasible: the walks of functions that it reaches (ExactFeasibleBWs,part 2). Printed by gen.py. -/
import Derived.Test.YtkkfmjpbiimkbaaGreatExactFeasibleBWs1
set_option maxRecDepth 20000
set_option linter.unusedSimpArgs false
set_option linter.unusedVariables false
namespace Go.Proofs.YtkkfmjpbiimkbaaGreat
open Go Go.RowKit
open Enc (rd ow)
open Arg (argv)
open Ret (retv)
open Go.Proofs.Tryz

theorem c_spec_l13Carton (fu:Nat) {w0:World} (x1:Carton) {Aj:List Value} {F3:List Nat} (Av:rd w0 F3 Aj x1) {r:Bool}
    (h:d_spec_l13Carton fu x1 = some r) :
    Calls Tryz.prog 210 #[.agg Aj.toArray] w0 fun e w=>e = .returned (.bool (r)) ∧ Ext [] w0 w:=by
 refine enter (vs:=[_]) func210 z ntmps210 z fun a k=>?_
 have m:=St.start w0
 obtain ⟨v5,_,rfl,rfl,Aa⟩:=Av
 unfold d_spec_l13Carton at h
 refine wr (s_box (cs:=[I x1.fType,I x1.fGroup,v5]) m k z z z z z z fun b7 w9 a k m e Ab=>pN 1 k z fun a k=>nn (c_cut (fun a w=>K 52 [(1,.pointer (some (⟨b7,0,none⟩:Addr)))] a ∧ St [] w0 w [([b7],w9)] ∧ d_spec_l13Carton_J2 fu x1 = some r) ?_ ?_))
 · rintro a Ay ⟨k,m,h⟩
   unfold d_spec_l13Carton_J2 at h
   refine wp_seq (wr (pN 1 k z fun a k=>nn (wp_block (c_loop (fun n a w=>∃ (Ac:Int),K 52 [(1,.pointer (some (⟨b7,0,none⟩:Addr))),(3,I Ac)] a ∧ St [] w0 w [([b7],w9)] ∧ d_spec_l13Carton_L1 fu x1 n Ac = some r) ?_ ?_ fu _ _ ?_))))
   · rintro a w ⟨_,_,_,h⟩
     exact nS h
   · rintro Ao a Bb ⟨Ac,k,m,h⟩
     rw [d_spec_l13Carton_L1_s] at h
     unfold d_spec_l13Carton_L1_B at h
     refine wp_seq (wr (pN 1 k z fun a k=>sv k z (r_fa fa83_2 k z z) fun a k=>sv k z (r_ldb t163 m 0 Ab 2 k z z z z z) fun a k=>sv k z (r_len (α:=Int) Aa k underlying63 z z) fun a k=>pN 1 k z fun a k=>nn (cI h k z (fun Au h=>?_) fun Au h=>?_)))
     · refine wp_skip (nm_then ?_)
       refine c_cut (fun a w=>K 52 [(1,.pointer (some (⟨b7,0,none⟩:Addr))),(3,I Ac)] a ∧ St [] w0 w [([b7],w9)] ∧ d_spec_l13Carton_J1 fu (d_spec_l13Carton_L1 fu x1 Ao) Ac = some r) ?_ ?_
       · rintro a Bf ⟨k,m,h⟩
         unfold d_spec_l13Carton_J1 at h
         refine wp_region_lit (pN 3 k z fun a k=>nn ?_)
         exact ⟨w64 (Ac + 1),k.keep [1,3] z,m.sel [0] z (by decide),h⟩
       refine wp_block (wp_seq (d_go [] mixo m z fun Ak hMd=>?_))
       have m:=hMd
       have s:=Ext.refl ([]:List Nat) Ak
       refine dN [2] 1 z k (by kernel_rfl) z s (fun _ _ _ _ _=>id) fun a k=>dt k 0 z (by kernel_rfl) z s (fun _ _ _=>id) (fun w s=>r_fa fa83_2 k z z) fun a k=>dt k 1 z (by kernel_rfl) z s (fun _ _ _=>id) (fun w s=>r_ld1 t163 (r:=[]) (Ab.at ((hMd.step s).a 0 z) 2 1 z z z) k z z) fun a k=>oE h fun Be Ah h=>dt k 3 z (by kernel_rfl) z s (fun _ _ _=>id) (fun w s=>r_ixa Aa Ah k ts63 z z z) fun a k=>dt k 4 z (by kernel_rfl) z s (fun _ _ _=>id) (fun w s=>r_lde1 Aa ((hMd.step s).a00 (Enc.rd_lt Aa)) Ah 0 t13 k z z z z) fun a k=>d_one 5 (by kernel_rfl) z (oE h fun Ar At h=>cE k m call130 z z z (c_spec_l1In fu _ _ _  At) fun Az e a k m=>?_)
       have s:=s.trans e (by simp)
       refine wpList_nil ⟨s,?_⟩
       refine dN [6,7] 2 z k (by kernel_rfl) z s (fun _ _ _ _ _=>id) fun a k=>bsplit (!Ar) (fun Ad=>?_) (fun Ad=>?_)
       · have h:=bif_t Ad h
         refine rB k 34 z Ad fun k=>dN [8,9,10,11,12,13,14,15,16,17,18,19,20,21,22,23,24] 17 z k (by kernel_rfl) z s (fun _ _ _ _ _=>id) fun a k=>d_done (by kernel_rfl) ?_
         have k:=k.keep [1,3,51] z
         refine (nm_then ?_)
         refine wp_cond_true (k.ev z) (wr (pN 1 k z fun a k=>nn (wp_ret (rt_block (rt_then (rt_then (rt_block (rt_then ?_))))))))
         refine fS h k m z z
       have h:=bif_f Ad h
       refine rB k 34 z Ad fun k=>dN [8,9,10] 3 z k (by kernel_rfl) z s (fun _ _ _ _ _=>id) fun a k=>bsplit (decide (Ac > 0)) (fun Ag=>?_) (fun Ag=>?_)
       · have h:=bif_t Ag h
         refine rB k 37 z Ag fun k=>dN [13,18,19] 3 z k (by kernel_rfl) z s (fun _ _ _ _ _=>id) fun a k=>dt k 11 z (by kernel_rfl) z s (fun _ _ _=>id) (fun w s=>r_fa fa83_2 k z z) fun a k=>dt k 12 z (by kernel_rfl) z s (fun _ _ _=>id) (fun w s=>r_ld1 t163 (r:=[]) (Ab.at ((hMd.step s).a 0 z) 2 1 z z z) k z z) fun a k=>oE h fun Bc Bg h=>dt k 14 z (by kernel_rfl) z s (fun _ _ _=>id) (fun w s=>r_ixa Aa Ah k ts63 z z z) fun a k=>dt k 15 z (by kernel_rfl) z s (fun _ _ _=>id) (fun w s=>r_lde1 Aa ((hMd.step s).a00 (Enc.rd_lt Aa)) Ah 0 t13 k z z z z) fun a k=>dt k 16 z (by kernel_rfl) z s (fun _ _ _=>id) (fun w s=>r_fa fa83_2 k z z) fun a k=>?_
         refine dt k 17 z (by kernel_rfl) z s (fun _ _ _=>id) (fun w s=>r_ld1 t163 (r:=[]) (Ab.at ((hMd.step s).a 0 z) 2 1 z z z) k z z) fun a k=>oE h fun Bd Ai h=>dt k 20 z (by kernel_rfl) z s (fun _ _ _=>id) (fun w s=>r_ixa Aa Ai k ts63 z z z) fun a k=>dt k 21 z (by kernel_rfl) z s (fun _ _ _=>id) (fun w s=>r_lde1 Aa ((hMd.step s).a00 (Enc.rd_lt Aa)) Ai 0 t13 k z z z z) fun a k=>dN [22,23,24] 3 z k (by kernel_rfl) z s (fun _ _ _ _ _=>id) fun a k=>d_done (by kernel_rfl) ?_
         have k:=k.keep [1,3,51] z
         refine (nm_then ?_)
         refine cI h k z (fun Aq h=>?_) fun Aq h=>?_
         · refine wr (pN 1 k z fun a k=>nn (wp_ret (rt_block (rt_then (rt_then (rt_block (rt_then ?_)))))))
           refine fS h k m z z
         refine wp_skip (nm_block (nm_then ?_))
         exact ⟨k.keep [1,3] z,m.sel [0] z (by decide),h⟩
       have h:=bif_f Ag h
       refine rB k 37 z Ag fun k=>dN [11,12,13,14,15,16,17,18,19,20,21,22,23,24] 14 z k (by kernel_rfl) z s (fun _ _ _ _ _=>id) fun a k=>d_done (by kernel_rfl) ?_
       have k:=k.keep [1,3,51] z
       refine (nm_then ?_)
       refine wp_cond_false (k.ev z) (wp_skip (nm_block (nm_then ?_)))
       exact ⟨k.keep [1,3] z,m.sel [0] z (by decide),h⟩
     refine wp_exit (ex_then (ex_then (ex_same (nm_then ?_))))
     refine wr (pN 1 k z fun a k=>nn (wp_ret (fS h k m z z)))
   exact ⟨0,k.keep [1,3] z,m.sel [0] z (by decide),h⟩
 refine wr (sv k z (r_fa fa83_0 k z z) fun a k=>sv k z (r_ldb t13 m 0 Ab 0 k z z z z z) fun a k=>oE h fun Am Aw h=>cE k m call259 z z z (c_spec_l2Id fu _  Aw) fun Ax e a k m=>pN 2 k z fun a k=>bsplit (!Am) (fun Ae=>?_) (fun Ae=>?_))
 · have h:=bif_t Ae h
   refine rB k 8 z Ae fun k=>pN 11 k z fun a k=>nn (wp_cond_true (k.ev z) (wr (pN 1 k z fun a k=>nn (wp_ret (rt_then ?_)))))
   refine fS h k m z z
 have h:=bif_f Ae h
 refine rB k 8 z Ae fun k=>sv k z (r_fa fa83_1 k z z) fun a k=>sv k z (r_ldb t13 m 0 Ab 1 k z z z z z) fun a k=>oE h fun As Al h=>cE k m call130 z z z (c_spec_l1In fu _ _ _  Al) fun Ba e a k m=>pN 3 k z fun a k=>bsplit (!As) (fun Af=>?_) (fun Af=>?_)
 · have h:=bif_t Af h
   refine rB k 14 z Af fun k=>pN 5 k z fun a k=>nn (wp_cond_true (k.ev z) (wr (pN 1 k z fun a k=>nn (wp_ret (rt_then ?_)))))
   refine fS h k m z z
 have h:=bif_f Af h
 refine rB k 14 z Af fun k=>sv k z (r_fa fa83_2 k z z) fun a k=>sv k z (r_ldb t163 m 0 Ab 2 k z z z z z) fun a k=>sv k z (r_len (α:=Int) Aa k underlying63 z z) fun a k=>pN 2 k z fun a k=>nn (cI h k z (fun Ap h=>?_) fun Ap h=>?_)
 · refine wr (pN 1 k z fun a k=>nn (wp_ret (rt_then ?_)))
   refine fS h k m z z
 refine wp_skip (nm_then ?_)
 exact ⟨k.keep [1] z,m.sel [0] z (by decide),h⟩
theorem c_spec_PlanOk (fu:Nat) {w0:World} (x1:Plan) {As:List Value} {F3:List Nat} (Bj:rd w0 F3 As x1) {r:Bool}
    (h:d_spec_PlanOk fu x1 = some r) :
    Calls Tryz.prog 104 #[.agg As.toArray] w0 fun e w=>e = .returned (.bool (r)) ∧ Ext [] w0 w:=by
 refine enter (vs:=[_]) func104 z ntmps104 z fun a k=>?_
 have m:=St.start w0
 obtain ⟨v5,F6,v7,F8,rfl,rfl,Ab,Aj⟩:=Bj
 unfold d_spec_PlanOk at h
 refine wr (s_box (cs:=[v5,v7]) m k z z z z z z fun Ac Am a k m e Aa=>pN 1 k z fun a k=>nn (c_cut (fun a w=>K 61 [(1,.pointer (some (⟨Ac,0,none⟩:Addr)))] a ∧ St [] w0 w [([Ac],Am)] ∧ d_spec_PlanOk_J2 fu x1 = some r) ?_ ?_))
 · rintro a Bu ⟨k,m,h⟩
   unfold d_spec_PlanOk_J2 at h
   refine wp_seq (wr (pN 1 k z fun a k=>nn (wp_block (c_loop (fun n a w=>∃ (Ad:Int),K 61 [(1,.pointer (some (⟨Ac,0,none⟩:Addr))),(3,I Ad)] a ∧ St [] w0 w [([Ac],Am)] ∧ d_spec_PlanOk_L1 fu x1 n Ad = some r) ?_ ?_ fu _ _ ?_))))
   · rintro a w ⟨_,_,_,h⟩
     exact nS h
   · rintro Bg a Bw ⟨Ad,k,m,h⟩
     rw [d_spec_PlanOk_L1_s] at h
     unfold d_spec_PlanOk_L1_B at h
     refine wp_seq (wr (pN 1 k z fun a k=>sv k z (r_fa fa58_0 k z z) fun a k=>sv k z (r_ldb t155 m 0 Aa 0 k z z z z z) fun a k=>sv k z (r_len (α:=Carton) Ab k underlying55 z z) fun a k=>pN 1 k z fun a k=>nn (cI h k z (fun Ay h=>?_) fun Ay h=>?_)))
     · refine wp_skip (nm_then ?_)
       refine c_cut (fun a w=>K 61 [(1,.pointer (some (⟨Ac,0,none⟩:Addr))),(3,I Ad)] a ∧ St [] w0 w [([Ac],Am)] ∧ d_spec_PlanOk_J1 fu (d_spec_PlanOk_L1 fu x1 Bg) Ad = some r) ?_ ?_
       · rintro a Bp ⟨k,m,h⟩
         unfold d_spec_PlanOk_J1 at h
         refine wp_region_lit (pN 3 k z fun a k=>nn ?_)
         exact ⟨w64 (Ad + 1),k.keep [1,3] z,m.sel [0] z (by decide),h⟩
       refine wp_block (wr (sv k z (r_fa fa58_1 k z z) fun a k=>sv k z (r_ldb t156 m 0 Aa 1 k z z z z z) fun a k=>pN 1 k z fun a k=>oE h fun Al Aq h=>sv k z (r_ixa Aj Aq k ts56 z z z) fun a k=>sv k z (r_lde Aj (m.a00 (Enc.rd_lt Aj)) Aq ta89 k z z) fun a k=>s_alloc (cs:=[I 0,I 0,I 0,I 0]) m k zeroValue89 z z z z z fun Bx Bz a k m e Au=>s_stb (cs':=[I Al.fPallet,I Al.fX,I Al.fY,I Al.fZ]) sizeOf89 m 0 Au 0 k z z z z z z z z z z z fun Bn a k e m Ak=>nn (wr (sv k z (r_fa fa58_0 k z z) fun a k=>sv k z (r_ldb t155 m 1 Aa 0 k z z z z z) fun a k=>pN 1 k z fun a k=>oE h fun Ao Ap h=>?_))))
       refine sv k z (r_ixa Ab Ap k ts55 z z z) fun a k=>?_
       obtain ⟨Br,Bo,Ca,Bi,Av,Be⟩:=rd_get Ab (ix_some Ap).2.2
       obtain ⟨Bf,_,rfl,rfl,Ar⟩:=Bi
       refine sv k z (r_ldA ta83 (Av.agr (m.a00 (Enc.rd_lt Ab)) Be) z k z z) fun a k=>oE h fun Bl Bc h=>cE k m call210 z z z (c_spec_l13Carton fu _ (show rd _ _ [I Ao.fType,I Ao.fGroup,Bf] (Ao:Carton) from ⟨_,_,z,z,(Enc.rd_agr Ar (m.a00 (Enc.rd_lt Ar)))⟩) Bc) fun By e a k m=>pN 2 k z fun a k=>bsplit (!Bl) (fun Ai=>?_) (fun Ai=>?_)
       · have h:=bif_t Ai h
         refine rB k 37 z Ai fun k=>pN 23 k z fun a k=>?_
         have k:=k.keep [1,3,60] z
         refine nn (wp_cond_true (k.ev z) (wr (pN 1 k z fun a k=>nn (wp_ret (rt_block (rt_then (rt_then (rt_block (rt_then ?_)))))))))
         refine fS h k m z z
       have h:=bif_f Ai h
       refine rB k 37 z Ai fun k=>sv k z (r_fa fa89_0 k z z) fun a k=>sv k z (r_ldb t13 m 0 Ak 0 k z z z z z) fun a k=>oE h fun Bk At h=>cE k m call130 z z z (c_spec_l1In fu _ _ _  At) fun Bm e a k m=>pN 3 k z fun a k=>bsplit (!Bk) (fun Ae=>?_) (fun Ae=>?_)
       · have h:=bif_t Ae h
         refine rB k 43 z Ae fun k=>pN 17 k z fun a k=>?_
         have k:=k.keep [1,3,60] z
         refine nn (wp_cond_true (k.ev z) (wr (pN 1 k z fun a k=>nn (wp_ret (rt_block (rt_then (rt_then (rt_block (rt_then ?_)))))))))
         refine fS h k m z z
       have h:=bif_f Ae h
       refine rB k 43 z Ae fun k=>sv k z (r_fa fa89_1 k z z) fun a k=>sv k z (r_ldb t13 m 0 Ak 1 k z z z z z) fun a k=>oE h fun Ba Bd h=>cE k m call130 z z z (c_spec_l1In fu _ _ _  Bd) fun Bq e a k m=>pN 3 k z fun a k=>bsplit (!Ba) (fun Af=>?_) (fun Af=>?_)
       · have h:=bif_t Af h
         refine rB k 49 z Af fun k=>pN 11 k z fun a k=>?_
         have k:=k.keep [1,3,60] z
         refine nn (wp_cond_true (k.ev z) (wr (pN 1 k z fun a k=>nn (wp_ret (rt_block (rt_then (rt_then (rt_block (rt_then ?_)))))))))
         refine fS h k m z z
       have h:=bif_f Af h
       refine rB k 49 z Af fun k=>sv k z (r_fa fa89_2 k z z) fun a k=>sv k z (r_ldb t13 m 0 Ak 2 k z z z z z) fun a k=>oE h fun Aw Az h=>cE k m call130 z z z (c_spec_l1In fu _ _ _  Az) fun Bv e a k m=>pN 3 k z fun a k=>bsplit (!Aw) (fun Ah=>?_) (fun Ah=>?_)
       · have h:=bif_t Ah h
         refine rB k 55 z Ah fun k=>pN 5 k z fun a k=>?_
         have k:=k.keep [1,3,60] z
         refine nn (wp_cond_true (k.ev z) (wr (pN 1 k z fun a k=>nn (wp_ret (rt_block (rt_then (rt_then (rt_block (rt_then ?_)))))))))
         refine fS h k m z z
       have h:=bif_f Ah h
       refine rB k 55 z Ah fun k=>sv k z (r_fa fa89_3 k z z) fun a k=>sv k z (r_ldb t13 m 0 Ak 3 k z z z z z) fun a k=>oE h fun Bs Bb h=>cE k m call130 z z z (c_spec_l1In fu _ _ _  Bb) fun Bt e a k m=>pN 2 k z fun a k=>?_
       have k:=k.keep [1,3,60] z
       refine nn (cI h k z (fun Bh h=>?_) fun Bh h=>?_)
       · refine wr (pN 1 k z fun a k=>nn (wp_ret (rt_block (rt_then (rt_then (rt_block (rt_then ?_)))))))
         refine fS h k m z z
       refine wp_skip (nm_block (nm_then ?_))
       exact ⟨k.keep [1,3] z,m.sel [1] z (by decide),h⟩
     refine wp_exit (ex_then (ex_then (ex_same (nm_then ?_))))
     refine wr (pN 1 k z fun a k=>nn (wp_ret (fS h k m z z)))
   exact ⟨0,k.keep [1,3] z,m.sel [0] z (by decide),h⟩
 refine wr (sv k z (r_fa fa58_0 k z z) fun a k=>sv k z (r_ldb t155 m 0 Aa 0 k z z z z z) fun a k=>sv k z (r_len (α:=Carton) Ab k underlying55 z z) fun a k=>sv k z (r_fa fa58_1 k z z) fun a k=>sv k z (r_ldb t156 m 0 Aa 1 k z z z z z) fun a k=>sv k z (r_len (α:=Spot) Aj k underlying56 z z) fun a k=>pN 2 k z fun a k=>bsplit (((x1.fCartons.length:Int)) != ((x1.fSpots.length:Int))) (fun Ag=>?_) (fun Ag=>?_))
 · have h:=bif_t Ag h
   refine rB k 12 z Ag fun k=>pN 5 k z fun a k=>nn (wp_cond_true (k.ev z) (wr (pN 1 k z fun a k=>nn (wp_ret (rt_then ?_)))))
   refine fS h k m z z
 have h:=bif_f Ag h
 refine rB k 12 z Ag fun k=>sv k z (r_fa fa58_0 k z z) fun a k=>sv k z (r_ldb t155 m 0 Aa 0 k z z z z z) fun a k=>sv k z (r_len (α:=Carton) Ab k underlying55 z z) fun a k=>pN 2 k z fun a k=>nn (cI h k z (fun Ax h=>?_) fun Ax h=>?_)
 · refine wr (pN 1 k z fun a k=>nn (wp_ret (rt_then ?_)))
   refine fS h k m z z
 refine wp_skip (nm_then ?_)
 exact ⟨k.keep [1] z,m.sel [0] z (by decide),h⟩
theorem c_spec_l15Empty (fu:Nat) {w0:World} (x1:Plan) {Ae:List Value} {F3:List Nat} (Am:rd w0 F3 Ae x1) {r:Bool}
    (h:d_spec_l15Empty fu x1 = some r) :
    Calls Tryz.prog 105 #[.agg Ae.toArray] w0 fun e w=>e = .returned (.bool (r)) ∧ Ext [] w0 w:=by
 refine enter (vs:=[_]) func105 z ntmps105 z fun a k=>?_
 have m:=St.start w0
 obtain ⟨v5,F6,v7,F8,rfl,rfl,Aa,Ar⟩:=Am
 unfold d_spec_l15Empty at h
 refine wr (s_box (cs:=[v5,v7]) m k z z z z z z fun Ad Ag a k m e Af=>pN 1 k z fun a k=>nn (wp_seq (wr (pN 1 k z fun a k=>nn (wp_block (c_loop (fun n a w=>∃ (Ab:Int),K 19 [(1,.pointer (some (⟨Ad,0,none⟩:Addr))),(3,I Ab)] a ∧ St [] w0 w [([Ad],Ag)] ∧ d_spec_l15Empty_L1 fu x1 n Ab = some r) ?_ ?_ fu _ _ ?_))))))
 · rintro a w ⟨_,_,_,h⟩
   exact nS h
 · rintro As a Au ⟨Ab,k,m,h⟩
   rw [d_spec_l15Empty_L1_s] at h
   unfold d_spec_l15Empty_L1_B at h
   refine wp_seq (wr (pN 1 k z fun a k=>sv k z (r_fa fa58_0 k z z) fun a k=>sv k z (r_ldb t155 m 0 Af 0 k z z z z z) fun a k=>sv k z (r_len (α:=Carton) Aa k underlying55 z z) fun a k=>pN 1 k z fun a k=>nn (cI h k z (fun Aj h=>?_) fun Aj h=>?_)))
   · refine wp_skip (nm_then ?_)
     refine wp_seq (wp_block (wr (sv k z (r_fa fa58_0 k z z) fun a k=>sv k z (r_ldb t155 m 0 Af 0 k z z z z z) fun a k=>pN 1 k z fun a k=>oE h fun Av Ac h=>sv k z (r_ixa Aa Ac k ts55 z z z) fun a k=>sv k z (r_fa fa83_2 k z z) fun a k=>?_)))
     obtain ⟨Aw,Aq,Ap,Al,Ao,Ah⟩:=rd_get Aa (ix_some Ac).2.2
     obtain ⟨At,_,rfl,rfl,Ak⟩:=Al
     refine sv k z (r_ld1 t163 ((Ao.agr (m.a00 (Enc.rd_lt Aa)) Ah).fld 2 1 (Nat.le_of_ble_eq_true z)) k z z) fun a k=>sv k z (r_len (α:=Int) Ak k underlying63 z z) fun a k=>pN 1 k z fun a k=>nn (cI h k z (fun Ai h=>?_) fun Ai h=>?_)
     · refine wr (pN 1 k z fun a k=>nn (wp_ret (rt_block (rt_then (rt_then (rt_block (rt_then ?_)))))))
       refine fS h k m z z
     refine wp_skip (nm_block (nm_then ?_))
     refine wp_region_lit (pN 3 k z fun a k=>nn ?_)
     exact ⟨w64 (Ab + 1),k.keep [1,3] z,m.sel [0] z (by decide),h⟩
   refine wp_exit (ex_then (ex_then (ex_same (nm_then ?_))))
   refine wr (pN 1 k z fun a k=>nn (wp_ret (fS h k m z z)))
 exact ⟨0,k.keep [1,3] z,m.sel [0] z (by decide),h⟩
theorem c_spec_l6Units (fu:Nat) {w0:World} (r1:Request) {At:List Value} {F3:List Nat} (Bg:rd w0 F3 At r1) {r:(List Int)}
    (h:d_spec_l6Units fu r1 = some r) :
    Calls Tryz.prog 90 #[.agg At.toArray] w0 fun e w=>∃ (v0:Value) (G0:List Nat),e = .returned (v0) ∧ Ext [] w0 w ∧ ow w G0 [v0] r ∧ (∀ b ∈ G0,w0.heap.size ≤ b):=by
 refine enter (vs:=[_]) func90 z ntmps90 z fun a k=>?_
 have m:=St.start w0
 obtain ⟨v5,F6,v7,F8,v9,Bk,rfl,rfl,Bq,Bm,Al⟩:=Bg
 unfold d_spec_l6Units at h
 refine wr (s_box (cs:=[I r1.fWay,I r1.fPallet.fW,I r1.fPallet.fD,I r1.fPallet.fH,I r1.fPallet.fGram,I r1.fClasses,v5,v7,I r1.fMaster,v9]) m k z z z z z z fun Ah Ar a k m e Aq=>pN 1 k z fun a k=>nn (wr (s_bs (cs:=[]) (ps:=[]) te63 m k z z z z z z z (by decide) z (by exact (List.forall_mem_nil _)) fun Ap Bi Bl a k m e Bc=>?_)))
 have Av:=ow_bx Bc ([]:List Int) z z z
 refine pN 1 k z fun a k=>nn (wp_seq (wr (pN 1 k z fun a k=>nn (wp_block (c_loop (fun n a w=>∃ (Ae:List Int) (Af:Value) (Ab:List Nat) (Aj:World) (Aa:Int),K 29 [(1,.pointer (some (⟨Ah,0,none⟩:Addr))),(3,Af),(4,I Aa)] a ∧ St [] w0 w [([Ah],Ar),(Ab,Aj)] ∧ ow Aj Ab [Af] Ae ∧ d_spec_l6Units_L2 fu r1 n Ae Aa = some r) ?_ ?_ fu _ _ ?_)))))
 · rintro a w ⟨_,_,_,_,_,_,_,_,h⟩
   exact nS h
 · rintro Ba a Bp ⟨Ae,Af,Ab,Aj,Aa,k,m,Ao,h⟩
   rw [d_spec_l6Units_L2_s] at h
   unfold d_spec_l6Units_L2_B at h
   refine wp_seq (wr (pN 1 k z fun a k=>sv k z (r_fa fa38_6 k z z) fun a k=>sv k z (r_ldb t136 m 0 Aq 9 k z z z z z) fun a k=>sv k z (r_len (α:=Item) Al k underlying36 z z) fun a k=>pN 1 k z fun a k=>nn (cI h k z (fun Au h=>?_) fun Au h=>?_)))
   · refine wp_skip (nm_then ?_)
     refine wp_seq (wp_block (wr (pN 1 k z fun a k=>nn (wp_block (c_loop (fun n a w=>∃ (Ag:List Int) (Ac:Value) (Ad:List Nat) (Ai:World) (Ak:Int),K 29 [(1,.pointer (some (⟨Ah,0,none⟩:Addr))),(3,Ac),(4,I Aa),(5,I Ak)] a ∧ St [] w0 w [([Ah],Ar),(Ad,Ai)] ∧ ow Ai Ad [Ac] Ag ∧ d_spec_l6Units_L1 fu (d_spec_l6Units_L2 fu r1 Ba) r1 Aa n Ag Ak = some r) ?_ ?_ fu _ _ ?_)))))
     · rintro a w ⟨_,_,_,_,_,_,_,_,h⟩
       exact nS h
     · rintro Br a Bj ⟨Ag,Ac,Ad,Ai,Ak,k,m,As,h⟩
       rw [d_spec_l6Units_L1_s] at h
       unfold d_spec_l6Units_L1_B at h
       refine wp_seq (wr (pN 1 k z fun a k=>sv k z (r_fa fa38_6 k z z) fun a k=>sv k z (r_ldb t136 m 0 Aq 9 k z z z z z) fun a k=>pN 1 k z fun a k=>oE h fun Bo Am h=>sv k z (r_ixa Al Am k ts36 z z z) fun a k=>sv k z (r_fa fa158_6 k z z) fun a k=>sv k z (r_lde1 Al (m.a00 (Enc.rd_lt Al)) Am 6 t13 k z z z z) fun a k=>pN 1 k z fun a k=>nn (cI h k z (fun Aw h=>?_) fun Aw h=>?_)))
       · refine wp_skip (nm_then ?_)
         refine wp_seq (wp_block (wp_region_lit (pN 2 k z fun a k=>s_bs (cs:=[I Aa]) (ps:=[(0,.tmp 25)]) te63 m k z z z z z z z (by decide) z (by exact (List.forall_mem_cons.2 ⟨z,(List.forall_mem_nil _)⟩)) fun Bs Bn Bt a k m e Az=>?_)))
         have Ay:=ow_bx Az ([Aa]:List Int) z z z
         refine oE h fun Bb Be h=>s_appF Be te63 z m 2 As (News.rd (Enc.rd_agr (Enc.ow_rd Ay) (m.a 0 z))) z z k z z z z z z z fun Bd Ax Bf a k e m Bh=>pN 1 k z fun a k=>wpList_nil (nm_block (nm_then ?_))
         refine wp_region_lit (pN 3 k z fun a k=>nn ?_)
         exact ⟨Bb,Bd,Ax,Bf,w64 (Ak + 1),k.keep [1,3,4,5] z,m.sel [1,2] z (by decide),Bh,h⟩
       refine wp_exit (ex_then (ex_then (ex_same (nm_block (nm_then ?_)))))
       refine wp_region_lit (pN 3 k z fun a k=>nn ?_)
       exact ⟨Ag,Ac,Ad,Ai,w64 (Aa + 1),k.keep [1,3,4] z,m.sel [0,1] z (by decide),As,h⟩
     exact ⟨Ae,Af,Ab,Aj,0,k.keep [1,3,4,5] z,m.sel [0,1] z (by decide),Ao,h⟩
   refine wp_exit (ex_then (ex_then (ex_same (nm_then ?_))))
   refine wr (pN 2 k z fun a k=>nn (wp_ret ?_))
   cases h
   exact finR1 k z (RV.tmp k z) ⟨_,Ab,z,m.ext,(Enc.ow_agr Ao (m.a 1 z)),(m.fresh 1 z)⟩
 exact ⟨([]:List Int),(.slice (some ⟨Ap,0,none⟩) 0 0),[Ap],Bi,0,k.keep [1,3,4] z,m.sel [1,0] z (by decide),Av,h⟩
theorem c_spec_l15Flat (fu:Nat) {w0:World} (x1:Plan) {Al:List Value} {F3:List Nat} (Bb:rd w0 F3 Al x1) {r:(List Int)}
    (h:d_spec_l15Flat fu x1 = some r) :
    Calls Tryz.prog 211 #[.agg Al.toArray] w0 fun e w=>∃ (v0:Value) (G0:List Nat),e = .returned (v0) ∧ Ext [] w0 w ∧ ow w G0 [v0] r ∧ (∀ b ∈ G0,w0.heap.size ≤ b):=by
 refine enter (vs:=[_]) func211 z ntmps211 z fun a k=>?_
 have m:=St.start w0
 obtain ⟨v5,F6,v7,F8,rfl,rfl,Ac,Bf⟩:=Bb
 unfold d_spec_l15Flat at h
 refine wr (s_box (cs:=[v5,v7]) m k z z z z z z fun Ai At a k m e Am=>pN 1 k z fun a k=>nn (wr (s_bs (cs:=[]) (ps:=[]) te63 m k z z z z z z z (by decide) z (by exact (List.forall_mem_nil _)) fun Ak Ao Be a k m e Ax=>?_)))
 have Az:=ow_bx Ax ([]:List Int) z z z
 refine pN 1 k z fun a k=>nn (wp_seq (wr (pN 1 k z fun a k=>nn (wp_block (c_loop (fun n a w=>∃ (Ad:List Int) (Ae:Value) (Ab:List Nat) (Af:World) (Aa:Int),K 22 [(1,.pointer (some (⟨Ai,0,none⟩:Addr))),(3,Ae),(4,I Aa)] a ∧ St [] w0 w [([Ai],At),(Ab,Af)] ∧ ow Af Ab [Ae] Ad ∧ d_spec_l15Flat_L1 fu x1 n Ad Aa = some r) ?_ ?_ fu _ _ ?_)))))
 · rintro a w ⟨_,_,_,_,_,_,_,_,h⟩
   exact nS h
 · rintro Bh a Bi ⟨Ad,Ae,Ab,Af,Aa,k,m,Ah,h⟩
   rw [d_spec_l15Flat_L1_s] at h
   unfold d_spec_l15Flat_L1_B at h
   refine wp_seq (wr (pN 1 k z fun a k=>sv k z (r_fa fa58_0 k z z) fun a k=>sv k z (r_ldb t155 m 0 Am 0 k z z z z z) fun a k=>sv k z (r_len (α:=Carton) Ac k underlying55 z z) fun a k=>pN 1 k z fun a k=>nn (cI h k z (fun Aq h=>?_) fun Aq h=>?_)))
   · refine wp_skip (nm_then ?_)
     refine wp_seq (wp_block (wp_region_lit (pN 1 k z fun a k=>sv k z (r_fa fa58_0 k z z) fun a k=>sv k z (r_ldb t155 m 0 Am 0 k z z z z z) fun a k=>pN 1 k z fun a k=>oE h fun Bl Ag h=>sv k z (r_ixa Ac Ag k ts55 z z z) fun a k=>sv k z (r_fa fa83_2 k z z) fun a k=>?_)))
     obtain ⟨Bj,Bg,Bk,Bc,As,Aw⟩:=rd_get Ac (ix_some Ag).2.2
     obtain ⟨Bd,_,rfl,rfl,Aj⟩:=Bc
     refine sv k z (r_ld1 t163 ((As.agr (m.a00 (Enc.rd_lt Ac)) Aw).fld 2 1 (Nat.le_of_ble_eq_true z)) k z z) fun a k=>oE h fun Ar Au h=>s_appF Au te63 z m 1 Ah (News.rd (Enc.rd_agr Aj (m.a00 (Enc.rd_lt Aj)))) z z k z z z z z z z fun Av Ap Ba a k e m Ay=>pN 1 k z fun a k=>wpList_nil (nm_block (nm_then ?_))
     refine wp_region_lit (pN 3 k z fun a k=>nn ?_)
     exact ⟨Ar,Av,Ap,Ba,w64 (Aa + 1),k.keep [1,3,4] z,m.sel [0,1] z (by decide),Ay,h⟩
   refine wp_exit (ex_then (ex_then (ex_same (nm_then ?_))))
   refine wr (pN 2 k z fun a k=>nn (wp_ret ?_))
   cases h
   exact finR1 k z (RV.tmp k z) ⟨_,Ab,z,m.ext,(Enc.ow_agr Ah (m.a 1 z)),(m.fresh 1 z)⟩
 exact ⟨([]:List Int),(.slice (some ⟨Ak,0,none⟩) 0 0),[Ak],Ao,0,k.keep [1,3,4] z,m.sel [1,0] z (by decide),Az,h⟩
theorem c_spec_l1Bit (fu:Nat) {w0:World} (Aa:Bool)  {r:Int}
    (h:d_spec_l1Bit fu Aa = some r) :
    Calls Tryz.prog 100 #[.bool (Aa)] w0 fun e w=>e = .returned (I r) ∧ Ext [] w0 w:=by
 refine enter (vs:=[_]) func100 z ntmps100 z fun a k=>?_
 have m:=St.start w0
 unfold d_spec_l1Bit at h
 refine wr (pN 1 k z fun a k=>nn (wp_seq (wr (pN 1 k z fun a k=>nn (cI h k z (fun Ab h=>?_) fun Ab h=>?_)))))
 · refine wr (pN 1 k z fun a k=>nn (wp_ret (rt_then ?_)))
   refine fS h k m z z
 refine wp_skip (nm_then ?_)
 refine wr (pN 1 k z fun a k=>nn (wp_ret (fS h k m z z)))
theorem c_spec_l8Times (fu:Nat) {w0:World} (Ad:List Int) (x5:Int) {v2:Value} {F3:List Nat} (Ab:rd w0 F3 [v2] Ad) {r:Int}
    (h:d_spec_l8Times fu Ad x5 = some r) :
    Calls Tryz.prog 129 #[v2,I x5] w0 fun e w=>e = .returned (I r) ∧ Ext [] w0 w:=by
 refine enter (vs:=[_,_]) func129 z ntmps129 z fun a k=>?_
 have m:=St.start w0
 unfold d_spec_l8Times at h
 refine wr (pN 1 k z fun a k=>nn (wr (pN 1 k z fun a k=>nn (wp_seq (wr (pN 1 k z fun a k=>nn (wp_block (c_loop (fun n a w=>∃ (Aa:Int) (Ac:Int),K 23 [(0,v2),(1,I x5),(5,I Aa),(6,I Ac)] a ∧ St [] w0 w [] ∧ d_spec_l8Times_L1 fu Ad x5 n Aa Ac = some r) ?_ ?_ fu _ _ ?_))))))))
 · rintro a w ⟨_,_,_,_,h⟩
   exact nS h
 · rintro Al a Aj ⟨Aa,Ac,k,m,h⟩
   rw [d_spec_l8Times_L1_s] at h
   unfold d_spec_l8Times_L1_B at h
   refine wp_seq (wr (pN 2 k z fun a k=>sv k z (r_len (α:=Int) Ab k underlying63 z z) fun a k=>pN 1 k z fun a k=>nn (cI h k z (fun Ah h=>?_) fun Ah h=>?_)))
   · refine wp_skip (nm_then ?_)
     refine wp_seq (wp_block (wp_region_lit (pN 3 k z fun a k=>oE h fun Ak Ae h=>sv k z (r_ixa Ab Ae k ts63 z z z) fun a k=>sv k z (r_lde1 Ab (m.a00 (Enc.rd_lt Ab)) Ae 0 t13 k z z z z) fun a k=>pN 2 k z fun a k=>oE h fun Af Ag h=>cE k m call100 z z z (c_spec_l1Bit fu _  Ag) fun Ai e a k m=>pN 2 k z fun a k=>wpList_nil (nm_block (nm_then ?_)))))
     refine wp_region_lit (pN 3 k z fun a k=>nn ?_)
     exact ⟨w64 (Aa + Af),w64 (Ac + 1),k.keep [0,1,5,6] z,m.sel [] z (by decide),h⟩
   refine wp_exit (ex_then (ex_then (ex_same (nm_then ?_))))
   refine wr (pN 2 k z fun a k=>nn (wp_ret (fS h k m z z)))
 exact ⟨0,0,k.keep [0,1,5,6] z,m.sel [] z (by decide),h⟩
theorem c_spec_l15Units (fu:Nat) {w0:World} (Ac:List Int) (x5:Plan) {v2:Value} {F3:List Nat} (Ah:rd w0 F3 [v2] Ac) {Af:List Value} {F7:List Nat} (Ap:rd w0 F7 Af x5) {r:Bool}
    (h:d_spec_l15Units fu Ac x5 = some r) :
    Calls Tryz.prog 106 #[v2,.agg Af.toArray] w0 fun e w=>e = .returned (.bool (r)) ∧ Ext [] w0 w:=by
 refine enter (vs:=[_,_]) func106 z ntmps106 z fun a k=>?_
 have m:=St.start w0
 obtain ⟨v9,Av,Ai,Bd,rfl,rfl,Ag,Ae⟩:=Ap
 unfold d_spec_l15Units at h
 refine wr (s_box (cs:=[v9,Ai]) m k z z z z z z fun Bb Ay a k m e Ao=>pN 1 k z fun a k=>nn (wr (sv k z (r_ldB ta58 m 0 Ao 0 k z z z z z z) fun a k=>oE h fun Ak Aj h=>s_call k call211 z z z z z (c_spec_l15Flat fu _ (show rd _ _ [v9,Ai] (x5:Plan) from ⟨_,_,_,_,z,z,(Enc.rd_agr Ag (m.a00 (Enc.rd_lt Ag))),(Enc.rd_agr Ae (m.a00 (Enc.rd_lt Ae)))⟩) Aj) fun Ax Al hR=>?_)))
 obtain ⟨At,Ad,rfl,e,Ab,Au⟩:=hR
 refine ⟨_,z,fun a k=>?_⟩
 have m:=m.new e Ad (fun b hb=>⟨Au b hb,Enc.rd_lt (Enc.ow_rd Ab) b hb⟩) (Enc.ow_nd Ab)
 refine pN 1 k z fun a k=>nn (wp_seq (wr (pN 1 k z fun a k=>sv k z (r_len (α:=Int) (Enc.ow_rd Ab) k underlying63 z z) fun a k=>pN 1 k z fun a k=>sv k z (r_len (α:=Int) Ah k underlying63 z z) fun a k=>pN 1 k z fun a k=>nn (cI h k z (fun Aq h=>?_) fun Aq h=>?_))))
 · refine wr (pN 1 k z fun a k=>nn (wp_ret (rt_then ?_)))
   refine fS h k m z z
 refine wp_skip (nm_then ?_)
 refine wp_seq (wr (pN 1 k z fun a k=>nn (wp_block (c_loop (fun n a w=>∃ (Aa:Int),K 24 [(0,v2),(5,At),(6,I Aa)] a ∧ St [] w0 w [(Ad,Al)] ∧ d_spec_l15Units_L1 fu Ac Ak n Aa = some r) ?_ ?_ fu _ _ ?_))))
 · rintro a w ⟨_,_,_,h⟩
   exact nS h
 · rintro Aw a Bc ⟨Aa,k,m,h⟩
   rw [d_spec_l15Units_L1_s] at h
   unfold d_spec_l15Units_L1_B at h
   refine wp_seq (wr (pN 2 k z fun a k=>sv k z (r_len (α:=Int) Ah k underlying63 z z) fun a k=>pN 1 k z fun a k=>nn (cI h k z (fun Am h=>?_) fun Am h=>?_)))
   · refine wp_skip (nm_then ?_)
     refine wp_seq (wp_block (wr (pN 2 k z fun a k=>oE h fun Ba As h=>cE k m call129 z z z (c_spec_l8Times fu _ _ (Enc.rd_agr (Enc.ow_rd Ab) (m.a 0 z)) As) fun Az e a k m=>pN 1 k z fun a k=>nn (cI h k z (fun Ar h=>?_) fun Ar h=>?_))))
     · refine wr (pN 1 k z fun a k=>nn (wp_ret (rt_block (rt_then (rt_then (rt_block (rt_then ?_)))))))
       refine fS h k m z z
     refine wp_skip (nm_block (nm_then ?_))
     refine wp_region_lit (pN 3 k z fun a k=>nn ?_)
     exact ⟨w64 (Aa + 1),k.keep [0,5,6] z,m.sel [0] z (by decide),h⟩
   refine wp_exit (ex_then (ex_then (ex_same (nm_then ?_))))
   refine wr (pN 1 k z fun a k=>nn (wp_ret (fS h k m z z)))
 exact ⟨0,k.keep [0,5,6] z,m.sel [0] z (by decide),h⟩
theorem c_spec_TypeById (fu:Nat) {w0:World} (r1:Request) (Ae:Int) {Aj:List Value} {F3:List Nat} (As:rd w0 F3 Aj r1) {r:Typ × Bool}
    (h:d_spec_TypeById fu r1 Ae = some r) :
    Calls Tryz.prog 184 #[.agg Aj.toArray,I Ae] w0 fun e w=>e = .returned (.tuple #[.agg (Flat.e r.1).toArray,.bool (r.2)]) ∧ Ext [] w0 w:=by
 refine enter (vs:=[_,_]) func184 z ntmps184 z fun a k=>?_
 have m:=St.start w0
 obtain ⟨v6,F7,v8,F9,Ao,Ba,rfl,rfl,At,Ab,Ax⟩:=As
 unfold d_spec_TypeById at h
 refine wr (s_box (cs:=[I r1.fWay,I r1.fPallet.fW,I r1.fPallet.fD,I r1.fPallet.fH,I r1.fPallet.fGram,I r1.fClasses,v6,v8,I r1.fMaster,Ao]) m k z z z z z z fun Ah Al a k m e Af=>s_alloc (cs:=[I 0,I 0,I 0,I 0,I 0,I 0,I 0]) m k zeroValue79 z z z z z fun Ag Ar a k m e Ai=>pN 1 k z fun a k=>nn (wp_seq (wr (pN 1 k z fun a k=>nn (wp_block (c_loop (fun n a w=>∃ (Ad:Int),K 28 [(1,I Ae),(2,.pointer (some (⟨Ah,0,none⟩:Addr))),(4,.pointer (some (⟨Ag,0,none⟩:Addr))),(6,I Ad)] a ∧ St [] w0 w [([Ah],Al),([Ag],Ar)] ∧ d_spec_TypeById_L1 fu r1 Ae n Ad = some r) ?_ ?_ fu _ _ ?_))))))
 · rintro a w ⟨_,_,_,h⟩
   exact nS h
 · rintro Az a Aw ⟨Ad,k,m,h⟩
   rw [d_spec_TypeById_L1_s] at h
   unfold d_spec_TypeById_L1_B at h
   refine wp_seq (wr (pN 1 k z fun a k=>sv k z (r_fa fa38_4 k z z) fun a k=>sv k z (r_ldb t135 m 0 Af 7 k z z z z z) fun a k=>sv k z (r_len (α:=Typ) Ab k underlying35 z z) fun a k=>pN 1 k z fun a k=>nn (cI h k z (fun Aq h=>?_) fun Aq h=>?_)))
   · refine wp_skip (nm_then ?_)
     refine wp_seq (wp_block (wr (sv k z (r_fa fa38_4 k z z) fun a k=>sv k z (r_ldb t135 m 0 Af 7 k z z z z z) fun a k=>pN 1 k z fun a k=>oE h fun Aa Ac h=>sv k z (r_ixa Ab Ac k ts35 z z z) fun a k=>sv k z (r_fa fa79_0 k z z) fun a k=>sv k z (r_lde1 Ab (m.a00 (Enc.rd_lt Ab)) Ac 0 t13 k z z z z) fun a k=>pN 2 k z fun a k=>nn (cI h k z (fun Am h=>?_) fun Am h=>?_))))
     · refine wr (sv k z (r_fa fa38_4 k z z) fun a k=>sv k z (r_ldb t135 m 0 Af 7 k z z z z z) fun a k=>pN 1 k z fun a k=>oE h fun Av Ay h=>sv k z (r_ixa Ab Ac k ts35 z z z) fun a k=>sv k z (r_lde Ab (m.a00 (Enc.rd_lt Ab)) Ac ta79 k z z) fun a k=>s_stb (cs':=[I Aa.fId,I Aa.fW,I Aa.fH,I Aa.fD,I Aa.fTare,I Aa.fGram,I Aa.fCost]) sizeOf79 m 1 Ai 0 k z z z z z z z z z z z fun Au a k e m Ap=>pN 1 k z fun a k=>nn (wp_ret (rt_block (rt_then (rt_then (rt_block (rt_then ?_)))))))
       cases h
       exact finR2 k z (RV.cA k z ta79 (Ap.at (m.a 1 z) 0 7 z z z) z) (RV.tmp k z) ⟨z,m.ext⟩
     refine wp_skip (nm_block (nm_then ?_))
     refine wp_region_lit (pN 3 k z fun a k=>nn ?_)
     exact ⟨w64 (Ad + 1),k.keep [1,2,4,6] z,m.sel [0,1] z (by decide),h⟩
   refine wp_exit (ex_then (ex_then (ex_same (nm_then ?_))))
   refine wr (sv k z (r_build bt79 k (cs:=#[I 0,I 0,I 0,I 0,I 0,I 0,I 0]) (ps:=[]) z z (by kernel_rfl)) fun a k=>s_stb (cs':=[I 0,I 0,I 0,I 0,I 0,I 0,I 0]) sizeOf79 m 1 Ai 0 k z z z z z z z z z z z fun Bb a k e m Ak=>pN 1 k z fun a k=>nn (wp_ret ?_))
   cases h
   exact finR2 k z (RV.cA k z ta79 (Ak.at (m.a 1 z) 0 7 z z z) z) (RV.tmp k z) ⟨z,m.ext⟩
 exact ⟨0,k.keep [1,2,4,6] z,m.sel [1,0] z (by decide),h⟩
theorem c_spec_l6Item (fu:Nat) {w0:World} (r1:Request) (Af:List Int) (u9:Int) {Ag:List Value} {F3:List Nat} (Ar:rd w0 F3 Ag r1) {v6:Value} {F7:List Nat} (Ab:rd w0 F7 [v6] Af) {r:Item × Bool}
    (h:d_spec_l6Item fu r1 Af u9 = some r) :
    Calls Tryz.prog 168 #[.agg Ag.toArray,v6,I u9] w0 fun e w=>e = .returned (.tuple #[.agg (Flat.e r.1).toArray,.bool (r.2)]) ∧ Ext [] w0 w:=by
 refine enter (vs:=[_,_,_]) func168 z ntmps168 z fun a k=>?_
 have m:=St.start w0
 obtain ⟨Al,Bg,Am,Bc,Ak,Aw,rfl,rfl,Bb,Bf,Ac⟩:=Ar
 unfold d_spec_l6Item at h
 refine wr (s_box (cs:=[I r1.fWay,I r1.fPallet.fW,I r1.fPallet.fD,I r1.fPallet.fH,I r1.fPallet.fGram,I r1.fClasses,Al,Am,I r1.fMaster,Ak]) m k z z z z z z fun Ax Az a k m e Aj=>s_alloc (cs:=[I 0,I 0,I 0,I 0,I 0,I 0,I 0]) m k zeroValue158 z z z z z fun Ai Be a k m e Ae=>pN 1 k z fun a k=>nn (wp_seq (wr (pN 2 k z fun a k=>sv k z (r_len (α:=Int) Ab k underlying63 z z) fun a k=>pN 1 k z fun a k=>oE h fun Au At h=>cE k m call130 z z z (c_spec_l1In fu _ _ _  At) fun Bd e a k m=>pN 1 k z fun a k=>nn (cI h k z (fun Ao h=>?_) fun Ao h=>?_)))))
 · refine wr (sv k z (r_build bt158 k (cs:=#[I 0,I 0,I 0,I 0,I 0,I 0,I 0]) (ps:=[]) z z (by kernel_rfl)) fun a k=>s_stb (cs':=[I 0,I 0,I 0,I 0,I 0,I 0,I 0]) sizeOf158 m 0 Ae 0 k z z z z z z z z z z z fun Ba a k e m Ap=>pN 1 k z fun a k=>nn (wp_ret (rt_then ?_)))
   cases h
   exact finR2 k z (RV.cA k z ta158 (Ap.at (m.a 0 z) 0 7 z z z) z) (RV.tmp k z) ⟨z,m.ext⟩
 refine wp_skip (nm_then ?_)
 refine wp_seq (d_go ([Ai]) mixo m z fun As hMd=>?_)
 have m:=hMd
 have s:=Ext.refl (([Ai]):List Nat) As
 refine dN [2,3] 2 z k (by kernel_rfl) z s (fun _ _ _ _ _=>id) fun a k=>dt k 0 z (by kernel_rfl) z s (fun _ _ _=>id) (fun w s=>r_fa fa38_6 k z z) fun a k=>dt k 1 z (by kernel_rfl) z s (fun _ _ _=>id) (fun w s=>r_ld1 t136 (r:=[]) (Aj.at (hMd.az 1 0 z z z s) 9 1 z z z) k z z) fun a k=>oE h fun Av Ad h=>dt k 4 z (by kernel_rfl) z s (fun _ _ _=>id) (fun w s=>r_ixa Ab Ad k ts63 z z z) fun a k=>dt k 5 z (by kernel_rfl) z s (fun _ _ _=>id) (fun w s=>r_lde1 Ab (hMd.az0 0 z z (Enc.rd_lt Ab) s) Ad 0 t13 k z z z z) fun a k=>oE h fun Aa Ah h=>dt k 6 z (by kernel_rfl) z s (fun _ _ _=>id) (fun w s=>r_ixa Ac Ah k ts36 z z z) fun a k=>?_
 refine dt k 7 z (by kernel_rfl) z s (fun _ _ _=>id) (fun w s=>r_lde Ac (hMd.az0 0 z z (Enc.rd_lt Ac) s) Ah ta158 k z z) fun a k=>d_one 8 (by kernel_rfl) z (s_stb (cs':=[I Aa.fId,I Aa.fW,I Aa.fH,I Aa.fD,I Aa.fGram,I Aa.fClass,I Aa.fCount]) sizeOf158 m 0 Ae 0 k z z z z z z z z z z z fun Ay a k e m Aq=>?_)
 have s:=s.trans e (fun y hy=>Or.inl hy)
 refine wpList_nil ⟨s,?_⟩
 refine dN [9] 1 z k (by kernel_rfl) z s (fun _ _ _ _ _=>id) fun a k=>d_done (by kernel_rfl) ((nm_then ?_))
 refine wp_ret ?_
 cases h
 exact finR2 k z (RV.cA k z ta158 (Aq.at (m.a 0 z) 0 7 z z z) z) (RV.tmp k z) ⟨z,m.ext⟩
theorem c_spec_Volume (fu:Nat) {w0:World} (Ac:Int) (h2:Int) (d3:Int)  {r:Int}
    (h:d_spec_Volume fu Ac h2 d3 = some r) :
    Calls Tryz.prog 186 #[I Ac,I h2,I d3] w0 fun e w=>e = .returned (I r) ∧ Ext [] w0 w:=by
 refine enter (vs:=[_,_,_]) func186 z ntmps186 z fun a k=>?_
 have m:=St.start w0
 unfold d_spec_Volume at h
 refine wr (pN 1 k z fun a k=>nn (c_cut (fun a w=>K 25 [(0,I Ac),(1,I h2),(2,I d3)] a ∧ St [] w0 w [] ∧ d_spec_Volume_J1 fu Ac h2 d3 = some r) ?_ ?_))
 · rintro a Ak ⟨k,m,h⟩
   unfold d_spec_Volume_J1 at h
   refine wr (pN 6 k z fun a k=>nn (wp_ret (fS h k m z z)))
 refine wr (pN 1 k z fun a k=>oE h fun Ah Af h=>cE k m call130 z z z (c_spec_l1In fu _ _ _  Af) fun Am e a k m=>pN 2 k z fun a k=>bsplit (!Ah) (fun Aa=>?_) (fun Aa=>?_))
 · have h:=bif_t Aa h
   refine rB k 10 z Aa fun k=>pN 9 k z fun a k=>nn (wp_cond_true (k.ev z) (wr (pN 1 k z fun a k=>nn (wp_ret (rt_then ?_)))))
   refine fS h k m z z
 have h:=bif_f Aa h
 refine rB k 10 z Aa fun k=>pN 1 k z fun a k=>oE h fun Ad Ag h=>cE k m call130 z z z (c_spec_l1In fu _ _ _  Ag) fun Ao e a k m=>pN 3 k z fun a k=>bsplit (!Ad) (fun Ab=>?_) (fun Ab=>?_)
 · have h:=bif_t Ab h
   refine rB k 15 z Ab fun k=>pN 4 k z fun a k=>nn (wp_cond_true (k.ev z) (wr (pN 1 k z fun a k=>nn (wp_ret (rt_then ?_)))))
   refine fS h k m z z
 have h:=bif_f Ab h
 refine rB k 15 z Ab fun k=>pN 1 k z fun a k=>oE h fun Al Ae h=>cE k m call130 z z z (c_spec_l1In fu _ _ _  Ae) fun Aj e a k m=>pN 2 k z fun a k=>nn (cI h k z (fun Ai h=>?_) fun Ai h=>?_)
 · refine wr (pN 1 k z fun a k=>nn (wp_ret (rt_then ?_)))
   refine fS h k m z z
 refine wp_skip (nm_then ?_)
 exact ⟨k.keep [0,1,2] z,m.sel [] z (by decide),h⟩
theorem c_spec_l7Of (fu:Nat) {w0:World} (r1:Request) (Aj:List Int) (Ak:List Int) {Bj:List Value} {F3:List Nat} (Bq:rd w0 F3 Bj r1) {v6:Value} {F7:List Nat} (Av:rd w0 F7 [v6] Aj) {Am:Value} {Br:List Nat} (As:rd w0 Br [Am] Ak) {r:L7}
    (h:d_spec_l7Of fu r1 Aj Ak = some r) :
    Calls Tryz.prog 254 #[.agg Bj.toArray,v6,Am] w0 fun e w=>e = .returned (.agg (Flat.e r).toArray) ∧ Ext [] w0 w:=by
 refine enter (vs:=[_,_,_]) func254 z ntmps254 z fun a k=>?_
 have m:=St.start w0
 obtain ⟨Bc,Cw,Ay,De,Az,Cq,rfl,rfl,Ar,Au,At⟩:=Bq
 unfold d_spec_l7Of at h
 refine wr (s_box (cs:=[I r1.fWay,I r1.fPallet.fW,I r1.fPallet.fD,I r1.fPallet.fH,I r1.fPallet.fGram,I r1.fClasses,Bc,Ay,I r1.fMaster,Az]) m k z z z z z z fun Ah Be a k m e Ck=>s_alloc (cs:=[I 0,I 0]) m k zeroValue224 z z z z z fun Ag Bb a k m e Bl=>nn (wr (sv k z (r_build bt224 k (cs:=#[I 0,I 0]) (ps:=[]) z z (by kernel_rfl)) fun a k=>s_alloc (cs:=[I 0,I 0]) m k zeroValue224 z z z z z fun Ac Ct a k m e Bn=>s_stb (cs':=[I 0,I 0]) sizeOf224 m 0 Bn 0 k z z z z z z z z z z z fun Cc a k e m Cb=>nn (wp_seq (wr (pN 1 k z fun a k=>nn (wp_block ?_)))))))
 refine c_loop (fun n a w=>∃ (Aa:L7) (Ap:World) (Af:Int),K 46 [(1,v6),(2,Am),(3,.pointer (some (⟨Ah,0,none⟩:Addr))),(6,.pointer (some (⟨Ag,0,none⟩:Addr))),(7,.pointer (some (⟨Ac,0,none⟩:Addr))),(8,I Af)] a ∧ St [] w0 w [([Ah],Be),([Ag],Bb),([Ac],Ap)] ∧ bx Ap Ac [I Aa.fvol,I Aa.fgram] 224 ∧ d_spec_l7Of_L1 fu r1 Aj Ak n Aa Af = some r) ?_ ?_ fu _ _ ?_
 · rintro a w ⟨_,_,_,_,_,_,h⟩
   exact nS h
 · rintro Bh a Cs ⟨Aa,Ap,Af,k,m,Ao,h⟩
   rw [d_spec_l7Of_L1_s] at h
   unfold d_spec_l7Of_L1_B at h
   refine wp_seq (wr (pN 2 k z fun a k=>sv k z (r_len (α:=Int) As k underlying63 z z) fun a k=>pN 1 k z fun a k=>nn (cI h k z (fun Bz h=>?_) fun Bz h=>?_)))
   · refine wp_skip (nm_then ?_)
     refine c_cut (fun a w=>∃ (Al:L7) (Aw:World),K 46 [(1,v6),(2,Am),(3,.pointer (some (⟨Ah,0,none⟩:Addr))),(6,.pointer (some (⟨Ag,0,none⟩:Addr))),(7,.pointer (some (⟨Ac,0,none⟩:Addr))),(8,I Af)] a ∧ St [] w0 w [([Ah],Be),([Ag],Bb),([Ac],Aw)] ∧ bx Aw Ac [I Al.fvol,I Al.fgram] 224 ∧ d_spec_l7Of_J1 fu (d_spec_l7Of_L1 fu r1 Aj Ak Bh) Af Al = some r) ?_ ?_
     · rintro a Db ⟨Al,Aw,k,m,Ce,h⟩
       unfold d_spec_l7Of_J1 at h
       refine wp_region_lit (pN 3 k z fun a k=>nn ?_)
       exact ⟨Al,Aw,w64 (Af + 1),k.keep [1,2,3,6,7,8] z,m.sel [0,1,2] z (by decide),Ce,h⟩
     refine wp_block (c_cut (fun a w=>∃ (Ab:Item) (Aq:Nat) (Ba:World),K 46 [(1,v6),(2,Am),(3,.pointer (some (⟨Ah,0,none⟩:Addr))),(6,.pointer (some (⟨Ag,0,none⟩:Addr))),(7,.pointer (some (⟨Ac,0,none⟩:Addr))),(8,I Af),(9,.pointer (some (⟨Aq,0,none⟩:Addr)))] a ∧ St [] w0 w [([Ah],Be),([Ag],Bb),([Ac],Ap),([Aq],Ba)] ∧ bx Ba Aq [I Ab.fId,I Ab.fW,I Ab.fH,I Ab.fD,I Ab.fGram,I Ab.fClass,I Ab.fCount] 158 ∧ d_spec_l7Of_J2 fu (d_spec_l7Of_L1 fu r1 Aj Ak Bh) Aa Af Ab = some r) ?_ ?_)
     · rintro a Cz ⟨Ab,Aq,Ba,k,m,Ai,h⟩
       unfold d_spec_l7Of_J2 at h
       refine wp_seq (d_go ([Ac]) mixo m z fun Bx hMd=>?_)
       have m:=hMd
       have s:=Ext.refl (([Ac]):List Nat) Bx
       refine dt k 0 z (by kernel_rfl) z s (fun _ _ _=>id) (fun w s=>r_fa fa224_0 k z z) fun a k=>dt k 2 z (by kernel_rfl) z s (fun _ _ _=>id) (fun w s=>r_fa fa158_1 k z z) fun a k=>dt k 3 z (by kernel_rfl) z s (fun _ _ _=>id) (fun w s=>r_ld1 t13 (r:=[]) (Ai.at (hMd.az 3 2 z z z s) 1 1 z z z) k z z) fun a k=>dt k 4 z (by kernel_rfl) z s (fun _ _ _=>id) (fun w s=>r_fa fa158_2 k z z) fun a k=>dt k 5 z (by kernel_rfl) z s (fun _ _ _=>id) (fun w s=>r_ld1 t13 (r:=[]) (Ai.at (hMd.az 3 2 z z z s) 2 1 z z z) k z z) fun a k=>dt k 6 z (by kernel_rfl) z s (fun _ _ _=>id) (fun w s=>r_fa fa158_3 k z z) fun a k=>?_
       refine dt k 7 z (by kernel_rfl) z s (fun _ _ _=>id) (fun w s=>r_ld1 t13 (r:=[]) (Ai.at (hMd.az 3 2 z z z s) 3 1 z z z) k z z) fun a k=>d_two 1 8 (by kernel_rfl) z z ?_ ?_ 
       · refine sv k z (r_ldb t13 m 2 Ao 0 k z z z z z) fun a k=>wpList_nil ⟨s,?_⟩
         refine d_one 8 (by kernel_rfl) z (oE h fun Ax By h=>cE k m call186 z z z (c_spec_Volume fu _ _ _  By) fun Cv e a k m=>?_)
         have s:=s.trans e (by simp)
         refine wpList_nil ⟨s,?_⟩
         refine dN [9] 1 z k (by kernel_rfl) z s (fun _ _ _ _ _=>id) fun a k=>dt k 10 z (by kernel_rfl) z s (fun _ _ _=>id) (fun w s=>r_fa fa224_0 k z z) fun a k=>d_one 11 (by kernel_rfl) z (s_stb (cs':=[I (w64 (Aa.fvol + Ax)),I Aa.fgram]) sizeOf3 m 2 Ao 0 k z z z z z z z z z z z fun Df a k e m Bi=>?_)
         have s:=s.trans e (fun y hy=>Or.inl hy)
         refine wpList_nil ⟨s,?_⟩
         refine d_done (by kernel_rfl) ((nm_then ?_))
         refine wp_region_lit (sv k z (r_fa fa224_1 k z z) fun a k=>sv k z (r_ldb t13 m 2 Bi 1 k z z z z z) fun a k=>sv k z (r_fa fa158_4 k z z) fun a k=>sv k z (r_ldb t13 m 3 Ai 4 k z z z z z) fun a k=>pN 1 k z fun a k=>sv k z (r_fa fa224_1 k z z) fun a k=>s_stb (cs':=[I (w64 (Aa.fvol + Ax)),I (w64 (Aa.fgram + Ab.fGram))]) sizeOf3 m 2 Bi 1 k z z z z z z z z z z z fun Ca a k e m Bs=>wpList_nil (nm_block (nm_then ?_)))
         exact ⟨(⟨w64 (Aa.fvol + Ax),w64 (Aa.fgram + Ab.fGram)⟩:L7),Ca,k.keep [1,2,3,6,7,8] z,m.sel [0,1,2] z (by decide),Bs,h⟩
       refine oE h fun Bd Cp h=>cE k m call186 z z z (c_spec_Volume fu _ _ _  Cp) fun Da e a k m=>?_
       have s:=s.trans e (by simp)
       refine wpList_nil ⟨s,?_⟩
       refine d_one 1 (by kernel_rfl) z (sv k z (r_ldb t13 m 2 Ao 0 k z z z z z) fun a k=>wpList_nil ⟨s,?_⟩)
       refine dN [9] 1 z k (by kernel_rfl) z s (fun _ _ _ _ _=>id) fun a k=>dt k 10 z (by kernel_rfl) z s (fun _ _ _=>id) (fun w s=>r_fa fa224_0 k z z) fun a k=>d_one 11 (by kernel_rfl) z (s_stb (cs':=[I (w64 (Aa.fvol + Bd)),I Aa.fgram]) sizeOf3 m 2 Ao 0 k z z z z z z z z z z z fun Cr a k e m Bg=>?_)
       have s:=s.trans e (fun y hy=>Or.inl hy)
       refine wpList_nil ⟨s,?_⟩
       refine d_done (by kernel_rfl) ((nm_then ?_))
       refine wp_region_lit (sv k z (r_fa fa224_1 k z z) fun a k=>sv k z (r_ldb t13 m 2 Bg 1 k z z z z z) fun a k=>sv k z (r_fa fa158_4 k z z) fun a k=>sv k z (r_ldb t13 m 3 Ai 4 k z z z z z) fun a k=>pN 1 k z fun a k=>sv k z (r_fa fa224_1 k z z) fun a k=>s_stb (cs':=[I (w64 (Aa.fvol + Bd)),I (w64 (Aa.fgram + Ab.fGram))]) sizeOf3 m 2 Bg 1 k z z z z z z z z z z z fun Cl a k e m Bv=>wpList_nil (nm_block (nm_then ?_)))
       exact ⟨(⟨w64 (Aa.fvol + Bd),w64 (Aa.fgram + Ab.fGram)⟩:L7),Cl,k.keep [1,2,3,6,7,8] z,m.sel [0,1,2] z (by decide),Bv,h⟩
     refine d_go [] mixo m z fun Cf hMd=>?_
     have m:=hMd
     have s:=Ext.refl ([]:List Nat) Cf
     refine dN [1,2,3] 3 z k (by kernel_rfl) z s (fun _ _ _ _ _=>id) fun a k=>dt k 0 z (by kernel_rfl) z s (fun _ _ _=>id) (fun w s=>r_ldA ta38 (Ck.at ((hMd.step s).a 0 z) 0 10 z z z) z k z z) fun a k=>oE h fun Dg Bf h=>dt k 4 z (by kernel_rfl) z s (fun _ _ _=>id) (fun w s=>r_ixa As Bf k ts63 z z z) fun a k=>dt k 5 z (by kernel_rfl) z s (fun _ _ _=>id) (fun w s=>r_lde1 As ((hMd.step s).a00 (Enc.rd_lt As)) Bf 0 t13 k z z z z) fun a k=>d_two 6 10 (by kernel_rfl) z z ?_ ?_ 
     · refine oE h fun Ad Cm h=>cE k m call168 z z z (c_spec_l6Item fu _ _ _ (show rd _ _ [I r1.fWay,I r1.fPallet.fW,I r1.fPallet.fD,I r1.fPallet.fH,I r1.fPallet.fGram,I r1.fClasses,Bc,Ay,I r1.fMaster,Az] (r1:Request) from ⟨_,_,_,_,_,_,z,z,(Enc.rd_agr Ar (m.a00 (Enc.rd_lt Ar))),(Enc.rd_agr Au (m.a00 (Enc.rd_lt Au))),(Enc.rd_agr At (m.a00 (Enc.rd_lt At)))⟩) (Enc.rd_agr Av (m.a00 (Enc.rd_lt Av))) Cm) fun Cx e a k m=>?_
       have s:=s.trans e (by simp)
       refine wpList_nil ⟨s,?_⟩
       refine dN [7,8,9] 3 z k (by kernel_rfl) z s (fun _ _ _ _ _=>id) fun a k=>d_one 10 (by kernel_rfl) z (s_allocN (cs:=[I 0,I 0,I 0,I 0,I 0,I 0,I 0]) m k zeroValue158 z z z z z fun Cg Dc a k m e Ch Bo=>?_)
       have Bp:=lo1 (Nat.le_trans s.size Bo)
       have s:=s.trans e (by simp)
       refine wpList_nil ⟨s,?_⟩
       refine d_one 11 (by kernel_rfl) z (s_stb (cs':=[I Ad.1.fId,I Ad.1.fW,I Ad.1.fH,I Ad.1.fD,I Ad.1.fGram,I Ad.1.fClass,I Ad.1.fCount]) sizeOf158 m 0 Ch 0 k z z z z z z z z z z z fun Bm a k e m Cn=>?_)
       have s:=s.trans e (fun y hy=>Or.inr (Bp y hy))
       refine wpList_nil ⟨s,?_⟩
       refine dN [12] 1 z k (by kernel_rfl) z s (fun _ _ _ _ _=>id) fun a k=>d_done (by kernel_rfl) ((nm_then ?_))
       exact ⟨Ad.1,Cg,Bm,k.keep [1,2,3,6,7,8,9] z,m.sel [1,2,3,0] z (by decide),Cn,h⟩
     refine s_allocN (cs:=[I 0,I 0,I 0,I 0,I 0,I 0,I 0]) m k zeroValue158 z z z z z fun Bu Dd a k m e Cj Bk=>?_
     have Cd:=lo1 (Nat.le_trans s.size Bk)
     have s:=s.trans e (by simp)
     refine wpList_nil ⟨s,?_⟩
     refine d_one 6 (by kernel_rfl) z (oE h fun Ae Bt h=>cE k m call168 z z z (c_spec_l6Item fu _ _ _ (show rd _ _ [I r1.fWay,I r1.fPallet.fW,I r1.fPallet.fD,I r1.fPallet.fH,I r1.fPallet.fGram,I r1.fClasses,Bc,Ay,I r1.fMaster,Az] (r1:Request) from ⟨_,_,_,_,_,_,z,z,(Enc.rd_agr Ar (m.a00 (Enc.rd_lt Ar))),(Enc.rd_agr Au (m.a00 (Enc.rd_lt Au))),(Enc.rd_agr At (m.a00 (Enc.rd_lt At)))⟩) (Enc.rd_agr Av (m.a00 (Enc.rd_lt Av))) Bt) fun Cu e a k m=>?_)
     have s:=s.trans e (by simp)
     refine wpList_nil ⟨s,?_⟩
     refine dN [7,8,9] 3 z k (by kernel_rfl) z s (fun _ _ _ _ _=>id) fun a k=>d_one 11 (by kernel_rfl) z (s_stb (cs':=[I Ae.1.fId,I Ae.1.fW,I Ae.1.fH,I Ae.1.fD,I Ae.1.fGram,I Ae.1.fClass,I Ae.1.fCount]) sizeOf158 m 0 Cj 0 k z z z z z z z z z z z fun Bw a k e m Ci=>?_)
     have s:=s.trans e (fun y hy=>Or.inr (Cd y hy))
     refine wpList_nil ⟨s,?_⟩
     refine dN [12] 1 z k (by kernel_rfl) z s (fun _ _ _ _ _=>id) fun a k=>d_done (by kernel_rfl) ((nm_then ?_))
     exact ⟨Ae.1,Bu,Bw,k.keep [1,2,3,6,7,8,9] z,m.sel [1,2,3,0] z (by decide),Ci,h⟩
   refine wp_exit (ex_then (ex_then (ex_same (nm_then ?_))))
   refine wr (sv k z (r_ldB ta224 m 2 Ao 0 k z z z z z z) fun a k=>s_stb (cs':=[I Aa.fvol,I Aa.fgram]) sizeOf224 m 1 Bl 0 k z z z z z z z z z z z fun Cy a k e m Co=>nn (wp_ret ?_))
   cases h
   exact finR1 k z (RV.cA k z ta224 (Co.at (m.a 1 z) 0 2 z z z) z) ⟨z,m.ext⟩
 exact ⟨(⟨0,0⟩:L7),Cc,0,k.keep [1,2,3,6,7,8] z,m.sel [2,1,0] z (by decide),Cb,h⟩
theorem c_spec_Holds (fu:Nat) {w0:World} (r1:Request) (Ak:List Int) (t9:Typ) {Bf:List Value} {F3:List Nat} (Bs:rd w0 F3 Bf r1) {v6:Value} {F7:List Nat} (Am:rd w0 F7 [v6] Ak) {r:Bool}
    (h:d_spec_Holds fu r1 Ak t9 = some r) :
    Calls Tryz.prog 212 #[.agg Bf.toArray,v6,.agg (Flat.e (t9)).toArray] w0 fun e w=>e = .returned (.bool (r)) ∧ Ext [] w0 w:=by
 refine enter (vs:=[_,_,_]) func212 z ntmps212 z fun a k=>?_
 have m:=St.start w0
 obtain ⟨Al,Cr,Aj,Cx,Ao,Cn,rfl,rfl,Ac,Ab,Aa⟩:=Bs
 unfold d_spec_Holds at h
 refine wr (s_box (cs:=[I r1.fWay,I r1.fPallet.fW,I r1.fPallet.fD,I r1.fPallet.fH,I r1.fPallet.fGram,I r1.fClasses,Al,Aj,I r1.fMaster,Ao]) m k z z z z z z fun Ai Aw a k m e Ax=>s_box (cs:=[I t9.fId,I t9.fW,I t9.fH,I t9.fD,I t9.fTare,I t9.fGram,I t9.fCost]) m k z z z z z z fun Ag Ba a k m e As=>pN 1 k z fun a k=>nn (wp_seq (wr (sv k z (r_ldB ta38 m 1 Ax 0 k z z z z z z) fun a k=>oE h fun Cl Cb h=>?_))))
 refine cE k m call74 z z z (c_spec_Class fu _ (show rd _ _ [I r1.fWay,I r1.fPallet.fW,I r1.fPallet.fD,I r1.fPallet.fH,I r1.fPallet.fGram,I r1.fClasses,Al,Aj,I r1.fMaster,Ao] (r1:Request) from ⟨_,_,_,_,_,_,z,z,(Enc.rd_agr Ac (m.a00 (Enc.rd_lt Ac))),(Enc.rd_agr Ab (m.a00 (Enc.rd_lt Ab))),(Enc.rd_agr Aa (m.a00 (Enc.rd_lt Aa)))⟩) Cb) fun Cu e a k m=>pN 1 k z fun a k=>nn (cI h k z (fun Bm h=>?_) fun Bm h=>?_)
 · refine wr (pN 1 k z fun a k=>nn (wp_ret (rt_then ?_)))
   refine fS h k m z z
 refine wp_skip (nm_then ?_)
 refine wr (sv k z (r_ldB ta38 m 1 Ax 0 k z z z z z z) fun a k=>oE h fun Av Bt h=>s_call k call90 z z z z z (c_spec_l6Units fu _ (show rd _ _ [I r1.fWay,I r1.fPallet.fW,I r1.fPallet.fD,I r1.fPallet.fH,I r1.fPallet.fGram,I r1.fClasses,Al,Aj,I r1.fMaster,Ao] (r1:Request) from ⟨_,_,_,_,_,_,z,z,(Enc.rd_agr Ac (m.a00 (Enc.rd_lt Ac))),(Enc.rd_agr Ab (m.a00 (Enc.rd_lt Ab))),(Enc.rd_agr Aa (m.a00 (Enc.rd_lt Aa)))⟩) Bt) fun Dc Ay hR=>?_)
 obtain ⟨Au,Ap,rfl,e,At,Bn⟩:=hR
 refine ⟨_,z,fun a k=>?_⟩
 have m:=m.new e Ap (fun b hb=>⟨Bn b hb,Enc.rd_lt (Enc.ow_rd At) b hb⟩) (Enc.ow_nd At)
 refine pN 1 k z fun a k=>nn (c_cut (fun a w=>K 62 [(1,v6),(3,.pointer (some (⟨Ai,0,none⟩:Addr))),(5,.pointer (some (⟨Ag,0,none⟩:Addr))),(7,Au)] a ∧ St [] w0 w [([Ai],Aw),([Ag],Ba),(Ap,Ay)] ∧ d_spec_Holds_J1 fu r1 Ak t9 Av = some r) ?_ ?_)
 · rintro a Co ⟨k,m,h⟩
   unfold d_spec_Holds_J1 at h
   refine wr (sv k z (r_ldB ta38 m 0 Ax 0 k z z z z z z) fun a k=>pN 2 k z fun a k=>oE h fun Bd Cd h=>cE k m call254 z z z (c_spec_l7Of fu _ _ _ (show rd _ _ [I r1.fWay,I r1.fPallet.fW,I r1.fPallet.fD,I r1.fPallet.fH,I r1.fPallet.fGram,I r1.fClasses,Al,Aj,I r1.fMaster,Ao] (r1:Request) from ⟨_,_,_,_,_,_,z,z,(Enc.rd_agr Ac (m.a00 (Enc.rd_lt Ac))),(Enc.rd_agr Ab (m.a00 (Enc.rd_lt Ab))),(Enc.rd_agr Aa (m.a00 (Enc.rd_lt Aa)))⟩) (Enc.rd_agr (Enc.ow_rd At) (m.a 2 z)) (Enc.rd_agr Am (m.a00 (Enc.rd_lt Am))) Cd) fun Cq e a k m=>s_alloc (cs:=[I 0,I 0]) m k zeroValue224 z z z z z fun Dg Df a k m e Bw=>?_)
   refine s_stb (cs':=[I Bd.fvol,I Bd.fgram]) sizeOf224 m 0 Bw 0 k z z z z z z z z z z z fun Da a k e m Bg=>nn (wp_seq (d_go [] mixo m z fun Ch hMd=>?_))
   have m:=hMd
   have s:=Ext.refl ([]:List Nat) Ch
   refine dt k 0 z (by kernel_rfl) z s (fun _ _ _=>id) (fun w s=>r_fa fa224_0 k z z) fun a k=>dt k 1 z (by kernel_rfl) z s (fun _ _ _=>id) (fun w s=>r_ld1 t13 (r:=[]) (Bg.at ((hMd.step s).a 0 z) 0 1 z z z) k z z) fun a k=>dt k 2 z (by kernel_rfl) z s (fun _ _ _=>id) (fun w s=>r_fa fa79_1 k z z) fun a k=>dt k 3 z (by kernel_rfl) z s (fun _ _ _=>id) (fun w s=>r_ld1 t13 (r:=[]) (As.at ((hMd.step s).a 2 z) 1 1 z z z) k z z) fun a k=>dt k 4 z (by kernel_rfl) z s (fun _ _ _=>id) (fun w s=>r_fa fa79_2 k z z) fun a k=>dt k 5 z (by kernel_rfl) z s (fun _ _ _=>id) (fun w s=>r_ld1 t13 (r:=[]) (As.at ((hMd.step s).a 2 z) 2 1 z z z) k z z) fun a k=>?_
   refine dt k 6 z (by kernel_rfl) z s (fun _ _ _=>id) (fun w s=>r_fa fa79_3 k z z) fun a k=>dt k 7 z (by kernel_rfl) z s (fun _ _ _=>id) (fun w s=>r_ld1 t13 (r:=[]) (As.at ((hMd.step s).a 2 z) 3 1 z z z) k z z) fun a k=>d_one 8 (by kernel_rfl) z (oE h fun Bz Ca h=>cE k m call186 z z z (c_spec_Volume fu _ _ _  Ca) fun Cs e a k m=>?_)
   have s:=s.trans e (by simp)
   refine wpList_nil ⟨s,?_⟩
   refine dN [9,10] 2 z k (by kernel_rfl) z s (fun _ _ _ _ _=>id) fun a k=>bsplit (decide (Bd.fvol ≤ Bz)) (fun Aq=>?_) (fun Aq=>?_)
   · have h:=bif_t Aq h
     refine rB k 55 z Aq fun k=>dt k 11 z (by kernel_rfl) z s (fun _ _ _=>id) (fun w s=>r_fa fa224_1 k z z) fun a k=>dt k 12 z (by kernel_rfl) z s (fun _ _ _=>id) (fun w s=>r_ld1 t13 (r:=[]) (Bg.at ((hMd.step s).a 0 z) 1 1 z z z) k z z) fun a k=>dt k 13 z (by kernel_rfl) z s (fun _ _ _=>id) (fun w s=>r_fa fa79_5 k z z) fun a k=>dt k 14 z (by kernel_rfl) z s (fun _ _ _=>id) (fun w s=>r_ld1 t13 (r:=[]) (As.at ((hMd.step s).a 2 z) 5 1 z z z) k z z) fun a k=>dN [15,16,17] 3 z k (by kernel_rfl) z s (fun _ _ _ _ _=>id) fun a k=>d_done (by kernel_rfl) ((nm_then ?_))
     refine wp_ret (fS h k m z z)
   have h:=bif_f Aq h
   refine rB k 55 z Aq fun k=>dN [11,12,13,14,15,16,17] 7 z k (by kernel_rfl) z s (fun _ _ _ _ _=>id) fun a k=>d_done (by kernel_rfl) ((nm_then ?_))
   refine wp_ret (fS h k m z z)
 refine wr (pN 1 k z fun a k=>nn (wp_block (c_loop (fun n a w=>∃ (Ah:Int),K 62 [(1,v6),(3,.pointer (some (⟨Ai,0,none⟩:Addr))),(5,.pointer (some (⟨Ag,0,none⟩:Addr))),(7,Au),(8,I Ah)] a ∧ St [] w0 w [([Ai],Aw),([Ag],Ba),(Ap,Ay)] ∧ d_spec_Holds_L1 fu r1 Ak t9 Av n Ah = some r) ?_ ?_ fu _ _ ?_)))
 · rintro a w ⟨_,_,_,h⟩
   exact nS h
 · rintro Be a Ct ⟨Ah,k,m,h⟩
   rw [d_spec_Holds_L1_s] at h
   unfold d_spec_Holds_L1_B at h
   refine wp_seq (wr (pN 2 k z fun a k=>sv k z (r_len (α:=Int) Am k underlying63 z z) fun a k=>pN 1 k z fun a k=>nn (cI h k z (fun Bv h=>?_) fun Bv h=>?_)))
   · refine wp_skip (nm_then ?_)
     refine c_cut (fun a w=>K 62 [(1,v6),(3,.pointer (some (⟨Ai,0,none⟩:Addr))),(5,.pointer (some (⟨Ag,0,none⟩:Addr))),(7,Au),(8,I Ah)] a ∧ St [] w0 w [([Ai],Aw),([Ag],Ba),(Ap,Ay)] ∧ d_spec_Holds_J2 fu (d_spec_Holds_L1 fu r1 Ak t9 Av Be) Ah = some r) ?_ ?_
     · rintro a Cz ⟨k,m,h⟩
       unfold d_spec_Holds_J2 at h
       refine wp_region_lit (pN 3 k z fun a k=>nn ?_)
       exact ⟨w64 (Ah + 1),k.keep [1,3,5,7,8] z,m.sel [0,1,2] z (by decide),h⟩
     refine wp_block (c_cut (fun a w=>∃ (Ad:Item) (Az:Nat) (Bc:World) (Bb:Bool),K 62 [(1,v6),(3,.pointer (some (⟨Ai,0,none⟩:Addr))),(5,.pointer (some (⟨Ag,0,none⟩:Addr))),(7,Au),(8,I Ah),(9,.pointer (some (⟨Az,0,none⟩:Addr))),(10,.bool (Bb))] a ∧ St [] w0 w [([Ai],Aw),([Ag],Ba),(Ap,Ay),([Az],Bc)] ∧ bx Bc Az [I Ad.fId,I Ad.fW,I Ad.fH,I Ad.fD,I Ad.fGram,I Ad.fClass,I Ad.fCount] 158 ∧ d_spec_Holds_J3 fu (d_spec_Holds_L1 fu r1 Ak t9 Av Be) t9 Ah Ad Bb = some r) ?_ ?_)
     · rintro a De ⟨Ad,Az,Bc,Bb,k,m,Ce,h⟩
       unfold d_spec_Holds_J3 at h
       refine wr (pN 3 k z fun a k=>bsplit (!Bb) (fun Ar=>?_) (fun Ar=>?_))
       · have h:=bif_t Ar h
         refine rB k 35 z Ar fun k=>pN 5 k z fun a k=>nn (wp_cond_true (k.ev z) (wr (pN 1 k z fun a k=>nn (wp_ret (rt_block (rt_then (rt_then (rt_block (rt_then ?_)))))))))
         refine fS h k m z z
       have h:=bif_f Ar h
       refine rB k 35 z Ar fun k=>sv k z (r_ldB ta158 m 3 Ce 0 k z z z z z z) fun a k=>sv k z (r_ldB ta79 m 1 As 0 k z z z z z z) fun a k=>oE h fun Dd Ck h=>cE k m call190 z z z (c_spec_Fits fu (Ad:Item) (t9:Typ)  Ck) fun Cw e a k m=>pN 2 k z fun a k=>nn (cI h k z (fun Bq h=>?_) fun Bq h=>?_)
       · refine wr (pN 1 k z fun a k=>nn (wp_ret (rt_block (rt_then (rt_then (rt_block (rt_then ?_)))))))
         refine fS h k m z z
       refine wp_skip (nm_block (nm_then ?_))
       exact ⟨k.keep [1,3,5,7,8] z,m.sel [0,1,2] z (by decide),h⟩
     refine d_go [] mixo m z fun Bl hMd=>?_
     have m:=hMd
     have s:=Ext.refl ([]:List Nat) Bl
     refine dN [1,2,3] 3 z k (by kernel_rfl) z s (fun _ _ _ _ _=>id) fun a k=>dt k 0 z (by kernel_rfl) z s (fun _ _ _=>id) (fun w s=>r_ldA ta38 (Ax.at ((hMd.step s).a 0 z) 0 10 z z z) z k z z) fun a k=>oE h fun Cv Bh h=>dt k 4 z (by kernel_rfl) z s (fun _ _ _=>id) (fun w s=>r_ixa Am Bh k ts63 z z z) fun a k=>dt k 5 z (by kernel_rfl) z s (fun _ _ _=>id) (fun w s=>r_lde1 Am ((hMd.step s).a00 (Enc.rd_lt Am)) Bh 0 t13 k z z z z) fun a k=>d_two 6 10 (by kernel_rfl) z z ?_ ?_ 
     · refine oE h fun Af Bx h=>cE k m call168 z z z (c_spec_l6Item fu _ _ _ (show rd _ _ [I r1.fWay,I r1.fPallet.fW,I r1.fPallet.fD,I r1.fPallet.fH,I r1.fPallet.fGram,I r1.fClasses,Al,Aj,I r1.fMaster,Ao] (r1:Request) from ⟨_,_,_,_,_,_,z,z,(Enc.rd_agr Ac (m.a00 (Enc.rd_lt Ac))),(Enc.rd_agr Ab (m.a00 (Enc.rd_lt Ab))),(Enc.rd_agr Aa (m.a00 (Enc.rd_lt Aa)))⟩) (Enc.rd_agr (Enc.ow_rd At) (m.a 2 z)) Bx) fun Cm e a k m=>?_
       have s:=s.trans e (by simp)
       refine wpList_nil ⟨s,?_⟩
       refine dN [7,8,9] 3 z k (by kernel_rfl) z s (fun _ _ _ _ _=>id) fun a k=>d_one 10 (by kernel_rfl) z (s_allocN (cs:=[I 0,I 0,I 0,I 0,I 0,I 0,I 0]) m k zeroValue158 z z z z z fun Bk Cy a k m e Bj Bi=>?_)
       have Bp:=lo1 (Nat.le_trans s.size Bi)
       have s:=s.trans e (by simp)
       refine wpList_nil ⟨s,?_⟩
       refine d_one 11 (by kernel_rfl) z (s_stb (cs':=[I Af.1.fId,I Af.1.fW,I Af.1.fH,I Af.1.fD,I Af.1.fGram,I Af.1.fClass,I Af.1.fCount]) sizeOf158 m 0 Bj 0 k z z z z z z z z z z z fun Ci a k e m Br=>?_)
       have s:=s.trans e (fun y hy=>Or.inr (Bp y hy))
       refine wpList_nil ⟨s,?_⟩
       refine dN [12] 1 z k (by kernel_rfl) z s (fun _ _ _ _ _=>id) fun a k=>d_done (by kernel_rfl) ((nm_then ?_))
       exact ⟨Af.1,Bk,Ci,Af.2,k.keep [1,3,5,7,8,9,10] z,m.sel [1,2,3,0] z (by decide),Br,h⟩
     refine s_allocN (cs:=[I 0,I 0,I 0,I 0,I 0,I 0,I 0]) m k zeroValue158 z z z z z fun Bu Cp a k m e Cc By=>?_
     have Cj:=lo1 (Nat.le_trans s.size By)
     have s:=s.trans e (by simp)
     refine wpList_nil ⟨s,?_⟩
     refine d_one 6 (by kernel_rfl) z (oE h fun Ae Cg h=>cE k m call168 z z z (c_spec_l6Item fu _ _ _ (show rd _ _ [I r1.fWay,I r1.fPallet.fW,I r1.fPallet.fD,I r1.fPallet.fH,I r1.fPallet.fGram,I r1.fClasses,Al,Aj,I r1.fMaster,Ao] (r1:Request) from ⟨_,_,_,_,_,_,z,z,(Enc.rd_agr Ac (m.a00 (Enc.rd_lt Ac))),(Enc.rd_agr Ab (m.a00 (Enc.rd_lt Ab))),(Enc.rd_agr Aa (m.a00 (Enc.rd_lt Aa)))⟩) (Enc.rd_agr (Enc.ow_rd At) (m.a 3 z)) Cg) fun Db e a k m=>?_)
     have s:=s.trans e (by simp)
     refine wpList_nil ⟨s,?_⟩
     refine dN [7,8,9] 3 z k (by kernel_rfl) z s (fun _ _ _ _ _=>id) fun a k=>d_one 11 (by kernel_rfl) z (s_stb (cs':=[I Ae.1.fId,I Ae.1.fW,I Ae.1.fH,I Ae.1.fD,I Ae.1.fGram,I Ae.1.fClass,I Ae.1.fCount]) sizeOf158 m 0 Cc 0 k z z z z z z z z z z z fun Bo a k e m Cf=>?_)
     have s:=s.trans e (fun y hy=>Or.inr (Cj y hy))
     refine wpList_nil ⟨s,?_⟩
     refine dN [12] 1 z k (by kernel_rfl) z s (fun _ _ _ _ _=>id) fun a k=>d_done (by kernel_rfl) ((nm_then ?_))
     exact ⟨Ae.1,Bu,Bo,Ae.2,k.keep [1,3,5,7,8,9,10] z,m.sel [1,2,3,0] z (by decide),Cf,h⟩
   refine wp_exit (ex_then (ex_then (ex_same (nm_then ?_))))
   exact ⟨k.keep [1,3,5,7] z,m.sel [0,1,2] z (by decide),h⟩
 exact ⟨0,k.keep [1,3,5,7,8] z,m.sel [2,1,0] z (by decide),h⟩
theorem c_spec_l15Holds (fu:Nat) {w0:World} (r1:Request) (x5:Plan) {Aw:List Value} {F3:List Nat} (Bg:rd w0 F3 Aw r1) {Au:List Value} {F7:List Nat} (Bo:rd w0 F7 Au x5) {r:Bool}
    (h:d_spec_l15Holds fu r1 x5 = some r) :
    Calls Tryz.prog 107 #[.agg Aw.toArray,.agg Au.toArray] w0 fun e w=>e = .returned (.bool (r)) ∧ Ext [] w0 w:=by
 refine enter (vs:=[_,_]) func107 z ntmps107 z fun a k=>?_
 have m:=St.start w0
 obtain ⟨v9,Cz,Ap,Dd,Ao,Cr,rfl,rfl,Aj,Ah,Af⟩:=Bg
 obtain ⟨Bk,Cp,Cb,Cs,rfl,rfl,Ae,Cw⟩:=Bo
 unfold d_spec_l15Holds at h
 refine wr (s_box (cs:=[I r1.fWay,I r1.fPallet.fW,I r1.fPallet.fD,I r1.fPallet.fH,I r1.fPallet.fGram,I r1.fClasses,v9,Ap,I r1.fMaster,Ao]) m k z z z z z z fun Ai As a k m e Ax=>s_box (cs:=[Bk,Cb]) m k z z z z z z fun Ag Ar a k m e Aq=>pN 1 k z fun a k=>nn (wp_seq (wr (pN 1 k z fun a k=>nn (wp_block (c_loop (fun n a w=>∃ (Ad:Int),K 40 [(2,.pointer (some (⟨Ai,0,none⟩:Addr))),(3,.pointer (some (⟨Ag,0,none⟩:Addr))),(5,I Ad)] a ∧ St [] w0 w [([Ai],As),([Ag],Ar)] ∧ d_spec_l15Holds_L1 fu r1 x5 n Ad = some r) ?_ ?_ fu _ _ ?_))))))
 · rintro a w ⟨_,_,_,h⟩
   exact nS h
 · rintro Az a Cy ⟨Ad,k,m,h⟩
   rw [d_spec_l15Holds_L1_s] at h
   unfold d_spec_l15Holds_L1_B at h
   refine wp_seq (wr (pN 1 k z fun a k=>sv k z (r_fa fa58_0 k z z) fun a k=>sv k z (r_ldb t155 m 1 Aq 0 k z z z z z) fun a k=>sv k z (r_len (α:=Carton) Ae k underlying55 z z) fun a k=>pN 1 k z fun a k=>nn (cI h k z (fun Bt h=>?_) fun Bt h=>?_)))
   · refine wp_skip (nm_then ?_)
     refine c_cut (fun a w=>K 40 [(2,.pointer (some (⟨Ai,0,none⟩:Addr))),(3,.pointer (some (⟨Ag,0,none⟩:Addr))),(5,I Ad)] a ∧ St [] w0 w [([Ai],As),([Ag],Ar)] ∧ d_spec_l15Holds_J1 fu (d_spec_l15Holds_L1 fu r1 x5 Az) Ad = some r) ?_ ?_
     · rintro a Cl ⟨k,m,h⟩
       unfold d_spec_l15Holds_J1 at h
       refine wp_region_lit (pN 3 k z fun a k=>nn ?_)
       exact ⟨w64 (Ad + 1),k.keep [2,3,5] z,m.sel [0,1] z (by decide),h⟩
     refine wp_block (c_cut (fun a w=>∃ (Aa:Typ) (Al:Nat) (At:World) (Am:Bool),K 40 [(2,.pointer (some (⟨Ai,0,none⟩:Addr))),(3,.pointer (some (⟨Ag,0,none⟩:Addr))),(5,I Ad),(6,.pointer (some (⟨Al,0,none⟩:Addr))),(7,.bool (Am))] a ∧ St [] w0 w [([Ai],As),([Ag],Ar),([Al],At)] ∧ bx At Al [I Aa.fId,I Aa.fW,I Aa.fH,I Aa.fD,I Aa.fTare,I Aa.fGram,I Aa.fCost] 79 ∧ d_spec_l15Holds_J2 fu (d_spec_l15Holds_L1 fu r1 x5 Az) r1 x5 Ad Aa Am = some r) ?_ ?_)
     · rintro a Ci ⟨Aa,Al,At,Am,k,m,Bw,h⟩
       unfold d_spec_l15Holds_J2 at h
       refine wp_seq (d_go [] mixo m z fun Bm hMd=>?_)
       have m:=hMd
       have s:=Ext.refl ([]:List Nat) Bm
       refine dN [0,1,2] 3 z k (by kernel_rfl) z s (fun _ _ _ _ _=>id) fun a k=>bsplit (!Am) (fun Ak=>?_) (fun Ak=>?_)
       · have h:=bif_t Ak h
         refine rB k 28 z Ak fun k=>dN [3,4,5,6,7,8,9,10,11,12,13] 11 z k (by kernel_rfl) z s (fun _ _ _ _ _=>id) fun a k=>d_done (by kernel_rfl) ((nm_then ?_))
         refine wp_cond_true (k.ev z) (wr (pN 1 k z fun a k=>nn (wp_ret (rt_block (rt_then (rt_then (rt_block (rt_then ?_))))))))
         refine fS h k m z z
       have h:=bif_f Ak h
       refine rB k 28 z Ak fun k=>dN [6] 1 z k (by kernel_rfl) z s (fun _ _ _ _ _=>id) fun a k=>dt k 3 z (by kernel_rfl) z s (fun _ _ _=>id) (fun w s=>r_ldA ta38 (Ax.at ((hMd.step s).a 0 z) 0 10 z z z) z k z z) fun a k=>dt k 4 z (by kernel_rfl) z s (fun _ _ _=>id) (fun w s=>r_fa fa58_0 k z z) fun a k=>dt k 5 z (by kernel_rfl) z s (fun _ _ _=>id) (fun w s=>r_ld1 t155 (r:=[]) (Aq.at ((hMd.step s).a 1 z) 0 1 z z z) k z z) fun a k=>oE h fun Cx Av h=>dt k 7 z (by kernel_rfl) z s (fun _ _ _=>id) (fun w s=>r_ixa Ae Av k ts55 z z z) fun a k=>dt k 8 z (by kernel_rfl) z s (fun _ _ _=>id) (fun w s=>r_fa fa83_2 k z z) fun a k=>?_
       obtain ⟨Cu,Ct,Cq,Be,Bb,Cd⟩:=rd_get Ae (ix_some Av).2.2
       obtain ⟨Da,_,rfl,rfl,Ay⟩:=Be
       refine dt k 9 z (by kernel_rfl) z s (fun _ _ _=>id) (fun w s=>r_ld1 t163 ((Bb.agr ((hMd.step s).a00 (Enc.rd_lt Ae)) Cd).fld 2 1 (Nat.le_of_ble_eq_true z)) k z z) fun a k=>dt k 10 z (by kernel_rfl) z s (fun _ _ _=>id) (fun w s=>r_ldA ta79 (Bw.at ((hMd.step s).a 2 z) 0 7 z z z) z k z z) fun a k=>d_one 11 (by kernel_rfl) z (oE h fun Cm Bd h=>?_)
       refine cE k m call212 z z z (c_spec_Holds fu _ _ (Aa:Typ) (show rd _ _ [I r1.fWay,I r1.fPallet.fW,I r1.fPallet.fD,I r1.fPallet.fH,I r1.fPallet.fGram,I r1.fClasses,v9,Ap,I r1.fMaster,Ao] (r1:Request) from ⟨_,_,_,_,_,_,z,z,(Enc.rd_agr Aj (m.a00 (Enc.rd_lt Aj))),(Enc.rd_agr Ah (m.a00 (Enc.rd_lt Ah))),(Enc.rd_agr Af (m.a00 (Enc.rd_lt Af)))⟩) (Enc.rd_agr Ay (m.a00 (Enc.rd_lt Ay))) Bd) fun Cj e a k m=>?_
       have s:=s.trans e (by simp)
       refine wpList_nil ⟨s,?_⟩
       refine dN [12,13] 2 z k (by kernel_rfl) z s (fun _ _ _ _ _=>id) fun a k=>d_done (by kernel_rfl) ((nm_then ?_))
       refine cI h k z (fun Ce h=>?_) fun Ce h=>?_
       · refine wr (pN 1 k z fun a k=>nn (wp_ret (rt_block (rt_then (rt_then (rt_block (rt_then ?_)))))))
         refine fS h k m z z
       refine wp_skip (nm_block (nm_then ?_))
       exact ⟨k.keep [2,3,5] z,m.sel [0,1] z (by decide),h⟩
     refine d_go [] mixo m z fun Br hMd=>?_
     have m:=hMd
     have s:=Ext.refl ([]:List Nat) Br
     refine dN [3] 1 z k (by kernel_rfl) z s (fun _ _ _ _ _=>id) fun a k=>dt k 0 z (by kernel_rfl) z s (fun _ _ _=>id) (fun w s=>r_ldA ta38 (Ax.at ((hMd.step s).a 0 z) 0 10 z z z) z k z z) fun a k=>dt k 1 z (by kernel_rfl) z s (fun _ _ _=>id) (fun w s=>r_fa fa58_0 k z z) fun a k=>dt k 2 z (by kernel_rfl) z s (fun _ _ _=>id) (fun w s=>r_ld1 t155 (r:=[]) (Aq.at ((hMd.step s).a 1 z) 0 1 z z z) k z z) fun a k=>oE h fun Cv Ba h=>dt k 4 z (by kernel_rfl) z s (fun _ _ _=>id) (fun w s=>r_ixa Ae Ba k ts55 z z z) fun a k=>dt k 5 z (by kernel_rfl) z s (fun _ _ _=>id) (fun w s=>r_fa fa83_0 k z z) fun a k=>?_
     obtain ⟨Cn,Cg,Ch,Bi,Bf,By⟩:=rd_get Ae (ix_some Ba).2.2
     obtain ⟨Dc,_,rfl,rfl,Co⟩:=Bi
     refine dt k 6 z (by kernel_rfl) z s (fun _ _ _=>id) (fun w s=>r_ld1 t13 ((Bf.agr ((hMd.step s).a00 (Enc.rd_lt Ae)) By).fld 0 1 (Nat.le_of_ble_eq_true z)) k z z) fun a k=>d_two 7 11 (by kernel_rfl) z z ?_ ?_ 
     · refine oE h fun Ab Bh h=>cE k m call184 z z z (c_spec_TypeById fu _ _ (show rd _ _ [I r1.fWay,I r1.fPallet.fW,I r1.fPallet.fD,I r1.fPallet.fH,I r1.fPallet.fGram,I r1.fClasses,v9,Ap,I r1.fMaster,Ao] (r1:Request) from ⟨_,_,_,_,_,_,z,z,(Enc.rd_agr Aj (m.a00 (Enc.rd_lt Aj))),(Enc.rd_agr Ah (m.a00 (Enc.rd_lt Ah))),(Enc.rd_agr Af (m.a00 (Enc.rd_lt Af)))⟩) Bh) fun Cf e a k m=>?_
       have s:=s.trans e (by simp)
       refine wpList_nil ⟨s,?_⟩
       refine dN [8,9,10] 3 z k (by kernel_rfl) z s (fun _ _ _ _ _=>id) fun a k=>d_one 11 (by kernel_rfl) z (s_allocN (cs:=[I 0,I 0,I 0,I 0,I 0,I 0,I 0]) m k zeroValue79 z z z z z fun Bx Db a k m e Cc Bc=>?_)
       have Bu:=lo1 (Nat.le_trans s.size Bc)
       have s:=s.trans e (by simp)
       refine wpList_nil ⟨s,?_⟩
       refine d_one 12 (by kernel_rfl) z (s_stb (cs':=[I Ab.1.fId,I Ab.1.fW,I Ab.1.fH,I Ab.1.fD,I Ab.1.fTare,I Ab.1.fGram,I Ab.1.fCost]) sizeOf79 m 0 Cc 0 k z z z z z z z z z z z fun Bz a k e m Bl=>?_)
       have s:=s.trans e (fun y hy=>Or.inr (Bu y hy))
       refine wpList_nil ⟨s,?_⟩
       refine dN [13] 1 z k (by kernel_rfl) z s (fun _ _ _ _ _=>id) fun a k=>d_done (by kernel_rfl) ((nm_then ?_))
       exact ⟨Ab.1,Bx,Bz,Ab.2,k.keep [2,3,5,6,7] z,m.sel [1,2,0] z (by decide),Bl,h⟩
     refine s_allocN (cs:=[I 0,I 0,I 0,I 0,I 0,I 0,I 0]) m k zeroValue79 z z z z z fun Bp Ck a k m e Bn Ca=>?_
     have Bq:=lo1 (Nat.le_trans s.size Ca)
     have s:=s.trans e (by simp)
     refine wpList_nil ⟨s,?_⟩
     refine d_one 7 (by kernel_rfl) z (oE h fun Ac Bs h=>cE k m call184 z z z (c_spec_TypeById fu _ _ (show rd _ _ [I r1.fWay,I r1.fPallet.fW,I r1.fPallet.fD,I r1.fPallet.fH,I r1.fPallet.fGram,I r1.fClasses,v9,Ap,I r1.fMaster,Ao] (r1:Request) from ⟨_,_,_,_,_,_,z,z,(Enc.rd_agr Aj (m.a00 (Enc.rd_lt Aj))),(Enc.rd_agr Ah (m.a00 (Enc.rd_lt Ah))),(Enc.rd_agr Af (m.a00 (Enc.rd_lt Af)))⟩) Bs) fun De e a k m=>?_)
     have s:=s.trans e (by simp)
     refine wpList_nil ⟨s,?_⟩
     refine dN [8,9,10] 3 z k (by kernel_rfl) z s (fun _ _ _ _ _=>id) fun a k=>d_one 12 (by kernel_rfl) z (s_stb (cs':=[I Ac.1.fId,I Ac.1.fW,I Ac.1.fH,I Ac.1.fD,I Ac.1.fTare,I Ac.1.fGram,I Ac.1.fCost]) sizeOf79 m 0 Bn 0 k z z z z z z z z z z z fun Bv a k e m Bj=>?_)
     have s:=s.trans e (fun y hy=>Or.inr (Bq y hy))
     refine wpList_nil ⟨s,?_⟩
     refine dN [13] 1 z k (by kernel_rfl) z s (fun _ _ _ _ _=>id) fun a k=>d_done (by kernel_rfl) ((nm_then ?_))
     exact ⟨Ac.1,Bp,Bv,Ac.2,k.keep [2,3,5,6,7] z,m.sel [1,2,0] z (by decide),Bj,h⟩
   refine wp_exit (ex_then (ex_then (ex_same (nm_then ?_))))
   refine wr (pN 1 k z fun a k=>nn (wp_ret (fS h k m z z)))
 exact ⟨0,k.keep [2,3,5] z,m.sel [1,0] z (by decide),h⟩
theorem c_spec_Present (fu:Nat) {w0:World} (r1:Request) {Az:List Value} {F3:List Nat} (Bp:rd w0 F3 Az r1) {r:(List Int)}
    (h:d_spec_Present fu r1 = some r) :
    Calls Tryz.prog 70 #[.agg Az.toArray] w0 fun e w=>∃ (v0:Value) (G0:List Nat),e = .returned (v0) ∧ Ext [] w0 w ∧ ow w G0 [v0] r ∧ (∀ b ∈ G0,w0.heap.size ≤ b):=by
 refine enter (vs:=[_]) func70 z ntmps70 z fun a k=>?_
 have m:=St.start w0
 obtain ⟨v5,F6,v7,F8,v9,Bt,rfl,rfl,Ax,Aw,Ag⟩:=Bp
 unfold d_spec_Present at h
 refine wr (s_box (cs:=[I r1.fWay,I r1.fPallet.fW,I r1.fPallet.fD,I r1.fPallet.fH,I r1.fPallet.fGram,I r1.fClasses,v5,v7,I r1.fMaster,v9]) m k z z z z z z fun Ab Am a k m e At=>pN 1 k z fun a k=>nn (wr (s_bs (cs:=[]) (ps:=[]) te63 m k z z z z z z z (by decide) z (by exact (List.forall_mem_nil _)) fun As Br Bw a k m e Bo=>?_)))
 have Av:=ow_bx Bo ([]:List Int) z z z
 refine pN 1 k z fun a k=>nn (wp_seq (wr (sv k z (r_ldB ta38 m 1 At 0 k z z z z z z) fun a k=>oE h fun By Bk h=>cE k m call74 z z z (c_spec_Class fu _ (show rd _ _ [I r1.fWay,I r1.fPallet.fW,I r1.fPallet.fD,I r1.fPallet.fH,I r1.fPallet.fGram,I r1.fClasses,v5,v7,I r1.fMaster,v9] (r1:Request) from ⟨_,_,_,_,_,_,z,z,(Enc.rd_agr Ax (m.a00 (Enc.rd_lt Ax))),(Enc.rd_agr Aw (m.a00 (Enc.rd_lt Aw))),(Enc.rd_agr Ag (m.a00 (Enc.rd_lt Ag)))⟩) Bk) fun Bu e a k m=>pN 1 k z fun a k=>nn (cI h k z (fun Bc h=>?_) fun Bc h=>?_))))
 · refine wr (pN 2 k z fun a k=>nn (wp_ret (rt_then ?_)))
   cases h
   exact finR1 k z (RV.tmp k z) ⟨_,[As],z,m.ext,(Enc.ow_agr Av (m.a 0 z)),(m.fresh 0 z)⟩
 refine wp_skip (nm_then ?_)
 refine wp_seq (wr (pN 1 k z fun a k=>nn (wp_block (c_loop (fun n a w=>∃ (Ad:List Int) (Ae:Value) (Ac:List Nat) (Af:World) (Aa:Int),K 40 [(1,.pointer (some (⟨Ab,0,none⟩:Addr))),(3,Ae),(4,I Aa)] a ∧ St [] w0 w [([Ab],Am),(Ac,Af)] ∧ ow Af Ac [Ae] Ad ∧ d_spec_Present_L2 fu r1 n Ad Aa = some r) ?_ ?_ fu _ _ ?_))))
 · rintro a w ⟨_,_,_,_,_,_,_,_,h⟩
   exact nS h
 · rintro Ar a Ca ⟨Ad,Ae,Ac,Af,Aa,k,m,Au,h⟩
   rw [d_spec_Present_L2_s] at h
   unfold d_spec_Present_L2_B at h
   refine wp_seq (wr (pN 2 k z fun a k=>nn (cI h k z (fun Bl h=>?_) fun Bl h=>?_)))
   · refine wp_skip (nm_then ?_)
     refine c_cut (fun a w=>∃ (Ap:List Int) (Ao:Value) (Aq:List Nat) (Al:World),K 40 [(1,.pointer (some (⟨Ab,0,none⟩:Addr))),(3,Ao),(4,I Aa)] a ∧ St [] w0 w [([Ab],Am),(Aq,Al)] ∧ ow Al Aq [Ao] Ap ∧ d_spec_Present_J1 fu (d_spec_Present_L2 fu r1 Ar) Aa Ap = some r) ?_ ?_
     · rintro a Cd ⟨Ap,Ao,Aq,Al,k,m,Bi,h⟩
       unfold d_spec_Present_J1 at h
       refine wp_region_lit (pN 3 k z fun a k=>nn ?_)
       exact ⟨Ap,Ao,Aq,Al,w64 (Aa + 1),k.keep [1,3,4] z,m.sel [0,1] z (by decide),Bi,h⟩
     refine wp_block (wr (pN 1 k z fun a k=>nn (wp_seq (wr (pN 1 k z fun a k=>nn (wp_block (c_loop (fun n a w=>∃ (Aj:Bool) (Ah:Int),K 40 [(1,.pointer (some (⟨Ab,0,none⟩:Addr))),(3,Ae),(4,I Aa),(5,.bool (Aj)),(6,I Ah)] a ∧ St [] w0 w [([Ab],Am),(Ac,Af)] ∧ d_spec_Present_L1 fu (d_spec_Present_L2 fu r1 Ar) r1 Ad Aa n Aj Ah = some r) ?_ ?_ fu _ _ ?_)))))))
     · rintro a w ⟨_,_,_,_,h⟩
       exact nS h
     · rintro Bq a Bx ⟨Aj,Ah,k,m,h⟩
       rw [d_spec_Present_L1_s] at h
       unfold d_spec_Present_L1_B at h
       refine wp_seq (wr (pN 1 k z fun a k=>sv k z (r_fa fa38_6 k z z) fun a k=>sv k z (r_ldb t136 m 0 At 9 k z z z z z) fun a k=>sv k z (r_len (α:=Item) Ag k underlying36 z z) fun a k=>pN 1 k z fun a k=>nn (cI h k z (fun Bb h=>?_) fun Bb h=>?_)))
       · refine wp_skip (nm_then ?_)
         refine c_cut (fun a w=>∃ (Ak:Bool),K 40 [(1,.pointer (some (⟨Ab,0,none⟩:Addr))),(3,Ae),(4,I Aa),(5,.bool (Ak)),(6,I Ah)] a ∧ St [] w0 w [([Ab],Am),(Ac,Af)] ∧ d_spec_Present_J2 fu (d_spec_Present_L1 fu (d_spec_Present_L2 fu r1 Ar) r1 Ad Aa Bq) Ah Ak = some r) ?_ ?_
         · rintro a Cb ⟨Ak,k,m,h⟩
           unfold d_spec_Present_J2 at h
           refine wp_region_lit (pN 3 k z fun a k=>nn ?_)
           exact ⟨Ak,w64 (Ah + 1),k.keep [1,3,4,5,6] z,m.sel [0,1] z (by decide),h⟩
         refine wp_block (wp_region_lit (pN 2 k z fun a k=>bsplit (Aj) (fun Ai=>?_) (fun Ai=>?_)))
         · have h:=bif_t Ai h
           refine rB k 24 z Ai fun k=>pN 10 k z fun a k=>wpList_nil (nm_block (nm_then ?_))
           exact ⟨true,k.keep [1,3,4,5,6] z,m.sel [0,1] z (by decide),h⟩
         have h:=bif_f Ai h
         refine rB k 24 z Ai fun k=>sv k z (r_fa fa38_6 k z z) fun a k=>sv k z (r_ldb t136 m 0 At 9 k z z z z z) fun a k=>pN 1 k z fun a k=>oE h fun Bd Ay h=>sv k z (r_ixa Ag Ay k ts36 z z z) fun a k=>sv k z (r_fa fa158_5 k z z) fun a k=>sv k z (r_lde1 Ag (m.a00 (Enc.rd_lt Ag)) Ay 5 t13 k z z z z) fun a k=>pN 4 k z fun a k=>wpList_nil (nm_block (nm_then ?_))
         exact ⟨Bd.fClass == Aa,k.keep [1,3,4,5,6] z,m.sel [0,1] z (by decide),h⟩
       refine wp_exit (ex_then (ex_then (ex_same (nm_then ?_))))
       refine wr (pN 1 k z fun a k=>nn (cI h k z (fun Ba h=>?_) fun Ba h=>?_))
       · refine wp_region_lit (pN 2 k z fun a k=>s_bs (cs:=[I Aa]) (ps:=[(0,.tmp 36)]) te63 m k z z z z z z z (by decide) z (by exact (List.forall_mem_cons.2 ⟨z,(List.forall_mem_nil _)⟩)) fun Bv Bz Cc a k m e Bf=>?_)
         have Bs:=ow_bx Bf ([Aa]:List Int) z z z
         refine oE h fun Bj Bm h=>s_appF Bm te63 z m 2 Au (News.rd (Enc.rd_agr (Enc.ow_rd Bs) (m.a 0 z))) z z k z z z z z z z fun Bn Be Bh a k e m Bg=>pN 1 k z fun a k=>wpList_nil (nm_block (nm_then ?_))
         exact ⟨Bj,Bn,Be,Bh,k.keep [1,3,4] z,m.sel [1,2] z (by decide),Bg,h⟩
       refine wp_skip (nm_block (nm_then ?_))
       exact ⟨Ad,Ae,Ac,Af,k.keep [1,3,4] z,m.sel [0,1] z (by decide),Au,h⟩
     exact ⟨false,0,k.keep [1,3,4,5,6] z,m.sel [0,1] z (by decide),h⟩
   refine wp_exit (ex_then (ex_then (ex_same (nm_then ?_))))
   refine wr (pN 2 k z fun a k=>nn (wp_ret ?_))
   cases h
   exact finR1 k z (RV.tmp k z) ⟨_,Ac,z,m.ext,(Enc.ow_agr Au (m.a 1 z)),(m.fresh 1 z)⟩
 exact ⟨([]:List Int),(.slice (some ⟨As,0,none⟩) 0 0),[As],Br,0,k.keep [1,3,4] z,m.sel [1,0] z (by decide),Av,h⟩
theorem c_spec_l1Has (fu:Nat) {w0:World} (Ac:List Int) (x5:Int) {v2:Value} {F3:List Nat} (Aa:rd w0 F3 [v2] Ac) {r:Bool}
    (h:d_spec_l1Has fu Ac x5 = some r) :
    Calls Tryz.prog 249 #[v2,I x5] w0 fun e w=>e = .returned (.bool (r)) ∧ Ext [] w0 w:=by
 refine enter (vs:=[_,_]) func249 z ntmps249 z fun a k=>?_
 have m:=St.start w0
 unfold d_spec_l1Has at h
 refine wr (pN 1 k z fun a k=>nn (wp_seq (wr (pN 1 k z fun a k=>nn (wp_block (c_loop (fun n a w=>∃ (Ab:Int),K 18 [(0,v2),(1,I x5),(5,I Ab)] a ∧ St [] w0 w [] ∧ d_spec_l1Has_L1 fu Ac x5 n Ab = some r) ?_ ?_ fu _ _ ?_))))))
 · rintro a w ⟨_,_,_,h⟩
   exact nS h
 · rintro Ag a Ai ⟨Ab,k,m,h⟩
   rw [d_spec_l1Has_L1_s] at h
   unfold d_spec_l1Has_L1_B at h
   refine wp_seq (wr (pN 2 k z fun a k=>sv k z (r_len (α:=Int) Aa k underlying63 z z) fun a k=>pN 1 k z fun a k=>nn (cI h k z (fun Af h=>?_) fun Af h=>?_)))
   · refine wp_skip (nm_then ?_)
     refine wp_seq (wp_block (wr (pN 2 k z fun a k=>oE h fun Ah Ad h=>sv k z (r_ixa Aa Ad k ts63 z z z) fun a k=>sv k z (r_lde1 Aa (m.a00 (Enc.rd_lt Aa)) Ad 0 t13 k z z z z) fun a k=>pN 2 k z fun a k=>nn (cI h k z (fun Ae h=>?_) fun Ae h=>?_))))
     · refine wr (pN 1 k z fun a k=>nn (wp_ret (rt_block (rt_then (rt_then (rt_block (rt_then ?_)))))))
       refine fS h k m z z
     refine wp_skip (nm_block (nm_then ?_))
     refine wp_region_lit (pN 3 k z fun a k=>nn ?_)
     exact ⟨w64 (Ab + 1),k.keep [0,1,5] z,m.sel [] z (by decide),h⟩
   refine wp_exit (ex_then (ex_then (ex_same (nm_then ?_))))
   refine wr (pN 1 k z fun a k=>nn (wp_ret (fS h k m z z)))
 exact ⟨0,k.keep [0,1,5] z,m.sel [] z (by decide),h⟩
theorem c_spec_l3Joins (fu:Nat) {w0:World} (Ag:List Pair) (Af:List Int) (Ab:Int) {v2:Value} {F3:List Nat} (Ah:rd w0 F3 [v2] Ag) {v6:Value} {F7:List Nat} (Aa:rd w0 F7 [v6] Af) {r:Bool}
    (h:d_spec_l3Joins fu Ag Af Ab = some r) :
    Calls Tryz.prog 295 #[v2,v6,I Ab] w0 fun e w=>e = .returned (.bool (r)) ∧ Ext [] w0 w:=by
 refine enter (vs:=[_,_,_]) func295 z ntmps295 z fun a k=>?_
 have m:=St.start w0
 unfold d_spec_l3Joins at h
 refine wr (pN 1 k z fun a k=>nn (wp_seq (wr (pN 1 k z fun a k=>nn (wp_block (c_loop (fun n a w=>∃ (Ac:Int),K 32 [(0,v2),(1,v6),(2,I Ab),(7,I Ac)] a ∧ St [] w0 w [] ∧ d_spec_l3Joins_L1 fu Ag Af Ab n Ac = some r) ?_ ?_ fu _ _ ?_))))))
 · rintro a w ⟨_,_,_,h⟩
   exact nS h
 · rintro Al a As ⟨Ac,k,m,h⟩
   rw [d_spec_l3Joins_L1_s] at h
   unfold d_spec_l3Joins_L1_B at h
   refine wp_seq (wr (pN 2 k z fun a k=>sv k z (r_len (α:=Int) Aa k underlying63 z z) fun a k=>pN 1 k z fun a k=>nn (cI h k z (fun Aj h=>?_) fun Aj h=>?_)))
   · refine wp_skip (nm_then ?_)
     refine c_cut (fun a w=>K 32 [(0,v2),(1,v6),(2,I Ab),(7,I Ac)] a ∧ St [] w0 w [] ∧ d_spec_l3Joins_J1 fu (d_spec_l3Joins_L1 fu Ag Af Ab Al) Ac = some r) ?_ ?_
     · rintro a Au ⟨k,m,h⟩
       unfold d_spec_l3Joins_J1 at h
       refine wp_region_lit (pN 3 k z fun a k=>nn ?_)
       exact ⟨w64 (Ac + 1),k.keep [0,1,2,7] z,m.sel [] z (by decide),h⟩
     refine wp_block (wr (pN 3 k z fun a k=>oE h fun Ar Ae h=>sv k z (r_ixa Aa Ae k ts63 z z z) fun a k=>sv k z (r_lde1 Aa (m.a00 (Enc.rd_lt Aa)) Ae 0 t13 k z z z z) fun a k=>pN 1 k z fun a k=>oE h fun Ao Ak h=>cE k m call177 z z z (c_spec_Beside fu _ _ _ (Enc.rd_agr Ah (m.a00 (Enc.rd_lt Ah))) Ak) fun Ap e a k m=>pN 2 k z fun a k=>bsplit (!Ao) (fun Ad=>?_) (fun Ad=>?_)))
     · have h:=bif_t Ad h
       refine rB k 22 z Ad fun k=>pN 9 k z fun a k=>nn (wp_cond_true (k.ev z) (wr (pN 1 k z fun a k=>nn (wp_ret (rt_block (rt_then (rt_then (rt_block (rt_then ?_)))))))))
       refine fS h k m z z
     have h:=bif_f Ad h
     refine rB k 22 z Ad fun k=>pN 4 k z fun a k=>oE h fun Aw At h=>sv k z (r_ixa Aa Ae k ts63 z z z) fun a k=>sv k z (r_lde1 Aa (m.a00 (Enc.rd_lt Aa)) Ae 0 t13 k z z z z) fun a k=>oE h fun Av Am h=>cE k m call177 z z z (c_spec_Beside fu _ _ _ (Enc.rd_agr Ah (m.a00 (Enc.rd_lt Ah))) Am) fun Aq e a k m=>pN 2 k z fun a k=>nn (cI h k z (fun Ai h=>?_) fun Ai h=>?_)
     · refine wr (pN 1 k z fun a k=>nn (wp_ret (rt_block (rt_then (rt_then (rt_block (rt_then ?_)))))))
       refine fS h k m z z
     refine wp_skip (nm_block (nm_then ?_))
     exact ⟨k.keep [0,1,2,7] z,m.sel [] z (by decide),h⟩
   refine wp_exit (ex_then (ex_then (ex_same (nm_then ?_))))
   refine wr (pN 1 k z fun a k=>nn (wp_ret (fS h k m z z)))
 exact ⟨0,k.keep [0,1,2,7] z,m.sel [] z (by decide),h⟩
theorem c_spec_Groups (fu:Nat) {w0:World} (Ad:List Pair) (Ah:List Int) {v2:Value} {F3:List Nat} (At:rd w0 F3 [v2] Ad) {v6:Value} {F7:List Nat} (Au:rd w0 F7 [v6] Ah) {r:(List (List Int))}
    (h:d_spec_Groups fu Ad Ah = some r) :
    Calls Tryz.prog 248 #[v2,v6] w0 fun e w=>∃ (v0:Value) (G0:List Nat),e = .returned (v0) ∧ Ext [] w0 w ∧ ow w G0 [v0] r ∧ (∀ b ∈ G0,w0.heap.size ≤ b):=by
 refine enter (vs:=[_,_]) func248 z ntmps248 z fun a k=>?_
 have m:=St.start w0
 unfold d_spec_Groups at h
 refine wr (pN 1 k z fun a k=>nn (wr (s_bs (cs:=[]) (ps:=[]) te29 m k z z z z z z z (by decide) z (by exact (List.forall_mem_nil _)) fun g9 Br De a k m e Ci=>?_)))
 have Co:=ow_bx0 (α:=List Int) Ci
 refine pN 1 k z fun a k=>nn (wp_seq (wr (pN 1 k z fun a k=>nn (wp_block (c_loop (fun n a w=>∃ (Ac:List (List Int)) (Ag:Value) (Ae:List Nat) (Ai:World) (Aa:Int),K 51 [(0,v2),(1,v6),(5,Ag),(6,I Aa)] a ∧ St [] w0 w [(Ae,Ai)] ∧ ow Ai Ae [Ag] Ac ∧ d_spec_Groups_L2 fu Ad Ah n Ac Aa = some r) ?_ ?_ fu _ _ ?_)))))
 · rintro a w ⟨_,_,_,_,_,_,_,_,h⟩
   exact nS h
 · rintro As a Cu ⟨Ac,Ag,Ae,Ai,Aa,k,m,Ab,h⟩
   rw [d_spec_Groups_L2_s] at h
   unfold d_spec_Groups_L2_B at h
   refine wp_seq (wr (pN 2 k z fun a k=>nn (cI h k z (fun Cl h=>?_) fun Cl h=>?_)))
   · refine wp_skip (nm_then ?_)
     refine c_cut (fun a w=>∃ (Am:List (List Int)) (Aq:Value) (Ao:List Nat) (Ap:World),K 51 [(0,v2),(1,v6),(5,Aq),(6,I Aa)] a ∧ St [] w0 w [(Ao,Ap)] ∧ ow Ap Ao [Aq] Am ∧ d_spec_Groups_J1 fu (d_spec_Groups_L2 fu Ad Ah As) Aa Am = some r) ?_ ?_
     · rintro a Cv ⟨Am,Aq,Ao,Ap,k,m,Bt,h⟩
       unfold d_spec_Groups_J1 at h
       refine wp_region_lit (pN 3 k z fun a k=>nn ?_)
       exact ⟨Am,Aq,Ao,Ap,w64 (Aa + 1),k.keep [0,1,5,6] z,m.sel [0] z (by decide),Bt,h⟩
     refine wp_block (wp_seq (wr (pN 2 k z fun a k=>oE h fun Dq Bv h=>cE k m call249 z z z (c_spec_l1Has fu _ _ (Enc.rd_agr Au (m.a00 (Enc.rd_lt Au))) Bv) fun Cz e a k m=>pN 1 k z fun a k=>nn (cI h k z (fun Bf h=>?_) fun Bf h=>?_))))
     · refine wp_exit (ex_then (ex_same (nm_then ?_)))
       exact ⟨Ac,Ag,Ae,Ai,k.keep [0,1,5,6] z,m.sel [0] z (by decide),Ab,h⟩
     refine wp_skip (nm_then ?_)
     refine wr (pN 1 k z fun a k=>nn (wp_seq (wr (pN 1 k z fun a k=>sv k z (r_len (α:=List Int) (Enc.ow_rd Ab) k underlying29 z z) fun a k=>pN 2 k z fun a k=>nn (wp_block (c_loop (fun n a w=>∃ (Aj:Int) (Af:Int),K 51 [(0,v2),(1,v6),(5,Ag),(6,I Aa),(7,I Aj),(8,I Af)] a ∧ St [] w0 w [(Ae,Ai)] ∧ d_spec_Groups_L1 fu (d_spec_Groups_L2 fu Ad Ah As) Ad Ac Aa n Aj Af = some r) ?_ ?_ fu _ _ ?_))))))
     · rintro a w ⟨_,_,_,_,h⟩
       exact nS h
     · rintro Bz a Ct ⟨Aj,Af,k,m,h⟩
       rw [d_spec_Groups_L1_s] at h
       unfold d_spec_Groups_L1_B at h
       refine wp_seq (wr (pN 2 k z fun a k=>nn (cI h k z (fun Bu h=>?_) fun Bu h=>?_)))
       · refine wp_skip (nm_then ?_)
         refine c_cut (fun a w=>∃ (Ak:Int),K 51 [(0,v2),(1,v6),(5,Ag),(6,I Aa),(7,I Ak),(8,I Af)] a ∧ St [] w0 w [(Ae,Ai)] ∧ d_spec_Groups_J2 fu (d_spec_Groups_L1 fu (d_spec_Groups_L2 fu Ad Ah As) Ad Ac Aa Bz) Af Ak = some r) ?_ ?_
         · rintro a Db ⟨Ak,k,m,h⟩
           unfold d_spec_Groups_J2 at h
           refine wp_region_lit (pN 3 k z fun a k=>nn ?_)
           exact ⟨Ak,w64 (Af - 1),k.keep [0,1,5,6,7,8] z,m.sel [0] z (by decide),h⟩
         refine wp_block (wr (pN 3 k z fun a k=>oE h fun Df Av h=>sv k z (r_ixa (Enc.ow_rd Ab) Av k ts29 z z z) fun a k=>?_))
         obtain ⟨Cx,Ca,Bb,Az,Bp,Cm⟩:=rd_get (Enc.ow_rd Ab) (ix_some Av).2.2
         obtain ⟨Dh,rfl⟩:∃ v,Ca = [v]:=by obtain ⟨_,_,hq,_⟩:=Az; exact ⟨_,hq⟩
         refine sv k z (r_ld1 t163 (Bp.agr (m.a 0 z) Cm) k z z) fun a k=>pN 1 k z fun a k=>oE h fun Dn Bw h=>cE k m call295 z z z (c_spec_l3Joins fu _ _ _ (Enc.rd_agr At (m.a00 (Enc.rd_lt At))) (Enc.rd_agr Az ((m.a 0 z).sub Bb)) Bw) fun Dg e a k m=>nn (cI h k z (fun Ba h=>?_) fun Ba h=>?_)
         · refine wp_region_lit (pN 2 k z fun a k=>wpList_nil (nm_block (nm_then ?_)))
           exact ⟨Af,k.keep [0,1,5,6,7,8] z,m.sel [0] z (by decide),h⟩
         refine wp_skip (nm_block (nm_then ?_))
         exact ⟨Aj,k.keep [0,1,5,6,7,8] z,m.sel [0] z (by decide),h⟩
       refine wp_exit (ex_then (ex_then (ex_same (nm_then ?_))))
       refine wr (pN 2 k z fun a k=>nn (cI h k z (fun Cc h=>?_) fun Cc h=>?_))
       · refine wp_region_lit (pN 2 k z fun a k=>s_bs (cs:=[I Aa]) (ps:=[(0,.tmp 36)]) te63 m k z z z z z z z (by decide) z (by exact (List.forall_mem_cons.2 ⟨z,(List.forall_mem_nil _)⟩)) fun Aw Dc Dj a k m e Cf=>?_)
         have Ay:=ow_bx Cf ([Aa]:List Int) z z z
         refine s_bs (cs:=[(.slice (some ⟨Aw,0,none⟩) 1 1)]) (ps:=[(0,.tmp 37)]) te29 m k z z z z z z z (by decide) z (by exact (List.forall_mem_cons.2 ⟨congrArg Array.size (rd_c (Enc.ow_rd Ay)),(List.forall_mem_nil _)⟩)) fun Dl Dd Ds a k m e Bl=>oE h fun Bh Cj h=>?_
         have Bc:=Enc.ow_agr Ay (m.a 1 z)
         have Cd:=News.box Bl (m.a 0 z) (by simp) (m:=1)
         have Bx:=m.a 2 z
         have m:=m.sel [2,1,0] z (by decide)
         have m:=m.join2
         refine s_appO (F:=Ae) (G:=[Aw]) Cj te29 z m Ab Bx Cd Bc (Agr.refl _ _) k z z z z z z fun Cq Cn Cp a k e m Bs=>pN 1 k z fun a k=>wpList_nil (nm_block (nm_then ?_))
         exact ⟨Bh,Cq,Cn,Cp,k.keep [0,1,5,6] z,m.sel [0] z (by decide),Bs,h⟩
       refine wp_region_lit (pN 4 k z fun a k=>oE h fun Cs Al h=>sv k z (r_ixa (Enc.ow_rd Ab) Al k ts29 z z z) fun a k=>?_)
       obtain ⟨Da,Bi,Dk,Bn,Ax,Cb⟩:=rd_get (Enc.ow_rd Ab) (ix_some Al).2.2
       obtain ⟨Cr,rfl⟩:∃ v,Bi = [v]:=by obtain ⟨_,_,hq,_⟩:=Bn; exact ⟨_,hq⟩
       refine sv k z (r_ld1 t163 (Ax.agr (m.a 0 z) Cb) k z z) fun a k=>pN 1 k z fun a k=>s_bs (cs:=[I Aa]) (ps:=[(0,.tmp 46)]) te63 m k z z z z z z z (by decide) z (by exact (List.forall_mem_cons.2 ⟨z,(List.forall_mem_nil _)⟩)) fun Bm Bo Dm a k m e Bj=>?_
       have Cg:=ow_bx Bj ([Aa]:List Int) z z z
       obtain ⟨Dr,Cy,m,Bq,Be⟩:=m.opn 1 z Ab Al Ax z (M':=[([Bm],Bo)]) z
       refine oE h fun By Bk h=>s_appF Bk te63 z m 1 Be (News.rd (Enc.rd_agr (Enc.ow_rd Cg) (m.a 2 z))) z z k z z z z z z z fun Ck Cw Do a k e m Ar=>oE h fun Dp Di h=>sv k z (r_ixa (Enc.ow_rd Ab) Al k ts29 z z z) fun a k=>s_stH1 (α:=List Int) (sz:=1) (cs':=[Ck]) sizeOf63 m 0 Bq 0 k (rd_c (Enc.ow_rd Ar)) (rd_o (Enc.ow_rd Ar)) z z z z z z z z z z fun Ch a k e m Ce=>?_
       obtain ⟨Bd,m,Bg⟩:=(m.sel [0,1,2] z (by decide)).cls Ce Ar
       refine wpList_nil (nm_block (nm_then ?_))
       exact ⟨setx Ac Aj By,Ag,Bd,Ch,k.keep [0,1,5,6] z,m.sel [0] z (by decide),Bg,h⟩
     exact ⟨(-1),w64 (((Ac.length:Int)) - 1),k.keep [0,1,5,6,7,8] z,m.sel [0] z (by decide),h⟩
   refine wp_exit (ex_then (ex_then (ex_same (nm_then ?_))))
   refine wr (pN 2 k z fun a k=>nn (wp_ret ?_))
   cases h
   exact finR1 k z (RV.tmp k z) ⟨_,Ae,z,m.ext,(Enc.ow_agr Ab (m.a 0 z)),(m.fresh 0 z)⟩
 exact ⟨([]:List (List Int)),(.slice (some ⟨g9,0,none⟩) 0 0),[g9],Br,0,k.keep [0,1,5,6] z,m.sel [0] z (by decide),Co,h⟩
theorem c_spec_GroupsOf (fu:Nat) {w0:World} (r1:Request) {Ak:List Value} {F3:List Nat} (Ap:rd w0 F3 Ak r1) {r:(List (List Int))}
    (h:d_spec_GroupsOf fu r1 = some r) :
    Calls Tryz.prog 167 #[.agg Ak.toArray] w0 fun e w=>∃ (v0:Value) (G0:List Nat),e = .returned (v0) ∧ Ext [] w0 w ∧ ow w G0 [v0] r ∧ (∀ b ∈ G0,w0.heap.size ≤ b):=by
 refine enter (vs:=[_]) func167 z ntmps167 z fun a k=>?_
 have m:=St.start w0
 obtain ⟨v5,F6,v7,F8,v9,As,rfl,rfl,Aa,Ae,Ai⟩:=Ap
 unfold d_spec_GroupsOf at h
 refine wr (s_box (cs:=[I r1.fWay,I r1.fPallet.fW,I r1.fPallet.fD,I r1.fPallet.fH,I r1.fPallet.fGram,I r1.fClasses,v5,v7,I r1.fMaster,v9]) m k z z z z z z fun Ax Ay a k m e Ah=>pN 1 k z fun a k=>nn (wp_seq (d_go [] mixo m z fun Ao hMd=>?_)))
 have m:=hMd
 have s:=Ext.refl ([]:List Nat) Ao
 refine dt k 0 z (by kernel_rfl) z s (fun _ _ _=>id) (fun w s=>r_fa fa38_3 k z z) fun a k=>dt k 1 z (by kernel_rfl) z s (fun _ _ _=>id) (fun w s=>r_ld1 t134 (r:=[]) (Ah.at ((hMd.step s).a 0 z) 6 1 z z z) k z z) fun a k=>dt k 2 z (by kernel_rfl) z s (fun _ _ _=>id) (fun w s=>r_ldA ta38 (Ah.at ((hMd.step s).a 0 z) 0 10 z z z) z k z z) fun a k=>d_one 3 (by kernel_rfl) z (oE h fun At Al h=>?_)
 refine s_call k call70 z z z z z (c_spec_Present fu _ (show rd _ _ [I r1.fWay,I r1.fPallet.fW,I r1.fPallet.fD,I r1.fPallet.fH,I r1.fPallet.fGram,I r1.fClasses,v5,v7,I r1.fMaster,v9] (r1:Request) from ⟨_,_,_,_,_,_,z,z,(Enc.rd_agr Aa (m.a00 (Enc.rd_lt Aa))),(Enc.rd_agr Ae (m.a00 (Enc.rd_lt Ae))),(Enc.rd_agr Ai (m.a00 (Enc.rd_lt Ai)))⟩) Al) fun Au Aw hR=>?_
 obtain ⟨Az,Ag,rfl,e,Ac,Aj⟩:=hR
 refine ⟨_,z,fun a k=>?_⟩
 have m:=m.new e Ag (fun b hb=>⟨Aj b hb,Enc.rd_lt (Enc.ow_rd Ac) b hb⟩) (Enc.ow_nd Ac)
 have Ba:=fun (y:Nat) (hy:y ∈ Ag)=>Nat.le_trans s.size (Aj y hy)
 have s:=s.trans e (by simp)
 refine wpList_nil ⟨s,?_⟩
 refine d_one 4 (by kernel_rfl) z (oE h fun Bc Am h=>s_call k call248 z z z z z (c_spec_Groups fu _ _ (Enc.rd_agr Aa (m.a00 (Enc.rd_lt Aa))) (Enc.rd_agr (Enc.ow_rd Ac) (m.a 0 z)) Am) fun Ar Av hR=>?_)
 obtain ⟨Bb,Ad,rfl,e,Ab,Af⟩:=hR
 refine ⟨_,z,fun a k=>?_⟩
 have m:=m.new e Ad (fun b hb=>⟨Af b hb,Enc.rd_lt (Enc.ow_rd Ab) b hb⟩) (Enc.ow_nd Ab)
 have Aq:=fun (y:Nat) (hy:y ∈ Ad)=>Nat.le_trans s.size (Af y hy)
 have s:=s.trans e (by simp)
 refine wpList_nil ⟨s,?_⟩
 refine dN [5] 1 z k (by kernel_rfl) z s (fun _ _ _ _ _=>id) fun a k=>d_done (by kernel_rfl) ((nm_then ?_))
 refine wp_ret ?_
 cases h
 exact finR1 k z (RV.tmp k z) ⟨_,Ad,z,m.ext,(Enc.ow_agr Ab (m.a 0 z)),(m.fresh 0 z)⟩
theorem c_spec_GroupOf (fu:Nat) {w0:World} (Ae:List (List Int)) (Ab:Int) {v2:Value} {F3:List Nat} (Ac:rd w0 F3 [v2] Ae) {r:Int}
    (h:d_spec_GroupOf fu Ae Ab = some r) :
    Calls Tryz.prog 169 #[v2,I Ab] w0 fun e w=>e = .returned (I r) ∧ Ext [] w0 w:=by
 refine enter (vs:=[_,_]) func169 z ntmps169 z fun a k=>?_
 have m:=St.start w0
 unfold d_spec_GroupOf at h
 refine wr (pN 1 k z fun a k=>nn (wp_seq (wr (pN 1 k z fun a k=>nn (wp_block (c_loop (fun n a w=>∃ (Aa:Int),K 19 [(0,v2),(1,I Ab),(5,I Aa)] a ∧ St [] w0 w [] ∧ d_spec_GroupOf_L1 fu Ae Ab n Aa = some r) ?_ ?_ fu _ _ ?_))))))
 · rintro a w ⟨_,_,_,h⟩
   exact nS h
 · rintro Ao a Ap ⟨Aa,k,m,h⟩
   rw [d_spec_GroupOf_L1_s] at h
   unfold d_spec_GroupOf_L1_B at h
   refine wp_seq (wr (pN 2 k z fun a k=>sv k z (r_len (α:=List Int) Ac k underlying29 z z) fun a k=>pN 1 k z fun a k=>nn (cI h k z (fun Al h=>?_) fun Al h=>?_)))
   · refine wp_skip (nm_then ?_)
     refine wp_seq (wp_block (wr (pN 2 k z fun a k=>oE h fun As Af h=>sv k z (r_ixa Ac Af k ts29 z z z) fun a k=>?_)))
     obtain ⟨Au,Ag,At,Ad,Ai,Ak⟩:=rd_get Ac (ix_some Af).2.2
     obtain ⟨Ar,rfl⟩:∃ v,Ag = [v]:=by obtain ⟨_,_,hq,_⟩:=Ad; exact ⟨_,hq⟩
     refine sv k z (r_ld1 t163 (Ai.agr (m.a00 (Enc.rd_lt Ac)) Ak) k z z) fun a k=>pN 1 k z fun a k=>oE h fun Aq Aj h=>cE k m call249 z z z (c_spec_l1Has fu _ _ (Enc.rd_agr Ad (m.a00 (Enc.rd_lt Ad))) Aj) fun Am e a k m=>nn (cI h k z (fun Ah h=>?_) fun Ah h=>?_)
     · refine wr (pN 2 k z fun a k=>nn (wp_ret (rt_block (rt_then (rt_then (rt_block (rt_then ?_)))))))
       refine fS h k m z z
     refine wp_skip (nm_block (nm_then ?_))
     refine wp_region_lit (pN 3 k z fun a k=>nn ?_)
     exact ⟨w64 (Aa + 1),k.keep [0,1,5] z,m.sel [] z (by decide),h⟩
   refine wp_exit (ex_then (ex_then (ex_same (nm_then ?_))))
   refine wr (pN 1 k z fun a k=>nn (wp_ret (fS h k m z z)))
 exact ⟨0,k.keep [0,1,5] z,m.sel [] z (by decide),h⟩
theorem c_spec_l15Group (fu:Nat) {w0:World} (r1:Request) (Ab:List Int) (x9:Plan) {Bj:List Value} {F3:List Nat} (Bp:rd w0 F3 Bj r1) {v6:Value} {F7:List Nat} (Aw:rd w0 F7 [v6] Ab) {Bi:List Value} {Bq:List Nat} (Bt:rd w0 Bq Bi x9) {r:Bool}
    (h:d_spec_l15Group fu r1 Ab x9 = some r) :
    Calls Tryz.prog 108 #[.agg Bj.toArray,v6,.agg Bi.toArray] w0 fun e w=>e = .returned (.bool (r)) ∧ Ext [] w0 w:=by
 refine enter (vs:=[_,_,_]) func108 z ntmps108 z fun a k=>?_
 have m:=St.start w0
 obtain ⟨Ax,Dk,Au,Dq,Av,Cs,rfl,rfl,Ak,Am,Al⟩:=Bp
 obtain ⟨Cp,Dv,Cc,Cx,rfl,rfl,Af,Di⟩:=Bt
 unfold d_spec_l15Group at h
 refine wr (s_box (cs:=[I r1.fWay,I r1.fPallet.fW,I r1.fPallet.fD,I r1.fPallet.fH,I r1.fPallet.fGram,I r1.fClasses,Ax,Au,I r1.fMaster,Av]) m k z z z z z z fun Ad Aq a k m e Bf=>s_box (cs:=[Cp,Cc]) m k z z z z z z fun Ac Ar a k m e Ay=>pN 1 k z fun a k=>nn (wr (sv k z (r_ldB ta38 m 1 Bf 0 k z z z z z z) fun a k=>oE h fun Ae Bn h=>?_)))
 refine s_call k call167 z z z z z (c_spec_GroupsOf fu _ (show rd _ _ [I r1.fWay,I r1.fPallet.fW,I r1.fPallet.fD,I r1.fPallet.fH,I r1.fPallet.fGram,I r1.fClasses,Ax,Au,I r1.fMaster,Av] (r1:Request) from ⟨_,_,_,_,_,_,z,z,(Enc.rd_agr Ak (m.a00 (Enc.rd_lt Ak))),(Enc.rd_agr Am (m.a00 (Enc.rd_lt Am))),(Enc.rd_agr Al (m.a00 (Enc.rd_lt Al)))⟩) Bn) fun Dx Ap hR=>?_
 obtain ⟨As,Ao,rfl,e,Bb,Bx⟩:=hR
 refine ⟨_,z,fun a k=>?_⟩
 have m:=m.new e Ao (fun b hb=>⟨Bx b hb,Enc.rd_lt (Enc.ow_rd Bb) b hb⟩) (Enc.ow_nd Bb)
 refine pN 1 k z fun a k=>nn (wp_seq (wr (pN 1 k z fun a k=>nn (wp_block (c_loop (fun n a w=>∃ (Aa:Int),K 58 [(1,v6),(3,.pointer (some (⟨Ad,0,none⟩:Addr))),(5,.pointer (some (⟨Ac,0,none⟩:Addr))),(7,As),(8,I Aa)] a ∧ St [] w0 w [([Ad],Aq),([Ac],Ar),(Ao,Ap)] ∧ d_spec_l15Group_L2 fu r1 Ab x9 Ae n Aa = some r) ?_ ?_ fu _ _ ?_)))))
 · rintro a w ⟨_,_,_,h⟩
   exact nS h
 · rintro Az a Dt ⟨Aa,k,m,h⟩
   rw [d_spec_l15Group_L2_s] at h
   unfold d_spec_l15Group_L2_B at h
   refine wp_seq (wr (pN 1 k z fun a k=>sv k z (r_fa fa58_0 k z z) fun a k=>sv k z (r_ldb t155 m 1 Ay 0 k z z z z z) fun a k=>sv k z (r_len (α:=Carton) Af k underlying55 z z) fun a k=>pN 1 k z fun a k=>nn (cI h k z (fun Ci h=>?_) fun Ci h=>?_)))
   · refine wp_skip (nm_then ?_)
     refine c_cut (fun a w=>K 58 [(1,v6),(3,.pointer (some (⟨Ad,0,none⟩:Addr))),(5,.pointer (some (⟨Ac,0,none⟩:Addr))),(7,As),(8,I Aa)] a ∧ St [] w0 w [([Ad],Aq),([Ac],Ar),(Ao,Ap)] ∧ d_spec_l15Group_J1 fu (d_spec_l15Group_L2 fu r1 Ab x9 Ae Az) Aa = some r) ?_ ?_
     · rintro a Ds ⟨k,m,h⟩
       unfold d_spec_l15Group_J1 at h
       refine wp_region_lit (pN 3 k z fun a k=>nn ?_)
       exact ⟨w64 (Aa + 1),k.keep [1,3,5,7,8] z,m.sel [0,1,2] z (by decide),h⟩
     refine wp_block (wr (pN 1 k z fun a k=>nn (wp_block (c_loop (fun n a w=>∃ (Ah:Int),K 58 [(1,v6),(3,.pointer (some (⟨Ad,0,none⟩:Addr))),(5,.pointer (some (⟨Ac,0,none⟩:Addr))),(7,As),(8,I Aa),(9,I Ah)] a ∧ St [] w0 w [([Ad],Aq),([Ac],Ar),(Ao,Ap)] ∧ d_spec_l15Group_L1 fu (d_spec_l15Group_L2 fu r1 Ab x9 Ae Az) r1 Ab x9 Ae Aa n Ah = some r) ?_ ?_ fu _ _ ?_))))
     · rintro a w ⟨_,_,_,h⟩
       exact nS h
     · rintro Bh a De ⟨Ah,k,m,h⟩
       rw [d_spec_l15Group_L1_s] at h
       unfold d_spec_l15Group_L1_B at h
       refine wp_seq (wr (pN 1 k z fun a k=>sv k z (r_fa fa58_0 k z z) fun a k=>sv k z (r_ldb t155 m 1 Ay 0 k z z z z z) fun a k=>pN 1 k z fun a k=>oE h fun Dm Bc h=>sv k z (r_ixa Af Bc k ts55 z z z) fun a k=>sv k z (r_fa fa83_2 k z z) fun a k=>?_))
       obtain ⟨Du,Dl,Dj,Bu,Be,Bk⟩:=rd_get Af (ix_some Bc).2.2
       obtain ⟨Cv,_,rfl,rfl,At⟩:=Bu
       refine sv k z (r_ld1 t163 ((Be.agr (m.a00 (Enc.rd_lt Af)) Bk).fld 2 1 (Nat.le_of_ble_eq_true z)) k z z) fun a k=>sv k z (r_len (α:=Int) At k underlying63 z z) fun a k=>pN 1 k z fun a k=>nn (cI h k z (fun Cb h=>?_) fun Cb h=>?_)
       · refine wp_skip (nm_then ?_)
         refine c_cut (fun a w=>K 58 [(1,v6),(3,.pointer (some (⟨Ad,0,none⟩:Addr))),(5,.pointer (some (⟨Ac,0,none⟩:Addr))),(7,As),(8,I Aa),(9,I Ah)] a ∧ St [] w0 w [([Ad],Aq),([Ac],Ar),(Ao,Ap)] ∧ d_spec_l15Group_J2 fu (d_spec_l15Group_L1 fu (d_spec_l15Group_L2 fu r1 Ab x9 Ae Az) r1 Ab x9 Ae Aa Bh) Ah = some r) ?_ ?_
         · rintro a Dn ⟨k,m,h⟩
           unfold d_spec_l15Group_J2 at h
           refine wp_region_lit (pN 3 k z fun a k=>nn ?_)
           exact ⟨w64 (Ah + 1),k.keep [1,3,5,7,8,9] z,m.sel [0,1,2] z (by decide),h⟩
         refine wp_block (c_cut (fun a w=>∃ (Ag:Item) (Ba:Nat) (Bd:World),K 58 [(1,v6),(3,.pointer (some (⟨Ad,0,none⟩:Addr))),(5,.pointer (some (⟨Ac,0,none⟩:Addr))),(7,As),(8,I Aa),(9,I Ah),(10,.pointer (some (⟨Ba,0,none⟩:Addr)))] a ∧ St [] w0 w [([Ad],Aq),([Ac],Ar),(Ao,Ap),([Ba],Bd)] ∧ bx Bd Ba [I Ag.fId,I Ag.fW,I Ag.fH,I Ag.fD,I Ag.fGram,I Ag.fClass,I Ag.fCount] 158 ∧ d_spec_l15Group_J3 fu (d_spec_l15Group_L1 fu (d_spec_l15Group_L2 fu r1 Ab x9 Ae Az) r1 Ab x9 Ae Aa Bh) x9 Ae Aa Ah Ag = some r) ?_ ?_)
         · rintro a Dd ⟨Ag,Ba,Bd,k,m,Bv,h⟩
           unfold d_spec_l15Group_J3 at h
           refine wp_seq (d_go [] mixo m z fun By hMd=>?_)
           have m:=hMd
           have s:=Ext.refl ([]:List Nat) By
           refine dN [0,6] 2 z k (by kernel_rfl) z s (fun _ _ _ _ _=>id) fun a k=>dt k 1 z (by kernel_rfl) z s (fun _ _ _=>id) (fun w s=>r_fa fa158_5 k z z) fun a k=>dt k 2 z (by kernel_rfl) z s (fun _ _ _=>id) (fun w s=>r_ld1 t13 (r:=[]) (Bv.at ((hMd.step s).a 3 z) 5 1 z z z) k z z) fun a k=>dt k 4 z (by kernel_rfl) z s (fun _ _ _=>id) (fun w s=>r_fa fa58_0 k z z) fun a k=>dt k 5 z (by kernel_rfl) z s (fun _ _ _=>id) (fun w s=>r_ld1 t155 (r:=[]) (Ay.at ((hMd.step s).a 1 z) 0 1 z z z) k z z) fun a k=>oE h fun Dc Bg h=>dt k 7 z (by kernel_rfl) z s (fun _ _ _=>id) (fun w s=>r_ixa Af Bg k ts55 z z z) fun a k=>dt k 8 z (by kernel_rfl) z s (fun _ _ _=>id) (fun w s=>r_fa fa83_1 k z z) fun a k=>?_
           obtain ⟨Dp,Dr,Ct,Ch,Co,Bs⟩:=rd_get Af (ix_some Bg).2.2
           obtain ⟨Cu,_,rfl,rfl,Cz⟩:=Ch
           refine dt k 9 z (by kernel_rfl) z s (fun _ _ _=>id) (fun w s=>r_ld1 t13 ((Co.agr ((hMd.step s).a00 (Enc.rd_lt Af)) Bs).fld 1 1 (Nat.le_of_ble_eq_true z)) k z z) fun a k=>d_one 3 (by kernel_rfl) z (oE h fun Dg Cm h=>cE k m call169 z z z (c_spec_GroupOf fu _ _ (Enc.rd_agr (Enc.ow_rd Bb) (m.a 2 z)) Cm) fun Cw e a k m=>?_)
           have s:=s.trans e (by simp)
           refine wpList_nil ⟨s,?_⟩
           refine dN [10] 1 z k (by kernel_rfl) z s (fun _ _ _ _ _=>id) fun a k=>d_done (by kernel_rfl) ((nm_then ?_))
           refine cI h k z (fun Ca h=>?_) fun Ca h=>?_
           · refine wr (pN 1 k z fun a k=>nn (wp_ret (rt_block (rt_then (rt_then (rt_block (rt_block (rt_then (rt_then (rt_block (rt_then ?_)))))))))))
             refine fS h k m z z
           refine wp_skip (nm_block (nm_then ?_))
           exact ⟨k.keep [1,3,5,7,8,9] z,m.sel [0,1,2] z (by decide),h⟩
         refine d_go [] mixo m z fun Bo hMd=>?_
         have m:=hMd
         have s:=Ext.refl ([]:List Nat) Bo
         refine dN [1,4,8] 3 z k (by kernel_rfl) z s (fun _ _ _ _ _=>id) fun a k=>dt k 0 z (by kernel_rfl) z s (fun _ _ _=>id) (fun w s=>r_ldA ta38 (Bf.at ((hMd.step s).a 0 z) 0 10 z z z) z k z z) fun a k=>dt k 2 z (by kernel_rfl) z s (fun _ _ _=>id) (fun w s=>r_fa fa58_0 k z z) fun a k=>dt k 3 z (by kernel_rfl) z s (fun _ _ _=>id) (fun w s=>r_ld1 t155 (r:=[]) (Ay.at ((hMd.step s).a 1 z) 0 1 z z z) k z z) fun a k=>oE h fun Cy Da h=>dt k 5 z (by kernel_rfl) z s (fun _ _ _=>id) (fun w s=>r_ixa Af Bc k ts55 z z z) fun a k=>dt k 6 z (by kernel_rfl) z s (fun _ _ _=>id) (fun w s=>r_fa fa83_2 k z z) fun a k=>?_
         refine dt k 7 z (by kernel_rfl) z s (fun _ _ _=>id) (fun w s=>r_ld1 t163 ((Be.agr ((hMd.step s).a00 (Enc.rd_lt Af)) Bk).fld 2 1 (Nat.le_of_ble_eq_true z)) k z z) fun a k=>oE h fun Df Bl h=>dt k 9 z (by kernel_rfl) z s (fun _ _ _=>id) (fun w s=>r_ixa At Bl k ts63 z z z) fun a k=>dt k 10 z (by kernel_rfl) z s (fun _ _ _=>id) (fun w s=>r_lde1 At ((hMd.step s).a00 (Enc.rd_lt At)) Bl 0 t13 k z z z z) fun a k=>d_two 11 15 (by kernel_rfl) z z ?_ ?_ 
         · refine oE h fun Ai Cl h=>cE k m call168 z z z (c_spec_l6Item fu _ _ _ (show rd _ _ [I r1.fWay,I r1.fPallet.fW,I r1.fPallet.fD,I r1.fPallet.fH,I r1.fPallet.fGram,I r1.fClasses,Ax,Au,I r1.fMaster,Av] (r1:Request) from ⟨_,_,_,_,_,_,z,z,(Enc.rd_agr Ak (m.a00 (Enc.rd_lt Ak))),(Enc.rd_agr Am (m.a00 (Enc.rd_lt Am))),(Enc.rd_agr Al (m.a00 (Enc.rd_lt Al)))⟩) (Enc.rd_agr Aw (m.a00 (Enc.rd_lt Aw))) Cl) fun Dw e a k m=>?_
           have s:=s.trans e (by simp)
           refine wpList_nil ⟨s,?_⟩
           refine dN [12,13,14] 3 z k (by kernel_rfl) z s (fun _ _ _ _ _=>id) fun a k=>d_one 15 (by kernel_rfl) z (s_allocN (cs:=[I 0,I 0,I 0,I 0,I 0,I 0,I 0]) m k zeroValue158 z z z z z fun Cn Db a k m e Bm Ck=>?_)
           have Ce:=lo1 (Nat.le_trans s.size Ck)
           have s:=s.trans e (by simp)
           refine wpList_nil ⟨s,?_⟩
           refine d_one 16 (by kernel_rfl) z (s_stb (cs':=[I Ai.1.fId,I Ai.1.fW,I Ai.1.fH,I Ai.1.fD,I Ai.1.fGram,I Ai.1.fClass,I Ai.1.fCount]) sizeOf158 m 0 Bm 0 k z z z z z z z z z z z fun Bz a k e m Cf=>?_)
           have s:=s.trans e (fun y hy=>Or.inr (Ce y hy))
           refine wpList_nil ⟨s,?_⟩
           refine dN [17] 1 z k (by kernel_rfl) z s (fun _ _ _ _ _=>id) fun a k=>d_done (by kernel_rfl) ?_
           have k:=k.keep [1,3,5,7,8,9,10] z
           refine (nm_then ?_)
           exact ⟨Ai.1,Cn,Bz,k.keep [1,3,5,7,8,9,10] z,m.sel [1,2,3,0] z (by decide),Cf,h⟩
         refine s_allocN (cs:=[I 0,I 0,I 0,I 0,I 0,I 0,I 0]) m k zeroValue158 z z z z z fun Cq Do a k m e Bw Br=>?_
         have Cd:=lo1 (Nat.le_trans s.size Br)
         have s:=s.trans e (by simp)
         refine wpList_nil ⟨s,?_⟩
         refine d_one 11 (by kernel_rfl) z (oE h fun Aj Cg h=>cE k m call168 z z z (c_spec_l6Item fu _ _ _ (show rd _ _ [I r1.fWay,I r1.fPallet.fW,I r1.fPallet.fD,I r1.fPallet.fH,I r1.fPallet.fGram,I r1.fClasses,Ax,Au,I r1.fMaster,Av] (r1:Request) from ⟨_,_,_,_,_,_,z,z,(Enc.rd_agr Ak (m.a00 (Enc.rd_lt Ak))),(Enc.rd_agr Am (m.a00 (Enc.rd_lt Am))),(Enc.rd_agr Al (m.a00 (Enc.rd_lt Al)))⟩) (Enc.rd_agr Aw (m.a00 (Enc.rd_lt Aw))) Cg) fun Dh e a k m=>?_)
         have s:=s.trans e (by simp)
         refine wpList_nil ⟨s,?_⟩
         refine dN [12,13,14] 3 z k (by kernel_rfl) z s (fun _ _ _ _ _=>id) fun a k=>d_one 16 (by kernel_rfl) z (s_stb (cs':=[I Aj.1.fId,I Aj.1.fW,I Aj.1.fH,I Aj.1.fD,I Aj.1.fGram,I Aj.1.fClass,I Aj.1.fCount]) sizeOf158 m 0 Bw 0 k z z z z z z z z z z z fun Cj a k e m Cr=>?_)
         have s:=s.trans e (fun y hy=>Or.inr (Cd y hy))
         refine wpList_nil ⟨s,?_⟩
         refine dN [17] 1 z k (by kernel_rfl) z s (fun _ _ _ _ _=>id) fun a k=>d_done (by kernel_rfl) ?_
         have k:=k.keep [1,3,5,7,8,9,10] z
         refine (nm_then ?_)
         exact ⟨Aj.1,Cq,Cj,k.keep [1,3,5,7,8,9,10] z,m.sel [1,2,3,0] z (by decide),Cr,h⟩
       refine wp_exit (ex_then (ex_then (ex_same (nm_block (nm_then ?_)))))
       exact ⟨k.keep [1,3,5,7,8] z,m.sel [0,1,2] z (by decide),h⟩
     exact ⟨0,k.keep [1,3,5,7,8,9] z,m.sel [0,1,2] z (by decide),h⟩
   refine wp_exit (ex_then (ex_then (ex_same (nm_then ?_))))
   refine wr (pN 1 k z fun a k=>nn (wp_ret (fS h k m z z)))
 exact ⟨0,k.keep [1,3,5,7,8] z,m.sel [2,1,0] z (by decide),h⟩
theorem c_spec_Cheapest (fu:Nat) {w0:World} (r1:Request) (Aq:List Int) {Ay:List Value} {F3:List Nat} (Bv:rd w0 F3 Ay r1) {v6:Value} {F7:List Nat} (Av:rd w0 F7 [v6] Aq) {r:Typ × Bool}
    (h:d_spec_Cheapest fu r1 Aq = some r) :
    Calls Tryz.prog 204 #[.agg Ay.toArray,v6] w0 fun e w=>e = .returned (.tuple #[.agg (Flat.e r.1).toArray,.bool (r.2)]) ∧ Ext [] w0 w:=by
 refine enter (vs:=[_,_]) func204 z ntmps204 z fun a k=>?_
 have m:=St.start w0
 obtain ⟨v9,Bz,Bc,Cg,Ba,Ce,rfl,rfl,Bb,Ai,Ax⟩:=Bv
 unfold d_spec_Cheapest at h
 refine wr (s_box (cs:=[I r1.fWay,I r1.fPallet.fW,I r1.fPallet.fD,I r1.fPallet.fH,I r1.fPallet.fGram,I r1.fClasses,v9,Bc,I r1.fMaster,Ba]) m k z z z z z z fun Ao Aw a k m e At=>s_alloc (cs:=[I 0,I 0,I 0,I 0,I 0,I 0,I 0]) m k zeroValue79 z z z z z fun Ap Az a k m e Be=>pN 1 k z fun a k=>nn (wr (sv k z (r_build bt79 k (cs:=#[I 0,I 0,I 0,I 0,I 0,I 0,I 0]) (ps:=[]) z z (by kernel_rfl)) fun a k=>?_)))
 refine s_alloc (cs:=[I 0,I 0,I 0,I 0,I 0,I 0,I 0]) m k zeroValue79 z z z z z fun Ag Bx a k m e Bt=>s_stb (cs':=[I 0,I 0,I 0,I 0,I 0,I 0,I 0]) sizeOf79 m 0 Bt 0 k z z z z z z z z z z z fun Br a k e m Bi=>nn (wr (pN 1 k z fun a k=>nn (wp_seq (wr (pN 1 k z fun a k=>nn (wp_block ?_))))))
 refine c_loop (fun n a w=>∃ (Ab:Typ) (Ah:World) (Af:Bool) (Aj:Int),K 54 [(1,v6),(2,.pointer (some (⟨Ao,0,none⟩:Addr))),(4,.pointer (some (⟨Ap,0,none⟩:Addr))),(6,.pointer (some (⟨Ag,0,none⟩:Addr))),(7,.bool (Af)),(8,I Aj)] a ∧ St [] w0 w [([Ao],Aw),([Ap],Az),([Ag],Ah)] ∧ bx Ah Ag [I Ab.fId,I Ab.fW,I Ab.fH,I Ab.fD,I Ab.fTare,I Ab.fGram,I Ab.fCost] 79 ∧ d_spec_Cheapest_L1 fu r1 Aq n Ab Af Aj = some r) ?_ ?_ fu _ _ ?_
 · rintro a w ⟨_,_,_,_,_,_,_,h⟩
   exact nS h
 · rintro Bu a Cb ⟨Ab,Ah,Af,Aj,k,m,Ad,h⟩
   rw [d_spec_Cheapest_L1_s] at h
   unfold d_spec_Cheapest_L1_B at h
   refine wp_seq (wr (pN 1 k z fun a k=>sv k z (r_fa fa38_4 k z z) fun a k=>sv k z (r_ldb t135 m 0 At 7 k z z z z z) fun a k=>sv k z (r_len (α:=Typ) Ai k underlying35 z z) fun a k=>pN 1 k z fun a k=>nn (cI h k z (fun Bh h=>?_) fun Bh h=>?_)))
   · refine wp_skip (nm_then ?_)
     refine c_cut (fun a w=>∃ (Ac:Typ) (As:World) (Ar:Bool),K 54 [(1,v6),(2,.pointer (some (⟨Ao,0,none⟩:Addr))),(4,.pointer (some (⟨Ap,0,none⟩:Addr))),(6,.pointer (some (⟨Ag,0,none⟩:Addr))),(7,.bool (Ar)),(8,I Aj)] a ∧ St [] w0 w [([Ao],Aw),([Ap],Az),([Ag],As)] ∧ bx As Ag [I Ac.fId,I Ac.fW,I Ac.fH,I Ac.fD,I Ac.fTare,I Ac.fGram,I Ac.fCost] 79 ∧ d_spec_Cheapest_J1 fu (d_spec_Cheapest_L1 fu r1 Aq Bu) Aj Ac Ar = some r) ?_ ?_
     · rintro a Cf ⟨Ac,As,Ar,k,m,Bd,h⟩
       unfold d_spec_Cheapest_J1 at h
       refine wp_region_lit (pN 3 k z fun a k=>nn ?_)
       exact ⟨Ac,As,Ar,w64 (Aj + 1),k.keep [1,2,4,6,7,8] z,m.sel [0,1,2] z (by decide),Bd,h⟩
     refine wp_block (wr (sv k z (r_fa fa38_4 k z z) fun a k=>sv k z (r_ldb t135 m 0 At 7 k z z z z z) fun a k=>pN 1 k z fun a k=>oE h fun Aa Au h=>sv k z (r_ixa Ai Au k ts35 z z z) fun a k=>sv k z (r_lde Ai (m.a00 (Enc.rd_lt Ai)) Au ta79 k z z) fun a k=>s_alloc (cs:=[I 0,I 0,I 0,I 0,I 0,I 0,I 0]) m k zeroValue79 z z z z z fun Bw By a k m e Bm=>s_stb (cs':=[I Aa.fId,I Aa.fW,I Aa.fH,I Aa.fD,I Aa.fTare,I Aa.fGram,I Aa.fCost]) sizeOf79 m 0 Bm 0 k z z z z z z z z z z z fun Cd a k e m Ae=>nn (wp_seq (wr ?_))))
     refine sv k z (r_ldB ta38 m 1 At 0 k z z z z z z) fun a k=>pN 1 k z fun a k=>sv k z (r_ldB ta79 m 0 Ae 0 k z z z z z z) fun a k=>oE h fun Ca Bp h=>cE k m call212 z z z (c_spec_Holds fu _ _ (Aa:Typ) (show rd _ _ [I r1.fWay,I r1.fPallet.fW,I r1.fPallet.fD,I r1.fPallet.fH,I r1.fPallet.fGram,I r1.fClasses,v9,Bc,I r1.fMaster,Ba] (r1:Request) from ⟨_,_,_,_,_,_,z,z,(Enc.rd_agr Bb (m.a00 (Enc.rd_lt Bb))),(Enc.rd_agr Ai (m.a00 (Enc.rd_lt Ai))),(Enc.rd_agr Ax (m.a00 (Enc.rd_lt Ax)))⟩) (Enc.rd_agr Av (m.a00 (Enc.rd_lt Av))) Bp) fun Ch e a k m=>pN 1 k z fun a k=>nn (cI h k z (fun Bl h=>?_) fun Bl h=>?_)
     · refine wp_exit (ex_then (ex_same (nm_then ?_)))
       exact ⟨Ab,Ah,Af,k.keep [1,2,4,6,7,8] z,m.sel [1,2,3] z (by decide),Ad,h⟩
     refine wp_skip (nm_then ?_)
     refine wr (pN 3 k z fun a k=>bsplit (!Af) (fun Am=>?_) (fun Am=>?_))
     · have h:=bif_t Am h
       refine rB k 30 z Am fun k=>pN 20 k z fun a k=>?_
       have k:=k.keep [1,2,4,6,7,8,9,50] z
       refine nn (wp_cond_true (k.ev z) (wr (sv k z (r_ldB ta79 m 0 Ae 0 k z z z z z z) fun a k=>s_stb (cs':=[I Aa.fId,I Aa.fW,I Aa.fH,I Aa.fD,I Aa.fTare,I Aa.fGram,I Aa.fCost]) sizeOf79 m 3 Ad 0 k z z z z z z z z z z z fun Bk a k e m Bq=>nn (wp_region_lit (pN 1 k z fun a k=>wpList_nil (nm_block (nm_then ?_)))))))
       exact ⟨Aa,Bk,true,k.keep [1,2,4,6,7,8] z,m.sel [1,2,3] z (by decide),Bq,h⟩
     have h:=bif_f Am h
     refine rB k 30 z Am fun k=>sv k z (r_fa fa79_6 k z z) fun a k=>sv k z (r_ldb t13 m 0 Ae 6 k z z z z z) fun a k=>sv k z (r_fa fa79_6 k z z) fun a k=>sv k z (r_ldb t13 m 3 Ad 6 k z z z z z) fun a k=>pN 3 k z fun a k=>bsplit (decide (Aa.fCost < Ab.fCost)) (fun Al=>?_) (fun Al=>?_)
     · have h:=bif_t Al h
       refine rB k 37 z Al fun k=>pN 13 k z fun a k=>?_
       have k:=k.keep [1,2,4,6,7,8,9,50] z
       refine nn (wp_cond_true (k.ev z) (wr (sv k z (r_ldB ta79 m 0 Ae 0 k z z z z z z) fun a k=>s_stb (cs':=[I Aa.fId,I Aa.fW,I Aa.fH,I Aa.fD,I Aa.fTare,I Aa.fGram,I Aa.fCost]) sizeOf79 m 3 Ad 0 k z z z z z z z z z z z fun Bs a k e m Bn=>nn (wp_region_lit (pN 1 k z fun a k=>wpList_nil (nm_block (nm_then ?_)))))))
       exact ⟨Aa,Bs,true,k.keep [1,2,4,6,7,8] z,m.sel [1,2,3] z (by decide),Bn,h⟩
     have h:=bif_f Al h
     refine rB k 37 z Al fun k=>sv k z (r_fa fa79_6 k z z) fun a k=>sv k z (r_ldb t13 m 0 Ae 6 k z z z z z) fun a k=>sv k z (r_fa fa79_6 k z z) fun a k=>sv k z (r_ldb t13 m 3 Ad 6 k z z z z z) fun a k=>pN 2 k z fun a k=>bsplit (Aa.fCost == Ab.fCost) (fun Ak=>?_) (fun Ak=>?_)
     · have h:=bif_t Ak h
       refine rB k 43 z Ak fun k=>sv k z (r_fa fa79_0 k z z) fun a k=>sv k z (r_ldb t13 m 0 Ae 0 k z z z z z) fun a k=>sv k z (r_fa fa79_0 k z z) fun a k=>sv k z (r_ldb t13 m 3 Ad 0 k z z z z z) fun a k=>pN 3 k z fun a k=>?_
       have k:=k.keep [1,2,4,6,7,8,9,50] z
       refine nn (cI h k z (fun Bf h=>?_) fun Bf h=>?_)
       · refine wr (sv k z (r_ldB ta79 m 0 Ae 0 k z z z z z z) fun a k=>s_stb (cs':=[I Aa.fId,I Aa.fW,I Aa.fH,I Aa.fD,I Aa.fTare,I Aa.fGram,I Aa.fCost]) sizeOf79 m 3 Ad 0 k z z z z z z z z z z z fun Bo a k e m Bg=>nn (wp_region_lit (pN 1 k z fun a k=>wpList_nil (nm_block (nm_then ?_)))))
         exact ⟨Aa,Bo,true,k.keep [1,2,4,6,7,8] z,m.sel [1,2,3] z (by decide),Bg,h⟩
       refine wp_skip (nm_block (nm_then ?_))
       exact ⟨Ab,Ah,Af,k.keep [1,2,4,6,7,8] z,m.sel [1,2,3] z (by decide),Ad,h⟩
     have h:=bif_f Ak h
     refine rB k 43 z Ak fun k=>pN 7 k z fun a k=>?_
     have k:=k.keep [1,2,4,6,7,8,9,50] z
     refine nn (wp_cond_false (k.ev z) (wp_skip (nm_block (nm_then ?_))))
     exact ⟨Ab,Ah,Af,k.keep [1,2,4,6,7,8] z,m.sel [1,2,3] z (by decide),Ad,h⟩
   refine wp_exit (ex_then (ex_then (ex_same (nm_then ?_))))
   refine wr (sv k z (r_ldB ta79 m 2 Ad 0 k z z z z z z) fun a k=>pN 1 k z fun a k=>s_stb (cs':=[I Ab.fId,I Ab.fW,I Ab.fH,I Ab.fD,I Ab.fTare,I Ab.fGram,I Ab.fCost]) sizeOf79 m 1 Be 0 k z z z z z z z z z z z fun Cc a k e m Bj=>pN 1 k z fun a k=>nn (wp_ret ?_))
   cases h
   exact finR2 k z (RV.cA k z ta79 (Bj.at (m.a 1 z) 0 7 z z z) z) (RV.tmp k z) ⟨z,m.ext⟩
 exact ⟨(⟨0,0,0,0,0,0,0⟩:Typ),Br,false,0,k.keep [1,2,4,6,7,8] z,m.sel [2,1,0] z (by decide),Bi,h⟩

end Go.Proofs.YtkkfmjpbiimkbaaGreat
