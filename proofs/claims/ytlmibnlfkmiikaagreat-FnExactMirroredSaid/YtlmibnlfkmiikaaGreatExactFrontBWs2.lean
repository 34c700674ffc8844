/- FnExactFront: the walks of functions that it reaches (ExactFrontBWs,part 2). Printed by gen.py. -/
import Derived.Test.YtlmibnlfkmiikaaGreatExactFrontBWs1
set_option maxRecDepth 20000
set_option linter.unusedSimpArgs false
set_option linter.unusedVariables false
namespace Go.Proofs.YtlmibnlfkmiikaaGreat
open Go Go.RowKit
open Enc (rd ow)
open Arg (argv)
open Ret (retv)
open Go.Proofs.Tryz

theorem c_spec_l13Carton (fu:Nat) {w0:World} (x1:Carton) {Aj:List Value} {F3:List Nat} (Au:rd w0 F3 Aj x1) {r:Bool}
    (h:d_spec_l13Carton fu x1 = some r) :
    Calls Tryz.prog 200 #[.agg Aj.toArray] w0 fun e w=>e = .returned (.bool (r)) ∧ Ext [] w0 w:=by
 refine enter (vs:=[_]) func200 z ntmps200 z fun a k=>?_
 have m:=St.start w0
 obtain ⟨v5,_,rfl,rfl,Aa⟩:=Au
 unfold d_spec_l13Carton at h
 refine wr (s_box (cs:=[I x1.fType,I x1.fGroup,v5]) m k z z z z z z fun b7 w9 a k m e Ac=>pN 1 k z fun a k=>nn (c_cut (fun a w=>K 52 [(1,.pointer (some (⟨b7,0,none⟩:Addr)))] a ∧ St [] w0 w [([b7],w9)] ∧ d_spec_l13Carton_J2 fu x1 = some r) ?_ ?_))
 · rintro a Bd ⟨k,m,h⟩
   unfold d_spec_l13Carton_J2 at h
   refine wp_seq (wr (pN 1 k z fun a k=>nn (wp_block (c_loop (fun n a w=>∃ (Ab:Int),K 52 [(1,.pointer (some (⟨b7,0,none⟩:Addr))),(3,I Ab)] a ∧ St [] w0 w [([b7],w9)] ∧ d_spec_l13Carton_L1 fu x1 n Ab = some r) ?_ ?_ fu _ _ ?_))))
   · rintro a w ⟨_,_,_,h⟩
     exact nS h
   · rintro Aq a Be ⟨Ab,k,m,h⟩
     rw [d_spec_l13Carton_L1_s] at h
     unfold d_spec_l13Carton_L1_B at h
     refine wp_seq (wr (pN 1 k z fun a k=>sv k z (r_fa fa33_2 k z z) fun a k=>sv k z (r_ldb t131 m 0 Ac 2 k z z z z z) fun a k=>sv k z (r_len (α:=Int) Aa k underlying31 z z) fun a k=>pN 1 k z fun a k=>nn (cI h k z (fun Ak h=>?_) fun Ak h=>?_)))
     · refine wp_skip (nm_then ?_)
       refine c_cut (fun a w=>K 52 [(1,.pointer (some (⟨b7,0,none⟩:Addr))),(3,I Ab)] a ∧ St [] w0 w [([b7],w9)] ∧ d_spec_l13Carton_J1 fu (d_spec_l13Carton_L1 fu x1 Aq) Ab = some r) ?_ ?_
       · rintro a Bf ⟨k,m,h⟩
         unfold d_spec_l13Carton_J1 at h
         refine wp_region_lit (pN 3 k z fun a k=>nn ?_)
         exact ⟨w64 (Ab + 1),k.keep [1,3] z,m.sel [0] z (by decide),h⟩
       refine wp_block (wp_seq (d_go [] mixo m z fun At hMd=>?_))
       have m:=hMd
       have s:=Ext.refl ([]:List Nat) At
       refine dN [2] 1 z k (by kernel_rfl) z s (fun _ _ _ _ _=>id) fun a k=>dt k 0 z (by kernel_rfl) z s (fun _ _ _=>id) (fun w s=>r_fa fa33_2 k z z) fun a k=>dt k 1 z (by kernel_rfl) z s (fun _ _ _=>id) (fun w s=>r_ld1 t131 (r:=[]) (Ac.at ((hMd.step s).a 0 z) 2 1 z z z) k z z) fun a k=>oE h fun Bc Ah h=>dt k 3 z (by kernel_rfl) z s (fun _ _ _=>id) (fun w s=>r_ixa Aa Ah k ts31 z z z) fun a k=>dt k 4 z (by kernel_rfl) z s (fun _ _ _=>id) (fun w s=>r_lde1 Aa ((hMd.step s).a00 (Enc.rd_lt Aa)) Ah 0 t13 k z z z z) fun a k=>d_one 5 (by kernel_rfl) z (oE h fun Av Ar h=>cE k m call142 z z z (c_spec_l1In fu _ _ _  Ar) fun Ax e a k m=>?_)
       have s:=s.trans e (by simp)
       refine wpList_nil ⟨s,?_⟩
       refine dN [6,7] 2 z k (by kernel_rfl) z s (fun _ _ _ _ _=>id) fun a k=>bsplit (!Av) (fun Ad=>?_) (fun Ad=>?_)
       · have h:=bif_t Ad h
         refine rB k 34 z Ad fun k=>dN [8,9,10,11,12,13,14,15,16,17,18,19,20,21,22,23,24] 17 z k (by kernel_rfl) z s (fun _ _ _ _ _=>id) fun a k=>d_done (by kernel_rfl) ?_
         have k:=k.keep [1,3,51] z
         refine (nm_then ?_)
         refine wp_cond_true (k.ev z) (wr (pN 1 k z fun a k=>nn (wp_ret (rt_block (rt_then (rt_then (rt_block (rt_then ?_))))))))
         refine fS h k m z z
       have h:=bif_f Ad h
       refine rB k 34 z Ad fun k=>dN [8,9,10] 3 z k (by kernel_rfl) z s (fun _ _ _ _ _=>id) fun a k=>bsplit (decide (Ab > 0)) (fun Af=>?_) (fun Af=>?_)
       · have h:=bif_t Af h
         refine rB k 37 z Af fun k=>dN [13,18,19] 3 z k (by kernel_rfl) z s (fun _ _ _ _ _=>id) fun a k=>dt k 11 z (by kernel_rfl) z s (fun _ _ _=>id) (fun w s=>r_fa fa33_2 k z z) fun a k=>dt k 12 z (by kernel_rfl) z s (fun _ _ _=>id) (fun w s=>r_ld1 t131 (r:=[]) (Ac.at ((hMd.step s).a 0 z) 2 1 z z z) k z z) fun a k=>oE h fun Bb Ay h=>dt k 14 z (by kernel_rfl) z s (fun _ _ _=>id) (fun w s=>r_ixa Aa Ah k ts31 z z z) fun a k=>dt k 15 z (by kernel_rfl) z s (fun _ _ _=>id) (fun w s=>r_lde1 Aa ((hMd.step s).a00 (Enc.rd_lt Aa)) Ah 0 t13 k z z z z) fun a k=>dt k 16 z (by kernel_rfl) z s (fun _ _ _=>id) (fun w s=>r_fa fa33_2 k z z) fun a k=>?_
         refine dt k 17 z (by kernel_rfl) z s (fun _ _ _=>id) (fun w s=>r_ld1 t131 (r:=[]) (Ac.at ((hMd.step s).a 0 z) 2 1 z z z) k z z) fun a k=>oE h fun Bg Ai h=>dt k 20 z (by kernel_rfl) z s (fun _ _ _=>id) (fun w s=>r_ixa Aa Ai k ts31 z z z) fun a k=>dt k 21 z (by kernel_rfl) z s (fun _ _ _=>id) (fun w s=>r_lde1 Aa ((hMd.step s).a00 (Enc.rd_lt Aa)) Ai 0 t13 k z z z z) fun a k=>dN [22,23,24] 3 z k (by kernel_rfl) z s (fun _ _ _ _ _=>id) fun a k=>d_done (by kernel_rfl) ?_
         have k:=k.keep [1,3,51] z
         refine (nm_then ?_)
         refine cI h k z (fun Aw h=>?_) fun Aw h=>?_
         · refine wr (pN 1 k z fun a k=>nn (wp_ret (rt_block (rt_then (rt_then (rt_block (rt_then ?_)))))))
           refine fS h k m z z
         refine wp_skip (nm_block (nm_then ?_))
         exact ⟨k.keep [1,3] z,m.sel [0] z (by decide),h⟩
       have h:=bif_f Af h
       refine rB k 37 z Af fun k=>dN [11,12,13,14,15,16,17,18,19,20,21,22,23,24] 14 z k (by kernel_rfl) z s (fun _ _ _ _ _=>id) fun a k=>d_done (by kernel_rfl) ?_
       have k:=k.keep [1,3,51] z
       refine (nm_then ?_)
       refine wp_cond_false (k.ev z) (wp_skip (nm_block (nm_then ?_)))
       exact ⟨k.keep [1,3] z,m.sel [0] z (by decide),h⟩
     refine wp_exit (ex_then (ex_then (ex_same (nm_then ?_))))
     refine wr (pN 1 k z fun a k=>nn (wp_ret (fS h k m z z)))
   exact ⟨0,k.keep [1,3] z,m.sel [0] z (by decide),h⟩
 refine wr (sv k z (r_fa fa33_0 k z z) fun a k=>sv k z (r_ldb t13 m 0 Ac 0 k z z z z z) fun a k=>oE h fun Ap As h=>cE k m call158 z z z (c_spec_l2Id fu _  As) fun Az e a k m=>pN 2 k z fun a k=>bsplit (!Ap) (fun Ag=>?_) (fun Ag=>?_))
 · have h:=bif_t Ag h
   refine rB k 8 z Ag fun k=>pN 11 k z fun a k=>nn (wp_cond_true (k.ev z) (wr (pN 1 k z fun a k=>nn (wp_ret (rt_then ?_)))))
   refine fS h k m z z
 have h:=bif_f Ag h
 refine rB k 8 z Ag fun k=>sv k z (r_fa fa33_1 k z z) fun a k=>sv k z (r_ldb t13 m 0 Ac 1 k z z z z z) fun a k=>oE h fun Am Ao h=>cE k m call142 z z z (c_spec_l1In fu _ _ _  Ao) fun Ba e a k m=>pN 3 k z fun a k=>bsplit (!Am) (fun Ae=>?_) (fun Ae=>?_)
 · have h:=bif_t Ae h
   refine rB k 14 z Ae fun k=>pN 5 k z fun a k=>nn (wp_cond_true (k.ev z) (wr (pN 1 k z fun a k=>nn (wp_ret (rt_then ?_)))))
   refine fS h k m z z
 have h:=bif_f Ae h
 refine rB k 14 z Ae fun k=>sv k z (r_fa fa33_2 k z z) fun a k=>sv k z (r_ldb t131 m 0 Ac 2 k z z z z z) fun a k=>sv k z (r_len (α:=Int) Aa k underlying31 z z) fun a k=>pN 2 k z fun a k=>nn (cI h k z (fun Al h=>?_) fun Al h=>?_)
 · refine wr (pN 1 k z fun a k=>nn (wp_ret (rt_then ?_)))
   refine fS h k m z z
 refine wp_skip (nm_then ?_)
 exact ⟨k.keep [1] z,m.sel [0] z (by decide),h⟩
theorem c_spec_PlanOk (fu:Nat) {w0:World} (x1:Plan) {Ap:List Value} {F3:List Nat} (Bh:rd w0 F3 Ap x1) {r:Bool}
    (h:d_spec_PlanOk fu x1 = some r) :
    Calls Tryz.prog 109 #[.agg Ap.toArray] w0 fun e w=>e = .returned (.bool (r)) ∧ Ext [] w0 w:=by
 refine enter (vs:=[_]) func109 z ntmps109 z fun a k=>?_
 have m:=St.start w0
 obtain ⟨v5,F6,v7,F8,rfl,rfl,Ab,Aj⟩:=Bh
 unfold d_spec_PlanOk at h
 refine wr (s_box (cs:=[v5,v7]) m k z z z z z z fun Ad Am a k m e Aa=>pN 1 k z fun a k=>nn (c_cut (fun a w=>K 61 [(1,.pointer (some (⟨Ad,0,none⟩:Addr)))] a ∧ St [] w0 w [([Ad],Am)] ∧ d_spec_PlanOk_J2 fu x1 = some r) ?_ ?_))
 · rintro a Bv ⟨k,m,h⟩
   unfold d_spec_PlanOk_J2 at h
   refine wp_seq (wr (pN 1 k z fun a k=>nn (wp_block (c_loop (fun n a w=>∃ (Ac:Int),K 61 [(1,.pointer (some (⟨Ad,0,none⟩:Addr))),(3,I Ac)] a ∧ St [] w0 w [([Ad],Am)] ∧ d_spec_PlanOk_L1 fu x1 n Ac = some r) ?_ ?_ fu _ _ ?_))))
   · rintro a w ⟨_,_,_,h⟩
     exact nS h
   · rintro Ay a Br ⟨Ac,k,m,h⟩
     rw [d_spec_PlanOk_L1_s] at h
     unfold d_spec_PlanOk_L1_B at h
     refine wp_seq (wr (pN 1 k z fun a k=>sv k z (r_fa fa74_0 k z z) fun a k=>sv k z (r_ldb t143 m 0 Aa 0 k z z z z z) fun a k=>sv k z (r_len (α:=Carton) Ab k underlying43 z z) fun a k=>pN 1 k z fun a k=>nn (cI h k z (fun Aw h=>?_) fun Aw h=>?_)))
     · refine wp_skip (nm_then ?_)
       refine c_cut (fun a w=>K 61 [(1,.pointer (some (⟨Ad,0,none⟩:Addr))),(3,I Ac)] a ∧ St [] w0 w [([Ad],Am)] ∧ d_spec_PlanOk_J1 fu (d_spec_PlanOk_L1 fu x1 Ay) Ac = some r) ?_ ?_
       · rintro a Bo ⟨k,m,h⟩
         unfold d_spec_PlanOk_J1 at h
         refine wp_region_lit (pN 3 k z fun a k=>nn ?_)
         exact ⟨w64 (Ac + 1),k.keep [1,3] z,m.sel [0] z (by decide),h⟩
       refine wp_block (wr (sv k z (r_fa fa74_1 k z z) fun a k=>sv k z (r_ldb t172 m 0 Aa 1 k z z z z z) fun a k=>pN 1 k z fun a k=>oE h fun Ak Ar h=>sv k z (r_ixa Aj Ar k ts72 z z z) fun a k=>sv k z (r_lde Aj (m.a00 (Enc.rd_lt Aj)) Ar ta139 k z z) fun a k=>s_alloc (cs:=[I 0,I 0,I 0,I 0]) m k zeroValue139 z z z z z fun Bn Bz a k m e Bk=>s_stb (cs':=[I Ak.fPallet,I Ak.fX,I Ak.fY,I Ak.fZ]) sizeOf139 m 0 Bk 0 k z z z z z z z z z z z fun Bx a k e m Al=>nn (wr (sv k z (r_fa fa74_0 k z z) fun a k=>sv k z (r_ldb t143 m 1 Aa 0 k z z z z z) fun a k=>pN 1 k z fun a k=>oE h fun Ao As h=>?_))))
       refine sv k z (r_ixa Ab As k ts43 z z z) fun a k=>?_
       obtain ⟨Bw,Bs,Ca,Bf,Az,Bl⟩:=rd_get Ab (ix_some As).2.2
       obtain ⟨Bg,_,rfl,rfl,Aq⟩:=Bf
       refine sv k z (r_ldA ta33 (Az.agr (m.a00 (Enc.rd_lt Ab)) Bl) z k z z) fun a k=>oE h fun Au Av h=>cE k m call200 z z z (c_spec_l13Carton fu _ (show rd _ _ [I Ao.fType,I Ao.fGroup,Bg] (Ao:Carton) from ⟨_,_,z,z,(Enc.rd_agr Aq (m.a00 (Enc.rd_lt Aq)))⟩) Av) fun Bp e a k m=>pN 2 k z fun a k=>bsplit (!Au) (fun Ag=>?_) (fun Ag=>?_)
       · have h:=bif_t Ag h
         refine rB k 37 z Ag fun k=>pN 23 k z fun a k=>?_
         have k:=k.keep [1,3,60] z
         refine nn (wp_cond_true (k.ev z) (wr (pN 1 k z fun a k=>nn (wp_ret (rt_block (rt_then (rt_then (rt_block (rt_then ?_)))))))))
         refine fS h k m z z
       have h:=bif_f Ag h
       refine rB k 37 z Ag fun k=>sv k z (r_fa fa139_0 k z z) fun a k=>sv k z (r_ldb t13 m 0 Al 0 k z z z z z) fun a k=>oE h fun Bj At h=>cE k m call142 z z z (c_spec_l1In fu _ _ _  At) fun Bm e a k m=>pN 3 k z fun a k=>bsplit (!Bj) (fun Ai=>?_) (fun Ai=>?_)
       · have h:=bif_t Ai h
         refine rB k 43 z Ai fun k=>pN 17 k z fun a k=>?_
         have k:=k.keep [1,3,60] z
         refine nn (wp_cond_true (k.ev z) (wr (pN 1 k z fun a k=>nn (wp_ret (rt_block (rt_then (rt_then (rt_block (rt_then ?_)))))))))
         refine fS h k m z z
       have h:=bif_f Ai h
       refine rB k 43 z Ai fun k=>sv k z (r_fa fa139_1 k z z) fun a k=>sv k z (r_ldb t13 m 0 Al 1 k z z z z z) fun a k=>oE h fun Bd Bi h=>cE k m call142 z z z (c_spec_l1In fu _ _ _  Bi) fun Bq e a k m=>pN 3 k z fun a k=>bsplit (!Bd) (fun Ah=>?_) (fun Ah=>?_)
       · have h:=bif_t Ah h
         refine rB k 49 z Ah fun k=>pN 11 k z fun a k=>?_
         have k:=k.keep [1,3,60] z
         refine nn (wp_cond_true (k.ev z) (wr (pN 1 k z fun a k=>nn (wp_ret (rt_block (rt_then (rt_then (rt_block (rt_then ?_)))))))))
         refine fS h k m z z
       have h:=bif_f Ah h
       refine rB k 49 z Ah fun k=>sv k z (r_fa fa139_2 k z z) fun a k=>sv k z (r_ldb t13 m 0 Al 2 k z z z z z) fun a k=>oE h fun Be Ax h=>cE k m call142 z z z (c_spec_l1In fu _ _ _  Ax) fun Bu e a k m=>pN 3 k z fun a k=>bsplit (!Be) (fun Af=>?_) (fun Af=>?_)
       · have h:=bif_t Af h
         refine rB k 55 z Af fun k=>pN 5 k z fun a k=>?_
         have k:=k.keep [1,3,60] z
         refine nn (wp_cond_true (k.ev z) (wr (pN 1 k z fun a k=>nn (wp_ret (rt_block (rt_then (rt_then (rt_block (rt_then ?_)))))))))
         refine fS h k m z z
       have h:=bif_f Af h
       refine rB k 55 z Af fun k=>sv k z (r_fa fa139_3 k z z) fun a k=>sv k z (r_ldb t13 m 0 Al 3 k z z z z z) fun a k=>oE h fun By Ba h=>cE k m call142 z z z (c_spec_l1In fu _ _ _  Ba) fun Bt e a k m=>pN 2 k z fun a k=>?_
       have k:=k.keep [1,3,60] z
       refine nn (cI h k z (fun Bc h=>?_) fun Bc h=>?_)
       · refine wr (pN 1 k z fun a k=>nn (wp_ret (rt_block (rt_then (rt_then (rt_block (rt_then ?_)))))))
         refine fS h k m z z
       refine wp_skip (nm_block (nm_then ?_))
       exact ⟨k.keep [1,3] z,m.sel [1] z (by decide),h⟩
     refine wp_exit (ex_then (ex_then (ex_same (nm_then ?_))))
     refine wr (pN 1 k z fun a k=>nn (wp_ret (fS h k m z z)))
   exact ⟨0,k.keep [1,3] z,m.sel [0] z (by decide),h⟩
 refine wr (sv k z (r_fa fa74_0 k z z) fun a k=>sv k z (r_ldb t143 m 0 Aa 0 k z z z z z) fun a k=>sv k z (r_len (α:=Carton) Ab k underlying43 z z) fun a k=>sv k z (r_fa fa74_1 k z z) fun a k=>sv k z (r_ldb t172 m 0 Aa 1 k z z z z z) fun a k=>sv k z (r_len (α:=Spot) Aj k underlying72 z z) fun a k=>pN 2 k z fun a k=>bsplit (((x1.fCartons.length:Int)) != ((x1.fSpots.length:Int))) (fun Ae=>?_) (fun Ae=>?_))
 · have h:=bif_t Ae h
   refine rB k 12 z Ae fun k=>pN 5 k z fun a k=>nn (wp_cond_true (k.ev z) (wr (pN 1 k z fun a k=>nn (wp_ret (rt_then ?_)))))
   refine fS h k m z z
 have h:=bif_f Ae h
 refine rB k 12 z Ae fun k=>sv k z (r_fa fa74_0 k z z) fun a k=>sv k z (r_ldb t143 m 0 Aa 0 k z z z z z) fun a k=>sv k z (r_len (α:=Carton) Ab k underlying43 z z) fun a k=>pN 2 k z fun a k=>nn (cI h k z (fun Bb h=>?_) fun Bb h=>?_)
 · refine wr (pN 1 k z fun a k=>nn (wp_ret (rt_then ?_)))
   refine fS h k m z z
 refine wp_skip (nm_then ?_)
 exact ⟨k.keep [1] z,m.sel [0] z (by decide),h⟩
theorem c_spec_l15Empty (fu:Nat) {w0:World} (x1:Plan) {Ac:List Value} {F3:List Nat} (Am:rd w0 F3 Ac x1) {r:Bool}
    (h:d_spec_l15Empty fu x1 = some r) :
    Calls Tryz.prog 110 #[.agg Ac.toArray] w0 fun e w=>e = .returned (.bool (r)) ∧ Ext [] w0 w:=by
 refine enter (vs:=[_]) func110 z ntmps110 z fun a k=>?_
 have m:=St.start w0
 obtain ⟨v5,F6,v7,F8,rfl,rfl,Aa,Ap⟩:=Am
 unfold d_spec_l15Empty at h
 refine wr (s_box (cs:=[v5,v7]) m k z z z z z z fun Af Ah a k m e Ad=>pN 1 k z fun a k=>nn (wp_seq (wr (pN 1 k z fun a k=>nn (wp_block (c_loop (fun n a w=>∃ (Ab:Int),K 19 [(1,.pointer (some (⟨Af,0,none⟩:Addr))),(3,I Ab)] a ∧ St [] w0 w [([Af],Ah)] ∧ d_spec_l15Empty_L1 fu x1 n Ab = some r) ?_ ?_ fu _ _ ?_))))))
 · rintro a w ⟨_,_,_,h⟩
   exact nS h
 · rintro Av a As ⟨Ab,k,m,h⟩
   rw [d_spec_l15Empty_L1_s] at h
   unfold d_spec_l15Empty_L1_B at h
   refine wp_seq (wr (pN 1 k z fun a k=>sv k z (r_fa fa74_0 k z z) fun a k=>sv k z (r_ldb t143 m 0 Ad 0 k z z z z z) fun a k=>sv k z (r_len (α:=Carton) Aa k underlying43 z z) fun a k=>pN 1 k z fun a k=>nn (cI h k z (fun Ai h=>?_) fun Ai h=>?_)))
   · refine wp_skip (nm_then ?_)
     refine wp_seq (wp_block (wr (sv k z (r_fa fa74_0 k z z) fun a k=>sv k z (r_ldb t143 m 0 Ad 0 k z z z z z) fun a k=>pN 1 k z fun a k=>oE h fun At Ae h=>sv k z (r_ixa Aa Ae k ts43 z z z) fun a k=>sv k z (r_fa fa33_2 k z z) fun a k=>?_)))
     obtain ⟨Aw,Au,Ar,Ag,Aj,Ao⟩:=rd_get Aa (ix_some Ae).2.2
     obtain ⟨Aq,_,rfl,rfl,Al⟩:=Ag
     refine sv k z (r_ld1 t131 ((Aj.agr (m.a00 (Enc.rd_lt Aa)) Ao).fld 2 1 (Nat.le_of_ble_eq_true z)) k z z) fun a k=>sv k z (r_len (α:=Int) Al k underlying31 z z) fun a k=>pN 1 k z fun a k=>nn (cI h k z (fun Ak h=>?_) fun Ak h=>?_)
     · refine wr (pN 1 k z fun a k=>nn (wp_ret (rt_block (rt_then (rt_then (rt_block (rt_then ?_)))))))
       refine fS h k m z z
     refine wp_skip (nm_block (nm_then ?_))
     refine wp_region_lit (pN 3 k z fun a k=>nn ?_)
     exact ⟨w64 (Ab + 1),k.keep [1,3] z,m.sel [0] z (by decide),h⟩
   refine wp_exit (ex_then (ex_then (ex_same (nm_then ?_))))
   refine wr (pN 1 k z fun a k=>nn (wp_ret (fS h k m z z)))
 exact ⟨0,k.keep [1,3] z,m.sel [0] z (by decide),h⟩
theorem c_spec_l6Units (fu:Nat) {w0:World} (r1:Request) {Am:List Value} {F3:List Nat} (Be:rd w0 F3 Am r1) {r:(List Int)}
    (h:d_spec_l6Units fu r1 = some r) :
    Calls Tryz.prog 86 #[.agg Am.toArray] w0 fun e w=>∃ (v0:Value) (G0:List Nat),e = .returned (v0) ∧ Ext [] w0 w ∧ ow w G0 [v0] r ∧ (∀ b ∈ G0,w0.heap.size ≤ b):=by
 refine enter (vs:=[_]) func86 z ntmps86 z fun a k=>?_
 have m:=St.start w0
 obtain ⟨v5,F6,v7,F8,v9,Bp,rfl,rfl,Bl,Bm,Aj⟩:=Be
 unfold d_spec_l6Units at h
 refine wr (s_box (cs:=[I r1.fWay,I r1.fPallet.fW,I r1.fPallet.fD,I r1.fPallet.fH,I r1.fPallet.fGram,I r1.fClasses,v5,v7,I r1.fMaster,v9]) m k z z z z z z fun Ad Ar a k m e Aq=>pN 1 k z fun a k=>nn (wr (s_bs (cs:=[]) (ps:=[]) te31 m k z z z z z z z (by decide) z (by exact (List.forall_mem_nil _)) fun Ap Bb Br a k m e Bh=>?_)))
 have Ay:=ow_bx Bh ([]:List Int) z z z
 refine pN 1 k z fun a k=>nn (wp_seq (wr (pN 1 k z fun a k=>nn (wp_block (c_loop (fun n a w=>∃ (Ae:List Int) (Ah:Value) (Ab:List Nat) (Ak:World) (Aa:Int),K 29 [(1,.pointer (some (⟨Ad,0,none⟩:Addr))),(3,Ah),(4,I Aa)] a ∧ St [] w0 w [([Ad],Ar),(Ab,Ak)] ∧ ow Ak Ab [Ah] Ae ∧ d_spec_l6Units_L2 fu r1 n Ae Aa = some r) ?_ ?_ fu _ _ ?_)))))
 · rintro a w ⟨_,_,_,_,_,_,_,_,h⟩
   exact nS h
 · rintro Av a Bt ⟨Ae,Ah,Ab,Ak,Aa,k,m,As,h⟩
   rw [d_spec_l6Units_L2_s] at h
   unfold d_spec_l6Units_L2_B at h
   refine wp_seq (wr (pN 1 k z fun a k=>sv k z (r_fa fa30_6 k z z) fun a k=>sv k z (r_ldb t128 m 0 Aq 9 k z z z z z) fun a k=>sv k z (r_len (α:=Item) Aj k underlying28 z z) fun a k=>pN 1 k z fun a k=>nn (cI h k z (fun Aw h=>?_) fun Aw h=>?_)))
   · refine wp_skip (nm_then ?_)
     refine wp_seq (wp_block (wr (pN 1 k z fun a k=>nn (wp_block (c_loop (fun n a w=>∃ (Af:List Int) (Ac:Value) (Al:List Nat) (Ag:World) (Ai:Int),K 29 [(1,.pointer (some (⟨Ad,0,none⟩:Addr))),(3,Ac),(4,I Aa),(5,I Ai)] a ∧ St [] w0 w [([Ad],Ar),(Al,Ag)] ∧ ow Ag Al [Ac] Af ∧ d_spec_l6Units_L1 fu (d_spec_l6Units_L2 fu r1 Av) r1 Aa n Af Ai = some r) ?_ ?_ fu _ _ ?_)))))
     · rintro a w ⟨_,_,_,_,_,_,_,_,h⟩
       exact nS h
     · rintro Bs a Bn ⟨Af,Ac,Al,Ag,Ai,k,m,At,h⟩
       rw [d_spec_l6Units_L1_s] at h
       unfold d_spec_l6Units_L1_B at h
       refine wp_seq (wr (pN 1 k z fun a k=>sv k z (r_fa fa30_6 k z z) fun a k=>sv k z (r_ldb t128 m 0 Aq 9 k z z z z z) fun a k=>pN 1 k z fun a k=>oE h fun Bk Ao h=>sv k z (r_ixa Aj Ao k ts28 z z z) fun a k=>sv k z (r_fa fa97_6 k z z) fun a k=>sv k z (r_lde1 Aj (m.a00 (Enc.rd_lt Aj)) Ao 6 t13 k z z z z) fun a k=>pN 1 k z fun a k=>nn (cI h k z (fun Bd h=>?_) fun Bd h=>?_)))
       · refine wp_skip (nm_then ?_)
         refine wp_seq (wp_block (wp_region_lit (pN 2 k z fun a k=>s_bs (cs:=[I Aa]) (ps:=[(0,.tmp 25)]) te31 m k z z z z z z z (by decide) z (by exact (List.forall_mem_cons.2 ⟨z,(List.forall_mem_nil _)⟩)) fun Bj Bo Bq a k m e Bf=>?_)))
         have Az:=ow_bx Bf ([Aa]:List Int) z z z
         refine oE h fun Au Bi h=>s_appF Bi te31 z m 2 At (News.rd (Enc.rd_agr (Enc.ow_rd Az) (m.a 0 z))) z z k z z z z z z z fun Ba Bc Ax a k e m Bg=>pN 1 k z fun a k=>wpList_nil (nm_block (nm_then ?_))
         refine wp_region_lit (pN 3 k z fun a k=>nn ?_)
         exact ⟨Au,Ba,Bc,Ax,w64 (Ai + 1),k.keep [1,3,4,5] z,m.sel [1,2] z (by decide),Bg,h⟩
       refine wp_exit (ex_then (ex_then (ex_same (nm_block (nm_then ?_)))))
       refine wp_region_lit (pN 3 k z fun a k=>nn ?_)
       exact ⟨Af,Ac,Al,Ag,w64 (Aa + 1),k.keep [1,3,4] z,m.sel [0,1] z (by decide),At,h⟩
     exact ⟨Ae,Ah,Ab,Ak,0,k.keep [1,3,4,5] z,m.sel [0,1] z (by decide),As,h⟩
   refine wp_exit (ex_then (ex_then (ex_same (nm_then ?_))))
   refine wr (pN 2 k z fun a k=>nn (wp_ret ?_))
   cases h
   exact finR1 k z (RV.tmp k z) ⟨_,Ab,z,m.ext,(Enc.ow_agr As (m.a 1 z)),(m.fresh 1 z)⟩
 exact ⟨([]:List Int),(.slice (some ⟨Ap,0,none⟩) 0 0),[Ap],Bb,0,k.keep [1,3,4] z,m.sel [1,0] z (by decide),Ay,h⟩
theorem c_spec_l15Flat (fu:Nat) {w0:World} (x1:Plan) {Ai:List Value} {F3:List Nat} (Ax:rd w0 F3 Ai x1) {r:(List Int)}
    (h:d_spec_l15Flat fu x1 = some r) :
    Calls Tryz.prog 201 #[.agg Ai.toArray] w0 fun e w=>∃ (v0:Value) (G0:List Nat),e = .returned (v0) ∧ Ext [] w0 w ∧ ow w G0 [v0] r ∧ (∀ b ∈ G0,w0.heap.size ≤ b):=by
 refine enter (vs:=[_]) func201 z ntmps201 z fun a k=>?_
 have m:=St.start w0
 obtain ⟨v5,F6,v7,F8,rfl,rfl,Ac,Bd⟩:=Ax
 unfold d_spec_l15Flat at h
 refine wr (s_box (cs:=[v5,v7]) m k z z z z z z fun Al Ar a k m e Aj=>pN 1 k z fun a k=>nn (wr (s_bs (cs:=[]) (ps:=[]) te31 m k z z z z z z z (by decide) z (by exact (List.forall_mem_nil _)) fun Ag Ba Bk a k m e Bb=>?_)))
 have Ao:=ow_bx Bb ([]:List Int) z z z
 refine pN 1 k z fun a k=>nn (wp_seq (wr (pN 1 k z fun a k=>nn (wp_block (c_loop (fun n a w=>∃ (Ae:List Int) (Ad:Value) (Aa:List Nat) (Af:World) (Ab:Int),K 22 [(1,.pointer (some (⟨Al,0,none⟩:Addr))),(3,Ad),(4,I Ab)] a ∧ St [] w0 w [([Al],Ar),(Aa,Af)] ∧ ow Af Aa [Ad] Ae ∧ d_spec_l15Flat_L1 fu x1 n Ae Ab = some r) ?_ ?_ fu _ _ ?_)))))
 · rintro a w ⟨_,_,_,_,_,_,_,_,h⟩
   exact nS h
 · rintro Bh a Bl ⟨Ae,Ad,Aa,Af,Ab,k,m,Ah,h⟩
   rw [d_spec_l15Flat_L1_s] at h
   unfold d_spec_l15Flat_L1_B at h
   refine wp_seq (wr (pN 1 k z fun a k=>sv k z (r_fa fa74_0 k z z) fun a k=>sv k z (r_ldb t143 m 0 Aj 0 k z z z z z) fun a k=>sv k z (r_len (α:=Carton) Ac k underlying43 z z) fun a k=>pN 1 k z fun a k=>nn (cI h k z (fun Ap h=>?_) fun Ap h=>?_)))
   · refine wp_skip (nm_then ?_)
     refine wp_seq (wp_block (wp_region_lit (pN 1 k z fun a k=>sv k z (r_fa fa74_0 k z z) fun a k=>sv k z (r_ldb t143 m 0 Aj 0 k z z z z z) fun a k=>pN 1 k z fun a k=>oE h fun Bg Ak h=>sv k z (r_ixa Ac Ak k ts43 z z z) fun a k=>sv k z (r_fa fa33_2 k z z) fun a k=>?_)))
     obtain ⟨Be,Bf,Bi,At,Aq,Au⟩:=rd_get Ac (ix_some Ak).2.2
     obtain ⟨Bj,_,rfl,rfl,Am⟩:=At
     refine sv k z (r_ld1 t131 ((Aq.agr (m.a00 (Enc.rd_lt Ac)) Au).fld 2 1 (Nat.le_of_ble_eq_true z)) k z z) fun a k=>oE h fun Az Aw h=>s_appF Aw te31 z m 1 Ah (News.rd (Enc.rd_agr Am (m.a00 (Enc.rd_lt Am)))) z z k z z z z z z z fun Av Ay As a k e m Bc=>pN 1 k z fun a k=>wpList_nil (nm_block (nm_then ?_))
     refine wp_region_lit (pN 3 k z fun a k=>nn ?_)
     exact ⟨Az,Av,Ay,As,w64 (Ab + 1),k.keep [1,3,4] z,m.sel [0,1] z (by decide),Bc,h⟩
   refine wp_exit (ex_then (ex_then (ex_same (nm_then ?_))))
   refine wr (pN 2 k z fun a k=>nn (wp_ret ?_))
   cases h
   exact finR1 k z (RV.tmp k z) ⟨_,Aa,z,m.ext,(Enc.ow_agr Ah (m.a 1 z)),(m.fresh 1 z)⟩
 exact ⟨([]:List Int),(.slice (some ⟨Ag,0,none⟩) 0 0),[Ag],Ba,0,k.keep [1,3,4] z,m.sel [1,0] z (by decide),Ao,h⟩
theorem c_spec_l1Bit (fu:Nat) {w0:World} (Aa:Bool)  {r:Int}
    (h:d_spec_l1Bit fu Aa = some r) :
    Calls Tryz.prog 105 #[.bool (Aa)] w0 fun e w=>e = .returned (I r) ∧ Ext [] w0 w:=by
 refine enter (vs:=[_]) func105 z ntmps105 z fun a k=>?_
 have m:=St.start w0
 unfold d_spec_l1Bit at h
 refine wr (pN 1 k z fun a k=>nn (wp_seq (wr (pN 1 k z fun a k=>nn (cI h k z (fun Ab h=>?_) fun Ab h=>?_)))))
 · refine wr (pN 1 k z fun a k=>nn (wp_ret (rt_then ?_)))
   refine fS h k m z z
 refine wp_skip (nm_then ?_)
 refine wr (pN 1 k z fun a k=>nn (wp_ret (fS h k m z z)))
theorem c_spec_l8Times (fu:Nat) {w0:World} (Ad:List Int) (x5:Int) {v2:Value} {F3:List Nat} (Ac:rd w0 F3 [v2] Ad) {r:Int}
    (h:d_spec_l8Times fu Ad x5 = some r) :
    Calls Tryz.prog 141 #[v2,I x5] w0 fun e w=>e = .returned (I r) ∧ Ext [] w0 w:=by
 refine enter (vs:=[_,_]) func141 z ntmps141 z fun a k=>?_
 have m:=St.start w0
 unfold d_spec_l8Times at h
 refine wr (pN 1 k z fun a k=>nn (wr (pN 1 k z fun a k=>nn (wp_seq (wr (pN 1 k z fun a k=>nn (wp_block (c_loop (fun n a w=>∃ (Ab:Int) (Aa:Int),K 23 [(0,v2),(1,I x5),(5,I Ab),(6,I Aa)] a ∧ St [] w0 w [] ∧ d_spec_l8Times_L1 fu Ad x5 n Ab Aa = some r) ?_ ?_ fu _ _ ?_))))))))
 · rintro a w ⟨_,_,_,_,h⟩
   exact nS h
 · rintro Ak a Aj ⟨Ab,Aa,k,m,h⟩
   rw [d_spec_l8Times_L1_s] at h
   unfold d_spec_l8Times_L1_B at h
   refine wp_seq (wr (pN 2 k z fun a k=>sv k z (r_len (α:=Int) Ac k underlying31 z z) fun a k=>pN 1 k z fun a k=>nn (cI h k z (fun Af h=>?_) fun Af h=>?_)))
   · refine wp_skip (nm_then ?_)
     refine wp_seq (wp_block (wp_region_lit (pN 3 k z fun a k=>oE h fun Ai Ae h=>sv k z (r_ixa Ac Ae k ts31 z z z) fun a k=>sv k z (r_lde1 Ac (m.a00 (Enc.rd_lt Ac)) Ae 0 t13 k z z z z) fun a k=>pN 2 k z fun a k=>oE h fun Ag Ah h=>cE k m call105 z z z (c_spec_l1Bit fu _  Ah) fun Al e a k m=>pN 2 k z fun a k=>wpList_nil (nm_block (nm_then ?_)))))
     refine wp_region_lit (pN 3 k z fun a k=>nn ?_)
     exact ⟨w64 (Ab + Ag),w64 (Aa + 1),k.keep [0,1,5,6] z,m.sel [] z (by decide),h⟩
   refine wp_exit (ex_then (ex_then (ex_same (nm_then ?_))))
   refine wr (pN 2 k z fun a k=>nn (wp_ret (fS h k m z z)))
 exact ⟨0,0,k.keep [0,1,5,6] z,m.sel [] z (by decide),h⟩
theorem c_spec_l15Units (fu:Nat) {w0:World} (Ac:List Int) (x5:Plan) {v2:Value} {F3:List Nat} (Ah:rd w0 F3 [v2] Ac) {Ad:List Value} {F7:List Nat} (Ap:rd w0 F7 Ad x5) {r:Bool}
    (h:d_spec_l15Units fu Ac x5 = some r) :
    Calls Tryz.prog 111 #[v2,.agg Ad.toArray] w0 fun e w=>e = .returned (.bool (r)) ∧ Ext [] w0 w:=by
 refine enter (vs:=[_,_]) func111 z ntmps111 z fun a k=>?_
 have m:=St.start w0
 obtain ⟨v9,Az,Ae,Ay,rfl,rfl,Ai,Ag⟩:=Ap
 unfold d_spec_l15Units at h
 refine wr (s_box (cs:=[v9,Ae]) m k z z z z z z fun Ba Aw a k m e As=>pN 1 k z fun a k=>nn (wr (sv k z (r_ldB ta74 m 0 As 0 k z z z z z z) fun a k=>oE h fun Am Aj h=>s_call k call201 z z z z z (c_spec_l15Flat fu _ (show rd _ _ [v9,Ae] (x5:Plan) from ⟨_,_,_,_,z,z,(Enc.rd_agr Ai (m.a00 (Enc.rd_lt Ai))),(Enc.rd_agr Ag (m.a00 (Enc.rd_lt Ag)))⟩) Aj) fun Bd Aq hR=>?_)))
 obtain ⟨Ar,Af,rfl,e,Ab,At⟩:=hR
 refine ⟨_,z,fun a k=>?_⟩
 have m:=m.new e Af (fun b hb=>⟨At b hb,Enc.rd_lt (Enc.ow_rd Ab) b hb⟩) (Enc.ow_nd Ab)
 refine pN 1 k z fun a k=>nn (wp_seq (wr (pN 1 k z fun a k=>sv k z (r_len (α:=Int) (Enc.ow_rd Ab) k underlying31 z z) fun a k=>pN 1 k z fun a k=>sv k z (r_len (α:=Int) Ah k underlying31 z z) fun a k=>pN 1 k z fun a k=>nn (cI h k z (fun Ao h=>?_) fun Ao h=>?_))))
 · refine wr (pN 1 k z fun a k=>nn (wp_ret (rt_then ?_)))
   refine fS h k m z z
 refine wp_skip (nm_then ?_)
 refine wp_seq (wr (pN 1 k z fun a k=>nn (wp_block (c_loop (fun n a w=>∃ (Aa:Int),K 24 [(0,v2),(5,Ar),(6,I Aa)] a ∧ St [] w0 w [(Af,Aq)] ∧ d_spec_l15Units_L1 fu Ac Am n Aa = some r) ?_ ?_ fu _ _ ?_))))
 · rintro a w ⟨_,_,_,h⟩
   exact nS h
 · rintro Bb a Av ⟨Aa,k,m,h⟩
   rw [d_spec_l15Units_L1_s] at h
   unfold d_spec_l15Units_L1_B at h
   refine wp_seq (wr (pN 2 k z fun a k=>sv k z (r_len (α:=Int) Ah k underlying31 z z) fun a k=>pN 1 k z fun a k=>nn (cI h k z (fun Al h=>?_) fun Al h=>?_)))
   · refine wp_skip (nm_then ?_)
     refine wp_seq (wp_block (wr (pN 2 k z fun a k=>oE h fun Ax Au h=>cE k m call141 z z z (c_spec_l8Times fu _ _ (Enc.rd_agr (Enc.ow_rd Ab) (m.a 0 z)) Au) fun Bc e a k m=>pN 1 k z fun a k=>nn (cI h k z (fun Ak h=>?_) fun Ak h=>?_))))
     · refine wr (pN 1 k z fun a k=>nn (wp_ret (rt_block (rt_then (rt_then (rt_block (rt_then ?_)))))))
       refine fS h k m z z
     refine wp_skip (nm_block (nm_then ?_))
     refine wp_region_lit (pN 3 k z fun a k=>nn ?_)
     exact ⟨w64 (Aa + 1),k.keep [0,5,6] z,m.sel [0] z (by decide),h⟩
   refine wp_exit (ex_then (ex_then (ex_same (nm_then ?_))))
   refine wr (pN 1 k z fun a k=>nn (wp_ret (fS h k m z z)))
 exact ⟨0,k.keep [0,5,6] z,m.sel [0] z (by decide),h⟩
theorem c_spec_TypeById (fu:Nat) {w0:World} (r1:Request) (Ae:Int) {Ag:List Value} {F3:List Nat} (Aq:rd w0 F3 Ag r1) {r:Typ × Bool}
    (h:d_spec_TypeById fu r1 Ae = some r) :
    Calls Tryz.prog 64 #[.agg Ag.toArray,I Ae] w0 fun e w=>e = .returned (.tuple #[.agg (Flat.e r.1).toArray,.bool (r.2)]) ∧ Ext [] w0 w:=by
 refine enter (vs:=[_,_]) func64 z ntmps64 z fun a k=>?_
 have m:=St.start w0
 obtain ⟨v6,F7,v8,F9,As,Aw,rfl,rfl,Au,Ab,Av⟩:=Aq
 unfold d_spec_TypeById at h
 refine wr (s_box (cs:=[I r1.fWay,I r1.fPallet.fW,I r1.fPallet.fD,I r1.fPallet.fH,I r1.fPallet.fGram,I r1.fClasses,v6,v8,I r1.fMaster,As]) m k z z z z z z fun Ai Ak a k m e Af=>s_alloc (cs:=[I 0,I 0,I 0,I 0,I 0,I 0,I 0]) m k zeroValue38 z z z z z fun Ah Ap a k m e Aj=>pN 1 k z fun a k=>nn (wp_seq (wr (pN 1 k z fun a k=>nn (wp_block (c_loop (fun n a w=>∃ (Ad:Int),K 28 [(1,I Ae),(2,.pointer (some (⟨Ai,0,none⟩:Addr))),(4,.pointer (some (⟨Ah,0,none⟩:Addr))),(6,I Ad)] a ∧ St [] w0 w [([Ai],Ak),([Ah],Ap)] ∧ d_spec_TypeById_L1 fu r1 Ae n Ad = some r) ?_ ?_ fu _ _ ?_))))))
 · rintro a w ⟨_,_,_,h⟩
   exact nS h
 · rintro Ax a Ba ⟨Ad,k,m,h⟩
   rw [d_spec_TypeById_L1_s] at h
   unfold d_spec_TypeById_L1_B at h
   refine wp_seq (wr (pN 1 k z fun a k=>sv k z (r_fa fa30_4 k z z) fun a k=>sv k z (r_ldb t127 m 0 Af 7 k z z z z z) fun a k=>sv k z (r_len (α:=Typ) Ab k underlying27 z z) fun a k=>pN 1 k z fun a k=>nn (cI h k z (fun Al h=>?_) fun Al h=>?_)))
   · refine wp_skip (nm_then ?_)
     refine wp_seq (wp_block (wr (sv k z (r_fa fa30_4 k z z) fun a k=>sv k z (r_ldb t127 m 0 Af 7 k z z z z z) fun a k=>pN 1 k z fun a k=>oE h fun Aa Ac h=>sv k z (r_ixa Ab Ac k ts27 z z z) fun a k=>sv k z (r_fa fa38_0 k z z) fun a k=>sv k z (r_lde1 Ab (m.a00 (Enc.rd_lt Ab)) Ac 0 t13 k z z z z) fun a k=>pN 2 k z fun a k=>nn (cI h k z (fun Am h=>?_) fun Am h=>?_))))
     · refine wr (sv k z (r_fa fa30_4 k z z) fun a k=>sv k z (r_ldb t127 m 0 Af 7 k z z z z z) fun a k=>pN 1 k z fun a k=>oE h fun At Bb h=>sv k z (r_ixa Ab Ac k ts27 z z z) fun a k=>sv k z (r_lde Ab (m.a00 (Enc.rd_lt Ab)) Ac ta38 k z z) fun a k=>s_stb (cs':=[I Aa.fId,I Aa.fW,I Aa.fH,I Aa.fD,I Aa.fTare,I Aa.fGram,I Aa.fCost]) sizeOf38 m 1 Aj 0 k z z z z z z z z z z z fun Az a k e m Ao=>pN 1 k z fun a k=>nn (wp_ret (rt_block (rt_then (rt_then (rt_block (rt_then ?_)))))))
       cases h
       exact finR2 k z (RV.cA k z ta38 (Ao.at (m.a 1 z) 0 7 z z z) z) (RV.tmp k z) ⟨z,m.ext⟩
     refine wp_skip (nm_block (nm_then ?_))
     refine wp_region_lit (pN 3 k z fun a k=>nn ?_)
     exact ⟨w64 (Ad + 1),k.keep [1,2,4,6] z,m.sel [0,1] z (by decide),h⟩
   refine wp_exit (ex_then (ex_then (ex_same (nm_then ?_))))
   refine wr (sv k z (r_build bt38 k (cs:=#[I 0,I 0,I 0,I 0,I 0,I 0,I 0]) (ps:=[]) z z (by kernel_rfl)) fun a k=>s_stb (cs':=[I 0,I 0,I 0,I 0,I 0,I 0,I 0]) sizeOf38 m 1 Aj 0 k z z z z z z z z z z z fun Ay a k e m Ar=>pN 1 k z fun a k=>nn (wp_ret ?_))
   cases h
   exact finR2 k z (RV.cA k z ta38 (Ar.at (m.a 1 z) 0 7 z z z) z) (RV.tmp k z) ⟨z,m.ext⟩
 exact ⟨0,k.keep [1,2,4,6] z,m.sel [1,0] z (by decide),h⟩
theorem c_spec_l6Item (fu:Nat) {w0:World} (r1:Request) (Ai:List Int) (u9:Int) {Ae:List Value} {F3:List Nat} (Aq:rd w0 F3 Ae r1) {v6:Value} {F7:List Nat} (Ab:rd w0 F7 [v6] Ai) {r:Item × Bool}
    (h:d_spec_l6Item fu r1 Ai u9 = some r) :
    Calls Tryz.prog 156 #[.agg Ae.toArray,v6,I u9] w0 fun e w=>e = .returned (.tuple #[.agg (Flat.e r.1).toArray,.bool (r.2)]) ∧ Ext [] w0 w:=by
 refine enter (vs:=[_,_,_]) func156 z ntmps156 z fun a k=>?_
 have m:=St.start w0
 obtain ⟨Ar,Bb,As,Be,Aj,Ax,rfl,rfl,Bd,Aw,Ac⟩:=Aq
 unfold d_spec_l6Item at h
 refine wr (s_box (cs:=[I r1.fWay,I r1.fPallet.fW,I r1.fPallet.fD,I r1.fPallet.fH,I r1.fPallet.fGram,I r1.fClasses,Ar,As,I r1.fMaster,Aj]) m k z z z z z z fun Bf Bc a k m e At=>s_alloc (cs:=[I 0,I 0,I 0,I 0,I 0,I 0,I 0]) m k zeroValue97 z z z z z fun Ad Av a k m e Af=>pN 1 k z fun a k=>nn (wp_seq (wr (pN 2 k z fun a k=>sv k z (r_len (α:=Int) Ab k underlying31 z z) fun a k=>pN 1 k z fun a k=>oE h fun Ba Am h=>cE k m call142 z z z (c_spec_l1In fu _ _ _  Am) fun Au e a k m=>pN 1 k z fun a k=>nn (cI h k z (fun Ak h=>?_) fun Ak h=>?_)))))
 · refine wr (sv k z (r_build bt97 k (cs:=#[I 0,I 0,I 0,I 0,I 0,I 0,I 0]) (ps:=[]) z z (by kernel_rfl)) fun a k=>s_stb (cs':=[I 0,I 0,I 0,I 0,I 0,I 0,I 0]) sizeOf97 m 0 Af 0 k z z z z z z z z z z z fun Ay a k e m Ao=>pN 1 k z fun a k=>nn (wp_ret (rt_then ?_)))
   cases h
   exact finR2 k z (RV.cA k z ta97 (Ao.at (m.a 0 z) 0 7 z z z) z) (RV.tmp k z) ⟨z,m.ext⟩
 refine wp_skip (nm_then ?_)
 refine wp_seq (d_go ([Ad]) mixo m z fun Ap hMd=>?_)
 have m:=hMd
 have s:=Ext.refl (([Ad]):List Nat) Ap
 refine dN [2,3] 2 z k (by kernel_rfl) z s (fun _ _ _ _ _=>id) fun a k=>dt k 0 z (by kernel_rfl) z s (fun _ _ _=>id) (fun w s=>r_fa fa30_6 k z z) fun a k=>dt k 1 z (by kernel_rfl) z s (fun _ _ _=>id) (fun w s=>r_ld1 t128 (r:=[]) (At.at (hMd.az 1 0 z z z s) 9 1 z z z) k z z) fun a k=>oE h fun Bg Ag h=>dt k 4 z (by kernel_rfl) z s (fun _ _ _=>id) (fun w s=>r_ixa Ab Ag k ts31 z z z) fun a k=>dt k 5 z (by kernel_rfl) z s (fun _ _ _=>id) (fun w s=>r_lde1 Ab (hMd.az0 0 z z (Enc.rd_lt Ab) s) Ag 0 t13 k z z z z) fun a k=>oE h fun Aa Ah h=>dt k 6 z (by kernel_rfl) z s (fun _ _ _=>id) (fun w s=>r_ixa Ac Ah k ts28 z z z) fun a k=>?_
 refine dt k 7 z (by kernel_rfl) z s (fun _ _ _=>id) (fun w s=>r_lde Ac (hMd.az0 0 z z (Enc.rd_lt Ac) s) Ah ta97 k z z) fun a k=>d_one 8 (by kernel_rfl) z (s_stb (cs':=[I Aa.fId,I Aa.fW,I Aa.fH,I Aa.fD,I Aa.fGram,I Aa.fClass,I Aa.fCount]) sizeOf97 m 0 Af 0 k z z z z z z z z z z z fun Az a k e m Al=>?_)
 have s:=s.trans e (fun y hy=>Or.inl hy)
 refine wpList_nil ⟨s,?_⟩
 refine dN [9] 1 z k (by kernel_rfl) z s (fun _ _ _ _ _=>id) fun a k=>d_done (by kernel_rfl) ((nm_then ?_))
 refine wp_ret ?_
 cases h
 exact finR2 k z (RV.cA k z ta97 (Al.at (m.a 0 z) 0 7 z z z) z) (RV.tmp k z) ⟨z,m.ext⟩
theorem c_spec_Volume (fu:Nat) {w0:World} (Ac:Int) (h2:Int) (d3:Int)  {r:Int}
    (h:d_spec_Volume fu Ac h2 d3 = some r) :
    Calls Tryz.prog 66 #[I Ac,I h2,I d3] w0 fun e w=>e = .returned (I r) ∧ Ext [] w0 w:=by
 refine enter (vs:=[_,_,_]) func66 z ntmps66 z fun a k=>?_
 have m:=St.start w0
 unfold d_spec_Volume at h
 refine wr (pN 1 k z fun a k=>nn (c_cut (fun a w=>K 25 [(0,I Ac),(1,I h2),(2,I d3)] a ∧ St [] w0 w [] ∧ d_spec_Volume_J1 fu Ac h2 d3 = some r) ?_ ?_))
 · rintro a Am ⟨k,m,h⟩
   unfold d_spec_Volume_J1 at h
   refine wr (pN 6 k z fun a k=>nn (wp_ret (fS h k m z z)))
 refine wr (pN 1 k z fun a k=>oE h fun Ag Ah h=>cE k m call142 z z z (c_spec_l1In fu _ _ _  Ah) fun Ao e a k m=>pN 2 k z fun a k=>bsplit (!Ag) (fun Aa=>?_) (fun Aa=>?_))
 · have h:=bif_t Aa h
   refine rB k 10 z Aa fun k=>pN 9 k z fun a k=>nn (wp_cond_true (k.ev z) (wr (pN 1 k z fun a k=>nn (wp_ret (rt_then ?_)))))
   refine fS h k m z z
 have h:=bif_f Aa h
 refine rB k 10 z Aa fun k=>pN 1 k z fun a k=>oE h fun Ad Af h=>cE k m call142 z z z (c_spec_l1In fu _ _ _  Af) fun Ak e a k m=>pN 3 k z fun a k=>bsplit (!Ad) (fun Ab=>?_) (fun Ab=>?_)
 · have h:=bif_t Ab h
   refine rB k 15 z Ab fun k=>pN 4 k z fun a k=>nn (wp_cond_true (k.ev z) (wr (pN 1 k z fun a k=>nn (wp_ret (rt_then ?_)))))
   refine fS h k m z z
 have h:=bif_f Ab h
 refine rB k 15 z Ab fun k=>pN 1 k z fun a k=>oE h fun Aj Ae h=>cE k m call142 z z z (c_spec_l1In fu _ _ _  Ae) fun Al e a k m=>pN 2 k z fun a k=>nn (cI h k z (fun Ai h=>?_) fun Ai h=>?_)
 · refine wr (pN 1 k z fun a k=>nn (wp_ret (rt_then ?_)))
   refine fS h k m z z
 refine wp_skip (nm_then ?_)
 exact ⟨k.keep [0,1,2] z,m.sel [] z (by decide),h⟩
theorem c_spec_l7Of (fu:Nat) {w0:World} (r1:Request) (Ai:List Int) (Ao:List Int) {Bj:List Value} {F3:List Nat} (Cc:rd w0 F3 Bj r1) {v6:Value} {F7:List Nat} (Aw:rd w0 F7 [v6] Ai) {Aj:Value} {Cb:List Nat} (At:rd w0 Cb [Aj] Ao) {r:L7}
    (h:d_spec_l7Of fu r1 Ai Ao = some r) :
    Calls Tryz.prog 243 #[.agg Bj.toArray,v6,Aj] w0 fun e w=>e = .returned (.agg (Flat.e r).toArray) ∧ Ext [] w0 w:=by
 refine enter (vs:=[_,_,_]) func243 z ntmps243 z fun a k=>?_
 have m:=St.start w0
 obtain ⟨Ax,Dg,Be,Cq,Bd,Dc,rfl,rfl,Au,Ap,Ar⟩:=Cc
 unfold d_spec_l7Of at h
 refine wr (s_box (cs:=[I r1.fWay,I r1.fPallet.fW,I r1.fPallet.fD,I r1.fPallet.fH,I r1.fPallet.fGram,I r1.fClasses,Ax,Be,I r1.fMaster,Bd]) m k z z z z z z fun Ag Bc a k m e Bt=>s_alloc (cs:=[I 0,I 0]) m k zeroValue217 z z z z z fun Ah Ba a k m e Bs=>nn (wr (sv k z (r_build bt217 k (cs:=#[I 0,I 0]) (ps:=[]) z z (by kernel_rfl)) fun a k=>s_alloc (cs:=[I 0,I 0]) m k zeroValue217 z z z z z fun Ac Cv a k m e By=>s_stb (cs':=[I 0,I 0]) sizeOf217 m 0 By 0 k z z z z z z z z z z z fun Bn a k e m Co=>nn (wp_seq (wr (pN 1 k z fun a k=>nn (wp_block ?_)))))))
 refine c_loop (fun n a w=>∃ (Aa:L7) (Aq:World) (Af:Int),K 46 [(1,v6),(2,Aj),(3,.pointer (some (⟨Ag,0,none⟩:Addr))),(6,.pointer (some (⟨Ah,0,none⟩:Addr))),(7,.pointer (some (⟨Ac,0,none⟩:Addr))),(8,I Af)] a ∧ St [] w0 w [([Ag],Bc),([Ah],Ba),([Ac],Aq)] ∧ bx Aq Ac [I Aa.fvol,I Aa.fgram] 217 ∧ d_spec_l7Of_L1 fu r1 Ai Ao n Aa Af = some r) ?_ ?_ fu _ _ ?_
 · rintro a w ⟨_,_,_,_,_,_,h⟩
   exact nS h
 · rintro Bf a Dd ⟨Aa,Aq,Af,k,m,Ak,h⟩
   rw [d_spec_l7Of_L1_s] at h
   unfold d_spec_l7Of_L1_B at h
   refine wp_seq (wr (pN 2 k z fun a k=>sv k z (r_len (α:=Int) At k underlying31 z z) fun a k=>pN 1 k z fun a k=>nn (cI h k z (fun Bw h=>?_) fun Bw h=>?_)))
   · refine wp_skip (nm_then ?_)
     refine c_cut (fun a w=>∃ (Al:L7) (As:World),K 46 [(1,v6),(2,Aj),(3,.pointer (some (⟨Ag,0,none⟩:Addr))),(6,.pointer (some (⟨Ah,0,none⟩:Addr))),(7,.pointer (some (⟨Ac,0,none⟩:Addr))),(8,I Af)] a ∧ St [] w0 w [([Ag],Bc),([Ah],Ba),([Ac],As)] ∧ bx As Ac [I Al.fvol,I Al.fgram] 217 ∧ d_spec_l7Of_J1 fu (d_spec_l7Of_L1 fu r1 Ai Ao Bf) Af Al = some r) ?_ ?_
     · rintro a Cu ⟨Al,As,k,m,Cl,h⟩
       unfold d_spec_l7Of_J1 at h
       refine wp_region_lit (pN 3 k z fun a k=>nn ?_)
       exact ⟨Al,As,w64 (Af + 1),k.keep [1,2,3,6,7,8] z,m.sel [0,1,2] z (by decide),Cl,h⟩
     refine wp_block (c_cut (fun a w=>∃ (Ab:Item) (Av:Nat) (Ay:World),K 46 [(1,v6),(2,Aj),(3,.pointer (some (⟨Ag,0,none⟩:Addr))),(6,.pointer (some (⟨Ah,0,none⟩:Addr))),(7,.pointer (some (⟨Ac,0,none⟩:Addr))),(8,I Af),(9,.pointer (some (⟨Av,0,none⟩:Addr)))] a ∧ St [] w0 w [([Ag],Bc),([Ah],Ba),([Ac],Aq),([Av],Ay)] ∧ bx Ay Av [I Ab.fId,I Ab.fW,I Ab.fH,I Ab.fD,I Ab.fGram,I Ab.fClass,I Ab.fCount] 97 ∧ d_spec_l7Of_J2 fu (d_spec_l7Of_L1 fu r1 Ai Ao Bf) Aa Af Ab = some r) ?_ ?_)
     · rintro a Da ⟨Ab,Av,Ay,k,m,Am,h⟩
       unfold d_spec_l7Of_J2 at h
       refine wp_seq (d_go ([Ac]) mixo m z fun Bq hMd=>?_)
       have m:=hMd
       have s:=Ext.refl (([Ac]):List Nat) Bq
       refine dt k 0 z (by kernel_rfl) z s (fun _ _ _=>id) (fun w s=>r_fa fa217_0 k z z) fun a k=>dt k 2 z (by kernel_rfl) z s (fun _ _ _=>id) (fun w s=>r_fa fa97_1 k z z) fun a k=>dt k 3 z (by kernel_rfl) z s (fun _ _ _=>id) (fun w s=>r_ld1 t13 (r:=[]) (Am.at (hMd.az 3 2 z z z s) 1 1 z z z) k z z) fun a k=>dt k 4 z (by kernel_rfl) z s (fun _ _ _=>id) (fun w s=>r_fa fa97_2 k z z) fun a k=>dt k 5 z (by kernel_rfl) z s (fun _ _ _=>id) (fun w s=>r_ld1 t13 (r:=[]) (Am.at (hMd.az 3 2 z z z s) 2 1 z z z) k z z) fun a k=>dt k 6 z (by kernel_rfl) z s (fun _ _ _=>id) (fun w s=>r_fa fa97_3 k z z) fun a k=>?_
       refine dt k 7 z (by kernel_rfl) z s (fun _ _ _=>id) (fun w s=>r_ld1 t13 (r:=[]) (Am.at (hMd.az 3 2 z z z s) 3 1 z z z) k z z) fun a k=>d_two 1 8 (by kernel_rfl) z z ?_ ?_ 
       · refine sv k z (r_ldb t13 m 2 Ak 0 k z z z z z) fun a k=>wpList_nil ⟨s,?_⟩
         refine d_one 8 (by kernel_rfl) z (oE h fun Bb Bm h=>cE k m call66 z z z (c_spec_Volume fu _ _ _  Bm) fun Cy e a k m=>?_)
         have s:=s.trans e (by simp)
         refine wpList_nil ⟨s,?_⟩
         refine dN [9] 1 z k (by kernel_rfl) z s (fun _ _ _ _ _=>id) fun a k=>dt k 10 z (by kernel_rfl) z s (fun _ _ _=>id) (fun w s=>r_fa fa217_0 k z z) fun a k=>d_one 11 (by kernel_rfl) z (s_stb (cs':=[I (w64 (Aa.fvol + Bb)),I Aa.fgram]) sizeOf3 m 2 Ak 0 k z z z z z z z z z z z fun Cz a k e m Bg=>?_)
         have s:=s.trans e (fun y hy=>Or.inl hy)
         refine wpList_nil ⟨s,?_⟩
         refine d_done (by kernel_rfl) ((nm_then ?_))
         refine wp_region_lit (sv k z (r_fa fa217_1 k z z) fun a k=>sv k z (r_ldb t13 m 2 Bg 1 k z z z z z) fun a k=>sv k z (r_fa fa97_4 k z z) fun a k=>sv k z (r_ldb t13 m 3 Am 4 k z z z z z) fun a k=>pN 1 k z fun a k=>sv k z (r_fa fa217_1 k z z) fun a k=>s_stb (cs':=[I (w64 (Aa.fvol + Bb)),I (w64 (Aa.fgram + Ab.fGram))]) sizeOf3 m 2 Bg 1 k z z z z z z z z z z z fun Ch a k e m Bz=>wpList_nil (nm_block (nm_then ?_)))
         exact ⟨(⟨w64 (Aa.fvol + Bb),w64 (Aa.fgram + Ab.fGram)⟩:L7),Ch,k.keep [1,2,3,6,7,8] z,m.sel [0,1,2] z (by decide),Bz,h⟩
       refine oE h fun Az Ca h=>cE k m call66 z z z (c_spec_Volume fu _ _ _  Ca) fun Cs e a k m=>?_
       have s:=s.trans e (by simp)
       refine wpList_nil ⟨s,?_⟩
       refine d_one 1 (by kernel_rfl) z (sv k z (r_ldb t13 m 2 Ak 0 k z z z z z) fun a k=>wpList_nil ⟨s,?_⟩)
       refine dN [9] 1 z k (by kernel_rfl) z s (fun _ _ _ _ _=>id) fun a k=>dt k 10 z (by kernel_rfl) z s (fun _ _ _=>id) (fun w s=>r_fa fa217_0 k z z) fun a k=>d_one 11 (by kernel_rfl) z (s_stb (cs':=[I (w64 (Aa.fvol + Az)),I Aa.fgram]) sizeOf3 m 2 Ak 0 k z z z z z z z z z z z fun Cw a k e m Bh=>?_)
       have s:=s.trans e (fun y hy=>Or.inl hy)
       refine wpList_nil ⟨s,?_⟩
       refine d_done (by kernel_rfl) ((nm_then ?_))
       refine wp_region_lit (sv k z (r_fa fa217_1 k z z) fun a k=>sv k z (r_ldb t13 m 2 Bh 1 k z z z z z) fun a k=>sv k z (r_fa fa97_4 k z z) fun a k=>sv k z (r_ldb t13 m 3 Am 4 k z z z z z) fun a k=>pN 1 k z fun a k=>sv k z (r_fa fa217_1 k z z) fun a k=>s_stb (cs':=[I (w64 (Aa.fvol + Az)),I (w64 (Aa.fgram + Ab.fGram))]) sizeOf3 m 2 Bh 1 k z z z z z z z z z z z fun Cn a k e m Bv=>wpList_nil (nm_block (nm_then ?_)))
       exact ⟨(⟨w64 (Aa.fvol + Az),w64 (Aa.fgram + Ab.fGram)⟩:L7),Cn,k.keep [1,2,3,6,7,8] z,m.sel [0,1,2] z (by decide),Bv,h⟩
     refine d_go [] mixo m z fun Br hMd=>?_
     have m:=hMd
     have s:=Ext.refl ([]:List Nat) Br
     refine dN [1,2,3] 3 z k (by kernel_rfl) z s (fun _ _ _ _ _=>id) fun a k=>dt k 0 z (by kernel_rfl) z s (fun _ _ _=>id) (fun w s=>r_ldA ta30 (Bt.at ((hMd.step s).a 0 z) 0 10 z z z) z k z z) fun a k=>oE h fun Db Bi h=>dt k 4 z (by kernel_rfl) z s (fun _ _ _=>id) (fun w s=>r_ixa At Bi k ts31 z z z) fun a k=>dt k 5 z (by kernel_rfl) z s (fun _ _ _=>id) (fun w s=>r_lde1 At ((hMd.step s).a00 (Enc.rd_lt At)) Bi 0 t13 k z z z z) fun a k=>d_two 6 10 (by kernel_rfl) z z ?_ ?_ 
     · refine oE h fun Ad Cp h=>cE k m call156 z z z (c_spec_l6Item fu _ _ _ (show rd _ _ [I r1.fWay,I r1.fPallet.fW,I r1.fPallet.fD,I r1.fPallet.fH,I r1.fPallet.fGram,I r1.fClasses,Ax,Be,I r1.fMaster,Bd] (r1:Request) from ⟨_,_,_,_,_,_,z,z,(Enc.rd_agr Au (m.a00 (Enc.rd_lt Au))),(Enc.rd_agr Ap (m.a00 (Enc.rd_lt Ap))),(Enc.rd_agr Ar (m.a00 (Enc.rd_lt Ar)))⟩) (Enc.rd_agr Aw (m.a00 (Enc.rd_lt Aw))) Cp) fun Cx e a k m=>?_
       have s:=s.trans e (by simp)
       refine wpList_nil ⟨s,?_⟩
       refine dN [7,8,9] 3 z k (by kernel_rfl) z s (fun _ _ _ _ _=>id) fun a k=>d_one 10 (by kernel_rfl) z (s_allocN (cs:=[I 0,I 0,I 0,I 0,I 0,I 0,I 0]) m k zeroValue97 z z z z z fun Cm De a k m e Bu Bx=>?_)
       have Bl:=lo1 (Nat.le_trans s.size Bx)
       have s:=s.trans e (by simp)
       refine wpList_nil ⟨s,?_⟩
       refine d_one 11 (by kernel_rfl) z (s_stb (cs':=[I Ad.1.fId,I Ad.1.fW,I Ad.1.fH,I Ad.1.fD,I Ad.1.fGram,I Ad.1.fClass,I Ad.1.fCount]) sizeOf97 m 0 Bu 0 k z z z z z z z z z z z fun Bp a k e m Cj=>?_)
       have s:=s.trans e (fun y hy=>Or.inr (Bl y hy))
       refine wpList_nil ⟨s,?_⟩
       refine dN [12] 1 z k (by kernel_rfl) z s (fun _ _ _ _ _=>id) fun a k=>d_done (by kernel_rfl) ((nm_then ?_))
       exact ⟨Ad.1,Cm,Bp,k.keep [1,2,3,6,7,8,9] z,m.sel [1,2,3,0] z (by decide),Cj,h⟩
     refine s_allocN (cs:=[I 0,I 0,I 0,I 0,I 0,I 0,I 0]) m k zeroValue97 z z z z z fun Ce Ct a k m e Ck Cf=>?_
     have Bk:=lo1 (Nat.le_trans s.size Cf)
     have s:=s.trans e (by simp)
     refine wpList_nil ⟨s,?_⟩
     refine d_one 6 (by kernel_rfl) z (oE h fun Ae Ci h=>cE k m call156 z z z (c_spec_l6Item fu _ _ _ (show rd _ _ [I r1.fWay,I r1.fPallet.fW,I r1.fPallet.fD,I r1.fPallet.fH,I r1.fPallet.fGram,I r1.fClasses,Ax,Be,I r1.fMaster,Bd] (r1:Request) from ⟨_,_,_,_,_,_,z,z,(Enc.rd_agr Au (m.a00 (Enc.rd_lt Au))),(Enc.rd_agr Ap (m.a00 (Enc.rd_lt Ap))),(Enc.rd_agr Ar (m.a00 (Enc.rd_lt Ar)))⟩) (Enc.rd_agr Aw (m.a00 (Enc.rd_lt Aw))) Ci) fun Cr e a k m=>?_)
     have s:=s.trans e (by simp)
     refine wpList_nil ⟨s,?_⟩
     refine dN [7,8,9] 3 z k (by kernel_rfl) z s (fun _ _ _ _ _=>id) fun a k=>d_one 11 (by kernel_rfl) z (s_stb (cs':=[I Ae.1.fId,I Ae.1.fW,I Ae.1.fH,I Ae.1.fD,I Ae.1.fGram,I Ae.1.fClass,I Ae.1.fCount]) sizeOf97 m 0 Ck 0 k z z z z z z z z z z z fun Cg a k e m Bo=>?_)
     have s:=s.trans e (fun y hy=>Or.inr (Bk y hy))
     refine wpList_nil ⟨s,?_⟩
     refine dN [12] 1 z k (by kernel_rfl) z s (fun _ _ _ _ _=>id) fun a k=>d_done (by kernel_rfl) ((nm_then ?_))
     exact ⟨Ae.1,Ce,Cg,k.keep [1,2,3,6,7,8,9] z,m.sel [1,2,3,0] z (by decide),Bo,h⟩
   refine wp_exit (ex_then (ex_then (ex_same (nm_then ?_))))
   refine wr (sv k z (r_ldB ta217 m 2 Ak 0 k z z z z z z) fun a k=>s_stb (cs':=[I Aa.fvol,I Aa.fgram]) sizeOf217 m 1 Bs 0 k z z z z z z z z z z z fun Df a k e m Cd=>nn (wp_ret ?_))
   cases h
   exact finR1 k z (RV.cA k z ta217 (Cd.at (m.a 1 z) 0 2 z z z) z) ⟨z,m.ext⟩
 exact ⟨(⟨0,0⟩:L7),Bn,0,k.keep [1,2,3,6,7,8] z,m.sel [2,1,0] z (by decide),Co,h⟩
theorem c_spec_Holds (fu:Nat) {w0:World} (r1:Request) (Aj:List Int) (t9:Typ) {Bh:List Value} {F3:List Nat} (Cb:rd w0 F3 Bh r1) {v6:Value} {F7:List Nat} (Ao:rd w0 F7 [v6] Aj) {r:Bool}
    (h:d_spec_Holds fu r1 Aj t9 = some r) :
    Calls Tryz.prog 202 #[.agg Bh.toArray,v6,.agg (Flat.e (t9)).toArray] w0 fun e w=>e = .returned (.bool (r)) ∧ Ext [] w0 w:=by
 refine enter (vs:=[_,_,_]) func202 z ntmps202 z fun a k=>?_
 have m:=St.start w0
 obtain ⟨Ak,Cw,Am,Cn,Al,Cp,rfl,rfl,Ad,Ac,Ab⟩:=Cb
 unfold d_spec_Holds at h
 refine wr (s_box (cs:=[I r1.fWay,I r1.fPallet.fW,I r1.fPallet.fD,I r1.fPallet.fH,I r1.fPallet.fGram,I r1.fClasses,Ak,Am,I r1.fMaster,Al]) m k z z z z z z fun Ah Av a k m e Bb=>s_box (cs:=[I t9.fId,I t9.fW,I t9.fH,I t9.fD,I t9.fTare,I t9.fGram,I t9.fCost]) m k z z z z z z fun Ai Ba a k m e Aq=>pN 1 k z fun a k=>nn (wp_seq (wr (sv k z (r_ldB ta30 m 1 Bb 0 k z z z z z z) fun a k=>oE h fun De Bl h=>?_))))
 refine cE k m call19 z z z (c_spec_Class fu _ (show rd _ _ [I r1.fWay,I r1.fPallet.fW,I r1.fPallet.fD,I r1.fPallet.fH,I r1.fPallet.fGram,I r1.fClasses,Ak,Am,I r1.fMaster,Al] (r1:Request) from ⟨_,_,_,_,_,_,z,z,(Enc.rd_agr Ad (m.a00 (Enc.rd_lt Ad))),(Enc.rd_agr Ac (m.a00 (Enc.rd_lt Ac))),(Enc.rd_agr Ab (m.a00 (Enc.rd_lt Ab)))⟩) Bl) fun Co e a k m=>pN 1 k z fun a k=>nn (cI h k z (fun Bv h=>?_) fun Bv h=>?_)
 · refine wr (pN 1 k z fun a k=>nn (wp_ret (rt_then ?_)))
   refine fS h k m z z
 refine wp_skip (nm_then ?_)
 refine wr (sv k z (r_ldB ta30 m 1 Bb 0 k z z z z z z) fun a k=>oE h fun Aw Bx h=>s_call k call86 z z z z z (c_spec_l6Units fu _ (show rd _ _ [I r1.fWay,I r1.fPallet.fW,I r1.fPallet.fD,I r1.fPallet.fH,I r1.fPallet.fGram,I r1.fClasses,Ak,Am,I r1.fMaster,Al] (r1:Request) from ⟨_,_,_,_,_,_,z,z,(Enc.rd_agr Ad (m.a00 (Enc.rd_lt Ad))),(Enc.rd_agr Ac (m.a00 (Enc.rd_lt Ac))),(Enc.rd_agr Ab (m.a00 (Enc.rd_lt Ab)))⟩) Bx) fun Cm Au hR=>?_)
 obtain ⟨Az,Ar,rfl,e,Ap,Bk⟩:=hR
 refine ⟨_,z,fun a k=>?_⟩
 have m:=m.new e Ar (fun b hb=>⟨Bk b hb,Enc.rd_lt (Enc.ow_rd Ap) b hb⟩) (Enc.ow_nd Ap)
 refine pN 1 k z fun a k=>nn (c_cut (fun a w=>K 62 [(1,v6),(3,.pointer (some (⟨Ah,0,none⟩:Addr))),(5,.pointer (some (⟨Ai,0,none⟩:Addr))),(7,Az)] a ∧ St [] w0 w [([Ah],Av),([Ai],Ba),(Ar,Au)] ∧ d_spec_Holds_J1 fu r1 Aj t9 Aw = some r) ?_ ?_)
 · rintro a Cz ⟨k,m,h⟩
   unfold d_spec_Holds_J1 at h
   refine wr (sv k z (r_ldB ta30 m 0 Bb 0 k z z z z z z) fun a k=>pN 2 k z fun a k=>oE h fun Bc Cj h=>cE k m call243 z z z (c_spec_l7Of fu _ _ _ (show rd _ _ [I r1.fWay,I r1.fPallet.fW,I r1.fPallet.fD,I r1.fPallet.fH,I r1.fPallet.fGram,I r1.fClasses,Ak,Am,I r1.fMaster,Al] (r1:Request) from ⟨_,_,_,_,_,_,z,z,(Enc.rd_agr Ad (m.a00 (Enc.rd_lt Ad))),(Enc.rd_agr Ac (m.a00 (Enc.rd_lt Ac))),(Enc.rd_agr Ab (m.a00 (Enc.rd_lt Ab)))⟩) (Enc.rd_agr (Enc.ow_rd Ap) (m.a 2 z)) (Enc.rd_agr Ao (m.a00 (Enc.rd_lt Ao))) Cj) fun Dd e a k m=>s_alloc (cs:=[I 0,I 0]) m k zeroValue217 z z z z z fun Df Ct a k m e Cd=>?_)
   refine s_stb (cs':=[I Bc.fvol,I Bc.fgram]) sizeOf217 m 0 Cd 0 k z z z z z z z z z z z fun Cv a k e m Be=>nn (wp_seq (d_go [] mixo m z fun Bq hMd=>?_))
   have m:=hMd
   have s:=Ext.refl ([]:List Nat) Bq
   refine dt k 0 z (by kernel_rfl) z s (fun _ _ _=>id) (fun w s=>r_fa fa217_0 k z z) fun a k=>dt k 1 z (by kernel_rfl) z s (fun _ _ _=>id) (fun w s=>r_ld1 t13 (r:=[]) (Be.at ((hMd.step s).a 0 z) 0 1 z z z) k z z) fun a k=>dt k 2 z (by kernel_rfl) z s (fun _ _ _=>id) (fun w s=>r_fa fa38_1 k z z) fun a k=>dt k 3 z (by kernel_rfl) z s (fun _ _ _=>id) (fun w s=>r_ld1 t13 (r:=[]) (Aq.at ((hMd.step s).a 2 z) 1 1 z z z) k z z) fun a k=>dt k 4 z (by kernel_rfl) z s (fun _ _ _=>id) (fun w s=>r_fa fa38_2 k z z) fun a k=>dt k 5 z (by kernel_rfl) z s (fun _ _ _=>id) (fun w s=>r_ld1 t13 (r:=[]) (Aq.at ((hMd.step s).a 2 z) 2 1 z z z) k z z) fun a k=>?_
   refine dt k 6 z (by kernel_rfl) z s (fun _ _ _=>id) (fun w s=>r_fa fa38_3 k z z) fun a k=>dt k 7 z (by kernel_rfl) z s (fun _ _ _=>id) (fun w s=>r_ld1 t13 (r:=[]) (Aq.at ((hMd.step s).a 2 z) 3 1 z z z) k z z) fun a k=>d_one 8 (by kernel_rfl) z (oE h fun Bz Cc h=>cE k m call66 z z z (c_spec_Volume fu _ _ _  Cc) fun Cl e a k m=>?_)
   have s:=s.trans e (by simp)
   refine wpList_nil ⟨s,?_⟩
   refine dN [9,10] 2 z k (by kernel_rfl) z s (fun _ _ _ _ _=>id) fun a k=>bsplit (decide (Bc.fvol ≤ Bz)) (fun At=>?_) (fun At=>?_)
   · have h:=bif_t At h
     refine rB k 55 z At fun k=>dt k 11 z (by kernel_rfl) z s (fun _ _ _=>id) (fun w s=>r_fa fa217_1 k z z) fun a k=>dt k 12 z (by kernel_rfl) z s (fun _ _ _=>id) (fun w s=>r_ld1 t13 (r:=[]) (Be.at ((hMd.step s).a 0 z) 1 1 z z z) k z z) fun a k=>dt k 13 z (by kernel_rfl) z s (fun _ _ _=>id) (fun w s=>r_fa fa38_5 k z z) fun a k=>dt k 14 z (by kernel_rfl) z s (fun _ _ _=>id) (fun w s=>r_ld1 t13 (r:=[]) (Aq.at ((hMd.step s).a 2 z) 5 1 z z z) k z z) fun a k=>dN [15,16,17] 3 z k (by kernel_rfl) z s (fun _ _ _ _ _=>id) fun a k=>d_done (by kernel_rfl) ((nm_then ?_))
     refine wp_ret (fS h k m z z)
   have h:=bif_f At h
   refine rB k 55 z At fun k=>dN [11,12,13,14,15,16,17] 7 z k (by kernel_rfl) z s (fun _ _ _ _ _=>id) fun a k=>d_done (by kernel_rfl) ((nm_then ?_))
   refine wp_ret (fS h k m z z)
 refine wr (pN 1 k z fun a k=>nn (wp_block (c_loop (fun n a w=>∃ (Ag:Int),K 62 [(1,v6),(3,.pointer (some (⟨Ah,0,none⟩:Addr))),(5,.pointer (some (⟨Ai,0,none⟩:Addr))),(7,Az),(8,I Ag)] a ∧ St [] w0 w [([Ah],Av),([Ai],Ba),(Ar,Au)] ∧ d_spec_Holds_L1 fu r1 Aj t9 Aw n Ag = some r) ?_ ?_ fu _ _ ?_)))
 · rintro a w ⟨_,_,_,h⟩
   exact nS h
 · rintro Bf a Db ⟨Ag,k,m,h⟩
   rw [d_spec_Holds_L1_s] at h
   unfold d_spec_Holds_L1_B at h
   refine wp_seq (wr (pN 2 k z fun a k=>sv k z (r_len (α:=Int) Ao k underlying31 z z) fun a k=>pN 1 k z fun a k=>nn (cI h k z (fun Ce h=>?_) fun Ce h=>?_)))
   · refine wp_skip (nm_then ?_)
     refine c_cut (fun a w=>K 62 [(1,v6),(3,.pointer (some (⟨Ah,0,none⟩:Addr))),(5,.pointer (some (⟨Ai,0,none⟩:Addr))),(7,Az),(8,I Ag)] a ∧ St [] w0 w [([Ah],Av),([Ai],Ba),(Ar,Au)] ∧ d_spec_Holds_J2 fu (d_spec_Holds_L1 fu r1 Aj t9 Aw Bf) Ag = some r) ?_ ?_
     · rintro a Cq ⟨k,m,h⟩
       unfold d_spec_Holds_J2 at h
       refine wp_region_lit (pN 3 k z fun a k=>nn ?_)
       exact ⟨w64 (Ag + 1),k.keep [1,3,5,7,8] z,m.sel [0,1,2] z (by decide),h⟩
     refine wp_block (c_cut (fun a w=>∃ (Aa:Item) (Ax:Nat) (Bd:World) (Ay:Bool),K 62 [(1,v6),(3,.pointer (some (⟨Ah,0,none⟩:Addr))),(5,.pointer (some (⟨Ai,0,none⟩:Addr))),(7,Az),(8,I Ag),(9,.pointer (some (⟨Ax,0,none⟩:Addr))),(10,.bool (Ay))] a ∧ St [] w0 w [([Ah],Av),([Ai],Ba),(Ar,Au),([Ax],Bd)] ∧ bx Bd Ax [I Aa.fId,I Aa.fW,I Aa.fH,I Aa.fD,I Aa.fGram,I Aa.fClass,I Aa.fCount] 97 ∧ d_spec_Holds_J3 fu (d_spec_Holds_L1 fu r1 Aj t9 Aw Bf) t9 Ag Aa Ay = some r) ?_ ?_)
     · rintro a Cx ⟨Aa,Ax,Bd,Ay,k,m,Bw,h⟩
       unfold d_spec_Holds_J3 at h
       refine wr (pN 3 k z fun a k=>bsplit (!Ay) (fun As=>?_) (fun As=>?_))
       · have h:=bif_t As h
         refine rB k 35 z As fun k=>pN 5 k z fun a k=>nn (wp_cond_true (k.ev z) (wr (pN 1 k z fun a k=>nn (wp_ret (rt_block (rt_then (rt_then (rt_block (rt_then ?_)))))))))
         refine fS h k m z z
       have h:=bif_f As h
       refine rB k 35 z As fun k=>sv k z (r_ldB ta97 m 3 Bw 0 k z z z z z z) fun a k=>sv k z (r_ldB ta38 m 1 Aq 0 k z z z z z z) fun a k=>oE h fun Cu Bs h=>cE k m call73 z z z (c_spec_Fits fu (Aa:Item) (t9:Typ)  Bs) fun Dc e a k m=>pN 2 k z fun a k=>nn (cI h k z (fun Bi h=>?_) fun Bi h=>?_)
       · refine wr (pN 1 k z fun a k=>nn (wp_ret (rt_block (rt_then (rt_then (rt_block (rt_then ?_)))))))
         refine fS h k m z z
       refine wp_skip (nm_block (nm_then ?_))
       exact ⟨k.keep [1,3,5,7,8] z,m.sel [0,1,2] z (by decide),h⟩
     refine d_go [] mixo m z fun Ck hMd=>?_
     have m:=hMd
     have s:=Ext.refl ([]:List Nat) Ck
     refine dN [1,2,3] 3 z k (by kernel_rfl) z s (fun _ _ _ _ _=>id) fun a k=>dt k 0 z (by kernel_rfl) z s (fun _ _ _=>id) (fun w s=>r_ldA ta30 (Bb.at ((hMd.step s).a 0 z) 0 10 z z z) z k z z) fun a k=>oE h fun Cs Bg h=>dt k 4 z (by kernel_rfl) z s (fun _ _ _=>id) (fun w s=>r_ixa Ao Bg k ts31 z z z) fun a k=>dt k 5 z (by kernel_rfl) z s (fun _ _ _=>id) (fun w s=>r_lde1 Ao ((hMd.step s).a00 (Enc.rd_lt Ao)) Bg 0 t13 k z z z z) fun a k=>d_two 6 10 (by kernel_rfl) z z ?_ ?_ 
     · refine oE h fun Ae Ch h=>cE k m call156 z z z (c_spec_l6Item fu _ _ _ (show rd _ _ [I r1.fWay,I r1.fPallet.fW,I r1.fPallet.fD,I r1.fPallet.fH,I r1.fPallet.fGram,I r1.fClasses,Ak,Am,I r1.fMaster,Al] (r1:Request) from ⟨_,_,_,_,_,_,z,z,(Enc.rd_agr Ad (m.a00 (Enc.rd_lt Ad))),(Enc.rd_agr Ac (m.a00 (Enc.rd_lt Ac))),(Enc.rd_agr Ab (m.a00 (Enc.rd_lt Ab)))⟩) (Enc.rd_agr (Enc.ow_rd Ap) (m.a 2 z)) Ch) fun Cy e a k m=>?_
       have s:=s.trans e (by simp)
       refine wpList_nil ⟨s,?_⟩
       refine dN [7,8,9] 3 z k (by kernel_rfl) z s (fun _ _ _ _ _=>id) fun a k=>d_one 10 (by kernel_rfl) z (s_allocN (cs:=[I 0,I 0,I 0,I 0,I 0,I 0,I 0]) m k zeroValue97 z z z z z fun Cf Dg a k m e Ca Ci=>?_)
       have Bt:=lo1 (Nat.le_trans s.size Ci)
       have s:=s.trans e (by simp)
       refine wpList_nil ⟨s,?_⟩
       refine d_one 11 (by kernel_rfl) z (s_stb (cs':=[I Ae.1.fId,I Ae.1.fW,I Ae.1.fH,I Ae.1.fD,I Ae.1.fGram,I Ae.1.fClass,I Ae.1.fCount]) sizeOf97 m 0 Ca 0 k z z z z z z z z z z z fun Bj a k e m Cg=>?_)
       have s:=s.trans e (fun y hy=>Or.inr (Bt y hy))
       refine wpList_nil ⟨s,?_⟩
       refine dN [12] 1 z k (by kernel_rfl) z s (fun _ _ _ _ _=>id) fun a k=>d_done (by kernel_rfl) ((nm_then ?_))
       exact ⟨Ae.1,Cf,Bj,Ae.2,k.keep [1,3,5,7,8,9,10] z,m.sel [1,2,3,0] z (by decide),Cg,h⟩
     refine s_allocN (cs:=[I 0,I 0,I 0,I 0,I 0,I 0,I 0]) m k zeroValue97 z z z z z fun Bm Cr a k m e Bp Bn=>?_
     have By:=lo1 (Nat.le_trans s.size Bn)
     have s:=s.trans e (by simp)
     refine wpList_nil ⟨s,?_⟩
     refine d_one 6 (by kernel_rfl) z (oE h fun Af Bo h=>cE k m call156 z z z (c_spec_l6Item fu _ _ _ (show rd _ _ [I r1.fWay,I r1.fPallet.fW,I r1.fPallet.fD,I r1.fPallet.fH,I r1.fPallet.fGram,I r1.fClasses,Ak,Am,I r1.fMaster,Al] (r1:Request) from ⟨_,_,_,_,_,_,z,z,(Enc.rd_agr Ad (m.a00 (Enc.rd_lt Ad))),(Enc.rd_agr Ac (m.a00 (Enc.rd_lt Ac))),(Enc.rd_agr Ab (m.a00 (Enc.rd_lt Ab)))⟩) (Enc.rd_agr (Enc.ow_rd Ap) (m.a 3 z)) Bo) fun Da e a k m=>?_)
     have s:=s.trans e (by simp)
     refine wpList_nil ⟨s,?_⟩
     refine dN [7,8,9] 3 z k (by kernel_rfl) z s (fun _ _ _ _ _=>id) fun a k=>d_one 11 (by kernel_rfl) z (s_stb (cs':=[I Af.1.fId,I Af.1.fW,I Af.1.fH,I Af.1.fD,I Af.1.fGram,I Af.1.fClass,I Af.1.fCount]) sizeOf97 m 0 Bp 0 k z z z z z z z z z z z fun Br a k e m Bu=>?_)
     have s:=s.trans e (fun y hy=>Or.inr (By y hy))
     refine wpList_nil ⟨s,?_⟩
     refine dN [12] 1 z k (by kernel_rfl) z s (fun _ _ _ _ _=>id) fun a k=>d_done (by kernel_rfl) ((nm_then ?_))
     exact ⟨Af.1,Bm,Br,Af.2,k.keep [1,3,5,7,8,9,10] z,m.sel [1,2,3,0] z (by decide),Bu,h⟩
   refine wp_exit (ex_then (ex_then (ex_same (nm_then ?_))))
   exact ⟨k.keep [1,3,5,7] z,m.sel [0,1,2] z (by decide),h⟩
 exact ⟨0,k.keep [1,3,5,7,8] z,m.sel [2,1,0] z (by decide),h⟩
theorem c_spec_l15Holds (fu:Nat) {w0:World} (r1:Request) (x5:Plan) {Ba:List Value} {F3:List Nat} (Bv:rd w0 F3 Ba r1) {Ax:List Value} {F7:List Nat} (Cc:rd w0 F7 Ax x5) {r:Bool}
    (h:d_spec_l15Holds fu r1 x5 = some r) :
    Calls Tryz.prog 112 #[.agg Ba.toArray,.agg Ax.toArray] w0 fun e w=>e = .returned (.bool (r)) ∧ Ext [] w0 w:=by
 refine enter (vs:=[_,_]) func112 z ntmps112 z fun a k=>?_
 have m:=St.start w0
 obtain ⟨v9,Cj,Ao,Da,Al,Dc,rfl,rfl,Ag,Aj,Ai⟩:=Bv
 obtain ⟨Bd,Ch,Bb,Ck,rfl,rfl,Ae,Cs⟩:=Cc
 unfold d_spec_l15Holds at h
 refine wr (s_box (cs:=[I r1.fWay,I r1.fPallet.fW,I r1.fPallet.fD,I r1.fPallet.fH,I r1.fPallet.fGram,I r1.fClasses,v9,Ao,I r1.fMaster,Al]) m k z z z z z z fun Ah As a k m e Az=>s_box (cs:=[Bd,Bb]) m k z z z z z z fun Af Ar a k m e Aq=>pN 1 k z fun a k=>nn (wp_seq (wr (pN 1 k z fun a k=>nn (wp_block (c_loop (fun n a w=>∃ (Ad:Int),K 40 [(2,.pointer (some (⟨Ah,0,none⟩:Addr))),(3,.pointer (some (⟨Af,0,none⟩:Addr))),(5,I Ad)] a ∧ St [] w0 w [([Ah],As),([Af],Ar)] ∧ d_spec_l15Holds_L1 fu r1 x5 n Ad = some r) ?_ ?_ fu _ _ ?_))))))
 · rintro a w ⟨_,_,_,h⟩
   exact nS h
 · rintro Au a Cp ⟨Ad,k,m,h⟩
   rw [d_spec_l15Holds_L1_s] at h
   unfold d_spec_l15Holds_L1_B at h
   refine wp_seq (wr (pN 1 k z fun a k=>sv k z (r_fa fa74_0 k z z) fun a k=>sv k z (r_ldb t143 m 1 Aq 0 k z z z z z) fun a k=>sv k z (r_len (α:=Carton) Ae k underlying43 z z) fun a k=>pN 1 k z fun a k=>nn (cI h k z (fun Br h=>?_) fun Br h=>?_)))
   · refine wp_skip (nm_then ?_)
     refine c_cut (fun a w=>K 40 [(2,.pointer (some (⟨Ah,0,none⟩:Addr))),(3,.pointer (some (⟨Af,0,none⟩:Addr))),(5,I Ad)] a ∧ St [] w0 w [([Ah],As),([Af],Ar)] ∧ d_spec_l15Holds_J1 fu (d_spec_l15Holds_L1 fu r1 x5 Au) Ad = some r) ?_ ?_
     · rintro a Db ⟨k,m,h⟩
       unfold d_spec_l15Holds_J1 at h
       refine wp_region_lit (pN 3 k z fun a k=>nn ?_)
       exact ⟨w64 (Ad + 1),k.keep [2,3,5] z,m.sel [0,1] z (by decide),h⟩
     refine wp_block (c_cut (fun a w=>∃ (Aa:Typ) (Am:Nat) (At:World) (Ap:Bool),K 40 [(2,.pointer (some (⟨Ah,0,none⟩:Addr))),(3,.pointer (some (⟨Af,0,none⟩:Addr))),(5,I Ad),(6,.pointer (some (⟨Am,0,none⟩:Addr))),(7,.bool (Ap))] a ∧ St [] w0 w [([Ah],As),([Af],Ar),([Am],At)] ∧ bx At Am [I Aa.fId,I Aa.fW,I Aa.fH,I Aa.fD,I Aa.fTare,I Aa.fGram,I Aa.fCost] 38 ∧ d_spec_l15Holds_J2 fu (d_spec_l15Holds_L1 fu r1 x5 Au) r1 x5 Ad Aa Ap = some r) ?_ ?_)
     · rintro a Cf ⟨Aa,Am,At,Ap,k,m,Bf,h⟩
       unfold d_spec_l15Holds_J2 at h
       refine wp_seq (d_go [] mixo m z fun Bo hMd=>?_)
       have m:=hMd
       have s:=Ext.refl ([]:List Nat) Bo
       refine dN [0,1,2] 3 z k (by kernel_rfl) z s (fun _ _ _ _ _=>id) fun a k=>bsplit (!Ap) (fun Ak=>?_) (fun Ak=>?_)
       · have h:=bif_t Ak h
         refine rB k 28 z Ak fun k=>dN [3,4,5,6,7,8,9,10,11,12,13] 11 z k (by kernel_rfl) z s (fun _ _ _ _ _=>id) fun a k=>d_done (by kernel_rfl) ((nm_then ?_))
         refine wp_cond_true (k.ev z) (wr (pN 1 k z fun a k=>nn (wp_ret (rt_block (rt_then (rt_then (rt_block (rt_then ?_))))))))
         refine fS h k m z z
       have h:=bif_f Ak h
       refine rB k 28 z Ak fun k=>dN [6] 1 z k (by kernel_rfl) z s (fun _ _ _ _ _=>id) fun a k=>dt k 3 z (by kernel_rfl) z s (fun _ _ _=>id) (fun w s=>r_ldA ta30 (Az.at ((hMd.step s).a 0 z) 0 10 z z z) z k z z) fun a k=>dt k 4 z (by kernel_rfl) z s (fun _ _ _=>id) (fun w s=>r_fa fa74_0 k z z) fun a k=>dt k 5 z (by kernel_rfl) z s (fun _ _ _=>id) (fun w s=>r_ld1 t143 (r:=[]) (Aq.at ((hMd.step s).a 1 z) 0 1 z z z) k z z) fun a k=>oE h fun Cu Aw h=>dt k 7 z (by kernel_rfl) z s (fun _ _ _=>id) (fun w s=>r_ixa Ae Aw k ts43 z z z) fun a k=>dt k 8 z (by kernel_rfl) z s (fun _ _ _=>id) (fun w s=>r_fa fa33_2 k z z) fun a k=>?_
       obtain ⟨Ci,Cy,Ct,Bx,Bi,Bh⟩:=rd_get Ae (ix_some Aw).2.2
       obtain ⟨Cn,_,rfl,rfl,Av⟩:=Bx
       refine dt k 9 z (by kernel_rfl) z s (fun _ _ _=>id) (fun w s=>r_ld1 t131 ((Bi.agr ((hMd.step s).a00 (Enc.rd_lt Ae)) Bh).fld 2 1 (Nat.le_of_ble_eq_true z)) k z z) fun a k=>dt k 10 z (by kernel_rfl) z s (fun _ _ _=>id) (fun w s=>r_ldA ta38 (Bf.at ((hMd.step s).a 2 z) 0 7 z z z) z k z z) fun a k=>d_one 11 (by kernel_rfl) z (oE h fun Cl Bl h=>?_)
       refine cE k m call202 z z z (c_spec_Holds fu _ _ (Aa:Typ) (show rd _ _ [I r1.fWay,I r1.fPallet.fW,I r1.fPallet.fD,I r1.fPallet.fH,I r1.fPallet.fGram,I r1.fClasses,v9,Ao,I r1.fMaster,Al] (r1:Request) from ⟨_,_,_,_,_,_,z,z,(Enc.rd_agr Ag (m.a00 (Enc.rd_lt Ag))),(Enc.rd_agr Aj (m.a00 (Enc.rd_lt Aj))),(Enc.rd_agr Ai (m.a00 (Enc.rd_lt Ai)))⟩) (Enc.rd_agr Av (m.a00 (Enc.rd_lt Av))) Bl) fun Cq e a k m=>?_
       have s:=s.trans e (by simp)
       refine wpList_nil ⟨s,?_⟩
       refine dN [12,13] 2 z k (by kernel_rfl) z s (fun _ _ _ _ _=>id) fun a k=>d_done (by kernel_rfl) ((nm_then ?_))
       refine cI h k z (fun Be h=>?_) fun Be h=>?_
       · refine wr (pN 1 k z fun a k=>nn (wp_ret (rt_block (rt_then (rt_then (rt_block (rt_then ?_)))))))
         refine fS h k m z z
       refine wp_skip (nm_block (nm_then ?_))
       exact ⟨k.keep [2,3,5] z,m.sel [0,1] z (by decide),h⟩
     refine d_go [] mixo m z fun Bs hMd=>?_
     have m:=hMd
     have s:=Ext.refl ([]:List Nat) Bs
     refine dN [3] 1 z k (by kernel_rfl) z s (fun _ _ _ _ _=>id) fun a k=>dt k 0 z (by kernel_rfl) z s (fun _ _ _=>id) (fun w s=>r_ldA ta30 (Az.at ((hMd.step s).a 0 z) 0 10 z z z) z k z z) fun a k=>dt k 1 z (by kernel_rfl) z s (fun _ _ _=>id) (fun w s=>r_fa fa74_0 k z z) fun a k=>dt k 2 z (by kernel_rfl) z s (fun _ _ _=>id) (fun w s=>r_ld1 t143 (r:=[]) (Aq.at ((hMd.step s).a 1 z) 0 1 z z z) k z z) fun a k=>oE h fun Cr Ay h=>dt k 4 z (by kernel_rfl) z s (fun _ _ _=>id) (fun w s=>r_ixa Ae Ay k ts43 z z z) fun a k=>dt k 5 z (by kernel_rfl) z s (fun _ _ _=>id) (fun w s=>r_fa fa33_0 k z z) fun a k=>?_
     obtain ⟨Co,Cv,Cx,Cb,Cd,Bz⟩:=rd_get Ae (ix_some Ay).2.2
     obtain ⟨Dd,_,rfl,rfl,Cm⟩:=Cb
     refine dt k 6 z (by kernel_rfl) z s (fun _ _ _=>id) (fun w s=>r_ld1 t13 ((Cd.agr ((hMd.step s).a00 (Enc.rd_lt Ae)) Bz).fld 0 1 (Nat.le_of_ble_eq_true z)) k z z) fun a k=>d_two 7 11 (by kernel_rfl) z z ?_ ?_ 
     · refine oE h fun Ac Bg h=>cE k m call64 z z z (c_spec_TypeById fu _ _ (show rd _ _ [I r1.fWay,I r1.fPallet.fW,I r1.fPallet.fD,I r1.fPallet.fH,I r1.fPallet.fGram,I r1.fClasses,v9,Ao,I r1.fMaster,Al] (r1:Request) from ⟨_,_,_,_,_,_,z,z,(Enc.rd_agr Ag (m.a00 (Enc.rd_lt Ag))),(Enc.rd_agr Aj (m.a00 (Enc.rd_lt Aj))),(Enc.rd_agr Ai (m.a00 (Enc.rd_lt Ai)))⟩) Bg) fun De e a k m=>?_
       have s:=s.trans e (by simp)
       refine wpList_nil ⟨s,?_⟩
       refine dN [8,9,10] 3 z k (by kernel_rfl) z s (fun _ _ _ _ _=>id) fun a k=>d_one 11 (by kernel_rfl) z (s_allocN (cs:=[I 0,I 0,I 0,I 0,I 0,I 0,I 0]) m k zeroValue38 z z z z z fun Bw Cw a k m e Bu Bj=>?_)
       have Bc:=lo1 (Nat.le_trans s.size Bj)
       have s:=s.trans e (by simp)
       refine wpList_nil ⟨s,?_⟩
       refine d_one 12 (by kernel_rfl) z (s_stb (cs':=[I Ac.1.fId,I Ac.1.fW,I Ac.1.fH,I Ac.1.fD,I Ac.1.fTare,I Ac.1.fGram,I Ac.1.fCost]) sizeOf38 m 0 Bu 0 k z z z z z z z z z z z fun Bt a k e m Ca=>?_)
       have s:=s.trans e (fun y hy=>Or.inr (Bc y hy))
       refine wpList_nil ⟨s,?_⟩
       refine dN [13] 1 z k (by kernel_rfl) z s (fun _ _ _ _ _=>id) fun a k=>d_done (by kernel_rfl) ((nm_then ?_))
       exact ⟨Ac.1,Bw,Bt,Ac.2,k.keep [2,3,5,6,7] z,m.sel [1,2,0] z (by decide),Ca,h⟩
     refine s_allocN (cs:=[I 0,I 0,I 0,I 0,I 0,I 0,I 0]) m k zeroValue38 z z z z z fun By Cg a k m e Bq Bp=>?_
     have Bn:=lo1 (Nat.le_trans s.size Bp)
     have s:=s.trans e (by simp)
     refine wpList_nil ⟨s,?_⟩
     refine d_one 7 (by kernel_rfl) z (oE h fun Ab Bk h=>cE k m call64 z z z (c_spec_TypeById fu _ _ (show rd _ _ [I r1.fWay,I r1.fPallet.fW,I r1.fPallet.fD,I r1.fPallet.fH,I r1.fPallet.fGram,I r1.fClasses,v9,Ao,I r1.fMaster,Al] (r1:Request) from ⟨_,_,_,_,_,_,z,z,(Enc.rd_agr Ag (m.a00 (Enc.rd_lt Ag))),(Enc.rd_agr Aj (m.a00 (Enc.rd_lt Aj))),(Enc.rd_agr Ai (m.a00 (Enc.rd_lt Ai)))⟩) Bk) fun Cz e a k m=>?_)
     have s:=s.trans e (by simp)
     refine wpList_nil ⟨s,?_⟩
     refine dN [8,9,10] 3 z k (by kernel_rfl) z s (fun _ _ _ _ _=>id) fun a k=>d_one 12 (by kernel_rfl) z (s_stb (cs':=[I Ab.1.fId,I Ab.1.fW,I Ab.1.fH,I Ab.1.fD,I Ab.1.fTare,I Ab.1.fGram,I Ab.1.fCost]) sizeOf38 m 0 Bq 0 k z z z z z z z z z z z fun Bm a k e m Ce=>?_)
     have s:=s.trans e (fun y hy=>Or.inr (Bn y hy))
     refine wpList_nil ⟨s,?_⟩
     refine dN [13] 1 z k (by kernel_rfl) z s (fun _ _ _ _ _=>id) fun a k=>d_done (by kernel_rfl) ((nm_then ?_))
     exact ⟨Ab.1,By,Bm,Ab.2,k.keep [2,3,5,6,7] z,m.sel [1,2,0] z (by decide),Ce,h⟩
   refine wp_exit (ex_then (ex_then (ex_same (nm_then ?_))))
   refine wr (pN 1 k z fun a k=>nn (wp_ret (fS h k m z z)))
 exact ⟨0,k.keep [2,3,5] z,m.sel [1,0] z (by decide),h⟩
theorem c_spec_Present (fu:Nat) {w0:World} (r1:Request) {Aw:List Value} {F3:List Nat} (Bp:rd w0 F3 Aw r1) {r:(List Int)}
    (h:d_spec_Present fu r1 = some r) :
    Calls Tryz.prog 250 #[.agg Aw.toArray] w0 fun e w=>∃ (v0:Value) (G0:List Nat),e = .returned (v0) ∧ Ext [] w0 w ∧ ow w G0 [v0] r ∧ (∀ b ∈ G0,w0.heap.size ≤ b):=by
 refine enter (vs:=[_]) func250 z ntmps250 z fun a k=>?_
 have m:=St.start w0
 obtain ⟨v5,F6,v7,F8,v9,By,rfl,rfl,Av,Ax,Ah⟩:=Bp
 unfold d_spec_Present at h
 refine wr (s_box (cs:=[I r1.fWay,I r1.fPallet.fW,I r1.fPallet.fD,I r1.fPallet.fH,I r1.fPallet.fGram,I r1.fClasses,v5,v7,I r1.fMaster,v9]) m k z z z z z z fun Ab Aq a k m e At=>pN 1 k z fun a k=>nn (wr (s_bs (cs:=[]) (ps:=[]) te31 m k z z z z z z z (by decide) z (by exact (List.forall_mem_nil _)) fun As Bs Cc a k m e Br=>?_)))
 have Ay:=ow_bx Br ([]:List Int) z z z
 refine pN 1 k z fun a k=>nn (wp_seq (wr (sv k z (r_ldB ta30 m 1 At 0 k z z z z z z) fun a k=>oE h fun Ca Bk h=>cE k m call19 z z z (c_spec_Class fu _ (show rd _ _ [I r1.fWay,I r1.fPallet.fW,I r1.fPallet.fD,I r1.fPallet.fH,I r1.fPallet.fGram,I r1.fClasses,v5,v7,I r1.fMaster,v9] (r1:Request) from ⟨_,_,_,_,_,_,z,z,(Enc.rd_agr Av (m.a00 (Enc.rd_lt Av))),(Enc.rd_agr Ax (m.a00 (Enc.rd_lt Ax))),(Enc.rd_agr Ah (m.a00 (Enc.rd_lt Ah)))⟩) Bk) fun Bu e a k m=>pN 1 k z fun a k=>nn (cI h k z (fun Bg h=>?_) fun Bg h=>?_))))
 · refine wr (pN 2 k z fun a k=>nn (wp_ret (rt_then ?_)))
   cases h
   exact finR1 k z (RV.tmp k z) ⟨_,[As],z,m.ext,(Enc.ow_agr Ay (m.a 0 z)),(m.fresh 0 z)⟩
 refine wp_skip (nm_then ?_)
 refine wp_seq (wr (pN 1 k z fun a k=>nn (wp_block (c_loop (fun n a w=>∃ (Ad:List Int) (Ae:Value) (Ac:List Nat) (Ag:World) (Aa:Int),K 40 [(1,.pointer (some (⟨Ab,0,none⟩:Addr))),(3,Ae),(4,I Aa)] a ∧ St [] w0 w [([Ab],Aq),(Ac,Ag)] ∧ ow Ag Ac [Ae] Ad ∧ d_spec_Present_L2 fu r1 n Ad Aa = some r) ?_ ?_ fu _ _ ?_))))
 · rintro a w ⟨_,_,_,_,_,_,_,_,h⟩
   exact nS h
 · rintro Ar a Bt ⟨Ad,Ae,Ac,Ag,Aa,k,m,Au,h⟩
   rw [d_spec_Present_L2_s] at h
   unfold d_spec_Present_L2_B at h
   refine wp_seq (wr (pN 2 k z fun a k=>nn (cI h k z (fun Be h=>?_) fun Be h=>?_)))
   · refine wp_skip (nm_then ?_)
     refine c_cut (fun a w=>∃ (Ap:List Int) (Am:Value) (Ak:List Nat) (Ao:World),K 40 [(1,.pointer (some (⟨Ab,0,none⟩:Addr))),(3,Am),(4,I Aa)] a ∧ St [] w0 w [([Ab],Aq),(Ak,Ao)] ∧ ow Ao Ak [Am] Ap ∧ d_spec_Present_J1 fu (d_spec_Present_L2 fu r1 Ar) Aa Ap = some r) ?_ ?_
     · rintro a Cd ⟨Ap,Am,Ak,Ao,k,m,Bh,h⟩
       unfold d_spec_Present_J1 at h
       refine wp_region_lit (pN 3 k z fun a k=>nn ?_)
       exact ⟨Ap,Am,Ak,Ao,w64 (Aa + 1),k.keep [1,3,4] z,m.sel [0,1] z (by decide),Bh,h⟩
     refine wp_block (wr (pN 1 k z fun a k=>nn (wp_seq (wr (pN 1 k z fun a k=>nn (wp_block (c_loop (fun n a w=>∃ (Aj:Bool) (Af:Int),K 40 [(1,.pointer (some (⟨Ab,0,none⟩:Addr))),(3,Ae),(4,I Aa),(5,.bool (Aj)),(6,I Af)] a ∧ St [] w0 w [([Ab],Aq),(Ac,Ag)] ∧ d_spec_Present_L1 fu (d_spec_Present_L2 fu r1 Ar) r1 Ad Aa n Aj Af = some r) ?_ ?_ fu _ _ ?_)))))))
     · rintro a w ⟨_,_,_,_,h⟩
       exact nS h
     · rintro Ba a Bx ⟨Aj,Af,k,m,h⟩
       rw [d_spec_Present_L1_s] at h
       unfold d_spec_Present_L1_B at h
       refine wp_seq (wr (pN 1 k z fun a k=>sv k z (r_fa fa30_6 k z z) fun a k=>sv k z (r_ldb t128 m 0 At 9 k z z z z z) fun a k=>sv k z (r_len (α:=Item) Ah k underlying28 z z) fun a k=>pN 1 k z fun a k=>nn (cI h k z (fun Bj h=>?_) fun Bj h=>?_)))
       · refine wp_skip (nm_then ?_)
         refine c_cut (fun a w=>∃ (Al:Bool),K 40 [(1,.pointer (some (⟨Ab,0,none⟩:Addr))),(3,Ae),(4,I Aa),(5,.bool (Al)),(6,I Af)] a ∧ St [] w0 w [([Ab],Aq),(Ac,Ag)] ∧ d_spec_Present_J2 fu (d_spec_Present_L1 fu (d_spec_Present_L2 fu r1 Ar) r1 Ad Aa Ba) Af Al = some r) ?_ ?_
         · rintro a Bw ⟨Al,k,m,h⟩
           unfold d_spec_Present_J2 at h
           refine wp_region_lit (pN 3 k z fun a k=>nn ?_)
           exact ⟨Al,w64 (Af + 1),k.keep [1,3,4,5,6] z,m.sel [0,1] z (by decide),h⟩
         refine wp_block (wp_region_lit (pN 2 k z fun a k=>bsplit (Aj) (fun Ai=>?_) (fun Ai=>?_)))
         · have h:=bif_t Ai h
           refine rB k 24 z Ai fun k=>pN 10 k z fun a k=>wpList_nil (nm_block (nm_then ?_))
           exact ⟨true,k.keep [1,3,4,5,6] z,m.sel [0,1] z (by decide),h⟩
         have h:=bif_f Ai h
         refine rB k 24 z Ai fun k=>sv k z (r_fa fa30_6 k z z) fun a k=>sv k z (r_ldb t128 m 0 At 9 k z z z z z) fun a k=>pN 1 k z fun a k=>oE h fun Bn Az h=>sv k z (r_ixa Ah Az k ts28 z z z) fun a k=>sv k z (r_fa fa97_5 k z z) fun a k=>sv k z (r_lde1 Ah (m.a00 (Enc.rd_lt Ah)) Az 5 t13 k z z z z) fun a k=>pN 4 k z fun a k=>wpList_nil (nm_block (nm_then ?_))
         exact ⟨Bn.fClass == Aa,k.keep [1,3,4,5,6] z,m.sel [0,1] z (by decide),h⟩
       refine wp_exit (ex_then (ex_then (ex_same (nm_then ?_))))
       refine wr (pN 1 k z fun a k=>nn (cI h k z (fun Bq h=>?_) fun Bq h=>?_))
       · refine wp_region_lit (pN 2 k z fun a k=>s_bs (cs:=[I Aa]) (ps:=[(0,.tmp 36)]) te31 m k z z z z z z z (by decide) z (by exact (List.forall_mem_cons.2 ⟨z,(List.forall_mem_nil _)⟩)) fun Bv Bz Cb a k m e Bl=>?_)
         have Bf:=ow_bx Bl ([Aa]:List Int) z z z
         refine oE h fun Bm Bd h=>s_appF Bd te31 z m 2 Au (News.rd (Enc.rd_agr (Enc.ow_rd Bf) (m.a 0 z))) z z k z z z z z z z fun Bo Bi Bb a k e m Bc=>pN 1 k z fun a k=>wpList_nil (nm_block (nm_then ?_))
         exact ⟨Bm,Bo,Bi,Bb,k.keep [1,3,4] z,m.sel [1,2] z (by decide),Bc,h⟩
       refine wp_skip (nm_block (nm_then ?_))
       exact ⟨Ad,Ae,Ac,Ag,k.keep [1,3,4] z,m.sel [0,1] z (by decide),Au,h⟩
     exact ⟨false,0,k.keep [1,3,4,5,6] z,m.sel [0,1] z (by decide),h⟩
   refine wp_exit (ex_then (ex_then (ex_same (nm_then ?_))))
   refine wr (pN 2 k z fun a k=>nn (wp_ret ?_))
   cases h
   exact finR1 k z (RV.tmp k z) ⟨_,Ac,z,m.ext,(Enc.ow_agr Au (m.a 1 z)),(m.fresh 1 z)⟩
 exact ⟨([]:List Int),(.slice (some ⟨As,0,none⟩) 0 0),[As],Bs,0,k.keep [1,3,4] z,m.sel [1,0] z (by decide),Ay,h⟩
theorem c_spec_l1Has (fu:Nat) {w0:World} (Ac:List Int) (x5:Int) {v2:Value} {F3:List Nat} (Ab:rd w0 F3 [v2] Ac) {r:Bool}
    (h:d_spec_l1Has fu Ac x5 = some r) :
    Calls Tryz.prog 253 #[v2,I x5] w0 fun e w=>e = .returned (.bool (r)) ∧ Ext [] w0 w:=by
 refine enter (vs:=[_,_]) func253 z ntmps253 z fun a k=>?_
 have m:=St.start w0
 unfold d_spec_l1Has at h
 refine wr (pN 1 k z fun a k=>nn (wp_seq (wr (pN 1 k z fun a k=>nn (wp_block (c_loop (fun n a w=>∃ (Aa:Int),K 18 [(0,v2),(1,I x5),(5,I Aa)] a ∧ St [] w0 w [] ∧ d_spec_l1Has_L1 fu Ac x5 n Aa = some r) ?_ ?_ fu _ _ ?_))))))
 · rintro a w ⟨_,_,_,h⟩
   exact nS h
 · rintro Ai a Ag ⟨Aa,k,m,h⟩
   rw [d_spec_l1Has_L1_s] at h
   unfold d_spec_l1Has_L1_B at h
   refine wp_seq (wr (pN 2 k z fun a k=>sv k z (r_len (α:=Int) Ab k underlying31 z z) fun a k=>pN 1 k z fun a k=>nn (cI h k z (fun Af h=>?_) fun Af h=>?_)))
   · refine wp_skip (nm_then ?_)
     refine wp_seq (wp_block (wr (pN 2 k z fun a k=>oE h fun Ah Ad h=>sv k z (r_ixa Ab Ad k ts31 z z z) fun a k=>sv k z (r_lde1 Ab (m.a00 (Enc.rd_lt Ab)) Ad 0 t13 k z z z z) fun a k=>pN 2 k z fun a k=>nn (cI h k z (fun Ae h=>?_) fun Ae h=>?_))))
     · refine wr (pN 1 k z fun a k=>nn (wp_ret (rt_block (rt_then (rt_then (rt_block (rt_then ?_)))))))
       refine fS h k m z z
     refine wp_skip (nm_block (nm_then ?_))
     refine wp_region_lit (pN 3 k z fun a k=>nn ?_)
     exact ⟨w64 (Aa + 1),k.keep [0,1,5] z,m.sel [] z (by decide),h⟩
   refine wp_exit (ex_then (ex_then (ex_same (nm_then ?_))))
   refine wr (pN 1 k z fun a k=>nn (wp_ret (fS h k m z z)))
 exact ⟨0,k.keep [0,1,5] z,m.sel [] z (by decide),h⟩
theorem c_spec_l3Joins (fu:Nat) {w0:World} (Af:List Pair) (Ae:List Int) (Ab:Int) {v2:Value} {F3:List Nat} (Ag:rd w0 F3 [v2] Af) {v6:Value} {F7:List Nat} (Aa:rd w0 F7 [v6] Ae) {r:Bool}
    (h:d_spec_l3Joins fu Af Ae Ab = some r) :
    Calls Tryz.prog 287 #[v2,v6,I Ab] w0 fun e w=>e = .returned (.bool (r)) ∧ Ext [] w0 w:=by
 refine enter (vs:=[_,_,_]) func287 z ntmps287 z fun a k=>?_
 have m:=St.start w0
 unfold d_spec_l3Joins at h
 refine wr (pN 1 k z fun a k=>nn (wp_seq (wr (pN 1 k z fun a k=>nn (wp_block (c_loop (fun n a w=>∃ (Ac:Int),K 32 [(0,v2),(1,v6),(2,I Ab),(7,I Ac)] a ∧ St [] w0 w [] ∧ d_spec_l3Joins_L1 fu Af Ae Ab n Ac = some r) ?_ ?_ fu _ _ ?_))))))
 · rintro a w ⟨_,_,_,h⟩
   exact nS h
 · rintro Al a Aw ⟨Ac,k,m,h⟩
   rw [d_spec_l3Joins_L1_s] at h
   unfold d_spec_l3Joins_L1_B at h
   refine wp_seq (wr (pN 2 k z fun a k=>sv k z (r_len (α:=Int) Aa k underlying31 z z) fun a k=>pN 1 k z fun a k=>nn (cI h k z (fun Ai h=>?_) fun Ai h=>?_)))
   · refine wp_skip (nm_then ?_)
     refine c_cut (fun a w=>K 32 [(0,v2),(1,v6),(2,I Ab),(7,I Ac)] a ∧ St [] w0 w [] ∧ d_spec_l3Joins_J1 fu (d_spec_l3Joins_L1 fu Af Ae Ab Al) Ac = some r) ?_ ?_
     · rintro a As ⟨k,m,h⟩
       unfold d_spec_l3Joins_J1 at h
       refine wp_region_lit (pN 3 k z fun a k=>nn ?_)
       exact ⟨w64 (Ac + 1),k.keep [0,1,2,7] z,m.sel [] z (by decide),h⟩
     refine wp_block (wr (pN 3 k z fun a k=>oE h fun Av Ah h=>sv k z (r_ixa Aa Ah k ts31 z z z) fun a k=>sv k z (r_lde1 Aa (m.a00 (Enc.rd_lt Aa)) Ah 0 t13 k z z z z) fun a k=>pN 1 k z fun a k=>oE h fun Aj Ak h=>cE k m call161 z z z (c_spec_Beside fu _ _ _ (Enc.rd_agr Ag (m.a00 (Enc.rd_lt Ag))) Ak) fun Ap e a k m=>pN 2 k z fun a k=>bsplit (!Aj) (fun Ad=>?_) (fun Ad=>?_)))
     · have h:=bif_t Ad h
       refine rB k 22 z Ad fun k=>pN 9 k z fun a k=>nn (wp_cond_true (k.ev z) (wr (pN 1 k z fun a k=>nn (wp_ret (rt_block (rt_then (rt_then (rt_block (rt_then ?_)))))))))
       refine fS h k m z z
     have h:=bif_f Ad h
     refine rB k 22 z Ad fun k=>pN 4 k z fun a k=>oE h fun At Au h=>sv k z (r_ixa Aa Ah k ts31 z z z) fun a k=>sv k z (r_lde1 Aa (m.a00 (Enc.rd_lt Aa)) Ah 0 t13 k z z z z) fun a k=>oE h fun Ar Ao h=>cE k m call161 z z z (c_spec_Beside fu _ _ _ (Enc.rd_agr Ag (m.a00 (Enc.rd_lt Ag))) Ao) fun Aq e a k m=>pN 2 k z fun a k=>nn (cI h k z (fun Am h=>?_) fun Am h=>?_)
     · refine wr (pN 1 k z fun a k=>nn (wp_ret (rt_block (rt_then (rt_then (rt_block (rt_then ?_)))))))
       refine fS h k m z z
     refine wp_skip (nm_block (nm_then ?_))
     exact ⟨k.keep [0,1,2,7] z,m.sel [] z (by decide),h⟩
   refine wp_exit (ex_then (ex_then (ex_same (nm_then ?_))))
   refine wr (pN 1 k z fun a k=>nn (wp_ret (fS h k m z z)))
 exact ⟨0,k.keep [0,1,2,7] z,m.sel [] z (by decide),h⟩
theorem c_spec_Groups (fu:Nat) {w0:World} (Ad:List Pair) (Ah:List Int) {v2:Value} {F3:List Nat} (Aw:rd w0 F3 [v2] Ad) {v6:Value} {F7:List Nat} (Ay:rd w0 F7 [v6] Ah) {r:(List (List Int))}
    (h:d_spec_Groups fu Ad Ah = some r) :
    Calls Tryz.prog 249 #[v2,v6] w0 fun e w=>∃ (v0:Value) (G0:List Nat),e = .returned (v0) ∧ Ext [] w0 w ∧ ow w G0 [v0] r ∧ (∀ b ∈ G0,w0.heap.size ≤ b):=by
 refine enter (vs:=[_,_]) func249 z ntmps249 z fun a k=>?_
 have m:=St.start w0
 unfold d_spec_Groups at h
 refine wr (pN 1 k z fun a k=>nn (wr (s_bs (cs:=[]) (ps:=[]) te53 m k z z z z z z z (by decide) z (by exact (List.forall_mem_nil _)) fun g9 Cm Dp a k m e Bl=>?_)))
 have Cn:=ow_bx0 (α:=List Int) Bl
 refine pN 1 k z fun a k=>nn (wp_seq (wr (pN 1 k z fun a k=>nn (wp_block (c_loop (fun n a w=>∃ (Ae:List (List Int)) (Af:Value) (Ac:List Nat) (Ai:World) (Aa:Int),K 51 [(0,v2),(1,v6),(5,Af),(6,I Aa)] a ∧ St [] w0 w [(Ac,Ai)] ∧ ow Ai Ac [Af] Ae ∧ d_spec_Groups_L2 fu Ad Ah n Ae Aa = some r) ?_ ?_ fu _ _ ?_)))))
 · rintro a w ⟨_,_,_,_,_,_,_,_,h⟩
   exact nS h
 · rintro Ar a Cr ⟨Ae,Af,Ac,Ai,Aa,k,m,Ab,h⟩
   rw [d_spec_Groups_L2_s] at h
   unfold d_spec_Groups_L2_B at h
   refine wp_seq (wr (pN 2 k z fun a k=>nn (cI h k z (fun Bo h=>?_) fun Bo h=>?_)))
   · refine wp_skip (nm_then ?_)
     refine c_cut (fun a w=>∃ (Am:List (List Int)) (Ak:Value) (Al:List Nat) (Ao:World),K 51 [(0,v2),(1,v6),(5,Ak),(6,I Aa)] a ∧ St [] w0 w [(Al,Ao)] ∧ ow Ao Al [Ak] Am ∧ d_spec_Groups_J1 fu (d_spec_Groups_L2 fu Ad Ah Ar) Aa Am = some r) ?_ ?_
     · rintro a Dd ⟨Am,Ak,Al,Ao,k,m,Ch,h⟩
       unfold d_spec_Groups_J1 at h
       refine wp_region_lit (pN 3 k z fun a k=>nn ?_)
       exact ⟨Am,Ak,Al,Ao,w64 (Aa + 1),k.keep [0,1,5,6] z,m.sel [0] z (by decide),Ch,h⟩
     refine wp_block (wp_seq (wr (pN 2 k z fun a k=>oE h fun Dc Co h=>cE k m call253 z z z (c_spec_l1Has fu _ _ (Enc.rd_agr Ay (m.a00 (Enc.rd_lt Ay))) Co) fun Dn e a k m=>pN 1 k z fun a k=>nn (cI h k z (fun Bz h=>?_) fun Bz h=>?_))))
     · refine wp_exit (ex_then (ex_same (nm_then ?_)))
       exact ⟨Ae,Af,Ac,Ai,k.keep [0,1,5,6] z,m.sel [0] z (by decide),Ab,h⟩
     refine wp_skip (nm_then ?_)
     refine wr (pN 1 k z fun a k=>nn (wp_seq (wr (pN 1 k z fun a k=>sv k z (r_len (α:=List Int) (Enc.ow_rd Ab) k underlying53 z z) fun a k=>pN 2 k z fun a k=>nn (wp_block (c_loop (fun n a w=>∃ (Aj:Int) (Ag:Int),K 51 [(0,v2),(1,v6),(5,Af),(6,I Aa),(7,I Aj),(8,I Ag)] a ∧ St [] w0 w [(Ac,Ai)] ∧ d_spec_Groups_L1 fu (d_spec_Groups_L2 fu Ad Ah Ar) Ad Ae Aa n Aj Ag = some r) ?_ ?_ fu _ _ ?_))))))
     · rintro a w ⟨_,_,_,_,h⟩
       exact nS h
     · rintro Cf a Dm ⟨Aj,Ag,k,m,h⟩
       rw [d_spec_Groups_L1_s] at h
       unfold d_spec_Groups_L1_B at h
       refine wp_seq (wr (pN 2 k z fun a k=>nn (cI h k z (fun Bj h=>?_) fun Bj h=>?_)))
       · refine wp_skip (nm_then ?_)
         refine c_cut (fun a w=>∃ (Ap:Int),K 51 [(0,v2),(1,v6),(5,Af),(6,I Aa),(7,I Ap),(8,I Ag)] a ∧ St [] w0 w [(Ac,Ai)] ∧ d_spec_Groups_J2 fu (d_spec_Groups_L1 fu (d_spec_Groups_L2 fu Ad Ah Ar) Ad Ae Aa Cf) Ag Ap = some r) ?_ ?_
         · rintro a Cu ⟨Ap,k,m,h⟩
           unfold d_spec_Groups_J2 at h
           refine wp_region_lit (pN 3 k z fun a k=>nn ?_)
           exact ⟨Ap,w64 (Ag - 1),k.keep [0,1,5,6,7,8] z,m.sel [0] z (by decide),h⟩
         refine wp_block (wr (pN 3 k z fun a k=>oE h fun Dg At h=>sv k z (r_ixa (Enc.ow_rd Ab) At k ts53 z z z) fun a k=>?_))
         obtain ⟨Dh,Bh,Bx,Ax,Bg,Br⟩:=rd_get (Enc.ow_rd Ab) (ix_some At).2.2
         obtain ⟨Df,rfl⟩:∃ v,Bh = [v]:=by obtain ⟨_,_,hq,_⟩:=Ax; exact ⟨_,hq⟩
         refine sv k z (r_ld1 t131 (Bg.agr (m.a 0 z) Br) k z z) fun a k=>pN 1 k z fun a k=>oE h fun Cx Bf h=>cE k m call287 z z z (c_spec_l3Joins fu _ _ _ (Enc.rd_agr Aw (m.a00 (Enc.rd_lt Aw))) (Enc.rd_agr Ax ((m.a 0 z).sub Bx)) Bf) fun De e a k m=>nn (cI h k z (fun Ck h=>?_) fun Ck h=>?_)
         · refine wp_region_lit (pN 2 k z fun a k=>wpList_nil (nm_block (nm_then ?_)))
           exact ⟨Ag,k.keep [0,1,5,6,7,8] z,m.sel [0] z (by decide),h⟩
         refine wp_skip (nm_block (nm_then ?_))
         exact ⟨Aj,k.keep [0,1,5,6,7,8] z,m.sel [0] z (by decide),h⟩
       refine wp_exit (ex_then (ex_then (ex_same (nm_then ?_))))
       refine wr (pN 2 k z fun a k=>nn (cI h k z (fun Bn h=>?_) fun Bn h=>?_))
       · refine wp_region_lit (pN 2 k z fun a k=>s_bs (cs:=[I Aa]) (ps:=[(0,.tmp 36)]) te31 m k z z z z z z z (by decide) z (by exact (List.forall_mem_cons.2 ⟨z,(List.forall_mem_nil _)⟩)) fun Az Db Dq a k m e Bm=>?_)
         have Av:=ow_bx Bm ([Aa]:List Int) z z z
         refine s_bs (cs:=[(.slice (some ⟨Az,0,none⟩) 1 1)]) (ps:=[(0,.tmp 37)]) te53 m k z z z z z z z (by decide) z (by exact (List.forall_mem_cons.2 ⟨congrArg Array.size (rd_c (Enc.ow_rd Av)),(List.forall_mem_nil _)⟩)) fun Dl Cz Cy a k m e Bd=>oE h fun Bs Cd h=>?_
         have Cp:=Enc.ow_agr Av (m.a 1 z)
         have Cb:=News.box Bd (m.a 0 z) (by simp) (m:=1)
         have Bp:=m.a 2 z
         have m:=m.sel [2,1,0] z (by decide)
         have m:=m.join2
         refine s_appO (F:=Ac) (G:=[Az]) Cd te53 z m Ab Bp Cb Cp (Agr.refl _ _) k z z z z z z fun Bi Bb Bw a k e m Bq=>pN 1 k z fun a k=>wpList_nil (nm_block (nm_then ?_))
         exact ⟨Bs,Bi,Bb,Bw,k.keep [0,1,5,6] z,m.sel [0] z (by decide),Bq,h⟩
       refine wp_region_lit (pN 4 k z fun a k=>oE h fun Do Aq h=>sv k z (r_ixa (Enc.ow_rd Ab) Aq k ts53 z z z) fun a k=>?_)
       obtain ⟨Di,Cc,Dr,Bt,Au,Ba⟩:=rd_get (Enc.ow_rd Ab) (ix_some Aq).2.2
       obtain ⟨Ds,rfl⟩:∃ v,Cc = [v]:=by obtain ⟨_,_,hq,_⟩:=Bt; exact ⟨_,hq⟩
       refine sv k z (r_ld1 t131 (Au.agr (m.a 0 z) Ba) k z z) fun a k=>pN 1 k z fun a k=>s_bs (cs:=[I Aa]) (ps:=[(0,.tmp 46)]) te31 m k z z z z z z z (by decide) z (by exact (List.forall_mem_cons.2 ⟨z,(List.forall_mem_nil _)⟩)) fun Cq Ci Dj a k m e Bk=>?_
       have Cj:=ow_bx Bk ([Aa]:List Int) z z z
       obtain ⟨Da,Cw,m,Cg,Cl⟩:=m.opn 1 z Ab Aq Au z (M':=[([Cq],Ci)]) z
       refine oE h fun Be Ca h=>s_appF Ca te31 z m 1 Cl (News.rd (Enc.rd_agr (Enc.ow_rd Cj) (m.a 2 z))) z z k z z z z z z z fun Bv Cv Cs a k e m As=>oE h fun Ct Dk h=>sv k z (r_ixa (Enc.ow_rd Ab) Aq k ts53 z z z) fun a k=>s_stH1 (α:=List Int) (sz:=1) (cs':=[Bv]) sizeOf31 m 0 Cg 0 k (rd_c (Enc.ow_rd As)) (rd_o (Enc.ow_rd As)) z z z z z z z z z z fun Bu a k e m Ce=>?_
       obtain ⟨By,m,Bc⟩:=(m.sel [0,1,2] z (by decide)).cls Ce As
       refine wpList_nil (nm_block (nm_then ?_))
       exact ⟨setx Ae Aj Be,Af,By,Bu,k.keep [0,1,5,6] z,m.sel [0] z (by decide),Bc,h⟩
     exact ⟨(-1),w64 (((Ae.length:Int)) - 1),k.keep [0,1,5,6,7,8] z,m.sel [0] z (by decide),h⟩
   refine wp_exit (ex_then (ex_then (ex_same (nm_then ?_))))
   refine wr (pN 2 k z fun a k=>nn (wp_ret ?_))
   cases h
   exact finR1 k z (RV.tmp k z) ⟨_,Ac,z,m.ext,(Enc.ow_agr Ab (m.a 0 z)),(m.fresh 0 z)⟩
 exact ⟨([]:List (List Int)),(.slice (some ⟨g9,0,none⟩) 0 0),[g9],Cm,0,k.keep [0,1,5,6] z,m.sel [0] z (by decide),Cn,h⟩
theorem c_spec_GroupsOf (fu:Nat) {w0:World} (r1:Request) {Ae:List Value} {F3:List Nat} (Ap:rd w0 F3 Ae r1) {r:(List (List Int))}
    (h:d_spec_GroupsOf fu r1 = some r) :
    Calls Tryz.prog 190 #[.agg Ae.toArray] w0 fun e w=>∃ (v0:Value) (G0:List Nat),e = .returned (v0) ∧ Ext [] w0 w ∧ ow w G0 [v0] r ∧ (∀ b ∈ G0,w0.heap.size ≤ b):=by
 refine enter (vs:=[_]) func190 z ntmps190 z fun a k=>?_
 have m:=St.start w0
 obtain ⟨v5,F6,v7,F8,v9,Ay,rfl,rfl,Aa,Ag,Aj⟩:=Ap
 unfold d_spec_GroupsOf at h
 refine wr (s_box (cs:=[I r1.fWay,I r1.fPallet.fW,I r1.fPallet.fD,I r1.fPallet.fH,I r1.fPallet.fGram,I r1.fClasses,v5,v7,I r1.fMaster,v9]) m k z z z z z z fun Au Az a k m e Ah=>pN 1 k z fun a k=>nn (wp_seq (d_go [] mixo m z fun Al hMd=>?_)))
 have m:=hMd
 have s:=Ext.refl ([]:List Nat) Al
 refine dt k 0 z (by kernel_rfl) z s (fun _ _ _=>id) (fun w s=>r_fa fa30_3 k z z) fun a k=>dt k 1 z (by kernel_rfl) z s (fun _ _ _=>id) (fun w s=>r_ld1 t126 (r:=[]) (Ah.at ((hMd.step s).a 0 z) 6 1 z z z) k z z) fun a k=>dt k 2 z (by kernel_rfl) z s (fun _ _ _=>id) (fun w s=>r_ldA ta30 (Ah.at ((hMd.step s).a 0 z) 0 10 z z z) z k z z) fun a k=>d_one 3 (by kernel_rfl) z (oE h fun Ax Ao h=>?_)
 refine s_call k call250 z z z z z (c_spec_Present fu _ (show rd _ _ [I r1.fWay,I r1.fPallet.fW,I r1.fPallet.fD,I r1.fPallet.fH,I r1.fPallet.fGram,I r1.fClasses,v5,v7,I r1.fMaster,v9] (r1:Request) from ⟨_,_,_,_,_,_,z,z,(Enc.rd_agr Aa (m.a00 (Enc.rd_lt Aa))),(Enc.rd_agr Ag (m.a00 (Enc.rd_lt Ag))),(Enc.rd_agr Aj (m.a00 (Enc.rd_lt Aj)))⟩) Ao) fun Bc Ba hR=>?_
 obtain ⟨Bb,Af,rfl,e,Ad,Ak⟩:=hR
 refine ⟨_,z,fun a k=>?_⟩
 have m:=m.new e Af (fun b hb=>⟨Ak b hb,Enc.rd_lt (Enc.ow_rd Ad) b hb⟩) (Enc.ow_nd Ad)
 have Aq:=fun (y:Nat) (hy:y ∈ Af)=>Nat.le_trans s.size (Ak y hy)
 have s:=s.trans e (by simp)
 refine wpList_nil ⟨s,?_⟩
 refine d_one 4 (by kernel_rfl) z (oE h fun As Am h=>s_call k call249 z z z z z (c_spec_Groups fu _ _ (Enc.rd_agr Aa (m.a00 (Enc.rd_lt Aa))) (Enc.rd_agr (Enc.ow_rd Ad) (m.a 0 z)) Am) fun Ar Aw hR=>?_)
 obtain ⟨At,Ab,rfl,e,Ac,Ai⟩:=hR
 refine ⟨_,z,fun a k=>?_⟩
 have m:=m.new e Ab (fun b hb=>⟨Ai b hb,Enc.rd_lt (Enc.ow_rd Ac) b hb⟩) (Enc.ow_nd Ac)
 have Av:=fun (y:Nat) (hy:y ∈ Ab)=>Nat.le_trans s.size (Ai y hy)
 have s:=s.trans e (by simp)
 refine wpList_nil ⟨s,?_⟩
 refine dN [5] 1 z k (by kernel_rfl) z s (fun _ _ _ _ _=>id) fun a k=>d_done (by kernel_rfl) ((nm_then ?_))
 refine wp_ret ?_
 cases h
 exact finR1 k z (RV.tmp k z) ⟨_,Ab,z,m.ext,(Enc.ow_agr Ac (m.a 0 z)),(m.fresh 0 z)⟩
theorem c_spec_GroupOf (fu:Nat) {w0:World} (Ae:List (List Int)) (Ab:Int) {v2:Value} {F3:List Nat} (Ac:rd w0 F3 [v2] Ae) {r:Int}
    (h:d_spec_GroupOf fu Ae Ab = some r) :
    Calls Tryz.prog 203 #[v2,I Ab] w0 fun e w=>e = .returned (I r) ∧ Ext [] w0 w:=by
 refine enter (vs:=[_,_]) func203 z ntmps203 z fun a k=>?_
 have m:=St.start w0
 unfold d_spec_GroupOf at h
 refine wr (pN 1 k z fun a k=>nn (wp_seq (wr (pN 1 k z fun a k=>nn (wp_block (c_loop (fun n a w=>∃ (Aa:Int),K 19 [(0,v2),(1,I Ab),(5,I Aa)] a ∧ St [] w0 w [] ∧ d_spec_GroupOf_L1 fu Ae Ab n Aa = some r) ?_ ?_ fu _ _ ?_))))))
 · rintro a w ⟨_,_,_,h⟩
   exact nS h
 · rintro Aq a At ⟨Aa,k,m,h⟩
   rw [d_spec_GroupOf_L1_s] at h
   unfold d_spec_GroupOf_L1_B at h
   refine wp_seq (wr (pN 2 k z fun a k=>sv k z (r_len (α:=List Int) Ac k underlying53 z z) fun a k=>pN 1 k z fun a k=>nn (cI h k z (fun Al h=>?_) fun Al h=>?_)))
   · refine wp_skip (nm_then ?_)
     refine wp_seq (wp_block (wr (pN 2 k z fun a k=>oE h fun Am Af h=>sv k z (r_ixa Ac Af k ts53 z z z) fun a k=>?_)))
     obtain ⟨Au,Ah,As,Ad,Ak,Ag⟩:=rd_get Ac (ix_some Af).2.2
     obtain ⟨Ap,rfl⟩:∃ v,Ah = [v]:=by obtain ⟨_,_,hq,_⟩:=Ad; exact ⟨_,hq⟩
     refine sv k z (r_ld1 t131 (Ak.agr (m.a00 (Enc.rd_lt Ac)) Ag) k z z) fun a k=>pN 1 k z fun a k=>oE h fun Ao Ai h=>cE k m call253 z z z (c_spec_l1Has fu _ _ (Enc.rd_agr Ad (m.a00 (Enc.rd_lt Ad))) Ai) fun Ar e a k m=>nn (cI h k z (fun Aj h=>?_) fun Aj h=>?_)
     · refine wr (pN 2 k z fun a k=>nn (wp_ret (rt_block (rt_then (rt_then (rt_block (rt_then ?_)))))))
       refine fS h k m z z
     refine wp_skip (nm_block (nm_then ?_))
     refine wp_region_lit (pN 3 k z fun a k=>nn ?_)
     exact ⟨w64 (Aa + 1),k.keep [0,1,5] z,m.sel [] z (by decide),h⟩
   refine wp_exit (ex_then (ex_then (ex_same (nm_then ?_))))
   refine wr (pN 1 k z fun a k=>nn (wp_ret (fS h k m z z)))
 exact ⟨0,k.keep [0,1,5] z,m.sel [] z (by decide),h⟩
theorem c_spec_l15Group (fu:Nat) {w0:World} (r1:Request) (Ab:List Int) (x9:Plan) {Bl:List Value} {F3:List Nat} (Cj:rd w0 F3 Bl r1) {v6:Value} {F7:List Nat} (Ay:rd w0 F7 [v6] Ab) {Be:List Value} {Ch:List Nat} (Cl:rd w0 Ch Be x9) {r:Bool}
    (h:d_spec_l15Group fu r1 Ab x9 = some r) :
    Calls Tryz.prog 113 #[.agg Bl.toArray,v6,.agg Be.toArray] w0 fun e w=>e = .returned (.bool (r)) ∧ Ext [] w0 w:=by
 refine enter (vs:=[_,_,_]) func113 z ntmps113 z fun a k=>?_
 have m:=St.start w0
 obtain ⟨At,Dr,Ba,Cs,Ax,Dm,rfl,rfl,Ao,Ak,Al⟩:=Cj
 obtain ⟨By,Cv,Bp,Da,rfl,rfl,Ae,Dp⟩:=Cl
 unfold d_spec_l15Group at h
 refine wr (s_box (cs:=[I r1.fWay,I r1.fPallet.fW,I r1.fPallet.fD,I r1.fPallet.fH,I r1.fPallet.fGram,I r1.fClasses,At,Ba,I r1.fMaster,Ax]) m k z z z z z z fun Ac Ar a k m e Bi=>s_box (cs:=[By,Bp]) m k z z z z z z fun Ad Ap a k m e Az=>pN 1 k z fun a k=>nn (wr (sv k z (r_ldB ta30 m 1 Bi 0 k z z z z z z) fun a k=>oE h fun Ag Bw h=>?_)))
 refine s_call k call190 z z z z z (c_spec_GroupsOf fu _ (show rd _ _ [I r1.fWay,I r1.fPallet.fW,I r1.fPallet.fD,I r1.fPallet.fH,I r1.fPallet.fGram,I r1.fClasses,At,Ba,I r1.fMaster,Ax] (r1:Request) from ⟨_,_,_,_,_,_,z,z,(Enc.rd_agr Ao (m.a00 (Enc.rd_lt Ao))),(Enc.rd_agr Ak (m.a00 (Enc.rd_lt Ak))),(Enc.rd_agr Al (m.a00 (Enc.rd_lt Al)))⟩) Bw) fun Dt As hR=>?_
 obtain ⟨Aq,Am,rfl,e,Bc,Bs⟩:=hR
 refine ⟨_,z,fun a k=>?_⟩
 have m:=m.new e Am (fun b hb=>⟨Bs b hb,Enc.rd_lt (Enc.ow_rd Bc) b hb⟩) (Enc.ow_nd Bc)
 refine pN 1 k z fun a k=>nn (wp_seq (wr (pN 1 k z fun a k=>nn (wp_block (c_loop (fun n a w=>∃ (Aa:Int),K 58 [(1,v6),(3,.pointer (some (⟨Ac,0,none⟩:Addr))),(5,.pointer (some (⟨Ad,0,none⟩:Addr))),(7,Aq),(8,I Aa)] a ∧ St [] w0 w [([Ac],Ar),([Ad],Ap),(Am,As)] ∧ d_spec_l15Group_L2 fu r1 Ab x9 Ag n Aa = some r) ?_ ?_ fu _ _ ?_)))))
 · rintro a w ⟨_,_,_,h⟩
   exact nS h
 · rintro Aw a Db ⟨Aa,k,m,h⟩
   rw [d_spec_l15Group_L2_s] at h
   unfold d_spec_l15Group_L2_B at h
   refine wp_seq (wr (pN 1 k z fun a k=>sv k z (r_fa fa74_0 k z z) fun a k=>sv k z (r_ldb t143 m 1 Az 0 k z z z z z) fun a k=>sv k z (r_len (α:=Carton) Ae k underlying43 z z) fun a k=>pN 1 k z fun a k=>nn (cI h k z (fun Bz h=>?_) fun Bz h=>?_)))
   · refine wp_skip (nm_then ?_)
     refine c_cut (fun a w=>K 58 [(1,v6),(3,.pointer (some (⟨Ac,0,none⟩:Addr))),(5,.pointer (some (⟨Ad,0,none⟩:Addr))),(7,Aq),(8,I Aa)] a ∧ St [] w0 w [([Ac],Ar),([Ad],Ap),(Am,As)] ∧ d_spec_l15Group_J1 fu (d_spec_l15Group_L2 fu r1 Ab x9 Ag Aw) Aa = some r) ?_ ?_
     · rintro a Dw ⟨k,m,h⟩
       unfold d_spec_l15Group_J1 at h
       refine wp_region_lit (pN 3 k z fun a k=>nn ?_)
       exact ⟨w64 (Aa + 1),k.keep [1,3,5,7,8] z,m.sel [0,1,2] z (by decide),h⟩
     refine wp_block (wr (pN 1 k z fun a k=>nn (wp_block (c_loop (fun n a w=>∃ (Ah:Int),K 58 [(1,v6),(3,.pointer (some (⟨Ac,0,none⟩:Addr))),(5,.pointer (some (⟨Ad,0,none⟩:Addr))),(7,Aq),(8,I Aa),(9,I Ah)] a ∧ St [] w0 w [([Ac],Ar),([Ad],Ap),(Am,As)] ∧ d_spec_l15Group_L1 fu (d_spec_l15Group_L2 fu r1 Ab x9 Ag Aw) r1 Ab x9 Ag Aa n Ah = some r) ?_ ?_ fu _ _ ?_))))
     · rintro a w ⟨_,_,_,h⟩
       exact nS h
     · rintro Bh a Dc ⟨Ah,k,m,h⟩
       rw [d_spec_l15Group_L1_s] at h
       unfold d_spec_l15Group_L1_B at h
       refine wp_seq (wr (pN 1 k z fun a k=>sv k z (r_fa fa74_0 k z z) fun a k=>sv k z (r_ldb t143 m 1 Az 0 k z z z z z) fun a k=>pN 1 k z fun a k=>oE h fun Cw Bd h=>sv k z (r_ixa Ae Bd k ts43 z z z) fun a k=>sv k z (r_fa fa33_2 k z z) fun a k=>?_))
       obtain ⟨Dj,Cx,Du,Co,Bf,Bg⟩:=rd_get Ae (ix_some Bd).2.2
       obtain ⟨De,_,rfl,rfl,Av⟩:=Co
       refine sv k z (r_ld1 t131 ((Bf.agr (m.a00 (Enc.rd_lt Ae)) Bg).fld 2 1 (Nat.le_of_ble_eq_true z)) k z z) fun a k=>sv k z (r_len (α:=Int) Av k underlying31 z z) fun a k=>pN 1 k z fun a k=>nn (cI h k z (fun Cm h=>?_) fun Cm h=>?_)
       · refine wp_skip (nm_then ?_)
         refine c_cut (fun a w=>K 58 [(1,v6),(3,.pointer (some (⟨Ac,0,none⟩:Addr))),(5,.pointer (some (⟨Ad,0,none⟩:Addr))),(7,Aq),(8,I Aa),(9,I Ah)] a ∧ St [] w0 w [([Ac],Ar),([Ad],Ap),(Am,As)] ∧ d_spec_l15Group_J2 fu (d_spec_l15Group_L1 fu (d_spec_l15Group_L2 fu r1 Ab x9 Ag Aw) r1 Ab x9 Ag Aa Bh) Ah = some r) ?_ ?_
         · rintro a Dq ⟨k,m,h⟩
           unfold d_spec_l15Group_J2 at h
           refine wp_region_lit (pN 3 k z fun a k=>nn ?_)
           exact ⟨w64 (Ah + 1),k.keep [1,3,5,7,8,9] z,m.sel [0,1,2] z (by decide),h⟩
         refine wp_block (c_cut (fun a w=>∃ (Af:Item) (Au:Nat) (Bb:World),K 58 [(1,v6),(3,.pointer (some (⟨Ac,0,none⟩:Addr))),(5,.pointer (some (⟨Ad,0,none⟩:Addr))),(7,Aq),(8,I Aa),(9,I Ah),(10,.pointer (some (⟨Au,0,none⟩:Addr)))] a ∧ St [] w0 w [([Ac],Ar),([Ad],Ap),(Am,As),([Au],Bb)] ∧ bx Bb Au [I Af.fId,I Af.fW,I Af.fH,I Af.fD,I Af.fGram,I Af.fClass,I Af.fCount] 97 ∧ d_spec_l15Group_J3 fu (d_spec_l15Group_L1 fu (d_spec_l15Group_L2 fu r1 Ab x9 Ag Aw) r1 Ab x9 Ag Aa Bh) x9 Ag Aa Ah Af = some r) ?_ ?_)
         · rintro a Ct ⟨Af,Au,Bb,k,m,Bo,h⟩
           unfold d_spec_l15Group_J3 at h
           refine wp_seq (d_go [] mixo m z fun Ce hMd=>?_)
           have m:=hMd
           have s:=Ext.refl ([]:List Nat) Ce
           refine dN [0,6] 2 z k (by kernel_rfl) z s (fun _ _ _ _ _=>id) fun a k=>dt k 1 z (by kernel_rfl) z s (fun _ _ _=>id) (fun w s=>r_fa fa97_5 k z z) fun a k=>dt k 2 z (by kernel_rfl) z s (fun _ _ _=>id) (fun w s=>r_ld1 t13 (r:=[]) (Bo.at ((hMd.step s).a 3 z) 5 1 z z z) k z z) fun a k=>dt k 4 z (by kernel_rfl) z s (fun _ _ _=>id) (fun w s=>r_fa fa74_0 k z z) fun a k=>dt k 5 z (by kernel_rfl) z s (fun _ _ _=>id) (fun w s=>r_ld1 t143 (r:=[]) (Az.at ((hMd.step s).a 1 z) 0 1 z z z) k z z) fun a k=>oE h fun Dg Bk h=>dt k 7 z (by kernel_rfl) z s (fun _ _ _=>id) (fun w s=>r_ixa Ae Bk k ts43 z z z) fun a k=>dt k 8 z (by kernel_rfl) z s (fun _ _ _=>id) (fun w s=>r_fa fa33_1 k z z) fun a k=>?_
           obtain ⟨Dl,Dn,Cy,Ck,Cd,Ca⟩:=rd_get Ae (ix_some Bk).2.2
           obtain ⟨Dk,_,rfl,rfl,Dv⟩:=Ck
           refine dt k 9 z (by kernel_rfl) z s (fun _ _ _=>id) (fun w s=>r_ld1 t13 ((Cd.agr ((hMd.step s).a00 (Enc.rd_lt Ae)) Ca).fld 1 1 (Nat.le_of_ble_eq_true z)) k z z) fun a k=>d_one 3 (by kernel_rfl) z (oE h fun Do Bv h=>cE k m call203 z z z (c_spec_GroupOf fu _ _ (Enc.rd_agr (Enc.ow_rd Bc) (m.a 2 z)) Bv) fun Dh e a k m=>?_)
           have s:=s.trans e (by simp)
           refine wpList_nil ⟨s,?_⟩
           refine dN [10] 1 z k (by kernel_rfl) z s (fun _ _ _ _ _=>id) fun a k=>d_done (by kernel_rfl) ((nm_then ?_))
           refine cI h k z (fun Bq h=>?_) fun Bq h=>?_
           · refine wr (pN 1 k z fun a k=>nn (wp_ret (rt_block (rt_then (rt_then (rt_block (rt_block (rt_then (rt_then (rt_block (rt_then ?_)))))))))))
             refine fS h k m z z
           refine wp_skip (nm_block (nm_then ?_))
           exact ⟨k.keep [1,3,5,7,8,9] z,m.sel [0,1,2] z (by decide),h⟩
         refine d_go [] mixo m z fun Cp hMd=>?_
         have m:=hMd
         have s:=Ext.refl ([]:List Nat) Cp
         refine dN [1,4,8] 3 z k (by kernel_rfl) z s (fun _ _ _ _ _=>id) fun a k=>dt k 0 z (by kernel_rfl) z s (fun _ _ _=>id) (fun w s=>r_ldA ta30 (Bi.at ((hMd.step s).a 0 z) 0 10 z z z) z k z z) fun a k=>dt k 2 z (by kernel_rfl) z s (fun _ _ _=>id) (fun w s=>r_fa fa74_0 k z z) fun a k=>dt k 3 z (by kernel_rfl) z s (fun _ _ _=>id) (fun w s=>r_ld1 t143 (r:=[]) (Az.at ((hMd.step s).a 1 z) 0 1 z z z) k z z) fun a k=>oE h fun Cz Ds h=>dt k 5 z (by kernel_rfl) z s (fun _ _ _=>id) (fun w s=>r_ixa Ae Bd k ts43 z z z) fun a k=>dt k 6 z (by kernel_rfl) z s (fun _ _ _=>id) (fun w s=>r_fa fa33_2 k z z) fun a k=>?_
         refine dt k 7 z (by kernel_rfl) z s (fun _ _ _=>id) (fun w s=>r_ld1 t131 ((Bf.agr ((hMd.step s).a00 (Enc.rd_lt Ae)) Bg).fld 2 1 (Nat.le_of_ble_eq_true z)) k z z) fun a k=>oE h fun Dd Bj h=>dt k 9 z (by kernel_rfl) z s (fun _ _ _=>id) (fun w s=>r_ixa Av Bj k ts31 z z z) fun a k=>dt k 10 z (by kernel_rfl) z s (fun _ _ _=>id) (fun w s=>r_lde1 Av ((hMd.step s).a00 (Enc.rd_lt Av)) Bj 0 t13 k z z z z) fun a k=>d_two 11 15 (by kernel_rfl) z z ?_ ?_ 
         · refine oE h fun Ai Br h=>cE k m call156 z z z (c_spec_l6Item fu _ _ _ (show rd _ _ [I r1.fWay,I r1.fPallet.fW,I r1.fPallet.fD,I r1.fPallet.fH,I r1.fPallet.fGram,I r1.fClasses,At,Ba,I r1.fMaster,Ax] (r1:Request) from ⟨_,_,_,_,_,_,z,z,(Enc.rd_agr Ao (m.a00 (Enc.rd_lt Ao))),(Enc.rd_agr Ak (m.a00 (Enc.rd_lt Ak))),(Enc.rd_agr Al (m.a00 (Enc.rd_lt Al)))⟩) (Enc.rd_agr Ay (m.a00 (Enc.rd_lt Ay))) Br) fun Cu e a k m=>?_
           have s:=s.trans e (by simp)
           refine wpList_nil ⟨s,?_⟩
           refine dN [12,13,14] 3 z k (by kernel_rfl) z s (fun _ _ _ _ _=>id) fun a k=>d_one 15 (by kernel_rfl) z (s_allocN (cs:=[I 0,I 0,I 0,I 0,I 0,I 0,I 0]) m k zeroValue97 z z z z z fun Cc Dx a k m e Bn Cf=>?_)
           have Cr:=lo1 (Nat.le_trans s.size Cf)
           have s:=s.trans e (by simp)
           refine wpList_nil ⟨s,?_⟩
           refine d_one 16 (by kernel_rfl) z (s_stb (cs':=[I Ai.1.fId,I Ai.1.fW,I Ai.1.fH,I Ai.1.fD,I Ai.1.fGram,I Ai.1.fClass,I Ai.1.fCount]) sizeOf97 m 0 Bn 0 k z z z z z z z z z z z fun Ci a k e m Bu=>?_)
           have s:=s.trans e (fun y hy=>Or.inr (Cr y hy))
           refine wpList_nil ⟨s,?_⟩
           refine dN [17] 1 z k (by kernel_rfl) z s (fun _ _ _ _ _=>id) fun a k=>d_done (by kernel_rfl) ?_
           have k:=k.keep [1,3,5,7,8,9,10] z
           refine (nm_then ?_)
           exact ⟨Ai.1,Cc,Ci,k.keep [1,3,5,7,8,9,10] z,m.sel [1,2,3,0] z (by decide),Bu,h⟩
         refine s_allocN (cs:=[I 0,I 0,I 0,I 0,I 0,I 0,I 0]) m k zeroValue97 z z z z z fun Cq Df a k m e Bm Bx=>?_
         have Cg:=lo1 (Nat.le_trans s.size Bx)
         have s:=s.trans e (by simp)
         refine wpList_nil ⟨s,?_⟩
         refine d_one 11 (by kernel_rfl) z (oE h fun Aj Bt h=>cE k m call156 z z z (c_spec_l6Item fu _ _ _ (show rd _ _ [I r1.fWay,I r1.fPallet.fW,I r1.fPallet.fD,I r1.fPallet.fH,I r1.fPallet.fGram,I r1.fClasses,At,Ba,I r1.fMaster,Ax] (r1:Request) from ⟨_,_,_,_,_,_,z,z,(Enc.rd_agr Ao (m.a00 (Enc.rd_lt Ao))),(Enc.rd_agr Ak (m.a00 (Enc.rd_lt Ak))),(Enc.rd_agr Al (m.a00 (Enc.rd_lt Al)))⟩) (Enc.rd_agr Ay (m.a00 (Enc.rd_lt Ay))) Bt) fun Di e a k m=>?_)
         have s:=s.trans e (by simp)
         refine wpList_nil ⟨s,?_⟩
         refine dN [12,13,14] 3 z k (by kernel_rfl) z s (fun _ _ _ _ _=>id) fun a k=>d_one 16 (by kernel_rfl) z (s_stb (cs':=[I Aj.1.fId,I Aj.1.fW,I Aj.1.fH,I Aj.1.fD,I Aj.1.fGram,I Aj.1.fClass,I Aj.1.fCount]) sizeOf97 m 0 Bm 0 k z z z z z z z z z z z fun Cn a k e m Cb=>?_)
         have s:=s.trans e (fun y hy=>Or.inr (Cg y hy))
         refine wpList_nil ⟨s,?_⟩
         refine dN [17] 1 z k (by kernel_rfl) z s (fun _ _ _ _ _=>id) fun a k=>d_done (by kernel_rfl) ?_
         have k:=k.keep [1,3,5,7,8,9,10] z
         refine (nm_then ?_)
         exact ⟨Aj.1,Cq,Cn,k.keep [1,3,5,7,8,9,10] z,m.sel [1,2,3,0] z (by decide),Cb,h⟩
       refine wp_exit (ex_then (ex_then (ex_same (nm_block (nm_then ?_)))))
       exact ⟨k.keep [1,3,5,7,8] z,m.sel [0,1,2] z (by decide),h⟩
     exact ⟨0,k.keep [1,3,5,7,8,9] z,m.sel [0,1,2] z (by decide),h⟩
   refine wp_exit (ex_then (ex_then (ex_same (nm_then ?_))))
   refine wr (pN 1 k z fun a k=>nn (wp_ret (fS h k m z z)))
 exact ⟨0,k.keep [1,3,5,7,8] z,m.sel [2,1,0] z (by decide),h⟩
theorem c_spec_Cheapest (fu:Nat) {w0:World} (r1:Request) (Ar:List Int) {Ax:List Value} {F3:List Nat} (Br:rd w0 F3 Ax r1) {v6:Value} {F7:List Nat} (Ba:rd w0 F7 [v6] Ar) {r:Typ × Bool}
    (h:d_spec_Cheapest fu r1 Ar = some r) :
    Calls Tryz.prog 193 #[.agg Ax.toArray,v6] w0 fun e w=>e = .returned (.tuple #[.agg (Flat.e r.1).toArray,.bool (r.2)]) ∧ Ext [] w0 w:=by
 refine enter (vs:=[_,_]) func193 z ntmps193 z fun a k=>?_
 have m:=St.start w0
 obtain ⟨v9,Ce,Av,Ca,Au,Cc,rfl,rfl,Ay,Aj,Aw⟩:=Br
 unfold d_spec_Cheapest at h
 refine wr (s_box (cs:=[I r1.fWay,I r1.fPallet.fW,I r1.fPallet.fD,I r1.fPallet.fH,I r1.fPallet.fGram,I r1.fClasses,v9,Av,I r1.fMaster,Au]) m k z z z z z z fun As Bb a k m e At=>s_alloc (cs:=[I 0,I 0,I 0,I 0,I 0,I 0,I 0]) m k zeroValue38 z z z z z fun Ap Az a k m e Bo=>pN 1 k z fun a k=>nn (wr (sv k z (r_build bt38 k (cs:=#[I 0,I 0,I 0,I 0,I 0,I 0,I 0]) (ps:=[]) z z (by kernel_rfl)) fun a k=>?_)))
 refine s_alloc (cs:=[I 0,I 0,I 0,I 0,I 0,I 0,I 0]) m k zeroValue38 z z z z z fun Ah Ch a k m e Bp=>s_stb (cs':=[I 0,I 0,I 0,I 0,I 0,I 0,I 0]) sizeOf38 m 0 Bp 0 k z z z z z z z z z z z fun Bn a k e m Bd=>nn (wr (pN 1 k z fun a k=>nn (wp_seq (wr (pN 1 k z fun a k=>nn (wp_block ?_))))))
 refine c_loop (fun n a w=>∃ (Ab:Typ) (Ai:World) (Ae:Bool) (Ag:Int),K 54 [(1,v6),(2,.pointer (some (⟨As,0,none⟩:Addr))),(4,.pointer (some (⟨Ap,0,none⟩:Addr))),(6,.pointer (some (⟨Ah,0,none⟩:Addr))),(7,.bool (Ae)),(8,I Ag)] a ∧ St [] w0 w [([As],Bb),([Ap],Az),([Ah],Ai)] ∧ bx Ai Ah [I Ab.fId,I Ab.fW,I Ab.fH,I Ab.fD,I Ab.fTare,I Ab.fGram,I Ab.fCost] 38 ∧ d_spec_Cheapest_L1 fu r1 Ar n Ab Ae Ag = some r) ?_ ?_ fu _ _ ?_
 · rintro a w ⟨_,_,_,_,_,_,_,h⟩
   exact nS h
 · rintro Bq a Cb ⟨Ab,Ai,Ae,Ag,k,m,Ac,h⟩
   rw [d_spec_Cheapest_L1_s] at h
   unfold d_spec_Cheapest_L1_B at h
   refine wp_seq (wr (pN 1 k z fun a k=>sv k z (r_fa fa30_4 k z z) fun a k=>sv k z (r_ldb t127 m 0 At 7 k z z z z z) fun a k=>sv k z (r_len (α:=Typ) Aj k underlying27 z z) fun a k=>pN 1 k z fun a k=>nn (cI h k z (fun Bg h=>?_) fun Bg h=>?_)))
   · refine wp_skip (nm_then ?_)
     refine c_cut (fun a w=>∃ (Ad:Typ) (Aq:World) (Ao:Bool),K 54 [(1,v6),(2,.pointer (some (⟨As,0,none⟩:Addr))),(4,.pointer (some (⟨Ap,0,none⟩:Addr))),(6,.pointer (some (⟨Ah,0,none⟩:Addr))),(7,.bool (Ao)),(8,I Ag)] a ∧ St [] w0 w [([As],Bb),([Ap],Az),([Ah],Aq)] ∧ bx Aq Ah [I Ad.fId,I Ad.fW,I Ad.fH,I Ad.fD,I Ad.fTare,I Ad.fGram,I Ad.fCost] 38 ∧ d_spec_Cheapest_J1 fu (d_spec_Cheapest_L1 fu r1 Ar Bq) Ag Ad Ao = some r) ?_ ?_
     · rintro a Cg ⟨Ad,Aq,Ao,k,m,Bl,h⟩
       unfold d_spec_Cheapest_J1 at h
       refine wp_region_lit (pN 3 k z fun a k=>nn ?_)
       exact ⟨Ad,Aq,Ao,w64 (Ag + 1),k.keep [1,2,4,6,7,8] z,m.sel [0,1,2] z (by decide),Bl,h⟩
     refine wp_block (wr (sv k z (r_fa fa30_4 k z z) fun a k=>sv k z (r_ldb t127 m 0 At 7 k z z z z z) fun a k=>pN 1 k z fun a k=>oE h fun Aa Bc h=>sv k z (r_ixa Aj Bc k ts27 z z z) fun a k=>sv k z (r_lde Aj (m.a00 (Enc.rd_lt Aj)) Bc ta38 k z z) fun a k=>s_alloc (cs:=[I 0,I 0,I 0,I 0,I 0,I 0,I 0]) m k zeroValue38 z z z z z fun By Cf a k m e Bk=>s_stb (cs':=[I Aa.fId,I Aa.fW,I Aa.fH,I Aa.fD,I Aa.fTare,I Aa.fGram,I Aa.fCost]) sizeOf38 m 0 Bk 0 k z z z z z z z z z z z fun Bx a k e m Af=>nn (wp_seq (wr ?_))))
     refine sv k z (r_ldB ta30 m 1 At 0 k z z z z z z) fun a k=>pN 1 k z fun a k=>sv k z (r_ldB ta38 m 0 Af 0 k z z z z z z) fun a k=>oE h fun Cd Bi h=>cE k m call202 z z z (c_spec_Holds fu _ _ (Aa:Typ) (show rd _ _ [I r1.fWay,I r1.fPallet.fW,I r1.fPallet.fD,I r1.fPallet.fH,I r1.fPallet.fGram,I r1.fClasses,v9,Av,I r1.fMaster,Au] (r1:Request) from ⟨_,_,_,_,_,_,z,z,(Enc.rd_agr Ay (m.a00 (Enc.rd_lt Ay))),(Enc.rd_agr Aj (m.a00 (Enc.rd_lt Aj))),(Enc.rd_agr Aw (m.a00 (Enc.rd_lt Aw)))⟩) (Enc.rd_agr Ba (m.a00 (Enc.rd_lt Ba))) Bi) fun Bw e a k m=>pN 1 k z fun a k=>nn (cI h k z (fun Bv h=>?_) fun Bv h=>?_)
     · refine wp_exit (ex_then (ex_same (nm_then ?_)))
       exact ⟨Ab,Ai,Ae,k.keep [1,2,4,6,7,8] z,m.sel [1,2,3] z (by decide),Ac,h⟩
     refine wp_skip (nm_then ?_)
     refine wr (pN 3 k z fun a k=>bsplit (!Ae) (fun Am=>?_) (fun Am=>?_))
     · have h:=bif_t Am h
       refine rB k 30 z Am fun k=>pN 20 k z fun a k=>?_
       have k:=k.keep [1,2,4,6,7,8,9,50] z
       refine nn (wp_cond_true (k.ev z) (wr (sv k z (r_ldB ta38 m 0 Af 0 k z z z z z z) fun a k=>s_stb (cs':=[I Aa.fId,I Aa.fW,I Aa.fH,I Aa.fD,I Aa.fTare,I Aa.fGram,I Aa.fCost]) sizeOf38 m 3 Ac 0 k z z z z z z z z z z z fun Bu a k e m Bh=>nn (wp_region_lit (pN 1 k z fun a k=>wpList_nil (nm_block (nm_then ?_)))))))
       exact ⟨Aa,Bu,true,k.keep [1,2,4,6,7,8] z,m.sel [1,2,3] z (by decide),Bh,h⟩
     have h:=bif_f Am h
     refine rB k 30 z Am fun k=>sv k z (r_fa fa38_6 k z z) fun a k=>sv k z (r_ldb t13 m 0 Af 6 k z z z z z) fun a k=>sv k z (r_fa fa38_6 k z z) fun a k=>sv k z (r_ldb t13 m 3 Ac 6 k z z z z z) fun a k=>pN 3 k z fun a k=>bsplit (decide (Aa.fCost < Ab.fCost)) (fun Ak=>?_) (fun Ak=>?_)
     · have h:=bif_t Ak h
       refine rB k 37 z Ak fun k=>pN 13 k z fun a k=>?_
       have k:=k.keep [1,2,4,6,7,8,9,50] z
       refine nn (wp_cond_true (k.ev z) (wr (sv k z (r_ldB ta38 m 0 Af 0 k z z z z z z) fun a k=>s_stb (cs':=[I Aa.fId,I Aa.fW,I Aa.fH,I Aa.fD,I Aa.fTare,I Aa.fGram,I Aa.fCost]) sizeOf38 m 3 Ac 0 k z z z z z z z z z z z fun Be a k e m Bt=>nn (wp_region_lit (pN 1 k z fun a k=>wpList_nil (nm_block (nm_then ?_)))))))
       exact ⟨Aa,Be,true,k.keep [1,2,4,6,7,8] z,m.sel [1,2,3] z (by decide),Bt,h⟩
     have h:=bif_f Ak h
     refine rB k 37 z Ak fun k=>sv k z (r_fa fa38_6 k z z) fun a k=>sv k z (r_ldb t13 m 0 Af 6 k z z z z z) fun a k=>sv k z (r_fa fa38_6 k z z) fun a k=>sv k z (r_ldb t13 m 3 Ac 6 k z z z z z) fun a k=>pN 2 k z fun a k=>bsplit (Aa.fCost == Ab.fCost) (fun Al=>?_) (fun Al=>?_)
     · have h:=bif_t Al h
       refine rB k 43 z Al fun k=>sv k z (r_fa fa38_0 k z z) fun a k=>sv k z (r_ldb t13 m 0 Af 0 k z z z z z) fun a k=>sv k z (r_fa fa38_0 k z z) fun a k=>sv k z (r_ldb t13 m 3 Ac 0 k z z z z z) fun a k=>pN 3 k z fun a k=>?_
       have k:=k.keep [1,2,4,6,7,8,9,50] z
       refine nn (cI h k z (fun Bj h=>?_) fun Bj h=>?_)
       · refine wr (sv k z (r_ldB ta38 m 0 Af 0 k z z z z z z) fun a k=>s_stb (cs':=[I Aa.fId,I Aa.fW,I Aa.fH,I Aa.fD,I Aa.fTare,I Aa.fGram,I Aa.fCost]) sizeOf38 m 3 Ac 0 k z z z z z z z z z z z fun Bm a k e m Bs=>nn (wp_region_lit (pN 1 k z fun a k=>wpList_nil (nm_block (nm_then ?_)))))
         exact ⟨Aa,Bm,true,k.keep [1,2,4,6,7,8] z,m.sel [1,2,3] z (by decide),Bs,h⟩
       refine wp_skip (nm_block (nm_then ?_))
       exact ⟨Ab,Ai,Ae,k.keep [1,2,4,6,7,8] z,m.sel [1,2,3] z (by decide),Ac,h⟩
     have h:=bif_f Al h
     refine rB k 43 z Al fun k=>pN 7 k z fun a k=>?_
     have k:=k.keep [1,2,4,6,7,8,9,50] z
     refine nn (wp_cond_false (k.ev z) (wp_skip (nm_block (nm_then ?_))))
     exact ⟨Ab,Ai,Ae,k.keep [1,2,4,6,7,8] z,m.sel [1,2,3] z (by decide),Ac,h⟩
   refine wp_exit (ex_then (ex_then (ex_same (nm_then ?_))))
   refine wr (sv k z (r_ldB ta38 m 2 Ac 0 k z z z z z z) fun a k=>pN 1 k z fun a k=>s_stb (cs':=[I Ab.fId,I Ab.fW,I Ab.fH,I Ab.fD,I Ab.fTare,I Ab.fGram,I Ab.fCost]) sizeOf38 m 1 Bo 0 k z z z z z z z z z z z fun Bz a k e m Bf=>pN 1 k z fun a k=>nn (wp_ret ?_))
   cases h
   exact finR2 k z (RV.cA k z ta38 (Bf.at (m.a 1 z) 0 7 z z z) z) (RV.tmp k z) ⟨z,m.ext⟩
 exact ⟨(⟨0,0,0,0,0,0,0⟩:Typ),Bn,false,0,k.keep [1,2,4,6,7,8] z,m.sel [2,1,0] z (by decide),Bd,h⟩

end Go.Proofs.YtlmibnlfkmiikaaGreat
