/- FnExactFeasible: the walks of functions that it reaches (ExactFeasibleBWs,part 2). Printed by gen.py. -/
import Derived.Test.YtkkfmjpbiimkbaaGreatExactFeasibleBWs1
set_option maxRecDepth 20000
set_option linter.unusedSimpArgs false
set_option linter.unusedVariables false
namespace Go.Proofs.YtkkfmjpbiimkbaaGreat
open Go Go.RowKit
open Enc (rd ow)
open Arg (argv)
open Ret (retv)
open Go.Proofs.Tryz

theorem c_spec_l13Carton (fu:Nat) {w0:World} (x1:Carton) {Ai:List Value} {F3:List Nat} (As:rd w0 F3 Ai x1) {r:Bool}
    (h:d_spec_l13Carton fu x1 = some r) :
    Calls Tryz.prog 210 #[.agg Ai.toArray] w0 fun e w=>e = .returned (.bool (r)) ∧ Ext [] w0 w:=by
 refine enter (vs:=[_]) func210 z ntmps210 z fun a k=>?_
 have m:=St.start w0
 obtain ⟨v5,_,rfl,rfl,Aa⟩:=As
 unfold d_spec_l13Carton at h
 refine wr (s_box (cs:=[I x1.fType,I x1.fGroup,v5]) m k z z z z z z fun b7 w9 a k m e Ab=>pN 1 k z fun a k=>nn (c_cut (fun a w=>K 52 [(1,.pointer (some (⟨b7,0,none⟩:Addr)))] a ∧ St [] w0 w [([b7],w9)] ∧ d_spec_l13Carton_J2 fu x1 = some r) ?_ ?_))
 · rintro a Bc ⟨k,m,h⟩
   unfold d_spec_l13Carton_J2 at h
   refine wp_seq (wr (pN 1 k z fun a k=>nn (wp_block (c_loop (fun n a w=>∃ (Ac:Int),K 52 [(1,.pointer (some (⟨b7,0,none⟩:Addr))),(3,I Ac)] a ∧ St [] w0 w [([b7],w9)] ∧ d_spec_l13Carton_L1 fu x1 n Ac = some r) ?_ ?_ fu _ _ ?_))))
   · rintro a w ⟨_,_,_,h⟩
     exact nS h
   · rintro Al a Az ⟨Ac,k,m,h⟩
     rw [d_spec_l13Carton_L1_s] at h
     unfold d_spec_l13Carton_L1_B at h
     refine wp_seq (wr (pN 1 k z fun a k=>sv k z (r_fa fa83_2 k z z) fun a k=>sv k z (r_ldb t163 m 0 Ab 2 k z z z z z) fun a k=>sv k z (r_len (α:=Int) Aa k underlying63 z z) fun a k=>pN 1 k z fun a k=>nn (cI h k z (fun Ap h=>?_) fun Ap h=>?_)))
     · refine wp_skip (nm_then ?_)
       refine c_cut (fun a w=>K 52 [(1,.pointer (some (⟨b7,0,none⟩:Addr))),(3,I Ac)] a ∧ St [] w0 w [([b7],w9)] ∧ d_spec_l13Carton_J1 fu (d_spec_l13Carton_L1 fu x1 Al) Ac = some r) ?_ ?_
       · rintro a Ax ⟨k,m,h⟩
         unfold d_spec_l13Carton_J1 at h
         refine wp_region_lit (pN 3 k z fun a k=>nn ?_)
         exact ⟨w64 (Ac + 1),k.keep [1,3] z,m.sel [0] z (by decide),h⟩
       refine wp_block (wp_seq (d_go [] mixo m z fun Ar hMd=>?_))
       have m:=hMd
       have s:=Ext.refl ([]:List Nat) Ar
       refine dN [2] 1 z k (by kernel_rfl) z s (fun _ _ _ _ _=>id) fun a k=>dt k 0 z (by kernel_rfl) z s (fun _ _ _=>id) (fun w s=>r_fa fa83_2 k z z) fun a k=>dt k 1 z (by kernel_rfl) z s (fun _ _ _=>id) (fun w s=>r_ld1 t163 (r:=[]) (Ab.at ((hMd.step s).a 0 z) 2 1 z z z) k z z) fun a k=>oE h fun Ay Ah h=>dt k 3 z (by kernel_rfl) z s (fun _ _ _=>id) (fun w s=>r_ixa Aa Ah k ts63 z z z) fun a k=>dt k 4 z (by kernel_rfl) z s (fun _ _ _=>id) (fun w s=>r_lde1 Aa ((hMd.step s).a00 (Enc.rd_lt Aa)) Ah 0 t13 k z z z z) fun a k=>d_one 5 (by kernel_rfl) z (oE h fun Au Aq h=>cE k m call130 z z z (c_spec_l1In fu _ _ _  Aq) fun Ba e a k m=>?_)
       have s:=s.trans e (by simp)
       refine wpList_nil ⟨s,?_⟩
       refine dN [6,7] 2 z k (by kernel_rfl) z s (fun _ _ _ _ _=>id) fun a k=>bsplit (!Au) (fun Ad=>?_) (fun Ad=>?_)
       · have h:=bif_t Ad h
         refine rB k 34 z Ad fun k=>dN [8,9,10,11,12,13,14,15,16,17,18,19,20,21,22,23,24] 17 z k (by kernel_rfl) z s (fun _ _ _ _ _=>id) fun a k=>d_done (by kernel_rfl) ?_
         have k:=k.keep [1,3,51] z
         refine (nm_then ?_)
         refine wp_cond_true (k.ev z) (wr (pN 1 k z fun a k=>nn (wp_ret (rt_block (rt_then (rt_then (rt_block (rt_then ?_))))))))
         refine fS h k m z z
       have h:=bif_f Ad h
       refine rB k 34 z Ad fun k=>dN [8,9,10] 3 z k (by kernel_rfl) z s (fun _ _ _ _ _=>id) fun a k=>bsplit (decide (Ac > 0)) (fun Ae=>?_) (fun Ae=>?_)
       · have h:=bif_t Ae h
         refine rB k 37 z Ae fun k=>dN [13,18,19] 3 z k (by kernel_rfl) z s (fun _ _ _ _ _=>id) fun a k=>dt k 11 z (by kernel_rfl) z s (fun _ _ _=>id) (fun w s=>r_fa fa83_2 k z z) fun a k=>dt k 12 z (by kernel_rfl) z s (fun _ _ _=>id) (fun w s=>r_ld1 t163 (r:=[]) (Ab.at ((hMd.step s).a 0 z) 2 1 z z z) k z z) fun a k=>oE h fun Be Bg h=>dt k 14 z (by kernel_rfl) z s (fun _ _ _=>id) (fun w s=>r_ixa Aa Ah k ts63 z z z) fun a k=>dt k 15 z (by kernel_rfl) z s (fun _ _ _=>id) (fun w s=>r_lde1 Aa ((hMd.step s).a00 (Enc.rd_lt Aa)) Ah 0 t13 k z z z z) fun a k=>dt k 16 z (by kernel_rfl) z s (fun _ _ _=>id) (fun w s=>r_fa fa83_2 k z z) fun a k=>?_
         refine dt k 17 z (by kernel_rfl) z s (fun _ _ _=>id) (fun w s=>r_ld1 t163 (r:=[]) (Ab.at ((hMd.step s).a 0 z) 2 1 z z z) k z z) fun a k=>oE h fun Bf Aj h=>dt k 20 z (by kernel_rfl) z s (fun _ _ _=>id) (fun w s=>r_ixa Aa Aj k ts63 z z z) fun a k=>dt k 21 z (by kernel_rfl) z s (fun _ _ _=>id) (fun w s=>r_lde1 Aa ((hMd.step s).a00 (Enc.rd_lt Aa)) Aj 0 t13 k z z z z) fun a k=>dN [22,23,24] 3 z k (by kernel_rfl) z s (fun _ _ _ _ _=>id) fun a k=>d_done (by kernel_rfl) ?_
         have k:=k.keep [1,3,51] z
         refine (nm_then ?_)
         refine cI h k z (fun Ak h=>?_) fun Ak h=>?_
         · refine wr (pN 1 k z fun a k=>nn (wp_ret (rt_block (rt_then (rt_then (rt_block (rt_then ?_)))))))
           refine fS h k m z z
         refine wp_skip (nm_block (nm_then ?_))
         exact ⟨k.keep [1,3] z,m.sel [0] z (by decide),h⟩
       have h:=bif_f Ae h
       refine rB k 37 z Ae fun k=>dN [11,12,13,14,15,16,17,18,19,20,21,22,23,24] 14 z k (by kernel_rfl) z s (fun _ _ _ _ _=>id) fun a k=>d_done (by kernel_rfl) ?_
       have k:=k.keep [1,3,51] z
       refine (nm_then ?_)
       refine wp_cond_false (k.ev z) (wp_skip (nm_block (nm_then ?_)))
       exact ⟨k.keep [1,3] z,m.sel [0] z (by decide),h⟩
     refine wp_exit (ex_then (ex_then (ex_same (nm_then ?_))))
     refine wr (pN 1 k z fun a k=>nn (wp_ret (fS h k m z z)))
   exact ⟨0,k.keep [1,3] z,m.sel [0] z (by decide),h⟩
 refine wr (sv k z (r_fa fa83_0 k z z) fun a k=>sv k z (r_ldb t13 m 0 Ab 0 k z z z z z) fun a k=>oE h fun Am At h=>cE k m call259 z z z (c_spec_l2Id fu _  At) fun Bd e a k m=>pN 2 k z fun a k=>bsplit (!Am) (fun Af=>?_) (fun Af=>?_))
 · have h:=bif_t Af h
   refine rB k 8 z Af fun k=>pN 11 k z fun a k=>nn (wp_cond_true (k.ev z) (wr (pN 1 k z fun a k=>nn (wp_ret (rt_then ?_)))))
   refine fS h k m z z
 have h:=bif_f Af h
 refine rB k 8 z Af fun k=>sv k z (r_fa fa83_1 k z z) fun a k=>sv k z (r_ldb t13 m 0 Ab 1 k z z z z z) fun a k=>oE h fun Av Ao h=>cE k m call130 z z z (c_spec_l1In fu _ _ _  Ao) fun Bb e a k m=>pN 3 k z fun a k=>bsplit (!Av) (fun Ag=>?_) (fun Ag=>?_)
 · have h:=bif_t Ag h
   refine rB k 14 z Ag fun k=>pN 5 k z fun a k=>nn (wp_cond_true (k.ev z) (wr (pN 1 k z fun a k=>nn (wp_ret (rt_then ?_)))))
   refine fS h k m z z
 have h:=bif_f Ag h
 refine rB k 14 z Ag fun k=>sv k z (r_fa fa83_2 k z z) fun a k=>sv k z (r_ldb t163 m 0 Ab 2 k z z z z z) fun a k=>sv k z (r_len (α:=Int) Aa k underlying63 z z) fun a k=>pN 2 k z fun a k=>nn (cI h k z (fun Aw h=>?_) fun Aw h=>?_)
 · refine wr (pN 1 k z fun a k=>nn (wp_ret (rt_then ?_)))
   refine fS h k m z z
 refine wp_skip (nm_then ?_)
 exact ⟨k.keep [1] z,m.sel [0] z (by decide),h⟩
theorem c_spec_PlanOk (fu:Nat) {w0:World} (x1:Plan) {Aq:List Value} {F3:List Nat} (Ba:rd w0 F3 Aq x1) {r:Bool}
    (h:d_spec_PlanOk fu x1 = some r) :
    Calls Tryz.prog 104 #[.agg Aq.toArray] w0 fun e w=>e = .returned (.bool (r)) ∧ Ext [] w0 w:=by
 refine enter (vs:=[_]) func104 z ntmps104 z fun a k=>?_
 have m:=St.start w0
 obtain ⟨v5,F6,v7,F8,rfl,rfl,Aa,Aj⟩:=Ba
 unfold d_spec_PlanOk at h
 refine wr (s_box (cs:=[v5,v7]) m k z z z z z z fun Ab Ao a k m e Ad=>pN 1 k z fun a k=>nn (c_cut (fun a w=>K 61 [(1,.pointer (some (⟨Ab,0,none⟩:Addr)))] a ∧ St [] w0 w [([Ab],Ao)] ∧ d_spec_PlanOk_J2 fu x1 = some r) ?_ ?_))
 · rintro a Bn ⟨k,m,h⟩
   unfold d_spec_PlanOk_J2 at h
   refine wp_seq (wr (pN 1 k z fun a k=>nn (wp_block (c_loop (fun n a w=>∃ (Ac:Int),K 61 [(1,.pointer (some (⟨Ab,0,none⟩:Addr))),(3,I Ac)] a ∧ St [] w0 w [([Ab],Ao)] ∧ d_spec_PlanOk_L1 fu x1 n Ac = some r) ?_ ?_ fu _ _ ?_))))
   · rintro a w ⟨_,_,_,h⟩
     exact nS h
   · rintro Be a Bu ⟨Ac,k,m,h⟩
     rw [d_spec_PlanOk_L1_s] at h
     unfold d_spec_PlanOk_L1_B at h
     refine wp_seq (wr (pN 1 k z fun a k=>sv k z (r_fa fa58_0 k z z) fun a k=>sv k z (r_ldb t155 m 0 Ad 0 k z z z z z) fun a k=>sv k z (r_len (α:=Carton) Aa k underlying55 z z) fun a k=>pN 1 k z fun a k=>nn (cI h k z (fun Bf h=>?_) fun Bf h=>?_)))
     · refine wp_skip (nm_then ?_)
       refine c_cut (fun a w=>K 61 [(1,.pointer (some (⟨Ab,0,none⟩:Addr))),(3,I Ac)] a ∧ St [] w0 w [([Ab],Ao)] ∧ d_spec_PlanOk_J1 fu (d_spec_PlanOk_L1 fu x1 Be) Ac = some r) ?_ ?_
       · rintro a Bp ⟨k,m,h⟩
         unfold d_spec_PlanOk_J1 at h
         refine wp_region_lit (pN 3 k z fun a k=>nn ?_)
         exact ⟨w64 (Ac + 1),k.keep [1,3] z,m.sel [0] z (by decide),h⟩
       refine wp_block (wr (sv k z (r_fa fa58_1 k z z) fun a k=>sv k z (r_ldb t156 m 0 Ad 1 k z z z z z) fun a k=>pN 1 k z fun a k=>oE h fun Ak As h=>sv k z (r_ixa Aj As k ts56 z z z) fun a k=>sv k z (r_lde Aj (m.a00 (Enc.rd_lt Aj)) As ta89 k z z) fun a k=>s_alloc (cs:=[I 0,I 0,I 0,I 0]) m k zeroValue89 z z z z z fun Bq Bv a k m e Bi=>s_stb (cs':=[I Ak.fPallet,I Ak.fX,I Ak.fY,I Ak.fZ]) sizeOf89 m 0 Bi 0 k z z z z z z z z z z z fun Bw a k e m Al=>nn (wr (sv k z (r_fa fa58_0 k z z) fun a k=>sv k z (r_ldb t155 m 1 Ad 0 k z z z z z) fun a k=>pN 1 k z fun a k=>oE h fun Am Ar h=>?_))))
       refine sv k z (r_ixa Aa Ar k ts55 z z z) fun a k=>?_
       obtain ⟨Br,Bo,Bz,Bd,Bl,At⟩:=rd_get Aa (ix_some Ar).2.2
       obtain ⟨Av,_,rfl,rfl,Ap⟩:=Bd
       refine sv k z (r_ldA ta83 (Bl.agr (m.a00 (Enc.rd_lt Aa)) At) z k z z) fun a k=>oE h fun Bj Aw h=>cE k m call210 z z z (c_spec_l13Carton fu _ (show rd _ _ [I Am.fType,I Am.fGroup,Av] (Am:Carton) from ⟨_,_,z,z,(Enc.rd_agr Ap (m.a00 (Enc.rd_lt Ap)))⟩) Aw) fun By e a k m=>pN 2 k z fun a k=>bsplit (!Bj) (fun Ah=>?_) (fun Ah=>?_)
       · have h:=bif_t Ah h
         refine rB k 37 z Ah fun k=>pN 23 k z fun a k=>?_
         have k:=k.keep [1,3,60] z
         refine nn (wp_cond_true (k.ev z) (wr (pN 1 k z fun a k=>nn (wp_ret (rt_block (rt_then (rt_then (rt_block (rt_then ?_)))))))))
         refine fS h k m z z
       have h:=bif_f Ah h
       refine rB k 37 z Ah fun k=>sv k z (r_fa fa89_0 k z z) fun a k=>sv k z (r_ldb t13 m 0 Al 0 k z z z z z) fun a k=>oE h fun Bk Bc h=>cE k m call130 z z z (c_spec_l1In fu _ _ _  Bc) fun Bm e a k m=>pN 3 k z fun a k=>bsplit (!Bk) (fun Ag=>?_) (fun Ag=>?_)
       · have h:=bif_t Ag h
         refine rB k 43 z Ag fun k=>pN 17 k z fun a k=>?_
         have k:=k.keep [1,3,60] z
         refine nn (wp_cond_true (k.ev z) (wr (pN 1 k z fun a k=>nn (wp_ret (rt_block (rt_then (rt_then (rt_block (rt_then ?_)))))))))
         refine fS h k m z z
       have h:=bif_f Ag h
       refine rB k 43 z Ag fun k=>sv k z (r_fa fa89_1 k z z) fun a k=>sv k z (r_ldb t13 m 0 Al 1 k z z z z z) fun a k=>oE h fun Bg Ay h=>cE k m call130 z z z (c_spec_l1In fu _ _ _  Ay) fun Bx e a k m=>pN 3 k z fun a k=>bsplit (!Bg) (fun Ai=>?_) (fun Ai=>?_)
       · have h:=bif_t Ai h
         refine rB k 49 z Ai fun k=>pN 11 k z fun a k=>?_
         have k:=k.keep [1,3,60] z
         refine nn (wp_cond_true (k.ev z) (wr (pN 1 k z fun a k=>nn (wp_ret (rt_block (rt_then (rt_then (rt_block (rt_then ?_)))))))))
         refine fS h k m z z
       have h:=bif_f Ai h
       refine rB k 49 z Ai fun k=>sv k z (r_fa fa89_2 k z z) fun a k=>sv k z (r_ldb t13 m 0 Al 2 k z z z z z) fun a k=>oE h fun Az Bh h=>cE k m call130 z z z (c_spec_l1In fu _ _ _  Bh) fun Ca e a k m=>pN 3 k z fun a k=>bsplit (!Az) (fun Ae=>?_) (fun Ae=>?_)
       · have h:=bif_t Ae h
         refine rB k 55 z Ae fun k=>pN 5 k z fun a k=>?_
         have k:=k.keep [1,3,60] z
         refine nn (wp_cond_true (k.ev z) (wr (pN 1 k z fun a k=>nn (wp_ret (rt_block (rt_then (rt_then (rt_block (rt_then ?_)))))))))
         refine fS h k m z z
       have h:=bif_f Ae h
       refine rB k 55 z Ae fun k=>sv k z (r_fa fa89_3 k z z) fun a k=>sv k z (r_ldb t13 m 0 Al 3 k z z z z z) fun a k=>oE h fun Bs Bb h=>cE k m call130 z z z (c_spec_l1In fu _ _ _  Bb) fun Bt e a k m=>pN 2 k z fun a k=>?_
       have k:=k.keep [1,3,60] z
       refine nn (cI h k z (fun Au h=>?_) fun Au h=>?_)
       · refine wr (pN 1 k z fun a k=>nn (wp_ret (rt_block (rt_then (rt_then (rt_block (rt_then ?_)))))))
         refine fS h k m z z
       refine wp_skip (nm_block (nm_then ?_))
       exact ⟨k.keep [1,3] z,m.sel [1] z (by decide),h⟩
     refine wp_exit (ex_then (ex_then (ex_same (nm_then ?_))))
     refine wr (pN 1 k z fun a k=>nn (wp_ret (fS h k m z z)))
   exact ⟨0,k.keep [1,3] z,m.sel [0] z (by decide),h⟩
 refine wr (sv k z (r_fa fa58_0 k z z) fun a k=>sv k z (r_ldb t155 m 0 Ad 0 k z z z z z) fun a k=>sv k z (r_len (α:=Carton) Aa k underlying55 z z) fun a k=>sv k z (r_fa fa58_1 k z z) fun a k=>sv k z (r_ldb t156 m 0 Ad 1 k z z z z z) fun a k=>sv k z (r_len (α:=Spot) Aj k underlying56 z z) fun a k=>pN 2 k z fun a k=>bsplit (((x1.fCartons.length:Int)) != ((x1.fSpots.length:Int))) (fun Af=>?_) (fun Af=>?_))
 · have h:=bif_t Af h
   refine rB k 12 z Af fun k=>pN 5 k z fun a k=>nn (wp_cond_true (k.ev z) (wr (pN 1 k z fun a k=>nn (wp_ret (rt_then ?_)))))
   refine fS h k m z z
 have h:=bif_f Af h
 refine rB k 12 z Af fun k=>sv k z (r_fa fa58_0 k z z) fun a k=>sv k z (r_ldb t155 m 0 Ad 0 k z z z z z) fun a k=>sv k z (r_len (α:=Carton) Aa k underlying55 z z) fun a k=>pN 2 k z fun a k=>nn (cI h k z (fun Ax h=>?_) fun Ax h=>?_)
 · refine wr (pN 1 k z fun a k=>nn (wp_ret (rt_then ?_)))
   refine fS h k m z z
 refine wp_skip (nm_then ?_)
 exact ⟨k.keep [1] z,m.sel [0] z (by decide),h⟩
theorem c_spec_l15Empty (fu:Nat) {w0:World} (x1:Plan) {Ae:List Value} {F3:List Nat} (Ao:rd w0 F3 Ae x1) {r:Bool}
    (h:d_spec_l15Empty fu x1 = some r) :
    Calls Tryz.prog 105 #[.agg Ae.toArray] w0 fun e w=>e = .returned (.bool (r)) ∧ Ext [] w0 w:=by
 refine enter (vs:=[_]) func105 z ntmps105 z fun a k=>?_
 have m:=St.start w0
 obtain ⟨v5,F6,v7,F8,rfl,rfl,Aa,As⟩:=Ao
 unfold d_spec_l15Empty at h
 refine wr (s_box (cs:=[v5,v7]) m k z z z z z z fun Ad Al a k m e Af=>pN 1 k z fun a k=>nn (wp_seq (wr (pN 1 k z fun a k=>nn (wp_block (c_loop (fun n a w=>∃ (Ab:Int),K 19 [(1,.pointer (some (⟨Ad,0,none⟩:Addr))),(3,I Ab)] a ∧ St [] w0 w [([Ad],Al)] ∧ d_spec_l15Empty_L1 fu x1 n Ab = some r) ?_ ?_ fu _ _ ?_))))))
 · rintro a w ⟨_,_,_,h⟩
   exact nS h
 · rintro Aq a Ar ⟨Ab,k,m,h⟩
   rw [d_spec_l15Empty_L1_s] at h
   unfold d_spec_l15Empty_L1_B at h
   refine wp_seq (wr (pN 1 k z fun a k=>sv k z (r_fa fa58_0 k z z) fun a k=>sv k z (r_ldb t155 m 0 Af 0 k z z z z z) fun a k=>sv k z (r_len (α:=Carton) Aa k underlying55 z z) fun a k=>pN 1 k z fun a k=>nn (cI h k z (fun Am h=>?_) fun Am h=>?_)))
   · refine wp_skip (nm_then ?_)
     refine wp_seq (wp_block (wr (sv k z (r_fa fa58_0 k z z) fun a k=>sv k z (r_ldb t155 m 0 Af 0 k z z z z z) fun a k=>pN 1 k z fun a k=>oE h fun At Ac h=>sv k z (r_ixa Aa Ac k ts55 z z z) fun a k=>sv k z (r_fa fa83_2 k z z) fun a k=>?_)))
     obtain ⟨Av,Aw,Ap,Ai,Ag,Ah⟩:=rd_get Aa (ix_some Ac).2.2
     obtain ⟨Au,_,rfl,rfl,Ak⟩:=Ai
     refine sv k z (r_ld1 t163 ((Ag.agr (m.a00 (Enc.rd_lt Aa)) Ah).fld 2 1 (Nat.le_of_ble_eq_true z)) k z z) fun a k=>sv k z (r_len (α:=Int) Ak k underlying63 z z) fun a k=>pN 1 k z fun a k=>nn (cI h k z (fun Aj h=>?_) fun Aj h=>?_)
     · refine wr (pN 1 k z fun a k=>nn (wp_ret (rt_block (rt_then (rt_then (rt_block (rt_then ?_)))))))
       refine fS h k m z z
     refine wp_skip (nm_block (nm_then ?_))
     refine wp_region_lit (pN 3 k z fun a k=>nn ?_)
     exact ⟨w64 (Ab + 1),k.keep [1,3] z,m.sel [0] z (by decide),h⟩
   refine wp_exit (ex_then (ex_then (ex_same (nm_then ?_))))
   refine wr (pN 1 k z fun a k=>nn (wp_ret (fS h k m z z)))
 exact ⟨0,k.keep [1,3] z,m.sel [0] z (by decide),h⟩
theorem c_spec_l6Units (fu:Nat) {w0:World} (r1:Request) {Aq:List Value} {F3:List Nat} (Bc:rd w0 F3 Aq r1) {r:(List Int)}
    (h:d_spec_l6Units fu r1 = some r) :
    Calls Tryz.prog 90 #[.agg Aq.toArray] w0 fun e w=>∃ (v0:Value) (G0:List Nat),e = .returned (v0) ∧ Ext [] w0 w ∧ ow w G0 [v0] r ∧ (∀ b ∈ G0,w0.heap.size ≤ b):=by
 refine enter (vs:=[_]) func90 z ntmps90 z fun a k=>?_
 have m:=St.start w0
 obtain ⟨v5,F6,v7,F8,v9,Bo,rfl,rfl,Bj,Bs,Ah⟩:=Bc
 unfold d_spec_l6Units at h
 refine wr (s_box (cs:=[I r1.fWay,I r1.fPallet.fW,I r1.fPallet.fD,I r1.fPallet.fH,I r1.fPallet.fGram,I r1.fClasses,v5,v7,I r1.fMaster,v9]) m k z z z z z z fun Ag Ap a k m e As=>pN 1 k z fun a k=>nn (wr (s_bs (cs:=[]) (ps:=[]) te63 m k z z z z z z z (by decide) z (by exact (List.forall_mem_nil _)) fun Ao Au Bq a k m e Av=>?_)))
 have Bf:=ow_bx Av ([]:List Int) z z z
 refine pN 1 k z fun a k=>nn (wp_seq (wr (pN 1 k z fun a k=>nn (wp_block (c_loop (fun n a w=>∃ (Aj:List Int) (Af:Value) (Ab:List Nat) (Ac:World) (Aa:Int),K 29 [(1,.pointer (some (⟨Ag,0,none⟩:Addr))),(3,Af),(4,I Aa)] a ∧ St [] w0 w [([Ag],Ap),(Ab,Ac)] ∧ ow Ac Ab [Af] Aj ∧ d_spec_l6Units_L2 fu r1 n Aj Aa = some r) ?_ ?_ fu _ _ ?_)))))
 · rintro a w ⟨_,_,_,_,_,_,_,_,h⟩
   exact nS h
 · rintro Bb a Bm ⟨Aj,Af,Ab,Ac,Aa,k,m,Am,h⟩
   rw [d_spec_l6Units_L2_s] at h
   unfold d_spec_l6Units_L2_B at h
   refine wp_seq (wr (pN 1 k z fun a k=>sv k z (r_fa fa38_6 k z z) fun a k=>sv k z (r_ldb t136 m 0 As 9 k z z z z z) fun a k=>sv k z (r_len (α:=Item) Ah k underlying36 z z) fun a k=>pN 1 k z fun a k=>nn (cI h k z (fun Ba h=>?_) fun Ba h=>?_)))
   · refine wp_skip (nm_then ?_)
     refine wp_seq (wp_block (wr (pN 1 k z fun a k=>nn (wp_block (c_loop (fun n a w=>∃ (Ak:List Int) (Ad:Value) (Ai:List Nat) (Ae:World) (Al:Int),K 29 [(1,.pointer (some (⟨Ag,0,none⟩:Addr))),(3,Ad),(4,I Aa),(5,I Al)] a ∧ St [] w0 w [([Ag],Ap),(Ai,Ae)] ∧ ow Ae Ai [Ad] Ak ∧ d_spec_l6Units_L1 fu (d_spec_l6Units_L2 fu r1 Bb) r1 Aa n Ak Al = some r) ?_ ?_ fu _ _ ?_)))))
     · rintro a w ⟨_,_,_,_,_,_,_,_,h⟩
       exact nS h
     · rintro Bp a Bl ⟨Ak,Ad,Ai,Ae,Al,k,m,At,h⟩
       rw [d_spec_l6Units_L1_s] at h
       unfold d_spec_l6Units_L1_B at h
       refine wp_seq (wr (pN 1 k z fun a k=>sv k z (r_fa fa38_6 k z z) fun a k=>sv k z (r_ldb t136 m 0 As 9 k z z z z z) fun a k=>pN 1 k z fun a k=>oE h fun Bt Ar h=>sv k z (r_ixa Ah Ar k ts36 z z z) fun a k=>sv k z (r_fa fa158_6 k z z) fun a k=>sv k z (r_lde1 Ah (m.a00 (Enc.rd_lt Ah)) Ar 6 t13 k z z z z) fun a k=>pN 1 k z fun a k=>nn (cI h k z (fun Aw h=>?_) fun Aw h=>?_)))
       · refine wp_skip (nm_then ?_)
         refine wp_seq (wp_block (wp_region_lit (pN 2 k z fun a k=>s_bs (cs:=[I Aa]) (ps:=[(0,.tmp 25)]) te63 m k z z z z z z z (by decide) z (by exact (List.forall_mem_cons.2 ⟨z,(List.forall_mem_nil _)⟩)) fun Bn Bk Br a k m e Bi=>?_)))
         have Be:=ow_bx Bi ([Aa]:List Int) z z z
         refine oE h fun Bd Bg h=>s_appF Bg te63 z m 2 At (News.rd (Enc.rd_agr (Enc.ow_rd Be) (m.a 0 z))) z z k z z z z z z z fun Ay Az Bh a k e m Ax=>pN 1 k z fun a k=>wpList_nil (nm_block (nm_then ?_))
         refine wp_region_lit (pN 3 k z fun a k=>nn ?_)
         exact ⟨Bd,Ay,Az,Bh,w64 (Al + 1),k.keep [1,3,4,5] z,m.sel [1,2] z (by decide),Ax,h⟩
       refine wp_exit (ex_then (ex_then (ex_same (nm_block (nm_then ?_)))))
       refine wp_region_lit (pN 3 k z fun a k=>nn ?_)
       exact ⟨Ak,Ad,Ai,Ae,w64 (Aa + 1),k.keep [1,3,4] z,m.sel [0,1] z (by decide),At,h⟩
     exact ⟨Aj,Af,Ab,Ac,0,k.keep [1,3,4,5] z,m.sel [0,1] z (by decide),Am,h⟩
   refine wp_exit (ex_then (ex_then (ex_same (nm_then ?_))))
   refine wr (pN 2 k z fun a k=>nn (wp_ret ?_))
   cases h
   exact finR1 k z (RV.tmp k z) ⟨_,Ab,z,m.ext,(Enc.ow_agr Am (m.a 1 z)),(m.fresh 1 z)⟩
 exact ⟨([]:List Int),(.slice (some ⟨Ao,0,none⟩) 0 0),[Ao],Au,0,k.keep [1,3,4] z,m.sel [1,0] z (by decide),Bf,h⟩
theorem c_spec_l15Flat (fu:Nat) {w0:World} (x1:Plan) {Aj:List Value} {F3:List Nat} (Ax:rd w0 F3 Aj x1) {r:(List Int)}
    (h:d_spec_l15Flat fu x1 = some r) :
    Calls Tryz.prog 211 #[.agg Aj.toArray] w0 fun e w=>∃ (v0:Value) (G0:List Nat),e = .returned (v0) ∧ Ext [] w0 w ∧ ow w G0 [v0] r ∧ (∀ b ∈ G0,w0.heap.size ≤ b):=by
 refine enter (vs:=[_]) func211 z ntmps211 z fun a k=>?_
 have m:=St.start w0
 obtain ⟨v5,F6,v7,F8,rfl,rfl,Aa,Bf⟩:=Ax
 unfold d_spec_l15Flat at h
 refine wr (s_box (cs:=[v5,v7]) m k z z z z z z fun Ai Av a k m e Am=>pN 1 k z fun a k=>nn (wr (s_bs (cs:=[]) (ps:=[]) te63 m k z z z z z z z (by decide) z (by exact (List.forall_mem_nil _)) fun Ah Ar Bi a k m e Bb=>?_)))
 have Ay:=ow_bx Bb ([]:List Int) z z z
 refine pN 1 k z fun a k=>nn (wp_seq (wr (pN 1 k z fun a k=>nn (wp_block (c_loop (fun n a w=>∃ (Af:List Int) (Ad:Value) (Ab:List Nat) (Ae:World) (Ac:Int),K 22 [(1,.pointer (some (⟨Ai,0,none⟩:Addr))),(3,Ad),(4,I Ac)] a ∧ St [] w0 w [([Ai],Av),(Ab,Ae)] ∧ ow Ae Ab [Ad] Af ∧ d_spec_l15Flat_L1 fu x1 n Af Ac = some r) ?_ ?_ fu _ _ ?_)))))
 · rintro a w ⟨_,_,_,_,_,_,_,_,h⟩
   exact nS h
 · rintro Bg a Bj ⟨Af,Ad,Ab,Ae,Ac,k,m,Al,h⟩
   rw [d_spec_l15Flat_L1_s] at h
   unfold d_spec_l15Flat_L1_B at h
   refine wp_seq (wr (pN 1 k z fun a k=>sv k z (r_fa fa58_0 k z z) fun a k=>sv k z (r_ldb t155 m 0 Am 0 k z z z z z) fun a k=>sv k z (r_len (α:=Carton) Aa k underlying55 z z) fun a k=>pN 1 k z fun a k=>nn (cI h k z (fun As h=>?_) fun As h=>?_)))
   · refine wp_skip (nm_then ?_)
     refine wp_seq (wp_block (wp_region_lit (pN 1 k z fun a k=>sv k z (r_fa fa58_0 k z z) fun a k=>sv k z (r_ldb t155 m 0 Am 0 k z z z z z) fun a k=>pN 1 k z fun a k=>oE h fun Be Ak h=>sv k z (r_ixa Aa Ak k ts55 z z z) fun a k=>sv k z (r_fa fa83_2 k z z) fun a k=>?_)))
     obtain ⟨Bk,Bh,Bl,Aw,Ap,At⟩:=rd_get Aa (ix_some Ak).2.2
     obtain ⟨Bd,_,rfl,rfl,Ag⟩:=Aw
     refine sv k z (r_ld1 t163 ((Ap.agr (m.a00 (Enc.rd_lt Aa)) At).fld 2 1 (Nat.le_of_ble_eq_true z)) k z z) fun a k=>oE h fun Az Au h=>s_appF Au te63 z m 1 Al (News.rd (Enc.rd_agr Ag (m.a00 (Enc.rd_lt Ag)))) z z k z z z z z z z fun Aq Bc Ba a k e m Ao=>pN 1 k z fun a k=>wpList_nil (nm_block (nm_then ?_))
     refine wp_region_lit (pN 3 k z fun a k=>nn ?_)
     exact ⟨Az,Aq,Bc,Ba,w64 (Ac + 1),k.keep [1,3,4] z,m.sel [0,1] z (by decide),Ao,h⟩
   refine wp_exit (ex_then (ex_then (ex_same (nm_then ?_))))
   refine wr (pN 2 k z fun a k=>nn (wp_ret ?_))
   cases h
   exact finR1 k z (RV.tmp k z) ⟨_,Ab,z,m.ext,(Enc.ow_agr Al (m.a 1 z)),(m.fresh 1 z)⟩
 exact ⟨([]:List Int),(.slice (some ⟨Ah,0,none⟩) 0 0),[Ah],Ar,0,k.keep [1,3,4] z,m.sel [1,0] z (by decide),Ay,h⟩
theorem c_spec_l1Bit (fu:Nat) {w0:World} (Aa:Bool)  {r:Int}
    (h:d_spec_l1Bit fu Aa = some r) :
    Calls Tryz.prog 100 #[.bool (Aa)] w0 fun e w=>e = .returned (I r) ∧ Ext [] w0 w:=by
 refine enter (vs:=[_]) func100 z ntmps100 z fun a k=>?_
 have m:=St.start w0
 unfold d_spec_l1Bit at h
 refine wr (pN 1 k z fun a k=>nn (wp_seq (wr (pN 1 k z fun a k=>nn (cI h k z (fun Ab h=>?_) fun Ab h=>?_)))))
 · refine wr (pN 1 k z fun a k=>nn (wp_ret (rt_then ?_)))
   refine fS h k m z z
 refine wp_skip (nm_then ?_)
 refine wr (pN 1 k z fun a k=>nn (wp_ret (fS h k m z z)))
theorem c_spec_l8Times (fu:Nat) {w0:World} (Ad:List Int) (x5:Int) {v2:Value} {F3:List Nat} (Ac:rd w0 F3 [v2] Ad) {r:Int}
    (h:d_spec_l8Times fu Ad x5 = some r) :
    Calls Tryz.prog 129 #[v2,I x5] w0 fun e w=>e = .returned (I r) ∧ Ext [] w0 w:=by
 refine enter (vs:=[_,_]) func129 z ntmps129 z fun a k=>?_
 have m:=St.start w0
 unfold d_spec_l8Times at h
 refine wr (pN 1 k z fun a k=>nn (wr (pN 1 k z fun a k=>nn (wp_seq (wr (pN 1 k z fun a k=>nn (wp_block (c_loop (fun n a w=>∃ (Aa:Int) (Ab:Int),K 23 [(0,v2),(1,I x5),(5,I Aa),(6,I Ab)] a ∧ St [] w0 w [] ∧ d_spec_l8Times_L1 fu Ad x5 n Aa Ab = some r) ?_ ?_ fu _ _ ?_))))))))
 · rintro a w ⟨_,_,_,_,h⟩
   exact nS h
 · rintro Ak a Al ⟨Aa,Ab,k,m,h⟩
   rw [d_spec_l8Times_L1_s] at h
   unfold d_spec_l8Times_L1_B at h
   refine wp_seq (wr (pN 2 k z fun a k=>sv k z (r_len (α:=Int) Ac k underlying63 z z) fun a k=>pN 1 k z fun a k=>nn (cI h k z (fun Af h=>?_) fun Af h=>?_)))
   · refine wp_skip (nm_then ?_)
     refine wp_seq (wp_block (wp_region_lit (pN 3 k z fun a k=>oE h fun Aj Ae h=>sv k z (r_ixa Ac Ae k ts63 z z z) fun a k=>sv k z (r_lde1 Ac (m.a00 (Enc.rd_lt Ac)) Ae 0 t13 k z z z z) fun a k=>pN 2 k z fun a k=>oE h fun Ag Ah h=>cE k m call100 z z z (c_spec_l1Bit fu _  Ah) fun Ai e a k m=>pN 2 k z fun a k=>wpList_nil (nm_block (nm_then ?_)))))
     refine wp_region_lit (pN 3 k z fun a k=>nn ?_)
     exact ⟨w64 (Aa + Ag),w64 (Ab + 1),k.keep [0,1,5,6] z,m.sel [] z (by decide),h⟩
   refine wp_exit (ex_then (ex_then (ex_same (nm_then ?_))))
   refine wr (pN 2 k z fun a k=>nn (wp_ret (fS h k m z z)))
 exact ⟨0,0,k.keep [0,1,5,6] z,m.sel [] z (by decide),h⟩
theorem c_spec_l15Units (fu:Nat) {w0:World} (Ac:List Int) (x5:Plan) {v2:Value} {F3:List Nat} (Ah:rd w0 F3 [v2] Ac) {Ag:List Value} {F7:List Nat} (Am:rd w0 F7 Ag x5) {r:Bool}
    (h:d_spec_l15Units fu Ac x5 = some r) :
    Calls Tryz.prog 106 #[v2,.agg Ag.toArray] w0 fun e w=>e = .returned (.bool (r)) ∧ Ext [] w0 w:=by
 refine enter (vs:=[_,_]) func106 z ntmps106 z fun a k=>?_
 have m:=St.start w0
 obtain ⟨v9,Aw,Ai,Av,rfl,rfl,Ae,Ad⟩:=Am
 unfold d_spec_l15Units at h
 refine wr (s_box (cs:=[v9,Ai]) m k z z z z z z fun Bd Ba a k m e Au=>pN 1 k z fun a k=>nn (wr (sv k z (r_ldB ta58 m 0 Au 0 k z z z z z z) fun a k=>oE h fun Ao Ar h=>s_call k call211 z z z z z (c_spec_l15Flat fu _ (show rd _ _ [v9,Ai] (x5:Plan) from ⟨_,_,_,_,z,z,(Enc.rd_agr Ae (m.a00 (Enc.rd_lt Ae))),(Enc.rd_agr Ad (m.a00 (Enc.rd_lt Ad)))⟩) Ar) fun Ax At hR=>?_)))
 obtain ⟨Ap,Af,rfl,e,Ab,Aj⟩:=hR
 refine ⟨_,z,fun a k=>?_⟩
 have m:=m.new e Af (fun b hb=>⟨Aj b hb,Enc.rd_lt (Enc.ow_rd Ab) b hb⟩) (Enc.ow_nd Ab)
 refine pN 1 k z fun a k=>nn (wp_seq (wr (pN 1 k z fun a k=>sv k z (r_len (α:=Int) (Enc.ow_rd Ab) k underlying63 z z) fun a k=>pN 1 k z fun a k=>sv k z (r_len (α:=Int) Ah k underlying63 z z) fun a k=>pN 1 k z fun a k=>nn (cI h k z (fun Aq h=>?_) fun Aq h=>?_))))
 · refine wr (pN 1 k z fun a k=>nn (wp_ret (rt_then ?_)))
   refine fS h k m z z
 refine wp_skip (nm_then ?_)
 refine wp_seq (wr (pN 1 k z fun a k=>nn (wp_block (c_loop (fun n a w=>∃ (Aa:Int),K 24 [(0,v2),(5,Ap),(6,I Aa)] a ∧ St [] w0 w [(Af,At)] ∧ d_spec_l15Units_L1 fu Ac Ao n Aa = some r) ?_ ?_ fu _ _ ?_))))
 · rintro a w ⟨_,_,_,h⟩
   exact nS h
 · rintro Ay a Az ⟨Aa,k,m,h⟩
   rw [d_spec_l15Units_L1_s] at h
   unfold d_spec_l15Units_L1_B at h
   refine wp_seq (wr (pN 2 k z fun a k=>sv k z (r_len (α:=Int) Ah k underlying63 z z) fun a k=>pN 1 k z fun a k=>nn (cI h k z (fun Ak h=>?_) fun Ak h=>?_)))
   · refine wp_skip (nm_then ?_)
     refine wp_seq (wp_block (wr (pN 2 k z fun a k=>oE h fun Bb Al h=>cE k m call129 z z z (c_spec_l8Times fu _ _ (Enc.rd_agr (Enc.ow_rd Ab) (m.a 0 z)) Al) fun Bc e a k m=>pN 1 k z fun a k=>nn (cI h k z (fun As h=>?_) fun As h=>?_))))
     · refine wr (pN 1 k z fun a k=>nn (wp_ret (rt_block (rt_then (rt_then (rt_block (rt_then ?_)))))))
       refine fS h k m z z
     refine wp_skip (nm_block (nm_then ?_))
     refine wp_region_lit (pN 3 k z fun a k=>nn ?_)
     exact ⟨w64 (Aa + 1),k.keep [0,5,6] z,m.sel [0] z (by decide),h⟩
   refine wp_exit (ex_then (ex_then (ex_same (nm_then ?_))))
   refine wr (pN 1 k z fun a k=>nn (wp_ret (fS h k m z z)))
 exact ⟨0,k.keep [0,5,6] z,m.sel [0] z (by decide),h⟩
theorem c_spec_TypeById (fu:Nat) {w0:World} (r1:Request) (Ae:Int) {Ah:List Value} {F3:List Nat} (Aq:rd w0 F3 Ah r1) {r:Typ × Bool}
    (h:d_spec_TypeById fu r1 Ae = some r) :
    Calls Tryz.prog 184 #[.agg Ah.toArray,I Ae] w0 fun e w=>e = .returned (.tuple #[.agg (Flat.e r.1).toArray,.bool (r.2)]) ∧ Ext [] w0 w:=by
 refine enter (vs:=[_,_]) func184 z ntmps184 z fun a k=>?_
 have m:=St.start w0
 obtain ⟨v6,F7,v8,F9,Ap,Au,rfl,rfl,Bb,Aa,At⟩:=Aq
 unfold d_spec_TypeById at h
 refine wr (s_box (cs:=[I r1.fWay,I r1.fPallet.fW,I r1.fPallet.fD,I r1.fPallet.fH,I r1.fPallet.fGram,I r1.fClasses,v6,v8,I r1.fMaster,Ap]) m k z z z z z z fun Aj Ar a k m e Af=>s_alloc (cs:=[I 0,I 0,I 0,I 0,I 0,I 0,I 0]) m k zeroValue79 z z z z z fun Ai Al a k m e Ag=>pN 1 k z fun a k=>nn (wp_seq (wr (pN 1 k z fun a k=>nn (wp_block (c_loop (fun n a w=>∃ (Ad:Int),K 28 [(1,I Ae),(2,.pointer (some (⟨Aj,0,none⟩:Addr))),(4,.pointer (some (⟨Ai,0,none⟩:Addr))),(6,I Ad)] a ∧ St [] w0 w [([Aj],Ar),([Ai],Al)] ∧ d_spec_TypeById_L1 fu r1 Ae n Ad = some r) ?_ ?_ fu _ _ ?_))))))
 · rintro a w ⟨_,_,_,h⟩
   exact nS h
 · rintro Aw a Ay ⟨Ad,k,m,h⟩
   rw [d_spec_TypeById_L1_s] at h
   unfold d_spec_TypeById_L1_B at h
   refine wp_seq (wr (pN 1 k z fun a k=>sv k z (r_fa fa38_4 k z z) fun a k=>sv k z (r_ldb t135 m 0 Af 7 k z z z z z) fun a k=>sv k z (r_len (α:=Typ) Aa k underlying35 z z) fun a k=>pN 1 k z fun a k=>nn (cI h k z (fun Am h=>?_) fun Am h=>?_)))
   · refine wp_skip (nm_then ?_)
     refine wp_seq (wp_block (wr (sv k z (r_fa fa38_4 k z z) fun a k=>sv k z (r_ldb t135 m 0 Af 7 k z z z z z) fun a k=>pN 1 k z fun a k=>oE h fun Ab Ac h=>sv k z (r_ixa Aa Ac k ts35 z z z) fun a k=>sv k z (r_fa fa79_0 k z z) fun a k=>sv k z (r_lde1 Aa (m.a00 (Enc.rd_lt Aa)) Ac 0 t13 k z z z z) fun a k=>pN 2 k z fun a k=>nn (cI h k z (fun Ao h=>?_) fun Ao h=>?_))))
     · refine wr (sv k z (r_fa fa38_4 k z z) fun a k=>sv k z (r_ldb t135 m 0 Af 7 k z z z z z) fun a k=>pN 1 k z fun a k=>oE h fun Ba Ax h=>sv k z (r_ixa Aa Ac k ts35 z z z) fun a k=>sv k z (r_lde Aa (m.a00 (Enc.rd_lt Aa)) Ac ta79 k z z) fun a k=>s_stb (cs':=[I Ab.fId,I Ab.fW,I Ab.fH,I Ab.fD,I Ab.fTare,I Ab.fGram,I Ab.fCost]) sizeOf79 m 1 Ag 0 k z z z z z z z z z z z fun Az a k e m As=>pN 1 k z fun a k=>nn (wp_ret (rt_block (rt_then (rt_then (rt_block (rt_then ?_)))))))
       cases h
       exact finR2 k z (RV.cA k z ta79 (As.at (m.a 1 z) 0 7 z z z) z) (RV.tmp k z) ⟨z,m.ext⟩
     refine wp_skip (nm_block (nm_then ?_))
     refine wp_region_lit (pN 3 k z fun a k=>nn ?_)
     exact ⟨w64 (Ad + 1),k.keep [1,2,4,6] z,m.sel [0,1] z (by decide),h⟩
   refine wp_exit (ex_then (ex_then (ex_same (nm_then ?_))))
   refine wr (sv k z (r_build bt79 k (cs:=#[I 0,I 0,I 0,I 0,I 0,I 0,I 0]) (ps:=[]) z z (by kernel_rfl)) fun a k=>s_stb (cs':=[I 0,I 0,I 0,I 0,I 0,I 0,I 0]) sizeOf79 m 1 Ag 0 k z z z z z z z z z z z fun Av a k e m Ak=>pN 1 k z fun a k=>nn (wp_ret ?_))
   cases h
   exact finR2 k z (RV.cA k z ta79 (Ak.at (m.a 1 z) 0 7 z z z) z) (RV.tmp k z) ⟨z,m.ext⟩
 exact ⟨0,k.keep [1,2,4,6] z,m.sel [1,0] z (by decide),h⟩
theorem c_spec_l6Item (fu:Nat) {w0:World} (r1:Request) (Ag:List Int) (u9:Int) {Ae:List Value} {F3:List Nat} (Ar:rd w0 F3 Ae r1) {v6:Value} {F7:List Nat} (Ab:rd w0 F7 [v6] Ag) {r:Item × Bool}
    (h:d_spec_l6Item fu r1 Ag u9 = some r) :
    Calls Tryz.prog 168 #[.agg Ae.toArray,v6,I u9] w0 fun e w=>e = .returned (.tuple #[.agg (Flat.e r.1).toArray,.bool (r.2)]) ∧ Ext [] w0 w:=by
 refine enter (vs:=[_,_,_]) func168 z ntmps168 z fun a k=>?_
 have m:=St.start w0
 obtain ⟨Al,Aw,Ak,Bf,Aq,Bc,rfl,rfl,Az,Av,Ac⟩:=Ar
 unfold d_spec_l6Item at h
 refine wr (s_box (cs:=[I r1.fWay,I r1.fPallet.fW,I r1.fPallet.fD,I r1.fPallet.fH,I r1.fPallet.fGram,I r1.fClasses,Al,Ak,I r1.fMaster,Aq]) m k z z z z z z fun Bb Bg a k m e Aj=>s_alloc (cs:=[I 0,I 0,I 0,I 0,I 0,I 0,I 0]) m k zeroValue158 z z z z z fun Ad Bd a k m e Af=>pN 1 k z fun a k=>nn (wp_seq (wr (pN 2 k z fun a k=>sv k z (r_len (α:=Int) Ab k underlying63 z z) fun a k=>pN 1 k z fun a k=>oE h fun Au Ao h=>cE k m call130 z z z (c_spec_l1In fu _ _ _  Ao) fun Ba e a k m=>pN 1 k z fun a k=>nn (cI h k z (fun Am h=>?_) fun Am h=>?_)))))
 · refine wr (sv k z (r_build bt158 k (cs:=#[I 0,I 0,I 0,I 0,I 0,I 0,I 0]) (ps:=[]) z z (by kernel_rfl)) fun a k=>s_stb (cs':=[I 0,I 0,I 0,I 0,I 0,I 0,I 0]) sizeOf158 m 0 Af 0 k z z z z z z z z z z z fun Be a k e m Ap=>pN 1 k z fun a k=>nn (wp_ret (rt_then ?_)))
   cases h
   exact finR2 k z (RV.cA k z ta158 (Ap.at (m.a 0 z) 0 7 z z z) z) (RV.tmp k z) ⟨z,m.ext⟩
 refine wp_skip (nm_then ?_)
 refine wp_seq (d_go ([Ad]) mixo m z fun At hMd=>?_)
 have m:=hMd
 have s:=Ext.refl (([Ad]):List Nat) At
 refine dN [2,3] 2 z k (by kernel_rfl) z s (fun _ _ _ _ _=>id) fun a k=>dt k 0 z (by kernel_rfl) z s (fun _ _ _=>id) (fun w s=>r_fa fa38_6 k z z) fun a k=>dt k 1 z (by kernel_rfl) z s (fun _ _ _=>id) (fun w s=>r_ld1 t136 (r:=[]) (Aj.at (hMd.az 1 0 z z z s) 9 1 z z z) k z z) fun a k=>oE h fun Ay Ai h=>dt k 4 z (by kernel_rfl) z s (fun _ _ _=>id) (fun w s=>r_ixa Ab Ai k ts63 z z z) fun a k=>dt k 5 z (by kernel_rfl) z s (fun _ _ _=>id) (fun w s=>r_lde1 Ab (hMd.az0 0 z z (Enc.rd_lt Ab) s) Ai 0 t13 k z z z z) fun a k=>oE h fun Aa Ah h=>dt k 6 z (by kernel_rfl) z s (fun _ _ _=>id) (fun w s=>r_ixa Ac Ah k ts36 z z z) fun a k=>?_
 refine dt k 7 z (by kernel_rfl) z s (fun _ _ _=>id) (fun w s=>r_lde Ac (hMd.az0 0 z z (Enc.rd_lt Ac) s) Ah ta158 k z z) fun a k=>d_one 8 (by kernel_rfl) z (s_stb (cs':=[I Aa.fId,I Aa.fW,I Aa.fH,I Aa.fD,I Aa.fGram,I Aa.fClass,I Aa.fCount]) sizeOf158 m 0 Af 0 k z z z z z z z z z z z fun Ax a k e m As=>?_)
 have s:=s.trans e (fun y hy=>Or.inl hy)
 refine wpList_nil ⟨s,?_⟩
 refine dN [9] 1 z k (by kernel_rfl) z s (fun _ _ _ _ _=>id) fun a k=>d_done (by kernel_rfl) ((nm_then ?_))
 refine wp_ret ?_
 cases h
 exact finR2 k z (RV.cA k z ta158 (As.at (m.a 0 z) 0 7 z z z) z) (RV.tmp k z) ⟨z,m.ext⟩
theorem c_spec_Volume (fu:Nat) {w0:World} (Ac:Int) (h2:Int) (d3:Int)  {r:Int}
    (h:d_spec_Volume fu Ac h2 d3 = some r) :
    Calls Tryz.prog 186 #[I Ac,I h2,I d3] w0 fun e w=>e = .returned (I r) ∧ Ext [] w0 w:=by
 refine enter (vs:=[_,_,_]) func186 z ntmps186 z fun a k=>?_
 have m:=St.start w0
 unfold d_spec_Volume at h
 refine wr (pN 1 k z fun a k=>nn (c_cut (fun a w=>K 25 [(0,I Ac),(1,I h2),(2,I d3)] a ∧ St [] w0 w [] ∧ d_spec_Volume_J1 fu Ac h2 d3 = some r) ?_ ?_))
 · rintro a Am ⟨k,m,h⟩
   unfold d_spec_Volume_J1 at h
   refine wr (pN 6 k z fun a k=>nn (wp_ret (fS h k m z z)))
 refine wr (pN 1 k z fun a k=>oE h fun Ag Ah h=>cE k m call130 z z z (c_spec_l1In fu _ _ _  Ah) fun Al e a k m=>pN 2 k z fun a k=>bsplit (!Ag) (fun Aa=>?_) (fun Aa=>?_))
 · have h:=bif_t Aa h
   refine rB k 10 z Aa fun k=>pN 9 k z fun a k=>nn (wp_cond_true (k.ev z) (wr (pN 1 k z fun a k=>nn (wp_ret (rt_then ?_)))))
   refine fS h k m z z
 have h:=bif_f Aa h
 refine rB k 10 z Aa fun k=>pN 1 k z fun a k=>oE h fun Ad Ai h=>cE k m call130 z z z (c_spec_l1In fu _ _ _  Ai) fun Ao e a k m=>pN 3 k z fun a k=>bsplit (!Ad) (fun Ab=>?_) (fun Ab=>?_)
 · have h:=bif_t Ab h
   refine rB k 15 z Ab fun k=>pN 4 k z fun a k=>nn (wp_cond_true (k.ev z) (wr (pN 1 k z fun a k=>nn (wp_ret (rt_then ?_)))))
   refine fS h k m z z
 have h:=bif_f Ab h
 refine rB k 15 z Ab fun k=>pN 1 k z fun a k=>oE h fun Aj Ae h=>cE k m call130 z z z (c_spec_l1In fu _ _ _  Ae) fun Ak e a k m=>pN 2 k z fun a k=>nn (cI h k z (fun Af h=>?_) fun Af h=>?_)
 · refine wr (pN 1 k z fun a k=>nn (wp_ret (rt_then ?_)))
   refine fS h k m z z
 refine wp_skip (nm_then ?_)
 exact ⟨k.keep [0,1,2] z,m.sel [] z (by decide),h⟩
theorem c_spec_l7Of (fu:Nat) {w0:World} (r1:Request) (Ak:List Int) (Ao:List Int) {Bf:List Value} {F3:List Nat} (Bn:rd w0 F3 Bf r1) {v6:Value} {F7:List Nat} (Aq:rd w0 F7 [v6] Ak) {Ai:Value} {Bk:List Nat} (Ap:rd w0 Bk [Ai] Ao) {r:L7}
    (h:d_spec_l7Of fu r1 Ak Ao = some r) :
    Calls Tryz.prog 254 #[.agg Bf.toArray,v6,Ai] w0 fun e w=>e = .returned (.agg (Flat.e r).toArray) ∧ Ext [] w0 w:=by
 refine enter (vs:=[_,_,_]) func254 z ntmps254 z fun a k=>?_
 have m:=St.start w0
 obtain ⟨Bc,Cu,Ay,Da,Be,Ct,rfl,rfl,Av,Ar,Aw⟩:=Bn
 unfold d_spec_l7Of at h
 refine wr (s_box (cs:=[I r1.fWay,I r1.fPallet.fW,I r1.fPallet.fD,I r1.fPallet.fH,I r1.fPallet.fGram,I r1.fClasses,Bc,Ay,I r1.fMaster,Be]) m k z z z z z z fun Ag Bd a k m e Bt=>s_alloc (cs:=[I 0,I 0]) m k zeroValue224 z z z z z fun Ah Az a k m e Bx=>nn (wr (sv k z (r_build bt224 k (cs:=#[I 0,I 0]) (ps:=[]) z z (by kernel_rfl)) fun a k=>s_alloc (cs:=[I 0,I 0]) m k zeroValue224 z z z z z fun Ac Dc a k m e Ck=>s_stb (cs':=[I 0,I 0]) sizeOf224 m 0 Ck 0 k z z z z z z z z z z z fun Ci a k e m Ca=>nn (wp_seq (wr (pN 1 k z fun a k=>nn (wp_block ?_)))))))
 refine c_loop (fun n a w=>∃ (Aa:L7) (At:World) (Af:Int),K 46 [(1,v6),(2,Ai),(3,.pointer (some (⟨Ag,0,none⟩:Addr))),(6,.pointer (some (⟨Ah,0,none⟩:Addr))),(7,.pointer (some (⟨Ac,0,none⟩:Addr))),(8,I Af)] a ∧ St [] w0 w [([Ag],Bd),([Ah],Az),([Ac],At)] ∧ bx At Ac [I Aa.fvol,I Aa.fgram] 224 ∧ d_spec_l7Of_L1 fu r1 Ak Ao n Aa Af = some r) ?_ ?_ fu _ _ ?_
 · rintro a w ⟨_,_,_,_,_,_,h⟩
   exact nS h
 · rintro Bh a Cy ⟨Aa,At,Af,k,m,Aj,h⟩
   rw [d_spec_l7Of_L1_s] at h
   unfold d_spec_l7Of_L1_B at h
   refine wp_seq (wr (pN 2 k z fun a k=>sv k z (r_len (α:=Int) Ap k underlying63 z z) fun a k=>pN 1 k z fun a k=>nn (cI h k z (fun Bl h=>?_) fun Bl h=>?_)))
   · refine wp_skip (nm_then ?_)
     refine c_cut (fun a w=>∃ (Am:L7) (Au:World),K 46 [(1,v6),(2,Ai),(3,.pointer (some (⟨Ag,0,none⟩:Addr))),(6,.pointer (some (⟨Ah,0,none⟩:Addr))),(7,.pointer (some (⟨Ac,0,none⟩:Addr))),(8,I Af)] a ∧ St [] w0 w [([Ag],Bd),([Ah],Az),([Ac],Au)] ∧ bx Au Ac [I Am.fvol,I Am.fgram] 224 ∧ d_spec_l7Of_J1 fu (d_spec_l7Of_L1 fu r1 Ak Ao Bh) Af Am = some r) ?_ ?_
     · rintro a Cq ⟨Am,Au,k,m,Bo,h⟩
       unfold d_spec_l7Of_J1 at h
       refine wp_region_lit (pN 3 k z fun a k=>nn ?_)
       exact ⟨Am,Au,w64 (Af + 1),k.keep [1,2,3,6,7,8] z,m.sel [0,1,2] z (by decide),Bo,h⟩
     refine wp_block (c_cut (fun a w=>∃ (Ab:Item) (As:Nat) (Ax:World),K 46 [(1,v6),(2,Ai),(3,.pointer (some (⟨Ag,0,none⟩:Addr))),(6,.pointer (some (⟨Ah,0,none⟩:Addr))),(7,.pointer (some (⟨Ac,0,none⟩:Addr))),(8,I Af),(9,.pointer (some (⟨As,0,none⟩:Addr)))] a ∧ St [] w0 w [([Ag],Bd),([Ah],Az),([Ac],At),([As],Ax)] ∧ bx Ax As [I Ab.fId,I Ab.fW,I Ab.fH,I Ab.fD,I Ab.fGram,I Ab.fClass,I Ab.fCount] 158 ∧ d_spec_l7Of_J2 fu (d_spec_l7Of_L1 fu r1 Ak Ao Bh) Aa Af Ab = some r) ?_ ?_)
     · rintro a Dd ⟨Ab,As,Ax,k,m,Al,h⟩
       unfold d_spec_l7Of_J2 at h
       refine wp_seq (d_go ([Ac]) mixo m z fun Bq hMd=>?_)
       have m:=hMd
       have s:=Ext.refl (([Ac]):List Nat) Bq
       refine dt k 0 z (by kernel_rfl) z s (fun _ _ _=>id) (fun w s=>r_fa fa224_0 k z z) fun a k=>dt k 2 z (by kernel_rfl) z s (fun _ _ _=>id) (fun w s=>r_fa fa158_1 k z z) fun a k=>dt k 3 z (by kernel_rfl) z s (fun _ _ _=>id) (fun w s=>r_ld1 t13 (r:=[]) (Al.at (hMd.az 3 2 z z z s) 1 1 z z z) k z z) fun a k=>dt k 4 z (by kernel_rfl) z s (fun _ _ _=>id) (fun w s=>r_fa fa158_2 k z z) fun a k=>dt k 5 z (by kernel_rfl) z s (fun _ _ _=>id) (fun w s=>r_ld1 t13 (r:=[]) (Al.at (hMd.az 3 2 z z z s) 2 1 z z z) k z z) fun a k=>dt k 6 z (by kernel_rfl) z s (fun _ _ _=>id) (fun w s=>r_fa fa158_3 k z z) fun a k=>?_
       refine dt k 7 z (by kernel_rfl) z s (fun _ _ _=>id) (fun w s=>r_ld1 t13 (r:=[]) (Al.at (hMd.az 3 2 z z z s) 3 1 z z z) k z z) fun a k=>d_two 1 8 (by kernel_rfl) z z ?_ ?_ 
       · refine sv k z (r_ldb t13 m 2 Aj 0 k z z z z z) fun a k=>wpList_nil ⟨s,?_⟩
         refine d_one 8 (by kernel_rfl) z (oE h fun Bb Cg h=>cE k m call186 z z z (c_spec_Volume fu _ _ _  Cg) fun Db e a k m=>?_)
         have s:=s.trans e (by simp)
         refine wpList_nil ⟨s,?_⟩
         refine dN [9] 1 z k (by kernel_rfl) z s (fun _ _ _ _ _=>id) fun a k=>dt k 10 z (by kernel_rfl) z s (fun _ _ _=>id) (fun w s=>r_fa fa224_0 k z z) fun a k=>d_one 11 (by kernel_rfl) z (s_stb (cs':=[I (w64 (Aa.fvol + Bb)),I Aa.fgram]) sizeOf3 m 2 Aj 0 k z z z z z z z z z z z fun De a k e m Bj=>?_)
         have s:=s.trans e (fun y hy=>Or.inl hy)
         refine wpList_nil ⟨s,?_⟩
         refine d_done (by kernel_rfl) ((nm_then ?_))
         refine wp_region_lit (sv k z (r_fa fa224_1 k z z) fun a k=>sv k z (r_ldb t13 m 2 Bj 1 k z z z z z) fun a k=>sv k z (r_fa fa158_4 k z z) fun a k=>sv k z (r_ldb t13 m 3 Al 4 k z z z z z) fun a k=>pN 1 k z fun a k=>sv k z (r_fa fa224_1 k z z) fun a k=>s_stb (cs':=[I (w64 (Aa.fvol + Bb)),I (w64 (Aa.fgram + Ab.fGram))]) sizeOf3 m 2 Bj 1 k z z z z z z z z z z z fun Bm a k e m Cm=>wpList_nil (nm_block (nm_then ?_)))
         exact ⟨(⟨w64 (Aa.fvol + Bb),w64 (Aa.fgram + Ab.fGram)⟩:L7),Bm,k.keep [1,2,3,6,7,8] z,m.sel [0,1,2] z (by decide),Cm,h⟩
       refine oE h fun Ba By h=>cE k m call186 z z z (c_spec_Volume fu _ _ _  By) fun Dg e a k m=>?_
       have s:=s.trans e (by simp)
       refine wpList_nil ⟨s,?_⟩
       refine d_one 1 (by kernel_rfl) z (sv k z (r_ldb t13 m 2 Aj 0 k z z z z z) fun a k=>wpList_nil ⟨s,?_⟩)
       refine dN [9] 1 z k (by kernel_rfl) z s (fun _ _ _ _ _=>id) fun a k=>dt k 10 z (by kernel_rfl) z s (fun _ _ _=>id) (fun w s=>r_fa fa224_0 k z z) fun a k=>d_one 11 (by kernel_rfl) z (s_stb (cs':=[I (w64 (Aa.fvol + Ba)),I Aa.fgram]) sizeOf3 m 2 Aj 0 k z z z z z z z z z z z fun Cv a k e m Bi=>?_)
       have s:=s.trans e (fun y hy=>Or.inl hy)
       refine wpList_nil ⟨s,?_⟩
       refine d_done (by kernel_rfl) ((nm_then ?_))
       refine wp_region_lit (sv k z (r_fa fa224_1 k z z) fun a k=>sv k z (r_ldb t13 m 2 Bi 1 k z z z z z) fun a k=>sv k z (r_fa fa158_4 k z z) fun a k=>sv k z (r_ldb t13 m 3 Al 4 k z z z z z) fun a k=>pN 1 k z fun a k=>sv k z (r_fa fa224_1 k z z) fun a k=>s_stb (cs':=[I (w64 (Aa.fvol + Ba)),I (w64 (Aa.fgram + Ab.fGram))]) sizeOf3 m 2 Bi 1 k z z z z z z z z z z z fun Br a k e m Cj=>wpList_nil (nm_block (nm_then ?_)))
       exact ⟨(⟨w64 (Aa.fvol + Ba),w64 (Aa.fgram + Ab.fGram)⟩:L7),Br,k.keep [1,2,3,6,7,8] z,m.sel [0,1,2] z (by decide),Cj,h⟩
     refine d_go [] mixo m z fun Ce hMd=>?_
     have m:=hMd
     have s:=Ext.refl ([]:List Nat) Ce
     refine dN [1,2,3] 3 z k (by kernel_rfl) z s (fun _ _ _ _ _=>id) fun a k=>dt k 0 z (by kernel_rfl) z s (fun _ _ _=>id) (fun w s=>r_ldA ta38 (Bt.at ((hMd.step s).a 0 z) 0 10 z z z) z k z z) fun a k=>oE h fun Cs Bg h=>dt k 4 z (by kernel_rfl) z s (fun _ _ _=>id) (fun w s=>r_ixa Ap Bg k ts63 z z z) fun a k=>dt k 5 z (by kernel_rfl) z s (fun _ _ _=>id) (fun w s=>r_lde1 Ap ((hMd.step s).a00 (Enc.rd_lt Ap)) Bg 0 t13 k z z z z) fun a k=>d_two 6 10 (by kernel_rfl) z z ?_ ?_ 
     · refine oE h fun Ae Cf h=>cE k m call168 z z z (c_spec_l6Item fu _ _ _ (show rd _ _ [I r1.fWay,I r1.fPallet.fW,I r1.fPallet.fD,I r1.fPallet.fH,I r1.fPallet.fGram,I r1.fClasses,Bc,Ay,I r1.fMaster,Be] (r1:Request) from ⟨_,_,_,_,_,_,z,z,(Enc.rd_agr Av (m.a00 (Enc.rd_lt Av))),(Enc.rd_agr Ar (m.a00 (Enc.rd_lt Ar))),(Enc.rd_agr Aw (m.a00 (Enc.rd_lt Aw)))⟩) (Enc.rd_agr Aq (m.a00 (Enc.rd_lt Aq))) Cf) fun Df e a k m=>?_
       have s:=s.trans e (by simp)
       refine wpList_nil ⟨s,?_⟩
       refine dN [7,8,9] 3 z k (by kernel_rfl) z s (fun _ _ _ _ _=>id) fun a k=>d_one 10 (by kernel_rfl) z (s_allocN (cs:=[I 0,I 0,I 0,I 0,I 0,I 0,I 0]) m k zeroValue158 z z z z z fun Bp Cw a k m e Bz Bw=>?_)
       have Cd:=lo1 (Nat.le_trans s.size Bw)
       have s:=s.trans e (by simp)
       refine wpList_nil ⟨s,?_⟩
       refine d_one 11 (by kernel_rfl) z (s_stb (cs':=[I Ae.1.fId,I Ae.1.fW,I Ae.1.fH,I Ae.1.fD,I Ae.1.fGram,I Ae.1.fClass,I Ae.1.fCount]) sizeOf158 m 0 Bz 0 k z z z z z z z z z z z fun Cl a k e m Bu=>?_)
       have s:=s.trans e (fun y hy=>Or.inr (Cd y hy))
       refine wpList_nil ⟨s,?_⟩
       refine dN [12] 1 z k (by kernel_rfl) z s (fun _ _ _ _ _=>id) fun a k=>d_done (by kernel_rfl) ((nm_then ?_))
       exact ⟨Ae.1,Bp,Cl,k.keep [1,2,3,6,7,8,9] z,m.sel [1,2,3,0] z (by decide),Bu,h⟩
     refine s_allocN (cs:=[I 0,I 0,I 0,I 0,I 0,I 0,I 0]) m k zeroValue158 z z z z z fun Co Cz a k m e Cn Bs=>?_
     have Cb:=lo1 (Nat.le_trans s.size Bs)
     have s:=s.trans e (by simp)
     refine wpList_nil ⟨s,?_⟩
     refine d_one 6 (by kernel_rfl) z (oE h fun Ad Cp h=>cE k m call168 z z z (c_spec_l6Item fu _ _ _ (show rd _ _ [I r1.fWay,I r1.fPallet.fW,I r1.fPallet.fD,I r1.fPallet.fH,I r1.fPallet.fGram,I r1.fClasses,Bc,Ay,I r1.fMaster,Be] (r1:Request) from ⟨_,_,_,_,_,_,z,z,(Enc.rd_agr Av (m.a00 (Enc.rd_lt Av))),(Enc.rd_agr Ar (m.a00 (Enc.rd_lt Ar))),(Enc.rd_agr Aw (m.a00 (Enc.rd_lt Aw)))⟩) (Enc.rd_agr Aq (m.a00 (Enc.rd_lt Aq))) Cp) fun Cr e a k m=>?_)
     have s:=s.trans e (by simp)
     refine wpList_nil ⟨s,?_⟩
     refine dN [7,8,9] 3 z k (by kernel_rfl) z s (fun _ _ _ _ _=>id) fun a k=>d_one 11 (by kernel_rfl) z (s_stb (cs':=[I Ad.1.fId,I Ad.1.fW,I Ad.1.fH,I Ad.1.fD,I Ad.1.fGram,I Ad.1.fClass,I Ad.1.fCount]) sizeOf158 m 0 Cn 0 k z z z z z z z z z z z fun Bv a k e m Ch=>?_)
     have s:=s.trans e (fun y hy=>Or.inr (Cb y hy))
     refine wpList_nil ⟨s,?_⟩
     refine dN [12] 1 z k (by kernel_rfl) z s (fun _ _ _ _ _=>id) fun a k=>d_done (by kernel_rfl) ((nm_then ?_))
     exact ⟨Ad.1,Co,Bv,k.keep [1,2,3,6,7,8,9] z,m.sel [1,2,3,0] z (by decide),Ch,h⟩
   refine wp_exit (ex_then (ex_then (ex_same (nm_then ?_))))
   refine wr (sv k z (r_ldB ta224 m 2 Aj 0 k z z z z z z) fun a k=>s_stb (cs':=[I Aa.fvol,I Aa.fgram]) sizeOf224 m 1 Bx 0 k z z z z z z z z z z z fun Cx a k e m Cc=>nn (wp_ret ?_))
   cases h
   exact finR1 k z (RV.cA k z ta224 (Cc.at (m.a 1 z) 0 2 z z z) z) ⟨z,m.ext⟩
 exact ⟨(⟨0,0⟩:L7),Ci,0,k.keep [1,2,3,6,7,8] z,m.sel [2,1,0] z (by decide),Ca,h⟩
theorem c_spec_Holds (fu:Nat) {w0:World} (r1:Request) (Ao:List Int) (t9:Typ) {Bf:List Value} {F3:List Nat} (Bo:rd w0 F3 Bf r1) {v6:Value} {F7:List Nat} (Ak:rd w0 F7 [v6] Ao) {r:Bool}
    (h:d_spec_Holds fu r1 Ao t9 = some r) :
    Calls Tryz.prog 212 #[.agg Bf.toArray,v6,.agg (Flat.e (t9)).toArray] w0 fun e w=>e = .returned (.bool (r)) ∧ Ext [] w0 w:=by
 refine enter (vs:=[_,_,_]) func212 z ntmps212 z fun a k=>?_
 have m:=St.start w0
 obtain ⟨Aj,Cl,Am,Da,Al,Ct,rfl,rfl,Ab,Aa,Ac⟩:=Bo
 unfold d_spec_Holds at h
 refine wr (s_box (cs:=[I r1.fWay,I r1.fPallet.fW,I r1.fPallet.fD,I r1.fPallet.fH,I r1.fPallet.fGram,I r1.fClasses,Aj,Am,I r1.fMaster,Al]) m k z z z z z z fun Ah Az a k m e Au=>s_box (cs:=[I t9.fId,I t9.fW,I t9.fH,I t9.fD,I t9.fTare,I t9.fGram,I t9.fCost]) m k z z z z z z fun Ag Ax a k m e Aq=>pN 1 k z fun a k=>nn (wp_seq (wr (sv k z (r_ldB ta38 m 1 Au 0 k z z z z z z) fun a k=>oE h fun Cq Bm h=>?_))))
 refine cE k m call74 z z z (c_spec_Class fu _ (show rd _ _ [I r1.fWay,I r1.fPallet.fW,I r1.fPallet.fD,I r1.fPallet.fH,I r1.fPallet.fGram,I r1.fClasses,Aj,Am,I r1.fMaster,Al] (r1:Request) from ⟨_,_,_,_,_,_,z,z,(Enc.rd_agr Ab (m.a00 (Enc.rd_lt Ab))),(Enc.rd_agr Aa (m.a00 (Enc.rd_lt Aa))),(Enc.rd_agr Ac (m.a00 (Enc.rd_lt Ac)))⟩) Bm) fun De e a k m=>pN 1 k z fun a k=>nn (cI h k z (fun Ch h=>?_) fun Ch h=>?_)
 · refine wr (pN 1 k z fun a k=>nn (wp_ret (rt_then ?_)))
   refine fS h k m z z
 refine wp_skip (nm_then ?_)
 refine wr (sv k z (r_ldB ta38 m 1 Au 0 k z z z z z z) fun a k=>oE h fun Aw Cf h=>s_call k call90 z z z z z (c_spec_l6Units fu _ (show rd _ _ [I r1.fWay,I r1.fPallet.fW,I r1.fPallet.fD,I r1.fPallet.fH,I r1.fPallet.fGram,I r1.fClasses,Aj,Am,I r1.fMaster,Al] (r1:Request) from ⟨_,_,_,_,_,_,z,z,(Enc.rd_agr Ab (m.a00 (Enc.rd_lt Ab))),(Enc.rd_agr Aa (m.a00 (Enc.rd_lt Aa))),(Enc.rd_agr Ac (m.a00 (Enc.rd_lt Ac)))⟩) Cf) fun Cx Bb hR=>?_)
 obtain ⟨Ay,At,rfl,e,As,Bv⟩:=hR
 refine ⟨_,z,fun a k=>?_⟩
 have m:=m.new e At (fun b hb=>⟨Bv b hb,Enc.rd_lt (Enc.ow_rd As) b hb⟩) (Enc.ow_nd As)
 refine pN 1 k z fun a k=>nn (c_cut (fun a w=>K 62 [(1,v6),(3,.pointer (some (⟨Ah,0,none⟩:Addr))),(5,.pointer (some (⟨Ag,0,none⟩:Addr))),(7,Ay)] a ∧ St [] w0 w [([Ah],Az),([Ag],Ax),(At,Bb)] ∧ d_spec_Holds_J1 fu r1 Ao t9 Aw = some r) ?_ ?_)
 · rintro a Cy ⟨k,m,h⟩
   unfold d_spec_Holds_J1 at h
   refine wr (sv k z (r_ldB ta38 m 0 Au 0 k z z z z z z) fun a k=>pN 2 k z fun a k=>oE h fun Bd Ck h=>cE k m call254 z z z (c_spec_l7Of fu _ _ _ (show rd _ _ [I r1.fWay,I r1.fPallet.fW,I r1.fPallet.fD,I r1.fPallet.fH,I r1.fPallet.fGram,I r1.fClasses,Aj,Am,I r1.fMaster,Al] (r1:Request) from ⟨_,_,_,_,_,_,z,z,(Enc.rd_agr Ab (m.a00 (Enc.rd_lt Ab))),(Enc.rd_agr Aa (m.a00 (Enc.rd_lt Aa))),(Enc.rd_agr Ac (m.a00 (Enc.rd_lt Ac)))⟩) (Enc.rd_agr (Enc.ow_rd As) (m.a 2 z)) (Enc.rd_agr Ak (m.a00 (Enc.rd_lt Ak))) Ck) fun Cs e a k m=>s_alloc (cs:=[I 0,I 0]) m k zeroValue224 z z z z z fun Dc Cm a k m e Bu=>?_)
   refine s_stb (cs':=[I Bd.fvol,I Bd.fgram]) sizeOf224 m 0 Bu 0 k z z z z z z z z z z z fun Dd a k e m Bh=>nn (wp_seq (d_go [] mixo m z fun Ca hMd=>?_))
   have m:=hMd
   have s:=Ext.refl ([]:List Nat) Ca
   refine dt k 0 z (by kernel_rfl) z s (fun _ _ _=>id) (fun w s=>r_fa fa224_0 k z z) fun a k=>dt k 1 z (by kernel_rfl) z s (fun _ _ _=>id) (fun w s=>r_ld1 t13 (r:=[]) (Bh.at ((hMd.step s).a 0 z) 0 1 z z z) k z z) fun a k=>dt k 2 z (by kernel_rfl) z s (fun _ _ _=>id) (fun w s=>r_fa fa79_1 k z z) fun a k=>dt k 3 z (by kernel_rfl) z s (fun _ _ _=>id) (fun w s=>r_ld1 t13 (r:=[]) (Aq.at ((hMd.step s).a 2 z) 1 1 z z z) k z z) fun a k=>dt k 4 z (by kernel_rfl) z s (fun _ _ _=>id) (fun w s=>r_fa fa79_2 k z z) fun a k=>dt k 5 z (by kernel_rfl) z s (fun _ _ _=>id) (fun w s=>r_ld1 t13 (r:=[]) (Aq.at ((hMd.step s).a 2 z) 2 1 z z z) k z z) fun a k=>?_
   refine dt k 6 z (by kernel_rfl) z s (fun _ _ _=>id) (fun w s=>r_fa fa79_3 k z z) fun a k=>dt k 7 z (by kernel_rfl) z s (fun _ _ _=>id) (fun w s=>r_ld1 t13 (r:=[]) (Aq.at ((hMd.step s).a 2 z) 3 1 z z z) k z z) fun a k=>d_one 8 (by kernel_rfl) z (oE h fun Bw Bz h=>cE k m call186 z z z (c_spec_Volume fu _ _ _  Bz) fun Cn e a k m=>?_)
   have s:=s.trans e (by simp)
   refine wpList_nil ⟨s,?_⟩
   refine dN [9,10] 2 z k (by kernel_rfl) z s (fun _ _ _ _ _=>id) fun a k=>bsplit (decide (Bd.fvol ≤ Bw)) (fun Ar=>?_) (fun Ar=>?_)
   · have h:=bif_t Ar h
     refine rB k 55 z Ar fun k=>dt k 11 z (by kernel_rfl) z s (fun _ _ _=>id) (fun w s=>r_fa fa224_1 k z z) fun a k=>dt k 12 z (by kernel_rfl) z s (fun _ _ _=>id) (fun w s=>r_ld1 t13 (r:=[]) (Bh.at ((hMd.step s).a 0 z) 1 1 z z z) k z z) fun a k=>dt k 13 z (by kernel_rfl) z s (fun _ _ _=>id) (fun w s=>r_fa fa79_5 k z z) fun a k=>dt k 14 z (by kernel_rfl) z s (fun _ _ _=>id) (fun w s=>r_ld1 t13 (r:=[]) (Aq.at ((hMd.step s).a 2 z) 5 1 z z z) k z z) fun a k=>dN [15,16,17] 3 z k (by kernel_rfl) z s (fun _ _ _ _ _=>id) fun a k=>d_done (by kernel_rfl) ((nm_then ?_))
     refine wp_ret (fS h k m z z)
   have h:=bif_f Ar h
   refine rB k 55 z Ar fun k=>dN [11,12,13,14,15,16,17] 7 z k (by kernel_rfl) z s (fun _ _ _ _ _=>id) fun a k=>d_done (by kernel_rfl) ((nm_then ?_))
   refine wp_ret (fS h k m z z)
 refine wr (pN 1 k z fun a k=>nn (wp_block (c_loop (fun n a w=>∃ (Ai:Int),K 62 [(1,v6),(3,.pointer (some (⟨Ah,0,none⟩:Addr))),(5,.pointer (some (⟨Ag,0,none⟩:Addr))),(7,Ay),(8,I Ai)] a ∧ St [] w0 w [([Ah],Az),([Ag],Ax),(At,Bb)] ∧ d_spec_Holds_L1 fu r1 Ao t9 Aw n Ai = some r) ?_ ?_ fu _ _ ?_)))
 · rintro a w ⟨_,_,_,h⟩
   exact nS h
 · rintro Be a Dg ⟨Ai,k,m,h⟩
   rw [d_spec_Holds_L1_s] at h
   unfold d_spec_Holds_L1_B at h
   refine wp_seq (wr (pN 2 k z fun a k=>sv k z (r_len (α:=Int) Ak k underlying63 z z) fun a k=>pN 1 k z fun a k=>nn (cI h k z (fun Bl h=>?_) fun Bl h=>?_)))
   · refine wp_skip (nm_then ?_)
     refine c_cut (fun a w=>K 62 [(1,v6),(3,.pointer (some (⟨Ah,0,none⟩:Addr))),(5,.pointer (some (⟨Ag,0,none⟩:Addr))),(7,Ay),(8,I Ai)] a ∧ St [] w0 w [([Ah],Az),([Ag],Ax),(At,Bb)] ∧ d_spec_Holds_J2 fu (d_spec_Holds_L1 fu r1 Ao t9 Aw Be) Ai = some r) ?_ ?_
     · rintro a Cv ⟨k,m,h⟩
       unfold d_spec_Holds_J2 at h
       refine wp_region_lit (pN 3 k z fun a k=>nn ?_)
       exact ⟨w64 (Ai + 1),k.keep [1,3,5,7,8] z,m.sel [0,1,2] z (by decide),h⟩
     refine wp_block (c_cut (fun a w=>∃ (Ad:Item) (Ba:Nat) (Bc:World) (Av:Bool),K 62 [(1,v6),(3,.pointer (some (⟨Ah,0,none⟩:Addr))),(5,.pointer (some (⟨Ag,0,none⟩:Addr))),(7,Ay),(8,I Ai),(9,.pointer (some (⟨Ba,0,none⟩:Addr))),(10,.bool (Av))] a ∧ St [] w0 w [([Ah],Az),([Ag],Ax),(At,Bb),([Ba],Bc)] ∧ bx Bc Ba [I Ad.fId,I Ad.fW,I Ad.fH,I Ad.fD,I Ad.fGram,I Ad.fClass,I Ad.fCount] 158 ∧ d_spec_Holds_J3 fu (d_spec_Holds_L1 fu r1 Ao t9 Aw Be) t9 Ai Ad Av = some r) ?_ ?_)
     · rintro a Db ⟨Ad,Ba,Bc,Av,k,m,Ci,h⟩
       unfold d_spec_Holds_J3 at h
       refine wr (pN 3 k z fun a k=>bsplit (!Av) (fun Ap=>?_) (fun Ap=>?_))
       · have h:=bif_t Ap h
         refine rB k 35 z Ap fun k=>pN 5 k z fun a k=>nn (wp_cond_true (k.ev z) (wr (pN 1 k z fun a k=>nn (wp_ret (rt_block (rt_then (rt_then (rt_block (rt_then ?_)))))))))
         refine fS h k m z z
       have h:=bif_f Ap h
       refine rB k 35 z Ap fun k=>sv k z (r_ldB ta158 m 3 Ci 0 k z z z z z z) fun a k=>sv k z (r_ldB ta79 m 1 Aq 0 k z z z z z z) fun a k=>oE h fun Cp Cc h=>cE k m call190 z z z (c_spec_Fits fu (Ad:Item) (t9:Typ)  Cc) fun Cw e a k m=>pN 2 k z fun a k=>nn (cI h k z (fun Bp h=>?_) fun Bp h=>?_)
       · refine wr (pN 1 k z fun a k=>nn (wp_ret (rt_block (rt_then (rt_then (rt_block (rt_then ?_)))))))
         refine fS h k m z z
       refine wp_skip (nm_block (nm_then ?_))
       exact ⟨k.keep [1,3,5,7,8] z,m.sel [0,1,2] z (by decide),h⟩
     refine d_go [] mixo m z fun Br hMd=>?_
     have m:=hMd
     have s:=Ext.refl ([]:List Nat) Br
     refine dN [1,2,3] 3 z k (by kernel_rfl) z s (fun _ _ _ _ _=>id) fun a k=>dt k 0 z (by kernel_rfl) z s (fun _ _ _=>id) (fun w s=>r_ldA ta38 (Au.at ((hMd.step s).a 0 z) 0 10 z z z) z k z z) fun a k=>oE h fun Co Bg h=>dt k 4 z (by kernel_rfl) z s (fun _ _ _=>id) (fun w s=>r_ixa Ak Bg k ts63 z z z) fun a k=>dt k 5 z (by kernel_rfl) z s (fun _ _ _=>id) (fun w s=>r_lde1 Ak ((hMd.step s).a00 (Enc.rd_lt Ak)) Bg 0 t13 k z z z z) fun a k=>d_two 6 10 (by kernel_rfl) z z ?_ ?_ 
     · refine oE h fun Ae Ce h=>cE k m call168 z z z (c_spec_l6Item fu _ _ _ (show rd _ _ [I r1.fWay,I r1.fPallet.fW,I r1.fPallet.fD,I r1.fPallet.fH,I r1.fPallet.fGram,I r1.fClasses,Aj,Am,I r1.fMaster,Al] (r1:Request) from ⟨_,_,_,_,_,_,z,z,(Enc.rd_agr Ab (m.a00 (Enc.rd_lt Ab))),(Enc.rd_agr Aa (m.a00 (Enc.rd_lt Aa))),(Enc.rd_agr Ac (m.a00 (Enc.rd_lt Ac)))⟩) (Enc.rd_agr (Enc.ow_rd As) (m.a 2 z)) Ce) fun Df e a k m=>?_
       have s:=s.trans e (by simp)
       refine wpList_nil ⟨s,?_⟩
       refine dN [7,8,9] 3 z k (by kernel_rfl) z s (fun _ _ _ _ _=>id) fun a k=>d_one 10 (by kernel_rfl) z (s_allocN (cs:=[I 0,I 0,I 0,I 0,I 0,I 0,I 0]) m k zeroValue158 z z z z z fun Bj Cu a k m e Bx Cg=>?_)
       have Bn:=lo1 (Nat.le_trans s.size Cg)
       have s:=s.trans e (by simp)
       refine wpList_nil ⟨s,?_⟩
       refine d_one 11 (by kernel_rfl) z (s_stb (cs':=[I Ae.1.fId,I Ae.1.fW,I Ae.1.fH,I Ae.1.fD,I Ae.1.fGram,I Ae.1.fClass,I Ae.1.fCount]) sizeOf158 m 0 Bx 0 k z z z z z z z z z z z fun Bi a k e m Cd=>?_)
       have s:=s.trans e (fun y hy=>Or.inr (Bn y hy))
       refine wpList_nil ⟨s,?_⟩
       refine dN [12] 1 z k (by kernel_rfl) z s (fun _ _ _ _ _=>id) fun a k=>d_done (by kernel_rfl) ((nm_then ?_))
       exact ⟨Ae.1,Bj,Bi,Ae.2,k.keep [1,3,5,7,8,9,10] z,m.sel [1,2,3,0] z (by decide),Cd,h⟩
     refine s_allocN (cs:=[I 0,I 0,I 0,I 0,I 0,I 0,I 0]) m k zeroValue158 z z z z z fun Cj Cz a k m e Bs By=>?_
     have Bq:=lo1 (Nat.le_trans s.size By)
     have s:=s.trans e (by simp)
     refine wpList_nil ⟨s,?_⟩
     refine d_one 6 (by kernel_rfl) z (oE h fun Af Bt h=>cE k m call168 z z z (c_spec_l6Item fu _ _ _ (show rd _ _ [I r1.fWay,I r1.fPallet.fW,I r1.fPallet.fD,I r1.fPallet.fH,I r1.fPallet.fGram,I r1.fClasses,Aj,Am,I r1.fMaster,Al] (r1:Request) from ⟨_,_,_,_,_,_,z,z,(Enc.rd_agr Ab (m.a00 (Enc.rd_lt Ab))),(Enc.rd_agr Aa (m.a00 (Enc.rd_lt Aa))),(Enc.rd_agr Ac (m.a00 (Enc.rd_lt Ac)))⟩) (Enc.rd_agr (Enc.ow_rd As) (m.a 3 z)) Bt) fun Cr e a k m=>?_)
     have s:=s.trans e (by simp)
     refine wpList_nil ⟨s,?_⟩
     refine dN [7,8,9] 3 z k (by kernel_rfl) z s (fun _ _ _ _ _=>id) fun a k=>d_one 11 (by kernel_rfl) z (s_stb (cs':=[I Af.1.fId,I Af.1.fW,I Af.1.fH,I Af.1.fD,I Af.1.fGram,I Af.1.fClass,I Af.1.fCount]) sizeOf158 m 0 Bs 0 k z z z z z z z z z z z fun Bk a k e m Cb=>?_)
     have s:=s.trans e (fun y hy=>Or.inr (Bq y hy))
     refine wpList_nil ⟨s,?_⟩
     refine dN [12] 1 z k (by kernel_rfl) z s (fun _ _ _ _ _=>id) fun a k=>d_done (by kernel_rfl) ((nm_then ?_))
     exact ⟨Af.1,Cj,Bk,Af.2,k.keep [1,3,5,7,8,9,10] z,m.sel [1,2,3,0] z (by decide),Cb,h⟩
   refine wp_exit (ex_then (ex_then (ex_same (nm_then ?_))))
   exact ⟨k.keep [1,3,5,7] z,m.sel [0,1,2] z (by decide),h⟩
 exact ⟨0,k.keep [1,3,5,7,8] z,m.sel [2,1,0] z (by decide),h⟩
theorem c_spec_l15Holds (fu:Nat) {w0:World} (r1:Request) (x5:Plan) {Av:List Value} {F3:List Nat} (Bj:rd w0 F3 Av r1) {Aw:List Value} {F7:List Nat} (Bg:rd w0 F7 Aw x5) {r:Bool}
    (h:d_spec_l15Holds fu r1 x5 = some r) :
    Calls Tryz.prog 107 #[.agg Av.toArray,.agg Aw.toArray] w0 fun e w=>e = .returned (.bool (r)) ∧ Ext [] w0 w:=by
 refine enter (vs:=[_,_]) func107 z ntmps107 z fun a k=>?_
 have m:=St.start w0
 obtain ⟨v9,Cs,Am,Cy,Ao,Ch,rfl,rfl,Aj,Ah,Ag⟩:=Bj
 obtain ⟨Bi,Cn,Cd,Cu,rfl,rfl,Ae,Cm⟩:=Bg
 unfold d_spec_l15Holds at h
 refine wr (s_box (cs:=[I r1.fWay,I r1.fPallet.fW,I r1.fPallet.fD,I r1.fPallet.fH,I r1.fPallet.fGram,I r1.fClasses,v9,Am,I r1.fMaster,Ao]) m k z z z z z z fun Ai As a k m e Au=>s_box (cs:=[Bi,Cd]) m k z z z z z z fun Af Aq a k m e Ar=>pN 1 k z fun a k=>nn (wp_seq (wr (pN 1 k z fun a k=>nn (wp_block (c_loop (fun n a w=>∃ (Ad:Int),K 40 [(2,.pointer (some (⟨Ai,0,none⟩:Addr))),(3,.pointer (some (⟨Af,0,none⟩:Addr))),(5,I Ad)] a ∧ St [] w0 w [([Ai],As),([Af],Aq)] ∧ d_spec_l15Holds_L1 fu r1 x5 n Ad = some r) ?_ ?_ fu _ _ ?_))))))
 · rintro a w ⟨_,_,_,h⟩
   exact nS h
 · rintro Az a Cv ⟨Ad,k,m,h⟩
   rw [d_spec_l15Holds_L1_s] at h
   unfold d_spec_l15Holds_L1_B at h
   refine wp_seq (wr (pN 1 k z fun a k=>sv k z (r_fa fa58_0 k z z) fun a k=>sv k z (r_ldb t155 m 1 Ar 0 k z z z z z) fun a k=>sv k z (r_len (α:=Carton) Ae k underlying55 z z) fun a k=>pN 1 k z fun a k=>nn (cI h k z (fun Bt h=>?_) fun Bt h=>?_)))
   · refine wp_skip (nm_then ?_)
     refine c_cut (fun a w=>K 40 [(2,.pointer (some (⟨Ai,0,none⟩:Addr))),(3,.pointer (some (⟨Af,0,none⟩:Addr))),(5,I Ad)] a ∧ St [] w0 w [([Ai],As),([Af],Aq)] ∧ d_spec_l15Holds_J1 fu (d_spec_l15Holds_L1 fu r1 x5 Az) Ad = some r) ?_ ?_
     · rintro a Cr ⟨k,m,h⟩
       unfold d_spec_l15Holds_J1 at h
       refine wp_region_lit (pN 3 k z fun a k=>nn ?_)
       exact ⟨w64 (Ad + 1),k.keep [2,3,5] z,m.sel [0,1] z (by decide),h⟩
     refine wp_block (c_cut (fun a w=>∃ (Aa:Typ) (Ap:Nat) (At:World) (Al:Bool),K 40 [(2,.pointer (some (⟨Ai,0,none⟩:Addr))),(3,.pointer (some (⟨Af,0,none⟩:Addr))),(5,I Ad),(6,.pointer (some (⟨Ap,0,none⟩:Addr))),(7,.bool (Al))] a ∧ St [] w0 w [([Ai],As),([Af],Aq),([Ap],At)] ∧ bx At Ap [I Aa.fId,I Aa.fW,I Aa.fH,I Aa.fD,I Aa.fTare,I Aa.fGram,I Aa.fCost] 79 ∧ d_spec_l15Holds_J2 fu (d_spec_l15Holds_L1 fu r1 x5 Az) r1 x5 Ad Aa Al = some r) ?_ ?_)
     · rintro a Cj ⟨Aa,Ap,At,Al,k,m,Bo,h⟩
       unfold d_spec_l15Holds_J2 at h
       refine wp_seq (d_go [] mixo m z fun Bl hMd=>?_)
       have m:=hMd
       have s:=Ext.refl ([]:List Nat) Bl
       refine dN [0,1,2] 3 z k (by kernel_rfl) z s (fun _ _ _ _ _=>id) fun a k=>bsplit (!Al) (fun Ak=>?_) (fun Ak=>?_)
       · have h:=bif_t Ak h
         refine rB k 28 z Ak fun k=>dN [3,4,5,6,7,8,9,10,11,12,13] 11 z k (by kernel_rfl) z s (fun _ _ _ _ _=>id) fun a k=>d_done (by kernel_rfl) ((nm_then ?_))
         refine wp_cond_true (k.ev z) (wr (pN 1 k z fun a k=>nn (wp_ret (rt_block (rt_then (rt_then (rt_block (rt_then ?_))))))))
         refine fS h k m z z
       have h:=bif_f Ak h
       refine rB k 28 z Ak fun k=>dN [6] 1 z k (by kernel_rfl) z s (fun _ _ _ _ _=>id) fun a k=>dt k 3 z (by kernel_rfl) z s (fun _ _ _=>id) (fun w s=>r_ldA ta38 (Au.at ((hMd.step s).a 0 z) 0 10 z z z) z k z z) fun a k=>dt k 4 z (by kernel_rfl) z s (fun _ _ _=>id) (fun w s=>r_fa fa58_0 k z z) fun a k=>dt k 5 z (by kernel_rfl) z s (fun _ _ _=>id) (fun w s=>r_ld1 t155 (r:=[]) (Ar.at ((hMd.step s).a 1 z) 0 1 z z z) k z z) fun a k=>oE h fun Dd Ay h=>dt k 7 z (by kernel_rfl) z s (fun _ _ _=>id) (fun w s=>r_ixa Ae Ay k ts55 z z z) fun a k=>dt k 8 z (by kernel_rfl) z s (fun _ _ _=>id) (fun w s=>r_fa fa83_2 k z z) fun a k=>?_
       obtain ⟨Dc,Cf,Cg,Cc,Bz,Bu⟩:=rd_get Ae (ix_some Ay).2.2
       obtain ⟨Ci,_,rfl,rfl,Ba⟩:=Cc
       refine dt k 9 z (by kernel_rfl) z s (fun _ _ _=>id) (fun w s=>r_ld1 t163 ((Bz.agr ((hMd.step s).a00 (Enc.rd_lt Ae)) Bu).fld 2 1 (Nat.le_of_ble_eq_true z)) k z z) fun a k=>dt k 10 z (by kernel_rfl) z s (fun _ _ _=>id) (fun w s=>r_ldA ta79 (Bo.at ((hMd.step s).a 2 z) 0 7 z z z) z k z z) fun a k=>d_one 11 (by kernel_rfl) z (oE h fun Co Cb h=>?_)
       refine cE k m call212 z z z (c_spec_Holds fu _ _ (Aa:Typ) (show rd _ _ [I r1.fWay,I r1.fPallet.fW,I r1.fPallet.fD,I r1.fPallet.fH,I r1.fPallet.fGram,I r1.fClasses,v9,Am,I r1.fMaster,Ao] (r1:Request) from ⟨_,_,_,_,_,_,z,z,(Enc.rd_agr Aj (m.a00 (Enc.rd_lt Aj))),(Enc.rd_agr Ah (m.a00 (Enc.rd_lt Ah))),(Enc.rd_agr Ag (m.a00 (Enc.rd_lt Ag)))⟩) (Enc.rd_agr Ba (m.a00 (Enc.rd_lt Ba))) Cb) fun De e a k m=>?_
       have s:=s.trans e (by simp)
       refine wpList_nil ⟨s,?_⟩
       refine dN [12,13] 2 z k (by kernel_rfl) z s (fun _ _ _ _ _=>id) fun a k=>d_done (by kernel_rfl) ((nm_then ?_))
       refine cI h k z (fun Bq h=>?_) fun Bq h=>?_
       · refine wr (pN 1 k z fun a k=>nn (wp_ret (rt_block (rt_then (rt_then (rt_block (rt_then ?_)))))))
         refine fS h k m z z
       refine wp_skip (nm_block (nm_then ?_))
       exact ⟨k.keep [2,3,5] z,m.sel [0,1] z (by decide),h⟩
     refine d_go [] mixo m z fun Bb hMd=>?_
     have m:=hMd
     have s:=Ext.refl ([]:List Nat) Bb
     refine dN [3] 1 z k (by kernel_rfl) z s (fun _ _ _ _ _=>id) fun a k=>dt k 0 z (by kernel_rfl) z s (fun _ _ _=>id) (fun w s=>r_ldA ta38 (Au.at ((hMd.step s).a 0 z) 0 10 z z z) z k z z) fun a k=>dt k 1 z (by kernel_rfl) z s (fun _ _ _=>id) (fun w s=>r_fa fa58_0 k z z) fun a k=>dt k 2 z (by kernel_rfl) z s (fun _ _ _=>id) (fun w s=>r_ld1 t155 (r:=[]) (Ar.at ((hMd.step s).a 1 z) 0 1 z z z) k z z) fun a k=>oE h fun Cq Ax h=>dt k 4 z (by kernel_rfl) z s (fun _ _ _=>id) (fun w s=>r_ixa Ae Ax k ts55 z z z) fun a k=>dt k 5 z (by kernel_rfl) z s (fun _ _ _=>id) (fun w s=>r_fa fa83_0 k z z) fun a k=>?_
     obtain ⟨Cl,Cp,Db,Bf,Ce,Bn⟩:=rd_get Ae (ix_some Ax).2.2
     obtain ⟨Da,_,rfl,rfl,Ct⟩:=Bf
     refine dt k 6 z (by kernel_rfl) z s (fun _ _ _=>id) (fun w s=>r_ld1 t13 ((Ce.agr ((hMd.step s).a00 (Enc.rd_lt Ae)) Bn).fld 0 1 (Nat.le_of_ble_eq_true z)) k z z) fun a k=>d_two 7 11 (by kernel_rfl) z z ?_ ?_ 
     · refine oE h fun Ac Bh h=>cE k m call184 z z z (c_spec_TypeById fu _ _ (show rd _ _ [I r1.fWay,I r1.fPallet.fW,I r1.fPallet.fD,I r1.fPallet.fH,I r1.fPallet.fGram,I r1.fClasses,v9,Am,I r1.fMaster,Ao] (r1:Request) from ⟨_,_,_,_,_,_,z,z,(Enc.rd_agr Aj (m.a00 (Enc.rd_lt Aj))),(Enc.rd_agr Ah (m.a00 (Enc.rd_lt Ah))),(Enc.rd_agr Ag (m.a00 (Enc.rd_lt Ag)))⟩) Bh) fun Cx e a k m=>?_
       have s:=s.trans e (by simp)
       refine wpList_nil ⟨s,?_⟩
       refine dN [8,9,10] 3 z k (by kernel_rfl) z s (fun _ _ _ _ _=>id) fun a k=>d_one 11 (by kernel_rfl) z (s_allocN (cs:=[I 0,I 0,I 0,I 0,I 0,I 0,I 0]) m k zeroValue79 z z z z z fun Bw Cw a k m e Bk By=>?_)
       have Bm:=lo1 (Nat.le_trans s.size By)
       have s:=s.trans e (by simp)
       refine wpList_nil ⟨s,?_⟩
       refine d_one 12 (by kernel_rfl) z (s_stb (cs':=[I Ac.1.fId,I Ac.1.fW,I Ac.1.fH,I Ac.1.fD,I Ac.1.fTare,I Ac.1.fGram,I Ac.1.fCost]) sizeOf79 m 0 Bk 0 k z z z z z z z z z z z fun Ca a k e m Bv=>?_)
       have s:=s.trans e (fun y hy=>Or.inr (Bm y hy))
       refine wpList_nil ⟨s,?_⟩
       refine dN [13] 1 z k (by kernel_rfl) z s (fun _ _ _ _ _=>id) fun a k=>d_done (by kernel_rfl) ((nm_then ?_))
       exact ⟨Ac.1,Bw,Ca,Ac.2,k.keep [2,3,5,6,7] z,m.sel [1,2,0] z (by decide),Bv,h⟩
     refine s_allocN (cs:=[I 0,I 0,I 0,I 0,I 0,I 0,I 0]) m k zeroValue79 z z z z z fun Bp Cz a k m e Bd Be=>?_
     have Bx:=lo1 (Nat.le_trans s.size Be)
     have s:=s.trans e (by simp)
     refine wpList_nil ⟨s,?_⟩
     refine d_one 7 (by kernel_rfl) z (oE h fun Ab Bs h=>cE k m call184 z z z (c_spec_TypeById fu _ _ (show rd _ _ [I r1.fWay,I r1.fPallet.fW,I r1.fPallet.fD,I r1.fPallet.fH,I r1.fPallet.fGram,I r1.fClasses,v9,Am,I r1.fMaster,Ao] (r1:Request) from ⟨_,_,_,_,_,_,z,z,(Enc.rd_agr Aj (m.a00 (Enc.rd_lt Aj))),(Enc.rd_agr Ah (m.a00 (Enc.rd_lt Ah))),(Enc.rd_agr Ag (m.a00 (Enc.rd_lt Ag)))⟩) Bs) fun Ck e a k m=>?_)
     have s:=s.trans e (by simp)
     refine wpList_nil ⟨s,?_⟩
     refine dN [8,9,10] 3 z k (by kernel_rfl) z s (fun _ _ _ _ _=>id) fun a k=>d_one 12 (by kernel_rfl) z (s_stb (cs':=[I Ab.1.fId,I Ab.1.fW,I Ab.1.fH,I Ab.1.fD,I Ab.1.fTare,I Ab.1.fGram,I Ab.1.fCost]) sizeOf79 m 0 Bd 0 k z z z z z z z z z z z fun Br a k e m Bc=>?_)
     have s:=s.trans e (fun y hy=>Or.inr (Bx y hy))
     refine wpList_nil ⟨s,?_⟩
     refine dN [13] 1 z k (by kernel_rfl) z s (fun _ _ _ _ _=>id) fun a k=>d_done (by kernel_rfl) ((nm_then ?_))
     exact ⟨Ab.1,Bp,Br,Ab.2,k.keep [2,3,5,6,7] z,m.sel [1,2,0] z (by decide),Bc,h⟩
   refine wp_exit (ex_then (ex_then (ex_same (nm_then ?_))))
   refine wr (pN 1 k z fun a k=>nn (wp_ret (fS h k m z z)))
 exact ⟨0,k.keep [2,3,5] z,m.sel [1,0] z (by decide),h⟩
theorem c_spec_Present (fu:Nat) {w0:World} (r1:Request) {Aw:List Value} {F3:List Nat} (Bk:rd w0 F3 Aw r1) {r:(List Int)}
    (h:d_spec_Present fu r1 = some r) :
    Calls Tryz.prog 70 #[.agg Aw.toArray] w0 fun e w=>∃ (v0:Value) (G0:List Nat),e = .returned (v0) ∧ Ext [] w0 w ∧ ow w G0 [v0] r ∧ (∀ b ∈ G0,w0.heap.size ≤ b):=by
 refine enter (vs:=[_]) func70 z ntmps70 z fun a k=>?_
 have m:=St.start w0
 obtain ⟨v5,F6,v7,F8,v9,Bw,rfl,rfl,Av,Ay,Ae⟩:=Bk
 unfold d_spec_Present at h
 refine wr (s_box (cs:=[I r1.fWay,I r1.fPallet.fW,I r1.fPallet.fD,I r1.fPallet.fH,I r1.fPallet.fGram,I r1.fClasses,v5,v7,I r1.fMaster,v9]) m k z z z z z z fun Ab Al a k m e Au=>pN 1 k z fun a k=>nn (wr (s_bs (cs:=[]) (ps:=[]) te63 m k z z z z z z z (by decide) z (by exact (List.forall_mem_nil _)) fun As Ba Bx a k m e Bb=>?_)))
 have Az:=ow_bx Bb ([]:List Int) z z z
 refine pN 1 k z fun a k=>nn (wp_seq (wr (sv k z (r_ldB ta38 m 1 Au 0 k z z z z z z) fun a k=>oE h fun Cc Bq h=>cE k m call74 z z z (c_spec_Class fu _ (show rd _ _ [I r1.fWay,I r1.fPallet.fW,I r1.fPallet.fD,I r1.fPallet.fH,I r1.fPallet.fGram,I r1.fClasses,v5,v7,I r1.fMaster,v9] (r1:Request) from ⟨_,_,_,_,_,_,z,z,(Enc.rd_agr Av (m.a00 (Enc.rd_lt Av))),(Enc.rd_agr Ay (m.a00 (Enc.rd_lt Ay))),(Enc.rd_agr Ae (m.a00 (Enc.rd_lt Ae)))⟩) Bq) fun Ca e a k m=>pN 1 k z fun a k=>nn (cI h k z (fun Bm h=>?_) fun Bm h=>?_))))
 · refine wr (pN 2 k z fun a k=>nn (wp_ret (rt_then ?_)))
   cases h
   exact finR1 k z (RV.tmp k z) ⟨_,[As],z,m.ext,(Enc.ow_agr Az (m.a 0 z)),(m.fresh 0 z)⟩
 refine wp_skip (nm_then ?_)
 refine wp_seq (wr (pN 1 k z fun a k=>nn (wp_block (c_loop (fun n a w=>∃ (Af:List Int) (Ad:Value) (Ac:List Nat) (Ah:World) (Aa:Int),K 40 [(1,.pointer (some (⟨Ab,0,none⟩:Addr))),(3,Ad),(4,I Aa)] a ∧ St [] w0 w [([Ab],Al),(Ac,Ah)] ∧ ow Ah Ac [Ad] Af ∧ d_spec_Present_L2 fu r1 n Af Aa = some r) ?_ ?_ fu _ _ ?_))))
 · rintro a w ⟨_,_,_,_,_,_,_,_,h⟩
   exact nS h
 · rintro At a Bv ⟨Af,Ad,Ac,Ah,Aa,k,m,Ar,h⟩
   rw [d_spec_Present_L2_s] at h
   unfold d_spec_Present_L2_B at h
   refine wp_seq (wr (pN 2 k z fun a k=>nn (cI h k z (fun Br h=>?_) fun Br h=>?_)))
   · refine wp_skip (nm_then ?_)
     refine c_cut (fun a w=>∃ (Aj:List Int) (Am:Value) (Ap:List Nat) (Ak:World),K 40 [(1,.pointer (some (⟨Ab,0,none⟩:Addr))),(3,Am),(4,I Aa)] a ∧ St [] w0 w [([Ab],Al),(Ap,Ak)] ∧ ow Ak Ap [Am] Aj ∧ d_spec_Present_J1 fu (d_spec_Present_L2 fu r1 At) Aa Aj = some r) ?_ ?_
     · rintro a Bt ⟨Aj,Am,Ap,Ak,k,m,Bd,h⟩
       unfold d_spec_Present_J1 at h
       refine wp_region_lit (pN 3 k z fun a k=>nn ?_)
       exact ⟨Aj,Am,Ap,Ak,w64 (Aa + 1),k.keep [1,3,4] z,m.sel [0,1] z (by decide),Bd,h⟩
     refine wp_block (wr (pN 1 k z fun a k=>nn (wp_seq (wr (pN 1 k z fun a k=>nn (wp_block (c_loop (fun n a w=>∃ (Aq:Bool) (Ag:Int),K 40 [(1,.pointer (some (⟨Ab,0,none⟩:Addr))),(3,Ad),(4,I Aa),(5,.bool (Aq)),(6,I Ag)] a ∧ St [] w0 w [([Ab],Al),(Ac,Ah)] ∧ d_spec_Present_L1 fu (d_spec_Present_L2 fu r1 At) r1 Af Aa n Aq Ag = some r) ?_ ?_ fu _ _ ?_)))))))
     · rintro a w ⟨_,_,_,_,h⟩
       exact nS h
     · rintro Bp a Cb ⟨Aq,Ag,k,m,h⟩
       rw [d_spec_Present_L1_s] at h
       unfold d_spec_Present_L1_B at h
       refine wp_seq (wr (pN 1 k z fun a k=>sv k z (r_fa fa38_6 k z z) fun a k=>sv k z (r_ldb t136 m 0 Au 9 k z z z z z) fun a k=>sv k z (r_len (α:=Item) Ae k underlying36 z z) fun a k=>pN 1 k z fun a k=>nn (cI h k z (fun Bh h=>?_) fun Bh h=>?_)))
       · refine wp_skip (nm_then ?_)
         refine c_cut (fun a w=>∃ (Ao:Bool),K 40 [(1,.pointer (some (⟨Ab,0,none⟩:Addr))),(3,Ad),(4,I Aa),(5,.bool (Ao)),(6,I Ag)] a ∧ St [] w0 w [([Ab],Al),(Ac,Ah)] ∧ d_spec_Present_J2 fu (d_spec_Present_L1 fu (d_spec_Present_L2 fu r1 At) r1 Af Aa Bp) Ag Ao = some r) ?_ ?_
         · rintro a Bu ⟨Ao,k,m,h⟩
           unfold d_spec_Present_J2 at h
           refine wp_region_lit (pN 3 k z fun a k=>nn ?_)
           exact ⟨Ao,w64 (Ag + 1),k.keep [1,3,4,5,6] z,m.sel [0,1] z (by decide),h⟩
         refine wp_block (wp_region_lit (pN 2 k z fun a k=>bsplit (Aq) (fun Ai=>?_) (fun Ai=>?_)))
         · have h:=bif_t Ai h
           refine rB k 24 z Ai fun k=>pN 10 k z fun a k=>wpList_nil (nm_block (nm_then ?_))
           exact ⟨true,k.keep [1,3,4,5,6] z,m.sel [0,1] z (by decide),h⟩
         have h:=bif_f Ai h
         refine rB k 24 z Ai fun k=>sv k z (r_fa fa38_6 k z z) fun a k=>sv k z (r_ldb t136 m 0 Au 9 k z z z z z) fun a k=>pN 1 k z fun a k=>oE h fun Bc Ax h=>sv k z (r_ixa Ae Ax k ts36 z z z) fun a k=>sv k z (r_fa fa158_5 k z z) fun a k=>sv k z (r_lde1 Ae (m.a00 (Enc.rd_lt Ae)) Ax 5 t13 k z z z z) fun a k=>pN 4 k z fun a k=>wpList_nil (nm_block (nm_then ?_))
         exact ⟨Bc.fClass == Aa,k.keep [1,3,4,5,6] z,m.sel [0,1] z (by decide),h⟩
       refine wp_exit (ex_then (ex_then (ex_same (nm_then ?_))))
       refine wr (pN 1 k z fun a k=>nn (cI h k z (fun Be h=>?_) fun Be h=>?_))
       · refine wp_region_lit (pN 2 k z fun a k=>s_bs (cs:=[I Aa]) (ps:=[(0,.tmp 36)]) te63 m k z z z z z z z (by decide) z (by exact (List.forall_mem_cons.2 ⟨z,(List.forall_mem_nil _)⟩)) fun By Cd Bz a k m e Bn=>?_)
         have Bi:=ow_bx Bn ([Aa]:List Int) z z z
         refine oE h fun Bl Bs h=>s_appF Bs te63 z m 2 Ar (News.rd (Enc.rd_agr (Enc.ow_rd Bi) (m.a 0 z))) z z k z z z z z z z fun Bj Bg Bf a k e m Bo=>pN 1 k z fun a k=>wpList_nil (nm_block (nm_then ?_))
         exact ⟨Bl,Bj,Bg,Bf,k.keep [1,3,4] z,m.sel [1,2] z (by decide),Bo,h⟩
       refine wp_skip (nm_block (nm_then ?_))
       exact ⟨Af,Ad,Ac,Ah,k.keep [1,3,4] z,m.sel [0,1] z (by decide),Ar,h⟩
     exact ⟨false,0,k.keep [1,3,4,5,6] z,m.sel [0,1] z (by decide),h⟩
   refine wp_exit (ex_then (ex_then (ex_same (nm_then ?_))))
   refine wr (pN 2 k z fun a k=>nn (wp_ret ?_))
   cases h
   exact finR1 k z (RV.tmp k z) ⟨_,Ac,z,m.ext,(Enc.ow_agr Ar (m.a 1 z)),(m.fresh 1 z)⟩
 exact ⟨([]:List Int),(.slice (some ⟨As,0,none⟩) 0 0),[As],Ba,0,k.keep [1,3,4] z,m.sel [1,0] z (by decide),Az,h⟩
theorem c_spec_l1Has (fu:Nat) {w0:World} (Ac:List Int) (x5:Int) {v2:Value} {F3:List Nat} (Aa:rd w0 F3 [v2] Ac) {r:Bool}
    (h:d_spec_l1Has fu Ac x5 = some r) :
    Calls Tryz.prog 249 #[v2,I x5] w0 fun e w=>e = .returned (.bool (r)) ∧ Ext [] w0 w:=by
 refine enter (vs:=[_,_]) func249 z ntmps249 z fun a k=>?_
 have m:=St.start w0
 unfold d_spec_l1Has at h
 refine wr (pN 1 k z fun a k=>nn (wp_seq (wr (pN 1 k z fun a k=>nn (wp_block (c_loop (fun n a w=>∃ (Ab:Int),K 18 [(0,v2),(1,I x5),(5,I Ab)] a ∧ St [] w0 w [] ∧ d_spec_l1Has_L1 fu Ac x5 n Ab = some r) ?_ ?_ fu _ _ ?_))))))
 · rintro a w ⟨_,_,_,h⟩
   exact nS h
 · rintro Ag a Ah ⟨Ab,k,m,h⟩
   rw [d_spec_l1Has_L1_s] at h
   unfold d_spec_l1Has_L1_B at h
   refine wp_seq (wr (pN 2 k z fun a k=>sv k z (r_len (α:=Int) Aa k underlying63 z z) fun a k=>pN 1 k z fun a k=>nn (cI h k z (fun Ae h=>?_) fun Ae h=>?_)))
   · refine wp_skip (nm_then ?_)
     refine wp_seq (wp_block (wr (pN 2 k z fun a k=>oE h fun Ai Ad h=>sv k z (r_ixa Aa Ad k ts63 z z z) fun a k=>sv k z (r_lde1 Aa (m.a00 (Enc.rd_lt Aa)) Ad 0 t13 k z z z z) fun a k=>pN 2 k z fun a k=>nn (cI h k z (fun Af h=>?_) fun Af h=>?_))))
     · refine wr (pN 1 k z fun a k=>nn (wp_ret (rt_block (rt_then (rt_then (rt_block (rt_then ?_)))))))
       refine fS h k m z z
     refine wp_skip (nm_block (nm_then ?_))
     refine wp_region_lit (pN 3 k z fun a k=>nn ?_)
     exact ⟨w64 (Ab + 1),k.keep [0,1,5] z,m.sel [] z (by decide),h⟩
   refine wp_exit (ex_then (ex_then (ex_same (nm_then ?_))))
   refine wr (pN 1 k z fun a k=>nn (wp_ret (fS h k m z z)))
 exact ⟨0,k.keep [0,1,5] z,m.sel [] z (by decide),h⟩
theorem c_spec_l3Joins (fu:Nat) {w0:World} (Af:List Pair) (Ag:List Int) (Ab:Int) {v2:Value} {F3:List Nat} (Ah:rd w0 F3 [v2] Af) {v6:Value} {F7:List Nat} (Aa:rd w0 F7 [v6] Ag) {r:Bool}
    (h:d_spec_l3Joins fu Af Ag Ab = some r) :
    Calls Tryz.prog 295 #[v2,v6,I Ab] w0 fun e w=>e = .returned (.bool (r)) ∧ Ext [] w0 w:=by
 refine enter (vs:=[_,_,_]) func295 z ntmps295 z fun a k=>?_
 have m:=St.start w0
 unfold d_spec_l3Joins at h
 refine wr (pN 1 k z fun a k=>nn (wp_seq (wr (pN 1 k z fun a k=>nn (wp_block (c_loop (fun n a w=>∃ (Ac:Int),K 32 [(0,v2),(1,v6),(2,I Ab),(7,I Ac)] a ∧ St [] w0 w [] ∧ d_spec_l3Joins_L1 fu Af Ag Ab n Ac = some r) ?_ ?_ fu _ _ ?_))))))
 · rintro a w ⟨_,_,_,h⟩
   exact nS h
 · rintro Am a Aq ⟨Ac,k,m,h⟩
   rw [d_spec_l3Joins_L1_s] at h
   unfold d_spec_l3Joins_L1_B at h
   refine wp_seq (wr (pN 2 k z fun a k=>sv k z (r_len (α:=Int) Aa k underlying63 z z) fun a k=>pN 1 k z fun a k=>nn (cI h k z (fun Ak h=>?_) fun Ak h=>?_)))
   · refine wp_skip (nm_then ?_)
     refine c_cut (fun a w=>K 32 [(0,v2),(1,v6),(2,I Ab),(7,I Ac)] a ∧ St [] w0 w [] ∧ d_spec_l3Joins_J1 fu (d_spec_l3Joins_L1 fu Af Ag Ab Am) Ac = some r) ?_ ?_
     · rintro a Av ⟨k,m,h⟩
       unfold d_spec_l3Joins_J1 at h
       refine wp_region_lit (pN 3 k z fun a k=>nn ?_)
       exact ⟨w64 (Ac + 1),k.keep [0,1,2,7] z,m.sel [] z (by decide),h⟩
     refine wp_block (wr (pN 3 k z fun a k=>oE h fun Ap Ae h=>sv k z (r_ixa Aa Ae k ts63 z z z) fun a k=>sv k z (r_lde1 Aa (m.a00 (Enc.rd_lt Aa)) Ae 0 t13 k z z z z) fun a k=>pN 1 k z fun a k=>oE h fun Al Ao h=>cE k m call177 z z z (c_spec_Beside fu _ _ _ (Enc.rd_agr Ah (m.a00 (Enc.rd_lt Ah))) Ao) fun Ar e a k m=>pN 2 k z fun a k=>bsplit (!Al) (fun Ad=>?_) (fun Ad=>?_)))
     · have h:=bif_t Ad h
       refine rB k 22 z Ad fun k=>pN 9 k z fun a k=>nn (wp_cond_true (k.ev z) (wr (pN 1 k z fun a k=>nn (wp_ret (rt_block (rt_then (rt_then (rt_block (rt_then ?_)))))))))
       refine fS h k m z z
     have h:=bif_f Ad h
     refine rB k 22 z Ad fun k=>pN 4 k z fun a k=>oE h fun Aw As h=>sv k z (r_ixa Aa Ae k ts63 z z z) fun a k=>sv k z (r_lde1 Aa (m.a00 (Enc.rd_lt Aa)) Ae 0 t13 k z z z z) fun a k=>oE h fun Au Aj h=>cE k m call177 z z z (c_spec_Beside fu _ _ _ (Enc.rd_agr Ah (m.a00 (Enc.rd_lt Ah))) Aj) fun At e a k m=>pN 2 k z fun a k=>nn (cI h k z (fun Ai h=>?_) fun Ai h=>?_)
     · refine wr (pN 1 k z fun a k=>nn (wp_ret (rt_block (rt_then (rt_then (rt_block (rt_then ?_)))))))
       refine fS h k m z z
     refine wp_skip (nm_block (nm_then ?_))
     exact ⟨k.keep [0,1,2,7] z,m.sel [] z (by decide),h⟩
   refine wp_exit (ex_then (ex_then (ex_same (nm_then ?_))))
   refine wr (pN 1 k z fun a k=>nn (wp_ret (fS h k m z z)))
 exact ⟨0,k.keep [0,1,2,7] z,m.sel [] z (by decide),h⟩
theorem c_spec_Groups (fu:Nat) {w0:World} (Ae:List Pair) (Ai:List Int) {v2:Value} {F3:List Nat} (Av:rd w0 F3 [v2] Ae) {v6:Value} {F7:List Nat} (At:rd w0 F7 [v6] Ai) {r:(List (List Int))}
    (h:d_spec_Groups fu Ae Ai = some r) :
    Calls Tryz.prog 248 #[v2,v6] w0 fun e w=>∃ (v0:Value) (G0:List Nat),e = .returned (v0) ∧ Ext [] w0 w ∧ ow w G0 [v0] r ∧ (∀ b ∈ G0,w0.heap.size ≤ b):=by
 refine enter (vs:=[_,_]) func248 z ntmps248 z fun a k=>?_
 have m:=St.start w0
 unfold d_spec_Groups at h
 refine wr (pN 1 k z fun a k=>nn (wr (s_bs (cs:=[]) (ps:=[]) te29 m k z z z z z z z (by decide) z (by exact (List.forall_mem_nil _)) fun g9 Bu Cr a k m e Bg=>?_)))
 have Bz:=ow_bx0 (α:=List Int) Bg
 refine pN 1 k z fun a k=>nn (wp_seq (wr (pN 1 k z fun a k=>nn (wp_block (c_loop (fun n a w=>∃ (Ad:List (List Int)) (Ag:Value) (Ac:List Nat) (Ah:World) (Aa:Int),K 51 [(0,v2),(1,v6),(5,Ag),(6,I Aa)] a ∧ St [] w0 w [(Ac,Ah)] ∧ ow Ah Ac [Ag] Ad ∧ d_spec_Groups_L2 fu Ae Ai n Ad Aa = some r) ?_ ?_ fu _ _ ?_)))))
 · rintro a w ⟨_,_,_,_,_,_,_,_,h⟩
   exact nS h
 · rintro Ar a Db ⟨Ad,Ag,Ac,Ah,Aa,k,m,Ab,h⟩
   rw [d_spec_Groups_L2_s] at h
   unfold d_spec_Groups_L2_B at h
   refine wp_seq (wr (pN 2 k z fun a k=>nn (cI h k z (fun Bj h=>?_) fun Bj h=>?_)))
   · refine wp_skip (nm_then ?_)
     refine c_cut (fun a w=>∃ (Ap:List (List Int)) (Al:Value) (Ao:List Nat) (Am:World),K 51 [(0,v2),(1,v6),(5,Al),(6,I Aa)] a ∧ St [] w0 w [(Ao,Am)] ∧ ow Am Ao [Al] Ap ∧ d_spec_Groups_J1 fu (d_spec_Groups_L2 fu Ae Ai Ar) Aa Ap = some r) ?_ ?_
     · rintro a Ds ⟨Ap,Al,Ao,Am,k,m,Bm,h⟩
       unfold d_spec_Groups_J1 at h
       refine wp_region_lit (pN 3 k z fun a k=>nn ?_)
       exact ⟨Ap,Al,Ao,Am,w64 (Aa + 1),k.keep [0,1,5,6] z,m.sel [0] z (by decide),Bm,h⟩
     refine wp_block (wp_seq (wr (pN 2 k z fun a k=>oE h fun Ct Bk h=>cE k m call249 z z z (c_spec_l1Has fu _ _ (Enc.rd_agr At (m.a00 (Enc.rd_lt At))) Bk) fun Dl e a k m=>pN 1 k z fun a k=>nn (cI h k z (fun Bs h=>?_) fun Bs h=>?_))))
     · refine wp_exit (ex_then (ex_same (nm_then ?_)))
       exact ⟨Ad,Ag,Ac,Ah,k.keep [0,1,5,6] z,m.sel [0] z (by decide),Ab,h⟩
     refine wp_skip (nm_then ?_)
     refine wr (pN 1 k z fun a k=>nn (wp_seq (wr (pN 1 k z fun a k=>sv k z (r_len (α:=List Int) (Enc.ow_rd Ab) k underlying29 z z) fun a k=>pN 2 k z fun a k=>nn (wp_block (c_loop (fun n a w=>∃ (Aj:Int) (Af:Int),K 51 [(0,v2),(1,v6),(5,Ag),(6,I Aa),(7,I Aj),(8,I Af)] a ∧ St [] w0 w [(Ac,Ah)] ∧ d_spec_Groups_L1 fu (d_spec_Groups_L2 fu Ae Ai Ar) Ae Ad Aa n Aj Af = some r) ?_ ?_ fu _ _ ?_))))))
     · rintro a w ⟨_,_,_,_,h⟩
       exact nS h
     · rintro Bx a Cu ⟨Aj,Af,k,m,h⟩
       rw [d_spec_Groups_L1_s] at h
       unfold d_spec_Groups_L1_B at h
       refine wp_seq (wr (pN 2 k z fun a k=>nn (cI h k z (fun Bq h=>?_) fun Bq h=>?_)))
       · refine wp_skip (nm_then ?_)
         refine c_cut (fun a w=>∃ (Ak:Int),K 51 [(0,v2),(1,v6),(5,Ag),(6,I Aa),(7,I Ak),(8,I Af)] a ∧ St [] w0 w [(Ac,Ah)] ∧ d_spec_Groups_J2 fu (d_spec_Groups_L1 fu (d_spec_Groups_L2 fu Ae Ai Ar) Ae Ad Aa Bx) Af Ak = some r) ?_ ?_
         · rintro a Df ⟨Ak,k,m,h⟩
           unfold d_spec_Groups_J2 at h
           refine wp_region_lit (pN 3 k z fun a k=>nn ?_)
           exact ⟨Ak,w64 (Af - 1),k.keep [0,1,5,6,7,8] z,m.sel [0] z (by decide),h⟩
         refine wp_block (wr (pN 3 k z fun a k=>oE h fun Dm Aw h=>sv k z (r_ixa (Enc.ow_rd Ab) Aw k ts29 z z z) fun a k=>?_))
         obtain ⟨Cs,Cm,Cf,Ax,Br,Bi⟩:=rd_get (Enc.ow_rd Ab) (ix_some Aw).2.2
         obtain ⟨Dg,rfl⟩:∃ v,Cm = [v]:=by obtain ⟨_,_,hq,_⟩:=Ax; exact ⟨_,hq⟩
         refine sv k z (r_ld1 t163 (Br.agr (m.a 0 z) Bi) k z z) fun a k=>pN 1 k z fun a k=>oE h fun Di Cl h=>cE k m call295 z z z (c_spec_l3Joins fu _ _ _ (Enc.rd_agr Av (m.a00 (Enc.rd_lt Av))) (Enc.rd_agr Ax ((m.a 0 z).sub Cf)) Cl) fun Cy e a k m=>nn (cI h k z (fun Be h=>?_) fun Be h=>?_)
         · refine wp_region_lit (pN 2 k z fun a k=>wpList_nil (nm_block (nm_then ?_)))
           exact ⟨Af,k.keep [0,1,5,6,7,8] z,m.sel [0] z (by decide),h⟩
         refine wp_skip (nm_block (nm_then ?_))
         exact ⟨Aj,k.keep [0,1,5,6,7,8] z,m.sel [0] z (by decide),h⟩
       refine wp_exit (ex_then (ex_then (ex_same (nm_then ?_))))
       refine wr (pN 2 k z fun a k=>nn (cI h k z (fun Ch h=>?_) fun Ch h=>?_))
       · refine wp_region_lit (pN 2 k z fun a k=>s_bs (cs:=[I Aa]) (ps:=[(0,.tmp 36)]) te63 m k z z z z z z z (by decide) z (by exact (List.forall_mem_cons.2 ⟨z,(List.forall_mem_nil _)⟩)) fun Ay Cv De a k m e Cb=>?_)
         have Az:=ow_bx Cb ([Aa]:List Int) z z z
         refine s_bs (cs:=[(.slice (some ⟨Ay,0,none⟩) 1 1)]) (ps:=[(0,.tmp 37)]) te29 m k z z z z z z z (by decide) z (by exact (List.forall_mem_cons.2 ⟨congrArg Array.size (rd_c (Enc.ow_rd Az)),(List.forall_mem_nil _)⟩)) fun Dn Dj Cx a k m e Bd=>oE h fun Bw Cc h=>?_
         have Cp:=Enc.ow_agr Az (m.a 1 z)
         have Ce:=News.box Bd (m.a 0 z) (by simp) (m:=1)
         have Cd:=m.a 2 z
         have m:=m.sel [2,1,0] z (by decide)
         have m:=m.join2
         refine s_appO (F:=Ac) (G:=[Ay]) Cc te29 z m Ab Cd Ce Cp (Agr.refl _ _) k z z z z z z fun Bv Bc Cj a k e m Cg=>pN 1 k z fun a k=>wpList_nil (nm_block (nm_then ?_))
         exact ⟨Bw,Bv,Bc,Cj,k.keep [0,1,5,6] z,m.sel [0] z (by decide),Cg,h⟩
       refine wp_region_lit (pN 4 k z fun a k=>oE h fun Cw Aq h=>sv k z (r_ixa (Enc.ow_rd Ab) Aq k ts29 z z z) fun a k=>?_)
       obtain ⟨Dk,Bt,Dd,Bn,Au,Bo⟩:=rd_get (Enc.ow_rd Ab) (ix_some Aq).2.2
       obtain ⟨Dr,rfl⟩:∃ v,Bt = [v]:=by obtain ⟨_,_,hq,_⟩:=Bn; exact ⟨_,hq⟩
       refine sv k z (r_ld1 t163 (Au.agr (m.a 0 z) Bo) k z z) fun a k=>pN 1 k z fun a k=>s_bs (cs:=[I Aa]) (ps:=[(0,.tmp 46)]) te63 m k z z z z z z z (by decide) z (by exact (List.forall_mem_cons.2 ⟨z,(List.forall_mem_nil _)⟩)) fun By Bp Do a k m e Bf=>?_
       have Bb:=ow_bx Bf ([Aa]:List Int) z z z
       obtain ⟨Cz,Da,m,Ci,Ck⟩:=m.opn 1 z Ab Aq Au z (M':=[([By],Bp)]) z
       refine oE h fun Cq Bh h=>s_appF Bh te63 z m 1 Ck (News.rd (Enc.rd_agr (Enc.ow_rd Bb) (m.a 2 z))) z z k z z z z z z z fun Bl Dp Dc a k e m As=>oE h fun Dq Dh h=>sv k z (r_ixa (Enc.ow_rd Ab) Aq k ts29 z z z) fun a k=>s_stH1 (α:=List Int) (sz:=1) (cs':=[Bl]) sizeOf63 m 0 Ci 0 k (rd_c (Enc.ow_rd As)) (rd_o (Enc.ow_rd As)) z z z z z z z z z z fun Ba a k e m Ca=>?_
       obtain ⟨Co,m,Cn⟩:=(m.sel [0,1,2] z (by decide)).cls Ca As
       refine wpList_nil (nm_block (nm_then ?_))
       exact ⟨setx Ad Aj Cq,Ag,Co,Ba,k.keep [0,1,5,6] z,m.sel [0] z (by decide),Cn,h⟩
     exact ⟨(-1),w64 (((Ad.length:Int)) - 1),k.keep [0,1,5,6,7,8] z,m.sel [0] z (by decide),h⟩
   refine wp_exit (ex_then (ex_then (ex_same (nm_then ?_))))
   refine wr (pN 2 k z fun a k=>nn (wp_ret ?_))
   cases h
   exact finR1 k z (RV.tmp k z) ⟨_,Ac,z,m.ext,(Enc.ow_agr Ab (m.a 0 z)),(m.fresh 0 z)⟩
 exact ⟨([]:List (List Int)),(.slice (some ⟨g9,0,none⟩) 0 0),[g9],Bu,0,k.keep [0,1,5,6] z,m.sel [0] z (by decide),Bz,h⟩
theorem c_spec_GroupsOf (fu:Nat) {w0:World} (r1:Request) {Ag:List Value} {F3:List Nat} (Am:rd w0 F3 Ag r1) {r:(List (List Int))}
    (h:d_spec_GroupsOf fu r1 = some r) :
    Calls Tryz.prog 167 #[.agg Ag.toArray] w0 fun e w=>∃ (v0:Value) (G0:List Nat),e = .returned (v0) ∧ Ext [] w0 w ∧ ow w G0 [v0] r ∧ (∀ b ∈ G0,w0.heap.size ≤ b):=by
 refine enter (vs:=[_]) func167 z ntmps167 z fun a k=>?_
 have m:=St.start w0
 obtain ⟨v5,F6,v7,F8,v9,Av,rfl,rfl,Aa,Ak,Af⟩:=Am
 unfold d_spec_GroupsOf at h
 refine wr (s_box (cs:=[I r1.fWay,I r1.fPallet.fW,I r1.fPallet.fD,I r1.fPallet.fH,I r1.fPallet.fGram,I r1.fClasses,v5,v7,I r1.fMaster,v9]) m k z z z z z z fun Ar Aq a k m e Aj=>pN 1 k z fun a k=>nn (wp_seq (d_go [] mixo m z fun Ao hMd=>?_)))
 have m:=hMd
 have s:=Ext.refl ([]:List Nat) Ao
 refine dt k 0 z (by kernel_rfl) z s (fun _ _ _=>id) (fun w s=>r_fa fa38_3 k z z) fun a k=>dt k 1 z (by kernel_rfl) z s (fun _ _ _=>id) (fun w s=>r_ld1 t134 (r:=[]) (Aj.at ((hMd.step s).a 0 z) 6 1 z z z) k z z) fun a k=>dt k 2 z (by kernel_rfl) z s (fun _ _ _=>id) (fun w s=>r_ldA ta38 (Aj.at ((hMd.step s).a 0 z) 0 10 z z z) z k z z) fun a k=>d_one 3 (by kernel_rfl) z (oE h fun Au Ap h=>?_)
 refine s_call k call70 z z z z z (c_spec_Present fu _ (show rd _ _ [I r1.fWay,I r1.fPallet.fW,I r1.fPallet.fD,I r1.fPallet.fH,I r1.fPallet.fGram,I r1.fClasses,v5,v7,I r1.fMaster,v9] (r1:Request) from ⟨_,_,_,_,_,_,z,z,(Enc.rd_agr Aa (m.a00 (Enc.rd_lt Aa))),(Enc.rd_agr Ak (m.a00 (Enc.rd_lt Ak))),(Enc.rd_agr Af (m.a00 (Enc.rd_lt Af)))⟩) Ap) fun Aw Bb hR=>?_
 obtain ⟨Ax,Ah,rfl,e,Ac,Ae⟩:=hR
 refine ⟨_,z,fun a k=>?_⟩
 have m:=m.new e Ah (fun b hb=>⟨Ae b hb,Enc.rd_lt (Enc.ow_rd Ac) b hb⟩) (Enc.ow_nd Ac)
 have Ba:=fun (y:Nat) (hy:y ∈ Ah)=>Nat.le_trans s.size (Ae y hy)
 have s:=s.trans e (by simp)
 refine wpList_nil ⟨s,?_⟩
 refine d_one 4 (by kernel_rfl) z (oE h fun Bc Al h=>s_call k call248 z z z z z (c_spec_Groups fu _ _ (Enc.rd_agr Aa (m.a00 (Enc.rd_lt Aa))) (Enc.rd_agr (Enc.ow_rd Ac) (m.a 0 z)) Al) fun At As hR=>?_)
 obtain ⟨Ay,Ad,rfl,e,Ab,Ai⟩:=hR
 refine ⟨_,z,fun a k=>?_⟩
 have m:=m.new e Ad (fun b hb=>⟨Ai b hb,Enc.rd_lt (Enc.ow_rd Ab) b hb⟩) (Enc.ow_nd Ab)
 have Az:=fun (y:Nat) (hy:y ∈ Ad)=>Nat.le_trans s.size (Ai y hy)
 have s:=s.trans e (by simp)
 refine wpList_nil ⟨s,?_⟩
 refine dN [5] 1 z k (by kernel_rfl) z s (fun _ _ _ _ _=>id) fun a k=>d_done (by kernel_rfl) ((nm_then ?_))
 refine wp_ret ?_
 cases h
 exact finR1 k z (RV.tmp k z) ⟨_,Ad,z,m.ext,(Enc.ow_agr Ab (m.a 0 z)),(m.fresh 0 z)⟩
theorem c_spec_GroupOf (fu:Nat) {w0:World} (Ae:List (List Int)) (Ac:Int) {v2:Value} {F3:List Nat} (Aa:rd w0 F3 [v2] Ae) {r:Int}
    (h:d_spec_GroupOf fu Ae Ac = some r) :
    Calls Tryz.prog 169 #[v2,I Ac] w0 fun e w=>e = .returned (I r) ∧ Ext [] w0 w:=by
 refine enter (vs:=[_,_]) func169 z ntmps169 z fun a k=>?_
 have m:=St.start w0
 unfold d_spec_GroupOf at h
 refine wr (pN 1 k z fun a k=>nn (wp_seq (wr (pN 1 k z fun a k=>nn (wp_block (c_loop (fun n a w=>∃ (Ab:Int),K 19 [(0,v2),(1,I Ac),(5,I Ab)] a ∧ St [] w0 w [] ∧ d_spec_GroupOf_L1 fu Ae Ac n Ab = some r) ?_ ?_ fu _ _ ?_))))))
 · rintro a w ⟨_,_,_,h⟩
   exact nS h
 · rintro As a Aq ⟨Ab,k,m,h⟩
   rw [d_spec_GroupOf_L1_s] at h
   unfold d_spec_GroupOf_L1_B at h
   refine wp_seq (wr (pN 2 k z fun a k=>sv k z (r_len (α:=List Int) Aa k underlying29 z z) fun a k=>pN 1 k z fun a k=>nn (cI h k z (fun Ah h=>?_) fun Ah h=>?_)))
   · refine wp_skip (nm_then ?_)
     refine wp_seq (wp_block (wr (pN 2 k z fun a k=>oE h fun Ao Af h=>sv k z (r_ixa Aa Af k ts29 z z z) fun a k=>?_)))
     obtain ⟨Au,Ag,At,Ad,Aj,Al⟩:=rd_get Aa (ix_some Af).2.2
     obtain ⟨Am,rfl⟩:∃ v,Ag = [v]:=by obtain ⟨_,_,hq,_⟩:=Ad; exact ⟨_,hq⟩
     refine sv k z (r_ld1 t163 (Aj.agr (m.a00 (Enc.rd_lt Aa)) Al) k z z) fun a k=>pN 1 k z fun a k=>oE h fun Ar Ak h=>cE k m call249 z z z (c_spec_l1Has fu _ _ (Enc.rd_agr Ad (m.a00 (Enc.rd_lt Ad))) Ak) fun Ap e a k m=>nn (cI h k z (fun Ai h=>?_) fun Ai h=>?_)
     · refine wr (pN 2 k z fun a k=>nn (wp_ret (rt_block (rt_then (rt_then (rt_block (rt_then ?_)))))))
       refine fS h k m z z
     refine wp_skip (nm_block (nm_then ?_))
     refine wp_region_lit (pN 3 k z fun a k=>nn ?_)
     exact ⟨w64 (Ab + 1),k.keep [0,1,5] z,m.sel [] z (by decide),h⟩
   refine wp_exit (ex_then (ex_then (ex_same (nm_then ?_))))
   refine wr (pN 1 k z fun a k=>nn (wp_ret (fS h k m z z)))
 exact ⟨0,k.keep [0,1,5] z,m.sel [] z (by decide),h⟩
theorem c_spec_l15Group (fu:Nat) {w0:World} (r1:Request) (Ac:List Int) (x9:Plan) {Be:List Value} {F3:List Nat} (Bq:rd w0 F3 Be r1) {v6:Value} {F7:List Nat} (Au:rd w0 F7 [v6] Ac) {Bl:List Value} {Bn:List Nat} (Bm:rd w0 Bn Bl x9) {r:Bool}
    (h:d_spec_l15Group fu r1 Ac x9 = some r) :
    Calls Tryz.prog 108 #[.agg Be.toArray,v6,.agg Bl.toArray] w0 fun e w=>e = .returned (.bool (r)) ∧ Ext [] w0 w:=by
 refine enter (vs:=[_,_,_]) func108 z ntmps108 z fun a k=>?_
 have m:=St.start w0
 obtain ⟨Aw,Cy,At,Di,Ba,Ct,rfl,rfl,Am,Ak,Ao⟩:=Bq
 obtain ⟨Cd,Dx,Bo,Dh,rfl,rfl,Af,De⟩:=Bm
 unfold d_spec_l15Group at h
 refine wr (s_box (cs:=[I r1.fWay,I r1.fPallet.fW,I r1.fPallet.fD,I r1.fPallet.fH,I r1.fPallet.fGram,I r1.fClasses,Aw,At,I r1.fMaster,Ba]) m k z z z z z z fun Ab Ar a k m e Bk=>s_box (cs:=[Cd,Bo]) m k z z z z z z fun Ad As a k m e Ay=>pN 1 k z fun a k=>nn (wr (sv k z (r_ldB ta38 m 1 Bk 0 k z z z z z z) fun a k=>oE h fun Ag Ca h=>?_)))
 refine s_call k call167 z z z z z (c_spec_GroupsOf fu _ (show rd _ _ [I r1.fWay,I r1.fPallet.fW,I r1.fPallet.fD,I r1.fPallet.fH,I r1.fPallet.fGram,I r1.fClasses,Aw,At,I r1.fMaster,Ba] (r1:Request) from ⟨_,_,_,_,_,_,z,z,(Enc.rd_agr Am (m.a00 (Enc.rd_lt Am))),(Enc.rd_agr Ak (m.a00 (Enc.rd_lt Ak))),(Enc.rd_agr Ao (m.a00 (Enc.rd_lt Ao)))⟩) Ca) fun Dq Aq hR=>?_
 obtain ⟨Ap,Al,rfl,e,Bc,Bw⟩:=hR
 refine ⟨_,z,fun a k=>?_⟩
 have m:=m.new e Al (fun b hb=>⟨Bw b hb,Enc.rd_lt (Enc.ow_rd Bc) b hb⟩) (Enc.ow_nd Bc)
 refine pN 1 k z fun a k=>nn (wp_seq (wr (pN 1 k z fun a k=>nn (wp_block (c_loop (fun n a w=>∃ (Aa:Int),K 58 [(1,v6),(3,.pointer (some (⟨Ab,0,none⟩:Addr))),(5,.pointer (some (⟨Ad,0,none⟩:Addr))),(7,Ap),(8,I Aa)] a ∧ St [] w0 w [([Ab],Ar),([Ad],As),(Al,Aq)] ∧ d_spec_l15Group_L2 fu r1 Ac x9 Ag n Aa = some r) ?_ ?_ fu _ _ ?_)))))
 · rintro a w ⟨_,_,_,h⟩
   exact nS h
 · rintro Av a Dl ⟨Aa,k,m,h⟩
   rw [d_spec_l15Group_L2_s] at h
   unfold d_spec_l15Group_L2_B at h
   refine wp_seq (wr (pN 1 k z fun a k=>sv k z (r_fa fa58_0 k z z) fun a k=>sv k z (r_ldb t155 m 1 Ay 0 k z z z z z) fun a k=>sv k z (r_len (α:=Carton) Af k underlying55 z z) fun a k=>pN 1 k z fun a k=>nn (cI h k z (fun Bp h=>?_) fun Bp h=>?_)))
   · refine wp_skip (nm_then ?_)
     refine c_cut (fun a w=>K 58 [(1,v6),(3,.pointer (some (⟨Ab,0,none⟩:Addr))),(5,.pointer (some (⟨Ad,0,none⟩:Addr))),(7,Ap),(8,I Aa)] a ∧ St [] w0 w [([Ab],Ar),([Ad],As),(Al,Aq)] ∧ d_spec_l15Group_J1 fu (d_spec_l15Group_L2 fu r1 Ac x9 Ag Av) Aa = some r) ?_ ?_
     · rintro a Dt ⟨k,m,h⟩
       unfold d_spec_l15Group_J1 at h
       refine wp_region_lit (pN 3 k z fun a k=>nn ?_)
       exact ⟨w64 (Aa + 1),k.keep [1,3,5,7,8] z,m.sel [0,1,2] z (by decide),h⟩
     refine wp_block (wr (pN 1 k z fun a k=>nn (wp_block (c_loop (fun n a w=>∃ (Ai:Int),K 58 [(1,v6),(3,.pointer (some (⟨Ab,0,none⟩:Addr))),(5,.pointer (some (⟨Ad,0,none⟩:Addr))),(7,Ap),(8,I Aa),(9,I Ai)] a ∧ St [] w0 w [([Ab],Ar),([Ad],As),(Al,Aq)] ∧ d_spec_l15Group_L1 fu (d_spec_l15Group_L2 fu r1 Ac x9 Ag Av) r1 Ac x9 Ag Aa n Ai = some r) ?_ ?_ fu _ _ ?_))))
     · rintro a w ⟨_,_,_,h⟩
       exact nS h
     · rintro Bf a Dk ⟨Ai,k,m,h⟩
       rw [d_spec_l15Group_L1_s] at h
       unfold d_spec_l15Group_L1_B at h
       refine wp_seq (wr (pN 1 k z fun a k=>sv k z (r_fa fa58_0 k z z) fun a k=>sv k z (r_ldb t155 m 1 Ay 0 k z z z z z) fun a k=>pN 1 k z fun a k=>oE h fun Ds Bb h=>sv k z (r_ixa Af Bb k ts55 z z z) fun a k=>sv k z (r_fa fa83_2 k z z) fun a k=>?_))
       obtain ⟨Dd,Dn,Do,Cq,Bg,Bh⟩:=rd_get Af (ix_some Bb).2.2
       obtain ⟨Da,_,rfl,rfl,Ax⟩:=Cq
       refine sv k z (r_ld1 t163 ((Bg.agr (m.a00 (Enc.rd_lt Af)) Bh).fld 2 1 (Nat.le_of_ble_eq_true z)) k z z) fun a k=>sv k z (r_len (α:=Int) Ax k underlying63 z z) fun a k=>pN 1 k z fun a k=>nn (cI h k z (fun Cm h=>?_) fun Cm h=>?_)
       · refine wp_skip (nm_then ?_)
         refine c_cut (fun a w=>K 58 [(1,v6),(3,.pointer (some (⟨Ab,0,none⟩:Addr))),(5,.pointer (some (⟨Ad,0,none⟩:Addr))),(7,Ap),(8,I Aa),(9,I Ai)] a ∧ St [] w0 w [([Ab],Ar),([Ad],As),(Al,Aq)] ∧ d_spec_l15Group_J2 fu (d_spec_l15Group_L1 fu (d_spec_l15Group_L2 fu r1 Ac x9 Ag Av) r1 Ac x9 Ag Aa Bf) Ai = some r) ?_ ?_
         · rintro a Du ⟨k,m,h⟩
           unfold d_spec_l15Group_J2 at h
           refine wp_region_lit (pN 3 k z fun a k=>nn ?_)
           exact ⟨w64 (Ai + 1),k.keep [1,3,5,7,8,9] z,m.sel [0,1,2] z (by decide),h⟩
         refine wp_block (c_cut (fun a w=>∃ (Ae:Item) (Az:Nat) (Bd:World),K 58 [(1,v6),(3,.pointer (some (⟨Ab,0,none⟩:Addr))),(5,.pointer (some (⟨Ad,0,none⟩:Addr))),(7,Ap),(8,I Aa),(9,I Ai),(10,.pointer (some (⟨Az,0,none⟩:Addr)))] a ∧ St [] w0 w [([Ab],Ar),([Ad],As),(Al,Aq),([Az],Bd)] ∧ bx Bd Az [I Ae.fId,I Ae.fW,I Ae.fH,I Ae.fD,I Ae.fGram,I Ae.fClass,I Ae.fCount] 158 ∧ d_spec_l15Group_J3 fu (d_spec_l15Group_L1 fu (d_spec_l15Group_L2 fu r1 Ac x9 Ag Av) r1 Ac x9 Ag Aa Bf) x9 Ag Aa Ai Ae = some r) ?_ ?_)
         · rintro a Dv ⟨Ae,Az,Bd,k,m,Cc,h⟩
           unfold d_spec_l15Group_J3 at h
           refine wp_seq (d_go [] mixo m z fun Bx hMd=>?_)
           have m:=hMd
           have s:=Ext.refl ([]:List Nat) Bx
           refine dN [0,6] 2 z k (by kernel_rfl) z s (fun _ _ _ _ _=>id) fun a k=>dt k 1 z (by kernel_rfl) z s (fun _ _ _=>id) (fun w s=>r_fa fa158_5 k z z) fun a k=>dt k 2 z (by kernel_rfl) z s (fun _ _ _=>id) (fun w s=>r_ld1 t13 (r:=[]) (Cc.at ((hMd.step s).a 3 z) 5 1 z z z) k z z) fun a k=>dt k 4 z (by kernel_rfl) z s (fun _ _ _=>id) (fun w s=>r_fa fa58_0 k z z) fun a k=>dt k 5 z (by kernel_rfl) z s (fun _ _ _=>id) (fun w s=>r_ld1 t155 (r:=[]) (Ay.at ((hMd.step s).a 1 z) 0 1 z z z) k z z) fun a k=>oE h fun Dw Bj h=>dt k 7 z (by kernel_rfl) z s (fun _ _ _=>id) (fun w s=>r_ixa Af Bj k ts55 z z z) fun a k=>dt k 8 z (by kernel_rfl) z s (fun _ _ _=>id) (fun w s=>r_fa fa83_1 k z z) fun a k=>?_
           obtain ⟨Dr,Cw,Dc,Bs,Bz,Cj⟩:=rd_get Af (ix_some Bj).2.2
           obtain ⟨Dg,_,rfl,rfl,Dp⟩:=Bs
           refine dt k 9 z (by kernel_rfl) z s (fun _ _ _=>id) (fun w s=>r_ld1 t13 ((Bz.agr ((hMd.step s).a00 (Enc.rd_lt Af)) Cj).fld 1 1 (Nat.le_of_ble_eq_true z)) k z z) fun a k=>d_one 3 (by kernel_rfl) z (oE h fun Cx Cf h=>cE k m call169 z z z (c_spec_GroupOf fu _ _ (Enc.rd_agr (Enc.ow_rd Bc) (m.a 2 z)) Cf) fun Cv e a k m=>?_)
           have s:=s.trans e (by simp)
           refine wpList_nil ⟨s,?_⟩
           refine dN [10] 1 z k (by kernel_rfl) z s (fun _ _ _ _ _=>id) fun a k=>d_done (by kernel_rfl) ((nm_then ?_))
           refine cI h k z (fun Ch h=>?_) fun Ch h=>?_
           · refine wr (pN 1 k z fun a k=>nn (wp_ret (rt_block (rt_then (rt_then (rt_block (rt_block (rt_then (rt_then (rt_block (rt_then ?_)))))))))))
             refine fS h k m z z
           refine wp_skip (nm_block (nm_then ?_))
           exact ⟨k.keep [1,3,5,7,8,9] z,m.sel [0,1,2] z (by decide),h⟩
         refine d_go [] mixo m z fun Cn hMd=>?_
         have m:=hMd
         have s:=Ext.refl ([]:List Nat) Cn
         refine dN [1,4,8] 3 z k (by kernel_rfl) z s (fun _ _ _ _ _=>id) fun a k=>dt k 0 z (by kernel_rfl) z s (fun _ _ _=>id) (fun w s=>r_ldA ta38 (Bk.at ((hMd.step s).a 0 z) 0 10 z z z) z k z z) fun a k=>dt k 2 z (by kernel_rfl) z s (fun _ _ _=>id) (fun w s=>r_fa fa58_0 k z z) fun a k=>dt k 3 z (by kernel_rfl) z s (fun _ _ _=>id) (fun w s=>r_ld1 t155 (r:=[]) (Ay.at ((hMd.step s).a 1 z) 0 1 z z z) k z z) fun a k=>oE h fun Dj Df h=>dt k 5 z (by kernel_rfl) z s (fun _ _ _=>id) (fun w s=>r_ixa Af Bb k ts55 z z z) fun a k=>dt k 6 z (by kernel_rfl) z s (fun _ _ _=>id) (fun w s=>r_fa fa83_2 k z z) fun a k=>?_
         refine dt k 7 z (by kernel_rfl) z s (fun _ _ _=>id) (fun w s=>r_ld1 t163 ((Bg.agr ((hMd.step s).a00 (Enc.rd_lt Af)) Bh).fld 2 1 (Nat.le_of_ble_eq_true z)) k z z) fun a k=>oE h fun Db Bi h=>dt k 9 z (by kernel_rfl) z s (fun _ _ _=>id) (fun w s=>r_ixa Ax Bi k ts63 z z z) fun a k=>dt k 10 z (by kernel_rfl) z s (fun _ _ _=>id) (fun w s=>r_lde1 Ax ((hMd.step s).a00 (Enc.rd_lt Ax)) Bi 0 t13 k z z z z) fun a k=>d_two 11 15 (by kernel_rfl) z z ?_ ?_ 
         · refine oE h fun Aj Bt h=>cE k m call168 z z z (c_spec_l6Item fu _ _ _ (show rd _ _ [I r1.fWay,I r1.fPallet.fW,I r1.fPallet.fD,I r1.fPallet.fH,I r1.fPallet.fGram,I r1.fClasses,Aw,At,I r1.fMaster,Ba] (r1:Request) from ⟨_,_,_,_,_,_,z,z,(Enc.rd_agr Am (m.a00 (Enc.rd_lt Am))),(Enc.rd_agr Ak (m.a00 (Enc.rd_lt Ak))),(Enc.rd_agr Ao (m.a00 (Enc.rd_lt Ao)))⟩) (Enc.rd_agr Au (m.a00 (Enc.rd_lt Au))) Bt) fun Dm e a k m=>?_
           have s:=s.trans e (by simp)
           refine wpList_nil ⟨s,?_⟩
           refine dN [12,13,14] 3 z k (by kernel_rfl) z s (fun _ _ _ _ _=>id) fun a k=>d_one 15 (by kernel_rfl) z (s_allocN (cs:=[I 0,I 0,I 0,I 0,I 0,I 0,I 0]) m k zeroValue158 z z z z z fun Cb Cz a k m e Br Cl=>?_)
           have Bv:=lo1 (Nat.le_trans s.size Cl)
           have s:=s.trans e (by simp)
           refine wpList_nil ⟨s,?_⟩
           refine d_one 16 (by kernel_rfl) z (s_stb (cs':=[I Aj.1.fId,I Aj.1.fW,I Aj.1.fH,I Aj.1.fD,I Aj.1.fGram,I Aj.1.fClass,I Aj.1.fCount]) sizeOf158 m 0 Br 0 k z z z z z z z z z z z fun By a k e m Cr=>?_)
           have s:=s.trans e (fun y hy=>Or.inr (Bv y hy))
           refine wpList_nil ⟨s,?_⟩
           refine dN [17] 1 z k (by kernel_rfl) z s (fun _ _ _ _ _=>id) fun a k=>d_done (by kernel_rfl) ?_
           have k:=k.keep [1,3,5,7,8,9,10] z
           refine (nm_then ?_)
           exact ⟨Aj.1,Cb,By,k.keep [1,3,5,7,8,9,10] z,m.sel [1,2,3,0] z (by decide),Cr,h⟩
         refine s_allocN (cs:=[I 0,I 0,I 0,I 0,I 0,I 0,I 0]) m k zeroValue158 z z z z z fun Ci Cs a k m e Bu Ck=>?_
         have Ce:=lo1 (Nat.le_trans s.size Ck)
         have s:=s.trans e (by simp)
         refine wpList_nil ⟨s,?_⟩
         refine d_one 11 (by kernel_rfl) z (oE h fun Ah Cp h=>cE k m call168 z z z (c_spec_l6Item fu _ _ _ (show rd _ _ [I r1.fWay,I r1.fPallet.fW,I r1.fPallet.fD,I r1.fPallet.fH,I r1.fPallet.fGram,I r1.fClasses,Aw,At,I r1.fMaster,Ba] (r1:Request) from ⟨_,_,_,_,_,_,z,z,(Enc.rd_agr Am (m.a00 (Enc.rd_lt Am))),(Enc.rd_agr Ak (m.a00 (Enc.rd_lt Ak))),(Enc.rd_agr Ao (m.a00 (Enc.rd_lt Ao)))⟩) (Enc.rd_agr Au (m.a00 (Enc.rd_lt Au))) Cp) fun Cu e a k m=>?_)
         have s:=s.trans e (by simp)
         refine wpList_nil ⟨s,?_⟩
         refine dN [12,13,14] 3 z k (by kernel_rfl) z s (fun _ _ _ _ _=>id) fun a k=>d_one 16 (by kernel_rfl) z (s_stb (cs':=[I Ah.1.fId,I Ah.1.fW,I Ah.1.fH,I Ah.1.fD,I Ah.1.fGram,I Ah.1.fClass,I Ah.1.fCount]) sizeOf158 m 0 Bu 0 k z z z z z z z z z z z fun Cg a k e m Co=>?_)
         have s:=s.trans e (fun y hy=>Or.inr (Ce y hy))
         refine wpList_nil ⟨s,?_⟩
         refine dN [17] 1 z k (by kernel_rfl) z s (fun _ _ _ _ _=>id) fun a k=>d_done (by kernel_rfl) ?_
         have k:=k.keep [1,3,5,7,8,9,10] z
         refine (nm_then ?_)
         exact ⟨Ah.1,Ci,Cg,k.keep [1,3,5,7,8,9,10] z,m.sel [1,2,3,0] z (by decide),Co,h⟩
       refine wp_exit (ex_then (ex_then (ex_same (nm_block (nm_then ?_)))))
       exact ⟨k.keep [1,3,5,7,8] z,m.sel [0,1,2] z (by decide),h⟩
     exact ⟨0,k.keep [1,3,5,7,8,9] z,m.sel [0,1,2] z (by decide),h⟩
   refine wp_exit (ex_then (ex_then (ex_same (nm_then ?_))))
   refine wr (pN 1 k z fun a k=>nn (wp_ret (fS h k m z z)))
 exact ⟨0,k.keep [1,3,5,7,8] z,m.sel [2,1,0] z (by decide),h⟩
theorem c_spec_Cheapest (fu:Nat) {w0:World} (r1:Request) (Ao:List Int) {Ay:List Value} {F3:List Nat} (Bo:rd w0 F3 Ay r1) {v6:Value} {F7:List Nat} (Az:rd w0 F7 [v6] Ao) {r:Typ × Bool}
    (h:d_spec_Cheapest fu r1 Ao = some r) :
    Calls Tryz.prog 204 #[.agg Ay.toArray,v6] w0 fun e w=>e = .returned (.tuple #[.agg (Flat.e r.1).toArray,.bool (r.2)]) ∧ Ext [] w0 w:=by
 refine enter (vs:=[_,_]) func204 z ntmps204 z fun a k=>?_
 have m:=St.start w0
 obtain ⟨v9,By,Bc,Bx,Ba,Cb,rfl,rfl,Bb,Ag,Au⟩:=Bo
 unfold d_spec_Cheapest at h
 refine wr (s_box (cs:=[I r1.fWay,I r1.fPallet.fW,I r1.fPallet.fD,I r1.fPallet.fH,I r1.fPallet.fGram,I r1.fClasses,v9,Bc,I r1.fMaster,Ba]) m k z z z z z z fun Ap Av a k m e At=>s_alloc (cs:=[I 0,I 0,I 0,I 0,I 0,I 0,I 0]) m k zeroValue79 z z z z z fun Aq Aw a k m e Bs=>pN 1 k z fun a k=>nn (wr (sv k z (r_build bt79 k (cs:=#[I 0,I 0,I 0,I 0,I 0,I 0,I 0]) (ps:=[]) z z (by kernel_rfl)) fun a k=>?_)))
 refine s_alloc (cs:=[I 0,I 0,I 0,I 0,I 0,I 0,I 0]) m k zeroValue79 z z z z z fun Aj Bw a k m e Bi=>s_stb (cs':=[I 0,I 0,I 0,I 0,I 0,I 0,I 0]) sizeOf79 m 0 Bi 0 k z z z z z z z z z z z fun Bj a k e m Bd=>nn (wr (pN 1 k z fun a k=>nn (wp_seq (wr (pN 1 k z fun a k=>nn (wp_block ?_))))))
 refine c_loop (fun n a w=>∃ (Ab:Typ) (Ai:World) (Af:Bool) (Ah:Int),K 54 [(1,v6),(2,.pointer (some (⟨Ap,0,none⟩:Addr))),(4,.pointer (some (⟨Aq,0,none⟩:Addr))),(6,.pointer (some (⟨Aj,0,none⟩:Addr))),(7,.bool (Af)),(8,I Ah)] a ∧ St [] w0 w [([Ap],Av),([Aq],Aw),([Aj],Ai)] ∧ bx Ai Aj [I Ab.fId,I Ab.fW,I Ab.fH,I Ab.fD,I Ab.fTare,I Ab.fGram,I Ab.fCost] 79 ∧ d_spec_Cheapest_L1 fu r1 Ao n Ab Af Ah = some r) ?_ ?_ fu _ _ ?_
 · rintro a w ⟨_,_,_,_,_,_,_,h⟩
   exact nS h
 · rintro Bm a Ca ⟨Ab,Ai,Af,Ah,k,m,Ac,h⟩
   rw [d_spec_Cheapest_L1_s] at h
   unfold d_spec_Cheapest_L1_B at h
   refine wp_seq (wr (pN 1 k z fun a k=>sv k z (r_fa fa38_4 k z z) fun a k=>sv k z (r_ldb t135 m 0 At 7 k z z z z z) fun a k=>sv k z (r_len (α:=Typ) Ag k underlying35 z z) fun a k=>pN 1 k z fun a k=>nn (cI h k z (fun Bu h=>?_) fun Bu h=>?_)))
   · refine wp_skip (nm_then ?_)
     refine c_cut (fun a w=>∃ (Ad:Typ) (As:World) (Ar:Bool),K 54 [(1,v6),(2,.pointer (some (⟨Ap,0,none⟩:Addr))),(4,.pointer (some (⟨Aq,0,none⟩:Addr))),(6,.pointer (some (⟨Aj,0,none⟩:Addr))),(7,.bool (Ar)),(8,I Ah)] a ∧ St [] w0 w [([Ap],Av),([Aq],Aw),([Aj],As)] ∧ bx As Aj [I Ad.fId,I Ad.fW,I Ad.fH,I Ad.fD,I Ad.fTare,I Ad.fGram,I Ad.fCost] 79 ∧ d_spec_Cheapest_J1 fu (d_spec_Cheapest_L1 fu r1 Ao Bm) Ah Ad Ar = some r) ?_ ?_
     · rintro a Cd ⟨Ad,As,Ar,k,m,Bp,h⟩
       unfold d_spec_Cheapest_J1 at h
       refine wp_region_lit (pN 3 k z fun a k=>nn ?_)
       exact ⟨Ad,As,Ar,w64 (Ah + 1),k.keep [1,2,4,6,7,8] z,m.sel [0,1,2] z (by decide),Bp,h⟩
     refine wp_block (wr (sv k z (r_fa fa38_4 k z z) fun a k=>sv k z (r_ldb t135 m 0 At 7 k z z z z z) fun a k=>pN 1 k z fun a k=>oE h fun Aa Ax h=>sv k z (r_ixa Ag Ax k ts35 z z z) fun a k=>sv k z (r_lde Ag (m.a00 (Enc.rd_lt Ag)) Ax ta79 k z z) fun a k=>s_alloc (cs:=[I 0,I 0,I 0,I 0,I 0,I 0,I 0]) m k zeroValue79 z z z z z fun Ch Bz a k m e Be=>s_stb (cs':=[I Aa.fId,I Aa.fW,I Aa.fH,I Aa.fD,I Aa.fTare,I Aa.fGram,I Aa.fCost]) sizeOf79 m 0 Be 0 k z z z z z z z z z z z fun Cg a k e m Ae=>nn (wp_seq (wr ?_))))
     refine sv k z (r_ldB ta38 m 1 At 0 k z z z z z z) fun a k=>pN 1 k z fun a k=>sv k z (r_ldB ta79 m 0 Ae 0 k z z z z z z) fun a k=>oE h fun Ce Bq h=>cE k m call212 z z z (c_spec_Holds fu _ _ (Aa:Typ) (show rd _ _ [I r1.fWay,I r1.fPallet.fW,I r1.fPallet.fD,I r1.fPallet.fH,I r1.fPallet.fGram,I r1.fClasses,v9,Bc,I r1.fMaster,Ba] (r1:Request) from ⟨_,_,_,_,_,_,z,z,(Enc.rd_agr Bb (m.a00 (Enc.rd_lt Bb))),(Enc.rd_agr Ag (m.a00 (Enc.rd_lt Ag))),(Enc.rd_agr Au (m.a00 (Enc.rd_lt Au)))⟩) (Enc.rd_agr Az (m.a00 (Enc.rd_lt Az))) Bq) fun Cc e a k m=>pN 1 k z fun a k=>nn (cI h k z (fun Br h=>?_) fun Br h=>?_)
     · refine wp_exit (ex_then (ex_same (nm_then ?_)))
       exact ⟨Ab,Ai,Af,k.keep [1,2,4,6,7,8] z,m.sel [1,2,3] z (by decide),Ac,h⟩
     refine wp_skip (nm_then ?_)
     refine wr (pN 3 k z fun a k=>bsplit (!Af) (fun Am=>?_) (fun Am=>?_))
     · have h:=bif_t Am h
       refine rB k 30 z Am fun k=>pN 20 k z fun a k=>?_
       have k:=k.keep [1,2,4,6,7,8,9,50] z
       refine nn (wp_cond_true (k.ev z) (wr (sv k z (r_ldB ta79 m 0 Ae 0 k z z z z z z) fun a k=>s_stb (cs':=[I Aa.fId,I Aa.fW,I Aa.fH,I Aa.fD,I Aa.fTare,I Aa.fGram,I Aa.fCost]) sizeOf79 m 3 Ac 0 k z z z z z z z z z z z fun Bv a k e m Bg=>nn (wp_region_lit (pN 1 k z fun a k=>wpList_nil (nm_block (nm_then ?_)))))))
       exact ⟨Aa,Bv,true,k.keep [1,2,4,6,7,8] z,m.sel [1,2,3] z (by decide),Bg,h⟩
     have h:=bif_f Am h
     refine rB k 30 z Am fun k=>sv k z (r_fa fa79_6 k z z) fun a k=>sv k z (r_ldb t13 m 0 Ae 6 k z z z z z) fun a k=>sv k z (r_fa fa79_6 k z z) fun a k=>sv k z (r_ldb t13 m 3 Ac 6 k z z z z z) fun a k=>pN 3 k z fun a k=>bsplit (decide (Aa.fCost < Ab.fCost)) (fun Ak=>?_) (fun Ak=>?_)
     · have h:=bif_t Ak h
       refine rB k 37 z Ak fun k=>pN 13 k z fun a k=>?_
       have k:=k.keep [1,2,4,6,7,8,9,50] z
       refine nn (wp_cond_true (k.ev z) (wr (sv k z (r_ldB ta79 m 0 Ae 0 k z z z z z z) fun a k=>s_stb (cs':=[I Aa.fId,I Aa.fW,I Aa.fH,I Aa.fD,I Aa.fTare,I Aa.fGram,I Aa.fCost]) sizeOf79 m 3 Ac 0 k z z z z z z z z z z z fun Bn a k e m Bl=>nn (wp_region_lit (pN 1 k z fun a k=>wpList_nil (nm_block (nm_then ?_)))))))
       exact ⟨Aa,Bn,true,k.keep [1,2,4,6,7,8] z,m.sel [1,2,3] z (by decide),Bl,h⟩
     have h:=bif_f Ak h
     refine rB k 37 z Ak fun k=>sv k z (r_fa fa79_6 k z z) fun a k=>sv k z (r_ldb t13 m 0 Ae 6 k z z z z z) fun a k=>sv k z (r_fa fa79_6 k z z) fun a k=>sv k z (r_ldb t13 m 3 Ac 6 k z z z z z) fun a k=>pN 2 k z fun a k=>bsplit (Aa.fCost == Ab.fCost) (fun Al=>?_) (fun Al=>?_)
     · have h:=bif_t Al h
       refine rB k 43 z Al fun k=>sv k z (r_fa fa79_0 k z z) fun a k=>sv k z (r_ldb t13 m 0 Ae 0 k z z z z z) fun a k=>sv k z (r_fa fa79_0 k z z) fun a k=>sv k z (r_ldb t13 m 3 Ac 0 k z z z z z) fun a k=>pN 3 k z fun a k=>?_
       have k:=k.keep [1,2,4,6,7,8,9,50] z
       refine nn (cI h k z (fun Bt h=>?_) fun Bt h=>?_)
       · refine wr (sv k z (r_ldB ta79 m 0 Ae 0 k z z z z z z) fun a k=>s_stb (cs':=[I Aa.fId,I Aa.fW,I Aa.fH,I Aa.fD,I Aa.fTare,I Aa.fGram,I Aa.fCost]) sizeOf79 m 3 Ac 0 k z z z z z z z z z z z fun Bk a k e m Bh=>nn (wp_region_lit (pN 1 k z fun a k=>wpList_nil (nm_block (nm_then ?_)))))
         exact ⟨Aa,Bk,true,k.keep [1,2,4,6,7,8] z,m.sel [1,2,3] z (by decide),Bh,h⟩
       refine wp_skip (nm_block (nm_then ?_))
       exact ⟨Ab,Ai,Af,k.keep [1,2,4,6,7,8] z,m.sel [1,2,3] z (by decide),Ac,h⟩
     have h:=bif_f Al h
     refine rB k 43 z Al fun k=>pN 7 k z fun a k=>?_
     have k:=k.keep [1,2,4,6,7,8,9,50] z
     refine nn (wp_cond_false (k.ev z) (wp_skip (nm_block (nm_then ?_))))
     exact ⟨Ab,Ai,Af,k.keep [1,2,4,6,7,8] z,m.sel [1,2,3] z (by decide),Ac,h⟩
   refine wp_exit (ex_then (ex_then (ex_same (nm_then ?_))))
   refine wr (sv k z (r_ldB ta79 m 2 Ac 0 k z z z z z z) fun a k=>pN 1 k z fun a k=>s_stb (cs':=[I Ab.fId,I Ab.fW,I Ab.fH,I Ab.fD,I Ab.fTare,I Ab.fGram,I Ab.fCost]) sizeOf79 m 1 Bs 0 k z z z z z z z z z z z fun Cf a k e m Bf=>pN 1 k z fun a k=>nn (wp_ret ?_))
   cases h
   exact finR2 k z (RV.cA k z ta79 (Bf.at (m.a 1 z) 0 7 z z z) z) (RV.tmp k z) ⟨z,m.ext⟩
 exact ⟨(⟨0,0,0,0,0,0,0⟩:Typ),Bj,false,0,k.keep [1,2,4,6,7,8] z,m.sel [2,1,0] z (by decide),Bd,h⟩

end Go.Proofs.YtkkfmjpbiimkbaaGreat
