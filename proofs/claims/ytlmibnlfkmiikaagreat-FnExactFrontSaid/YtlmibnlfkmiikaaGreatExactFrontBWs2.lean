/- FnExactFront: the walks of functions that it reaches (ExactFrontBWs,part 2). Printed by gen.py. -/
import Derived.Test.YtlmibnlfkmiikaaGreatExactFrontBWs1
set_option maxRecDepth 20000
set_option linter.unusedSimpArgs false
set_option linter.unusedVariables false
namespace Go.Proofs.YtlmibnlfkmiikaaGreat
open Go Go.RowKit
open Enc (rd ow)
open Arg (argv)
open Ret (retv)
open Go.Proofs.Tryz

theorem c_spec_l13Carton (fu:Nat) {w0:World} (x1:Carton) {Ai:List Value} {F3:List Nat} (Al:rd w0 F3 Ai x1) {r:Bool}
    (h:d_spec_l13Carton fu x1 = some r) :
    Calls Tryz.prog 200 #[.agg Ai.toArray] w0 fun e w=>e = .returned (.bool (r)) ∧ Ext [] w0 w:=by
 refine enter (vs:=[_]) func200 z ntmps200 z fun a k=>?_
 have m:=St.start w0
 obtain ⟨v5,_,rfl,rfl,Aa⟩:=Al
 unfold d_spec_l13Carton at h
 refine wr (s_box (cs:=[I x1.fType,I x1.fGroup,v5]) m k z z z z z z fun b7 w9 a k m e Ab=>pN 1 k z fun a k=>nn (c_cut (fun a w=>K 52 [(1,.pointer (some (⟨b7,0,none⟩:Addr)))] a ∧ St [] w0 w [([b7],w9)] ∧ d_spec_l13Carton_J2 fu x1 = some r) ?_ ?_))
 · rintro a Az ⟨k,m,h⟩
   unfold d_spec_l13Carton_J2 at h
   refine wp_seq (wr (pN 1 k z fun a k=>nn (wp_block (c_loop (fun n a w=>∃ (Ac:Int),K 52 [(1,.pointer (some (⟨b7,0,none⟩:Addr))),(3,I Ac)] a ∧ St [] w0 w [([b7],w9)] ∧ d_spec_l13Carton_L1 fu x1 n Ac = some r) ?_ ?_ fu _ _ ?_))))
   · rintro a w ⟨_,_,_,h⟩
     exact nS h
   · rintro Av a Ba ⟨Ac,k,m,h⟩
     rw [d_spec_l13Carton_L1_s] at h
     unfold d_spec_l13Carton_L1_B at h
     refine wp_seq (wr (pN 1 k z fun a k=>sv k z (r_fa fa33_2 k z z) fun a k=>sv k z (r_ldb t131 m 0 Ab 2 k z z z z z) fun a k=>sv k z (r_len (α:=Int) Aa k underlying31 z z) fun a k=>pN 1 k z fun a k=>nn (cI h k z (fun Ap h=>?_) fun Ap h=>?_)))
     · refine wp_skip (nm_then ?_)
       refine c_cut (fun a w=>K 52 [(1,.pointer (some (⟨b7,0,none⟩:Addr))),(3,I Ac)] a ∧ St [] w0 w [([b7],w9)] ∧ d_spec_l13Carton_J1 fu (d_spec_l13Carton_L1 fu x1 Av) Ac = some r) ?_ ?_
       · rintro a Bf ⟨k,m,h⟩
         unfold d_spec_l13Carton_J1 at h
         refine wp_region_lit (pN 3 k z fun a k=>nn ?_)
         exact ⟨w64 (Ac + 1),k.keep [1,3] z,m.sel [0] z (by decide),h⟩
       refine wp_block (wp_seq (d_go [] mixo m z fun At hMd=>?_))
       have m:=hMd
       have s:=Ext.refl ([]:List Nat) At
       refine dN [2] 1 z k (by kernel_rfl) z s (fun _ _ _ _ _=>id) fun a k=>dt k 0 z (by kernel_rfl) z s (fun _ _ _=>id) (fun w s=>r_fa fa33_2 k z z) fun a k=>dt k 1 z (by kernel_rfl) z s (fun _ _ _=>id) (fun w s=>r_ld1 t131 (r:=[]) (Ab.at ((hMd.step s).a 0 z) 2 1 z z z) k z z) fun a k=>oE h fun Ax Ah h=>dt k 3 z (by kernel_rfl) z s (fun _ _ _=>id) (fun w s=>r_ixa Aa Ah k ts31 z z z) fun a k=>dt k 4 z (by kernel_rfl) z s (fun _ _ _=>id) (fun w s=>r_lde1 Aa ((hMd.step s).a00 (Enc.rd_lt Aa)) Ah 0 t13 k z z z z) fun a k=>d_one 5 (by kernel_rfl) z (oE h fun Ar As h=>cE k m call142 z z z (c_spec_l1In fu _ _ _  As) fun Be e a k m=>?_)
       have s:=s.trans e (by simp)
       refine wpList_nil ⟨s,?_⟩
       refine dN [6,7] 2 z k (by kernel_rfl) z s (fun _ _ _ _ _=>id) fun a k=>bsplit (!Ar) (fun Af=>?_) (fun Af=>?_)
       · have h:=bif_t Af h
         refine rB k 34 z Af fun k=>dN [8,9,10,11,12,13,14,15,16,17,18,19,20,21,22,23,24] 17 z k (by kernel_rfl) z s (fun _ _ _ _ _=>id) fun a k=>d_done (by kernel_rfl) ?_
         have k:=k.keep [1,3,51] z
         refine (nm_then ?_)
         refine wp_cond_true (k.ev z) (wr (pN 1 k z fun a k=>nn (wp_ret (rt_block (rt_then (rt_then (rt_block (rt_then ?_))))))))
         refine fS h k m z z
       have h:=bif_f Af h
       refine rB k 34 z Af fun k=>dN [8,9,10] 3 z k (by kernel_rfl) z s (fun _ _ _ _ _=>id) fun a k=>bsplit (decide (Ac > 0)) (fun Ad=>?_) (fun Ad=>?_)
       · have h:=bif_t Ad h
         refine rB k 37 z Ad fun k=>dN [13,18,19] 3 z k (by kernel_rfl) z s (fun _ _ _ _ _=>id) fun a k=>dt k 11 z (by kernel_rfl) z s (fun _ _ _=>id) (fun w s=>r_fa fa33_2 k z z) fun a k=>dt k 12 z (by kernel_rfl) z s (fun _ _ _=>id) (fun w s=>r_ld1 t131 (r:=[]) (Ab.at ((hMd.step s).a 0 z) 2 1 z z z) k z z) fun a k=>oE h fun Bg Ay h=>dt k 14 z (by kernel_rfl) z s (fun _ _ _=>id) (fun w s=>r_ixa Aa Ah k ts31 z z z) fun a k=>dt k 15 z (by kernel_rfl) z s (fun _ _ _=>id) (fun w s=>r_lde1 Aa ((hMd.step s).a00 (Enc.rd_lt Aa)) Ah 0 t13 k z z z z) fun a k=>dt k 16 z (by kernel_rfl) z s (fun _ _ _=>id) (fun w s=>r_fa fa33_2 k z z) fun a k=>?_
         refine dt k 17 z (by kernel_rfl) z s (fun _ _ _=>id) (fun w s=>r_ld1 t131 (r:=[]) (Ab.at ((hMd.step s).a 0 z) 2 1 z z z) k z z) fun a k=>oE h fun Bb Aj h=>dt k 20 z (by kernel_rfl) z s (fun _ _ _=>id) (fun w s=>r_ixa Aa Aj k ts31 z z z) fun a k=>dt k 21 z (by kernel_rfl) z s (fun _ _ _=>id) (fun w s=>r_lde1 Aa ((hMd.step s).a00 (Enc.rd_lt Aa)) Aj 0 t13 k z z z z) fun a k=>dN [22,23,24] 3 z k (by kernel_rfl) z s (fun _ _ _ _ _=>id) fun a k=>d_done (by kernel_rfl) ?_
         have k:=k.keep [1,3,51] z
         refine (nm_then ?_)
         refine cI h k z (fun Au h=>?_) fun Au h=>?_
         · refine wr (pN 1 k z fun a k=>nn (wp_ret (rt_block (rt_then (rt_then (rt_block (rt_then ?_)))))))
           refine fS h k m z z
         refine wp_skip (nm_block (nm_then ?_))
         exact ⟨k.keep [1,3] z,m.sel [0] z (by decide),h⟩
       have h:=bif_f Ad h
       refine rB k 37 z Ad fun k=>dN [11,12,13,14,15,16,17,18,19,20,21,22,23,24] 14 z k (by kernel_rfl) z s (fun _ _ _ _ _=>id) fun a k=>d_done (by kernel_rfl) ?_
       have k:=k.keep [1,3,51] z
       refine (nm_then ?_)
       refine wp_cond_false (k.ev z) (wp_skip (nm_block (nm_then ?_)))
       exact ⟨k.keep [1,3] z,m.sel [0] z (by decide),h⟩
     refine wp_exit (ex_then (ex_then (ex_same (nm_then ?_))))
     refine wr (pN 1 k z fun a k=>nn (wp_ret (fS h k m z z)))
   exact ⟨0,k.keep [1,3] z,m.sel [0] z (by decide),h⟩
 refine wr (sv k z (r_fa fa33_0 k z z) fun a k=>sv k z (r_ldb t13 m 0 Ab 0 k z z z z z) fun a k=>oE h fun Aq Am h=>cE k m call158 z z z (c_spec_l2Id fu _  Am) fun Bd e a k m=>pN 2 k z fun a k=>bsplit (!Aq) (fun Ag=>?_) (fun Ag=>?_))
 · have h:=bif_t Ag h
   refine rB k 8 z Ag fun k=>pN 11 k z fun a k=>nn (wp_cond_true (k.ev z) (wr (pN 1 k z fun a k=>nn (wp_ret (rt_then ?_)))))
   refine fS h k m z z
 have h:=bif_f Ag h
 refine rB k 8 z Ag fun k=>sv k z (r_fa fa33_1 k z z) fun a k=>sv k z (r_ldb t13 m 0 Ab 1 k z z z z z) fun a k=>oE h fun Ak Aw h=>cE k m call142 z z z (c_spec_l1In fu _ _ _  Aw) fun Bc e a k m=>pN 3 k z fun a k=>bsplit (!Ak) (fun Ae=>?_) (fun Ae=>?_)
 · have h:=bif_t Ae h
   refine rB k 14 z Ae fun k=>pN 5 k z fun a k=>nn (wp_cond_true (k.ev z) (wr (pN 1 k z fun a k=>nn (wp_ret (rt_then ?_)))))
   refine fS h k m z z
 have h:=bif_f Ae h
 refine rB k 14 z Ae fun k=>sv k z (r_fa fa33_2 k z z) fun a k=>sv k z (r_ldb t131 m 0 Ab 2 k z z z z z) fun a k=>sv k z (r_len (α:=Int) Aa k underlying31 z z) fun a k=>pN 2 k z fun a k=>nn (cI h k z (fun Ao h=>?_) fun Ao h=>?_)
 · refine wr (pN 1 k z fun a k=>nn (wp_ret (rt_then ?_)))
   refine fS h k m z z
 refine wp_skip (nm_then ?_)
 exact ⟨k.keep [1] z,m.sel [0] z (by decide),h⟩
theorem c_spec_PlanOk (fu:Nat) {w0:World} (x1:Plan) {Aq:List Value} {F3:List Nat} (Au:rd w0 F3 Aq x1) {r:Bool}
    (h:d_spec_PlanOk fu x1 = some r) :
    Calls Tryz.prog 109 #[.agg Aq.toArray] w0 fun e w=>e = .returned (.bool (r)) ∧ Ext [] w0 w:=by
 refine enter (vs:=[_]) func109 z ntmps109 z fun a k=>?_
 have m:=St.start w0
 obtain ⟨v5,F6,v7,F8,rfl,rfl,Ac,Aj⟩:=Au
 unfold d_spec_PlanOk at h
 refine wr (s_box (cs:=[v5,v7]) m k z z z z z z fun Aa Am a k m e Ab=>pN 1 k z fun a k=>nn (c_cut (fun a w=>K 61 [(1,.pointer (some (⟨Aa,0,none⟩:Addr)))] a ∧ St [] w0 w [([Aa],Am)] ∧ d_spec_PlanOk_J2 fu x1 = some r) ?_ ?_))
 · rintro a Bs ⟨k,m,h⟩
   unfold d_spec_PlanOk_J2 at h
   refine wp_seq (wr (pN 1 k z fun a k=>nn (wp_block (c_loop (fun n a w=>∃ (Ad:Int),K 61 [(1,.pointer (some (⟨Aa,0,none⟩:Addr))),(3,I Ad)] a ∧ St [] w0 w [([Aa],Am)] ∧ d_spec_PlanOk_L1 fu x1 n Ad = some r) ?_ ?_ fu _ _ ?_))))
   · rintro a w ⟨_,_,_,h⟩
     exact nS h
   · rintro Bf a Bn ⟨Ad,k,m,h⟩
     rw [d_spec_PlanOk_L1_s] at h
     unfold d_spec_PlanOk_L1_B at h
     refine wp_seq (wr (pN 1 k z fun a k=>sv k z (r_fa fa74_0 k z z) fun a k=>sv k z (r_ldb t143 m 0 Ab 0 k z z z z z) fun a k=>sv k z (r_len (α:=Carton) Ac k underlying43 z z) fun a k=>pN 1 k z fun a k=>nn (cI h k z (fun Bd h=>?_) fun Bd h=>?_)))
     · refine wp_skip (nm_then ?_)
       refine c_cut (fun a w=>K 61 [(1,.pointer (some (⟨Aa,0,none⟩:Addr))),(3,I Ad)] a ∧ St [] w0 w [([Aa],Am)] ∧ d_spec_PlanOk_J1 fu (d_spec_PlanOk_L1 fu x1 Bf) Ad = some r) ?_ ?_
       · rintro a Bu ⟨k,m,h⟩
         unfold d_spec_PlanOk_J1 at h
         refine wp_region_lit (pN 3 k z fun a k=>nn ?_)
         exact ⟨w64 (Ad + 1),k.keep [1,3] z,m.sel [0] z (by decide),h⟩
       refine wp_block (wr (sv k z (r_fa fa74_1 k z z) fun a k=>sv k z (r_ldb t172 m 0 Ab 1 k z z z z z) fun a k=>pN 1 k z fun a k=>oE h fun Ak Ar h=>sv k z (r_ixa Aj Ar k ts72 z z z) fun a k=>sv k z (r_lde Aj (m.a00 (Enc.rd_lt Aj)) Ar ta139 k z z) fun a k=>s_alloc (cs:=[I 0,I 0,I 0,I 0]) m k zeroValue139 z z z z z fun Bv Bq a k m e Bg=>s_stb (cs':=[I Ak.fPallet,I Ak.fX,I Ak.fY,I Ak.fZ]) sizeOf139 m 0 Bg 0 k z z z z z z z z z z z fun Bw a k e m Al=>nn (wr (sv k z (r_fa fa74_0 k z z) fun a k=>sv k z (r_ldb t143 m 1 Ab 0 k z z z z z) fun a k=>pN 1 k z fun a k=>oE h fun Ao Ap h=>?_))))
       refine sv k z (r_ixa Ac Ap k ts43 z z z) fun a k=>?_
       obtain ⟨Bm,Bz,Br,At,Bb,Bh⟩:=rd_get Ac (ix_some Ap).2.2
       obtain ⟨Ay,_,rfl,rfl,As⟩:=At
       refine sv k z (r_ldA ta33 (Bb.agr (m.a00 (Enc.rd_lt Ac)) Bh) z k z z) fun a k=>oE h fun Bc Bk h=>cE k m call200 z z z (c_spec_l13Carton fu _ (show rd _ _ [I Ao.fType,I Ao.fGroup,Ay] (Ao:Carton) from ⟨_,_,z,z,(Enc.rd_agr As (m.a00 (Enc.rd_lt As)))⟩) Bk) fun Bp e a k m=>pN 2 k z fun a k=>bsplit (!Bc) (fun Af=>?_) (fun Af=>?_)
       · have h:=bif_t Af h
         refine rB k 37 z Af fun k=>pN 23 k z fun a k=>?_
         have k:=k.keep [1,3,60] z
         refine nn (wp_cond_true (k.ev z) (wr (pN 1 k z fun a k=>nn (wp_ret (rt_block (rt_then (rt_then (rt_block (rt_then ?_)))))))))
         refine fS h k m z z
       have h:=bif_f Af h
       refine rB k 37 z Af fun k=>sv k z (r_fa fa139_0 k z z) fun a k=>sv k z (r_ldb t13 m 0 Al 0 k z z z z z) fun a k=>oE h fun Aw Ba h=>cE k m call142 z z z (c_spec_l1In fu _ _ _  Ba) fun By e a k m=>pN 3 k z fun a k=>bsplit (!Aw) (fun Ah=>?_) (fun Ah=>?_)
       · have h:=bif_t Ah h
         refine rB k 43 z Ah fun k=>pN 17 k z fun a k=>?_
         have k:=k.keep [1,3,60] z
         refine nn (wp_cond_true (k.ev z) (wr (pN 1 k z fun a k=>nn (wp_ret (rt_block (rt_then (rt_then (rt_block (rt_then ?_)))))))))
         refine fS h k m z z
       have h:=bif_f Ah h
       refine rB k 43 z Ah fun k=>sv k z (r_fa fa139_1 k z z) fun a k=>sv k z (r_ldb t13 m 0 Al 1 k z z z z z) fun a k=>oE h fun Ax Be h=>cE k m call142 z z z (c_spec_l1In fu _ _ _  Be) fun Ca e a k m=>pN 3 k z fun a k=>bsplit (!Ax) (fun Ag=>?_) (fun Ag=>?_)
       · have h:=bif_t Ag h
         refine rB k 49 z Ag fun k=>pN 11 k z fun a k=>?_
         have k:=k.keep [1,3,60] z
         refine nn (wp_cond_true (k.ev z) (wr (pN 1 k z fun a k=>nn (wp_ret (rt_block (rt_then (rt_then (rt_block (rt_then ?_)))))))))
         refine fS h k m z z
       have h:=bif_f Ag h
       refine rB k 49 z Ag fun k=>sv k z (r_fa fa139_2 k z z) fun a k=>sv k z (r_ldb t13 m 0 Al 2 k z z z z z) fun a k=>oE h fun Bi Bl h=>cE k m call142 z z z (c_spec_l1In fu _ _ _  Bl) fun Bt e a k m=>pN 3 k z fun a k=>bsplit (!Bi) (fun Ae=>?_) (fun Ae=>?_)
       · have h:=bif_t Ae h
         refine rB k 55 z Ae fun k=>pN 5 k z fun a k=>?_
         have k:=k.keep [1,3,60] z
         refine nn (wp_cond_true (k.ev z) (wr (pN 1 k z fun a k=>nn (wp_ret (rt_block (rt_then (rt_then (rt_block (rt_then ?_)))))))))
         refine fS h k m z z
       have h:=bif_f Ae h
       refine rB k 55 z Ae fun k=>sv k z (r_fa fa139_3 k z z) fun a k=>sv k z (r_ldb t13 m 0 Al 3 k z z z z z) fun a k=>oE h fun Bo Av h=>cE k m call142 z z z (c_spec_l1In fu _ _ _  Av) fun Bx e a k m=>pN 2 k z fun a k=>?_
       have k:=k.keep [1,3,60] z
       refine nn (cI h k z (fun Az h=>?_) fun Az h=>?_)
       · refine wr (pN 1 k z fun a k=>nn (wp_ret (rt_block (rt_then (rt_then (rt_block (rt_then ?_)))))))
         refine fS h k m z z
       refine wp_skip (nm_block (nm_then ?_))
       exact ⟨k.keep [1,3] z,m.sel [1] z (by decide),h⟩
     refine wp_exit (ex_then (ex_then (ex_same (nm_then ?_))))
     refine wr (pN 1 k z fun a k=>nn (wp_ret (fS h k m z z)))
   exact ⟨0,k.keep [1,3] z,m.sel [0] z (by decide),h⟩
 refine wr (sv k z (r_fa fa74_0 k z z) fun a k=>sv k z (r_ldb t143 m 0 Ab 0 k z z z z z) fun a k=>sv k z (r_len (α:=Carton) Ac k underlying43 z z) fun a k=>sv k z (r_fa fa74_1 k z z) fun a k=>sv k z (r_ldb t172 m 0 Ab 1 k z z z z z) fun a k=>sv k z (r_len (α:=Spot) Aj k underlying72 z z) fun a k=>pN 2 k z fun a k=>bsplit (((x1.fCartons.length:Int)) != ((x1.fSpots.length:Int))) (fun Ai=>?_) (fun Ai=>?_))
 · have h:=bif_t Ai h
   refine rB k 12 z Ai fun k=>pN 5 k z fun a k=>nn (wp_cond_true (k.ev z) (wr (pN 1 k z fun a k=>nn (wp_ret (rt_then ?_)))))
   refine fS h k m z z
 have h:=bif_f Ai h
 refine rB k 12 z Ai fun k=>sv k z (r_fa fa74_0 k z z) fun a k=>sv k z (r_ldb t143 m 0 Ab 0 k z z z z z) fun a k=>sv k z (r_len (α:=Carton) Ac k underlying43 z z) fun a k=>pN 2 k z fun a k=>nn (cI h k z (fun Bj h=>?_) fun Bj h=>?_)
 · refine wr (pN 1 k z fun a k=>nn (wp_ret (rt_then ?_)))
   refine fS h k m z z
 refine wp_skip (nm_then ?_)
 exact ⟨k.keep [1] z,m.sel [0] z (by decide),h⟩
theorem c_spec_l15Empty (fu:Nat) {w0:World} (x1:Plan) {Ae:List Value} {F3:List Nat} (Ag:rd w0 F3 Ae x1) {r:Bool}
    (h:d_spec_l15Empty fu x1 = some r) :
    Calls Tryz.prog 110 #[.agg Ae.toArray] w0 fun e w=>e = .returned (.bool (r)) ∧ Ext [] w0 w:=by
 refine enter (vs:=[_]) func110 z ntmps110 z fun a k=>?_
 have m:=St.start w0
 obtain ⟨v5,F6,v7,F8,rfl,rfl,Ab,Aq⟩:=Ag
 unfold d_spec_l15Empty at h
 refine wr (s_box (cs:=[v5,v7]) m k z z z z z z fun Ac Ak a k m e Ad=>pN 1 k z fun a k=>nn (wp_seq (wr (pN 1 k z fun a k=>nn (wp_block (c_loop (fun n a w=>∃ (Aa:Int),K 19 [(1,.pointer (some (⟨Ac,0,none⟩:Addr))),(3,I Aa)] a ∧ St [] w0 w [([Ac],Ak)] ∧ d_spec_l15Empty_L1 fu x1 n Aa = some r) ?_ ?_ fu _ _ ?_))))))
 · rintro a w ⟨_,_,_,h⟩
   exact nS h
 · rintro Aw a As ⟨Aa,k,m,h⟩
   rw [d_spec_l15Empty_L1_s] at h
   unfold d_spec_l15Empty_L1_B at h
   refine wp_seq (wr (pN 1 k z fun a k=>sv k z (r_fa fa74_0 k z z) fun a k=>sv k z (r_ldb t143 m 0 Ad 0 k z z z z z) fun a k=>sv k z (r_len (α:=Carton) Ab k underlying43 z z) fun a k=>pN 1 k z fun a k=>nn (cI h k z (fun Aj h=>?_) fun Aj h=>?_)))
   · refine wp_skip (nm_then ?_)
     refine wp_seq (wp_block (wr (sv k z (r_fa fa74_0 k z z) fun a k=>sv k z (r_ldb t143 m 0 Ad 0 k z z z z z) fun a k=>pN 1 k z fun a k=>oE h fun At Af h=>sv k z (r_ixa Ab Af k ts43 z z z) fun a k=>sv k z (r_fa fa33_2 k z z) fun a k=>?_)))
     obtain ⟨Au,Av,Ar,Ah,Ao,Ai⟩:=rd_get Ab (ix_some Af).2.2
     obtain ⟨Ap,_,rfl,rfl,Al⟩:=Ah
     refine sv k z (r_ld1 t131 ((Ao.agr (m.a00 (Enc.rd_lt Ab)) Ai).fld 2 1 (Nat.le_of_ble_eq_true z)) k z z) fun a k=>sv k z (r_len (α:=Int) Al k underlying31 z z) fun a k=>pN 1 k z fun a k=>nn (cI h k z (fun Am h=>?_) fun Am h=>?_)
     · refine wr (pN 1 k z fun a k=>nn (wp_ret (rt_block (rt_then (rt_then (rt_block (rt_then ?_)))))))
       refine fS h k m z z
     refine wp_skip (nm_block (nm_then ?_))
     refine wp_region_lit (pN 3 k z fun a k=>nn ?_)
     exact ⟨w64 (Aa + 1),k.keep [1,3] z,m.sel [0] z (by decide),h⟩
   refine wp_exit (ex_then (ex_then (ex_same (nm_then ?_))))
   refine wr (pN 1 k z fun a k=>nn (wp_ret (fS h k m z z)))
 exact ⟨0,k.keep [1,3] z,m.sel [0] z (by decide),h⟩
theorem c_spec_l6Units (fu:Nat) {w0:World} (r1:Request) {Aq:List Value} {F3:List Nat} (Av:rd w0 F3 Aq r1) {r:(List Int)}
    (h:d_spec_l6Units fu r1 = some r) :
    Calls Tryz.prog 86 #[.agg Aq.toArray] w0 fun e w=>∃ (v0:Value) (G0:List Nat),e = .returned (v0) ∧ Ext [] w0 w ∧ ow w G0 [v0] r ∧ (∀ b ∈ G0,w0.heap.size ≤ b):=by
 refine enter (vs:=[_]) func86 z ntmps86 z fun a k=>?_
 have m:=St.start w0
 obtain ⟨v5,F6,v7,F8,v9,Bq,rfl,rfl,Bn,Bp,Ac⟩:=Av
 unfold d_spec_l6Units at h
 refine wr (s_box (cs:=[I r1.fWay,I r1.fPallet.fW,I r1.fPallet.fD,I r1.fPallet.fH,I r1.fPallet.fGram,I r1.fClasses,v5,v7,I r1.fMaster,v9]) m k z z z z z z fun Ah As a k m e Ao=>pN 1 k z fun a k=>nn (wr (s_bs (cs:=[]) (ps:=[]) te31 m k z z z z z z z (by decide) z (by exact (List.forall_mem_nil _)) fun Ar Bf Bo a k m e Ba=>?_)))
 have Bh:=ow_bx Ba ([]:List Int) z z z
 refine pN 1 k z fun a k=>nn (wp_seq (wr (pN 1 k z fun a k=>nn (wp_block (c_loop (fun n a w=>∃ (Aj:List Int) (Ai:Value) (Ab:List Nat) (Ae:World) (Aa:Int),K 29 [(1,.pointer (some (⟨Ah,0,none⟩:Addr))),(3,Ai),(4,I Aa)] a ∧ St [] w0 w [([Ah],As),(Ab,Ae)] ∧ ow Ae Ab [Ai] Aj ∧ d_spec_l6Units_L2 fu r1 n Aj Aa = some r) ?_ ?_ fu _ _ ?_)))))
 · rintro a w ⟨_,_,_,_,_,_,_,_,h⟩
   exact nS h
 · rintro Bb a Bm ⟨Aj,Ai,Ab,Ae,Aa,k,m,Am,h⟩
   rw [d_spec_l6Units_L2_s] at h
   unfold d_spec_l6Units_L2_B at h
   refine wp_seq (wr (pN 1 k z fun a k=>sv k z (r_fa fa30_6 k z z) fun a k=>sv k z (r_ldb t128 m 0 Ao 9 k z z z z z) fun a k=>sv k z (r_len (α:=Item) Ac k underlying28 z z) fun a k=>pN 1 k z fun a k=>nn (cI h k z (fun Bd h=>?_) fun Bd h=>?_)))
   · refine wp_skip (nm_then ?_)
     refine wp_seq (wp_block (wr (pN 1 k z fun a k=>nn (wp_block (c_loop (fun n a w=>∃ (Ak:List Int) (Af:Value) (Al:List Nat) (Ag:World) (Ad:Int),K 29 [(1,.pointer (some (⟨Ah,0,none⟩:Addr))),(3,Af),(4,I Aa),(5,I Ad)] a ∧ St [] w0 w [([Ah],As),(Al,Ag)] ∧ ow Ag Al [Af] Ak ∧ d_spec_l6Units_L1 fu (d_spec_l6Units_L2 fu r1 Bb) r1 Aa n Ak Ad = some r) ?_ ?_ fu _ _ ?_)))))
     · rintro a w ⟨_,_,_,_,_,_,_,_,h⟩
       exact nS h
     · rintro Bj a Bt ⟨Ak,Af,Al,Ag,Ad,k,m,Ap,h⟩
       rw [d_spec_l6Units_L1_s] at h
       unfold d_spec_l6Units_L1_B at h
       refine wp_seq (wr (pN 1 k z fun a k=>sv k z (r_fa fa30_6 k z z) fun a k=>sv k z (r_ldb t128 m 0 Ao 9 k z z z z z) fun a k=>pN 1 k z fun a k=>oE h fun Br At h=>sv k z (r_ixa Ac At k ts28 z z z) fun a k=>sv k z (r_fa fa97_6 k z z) fun a k=>sv k z (r_lde1 Ac (m.a00 (Enc.rd_lt Ac)) At 6 t13 k z z z z) fun a k=>pN 1 k z fun a k=>nn (cI h k z (fun Bc h=>?_) fun Bc h=>?_)))
       · refine wp_skip (nm_then ?_)
         refine wp_seq (wp_block (wp_region_lit (pN 2 k z fun a k=>s_bs (cs:=[I Aa]) (ps:=[(0,.tmp 25)]) te31 m k z z z z z z z (by decide) z (by exact (List.forall_mem_cons.2 ⟨z,(List.forall_mem_nil _)⟩)) fun Bk Bs Bl a k m e Ax=>?_)))
         have Au:=ow_bx Ax ([Aa]:List Int) z z z
         refine oE h fun Az Aw h=>s_appF Aw te31 z m 2 Ap (News.rd (Enc.rd_agr (Enc.ow_rd Au) (m.a 0 z))) z z k z z z z z z z fun Bg Ay Be a k e m Bi=>pN 1 k z fun a k=>wpList_nil (nm_block (nm_then ?_))
         refine wp_region_lit (pN 3 k z fun a k=>nn ?_)
         exact ⟨Az,Bg,Ay,Be,w64 (Ad + 1),k.keep [1,3,4,5] z,m.sel [1,2] z (by decide),Bi,h⟩
       refine wp_exit (ex_then (ex_then (ex_same (nm_block (nm_then ?_)))))
       refine wp_region_lit (pN 3 k z fun a k=>nn ?_)
       exact ⟨Ak,Af,Al,Ag,w64 (Aa + 1),k.keep [1,3,4] z,m.sel [0,1] z (by decide),Ap,h⟩
     exact ⟨Aj,Ai,Ab,Ae,0,k.keep [1,3,4,5] z,m.sel [0,1] z (by decide),Am,h⟩
   refine wp_exit (ex_then (ex_then (ex_same (nm_then ?_))))
   refine wr (pN 2 k z fun a k=>nn (wp_ret ?_))
   cases h
   exact finR1 k z (RV.tmp k z) ⟨_,Ab,z,m.ext,(Enc.ow_agr Am (m.a 1 z)),(m.fresh 1 z)⟩
 exact ⟨([]:List Int),(.slice (some ⟨Ar,0,none⟩) 0 0),[Ar],Bf,0,k.keep [1,3,4] z,m.sel [1,0] z (by decide),Bh,h⟩
theorem c_spec_l15Flat (fu:Nat) {w0:World} (x1:Plan) {Aj:List Value} {F3:List Nat} (Aq:rd w0 F3 Aj x1) {r:(List Int)}
    (h:d_spec_l15Flat fu x1 = some r) :
    Calls Tryz.prog 201 #[.agg Aj.toArray] w0 fun e w=>∃ (v0:Value) (G0:List Nat),e = .returned (v0) ∧ Ext [] w0 w ∧ ow w G0 [v0] r ∧ (∀ b ∈ G0,w0.heap.size ≤ b):=by
 refine enter (vs:=[_]) func201 z ntmps201 z fun a k=>?_
 have m:=St.start w0
 obtain ⟨v5,F6,v7,F8,rfl,rfl,Ac,Bg⟩:=Aq
 unfold d_spec_l15Flat at h
 refine wr (s_box (cs:=[v5,v7]) m k z z z z z z fun Ah Ba a k m e Ai=>pN 1 k z fun a k=>nn (wr (s_bs (cs:=[]) (ps:=[]) te31 m k z z z z z z z (by decide) z (by exact (List.forall_mem_nil _)) fun Ak Az Bh a k m e Ao=>?_)))
 have Bb:=ow_bx Ao ([]:List Int) z z z
 refine pN 1 k z fun a k=>nn (wp_seq (wr (pN 1 k z fun a k=>nn (wp_block (c_loop (fun n a w=>∃ (Ad:List Int) (Ae:Value) (Aa:List Nat) (Af:World) (Ab:Int),K 22 [(1,.pointer (some (⟨Ah,0,none⟩:Addr))),(3,Ae),(4,I Ab)] a ∧ St [] w0 w [([Ah],Ba),(Aa,Af)] ∧ ow Af Aa [Ae] Ad ∧ d_spec_l15Flat_L1 fu x1 n Ad Ab = some r) ?_ ?_ fu _ _ ?_)))))
 · rintro a w ⟨_,_,_,_,_,_,_,_,h⟩
   exact nS h
 · rintro Bj a Bl ⟨Ad,Ae,Aa,Af,Ab,k,m,Ag,h⟩
   rw [d_spec_l15Flat_L1_s] at h
   unfold d_spec_l15Flat_L1_B at h
   refine wp_seq (wr (pN 1 k z fun a k=>sv k z (r_fa fa74_0 k z z) fun a k=>sv k z (r_ldb t143 m 0 Ai 0 k z z z z z) fun a k=>sv k z (r_len (α:=Carton) Ac k underlying43 z z) fun a k=>pN 1 k z fun a k=>nn (cI h k z (fun Aw h=>?_) fun Aw h=>?_)))
   · refine wp_skip (nm_then ?_)
     refine wp_seq (wp_block (wp_region_lit (pN 1 k z fun a k=>sv k z (r_fa fa74_0 k z z) fun a k=>sv k z (r_ldb t143 m 0 Ai 0 k z z z z z) fun a k=>pN 1 k z fun a k=>oE h fun Bk Al h=>sv k z (r_ixa Ac Al k ts43 z z z) fun a k=>sv k z (r_fa fa33_2 k z z) fun a k=>?_)))
     obtain ⟨Be,Bd,Bf,Bc,Ap,Ax⟩:=rd_get Ac (ix_some Al).2.2
     obtain ⟨Bi,_,rfl,rfl,Am⟩:=Bc
     refine sv k z (r_ld1 t131 ((Ap.agr (m.a00 (Enc.rd_lt Ac)) Ax).fld 2 1 (Nat.le_of_ble_eq_true z)) k z z) fun a k=>oE h fun Av Ar h=>s_appF Ar te31 z m 1 Ag (News.rd (Enc.rd_agr Am (m.a00 (Enc.rd_lt Am)))) z z k z z z z z z z fun As At Ay a k e m Au=>pN 1 k z fun a k=>wpList_nil (nm_block (nm_then ?_))
     refine wp_region_lit (pN 3 k z fun a k=>nn ?_)
     exact ⟨Av,As,At,Ay,w64 (Ab + 1),k.keep [1,3,4] z,m.sel [0,1] z (by decide),Au,h⟩
   refine wp_exit (ex_then (ex_then (ex_same (nm_then ?_))))
   refine wr (pN 2 k z fun a k=>nn (wp_ret ?_))
   cases h
   exact finR1 k z (RV.tmp k z) ⟨_,Aa,z,m.ext,(Enc.ow_agr Ag (m.a 1 z)),(m.fresh 1 z)⟩
 exact ⟨([]:List Int),(.slice (some ⟨Ak,0,none⟩) 0 0),[Ak],Az,0,k.keep [1,3,4] z,m.sel [1,0] z (by decide),Bb,h⟩
theorem c_spec_l1Bit (fu:Nat) {w0:World} (Aa:Bool)  {r:Int}
    (h:d_spec_l1Bit fu Aa = some r) :
    Calls Tryz.prog 105 #[.bool (Aa)] w0 fun e w=>e = .returned (I r) ∧ Ext [] w0 w:=by
 refine enter (vs:=[_]) func105 z ntmps105 z fun a k=>?_
 have m:=St.start w0
 unfold d_spec_l1Bit at h
 refine wr (pN 1 k z fun a k=>nn (wp_seq (wr (pN 1 k z fun a k=>nn (cI h k z (fun Ab h=>?_) fun Ab h=>?_)))))
 · refine wr (pN 1 k z fun a k=>nn (wp_ret (rt_then ?_)))
   refine fS h k m z z
 refine wp_skip (nm_then ?_)
 refine wr (pN 1 k z fun a k=>nn (wp_ret (fS h k m z z)))
theorem c_spec_l8Times (fu:Nat) {w0:World} (Ad:List Int) (x5:Int) {v2:Value} {F3:List Nat} (Ac:rd w0 F3 [v2] Ad) {r:Int}
    (h:d_spec_l8Times fu Ad x5 = some r) :
    Calls Tryz.prog 141 #[v2,I x5] w0 fun e w=>e = .returned (I r) ∧ Ext [] w0 w:=by
 refine enter (vs:=[_,_]) func141 z ntmps141 z fun a k=>?_
 have m:=St.start w0
 unfold d_spec_l8Times at h
 refine wr (pN 1 k z fun a k=>nn (wr (pN 1 k z fun a k=>nn (wp_seq (wr (pN 1 k z fun a k=>nn (wp_block (c_loop (fun n a w=>∃ (Ab:Int) (Aa:Int),K 23 [(0,v2),(1,I x5),(5,I Ab),(6,I Aa)] a ∧ St [] w0 w [] ∧ d_spec_l8Times_L1 fu Ad x5 n Ab Aa = some r) ?_ ?_ fu _ _ ?_))))))))
 · rintro a w ⟨_,_,_,_,h⟩
   exact nS h
 · rintro Ai a Aj ⟨Ab,Aa,k,m,h⟩
   rw [d_spec_l8Times_L1_s] at h
   unfold d_spec_l8Times_L1_B at h
   refine wp_seq (wr (pN 2 k z fun a k=>sv k z (r_len (α:=Int) Ac k underlying31 z z) fun a k=>pN 1 k z fun a k=>nn (cI h k z (fun Ag h=>?_) fun Ag h=>?_)))
   · refine wp_skip (nm_then ?_)
     refine wp_seq (wp_block (wp_region_lit (pN 3 k z fun a k=>oE h fun Ak Ae h=>sv k z (r_ixa Ac Ae k ts31 z z z) fun a k=>sv k z (r_lde1 Ac (m.a00 (Enc.rd_lt Ac)) Ae 0 t13 k z z z z) fun a k=>pN 2 k z fun a k=>oE h fun Af Ah h=>cE k m call105 z z z (c_spec_l1Bit fu _  Ah) fun Al e a k m=>pN 2 k z fun a k=>wpList_nil (nm_block (nm_then ?_)))))
     refine wp_region_lit (pN 3 k z fun a k=>nn ?_)
     exact ⟨w64 (Ab + Af),w64 (Aa + 1),k.keep [0,1,5,6] z,m.sel [] z (by decide),h⟩
   refine wp_exit (ex_then (ex_then (ex_same (nm_then ?_))))
   refine wr (pN 2 k z fun a k=>nn (wp_ret (fS h k m z z)))
 exact ⟨0,0,k.keep [0,1,5,6] z,m.sel [] z (by decide),h⟩
theorem c_spec_l15Units (fu:Nat) {w0:World} (Ac:List Int) (x5:Plan) {v2:Value} {F3:List Nat} (Ae:rd w0 F3 [v2] Ac) {Af:List Value} {F7:List Nat} (At:rd w0 F7 Af x5) {r:Bool}
    (h:d_spec_l15Units fu Ac x5 = some r) :
    Calls Tryz.prog 111 #[v2,.agg Af.toArray] w0 fun e w=>e = .returned (.bool (r)) ∧ Ext [] w0 w:=by
 refine enter (vs:=[_,_]) func111 z ntmps111 z fun a k=>?_
 have m:=St.start w0
 obtain ⟨v9,Bc,Ah,Ay,rfl,rfl,Ad,Ai⟩:=At
 unfold d_spec_l15Units at h
 refine wr (s_box (cs:=[v9,Ah]) m k z z z z z z fun Bb Bd a k m e Aj=>pN 1 k z fun a k=>nn (wr (sv k z (r_ldB ta74 m 0 Aj 0 k z z z z z z) fun a k=>oE h fun Am Ap h=>s_call k call201 z z z z z (c_spec_l15Flat fu _ (show rd _ _ [v9,Ah] (x5:Plan) from ⟨_,_,_,_,z,z,(Enc.rd_agr Ad (m.a00 (Enc.rd_lt Ad))),(Enc.rd_agr Ai (m.a00 (Enc.rd_lt Ai)))⟩) Ap) fun Ax Al hR=>?_)))
 obtain ⟨Au,Ag,rfl,e,Ab,Aq⟩:=hR
 refine ⟨_,z,fun a k=>?_⟩
 have m:=m.new e Ag (fun b hb=>⟨Aq b hb,Enc.rd_lt (Enc.ow_rd Ab) b hb⟩) (Enc.ow_nd Ab)
 refine pN 1 k z fun a k=>nn (wp_seq (wr (pN 1 k z fun a k=>sv k z (r_len (α:=Int) (Enc.ow_rd Ab) k underlying31 z z) fun a k=>pN 1 k z fun a k=>sv k z (r_len (α:=Int) Ae k underlying31 z z) fun a k=>pN 1 k z fun a k=>nn (cI h k z (fun As h=>?_) fun As h=>?_))))
 · refine wr (pN 1 k z fun a k=>nn (wp_ret (rt_then ?_)))
   refine fS h k m z z
 refine wp_skip (nm_then ?_)
 refine wp_seq (wr (pN 1 k z fun a k=>nn (wp_block (c_loop (fun n a w=>∃ (Aa:Int),K 24 [(0,v2),(5,Au),(6,I Aa)] a ∧ St [] w0 w [(Ag,Al)] ∧ d_spec_l15Units_L1 fu Ac Am n Aa = some r) ?_ ?_ fu _ _ ?_))))
 · rintro a w ⟨_,_,_,h⟩
   exact nS h
 · rintro Aw a Az ⟨Aa,k,m,h⟩
   rw [d_spec_l15Units_L1_s] at h
   unfold d_spec_l15Units_L1_B at h
   refine wp_seq (wr (pN 2 k z fun a k=>sv k z (r_len (α:=Int) Ae k underlying31 z z) fun a k=>pN 1 k z fun a k=>nn (cI h k z (fun Ak h=>?_) fun Ak h=>?_)))
   · refine wp_skip (nm_then ?_)
     refine wp_seq (wp_block (wr (pN 2 k z fun a k=>oE h fun Av Ao h=>cE k m call141 z z z (c_spec_l8Times fu _ _ (Enc.rd_agr (Enc.ow_rd Ab) (m.a 0 z)) Ao) fun Ba e a k m=>pN 1 k z fun a k=>nn (cI h k z (fun Ar h=>?_) fun Ar h=>?_))))
     · refine wr (pN 1 k z fun a k=>nn (wp_ret (rt_block (rt_then (rt_then (rt_block (rt_then ?_)))))))
       refine fS h k m z z
     refine wp_skip (nm_block (nm_then ?_))
     refine wp_region_lit (pN 3 k z fun a k=>nn ?_)
     exact ⟨w64 (Aa + 1),k.keep [0,5,6] z,m.sel [0] z (by decide),h⟩
   refine wp_exit (ex_then (ex_then (ex_same (nm_then ?_))))
   refine wr (pN 1 k z fun a k=>nn (wp_ret (fS h k m z z)))
 exact ⟨0,k.keep [0,5,6] z,m.sel [0] z (by decide),h⟩
theorem c_spec_TypeById (fu:Nat) {w0:World} (r1:Request) (Ac:Int) {Ah:List Value} {F3:List Nat} (Am:rd w0 F3 Ah r1) {r:Typ × Bool}
    (h:d_spec_TypeById fu r1 Ac = some r) :
    Calls Tryz.prog 64 #[.agg Ah.toArray,I Ac] w0 fun e w=>e = .returned (.tuple #[.agg (Flat.e r.1).toArray,.bool (r.2)]) ∧ Ext [] w0 w:=by
 refine enter (vs:=[_,_]) func64 z ntmps64 z fun a k=>?_
 have m:=St.start w0
 obtain ⟨v6,F7,v8,F9,Ak,At,rfl,rfl,Ay,Aa,Bb⟩:=Am
 unfold d_spec_TypeById at h
 refine wr (s_box (cs:=[I r1.fWay,I r1.fPallet.fW,I r1.fPallet.fD,I r1.fPallet.fH,I r1.fPallet.fGram,I r1.fClasses,v6,v8,I r1.fMaster,Ak]) m k z z z z z z fun Ai As a k m e Af=>s_alloc (cs:=[I 0,I 0,I 0,I 0,I 0,I 0,I 0]) m k zeroValue38 z z z z z fun Aj Aq a k m e Ag=>pN 1 k z fun a k=>nn (wp_seq (wr (pN 1 k z fun a k=>nn (wp_block (c_loop (fun n a w=>∃ (Ae:Int),K 28 [(1,I Ac),(2,.pointer (some (⟨Ai,0,none⟩:Addr))),(4,.pointer (some (⟨Aj,0,none⟩:Addr))),(6,I Ae)] a ∧ St [] w0 w [([Ai],As),([Aj],Aq)] ∧ d_spec_TypeById_L1 fu r1 Ac n Ae = some r) ?_ ?_ fu _ _ ?_))))))
 · rintro a w ⟨_,_,_,h⟩
   exact nS h
 · rintro Ba a Az ⟨Ae,k,m,h⟩
   rw [d_spec_TypeById_L1_s] at h
   unfold d_spec_TypeById_L1_B at h
   refine wp_seq (wr (pN 1 k z fun a k=>sv k z (r_fa fa30_4 k z z) fun a k=>sv k z (r_ldb t127 m 0 Af 7 k z z z z z) fun a k=>sv k z (r_len (α:=Typ) Aa k underlying27 z z) fun a k=>pN 1 k z fun a k=>nn (cI h k z (fun Ap h=>?_) fun Ap h=>?_)))
   · refine wp_skip (nm_then ?_)
     refine wp_seq (wp_block (wr (sv k z (r_fa fa30_4 k z z) fun a k=>sv k z (r_ldb t127 m 0 Af 7 k z z z z z) fun a k=>pN 1 k z fun a k=>oE h fun Ab Ad h=>sv k z (r_ixa Aa Ad k ts27 z z z) fun a k=>sv k z (r_fa fa38_0 k z z) fun a k=>sv k z (r_lde1 Aa (m.a00 (Enc.rd_lt Aa)) Ad 0 t13 k z z z z) fun a k=>pN 2 k z fun a k=>nn (cI h k z (fun Al h=>?_) fun Al h=>?_))))
     · refine wr (sv k z (r_fa fa30_4 k z z) fun a k=>sv k z (r_ldb t127 m 0 Af 7 k z z z z z) fun a k=>pN 1 k z fun a k=>oE h fun Aw Ax h=>sv k z (r_ixa Aa Ad k ts27 z z z) fun a k=>sv k z (r_lde Aa (m.a00 (Enc.rd_lt Aa)) Ad ta38 k z z) fun a k=>s_stb (cs':=[I Ab.fId,I Ab.fW,I Ab.fH,I Ab.fD,I Ab.fTare,I Ab.fGram,I Ab.fCost]) sizeOf38 m 1 Ag 0 k z z z z z z z z z z z fun Au a k e m Ao=>pN 1 k z fun a k=>nn (wp_ret (rt_block (rt_then (rt_then (rt_block (rt_then ?_)))))))
       cases h
       exact finR2 k z (RV.cA k z ta38 (Ao.at (m.a 1 z) 0 7 z z z) z) (RV.tmp k z) ⟨z,m.ext⟩
     refine wp_skip (nm_block (nm_then ?_))
     refine wp_region_lit (pN 3 k z fun a k=>nn ?_)
     exact ⟨w64 (Ae + 1),k.keep [1,2,4,6] z,m.sel [0,1] z (by decide),h⟩
   refine wp_exit (ex_then (ex_then (ex_same (nm_then ?_))))
   refine wr (sv k z (r_build bt38 k (cs:=#[I 0,I 0,I 0,I 0,I 0,I 0,I 0]) (ps:=[]) z z (by kernel_rfl)) fun a k=>s_stb (cs':=[I 0,I 0,I 0,I 0,I 0,I 0,I 0]) sizeOf38 m 1 Ag 0 k z z z z z z z z z z z fun Av a k e m Ar=>pN 1 k z fun a k=>nn (wp_ret ?_))
   cases h
   exact finR2 k z (RV.cA k z ta38 (Ar.at (m.a 1 z) 0 7 z z z) z) (RV.tmp k z) ⟨z,m.ext⟩
 exact ⟨0,k.keep [1,2,4,6] z,m.sel [1,0] z (by decide),h⟩
theorem c_spec_l6Item (fu:Nat) {w0:World} (r1:Request) (Ah:List Int) (u9:Int) {Af:List Value} {F3:List Nat} (Al:rd w0 F3 Af r1) {v6:Value} {F7:List Nat} (Ab:rd w0 F7 [v6] Ah) {r:Item × Bool}
    (h:d_spec_l6Item fu r1 Ah u9 = some r) :
    Calls Tryz.prog 156 #[.agg Af.toArray,v6,I u9] w0 fun e w=>e = .returned (.tuple #[.agg (Flat.e r.1).toArray,.bool (r.2)]) ∧ Ext [] w0 w:=by
 refine enter (vs:=[_,_,_]) func156 z ntmps156 z fun a k=>?_
 have m:=St.start w0
 obtain ⟨Aj,Au,Aq,Bc,Ao,Bd,rfl,rfl,Be,Av,Ac⟩:=Al
 unfold d_spec_l6Item at h
 refine wr (s_box (cs:=[I r1.fWay,I r1.fPallet.fW,I r1.fPallet.fD,I r1.fPallet.fH,I r1.fPallet.fGram,I r1.fClasses,Aj,Aq,I r1.fMaster,Ao]) m k z z z z z z fun Ba Aw a k m e Ak=>s_alloc (cs:=[I 0,I 0,I 0,I 0,I 0,I 0,I 0]) m k zeroValue97 z z z z z fun Ag Bb a k m e Ad=>pN 1 k z fun a k=>nn (wp_seq (wr (pN 2 k z fun a k=>sv k z (r_len (α:=Int) Ab k underlying31 z z) fun a k=>pN 1 k z fun a k=>oE h fun Ay Ar h=>cE k m call142 z z z (c_spec_l1In fu _ _ _  Ar) fun Ax e a k m=>pN 1 k z fun a k=>nn (cI h k z (fun Am h=>?_) fun Am h=>?_)))))
 · refine wr (sv k z (r_build bt97 k (cs:=#[I 0,I 0,I 0,I 0,I 0,I 0,I 0]) (ps:=[]) z z (by kernel_rfl)) fun a k=>s_stb (cs':=[I 0,I 0,I 0,I 0,I 0,I 0,I 0]) sizeOf97 m 0 Ad 0 k z z z z z z z z z z z fun Bg a k e m At=>pN 1 k z fun a k=>nn (wp_ret (rt_then ?_)))
   cases h
   exact finR2 k z (RV.cA k z ta97 (At.at (m.a 0 z) 0 7 z z z) z) (RV.tmp k z) ⟨z,m.ext⟩
 refine wp_skip (nm_then ?_)
 refine wp_seq (d_go ([Ag]) mixo m z fun As hMd=>?_)
 have m:=hMd
 have s:=Ext.refl (([Ag]):List Nat) As
 refine dN [2,3] 2 z k (by kernel_rfl) z s (fun _ _ _ _ _=>id) fun a k=>dt k 0 z (by kernel_rfl) z s (fun _ _ _=>id) (fun w s=>r_fa fa30_6 k z z) fun a k=>dt k 1 z (by kernel_rfl) z s (fun _ _ _=>id) (fun w s=>r_ld1 t128 (r:=[]) (Ak.at (hMd.az 1 0 z z z s) 9 1 z z z) k z z) fun a k=>oE h fun Bf Ai h=>dt k 4 z (by kernel_rfl) z s (fun _ _ _=>id) (fun w s=>r_ixa Ab Ai k ts31 z z z) fun a k=>dt k 5 z (by kernel_rfl) z s (fun _ _ _=>id) (fun w s=>r_lde1 Ab (hMd.az0 0 z z (Enc.rd_lt Ab) s) Ai 0 t13 k z z z z) fun a k=>oE h fun Aa Ae h=>dt k 6 z (by kernel_rfl) z s (fun _ _ _=>id) (fun w s=>r_ixa Ac Ae k ts28 z z z) fun a k=>?_
 refine dt k 7 z (by kernel_rfl) z s (fun _ _ _=>id) (fun w s=>r_lde Ac (hMd.az0 0 z z (Enc.rd_lt Ac) s) Ae ta97 k z z) fun a k=>d_one 8 (by kernel_rfl) z (s_stb (cs':=[I Aa.fId,I Aa.fW,I Aa.fH,I Aa.fD,I Aa.fGram,I Aa.fClass,I Aa.fCount]) sizeOf97 m 0 Ad 0 k z z z z z z z z z z z fun Az a k e m Ap=>?_)
 have s:=s.trans e (fun y hy=>Or.inl hy)
 refine wpList_nil ⟨s,?_⟩
 refine dN [9] 1 z k (by kernel_rfl) z s (fun _ _ _ _ _=>id) fun a k=>d_done (by kernel_rfl) ((nm_then ?_))
 refine wp_ret ?_
 cases h
 exact finR2 k z (RV.cA k z ta97 (Ap.at (m.a 0 z) 0 7 z z z) z) (RV.tmp k z) ⟨z,m.ext⟩
theorem c_spec_Volume (fu:Nat) {w0:World} (Ac:Int) (h2:Int) (d3:Int)  {r:Int}
    (h:d_spec_Volume fu Ac h2 d3 = some r) :
    Calls Tryz.prog 66 #[I Ac,I h2,I d3] w0 fun e w=>e = .returned (I r) ∧ Ext [] w0 w:=by
 refine enter (vs:=[_,_,_]) func66 z ntmps66 z fun a k=>?_
 have m:=St.start w0
 unfold d_spec_Volume at h
 refine wr (pN 1 k z fun a k=>nn (c_cut (fun a w=>K 25 [(0,I Ac),(1,I h2),(2,I d3)] a ∧ St [] w0 w [] ∧ d_spec_Volume_J1 fu Ac h2 d3 = some r) ?_ ?_))
 · rintro a Am ⟨k,m,h⟩
   unfold d_spec_Volume_J1 at h
   refine wr (pN 6 k z fun a k=>nn (wp_ret (fS h k m z z)))
 refine wr (pN 1 k z fun a k=>oE h fun Ah Ae h=>cE k m call142 z z z (c_spec_l1In fu _ _ _  Ae) fun Ao e a k m=>pN 2 k z fun a k=>bsplit (!Ah) (fun Aa=>?_) (fun Aa=>?_))
 · have h:=bif_t Aa h
   refine rB k 10 z Aa fun k=>pN 9 k z fun a k=>nn (wp_cond_true (k.ev z) (wr (pN 1 k z fun a k=>nn (wp_ret (rt_then ?_)))))
   refine fS h k m z z
 have h:=bif_f Aa h
 refine rB k 10 z Aa fun k=>pN 1 k z fun a k=>oE h fun Ad Ai h=>cE k m call142 z z z (c_spec_l1In fu _ _ _  Ai) fun Aj e a k m=>pN 3 k z fun a k=>bsplit (!Ad) (fun Ab=>?_) (fun Ab=>?_)
 · have h:=bif_t Ab h
   refine rB k 15 z Ab fun k=>pN 4 k z fun a k=>nn (wp_cond_true (k.ev z) (wr (pN 1 k z fun a k=>nn (wp_ret (rt_then ?_)))))
   refine fS h k m z z
 have h:=bif_f Ab h
 refine rB k 15 z Ab fun k=>pN 1 k z fun a k=>oE h fun Ak Ag h=>cE k m call142 z z z (c_spec_l1In fu _ _ _  Ag) fun Al e a k m=>pN 2 k z fun a k=>nn (cI h k z (fun Af h=>?_) fun Af h=>?_)
 · refine wr (pN 1 k z fun a k=>nn (wp_ret (rt_then ?_)))
   refine fS h k m z z
 refine wp_skip (nm_then ?_)
 exact ⟨k.keep [0,1,2] z,m.sel [] z (by decide),h⟩
theorem c_spec_l7Of (fu:Nat) {w0:World} (r1:Request) (Ao:List Int) (Al:List Int) {Bh:List Value} {F3:List Nat} (Cd:rd w0 F3 Bh r1) {v6:Value} {F7:List Nat} (At:rd w0 F7 [v6] Ao) {Aj:Value} {Bu:List Nat} (Av:rd w0 Bu [Aj] Al) {r:L7}
    (h:d_spec_l7Of fu r1 Ao Al = some r) :
    Calls Tryz.prog 243 #[.agg Bh.toArray,v6,Aj] w0 fun e w=>e = .returned (.agg (Flat.e r).toArray) ∧ Ext [] w0 w:=by
 refine enter (vs:=[_,_,_]) func243 z ntmps243 z fun a k=>?_
 have m:=St.start w0
 obtain ⟨Ax,De,Bd,Cu,Ba,Dg,rfl,rfl,As,Au,Ar⟩:=Cd
 unfold d_spec_l7Of at h
 refine wr (s_box (cs:=[I r1.fWay,I r1.fPallet.fW,I r1.fPallet.fD,I r1.fPallet.fH,I r1.fPallet.fGram,I r1.fClasses,Ax,Bd,I r1.fMaster,Ba]) m k z z z z z z fun Ah Be a k m e Bx=>s_alloc (cs:=[I 0,I 0]) m k zeroValue217 z z z z z fun Ag Az a k m e Cg=>nn (wr (sv k z (r_build bt217 k (cs:=#[I 0,I 0]) (ps:=[]) z z (by kernel_rfl)) fun a k=>s_alloc (cs:=[I 0,I 0]) m k zeroValue217 z z z z z fun Ac Cy a k m e Cm=>s_stb (cs':=[I 0,I 0]) sizeOf217 m 0 Cm 0 k z z z z z z z z z z z fun Bo a k e m Ca=>nn (wp_seq (wr (pN 1 k z fun a k=>nn (wp_block ?_)))))))
 refine c_loop (fun n a w=>∃ (Aa:L7) (Aw:World) (Ad:Int),K 46 [(1,v6),(2,Aj),(3,.pointer (some (⟨Ah,0,none⟩:Addr))),(6,.pointer (some (⟨Ag,0,none⟩:Addr))),(7,.pointer (some (⟨Ac,0,none⟩:Addr))),(8,I Ad)] a ∧ St [] w0 w [([Ah],Be),([Ag],Az),([Ac],Aw)] ∧ bx Aw Ac [I Aa.fvol,I Aa.fgram] 217 ∧ d_spec_l7Of_L1 fu r1 Ao Al n Aa Ad = some r) ?_ ?_ fu _ _ ?_
 · rintro a w ⟨_,_,_,_,_,_,h⟩
   exact nS h
 · rintro Bj a Dc ⟨Aa,Aw,Ad,k,m,Ak,h⟩
   rw [d_spec_l7Of_L1_s] at h
   unfold d_spec_l7Of_L1_B at h
   refine wp_seq (wr (pN 2 k z fun a k=>sv k z (r_len (α:=Int) Av k underlying31 z z) fun a k=>pN 1 k z fun a k=>nn (cI h k z (fun Cp h=>?_) fun Cp h=>?_)))
   · refine wp_skip (nm_then ?_)
     refine c_cut (fun a w=>∃ (Am:L7) (Aq:World),K 46 [(1,v6),(2,Aj),(3,.pointer (some (⟨Ah,0,none⟩:Addr))),(6,.pointer (some (⟨Ag,0,none⟩:Addr))),(7,.pointer (some (⟨Ac,0,none⟩:Addr))),(8,I Ad)] a ∧ St [] w0 w [([Ah],Be),([Ag],Az),([Ac],Aq)] ∧ bx Aq Ac [I Am.fvol,I Am.fgram] 217 ∧ d_spec_l7Of_J1 fu (d_spec_l7Of_L1 fu r1 Ao Al Bj) Ad Am = some r) ?_ ?_
     · rintro a Cz ⟨Am,Aq,k,m,Bm,h⟩
       unfold d_spec_l7Of_J1 at h
       refine wp_region_lit (pN 3 k z fun a k=>nn ?_)
       exact ⟨Am,Aq,w64 (Ad + 1),k.keep [1,2,3,6,7,8] z,m.sel [0,1,2] z (by decide),Bm,h⟩
     refine wp_block (c_cut (fun a w=>∃ (Ab:Item) (Ap:Nat) (Ay:World),K 46 [(1,v6),(2,Aj),(3,.pointer (some (⟨Ah,0,none⟩:Addr))),(6,.pointer (some (⟨Ag,0,none⟩:Addr))),(7,.pointer (some (⟨Ac,0,none⟩:Addr))),(8,I Ad),(9,.pointer (some (⟨Ap,0,none⟩:Addr)))] a ∧ St [] w0 w [([Ah],Be),([Ag],Az),([Ac],Aw),([Ap],Ay)] ∧ bx Ay Ap [I Ab.fId,I Ab.fW,I Ab.fH,I Ab.fD,I Ab.fGram,I Ab.fClass,I Ab.fCount] 97 ∧ d_spec_l7Of_J2 fu (d_spec_l7Of_L1 fu r1 Ao Al Bj) Aa Ad Ab = some r) ?_ ?_)
     · rintro a Cx ⟨Ab,Ap,Ay,k,m,Ai,h⟩
       unfold d_spec_l7Of_J2 at h
       refine wp_seq (d_go ([Ac]) mixo m z fun Bz hMd=>?_)
       have m:=hMd
       have s:=Ext.refl (([Ac]):List Nat) Bz
       refine dt k 0 z (by kernel_rfl) z s (fun _ _ _=>id) (fun w s=>r_fa fa217_0 k z z) fun a k=>dt k 2 z (by kernel_rfl) z s (fun _ _ _=>id) (fun w s=>r_fa fa97_1 k z z) fun a k=>dt k 3 z (by kernel_rfl) z s (fun _ _ _=>id) (fun w s=>r_ld1 t13 (r:=[]) (Ai.at (hMd.az 3 2 z z z s) 1 1 z z z) k z z) fun a k=>dt k 4 z (by kernel_rfl) z s (fun _ _ _=>id) (fun w s=>r_fa fa97_2 k z z) fun a k=>dt k 5 z (by kernel_rfl) z s (fun _ _ _=>id) (fun w s=>r_ld1 t13 (r:=[]) (Ai.at (hMd.az 3 2 z z z s) 2 1 z z z) k z z) fun a k=>dt k 6 z (by kernel_rfl) z s (fun _ _ _=>id) (fun w s=>r_fa fa97_3 k z z) fun a k=>?_
       refine dt k 7 z (by kernel_rfl) z s (fun _ _ _=>id) (fun w s=>r_ld1 t13 (r:=[]) (Ai.at (hMd.az 3 2 z z z s) 3 1 z z z) k z z) fun a k=>d_two 1 8 (by kernel_rfl) z z ?_ ?_ 
       · refine sv k z (r_ldb t13 m 2 Ak 0 k z z z z z) fun a k=>wpList_nil ⟨s,?_⟩
         refine d_one 8 (by kernel_rfl) z (oE h fun Bb Ci h=>cE k m call66 z z z (c_spec_Volume fu _ _ _  Ci) fun Cw e a k m=>?_)
         have s:=s.trans e (by simp)
         refine wpList_nil ⟨s,?_⟩
         refine dN [9] 1 z k (by kernel_rfl) z s (fun _ _ _ _ _=>id) fun a k=>dt k 10 z (by kernel_rfl) z s (fun _ _ _=>id) (fun w s=>r_fa fa217_0 k z z) fun a k=>d_one 11 (by kernel_rfl) z (s_stb (cs':=[I (w64 (Aa.fvol + Bb)),I Aa.fgram]) sizeOf3 m 2 Ak 0 k z z z z z z z z z z z fun Df a k e m Bg=>?_)
         have s:=s.trans e (fun y hy=>Or.inl hy)
         refine wpList_nil ⟨s,?_⟩
         refine d_done (by kernel_rfl) ((nm_then ?_))
         refine wp_region_lit (sv k z (r_fa fa217_1 k z z) fun a k=>sv k z (r_ldb t13 m 2 Bg 1 k z z z z z) fun a k=>sv k z (r_fa fa97_4 k z z) fun a k=>sv k z (r_ldb t13 m 3 Ai 4 k z z z z z) fun a k=>pN 1 k z fun a k=>sv k z (r_fa fa217_1 k z z) fun a k=>s_stb (cs':=[I (w64 (Aa.fvol + Bb)),I (w64 (Aa.fgram + Ab.fGram))]) sizeOf3 m 2 Bg 1 k z z z z z z z z z z z fun Ch a k e m Cj=>wpList_nil (nm_block (nm_then ?_)))
         exact ⟨(⟨w64 (Aa.fvol + Bb),w64 (Aa.fgram + Ab.fGram)⟩:L7),Ch,k.keep [1,2,3,6,7,8] z,m.sel [0,1,2] z (by decide),Cj,h⟩
       refine oE h fun Bc Bv h=>cE k m call66 z z z (c_spec_Volume fu _ _ _  Bv) fun Cs e a k m=>?_
       have s:=s.trans e (by simp)
       refine wpList_nil ⟨s,?_⟩
       refine d_one 1 (by kernel_rfl) z (sv k z (r_ldb t13 m 2 Ak 0 k z z z z z) fun a k=>wpList_nil ⟨s,?_⟩)
       refine dN [9] 1 z k (by kernel_rfl) z s (fun _ _ _ _ _=>id) fun a k=>dt k 10 z (by kernel_rfl) z s (fun _ _ _=>id) (fun w s=>r_fa fa217_0 k z z) fun a k=>d_one 11 (by kernel_rfl) z (s_stb (cs':=[I (w64 (Aa.fvol + Bc)),I Aa.fgram]) sizeOf3 m 2 Ak 0 k z z z z z z z z z z z fun Cq a k e m Bi=>?_)
       have s:=s.trans e (fun y hy=>Or.inl hy)
       refine wpList_nil ⟨s,?_⟩
       refine d_done (by kernel_rfl) ((nm_then ?_))
       refine wp_region_lit (sv k z (r_fa fa217_1 k z z) fun a k=>sv k z (r_ldb t13 m 2 Bi 1 k z z z z z) fun a k=>sv k z (r_fa fa97_4 k z z) fun a k=>sv k z (r_ldb t13 m 3 Ai 4 k z z z z z) fun a k=>pN 1 k z fun a k=>sv k z (r_fa fa217_1 k z z) fun a k=>s_stb (cs':=[I (w64 (Aa.fvol + Bc)),I (w64 (Aa.fgram + Ab.fGram))]) sizeOf3 m 2 Bi 1 k z z z z z z z z z z z fun Bq a k e m Cf=>wpList_nil (nm_block (nm_then ?_)))
       exact ⟨(⟨w64 (Aa.fvol + Bc),w64 (Aa.fgram + Ab.fGram)⟩:L7),Bq,k.keep [1,2,3,6,7,8] z,m.sel [0,1,2] z (by decide),Cf,h⟩
     refine d_go [] mixo m z fun Bk hMd=>?_
     have m:=hMd
     have s:=Ext.refl ([]:List Nat) Bk
     refine dN [1,2,3] 3 z k (by kernel_rfl) z s (fun _ _ _ _ _=>id) fun a k=>dt k 0 z (by kernel_rfl) z s (fun _ _ _=>id) (fun w s=>r_ldA ta30 (Bx.at ((hMd.step s).a 0 z) 0 10 z z z) z k z z) fun a k=>oE h fun Db Bf h=>dt k 4 z (by kernel_rfl) z s (fun _ _ _=>id) (fun w s=>r_ixa Av Bf k ts31 z z z) fun a k=>dt k 5 z (by kernel_rfl) z s (fun _ _ _=>id) (fun w s=>r_lde1 Av ((hMd.step s).a00 (Enc.rd_lt Av)) Bf 0 t13 k z z z z) fun a k=>d_two 6 10 (by kernel_rfl) z z ?_ ?_ 
     · refine oE h fun Ae Bw h=>cE k m call156 z z z (c_spec_l6Item fu _ _ _ (show rd _ _ [I r1.fWay,I r1.fPallet.fW,I r1.fPallet.fD,I r1.fPallet.fH,I r1.fPallet.fGram,I r1.fClasses,Ax,Bd,I r1.fMaster,Ba] (r1:Request) from ⟨_,_,_,_,_,_,z,z,(Enc.rd_agr As (m.a00 (Enc.rd_lt As))),(Enc.rd_agr Au (m.a00 (Enc.rd_lt Au))),(Enc.rd_agr Ar (m.a00 (Enc.rd_lt Ar)))⟩) (Enc.rd_agr At (m.a00 (Enc.rd_lt At))) Bw) fun Cv e a k m=>?_
       have s:=s.trans e (by simp)
       refine wpList_nil ⟨s,?_⟩
       refine dN [7,8,9] 3 z k (by kernel_rfl) z s (fun _ _ _ _ _=>id) fun a k=>d_one 10 (by kernel_rfl) z (s_allocN (cs:=[I 0,I 0,I 0,I 0,I 0,I 0,I 0]) m k zeroValue97 z z z z z fun Br Cr a k m e Bs Cc=>?_)
       have Cl:=lo1 (Nat.le_trans s.size Cc)
       have s:=s.trans e (by simp)
       refine wpList_nil ⟨s,?_⟩
       refine d_one 11 (by kernel_rfl) z (s_stb (cs':=[I Ae.1.fId,I Ae.1.fW,I Ae.1.fH,I Ae.1.fD,I Ae.1.fGram,I Ae.1.fClass,I Ae.1.fCount]) sizeOf97 m 0 Bs 0 k z z z z z z z z z z z fun Bl a k e m Bn=>?_)
       have s:=s.trans e (fun y hy=>Or.inr (Cl y hy))
       refine wpList_nil ⟨s,?_⟩
       refine dN [12] 1 z k (by kernel_rfl) z s (fun _ _ _ _ _=>id) fun a k=>d_done (by kernel_rfl) ((nm_then ?_))
       exact ⟨Ae.1,Br,Bl,k.keep [1,2,3,6,7,8,9] z,m.sel [1,2,3,0] z (by decide),Bn,h⟩
     refine s_allocN (cs:=[I 0,I 0,I 0,I 0,I 0,I 0,I 0]) m k zeroValue97 z z z z z fun Cn Dd a k m e Bt Bp=>?_
     have Ck:=lo1 (Nat.le_trans s.size Bp)
     have s:=s.trans e (by simp)
     refine wpList_nil ⟨s,?_⟩
     refine d_one 6 (by kernel_rfl) z (oE h fun Af By h=>cE k m call156 z z z (c_spec_l6Item fu _ _ _ (show rd _ _ [I r1.fWay,I r1.fPallet.fW,I r1.fPallet.fD,I r1.fPallet.fH,I r1.fPallet.fGram,I r1.fClasses,Ax,Bd,I r1.fMaster,Ba] (r1:Request) from ⟨_,_,_,_,_,_,z,z,(Enc.rd_agr As (m.a00 (Enc.rd_lt As))),(Enc.rd_agr Au (m.a00 (Enc.rd_lt Au))),(Enc.rd_agr Ar (m.a00 (Enc.rd_lt Ar)))⟩) (Enc.rd_agr At (m.a00 (Enc.rd_lt At))) By) fun Da e a k m=>?_)
     have s:=s.trans e (by simp)
     refine wpList_nil ⟨s,?_⟩
     refine dN [7,8,9] 3 z k (by kernel_rfl) z s (fun _ _ _ _ _=>id) fun a k=>d_one 11 (by kernel_rfl) z (s_stb (cs':=[I Af.1.fId,I Af.1.fW,I Af.1.fH,I Af.1.fD,I Af.1.fGram,I Af.1.fClass,I Af.1.fCount]) sizeOf97 m 0 Bt 0 k z z z z z z z z z z z fun Co a k e m Ce=>?_)
     have s:=s.trans e (fun y hy=>Or.inr (Ck y hy))
     refine wpList_nil ⟨s,?_⟩
     refine dN [12] 1 z k (by kernel_rfl) z s (fun _ _ _ _ _=>id) fun a k=>d_done (by kernel_rfl) ((nm_then ?_))
     exact ⟨Af.1,Cn,Co,k.keep [1,2,3,6,7,8,9] z,m.sel [1,2,3,0] z (by decide),Ce,h⟩
   refine wp_exit (ex_then (ex_then (ex_same (nm_then ?_))))
   refine wr (sv k z (r_ldB ta217 m 2 Ak 0 k z z z z z z) fun a k=>s_stb (cs':=[I Aa.fvol,I Aa.fgram]) sizeOf217 m 1 Cg 0 k z z z z z z z z z z z fun Ct a k e m Cb=>nn (wp_ret ?_))
   cases h
   exact finR1 k z (RV.cA k z ta217 (Cb.at (m.a 1 z) 0 2 z z z) z) ⟨z,m.ext⟩
 exact ⟨(⟨0,0⟩:L7),Bo,0,k.keep [1,2,3,6,7,8] z,m.sel [2,1,0] z (by decide),Ca,h⟩
theorem c_spec_Holds (fu:Nat) {w0:World} (r1:Request) (Ak:List Int) (t9:Typ) {Bg:List Value} {F3:List Nat} (Ca:rd w0 F3 Bg r1) {v6:Value} {F7:List Nat} (Am:rd w0 F7 [v6] Ak) {r:Bool}
    (h:d_spec_Holds fu r1 Ak t9 = some r) :
    Calls Tryz.prog 202 #[.agg Bg.toArray,v6,.agg (Flat.e (t9)).toArray] w0 fun e w=>e = .returned (.bool (r)) ∧ Ext [] w0 w:=by
 refine enter (vs:=[_,_,_]) func202 z ntmps202 z fun a k=>?_
 have m:=St.start w0
 obtain ⟨Aj,Cq,Al,Cx,Ao,Cy,rfl,rfl,Ad,Ac,Aa⟩:=Ca
 unfold d_spec_Holds at h
 refine wr (s_box (cs:=[I r1.fWay,I r1.fPallet.fW,I r1.fPallet.fD,I r1.fPallet.fH,I r1.fPallet.fGram,I r1.fClasses,Aj,Al,I r1.fMaster,Ao]) m k z z z z z z fun Ag Ax a k m e Aw=>s_box (cs:=[I t9.fId,I t9.fW,I t9.fH,I t9.fD,I t9.fTare,I t9.fGram,I t9.fCost]) m k z z z z z z fun Ah Ba a k m e Ar=>pN 1 k z fun a k=>nn (wp_seq (wr (sv k z (r_ldB ta30 m 1 Aw 0 k z z z z z z) fun a k=>oE h fun De Bu h=>?_))))
 refine cE k m call19 z z z (c_spec_Class fu _ (show rd _ _ [I r1.fWay,I r1.fPallet.fW,I r1.fPallet.fD,I r1.fPallet.fH,I r1.fPallet.fGram,I r1.fClasses,Aj,Al,I r1.fMaster,Ao] (r1:Request) from ⟨_,_,_,_,_,_,z,z,(Enc.rd_agr Ad (m.a00 (Enc.rd_lt Ad))),(Enc.rd_agr Ac (m.a00 (Enc.rd_lt Ac))),(Enc.rd_agr Aa (m.a00 (Enc.rd_lt Aa)))⟩) Bu) fun Dd e a k m=>pN 1 k z fun a k=>nn (cI h k z (fun Cf h=>?_) fun Cf h=>?_)
 · refine wr (pN 1 k z fun a k=>nn (wp_ret (rt_then ?_)))
   refine fS h k m z z
 refine wp_skip (nm_then ?_)
 refine wr (sv k z (r_ldB ta30 m 1 Aw 0 k z z z z z z) fun a k=>oE h fun Az Bt h=>s_call k call86 z z z z z (c_spec_l6Units fu _ (show rd _ _ [I r1.fWay,I r1.fPallet.fW,I r1.fPallet.fD,I r1.fPallet.fH,I r1.fPallet.fGram,I r1.fClasses,Aj,Al,I r1.fMaster,Ao] (r1:Request) from ⟨_,_,_,_,_,_,z,z,(Enc.rd_agr Ad (m.a00 (Enc.rd_lt Ad))),(Enc.rd_agr Ac (m.a00 (Enc.rd_lt Ac))),(Enc.rd_agr Aa (m.a00 (Enc.rd_lt Aa)))⟩) Bt) fun Cm Ay hR=>?_)
 obtain ⟨Av,Aq,rfl,e,At,Bs⟩:=hR
 refine ⟨_,z,fun a k=>?_⟩
 have m:=m.new e Aq (fun b hb=>⟨Bs b hb,Enc.rd_lt (Enc.ow_rd At) b hb⟩) (Enc.ow_nd At)
 refine pN 1 k z fun a k=>nn (c_cut (fun a w=>K 62 [(1,v6),(3,.pointer (some (⟨Ag,0,none⟩:Addr))),(5,.pointer (some (⟨Ah,0,none⟩:Addr))),(7,Av)] a ∧ St [] w0 w [([Ag],Ax),([Ah],Ba),(Aq,Ay)] ∧ d_spec_Holds_J1 fu r1 Ak t9 Az = some r) ?_ ?_)
 · rintro a Co ⟨k,m,h⟩
   unfold d_spec_Holds_J1 at h
   refine wr (sv k z (r_ldB ta30 m 0 Aw 0 k z z z z z z) fun a k=>pN 2 k z fun a k=>oE h fun Bc Cg h=>cE k m call243 z z z (c_spec_l7Of fu _ _ _ (show rd _ _ [I r1.fWay,I r1.fPallet.fW,I r1.fPallet.fD,I r1.fPallet.fH,I r1.fPallet.fGram,I r1.fClasses,Aj,Al,I r1.fMaster,Ao] (r1:Request) from ⟨_,_,_,_,_,_,z,z,(Enc.rd_agr Ad (m.a00 (Enc.rd_lt Ad))),(Enc.rd_agr Ac (m.a00 (Enc.rd_lt Ac))),(Enc.rd_agr Aa (m.a00 (Enc.rd_lt Aa)))⟩) (Enc.rd_agr (Enc.ow_rd At) (m.a 2 z)) (Enc.rd_agr Am (m.a00 (Enc.rd_lt Am))) Cg) fun Ct e a k m=>s_alloc (cs:=[I 0,I 0]) m k zeroValue217 z z z z z fun Cv Db a k m e Bn=>?_)
   refine s_stb (cs':=[I Bc.fvol,I Bc.fgram]) sizeOf217 m 0 Bn 0 k z z z z z z z z z z z fun Dc a k e m Bf=>nn (wp_seq (d_go [] mixo m z fun Bq hMd=>?_))
   have m:=hMd
   have s:=Ext.refl ([]:List Nat) Bq
   refine dt k 0 z (by kernel_rfl) z s (fun _ _ _=>id) (fun w s=>r_fa fa217_0 k z z) fun a k=>dt k 1 z (by kernel_rfl) z s (fun _ _ _=>id) (fun w s=>r_ld1 t13 (r:=[]) (Bf.at ((hMd.step s).a 0 z) 0 1 z z z) k z z) fun a k=>dt k 2 z (by kernel_rfl) z s (fun _ _ _=>id) (fun w s=>r_fa fa38_1 k z z) fun a k=>dt k 3 z (by kernel_rfl) z s (fun _ _ _=>id) (fun w s=>r_ld1 t13 (r:=[]) (Ar.at ((hMd.step s).a 2 z) 1 1 z z z) k z z) fun a k=>dt k 4 z (by kernel_rfl) z s (fun _ _ _=>id) (fun w s=>r_fa fa38_2 k z z) fun a k=>dt k 5 z (by kernel_rfl) z s (fun _ _ _=>id) (fun w s=>r_ld1 t13 (r:=[]) (Ar.at ((hMd.step s).a 2 z) 2 1 z z z) k z z) fun a k=>?_
   refine dt k 6 z (by kernel_rfl) z s (fun _ _ _=>id) (fun w s=>r_fa fa38_3 k z z) fun a k=>dt k 7 z (by kernel_rfl) z s (fun _ _ _=>id) (fun w s=>r_ld1 t13 (r:=[]) (Ar.at ((hMd.step s).a 2 z) 3 1 z z z) k z z) fun a k=>d_one 8 (by kernel_rfl) z (oE h fun Cc Bz h=>cE k m call66 z z z (c_spec_Volume fu _ _ _  Bz) fun Cn e a k m=>?_)
   have s:=s.trans e (by simp)
   refine wpList_nil ⟨s,?_⟩
   refine dN [9,10] 2 z k (by kernel_rfl) z s (fun _ _ _ _ _=>id) fun a k=>bsplit (decide (Bc.fvol ≤ Cc)) (fun Ap=>?_) (fun Ap=>?_)
   · have h:=bif_t Ap h
     refine rB k 55 z Ap fun k=>dt k 11 z (by kernel_rfl) z s (fun _ _ _=>id) (fun w s=>r_fa fa217_1 k z z) fun a k=>dt k 12 z (by kernel_rfl) z s (fun _ _ _=>id) (fun w s=>r_ld1 t13 (r:=[]) (Bf.at ((hMd.step s).a 0 z) 1 1 z z z) k z z) fun a k=>dt k 13 z (by kernel_rfl) z s (fun _ _ _=>id) (fun w s=>r_fa fa38_5 k z z) fun a k=>dt k 14 z (by kernel_rfl) z s (fun _ _ _=>id) (fun w s=>r_ld1 t13 (r:=[]) (Ar.at ((hMd.step s).a 2 z) 5 1 z z z) k z z) fun a k=>dN [15,16,17] 3 z k (by kernel_rfl) z s (fun _ _ _ _ _=>id) fun a k=>d_done (by kernel_rfl) ((nm_then ?_))
     refine wp_ret (fS h k m z z)
   have h:=bif_f Ap h
   refine rB k 55 z Ap fun k=>dN [11,12,13,14,15,16,17] 7 z k (by kernel_rfl) z s (fun _ _ _ _ _=>id) fun a k=>d_done (by kernel_rfl) ((nm_then ?_))
   refine wp_ret (fS h k m z z)
 refine wr (pN 1 k z fun a k=>nn (wp_block (c_loop (fun n a w=>∃ (Ai:Int),K 62 [(1,v6),(3,.pointer (some (⟨Ag,0,none⟩:Addr))),(5,.pointer (some (⟨Ah,0,none⟩:Addr))),(7,Av),(8,I Ai)] a ∧ St [] w0 w [([Ag],Ax),([Ah],Ba),(Aq,Ay)] ∧ d_spec_Holds_L1 fu r1 Ak t9 Az n Ai = some r) ?_ ?_ fu _ _ ?_)))
 · rintro a w ⟨_,_,_,h⟩
   exact nS h
 · rintro Bh a Cz ⟨Ai,k,m,h⟩
   rw [d_spec_Holds_L1_s] at h
   unfold d_spec_Holds_L1_B at h
   refine wp_seq (wr (pN 2 k z fun a k=>sv k z (r_len (α:=Int) Am k underlying31 z z) fun a k=>pN 1 k z fun a k=>nn (cI h k z (fun Bw h=>?_) fun Bw h=>?_)))
   · refine wp_skip (nm_then ?_)
     refine c_cut (fun a w=>K 62 [(1,v6),(3,.pointer (some (⟨Ag,0,none⟩:Addr))),(5,.pointer (some (⟨Ah,0,none⟩:Addr))),(7,Av),(8,I Ai)] a ∧ St [] w0 w [([Ag],Ax),([Ah],Ba),(Aq,Ay)] ∧ d_spec_Holds_J2 fu (d_spec_Holds_L1 fu r1 Ak t9 Az Bh) Ai = some r) ?_ ?_
     · rintro a Cu ⟨k,m,h⟩
       unfold d_spec_Holds_J2 at h
       refine wp_region_lit (pN 3 k z fun a k=>nn ?_)
       exact ⟨w64 (Ai + 1),k.keep [1,3,5,7,8] z,m.sel [0,1,2] z (by decide),h⟩
     refine wp_block (c_cut (fun a w=>∃ (Ab:Item) (Au:Nat) (Bd:World) (Bb:Bool),K 62 [(1,v6),(3,.pointer (some (⟨Ag,0,none⟩:Addr))),(5,.pointer (some (⟨Ah,0,none⟩:Addr))),(7,Av),(8,I Ai),(9,.pointer (some (⟨Au,0,none⟩:Addr))),(10,.bool (Bb))] a ∧ St [] w0 w [([Ag],Ax),([Ah],Ba),(Aq,Ay),([Au],Bd)] ∧ bx Bd Au [I Ab.fId,I Ab.fW,I Ab.fH,I Ab.fD,I Ab.fGram,I Ab.fClass,I Ab.fCount] 97 ∧ d_spec_Holds_J3 fu (d_spec_Holds_L1 fu r1 Ak t9 Az Bh) t9 Ai Ab Bb = some r) ?_ ?_)
     · rintro a Cs ⟨Ab,Au,Bd,Bb,k,m,Ck,h⟩
       unfold d_spec_Holds_J3 at h
       refine wr (pN 3 k z fun a k=>bsplit (!Bb) (fun As=>?_) (fun As=>?_))
       · have h:=bif_t As h
         refine rB k 35 z As fun k=>pN 5 k z fun a k=>nn (wp_cond_true (k.ev z) (wr (pN 1 k z fun a k=>nn (wp_ret (rt_block (rt_then (rt_then (rt_block (rt_then ?_)))))))))
         refine fS h k m z z
       have h:=bif_f As h
       refine rB k 35 z As fun k=>sv k z (r_ldB ta97 m 3 Ck 0 k z z z z z z) fun a k=>sv k z (r_ldB ta38 m 1 Ar 0 k z z z z z z) fun a k=>oE h fun Cr Bk h=>cE k m call73 z z z (c_spec_Fits fu (Ab:Item) (t9:Typ)  Bk) fun Df e a k m=>pN 2 k z fun a k=>nn (cI h k z (fun Bp h=>?_) fun Bp h=>?_)
       · refine wr (pN 1 k z fun a k=>nn (wp_ret (rt_block (rt_then (rt_then (rt_block (rt_then ?_)))))))
         refine fS h k m z z
       refine wp_skip (nm_block (nm_then ?_))
       exact ⟨k.keep [1,3,5,7,8] z,m.sel [0,1,2] z (by decide),h⟩
     refine d_go [] mixo m z fun Bv hMd=>?_
     have m:=hMd
     have s:=Ext.refl ([]:List Nat) Bv
     refine dN [1,2,3] 3 z k (by kernel_rfl) z s (fun _ _ _ _ _=>id) fun a k=>dt k 0 z (by kernel_rfl) z s (fun _ _ _=>id) (fun w s=>r_ldA ta30 (Aw.at ((hMd.step s).a 0 z) 0 10 z z z) z k z z) fun a k=>oE h fun Cw Be h=>dt k 4 z (by kernel_rfl) z s (fun _ _ _=>id) (fun w s=>r_ixa Am Be k ts31 z z z) fun a k=>dt k 5 z (by kernel_rfl) z s (fun _ _ _=>id) (fun w s=>r_lde1 Am ((hMd.step s).a00 (Enc.rd_lt Am)) Be 0 t13 k z z z z) fun a k=>d_two 6 10 (by kernel_rfl) z z ?_ ?_ 
     · refine oE h fun Af Bo h=>cE k m call156 z z z (c_spec_l6Item fu _ _ _ (show rd _ _ [I r1.fWay,I r1.fPallet.fW,I r1.fPallet.fD,I r1.fPallet.fH,I r1.fPallet.fGram,I r1.fClasses,Aj,Al,I r1.fMaster,Ao] (r1:Request) from ⟨_,_,_,_,_,_,z,z,(Enc.rd_agr Ad (m.a00 (Enc.rd_lt Ad))),(Enc.rd_agr Ac (m.a00 (Enc.rd_lt Ac))),(Enc.rd_agr Aa (m.a00 (Enc.rd_lt Aa)))⟩) (Enc.rd_agr (Enc.ow_rd At) (m.a 2 z)) Bo) fun Cl e a k m=>?_
       have s:=s.trans e (by simp)
       refine wpList_nil ⟨s,?_⟩
       refine dN [7,8,9] 3 z k (by kernel_rfl) z s (fun _ _ _ _ _=>id) fun a k=>d_one 10 (by kernel_rfl) z (s_allocN (cs:=[I 0,I 0,I 0,I 0,I 0,I 0,I 0]) m k zeroValue97 z z z z z fun Bi Dg a k m e By Ci=>?_)
       have Cb:=lo1 (Nat.le_trans s.size Ci)
       have s:=s.trans e (by simp)
       refine wpList_nil ⟨s,?_⟩
       refine d_one 11 (by kernel_rfl) z (s_stb (cs':=[I Af.1.fId,I Af.1.fW,I Af.1.fH,I Af.1.fD,I Af.1.fGram,I Af.1.fClass,I Af.1.fCount]) sizeOf97 m 0 By 0 k z z z z z z z z z z z fun Bm a k e m Cd=>?_)
       have s:=s.trans e (fun y hy=>Or.inr (Cb y hy))
       refine wpList_nil ⟨s,?_⟩
       refine dN [12] 1 z k (by kernel_rfl) z s (fun _ _ _ _ _=>id) fun a k=>d_done (by kernel_rfl) ((nm_then ?_))
       exact ⟨Af.1,Bi,Bm,Af.2,k.keep [1,3,5,7,8,9,10] z,m.sel [1,2,3,0] z (by decide),Cd,h⟩
     refine s_allocN (cs:=[I 0,I 0,I 0,I 0,I 0,I 0,I 0]) m k zeroValue97 z z z z z fun Ce Da a k m e Ch Br=>?_
     have Bx:=lo1 (Nat.le_trans s.size Br)
     have s:=s.trans e (by simp)
     refine wpList_nil ⟨s,?_⟩
     refine d_one 6 (by kernel_rfl) z (oE h fun Ae Bl h=>cE k m call156 z z z (c_spec_l6Item fu _ _ _ (show rd _ _ [I r1.fWay,I r1.fPallet.fW,I r1.fPallet.fD,I r1.fPallet.fH,I r1.fPallet.fGram,I r1.fClasses,Aj,Al,I r1.fMaster,Ao] (r1:Request) from ⟨_,_,_,_,_,_,z,z,(Enc.rd_agr Ad (m.a00 (Enc.rd_lt Ad))),(Enc.rd_agr Ac (m.a00 (Enc.rd_lt Ac))),(Enc.rd_agr Aa (m.a00 (Enc.rd_lt Aa)))⟩) (Enc.rd_agr (Enc.ow_rd At) (m.a 3 z)) Bl) fun Cp e a k m=>?_)
     have s:=s.trans e (by simp)
     refine wpList_nil ⟨s,?_⟩
     refine dN [7,8,9] 3 z k (by kernel_rfl) z s (fun _ _ _ _ _=>id) fun a k=>d_one 11 (by kernel_rfl) z (s_stb (cs':=[I Ae.1.fId,I Ae.1.fW,I Ae.1.fH,I Ae.1.fD,I Ae.1.fGram,I Ae.1.fClass,I Ae.1.fCount]) sizeOf97 m 0 Ch 0 k z z z z z z z z z z z fun Bj a k e m Cj=>?_)
     have s:=s.trans e (fun y hy=>Or.inr (Bx y hy))
     refine wpList_nil ⟨s,?_⟩
     refine dN [12] 1 z k (by kernel_rfl) z s (fun _ _ _ _ _=>id) fun a k=>d_done (by kernel_rfl) ((nm_then ?_))
     exact ⟨Ae.1,Ce,Bj,Ae.2,k.keep [1,3,5,7,8,9,10] z,m.sel [1,2,3,0] z (by decide),Cj,h⟩
   refine wp_exit (ex_then (ex_then (ex_same (nm_then ?_))))
   exact ⟨k.keep [1,3,5,7] z,m.sel [0,1,2] z (by decide),h⟩
 exact ⟨0,k.keep [1,3,5,7,8] z,m.sel [2,1,0] z (by decide),h⟩
theorem c_spec_l15Holds (fu:Nat) {w0:World} (r1:Request) (x5:Plan) {Aw:List Value} {F3:List Nat} (Br:rd w0 F3 Aw r1) {Au:List Value} {F7:List Nat} (Bw:rd w0 F7 Au x5) {r:Bool}
    (h:d_spec_l15Holds fu r1 x5 = some r) :
    Calls Tryz.prog 112 #[.agg Aw.toArray,.agg Au.toArray] w0 fun e w=>e = .returned (.bool (r)) ∧ Ext [] w0 w:=by
 refine enter (vs:=[_,_]) func112 z ntmps112 z fun a k=>?_
 have m:=St.start w0
 obtain ⟨v9,Cj,Am,Cg,Al,Da,rfl,rfl,Ai,Aj,Ah⟩:=Br
 obtain ⟨Bv,Ci,Bb,Ch,rfl,rfl,Ae,Cr⟩:=Bw
 unfold d_spec_l15Holds at h
 refine wr (s_box (cs:=[I r1.fWay,I r1.fPallet.fW,I r1.fPallet.fD,I r1.fPallet.fH,I r1.fPallet.fGram,I r1.fClasses,v9,Am,I r1.fMaster,Al]) m k z z z z z z fun Af Aq a k m e Ay=>s_box (cs:=[Bv,Bb]) m k z z z z z z fun Ag Ar a k m e At=>pN 1 k z fun a k=>nn (wp_seq (wr (pN 1 k z fun a k=>nn (wp_block (c_loop (fun n a w=>∃ (Ad:Int),K 40 [(2,.pointer (some (⟨Af,0,none⟩:Addr))),(3,.pointer (some (⟨Ag,0,none⟩:Addr))),(5,I Ad)] a ∧ St [] w0 w [([Af],Aq),([Ag],Ar)] ∧ d_spec_l15Holds_L1 fu r1 x5 n Ad = some r) ?_ ?_ fu _ _ ?_))))))
 · rintro a w ⟨_,_,_,h⟩
   exact nS h
 · rintro Ba a Cz ⟨Ad,k,m,h⟩
   rw [d_spec_l15Holds_L1_s] at h
   unfold d_spec_l15Holds_L1_B at h
   refine wp_seq (wr (pN 1 k z fun a k=>sv k z (r_fa fa74_0 k z z) fun a k=>sv k z (r_ldb t143 m 1 At 0 k z z z z z) fun a k=>sv k z (r_len (α:=Carton) Ae k underlying43 z z) fun a k=>pN 1 k z fun a k=>nn (cI h k z (fun Bd h=>?_) fun Bd h=>?_)))
   · refine wp_skip (nm_then ?_)
     refine c_cut (fun a w=>K 40 [(2,.pointer (some (⟨Af,0,none⟩:Addr))),(3,.pointer (some (⟨Ag,0,none⟩:Addr))),(5,I Ad)] a ∧ St [] w0 w [([Af],Aq),([Ag],Ar)] ∧ d_spec_l15Holds_J1 fu (d_spec_l15Holds_L1 fu r1 x5 Ba) Ad = some r) ?_ ?_
     · rintro a Cw ⟨k,m,h⟩
       unfold d_spec_l15Holds_J1 at h
       refine wp_region_lit (pN 3 k z fun a k=>nn ?_)
       exact ⟨w64 (Ad + 1),k.keep [2,3,5] z,m.sel [0,1] z (by decide),h⟩
     refine wp_block (c_cut (fun a w=>∃ (Aa:Typ) (Ao:Nat) (As:World) (Ap:Bool),K 40 [(2,.pointer (some (⟨Af,0,none⟩:Addr))),(3,.pointer (some (⟨Ag,0,none⟩:Addr))),(5,I Ad),(6,.pointer (some (⟨Ao,0,none⟩:Addr))),(7,.bool (Ap))] a ∧ St [] w0 w [([Af],Aq),([Ag],Ar),([Ao],As)] ∧ bx As Ao [I Aa.fId,I Aa.fW,I Aa.fH,I Aa.fD,I Aa.fTare,I Aa.fGram,I Aa.fCost] 38 ∧ d_spec_l15Holds_J2 fu (d_spec_l15Holds_L1 fu r1 x5 Ba) r1 x5 Ad Aa Ap = some r) ?_ ?_)
     · rintro a Co ⟨Aa,Ao,As,Ap,k,m,Bh,h⟩
       unfold d_spec_l15Holds_J2 at h
       refine wp_seq (d_go [] mixo m z fun Cd hMd=>?_)
       have m:=hMd
       have s:=Ext.refl ([]:List Nat) Cd
       refine dN [0,1,2] 3 z k (by kernel_rfl) z s (fun _ _ _ _ _=>id) fun a k=>bsplit (!Ap) (fun Ak=>?_) (fun Ak=>?_)
       · have h:=bif_t Ak h
         refine rB k 28 z Ak fun k=>dN [3,4,5,6,7,8,9,10,11,12,13] 11 z k (by kernel_rfl) z s (fun _ _ _ _ _=>id) fun a k=>d_done (by kernel_rfl) ((nm_then ?_))
         refine wp_cond_true (k.ev z) (wr (pN 1 k z fun a k=>nn (wp_ret (rt_block (rt_then (rt_then (rt_block (rt_then ?_))))))))
         refine fS h k m z z
       have h:=bif_f Ak h
       refine rB k 28 z Ak fun k=>dN [6] 1 z k (by kernel_rfl) z s (fun _ _ _ _ _=>id) fun a k=>dt k 3 z (by kernel_rfl) z s (fun _ _ _=>id) (fun w s=>r_ldA ta30 (Ay.at ((hMd.step s).a 0 z) 0 10 z z z) z k z z) fun a k=>dt k 4 z (by kernel_rfl) z s (fun _ _ _=>id) (fun w s=>r_fa fa74_0 k z z) fun a k=>dt k 5 z (by kernel_rfl) z s (fun _ _ _=>id) (fun w s=>r_ld1 t143 (r:=[]) (At.at ((hMd.step s).a 1 z) 0 1 z z z) k z z) fun a k=>oE h fun Db Av h=>dt k 7 z (by kernel_rfl) z s (fun _ _ _=>id) (fun w s=>r_ixa Ae Av k ts43 z z z) fun a k=>dt k 8 z (by kernel_rfl) z s (fun _ _ _=>id) (fun w s=>r_fa fa33_2 k z z) fun a k=>?_
       obtain ⟨Cq,Cv,Cy,Bx,Bg,Bj⟩:=rd_get Ae (ix_some Av).2.2
       obtain ⟨Cx,_,rfl,rfl,Az⟩:=Bx
       refine dt k 9 z (by kernel_rfl) z s (fun _ _ _=>id) (fun w s=>r_ld1 t131 ((Bg.agr ((hMd.step s).a00 (Enc.rd_lt Ae)) Bj).fld 2 1 (Nat.le_of_ble_eq_true z)) k z z) fun a k=>dt k 10 z (by kernel_rfl) z s (fun _ _ _=>id) (fun w s=>r_ldA ta38 (Bh.at ((hMd.step s).a 2 z) 0 7 z z z) z k z z) fun a k=>d_one 11 (by kernel_rfl) z (oE h fun Cp Bf h=>?_)
       refine cE k m call202 z z z (c_spec_Holds fu _ _ (Aa:Typ) (show rd _ _ [I r1.fWay,I r1.fPallet.fW,I r1.fPallet.fD,I r1.fPallet.fH,I r1.fPallet.fGram,I r1.fClasses,v9,Am,I r1.fMaster,Al] (r1:Request) from ⟨_,_,_,_,_,_,z,z,(Enc.rd_agr Ai (m.a00 (Enc.rd_lt Ai))),(Enc.rd_agr Aj (m.a00 (Enc.rd_lt Aj))),(Enc.rd_agr Ah (m.a00 (Enc.rd_lt Ah)))⟩) (Enc.rd_agr Az (m.a00 (Enc.rd_lt Az))) Bf) fun Cs e a k m=>?_
       have s:=s.trans e (by simp)
       refine wpList_nil ⟨s,?_⟩
       refine dN [12,13] 2 z k (by kernel_rfl) z s (fun _ _ _ _ _=>id) fun a k=>d_done (by kernel_rfl) ((nm_then ?_))
       refine cI h k z (fun Ce h=>?_) fun Ce h=>?_
       · refine wr (pN 1 k z fun a k=>nn (wp_ret (rt_block (rt_then (rt_then (rt_block (rt_then ?_)))))))
         refine fS h k m z z
       refine wp_skip (nm_block (nm_then ?_))
       exact ⟨k.keep [2,3,5] z,m.sel [0,1] z (by decide),h⟩
     refine d_go [] mixo m z fun Bq hMd=>?_
     have m:=hMd
     have s:=Ext.refl ([]:List Nat) Bq
     refine dN [3] 1 z k (by kernel_rfl) z s (fun _ _ _ _ _=>id) fun a k=>dt k 0 z (by kernel_rfl) z s (fun _ _ _=>id) (fun w s=>r_ldA ta30 (Ay.at ((hMd.step s).a 0 z) 0 10 z z z) z k z z) fun a k=>dt k 1 z (by kernel_rfl) z s (fun _ _ _=>id) (fun w s=>r_fa fa74_0 k z z) fun a k=>dt k 2 z (by kernel_rfl) z s (fun _ _ _=>id) (fun w s=>r_ld1 t143 (r:=[]) (At.at ((hMd.step s).a 1 z) 0 1 z z z) k z z) fun a k=>oE h fun Cn Ax h=>dt k 4 z (by kernel_rfl) z s (fun _ _ _=>id) (fun w s=>r_ixa Ae Ax k ts43 z z z) fun a k=>dt k 5 z (by kernel_rfl) z s (fun _ _ _=>id) (fun w s=>r_fa fa33_0 k z z) fun a k=>?_
     obtain ⟨Ck,Cf,De,Bi,Bs,Bt⟩:=rd_get Ae (ix_some Ax).2.2
     obtain ⟨Ct,_,rfl,rfl,Cu⟩:=Bi
     refine dt k 6 z (by kernel_rfl) z s (fun _ _ _=>id) (fun w s=>r_ld1 t13 ((Bs.agr ((hMd.step s).a00 (Enc.rd_lt Ae)) Bt).fld 0 1 (Nat.le_of_ble_eq_true z)) k z z) fun a k=>d_two 7 11 (by kernel_rfl) z z ?_ ?_ 
     · refine oE h fun Ac Ca h=>cE k m call64 z z z (c_spec_TypeById fu _ _ (show rd _ _ [I r1.fWay,I r1.fPallet.fW,I r1.fPallet.fD,I r1.fPallet.fH,I r1.fPallet.fGram,I r1.fClasses,v9,Am,I r1.fMaster,Al] (r1:Request) from ⟨_,_,_,_,_,_,z,z,(Enc.rd_agr Ai (m.a00 (Enc.rd_lt Ai))),(Enc.rd_agr Aj (m.a00 (Enc.rd_lt Aj))),(Enc.rd_agr Ah (m.a00 (Enc.rd_lt Ah)))⟩) Ca) fun Cl e a k m=>?_
       have s:=s.trans e (by simp)
       refine wpList_nil ⟨s,?_⟩
       refine dN [8,9,10] 3 z k (by kernel_rfl) z s (fun _ _ _ _ _=>id) fun a k=>d_one 11 (by kernel_rfl) z (s_allocN (cs:=[I 0,I 0,I 0,I 0,I 0,I 0,I 0]) m k zeroValue38 z z z z z fun Be Dd a k m e Bc Cb=>?_)
       have By:=lo1 (Nat.le_trans s.size Cb)
       have s:=s.trans e (by simp)
       refine wpList_nil ⟨s,?_⟩
       refine d_one 12 (by kernel_rfl) z (s_stb (cs':=[I Ac.1.fId,I Ac.1.fW,I Ac.1.fH,I Ac.1.fD,I Ac.1.fTare,I Ac.1.fGram,I Ac.1.fCost]) sizeOf38 m 0 Bc 0 k z z z z z z z z z z z fun Bl a k e m Bz=>?_)
       have s:=s.trans e (fun y hy=>Or.inr (By y hy))
       refine wpList_nil ⟨s,?_⟩
       refine dN [13] 1 z k (by kernel_rfl) z s (fun _ _ _ _ _=>id) fun a k=>d_done (by kernel_rfl) ((nm_then ?_))
       exact ⟨Ac.1,Be,Bl,Ac.2,k.keep [2,3,5,6,7] z,m.sel [1,2,0] z (by decide),Bz,h⟩
     refine s_allocN (cs:=[I 0,I 0,I 0,I 0,I 0,I 0,I 0]) m k zeroValue38 z z z z z fun Bk Cm a k m e Bu Bm=>?_
     have Bp:=lo1 (Nat.le_trans s.size Bm)
     have s:=s.trans e (by simp)
     refine wpList_nil ⟨s,?_⟩
     refine d_one 7 (by kernel_rfl) z (oE h fun Ab Bn h=>cE k m call64 z z z (c_spec_TypeById fu _ _ (show rd _ _ [I r1.fWay,I r1.fPallet.fW,I r1.fPallet.fD,I r1.fPallet.fH,I r1.fPallet.fGram,I r1.fClasses,v9,Am,I r1.fMaster,Al] (r1:Request) from ⟨_,_,_,_,_,_,z,z,(Enc.rd_agr Ai (m.a00 (Enc.rd_lt Ai))),(Enc.rd_agr Aj (m.a00 (Enc.rd_lt Aj))),(Enc.rd_agr Ah (m.a00 (Enc.rd_lt Ah)))⟩) Bn) fun Dc e a k m=>?_)
     have s:=s.trans e (by simp)
     refine wpList_nil ⟨s,?_⟩
     refine dN [8,9,10] 3 z k (by kernel_rfl) z s (fun _ _ _ _ _=>id) fun a k=>d_one 12 (by kernel_rfl) z (s_stb (cs':=[I Ab.1.fId,I Ab.1.fW,I Ab.1.fH,I Ab.1.fD,I Ab.1.fTare,I Ab.1.fGram,I Ab.1.fCost]) sizeOf38 m 0 Bu 0 k z z z z z z z z z z z fun Bo a k e m Cc=>?_)
     have s:=s.trans e (fun y hy=>Or.inr (Bp y hy))
     refine wpList_nil ⟨s,?_⟩
     refine dN [13] 1 z k (by kernel_rfl) z s (fun _ _ _ _ _=>id) fun a k=>d_done (by kernel_rfl) ((nm_then ?_))
     exact ⟨Ab.1,Bk,Bo,Ab.2,k.keep [2,3,5,6,7] z,m.sel [1,2,0] z (by decide),Cc,h⟩
   refine wp_exit (ex_then (ex_then (ex_same (nm_then ?_))))
   refine wr (pN 1 k z fun a k=>nn (wp_ret (fS h k m z z)))
 exact ⟨0,k.keep [2,3,5] z,m.sel [1,0] z (by decide),h⟩
theorem c_spec_Present (fu:Nat) {w0:World} (r1:Request) {Ay:List Value} {F3:List Nat} (Bc:rd w0 F3 Ay r1) {r:(List Int)}
    (h:d_spec_Present fu r1 = some r) :
    Calls Tryz.prog 250 #[.agg Ay.toArray] w0 fun e w=>∃ (v0:Value) (G0:List Nat),e = .returned (v0) ∧ Ext [] w0 w ∧ ow w G0 [v0] r ∧ (∀ b ∈ G0,w0.heap.size ≤ b):=by
 refine enter (vs:=[_]) func250 z ntmps250 z fun a k=>?_
 have m:=St.start w0
 obtain ⟨v5,F6,v7,F8,v9,Cc,rfl,rfl,Aw,Ax,Ag⟩:=Bc
 unfold d_spec_Present at h
 refine wr (s_box (cs:=[I r1.fWay,I r1.fPallet.fW,I r1.fPallet.fD,I r1.fPallet.fH,I r1.fPallet.fGram,I r1.fClasses,v5,v7,I r1.fMaster,v9]) m k z z z z z z fun Ab Al a k m e At=>pN 1 k z fun a k=>nn (wr (s_bs (cs:=[]) (ps:=[]) te31 m k z z z z z z z (by decide) z (by exact (List.forall_mem_nil _)) fun Au Bq By a k m e Bk=>?_)))
 have Az:=ow_bx Bk ([]:List Int) z z z
 refine pN 1 k z fun a k=>nn (wp_seq (wr (sv k z (r_ldB ta30 m 1 At 0 k z z z z z z) fun a k=>oE h fun Bw Bp h=>cE k m call19 z z z (c_spec_Class fu _ (show rd _ _ [I r1.fWay,I r1.fPallet.fW,I r1.fPallet.fD,I r1.fPallet.fH,I r1.fPallet.fGram,I r1.fClasses,v5,v7,I r1.fMaster,v9] (r1:Request) from ⟨_,_,_,_,_,_,z,z,(Enc.rd_agr Aw (m.a00 (Enc.rd_lt Aw))),(Enc.rd_agr Ax (m.a00 (Enc.rd_lt Ax))),(Enc.rd_agr Ag (m.a00 (Enc.rd_lt Ag)))⟩) Bp) fun Bv e a k m=>pN 1 k z fun a k=>nn (cI h k z (fun Bi h=>?_) fun Bi h=>?_))))
 · refine wr (pN 2 k z fun a k=>nn (wp_ret (rt_then ?_)))
   cases h
   exact finR1 k z (RV.tmp k z) ⟨_,[Au],z,m.ext,(Enc.ow_agr Az (m.a 0 z)),(m.fresh 0 z)⟩
 refine wp_skip (nm_then ?_)
 refine wp_seq (wr (pN 1 k z fun a k=>nn (wp_block (c_loop (fun n a w=>∃ (Ae:List Int) (Ad:Value) (Ac:List Nat) (Af:World) (Aa:Int),K 40 [(1,.pointer (some (⟨Ab,0,none⟩:Addr))),(3,Ad),(4,I Aa)] a ∧ St [] w0 w [([Ab],Al),(Ac,Af)] ∧ ow Af Ac [Ad] Ae ∧ d_spec_Present_L2 fu r1 n Ae Aa = some r) ?_ ?_ fu _ _ ?_))))
 · rintro a w ⟨_,_,_,_,_,_,_,_,h⟩
   exact nS h
 · rintro As a Bz ⟨Ae,Ad,Ac,Af,Aa,k,m,Ar,h⟩
   rw [d_spec_Present_L2_s] at h
   unfold d_spec_Present_L2_B at h
   refine wp_seq (wr (pN 2 k z fun a k=>nn (cI h k z (fun Bo h=>?_) fun Bo h=>?_)))
   · refine wp_skip (nm_then ?_)
     refine c_cut (fun a w=>∃ (Aq:List Int) (Aj:Value) (Ao:List Nat) (Ak:World),K 40 [(1,.pointer (some (⟨Ab,0,none⟩:Addr))),(3,Aj),(4,I Aa)] a ∧ St [] w0 w [([Ab],Al),(Ao,Ak)] ∧ ow Ak Ao [Aj] Aq ∧ d_spec_Present_J1 fu (d_spec_Present_L2 fu r1 As) Aa Aq = some r) ?_ ?_
     · rintro a Cd ⟨Aq,Aj,Ao,Ak,k,m,Ba,h⟩
       unfold d_spec_Present_J1 at h
       refine wp_region_lit (pN 3 k z fun a k=>nn ?_)
       exact ⟨Aq,Aj,Ao,Ak,w64 (Aa + 1),k.keep [1,3,4] z,m.sel [0,1] z (by decide),Ba,h⟩
     refine wp_block (wr (pN 1 k z fun a k=>nn (wp_seq (wr (pN 1 k z fun a k=>nn (wp_block (c_loop (fun n a w=>∃ (Ap:Bool) (Ah:Int),K 40 [(1,.pointer (some (⟨Ab,0,none⟩:Addr))),(3,Ad),(4,I Aa),(5,.bool (Ap)),(6,I Ah)] a ∧ St [] w0 w [([Ab],Al),(Ac,Af)] ∧ d_spec_Present_L1 fu (d_spec_Present_L2 fu r1 As) r1 Ae Aa n Ap Ah = some r) ?_ ?_ fu _ _ ?_)))))))
     · rintro a w ⟨_,_,_,_,h⟩
       exact nS h
     · rintro Bf a Cb ⟨Ap,Ah,k,m,h⟩
       rw [d_spec_Present_L1_s] at h
       unfold d_spec_Present_L1_B at h
       refine wp_seq (wr (pN 1 k z fun a k=>sv k z (r_fa fa30_6 k z z) fun a k=>sv k z (r_ldb t128 m 0 At 9 k z z z z z) fun a k=>sv k z (r_len (α:=Item) Ag k underlying28 z z) fun a k=>pN 1 k z fun a k=>nn (cI h k z (fun Br h=>?_) fun Br h=>?_)))
       · refine wp_skip (nm_then ?_)
         refine c_cut (fun a w=>∃ (Am:Bool),K 40 [(1,.pointer (some (⟨Ab,0,none⟩:Addr))),(3,Ad),(4,I Aa),(5,.bool (Am)),(6,I Ah)] a ∧ St [] w0 w [([Ab],Al),(Ac,Af)] ∧ d_spec_Present_J2 fu (d_spec_Present_L1 fu (d_spec_Present_L2 fu r1 As) r1 Ae Aa Bf) Ah Am = some r) ?_ ?_
         · rintro a Bu ⟨Am,k,m,h⟩
           unfold d_spec_Present_J2 at h
           refine wp_region_lit (pN 3 k z fun a k=>nn ?_)
           exact ⟨Am,w64 (Ah + 1),k.keep [1,3,4,5,6] z,m.sel [0,1] z (by decide),h⟩
         refine wp_block (wp_region_lit (pN 2 k z fun a k=>bsplit (Ap) (fun Ai=>?_) (fun Ai=>?_)))
         · have h:=bif_t Ai h
           refine rB k 24 z Ai fun k=>pN 10 k z fun a k=>wpList_nil (nm_block (nm_then ?_))
           exact ⟨true,k.keep [1,3,4,5,6] z,m.sel [0,1] z (by decide),h⟩
         have h:=bif_f Ai h
         refine rB k 24 z Ai fun k=>sv k z (r_fa fa30_6 k z z) fun a k=>sv k z (r_ldb t128 m 0 At 9 k z z z z z) fun a k=>pN 1 k z fun a k=>oE h fun Bj Av h=>sv k z (r_ixa Ag Av k ts28 z z z) fun a k=>sv k z (r_fa fa97_5 k z z) fun a k=>sv k z (r_lde1 Ag (m.a00 (Enc.rd_lt Ag)) Av 5 t13 k z z z z) fun a k=>pN 4 k z fun a k=>wpList_nil (nm_block (nm_then ?_))
         exact ⟨Bj.fClass == Aa,k.keep [1,3,4,5,6] z,m.sel [0,1] z (by decide),h⟩
       refine wp_exit (ex_then (ex_then (ex_same (nm_then ?_))))
       refine wr (pN 1 k z fun a k=>nn (cI h k z (fun Bd h=>?_) fun Bd h=>?_))
       · refine wp_region_lit (pN 2 k z fun a k=>s_bs (cs:=[I Aa]) (ps:=[(0,.tmp 36)]) te31 m k z z z z z z z (by decide) z (by exact (List.forall_mem_cons.2 ⟨z,(List.forall_mem_nil _)⟩)) fun Bt Ca Bx a k m e Be=>?_)
         have Bm:=ow_bx Be ([Aa]:List Int) z z z
         refine oE h fun Bb Bn h=>s_appF Bn te31 z m 2 Ar (News.rd (Enc.rd_agr (Enc.ow_rd Bm) (m.a 0 z))) z z k z z z z z z z fun Bl Bg Bs a k e m Bh=>pN 1 k z fun a k=>wpList_nil (nm_block (nm_then ?_))
         exact ⟨Bb,Bl,Bg,Bs,k.keep [1,3,4] z,m.sel [1,2] z (by decide),Bh,h⟩
       refine wp_skip (nm_block (nm_then ?_))
       exact ⟨Ae,Ad,Ac,Af,k.keep [1,3,4] z,m.sel [0,1] z (by decide),Ar,h⟩
     exact ⟨false,0,k.keep [1,3,4,5,6] z,m.sel [0,1] z (by decide),h⟩
   refine wp_exit (ex_then (ex_then (ex_same (nm_then ?_))))
   refine wr (pN 2 k z fun a k=>nn (wp_ret ?_))
   cases h
   exact finR1 k z (RV.tmp k z) ⟨_,Ac,z,m.ext,(Enc.ow_agr Ar (m.a 1 z)),(m.fresh 1 z)⟩
 exact ⟨([]:List Int),(.slice (some ⟨Au,0,none⟩) 0 0),[Au],Bq,0,k.keep [1,3,4] z,m.sel [1,0] z (by decide),Az,h⟩
theorem c_spec_l1Has (fu:Nat) {w0:World} (Ac:List Int) (x5:Int) {v2:Value} {F3:List Nat} (Aa:rd w0 F3 [v2] Ac) {r:Bool}
    (h:d_spec_l1Has fu Ac x5 = some r) :
    Calls Tryz.prog 253 #[v2,I x5] w0 fun e w=>e = .returned (.bool (r)) ∧ Ext [] w0 w:=by
 refine enter (vs:=[_,_]) func253 z ntmps253 z fun a k=>?_
 have m:=St.start w0
 unfold d_spec_l1Has at h
 refine wr (pN 1 k z fun a k=>nn (wp_seq (wr (pN 1 k z fun a k=>nn (wp_block (c_loop (fun n a w=>∃ (Ab:Int),K 18 [(0,v2),(1,I x5),(5,I Ab)] a ∧ St [] w0 w [] ∧ d_spec_l1Has_L1 fu Ac x5 n Ab = some r) ?_ ?_ fu _ _ ?_))))))
 · rintro a w ⟨_,_,_,h⟩
   exact nS h
 · rintro Ag a Ai ⟨Ab,k,m,h⟩
   rw [d_spec_l1Has_L1_s] at h
   unfold d_spec_l1Has_L1_B at h
   refine wp_seq (wr (pN 2 k z fun a k=>sv k z (r_len (α:=Int) Aa k underlying31 z z) fun a k=>pN 1 k z fun a k=>nn (cI h k z (fun Af h=>?_) fun Af h=>?_)))
   · refine wp_skip (nm_then ?_)
     refine wp_seq (wp_block (wr (pN 2 k z fun a k=>oE h fun Ah Ad h=>sv k z (r_ixa Aa Ad k ts31 z z z) fun a k=>sv k z (r_lde1 Aa (m.a00 (Enc.rd_lt Aa)) Ad 0 t13 k z z z z) fun a k=>pN 2 k z fun a k=>nn (cI h k z (fun Ae h=>?_) fun Ae h=>?_))))
     · refine wr (pN 1 k z fun a k=>nn (wp_ret (rt_block (rt_then (rt_then (rt_block (rt_then ?_)))))))
       refine fS h k m z z
     refine wp_skip (nm_block (nm_then ?_))
     refine wp_region_lit (pN 3 k z fun a k=>nn ?_)
     exact ⟨w64 (Ab + 1),k.keep [0,1,5] z,m.sel [] z (by decide),h⟩
   refine wp_exit (ex_then (ex_then (ex_same (nm_then ?_))))
   refine wr (pN 1 k z fun a k=>nn (wp_ret (fS h k m z z)))
 exact ⟨0,k.keep [0,1,5] z,m.sel [] z (by decide),h⟩
theorem c_spec_l3Joins (fu:Nat) {w0:World} (Af:List Pair) (Ag:List Int) (Ac:Int) {v2:Value} {F3:List Nat} (Ae:rd w0 F3 [v2] Af) {v6:Value} {F7:List Nat} (Aa:rd w0 F7 [v6] Ag) {r:Bool}
    (h:d_spec_l3Joins fu Af Ag Ac = some r) :
    Calls Tryz.prog 287 #[v2,v6,I Ac] w0 fun e w=>e = .returned (.bool (r)) ∧ Ext [] w0 w:=by
 refine enter (vs:=[_,_,_]) func287 z ntmps287 z fun a k=>?_
 have m:=St.start w0
 unfold d_spec_l3Joins at h
 refine wr (pN 1 k z fun a k=>nn (wp_seq (wr (pN 1 k z fun a k=>nn (wp_block (c_loop (fun n a w=>∃ (Ab:Int),K 32 [(0,v2),(1,v6),(2,I Ac),(7,I Ab)] a ∧ St [] w0 w [] ∧ d_spec_l3Joins_L1 fu Af Ag Ac n Ab = some r) ?_ ?_ fu _ _ ?_))))))
 · rintro a w ⟨_,_,_,h⟩
   exact nS h
 · rintro Ai a Ar ⟨Ab,k,m,h⟩
   rw [d_spec_l3Joins_L1_s] at h
   unfold d_spec_l3Joins_L1_B at h
   refine wp_seq (wr (pN 2 k z fun a k=>sv k z (r_len (α:=Int) Aa k underlying31 z z) fun a k=>pN 1 k z fun a k=>nn (cI h k z (fun Al h=>?_) fun Al h=>?_)))
   · refine wp_skip (nm_then ?_)
     refine c_cut (fun a w=>K 32 [(0,v2),(1,v6),(2,I Ac),(7,I Ab)] a ∧ St [] w0 w [] ∧ d_spec_l3Joins_J1 fu (d_spec_l3Joins_L1 fu Af Ag Ac Ai) Ab = some r) ?_ ?_
     · rintro a Aq ⟨k,m,h⟩
       unfold d_spec_l3Joins_J1 at h
       refine wp_region_lit (pN 3 k z fun a k=>nn ?_)
       exact ⟨w64 (Ab + 1),k.keep [0,1,2,7] z,m.sel [] z (by decide),h⟩
     refine wp_block (wr (pN 3 k z fun a k=>oE h fun Au Ah h=>sv k z (r_ixa Aa Ah k ts31 z z z) fun a k=>sv k z (r_lde1 Aa (m.a00 (Enc.rd_lt Aa)) Ah 0 t13 k z z z z) fun a k=>pN 1 k z fun a k=>oE h fun Am Ak h=>cE k m call161 z z z (c_spec_Beside fu _ _ _ (Enc.rd_agr Ae (m.a00 (Enc.rd_lt Ae))) Ak) fun Av e a k m=>pN 2 k z fun a k=>bsplit (!Am) (fun Ad=>?_) (fun Ad=>?_)))
     · have h:=bif_t Ad h
       refine rB k 22 z Ad fun k=>pN 9 k z fun a k=>nn (wp_cond_true (k.ev z) (wr (pN 1 k z fun a k=>nn (wp_ret (rt_block (rt_then (rt_then (rt_block (rt_then ?_)))))))))
       refine fS h k m z z
     have h:=bif_f Ad h
     refine rB k 22 z Ad fun k=>pN 4 k z fun a k=>oE h fun Aw Ap h=>sv k z (r_ixa Aa Ah k ts31 z z z) fun a k=>sv k z (r_lde1 Aa (m.a00 (Enc.rd_lt Aa)) Ah 0 t13 k z z z z) fun a k=>oE h fun At Ao h=>cE k m call161 z z z (c_spec_Beside fu _ _ _ (Enc.rd_agr Ae (m.a00 (Enc.rd_lt Ae))) Ao) fun As e a k m=>pN 2 k z fun a k=>nn (cI h k z (fun Aj h=>?_) fun Aj h=>?_)
     · refine wr (pN 1 k z fun a k=>nn (wp_ret (rt_block (rt_then (rt_then (rt_block (rt_then ?_)))))))
       refine fS h k m z z
     refine wp_skip (nm_block (nm_then ?_))
     exact ⟨k.keep [0,1,2,7] z,m.sel [] z (by decide),h⟩
   refine wp_exit (ex_then (ex_then (ex_same (nm_then ?_))))
   refine wr (pN 1 k z fun a k=>nn (wp_ret (fS h k m z z)))
 exact ⟨0,k.keep [0,1,2,7] z,m.sel [] z (by decide),h⟩
theorem c_spec_Groups (fu:Nat) {w0:World} (Ac:List Pair) (Ah:List Int) {v2:Value} {F3:List Nat} (Aw:rd w0 F3 [v2] Ac) {v6:Value} {F7:List Nat} (Ax:rd w0 F7 [v6] Ah) {r:(List (List Int))}
    (h:d_spec_Groups fu Ac Ah = some r) :
    Calls Tryz.prog 249 #[v2,v6] w0 fun e w=>∃ (v0:Value) (G0:List Nat),e = .returned (v0) ∧ Ext [] w0 w ∧ ow w G0 [v0] r ∧ (∀ b ∈ G0,w0.heap.size ≤ b):=by
 refine enter (vs:=[_,_]) func249 z ntmps249 z fun a k=>?_
 have m:=St.start w0
 unfold d_spec_Groups at h
 refine wr (pN 1 k z fun a k=>nn (wr (s_bs (cs:=[]) (ps:=[]) te53 m k z z z z z z z (by decide) z (by exact (List.forall_mem_nil _)) fun g9 Cb Dm a k m e Bl=>?_)))
 have Bk:=ow_bx0 (α:=List Int) Bl
 refine pN 1 k z fun a k=>nn (wp_seq (wr (pN 1 k z fun a k=>nn (wp_block (c_loop (fun n a w=>∃ (Ae:List (List Int)) (Af:Value) (Ad:List Nat) (Ai:World) (Aa:Int),K 51 [(0,v2),(1,v6),(5,Af),(6,I Aa)] a ∧ St [] w0 w [(Ad,Ai)] ∧ ow Ai Ad [Af] Ae ∧ d_spec_Groups_L2 fu Ac Ah n Ae Aa = some r) ?_ ?_ fu _ _ ?_)))))
 · rintro a w ⟨_,_,_,_,_,_,_,_,h⟩
   exact nS h
 · rintro Ar a Cx ⟨Ae,Af,Ad,Ai,Aa,k,m,Ab,h⟩
   rw [d_spec_Groups_L2_s] at h
   unfold d_spec_Groups_L2_B at h
   refine wp_seq (wr (pN 2 k z fun a k=>nn (cI h k z (fun Co h=>?_) fun Co h=>?_)))
   · refine wp_skip (nm_then ?_)
     refine c_cut (fun a w=>∃ (Al:List (List Int)) (Ao:Value) (Ak:List Nat) (Am:World),K 51 [(0,v2),(1,v6),(5,Ao),(6,I Aa)] a ∧ St [] w0 w [(Ak,Am)] ∧ ow Am Ak [Ao] Al ∧ d_spec_Groups_J1 fu (d_spec_Groups_L2 fu Ac Ah Ar) Aa Al = some r) ?_ ?_
     · rintro a Ds ⟨Al,Ao,Ak,Am,k,m,Cm,h⟩
       unfold d_spec_Groups_J1 at h
       refine wp_region_lit (pN 3 k z fun a k=>nn ?_)
       exact ⟨Al,Ao,Ak,Am,w64 (Aa + 1),k.keep [0,1,5,6] z,m.sel [0] z (by decide),Cm,h⟩
     refine wp_block (wp_seq (wr (pN 2 k z fun a k=>oE h fun Di Cg h=>cE k m call253 z z z (c_spec_l1Has fu _ _ (Enc.rd_agr Ax (m.a00 (Enc.rd_lt Ax))) Cg) fun Cr e a k m=>pN 1 k z fun a k=>nn (cI h k z (fun Ci h=>?_) fun Ci h=>?_))))
     · refine wp_exit (ex_then (ex_same (nm_then ?_)))
       exact ⟨Ae,Af,Ad,Ai,k.keep [0,1,5,6] z,m.sel [0] z (by decide),Ab,h⟩
     refine wp_skip (nm_then ?_)
     refine wr (pN 1 k z fun a k=>nn (wp_seq (wr (pN 1 k z fun a k=>sv k z (r_len (α:=List Int) (Enc.ow_rd Ab) k underlying53 z z) fun a k=>pN 2 k z fun a k=>nn (wp_block (c_loop (fun n a w=>∃ (Aj:Int) (Ag:Int),K 51 [(0,v2),(1,v6),(5,Af),(6,I Aa),(7,I Aj),(8,I Ag)] a ∧ St [] w0 w [(Ad,Ai)] ∧ d_spec_Groups_L1 fu (d_spec_Groups_L2 fu Ac Ah Ar) Ac Ae Aa n Aj Ag = some r) ?_ ?_ fu _ _ ?_))))))
     · rintro a w ⟨_,_,_,_,h⟩
       exact nS h
     · rintro Br a Dc ⟨Aj,Ag,k,m,h⟩
       rw [d_spec_Groups_L1_s] at h
       unfold d_spec_Groups_L1_B at h
       refine wp_seq (wr (pN 2 k z fun a k=>nn (cI h k z (fun Bu h=>?_) fun Bu h=>?_)))
       · refine wp_skip (nm_then ?_)
         refine c_cut (fun a w=>∃ (Ap:Int),K 51 [(0,v2),(1,v6),(5,Af),(6,I Aa),(7,I Ap),(8,I Ag)] a ∧ St [] w0 w [(Ad,Ai)] ∧ d_spec_Groups_J2 fu (d_spec_Groups_L1 fu (d_spec_Groups_L2 fu Ac Ah Ar) Ac Ae Aa Br) Ag Ap = some r) ?_ ?_
         · rintro a Cy ⟨Ap,k,m,h⟩
           unfold d_spec_Groups_J2 at h
           refine wp_region_lit (pN 3 k z fun a k=>nn ?_)
           exact ⟨Ap,w64 (Ag - 1),k.keep [0,1,5,6,7,8] z,m.sel [0] z (by decide),h⟩
         refine wp_block (wr (pN 3 k z fun a k=>oE h fun Ct Au h=>sv k z (r_ixa (Enc.ow_rd Ab) Au k ts53 z z z) fun a k=>?_))
         obtain ⟨De,Bn,Bq,At,Ba,Bb⟩:=rd_get (Enc.ow_rd Ab) (ix_some Au).2.2
         obtain ⟨Dh,rfl⟩:∃ v,Bn = [v]:=by obtain ⟨_,_,hq,_⟩:=At; exact ⟨_,hq⟩
         refine sv k z (r_ld1 t131 (Ba.agr (m.a 0 z) Bb) k z z) fun a k=>pN 1 k z fun a k=>oE h fun Dd Bm h=>cE k m call287 z z z (c_spec_l3Joins fu _ _ _ (Enc.rd_agr Aw (m.a00 (Enc.rd_lt Aw))) (Enc.rd_agr At ((m.a 0 z).sub Bq)) Bm) fun Db e a k m=>nn (cI h k z (fun Bx h=>?_) fun Bx h=>?_)
         · refine wp_region_lit (pN 2 k z fun a k=>wpList_nil (nm_block (nm_then ?_)))
           exact ⟨Ag,k.keep [0,1,5,6,7,8] z,m.sel [0] z (by decide),h⟩
         refine wp_skip (nm_block (nm_then ?_))
         exact ⟨Aj,k.keep [0,1,5,6,7,8] z,m.sel [0] z (by decide),h⟩
       refine wp_exit (ex_then (ex_then (ex_same (nm_then ?_))))
       refine wr (pN 2 k z fun a k=>nn (cI h k z (fun By h=>?_) fun By h=>?_))
       · refine wp_region_lit (pN 2 k z fun a k=>s_bs (cs:=[I Aa]) (ps:=[(0,.tmp 36)]) te31 m k z z z z z z z (by decide) z (by exact (List.forall_mem_cons.2 ⟨z,(List.forall_mem_nil _)⟩)) fun Ay Dj Da a k m e Bf=>?_)
         have Az:=ow_bx Bf ([Aa]:List Int) z z z
         refine s_bs (cs:=[(.slice (some ⟨Ay,0,none⟩) 1 1)]) (ps:=[(0,.tmp 37)]) te53 m k z z z z z z z (by decide) z (by exact (List.forall_mem_cons.2 ⟨congrArg Array.size (rd_c (Enc.ow_rd Az)),(List.forall_mem_nil _)⟩)) fun Cs Cv Dq a k m e Ck=>oE h fun Bt Cj h=>?_
         have Ce:=Enc.ow_agr Az (m.a 1 z)
         have Cd:=News.box Ck (m.a 0 z) (by simp) (m:=1)
         have Be:=m.a 2 z
         have m:=m.sel [2,1,0] z (by decide)
         have m:=m.join2
         refine s_appO (F:=Ad) (G:=[Ay]) Cj te53 z m Ab Be Cd Ce (Agr.refl _ _) k z z z z z z fun Bv Cl Bi a k e m Bg=>pN 1 k z fun a k=>wpList_nil (nm_block (nm_then ?_))
         exact ⟨Bt,Bv,Cl,Bi,k.keep [0,1,5,6] z,m.sel [0] z (by decide),Bg,h⟩
       refine wp_region_lit (pN 4 k z fun a k=>oE h fun Dg Aq h=>sv k z (r_ixa (Enc.ow_rd Ab) Aq k ts53 z z z) fun a k=>?_)
       obtain ⟨Dl,Cc,Cu,Bs,Av,Ch⟩:=rd_get (Enc.ow_rd Ab) (ix_some Aq).2.2
       obtain ⟨Cw,rfl⟩:∃ v,Cc = [v]:=by obtain ⟨_,_,hq,_⟩:=Bs; exact ⟨_,hq⟩
       refine sv k z (r_ld1 t131 (Av.agr (m.a 0 z) Ch) k z z) fun a k=>pN 1 k z fun a k=>s_bs (cs:=[I Aa]) (ps:=[(0,.tmp 46)]) te31 m k z z z z z z z (by decide) z (by exact (List.forall_mem_cons.2 ⟨z,(List.forall_mem_nil _)⟩)) fun Bo Bh Cz a k m e Bw=>?_
       have Cn:=ow_bx Bw ([Aa]:List Int) z z z
       obtain ⟨Df,Dp,m,Cf,Bc⟩:=m.opn 1 z Ab Aq Av z (M':=[([Bo],Bh)]) z
       refine oE h fun Cq Bj h=>s_appF Bj te31 z m 1 Bc (News.rd (Enc.rd_agr (Enc.ow_rd Cn) (m.a 2 z))) z z k z z z z z z z fun Bz Dn Dk a k e m As=>oE h fun Do Dr h=>sv k z (r_ixa (Enc.ow_rd Ab) Aq k ts53 z z z) fun a k=>s_stH1 (α:=List Int) (sz:=1) (cs':=[Bz]) sizeOf31 m 0 Cf 0 k (rd_c (Enc.ow_rd As)) (rd_o (Enc.ow_rd As)) z z z z z z z z z z fun Ca a k e m Bd=>?_
       obtain ⟨Bp,m,Cp⟩:=(m.sel [0,1,2] z (by decide)).cls Bd As
       refine wpList_nil (nm_block (nm_then ?_))
       exact ⟨setx Ae Aj Cq,Af,Bp,Ca,k.keep [0,1,5,6] z,m.sel [0] z (by decide),Cp,h⟩
     exact ⟨(-1),w64 (((Ae.length:Int)) - 1),k.keep [0,1,5,6,7,8] z,m.sel [0] z (by decide),h⟩
   refine wp_exit (ex_then (ex_then (ex_same (nm_then ?_))))
   refine wr (pN 2 k z fun a k=>nn (wp_ret ?_))
   cases h
   exact finR1 k z (RV.tmp k z) ⟨_,Ad,z,m.ext,(Enc.ow_agr Ab (m.a 0 z)),(m.fresh 0 z)⟩
 exact ⟨([]:List (List Int)),(.slice (some ⟨g9,0,none⟩) 0 0),[g9],Cb,0,k.keep [0,1,5,6] z,m.sel [0] z (by decide),Bk,h⟩
theorem c_spec_GroupsOf (fu:Nat) {w0:World} (r1:Request) {Ak:List Value} {F3:List Nat} (Al:rd w0 F3 Ak r1) {r:(List (List Int))}
    (h:d_spec_GroupsOf fu r1 = some r) :
    Calls Tryz.prog 190 #[.agg Ak.toArray] w0 fun e w=>∃ (v0:Value) (G0:List Nat),e = .returned (v0) ∧ Ext [] w0 w ∧ ow w G0 [v0] r ∧ (∀ b ∈ G0,w0.heap.size ≤ b):=by
 refine enter (vs:=[_]) func190 z ntmps190 z fun a k=>?_
 have m:=St.start w0
 obtain ⟨v5,F6,v7,F8,v9,Ax,rfl,rfl,Aa,Ai,Ae⟩:=Al
 unfold d_spec_GroupsOf at h
 refine wr (s_box (cs:=[I r1.fWay,I r1.fPallet.fW,I r1.fPallet.fD,I r1.fPallet.fH,I r1.fPallet.fGram,I r1.fClasses,v5,v7,I r1.fMaster,v9]) m k z z z z z z fun Aw Az a k m e Ah=>pN 1 k z fun a k=>nn (wp_seq (d_go [] mixo m z fun Ao hMd=>?_)))
 have m:=hMd
 have s:=Ext.refl ([]:List Nat) Ao
 refine dt k 0 z (by kernel_rfl) z s (fun _ _ _=>id) (fun w s=>r_fa fa30_3 k z z) fun a k=>dt k 1 z (by kernel_rfl) z s (fun _ _ _=>id) (fun w s=>r_ld1 t126 (r:=[]) (Ah.at ((hMd.step s).a 0 z) 6 1 z z z) k z z) fun a k=>dt k 2 z (by kernel_rfl) z s (fun _ _ _=>id) (fun w s=>r_ldA ta30 (Ah.at ((hMd.step s).a 0 z) 0 10 z z z) z k z z) fun a k=>d_one 3 (by kernel_rfl) z (oE h fun Ar Am h=>?_)
 refine s_call k call250 z z z z z (c_spec_Present fu _ (show rd _ _ [I r1.fWay,I r1.fPallet.fW,I r1.fPallet.fD,I r1.fPallet.fH,I r1.fPallet.fGram,I r1.fClasses,v5,v7,I r1.fMaster,v9] (r1:Request) from ⟨_,_,_,_,_,_,z,z,(Enc.rd_agr Aa (m.a00 (Enc.rd_lt Aa))),(Enc.rd_agr Ai (m.a00 (Enc.rd_lt Ai))),(Enc.rd_agr Ae (m.a00 (Enc.rd_lt Ae)))⟩) Am) fun At Aq hR=>?_
 obtain ⟨Ay,Aj,rfl,e,Ad,Ag⟩:=hR
 refine ⟨_,z,fun a k=>?_⟩
 have m:=m.new e Aj (fun b hb=>⟨Ag b hb,Enc.rd_lt (Enc.ow_rd Ad) b hb⟩) (Enc.ow_nd Ad)
 have Bb:=fun (y:Nat) (hy:y ∈ Aj)=>Nat.le_trans s.size (Ag y hy)
 have s:=s.trans e (by simp)
 refine wpList_nil ⟨s,?_⟩
 refine d_one 4 (by kernel_rfl) z (oE h fun Bc Ap h=>s_call k call249 z z z z z (c_spec_Groups fu _ _ (Enc.rd_agr Aa (m.a00 (Enc.rd_lt Aa))) (Enc.rd_agr (Enc.ow_rd Ad) (m.a 0 z)) Ap) fun Au As hR=>?_)
 obtain ⟨Av,Ac,rfl,e,Ab,Af⟩:=hR
 refine ⟨_,z,fun a k=>?_⟩
 have m:=m.new e Ac (fun b hb=>⟨Af b hb,Enc.rd_lt (Enc.ow_rd Ab) b hb⟩) (Enc.ow_nd Ab)
 have Ba:=fun (y:Nat) (hy:y ∈ Ac)=>Nat.le_trans s.size (Af y hy)
 have s:=s.trans e (by simp)
 refine wpList_nil ⟨s,?_⟩
 refine dN [5] 1 z k (by kernel_rfl) z s (fun _ _ _ _ _=>id) fun a k=>d_done (by kernel_rfl) ((nm_then ?_))
 refine wp_ret ?_
 cases h
 exact finR1 k z (RV.tmp k z) ⟨_,Ac,z,m.ext,(Enc.ow_agr Ab (m.a 0 z)),(m.fresh 0 z)⟩
theorem c_spec_GroupOf (fu:Nat) {w0:World} (Ae:List (List Int)) (Ab:Int) {v2:Value} {F3:List Nat} (Aa:rd w0 F3 [v2] Ae) {r:Int}
    (h:d_spec_GroupOf fu Ae Ab = some r) :
    Calls Tryz.prog 203 #[v2,I Ab] w0 fun e w=>e = .returned (I r) ∧ Ext [] w0 w:=by
 refine enter (vs:=[_,_]) func203 z ntmps203 z fun a k=>?_
 have m:=St.start w0
 unfold d_spec_GroupOf at h
 refine wr (pN 1 k z fun a k=>nn (wp_seq (wr (pN 1 k z fun a k=>nn (wp_block (c_loop (fun n a w=>∃ (Ac:Int),K 19 [(0,v2),(1,I Ab),(5,I Ac)] a ∧ St [] w0 w [] ∧ d_spec_GroupOf_L1 fu Ae Ab n Ac = some r) ?_ ?_ fu _ _ ?_))))))
 · rintro a w ⟨_,_,_,h⟩
   exact nS h
 · rintro Ap a As ⟨Ac,k,m,h⟩
   rw [d_spec_GroupOf_L1_s] at h
   unfold d_spec_GroupOf_L1_B at h
   refine wp_seq (wr (pN 2 k z fun a k=>sv k z (r_len (α:=List Int) Aa k underlying53 z z) fun a k=>pN 1 k z fun a k=>nn (cI h k z (fun Ah h=>?_) fun Ah h=>?_)))
   · refine wp_skip (nm_then ?_)
     refine wp_seq (wp_block (wr (pN 2 k z fun a k=>oE h fun Am Af h=>sv k z (r_ixa Aa Af k ts53 z z z) fun a k=>?_)))
     obtain ⟨At,Ai,Ar,Ad,Al,Ag⟩:=rd_get Aa (ix_some Af).2.2
     obtain ⟨Ao,rfl⟩:∃ v,Ai = [v]:=by obtain ⟨_,_,hq,_⟩:=Ad; exact ⟨_,hq⟩
     refine sv k z (r_ld1 t131 (Al.agr (m.a00 (Enc.rd_lt Aa)) Ag) k z z) fun a k=>pN 1 k z fun a k=>oE h fun Au Ak h=>cE k m call253 z z z (c_spec_l1Has fu _ _ (Enc.rd_agr Ad (m.a00 (Enc.rd_lt Ad))) Ak) fun Aq e a k m=>nn (cI h k z (fun Aj h=>?_) fun Aj h=>?_)
     · refine wr (pN 2 k z fun a k=>nn (wp_ret (rt_block (rt_then (rt_then (rt_block (rt_then ?_)))))))
       refine fS h k m z z
     refine wp_skip (nm_block (nm_then ?_))
     refine wp_region_lit (pN 3 k z fun a k=>nn ?_)
     exact ⟨w64 (Ac + 1),k.keep [0,1,5] z,m.sel [] z (by decide),h⟩
   refine wp_exit (ex_then (ex_then (ex_same (nm_then ?_))))
   refine wr (pN 1 k z fun a k=>nn (wp_ret (fS h k m z z)))
 exact ⟨0,k.keep [0,1,5] z,m.sel [] z (by decide),h⟩
theorem c_spec_l15Group (fu:Nat) {w0:World} (r1:Request) (Ad:List Int) (x9:Plan) {Bh:List Value} {F3:List Nat} (Cc:rd w0 F3 Bh r1) {v6:Value} {F7:List Nat} (Ax:rd w0 F7 [v6] Ad) {Be:List Value} {Bw:List Nat} (Cj:rd w0 Bw Be x9) {r:Bool}
    (h:d_spec_l15Group fu r1 Ad x9 = some r) :
    Calls Tryz.prog 113 #[.agg Bh.toArray,v6,.agg Be.toArray] w0 fun e w=>e = .returned (.bool (r)) ∧ Ext [] w0 w:=by
 refine enter (vs:=[_,_,_]) func113 z ntmps113 z fun a k=>?_
 have m:=St.start w0
 obtain ⟨At,Dq,Ba,Da,Au,Dx,rfl,rfl,Al,Ao,Ak⟩:=Cc
 obtain ⟨Cf,Dl,Cg,Dc,rfl,rfl,Af,Do⟩:=Cj
 unfold d_spec_l15Group at h
 refine wr (s_box (cs:=[I r1.fWay,I r1.fPallet.fW,I r1.fPallet.fD,I r1.fPallet.fH,I r1.fPallet.fGram,I r1.fClasses,At,Ba,I r1.fMaster,Au]) m k z z z z z z fun Ac Aq a k m e Bk=>s_box (cs:=[Cf,Cg]) m k z z z z z z fun Ab Ar a k m e Av=>pN 1 k z fun a k=>nn (wr (sv k z (r_ldB ta30 m 1 Bk 0 k z z z z z z) fun a k=>oE h fun Ae Co h=>?_)))
 refine s_call k call190 z z z z z (c_spec_GroupsOf fu _ (show rd _ _ [I r1.fWay,I r1.fPallet.fW,I r1.fPallet.fD,I r1.fPallet.fH,I r1.fPallet.fGram,I r1.fClasses,At,Ba,I r1.fMaster,Au] (r1:Request) from ⟨_,_,_,_,_,_,z,z,(Enc.rd_agr Al (m.a00 (Enc.rd_lt Al))),(Enc.rd_agr Ao (m.a00 (Enc.rd_lt Ao))),(Enc.rd_agr Ak (m.a00 (Enc.rd_lt Ak)))⟩) Co) fun Cu As hR=>?_
 obtain ⟨Ap,Am,rfl,e,Bc,Bm⟩:=hR
 refine ⟨_,z,fun a k=>?_⟩
 have m:=m.new e Am (fun b hb=>⟨Bm b hb,Enc.rd_lt (Enc.ow_rd Bc) b hb⟩) (Enc.ow_nd Bc)
 refine pN 1 k z fun a k=>nn (wp_seq (wr (pN 1 k z fun a k=>nn (wp_block (c_loop (fun n a w=>∃ (Aa:Int),K 58 [(1,v6),(3,.pointer (some (⟨Ac,0,none⟩:Addr))),(5,.pointer (some (⟨Ab,0,none⟩:Addr))),(7,Ap),(8,I Aa)] a ∧ St [] w0 w [([Ac],Aq),([Ab],Ar),(Am,As)] ∧ d_spec_l15Group_L2 fu r1 Ad x9 Ae n Aa = some r) ?_ ?_ fu _ _ ?_)))))
 · rintro a w ⟨_,_,_,h⟩
   exact nS h
 · rintro Az a De ⟨Aa,k,m,h⟩
   rw [d_spec_l15Group_L2_s] at h
   unfold d_spec_l15Group_L2_B at h
   refine wp_seq (wr (pN 1 k z fun a k=>sv k z (r_fa fa74_0 k z z) fun a k=>sv k z (r_ldb t143 m 1 Av 0 k z z z z z) fun a k=>sv k z (r_len (α:=Carton) Af k underlying43 z z) fun a k=>pN 1 k z fun a k=>nn (cI h k z (fun Bx h=>?_) fun Bx h=>?_)))
   · refine wp_skip (nm_then ?_)
     refine c_cut (fun a w=>K 58 [(1,v6),(3,.pointer (some (⟨Ac,0,none⟩:Addr))),(5,.pointer (some (⟨Ab,0,none⟩:Addr))),(7,Ap),(8,I Aa)] a ∧ St [] w0 w [([Ac],Aq),([Ab],Ar),(Am,As)] ∧ d_spec_l15Group_J1 fu (d_spec_l15Group_L2 fu r1 Ad x9 Ae Az) Aa = some r) ?_ ?_
     · rintro a Dd ⟨k,m,h⟩
       unfold d_spec_l15Group_J1 at h
       refine wp_region_lit (pN 3 k z fun a k=>nn ?_)
       exact ⟨w64 (Aa + 1),k.keep [1,3,5,7,8] z,m.sel [0,1,2] z (by decide),h⟩
     refine wp_block (wr (pN 1 k z fun a k=>nn (wp_block (c_loop (fun n a w=>∃ (Ai:Int),K 58 [(1,v6),(3,.pointer (some (⟨Ac,0,none⟩:Addr))),(5,.pointer (some (⟨Ab,0,none⟩:Addr))),(7,Ap),(8,I Aa),(9,I Ai)] a ∧ St [] w0 w [([Ac],Aq),([Ab],Ar),(Am,As)] ∧ d_spec_l15Group_L1 fu (d_spec_l15Group_L2 fu r1 Ad x9 Ae Az) r1 Ad x9 Ae Aa n Ai = some r) ?_ ?_ fu _ _ ?_))))
     · rintro a w ⟨_,_,_,h⟩
       exact nS h
     · rintro Bl a Dj ⟨Ai,k,m,h⟩
       rw [d_spec_l15Group_L1_s] at h
       unfold d_spec_l15Group_L1_B at h
       refine wp_seq (wr (pN 1 k z fun a k=>sv k z (r_fa fa74_0 k z z) fun a k=>sv k z (r_ldb t143 m 1 Av 0 k z z z z z) fun a k=>pN 1 k z fun a k=>oE h fun Ct Bd h=>sv k z (r_ixa Af Bd k ts43 z z z) fun a k=>sv k z (r_fa fa33_2 k z z) fun a k=>?_))
       obtain ⟨Cz,Dh,Dr,By,Bf,Bg⟩:=rd_get Af (ix_some Bd).2.2
       obtain ⟨Dm,_,rfl,rfl,Ay⟩:=By
       refine sv k z (r_ld1 t131 ((Bf.agr (m.a00 (Enc.rd_lt Af)) Bg).fld 2 1 (Nat.le_of_ble_eq_true z)) k z z) fun a k=>sv k z (r_len (α:=Int) Ay k underlying31 z z) fun a k=>pN 1 k z fun a k=>nn (cI h k z (fun Cq h=>?_) fun Cq h=>?_)
       · refine wp_skip (nm_then ?_)
         refine c_cut (fun a w=>K 58 [(1,v6),(3,.pointer (some (⟨Ac,0,none⟩:Addr))),(5,.pointer (some (⟨Ab,0,none⟩:Addr))),(7,Ap),(8,I Aa),(9,I Ai)] a ∧ St [] w0 w [([Ac],Aq),([Ab],Ar),(Am,As)] ∧ d_spec_l15Group_J2 fu (d_spec_l15Group_L1 fu (d_spec_l15Group_L2 fu r1 Ad x9 Ae Az) r1 Ad x9 Ae Aa Bl) Ai = some r) ?_ ?_
         · rintro a Cw ⟨k,m,h⟩
           unfold d_spec_l15Group_J2 at h
           refine wp_region_lit (pN 3 k z fun a k=>nn ?_)
           exact ⟨w64 (Ai + 1),k.keep [1,3,5,7,8,9] z,m.sel [0,1,2] z (by decide),h⟩
         refine wp_block (c_cut (fun a w=>∃ (Ag:Item) (Aw:Nat) (Bb:World),K 58 [(1,v6),(3,.pointer (some (⟨Ac,0,none⟩:Addr))),(5,.pointer (some (⟨Ab,0,none⟩:Addr))),(7,Ap),(8,I Aa),(9,I Ai),(10,.pointer (some (⟨Aw,0,none⟩:Addr)))] a ∧ St [] w0 w [([Ac],Aq),([Ab],Ar),(Am,As),([Aw],Bb)] ∧ bx Bb Aw [I Ag.fId,I Ag.fW,I Ag.fH,I Ag.fD,I Ag.fGram,I Ag.fClass,I Ag.fCount] 97 ∧ d_spec_l15Group_J3 fu (d_spec_l15Group_L1 fu (d_spec_l15Group_L2 fu r1 Ad x9 Ae Az) r1 Ad x9 Ae Aa Bl) x9 Ae Aa Ai Ag = some r) ?_ ?_)
         · rintro a Dw ⟨Ag,Aw,Bb,k,m,Bo,h⟩
           unfold d_spec_l15Group_J3 at h
           refine wp_seq (d_go [] mixo m z fun Cn hMd=>?_)
           have m:=hMd
           have s:=Ext.refl ([]:List Nat) Cn
           refine dN [0,6] 2 z k (by kernel_rfl) z s (fun _ _ _ _ _=>id) fun a k=>dt k 1 z (by kernel_rfl) z s (fun _ _ _=>id) (fun w s=>r_fa fa97_5 k z z) fun a k=>dt k 2 z (by kernel_rfl) z s (fun _ _ _=>id) (fun w s=>r_ld1 t13 (r:=[]) (Bo.at ((hMd.step s).a 3 z) 5 1 z z z) k z z) fun a k=>dt k 4 z (by kernel_rfl) z s (fun _ _ _=>id) (fun w s=>r_fa fa74_0 k z z) fun a k=>dt k 5 z (by kernel_rfl) z s (fun _ _ _=>id) (fun w s=>r_ld1 t143 (r:=[]) (Av.at ((hMd.step s).a 1 z) 0 1 z z z) k z z) fun a k=>oE h fun Cv Bi h=>dt k 7 z (by kernel_rfl) z s (fun _ _ _=>id) (fun w s=>r_ixa Af Bi k ts43 z z z) fun a k=>dt k 8 z (by kernel_rfl) z s (fun _ _ _=>id) (fun w s=>r_fa fa33_1 k z z) fun a k=>?_
           obtain ⟨Cy,Cx,Dv,Bz,Ci,Cr⟩:=rd_get Af (ix_some Bi).2.2
           obtain ⟨Dp,_,rfl,rfl,Db⟩:=Bz
           refine dt k 9 z (by kernel_rfl) z s (fun _ _ _=>id) (fun w s=>r_ld1 t13 ((Ci.agr ((hMd.step s).a00 (Enc.rd_lt Af)) Cr).fld 1 1 (Nat.le_of_ble_eq_true z)) k z z) fun a k=>d_one 3 (by kernel_rfl) z (oE h fun Cs Cl h=>cE k m call203 z z z (c_spec_GroupOf fu _ _ (Enc.rd_agr (Enc.ow_rd Bc) (m.a 2 z)) Cl) fun Df e a k m=>?_)
           have s:=s.trans e (by simp)
           refine wpList_nil ⟨s,?_⟩
           refine dN [10] 1 z k (by kernel_rfl) z s (fun _ _ _ _ _=>id) fun a k=>d_done (by kernel_rfl) ((nm_then ?_))
           refine cI h k z (fun Bn h=>?_) fun Bn h=>?_
           · refine wr (pN 1 k z fun a k=>nn (wp_ret (rt_block (rt_then (rt_then (rt_block (rt_block (rt_then (rt_then (rt_block (rt_then ?_)))))))))))
             refine fS h k m z z
           refine wp_skip (nm_block (nm_then ?_))
           exact ⟨k.keep [1,3,5,7,8,9] z,m.sel [0,1,2] z (by decide),h⟩
         refine d_go [] mixo m z fun Ce hMd=>?_
         have m:=hMd
         have s:=Ext.refl ([]:List Nat) Ce
         refine dN [1,4,8] 3 z k (by kernel_rfl) z s (fun _ _ _ _ _=>id) fun a k=>dt k 0 z (by kernel_rfl) z s (fun _ _ _=>id) (fun w s=>r_ldA ta30 (Bk.at ((hMd.step s).a 0 z) 0 10 z z z) z k z z) fun a k=>dt k 2 z (by kernel_rfl) z s (fun _ _ _=>id) (fun w s=>r_fa fa74_0 k z z) fun a k=>dt k 3 z (by kernel_rfl) z s (fun _ _ _=>id) (fun w s=>r_ld1 t143 (r:=[]) (Av.at ((hMd.step s).a 1 z) 0 1 z z z) k z z) fun a k=>oE h fun Ds Dn h=>dt k 5 z (by kernel_rfl) z s (fun _ _ _=>id) (fun w s=>r_ixa Af Bd k ts43 z z z) fun a k=>dt k 6 z (by kernel_rfl) z s (fun _ _ _=>id) (fun w s=>r_fa fa33_2 k z z) fun a k=>?_
         refine dt k 7 z (by kernel_rfl) z s (fun _ _ _=>id) (fun w s=>r_ld1 t131 ((Bf.agr ((hMd.step s).a00 (Enc.rd_lt Af)) Bg).fld 2 1 (Nat.le_of_ble_eq_true z)) k z z) fun a k=>oE h fun Dk Bj h=>dt k 9 z (by kernel_rfl) z s (fun _ _ _=>id) (fun w s=>r_ixa Ay Bj k ts31 z z z) fun a k=>dt k 10 z (by kernel_rfl) z s (fun _ _ _=>id) (fun w s=>r_lde1 Ay ((hMd.step s).a00 (Enc.rd_lt Ay)) Bj 0 t13 k z z z z) fun a k=>d_two 11 15 (by kernel_rfl) z z ?_ ?_ 
         · refine oE h fun Aj Cb h=>cE k m call156 z z z (c_spec_l6Item fu _ _ _ (show rd _ _ [I r1.fWay,I r1.fPallet.fW,I r1.fPallet.fD,I r1.fPallet.fH,I r1.fPallet.fGram,I r1.fClasses,At,Ba,I r1.fMaster,Au] (r1:Request) from ⟨_,_,_,_,_,_,z,z,(Enc.rd_agr Al (m.a00 (Enc.rd_lt Al))),(Enc.rd_agr Ao (m.a00 (Enc.rd_lt Ao))),(Enc.rd_agr Ak (m.a00 (Enc.rd_lt Ak)))⟩) (Enc.rd_agr Ax (m.a00 (Enc.rd_lt Ax))) Cb) fun Dg e a k m=>?_
           have s:=s.trans e (by simp)
           refine wpList_nil ⟨s,?_⟩
           refine dN [12,13,14] 3 z k (by kernel_rfl) z s (fun _ _ _ _ _=>id) fun a k=>d_one 15 (by kernel_rfl) z (s_allocN (cs:=[I 0,I 0,I 0,I 0,I 0,I 0,I 0]) m k zeroValue97 z z z z z fun Bt Du a k m e Bv Bp=>?_)
           have Bu:=lo1 (Nat.le_trans s.size Bp)
           have s:=s.trans e (by simp)
           refine wpList_nil ⟨s,?_⟩
           refine d_one 16 (by kernel_rfl) z (s_stb (cs':=[I Aj.1.fId,I Aj.1.fW,I Aj.1.fH,I Aj.1.fD,I Aj.1.fGram,I Aj.1.fClass,I Aj.1.fCount]) sizeOf97 m 0 Bv 0 k z z z z z z z z z z z fun Ch a k e m Bs=>?_)
           have s:=s.trans e (fun y hy=>Or.inr (Bu y hy))
           refine wpList_nil ⟨s,?_⟩
           refine dN [17] 1 z k (by kernel_rfl) z s (fun _ _ _ _ _=>id) fun a k=>d_done (by kernel_rfl) ?_
           have k:=k.keep [1,3,5,7,8,9,10] z
           refine (nm_then ?_)
           exact ⟨Aj.1,Bt,Ch,k.keep [1,3,5,7,8,9,10] z,m.sel [1,2,3,0] z (by decide),Bs,h⟩
         refine s_allocN (cs:=[I 0,I 0,I 0,I 0,I 0,I 0,I 0]) m k zeroValue97 z z z z z fun Bq Di a k m e Cd Cp=>?_
         have Ck:=lo1 (Nat.le_trans s.size Cp)
         have s:=s.trans e (by simp)
         refine wpList_nil ⟨s,?_⟩
         refine d_one 11 (by kernel_rfl) z (oE h fun Ah Cm h=>cE k m call156 z z z (c_spec_l6Item fu _ _ _ (show rd _ _ [I r1.fWay,I r1.fPallet.fW,I r1.fPallet.fD,I r1.fPallet.fH,I r1.fPallet.fGram,I r1.fClasses,At,Ba,I r1.fMaster,Au] (r1:Request) from ⟨_,_,_,_,_,_,z,z,(Enc.rd_agr Al (m.a00 (Enc.rd_lt Al))),(Enc.rd_agr Ao (m.a00 (Enc.rd_lt Ao))),(Enc.rd_agr Ak (m.a00 (Enc.rd_lt Ak)))⟩) (Enc.rd_agr Ax (m.a00 (Enc.rd_lt Ax))) Cm) fun Dt e a k m=>?_)
         have s:=s.trans e (by simp)
         refine wpList_nil ⟨s,?_⟩
         refine dN [12,13,14] 3 z k (by kernel_rfl) z s (fun _ _ _ _ _=>id) fun a k=>d_one 16 (by kernel_rfl) z (s_stb (cs':=[I Ah.1.fId,I Ah.1.fW,I Ah.1.fH,I Ah.1.fD,I Ah.1.fGram,I Ah.1.fClass,I Ah.1.fCount]) sizeOf97 m 0 Cd 0 k z z z z z z z z z z z fun Ca a k e m Br=>?_)
         have s:=s.trans e (fun y hy=>Or.inr (Ck y hy))
         refine wpList_nil ⟨s,?_⟩
         refine dN [17] 1 z k (by kernel_rfl) z s (fun _ _ _ _ _=>id) fun a k=>d_done (by kernel_rfl) ?_
         have k:=k.keep [1,3,5,7,8,9,10] z
         refine (nm_then ?_)
         exact ⟨Ah.1,Bq,Ca,k.keep [1,3,5,7,8,9,10] z,m.sel [1,2,3,0] z (by decide),Br,h⟩
       refine wp_exit (ex_then (ex_then (ex_same (nm_block (nm_then ?_)))))
       exact ⟨k.keep [1,3,5,7,8] z,m.sel [0,1,2] z (by decide),h⟩
     exact ⟨0,k.keep [1,3,5,7,8,9] z,m.sel [0,1,2] z (by decide),h⟩
   refine wp_exit (ex_then (ex_then (ex_same (nm_then ?_))))
   refine wr (pN 1 k z fun a k=>nn (wp_ret (fS h k m z z)))
 exact ⟨0,k.keep [1,3,5,7,8] z,m.sel [2,1,0] z (by decide),h⟩
theorem c_spec_Cheapest (fu:Nat) {w0:World} (r1:Request) (Ao:List Int) {Ba:List Value} {F3:List Nat} (Be:rd w0 F3 Ba r1) {v6:Value} {F7:List Nat} (Az:rd w0 F7 [v6] Ao) {r:Typ × Bool}
    (h:d_spec_Cheapest fu r1 Ao = some r) :
    Calls Tryz.prog 193 #[.agg Ba.toArray,v6] w0 fun e w=>e = .returned (.tuple #[.agg (Flat.e r.1).toArray,.bool (r.2)]) ∧ Ext [] w0 w:=by
 refine enter (vs:=[_,_]) func193 z ntmps193 z fun a k=>?_
 have m:=St.start w0
 obtain ⟨v9,Ce,Bb,Ca,Aw,Bz,rfl,rfl,Bc,Aj,Au⟩:=Be
 unfold d_spec_Cheapest at h
 refine wr (s_box (cs:=[I r1.fWay,I r1.fPallet.fW,I r1.fPallet.fD,I r1.fPallet.fH,I r1.fPallet.fGram,I r1.fClasses,v9,Bb,I r1.fMaster,Aw]) m k z z z z z z fun Ar Ax a k m e At=>s_alloc (cs:=[I 0,I 0,I 0,I 0,I 0,I 0,I 0]) m k zeroValue38 z z z z z fun As Av a k m e Bi=>pN 1 k z fun a k=>nn (wr (sv k z (r_build bt38 k (cs:=#[I 0,I 0,I 0,I 0,I 0,I 0,I 0]) (ps:=[]) z z (by kernel_rfl)) fun a k=>?_)))
 refine s_alloc (cs:=[I 0,I 0,I 0,I 0,I 0,I 0,I 0]) m k zeroValue38 z z z z z fun Ag Bx a k m e Bm=>s_stb (cs':=[I 0,I 0,I 0,I 0,I 0,I 0,I 0]) sizeOf38 m 0 Bm 0 k z z z z z z z z z z z fun Bj a k e m Bl=>nn (wr (pN 1 k z fun a k=>nn (wp_seq (wr (pN 1 k z fun a k=>nn (wp_block ?_))))))
 refine c_loop (fun n a w=>∃ (Ab:Typ) (Ai:World) (Ae:Bool) (Ah:Int),K 54 [(1,v6),(2,.pointer (some (⟨Ar,0,none⟩:Addr))),(4,.pointer (some (⟨As,0,none⟩:Addr))),(6,.pointer (some (⟨Ag,0,none⟩:Addr))),(7,.bool (Ae)),(8,I Ah)] a ∧ St [] w0 w [([Ar],Ax),([As],Av),([Ag],Ai)] ∧ bx Ai Ag [I Ab.fId,I Ab.fW,I Ab.fH,I Ab.fD,I Ab.fTare,I Ab.fGram,I Ab.fCost] 38 ∧ d_spec_Cheapest_L1 fu r1 Ao n Ab Ae Ah = some r) ?_ ?_ fu _ _ ?_
 · rintro a w ⟨_,_,_,_,_,_,_,h⟩
   exact nS h
 · rintro Bh a Cf ⟨Ab,Ai,Ae,Ah,k,m,Ad,h⟩
   rw [d_spec_Cheapest_L1_s] at h
   unfold d_spec_Cheapest_L1_B at h
   refine wp_seq (wr (pN 1 k z fun a k=>sv k z (r_fa fa30_4 k z z) fun a k=>sv k z (r_ldb t127 m 0 At 7 k z z z z z) fun a k=>sv k z (r_len (α:=Typ) Aj k underlying27 z z) fun a k=>pN 1 k z fun a k=>nn (cI h k z (fun Bk h=>?_) fun Bk h=>?_)))
   · refine wp_skip (nm_then ?_)
     refine c_cut (fun a w=>∃ (Ac:Typ) (Ap:World) (Aq:Bool),K 54 [(1,v6),(2,.pointer (some (⟨Ar,0,none⟩:Addr))),(4,.pointer (some (⟨As,0,none⟩:Addr))),(6,.pointer (some (⟨Ag,0,none⟩:Addr))),(7,.bool (Aq)),(8,I Ah)] a ∧ St [] w0 w [([Ar],Ax),([As],Av),([Ag],Ap)] ∧ bx Ap Ag [I Ac.fId,I Ac.fW,I Ac.fH,I Ac.fD,I Ac.fTare,I Ac.fGram,I Ac.fCost] 38 ∧ d_spec_Cheapest_J1 fu (d_spec_Cheapest_L1 fu r1 Ao Bh) Ah Ac Aq = some r) ?_ ?_
     · rintro a Cd ⟨Ac,Ap,Aq,k,m,Bg,h⟩
       unfold d_spec_Cheapest_J1 at h
       refine wp_region_lit (pN 3 k z fun a k=>nn ?_)
       exact ⟨Ac,Ap,Aq,w64 (Ah + 1),k.keep [1,2,4,6,7,8] z,m.sel [0,1,2] z (by decide),Bg,h⟩
     refine wp_block (wr (sv k z (r_fa fa30_4 k z z) fun a k=>sv k z (r_ldb t127 m 0 At 7 k z z z z z) fun a k=>pN 1 k z fun a k=>oE h fun Aa Ay h=>sv k z (r_ixa Aj Ay k ts27 z z z) fun a k=>sv k z (r_lde Aj (m.a00 (Enc.rd_lt Aj)) Ay ta38 k z z) fun a k=>s_alloc (cs:=[I 0,I 0,I 0,I 0,I 0,I 0,I 0]) m k zeroValue38 z z z z z fun By Cc a k m e Bo=>s_stb (cs':=[I Aa.fId,I Aa.fW,I Aa.fH,I Aa.fD,I Aa.fTare,I Aa.fGram,I Aa.fCost]) sizeOf38 m 0 Bo 0 k z z z z z z z z z z z fun Cg a k e m Af=>nn (wp_seq (wr ?_))))
     refine sv k z (r_ldB ta30 m 1 At 0 k z z z z z z) fun a k=>pN 1 k z fun a k=>sv k z (r_ldB ta38 m 0 Af 0 k z z z z z z) fun a k=>oE h fun Bw Bu h=>cE k m call202 z z z (c_spec_Holds fu _ _ (Aa:Typ) (show rd _ _ [I r1.fWay,I r1.fPallet.fW,I r1.fPallet.fD,I r1.fPallet.fH,I r1.fPallet.fGram,I r1.fClasses,v9,Bb,I r1.fMaster,Aw] (r1:Request) from ⟨_,_,_,_,_,_,z,z,(Enc.rd_agr Bc (m.a00 (Enc.rd_lt Bc))),(Enc.rd_agr Aj (m.a00 (Enc.rd_lt Aj))),(Enc.rd_agr Au (m.a00 (Enc.rd_lt Au)))⟩) (Enc.rd_agr Az (m.a00 (Enc.rd_lt Az))) Bu) fun Ch e a k m=>pN 1 k z fun a k=>nn (cI h k z (fun Bn h=>?_) fun Bn h=>?_)
     · refine wp_exit (ex_then (ex_same (nm_then ?_)))
       exact ⟨Ab,Ai,Ae,k.keep [1,2,4,6,7,8] z,m.sel [1,2,3] z (by decide),Ad,h⟩
     refine wp_skip (nm_then ?_)
     refine wr (pN 3 k z fun a k=>bsplit (!Ae) (fun Al=>?_) (fun Al=>?_))
     · have h:=bif_t Al h
       refine rB k 30 z Al fun k=>pN 20 k z fun a k=>?_
       have k:=k.keep [1,2,4,6,7,8,9,50] z
       refine nn (wp_cond_true (k.ev z) (wr (sv k z (r_ldB ta38 m 0 Af 0 k z z z z z z) fun a k=>s_stb (cs':=[I Aa.fId,I Aa.fW,I Aa.fH,I Aa.fD,I Aa.fTare,I Aa.fGram,I Aa.fCost]) sizeOf38 m 3 Ad 0 k z z z z z z z z z z z fun Bs a k e m Bp=>nn (wp_region_lit (pN 1 k z fun a k=>wpList_nil (nm_block (nm_then ?_)))))))
       exact ⟨Aa,Bs,true,k.keep [1,2,4,6,7,8] z,m.sel [1,2,3] z (by decide),Bp,h⟩
     have h:=bif_f Al h
     refine rB k 30 z Al fun k=>sv k z (r_fa fa38_6 k z z) fun a k=>sv k z (r_ldb t13 m 0 Af 6 k z z z z z) fun a k=>sv k z (r_fa fa38_6 k z z) fun a k=>sv k z (r_ldb t13 m 3 Ad 6 k z z z z z) fun a k=>pN 3 k z fun a k=>bsplit (decide (Aa.fCost < Ab.fCost)) (fun Ak=>?_) (fun Ak=>?_)
     · have h:=bif_t Ak h
       refine rB k 37 z Ak fun k=>pN 13 k z fun a k=>?_
       have k:=k.keep [1,2,4,6,7,8,9,50] z
       refine nn (wp_cond_true (k.ev z) (wr (sv k z (r_ldB ta38 m 0 Af 0 k z z z z z z) fun a k=>s_stb (cs':=[I Aa.fId,I Aa.fW,I Aa.fH,I Aa.fD,I Aa.fTare,I Aa.fGram,I Aa.fCost]) sizeOf38 m 3 Ad 0 k z z z z z z z z z z z fun Bd a k e m Bv=>nn (wp_region_lit (pN 1 k z fun a k=>wpList_nil (nm_block (nm_then ?_)))))))
       exact ⟨Aa,Bd,true,k.keep [1,2,4,6,7,8] z,m.sel [1,2,3] z (by decide),Bv,h⟩
     have h:=bif_f Ak h
     refine rB k 37 z Ak fun k=>sv k z (r_fa fa38_6 k z z) fun a k=>sv k z (r_ldb t13 m 0 Af 6 k z z z z z) fun a k=>sv k z (r_fa fa38_6 k z z) fun a k=>sv k z (r_ldb t13 m 3 Ad 6 k z z z z z) fun a k=>pN 2 k z fun a k=>bsplit (Aa.fCost == Ab.fCost) (fun Am=>?_) (fun Am=>?_)
     · have h:=bif_t Am h
       refine rB k 43 z Am fun k=>sv k z (r_fa fa38_0 k z z) fun a k=>sv k z (r_ldb t13 m 0 Af 0 k z z z z z) fun a k=>sv k z (r_fa fa38_0 k z z) fun a k=>sv k z (r_ldb t13 m 3 Ad 0 k z z z z z) fun a k=>pN 3 k z fun a k=>?_
       have k:=k.keep [1,2,4,6,7,8,9,50] z
       refine nn (cI h k z (fun Bq h=>?_) fun Bq h=>?_)
       · refine wr (sv k z (r_ldB ta38 m 0 Af 0 k z z z z z z) fun a k=>s_stb (cs':=[I Aa.fId,I Aa.fW,I Aa.fH,I Aa.fD,I Aa.fTare,I Aa.fGram,I Aa.fCost]) sizeOf38 m 3 Ad 0 k z z z z z z z z z z z fun Br a k e m Bt=>nn (wp_region_lit (pN 1 k z fun a k=>wpList_nil (nm_block (nm_then ?_)))))
         exact ⟨Aa,Br,true,k.keep [1,2,4,6,7,8] z,m.sel [1,2,3] z (by decide),Bt,h⟩
       refine wp_skip (nm_block (nm_then ?_))
       exact ⟨Ab,Ai,Ae,k.keep [1,2,4,6,7,8] z,m.sel [1,2,3] z (by decide),Ad,h⟩
     have h:=bif_f Am h
     refine rB k 43 z Am fun k=>pN 7 k z fun a k=>?_
     have k:=k.keep [1,2,4,6,7,8,9,50] z
     refine nn (wp_cond_false (k.ev z) (wp_skip (nm_block (nm_then ?_))))
     exact ⟨Ab,Ai,Ae,k.keep [1,2,4,6,7,8] z,m.sel [1,2,3] z (by decide),Ad,h⟩
   refine wp_exit (ex_then (ex_then (ex_same (nm_then ?_))))
   refine wr (sv k z (r_ldB ta38 m 2 Ad 0 k z z z z z z) fun a k=>pN 1 k z fun a k=>s_stb (cs':=[I Ab.fId,I Ab.fW,I Ab.fH,I Ab.fD,I Ab.fTare,I Ab.fGram,I Ab.fCost]) sizeOf38 m 1 Bi 0 k z z z z z z z z z z z fun Cb a k e m Bf=>pN 1 k z fun a k=>nn (wp_ret ?_))
   cases h
   exact finR2 k z (RV.cA k z ta38 (Bf.at (m.a 1 z) 0 7 z z z) z) (RV.tmp k z) ⟨z,m.ext⟩
 exact ⟨(⟨0,0,0,0,0,0,0⟩:Typ),Bj,false,0,k.keep [1,2,4,6,7,8] z,m.sel [2,1,0] z (by decide),Bl,h⟩

end Go.Proofs.YtlmibnlfkmiikaaGreat
