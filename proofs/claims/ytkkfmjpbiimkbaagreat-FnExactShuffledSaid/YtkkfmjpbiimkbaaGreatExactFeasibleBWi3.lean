/- FnExactFeasible: the walks of functions that it reaches (ExactFeasibleBWi,part 3). Printed by gen.py. -/
import Derived.Test.YtkkfmjpbiimkbaaGreatExactFeasibleBWi2
set_option maxRecDepth 20000
set_option linter.unusedSimpArgs false
set_option linter.unusedVariables false
namespace Go.Proofs.YtkkfmjpbiimkbaaGreat
open Go Go.RowKit
open Enc (rd ow)
open Arg (argv)
open Ret (retv)
open Go.Proofs.Tryz

theorem c_impl_placed (fu:Nat) {w0:World} (b1:Box) (Aa:Spot)  {r:Bool}
    (h:d_impl_placed fu b1 Aa = some r) :
    Calls Tryz.prog 156 #[.agg (Flat.e (b1)).toArray,.agg (Flat.e (Aa)).toArray] w0 fun e w=>e = .returned (.bool (r)) ∧ Ext [] w0 w:=by
 refine enter (vs:=[_,_]) func156 z ntmps156 z fun a k=>?_
 have m:=St.start w0
 unfold d_impl_placed at h
 refine wr (s_box (cs:=[I b1.fW,I b1.fD,I b1.fH,I b1.fGram]) m k z z z z z z fun b3 w5 a k m e Ag=>s_box (cs:=[I Aa.fPallet,I Aa.fX,I Aa.fY,I Aa.fZ]) m k z z z z z z fun b6 w9 a k m e Ah=>pN 1 k z fun a k=>nn (wr (sv k z (r_fa fa86_0 k z z) fun a k=>sv k z (r_ldb t13 m 1 Ag 0 k z z z z z) fun a k=>oE h fun Ar Ao h=>cE k m call153 z z z (c_impl_isPlace fu _  Ao) fun Ba e a k m=>pN 1 k z fun a k=>bsplit (Ar) (fun Ac=>?_) (fun Ac=>?_))))
 · have h:=bif_t Ac h
   refine rB k 8 z Ac fun k=>sv k z (r_fa fa86_1 k z z) fun a k=>sv k z (r_ldb t13 m 1 Ag 1 k z z z z z) fun a k=>oE h fun Ai Ap h=>cE k m call153 z z z (c_impl_isPlace fu _  Ap) fun Ax e a k m=>pN 2 k z fun a k=>bsplit (Ai) (fun Ab=>?_) (fun Ab=>?_)
   · have h:=bif_t Ab h
     refine rB k 13 z Ab fun k=>sv k z (r_fa fa86_2 k z z) fun a k=>sv k z (r_ldb t13 m 1 Ag 2 k z z z z z) fun a k=>oE h fun Ak Aj h=>cE k m call153 z z z (c_impl_isPlace fu _  Aj) fun Ay e a k m=>pN 2 k z fun a k=>bsplit (Ak) (fun Af=>?_) (fun Af=>?_)
     · have h:=bif_t Af h
       refine rB k 18 z Af fun k=>sv k z (r_fa fa89_1 k z z) fun a k=>sv k z (r_ldb t13 m 0 Ah 1 k z z z z z) fun a k=>oE h fun As Am h=>cE k m call153 z z z (c_impl_isPlace fu _  Am) fun Av e a k m=>pN 2 k z fun a k=>bsplit (As) (fun Ad=>?_) (fun Ad=>?_)
       · have h:=bif_t Ad h
         refine rB k 23 z Ad fun k=>sv k z (r_fa fa89_2 k z z) fun a k=>sv k z (r_ldb t13 m 0 Ah 2 k z z z z z) fun a k=>oE h fun Al Aq h=>cE k m call153 z z z (c_impl_isPlace fu _  Aq) fun Au e a k m=>pN 2 k z fun a k=>bsplit (Al) (fun Ae=>?_) (fun Ae=>?_)
         · have h:=bif_t Ae h
           refine rB k 28 z Ae fun k=>sv k z (r_fa fa89_3 k z z) fun a k=>sv k z (r_ldb t13 m 0 Ah 3 k z z z z z) fun a k=>oE h fun Az At h=>cE k m call153 z z z (c_impl_isPlace fu _  At) fun Aw e a k m=>pN 2 k z fun a k=>?_
           have k:=k.keep [4] z
           refine nn (wp_ret (fS h k m z z))
         have h:=bif_f Ae h
         refine rB k 28 z Ae fun k=>pN 5 k z fun a k=>?_
         have k:=k.keep [4] z
         refine nn (wp_ret (fS h k m z z))
       have h:=bif_f Ad h
       refine rB k 23 z Ad fun k=>pN 10 k z fun a k=>?_
       have k:=k.keep [4] z
       refine nn (wp_ret (fS h k m z z))
     have h:=bif_f Af h
     refine rB k 18 z Af fun k=>pN 15 k z fun a k=>?_
     have k:=k.keep [4] z
     refine nn (wp_ret (fS h k m z z))
   have h:=bif_f Ab h
   refine rB k 13 z Ab fun k=>pN 20 k z fun a k=>?_
   have k:=k.keep [4] z
   refine nn (wp_ret (fS h k m z z))
 have h:=bif_f Ac h
 refine rB k 8 z Ac fun k=>pN 25 k z fun a k=>?_
 have k:=k.keep [4] z
 refine nn (wp_ret (fS h k m z z))
theorem c_impl_cross (fu:Nat) {w0:World} (a1:Int) (Ac:Int) (b3:Int) (Ab:Int)  {r:Bool}
    (h:d_impl_cross fu a1 Ac b3 Ab = some r) :
    Calls Tryz.prog 157 #[I a1,I Ac,I b3,I Ab] w0 fun e w=>e = .returned (.bool (r)) ∧ Ext [] w0 w:=by
 refine enter (vs:=[_,_,_,_]) func157 z ntmps157 z fun a k=>?_
 have m:=St.start w0
 unfold d_impl_cross at h
 refine wr (pN 1 k z fun a k=>nn (wr (pN 6 k z fun a k=>bsplit (decide (a1 < (w64 (b3 + Ab)))) (fun Aa=>?_) (fun Aa=>?_))))
 · have h:=bif_t Aa h
   refine rB k 14 z Aa fun k=>pN 7 k z fun a k=>nn (wp_ret (fS h k m z z))
 have h:=bif_f Aa h
 refine rB k 14 z Aa fun k=>pN 7 k z fun a k=>nn (wp_ret (fS h k m z z))
theorem c_impl_Overlap (fu:Nat) {w0:World} (a1:Box) (Aa:Spot) (b3:Box) (t4:Spot)  {r:Bool}
    (h:d_impl_Overlap fu a1 Aa b3 t4 = some r) :
    Calls Tryz.prog 57 #[.agg (Flat.e (a1)).toArray,.agg (Flat.e (Aa)).toArray,.agg (Flat.e (b3)).toArray,.agg (Flat.e (t4)).toArray] w0 fun e w=>e = .returned (.bool (r)) ∧ Ext [] w0 w:=by
 refine enter (vs:=[_,_,_,_]) func57 z ntmps57 z fun a k=>?_
 have m:=St.start w0
 unfold d_impl_Overlap at h
 refine wr (s_box (cs:=[I a1.fW,I a1.fD,I a1.fH,I a1.fGram]) m k z z z z z z fun b5 w7 a k m e Ai=>s_box (cs:=[I Aa.fPallet,I Aa.fX,I Aa.fY,I Aa.fZ]) m k z z z z z z fun b8 Am a k m e Af=>s_box (cs:=[I b3.fW,I b3.fD,I b3.fH,I b3.fGram]) m k z z z z z z fun Ak At a k m e Ah=>s_box (cs:=[I t4.fPallet,I t4.fX,I t4.fY,I t4.fZ]) m k z z z z z z fun Aj Au a k m e Ad=>pN 1 k z fun a k=>nn ?_)
 refine c_cut (fun a w=>K 57 [(4,.pointer (some (⟨b5,0,none⟩:Addr))),(5,.pointer (some (⟨b8,0,none⟩:Addr))),(6,.pointer (some (⟨Ak,0,none⟩:Addr))),(7,.pointer (some (⟨Aj,0,none⟩:Addr)))] a ∧ St [] w0 w [([b5],w7),([b8],Am),([Ak],At),([Aj],Au)] ∧ d_impl_Overlap_J1 fu a1 Aa b3 t4 = some r) ?_ ?_
 · rintro a Ba ⟨k,m,h⟩
   unfold d_impl_Overlap_J1 at h
   refine wr (sv k z (r_fa fa89_1 k z z) fun a k=>sv k z (r_ldb t13 m 1 Af 1 k z z z z z) fun a k=>sv k z (r_fa fa86_0 k z z) fun a k=>sv k z (r_ldb t13 m 0 Ai 0 k z z z z z) fun a k=>sv k z (r_fa fa89_1 k z z) fun a k=>sv k z (r_ldb t13 m 3 Ad 1 k z z z z z) fun a k=>sv k z (r_fa fa86_0 k z z) fun a k=>sv k z (r_ldb t13 m 2 Ah 0 k z z z z z) fun a k=>oE h fun Ay Ao h=>cE k m call157 z z z (c_impl_cross fu _ _ _ _  Ao) fun Bc e a k m=>pN 1 k z fun a k=>bsplit (Ay) (fun Ag=>?_) (fun Ag=>?_))
   · have h:=bif_t Ag h
     refine rB k 35 z Ag fun k=>sv k z (r_fa fa89_2 k z z) fun a k=>sv k z (r_ldb t13 m 1 Af 2 k z z z z z) fun a k=>sv k z (r_fa fa86_1 k z z) fun a k=>sv k z (r_ldb t13 m 0 Ai 1 k z z z z z) fun a k=>sv k z (r_fa fa89_2 k z z) fun a k=>sv k z (r_ldb t13 m 3 Ad 2 k z z z z z) fun a k=>sv k z (r_fa fa86_1 k z z) fun a k=>sv k z (r_ldb t13 m 2 Ah 1 k z z z z z) fun a k=>oE h fun Aw As h=>cE k m call157 z z z (c_impl_cross fu _ _ _ _  As) fun Az e a k m=>pN 2 k z fun a k=>bsplit (Aw) (fun Ab=>?_) (fun Ab=>?_)
     · have h:=bif_t Ab h
       refine rB k 46 z Ab fun k=>sv k z (r_fa fa89_3 k z z) fun a k=>sv k z (r_ldb t13 m 1 Af 3 k z z z z z) fun a k=>sv k z (r_fa fa86_2 k z z) fun a k=>sv k z (r_ldb t13 m 0 Ai 2 k z z z z z) fun a k=>sv k z (r_fa fa89_3 k z z) fun a k=>sv k z (r_ldb t13 m 3 Ad 3 k z z z z z) fun a k=>sv k z (r_fa fa86_2 k z z) fun a k=>sv k z (r_ldb t13 m 2 Ah 2 k z z z z z) fun a k=>oE h fun Bb Ar h=>cE k m call157 z z z (c_impl_cross fu _ _ _ _  Ar) fun Bd e a k m=>pN 2 k z fun a k=>?_
       have k:=k.keep [8] z
       refine nn (wp_ret (fS h k m z z))
     have h:=bif_f Ab h
     refine rB k 46 z Ab fun k=>pN 11 k z fun a k=>?_
     have k:=k.keep [8] z
     refine nn (wp_ret (fS h k m z z))
   have h:=bif_f Ag h
   refine rB k 35 z Ag fun k=>pN 22 k z fun a k=>?_
   have k:=k.keep [8] z
   refine nn (wp_ret (fS h k m z z))
 refine wr (sv k z (r_ldB ta86 m 3 Ai 0 k z z z z z z) fun a k=>sv k z (r_ldB ta89 m 2 Af 0 k z z z z z z) fun a k=>oE h fun Av Aq h=>cE k m call156 z z z (c_impl_placed fu (a1:Box) (Aa:Spot)  Aq) fun Be e a k m=>pN 2 k z fun a k=>bsplit (!Av) (fun Ae=>?_) (fun Ae=>?_))
 · have h:=bif_t Ae h
   refine rB k 13 z Ae fun k=>pN 12 k z fun a k=>nn (wp_cond_true (k.ev z) (wr (pN 1 k z fun a k=>nn (wp_ret (rt_then ?_)))))
   refine fS h k m z z
 have h:=bif_f Ae h
 refine rB k 13 z Ae fun k=>sv k z (r_ldB ta86 m 1 Ah 0 k z z z z z z) fun a k=>sv k z (r_ldB ta89 m 0 Ad 0 k z z z z z z) fun a k=>oE h fun Ax Ap h=>cE k m call156 z z z (c_impl_placed fu (b3:Box) (t4:Spot)  Ap) fun Bf e a k m=>pN 3 k z fun a k=>bsplit (!Ax) (fun Ac=>?_) (fun Ac=>?_)
 · have h:=bif_t Ac h
   refine rB k 19 z Ac fun k=>pN 6 k z fun a k=>nn (wp_cond_true (k.ev z) (wr (pN 1 k z fun a k=>nn (wp_ret (rt_then ?_)))))
   refine fS h k m z z
 have h:=bif_f Ac h
 refine rB k 19 z Ac fun k=>sv k z (r_fa fa89_0 k z z) fun a k=>sv k z (r_ldb t13 m 2 Af 0 k z z z z z) fun a k=>sv k z (r_fa fa89_0 k z z) fun a k=>sv k z (r_ldb t13 m 0 Ad 0 k z z z z z) fun a k=>pN 2 k z fun a k=>nn (cI h k z (fun Al h=>?_) fun Al h=>?_)
 · refine wr (pN 1 k z fun a k=>nn (wp_ret (rt_then ?_)))
   refine fS h k m z z
 refine wp_skip (nm_then ?_)
 exact ⟨k.keep [4,5,6,7] z,m.sel [3,2,1,0] z (by decide),h⟩
theorem c_impl_Pallets (fu:Nat) {w0:World} (Ad:List Spot) {v2:Value} {F3:List Nat} (Af:rd w0 F3 [v2] Ad) {r:Int}
    (h:d_impl_Pallets fu Ad = some r) :
    Calls Tryz.prog 58 #[v2] w0 fun e w=>e = .returned (I r) ∧ Ext [] w0 w:=by
 refine enter (vs:=[_]) func58 z ntmps58 z fun a k=>?_
 have m:=St.start w0
 unfold d_impl_Pallets at h
 refine wr (pN 1 k z fun a k=>nn (wr (pN 1 k z fun a k=>nn (wp_seq (wr (pN 1 k z fun a k=>sv k z (r_len (α:=Spot) Af k underlying56 z z) fun a k=>pN 1 k z fun a k=>nn (wp_block (c_loop (fun n a w=>∃ (Ab:Int) (Ac:Int),K 22 [(3,I Ab),(6,v2),(7,I ((Ad.length:Int))),(8,I Ac)] a ∧ St [] w0 w [] ∧ d_impl_Pallets_L1 fu Ad n Ab Ac = some r) ?_ ?_ fu _ _ ?_))))))))
 · rintro a w ⟨_,_,_,_,h⟩
   exact nS h
 · rintro Ak a Aq ⟨Ab,Ac,k,m,h⟩
   rw [d_impl_Pallets_L1_s] at h
   unfold d_impl_Pallets_L1_B at h
   refine wr (pN 1 k z fun a k=>nn (wp_seq (cI h k z (fun Aj h=>?_) fun Aj h=>?_)))
   · refine wp_skip (nm_then ?_)
     refine c_cut (fun a w=>∃ (Ae:Int),K 22 [(3,I Ae),(6,v2),(7,I ((Ad.length:Int))),(8,I Ac)] a ∧ St [] w0 w [] ∧ d_impl_Pallets_J1 fu (d_impl_Pallets_L1 fu Ad Ak) Ac Ae = some r) ?_ ?_
     · rintro a Ap ⟨Ae,k,m,h⟩
       unfold d_impl_Pallets_J1 at h
       refine wp_region_lit (pN 2 k z fun a k=>nn ?_)
       exact ⟨Ae,w64 (Ac + 1),k.keep [3,6,7,8] z,m.sel [] z (by decide),h⟩
     refine wp_block (wr (oE h fun Aa Ag h=>sv k z (r_ixa Af Ag k ts56 z z z) fun a k=>sv k z (r_lde Af (m.a00 (Enc.rd_lt Af)) Ag ta89 k z z) fun a k=>s_alloc (cs:=[I 0,I 0,I 0,I 0]) m k zeroValue89 z z z z z fun At Au a k m e Al=>s_stb (cs':=[I Aa.fPallet,I Aa.fX,I Aa.fY,I Aa.fZ]) sizeOf89 m 0 Al 0 k z z z z z z z z z z z fun As a k e m Ah=>nn (wr (sv k z (r_fa fa89_0 k z z) fun a k=>sv k z (r_ldb t13 m 0 Ah 0 k z z z z z) fun a k=>oE h fun Ao Ai h=>cE k m call139 z z z (c_impl_in fu _ _ _  Ai) fun Ar e a k m=>nn (cI h k z (fun Am h=>?_) fun Am h=>?_)))))
     · refine wp_region_lit (pN 1 k z fun a k=>sv k z (r_fa fa89_0 k z z) fun a k=>sv k z (r_ldb t13 m 0 Ah 0 k z z z z z) fun a k=>pN 3 k z fun a k=>wpList_nil (nm_block (nm_then ?_)))
       exact ⟨if (w64 (Aa.fPallet + 1)) > Ab then w64 (Aa.fPallet + 1) else Ab,k.keep [3,6,7,8] z,m.sel [] z (by decide),h⟩
     refine wp_skip (nm_block (nm_then ?_))
     exact ⟨Ab,k.keep [3,6,7,8] z,m.sel [] z (by decide),h⟩
   refine wp_exit (ex_then (ex_then (ex_same (nm_then ?_))))
   refine wr (pN 2 k z fun a k=>nn (wp_ret (fS h k m z z)))
 exact ⟨0,0,k.keep [3,6,7,8] z,m.sel [] z (by decide),h⟩
theorem c_impl_OnPallet (fu:Nat) {w0:World} (x1:Plan) (Ab:Int) {Ar:List Value} {F3:List Nat} (Av:rd w0 F3 Ar x1) {r:(List Int)}
    (h:d_impl_OnPallet fu x1 Ab = some r) :
    Calls Tryz.prog 60 #[.agg Ar.toArray,I Ab] w0 fun e w=>∃ (v0:Value) (G0:List Nat),e = .returned (v0) ∧ Ext [] w0 w ∧ ow w G0 [v0] r ∧ (∀ b ∈ G0,w0.heap.size ≤ b):=by
 refine enter (vs:=[_,_]) func60 z ntmps60 z fun a k=>?_
 have m:=St.start w0
 obtain ⟨v6,F7,v8,F9,rfl,rfl,Bi,Ac⟩:=Av
 unfold d_impl_OnPallet at h
 refine wr (s_box (cs:=[v6,v8]) m k z z z z z z fun Bw Bm a k m e Am=>pN 1 k z fun a k=>nn (wp_seq (wr (sv k z (r_fa fa58_1 k z z) fun a k=>sv k z (r_ldb t156 m 0 Am 1 k z z z z z) fun a k=>sv k z (r_len (α:=Spot) Ac k underlying56 z z) fun a k=>sv k z (r_fa fa58_0 k z z) fun a k=>sv k z (r_ldb t155 m 0 Am 0 k z z z z z) fun a k=>sv k z (r_len (α:=Carton) Bi k underlying55 z z) fun a k=>pN 1 k z fun a k=>nn (cI h k z (fun Az h=>?_) fun Az h=>?_)))))
 · refine wr (pN 1 k z fun a k=>nn (wp_ret (rt_then ?_)))
   cases h
   exact finR1 k z (RV.tmp k z) ⟨_,[],z,m.ext,(ow_nil _),(by simp)⟩
 refine wp_skip (nm_then ?_)
 refine wr (s_bs (cs:=[]) (ps:=[]) te63 m k z z z z z z z (by decide) z (by exact (List.forall_mem_nil _)) fun Aq Be Bs a k m e Bb=>?_)
 have Bg:=ow_bx Bb ([]:List Int) z z z
 refine pN 1 k z fun a k=>nn (wp_seq (wr (sv k z (r_fa fa58_1 k z z) fun a k=>sv k z (r_ldb t156 m 1 Am 1 k z z z z z) fun a k=>sv k z (r_len (α:=Spot) Ac k underlying56 z z) fun a k=>pN 1 k z fun a k=>nn (wp_block (c_loop (fun n a w=>∃ (Ae:List Int) (Ak:Value) (Ad:List Nat) (Af:World) (Aa:Int),K 34 [(1,I Ab),(5,Ak),(17,v8),(18,I ((x1.fSpots.length:Int))),(19,I Aa)] a ∧ St [] w0 w [(Ad,Af)] ∧ ow Af Ad [Ak] Ae ∧ d_impl_OnPallet_L1 fu x1 Ab n Ae Aa = some r) ?_ ?_ fu _ _ ?_)))))
 · rintro a w ⟨_,_,_,_,_,_,_,_,h⟩
   exact nS h
 · rintro Ay a Bq ⟨Ae,Ak,Ad,Af,Aa,k,m,Ao,h⟩
   rw [d_impl_OnPallet_L1_s] at h
   unfold d_impl_OnPallet_L1_B at h
   refine wr (pN 1 k z fun a k=>nn (wp_seq (cI h k z (fun Bj h=>?_) fun Bj h=>?_)))
   · refine wp_skip (nm_then ?_)
     refine c_cut (fun a w=>∃ (Ah:List Int) (Ai:Value) (Al:List Nat) (Ag:World),K 34 [(1,I Ab),(5,Ai),(17,v8),(18,I ((x1.fSpots.length:Int))),(19,I Aa)] a ∧ St [] w0 w [(Al,Ag)] ∧ ow Ag Al [Ai] Ah ∧ d_impl_OnPallet_J1 fu (d_impl_OnPallet_L1 fu x1 Ab Ay) Aa Ah = some r) ?_ ?_
     · rintro a Br ⟨Ah,Ai,Al,Ag,k,m,Bh,h⟩
       unfold d_impl_OnPallet_J1 at h
       refine wp_region_lit (pN 2 k z fun a k=>nn ?_)
       exact ⟨Ah,Ai,Al,Ag,w64 (Aa + 1),k.keep [1,5,17,18,19] z,m.sel [0] z (by decide),Bh,h⟩
     refine wp_block (wr (pN 1 k z fun a k=>oE h fun Aj Ap h=>sv k z (r_ixa Ac Ap k ts56 z z z) fun a k=>sv k z (r_lde Ac (m.a00 (Enc.rd_lt Ac)) Ap ta89 k z z) fun a k=>s_alloc (cs:=[I 0,I 0,I 0,I 0]) m k zeroValue89 z z z z z fun Bt Bp a k m e Ba=>pN 1 k z fun a k=>s_stb (cs':=[I Aj.fPallet,I Aj.fX,I Aj.fY,I Aj.fZ]) sizeOf89 m 0 Ba 0 k z z z z z z z z z z z fun Bo a k e m Bl=>nn (wr (sv k z (r_fa fa89_0 k z z) fun a k=>sv k z (r_ldb t13 m 0 Bl 0 k z z z z z) fun a k=>pN 2 k z fun a k=>nn (cI h k z (fun Au h=>?_) fun Au h=>?_)))))
     · refine wp_region_lit (pN 2 k z fun a k=>s_bs (cs:=[I Aa]) (ps:=[(0,.tmp 29)]) te63 m k z z z z z z z (by decide) z (by exact (List.forall_mem_cons.2 ⟨z,(List.forall_mem_nil _)⟩)) fun Bu Bn Bv a k m e As=>?_)
       have Bf:=ow_bx As ([Aa]:List Int) z z z
       refine oE h fun Bc Bk h=>s_appF Bk te63 z m 2 Ao (News.rd (Enc.rd_agr (Enc.ow_rd Bf) (m.a 0 z))) z z k z z z z z z z fun Bd At Ax a k e m Aw=>pN 1 k z fun a k=>wpList_nil (nm_block (nm_then ?_))
       exact ⟨Bc,Bd,At,Ax,k.keep [1,5,17,18,19] z,m.sel [2] z (by decide),Aw,h⟩
     refine wp_skip (nm_block (nm_then ?_))
     exact ⟨Ae,Ak,Ad,Af,k.keep [1,5,17,18,19] z,m.sel [1] z (by decide),Ao,h⟩
   refine wp_exit (ex_then (ex_then (ex_same (nm_then ?_))))
   refine wr (pN 2 k z fun a k=>nn (wp_ret ?_))
   cases h
   exact finR1 k z (RV.tmp k z) ⟨_,Ad,z,m.ext,(Enc.ow_agr Ao (m.a 0 z)),(m.fresh 0 z)⟩
 exact ⟨([]:List Int),(.slice (some ⟨Aq,0,none⟩) 0 0),[Aq],Be,0,k.keep [1,5,17,18,19] z,m.sel [0] z (by decide),Bg,h⟩
theorem c_impl_PalletGram (fu:Nat) {w0:World} (r1:Request) (x5:Plan) (Ak:Int) {At:List Value} {F3:List Nat} (Be:rd w0 F3 At r1) {Ah:List Value} {F7:List Nat} (Bo:rd w0 F7 Ah x5) {r:Int}
    (h:d_impl_PalletGram fu r1 x5 Ak = some r) :
    Calls Tryz.prog 59 #[.agg At.toArray,.agg Ah.toArray,I Ak] w0 fun e w=>e = .returned (I r) ∧ Ext [] w0 w:=by
 refine enter (vs:=[_,_,_]) func59 z ntmps59 z fun a k=>?_
 have m:=St.start w0
 obtain ⟨Av,Bu,As,Cb,Ax,Cc,rfl,rfl,Ay,Ag,Az⟩:=Be
 obtain ⟨Au,Br,Aw,Bt,rfl,rfl,Aa,Am⟩:=Bo
 unfold d_impl_PalletGram at h
 refine wr (s_box (cs:=[I r1.fWay,I r1.fPallet.fW,I r1.fPallet.fD,I r1.fPallet.fH,I r1.fPallet.fGram,I r1.fClasses,Av,As,I r1.fMaster,Ax]) m k z z z z z z fun Al Bg a k m e Ba=>s_box (cs:=[Au,Aw]) m k z z z z z z fun Ai Bi a k m e Ar=>pN 1 k z fun a k=>nn (wr (pN 1 k z fun a k=>nn (wp_seq (wr (sv k z (r_ldB ta58 m 0 Ar 0 k z z z z z z) fun a k=>pN 1 k z fun a k=>oE h fun Aj Bd h=>s_call k call60 z z z z z (c_impl_OnPallet fu _ _ (show rd _ _ [Au,Aw] (x5:Plan) from ⟨_,_,_,_,z,z,(Enc.rd_agr Aa (m.a00 (Enc.rd_lt Aa))),(Enc.rd_agr Am (m.a00 (Enc.rd_lt Am)))⟩) Bd) fun Bw Bn hR=>?_))))))
 obtain ⟨Bl,Aq,rfl,e,Ab,Bf⟩:=hR
 refine ⟨_,z,fun a k=>?_⟩
 have m:=m.new e Aq (fun b hb=>⟨Bf b hb,Enc.rd_lt (Enc.ow_rd Ab) b hb⟩) (Enc.ow_nd Ab)
 refine sv k z (r_len (α:=Int) (Enc.ow_rd Ab) k underlying63 z z) fun a k=>pN 1 k z fun a k=>nn (wp_block (c_loop (fun n a w=>∃ (Ac:Int) (Ad:Int),K 29 [(3,.pointer (some (⟨Al,0,none⟩:Addr))),(4,.pointer (some (⟨Ai,0,none⟩:Addr))),(7,I Ac),(12,Bl),(13,I ((Aj.length:Int))),(14,I Ad)] a ∧ St [] w0 w [([Al],Bg),([Ai],Bi),(Aq,Bn)] ∧ d_impl_PalletGram_L1 fu r1 x5 Aj n Ac Ad = some r) ?_ ?_ fu _ _ ?_))
 · rintro a w ⟨_,_,_,_,h⟩
   exact nS h
 · rintro Bz a Bx ⟨Ac,Ad,k,m,h⟩
   rw [d_impl_PalletGram_L1_s] at h
   unfold d_impl_PalletGram_L1_B at h
   refine wr (pN 1 k z fun a k=>nn (wp_seq (cI h k z (fun Bj h=>?_) fun Bj h=>?_)))
   · refine wp_skip (nm_then ?_)
     refine wp_seq (wp_block (wr (oE h fun Bv Ap h=>sv k z (r_ixa (Enc.ow_rd Ab) Ap k ts63 z z z) fun a k=>sv k z (r_lde1 (Enc.ow_rd Ab) (m.a 2 z) Ap 0 t13 k z z z z) fun a k=>pN 1 k z fun a k=>nn (d_go [] mixo m z fun Bp hMd=>?_))))
     have m:=hMd
     have s:=Ext.refl ([]:List Nat) Bp
     refine dN [0,4] 2 z k (by kernel_rfl) z s (fun _ _ _ _ _=>id) fun a k=>dt k 1 z (by kernel_rfl) z s (fun _ _ _=>id) (fun w s=>r_ldA ta38 (Ba.at ((hMd.step s).a 0 z) 0 10 z z z) z k z z) fun a k=>dt k 2 z (by kernel_rfl) z s (fun _ _ _=>id) (fun w s=>r_fa fa58_0 k z z) fun a k=>dt k 3 z (by kernel_rfl) z s (fun _ _ _=>id) (fun w s=>r_ld1 t155 (r:=[]) (Ar.at ((hMd.step s).a 1 z) 0 1 z z z) k z z) fun a k=>oE h fun Ae Af h=>dt k 5 z (by kernel_rfl) z s (fun _ _ _=>id) (fun w s=>r_ixa Aa Af k ts55 z z z) fun a k=>?_
     obtain ⟨Ca,Bs,By,Bh,Bq,Bc⟩:=rd_get Aa (ix_some Af).2.2
     obtain ⟨Bm,_,rfl,rfl,Ao⟩:=Bh
     refine dt k 6 z (by kernel_rfl) z s (fun _ _ _=>id) (fun w s=>r_ldA ta83 (Bq.agr ((hMd.step s).a00 (Enc.rd_lt Aa)) Bc) z k z z) fun a k=>d_one 7 (by kernel_rfl) z (oE h fun Bk Bb h=>cE k m call155 z z z (c_impl_Gross fu _ _ (show rd _ _ [I r1.fWay,I r1.fPallet.fW,I r1.fPallet.fD,I r1.fPallet.fH,I r1.fPallet.fGram,I r1.fClasses,Av,As,I r1.fMaster,Ax] (r1:Request) from ⟨_,_,_,_,_,_,z,z,(Enc.rd_agr Ay (m.a00 (Enc.rd_lt Ay))),(Enc.rd_agr Ag (m.a00 (Enc.rd_lt Ag))),(Enc.rd_agr Az (m.a00 (Enc.rd_lt Az)))⟩) (show rd _ _ [I Ae.fType,I Ae.fGroup,Bm] (Ae:Carton) from ⟨_,_,z,z,(Enc.rd_agr Ao (m.a00 (Enc.rd_lt Ao)))⟩) Bb) fun Cd e a k m=>?_)
     have s:=s.trans e (by simp)
     refine wpList_nil ⟨s,?_⟩
     refine dN [8,9] 2 z k (by kernel_rfl) z s (fun _ _ _ _ _=>id) fun a k=>d_done (by kernel_rfl) ((nm_block (nm_then ?_)))
     refine wp_region_lit (pN 2 k z fun a k=>nn ?_)
     exact ⟨w64 (Ac + Bk),w64 (Ad + 1),k.keep [3,4,7,12,13,14] z,m.sel [0,1,2] z (by decide),h⟩
   refine wp_exit (ex_then (ex_then (ex_same (nm_then ?_))))
   refine wr (pN 2 k z fun a k=>nn (wp_ret (fS h k m z z)))
 exact ⟨0,0,k.keep [3,4,7,12,13,14] z,m.sel [2,1,0] z (by decide),h⟩
theorem c_impl_spotFault_1 (fu:Nat) {w0:World} (i1:Int) (x2:Plan) (Af:List Int) {v5:Value} {F6:List Nat} {v8:Value} {F9:List Nat} {b3:Nat} (Ab:bx w0 b3 [v5,v8] 58) (Aa:rd w0 F6 [v5] x2.fCartons) (Aw:rd w0 F9 [v8] x2.fSpots) {Aj:Value} {As:List Nat} {Ai:Nat} (Ae:bx w0 Ai [Aj] 63) (Ac:rd w0 As [Aj] Af) {r:Bool}
    (h:d_impl_spotFault_1 fu i1 x2 Af = some r) :
    Calls Tryz.prog 227 #[I i1,.pointer (some (⟨b3,0,none⟩:Addr)),.pointer (some (⟨Ai,0,none⟩:Addr))] w0 fun e w=>e = .returned (.bool (r)) ∧ Ext [] w0 w:=by
 refine enter (vs:=[_,_,_]) func227 z ntmps227 z fun a k=>?_
 have m:=St.start w0
 unfold d_impl_spotFault_1 at h
 refine wr (pN 1 k z fun a k=>nn (wp_seq (d_go [] mixo m z fun Aq hMd=>?_)))
 have m:=hMd
 have s:=Ext.refl ([]:List Nat) Aq
 refine dN [2] 1 z k (by kernel_rfl) z s (fun _ _ _ _ _=>id) fun a k=>dt k 0 z (by kernel_rfl) z s (fun _ _ _=>id) (fun w s=>r_fa fa58_0 k z z) fun a k=>dt k 1 z (by kernel_rfl) z s (fun _ _ _=>id) (fun w s=>r_ld1 t155 (r:=[]) (Ab.at ((hMd.step s).a00 Ab.lt1) 0 1 z z z) k z z) fun a k=>oE h fun Ba Ag h=>dt k 3 z (by kernel_rfl) z s (fun _ _ _=>id) (fun w s=>r_ixa Aa Ag k ts55 z z z) fun a k=>dt k 4 z (by kernel_rfl) z s (fun _ _ _=>id) (fun w s=>r_fa fa83_1 k z z) fun a k=>?_
 obtain ⟨Bf,Au,Be,Am,Ak,Ar⟩:=rd_get Aa (ix_some Ag).2.2
 obtain ⟨Av,_,rfl,rfl,Bb⟩:=Am
 refine dt k 5 z (by kernel_rfl) z s (fun _ _ _=>id) (fun w s=>r_ld1 t13 ((Ak.agr ((hMd.step s).a00 (Enc.rd_lt Aa)) Ar).fld 1 1 (Nat.le_of_ble_eq_true z)) k z z) fun a k=>dt k 6 z (by kernel_rfl) z s (fun _ _ _=>id) (fun w s=>r_fa fa58_0 k z z) fun a k=>dt k 7 z (by kernel_rfl) z s (fun _ _ _=>id) (fun w s=>r_ld1 t155 (r:=[]) (Ab.at ((hMd.step s).a00 Ab.lt1) 0 1 z z z) k z z) fun a k=>dt k 8 z (by kernel_rfl) z s (fun _ _ _=>id) (fun w s=>r_ld1 t163 (r:=[]) (Ae.at ((hMd.step s).a00 Ae.lt1) 0 1 z z z) k z z) fun a k=>oE h fun Bc Ad h=>dt k 9 z (by kernel_rfl) z s (fun _ _ _=>id) (fun w s=>r_ixa Ac Ad k ts63 z z z) fun a k=>?_
 refine dt k 10 z (by kernel_rfl) z s (fun _ _ _=>id) (fun w s=>r_lde1 Ac ((hMd.step s).a00 (Enc.rd_lt Ac)) Ad 0 t13 k z z z z) fun a k=>oE h fun Ax Ah h=>dt k 11 z (by kernel_rfl) z s (fun _ _ _=>id) (fun w s=>r_ixa Aa Ah k ts55 z z z) fun a k=>dt k 12 z (by kernel_rfl) z s (fun _ _ _=>id) (fun w s=>r_fa fa83_1 k z z) fun a k=>?_
 obtain ⟨Az,Ay,Bg,Al,Ap,Ao⟩:=rd_get Aa (ix_some Ah).2.2
 obtain ⟨Bd,_,rfl,rfl,At⟩:=Al
 refine dt k 13 z (by kernel_rfl) z s (fun _ _ _=>id) (fun w s=>r_ld1 t13 ((Ap.agr ((hMd.step s).a00 (Enc.rd_lt Aa)) Ao).fld 1 1 (Nat.le_of_ble_eq_true z)) k z z) fun a k=>dN [14,15] 2 z k (by kernel_rfl) z s (fun _ _ _ _ _=>id) fun a k=>d_done (by kernel_rfl) ((nm_then ?_))
 refine wp_ret (fS h k m z z)
theorem c_impl_spotFault (fu:Nat) {w0:World} (r1:Request) (x5:Plan) {Bp:List Value} {F3:List Nat} (Ct:rd w0 F3 Bp r1) {Bu:List Value} {F7:List Nat} (Dp:rd w0 F7 Bu x5) {r:Int}
    (h:d_impl_spotFault fu r1 x5 = some r) :
    Calls Tryz.prog 125 #[.agg Bp.toArray,.agg Bu.toArray] w0 fun e w=>e = .returned (I r) ∧ Ext [] w0 w:=by
 refine enter (vs:=[_,_]) func125 z ntmps125 z fun a k=>?_
 have m:=St.start w0
 obtain ⟨v9,Ei,Bd,Ej,Bf,Eb,rfl,rfl,Aw,Ba,Ay⟩:=Ct
 obtain ⟨Av,Ex,Bc,Ey,rfl,rfl,Ad,Aa⟩:=Dp
 unfold d_impl_spotFault at h
 refine wr (s_box (cs:=[I r1.fWay,I r1.fPallet.fW,I r1.fPallet.fD,I r1.fPallet.fH,I r1.fPallet.fGram,I r1.fClasses,v9,Bd,I r1.fMaster,Bf]) m k z z z z z z fun Ac Am a k m e Az=>s_box (cs:=[Av,Bc]) m k z z z z z z fun Ab Ak a k m e Ah=>pN 1 k z fun a k=>nn (wr (s_bs (cs:=[]) (ps:=[]) te149 m k z z z z z z z (by decide) z (by exact (List.forall_mem_nil _)) fun Bo Bx Ez a k m e Cn=>?_)))
 have Cc:=ow_bx Cn ([]:List Box) z z z
 refine pN 1 k z fun a k=>nn (wp_seq (wr (sv k z (r_fa fa58_0 k z z) fun a k=>sv k z (r_ldb t155 m 1 Ah 0 k z z z z z) fun a k=>sv k z (r_len (α:=Carton) Ad k underlying55 z z) fun a k=>pN 1 k z fun a k=>nn (wp_block (c_loop (fun n a w=>∃ (Af:List Box) (At:Value) (Ar:List Nat) (Ap:World) (Ax:Int),K 96 [(2,.pointer (some (⟨Ac,0,none⟩:Addr))),(3,.pointer (some (⟨Ab,0,none⟩:Addr))),(5,At),(15,Av),(16,I ((x5.fCartons.length:Int))),(17,I Ax)] a ∧ St [] w0 w [([Ac],Am),([Ab],Ak),(Ar,Ap)] ∧ ow Ap Ar [At] Af ∧ d_impl_spotFault_L4 fu r1 x5 n Af Ax = some r) ?_ ?_ fu _ _ ?_)))))
 · rintro a w ⟨_,_,_,_,_,_,_,_,h⟩
   exact nS h
 · rintro Et a Dy ⟨Af,At,Ar,Ap,Ax,k,m,Ao,h⟩
   rw [d_impl_spotFault_L4_s] at h
   unfold d_impl_spotFault_L4_B at h
   refine wr (pN 1 k z fun a k=>nn (wp_seq (cI h k z (fun Cw h=>?_) fun Cw h=>?_)))
   · refine wp_skip (nm_then ?_)
     refine wp_seq (wp_block (wr (pN 1 k z fun a k=>oE h fun As Bn h=>sv k z (r_ixa Ad Bn k ts55 z z z) fun a k=>?_)))
     obtain ⟨Er,Ea,Ew,Dc,Dd,Ci⟩:=rd_get Ad (ix_some Bn).2.2
     obtain ⟨Bh,_,rfl,rfl,Be⟩:=Dc
     refine sv k z (r_ldA ta83 (Dd.agr (m.a00 (Enc.rd_lt Ad)) Ci) z k z z) fun a k=>s_alloc (cs:=[I 0,I 0,.slice none 0 0]) m k zeroValue83 z z z z z fun Fd Ed a k m e Cl=>pN 1 k z fun a k=>s_stb (cs':=[I As.fType,I As.fGroup,Bh]) sizeOf83 m 0 Cl 0 k z z z z z z z z z z (allc z (allc z (allc (rd_o Be) alln))) fun Fc a k e m Cs=>nn (wr (sv k z (r_ldB ta38 m 1 Az 0 k z z z z z z) fun a k=>sv k z (r_ldB ta83 m 0 Cs 0 k z z z z z z) fun a k=>oE h fun Ae Bz h=>?_))
     refine cE k m call56 z z z (c_impl_BoxOf fu _ _ (show rd _ _ [I r1.fWay,I r1.fPallet.fW,I r1.fPallet.fD,I r1.fPallet.fH,I r1.fPallet.fGram,I r1.fClasses,v9,Bd,I r1.fMaster,Bf] (r1:Request) from ⟨_,_,_,_,_,_,z,z,(Enc.rd_agr Aw (m.a00 (Enc.rd_lt Aw))),(Enc.rd_agr Ba (m.a00 (Enc.rd_lt Ba))),(Enc.rd_agr Ay (m.a00 (Enc.rd_lt Ay)))⟩) (show rd _ _ [I As.fType,I As.fGroup,Bh] (As:Carton) from ⟨_,_,z,z,(Enc.rd_agr Be (m.a00 (Enc.rd_lt Be)))⟩) Bz) fun Dv e a k m=>s_alloc (cs:=[I 0,I 0,I 0,I 0]) m k zeroValue86 z z z z z fun En Fg a k m e Cf=>?_
     refine s_stb (cs':=[I Ae.fW,I Ae.fD,I Ae.fH,I Ae.fGram]) sizeOf86 m 0 Cf 0 k z z z z z z z z z z z fun Du a k e m Bs=>nn (wp_seq (wp_seq (d_go [] mixo m z fun De hMd=>?_)))
     have m:=hMd
     have s:=Ext.refl ([]:List Nat) De
     refine dN [5] 1 z k (by kernel_rfl) z s (fun _ _ _ _ _=>id) fun a k=>dt k 0 z (by kernel_rfl) z s (fun _ _ _=>id) (fun w s=>r_fa fa38_1 k z z) fun a k=>dt k 1 z (by kernel_rfl) z s (fun _ _ _=>id) (fun w s=>r_ldA ta33 (Az.at ((hMd.step s).a 2 z) 1 4 z z z) z k z z) fun a k=>dt k 2 z (by kernel_rfl) z s (fun _ _ _=>id) (fun w s=>r_ldA ta86 (Bs.at ((hMd.step s).a 0 z) 0 4 z z z) z k z z) fun a k=>dt k 3 z (by kernel_rfl) z s (fun _ _ _=>id) (fun w s=>r_fa fa58_1 k z z) fun a k=>dt k 4 z (by kernel_rfl) z s (fun _ _ _=>id) (fun w s=>r_ld1 t156 (r:=[]) (Ah.at ((hMd.step s).a 3 z) 1 1 z z z) k z z) fun a k=>oE h fun Ck Bt h=>?_
     refine dt k 6 z (by kernel_rfl) z s (fun _ _ _=>id) (fun w s=>r_ixa Aa Bt k ts56 z z z) fun a k=>dt k 7 z (by kernel_rfl) z s (fun _ _ _=>id) (fun w s=>r_lde Aa ((hMd.step s).a00 (Enc.rd_lt Aa)) Bt ta89 k z z) fun a k=>d_one 8 (by kernel_rfl) z (oE h fun Dt Ce h=>cE k m call55 z z z (c_impl_Within fu (r1.fPallet:Pallet) (Ae:Box) (Ck:Spot)  Ce) fun Ef e a k m=>?_)
     have s:=s.trans e (by simp)
     refine wpList_nil ⟨s,?_⟩
     refine dN [9] 1 z k (by kernel_rfl) z s (fun _ _ _ _ _=>id) fun a k=>d_done (by kernel_rfl) ((nm_then ?_))
     refine cI h k z (fun Cy h=>?_) fun Cy h=>?_
     · refine wr (pN 1 k z fun a k=>nn (wp_ret (rt_then (rt_block (rt_then (rt_then (rt_block (rt_then ?_))))))))
       refine fS h k m z z
     refine wp_skip (nm_then ?_)
     refine wp_region_lit (pN 1 k z fun a k=>sv k z (r_ldB ta86 m 0 Bs 0 k z z z z z z) fun a k=>s_bs (cs:=[I Ae.fW,I Ae.fD,I Ae.fH,I Ae.fGram]) (ps:=[(0,.tmp 36)]) te149 m k z z z z z z z (by decide) z (by exact (List.forall_mem_cons.2 ⟨z,(List.forall_mem_nil _)⟩)) fun Ek Ev Fa a k m e Dm=>?_)
     have Cx:=ow_bx Dm ([Ae]:List Box) z z z
     refine oE h fun Df Do h=>s_appF Do te149 z m 5 Ao (News.rd (Enc.rd_agr (Enc.ow_rd Cx) (m.a 0 z))) z z k z z z z z z z fun Cq Dj Dr a k e m Cj=>pN 1 k z fun a k=>?_
     have k:=k.keep [2,3,15,16,5,17] z
     refine wpList_nil (nm_block (nm_then ?_))
     refine wp_region_lit (pN 2 k z fun a k=>nn ?_)
     exact ⟨Df,Cq,Dj,Dr,w64 (Ax + 1),k.keep [2,3,5,15,16,17] z,m.sel [3,4,5] z (by decide),Cj,h⟩
   refine wp_exit (ex_then (ex_then (ex_same (nm_then ?_))))
   refine wp_seq (wr (pN 1 k z fun a k=>sv k z (r_len (α:=Box) (Enc.ow_rd Ao) k underlying149 z z) fun a k=>pN 1 k z fun a k=>nn (wp_block (c_loop (fun n a w=>∃ (Ai:Int),K 96 [(2,.pointer (some (⟨Ac,0,none⟩:Addr))),(3,.pointer (some (⟨Ab,0,none⟩:Addr))),(5,At),(41,I ((Af.length:Int))),(42,I Ai)] a ∧ St [] w0 w [([Ac],Am),([Ab],Ak),(Ar,Ap)] ∧ d_impl_spotFault_L3 fu r1 x5 Af n Ai = some r) ?_ ?_ fu _ _ ?_))))
   · rintro a w ⟨_,_,_,h⟩
     exact nS h
   · rintro Co a El ⟨Ai,k,m,h⟩
     rw [d_impl_spotFault_L3_s] at h
     unfold d_impl_spotFault_L3_B at h
     refine wr (pN 1 k z fun a k=>nn (wp_seq (cI h k z (fun Cp h=>?_) fun Cp h=>?_)))
     · refine wp_skip (nm_then ?_)
       refine wp_seq (wp_block (wr (pN 2 k z fun a k=>nn (wr (pN 2 k z fun a k=>nn (wp_block (c_loop (fun n a w=>∃ (Au:Int),K 96 [(2,.pointer (some (⟨Ac,0,none⟩:Addr))),(3,.pointer (some (⟨Ab,0,none⟩:Addr))),(5,At),(9,I Ai),(41,I ((Af.length:Int))),(42,I Ai),(45,I Ai),(46,I Au)] a ∧ St [] w0 w [([Ac],Am),([Ab],Ak),(Ar,Ap)] ∧ d_impl_spotFault_L1 fu (d_impl_spotFault_L3 fu r1 x5 Af Co) x5 Af Ai n Au = some r) ?_ ?_ fu _ _ ?_)))))))
       · rintro a w ⟨_,_,_,h⟩
         exact nS h
       · rintro Ds a Dx ⟨Au,k,m,h⟩
         rw [d_impl_spotFault_L1_s] at h
         unfold d_impl_spotFault_L1_B at h
         refine wr (pN 1 k z fun a k=>nn (wp_seq (cI h k z (fun Db h=>?_) fun Db h=>?_)))
         · refine wp_skip (nm_then ?_)
           refine wp_seq (wp_block (wr (pN 2 k z fun a k=>nn (wp_seq (d_go [] mixo m z fun Dl hMd=>?_)))))
           have m:=hMd
           have s:=Ext.refl ([]:List Nat) Dl
           refine dN [0,1,6,9,10,15] 6 z k (by kernel_rfl) z s (fun _ _ _ _ _=>id) fun a k=>oE h fun Dq Br h=>dt k 2 z (by kernel_rfl) z s (fun _ _ _=>id) (fun w s=>r_ixa (Enc.ow_rd Ao) Br k ts149 z z z) fun a k=>dt k 3 z (by kernel_rfl) z s (fun _ _ _=>id) (fun w s=>r_lde (Enc.ow_rd Ao) ((hMd.step s).a 2 z) Br ta86 k z z) fun a k=>dt k 4 z (by kernel_rfl) z s (fun _ _ _=>id) (fun w s=>r_fa fa58_1 k z z) fun a k=>dt k 5 z (by kernel_rfl) z s (fun _ _ _=>id) (fun w s=>r_ld1 t156 (r:=[]) (Ah.at ((hMd.step s).a 1 z) 1 1 z z z) k z z) fun a k=>oE h fun Cd Bm h=>dt k 7 z (by kernel_rfl) z s (fun _ _ _=>id) (fun w s=>r_ixa Aa Bm k ts56 z z z) fun a k=>?_
           refine dt k 8 z (by kernel_rfl) z s (fun _ _ _=>id) (fun w s=>r_lde Aa ((hMd.step s).a00 (Enc.rd_lt Aa)) Bm ta89 k z z) fun a k=>oE h fun Bw Bi h=>dt k 11 z (by kernel_rfl) z s (fun _ _ _=>id) (fun w s=>r_ixa (Enc.ow_rd Ao) Bi k ts149 z z z) fun a k=>dt k 12 z (by kernel_rfl) z s (fun _ _ _=>id) (fun w s=>r_lde (Enc.ow_rd Ao) ((hMd.step s).a 2 z) Bi ta86 k z z) fun a k=>dt k 13 z (by kernel_rfl) z s (fun _ _ _=>id) (fun w s=>r_fa fa58_1 k z z) fun a k=>dt k 14 z (by kernel_rfl) z s (fun _ _ _=>id) (fun w s=>r_ld1 t156 (r:=[]) (Ah.at ((hMd.step s).a 1 z) 1 1 z z z) k z z) fun a k=>oE h fun Cr Bl h=>dt k 16 z (by kernel_rfl) z s (fun _ _ _=>id) (fun w s=>r_ixa Aa Bl k ts56 z z z) fun a k=>?_
           refine dt k 17 z (by kernel_rfl) z s (fun _ _ _=>id) (fun w s=>r_lde Aa ((hMd.step s).a00 (Enc.rd_lt Aa)) Bl ta89 k z z) fun a k=>d_one 18 (by kernel_rfl) z (oE h fun Eo Di h=>cE k m call57 z z z (c_impl_Overlap fu (Dq:Box) (Cd:Spot) (Bw:Box) (Cr:Spot)  Di) fun Eu e a k m=>?_)
           have s:=s.trans e (by simp)
           refine wpList_nil ⟨s,?_⟩
           refine d_done (by kernel_rfl) ((nm_then ?_))
           refine cI h k z (fun Cb h=>?_) fun Cb h=>?_
           · refine wr (pN 1 k z fun a k=>nn (wp_ret (rt_block (rt_then (rt_then (rt_block (rt_block (rt_then (rt_then (rt_block (rt_then ?_)))))))))))
             refine fS h k m z z
           refine wp_skip (nm_block (nm_then ?_))
           refine wp_region_lit (pN 2 k z fun a k=>nn ?_)
           exact ⟨w64 (Au + 1),k.keep [2,3,5,9,41,42,45,46] z,m.sel [0,1,2] z (by decide),h⟩
         refine wp_exit (ex_then (ex_then (ex_same (nm_block (nm_then ?_)))))
         refine wp_region_lit (pN 2 k z fun a k=>nn ?_)
         exact ⟨w64 (Ai + 1),k.keep [2,3,5,41,42] z,m.sel [0,1,2] z (by decide),h⟩
       exact ⟨0,k.keep [2,3,5,9,41,42,45,46] z,m.sel [0,1,2] z (by decide),h⟩
     refine wp_exit (ex_then (ex_then (ex_same (nm_then ?_))))
     refine wp_seq (wr (sv k z (r_fa fa58_1 k z z) fun a k=>sv k z (r_ldb t156 m 1 Ah 1 k z z z z z) fun a k=>oE h fun Al Cv h=>cE k m call58 z z z (c_impl_Pallets fu _ (Enc.rd_agr Aa (m.a00 (Enc.rd_lt Aa))) Cv) fun Es e a k m=>pN 1 k z fun a k=>nn (wp_block (c_loop (fun n a w=>∃ (Ag:Int),K 96 [(2,.pointer (some (⟨Ac,0,none⟩:Addr))),(3,.pointer (some (⟨Ab,0,none⟩:Addr))),(72,I Al),(73,I Ag)] a ∧ St [] w0 w [([Ac],Am),([Ab],Ak)] ∧ d_impl_spotFault_L2 fu r1 x5 Al n Ag = some r) ?_ ?_ fu _ _ ?_))))
     · rintro a w ⟨_,_,_,h⟩
       exact nS h
     · rintro Bq a Eh ⟨Ag,k,m,h⟩
       rw [d_impl_spotFault_L2_s] at h
       unfold d_impl_spotFault_L2_B at h
       refine wr (pN 1 k z fun a k=>nn (wp_seq (cI h k z (fun Dn h=>?_) fun Dn h=>?_)))
       · refine wp_skip (nm_then ?_)
         refine c_cut (fun a w=>K 96 [(2,.pointer (some (⟨Ac,0,none⟩:Addr))),(3,.pointer (some (⟨Ab,0,none⟩:Addr))),(72,I Al),(73,I Ag)] a ∧ St [] w0 w [([Ac],Am),([Ab],Ak)] ∧ d_impl_spotFault_J1 fu (d_impl_spotFault_L2 fu r1 x5 Al Bq) Ag = some r) ?_ ?_
         · rintro a Dw ⟨k,m,h⟩
           unfold d_impl_spotFault_J1 at h
           refine wp_region_lit (pN 2 k z fun a k=>nn ?_)
           exact ⟨w64 (Ag + 1),k.keep [2,3,72,73] z,m.sel [0,1] z (by decide),h⟩
         refine wp_block (wr (pN 2 k z fun a k=>nn (wr (sv k z (r_ldB ta58 m 1 Ah 0 k z z z z z z) fun a k=>pN 1 k z fun a k=>oE h fun Bj By h=>s_call k call60 z z z z z (c_impl_OnPallet fu _ _ (show rd _ _ [Av,Bc] (x5:Plan) from ⟨_,_,_,_,z,z,(Enc.rd_agr Ad (m.a00 (Enc.rd_lt Ad))),(Enc.rd_agr Aa (m.a00 (Enc.rd_lt Aa)))⟩) By) fun Dz Dg hR=>?_))))
         obtain ⟨Cu,Bk,rfl,e,Aj,Cm⟩:=hR
         refine ⟨_,z,fun a k=>?_⟩
         have m:=m.new e Bk (fun b hb=>⟨Cm b hb,Enc.rd_lt (Enc.ow_rd Aj) b hb⟩) (Enc.ow_nd Aj)
         refine s_alloc (cs:=[.slice none 0 0]) m k zeroValue63 z z z z z fun Bg Ff a k m e Ca=>s_stb1 (cs':=[Cu]) sizeOf63 m 0 Ca 0 k (rd_c (Enc.ow_rd Aj)) (rd_o (Enc.ow_rd Aj)) z z z z z z z z z fun Da a k e m Bb=>nn (c_cut (fun a w=>K 96 [(2,.pointer (some (⟨Ac,0,none⟩:Addr))),(3,.pointer (some (⟨Ab,0,none⟩:Addr))),(12,.pointer (some (⟨Bg,0,none⟩:Addr))),(72,I Al),(73,I Ag)] a ∧ St [] w0 w [([Ac],Am),([Ab],Ak),([Bg],Da),(Bk,Dg)] ∧ d_impl_spotFault_J2 fu (d_impl_spotFault_L2 fu r1 x5 Al Bq) x5 Ag Bj = some r) ?_ ?_)
         · rintro a Ec ⟨k,m,h⟩
           unfold d_impl_spotFault_J2 at h
           refine wr (sv k z (r_ldb t163 m 2 Bb 0 k z z z z z) fun a k=>pN 1 k z fun a k=>oE h fun Fe Cg h=>cE k m call172 z z z (c_slices_ContainsFunc_int_int fu _ _ (Enc.rd_agr (Enc.ow_rd Aj) (m.a 3 z)) ⟨227,[.pointer (some (⟨Ab,0,none⟩:Addr)),.pointer (some (⟨Bg,0,none⟩:Addr))],z,call227,fun w Fb Ee r e Dk hx=>by subst Dk; have m:=m.step e; exact c_impl_spotFault_1 fu _ _ _ (Ah.agr (m.a 1 rfl) (by simp)) (Enc.rd_agr Ad (m.a00 (Enc.rd_lt Ad))) (Enc.rd_agr Aa (m.a00 (Enc.rd_lt Aa))) (Bb.agr (m.a 2 rfl) (by simp)) (Enc.rd_agr (Enc.ow_rd Aj) (m.a 3 rfl)) hx⟩ Cg) fun Em e a k m=>nn (cI h k rfl (fun Bv h=>?_) fun Bv h=>?_))
           · refine wr (pN 1 k z fun a k=>nn (wp_ret (rt_block (rt_then (rt_then (rt_block (rt_then ?_)))))))
             refine fS h k m z z
           refine wp_skip (nm_block (nm_then ?_))
           exact ⟨k.keep [2,3,72,73] z,m.sel [0,1] z (by decide),h⟩
         refine wp_seq (d_go [] mixo m z fun Ch hMd=>?_)
         have m:=hMd
         have s:=Ext.refl ([]:List Nat) Ch
         refine dt k 0 z (by kernel_rfl) z s (fun _ _ _=>id) (fun w s=>r_ld1 t163 (r:=[]) (Bb.at ((hMd.step s).a 0 z) 0 1 z z z) k z z) fun a k=>dt k 1 z (by kernel_rfl) z s (fun _ _ _=>id) (fun w s=>r_len (α:=Int) (Enc.ow_rd Aj) k underlying63 z z) fun a k=>dN [2,3] 2 z k (by kernel_rfl) z s (fun _ _ _ _ _=>id) fun a k=>bsplit (((Bj.length:Int)) == 0) (fun Aq=>?_) (fun Aq=>?_)
         · have h:=bif_t Aq h
           refine rB k 82 z Aq fun k=>dN [4,5,6,7,8,9,10,11,12] 9 z k (by kernel_rfl) z s (fun _ _ _ _ _=>id) fun a k=>d_done (by kernel_rfl) ((nm_then ?_))
           refine wp_cond_true (k.ev z) (wr (pN 1 k z fun a k=>nn (wp_ret (rt_then (rt_block (rt_then (rt_then (rt_block (rt_then ?_)))))))))
           refine fS h k m z z
         have h:=bif_f Aq h
         refine rB k 82 z Aq fun k=>dN [6] 1 z k (by kernel_rfl) z s (fun _ _ _ _ _=>id) fun a k=>dt k 4 z (by kernel_rfl) z s (fun _ _ _=>id) (fun w s=>r_ldA ta38 (Az.at ((hMd.step s).a 2 z) 0 10 z z z) z k z z) fun a k=>dt k 5 z (by kernel_rfl) z s (fun _ _ _=>id) (fun w s=>r_ldA ta58 (Ah.at ((hMd.step s).a 3 z) 0 2 z z z) z k z z) fun a k=>dt k 8 z (by kernel_rfl) z s (fun _ _ _=>id) (fun w s=>r_fa fa38_1 k z z) fun a k=>dt k 9 z (by kernel_rfl) z s (fun _ _ _=>id) (fun w s=>r_fa fa33_3 k z z) fun a k=>dt k 10 z (by kernel_rfl) z s (fun _ _ _=>id) (fun w s=>r_ld1 t13 (r:=[]) (Az.at ((hMd.step s).a 2 z) 4 1 z z z) k z z) fun a k=>d_one 7 (by kernel_rfl) z (oE h fun Eg Dh h=>?_)
         refine cE k m call59 z z z (c_impl_PalletGram fu _ _ _ (show rd _ _ [I r1.fWay,I r1.fPallet.fW,I r1.fPallet.fD,I r1.fPallet.fH,I r1.fPallet.fGram,I r1.fClasses,v9,Bd,I r1.fMaster,Bf] (r1:Request) from ⟨_,_,_,_,_,_,z,z,(Enc.rd_agr Aw (m.a00 (Enc.rd_lt Aw))),(Enc.rd_agr Ba (m.a00 (Enc.rd_lt Ba))),(Enc.rd_agr Ay (m.a00 (Enc.rd_lt Ay)))⟩) (show rd _ _ [Av,Bc] (x5:Plan) from ⟨_,_,_,_,z,z,(Enc.rd_agr Ad (m.a00 (Enc.rd_lt Ad))),(Enc.rd_agr Aa (m.a00 (Enc.rd_lt Aa)))⟩) Dh) fun Ep e a k m=>?_
         have s:=s.trans e (by simp)
         refine wpList_nil ⟨s,?_⟩
         refine dN [11,12] 2 z k (by kernel_rfl) z s (fun _ _ _ _ _=>id) fun a k=>d_done (by kernel_rfl) ((nm_then ?_))
         refine cI h k z (fun Cz h=>?_) fun Cz h=>?_
         · refine wr (pN 1 k z fun a k=>nn (wp_ret (rt_then (rt_block (rt_then (rt_then (rt_block (rt_then ?_))))))))
           refine fS h k m z z
         refine wp_skip (nm_then ?_)
         exact ⟨k.keep [2,3,12,72,73] z,m.sel [2,3,0,1] z (by decide),h⟩
       refine wp_exit (ex_then (ex_then (ex_same (nm_then ?_))))
       refine wr (pN 1 k z fun a k=>nn (wp_ret (fS h k m z z)))
     exact ⟨0,k.keep [2,3,72,73] z,m.sel [0,1] z (by decide),h⟩
   exact ⟨0,k.keep [2,3,5,41,42] z,m.sel [0,1,2] z (by decide),h⟩
 exact ⟨([]:List Box),(.slice (some ⟨Bo,0,none⟩) 0 0),[Bo],Bx,0,k.keep [2,3,5,15,16,17] z,m.sel [2,1,0] z (by decide),Cc,h⟩
theorem c_impl_Check (fu:Nat) {w0:World} (r1:Request) (x5:Plan) {As:List Value} {F3:List Nat} (Bj:rd w0 F3 As r1) {Av:List Value} {F7:List Nat} (Bt:rd w0 F7 Av x5) {r:Int}
    (h:d_impl_Check fu r1 x5 = some r) :
    Calls Tryz.prog 35 #[.agg As.toArray,.agg Av.toArray] w0 fun e w=>e = .returned (I r) ∧ Ext [] w0 w:=by
 refine enter (vs:=[_,_]) func35 z ntmps35 z fun a k=>?_
 have m:=St.start w0
 obtain ⟨v9,Cg,Ag,Ch,Ak,Cc,rfl,rfl,Ac,Ae,Ad⟩:=Bj
 obtain ⟨Ah,Cx,Af,Cy,rfl,rfl,Aa,Ab⟩:=Bt
 unfold d_impl_Check at h
 refine wr (s_box (cs:=[I r1.fWay,I r1.fPallet.fW,I r1.fPallet.fD,I r1.fPallet.fH,I r1.fPallet.fGram,I r1.fClasses,v9,Ag,I r1.fMaster,Ak]) m k z z z z z z fun Au Bm a k m e Al=>s_box (cs:=[Ah,Af]) m k z z z z z z fun At Bd a k m e Ai=>pN 1 k z fun a k=>nn (wp_seq (wr (sv k z (r_ldB ta38 m 1 Al 0 k z z z z z z) fun a k=>oE h fun Cz Be h=>?_))))
 refine cE k m call115 z z z (c_impl_sound fu _ (show rd _ _ [I r1.fWay,I r1.fPallet.fW,I r1.fPallet.fD,I r1.fPallet.fH,I r1.fPallet.fGram,I r1.fClasses,v9,Ag,I r1.fMaster,Ak] (r1:Request) from ⟨_,_,_,_,_,_,z,z,(Enc.rd_agr Ac (m.a00 (Enc.rd_lt Ac))),(Enc.rd_agr Ae (m.a00 (Enc.rd_lt Ae))),(Enc.rd_agr Ad (m.a00 (Enc.rd_lt Ad)))⟩) Be) fun Cf e a k m=>pN 1 k z fun a k=>nn (cI h k z (fun Bn h=>?_) fun Bn h=>?_)
 · refine wr (pN 1 k z fun a k=>nn (wp_ret (rt_then ?_)))
   refine fS h k m z z
 refine wp_skip (nm_then ?_)
 refine c_cut (fun a w=>K 38 [(2,.pointer (some (⟨Au,0,none⟩:Addr))),(3,.pointer (some (⟨At,0,none⟩:Addr)))] a ∧ St [] w0 w [([Au],Bm),([At],Bd)] ∧ d_impl_Check_J1 fu r1 x5 = some r) ?_ ?_
 · rintro a Ca ⟨k,m,h⟩
   unfold d_impl_Check_J1 at h
   refine wr (sv k z (r_ldB ta58 m 1 Ai 0 k z z z z z z) fun a k=>oE h fun Co Bs h=>s_call k call119 z z z z z (c_impl_allUnits fu _ (show rd _ _ [Ah,Af] (x5:Plan) from ⟨_,_,_,_,z,z,(Enc.rd_agr Aa (m.a00 (Enc.rd_lt Aa))),(Enc.rd_agr Ab (m.a00 (Enc.rd_lt Ab)))⟩) Bs) fun Cu Bx hR=>?_)
   obtain ⟨Cw,Az,rfl,e,Ap,Br⟩:=hR
   refine ⟨_,z,fun a k=>?_⟩
   have m:=m.new e Az (fun b hb=>⟨Br b hb,Enc.rd_lt (Enc.ow_rd Ap) b hb⟩) (Enc.ow_nd Ap)
   refine pN 1 k z fun a k=>nn (wr (pN 1 k z fun a k=>oE h fun Cn Bu h=>s_call k call120 z z z z z (c_slices_Sort_int_int fu _ (Enc.ow_agr Ap (m.a 0 z)) Bu) fun Cv Cr hR=>?_))
   obtain ⟨Ci,rfl,e,Bi,Ao⟩:=hR
   refine ⟨_,z,fun a k=>?_⟩
   have m:=m.mut 0 z e _ (fun b hb=>⟨Bi b hb,Enc.rd_lt (Enc.ow_rd Ao) b hb⟩) (Enc.ow_nd Ao)
   refine nn (wp_seq (wr (pN 1 k z fun a k=>sv k z (r_ldB ta38 m 1 Al 0 k z z z z z z) fun a k=>oE h fun Cq Ax h=>s_call k call123 z z z z z (c_impl_Units fu _ (show rd _ _ [I r1.fWay,I r1.fPallet.fW,I r1.fPallet.fD,I r1.fPallet.fH,I r1.fPallet.fGram,I r1.fClasses,v9,Ag,I r1.fMaster,Ak] (r1:Request) from ⟨_,_,_,_,_,_,z,z,(Enc.rd_agr Ac (m.a00 (Enc.rd_lt Ac))),(Enc.rd_agr Ae (m.a00 (Enc.rd_lt Ae))),(Enc.rd_agr Ad (m.a00 (Enc.rd_lt Ad)))⟩) Ax) fun Cj Dd hR=>?_)))
   obtain ⟨De,Bh,rfl,e,Ar,Bb⟩:=hR
   refine ⟨_,z,fun a k=>?_⟩
   have m:=m.new e Bh (fun b hb=>⟨Bb b hb,Enc.rd_lt (Enc.ow_rd Ar) b hb⟩) (Enc.ow_nd Ar)
   refine sv k z (r_len (α:=Int) (Enc.ow_rd Ar) k underlying63 z z) fun a k=>oE h fun Bz Bq h=>s_call k call122 z z z z z (c_impl_places fu _  Bq) fun Ck Cb hR=>?_
   obtain ⟨Bw,Bf,rfl,e,Aq,Bk⟩:=hR
   refine ⟨_,z,fun a k=>?_⟩
   have m:=m.new e Bf (fun b hb=>⟨Bk b hb,Enc.rd_lt (Enc.ow_rd Aq) b hb⟩) (Enc.ow_nd Aq)
   refine oE h fun Cl Bg h=>cE k m call121 z z z (c_slices_Equal_int_int fu _ _ (Enc.rd_agr (Enc.ow_rd Ao) (m.a 2 z)) (Enc.rd_agr (Enc.ow_rd Aq) (m.a 0 z)) Bg) fun Db e a k m=>pN 1 k z fun a k=>nn (cI h k z (fun Bp h=>?_) fun Bp h=>?_)
   · refine wr (pN 1 k z fun a k=>nn (wp_ret (rt_then ?_)))
     refine fS h k m z z
   refine wp_skip (nm_then ?_)
   refine wp_seq (wr (sv k z (r_ldB ta38 m 3 Al 0 k z z z z z z) fun a k=>sv k z (r_ldB ta58 m 4 Ai 0 k z z z z z z) fun a k=>oE h fun Cp Bc h=>cE k m call124 z z z (c_impl_cartonFault fu _ _ (show rd _ _ [I r1.fWay,I r1.fPallet.fW,I r1.fPallet.fD,I r1.fPallet.fH,I r1.fPallet.fGram,I r1.fClasses,v9,Ag,I r1.fMaster,Ak] (r1:Request) from ⟨_,_,_,_,_,_,z,z,(Enc.rd_agr Ac (m.a00 (Enc.rd_lt Ac))),(Enc.rd_agr Ae (m.a00 (Enc.rd_lt Ae))),(Enc.rd_agr Ad (m.a00 (Enc.rd_lt Ad)))⟩) (show rd _ _ [Ah,Af] (x5:Plan) from ⟨_,_,_,_,z,z,(Enc.rd_agr Aa (m.a00 (Enc.rd_lt Aa))),(Enc.rd_agr Ab (m.a00 (Enc.rd_lt Ab)))⟩) Bc) fun Dc e a k m=>pN 1 k z fun a k=>nn (wr (pN 2 k z fun a k=>nn ?_))))
   refine cI h k z (fun Bo h=>?_) fun Bo h=>?_
   · refine wr (pN 2 k z fun a k=>nn (wp_ret (rt_then ?_)))
     refine fS h k m z z
   refine wp_skip (nm_then ?_)
   refine wr (sv k z (r_ldB ta38 m 3 Al 0 k z z z z z z) fun a k=>sv k z (r_ldB ta58 m 4 Ai 0 k z z z z z z) fun a k=>oE h fun Cs Bl h=>cE k m call125 z z z (c_impl_spotFault fu _ _ (show rd _ _ [I r1.fWay,I r1.fPallet.fW,I r1.fPallet.fD,I r1.fPallet.fH,I r1.fPallet.fGram,I r1.fClasses,v9,Ag,I r1.fMaster,Ak] (r1:Request) from ⟨_,_,_,_,_,_,z,z,(Enc.rd_agr Ac (m.a00 (Enc.rd_lt Ac))),(Enc.rd_agr Ae (m.a00 (Enc.rd_lt Ae))),(Enc.rd_agr Ad (m.a00 (Enc.rd_lt Ad)))⟩) (show rd _ _ [Ah,Af] (x5:Plan) from ⟨_,_,_,_,z,z,(Enc.rd_agr Aa (m.a00 (Enc.rd_lt Aa))),(Enc.rd_agr Ab (m.a00 (Enc.rd_lt Ab)))⟩) Bl) fun Ce e a k m=>pN 1 k z fun a k=>nn (wp_ret (fS h k m z z)))
 refine wr (sv k z (r_ldB ta58 m 0 Ai 0 k z z z z z z) fun a k=>oE h fun Ba Bv h=>cE k m call116 z z z (c_impl_PlanOk fu _ (show rd _ _ [Ah,Af] (x5:Plan) from ⟨_,_,_,_,z,z,(Enc.rd_agr Aa (m.a00 (Enc.rd_lt Aa))),(Enc.rd_agr Ab (m.a00 (Enc.rd_lt Ab)))⟩) Bv) fun Da e a k m=>pN 2 k z fun a k=>bsplit (!Ba) (fun Aj=>?_) (fun Aj=>?_))
 · have h:=bif_t Aj h
   refine rB k 13 z Aj fun k=>pN 4 k z fun a k=>nn (wp_cond_true (k.ev z) (wr (pN 1 k z fun a k=>nn (wp_ret (rt_then ?_)))))
   refine fS h k m z z
 have h:=bif_f Aj h
 refine rB k 13 z Aj fun k=>sv k z (r_fa fa58_0 k z z) fun a k=>sv k z (r_ldb t155 m 0 Ai 0 k z z z z z) fun a k=>oE h fun Cm Aw h=>cE k m call117 z z z (c_slices_ContainsFunc_impl_Carton_impl_Carton fu _ _ (Enc.rd_agr Aa (m.a00 (Enc.rd_lt Aa))) ⟨118,[],z,call118,fun w By Ct r e Am hx=>by obtain ⟨_,_,rfl,Am⟩:=Am; have m:=m.step e; exact c_impl_Check_1 fu _ Am hx⟩ Aw) fun Cd e a k m=>pN 1 k z fun a k=>nn (cI h k z (fun Ay h=>?_) fun Ay h=>?_)
 · refine wr (pN 1 k z fun a k=>nn (wp_ret (rt_then ?_)))
   refine fS h k m z z
 refine wp_skip (nm_then ?_)
 exact ⟨k.keep [2,3] z,m.sel [1,0] z (by decide),h⟩
theorem c_impl_Feasible (fu:Nat) {w0:World} (r1:Request) (x5:Plan) {Ai:List Value} {F3:List Nat} (Al:rd w0 F3 Ai r1) {Ae:List Value} {F7:List Nat} (Ap:rd w0 F7 Ae x5) {r:Bool}
    (h:d_impl_Feasible fu r1 x5 = some r) :
    Calls Tryz.prog 38 #[.agg Ai.toArray,.agg Ae.toArray] w0 fun e w=>e = .returned (.bool (r)) ∧ Ext [] w0 w:=by
 refine enter (vs:=[_,_]) func38 z ntmps38 z fun a k=>?_
 have m:=St.start w0
 obtain ⟨v9,Aw,Ac,Ax,Af,Az,rfl,rfl,Ah,Ak,Ab⟩:=Al
 obtain ⟨Ag,Ar,Aj,At,rfl,rfl,Aa,Ad⟩:=Ap
 unfold d_impl_Feasible at h
 refine wr (s_box (cs:=[I r1.fWay,I r1.fPallet.fW,I r1.fPallet.fD,I r1.fPallet.fH,I r1.fPallet.fGram,I r1.fClasses,v9,Ac,I r1.fMaster,Af]) m k z z z z z z fun Bb Ay a k m e Aq=>s_box (cs:=[Ag,Aj]) m k z z z z z z fun Ba Au a k m e Am=>pN 1 k z fun a k=>nn (wr (sv k z (r_ldB ta38 m 1 Aq 0 k z z z z z z) fun a k=>sv k z (r_ldB ta58 m 0 Am 0 k z z z z z z) fun a k=>oE h fun Av Ao h=>?_)))
 refine cE k m call35 z z z (c_impl_Check fu _ _ (show rd _ _ [I r1.fWay,I r1.fPallet.fW,I r1.fPallet.fD,I r1.fPallet.fH,I r1.fPallet.fGram,I r1.fClasses,v9,Ac,I r1.fMaster,Af] (r1:Request) from ⟨_,_,_,_,_,_,z,z,(Enc.rd_agr Ah (m.a00 (Enc.rd_lt Ah))),(Enc.rd_agr Ak (m.a00 (Enc.rd_lt Ak))),(Enc.rd_agr Ab (m.a00 (Enc.rd_lt Ab)))⟩) (show rd _ _ [Ag,Aj] (x5:Plan) from ⟨_,_,_,_,z,z,(Enc.rd_agr Aa (m.a00 (Enc.rd_lt Aa))),(Enc.rd_agr Ad (m.a00 (Enc.rd_lt Ad)))⟩) Ao) fun As e a k m=>pN 2 k z fun a k=>nn (wp_ret (fS h k m z z))

end Go.Proofs.YtkkfmjpbiimkbaaGreat
