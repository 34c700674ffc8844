/- FnExactFeasible: the walks of functions that it reaches (ExactFeasibleBWi,part 3). Printed by gen.py. -/
import Derived.Test.YtkkfmjpbiimkbaaGreatExactFeasibleBWi2
set_option maxRecDepth 20000
set_option linter.unusedSimpArgs false
set_option linter.unusedVariables false
namespace Go.Proofs.YtkkfmjpbiimkbaaGreat
open Go Go.RowKit
open Enc (rd ow)
open Arg (argv)
open Ret (retv)
open Go.Proofs.Tryz

theorem c_impl_placed (fu:Nat) {w0:World} (b1:Box) (Aa:Spot)  {r:Bool}
    (h:d_impl_placed fu b1 Aa = some r) :
    Calls Tryz.prog 156 #[.agg (Flat.e (b1)).toArray,.agg (Flat.e (Aa)).toArray] w0 fun e w=>e = .returned (.bool (r)) ∧ Ext [] w0 w:=by
 refine enter (vs:=[_,_]) func156 z ntmps156 z fun a k=>?_
 have m:=St.start w0
 unfold d_impl_placed at h
 refine wr (s_box (cs:=[I b1.fW,I b1.fD,I b1.fH,I b1.fGram]) m k z z z z z z fun b3 w5 a k m e Ag=>s_box (cs:=[I Aa.fPallet,I Aa.fX,I Aa.fY,I Aa.fZ]) m k z z z z z z fun b6 w9 a k m e Ah=>pN 1 k z fun a k=>nn (wr (sv k z (r_fa fa86_0 k z z) fun a k=>sv k z (r_ldb t13 m 1 Ag 0 k z z z z z) fun a k=>oE h fun Aq Ai h=>cE k m call153 z z z (c_impl_isPlace fu _  Ai) fun Ay e a k m=>pN 1 k z fun a k=>bsplit (Aq) (fun Ae=>?_) (fun Ae=>?_))))
 · have h:=bif_t Ae h
   refine rB k 8 z Ae fun k=>sv k z (r_fa fa86_1 k z z) fun a k=>sv k z (r_ldb t13 m 1 Ag 1 k z z z z z) fun a k=>oE h fun Ak At h=>cE k m call153 z z z (c_impl_isPlace fu _  At) fun Au e a k m=>pN 2 k z fun a k=>bsplit (Ak) (fun Ab=>?_) (fun Ab=>?_)
   · have h:=bif_t Ab h
     refine rB k 13 z Ab fun k=>sv k z (r_fa fa86_2 k z z) fun a k=>sv k z (r_ldb t13 m 1 Ag 2 k z z z z z) fun a k=>oE h fun Ao Al h=>cE k m call153 z z z (c_impl_isPlace fu _  Al) fun Av e a k m=>pN 2 k z fun a k=>bsplit (Ao) (fun Af=>?_) (fun Af=>?_)
     · have h:=bif_t Af h
       refine rB k 18 z Af fun k=>sv k z (r_fa fa89_1 k z z) fun a k=>sv k z (r_ldb t13 m 0 Ah 1 k z z z z z) fun a k=>oE h fun Aj Ap h=>cE k m call153 z z z (c_impl_isPlace fu _  Ap) fun Aw e a k m=>pN 2 k z fun a k=>bsplit (Aj) (fun Ac=>?_) (fun Ac=>?_)
       · have h:=bif_t Ac h
         refine rB k 23 z Ac fun k=>sv k z (r_fa fa89_2 k z z) fun a k=>sv k z (r_ldb t13 m 0 Ah 2 k z z z z z) fun a k=>oE h fun Ar Am h=>cE k m call153 z z z (c_impl_isPlace fu _  Am) fun Ba e a k m=>pN 2 k z fun a k=>bsplit (Ar) (fun Ad=>?_) (fun Ad=>?_)
         · have h:=bif_t Ad h
           refine rB k 28 z Ad fun k=>sv k z (r_fa fa89_3 k z z) fun a k=>sv k z (r_ldb t13 m 0 Ah 3 k z z z z z) fun a k=>oE h fun Az As h=>cE k m call153 z z z (c_impl_isPlace fu _  As) fun Ax e a k m=>pN 2 k z fun a k=>?_
           have k:=k.keep [4] z
           refine nn (wp_ret (fS h k m z z))
         have h:=bif_f Ad h
         refine rB k 28 z Ad fun k=>pN 5 k z fun a k=>?_
         have k:=k.keep [4] z
         refine nn (wp_ret (fS h k m z z))
       have h:=bif_f Ac h
       refine rB k 23 z Ac fun k=>pN 10 k z fun a k=>?_
       have k:=k.keep [4] z
       refine nn (wp_ret (fS h k m z z))
     have h:=bif_f Af h
     refine rB k 18 z Af fun k=>pN 15 k z fun a k=>?_
     have k:=k.keep [4] z
     refine nn (wp_ret (fS h k m z z))
   have h:=bif_f Ab h
   refine rB k 13 z Ab fun k=>pN 20 k z fun a k=>?_
   have k:=k.keep [4] z
   refine nn (wp_ret (fS h k m z z))
 have h:=bif_f Ae h
 refine rB k 8 z Ae fun k=>pN 25 k z fun a k=>?_
 have k:=k.keep [4] z
 refine nn (wp_ret (fS h k m z z))
theorem c_impl_cross (fu:Nat) {w0:World} (a1:Int) (Ac:Int) (b3:Int) (Ab:Int)  {r:Bool}
    (h:d_impl_cross fu a1 Ac b3 Ab = some r) :
    Calls Tryz.prog 157 #[I a1,I Ac,I b3,I Ab] w0 fun e w=>e = .returned (.bool (r)) ∧ Ext [] w0 w:=by
 refine enter (vs:=[_,_,_,_]) func157 z ntmps157 z fun a k=>?_
 have m:=St.start w0
 unfold d_impl_cross at h
 refine wr (pN 1 k z fun a k=>nn (wr (pN 6 k z fun a k=>bsplit (decide (a1 < (w64 (b3 + Ab)))) (fun Aa=>?_) (fun Aa=>?_))))
 · have h:=bif_t Aa h
   refine rB k 14 z Aa fun k=>pN 7 k z fun a k=>nn (wp_ret (fS h k m z z))
 have h:=bif_f Aa h
 refine rB k 14 z Aa fun k=>pN 7 k z fun a k=>nn (wp_ret (fS h k m z z))
theorem c_impl_Overlap (fu:Nat) {w0:World} (a1:Box) (Aa:Spot) (b3:Box) (t4:Spot)  {r:Bool}
    (h:d_impl_Overlap fu a1 Aa b3 t4 = some r) :
    Calls Tryz.prog 57 #[.agg (Flat.e (a1)).toArray,.agg (Flat.e (Aa)).toArray,.agg (Flat.e (b3)).toArray,.agg (Flat.e (t4)).toArray] w0 fun e w=>e = .returned (.bool (r)) ∧ Ext [] w0 w:=by
 refine enter (vs:=[_,_,_,_]) func57 z ntmps57 z fun a k=>?_
 have m:=St.start w0
 unfold d_impl_Overlap at h
 refine wr (s_box (cs:=[I a1.fW,I a1.fD,I a1.fH,I a1.fGram]) m k z z z z z z fun b5 w7 a k m e Ah=>s_box (cs:=[I Aa.fPallet,I Aa.fX,I Aa.fY,I Aa.fZ]) m k z z z z z z fun b8 Aw a k m e Ag=>s_box (cs:=[I b3.fW,I b3.fD,I b3.fH,I b3.fGram]) m k z z z z z z fun Aj Au a k m e Ai=>s_box (cs:=[I t4.fPallet,I t4.fX,I t4.fY,I t4.fZ]) m k z z z z z z fun Ak Ao a k m e Ad=>pN 1 k z fun a k=>nn ?_)
 refine c_cut (fun a w=>K 57 [(4,.pointer (some (⟨b5,0,none⟩:Addr))),(5,.pointer (some (⟨b8,0,none⟩:Addr))),(6,.pointer (some (⟨Aj,0,none⟩:Addr))),(7,.pointer (some (⟨Ak,0,none⟩:Addr)))] a ∧ St [] w0 w [([b5],w7),([b8],Aw),([Aj],Au),([Ak],Ao)] ∧ d_impl_Overlap_J1 fu a1 Aa b3 t4 = some r) ?_ ?_
 · rintro a Bb ⟨k,m,h⟩
   unfold d_impl_Overlap_J1 at h
   refine wr (sv k z (r_fa fa89_1 k z z) fun a k=>sv k z (r_ldb t13 m 1 Ag 1 k z z z z z) fun a k=>sv k z (r_fa fa86_0 k z z) fun a k=>sv k z (r_ldb t13 m 0 Ah 0 k z z z z z) fun a k=>sv k z (r_fa fa89_1 k z z) fun a k=>sv k z (r_ldb t13 m 3 Ad 1 k z z z z z) fun a k=>sv k z (r_fa fa86_0 k z z) fun a k=>sv k z (r_ldb t13 m 2 Ai 0 k z z z z z) fun a k=>oE h fun Ay As h=>cE k m call157 z z z (c_impl_cross fu _ _ _ _  As) fun Bf e a k m=>pN 1 k z fun a k=>bsplit (Ay) (fun Ac=>?_) (fun Ac=>?_))
   · have h:=bif_t Ac h
     refine rB k 35 z Ac fun k=>sv k z (r_fa fa89_2 k z z) fun a k=>sv k z (r_ldb t13 m 1 Ag 2 k z z z z z) fun a k=>sv k z (r_fa fa86_1 k z z) fun a k=>sv k z (r_ldb t13 m 0 Ah 1 k z z z z z) fun a k=>sv k z (r_fa fa89_2 k z z) fun a k=>sv k z (r_ldb t13 m 3 Ad 2 k z z z z z) fun a k=>sv k z (r_fa fa86_1 k z z) fun a k=>sv k z (r_ldb t13 m 2 Ai 1 k z z z z z) fun a k=>oE h fun Av Am h=>cE k m call157 z z z (c_impl_cross fu _ _ _ _  Am) fun Ba e a k m=>pN 2 k z fun a k=>bsplit (Av) (fun Ae=>?_) (fun Ae=>?_)
     · have h:=bif_t Ae h
       refine rB k 46 z Ae fun k=>sv k z (r_fa fa89_3 k z z) fun a k=>sv k z (r_ldb t13 m 1 Ag 3 k z z z z z) fun a k=>sv k z (r_fa fa86_2 k z z) fun a k=>sv k z (r_ldb t13 m 0 Ah 2 k z z z z z) fun a k=>sv k z (r_fa fa89_3 k z z) fun a k=>sv k z (r_ldb t13 m 3 Ad 3 k z z z z z) fun a k=>sv k z (r_fa fa86_2 k z z) fun a k=>sv k z (r_ldb t13 m 2 Ai 2 k z z z z z) fun a k=>oE h fun Bd Ar h=>cE k m call157 z z z (c_impl_cross fu _ _ _ _  Ar) fun Be e a k m=>pN 2 k z fun a k=>?_
       have k:=k.keep [8] z
       refine nn (wp_ret (fS h k m z z))
     have h:=bif_f Ae h
     refine rB k 46 z Ae fun k=>pN 11 k z fun a k=>?_
     have k:=k.keep [8] z
     refine nn (wp_ret (fS h k m z z))
   have h:=bif_f Ac h
   refine rB k 35 z Ac fun k=>pN 22 k z fun a k=>?_
   have k:=k.keep [8] z
   refine nn (wp_ret (fS h k m z z))
 refine wr (sv k z (r_ldB ta86 m 3 Ah 0 k z z z z z z) fun a k=>sv k z (r_ldB ta89 m 2 Ag 0 k z z z z z z) fun a k=>oE h fun Al At h=>cE k m call156 z z z (c_impl_placed fu (a1:Box) (Aa:Spot)  At) fun Bc e a k m=>pN 2 k z fun a k=>bsplit (!Al) (fun Af=>?_) (fun Af=>?_))
 · have h:=bif_t Af h
   refine rB k 13 z Af fun k=>pN 12 k z fun a k=>nn (wp_cond_true (k.ev z) (wr (pN 1 k z fun a k=>nn (wp_ret (rt_then ?_)))))
   refine fS h k m z z
 have h:=bif_f Af h
 refine rB k 13 z Af fun k=>sv k z (r_ldB ta86 m 1 Ai 0 k z z z z z z) fun a k=>sv k z (r_ldB ta89 m 0 Ad 0 k z z z z z z) fun a k=>oE h fun Aq Ap h=>cE k m call156 z z z (c_impl_placed fu (b3:Box) (t4:Spot)  Ap) fun Az e a k m=>pN 3 k z fun a k=>bsplit (!Aq) (fun Ab=>?_) (fun Ab=>?_)
 · have h:=bif_t Ab h
   refine rB k 19 z Ab fun k=>pN 6 k z fun a k=>nn (wp_cond_true (k.ev z) (wr (pN 1 k z fun a k=>nn (wp_ret (rt_then ?_)))))
   refine fS h k m z z
 have h:=bif_f Ab h
 refine rB k 19 z Ab fun k=>sv k z (r_fa fa89_0 k z z) fun a k=>sv k z (r_ldb t13 m 2 Ag 0 k z z z z z) fun a k=>sv k z (r_fa fa89_0 k z z) fun a k=>sv k z (r_ldb t13 m 0 Ad 0 k z z z z z) fun a k=>pN 2 k z fun a k=>nn (cI h k z (fun Ax h=>?_) fun Ax h=>?_)
 · refine wr (pN 1 k z fun a k=>nn (wp_ret (rt_then ?_)))
   refine fS h k m z z
 refine wp_skip (nm_then ?_)
 exact ⟨k.keep [4,5,6,7] z,m.sel [3,2,1,0] z (by decide),h⟩
theorem c_impl_Pallets (fu:Nat) {w0:World} (Ac:List Spot) {v2:Value} {F3:List Nat} (Af:rd w0 F3 [v2] Ac) {r:Int}
    (h:d_impl_Pallets fu Ac = some r) :
    Calls Tryz.prog 58 #[v2] w0 fun e w=>e = .returned (I r) ∧ Ext [] w0 w:=by
 refine enter (vs:=[_]) func58 z ntmps58 z fun a k=>?_
 have m:=St.start w0
 unfold d_impl_Pallets at h
 refine wr (pN 1 k z fun a k=>nn (wr (pN 1 k z fun a k=>nn (wp_seq (wr (pN 1 k z fun a k=>sv k z (r_len (α:=Spot) Af k underlying56 z z) fun a k=>pN 1 k z fun a k=>nn (wp_block (c_loop (fun n a w=>∃ (Aa:Int) (Ab:Int),K 22 [(3,I Aa),(6,v2),(7,I ((Ac.length:Int))),(8,I Ab)] a ∧ St [] w0 w [] ∧ d_impl_Pallets_L1 fu Ac n Aa Ab = some r) ?_ ?_ fu _ _ ?_))))))))
 · rintro a w ⟨_,_,_,_,h⟩
   exact nS h
 · rintro Aj a Ap ⟨Aa,Ab,k,m,h⟩
   rw [d_impl_Pallets_L1_s] at h
   unfold d_impl_Pallets_L1_B at h
   refine wr (pN 1 k z fun a k=>nn (wp_seq (cI h k z (fun Al h=>?_) fun Al h=>?_)))
   · refine wp_skip (nm_then ?_)
     refine c_cut (fun a w=>∃ (Ae:Int),K 22 [(3,I Ae),(6,v2),(7,I ((Ac.length:Int))),(8,I Ab)] a ∧ St [] w0 w [] ∧ d_impl_Pallets_J1 fu (d_impl_Pallets_L1 fu Ac Aj) Ab Ae = some r) ?_ ?_
     · rintro a As ⟨Ae,k,m,h⟩
       unfold d_impl_Pallets_J1 at h
       refine wp_region_lit (pN 2 k z fun a k=>nn ?_)
       exact ⟨Ae,w64 (Ab + 1),k.keep [3,6,7,8] z,m.sel [] z (by decide),h⟩
     refine wp_block (wr (oE h fun Ad Ag h=>sv k z (r_ixa Af Ag k ts56 z z z) fun a k=>sv k z (r_lde Af (m.a00 (Enc.rd_lt Af)) Ag ta89 k z z) fun a k=>s_alloc (cs:=[I 0,I 0,I 0,I 0]) m k zeroValue89 z z z z z fun Au Ar a k m e Ai=>s_stb (cs':=[I Ad.fPallet,I Ad.fX,I Ad.fY,I Ad.fZ]) sizeOf89 m 0 Ai 0 k z z z z z z z z z z z fun Aq a k e m Ah=>nn (wr (sv k z (r_fa fa89_0 k z z) fun a k=>sv k z (r_ldb t13 m 0 Ah 0 k z z z z z) fun a k=>oE h fun Ao Ak h=>cE k m call139 z z z (c_impl_in fu _ _ _  Ak) fun At e a k m=>nn (cI h k z (fun Am h=>?_) fun Am h=>?_)))))
     · refine wp_region_lit (pN 1 k z fun a k=>sv k z (r_fa fa89_0 k z z) fun a k=>sv k z (r_ldb t13 m 0 Ah 0 k z z z z z) fun a k=>pN 3 k z fun a k=>wpList_nil (nm_block (nm_then ?_)))
       exact ⟨if (w64 (Ad.fPallet + 1)) > Aa then w64 (Ad.fPallet + 1) else Aa,k.keep [3,6,7,8] z,m.sel [] z (by decide),h⟩
     refine wp_skip (nm_block (nm_then ?_))
     exact ⟨Aa,k.keep [3,6,7,8] z,m.sel [] z (by decide),h⟩
   refine wp_exit (ex_then (ex_then (ex_same (nm_then ?_))))
   refine wr (pN 2 k z fun a k=>nn (wp_ret (fS h k m z z)))
 exact ⟨0,0,k.keep [3,6,7,8] z,m.sel [] z (by decide),h⟩
theorem c_impl_OnPallet (fu:Nat) {w0:World} (x1:Plan) (Ab:Int) {Aq:List Value} {F3:List Nat} (Bf:rd w0 F3 Aq x1) {r:(List Int)}
    (h:d_impl_OnPallet fu x1 Ab = some r) :
    Calls Tryz.prog 60 #[.agg Aq.toArray,I Ab] w0 fun e w=>∃ (v0:Value) (G0:List Nat),e = .returned (v0) ∧ Ext [] w0 w ∧ ow w G0 [v0] r ∧ (∀ b ∈ G0,w0.heap.size ≤ b):=by
 refine enter (vs:=[_,_]) func60 z ntmps60 z fun a k=>?_
 have m:=St.start w0
 obtain ⟨v6,F7,v8,F9,rfl,rfl,Bb,Ac⟩:=Bf
 unfold d_impl_OnPallet at h
 refine wr (s_box (cs:=[v6,v8]) m k z z z z z z fun Bv Bm a k m e Ao=>pN 1 k z fun a k=>nn (wp_seq (wr (sv k z (r_fa fa58_1 k z z) fun a k=>sv k z (r_ldb t156 m 0 Ao 1 k z z z z z) fun a k=>sv k z (r_len (α:=Spot) Ac k underlying56 z z) fun a k=>sv k z (r_fa fa58_0 k z z) fun a k=>sv k z (r_ldb t155 m 0 Ao 0 k z z z z z) fun a k=>sv k z (r_len (α:=Carton) Bb k underlying55 z z) fun a k=>pN 1 k z fun a k=>nn (cI h k z (fun Bh h=>?_) fun Bh h=>?_)))))
 · refine wr (pN 1 k z fun a k=>nn (wp_ret (rt_then ?_)))
   cases h
   exact finR1 k z (RV.tmp k z) ⟨_,[],z,m.ext,(ow_nil _),(by simp)⟩
 refine wp_skip (nm_then ?_)
 refine wr (s_bs (cs:=[]) (ps:=[]) te63 m k z z z z z z z (by decide) z (by exact (List.forall_mem_nil _)) fun Ap Bi Bn a k m e Az=>?_)
 have Bc:=ow_bx Az ([]:List Int) z z z
 refine pN 1 k z fun a k=>nn (wp_seq (wr (sv k z (r_fa fa58_1 k z z) fun a k=>sv k z (r_ldb t156 m 1 Ao 1 k z z z z z) fun a k=>sv k z (r_len (α:=Spot) Ac k underlying56 z z) fun a k=>pN 1 k z fun a k=>nn (wp_block (c_loop (fun n a w=>∃ (Ae:List Int) (Aj:Value) (Ad:List Nat) (Ak:World) (Aa:Int),K 34 [(1,I Ab),(5,Aj),(17,v8),(18,I ((x1.fSpots.length:Int))),(19,I Aa)] a ∧ St [] w0 w [(Ad,Ak)] ∧ ow Ak Ad [Aj] Ae ∧ d_impl_OnPallet_L1 fu x1 Ab n Ae Aa = some r) ?_ ?_ fu _ _ ?_)))))
 · rintro a w ⟨_,_,_,_,_,_,_,_,h⟩
   exact nS h
 · rintro Ba a Bt ⟨Ae,Aj,Ad,Ak,Aa,k,m,Am,h⟩
   rw [d_impl_OnPallet_L1_s] at h
   unfold d_impl_OnPallet_L1_B at h
   refine wr (pN 1 k z fun a k=>nn (wp_seq (cI h k z (fun Bj h=>?_) fun Bj h=>?_)))
   · refine wp_skip (nm_then ?_)
     refine c_cut (fun a w=>∃ (Ag:List Int) (Ah:Value) (Af:List Nat) (Al:World),K 34 [(1,I Ab),(5,Ah),(17,v8),(18,I ((x1.fSpots.length:Int))),(19,I Aa)] a ∧ St [] w0 w [(Af,Al)] ∧ ow Al Af [Ah] Ag ∧ d_impl_OnPallet_J1 fu (d_impl_OnPallet_L1 fu x1 Ab Ba) Aa Ag = some r) ?_ ?_
     · rintro a Bw ⟨Ag,Ah,Af,Al,k,m,At,h⟩
       unfold d_impl_OnPallet_J1 at h
       refine wp_region_lit (pN 2 k z fun a k=>nn ?_)
       exact ⟨Ag,Ah,Af,Al,w64 (Aa + 1),k.keep [1,5,17,18,19] z,m.sel [0] z (by decide),At,h⟩
     refine wp_block (wr (pN 1 k z fun a k=>oE h fun Ai Ar h=>sv k z (r_ixa Ac Ar k ts56 z z z) fun a k=>sv k z (r_lde Ac (m.a00 (Enc.rd_lt Ac)) Ar ta89 k z z) fun a k=>s_alloc (cs:=[I 0,I 0,I 0,I 0]) m k zeroValue89 z z z z z fun Bp Bs a k m e Bk=>pN 1 k z fun a k=>s_stb (cs':=[I Ai.fPallet,I Ai.fX,I Ai.fY,I Ai.fZ]) sizeOf89 m 0 Bk 0 k z z z z z z z z z z z fun Br a k e m Aw=>nn (wr (sv k z (r_fa fa89_0 k z z) fun a k=>sv k z (r_ldb t13 m 0 Aw 0 k z z z z z) fun a k=>pN 2 k z fun a k=>nn (cI h k z (fun Ax h=>?_) fun Ax h=>?_)))))
     · refine wp_region_lit (pN 2 k z fun a k=>s_bs (cs:=[I Aa]) (ps:=[(0,.tmp 29)]) te63 m k z z z z z z z (by decide) z (by exact (List.forall_mem_cons.2 ⟨z,(List.forall_mem_nil _)⟩)) fun Bq Bo Bu a k m e Bd=>?_)
       have Au:=ow_bx Bd ([Aa]:List Int) z z z
       refine oE h fun Bl Ay h=>s_appF Ay te63 z m 2 Am (News.rd (Enc.rd_agr (Enc.ow_rd Au) (m.a 0 z))) z z k z z z z z z z fun Be Bg Av a k e m As=>pN 1 k z fun a k=>wpList_nil (nm_block (nm_then ?_))
       exact ⟨Bl,Be,Bg,Av,k.keep [1,5,17,18,19] z,m.sel [2] z (by decide),As,h⟩
     refine wp_skip (nm_block (nm_then ?_))
     exact ⟨Ae,Aj,Ad,Ak,k.keep [1,5,17,18,19] z,m.sel [1] z (by decide),Am,h⟩
   refine wp_exit (ex_then (ex_then (ex_same (nm_then ?_))))
   refine wr (pN 2 k z fun a k=>nn (wp_ret ?_))
   cases h
   exact finR1 k z (RV.tmp k z) ⟨_,Ad,z,m.ext,(Enc.ow_agr Am (m.a 0 z)),(m.fresh 0 z)⟩
 exact ⟨([]:List Int),(.slice (some ⟨Ap,0,none⟩) 0 0),[Ap],Bi,0,k.keep [1,5,17,18,19] z,m.sel [0] z (by decide),Bc,h⟩
theorem c_impl_PalletGram (fu:Nat) {w0:World} (r1:Request) (x5:Plan) (At:Int) {Aq:List Value} {F3:List Nat} (Bn:rd w0 F3 Aq r1) {Au:List Value} {F7:List Nat} (Bi:rd w0 F7 Au x5) {r:Int}
    (h:d_impl_PalletGram fu r1 x5 At = some r) :
    Calls Tryz.prog 59 #[.agg Aq.toArray,.agg Au.toArray,I At] w0 fun e w=>e = .returned (I r) ∧ Ext [] w0 w:=by
 refine enter (vs:=[_,_,_]) func59 z ntmps59 z fun a k=>?_
 have m:=St.start w0
 obtain ⟨Am,Bt,Ak,Cc,Av,By,rfl,rfl,Ao,Af,Ax⟩:=Bn
 obtain ⟨Ag,Br,Ar,Ca,rfl,rfl,Ab,Aw⟩:=Bi
 unfold d_impl_PalletGram at h
 refine wr (s_box (cs:=[I r1.fWay,I r1.fPallet.fW,I r1.fPallet.fD,I r1.fPallet.fH,I r1.fPallet.fGram,I r1.fClasses,Am,Ak,I r1.fMaster,Av]) m k z z z z z z fun Az Bd a k m e Bo=>s_box (cs:=[Ag,Ar]) m k z z z z z z fun Ai Bp a k m e Ap=>pN 1 k z fun a k=>nn (wr (pN 1 k z fun a k=>nn (wp_seq (wr (sv k z (r_ldB ta58 m 0 Ap 0 k z z z z z z) fun a k=>pN 1 k z fun a k=>oE h fun As Bb h=>s_call k call60 z z z z z (c_impl_OnPallet fu _ _ (show rd _ _ [Ag,Ar] (x5:Plan) from ⟨_,_,_,_,z,z,(Enc.rd_agr Ab (m.a00 (Enc.rd_lt Ab))),(Enc.rd_agr Aw (m.a00 (Enc.rd_lt Aw)))⟩) Bb) fun Cb Bh hR=>?_))))))
 obtain ⟨Ba,Aj,rfl,e,Aa,Bj⟩:=hR
 refine ⟨_,z,fun a k=>?_⟩
 have m:=m.new e Aj (fun b hb=>⟨Bj b hb,Enc.rd_lt (Enc.ow_rd Aa) b hb⟩) (Enc.ow_nd Aa)
 refine sv k z (r_len (α:=Int) (Enc.ow_rd Aa) k underlying63 z z) fun a k=>pN 1 k z fun a k=>nn (wp_block (c_loop (fun n a w=>∃ (Ac:Int) (Ad:Int),K 29 [(3,.pointer (some (⟨Az,0,none⟩:Addr))),(4,.pointer (some (⟨Ai,0,none⟩:Addr))),(7,I Ac),(12,Ba),(13,I ((As.length:Int))),(14,I Ad)] a ∧ St [] w0 w [([Az],Bd),([Ai],Bp),(Aj,Bh)] ∧ d_impl_PalletGram_L1 fu r1 x5 As n Ac Ad = some r) ?_ ?_ fu _ _ ?_))
 · rintro a w ⟨_,_,_,_,h⟩
   exact nS h
 · rintro Bs a Bz ⟨Ac,Ad,k,m,h⟩
   rw [d_impl_PalletGram_L1_s] at h
   unfold d_impl_PalletGram_L1_B at h
   refine wr (pN 1 k z fun a k=>nn (wp_seq (cI h k z (fun Bk h=>?_) fun Bk h=>?_)))
   · refine wp_skip (nm_then ?_)
     refine wp_seq (wp_block (wr (oE h fun Bw Ah h=>sv k z (r_ixa (Enc.ow_rd Aa) Ah k ts63 z z z) fun a k=>sv k z (r_lde1 (Enc.ow_rd Aa) (m.a 2 z) Ah 0 t13 k z z z z) fun a k=>pN 1 k z fun a k=>nn (d_go [] mixo m z fun Bl hMd=>?_))))
     have m:=hMd
     have s:=Ext.refl ([]:List Nat) Bl
     refine dN [0,4] 2 z k (by kernel_rfl) z s (fun _ _ _ _ _=>id) fun a k=>dt k 1 z (by kernel_rfl) z s (fun _ _ _=>id) (fun w s=>r_ldA ta38 (Bo.at ((hMd.step s).a 0 z) 0 10 z z z) z k z z) fun a k=>dt k 2 z (by kernel_rfl) z s (fun _ _ _=>id) (fun w s=>r_fa fa58_0 k z z) fun a k=>dt k 3 z (by kernel_rfl) z s (fun _ _ _=>id) (fun w s=>r_ld1 t155 (r:=[]) (Ap.at ((hMd.step s).a 1 z) 0 1 z z z) k z z) fun a k=>oE h fun Ae Ay h=>dt k 5 z (by kernel_rfl) z s (fun _ _ _=>id) (fun w s=>r_ixa Ab Ay k ts55 z z z) fun a k=>?_
     obtain ⟨Bu,Bx,Cd,Bq,Bf,Bg⟩:=rd_get Ab (ix_some Ay).2.2
     obtain ⟨Bc,_,rfl,rfl,Al⟩:=Bq
     refine dt k 6 z (by kernel_rfl) z s (fun _ _ _=>id) (fun w s=>r_ldA ta83 (Bf.agr ((hMd.step s).a00 (Enc.rd_lt Ab)) Bg) z k z z) fun a k=>d_one 7 (by kernel_rfl) z (oE h fun Be Bm h=>cE k m call155 z z z (c_impl_Gross fu _ _ (show rd _ _ [I r1.fWay,I r1.fPallet.fW,I r1.fPallet.fD,I r1.fPallet.fH,I r1.fPallet.fGram,I r1.fClasses,Am,Ak,I r1.fMaster,Av] (r1:Request) from ⟨_,_,_,_,_,_,z,z,(Enc.rd_agr Ao (m.a00 (Enc.rd_lt Ao))),(Enc.rd_agr Af (m.a00 (Enc.rd_lt Af))),(Enc.rd_agr Ax (m.a00 (Enc.rd_lt Ax)))⟩) (show rd _ _ [I Ae.fType,I Ae.fGroup,Bc] (Ae:Carton) from ⟨_,_,z,z,(Enc.rd_agr Al (m.a00 (Enc.rd_lt Al)))⟩) Bm) fun Bv e a k m=>?_)
     have s:=s.trans e (by simp)
     refine wpList_nil ⟨s,?_⟩
     refine dN [8,9] 2 z k (by kernel_rfl) z s (fun _ _ _ _ _=>id) fun a k=>d_done (by kernel_rfl) ((nm_block (nm_then ?_)))
     refine wp_region_lit (pN 2 k z fun a k=>nn ?_)
     exact ⟨w64 (Ac + Be),w64 (Ad + 1),k.keep [3,4,7,12,13,14] z,m.sel [0,1,2] z (by decide),h⟩
   refine wp_exit (ex_then (ex_then (ex_same (nm_then ?_))))
   refine wr (pN 2 k z fun a k=>nn (wp_ret (fS h k m z z)))
 exact ⟨0,0,k.keep [3,4,7,12,13,14] z,m.sel [2,1,0] z (by decide),h⟩
theorem c_impl_spotFault_1 (fu:Nat) {w0:World} (i1:Int) (x2:Plan) (Ag:List Int) {v5:Value} {F6:List Nat} {v8:Value} {F9:List Nat} {b3:Nat} (Ab:bx w0 b3 [v5,v8] 58) (Aa:rd w0 F6 [v5] x2.fCartons) (Au:rd w0 F9 [v8] x2.fSpots) {Ah:Value} {Ao:List Nat} {Ai:Nat} (Ae:bx w0 Ai [Ah] 63) (Ac:rd w0 Ao [Ah] Ag) {r:Bool}
    (h:d_impl_spotFault_1 fu i1 x2 Ag = some r) :
    Calls Tryz.prog 227 #[I i1,.pointer (some (⟨b3,0,none⟩:Addr)),.pointer (some (⟨Ai,0,none⟩:Addr))] w0 fun e w=>e = .returned (.bool (r)) ∧ Ext [] w0 w:=by
 refine enter (vs:=[_,_,_]) func227 z ntmps227 z fun a k=>?_
 have m:=St.start w0
 unfold d_impl_spotFault_1 at h
 refine wr (pN 1 k z fun a k=>nn (wp_seq (d_go [] mixo m z fun Ar hMd=>?_)))
 have m:=hMd
 have s:=Ext.refl ([]:List Nat) Ar
 refine dN [2] 1 z k (by kernel_rfl) z s (fun _ _ _ _ _=>id) fun a k=>dt k 0 z (by kernel_rfl) z s (fun _ _ _=>id) (fun w s=>r_fa fa58_0 k z z) fun a k=>dt k 1 z (by kernel_rfl) z s (fun _ _ _=>id) (fun w s=>r_ld1 t155 (r:=[]) (Ab.at ((hMd.step s).a00 Ab.lt1) 0 1 z z z) k z z) fun a k=>oE h fun Ax Aj h=>dt k 3 z (by kernel_rfl) z s (fun _ _ _=>id) (fun w s=>r_ixa Aa Aj k ts55 z z z) fun a k=>dt k 4 z (by kernel_rfl) z s (fun _ _ _=>id) (fun w s=>r_fa fa83_1 k z z) fun a k=>?_
 obtain ⟨Av,Be,Ay,Aq,Ap,Al⟩:=rd_get Aa (ix_some Aj).2.2
 obtain ⟨Az,_,rfl,rfl,Ba⟩:=Aq
 refine dt k 5 z (by kernel_rfl) z s (fun _ _ _=>id) (fun w s=>r_ld1 t13 ((Ap.agr ((hMd.step s).a00 (Enc.rd_lt Aa)) Al).fld 1 1 (Nat.le_of_ble_eq_true z)) k z z) fun a k=>dt k 6 z (by kernel_rfl) z s (fun _ _ _=>id) (fun w s=>r_fa fa58_0 k z z) fun a k=>dt k 7 z (by kernel_rfl) z s (fun _ _ _=>id) (fun w s=>r_ld1 t155 (r:=[]) (Ab.at ((hMd.step s).a00 Ab.lt1) 0 1 z z z) k z z) fun a k=>dt k 8 z (by kernel_rfl) z s (fun _ _ _=>id) (fun w s=>r_ld1 t163 (r:=[]) (Ae.at ((hMd.step s).a00 Ae.lt1) 0 1 z z z) k z z) fun a k=>oE h fun Bg Ad h=>dt k 9 z (by kernel_rfl) z s (fun _ _ _=>id) (fun w s=>r_ixa Ac Ad k ts63 z z z) fun a k=>?_
 refine dt k 10 z (by kernel_rfl) z s (fun _ _ _=>id) (fun w s=>r_lde1 Ac ((hMd.step s).a00 (Enc.rd_lt Ac)) Ad 0 t13 k z z z z) fun a k=>oE h fun Bc Af h=>dt k 11 z (by kernel_rfl) z s (fun _ _ _=>id) (fun w s=>r_ixa Aa Af k ts55 z z z) fun a k=>dt k 12 z (by kernel_rfl) z s (fun _ _ _=>id) (fun w s=>r_fa fa83_1 k z z) fun a k=>?_
 obtain ⟨Bb,At,Aw,As,Ak,Am⟩:=rd_get Aa (ix_some Af).2.2
 obtain ⟨Bf,_,rfl,rfl,Bd⟩:=As
 refine dt k 13 z (by kernel_rfl) z s (fun _ _ _=>id) (fun w s=>r_ld1 t13 ((Ak.agr ((hMd.step s).a00 (Enc.rd_lt Aa)) Am).fld 1 1 (Nat.le_of_ble_eq_true z)) k z z) fun a k=>dN [14,15] 2 z k (by kernel_rfl) z s (fun _ _ _ _ _=>id) fun a k=>d_done (by kernel_rfl) ((nm_then ?_))
 refine wp_ret (fS h k m z z)
theorem c_impl_spotFault (fu:Nat) {w0:World} (r1:Request) (x5:Plan) {Bh:List Value} {F3:List Nat} (Cl:rd w0 F3 Bh r1) {Bl:List Value} {F7:List Nat} (Cd:rd w0 F7 Bl x5) {r:Int}
    (h:d_impl_spotFault fu r1 x5 = some r) :
    Calls Tryz.prog 125 #[.agg Bh.toArray,.agg Bl.toArray] w0 fun e w=>e = .returned (I r) ∧ Ext [] w0 w:=by
 refine enter (vs:=[_,_]) func125 z ntmps125 z fun a k=>?_
 have m:=St.start w0
 obtain ⟨v9,Eo,Bb,Ew,Bd,Dz,rfl,rfl,Ay,Aw,Au⟩:=Cl
 obtain ⟨Ax,Eg,Bg,Et,rfl,rfl,Ae,Aa⟩:=Cd
 unfold d_impl_spotFault at h
 refine wr (s_box (cs:=[I r1.fWay,I r1.fPallet.fW,I r1.fPallet.fD,I r1.fPallet.fH,I r1.fPallet.fGram,I r1.fClasses,v9,Bb,I r1.fMaster,Bd]) m k z z z z z z fun Ac Ao a k m e Av=>s_box (cs:=[Ax,Bg]) m k z z z z z z fun Ab Al a k m e Ag=>pN 1 k z fun a k=>nn (wr (s_bs (cs:=[]) (ps:=[]) te149 m k z z z z z z z (by decide) z (by exact (List.forall_mem_nil _)) fun Bi Dj Ei a k m e Da=>?_)))
 have Cr:=ow_bx Da ([]:List Box) z z z
 refine pN 1 k z fun a k=>nn (wp_seq (wr (sv k z (r_fa fa58_0 k z z) fun a k=>sv k z (r_ldb t155 m 1 Ag 0 k z z z z z) fun a k=>sv k z (r_len (α:=Carton) Ae k underlying55 z z) fun a k=>pN 1 k z fun a k=>nn (wp_block (c_loop (fun n a w=>∃ (Ah:List Box) (As:Value) (Aq:List Nat) (At:World) (Ba:Int),K 96 [(2,.pointer (some (⟨Ac,0,none⟩:Addr))),(3,.pointer (some (⟨Ab,0,none⟩:Addr))),(5,As),(15,Ax),(16,I ((x5.fCartons.length:Int))),(17,I Ba)] a ∧ St [] w0 w [([Ac],Ao),([Ab],Al),(Aq,At)] ∧ ow At Aq [As] Ah ∧ d_impl_spotFault_L4 fu r1 x5 n Ah Ba = some r) ?_ ?_ fu _ _ ?_)))))
 · rintro a w ⟨_,_,_,_,_,_,_,_,h⟩
   exact nS h
 · rintro Ea a El ⟨Ah,As,Aq,At,Ba,k,m,Ak,h⟩
   rw [d_impl_spotFault_L4_s] at h
   unfold d_impl_spotFault_L4_B at h
   refine wr (pN 1 k z fun a k=>nn (wp_seq (cI h k z (fun Dp h=>?_) fun Dp h=>?_)))
   · refine wp_skip (nm_then ?_)
     refine wp_seq (wp_block (wr (pN 1 k z fun a k=>oE h fun Ap Bu h=>sv k z (r_ixa Ae Bu k ts55 z z z) fun a k=>?_)))
     obtain ⟨Dx,Ez,En,Dm,Bz,De⟩:=rd_get Ae (ix_some Bu).2.2
     obtain ⟨Br,_,rfl,rfl,Be⟩:=Dm
     refine sv k z (r_ldA ta83 (Bz.agr (m.a00 (Enc.rd_lt Ae)) De) z k z z) fun a k=>s_alloc (cs:=[I 0,I 0,.slice none 0 0]) m k zeroValue83 z z z z z fun Ec Dw a k m e Cz=>pN 1 k z fun a k=>s_stb (cs':=[I Ap.fType,I Ap.fGroup,Br]) sizeOf83 m 0 Cz 0 k z z z z z z z z z z (allc z (allc z (allc (rd_o Be) alln))) fun Dv a k e m Cu=>nn (wr (sv k z (r_ldB ta38 m 1 Av 0 k z z z z z z) fun a k=>sv k z (r_ldB ta83 m 0 Cu 0 k z z z z z z) fun a k=>oE h fun Ad Co h=>?_))
     refine cE k m call56 z z z (c_impl_BoxOf fu _ _ (show rd _ _ [I r1.fWay,I r1.fPallet.fW,I r1.fPallet.fD,I r1.fPallet.fH,I r1.fPallet.fGram,I r1.fClasses,v9,Bb,I r1.fMaster,Bd] (r1:Request) from ⟨_,_,_,_,_,_,z,z,(Enc.rd_agr Ay (m.a00 (Enc.rd_lt Ay))),(Enc.rd_agr Aw (m.a00 (Enc.rd_lt Aw))),(Enc.rd_agr Au (m.a00 (Enc.rd_lt Au)))⟩) (show rd _ _ [I Ap.fType,I Ap.fGroup,Br] (Ap:Carton) from ⟨_,_,z,z,(Enc.rd_agr Be (m.a00 (Enc.rd_lt Be)))⟩) Co) fun Fc e a k m=>s_alloc (cs:=[I 0,I 0,I 0,I 0]) m k zeroValue86 z z z z z fun Em Eh a k m e Dh=>?_
     refine s_stb (cs':=[I Ad.fW,I Ad.fD,I Ad.fH,I Ad.fGram]) sizeOf86 m 0 Dh 0 k z z z z z z z z z z z fun Dt a k e m Bo=>nn (wp_seq (wp_seq (d_go [] mixo m z fun Dc hMd=>?_)))
     have m:=hMd
     have s:=Ext.refl ([]:List Nat) Dc
     refine dN [5] 1 z k (by kernel_rfl) z s (fun _ _ _ _ _=>id) fun a k=>dt k 0 z (by kernel_rfl) z s (fun _ _ _=>id) (fun w s=>r_fa fa38_1 k z z) fun a k=>dt k 1 z (by kernel_rfl) z s (fun _ _ _=>id) (fun w s=>r_ldA ta33 (Av.at ((hMd.step s).a 2 z) 1 4 z z z) z k z z) fun a k=>dt k 2 z (by kernel_rfl) z s (fun _ _ _=>id) (fun w s=>r_ldA ta86 (Bo.at ((hMd.step s).a 0 z) 0 4 z z z) z k z z) fun a k=>dt k 3 z (by kernel_rfl) z s (fun _ _ _=>id) (fun w s=>r_fa fa58_1 k z z) fun a k=>dt k 4 z (by kernel_rfl) z s (fun _ _ _=>id) (fun w s=>r_ld1 t156 (r:=[]) (Ag.at ((hMd.step s).a 3 z) 1 1 z z z) k z z) fun a k=>oE h fun Cv Bj h=>?_
     refine dt k 6 z (by kernel_rfl) z s (fun _ _ _=>id) (fun w s=>r_ixa Aa Bj k ts56 z z z) fun a k=>dt k 7 z (by kernel_rfl) z s (fun _ _ _=>id) (fun w s=>r_lde Aa ((hMd.step s).a00 (Enc.rd_lt Aa)) Bj ta89 k z z) fun a k=>d_one 8 (by kernel_rfl) z (oE h fun Ef Df h=>cE k m call55 z z z (c_impl_Within fu (r1.fPallet:Pallet) (Ad:Box) (Cv:Spot)  Df) fun Ex e a k m=>?_)
     have s:=s.trans e (by simp)
     refine wpList_nil ⟨s,?_⟩
     refine dN [9] 1 z k (by kernel_rfl) z s (fun _ _ _ _ _=>id) fun a k=>d_done (by kernel_rfl) ((nm_then ?_))
     refine cI h k z (fun Cq h=>?_) fun Cq h=>?_
     · refine wr (pN 1 k z fun a k=>nn (wp_ret (rt_then (rt_block (rt_then (rt_then (rt_block (rt_then ?_))))))))
       refine fS h k m z z
     refine wp_skip (nm_then ?_)
     refine wp_region_lit (pN 1 k z fun a k=>sv k z (r_ldB ta86 m 0 Bo 0 k z z z z z z) fun a k=>s_bs (cs:=[I Ad.fW,I Ad.fD,I Ad.fH,I Ad.fGram]) (ps:=[(0,.tmp 36)]) te149 m k z z z z z z z (by decide) z (by exact (List.forall_mem_cons.2 ⟨z,(List.forall_mem_nil _)⟩)) fun Fe Eu Ed a k m e Ct=>?_)
     have Cg:=ow_bx Ct ([Ad]:List Box) z z z
     refine oE h fun By Dl h=>s_appF Dl te149 z m 5 Ak (News.rd (Enc.rd_agr (Enc.ow_rd Cg) (m.a 0 z))) z z k z z z z z z z fun Ck Cf Bx a k e m Ce=>pN 1 k z fun a k=>?_
     have k:=k.keep [2,3,15,16,5,17] z
     refine wpList_nil (nm_block (nm_then ?_))
     refine wp_region_lit (pN 2 k z fun a k=>nn ?_)
     exact ⟨By,Ck,Cf,Bx,w64 (Ba + 1),k.keep [2,3,5,15,16,17] z,m.sel [3,4,5] z (by decide),Ce,h⟩
   refine wp_exit (ex_then (ex_then (ex_same (nm_then ?_))))
   refine wp_seq (wr (pN 1 k z fun a k=>sv k z (r_len (α:=Box) (Enc.ow_rd Ak) k underlying149 z z) fun a k=>pN 1 k z fun a k=>nn (wp_block (c_loop (fun n a w=>∃ (Af:Int),K 96 [(2,.pointer (some (⟨Ac,0,none⟩:Addr))),(3,.pointer (some (⟨Ab,0,none⟩:Addr))),(5,As),(41,I ((Ah.length:Int))),(42,I Af)] a ∧ St [] w0 w [([Ac],Ao),([Ab],Al),(Aq,At)] ∧ d_impl_spotFault_L3 fu r1 x5 Ah n Af = some r) ?_ ?_ fu _ _ ?_))))
   · rintro a w ⟨_,_,_,h⟩
     exact nS h
   · rintro Do a Ep ⟨Af,k,m,h⟩
     rw [d_impl_spotFault_L3_s] at h
     unfold d_impl_spotFault_L3_B at h
     refine wr (pN 1 k z fun a k=>nn (wp_seq (cI h k z (fun Cw h=>?_) fun Cw h=>?_)))
     · refine wp_skip (nm_then ?_)
       refine wp_seq (wp_block (wr (pN 2 k z fun a k=>nn (wr (pN 2 k z fun a k=>nn (wp_block (c_loop (fun n a w=>∃ (Az:Int),K 96 [(2,.pointer (some (⟨Ac,0,none⟩:Addr))),(3,.pointer (some (⟨Ab,0,none⟩:Addr))),(5,As),(9,I Af),(41,I ((Ah.length:Int))),(42,I Af),(45,I Af),(46,I Az)] a ∧ St [] w0 w [([Ac],Ao),([Ab],Al),(Aq,At)] ∧ d_impl_spotFault_L1 fu (d_impl_spotFault_L3 fu r1 x5 Ah Do) x5 Ah Af n Az = some r) ?_ ?_ fu _ _ ?_)))))))
       · rintro a w ⟨_,_,_,h⟩
         exact nS h
       · rintro Dy a Du ⟨Az,k,m,h⟩
         rw [d_impl_spotFault_L1_s] at h
         unfold d_impl_spotFault_L1_B at h
         refine wr (pN 1 k z fun a k=>nn (wp_seq (cI h k z (fun Di h=>?_) fun Di h=>?_)))
         · refine wp_skip (nm_then ?_)
           refine wp_seq (wp_block (wr (pN 2 k z fun a k=>nn (wp_seq (d_go [] mixo m z fun Cb hMd=>?_)))))
           have m:=hMd
           have s:=Ext.refl ([]:List Nat) Cb
           refine dN [0,1,6,9,10,15] 6 z k (by kernel_rfl) z s (fun _ _ _ _ _=>id) fun a k=>oE h fun Cj Bk h=>dt k 2 z (by kernel_rfl) z s (fun _ _ _=>id) (fun w s=>r_ixa (Enc.ow_rd Ak) Bk k ts149 z z z) fun a k=>dt k 3 z (by kernel_rfl) z s (fun _ _ _=>id) (fun w s=>r_lde (Enc.ow_rd Ak) ((hMd.step s).a 2 z) Bk ta86 k z z) fun a k=>dt k 4 z (by kernel_rfl) z s (fun _ _ _=>id) (fun w s=>r_fa fa58_1 k z z) fun a k=>dt k 5 z (by kernel_rfl) z s (fun _ _ _=>id) (fun w s=>r_ld1 t156 (r:=[]) (Ag.at ((hMd.step s).a 1 z) 1 1 z z z) k z z) fun a k=>oE h fun Dq Bp h=>dt k 7 z (by kernel_rfl) z s (fun _ _ _=>id) (fun w s=>r_ixa Aa Bp k ts56 z z z) fun a k=>?_
           refine dt k 8 z (by kernel_rfl) z s (fun _ _ _=>id) (fun w s=>r_lde Aa ((hMd.step s).a00 (Enc.rd_lt Aa)) Bp ta89 k z z) fun a k=>oE h fun Db Bs h=>dt k 11 z (by kernel_rfl) z s (fun _ _ _=>id) (fun w s=>r_ixa (Enc.ow_rd Ak) Bs k ts149 z z z) fun a k=>dt k 12 z (by kernel_rfl) z s (fun _ _ _=>id) (fun w s=>r_lde (Enc.ow_rd Ak) ((hMd.step s).a 2 z) Bs ta86 k z z) fun a k=>dt k 13 z (by kernel_rfl) z s (fun _ _ _=>id) (fun w s=>r_fa fa58_1 k z z) fun a k=>dt k 14 z (by kernel_rfl) z s (fun _ _ _=>id) (fun w s=>r_ld1 t156 (r:=[]) (Ag.at ((hMd.step s).a 1 z) 1 1 z z z) k z z) fun a k=>oE h fun Ch Bn h=>dt k 16 z (by kernel_rfl) z s (fun _ _ _=>id) (fun w s=>r_ixa Aa Bn k ts56 z z z) fun a k=>?_
           refine dt k 17 z (by kernel_rfl) z s (fun _ _ _=>id) (fun w s=>r_lde Aa ((hMd.step s).a00 (Enc.rd_lt Aa)) Bn ta89 k z z) fun a k=>d_one 18 (by kernel_rfl) z (oE h fun Fb Dr h=>cE k m call57 z z z (c_impl_Overlap fu (Cj:Box) (Dq:Spot) (Db:Box) (Ch:Spot)  Dr) fun Es e a k m=>?_)
           have s:=s.trans e (by simp)
           refine wpList_nil ⟨s,?_⟩
           refine d_done (by kernel_rfl) ((nm_then ?_))
           refine cI h k z (fun Cc h=>?_) fun Cc h=>?_
           · refine wr (pN 1 k z fun a k=>nn (wp_ret (rt_block (rt_then (rt_then (rt_block (rt_block (rt_then (rt_then (rt_block (rt_then ?_)))))))))))
             refine fS h k m z z
           refine wp_skip (nm_block (nm_then ?_))
           refine wp_region_lit (pN 2 k z fun a k=>nn ?_)
           exact ⟨w64 (Az + 1),k.keep [2,3,5,9,41,42,45,46] z,m.sel [0,1,2] z (by decide),h⟩
         refine wp_exit (ex_then (ex_then (ex_same (nm_block (nm_then ?_)))))
         refine wp_region_lit (pN 2 k z fun a k=>nn ?_)
         exact ⟨w64 (Af + 1),k.keep [2,3,5,41,42] z,m.sel [0,1,2] z (by decide),h⟩
       exact ⟨0,k.keep [2,3,5,9,41,42,45,46] z,m.sel [0,1,2] z (by decide),h⟩
     refine wp_exit (ex_then (ex_then (ex_same (nm_then ?_))))
     refine wp_seq (wr (sv k z (r_fa fa58_1 k z z) fun a k=>sv k z (r_ldb t156 m 1 Ag 1 k z z z z z) fun a k=>oE h fun Am Cs h=>cE k m call58 z z z (c_impl_Pallets fu _ (Enc.rd_agr Aa (m.a00 (Enc.rd_lt Aa))) Cs) fun Fg e a k m=>pN 1 k z fun a k=>nn (wp_block (c_loop (fun n a w=>∃ (Ai:Int),K 96 [(2,.pointer (some (⟨Ac,0,none⟩:Addr))),(3,.pointer (some (⟨Ab,0,none⟩:Addr))),(72,I Am),(73,I Ai)] a ∧ St [] w0 w [([Ac],Ao),([Ab],Al)] ∧ d_impl_spotFault_L2 fu r1 x5 Am n Ai = some r) ?_ ?_ fu _ _ ?_))))
     · rintro a w ⟨_,_,_,h⟩
       exact nS h
     · rintro Bm a Er ⟨Ai,k,m,h⟩
       rw [d_impl_spotFault_L2_s] at h
       unfold d_impl_spotFault_L2_B at h
       refine wr (pN 1 k z fun a k=>nn (wp_seq (cI h k z (fun Cy h=>?_) fun Cy h=>?_)))
       · refine wp_skip (nm_then ?_)
         refine c_cut (fun a w=>K 96 [(2,.pointer (some (⟨Ac,0,none⟩:Addr))),(3,.pointer (some (⟨Ab,0,none⟩:Addr))),(72,I Am),(73,I Ai)] a ∧ St [] w0 w [([Ac],Ao),([Ab],Al)] ∧ d_impl_spotFault_J1 fu (d_impl_spotFault_L2 fu r1 x5 Am Bm) Ai = some r) ?_ ?_
         · rintro a Ff ⟨k,m,h⟩
           unfold d_impl_spotFault_J1 at h
           refine wp_region_lit (pN 2 k z fun a k=>nn ?_)
           exact ⟨w64 (Ai + 1),k.keep [2,3,72,73] z,m.sel [0,1] z (by decide),h⟩
         refine wp_block (wr (pN 2 k z fun a k=>nn (wr (sv k z (r_ldB ta58 m 1 Ag 0 k z z z z z z) fun a k=>pN 1 k z fun a k=>oE h fun Bq Dd h=>s_call k call60 z z z z z (c_impl_OnPallet fu _ _ (show rd _ _ [Ax,Bg] (x5:Plan) from ⟨_,_,_,_,z,z,(Enc.rd_agr Ae (m.a00 (Enc.rd_lt Ae))),(Enc.rd_agr Aa (m.a00 (Enc.rd_lt Aa)))⟩) Dd) fun Ej Cx hR=>?_))))
         obtain ⟨Dn,Bt,rfl,e,Aj,Cp⟩:=hR
         refine ⟨_,z,fun a k=>?_⟩
         have m:=m.new e Bt (fun b hb=>⟨Cp b hb,Enc.rd_lt (Enc.ow_rd Aj) b hb⟩) (Enc.ow_nd Aj)
         refine s_alloc (cs:=[.slice none 0 0]) m k zeroValue63 z z z z z fun Bf Ev a k m e Bv=>s_stb1 (cs':=[Dn]) sizeOf63 m 0 Bv 0 k (rd_c (Enc.ow_rd Aj)) (rd_o (Enc.ow_rd Aj)) z z z z z z z z z fun Cn a k e m Bc=>nn (c_cut (fun a w=>K 96 [(2,.pointer (some (⟨Ac,0,none⟩:Addr))),(3,.pointer (some (⟨Ab,0,none⟩:Addr))),(12,.pointer (some (⟨Bf,0,none⟩:Addr))),(72,I Am),(73,I Ai)] a ∧ St [] w0 w [([Ac],Ao),([Ab],Al),([Bf],Cn),(Bt,Cx)] ∧ d_impl_spotFault_J2 fu (d_impl_spotFault_L2 fu r1 x5 Am Bm) x5 Ai Bq = some r) ?_ ?_)
         · rintro a Ey ⟨k,m,h⟩
           unfold d_impl_spotFault_J2 at h
           refine wr (sv k z (r_ldb t163 m 2 Bc 0 k z z z z z) fun a k=>pN 1 k z fun a k=>oE h fun Ee Ci h=>cE k m call172 z z z (c_slices_ContainsFunc_int_int fu _ _ (Enc.rd_agr (Enc.ow_rd Aj) (m.a 3 z)) ⟨227,[.pointer (some (⟨Ab,0,none⟩:Addr)),.pointer (some (⟨Bf,0,none⟩:Addr))],z,call227,fun w Eb Fd r e Cm hx=>by subst Cm; have m:=m.step e; exact c_impl_spotFault_1 fu _ _ _ (Ag.agr (m.a 1 rfl) (by simp)) (Enc.rd_agr Ae (m.a00 (Enc.rd_lt Ae))) (Enc.rd_agr Aa (m.a00 (Enc.rd_lt Aa))) (Bc.agr (m.a 2 rfl) (by simp)) (Enc.rd_agr (Enc.ow_rd Aj) (m.a 3 rfl)) hx⟩ Ci) fun Ek e a k m=>nn (cI h k rfl (fun Ca h=>?_) fun Ca h=>?_))
           · refine wr (pN 1 k z fun a k=>nn (wp_ret (rt_block (rt_then (rt_then (rt_block (rt_then ?_)))))))
             refine fS h k m z z
           refine wp_skip (nm_block (nm_then ?_))
           exact ⟨k.keep [2,3,72,73] z,m.sel [0,1] z (by decide),h⟩
         refine wp_seq (d_go [] mixo m z fun Bw hMd=>?_)
         have m:=hMd
         have s:=Ext.refl ([]:List Nat) Bw
         refine dt k 0 z (by kernel_rfl) z s (fun _ _ _=>id) (fun w s=>r_ld1 t163 (r:=[]) (Bc.at ((hMd.step s).a 0 z) 0 1 z z z) k z z) fun a k=>dt k 1 z (by kernel_rfl) z s (fun _ _ _=>id) (fun w s=>r_len (α:=Int) (Enc.ow_rd Aj) k underlying63 z z) fun a k=>dN [2,3] 2 z k (by kernel_rfl) z s (fun _ _ _ _ _=>id) fun a k=>bsplit (((Bq.length:Int)) == 0) (fun Ar=>?_) (fun Ar=>?_)
         · have h:=bif_t Ar h
           refine rB k 82 z Ar fun k=>dN [4,5,6,7,8,9,10,11,12] 9 z k (by kernel_rfl) z s (fun _ _ _ _ _=>id) fun a k=>d_done (by kernel_rfl) ((nm_then ?_))
           refine wp_cond_true (k.ev z) (wr (pN 1 k z fun a k=>nn (wp_ret (rt_then (rt_block (rt_then (rt_then (rt_block (rt_then ?_)))))))))
           refine fS h k m z z
         have h:=bif_f Ar h
         refine rB k 82 z Ar fun k=>dN [6] 1 z k (by kernel_rfl) z s (fun _ _ _ _ _=>id) fun a k=>dt k 4 z (by kernel_rfl) z s (fun _ _ _=>id) (fun w s=>r_ldA ta38 (Av.at ((hMd.step s).a 2 z) 0 10 z z z) z k z z) fun a k=>dt k 5 z (by kernel_rfl) z s (fun _ _ _=>id) (fun w s=>r_ldA ta58 (Ag.at ((hMd.step s).a 3 z) 0 2 z z z) z k z z) fun a k=>dt k 8 z (by kernel_rfl) z s (fun _ _ _=>id) (fun w s=>r_fa fa38_1 k z z) fun a k=>dt k 9 z (by kernel_rfl) z s (fun _ _ _=>id) (fun w s=>r_fa fa33_3 k z z) fun a k=>dt k 10 z (by kernel_rfl) z s (fun _ _ _=>id) (fun w s=>r_ld1 t13 (r:=[]) (Av.at ((hMd.step s).a 2 z) 4 1 z z z) k z z) fun a k=>d_one 7 (by kernel_rfl) z (oE h fun Ds Dk h=>?_)
         refine cE k m call59 z z z (c_impl_PalletGram fu _ _ _ (show rd _ _ [I r1.fWay,I r1.fPallet.fW,I r1.fPallet.fD,I r1.fPallet.fH,I r1.fPallet.fGram,I r1.fClasses,v9,Bb,I r1.fMaster,Bd] (r1:Request) from ⟨_,_,_,_,_,_,z,z,(Enc.rd_agr Ay (m.a00 (Enc.rd_lt Ay))),(Enc.rd_agr Aw (m.a00 (Enc.rd_lt Aw))),(Enc.rd_agr Au (m.a00 (Enc.rd_lt Au)))⟩) (show rd _ _ [Ax,Bg] (x5:Plan) from ⟨_,_,_,_,z,z,(Enc.rd_agr Ae (m.a00 (Enc.rd_lt Ae))),(Enc.rd_agr Aa (m.a00 (Enc.rd_lt Aa)))⟩) Dk) fun Fa e a k m=>?_
         have s:=s.trans e (by simp)
         refine wpList_nil ⟨s,?_⟩
         refine dN [11,12] 2 z k (by kernel_rfl) z s (fun _ _ _ _ _=>id) fun a k=>d_done (by kernel_rfl) ((nm_then ?_))
         refine cI h k z (fun Dg h=>?_) fun Dg h=>?_
         · refine wr (pN 1 k z fun a k=>nn (wp_ret (rt_then (rt_block (rt_then (rt_then (rt_block (rt_then ?_))))))))
           refine fS h k m z z
         refine wp_skip (nm_then ?_)
         exact ⟨k.keep [2,3,12,72,73] z,m.sel [2,3,0,1] z (by decide),h⟩
       refine wp_exit (ex_then (ex_then (ex_same (nm_then ?_))))
       refine wr (pN 1 k z fun a k=>nn (wp_ret (fS h k m z z)))
     exact ⟨0,k.keep [2,3,72,73] z,m.sel [0,1] z (by decide),h⟩
   exact ⟨0,k.keep [2,3,5,41,42] z,m.sel [0,1,2] z (by decide),h⟩
 exact ⟨([]:List Box),(.slice (some ⟨Bi,0,none⟩) 0 0),[Bi],Dj,0,k.keep [2,3,5,15,16,17] z,m.sel [2,1,0] z (by decide),Cr,h⟩
theorem c_impl_Check (fu:Nat) {w0:World} (r1:Request) (x5:Plan) {At:List Value} {F3:List Nat} (Ba:rd w0 F3 At r1) {Av:List Value} {F7:List Nat} (Aw:rd w0 F7 Av x5) {r:Int}
    (h:d_impl_Check fu r1 x5 = some r) :
    Calls Tryz.prog 35 #[.agg At.toArray,.agg Av.toArray] w0 fun e w=>e = .returned (I r) ∧ Ext [] w0 w:=by
 refine enter (vs:=[_,_]) func35 z ntmps35 z fun a k=>?_
 have m:=St.start w0
 obtain ⟨v9,Cr,Ah,Cx,Aj,Cc,rfl,rfl,Ae,Ac,Ab⟩:=Ba
 obtain ⟨Ag,Ck,Ai,Cv,rfl,rfl,Aa,Ad⟩:=Aw
 unfold d_impl_Check at h
 refine wr (s_box (cs:=[I r1.fWay,I r1.fPallet.fW,I r1.fPallet.fD,I r1.fPallet.fH,I r1.fPallet.fGram,I r1.fClasses,v9,Ah,I r1.fMaster,Aj]) m k z z z z z z fun Au Bk a k m e Al=>s_box (cs:=[Ag,Ai]) m k z z z z z z fun As Bb a k m e Ak=>pN 1 k z fun a k=>nn (wp_seq (wr (sv k z (r_ldB ta38 m 1 Al 0 k z z z z z z) fun a k=>oE h fun Cj Bo h=>?_))))
 refine cE k m call115 z z z (c_impl_sound fu _ (show rd _ _ [I r1.fWay,I r1.fPallet.fW,I r1.fPallet.fD,I r1.fPallet.fH,I r1.fPallet.fGram,I r1.fClasses,v9,Ah,I r1.fMaster,Aj] (r1:Request) from ⟨_,_,_,_,_,_,z,z,(Enc.rd_agr Ae (m.a00 (Enc.rd_lt Ae))),(Enc.rd_agr Ac (m.a00 (Enc.rd_lt Ac))),(Enc.rd_agr Ab (m.a00 (Enc.rd_lt Ab)))⟩) Bo) fun De e a k m=>pN 1 k z fun a k=>nn (cI h k z (fun Bm h=>?_) fun Bm h=>?_)
 · refine wr (pN 1 k z fun a k=>nn (wp_ret (rt_then ?_)))
   refine fS h k m z z
 refine wp_skip (nm_then ?_)
 refine c_cut (fun a w=>K 38 [(2,.pointer (some (⟨Au,0,none⟩:Addr))),(3,.pointer (some (⟨As,0,none⟩:Addr)))] a ∧ St [] w0 w [([Au],Bk),([As],Bb)] ∧ d_impl_Check_J1 fu r1 x5 = some r) ?_ ?_
 · rintro a Dd ⟨k,m,h⟩
   unfold d_impl_Check_J1 at h
   refine wr (sv k z (r_ldB ta58 m 1 Ak 0 k z z z z z z) fun a k=>oE h fun Cp Bh h=>s_call k call119 z z z z z (c_impl_allUnits fu _ (show rd _ _ [Ag,Ai] (x5:Plan) from ⟨_,_,_,_,z,z,(Enc.rd_agr Aa (m.a00 (Enc.rd_lt Aa))),(Enc.rd_agr Ad (m.a00 (Enc.rd_lt Ad)))⟩) Bh) fun Cf Cl hR=>?_)
   obtain ⟨Ce,Ax,rfl,e,Ao,Bf⟩:=hR
   refine ⟨_,z,fun a k=>?_⟩
   have m:=m.new e Ax (fun b hb=>⟨Bf b hb,Enc.rd_lt (Enc.ow_rd Ao) b hb⟩) (Enc.ow_nd Ao)
   refine pN 1 k z fun a k=>nn (wr (pN 1 k z fun a k=>oE h fun Db Bv h=>s_call k call120 z z z z z (c_slices_Sort_int_int fu _ (Enc.ow_agr Ao (m.a 0 z)) Bv) fun Cw Ca hR=>?_))
   obtain ⟨Ci,rfl,e,Bi,Ap⟩:=hR
   refine ⟨_,z,fun a k=>?_⟩
   have m:=m.mut 0 z e _ (fun b hb=>⟨Bi b hb,Enc.rd_lt (Enc.ow_rd Ap) b hb⟩) (Enc.ow_nd Ap)
   refine nn (wp_seq (wr (pN 1 k z fun a k=>sv k z (r_ldB ta38 m 1 Al 0 k z z z z z z) fun a k=>oE h fun Cg Br h=>s_call k call123 z z z z z (c_impl_Units fu _ (show rd _ _ [I r1.fWay,I r1.fPallet.fW,I r1.fPallet.fD,I r1.fPallet.fH,I r1.fPallet.fGram,I r1.fClasses,v9,Ah,I r1.fMaster,Aj] (r1:Request) from ⟨_,_,_,_,_,_,z,z,(Enc.rd_agr Ae (m.a00 (Enc.rd_lt Ae))),(Enc.rd_agr Ac (m.a00 (Enc.rd_lt Ac))),(Enc.rd_agr Ab (m.a00 (Enc.rd_lt Ab)))⟩) Br) fun Cs Bx hR=>?_)))
   obtain ⟨Ch,Az,rfl,e,Ar,Bn⟩:=hR
   refine ⟨_,z,fun a k=>?_⟩
   have m:=m.new e Az (fun b hb=>⟨Bn b hb,Enc.rd_lt (Enc.ow_rd Ar) b hb⟩) (Enc.ow_nd Ar)
   refine sv k z (r_len (α:=Int) (Enc.ow_rd Ar) k underlying63 z z) fun a k=>oE h fun Da Bd h=>s_call k call122 z z z z z (c_impl_places fu _  Bd) fun Cn Co hR=>?_
   obtain ⟨Cy,Ay,rfl,e,Aq,Bj⟩:=hR
   refine ⟨_,z,fun a k=>?_⟩
   have m:=m.new e Ay (fun b hb=>⟨Bj b hb,Enc.rd_lt (Enc.ow_rd Aq) b hb⟩) (Enc.ow_nd Aq)
   refine oE h fun Cz Be h=>cE k m call121 z z z (c_slices_Equal_int_int fu _ _ (Enc.rd_agr (Enc.ow_rd Ap) (m.a 2 z)) (Enc.rd_agr (Enc.ow_rd Aq) (m.a 0 z)) Be) fun Ct e a k m=>pN 1 k z fun a k=>nn (cI h k z (fun Bq h=>?_) fun Bq h=>?_)
   · refine wr (pN 1 k z fun a k=>nn (wp_ret (rt_then ?_)))
     refine fS h k m z z
   refine wp_skip (nm_then ?_)
   refine wp_seq (wr (sv k z (r_ldB ta38 m 3 Al 0 k z z z z z z) fun a k=>sv k z (r_ldB ta58 m 4 Ak 0 k z z z z z z) fun a k=>oE h fun Cd Bs h=>cE k m call124 z z z (c_impl_cartonFault fu _ _ (show rd _ _ [I r1.fWay,I r1.fPallet.fW,I r1.fPallet.fD,I r1.fPallet.fH,I r1.fPallet.fGram,I r1.fClasses,v9,Ah,I r1.fMaster,Aj] (r1:Request) from ⟨_,_,_,_,_,_,z,z,(Enc.rd_agr Ae (m.a00 (Enc.rd_lt Ae))),(Enc.rd_agr Ac (m.a00 (Enc.rd_lt Ac))),(Enc.rd_agr Ab (m.a00 (Enc.rd_lt Ab)))⟩) (show rd _ _ [Ag,Ai] (x5:Plan) from ⟨_,_,_,_,z,z,(Enc.rd_agr Aa (m.a00 (Enc.rd_lt Aa))),(Enc.rd_agr Ad (m.a00 (Enc.rd_lt Ad)))⟩) Bs) fun Dc e a k m=>pN 1 k z fun a k=>nn (wr (pN 2 k z fun a k=>nn ?_))))
   refine cI h k z (fun Bl h=>?_) fun Bl h=>?_
   · refine wr (pN 2 k z fun a k=>nn (wp_ret (rt_then ?_)))
     refine fS h k m z z
   refine wp_skip (nm_then ?_)
   refine wr (sv k z (r_ldB ta38 m 3 Al 0 k z z z z z z) fun a k=>sv k z (r_ldB ta58 m 4 Ak 0 k z z z z z z) fun a k=>oE h fun Bw Bp h=>cE k m call125 z z z (c_impl_spotFault fu _ _ (show rd _ _ [I r1.fWay,I r1.fPallet.fW,I r1.fPallet.fD,I r1.fPallet.fH,I r1.fPallet.fGram,I r1.fClasses,v9,Ah,I r1.fMaster,Aj] (r1:Request) from ⟨_,_,_,_,_,_,z,z,(Enc.rd_agr Ae (m.a00 (Enc.rd_lt Ae))),(Enc.rd_agr Ac (m.a00 (Enc.rd_lt Ac))),(Enc.rd_agr Ab (m.a00 (Enc.rd_lt Ab)))⟩) (show rd _ _ [Ag,Ai] (x5:Plan) from ⟨_,_,_,_,z,z,(Enc.rd_agr Aa (m.a00 (Enc.rd_lt Aa))),(Enc.rd_agr Ad (m.a00 (Enc.rd_lt Ad)))⟩) Bp) fun Bz e a k m=>pN 1 k z fun a k=>nn (wp_ret (fS h k m z z)))
 refine wr (sv k z (r_ldB ta58 m 0 Ak 0 k z z z z z z) fun a k=>oE h fun Bc Bt h=>cE k m call116 z z z (c_impl_PlanOk fu _ (show rd _ _ [Ag,Ai] (x5:Plan) from ⟨_,_,_,_,z,z,(Enc.rd_agr Aa (m.a00 (Enc.rd_lt Aa))),(Enc.rd_agr Ad (m.a00 (Enc.rd_lt Ad)))⟩) Bt) fun Cm e a k m=>pN 2 k z fun a k=>bsplit (!Bc) (fun Af=>?_) (fun Af=>?_))
 · have h:=bif_t Af h
   refine rB k 13 z Af fun k=>pN 4 k z fun a k=>nn (wp_cond_true (k.ev z) (wr (pN 1 k z fun a k=>nn (wp_ret (rt_then ?_)))))
   refine fS h k m z z
 have h:=bif_f Af h
 refine rB k 13 z Af fun k=>sv k z (r_fa fa58_0 k z z) fun a k=>sv k z (r_ldb t155 m 0 Ak 0 k z z z z z) fun a k=>oE h fun By Bg h=>cE k m call117 z z z (c_slices_ContainsFunc_impl_Carton_impl_Carton fu _ _ (Enc.rd_agr Aa (m.a00 (Enc.rd_lt Aa))) ⟨118,[],z,call118,fun w Cb Cu r e Am hx=>by obtain ⟨_,_,rfl,Am⟩:=Am; have m:=m.step e; exact c_impl_Check_1 fu _ Am hx⟩ Bg) fun Cq e a k m=>pN 1 k z fun a k=>nn (cI h k z (fun Bu h=>?_) fun Bu h=>?_)
 · refine wr (pN 1 k z fun a k=>nn (wp_ret (rt_then ?_)))
   refine fS h k m z z
 refine wp_skip (nm_then ?_)
 exact ⟨k.keep [2,3] z,m.sel [1,0] z (by decide),h⟩
theorem c_impl_Feasible (fu:Nat) {w0:World} (r1:Request) (x5:Plan) {Ac:List Value} {F3:List Nat} (Aq:rd w0 F3 Ac r1) {Ag:List Value} {F7:List Nat} (Ap:rd w0 F7 Ag x5) {r:Bool}
    (h:d_impl_Feasible fu r1 x5 = some r) :
    Calls Tryz.prog 38 #[.agg Ac.toArray,.agg Ag.toArray] w0 fun e w=>e = .returned (.bool (r)) ∧ Ext [] w0 w:=by
 refine enter (vs:=[_,_]) func38 z ntmps38 z fun a k=>?_
 have m:=St.start w0
 obtain ⟨v9,Au,Aj,At,Ad,Av,rfl,rfl,Ai,Ab,Aa⟩:=Aq
 obtain ⟨Af,Ax,Ak,Ba,rfl,rfl,Ae,Ah⟩:=Ap
 unfold d_impl_Feasible at h
 refine wr (s_box (cs:=[I r1.fWay,I r1.fPallet.fW,I r1.fPallet.fD,I r1.fPallet.fH,I r1.fPallet.fGram,I r1.fClasses,v9,Aj,I r1.fMaster,Ad]) m k z z z z z z fun Ay As a k m e Am=>s_box (cs:=[Af,Ak]) m k z z z z z z fun Ar Az a k m e Al=>pN 1 k z fun a k=>nn (wr (sv k z (r_ldB ta38 m 1 Am 0 k z z z z z z) fun a k=>sv k z (r_ldB ta58 m 0 Al 0 k z z z z z z) fun a k=>oE h fun Aw Ao h=>?_)))
 refine cE k m call35 z z z (c_impl_Check fu _ _ (show rd _ _ [I r1.fWay,I r1.fPallet.fW,I r1.fPallet.fD,I r1.fPallet.fH,I r1.fPallet.fGram,I r1.fClasses,v9,Aj,I r1.fMaster,Ad] (r1:Request) from ⟨_,_,_,_,_,_,z,z,(Enc.rd_agr Ai (m.a00 (Enc.rd_lt Ai))),(Enc.rd_agr Ab (m.a00 (Enc.rd_lt Ab))),(Enc.rd_agr Aa (m.a00 (Enc.rd_lt Aa)))⟩) (show rd _ _ [Af,Ak] (x5:Plan) from ⟨_,_,_,_,z,z,(Enc.rd_agr Ae (m.a00 (Enc.rd_lt Ae))),(Enc.rd_agr Ah (m.a00 (Enc.rd_lt Ah)))⟩) Ao) fun Bb e a k m=>pN 2 k z fun a k=>nn (wp_ret (fS h k m z z))

end Go.Proofs.YtkkfmjpbiimkbaaGreat
