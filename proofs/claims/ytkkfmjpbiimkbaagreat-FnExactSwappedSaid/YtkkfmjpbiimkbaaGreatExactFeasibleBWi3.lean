/- FnExactFeasible: the walks of functions that it reaches (ExactFeasibleBWi,part 3). Printed by gen.py. -/
import Derived.Test.YtkkfmjpbiimkbaaGreatExactFeasibleBWi2
set_option maxRecDepth 20000
set_option linter.unusedSimpArgs false
set_option linter.unusedVariables false
namespace Go.Proofs.YtkkfmjpbiimkbaaGreat
open Go Go.RowKit
open Enc (rd ow)
open Arg (argv)
open Ret (retv)
open Go.Proofs.Tryz

theorem c_impl_placed (fu:Nat) {w0:World} (b1:Box) (Aa:Spot)  {r:Bool}
    (h:d_impl_placed fu b1 Aa = some r) :
    Calls Tryz.prog 156 #[.agg (Flat.e (b1)).toArray,.agg (Flat.e (Aa)).toArray] w0 fun e w=>e = .returned (.bool (r)) ∧ Ext [] w0 w:=by
 refine enter (vs:=[_,_]) func156 z ntmps156 z fun a k=>?_
 have m:=St.start w0
 unfold d_impl_placed at h
 refine wr (s_box (cs:=[I b1.fW,I b1.fD,I b1.fH,I b1.fGram]) m k z z z z z z fun b3 w5 a k m e Ah=>s_box (cs:=[I Aa.fPallet,I Aa.fX,I Aa.fY,I Aa.fZ]) m k z z z z z z fun b6 w9 a k m e Ag=>pN 1 k z fun a k=>nn (wr (sv k z (r_fa fa86_0 k z z) fun a k=>sv k z (r_ldb t13 m 1 Ah 0 k z z z z z) fun a k=>oE h fun Ar Ak h=>cE k m call153 z z z (c_impl_isPlace fu _  Ak) fun Ay e a k m=>pN 1 k z fun a k=>bsplit (Ar) (fun Ac=>?_) (fun Ac=>?_))))
 · have h:=bif_t Ac h
   refine rB k 8 z Ac fun k=>sv k z (r_fa fa86_1 k z z) fun a k=>sv k z (r_ldb t13 m 1 Ah 1 k z z z z z) fun a k=>oE h fun Aq Al h=>cE k m call153 z z z (c_impl_isPlace fu _  Al) fun Az e a k m=>pN 2 k z fun a k=>bsplit (Aq) (fun Ab=>?_) (fun Ab=>?_)
   · have h:=bif_t Ab h
     refine rB k 13 z Ab fun k=>sv k z (r_fa fa86_2 k z z) fun a k=>sv k z (r_ldb t13 m 1 Ah 2 k z z z z z) fun a k=>oE h fun As At h=>cE k m call153 z z z (c_impl_isPlace fu _  At) fun Av e a k m=>pN 2 k z fun a k=>bsplit (As) (fun Ad=>?_) (fun Ad=>?_)
     · have h:=bif_t Ad h
       refine rB k 18 z Ad fun k=>sv k z (r_fa fa89_1 k z z) fun a k=>sv k z (r_ldb t13 m 0 Ag 1 k z z z z z) fun a k=>oE h fun Ao Ap h=>cE k m call153 z z z (c_impl_isPlace fu _  Ap) fun Ax e a k m=>pN 2 k z fun a k=>bsplit (Ao) (fun Ae=>?_) (fun Ae=>?_)
       · have h:=bif_t Ae h
         refine rB k 23 z Ae fun k=>sv k z (r_fa fa89_2 k z z) fun a k=>sv k z (r_ldb t13 m 0 Ag 2 k z z z z z) fun a k=>oE h fun Am Ai h=>cE k m call153 z z z (c_impl_isPlace fu _  Ai) fun Au e a k m=>pN 2 k z fun a k=>bsplit (Am) (fun Af=>?_) (fun Af=>?_)
         · have h:=bif_t Af h
           refine rB k 28 z Af fun k=>sv k z (r_fa fa89_3 k z z) fun a k=>sv k z (r_ldb t13 m 0 Ag 3 k z z z z z) fun a k=>oE h fun Aw Aj h=>cE k m call153 z z z (c_impl_isPlace fu _  Aj) fun Ba e a k m=>pN 2 k z fun a k=>?_
           have k:=k.keep [4] z
           refine nn (wp_ret (fS h k m z z))
         have h:=bif_f Af h
         refine rB k 28 z Af fun k=>pN 5 k z fun a k=>?_
         have k:=k.keep [4] z
         refine nn (wp_ret (fS h k m z z))
       have h:=bif_f Ae h
       refine rB k 23 z Ae fun k=>pN 10 k z fun a k=>?_
       have k:=k.keep [4] z
       refine nn (wp_ret (fS h k m z z))
     have h:=bif_f Ad h
     refine rB k 18 z Ad fun k=>pN 15 k z fun a k=>?_
     have k:=k.keep [4] z
     refine nn (wp_ret (fS h k m z z))
   have h:=bif_f Ab h
   refine rB k 13 z Ab fun k=>pN 20 k z fun a k=>?_
   have k:=k.keep [4] z
   refine nn (wp_ret (fS h k m z z))
 have h:=bif_f Ac h
 refine rB k 8 z Ac fun k=>pN 25 k z fun a k=>?_
 have k:=k.keep [4] z
 refine nn (wp_ret (fS h k m z z))
theorem c_impl_cross (fu:Nat) {w0:World} (a1:Int) (Ac:Int) (b3:Int) (Ab:Int)  {r:Bool}
    (h:d_impl_cross fu a1 Ac b3 Ab = some r) :
    Calls Tryz.prog 157 #[I a1,I Ac,I b3,I Ab] w0 fun e w=>e = .returned (.bool (r)) ∧ Ext [] w0 w:=by
 refine enter (vs:=[_,_,_,_]) func157 z ntmps157 z fun a k=>?_
 have m:=St.start w0
 unfold d_impl_cross at h
 refine wr (pN 1 k z fun a k=>nn (wr (pN 6 k z fun a k=>bsplit (decide (a1 < (w64 (b3 + Ab)))) (fun Aa=>?_) (fun Aa=>?_))))
 · have h:=bif_t Aa h
   refine rB k 14 z Aa fun k=>pN 7 k z fun a k=>nn (wp_ret (fS h k m z z))
 have h:=bif_f Aa h
 refine rB k 14 z Aa fun k=>pN 7 k z fun a k=>nn (wp_ret (fS h k m z z))
theorem c_impl_Overlap (fu:Nat) {w0:World} (a1:Box) (Aa:Spot) (b3:Box) (t4:Spot)  {r:Bool}
    (h:d_impl_Overlap fu a1 Aa b3 t4 = some r) :
    Calls Tryz.prog 57 #[.agg (Flat.e (a1)).toArray,.agg (Flat.e (Aa)).toArray,.agg (Flat.e (b3)).toArray,.agg (Flat.e (t4)).toArray] w0 fun e w=>e = .returned (.bool (r)) ∧ Ext [] w0 w:=by
 refine enter (vs:=[_,_,_,_]) func57 z ntmps57 z fun a k=>?_
 have m:=St.start w0
 unfold d_impl_Overlap at h
 refine wr (s_box (cs:=[I a1.fW,I a1.fD,I a1.fH,I a1.fGram]) m k z z z z z z fun b5 w7 a k m e Ah=>s_box (cs:=[I Aa.fPallet,I Aa.fX,I Aa.fY,I Aa.fZ]) m k z z z z z z fun b8 Ap a k m e Ad=>s_box (cs:=[I b3.fW,I b3.fD,I b3.fH,I b3.fGram]) m k z z z z z z fun Aj Av a k m e Ai=>s_box (cs:=[I t4.fPallet,I t4.fX,I t4.fY,I t4.fZ]) m k z z z z z z fun Ak Ay a k m e Af=>pN 1 k z fun a k=>nn ?_)
 refine c_cut (fun a w=>K 57 [(4,.pointer (some (⟨b5,0,none⟩:Addr))),(5,.pointer (some (⟨b8,0,none⟩:Addr))),(6,.pointer (some (⟨Aj,0,none⟩:Addr))),(7,.pointer (some (⟨Ak,0,none⟩:Addr)))] a ∧ St [] w0 w [([b5],w7),([b8],Ap),([Aj],Av),([Ak],Ay)] ∧ d_impl_Overlap_J1 fu a1 Aa b3 t4 = some r) ?_ ?_
 · rintro a Bc ⟨k,m,h⟩
   unfold d_impl_Overlap_J1 at h
   refine wr (sv k z (r_fa fa89_1 k z z) fun a k=>sv k z (r_ldb t13 m 1 Ad 1 k z z z z z) fun a k=>sv k z (r_fa fa86_0 k z z) fun a k=>sv k z (r_ldb t13 m 0 Ah 0 k z z z z z) fun a k=>sv k z (r_fa fa89_1 k z z) fun a k=>sv k z (r_ldb t13 m 3 Af 1 k z z z z z) fun a k=>sv k z (r_fa fa86_0 k z z) fun a k=>sv k z (r_ldb t13 m 2 Ai 0 k z z z z z) fun a k=>oE h fun Al As h=>cE k m call157 z z z (c_impl_cross fu _ _ _ _  As) fun Bb e a k m=>pN 1 k z fun a k=>bsplit (Al) (fun Ab=>?_) (fun Ab=>?_))
   · have h:=bif_t Ab h
     refine rB k 35 z Ab fun k=>sv k z (r_fa fa89_2 k z z) fun a k=>sv k z (r_ldb t13 m 1 Ad 2 k z z z z z) fun a k=>sv k z (r_fa fa86_1 k z z) fun a k=>sv k z (r_ldb t13 m 0 Ah 1 k z z z z z) fun a k=>sv k z (r_fa fa89_2 k z z) fun a k=>sv k z (r_ldb t13 m 3 Af 2 k z z z z z) fun a k=>sv k z (r_fa fa86_1 k z z) fun a k=>sv k z (r_ldb t13 m 2 Ai 1 k z z z z z) fun a k=>oE h fun Ao Au h=>cE k m call157 z z z (c_impl_cross fu _ _ _ _  Au) fun Be e a k m=>pN 2 k z fun a k=>bsplit (Ao) (fun Ac=>?_) (fun Ac=>?_)
     · have h:=bif_t Ac h
       refine rB k 46 z Ac fun k=>sv k z (r_fa fa89_3 k z z) fun a k=>sv k z (r_ldb t13 m 1 Ad 3 k z z z z z) fun a k=>sv k z (r_fa fa86_2 k z z) fun a k=>sv k z (r_ldb t13 m 0 Ah 2 k z z z z z) fun a k=>sv k z (r_fa fa89_3 k z z) fun a k=>sv k z (r_ldb t13 m 3 Af 3 k z z z z z) fun a k=>sv k z (r_fa fa86_2 k z z) fun a k=>sv k z (r_ldb t13 m 2 Ai 2 k z z z z z) fun a k=>oE h fun Ba Ax h=>cE k m call157 z z z (c_impl_cross fu _ _ _ _  Ax) fun Bf e a k m=>pN 2 k z fun a k=>?_
       have k:=k.keep [8] z
       refine nn (wp_ret (fS h k m z z))
     have h:=bif_f Ac h
     refine rB k 46 z Ac fun k=>pN 11 k z fun a k=>?_
     have k:=k.keep [8] z
     refine nn (wp_ret (fS h k m z z))
   have h:=bif_f Ab h
   refine rB k 35 z Ab fun k=>pN 22 k z fun a k=>?_
   have k:=k.keep [8] z
   refine nn (wp_ret (fS h k m z z))
 refine wr (sv k z (r_ldB ta86 m 3 Ah 0 k z z z z z z) fun a k=>sv k z (r_ldB ta89 m 2 Ad 0 k z z z z z z) fun a k=>oE h fun Aq Ar h=>cE k m call156 z z z (c_impl_placed fu (a1:Box) (Aa:Spot)  Ar) fun Bd e a k m=>pN 2 k z fun a k=>bsplit (!Aq) (fun Ae=>?_) (fun Ae=>?_))
 · have h:=bif_t Ae h
   refine rB k 13 z Ae fun k=>pN 12 k z fun a k=>nn (wp_cond_true (k.ev z) (wr (pN 1 k z fun a k=>nn (wp_ret (rt_then ?_)))))
   refine fS h k m z z
 have h:=bif_f Ae h
 refine rB k 13 z Ae fun k=>sv k z (r_ldB ta86 m 1 Ai 0 k z z z z z z) fun a k=>sv k z (r_ldB ta89 m 0 Af 0 k z z z z z z) fun a k=>oE h fun Aw At h=>cE k m call156 z z z (c_impl_placed fu (b3:Box) (t4:Spot)  At) fun Az e a k m=>pN 3 k z fun a k=>bsplit (!Aw) (fun Ag=>?_) (fun Ag=>?_)
 · have h:=bif_t Ag h
   refine rB k 19 z Ag fun k=>pN 6 k z fun a k=>nn (wp_cond_true (k.ev z) (wr (pN 1 k z fun a k=>nn (wp_ret (rt_then ?_)))))
   refine fS h k m z z
 have h:=bif_f Ag h
 refine rB k 19 z Ag fun k=>sv k z (r_fa fa89_0 k z z) fun a k=>sv k z (r_ldb t13 m 2 Ad 0 k z z z z z) fun a k=>sv k z (r_fa fa89_0 k z z) fun a k=>sv k z (r_ldb t13 m 0 Af 0 k z z z z z) fun a k=>pN 2 k z fun a k=>nn (cI h k z (fun Am h=>?_) fun Am h=>?_)
 · refine wr (pN 1 k z fun a k=>nn (wp_ret (rt_then ?_)))
   refine fS h k m z z
 refine wp_skip (nm_then ?_)
 exact ⟨k.keep [4,5,6,7] z,m.sel [3,2,1,0] z (by decide),h⟩
theorem c_impl_Pallets (fu:Nat) {w0:World} (Ac:List Spot) {v2:Value} {F3:List Nat} (Af:rd w0 F3 [v2] Ac) {r:Int}
    (h:d_impl_Pallets fu Ac = some r) :
    Calls Tryz.prog 58 #[v2] w0 fun e w=>e = .returned (I r) ∧ Ext [] w0 w:=by
 refine enter (vs:=[_]) func58 z ntmps58 z fun a k=>?_
 have m:=St.start w0
 unfold d_impl_Pallets at h
 refine wr (pN 1 k z fun a k=>nn (wr (pN 1 k z fun a k=>nn (wp_seq (wr (pN 1 k z fun a k=>sv k z (r_len (α:=Spot) Af k underlying56 z z) fun a k=>pN 1 k z fun a k=>nn (wp_block (c_loop (fun n a w=>∃ (Ab:Int) (Ad:Int),K 22 [(3,I Ab),(6,v2),(7,I ((Ac.length:Int))),(8,I Ad)] a ∧ St [] w0 w [] ∧ d_impl_Pallets_L1 fu Ac n Ab Ad = some r) ?_ ?_ fu _ _ ?_))))))))
 · rintro a w ⟨_,_,_,_,h⟩
   exact nS h
 · rintro Ai a As ⟨Ab,Ad,k,m,h⟩
   rw [d_impl_Pallets_L1_s] at h
   unfold d_impl_Pallets_L1_B at h
   refine wr (pN 1 k z fun a k=>nn (wp_seq (cI h k z (fun Am h=>?_) fun Am h=>?_)))
   · refine wp_skip (nm_then ?_)
     refine c_cut (fun a w=>∃ (Ae:Int),K 22 [(3,I Ae),(6,v2),(7,I ((Ac.length:Int))),(8,I Ad)] a ∧ St [] w0 w [] ∧ d_impl_Pallets_J1 fu (d_impl_Pallets_L1 fu Ac Ai) Ad Ae = some r) ?_ ?_
     · rintro a Aq ⟨Ae,k,m,h⟩
       unfold d_impl_Pallets_J1 at h
       refine wp_region_lit (pN 2 k z fun a k=>nn ?_)
       exact ⟨Ae,w64 (Ad + 1),k.keep [3,6,7,8] z,m.sel [] z (by decide),h⟩
     refine wp_block (wr (oE h fun Aa Ah h=>sv k z (r_ixa Af Ah k ts56 z z z) fun a k=>sv k z (r_lde Af (m.a00 (Enc.rd_lt Af)) Ah ta89 k z z) fun a k=>s_alloc (cs:=[I 0,I 0,I 0,I 0]) m k zeroValue89 z z z z z fun Ao Ar a k m e Ak=>s_stb (cs':=[I Aa.fPallet,I Aa.fX,I Aa.fY,I Aa.fZ]) sizeOf89 m 0 Ak 0 k z z z z z z z z z z z fun At a k e m Ag=>nn (wr (sv k z (r_fa fa89_0 k z z) fun a k=>sv k z (r_ldb t13 m 0 Ag 0 k z z z z z) fun a k=>oE h fun Au Al h=>cE k m call139 z z z (c_impl_in fu _ _ _  Al) fun Ap e a k m=>nn (cI h k z (fun Aj h=>?_) fun Aj h=>?_)))))
     · refine wp_region_lit (pN 1 k z fun a k=>sv k z (r_fa fa89_0 k z z) fun a k=>sv k z (r_ldb t13 m 0 Ag 0 k z z z z z) fun a k=>pN 3 k z fun a k=>wpList_nil (nm_block (nm_then ?_)))
       exact ⟨if (w64 (Aa.fPallet + 1)) > Ab then w64 (Aa.fPallet + 1) else Ab,k.keep [3,6,7,8] z,m.sel [] z (by decide),h⟩
     refine wp_skip (nm_block (nm_then ?_))
     exact ⟨Ab,k.keep [3,6,7,8] z,m.sel [] z (by decide),h⟩
   refine wp_exit (ex_then (ex_then (ex_same (nm_then ?_))))
   refine wr (pN 2 k z fun a k=>nn (wp_ret (fS h k m z z)))
 exact ⟨0,0,k.keep [3,6,7,8] z,m.sel [] z (by decide),h⟩
theorem c_impl_OnPallet (fu:Nat) {w0:World} (x1:Plan) (Ab:Int) {Aq:List Value} {F3:List Nat} (Bc:rd w0 F3 Aq x1) {r:(List Int)}
    (h:d_impl_OnPallet fu x1 Ab = some r) :
    Calls Tryz.prog 60 #[.agg Aq.toArray,I Ab] w0 fun e w=>∃ (v0:Value) (G0:List Nat),e = .returned (v0) ∧ Ext [] w0 w ∧ ow w G0 [v0] r ∧ (∀ b ∈ G0,w0.heap.size ≤ b):=by
 refine enter (vs:=[_,_]) func60 z ntmps60 z fun a k=>?_
 have m:=St.start w0
 obtain ⟨v6,F7,v8,F9,rfl,rfl,Az,Ac⟩:=Bc
 unfold d_impl_OnPallet at h
 refine wr (s_box (cs:=[v6,v8]) m k z z z z z z fun Bp Bo a k m e Ao=>pN 1 k z fun a k=>nn (wp_seq (wr (sv k z (r_fa fa58_1 k z z) fun a k=>sv k z (r_ldb t156 m 0 Ao 1 k z z z z z) fun a k=>sv k z (r_len (α:=Spot) Ac k underlying56 z z) fun a k=>sv k z (r_fa fa58_0 k z z) fun a k=>sv k z (r_ldb t155 m 0 Ao 0 k z z z z z) fun a k=>sv k z (r_len (α:=Carton) Az k underlying55 z z) fun a k=>pN 1 k z fun a k=>nn (cI h k z (fun Bk h=>?_) fun Bk h=>?_)))))
 · refine wr (pN 1 k z fun a k=>nn (wp_ret (rt_then ?_)))
   cases h
   exact finR1 k z (RV.tmp k z) ⟨_,[],z,m.ext,(ow_nil _),(by simp)⟩
 refine wp_skip (nm_then ?_)
 refine wr (s_bs (cs:=[]) (ps:=[]) te63 m k z z z z z z z (by decide) z (by exact (List.forall_mem_nil _)) fun Ap Bf Bv a k m e Bl=>?_)
 have Ax:=ow_bx Bl ([]:List Int) z z z
 refine pN 1 k z fun a k=>nn (wp_seq (wr (sv k z (r_fa fa58_1 k z z) fun a k=>sv k z (r_ldb t156 m 1 Ao 1 k z z z z z) fun a k=>sv k z (r_len (α:=Spot) Ac k underlying56 z z) fun a k=>pN 1 k z fun a k=>nn (wp_block (c_loop (fun n a w=>∃ (Ae:List Int) (Af:Value) (Ad:List Nat) (Al:World) (Aa:Int),K 34 [(1,I Ab),(5,Af),(17,v8),(18,I ((x1.fSpots.length:Int))),(19,I Aa)] a ∧ St [] w0 w [(Ad,Al)] ∧ ow Al Ad [Af] Ae ∧ d_impl_OnPallet_L1 fu x1 Ab n Ae Aa = some r) ?_ ?_ fu _ _ ?_)))))
 · rintro a w ⟨_,_,_,_,_,_,_,_,h⟩
   exact nS h
 · rintro Ba a Bu ⟨Ae,Af,Ad,Al,Aa,k,m,Am,h⟩
   rw [d_impl_OnPallet_L1_s] at h
   unfold d_impl_OnPallet_L1_B at h
   refine wr (pN 1 k z fun a k=>nn (wp_seq (cI h k z (fun Bd h=>?_) fun Bd h=>?_)))
   · refine wp_skip (nm_then ?_)
     refine c_cut (fun a w=>∃ (Ag:List Int) (Ai:Value) (Ah:List Nat) (Ak:World),K 34 [(1,I Ab),(5,Ai),(17,v8),(18,I ((x1.fSpots.length:Int))),(19,I Aa)] a ∧ St [] w0 w [(Ah,Ak)] ∧ ow Ak Ah [Ai] Ag ∧ d_impl_OnPallet_J1 fu (d_impl_OnPallet_L1 fu x1 Ab Ba) Aa Ag = some r) ?_ ?_
     · rintro a Bs ⟨Ag,Ai,Ah,Ak,k,m,Bh,h⟩
       unfold d_impl_OnPallet_J1 at h
       refine wp_region_lit (pN 2 k z fun a k=>nn ?_)
       exact ⟨Ag,Ai,Ah,Ak,w64 (Aa + 1),k.keep [1,5,17,18,19] z,m.sel [0] z (by decide),Bh,h⟩
     refine wp_block (wr (pN 1 k z fun a k=>oE h fun Aj Ar h=>sv k z (r_ixa Ac Ar k ts56 z z z) fun a k=>sv k z (r_lde Ac (m.a00 (Enc.rd_lt Ac)) Ar ta89 k z z) fun a k=>s_alloc (cs:=[I 0,I 0,I 0,I 0]) m k zeroValue89 z z z z z fun Bm Bw a k m e Au=>pN 1 k z fun a k=>s_stb (cs':=[I Aj.fPallet,I Aj.fX,I Aj.fY,I Aj.fZ]) sizeOf89 m 0 Au 0 k z z z z z z z z z z z fun Bn a k e m Bb=>nn (wr (sv k z (r_fa fa89_0 k z z) fun a k=>sv k z (r_ldb t13 m 0 Bb 0 k z z z z z) fun a k=>pN 2 k z fun a k=>nn (cI h k z (fun Be h=>?_) fun Be h=>?_)))))
     · refine wp_region_lit (pN 2 k z fun a k=>s_bs (cs:=[I Aa]) (ps:=[(0,.tmp 29)]) te63 m k z z z z z z z (by decide) z (by exact (List.forall_mem_cons.2 ⟨z,(List.forall_mem_nil _)⟩)) fun Bq Br Bt a k m e As=>?_)
       have At:=ow_bx As ([Aa]:List Int) z z z
       refine oE h fun Bi Av h=>s_appF Av te63 z m 2 Am (News.rd (Enc.rd_agr (Enc.ow_rd At) (m.a 0 z))) z z k z z z z z z z fun Bg Ay Aw a k e m Bj=>pN 1 k z fun a k=>wpList_nil (nm_block (nm_then ?_))
       exact ⟨Bi,Bg,Ay,Aw,k.keep [1,5,17,18,19] z,m.sel [2] z (by decide),Bj,h⟩
     refine wp_skip (nm_block (nm_then ?_))
     exact ⟨Ae,Af,Ad,Al,k.keep [1,5,17,18,19] z,m.sel [1] z (by decide),Am,h⟩
   refine wp_exit (ex_then (ex_then (ex_same (nm_then ?_))))
   refine wr (pN 2 k z fun a k=>nn (wp_ret ?_))
   cases h
   exact finR1 k z (RV.tmp k z) ⟨_,Ad,z,m.ext,(Enc.ow_agr Am (m.a 0 z)),(m.fresh 0 z)⟩
 exact ⟨([]:List Int),(.slice (some ⟨Ap,0,none⟩) 0 0),[Ap],Bf,0,k.keep [1,5,17,18,19] z,m.sel [0] z (by decide),Ax,h⟩
theorem c_impl_PalletGram (fu:Nat) {w0:World} (r1:Request) (x5:Plan) (Aj:Int) {Au:List Value} {F3:List Nat} (Bd:rd w0 F3 Au r1) {Ai:List Value} {F7:List Nat} (Bi:rd w0 F7 Ai x5) {r:Int}
    (h:d_impl_PalletGram fu r1 x5 Aj = some r) :
    Calls Tryz.prog 59 #[.agg Au.toArray,.agg Ai.toArray,I Aj] w0 fun e w=>e = .returned (I r) ∧ Ext [] w0 w:=by
 refine enter (vs:=[_,_,_]) func59 z ntmps59 z fun a k=>?_
 have m:=St.start w0
 obtain ⟨Ap,Bz,Aw,By,Aq,Bw,rfl,rfl,Ag,At,Ay⟩:=Bd
 obtain ⟨Ah,Ca,Am,Cb,rfl,rfl,Aa,Ak⟩:=Bi
 unfold d_impl_PalletGram at h
 refine wr (s_box (cs:=[I r1.fWay,I r1.fPallet.fW,I r1.fPallet.fD,I r1.fPallet.fH,I r1.fPallet.fGram,I r1.fClasses,Ap,Aw,I r1.fMaster,Aq]) m k z z z z z z fun Ar Bl a k m e Bf=>s_box (cs:=[Ah,Am]) m k z z z z z z fun Af Bb a k m e Av=>pN 1 k z fun a k=>nn (wr (pN 1 k z fun a k=>nn (wp_seq (wr (sv k z (r_ldB ta58 m 0 Av 0 k z z z z z z) fun a k=>pN 1 k z fun a k=>oE h fun Ao Bp h=>s_call k call60 z z z z z (c_impl_OnPallet fu _ _ (show rd _ _ [Ah,Am] (x5:Plan) from ⟨_,_,_,_,z,z,(Enc.rd_agr Aa (m.a00 (Enc.rd_lt Aa))),(Enc.rd_agr Ak (m.a00 (Enc.rd_lt Ak)))⟩) Bp) fun Cd Bk hR=>?_))))))
 obtain ⟨Ba,Al,rfl,e,Ab,Bj⟩:=hR
 refine ⟨_,z,fun a k=>?_⟩
 have m:=m.new e Al (fun b hb=>⟨Bj b hb,Enc.rd_lt (Enc.ow_rd Ab) b hb⟩) (Enc.ow_nd Ab)
 refine sv k z (r_len (α:=Int) (Enc.ow_rd Ab) k underlying63 z z) fun a k=>pN 1 k z fun a k=>nn (wp_block (c_loop (fun n a w=>∃ (Ad:Int) (Ac:Int),K 29 [(3,.pointer (some (⟨Ar,0,none⟩:Addr))),(4,.pointer (some (⟨Af,0,none⟩:Addr))),(7,I Ad),(12,Ba),(13,I ((Ao.length:Int))),(14,I Ac)] a ∧ St [] w0 w [([Ar],Bl),([Af],Bb),(Al,Bk)] ∧ d_impl_PalletGram_L1 fu r1 x5 Ao n Ad Ac = some r) ?_ ?_ fu _ _ ?_))
 · rintro a w ⟨_,_,_,_,h⟩
   exact nS h
 · rintro Br a Bs ⟨Ad,Ac,k,m,h⟩
   rw [d_impl_PalletGram_L1_s] at h
   unfold d_impl_PalletGram_L1_B at h
   refine wr (pN 1 k z fun a k=>nn (wp_seq (cI h k z (fun Be h=>?_) fun Be h=>?_)))
   · refine wp_skip (nm_then ?_)
     refine wp_seq (wp_block (wr (oE h fun Cc Az h=>sv k z (r_ixa (Enc.ow_rd Ab) Az k ts63 z z z) fun a k=>sv k z (r_lde1 (Enc.ow_rd Ab) (m.a 2 z) Az 0 t13 k z z z z) fun a k=>pN 1 k z fun a k=>nn (d_go [] mixo m z fun Bo hMd=>?_))))
     have m:=hMd
     have s:=Ext.refl ([]:List Nat) Bo
     refine dN [0,4] 2 z k (by kernel_rfl) z s (fun _ _ _ _ _=>id) fun a k=>dt k 1 z (by kernel_rfl) z s (fun _ _ _=>id) (fun w s=>r_ldA ta38 (Bf.at ((hMd.step s).a 0 z) 0 10 z z z) z k z z) fun a k=>dt k 2 z (by kernel_rfl) z s (fun _ _ _=>id) (fun w s=>r_fa fa58_0 k z z) fun a k=>dt k 3 z (by kernel_rfl) z s (fun _ _ _=>id) (fun w s=>r_ld1 t155 (r:=[]) (Av.at ((hMd.step s).a 1 z) 0 1 z z z) k z z) fun a k=>oE h fun Ae As h=>dt k 5 z (by kernel_rfl) z s (fun _ _ _=>id) (fun w s=>r_ixa Aa As k ts55 z z z) fun a k=>?_
     obtain ⟨Bu,Bv,Bx,Bm,Bg,Bc⟩:=rd_get Aa (ix_some As).2.2
     obtain ⟨Bq,_,rfl,rfl,Ax⟩:=Bm
     refine dt k 6 z (by kernel_rfl) z s (fun _ _ _=>id) (fun w s=>r_ldA ta83 (Bg.agr ((hMd.step s).a00 (Enc.rd_lt Aa)) Bc) z k z z) fun a k=>d_one 7 (by kernel_rfl) z (oE h fun Bh Bn h=>cE k m call155 z z z (c_impl_Gross fu _ _ (show rd _ _ [I r1.fWay,I r1.fPallet.fW,I r1.fPallet.fD,I r1.fPallet.fH,I r1.fPallet.fGram,I r1.fClasses,Ap,Aw,I r1.fMaster,Aq] (r1:Request) from ⟨_,_,_,_,_,_,z,z,(Enc.rd_agr Ag (m.a00 (Enc.rd_lt Ag))),(Enc.rd_agr At (m.a00 (Enc.rd_lt At))),(Enc.rd_agr Ay (m.a00 (Enc.rd_lt Ay)))⟩) (show rd _ _ [I Ae.fType,I Ae.fGroup,Bq] (Ae:Carton) from ⟨_,_,z,z,(Enc.rd_agr Ax (m.a00 (Enc.rd_lt Ax)))⟩) Bn) fun Bt e a k m=>?_)
     have s:=s.trans e (by simp)
     refine wpList_nil ⟨s,?_⟩
     refine dN [8,9] 2 z k (by kernel_rfl) z s (fun _ _ _ _ _=>id) fun a k=>d_done (by kernel_rfl) ((nm_block (nm_then ?_)))
     refine wp_region_lit (pN 2 k z fun a k=>nn ?_)
     exact ⟨w64 (Ad + Bh),w64 (Ac + 1),k.keep [3,4,7,12,13,14] z,m.sel [0,1,2] z (by decide),h⟩
   refine wp_exit (ex_then (ex_then (ex_same (nm_then ?_))))
   refine wr (pN 2 k z fun a k=>nn (wp_ret (fS h k m z z)))
 exact ⟨0,0,k.keep [3,4,7,12,13,14] z,m.sel [2,1,0] z (by decide),h⟩
theorem c_impl_spotFault_1 (fu:Nat) {w0:World} (i1:Int) (x2:Plan) (Aj:List Int) {v5:Value} {F6:List Nat} {v8:Value} {F9:List Nat} {b3:Nat} (Ab:bx w0 b3 [v5,v8] 58) (Aa:rd w0 F6 [v5] x2.fCartons) (Bc:rd w0 F9 [v8] x2.fSpots) {Ai:Value} {Ao:List Nat} {Ag:Nat} (Ah:bx w0 Ag [Ai] 63) (Ac:rd w0 Ao [Ai] Aj) {r:Bool}
    (h:d_impl_spotFault_1 fu i1 x2 Aj = some r) :
    Calls Tryz.prog 227 #[I i1,.pointer (some (⟨b3,0,none⟩:Addr)),.pointer (some (⟨Ag,0,none⟩:Addr))] w0 fun e w=>e = .returned (.bool (r)) ∧ Ext [] w0 w:=by
 refine enter (vs:=[_,_,_]) func227 z ntmps227 z fun a k=>?_
 have m:=St.start w0
 unfold d_impl_spotFault_1 at h
 refine wr (pN 1 k z fun a k=>nn (wp_seq (d_go [] mixo m z fun Aq hMd=>?_)))
 have m:=hMd
 have s:=Ext.refl ([]:List Nat) Aq
 refine dN [2] 1 z k (by kernel_rfl) z s (fun _ _ _ _ _=>id) fun a k=>dt k 0 z (by kernel_rfl) z s (fun _ _ _=>id) (fun w s=>r_fa fa58_0 k z z) fun a k=>dt k 1 z (by kernel_rfl) z s (fun _ _ _=>id) (fun w s=>r_ld1 t155 (r:=[]) (Ab.at ((hMd.step s).a00 Ab.lt1) 0 1 z z z) k z z) fun a k=>oE h fun Bd Ae h=>dt k 3 z (by kernel_rfl) z s (fun _ _ _=>id) (fun w s=>r_ixa Aa Ae k ts55 z z z) fun a k=>dt k 4 z (by kernel_rfl) z s (fun _ _ _=>id) (fun w s=>r_fa fa83_1 k z z) fun a k=>?_
 obtain ⟨Ay,Bf,Bg,Al,Ak,Ap⟩:=rd_get Aa (ix_some Ae).2.2
 obtain ⟨At,_,rfl,rfl,Av⟩:=Al
 refine dt k 5 z (by kernel_rfl) z s (fun _ _ _=>id) (fun w s=>r_ld1 t13 ((Ak.agr ((hMd.step s).a00 (Enc.rd_lt Aa)) Ap).fld 1 1 (Nat.le_of_ble_eq_true z)) k z z) fun a k=>dt k 6 z (by kernel_rfl) z s (fun _ _ _=>id) (fun w s=>r_fa fa58_0 k z z) fun a k=>dt k 7 z (by kernel_rfl) z s (fun _ _ _=>id) (fun w s=>r_ld1 t155 (r:=[]) (Ab.at ((hMd.step s).a00 Ab.lt1) 0 1 z z z) k z z) fun a k=>dt k 8 z (by kernel_rfl) z s (fun _ _ _=>id) (fun w s=>r_ld1 t163 (r:=[]) (Ah.at ((hMd.step s).a00 Ah.lt1) 0 1 z z z) k z z) fun a k=>oE h fun Ax Af h=>dt k 9 z (by kernel_rfl) z s (fun _ _ _=>id) (fun w s=>r_ixa Ac Af k ts63 z z z) fun a k=>?_
 refine dt k 10 z (by kernel_rfl) z s (fun _ _ _=>id) (fun w s=>r_lde1 Ac ((hMd.step s).a00 (Enc.rd_lt Ac)) Af 0 t13 k z z z z) fun a k=>oE h fun Ba Ad h=>dt k 11 z (by kernel_rfl) z s (fun _ _ _=>id) (fun w s=>r_ixa Aa Ad k ts55 z z z) fun a k=>dt k 12 z (by kernel_rfl) z s (fun _ _ _=>id) (fun w s=>r_fa fa83_1 k z z) fun a k=>?_
 obtain ⟨Az,Bb,Au,Am,Ar,As⟩:=rd_get Aa (ix_some Ad).2.2
 obtain ⟨Aw,_,rfl,rfl,Be⟩:=Am
 refine dt k 13 z (by kernel_rfl) z s (fun _ _ _=>id) (fun w s=>r_ld1 t13 ((Ar.agr ((hMd.step s).a00 (Enc.rd_lt Aa)) As).fld 1 1 (Nat.le_of_ble_eq_true z)) k z z) fun a k=>dN [14,15] 2 z k (by kernel_rfl) z s (fun _ _ _ _ _=>id) fun a k=>d_done (by kernel_rfl) ((nm_then ?_))
 refine wp_ret (fS h k m z z)
theorem c_impl_spotFault (fu:Nat) {w0:World} (r1:Request) (x5:Plan) {Bl:List Value} {F3:List Nat} (Bv:rd w0 F3 Bl r1) {Bm:List Value} {F7:List Nat} (Cb:rd w0 F7 Bm x5) {r:Int}
    (h:d_impl_spotFault fu r1 x5 = some r) :
    Calls Tryz.prog 125 #[.agg Bl.toArray,.agg Bm.toArray] w0 fun e w=>e = .returned (I r) ∧ Ext [] w0 w:=by
 refine enter (vs:=[_,_]) func125 z ntmps125 z fun a k=>?_
 have m:=St.start w0
 obtain ⟨v9,Ex,Bd,Dw,Bg,Em,rfl,rfl,Ba,Ay,Aw⟩:=Bv
 obtain ⟨Ax,Er,Bf,Ed,rfl,rfl,Ad,Aa⟩:=Cb
 unfold d_impl_spotFault at h
 refine wr (s_box (cs:=[I r1.fWay,I r1.fPallet.fW,I r1.fPallet.fD,I r1.fPallet.fH,I r1.fPallet.fGram,I r1.fClasses,v9,Bd,I r1.fMaster,Bg]) m k z z z z z z fun Ac Ak a k m e Au=>s_box (cs:=[Ax,Bf]) m k z z z z z z fun Ab Al a k m e Ai=>pN 1 k z fun a k=>nn (wr (s_bs (cs:=[]) (ps:=[]) te149 m k z z z z z z z (by decide) z (by exact (List.forall_mem_nil _)) fun Bq Cg Ee a k m e Cv=>?_)))
 have Dl:=ow_bx Cv ([]:List Box) z z z
 refine pN 1 k z fun a k=>nn (wp_seq (wr (sv k z (r_fa fa58_0 k z z) fun a k=>sv k z (r_ldb t155 m 1 Ai 0 k z z z z z) fun a k=>sv k z (r_len (α:=Carton) Ad k underlying55 z z) fun a k=>pN 1 k z fun a k=>nn (wp_block (c_loop (fun n a w=>∃ (Ah:List Box) (As:Value) (At:List Nat) (Aq:World) (Az:Int),K 96 [(2,.pointer (some (⟨Ac,0,none⟩:Addr))),(3,.pointer (some (⟨Ab,0,none⟩:Addr))),(5,As),(15,Ax),(16,I ((x5.fCartons.length:Int))),(17,I Az)] a ∧ St [] w0 w [([Ac],Ak),([Ab],Al),(At,Aq)] ∧ ow Aq At [As] Ah ∧ d_impl_spotFault_L4 fu r1 x5 n Ah Az = some r) ?_ ?_ fu _ _ ?_)))))
 · rintro a w ⟨_,_,_,_,_,_,_,_,h⟩
   exact nS h
 · rintro Du a El ⟨Ah,As,At,Aq,Az,k,m,Am,h⟩
   rw [d_impl_spotFault_L4_s] at h
   unfold d_impl_spotFault_L4_B at h
   refine wr (pN 1 k z fun a k=>nn (wp_seq (cI h k z (fun Cr h=>?_) fun Cr h=>?_)))
   · refine wp_skip (nm_then ?_)
     refine wp_seq (wp_block (wr (pN 1 k z fun a k=>oE h fun Ar Bk h=>sv k z (r_ixa Ad Bk k ts55 z z z) fun a k=>?_)))
     obtain ⟨Eu,Fa,En,Dp,Dg,Co⟩:=rd_get Ad (ix_some Bk).2.2
     obtain ⟨Bj,_,rfl,rfl,Be⟩:=Dp
     refine sv k z (r_ldA ta83 (Dg.agr (m.a00 (Enc.rd_lt Ad)) Co) z k z z) fun a k=>s_alloc (cs:=[I 0,I 0,.slice none 0 0]) m k zeroValue83 z z z z z fun Ev Ep a k m e Cz=>pN 1 k z fun a k=>s_stb (cs':=[I Ar.fType,I Ar.fGroup,Bj]) sizeOf83 m 0 Cz 0 k z z z z z z z z z z (allc z (allc z (allc (rd_o Be) alln))) fun Ek a k e m Dm=>nn (wr (sv k z (r_ldB ta38 m 1 Au 0 k z z z z z z) fun a k=>sv k z (r_ldB ta83 m 0 Dm 0 k z z z z z z) fun a k=>oE h fun Ae Da h=>?_))
     refine cE k m call56 z z z (c_impl_BoxOf fu _ _ (show rd _ _ [I r1.fWay,I r1.fPallet.fW,I r1.fPallet.fD,I r1.fPallet.fH,I r1.fPallet.fGram,I r1.fClasses,v9,Bd,I r1.fMaster,Bg] (r1:Request) from ⟨_,_,_,_,_,_,z,z,(Enc.rd_agr Ba (m.a00 (Enc.rd_lt Ba))),(Enc.rd_agr Ay (m.a00 (Enc.rd_lt Ay))),(Enc.rd_agr Aw (m.a00 (Enc.rd_lt Aw)))⟩) (show rd _ _ [I Ar.fType,I Ar.fGroup,Bj] (Ar:Carton) from ⟨_,_,z,z,(Enc.rd_agr Be (m.a00 (Enc.rd_lt Be)))⟩) Da) fun Dt e a k m=>s_alloc (cs:=[I 0,I 0,I 0,I 0]) m k zeroValue86 z z z z z fun Dy Es a k m e Bw=>?_
     refine s_stb (cs':=[I Ae.fW,I Ae.fD,I Ae.fH,I Ae.fGram]) sizeOf86 m 0 Bw 0 k z z z z z z z z z z z fun Ea a k e m Bh=>nn (wp_seq (wp_seq (d_go [] mixo m z fun Dn hMd=>?_)))
     have m:=hMd
     have s:=Ext.refl ([]:List Nat) Dn
     refine dN [5] 1 z k (by kernel_rfl) z s (fun _ _ _ _ _=>id) fun a k=>dt k 0 z (by kernel_rfl) z s (fun _ _ _=>id) (fun w s=>r_fa fa38_1 k z z) fun a k=>dt k 1 z (by kernel_rfl) z s (fun _ _ _=>id) (fun w s=>r_ldA ta33 (Au.at ((hMd.step s).a 2 z) 1 4 z z z) z k z z) fun a k=>dt k 2 z (by kernel_rfl) z s (fun _ _ _=>id) (fun w s=>r_ldA ta86 (Bh.at ((hMd.step s).a 0 z) 0 4 z z z) z k z z) fun a k=>dt k 3 z (by kernel_rfl) z s (fun _ _ _=>id) (fun w s=>r_fa fa58_1 k z z) fun a k=>dt k 4 z (by kernel_rfl) z s (fun _ _ _=>id) (fun w s=>r_ld1 t156 (r:=[]) (Ai.at ((hMd.step s).a 3 z) 1 1 z z z) k z z) fun a k=>oE h fun Dk Bt h=>?_
     refine dt k 6 z (by kernel_rfl) z s (fun _ _ _=>id) (fun w s=>r_ixa Aa Bt k ts56 z z z) fun a k=>dt k 7 z (by kernel_rfl) z s (fun _ _ _=>id) (fun w s=>r_lde Aa ((hMd.step s).a00 (Enc.rd_lt Aa)) Bt ta89 k z z) fun a k=>d_one 8 (by kernel_rfl) z (oE h fun Eb Ce h=>cE k m call55 z z z (c_impl_Within fu (r1.fPallet:Pallet) (Ae:Box) (Dk:Spot)  Ce) fun Fe e a k m=>?_)
     have s:=s.trans e (by simp)
     refine wpList_nil ⟨s,?_⟩
     refine dN [9] 1 z k (by kernel_rfl) z s (fun _ _ _ _ _=>id) fun a k=>d_done (by kernel_rfl) ((nm_then ?_))
     refine cI h k z (fun Df h=>?_) fun Df h=>?_
     · refine wr (pN 1 k z fun a k=>nn (wp_ret (rt_then (rt_block (rt_then (rt_then (rt_block (rt_then ?_))))))))
       refine fS h k m z z
     refine wp_skip (nm_then ?_)
     refine wp_region_lit (pN 1 k z fun a k=>sv k z (r_ldB ta86 m 0 Bh 0 k z z z z z z) fun a k=>s_bs (cs:=[I Ae.fW,I Ae.fD,I Ae.fH,I Ae.fGram]) (ps:=[(0,.tmp 36)]) te149 m k z z z z z z z (by decide) z (by exact (List.forall_mem_cons.2 ⟨z,(List.forall_mem_nil _)⟩)) fun Ds Eh Eo a k m e Cp=>?_)
     have Ca:=ow_bx Cp ([Ae]:List Box) z z z
     refine oE h fun Ct Cd h=>s_appF Cd te149 z m 5 Am (News.rd (Enc.rd_agr (Enc.ow_rd Ca) (m.a 0 z))) z z k z z z z z z z fun De Ck Di a k e m Dq=>pN 1 k z fun a k=>?_
     have k:=k.keep [2,3,15,16,5,17] z
     refine wpList_nil (nm_block (nm_then ?_))
     refine wp_region_lit (pN 2 k z fun a k=>nn ?_)
     exact ⟨Ct,De,Ck,Di,w64 (Az + 1),k.keep [2,3,5,15,16,17] z,m.sel [3,4,5] z (by decide),Dq,h⟩
   refine wp_exit (ex_then (ex_then (ex_same (nm_then ?_))))
   refine wp_seq (wr (pN 1 k z fun a k=>sv k z (r_len (α:=Box) (Enc.ow_rd Am) k underlying149 z z) fun a k=>pN 1 k z fun a k=>nn (wp_block (c_loop (fun n a w=>∃ (Ag:Int),K 96 [(2,.pointer (some (⟨Ac,0,none⟩:Addr))),(3,.pointer (some (⟨Ab,0,none⟩:Addr))),(5,As),(41,I ((Ah.length:Int))),(42,I Ag)] a ∧ St [] w0 w [([Ac],Ak),([Ab],Al),(At,Aq)] ∧ d_impl_spotFault_L3 fu r1 x5 Ah n Ag = some r) ?_ ?_ fu _ _ ?_))))
   · rintro a w ⟨_,_,_,h⟩
     exact nS h
   · rintro Cq a Fg ⟨Ag,k,m,h⟩
     rw [d_impl_spotFault_L3_s] at h
     unfold d_impl_spotFault_L3_B at h
     refine wr (pN 1 k z fun a k=>nn (wp_seq (cI h k z (fun Ch h=>?_) fun Ch h=>?_)))
     · refine wp_skip (nm_then ?_)
       refine wp_seq (wp_block (wr (pN 2 k z fun a k=>nn (wr (pN 2 k z fun a k=>nn (wp_block (c_loop (fun n a w=>∃ (Av:Int),K 96 [(2,.pointer (some (⟨Ac,0,none⟩:Addr))),(3,.pointer (some (⟨Ab,0,none⟩:Addr))),(5,As),(9,I Ag),(41,I ((Ah.length:Int))),(42,I Ag),(45,I Ag),(46,I Av)] a ∧ St [] w0 w [([Ac],Ak),([Ab],Al),(At,Aq)] ∧ d_impl_spotFault_L1 fu (d_impl_spotFault_L3 fu r1 x5 Ah Cq) x5 Ah Ag n Av = some r) ?_ ?_ fu _ _ ?_)))))))
       · rintro a w ⟨_,_,_,h⟩
         exact nS h
       · rintro Fd a Ej ⟨Av,k,m,h⟩
         rw [d_impl_spotFault_L1_s] at h
         unfold d_impl_spotFault_L1_B at h
         refine wr (pN 1 k z fun a k=>nn (wp_seq (cI h k z (fun Do h=>?_) fun Do h=>?_)))
         · refine wp_skip (nm_then ?_)
           refine wp_seq (wp_block (wr (pN 2 k z fun a k=>nn (wp_seq (d_go [] mixo m z fun Dh hMd=>?_)))))
           have m:=hMd
           have s:=Ext.refl ([]:List Nat) Dh
           refine dN [0,1,6,9,10,15] 6 z k (by kernel_rfl) z s (fun _ _ _ _ _=>id) fun a k=>oE h fun Cu Br h=>dt k 2 z (by kernel_rfl) z s (fun _ _ _=>id) (fun w s=>r_ixa (Enc.ow_rd Am) Br k ts149 z z z) fun a k=>dt k 3 z (by kernel_rfl) z s (fun _ _ _=>id) (fun w s=>r_lde (Enc.ow_rd Am) ((hMd.step s).a 2 z) Br ta86 k z z) fun a k=>dt k 4 z (by kernel_rfl) z s (fun _ _ _=>id) (fun w s=>r_fa fa58_1 k z z) fun a k=>dt k 5 z (by kernel_rfl) z s (fun _ _ _=>id) (fun w s=>r_ld1 t156 (r:=[]) (Ai.at ((hMd.step s).a 1 z) 1 1 z z z) k z z) fun a k=>oE h fun Bz Bu h=>dt k 7 z (by kernel_rfl) z s (fun _ _ _=>id) (fun w s=>r_ixa Aa Bu k ts56 z z z) fun a k=>?_
           refine dt k 8 z (by kernel_rfl) z s (fun _ _ _=>id) (fun w s=>r_lde Aa ((hMd.step s).a00 (Enc.rd_lt Aa)) Bu ta89 k z z) fun a k=>oE h fun Ci Bn h=>dt k 11 z (by kernel_rfl) z s (fun _ _ _=>id) (fun w s=>r_ixa (Enc.ow_rd Am) Bn k ts149 z z z) fun a k=>dt k 12 z (by kernel_rfl) z s (fun _ _ _=>id) (fun w s=>r_lde (Enc.ow_rd Am) ((hMd.step s).a 2 z) Bn ta86 k z z) fun a k=>dt k 13 z (by kernel_rfl) z s (fun _ _ _=>id) (fun w s=>r_fa fa58_1 k z z) fun a k=>dt k 14 z (by kernel_rfl) z s (fun _ _ _=>id) (fun w s=>r_ld1 t156 (r:=[]) (Ai.at ((hMd.step s).a 1 z) 1 1 z z z) k z z) fun a k=>oE h fun Cf Bp h=>dt k 16 z (by kernel_rfl) z s (fun _ _ _=>id) (fun w s=>r_ixa Aa Bp k ts56 z z z) fun a k=>?_
           refine dt k 17 z (by kernel_rfl) z s (fun _ _ _=>id) (fun w s=>r_lde Aa ((hMd.step s).a00 (Enc.rd_lt Aa)) Bp ta89 k z z) fun a k=>d_one 18 (by kernel_rfl) z (oE h fun Ef Cx h=>cE k m call57 z z z (c_impl_Overlap fu (Cu:Box) (Bz:Spot) (Ci:Box) (Cf:Spot)  Cx) fun Eg e a k m=>?_)
           have s:=s.trans e (by simp)
           refine wpList_nil ⟨s,?_⟩
           refine d_done (by kernel_rfl) ((nm_then ?_))
           refine cI h k z (fun Dc h=>?_) fun Dc h=>?_
           · refine wr (pN 1 k z fun a k=>nn (wp_ret (rt_block (rt_then (rt_then (rt_block (rt_block (rt_then (rt_then (rt_block (rt_then ?_)))))))))))
             refine fS h k m z z
           refine wp_skip (nm_block (nm_then ?_))
           refine wp_region_lit (pN 2 k z fun a k=>nn ?_)
           exact ⟨w64 (Av + 1),k.keep [2,3,5,9,41,42,45,46] z,m.sel [0,1,2] z (by decide),h⟩
         refine wp_exit (ex_then (ex_then (ex_same (nm_block (nm_then ?_)))))
         refine wp_region_lit (pN 2 k z fun a k=>nn ?_)
         exact ⟨w64 (Ag + 1),k.keep [2,3,5,41,42] z,m.sel [0,1,2] z (by decide),h⟩
       exact ⟨0,k.keep [2,3,5,9,41,42,45,46] z,m.sel [0,1,2] z (by decide),h⟩
     refine wp_exit (ex_then (ex_then (ex_same (nm_then ?_))))
     refine wp_seq (wr (sv k z (r_fa fa58_1 k z z) fun a k=>sv k z (r_ldb t156 m 1 Ai 1 k z z z z z) fun a k=>oE h fun Ao Cs h=>cE k m call58 z z z (c_impl_Pallets fu _ (Enc.rd_agr Aa (m.a00 (Enc.rd_lt Aa))) Cs) fun Ec e a k m=>pN 1 k z fun a k=>nn (wp_block (c_loop (fun n a w=>∃ (Af:Int),K 96 [(2,.pointer (some (⟨Ac,0,none⟩:Addr))),(3,.pointer (some (⟨Ab,0,none⟩:Addr))),(72,I Ao),(73,I Af)] a ∧ St [] w0 w [([Ac],Ak),([Ab],Al)] ∧ d_impl_spotFault_L2 fu r1 x5 Ao n Af = some r) ?_ ?_ fu _ _ ?_))))
     · rintro a w ⟨_,_,_,h⟩
       exact nS h
     · rintro Bs a Fb ⟨Af,k,m,h⟩
       rw [d_impl_spotFault_L2_s] at h
       unfold d_impl_spotFault_L2_B at h
       refine wr (pN 1 k z fun a k=>nn (wp_seq (cI h k z (fun Cw h=>?_) fun Cw h=>?_)))
       · refine wp_skip (nm_then ?_)
         refine c_cut (fun a w=>K 96 [(2,.pointer (some (⟨Ac,0,none⟩:Addr))),(3,.pointer (some (⟨Ab,0,none⟩:Addr))),(72,I Ao),(73,I Af)] a ∧ St [] w0 w [([Ac],Ak),([Ab],Al)] ∧ d_impl_spotFault_J1 fu (d_impl_spotFault_L2 fu r1 x5 Ao Bs) Af = some r) ?_ ?_
         · rintro a Ff ⟨k,m,h⟩
           unfold d_impl_spotFault_J1 at h
           refine wp_region_lit (pN 2 k z fun a k=>nn ?_)
           exact ⟨w64 (Af + 1),k.keep [2,3,72,73] z,m.sel [0,1] z (by decide),h⟩
         refine wp_block (wr (pN 2 k z fun a k=>nn (wr (sv k z (r_ldB ta58 m 1 Ai 0 k z z z z z z) fun a k=>pN 1 k z fun a k=>oE h fun Bo By h=>s_call k call60 z z z z z (c_impl_OnPallet fu _ _ (show rd _ _ [Ax,Bf] (x5:Plan) from ⟨_,_,_,_,z,z,(Enc.rd_agr Ad (m.a00 (Enc.rd_lt Ad))),(Enc.rd_agr Aa (m.a00 (Enc.rd_lt Aa)))⟩) By) fun Dz Cl hR=>?_))))
         obtain ⟨Db,Bi,rfl,e,Aj,Cm⟩:=hR
         refine ⟨_,z,fun a k=>?_⟩
         have m:=m.new e Bi (fun b hb=>⟨Cm b hb,Enc.rd_lt (Enc.ow_rd Aj) b hb⟩) (Enc.ow_nd Aj)
         refine s_alloc (cs:=[.slice none 0 0]) m k zeroValue63 z z z z z fun Bb Dv a k m e Bx=>s_stb1 (cs':=[Db]) sizeOf63 m 0 Bx 0 k (rd_c (Enc.ow_rd Aj)) (rd_o (Enc.ow_rd Aj)) z z z z z z z z z fun Cj a k e m Bc=>nn (c_cut (fun a w=>K 96 [(2,.pointer (some (⟨Ac,0,none⟩:Addr))),(3,.pointer (some (⟨Ab,0,none⟩:Addr))),(12,.pointer (some (⟨Bb,0,none⟩:Addr))),(72,I Ao),(73,I Af)] a ∧ St [] w0 w [([Ac],Ak),([Ab],Al),([Bb],Cj),(Bi,Cl)] ∧ d_impl_spotFault_J2 fu (d_impl_spotFault_L2 fu r1 x5 Ao Bs) x5 Af Bo = some r) ?_ ?_)
         · rintro a Ez ⟨k,m,h⟩
           unfold d_impl_spotFault_J2 at h
           refine wr (sv k z (r_ldb t163 m 2 Bc 0 k z z z z z) fun a k=>pN 1 k z fun a k=>oE h fun Ei Dr h=>cE k m call172 z z z (c_slices_ContainsFunc_int_int fu _ _ (Enc.rd_agr (Enc.ow_rd Aj) (m.a 3 z)) ⟨227,[.pointer (some (⟨Ab,0,none⟩:Addr)),.pointer (some (⟨Bb,0,none⟩:Addr))],z,call227,fun w Dx Fc r e Cy hx=>by subst Cy; have m:=m.step e; exact c_impl_spotFault_1 fu _ _ _ (Ai.agr (m.a 1 rfl) (by simp)) (Enc.rd_agr Ad (m.a00 (Enc.rd_lt Ad))) (Enc.rd_agr Aa (m.a00 (Enc.rd_lt Aa))) (Bc.agr (m.a 2 rfl) (by simp)) (Enc.rd_agr (Enc.ow_rd Aj) (m.a 3 rfl)) hx⟩ Dr) fun Et e a k m=>nn (cI h k rfl (fun Cc h=>?_) fun Cc h=>?_))
           · refine wr (pN 1 k z fun a k=>nn (wp_ret (rt_block (rt_then (rt_then (rt_block (rt_then ?_)))))))
             refine fS h k m z z
           refine wp_skip (nm_block (nm_then ?_))
           exact ⟨k.keep [2,3,72,73] z,m.sel [0,1] z (by decide),h⟩
         refine wp_seq (d_go [] mixo m z fun Cn hMd=>?_)
         have m:=hMd
         have s:=Ext.refl ([]:List Nat) Cn
         refine dt k 0 z (by kernel_rfl) z s (fun _ _ _=>id) (fun w s=>r_ld1 t163 (r:=[]) (Bc.at ((hMd.step s).a 0 z) 0 1 z z z) k z z) fun a k=>dt k 1 z (by kernel_rfl) z s (fun _ _ _=>id) (fun w s=>r_len (α:=Int) (Enc.ow_rd Aj) k underlying63 z z) fun a k=>dN [2,3] 2 z k (by kernel_rfl) z s (fun _ _ _ _ _=>id) fun a k=>bsplit (((Bo.length:Int)) == 0) (fun Ap=>?_) (fun Ap=>?_)
         · have h:=bif_t Ap h
           refine rB k 82 z Ap fun k=>dN [4,5,6,7,8,9,10,11,12] 9 z k (by kernel_rfl) z s (fun _ _ _ _ _=>id) fun a k=>d_done (by kernel_rfl) ((nm_then ?_))
           refine wp_cond_true (k.ev z) (wr (pN 1 k z fun a k=>nn (wp_ret (rt_then (rt_block (rt_then (rt_then (rt_block (rt_then ?_)))))))))
           refine fS h k m z z
         have h:=bif_f Ap h
         refine rB k 82 z Ap fun k=>dN [6] 1 z k (by kernel_rfl) z s (fun _ _ _ _ _=>id) fun a k=>dt k 4 z (by kernel_rfl) z s (fun _ _ _=>id) (fun w s=>r_ldA ta38 (Au.at ((hMd.step s).a 2 z) 0 10 z z z) z k z z) fun a k=>dt k 5 z (by kernel_rfl) z s (fun _ _ _=>id) (fun w s=>r_ldA ta58 (Ai.at ((hMd.step s).a 3 z) 0 2 z z z) z k z z) fun a k=>dt k 8 z (by kernel_rfl) z s (fun _ _ _=>id) (fun w s=>r_fa fa38_1 k z z) fun a k=>dt k 9 z (by kernel_rfl) z s (fun _ _ _=>id) (fun w s=>r_fa fa33_3 k z z) fun a k=>dt k 10 z (by kernel_rfl) z s (fun _ _ _=>id) (fun w s=>r_ld1 t13 (r:=[]) (Au.at ((hMd.step s).a 2 z) 4 1 z z z) k z z) fun a k=>d_one 7 (by kernel_rfl) z (oE h fun Ew Dj h=>?_)
         refine cE k m call59 z z z (c_impl_PalletGram fu _ _ _ (show rd _ _ [I r1.fWay,I r1.fPallet.fW,I r1.fPallet.fD,I r1.fPallet.fH,I r1.fPallet.fGram,I r1.fClasses,v9,Bd,I r1.fMaster,Bg] (r1:Request) from ⟨_,_,_,_,_,_,z,z,(Enc.rd_agr Ba (m.a00 (Enc.rd_lt Ba))),(Enc.rd_agr Ay (m.a00 (Enc.rd_lt Ay))),(Enc.rd_agr Aw (m.a00 (Enc.rd_lt Aw)))⟩) (show rd _ _ [Ax,Bf] (x5:Plan) from ⟨_,_,_,_,z,z,(Enc.rd_agr Ad (m.a00 (Enc.rd_lt Ad))),(Enc.rd_agr Aa (m.a00 (Enc.rd_lt Aa)))⟩) Dj) fun Ey e a k m=>?_
         have s:=s.trans e (by simp)
         refine wpList_nil ⟨s,?_⟩
         refine dN [11,12] 2 z k (by kernel_rfl) z s (fun _ _ _ _ _=>id) fun a k=>d_done (by kernel_rfl) ((nm_then ?_))
         refine cI h k z (fun Dd h=>?_) fun Dd h=>?_
         · refine wr (pN 1 k z fun a k=>nn (wp_ret (rt_then (rt_block (rt_then (rt_then (rt_block (rt_then ?_))))))))
           refine fS h k m z z
         refine wp_skip (nm_then ?_)
         exact ⟨k.keep [2,3,12,72,73] z,m.sel [2,3,0,1] z (by decide),h⟩
       refine wp_exit (ex_then (ex_then (ex_same (nm_then ?_))))
       refine wr (pN 1 k z fun a k=>nn (wp_ret (fS h k m z z)))
     exact ⟨0,k.keep [2,3,72,73] z,m.sel [0,1] z (by decide),h⟩
   exact ⟨0,k.keep [2,3,5,41,42] z,m.sel [0,1,2] z (by decide),h⟩
 exact ⟨([]:List Box),(.slice (some ⟨Bq,0,none⟩) 0 0),[Bq],Cg,0,k.keep [2,3,5,15,16,17] z,m.sel [2,1,0] z (by decide),Dl,h⟩
theorem c_impl_Check (fu:Nat) {w0:World} (r1:Request) (x5:Plan) {At:List Value} {F3:List Nat} (Bd:rd w0 F3 At r1) {Av:List Value} {F7:List Nat} (Bf:rd w0 F7 Av x5) {r:Int}
    (h:d_impl_Check fu r1 x5 = some r) :
    Calls Tryz.prog 35 #[.agg At.toArray,.agg Av.toArray] w0 fun e w=>e = .returned (I r) ∧ Ext [] w0 w:=by
 refine enter (vs:=[_,_]) func35 z ntmps35 z fun a k=>?_
 have m:=St.start w0
 obtain ⟨v9,Cs,Ag,Cb,Aj,Cg,rfl,rfl,Ad,Ac,Ab⟩:=Bd
 obtain ⟨Ah,Ch,Ai,Cd,rfl,rfl,Aa,Ae⟩:=Bf
 unfold d_impl_Check at h
 refine wr (s_box (cs:=[I r1.fWay,I r1.fPallet.fW,I r1.fPallet.fD,I r1.fPallet.fH,I r1.fPallet.fGram,I r1.fClasses,v9,Ag,I r1.fMaster,Aj]) m k z z z z z z fun Au Bb a k m e Al=>s_box (cs:=[Ah,Ai]) m k z z z z z z fun As Bh a k m e Af=>pN 1 k z fun a k=>nn (wp_seq (wr (sv k z (r_ldB ta38 m 1 Al 0 k z z z z z z) fun a k=>oE h fun Cq Ba h=>?_))))
 refine cE k m call115 z z z (c_impl_sound fu _ (show rd _ _ [I r1.fWay,I r1.fPallet.fW,I r1.fPallet.fD,I r1.fPallet.fH,I r1.fPallet.fGram,I r1.fClasses,v9,Ag,I r1.fMaster,Aj] (r1:Request) from ⟨_,_,_,_,_,_,z,z,(Enc.rd_agr Ad (m.a00 (Enc.rd_lt Ad))),(Enc.rd_agr Ac (m.a00 (Enc.rd_lt Ac))),(Enc.rd_agr Ab (m.a00 (Enc.rd_lt Ab)))⟩) Ba) fun By e a k m=>pN 1 k z fun a k=>nn (cI h k z (fun Bo h=>?_) fun Bo h=>?_)
 · refine wr (pN 1 k z fun a k=>nn (wp_ret (rt_then ?_)))
   refine fS h k m z z
 refine wp_skip (nm_then ?_)
 refine c_cut (fun a w=>K 38 [(2,.pointer (some (⟨Au,0,none⟩:Addr))),(3,.pointer (some (⟨As,0,none⟩:Addr)))] a ∧ St [] w0 w [([Au],Bb),([As],Bh)] ∧ d_impl_Check_J1 fu r1 x5 = some r) ?_ ?_
 · rintro a Ct ⟨k,m,h⟩
   unfold d_impl_Check_J1 at h
   refine wr (sv k z (r_ldB ta58 m 1 Af 0 k z z z z z z) fun a k=>oE h fun Db Aw h=>s_call k call119 z z z z z (c_impl_allUnits fu _ (show rd _ _ [Ah,Ai] (x5:Plan) from ⟨_,_,_,_,z,z,(Enc.rd_agr Aa (m.a00 (Enc.rd_lt Aa))),(Enc.rd_agr Ae (m.a00 (Enc.rd_lt Ae)))⟩) Aw) fun Bz Cw hR=>?_)
   obtain ⟨Ci,Bg,rfl,e,Ap,Bc⟩:=hR
   refine ⟨_,z,fun a k=>?_⟩
   have m:=m.new e Bg (fun b hb=>⟨Bc b hb,Enc.rd_lt (Enc.ow_rd Ap) b hb⟩) (Enc.ow_nd Ap)
   refine pN 1 k z fun a k=>nn (wr (pN 1 k z fun a k=>oE h fun Cj Bj h=>s_call k call120 z z z z z (c_slices_Sort_int_int fu _ (Enc.ow_agr Ap (m.a 0 z)) Bj) fun Cu Cc hR=>?_))
   obtain ⟨Cy,rfl,e,Bq,Ao⟩:=hR
   refine ⟨_,z,fun a k=>?_⟩
   have m:=m.mut 0 z e _ (fun b hb=>⟨Bq b hb,Enc.rd_lt (Enc.ow_rd Ao) b hb⟩) (Enc.ow_nd Ao)
   refine nn (wp_seq (wr (pN 1 k z fun a k=>sv k z (r_ldB ta38 m 1 Al 0 k z z z z z z) fun a k=>oE h fun Dd Bt h=>s_call k call123 z z z z z (c_impl_Units fu _ (show rd _ _ [I r1.fWay,I r1.fPallet.fW,I r1.fPallet.fD,I r1.fPallet.fH,I r1.fPallet.fGram,I r1.fClasses,v9,Ag,I r1.fMaster,Aj] (r1:Request) from ⟨_,_,_,_,_,_,z,z,(Enc.rd_agr Ad (m.a00 (Enc.rd_lt Ad))),(Enc.rd_agr Ac (m.a00 (Enc.rd_lt Ac))),(Enc.rd_agr Ab (m.a00 (Enc.rd_lt Ab)))⟩) Bt) fun Cp Ck hR=>?_)))
   obtain ⟨Ca,Ay,rfl,e,Ar,Bi⟩:=hR
   refine ⟨_,z,fun a k=>?_⟩
   have m:=m.new e Ay (fun b hb=>⟨Bi b hb,Enc.rd_lt (Enc.ow_rd Ar) b hb⟩) (Enc.ow_nd Ar)
   refine sv k z (r_len (α:=Int) (Enc.ow_rd Ar) k underlying63 z z) fun a k=>oE h fun Bw Bu h=>s_call k call122 z z z z z (c_impl_places fu _  Bu) fun Cl Cv hR=>?_
   obtain ⟨Ce,Bn,rfl,e,Am,Az⟩:=hR
   refine ⟨_,z,fun a k=>?_⟩
   have m:=m.new e Bn (fun b hb=>⟨Az b hb,Enc.rd_lt (Enc.ow_rd Am) b hb⟩) (Enc.ow_nd Am)
   refine oE h fun De Br h=>cE k m call121 z z z (c_slices_Equal_int_int fu _ _ (Enc.rd_agr (Enc.ow_rd Ao) (m.a 2 z)) (Enc.rd_agr (Enc.ow_rd Am) (m.a 0 z)) Br) fun Cm e a k m=>pN 1 k z fun a k=>nn (cI h k z (fun Bv h=>?_) fun Bv h=>?_)
   · refine wr (pN 1 k z fun a k=>nn (wp_ret (rt_then ?_)))
     refine fS h k m z z
   refine wp_skip (nm_then ?_)
   refine wp_seq (wr (sv k z (r_ldB ta38 m 3 Al 0 k z z z z z z) fun a k=>sv k z (r_ldB ta58 m 4 Af 0 k z z z z z z) fun a k=>oE h fun Da Bm h=>cE k m call124 z z z (c_impl_cartonFault fu _ _ (show rd _ _ [I r1.fWay,I r1.fPallet.fW,I r1.fPallet.fD,I r1.fPallet.fH,I r1.fPallet.fGram,I r1.fClasses,v9,Ag,I r1.fMaster,Aj] (r1:Request) from ⟨_,_,_,_,_,_,z,z,(Enc.rd_agr Ad (m.a00 (Enc.rd_lt Ad))),(Enc.rd_agr Ac (m.a00 (Enc.rd_lt Ac))),(Enc.rd_agr Ab (m.a00 (Enc.rd_lt Ab)))⟩) (show rd _ _ [Ah,Ai] (x5:Plan) from ⟨_,_,_,_,z,z,(Enc.rd_agr Aa (m.a00 (Enc.rd_lt Aa))),(Enc.rd_agr Ae (m.a00 (Enc.rd_lt Ae)))⟩) Bm) fun Cr e a k m=>pN 1 k z fun a k=>nn (wr (pN 2 k z fun a k=>nn ?_))))
   refine cI h k z (fun Ax h=>?_) fun Ax h=>?_
   · refine wr (pN 2 k z fun a k=>nn (wp_ret (rt_then ?_)))
     refine fS h k m z z
   refine wp_skip (nm_then ?_)
   refine wr (sv k z (r_ldB ta38 m 3 Al 0 k z z z z z z) fun a k=>sv k z (r_ldB ta58 m 4 Af 0 k z z z z z z) fun a k=>oE h fun Cf Be h=>cE k m call125 z z z (c_impl_spotFault fu _ _ (show rd _ _ [I r1.fWay,I r1.fPallet.fW,I r1.fPallet.fD,I r1.fPallet.fH,I r1.fPallet.fGram,I r1.fClasses,v9,Ag,I r1.fMaster,Aj] (r1:Request) from ⟨_,_,_,_,_,_,z,z,(Enc.rd_agr Ad (m.a00 (Enc.rd_lt Ad))),(Enc.rd_agr Ac (m.a00 (Enc.rd_lt Ac))),(Enc.rd_agr Ab (m.a00 (Enc.rd_lt Ab)))⟩) (show rd _ _ [Ah,Ai] (x5:Plan) from ⟨_,_,_,_,z,z,(Enc.rd_agr Aa (m.a00 (Enc.rd_lt Aa))),(Enc.rd_agr Ae (m.a00 (Enc.rd_lt Ae)))⟩) Be) fun Co e a k m=>pN 1 k z fun a k=>nn (wp_ret (fS h k m z z)))
 refine wr (sv k z (r_ldB ta58 m 0 Af 0 k z z z z z z) fun a k=>oE h fun Bl Bs h=>cE k m call116 z z z (c_impl_PlanOk fu _ (show rd _ _ [Ah,Ai] (x5:Plan) from ⟨_,_,_,_,z,z,(Enc.rd_agr Aa (m.a00 (Enc.rd_lt Aa))),(Enc.rd_agr Ae (m.a00 (Enc.rd_lt Ae)))⟩) Bs) fun Bx e a k m=>pN 2 k z fun a k=>bsplit (!Bl) (fun Ak=>?_) (fun Ak=>?_))
 · have h:=bif_t Ak h
   refine rB k 13 z Ak fun k=>pN 4 k z fun a k=>nn (wp_cond_true (k.ev z) (wr (pN 1 k z fun a k=>nn (wp_ret (rt_then ?_)))))
   refine fS h k m z z
 have h:=bif_f Ak h
 refine rB k 13 z Ak fun k=>sv k z (r_fa fa58_0 k z z) fun a k=>sv k z (r_ldb t155 m 0 Af 0 k z z z z z) fun a k=>oE h fun Cz Bk h=>cE k m call117 z z z (c_slices_ContainsFunc_impl_Carton_impl_Carton fu _ _ (Enc.rd_agr Aa (m.a00 (Enc.rd_lt Aa))) ⟨118,[],z,call118,fun w Cx Dc r e Aq hx=>by obtain ⟨_,_,rfl,Aq⟩:=Aq; have m:=m.step e; exact c_impl_Check_1 fu _ Aq hx⟩ Bk) fun Cn e a k m=>pN 1 k z fun a k=>nn (cI h k z (fun Bp h=>?_) fun Bp h=>?_)
 · refine wr (pN 1 k z fun a k=>nn (wp_ret (rt_then ?_)))
   refine fS h k m z z
 refine wp_skip (nm_then ?_)
 exact ⟨k.keep [2,3] z,m.sel [1,0] z (by decide),h⟩
theorem c_impl_Feasible (fu:Nat) {w0:World} (r1:Request) (x5:Plan) {Ah:List Value} {F3:List Nat} (Am:rd w0 F3 Ah r1) {Ac:List Value} {F7:List Nat} (Aq:rd w0 F7 Ac x5) {r:Bool}
    (h:d_impl_Feasible fu r1 x5 = some r) :
    Calls Tryz.prog 38 #[.agg Ah.toArray,.agg Ac.toArray] w0 fun e w=>e = .returned (.bool (r)) ∧ Ext [] w0 w:=by
 refine enter (vs:=[_,_]) func38 z ntmps38 z fun a k=>?_
 have m:=St.start w0
 obtain ⟨v9,Ay,Aj,Av,Ai,Aw,rfl,rfl,Ad,Aa,Ag⟩:=Am
 obtain ⟨Ak,Az,Af,Ba,rfl,rfl,Ab,Ae⟩:=Aq
 unfold d_impl_Feasible at h
 refine wr (s_box (cs:=[I r1.fWay,I r1.fPallet.fW,I r1.fPallet.fD,I r1.fPallet.fH,I r1.fPallet.fGram,I r1.fClasses,v9,Aj,I r1.fMaster,Ai]) m k z z z z z z fun Ar As a k m e Ao=>s_box (cs:=[Ak,Af]) m k z z z z z z fun Au Bb a k m e Ap=>pN 1 k z fun a k=>nn (wr (sv k z (r_ldB ta38 m 1 Ao 0 k z z z z z z) fun a k=>sv k z (r_ldB ta58 m 0 Ap 0 k z z z z z z) fun a k=>oE h fun Ax Al h=>?_)))
 refine cE k m call35 z z z (c_impl_Check fu _ _ (show rd _ _ [I r1.fWay,I r1.fPallet.fW,I r1.fPallet.fD,I r1.fPallet.fH,I r1.fPallet.fGram,I r1.fClasses,v9,Aj,I r1.fMaster,Ai] (r1:Request) from ⟨_,_,_,_,_,_,z,z,(Enc.rd_agr Ad (m.a00 (Enc.rd_lt Ad))),(Enc.rd_agr Aa (m.a00 (Enc.rd_lt Aa))),(Enc.rd_agr Ag (m.a00 (Enc.rd_lt Ag)))⟩) (show rd _ _ [Ak,Af] (x5:Plan) from ⟨_,_,_,_,z,z,(Enc.rd_agr Ab (m.a00 (Enc.rd_lt Ab))),(Enc.rd_agr Ae (m.a00 (Enc.rd_lt Ae)))⟩) Al) fun At e a k m=>pN 2 k z fun a k=>nn (wp_ret (fS h k m z z))

end Go.Proofs.YtkkfmjpbiimkbaaGreat
