/- FnExactFeasible: the walks of functions that it reaches (ExactFeasibleBWi,part 3). Printed by gen.py. -/
import Derived.Test.YtkkfmjpbiimkbaaGreatExactFeasibleBWi2
set_option maxRecDepth 20000
set_option linter.unusedSimpArgs false
set_option linter.unusedVariables false
namespace Go.Proofs.YtkkfmjpbiimkbaaGreat
open Go Go.RowKit
open Enc (rd ow)
open Arg (argv)
open Ret (retv)
open Go.Proofs.Tryz

theorem c_impl_placed (fu:Nat) {w0:World} (b1:Box) (Aa:Spot)  {r:Bool}
    (h:d_impl_placed fu b1 Aa = some r) :
    Calls Tryz.prog 156 #[.agg (Flat.e (b1)).toArray,.agg (Flat.e (Aa)).toArray] w0 fun e w=>e = .returned (.bool (r)) ∧ Ext [] w0 w:=by
 refine enter (vs:=[_,_]) func156 z ntmps156 z fun a k=>?_
 have m:=St.start w0
 unfold d_impl_placed at h
 refine wr (s_box (cs:=[I b1.fW,I b1.fD,I b1.fH,I b1.fGram]) m k z z z z z z fun b3 w5 a k m e Ag=>s_box (cs:=[I Aa.fPallet,I Aa.fX,I Aa.fY,I Aa.fZ]) m k z z z z z z fun b6 w9 a k m e Ah=>pN 1 k z fun a k=>nn (wr (sv k z (r_fa fa86_0 k z z) fun a k=>sv k z (r_ldb t13 m 1 Ag 0 k z z z z z) fun a k=>oE h fun Ai Aq h=>cE k m call153 z z z (c_impl_isPlace fu _  Aq) fun Au e a k m=>pN 1 k z fun a k=>bsplit (Ai) (fun Ab=>?_) (fun Ab=>?_))))
 · have h:=bif_t Ab h
   refine rB k 8 z Ab fun k=>sv k z (r_fa fa86_1 k z z) fun a k=>sv k z (r_ldb t13 m 1 Ag 1 k z z z z z) fun a k=>oE h fun As Ak h=>cE k m call153 z z z (c_impl_isPlace fu _  Ak) fun Ax e a k m=>pN 2 k z fun a k=>bsplit (As) (fun Ae=>?_) (fun Ae=>?_)
   · have h:=bif_t Ae h
     refine rB k 13 z Ae fun k=>sv k z (r_fa fa86_2 k z z) fun a k=>sv k z (r_ldb t13 m 1 Ag 2 k z z z z z) fun a k=>oE h fun Al Ao h=>cE k m call153 z z z (c_impl_isPlace fu _  Ao) fun Aw e a k m=>pN 2 k z fun a k=>bsplit (Al) (fun Ad=>?_) (fun Ad=>?_)
     · have h:=bif_t Ad h
       refine rB k 18 z Ad fun k=>sv k z (r_fa fa89_1 k z z) fun a k=>sv k z (r_ldb t13 m 0 Ah 1 k z z z z z) fun a k=>oE h fun Ar At h=>cE k m call153 z z z (c_impl_isPlace fu _  At) fun Av e a k m=>pN 2 k z fun a k=>bsplit (Ar) (fun Ac=>?_) (fun Ac=>?_)
       · have h:=bif_t Ac h
         refine rB k 23 z Ac fun k=>sv k z (r_fa fa89_2 k z z) fun a k=>sv k z (r_ldb t13 m 0 Ah 2 k z z z z z) fun a k=>oE h fun Ap Aj h=>cE k m call153 z z z (c_impl_isPlace fu _  Aj) fun Az e a k m=>pN 2 k z fun a k=>bsplit (Ap) (fun Af=>?_) (fun Af=>?_)
         · have h:=bif_t Af h
           refine rB k 28 z Af fun k=>sv k z (r_fa fa89_3 k z z) fun a k=>sv k z (r_ldb t13 m 0 Ah 3 k z z z z z) fun a k=>oE h fun Ay Am h=>cE k m call153 z z z (c_impl_isPlace fu _  Am) fun Ba e a k m=>pN 2 k z fun a k=>?_
           have k:=k.keep [4] z
           refine nn (wp_ret (fS h k m z z))
         have h:=bif_f Af h
         refine rB k 28 z Af fun k=>pN 5 k z fun a k=>?_
         have k:=k.keep [4] z
         refine nn (wp_ret (fS h k m z z))
       have h:=bif_f Ac h
       refine rB k 23 z Ac fun k=>pN 10 k z fun a k=>?_
       have k:=k.keep [4] z
       refine nn (wp_ret (fS h k m z z))
     have h:=bif_f Ad h
     refine rB k 18 z Ad fun k=>pN 15 k z fun a k=>?_
     have k:=k.keep [4] z
     refine nn (wp_ret (fS h k m z z))
   have h:=bif_f Ae h
   refine rB k 13 z Ae fun k=>pN 20 k z fun a k=>?_
   have k:=k.keep [4] z
   refine nn (wp_ret (fS h k m z z))
 have h:=bif_f Ab h
 refine rB k 8 z Ab fun k=>pN 25 k z fun a k=>?_
 have k:=k.keep [4] z
 refine nn (wp_ret (fS h k m z z))
theorem c_impl_cross (fu:Nat) {w0:World} (a1:Int) (Ac:Int) (b3:Int) (Ab:Int)  {r:Bool}
    (h:d_impl_cross fu a1 Ac b3 Ab = some r) :
    Calls Tryz.prog 157 #[I a1,I Ac,I b3,I Ab] w0 fun e w=>e = .returned (.bool (r)) ∧ Ext [] w0 w:=by
 refine enter (vs:=[_,_,_,_]) func157 z ntmps157 z fun a k=>?_
 have m:=St.start w0
 unfold d_impl_cross at h
 refine wr (pN 1 k z fun a k=>nn (wr (pN 6 k z fun a k=>bsplit (decide (a1 < (w64 (b3 + Ab)))) (fun Aa=>?_) (fun Aa=>?_))))
 · have h:=bif_t Aa h
   refine rB k 14 z Aa fun k=>pN 7 k z fun a k=>nn (wp_ret (fS h k m z z))
 have h:=bif_f Aa h
 refine rB k 14 z Aa fun k=>pN 7 k z fun a k=>nn (wp_ret (fS h k m z z))
theorem c_impl_Overlap (fu:Nat) {w0:World} (a1:Box) (Aa:Spot) (b3:Box) (t4:Spot)  {r:Bool}
    (h:d_impl_Overlap fu a1 Aa b3 t4 = some r) :
    Calls Tryz.prog 57 #[.agg (Flat.e (a1)).toArray,.agg (Flat.e (Aa)).toArray,.agg (Flat.e (b3)).toArray,.agg (Flat.e (t4)).toArray] w0 fun e w=>e = .returned (.bool (r)) ∧ Ext [] w0 w:=by
 refine enter (vs:=[_,_,_,_]) func57 z ntmps57 z fun a k=>?_
 have m:=St.start w0
 unfold d_impl_Overlap at h
 refine wr (s_box (cs:=[I a1.fW,I a1.fD,I a1.fH,I a1.fGram]) m k z z z z z z fun b5 w7 a k m e Ah=>s_box (cs:=[I Aa.fPallet,I Aa.fX,I Aa.fY,I Aa.fZ]) m k z z z z z z fun b8 Au a k m e Ae=>s_box (cs:=[I b3.fW,I b3.fD,I b3.fH,I b3.fGram]) m k z z z z z z fun Aj Am a k m e Ai=>s_box (cs:=[I t4.fPallet,I t4.fX,I t4.fY,I t4.fZ]) m k z z z z z z fun Ak Ay a k m e Af=>pN 1 k z fun a k=>nn ?_)
 refine c_cut (fun a w=>K 57 [(4,.pointer (some (⟨b5,0,none⟩:Addr))),(5,.pointer (some (⟨b8,0,none⟩:Addr))),(6,.pointer (some (⟨Aj,0,none⟩:Addr))),(7,.pointer (some (⟨Ak,0,none⟩:Addr)))] a ∧ St [] w0 w [([b5],w7),([b8],Au),([Aj],Am),([Ak],Ay)] ∧ d_impl_Overlap_J1 fu a1 Aa b3 t4 = some r) ?_ ?_
 · rintro a Bc ⟨k,m,h⟩
   unfold d_impl_Overlap_J1 at h
   refine wr (sv k z (r_fa fa89_1 k z z) fun a k=>sv k z (r_ldb t13 m 1 Ae 1 k z z z z z) fun a k=>sv k z (r_fa fa86_0 k z z) fun a k=>sv k z (r_ldb t13 m 0 Ah 0 k z z z z z) fun a k=>sv k z (r_fa fa89_1 k z z) fun a k=>sv k z (r_ldb t13 m 3 Af 1 k z z z z z) fun a k=>sv k z (r_fa fa86_0 k z z) fun a k=>sv k z (r_ldb t13 m 2 Ai 0 k z z z z z) fun a k=>oE h fun Ao As h=>cE k m call157 z z z (c_impl_cross fu _ _ _ _  As) fun Az e a k m=>pN 1 k z fun a k=>bsplit (Ao) (fun Ag=>?_) (fun Ag=>?_))
   · have h:=bif_t Ag h
     refine rB k 35 z Ag fun k=>sv k z (r_fa fa89_2 k z z) fun a k=>sv k z (r_ldb t13 m 1 Ae 2 k z z z z z) fun a k=>sv k z (r_fa fa86_1 k z z) fun a k=>sv k z (r_ldb t13 m 0 Ah 1 k z z z z z) fun a k=>sv k z (r_fa fa89_2 k z z) fun a k=>sv k z (r_ldb t13 m 3 Af 2 k z z z z z) fun a k=>sv k z (r_fa fa86_1 k z z) fun a k=>sv k z (r_ldb t13 m 2 Ai 1 k z z z z z) fun a k=>oE h fun Ax Ap h=>cE k m call157 z z z (c_impl_cross fu _ _ _ _  Ap) fun Be e a k m=>pN 2 k z fun a k=>bsplit (Ax) (fun Ac=>?_) (fun Ac=>?_)
     · have h:=bif_t Ac h
       refine rB k 46 z Ac fun k=>sv k z (r_fa fa89_3 k z z) fun a k=>sv k z (r_ldb t13 m 1 Ae 3 k z z z z z) fun a k=>sv k z (r_fa fa86_2 k z z) fun a k=>sv k z (r_ldb t13 m 0 Ah 2 k z z z z z) fun a k=>sv k z (r_fa fa89_3 k z z) fun a k=>sv k z (r_ldb t13 m 3 Af 3 k z z z z z) fun a k=>sv k z (r_fa fa86_2 k z z) fun a k=>sv k z (r_ldb t13 m 2 Ai 2 k z z z z z) fun a k=>oE h fun Bd Al h=>cE k m call157 z z z (c_impl_cross fu _ _ _ _  Al) fun Bf e a k m=>pN 2 k z fun a k=>?_
       have k:=k.keep [8] z
       refine nn (wp_ret (fS h k m z z))
     have h:=bif_f Ac h
     refine rB k 46 z Ac fun k=>pN 11 k z fun a k=>?_
     have k:=k.keep [8] z
     refine nn (wp_ret (fS h k m z z))
   have h:=bif_f Ag h
   refine rB k 35 z Ag fun k=>pN 22 k z fun a k=>?_
   have k:=k.keep [8] z
   refine nn (wp_ret (fS h k m z z))
 refine wr (sv k z (r_ldB ta86 m 3 Ah 0 k z z z z z z) fun a k=>sv k z (r_ldB ta89 m 2 Ae 0 k z z z z z z) fun a k=>oE h fun Aw Av h=>cE k m call156 z z z (c_impl_placed fu (a1:Box) (Aa:Spot)  Av) fun Ba e a k m=>pN 2 k z fun a k=>bsplit (!Aw) (fun Ad=>?_) (fun Ad=>?_))
 · have h:=bif_t Ad h
   refine rB k 13 z Ad fun k=>pN 12 k z fun a k=>nn (wp_cond_true (k.ev z) (wr (pN 1 k z fun a k=>nn (wp_ret (rt_then ?_)))))
   refine fS h k m z z
 have h:=bif_f Ad h
 refine rB k 13 z Ad fun k=>sv k z (r_ldB ta86 m 1 Ai 0 k z z z z z z) fun a k=>sv k z (r_ldB ta89 m 0 Af 0 k z z z z z z) fun a k=>oE h fun At Aq h=>cE k m call156 z z z (c_impl_placed fu (b3:Box) (t4:Spot)  Aq) fun Bb e a k m=>pN 3 k z fun a k=>bsplit (!At) (fun Ab=>?_) (fun Ab=>?_)
 · have h:=bif_t Ab h
   refine rB k 19 z Ab fun k=>pN 6 k z fun a k=>nn (wp_cond_true (k.ev z) (wr (pN 1 k z fun a k=>nn (wp_ret (rt_then ?_)))))
   refine fS h k m z z
 have h:=bif_f Ab h
 refine rB k 19 z Ab fun k=>sv k z (r_fa fa89_0 k z z) fun a k=>sv k z (r_ldb t13 m 2 Ae 0 k z z z z z) fun a k=>sv k z (r_fa fa89_0 k z z) fun a k=>sv k z (r_ldb t13 m 0 Af 0 k z z z z z) fun a k=>pN 2 k z fun a k=>nn (cI h k z (fun Ar h=>?_) fun Ar h=>?_)
 · refine wr (pN 1 k z fun a k=>nn (wp_ret (rt_then ?_)))
   refine fS h k m z z
 refine wp_skip (nm_then ?_)
 exact ⟨k.keep [4,5,6,7] z,m.sel [3,2,1,0] z (by decide),h⟩
theorem c_impl_Pallets (fu:Nat) {w0:World} (Ab:List Spot) {v2:Value} {F3:List Nat} (Af:rd w0 F3 [v2] Ab) {r:Int}
    (h:d_impl_Pallets fu Ab = some r) :
    Calls Tryz.prog 58 #[v2] w0 fun e w=>e = .returned (I r) ∧ Ext [] w0 w:=by
 refine enter (vs:=[_]) func58 z ntmps58 z fun a k=>?_
 have m:=St.start w0
 unfold d_impl_Pallets at h
 refine wr (pN 1 k z fun a k=>nn (wr (pN 1 k z fun a k=>nn (wp_seq (wr (pN 1 k z fun a k=>sv k z (r_len (α:=Spot) Af k underlying56 z z) fun a k=>pN 1 k z fun a k=>nn (wp_block (c_loop (fun n a w=>∃ (Ac:Int) (Ad:Int),K 22 [(3,I Ac),(6,v2),(7,I ((Ab.length:Int))),(8,I Ad)] a ∧ St [] w0 w [] ∧ d_impl_Pallets_L1 fu Ab n Ac Ad = some r) ?_ ?_ fu _ _ ?_))))))))
 · rintro a w ⟨_,_,_,_,h⟩
   exact nS h
 · rintro Am a Aq ⟨Ac,Ad,k,m,h⟩
   rw [d_impl_Pallets_L1_s] at h
   unfold d_impl_Pallets_L1_B at h
   refine wr (pN 1 k z fun a k=>nn (wp_seq (cI h k z (fun Ak h=>?_) fun Ak h=>?_)))
   · refine wp_skip (nm_then ?_)
     refine c_cut (fun a w=>∃ (Ae:Int),K 22 [(3,I Ae),(6,v2),(7,I ((Ab.length:Int))),(8,I Ad)] a ∧ St [] w0 w [] ∧ d_impl_Pallets_J1 fu (d_impl_Pallets_L1 fu Ab Am) Ad Ae = some r) ?_ ?_
     · rintro a Ar ⟨Ae,k,m,h⟩
       unfold d_impl_Pallets_J1 at h
       refine wp_region_lit (pN 2 k z fun a k=>nn ?_)
       exact ⟨Ae,w64 (Ad + 1),k.keep [3,6,7,8] z,m.sel [] z (by decide),h⟩
     refine wp_block (wr (oE h fun Aa Ah h=>sv k z (r_ixa Af Ah k ts56 z z z) fun a k=>sv k z (r_lde Af (m.a00 (Enc.rd_lt Af)) Ah ta89 k z z) fun a k=>s_alloc (cs:=[I 0,I 0,I 0,I 0]) m k zeroValue89 z z z z z fun Ao As a k m e Aj=>s_stb (cs':=[I Aa.fPallet,I Aa.fX,I Aa.fY,I Aa.fZ]) sizeOf89 m 0 Aj 0 k z z z z z z z z z z z fun Ap a k e m Ag=>nn (wr (sv k z (r_fa fa89_0 k z z) fun a k=>sv k z (r_ldb t13 m 0 Ag 0 k z z z z z) fun a k=>oE h fun At Ai h=>cE k m call139 z z z (c_impl_in fu _ _ _  Ai) fun Au e a k m=>nn (cI h k z (fun Al h=>?_) fun Al h=>?_)))))
     · refine wp_region_lit (pN 1 k z fun a k=>sv k z (r_fa fa89_0 k z z) fun a k=>sv k z (r_ldb t13 m 0 Ag 0 k z z z z z) fun a k=>pN 3 k z fun a k=>wpList_nil (nm_block (nm_then ?_)))
       exact ⟨if (w64 (Aa.fPallet + 1)) > Ac then w64 (Aa.fPallet + 1) else Ac,k.keep [3,6,7,8] z,m.sel [] z (by decide),h⟩
     refine wp_skip (nm_block (nm_then ?_))
     exact ⟨Ac,k.keep [3,6,7,8] z,m.sel [] z (by decide),h⟩
   refine wp_exit (ex_then (ex_then (ex_same (nm_then ?_))))
   refine wr (pN 2 k z fun a k=>nn (wp_ret (fS h k m z z)))
 exact ⟨0,0,k.keep [3,6,7,8] z,m.sel [] z (by decide),h⟩
theorem c_impl_OnPallet (fu:Nat) {w0:World} (x1:Plan) (Ab:Int) {Aq:List Value} {F3:List Nat} (Bd:rd w0 F3 Aq x1) {r:(List Int)}
    (h:d_impl_OnPallet fu x1 Ab = some r) :
    Calls Tryz.prog 60 #[.agg Aq.toArray,I Ab] w0 fun e w=>∃ (v0:Value) (G0:List Nat),e = .returned (v0) ∧ Ext [] w0 w ∧ ow w G0 [v0] r ∧ (∀ b ∈ G0,w0.heap.size ≤ b):=by
 refine enter (vs:=[_,_]) func60 z ntmps60 z fun a k=>?_
 have m:=St.start w0
 obtain ⟨v6,F7,v8,F9,rfl,rfl,Au,Ac⟩:=Bd
 unfold d_impl_OnPallet at h
 refine wr (s_box (cs:=[v6,v8]) m k z z z z z z fun Bt Bs a k m e Ao=>pN 1 k z fun a k=>nn (wp_seq (wr (sv k z (r_fa fa58_1 k z z) fun a k=>sv k z (r_ldb t156 m 0 Ao 1 k z z z z z) fun a k=>sv k z (r_len (α:=Spot) Ac k underlying56 z z) fun a k=>sv k z (r_fa fa58_0 k z z) fun a k=>sv k z (r_ldb t155 m 0 Ao 0 k z z z z z) fun a k=>sv k z (r_len (α:=Carton) Au k underlying55 z z) fun a k=>pN 1 k z fun a k=>nn (cI h k z (fun Bj h=>?_) fun Bj h=>?_)))))
 · refine wr (pN 1 k z fun a k=>nn (wp_ret (rt_then ?_)))
   cases h
   exact finR1 k z (RV.tmp k z) ⟨_,[],z,m.ext,(ow_nil _),(by simp)⟩
 refine wp_skip (nm_then ?_)
 refine wr (s_bs (cs:=[]) (ps:=[]) te63 m k z z z z z z z (by decide) z (by exact (List.forall_mem_nil _)) fun Ap As Bw a k m e Az=>?_)
 have Bb:=ow_bx Az ([]:List Int) z z z
 refine pN 1 k z fun a k=>nn (wp_seq (wr (sv k z (r_fa fa58_1 k z z) fun a k=>sv k z (r_ldb t156 m 1 Ao 1 k z z z z z) fun a k=>sv k z (r_len (α:=Spot) Ac k underlying56 z z) fun a k=>pN 1 k z fun a k=>nn (wp_block (c_loop (fun n a w=>∃ (Ai:List Int) (Al:Value) (Ad:List Nat) (Ah:World) (Aa:Int),K 34 [(1,I Ab),(5,Al),(17,v8),(18,I ((x1.fSpots.length:Int))),(19,I Aa)] a ∧ St [] w0 w [(Ad,Ah)] ∧ ow Ah Ad [Al] Ai ∧ d_impl_OnPallet_L1 fu x1 Ab n Ai Aa = some r) ?_ ?_ fu _ _ ?_)))))
 · rintro a w ⟨_,_,_,_,_,_,_,_,h⟩
   exact nS h
 · rintro Ay a Bm ⟨Ai,Al,Ad,Ah,Aa,k,m,Am,h⟩
   rw [d_impl_OnPallet_L1_s] at h
   unfold d_impl_OnPallet_L1_B at h
   refine wr (pN 1 k z fun a k=>nn (wp_seq (cI h k z (fun Bk h=>?_) fun Bk h=>?_)))
   · refine wp_skip (nm_then ?_)
     refine c_cut (fun a w=>∃ (Ak:List Int) (Ae:Value) (Ag:List Nat) (Af:World),K 34 [(1,I Ab),(5,Ae),(17,v8),(18,I ((x1.fSpots.length:Int))),(19,I Aa)] a ∧ St [] w0 w [(Ag,Af)] ∧ ow Af Ag [Ae] Ak ∧ d_impl_OnPallet_J1 fu (d_impl_OnPallet_L1 fu x1 Ab Ay) Aa Ak = some r) ?_ ?_
     · rintro a Bn ⟨Ak,Ae,Ag,Af,k,m,Bf,h⟩
       unfold d_impl_OnPallet_J1 at h
       refine wp_region_lit (pN 2 k z fun a k=>nn ?_)
       exact ⟨Ak,Ae,Ag,Af,w64 (Aa + 1),k.keep [1,5,17,18,19] z,m.sel [0] z (by decide),Bf,h⟩
     refine wp_block (wr (pN 1 k z fun a k=>oE h fun Aj Ar h=>sv k z (r_ixa Ac Ar k ts56 z z z) fun a k=>sv k z (r_lde Ac (m.a00 (Enc.rd_lt Ac)) Ar ta89 k z z) fun a k=>s_alloc (cs:=[I 0,I 0,I 0,I 0]) m k zeroValue89 z z z z z fun Bv Bo a k m e Bg=>pN 1 k z fun a k=>s_stb (cs':=[I Aj.fPallet,I Aj.fX,I Aj.fY,I Aj.fZ]) sizeOf89 m 0 Bg 0 k z z z z z z z z z z z fun Bq a k e m Ax=>nn (wr (sv k z (r_fa fa89_0 k z z) fun a k=>sv k z (r_ldb t13 m 0 Ax 0 k z z z z z) fun a k=>pN 2 k z fun a k=>nn (cI h k z (fun At h=>?_) fun At h=>?_)))))
     · refine wp_region_lit (pN 2 k z fun a k=>s_bs (cs:=[I Aa]) (ps:=[(0,.tmp 29)]) te63 m k z z z z z z z (by decide) z (by exact (List.forall_mem_cons.2 ⟨z,(List.forall_mem_nil _)⟩)) fun Bp Bu Br a k m e Av=>?_)
       have Ba:=ow_bx Av ([Aa]:List Int) z z z
       refine oE h fun Bl Be h=>s_appF Be te63 z m 2 Am (News.rd (Enc.rd_agr (Enc.ow_rd Ba) (m.a 0 z))) z z k z z z z z z z fun Bh Bi Bc a k e m Aw=>pN 1 k z fun a k=>wpList_nil (nm_block (nm_then ?_))
       exact ⟨Bl,Bh,Bi,Bc,k.keep [1,5,17,18,19] z,m.sel [2] z (by decide),Aw,h⟩
     refine wp_skip (nm_block (nm_then ?_))
     exact ⟨Ai,Al,Ad,Ah,k.keep [1,5,17,18,19] z,m.sel [1] z (by decide),Am,h⟩
   refine wp_exit (ex_then (ex_then (ex_same (nm_then ?_))))
   refine wr (pN 2 k z fun a k=>nn (wp_ret ?_))
   cases h
   exact finR1 k z (RV.tmp k z) ⟨_,Ad,z,m.ext,(Enc.ow_agr Am (m.a 0 z)),(m.fresh 0 z)⟩
 exact ⟨([]:List Int),(.slice (some ⟨Ap,0,none⟩) 0 0),[Ap],As,0,k.keep [1,5,17,18,19] z,m.sel [0] z (by decide),Bb,h⟩
theorem c_impl_PalletGram (fu:Nat) {w0:World} (r1:Request) (x5:Plan) (At:Int) {Aw:List Value} {F3:List Nat} (Bl:rd w0 F3 Aw r1) {Aj:List Value} {F7:List Nat} (Bp:rd w0 F7 Aj x5) {r:Int}
    (h:d_impl_PalletGram fu r1 x5 At = some r) :
    Calls Tryz.prog 59 #[.agg Aw.toArray,.agg Aj.toArray,I At] w0 fun e w=>e = .returned (I r) ∧ Ext [] w0 w:=by
 refine enter (vs:=[_,_,_]) func59 z ntmps59 z fun a k=>?_
 have m:=St.start w0
 obtain ⟨Af,Bu,Au,Cd,Ax,Bv,rfl,rfl,Ay,Ap,Ao⟩:=Bl
 obtain ⟨Al,Bs,Aq,Bt,rfl,rfl,Aa,Az⟩:=Bp
 unfold d_impl_PalletGram at h
 refine wr (s_box (cs:=[I r1.fWay,I r1.fPallet.fW,I r1.fPallet.fD,I r1.fPallet.fH,I r1.fPallet.fGram,I r1.fClasses,Af,Au,I r1.fMaster,Ax]) m k z z z z z z fun Ar Bm a k m e Ba=>s_box (cs:=[Al,Aq]) m k z z z z z z fun Ak Bd a k m e Av=>pN 1 k z fun a k=>nn (wr (pN 1 k z fun a k=>nn (wp_seq (wr (sv k z (r_ldB ta58 m 0 Av 0 k z z z z z z) fun a k=>pN 1 k z fun a k=>oE h fun As Be h=>s_call k call60 z z z z z (c_impl_OnPallet fu _ _ (show rd _ _ [Al,Aq] (x5:Plan) from ⟨_,_,_,_,z,z,(Enc.rd_agr Aa (m.a00 (Enc.rd_lt Aa))),(Enc.rd_agr Az (m.a00 (Enc.rd_lt Az)))⟩) Be) fun Ca Bf hR=>?_))))))
 obtain ⟨Bc,Ag,rfl,e,Ab,Bj⟩:=hR
 refine ⟨_,z,fun a k=>?_⟩
 have m:=m.new e Ag (fun b hb=>⟨Bj b hb,Enc.rd_lt (Enc.ow_rd Ab) b hb⟩) (Enc.ow_nd Ab)
 refine sv k z (r_len (α:=Int) (Enc.ow_rd Ab) k underlying63 z z) fun a k=>pN 1 k z fun a k=>nn (wp_block (c_loop (fun n a w=>∃ (Ac:Int) (Ad:Int),K 29 [(3,.pointer (some (⟨Ar,0,none⟩:Addr))),(4,.pointer (some (⟨Ak,0,none⟩:Addr))),(7,I Ac),(12,Bc),(13,I ((As.length:Int))),(14,I Ad)] a ∧ St [] w0 w [([Ar],Bm),([Ak],Bd),(Ag,Bf)] ∧ d_impl_PalletGram_L1 fu r1 x5 As n Ac Ad = some r) ?_ ?_ fu _ _ ?_))
 · rintro a w ⟨_,_,_,_,h⟩
   exact nS h
 · rintro Bz a Cc ⟨Ac,Ad,k,m,h⟩
   rw [d_impl_PalletGram_L1_s] at h
   unfold d_impl_PalletGram_L1_B at h
   refine wr (pN 1 k z fun a k=>nn (wp_seq (cI h k z (fun Bg h=>?_) fun Bg h=>?_)))
   · refine wp_skip (nm_then ?_)
     refine wp_seq (wp_block (wr (oE h fun Bx Ah h=>sv k z (r_ixa (Enc.ow_rd Ab) Ah k ts63 z z z) fun a k=>sv k z (r_lde1 (Enc.ow_rd Ab) (m.a 2 z) Ah 0 t13 k z z z z) fun a k=>pN 1 k z fun a k=>nn (d_go [] mixo m z fun Bk hMd=>?_))))
     have m:=hMd
     have s:=Ext.refl ([]:List Nat) Bk
     refine dN [0,4] 2 z k (by kernel_rfl) z s (fun _ _ _ _ _=>id) fun a k=>dt k 1 z (by kernel_rfl) z s (fun _ _ _=>id) (fun w s=>r_ldA ta38 (Ba.at ((hMd.step s).a 0 z) 0 10 z z z) z k z z) fun a k=>dt k 2 z (by kernel_rfl) z s (fun _ _ _=>id) (fun w s=>r_fa fa58_0 k z z) fun a k=>dt k 3 z (by kernel_rfl) z s (fun _ _ _=>id) (fun w s=>r_ld1 t155 (r:=[]) (Av.at ((hMd.step s).a 1 z) 0 1 z z z) k z z) fun a k=>oE h fun Ae Ai h=>dt k 5 z (by kernel_rfl) z s (fun _ _ _=>id) (fun w s=>r_ixa Aa Ai k ts55 z z z) fun a k=>?_
     obtain ⟨Bw,Br,By,Bh,Bo,Bq⟩:=rd_get Aa (ix_some Ai).2.2
     obtain ⟨Bn,_,rfl,rfl,Am⟩:=Bh
     refine dt k 6 z (by kernel_rfl) z s (fun _ _ _=>id) (fun w s=>r_ldA ta83 (Bo.agr ((hMd.step s).a00 (Enc.rd_lt Aa)) Bq) z k z z) fun a k=>d_one 7 (by kernel_rfl) z (oE h fun Bi Bb h=>cE k m call155 z z z (c_impl_Gross fu _ _ (show rd _ _ [I r1.fWay,I r1.fPallet.fW,I r1.fPallet.fD,I r1.fPallet.fH,I r1.fPallet.fGram,I r1.fClasses,Af,Au,I r1.fMaster,Ax] (r1:Request) from ⟨_,_,_,_,_,_,z,z,(Enc.rd_agr Ay (m.a00 (Enc.rd_lt Ay))),(Enc.rd_agr Ap (m.a00 (Enc.rd_lt Ap))),(Enc.rd_agr Ao (m.a00 (Enc.rd_lt Ao)))⟩) (show rd _ _ [I Ae.fType,I Ae.fGroup,Bn] (Ae:Carton) from ⟨_,_,z,z,(Enc.rd_agr Am (m.a00 (Enc.rd_lt Am)))⟩) Bb) fun Cb e a k m=>?_)
     have s:=s.trans e (by simp)
     refine wpList_nil ⟨s,?_⟩
     refine dN [8,9] 2 z k (by kernel_rfl) z s (fun _ _ _ _ _=>id) fun a k=>d_done (by kernel_rfl) ((nm_block (nm_then ?_)))
     refine wp_region_lit (pN 2 k z fun a k=>nn ?_)
     exact ⟨w64 (Ac + Bi),w64 (Ad + 1),k.keep [3,4,7,12,13,14] z,m.sel [0,1,2] z (by decide),h⟩
   refine wp_exit (ex_then (ex_then (ex_same (nm_then ?_))))
   refine wr (pN 2 k z fun a k=>nn (wp_ret (fS h k m z z)))
 exact ⟨0,0,k.keep [3,4,7,12,13,14] z,m.sel [2,1,0] z (by decide),h⟩
theorem c_impl_spotFault_1 (fu:Nat) {w0:World} (i1:Int) (x2:Plan) (Ae:List Int) {v5:Value} {F6:List Nat} {v8:Value} {F9:List Nat} {b3:Nat} (Ab:bx w0 b3 [v5,v8] 58) (Aa:rd w0 F6 [v5] x2.fCartons) (Au:rd w0 F9 [v8] x2.fSpots) {Ag:Value} {Ao:List Nat} {Ah:Nat} (Af:bx w0 Ah [Ag] 63) (Ac:rd w0 Ao [Ag] Ae) {r:Bool}
    (h:d_impl_spotFault_1 fu i1 x2 Ae = some r) :
    Calls Tryz.prog 227 #[I i1,.pointer (some (⟨b3,0,none⟩:Addr)),.pointer (some (⟨Ah,0,none⟩:Addr))] w0 fun e w=>e = .returned (.bool (r)) ∧ Ext [] w0 w:=by
 refine enter (vs:=[_,_,_]) func227 z ntmps227 z fun a k=>?_
 have m:=St.start w0
 unfold d_impl_spotFault_1 at h
 refine wr (pN 1 k z fun a k=>nn (wp_seq (d_go [] mixo m z fun Ak hMd=>?_)))
 have m:=hMd
 have s:=Ext.refl ([]:List Nat) Ak
 refine dN [2] 1 z k (by kernel_rfl) z s (fun _ _ _ _ _=>id) fun a k=>dt k 0 z (by kernel_rfl) z s (fun _ _ _=>id) (fun w s=>r_fa fa58_0 k z z) fun a k=>dt k 1 z (by kernel_rfl) z s (fun _ _ _=>id) (fun w s=>r_ld1 t155 (r:=[]) (Ab.at ((hMd.step s).a00 Ab.lt1) 0 1 z z z) k z z) fun a k=>oE h fun Av Ai h=>dt k 3 z (by kernel_rfl) z s (fun _ _ _=>id) (fun w s=>r_ixa Aa Ai k ts55 z z z) fun a k=>dt k 4 z (by kernel_rfl) z s (fun _ _ _=>id) (fun w s=>r_fa fa83_1 k z z) fun a k=>?_
 obtain ⟨Ba,Bc,Bd,Am,As,Ar⟩:=rd_get Aa (ix_some Ai).2.2
 obtain ⟨Be,_,rfl,rfl,At⟩:=Am
 refine dt k 5 z (by kernel_rfl) z s (fun _ _ _=>id) (fun w s=>r_ld1 t13 ((As.agr ((hMd.step s).a00 (Enc.rd_lt Aa)) Ar).fld 1 1 (Nat.le_of_ble_eq_true z)) k z z) fun a k=>dt k 6 z (by kernel_rfl) z s (fun _ _ _=>id) (fun w s=>r_fa fa58_0 k z z) fun a k=>dt k 7 z (by kernel_rfl) z s (fun _ _ _=>id) (fun w s=>r_ld1 t155 (r:=[]) (Ab.at ((hMd.step s).a00 Ab.lt1) 0 1 z z z) k z z) fun a k=>dt k 8 z (by kernel_rfl) z s (fun _ _ _=>id) (fun w s=>r_ld1 t163 (r:=[]) (Af.at ((hMd.step s).a00 Af.lt1) 0 1 z z z) k z z) fun a k=>oE h fun Az Aj h=>dt k 9 z (by kernel_rfl) z s (fun _ _ _=>id) (fun w s=>r_ixa Ac Aj k ts63 z z z) fun a k=>?_
 refine dt k 10 z (by kernel_rfl) z s (fun _ _ _=>id) (fun w s=>r_lde1 Ac ((hMd.step s).a00 (Enc.rd_lt Ac)) Aj 0 t13 k z z z z) fun a k=>oE h fun Ax Ad h=>dt k 11 z (by kernel_rfl) z s (fun _ _ _=>id) (fun w s=>r_ixa Aa Ad k ts55 z z z) fun a k=>dt k 12 z (by kernel_rfl) z s (fun _ _ _=>id) (fun w s=>r_fa fa83_1 k z z) fun a k=>?_
 obtain ⟨Bg,Aw,Bb,Al,Aq,Ap⟩:=rd_get Aa (ix_some Ad).2.2
 obtain ⟨Bf,_,rfl,rfl,Ay⟩:=Al
 refine dt k 13 z (by kernel_rfl) z s (fun _ _ _=>id) (fun w s=>r_ld1 t13 ((Aq.agr ((hMd.step s).a00 (Enc.rd_lt Aa)) Ap).fld 1 1 (Nat.le_of_ble_eq_true z)) k z z) fun a k=>dN [14,15] 2 z k (by kernel_rfl) z s (fun _ _ _ _ _=>id) fun a k=>d_done (by kernel_rfl) ((nm_then ?_))
 refine wp_ret (fS h k m z z)
theorem c_impl_spotFault (fu:Nat) {w0:World} (r1:Request) (x5:Plan) {Bi:List Value} {F3:List Nat} (Dc:rd w0 F3 Bi r1) {Bq:List Value} {F7:List Nat} (Cd:rd w0 F7 Bq x5) {r:Int}
    (h:d_impl_spotFault fu r1 x5 = some r) :
    Calls Tryz.prog 125 #[.agg Bi.toArray,.agg Bq.toArray] w0 fun e w=>e = .returned (I r) ∧ Ext [] w0 w:=by
 refine enter (vs:=[_,_]) func125 z ntmps125 z fun a k=>?_
 have m:=St.start w0
 obtain ⟨v9,Ed,Bf,Ev,Bd,Ey,rfl,rfl,Aw,Av,Ba⟩:=Dc
 obtain ⟨Ay,Dy,Bb,En,rfl,rfl,Ad,Aa⟩:=Cd
 unfold d_impl_spotFault at h
 refine wr (s_box (cs:=[I r1.fWay,I r1.fPallet.fW,I r1.fPallet.fD,I r1.fPallet.fH,I r1.fPallet.fGram,I r1.fClasses,v9,Bf,I r1.fMaster,Bd]) m k z z z z z z fun Ac Al a k m e Ax=>s_box (cs:=[Ay,Bb]) m k z z z z z z fun Ab Ao a k m e Ag=>pN 1 k z fun a k=>nn (wr (s_bs (cs:=[]) (ps:=[]) te149 m k z z z z z z z (by decide) z (by exact (List.forall_mem_nil _)) fun Br Bv Fd a k m e Dm=>?_)))
 have Db:=ow_bx Dm ([]:List Box) z z z
 refine pN 1 k z fun a k=>nn (wp_seq (wr (sv k z (r_fa fa58_0 k z z) fun a k=>sv k z (r_ldb t155 m 1 Ag 0 k z z z z z) fun a k=>sv k z (r_len (α:=Carton) Ad k underlying55 z z) fun a k=>pN 1 k z fun a k=>nn (wp_block (c_loop (fun n a w=>∃ (Af:List Box) (At:Value) (Ar:List Nat) (As:World) (Az:Int),K 96 [(2,.pointer (some (⟨Ac,0,none⟩:Addr))),(3,.pointer (some (⟨Ab,0,none⟩:Addr))),(5,At),(15,Ay),(16,I ((x5.fCartons.length:Int))),(17,I Az)] a ∧ St [] w0 w [([Ac],Al),([Ab],Ao),(Ar,As)] ∧ ow As Ar [At] Af ∧ d_impl_spotFault_L4 fu r1 x5 n Af Az = some r) ?_ ?_ fu _ _ ?_)))))
 · rintro a w ⟨_,_,_,_,_,_,_,_,h⟩
   exact nS h
 · rintro Ds a Ea ⟨Af,At,Ar,As,Az,k,m,Am,h⟩
   rw [d_impl_spotFault_L4_s] at h
   unfold d_impl_spotFault_L4_B at h
   refine wr (pN 1 k z fun a k=>nn (wp_seq (cI h k z (fun Dp h=>?_) fun Dp h=>?_)))
   · refine wp_skip (nm_then ?_)
     refine wp_seq (wp_block (wr (pN 1 k z fun a k=>oE h fun Ap Bu h=>sv k z (r_ixa Ad Bu k ts55 z z z) fun a k=>?_)))
     obtain ⟨Er,Fg,Ep,Di,Dh,Do⟩:=rd_get Ad (ix_some Bu).2.2
     obtain ⟨Bm,_,rfl,rfl,Be⟩:=Di
     refine sv k z (r_ldA ta83 (Dh.agr (m.a00 (Enc.rd_lt Ad)) Do) z k z z) fun a k=>s_alloc (cs:=[I 0,I 0,.slice none 0 0]) m k zeroValue83 z z z z z fun Ff Ec a k m e Ce=>pN 1 k z fun a k=>s_stb (cs':=[I Ap.fType,I Ap.fGroup,Bm]) sizeOf83 m 0 Ce 0 k z z z z z z z z z z (allc z (allc z (allc (rd_o Be) alln))) fun Du a k e m Cj=>nn (wr (sv k z (r_ldB ta38 m 1 Ax 0 k z z z z z z) fun a k=>sv k z (r_ldB ta83 m 0 Cj 0 k z z z z z z) fun a k=>oE h fun Ae Dl h=>?_))
     refine cE k m call56 z z z (c_impl_BoxOf fu _ _ (show rd _ _ [I r1.fWay,I r1.fPallet.fW,I r1.fPallet.fD,I r1.fPallet.fH,I r1.fPallet.fGram,I r1.fClasses,v9,Bf,I r1.fMaster,Bd] (r1:Request) from ⟨_,_,_,_,_,_,z,z,(Enc.rd_agr Aw (m.a00 (Enc.rd_lt Aw))),(Enc.rd_agr Av (m.a00 (Enc.rd_lt Av))),(Enc.rd_agr Ba (m.a00 (Enc.rd_lt Ba)))⟩) (show rd _ _ [I Ap.fType,I Ap.fGroup,Bm] (Ap:Carton) from ⟨_,_,z,z,(Enc.rd_agr Be (m.a00 (Enc.rd_lt Be)))⟩) Dl) fun Ek e a k m=>s_alloc (cs:=[I 0,I 0,I 0,I 0]) m k zeroValue86 z z z z z fun Fc Fa a k m e Cg=>?_
     refine s_stb (cs':=[I Ae.fW,I Ae.fD,I Ae.fH,I Ae.fGram]) sizeOf86 m 0 Cg 0 k z z z z z z z z z z z fun Eu a k e m Bj=>nn (wp_seq (wp_seq (d_go [] mixo m z fun Cl hMd=>?_)))
     have m:=hMd
     have s:=Ext.refl ([]:List Nat) Cl
     refine dN [5] 1 z k (by kernel_rfl) z s (fun _ _ _ _ _=>id) fun a k=>dt k 0 z (by kernel_rfl) z s (fun _ _ _=>id) (fun w s=>r_fa fa38_1 k z z) fun a k=>dt k 1 z (by kernel_rfl) z s (fun _ _ _=>id) (fun w s=>r_ldA ta33 (Ax.at ((hMd.step s).a 2 z) 1 4 z z z) z k z z) fun a k=>dt k 2 z (by kernel_rfl) z s (fun _ _ _=>id) (fun w s=>r_ldA ta86 (Bj.at ((hMd.step s).a 0 z) 0 4 z z z) z k z z) fun a k=>dt k 3 z (by kernel_rfl) z s (fun _ _ _=>id) (fun w s=>r_fa fa58_1 k z z) fun a k=>dt k 4 z (by kernel_rfl) z s (fun _ _ _=>id) (fun w s=>r_ld1 t156 (r:=[]) (Ag.at ((hMd.step s).a 3 z) 1 1 z z z) k z z) fun a k=>oE h fun Bw Bt h=>?_
     refine dt k 6 z (by kernel_rfl) z s (fun _ _ _=>id) (fun w s=>r_ixa Aa Bt k ts56 z z z) fun a k=>dt k 7 z (by kernel_rfl) z s (fun _ _ _=>id) (fun w s=>r_lde Aa ((hMd.step s).a00 (Enc.rd_lt Aa)) Bt ta89 k z z) fun a k=>d_one 8 (by kernel_rfl) z (oE h fun Dt Ck h=>cE k m call55 z z z (c_impl_Within fu (r1.fPallet:Pallet) (Ae:Box) (Bw:Spot)  Ck) fun Dv e a k m=>?_)
     have s:=s.trans e (by simp)
     refine wpList_nil ⟨s,?_⟩
     refine dN [9] 1 z k (by kernel_rfl) z s (fun _ _ _ _ _=>id) fun a k=>d_done (by kernel_rfl) ((nm_then ?_))
     refine cI h k z (fun Cz h=>?_) fun Cz h=>?_
     · refine wr (pN 1 k z fun a k=>nn (wp_ret (rt_then (rt_block (rt_then (rt_then (rt_block (rt_then ?_))))))))
       refine fS h k m z z
     refine wp_skip (nm_then ?_)
     refine wp_region_lit (pN 1 k z fun a k=>sv k z (r_ldB ta86 m 0 Bj 0 k z z z z z z) fun a k=>s_bs (cs:=[I Ae.fW,I Ae.fD,I Ae.fH,I Ae.fGram]) (ps:=[(0,.tmp 36)]) te149 m k z z z z z z z (by decide) z (by exact (List.forall_mem_cons.2 ⟨z,(List.forall_mem_nil _)⟩)) fun Ex Eg Es a k m e Cb=>?_)
     have Dj:=ow_bx Cb ([Ae]:List Box) z z z
     refine oE h fun Bx Cx h=>s_appF Cx te149 z m 5 Am (News.rd (Enc.rd_agr (Enc.ow_rd Dj) (m.a 0 z))) z z k z z z z z z z fun Cv Cu Cw a k e m Co=>pN 1 k z fun a k=>?_
     have k:=k.keep [2,3,15,16,5,17] z
     refine wpList_nil (nm_block (nm_then ?_))
     refine wp_region_lit (pN 2 k z fun a k=>nn ?_)
     exact ⟨Bx,Cv,Cu,Cw,w64 (Az + 1),k.keep [2,3,5,15,16,17] z,m.sel [3,4,5] z (by decide),Co,h⟩
   refine wp_exit (ex_then (ex_then (ex_same (nm_then ?_))))
   refine wp_seq (wr (pN 1 k z fun a k=>sv k z (r_len (α:=Box) (Enc.ow_rd Am) k underlying149 z z) fun a k=>pN 1 k z fun a k=>nn (wp_block (c_loop (fun n a w=>∃ (Ah:Int),K 96 [(2,.pointer (some (⟨Ac,0,none⟩:Addr))),(3,.pointer (some (⟨Ab,0,none⟩:Addr))),(5,At),(41,I ((Af.length:Int))),(42,I Ah)] a ∧ St [] w0 w [([Ac],Al),([Ab],Ao),(Ar,As)] ∧ d_impl_spotFault_L3 fu r1 x5 Af n Ah = some r) ?_ ?_ fu _ _ ?_))))
   · rintro a w ⟨_,_,_,h⟩
     exact nS h
   · rintro Dk a Ee ⟨Ah,k,m,h⟩
     rw [d_impl_spotFault_L3_s] at h
     unfold d_impl_spotFault_L3_B at h
     refine wr (pN 1 k z fun a k=>nn (wp_seq (cI h k z (fun Dn h=>?_) fun Dn h=>?_)))
     · refine wp_skip (nm_then ?_)
       refine wp_seq (wp_block (wr (pN 2 k z fun a k=>nn (wr (pN 2 k z fun a k=>nn (wp_block (c_loop (fun n a w=>∃ (Au:Int),K 96 [(2,.pointer (some (⟨Ac,0,none⟩:Addr))),(3,.pointer (some (⟨Ab,0,none⟩:Addr))),(5,At),(9,I Ah),(41,I ((Af.length:Int))),(42,I Ah),(45,I Ah),(46,I Au)] a ∧ St [] w0 w [([Ac],Al),([Ab],Ao),(Ar,As)] ∧ d_impl_spotFault_L1 fu (d_impl_spotFault_L3 fu r1 x5 Af Dk) x5 Af Ah n Au = some r) ?_ ?_ fu _ _ ?_)))))))
       · rintro a w ⟨_,_,_,h⟩
         exact nS h
       · rintro Fb a Dz ⟨Au,k,m,h⟩
         rw [d_impl_spotFault_L1_s] at h
         unfold d_impl_spotFault_L1_B at h
         refine wr (pN 1 k z fun a k=>nn (wp_seq (cI h k z (fun Cm h=>?_) fun Cm h=>?_)))
         · refine wp_skip (nm_then ?_)
           refine wp_seq (wp_block (wr (pN 2 k z fun a k=>nn (wp_seq (d_go [] mixo m z fun Cs hMd=>?_)))))
           have m:=hMd
           have s:=Ext.refl ([]:List Nat) Cs
           refine dN [0,1,6,9,10,15] 6 z k (by kernel_rfl) z s (fun _ _ _ _ _=>id) fun a k=>oE h fun Cq Bl h=>dt k 2 z (by kernel_rfl) z s (fun _ _ _=>id) (fun w s=>r_ixa (Enc.ow_rd Am) Bl k ts149 z z z) fun a k=>dt k 3 z (by kernel_rfl) z s (fun _ _ _=>id) (fun w s=>r_lde (Enc.ow_rd Am) ((hMd.step s).a 2 z) Bl ta86 k z z) fun a k=>dt k 4 z (by kernel_rfl) z s (fun _ _ _=>id) (fun w s=>r_fa fa58_1 k z z) fun a k=>dt k 5 z (by kernel_rfl) z s (fun _ _ _=>id) (fun w s=>r_ld1 t156 (r:=[]) (Ag.at ((hMd.step s).a 1 z) 1 1 z z z) k z z) fun a k=>oE h fun Dq Bk h=>dt k 7 z (by kernel_rfl) z s (fun _ _ _=>id) (fun w s=>r_ixa Aa Bk k ts56 z z z) fun a k=>?_
           refine dt k 8 z (by kernel_rfl) z s (fun _ _ _=>id) (fun w s=>r_lde Aa ((hMd.step s).a00 (Enc.rd_lt Aa)) Bk ta89 k z z) fun a k=>oE h fun Ct Bs h=>dt k 11 z (by kernel_rfl) z s (fun _ _ _=>id) (fun w s=>r_ixa (Enc.ow_rd Am) Bs k ts149 z z z) fun a k=>dt k 12 z (by kernel_rfl) z s (fun _ _ _=>id) (fun w s=>r_lde (Enc.ow_rd Am) ((hMd.step s).a 2 z) Bs ta86 k z z) fun a k=>dt k 13 z (by kernel_rfl) z s (fun _ _ _=>id) (fun w s=>r_fa fa58_1 k z z) fun a k=>dt k 14 z (by kernel_rfl) z s (fun _ _ _=>id) (fun w s=>r_ld1 t156 (r:=[]) (Ag.at ((hMd.step s).a 1 z) 1 1 z z z) k z z) fun a k=>oE h fun By Bn h=>dt k 16 z (by kernel_rfl) z s (fun _ _ _=>id) (fun w s=>r_ixa Aa Bn k ts56 z z z) fun a k=>?_
           refine dt k 17 z (by kernel_rfl) z s (fun _ _ _=>id) (fun w s=>r_lde Aa ((hMd.step s).a00 (Enc.rd_lt Aa)) Bn ta89 k z z) fun a k=>d_one 18 (by kernel_rfl) z (oE h fun Em Cy h=>cE k m call57 z z z (c_impl_Overlap fu (Cq:Box) (Dq:Spot) (Ct:Box) (By:Spot)  Cy) fun Ej e a k m=>?_)
           have s:=s.trans e (by simp)
           refine wpList_nil ⟨s,?_⟩
           refine d_done (by kernel_rfl) ((nm_then ?_))
           refine cI h k z (fun Cn h=>?_) fun Cn h=>?_
           · refine wr (pN 1 k z fun a k=>nn (wp_ret (rt_block (rt_then (rt_then (rt_block (rt_block (rt_then (rt_then (rt_block (rt_then ?_)))))))))))
             refine fS h k m z z
           refine wp_skip (nm_block (nm_then ?_))
           refine wp_region_lit (pN 2 k z fun a k=>nn ?_)
           exact ⟨w64 (Au + 1),k.keep [2,3,5,9,41,42,45,46] z,m.sel [0,1,2] z (by decide),h⟩
         refine wp_exit (ex_then (ex_then (ex_same (nm_block (nm_then ?_)))))
         refine wp_region_lit (pN 2 k z fun a k=>nn ?_)
         exact ⟨w64 (Ah + 1),k.keep [2,3,5,41,42] z,m.sel [0,1,2] z (by decide),h⟩
       exact ⟨0,k.keep [2,3,5,9,41,42,45,46] z,m.sel [0,1,2] z (by decide),h⟩
     refine wp_exit (ex_then (ex_then (ex_same (nm_then ?_))))
     refine wp_seq (wr (sv k z (r_fa fa58_1 k z z) fun a k=>sv k z (r_ldb t156 m 1 Ag 1 k z z z z z) fun a k=>oE h fun Ak Da h=>cE k m call58 z z z (c_impl_Pallets fu _ (Enc.rd_agr Aa (m.a00 (Enc.rd_lt Aa))) Da) fun Eo e a k m=>pN 1 k z fun a k=>nn (wp_block (c_loop (fun n a w=>∃ (Ai:Int),K 96 [(2,.pointer (some (⟨Ac,0,none⟩:Addr))),(3,.pointer (some (⟨Ab,0,none⟩:Addr))),(72,I Ak),(73,I Ai)] a ∧ St [] w0 w [([Ac],Al),([Ab],Ao)] ∧ d_impl_spotFault_L2 fu r1 x5 Ak n Ai = some r) ?_ ?_ fu _ _ ?_))))
     · rintro a w ⟨_,_,_,h⟩
       exact nS h
     · rintro Bp a Ew ⟨Ai,k,m,h⟩
       rw [d_impl_spotFault_L2_s] at h
       unfold d_impl_spotFault_L2_B at h
       refine wr (pN 1 k z fun a k=>nn (wp_seq (cI h k z (fun Cp h=>?_) fun Cp h=>?_)))
       · refine wp_skip (nm_then ?_)
         refine c_cut (fun a w=>K 96 [(2,.pointer (some (⟨Ac,0,none⟩:Addr))),(3,.pointer (some (⟨Ab,0,none⟩:Addr))),(72,I Ak),(73,I Ai)] a ∧ St [] w0 w [([Ac],Al),([Ab],Ao)] ∧ d_impl_spotFault_J1 fu (d_impl_spotFault_L2 fu r1 x5 Ak Bp) Ai = some r) ?_ ?_
         · rintro a Ef ⟨k,m,h⟩
           unfold d_impl_spotFault_J1 at h
           refine wp_region_lit (pN 2 k z fun a k=>nn ?_)
           exact ⟨w64 (Ai + 1),k.keep [2,3,72,73] z,m.sel [0,1] z (by decide),h⟩
         refine wp_block (wr (pN 2 k z fun a k=>nn (wr (sv k z (r_ldB ta58 m 1 Ag 0 k z z z z z z) fun a k=>pN 1 k z fun a k=>oE h fun Bo Dd h=>s_call k call60 z z z z z (c_impl_OnPallet fu _ _ (show rd _ _ [Ay,Bb] (x5:Plan) from ⟨_,_,_,_,z,z,(Enc.rd_agr Ad (m.a00 (Enc.rd_lt Ad))),(Enc.rd_agr Aa (m.a00 (Enc.rd_lt Aa)))⟩) Dd) fun El Bz hR=>?_))))
         obtain ⟨Dr,Bh,rfl,e,Aj,De⟩:=hR
         refine ⟨_,z,fun a k=>?_⟩
         have m:=m.new e Bh (fun b hb=>⟨De b hb,Enc.rd_lt (Enc.ow_rd Aj) b hb⟩) (Enc.ow_nd Aj)
         refine s_alloc (cs:=[.slice none 0 0]) m k zeroValue63 z z z z z fun Bg Ez a k m e Ca=>s_stb1 (cs':=[Dr]) sizeOf63 m 0 Ca 0 k (rd_c (Enc.ow_rd Aj)) (rd_o (Enc.ow_rd Aj)) z z z z z z z z z fun Cr a k e m Bc=>nn (c_cut (fun a w=>K 96 [(2,.pointer (some (⟨Ac,0,none⟩:Addr))),(3,.pointer (some (⟨Ab,0,none⟩:Addr))),(12,.pointer (some (⟨Bg,0,none⟩:Addr))),(72,I Ak),(73,I Ai)] a ∧ St [] w0 w [([Ac],Al),([Ab],Ao),([Bg],Cr),(Bh,Bz)] ∧ d_impl_spotFault_J2 fu (d_impl_spotFault_L2 fu r1 x5 Ak Bp) x5 Ai Bo = some r) ?_ ?_)
         · rintro a Eh ⟨k,m,h⟩
           unfold d_impl_spotFault_J2 at h
           refine wr (sv k z (r_ldb t163 m 2 Bc 0 k z z z z z) fun a k=>pN 1 k z fun a k=>oE h fun Dx Ch h=>cE k m call172 z z z (c_slices_ContainsFunc_int_int fu _ _ (Enc.rd_agr (Enc.ow_rd Aj) (m.a 3 z)) ⟨227,[.pointer (some (⟨Ab,0,none⟩:Addr)),.pointer (some (⟨Bg,0,none⟩:Addr))],z,call227,fun w Et Ei r e Cf hx=>by subst Cf; have m:=m.step e; exact c_impl_spotFault_1 fu _ _ _ (Ag.agr (m.a 1 rfl) (by simp)) (Enc.rd_agr Ad (m.a00 (Enc.rd_lt Ad))) (Enc.rd_agr Aa (m.a00 (Enc.rd_lt Aa))) (Bc.agr (m.a 2 rfl) (by simp)) (Enc.rd_agr (Enc.ow_rd Aj) (m.a 3 rfl)) hx⟩ Ch) fun Dw e a k m=>nn (cI h k rfl (fun Ci h=>?_) fun Ci h=>?_))
           · refine wr (pN 1 k z fun a k=>nn (wp_ret (rt_block (rt_then (rt_then (rt_block (rt_then ?_)))))))
             refine fS h k m z z
           refine wp_skip (nm_block (nm_then ?_))
           exact ⟨k.keep [2,3,72,73] z,m.sel [0,1] z (by decide),h⟩
         refine wp_seq (d_go [] mixo m z fun Df hMd=>?_)
         have m:=hMd
         have s:=Ext.refl ([]:List Nat) Df
         refine dt k 0 z (by kernel_rfl) z s (fun _ _ _=>id) (fun w s=>r_ld1 t163 (r:=[]) (Bc.at ((hMd.step s).a 0 z) 0 1 z z z) k z z) fun a k=>dt k 1 z (by kernel_rfl) z s (fun _ _ _=>id) (fun w s=>r_len (α:=Int) (Enc.ow_rd Aj) k underlying63 z z) fun a k=>dN [2,3] 2 z k (by kernel_rfl) z s (fun _ _ _ _ _=>id) fun a k=>bsplit (((Bo.length:Int)) == 0) (fun Aq=>?_) (fun Aq=>?_)
         · have h:=bif_t Aq h
           refine rB k 82 z Aq fun k=>dN [4,5,6,7,8,9,10,11,12] 9 z k (by kernel_rfl) z s (fun _ _ _ _ _=>id) fun a k=>d_done (by kernel_rfl) ((nm_then ?_))
           refine wp_cond_true (k.ev z) (wr (pN 1 k z fun a k=>nn (wp_ret (rt_then (rt_block (rt_then (rt_then (rt_block (rt_then ?_)))))))))
           refine fS h k m z z
         have h:=bif_f Aq h
         refine rB k 82 z Aq fun k=>dN [6] 1 z k (by kernel_rfl) z s (fun _ _ _ _ _=>id) fun a k=>dt k 4 z (by kernel_rfl) z s (fun _ _ _=>id) (fun w s=>r_ldA ta38 (Ax.at ((hMd.step s).a 2 z) 0 10 z z z) z k z z) fun a k=>dt k 5 z (by kernel_rfl) z s (fun _ _ _=>id) (fun w s=>r_ldA ta58 (Ag.at ((hMd.step s).a 3 z) 0 2 z z z) z k z z) fun a k=>dt k 8 z (by kernel_rfl) z s (fun _ _ _=>id) (fun w s=>r_fa fa38_1 k z z) fun a k=>dt k 9 z (by kernel_rfl) z s (fun _ _ _=>id) (fun w s=>r_fa fa33_3 k z z) fun a k=>dt k 10 z (by kernel_rfl) z s (fun _ _ _=>id) (fun w s=>r_ld1 t13 (r:=[]) (Ax.at ((hMd.step s).a 2 z) 4 1 z z z) k z z) fun a k=>d_one 7 (by kernel_rfl) z (oE h fun Eb Dg h=>?_)
         refine cE k m call59 z z z (c_impl_PalletGram fu _ _ _ (show rd _ _ [I r1.fWay,I r1.fPallet.fW,I r1.fPallet.fD,I r1.fPallet.fH,I r1.fPallet.fGram,I r1.fClasses,v9,Bf,I r1.fMaster,Bd] (r1:Request) from ⟨_,_,_,_,_,_,z,z,(Enc.rd_agr Aw (m.a00 (Enc.rd_lt Aw))),(Enc.rd_agr Av (m.a00 (Enc.rd_lt Av))),(Enc.rd_agr Ba (m.a00 (Enc.rd_lt Ba)))⟩) (show rd _ _ [Ay,Bb] (x5:Plan) from ⟨_,_,_,_,z,z,(Enc.rd_agr Ad (m.a00 (Enc.rd_lt Ad))),(Enc.rd_agr Aa (m.a00 (Enc.rd_lt Aa)))⟩) Dg) fun Fe e a k m=>?_
         have s:=s.trans e (by simp)
         refine wpList_nil ⟨s,?_⟩
         refine dN [11,12] 2 z k (by kernel_rfl) z s (fun _ _ _ _ _=>id) fun a k=>d_done (by kernel_rfl) ((nm_then ?_))
         refine cI h k z (fun Cc h=>?_) fun Cc h=>?_
         · refine wr (pN 1 k z fun a k=>nn (wp_ret (rt_then (rt_block (rt_then (rt_then (rt_block (rt_then ?_))))))))
           refine fS h k m z z
         refine wp_skip (nm_then ?_)
         exact ⟨k.keep [2,3,12,72,73] z,m.sel [2,3,0,1] z (by decide),h⟩
       refine wp_exit (ex_then (ex_then (ex_same (nm_then ?_))))
       refine wr (pN 1 k z fun a k=>nn (wp_ret (fS h k m z z)))
     exact ⟨0,k.keep [2,3,72,73] z,m.sel [0,1] z (by decide),h⟩
   exact ⟨0,k.keep [2,3,5,41,42] z,m.sel [0,1,2] z (by decide),h⟩
 exact ⟨([]:List Box),(.slice (some ⟨Br,0,none⟩) 0 0),[Br],Bv,0,k.keep [2,3,5,15,16,17] z,m.sel [2,1,0] z (by decide),Db,h⟩
theorem c_impl_Check (fu:Nat) {w0:World} (r1:Request) (x5:Plan) {At:List Value} {F3:List Nat} (Bo:rd w0 F3 At r1) {Au:List Value} {F7:List Nat} (Az:rd w0 F7 Au x5) {r:Int}
    (h:d_impl_Check fu r1 x5 = some r) :
    Calls Tryz.prog 35 #[.agg At.toArray,.agg Au.toArray] w0 fun e w=>e = .returned (I r) ∧ Ext [] w0 w:=by
 refine enter (vs:=[_,_]) func35 z ntmps35 z fun a k=>?_
 have m:=St.start w0
 obtain ⟨v9,Cl,Aj,Cx,Ag,Da,rfl,rfl,Ad,Ab,Ae⟩:=Bo
 obtain ⟨Ah,Cc,Af,Ct,rfl,rfl,Aa,Ac⟩:=Az
 unfold d_impl_Check at h
 refine wr (s_box (cs:=[I r1.fWay,I r1.fPallet.fW,I r1.fPallet.fD,I r1.fPallet.fH,I r1.fPallet.fGram,I r1.fClasses,v9,Aj,I r1.fMaster,Ag]) m k z z z z z z fun Av Bd a k m e Al=>s_box (cs:=[Ah,Af]) m k z z z z z z fun As Bt a k m e Ai=>pN 1 k z fun a k=>nn (wp_seq (wr (sv k z (r_ldB ta38 m 1 Al 0 k z z z z z z) fun a k=>oE h fun Ck Aw h=>?_))))
 refine cE k m call115 z z z (c_impl_sound fu _ (show rd _ _ [I r1.fWay,I r1.fPallet.fW,I r1.fPallet.fD,I r1.fPallet.fH,I r1.fPallet.fGram,I r1.fClasses,v9,Aj,I r1.fMaster,Ag] (r1:Request) from ⟨_,_,_,_,_,_,z,z,(Enc.rd_agr Ad (m.a00 (Enc.rd_lt Ad))),(Enc.rd_agr Ab (m.a00 (Enc.rd_lt Ab))),(Enc.rd_agr Ae (m.a00 (Enc.rd_lt Ae)))⟩) Aw) fun Cd e a k m=>pN 1 k z fun a k=>nn (cI h k z (fun Bj h=>?_) fun Bj h=>?_)
 · refine wr (pN 1 k z fun a k=>nn (wp_ret (rt_then ?_)))
   refine fS h k m z z
 refine wp_skip (nm_then ?_)
 refine c_cut (fun a w=>K 38 [(2,.pointer (some (⟨Av,0,none⟩:Addr))),(3,.pointer (some (⟨As,0,none⟩:Addr)))] a ∧ St [] w0 w [([Av],Bd),([As],Bt)] ∧ d_impl_Check_J1 fu r1 x5 = some r) ?_ ?_
 · rintro a Bw ⟨k,m,h⟩
   unfold d_impl_Check_J1 at h
   refine wr (sv k z (r_ldB ta58 m 1 Ai 0 k z z z z z z) fun a k=>oE h fun Cz Bl h=>s_call k call119 z z z z z (c_impl_allUnits fu _ (show rd _ _ [Ah,Af] (x5:Plan) from ⟨_,_,_,_,z,z,(Enc.rd_agr Aa (m.a00 (Enc.rd_lt Aa))),(Enc.rd_agr Ac (m.a00 (Enc.rd_lt Ac)))⟩) Bl) fun Ch Co hR=>?_)
   obtain ⟨Dc,Bv,rfl,e,Am,Bk⟩:=hR
   refine ⟨_,z,fun a k=>?_⟩
   have m:=m.new e Bv (fun b hb=>⟨Bk b hb,Enc.rd_lt (Enc.ow_rd Am) b hb⟩) (Enc.ow_nd Am)
   refine pN 1 k z fun a k=>nn (wr (pN 1 k z fun a k=>oE h fun Bz Be h=>s_call k call120 z z z z z (c_slices_Sort_int_int fu _ (Enc.ow_agr Am (m.a 0 z)) Be) fun Cn Cu hR=>?_))
   obtain ⟨Cb,rfl,e,Bp,Ar⟩:=hR
   refine ⟨_,z,fun a k=>?_⟩
   have m:=m.mut 0 z e _ (fun b hb=>⟨Bp b hb,Enc.rd_lt (Enc.ow_rd Ar) b hb⟩) (Enc.ow_nd Ar)
   refine nn (wp_seq (wr (pN 1 k z fun a k=>sv k z (r_ldB ta38 m 1 Al 0 k z z z z z z) fun a k=>oE h fun Ci Ax h=>s_call k call123 z z z z z (c_impl_Units fu _ (show rd _ _ [I r1.fWay,I r1.fPallet.fW,I r1.fPallet.fD,I r1.fPallet.fH,I r1.fPallet.fGram,I r1.fClasses,v9,Aj,I r1.fMaster,Ag] (r1:Request) from ⟨_,_,_,_,_,_,z,z,(Enc.rd_agr Ad (m.a00 (Enc.rd_lt Ad))),(Enc.rd_agr Ab (m.a00 (Enc.rd_lt Ab))),(Enc.rd_agr Ae (m.a00 (Enc.rd_lt Ae)))⟩) Ax) fun By Cw hR=>?_)))
   obtain ⟨De,Br,rfl,e,Ao,Bn⟩:=hR
   refine ⟨_,z,fun a k=>?_⟩
   have m:=m.new e Br (fun b hb=>⟨Bn b hb,Enc.rd_lt (Enc.ow_rd Ao) b hb⟩) (Enc.ow_nd Ao)
   refine sv k z (r_len (α:=Int) (Enc.ow_rd Ao) k underlying63 z z) fun a k=>oE h fun Dd Bg h=>s_call k call122 z z z z z (c_impl_places fu _  Bg) fun Cy Cf hR=>?_
   obtain ⟨Ce,Bm,rfl,e,Ap,Ay⟩:=hR
   refine ⟨_,z,fun a k=>?_⟩
   have m:=m.new e Bm (fun b hb=>⟨Ay b hb,Enc.rd_lt (Enc.ow_rd Ap) b hb⟩) (Enc.ow_nd Ap)
   refine oE h fun Cg Bq h=>cE k m call121 z z z (c_slices_Equal_int_int fu _ _ (Enc.rd_agr (Enc.ow_rd Ar) (m.a 2 z)) (Enc.rd_agr (Enc.ow_rd Ap) (m.a 0 z)) Bq) fun Cj e a k m=>pN 1 k z fun a k=>nn (cI h k z (fun Bu h=>?_) fun Bu h=>?_)
   · refine wr (pN 1 k z fun a k=>nn (wp_ret (rt_then ?_)))
     refine fS h k m z z
   refine wp_skip (nm_then ?_)
   refine wp_seq (wr (sv k z (r_ldB ta38 m 3 Al 0 k z z z z z z) fun a k=>sv k z (r_ldB ta58 m 4 Ai 0 k z z z z z z) fun a k=>oE h fun Ca Bc h=>cE k m call124 z z z (c_impl_cartonFault fu _ _ (show rd _ _ [I r1.fWay,I r1.fPallet.fW,I r1.fPallet.fD,I r1.fPallet.fH,I r1.fPallet.fGram,I r1.fClasses,v9,Aj,I r1.fMaster,Ag] (r1:Request) from ⟨_,_,_,_,_,_,z,z,(Enc.rd_agr Ad (m.a00 (Enc.rd_lt Ad))),(Enc.rd_agr Ab (m.a00 (Enc.rd_lt Ab))),(Enc.rd_agr Ae (m.a00 (Enc.rd_lt Ae)))⟩) (show rd _ _ [Ah,Af] (x5:Plan) from ⟨_,_,_,_,z,z,(Enc.rd_agr Aa (m.a00 (Enc.rd_lt Aa))),(Enc.rd_agr Ac (m.a00 (Enc.rd_lt Ac)))⟩) Bc) fun Cr e a k m=>pN 1 k z fun a k=>nn (wr (pN 2 k z fun a k=>nn ?_))))
   refine cI h k z (fun Bb h=>?_) fun Bb h=>?_
   · refine wr (pN 2 k z fun a k=>nn (wp_ret (rt_then ?_)))
     refine fS h k m z z
   refine wp_skip (nm_then ?_)
   refine wr (sv k z (r_ldB ta38 m 3 Al 0 k z z z z z z) fun a k=>sv k z (r_ldB ta58 m 4 Ai 0 k z z z z z z) fun a k=>oE h fun Cm Bi h=>cE k m call125 z z z (c_impl_spotFault fu _ _ (show rd _ _ [I r1.fWay,I r1.fPallet.fW,I r1.fPallet.fD,I r1.fPallet.fH,I r1.fPallet.fGram,I r1.fClasses,v9,Aj,I r1.fMaster,Ag] (r1:Request) from ⟨_,_,_,_,_,_,z,z,(Enc.rd_agr Ad (m.a00 (Enc.rd_lt Ad))),(Enc.rd_agr Ab (m.a00 (Enc.rd_lt Ab))),(Enc.rd_agr Ae (m.a00 (Enc.rd_lt Ae)))⟩) (show rd _ _ [Ah,Af] (x5:Plan) from ⟨_,_,_,_,z,z,(Enc.rd_agr Aa (m.a00 (Enc.rd_lt Aa))),(Enc.rd_agr Ac (m.a00 (Enc.rd_lt Ac)))⟩) Bi) fun Cq e a k m=>pN 1 k z fun a k=>nn (wp_ret (fS h k m z z)))
 refine wr (sv k z (r_ldB ta58 m 0 Ai 0 k z z z z z z) fun a k=>oE h fun Bf Ba h=>cE k m call116 z z z (c_impl_PlanOk fu _ (show rd _ _ [Ah,Af] (x5:Plan) from ⟨_,_,_,_,z,z,(Enc.rd_agr Aa (m.a00 (Enc.rd_lt Aa))),(Enc.rd_agr Ac (m.a00 (Enc.rd_lt Ac)))⟩) Ba) fun Cv e a k m=>pN 2 k z fun a k=>bsplit (!Bf) (fun Ak=>?_) (fun Ak=>?_))
 · have h:=bif_t Ak h
   refine rB k 13 z Ak fun k=>pN 4 k z fun a k=>nn (wp_cond_true (k.ev z) (wr (pN 1 k z fun a k=>nn (wp_ret (rt_then ?_)))))
   refine fS h k m z z
 have h:=bif_f Ak h
 refine rB k 13 z Ak fun k=>sv k z (r_fa fa58_0 k z z) fun a k=>sv k z (r_ldb t155 m 0 Ai 0 k z z z z z) fun a k=>oE h fun Cs Bs h=>cE k m call117 z z z (c_slices_ContainsFunc_impl_Carton_impl_Carton fu _ _ (Enc.rd_agr Aa (m.a00 (Enc.rd_lt Aa))) ⟨118,[],z,call118,fun w Bx Cp r e Aq hx=>by obtain ⟨_,_,rfl,Aq⟩:=Aq; have m:=m.step e; exact c_impl_Check_1 fu _ Aq hx⟩ Bs) fun Db e a k m=>pN 1 k z fun a k=>nn (cI h k z (fun Bh h=>?_) fun Bh h=>?_)
 · refine wr (pN 1 k z fun a k=>nn (wp_ret (rt_then ?_)))
   refine fS h k m z z
 refine wp_skip (nm_then ?_)
 exact ⟨k.keep [2,3] z,m.sel [1,0] z (by decide),h⟩
theorem c_impl_Feasible (fu:Nat) {w0:World} (r1:Request) (x5:Plan) {Ah:List Value} {F3:List Nat} (Am:rd w0 F3 Ah r1) {Ab:List Value} {F7:List Nat} (Ap:rd w0 F7 Ab x5) {r:Bool}
    (h:d_impl_Feasible fu r1 x5 = some r) :
    Calls Tryz.prog 38 #[.agg Ah.toArray,.agg Ab.toArray] w0 fun e w=>e = .returned (.bool (r)) ∧ Ext [] w0 w:=by
 refine enter (vs:=[_,_]) func38 z ntmps38 z fun a k=>?_
 have m:=St.start w0
 obtain ⟨v9,Au,Ae,Bb,Ak,As,rfl,rfl,Ac,Ai,Ag⟩:=Am
 obtain ⟨Aj,Ay,Af,Ax,rfl,rfl,Ad,Aa⟩:=Ap
 unfold d_impl_Feasible at h
 refine wr (s_box (cs:=[I r1.fWay,I r1.fPallet.fW,I r1.fPallet.fD,I r1.fPallet.fH,I r1.fPallet.fGram,I r1.fClasses,v9,Ae,I r1.fMaster,Ak]) m k z z z z z z fun Av Aw a k m e Ao=>s_box (cs:=[Aj,Af]) m k z z z z z z fun Ar Az a k m e Aq=>pN 1 k z fun a k=>nn (wr (sv k z (r_ldB ta38 m 1 Ao 0 k z z z z z z) fun a k=>sv k z (r_ldB ta58 m 0 Aq 0 k z z z z z z) fun a k=>oE h fun At Al h=>?_)))
 refine cE k m call35 z z z (c_impl_Check fu _ _ (show rd _ _ [I r1.fWay,I r1.fPallet.fW,I r1.fPallet.fD,I r1.fPallet.fH,I r1.fPallet.fGram,I r1.fClasses,v9,Ae,I r1.fMaster,Ak] (r1:Request) from ⟨_,_,_,_,_,_,z,z,(Enc.rd_agr Ac (m.a00 (Enc.rd_lt Ac))),(Enc.rd_agr Ai (m.a00 (Enc.rd_lt Ai))),(Enc.rd_agr Ag (m.a00 (Enc.rd_lt Ag)))⟩) (show rd _ _ [Aj,Af] (x5:Plan) from ⟨_,_,_,_,z,z,(Enc.rd_agr Ad (m.a00 (Enc.rd_lt Ad))),(Enc.rd_agr Aa (m.a00 (Enc.rd_lt Aa)))⟩) Al) fun Ba e a k m=>pN 2 k z fun a k=>nn (wp_ret (fS h k m z z))

end Go.Proofs.YtkkfmjpbiimkbaaGreat
