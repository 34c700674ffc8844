/- FnExactFeasible: the walks of functions that it reaches (ExactFeasibleBWi,part 3). Printed by gen.py. -/
import Derived.Test.YtkkfmjpbiimkbaaGreatExactFeasibleBWi2
set_option maxRecDepth 20000
set_option linter.unusedSimpArgs false
set_option linter.unusedVariables false
namespace Go.Proofs.YtkkfmjpbiimkbaaGreat
open Go Go.RowKit
open Enc (rd ow)
open Arg (argv)
open Ret (retv)
open Go.Proofs.Tryz

theorem c_impl_placed (fu:Nat) {w0:World} (b1:Box) (Aa:Spot)  {r:Bool}
    (h:d_impl_placed fu b1 Aa = some r) :
    Calls Tryz.prog 156 #[.agg (Flat.e (b1)).toArray,.agg (Flat.e (Aa)).toArray] w0 fun e w=>e = .returned (.bool (r)) ∧ Ext [] w0 w:=by
 refine enter (vs:=[_,_]) func156 z ntmps156 z fun a k=>?_
 have m:=St.start w0
 unfold d_impl_placed at h
 refine wr (s_box (cs:=[I b1.fW,I b1.fD,I b1.fH,I b1.fGram]) m k z z z z z z fun b3 w5 a k m e Ag=>s_box (cs:=[I Aa.fPallet,I Aa.fX,I Aa.fY,I Aa.fZ]) m k z z z z z z fun b6 w9 a k m e Ah=>pN 1 k z fun a k=>nn (wr (sv k z (r_fa fa86_0 k z z) fun a k=>sv k z (r_ldb t13 m 1 Ag 0 k z z z z z) fun a k=>oE h fun Ao Am h=>cE k m call153 z z z (c_impl_isPlace fu _  Am) fun Av e a k m=>pN 1 k z fun a k=>bsplit (Ao) (fun Af=>?_) (fun Af=>?_))))
 · have h:=bif_t Af h
   refine rB k 8 z Af fun k=>sv k z (r_fa fa86_1 k z z) fun a k=>sv k z (r_ldb t13 m 1 Ag 1 k z z z z z) fun a k=>oE h fun Ar Al h=>cE k m call153 z z z (c_impl_isPlace fu _  Al) fun Ba e a k m=>pN 2 k z fun a k=>bsplit (Ar) (fun Ae=>?_) (fun Ae=>?_)
   · have h:=bif_t Ae h
     refine rB k 13 z Ae fun k=>sv k z (r_fa fa86_2 k z z) fun a k=>sv k z (r_ldb t13 m 1 Ag 2 k z z z z z) fun a k=>oE h fun Aq Ap h=>cE k m call153 z z z (c_impl_isPlace fu _  Ap) fun Az e a k m=>pN 2 k z fun a k=>bsplit (Aq) (fun Ac=>?_) (fun Ac=>?_)
     · have h:=bif_t Ac h
       refine rB k 18 z Ac fun k=>sv k z (r_fa fa89_1 k z z) fun a k=>sv k z (r_ldb t13 m 0 Ah 1 k z z z z z) fun a k=>oE h fun Ai At h=>cE k m call153 z z z (c_impl_isPlace fu _  At) fun Ax e a k m=>pN 2 k z fun a k=>bsplit (Ai) (fun Ad=>?_) (fun Ad=>?_)
       · have h:=bif_t Ad h
         refine rB k 23 z Ad fun k=>sv k z (r_fa fa89_2 k z z) fun a k=>sv k z (r_ldb t13 m 0 Ah 2 k z z z z z) fun a k=>oE h fun Aj Ak h=>cE k m call153 z z z (c_impl_isPlace fu _  Ak) fun Ay e a k m=>pN 2 k z fun a k=>bsplit (Aj) (fun Ab=>?_) (fun Ab=>?_)
         · have h:=bif_t Ab h
           refine rB k 28 z Ab fun k=>sv k z (r_fa fa89_3 k z z) fun a k=>sv k z (r_ldb t13 m 0 Ah 3 k z z z z z) fun a k=>oE h fun Au As h=>cE k m call153 z z z (c_impl_isPlace fu _  As) fun Aw e a k m=>pN 2 k z fun a k=>?_
           have k:=k.keep [4] z
           refine nn (wp_ret (fS h k m z z))
         have h:=bif_f Ab h
         refine rB k 28 z Ab fun k=>pN 5 k z fun a k=>?_
         have k:=k.keep [4] z
         refine nn (wp_ret (fS h k m z z))
       have h:=bif_f Ad h
       refine rB k 23 z Ad fun k=>pN 10 k z fun a k=>?_
       have k:=k.keep [4] z
       refine nn (wp_ret (fS h k m z z))
     have h:=bif_f Ac h
     refine rB k 18 z Ac fun k=>pN 15 k z fun a k=>?_
     have k:=k.keep [4] z
     refine nn (wp_ret (fS h k m z z))
   have h:=bif_f Ae h
   refine rB k 13 z Ae fun k=>pN 20 k z fun a k=>?_
   have k:=k.keep [4] z
   refine nn (wp_ret (fS h k m z z))
 have h:=bif_f Af h
 refine rB k 8 z Af fun k=>pN 25 k z fun a k=>?_
 have k:=k.keep [4] z
 refine nn (wp_ret (fS h k m z z))
theorem c_impl_cross (fu:Nat) {w0:World} (a1:Int) (Ac:Int) (b3:Int) (Ab:Int)  {r:Bool}
    (h:d_impl_cross fu a1 Ac b3 Ab = some r) :
    Calls Tryz.prog 157 #[I a1,I Ac,I b3,I Ab] w0 fun e w=>e = .returned (.bool (r)) ∧ Ext [] w0 w:=by
 refine enter (vs:=[_,_,_,_]) func157 z ntmps157 z fun a k=>?_
 have m:=St.start w0
 unfold d_impl_cross at h
 refine wr (pN 1 k z fun a k=>nn (wr (pN 6 k z fun a k=>bsplit (decide (a1 < (w64 (b3 + Ab)))) (fun Aa=>?_) (fun Aa=>?_))))
 · have h:=bif_t Aa h
   refine rB k 14 z Aa fun k=>pN 7 k z fun a k=>nn (wp_ret (fS h k m z z))
 have h:=bif_f Aa h
 refine rB k 14 z Aa fun k=>pN 7 k z fun a k=>nn (wp_ret (fS h k m z z))
theorem c_impl_Overlap (fu:Nat) {w0:World} (a1:Box) (Aa:Spot) (b3:Box) (t4:Spot)  {r:Bool}
    (h:d_impl_Overlap fu a1 Aa b3 t4 = some r) :
    Calls Tryz.prog 57 #[.agg (Flat.e (a1)).toArray,.agg (Flat.e (Aa)).toArray,.agg (Flat.e (b3)).toArray,.agg (Flat.e (t4)).toArray] w0 fun e w=>e = .returned (.bool (r)) ∧ Ext [] w0 w:=by
 refine enter (vs:=[_,_,_,_]) func57 z ntmps57 z fun a k=>?_
 have m:=St.start w0
 unfold d_impl_Overlap at h
 refine wr (s_box (cs:=[I a1.fW,I a1.fD,I a1.fH,I a1.fGram]) m k z z z z z z fun b5 w7 a k m e Ah=>s_box (cs:=[I Aa.fPallet,I Aa.fX,I Aa.fY,I Aa.fZ]) m k z z z z z z fun b8 Au a k m e Ae=>s_box (cs:=[I b3.fW,I b3.fD,I b3.fH,I b3.fGram]) m k z z z z z z fun Aj Ap a k m e Ai=>s_box (cs:=[I t4.fPallet,I t4.fX,I t4.fY,I t4.fZ]) m k z z z z z z fun Ak Ar a k m e Ac=>pN 1 k z fun a k=>nn ?_)
 refine c_cut (fun a w=>K 57 [(4,.pointer (some (⟨b5,0,none⟩:Addr))),(5,.pointer (some (⟨b8,0,none⟩:Addr))),(6,.pointer (some (⟨Aj,0,none⟩:Addr))),(7,.pointer (some (⟨Ak,0,none⟩:Addr)))] a ∧ St [] w0 w [([b5],w7),([b8],Au),([Aj],Ap),([Ak],Ar)] ∧ d_impl_Overlap_J1 fu a1 Aa b3 t4 = some r) ?_ ?_
 · rintro a Ba ⟨k,m,h⟩
   unfold d_impl_Overlap_J1 at h
   refine wr (sv k z (r_fa fa89_1 k z z) fun a k=>sv k z (r_ldb t13 m 1 Ae 1 k z z z z z) fun a k=>sv k z (r_fa fa86_0 k z z) fun a k=>sv k z (r_ldb t13 m 0 Ah 0 k z z z z z) fun a k=>sv k z (r_fa fa89_1 k z z) fun a k=>sv k z (r_ldb t13 m 3 Ac 1 k z z z z z) fun a k=>sv k z (r_fa fa86_0 k z z) fun a k=>sv k z (r_ldb t13 m 2 Ai 0 k z z z z z) fun a k=>oE h fun Ao Ax h=>cE k m call157 z z z (c_impl_cross fu _ _ _ _  Ax) fun Be e a k m=>pN 1 k z fun a k=>bsplit (Ao) (fun Af=>?_) (fun Af=>?_))
   · have h:=bif_t Af h
     refine rB k 35 z Af fun k=>sv k z (r_fa fa89_2 k z z) fun a k=>sv k z (r_ldb t13 m 1 Ae 2 k z z z z z) fun a k=>sv k z (r_fa fa86_1 k z z) fun a k=>sv k z (r_ldb t13 m 0 Ah 1 k z z z z z) fun a k=>sv k z (r_fa fa89_2 k z z) fun a k=>sv k z (r_ldb t13 m 3 Ac 2 k z z z z z) fun a k=>sv k z (r_fa fa86_1 k z z) fun a k=>sv k z (r_ldb t13 m 2 Ai 1 k z z z z z) fun a k=>oE h fun Al At h=>cE k m call157 z z z (c_impl_cross fu _ _ _ _  At) fun Az e a k m=>pN 2 k z fun a k=>bsplit (Al) (fun Ag=>?_) (fun Ag=>?_)
     · have h:=bif_t Ag h
       refine rB k 46 z Ag fun k=>sv k z (r_fa fa89_3 k z z) fun a k=>sv k z (r_ldb t13 m 1 Ae 3 k z z z z z) fun a k=>sv k z (r_fa fa86_2 k z z) fun a k=>sv k z (r_ldb t13 m 0 Ah 2 k z z z z z) fun a k=>sv k z (r_fa fa89_3 k z z) fun a k=>sv k z (r_ldb t13 m 3 Ac 3 k z z z z z) fun a k=>sv k z (r_fa fa86_2 k z z) fun a k=>sv k z (r_ldb t13 m 2 Ai 2 k z z z z z) fun a k=>oE h fun Bb Av h=>cE k m call157 z z z (c_impl_cross fu _ _ _ _  Av) fun Bd e a k m=>pN 2 k z fun a k=>?_
       have k:=k.keep [8] z
       refine nn (wp_ret (fS h k m z z))
     have h:=bif_f Ag h
     refine rB k 46 z Ag fun k=>pN 11 k z fun a k=>?_
     have k:=k.keep [8] z
     refine nn (wp_ret (fS h k m z z))
   have h:=bif_f Af h
   refine rB k 35 z Af fun k=>pN 22 k z fun a k=>?_
   have k:=k.keep [8] z
   refine nn (wp_ret (fS h k m z z))
 refine wr (sv k z (r_ldB ta86 m 3 Ah 0 k z z z z z z) fun a k=>sv k z (r_ldB ta89 m 2 Ae 0 k z z z z z z) fun a k=>oE h fun Aw Ay h=>cE k m call156 z z z (c_impl_placed fu (a1:Box) (Aa:Spot)  Ay) fun Bc e a k m=>pN 2 k z fun a k=>bsplit (!Aw) (fun Ad=>?_) (fun Ad=>?_))
 · have h:=bif_t Ad h
   refine rB k 13 z Ad fun k=>pN 12 k z fun a k=>nn (wp_cond_true (k.ev z) (wr (pN 1 k z fun a k=>nn (wp_ret (rt_then ?_)))))
   refine fS h k m z z
 have h:=bif_f Ad h
 refine rB k 13 z Ad fun k=>sv k z (r_ldB ta86 m 1 Ai 0 k z z z z z z) fun a k=>sv k z (r_ldB ta89 m 0 Ac 0 k z z z z z z) fun a k=>oE h fun Aq As h=>cE k m call156 z z z (c_impl_placed fu (b3:Box) (t4:Spot)  As) fun Bf e a k m=>pN 3 k z fun a k=>bsplit (!Aq) (fun Ab=>?_) (fun Ab=>?_)
 · have h:=bif_t Ab h
   refine rB k 19 z Ab fun k=>pN 6 k z fun a k=>nn (wp_cond_true (k.ev z) (wr (pN 1 k z fun a k=>nn (wp_ret (rt_then ?_)))))
   refine fS h k m z z
 have h:=bif_f Ab h
 refine rB k 19 z Ab fun k=>sv k z (r_fa fa89_0 k z z) fun a k=>sv k z (r_ldb t13 m 2 Ae 0 k z z z z z) fun a k=>sv k z (r_fa fa89_0 k z z) fun a k=>sv k z (r_ldb t13 m 0 Ac 0 k z z z z z) fun a k=>pN 2 k z fun a k=>nn (cI h k z (fun Am h=>?_) fun Am h=>?_)
 · refine wr (pN 1 k z fun a k=>nn (wp_ret (rt_then ?_)))
   refine fS h k m z z
 refine wp_skip (nm_then ?_)
 exact ⟨k.keep [4,5,6,7] z,m.sel [3,2,1,0] z (by decide),h⟩
theorem c_impl_Pallets (fu:Nat) {w0:World} (Ab:List Spot) {v2:Value} {F3:List Nat} (Af:rd w0 F3 [v2] Ab) {r:Int}
    (h:d_impl_Pallets fu Ab = some r) :
    Calls Tryz.prog 58 #[v2] w0 fun e w=>e = .returned (I r) ∧ Ext [] w0 w:=by
 refine enter (vs:=[_]) func58 z ntmps58 z fun a k=>?_
 have m:=St.start w0
 unfold d_impl_Pallets at h
 refine wr (pN 1 k z fun a k=>nn (wr (pN 1 k z fun a k=>nn (wp_seq (wr (pN 1 k z fun a k=>sv k z (r_len (α:=Spot) Af k underlying56 z z) fun a k=>pN 1 k z fun a k=>nn (wp_block (c_loop (fun n a w=>∃ (Ad:Int) (Aa:Int),K 22 [(3,I Ad),(6,v2),(7,I ((Ab.length:Int))),(8,I Aa)] a ∧ St [] w0 w [] ∧ d_impl_Pallets_L1 fu Ab n Ad Aa = some r) ?_ ?_ fu _ _ ?_))))))))
 · rintro a w ⟨_,_,_,_,h⟩
   exact nS h
 · rintro Al a Aq ⟨Ad,Aa,k,m,h⟩
   rw [d_impl_Pallets_L1_s] at h
   unfold d_impl_Pallets_L1_B at h
   refine wr (pN 1 k z fun a k=>nn (wp_seq (cI h k z (fun Aj h=>?_) fun Aj h=>?_)))
   · refine wp_skip (nm_then ?_)
     refine c_cut (fun a w=>∃ (Ae:Int),K 22 [(3,I Ae),(6,v2),(7,I ((Ab.length:Int))),(8,I Aa)] a ∧ St [] w0 w [] ∧ d_impl_Pallets_J1 fu (d_impl_Pallets_L1 fu Ab Al) Aa Ae = some r) ?_ ?_
     · rintro a At ⟨Ae,k,m,h⟩
       unfold d_impl_Pallets_J1 at h
       refine wp_region_lit (pN 2 k z fun a k=>nn ?_)
       exact ⟨Ae,w64 (Aa + 1),k.keep [3,6,7,8] z,m.sel [] z (by decide),h⟩
     refine wp_block (wr (oE h fun Ac Ah h=>sv k z (r_ixa Af Ah k ts56 z z z) fun a k=>sv k z (r_lde Af (m.a00 (Enc.rd_lt Af)) Ah ta89 k z z) fun a k=>s_alloc (cs:=[I 0,I 0,I 0,I 0]) m k zeroValue89 z z z z z fun Ap Ar a k m e Am=>s_stb (cs':=[I Ac.fPallet,I Ac.fX,I Ac.fY,I Ac.fZ]) sizeOf89 m 0 Am 0 k z z z z z z z z z z z fun Ao a k e m Ag=>nn (wr (sv k z (r_fa fa89_0 k z z) fun a k=>sv k z (r_ldb t13 m 0 Ag 0 k z z z z z) fun a k=>oE h fun As Ak h=>cE k m call139 z z z (c_impl_in fu _ _ _  Ak) fun Au e a k m=>nn (cI h k z (fun Ai h=>?_) fun Ai h=>?_)))))
     · refine wp_region_lit (pN 1 k z fun a k=>sv k z (r_fa fa89_0 k z z) fun a k=>sv k z (r_ldb t13 m 0 Ag 0 k z z z z z) fun a k=>pN 3 k z fun a k=>wpList_nil (nm_block (nm_then ?_)))
       exact ⟨if (w64 (Ac.fPallet + 1)) > Ad then w64 (Ac.fPallet + 1) else Ad,k.keep [3,6,7,8] z,m.sel [] z (by decide),h⟩
     refine wp_skip (nm_block (nm_then ?_))
     exact ⟨Ad,k.keep [3,6,7,8] z,m.sel [] z (by decide),h⟩
   refine wp_exit (ex_then (ex_then (ex_same (nm_then ?_))))
   refine wr (pN 2 k z fun a k=>nn (wp_ret (fS h k m z z)))
 exact ⟨0,0,k.keep [3,6,7,8] z,m.sel [] z (by decide),h⟩
theorem c_impl_OnPallet (fu:Nat) {w0:World} (x1:Plan) (Ab:Int) {Ar:List Value} {F3:List Nat} (Bl:rd w0 F3 Ar x1) {r:(List Int)}
    (h:d_impl_OnPallet fu x1 Ab = some r) :
    Calls Tryz.prog 60 #[.agg Ar.toArray,I Ab] w0 fun e w=>∃ (v0:Value) (G0:List Nat),e = .returned (v0) ∧ Ext [] w0 w ∧ ow w G0 [v0] r ∧ (∀ b ∈ G0,w0.heap.size ≤ b):=by
 refine enter (vs:=[_,_]) func60 z ntmps60 z fun a k=>?_
 have m:=St.start w0
 obtain ⟨v6,F7,v8,F9,rfl,rfl,Ax,Ad⟩:=Bl
 unfold d_impl_OnPallet at h
 refine wr (s_box (cs:=[v6,v8]) m k z z z z z z fun Bs Bo a k m e Am=>pN 1 k z fun a k=>nn (wp_seq (wr (sv k z (r_fa fa58_1 k z z) fun a k=>sv k z (r_ldb t156 m 0 Am 1 k z z z z z) fun a k=>sv k z (r_len (α:=Spot) Ad k underlying56 z z) fun a k=>sv k z (r_fa fa58_0 k z z) fun a k=>sv k z (r_ldb t155 m 0 Am 0 k z z z z z) fun a k=>sv k z (r_len (α:=Carton) Ax k underlying55 z z) fun a k=>pN 1 k z fun a k=>nn (cI h k z (fun Bb h=>?_) fun Bb h=>?_)))))
 · refine wr (pN 1 k z fun a k=>nn (wp_ret (rt_then ?_)))
   cases h
   exact finR1 k z (RV.tmp k z) ⟨_,[],z,m.ext,(ow_nil _),(by simp)⟩
 refine wp_skip (nm_then ?_)
 refine wr (s_bs (cs:=[]) (ps:=[]) te63 m k z z z z z z z (by decide) z (by exact (List.forall_mem_nil _)) fun Ap Av Bm a k m e Bh=>?_)
 have Az:=ow_bx Bh ([]:List Int) z z z
 refine pN 1 k z fun a k=>nn (wp_seq (wr (sv k z (r_fa fa58_1 k z z) fun a k=>sv k z (r_ldb t156 m 1 Am 1 k z z z z z) fun a k=>sv k z (r_len (α:=Spot) Ad k underlying56 z z) fun a k=>pN 1 k z fun a k=>nn (wp_block (c_loop (fun n a w=>∃ (Ag:List Int) (Al:Value) (Ac:List Nat) (Aj:World) (Aa:Int),K 34 [(1,I Ab),(5,Al),(17,v8),(18,I ((x1.fSpots.length:Int))),(19,I Aa)] a ∧ St [] w0 w [(Ac,Aj)] ∧ ow Aj Ac [Al] Ag ∧ d_impl_OnPallet_L1 fu x1 Ab n Ag Aa = some r) ?_ ?_ fu _ _ ?_)))))
 · rintro a w ⟨_,_,_,_,_,_,_,_,h⟩
   exact nS h
 · rintro Aw a Bw ⟨Ag,Al,Ac,Aj,Aa,k,m,Ao,h⟩
   rw [d_impl_OnPallet_L1_s] at h
   unfold d_impl_OnPallet_L1_B at h
   refine wr (pN 1 k z fun a k=>nn (wp_seq (cI h k z (fun Bf h=>?_) fun Bf h=>?_)))
   · refine wp_skip (nm_then ?_)
     refine c_cut (fun a w=>∃ (Ak:List Int) (Ai:Value) (Ae:List Nat) (Af:World),K 34 [(1,I Ab),(5,Ai),(17,v8),(18,I ((x1.fSpots.length:Int))),(19,I Aa)] a ∧ St [] w0 w [(Ae,Af)] ∧ ow Af Ae [Ai] Ak ∧ d_impl_OnPallet_J1 fu (d_impl_OnPallet_L1 fu x1 Ab Aw) Aa Ak = some r) ?_ ?_
     · rintro a Bp ⟨Ak,Ai,Ae,Af,k,m,Bg,h⟩
       unfold d_impl_OnPallet_J1 at h
       refine wp_region_lit (pN 2 k z fun a k=>nn ?_)
       exact ⟨Ak,Ai,Ae,Af,w64 (Aa + 1),k.keep [1,5,17,18,19] z,m.sel [0] z (by decide),Bg,h⟩
     refine wp_block (wr (pN 1 k z fun a k=>oE h fun Ah Aq h=>sv k z (r_ixa Ad Aq k ts56 z z z) fun a k=>sv k z (r_lde Ad (m.a00 (Enc.rd_lt Ad)) Aq ta89 k z z) fun a k=>s_alloc (cs:=[I 0,I 0,I 0,I 0]) m k zeroValue89 z z z z z fun Bt Bv a k m e Bi=>pN 1 k z fun a k=>s_stb (cs':=[I Ah.fPallet,I Ah.fX,I Ah.fY,I Ah.fZ]) sizeOf89 m 0 Bi 0 k z z z z z z z z z z z fun Bq a k e m Be=>nn (wr (sv k z (r_fa fa89_0 k z z) fun a k=>sv k z (r_ldb t13 m 0 Be 0 k z z z z z) fun a k=>pN 2 k z fun a k=>nn (cI h k z (fun As h=>?_) fun As h=>?_)))))
     · refine wp_region_lit (pN 2 k z fun a k=>s_bs (cs:=[I Aa]) (ps:=[(0,.tmp 29)]) te63 m k z z z z z z z (by decide) z (by exact (List.forall_mem_cons.2 ⟨z,(List.forall_mem_nil _)⟩)) fun Bn Bu Br a k m e At=>?_)
       have Bk:=ow_bx At ([Aa]:List Int) z z z
       refine oE h fun Au Bd h=>s_appF Bd te63 z m 2 Ao (News.rd (Enc.rd_agr (Enc.ow_rd Bk) (m.a 0 z))) z z k z z z z z z z fun Bc Ba Bj a k e m Ay=>pN 1 k z fun a k=>wpList_nil (nm_block (nm_then ?_))
       exact ⟨Au,Bc,Ba,Bj,k.keep [1,5,17,18,19] z,m.sel [2] z (by decide),Ay,h⟩
     refine wp_skip (nm_block (nm_then ?_))
     exact ⟨Ag,Al,Ac,Aj,k.keep [1,5,17,18,19] z,m.sel [1] z (by decide),Ao,h⟩
   refine wp_exit (ex_then (ex_then (ex_same (nm_then ?_))))
   refine wr (pN 2 k z fun a k=>nn (wp_ret ?_))
   cases h
   exact finR1 k z (RV.tmp k z) ⟨_,Ac,z,m.ext,(Enc.ow_agr Ao (m.a 0 z)),(m.fresh 0 z)⟩
 exact ⟨([]:List Int),(.slice (some ⟨Ap,0,none⟩) 0 0),[Ap],Av,0,k.keep [1,5,17,18,19] z,m.sel [0] z (by decide),Az,h⟩
theorem c_impl_PalletGram (fu:Nat) {w0:World} (r1:Request) (x5:Plan) (Af:Int) {Ay:List Value} {F3:List Nat} (Bp:rd w0 F3 Ay r1) {Av:List Value} {F7:List Nat} (Bi:rd w0 F7 Av x5) {r:Int}
    (h:d_impl_PalletGram fu r1 x5 Af = some r) :
    Calls Tryz.prog 59 #[.agg Ay.toArray,.agg Av.toArray,I Af] w0 fun e w=>e = .returned (I r) ∧ Ext [] w0 w:=by
 refine enter (vs:=[_,_,_]) func59 z ntmps59 z fun a k=>?_
 have m:=St.start w0
 obtain ⟨Ao,Cc,Aq,Bu,Am,Br,rfl,rfl,Ak,Ax,Aw⟩:=Bp
 obtain ⟨Aj,Bv,At,Bt,rfl,rfl,Ab,Au⟩:=Bi
 unfold d_impl_PalletGram at h
 refine wr (s_box (cs:=[I r1.fWay,I r1.fPallet.fW,I r1.fPallet.fD,I r1.fPallet.fH,I r1.fPallet.fGram,I r1.fClasses,Ao,Aq,I r1.fMaster,Am]) m k z z z z z z fun Ah Bn a k m e Be=>s_box (cs:=[Aj,At]) m k z z z z z z fun As Bd a k m e Ar=>pN 1 k z fun a k=>nn (wr (pN 1 k z fun a k=>nn (wp_seq (wr (sv k z (r_ldB ta58 m 0 Ar 0 k z z z z z z) fun a k=>pN 1 k z fun a k=>oE h fun Ag Bj h=>s_call k call60 z z z z z (c_impl_OnPallet fu _ _ (show rd _ _ [Aj,At] (x5:Plan) from ⟨_,_,_,_,z,z,(Enc.rd_agr Ab (m.a00 (Enc.rd_lt Ab))),(Enc.rd_agr Au (m.a00 (Enc.rd_lt Au)))⟩) Bj) fun By Bg hR=>?_))))))
 obtain ⟨Bk,Al,rfl,e,Aa,Bm⟩:=hR
 refine ⟨_,z,fun a k=>?_⟩
 have m:=m.new e Al (fun b hb=>⟨Bm b hb,Enc.rd_lt (Enc.ow_rd Aa) b hb⟩) (Enc.ow_nd Aa)
 refine sv k z (r_len (α:=Int) (Enc.ow_rd Aa) k underlying63 z z) fun a k=>pN 1 k z fun a k=>nn (wp_block (c_loop (fun n a w=>∃ (Ad:Int) (Ac:Int),K 29 [(3,.pointer (some (⟨Ah,0,none⟩:Addr))),(4,.pointer (some (⟨As,0,none⟩:Addr))),(7,I Ad),(12,Bk),(13,I ((Ag.length:Int))),(14,I Ac)] a ∧ St [] w0 w [([Ah],Bn),([As],Bd),(Al,Bg)] ∧ d_impl_PalletGram_L1 fu r1 x5 Ag n Ad Ac = some r) ?_ ?_ fu _ _ ?_))
 · rintro a w ⟨_,_,_,_,h⟩
   exact nS h
 · rintro Bz a Bw ⟨Ad,Ac,k,m,h⟩
   rw [d_impl_PalletGram_L1_s] at h
   unfold d_impl_PalletGram_L1_B at h
   refine wr (pN 1 k z fun a k=>nn (wp_seq (cI h k z (fun Bo h=>?_) fun Bo h=>?_)))
   · refine wp_skip (nm_then ?_)
     refine wp_seq (wp_block (wr (oE h fun Bx Ai h=>sv k z (r_ixa (Enc.ow_rd Aa) Ai k ts63 z z z) fun a k=>sv k z (r_lde1 (Enc.ow_rd Aa) (m.a 2 z) Ai 0 t13 k z z z z) fun a k=>pN 1 k z fun a k=>nn (d_go [] mixo m z fun Ba hMd=>?_))))
     have m:=hMd
     have s:=Ext.refl ([]:List Nat) Ba
     refine dN [0,4] 2 z k (by kernel_rfl) z s (fun _ _ _ _ _=>id) fun a k=>dt k 1 z (by kernel_rfl) z s (fun _ _ _=>id) (fun w s=>r_ldA ta38 (Be.at ((hMd.step s).a 0 z) 0 10 z z z) z k z z) fun a k=>dt k 2 z (by kernel_rfl) z s (fun _ _ _=>id) (fun w s=>r_fa fa58_0 k z z) fun a k=>dt k 3 z (by kernel_rfl) z s (fun _ _ _=>id) (fun w s=>r_ld1 t155 (r:=[]) (Ar.at ((hMd.step s).a 1 z) 0 1 z z z) k z z) fun a k=>oE h fun Ae Ap h=>dt k 5 z (by kernel_rfl) z s (fun _ _ _=>id) (fun w s=>r_ixa Ab Ap k ts55 z z z) fun a k=>?_
     obtain ⟨Ca,Bs,Cd,Bb,Bf,Bc⟩:=rd_get Ab (ix_some Ap).2.2
     obtain ⟨Bq,_,rfl,rfl,Az⟩:=Bb
     refine dt k 6 z (by kernel_rfl) z s (fun _ _ _=>id) (fun w s=>r_ldA ta83 (Bf.agr ((hMd.step s).a00 (Enc.rd_lt Ab)) Bc) z k z z) fun a k=>d_one 7 (by kernel_rfl) z (oE h fun Bl Bh h=>cE k m call155 z z z (c_impl_Gross fu _ _ (show rd _ _ [I r1.fWay,I r1.fPallet.fW,I r1.fPallet.fD,I r1.fPallet.fH,I r1.fPallet.fGram,I r1.fClasses,Ao,Aq,I r1.fMaster,Am] (r1:Request) from ⟨_,_,_,_,_,_,z,z,(Enc.rd_agr Ak (m.a00 (Enc.rd_lt Ak))),(Enc.rd_agr Ax (m.a00 (Enc.rd_lt Ax))),(Enc.rd_agr Aw (m.a00 (Enc.rd_lt Aw)))⟩) (show rd _ _ [I Ae.fType,I Ae.fGroup,Bq] (Ae:Carton) from ⟨_,_,z,z,(Enc.rd_agr Az (m.a00 (Enc.rd_lt Az)))⟩) Bh) fun Cb e a k m=>?_)
     have s:=s.trans e (by simp)
     refine wpList_nil ⟨s,?_⟩
     refine dN [8,9] 2 z k (by kernel_rfl) z s (fun _ _ _ _ _=>id) fun a k=>d_done (by kernel_rfl) ((nm_block (nm_then ?_)))
     refine wp_region_lit (pN 2 k z fun a k=>nn ?_)
     exact ⟨w64 (Ad + Bl),w64 (Ac + 1),k.keep [3,4,7,12,13,14] z,m.sel [0,1,2] z (by decide),h⟩
   refine wp_exit (ex_then (ex_then (ex_same (nm_then ?_))))
   refine wr (pN 2 k z fun a k=>nn (wp_ret (fS h k m z z)))
 exact ⟨0,0,k.keep [3,4,7,12,13,14] z,m.sel [2,1,0] z (by decide),h⟩
theorem c_impl_spotFault_1 (fu:Nat) {w0:World} (i1:Int) (x2:Plan) (Ag:List Int) {v5:Value} {F6:List Nat} {v8:Value} {F9:List Nat} {b3:Nat} (Ab:bx w0 b3 [v5,v8] 58) (Aa:rd w0 F6 [v5] x2.fCartons) (Be:rd w0 F9 [v8] x2.fSpots) {Ai:Value} {Am:List Nat} {Aj:Nat} (Ah:bx w0 Aj [Ai] 63) (Ac:rd w0 Am [Ai] Ag) {r:Bool}
    (h:d_impl_spotFault_1 fu i1 x2 Ag = some r) :
    Calls Tryz.prog 227 #[I i1,.pointer (some (⟨b3,0,none⟩:Addr)),.pointer (some (⟨Aj,0,none⟩:Addr))] w0 fun e w=>e = .returned (.bool (r)) ∧ Ext [] w0 w:=by
 refine enter (vs:=[_,_,_]) func227 z ntmps227 z fun a k=>?_
 have m:=St.start w0
 unfold d_impl_spotFault_1 at h
 refine wr (pN 1 k z fun a k=>nn (wp_seq (d_go [] mixo m z fun Al hMd=>?_)))
 have m:=hMd
 have s:=Ext.refl ([]:List Nat) Al
 refine dN [2] 1 z k (by kernel_rfl) z s (fun _ _ _ _ _=>id) fun a k=>dt k 0 z (by kernel_rfl) z s (fun _ _ _=>id) (fun w s=>r_fa fa58_0 k z z) fun a k=>dt k 1 z (by kernel_rfl) z s (fun _ _ _=>id) (fun w s=>r_ld1 t155 (r:=[]) (Ab.at ((hMd.step s).a00 Ab.lt1) 0 1 z z z) k z z) fun a k=>oE h fun Aw Ad h=>dt k 3 z (by kernel_rfl) z s (fun _ _ _=>id) (fun w s=>r_ixa Aa Ad k ts55 z z z) fun a k=>dt k 4 z (by kernel_rfl) z s (fun _ _ _=>id) (fun w s=>r_fa fa83_1 k z z) fun a k=>?_
 obtain ⟨Ax,Av,Bb,Aq,Ap,Ar⟩:=rd_get Aa (ix_some Ad).2.2
 obtain ⟨Bd,_,rfl,rfl,Bf⟩:=Aq
 refine dt k 5 z (by kernel_rfl) z s (fun _ _ _=>id) (fun w s=>r_ld1 t13 ((Ap.agr ((hMd.step s).a00 (Enc.rd_lt Aa)) Ar).fld 1 1 (Nat.le_of_ble_eq_true z)) k z z) fun a k=>dt k 6 z (by kernel_rfl) z s (fun _ _ _=>id) (fun w s=>r_fa fa58_0 k z z) fun a k=>dt k 7 z (by kernel_rfl) z s (fun _ _ _=>id) (fun w s=>r_ld1 t155 (r:=[]) (Ab.at ((hMd.step s).a00 Ab.lt1) 0 1 z z z) k z z) fun a k=>dt k 8 z (by kernel_rfl) z s (fun _ _ _=>id) (fun w s=>r_ld1 t163 (r:=[]) (Ah.at ((hMd.step s).a00 Ah.lt1) 0 1 z z z) k z z) fun a k=>oE h fun Bg Af h=>dt k 9 z (by kernel_rfl) z s (fun _ _ _=>id) (fun w s=>r_ixa Ac Af k ts63 z z z) fun a k=>?_
 refine dt k 10 z (by kernel_rfl) z s (fun _ _ _=>id) (fun w s=>r_lde1 Ac ((hMd.step s).a00 (Enc.rd_lt Ac)) Af 0 t13 k z z z z) fun a k=>oE h fun Au Ae h=>dt k 11 z (by kernel_rfl) z s (fun _ _ _=>id) (fun w s=>r_ixa Aa Ae k ts55 z z z) fun a k=>dt k 12 z (by kernel_rfl) z s (fun _ _ _=>id) (fun w s=>r_fa fa83_1 k z z) fun a k=>?_
 obtain ⟨Ay,Bc,Ba,Ao,Ak,As⟩:=rd_get Aa (ix_some Ae).2.2
 obtain ⟨Az,_,rfl,rfl,At⟩:=Ao
 refine dt k 13 z (by kernel_rfl) z s (fun _ _ _=>id) (fun w s=>r_ld1 t13 ((Ak.agr ((hMd.step s).a00 (Enc.rd_lt Aa)) As).fld 1 1 (Nat.le_of_ble_eq_true z)) k z z) fun a k=>dN [14,15] 2 z k (by kernel_rfl) z s (fun _ _ _ _ _=>id) fun a k=>d_done (by kernel_rfl) ((nm_then ?_))
 refine wp_ret (fS h k m z z)
theorem c_impl_spotFault (fu:Nat) {w0:World} (r1:Request) (x5:Plan) {Bl:List Value} {F3:List Nat} (Cd:rd w0 F3 Bl r1) {Bi:List Value} {F7:List Nat} (Cn:rd w0 F7 Bi x5) {r:Int}
    (h:d_impl_spotFault fu r1 x5 = some r) :
    Calls Tryz.prog 125 #[.agg Bl.toArray,.agg Bi.toArray] w0 fun e w=>e = .returned (I r) ∧ Ext [] w0 w:=by
 refine enter (vs:=[_,_]) func125 z ntmps125 z fun a k=>?_
 have m:=St.start w0
 obtain ⟨v9,Ex,Bd,Ff,Bc,Ej,rfl,rfl,Ba,Ay,Av⟩:=Cd
 obtain ⟨Ax,Eg,Bf,Em,rfl,rfl,Ad,Aa⟩:=Cn
 unfold d_impl_spotFault at h
 refine wr (s_box (cs:=[I r1.fWay,I r1.fPallet.fW,I r1.fPallet.fD,I r1.fPallet.fH,I r1.fPallet.fGram,I r1.fClasses,v9,Bd,I r1.fMaster,Bc]) m k z z z z z z fun Ac Am a k m e Az=>s_box (cs:=[Ax,Bf]) m k z z z z z z fun Ab Al a k m e Af=>pN 1 k z fun a k=>nn (wr (s_bs (cs:=[]) (ps:=[]) te149 m k z z z z z z z (by decide) z (by exact (List.forall_mem_nil _)) fun Bq Da Ei a k m e Cy=>?_)))
 have Bw:=ow_bx Cy ([]:List Box) z z z
 refine pN 1 k z fun a k=>nn (wp_seq (wr (sv k z (r_fa fa58_0 k z z) fun a k=>sv k z (r_ldb t155 m 1 Af 0 k z z z z z) fun a k=>sv k z (r_len (α:=Carton) Ad k underlying55 z z) fun a k=>pN 1 k z fun a k=>nn (wp_block (c_loop (fun n a w=>∃ (Ah:List Box) (Aq:Value) (At:List Nat) (Ar:World) (Au:Int),K 96 [(2,.pointer (some (⟨Ac,0,none⟩:Addr))),(3,.pointer (some (⟨Ab,0,none⟩:Addr))),(5,Aq),(15,Ax),(16,I ((x5.fCartons.length:Int))),(17,I Au)] a ∧ St [] w0 w [([Ac],Am),([Ab],Al),(At,Ar)] ∧ ow Ar At [Aq] Ah ∧ d_impl_spotFault_L4 fu r1 x5 n Ah Au = some r) ?_ ?_ fu _ _ ?_)))))
 · rintro a w ⟨_,_,_,_,_,_,_,_,h⟩
   exact nS h
 · rintro Fd a Dx ⟨Ah,Aq,At,Ar,Au,k,m,Ao,h⟩
   rw [d_impl_spotFault_L4_s] at h
   unfold d_impl_spotFault_L4_B at h
   refine wr (pN 1 k z fun a k=>nn (wp_seq (cI h k z (fun Ca h=>?_) fun Ca h=>?_)))
   · refine wp_skip (nm_then ?_)
     refine wp_seq (wp_block (wr (pN 1 k z fun a k=>oE h fun As Bj h=>sv k z (r_ixa Ad Bj k ts55 z z z) fun a k=>?_)))
     obtain ⟨Et,Dz,Ez,Ct,Dr,Cc⟩:=rd_get Ad (ix_some Bj).2.2
     obtain ⟨Br,_,rfl,rfl,Bb⟩:=Ct
     refine sv k z (r_ldA ta83 (Dr.agr (m.a00 (Enc.rd_lt Ad)) Cc) z k z z) fun a k=>s_alloc (cs:=[I 0,I 0,.slice none 0 0]) m k zeroValue83 z z z z z fun En Fb a k m e Cl=>pN 1 k z fun a k=>s_stb (cs':=[I As.fType,I As.fGroup,Br]) sizeOf83 m 0 Cl 0 k z z z z z z z z z z (allc z (allc z (allc (rd_o Bb) alln))) fun El a k e m Ch=>nn (wr (sv k z (r_ldB ta38 m 1 Az 0 k z z z z z z) fun a k=>sv k z (r_ldB ta83 m 0 Ch 0 k z z z z z z) fun a k=>oE h fun Ae Dg h=>?_))
     refine cE k m call56 z z z (c_impl_BoxOf fu _ _ (show rd _ _ [I r1.fWay,I r1.fPallet.fW,I r1.fPallet.fD,I r1.fPallet.fH,I r1.fPallet.fGram,I r1.fClasses,v9,Bd,I r1.fMaster,Bc] (r1:Request) from ⟨_,_,_,_,_,_,z,z,(Enc.rd_agr Ba (m.a00 (Enc.rd_lt Ba))),(Enc.rd_agr Ay (m.a00 (Enc.rd_lt Ay))),(Enc.rd_agr Av (m.a00 (Enc.rd_lt Av)))⟩) (show rd _ _ [I As.fType,I As.fGroup,Br] (As:Carton) from ⟨_,_,z,z,(Enc.rd_agr Bb (m.a00 (Enc.rd_lt Bb)))⟩) Dg) fun Ee e a k m=>s_alloc (cs:=[I 0,I 0,I 0,I 0]) m k zeroValue86 z z z z z fun Ey Ep a k m e Cf=>?_
     refine s_stb (cs':=[I Ae.fW,I Ae.fD,I Ae.fH,I Ae.fGram]) sizeOf86 m 0 Cf 0 k z z z z z z z z z z z fun Eu a k e m Bs=>nn (wp_seq (wp_seq (d_go [] mixo m z fun Dl hMd=>?_)))
     have m:=hMd
     have s:=Ext.refl ([]:List Nat) Dl
     refine dN [5] 1 z k (by kernel_rfl) z s (fun _ _ _ _ _=>id) fun a k=>dt k 0 z (by kernel_rfl) z s (fun _ _ _=>id) (fun w s=>r_fa fa38_1 k z z) fun a k=>dt k 1 z (by kernel_rfl) z s (fun _ _ _=>id) (fun w s=>r_ldA ta33 (Az.at ((hMd.step s).a 2 z) 1 4 z z z) z k z z) fun a k=>dt k 2 z (by kernel_rfl) z s (fun _ _ _=>id) (fun w s=>r_ldA ta86 (Bs.at ((hMd.step s).a 0 z) 0 4 z z z) z k z z) fun a k=>dt k 3 z (by kernel_rfl) z s (fun _ _ _=>id) (fun w s=>r_fa fa58_1 k z z) fun a k=>dt k 4 z (by kernel_rfl) z s (fun _ _ _=>id) (fun w s=>r_ld1 t156 (r:=[]) (Af.at ((hMd.step s).a 3 z) 1 1 z z z) k z z) fun a k=>oE h fun Cz Bp h=>?_
     refine dt k 6 z (by kernel_rfl) z s (fun _ _ _=>id) (fun w s=>r_ixa Aa Bp k ts56 z z z) fun a k=>dt k 7 z (by kernel_rfl) z s (fun _ _ _=>id) (fun w s=>r_lde Aa ((hMd.step s).a00 (Enc.rd_lt Aa)) Bp ta89 k z z) fun a k=>d_one 8 (by kernel_rfl) z (oE h fun Eh Dp h=>cE k m call55 z z z (c_impl_Within fu (r1.fPallet:Pallet) (Ae:Box) (Cz:Spot)  Dp) fun Fg e a k m=>?_)
     have s:=s.trans e (by simp)
     refine wpList_nil ⟨s,?_⟩
     refine dN [9] 1 z k (by kernel_rfl) z s (fun _ _ _ _ _=>id) fun a k=>d_done (by kernel_rfl) ((nm_then ?_))
     refine cI h k z (fun Ci h=>?_) fun Ci h=>?_
     · refine wr (pN 1 k z fun a k=>nn (wp_ret (rt_then (rt_block (rt_then (rt_then (rt_block (rt_then ?_))))))))
       refine fS h k m z z
     refine wp_skip (nm_then ?_)
     refine wp_region_lit (pN 1 k z fun a k=>sv k z (r_ldB ta86 m 0 Bs 0 k z z z z z z) fun a k=>s_bs (cs:=[I Ae.fW,I Ae.fD,I Ae.fH,I Ae.fGram]) (ps:=[(0,.tmp 36)]) te149 m k z z z z z z z (by decide) z (by exact (List.forall_mem_cons.2 ⟨z,(List.forall_mem_nil _)⟩)) fun Dy Fa Fc a k m e Cx=>?_)
     have Cb:=ow_bx Cx ([Ae]:List Box) z z z
     refine oE h fun Dd Di h=>s_appF Di te149 z m 5 Ao (News.rd (Enc.rd_agr (Enc.ow_rd Cb) (m.a 0 z))) z z k z z z z z z z fun Cv Cu Do a k e m De=>pN 1 k z fun a k=>?_
     have k:=k.keep [2,3,15,16,5,17] z
     refine wpList_nil (nm_block (nm_then ?_))
     refine wp_region_lit (pN 2 k z fun a k=>nn ?_)
     exact ⟨Dd,Cv,Cu,Do,w64 (Au + 1),k.keep [2,3,5,15,16,17] z,m.sel [3,4,5] z (by decide),De,h⟩
   refine wp_exit (ex_then (ex_then (ex_same (nm_then ?_))))
   refine wp_seq (wr (pN 1 k z fun a k=>sv k z (r_len (α:=Box) (Enc.ow_rd Ao) k underlying149 z z) fun a k=>pN 1 k z fun a k=>nn (wp_block (c_loop (fun n a w=>∃ (Ai:Int),K 96 [(2,.pointer (some (⟨Ac,0,none⟩:Addr))),(3,.pointer (some (⟨Ab,0,none⟩:Addr))),(5,Aq),(41,I ((Ah.length:Int))),(42,I Ai)] a ∧ St [] w0 w [([Ac],Am),([Ab],Al),(At,Ar)] ∧ d_impl_spotFault_L3 fu r1 x5 Ah n Ai = some r) ?_ ?_ fu _ _ ?_))))
   · rintro a w ⟨_,_,_,h⟩
     exact nS h
   · rintro Cr a Eo ⟨Ai,k,m,h⟩
     rw [d_impl_spotFault_L3_s] at h
     unfold d_impl_spotFault_L3_B at h
     refine wr (pN 1 k z fun a k=>nn (wp_seq (cI h k z (fun Dq h=>?_) fun Dq h=>?_)))
     · refine wp_skip (nm_then ?_)
       refine wp_seq (wp_block (wr (pN 2 k z fun a k=>nn (wr (pN 2 k z fun a k=>nn (wp_block (c_loop (fun n a w=>∃ (Aw:Int),K 96 [(2,.pointer (some (⟨Ac,0,none⟩:Addr))),(3,.pointer (some (⟨Ab,0,none⟩:Addr))),(5,Aq),(9,I Ai),(41,I ((Ah.length:Int))),(42,I Ai),(45,I Ai),(46,I Aw)] a ∧ St [] w0 w [([Ac],Am),([Ab],Al),(At,Ar)] ∧ d_impl_spotFault_L1 fu (d_impl_spotFault_L3 fu r1 x5 Ah Cr) x5 Ah Ai n Aw = some r) ?_ ?_ fu _ _ ?_)))))))
       · rintro a w ⟨_,_,_,h⟩
         exact nS h
       · rintro Ds a Ed ⟨Aw,k,m,h⟩
         rw [d_impl_spotFault_L1_s] at h
         unfold d_impl_spotFault_L1_B at h
         refine wr (pN 1 k z fun a k=>nn (wp_seq (cI h k z (fun Dh h=>?_) fun Dh h=>?_)))
         · refine wp_skip (nm_then ?_)
           refine wp_seq (wp_block (wr (pN 2 k z fun a k=>nn (wp_seq (d_go [] mixo m z fun Bx hMd=>?_)))))
           have m:=hMd
           have s:=Ext.refl ([]:List Nat) Bx
           refine dN [0,1,6,9,10,15] 6 z k (by kernel_rfl) z s (fun _ _ _ _ _=>id) fun a k=>oE h fun Co Bm h=>dt k 2 z (by kernel_rfl) z s (fun _ _ _=>id) (fun w s=>r_ixa (Enc.ow_rd Ao) Bm k ts149 z z z) fun a k=>dt k 3 z (by kernel_rfl) z s (fun _ _ _=>id) (fun w s=>r_lde (Enc.ow_rd Ao) ((hMd.step s).a 2 z) Bm ta86 k z z) fun a k=>dt k 4 z (by kernel_rfl) z s (fun _ _ _=>id) (fun w s=>r_fa fa58_1 k z z) fun a k=>dt k 5 z (by kernel_rfl) z s (fun _ _ _=>id) (fun w s=>r_ld1 t156 (r:=[]) (Af.at ((hMd.step s).a 1 z) 1 1 z z z) k z z) fun a k=>oE h fun Bv Bo h=>dt k 7 z (by kernel_rfl) z s (fun _ _ _=>id) (fun w s=>r_ixa Aa Bo k ts56 z z z) fun a k=>?_
           refine dt k 8 z (by kernel_rfl) z s (fun _ _ _=>id) (fun w s=>r_lde Aa ((hMd.step s).a00 (Enc.rd_lt Aa)) Bo ta89 k z z) fun a k=>oE h fun Dc Bh h=>dt k 11 z (by kernel_rfl) z s (fun _ _ _=>id) (fun w s=>r_ixa (Enc.ow_rd Ao) Bh k ts149 z z z) fun a k=>dt k 12 z (by kernel_rfl) z s (fun _ _ _=>id) (fun w s=>r_lde (Enc.ow_rd Ao) ((hMd.step s).a 2 z) Bh ta86 k z z) fun a k=>dt k 13 z (by kernel_rfl) z s (fun _ _ _=>id) (fun w s=>r_fa fa58_1 k z z) fun a k=>dt k 14 z (by kernel_rfl) z s (fun _ _ _=>id) (fun w s=>r_ld1 t156 (r:=[]) (Af.at ((hMd.step s).a 1 z) 1 1 z z z) k z z) fun a k=>oE h fun Cp Bn h=>dt k 16 z (by kernel_rfl) z s (fun _ _ _=>id) (fun w s=>r_ixa Aa Bn k ts56 z z z) fun a k=>?_
           refine dt k 17 z (by kernel_rfl) z s (fun _ _ _=>id) (fun w s=>r_lde Aa ((hMd.step s).a00 (Enc.rd_lt Aa)) Bn ta89 k z z) fun a k=>d_one 18 (by kernel_rfl) z (oE h fun Fe By h=>cE k m call57 z z z (c_impl_Overlap fu (Co:Box) (Bv:Spot) (Dc:Box) (Cp:Spot)  By) fun Dt e a k m=>?_)
           have s:=s.trans e (by simp)
           refine wpList_nil ⟨s,?_⟩
           refine d_done (by kernel_rfl) ((nm_then ?_))
           refine cI h k z (fun Cq h=>?_) fun Cq h=>?_
           · refine wr (pN 1 k z fun a k=>nn (wp_ret (rt_block (rt_then (rt_then (rt_block (rt_block (rt_then (rt_then (rt_block (rt_then ?_)))))))))))
             refine fS h k m z z
           refine wp_skip (nm_block (nm_then ?_))
           refine wp_region_lit (pN 2 k z fun a k=>nn ?_)
           exact ⟨w64 (Aw + 1),k.keep [2,3,5,9,41,42,45,46] z,m.sel [0,1,2] z (by decide),h⟩
         refine wp_exit (ex_then (ex_then (ex_same (nm_block (nm_then ?_)))))
         refine wp_region_lit (pN 2 k z fun a k=>nn ?_)
         exact ⟨w64 (Ai + 1),k.keep [2,3,5,41,42] z,m.sel [0,1,2] z (by decide),h⟩
       exact ⟨0,k.keep [2,3,5,9,41,42,45,46] z,m.sel [0,1,2] z (by decide),h⟩
     refine wp_exit (ex_then (ex_then (ex_same (nm_then ?_))))
     refine wp_seq (wr (sv k z (r_fa fa58_1 k z z) fun a k=>sv k z (r_ldb t156 m 1 Af 1 k z z z z z) fun a k=>oE h fun Ak Dj h=>cE k m call58 z z z (c_impl_Pallets fu _ (Enc.rd_agr Aa (m.a00 (Enc.rd_lt Aa))) Dj) fun Er e a k m=>pN 1 k z fun a k=>nn (wp_block (c_loop (fun n a w=>∃ (Ag:Int),K 96 [(2,.pointer (some (⟨Ac,0,none⟩:Addr))),(3,.pointer (some (⟨Ab,0,none⟩:Addr))),(72,I Ak),(73,I Ag)] a ∧ St [] w0 w [([Ac],Am),([Ab],Al)] ∧ d_impl_spotFault_L2 fu r1 x5 Ak n Ag = some r) ?_ ?_ fu _ _ ?_))))
     · rintro a w ⟨_,_,_,h⟩
       exact nS h
     · rintro Bk a Ea ⟨Ag,k,m,h⟩
       rw [d_impl_spotFault_L2_s] at h
       unfold d_impl_spotFault_L2_B at h
       refine wr (pN 1 k z fun a k=>nn (wp_seq (cI h k z (fun Dn h=>?_) fun Dn h=>?_)))
       · refine wp_skip (nm_then ?_)
         refine c_cut (fun a w=>K 96 [(2,.pointer (some (⟨Ac,0,none⟩:Addr))),(3,.pointer (some (⟨Ab,0,none⟩:Addr))),(72,I Ak),(73,I Ag)] a ∧ St [] w0 w [([Ac],Am),([Ab],Al)] ∧ d_impl_spotFault_J1 fu (d_impl_spotFault_L2 fu r1 x5 Ak Bk) Ag = some r) ?_ ?_
         · rintro a Ec ⟨k,m,h⟩
           unfold d_impl_spotFault_J1 at h
           refine wp_region_lit (pN 2 k z fun a k=>nn ?_)
           exact ⟨w64 (Ag + 1),k.keep [2,3,72,73] z,m.sel [0,1] z (by decide),h⟩
         refine wp_block (wr (pN 2 k z fun a k=>nn (wr (sv k z (r_ldB ta58 m 1 Af 0 k z z z z z z) fun a k=>pN 1 k z fun a k=>oE h fun Bt Db h=>s_call k call60 z z z z z (c_impl_OnPallet fu _ _ (show rd _ _ [Ax,Bf] (x5:Plan) from ⟨_,_,_,_,z,z,(Enc.rd_agr Ad (m.a00 (Enc.rd_lt Ad))),(Enc.rd_agr Aa (m.a00 (Enc.rd_lt Aa)))⟩) Db) fun Dv Cm hR=>?_))))
         obtain ⟨Dk,Bu,rfl,e,Aj,Ck⟩:=hR
         refine ⟨_,z,fun a k=>?_⟩
         have m:=m.new e Bu (fun b hb=>⟨Ck b hb,Enc.rd_lt (Enc.ow_rd Aj) b hb⟩) (Enc.ow_nd Aj)
         refine s_alloc (cs:=[.slice none 0 0]) m k zeroValue63 z z z z z fun Be Du a k m e Cg=>s_stb1 (cs':=[Dk]) sizeOf63 m 0 Cg 0 k (rd_c (Enc.ow_rd Aj)) (rd_o (Enc.ow_rd Aj)) z z z z z z z z z fun Cw a k e m Bg=>nn (c_cut (fun a w=>K 96 [(2,.pointer (some (⟨Ac,0,none⟩:Addr))),(3,.pointer (some (⟨Ab,0,none⟩:Addr))),(12,.pointer (some (⟨Be,0,none⟩:Addr))),(72,I Ak),(73,I Ag)] a ∧ St [] w0 w [([Ac],Am),([Ab],Al),([Be],Cw),(Bu,Cm)] ∧ d_impl_spotFault_J2 fu (d_impl_spotFault_L2 fu r1 x5 Ak Bk) x5 Ag Bt = some r) ?_ ?_)
         · rintro a Eb ⟨k,m,h⟩
           unfold d_impl_spotFault_J2 at h
           refine wr (sv k z (r_ldb t163 m 2 Bg 0 k z z z z z) fun a k=>pN 1 k z fun a k=>oE h fun Dw Bz h=>cE k m call172 z z z (c_slices_ContainsFunc_int_int fu _ _ (Enc.rd_agr (Enc.ow_rd Aj) (m.a 3 z)) ⟨227,[.pointer (some (⟨Ab,0,none⟩:Addr)),.pointer (some (⟨Be,0,none⟩:Addr))],z,call227,fun w Ek Ew r e Cs hx=>by subst Cs; have m:=m.step e; exact c_impl_spotFault_1 fu _ _ _ (Af.agr (m.a 1 rfl) (by simp)) (Enc.rd_agr Ad (m.a00 (Enc.rd_lt Ad))) (Enc.rd_agr Aa (m.a00 (Enc.rd_lt Aa))) (Bg.agr (m.a 2 rfl) (by simp)) (Enc.rd_agr (Enc.ow_rd Aj) (m.a 3 rfl)) hx⟩ Bz) fun Ev e a k m=>nn (cI h k rfl (fun Ce h=>?_) fun Ce h=>?_))
           · refine wr (pN 1 k z fun a k=>nn (wp_ret (rt_block (rt_then (rt_then (rt_block (rt_then ?_)))))))
             refine fS h k m z z
           refine wp_skip (nm_block (nm_then ?_))
           exact ⟨k.keep [2,3,72,73] z,m.sel [0,1] z (by decide),h⟩
         refine wp_seq (d_go [] mixo m z fun Dm hMd=>?_)
         have m:=hMd
         have s:=Ext.refl ([]:List Nat) Dm
         refine dt k 0 z (by kernel_rfl) z s (fun _ _ _=>id) (fun w s=>r_ld1 t163 (r:=[]) (Bg.at ((hMd.step s).a 0 z) 0 1 z z z) k z z) fun a k=>dt k 1 z (by kernel_rfl) z s (fun _ _ _=>id) (fun w s=>r_len (α:=Int) (Enc.ow_rd Aj) k underlying63 z z) fun a k=>dN [2,3] 2 z k (by kernel_rfl) z s (fun _ _ _ _ _=>id) fun a k=>bsplit (((Bt.length:Int)) == 0) (fun Ap=>?_) (fun Ap=>?_)
         · have h:=bif_t Ap h
           refine rB k 82 z Ap fun k=>dN [4,5,6,7,8,9,10,11,12] 9 z k (by kernel_rfl) z s (fun _ _ _ _ _=>id) fun a k=>d_done (by kernel_rfl) ((nm_then ?_))
           refine wp_cond_true (k.ev z) (wr (pN 1 k z fun a k=>nn (wp_ret (rt_then (rt_block (rt_then (rt_then (rt_block (rt_then ?_)))))))))
           refine fS h k m z z
         have h:=bif_f Ap h
         refine rB k 82 z Ap fun k=>dN [6] 1 z k (by kernel_rfl) z s (fun _ _ _ _ _=>id) fun a k=>dt k 4 z (by kernel_rfl) z s (fun _ _ _=>id) (fun w s=>r_ldA ta38 (Az.at ((hMd.step s).a 2 z) 0 10 z z z) z k z z) fun a k=>dt k 5 z (by kernel_rfl) z s (fun _ _ _=>id) (fun w s=>r_ldA ta58 (Af.at ((hMd.step s).a 3 z) 0 2 z z z) z k z z) fun a k=>dt k 8 z (by kernel_rfl) z s (fun _ _ _=>id) (fun w s=>r_fa fa38_1 k z z) fun a k=>dt k 9 z (by kernel_rfl) z s (fun _ _ _=>id) (fun w s=>r_fa fa33_3 k z z) fun a k=>dt k 10 z (by kernel_rfl) z s (fun _ _ _=>id) (fun w s=>r_ld1 t13 (r:=[]) (Az.at ((hMd.step s).a 2 z) 4 1 z z z) k z z) fun a k=>d_one 7 (by kernel_rfl) z (oE h fun Es Cj h=>?_)
         refine cE k m call59 z z z (c_impl_PalletGram fu _ _ _ (show rd _ _ [I r1.fWay,I r1.fPallet.fW,I r1.fPallet.fD,I r1.fPallet.fH,I r1.fPallet.fGram,I r1.fClasses,v9,Bd,I r1.fMaster,Bc] (r1:Request) from ⟨_,_,_,_,_,_,z,z,(Enc.rd_agr Ba (m.a00 (Enc.rd_lt Ba))),(Enc.rd_agr Ay (m.a00 (Enc.rd_lt Ay))),(Enc.rd_agr Av (m.a00 (Enc.rd_lt Av)))⟩) (show rd _ _ [Ax,Bf] (x5:Plan) from ⟨_,_,_,_,z,z,(Enc.rd_agr Ad (m.a00 (Enc.rd_lt Ad))),(Enc.rd_agr Aa (m.a00 (Enc.rd_lt Aa)))⟩) Cj) fun Ef e a k m=>?_
         have s:=s.trans e (by simp)
         refine wpList_nil ⟨s,?_⟩
         refine dN [11,12] 2 z k (by kernel_rfl) z s (fun _ _ _ _ _=>id) fun a k=>d_done (by kernel_rfl) ((nm_then ?_))
         refine cI h k z (fun Df h=>?_) fun Df h=>?_
         · refine wr (pN 1 k z fun a k=>nn (wp_ret (rt_then (rt_block (rt_then (rt_then (rt_block (rt_then ?_))))))))
           refine fS h k m z z
         refine wp_skip (nm_then ?_)
         exact ⟨k.keep [2,3,12,72,73] z,m.sel [2,3,0,1] z (by decide),h⟩
       refine wp_exit (ex_then (ex_then (ex_same (nm_then ?_))))
       refine wr (pN 1 k z fun a k=>nn (wp_ret (fS h k m z z)))
     exact ⟨0,k.keep [2,3,72,73] z,m.sel [0,1] z (by decide),h⟩
   exact ⟨0,k.keep [2,3,5,41,42] z,m.sel [0,1,2] z (by decide),h⟩
 exact ⟨([]:List Box),(.slice (some ⟨Bq,0,none⟩) 0 0),[Bq],Da,0,k.keep [2,3,5,15,16,17] z,m.sel [2,1,0] z (by decide),Bw,h⟩
theorem c_impl_Check (fu:Nat) {w0:World} (r1:Request) (x5:Plan) {Au:List Value} {F3:List Nat} (Ba:rd w0 F3 Au r1) {As:List Value} {F7:List Nat} (Bj:rd w0 F7 As x5) {r:Int}
    (h:d_impl_Check fu r1 x5 = some r) :
    Calls Tryz.prog 35 #[.agg Au.toArray,.agg As.toArray] w0 fun e w=>e = .returned (I r) ∧ Ext [] w0 w:=by
 refine enter (vs:=[_,_]) func35 z ntmps35 z fun a k=>?_
 have m:=St.start w0
 obtain ⟨v9,Cr,Ai,Dc,Ah,Ch,rfl,rfl,Ae,Ac,Ab⟩:=Ba
 obtain ⟨Ag,Ce,Ak,Ci,rfl,rfl,Aa,Ad⟩:=Bj
 unfold d_impl_Check at h
 refine wr (s_box (cs:=[I r1.fWay,I r1.fPallet.fW,I r1.fPallet.fD,I r1.fPallet.fH,I r1.fPallet.fGram,I r1.fClasses,v9,Ai,I r1.fMaster,Ah]) m k z z z z z z fun Av Bl a k m e Al=>s_box (cs:=[Ag,Ak]) m k z z z z z z fun At Bd a k m e Af=>pN 1 k z fun a k=>nn (wp_seq (wr (sv k z (r_ldB ta38 m 1 Al 0 k z z z z z z) fun a k=>oE h fun Ca Bc h=>?_))))
 refine cE k m call115 z z z (c_impl_sound fu _ (show rd _ _ [I r1.fWay,I r1.fPallet.fW,I r1.fPallet.fD,I r1.fPallet.fH,I r1.fPallet.fGram,I r1.fClasses,v9,Ai,I r1.fMaster,Ah] (r1:Request) from ⟨_,_,_,_,_,_,z,z,(Enc.rd_agr Ae (m.a00 (Enc.rd_lt Ae))),(Enc.rd_agr Ac (m.a00 (Enc.rd_lt Ac))),(Enc.rd_agr Ab (m.a00 (Enc.rd_lt Ab)))⟩) Bc) fun Cn e a k m=>pN 1 k z fun a k=>nn (cI h k z (fun Aw h=>?_) fun Aw h=>?_)
 · refine wr (pN 1 k z fun a k=>nn (wp_ret (rt_then ?_)))
   refine fS h k m z z
 refine wp_skip (nm_then ?_)
 refine c_cut (fun a w=>K 38 [(2,.pointer (some (⟨Av,0,none⟩:Addr))),(3,.pointer (some (⟨At,0,none⟩:Addr)))] a ∧ St [] w0 w [([Av],Bl),([At],Bd)] ∧ d_impl_Check_J1 fu r1 x5 = some r) ?_ ?_
 · rintro a Co ⟨k,m,h⟩
   unfold d_impl_Check_J1 at h
   refine wr (sv k z (r_ldB ta58 m 1 Af 0 k z z z z z z) fun a k=>oE h fun Cj Bq h=>s_call k call119 z z z z z (c_impl_allUnits fu _ (show rd _ _ [Ag,Ak] (x5:Plan) from ⟨_,_,_,_,z,z,(Enc.rd_agr Aa (m.a00 (Enc.rd_lt Aa))),(Enc.rd_agr Ad (m.a00 (Enc.rd_lt Ad)))⟩) Bq) fun Cz Cx hR=>?_)
   obtain ⟨Cv,Bf,rfl,e,Ap,Ax⟩:=hR
   refine ⟨_,z,fun a k=>?_⟩
   have m:=m.new e Bf (fun b hb=>⟨Ax b hb,Enc.rd_lt (Enc.ow_rd Ap) b hb⟩) (Enc.ow_nd Ap)
   refine pN 1 k z fun a k=>nn (wr (pN 1 k z fun a k=>oE h fun Cw Az h=>s_call k call120 z z z z z (c_slices_Sort_int_int fu _ (Enc.ow_agr Ap (m.a 0 z)) Az) fun By Cl hR=>?_))
   obtain ⟨Cs,rfl,e,Bn,Ar⟩:=hR
   refine ⟨_,z,fun a k=>?_⟩
   have m:=m.mut 0 z e _ (fun b hb=>⟨Bn b hb,Enc.rd_lt (Enc.ow_rd Ar) b hb⟩) (Enc.ow_nd Ar)
   refine nn (wp_seq (wr (pN 1 k z fun a k=>sv k z (r_ldB ta38 m 1 Al 0 k z z z z z z) fun a k=>oE h fun Bw Bs h=>s_call k call123 z z z z z (c_impl_Units fu _ (show rd _ _ [I r1.fWay,I r1.fPallet.fW,I r1.fPallet.fD,I r1.fPallet.fH,I r1.fPallet.fGram,I r1.fClasses,v9,Ai,I r1.fMaster,Ah] (r1:Request) from ⟨_,_,_,_,_,_,z,z,(Enc.rd_agr Ae (m.a00 (Enc.rd_lt Ae))),(Enc.rd_agr Ac (m.a00 (Enc.rd_lt Ac))),(Enc.rd_agr Ab (m.a00 (Enc.rd_lt Ab)))⟩) Bs) fun Ct Bx hR=>?_)))
   obtain ⟨Cy,Bo,rfl,e,Aq,Bm⟩:=hR
   refine ⟨_,z,fun a k=>?_⟩
   have m:=m.new e Bo (fun b hb=>⟨Bm b hb,Enc.rd_lt (Enc.ow_rd Aq) b hb⟩) (Enc.ow_nd Aq)
   refine sv k z (r_len (α:=Int) (Enc.ow_rd Aq) k underlying63 z z) fun a k=>oE h fun Db Bp h=>s_call k call122 z z z z z (c_impl_places fu _  Bp) fun Dd Cf hR=>?_
   obtain ⟨Cc,Ay,rfl,e,Am,Bk⟩:=hR
   refine ⟨_,z,fun a k=>?_⟩
   have m:=m.new e Ay (fun b hb=>⟨Bk b hb,Enc.rd_lt (Enc.ow_rd Am) b hb⟩) (Enc.ow_nd Am)
   refine oE h fun Cd Bu h=>cE k m call121 z z z (c_slices_Equal_int_int fu _ _ (Enc.rd_agr (Enc.ow_rd Ar) (m.a 2 z)) (Enc.rd_agr (Enc.ow_rd Am) (m.a 0 z)) Bu) fun Ck e a k m=>pN 1 k z fun a k=>nn (cI h k z (fun Bv h=>?_) fun Bv h=>?_)
   · refine wr (pN 1 k z fun a k=>nn (wp_ret (rt_then ?_)))
     refine fS h k m z z
   refine wp_skip (nm_then ?_)
   refine wp_seq (wr (sv k z (r_ldB ta38 m 3 Al 0 k z z z z z z) fun a k=>sv k z (r_ldB ta58 m 4 Af 0 k z z z z z z) fun a k=>oE h fun Bz Bi h=>cE k m call124 z z z (c_impl_cartonFault fu _ _ (show rd _ _ [I r1.fWay,I r1.fPallet.fW,I r1.fPallet.fD,I r1.fPallet.fH,I r1.fPallet.fGram,I r1.fClasses,v9,Ai,I r1.fMaster,Ah] (r1:Request) from ⟨_,_,_,_,_,_,z,z,(Enc.rd_agr Ae (m.a00 (Enc.rd_lt Ae))),(Enc.rd_agr Ac (m.a00 (Enc.rd_lt Ac))),(Enc.rd_agr Ab (m.a00 (Enc.rd_lt Ab)))⟩) (show rd _ _ [Ag,Ak] (x5:Plan) from ⟨_,_,_,_,z,z,(Enc.rd_agr Aa (m.a00 (Enc.rd_lt Aa))),(Enc.rd_agr Ad (m.a00 (Enc.rd_lt Ad)))⟩) Bi) fun Cu e a k m=>pN 1 k z fun a k=>nn (wr (pN 2 k z fun a k=>nn ?_))))
   refine cI h k z (fun Bb h=>?_) fun Bb h=>?_
   · refine wr (pN 2 k z fun a k=>nn (wp_ret (rt_then ?_)))
     refine fS h k m z z
   refine wp_skip (nm_then ?_)
   refine wr (sv k z (r_ldB ta38 m 3 Al 0 k z z z z z z) fun a k=>sv k z (r_ldB ta58 m 4 Af 0 k z z z z z z) fun a k=>oE h fun Cb Bt h=>cE k m call125 z z z (c_impl_spotFault fu _ _ (show rd _ _ [I r1.fWay,I r1.fPallet.fW,I r1.fPallet.fD,I r1.fPallet.fH,I r1.fPallet.fGram,I r1.fClasses,v9,Ai,I r1.fMaster,Ah] (r1:Request) from ⟨_,_,_,_,_,_,z,z,(Enc.rd_agr Ae (m.a00 (Enc.rd_lt Ae))),(Enc.rd_agr Ac (m.a00 (Enc.rd_lt Ac))),(Enc.rd_agr Ab (m.a00 (Enc.rd_lt Ab)))⟩) (show rd _ _ [Ag,Ak] (x5:Plan) from ⟨_,_,_,_,z,z,(Enc.rd_agr Aa (m.a00 (Enc.rd_lt Aa))),(Enc.rd_agr Ad (m.a00 (Enc.rd_lt Ad)))⟩) Bt) fun Cm e a k m=>pN 1 k z fun a k=>nn (wp_ret (fS h k m z z)))
 refine wr (sv k z (r_ldB ta58 m 0 Af 0 k z z z z z z) fun a k=>oE h fun Br Bg h=>cE k m call116 z z z (c_impl_PlanOk fu _ (show rd _ _ [Ag,Ak] (x5:Plan) from ⟨_,_,_,_,z,z,(Enc.rd_agr Aa (m.a00 (Enc.rd_lt Aa))),(Enc.rd_agr Ad (m.a00 (Enc.rd_lt Ad)))⟩) Bg) fun De e a k m=>pN 2 k z fun a k=>bsplit (!Br) (fun Aj=>?_) (fun Aj=>?_))
 · have h:=bif_t Aj h
   refine rB k 13 z Aj fun k=>pN 4 k z fun a k=>nn (wp_cond_true (k.ev z) (wr (pN 1 k z fun a k=>nn (wp_ret (rt_then ?_)))))
   refine fS h k m z z
 have h:=bif_f Aj h
 refine rB k 13 z Aj fun k=>sv k z (r_fa fa58_0 k z z) fun a k=>sv k z (r_ldb t155 m 0 Af 0 k z z z z z) fun a k=>oE h fun Da Be h=>cE k m call117 z z z (c_slices_ContainsFunc_impl_Carton_impl_Carton fu _ _ (Enc.rd_agr Aa (m.a00 (Enc.rd_lt Aa))) ⟨118,[],z,call118,fun w Cp Cg r e Ao hx=>by obtain ⟨_,_,rfl,Ao⟩:=Ao; have m:=m.step e; exact c_impl_Check_1 fu _ Ao hx⟩ Be) fun Cq e a k m=>pN 1 k z fun a k=>nn (cI h k z (fun Bh h=>?_) fun Bh h=>?_)
 · refine wr (pN 1 k z fun a k=>nn (wp_ret (rt_then ?_)))
   refine fS h k m z z
 refine wp_skip (nm_then ?_)
 exact ⟨k.keep [2,3] z,m.sel [1,0] z (by decide),h⟩
theorem c_impl_Feasible (fu:Nat) {w0:World} (r1:Request) (x5:Plan) {Ai:List Value} {F3:List Nat} (Aq:rd w0 F3 Ai r1) {Ag:List Value} {F7:List Nat} (Ao:rd w0 F7 Ag x5) {r:Bool}
    (h:d_impl_Feasible fu r1 x5 = some r) :
    Calls Tryz.prog 38 #[.agg Ai.toArray,.agg Ag.toArray] w0 fun e w=>e = .returned (.bool (r)) ∧ Ext [] w0 w:=by
 refine enter (vs:=[_,_]) func38 z ntmps38 z fun a k=>?_
 have m:=St.start w0
 obtain ⟨v9,As,Ae,Az,Aj,Bb,rfl,rfl,Ak,Ac,Ah⟩:=Aq
 obtain ⟨Ab,Ax,Ad,At,rfl,rfl,Aa,Af⟩:=Ao
 unfold d_impl_Feasible at h
 refine wr (s_box (cs:=[I r1.fWay,I r1.fPallet.fW,I r1.fPallet.fD,I r1.fPallet.fH,I r1.fPallet.fGram,I r1.fClasses,v9,Ae,I r1.fMaster,Aj]) m k z z z z z z fun Aw Ar a k m e Ap=>s_box (cs:=[Ab,Ad]) m k z z z z z z fun Ba Av a k m e Am=>pN 1 k z fun a k=>nn (wr (sv k z (r_ldB ta38 m 1 Ap 0 k z z z z z z) fun a k=>sv k z (r_ldB ta58 m 0 Am 0 k z z z z z z) fun a k=>oE h fun Au Al h=>?_)))
 refine cE k m call35 z z z (c_impl_Check fu _ _ (show rd _ _ [I r1.fWay,I r1.fPallet.fW,I r1.fPallet.fD,I r1.fPallet.fH,I r1.fPallet.fGram,I r1.fClasses,v9,Ae,I r1.fMaster,Aj] (r1:Request) from ⟨_,_,_,_,_,_,z,z,(Enc.rd_agr Ak (m.a00 (Enc.rd_lt Ak))),(Enc.rd_agr Ac (m.a00 (Enc.rd_lt Ac))),(Enc.rd_agr Ah (m.a00 (Enc.rd_lt Ah)))⟩) (show rd _ _ [Ab,Ad] (x5:Plan) from ⟨_,_,_,_,z,z,(Enc.rd_agr Aa (m.a00 (Enc.rd_lt Aa))),(Enc.rd_agr Af (m.a00 (Enc.rd_lt Af)))⟩) Al) fun Ay e a k m=>pN 2 k z fun a k=>nn (wp_ret (fS h k m z z))

end Go.Proofs.YtkkfmjpbiimkbaaGreat
