/- FnExactFront: the walks of functions that it reaches (ExactFrontBWi,part 1). Printed by gen.py. -/
import Derived.Test.YtlmibnlfkmiikaaGreatExactFrontBT
set_option maxRecDepth 20000
set_option linter.unusedSimpArgs false
set_option linter.unusedVariables false
namespace Go.Proofs.YtlmibnlfkmiikaaGreat
open Go Go.RowKit
open Enc (rd ow)
open Arg (argv)
open Ret (retv)
open Go.Proofs.Tryz


theorem c_impl_Front_1 (fu:Nat) {w0:World} (b1:Box) (Aa:Spot) (x3:Request) {v6:Value} {F7:List Nat} {v9:Value} {Ae:List Nat} {Ac:Value} {Ai:List Nat} {b4:Nat} (Ab:bx w0 b4 [I x3.fWay,I x3.fPallet.fW,I x3.fPallet.fD,I x3.fPallet.fH,I x3.fPallet.fGram,I x3.fClasses,v6,v9,I x3.fMaster,Ac] 30) (Ar:rd w0 F7 [v6] x3.fPairs) (Ap:rd w0 Ae [v9] x3.fTypes) (Ao:rd w0 Ai [Ac] x3.fItems) {r:Spot}
    (h:d_impl_Front_1 fu b1 Aa x3 = some r) :
    Calls Tryz.prog 135 #[.agg (Flat.e (b1)).toArray,.agg (Flat.e (Aa)).toArray,.pointer (some (⟨b4,0,none⟩:Addr))] w0 fun e w=>e = .returned (.agg (Flat.e r).toArray) ∧ Ext [] w0 w:=by
 refine enter (vs:=[_,_,_]) func135 z ntmps135 z fun a k=>?_
 have m:=St.start w0
 unfold d_impl_Front_1 at h
 refine wr (s_box (cs:=[I b1.fW,I b1.fD,I b1.fH,I b1.fGram]) m k z z z z z z fun As Al a k m e Aj=>s_box (cs:=[I Aa.fPallet,I Aa.fX,I Aa.fY,I Aa.fZ]) m k z z z z z z fun Av At a k m e Ad=>s_alloc (cs:=[I 0,I 0,I 0,I 0]) m k zeroValue139 z z z z z fun Ak Aq a k m e Ag=>nn (wr (sv k z (r_fa fa30_1 k z z) fun a k=>sv k z (r_fa fa25_1 k z z) fun a k=>sv k z (r_ld1 t13 (r:=[]) (Ab.at (m.a00 Ab.lt1) 2 1 z z z) k z z) fun a k=>sv k z (r_fa fa139_2 k z z) fun a k=>sv k z (r_ldb t13 m 1 Ad 2 k z z z z z) fun a k=>pN 1 k z fun a k=>sv k z (r_fa fa140_1 k z z) fun a k=>?_)))
 refine sv k z (r_ldb t13 m 2 Aj 1 k z z z z z) fun a k=>pN 1 k z fun a k=>sv k z (r_fa fa139_2 k z z) fun a k=>s_stb (cs':=[I Aa.fPallet,I Aa.fX,I (w64 ((w64 (x3.fPallet.fD - Aa.fY)) - b1.fD)),I Aa.fZ]) sizeOf3 m 1 Ad 2 k z z z z z z z z z z z fun Am a k e m Ah=>nn (wr (sv k z (r_ldB ta139 m 1 Ah 0 k z z z z z z) fun a k=>s_stb (cs':=[I Aa.fPallet,I Aa.fX,I (w64 ((w64 (x3.fPallet.fD - Aa.fY)) - b1.fD)),I Aa.fZ]) sizeOf139 m 0 Ag 0 k z z z z z z z z z z z fun Au a k e m Af=>nn (wp_ret ?_)))
 cases h
 exact finR1 k z (RV.cA k z ta139 (Af.at (m.a 0 z) 0 4 z z z) z) ⟨z,m.ext⟩
theorem c_slices_Clone_int_int (fu:Nat) {w0:World} (Ac:List Int) {v2:Value} {F3:List Nat} (Aa:rd w0 F3 [v2] Ac) {r:(List Int)}
    (h:d_slices_Clone_int_int fu Ac = some r) :
    Calls Tryz.prog 145 #[v2] w0 fun e w=>∃ (v0:Value) (G0:List Nat),e = .returned (v0) ∧ Ext [] w0 w ∧ ow w G0 [v0] r ∧ (∀ b ∈ G0,w0.heap.size ≤ b):=by
 refine enter (vs:=[_]) func145 z ntmps145 z fun a k=>?_
 have m:=St.start w0
 unfold d_slices_Clone_int_int at h
 refine wr (pN 1 k z fun a k=>nn (wp_seq (wr (pN 1 k z fun a k=>?_))))
 obtain ⟨Ah,Ak,Al⟩:=r_nilq Aa
 refine sv k z (Al k underlying31 z z z) fun a k=>nn (c_cond (b:=Ah) k z (fun Ab=>?_) (fun Ab=>?_))
 · have Ae:=Ak Ab
   rw [Ae] at h
   have h:some (([]:List Int)) = some r:=h
   refine wr (pN 1 k z fun a k=>nn (wp_ret (rt_then ?_)))
   cases h
   exact finR1 k z (RV.tmp k z) ⟨_,[],z,m.ext,(ow_nil _),(by simp)⟩
 refine wp_skip (nm_then ?_)
 refine wr (s_bs (cs:=[]) (ps:=[]) te31 m k z z z z z z z (by decide) z (by exact (List.forall_mem_nil _)) fun Am As Ar a k m e Ai=>?_)
 have Ag:=ow_bx Ai ([]:List Int) z z z
 refine pN 1 k z fun a k=>oE h fun Ap Aj h=>s_appF Aj te31 z m 0 Ag (News.rd (Enc.rd_agr Aa (m.a00 (Enc.rd_lt Aa)))) z z k z z z z z z z fun Aq Ad Ao a k e m Af=>pN 1 k z fun a k=>nn (wp_ret ?_)
 cases h
 exact finR1 k z (RV.tmp k z) ⟨_,Ad,z,m.ext,(Enc.ow_agr Af (m.a 0 z)),(m.fresh 0 z)⟩
theorem c_impl_cloneCartons (fu:Nat) {w0:World} (Af:List Carton) {v2:Value} {F3:List Nat} (Ae:rd w0 F3 [v2] Af) {r:(List Carton)}
    (h:d_impl_cloneCartons fu Af = some r) :
    Calls Tryz.prog 225 #[v2] w0 fun e w=>∃ (v0:Value) (G0:List Nat),e = .returned (v0) ∧ Ext [] w0 w ∧ ow w G0 [v0] r ∧ (∀ b ∈ G0,w0.heap.size ≤ b):=by
 refine enter (vs:=[_]) func225 z ntmps225 z fun a k=>?_
 have m:=St.start w0
 unfold d_impl_cloneCartons at h
 refine wr (pN 1 k z fun a k=>nn (wr (s_bs (cs:=[]) (ps:=[]) te43 m k z z z z z z z (by decide) z (by exact (List.forall_mem_nil _)) fun g5 w6 e8 a k m e Bh=>?_)))
 have Bi:=ow_bx0 (α:=Carton) Bh
 refine pN 1 k z fun a k=>nn (wp_seq (wr (pN 1 k z fun a k=>sv k z (r_len (α:=Carton) Ae k underlying43 z z) fun a k=>pN 1 k z fun a k=>nn (wp_block (c_loop (fun n a w=>∃ (Aj:List Carton) (Al:Value) (Ac:List Nat) (Ag:World) (Ad:Int),K 23 [(3,Al),(7,v2),(8,I ((Af.length:Int))),(9,I Ad)] a ∧ St [] w0 w [(Ac,Ag)] ∧ ow Ag Ac [Al] Aj ∧ d_impl_cloneCartons_L1 fu Af n Aj Ad = some r) ?_ ?_ fu _ _ ?_)))))
 · rintro a w ⟨_,_,_,_,_,_,_,_,h⟩
   exact nS h
 · rintro Bo a Bn ⟨Aj,Al,Ac,Ag,Ad,k,m,Ao,h⟩
   rw [d_impl_cloneCartons_L1_s] at h
   unfold d_impl_cloneCartons_L1_B at h
   refine wr (pN 1 k z fun a k=>nn (wp_seq (cI h k z (fun Bj h=>?_) fun Bj h=>?_)))
   · refine wp_skip (nm_then ?_)
     refine wp_seq (wp_block (wr (oE h fun Aa Ap h=>sv k z (r_ixa Ae Ap k ts43 z z z) fun a k=>?_)))
     obtain ⟨By,Br,Bs,Aw,Be,At⟩:=rd_get Ae (ix_some Ap).2.2
     obtain ⟨Au,_,rfl,rfl,Ak⟩:=Aw
     refine sv k z (r_ldA ta33 (Be.agr (m.a00 (Enc.rd_lt Ae)) At) z k z z) fun a k=>s_alloc (cs:=[I 0,I 0,.slice none 0 0]) m k zeroValue33 z z z z z fun Bx Bz a k m e Ar=>s_stb (cs':=[I Aa.fType,I Aa.fGroup,Au]) sizeOf33 m 0 Ar 0 k z z z z z z z z z z (allc z (allc z (allc (rd_o Ak) alln))) fun Bm a k e m Am=>nn (wr (sv k z (r_fa fa33_2 k z z) fun a k=>sv k z (r_ldb t131 m 0 Am 2 k z z z z z) fun a k=>oE h fun Ay Bk h=>s_call k call145 z z z z z (c_slices_Clone_int_int fu _ (Enc.rd_agr Ak (m.a00 (Enc.rd_lt Ak))) Bk) fun Bt Bq hR=>?_))
     obtain ⟨Ai,Ah,rfl,e,Ab,Bl⟩:=hR
     refine ⟨_,z,fun a k=>?_⟩
     have m:=m.new e Ah (fun b hb=>⟨Bl b hb,Enc.rd_lt (Enc.ow_rd Ab) b hb⟩) (Enc.ow_nd Ab)
     refine sv k z (r_fa fa33_2 k z z) fun a k=>s_stb1 (cs':=[I Aa.fType,I Aa.fGroup,Ai]) sizeOf31 m 1 Am 2 k (rd_c (Enc.ow_rd Ab)) (rd_o (Enc.ow_rd Ab)) z z z z z z z z z fun Bu a k e m Bd=>nn (wp_region_lit (pN 1 k z fun a k=>sv k z (r_ldB ta33 m 1 Bd 0 k z z z z z z) fun a k=>s_bs (cs:=[I Aa.fType,I Aa.fGroup,Ai]) (ps:=[(0,.tmp 18)]) te43 m k z z z z z z z (by decide) z (by exact (List.forall_mem_cons.2 ⟨z,(List.forall_mem_nil _)⟩)) fun Bw Bv Bp a k m e Bg=>oE h fun Aq Az h=>?_))
     have Ax:ow _ (Ah) [I Aa.fType,I Aa.fGroup,Ai] ((⟨Aa.fType,Aa.fGroup,Ay⟩:Carton):Carton):=⟨_,_,z,z,(Enc.ow_agr Ab (m.a 1 z)),by simpa [fps] using (m.sel [1] z (by decide)).nd⟩
     have Av:=News.box Bg (m.a 0 z) (by simp) (m:=1)
     have Ba:=m.a 3 z
     have m:=m.sel [3,1,0,2] z (by decide)
     have m:=m.join2
     refine s_appO (F:=Ac) (G:=(Ah)) Az te43 z m Ao Ba Av Ax (Agr.refl _ _) k z z z z z z fun Bc As Bb a k e m Bf=>pN 1 k z fun a k=>wpList_nil (nm_block (nm_then ?_))
     refine wp_region_lit (pN 2 k z fun a k=>nn ?_)
     exact ⟨Aq,Bc,As,Bb,w64 (Ad + 1),k.keep [3,7,8,9] z,m.sel [0] z (by decide),Bf,h⟩
   refine wp_exit (ex_then (ex_then (ex_same (nm_then ?_))))
   refine wr (pN 2 k z fun a k=>nn (wp_ret ?_))
   cases h
   exact finR1 k z (RV.tmp k z) ⟨_,Ac,z,m.ext,(Enc.ow_agr Ao (m.a 0 z)),(m.fresh 0 z)⟩
 exact ⟨([]:List Carton),(.slice (some ⟨g5,0,none⟩) 0 0),[g5],w6,0,k.keep [3,7,8,9] z,m.sel [0] z (by decide),Bi,h⟩
theorem c_slices_Clone_impl_Spot_impl_Spot (fu:Nat) {w0:World} (Ac:List Spot) {v2:Value} {F3:List Nat} (Aa:rd w0 F3 [v2] Ac) {r:(List Spot)}
    (h:d_slices_Clone_impl_Spot_impl_Spot fu Ac = some r) :
    Calls Tryz.prog 226 #[v2] w0 fun e w=>∃ (v0:Value) (G0:List Nat),e = .returned (v0) ∧ Ext [] w0 w ∧ ow w G0 [v0] r ∧ (∀ b ∈ G0,w0.heap.size ≤ b):=by
 refine enter (vs:=[_]) func226 z ntmps226 z fun a k=>?_
 have m:=St.start w0
 unfold d_slices_Clone_impl_Spot_impl_Spot at h
 refine wr (pN 1 k z fun a k=>nn (wp_seq (wr (pN 1 k z fun a k=>?_))))
 obtain ⟨Ah,Ak,Al⟩:=r_nilq Aa
 refine sv k z (Al k underlying72 z z z) fun a k=>nn (c_cond (b:=Ah) k z (fun Ab=>?_) (fun Ab=>?_))
 · have Ae:=Ak Ab
   rw [Ae] at h
   have h:some (([]:List Spot)) = some r:=h
   refine wr (pN 1 k z fun a k=>nn (wp_ret (rt_then ?_)))
   cases h
   exact finR1 k z (RV.tmp k z) ⟨_,[],z,m.ext,(ow_nil _),(by simp)⟩
 refine wp_skip (nm_then ?_)
 refine wr (s_bs (cs:=[]) (ps:=[]) te72 m k z z z z z z z (by decide) z (by exact (List.forall_mem_nil _)) fun Am As Ar a k m e Ai=>?_)
 have Ag:=ow_bx Ai ([]:List Spot) z z z
 refine pN 1 k z fun a k=>oE h fun Ap Aj h=>s_appF Aj te72 z m 0 Ag (News.rd (Enc.rd_agr Aa (m.a00 (Enc.rd_lt Aa)))) z z k z z z z z z z fun Aq Ad Ao a k e m Af=>pN 1 k z fun a k=>nn (wp_ret ?_)
 cases h
 exact finR1 k z (RV.tmp k z) ⟨_,Ad,z,m.ext,(Enc.ow_agr Af (m.a 0 z)),(m.fresh 0 z)⟩
theorem c_impl_clonePlan (fu:Nat) {w0:World} (x1:Plan) {Ah:List Value} {F3:List Nat} (Au:rd w0 F3 Ah x1) {r:Plan}
    (h:d_impl_clonePlan fu x1 = some r) :
    Calls Tryz.prog 144 #[.agg Ah.toArray] w0 fun e w=>∃ (Af:List Value) (G0:List Nat),e = .returned (.agg Af.toArray) ∧ Ext [] w0 w ∧ ow w G0 Af r ∧ (∀ b ∈ G0,w0.heap.size ≤ b):=by
 refine enter (vs:=[_]) func144 z ntmps144 z fun a k=>?_
 have m:=St.start w0
 obtain ⟨v5,F6,v7,F8,rfl,rfl,Ak,Ae⟩:=Au
 unfold d_impl_clonePlan at h
 refine wr (s_box (cs:=[v5,v7]) m k z z z z z z fun Bg Ay a k m e Aj=>s_alloc (cs:=[.slice none 0 0,.slice none 0 0]) m k zeroValue74 z z z z z fun Ai Bc a k m e As=>nn (wp_seq (d_go ([Ai]) mixo m z fun Ap hMd=>?_)))
 have m:=hMd
 have s:=Ext.refl (([Ai]):List Nat) Ap
 refine dt k 0 z (by kernel_rfl) z s (fun _ _ _=>id) (fun w s=>r_fa fa74_0 k z z) fun a k=>dt k 1 z (by kernel_rfl) z s (fun _ _ _=>id) (fun w s=>r_ld1 t143 (r:=[]) (Aj.at (hMd.az 1 0 z z z s) 0 1 z z z) k z z) fun a k=>dt k 3 z (by kernel_rfl) z s (fun _ _ _=>id) (fun w s=>r_fa fa74_1 k z z) fun a k=>dt k 4 z (by kernel_rfl) z s (fun _ _ _=>id) (fun w s=>r_ld1 t172 (r:=[]) (Aj.at (hMd.az 1 0 z z z s) 1 1 z z z) k z z) fun a k=>d_one 2 (by kernel_rfl) z (oE h fun Bb Ar h=>s_call k call225 z z z z z (c_impl_cloneCartons fu _ (Enc.rd_agr Ak (m.a00 (Enc.rd_lt Ak))) Ar) fun Bf Bd hR=>?_)
 obtain ⟨Am,Ad,rfl,e,Ab,Ao⟩:=hR
 refine ⟨_,z,fun a k=>?_⟩
 have m:=m.new e Ad (fun b hb=>⟨Ao b hb,Enc.rd_lt (Enc.ow_rd Ab) b hb⟩) (Enc.ow_nd Ab)
 have Av:=fun (y:Nat) (hy:y ∈ Ad)=>Nat.le_trans s.size (Ao y hy)
 have s:=s.trans e (by simp)
 refine wpList_nil ⟨s,?_⟩
 refine d_one 5 (by kernel_rfl) z (oE h fun Ax Aq h=>s_call k call226 z z z z z (c_slices_Clone_impl_Spot_impl_Spot fu _ (Enc.rd_agr Ae (m.a00 (Enc.rd_lt Ae))) Aq) fun Aw Ba hR=>?_)
 obtain ⟨Ag,Ac,rfl,e,Aa,Al⟩:=hR
 refine ⟨_,z,fun a k=>?_⟩
 have m:=m.new e Ac (fun b hb=>⟨Al b hb,Enc.rd_lt (Enc.ow_rd Aa) b hb⟩) (Enc.ow_nd Aa)
 have Az:=fun (y:Nat) (hy:y ∈ Ac)=>Nat.le_trans s.size (Al y hy)
 have s:=s.trans e (by simp)
 refine wpList_nil ⟨s,?_⟩
 refine dt k 6 z (by kernel_rfl) z s (fun _ _ _=>id) (fun w s=>r_build bt74 k (cs:=#[Am,Ag]) (ps:=[(0,.tmp 5),(1,.tmp 8)]) z z (fillc z (rd_c (Enc.ow_rd Ab)) z (fillc z (rd_c (Enc.ow_rd Aa)) z z))) fun a k=>d_one 7 (by kernel_rfl) z (s_stb (cs':=[Am,Ag]) sizeOf74 m 2 As 0 k z z z z z z z z z z (allc (rd_o (Enc.ow_rd Ab)) (allc (rd_o (Enc.ow_rd Aa)) alln)) fun Be a k e m At=>?_)
 have s:=s.trans e (fun y hy=>Or.inl hy)
 refine wpList_nil ⟨s,?_⟩
 refine d_done (by kernel_rfl) ((nm_then ?_))
 refine wp_ret ?_
 cases h
 exact finR1 k z (RV.cA k z ta74 (At.at (m.a 2 z) 0 2 z z z) z) ⟨_,_,z,m.ext,⟨_,Ad,_,Ac,z,z,(Enc.ow_agr Ab (m.a 1 z)),(Enc.ow_agr Aa (m.a 0 z)),by simpa [fps] using (m.sel [1,0] z (by decide)).nd⟩,(app_fresh (m.fresh 1 z) (m.fresh 0 z))⟩
theorem c_impl_TypeById_1 (fu:Nat) {w0:World} (t1:Typ) (x2:Int) {b3:Nat} (Aa:bx w0 b3 [I x2] 3) {r:Bool}
    (h:d_impl_TypeById_1 fu t1 x2 = some r) :
    Calls Tryz.prog 68 #[.agg (Flat.e (t1)).toArray,.pointer (some (⟨b3,0,none⟩:Addr))] w0 fun e w=>e = .returned (.bool (r)) ∧ Ext [] w0 w:=by
 refine enter (vs:=[_,_]) func68 z ntmps68 z fun a k=>?_
 have m:=St.start w0
 unfold d_impl_TypeById_1 at h
 refine wr (s_box (cs:=[I t1.fId,I t1.fW,I t1.fH,I t1.fD,I t1.fTare,I t1.fGram,I t1.fCost]) m k z z z z z z fun b5 w7 a k m e Ab=>pN 1 k z fun a k=>nn (wr (sv k z (r_fa fa38_0 k z z) fun a k=>sv k z (r_ldb t13 m 0 Ab 0 k z z z z z) fun a k=>sv k z (r_ld1 t13 (r:=[]) (Aa.at (m.a00 Aa.lt1) 0 1 z z z) k z z) fun a k=>pN 2 k z fun a k=>nn (wp_ret (fS h k m z z)))))
theorem c_slices_IndexFunc_impl_Type_impl_Type (fu:Nat) {w0:World} (Aa:List Typ) (f5:Typ → Option Bool) {v2:Value} {F3:List Nat} (Ac:rd w0 F3 [v2] Aa) {v6:Value} (Aj:FnOk1 Tryz.prog w0 v6 f5) {r:Int}
    (h:d_slices_IndexFunc_impl_Type_impl_Type fu Aa f5 = some r) :
    Calls Tryz.prog 67 #[v2,v6] w0 fun e w=>e = .returned (I r) ∧ Ext [] w0 w:=by
 refine enter (vs:=[_,_]) func67 z ntmps67 z fun a k=>?_
 have m:=St.start w0
 obtain ⟨Ag,Al,rfl,Ah,Ai⟩:=Aj
 unfold d_slices_IndexFunc_impl_Type_impl_Type at h
 refine wr (pN 1 k z fun a k=>nn (wp_seq (wr (pN 1 k z fun a k=>sv k z (r_len (α:=Typ) Ac k underlying27 z z) fun a k=>pN 1 k z fun a k=>nn (wp_block (c_loop (fun n a w=>∃ (Ab:Int),K 19 [(0,v2),(1,(.func (.func Ag) #[] Al.toArray)),(7,I ((Aa.length:Int))),(8,I Ab)] a ∧ St [] w0 w [] ∧ d_slices_IndexFunc_impl_Type_impl_Type_L1 fu Aa f5 n Ab = some r) ?_ ?_ fu _ _ ?_))))))
 · rintro a w ⟨_,_,_,h⟩
   exact nS h
 · rintro Am a As ⟨Ab,k,m,h⟩
   rw [d_slices_IndexFunc_impl_Type_impl_Type_L1_s] at h
   unfold d_slices_IndexFunc_impl_Type_impl_Type_L1_B at h
   refine wr (pN 1 k z fun a k=>nn (wp_seq (cI h k z (fun Ak h=>?_) fun Ak h=>?_)))
   · refine wp_skip (nm_then ?_)
     refine wp_seq (wp_block (wr (pN 2 k z fun a k=>nn (wr (pN 3 k z fun a k=>oE h fun Ar Ad h=>sv k z (r_ixa Ac Ad k ts27 z z z) fun a k=>sv k z (r_lde Ac (m.a00 (Enc.rd_lt Ac)) Ad ta38 k z z) fun a k=>oE h fun Ao Af h=>s_callv k Ah z z z z z z (Ai _ _ _ _ m.ext z Af) fun Aq Ap hR=>?_)))))
     obtain ⟨rfl,e⟩:=hR
     refine ⟨_,z,fun a k=>?_⟩
     have m:=m.step e
     refine nn (cI h k z (fun Ae h=>?_) fun Ae h=>?_)
     · refine wr (pN 2 k z fun a k=>nn (wp_ret (rt_block (rt_then (rt_then (rt_block (rt_then ?_)))))))
       refine fS h k m z z
     refine wp_skip (nm_block (nm_then ?_))
     refine wp_region_lit (pN 2 k z fun a k=>nn ?_)
     exact ⟨w64 (Ab + 1),k.keep [0,1,7,8] z,m.sel [] z (by decide),h⟩
   refine wp_exit (ex_then (ex_then (ex_same (nm_then ?_))))
   refine wr (pN 1 k z fun a k=>nn (wp_ret (fS h k m z z)))
 exact ⟨0,k.keep [0,1,7,8] z,m.sel [] z (by decide),h⟩
theorem c_impl_TypeById (fu:Nat) {w0:World} (r1:Request) (Ac:Int) {Ad:List Value} {F3:List Nat} (Ak:rd w0 F3 Ad r1) {r:Typ × Bool}
    (h:d_impl_TypeById fu r1 Ac = some r) :
    Calls Tryz.prog 18 #[.agg Ad.toArray,I Ac] w0 fun e w=>e = .returned (.tuple #[.agg (Flat.e r.1).toArray,.bool (r.2)]) ∧ Ext [] w0 w:=by
 refine enter (vs:=[_,_]) func18 z ntmps18 z fun a k=>?_
 have m:=St.start w0
 obtain ⟨v6,F7,v8,F9,Al,Be,rfl,rfl,Au,Ab,Aw⟩:=Ak
 unfold d_impl_TypeById at h
 refine wr (s_box (cs:=[I r1.fWay,I r1.fPallet.fW,I r1.fPallet.fD,I r1.fPallet.fH,I r1.fPallet.fGram,I r1.fClasses,v6,v8,I r1.fMaster,Al]) m k z z z z z z fun Ba As a k m e Ag=>s_box (cs:=[I Ac]) m k z z z z z z fun Ap Bd a k m e Aq=>s_alloc (cs:=[I 0,I 0,I 0,I 0,I 0,I 0,I 0]) m k zeroValue38 z z z z z fun Ar Ay a k m e Ae=>pN 1 k z fun a k=>nn (wr (sv k z (r_fa fa30_4 k z z) fun a k=>sv k z (r_ldb t127 m 2 Ag 7 k z z z z z) fun a k=>pN 1 k z fun a k=>oE h fun Az Ai h=>?_)))
 refine cE k m call67 z z z (c_slices_IndexFunc_impl_Type_impl_Type fu _ _ (Enc.rd_agr Ab (m.a00 (Enc.rd_lt Ab))) ⟨68,[.pointer (some (⟨Ap,0,none⟩:Addr))],z,call68,fun w Bb Av r e Am hx=>by subst Am; have m:=m.step e; exact c_impl_TypeById_1 fu _ _ (Aq.agr (m.a 1 rfl) (by simp)) hx⟩ Ai) fun Ax e a k m=>pN 1 k rfl fun a k=>nn (wp_seq (wr (pN 2 k rfl fun a k=>nn (cI h k rfl (fun Aj h=>?_) fun Aj h=>?_))))
 · refine wr (sv k z (r_build bt38 k (cs:=#[I 0,I 0,I 0,I 0,I 0,I 0,I 0]) (ps:=[]) z z (by kernel_rfl)) fun a k=>s_stb (cs':=[I 0,I 0,I 0,I 0,I 0,I 0,I 0]) sizeOf38 m 0 Ae 0 k z z z z z z z z z z z fun Bc a k e m Ao=>pN 1 k z fun a k=>nn (wp_ret (rt_then ?_)))
   cases h
   exact finR2 k z (RV.cA k z ta38 (Ao.at (m.a 0 z) 0 7 z z z) z) (RV.tmp k z) ⟨z,m.ext⟩
 refine wp_skip (nm_then ?_)
 refine wr (sv k z (r_fa fa30_4 k z z) fun a k=>sv k z (r_ldb t127 m 2 Ag 7 k z z z z z) fun a k=>pN 1 k z fun a k=>oE h fun Aa Af h=>sv k z (r_ixa Ab Af k ts27 z z z) fun a k=>sv k z (r_lde Ab (m.a00 (Enc.rd_lt Ab)) Af ta38 k z z) fun a k=>s_stb (cs':=[I Aa.fId,I Aa.fW,I Aa.fH,I Aa.fD,I Aa.fTare,I Aa.fGram,I Aa.fCost]) sizeOf38 m 0 Ae 0 k z z z z z z z z z z z fun At a k e m Ah=>pN 1 k z fun a k=>nn (wp_ret ?_))
 cases h
 exact finR2 k z (RV.cA k z ta38 (Ah.at (m.a 0 z) 0 7 z z z) z) (RV.tmp k z) ⟨z,m.ext⟩
theorem c_impl_MasterOf (fu:Nat) {w0:World} (r1:Request) {Ae:List Value} {F3:List Nat} (Aj:rd w0 F3 Ae r1) {r:Typ × Bool}
    (h:d_impl_MasterOf fu r1 = some r) :
    Calls Tryz.prog 231 #[.agg Ae.toArray] w0 fun e w=>e = .returned (.tuple #[.agg (Flat.e r.1).toArray,.bool (r.2)]) ∧ Ext [] w0 w:=by
 refine enter (vs:=[_]) func231 z ntmps231 z fun a k=>?_
 have m:=St.start w0
 obtain ⟨v5,F6,v7,F8,v9,Ar,rfl,rfl,Ad,Ab,Ac⟩:=Aj
 unfold d_impl_MasterOf at h
 refine wr (s_box (cs:=[I r1.fWay,I r1.fPallet.fW,I r1.fPallet.fD,I r1.fPallet.fH,I r1.fPallet.fGram,I r1.fClasses,v5,v7,I r1.fMaster,v9]) m k z z z z z z fun Aq Al a k m e Af=>s_alloc (cs:=[I 0,I 0,I 0,I 0,I 0,I 0,I 0]) m k zeroValue38 z z z z z fun Ak Am a k m e Ag=>pN 1 k z fun a k=>nn (wr (sv k z (r_ldB ta30 m 1 Af 0 k z z z z z z) fun a k=>sv k z (r_fa fa30_5 k z z) fun a k=>sv k z (r_ldb t13 m 1 Af 8 k z z z z z) fun a k=>oE h fun Aa Ah h=>?_)))
 refine cE k m call18 z z z (c_impl_TypeById fu _ _ (show rd _ _ [I r1.fWay,I r1.fPallet.fW,I r1.fPallet.fD,I r1.fPallet.fH,I r1.fPallet.fGram,I r1.fClasses,v5,v7,I r1.fMaster,v9] (r1:Request) from ⟨_,_,_,_,_,_,z,z,(Enc.rd_agr Ad (m.a00 (Enc.rd_lt Ad))),(Enc.rd_agr Ab (m.a00 (Enc.rd_lt Ab))),(Enc.rd_agr Ac (m.a00 (Enc.rd_lt Ac)))⟩) Ah) fun Ao e a k m=>pN 2 k z fun a k=>s_stb (cs':=[I Aa.1.fId,I Aa.1.fW,I Aa.1.fH,I Aa.1.fD,I Aa.1.fTare,I Aa.1.fGram,I Aa.1.fCost]) sizeOf38 m 0 Ag 0 k z z z z z z z z z z z fun Ap a k e m Ai=>pN 1 k z fun a k=>nn (wp_ret ?_)
 cases h
 exact finR2 k z (RV.cA k z ta38 (Ai.at (m.a 0 z) 0 7 z z z) z) (RV.tmp k z) ⟨z,m.ext⟩
theorem c_impl_in (fu:Nat) {w0:World} (n1:Int) (Ab:Int) (Ac:Int)  {r:Bool}
    (h:d_impl_in fu n1 Ab Ac = some r) :
    Calls Tryz.prog 148 #[I n1,I Ab,I Ac] w0 fun e w=>e = .returned (.bool (r)) ∧ Ext [] w0 w:=by
 refine enter (vs:=[_,_,_]) func148 z ntmps148 z fun a k=>?_
 have m:=St.start w0
 unfold d_impl_in at h
 refine wr (pN 1 k z fun a k=>nn (wr (pN 4 k z fun a k=>bsplit (decide (n1 ≥ Ab)) (fun Aa=>?_) (fun Aa=>?_))))
 · have h:=bif_t Aa h
   refine rB k 10 z Aa fun k=>pN 5 k z fun a k=>nn (wp_ret (fS h k m z z))
 have h:=bif_f Aa h
 refine rB k 10 z Aa fun k=>pN 5 k z fun a k=>nn (wp_ret (fS h k m z z))
theorem c_impl_isSide (fu:Nat) {w0:World} (n1:Int)  {r:Bool}
    (h:d_impl_isSide fu n1 = some r) :
    Calls Tryz.prog 274 #[I n1] w0 fun e w=>e = .returned (.bool (r)) ∧ Ext [] w0 w:=by
 refine enter (vs:=[_]) func274 z ntmps274 z fun a k=>?_
 have m:=St.start w0
 unfold d_impl_isSide at h
 refine wr (pN 1 k z fun a k=>nn (wr (pN 1 k z fun a k=>oE h fun x2 Aa h=>cE k m call148 z z z (c_impl_in fu _ _ _  Aa) fun w5 e a k m=>pN 1 k z fun a k=>nn (wp_ret (fS h k m z z)))))
theorem c_impl_PalletOk (fu:Nat) {w0:World} (x1:Pallet)  {r:Bool}
    (h:d_impl_PalletOk fu x1 = some r) :
    Calls Tryz.prog 276 #[.agg (Flat.e (x1)).toArray] w0 fun e w=>e = .returned (.bool (r)) ∧ Ext [] w0 w:=by
 refine enter (vs:=[_]) func276 z ntmps276 z fun a k=>?_
 have m:=St.start w0
 unfold d_impl_PalletOk at h
 refine wr (s_box (cs:=[I x1.fW,I x1.fD,I x1.fH,I x1.fGram]) m k z z z z z z fun b2 w4 a k m e Ad=>pN 1 k z fun a k=>nn (wr (sv k z (r_fa fa25_0 k z z) fun a k=>sv k z (r_ldb t13 m 0 Ad 0 k z z z z z) fun a k=>oE h fun x5 Af h=>cE k m call274 z z z (c_impl_isSide fu _  Af) fun w9 e a k m=>pN 1 k z fun a k=>bsplit (x5) (fun Aa=>?_) (fun Aa=>?_))))
 · have h:=bif_t Aa h
   refine rB k 6 z Aa fun k=>sv k z (r_fa fa25_1 k z z) fun a k=>sv k z (r_ldb t13 m 0 Ad 1 k z z z z z) fun a k=>oE h fun Aj Ah h=>cE k m call274 z z z (c_impl_isSide fu _  Ah) fun Ak e a k m=>pN 2 k z fun a k=>bsplit (Aj) (fun Ac=>?_) (fun Ac=>?_)
   · have h:=bif_t Ac h
     refine rB k 11 z Ac fun k=>sv k z (r_fa fa25_2 k z z) fun a k=>sv k z (r_ldb t13 m 0 Ad 2 k z z z z z) fun a k=>oE h fun Ae Ag h=>cE k m call274 z z z (c_impl_isSide fu _  Ag) fun Al e a k m=>pN 2 k z fun a k=>bsplit (Ae) (fun Ab=>?_) (fun Ab=>?_)
     · have h:=bif_t Ab h
       refine rB k 16 z Ab fun k=>sv k z (r_fa fa25_3 k z z) fun a k=>sv k z (r_ldb t13 m 0 Ad 3 k z z z z z) fun a k=>oE h fun Am Ai h=>cE k m call148 z z z (c_impl_in fu _ _ _  Ai) fun Ao e a k m=>pN 2 k z fun a k=>nn (wp_ret (fS h k m z z))
     have h:=bif_f Ab h
     refine rB k 16 z Ab fun k=>pN 5 k z fun a k=>nn (wp_ret (fS h k m z z))
   have h:=bif_f Ac h
   refine rB k 11 z Ac fun k=>pN 10 k z fun a k=>nn (wp_ret (fS h k m z z))
 have h:=bif_f Aa h
 refine rB k 6 z Aa fun k=>pN 15 k z fun a k=>nn (wp_ret (fS h k m z z))
theorem c_slices_IndexFunc_impl_Pair_impl_Pair (fu:Nat) {w0:World} (Aa:List Pair) (f5:Pair → Option Bool) {v2:Value} {F3:List Nat} (Ac:rd w0 F3 [v2] Aa) {v6:Value} (Aj:FnOk1 Tryz.prog w0 v6 f5) {r:Int}
    (h:d_slices_IndexFunc_impl_Pair_impl_Pair fu Aa f5 = some r) :
    Calls Tryz.prog 303 #[v2,v6] w0 fun e w=>e = .returned (I r) ∧ Ext [] w0 w:=by
 refine enter (vs:=[_,_]) func303 z ntmps303 z fun a k=>?_
 have m:=St.start w0
 obtain ⟨Ag,Al,rfl,Ah,Ai⟩:=Aj
 unfold d_slices_IndexFunc_impl_Pair_impl_Pair at h
 refine wr (pN 1 k z fun a k=>nn (wp_seq (wr (pN 1 k z fun a k=>sv k z (r_len (α:=Pair) Ac k underlying26 z z) fun a k=>pN 1 k z fun a k=>nn (wp_block (c_loop (fun n a w=>∃ (Ab:Int),K 19 [(0,v2),(1,(.func (.func Ag) #[] Al.toArray)),(7,I ((Aa.length:Int))),(8,I Ab)] a ∧ St [] w0 w [] ∧ d_slices_IndexFunc_impl_Pair_impl_Pair_L1 fu Aa f5 n Ab = some r) ?_ ?_ fu _ _ ?_))))))
 · rintro a w ⟨_,_,_,h⟩
   exact nS h
 · rintro Am a As ⟨Ab,k,m,h⟩
   rw [d_slices_IndexFunc_impl_Pair_impl_Pair_L1_s] at h
   unfold d_slices_IndexFunc_impl_Pair_impl_Pair_L1_B at h
   refine wr (pN 1 k z fun a k=>nn (wp_seq (cI h k z (fun Ak h=>?_) fun Ak h=>?_)))
   · refine wp_skip (nm_then ?_)
     refine wp_seq (wp_block (wr (pN 2 k z fun a k=>nn (wr (pN 3 k z fun a k=>oE h fun Ar Ad h=>sv k z (r_ixa Ac Ad k ts26 z z z) fun a k=>sv k z (r_lde Ac (m.a00 (Enc.rd_lt Ac)) Ad ta158 k z z) fun a k=>oE h fun Ao Af h=>s_callv k Ah z z z z z z (Ai _ _ _ _ m.ext z Af) fun Aq Ap hR=>?_)))))
     obtain ⟨rfl,e⟩:=hR
     refine ⟨_,z,fun a k=>?_⟩
     have m:=m.step e
     refine nn (cI h k z (fun Ae h=>?_) fun Ae h=>?_)
     · refine wr (pN 2 k z fun a k=>nn (wp_ret (rt_block (rt_then (rt_then (rt_block (rt_then ?_)))))))
       refine fS h k m z z
     refine wp_skip (nm_block (nm_then ?_))
     refine wp_region_lit (pN 2 k z fun a k=>nn ?_)
     exact ⟨w64 (Ab + 1),k.keep [0,1,7,8] z,m.sel [] z (by decide),h⟩
   refine wp_exit (ex_then (ex_then (ex_same (nm_then ?_))))
   refine wr (pN 1 k z fun a k=>nn (wp_ret (fS h k m z z)))
 exact ⟨0,k.keep [0,1,7,8] z,m.sel [] z (by decide),h⟩
theorem c_slices_ContainsFunc_impl_Pair_impl_Pair (fu:Nat) {w0:World} (Aa:List Pair) (f5:Pair → Option Bool) {v2:Value} {F3:List Nat} (Ab:rd w0 F3 [v2] Aa) {v6:Value} (Ag:FnOk1 Tryz.prog w0 v6 f5) {r:Bool}
    (h:d_slices_ContainsFunc_impl_Pair_impl_Pair fu Aa f5 = some r) :
    Calls Tryz.prog 277 #[v2,v6] w0 fun e w=>e = .returned (.bool (r)) ∧ Ext [] w0 w:=by
 refine enter (vs:=[_,_]) func277 z ntmps277 z fun a k=>?_
 have m:=St.start w0
 obtain ⟨Aj,Al,rfl,Ae,Af⟩:=Ag
 unfold d_slices_ContainsFunc_impl_Pair_impl_Pair at h
 refine wr (pN 1 k z fun a k=>nn (wr (pN 2 k z fun a k=>oE h fun Ak Ac h=>cE k m call303 z z z (c_slices_IndexFunc_impl_Pair_impl_Pair fu _ _ (Enc.rd_agr Ab (m.a00 (Enc.rd_lt Ab))) ⟨_,_,z,Ae,fun w Ah Ad r e=>Af w Ah Ad r (m.ext.trans e (by simp))⟩ Ac) fun Ai e a k m=>pN 2 k z fun a k=>nn (wp_ret (fS h k m z z)))))
theorem c_impl_BoundsOk_1 (fu:Nat) {w0:World} (p1:Pair)  {r:Bool}
    (h:d_impl_BoundsOk_1 fu p1 = some r) :
    Calls Tryz.prog 278 #[.agg (Flat.e (p1)).toArray] w0 fun e w=>e = .returned (.bool (r)) ∧ Ext [] w0 w:=by
 refine enter (vs:=[_]) func278 z ntmps278 z fun a k=>?_
 have m:=St.start w0
 unfold d_impl_BoundsOk_1 at h
 refine wr (s_box (cs:=[I p1.fA,I p1.fB]) m k z z z z z z fun b2 w4 a k m e Ab=>pN 1 k z fun a k=>nn (wr (sv k z (r_fa fa158_0 k z z) fun a k=>sv k z (r_ldb t13 m 0 Ab 0 k z z z z z) fun a k=>oE h fun x5 Ac h=>cE k m call148 z z z (c_impl_in fu _ _ _  Ac) fun w9 e a k m=>pN 2 k z fun a k=>bsplit (!x5) (fun Aa=>?_) (fun Aa=>?_))))
 · have h:=bif_t Aa h
   refine rB k 7 z Aa fun k=>pN 6 k z fun a k=>nn (wp_ret (fS h k m z z))
 have h:=bif_f Aa h
 refine rB k 7 z Aa fun k=>sv k z (r_fa fa158_1 k z z) fun a k=>sv k z (r_ldb t13 m 0 Ab 1 k z z z z z) fun a k=>oE h fun Af Ad h=>cE k m call148 z z z (c_impl_in fu _ _ _  Ad) fun Ae e a k m=>pN 3 k z fun a k=>nn (wp_ret (fS h k m z z))
theorem c_slices_ContainsFunc_impl_Type_impl_Type (fu:Nat) {w0:World} (Aa:List Typ) (f5:Typ → Option Bool) {v2:Value} {F3:List Nat} (Ab:rd w0 F3 [v2] Aa) {v6:Value} (Ag:FnOk1 Tryz.prog w0 v6 f5) {r:Bool}
    (h:d_slices_ContainsFunc_impl_Type_impl_Type fu Aa f5 = some r) :
    Calls Tryz.prog 236 #[v2,v6] w0 fun e w=>e = .returned (.bool (r)) ∧ Ext [] w0 w:=by
 refine enter (vs:=[_,_]) func236 z ntmps236 z fun a k=>?_
 have m:=St.start w0
 obtain ⟨Aj,Al,rfl,Ae,Af⟩:=Ag
 unfold d_slices_ContainsFunc_impl_Type_impl_Type at h
 refine wr (pN 1 k z fun a k=>nn (wr (pN 2 k z fun a k=>oE h fun Ak Ac h=>cE k m call67 z z z (c_slices_IndexFunc_impl_Type_impl_Type fu _ _ (Enc.rd_agr Ab (m.a00 (Enc.rd_lt Ab))) ⟨_,_,z,Ae,fun w Ah Ad r e=>Af w Ah Ad r (m.ext.trans e (by simp))⟩ Ac) fun Ai e a k m=>pN 2 k z fun a k=>nn (wp_ret (fS h k m z z)))))
theorem c_impl_TypeOk (fu:Nat) {w0:World} (x1:Typ)  {r:Bool}
    (h:d_impl_TypeOk fu x1 = some r) :
    Calls Tryz.prog 280 #[.agg (Flat.e (x1)).toArray] w0 fun e w=>e = .returned (.bool (r)) ∧ Ext [] w0 w:=by
 refine enter (vs:=[_]) func280 z ntmps280 z fun a k=>?_
 have m:=St.start w0
 unfold d_impl_TypeOk at h
 refine wr (s_box (cs:=[I x1.fId,I x1.fW,I x1.fH,I x1.fD,I x1.fTare,I x1.fGram,I x1.fCost]) m k z z z z z z fun b2 w4 a k m e Aa=>pN 1 k z fun a k=>nn (wr (sv k z (r_fa fa38_0 k z z) fun a k=>sv k z (r_ldb t13 m 0 Aa 0 k z z z z z) fun a k=>oE h fun x5 Ak h=>cE k m call148 z z z (c_impl_in fu _ _ _  Ak) fun w9 e a k m=>pN 1 k z fun a k=>bsplit (x5) (fun Ab=>?_) (fun Ab=>?_))))
 · have h:=bif_t Ab h
   refine rB k 6 z Ab fun k=>sv k z (r_fa fa38_1 k z z) fun a k=>sv k z (r_ldb t13 m 0 Aa 1 k z z z z z) fun a k=>oE h fun Aq Al h=>cE k m call274 z z z (c_impl_isSide fu _  Al) fun Az e a k m=>pN 2 k z fun a k=>bsplit (Aq) (fun Ac=>?_) (fun Ac=>?_)
   · have h:=bif_t Ac h
     refine rB k 11 z Ac fun k=>sv k z (r_fa fa38_2 k z z) fun a k=>sv k z (r_ldb t13 m 0 Aa 2 k z z z z z) fun a k=>oE h fun Ah Ai h=>cE k m call274 z z z (c_impl_isSide fu _  Ai) fun Ax e a k m=>pN 2 k z fun a k=>bsplit (Ah) (fun Ag=>?_) (fun Ag=>?_)
     · have h:=bif_t Ag h
       refine rB k 16 z Ag fun k=>sv k z (r_fa fa38_3 k z z) fun a k=>sv k z (r_ldb t13 m 0 Aa 3 k z z z z z) fun a k=>oE h fun Ao Am h=>cE k m call274 z z z (c_impl_isSide fu _  Am) fun Av e a k m=>pN 2 k z fun a k=>bsplit (Ao) (fun Ad=>?_) (fun Ad=>?_)
       · have h:=bif_t Ad h
         refine rB k 21 z Ad fun k=>sv k z (r_fa fa38_4 k z z) fun a k=>sv k z (r_ldb t13 m 0 Aa 4 k z z z z z) fun a k=>oE h fun At Aj h=>cE k m call148 z z z (c_impl_in fu _ _ _  Aj) fun Au e a k m=>pN 2 k z fun a k=>bsplit (At) (fun Af=>?_) (fun Af=>?_)
         · have h:=bif_t Af h
           refine rB k 26 z Af fun k=>sv k z (r_fa fa38_5 k z z) fun a k=>sv k z (r_ldb t13 m 0 Aa 5 k z z z z z) fun a k=>oE h fun Ap Ar h=>cE k m call148 z z z (c_impl_in fu _ _ _  Ar) fun Aw e a k m=>pN 2 k z fun a k=>bsplit (Ap) (fun Ae=>?_) (fun Ae=>?_)
           · have h:=bif_t Ae h
             refine rB k 31 z Ae fun k=>sv k z (r_fa fa38_6 k z z) fun a k=>sv k z (r_ldb t13 m 0 Aa 6 k z z z z z) fun a k=>oE h fun Ba As h=>cE k m call148 z z z (c_impl_in fu _ _ _  As) fun Ay e a k m=>pN 2 k z fun a k=>?_
             have k:=k.keep [2] z
             refine nn (wp_ret (fS h k m z z))
           have h:=bif_f Ae h
           refine rB k 31 z Ae fun k=>pN 5 k z fun a k=>?_
           have k:=k.keep [2] z
           refine nn (wp_ret (fS h k m z z))
         have h:=bif_f Af h
         refine rB k 26 z Af fun k=>pN 10 k z fun a k=>?_
         have k:=k.keep [2] z
         refine nn (wp_ret (fS h k m z z))
       have h:=bif_f Ad h
       refine rB k 21 z Ad fun k=>pN 15 k z fun a k=>?_
       have k:=k.keep [2] z
       refine nn (wp_ret (fS h k m z z))
     have h:=bif_f Ag h
     refine rB k 16 z Ag fun k=>pN 20 k z fun a k=>?_
     have k:=k.keep [2] z
     refine nn (wp_ret (fS h k m z z))
   have h:=bif_f Ac h
   refine rB k 11 z Ac fun k=>pN 25 k z fun a k=>?_
   have k:=k.keep [2] z
   refine nn (wp_ret (fS h k m z z))
 have h:=bif_f Ab h
 refine rB k 6 z Ab fun k=>pN 30 k z fun a k=>?_
 have k:=k.keep [2] z
 refine nn (wp_ret (fS h k m z z))
theorem c_impl_BoundsOk_2 (fu:Nat) {w0:World} (t1:Typ)  {r:Bool}
    (h:d_impl_BoundsOk_2 fu t1 = some r) :
    Calls Tryz.prog 279 #[.agg (Flat.e (t1)).toArray] w0 fun e w=>e = .returned (.bool (r)) ∧ Ext [] w0 w:=by
 refine enter (vs:=[_]) func279 z ntmps279 z fun a k=>?_
 have m:=St.start w0
 unfold d_impl_BoundsOk_2 at h
 refine wr (s_box (cs:=[I t1.fId,I t1.fW,I t1.fH,I t1.fD,I t1.fTare,I t1.fGram,I t1.fCost]) m k z z z z z z fun b2 w4 a k m e Aa=>pN 1 k z fun a k=>nn (wr (sv k z (r_ldB ta38 m 0 Aa 0 k z z z z z z) fun a k=>oE h fun x5 Ab h=>cE k m call280 z z z (c_impl_TypeOk fu (t1:Typ)  Ab) fun w9 e a k m=>pN 2 k z fun a k=>nn (wp_ret (fS h k m z z)))))
theorem c_impl_ItemOk (fu:Nat) {w0:World} (x1:Item)  {r:Bool}
    (h:d_impl_ItemOk fu x1 = some r) :
    Calls Tryz.prog 281 #[.agg (Flat.e (x1)).toArray] w0 fun e w=>e = .returned (.bool (r)) ∧ Ext [] w0 w:=by
 refine enter (vs:=[_]) func281 z ntmps281 z fun a k=>?_
 have m:=St.start w0
 unfold d_impl_ItemOk at h
 refine wr (s_box (cs:=[I x1.fId,I x1.fW,I x1.fH,I x1.fD,I x1.fGram,I x1.fClass,I x1.fCount]) m k z z z z z z fun b2 w4 a k m e Aa=>pN 1 k z fun a k=>nn (wr (sv k z (r_fa fa97_0 k z z) fun a k=>sv k z (r_ldb t13 m 0 Aa 0 k z z z z z) fun a k=>oE h fun x5 Ak h=>cE k m call148 z z z (c_impl_in fu _ _ _  Ak) fun w9 e a k m=>pN 1 k z fun a k=>bsplit (x5) (fun Ab=>?_) (fun Ab=>?_))))
 · have h:=bif_t Ab h
   refine rB k 6 z Ab fun k=>sv k z (r_fa fa97_1 k z z) fun a k=>sv k z (r_ldb t13 m 0 Aa 1 k z z z z z) fun a k=>oE h fun Aq Al h=>cE k m call274 z z z (c_impl_isSide fu _  Al) fun Az e a k m=>pN 2 k z fun a k=>bsplit (Aq) (fun Ac=>?_) (fun Ac=>?_)
   · have h:=bif_t Ac h
     refine rB k 11 z Ac fun k=>sv k z (r_fa fa97_2 k z z) fun a k=>sv k z (r_ldb t13 m 0 Aa 2 k z z z z z) fun a k=>oE h fun Ah Ai h=>cE k m call274 z z z (c_impl_isSide fu _  Ai) fun Ax e a k m=>pN 2 k z fun a k=>bsplit (Ah) (fun Ag=>?_) (fun Ag=>?_)
     · have h:=bif_t Ag h
       refine rB k 16 z Ag fun k=>sv k z (r_fa fa97_3 k z z) fun a k=>sv k z (r_ldb t13 m 0 Aa 3 k z z z z z) fun a k=>oE h fun Ao Am h=>cE k m call274 z z z (c_impl_isSide fu _  Am) fun Av e a k m=>pN 2 k z fun a k=>bsplit (Ao) (fun Ad=>?_) (fun Ad=>?_)
       · have h:=bif_t Ad h
         refine rB k 21 z Ad fun k=>sv k z (r_fa fa97_4 k z z) fun a k=>sv k z (r_ldb t13 m 0 Aa 4 k z z z z z) fun a k=>oE h fun At Aj h=>cE k m call148 z z z (c_impl_in fu _ _ _  Aj) fun Au e a k m=>pN 2 k z fun a k=>bsplit (At) (fun Af=>?_) (fun Af=>?_)
         · have h:=bif_t Af h
           refine rB k 26 z Af fun k=>sv k z (r_fa fa97_5 k z z) fun a k=>sv k z (r_ldb t13 m 0 Aa 5 k z z z z z) fun a k=>oE h fun Ap Ar h=>cE k m call148 z z z (c_impl_in fu _ _ _  Ar) fun Aw e a k m=>pN 2 k z fun a k=>bsplit (Ap) (fun Ae=>?_) (fun Ae=>?_)
           · have h:=bif_t Ae h
             refine rB k 31 z Ae fun k=>sv k z (r_fa fa97_6 k z z) fun a k=>sv k z (r_ldb t13 m 0 Aa 6 k z z z z z) fun a k=>oE h fun Ba As h=>cE k m call148 z z z (c_impl_in fu _ _ _  As) fun Ay e a k m=>pN 2 k z fun a k=>?_
             have k:=k.keep [2] z
             refine nn (wp_ret (fS h k m z z))
           have h:=bif_f Ae h
           refine rB k 31 z Ae fun k=>pN 5 k z fun a k=>?_
           have k:=k.keep [2] z
           refine nn (wp_ret (fS h k m z z))
         have h:=bif_f Af h
         refine rB k 26 z Af fun k=>pN 10 k z fun a k=>?_
         have k:=k.keep [2] z
         refine nn (wp_ret (fS h k m z z))
       have h:=bif_f Ad h
       refine rB k 21 z Ad fun k=>pN 15 k z fun a k=>?_
       have k:=k.keep [2] z
       refine nn (wp_ret (fS h k m z z))
     have h:=bif_f Ag h
     refine rB k 16 z Ag fun k=>pN 20 k z fun a k=>?_
     have k:=k.keep [2] z
     refine nn (wp_ret (fS h k m z z))
   have h:=bif_f Ac h
   refine rB k 11 z Ac fun k=>pN 25 k z fun a k=>?_
   have k:=k.keep [2] z
   refine nn (wp_ret (fS h k m z z))
 have h:=bif_f Ab h
 refine rB k 6 z Ab fun k=>pN 30 k z fun a k=>?_
 have k:=k.keep [2] z
 refine nn (wp_ret (fS h k m z z))
theorem c_impl_BoundsOk (fu:Nat) {w0:World} (r1:Request) {Ap:List Value} {F3:List Nat} (Bk:rd w0 F3 Ap r1) {r:Bool}
    (h:d_impl_BoundsOk fu r1 = some r) :
    Calls Tryz.prog 232 #[.agg Ap.toArray] w0 fun e w=>e = .returned (.bool (r)) ∧ Ext [] w0 w:=by
 refine enter (vs:=[_]) func232 z ntmps232 z fun a k=>?_
 have m:=St.start w0
 obtain ⟨v5,F6,v7,F8,v9,Cd,rfl,rfl,Am,Ao,Ah⟩:=Bk
 unfold d_impl_BoundsOk at h
 refine wr (s_box (cs:=[I r1.fWay,I r1.fPallet.fW,I r1.fPallet.fD,I r1.fPallet.fH,I r1.fPallet.fGram,I r1.fClasses,v5,v7,I r1.fMaster,v9]) m k z z z z z z fun Aj Ar a k m e Aa=>pN 1 k z fun a k=>nn (c_cut (fun a w=>K 70 [(1,.pointer (some (⟨Aj,0,none⟩:Addr)))] a ∧ St [] w0 w [([Aj],Ar)] ∧ d_impl_BoundsOk_J2 fu r1 = some r) ?_ ?_))
 · rintro a Ce ⟨k,m,h⟩
   unfold d_impl_BoundsOk_J2 at h
   refine wp_seq (wr (sv k z (r_fa fa30_3 k z z) fun a k=>sv k z (r_ldb t126 m 0 Aa 6 k z z z z z) fun a k=>oE h fun Ck Ax h=>cE k m call277 z z z (c_slices_ContainsFunc_impl_Pair_impl_Pair fu _ _ (Enc.rd_agr Am (m.a00 (Enc.rd_lt Am))) ⟨278,[],z,call278,fun w Bt Ci r e Bj hx=>by subst Bj; have m:=m.step e; exact c_impl_BoundsOk_1 fu _  hx⟩ Ax) fun Cl e a k m=>nn (cI h k rfl (fun At h=>?_) fun At h=>?_)))
   · refine wr (pN 1 k z fun a k=>nn (wp_ret (rt_then ?_)))
     refine fS h k m z z
   refine wp_skip (nm_then ?_)
   refine c_cut (fun a w=>K 70 [(1,.pointer (some (⟨Aj,0,none⟩:Addr)))] a ∧ St [] w0 w [([Aj],Ar)] ∧ d_impl_BoundsOk_J1 fu r1 = some r) ?_ ?_
   · rintro a Cg ⟨k,m,h⟩
     unfold d_impl_BoundsOk_J1 at h
     refine wr (pN 1 k z fun a k=>nn (wp_seq (wr (sv k z (r_fa fa30_6 k z z) fun a k=>sv k z (r_ldb t128 m 0 Aa 9 k z z z z z) fun a k=>sv k z (r_len (α:=Item) Ah k underlying28 z z) fun a k=>pN 1 k z fun a k=>nn (wp_block (c_loop (fun n a w=>∃ (Al:Int) (Ak:Int),K 70 [(3,I Al),(54,v9),(55,I ((r1.fItems.length:Int))),(56,I Ak)] a ∧ St [] w0 w [] ∧ d_impl_BoundsOk_L1 fu r1 n Al Ak = some r) ?_ ?_ fu _ _ ?_))))))
     · rintro a w ⟨_,_,_,_,h⟩
       exact nS h
     · rintro Cj a Cb ⟨Al,Ak,k,m,h⟩
       rw [d_impl_BoundsOk_L1_s] at h
       unfold d_impl_BoundsOk_L1_B at h
       refine wr (pN 1 k z fun a k=>nn (wp_seq (cI h k z (fun Bp h=>?_) fun Bp h=>?_)))
       · refine wp_skip (nm_then ?_)
         refine wp_seq (wp_block (wr (oE h fun Ab Aq h=>sv k z (r_ixa Ah Aq k ts28 z z z) fun a k=>sv k z (r_lde Ah (m.a00 (Enc.rd_lt Ah)) Aq ta97 k z z) fun a k=>s_alloc (cs:=[I 0,I 0,I 0,I 0,I 0,I 0,I 0]) m k zeroValue97 z z z z z fun Cf Br a k m e Be=>s_stb (cs':=[I Ab.fId,I Ab.fW,I Ab.fH,I Ab.fD,I Ab.fGram,I Ab.fClass,I Ab.fCount]) sizeOf97 m 0 Be 0 k z z z z z z z z z z z fun Bq a k e m As=>nn (wp_seq (wr (sv k z (r_ldB ta97 m 0 As 0 k z z z z z z) fun a k=>oE h fun Cc Bh h=>cE k m call281 z z z (c_impl_ItemOk fu (Ab:Item)  Bh) fun Bs e a k m=>?_))))))
         refine pN 1 k z fun a k=>nn (cI h k z (fun Av h=>?_) fun Av h=>?_)
         · refine wr (pN 1 k z fun a k=>nn (wp_ret (rt_then (rt_block (rt_then (rt_then (rt_block (rt_then ?_))))))))
           refine fS h k m z z
         refine wp_skip (nm_then ?_)
         refine wp_region_lit (pN 1 k z fun a k=>sv k z (r_fa fa97_6 k z z) fun a k=>sv k z (r_ldb t13 m 0 As 6 k z z z z z) fun a k=>pN 2 k z fun a k=>wpList_nil (nm_block (nm_then ?_)))
         refine wp_region_lit (pN 2 k z fun a k=>nn ?_)
         exact ⟨w64 (Al + Ab.fCount),w64 (Ak + 1),k.keep [3,54,55,56] z,m.sel [] z (by decide),h⟩
       refine wp_exit (ex_then (ex_then (ex_same (nm_then ?_))))
       refine wr (pN 3 k z fun a k=>nn (wp_ret (fS h k m z z)))
     exact ⟨0,0,k.keep [3,54,55,56] z,m.sel [] z (by decide),h⟩
   refine wr (sv k z (r_fa fa30_4 k z z) fun a k=>sv k z (r_ldb t127 m 0 Aa 7 k z z z z z) fun a k=>sv k z (r_len (α:=Typ) Ao k underlying27 z z) fun a k=>oE h fun Bf Bm h=>cE k m call148 z z z (c_impl_in fu _ _ _  Bm) fun Bw e a k m=>pN 2 k z fun a k=>bsplit (!Bf) (fun Af=>?_) (fun Af=>?_))
   · have h:=bif_t Af h
     refine rB k 36 z Af fun k=>pN 16 k z fun a k=>?_
     have k:=k.keep [1,52] z
     refine nn (wp_cond_true (k.ev z) (wr (pN 1 k z fun a k=>nn (wp_ret (rt_then ?_)))))
     refine fS h k m z z
   have h:=bif_f Af h
   refine rB k 36 z Af fun k=>sv k z (r_fa fa30_4 k z z) fun a k=>sv k z (r_ldb t127 m 0 Aa 7 k z z z z z) fun a k=>oE h fun Ay Bb h=>cE k m call236 z z z (c_slices_ContainsFunc_impl_Type_impl_Type fu _ _ (Enc.rd_agr Ao (m.a00 (Enc.rd_lt Ao))) ⟨279,[],z,call279,fun w By Bv r e Aw hx=>by subst Aw; have m:=m.step e; exact c_impl_BoundsOk_2 fu _  hx⟩ Bb) fun Bu e a k m=>pN 2 k rfl fun a k=>bsplit (Ay) (fun Ad=>?_) (fun Ad=>?_)
   · have h:=bif_t Ad h
     refine rB k 41 z Ad fun k=>pN 11 k z fun a k=>?_
     have k:=k.keep [1,52] z
     refine nn (wp_cond_true (k.ev z) (wr (pN 1 k z fun a k=>nn (wp_ret (rt_then ?_)))))
     refine fS h k m z z
   have h:=bif_f Ad h
   refine rB k 41 z Ad fun k=>sv k z (r_fa fa30_5 k z z) fun a k=>sv k z (r_ldb t13 m 0 Aa 8 k z z z z z) fun a k=>oE h fun Bc Bo h=>cE k m call148 z z z (c_impl_in fu _ _ _  Bo) fun Ca e a k m=>pN 3 k z fun a k=>bsplit (!Bc) (fun Ac=>?_) (fun Ac=>?_)
   · have h:=bif_t Ac h
     refine rB k 47 z Ac fun k=>pN 5 k z fun a k=>?_
     have k:=k.keep [1,52] z
     refine nn (wp_cond_true (k.ev z) (wr (pN 1 k z fun a k=>nn (wp_ret (rt_then ?_)))))
     refine fS h k m z z
   have h:=bif_f Ac h
   refine rB k 47 z Ac fun k=>sv k z (r_fa fa30_6 k z z) fun a k=>sv k z (r_ldb t128 m 0 Aa 9 k z z z z z) fun a k=>sv k z (r_len (α:=Item) Ah k underlying28 z z) fun a k=>pN 2 k z fun a k=>?_
   have k:=k.keep [1,52] z
   refine nn (cI h k z (fun Bd h=>?_) fun Bd h=>?_)
   · refine wr (pN 1 k z fun a k=>nn (wp_ret (rt_then ?_)))
     refine fS h k m z z
   refine wp_skip (nm_then ?_)
   exact ⟨k.keep [1] z,m.sel [0] z (by decide),h⟩
 refine wr (sv k z (r_fa fa30_0 k z z) fun a k=>sv k z (r_ldb t13 m 0 Aa 0 k z z z z z) fun a k=>oE h fun Ba Az h=>cE k m call148 z z z (c_impl_in fu _ _ _  Az) fun Ch e a k m=>pN 2 k z fun a k=>bsplit (!Ba) (fun Ae=>?_) (fun Ae=>?_))
 · have h:=bif_t Ae h
   refine rB k 10 z Ae fun k=>pN 17 k z fun a k=>nn (wp_cond_true (k.ev z) (wr (pN 1 k z fun a k=>?_)))
   have k:=k.keep [2] z
   refine nn (wp_ret (rt_then ?_))
   refine fS h k m z z
 have h:=bif_f Ae h
 refine rB k 10 z Ae fun k=>sv k z (r_fa fa30_1 k z z) fun a k=>sv k z (r_ldB ta25 m 0 Aa 1 k z z z z z z) fun a k=>oE h fun Au Bn h=>cE k m call276 z z z (c_impl_PalletOk fu (r1.fPallet:Pallet)  Bn) fun Bz e a k m=>pN 3 k z fun a k=>bsplit (!Au) (fun Ag=>?_) (fun Ag=>?_)
 · have h:=bif_t Ag h
   refine rB k 16 z Ag fun k=>pN 11 k z fun a k=>nn (wp_cond_true (k.ev z) (wr (pN 1 k z fun a k=>?_)))
   have k:=k.keep [2] z
   refine nn (wp_ret (rt_then ?_))
   refine fS h k m z z
 have h:=bif_f Ag h
 refine rB k 16 z Ag fun k=>sv k z (r_fa fa30_2 k z z) fun a k=>sv k z (r_ldb t13 m 0 Aa 5 k z z z z z) fun a k=>oE h fun Bi Bg h=>cE k m call148 z z z (c_impl_in fu _ _ _  Bg) fun Bx e a k m=>pN 3 k z fun a k=>bsplit (!Bi) (fun Ai=>?_) (fun Ai=>?_)
 · have h:=bif_t Ai h
   refine rB k 22 z Ai fun k=>pN 5 k z fun a k=>nn (wp_cond_true (k.ev z) (wr (pN 1 k z fun a k=>?_)))
   have k:=k.keep [2] z
   refine nn (wp_ret (rt_then ?_))
   refine fS h k m z z
 have h:=bif_f Ai h
 refine rB k 22 z Ai fun k=>sv k z (r_fa fa30_3 k z z) fun a k=>sv k z (r_ldb t126 m 0 Aa 6 k z z z z z) fun a k=>sv k z (r_len (α:=Pair) Am k underlying26 z z) fun a k=>pN 2 k z fun a k=>nn (cI h k z (fun Bl h=>?_) fun Bl h=>?_)
 · refine wr (pN 1 k z fun a k=>?_)
   have k:=k.keep [2] z
   refine nn (wp_ret (rt_then ?_))
   refine fS h k m z z
 refine wp_skip (nm_then ?_)
 exact ⟨k.keep [1] z,m.sel [0] z (by decide),h⟩
theorem c_impl_namesOk_1 (fu:Nat) {w0:World} (q1:Typ) (x2:Typ) {b3:Nat} (Aa:bx w0 b3 [I x2.fId,I x2.fW,I x2.fH,I x2.fD,I x2.fTare,I x2.fGram,I x2.fCost] 38) {r:Bool}
    (h:d_impl_namesOk_1 fu q1 x2 = some r) :
    Calls Tryz.prog 282 #[.agg (Flat.e (q1)).toArray,.pointer (some (⟨b3,0,none⟩:Addr))] w0 fun e w=>e = .returned (.bool (r)) ∧ Ext [] w0 w:=by
 refine enter (vs:=[_,_]) func282 z ntmps282 z fun a k=>?_
 have m:=St.start w0
 unfold d_impl_namesOk_1 at h
 refine wr (s_box (cs:=[I q1.fId,I q1.fW,I q1.fH,I q1.fD,I q1.fTare,I q1.fGram,I q1.fCost]) m k z z z z z z fun b5 w7 a k m e Ab=>pN 1 k z fun a k=>nn (wr (sv k z (r_fa fa38_0 k z z) fun a k=>sv k z (r_ldb t13 m 0 Ab 0 k z z z z z) fun a k=>sv k z (r_fa fa38_0 k z z) fun a k=>sv k z (r_ld1 t13 (r:=[]) (Aa.at (m.a00 Aa.lt1) 0 1 z z z) k z z) fun a k=>pN 2 k z fun a k=>nn (wp_ret (fS h k m z z)))))
theorem c_impl_namesOk_2 (fu:Nat) {w0:World} (q1:Item) (x2:Item) {b3:Nat} (Aa:bx w0 b3 [I x2.fId,I x2.fW,I x2.fH,I x2.fD,I x2.fGram,I x2.fClass,I x2.fCount] 97) {r:Bool}
    (h:d_impl_namesOk_2 fu q1 x2 = some r) :
    Calls Tryz.prog 283 #[.agg (Flat.e (q1)).toArray,.pointer (some (⟨b3,0,none⟩:Addr))] w0 fun e w=>e = .returned (.bool (r)) ∧ Ext [] w0 w:=by
 refine enter (vs:=[_,_]) func283 z ntmps283 z fun a k=>?_
 have m:=St.start w0
 unfold d_impl_namesOk_2 at h
 refine wr (s_box (cs:=[I q1.fId,I q1.fW,I q1.fH,I q1.fD,I q1.fGram,I q1.fClass,I q1.fCount]) m k z z z z z z fun b5 w7 a k m e Ab=>pN 1 k z fun a k=>nn (wr (sv k z (r_fa fa97_0 k z z) fun a k=>sv k z (r_ldb t13 m 0 Ab 0 k z z z z z) fun a k=>sv k z (r_fa fa97_0 k z z) fun a k=>sv k z (r_ld1 t13 (r:=[]) (Aa.at (m.a00 Aa.lt1) 0 1 z z z) k z z) fun a k=>pN 2 k z fun a k=>nn (wp_ret (fS h k m z z)))))
theorem c_slices_IndexFunc_impl_Item_impl_Item (fu:Nat) {w0:World} (Aa:List Item) (f5:Item → Option Bool) {v2:Value} {F3:List Nat} (Ac:rd w0 F3 [v2] Aa) {v6:Value} (Aj:FnOk1 Tryz.prog w0 v6 f5) {r:Int}
    (h:d_slices_IndexFunc_impl_Item_impl_Item fu Aa f5 = some r) :
    Calls Tryz.prog 165 #[v2,v6] w0 fun e w=>e = .returned (I r) ∧ Ext [] w0 w:=by
 refine enter (vs:=[_,_]) func165 z ntmps165 z fun a k=>?_
 have m:=St.start w0
 obtain ⟨Ag,Al,rfl,Ah,Ai⟩:=Aj
 unfold d_slices_IndexFunc_impl_Item_impl_Item at h
 refine wr (pN 1 k z fun a k=>nn (wp_seq (wr (pN 1 k z fun a k=>sv k z (r_len (α:=Item) Ac k underlying28 z z) fun a k=>pN 1 k z fun a k=>nn (wp_block (c_loop (fun n a w=>∃ (Ab:Int),K 19 [(0,v2),(1,(.func (.func Ag) #[] Al.toArray)),(7,I ((Aa.length:Int))),(8,I Ab)] a ∧ St [] w0 w [] ∧ d_slices_IndexFunc_impl_Item_impl_Item_L1 fu Aa f5 n Ab = some r) ?_ ?_ fu _ _ ?_))))))
 · rintro a w ⟨_,_,_,h⟩
   exact nS h
 · rintro Am a As ⟨Ab,k,m,h⟩
   rw [d_slices_IndexFunc_impl_Item_impl_Item_L1_s] at h
   unfold d_slices_IndexFunc_impl_Item_impl_Item_L1_B at h
   refine wr (pN 1 k z fun a k=>nn (wp_seq (cI h k z (fun Ak h=>?_) fun Ak h=>?_)))
   · refine wp_skip (nm_then ?_)
     refine wp_seq (wp_block (wr (pN 2 k z fun a k=>nn (wr (pN 3 k z fun a k=>oE h fun Ar Ad h=>sv k z (r_ixa Ac Ad k ts28 z z z) fun a k=>sv k z (r_lde Ac (m.a00 (Enc.rd_lt Ac)) Ad ta97 k z z) fun a k=>oE h fun Ao Af h=>s_callv k Ah z z z z z z (Ai _ _ _ _ m.ext z Af) fun Aq Ap hR=>?_)))))
     obtain ⟨rfl,e⟩:=hR
     refine ⟨_,z,fun a k=>?_⟩
     have m:=m.step e
     refine nn (cI h k z (fun Ae h=>?_) fun Ae h=>?_)
     · refine wr (pN 2 k z fun a k=>nn (wp_ret (rt_block (rt_then (rt_then (rt_block (rt_then ?_)))))))
       refine fS h k m z z
     refine wp_skip (nm_block (nm_then ?_))
     refine wp_region_lit (pN 2 k z fun a k=>nn ?_)
     exact ⟨w64 (Ab + 1),k.keep [0,1,7,8] z,m.sel [] z (by decide),h⟩
   refine wp_exit (ex_then (ex_then (ex_same (nm_then ?_))))
   refine wr (pN 1 k z fun a k=>nn (wp_ret (fS h k m z z)))
 exact ⟨0,k.keep [0,1,7,8] z,m.sel [] z (by decide),h⟩
theorem c_slices_ContainsFunc_impl_Item_impl_Item (fu:Nat) {w0:World} (Aa:List Item) (f5:Item → Option Bool) {v2:Value} {F3:List Nat} (Ab:rd w0 F3 [v2] Aa) {v6:Value} (Ag:FnOk1 Tryz.prog w0 v6 f5) {r:Bool}
    (h:d_slices_ContainsFunc_impl_Item_impl_Item fu Aa f5 = some r) :
    Calls Tryz.prog 75 #[v2,v6] w0 fun e w=>e = .returned (.bool (r)) ∧ Ext [] w0 w:=by
 refine enter (vs:=[_,_]) func75 z ntmps75 z fun a k=>?_
 have m:=St.start w0
 obtain ⟨Aj,Al,rfl,Ae,Af⟩:=Ag
 unfold d_slices_ContainsFunc_impl_Item_impl_Item at h
 refine wr (pN 1 k z fun a k=>nn (wr (pN 2 k z fun a k=>oE h fun Ak Ac h=>cE k m call165 z z z (c_slices_IndexFunc_impl_Item_impl_Item fu _ _ (Enc.rd_agr Ab (m.a00 (Enc.rd_lt Ab))) ⟨_,_,z,Ae,fun w Ah Ad r e=>Af w Ah Ad r (m.ext.trans e (by simp))⟩ Ac) fun Ai e a k m=>pN 2 k z fun a k=>nn (wp_ret (fS h k m z z)))))
theorem c_impl_namesOk_3 (fu:Nat) {w0:World} (p1:Pair) (x2:Request) {v5:Value} {F6:List Nat} {v8:Value} {F9:List Nat} {Ac:Value} {Ae:List Nat} {b3:Nat} (Ab:bx w0 b3 [I x2.fWay,I x2.fPallet.fW,I x2.fPallet.fD,I x2.fPallet.fH,I x2.fPallet.fGram,I x2.fClasses,v5,v8,I x2.fMaster,Ac] 30) (Ai:rd w0 F6 [v5] x2.fPairs) (Aj:rd w0 F9 [v8] x2.fTypes) (Ag:rd w0 Ae [Ac] x2.fItems) {r:Bool}
    (h:d_impl_namesOk_3 fu p1 x2 = some r) :
    Calls Tryz.prog 284 #[.agg (Flat.e (p1)).toArray,.pointer (some (⟨b3,0,none⟩:Addr))] w0 fun e w=>e = .returned (.bool (r)) ∧ Ext [] w0 w:=by
 refine enter (vs:=[_,_]) func284 z ntmps284 z fun a k=>?_
 have m:=St.start w0
 unfold d_impl_namesOk_3 at h
 refine wr (s_box (cs:=[I p1.fA,I p1.fB]) m k z z z z z z fun Ah Af a k m e Ad=>pN 1 k z fun a k=>nn (wr (sv k z (r_fa fa158_0 k z z) fun a k=>sv k z (r_ldb t13 m 0 Ad 0 k z z z z z) fun a k=>sv k z (r_fa fa30_2 k z z) fun a k=>sv k z (r_ld1 t13 (r:=[]) (Ab.at (m.a00 Ab.lt1) 5 1 z z z) k z z) fun a k=>pN 2 k z fun a k=>bsplit (decide (p1.fA ≥ x2.fClasses)) (fun Aa=>?_) (fun Aa=>?_))))
 · have h:=bif_t Aa h
   refine rB k 9 z Aa fun k=>pN 7 k z fun a k=>nn (wp_ret (fS h k m z z))
 have h:=bif_f Aa h
 refine rB k 9 z Aa fun k=>sv k z (r_fa fa158_1 k z z) fun a k=>sv k z (r_ldb t13 m 0 Ad 1 k z z z z z) fun a k=>sv k z (r_fa fa30_2 k z z) fun a k=>sv k z (r_ld1 t13 (r:=[]) (Ab.at (m.a00 Ab.lt1) 5 1 z z z) k z z) fun a k=>pN 3 k z fun a k=>nn (wp_ret (fS h k m z z))
theorem c_impl_namesOk (fu:Nat) {w0:World} (r1:Request) {Ap:List Value} {F3:List Nat} (Bk:rd w0 F3 Ap r1) {r:Bool}
    (h:d_impl_namesOk fu r1 = some r) :
    Calls Tryz.prog 233 #[.agg Ap.toArray] w0 fun e w=>e = .returned (.bool (r)) ∧ Ext [] w0 w:=by
 refine enter (vs:=[_]) func233 z ntmps233 z fun a k=>?_
 have m:=St.start w0
 obtain ⟨v5,F6,v7,F8,v9,Ce,rfl,rfl,Ai,Aa,Ab⟩:=Bk
 unfold d_impl_namesOk at h
 refine wr (s_box (cs:=[I r1.fWay,I r1.fPallet.fW,I r1.fPallet.fD,I r1.fPallet.fH,I r1.fPallet.fGram,I r1.fClasses,v5,v7,I r1.fMaster,v9]) m k z z z z z z fun Af Am a k m e Ad=>pN 1 k z fun a k=>nn (wp_seq (wr (sv k z (r_fa fa30_4 k z z) fun a k=>sv k z (r_ldb t127 m 0 Ad 7 k z z z z z) fun a k=>sv k z (r_len (α:=Typ) Aa k underlying27 z z) fun a k=>pN 1 k z fun a k=>nn (wp_block (c_loop (fun n a w=>∃ (Al:Int),K 59 [(1,.pointer (some (⟨Af,0,none⟩:Addr))),(10,v7),(11,I ((r1.fTypes.length:Int))),(12,I Al)] a ∧ St [] w0 w [([Af],Am)] ∧ d_impl_namesOk_L2 fu r1 n Al = some r) ?_ ?_ fu _ _ ?_))))))
 · rintro a w ⟨_,_,_,h⟩
   exact nS h
 · rintro Ci a Bu ⟨Al,k,m,h⟩
   rw [d_impl_namesOk_L2_s] at h
   unfold d_impl_namesOk_L2_B at h
   refine wr (pN 1 k z fun a k=>nn (wp_seq (cI h k z (fun Ax h=>?_) fun Ax h=>?_)))
   · refine wp_skip (nm_then ?_)
     refine wp_seq (wp_block (wr (pN 1 k z fun a k=>oE h fun Ag As h=>sv k z (r_ixa Aa As k ts27 z z z) fun a k=>sv k z (r_lde Aa (m.a00 (Enc.rd_lt Aa)) As ta38 k z z) fun a k=>s_alloc (cs:=[I 0,I 0,I 0,I 0,I 0,I 0,I 0]) m k zeroValue38 z z z z z fun Bm Cn a k m e Aw=>pN 1 k z fun a k=>s_stb (cs':=[I Ag.fId,I Ag.fW,I Ag.fH,I Ag.fD,I Ag.fTare,I Ag.fGram,I Ag.fCost]) sizeOf38 m 0 Aw 0 k z z z z z z z z z z z fun Bp a k e m Bi=>nn (wr (sv k z (r_fa fa30_4 k z z) fun a k=>sv k z (r_ldb t127 m 1 Ad 7 k z z z z z) fun a k=>pN 1 k z fun a k=>oE h fun Ck Bj h=>?_)))))
     refine s_slTo Aa Bj k ts27 z z z z z z fun Cp a k Ao=>pN 1 k z fun a k=>oE h fun Bw Bh h=>cE k m call236 z z z (c_slices_ContainsFunc_impl_Type_impl_Type fu _ _ (Enc.rd_agr Ao (m.a00 (Enc.rd_lt Ao))) ⟨282,[.pointer (some (⟨Bm,0,none⟩:Addr))],z,call282,fun w Cg Cd r e Ba hx=>by subst Ba; have m:=m.step e; exact c_impl_namesOk_1 fu _ _ (Bi.agr (m.a 0 rfl) (by simp)) hx⟩ Bh) fun Bq e a k m=>nn (cI h k rfl (fun Ay h=>?_) fun Ay h=>?_)
     · refine wr (pN 1 k z fun a k=>nn (wp_ret (rt_block (rt_then (rt_then (rt_block (rt_then ?_)))))))
       refine fS h k m z z
     refine wp_skip (nm_block (nm_then ?_))
     refine wp_region_lit (pN 2 k z fun a k=>nn ?_)
     exact ⟨w64 (Al + 1),k.keep [1,10,11,12] z,m.sel [1] z (by decide),h⟩
   refine wp_exit (ex_then (ex_then (ex_same (nm_then ?_))))
   refine wp_seq (wr (sv k z (r_fa fa30_6 k z z) fun a k=>sv k z (r_ldb t128 m 0 Ad 9 k z z z z z) fun a k=>sv k z (r_len (α:=Item) Ab k underlying28 z z) fun a k=>pN 1 k z fun a k=>nn (wp_block (c_loop (fun n a w=>∃ (Ah:Int),K 59 [(1,.pointer (some (⟨Af,0,none⟩:Addr))),(25,v9),(26,I ((r1.fItems.length:Int))),(27,I Ah)] a ∧ St [] w0 w [([Af],Am)] ∧ d_impl_namesOk_L1 fu r1 n Ah = some r) ?_ ?_ fu _ _ ?_))))
   · rintro a w ⟨_,_,_,h⟩
     exact nS h
   · rintro Bf a Ca ⟨Ah,k,m,h⟩
     rw [d_impl_namesOk_L1_s] at h
     unfold d_impl_namesOk_L1_B at h
     refine wr (pN 1 k z fun a k=>nn (wp_seq (cI h k z (fun Bc h=>?_) fun Bc h=>?_)))
     · refine wp_skip (nm_then ?_)
       refine c_cut (fun a w=>K 59 [(1,.pointer (some (⟨Af,0,none⟩:Addr))),(25,v9),(26,I ((r1.fItems.length:Int))),(27,I Ah)] a ∧ St [] w0 w [([Af],Am)] ∧ d_impl_namesOk_J1 fu (d_impl_namesOk_L1 fu r1 Bf) Ah = some r) ?_ ?_
       · rintro a Co ⟨k,m,h⟩
         unfold d_impl_namesOk_J1 at h
         refine wp_region_lit (pN 2 k z fun a k=>nn ?_)
         exact ⟨w64 (Ah + 1),k.keep [1,25,26,27] z,m.sel [0] z (by decide),h⟩
       refine wp_block (wr (pN 1 k z fun a k=>oE h fun Ae Ar h=>sv k z (r_ixa Ab Ar k ts28 z z z) fun a k=>sv k z (r_lde Ab (m.a00 (Enc.rd_lt Ab)) Ar ta97 k z z) fun a k=>s_alloc (cs:=[I 0,I 0,I 0,I 0,I 0,I 0,I 0]) m k zeroValue97 z z z z z fun Bn Cc a k m e Bd=>pN 1 k z fun a k=>s_stb (cs':=[I Ae.fId,I Ae.fW,I Ae.fH,I Ae.fD,I Ae.fGram,I Ae.fClass,I Ae.fCount]) sizeOf97 m 0 Bd 0 k z z z z z z z z z z z fun Ch a k e m At=>nn (wr (sv k z (r_fa fa97_5 k z z) fun a k=>sv k z (r_ldb t13 m 0 At 5 k z z z z z) fun a k=>sv k z (r_fa fa30_2 k z z) fun a k=>?_))))
       refine sv k z (r_ldb t13 m 1 Ad 5 k z z z z z) fun a k=>pN 2 k z fun a k=>bsplit (decide (Ae.fClass ≥ r1.fClasses)) (fun Ak=>?_) (fun Ak=>?_)
       · have h:=bif_t Ak h
         refine rB k 37 z Ak fun k=>pN 7 k z fun a k=>nn (wp_cond_true (k.ev z) (wr (pN 1 k z fun a k=>nn (wp_ret (rt_block (rt_then (rt_then (rt_block (rt_then ?_)))))))))
         refine fS h k m z z
       have h:=bif_f Ak h
       refine rB k 37 z Ak fun k=>sv k z (r_fa fa30_6 k z z) fun a k=>sv k z (r_ldb t128 m 1 Ad 9 k z z z z z) fun a k=>pN 1 k z fun a k=>oE h fun Cf Bo h=>s_slTo Ab Bo k ts28 z z z z z z fun By a k Aq=>pN 1 k z fun a k=>oE h fun Bs Bb h=>cE k m call75 z z z (c_slices_ContainsFunc_impl_Item_impl_Item fu _ _ (Enc.rd_agr Aq (m.a00 (Enc.rd_lt Aq))) ⟨283,[.pointer (some (⟨Bn,0,none⟩:Addr))],z,call283,fun w Cm Bv r e Au hx=>by subst Au; have m:=m.step e; exact c_impl_namesOk_2 fu _ _ (At.agr (m.a 0 rfl) (by simp)) hx⟩ Bb) fun Bz e a k m=>pN 1 k rfl fun a k=>nn (cI h k rfl (fun Bl h=>?_) fun Bl h=>?_)
       · refine wr (pN 1 k z fun a k=>nn (wp_ret (rt_block (rt_then (rt_then (rt_block (rt_then ?_)))))))
         refine fS h k m z z
       refine wp_skip (nm_block (nm_then ?_))
       exact ⟨k.keep [1,25,26,27] z,m.sel [1] z (by decide),h⟩
     refine wp_exit (ex_then (ex_then (ex_same (nm_then ?_))))
     refine wr (sv k z (r_ldB ta30 m 0 Ad 0 k z z z z z z) fun a k=>oE h fun Ac Av h=>cE k m call231 z z z (c_impl_MasterOf fu _ (show rd _ _ [I r1.fWay,I r1.fPallet.fW,I r1.fPallet.fD,I r1.fPallet.fH,I r1.fPallet.fGram,I r1.fClasses,v5,v7,I r1.fMaster,v9] (r1:Request) from ⟨_,_,_,_,_,_,z,z,(Enc.rd_agr Ai (m.a00 (Enc.rd_lt Ai))),(Enc.rd_agr Aa (m.a00 (Enc.rd_lt Aa))),(Enc.rd_agr Ab (m.a00 (Enc.rd_lt Ab)))⟩) Av) fun Cb e a k m=>pN 3 k z fun a k=>s_alloc (cs:=[I 0,I 0,I 0,I 0,I 0,I 0,I 0]) m k zeroValue38 z z z z z fun Cr Br a k m e Az=>?_)
     refine s_stb (cs':=[I Ac.1.fId,I Ac.1.fW,I Ac.1.fH,I Ac.1.fD,I Ac.1.fTare,I Ac.1.fGram,I Ac.1.fCost]) sizeOf38 m 0 Az 0 k z z z z z z z z z z z fun Cj a k e m Bt=>pN 1 k z fun a k=>nn (wr (pN 2 k z fun a k=>bsplit (Ac.2) (fun Aj=>?_) (fun Aj=>?_)))
     · have h:=bif_t Aj h
       refine rB k 52 z Aj fun k=>sv k z (r_fa fa30_3 k z z) fun a k=>sv k z (r_ldb t126 m 1 Ad 6 k z z z z z) fun a k=>pN 1 k z fun a k=>oE h fun Cs Bg h=>cE k m call277 z z z (c_slices_ContainsFunc_impl_Pair_impl_Pair fu _ _ (Enc.rd_agr Ai (m.a00 (Enc.rd_lt Ai))) ⟨284,[.pointer (some (⟨Af,0,none⟩:Addr))],z,call284,fun w Cl Cq r e Be hx=>by subst Be; have m:=m.step e; exact c_impl_namesOk_3 fu _ _ (Ad.agr (m.a 1 rfl) (by simp)) (Enc.rd_agr Ai (m.a00 (Enc.rd_lt Ai))) (Enc.rd_agr Aa (m.a00 (Enc.rd_lt Aa))) (Enc.rd_agr Ab (m.a00 (Enc.rd_lt Ab))) hx⟩ Bg) fun Bx e a k m=>pN 3 k rfl fun a k=>nn (wp_ret (fS h k m rfl rfl))
     have h:=bif_f Aj h
     refine rB k 52 z Aj fun k=>pN 7 k z fun a k=>nn (wp_ret (fS h k m z z))
   exact ⟨0,k.keep [1,25,26,27] z,m.sel [0] z (by decide),h⟩
 exact ⟨0,k.keep [1,10,11,12] z,m.sel [0] z (by decide),h⟩
theorem c_slices_Index_impl_Pair_impl_Pair (fu:Nat) {w0:World} (Aa:List Pair) (v5:Pair) {v2:Value} {F3:List Nat} (Ac:rd w0 F3 [v2] Aa) {r:Int}
    (h:d_slices_Index_impl_Pair_impl_Pair fu Aa v5 = some r) :
    Calls Tryz.prog 311 #[v2,.agg (Flat.e (v5)).toArray] w0 fun e w=>e = .returned (I r) ∧ Ext [] w0 w:=by
 refine enter (vs:=[_,_]) func311 z ntmps311 z fun a k=>?_
 have m:=St.start w0
 unfold d_slices_Index_impl_Pair_impl_Pair at h
 refine wr (s_box (cs:=[I v5.fA,I v5.fB]) m k z z z z z z fun b6 w9 a k m e Ai=>pN 1 k z fun a k=>nn (wp_seq (wr (pN 1 k z fun a k=>sv k z (r_len (α:=Pair) Ac k underlying26 z z) fun a k=>pN 1 k z fun a k=>nn (wp_block (c_loop (fun n a w=>∃ (Ab:Int),K 19 [(0,v2),(3,.pointer (some (⟨b6,0,none⟩:Addr))),(7,I ((Aa.length:Int))),(8,I Ab)] a ∧ St [] w0 w [([b6],w9)] ∧ d_slices_Index_impl_Pair_impl_Pair_L1 fu Aa v5 n Ab = some r) ?_ ?_ fu _ _ ?_))))))
 · rintro a w ⟨_,_,_,h⟩
   exact nS h
 · rintro Aj a Ak ⟨Ab,k,m,h⟩
   rw [d_slices_Index_impl_Pair_impl_Pair_L1_s] at h
   unfold d_slices_Index_impl_Pair_impl_Pair_L1_B at h
   refine wr (pN 1 k z fun a k=>nn (wp_seq (cI h k z (fun Af h=>?_) fun Af h=>?_)))
   · refine wp_skip (nm_then ?_)
     refine wp_seq (wp_block (wr (pN 2 k z fun a k=>nn (wp_seq (d_go [] mixo m z fun Ag hMd=>?_)))))
     have m:=hMd
     have s:=Ext.refl ([]:List Nat) Ag
     refine dN [1,2] 2 z k (by kernel_rfl) z s (fun _ _ _ _ _=>id) fun a k=>dt k 0 z (by kernel_rfl) z s (fun _ _ _=>id) (fun w s=>r_ldA ta158 (Ai.at ((hMd.step s).a 0 z) 0 2 z z z) z k z z) fun a k=>oE h fun Ah Ad h=>dt k 3 z (by kernel_rfl) z s (fun _ _ _=>id) (fun w s=>r_ixa Ac Ad k ts26 z z z) fun a k=>dt k 4 z (by kernel_rfl) z s (fun _ _ _=>id) (fun w s=>r_lde Ac ((hMd.step s).a00 (Enc.rd_lt Ac)) Ad ta158 k z z) fun a k=>dt k 5 z (by kernel_rfl) z s (fun _ _ _=>id) (fun w s=>r_eqs seq158 (x:=v5) (y:=Ah) k z z z z z) fun a k=>d_done (by kernel_rfl) ((nm_then ?_))
     refine cI h k z (fun Ae h=>?_) fun Ae h=>?_
     · refine wr (pN 2 k z fun a k=>nn (wp_ret (rt_block (rt_then (rt_then (rt_block (rt_then ?_)))))))
       refine fS h k m z z
     refine wp_skip (nm_block (nm_then ?_))
     refine wp_region_lit (pN 2 k z fun a k=>nn ?_)
     exact ⟨w64 (Ab + 1),k.keep [0,3,7,8] z,m.sel [0] z (by decide),h⟩
   refine wp_exit (ex_then (ex_then (ex_same (nm_then ?_))))
   refine wr (pN 1 k z fun a k=>nn (wp_ret (fS h k m z z)))
 exact ⟨0,k.keep [0,3,7,8] z,m.sel [0] z (by decide),h⟩
theorem c_slices_Contains_impl_Pair_impl_Pair (fu:Nat) {w0:World} (Aa:List Pair) (v5:Pair) {v2:Value} {F3:List Nat} (Ab:rd w0 F3 [v2] Aa) {r:Bool}
    (h:d_slices_Contains_impl_Pair_impl_Pair fu Aa v5 = some r) :
    Calls Tryz.prog 304 #[v2,.agg (Flat.e (v5)).toArray] w0 fun e w=>e = .returned (.bool (r)) ∧ Ext [] w0 w:=by
 refine enter (vs:=[_,_]) func304 z ntmps304 z fun a k=>?_
 have m:=St.start w0
 unfold d_slices_Contains_impl_Pair_impl_Pair at h
 refine wr (s_box (cs:=[I v5.fA,I v5.fB]) m k z z z z z z fun b6 w9 a k m e Ad=>pN 1 k z fun a k=>nn (wr (pN 1 k z fun a k=>sv k z (r_ldB ta158 m 0 Ad 0 k z z z z z z) fun a k=>oE h fun Af Ac h=>cE k m call311 z z z (c_slices_Index_impl_Pair_impl_Pair fu _ (v5:Pair) (Enc.rd_agr Ab (m.a00 (Enc.rd_lt Ab))) Ac) fun Ae e a k m=>pN 2 k z fun a k=>nn (wp_ret (fS h k m z z)))))
theorem c_impl_Beside (fu:Nat) {w0:World} (Ab:List Pair) (a5:Int) (b6:Int) {v2:Value} {F3:List Nat} (Aa:rd w0 F3 [v2] Ab) {r:Bool}
    (h:d_impl_Beside fu Ab a5 b6 = some r) :
    Calls Tryz.prog 285 #[v2,I a5,I b6] w0 fun e w=>e = .returned (.bool (r)) ∧ Ext [] w0 w:=by
 refine enter (vs:=[_,_,_]) func285 z ntmps285 z fun a k=>?_
 have m:=St.start w0
 unfold d_impl_Beside at h
 refine wr (pN 1 k z fun a k=>nn (wr (pN 3 k z fun a k=>sv k z (r_build bt158 k (cs:=#[I a5,I b6]) (ps:=[(0,.tmp 8),(1,.tmp 9)]) z z (by kernel_rfl)) fun a k=>oE h fun x7 Ac h=>cE k m call304 z z z (c_slices_Contains_impl_Pair_impl_Pair fu _ (((⟨a5,b6⟩:Pair)):Pair) (Enc.rd_agr Aa (m.a00 (Enc.rd_lt Aa))) Ac) fun Ad e a k m=>pN 1 k z fun a k=>nn (wp_ret (fS h k m z z)))))
theorem c_impl_TableOk (fu:Nat) {w0:World} (Ad:List Pair) (Aa:Int) {v2:Value} {F3:List Nat} (Ac:rd w0 F3 [v2] Ad) {r:Bool}
    (h:d_impl_TableOk fu Ad Aa = some r) :
    Calls Tryz.prog 234 #[v2,I Aa] w0 fun e w=>e = .returned (.bool (r)) ∧ Ext [] w0 w:=by
 refine enter (vs:=[_,_]) func234 z ntmps234 z fun a k=>?_
 have m:=St.start w0
 unfold d_impl_TableOk at h
 refine wr (pN 1 k z fun a k=>nn (wp_seq (wr (pN 1 k z fun a k=>oE h fun x6 Ah h=>cE k m call148 z z z (c_impl_in fu _ _ _  Ah) fun w9 e a k m=>pN 1 k z fun a k=>nn (cI h k z (fun Ag h=>?_) fun Ag h=>?_)))))
 · refine wr (pN 1 k z fun a k=>nn (wp_ret (rt_then ?_)))
   refine fS h k m z z
 refine wp_skip (nm_then ?_)
 refine wp_seq (wr (pN 2 k z fun a k=>nn (wp_block (c_loop (fun n a w=>∃ (Ab:Int),K 34 [(0,v2),(1,I Aa),(10,I Aa),(11,I Ab)] a ∧ St [] w0 w [] ∧ d_impl_TableOk_L2 fu Ad Aa n Ab = some r) ?_ ?_ fu _ _ ?_))))
 · rintro a w ⟨_,_,_,h⟩
   exact nS h
 · rintro Af a As ⟨Ab,k,m,h⟩
   rw [d_impl_TableOk_L2_s] at h
   unfold d_impl_TableOk_L2_B at h
   refine wr (pN 1 k z fun a k=>nn (wp_seq (cI h k z (fun Ak h=>?_) fun Ak h=>?_)))
   · refine wp_skip (nm_then ?_)
     refine wp_seq (wp_block (wr (pN 2 k z fun a k=>nn (wp_seq (wr (pN 3 k z fun a k=>oE h fun Aw Ao h=>cE k m call285 z z z (c_impl_Beside fu _ _ _ (Enc.rd_agr Ac (m.a00 (Enc.rd_lt Ac))) Ao) fun Au e a k m=>pN 1 k z fun a k=>nn (cI h k z (fun Am h=>?_) fun Am h=>?_)))))))
     · refine wr (pN 1 k z fun a k=>nn (wp_ret (rt_then (rt_block (rt_then (rt_then (rt_block (rt_then ?_))))))))
       refine fS h k m z z
     refine wp_skip (nm_then ?_)
     refine wr (pN 2 k z fun a k=>nn (wp_block (c_loop (fun n a w=>∃ (Ae:Int),K 34 [(0,v2),(1,I Aa),(5,I Ab),(10,I Aa),(11,I Ab),(19,I Aa),(20,I Ae)] a ∧ St [] w0 w [] ∧ d_impl_TableOk_L1 fu (d_impl_TableOk_L2 fu Ad Aa Af) Ad Aa Ab n Ae = some r) ?_ ?_ fu _ _ ?_)))
     · rintro a w ⟨_,_,_,h⟩
       exact nS h
     · rintro Aq a Ar ⟨Ae,k,m,h⟩
       rw [d_impl_TableOk_L1_s] at h
       unfold d_impl_TableOk_L1_B at h
       refine wr (pN 1 k z fun a k=>nn (wp_seq (cI h k z (fun Ai h=>?_) fun Ai h=>?_)))
       · refine wp_skip (nm_then ?_)
         refine wp_seq (wp_block (wr (pN 2 k z fun a k=>nn (wr (pN 3 k z fun a k=>oE h fun Av Aj h=>cE k m call285 z z z (c_impl_Beside fu _ _ _ (Enc.rd_agr Ac (m.a00 (Enc.rd_lt Ac))) Aj) fun Ay e a k m=>pN 3 k z fun a k=>oE h fun Ax Al h=>cE k m call285 z z z (c_impl_Beside fu _ _ _ (Enc.rd_agr Ac (m.a00 (Enc.rd_lt Ac))) Al) fun At e a k m=>sv k z (r_neb k underlying4 z z z) fun a k=>nn (cI h k z (fun Ap h=>?_) fun Ap h=>?_))))))
         · refine wr (pN 1 k z fun a k=>nn (wp_ret (rt_block (rt_then (rt_then (rt_block (rt_block (rt_then (rt_then (rt_block (rt_then ?_)))))))))))
           refine fS h k m z z
         refine wp_skip (nm_block (nm_then ?_))
         refine wp_region_lit (pN 2 k z fun a k=>nn ?_)
         exact ⟨w64 (Ae + 1),k.keep [0,1,5,10,11,19,20] z,m.sel [] z (by decide),h⟩
       refine wp_exit (ex_then (ex_then (ex_same (nm_block (nm_then ?_)))))
       refine wp_region_lit (pN 2 k z fun a k=>nn ?_)
       exact ⟨w64 (Ab + 1),k.keep [0,1,10,11] z,m.sel [] z (by decide),h⟩
     exact ⟨0,k.keep [0,1,5,10,11,19,20] z,m.sel [] z (by decide),h⟩
   refine wp_exit (ex_then (ex_then (ex_same (nm_then ?_))))
   refine wr (pN 1 k z fun a k=>nn (wp_ret (fS h k m z z)))
 exact ⟨0,k.keep [0,1,10,11] z,m.sel [] z (by decide),h⟩
theorem c_slices_Sort_int_int (fu:Nat) {w0:World} (x1:List Int) {v2:Value} {F3:List Nat} (Aa:ow w0 F3 [v2] x1) {r:List Int}
    (h:d_slices_Sort_int_int fu x1 = some r) :
    Calls Tryz.prog 124 #[v2] w0 fun e w=>∃ H:List Nat,e = .returned (.tuple #[]) ∧ Ext F3 w0 w ∧ (∀ b ∈ H,b ∈ F3 ∨ w0.heap.size ≤ b) ∧ ow w H [v2] r :=
  (c_sortInt (fun blk off cap zs w=>Tryz.slices_Sort_int blk off cap zs w) (fun p cap w=>Tryz.slices_Sort_int_none p cap w) x1 Aa h).mono fun e w ⟨h1,h2,h3⟩=>⟨_,h1,h2,fun b hb=>.inl hb,h3⟩

theorem c_impl_Fits (fu:Nat) {w0:World} (x1:Item) (t2:Typ)  {r:Bool}
    (h:d_impl_Fits fu x1 t2 = some r) :
    Calls Tryz.prog 78 #[.agg (Flat.e (x1)).toArray,.agg (Flat.e (t2)).toArray] w0 fun e w=>e = .returned (.bool (r)) ∧ Ext [] w0 w:=by
 refine enter (vs:=[_,_]) func78 z ntmps78 z fun a k=>?_
 have m:=St.start w0
 unfold d_impl_Fits at h
 refine wr (s_box (cs:=[I x1.fId,I x1.fW,I x1.fH,I x1.fD,I x1.fGram,I x1.fClass,I x1.fCount]) m k z z z z z z fun b3 w5 a k m e Af=>s_box (cs:=[I t2.fId,I t2.fW,I t2.fH,I t2.fD,I t2.fTare,I t2.fGram,I t2.fCost]) m k z z z z z z fun b6 w9 a k m e Ag=>pN 1 k z fun a k=>nn ?_)
 refine c_cut (fun a w=>∃ (Ak:List Int) (Ap:Value) (Aj:List Nat) (Ah:World) (Ai:List Int) (Al:Value) (Ao:List Nat) (Am:World),K 57 [(2,.pointer (some (⟨b3,0,none⟩:Addr))),(3,.pointer (some (⟨b6,0,none⟩:Addr))),(5,Ap),(6,Al)] a ∧ St [] w0 w [([b3],w5),([b6],w9),(Aj,Ah),(Ao,Am)] ∧ ow Ah Aj [Ap] Ak ∧ ow Am Ao [Al] Ai ∧ d_impl_Fits_J1 fu x1 t2 Ak Ai = some r) ?_ ?_
 · rintro a Co ⟨Ak,Ap,Aj,Ah,Ai,Al,Ao,Am,k,m,Bo,Bb,h⟩
   unfold d_impl_Fits_J1 at h
   refine wr (pN 1 k z fun a k=>oE h fun Ch Bj h=>s_call k call124 z z z z z (c_slices_Sort_int_int fu _ (Enc.ow_agr Bo (m.a 2 z)) Bj) fun Cm Ce hR=>?_)
   obtain ⟨Ck,rfl,e,Bg,Aa⟩:=hR
   refine ⟨_,z,fun a k=>?_⟩
   have m:=m.mut 2 z e _ (fun b hb=>⟨Bg b hb,Enc.rd_lt (Enc.ow_rd Aa) b hb⟩) (Enc.ow_nd Aa)
   refine nn (wr (pN 1 k z fun a k=>oE h fun Cp Bz h=>s_call k call124 z z z z z (c_slices_Sort_int_int fu _ (Enc.ow_agr Bb (m.a 3 z)) Bz) fun Ct Cj hR=>?_))
   obtain ⟨Cq,rfl,e,Bc,Ab⟩:=hR
   refine ⟨_,z,fun a k=>?_⟩
   have m:=m.mut 3 z e _ (fun b hb=>⟨Bc b hb,Enc.rd_lt (Enc.ow_rd Ab) b hb⟩) (Enc.ow_nd Ab)
   refine nn (wp_seq (d_go [] mixo m z fun Ca hMd=>?_))
   have m:=hMd
   have s:=Ext.refl ([]:List Nat) Ca
   refine dN [0,3] 2 z k (by kernel_rfl) z s (fun _ _ _ _ _=>id) fun a k=>oE h fun Cd Ax h=>dt k 1 z (by kernel_rfl) z s (fun _ _ _=>id) (fun w s=>r_ixa (Enc.ow_rd Aa) Ax k ts31 z z z) fun a k=>dt k 2 z (by kernel_rfl) z s (fun _ _ _=>id) (fun w s=>r_lde1 (Enc.ow_rd Aa) ((hMd.step s).a 2 z) Ax 0 t13 k z z z z) fun a k=>oE h fun Bv Az h=>dt k 4 z (by kernel_rfl) z s (fun _ _ _=>id) (fun w s=>r_ixa (Enc.ow_rd Ab) Az k ts31 z z z) fun a k=>dt k 5 z (by kernel_rfl) z s (fun _ _ _=>id) (fun w s=>r_lde1 (Enc.ow_rd Ab) ((hMd.step s).a 3 z) Az 0 t13 k z z z z) fun a k=>dN [6,7] 2 z k (by kernel_rfl) z s (fun _ _ _ _ _=>id) fun a k=>bsplit (decide (Cd ≤ Bv)) (fun Ae=>?_) (fun Ae=>?_)
   · have h:=bif_t Ae h
     refine rB k 32 z Ae fun k=>dN [8,11] 2 z k (by kernel_rfl) z s (fun _ _ _ _ _=>id) fun a k=>oE h fun Bk Ay h=>dt k 9 z (by kernel_rfl) z s (fun _ _ _=>id) (fun w s=>r_ixa (Enc.ow_rd Aa) Ay k ts31 z z z) fun a k=>dt k 10 z (by kernel_rfl) z s (fun _ _ _=>id) (fun w s=>r_lde1 (Enc.ow_rd Aa) ((hMd.step s).a 2 z) Ay 0 t13 k z z z z) fun a k=>oE h fun Bw Av h=>dt k 12 z (by kernel_rfl) z s (fun _ _ _=>id) (fun w s=>r_ixa (Enc.ow_rd Ab) Av k ts31 z z z) fun a k=>dt k 13 z (by kernel_rfl) z s (fun _ _ _=>id) (fun w s=>r_lde1 (Enc.ow_rd Ab) ((hMd.step s).a 3 z) Av 0 t13 k z z z z) fun a k=>dN [14,15,16] 3 z k (by kernel_rfl) z s (fun _ _ _ _ _=>id) fun a k=>bsplit (decide (Bk ≤ Bw)) (fun Ac=>?_) (fun Ac=>?_)
     · have h:=bif_t Ac h
       refine rB k 41 z Ac fun k=>dN [17,20] 2 z k (by kernel_rfl) z s (fun _ _ _ _ _=>id) fun a k=>oE h fun Be As h=>dt k 18 z (by kernel_rfl) z s (fun _ _ _=>id) (fun w s=>r_ixa (Enc.ow_rd Aa) As k ts31 z z z) fun a k=>dt k 19 z (by kernel_rfl) z s (fun _ _ _=>id) (fun w s=>r_lde1 (Enc.ow_rd Aa) ((hMd.step s).a 2 z) As 0 t13 k z z z z) fun a k=>oE h fun Bn At h=>dt k 21 z (by kernel_rfl) z s (fun _ _ _=>id) (fun w s=>r_ixa (Enc.ow_rd Ab) At k ts31 z z z) fun a k=>dt k 22 z (by kernel_rfl) z s (fun _ _ _=>id) (fun w s=>r_lde1 (Enc.ow_rd Ab) ((hMd.step s).a 3 z) At 0 t13 k z z z z) fun a k=>dN [23,24,25] 3 z k (by kernel_rfl) z s (fun _ _ _ _ _=>id) fun a k=>bsplit (decide (Be ≤ Bn)) (fun Ad=>?_) (fun Ad=>?_)
       · have h:=bif_t Ad h
         refine rB k 50 z Ad fun k=>dt k 26 z (by kernel_rfl) z s (fun _ _ _=>id) (fun w s=>r_fa fa97_4 k z z) fun a k=>dt k 27 z (by kernel_rfl) z s (fun _ _ _=>id) (fun w s=>r_ld1 t13 (r:=[]) (Af.at ((hMd.step s).a 0 z) 4 1 z z z) k z z) fun a k=>dt k 28 z (by kernel_rfl) z s (fun _ _ _=>id) (fun w s=>r_fa fa38_5 k z z) fun a k=>dt k 29 z (by kernel_rfl) z s (fun _ _ _=>id) (fun w s=>r_ld1 t13 (r:=[]) (Ag.at ((hMd.step s).a 1 z) 5 1 z z z) k z z) fun a k=>dN [30,31,32] 3 z k (by kernel_rfl) z s (fun _ _ _ _ _=>id) fun a k=>d_done (by kernel_rfl) ?_
         have k:=k.keep [4] z
         refine (nm_then ?_)
         refine wp_ret (fS h k m z z)
       have h:=bif_f Ad h
       refine rB k 50 z Ad fun k=>dN [26,27,28,29,30,31,32] 7 z k (by kernel_rfl) z s (fun _ _ _ _ _=>id) fun a k=>d_done (by kernel_rfl) ?_
       have k:=k.keep [4] z
       refine (nm_then ?_)
       refine wp_ret (fS h k m z z)
     have h:=bif_f Ac h
     refine rB k 41 z Ac fun k=>dN [17,18,19,20,21,22,23,24,25,26,27,28,29,30,31,32] 16 z k (by kernel_rfl) z s (fun _ _ _ _ _=>id) fun a k=>d_done (by kernel_rfl) ?_
     have k:=k.keep [4] z
     refine (nm_then ?_)
     refine wp_ret (fS h k m z z)
   have h:=bif_f Ae h
   refine rB k 32 z Ae fun k=>dN [8,9,10,11,12,13,14,15,16,17,18,19,20,21,22,23,24,25,26,27,28,29,30,31,32] 25 z k (by kernel_rfl) z s (fun _ _ _ _ _=>id) fun a k=>d_done (by kernel_rfl) ?_
   have k:=k.keep [4] z
   refine (nm_then ?_)
   refine wp_ret (fS h k m z z)
 refine d_go [] mixo m z fun Bp hMd=>?_
 have m:=hMd
 have s:=Ext.refl ([]:List Nat) Bp
 refine dt k 0 z (by kernel_rfl) z s (fun _ _ _=>id) (fun w s=>r_fa fa97_1 k z z) fun a k=>dt k 1 z (by kernel_rfl) z s (fun _ _ _=>id) (fun w s=>r_ld1 t13 (r:=[]) (Af.at ((hMd.step s).a 1 z) 1 1 z z z) k z z) fun a k=>dt k 2 z (by kernel_rfl) z s (fun _ _ _=>id) (fun w s=>r_fa fa97_2 k z z) fun a k=>dt k 3 z (by kernel_rfl) z s (fun _ _ _=>id) (fun w s=>r_ld1 t13 (r:=[]) (Af.at ((hMd.step s).a 1 z) 2 1 z z z) k z z) fun a k=>dt k 4 z (by kernel_rfl) z s (fun _ _ _=>id) (fun w s=>r_fa fa97_3 k z z) fun a k=>dt k 5 z (by kernel_rfl) z s (fun _ _ _=>id) (fun w s=>r_ld1 t13 (r:=[]) (Af.at ((hMd.step s).a 1 z) 3 1 z z z) k z z) fun a k=>?_
 refine dt k 7 z (by kernel_rfl) z s (fun _ _ _=>id) (fun w s=>r_fa fa38_1 k z z) fun a k=>dt k 8 z (by kernel_rfl) z s (fun _ _ _=>id) (fun w s=>r_ld1 t13 (r:=[]) (Ag.at ((hMd.step s).a 0 z) 1 1 z z z) k z z) fun a k=>dt k 9 z (by kernel_rfl) z s (fun _ _ _=>id) (fun w s=>r_fa fa38_2 k z z) fun a k=>dt k 10 z (by kernel_rfl) z s (fun _ _ _=>id) (fun w s=>r_ld1 t13 (r:=[]) (Ag.at ((hMd.step s).a 0 z) 2 1 z z z) k z z) fun a k=>dt k 11 z (by kernel_rfl) z s (fun _ _ _=>id) (fun w s=>r_fa fa38_3 k z z) fun a k=>dt k 12 z (by kernel_rfl) z s (fun _ _ _=>id) (fun w s=>r_ld1 t13 (r:=[]) (Ag.at ((hMd.step s).a 0 z) 3 1 z z z) k z z) fun a k=>d_two 6 13 (by kernel_rfl) z z ?_ ?_ 
 · refine s_bsN (cs:=[I x1.fW,I x1.fH,I x1.fD]) (ps:=[(0,.tmp 8),(1,.tmp 10),(2,.tmp 12)]) te31 m k z z z z z z z (by decide) z (by exact (List.forall_mem_cons.2 ⟨z,(List.forall_mem_cons.2 ⟨z,(List.forall_mem_cons.2 ⟨z,(List.forall_mem_nil _)⟩)⟩)⟩)) fun Ar Cb Cf a k m e Bq Bu=>?_
   have Cl:=lo1 (Nat.le_trans s.size Bu)
   have Bh:=ow_bx Bq ([x1.fW,x1.fH,x1.fD]:List Int) z z z
   have s:=s.trans e (by simp)
   refine wpList_nil ⟨s,?_⟩
   refine dN [14] 1 z k (by kernel_rfl) z s (fun _ _ _ _ _=>id) fun a k=>d_one 13 (by kernel_rfl) z (s_bsN (cs:=[I t2.fW,I t2.fH,I t2.fD]) (ps:=[(0,.tmp 15),(1,.tmp 17),(2,.tmp 19)]) te31 m k z z z z z z z (by decide) z (by exact (List.forall_mem_cons.2 ⟨z,(List.forall_mem_cons.2 ⟨z,(List.forall_mem_cons.2 ⟨z,(List.forall_mem_nil _)⟩)⟩)⟩)) fun Au Br Cn a k m e Bd Bf=>?_)
   have Cu:=lo1 (Nat.le_trans s.size Bf)
   have Cc:=ow_bx Bd ([t2.fW,t2.fH,t2.fD]:List Int) z z z
   have s:=s.trans e (by simp)
   refine wpList_nil ⟨s,?_⟩
   refine dN [15] 1 z k (by kernel_rfl) z s (fun _ _ _ _ _=>id) fun a k=>d_done (by kernel_rfl) ((nm_then ?_))
   exact ⟨([x1.fW,x1.fH,x1.fD]:List Int),(.slice (some ⟨Ar,0,none⟩) 3 3),[Ar],Cb,([t2.fW,t2.fH,t2.fD]:List Int),(.slice (some ⟨Au,0,none⟩) 3 3),[Au],Br,k.keep [2,3,5,6] z,m.sel [3,2,1,0] z (by decide),Bh,Cc,h⟩
 refine s_bsN (cs:=[I t2.fW,I t2.fH,I t2.fD]) (ps:=[(0,.tmp 15),(1,.tmp 17),(2,.tmp 19)]) te31 m k z z z z z z z (by decide) z (by exact (List.forall_mem_cons.2 ⟨z,(List.forall_mem_cons.2 ⟨z,(List.forall_mem_cons.2 ⟨z,(List.forall_mem_nil _)⟩)⟩)⟩)) fun Aw Bl Cr a k m e Bt Bs=>?_
 have Cg:=lo1 (Nat.le_trans s.size Bs)
 have Bm:=ow_bx Bt ([t2.fW,t2.fH,t2.fD]:List Int) z z z
 have s:=s.trans e (by simp)
 refine wpList_nil ⟨s,?_⟩
 refine d_one 6 (by kernel_rfl) z (s_bsN (cs:=[I x1.fW,I x1.fH,I x1.fD]) (ps:=[(0,.tmp 8),(1,.tmp 10),(2,.tmp 12)]) te31 m k z z z z z z z (by decide) z (by exact (List.forall_mem_cons.2 ⟨z,(List.forall_mem_cons.2 ⟨z,(List.forall_mem_cons.2 ⟨z,(List.forall_mem_nil _)⟩)⟩)⟩)) fun Aq Bx Ci a k m e Ba By=>?_)
 have Cs:=lo1 (Nat.le_trans s.size By)
 have Bi:=ow_bx Ba ([x1.fW,x1.fH,x1.fD]:List Int) z z z
 have s:=s.trans e (by simp)
 refine wpList_nil ⟨s,?_⟩
 refine dN [14,15] 2 z k (by kernel_rfl) z s (fun _ _ _ _ _=>id) fun a k=>d_done (by kernel_rfl) ((nm_then ?_))
 exact ⟨([x1.fW,x1.fH,x1.fD]:List Int),(.slice (some ⟨Aq,0,none⟩) 3 3),[Aq],Bx,([t2.fW,t2.fH,t2.fD]:List Int),(.slice (some ⟨Aw,0,none⟩) 3 3),[Aw],Bl,k.keep [2,3,5,6] z,m.sel [3,2,0,1] z (by decide),Bi,Bm,h⟩
theorem c_impl_Class_1 (fu:Nat) {w0:World} (x1:Item) (x2:Typ) {b3:Nat} (Aa:bx w0 b3 [I x2.fId,I x2.fW,I x2.fH,I x2.fD,I x2.fTare,I x2.fGram,I x2.fCost] 38) {r:Bool}
    (h:d_impl_Class_1 fu x1 x2 = some r) :
    Calls Tryz.prog 235 #[.agg (Flat.e (x1)).toArray,.pointer (some (⟨b3,0,none⟩:Addr))] w0 fun e w=>e = .returned (.bool (r)) ∧ Ext [] w0 w:=by
 refine enter (vs:=[_,_]) func235 z ntmps235 z fun a k=>?_
 have m:=St.start w0
 unfold d_impl_Class_1 at h
 refine wr (s_box (cs:=[I x1.fId,I x1.fW,I x1.fH,I x1.fD,I x1.fGram,I x1.fClass,I x1.fCount]) m k z z z z z z fun b5 w7 a k m e Ac=>pN 1 k z fun a k=>nn (wr (sv k z (r_ldB ta97 m 0 Ac 0 k z z z z z z) fun a k=>sv k z (r_ldA ta38 (Aa.at (m.a00 Aa.lt1) 0 7 z z z) z k z z) fun a k=>oE h fun x8 Ab h=>cE k m call78 z z z (c_impl_Fits fu (x1:Item) (x2:Typ)  Ab) fun Ad e a k m=>pN 2 k z fun a k=>nn (wp_ret (fS h k m z z)))))
theorem c_impl_Class_2 (fu:Nat) {w0:World} (t1:Typ) (x2:Pallet) {b3:Nat} (Aa:bx w0 b3 [I x2.fW,I x2.fD,I x2.fH,I x2.fGram] 25) {r:Bool}
    (h:d_impl_Class_2 fu t1 x2 = some r) :
    Calls Tryz.prog 237 #[.agg (Flat.e (t1)).toArray,.pointer (some (⟨b3,0,none⟩:Addr))] w0 fun e w=>e = .returned (.bool (r)) ∧ Ext [] w0 w:=by
 refine enter (vs:=[_,_]) func237 z ntmps237 z fun a k=>?_
 have m:=St.start w0
 unfold d_impl_Class_2 at h
 refine wr (s_box (cs:=[I t1.fId,I t1.fW,I t1.fH,I t1.fD,I t1.fTare,I t1.fGram,I t1.fCost]) m k z z z z z z fun b5 w7 a k m e Ae=>pN 1 k z fun a k=>nn (wr (sv k z (r_fa fa38_1 k z z) fun a k=>sv k z (r_ldb t13 m 0 Ae 1 k z z z z z) fun a k=>sv k z (r_fa fa25_0 k z z) fun a k=>sv k z (r_ld1 t13 (r:=[]) (Aa.at (m.a00 Aa.lt1) 0 1 z z z) k z z) fun a k=>pN 2 k z fun a k=>bsplit (decide (t1.fW > x2.fW)) (fun Ad=>?_) (fun Ad=>?_))))
 · have h:=bif_t Ad h
   refine rB k 9 z Ad fun k=>pN 24 k z fun a k=>?_
   have k:=k.keep [3] z
   refine nn (wp_ret (fS h k m z z))
 have h:=bif_f Ad h
 refine rB k 9 z Ad fun k=>sv k z (r_fa fa38_3 k z z) fun a k=>sv k z (r_ldb t13 m 0 Ae 3 k z z z z z) fun a k=>sv k z (r_fa fa25_1 k z z) fun a k=>sv k z (r_ld1 t13 (r:=[]) (Aa.at (m.a00 Aa.lt1) 1 1 z z z) k z z) fun a k=>pN 3 k z fun a k=>bsplit (decide (t1.fD > x2.fD)) (fun Ab=>?_) (fun Ab=>?_)
 · have h:=bif_t Ab h
   refine rB k 16 z Ab fun k=>pN 17 k z fun a k=>?_
   have k:=k.keep [3] z
   refine nn (wp_ret (fS h k m z z))
 have h:=bif_f Ab h
 refine rB k 16 z Ab fun k=>sv k z (r_fa fa38_2 k z z) fun a k=>sv k z (r_ldb t13 m 0 Ae 2 k z z z z z) fun a k=>sv k z (r_fa fa25_2 k z z) fun a k=>sv k z (r_ld1 t13 (r:=[]) (Aa.at (m.a00 Aa.lt1) 2 1 z z z) k z z) fun a k=>pN 3 k z fun a k=>bsplit (decide (t1.fH > x2.fH)) (fun Ac=>?_) (fun Ac=>?_)
 · have h:=bif_t Ac h
   refine rB k 23 z Ac fun k=>pN 10 k z fun a k=>?_
   have k:=k.keep [3] z
   refine nn (wp_ret (fS h k m z z))
 have h:=bif_f Ac h
 refine rB k 23 z Ac fun k=>sv k z (r_fa fa38_4 k z z) fun a k=>sv k z (r_ldb t13 m 0 Ae 4 k z z z z z) fun a k=>sv k z (r_fa fa38_5 k z z) fun a k=>sv k z (r_ldb t13 m 0 Ae 5 k z z z z z) fun a k=>pN 1 k z fun a k=>sv k z (r_fa fa25_3 k z z) fun a k=>sv k z (r_ld1 t13 (r:=[]) (Aa.at (m.a00 Aa.lt1) 3 1 z z z) k z z) fun a k=>pN 3 k z fun a k=>?_
 have k:=k.keep [3] z
 refine nn (wp_ret (fS h k m z z))
theorem c_impl_Class (fu:Nat) {w0:World} (r1:Request) {Af:List Value} {F3:List Nat} (Ax:rd w0 F3 Af r1) {r:Int}
    (h:d_impl_Class fu r1 = some r) :
    Calls Tryz.prog 154 #[.agg Af.toArray] w0 fun e w=>e = .returned (I r) ∧ Ext [] w0 w:=by
 refine enter (vs:=[_]) func154 z ntmps154 z fun a k=>?_
 have m:=St.start w0
 obtain ⟨v5,F6,v7,F8,v9,Bm,rfl,rfl,Aa,Ab,Ad⟩:=Ax
 unfold d_impl_Class at h
 refine wr (s_box (cs:=[I r1.fWay,I r1.fPallet.fW,I r1.fPallet.fD,I r1.fPallet.fH,I r1.fPallet.fGram,I r1.fClasses,v5,v7,I r1.fMaster,v9]) m k z z z z z z fun Bi Bn a k m e Ac=>pN 1 k z fun a k=>nn (wr (sv k z (r_ldB ta30 m 0 Ac 0 k z z z z z z) fun a k=>oE h fun Ae Ba h=>cE k m call231 z z z (c_impl_MasterOf fu _ (show rd _ _ [I r1.fWay,I r1.fPallet.fW,I r1.fPallet.fD,I r1.fPallet.fH,I r1.fPallet.fGram,I r1.fClasses,v5,v7,I r1.fMaster,v9] (r1:Request) from ⟨_,_,_,_,_,_,z,z,(Enc.rd_agr Aa (m.a00 (Enc.rd_lt Aa))),(Enc.rd_agr Ab (m.a00 (Enc.rd_lt Ab))),(Enc.rd_agr Ad (m.a00 (Enc.rd_lt Ad)))⟩) Ba) fun Bp e a k m=>?_)))
 refine pN 3 k z fun a k=>s_alloc (cs:=[I 0,I 0,I 0,I 0,I 0,I 0,I 0]) m k zeroValue38 z z z z z fun Ag Bj a k m e Ao=>s_stb (cs':=[I Ae.1.fId,I Ae.1.fW,I Ae.1.fH,I Ae.1.fD,I Ae.1.fTare,I Ae.1.fGram,I Ae.1.fCost]) sizeOf38 m 0 Ao 0 k z z z z z z z z z z z fun Bf a k e m Aq=>pN 1 k z fun a k=>nn (wr (sv k z (r_fa fa30_1 k z z) fun a k=>sv k z (r_ldB ta25 m 1 Ac 1 k z z z z z z) fun a k=>s_alloc (cs:=[I 0,I 0,I 0,I 0]) m k zeroValue25 z z z z z fun Ap Bc a k m e Am=>?_))
 refine s_stb (cs':=[I r1.fPallet.fW,I r1.fPallet.fD,I r1.fPallet.fH,I r1.fPallet.fGram]) sizeOf25 m 0 Am 0 k z z z z z z z z z z z fun Bb a k e m Ay=>nn (wp_seq (wp_block (wr (sv k z (r_ldB ta30 m 2 Ac 0 k z z z z z z) fun a k=>oE h fun Bo As h=>cE k m call232 z z z (c_impl_BoundsOk fu _ (show rd _ _ [I r1.fWay,I r1.fPallet.fW,I r1.fPallet.fD,I r1.fPallet.fH,I r1.fPallet.fGram,I r1.fClasses,v5,v7,I r1.fMaster,v9] (r1:Request) from ⟨_,_,_,_,_,_,z,z,(Enc.rd_agr Aa (m.a00 (Enc.rd_lt Aa))),(Enc.rd_agr Ab (m.a00 (Enc.rd_lt Ab))),(Enc.rd_agr Ad (m.a00 (Enc.rd_lt Ad)))⟩) As) fun Bh e a k m=>pN 2 k z fun a k=>nn ?_))))
 refine cI h k z (fun Ar h=>?_) fun Ar h=>?_
 · refine wr (pN 1 k z fun a k=>nn (wp_ret (rt_block (rt_then ?_))))
   refine fS h k m z z
 refine wr (sv k z (r_ldB ta30 m 2 Ac 0 k z z z z z z) fun a k=>oE h fun Bt Av h=>cE k m call233 z z z (c_impl_namesOk fu _ (show rd _ _ [I r1.fWay,I r1.fPallet.fW,I r1.fPallet.fD,I r1.fPallet.fH,I r1.fPallet.fGram,I r1.fClasses,v5,v7,I r1.fMaster,v9] (r1:Request) from ⟨_,_,_,_,_,_,z,z,(Enc.rd_agr Aa (m.a00 (Enc.rd_lt Aa))),(Enc.rd_agr Ab (m.a00 (Enc.rd_lt Ab))),(Enc.rd_agr Ad (m.a00 (Enc.rd_lt Ad)))⟩) Av) fun Br e a k m=>pN 2 k z fun a k=>nn (cI h k z (fun Ah h=>?_) fun Ah h=>?_))
 · refine wr (pN 1 k z fun a k=>nn (wp_ret (rt_block (rt_then ?_))))
   refine fS h k m z z
 refine wr (sv k z (r_fa fa30_3 k z z) fun a k=>sv k z (r_ldb t126 m 2 Ac 6 k z z z z z) fun a k=>sv k z (r_fa fa30_2 k z z) fun a k=>sv k z (r_ldb t13 m 2 Ac 5 k z z z z z) fun a k=>oE h fun Bq Ak h=>cE k m call234 z z z (c_impl_TableOk fu _ _ (Enc.rd_agr Aa (m.a00 (Enc.rd_lt Aa))) Ak) fun Bd e a k m=>pN 2 k z fun a k=>?_)
 have k:=k.keep [1,3,5,21] z
 refine nn (cI h k z (fun Az h=>?_) fun Az h=>?_)
 · refine wr (pN 1 k z fun a k=>nn (wp_ret (rt_block (rt_then ?_))))
   refine fS h k m z z
 refine wr (sv k z (r_fa fa30_6 k z z) fun a k=>sv k z (r_ldb t128 m 2 Ac 9 k z z z z z) fun a k=>pN 1 k z fun a k=>oE h fun Bs Al h=>cE k m call75 z z z (c_slices_ContainsFunc_impl_Item_impl_Item fu _ _ (Enc.rd_agr Ad (m.a00 (Enc.rd_lt Ad))) ⟨235,[.pointer (some (⟨Ag,0,none⟩:Addr))],z,call235,fun w Bv Bw r e Ai hx=>by subst Ai; have m:=m.step e; exact c_impl_Class_1 fu _ _ (Aq.agr (m.a 1 rfl) (by simp)) hx⟩ Al) fun Bl e a k m=>pN 1 k rfl fun a k=>nn (cI h k rfl (fun At h=>?_) fun At h=>?_))
 · refine wr (pN 1 k z fun a k=>nn (wp_ret (rt_block (rt_then ?_))))
   refine fS h k m z z
 refine wr (sv k z (r_fa fa30_4 k z z) fun a k=>sv k z (r_ldb t127 m 2 Ac 7 k z z z z z) fun a k=>pN 1 k z fun a k=>oE h fun Bu Aw h=>cE k m call236 z z z (c_slices_ContainsFunc_impl_Type_impl_Type fu _ _ (Enc.rd_agr Ab (m.a00 (Enc.rd_lt Ab))) ⟨237,[.pointer (some (⟨Ap,0,none⟩:Addr))],z,call237,fun w Be Bg r e Aj hx=>by subst Aj; have m:=m.step e; exact c_impl_Class_2 fu _ _ (Ay.agr (m.a 0 rfl) (by simp)) hx⟩ Aw) fun Bk e a k m=>pN 1 k rfl fun a k=>nn (cI h k rfl (fun Au h=>?_) fun Au h=>?_))
 · refine wr (pN 1 k z fun a k=>nn (wp_ret (rt_block (rt_then ?_))))
   refine fS h k m z z
 refine wp_skip (nm_block (nm_then ?_))
 refine wr (pN 1 k z fun a k=>nn (wp_ret (fS h k m z z)))
theorem c_impl_sound (fu:Nat) {w0:World} (r1:Request) {Ad:List Value} {F3:List Nat} (Af:rd w0 F3 Ad r1) {r:Bool}
    (h:d_impl_sound fu r1 = some r) :
    Calls Tryz.prog 61 #[.agg Ad.toArray] w0 fun e w=>e = .returned (.bool (r)) ∧ Ext [] w0 w:=by
 refine enter (vs:=[_]) func61 z ntmps61 z fun a k=>?_
 have m:=St.start w0
 obtain ⟨v5,F6,v7,F8,v9,Al,rfl,rfl,Ac,Aa,Ab⟩:=Af
 unfold d_impl_sound at h
 refine wr (s_box (cs:=[I r1.fWay,I r1.fPallet.fW,I r1.fPallet.fD,I r1.fPallet.fH,I r1.fPallet.fGram,I r1.fClasses,v5,v7,I r1.fMaster,v9]) m k z z z z z z fun Ak Ai a k m e Ag=>pN 1 k z fun a k=>nn (wr (sv k z (r_ldB ta30 m 0 Ag 0 k z z z z z z) fun a k=>oE h fun Aj Ae h=>cE k m call154 z z z (c_impl_Class fu _ (show rd _ _ [I r1.fWay,I r1.fPallet.fW,I r1.fPallet.fD,I r1.fPallet.fH,I r1.fPallet.fGram,I r1.fClasses,v5,v7,I r1.fMaster,v9] (r1:Request) from ⟨_,_,_,_,_,_,z,z,(Enc.rd_agr Ac (m.a00 (Enc.rd_lt Ac))),(Enc.rd_agr Aa (m.a00 (Enc.rd_lt Aa))),(Enc.rd_agr Ab (m.a00 (Enc.rd_lt Ab)))⟩) Ae) fun Ah e a k m=>?_)))
 refine pN 2 k z fun a k=>nn (wp_ret (fS h k m z z))
theorem c_impl_unitsRight (fu:Nat) {w0:World} (Ac:List Int) {v2:Value} {F3:List Nat} (Aa:rd w0 F3 [v2] Ac) {r:Bool}
    (h:d_impl_unitsRight fu Ac = some r) :
    Calls Tryz.prog 210 #[v2] w0 fun e w=>e = .returned (.bool (r)) ∧ Ext [] w0 w:=by
 refine enter (vs:=[_]) func210 z ntmps210 z fun a k=>?_
 have m:=St.start w0
 unfold d_impl_unitsRight at h
 refine wr (pN 1 k z fun a k=>nn (wp_seq (wr (pN 1 k z fun a k=>sv k z (r_len (α:=Int) Aa k underlying31 z z) fun a k=>pN 1 k z fun a k=>nn (wp_block (c_loop (fun n a w=>∃ (Ab:Int),K 32 [(0,v2),(5,v2),(6,I ((Ac.length:Int))),(7,I Ab)] a ∧ St [] w0 w [] ∧ d_impl_unitsRight_L1 fu Ac n Ab = some r) ?_ ?_ fu _ _ ?_))))))
 · rintro a w ⟨_,_,_,h⟩
   exact nS h
 · rintro Al a Ap ⟨Ab,k,m,h⟩
   rw [d_impl_unitsRight_L1_s] at h
   unfold d_impl_unitsRight_L1_B at h
   refine wr (pN 1 k z fun a k=>nn (wp_seq (cI h k z (fun Aj h=>?_) fun Aj h=>?_)))
   · refine wp_skip (nm_then ?_)
     refine c_cut (fun a w=>K 32 [(0,v2),(5,v2),(6,I ((Ac.length:Int))),(7,I Ab)] a ∧ St [] w0 w [] ∧ d_impl_unitsRight_J1 fu (d_impl_unitsRight_L1 fu Ac Al) Ab = some r) ?_ ?_
     · rintro a Am ⟨k,m,h⟩
       unfold d_impl_unitsRight_J1 at h
       refine wp_region_lit (pN 2 k z fun a k=>nn ?_)
       exact ⟨w64 (Ab + 1),k.keep [0,5,6,7] z,m.sel [] z (by decide),h⟩
     refine wp_block (wr (pN 1 k z fun a k=>oE h fun Ao Af h=>sv k z (r_ixa Aa Af k ts31 z z z) fun a k=>sv k z (r_lde1 Aa (m.a00 (Enc.rd_lt Aa)) Af 0 t13 k z z z z) fun a k=>pN 2 k z fun a k=>nn (wr (pN 1 k z fun a k=>oE h fun Ak Ah h=>cE k m call148 z z z (c_impl_in fu _ _ _  Ah) fun Aq e a k m=>pN 2 k z fun a k=>bsplit (!Ak) (fun Ad=>?_) (fun Ad=>?_)))))
     · have h:=bif_t Ad h
       refine rB k 15 z Ad fun k=>pN 12 k z fun a k=>nn (wp_cond_true (k.ev z) (wr (pN 1 k z fun a k=>nn (wp_ret (rt_block (rt_then (rt_then (rt_block (rt_then ?_)))))))))
       refine fS h k m z z
     have h:=bif_f Ad h
     refine rB k 15 z Ad fun k=>pN 3 k z fun a k=>bsplit (decide (Ab > 0)) (fun Ae=>?_) (fun Ae=>?_)
     · have h:=bif_t Ae h
       refine rB k 18 z Ae fun k=>pN 3 k z fun a k=>oE h fun Ar Ag h=>sv k z (r_ixa Aa Ag k ts31 z z z) fun a k=>sv k z (r_lde1 Aa (m.a00 (Enc.rd_lt Aa)) Ag 0 t13 k z z z z) fun a k=>pN 4 k z fun a k=>nn (cI h k z (fun Ai h=>?_) fun Ai h=>?_)
       · refine wr (pN 1 k z fun a k=>nn (wp_ret (rt_block (rt_then (rt_then (rt_block (rt_then ?_)))))))
         refine fS h k m z z
       refine wp_skip (nm_block (nm_then ?_))
       exact ⟨k.keep [0,5,6,7] z,m.sel [] z (by decide),h⟩
     have h:=bif_f Ae h
     refine rB k 18 z Ae fun k=>pN 9 k z fun a k=>nn (wp_cond_false (k.ev z) (wp_skip (nm_block (nm_then ?_))))
     exact ⟨k.keep [0,5,6,7] z,m.sel [] z (by decide),h⟩
   refine wp_exit (ex_then (ex_then (ex_same (nm_then ?_))))
   refine wr (pN 1 k z fun a k=>sv k z (r_len (α:=Int) Aa k underlying31 z z) fun a k=>pN 2 k z fun a k=>nn (wp_ret (fS h k m z z)))
 exact ⟨0,k.keep [0,5,6,7] z,m.sel [] z (by decide),h⟩
theorem c_impl_isPlace (fu:Nat) {w0:World} (n1:Int)  {r:Bool}
    (h:d_impl_isPlace fu n1 = some r) :
    Calls Tryz.prog 211 #[I n1] w0 fun e w=>e = .returned (.bool (r)) ∧ Ext [] w0 w:=by
 refine enter (vs:=[_]) func211 z ntmps211 z fun a k=>?_
 have m:=St.start w0
 unfold d_impl_isPlace at h
 refine wr (pN 1 k z fun a k=>nn (wr (pN 1 k z fun a k=>oE h fun x2 Aa h=>cE k m call148 z z z (c_impl_in fu _ _ _  Aa) fun w5 e a k m=>pN 1 k z fun a k=>nn (wp_ret (fS h k m z z)))))
theorem c_impl_PlanOk (fu:Nat) {w0:World} (x1:Plan) {Au:List Value} {F3:List Nat} (Bq:rd w0 F3 Au x1) {r:Bool}
    (h:d_impl_PlanOk fu x1 = some r) :
    Calls Tryz.prog 120 #[.agg Au.toArray] w0 fun e w=>e = .returned (.bool (r)) ∧ Ext [] w0 w:=by
 refine enter (vs:=[_]) func120 z ntmps120 z fun a k=>?_
 have m:=St.start w0
 obtain ⟨v5,F6,v7,F8,rfl,rfl,Aa,Al⟩:=Bq
 unfold d_impl_PlanOk at h
 refine wr (s_box (cs:=[v5,v7]) m k z z z z z z fun Ac Ap a k m e Ad=>pN 1 k z fun a k=>nn (c_cut (fun a w=>K 73 [(1,.pointer (some (⟨Ac,0,none⟩:Addr)))] a ∧ St [] w0 w [([Ac],Ap)] ∧ d_impl_PlanOk_J2 fu x1 = some r) ?_ ?_))
 · rintro a Cf ⟨k,m,h⟩
   unfold d_impl_PlanOk_J2 at h
   refine wp_seq (wr (sv k z (r_fa fa74_0 k z z) fun a k=>sv k z (r_ldb t143 m 0 Ad 0 k z z z z z) fun a k=>sv k z (r_len (α:=Carton) Aa k underlying43 z z) fun a k=>pN 1 k z fun a k=>nn (wp_block (c_loop (fun n a w=>∃ (Ab:Int),K 73 [(1,.pointer (some (⟨Ac,0,none⟩:Addr))),(20,v5),(21,I ((x1.fCartons.length:Int))),(22,I Ab)] a ∧ St [] w0 w [([Ac],Ap)] ∧ d_impl_PlanOk_L1 fu x1 n Ab = some r) ?_ ?_ fu _ _ ?_))))
   · rintro a w ⟨_,_,_,h⟩
     exact nS h
   · rintro Bh a Ca ⟨Ab,k,m,h⟩
     rw [d_impl_PlanOk_L1_s] at h
     unfold d_impl_PlanOk_L1_B at h
     refine wr (pN 1 k z fun a k=>nn (wp_seq (cI h k z (fun Bk h=>?_) fun Bk h=>?_)))
     · refine wp_skip (nm_then ?_)
       refine c_cut (fun a w=>K 73 [(1,.pointer (some (⟨Ac,0,none⟩:Addr))),(20,v5),(21,I ((x1.fCartons.length:Int))),(22,I Ab)] a ∧ St [] w0 w [([Ac],Ap)] ∧ d_impl_PlanOk_J1 fu (d_impl_PlanOk_L1 fu x1 Bh) Ab = some r) ?_ ?_
       · rintro a Bv ⟨k,m,h⟩
         unfold d_impl_PlanOk_J1 at h
         refine wp_region_lit (pN 2 k z fun a k=>nn ?_)
         exact ⟨w64 (Ab + 1),k.keep [1,20,21,22] z,m.sel [0] z (by decide),h⟩
       refine wp_block (wr (pN 1 k z fun a k=>oE h fun As Av h=>sv k z (r_ixa Aa Av k ts43 z z z) fun a k=>?_))
       obtain ⟨Cd,Ci,Cl,Bs,Be,Bf⟩:=rd_get Aa (ix_some Av).2.2
       obtain ⟨Ba,_,rfl,rfl,Ar⟩:=Bs
       refine sv k z (r_ldA ta33 (Be.agr (m.a00 (Enc.rd_lt Aa)) Bf) z k z z) fun a k=>s_alloc (cs:=[I 0,I 0,.slice none 0 0]) m k zeroValue33 z z z z z fun Ce Cb a k m e Bd=>pN 1 k z fun a k=>s_stb (cs':=[I As.fType,I As.fGroup,Ba]) sizeOf33 m 0 Bd 0 k z z z z z z z z z z (allc z (allc z (allc (rd_o Ar) alln))) fun Bu a k e m Aq=>nn (wr (sv k z (r_fa fa74_1 k z z) fun a k=>sv k z (r_ldb t172 m 1 Ad 1 k z z z z z) fun a k=>pN 1 k z fun a k=>oE h fun Ao At h=>sv k z (r_ixa Al At k ts72 z z z) fun a k=>sv k z (r_lde Al (m.a00 (Enc.rd_lt Al)) At ta139 k z z) fun a k=>?_))
       refine s_alloc (cs:=[I 0,I 0,I 0,I 0]) m k zeroValue139 z z z z z fun Ck By a k m e Bm=>s_stb (cs':=[I Ao.fPallet,I Ao.fX,I Ao.fY,I Ao.fZ]) sizeOf139 m 0 Bm 0 k z z z z z z z z z z z fun Cg a k e m Am=>nn (wr (sv k z (r_fa fa33_0 k z z) fun a k=>sv k z (r_ldb t13 m 1 Aq 0 k z z z z z) fun a k=>oE h fun Ax Bt h=>cE k m call148 z z z (c_impl_in fu _ _ _  Bt) fun Cj e a k m=>pN 2 k z fun a k=>bsplit (!Ax) (fun Aj=>?_) (fun Aj=>?_)))
       · have h:=bif_t Aj h
         refine rB k 36 z Aj fun k=>pN 35 k z fun a k=>?_
         have k:=k.keep [1,20,21,22,71] z
         refine nn (wp_cond_true (k.ev z) (wr (pN 1 k z fun a k=>nn (wp_ret (rt_block (rt_then (rt_then (rt_block (rt_then ?_)))))))))
         refine fS h k m z z
       have h:=bif_f Aj h
       refine rB k 36 z Aj fun k=>sv k z (r_fa fa33_1 k z z) fun a k=>sv k z (r_ldb t13 m 1 Aq 1 k z z z z z) fun a k=>oE h fun Bn Bj h=>cE k m call148 z z z (c_impl_in fu _ _ _  Bj) fun Cm e a k m=>pN 3 k z fun a k=>bsplit (!Bn) (fun Ai=>?_) (fun Ai=>?_)
       · have h:=bif_t Ai h
         refine rB k 42 z Ai fun k=>pN 29 k z fun a k=>?_
         have k:=k.keep [1,20,21,22,71] z
         refine nn (wp_cond_true (k.ev z) (wr (pN 1 k z fun a k=>nn (wp_ret (rt_block (rt_then (rt_then (rt_block (rt_then ?_)))))))))
         refine fS h k m z z
       have h:=bif_f Ai h
       refine rB k 42 z Ai fun k=>sv k z (r_fa fa33_2 k z z) fun a k=>sv k z (r_ldb t131 m 1 Aq 2 k z z z z z) fun a k=>oE h fun Br Aw h=>cE k m call210 z z z (c_impl_unitsRight fu _ (Enc.rd_agr Ar (m.a00 (Enc.rd_lt Ar))) Aw) fun Cn e a k m=>pN 3 k z fun a k=>bsplit (!Br) (fun Ag=>?_) (fun Ag=>?_)
       · have h:=bif_t Ag h
         refine rB k 48 z Ag fun k=>pN 23 k z fun a k=>?_
         have k:=k.keep [1,20,21,22,71] z
         refine nn (wp_cond_true (k.ev z) (wr (pN 1 k z fun a k=>nn (wp_ret (rt_block (rt_then (rt_then (rt_block (rt_then ?_)))))))))
         refine fS h k m z z
       have h:=bif_f Ag h
       refine rB k 48 z Ag fun k=>sv k z (r_fa fa139_0 k z z) fun a k=>sv k z (r_ldb t13 m 0 Am 0 k z z z z z) fun a k=>oE h fun Ay Bp h=>cE k m call211 z z z (c_impl_isPlace fu _  Bp) fun Ch e a k m=>pN 3 k z fun a k=>bsplit (!Ay) (fun Ah=>?_) (fun Ah=>?_)
       · have h:=bif_t Ah h
         refine rB k 54 z Ah fun k=>pN 17 k z fun a k=>?_
         have k:=k.keep [1,20,21,22,71] z
         refine nn (wp_cond_true (k.ev z) (wr (pN 1 k z fun a k=>nn (wp_ret (rt_block (rt_then (rt_then (rt_block (rt_then ?_)))))))))
         refine fS h k m z z
       have h:=bif_f Ah h
       refine rB k 54 z Ah fun k=>sv k z (r_fa fa139_1 k z z) fun a k=>sv k z (r_ldb t13 m 0 Am 1 k z z z z z) fun a k=>oE h fun Az Bc h=>cE k m call211 z z z (c_impl_isPlace fu _  Bc) fun Bx e a k m=>pN 3 k z fun a k=>bsplit (!Az) (fun Ae=>?_) (fun Ae=>?_)
       · have h:=bif_t Ae h
         refine rB k 60 z Ae fun k=>pN 11 k z fun a k=>?_
         have k:=k.keep [1,20,21,22,71] z
         refine nn (wp_cond_true (k.ev z) (wr (pN 1 k z fun a k=>nn (wp_ret (rt_block (rt_then (rt_then (rt_block (rt_then ?_)))))))))
         refine fS h k m z z
       have h:=bif_f Ae h
       refine rB k 60 z Ae fun k=>sv k z (r_fa fa139_2 k z z) fun a k=>sv k z (r_ldb t13 m 0 Am 2 k z z z z z) fun a k=>oE h fun Bi Bb h=>cE k m call211 z z z (c_impl_isPlace fu _  Bb) fun Bw e a k m=>pN 3 k z fun a k=>bsplit (!Bi) (fun Ak=>?_) (fun Ak=>?_)
       · have h:=bif_t Ak h
         refine rB k 66 z Ak fun k=>pN 5 k z fun a k=>?_
         have k:=k.keep [1,20,21,22,71] z
         refine nn (wp_cond_true (k.ev z) (wr (pN 1 k z fun a k=>nn (wp_ret (rt_block (rt_then (rt_then (rt_block (rt_then ?_)))))))))
         refine fS h k m z z
       have h:=bif_f Ak h
       refine rB k 66 z Ak fun k=>sv k z (r_fa fa139_3 k z z) fun a k=>sv k z (r_ldb t13 m 0 Am 3 k z z z z z) fun a k=>oE h fun Cc Bo h=>cE k m call211 z z z (c_impl_isPlace fu _  Bo) fun Bz e a k m=>pN 2 k z fun a k=>?_
       have k:=k.keep [1,20,21,22,71] z
       refine nn (cI h k z (fun Bl h=>?_) fun Bl h=>?_)
       · refine wr (pN 1 k z fun a k=>nn (wp_ret (rt_block (rt_then (rt_then (rt_block (rt_then ?_)))))))
         refine fS h k m z z
       refine wp_skip (nm_block (nm_then ?_))
       exact ⟨k.keep [1,20,21,22] z,m.sel [2] z (by decide),h⟩
     refine wp_exit (ex_then (ex_then (ex_same (nm_then ?_))))
     refine wr (pN 1 k z fun a k=>nn (wp_ret (fS h k m z z)))
   exact ⟨0,k.keep [1,20,21,22] z,m.sel [0] z (by decide),h⟩
 refine wr (sv k z (r_fa fa74_1 k z z) fun a k=>sv k z (r_ldb t172 m 0 Ad 1 k z z z z z) fun a k=>sv k z (r_len (α:=Spot) Al k underlying72 z z) fun a k=>sv k z (r_fa fa74_0 k z z) fun a k=>sv k z (r_ldb t143 m 0 Ad 0 k z z z z z) fun a k=>sv k z (r_len (α:=Carton) Aa k underlying43 z z) fun a k=>pN 2 k z fun a k=>bsplit (((x1.fSpots.length:Int)) != ((x1.fCartons.length:Int))) (fun Af=>?_) (fun Af=>?_))
 · have h:=bif_t Af h
   refine rB k 13 z Af fun k=>pN 5 k z fun a k=>nn (wp_cond_true (k.ev z) (wr (pN 1 k z fun a k=>nn (wp_ret (rt_then ?_)))))
   refine fS h k m z z
 have h:=bif_f Af h
 refine rB k 13 z Af fun k=>sv k z (r_fa fa74_0 k z z) fun a k=>sv k z (r_ldb t143 m 0 Ad 0 k z z z z z) fun a k=>sv k z (r_len (α:=Carton) Aa k underlying43 z z) fun a k=>pN 2 k z fun a k=>nn (cI h k z (fun Bg h=>?_) fun Bg h=>?_)
 · refine wr (pN 1 k z fun a k=>nn (wp_ret (rt_then ?_)))
   refine fS h k m z z
 refine wp_skip (nm_then ?_)
 exact ⟨k.keep [1] z,m.sel [0] z (by decide),h⟩

end Go.Proofs.YtlmibnlfkmiikaaGreat
