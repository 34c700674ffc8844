/- FnExactMirrored: the walks of functions that it reaches (ExactMirroredW,part 1). Printed by gen.py. -/
import Derived.Test.YtlmibnlfkmiikaaGreatExactFrontBWi3
import Derived.Test.YtlmibnlfkmiikaaGreatExactFrontBWs3
import Derived.Test.YtlmibnlfkmiikaaGreatExactFrontBWl2
import Derived.Test.YtlmibnlfkmiikaaGreatExactMirroredD
set_option maxRecDepth 20000
set_option linter.unusedSimpArgs false
set_option linter.unusedVariables false
namespace Go.Proofs.YtlmibnlfkmiikaaGreat
open Go Go.RowKit
open Enc (rd ow)
open Arg (argv)
open Ret (retv)
open Go.Proofs.Tryz

theorem fd140_0:FD Tryz.prog 140 0 0 1 false:=⟨_,_,underlying140,z,z,(fun w=>by simp [isAgg,run_underlying underlying3]),sizeOf3⟩
theorem ta52:TA Tryz.prog 52 10:=⟨Tryz.isAgg52,sizeOf52⟩
theorem ta69:TA Tryz.prog 69 2:=⟨Tryz.isAgg69,sizeOf69⟩
theorem c_spec_Mirrored (fu:Nat) {w0:World} (r1:Request) (x5:Plan) {Br:List Value} {F3:List Nat} (Cl:rd w0 F3 Br r1) {Bm:List Value} {F7:List Nat} (Cq:rd w0 F7 Bm x5) {r:Plan}
    (h:d_spec_Mirrored fu r1 x5 = some r) :
    Calls Tryz.prog 49 #[.agg Br.toArray,.agg Bm.toArray] w0 fun e w=>∃ (Bp:List Value) (G0:List Nat),e = .returned (.agg Bp.toArray) ∧ Ext [] w0 w ∧ ow w G0 Bp r ∧ (∀ b ∈ G0,w0.heap.size ≤ b):=by
 refine enter (vs:=[_,_]) func49 z ntmps49 z fun a k=>?_
 have m:=St.start w0
 obtain ⟨v9,Ct,Aw,Df,As,Dh,rfl,rfl,Ak,Aq,Ao⟩:=Cl
 obtain ⟨At,Cr,Ar,Cu,rfl,rfl,Ab,Aa⟩:=Cq
 unfold d_spec_Mirrored at h
 refine wr (s_box (cs:=[I r1.fWay,I r1.fPallet.fW,I r1.fPallet.fD,I r1.fPallet.fH,I r1.fPallet.fGram,I r1.fClasses,v9,Aw,I r1.fMaster,As]) m k z z z z z z fun Bl Cm a k m e Ba=>s_box (cs:=[At,Ar]) m k z z z z z z fun Bd Ch a k m e Aj=>s_alloc (cs:=[.slice none 0 0,.slice none 0 0]) m k zeroValue74 z z z z z fun Bg Cj a k m e Be=>nn (wr (sv k z (r_ldB ta74 m 1 Aj 0 k z z z z z z) fun a k=>oE h fun Bi Cp h=>s_call k call132 z z z z z (c_spec_l13Copy fu _ (show rd _ _ [At,Ar] (x5:Plan) from ⟨_,_,_,_,z,z,(Enc.rd_agr Ab (m.a00 (Enc.rd_lt Ab))),(Enc.rd_agr Aa (m.a00 (Enc.rd_lt Aa)))⟩) Cp) fun Dd Bn hR=>?_)))
 obtain ⟨Dg,Bv,rfl,e,Bb,Ci⟩:=hR
 refine ⟨_,z,fun a k=>?_⟩
 have m:=m.new e Bv (fun b hb=>⟨Ci b hb,Enc.rd_lt (Enc.ow_rd Bb) b hb⟩) (Enc.ow_nd Bb)
 obtain ⟨Ai,Az,Ay,Bs,rfl,rfl,Ad,Al,_⟩:=Bb
 have m:=m.split2
 refine s_alloc (cs:=[.slice none 0 0,.slice none 0 0]) m k zeroValue74 z z z z z fun Au Cv a k m e Cg=>s_stb (cs':=[Ai,Ay]) sizeOf74 m 0 Cg 0 k z z z z z z z z z z (allc (rd_o (Enc.ow_rd Ad)) (allc (rd_o (Enc.ow_rd Al)) alln)) fun Bx a k e m Bh=>nn (wp_seq (wr (sv k z (r_ldB ta30 m 5 Ba 0 k z z z z z z) fun a k=>sv k z (r_ldB ta74 m 4 Aj 0 k z z z z z z) fun a k=>oE h fun Cx By h=>?_)))
 refine cE k m call43 z z z (c_spec_Feasible fu _ _ (show rd _ _ [I r1.fWay,I r1.fPallet.fW,I r1.fPallet.fD,I r1.fPallet.fH,I r1.fPallet.fGram,I r1.fClasses,v9,Aw,I r1.fMaster,As] (r1:Request) from ⟨_,_,_,_,_,_,z,z,(Enc.rd_agr Ak (m.a00 (Enc.rd_lt Ak))),(Enc.rd_agr Aq (m.a00 (Enc.rd_lt Aq))),(Enc.rd_agr Ao (m.a00 (Enc.rd_lt Ao)))⟩) (show rd _ _ [At,Ar] (x5:Plan) from ⟨_,_,_,_,z,z,(Enc.rd_agr Ab (m.a00 (Enc.rd_lt Ab))),(Enc.rd_agr Aa (m.a00 (Enc.rd_lt Aa)))⟩) By) fun Db e a k m=>pN 1 k z fun a k=>nn (cI h k z (fun Cn h=>?_) fun Cn h=>?_)
 · refine wr (sv k z (r_ldB ta74 m 0 Bh 0 k z z z z z z) fun a k=>s_stb (cs':=[Ai,Ay]) sizeOf74 m 3 Be 0 k z z z z z z z z z z (allc (rd_o (Enc.ow_rd Ad)) (allc (rd_o (Enc.ow_rd Al)) alln)) fun Di a k e m Co=>nn (wp_ret (rt_then ?_)))
   cases h
   exact finR1 k z (RV.cA k z ta74 (Co.at (m.a 3 z) 0 2 z z z) z) ⟨_,_,z,m.ext,⟨_,Az,_,Bs,z,z,(Enc.ow_agr Ad (m.a 1 z)),(Enc.ow_agr Al (m.a 2 z)),by simpa [fps] using (m.sel [1,2] z (by decide)).nd⟩,(app_fresh (m.fresh 1 z) (m.fresh 2 z))⟩
 refine wp_skip (nm_then ?_)
 refine wp_seq (wr (pN 1 k z fun a k=>nn (wp_block (c_loop (fun n a w=>∃ (Ap:List Spot) (Ae:Value) (Ac:List Nat) (Av:World) (Am:World) (Ag:Int),K 46 [(2,.pointer (some (⟨Bl,0,none⟩:Addr))),(3,.pointer (some (⟨Bd,0,none⟩:Addr))),(4,.pointer (some (⟨Bg,0,none⟩:Addr))),(5,.pointer (some (⟨Au,0,none⟩:Addr))),(6,I Ag)] a ∧ St [] w0 w [([Bl],Cm),([Bd],Ch),([Bg],Cj),(Ac,Av),([Au],Am),(Az,Bn)] ∧ ow Av Ac [Ae] Ap ∧ bx Am Au [Ai,Ae] 74 ∧ d_spec_Mirrored_L1 fu r1 x5 Bi n Ap Ag = some r) ?_ ?_ fu _ _ ?_))))
 · rintro a w ⟨_,_,_,_,_,_,_,_,_,_,h⟩
   exact nS h
 · rintro Da a Cz ⟨Ap,Ae,Ac,Av,Am,Ag,k,m,Af,Ah,h⟩
   rw [d_spec_Mirrored_L1_s] at h
   unfold d_spec_Mirrored_L1_B at h
   refine wp_seq (wr (pN 1 k z fun a k=>sv k z (r_fa fa74_1 k z z) fun a k=>sv k z (r_ldb t172 m 4 Ah 1 k z z z z z) fun a k=>sv k z (r_len (α:=Spot) (Enc.ow_rd Af) k underlying72 z z) fun a k=>pN 1 k z fun a k=>nn (cI h k z (fun Cd h=>?_) fun Cd h=>?_)))
   · refine wp_skip (nm_then ?_)
     refine wp_seq (wp_block (d_go (Ac) mixo m z fun Bw hMd=>?_))
     have m:=hMd
     have s:=Ext.refl ((Ac):List Nat) Bw
     refine dN [2,8,16] 3 z k (by kernel_rfl) z s (fun _ _ _ _ _=>id) fun a k=>dt k 0 z (by kernel_rfl) z s (fun _ _ _=>id) (fun w s=>r_fa fa74_1 k z z) fun a k=>dt k 1 z (by kernel_rfl) z s (fun _ _ _=>id) (fun w s=>r_ld1 t172 (r:=[]) (Ah.at (hMd.az 4 3 z z z s) 1 1 z z z) k z z) fun a k=>dt k 3 z (by kernel_rfl) z s (fun _ _ _=>id) (fun w s=>r_fa fa30_1 k z z) fun a k=>dt k 4 z (by kernel_rfl) z s (fun _ _ _=>id) (fun w s=>r_fa fa25_0 k z z) fun a k=>dt k 5 z (by kernel_rfl) z s (fun _ _ _=>id) (fun w s=>r_ld1 t13 (r:=[]) (Ba.at (hMd.az 0 3 z z z s) 1 1 z z z) k z z) fun a k=>dt k 6 z (by kernel_rfl) z s (fun _ _ _=>id) (fun w s=>r_fa fa74_1 k z z) fun a k=>?_
     refine dt k 7 z (by kernel_rfl) z s (fun _ _ _=>id) (fun w s=>r_ld1 t172 (r:=[]) (Aj.at (hMd.az 1 3 z z z s) 1 1 z z z) k z z) fun a k=>oE h fun Bf Bj h=>dt k 9 z (by kernel_rfl) z s (fun _ _ _=>id) (fun w s=>r_ixa Aa Bj k ts72 z z z) fun a k=>dt k 10 z (by kernel_rfl) z s (fun _ _ _=>id) (fun w s=>r_fa fa139_1 k z z) fun a k=>dt k 11 z (by kernel_rfl) z s (fun _ _ _=>id) (fun w s=>r_lde1 Aa (hMd.az0 3 z z (Enc.rd_lt Aa) s) Bj 1 t13 k z z z z) fun a k=>dN [12] 1 z k (by kernel_rfl) z s (fun _ _ _ _ _=>id) fun a k=>dt k 13 z (by kernel_rfl) z s (fun _ _ _=>id) (fun w s=>r_ldA ta30 (Ba.at (hMd.az 0 3 z z z s) 0 10 z z z) z k z z) fun a k=>?_
     refine dt k 14 z (by kernel_rfl) z s (fun _ _ _=>id) (fun w s=>r_fa fa74_0 k z z) fun a k=>dt k 15 z (by kernel_rfl) z s (fun _ _ _=>id) (fun w s=>r_ld1 t143 (r:=[]) (Aj.at (hMd.az 1 3 z z z s) 0 1 z z z) k z z) fun a k=>oE h fun Ax Bq h=>dt k 17 z (by kernel_rfl) z s (fun _ _ _=>id) (fun w s=>r_ixa Ab Bq k ts43 z z z) fun a k=>?_
     obtain ⟨Cy,Cs,De,Cf,Bu,Cb⟩:=rd_get Ab (ix_some Bq).2.2
     obtain ⟨Cc,_,rfl,rfl,Bc⟩:=Cf
     refine dt k 18 z (by kernel_rfl) z s (fun _ _ _=>id) (fun w s=>r_ldA ta33 (Bu.agr (hMd.az0 3 z z (Enc.rd_lt Ab) s) Cb) z k z z) fun a k=>d_one 19 (by kernel_rfl) z (oE h fun Bo Ca h=>cE k m call133 z z z (c_spec_BoxOf fu _ _ (show rd _ _ [I r1.fWay,I r1.fPallet.fW,I r1.fPallet.fD,I r1.fPallet.fH,I r1.fPallet.fGram,I r1.fClasses,v9,Aw,I r1.fMaster,As] (r1:Request) from ⟨_,_,_,_,_,_,z,z,(Enc.rd_agr Ak (m.a00 (Enc.rd_lt Ak))),(Enc.rd_agr Aq (m.a00 (Enc.rd_lt Aq))),(Enc.rd_agr Ao (m.a00 (Enc.rd_lt Ao)))⟩) (show rd _ _ [I Ax.fType,I Ax.fGroup,Cc] (Ax:Carton) from ⟨_,_,z,z,(Enc.rd_agr Bc (m.a00 (Enc.rd_lt Bc)))⟩) Ca) fun Dc e a k m=>?_)
     have s:=s.trans e (by simp)
     refine wpList_nil ⟨s,?_⟩
     refine dt k 20 z (by kernel_rfl) z s (fun _ _ _=>id) (fun w s=>r_fld1 fd140_0 k z z z) fun a k=>dN [21] 1 z k (by kernel_rfl) z s (fun _ _ _ _ _=>id) fun a k=>oE h fun Bt Bk h=>dt k 22 z (by kernel_rfl) z s (fun _ _ _=>id) (fun w s=>r_ixa (Enc.ow_rd Af) Bk k ts72 z z z) fun a k=>dt k 23 z (by kernel_rfl) z s (fun _ _ _=>id) (fun w s=>r_fa fa139_1 k z z) fun a k=>d_one 24 (by kernel_rfl) z (s_ste (α:=Spot) (sz:=4) (y:={ Bt with fX:=w64 ((w64 (r1.fPallet.fW - Bf.fX)) - Bo.fW) }) sizeOf3 Bk m 3 Af 1 k z z z z z z z z z z z z fun Bz a k e m Ce=>?_)
     have s:=s.trans e (fun y hy=>Or.inl hy)
     refine wpList_nil ⟨s,?_⟩
     refine d_done (by kernel_rfl) ?_
     have k:=k.keep [2,3,4,5,6] z
     refine (nm_block (nm_then ?_))
     refine wp_region_lit (pN 3 k z fun a k=>nn ?_)
     exact ⟨setx Ap Ag ({ Bt with fX:=w64 ((w64 (r1.fPallet.fW - Bf.fX)) - Bo.fW) }),Ae,Ac,Bz,Am,w64 (Ag + 1),k.keep [2,3,4,5,6] z,m.sel [0,1,2,3,4,5] z (by decide),Ce,Ah,h⟩
   refine wp_exit (ex_then (ex_then (ex_same (nm_then ?_))))
   refine wr (sv k z (r_ldB ta74 m 4 Ah 0 k z z z z z z) fun a k=>s_stb (cs':=[Ai,Ae]) sizeOf74 m 2 Be 0 k z z z z z z z z z z (allc (rd_o (Enc.ow_rd Ad)) (allc (rd_o (Enc.ow_rd Af)) alln)) fun Cw a k e m Ck=>nn (wp_ret ?_))
   cases h
   exact finR1 k z (RV.cA k z ta74 (Ck.at (m.a 2 z) 0 2 z z z) z) ⟨_,_,z,m.ext,⟨_,Az,_,Ac,z,z,(Enc.ow_agr Ad (m.a 5 z)),(Enc.ow_agr Af (m.a 3 z)),by simpa [fps] using (m.sel [5,3] z (by decide)).nd⟩,(app_fresh (m.fresh 5 z) (m.fresh 3 z))⟩
 exact ⟨Bi.fSpots,Ay,Bs,Bn,Bx,0,k.keep [2,3,4,5,6] z,m.sel [5,4,3,2,0,1] z (by decide),Al,Bh,h⟩
theorem c_impl_Mirrored_1 (fu:Nat) {w0:World} (b1:Box) (Aa:Spot) (x3:Request) {v6:Value} {F7:List Nat} {v9:Value} {Ae:List Nat} {Ac:Value} {Ai:List Nat} {b4:Nat} (Ab:bx w0 b4 [I x3.fWay,I x3.fPallet.fW,I x3.fPallet.fD,I x3.fPallet.fH,I x3.fPallet.fGram,I x3.fClasses,v6,v9,I x3.fMaster,Ac] 30) (Ar:rd w0 F7 [v6] x3.fPairs) (Ap:rd w0 Ae [v9] x3.fTypes) (Ao:rd w0 Ai [Ac] x3.fItems) {r:Spot}
    (h:d_impl_Mirrored_1 fu b1 Aa x3 = some r) :
    Calls Tryz.prog 140 #[.agg (Flat.e (b1)).toArray,.agg (Flat.e (Aa)).toArray,.pointer (some (⟨b4,0,none⟩:Addr))] w0 fun e w=>e = .returned (.agg (Flat.e r).toArray) ∧ Ext [] w0 w:=by
 refine enter (vs:=[_,_,_]) func140 z ntmps140 z fun a k=>?_
 have m:=St.start w0
 unfold d_impl_Mirrored_1 at h
 refine wr (s_box (cs:=[I b1.fW,I b1.fD,I b1.fH,I b1.fGram]) m k z z z z z z fun As Al a k m e Aj=>s_box (cs:=[I Aa.fPallet,I Aa.fX,I Aa.fY,I Aa.fZ]) m k z z z z z z fun Av At a k m e Ad=>s_alloc (cs:=[I 0,I 0,I 0,I 0]) m k zeroValue139 z z z z z fun Ak Aq a k m e Ag=>nn (wr (sv k z (r_fa fa30_1 k z z) fun a k=>sv k z (r_fa fa25_0 k z z) fun a k=>sv k z (r_ld1 t13 (r:=[]) (Ab.at (m.a00 Ab.lt1) 1 1 z z z) k z z) fun a k=>sv k z (r_fa fa139_1 k z z) fun a k=>sv k z (r_ldb t13 m 1 Ad 1 k z z z z z) fun a k=>pN 1 k z fun a k=>sv k z (r_fa fa140_0 k z z) fun a k=>?_)))
 refine sv k z (r_ldb t13 m 2 Aj 0 k z z z z z) fun a k=>pN 1 k z fun a k=>sv k z (r_fa fa139_1 k z z) fun a k=>s_stb (cs':=[I Aa.fPallet,I (w64 ((w64 (x3.fPallet.fW - Aa.fX)) - b1.fW)),I Aa.fY,I Aa.fZ]) sizeOf3 m 1 Ad 1 k z z z z z z z z z z z fun Am a k e m Ah=>nn (wr (sv k z (r_ldB ta139 m 1 Ah 0 k z z z z z z) fun a k=>s_stb (cs':=[I Aa.fPallet,I (w64 ((w64 (x3.fPallet.fW - Aa.fX)) - b1.fW)),I Aa.fY,I Aa.fZ]) sizeOf139 m 0 Ag 0 k z z z z z z z z z z z fun Au a k e m Af=>nn (wp_ret ?_)))
 cases h
 exact finR1 k z (RV.cA k z ta139 (Af.at (m.a 0 z) 0 4 z z z) z) ⟨z,m.ext⟩
theorem c_impl_Mirrored (fu:Nat) {w0:World} (r1:Request) (x5:Plan) {Al:List Value} {F3:List Nat} (Bd:rd w0 F3 Al r1) {Ai:List Value} {F7:List Nat} (Ba:rd w0 F7 Ai x5) {r:Plan}
    (h:d_impl_Mirrored fu r1 x5 = some r) :
    Calls Tryz.prog 50 #[.agg Al.toArray,.agg Ai.toArray] w0 fun e w=>∃ (Ag:List Value) (G0:List Nat),e = .returned (.agg Ag.toArray) ∧ Ext [] w0 w ∧ ow w G0 Ag r ∧ (∀ b ∈ G0,w0.heap.size ≤ b):=by
 refine enter (vs:=[_,_]) func50 z ntmps50 z fun a k=>?_
 have m:=St.start w0
 obtain ⟨v9,Bp,Ak,Bk,Ah,Bo,rfl,rfl,Ab,Ac,Aa⟩:=Bd
 obtain ⟨Aj,Bi,Af,Bq,rfl,rfl,Am,Aq⟩:=Ba
 unfold d_impl_Mirrored at h
 refine wr (s_box (cs:=[I r1.fWay,I r1.fPallet.fW,I r1.fPallet.fD,I r1.fPallet.fH,I r1.fPallet.fGram,I r1.fClasses,v9,Ak,I r1.fMaster,Ah]) m k z z z z z z fun Ax Bx a k m e Ao=>s_box (cs:=[Aj,Af]) m k z z z z z z fun Bm Bg a k m e As=>s_alloc (cs:=[.slice none 0 0,.slice none 0 0]) m k zeroValue74 z z z z z fun Bu Bs a k m e Aw=>nn (wr (sv k z (r_ldB ta30 m 2 Ao 0 k z z z z z z) fun a k=>sv k z (r_ldB ta74 m 1 As 0 k z z z z z z) fun a k=>pN 1 k z fun a k=>oE h fun Bl Be h=>?_)))
 refine s_call k call134 z z z z z (c_impl_turned fu _ _ _ (show rd _ _ [I r1.fWay,I r1.fPallet.fW,I r1.fPallet.fD,I r1.fPallet.fH,I r1.fPallet.fGram,I r1.fClasses,v9,Ak,I r1.fMaster,Ah] (r1:Request) from ⟨_,_,_,_,_,_,z,z,(Enc.rd_agr Ab (m.a00 (Enc.rd_lt Ab))),(Enc.rd_agr Ac (m.a00 (Enc.rd_lt Ac))),(Enc.rd_agr Aa (m.a00 (Enc.rd_lt Aa)))⟩) (show rd _ _ [Aj,Af] (x5:Plan) from ⟨_,_,_,_,z,z,(Enc.rd_agr Am (m.a00 (Enc.rd_lt Am))),(Enc.rd_agr Aq (m.a00 (Enc.rd_lt Aq)))⟩) ⟨140,[.pointer (some (⟨Ax,0,none⟩:Addr))],z,call140,fun w Br Bh Bt Bj r e At Au hx=>by subst At; subst Au; have m:=m.step e; exact c_impl_Mirrored_1 fu _ _ _ (Ao.agr (m.a 2 rfl) (by simp)) (Enc.rd_agr Ab (m.a00 (Enc.rd_lt Ab))) (Enc.rd_agr Ac (m.a00 (Enc.rd_lt Ac))) (Enc.rd_agr Aa (m.a00 (Enc.rd_lt Aa))) hx⟩ Be) fun Bv Bn hR=>?_
 obtain ⟨Bw,Bb,rfl,e,Ad,Bc⟩:=hR
 refine ⟨_,z,fun a k=>?_⟩
 have m:=m.new e Bb (fun b hb=>⟨Bc b hb,Enc.rd_lt (Enc.ow_rd Ad) b hb⟩) (Enc.ow_nd Ad)
 obtain ⟨Ar,Az,Av,Bf,rfl,rfl,Ae,Ap,_⟩:=Ad
 have m:=m.split2
 refine s_stb (cs':=[Ar,Av]) sizeOf74 m 2 Aw 0 k z z z z z z z z z z (allc (rd_o (Enc.ow_rd Ae)) (allc (rd_o (Enc.ow_rd Ap)) alln)) fun By a k e m Ay=>nn (wp_ret ?_)
 cases h
 exact finR1 k z (RV.cA k z ta74 (Ay.at (m.a 2 z) 0 2 z z z) z) ⟨_,_,z,m.ext,⟨_,Az,_,Bf,z,z,(Enc.ow_agr Ae (m.a 0 z)),(Enc.ow_agr Ap (m.a 1 z)),by simpa [fps] using (m.sel [0,1] z (by decide)).nd⟩,(app_fresh (m.fresh 0 z) (m.fresh 1 z))⟩
theorem c_laws_FnExactMirrored (fu:Nat) {w0:World} (Aa:Request) (Aj:Plan) {Ik:List Value} {F3:List Nat} (Nx:rd w0 F3 Ik Aa) {Fw:List Value} {F7:List Nat} (Kd:rd w0 F7 Fw Aj) {r:Bool}
    (h:d_laws_FnExactMirrored fu Aa Aj = some r) :
    Calls Tryz.prog 10 #[.agg Ik.toArray,.agg Fw.toArray] w0 fun e w=>e = .returned (.bool (r)) ∧ Ext [] w0 w:=by
 refine enter (vs:=[_,_]) func10 z ntmps10 z fun a k=>?_
 have m:=St.start w0
 obtain ⟨v9,Vm,Ap,Rr,Am,Va,rfl,rfl,Ah,Ag,Ai⟩:=Nx
 obtain ⟨Ak,Vj,Al,Sh,rfl,rfl,Af,Ae⟩:=Kd
 unfold d_laws_FnExactMirrored at h
 refine wr (s_box (cs:=[I Aa.fWay,I Aa.fPallet.fW,I Aa.fPallet.fD,I Aa.fPallet.fH,I Aa.fPallet.fGram,I Aa.fClasses,v9,Ap,I Aa.fMaster,Am]) m k z z z z z z fun Bw Gd a k m e Bb=>s_box (cs:=[Ak,Al]) m k z z z z z z fun Br Gy a k m e Bm=>pN 1 k z fun a k=>nn (wr (pN 1 k z fun a k=>nn (wr (sv k z (r_ldB ta52 m 1 Bb 0 k z z z z z z) fun a k=>pN 1 k z fun a k=>oE h fun Ur Lj h=>?_)))))
 refine cE k m call23 z z z (c_laws_szRequest fu _ _ (show rd _ _ [I Aa.fWay,I Aa.fPallet.fW,I Aa.fPallet.fD,I Aa.fPallet.fH,I Aa.fPallet.fGram,I Aa.fClasses,v9,Ap,I Aa.fMaster,Am] (Aa:Request) from ⟨_,_,_,_,_,_,z,z,(Enc.rd_agr Ah (m.a00 (Enc.rd_lt Ah))),(Enc.rd_agr Ag (m.a00 (Enc.rd_lt Ag))),(Enc.rd_agr Ai (m.a00 (Enc.rd_lt Ai)))⟩) Lj) fun Qo e a k m=>pN 1 k z fun a k=>nn (wp_seq (wr (pN 2 k z fun a k=>nn (cI h k z (fun Ph h=>?_) fun Ph h=>?_))))
 · refine wr (pN 1 k z fun a k=>nn (wp_ret (rt_then ?_)))
   refine fS h k m z z
 refine wp_skip (nm_then ?_)
 refine wr (sv k z (r_ldB ta69 m 0 Bm 0 k z z z z z z) fun a k=>pN 1 k z fun a k=>oE h fun Wi Pl h=>cE k m call38 z z z (c_laws_szPlan fu _ _ (show rd _ _ [Ak,Al] (Aj:Plan) from ⟨_,_,_,_,z,z,(Enc.rd_agr Af (m.a00 (Enc.rd_lt Af))),(Enc.rd_agr Ae (m.a00 (Enc.rd_lt Ae)))⟩) Pl) fun Wv e a k m=>pN 1 k z fun a k=>nn (wp_seq (wr (pN 2 k z fun a k=>nn (cI h k z (fun Kq h=>?_) fun Kq h=>?_)))))
 · refine wr (pN 1 k z fun a k=>nn (wp_ret (rt_then ?_)))
   refine fS h k m z z
 refine wp_skip (nm_then ?_)
 refine c_cut (fun a w=>∃ (At:List Carton) (Ax:Value) (Bc:List Nat) (Bh:World) (Aq:List Spot) (Ay:Value) (Bd:List Nat) (Bg:World) (Au:Nat) (Bj:World),K 92 [(2,.pointer (some (⟨Bw,0,none⟩:Addr))),(3,.pointer (some (⟨Br,0,none⟩:Addr))),(6,.pointer (some (⟨Au,0,none⟩:Addr)))] a ∧ St [] w0 w [([Bw],Gd),([Br],Gy),(Bc,Bh),(Bd,Bg),([Au],Bj)] ∧ ow Bh Bc [Ax] At ∧ ow Bg Bd [Ay] Aq ∧ bx Bj Au [Ax,Ay] 74 ∧ d_laws_FnExactMirrored_J3 fu Aa Aj At Aq = some r) ?_ ?_
 · rintro a Qk ⟨At,Ax,Bc,Bh,Aq,Ay,Bd,Bg,Au,Bj,k,m,Cm,Cy,Df,h⟩
   unfold d_laws_FnExactMirrored_J3 at h
   refine wr (sv k z (r_ldB ta52 m 0 Bb 0 k z z z z z z) fun a k=>oE h fun Ab Kr h=>s_call k call26 z z z z z (c_laws_toRequest fu _ (show rd _ _ [I Aa.fWay,I Aa.fPallet.fW,I Aa.fPallet.fD,I Aa.fPallet.fH,I Aa.fPallet.fGram,I Aa.fClasses,v9,Ap,I Aa.fMaster,Am] (Aa:Request) from ⟨_,_,_,_,_,_,z,z,(Enc.rd_agr Ah (m.a00 (Enc.rd_lt Ah))),(Enc.rd_agr Ag (m.a00 (Enc.rd_lt Ag))),(Enc.rd_agr Ai (m.a00 (Enc.rd_lt Ai)))⟩) Kr) fun Tw Vs hR=>?_)
   obtain ⟨Ro,Ng,rfl,e,Dl,Mf⟩:=hR
   refine ⟨_,z,fun a k=>?_⟩
   have m:=m.new e Ng (fun b hb=>⟨Mf b hb,Enc.rd_lt (Enc.ow_rd Dl) b hb⟩) (Enc.ow_nd Dl)
   obtain ⟨Bi,Pn,Ba,Jg,Bf,Mm,rfl,rfl,Bx,Bn,Bo,_⟩:=Dl
   have m:=m.split2
   have m:=m.split2at1
   refine s_alloc (cs:=[I 0,I 0,I 0,I 0,I 0,I 0,.slice none 0 0,.slice none 0 0,I 0,.slice none 0 0]) m k zeroValue30 z z z z z fun Vo Ui a k m e Lt=>s_stb (cs':=[I Ab.fWay,I Ab.fPallet.fW,I Ab.fPallet.fD,I Ab.fPallet.fH,I Ab.fPallet.fGram,I Ab.fClasses,Bi,Ba,I Ab.fMaster,Bf]) sizeOf30 m 0 Lt 0 k z z z z z z z z z z (allc z (allc z (allc z (allc z (allc z (allc z (allc (rd_o (Enc.ow_rd Bx)) (allc (rd_o (Enc.ow_rd Bn)) (allc z (allc (rd_o (Enc.ow_rd Bo)) alln)))))))))) fun Rb a k e m Cp=>nn (wr (sv k z (r_ldB ta69 m 5 Bm 0 k z z z z z z) fun a k=>oE h fun Db Mg h=>?_))
   refine s_call k call40 z z z z z (c_laws_toPlan fu _ (show rd _ _ [Ak,Al] (Aj:Plan) from ⟨_,_,_,_,z,z,(Enc.rd_agr Af (m.a00 (Enc.rd_lt Af))),(Enc.rd_agr Ae (m.a00 (Enc.rd_lt Ae)))⟩) Mg) fun Sm Wt hR=>?_
   obtain ⟨Si,Mp,rfl,e,Dz,Nq⟩:=hR
   refine ⟨_,z,fun a k=>?_⟩
   have m:=m.new e Mp (fun b hb=>⟨Nq b hb,Enc.rd_lt (Enc.ow_rd Dz) b hb⟩) (Enc.ow_nd Dz)
   obtain ⟨Az,Pm,Bl,Mv,rfl,rfl,Ca,Bu,_⟩:=Dz
   have m:=m.split2
   refine s_alloc (cs:=[.slice none 0 0,.slice none 0 0]) m k zeroValue74 z z z z z fun Tf Wq a k m e Nk=>s_stb (cs':=[Az,Bl]) sizeOf74 m 0 Nk 0 k z z z z z z z z z z (allc (rd_o (Enc.ow_rd Ca)) (allc (rd_o (Enc.ow_rd Bu)) alln)) fun Rx a k e m Dg=>nn (wr (sv k z (r_ldB ta30 m 3 Cp 0 k z z z z z z) fun a k=>sv k z (r_ldB ta74 m 0 Dg 0 k z z z z z z) fun a k=>oE h fun Bp Lb h=>?_))
   refine s_call k call50 z z z z z (c_impl_Mirrored fu _ _ (show rd _ _ [I Ab.fWay,I Ab.fPallet.fW,I Ab.fPallet.fD,I Ab.fPallet.fH,I Ab.fPallet.fGram,I Ab.fClasses,Bi,Ba,I Ab.fMaster,Bf] (Ab:Request) from ⟨_,_,_,_,_,_,z,z,(Enc.rd_agr (Enc.ow_rd Bx) (m.a 4 z)),(Enc.rd_agr (Enc.ow_rd Bn) (m.a 5 z)),(Enc.rd_agr (Enc.ow_rd Bo) (m.a 6 z))⟩) (show rd _ _ [Az,Bl] (Db:Plan) from ⟨_,_,_,_,z,z,(Enc.rd_agr (Enc.ow_rd Ca) (m.a 1 z)),(Enc.rd_agr (Enc.ow_rd Bu) (m.a 2 z))⟩) Lb) fun Ws Hd hR=>?_
   obtain ⟨Vr,Of,rfl,e,Cq,Oi⟩:=hR
   refine ⟨_,z,fun a k=>?_⟩
   have m:=m.new e Of (fun b hb=>⟨Oi b hb,Enc.rd_lt (Enc.ow_rd Cq) b hb⟩) (Enc.ow_nd Cq)
   obtain ⟨Aw,Gf,Av,Ef,rfl,rfl,Bv,Cc,_⟩:=Cq
   have m:=m.split2
   refine s_alloc (cs:=[.slice none 0 0,.slice none 0 0]) m k zeroValue74 z z z z z fun Bt Ql a k m e Me=>s_stb (cs':=[Aw,Av]) sizeOf74 m 0 Me 0 k z z z z z z z z z z (allc (rd_o (Enc.ow_rd Bv)) (allc (rd_o (Enc.ow_rd Cc)) alln)) fun Hr a k e m Be=>nn (wp_seq (wr (sv k z (r_ldB ta74 m 0 Be 0 k z z z z z z) fun a k=>sv k z (r_ldB ta74 m 14 Df 0 k z z z z z z) fun a k=>oE h fun Sz Ly h=>?_)))
   refine cE k m call42 z z z (c_laws_eqPlan fu _ _ (show rd _ _ [Aw,Av] (Bp:Plan) from ⟨_,_,_,_,z,z,(Enc.rd_agr (Enc.ow_rd Bv) (m.a 1 z)),(Enc.rd_agr (Enc.ow_rd Cc) (m.a 2 z))⟩) (show rd _ _ [Ax,Ay] ((⟨At,Aq⟩:Plan):Plan) from ⟨_,_,_,_,z,z,(Enc.rd_agr (Enc.ow_rd Cm) (m.a 12 z)),(Enc.rd_agr (Enc.ow_rd Cy) (m.a 13 z))⟩) Ly) fun Rh e a k m=>pN 1 k z fun a k=>nn (cI h k z (fun Jc h=>?_) fun Jc h=>?_)
   · refine wr (pN 1 k z fun a k=>nn (wp_ret (rt_then ?_)))
     refine fS h k m z z
   refine wp_skip (nm_then ?_)
   refine wp_seq (wp_seq (d_go [] mixo m z fun Kw hMd=>?_))
   have m:=hMd
   have s:=Ext.refl ([]:List Nat) Kw
   refine dt k 0 z (by kernel_rfl) z s (fun _ _ _=>id) (fun w s=>r_ldA ta30 (Cp.at ((hMd.step s).a 6 z) 0 10 z z z) z k z z) fun a k=>dt k 1 z (by kernel_rfl) z s (fun _ _ _=>id) (fun w s=>r_ldA ta52 (Bb.at ((hMd.step s).a 10 z) 0 10 z z z) z k z z) fun a k=>d_one 2 (by kernel_rfl) z (oE h fun Ar Ox h=>s_call k call26 z z z z z (c_laws_toRequest fu _ (show rd _ _ [I Aa.fWay,I Aa.fPallet.fW,I Aa.fPallet.fD,I Aa.fPallet.fH,I Aa.fPallet.fGram,I Aa.fClasses,v9,Ap,I Aa.fMaster,Am] (Aa:Request) from ⟨_,_,_,_,_,_,z,z,(Enc.rd_agr Ah (m.a00 (Enc.rd_lt Ah))),(Enc.rd_agr Ag (m.a00 (Enc.rd_lt Ag))),(Enc.rd_agr Ai (m.a00 (Enc.rd_lt Ai)))⟩) Ox) fun Vx Tc hR=>?_)
   obtain ⟨Rt,Er,rfl,e,Dr,Fm⟩:=hR
   refine ⟨_,z,fun a k=>?_⟩
   have m:=m.new e Er (fun b hb=>⟨Fm b hb,Enc.rd_lt (Enc.ow_rd Dr) b hb⟩) (Enc.ow_nd Dr)
   have Wj:=fun (y:Nat) (hy:y ∈ Er)=>Nat.le_trans s.size (Fm y hy)
   obtain ⟨Qe,Qj,Js,Wl,Oc,Re,rfl,rfl,Kb,Pe,Om,_⟩:=Dr
   have m:=m.split2
   have m:=m.split2at1
   have s:=s.trans e (by simp)
   refine wpList_nil ⟨s,?_⟩
   refine d_one 3 (by kernel_rfl) z (oE h fun Ry Pp h=>?_)
   refine cE k m call30 z z z (c_laws_eqRequest fu _ _ (show rd _ _ [I Ab.fWay,I Ab.fPallet.fW,I Ab.fPallet.fD,I Ab.fPallet.fH,I Ab.fPallet.fGram,I Ab.fClasses,Bi,Ba,I Ab.fMaster,Bf] (Ab:Request) from ⟨_,_,_,_,_,_,z,z,(Enc.rd_agr (Enc.ow_rd Bx) (m.a 10 z)),(Enc.rd_agr (Enc.ow_rd Bn) (m.a 11 z)),(Enc.rd_agr (Enc.ow_rd Bo) (m.a 12 z))⟩) (show rd _ _ [I Ar.fWay,I Ar.fPallet.fW,I Ar.fPallet.fD,I Ar.fPallet.fH,I Ar.fPallet.fGram,I Ar.fClasses,Qe,Js,I Ar.fMaster,Oc] (Ar:Request) from ⟨_,_,_,_,_,_,z,z,(Enc.rd_agr (Enc.ow_rd Kb) (m.a 0 z)),(Enc.rd_agr (Enc.ow_rd Pe) (m.a 1 z)),(Enc.rd_agr (Enc.ow_rd Om) (m.a 2 z))⟩) Pp) fun Um e a k m=>?_
   have s:=s.trans e (by simp)
   refine wpList_nil ⟨s,?_⟩
   refine dN [4] 1 z k (by kernel_rfl) z s (fun _ _ _ _ _=>id) fun a k=>d_done (by kernel_rfl) ((nm_then ?_))
   refine cI h k z (fun Ku h=>?_) fun Ku h=>?_
   · refine wr (pN 1 k z fun a k=>nn (wp_ret (rt_then ?_)))
     refine fS h k m z z
   refine wp_skip (nm_then ?_)
   refine wp_seq (wp_seq (d_go [] mixo m z fun Is hMd=>?_))
   have m:=hMd
   have s:=Ext.refl ([]:List Nat) Is
   refine dt k 0 z (by kernel_rfl) z s (fun _ _ _=>id) (fun w s=>r_ldA ta74 (Dg.at ((hMd.step s).a 6 z) 0 2 z z z) z k z z) fun a k=>dt k 1 z (by kernel_rfl) z s (fun _ _ _=>id) (fun w s=>r_ldA ta69 (Bm.at ((hMd.step s).a 14 z) 0 2 z z z) z k z z) fun a k=>d_one 2 (by kernel_rfl) z (oE h fun Kx Kj h=>s_call k call40 z z z z z (c_laws_toPlan fu _ (show rd _ _ [Ak,Al] (Aj:Plan) from ⟨_,_,_,_,z,z,(Enc.rd_agr Af (m.a00 (Enc.rd_lt Af))),(Enc.rd_agr Ae (m.a00 (Enc.rd_lt Ae)))⟩) Kj) fun Vv Th hR=>?_)
   obtain ⟨Ut,Fp,rfl,e,Cs,El⟩:=hR
   refine ⟨_,z,fun a k=>?_⟩
   have m:=m.new e Fp (fun b hb=>⟨El b hb,Enc.rd_lt (Enc.ow_rd Cs) b hb⟩) (Enc.ow_nd Cs)
   have Wx:=fun (y:Nat) (hy:y ∈ Fp)=>Nat.le_trans s.size (El y hy)
   obtain ⟨Mr,Qm,Lz,Uj,rfl,rfl,Pd,Qf,_⟩:=Cs
   have m:=m.split2
   have s:=s.trans e (by simp)
   refine wpList_nil ⟨s,?_⟩
   refine d_one 3 (by kernel_rfl) z (oE h fun Ta Oq h=>cE k m call42 z z z (c_laws_eqPlan fu _ _ (show rd _ _ [Az,Bl] (Db:Plan) from ⟨_,_,_,_,z,z,(Enc.rd_agr (Enc.ow_rd Ca) (m.a 9 z)),(Enc.rd_agr (Enc.ow_rd Bu) (m.a 10 z))⟩) (show rd _ _ [Mr,Lz] (Kx:Plan) from ⟨_,_,_,_,z,z,(Enc.rd_agr (Enc.ow_rd Pd) (m.a 0 z)),(Enc.rd_agr (Enc.ow_rd Qf) (m.a 1 z))⟩) Oq) fun Vn e a k m=>?_)
   have s:=s.trans e (by simp)
   refine wpList_nil ⟨s,?_⟩
   refine dN [4] 1 z k (by kernel_rfl) z s (fun _ _ _ _ _=>id) fun a k=>d_done (by kernel_rfl) ?_
   have k:=k.keep [2,3,6,7,8,9,49] z
   refine (nm_then ?_)
   refine cI h k z (fun Qc h=>?_) fun Qc h=>?_
   · refine wr (pN 1 k z fun a k=>nn (wp_ret (rt_then ?_)))
     refine fS h k m z z
   refine wp_skip (nm_then ?_)
   refine wr (pN 1 k z fun a k=>nn (wr (sv k z (r_ldB ta30 m 11 Cp 0 k z z z z z z) fun a k=>pN 1 k z fun a k=>?_)))
   have Lv:ow _ (Pn ++ (Jg ++ (Mm))) [I Ab.fWay,I Ab.fPallet.fW,I Ab.fPallet.fD,I Ab.fPallet.fH,I Ab.fPallet.fGram,I Ab.fClasses,Bi,Ba,I Ab.fMaster,Bf] (Ab:Request):=⟨_,_,_,_,_,_,z,z,(Enc.ow_agr Bx (m.a 12 z)),(Enc.ow_agr Bn (m.a 13 z)),(Enc.ow_agr Bo (m.a 14 z)),by simpa [fps] using (m.sel [12,13,14] z (by decide)).nd⟩
   have m:=m.sel [12,13,14,0,1,2,3,4,5,6,7,8,9,10,11,15,16,17,18,19] z (by decide)
   have m:=m.join3
   refine oE h fun Rm Jk h=>s_call k call31 z z z z z (c_laws_markRequest fu _ _ Lv Jk) fun Qv Wa hR=>?_
   obtain ⟨Rf,rfl,e,Kv,Dd⟩:=hR
   refine ⟨_,z,fun a k=>?_⟩
   have m:=m.mut 0 z e _ (fun b hb=>⟨Kv b hb,Enc.rd_lt (Enc.ow_rd Dd) b hb⟩) (Enc.ow_nd Dd)
   obtain ⟨Jo,Ru,Pw,Uf,Px,We,Ce,rfl,Uz,Td,Tm,_⟩:=Dd
   have m:=m.toFront 0 z
   have m:=m.split2
   have m:=m.split2at1
   have It:Bi = Jo:=by have:=congrArg (fun l:List Value=>l[6]?) Ce; simpa using this
   subst It
   have Lr:Ba = Pw:=by have:=congrArg (fun l:List Value=>l[7]?) Ce; simpa using this
   subst Lr
   have Ol:Bf = Px:=by have:=congrArg (fun l:List Value=>l[9]?) Ce; simpa using this
   subst Ol
   refine pN 1 k z fun a k=>nn (wr (sv k z (r_ldB ta74 m 11 Dg 0 k z z z z z z) fun a k=>pN 1 k z fun a k=>?_))
   have Lk:ow _ (Pm ++ (Mv)) [Az,Bl] (Db:Plan):=⟨_,_,_,_,z,z,(Enc.ow_agr Ca (m.a 12 z)),(Enc.ow_agr Bu (m.a 13 z)),by simpa [fps] using (m.sel [12,13] z (by decide)).nd⟩
   have m:=m.sel [12,13,0,1,2,3,4,5,6,7,8,9,10,11,14,15,16,17,18,19] z (by decide)
   have m:=m.join2
   refine oE h fun Nc Ix h=>s_call k call47 z z z z z (c_laws_markPlan fu _ _ Lk Ix) fun Qi Qz hR=>?_
   obtain ⟨Vg,rfl,e,Ok,Cr⟩:=hR
   refine ⟨_,z,fun a k=>?_⟩
   have m:=m.mut 0 z e _ (fun b hb=>⟨Ok b hb,Enc.rd_lt (Enc.ow_rd Cr) b hb⟩) (Enc.ow_nd Cr)
   obtain ⟨Jp,Vp,Mo,Sp,Hj,rfl,Ul,Qt,_⟩:=Cr
   have m:=m.toFront 0 z
   have m:=m.split2
   have On:Az = Jp:=by have:=congrArg (fun l:List Value=>l[0]?) Hj; simpa using this
   subst On
   have Oj:Bl = Mo:=by have:=congrArg (fun l:List Value=>l[1]?) Hj; simpa using this
   subst Oj
   refine pN 1 k z fun a k=>nn (c_cut (fun a w=>K 92 [(2,.pointer (some (⟨Bw,0,none⟩:Addr))),(3,.pointer (some (⟨Br,0,none⟩:Addr))),(6,.pointer (some (⟨Au,0,none⟩:Addr))),(9,.pointer (some (⟨Bt,0,none⟩:Addr)))] a ∧ St [] w0 w [([Bw],Gd),([Br],Gy),([Au],Bj),([Bt],Hr),(Bc,Bh),(Bd,Bg),(Gf,Hd),(Ef,Hd)] ∧ d_laws_FnExactMirrored_J2 fu Aa Aj At Aq Bp = some r) ?_ ?_)
   · rintro a Sj ⟨k,m,h⟩
     unfold d_laws_FnExactMirrored_J2 at h
     refine wr (pN 1 k z fun a k=>nn (wr (sv k z (r_ldB ta74 m 3 Be 0 k z z z z z z) fun a k=>pN 1 k z fun a k=>?_)))
     have Kk:ow _ (Gf ++ (Ef)) [Aw,Av] (Bp:Plan):=⟨_,_,_,_,z,z,(Enc.ow_agr Bv (m.a 6 z)),(Enc.ow_agr Cc (m.a 7 z)),by simpa [fps] using (m.sel [6,7] z (by decide)).nd⟩
     have m:=m.sel [6,7,0,1,2,3,4,5] z (by decide)
     have m:=m.join2
     refine oE h fun Bs Iq h=>s_call k call47 z z z z z (c_laws_markPlan fu _ _ Kk Iq) fun Ud Fx hR=>?_
     obtain ⟨Tl,rfl,e,Ou,Dt⟩:=hR
     refine ⟨_,z,fun a k=>?_⟩
     have m:=m.mut 0 z e _ (fun b hb=>⟨Ou b hb,Enc.rd_lt (Enc.ow_rd Dt) b hb⟩) (Enc.ow_nd Dt)
     obtain ⟨Lx,Iu,Ot,Nu,Gh,rfl,Gx,Hg,_⟩:=Dt
     have m:=m.toFront 0 z
     have m:=m.split2
     have Og:Aw = Lx:=by have:=congrArg (fun l:List Value=>l[0]?) Gh; simpa using this
     subst Og
     have Nh:Av = Ot:=by have:=congrArg (fun l:List Value=>l[1]?) Gh; simpa using this
     subst Nh
     refine pN 1 k z fun a k=>nn (wr (pN 1 k z fun a k=>nn (wr (sv k z (r_ldB ta74 m 5 Be 0 k z z z z z z) fun a k=>pN 1 k z fun a k=>oE h fun Ux Oo h=>cE k m call48 z z z (c_laws_heldPlan fu _ _ (show rd _ _ [Aw,Av] (Bs.2:Plan) from ⟨_,_,_,_,z,z,(Enc.rd_agr (Enc.ow_rd Gx) (m.a 0 z)),(Enc.rd_agr (Enc.ow_rd Hg) (m.a 1 z))⟩) Oo) fun Rz e a k m=>pN 1 k z fun a k=>nn (wp_seq (wr (pN 2 k z fun a k=>nn (cI h k z (fun Pz h=>?_) fun Pz h=>?_))))))))
     · refine wr (pN 1 k z fun a k=>nn (wp_ret (rt_then ?_)))
       refine fS h k m z z
     refine wp_skip (nm_then ?_)
     refine wp_seq (wr (pN 3 k z fun a k=>nn (cI h k z (fun Li h=>?_) fun Li h=>?_)))
     · refine wr (pN 1 k z fun a k=>nn (wp_ret (rt_then ?_)))
       refine fS h k m z z
     refine wp_skip (nm_then ?_)
     refine c_cut (fun a w=>∃ (Bq:List Carton) (Cd:Value) (Ch:List Nat) (Dc:World) (Cb:List Spot) (By:Value) (Ds:List Nat) (Dp:World) (Bz:Nat) (Eb:World),K 92 [(6,.pointer (some (⟨Au,0,none⟩:Addr))),(9,.pointer (some (⟨Bt,0,none⟩:Addr))),(11,I Bs.1),(13,.pointer (some (⟨Bz,0,none⟩:Addr)))] a ∧ St [] w0 w [([Au],Bj),([Bt],Hr),(Bc,Bh),(Bd,Bg),(Iu,Fx),(Nu,Fx),(Ch,Dc),(Ds,Dp),([Bz],Eb)] ∧ ow Dc Ch [Cd] Bq ∧ ow Dp Ds [By] Cb ∧ bx Eb Bz [Cd,By] 74 ∧ d_laws_FnExactMirrored_J1 fu At Aq Bs Bq Cb = some r) ?_ ?_
     · rintro a Qy ⟨Bq,Cd,Ch,Dc,Cb,By,Ds,Dp,Bz,Eb,k,m,Lw,Py,Ja,h⟩
       unfold d_laws_FnExactMirrored_J1 at h
       refine wp_seq (wr (sv k z (r_ldB ta74 m 8 Ja 0 k z z z z z z) fun a k=>sv k z (r_ldB ta74 m 0 Df 0 k z z z z z z) fun a k=>oE h fun Vb Kc h=>cE k m call42 z z z (c_laws_eqPlan fu _ _ (show rd _ _ [Cd,By] ((⟨Bq,Cb⟩:Plan):Plan) from ⟨_,_,_,_,z,z,(Enc.rd_agr (Enc.ow_rd Lw) (m.a 6 z)),(Enc.rd_agr (Enc.ow_rd Py) (m.a 7 z))⟩) (show rd _ _ [Ax,Ay] ((⟨At,Aq⟩:Plan):Plan) from ⟨_,_,_,_,z,z,(Enc.rd_agr (Enc.ow_rd Cm) (m.a 2 z)),(Enc.rd_agr (Enc.ow_rd Cy) (m.a 3 z))⟩) Kc) fun Rn e a k m=>pN 1 k z fun a k=>nn (cI h k z (fun Jj h=>?_) fun Jj h=>?_)))
       · refine wr (pN 1 k z fun a k=>nn (wp_ret (rt_then ?_)))
         refine fS h k m z z
       refine wp_skip (nm_then ?_)
       refine wr (pN 1 k z fun a k=>nn (wr (sv k z (r_ldB ta74 m 1 Be 0 k z z z z z z) fun a k=>pN 1 k z fun a k=>oE h fun Tt Md h=>cE k m call48 z z z (c_laws_heldPlan fu _ _ (show rd _ _ [Aw,Av] (Bs.2:Plan) from ⟨_,_,_,_,z,z,(Enc.rd_agr (Enc.ow_rd Gx) (m.a 4 z)),(Enc.rd_agr (Enc.ow_rd Hg) (m.a 5 z))⟩) Md) fun Ua e a k m=>pN 1 k z fun a k=>nn (wp_seq (wr (pN 2 k z fun a k=>nn (cI h k z (fun Jq h=>?_) fun Jq h=>?_)))))))
       · refine wr (pN 1 k z fun a k=>nn (wp_ret (rt_then ?_)))
         refine fS h k m z z
       refine wp_skip (nm_then ?_)
       refine wp_seq (wr (pN 3 k z fun a k=>nn (cI h k z (fun Nf h=>?_) fun Nf h=>?_)))
       · refine wr (pN 1 k z fun a k=>nn (wp_ret (rt_then ?_)))
         refine fS h k m z z
       refine wp_skip (nm_then ?_)
       refine wr (pN 1 k z fun a k=>nn (wp_ret (fS h k m z z)))
     refine d_go [] mixo m z fun Pv hMd=>?_
     have m:=hMd
     have s:=Ext.refl ([]:List Nat) Pv
     refine dt k 0 z (by kernel_rfl) z s (fun _ _ _=>id) (fun w s=>r_ldA ta52 (Bb.at ((hMd.step s).a 2 z) 0 10 z z z) z k z z) fun a k=>dt k 2 z (by kernel_rfl) z s (fun _ _ _=>id) (fun w s=>r_ldA ta69 (Bm.at ((hMd.step s).a 3 z) 0 2 z z z) z k z z) fun a k=>d_two 1 5 (by kernel_rfl) z z ?_ ?_ 
     · refine oE h fun Ac Jz h=>s_call k call26 z z z z z (c_laws_toRequest fu _ (show rd _ _ [I Aa.fWay,I Aa.fPallet.fW,I Aa.fPallet.fD,I Aa.fPallet.fH,I Aa.fPallet.fGram,I Aa.fClasses,v9,Ap,I Aa.fMaster,Am] (Aa:Request) from ⟨_,_,_,_,_,_,z,z,(Enc.rd_agr Ah (m.a00 (Enc.rd_lt Ah))),(Enc.rd_agr Ag (m.a00 (Enc.rd_lt Ag))),(Enc.rd_agr Ai (m.a00 (Enc.rd_lt Ai)))⟩) Jz) fun Sk Wr hR=>?_
       obtain ⟨Te,Ih,rfl,e,Du,Ev⟩:=hR
       refine ⟨_,z,fun a k=>?_⟩
       have m:=m.new e Ih (fun b hb=>⟨Ev b hb,Enc.rd_lt (Enc.ow_rd Du) b hb⟩) (Enc.ow_nd Du)
       have Vc:=fun (y:Nat) (hy:y ∈ Ih)=>Nat.le_trans s.size (Ev y hy)
       obtain ⟨Cf,Uc,Dm,Uo,Dk,Tg,rfl,rfl,Dj,Ea,Cz,_⟩:=Du
       have m:=m.split2
       have m:=m.split2at1
       have s:=s.trans e (by simp)
       refine wpList_nil ⟨s,?_⟩
       refine d_two 3 5 (by kernel_rfl) z z ?_ ?_ 
       · refine oE h fun Ej Ms h=>s_call k call40 z z z z z (c_laws_toPlan fu _ (show rd _ _ [Ak,Al] (Aj:Plan) from ⟨_,_,_,_,z,z,(Enc.rd_agr Af (m.a00 (Enc.rd_lt Af))),(Enc.rd_agr Ae (m.a00 (Enc.rd_lt Ae)))⟩) Ms) fun Uw Se hR=>?_
         obtain ⟨Tv,Id,rfl,e,Ci,Gg⟩:=hR
         refine ⟨_,z,fun a k=>?_⟩
         have m:=m.new e Id (fun b hb=>⟨Gg b hb,Enc.rd_lt (Enc.ow_rd Ci) b hb⟩) (Enc.ow_nd Ci)
         have Vd:=fun (y:Nat) (hy:y ∈ Id)=>Nat.le_trans s.size (Gg y hy)
         obtain ⟨Ei,Qn,Fg,To,rfl,rfl,Ff,Ga,_⟩:=Ci
         have m:=m.split2
         have s:=s.trans e (by simp)
         refine wpList_nil ⟨s,?_⟩
         refine d_two 4 5 (by kernel_rfl) z z ?_ ?_ 
         · refine oE h fun Es Km h=>s_call k call50 z z z z z (c_impl_Mirrored fu _ _ (show rd _ _ [I Ac.fWay,I Ac.fPallet.fW,I Ac.fPallet.fD,I Ac.fPallet.fH,I Ac.fPallet.fGram,I Ac.fClasses,Cf,Dm,I Ac.fMaster,Dk] (Ac:Request) from ⟨_,_,_,_,_,_,z,z,(Enc.rd_agr (Enc.ow_rd Dj) (m.a 2 z)),(Enc.rd_agr (Enc.ow_rd Ea) (m.a 3 z)),(Enc.rd_agr (Enc.ow_rd Cz) (m.a 4 z))⟩) (show rd _ _ [Ei,Fg] (Ej:Plan) from ⟨_,_,_,_,z,z,(Enc.rd_agr (Enc.ow_rd Ff) (m.a 0 z)),(Enc.rd_agr (Enc.ow_rd Ga) (m.a 1 z))⟩) Km) fun Up Hl hR=>?_
           obtain ⟨Wo,Ij,rfl,e,Di,Hy⟩:=hR
           refine ⟨_,z,fun a k=>?_⟩
           have m:=m.new e Ij (fun b hb=>⟨Hy b hb,Enc.rd_lt (Enc.ow_rd Di) b hb⟩) (Enc.ow_nd Di)
           have Wn:=fun (y:Nat) (hy:y ∈ Ij)=>Nat.le_trans s.size (Hy y hy)
           obtain ⟨Gz,Mw,Gt,Lu,rfl,rfl,Hn,Ep,_⟩:=Di
           have m:=m.split2
           have s:=s.trans e (by simp)
           refine wpList_nil ⟨s,?_⟩
           refine d_one 5 (by kernel_rfl) z (s_allocN (cs:=[.slice none 0 0,.slice none 0 0]) m k zeroValue74 z z z z z fun Oh Sl a k m e Le Ny=>?_)
           have Nd:=lo1 (Nat.le_trans s.size Ny)
           have s:=s.trans e (by simp)
           refine wpList_nil ⟨s,?_⟩
           refine d_one 6 (by kernel_rfl) z (s_stb (cs':=[Gz,Gt]) sizeOf74 m 0 Le 0 k z z z z z z z z z z (allc (rd_o (Enc.ow_rd Hn)) (allc (rd_o (Enc.ow_rd Ep)) alln)) fun Nr a k e m Jr=>?_)
           have s:=s.trans e (fun y hy=>Or.inr (Nd y hy))
           refine wpList_nil ⟨s,?_⟩
           refine d_done (by kernel_rfl) ((nm_then ?_))
           exact ⟨Es.fCartons,Gz,Mw,Hl,Es.fSpots,Gt,Lu,Hl,Oh,Nr,k.keep [6,9,11,13] z,m.sel [12,13,14,15,8,9,1,2,0] z (by decide),Hn,Ep,Jr,h⟩
         refine s_allocN (cs:=[.slice none 0 0,.slice none 0 0]) m k zeroValue74 z z z z z fun Mt Rl a k m e Iv Iy=>?_
         have Qd:=lo1 (Nat.le_trans s.size Iy)
         have s:=s.trans e (by simp)
         refine wpList_nil ⟨s,?_⟩
         refine d_one 4 (by kernel_rfl) z (oE h fun Hu My h=>s_call k call50 z z z z z (c_impl_Mirrored fu _ _ (show rd _ _ [I Ac.fWay,I Ac.fPallet.fW,I Ac.fPallet.fD,I Ac.fPallet.fH,I Ac.fPallet.fGram,I Ac.fClasses,Cf,Dm,I Ac.fMaster,Dk] (Ac:Request) from ⟨_,_,_,_,_,_,z,z,(Enc.rd_agr (Enc.ow_rd Dj) (m.a 3 z)),(Enc.rd_agr (Enc.ow_rd Ea) (m.a 4 z)),(Enc.rd_agr (Enc.ow_rd Cz) (m.a 5 z))⟩) (show rd _ _ [Ei,Fg] (Ej:Plan) from ⟨_,_,_,_,z,z,(Enc.rd_agr (Enc.ow_rd Ff) (m.a 1 z)),(Enc.rd_agr (Enc.ow_rd Ga) (m.a 2 z))⟩) My) fun Rj Ec hR=>?_)
         obtain ⟨Vh,Fo,rfl,e,Dx,Em⟩:=hR
         refine ⟨_,z,fun a k=>?_⟩
         have m:=m.new e Fo (fun b hb=>⟨Em b hb,Enc.rd_lt (Enc.ow_rd Dx) b hb⟩) (Enc.ow_nd Dx)
         have Rw:=fun (y:Nat) (hy:y ∈ Fo)=>Nat.le_trans s.size (Em y hy)
         obtain ⟨Ee,Lc,Ek,Jx,rfl,rfl,Ib,Fe,_⟩:=Dx
         have m:=m.split2
         have s:=s.trans e (by simp)
         refine wpList_nil ⟨s,?_⟩
         refine d_one 6 (by kernel_rfl) z (s_stb (cs':=[Ee,Ek]) sizeOf74 m 2 Iv 0 k z z z z z z z z z z (allc (rd_o (Enc.ow_rd Ib)) (allc (rd_o (Enc.ow_rd Fe)) alln)) fun Mb a k e m Kl=>?_)
         have s:=s.trans e (fun y hy=>Or.inr (Qd y hy))
         refine wpList_nil ⟨s,?_⟩
         refine d_done (by kernel_rfl) ((nm_then ?_))
         exact ⟨Hu.fCartons,Ee,Lc,Ec,Hu.fSpots,Ek,Jx,Ec,Mt,Mb,k.keep [6,9,11,13] z,m.sel [12,13,14,15,8,9,0,1,2] z (by decide),Ib,Fe,Kl,h⟩
       refine s_allocN (cs:=[.slice none 0 0,.slice none 0 0]) m k zeroValue74 z z z z z fun Pa Ri a k m e Mn Ml=>?_
       have Ki:=lo1 (Nat.le_trans s.size Ml)
       have s:=s.trans e (by simp)
       refine wpList_nil ⟨s,?_⟩
       refine d_one 3 (by kernel_rfl) z (oE h fun Je Jh h=>s_call k call40 z z z z z (c_laws_toPlan fu _ (show rd _ _ [Ak,Al] (Aj:Plan) from ⟨_,_,_,_,z,z,(Enc.rd_agr Af (m.a00 (Enc.rd_lt Af))),(Enc.rd_agr Ae (m.a00 (Enc.rd_lt Ae)))⟩) Jh) fun Sf Vf hR=>?_)
       obtain ⟨Qu,Fa,rfl,e,Dw,Hi⟩:=hR
       refine ⟨_,z,fun a k=>?_⟩
       have m:=m.new e Fa (fun b hb=>⟨Hi b hb,Enc.rd_lt (Enc.ow_rd Dw) b hb⟩) (Enc.ow_nd Dw)
       have Vw:=fun (y:Nat) (hy:y ∈ Fa)=>Nat.le_trans s.size (Hi y hy)
       obtain ⟨Ju,Rq,Mh,Wk,rfl,rfl,Pj,Kg,_⟩:=Dw
       have m:=m.split2
       have s:=s.trans e (by simp)
       refine wpList_nil ⟨s,?_⟩
       refine d_one 4 (by kernel_rfl) z (oE h fun Ge Oy h=>s_call k call50 z z z z z (c_impl_Mirrored fu _ _ (show rd _ _ [I Ac.fWay,I Ac.fPallet.fW,I Ac.fPallet.fD,I Ac.fPallet.fH,I Ac.fPallet.fGram,I Ac.fClasses,Cf,Dm,I Ac.fMaster,Dk] (Ac:Request) from ⟨_,_,_,_,_,_,z,z,(Enc.rd_agr (Enc.ow_rd Dj) (m.a 3 z)),(Enc.rd_agr (Enc.ow_rd Ea) (m.a 4 z)),(Enc.rd_agr (Enc.ow_rd Cz) (m.a 5 z))⟩) (show rd _ _ [Ju,Mh] (Je:Plan) from ⟨_,_,_,_,z,z,(Enc.rd_agr (Enc.ow_rd Pj) (m.a 0 z)),(Enc.rd_agr (Enc.ow_rd Kg) (m.a 1 z))⟩) Oy) fun Tq Eo hR=>?_)
       obtain ⟨Su,Gr,rfl,e,Cv,Ii⟩:=hR
       refine ⟨_,z,fun a k=>?_⟩
       have m:=m.new e Gr (fun b hb=>⟨Ii b hb,Enc.rd_lt (Enc.ow_rd Cv) b hb⟩) (Enc.ow_nd Cv)
       have Tj:=fun (y:Nat) (hy:y ∈ Gr)=>Nat.le_trans s.size (Ii y hy)
       obtain ⟨Fc,Qb,Gm,Pr,rfl,rfl,Fd,Ic,_⟩:=Cv
       have m:=m.split2
       have s:=s.trans e (by simp)
       refine wpList_nil ⟨s,?_⟩
       refine d_one 6 (by kernel_rfl) z (s_stb (cs':=[Fc,Gm]) sizeOf74 m 4 Mn 0 k z z z z z z z z z z (allc (rd_o (Enc.ow_rd Fd)) (allc (rd_o (Enc.ow_rd Ic)) alln)) fun Kf a k e m Lo=>?_)
       have s:=s.trans e (fun y hy=>Or.inr (Ki y hy))
       refine wpList_nil ⟨s,?_⟩
       refine d_done (by kernel_rfl) ((nm_then ?_))
       exact ⟨Ge.fCartons,Fc,Qb,Eo,Ge.fSpots,Gm,Pr,Eo,Pa,Kf,k.keep [6,9,11,13] z,m.sel [12,13,14,15,8,9,0,1,4] z (by decide),Fd,Ic,Lo,h⟩
     refine s_allocN (cs:=[.slice none 0 0,.slice none 0 0]) m k zeroValue74 z z z z z fun Ni Ra a k m e Nn Pc=>?_
     have Jl:=lo1 (Nat.le_trans s.size Pc)
     have s:=s.trans e (by simp)
     refine wpList_nil ⟨s,?_⟩
     refine d_one 1 (by kernel_rfl) z (oE h fun As Qg h=>s_call k call26 z z z z z (c_laws_toRequest fu _ (show rd _ _ [I Aa.fWay,I Aa.fPallet.fW,I Aa.fPallet.fD,I Aa.fPallet.fH,I Aa.fPallet.fGram,I Aa.fClasses,v9,Ap,I Aa.fMaster,Am] (Aa:Request) from ⟨_,_,_,_,_,_,z,z,(Enc.rd_agr Ah (m.a00 (Enc.rd_lt Ah))),(Enc.rd_agr Ag (m.a00 (Enc.rd_lt Ag))),(Enc.rd_agr Ai (m.a00 (Enc.rd_lt Ai)))⟩) Qg) fun Tr Qr hR=>?_)
     obtain ⟨Sv,Hk,rfl,e,Cx,Fs⟩:=hR
     refine ⟨_,z,fun a k=>?_⟩
     have m:=m.new e Hk (fun b hb=>⟨Fs b hb,Enc.rd_lt (Enc.ow_rd Cx) b hb⟩) (Enc.ow_nd Cx)
     have Vl:=fun (y:Nat) (hy:y ∈ Hk)=>Nat.le_trans s.size (Fs y hy)
     obtain ⟨Pb,Us,Mx,Sx,Qa,Wd,rfl,rfl,Nl,No,Lm,_⟩:=Cx
     have m:=m.split2
     have m:=m.split2at1
     have s:=s.trans e (by simp)
     refine wpList_nil ⟨s,?_⟩
     refine d_one 3 (by kernel_rfl) z (oE h fun Od Ji h=>s_call k call40 z z z z z (c_laws_toPlan fu _ (show rd _ _ [Ak,Al] (Aj:Plan) from ⟨_,_,_,_,z,z,(Enc.rd_agr Af (m.a00 (Enc.rd_lt Af))),(Enc.rd_agr Ae (m.a00 (Enc.rd_lt Ae)))⟩) Ji) fun Sb Sn hR=>?_)
     obtain ⟨So,Fq,rfl,e,Dq,Hx⟩:=hR
     refine ⟨_,z,fun a k=>?_⟩
     have m:=m.new e Fq (fun b hb=>⟨Hx b hb,Enc.rd_lt (Enc.ow_rd Dq) b hb⟩) (Enc.ow_nd Dq)
     have Qw:=fun (y:Nat) (hy:y ∈ Fq)=>Nat.le_trans s.size (Hx y hy)
     obtain ⟨Ps,Wm,Oa,Sa,rfl,rfl,Np,Lh,_⟩:=Dq
     have m:=m.split2
     have s:=s.trans e (by simp)
     refine wpList_nil ⟨s,?_⟩
     refine d_one 4 (by kernel_rfl) z (oE h fun Ig Ko h=>s_call k call50 z z z z z (c_impl_Mirrored fu _ _ (show rd _ _ [I As.fWay,I As.fPallet.fW,I As.fPallet.fD,I As.fPallet.fH,I As.fPallet.fGram,I As.fClasses,Pb,Mx,I As.fMaster,Qa] (As:Request) from ⟨_,_,_,_,_,_,z,z,(Enc.rd_agr (Enc.ow_rd Nl) (m.a 2 z)),(Enc.rd_agr (Enc.ow_rd No) (m.a 3 z)),(Enc.rd_agr (Enc.ow_rd Lm) (m.a 4 z))⟩) (show rd _ _ [Ps,Oa] (Od:Plan) from ⟨_,_,_,_,z,z,(Enc.rd_agr (Enc.ow_rd Np) (m.a 0 z)),(Enc.rd_agr (Enc.ow_rd Lh) (m.a 1 z))⟩) Ko) fun Uv Hf hR=>?_)
     obtain ⟨Uh,Hc,rfl,e,Da,Gi⟩:=hR
     refine ⟨_,z,fun a k=>?_⟩
     have m:=m.new e Hc (fun b hb=>⟨Gi b hb,Enc.rd_lt (Enc.ow_rd Da) b hb⟩) (Enc.ow_nd Da)
     have Wb:=fun (y:Nat) (hy:y ∈ Hc)=>Nat.le_trans s.size (Gi y hy)
     obtain ⟨Hp,Iz,Hm,Nm,rfl,rfl,Fb,Fh,_⟩:=Da
     have m:=m.split2
     have s:=s.trans e (by simp)
     refine wpList_nil ⟨s,?_⟩
     refine d_one 6 (by kernel_rfl) z (s_stb (cs':=[Hp,Hm]) sizeOf74 m 7 Nn 0 k z z z z z z z z z z (allc (rd_o (Enc.ow_rd Fb)) (allc (rd_o (Enc.ow_rd Fh)) alln)) fun Jy a k e m In=>?_)
     have s:=s.trans e (fun y hy=>Or.inr (Jl y hy))
     refine wpList_nil ⟨s,?_⟩
     refine d_done (by kernel_rfl) ((nm_then ?_))
     exact ⟨Ig.fCartons,Hp,Iz,Hf,Ig.fSpots,Hm,Nm,Hf,Ni,Jy,k.keep [6,9,11,13] z,m.sel [12,13,14,15,8,9,0,1,7] z (by decide),Fb,Fh,In,h⟩
   refine wr (pN 3 k z fun a k=>bsplit (decide (Nc.1 < 0)) (fun Bk=>?_) (fun Bk=>?_))
   · have h:=bif_t Bk h
     refine rB k 58 z Bk fun k=>pN 5 k z fun a k=>nn (wp_cond_true (k.ev z) (wr (pN 1 k z fun a k=>?_)))
     have k:=k.keep [4] z
     refine nn (wp_ret (rt_then ?_))
     refine fS h k m z z
   have h:=bif_f Bk h
   refine rB k 58 z Bk fun k=>sv k z (r_ldB ta74 m 10 Be 0 k z z z z z z) fun a k=>sv k z (r_ldB ta74 m 19 Df 0 k z z z z z z) fun a k=>oE h fun Qx Pq h=>cE k m call42 z z z (c_laws_eqPlan fu _ _ (show rd _ _ [Aw,Av] (Bp:Plan) from ⟨_,_,_,_,z,z,(Enc.rd_agr (Enc.ow_rd Bv) (m.a 11 z)),(Enc.rd_agr (Enc.ow_rd Cc) (m.a 12 z))⟩) (show rd _ _ [Ax,Ay] ((⟨At,Aq⟩:Plan):Plan) from ⟨_,_,_,_,z,z,(Enc.rd_agr (Enc.ow_rd Cm) (m.a 17 z)),(Enc.rd_agr (Enc.ow_rd Cy) (m.a 18 z))⟩) Pq) fun Wc e a k m=>pN 2 k z fun a k=>nn (cI h k z (fun Oe h=>?_) fun Oe h=>?_)
   · refine wr (pN 1 k z fun a k=>?_)
     have k:=k.keep [4] z
     refine nn (wp_ret (rt_then ?_))
     refine fS h k m z z
   refine wp_skip (nm_then ?_)
   exact ⟨k.keep [2,3,6,9] z,m.sel [15,16,19,10,17,18,11,12] z (by decide),h⟩
 refine d_go [] mixo m z fun Lq hMd=>?_
 have m:=hMd
 have s:=Ext.refl ([]:List Nat) Lq
 refine dt k 0 z (by kernel_rfl) z s (fun _ _ _=>id) (fun w s=>r_ldA ta52 (Bb.at ((hMd.step s).a 1 z) 0 10 z z z) z k z z) fun a k=>dt k 2 z (by kernel_rfl) z s (fun _ _ _=>id) (fun w s=>r_ldA ta69 (Bm.at ((hMd.step s).a 0 z) 0 2 z z z) z k z z) fun a k=>d_two 1 5 (by kernel_rfl) z z ?_ ?_ 
 · refine oE h fun Ad Jw h=>s_call k call26 z z z z z (c_laws_toRequest fu _ (show rd _ _ [I Aa.fWay,I Aa.fPallet.fW,I Aa.fPallet.fD,I Aa.fPallet.fH,I Aa.fPallet.fGram,I Aa.fClasses,v9,Ap,I Aa.fMaster,Am] (Aa:Request) from ⟨_,_,_,_,_,_,z,z,(Enc.rd_agr Ah (m.a00 (Enc.rd_lt Ah))),(Enc.rd_agr Ag (m.a00 (Enc.rd_lt Ag))),(Enc.rd_agr Ai (m.a00 (Enc.rd_lt Ai)))⟩) Jw) fun Qs Rg hR=>?_
   obtain ⟨Rs,Ft,rfl,e,Do,Hw⟩:=hR
   refine ⟨_,z,fun a k=>?_⟩
   have m:=m.new e Ft (fun b hb=>⟨Hw b hb,Enc.rd_lt (Enc.ow_rd Do) b hb⟩) (Enc.ow_nd Do)
   have Vu:=fun (y:Nat) (hy:y ∈ Ft)=>Nat.le_trans s.size (Hw y hy)
   obtain ⟨Cn,Sd,Cw,Tu,Dn,Ub,rfl,rfl,Ck,Co,Dy,_⟩:=Do
   have m:=m.split2
   have m:=m.split2at1
   have s:=s.trans e (by simp)
   refine wpList_nil ⟨s,?_⟩
   refine d_two 3 5 (by kernel_rfl) z z ?_ ?_ 
   · refine oE h fun Fj Nv h=>s_call k call40 z z z z z (c_laws_toPlan fu _ (show rd _ _ [Ak,Al] (Aj:Plan) from ⟨_,_,_,_,z,z,(Enc.rd_agr Af (m.a00 (Enc.rd_lt Af))),(Enc.rd_agr Ae (m.a00 (Enc.rd_lt Ae)))⟩) Nv) fun Wu Qq hR=>?_
     obtain ⟨Rk,Et,rfl,e,Dh,Ha⟩:=hR
     refine ⟨_,z,fun a k=>?_⟩
     have m:=m.new e Et (fun b hb=>⟨Ha b hb,Enc.rd_lt (Enc.ow_rd Dh) b hb⟩) (Enc.ow_nd Dh)
     have Tp:=fun (y:Nat) (hy:y ∈ Et)=>Nat.le_trans s.size (Ha y hy)
     obtain ⟨If,Uq,Fl,Vi,rfl,rfl,Eg,Gv,_⟩:=Dh
     have m:=m.split2
     have s:=s.trans e (by simp)
     refine wpList_nil ⟨s,?_⟩
     refine d_two 4 5 (by kernel_rfl) z z ?_ ?_ 
     · refine oE h fun Fy Pf h=>s_call k call49 z z z z z (c_spec_Mirrored fu _ _ (show rd _ _ [I Ad.fWay,I Ad.fPallet.fW,I Ad.fPallet.fD,I Ad.fPallet.fH,I Ad.fPallet.fGram,I Ad.fClasses,Cn,Cw,I Ad.fMaster,Dn] (Ad:Request) from ⟨_,_,_,_,_,_,z,z,(Enc.rd_agr (Enc.ow_rd Ck) (m.a 2 z)),(Enc.rd_agr (Enc.ow_rd Co) (m.a 3 z)),(Enc.rd_agr (Enc.ow_rd Dy) (m.a 4 z))⟩) (show rd _ _ [If,Fl] (Fj:Plan) from ⟨_,_,_,_,z,z,(Enc.rd_agr (Enc.ow_rd Eg) (m.a 0 z)),(Enc.rd_agr (Enc.ow_rd Gv) (m.a 1 z))⟩) Pf) fun Sr Il hR=>?_
       obtain ⟨Qp,Ew,rfl,e,De,Gp⟩:=hR
       refine ⟨_,z,fun a k=>?_⟩
       have m:=m.new e Ew (fun b hb=>⟨Gp b hb,Enc.rd_lt (Enc.ow_rd De) b hb⟩) (Enc.ow_nd De)
       have Rv:=fun (y:Nat) (hy:y ∈ Ew)=>Nat.le_trans s.size (Gp y hy)
       obtain ⟨Fr,Pk,Eu,Nz,rfl,rfl,Fk,Ht,_⟩:=De
       have m:=m.split2
       have s:=s.trans e (by simp)
       refine wpList_nil ⟨s,?_⟩
       refine d_one 5 (by kernel_rfl) z (s_allocN (cs:=[.slice none 0 0,.slice none 0 0]) m k zeroValue74 z z z z z fun Io Tz a k m e Ns Mz=>?_)
       have Ky:=lo1 (Nat.le_trans s.size Mz)
       have s:=s.trans e (by simp)
       refine wpList_nil ⟨s,?_⟩
       refine d_one 6 (by kernel_rfl) z (s_stb (cs':=[Fr,Eu]) sizeOf74 m 0 Ns 0 k z z z z z z z z z z (allc (rd_o (Enc.ow_rd Fk)) (allc (rd_o (Enc.ow_rd Ht)) alln)) fun Kh a k e m Jm=>?_)
       have s:=s.trans e (fun y hy=>Or.inr (Ky y hy))
       refine wpList_nil ⟨s,?_⟩
       refine d_done (by kernel_rfl) ((nm_then ?_))
       exact ⟨Fy.fCartons,Fr,Pk,Il,Fy.fSpots,Eu,Nz,Il,Io,Kh,k.keep [2,3,6] z,m.sel [9,8,1,2,0] z (by decide),Fk,Ht,Jm,h⟩
     refine s_allocN (cs:=[.slice none 0 0,.slice none 0 0]) m k zeroValue74 z z z z z fun Ov Wg a k m e Jd Mu=>?_
     have Ld:=lo1 (Nat.le_trans s.size Mu)
     have s:=s.trans e (by simp)
     refine wpList_nil ⟨s,?_⟩
     refine d_one 4 (by kernel_rfl) z (oE h fun Ie Ir h=>s_call k call49 z z z z z (c_spec_Mirrored fu _ _ (show rd _ _ [I Ad.fWay,I Ad.fPallet.fW,I Ad.fPallet.fD,I Ad.fPallet.fH,I Ad.fPallet.fGram,I Ad.fClasses,Cn,Cw,I Ad.fMaster,Dn] (Ad:Request) from ⟨_,_,_,_,_,_,z,z,(Enc.rd_agr (Enc.ow_rd Ck) (m.a 3 z)),(Enc.rd_agr (Enc.ow_rd Co) (m.a 4 z)),(Enc.rd_agr (Enc.ow_rd Dy) (m.a 5 z))⟩) (show rd _ _ [If,Fl] (Fj:Plan) from ⟨_,_,_,_,z,z,(Enc.rd_agr (Enc.ow_rd Eg) (m.a 1 z)),(Enc.rd_agr (Enc.ow_rd Gv) (m.a 2 z))⟩) Ir) fun Vk Fv hR=>?_)
     obtain ⟨Vz,Fz,rfl,e,Cg,Im⟩:=hR
     refine ⟨_,z,fun a k=>?_⟩
     have m:=m.new e Fz (fun b hb=>⟨Im b hb,Enc.rd_lt (Enc.ow_rd Cg) b hb⟩) (Enc.ow_nd Cg)
     have Vq:=fun (y:Nat) (hy:y ∈ Fz)=>Nat.le_trans s.size (Im y hy)
     obtain ⟨Ia,Mc,Hh,Ke,rfl,rfl,Hv,Gw,_⟩:=Cg
     have m:=m.split2
     have s:=s.trans e (by simp)
     refine wpList_nil ⟨s,?_⟩
     refine d_one 6 (by kernel_rfl) z (s_stb (cs':=[Ia,Hh]) sizeOf74 m 2 Jd 0 k z z z z z z z z z z (allc (rd_o (Enc.ow_rd Hv)) (allc (rd_o (Enc.ow_rd Gw)) alln)) fun Jf a k e m Nt=>?_)
     have s:=s.trans e (fun y hy=>Or.inr (Ld y hy))
     refine wpList_nil ⟨s,?_⟩
     refine d_done (by kernel_rfl) ((nm_then ?_))
     exact ⟨Ie.fCartons,Ia,Mc,Fv,Ie.fSpots,Hh,Ke,Fv,Ov,Jf,k.keep [2,3,6] z,m.sel [9,8,0,1,2] z (by decide),Hv,Gw,Nt,h⟩
   refine s_allocN (cs:=[.slice none 0 0,.slice none 0 0]) m k zeroValue74 z z z z z fun Oz Rd a k m e Jt Nw=>?_
   have Jb:=lo1 (Nat.le_trans s.size Nw)
   have s:=s.trans e (by simp)
   refine wpList_nil ⟨s,?_⟩
   refine d_one 3 (by kernel_rfl) z (oE h fun Nb Na h=>s_call k call40 z z z z z (c_laws_toPlan fu _ (show rd _ _ [Ak,Al] (Aj:Plan) from ⟨_,_,_,_,z,z,(Enc.rd_agr Af (m.a00 (Enc.rd_lt Af))),(Enc.rd_agr Ae (m.a00 (Enc.rd_lt Ae)))⟩) Na) fun Tn Rp hR=>?_)
   obtain ⟨Rc,Hz,rfl,e,Dv,Ho⟩:=hR
   refine ⟨_,z,fun a k=>?_⟩
   have m:=m.new e Hz (fun b hb=>⟨Ho b hb,Enc.rd_lt (Enc.ow_rd Dv) b hb⟩) (Enc.ow_nd Dv)
   have Ss:=fun (y:Nat) (hy:y ∈ Hz)=>Nat.le_trans s.size (Ho y hy)
   obtain ⟨Po,Tk,Lf,Wh,rfl,rfl,Mq,Lg,_⟩:=Dv
   have m:=m.split2
   have s:=s.trans e (by simp)
   refine wpList_nil ⟨s,?_⟩
   refine d_one 4 (by kernel_rfl) z (oE h fun Fi Ls h=>s_call k call49 z z z z z (c_spec_Mirrored fu _ _ (show rd _ _ [I Ad.fWay,I Ad.fPallet.fW,I Ad.fPallet.fD,I Ad.fPallet.fH,I Ad.fPallet.fGram,I Ad.fClasses,Cn,Cw,I Ad.fMaster,Dn] (Ad:Request) from ⟨_,_,_,_,_,_,z,z,(Enc.rd_agr (Enc.ow_rd Ck) (m.a 3 z)),(Enc.rd_agr (Enc.ow_rd Co) (m.a 4 z)),(Enc.rd_agr (Enc.ow_rd Dy) (m.a 5 z))⟩) (show rd _ _ [Po,Lf] (Nb:Plan) from ⟨_,_,_,_,z,z,(Enc.rd_agr (Enc.ow_rd Mq) (m.a 0 z)),(Enc.rd_agr (Enc.ow_rd Lg) (m.a 1 z))⟩) Ls) fun Uy Gq hR=>?_)
   obtain ⟨Ti,Gl,rfl,e,Cu,Ez⟩:=hR
   refine ⟨_,z,fun a k=>?_⟩
   have m:=m.new e Gl (fun b hb=>⟨Ez b hb,Enc.rd_lt (Enc.ow_rd Cu) b hb⟩) (Enc.ow_nd Cu)
   have Tb:=fun (y:Nat) (hy:y ∈ Gl)=>Nat.le_trans s.size (Ez y hy)
   obtain ⟨Gk,Ma,He,Lp,rfl,rfl,Gn,Gb,_⟩:=Cu
   have m:=m.split2
   have s:=s.trans e (by simp)
   refine wpList_nil ⟨s,?_⟩
   refine d_one 6 (by kernel_rfl) z (s_stb (cs':=[Gk,He]) sizeOf74 m 4 Jt 0 k z z z z z z z z z z (allc (rd_o (Enc.ow_rd Gn)) (allc (rd_o (Enc.ow_rd Gb)) alln)) fun Pu a k e m Ll=>?_)
   have s:=s.trans e (fun y hy=>Or.inr (Jb y hy))
   refine wpList_nil ⟨s,?_⟩
   refine d_done (by kernel_rfl) ((nm_then ?_))
   exact ⟨Fi.fCartons,Gk,Ma,Gq,Fi.fSpots,He,Lp,Gq,Oz,Pu,k.keep [2,3,6] z,m.sel [9,8,0,1,4] z (by decide),Gn,Gb,Ll,h⟩
 refine s_allocN (cs:=[.slice none 0 0,.slice none 0 0]) m k zeroValue74 z z z z z fun Ow Sw a k m e Kn Qh=>?_
 have Mj:=lo1 (Nat.le_trans s.size Qh)
 have s:=s.trans e (by simp)
 refine wpList_nil ⟨s,?_⟩
 refine d_one 1 (by kernel_rfl) z (oE h fun Ao Pi h=>s_call k call26 z z z z z (c_laws_toRequest fu _ (show rd _ _ [I Aa.fWay,I Aa.fPallet.fW,I Aa.fPallet.fD,I Aa.fPallet.fH,I Aa.fPallet.fGram,I Aa.fClasses,v9,Ap,I Aa.fMaster,Am] (Aa:Request) from ⟨_,_,_,_,_,_,z,z,(Enc.rd_agr Ah (m.a00 (Enc.rd_lt Ah))),(Enc.rd_agr Ag (m.a00 (Enc.rd_lt Ag))),(Enc.rd_agr Ai (m.a00 (Enc.rd_lt Ai)))⟩) Pi) fun Ue Ug hR=>?_)
 obtain ⟨Wp,Eh,rfl,e,Ct,Hb⟩:=hR
 refine ⟨_,z,fun a k=>?_⟩
 have m:=m.new e Eh (fun b hb=>⟨Hb b hb,Enc.rd_lt (Enc.ow_rd Ct) b hb⟩) (Enc.ow_nd Ct)
 have Un:=fun (y:Nat) (hy:y ∈ Eh)=>Nat.le_trans s.size (Hb y hy)
 obtain ⟨Mk,Uu,Ks,Tx,Kt,Ve,rfl,rfl,Iw,La,Pt,_⟩:=Ct
 have m:=m.split2
 have m:=m.split2at1
 have s:=s.trans e (by simp)
 refine wpList_nil ⟨s,?_⟩
 refine d_one 3 (by kernel_rfl) z (oE h fun Ob Pg h=>s_call k call40 z z z z z (c_laws_toPlan fu _ (show rd _ _ [Ak,Al] (Aj:Plan) from ⟨_,_,_,_,z,z,(Enc.rd_agr Af (m.a00 (Enc.rd_lt Af))),(Enc.rd_agr Ae (m.a00 (Enc.rd_lt Ae)))⟩) Pg) fun Vy Uk hR=>?_)
 obtain ⟨Ts,Fu,rfl,e,Cj,Ex⟩:=hR
 refine ⟨_,z,fun a k=>?_⟩
 have m:=m.new e Fu (fun b hb=>⟨Ex b hb,Enc.rd_lt (Enc.ow_rd Cj) b hb⟩) (Enc.ow_nd Cj)
 have Vt:=fun (y:Nat) (hy:y ∈ Fu)=>Nat.le_trans s.size (Ex y hy)
 obtain ⟨Ln,Sq,Ip,Ww,rfl,rfl,Mi,Ka,_⟩:=Cj
 have m:=m.split2
 have s:=s.trans e (by simp)
 refine wpList_nil ⟨s,?_⟩
 refine d_one 4 (by kernel_rfl) z (oE h fun Ey Nj h=>s_call k call49 z z z z z (c_spec_Mirrored fu _ _ (show rd _ _ [I Ao.fWay,I Ao.fPallet.fW,I Ao.fPallet.fD,I Ao.fPallet.fH,I Ao.fPallet.fGram,I Ao.fClasses,Mk,Ks,I Ao.fMaster,Kt] (Ao:Request) from ⟨_,_,_,_,_,_,z,z,(Enc.rd_agr (Enc.ow_rd Iw) (m.a 2 z)),(Enc.rd_agr (Enc.ow_rd La) (m.a 3 z)),(Enc.rd_agr (Enc.ow_rd Pt) (m.a 4 z))⟩) (show rd _ _ [Ln,Ip] (Ob:Plan) from ⟨_,_,_,_,z,z,(Enc.rd_agr (Enc.ow_rd Mi) (m.a 0 z)),(Enc.rd_agr (Enc.ow_rd Ka) (m.a 1 z))⟩) Nj) fun Sg Ed hR=>?_)
 obtain ⟨Sc,Fn,rfl,e,Cl,Gc⟩:=hR
 refine ⟨_,z,fun a k=>?_⟩
 have m:=m.new e Fn (fun b hb=>⟨Gc b hb,Enc.rd_lt (Enc.ow_rd Cl) b hb⟩) (Enc.ow_nd Cl)
 have Sy:=fun (y:Nat) (hy:y ∈ Fn)=>Nat.le_trans s.size (Gc y hy)
 obtain ⟨Gu,Jv,En,Kp,rfl,rfl,Gj,Hq,_⟩:=Cl
 have m:=m.split2
 have s:=s.trans e (by simp)
 refine wpList_nil ⟨s,?_⟩
 refine d_one 6 (by kernel_rfl) z (s_stb (cs':=[Gu,En]) sizeOf74 m 7 Kn 0 k z z z z z z z z z z (allc (rd_o (Enc.ow_rd Gj)) (allc (rd_o (Enc.ow_rd Hq)) alln)) fun Jn a k e m Kz=>?_)
 have s:=s.trans e (fun y hy=>Or.inr (Mj y hy))
 refine wpList_nil ⟨s,?_⟩
 refine d_done (by kernel_rfl) ((nm_then ?_))
 exact ⟨Ey.fCartons,Gu,Jv,Ed,Ey.fSpots,En,Kp,Ed,Ow,Jn,k.keep [2,3,6] z,m.sel [9,8,0,1,7] z (by decide),Gj,Hq,Kz,h⟩

end Go.Proofs.YtlmibnlfkmiikaaGreat
