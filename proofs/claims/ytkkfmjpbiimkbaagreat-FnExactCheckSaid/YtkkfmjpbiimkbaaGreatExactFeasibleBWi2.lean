/- FnExactFeasible: the walks of functions that it reaches (ExactFeasibleBWi,part 2). Printed by gen.py. -/
import Derived.Test.YtkkfmjpbiimkbaaGreatExactFeasibleBWi1
set_option maxRecDepth 20000
set_option linter.unusedSimpArgs false
set_option linter.unusedVariables false
namespace Go.Proofs.YtkkfmjpbiimkbaaGreat
open Go Go.RowKit
open Enc (rd ow)
open Arg (argv)
open Ret (retv)
open Go.Proofs.Tryz

theorem c_bits_Mul32 (fu:Nat) {w0:World} (x1:Int) (y2:Int)  {r:Int × Int}
    (h:d_bits_Mul32 fu x1 y2 = some r) :
    Calls Tryz.prog 318 #[.int .u32 (x1),.int .u32 (y2)] w0 fun e w=>e = .returned (.tuple #[.int .u32 (r.1),.int .u32 (r.2)]) ∧ Ext [] w0 w:=by
 refine enter (vs:=[_,_]) func318 z ntmps318 z fun a k=>?_
 have m:=St.start w0
 unfold d_bits_Mul32 at h
 refine wr (pN 2 k z fun a k=>nn (wr (pN 1 k z fun a k=>sv k z (r_cv k underlying242 underlying244 z z) fun a k=>pN 1 k z fun a k=>sv k z (r_cv k underlying242 underlying244 z z) fun a k=>pN 2 k z fun a k=>nn (wr (pN 1 k z fun a k=>sv k z (r_shr (y:=32) k z z z) fun a k=>sv k z (r_cv k underlying244 underlying242 z z) fun a k=>pN 1 k z fun a k=>sv k z (r_cv k underlying244 underlying242 z z) fun a k=>pN 2 k z fun a k=>nn (wp_ret ?_))))))
 cases h
 exact finR2 k z (RV.tmp k z) (RV.tmp k z) ⟨z,m.ext⟩
theorem c_bits_Mul64 (fu:Nat) {w0:World} (x1:Int) (y2:Int)  {r:Int × Int}
    (h:d_bits_Mul64 fu x1 y2 = some r) :
    Calls Tryz.prog 319 #[.int .u64 (x1),.int .u64 (y2)] w0 fun e w=>e = .returned (.tuple #[.int .u64 (r.1),.int .u64 (r.2)]) ∧ Ext [] w0 w:=by
 refine enter (vs:=[_,_]) func319 z ntmps319 z fun a k=>?_
 have m:=St.start w0
 unfold d_bits_Mul64 at h
 refine wr (pN 2 k z fun a k=>nn (wr (pN 3 k z fun a k=>nn (wr (pN 1 k z fun a k=>sv k z (r_shr (y:=32) k z z z) fun a k=>pN 1 k z fun a k=>nn (wr (pN 3 k z fun a k=>nn (wr (pN 1 k z fun a k=>sv k z (r_shr (y:=32) k z z z) fun a k=>pN 1 k z fun a k=>nn (wr (pN 4 k z fun a k=>nn (wr (pN 4 k z fun a k=>sv k z (r_shr (y:=32) k z z z) fun a k=>pN 2 k z fun a k=>?_)))))))))))))
 have k:=k.keep [0,1,6,7,9,11] z
 refine nn (wr (pN 3 k z fun a k=>nn (wr (pN 1 k z fun a k=>sv k z (r_shr (y:=32) k z z z) fun a k=>pN 1 k z fun a k=>nn (wr (pN 6 k z fun a k=>nn (wr (pN 6 k z fun a k=>sv k z (r_shr (y:=32) k z z z) fun a k=>pN 2 k z fun a k=>?_))))))))
 have k:=k.keep [0,1,4] z
 refine nn (wr (pN 4 k z fun a k=>nn (wp_ret ?_)))
 cases h
 exact finR2 k z (RV.tmp k z) (RV.tmp k z) ⟨z,m.ext⟩
theorem c_bits_Mul (fu:Nat) {w0:World} (x1:Int) (y2:Int)  {r:Int × Int}
    (h:d_bits_Mul fu x1 y2 = some r) :
    Calls Tryz.prog 288 #[.int .u64 (x1),.int .u64 (y2)] w0 fun e w=>e = .returned (.tuple #[.int .u64 (r.1),.int .u64 (r.2)]) ∧ Ext [] w0 w:=by
 refine enter (vs:=[_,_]) func288 z ntmps288 z fun a k=>?_
 have m:=St.start w0
 unfold d_bits_Mul at h
 refine wr (pN 2 k z fun a k=>nn (wp_seq (wp_cond_false (k.ev z) (wp_skip (nm_then ?_)))))
 refine wr (pN 2 k z fun a k=>oE h fun x3 Aa h=>cE k m call319 z z z (c_bits_Mul64 fu _ _  Aa) fun w6 e a k m=>pN 5 k z fun a k=>nn (wr (pN 4 k z fun a k=>nn (wp_ret ?_))))
 cases h
 exact finR2 k z (RV.tmp k z) (RV.tmp k z) ⟨z,m.ext⟩
theorem c_slices_Repeat_int_int (fu:Nat) {w0:World} (x1:List Int) (Ag:Int) {v2:Value} {F3:List Nat} (Ah:rd w0 F3 [v2] x1) {r:(List Int)}
    (h:d_slices_Repeat_int_int fu x1 Ag = some r) :
    Calls Tryz.prog 225 #[v2,I Ag] w0 fun e w=>∃ (v0:Value) (G0:List Nat),e = .returned (v0) ∧ Ext [] w0 w ∧ ow w G0 [v0] r ∧ (∀ b ∈ G0,w0.heap.size ≤ b):=by
 refine enter (vs:=[_,_]) func225 z ntmps225 z fun a k=>?_
 have m:=St.start w0
 unfold d_slices_Repeat_int_int at h
 refine wr (pN 1 k z fun a k=>nn (c_cut (fun a w=>K 48 [(0,v2),(1,I Ag)] a ∧ St [] w0 w [] ∧ d_slices_Repeat_int_int_J2 fu x1 Ag = some r) ?_ ?_))
 · rintro a w7 ⟨k,m,h⟩
   unfold d_slices_Repeat_int_int_J2 at h
   refine wr (pN 1 k z fun a k=>sv k z (r_len (α:=Int) Ah k underlying63 z z) fun a k=>sv k z (r_cv k underlying3 underlying204 z z) fun a k=>pN 1 k z fun a k=>sv k z (r_cv k underlying3 underlying204 z z) fun a k=>oE h fun x8 Bb h=>cE k m call288 z z z (c_bits_Mul fu _ _  Bb) fun Bl e a k m=>pN 5 k z fun a k=>nn (c_cut (fun a w=>K 48 [(0,v2),(6,.int .u64 (x8.2))] a ∧ St [] w0 w [] ∧ d_slices_Repeat_int_int_J1 fu x1 x8 = some r) ?_ ?_))
   · rintro a Bg ⟨k,m,h⟩
     unfold d_slices_Repeat_int_int_J1 at h
     refine wr (pN 1 k z fun a k=>sv k z (r_cv k underlying204 underlying3 z z) fun a k=>oE h fun Aj Bc h=>s_mk Bc te63 z z m k z z z z z z fun Am Bh a As k m e Ap=>pN 1 k z fun a k=>nn (wr (pN 2 k z fun a k=>s_cp (lo:=0) te63 m 0 Ap (Part.self _) (Enc.rd_agr Ah (m.a00 (Enc.rd_lt Ah))) k z z z z z z z fun Be a k e m Bd=>pN 1 k z fun a k=>nn (wp_seq (wp_block (c_loop (fun n a w=>∃ (Ac:List Int) (Af:Value) (Ab:List Nat) (Ai:World) (Aa:Int),K 48 [(7,Af),(8,I Aa)] a ∧ St [] w0 w [(Ab,Ai)] ∧ ow Ai Ab [Af] Ac ∧ d_slices_Repeat_int_int_L1 fu  n Ac Aa = some r) ?_ ?_ fu _ _ ?_))))))
     · rintro a w ⟨_,_,_,_,_,_,_,_,h⟩
       exact nS h
     · rintro Bj a Bi ⟨Ac,Af,Ab,Ai,Aa,k,m,Ad,h⟩
       rw [d_slices_Repeat_int_int_L1_s] at h
       unfold d_slices_Repeat_int_int_L1_B at h
       refine wp_seq (wr (pN 2 k z fun a k=>sv k z (r_len (α:=Int) (Enc.ow_rd Ad) k underlying63 z z) fun a k=>pN 1 k z fun a k=>nn (cI h k z (fun Az h=>?_) fun Az h=>?_)))
       · refine wp_skip (nm_then ?_)
         refine wp_block (d_go (Ab) mixo m z fun Au hMd=>?_)
         have m:=hMd
         have s:=Ext.refl ((Ab):List Nat) Au
         refine dN [0,1,2,4,5] 5 z k (by kernel_rfl) z s (fun _ _ _ _ _=>id) fun a k=>oE h fun Bf Aq h=>?_
         obtain ⟨Bk,Bn,Ay,Al⟩:=sl_from (Enc.ow_rd Ad) Aq ts63
         refine dt k 3 z (by kernel_rfl) z s (fun _ _ _=>id) (fun w s=>Al k z z z _) fun a k=>oE h fun Ak Ax h=>?_
         obtain ⟨Bm,At,Av⟩:=sl_to (Enc.ow_rd Ad) Ax ts63
         refine dt k 6 z (by kernel_rfl) z s (fun _ _ _=>id) (fun w s=>Av k z z z _) fun a k=>d_one 7 (by kernel_rfl) z (s_cp (lo:=Aa) te63 m 0 Ad Ay (Enc.rd_agr At (m.a 0 z)) k z z z z z z z fun Ar a k e m Ao=>?_)
         have s:=s.trans e (fun y hy=>Or.inl hy)
         refine wpList_nil ⟨s,?_⟩
         refine dN [8,9] 2 z k (by kernel_rfl) z s (fun _ _ _ _ _=>id) fun a k=>d_done (by kernel_rfl) ((nm_block (nm_then ?_)))
         exact ⟨cpd Ac Aa Ak,Af,Ab,Ar,w64 (Aa + (cpn Ac Aa Ak)),k.keep [7,8] z,m.sel [0] z (by decide),Ao,h⟩
       refine wp_exit (ex_then (ex_then (ex_same (nm_then ?_))))
       refine wr (pN 2 k z fun a k=>nn (wp_ret ?_))
       cases h
       exact finR1 k z (RV.tmp k z) ⟨_,Ab,z,m.ext,(Enc.ow_agr Ad (m.a 0 z)),(m.fresh 0 z)⟩
     exact ⟨cpd Aj 0 x1,As,[Am],Be,cpn Aj 0 x1,k.keep [7,8] z,m.sel [0] z (by decide),Bd,h⟩
   refine wr (pN 3 k z fun a k=>bsplit (decide (x8.1 > 0)) (fun Ae=>?_) (fun Ae=>?_))
   · have h:=bif_t Ae h
     refine rB k 23 z Ae fun k=>pN 3 k z fun a k=>nn (wp_cond_true (k.ev z) ?_)
     exact nS h
   have h:=bif_f Ae h
   refine rB k 23 z Ae fun k=>pN 3 k z fun a k=>nn (cI h k z (fun Aw h=>?_) fun Aw h=>?_)
   · exact nS h
   refine wp_skip (nm_then ?_)
   exact ⟨k.keep [0,6] z,m.sel [] z (by decide),h⟩
 refine wr (pN 2 k z fun a k=>nn (cI h k z (fun Ba h=>?_) fun Ba h=>?_))
 · exact nS h
 refine wp_skip (nm_then ?_)
 exact ⟨k.keep [0,1] z,m.sel [] z (by decide),h⟩
theorem c_impl_Units (fu:Nat) {w0:World} (r1:Request) {Aj:List Value} {F3:List Nat} (Be:rd w0 F3 Aj r1) {r:(List Int)}
    (h:d_impl_Units fu r1 = some r) :
    Calls Tryz.prog 123 #[.agg Aj.toArray] w0 fun e w=>∃ (v0:Value) (G0:List Nat),e = .returned (v0) ∧ Ext [] w0 w ∧ ow w G0 [v0] r ∧ (∀ b ∈ G0,w0.heap.size ≤ b):=by
 refine enter (vs:=[_]) func123 z ntmps123 z fun a k=>?_
 have m:=St.start w0
 obtain ⟨v5,F6,v7,F8,v9,Bq,rfl,rfl,Ai,Ap,Ab⟩:=Be
 unfold d_impl_Units at h
 refine wr (s_box (cs:=[I r1.fWay,I r1.fPallet.fW,I r1.fPallet.fD,I r1.fPallet.fH,I r1.fPallet.fGram,I r1.fClasses,v5,v7,I r1.fMaster,v9]) m k z z z z z z fun Bo Bm a k m e Ao=>pN 1 k z fun a k=>nn (wp_seq (wr (sv k z (r_ldB ta38 m 0 Ao 0 k z z z z z z) fun a k=>oE h fun Bl Ax h=>?_))))
 refine cE k m call115 z z z (c_impl_sound fu _ (show rd _ _ [I r1.fWay,I r1.fPallet.fW,I r1.fPallet.fD,I r1.fPallet.fH,I r1.fPallet.fGram,I r1.fClasses,v5,v7,I r1.fMaster,v9] (r1:Request) from ⟨_,_,_,_,_,_,z,z,(Enc.rd_agr Ai (m.a00 (Enc.rd_lt Ai))),(Enc.rd_agr Ap (m.a00 (Enc.rd_lt Ap))),(Enc.rd_agr Ab (m.a00 (Enc.rd_lt Ab)))⟩) Ax) fun Bn e a k m=>pN 1 k z fun a k=>nn (cI h k z (fun Bc h=>?_) fun Bc h=>?_)
 · refine wr (pN 1 k z fun a k=>nn (wp_ret (rt_then ?_)))
   cases h
   exact finR1 k z (RV.tmp k z) ⟨_,[],z,m.ext,(ow_nil _),(by simp)⟩
 refine wp_skip (nm_then ?_)
 refine wr (s_bs (cs:=[]) (ps:=[]) te63 m k z z z z z z z (by decide) z (by exact (List.forall_mem_nil _)) fun Am Ar Bs a k m e Bi=>?_)
 have Bf:=ow_bx Bi ([]:List Int) z z z
 refine pN 1 k z fun a k=>nn (wp_seq (wr (sv k z (r_fa fa38_6 k z z) fun a k=>sv k z (r_ldb t136 m 1 Ao 9 k z z z z z) fun a k=>sv k z (r_len (α:=Item) Ab k underlying36 z z) fun a k=>pN 1 k z fun a k=>nn (wp_block (c_loop (fun n a w=>∃ (Ah:List Int) (Ag:Value) (Ad:List Nat) (Af:World) (Ac:Int),K 27 [(3,Ag),(11,v9),(12,I ((r1.fItems.length:Int))),(13,I Ac)] a ∧ St [] w0 w [(Ad,Af)] ∧ ow Af Ad [Ag] Ah ∧ d_impl_Units_L1 fu r1 n Ah Ac = some r) ?_ ?_ fu _ _ ?_)))))
 · rintro a w ⟨_,_,_,_,_,_,_,_,h⟩
   exact nS h
 · rintro Br a Bx ⟨Ah,Ag,Ad,Af,Ac,k,m,Ak,h⟩
   rw [d_impl_Units_L1_s] at h
   unfold d_impl_Units_L1_B at h
   refine wr (pN 1 k z fun a k=>nn (wp_seq (cI h k z (fun Ba h=>?_) fun Ba h=>?_)))
   · refine wp_skip (nm_then ?_)
     refine wp_seq (wp_block (wr (pN 1 k z fun a k=>oE h fun Aa Al h=>sv k z (r_ixa Ab Al k ts36 z z z) fun a k=>sv k z (r_lde Ab (m.a00 (Enc.rd_lt Ab)) Al ta158 k z z) fun a k=>s_alloc (cs:=[I 0,I 0,I 0,I 0,I 0,I 0,I 0]) m k zeroValue158 z z z z z fun Bz Bv a k m e Bh=>pN 1 k z fun a k=>s_stb (cs':=[I Aa.fId,I Aa.fW,I Aa.fH,I Aa.fD,I Aa.fGram,I Aa.fClass,I Aa.fCount]) sizeOf158 m 0 Bh 0 k z z z z z z z z z z z fun Bt a k e m As=>nn (wp_region_lit (pN 2 k z fun a k=>?_)))))
     refine s_bs (cs:=[I Ac]) (ps:=[(0,.tmp 19)]) te63 m k z z z z z z z (by decide) z (by exact (List.forall_mem_cons.2 ⟨z,(List.forall_mem_nil _)⟩)) fun Bu Bp Bw a k m e Au=>?_
     have Av:=ow_bx Au ([Ac]:List Int) z z z
     refine sv k z (r_fa fa158_6 k z z) fun a k=>sv k z (r_ldb t13 m 1 As 6 k z z z z z) fun a k=>oE h fun Bk Bd h=>s_call k call225 z z z z z (c_slices_Repeat_int_int fu _ _ (Enc.rd_agr (Enc.ow_rd Av) (m.a 0 z)) Bd) fun By Cb hR=>?_
     obtain ⟨Ca,Az,rfl,e,Ae,Aq⟩:=hR
     refine ⟨_,z,fun a k=>?_⟩
     have m:=m.new e Az (fun b hb=>⟨Aq b hb,Enc.rd_lt (Enc.ow_rd Ae) b hb⟩) (Enc.ow_nd Ae)
     refine oE h fun Aw Bg h=>s_appF Bg te63 z m 3 Ak (News.rd (Enc.rd_agr (Enc.ow_rd Ae) (m.a 0 z))) z z k z z z z z z z fun Ay At Bb a k e m Bj=>pN 1 k z fun a k=>wpList_nil (nm_block (nm_then ?_))
     refine wp_region_lit (pN 2 k z fun a k=>nn ?_)
     exact ⟨Aw,Ay,At,Bb,w64 (Ac + 1),k.keep [3,11,12,13] z,m.sel [3] z (by decide),Bj,h⟩
   refine wp_exit (ex_then (ex_then (ex_same (nm_then ?_))))
   refine wr (pN 2 k z fun a k=>nn (wp_ret ?_))
   cases h
   exact finR1 k z (RV.tmp k z) ⟨_,Ad,z,m.ext,(Enc.ow_agr Ak (m.a 0 z)),(m.fresh 0 z)⟩
 exact ⟨([]:List Int),(.slice (some ⟨Am,0,none⟩) 0 0),[Am],Ar,0,k.keep [3,11,12,13] z,m.sel [0] z (by decide),Bf,h⟩
theorem c_impl_places (fu:Nat) {w0:World} (n1:Int)  {r:(List Int)}
    (h:d_impl_places fu n1 = some r) :
    Calls Tryz.prog 122 #[I n1] w0 fun e w=>∃ (v0:Value) (G0:List Nat),e = .returned (v0) ∧ Ext [] w0 w ∧ ow w G0 [v0] r ∧ (∀ b ∈ G0,w0.heap.size ≤ b):=by
 refine enter (vs:=[_]) func122 z ntmps122 z fun a k=>?_
 have m:=St.start w0
 unfold d_impl_places at h
 refine wr (pN 1 k z fun a k=>nn (wr (s_bs (cs:=[]) (ps:=[]) te63 m k z z z z z z z (by decide) z (by exact (List.forall_mem_nil _)) fun g2 w3 e5 a k m e Al=>?_)))
 have Ak:=ow_bx Al ([]:List Int) z z z
 refine pN 1 k z fun a k=>nn (wp_seq (wr (pN 2 k z fun a k=>nn (wp_block (c_loop (fun n a w=>∃ (Ac:List Int) (Ad:Value) (Ab:List Nat) (Ae:World) (Aa:Int),K 16 [(3,Ad),(6,I n1),(7,I Aa)] a ∧ St [] w0 w [(Ab,Ae)] ∧ ow Ae Ab [Ad] Ac ∧ d_impl_places_L1 fu n1 n Ac Aa = some r) ?_ ?_ fu _ _ ?_)))))
 · rintro a w ⟨_,_,_,_,_,_,_,_,h⟩
   exact nS h
 · rintro Aw a As ⟨Ac,Ad,Ab,Ae,Aa,k,m,Af,h⟩
   rw [d_impl_places_L1_s] at h
   unfold d_impl_places_L1_B at h
   refine wr (pN 1 k z fun a k=>nn (wp_seq (cI h k z (fun Ao h=>?_) fun Ao h=>?_)))
   · refine wp_skip (nm_then ?_)
     refine wp_seq (wp_block (wr (pN 2 k z fun a k=>nn (wp_region_lit (pN 2 k z fun a k=>s_bs (cs:=[I Aa]) (ps:=[(0,.tmp 11)]) te63 m k z z z z z z z (by decide) z (by exact (List.forall_mem_cons.2 ⟨z,(List.forall_mem_nil _)⟩)) fun Au Av At a k m e Ar=>?_)))))
     have Ah:=ow_bx Ar ([Aa]:List Int) z z z
     refine oE h fun Am Ai h=>s_appF Ai te63 z m 1 Af (News.rd (Enc.rd_agr (Enc.ow_rd Ah) (m.a 0 z))) z z k z z z z z z z fun Aq Ag Ap a k e m Aj=>pN 1 k z fun a k=>wpList_nil (nm_block (nm_then ?_))
     refine wp_region_lit (pN 2 k z fun a k=>nn ?_)
     exact ⟨Am,Aq,Ag,Ap,w64 (Aa + 1),k.keep [3,6,7] z,m.sel [1] z (by decide),Aj,h⟩
   refine wp_exit (ex_then (ex_then (ex_same (nm_then ?_))))
   refine wr (pN 2 k z fun a k=>nn (wp_ret ?_))
   cases h
   exact finR1 k z (RV.tmp k z) ⟨_,Ab,z,m.ext,(Enc.ow_agr Af (m.a 0 z)),(m.fresh 0 z)⟩
 exact ⟨([]:List Int),(.slice (some ⟨g2,0,none⟩) 0 0),[g2],w3,0,k.keep [3,6,7] z,m.sel [0] z (by decide),Ak,h⟩
theorem c_slices_Equal_int_int (fu:Nat) {w0:World} (Ab:List Int) (Ae:List Int) {v2:Value} {F3:List Nat} (Aa:rd w0 F3 [v2] Ab) {v6:Value} {F7:List Nat} (Ac:rd w0 F7 [v6] Ae) {r:Bool}
    (h:d_slices_Equal_int_int fu Ab Ae = some r) :
    Calls Tryz.prog 121 #[v2,v6] w0 fun e w=>e = .returned (.bool (r)) ∧ Ext [] w0 w:=by
 refine enter (vs:=[_,_]) func121 z ntmps121 z fun a k=>?_
 have m:=St.start w0
 unfold d_slices_Equal_int_int at h
 refine wr (pN 1 k z fun a k=>nn (wp_seq (wr (pN 1 k z fun a k=>sv k z (r_len (α:=Int) Aa k underlying63 z z) fun a k=>pN 1 k z fun a k=>sv k z (r_len (α:=Int) Ac k underlying63 z z) fun a k=>pN 1 k z fun a k=>nn (cI h k z (fun Ai h=>?_) fun Ai h=>?_)))))
 · refine wr (pN 1 k z fun a k=>nn (wp_ret (rt_then ?_)))
   refine fS h k m z z
 refine wp_skip (nm_then ?_)
 refine wp_seq (wr (pN 1 k z fun a k=>sv k z (r_len (α:=Int) Aa k underlying63 z z) fun a k=>pN 1 k z fun a k=>nn (wp_block (c_loop (fun n a w=>∃ (Ad:Int),K 26 [(0,v2),(1,v6),(12,I ((Ab.length:Int))),(13,I Ad)] a ∧ St [] w0 w [] ∧ d_slices_Equal_int_int_L1 fu Ab Ae n Ad = some r) ?_ ?_ fu _ _ ?_))))
 · rintro a w ⟨_,_,_,h⟩
   exact nS h
 · rintro Am a Ao ⟨Ad,k,m,h⟩
   rw [d_slices_Equal_int_int_L1_s] at h
   unfold d_slices_Equal_int_int_L1_B at h
   refine wr (pN 1 k z fun a k=>nn (wp_seq (cI h k z (fun Ak h=>?_) fun Ak h=>?_)))
   · refine wp_skip (nm_then ?_)
     refine wp_seq (wp_block (wr (pN 2 k z fun a k=>nn (wp_seq (d_go [] mixo m z fun Aj hMd=>?_)))))
     have m:=hMd
     have s:=Ext.refl ([]:List Nat) Aj
     refine dN [0,1,4,5] 4 z k (by kernel_rfl) z s (fun _ _ _ _ _=>id) fun a k=>oE h fun Ap Ag h=>dt k 2 z (by kernel_rfl) z s (fun _ _ _=>id) (fun w s=>r_ixa Aa Ag k ts63 z z z) fun a k=>dt k 3 z (by kernel_rfl) z s (fun _ _ _=>id) (fun w s=>r_lde1 Aa ((hMd.step s).a00 (Enc.rd_lt Aa)) Ag 0 t13 k z z z z) fun a k=>oE h fun Al Af h=>dt k 6 z (by kernel_rfl) z s (fun _ _ _=>id) (fun w s=>r_ixa Ac Af k ts63 z z z) fun a k=>dt k 7 z (by kernel_rfl) z s (fun _ _ _=>id) (fun w s=>r_lde1 Ac ((hMd.step s).a00 (Enc.rd_lt Ac)) Af 0 t13 k z z z z) fun a k=>dN [8] 1 z k (by kernel_rfl) z s (fun _ _ _ _ _=>id) fun a k=>d_done (by kernel_rfl) ((nm_then ?_))
     refine cI h k z (fun Ah h=>?_) fun Ah h=>?_
     · refine wr (pN 1 k z fun a k=>nn (wp_ret (rt_block (rt_then (rt_then (rt_block (rt_then ?_)))))))
       refine fS h k m z z
     refine wp_skip (nm_block (nm_then ?_))
     refine wp_region_lit (pN 2 k z fun a k=>nn ?_)
     exact ⟨w64 (Ad + 1),k.keep [0,1,12,13] z,m.sel [] z (by decide),h⟩
   refine wp_exit (ex_then (ex_then (ex_same (nm_then ?_))))
   refine wr (pN 1 k z fun a k=>nn (wp_ret (fS h k m z z)))
 exact ⟨0,k.keep [0,1,12,13] z,m.sel [] z (by decide),h⟩
theorem c_slices_Clone_int_int (fu:Nat) {w0:World} (Ab:List Int) {v2:Value} {F3:List Nat} (Aa:rd w0 F3 [v2] Ab) {r:(List Int)}
    (h:d_slices_Clone_int_int fu Ab = some r) :
    Calls Tryz.prog 133 #[v2] w0 fun e w=>∃ (v0:Value) (G0:List Nat),e = .returned (v0) ∧ Ext [] w0 w ∧ ow w G0 [v0] r ∧ (∀ b ∈ G0,w0.heap.size ≤ b):=by
 refine enter (vs:=[_]) func133 z ntmps133 z fun a k=>?_
 have m:=St.start w0
 unfold d_slices_Clone_int_int at h
 refine wr (pN 1 k z fun a k=>nn (wp_seq (wr (pN 1 k z fun a k=>?_))))
 obtain ⟨Ak,Ae,Af⟩:=r_nilq Aa
 refine sv k z (Af k underlying63 z z z) fun a k=>nn (c_cond (b:=Ak) k z (fun Ac=>?_) (fun Ac=>?_))
 · have Al:=Ae Ac
   rw [Al] at h
   have h:some (([]:List Int)) = some r:=h
   refine wr (pN 1 k z fun a k=>nn (wp_ret (rt_then ?_)))
   cases h
   exact finR1 k z (RV.tmp k z) ⟨_,[],z,m.ext,(ow_nil _),(by simp)⟩
 refine wp_skip (nm_then ?_)
 refine wr (s_bs (cs:=[]) (ps:=[]) te63 m k z z z z z z z (by decide) z (by exact (List.forall_mem_nil _)) fun Am Ar Aq a k m e Ai=>?_)
 have Ad:=ow_bx Ai ([]:List Int) z z z
 refine pN 1 k z fun a k=>oE h fun As Ah h=>s_appF Ah te63 z m 0 Ad (News.rd (Enc.rd_agr Aa (m.a00 (Enc.rd_lt Aa)))) z z k z z z z z z z fun Ao Ag Ap a k e m Aj=>pN 1 k z fun a k=>nn (wp_ret ?_)
 cases h
 exact finR1 k z (RV.tmp k z) ⟨_,Ag,z,m.ext,(Enc.ow_agr Aj (m.a 0 z)),(m.fresh 0 z)⟩
theorem c_impl_thereOf_1 (fu:Nat) {w0:World} (u1:Int) (x2:Int) {b3:Nat} (Aa:bx w0 b3 [I x2] 3) {r:Bool}
    (h:d_impl_thereOf_1 fu u1 x2 = some r) :
    Calls Tryz.prog 238 #[I u1,.pointer (some (⟨b3,0,none⟩:Addr))] w0 fun e w=>e = .returned (.bool (r)) ∧ Ext [] w0 w:=by
 refine enter (vs:=[_,_]) func238 z ntmps238 z fun a k=>?_
 have m:=St.start w0
 unfold d_impl_thereOf_1 at h
 refine wr (pN 1 k z fun a k=>nn (wr (pN 1 k z fun a k=>sv k z (r_ld1 t13 (r:=[]) (Aa.at (m.a00 Aa.lt1) 0 1 z z z) k z z) fun a k=>pN 1 k z fun a k=>oE h fun x5 Ab h=>cE k m call139 z z z (c_impl_in fu _ _ _  Ab) fun w9 e a k m=>pN 2 k z fun a k=>nn (wp_ret (fS h k m z z)))))
theorem c_slices_IndexFunc_int_int (fu:Nat) {w0:World} (Ab:List Int) (f5:Int → Option Bool) {v2:Value} {F3:List Nat} (Ac:rd w0 F3 [v2] Ab) {v6:Value} (Ah:FnOk1 Tryz.prog w0 v6 f5) {r:Int}
    (h:d_slices_IndexFunc_int_int fu Ab f5 = some r) :
    Calls Tryz.prog 241 #[v2,v6] w0 fun e w=>e = .returned (I r) ∧ Ext [] w0 w:=by
 refine enter (vs:=[_,_]) func241 z ntmps241 z fun a k=>?_
 have m:=St.start w0
 obtain ⟨Ai,Al,rfl,Aj,Ak⟩:=Ah
 unfold d_slices_IndexFunc_int_int at h
 refine wr (pN 1 k z fun a k=>nn (wp_seq (wr (pN 1 k z fun a k=>sv k z (r_len (α:=Int) Ac k underlying63 z z) fun a k=>pN 1 k z fun a k=>nn (wp_block (c_loop (fun n a w=>∃ (Aa:Int),K 19 [(0,v2),(1,(.func (.func Ai) #[] Al.toArray)),(7,I ((Ab.length:Int))),(8,I Aa)] a ∧ St [] w0 w [] ∧ d_slices_IndexFunc_int_int_L1 fu Ab f5 n Aa = some r) ?_ ?_ fu _ _ ?_))))))
 · rintro a w ⟨_,_,_,h⟩
   exact nS h
 · rintro As a Aq ⟨Aa,k,m,h⟩
   rw [d_slices_IndexFunc_int_int_L1_s] at h
   unfold d_slices_IndexFunc_int_int_L1_B at h
   refine wr (pN 1 k z fun a k=>nn (wp_seq (cI h k z (fun Af h=>?_) fun Af h=>?_)))
   · refine wp_skip (nm_then ?_)
     refine wp_seq (wp_block (wr (pN 2 k z fun a k=>nn (wr (pN 3 k z fun a k=>oE h fun Ar Ad h=>sv k z (r_ixa Ac Ad k ts63 z z z) fun a k=>sv k z (r_lde1 Ac (m.a00 (Enc.rd_lt Ac)) Ad 0 t13 k z z z z) fun a k=>oE h fun Ao Ag h=>s_callv k Aj z z z z z z (Ak _ _ _ _ m.ext z Ag) fun Am Ap hR=>?_)))))
     obtain ⟨rfl,e⟩:=hR
     refine ⟨_,z,fun a k=>?_⟩
     have m:=m.step e
     refine nn (cI h k z (fun Ae h=>?_) fun Ae h=>?_)
     · refine wr (pN 2 k z fun a k=>nn (wp_ret (rt_block (rt_then (rt_then (rt_block (rt_then ?_)))))))
       refine fS h k m z z
     refine wp_skip (nm_block (nm_then ?_))
     refine wp_region_lit (pN 2 k z fun a k=>nn ?_)
     exact ⟨w64 (Aa + 1),k.keep [0,1,7,8] z,m.sel [] z (by decide),h⟩
   refine wp_exit (ex_then (ex_then (ex_same (nm_then ?_))))
   refine wr (pN 1 k z fun a k=>nn (wp_ret (fS h k m z z)))
 exact ⟨0,k.keep [0,1,7,8] z,m.sel [] z (by decide),h⟩
theorem c_slices_DeleteFunc_int_int (fu:Nat) {w0:World} (Aj:List Int) (f5:Int → Option Bool) {v2:Value} {F3:List Nat} (Ae:ow w0 F3 [v2] Aj) {v6:Value} (Bd:FnOkX1 F3 Tryz.prog w0 v6 f5) {r:(List Int)}
    (h:d_slices_DeleteFunc_int_int fu Aj f5 = some r) :
    Calls Tryz.prog 158 #[v2,v6] w0 fun e w=>∃ (v0:Value) (G0:List Nat),e = .returned (v0) ∧ Ext F3 w0 w ∧ ow w G0 [v0] r ∧ (∀ b ∈ G0,b ∈ F3 ∨ w0.heap.size ≤ b):=by
 refine enter (vs:=[_,_]) func158 z ntmps158 z fun a k=>?_
 have m:=St.start1 w0 (Enc.rd_lt (Enc.ow_rd Ae)) (Enc.ow_nd Ae)
 obtain ⟨Al,Ao,rfl,Ap,Aq⟩:=Bd
 unfold d_slices_DeleteFunc_int_int at h
 refine wr (pN 1 k z fun a k=>nn (wr (pN 2 k z fun a k=>oE h fun Am Bg h=>cE k m call241 z z z (c_slices_IndexFunc_int_int fu _ _ (Enc.rd_agr (Enc.ow_rd Ae) (m.a 0 z)) ⟨_,_,z,Ap,fun w Be Bc r e=>Aq w Be Bc r (m.ext.trans e (by simp))⟩ Bg) fun Bs e a k m=>pN 1 k z fun a k=>nn (wp_seq (wr (pN 2 k z fun a k=>nn (cI h k z (fun Ax h=>?_) fun Ax h=>?_)))))))
 · refine wr (pN 2 k z fun a k=>nn (wp_ret (rt_then ?_)))
   cases h
   exact finR1 k z (RV.tmp k z) ⟨_,F3,z,m.ext,(Enc.ow_agr Ae (m.a 0 z)),(fun b hb=>m.lo b (mem_fps (i:=0) z hb))⟩
 refine wp_skip (nm_then ?_)
 refine wp_seq (wr (pN 3 k z fun a k=>nn (wp_block (c_loop (fun n a w=>∃ (Ad:List Int) (Ag:World) (Ab:Int) (Ac:Int),K 42 [(0,v2),(1,(.func (.func Al) #[] Ao.toArray)),(5,I Ab),(6,I Ac)] a ∧ St F3 w0 w [(F3,Ag)] ∧ ow Ag F3 [v2] Ad ∧ d_slices_DeleteFunc_int_int_L1 fu f5 n Ad Ab Ac = some r) ?_ ?_ fu _ _ ?_))))
 · rintro a w ⟨_,_,_,_,_,_,_,h⟩
   exact nS h
 · rintro Aw a Bv ⟨Ad,Ag,Ab,Ac,k,m,Aa,h⟩
   rw [d_slices_DeleteFunc_int_int_L1_s] at h
   unfold d_slices_DeleteFunc_int_int_L1_B at h
   refine wp_seq (wr (pN 2 k z fun a k=>sv k z (r_len (α:=Int) (Enc.ow_rd Aa) k underlying63 z z) fun a k=>pN 1 k z fun a k=>nn (cI h k z (fun Bh h=>?_) fun Bh h=>?_)))
   · refine wp_skip (nm_then ?_)
     refine c_cut (fun a w=>∃ (Ai:List Int) (Ah:World) (Af:Int),K 42 [(0,v2),(1,(.func (.func Al) #[] Ao.toArray)),(5,I Af),(6,I Ac)] a ∧ St F3 w0 w [(F3,Ah)] ∧ ow Ah F3 [v2] Ai ∧ d_slices_DeleteFunc_int_int_J1 fu (d_slices_DeleteFunc_int_int_L1 fu f5 Aw) Ac Ai Af = some r) ?_ ?_
     · rintro a Bw ⟨Ai,Ah,Af,k,m,Ay,h⟩
       unfold d_slices_DeleteFunc_int_int_J1 at h
       refine wp_region_lit (pN 3 k z fun a k=>nn ?_)
       exact ⟨Ai,Ah,Af,w64 (Ac + 1),k.keep [0,1,5,6] z,m.sel [0] z (by decide),Ay,h⟩
     refine wp_block (wr (pN 2 k z fun a k=>oE h fun As Ar h=>sv k z (r_ixa (Enc.ow_rd Aa) Ar k ts63 z z z) fun a k=>sv k z (r_lde1 (Enc.ow_rd Aa) (m.a 0 z) Ar 0 t13 k z z z z) fun a k=>pN 1 k z fun a k=>nn (wr (pN 2 k z fun a k=>oE h fun Bn Bi h=>s_callv k Ap z z z z z z (Aq _ _ _ _ m.ext z Bi) fun Bl Bp hR=>?_))))
     obtain ⟨rfl,e⟩:=hR
     refine ⟨_,z,fun a k=>?_⟩
     have m:=m.step e
     refine pN 1 k z fun a k=>nn (cI h k z (fun Av h=>?_) fun Av h=>?_)
     · refine wr (pN 3 k z fun a k=>oE h fun Bo Ak h=>sv k z (r_ixa (Enc.ow_rd Aa) Ak k ts63 z z z) fun a k=>s_ste (α:=Int) (sz:=1) (y:=As) sizeOf3 Ak m 0 Aa 0 k z z z z z z z z z z z z fun Ba a k e m Bb=>nn (wp_region_lit (pN 3 k z fun a k=>wpList_nil (nm_block (nm_then ?_)))))
       exact ⟨setx Ad Ab As,Ba,w64 (Ab + 1),k.keep [0,1,5,6] z,m.sel [0] z (by decide),Bb,h⟩
     refine wp_skip (nm_block (nm_then ?_))
     exact ⟨Ad,Ag,Ab,k.keep [0,1,5,6] z,m.sel [0] z (by decide),Aa,h⟩
   refine wp_exit (ex_then (ex_then (ex_same (nm_then ?_))))
   refine wr (pN 2 k z fun a k=>oE h fun Bm Bf h=>s_slFromP (Enc.ow_rd Aa) Bf k ts63 z z z z z z fun Bt a k Bu Bj=>s_clr (lo:=Ab) te63 m 0 Aa Bj k z z z z z fun Bq a k e m At=>nn (wr (pN 2 k z fun a k=>oE h fun Br Au h=>s_slToO At Au k ts63 z z z z z z fun Bk a k Az=>pN 1 k z fun a k=>nn (wp_ret ?_))))
   cases h
   exact finR1 k z (RV.tmp k z) ⟨_,F3,z,m.ext,(Enc.ow_agr Az (m.a 0 z)),(fun b hb=>m.lo b (mem_fps (i:=0) z hb))⟩
 exact ⟨Aj,w0,Am,w64 (Am + 1),k.keep [0,1,5,6] z,m.sel [0] z (by decide),Ae,h⟩
theorem c_impl_thereOf (fu:Nat) {w0:World} (r1:Request) (Aj:List Int) {Ag:List Value} {F3:List Nat} (Aw:rd w0 F3 Ag r1) {v6:Value} {F7:List Nat} (Ae:rd w0 F7 [v6] Aj) {r:(List Int)}
    (h:d_impl_thereOf fu r1 Aj = some r) :
    Calls Tryz.prog 147 #[.agg Ag.toArray,v6] w0 fun e w=>∃ (v0:Value) (G0:List Nat),e = .returned (v0) ∧ Ext [] w0 w ∧ ow w G0 [v0] r ∧ (∀ b ∈ G0,w0.heap.size ≤ b):=by
 refine enter (vs:=[_,_]) func147 z ntmps147 z fun a k=>?_
 have m:=St.start w0
 obtain ⟨v9,Bg,Al,Bc,Ah,Bl,rfl,rfl,Ak,Af,Ad⟩:=Aw
 unfold d_impl_thereOf at h
 refine wr (s_box (cs:=[I r1.fWay,I r1.fPallet.fW,I r1.fPallet.fD,I r1.fPallet.fH,I r1.fPallet.fGram,I r1.fClasses,v9,Al,I r1.fMaster,Ah]) m k z z z z z z fun Bj Bd a k m e Am=>pN 1 k z fun a k=>nn (wr (sv k z (r_ldB ta38 m 0 Am 0 k z z z z z z) fun a k=>oE h fun Ao Az h=>?_)))
 refine s_call k call123 z z z z z (c_impl_Units fu _ (show rd _ _ [I r1.fWay,I r1.fPallet.fW,I r1.fPallet.fD,I r1.fPallet.fH,I r1.fPallet.fGram,I r1.fClasses,v9,Al,I r1.fMaster,Ah] (r1:Request) from ⟨_,_,_,_,_,_,z,z,(Enc.rd_agr Ak (m.a00 (Enc.rd_lt Ak))),(Enc.rd_agr Af (m.a00 (Enc.rd_lt Af))),(Enc.rd_agr Ad (m.a00 (Enc.rd_lt Ad)))⟩) Az) fun Bi Bm hR=>?_
 obtain ⟨Bp,Bb,rfl,e,Ab,Ap⟩:=hR
 refine ⟨_,z,fun a k=>?_⟩
 have m:=m.new e Bb (fun b hb=>⟨Ap b hb,Enc.rd_lt (Enc.ow_rd Ab) b hb⟩) (Enc.ow_nd Ab)
 refine sv k z (r_len (α:=Int) (Enc.ow_rd Ab) k underlying63 z z) fun a k=>s_alloc (cs:=[I 0]) m k zeroValue3 z z z z z fun Ar Bq a k m e At=>s_stb (cs':=[I ((Ao.length:Int))]) sizeOf3 m 0 At 0 k z z z z z z z z z z z fun Bv a k e m Au=>nn (wr (pN 1 k z fun a k=>oE h fun Bt Ax h=>s_call k call133 z z z z z (c_slices_Clone_int_int fu _ (Enc.rd_agr Ae (m.a00 (Enc.rd_lt Ae))) Ax) fun Bo Bh hR=>?_))
 obtain ⟨Bk,Ai,rfl,e,Ac,Av⟩:=hR
 refine ⟨_,z,fun a k=>?_⟩
 have m:=m.new e Ai (fun b hb=>⟨Av b hb,Enc.rd_lt (Enc.ow_rd Ac) b hb⟩) (Enc.ow_nd Ac)
 refine pN 1 k z fun a k=>oE h fun Br Aq h=>s_call k call158 z z z z z (c_slices_DeleteFunc_int_int fu _ _ (Enc.ow_agr Ac (m.a 0 z)) ⟨238,[.pointer (some (⟨Ar,0,none⟩:Addr))],z,call238,fun w Bu Bn r e Ay hx=>by subst Ay; have m:=m.mut 0 rfl e Ai (fun b hb=>⟨.inl hb,e.lt1 (m.ltF 0 rfl) b hb⟩) (m.ndF 0 rfl); exact c_impl_thereOf_1 fu _ _ (Au.agr (m.a 1 rfl) (by simp)) hx⟩ Aq) fun Be Bs hR=>?_
 obtain ⟨Bf,As,rfl,e,Aa,Ba⟩:=hR
 refine ⟨_,z,fun a k=>?_⟩
 have m:=m.mut 0 z e _ (fun b hb=>⟨Ba b hb,Enc.rd_lt (Enc.ow_rd Aa) b hb⟩) (Enc.ow_nd Aa)
 refine pN 1 k z fun a k=>nn (wp_ret ?_)
 cases h
 exact finR1 k z (RV.tmp k z) ⟨_,As,z,m.ext,(Enc.ow_agr Aa (m.a 0 z)),(m.fresh 0 z)⟩
theorem c_impl_itemsOf (fu:Nat) {w0:World} (r1:Request) (Ad:List Int) {Ay:List Value} {F3:List Nat} (Bx:rd w0 F3 Ay r1) {v6:Value} {F7:List Nat} (Aj:rd w0 F7 [v6] Ad) {r:(List Item)}
    (h:d_impl_itemsOf fu r1 Ad = some r) :
    Calls Tryz.prog 149 #[.agg Ay.toArray,v6] w0 fun e w=>∃ (v0:Value) (G0:List Nat),e = .returned (v0) ∧ Ext [] w0 w ∧ ow w G0 [v0] r ∧ (∀ b ∈ G0,w0.heap.size ≤ b):=by
 refine enter (vs:=[_,_]) func149 z ntmps149 z fun a k=>?_
 have m:=St.start w0
 obtain ⟨v9,Cf,Be,Cd,Az,Cl,rfl,rfl,Bb,Ax,Ae⟩:=Bx
 unfold d_impl_itemsOf at h
 refine wr (s_box (cs:=[I r1.fWay,I r1.fPallet.fW,I r1.fPallet.fD,I r1.fPallet.fH,I r1.fPallet.fGram,I r1.fClasses,v9,Be,I r1.fMaster,Az]) m k z z z z z z fun Am At a k m e As=>pN 1 k z fun a k=>nn (wr (sv k z (r_ldB ta38 m 0 As 0 k z z z z z z) fun a k=>oE h fun Au Ca h=>?_)))
 refine s_call k call123 z z z z z (c_impl_Units fu _ (show rd _ _ [I r1.fWay,I r1.fPallet.fW,I r1.fPallet.fD,I r1.fPallet.fH,I r1.fPallet.fGram,I r1.fClasses,v9,Be,I r1.fMaster,Az] (r1:Request) from ⟨_,_,_,_,_,_,z,z,(Enc.rd_agr Bb (m.a00 (Enc.rd_lt Bb))),(Enc.rd_agr Ax (m.a00 (Enc.rd_lt Ax))),(Enc.rd_agr Ae (m.a00 (Enc.rd_lt Ae)))⟩) Ca) fun Cj Ba hR=>?_
 obtain ⟨Bd,Ar,rfl,e,Af,Bn⟩:=hR
 refine ⟨_,z,fun a k=>?_⟩
 have m:=m.new e Ar (fun b hb=>⟨Bn b hb,Enc.rd_lt (Enc.ow_rd Af) b hb⟩) (Enc.ow_nd Af)
 refine pN 1 k z fun a k=>nn (wr (s_bs (cs:=[]) (ps:=[]) te36 m k z z z z z z z (by decide) z (by exact (List.forall_mem_nil _)) fun Bc Bq Cq a k m e Bk=>?_))
 have Bp:=ow_bx Bk ([]:List Item) z z z
 refine pN 1 k z fun a k=>nn (wp_seq (wr (pN 1 k z fun a k=>sv k z (r_len (α:=Int) Aj k underlying63 z z) fun a k=>pN 1 k z fun a k=>nn (wp_block (c_loop (fun n a w=>∃ (Ag:List Item) (Ap:Value) (Aa:List Nat) (Ak:World) (Ac:Int),K 36 [(2,.pointer (some (⟨Am,0,none⟩:Addr))),(5,Bd),(6,Ap),(12,v6),(13,I ((Ad.length:Int))),(14,I Ac)] a ∧ St [] w0 w [([Am],At),(Ar,Ba),(Aa,Ak)] ∧ ow Ak Aa [Ap] Ag ∧ d_impl_itemsOf_L1 fu r1 Ad Au n Ag Ac = some r) ?_ ?_ fu _ _ ?_)))))
 · rintro a w ⟨_,_,_,_,_,_,_,_,h⟩
   exact nS h
 · rintro Bv a Cm ⟨Ag,Ap,Aa,Ak,Ac,k,m,Aq,h⟩
   rw [d_impl_itemsOf_L1_s] at h
   unfold d_impl_itemsOf_L1_B at h
   refine wr (pN 1 k z fun a k=>nn (wp_seq (cI h k z (fun Br h=>?_) fun Br h=>?_)))
   · refine wp_skip (nm_then ?_)
     refine c_cut (fun a w=>∃ (Ah:List Item) (Ao:Value) (Al:List Nat) (Ai:World),K 36 [(2,.pointer (some (⟨Am,0,none⟩:Addr))),(5,Bd),(6,Ao),(12,v6),(13,I ((Ad.length:Int))),(14,I Ac)] a ∧ St [] w0 w [([Am],At),(Ar,Ba),(Al,Ai)] ∧ ow Ai Al [Ao] Ah ∧ d_impl_itemsOf_J1 fu (d_impl_itemsOf_L1 fu r1 Ad Au Bv) Ac Ah = some r) ?_ ?_
     · rintro a Ci ⟨Ah,Ao,Al,Ai,k,m,Bo,h⟩
       unfold d_impl_itemsOf_J1 at h
       refine wp_region_lit (pN 2 k z fun a k=>nn ?_)
       exact ⟨Ah,Ao,Al,Ai,w64 (Ac + 1),k.keep [2,5,6,12,13,14] z,m.sel [0,1,2] z (by decide),Bo,h⟩
     refine wp_block (wr (oE h fun Co Bg h=>sv k z (r_ixa Aj Bg k ts63 z z z) fun a k=>sv k z (r_lde1 Aj (m.a00 (Enc.rd_lt Aj)) Bg 0 t13 k z z z z) fun a k=>pN 1 k z fun a k=>nn (wr (pN 2 k z fun a k=>sv k z (r_len (α:=Int) (Enc.ow_rd Af) k underlying63 z z) fun a k=>pN 1 k z fun a k=>oE h fun Ck Cb h=>cE k m call139 z z z (c_impl_in fu _ _ _  Cb) fun Cg e a k m=>nn (cI h k z (fun Bj h=>?_) fun Bj h=>?_)))))
     · refine d_go (Aa) mixo m z fun Bz hMd=>?_
       have m:=hMd
       have s:=Ext.refl ((Aa):List Nat) Bz
       refine dN [0,3,4] 3 z k (by kernel_rfl) z s (fun _ _ _ _ _=>id) fun a k=>dt k 1 z (by kernel_rfl) z s (fun _ _ _=>id) (fun w s=>r_fa fa38_6 k z z) fun a k=>dt k 2 z (by kernel_rfl) z s (fun _ _ _=>id) (fun w s=>r_ld1 t136 (r:=[]) (As.at (hMd.az 0 2 z z z s) 9 1 z z z) k z z) fun a k=>oE h fun Ch Bf h=>dt k 5 z (by kernel_rfl) z s (fun _ _ _=>id) (fun w s=>r_ixa (Enc.ow_rd Af) Bf k ts63 z z z) fun a k=>dt k 6 z (by kernel_rfl) z s (fun _ _ _=>id) (fun w s=>r_lde1 (Enc.ow_rd Af) (hMd.az 1 2 z z z s) Bf 0 t13 k z z z z) fun a k=>oE h fun Ab Aw h=>dt k 7 z (by kernel_rfl) z s (fun _ _ _=>id) (fun w s=>r_ixa Ae Aw k ts36 z z z) fun a k=>?_
       refine dt k 8 z (by kernel_rfl) z s (fun _ _ _=>id) (fun w s=>r_lde Ae (hMd.az0 2 z z (Enc.rd_lt Ae) s) Aw ta158 k z z) fun a k=>d_one 9 (by kernel_rfl) z (s_bsN (cs:=[I Ab.fId,I Ab.fW,I Ab.fH,I Ab.fD,I Ab.fGram,I Ab.fClass,I Ab.fCount]) (ps:=[(0,.tmp 31)]) te36 m k z z z z z z z (by decide) z (by exact (List.forall_mem_cons.2 ⟨z,(List.forall_mem_nil _)⟩)) fun Ce Cn Cr a k m e Bs By=>?_)
       have Cc:=lo1 (Nat.le_trans s.size By)
       have Bu:=ow_bx Bs ([Ab]:List Item) z z z
       have s:=s.trans e (by simp)
       refine wpList_nil ⟨s,?_⟩
       refine d_one 10 (by kernel_rfl) z (oE h fun Bt Bw h=>s_appFN Bw te36 z m 3 Aq (News.rd (Enc.rd_agr (Enc.ow_rd Bu) (m.a 0 z))) z z k z z z z z z z fun Bl Av Bm a k e m Bh Bi=>?_)
       have Cp:∀ y ∈ Av,y ∈ (Aa) ∨ _ ≤ y:=fun y hy=>(Bi y hy).elim (fun hy=>(fun y hy=>Or.inl hy) y hy) (fun h=>Or.inr (Nat.le_trans s.size h))
       have s:=s.trans e (fun y hy=>Or.inl hy)
       refine wpList_nil ⟨s,?_⟩
       refine dN [11] 1 z k (by kernel_rfl) z s (fun _ _ _ _ _=>id) fun a k=>d_done (by kernel_rfl) ((nm_block (nm_then ?_)))
       exact ⟨Bt,Bl,Av,Bm,k.keep [2,5,6,12,13,14] z,m.sel [1,2,3] z (by decide),Bh,h⟩
     refine wp_skip (nm_block (nm_then ?_))
     exact ⟨Ag,Ap,Aa,Ak,k.keep [2,5,6,12,13,14] z,m.sel [0,1,2] z (by decide),Aq,h⟩
   refine wp_exit (ex_then (ex_then (ex_same (nm_then ?_))))
   refine wr (pN 2 k z fun a k=>nn (wp_ret ?_))
   cases h
   exact finR1 k z (RV.tmp k z) ⟨_,Aa,z,m.ext,(Enc.ow_agr Aq (m.a 2 z)),(m.fresh 2 z)⟩
 exact ⟨([]:List Item),(.slice (some ⟨Bc,0,none⟩) 0 0),[Bc],Bq,0,k.keep [2,5,6,12,13,14] z,m.sel [2,1,0] z (by decide),Bp,h⟩
theorem c_impl_Holds_1 (fu:Nat) {w0:World} (x1:Item) (x2:Typ) {b3:Nat} (Aa:bx w0 b3 [I x2.fId,I x2.fW,I x2.fH,I x2.fD,I x2.fTare,I x2.fGram,I x2.fCost] 79) {r:Bool}
    (h:d_impl_Holds_1 fu x1 x2 = some r) :
    Calls Tryz.prog 150 #[.agg (Flat.e (x1)).toArray,.pointer (some (⟨b3,0,none⟩:Addr))] w0 fun e w=>e = .returned (.bool (r)) ∧ Ext [] w0 w:=by
 refine enter (vs:=[_,_]) func150 z ntmps150 z fun a k=>?_
 have m:=St.start w0
 unfold d_impl_Holds_1 at h
 refine wr (s_box (cs:=[I x1.fId,I x1.fW,I x1.fH,I x1.fD,I x1.fGram,I x1.fClass,I x1.fCount]) m k z z z z z z fun b5 w7 a k m e Ac=>pN 1 k z fun a k=>nn (wr (sv k z (r_ldB ta158 m 0 Ac 0 k z z z z z z) fun a k=>sv k z (r_ldA ta79 (Aa.at (m.a00 Aa.lt1) 0 7 z z z) z k z z) fun a k=>oE h fun x8 Ab h=>cE k m call151 z z z (c_impl_Fits fu (x1:Item) (x2:Typ)  Ab) fun Ad e a k m=>pN 2 k z fun a k=>nn (wp_ret (fS h k m z z)))))
theorem c_impl_Volume (fu:Nat) {w0:World} (Ac:Int) (h2:Int) (d3:Int)  {r:Int}
    (h:d_impl_Volume fu Ac h2 d3 = some r) :
    Calls Tryz.prog 183 #[I Ac,I h2,I d3] w0 fun e w=>e = .returned (I r) ∧ Ext [] w0 w:=by
 refine enter (vs:=[_,_,_]) func183 z ntmps183 z fun a k=>?_
 have m:=St.start w0
 unfold d_impl_Volume at h
 refine wr (pN 1 k z fun a k=>nn (c_cut (fun a w=>K 25 [(0,I Ac),(1,I h2),(2,I d3)] a ∧ St [] w0 w [] ∧ d_impl_Volume_J1 fu Ac h2 d3 = some r) ?_ ?_))
 · rintro a Am ⟨k,m,h⟩
   unfold d_impl_Volume_J1 at h
   refine wr (pN 6 k z fun a k=>nn (wp_ret (fS h k m z z)))
 refine wr (pN 1 k z fun a k=>oE h fun Ag Ah h=>cE k m call139 z z z (c_impl_in fu _ _ _  Ah) fun Al e a k m=>pN 2 k z fun a k=>bsplit (!Ag) (fun Aa=>?_) (fun Aa=>?_))
 · have h:=bif_t Aa h
   refine rB k 10 z Aa fun k=>pN 9 k z fun a k=>nn (wp_cond_true (k.ev z) (wr (pN 1 k z fun a k=>nn (wp_ret (rt_then ?_)))))
   refine fS h k m z z
 have h:=bif_f Aa h
 refine rB k 10 z Aa fun k=>pN 1 k z fun a k=>oE h fun Ad Ai h=>cE k m call139 z z z (c_impl_in fu _ _ _  Ai) fun Ao e a k m=>pN 3 k z fun a k=>bsplit (!Ad) (fun Ab=>?_) (fun Ab=>?_)
 · have h:=bif_t Ab h
   refine rB k 15 z Ab fun k=>pN 4 k z fun a k=>nn (wp_cond_true (k.ev z) (wr (pN 1 k z fun a k=>nn (wp_ret (rt_then ?_)))))
   refine fS h k m z z
 have h:=bif_f Ab h
 refine rB k 15 z Ab fun k=>pN 1 k z fun a k=>oE h fun Aj Ae h=>cE k m call139 z z z (c_impl_in fu _ _ _  Ae) fun Ak e a k m=>pN 2 k z fun a k=>nn (cI h k z (fun Af h=>?_) fun Af h=>?_)
 · refine wr (pN 1 k z fun a k=>nn (wp_ret (rt_then ?_)))
   refine fS h k m z z
 refine wp_skip (nm_then ?_)
 exact ⟨k.keep [0,1,2] z,m.sel [] z (by decide),h⟩
theorem c_impl_VolumeOf (fu:Nat) {w0:World} (r1:Request) (Am:List Int) {Aj:List Value} {F3:List Nat} (Aw:rd w0 F3 Aj r1) {v6:Value} {F7:List Nat} (Ah:rd w0 F7 [v6] Am) {r:Int}
    (h:d_impl_VolumeOf fu r1 Am = some r) :
    Calls Tryz.prog 182 #[.agg Aj.toArray,v6] w0 fun e w=>e = .returned (I r) ∧ Ext [] w0 w:=by
 refine enter (vs:=[_,_]) func182 z ntmps182 z fun a k=>?_
 have m:=St.start w0
 obtain ⟨v9,Bf,Ap,Bb,Al,Bj,rfl,rfl,Ao,Ai,Af⟩:=Aw
 unfold d_impl_VolumeOf at h
 refine wr (s_box (cs:=[I r1.fWay,I r1.fPallet.fW,I r1.fPallet.fD,I r1.fPallet.fH,I r1.fPallet.fGram,I r1.fClasses,v9,Ap,I r1.fMaster,Al]) m k z z z z z z fun Bi Bc a k m e Ar=>pN 1 k z fun a k=>nn (wr (pN 1 k z fun a k=>nn (wp_seq (wr (sv k z (r_ldB ta38 m 0 Ar 0 k z z z z z z) fun a k=>pN 1 k z fun a k=>oE h fun Ag Az h=>?_))))))
 refine s_call k call149 z z z z z (c_impl_itemsOf fu _ _ (show rd _ _ [I r1.fWay,I r1.fPallet.fW,I r1.fPallet.fD,I r1.fPallet.fH,I r1.fPallet.fGram,I r1.fClasses,v9,Ap,I r1.fMaster,Al] (r1:Request) from ⟨_,_,_,_,_,_,z,z,(Enc.rd_agr Ao (m.a00 (Enc.rd_lt Ao))),(Enc.rd_agr Ai (m.a00 (Enc.rd_lt Ai))),(Enc.rd_agr Af (m.a00 (Enc.rd_lt Af)))⟩) (Enc.rd_agr Ah (m.a00 (Enc.rd_lt Ah))) Az) fun Bh Ax hR=>?_
 obtain ⟨Ay,Aq,rfl,e,Ab,As⟩:=hR
 refine ⟨_,z,fun a k=>?_⟩
 have m:=m.new e Aq (fun b hb=>⟨As b hb,Enc.rd_lt (Enc.ow_rd Ab) b hb⟩) (Enc.ow_nd Ab)
 refine sv k z (r_len (α:=Item) (Enc.ow_rd Ab) k underlying36 z z) fun a k=>pN 1 k z fun a k=>nn (wp_block (c_loop (fun n a w=>∃ (Ac:Int) (Ad:Int),K 27 [(5,I Ac),(10,Ay),(11,I ((Ag.length:Int))),(12,I Ad)] a ∧ St [] w0 w [(Aq,Ax)] ∧ d_impl_VolumeOf_L1 fu Ag n Ac Ad = some r) ?_ ?_ fu _ _ ?_))
 · rintro a w ⟨_,_,_,_,h⟩
   exact nS h
 · rintro Bl a Bg ⟨Ac,Ad,k,m,h⟩
   rw [d_impl_VolumeOf_L1_s] at h
   unfold d_impl_VolumeOf_L1_B at h
   refine wr (pN 1 k z fun a k=>nn (wp_seq (cI h k z (fun Au h=>?_) fun Au h=>?_)))
   · refine wp_skip (nm_then ?_)
     refine wp_seq (wp_block (wr (oE h fun Aa Ak h=>sv k z (r_ixa (Enc.ow_rd Ab) Ak k ts36 z z z) fun a k=>sv k z (r_lde (Enc.ow_rd Ab) (m.a 0 z) Ak ta158 k z z) fun a k=>s_alloc (cs:=[I 0,I 0,I 0,I 0,I 0,I 0,I 0]) m k zeroValue158 z z z z z fun Bk Bm a k m e Ba=>s_stb (cs':=[I Aa.fId,I Aa.fW,I Aa.fH,I Aa.fD,I Aa.fGram,I Aa.fClass,I Aa.fCount]) sizeOf158 m 0 Ba 0 k z z z z z z z z z z z fun Be a k e m Ae=>nn (wp_region_lit (pN 1 k z fun a k=>sv k z (r_fa fa158_1 k z z) fun a k=>sv k z (r_ldb t13 m 0 Ae 1 k z z z z z) fun a k=>sv k z (r_fa fa158_2 k z z) fun a k=>?_)))))
     refine sv k z (r_ldb t13 m 0 Ae 2 k z z z z z) fun a k=>sv k z (r_fa fa158_3 k z z) fun a k=>sv k z (r_ldb t13 m 0 Ae 3 k z z z z z) fun a k=>oE h fun At Av h=>cE k m call183 z z z (c_impl_Volume fu _ _ _  Av) fun Bd e a k m=>pN 2 k z fun a k=>wpList_nil (nm_block (nm_then ?_))
     refine wp_region_lit (pN 2 k z fun a k=>nn ?_)
     exact ⟨w64 (Ac + At),w64 (Ad + 1),k.keep [5,10,11,12] z,m.sel [1] z (by decide),h⟩
   refine wp_exit (ex_then (ex_then (ex_same (nm_then ?_))))
   refine wr (pN 2 k z fun a k=>nn (wp_ret (fS h k m z z)))
 exact ⟨0,0,k.keep [5,10,11,12] z,m.sel [0] z (by decide),h⟩
theorem c_impl_GramOf (fu:Nat) {w0:World} (r1:Request) (Al:List Int) {Aj:List Value} {F3:List Nat} (Au:rd w0 F3 Aj r1) {v6:Value} {F7:List Nat} (Ah:rd w0 F7 [v6] Al) {r:Int}
    (h:d_impl_GramOf fu r1 Al = some r) :
    Calls Tryz.prog 240 #[.agg Aj.toArray,v6] w0 fun e w=>e = .returned (I r) ∧ Ext [] w0 w:=by
 refine enter (vs:=[_,_]) func240 z ntmps240 z fun a k=>?_
 have m:=St.start w0
 obtain ⟨v9,Bd,Ao,Az,Ak,Bh,rfl,rfl,Am,Ai,Ae⟩:=Au
 unfold d_impl_GramOf at h
 refine wr (s_box (cs:=[I r1.fWay,I r1.fPallet.fW,I r1.fPallet.fD,I r1.fPallet.fH,I r1.fPallet.fGram,I r1.fClasses,v9,Ao,I r1.fMaster,Ak]) m k z z z z z z fun Bg Ba a k m e Aq=>pN 1 k z fun a k=>nn (wr (pN 1 k z fun a k=>nn (wp_seq (wr (sv k z (r_ldB ta38 m 0 Aq 0 k z z z z z z) fun a k=>pN 1 k z fun a k=>oE h fun Ag Ay h=>?_))))))
 refine s_call k call149 z z z z z (c_impl_itemsOf fu _ _ (show rd _ _ [I r1.fWay,I r1.fPallet.fW,I r1.fPallet.fD,I r1.fPallet.fH,I r1.fPallet.fGram,I r1.fClasses,v9,Ao,I r1.fMaster,Ak] (r1:Request) from ⟨_,_,_,_,_,_,z,z,(Enc.rd_agr Am (m.a00 (Enc.rd_lt Am))),(Enc.rd_agr Ai (m.a00 (Enc.rd_lt Ai))),(Enc.rd_agr Ae (m.a00 (Enc.rd_lt Ae)))⟩) (Enc.rd_agr Ah (m.a00 (Enc.rd_lt Ah))) Ay) fun Bf Aw hR=>?_
 obtain ⟨Ax,Ap,rfl,e,Ab,Ar⟩:=hR
 refine ⟨_,z,fun a k=>?_⟩
 have m:=m.new e Ap (fun b hb=>⟨Ar b hb,Enc.rd_lt (Enc.ow_rd Ab) b hb⟩) (Enc.ow_nd Ab)
 refine sv k z (r_len (α:=Item) (Enc.ow_rd Ab) k underlying36 z z) fun a k=>pN 1 k z fun a k=>nn (wp_block (c_loop (fun n a w=>∃ (Ac:Int) (Ad:Int),K 22 [(5,I Ac),(10,Ax),(11,I ((Ag.length:Int))),(12,I Ad)] a ∧ St [] w0 w [(Ap,Aw)] ∧ d_impl_GramOf_L1 fu Ag n Ac Ad = some r) ?_ ?_ fu _ _ ?_))
 · rintro a w ⟨_,_,_,_,h⟩
   exact nS h
 · rintro Be a Bj ⟨Ac,Ad,k,m,h⟩
   rw [d_impl_GramOf_L1_s] at h
   unfold d_impl_GramOf_L1_B at h
   refine wr (pN 1 k z fun a k=>nn (wp_seq (cI h k z (fun Av h=>?_) fun Av h=>?_)))
   · refine wp_skip (nm_then ?_)
     refine wp_seq (wp_block (wr (oE h fun Aa Af h=>sv k z (r_ixa (Enc.ow_rd Ab) Af k ts36 z z z) fun a k=>sv k z (r_lde (Enc.ow_rd Ab) (m.a 0 z) Af ta158 k z z) fun a k=>s_alloc (cs:=[I 0,I 0,I 0,I 0,I 0,I 0,I 0]) m k zeroValue158 z z z z z fun Bi Bb a k m e As=>s_stb (cs':=[I Aa.fId,I Aa.fW,I Aa.fH,I Aa.fD,I Aa.fGram,I Aa.fClass,I Aa.fCount]) sizeOf158 m 0 As 0 k z z z z z z z z z z z fun Bc a k e m At=>nn (wp_region_lit (pN 1 k z fun a k=>sv k z (r_fa fa158_4 k z z) fun a k=>sv k z (r_ldb t13 m 0 At 4 k z z z z z) fun a k=>pN 2 k z fun a k=>wpList_nil (nm_block (nm_then ?_)))))))
     refine wp_region_lit (pN 2 k z fun a k=>nn ?_)
     exact ⟨w64 (Ac + Aa.fGram),w64 (Ad + 1),k.keep [5,10,11,12] z,m.sel [1] z (by decide),h⟩
   refine wp_exit (ex_then (ex_then (ex_same (nm_then ?_))))
   refine wr (pN 2 k z fun a k=>nn (wp_ret (fS h k m z z)))
 exact ⟨0,0,k.keep [5,10,11,12] z,m.sel [0] z (by decide),h⟩
theorem c_impl_within (fu:Nat) {w0:World} (r1:Request) (Ak:List Int) (t9:Typ) {Al:List Value} {F3:List Nat} (Aq:rd w0 F3 Al r1) {v6:Value} {F7:List Nat} (Ac:rd w0 F7 [v6] Ak) {r:Bool}
    (h:d_impl_within fu r1 Ak t9 = some r) :
    Calls Tryz.prog 152 #[.agg Al.toArray,v6,.agg (Flat.e (t9)).toArray] w0 fun e w=>e = .returned (.bool (r)) ∧ Ext [] w0 w:=by
 refine enter (vs:=[_,_,_]) func152 z ntmps152 z fun a k=>?_
 have m:=St.start w0
 obtain ⟨Ah,Au,Ag,Bc,Ai,Ay,rfl,rfl,Ad,Ab,Af⟩:=Aq
 unfold d_impl_within at h
 refine wr (s_box (cs:=[I r1.fWay,I r1.fPallet.fW,I r1.fPallet.fD,I r1.fPallet.fH,I r1.fPallet.fGram,I r1.fClasses,Ah,Ag,I r1.fMaster,Ai]) m k z z z z z z fun Aw Be a k m e Aj=>s_box (cs:=[I t9.fId,I t9.fW,I t9.fH,I t9.fD,I t9.fTare,I t9.fGram,I t9.fCost]) m k z z z z z z fun Av Az a k m e Ae=>pN 1 k z fun a k=>nn (wp_seq (d_go [] mixo m z fun At hMd=>?_)))
 have m:=hMd
 have s:=Ext.refl ([]:List Nat) At
 refine dN [1] 1 z k (by kernel_rfl) z s (fun _ _ _ _ _=>id) fun a k=>dt k 0 z (by kernel_rfl) z s (fun _ _ _=>id) (fun w s=>r_ldA ta38 (Aj.at ((hMd.step s).a 1 z) 0 10 z z z) z k z z) fun a k=>dt k 3 z (by kernel_rfl) z s (fun _ _ _=>id) (fun w s=>r_fa fa79_1 k z z) fun a k=>dt k 4 z (by kernel_rfl) z s (fun _ _ _=>id) (fun w s=>r_ld1 t13 (r:=[]) (Ae.at ((hMd.step s).a 0 z) 1 1 z z z) k z z) fun a k=>dt k 5 z (by kernel_rfl) z s (fun _ _ _=>id) (fun w s=>r_fa fa79_2 k z z) fun a k=>dt k 6 z (by kernel_rfl) z s (fun _ _ _=>id) (fun w s=>r_ld1 t13 (r:=[]) (Ae.at ((hMd.step s).a 0 z) 2 1 z z z) k z z) fun a k=>dt k 7 z (by kernel_rfl) z s (fun _ _ _=>id) (fun w s=>r_fa fa79_3 k z z) fun a k=>?_
 refine dt k 8 z (by kernel_rfl) z s (fun _ _ _=>id) (fun w s=>r_ld1 t13 (r:=[]) (Ae.at ((hMd.step s).a 0 z) 3 1 z z z) k z z) fun a k=>d_one 2 (by kernel_rfl) z (oE h fun Am Ap h=>cE k m call182 z z z (c_impl_VolumeOf fu _ _ (show rd _ _ [I r1.fWay,I r1.fPallet.fW,I r1.fPallet.fD,I r1.fPallet.fH,I r1.fPallet.fGram,I r1.fClasses,Ah,Ag,I r1.fMaster,Ai] (r1:Request) from ⟨_,_,_,_,_,_,z,z,(Enc.rd_agr Ad (m.a00 (Enc.rd_lt Ad))),(Enc.rd_agr Ab (m.a00 (Enc.rd_lt Ab))),(Enc.rd_agr Af (m.a00 (Enc.rd_lt Af)))⟩) (Enc.rd_agr Ac (m.a00 (Enc.rd_lt Ac))) Ap) fun Ba e a k m=>?_)
 have s:=s.trans e (by simp)
 refine wpList_nil ⟨s,?_⟩
 refine d_one 9 (by kernel_rfl) z (oE h fun Ar Ao h=>cE k m call183 z z z (c_impl_Volume fu _ _ _  Ao) fun Bd e a k m=>?_)
 have s:=s.trans e (by simp)
 refine wpList_nil ⟨s,?_⟩
 refine dN [10,11] 2 z k (by kernel_rfl) z s (fun _ _ _ _ _=>id) fun a k=>bsplit (decide (Am ≤ Ar)) (fun Aa=>?_) (fun Aa=>?_)
 · have h:=bif_t Aa h
   refine rB k 18 z Aa fun k=>dN [13] 1 z k (by kernel_rfl) z s (fun _ _ _ _ _=>id) fun a k=>dt k 12 z (by kernel_rfl) z s (fun _ _ _=>id) (fun w s=>r_ldA ta38 (Aj.at ((hMd.step s).a 1 z) 0 10 z z z) z k z z) fun a k=>dt k 15 z (by kernel_rfl) z s (fun _ _ _=>id) (fun w s=>r_fa fa79_5 k z z) fun a k=>dt k 16 z (by kernel_rfl) z s (fun _ _ _=>id) (fun w s=>r_ld1 t13 (r:=[]) (Ae.at ((hMd.step s).a 0 z) 5 1 z z z) k z z) fun a k=>d_one 14 (by kernel_rfl) z (oE h fun Bb As h=>?_)
   refine cE k m call240 z z z (c_impl_GramOf fu _ _ (show rd _ _ [I r1.fWay,I r1.fPallet.fW,I r1.fPallet.fD,I r1.fPallet.fH,I r1.fPallet.fGram,I r1.fClasses,Ah,Ag,I r1.fMaster,Ai] (r1:Request) from ⟨_,_,_,_,_,_,z,z,(Enc.rd_agr Ad (m.a00 (Enc.rd_lt Ad))),(Enc.rd_agr Ab (m.a00 (Enc.rd_lt Ab))),(Enc.rd_agr Af (m.a00 (Enc.rd_lt Af)))⟩) (Enc.rd_agr Ac (m.a00 (Enc.rd_lt Ac))) As) fun Ax e a k m=>?_
   have s:=s.trans e (by simp)
   refine wpList_nil ⟨s,?_⟩
   refine dN [17,18,19] 3 z k (by kernel_rfl) z s (fun _ _ _ _ _=>id) fun a k=>d_done (by kernel_rfl) ((nm_then ?_))
   refine wp_ret (fS h k m z z)
 have h:=bif_f Aa h
 refine rB k 18 z Aa fun k=>dN [12,13,14,15,16,17,18,19] 8 z k (by kernel_rfl) z s (fun _ _ _ _ _=>id) fun a k=>d_done (by kernel_rfl) ((nm_then ?_))
 refine wp_ret (fS h k m z z)
theorem c_impl_Holds (fu:Nat) {w0:World} (r1:Request) (Al:List Int) (t9:Typ) {Ap:List Value} {F3:List Nat} (Bb:rd w0 F3 Ap r1) {v6:Value} {F7:List Nat} (Ad:rd w0 F7 [v6] Al) {r:Bool}
    (h:d_impl_Holds fu r1 Al t9 = some r) :
    Calls Tryz.prog 54 #[.agg Ap.toArray,v6,.agg (Flat.e (t9)).toArray] w0 fun e w=>e = .returned (.bool (r)) ∧ Ext [] w0 w:=by
 refine enter (vs:=[_,_,_]) func54 z ntmps54 z fun a k=>?_
 have m:=St.start w0
 obtain ⟨Af,Bk,Ae,Bz,Ah,Bt,rfl,rfl,Ab,Aa,Ac⟩:=Bb
 unfold d_impl_Holds at h
 refine wr (s_box (cs:=[I r1.fWay,I r1.fPallet.fW,I r1.fPallet.fD,I r1.fPallet.fH,I r1.fPallet.fGram,I r1.fClasses,Af,Ae,I r1.fMaster,Ah]) m k z z z z z z fun Ar Bg a k m e Aj=>s_box (cs:=[I t9.fId,I t9.fW,I t9.fH,I t9.fD,I t9.fTare,I t9.fGram,I t9.fCost]) m k z z z z z z fun Ak Bd a k m e Aq=>pN 1 k z fun a k=>nn (c_cut (fun a w=>K 31 [(1,v6),(3,.pointer (some (⟨Ar,0,none⟩:Addr))),(5,.pointer (some (⟨Ak,0,none⟩:Addr)))] a ∧ St [] w0 w [([Ar],Bg),([Ak],Bd)] ∧ d_impl_Holds_J1 fu r1 Al t9 = some r) ?_ ?_))
 · rintro a Bv ⟨k,m,h⟩
   unfold d_impl_Holds_J1 at h
   refine wr (sv k z (r_ldB ta38 m 0 Aj 0 k z z z z z z) fun a k=>pN 1 k z fun a k=>oE h fun Bm Ay h=>s_call k call149 z z z z z (c_impl_itemsOf fu _ _ (show rd _ _ [I r1.fWay,I r1.fPallet.fW,I r1.fPallet.fD,I r1.fPallet.fH,I r1.fPallet.fGram,I r1.fClasses,Af,Ae,I r1.fMaster,Ah] (r1:Request) from ⟨_,_,_,_,_,_,z,z,(Enc.rd_agr Ab (m.a00 (Enc.rd_lt Ab))),(Enc.rd_agr Aa (m.a00 (Enc.rd_lt Aa))),(Enc.rd_agr Ac (m.a00 (Enc.rd_lt Ac)))⟩) (Enc.rd_agr Ad (m.a00 (Enc.rd_lt Ad))) Ay) fun Bo Bj hR=>?_)
   obtain ⟨Bq,Be,rfl,e,Am,Aw⟩:=hR
   refine ⟨_,z,fun a k=>?_⟩
   have m:=m.new e Be (fun b hb=>⟨Aw b hb,Enc.rd_lt (Enc.ow_rd Am) b hb⟩) (Enc.ow_nd Am)
   refine pN 1 k z fun a k=>oE h fun Bc Au h=>cE k m call148 z z z (c_slices_ContainsFunc_impl_Item_impl_Item fu _ _ (Enc.rd_agr (Enc.ow_rd Am) (m.a 0 z)) ⟨150,[.pointer (some (⟨Ak,0,none⟩:Addr))],z,call150,fun w Bl Bi r e At hx=>by subst At; have m:=m.step e; exact c_impl_Holds_1 fu _ _ (Aq.agr (m.a 2 rfl) (by simp)) hx⟩ Au) fun Bp e a k m=>pN 2 k rfl fun a k=>bsplit (!Bc) (fun Ag=>?_) (fun Ag=>?_)
   · have h:=bif_t Ag h
     refine rB k 25 z Ag fun k=>sv k z (r_ldB ta38 m 1 Aj 0 k z z z z z z) fun a k=>pN 1 k z fun a k=>sv k z (r_ldB ta79 m 2 Aq 0 k z z z z z z) fun a k=>oE h fun Bw Bh h=>cE k m call152 z z z (c_impl_within fu _ _ (t9:Typ) (show rd _ _ [I r1.fWay,I r1.fPallet.fW,I r1.fPallet.fD,I r1.fPallet.fH,I r1.fPallet.fGram,I r1.fClasses,Af,Ae,I r1.fMaster,Ah] (r1:Request) from ⟨_,_,_,_,_,_,z,z,(Enc.rd_agr Ab (m.a00 (Enc.rd_lt Ab))),(Enc.rd_agr Aa (m.a00 (Enc.rd_lt Aa))),(Enc.rd_agr Ac (m.a00 (Enc.rd_lt Ac)))⟩) (Enc.rd_agr Ad (m.a00 (Enc.rd_lt Ad))) Bh) fun Bx e a k m=>pN 2 k z fun a k=>nn (wp_ret (fS h k m z z))
   have h:=bif_f Ag h
   refine rB k 25 z Ag fun k=>pN 6 k z fun a k=>nn (wp_ret (fS h k m z z))
 refine wr (sv k z (r_ldB ta38 m 1 Aj 0 k z z z z z z) fun a k=>oE h fun Bf Az h=>cE k m call115 z z z (c_impl_sound fu _ (show rd _ _ [I r1.fWay,I r1.fPallet.fW,I r1.fPallet.fD,I r1.fPallet.fH,I r1.fPallet.fGram,I r1.fClasses,Af,Ae,I r1.fMaster,Ah] (r1:Request) from ⟨_,_,_,_,_,_,z,z,(Enc.rd_agr Ab (m.a00 (Enc.rd_lt Ab))),(Enc.rd_agr Aa (m.a00 (Enc.rd_lt Aa))),(Enc.rd_agr Ac (m.a00 (Enc.rd_lt Ac)))⟩) Az) fun Bu e a k m=>pN 2 k z fun a k=>bsplit (!Bf) (fun Ai=>?_) (fun Ai=>?_))
 · have h:=bif_t Ai h
   refine rB k 10 z Ai fun k=>pN 8 k z fun a k=>nn (wp_cond_true (k.ev z) (wr (pN 1 k z fun a k=>nn (wp_ret (rt_then ?_)))))
   refine fS h k m z z
 have h:=bif_f Ai h
 refine rB k 10 z Ai fun k=>sv k z (r_ldB ta38 m 1 Aj 0 k z z z z z z) fun a k=>pN 1 k z fun a k=>oE h fun Br As h=>s_call k call147 z z z z z (c_impl_thereOf fu _ _ (show rd _ _ [I r1.fWay,I r1.fPallet.fW,I r1.fPallet.fD,I r1.fPallet.fH,I r1.fPallet.fGram,I r1.fClasses,Af,Ae,I r1.fMaster,Ah] (r1:Request) from ⟨_,_,_,_,_,_,z,z,(Enc.rd_agr Ab (m.a00 (Enc.rd_lt Ab))),(Enc.rd_agr Aa (m.a00 (Enc.rd_lt Aa))),(Enc.rd_agr Ac (m.a00 (Enc.rd_lt Ac)))⟩) (Enc.rd_agr Ad (m.a00 (Enc.rd_lt Ad))) As) fun Bn Bs hR=>?_
 obtain ⟨By,Ba,rfl,e,Ao,Av⟩:=hR
 refine ⟨_,z,fun a k=>?_⟩
 have m:=m.new e Ba (fun b hb=>⟨Av b hb,Enc.rd_lt (Enc.ow_rd Ao) b hb⟩) (Enc.ow_nd Ao)
 refine sv k z (r_len (α:=Int) (Enc.ow_rd Ao) k underlying63 z z) fun a k=>pN 1 k z fun a k=>sv k z (r_len (α:=Int) Ad k underlying63 z z) fun a k=>pN 2 k z fun a k=>nn (cI h k z (fun Ax h=>?_) fun Ax h=>?_)
 · refine wr (pN 1 k z fun a k=>nn (wp_ret (rt_then ?_)))
   refine fS h k m z z
 refine wp_skip (nm_then ?_)
 exact ⟨k.keep [1,3,5] z,m.sel [2,1] z (by decide),h⟩
theorem c_slices_Compact_int_int (fu:Nat) {w0:World} (x1:List Int) {v2:Value} {F3:List Nat} (Aa:ow w0 F3 [v2] x1) {r:List Int}
    (h:d_slices_Compact_int_int fu x1 = some r) :
    Calls Tryz.prog 256 #[v2] w0 fun e w=>∃ (v0:Value) (G0:List Nat),e = .returned v0 ∧ Ext F3 w0 w ∧ ow w G0 [v0] r ∧ (∀ b ∈ G0,b ∈ F3 ∨ w0.heap.size ≤ b) :=
  c_compactInt (fun blk off cap zs w=>Tryz.slices_Compact_int blk off cap zs w) (fun p cap w=>Tryz.slices_Compact_int_empty p cap w) x1 Aa h

theorem c_impl_kinds (fu:Nat) {w0:World} (Ae:List Int) {v2:Value} {F3:List Nat} (Ad:rd w0 F3 [v2] Ae) {r:(List Int)}
    (h:d_impl_kinds fu Ae = some r) :
    Calls Tryz.prog 178 #[v2] w0 fun e w=>∃ (v0:Value) (G0:List Nat),e = .returned (v0) ∧ Ext [] w0 w ∧ ow w G0 [v0] r ∧ (∀ b ∈ G0,w0.heap.size ≤ b):=by
 refine enter (vs:=[_]) func178 z ntmps178 z fun a k=>?_
 have m:=St.start w0
 unfold d_impl_kinds at h
 refine wr (pN 1 k z fun a k=>nn (wr (pN 1 k z fun a k=>oE h fun x5 Af h=>s_call k call133 z z z z z (c_slices_Clone_int_int fu _ (Enc.rd_agr Ad (m.a00 (Enc.rd_lt Ad))) Af) fun e7 w9 hR=>?_)))
 obtain ⟨As,Ai,rfl,e,Aa,Ag⟩:=hR
 refine ⟨_,z,fun a k=>?_⟩
 have m:=m.new e Ai (fun b hb=>⟨Ag b hb,Enc.rd_lt (Enc.ow_rd Aa) b hb⟩) (Enc.ow_nd Aa)
 refine pN 1 k z fun a k=>nn (wr (pN 1 k z fun a k=>oE h fun Ap Al h=>s_call k call120 z z z z z (c_slices_Sort_int_int fu _ (Enc.ow_agr Aa (m.a 0 z)) Al) fun Ar Ao hR=>?_))
 obtain ⟨Av,rfl,e,Ah,Ab⟩:=hR
 refine ⟨_,z,fun a k=>?_⟩
 have m:=m.mut 0 z e _ (fun b hb=>⟨Ah b hb,Enc.rd_lt (Enc.ow_rd Ab) b hb⟩) (Enc.ow_nd Ab)
 refine nn (wr (pN 1 k z fun a k=>oE h fun Aw Am h=>s_call k call256 z z z z z (c_slices_Compact_int_int fu _ (Enc.ow_agr Ab (m.a 0 z)) Am) fun Aq At hR=>?_))
 obtain ⟨Au,Aj,rfl,e,Ac,Ak⟩:=hR
 refine ⟨_,z,fun a k=>?_⟩
 have m:=m.mut 0 z e _ (fun b hb=>⟨Ak b hb,Enc.rd_lt (Enc.ow_rd Ac) b hb⟩) (Enc.ow_nd Ac)
 refine pN 1 k z fun a k=>nn (wp_ret ?_)
 cases h
 exact finR1 k z (RV.tmp k z) ⟨_,Aj,z,m.ext,(Enc.ow_agr Ac (m.a 0 z)),(m.fresh 0 z)⟩
theorem c_impl_Present (fu:Nat) {w0:World} (r1:Request) {Ak:List Value} {F3:List Nat} (Bh:rd w0 F3 Ak r1) {r:(List Int)}
    (h:d_impl_Present fu r1 = some r) :
    Calls Tryz.prog 68 #[.agg Ak.toArray] w0 fun e w=>∃ (v0:Value) (G0:List Nat),e = .returned (v0) ∧ Ext [] w0 w ∧ ow w G0 [v0] r ∧ (∀ b ∈ G0,w0.heap.size ≤ b):=by
 refine enter (vs:=[_]) func68 z ntmps68 z fun a k=>?_
 have m:=St.start w0
 obtain ⟨v5,F6,v7,F8,v9,Bq,rfl,rfl,Ai,Aq,Ab⟩:=Bh
 unfold d_impl_Present at h
 refine wr (s_box (cs:=[I r1.fWay,I r1.fPallet.fW,I r1.fPallet.fD,I r1.fPallet.fH,I r1.fPallet.fGram,I r1.fClasses,v5,v7,I r1.fMaster,v9]) m k z z z z z z fun Bp Bl a k m e Ap=>pN 1 k z fun a k=>nn (wp_seq (wr (sv k z (r_ldB ta38 m 0 Ap 0 k z z z z z z) fun a k=>oE h fun Bk Bb h=>?_))))
 refine cE k m call115 z z z (c_impl_sound fu _ (show rd _ _ [I r1.fWay,I r1.fPallet.fW,I r1.fPallet.fD,I r1.fPallet.fH,I r1.fPallet.fGram,I r1.fClasses,v5,v7,I r1.fMaster,v9] (r1:Request) from ⟨_,_,_,_,_,_,z,z,(Enc.rd_agr Ai (m.a00 (Enc.rd_lt Ai))),(Enc.rd_agr Aq (m.a00 (Enc.rd_lt Aq))),(Enc.rd_agr Ab (m.a00 (Enc.rd_lt Ab)))⟩) Bb) fun Bm e a k m=>pN 1 k z fun a k=>nn (cI h k z (fun Be h=>?_) fun Be h=>?_)
 · refine wr (pN 1 k z fun a k=>nn (wp_ret (rt_then ?_)))
   cases h
   exact finR1 k z (RV.tmp k z) ⟨_,[],z,m.ext,(ow_nil _),(by simp)⟩
 refine wp_skip (nm_then ?_)
 refine wr (s_bs (cs:=[]) (ps:=[]) te63 m k z z z z z z z (by decide) z (by exact (List.forall_mem_nil _)) fun Ao Aw Bs a k m e Bj=>?_)
 have Bi:=ow_bx Bj ([]:List Int) z z z
 refine pN 1 k z fun a k=>nn (wp_seq (wr (sv k z (r_fa fa38_6 k z z) fun a k=>sv k z (r_ldb t136 m 1 Ap 9 k z z z z z) fun a k=>sv k z (r_len (α:=Item) Ab k underlying36 z z) fun a k=>pN 1 k z fun a k=>nn (wp_block (c_loop (fun n a w=>∃ (Af:List Int) (Ah:Value) (Ae:List Nat) (Ag:World) (Ac:Int),K 25 [(3,Ah),(11,v9),(12,I ((r1.fItems.length:Int))),(13,I Ac)] a ∧ St [] w0 w [(Ae,Ag)] ∧ ow Ag Ae [Ah] Af ∧ d_impl_Present_L1 fu r1 n Af Ac = some r) ?_ ?_ fu _ _ ?_)))))
 · rintro a w ⟨_,_,_,_,_,_,_,_,h⟩
   exact nS h
 · rintro Bt a Bn ⟨Af,Ah,Ae,Ag,Ac,k,m,Al,h⟩
   rw [d_impl_Present_L1_s] at h
   unfold d_impl_Present_L1_B at h
   refine wr (pN 1 k z fun a k=>nn (wp_seq (cI h k z (fun Au h=>?_) fun Au h=>?_)))
   · refine wp_skip (nm_then ?_)
     refine wp_seq (wp_block (wr (oE h fun Aa Aj h=>sv k z (r_ixa Ab Aj k ts36 z z z) fun a k=>sv k z (r_lde Ab (m.a00 (Enc.rd_lt Ab)) Aj ta158 k z z) fun a k=>s_alloc (cs:=[I 0,I 0,I 0,I 0,I 0,I 0,I 0]) m k zeroValue158 z z z z z fun Bv Bu a k m e Ar=>s_stb (cs':=[I Aa.fId,I Aa.fW,I Aa.fH,I Aa.fD,I Aa.fGram,I Aa.fClass,I Aa.fCount]) sizeOf158 m 0 Ar 0 k z z z z z z z z z z z fun Br a k e m Bd=>nn (wp_region_lit (pN 1 k z fun a k=>sv k z (r_fa fa158_5 k z z) fun a k=>sv k z (r_ldb t13 m 0 Bd 5 k z z z z z) fun a k=>?_)))))
     refine s_bs (cs:=[I Aa.fClass]) (ps:=[(0,.tmp 19)]) te63 m k z z z z z z z (by decide) z (by exact (List.forall_mem_cons.2 ⟨z,(List.forall_mem_nil _)⟩)) fun Ca Bz By a k m e Bg=>?_
     have Az:=ow_bx Bg ([Aa.fClass]:List Int) z z z
     refine oE h fun Ay Ba h=>s_appF Ba te63 z m 2 Al (News.rd (Enc.rd_agr (Enc.ow_rd Az) (m.a 0 z))) z z k z z z z z z z fun At Av Ax a k e m Bc=>pN 1 k z fun a k=>wpList_nil (nm_block (nm_then ?_))
     refine wp_region_lit (pN 2 k z fun a k=>nn ?_)
     exact ⟨Ay,At,Av,Ax,w64 (Ac + 1),k.keep [3,11,12,13] z,m.sel [2] z (by decide),Bc,h⟩
   refine wp_exit (ex_then (ex_then (ex_same (nm_then ?_))))
   refine wr (pN 1 k z fun a k=>oE h fun Bw Bf h=>s_call k call178 z z z z z (c_impl_kinds fu _ (Enc.rd_agr (Enc.ow_rd Al) (m.a 0 z)) Bf) fun Cb Bo hR=>?_)
   obtain ⟨Bx,Am,rfl,e,Ad,As⟩:=hR
   refine ⟨_,z,fun a k=>?_⟩
   have m:=m.new e Am (fun b hb=>⟨As b hb,Enc.rd_lt (Enc.ow_rd Ad) b hb⟩) (Enc.ow_nd Ad)
   refine pN 1 k z fun a k=>nn (wp_ret ?_)
   cases h
   exact finR1 k z (RV.tmp k z) ⟨_,Am,z,m.ext,(Enc.ow_agr Ad (m.a 0 z)),(m.fresh 0 z)⟩
 exact ⟨([]:List Int),(.slice (some ⟨Ao,0,none⟩) 0 0),[Ao],Aw,0,k.keep [3,11,12,13] z,m.sel [0] z (by decide),Bi,h⟩
theorem c_impl_mutual (fu:Nat) {w0:World} (Ac:List Pair) (a5:Int) (b6:Int) {v2:Value} {F3:List Nat} (Ab:rd w0 F3 [v2] Ac) {r:Bool}
    (h:d_impl_mutual fu Ac a5 b6 = some r) :
    Calls Tryz.prog 253 #[v2,I a5,I b6] w0 fun e w=>e = .returned (.bool (r)) ∧ Ext [] w0 w:=by
 refine enter (vs:=[_,_,_]) func253 z ntmps253 z fun a k=>?_
 have m:=St.start w0
 unfold d_impl_mutual at h
 refine wr (pN 1 k z fun a k=>nn (wr (pN 3 k z fun a k=>oE h fun x7 Ad h=>cE k m call179 z z z (c_impl_Beside fu _ _ _ (Enc.rd_agr Ab (m.a00 (Enc.rd_lt Ab))) Ad) fun Af e a k m=>pN 1 k z fun a k=>bsplit (x7) (fun Aa=>?_) (fun Aa=>?_))))
 · have h:=bif_t Aa h
   refine rB k 11 z Aa fun k=>pN 3 k z fun a k=>oE h fun Ag Ae h=>cE k m call179 z z z (c_impl_Beside fu _ _ _ (Enc.rd_agr Ab (m.a00 (Enc.rd_lt Ab))) Ae) fun Ah e a k m=>pN 2 k z fun a k=>nn (wp_ret (fS h k m z z))
 have h:=bif_f Aa h
 refine rB k 11 z Aa fun k=>pN 6 k z fun a k=>nn (wp_ret (fS h k m z z))
theorem c_impl_Groups_1_1 (fu:Nat) {w0:World} (x1:Int) (x2:List Pair) (x8:Int) {v5:Value} {F6:List Nat} {b3:Nat} (Ac:bx w0 b3 [v5] 34) (Ab:rd w0 F6 [v5] x2) {b9:Nat} (Aa:bx w0 b9 [I x8] 3) {r:Bool}
    (h:d_impl_Groups_1_1 fu x1 x2 x8 = some r) :
    Calls Tryz.prog 294 #[I x1,.pointer (some (⟨b3,0,none⟩:Addr)),.pointer (some (⟨b9,0,none⟩:Addr))] w0 fun e w=>e = .returned (.bool (r)) ∧ Ext [] w0 w:=by
 refine enter (vs:=[_,_,_]) func294 z ntmps294 z fun a k=>?_
 have m:=St.start w0
 unfold d_impl_Groups_1_1 at h
 refine wr (pN 1 k z fun a k=>nn (wr (sv k z (r_ld1 t134 (r:=[]) (Ac.at (m.a00 Ac.lt1) 0 1 z z z) k z z) fun a k=>sv k z (r_ld1 t13 (r:=[]) (Aa.at (m.a00 Aa.lt1) 0 1 z z z) k z z) fun a k=>pN 1 k z fun a k=>oE h fun Af Ad h=>cE k m call253 z z z (c_impl_mutual fu _ _ _ (Enc.rd_agr Ab (m.a00 (Enc.rd_lt Ab))) Ad) fun Ae e a k m=>pN 2 k z fun a k=>nn (wp_ret (fS h k m z z)))))
theorem c_slices_ContainsFunc_int_int (fu:Nat) {w0:World} (Aa:List Int) (f5:Int → Option Bool) {v2:Value} {F3:List Nat} (Ab:rd w0 F3 [v2] Aa) {v6:Value} (Ad:FnOk1 Tryz.prog w0 v6 f5) {r:Bool}
    (h:d_slices_ContainsFunc_int_int fu Aa f5 = some r) :
    Calls Tryz.prog 172 #[v2,v6] w0 fun e w=>e = .returned (.bool (r)) ∧ Ext [] w0 w:=by
 refine enter (vs:=[_,_]) func172 z ntmps172 z fun a k=>?_
 have m:=St.start w0
 obtain ⟨Aj,Al,rfl,Ae,Ag⟩:=Ad
 unfold d_slices_ContainsFunc_int_int at h
 refine wr (pN 1 k z fun a k=>nn (wr (pN 2 k z fun a k=>oE h fun Ak Ac h=>cE k m call241 z z z (c_slices_IndexFunc_int_int fu _ _ (Enc.rd_agr Ab (m.a00 (Enc.rd_lt Ab))) ⟨_,_,z,Ae,fun w Af Ah r e=>Ag w Af Ah r (m.ext.trans e (by simp))⟩ Ac) fun Ai e a k m=>pN 2 k z fun a k=>nn (wp_ret (fS h k m z z)))))
theorem c_impl_Groups_1 (fu:Nat) {w0:World} (l1:List Int) (x5:List Pair) (Af:Int) {v2:Value} {F3:List Nat} (Ae:rd w0 F3 [v2] l1) {v8:Value} {F9:List Nat} {b6:Nat} (Ad:bx w0 b6 [v8] 34) (Ac:rd w0 F9 [v8] x5) {Aa:Nat} (Ab:bx w0 Aa [I Af] 3) {r:Bool}
    (h:d_impl_Groups_1 fu l1 x5 Af = some r) :
    Calls Tryz.prog 293 #[v2,.pointer (some (⟨b6,0,none⟩:Addr)),.pointer (some (⟨Aa,0,none⟩:Addr))] w0 fun e w=>e = .returned (.bool (r)) ∧ Ext [] w0 w:=by
 refine enter (vs:=[_,_,_]) func293 z ntmps293 z fun a k=>?_
 have m:=St.start w0
 unfold d_impl_Groups_1 at h
 refine wr (pN 1 k z fun a k=>nn (wr (pN 2 k z fun a k=>oE h fun Aj Ag h=>cE k m call172 z z z (c_slices_ContainsFunc_int_int fu _ _ (Enc.rd_agr Ae (m.a00 (Enc.rd_lt Ae))) ⟨294,[.pointer (some (⟨b6,0,none⟩:Addr)),.pointer (some (⟨Aa,0,none⟩:Addr))],z,call294,fun w Ai Al r e Ah hx=>by subst Ah; have m:=m.step e; exact c_impl_Groups_1_1 fu _ _ _ (Ad.agr (m.a00 Ad.lt1) (by simp)) (Enc.rd_agr Ac (m.a00 (Enc.rd_lt Ac))) (Ab.agr (m.a00 Ab.lt1) (by simp)) hx⟩ Ag) fun Ak e a k m=>pN 2 k rfl fun a k=>nn (wp_ret (fS h k m rfl rfl)))))
theorem c_slices_IndexFunc_ints_int (fu:Nat) {w0:World} (Ab:List (List Int)) (f5:(List Int) → Option Bool) {v2:Value} {F3:List Nat} (Ac:rd w0 F3 [v2] Ab) {v6:Value} (Ao:FnOk1 Tryz.prog w0 v6 f5) {r:Int}
    (h:d_slices_IndexFunc_ints_int fu Ab f5 = some r) :
    Calls Tryz.prog 246 #[v2,v6] w0 fun e w=>e = .returned (I r) ∧ Ext [] w0 w:=by
 refine enter (vs:=[_,_]) func246 z ntmps246 z fun a k=>?_
 have m:=St.start w0
 obtain ⟨Ag,Ah,rfl,Aj,Ak⟩:=Ao
 unfold d_slices_IndexFunc_ints_int at h
 refine wr (pN 1 k z fun a k=>nn (wp_seq (wr (pN 1 k z fun a k=>sv k z (r_len (α:=List Int) Ac k underlying29 z z) fun a k=>pN 1 k z fun a k=>nn (wp_block (c_loop (fun n a w=>∃ (Aa:Int),K 19 [(0,v2),(1,(.func (.func Ag) #[] Ah.toArray)),(7,I ((Ab.length:Int))),(8,I Aa)] a ∧ St [] w0 w [] ∧ d_slices_IndexFunc_ints_int_L1 fu Ab f5 n Aa = some r) ?_ ?_ fu _ _ ?_))))))
 · rintro a w ⟨_,_,_,h⟩
   exact nS h
 · rintro Au a Ax ⟨Aa,k,m,h⟩
   rw [d_slices_IndexFunc_ints_int_L1_s] at h
   unfold d_slices_IndexFunc_ints_int_L1_B at h
   refine wr (pN 1 k z fun a k=>nn (wp_seq (cI h k z (fun Af h=>?_) fun Af h=>?_)))
   · refine wp_skip (nm_then ?_)
     refine wp_seq (wp_block (wr (pN 2 k z fun a k=>nn (wr (pN 3 k z fun a k=>oE h fun As Ae h=>sv k z (r_ixa Ac Ae k ts29 z z z) fun a k=>?_)))))
     obtain ⟨Ar,Al,At,Ad,Ai,Ap⟩:=rd_get Ac (ix_some Ae).2.2
     obtain ⟨Az,rfl⟩:∃ v,Al = [v]:=by obtain ⟨_,_,hq,_⟩:=Ad; exact ⟨_,hq⟩
     refine sv k z (r_ld1 t163 (Ai.agr (m.a00 (Enc.rd_lt Ac)) Ap) k z z) fun a k=>oE h fun Av Aq h=>s_callv k Aj z z z z z z (Ak _ _ _ _ m.ext ⟨_,(Enc.rd_agr Ad (m.a00 (Enc.rd_lt Ad)))⟩ Aq) fun Ay Aw hR=>?_
     obtain ⟨rfl,e⟩:=hR
     refine ⟨_,z,fun a k=>?_⟩
     have m:=m.step e
     refine nn (cI h k z (fun Am h=>?_) fun Am h=>?_)
     · refine wr (pN 2 k z fun a k=>nn (wp_ret (rt_block (rt_then (rt_then (rt_block (rt_then ?_)))))))
       refine fS h k m z z
     refine wp_skip (nm_block (nm_then ?_))
     refine wp_region_lit (pN 2 k z fun a k=>nn ?_)
     exact ⟨w64 (Aa + 1),k.keep [0,1,7,8] z,m.sel [] z (by decide),h⟩
   refine wp_exit (ex_then (ex_then (ex_same (nm_then ?_))))
   refine wr (pN 1 k z fun a k=>nn (wp_ret (fS h k m z z)))
 exact ⟨0,k.keep [0,1,7,8] z,m.sel [] z (by decide),h⟩
theorem c_impl_Groups (fu:Nat) {w0:World} (At:List Pair) (Bh:List Int) {v2:Value} {F3:List Nat} (Au:rd w0 F3 [v2] At) {v6:Value} {F7:List Nat} (Ba:rd w0 F7 [v6] Bh) {r:(List (List Int))}
    (h:d_impl_Groups fu At Bh = some r) :
    Calls Tryz.prog 245 #[v2,v6] w0 fun e w=>∃ (v0:Value) (G0:List Nat),e = .returned (v0) ∧ Ext [] w0 w ∧ ow w G0 [v0] r ∧ (∀ b ∈ G0,w0.heap.size ≤ b):=by
 refine enter (vs:=[_,_]) func245 z ntmps245 z fun a k=>?_
 have m:=St.start w0
 unfold d_impl_Groups at h
 refine wr (s_box (cs:=[v2]) m k z z z z z (rd_c Au) fun b9 As a k m e Ci=>pN 1 k z fun a k=>nn (wr (s_bs (cs:=[]) (ps:=[]) te29 m k z z z z z z z (by decide) z (by exact (List.forall_mem_nil _)) fun Az Cl Ex a k m e Cj=>?_)))
 have Bs:=ow_bx0 (α:=List Int) Cj
 refine pN 1 k z fun a k=>nn (wp_seq (wr (pN 1 k z fun a k=>oE h fun Am Cw h=>s_call k call178 z z z z z (c_impl_kinds fu _ (Enc.rd_agr Ba (m.a00 (Enc.rd_lt Ba))) Cw) fun Eg Ar hR=>?_)))
 obtain ⟨Bj,Ai,rfl,e,Ah,Cz⟩:=hR
 refine ⟨_,z,fun a k=>?_⟩
 have m:=m.new e Ai (fun b hb=>⟨Cz b hb,Enc.rd_lt (Enc.ow_rd Ah) b hb⟩) (Enc.ow_nd Ah)
 refine sv k z (r_len (α:=Int) (Enc.ow_rd Ah) k underlying63 z z) fun a k=>pN 1 k z fun a k=>nn (wp_block (c_loop (fun n a w=>∃ (Ae:List (List Int)) (Af:Value) (Ac:List Nat) (Ao:World) (Ag:Int),K 42 [(2,.pointer (some (⟨b9,0,none⟩:Addr))),(5,Af),(11,Bj),(12,I ((Am.length:Int))),(13,I Ag)] a ∧ St [] w0 w [([b9],As),(Ai,Ar),(Ac,Ao)] ∧ ow Ao Ac [Af] Ae ∧ d_impl_Groups_L1 fu At Am n Ae Ag = some r) ?_ ?_ fu _ _ ?_))
 · rintro a w ⟨_,_,_,_,_,_,_,_,h⟩
   exact nS h
 · rintro Bq a Eh ⟨Ae,Af,Ac,Ao,Ag,k,m,Aa,h⟩
   rw [d_impl_Groups_L1_s] at h
   unfold d_impl_Groups_L1_B at h
   refine wr (pN 1 k z fun a k=>nn (wp_seq (cI h k z (fun Ec h=>?_) fun Ec h=>?_)))
   · refine wp_skip (nm_then ?_)
     refine c_cut (fun a w=>∃ (Aq:List (List Int)) (Aj:Value) (Ak:List Nat) (Al:World),K 42 [(2,.pointer (some (⟨b9,0,none⟩:Addr))),(5,Aj),(11,Bj),(12,I ((Am.length:Int))),(13,I Ag)] a ∧ St [] w0 w [([b9],As),(Ai,Ar),(Ak,Al)] ∧ ow Al Ak [Aj] Aq ∧ d_impl_Groups_J1 fu (d_impl_Groups_L1 fu At Am Bq) Ag Aq = some r) ?_ ?_
     · rintro a Fd ⟨Aq,Aj,Ak,Al,k,m,Eb,h⟩
       unfold d_impl_Groups_J1 at h
       refine wp_region_lit (pN 2 k z fun a k=>nn ?_)
       exact ⟨Aq,Aj,Ak,Al,w64 (Ag + 1),k.keep [2,5,11,12,13] z,m.sel [0,1,2] z (by decide),Eb,h⟩
     refine wp_block (wr (oE h fun Ad Be h=>sv k z (r_ixa (Enc.ow_rd Ah) Be k ts63 z z z) fun a k=>sv k z (r_lde1 (Enc.ow_rd Ah) (m.a 1 z) Be 0 t13 k z z z z) fun a k=>s_alloc (cs:=[I 0]) m k zeroValue3 z z z z z fun Av Ew a k m e Ce=>s_stb (cs':=[I Ad]) sizeOf3 m 0 Ce 0 k z z z z z z z z z z z fun Bc a k e m Ap=>nn (wp_seq (wr (sv k z (r_ldb t13 m 0 Ap 0 k z z z z z) fun a k=>oE h fun Fh Da h=>cE k m call139 z z z (c_impl_in fu _ _ _  Da) fun Fu e a k m=>pN 1 k z fun a k=>nn (cI h k z (fun Dj h=>?_) fun Dj h=>?_))))))
     · refine wp_exit (ex_then (ex_same (nm_then ?_)))
       exact ⟨Ae,Af,Ac,Ao,k.keep [2,5,11,12,13] z,m.sel [1,2,3] z (by decide),Aa,h⟩
     refine wp_skip (nm_then ?_)
     refine wr (pN 2 k z fun a k=>oE h fun Bg Cb h=>cE k m call246 z z z (c_slices_IndexFunc_ints_int fu _ _ (Enc.rd_agr (Enc.ow_rd Aa) (m.a 3 z)) ⟨293,[.pointer (some (⟨b9,0,none⟩:Addr)),.pointer (some (⟨Av,0,none⟩:Addr))],z,call293,fun w Fx Fp r e Ay hx=>by obtain ⟨_,Ay⟩:=Ay; have m:=m.step e; exact c_impl_Groups_1 fu _ _ _ Ay (Ci.agr (m.a 1 z) (by simp)) (Enc.rd_agr Au (m.a00 (Enc.rd_lt Au))) (Ap.agr (m.a 0 z) (by simp)) hx⟩ Cb) fun Fw e a k m=>pN 1 k z fun a k=>nn (wr (pN 2 k z fun a k=>nn (cI h k z (fun Bt h=>?_) fun Bt h=>?_))))
     · refine wp_region_lit (pN 1 k z fun a k=>sv k z (r_ldb t13 m 0 Ap 0 k z z z z z) fun a k=>s_bs (cs:=[I Ad]) (ps:=[(0,.tmp 26)]) te63 m k z z z z z z z (by decide) z (by exact (List.forall_mem_cons.2 ⟨z,(List.forall_mem_nil _)⟩)) fun Bk Gf Gd a k m e Cc=>?_)
       have Bf:=ow_bx Cc ([Ad]:List Int) z z z
       refine s_bs (cs:=[(.slice (some ⟨Bk,0,none⟩) 1 1)]) (ps:=[(0,.tmp 27)]) te29 m k z z z z z z z (by decide) z (by exact (List.forall_mem_cons.2 ⟨congrArg Array.size (rd_c (Enc.ow_rd Bf)),(List.forall_mem_nil _)⟩)) fun El Fb Fc a k m e Dg=>oE h fun Ck Ed h=>?_
       have Dm:=Enc.ow_agr Bf (m.a 1 z)
       have Cv:=News.box Dg (m.a 0 z) (by simp) (m:=1)
       have Ds:=m.a 5 z
       have m:=m.sel [5,1,0,2,3,4] z (by decide)
       have m:=m.join2
       refine s_appO (F:=Ac) (G:=[Bk]) Ed te29 z m Aa Ds Cv Dm (Agr.refl _ _) k z z z z z z fun Bv Ch Bm a k e m Cy=>pN 1 k z fun a k=>wpList_nil (nm_block (nm_then ?_))
       exact ⟨Ck,Bv,Ch,Bm,k.keep [2,5,11,12,13] z,m.sel [3,4,0] z (by decide),Cy,h⟩
     refine d_go (Ac) mixo m z fun Dv hMd=>?_
     have m:=hMd
     have s:=Ext.refl ((Ac):List Nat) Dv
     refine dN [0,1,2,3] 4 z k (by kernel_rfl) z s (fun _ _ _ _ _=>id) fun a k=>oE h fun Fn Ab h=>dt k 4 z (by kernel_rfl) z s (fun _ _ _=>id) (fun w s=>r_ixa (Enc.ow_rd Aa) Ab k ts29 z z z) fun a k=>?_
     obtain ⟨Fz,Cs,Ek,Bo,Fq,Eo⟩:=rd_get (Enc.ow_rd Aa) (ix_some Ab).2.2
     obtain ⟨Es,rfl⟩:∃ v,Cs = [v]:=by obtain ⟨_,_,hq,_⟩:=Bo; exact ⟨_,hq⟩
     refine dt k 6 z (by kernel_rfl) z s (fun _ _ _=>id) (fun w s=>r_ld1 t13 (r:=[]) (Ap.at (hMd.az 0 3 z z z s) 0 1 z z z) k z z) fun a k=>?_
     obtain ⟨Fe,Ef,Ge,Dq,Ev,Er⟩:=rd_get (Enc.ow_rd Aa) (ix_some Ab).2.2
     obtain ⟨Fm,rfl⟩:∃ v,Ef = [v]:=by obtain ⟨_,_,hq,_⟩:=Dq; exact ⟨_,hq⟩
     refine d_two 5 7 (by kernel_rfl) z z ?_ ?_ 
     · obtain ⟨Fj,Ea,Gc,Cn,Bd,Cq⟩:=rd_get (Enc.ow_rd Aa) (ix_some Ab).2.2
       obtain ⟨Gb,rfl⟩:∃ v,Ea = [v]:=by obtain ⟨_,_,hq,_⟩:=Cn; exact ⟨_,hq⟩
       refine sv k z (r_ld1 t163 (Bd.agr (m.a 3 z) Cq) k z z) fun a k=>wpList_nil ⟨s,?_⟩
       refine d_one 7 (by kernel_rfl) z (s_bsN (cs:=[I Ad]) (ps:=[(0,.tmp 36)]) te63 m k z z z z z z z (by decide) z (by exact (List.forall_mem_cons.2 ⟨z,(List.forall_mem_nil _)⟩)) fun Dn De Ei a k m e Ca Dh=>?_)
       have Fg:=lo1 (Nat.le_trans s.size Dh)
       have Cx:=ow_bx Ca ([Ad]:List Int) z z z
       have s:=s.trans e (by simp)
       refine wpList_nil ⟨s,?_⟩
       refine d_one 8 (by kernel_rfl) z ?_
       obtain ⟨Ff,Ft,m,Dr,Cr,Cd,Bl⟩:=m.opnS 4 z Aa Ab Bd z (M':=[([Dn],De),([Av],Bc),([b9],As),(Ai,Ar)]) z
       refine oE h fun Bx Dp h=>s_appFN Dp te63 z m 1 Cr (News.rd (Enc.rd_agr (Enc.ow_rd Cx) (m.a 2 z))) z z k z z z z z z z fun Ee Cg Fi a k e m Ax Dy=>?_
       have Fo:∀ y ∈ Cg,y ∈ (Ac) ∨ _ ≤ y:=fun y hy=>(Dy y hy).elim (fun hy=>(fun y hy=>(fun y hy=>Or.inl hy) y (Bl y hy)) y hy) (fun h=>Or.inr (Nat.le_trans s.size h))
       have s:=s.trans e (fun y hy=>(fun y hy=>Or.inl hy) y (Bl y hy))
       refine wpList_nil ⟨s,?_⟩
       refine oE h fun Ej Fr h=>dt k 9 z (by kernel_rfl) z s (fun _ _ _=>id) (fun w s=>r_ixa (Enc.ow_rd Aa) Ab k ts29 z z z) fun a k=>d_one 10 (by kernel_rfl) z (s_stH1 (α:=List Int) (sz:=1) (cs':=[Ee]) sizeOf63 m 0 Dr 0 k (rd_c (Enc.ow_rd Ax)) (rd_o (Enc.ow_rd Ax)) z z z z z z z z z z fun Du a k e m Co=>?_)
       obtain ⟨Dc,m,Bw⟩:=(m.sel [0,1,2,3,4,5] z (by decide)).cls Co Ax
       have s:=s.trans e (fun y hy=>(fun y hy=>Or.inl hy) y (Cd y hy))
       refine wpList_nil ⟨s,?_⟩
       refine d_done (by kernel_rfl) ?_
       have k:=k.keep [2,11,12,5,13] z
       refine (nm_block (nm_then ?_))
       exact ⟨setx Ae Bg Bx,Af,Dc,Du,k.keep [2,5,11,12,13] z,m.sel [3,4,0] z (by decide),Bw,h⟩
     refine s_bsN (cs:=[I Ad]) (ps:=[(0,.tmp 36)]) te63 m k z z z z z z z (by decide) z (by exact (List.forall_mem_cons.2 ⟨z,(List.forall_mem_nil _)⟩)) fun Ct Bn Fv a k m e Dz Dw=>?_
     have Gg:=lo1 (Nat.le_trans s.size Dw)
     have Dd:=ow_bx Dz ([Ad]:List Int) z z z
     have s:=s.trans e (by simp)
     refine wpList_nil ⟨s,?_⟩
     obtain ⟨Fl,Dx,Em,Br,Fk,Ey⟩:=rd_get (Enc.ow_rd Aa) (ix_some Ab).2.2
     obtain ⟨Ez,rfl⟩:∃ v,Dx = [v]:=by obtain ⟨_,_,hq,_⟩:=Br; exact ⟨_,hq⟩
     refine d_one 5 (by kernel_rfl) z ?_
     obtain ⟨Ga,Cu,Eu,Do,Bb,Cp⟩:=rd_get (Enc.ow_rd Aa) (ix_some Ab).2.2
     obtain ⟨Fa,rfl⟩:∃ v,Cu = [v]:=by obtain ⟨_,_,hq,_⟩:=Do; exact ⟨_,hq⟩
     refine sv k z (r_ld1 t163 (Bb.agr (m.a 4 z) Cp) k z z) fun a k=>wpList_nil ⟨s,?_⟩
     refine d_one 8 (by kernel_rfl) z ?_
     obtain ⟨Ep,Fy,m,By,Bz,Dk,Bi⟩:=m.opnS 4 z Aa Ab Bb z (M':=[([Ct],Bn),([Av],Bc),([b9],As),(Ai,Ar)]) z
     refine oE h fun Di Cm h=>s_appFN Cm te63 z m 1 Bz (News.rd (Enc.rd_agr (Enc.ow_rd Dd) (m.a 2 z))) z z k z z z z z z z fun Dl Db Fs a k e m Aw Bu=>?_
     have Gh:∀ y ∈ Db,y ∈ (Ac) ∨ _ ≤ y:=fun y hy=>(Bu y hy).elim (fun hy=>(fun y hy=>(fun y hy=>Or.inl hy) y (Bi y hy)) y hy) (fun h=>Or.inr (Nat.le_trans s.size h))
     have s:=s.trans e (fun y hy=>(fun y hy=>Or.inl hy) y (Bi y hy))
     refine wpList_nil ⟨s,?_⟩
     refine oE h fun En Et h=>dt k 9 z (by kernel_rfl) z s (fun _ _ _=>id) (fun w s=>r_ixa (Enc.ow_rd Aa) Ab k ts29 z z z) fun a k=>d_one 10 (by kernel_rfl) z (s_stH1 (α:=List Int) (sz:=1) (cs':=[Dl]) sizeOf63 m 0 By 0 k (rd_c (Enc.ow_rd Aw)) (rd_o (Enc.ow_rd Aw)) z z z z z z z z z z fun Bp a k e m Df=>?_)
     obtain ⟨Dt,m,Cf⟩:=(m.sel [0,1,2,3,4,5] z (by decide)).cls Df Aw
     have s:=s.trans e (fun y hy=>(fun y hy=>Or.inl hy) y (Dk y hy))
     refine wpList_nil ⟨s,?_⟩
     refine d_done (by kernel_rfl) ?_
     have k:=k.keep [2,11,12,5,13] z
     refine (nm_block (nm_then ?_))
     exact ⟨setx Ae Bg Di,Af,Dt,Bp,k.keep [2,5,11,12,13] z,m.sel [3,4,0] z (by decide),Cf,h⟩
   refine wp_exit (ex_then (ex_then (ex_same (nm_then ?_))))
   refine wr (pN 2 k z fun a k=>nn (wp_ret ?_))
   cases h
   exact finR1 k z (RV.tmp k z) ⟨_,Ac,z,m.ext,(Enc.ow_agr Aa (m.a 2 z)),(m.fresh 2 z)⟩
 exact ⟨([]:List (List Int)),(.slice (some ⟨Az,0,none⟩) 0 0),[Az],Cl,0,k.keep [2,5,11,12,13] z,m.sel [2,0,1] z (by decide),Bs,h⟩
theorem c_impl_GroupsOf (fu:Nat) {w0:World} (r1:Request) {Ai:List Value} {F3:List Nat} (Aq:rd w0 F3 Ai r1) {r:(List (List Int))}
    (h:d_impl_GroupsOf fu r1 = some r) :
    Calls Tryz.prog 162 #[.agg Ai.toArray] w0 fun e w=>∃ (v0:Value) (G0:List Nat),e = .returned (v0) ∧ Ext [] w0 w ∧ ow w G0 [v0] r ∧ (∀ b ∈ G0,w0.heap.size ≤ b):=by
 refine enter (vs:=[_]) func162 z ntmps162 z fun a k=>?_
 have m:=St.start w0
 obtain ⟨v5,F6,v7,F8,v9,Bc,rfl,rfl,Aa,Ac,Ab⟩:=Aq
 unfold d_impl_GroupsOf at h
 refine wr (s_box (cs:=[I r1.fWay,I r1.fPallet.fW,I r1.fPallet.fD,I r1.fPallet.fH,I r1.fPallet.fGram,I r1.fClasses,v5,v7,I r1.fMaster,v9]) m k z z z z z z fun Ba Av a k m e Ag=>pN 1 k z fun a k=>nn (wp_seq (wr (sv k z (r_ldB ta38 m 0 Ag 0 k z z z z z z) fun a k=>oE h fun At Ao h=>?_))))
 refine cE k m call115 z z z (c_impl_sound fu _ (show rd _ _ [I r1.fWay,I r1.fPallet.fW,I r1.fPallet.fD,I r1.fPallet.fH,I r1.fPallet.fGram,I r1.fClasses,v5,v7,I r1.fMaster,v9] (r1:Request) from ⟨_,_,_,_,_,_,z,z,(Enc.rd_agr Aa (m.a00 (Enc.rd_lt Aa))),(Enc.rd_agr Ac (m.a00 (Enc.rd_lt Ac))),(Enc.rd_agr Ab (m.a00 (Enc.rd_lt Ab)))⟩) Ao) fun Aw e a k m=>pN 1 k z fun a k=>nn (cI h k z (fun Ap h=>?_) fun Ap h=>?_)
 · refine wr (pN 1 k z fun a k=>nn (wp_ret (rt_then ?_)))
   cases h
   exact finR1 k z (RV.tmp k z) ⟨_,[],z,m.ext,(ow_nil _),(by simp)⟩
 refine wp_skip (nm_then ?_)
 refine wp_seq (d_go [] mixo m z fun Al hMd=>?_)
 have m:=hMd
 have s:=Ext.refl ([]:List Nat) Al
 refine dt k 0 z (by kernel_rfl) z s (fun _ _ _=>id) (fun w s=>r_fa fa38_3 k z z) fun a k=>dt k 1 z (by kernel_rfl) z s (fun _ _ _=>id) (fun w s=>r_ld1 t134 (r:=[]) (Ag.at ((hMd.step s).a 0 z) 6 1 z z z) k z z) fun a k=>dt k 2 z (by kernel_rfl) z s (fun _ _ _=>id) (fun w s=>r_ldA ta38 (Ag.at ((hMd.step s).a 0 z) 0 10 z z z) z k z z) fun a k=>d_one 3 (by kernel_rfl) z (oE h fun Bf Am h=>?_)
 refine s_call k call68 z z z z z (c_impl_Present fu _ (show rd _ _ [I r1.fWay,I r1.fPallet.fW,I r1.fPallet.fD,I r1.fPallet.fH,I r1.fPallet.fGram,I r1.fClasses,v5,v7,I r1.fMaster,v9] (r1:Request) from ⟨_,_,_,_,_,_,z,z,(Enc.rd_agr Aa (m.a00 (Enc.rd_lt Aa))),(Enc.rd_agr Ac (m.a00 (Enc.rd_lt Ac))),(Enc.rd_agr Ab (m.a00 (Enc.rd_lt Ab)))⟩) Am) fun Be Au hR=>?_
 obtain ⟨As,Ah,rfl,e,Ae,Ak⟩:=hR
 refine ⟨_,z,fun a k=>?_⟩
 have m:=m.new e Ah (fun b hb=>⟨Ak b hb,Enc.rd_lt (Enc.ow_rd Ae) b hb⟩) (Enc.ow_nd Ae)
 have Bb:=fun (y:Nat) (hy:y ∈ Ah)=>Nat.le_trans s.size (Ak y hy)
 have s:=s.trans e (by simp)
 refine wpList_nil ⟨s,?_⟩
 refine d_one 4 (by kernel_rfl) z (oE h fun Az Ar h=>s_call k call245 z z z z z (c_impl_Groups fu _ _ (Enc.rd_agr Aa (m.a00 (Enc.rd_lt Aa))) (Enc.rd_agr (Enc.ow_rd Ae) (m.a 0 z)) Ar) fun Ay Bg hR=>?_)
 obtain ⟨Bd,Af,rfl,e,Ad,Aj⟩:=hR
 refine ⟨_,z,fun a k=>?_⟩
 have m:=m.new e Af (fun b hb=>⟨Aj b hb,Enc.rd_lt (Enc.ow_rd Ad) b hb⟩) (Enc.ow_nd Ad)
 have Ax:=fun (y:Nat) (hy:y ∈ Af)=>Nat.le_trans s.size (Aj y hy)
 have s:=s.trans e (by simp)
 refine wpList_nil ⟨s,?_⟩
 refine dN [5] 1 z k (by kernel_rfl) z s (fun _ _ _ _ _=>id) fun a k=>d_done (by kernel_rfl) ((nm_then ?_))
 refine wp_ret ?_
 cases h
 exact finR1 k z (RV.tmp k z) ⟨_,Af,z,m.ext,(Enc.ow_agr Ad (m.a 0 z)),(m.fresh 0 z)⟩
theorem c_slices_Index_int_int (fu:Nat) {w0:World} (Aa:List Int) (v5:Int) {v2:Value} {F3:List Nat} (Ac:rd w0 F3 [v2] Aa) {r:Int}
    (h:d_slices_Index_int_int fu Aa v5 = some r) :
    Calls Tryz.prog 242 #[v2,I v5] w0 fun e w=>e = .returned (I r) ∧ Ext [] w0 w:=by
 refine enter (vs:=[_,_]) func242 z ntmps242 z fun a k=>?_
 have m:=St.start w0
 unfold d_slices_Index_int_int at h
 refine wr (pN 1 k z fun a k=>nn (wp_seq (wr (pN 1 k z fun a k=>sv k z (r_len (α:=Int) Ac k underlying63 z z) fun a k=>pN 1 k z fun a k=>nn (wp_block (c_loop (fun n a w=>∃ (Ab:Int),K 19 [(0,v2),(1,I v5),(7,I ((Aa.length:Int))),(8,I Ab)] a ∧ St [] w0 w [] ∧ d_slices_Index_int_int_L1 fu Aa v5 n Ab = some r) ?_ ?_ fu _ _ ?_))))))
 · rintro a w ⟨_,_,_,h⟩
   exact nS h
 · rintro Ag a Ah ⟨Ab,k,m,h⟩
   rw [d_slices_Index_int_int_L1_s] at h
   unfold d_slices_Index_int_int_L1_B at h
   refine wr (pN 1 k z fun a k=>nn (wp_seq (cI h k z (fun Ae h=>?_) fun Ae h=>?_)))
   · refine wp_skip (nm_then ?_)
     refine wp_seq (wp_block (wr (pN 2 k z fun a k=>nn (wr (pN 3 k z fun a k=>oE h fun Ai Ad h=>sv k z (r_ixa Ac Ad k ts63 z z z) fun a k=>sv k z (r_lde1 Ac (m.a00 (Enc.rd_lt Ac)) Ad 0 t13 k z z z z) fun a k=>pN 1 k z fun a k=>nn (cI h k z (fun Af h=>?_) fun Af h=>?_))))))
     · refine wr (pN 2 k z fun a k=>nn (wp_ret (rt_block (rt_then (rt_then (rt_block (rt_then ?_)))))))
       refine fS h k m z z
     refine wp_skip (nm_block (nm_then ?_))
     refine wp_region_lit (pN 2 k z fun a k=>nn ?_)
     exact ⟨w64 (Ab + 1),k.keep [0,1,7,8] z,m.sel [] z (by decide),h⟩
   refine wp_exit (ex_then (ex_then (ex_same (nm_then ?_))))
   refine wr (pN 1 k z fun a k=>nn (wp_ret (fS h k m z z)))
 exact ⟨0,k.keep [0,1,7,8] z,m.sel [] z (by decide),h⟩
theorem c_slices_Contains_int_int (fu:Nat) {w0:World} (Aa:List Int) (v5:Int) {v2:Value} {F3:List Nat} (Ab:rd w0 F3 [v2] Aa) {r:Bool}
    (h:d_slices_Contains_int_int fu Aa v5 = some r) :
    Calls Tryz.prog 160 #[v2,I v5] w0 fun e w=>e = .returned (.bool (r)) ∧ Ext [] w0 w:=by
 refine enter (vs:=[_,_]) func160 z ntmps160 z fun a k=>?_
 have m:=St.start w0
 unfold d_slices_Contains_int_int at h
 refine wr (pN 1 k z fun a k=>nn (wr (pN 2 k z fun a k=>oE h fun x6 Ac h=>cE k m call242 z z z (c_slices_Index_int_int fu _ _ (Enc.rd_agr Ab (m.a00 (Enc.rd_lt Ab))) Ac) fun w9 e a k m=>pN 2 k z fun a k=>nn (wp_ret (fS h k m z z)))))
theorem c_impl_cartonFault_1 (fu:Nat) {w0:World} (y1:Item) (x2:Carton) (x8:List (List Int)) {v5:Value} {F6:List Nat} {b3:Nat} (Ad:bx w0 b3 [I x2.fType,I x2.fGroup,v5] 83) (Au:rd w0 F6 [v5] x2.fUnits) {Ag:Value} {Ah:List Nat} {b9:Nat} (Ac:bx w0 b9 [Ag] 29) (Ab:rd w0 Ah [Ag] x8) {r:Bool}
    (h:d_impl_cartonFault_1 fu y1 x2 x8 = some r) :
    Calls Tryz.prog 226 #[.agg (Flat.e (y1)).toArray,.pointer (some (⟨b3,0,none⟩:Addr)),.pointer (some (⟨b9,0,none⟩:Addr))] w0 fun e w=>e = .returned (.bool (r)) ∧ Ext [] w0 w:=by
 refine enter (vs:=[_,_,_]) func226 z ntmps226 z fun a k=>?_
 have m:=St.start w0
 unfold d_impl_cartonFault_1 at h
 refine wr (s_box (cs:=[I y1.fId,I y1.fW,I y1.fH,I y1.fD,I y1.fGram,I y1.fClass,I y1.fCount]) m k z z z z z z fun Ar Ap a k m e Am=>pN 1 k z fun a k=>nn (wp_seq (d_go [] mixo m z fun Ao hMd=>?_)))
 have m:=hMd
 have s:=Ext.refl ([]:List Nat) Ao
 refine dt k 0 z (by kernel_rfl) z s (fun _ _ _=>id) (fun w s=>r_fa fa83_1 k z z) fun a k=>dt k 1 z (by kernel_rfl) z s (fun _ _ _=>id) (fun w s=>r_ld1 t13 (r:=[]) (Ad.at ((hMd.step s).a00 Ad.lt1) 1 1 z z z) k z z) fun a k=>dt k 2 z (by kernel_rfl) z s (fun _ _ _=>id) (fun w s=>r_ld1 t129 (r:=[]) (Ac.at ((hMd.step s).a00 Ac.lt1) 0 1 z z z) k z z) fun a k=>dt k 3 z (by kernel_rfl) z s (fun _ _ _=>id) (fun w s=>r_len (α:=List Int) Ab k underlying29 z z) fun a k=>dN [4,5] 2 z k (by kernel_rfl) z s (fun _ _ _ _ _=>id) fun a k=>bsplit (decide (x2.fGroup ≥ ((x8.length:Int)))) (fun Aa=>?_) (fun Aa=>?_)
 · have h:=bif_t Aa h
   refine rB k 10 z Aa fun k=>dN [6,7,8,9,10,11,12,13,14,15,16] 11 z k (by kernel_rfl) z s (fun _ _ _ _ _=>id) fun a k=>d_done (by kernel_rfl) ((nm_then ?_))
   refine wp_ret (fS h k m z z)
 have h:=bif_f Aa h
 refine rB k 10 z Aa fun k=>dt k 6 z (by kernel_rfl) z s (fun _ _ _=>id) (fun w s=>r_ld1 t129 (r:=[]) (Ac.at ((hMd.step s).a00 Ac.lt1) 0 1 z z z) k z z) fun a k=>dt k 7 z (by kernel_rfl) z s (fun _ _ _=>id) (fun w s=>r_fa fa83_1 k z z) fun a k=>dt k 8 z (by kernel_rfl) z s (fun _ _ _=>id) (fun w s=>r_ld1 t13 (r:=[]) (Ad.at ((hMd.step s).a00 Ad.lt1) 1 1 z z z) k z z) fun a k=>oE h fun Aq Af h=>dt k 9 z (by kernel_rfl) z s (fun _ _ _=>id) (fun w s=>r_ixa Ab Af k ts29 z z z) fun a k=>?_
 obtain ⟨Av,Ai,At,Ae,Ak,Al⟩:=rd_get Ab (ix_some Af).2.2
 obtain ⟨Aw,rfl⟩:∃ v,Ai = [v]:=by obtain ⟨_,_,hq,_⟩:=Ae; exact ⟨_,hq⟩
 refine dt k 10 z (by kernel_rfl) z s (fun _ _ _=>id) (fun w s=>r_ld1 t163 (Ak.agr ((hMd.step s).a00 (Enc.rd_lt Ab)) Al) k z z) fun a k=>dt k 11 z (by kernel_rfl) z s (fun _ _ _=>id) (fun w s=>r_fa fa158_5 k z z) fun a k=>dt k 12 z (by kernel_rfl) z s (fun _ _ _=>id) (fun w s=>r_ld1 t13 (r:=[]) (Am.at ((hMd.step s).a 0 z) 5 1 z z z) k z z) fun a k=>d_one 13 (by kernel_rfl) z (oE h fun Ax Aj h=>cE k m call160 z z z (c_slices_Contains_int_int fu _ _ (Enc.rd_agr Ae (m.a00 (Enc.rd_lt Ae))) Aj) fun As e a k m=>?_)
 have s:=s.trans e (by simp)
 refine wpList_nil ⟨s,?_⟩
 refine dN [14,15,16] 3 z k (by kernel_rfl) z s (fun _ _ _ _ _=>id) fun a k=>d_done (by kernel_rfl) ((nm_then ?_))
 refine wp_ret (fS h k m z z)
theorem c_impl_Cheapest (fu:Nat) {w0:World} (r1:Request) (Ao:List Int) {Az:List Value} {F3:List Nat} (Bo:rd w0 F3 Az r1) {v6:Value} {F7:List Nat} (Ba:rd w0 F7 [v6] Ao) {r:Typ × Bool}
    (h:d_impl_Cheapest fu r1 Ao = some r) :
    Calls Tryz.prog 208 #[.agg Az.toArray,v6] w0 fun e w=>e = .returned (.tuple #[.agg (Flat.e r.1).toArray,.bool (r.2)]) ∧ Ext [] w0 w:=by
 refine enter (vs:=[_,_]) func208 z ntmps208 z fun a k=>?_
 have m:=St.start w0
 obtain ⟨v9,By,As,Bx,Bb,Cb,rfl,rfl,Bc,Ag,Au⟩:=Bo
 unfold d_impl_Cheapest at h
 refine wr (s_box (cs:=[I r1.fWay,I r1.fPallet.fW,I r1.fPallet.fD,I r1.fPallet.fH,I r1.fPallet.fGram,I r1.fClasses,v9,As,I r1.fMaster,Bb]) m k z z z z z z fun Ap Aw a k m e Av=>s_alloc (cs:=[I 0,I 0,I 0,I 0,I 0,I 0,I 0]) m k zeroValue79 z z z z z fun Aq Ax a k m e Bs=>pN 1 k z fun a k=>nn (wr (sv k z (r_build bt79 k (cs:=#[I 0,I 0,I 0,I 0,I 0,I 0,I 0]) (ps:=[]) z z (by kernel_rfl)) fun a k=>?_)))
 refine s_alloc (cs:=[I 0,I 0,I 0,I 0,I 0,I 0,I 0]) m k zeroValue79 z z z z z fun Aj Bw a k m e Bi=>s_stb (cs':=[I 0,I 0,I 0,I 0,I 0,I 0,I 0]) sizeOf79 m 0 Bi 0 k z z z z z z z z z z z fun Bj a k e m Bd=>pN 1 k z fun a k=>nn (wp_seq (wr (sv k z (r_fa fa38_4 k z z) fun a k=>sv k z (r_ldb t135 m 2 Av 7 k z z z z z) fun a k=>sv k z (r_len (α:=Typ) Ag k underlying35 z z) fun a k=>pN 1 k z fun a k=>nn (wp_block ?_))))
 refine c_loop (fun n a w=>∃ (Ab:Typ) (Ai:World) (Af:Bool) (Ah:Int),K 50 [(1,v6),(2,.pointer (some (⟨Ap,0,none⟩:Addr))),(4,.pointer (some (⟨Aq,0,none⟩:Addr))),(6,.pointer (some (⟨Aj,0,none⟩:Addr))),(7,.bool (Af)),(12,As),(13,I ((r1.fTypes.length:Int))),(14,I Ah)] a ∧ St [] w0 w [([Ap],Aw),([Aq],Ax),([Aj],Ai)] ∧ bx Ai Aj [I Ab.fId,I Ab.fW,I Ab.fH,I Ab.fD,I Ab.fTare,I Ab.fGram,I Ab.fCost] 79 ∧ d_impl_Cheapest_L1 fu r1 Ao n Ab Af Ah = some r) ?_ ?_ fu _ _ ?_
 · rintro a w ⟨_,_,_,_,_,_,_,h⟩
   exact nS h
 · rintro Bm a Ca ⟨Ab,Ai,Af,Ah,k,m,Ac,h⟩
   rw [d_impl_Cheapest_L1_s] at h
   unfold d_impl_Cheapest_L1_B at h
   refine wr (pN 1 k z fun a k=>nn (wp_seq (cI h k z (fun Bu h=>?_) fun Bu h=>?_)))
   · refine wp_skip (nm_then ?_)
     refine c_cut (fun a w=>∃ (Ad:Typ) (At:World) (Ar:Bool),K 50 [(1,v6),(2,.pointer (some (⟨Ap,0,none⟩:Addr))),(4,.pointer (some (⟨Aq,0,none⟩:Addr))),(6,.pointer (some (⟨Aj,0,none⟩:Addr))),(7,.bool (Ar)),(12,As),(13,I ((r1.fTypes.length:Int))),(14,I Ah)] a ∧ St [] w0 w [([Ap],Aw),([Aq],Ax),([Aj],At)] ∧ bx At Aj [I Ad.fId,I Ad.fW,I Ad.fH,I Ad.fD,I Ad.fTare,I Ad.fGram,I Ad.fCost] 79 ∧ d_impl_Cheapest_J1 fu (d_impl_Cheapest_L1 fu r1 Ao Bm) Ah Ad Ar = some r) ?_ ?_
     · rintro a Cd ⟨Ad,At,Ar,k,m,Bp,h⟩
       unfold d_impl_Cheapest_J1 at h
       refine wp_region_lit (pN 2 k z fun a k=>nn ?_)
       exact ⟨Ad,At,Ar,w64 (Ah + 1),k.keep [1,2,4,6,7,12,13,14] z,m.sel [0,1,2] z (by decide),Bp,h⟩
     refine wp_block (wr (oE h fun Aa Ay h=>sv k z (r_ixa Ag Ay k ts35 z z z) fun a k=>sv k z (r_lde Ag (m.a00 (Enc.rd_lt Ag)) Ay ta79 k z z) fun a k=>s_alloc (cs:=[I 0,I 0,I 0,I 0,I 0,I 0,I 0]) m k zeroValue79 z z z z z fun Ch Bz a k m e Be=>s_stb (cs':=[I Aa.fId,I Aa.fW,I Aa.fH,I Aa.fD,I Aa.fTare,I Aa.fGram,I Aa.fCost]) sizeOf79 m 0 Be 0 k z z z z z z z z z z z fun Cg a k e m Ae=>nn (wp_seq (wr (sv k z (r_ldB ta38 m 1 Av 0 k z z z z z z) fun a k=>pN 1 k z fun a k=>sv k z (r_ldB ta79 m 0 Ae 0 k z z z z z z) fun a k=>oE h fun Ce Bq h=>?_)))))
     refine cE k m call54 z z z (c_impl_Holds fu _ _ (Aa:Typ) (show rd _ _ [I r1.fWay,I r1.fPallet.fW,I r1.fPallet.fD,I r1.fPallet.fH,I r1.fPallet.fGram,I r1.fClasses,v9,As,I r1.fMaster,Bb] (r1:Request) from ⟨_,_,_,_,_,_,z,z,(Enc.rd_agr Bc (m.a00 (Enc.rd_lt Bc))),(Enc.rd_agr Ag (m.a00 (Enc.rd_lt Ag))),(Enc.rd_agr Au (m.a00 (Enc.rd_lt Au)))⟩) (Enc.rd_agr Ba (m.a00 (Enc.rd_lt Ba))) Bq) fun Cc e a k m=>pN 1 k z fun a k=>nn (cI h k z (fun Br h=>?_) fun Br h=>?_)
     · refine wp_exit (ex_then (ex_same (nm_then ?_)))
       exact ⟨Ab,Ai,Af,k.keep [1,2,4,6,7,12,13,14] z,m.sel [1,2,3] z (by decide),Ac,h⟩
     refine wp_skip (nm_then ?_)
     refine wr (pN 3 k z fun a k=>bsplit (!Af) (fun Am=>?_) (fun Am=>?_))
     · have h:=bif_t Am h
       refine rB k 25 z Am fun k=>pN 20 k z fun a k=>?_
       have k:=k.keep [1,2,4,6,12,13,7,14,9,45] z
       refine nn (wp_cond_true (k.ev z) (wp_region_lit (sv k z (r_ldB ta79 m 0 Ae 0 k z z z z z z) fun a k=>s_stb (cs':=[I Aa.fId,I Aa.fW,I Aa.fH,I Aa.fD,I Aa.fTare,I Aa.fGram,I Aa.fCost]) sizeOf79 m 3 Ac 0 k z z z z z z z z z z z fun Bv a k e m Bg=>pN 1 k z fun a k=>wpList_nil (nm_block (nm_then ?_)))))
       exact ⟨Aa,Bv,true,k.keep [1,2,4,6,7,12,13,14] z,m.sel [1,2,3] z (by decide),Bg,h⟩
     have h:=bif_f Am h
     refine rB k 25 z Am fun k=>sv k z (r_fa fa79_6 k z z) fun a k=>sv k z (r_ldb t13 m 0 Ae 6 k z z z z z) fun a k=>sv k z (r_fa fa79_6 k z z) fun a k=>sv k z (r_ldb t13 m 3 Ac 6 k z z z z z) fun a k=>pN 3 k z fun a k=>bsplit (decide (Aa.fCost < Ab.fCost)) (fun Ak=>?_) (fun Ak=>?_)
     · have h:=bif_t Ak h
       refine rB k 32 z Ak fun k=>pN 13 k z fun a k=>?_
       have k:=k.keep [1,2,4,6,12,13,7,14,9,45] z
       refine nn (wp_cond_true (k.ev z) (wp_region_lit (sv k z (r_ldB ta79 m 0 Ae 0 k z z z z z z) fun a k=>s_stb (cs':=[I Aa.fId,I Aa.fW,I Aa.fH,I Aa.fD,I Aa.fTare,I Aa.fGram,I Aa.fCost]) sizeOf79 m 3 Ac 0 k z z z z z z z z z z z fun Bn a k e m Bl=>pN 1 k z fun a k=>wpList_nil (nm_block (nm_then ?_)))))
       exact ⟨Aa,Bn,true,k.keep [1,2,4,6,7,12,13,14] z,m.sel [1,2,3] z (by decide),Bl,h⟩
     have h:=bif_f Ak h
     refine rB k 32 z Ak fun k=>sv k z (r_fa fa79_6 k z z) fun a k=>sv k z (r_ldb t13 m 0 Ae 6 k z z z z z) fun a k=>sv k z (r_fa fa79_6 k z z) fun a k=>sv k z (r_ldb t13 m 3 Ac 6 k z z z z z) fun a k=>pN 2 k z fun a k=>bsplit (Aa.fCost == Ab.fCost) (fun Al=>?_) (fun Al=>?_)
     · have h:=bif_t Al h
       refine rB k 38 z Al fun k=>sv k z (r_fa fa79_0 k z z) fun a k=>sv k z (r_ldb t13 m 0 Ae 0 k z z z z z) fun a k=>sv k z (r_fa fa79_0 k z z) fun a k=>sv k z (r_ldb t13 m 3 Ac 0 k z z z z z) fun a k=>pN 3 k z fun a k=>?_
       have k:=k.keep [1,2,4,6,12,13,7,14,9,45] z
       refine nn (cI h k z (fun Bt h=>?_) fun Bt h=>?_)
       · refine wp_region_lit (sv k z (r_ldB ta79 m 0 Ae 0 k z z z z z z) fun a k=>s_stb (cs':=[I Aa.fId,I Aa.fW,I Aa.fH,I Aa.fD,I Aa.fTare,I Aa.fGram,I Aa.fCost]) sizeOf79 m 3 Ac 0 k z z z z z z z z z z z fun Bk a k e m Bh=>pN 1 k z fun a k=>wpList_nil (nm_block (nm_then ?_)))
         exact ⟨Aa,Bk,true,k.keep [1,2,4,6,7,12,13,14] z,m.sel [1,2,3] z (by decide),Bh,h⟩
       refine wp_skip (nm_block (nm_then ?_))
       exact ⟨Ab,Ai,Af,k.keep [1,2,4,6,7,12,13,14] z,m.sel [1,2,3] z (by decide),Ac,h⟩
     have h:=bif_f Al h
     refine rB k 38 z Al fun k=>pN 7 k z fun a k=>?_
     have k:=k.keep [1,2,4,6,12,13,7,14,9,45] z
     refine nn (wp_cond_false (k.ev z) (wp_skip (nm_block (nm_then ?_))))
     exact ⟨Ab,Ai,Af,k.keep [1,2,4,6,7,12,13,14] z,m.sel [1,2,3] z (by decide),Ac,h⟩
   refine wp_exit (ex_then (ex_then (ex_same (nm_then ?_))))
   refine wr (sv k z (r_ldB ta79 m 2 Ac 0 k z z z z z z) fun a k=>pN 1 k z fun a k=>s_stb (cs':=[I Ab.fId,I Ab.fW,I Ab.fH,I Ab.fD,I Ab.fTare,I Ab.fGram,I Ab.fCost]) sizeOf79 m 1 Bs 0 k z z z z z z z z z z z fun Cf a k e m Bf=>pN 1 k z fun a k=>nn (wp_ret ?_))
   cases h
   exact finR2 k z (RV.cA k z ta79 (Bf.at (m.a 1 z) 0 7 z z z) z) (RV.tmp k z) ⟨z,m.ext⟩
 exact ⟨(⟨0,0,0,0,0,0,0⟩:Typ),Bj,false,0,k.keep [1,2,4,6,7,12,13,14] z,m.sel [2,1,0] z (by decide),Bd,h⟩
theorem c_impl_cartonFault (fu:Nat) {w0:World} (r1:Request) (x5:Plan) {Bb:List Value} {F3:List Nat} (Bu:rd w0 F3 Bb r1) {Bh:List Value} {F7:List Nat} (Bq:rd w0 F7 Bh x5) {r:Int}
    (h:d_impl_cartonFault fu r1 x5 = some r) :
    Calls Tryz.prog 124 #[.agg Bb.toArray,.agg Bh.toArray] w0 fun e w=>e = .returned (I r) ∧ Ext [] w0 w:=by
 refine enter (vs:=[_,_]) func124 z ntmps124 z fun a k=>?_
 have m:=St.start w0
 obtain ⟨v9,Eo,Ai,Ev,Aj,Dn,rfl,rfl,Ad,Ac,Ab⟩:=Bu
 obtain ⟨Ap,Dz,Df,Et,rfl,rfl,Aa,Dx⟩:=Bq
 unfold d_impl_cartonFault at h
 refine wr (s_box (cs:=[I r1.fWay,I r1.fPallet.fW,I r1.fPallet.fD,I r1.fPallet.fH,I r1.fPallet.fGram,I r1.fClasses,v9,Ai,I r1.fMaster,Aj]) m k z z z z z z fun Af As a k m e Al=>s_box (cs:=[Ap,Df]) m k z z z z z z fun Ah Au a k m e Aw=>pN 1 k z fun a k=>nn (wp_seq (wr (sv k z (r_fa fa58_0 k z z) fun a k=>sv k z (r_ldb t155 m 0 Aw 0 k z z z z z) fun a k=>sv k z (r_len (α:=Carton) Aa k underlying55 z z) fun a k=>pN 1 k z fun a k=>nn (wp_block ?_)))))
 refine c_loop (fun n a w=>∃ (Ak:Int),K 77 [(2,.pointer (some (⟨Af,0,none⟩:Addr))),(3,.pointer (some (⟨Ah,0,none⟩:Addr))),(17,Ap),(18,I ((x5.fCartons.length:Int))),(19,I Ak)] a ∧ St [] w0 w [([Af],As),([Ah],Au)] ∧ d_impl_cartonFault_L3 fu r1 x5 n Ak = some r) ?_ ?_ fu _ _ ?_
 · rintro a w ⟨_,_,_,h⟩
   exact nS h
 · rintro Cf a Ez ⟨Ak,k,m,h⟩
   rw [d_impl_cartonFault_L3_s] at h
   unfold d_impl_cartonFault_L3_B at h
   refine wr (pN 1 k z fun a k=>nn (wp_seq (cI h k z (fun Cw h=>?_) fun Cw h=>?_)))
   · refine wp_skip (nm_then ?_)
     refine c_cut (fun a w=>K 77 [(2,.pointer (some (⟨Af,0,none⟩:Addr))),(3,.pointer (some (⟨Ah,0,none⟩:Addr))),(17,Ap),(18,I ((x5.fCartons.length:Int))),(19,I Ak)] a ∧ St [] w0 w [([Af],As),([Ah],Au)] ∧ d_impl_cartonFault_J1 fu (d_impl_cartonFault_L3 fu r1 x5 Cf) Ak = some r) ?_ ?_
     · rintro a Fa ⟨k,m,h⟩
       unfold d_impl_cartonFault_J1 at h
       refine wp_region_lit (pN 2 k z fun a k=>nn ?_)
       exact ⟨w64 (Ak + 1),k.keep [2,3,17,18,19] z,m.sel [0,1] z (by decide),h⟩
     refine wp_block (wr (oE h fun Bf Bc h=>sv k z (r_ixa Aa Bc k ts55 z z z) fun a k=>?_))
     obtain ⟨Es,Ec,Dq,Ct,Da,Cz⟩:=rd_get Aa (ix_some Bc).2.2
     obtain ⟨By,_,rfl,rfl,Ax⟩:=Ct
     refine sv k z (r_ldA ta83 (Da.agr (m.a00 (Enc.rd_lt Aa)) Cz) z k z z) fun a k=>s_alloc (cs:=[I 0,I 0,.slice none 0 0]) m k zeroValue83 z z z z z fun El Ds a k m e Ch=>s_stb (cs':=[I Bf.fType,I Bf.fGroup,By]) sizeOf83 m 0 Ch 0 k z z z z z z z z z z (allc z (allc z (allc (rd_o Ax) alln))) fun Di a k e m Bk=>nn (wr (sv k z (r_ldB ta38 m 1 Al 0 k z z z z z z) fun a k=>sv k z (r_fa fa83_0 k z z) fun a k=>sv k z (r_ldb t13 m 0 Bk 0 k z z z z z) fun a k=>oE h fun Ae Bz h=>?_))
     refine cE k m call53 z z z (c_impl_TypeById fu _ _ (show rd _ _ [I r1.fWay,I r1.fPallet.fW,I r1.fPallet.fD,I r1.fPallet.fH,I r1.fPallet.fGram,I r1.fClasses,v9,Ai,I r1.fMaster,Aj] (r1:Request) from ⟨_,_,_,_,_,_,z,z,(Enc.rd_agr Ad (m.a00 (Enc.rd_lt Ad))),(Enc.rd_agr Ac (m.a00 (Enc.rd_lt Ac))),(Enc.rd_agr Ab (m.a00 (Enc.rd_lt Ab)))⟩) Bz) fun Dl e a k m=>pN 3 k z fun a k=>s_alloc (cs:=[I 0,I 0,I 0,I 0,I 0,I 0,I 0]) m k zeroValue79 z z z z z fun Ea Dk a k m e Bp=>?_
     refine s_stb (cs':=[I Ae.1.fId,I Ae.1.fW,I Ae.1.fH,I Ae.1.fD,I Ae.1.fTare,I Ae.1.fGram,I Ae.1.fCost]) sizeOf79 m 0 Bp 0 k z z z z z z z z z z z fun Eb a k e m Ci=>pN 1 k z fun a k=>nn (wr (pN 3 k z fun a k=>bsplit (!Ae.2) (fun Am=>?_) (fun Am=>?_)))
     · have h:=bif_t Am h
       refine rB k 32 z Am fun k=>pN 7 k z fun a k=>?_
       have k:=k.keep [2,3,17,18,19,39] z
       refine nn (wp_cond_true (k.ev z) (wr (pN 1 k z fun a k=>nn (wp_ret (rt_block (rt_then (rt_then (rt_block (rt_then ?_)))))))))
       refine fS h k m z z
     have h:=bif_f Am h
     refine rB k 32 z Am fun k=>sv k z (r_ldB ta38 m 2 Al 0 k z z z z z z) fun a k=>sv k z (r_fa fa83_2 k z z) fun a k=>sv k z (r_ldb t163 m 1 Bk 2 k z z z z z) fun a k=>sv k z (r_ldB ta79 m 0 Ci 0 k z z z z z z) fun a k=>oE h fun Eh Cv h=>cE k m call54 z z z (c_impl_Holds fu _ _ (Ae.1:Typ) (show rd _ _ [I r1.fWay,I r1.fPallet.fW,I r1.fPallet.fD,I r1.fPallet.fH,I r1.fPallet.fGram,I r1.fClasses,v9,Ai,I r1.fMaster,Aj] (r1:Request) from ⟨_,_,_,_,_,_,z,z,(Enc.rd_agr Ad (m.a00 (Enc.rd_lt Ad))),(Enc.rd_agr Ac (m.a00 (Enc.rd_lt Ac))),(Enc.rd_agr Ab (m.a00 (Enc.rd_lt Ab)))⟩) (Enc.rd_agr Ax (m.a00 (Enc.rd_lt Ax))) Cv) fun Dh e a k m=>?_
     refine pN 2 k z fun a k=>?_
     have k:=k.keep [2,3,17,18,19,39] z
     refine nn (cI h k z (fun Db h=>?_) fun Db h=>?_)
     · refine wr (pN 1 k z fun a k=>nn (wp_ret (rt_block (rt_then (rt_then (rt_block (rt_then ?_)))))))
       refine fS h k m z z
     refine wp_skip (nm_block (nm_then ?_))
     exact ⟨k.keep [2,3,17,18,19] z,m.sel [2,3] z (by decide),h⟩
   refine wp_exit (ex_then (ex_then (ex_same (nm_then ?_))))
   refine wr (sv k z (r_ldB ta38 m 0 Al 0 k z z z z z z) fun a k=>oE h fun Br Cn h=>s_call k call162 z z z z z (c_impl_GroupsOf fu _ (show rd _ _ [I r1.fWay,I r1.fPallet.fW,I r1.fPallet.fD,I r1.fPallet.fH,I r1.fPallet.fGram,I r1.fClasses,v9,Ai,I r1.fMaster,Aj] (r1:Request) from ⟨_,_,_,_,_,_,z,z,(Enc.rd_agr Ad (m.a00 (Enc.rd_lt Ad))),(Enc.rd_agr Ac (m.a00 (Enc.rd_lt Ac))),(Enc.rd_agr Ab (m.a00 (Enc.rd_lt Ab)))⟩) Cn) fun Fd Bs hR=>?_)
   obtain ⟨Ce,Bj,rfl,e,Aq,Cr⟩:=hR
   refine ⟨_,z,fun a k=>?_⟩
   have m:=m.new e Bj (fun b hb=>⟨Cr b hb,Enc.rd_lt (Enc.ow_rd Aq) b hb⟩) (Enc.ow_nd Aq)
   refine s_alloc (cs:=[.slice none 0 0]) m k zeroValue29 z z z z z fun Az Dr a k m e Bn=>s_stb1 (cs':=[Ce]) sizeOf29 m 0 Bn 0 k (rd_c (Enc.ow_rd Aq)) (rd_o (Enc.ow_rd Aq)) z z z z z z z z z fun Bt a k e m Cb=>nn (wp_seq (wr (sv k z (r_fa fa58_0 k z z) fun a k=>sv k z (r_ldb t155 m 3 Aw 0 k z z z z z) fun a k=>sv k z (r_len (α:=Carton) Aa k underlying55 z z) fun a k=>pN 1 k z fun a k=>nn (wp_block ?_))))
   refine c_loop (fun n a w=>∃ (Ar:Int),K 77 [(2,.pointer (some (⟨Af,0,none⟩:Addr))),(3,.pointer (some (⟨Ah,0,none⟩:Addr))),(9,.pointer (some (⟨Az,0,none⟩:Addr))),(44,Ap),(45,I ((x5.fCartons.length:Int))),(46,I Ar)] a ∧ St [] w0 w [([Af],As),([Ah],Au),([Az],Bt),(Bj,Bs)] ∧ d_impl_cartonFault_L2 fu r1 x5 Br n Ar = some r) ?_ ?_ fu _ _ ?_
   · rintro a w ⟨_,_,_,h⟩
     exact nS h
   · rintro Dy a Dw ⟨Ar,k,m,h⟩
     rw [d_impl_cartonFault_L2_s] at h
     unfold d_impl_cartonFault_L2_B at h
     refine wr (pN 1 k z fun a k=>nn (wp_seq (cI h k z (fun Cs h=>?_) fun Cs h=>?_)))
     · refine wp_skip (nm_then ?_)
       refine wp_seq (wp_block (wr (oE h fun Bd Be h=>sv k z (r_ixa Aa Be k ts55 z z z) fun a k=>?_)))
       obtain ⟨Ey,Do,Ek,Dd,De,Co⟩:=rd_get Aa (ix_some Be).2.2
       obtain ⟨Bv,_,rfl,rfl,Ao⟩:=Dd
       refine sv k z (r_ldA ta83 (De.agr (m.a00 (Enc.rd_lt Aa)) Co) z k z z) fun a k=>s_alloc (cs:=[I 0,I 0,.slice none 0 0]) m k zeroValue83 z z z z z fun Cx Em a k m e Cc=>s_stb (cs':=[I Bd.fType,I Bd.fGroup,Bv]) sizeOf83 m 0 Cc 0 k z z z z z z z z z z (allc z (allc z (allc (rd_o Ao) alln))) fun Dj a k e m Bi=>nn (wr (sv k z (r_ldB ta38 m 1 Al 0 k z z z z z z) fun a k=>sv k z (r_fa fa83_2 k z z) fun a k=>sv k z (r_ldb t163 m 0 Bi 2 k z z z z z) fun a k=>oE h fun Dv Cd h=>?_))
       refine s_call k call149 z z z z z (c_impl_itemsOf fu _ _ (show rd _ _ [I r1.fWay,I r1.fPallet.fW,I r1.fPallet.fD,I r1.fPallet.fH,I r1.fPallet.fGram,I r1.fClasses,v9,Ai,I r1.fMaster,Aj] (r1:Request) from ⟨_,_,_,_,_,_,z,z,(Enc.rd_agr Ad (m.a00 (Enc.rd_lt Ad))),(Enc.rd_agr Ac (m.a00 (Enc.rd_lt Ac))),(Enc.rd_agr Ab (m.a00 (Enc.rd_lt Ab)))⟩) (Enc.rd_agr Ao (m.a00 (Enc.rd_lt Ao))) Cd) fun Ef Dg hR=>?_
       obtain ⟨Dt,Cm,rfl,e,Av,Ck⟩:=hR
       refine ⟨_,z,fun a k=>?_⟩
       have m:=m.new e Cm (fun b hb=>⟨Ck b hb,Enc.rd_lt (Enc.ow_rd Av) b hb⟩) (Enc.ow_nd Av)
       refine pN 1 k z fun a k=>oE h fun Eg Dc h=>cE k m call148 z z z (c_slices_ContainsFunc_impl_Item_impl_Item fu _ _ (Enc.rd_agr (Enc.ow_rd Av) (m.a 0 z)) ⟨226,[.pointer (some (⟨Cx,0,none⟩:Addr)),.pointer (some (⟨Az,0,none⟩:Addr))],z,call226,fun w Fb Dp r e Cq hx=>by subst Cq; have m:=m.step e; exact c_impl_cartonFault_1 fu _ _ _ (Bi.agr (m.a 1 rfl) (by simp)) (Enc.rd_agr Ao (m.a00 (Enc.rd_lt Ao))) (Cb.agr (m.a 4 rfl) (by simp)) (Enc.rd_agr (Enc.ow_rd Aq) (m.a 5 rfl)) hx⟩ Dc) fun Eu e a k m=>nn (cI h k rfl (fun Cj h=>?_) fun Cj h=>?_)
       · refine wr (pN 1 k z fun a k=>nn (wp_ret (rt_block (rt_then (rt_then (rt_block (rt_then ?_)))))))
         refine fS h k m z z
       refine wp_skip (nm_block (nm_then ?_))
       refine wp_region_lit (pN 2 k z fun a k=>nn ?_)
       exact ⟨w64 (Ar + 1),k.keep [2,3,9,44,45,46] z,m.sel [2,3,4,5] z (by decide),h⟩
     refine wp_exit (ex_then (ex_then (ex_same (nm_then ?_))))
     refine wp_seq (wr (sv k z (r_fa fa58_0 k z z) fun a k=>sv k z (r_ldb t155 m 1 Aw 0 k z z z z z) fun a k=>sv k z (r_len (α:=Carton) Aa k underlying55 z z) fun a k=>pN 1 k z fun a k=>nn (wp_block (c_loop (fun n a w=>∃ (At:Int),K 77 [(2,.pointer (some (⟨Af,0,none⟩:Addr))),(58,Ap),(59,I ((x5.fCartons.length:Int))),(60,I At)] a ∧ St [] w0 w [([Af],As)] ∧ d_impl_cartonFault_L1 fu r1 x5 n At = some r) ?_ ?_ fu _ _ ?_))))
     · rintro a w ⟨_,_,_,h⟩
       exact nS h
     · rintro Ed a Fc ⟨At,k,m,h⟩
       rw [d_impl_cartonFault_L1_s] at h
       unfold d_impl_cartonFault_L1_B at h
       refine wr (pN 1 k z fun a k=>nn (wp_seq (cI h k z (fun Bo h=>?_) fun Bo h=>?_)))
       · refine wp_skip (nm_then ?_)
         refine wp_seq (wp_block (wr (oE h fun Bg Bl h=>sv k z (r_ixa Aa Bl k ts55 z z z) fun a k=>?_)))
         obtain ⟨Ee,Ex,Ep,Bw,Cl,Bx⟩:=rd_get Aa (ix_some Bl).2.2
         obtain ⟨Cu,_,rfl,rfl,Ay⟩:=Bw
         refine sv k z (r_ldA ta83 (Cl.agr (m.a00 (Enc.rd_lt Aa)) Bx) z k z z) fun a k=>s_alloc (cs:=[I 0,I 0,.slice none 0 0]) m k zeroValue83 z z z z z fun Ew Ei a k m e Cg=>s_stb (cs':=[I Bg.fType,I Bg.fGroup,Cu]) sizeOf83 m 0 Cg 0 k z z z z z z z z z z (allc z (allc z (allc (rd_o Ay) alln))) fun Ej a k e m Ba=>nn (wr (sv k z (r_ldB ta38 m 1 Al 0 k z z z z z z) fun a k=>sv k z (r_fa fa83_2 k z z) fun a k=>sv k z (r_ldb t163 m 0 Ba 2 k z z z z z) fun a k=>oE h fun Ag Ca h=>?_))
         refine cE k m call208 z z z (c_impl_Cheapest fu _ _ (show rd _ _ [I r1.fWay,I r1.fPallet.fW,I r1.fPallet.fD,I r1.fPallet.fH,I r1.fPallet.fGram,I r1.fClasses,v9,Ai,I r1.fMaster,Aj] (r1:Request) from ⟨_,_,_,_,_,_,z,z,(Enc.rd_agr Ad (m.a00 (Enc.rd_lt Ad))),(Enc.rd_agr Ac (m.a00 (Enc.rd_lt Ac))),(Enc.rd_agr Ab (m.a00 (Enc.rd_lt Ab)))⟩) (Enc.rd_agr Ay (m.a00 (Enc.rd_lt Ay))) Ca) fun Er e a k m=>pN 3 k z fun a k=>s_alloc (cs:=[I 0,I 0,I 0,I 0,I 0,I 0,I 0]) m k zeroValue79 z z z z z fun En Dm a k m e Cp=>?_
         refine s_stb (cs':=[I Ag.1.fId,I Ag.1.fW,I Ag.1.fH,I Ag.1.fD,I Ag.1.fTare,I Ag.1.fGram,I Ag.1.fCost]) sizeOf79 m 0 Cp 0 k z z z z z z z z z z z fun Du a k e m Bm=>pN 1 k z fun a k=>nn (wr (sv k z (r_fa fa79_0 k z z) fun a k=>sv k z (r_ldb t13 m 0 Bm 0 k z z z z z) fun a k=>sv k z (r_fa fa83_0 k z z) fun a k=>sv k z (r_ldb t13 m 1 Ba 0 k z z z z z) fun a k=>pN 1 k z fun a k=>nn (cI h k z (fun Cy h=>?_) fun Cy h=>?_)))
         · refine wr (pN 1 k z fun a k=>nn (wp_ret (rt_block (rt_then (rt_then (rt_block (rt_then ?_)))))))
           refine fS h k m z z
         refine wp_skip (nm_block (nm_then ?_))
         refine wp_region_lit (pN 2 k z fun a k=>nn ?_)
         exact ⟨w64 (At + 1),k.keep [2,58,59,60] z,m.sel [2] z (by decide),h⟩
       refine wp_exit (ex_then (ex_then (ex_same (nm_then ?_))))
       refine wr (pN 1 k z fun a k=>nn (wp_ret (fS h k m z z)))
     exact ⟨0,k.keep [2,58,59,60] z,m.sel [0] z (by decide),h⟩
   exact ⟨0,k.keep [2,3,9,44,45,46] z,m.sel [2,3,0,1] z (by decide),h⟩
 exact ⟨0,k.keep [2,3,17,18,19] z,m.sel [1,0] z (by decide),h⟩
theorem c_impl_Gross (fu:Nat) {w0:World} (r1:Request) (x5:Carton) {Al:List Value} {F3:List Nat} (Az:rd w0 F3 Al r1) {Am:List Value} {F7:List Nat} (At:rd w0 F7 Am x5) {r:Int}
    (h:d_impl_Gross fu r1 x5 = some r) :
    Calls Tryz.prog 155 #[.agg Al.toArray,.agg Am.toArray] w0 fun e w=>e = .returned (I r) ∧ Ext [] w0 w:=by
 refine enter (vs:=[_,_]) func155 z ntmps155 z fun a k=>?_
 have m:=St.start w0
 obtain ⟨v9,Bi,Ag,Be,Af,Bk,rfl,rfl,Ad,Ac,Ab⟩:=Az
 obtain ⟨Av,_,rfl,rfl,Ak⟩:=At
 unfold d_impl_Gross at h
 refine wr (s_box (cs:=[I r1.fWay,I r1.fPallet.fW,I r1.fPallet.fD,I r1.fPallet.fH,I r1.fPallet.fGram,I r1.fClasses,v9,Ag,I r1.fMaster,Af]) m k z z z z z z fun Ai Aq a k m e Ah=>s_box (cs:=[I x5.fType,I x5.fGroup,Av]) m k z z z z z z fun Ao Bb a k m e Ap=>pN 1 k z fun a k=>nn (wr (sv k z (r_ldB ta38 m 1 Ah 0 k z z z z z z) fun a k=>sv k z (r_fa fa83_0 k z z) fun a k=>sv k z (r_ldb t13 m 0 Ap 0 k z z z z z) fun a k=>oE h fun Aa Ba h=>?_)))
 refine cE k m call53 z z z (c_impl_TypeById fu _ _ (show rd _ _ [I r1.fWay,I r1.fPallet.fW,I r1.fPallet.fD,I r1.fPallet.fH,I r1.fPallet.fGram,I r1.fClasses,v9,Ag,I r1.fMaster,Af] (r1:Request) from ⟨_,_,_,_,_,_,z,z,(Enc.rd_agr Ad (m.a00 (Enc.rd_lt Ad))),(Enc.rd_agr Ac (m.a00 (Enc.rd_lt Ac))),(Enc.rd_agr Ab (m.a00 (Enc.rd_lt Ab)))⟩) Ba) fun Bl e a k m=>pN 3 k z fun a k=>s_alloc (cs:=[I 0,I 0,I 0,I 0,I 0,I 0,I 0]) m k zeroValue79 z z z z z fun Aj Bm a k m e Au=>?_
 refine s_stb (cs':=[I Aa.1.fId,I Aa.1.fW,I Aa.1.fH,I Aa.1.fD,I Aa.1.fTare,I Aa.1.fGram,I Aa.1.fCost]) sizeOf79 m 0 Au 0 k z z z z z z z z z z z fun Bc a k e m Aw=>pN 1 k z fun a k=>nn (c_cut (fun a w=>K 28 [(2,.pointer (some (⟨Ai,0,none⟩:Addr))),(3,.pointer (some (⟨Ao,0,none⟩:Addr))),(5,.pointer (some (⟨Aj,0,none⟩:Addr)))] a ∧ St [] w0 w [([Ai],Aq),([Ao],Bb),([Aj],Bc)] ∧ d_impl_Gross_J1 fu r1 x5 Aa = some r) ?_ ?_)
 · rintro a Bh ⟨k,m,h⟩
   unfold d_impl_Gross_J1 at h
   refine wp_seq (d_go [] mixo m z fun Ax hMd=>?_)
   have m:=hMd
   have s:=Ext.refl ([]:List Nat) Ax
   refine dt k 0 z (by kernel_rfl) z s (fun _ _ _=>id) (fun w s=>r_fa fa79_4 k z z) fun a k=>dt k 1 z (by kernel_rfl) z s (fun _ _ _=>id) (fun w s=>r_ld1 t13 (r:=[]) (Aw.at ((hMd.step s).a 2 z) 4 1 z z z) k z z) fun a k=>dt k 2 z (by kernel_rfl) z s (fun _ _ _=>id) (fun w s=>r_ldA ta38 (Ah.at ((hMd.step s).a 0 z) 0 10 z z z) z k z z) fun a k=>dt k 3 z (by kernel_rfl) z s (fun _ _ _=>id) (fun w s=>r_fa fa83_2 k z z) fun a k=>dt k 4 z (by kernel_rfl) z s (fun _ _ _=>id) (fun w s=>r_ld1 t163 (r:=[]) (Ap.at ((hMd.step s).a 1 z) 2 1 z z z) k z z) fun a k=>d_one 5 (by kernel_rfl) z (oE h fun Bd Ay h=>?_)
   refine cE k m call240 z z z (c_impl_GramOf fu _ _ (show rd _ _ [I r1.fWay,I r1.fPallet.fW,I r1.fPallet.fD,I r1.fPallet.fH,I r1.fPallet.fGram,I r1.fClasses,v9,Ag,I r1.fMaster,Af] (r1:Request) from ⟨_,_,_,_,_,_,z,z,(Enc.rd_agr Ad (m.a00 (Enc.rd_lt Ad))),(Enc.rd_agr Ac (m.a00 (Enc.rd_lt Ac))),(Enc.rd_agr Ab (m.a00 (Enc.rd_lt Ab)))⟩) (Enc.rd_agr Ak (m.a00 (Enc.rd_lt Ak))) Ay) fun Bj e a k m=>?_
   have s:=s.trans e (by simp)
   refine wpList_nil ⟨s,?_⟩
   refine dN [6,7] 2 z k (by kernel_rfl) z s (fun _ _ _ _ _=>id) fun a k=>d_done (by kernel_rfl) ((nm_then ?_))
   refine wp_ret (fS h k m z z)
 refine wr (pN 3 k z fun a k=>bsplit (!Aa.2) (fun Ae=>?_) (fun Ae=>?_))
 · have h:=bif_t Ae h
   refine rB k 16 z Ae fun k=>pN 4 k z fun a k=>nn (wp_cond_true (k.ev z) (wr (pN 1 k z fun a k=>nn (wp_ret (rt_then ?_)))))
   refine fS h k m z z
 have h:=bif_f Ae h
 refine rB k 16 z Ae fun k=>sv k z (r_ldB ta38 m 2 Ah 0 k z z z z z z) fun a k=>oE h fun Bg As h=>cE k m call115 z z z (c_impl_sound fu _ (show rd _ _ [I r1.fWay,I r1.fPallet.fW,I r1.fPallet.fD,I r1.fPallet.fH,I r1.fPallet.fGram,I r1.fClasses,v9,Ag,I r1.fMaster,Af] (r1:Request) from ⟨_,_,_,_,_,_,z,z,(Enc.rd_agr Ad (m.a00 (Enc.rd_lt Ad))),(Enc.rd_agr Ac (m.a00 (Enc.rd_lt Ac))),(Enc.rd_agr Ab (m.a00 (Enc.rd_lt Ab)))⟩) As) fun Bf e a k m=>pN 2 k z fun a k=>nn (cI h k z (fun Ar h=>?_) fun Ar h=>?_)
 · refine wr (pN 1 k z fun a k=>nn (wp_ret (rt_then ?_)))
   refine fS h k m z z
 refine wp_skip (nm_then ?_)
 exact ⟨k.keep [2,3,5] z,m.sel [2,1,0] z (by decide),h⟩
theorem c_impl_BoxOf (fu:Nat) {w0:World} (r1:Request) (x5:Carton) {Ap:List Value} {F3:List Nat} (Bf:rd w0 F3 Ap r1) {As:List Value} {F7:List Nat} (Ba:rd w0 F7 As x5) {r:Box}
    (h:d_impl_BoxOf fu r1 x5 = some r) :
    Calls Tryz.prog 56 #[.agg Ap.toArray,.agg As.toArray] w0 fun e w=>e = .returned (.agg (Flat.e r).toArray) ∧ Ext [] w0 w:=by
 refine enter (vs:=[_,_]) func56 z ntmps56 z fun a k=>?_
 have m:=St.start w0
 obtain ⟨v9,Bo,Ah,Bl,Ag,Bq,rfl,rfl,Ad,Ac,Ab⟩:=Bf
 obtain ⟨Aq,_,rfl,rfl,Am⟩:=Ba
 unfold d_impl_BoxOf at h
 refine wr (s_box (cs:=[I r1.fWay,I r1.fPallet.fW,I r1.fPallet.fD,I r1.fPallet.fH,I r1.fPallet.fGram,I r1.fClasses,v9,Ah,I r1.fMaster,Ag]) m k z z z z z z fun Al Av a k m e Aj=>s_box (cs:=[I x5.fType,I x5.fGroup,Aq]) m k z z z z z z fun At Bh a k m e Ao=>s_alloc (cs:=[I 0,I 0,I 0,I 0]) m k zeroValue86 z z z z z fun Af Bb a k m e Ak=>nn (wr (sv k z (r_ldB ta38 m 2 Aj 0 k z z z z z z) fun a k=>sv k z (r_fa fa83_0 k z z) fun a k=>sv k z (r_ldb t13 m 1 Ao 0 k z z z z z) fun a k=>oE h fun Aa Bc h=>?_)))
 refine cE k m call53 z z z (c_impl_TypeById fu _ _ (show rd _ _ [I r1.fWay,I r1.fPallet.fW,I r1.fPallet.fD,I r1.fPallet.fH,I r1.fPallet.fGram,I r1.fClasses,v9,Ah,I r1.fMaster,Ag] (r1:Request) from ⟨_,_,_,_,_,_,z,z,(Enc.rd_agr Ad (m.a00 (Enc.rd_lt Ad))),(Enc.rd_agr Ac (m.a00 (Enc.rd_lt Ac))),(Enc.rd_agr Ab (m.a00 (Enc.rd_lt Ab)))⟩) Bc) fun Bt e a k m=>pN 3 k z fun a k=>s_alloc (cs:=[I 0,I 0,I 0,I 0,I 0,I 0,I 0]) m k zeroValue79 z z z z z fun Au Bk a k m e Bd=>?_
 refine s_stb (cs':=[I Aa.1.fId,I Aa.1.fW,I Aa.1.fH,I Aa.1.fD,I Aa.1.fTare,I Aa.1.fGram,I Aa.1.fCost]) sizeOf79 m 0 Bd 0 k z z z z z z z z z z z fun Bi a k e m Ai=>pN 1 k z fun a k=>nn (c_cut (fun a w=>K 32 [(2,.pointer (some (⟨Al,0,none⟩:Addr))),(3,.pointer (some (⟨At,0,none⟩:Addr))),(4,.pointer (some (⟨Af,0,none⟩:Addr))),(5,.pointer (some (⟨Au,0,none⟩:Addr)))] a ∧ St [] w0 w [([Al],Av),([At],Bh),([Af],Bb),([Au],Bi)] ∧ d_impl_BoxOf_J1 fu r1 x5 Aa = some r) ?_ ?_)
 · rintro a Bv ⟨k,m,h⟩
   unfold d_impl_BoxOf_J1 at h
   refine wp_seq (d_go ([Af]) mixo m z fun Bg hMd=>?_)
   have m:=hMd
   have s:=Ext.refl (([Af]):List Nat) Bg
   refine dt k 0 z (by kernel_rfl) z s (fun _ _ _=>id) (fun w s=>r_fa fa79_1 k z z) fun a k=>dt k 1 z (by kernel_rfl) z s (fun _ _ _=>id) (fun w s=>r_ld1 t13 (r:=[]) (Ai.at (hMd.az 3 2 z z z s) 1 1 z z z) k z z) fun a k=>dt k 2 z (by kernel_rfl) z s (fun _ _ _=>id) (fun w s=>r_fa fa79_3 k z z) fun a k=>dt k 3 z (by kernel_rfl) z s (fun _ _ _=>id) (fun w s=>r_ld1 t13 (r:=[]) (Ai.at (hMd.az 3 2 z z z s) 3 1 z z z) k z z) fun a k=>dt k 4 z (by kernel_rfl) z s (fun _ _ _=>id) (fun w s=>r_fa fa79_2 k z z) fun a k=>dt k 5 z (by kernel_rfl) z s (fun _ _ _=>id) (fun w s=>r_ld1 t13 (r:=[]) (Ai.at (hMd.az 3 2 z z z s) 2 1 z z z) k z z) fun a k=>?_
   refine dt k 6 z (by kernel_rfl) z s (fun _ _ _=>id) (fun w s=>r_ldA ta38 (Aj.at (hMd.az 0 2 z z z s) 0 10 z z z) z k z z) fun a k=>dt k 7 z (by kernel_rfl) z s (fun _ _ _=>id) (fun w s=>r_ldA ta83 (Ao.at (hMd.az 1 2 z z z s) 0 3 z z z) z k z z) fun a k=>d_one 8 (by kernel_rfl) z (oE h fun Ar Be h=>?_)
   refine cE k m call155 z z z (c_impl_Gross fu _ _ (show rd _ _ [I r1.fWay,I r1.fPallet.fW,I r1.fPallet.fD,I r1.fPallet.fH,I r1.fPallet.fGram,I r1.fClasses,v9,Ah,I r1.fMaster,Ag] (r1:Request) from ⟨_,_,_,_,_,_,z,z,(Enc.rd_agr Ad (m.a00 (Enc.rd_lt Ad))),(Enc.rd_agr Ac (m.a00 (Enc.rd_lt Ac))),(Enc.rd_agr Ab (m.a00 (Enc.rd_lt Ab)))⟩) (show rd _ _ [I x5.fType,I x5.fGroup,Aq] (x5:Carton) from ⟨_,_,z,z,(Enc.rd_agr Am (m.a00 (Enc.rd_lt Am)))⟩) Be) fun Bn e a k m=>?_
   have s:=s.trans e (by simp)
   refine wpList_nil ⟨s,?_⟩
   refine dt k 9 z (by kernel_rfl) z s (fun _ _ _=>id) (fun w s=>r_build bt86 k (cs:=#[I Aa.1.fW,I Aa.1.fD,I Aa.1.fH,I Ar]) (ps:=[(0,.tmp 23),(1,.tmp 25),(2,.tmp 27),(3,.tmp 30)]) z z (by kernel_rfl)) fun a k=>d_one 10 (by kernel_rfl) z (s_stb (cs':=[I Aa.1.fW,I Aa.1.fD,I Aa.1.fH,I Ar]) sizeOf86 m 2 Ak 0 k z z z z z z z z z z z fun Bs a k e m Ax=>?_)
   have s:=s.trans e (fun y hy=>Or.inl hy)
   refine wpList_nil ⟨s,?_⟩
   refine d_done (by kernel_rfl) ((nm_then ?_))
   refine wp_ret ?_
   cases h
   exact finR1 k z (RV.cA k z ta86 (Ax.at (m.a 2 z) 0 4 z z z) z) ⟨z,m.ext⟩
 refine wr (pN 3 k z fun a k=>bsplit (!Aa.2) (fun Ae=>?_) (fun Ae=>?_))
 · have h:=bif_t Ae h
   refine rB k 16 z Ae fun k=>pN 4 k z fun a k=>nn (wp_cond_true (k.ev z) (wr (sv k z (r_build bt86 k (cs:=#[I 0,I 0,I 0,I 0]) (ps:=[]) z z (by kernel_rfl)) fun a k=>s_stb (cs':=[I 0,I 0,I 0,I 0]) sizeOf86 m 1 Ak 0 k z z z z z z z z z z z fun Bu a k e m Az=>nn (wp_ret (rt_then ?_)))))
   cases h
   exact finR1 k z (RV.cA k z ta86 (Az.at (m.a 1 z) 0 4 z z z) z) ⟨z,m.ext⟩
 have h:=bif_f Ae h
 refine rB k 16 z Ae fun k=>sv k z (r_ldB ta38 m 3 Aj 0 k z z z z z z) fun a k=>oE h fun Bm Aw h=>cE k m call115 z z z (c_impl_sound fu _ (show rd _ _ [I r1.fWay,I r1.fPallet.fW,I r1.fPallet.fD,I r1.fPallet.fH,I r1.fPallet.fGram,I r1.fClasses,v9,Ah,I r1.fMaster,Ag] (r1:Request) from ⟨_,_,_,_,_,_,z,z,(Enc.rd_agr Ad (m.a00 (Enc.rd_lt Ad))),(Enc.rd_agr Ac (m.a00 (Enc.rd_lt Ac))),(Enc.rd_agr Ab (m.a00 (Enc.rd_lt Ab)))⟩) Aw) fun Br e a k m=>pN 2 k z fun a k=>nn (cI h k z (fun Ay h=>?_) fun Ay h=>?_)
 · refine wr (sv k z (r_build bt86 k (cs:=#[I 0,I 0,I 0,I 0]) (ps:=[]) z z (by kernel_rfl)) fun a k=>s_stb (cs':=[I 0,I 0,I 0,I 0]) sizeOf86 m 1 Ak 0 k z z z z z z z z z z z fun Bp a k e m Bj=>nn (wp_ret (rt_then ?_)))
   cases h
   exact finR1 k z (RV.cA k z ta86 (Bj.at (m.a 1 z) 0 4 z z z) z) ⟨z,m.ext⟩
 refine wp_skip (nm_then ?_)
 exact ⟨k.keep [2,3,4,5] z,m.sel [3,2,1,0] z (by decide),h⟩
theorem c_impl_Within (fu:Nat) {w0:World} (p1:Pallet) (b2:Box) (Aa:Spot)  {r:Bool}
    (h:d_impl_Within fu p1 b2 Aa = some r) :
    Calls Tryz.prog 55 #[.agg (Flat.e (p1)).toArray,.agg (Flat.e (b2)).toArray,.agg (Flat.e (Aa)).toArray] w0 fun e w=>e = .returned (.bool (r)) ∧ Ext [] w0 w:=by
 refine enter (vs:=[_,_,_]) func55 z ntmps55 z fun a k=>?_
 have m:=St.start w0
 unfold d_impl_Within at h
 refine wr (s_box (cs:=[I p1.fW,I p1.fD,I p1.fH,I p1.fGram]) m k z z z z z z fun b4 w6 a k m e Ak=>s_box (cs:=[I b2.fW,I b2.fD,I b2.fH,I b2.fGram]) m k z z z z z z fun b7 w9 a k m e Ab=>s_box (cs:=[I Aa.fPallet,I Aa.fX,I Aa.fY,I Aa.fZ]) m k z z z z z z fun Al Aw a k m e Ac=>pN 1 k z fun a k=>nn (c_cut (fun a w=>K 69 [(3,.pointer (some (⟨b4,0,none⟩:Addr))),(4,.pointer (some (⟨b7,0,none⟩:Addr))),(5,.pointer (some (⟨Al,0,none⟩:Addr)))] a ∧ St [] w0 w [([b4],w6),([b7],w9),([Al],Aw)] ∧ d_impl_Within_J1 fu p1 b2 Aa = some r) ?_ ?_))
 · rintro a Bf ⟨k,m,h⟩
   unfold d_impl_Within_J1 at h
   refine wr (sv k z (r_fa fa89_1 k z z) fun a k=>sv k z (r_ldb t13 m 2 Ac 1 k z z z z z) fun a k=>sv k z (r_fa fa86_0 k z z) fun a k=>sv k z (r_ldb t13 m 1 Ab 0 k z z z z z) fun a k=>pN 1 k z fun a k=>sv k z (r_fa fa33_0 k z z) fun a k=>sv k z (r_ldb t13 m 0 Ak 0 k z z z z z) fun a k=>pN 2 k z fun a k=>bsplit (decide ((w64 (Aa.fX + b2.fW)) ≤ p1.fW)) (fun Ag=>?_) (fun Ag=>?_))
   · have h:=bif_t Ag h
     refine rB k 49 z Ag fun k=>sv k z (r_fa fa89_2 k z z) fun a k=>sv k z (r_ldb t13 m 2 Ac 2 k z z z z z) fun a k=>sv k z (r_fa fa86_1 k z z) fun a k=>sv k z (r_ldb t13 m 1 Ab 1 k z z z z z) fun a k=>pN 1 k z fun a k=>sv k z (r_fa fa33_1 k z z) fun a k=>sv k z (r_ldb t13 m 0 Ak 1 k z z z z z) fun a k=>pN 3 k z fun a k=>bsplit (decide ((w64 (Aa.fY + b2.fD)) ≤ p1.fD)) (fun Ae=>?_) (fun Ae=>?_)
     · have h:=bif_t Ae h
       refine rB k 59 z Ae fun k=>sv k z (r_fa fa89_3 k z z) fun a k=>sv k z (r_ldb t13 m 2 Ac 3 k z z z z z) fun a k=>sv k z (r_fa fa86_2 k z z) fun a k=>sv k z (r_ldb t13 m 1 Ab 2 k z z z z z) fun a k=>pN 1 k z fun a k=>sv k z (r_fa fa33_2 k z z) fun a k=>sv k z (r_ldb t13 m 0 Ak 2 k z z z z z) fun a k=>pN 3 k z fun a k=>?_
       have k:=k.keep [6] z
       refine nn (wp_ret (fS h k m z z))
     have h:=bif_f Ae h
     refine rB k 59 z Ae fun k=>pN 10 k z fun a k=>?_
     have k:=k.keep [6] z
     refine nn (wp_ret (fS h k m z z))
   have h:=bif_f Ag h
   refine rB k 49 z Ag fun k=>pN 20 k z fun a k=>?_
   have k:=k.keep [6] z
   refine nn (wp_ret (fS h k m z z))
 refine wr (sv k z (r_fa fa89_1 k z z) fun a k=>sv k z (r_ldb t13 m 0 Ac 1 k z z z z z) fun a k=>oE h fun Au Av h=>cE k m call153 z z z (c_impl_isPlace fu _  Av) fun Be e a k m=>pN 2 k z fun a k=>bsplit (!Au) (fun Ai=>?_) (fun Ai=>?_))
 · have h:=bif_t Ai h
   refine rB k 11 z Ai fun k=>pN 29 k z fun a k=>?_
   have k:=k.keep [3,4,5,40] z
   refine nn (wp_cond_true (k.ev z) (wr (pN 1 k z fun a k=>nn (wp_ret (rt_then ?_)))))
   refine fS h k m z z
 have h:=bif_f Ai h
 refine rB k 11 z Ai fun k=>sv k z (r_fa fa89_2 k z z) fun a k=>sv k z (r_ldb t13 m 0 Ac 2 k z z z z z) fun a k=>oE h fun Ap Ax h=>cE k m call153 z z z (c_impl_isPlace fu _  Ax) fun Bg e a k m=>pN 3 k z fun a k=>bsplit (!Ap) (fun Ad=>?_) (fun Ad=>?_)
 · have h:=bif_t Ad h
   refine rB k 17 z Ad fun k=>pN 23 k z fun a k=>?_
   have k:=k.keep [3,4,5,40] z
   refine nn (wp_cond_true (k.ev z) (wr (pN 1 k z fun a k=>nn (wp_ret (rt_then ?_)))))
   refine fS h k m z z
 have h:=bif_f Ad h
 refine rB k 17 z Ad fun k=>sv k z (r_fa fa89_3 k z z) fun a k=>sv k z (r_ldb t13 m 0 Ac 3 k z z z z z) fun a k=>oE h fun Aq Az h=>cE k m call153 z z z (c_impl_isPlace fu _  Az) fun Ba e a k m=>pN 3 k z fun a k=>bsplit (!Aq) (fun Ah=>?_) (fun Ah=>?_)
 · have h:=bif_t Ah h
   refine rB k 23 z Ah fun k=>pN 17 k z fun a k=>?_
   have k:=k.keep [3,4,5,40] z
   refine nn (wp_cond_true (k.ev z) (wr (pN 1 k z fun a k=>nn (wp_ret (rt_then ?_)))))
   refine fS h k m z z
 have h:=bif_f Ah h
 refine rB k 23 z Ah fun k=>sv k z (r_fa fa86_0 k z z) fun a k=>sv k z (r_ldb t13 m 1 Ab 0 k z z z z z) fun a k=>oE h fun At Ay h=>cE k m call154 z z z (c_impl_isSide fu _  Ay) fun Bd e a k m=>pN 3 k z fun a k=>bsplit (!At) (fun Aj=>?_) (fun Aj=>?_)
 · have h:=bif_t Aj h
   refine rB k 29 z Aj fun k=>pN 11 k z fun a k=>?_
   have k:=k.keep [3,4,5,40] z
   refine nn (wp_cond_true (k.ev z) (wr (pN 1 k z fun a k=>nn (wp_ret (rt_then ?_)))))
   refine fS h k m z z
 have h:=bif_f Aj h
 refine rB k 29 z Aj fun k=>sv k z (r_fa fa86_1 k z z) fun a k=>sv k z (r_ldb t13 m 1 Ab 1 k z z z z z) fun a k=>oE h fun Ar Am h=>cE k m call154 z z z (c_impl_isSide fu _  Am) fun Bc e a k m=>pN 3 k z fun a k=>bsplit (!Ar) (fun Af=>?_) (fun Af=>?_)
 · have h:=bif_t Af h
   refine rB k 35 z Af fun k=>pN 5 k z fun a k=>?_
   have k:=k.keep [3,4,5,40] z
   refine nn (wp_cond_true (k.ev z) (wr (pN 1 k z fun a k=>nn (wp_ret (rt_then ?_)))))
   refine fS h k m z z
 have h:=bif_f Af h
 refine rB k 35 z Af fun k=>sv k z (r_fa fa86_2 k z z) fun a k=>sv k z (r_ldb t13 m 1 Ab 2 k z z z z z) fun a k=>oE h fun Bb Ao h=>cE k m call154 z z z (c_impl_isSide fu _  Ao) fun Bh e a k m=>pN 2 k z fun a k=>?_
 have k:=k.keep [3,4,5,40] z
 refine nn (cI h k z (fun As h=>?_) fun As h=>?_)
 · refine wr (pN 1 k z fun a k=>nn (wp_ret (rt_then ?_)))
   refine fS h k m z z
 refine wp_skip (nm_then ?_)
 exact ⟨k.keep [3,4,5] z,m.sel [2,1,0] z (by decide),h⟩

end Go.Proofs.YtkkfmjpbiimkbaaGreat
