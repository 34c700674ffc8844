/- FnExactFeasible: the walks of functions that it reaches (ExactFeasibleBWi,part 2). Printed by gen.py. -/
import Derived.Test.YtkkfmjpbiimkbaaGreatExactFeasibleBWi1
set_option maxRecDepth 20000
set_option linter.unusedSimpArgs false
set_option linter.unusedVariables false
namespace Go.Proofs.YtkkfmjpbiimkbaaGreat
open Go Go.RowKit
open Enc (rd ow)
open Arg (argv)
open Ret (retv)
open Go.Proofs.Tryz

theorem c_bits_Mul32 (fu:Nat) {w0:World} (x1:Int) (y2:Int)  {r:Int × Int}
    (h:d_bits_Mul32 fu x1 y2 = some r) :
    Calls Tryz.prog 318 #[.int .u32 (x1),.int .u32 (y2)] w0 fun e w=>e = .returned (.tuple #[.int .u32 (r.1),.int .u32 (r.2)]) ∧ Ext [] w0 w:=by
 refine enter (vs:=[_,_]) func318 z ntmps318 z fun a k=>?_
 have m:=St.start w0
 unfold d_bits_Mul32 at h
 refine wr (pN 2 k z fun a k=>nn (wr (pN 1 k z fun a k=>sv k z (r_cv k underlying242 underlying244 z z) fun a k=>pN 1 k z fun a k=>sv k z (r_cv k underlying242 underlying244 z z) fun a k=>pN 2 k z fun a k=>nn (wr (pN 1 k z fun a k=>sv k z (r_shr (y:=32) k z z z) fun a k=>sv k z (r_cv k underlying244 underlying242 z z) fun a k=>pN 1 k z fun a k=>sv k z (r_cv k underlying244 underlying242 z z) fun a k=>pN 2 k z fun a k=>nn (wp_ret ?_))))))
 cases h
 exact finR2 k z (RV.tmp k z) (RV.tmp k z) ⟨z,m.ext⟩
theorem c_bits_Mul64 (fu:Nat) {w0:World} (x1:Int) (y2:Int)  {r:Int × Int}
    (h:d_bits_Mul64 fu x1 y2 = some r) :
    Calls Tryz.prog 319 #[.int .u64 (x1),.int .u64 (y2)] w0 fun e w=>e = .returned (.tuple #[.int .u64 (r.1),.int .u64 (r.2)]) ∧ Ext [] w0 w:=by
 refine enter (vs:=[_,_]) func319 z ntmps319 z fun a k=>?_
 have m:=St.start w0
 unfold d_bits_Mul64 at h
 refine wr (pN 2 k z fun a k=>nn (wr (pN 3 k z fun a k=>nn (wr (pN 1 k z fun a k=>sv k z (r_shr (y:=32) k z z z) fun a k=>pN 1 k z fun a k=>nn (wr (pN 3 k z fun a k=>nn (wr (pN 1 k z fun a k=>sv k z (r_shr (y:=32) k z z z) fun a k=>pN 1 k z fun a k=>nn (wr (pN 4 k z fun a k=>nn (wr (pN 4 k z fun a k=>sv k z (r_shr (y:=32) k z z z) fun a k=>pN 2 k z fun a k=>?_)))))))))))))
 have k:=k.keep [0,1,6,7,9,11] z
 refine nn (wr (pN 3 k z fun a k=>nn (wr (pN 1 k z fun a k=>sv k z (r_shr (y:=32) k z z z) fun a k=>pN 1 k z fun a k=>nn (wr (pN 6 k z fun a k=>nn (wr (pN 6 k z fun a k=>sv k z (r_shr (y:=32) k z z z) fun a k=>pN 2 k z fun a k=>?_))))))))
 have k:=k.keep [0,1,4] z
 refine nn (wr (pN 4 k z fun a k=>nn (wp_ret ?_)))
 cases h
 exact finR2 k z (RV.tmp k z) (RV.tmp k z) ⟨z,m.ext⟩
theorem c_bits_Mul (fu:Nat) {w0:World} (x1:Int) (y2:Int)  {r:Int × Int}
    (h:d_bits_Mul fu x1 y2 = some r) :
    Calls Tryz.prog 288 #[.int .u64 (x1),.int .u64 (y2)] w0 fun e w=>e = .returned (.tuple #[.int .u64 (r.1),.int .u64 (r.2)]) ∧ Ext [] w0 w:=by
 refine enter (vs:=[_,_]) func288 z ntmps288 z fun a k=>?_
 have m:=St.start w0
 unfold d_bits_Mul at h
 refine wr (pN 2 k z fun a k=>nn (wp_seq (wp_cond_false (k.ev z) (wp_skip (nm_then ?_)))))
 refine wr (pN 2 k z fun a k=>oE h fun x3 Aa h=>cE k m call319 z z z (c_bits_Mul64 fu _ _  Aa) fun w6 e a k m=>pN 5 k z fun a k=>nn (wr (pN 4 k z fun a k=>nn (wp_ret ?_))))
 cases h
 exact finR2 k z (RV.tmp k z) (RV.tmp k z) ⟨z,m.ext⟩
theorem c_slices_Repeat_int_int (fu:Nat) {w0:World} (x1:List Int) (Ag:Int) {v2:Value} {F3:List Nat} (Ai:rd w0 F3 [v2] x1) {r:(List Int)}
    (h:d_slices_Repeat_int_int fu x1 Ag = some r) :
    Calls Tryz.prog 225 #[v2,I Ag] w0 fun e w=>∃ (v0:Value) (G0:List Nat),e = .returned (v0) ∧ Ext [] w0 w ∧ ow w G0 [v0] r ∧ (∀ b ∈ G0,w0.heap.size ≤ b):=by
 refine enter (vs:=[_,_]) func225 z ntmps225 z fun a k=>?_
 have m:=St.start w0
 unfold d_slices_Repeat_int_int at h
 refine wr (pN 1 k z fun a k=>nn (c_cut (fun a w=>K 48 [(0,v2),(1,I Ag)] a ∧ St [] w0 w [] ∧ d_slices_Repeat_int_int_J2 fu x1 Ag = some r) ?_ ?_))
 · rintro a w7 ⟨k,m,h⟩
   unfold d_slices_Repeat_int_int_J2 at h
   refine wr (pN 1 k z fun a k=>sv k z (r_len (α:=Int) Ai k underlying63 z z) fun a k=>sv k z (r_cv k underlying3 underlying204 z z) fun a k=>pN 1 k z fun a k=>sv k z (r_cv k underlying3 underlying204 z z) fun a k=>oE h fun x8 Ay h=>cE k m call288 z z z (c_bits_Mul fu _ _  Ay) fun Bn e a k m=>pN 5 k z fun a k=>nn (c_cut (fun a w=>K 48 [(0,v2),(6,.int .u64 (x8.2))] a ∧ St [] w0 w [] ∧ d_slices_Repeat_int_int_J1 fu x1 x8 = some r) ?_ ?_))
   · rintro a Bj ⟨k,m,h⟩
     unfold d_slices_Repeat_int_int_J1 at h
     refine wr (pN 1 k z fun a k=>sv k z (r_cv k underlying204 underlying3 z z) fun a k=>oE h fun Ak Ar h=>s_mk Ar te63 z z m k z z z z z z fun As Bl a Au k m e Be=>pN 1 k z fun a k=>nn (wr (pN 2 k z fun a k=>s_cp (lo:=0) te63 m 0 Be (Part.self _) (Enc.rd_agr Ai (m.a00 (Enc.rd_lt Ai))) k z z z z z z z fun Ao a k e m Al=>pN 1 k z fun a k=>nn (wp_seq (wp_block (c_loop (fun n a w=>∃ (Ac:List Int) (Af:Value) (Ab:List Nat) (Ah:World) (Aa:Int),K 48 [(7,Af),(8,I Aa)] a ∧ St [] w0 w [(Ab,Ah)] ∧ ow Ah Ab [Af] Ac ∧ d_slices_Repeat_int_int_L1 fu  n Ac Aa = some r) ?_ ?_ fu _ _ ?_))))))
     · rintro a w ⟨_,_,_,_,_,_,_,_,h⟩
       exact nS h
     · rintro Bm a Bi ⟨Ac,Af,Ab,Ah,Aa,k,m,Ad,h⟩
       rw [d_slices_Repeat_int_int_L1_s] at h
       unfold d_slices_Repeat_int_int_L1_B at h
       refine wp_seq (wr (pN 2 k z fun a k=>sv k z (r_len (α:=Int) (Enc.ow_rd Ad) k underlying63 z z) fun a k=>pN 1 k z fun a k=>nn (cI h k z (fun Av h=>?_) fun Av h=>?_)))
       · refine wp_skip (nm_then ?_)
         refine wp_block (d_go (Ab) mixo m z fun Bd hMd=>?_)
         have m:=hMd
         have s:=Ext.refl ((Ab):List Nat) Bd
         refine dN [0,1,2,4,5] 5 z k (by kernel_rfl) z s (fun _ _ _ _ _=>id) fun a k=>oE h fun Bh Bb h=>?_
         obtain ⟨Bf,Bk,Ax,Aw⟩:=sl_from (Enc.ow_rd Ad) Bb ts63
         refine dt k 3 z (by kernel_rfl) z s (fun _ _ _=>id) (fun w s=>Aw k z z z _) fun a k=>oE h fun Aj Ap h=>?_
         obtain ⟨Bg,Az,Aq⟩:=sl_to (Enc.ow_rd Ad) Ap ts63
         refine dt k 6 z (by kernel_rfl) z s (fun _ _ _=>id) (fun w s=>Aq k z z z _) fun a k=>d_one 7 (by kernel_rfl) z (s_cp (lo:=Aa) te63 m 0 Ad Ax (Enc.rd_agr Az (m.a 0 z)) k z z z z z z z fun At a k e m Am=>?_)
         have s:=s.trans e (fun y hy=>Or.inl hy)
         refine wpList_nil ⟨s,?_⟩
         refine dN [8,9] 2 z k (by kernel_rfl) z s (fun _ _ _ _ _=>id) fun a k=>d_done (by kernel_rfl) ((nm_block (nm_then ?_)))
         exact ⟨cpd Ac Aa Aj,Af,Ab,At,w64 (Aa + (cpn Ac Aa Aj)),k.keep [7,8] z,m.sel [0] z (by decide),Am,h⟩
       refine wp_exit (ex_then (ex_then (ex_same (nm_then ?_))))
       refine wr (pN 2 k z fun a k=>nn (wp_ret ?_))
       cases h
       exact finR1 k z (RV.tmp k z) ⟨_,Ab,z,m.ext,(Enc.ow_agr Ad (m.a 0 z)),(m.fresh 0 z)⟩
     exact ⟨cpd Ak 0 x1,Au,[As],Ao,cpn Ak 0 x1,k.keep [7,8] z,m.sel [0] z (by decide),Al,h⟩
   refine wr (pN 3 k z fun a k=>bsplit (decide (x8.1 > 0)) (fun Ae=>?_) (fun Ae=>?_))
   · have h:=bif_t Ae h
     refine rB k 23 z Ae fun k=>pN 3 k z fun a k=>nn (wp_cond_true (k.ev z) ?_)
     exact nS h
   have h:=bif_f Ae h
   refine rB k 23 z Ae fun k=>pN 3 k z fun a k=>nn (cI h k z (fun Ba h=>?_) fun Ba h=>?_)
   · exact nS h
   refine wp_skip (nm_then ?_)
   exact ⟨k.keep [0,6] z,m.sel [] z (by decide),h⟩
 refine wr (pN 2 k z fun a k=>nn (cI h k z (fun Bc h=>?_) fun Bc h=>?_))
 · exact nS h
 refine wp_skip (nm_then ?_)
 exact ⟨k.keep [0,1] z,m.sel [] z (by decide),h⟩
theorem c_impl_Units (fu:Nat) {w0:World} (r1:Request) {Ap:List Value} {F3:List Nat} (Bi:rd w0 F3 Ap r1) {r:(List Int)}
    (h:d_impl_Units fu r1 = some r) :
    Calls Tryz.prog 123 #[.agg Ap.toArray] w0 fun e w=>∃ (v0:Value) (G0:List Nat),e = .returned (v0) ∧ Ext [] w0 w ∧ ow w G0 [v0] r ∧ (∀ b ∈ G0,w0.heap.size ≤ b):=by
 refine enter (vs:=[_]) func123 z ntmps123 z fun a k=>?_
 have m:=St.start w0
 obtain ⟨v5,F6,v7,F8,v9,Bl,rfl,rfl,Ao,Aj,Ac⟩:=Bi
 unfold d_impl_Units at h
 refine wr (s_box (cs:=[I r1.fWay,I r1.fPallet.fW,I r1.fPallet.fD,I r1.fPallet.fH,I r1.fPallet.fGram,I r1.fClasses,v5,v7,I r1.fMaster,v9]) m k z z z z z z fun Bp Bs a k m e Al=>pN 1 k z fun a k=>nn (wp_seq (wr (sv k z (r_ldB ta38 m 0 Al 0 k z z z z z z) fun a k=>oE h fun Bv Bg h=>?_))))
 refine cE k m call115 z z z (c_impl_sound fu _ (show rd _ _ [I r1.fWay,I r1.fPallet.fW,I r1.fPallet.fD,I r1.fPallet.fH,I r1.fPallet.fGram,I r1.fClasses,v5,v7,I r1.fMaster,v9] (r1:Request) from ⟨_,_,_,_,_,_,z,z,(Enc.rd_agr Ao (m.a00 (Enc.rd_lt Ao))),(Enc.rd_agr Aj (m.a00 (Enc.rd_lt Aj))),(Enc.rd_agr Ac (m.a00 (Enc.rd_lt Ac)))⟩) Bg) fun Bt e a k m=>pN 1 k z fun a k=>nn (cI h k z (fun Ax h=>?_) fun Ax h=>?_)
 · refine wr (pN 1 k z fun a k=>nn (wp_ret (rt_then ?_)))
   cases h
   exact finR1 k z (RV.tmp k z) ⟨_,[],z,m.ext,(ow_nil _),(by simp)⟩
 refine wp_skip (nm_then ?_)
 refine wr (s_bs (cs:=[]) (ps:=[]) te63 m k z z z z z z z (by decide) z (by exact (List.forall_mem_nil _)) fun Am Bh Br a k m e Av=>?_)
 have As:=ow_bx Av ([]:List Int) z z z
 refine pN 1 k z fun a k=>nn (wp_seq (wr (sv k z (r_fa fa38_6 k z z) fun a k=>sv k z (r_ldb t136 m 1 Al 9 k z z z z z) fun a k=>sv k z (r_len (α:=Item) Ac k underlying36 z z) fun a k=>pN 1 k z fun a k=>nn (wp_block (c_loop (fun n a w=>∃ (Ah:List Int) (Ae:Value) (Ad:List Nat) (Ag:World) (Ab:Int),K 27 [(3,Ae),(11,v9),(12,I ((r1.fItems.length:Int))),(13,I Ab)] a ∧ St [] w0 w [(Ad,Ag)] ∧ ow Ag Ad [Ae] Ah ∧ d_impl_Units_L1 fu r1 n Ah Ab = some r) ?_ ?_ fu _ _ ?_)))))
 · rintro a w ⟨_,_,_,_,_,_,_,_,h⟩
   exact nS h
 · rintro Bw a Bo ⟨Ah,Ae,Ad,Ag,Ab,k,m,Ai,h⟩
   rw [d_impl_Units_L1_s] at h
   unfold d_impl_Units_L1_B at h
   refine wr (pN 1 k z fun a k=>nn (wp_seq (cI h k z (fun Bd h=>?_) fun Bd h=>?_)))
   · refine wp_skip (nm_then ?_)
     refine wp_seq (wp_block (wr (pN 1 k z fun a k=>oE h fun Aa Ak h=>sv k z (r_ixa Ac Ak k ts36 z z z) fun a k=>sv k z (r_lde Ac (m.a00 (Enc.rd_lt Ac)) Ak ta158 k z z) fun a k=>s_alloc (cs:=[I 0,I 0,I 0,I 0,I 0,I 0,I 0]) m k zeroValue158 z z z z z fun Bu Bk a k m e Ay=>pN 1 k z fun a k=>s_stb (cs':=[I Aa.fId,I Aa.fW,I Aa.fH,I Aa.fD,I Aa.fGram,I Aa.fClass,I Aa.fCount]) sizeOf158 m 0 Ay 0 k z z z z z z z z z z z fun Bn a k e m At=>nn (wp_region_lit (pN 2 k z fun a k=>?_)))))
     refine s_bs (cs:=[I Ab]) (ps:=[(0,.tmp 19)]) te63 m k z z z z z z z (by decide) z (by exact (List.forall_mem_cons.2 ⟨z,(List.forall_mem_nil _)⟩)) fun Ca Bz Bm a k m e Bb=>?_
     have Au:=ow_bx Bb ([Ab]:List Int) z z z
     refine sv k z (r_fa fa158_6 k z z) fun a k=>sv k z (r_ldb t13 m 1 At 6 k z z z z z) fun a k=>oE h fun By Aq h=>s_call k call225 z z z z z (c_slices_Repeat_int_int fu _ _ (Enc.rd_agr (Enc.ow_rd Au) (m.a 0 z)) Aq) fun Bx Cb hR=>?_
     obtain ⟨Bq,Az,rfl,e,Af,Ba⟩:=hR
     refine ⟨_,z,fun a k=>?_⟩
     have m:=m.new e Az (fun b hb=>⟨Ba b hb,Enc.rd_lt (Enc.ow_rd Af) b hb⟩) (Enc.ow_nd Af)
     refine oE h fun Bj Ar h=>s_appF Ar te63 z m 3 Ai (News.rd (Enc.rd_agr (Enc.ow_rd Af) (m.a 0 z))) z z k z z z z z z z fun Be Bc Bf a k e m Aw=>pN 1 k z fun a k=>wpList_nil (nm_block (nm_then ?_))
     refine wp_region_lit (pN 2 k z fun a k=>nn ?_)
     exact ⟨Bj,Be,Bc,Bf,w64 (Ab + 1),k.keep [3,11,12,13] z,m.sel [3] z (by decide),Aw,h⟩
   refine wp_exit (ex_then (ex_then (ex_same (nm_then ?_))))
   refine wr (pN 2 k z fun a k=>nn (wp_ret ?_))
   cases h
   exact finR1 k z (RV.tmp k z) ⟨_,Ad,z,m.ext,(Enc.ow_agr Ai (m.a 0 z)),(m.fresh 0 z)⟩
 exact ⟨([]:List Int),(.slice (some ⟨Am,0,none⟩) 0 0),[Am],Bh,0,k.keep [3,11,12,13] z,m.sel [0] z (by decide),As,h⟩
theorem c_impl_places (fu:Nat) {w0:World} (n1:Int)  {r:(List Int)}
    (h:d_impl_places fu n1 = some r) :
    Calls Tryz.prog 122 #[I n1] w0 fun e w=>∃ (v0:Value) (G0:List Nat),e = .returned (v0) ∧ Ext [] w0 w ∧ ow w G0 [v0] r ∧ (∀ b ∈ G0,w0.heap.size ≤ b):=by
 refine enter (vs:=[_]) func122 z ntmps122 z fun a k=>?_
 have m:=St.start w0
 unfold d_impl_places at h
 refine wr (pN 1 k z fun a k=>nn (wr (s_bs (cs:=[]) (ps:=[]) te63 m k z z z z z z z (by decide) z (by exact (List.forall_mem_nil _)) fun g2 w3 e5 a k m e Aj=>?_)))
 have Aq:=ow_bx Aj ([]:List Int) z z z
 refine pN 1 k z fun a k=>nn (wp_seq (wr (pN 2 k z fun a k=>nn (wp_block (c_loop (fun n a w=>∃ (Ac:List Int) (Ad:Value) (Ab:List Nat) (Ae:World) (Aa:Int),K 16 [(3,Ad),(6,I n1),(7,I Aa)] a ∧ St [] w0 w [(Ab,Ae)] ∧ ow Ae Ab [Ad] Ac ∧ d_impl_places_L1 fu n1 n Ac Aa = some r) ?_ ?_ fu _ _ ?_)))))
 · rintro a w ⟨_,_,_,_,_,_,_,_,h⟩
   exact nS h
 · rintro Au a Av ⟨Ac,Ad,Ab,Ae,Aa,k,m,Af,h⟩
   rw [d_impl_places_L1_s] at h
   unfold d_impl_places_L1_B at h
   refine wr (pN 1 k z fun a k=>nn (wp_seq (cI h k z (fun Al h=>?_) fun Al h=>?_)))
   · refine wp_skip (nm_then ?_)
     refine wp_seq (wp_block (wr (pN 2 k z fun a k=>nn (wp_region_lit (pN 2 k z fun a k=>s_bs (cs:=[I Aa]) (ps:=[(0,.tmp 11)]) te63 m k z z z z z z z (by decide) z (by exact (List.forall_mem_cons.2 ⟨z,(List.forall_mem_nil _)⟩)) fun As At Aw a k m e Ap=>?_)))))
     have Am:=ow_bx Ap ([Aa]:List Int) z z z
     refine oE h fun Ar Ag h=>s_appF Ag te63 z m 1 Af (News.rd (Enc.rd_agr (Enc.ow_rd Am) (m.a 0 z))) z z k z z z z z z z fun Ak Ai Ao a k e m Ah=>pN 1 k z fun a k=>wpList_nil (nm_block (nm_then ?_))
     refine wp_region_lit (pN 2 k z fun a k=>nn ?_)
     exact ⟨Ar,Ak,Ai,Ao,w64 (Aa + 1),k.keep [3,6,7] z,m.sel [1] z (by decide),Ah,h⟩
   refine wp_exit (ex_then (ex_then (ex_same (nm_then ?_))))
   refine wr (pN 2 k z fun a k=>nn (wp_ret ?_))
   cases h
   exact finR1 k z (RV.tmp k z) ⟨_,Ab,z,m.ext,(Enc.ow_agr Af (m.a 0 z)),(m.fresh 0 z)⟩
 exact ⟨([]:List Int),(.slice (some ⟨g2,0,none⟩) 0 0),[g2],w3,0,k.keep [3,6,7] z,m.sel [0] z (by decide),Aq,h⟩
theorem c_slices_Equal_int_int (fu:Nat) {w0:World} (Ac:List Int) (Ae:List Int) {v2:Value} {F3:List Nat} (Aa:rd w0 F3 [v2] Ac) {v6:Value} {F7:List Nat} (Ab:rd w0 F7 [v6] Ae) {r:Bool}
    (h:d_slices_Equal_int_int fu Ac Ae = some r) :
    Calls Tryz.prog 121 #[v2,v6] w0 fun e w=>e = .returned (.bool (r)) ∧ Ext [] w0 w:=by
 refine enter (vs:=[_,_]) func121 z ntmps121 z fun a k=>?_
 have m:=St.start w0
 unfold d_slices_Equal_int_int at h
 refine wr (pN 1 k z fun a k=>nn (wp_seq (wr (pN 1 k z fun a k=>sv k z (r_len (α:=Int) Aa k underlying63 z z) fun a k=>pN 1 k z fun a k=>sv k z (r_len (α:=Int) Ab k underlying63 z z) fun a k=>pN 1 k z fun a k=>nn (cI h k z (fun Aj h=>?_) fun Aj h=>?_)))))
 · refine wr (pN 1 k z fun a k=>nn (wp_ret (rt_then ?_)))
   refine fS h k m z z
 refine wp_skip (nm_then ?_)
 refine wp_seq (wr (pN 1 k z fun a k=>sv k z (r_len (α:=Int) Aa k underlying63 z z) fun a k=>pN 1 k z fun a k=>nn (wp_block (c_loop (fun n a w=>∃ (Ad:Int),K 26 [(0,v2),(1,v6),(12,I ((Ac.length:Int))),(13,I Ad)] a ∧ St [] w0 w [] ∧ d_slices_Equal_int_int_L1 fu Ac Ae n Ad = some r) ?_ ?_ fu _ _ ?_))))
 · rintro a w ⟨_,_,_,h⟩
   exact nS h
 · rintro Ao a Al ⟨Ad,k,m,h⟩
   rw [d_slices_Equal_int_int_L1_s] at h
   unfold d_slices_Equal_int_int_L1_B at h
   refine wr (pN 1 k z fun a k=>nn (wp_seq (cI h k z (fun Ah h=>?_) fun Ah h=>?_)))
   · refine wp_skip (nm_then ?_)
     refine wp_seq (wp_block (wr (pN 2 k z fun a k=>nn (wp_seq (d_go [] mixo m z fun Ak hMd=>?_)))))
     have m:=hMd
     have s:=Ext.refl ([]:List Nat) Ak
     refine dN [0,1,4,5] 4 z k (by kernel_rfl) z s (fun _ _ _ _ _=>id) fun a k=>oE h fun Ap Ag h=>dt k 2 z (by kernel_rfl) z s (fun _ _ _=>id) (fun w s=>r_ixa Aa Ag k ts63 z z z) fun a k=>dt k 3 z (by kernel_rfl) z s (fun _ _ _=>id) (fun w s=>r_lde1 Aa ((hMd.step s).a00 (Enc.rd_lt Aa)) Ag 0 t13 k z z z z) fun a k=>oE h fun Am Af h=>dt k 6 z (by kernel_rfl) z s (fun _ _ _=>id) (fun w s=>r_ixa Ab Af k ts63 z z z) fun a k=>dt k 7 z (by kernel_rfl) z s (fun _ _ _=>id) (fun w s=>r_lde1 Ab ((hMd.step s).a00 (Enc.rd_lt Ab)) Af 0 t13 k z z z z) fun a k=>dN [8] 1 z k (by kernel_rfl) z s (fun _ _ _ _ _=>id) fun a k=>d_done (by kernel_rfl) ((nm_then ?_))
     refine cI h k z (fun Ai h=>?_) fun Ai h=>?_
     · refine wr (pN 1 k z fun a k=>nn (wp_ret (rt_block (rt_then (rt_then (rt_block (rt_then ?_)))))))
       refine fS h k m z z
     refine wp_skip (nm_block (nm_then ?_))
     refine wp_region_lit (pN 2 k z fun a k=>nn ?_)
     exact ⟨w64 (Ad + 1),k.keep [0,1,12,13] z,m.sel [] z (by decide),h⟩
   refine wp_exit (ex_then (ex_then (ex_same (nm_then ?_))))
   refine wr (pN 1 k z fun a k=>nn (wp_ret (fS h k m z z)))
 exact ⟨0,k.keep [0,1,12,13] z,m.sel [] z (by decide),h⟩
theorem c_slices_Clone_int_int (fu:Nat) {w0:World} (Ac:List Int) {v2:Value} {F3:List Nat} (Aa:rd w0 F3 [v2] Ac) {r:(List Int)}
    (h:d_slices_Clone_int_int fu Ac = some r) :
    Calls Tryz.prog 133 #[v2] w0 fun e w=>∃ (v0:Value) (G0:List Nat),e = .returned (v0) ∧ Ext [] w0 w ∧ ow w G0 [v0] r ∧ (∀ b ∈ G0,w0.heap.size ≤ b):=by
 refine enter (vs:=[_]) func133 z ntmps133 z fun a k=>?_
 have m:=St.start w0
 unfold d_slices_Clone_int_int at h
 refine wr (pN 1 k z fun a k=>nn (wp_seq (wr (pN 1 k z fun a k=>?_))))
 obtain ⟨Ae,Ak,Al⟩:=r_nilq Aa
 refine sv k z (Al k underlying63 z z z) fun a k=>nn (c_cond (b:=Ae) k z (fun Ab=>?_) (fun Ab=>?_))
 · have Af:=Ak Ab
   rw [Af] at h
   have h:some (([]:List Int)) = some r:=h
   refine wr (pN 1 k z fun a k=>nn (wp_ret (rt_then ?_)))
   cases h
   exact finR1 k z (RV.tmp k z) ⟨_,[],z,m.ext,(ow_nil _),(by simp)⟩
 refine wp_skip (nm_then ?_)
 refine wr (s_bs (cs:=[]) (ps:=[]) te63 m k z z z z z z z (by decide) z (by exact (List.forall_mem_nil _)) fun Am As Ao a k m e Aj=>?_)
 have Ai:=ow_bx Aj ([]:List Int) z z z
 refine pN 1 k z fun a k=>oE h fun Ar Ag h=>s_appF Ag te63 z m 0 Ai (News.rd (Enc.rd_agr Aa (m.a00 (Enc.rd_lt Aa)))) z z k z z z z z z z fun Ap Ad Aq a k e m Ah=>pN 1 k z fun a k=>nn (wp_ret ?_)
 cases h
 exact finR1 k z (RV.tmp k z) ⟨_,Ad,z,m.ext,(Enc.ow_agr Ah (m.a 0 z)),(m.fresh 0 z)⟩
theorem c_impl_thereOf_1 (fu:Nat) {w0:World} (u1:Int) (x2:Int) {b3:Nat} (Aa:bx w0 b3 [I x2] 3) {r:Bool}
    (h:d_impl_thereOf_1 fu u1 x2 = some r) :
    Calls Tryz.prog 238 #[I u1,.pointer (some (⟨b3,0,none⟩:Addr))] w0 fun e w=>e = .returned (.bool (r)) ∧ Ext [] w0 w:=by
 refine enter (vs:=[_,_]) func238 z ntmps238 z fun a k=>?_
 have m:=St.start w0
 unfold d_impl_thereOf_1 at h
 refine wr (pN 1 k z fun a k=>nn (wr (pN 1 k z fun a k=>sv k z (r_ld1 t13 (r:=[]) (Aa.at (m.a00 Aa.lt1) 0 1 z z z) k z z) fun a k=>pN 1 k z fun a k=>oE h fun x5 Ab h=>cE k m call139 z z z (c_impl_in fu _ _ _  Ab) fun w9 e a k m=>pN 2 k z fun a k=>nn (wp_ret (fS h k m z z)))))
theorem c_slices_IndexFunc_int_int (fu:Nat) {w0:World} (Aa:List Int) (f5:Int → Option Bool) {v2:Value} {F3:List Nat} (Ab:rd w0 F3 [v2] Aa) {v6:Value} (Ag:FnOk1 Tryz.prog w0 v6 f5) {r:Int}
    (h:d_slices_IndexFunc_int_int fu Aa f5 = some r) :
    Calls Tryz.prog 241 #[v2,v6] w0 fun e w=>e = .returned (I r) ∧ Ext [] w0 w:=by
 refine enter (vs:=[_,_]) func241 z ntmps241 z fun a k=>?_
 have m:=St.start w0
 obtain ⟨Ai,Ak,rfl,Ah,Af⟩:=Ag
 unfold d_slices_IndexFunc_int_int at h
 refine wr (pN 1 k z fun a k=>nn (wp_seq (wr (pN 1 k z fun a k=>sv k z (r_len (α:=Int) Ab k underlying63 z z) fun a k=>pN 1 k z fun a k=>nn (wp_block (c_loop (fun n a w=>∃ (Ac:Int),K 19 [(0,v2),(1,(.func (.func Ai) #[] Ak.toArray)),(7,I ((Aa.length:Int))),(8,I Ac)] a ∧ St [] w0 w [] ∧ d_slices_IndexFunc_int_int_L1 fu Aa f5 n Ac = some r) ?_ ?_ fu _ _ ?_))))))
 · rintro a w ⟨_,_,_,h⟩
   exact nS h
 · rintro Ap a Aq ⟨Ac,k,m,h⟩
   rw [d_slices_IndexFunc_int_int_L1_s] at h
   unfold d_slices_IndexFunc_int_int_L1_B at h
   refine wr (pN 1 k z fun a k=>nn (wp_seq (cI h k z (fun Al h=>?_) fun Al h=>?_)))
   · refine wp_skip (nm_then ?_)
     refine wp_seq (wp_block (wr (pN 2 k z fun a k=>nn (wr (pN 3 k z fun a k=>oE h fun Am Ad h=>sv k z (r_ixa Ab Ad k ts63 z z z) fun a k=>sv k z (r_lde1 Ab (m.a00 (Enc.rd_lt Ab)) Ad 0 t13 k z z z z) fun a k=>oE h fun Ar Ae h=>s_callv k Ah z z z z z z (Af _ _ _ _ m.ext z Ae) fun As Ao hR=>?_)))))
     obtain ⟨rfl,e⟩:=hR
     refine ⟨_,z,fun a k=>?_⟩
     have m:=m.step e
     refine nn (cI h k z (fun Aj h=>?_) fun Aj h=>?_)
     · refine wr (pN 2 k z fun a k=>nn (wp_ret (rt_block (rt_then (rt_then (rt_block (rt_then ?_)))))))
       refine fS h k m z z
     refine wp_skip (nm_block (nm_then ?_))
     refine wp_region_lit (pN 2 k z fun a k=>nn ?_)
     exact ⟨w64 (Ac + 1),k.keep [0,1,7,8] z,m.sel [] z (by decide),h⟩
   refine wp_exit (ex_then (ex_then (ex_same (nm_then ?_))))
   refine wr (pN 1 k z fun a k=>nn (wp_ret (fS h k m z z)))
 exact ⟨0,k.keep [0,1,7,8] z,m.sel [] z (by decide),h⟩
theorem c_slices_DeleteFunc_int_int (fu:Nat) {w0:World} (Aj:List Int) (f5:Int → Option Bool) {v2:Value} {F3:List Nat} (Ad:ow w0 F3 [v2] Aj) {v6:Value} (Ba:FnOkX1 F3 Tryz.prog w0 v6 f5) {r:(List Int)}
    (h:d_slices_DeleteFunc_int_int fu Aj f5 = some r) :
    Calls Tryz.prog 158 #[v2,v6] w0 fun e w=>∃ (v0:Value) (G0:List Nat),e = .returned (v0) ∧ Ext F3 w0 w ∧ ow w G0 [v0] r ∧ (∀ b ∈ G0,b ∈ F3 ∨ w0.heap.size ≤ b):=by
 refine enter (vs:=[_,_]) func158 z ntmps158 z fun a k=>?_
 have m:=St.start1 w0 (Enc.rd_lt (Enc.ow_rd Ad)) (Enc.ow_nd Ad)
 obtain ⟨As,Ap,rfl,Am,Ar⟩:=Ba
 unfold d_slices_DeleteFunc_int_int at h
 refine wr (pN 1 k z fun a k=>nn (wr (pN 2 k z fun a k=>oE h fun Al Bd h=>cE k m call241 z z z (c_slices_IndexFunc_int_int fu _ _ (Enc.rd_agr (Enc.ow_rd Ad) (m.a 0 z)) ⟨_,_,z,Am,fun w Au Be r e=>Ar w Au Be r (m.ext.trans e (by simp))⟩ Bd) fun Bo e a k m=>pN 1 k z fun a k=>nn (wp_seq (wr (pN 2 k z fun a k=>nn (cI h k z (fun Bb h=>?_) fun Bb h=>?_)))))))
 · refine wr (pN 2 k z fun a k=>nn (wp_ret (rt_then ?_)))
   cases h
   exact finR1 k z (RV.tmp k z) ⟨_,F3,z,m.ext,(Enc.ow_agr Ad (m.a 0 z)),(fun b hb=>m.lo b (mem_fps (i:=0) z hb))⟩
 refine wp_skip (nm_then ?_)
 refine wp_seq (wr (pN 3 k z fun a k=>nn (wp_block (c_loop (fun n a w=>∃ (Ae:List Int) (Ag:World) (Ab:Int) (Ac:Int),K 42 [(0,v2),(1,(.func (.func As) #[] Ap.toArray)),(5,I Ab),(6,I Ac)] a ∧ St F3 w0 w [(F3,Ag)] ∧ ow Ag F3 [v2] Ae ∧ d_slices_DeleteFunc_int_int_L1 fu f5 n Ae Ab Ac = some r) ?_ ?_ fu _ _ ?_))))
 · rintro a w ⟨_,_,_,_,_,_,_,h⟩
   exact nS h
 · rintro Bi a Bm ⟨Ae,Ag,Ab,Ac,k,m,Aa,h⟩
   rw [d_slices_DeleteFunc_int_int_L1_s] at h
   unfold d_slices_DeleteFunc_int_int_L1_B at h
   refine wp_seq (wr (pN 2 k z fun a k=>sv k z (r_len (α:=Int) (Enc.ow_rd Aa) k underlying63 z z) fun a k=>pN 1 k z fun a k=>nn (cI h k z (fun Bc h=>?_) fun Bc h=>?_)))
   · refine wp_skip (nm_then ?_)
     refine c_cut (fun a w=>∃ (Af:List Int) (Ai:World) (Ah:Int),K 42 [(0,v2),(1,(.func (.func As) #[] Ap.toArray)),(5,I Ah),(6,I Ac)] a ∧ St F3 w0 w [(F3,Ai)] ∧ ow Ai F3 [v2] Af ∧ d_slices_DeleteFunc_int_int_J1 fu (d_slices_DeleteFunc_int_int_L1 fu f5 Bi) Ac Af Ah = some r) ?_ ?_
     · rintro a Bl ⟨Af,Ai,Ah,k,m,Ay,h⟩
       unfold d_slices_DeleteFunc_int_int_J1 at h
       refine wp_region_lit (pN 3 k z fun a k=>nn ?_)
       exact ⟨Af,Ai,Ah,w64 (Ac + 1),k.keep [0,1,5,6] z,m.sel [0] z (by decide),Ay,h⟩
     refine wp_block (wr (pN 2 k z fun a k=>oE h fun Ao Aq h=>sv k z (r_ixa (Enc.ow_rd Aa) Aq k ts63 z z z) fun a k=>sv k z (r_lde1 (Enc.ow_rd Aa) (m.a 0 z) Aq 0 t13 k z z z z) fun a k=>pN 1 k z fun a k=>nn (wr (pN 2 k z fun a k=>oE h fun Bn At h=>s_callv k Am z z z z z z (Ar _ _ _ _ m.ext z At) fun Br Bv hR=>?_))))
     obtain ⟨rfl,e⟩:=hR
     refine ⟨_,z,fun a k=>?_⟩
     have m:=m.step e
     refine pN 1 k z fun a k=>nn (cI h k z (fun Az h=>?_) fun Az h=>?_)
     · refine wr (pN 3 k z fun a k=>oE h fun Bw Ak h=>sv k z (r_ixa (Enc.ow_rd Aa) Ak k ts63 z z z) fun a k=>s_ste (α:=Int) (sz:=1) (y:=Ao) sizeOf3 Ak m 0 Aa 0 k z z z z z z z z z z z z fun Bj a k e m Ax=>nn (wp_region_lit (pN 3 k z fun a k=>wpList_nil (nm_block (nm_then ?_)))))
       exact ⟨setx Ae Ab Ao,Bj,w64 (Ab + 1),k.keep [0,1,5,6] z,m.sel [0] z (by decide),Ax,h⟩
     refine wp_skip (nm_block (nm_then ?_))
     exact ⟨Ae,Ag,Ab,k.keep [0,1,5,6] z,m.sel [0] z (by decide),Aa,h⟩
   refine wp_exit (ex_then (ex_then (ex_same (nm_then ?_))))
   refine wr (pN 2 k z fun a k=>oE h fun Bp Bh h=>s_slFromP (Enc.ow_rd Aa) Bh k ts63 z z z z z z fun Bq a k Bt Aw=>s_clr (lo:=Ab) te63 m 0 Aa Aw k z z z z z fun Bk a k e m Bf=>nn (wr (pN 2 k z fun a k=>oE h fun Bs Av h=>s_slToO Bf Av k ts63 z z z z z z fun Bu a k Bg=>pN 1 k z fun a k=>nn (wp_ret ?_))))
   cases h
   exact finR1 k z (RV.tmp k z) ⟨_,F3,z,m.ext,(Enc.ow_agr Bg (m.a 0 z)),(fun b hb=>m.lo b (mem_fps (i:=0) z hb))⟩
 exact ⟨Aj,w0,Al,w64 (Al + 1),k.keep [0,1,5,6] z,m.sel [0] z (by decide),Ad,h⟩
theorem c_impl_thereOf (fu:Nat) {w0:World} (r1:Request) (Af:List Int) {Ai:List Value} {F3:List Nat} (Az:rd w0 F3 Ai r1) {v6:Value} {F7:List Nat} (Ag:rd w0 F7 [v6] Af) {r:(List Int)}
    (h:d_impl_thereOf fu r1 Af = some r) :
    Calls Tryz.prog 147 #[.agg Ai.toArray,v6] w0 fun e w=>∃ (v0:Value) (G0:List Nat),e = .returned (v0) ∧ Ext [] w0 w ∧ ow w G0 [v0] r ∧ (∀ b ∈ G0,w0.heap.size ≤ b):=by
 refine enter (vs:=[_,_]) func147 z ntmps147 z fun a k=>?_
 have m:=St.start w0
 obtain ⟨v9,Bd,Al,Bu,Aj,Bo,rfl,rfl,Ak,Ae,Ah⟩:=Az
 unfold d_impl_thereOf at h
 refine wr (s_box (cs:=[I r1.fWay,I r1.fPallet.fW,I r1.fPallet.fD,I r1.fPallet.fH,I r1.fPallet.fGram,I r1.fClasses,v9,Al,I r1.fMaster,Aj]) m k z z z z z z fun Bf Bs a k m e Aw=>pN 1 k z fun a k=>nn (wr (sv k z (r_ldB ta38 m 0 Aw 0 k z z z z z z) fun a k=>oE h fun Ao Ay h=>?_)))
 refine s_call k call123 z z z z z (c_impl_Units fu _ (show rd _ _ [I r1.fWay,I r1.fPallet.fW,I r1.fPallet.fD,I r1.fPallet.fH,I r1.fPallet.fGram,I r1.fClasses,v9,Al,I r1.fMaster,Aj] (r1:Request) from ⟨_,_,_,_,_,_,z,z,(Enc.rd_agr Ak (m.a00 (Enc.rd_lt Ak))),(Enc.rd_agr Ae (m.a00 (Enc.rd_lt Ae))),(Enc.rd_agr Ah (m.a00 (Enc.rd_lt Ah)))⟩) Ay) fun Bi Bt hR=>?_
 obtain ⟨Bl,Au,rfl,e,Aa,Ar⟩:=hR
 refine ⟨_,z,fun a k=>?_⟩
 have m:=m.new e Au (fun b hb=>⟨Ar b hb,Enc.rd_lt (Enc.ow_rd Aa) b hb⟩) (Enc.ow_nd Aa)
 refine sv k z (r_len (α:=Int) (Enc.ow_rd Aa) k underlying63 z z) fun a k=>s_alloc (cs:=[I 0]) m k zeroValue3 z z z z z fun Bb Bv a k m e At=>s_stb (cs':=[I ((Ao.length:Int))]) sizeOf3 m 0 At 0 k z z z z z z z z z z z fun Bn a k e m Aq=>nn (wr (pN 1 k z fun a k=>oE h fun Bc Ba h=>s_call k call133 z z z z z (c_slices_Clone_int_int fu _ (Enc.rd_agr Ag (m.a00 (Enc.rd_lt Ag))) Ba) fun Bm Be hR=>?_))
 obtain ⟨Br,Ad,rfl,e,Ab,As⟩:=hR
 refine ⟨_,z,fun a k=>?_⟩
 have m:=m.new e Ad (fun b hb=>⟨As b hb,Enc.rd_lt (Enc.ow_rd Ab) b hb⟩) (Enc.ow_nd Ab)
 refine pN 1 k z fun a k=>oE h fun Bk Av h=>s_call k call158 z z z z z (c_slices_DeleteFunc_int_int fu _ _ (Enc.ow_agr Ab (m.a 0 z)) ⟨238,[.pointer (some (⟨Bb,0,none⟩:Addr))],z,call238,fun w Bq Bj r e Ax hx=>by subst Ax; have m:=m.mut 0 rfl e Ad (fun b hb=>⟨.inl hb,e.lt1 (m.ltF 0 rfl) b hb⟩) (m.ndF 0 rfl); exact c_impl_thereOf_1 fu _ _ (Aq.agr (m.a 1 rfl) (by simp)) hx⟩ Av) fun Bg Bh hR=>?_
 obtain ⟨Bp,Am,rfl,e,Ac,Ap⟩:=hR
 refine ⟨_,z,fun a k=>?_⟩
 have m:=m.mut 0 z e _ (fun b hb=>⟨Ap b hb,Enc.rd_lt (Enc.ow_rd Ac) b hb⟩) (Enc.ow_nd Ac)
 refine pN 1 k z fun a k=>nn (wp_ret ?_)
 cases h
 exact finR1 k z (RV.tmp k z) ⟨_,Am,z,m.ext,(Enc.ow_agr Ac (m.a 0 z)),(m.fresh 0 z)⟩
theorem c_impl_itemsOf (fu:Nat) {w0:World} (r1:Request) (Ad:List Int) {Bd:List Value} {F3:List Nat} (Bz:rd w0 F3 Bd r1) {v6:Value} {F7:List Nat} (Al:rd w0 F7 [v6] Ad) {r:(List Item)}
    (h:d_impl_itemsOf fu r1 Ad = some r) :
    Calls Tryz.prog 149 #[.agg Bd.toArray,v6] w0 fun e w=>∃ (v0:Value) (G0:List Nat),e = .returned (v0) ∧ Ext [] w0 w ∧ ow w G0 [v0] r ∧ (∀ b ∈ G0,w0.heap.size ≤ b):=by
 refine enter (vs:=[_,_]) func149 z ntmps149 z fun a k=>?_
 have m:=St.start w0
 obtain ⟨v9,Cc,Bg,Cp,Bf,Cn,rfl,rfl,Au,At,Af⟩:=Bz
 unfold d_impl_itemsOf at h
 refine wr (s_box (cs:=[I r1.fWay,I r1.fPallet.fW,I r1.fPallet.fD,I r1.fPallet.fH,I r1.fPallet.fGram,I r1.fClasses,v9,Bg,I r1.fMaster,Bf]) m k z z z z z z fun Ai Ax a k m e Ba=>pN 1 k z fun a k=>nn (wr (sv k z (r_ldB ta38 m 0 Ba 0 k z z z z z z) fun a k=>oE h fun As Bx h=>?_)))
 refine s_call k call123 z z z z z (c_impl_Units fu _ (show rd _ _ [I r1.fWay,I r1.fPallet.fW,I r1.fPallet.fD,I r1.fPallet.fH,I r1.fPallet.fGram,I r1.fClasses,v9,Bg,I r1.fMaster,Bf] (r1:Request) from ⟨_,_,_,_,_,_,z,z,(Enc.rd_agr Au (m.a00 (Enc.rd_lt Au))),(Enc.rd_agr At (m.a00 (Enc.rd_lt At))),(Enc.rd_agr Af (m.a00 (Enc.rd_lt Af)))⟩) Bx) fun Ck Bb hR=>?_
 obtain ⟨Av,Ar,rfl,e,Ae,Bm⟩:=hR
 refine ⟨_,z,fun a k=>?_⟩
 have m:=m.new e Ar (fun b hb=>⟨Bm b hb,Enc.rd_lt (Enc.ow_rd Ae) b hb⟩) (Enc.ow_nd Ae)
 refine pN 1 k z fun a k=>nn (wr (s_bs (cs:=[]) (ps:=[]) te36 m k z z z z z z z (by decide) z (by exact (List.forall_mem_nil _)) fun Az Bl Cm a k m e Bj=>?_))
 have Bk:=ow_bx Bj ([]:List Item) z z z
 refine pN 1 k z fun a k=>nn (wp_seq (wr (pN 1 k z fun a k=>sv k z (r_len (α:=Int) Al k underlying63 z z) fun a k=>pN 1 k z fun a k=>nn (wp_block (c_loop (fun n a w=>∃ (Ap:List Item) (Ak:Value) (Ab:List Nat) (Ao:World) (Ac:Int),K 36 [(2,.pointer (some (⟨Ai,0,none⟩:Addr))),(5,Av),(6,Ak),(12,v6),(13,I ((Ad.length:Int))),(14,I Ac)] a ∧ St [] w0 w [([Ai],Ax),(Ar,Bb),(Ab,Ao)] ∧ ow Ao Ab [Ak] Ap ∧ d_impl_itemsOf_L1 fu r1 Ad As n Ap Ac = some r) ?_ ?_ fu _ _ ?_)))))
 · rintro a w ⟨_,_,_,_,_,_,_,_,h⟩
   exact nS h
 · rintro Bh a Cq ⟨Ap,Ak,Ab,Ao,Ac,k,m,Aq,h⟩
   rw [d_impl_itemsOf_L1_s] at h
   unfold d_impl_itemsOf_L1_B at h
   refine wr (pN 1 k z fun a k=>nn (wp_seq (cI h k z (fun Bi h=>?_) fun Bi h=>?_)))
   · refine wp_skip (nm_then ?_)
     refine c_cut (fun a w=>∃ (Am:List Item) (Ag:Value) (Ah:List Nat) (Aj:World),K 36 [(2,.pointer (some (⟨Ai,0,none⟩:Addr))),(5,Av),(6,Ag),(12,v6),(13,I ((Ad.length:Int))),(14,I Ac)] a ∧ St [] w0 w [([Ai],Ax),(Ar,Bb),(Ah,Aj)] ∧ ow Aj Ah [Ag] Am ∧ d_impl_itemsOf_J1 fu (d_impl_itemsOf_L1 fu r1 Ad As Bh) Ac Am = some r) ?_ ?_
     · rintro a Cr ⟨Am,Ag,Ah,Aj,k,m,Bs,h⟩
       unfold d_impl_itemsOf_J1 at h
       refine wp_region_lit (pN 2 k z fun a k=>nn ?_)
       exact ⟨Am,Ag,Ah,Aj,w64 (Ac + 1),k.keep [2,5,6,12,13,14] z,m.sel [0,1,2] z (by decide),Bs,h⟩
     refine wp_block (wr (oE h fun Cf Aw h=>sv k z (r_ixa Al Aw k ts63 z z z) fun a k=>sv k z (r_lde1 Al (m.a00 (Enc.rd_lt Al)) Aw 0 t13 k z z z z) fun a k=>pN 1 k z fun a k=>nn (wr (pN 2 k z fun a k=>sv k z (r_len (α:=Int) (Enc.ow_rd Ae) k underlying63 z z) fun a k=>pN 1 k z fun a k=>oE h fun Co By h=>cE k m call139 z z z (c_impl_in fu _ _ _  By) fun Ci e a k m=>nn (cI h k z (fun Br h=>?_) fun Br h=>?_)))))
     · refine d_go (Ab) mixo m z fun Bp hMd=>?_
       have m:=hMd
       have s:=Ext.refl ((Ab):List Nat) Bp
       refine dN [0,3,4] 3 z k (by kernel_rfl) z s (fun _ _ _ _ _=>id) fun a k=>dt k 1 z (by kernel_rfl) z s (fun _ _ _=>id) (fun w s=>r_fa fa38_6 k z z) fun a k=>dt k 2 z (by kernel_rfl) z s (fun _ _ _=>id) (fun w s=>r_ld1 t136 (r:=[]) (Ba.at (hMd.az 0 2 z z z s) 9 1 z z z) k z z) fun a k=>oE h fun Ch Ay h=>dt k 5 z (by kernel_rfl) z s (fun _ _ _=>id) (fun w s=>r_ixa (Enc.ow_rd Ae) Ay k ts63 z z z) fun a k=>dt k 6 z (by kernel_rfl) z s (fun _ _ _=>id) (fun w s=>r_lde1 (Enc.ow_rd Ae) (hMd.az 1 2 z z z s) Ay 0 t13 k z z z z) fun a k=>oE h fun Aa Be h=>dt k 7 z (by kernel_rfl) z s (fun _ _ _=>id) (fun w s=>r_ixa Af Be k ts36 z z z) fun a k=>?_
       refine dt k 8 z (by kernel_rfl) z s (fun _ _ _=>id) (fun w s=>r_lde Af (hMd.az0 2 z z (Enc.rd_lt Af) s) Be ta158 k z z) fun a k=>d_one 9 (by kernel_rfl) z (s_bsN (cs:=[I Aa.fId,I Aa.fW,I Aa.fH,I Aa.fD,I Aa.fGram,I Aa.fClass,I Aa.fCount]) (ps:=[(0,.tmp 31)]) te36 m k z z z z z z z (by decide) z (by exact (List.forall_mem_cons.2 ⟨z,(List.forall_mem_nil _)⟩)) fun Cj Cd Cl a k m e Bn Cb=>?_)
       have Ce:=lo1 (Nat.le_trans s.size Cb)
       have Bu:=ow_bx Bn ([Aa]:List Item) z z z
       have s:=s.trans e (by simp)
       refine wpList_nil ⟨s,?_⟩
       refine d_one 10 (by kernel_rfl) z (oE h fun Bq Bo h=>s_appFN Bo te36 z m 3 Aq (News.rd (Enc.rd_agr (Enc.ow_rd Bu) (m.a 0 z))) z z k z z z z z z z fun Bt Bc Bw a k e m Bv Ca=>?_)
       have Cg:∀ y ∈ Bc,y ∈ (Ab) ∨ _ ≤ y:=fun y hy=>(Ca y hy).elim (fun hy=>(fun y hy=>Or.inl hy) y hy) (fun h=>Or.inr (Nat.le_trans s.size h))
       have s:=s.trans e (fun y hy=>Or.inl hy)
       refine wpList_nil ⟨s,?_⟩
       refine dN [11] 1 z k (by kernel_rfl) z s (fun _ _ _ _ _=>id) fun a k=>d_done (by kernel_rfl) ((nm_block (nm_then ?_)))
       exact ⟨Bq,Bt,Bc,Bw,k.keep [2,5,6,12,13,14] z,m.sel [1,2,3] z (by decide),Bv,h⟩
     refine wp_skip (nm_block (nm_then ?_))
     exact ⟨Ap,Ak,Ab,Ao,k.keep [2,5,6,12,13,14] z,m.sel [0,1,2] z (by decide),Aq,h⟩
   refine wp_exit (ex_then (ex_then (ex_same (nm_then ?_))))
   refine wr (pN 2 k z fun a k=>nn (wp_ret ?_))
   cases h
   exact finR1 k z (RV.tmp k z) ⟨_,Ab,z,m.ext,(Enc.ow_agr Aq (m.a 2 z)),(m.fresh 2 z)⟩
 exact ⟨([]:List Item),(.slice (some ⟨Az,0,none⟩) 0 0),[Az],Bl,0,k.keep [2,5,6,12,13,14] z,m.sel [2,1,0] z (by decide),Bk,h⟩
theorem c_impl_Holds_1 (fu:Nat) {w0:World} (x1:Item) (x2:Typ) {b3:Nat} (Aa:bx w0 b3 [I x2.fId,I x2.fW,I x2.fH,I x2.fD,I x2.fTare,I x2.fGram,I x2.fCost] 79) {r:Bool}
    (h:d_impl_Holds_1 fu x1 x2 = some r) :
    Calls Tryz.prog 150 #[.agg (Flat.e (x1)).toArray,.pointer (some (⟨b3,0,none⟩:Addr))] w0 fun e w=>e = .returned (.bool (r)) ∧ Ext [] w0 w:=by
 refine enter (vs:=[_,_]) func150 z ntmps150 z fun a k=>?_
 have m:=St.start w0
 unfold d_impl_Holds_1 at h
 refine wr (s_box (cs:=[I x1.fId,I x1.fW,I x1.fH,I x1.fD,I x1.fGram,I x1.fClass,I x1.fCount]) m k z z z z z z fun b5 w7 a k m e Ac=>pN 1 k z fun a k=>nn (wr (sv k z (r_ldB ta158 m 0 Ac 0 k z z z z z z) fun a k=>sv k z (r_ldA ta79 (Aa.at (m.a00 Aa.lt1) 0 7 z z z) z k z z) fun a k=>oE h fun x8 Ab h=>cE k m call151 z z z (c_impl_Fits fu (x1:Item) (x2:Typ)  Ab) fun Ad e a k m=>pN 2 k z fun a k=>nn (wp_ret (fS h k m z z)))))
theorem c_impl_Volume (fu:Nat) {w0:World} (Ac:Int) (h2:Int) (d3:Int)  {r:Int}
    (h:d_impl_Volume fu Ac h2 d3 = some r) :
    Calls Tryz.prog 183 #[I Ac,I h2,I d3] w0 fun e w=>e = .returned (I r) ∧ Ext [] w0 w:=by
 refine enter (vs:=[_,_,_]) func183 z ntmps183 z fun a k=>?_
 have m:=St.start w0
 unfold d_impl_Volume at h
 refine wr (pN 1 k z fun a k=>nn (c_cut (fun a w=>K 25 [(0,I Ac),(1,I h2),(2,I d3)] a ∧ St [] w0 w [] ∧ d_impl_Volume_J1 fu Ac h2 d3 = some r) ?_ ?_))
 · rintro a Ak ⟨k,m,h⟩
   unfold d_impl_Volume_J1 at h
   refine wr (pN 6 k z fun a k=>nn (wp_ret (fS h k m z z)))
 refine wr (pN 1 k z fun a k=>oE h fun Ah Af h=>cE k m call139 z z z (c_impl_in fu _ _ _  Af) fun Am e a k m=>pN 2 k z fun a k=>bsplit (!Ah) (fun Aa=>?_) (fun Aa=>?_))
 · have h:=bif_t Aa h
   refine rB k 10 z Aa fun k=>pN 9 k z fun a k=>nn (wp_cond_true (k.ev z) (wr (pN 1 k z fun a k=>nn (wp_ret (rt_then ?_)))))
   refine fS h k m z z
 have h:=bif_f Aa h
 refine rB k 10 z Aa fun k=>pN 1 k z fun a k=>oE h fun Ad Ag h=>cE k m call139 z z z (c_impl_in fu _ _ _  Ag) fun Ao e a k m=>pN 3 k z fun a k=>bsplit (!Ad) (fun Ab=>?_) (fun Ab=>?_)
 · have h:=bif_t Ab h
   refine rB k 15 z Ab fun k=>pN 4 k z fun a k=>nn (wp_cond_true (k.ev z) (wr (pN 1 k z fun a k=>nn (wp_ret (rt_then ?_)))))
   refine fS h k m z z
 have h:=bif_f Ab h
 refine rB k 15 z Ab fun k=>pN 1 k z fun a k=>oE h fun Al Ae h=>cE k m call139 z z z (c_impl_in fu _ _ _  Ae) fun Aj e a k m=>pN 2 k z fun a k=>nn (cI h k z (fun Ai h=>?_) fun Ai h=>?_)
 · refine wr (pN 1 k z fun a k=>nn (wp_ret (rt_then ?_)))
   refine fS h k m z z
 refine wp_skip (nm_then ?_)
 exact ⟨k.keep [0,1,2] z,m.sel [] z (by decide),h⟩
theorem c_impl_VolumeOf (fu:Nat) {w0:World} (r1:Request) (Ah:List Int) {Al:List Value} {F3:List Nat} (Az:rd w0 F3 Al r1) {v6:Value} {F7:List Nat} (Ai:rd w0 F7 [v6] Ah) {r:Int}
    (h:d_impl_VolumeOf fu r1 Ah = some r) :
    Calls Tryz.prog 182 #[.agg Al.toArray,v6] w0 fun e w=>e = .returned (I r) ∧ Ext [] w0 w:=by
 refine enter (vs:=[_,_]) func182 z ntmps182 z fun a k=>?_
 have m:=St.start w0
 obtain ⟨v9,Bc,Aq,Bm,Am,Bi,rfl,rfl,Ap,Ag,Ak⟩:=Az
 unfold d_impl_VolumeOf at h
 refine wr (s_box (cs:=[I r1.fWay,I r1.fPallet.fW,I r1.fPallet.fD,I r1.fPallet.fH,I r1.fPallet.fGram,I r1.fClasses,v9,Aq,I r1.fMaster,Am]) m k z z z z z z fun Be Bl a k m e Av=>pN 1 k z fun a k=>nn (wr (pN 1 k z fun a k=>nn (wp_seq (wr (sv k z (r_ldB ta38 m 0 Av 0 k z z z z z z) fun a k=>pN 1 k z fun a k=>oE h fun Af Ay h=>?_))))))
 refine s_call k call149 z z z z z (c_impl_itemsOf fu _ _ (show rd _ _ [I r1.fWay,I r1.fPallet.fW,I r1.fPallet.fD,I r1.fPallet.fH,I r1.fPallet.fGram,I r1.fClasses,v9,Aq,I r1.fMaster,Am] (r1:Request) from ⟨_,_,_,_,_,_,z,z,(Enc.rd_agr Ap (m.a00 (Enc.rd_lt Ap))),(Enc.rd_agr Ag (m.a00 (Enc.rd_lt Ag))),(Enc.rd_agr Ak (m.a00 (Enc.rd_lt Ak)))⟩) (Enc.rd_agr Ai (m.a00 (Enc.rd_lt Ai))) Ay) fun Bg Aw hR=>?_
 obtain ⟨Au,Aj,rfl,e,Ab,As⟩:=hR
 refine ⟨_,z,fun a k=>?_⟩
 have m:=m.new e Aj (fun b hb=>⟨As b hb,Enc.rd_lt (Enc.ow_rd Ab) b hb⟩) (Enc.ow_nd Ab)
 refine sv k z (r_len (α:=Item) (Enc.ow_rd Ab) k underlying36 z z) fun a k=>pN 1 k z fun a k=>nn (wp_block (c_loop (fun n a w=>∃ (Ad:Int) (Ac:Int),K 27 [(5,I Ad),(10,Au),(11,I ((Af.length:Int))),(12,I Ac)] a ∧ St [] w0 w [(Aj,Aw)] ∧ d_impl_VolumeOf_L1 fu Af n Ad Ac = some r) ?_ ?_ fu _ _ ?_))
 · rintro a w ⟨_,_,_,_,h⟩
   exact nS h
 · rintro Bd a Bb ⟨Ad,Ac,k,m,h⟩
   rw [d_impl_VolumeOf_L1_s] at h
   unfold d_impl_VolumeOf_L1_B at h
   refine wr (pN 1 k z fun a k=>nn (wp_seq (cI h k z (fun Ba h=>?_) fun Ba h=>?_)))
   · refine wp_skip (nm_then ?_)
     refine wp_seq (wp_block (wr (oE h fun Aa Ao h=>sv k z (r_ixa (Enc.ow_rd Ab) Ao k ts36 z z z) fun a k=>sv k z (r_lde (Enc.ow_rd Ab) (m.a 0 z) Ao ta158 k z z) fun a k=>s_alloc (cs:=[I 0,I 0,I 0,I 0,I 0,I 0,I 0]) m k zeroValue158 z z z z z fun Bh Bf a k m e At=>s_stb (cs':=[I Aa.fId,I Aa.fW,I Aa.fH,I Aa.fD,I Aa.fGram,I Aa.fClass,I Aa.fCount]) sizeOf158 m 0 At 0 k z z z z z z z z z z z fun Bj a k e m Ae=>nn (wp_region_lit (pN 1 k z fun a k=>sv k z (r_fa fa158_1 k z z) fun a k=>sv k z (r_ldb t13 m 0 Ae 1 k z z z z z) fun a k=>sv k z (r_fa fa158_2 k z z) fun a k=>?_)))))
     refine sv k z (r_ldb t13 m 0 Ae 2 k z z z z z) fun a k=>sv k z (r_fa fa158_3 k z z) fun a k=>sv k z (r_ldb t13 m 0 Ae 3 k z z z z z) fun a k=>oE h fun Ax Ar h=>cE k m call183 z z z (c_impl_Volume fu _ _ _  Ar) fun Bk e a k m=>pN 2 k z fun a k=>wpList_nil (nm_block (nm_then ?_))
     refine wp_region_lit (pN 2 k z fun a k=>nn ?_)
     exact ⟨w64 (Ad + Ax),w64 (Ac + 1),k.keep [5,10,11,12] z,m.sel [1] z (by decide),h⟩
   refine wp_exit (ex_then (ex_then (ex_same (nm_then ?_))))
   refine wr (pN 2 k z fun a k=>nn (wp_ret (fS h k m z z)))
 exact ⟨0,0,k.keep [5,10,11,12] z,m.sel [0] z (by decide),h⟩
theorem c_impl_GramOf (fu:Nat) {w0:World} (r1:Request) (Ag:List Int) {Al:List Value} {F3:List Nat} (Ax:rd w0 F3 Al r1) {v6:Value} {F7:List Nat} (Ah:rd w0 F7 [v6] Ag) {r:Int}
    (h:d_impl_GramOf fu r1 Ag = some r) :
    Calls Tryz.prog 240 #[.agg Al.toArray,v6] w0 fun e w=>e = .returned (I r) ∧ Ext [] w0 w:=by
 refine enter (vs:=[_,_]) func240 z ntmps240 z fun a k=>?_
 have m:=St.start w0
 obtain ⟨v9,Az,Ap,Bj,Am,Bg,rfl,rfl,Ao,Af,Aj⟩:=Ax
 unfold d_impl_GramOf at h
 refine wr (s_box (cs:=[I r1.fWay,I r1.fPallet.fW,I r1.fPallet.fD,I r1.fPallet.fH,I r1.fPallet.fGram,I r1.fClasses,v9,Ap,I r1.fMaster,Am]) m k z z z z z z fun Bb Bi a k m e Au=>pN 1 k z fun a k=>nn (wr (pN 1 k z fun a k=>nn (wp_seq (wr (sv k z (r_ldB ta38 m 0 Au 0 k z z z z z z) fun a k=>pN 1 k z fun a k=>oE h fun Ae Aw h=>?_))))))
 refine s_call k call149 z z z z z (c_impl_itemsOf fu _ _ (show rd _ _ [I r1.fWay,I r1.fPallet.fW,I r1.fPallet.fD,I r1.fPallet.fH,I r1.fPallet.fGram,I r1.fClasses,v9,Ap,I r1.fMaster,Am] (r1:Request) from ⟨_,_,_,_,_,_,z,z,(Enc.rd_agr Ao (m.a00 (Enc.rd_lt Ao))),(Enc.rd_agr Af (m.a00 (Enc.rd_lt Af))),(Enc.rd_agr Aj (m.a00 (Enc.rd_lt Aj)))⟩) (Enc.rd_agr Ah (m.a00 (Enc.rd_lt Ah))) Aw) fun Be Av hR=>?_
 obtain ⟨At,Ai,rfl,e,Ab,As⟩:=hR
 refine ⟨_,z,fun a k=>?_⟩
 have m:=m.new e Ai (fun b hb=>⟨As b hb,Enc.rd_lt (Enc.ow_rd Ab) b hb⟩) (Enc.ow_nd Ab)
 refine sv k z (r_len (α:=Item) (Enc.ow_rd Ab) k underlying36 z z) fun a k=>pN 1 k z fun a k=>nn (wp_block (c_loop (fun n a w=>∃ (Ac:Int) (Ad:Int),K 22 [(5,I Ac),(10,At),(11,I ((Ae.length:Int))),(12,I Ad)] a ∧ St [] w0 w [(Ai,Av)] ∧ d_impl_GramOf_L1 fu Ae n Ac Ad = some r) ?_ ?_ fu _ _ ?_))
 · rintro a w ⟨_,_,_,_,h⟩
   exact nS h
 · rintro Bd a Bc ⟨Ac,Ad,k,m,h⟩
   rw [d_impl_GramOf_L1_s] at h
   unfold d_impl_GramOf_L1_B at h
   refine wr (pN 1 k z fun a k=>nn (wp_seq (cI h k z (fun Ay h=>?_) fun Ay h=>?_)))
   · refine wp_skip (nm_then ?_)
     refine wp_seq (wp_block (wr (oE h fun Aa Ak h=>sv k z (r_ixa (Enc.ow_rd Ab) Ak k ts36 z z z) fun a k=>sv k z (r_lde (Enc.ow_rd Ab) (m.a 0 z) Ak ta158 k z z) fun a k=>s_alloc (cs:=[I 0,I 0,I 0,I 0,I 0,I 0,I 0]) m k zeroValue158 z z z z z fun Bh Bf a k m e Aq=>s_stb (cs':=[I Aa.fId,I Aa.fW,I Aa.fH,I Aa.fD,I Aa.fGram,I Aa.fClass,I Aa.fCount]) sizeOf158 m 0 Aq 0 k z z z z z z z z z z z fun Ba a k e m Ar=>nn (wp_region_lit (pN 1 k z fun a k=>sv k z (r_fa fa158_4 k z z) fun a k=>sv k z (r_ldb t13 m 0 Ar 4 k z z z z z) fun a k=>pN 2 k z fun a k=>wpList_nil (nm_block (nm_then ?_)))))))
     refine wp_region_lit (pN 2 k z fun a k=>nn ?_)
     exact ⟨w64 (Ac + Aa.fGram),w64 (Ad + 1),k.keep [5,10,11,12] z,m.sel [1] z (by decide),h⟩
   refine wp_exit (ex_then (ex_then (ex_same (nm_then ?_))))
   refine wr (pN 2 k z fun a k=>nn (wp_ret (fS h k m z z)))
 exact ⟨0,0,k.keep [5,10,11,12] z,m.sel [0] z (by decide),h⟩
theorem c_impl_within (fu:Nat) {w0:World} (r1:Request) (Ak:List Int) (t9:Typ) {Al:List Value} {F3:List Nat} (As:rd w0 F3 Al r1) {v6:Value} {F7:List Nat} (Ad:rd w0 F7 [v6] Ak) {r:Bool}
    (h:d_impl_within fu r1 Ak t9 = some r) :
    Calls Tryz.prog 152 #[.agg Al.toArray,v6,.agg (Flat.e (t9)).toArray] w0 fun e w=>e = .returned (.bool (r)) ∧ Ext [] w0 w:=by
 refine enter (vs:=[_,_,_]) func152 z ntmps152 z fun a k=>?_
 have m:=St.start w0
 obtain ⟨Ah,Be,Ai,Ba,Ag,Aw,rfl,rfl,Ac,Af,Ae⟩:=As
 unfold d_impl_within at h
 refine wr (s_box (cs:=[I r1.fWay,I r1.fPallet.fW,I r1.fPallet.fD,I r1.fPallet.fH,I r1.fPallet.fGram,I r1.fClasses,Ah,Ai,I r1.fMaster,Ag]) m k z z z z z z fun Ax Az a k m e Aj=>s_box (cs:=[I t9.fId,I t9.fW,I t9.fH,I t9.fD,I t9.fTare,I t9.fGram,I t9.fCost]) m k z z z z z z fun Bd Bc a k m e Ab=>pN 1 k z fun a k=>nn (wp_seq (d_go [] mixo m z fun Am hMd=>?_)))
 have m:=hMd
 have s:=Ext.refl ([]:List Nat) Am
 refine dN [1] 1 z k (by kernel_rfl) z s (fun _ _ _ _ _=>id) fun a k=>dt k 0 z (by kernel_rfl) z s (fun _ _ _=>id) (fun w s=>r_ldA ta38 (Aj.at ((hMd.step s).a 1 z) 0 10 z z z) z k z z) fun a k=>dt k 3 z (by kernel_rfl) z s (fun _ _ _=>id) (fun w s=>r_fa fa79_1 k z z) fun a k=>dt k 4 z (by kernel_rfl) z s (fun _ _ _=>id) (fun w s=>r_ld1 t13 (r:=[]) (Ab.at ((hMd.step s).a 0 z) 1 1 z z z) k z z) fun a k=>dt k 5 z (by kernel_rfl) z s (fun _ _ _=>id) (fun w s=>r_fa fa79_2 k z z) fun a k=>dt k 6 z (by kernel_rfl) z s (fun _ _ _=>id) (fun w s=>r_ld1 t13 (r:=[]) (Ab.at ((hMd.step s).a 0 z) 2 1 z z z) k z z) fun a k=>dt k 7 z (by kernel_rfl) z s (fun _ _ _=>id) (fun w s=>r_fa fa79_3 k z z) fun a k=>?_
 refine dt k 8 z (by kernel_rfl) z s (fun _ _ _=>id) (fun w s=>r_ld1 t13 (r:=[]) (Ab.at ((hMd.step s).a 0 z) 3 1 z z z) k z z) fun a k=>d_one 2 (by kernel_rfl) z (oE h fun Ar Aq h=>cE k m call182 z z z (c_impl_VolumeOf fu _ _ (show rd _ _ [I r1.fWay,I r1.fPallet.fW,I r1.fPallet.fD,I r1.fPallet.fH,I r1.fPallet.fGram,I r1.fClasses,Ah,Ai,I r1.fMaster,Ag] (r1:Request) from ⟨_,_,_,_,_,_,z,z,(Enc.rd_agr Ac (m.a00 (Enc.rd_lt Ac))),(Enc.rd_agr Af (m.a00 (Enc.rd_lt Af))),(Enc.rd_agr Ae (m.a00 (Enc.rd_lt Ae)))⟩) (Enc.rd_agr Ad (m.a00 (Enc.rd_lt Ad))) Aq) fun Av e a k m=>?_)
 have s:=s.trans e (by simp)
 refine wpList_nil ⟨s,?_⟩
 refine d_one 9 (by kernel_rfl) z (oE h fun Ao Ap h=>cE k m call183 z z z (c_impl_Volume fu _ _ _  Ap) fun Bb e a k m=>?_)
 have s:=s.trans e (by simp)
 refine wpList_nil ⟨s,?_⟩
 refine dN [10,11] 2 z k (by kernel_rfl) z s (fun _ _ _ _ _=>id) fun a k=>bsplit (decide (Ar ≤ Ao)) (fun Aa=>?_) (fun Aa=>?_)
 · have h:=bif_t Aa h
   refine rB k 18 z Aa fun k=>dN [13] 1 z k (by kernel_rfl) z s (fun _ _ _ _ _=>id) fun a k=>dt k 12 z (by kernel_rfl) z s (fun _ _ _=>id) (fun w s=>r_ldA ta38 (Aj.at ((hMd.step s).a 1 z) 0 10 z z z) z k z z) fun a k=>dt k 15 z (by kernel_rfl) z s (fun _ _ _=>id) (fun w s=>r_fa fa79_5 k z z) fun a k=>dt k 16 z (by kernel_rfl) z s (fun _ _ _=>id) (fun w s=>r_ld1 t13 (r:=[]) (Ab.at ((hMd.step s).a 0 z) 5 1 z z z) k z z) fun a k=>d_one 14 (by kernel_rfl) z (oE h fun Au At h=>?_)
   refine cE k m call240 z z z (c_impl_GramOf fu _ _ (show rd _ _ [I r1.fWay,I r1.fPallet.fW,I r1.fPallet.fD,I r1.fPallet.fH,I r1.fPallet.fGram,I r1.fClasses,Ah,Ai,I r1.fMaster,Ag] (r1:Request) from ⟨_,_,_,_,_,_,z,z,(Enc.rd_agr Ac (m.a00 (Enc.rd_lt Ac))),(Enc.rd_agr Af (m.a00 (Enc.rd_lt Af))),(Enc.rd_agr Ae (m.a00 (Enc.rd_lt Ae)))⟩) (Enc.rd_agr Ad (m.a00 (Enc.rd_lt Ad))) At) fun Ay e a k m=>?_
   have s:=s.trans e (by simp)
   refine wpList_nil ⟨s,?_⟩
   refine dN [17,18,19] 3 z k (by kernel_rfl) z s (fun _ _ _ _ _=>id) fun a k=>d_done (by kernel_rfl) ((nm_then ?_))
   refine wp_ret (fS h k m z z)
 have h:=bif_f Aa h
 refine rB k 18 z Aa fun k=>dN [12,13,14,15,16,17,18,19] 8 z k (by kernel_rfl) z s (fun _ _ _ _ _=>id) fun a k=>d_done (by kernel_rfl) ((nm_then ?_))
 refine wp_ret (fS h k m z z)
theorem c_impl_Holds (fu:Nat) {w0:World} (r1:Request) (Al:List Int) (t9:Typ) {Ar:List Value} {F3:List Nat} (Be:rd w0 F3 Ar r1) {v6:Value} {F7:List Nat} (Ad:rd w0 F7 [v6] Al) {r:Bool}
    (h:d_impl_Holds fu r1 Al t9 = some r) :
    Calls Tryz.prog 54 #[.agg Ar.toArray,v6,.agg (Flat.e (t9)).toArray] w0 fun e w=>e = .returned (.bool (r)) ∧ Ext [] w0 w:=by
 refine enter (vs:=[_,_,_]) func54 z ntmps54 z fun a k=>?_
 have m:=St.start w0
 obtain ⟨Ag,Bz,Ah,Bp,Af,Bm,rfl,rfl,Aa,Ac,Ab⟩:=Be
 unfold d_impl_Holds at h
 refine wr (s_box (cs:=[I r1.fWay,I r1.fPallet.fW,I r1.fPallet.fD,I r1.fPallet.fH,I r1.fPallet.fGram,I r1.fClasses,Ag,Ah,I r1.fMaster,Af]) m k z z z z z z fun Aq Av a k m e Aj=>s_box (cs:=[I t9.fId,I t9.fW,I t9.fH,I t9.fD,I t9.fTare,I t9.fGram,I t9.fCost]) m k z z z z z z fun Ao Bc a k m e Ap=>pN 1 k z fun a k=>nn (c_cut (fun a w=>K 31 [(1,v6),(3,.pointer (some (⟨Aq,0,none⟩:Addr))),(5,.pointer (some (⟨Ao,0,none⟩:Addr)))] a ∧ St [] w0 w [([Aq],Av),([Ao],Bc)] ∧ d_impl_Holds_J1 fu r1 Al t9 = some r) ?_ ?_))
 · rintro a Bv ⟨k,m,h⟩
   unfold d_impl_Holds_J1 at h
   refine wr (sv k z (r_ldB ta38 m 0 Aj 0 k z z z z z z) fun a k=>pN 1 k z fun a k=>oE h fun Bx Bg h=>s_call k call149 z z z z z (c_impl_itemsOf fu _ _ (show rd _ _ [I r1.fWay,I r1.fPallet.fW,I r1.fPallet.fD,I r1.fPallet.fH,I r1.fPallet.fGram,I r1.fClasses,Ag,Ah,I r1.fMaster,Af] (r1:Request) from ⟨_,_,_,_,_,_,z,z,(Enc.rd_agr Aa (m.a00 (Enc.rd_lt Aa))),(Enc.rd_agr Ac (m.a00 (Enc.rd_lt Ac))),(Enc.rd_agr Ab (m.a00 (Enc.rd_lt Ab)))⟩) (Enc.rd_agr Ad (m.a00 (Enc.rd_lt Ad))) Bg) fun Bj Bw hR=>?_)
   obtain ⟨Br,Au,rfl,e,Ak,Ba⟩:=hR
   refine ⟨_,z,fun a k=>?_⟩
   have m:=m.new e Au (fun b hb=>⟨Ba b hb,Enc.rd_lt (Enc.ow_rd Ak) b hb⟩) (Enc.ow_nd Ak)
   refine pN 1 k z fun a k=>oE h fun Bh As h=>cE k m call148 z z z (c_slices_ContainsFunc_impl_Item_impl_Item fu _ _ (Enc.rd_agr (Enc.ow_rd Ak) (m.a 0 z)) ⟨150,[.pointer (some (⟨Ao,0,none⟩:Addr))],z,call150,fun w Bn By r e Bf hx=>by subst Bf; have m:=m.step e; exact c_impl_Holds_1 fu _ _ (Ap.agr (m.a 2 rfl) (by simp)) hx⟩ As) fun Bq e a k m=>pN 2 k rfl fun a k=>bsplit (!Bh) (fun Ai=>?_) (fun Ai=>?_)
   · have h:=bif_t Ai h
     refine rB k 25 z Ai fun k=>sv k z (r_ldB ta38 m 1 Aj 0 k z z z z z z) fun a k=>pN 1 k z fun a k=>sv k z (r_ldB ta79 m 2 Ap 0 k z z z z z z) fun a k=>oE h fun Bs Bd h=>cE k m call152 z z z (c_impl_within fu _ _ (t9:Typ) (show rd _ _ [I r1.fWay,I r1.fPallet.fW,I r1.fPallet.fD,I r1.fPallet.fH,I r1.fPallet.fGram,I r1.fClasses,Ag,Ah,I r1.fMaster,Af] (r1:Request) from ⟨_,_,_,_,_,_,z,z,(Enc.rd_agr Aa (m.a00 (Enc.rd_lt Aa))),(Enc.rd_agr Ac (m.a00 (Enc.rd_lt Ac))),(Enc.rd_agr Ab (m.a00 (Enc.rd_lt Ab)))⟩) (Enc.rd_agr Ad (m.a00 (Enc.rd_lt Ad))) Bd) fun Bo e a k m=>pN 2 k z fun a k=>nn (wp_ret (fS h k m z z))
   have h:=bif_f Ai h
   refine rB k 25 z Ai fun k=>pN 6 k z fun a k=>nn (wp_ret (fS h k m z z))
 refine wr (sv k z (r_ldB ta38 m 1 Aj 0 k z z z z z z) fun a k=>oE h fun Bb Ax h=>cE k m call115 z z z (c_impl_sound fu _ (show rd _ _ [I r1.fWay,I r1.fPallet.fW,I r1.fPallet.fD,I r1.fPallet.fH,I r1.fPallet.fGram,I r1.fClasses,Ag,Ah,I r1.fMaster,Af] (r1:Request) from ⟨_,_,_,_,_,_,z,z,(Enc.rd_agr Aa (m.a00 (Enc.rd_lt Aa))),(Enc.rd_agr Ac (m.a00 (Enc.rd_lt Ac))),(Enc.rd_agr Ab (m.a00 (Enc.rd_lt Ab)))⟩) Ax) fun Bt e a k m=>pN 2 k z fun a k=>bsplit (!Bb) (fun Ae=>?_) (fun Ae=>?_))
 · have h:=bif_t Ae h
   refine rB k 10 z Ae fun k=>pN 8 k z fun a k=>nn (wp_cond_true (k.ev z) (wr (pN 1 k z fun a k=>nn (wp_ret (rt_then ?_)))))
   refine fS h k m z z
 have h:=bif_f Ae h
 refine rB k 10 z Ae fun k=>sv k z (r_ldB ta38 m 1 Aj 0 k z z z z z z) fun a k=>pN 1 k z fun a k=>oE h fun Bl Aw h=>s_call k call147 z z z z z (c_impl_thereOf fu _ _ (show rd _ _ [I r1.fWay,I r1.fPallet.fW,I r1.fPallet.fD,I r1.fPallet.fH,I r1.fPallet.fGram,I r1.fClasses,Ag,Ah,I r1.fMaster,Af] (r1:Request) from ⟨_,_,_,_,_,_,z,z,(Enc.rd_agr Aa (m.a00 (Enc.rd_lt Aa))),(Enc.rd_agr Ac (m.a00 (Enc.rd_lt Ac))),(Enc.rd_agr Ab (m.a00 (Enc.rd_lt Ab)))⟩) (Enc.rd_agr Ad (m.a00 (Enc.rd_lt Ad))) Aw) fun Bu Bk hR=>?_
 obtain ⟨Bi,At,rfl,e,Am,Ay⟩:=hR
 refine ⟨_,z,fun a k=>?_⟩
 have m:=m.new e At (fun b hb=>⟨Ay b hb,Enc.rd_lt (Enc.ow_rd Am) b hb⟩) (Enc.ow_nd Am)
 refine sv k z (r_len (α:=Int) (Enc.ow_rd Am) k underlying63 z z) fun a k=>pN 1 k z fun a k=>sv k z (r_len (α:=Int) Ad k underlying63 z z) fun a k=>pN 2 k z fun a k=>nn (cI h k z (fun Az h=>?_) fun Az h=>?_)
 · refine wr (pN 1 k z fun a k=>nn (wp_ret (rt_then ?_)))
   refine fS h k m z z
 refine wp_skip (nm_then ?_)
 exact ⟨k.keep [1,3,5] z,m.sel [2,1] z (by decide),h⟩
theorem c_slices_Compact_int_int (fu:Nat) {w0:World} (x1:List Int) {v2:Value} {F3:List Nat} (Aa:ow w0 F3 [v2] x1) {r:List Int}
    (h:d_slices_Compact_int_int fu x1 = some r) :
    Calls Tryz.prog 256 #[v2] w0 fun e w=>∃ (v0:Value) (G0:List Nat),e = .returned v0 ∧ Ext F3 w0 w ∧ ow w G0 [v0] r ∧ (∀ b ∈ G0,b ∈ F3 ∨ w0.heap.size ≤ b) :=
  c_compactInt (fun blk off cap zs w=>Tryz.slices_Compact_int blk off cap zs w) (fun p cap w=>Tryz.slices_Compact_int_empty p cap w) x1 Aa h

theorem c_impl_kinds (fu:Nat) {w0:World} (Ad:List Int) {v2:Value} {F3:List Nat} (Ae:rd w0 F3 [v2] Ad) {r:(List Int)}
    (h:d_impl_kinds fu Ad = some r) :
    Calls Tryz.prog 178 #[v2] w0 fun e w=>∃ (v0:Value) (G0:List Nat),e = .returned (v0) ∧ Ext [] w0 w ∧ ow w G0 [v0] r ∧ (∀ b ∈ G0,w0.heap.size ≤ b):=by
 refine enter (vs:=[_]) func178 z ntmps178 z fun a k=>?_
 have m:=St.start w0
 unfold d_impl_kinds at h
 refine wr (pN 1 k z fun a k=>nn (wr (pN 1 k z fun a k=>oE h fun x5 Ai h=>s_call k call133 z z z z z (c_slices_Clone_int_int fu _ (Enc.rd_agr Ae (m.a00 (Enc.rd_lt Ae))) Ai) fun e7 w9 hR=>?_)))
 obtain ⟨Ar,Af,rfl,e,Aa,Al⟩:=hR
 refine ⟨_,z,fun a k=>?_⟩
 have m:=m.new e Af (fun b hb=>⟨Al b hb,Enc.rd_lt (Enc.ow_rd Aa) b hb⟩) (Enc.ow_nd Aa)
 refine pN 1 k z fun a k=>nn (wr (pN 1 k z fun a k=>oE h fun Av Ah h=>s_call k call120 z z z z z (c_slices_Sort_int_int fu _ (Enc.ow_agr Aa (m.a 0 z)) Ah) fun Ao Aw hR=>?_))
 obtain ⟨Ap,rfl,e,Am,Ac⟩:=hR
 refine ⟨_,z,fun a k=>?_⟩
 have m:=m.mut 0 z e _ (fun b hb=>⟨Am b hb,Enc.rd_lt (Enc.ow_rd Ac) b hb⟩) (Enc.ow_nd Ac)
 refine nn (wr (pN 1 k z fun a k=>oE h fun At Aj h=>s_call k call256 z z z z z (c_slices_Compact_int_int fu _ (Enc.ow_agr Ac (m.a 0 z)) Aj) fun Au Aq hR=>?_))
 obtain ⟨As,Ak,rfl,e,Ab,Ag⟩:=hR
 refine ⟨_,z,fun a k=>?_⟩
 have m:=m.mut 0 z e _ (fun b hb=>⟨Ag b hb,Enc.rd_lt (Enc.ow_rd Ab) b hb⟩) (Enc.ow_nd Ab)
 refine pN 1 k z fun a k=>nn (wp_ret ?_)
 cases h
 exact finR1 k z (RV.tmp k z) ⟨_,Ak,z,m.ext,(Enc.ow_agr Ab (m.a 0 z)),(m.fresh 0 z)⟩
theorem c_impl_Present (fu:Nat) {w0:World} (r1:Request) {Ao:List Value} {F3:List Nat} (Bi:rd w0 F3 Ao r1) {r:(List Int)}
    (h:d_impl_Present fu r1 = some r) :
    Calls Tryz.prog 68 #[.agg Ao.toArray] w0 fun e w=>∃ (v0:Value) (G0:List Nat),e = .returned (v0) ∧ Ext [] w0 w ∧ ow w G0 [v0] r ∧ (∀ b ∈ G0,w0.heap.size ≤ b):=by
 refine enter (vs:=[_]) func68 z ntmps68 z fun a k=>?_
 have m:=St.start w0
 obtain ⟨v5,F6,v7,F8,v9,Bm,rfl,rfl,Am,Ai,Ab⟩:=Bi
 unfold d_impl_Present at h
 refine wr (s_box (cs:=[I r1.fWay,I r1.fPallet.fW,I r1.fPallet.fD,I r1.fPallet.fH,I r1.fPallet.fGram,I r1.fClasses,v5,v7,I r1.fMaster,v9]) m k z z z z z z fun Bq Bv a k m e Aj=>pN 1 k z fun a k=>nn (wp_seq (wr (sv k z (r_ldB ta38 m 0 Aj 0 k z z z z z z) fun a k=>oE h fun Bx Bf h=>?_))))
 refine cE k m call115 z z z (c_impl_sound fu _ (show rd _ _ [I r1.fWay,I r1.fPallet.fW,I r1.fPallet.fD,I r1.fPallet.fH,I r1.fPallet.fGram,I r1.fClasses,v5,v7,I r1.fMaster,v9] (r1:Request) from ⟨_,_,_,_,_,_,z,z,(Enc.rd_agr Am (m.a00 (Enc.rd_lt Am))),(Enc.rd_agr Ai (m.a00 (Enc.rd_lt Ai))),(Enc.rd_agr Ab (m.a00 (Enc.rd_lt Ab)))⟩) Bf) fun Bw e a k m=>pN 1 k z fun a k=>nn (cI h k z (fun Az h=>?_) fun Az h=>?_)
 · refine wr (pN 1 k z fun a k=>nn (wp_ret (rt_then ?_)))
   cases h
   exact finR1 k z (RV.tmp k z) ⟨_,[],z,m.ext,(ow_nil _),(by simp)⟩
 refine wp_skip (nm_then ?_)
 refine wr (s_bs (cs:=[]) (ps:=[]) te63 m k z z z z z z z (by decide) z (by exact (List.forall_mem_nil _)) fun Al Bh Bs a k m e Aw=>?_)
 have Ar:=ow_bx Aw ([]:List Int) z z z
 refine pN 1 k z fun a k=>nn (wp_seq (wr (sv k z (r_fa fa38_6 k z z) fun a k=>sv k z (r_ldb t136 m 1 Aj 9 k z z z z z) fun a k=>sv k z (r_len (α:=Item) Ab k underlying36 z z) fun a k=>pN 1 k z fun a k=>nn (wp_block (c_loop (fun n a w=>∃ (Ah:List Int) (Ad:Value) (Af:List Nat) (Ae:World) (Ac:Int),K 25 [(3,Ad),(11,v9),(12,I ((r1.fItems.length:Int))),(13,I Ac)] a ∧ St [] w0 w [(Af,Ae)] ∧ ow Ae Af [Ad] Ah ∧ d_impl_Present_L1 fu r1 n Ah Ac = some r) ?_ ?_ fu _ _ ?_)))))
 · rintro a w ⟨_,_,_,_,_,_,_,_,h⟩
   exact nS h
 · rintro Br a Bu ⟨Ah,Ad,Af,Ae,Ac,k,m,Ap,h⟩
   rw [d_impl_Present_L1_s] at h
   unfold d_impl_Present_L1_B at h
   refine wr (pN 1 k z fun a k=>nn (wp_seq (cI h k z (fun Ay h=>?_) fun Ay h=>?_)))
   · refine wp_skip (nm_then ?_)
     refine wp_seq (wp_block (wr (oE h fun Aa Aq h=>sv k z (r_ixa Ab Aq k ts36 z z z) fun a k=>sv k z (r_lde Ab (m.a00 (Enc.rd_lt Ab)) Aq ta158 k z z) fun a k=>s_alloc (cs:=[I 0,I 0,I 0,I 0,I 0,I 0,I 0]) m k zeroValue158 z z z z z fun Bn Bo a k m e Bj=>s_stb (cs':=[I Aa.fId,I Aa.fW,I Aa.fH,I Aa.fD,I Aa.fGram,I Aa.fClass,I Aa.fCount]) sizeOf158 m 0 Bj 0 k z z z z z z z z z z z fun Bl a k e m Bg=>nn (wp_region_lit (pN 1 k z fun a k=>sv k z (r_fa fa158_5 k z z) fun a k=>sv k z (r_ldb t13 m 0 Bg 5 k z z z z z) fun a k=>?_)))))
     refine s_bs (cs:=[I Aa.fClass]) (ps:=[(0,.tmp 19)]) te63 m k z z z z z z z (by decide) z (by exact (List.forall_mem_cons.2 ⟨z,(List.forall_mem_nil _)⟩)) fun Bk By Bt a k m e Be=>?_
     have Bc:=ow_bx Be ([Aa.fClass]:List Int) z z z
     refine oE h fun At Au h=>s_appF Au te63 z m 2 Ap (News.rd (Enc.rd_agr (Enc.ow_rd Bc) (m.a 0 z))) z z k z z z z z z z fun Bb Av As a k e m Ax=>pN 1 k z fun a k=>wpList_nil (nm_block (nm_then ?_))
     refine wp_region_lit (pN 2 k z fun a k=>nn ?_)
     exact ⟨At,Bb,Av,As,w64 (Ac + 1),k.keep [3,11,12,13] z,m.sel [2] z (by decide),Ax,h⟩
   refine wp_exit (ex_then (ex_then (ex_same (nm_then ?_))))
   refine wr (pN 1 k z fun a k=>oE h fun Ca Ba h=>s_call k call178 z z z z z (c_impl_kinds fu _ (Enc.rd_agr (Enc.ow_rd Ap) (m.a 0 z)) Ba) fun Bp Cb hR=>?_)
   obtain ⟨Bz,Ak,rfl,e,Ag,Bd⟩:=hR
   refine ⟨_,z,fun a k=>?_⟩
   have m:=m.new e Ak (fun b hb=>⟨Bd b hb,Enc.rd_lt (Enc.ow_rd Ag) b hb⟩) (Enc.ow_nd Ag)
   refine pN 1 k z fun a k=>nn (wp_ret ?_)
   cases h
   exact finR1 k z (RV.tmp k z) ⟨_,Ak,z,m.ext,(Enc.ow_agr Ag (m.a 0 z)),(m.fresh 0 z)⟩
 exact ⟨([]:List Int),(.slice (some ⟨Al,0,none⟩) 0 0),[Al],Bh,0,k.keep [3,11,12,13] z,m.sel [0] z (by decide),Ar,h⟩
theorem c_impl_mutual (fu:Nat) {w0:World} (Ac:List Pair) (a5:Int) (b6:Int) {v2:Value} {F3:List Nat} (Ab:rd w0 F3 [v2] Ac) {r:Bool}
    (h:d_impl_mutual fu Ac a5 b6 = some r) :
    Calls Tryz.prog 253 #[v2,I a5,I b6] w0 fun e w=>e = .returned (.bool (r)) ∧ Ext [] w0 w:=by
 refine enter (vs:=[_,_,_]) func253 z ntmps253 z fun a k=>?_
 have m:=St.start w0
 unfold d_impl_mutual at h
 refine wr (pN 1 k z fun a k=>nn (wr (pN 3 k z fun a k=>oE h fun x7 Ae h=>cE k m call179 z z z (c_impl_Beside fu _ _ _ (Enc.rd_agr Ab (m.a00 (Enc.rd_lt Ab))) Ae) fun Ah e a k m=>pN 1 k z fun a k=>bsplit (x7) (fun Aa=>?_) (fun Aa=>?_))))
 · have h:=bif_t Aa h
   refine rB k 11 z Aa fun k=>pN 3 k z fun a k=>oE h fun Ag Ad h=>cE k m call179 z z z (c_impl_Beside fu _ _ _ (Enc.rd_agr Ab (m.a00 (Enc.rd_lt Ab))) Ad) fun Af e a k m=>pN 2 k z fun a k=>nn (wp_ret (fS h k m z z))
 have h:=bif_f Aa h
 refine rB k 11 z Aa fun k=>pN 6 k z fun a k=>nn (wp_ret (fS h k m z z))
theorem c_impl_Groups_1_1 (fu:Nat) {w0:World} (x1:Int) (x2:List Pair) (x8:Int) {v5:Value} {F6:List Nat} {b3:Nat} (Ac:bx w0 b3 [v5] 34) (Aa:rd w0 F6 [v5] x2) {b9:Nat} (Ab:bx w0 b9 [I x8] 3) {r:Bool}
    (h:d_impl_Groups_1_1 fu x1 x2 x8 = some r) :
    Calls Tryz.prog 294 #[I x1,.pointer (some (⟨b3,0,none⟩:Addr)),.pointer (some (⟨b9,0,none⟩:Addr))] w0 fun e w=>e = .returned (.bool (r)) ∧ Ext [] w0 w:=by
 refine enter (vs:=[_,_,_]) func294 z ntmps294 z fun a k=>?_
 have m:=St.start w0
 unfold d_impl_Groups_1_1 at h
 refine wr (pN 1 k z fun a k=>nn (wr (sv k z (r_ld1 t134 (r:=[]) (Ac.at (m.a00 Ac.lt1) 0 1 z z z) k z z) fun a k=>sv k z (r_ld1 t13 (r:=[]) (Ab.at (m.a00 Ab.lt1) 0 1 z z z) k z z) fun a k=>pN 1 k z fun a k=>oE h fun Ae Ad h=>cE k m call253 z z z (c_impl_mutual fu _ _ _ (Enc.rd_agr Aa (m.a00 (Enc.rd_lt Aa))) Ad) fun Af e a k m=>pN 2 k z fun a k=>nn (wp_ret (fS h k m z z)))))
theorem c_slices_ContainsFunc_int_int (fu:Nat) {w0:World} (Aa:List Int) (f5:Int → Option Bool) {v2:Value} {F3:List Nat} (Ab:rd w0 F3 [v2] Aa) {v6:Value} (Ad:FnOk1 Tryz.prog w0 v6 f5) {r:Bool}
    (h:d_slices_ContainsFunc_int_int fu Aa f5 = some r) :
    Calls Tryz.prog 172 #[v2,v6] w0 fun e w=>e = .returned (.bool (r)) ∧ Ext [] w0 w:=by
 refine enter (vs:=[_,_]) func172 z ntmps172 z fun a k=>?_
 have m:=St.start w0
 obtain ⟨Ak,Aj,rfl,Ag,Ac⟩:=Ad
 unfold d_slices_ContainsFunc_int_int at h
 refine wr (pN 1 k z fun a k=>nn (wr (pN 2 k z fun a k=>oE h fun Ai Af h=>cE k m call241 z z z (c_slices_IndexFunc_int_int fu _ _ (Enc.rd_agr Ab (m.a00 (Enc.rd_lt Ab))) ⟨_,_,z,Ag,fun w Ae Ah r e=>Ac w Ae Ah r (m.ext.trans e (by simp))⟩ Af) fun Al e a k m=>pN 2 k z fun a k=>nn (wp_ret (fS h k m z z)))))
theorem c_impl_Groups_1 (fu:Nat) {w0:World} (l1:List Int) (x5:List Pair) (Ab:Int) {v2:Value} {F3:List Nat} (Ae:rd w0 F3 [v2] l1) {v8:Value} {F9:List Nat} {b6:Nat} (Ad:bx w0 b6 [v8] 34) (Ac:rd w0 F9 [v8] x5) {Aa:Nat} (Af:bx w0 Aa [I Ab] 3) {r:Bool}
    (h:d_impl_Groups_1 fu l1 x5 Ab = some r) :
    Calls Tryz.prog 293 #[v2,.pointer (some (⟨b6,0,none⟩:Addr)),.pointer (some (⟨Aa,0,none⟩:Addr))] w0 fun e w=>e = .returned (.bool (r)) ∧ Ext [] w0 w:=by
 refine enter (vs:=[_,_,_]) func293 z ntmps293 z fun a k=>?_
 have m:=St.start w0
 unfold d_impl_Groups_1 at h
 refine wr (pN 1 k z fun a k=>nn (wr (pN 2 k z fun a k=>oE h fun Al Ag h=>cE k m call172 z z z (c_slices_ContainsFunc_int_int fu _ _ (Enc.rd_agr Ae (m.a00 (Enc.rd_lt Ae))) ⟨294,[.pointer (some (⟨b6,0,none⟩:Addr)),.pointer (some (⟨Aa,0,none⟩:Addr))],z,call294,fun w Aj Ai r e Ah hx=>by subst Ah; have m:=m.step e; exact c_impl_Groups_1_1 fu _ _ _ (Ad.agr (m.a00 Ad.lt1) (by simp)) (Enc.rd_agr Ac (m.a00 (Enc.rd_lt Ac))) (Af.agr (m.a00 Af.lt1) (by simp)) hx⟩ Ag) fun Ak e a k m=>pN 2 k rfl fun a k=>nn (wp_ret (fS h k m rfl rfl)))))
theorem c_slices_IndexFunc_ints_int (fu:Nat) {w0:World} (Aa:List (List Int)) (f5:(List Int) → Option Bool) {v2:Value} {F3:List Nat} (Ac:rd w0 F3 [v2] Aa) {v6:Value} (Ai:FnOk1 Tryz.prog w0 v6 f5) {r:Int}
    (h:d_slices_IndexFunc_ints_int fu Aa f5 = some r) :
    Calls Tryz.prog 246 #[v2,v6] w0 fun e w=>e = .returned (I r) ∧ Ext [] w0 w:=by
 refine enter (vs:=[_,_]) func246 z ntmps246 z fun a k=>?_
 have m:=St.start w0
 obtain ⟨Ao,Ah,rfl,Ag,Ak⟩:=Ai
 unfold d_slices_IndexFunc_ints_int at h
 refine wr (pN 1 k z fun a k=>nn (wp_seq (wr (pN 1 k z fun a k=>sv k z (r_len (α:=List Int) Ac k underlying29 z z) fun a k=>pN 1 k z fun a k=>nn (wp_block (c_loop (fun n a w=>∃ (Ab:Int),K 19 [(0,v2),(1,(.func (.func Ao) #[] Ah.toArray)),(7,I ((Aa.length:Int))),(8,I Ab)] a ∧ St [] w0 w [] ∧ d_slices_IndexFunc_ints_int_L1 fu Aa f5 n Ab = some r) ?_ ?_ fu _ _ ?_))))))
 · rintro a w ⟨_,_,_,h⟩
   exact nS h
 · rintro As a Ar ⟨Ab,k,m,h⟩
   rw [d_slices_IndexFunc_ints_int_L1_s] at h
   unfold d_slices_IndexFunc_ints_int_L1_B at h
   refine wr (pN 1 k z fun a k=>nn (wp_seq (cI h k z (fun Am h=>?_) fun Am h=>?_)))
   · refine wp_skip (nm_then ?_)
     refine wp_seq (wp_block (wr (pN 2 k z fun a k=>nn (wr (pN 3 k z fun a k=>oE h fun At Ae h=>sv k z (r_ixa Ac Ae k ts29 z z z) fun a k=>?_)))))
     obtain ⟨Az,Aj,Ax,Ad,Aq,Af⟩:=rd_get Ac (ix_some Ae).2.2
     obtain ⟨Au,rfl⟩:∃ v,Aj = [v]:=by obtain ⟨_,_,hq,_⟩:=Ad; exact ⟨_,hq⟩
     refine sv k z (r_ld1 t163 (Aq.agr (m.a00 (Enc.rd_lt Ac)) Af) k z z) fun a k=>oE h fun Aw Al h=>s_callv k Ag z z z z z z (Ak _ _ _ _ m.ext ⟨_,(Enc.rd_agr Ad (m.a00 (Enc.rd_lt Ad)))⟩ Al) fun Ay Av hR=>?_
     obtain ⟨rfl,e⟩:=hR
     refine ⟨_,z,fun a k=>?_⟩
     have m:=m.step e
     refine nn (cI h k z (fun Ap h=>?_) fun Ap h=>?_)
     · refine wr (pN 2 k z fun a k=>nn (wp_ret (rt_block (rt_then (rt_then (rt_block (rt_then ?_)))))))
       refine fS h k m z z
     refine wp_skip (nm_block (nm_then ?_))
     refine wp_region_lit (pN 2 k z fun a k=>nn ?_)
     exact ⟨w64 (Ab + 1),k.keep [0,1,7,8] z,m.sel [] z (by decide),h⟩
   refine wp_exit (ex_then (ex_then (ex_same (nm_then ?_))))
   refine wr (pN 1 k z fun a k=>nn (wp_ret (fS h k m z z)))
 exact ⟨0,k.keep [0,1,7,8] z,m.sel [] z (by decide),h⟩
theorem c_impl_Groups (fu:Nat) {w0:World} (At:List Pair) (Bg:List Int) {v2:Value} {F3:List Nat} (Aw:rd w0 F3 [v2] At) {v6:Value} {F7:List Nat} (Bc:rd w0 F7 [v6] Bg) {r:(List (List Int))}
    (h:d_impl_Groups fu At Bg = some r) :
    Calls Tryz.prog 245 #[v2,v6] w0 fun e w=>∃ (v0:Value) (G0:List Nat),e = .returned (v0) ∧ Ext [] w0 w ∧ ow w G0 [v0] r ∧ (∀ b ∈ G0,w0.heap.size ≤ b):=by
 refine enter (vs:=[_,_]) func245 z ntmps245 z fun a k=>?_
 have m:=St.start w0
 unfold d_impl_Groups at h
 refine wr (s_box (cs:=[v2]) m k z z z z z (rd_c Aw) fun b9 Ap a k m e Dq=>pN 1 k z fun a k=>nn (wr (s_bs (cs:=[]) (ps:=[]) te29 m k z z z z z z z (by decide) z (by exact (List.forall_mem_nil _)) fun Az Cp Fl a k m e Br=>?_)))
 have Cs:=ow_bx0 (α:=List Int) Br
 refine pN 1 k z fun a k=>nn (wp_seq (wr (pN 1 k z fun a k=>oE h fun Ao Ea h=>s_call k call178 z z z z z (c_impl_kinds fu _ (Enc.rd_agr Bc (m.a00 (Enc.rd_lt Bc))) Ea) fun Fm Al hR=>?_)))
 obtain ⟨Bi,Ai,rfl,e,Ah,Cm⟩:=hR
 refine ⟨_,z,fun a k=>?_⟩
 have m:=m.new e Ai (fun b hb=>⟨Cm b hb,Enc.rd_lt (Enc.ow_rd Ah) b hb⟩) (Enc.ow_nd Ah)
 refine sv k z (r_len (α:=Int) (Enc.ow_rd Ah) k underlying63 z z) fun a k=>pN 1 k z fun a k=>nn (wp_block (c_loop (fun n a w=>∃ (Ae:List (List Int)) (Af:Value) (Ac:List Nat) (As:World) (Ag:Int),K 42 [(2,.pointer (some (⟨b9,0,none⟩:Addr))),(5,Af),(11,Bi),(12,I ((Ao.length:Int))),(13,I Ag)] a ∧ St [] w0 w [([b9],Ap),(Ai,Al),(Ac,As)] ∧ ow As Ac [Af] Ae ∧ d_impl_Groups_L1 fu At Ao n Ae Ag = some r) ?_ ?_ fu _ _ ?_))
 · rintro a w ⟨_,_,_,_,_,_,_,_,h⟩
   exact nS h
 · rintro Bt a Fj ⟨Ae,Af,Ac,As,Ag,k,m,Aa,h⟩
   rw [d_impl_Groups_L1_s] at h
   unfold d_impl_Groups_L1_B at h
   refine wr (pN 1 k z fun a k=>nn (wp_seq (cI h k z (fun Dx h=>?_) fun Dx h=>?_)))
   · refine wp_skip (nm_then ?_)
     refine c_cut (fun a w=>∃ (Aq:List (List Int)) (Aj:Value) (Ak:List Nat) (Am:World),K 42 [(2,.pointer (some (⟨b9,0,none⟩:Addr))),(5,Aj),(11,Bi),(12,I ((Ao.length:Int))),(13,I Ag)] a ∧ St [] w0 w [([b9],Ap),(Ai,Al),(Ak,Am)] ∧ ow Am Ak [Aj] Aq ∧ d_impl_Groups_J1 fu (d_impl_Groups_L1 fu At Ao Bt) Ag Aq = some r) ?_ ?_
     · rintro a Ek ⟨Aq,Aj,Ak,Am,k,m,Cy,h⟩
       unfold d_impl_Groups_J1 at h
       refine wp_region_lit (pN 2 k z fun a k=>nn ?_)
       exact ⟨Aq,Aj,Ak,Am,w64 (Ag + 1),k.keep [2,5,11,12,13] z,m.sel [0,1,2] z (by decide),Cy,h⟩
     refine wp_block (wr (oE h fun Ad Be h=>sv k z (r_ixa (Enc.ow_rd Ah) Be k ts63 z z z) fun a k=>sv k z (r_lde1 (Enc.ow_rd Ah) (m.a 1 z) Be 0 t13 k z z z z) fun a k=>s_alloc (cs:=[I 0]) m k zeroValue3 z z z z z fun Ax Em a k m e Dt=>s_stb (cs':=[I Ad]) sizeOf3 m 0 Dt 0 k z z z z z z z z z z z fun Bb a k e m Ar=>nn (wp_seq (wr (sv k z (r_ldb t13 m 0 Ar 0 k z z z z z) fun a k=>oE h fun Ge Do h=>cE k m call139 z z z (c_impl_in fu _ _ _  Do) fun Fs e a k m=>pN 1 k z fun a k=>nn (cI h k z (fun De h=>?_) fun De h=>?_))))))
     · refine wp_exit (ex_then (ex_same (nm_then ?_)))
       exact ⟨Ae,Af,Ac,As,k.keep [2,5,11,12,13] z,m.sel [1,2,3] z (by decide),Aa,h⟩
     refine wp_skip (nm_then ?_)
     refine wr (pN 2 k z fun a k=>oE h fun Bl Di h=>cE k m call246 z z z (c_slices_IndexFunc_ints_int fu _ _ (Enc.rd_agr (Enc.ow_rd Aa) (m.a 3 z)) ⟨293,[.pointer (some (⟨b9,0,none⟩:Addr)),.pointer (some (⟨Ax,0,none⟩:Addr))],z,call293,fun w Ga Fd r e Au hx=>by obtain ⟨_,Au⟩:=Au; have m:=m.step e; exact c_impl_Groups_1 fu _ _ _ Au (Dq.agr (m.a 1 z) (by simp)) (Enc.rd_agr Aw (m.a00 (Enc.rd_lt Aw))) (Ar.agr (m.a 0 z) (by simp)) hx⟩ Di) fun Fk e a k m=>pN 1 k z fun a k=>nn (wr (pN 2 k z fun a k=>nn (cI h k z (fun Ch h=>?_) fun Ch h=>?_))))
     · refine wp_region_lit (pN 1 k z fun a k=>sv k z (r_ldb t13 m 0 Ar 0 k z z z z z) fun a k=>s_bs (cs:=[I Ad]) (ps:=[(0,.tmp 26)]) te63 m k z z z z z z z (by decide) z (by exact (List.forall_mem_cons.2 ⟨z,(List.forall_mem_nil _)⟩)) fun Bd Eo Fu a k m e Cq=>?_)
       have Bf:=ow_bx Cq ([Ad]:List Int) z z z
       refine s_bs (cs:=[(.slice (some ⟨Bd,0,none⟩) 1 1)]) (ps:=[(0,.tmp 27)]) te29 m k z z z z z z z (by decide) z (by exact (List.forall_mem_cons.2 ⟨congrArg Array.size (rd_c (Enc.ow_rd Bf)),(List.forall_mem_nil _)⟩)) fun Eg El Fn a k m e Dm=>oE h fun Cf Du h=>?_
       have Dk:=Enc.ow_agr Bf (m.a 1 z)
       have Bs:=News.box Dm (m.a 0 z) (by simp) (m:=1)
       have Cn:=m.a 5 z
       have m:=m.sel [5,1,0,2,3,4] z (by decide)
       have m:=m.join2
       refine s_appO (F:=Ac) (G:=[Bd]) Du te29 z m Aa Cn Bs Dk (Agr.refl _ _) k z z z z z z fun Ds Cv Ca a k e m Bv=>pN 1 k z fun a k=>wpList_nil (nm_block (nm_then ?_))
       exact ⟨Cf,Ds,Cv,Ca,k.keep [2,5,11,12,13] z,m.sel [3,4,0] z (by decide),Bv,h⟩
     refine d_go (Ac) mixo m z fun Cg hMd=>?_
     have m:=hMd
     have s:=Ext.refl ((Ac):List Nat) Cg
     refine dN [0,1,2,3] 4 z k (by kernel_rfl) z s (fun _ _ _ _ _=>id) fun a k=>oE h fun Ev Ab h=>dt k 4 z (by kernel_rfl) z s (fun _ _ _=>id) (fun w s=>r_ixa (Enc.ow_rd Aa) Ab k ts29 z z z) fun a k=>?_
     obtain ⟨Fh,Cc,Fg,Cr,Ew,Et⟩:=rd_get (Enc.ow_rd Aa) (ix_some Ab).2.2
     obtain ⟨Fi,rfl⟩:∃ v,Cc = [v]:=by obtain ⟨_,_,hq,_⟩:=Cr; exact ⟨_,hq⟩
     refine dt k 6 z (by kernel_rfl) z s (fun _ _ _=>id) (fun w s=>r_ld1 t13 (r:=[]) (Ar.at (hMd.az 0 3 z z z s) 0 1 z z z) k z z) fun a k=>?_
     obtain ⟨Fe,Cb,Gh,Bn,Eh,Fv⟩:=rd_get (Enc.ow_rd Aa) (ix_some Ab).2.2
     obtain ⟨Gf,rfl⟩:∃ v,Cb = [v]:=by obtain ⟨_,_,hq,_⟩:=Bn; exact ⟨_,hq⟩
     refine d_two 5 7 (by kernel_rfl) z z ?_ ?_ 
     · obtain ⟨Eu,Dd,Ep,Ec,Bk,Eb⟩:=rd_get (Enc.ow_rd Aa) (ix_some Ab).2.2
       obtain ⟨En,rfl⟩:∃ v,Dd = [v]:=by obtain ⟨_,_,hq,_⟩:=Ec; exact ⟨_,hq⟩
       refine sv k z (r_ld1 t163 (Bk.agr (m.a 3 z) Eb) k z z) fun a k=>wpList_nil ⟨s,?_⟩
       refine d_one 7 (by kernel_rfl) z (s_bsN (cs:=[I Ad]) (ps:=[(0,.tmp 36)]) te63 m k z z z z z z z (by decide) z (by exact (List.forall_mem_cons.2 ⟨z,(List.forall_mem_nil _)⟩)) fun Dh Bu Ey a k m e Co Dz=>?_)
       have Ez:=lo1 (Nat.le_trans s.size Dz)
       have Cu:=ow_bx Co ([Ad]:List Int) z z z
       have s:=s.trans e (by simp)
       refine wpList_nil ⟨s,?_⟩
       refine d_one 8 (by kernel_rfl) z ?_
       obtain ⟨Fb,Fa,m,Bz,Dl,Ed,Bh⟩:=m.opnS 4 z Aa Ab Bk z (M':=[([Dh],Bu),([Ax],Bb),([b9],Ap),(Ai,Al)]) z
       refine oE h fun Dn Dy h=>s_appFN Dy te63 z m 1 Dl (News.rd (Enc.rd_agr (Enc.ow_rd Cu) (m.a 2 z))) z z k z z z z z z z fun Cx Cz Fp a k e m Ay Bm=>?_
       have Ex:∀ y ∈ Cz,y ∈ (Ac) ∨ _ ≤ y:=fun y hy=>(Bm y hy).elim (fun hy=>(fun y hy=>(fun y hy=>Or.inl hy) y (Bh y hy)) y hy) (fun h=>Or.inr (Nat.le_trans s.size h))
       have s:=s.trans e (fun y hy=>(fun y hy=>Or.inl hy) y (Bh y hy))
       refine wpList_nil ⟨s,?_⟩
       refine oE h fun Ej Ei h=>dt k 9 z (by kernel_rfl) z s (fun _ _ _=>id) (fun w s=>r_ixa (Enc.ow_rd Aa) Ab k ts29 z z z) fun a k=>d_one 10 (by kernel_rfl) z (s_stH1 (α:=List Int) (sz:=1) (cs':=[Cx]) sizeOf63 m 0 Bz 0 k (rd_c (Enc.ow_rd Ay)) (rd_o (Enc.ow_rd Ay)) z z z z z z z z z z fun Cj a k e m Ck=>?_)
       obtain ⟨Bx,m,Df⟩:=(m.sel [0,1,2,3,4,5] z (by decide)).cls Ck Ay
       have s:=s.trans e (fun y hy=>(fun y hy=>Or.inl hy) y (Ed y hy))
       refine wpList_nil ⟨s,?_⟩
       refine d_done (by kernel_rfl) ?_
       have k:=k.keep [2,11,12,5,13] z
       refine (nm_block (nm_then ?_))
       exact ⟨setx Ae Bl Dn,Af,Bx,Cj,k.keep [2,5,11,12,13] z,m.sel [3,4,0] z (by decide),Df,h⟩
     refine s_bsN (cs:=[I Ad]) (ps:=[(0,.tmp 36)]) te63 m k z z z z z z z (by decide) z (by exact (List.forall_mem_cons.2 ⟨z,(List.forall_mem_nil _)⟩)) fun Bq Dw Fw a k m e Ee Dr=>?_
     have Fc:=lo1 (Nat.le_trans s.size Dr)
     have By:=ow_bx Ee ([Ad]:List Int) z z z
     have s:=s.trans e (by simp)
     refine wpList_nil ⟨s,?_⟩
     obtain ⟨Ff,Bp,Gb,Cw,Gg,Fq⟩:=rd_get (Enc.ow_rd Aa) (ix_some Ab).2.2
     obtain ⟨Gi,rfl⟩:∃ v,Bp = [v]:=by obtain ⟨_,_,hq,_⟩:=Cw; exact ⟨_,hq⟩
     refine d_one 5 (by kernel_rfl) z ?_
     obtain ⟨Fr,Dj,Gc,Dc,Bj,Db⟩:=rd_get (Enc.ow_rd Aa) (ix_some Ab).2.2
     obtain ⟨Fz,rfl⟩:∃ v,Dj = [v]:=by obtain ⟨_,_,hq,_⟩:=Dc; exact ⟨_,hq⟩
     refine sv k z (r_ld1 t163 (Bj.agr (m.a 4 z) Db) k z z) fun a k=>wpList_nil ⟨s,?_⟩
     refine d_one 8 (by kernel_rfl) z ?_
     obtain ⟨Er,Ft,m,Dg,Ce,Da,Ba⟩:=m.opnS 4 z Aa Ab Bj z (M':=[([Bq],Dw),([Ax],Bb),([b9],Ap),(Ai,Al)]) z
     refine oE h fun Ct Dp h=>s_appFN Dp te63 z m 1 Ce (News.rd (Enc.rd_agr (Enc.ow_rd By) (m.a 2 z))) z z k z z z z z z z fun Cl Dv Fx a k e m Av Bo=>?_
     have Es:∀ y ∈ Dv,y ∈ (Ac) ∨ _ ≤ y:=fun y hy=>(Bo y hy).elim (fun hy=>(fun y hy=>(fun y hy=>Or.inl hy) y (Ba y hy)) y hy) (fun h=>Or.inr (Nat.le_trans s.size h))
     have s:=s.trans e (fun y hy=>(fun y hy=>Or.inl hy) y (Ba y hy))
     refine wpList_nil ⟨s,?_⟩
     refine oE h fun Gd Fy h=>dt k 9 z (by kernel_rfl) z s (fun _ _ _=>id) (fun w s=>r_ixa (Enc.ow_rd Aa) Ab k ts29 z z z) fun a k=>d_one 10 (by kernel_rfl) z (s_stH1 (α:=List Int) (sz:=1) (cs':=[Cl]) sizeOf63 m 0 Dg 0 k (rd_c (Enc.ow_rd Av)) (rd_o (Enc.ow_rd Av)) z z z z z z z z z z fun Bw a k e m Ci=>?_)
     obtain ⟨Cd,m,Ef⟩:=(m.sel [0,1,2,3,4,5] z (by decide)).cls Ci Av
     have s:=s.trans e (fun y hy=>(fun y hy=>Or.inl hy) y (Da y hy))
     refine wpList_nil ⟨s,?_⟩
     refine d_done (by kernel_rfl) ?_
     have k:=k.keep [2,11,12,5,13] z
     refine (nm_block (nm_then ?_))
     exact ⟨setx Ae Bl Ct,Af,Cd,Bw,k.keep [2,5,11,12,13] z,m.sel [3,4,0] z (by decide),Ef,h⟩
   refine wp_exit (ex_then (ex_then (ex_same (nm_then ?_))))
   refine wr (pN 2 k z fun a k=>nn (wp_ret ?_))
   cases h
   exact finR1 k z (RV.tmp k z) ⟨_,Ac,z,m.ext,(Enc.ow_agr Aa (m.a 2 z)),(m.fresh 2 z)⟩
 exact ⟨([]:List (List Int)),(.slice (some ⟨Az,0,none⟩) 0 0),[Az],Cp,0,k.keep [2,5,11,12,13] z,m.sel [2,0,1] z (by decide),Cs,h⟩
theorem c_impl_GroupsOf (fu:Nat) {w0:World} (r1:Request) {Ak:List Value} {F3:List Nat} (Ar:rd w0 F3 Ak r1) {r:(List (List Int))}
    (h:d_impl_GroupsOf fu r1 = some r) :
    Calls Tryz.prog 162 #[.agg Ak.toArray] w0 fun e w=>∃ (v0:Value) (G0:List Nat),e = .returned (v0) ∧ Ext [] w0 w ∧ ow w G0 [v0] r ∧ (∀ b ∈ G0,w0.heap.size ≤ b):=by
 refine enter (vs:=[_]) func162 z ntmps162 z fun a k=>?_
 have m:=St.start w0
 obtain ⟨v5,F6,v7,F8,v9,Au,rfl,rfl,Aa,Ab,Ac⟩:=Ar
 unfold d_impl_GroupsOf at h
 refine wr (s_box (cs:=[I r1.fWay,I r1.fPallet.fW,I r1.fPallet.fD,I r1.fPallet.fH,I r1.fPallet.fGram,I r1.fClasses,v5,v7,I r1.fMaster,v9]) m k z z z z z z fun Az Bc a k m e Af=>pN 1 k z fun a k=>nn (wp_seq (wr (sv k z (r_ldB ta38 m 0 Af 0 k z z z z z z) fun a k=>oE h fun Be Aq h=>?_))))
 refine cE k m call115 z z z (c_impl_sound fu _ (show rd _ _ [I r1.fWay,I r1.fPallet.fW,I r1.fPallet.fD,I r1.fPallet.fH,I r1.fPallet.fGram,I r1.fClasses,v5,v7,I r1.fMaster,v9] (r1:Request) from ⟨_,_,_,_,_,_,z,z,(Enc.rd_agr Aa (m.a00 (Enc.rd_lt Aa))),(Enc.rd_agr Ab (m.a00 (Enc.rd_lt Ab))),(Enc.rd_agr Ac (m.a00 (Enc.rd_lt Ac)))⟩) Aq) fun Bd e a k m=>pN 1 k z fun a k=>nn (cI h k z (fun Am h=>?_) fun Am h=>?_)
 · refine wr (pN 1 k z fun a k=>nn (wp_ret (rt_then ?_)))
   cases h
   exact finR1 k z (RV.tmp k z) ⟨_,[],z,m.ext,(ow_nil _),(by simp)⟩
 refine wp_skip (nm_then ?_)
 refine wp_seq (d_go [] mixo m z fun Ao hMd=>?_)
 have m:=hMd
 have s:=Ext.refl ([]:List Nat) Ao
 refine dt k 0 z (by kernel_rfl) z s (fun _ _ _=>id) (fun w s=>r_fa fa38_3 k z z) fun a k=>dt k 1 z (by kernel_rfl) z s (fun _ _ _=>id) (fun w s=>r_ld1 t134 (r:=[]) (Af.at ((hMd.step s).a 0 z) 6 1 z z z) k z z) fun a k=>dt k 2 z (by kernel_rfl) z s (fun _ _ _=>id) (fun w s=>r_ldA ta38 (Af.at ((hMd.step s).a 0 z) 0 10 z z z) z k z z) fun a k=>d_one 3 (by kernel_rfl) z (oE h fun Bf Ap h=>?_)
 refine s_call k call68 z z z z z (c_impl_Present fu _ (show rd _ _ [I r1.fWay,I r1.fPallet.fW,I r1.fPallet.fD,I r1.fPallet.fH,I r1.fPallet.fGram,I r1.fClasses,v5,v7,I r1.fMaster,v9] (r1:Request) from ⟨_,_,_,_,_,_,z,z,(Enc.rd_agr Aa (m.a00 (Enc.rd_lt Aa))),(Enc.rd_agr Ab (m.a00 (Enc.rd_lt Ab))),(Enc.rd_agr Ac (m.a00 (Enc.rd_lt Ac)))⟩) Ap) fun Bb As hR=>?_
 obtain ⟨Aw,Aj,rfl,e,Ae,Ah⟩:=hR
 refine ⟨_,z,fun a k=>?_⟩
 have m:=m.new e Aj (fun b hb=>⟨Ah b hb,Enc.rd_lt (Enc.ow_rd Ae) b hb⟩) (Enc.ow_nd Ae)
 have Ay:=fun (y:Nat) (hy:y ∈ Aj)=>Nat.le_trans s.size (Ah y hy)
 have s:=s.trans e (by simp)
 refine wpList_nil ⟨s,?_⟩
 refine d_one 4 (by kernel_rfl) z (oE h fun At Al h=>s_call k call245 z z z z z (c_impl_Groups fu _ _ (Enc.rd_agr Aa (m.a00 (Enc.rd_lt Aa))) (Enc.rd_agr (Enc.ow_rd Ae) (m.a 0 z)) Al) fun Ba Bg hR=>?_)
 obtain ⟨Av,Ag,rfl,e,Ad,Ai⟩:=hR
 refine ⟨_,z,fun a k=>?_⟩
 have m:=m.new e Ag (fun b hb=>⟨Ai b hb,Enc.rd_lt (Enc.ow_rd Ad) b hb⟩) (Enc.ow_nd Ad)
 have Ax:=fun (y:Nat) (hy:y ∈ Ag)=>Nat.le_trans s.size (Ai y hy)
 have s:=s.trans e (by simp)
 refine wpList_nil ⟨s,?_⟩
 refine dN [5] 1 z k (by kernel_rfl) z s (fun _ _ _ _ _=>id) fun a k=>d_done (by kernel_rfl) ((nm_then ?_))
 refine wp_ret ?_
 cases h
 exact finR1 k z (RV.tmp k z) ⟨_,Ag,z,m.ext,(Enc.ow_agr Ad (m.a 0 z)),(m.fresh 0 z)⟩
theorem c_slices_Index_int_int (fu:Nat) {w0:World} (Aa:List Int) (v5:Int) {v2:Value} {F3:List Nat} (Ac:rd w0 F3 [v2] Aa) {r:Int}
    (h:d_slices_Index_int_int fu Aa v5 = some r) :
    Calls Tryz.prog 242 #[v2,I v5] w0 fun e w=>e = .returned (I r) ∧ Ext [] w0 w:=by
 refine enter (vs:=[_,_]) func242 z ntmps242 z fun a k=>?_
 have m:=St.start w0
 unfold d_slices_Index_int_int at h
 refine wr (pN 1 k z fun a k=>nn (wp_seq (wr (pN 1 k z fun a k=>sv k z (r_len (α:=Int) Ac k underlying63 z z) fun a k=>pN 1 k z fun a k=>nn (wp_block (c_loop (fun n a w=>∃ (Ab:Int),K 19 [(0,v2),(1,I v5),(7,I ((Aa.length:Int))),(8,I Ab)] a ∧ St [] w0 w [] ∧ d_slices_Index_int_int_L1 fu Aa v5 n Ab = some r) ?_ ?_ fu _ _ ?_))))))
 · rintro a w ⟨_,_,_,h⟩
   exact nS h
 · rintro Ag a Ai ⟨Ab,k,m,h⟩
   rw [d_slices_Index_int_int_L1_s] at h
   unfold d_slices_Index_int_int_L1_B at h
   refine wr (pN 1 k z fun a k=>nn (wp_seq (cI h k z (fun Af h=>?_) fun Af h=>?_)))
   · refine wp_skip (nm_then ?_)
     refine wp_seq (wp_block (wr (pN 2 k z fun a k=>nn (wr (pN 3 k z fun a k=>oE h fun Ah Ad h=>sv k z (r_ixa Ac Ad k ts63 z z z) fun a k=>sv k z (r_lde1 Ac (m.a00 (Enc.rd_lt Ac)) Ad 0 t13 k z z z z) fun a k=>pN 1 k z fun a k=>nn (cI h k z (fun Ae h=>?_) fun Ae h=>?_))))))
     · refine wr (pN 2 k z fun a k=>nn (wp_ret (rt_block (rt_then (rt_then (rt_block (rt_then ?_)))))))
       refine fS h k m z z
     refine wp_skip (nm_block (nm_then ?_))
     refine wp_region_lit (pN 2 k z fun a k=>nn ?_)
     exact ⟨w64 (Ab + 1),k.keep [0,1,7,8] z,m.sel [] z (by decide),h⟩
   refine wp_exit (ex_then (ex_then (ex_same (nm_then ?_))))
   refine wr (pN 1 k z fun a k=>nn (wp_ret (fS h k m z z)))
 exact ⟨0,k.keep [0,1,7,8] z,m.sel [] z (by decide),h⟩
theorem c_slices_Contains_int_int (fu:Nat) {w0:World} (Ab:List Int) (v5:Int) {v2:Value} {F3:List Nat} (Aa:rd w0 F3 [v2] Ab) {r:Bool}
    (h:d_slices_Contains_int_int fu Ab v5 = some r) :
    Calls Tryz.prog 160 #[v2,I v5] w0 fun e w=>e = .returned (.bool (r)) ∧ Ext [] w0 w:=by
 refine enter (vs:=[_,_]) func160 z ntmps160 z fun a k=>?_
 have m:=St.start w0
 unfold d_slices_Contains_int_int at h
 refine wr (pN 1 k z fun a k=>nn (wr (pN 2 k z fun a k=>oE h fun x6 Ac h=>cE k m call242 z z z (c_slices_Index_int_int fu _ _ (Enc.rd_agr Aa (m.a00 (Enc.rd_lt Aa))) Ac) fun w9 e a k m=>pN 2 k z fun a k=>nn (wp_ret (fS h k m z z)))))
theorem c_impl_cartonFault_1 (fu:Nat) {w0:World} (y1:Item) (x2:Carton) (x8:List (List Int)) {v5:Value} {F6:List Nat} {b3:Nat} (Ad:bx w0 b3 [I x2.fType,I x2.fGroup,v5] 83) (At:rd w0 F6 [v5] x2.fUnits) {Ag:Value} {Am:List Nat} {b9:Nat} (Ac:bx w0 b9 [Ag] 29) (Ab:rd w0 Am [Ag] x8) {r:Bool}
    (h:d_impl_cartonFault_1 fu y1 x2 x8 = some r) :
    Calls Tryz.prog 226 #[.agg (Flat.e (y1)).toArray,.pointer (some (⟨b3,0,none⟩:Addr)),.pointer (some (⟨b9,0,none⟩:Addr))] w0 fun e w=>e = .returned (.bool (r)) ∧ Ext [] w0 w:=by
 refine enter (vs:=[_,_,_]) func226 z ntmps226 z fun a k=>?_
 have m:=St.start w0
 unfold d_impl_cartonFault_1 at h
 refine wr (s_box (cs:=[I y1.fId,I y1.fW,I y1.fH,I y1.fD,I y1.fGram,I y1.fClass,I y1.fCount]) m k z z z z z z fun As Au a k m e Al=>pN 1 k z fun a k=>nn (wp_seq (d_go [] mixo m z fun Ai hMd=>?_)))
 have m:=hMd
 have s:=Ext.refl ([]:List Nat) Ai
 refine dt k 0 z (by kernel_rfl) z s (fun _ _ _=>id) (fun w s=>r_fa fa83_1 k z z) fun a k=>dt k 1 z (by kernel_rfl) z s (fun _ _ _=>id) (fun w s=>r_ld1 t13 (r:=[]) (Ad.at ((hMd.step s).a00 Ad.lt1) 1 1 z z z) k z z) fun a k=>dt k 2 z (by kernel_rfl) z s (fun _ _ _=>id) (fun w s=>r_ld1 t129 (r:=[]) (Ac.at ((hMd.step s).a00 Ac.lt1) 0 1 z z z) k z z) fun a k=>dt k 3 z (by kernel_rfl) z s (fun _ _ _=>id) (fun w s=>r_len (α:=List Int) Ab k underlying29 z z) fun a k=>dN [4,5] 2 z k (by kernel_rfl) z s (fun _ _ _ _ _=>id) fun a k=>bsplit (decide (x2.fGroup ≥ ((x8.length:Int)))) (fun Aa=>?_) (fun Aa=>?_)
 · have h:=bif_t Aa h
   refine rB k 10 z Aa fun k=>dN [6,7,8,9,10,11,12,13,14,15,16] 11 z k (by kernel_rfl) z s (fun _ _ _ _ _=>id) fun a k=>d_done (by kernel_rfl) ((nm_then ?_))
   refine wp_ret (fS h k m z z)
 have h:=bif_f Aa h
 refine rB k 10 z Aa fun k=>dt k 6 z (by kernel_rfl) z s (fun _ _ _=>id) (fun w s=>r_ld1 t129 (r:=[]) (Ac.at ((hMd.step s).a00 Ac.lt1) 0 1 z z z) k z z) fun a k=>dt k 7 z (by kernel_rfl) z s (fun _ _ _=>id) (fun w s=>r_fa fa83_1 k z z) fun a k=>dt k 8 z (by kernel_rfl) z s (fun _ _ _=>id) (fun w s=>r_ld1 t13 (r:=[]) (Ad.at ((hMd.step s).a00 Ad.lt1) 1 1 z z z) k z z) fun a k=>oE h fun Aw Af h=>dt k 9 z (by kernel_rfl) z s (fun _ _ _=>id) (fun w s=>r_ixa Ab Af k ts29 z z z) fun a k=>?_
 obtain ⟨Ap,Aj,Ar,Ae,Ao,Ak⟩:=rd_get Ab (ix_some Af).2.2
 obtain ⟨Av,rfl⟩:∃ v,Aj = [v]:=by obtain ⟨_,_,hq,_⟩:=Ae; exact ⟨_,hq⟩
 refine dt k 10 z (by kernel_rfl) z s (fun _ _ _=>id) (fun w s=>r_ld1 t163 (Ao.agr ((hMd.step s).a00 (Enc.rd_lt Ab)) Ak) k z z) fun a k=>dt k 11 z (by kernel_rfl) z s (fun _ _ _=>id) (fun w s=>r_fa fa158_5 k z z) fun a k=>dt k 12 z (by kernel_rfl) z s (fun _ _ _=>id) (fun w s=>r_ld1 t13 (r:=[]) (Al.at ((hMd.step s).a 0 z) 5 1 z z z) k z z) fun a k=>d_one 13 (by kernel_rfl) z (oE h fun Ax Ah h=>cE k m call160 z z z (c_slices_Contains_int_int fu _ _ (Enc.rd_agr Ae (m.a00 (Enc.rd_lt Ae))) Ah) fun Aq e a k m=>?_)
 have s:=s.trans e (by simp)
 refine wpList_nil ⟨s,?_⟩
 refine dN [14,15,16] 3 z k (by kernel_rfl) z s (fun _ _ _ _ _=>id) fun a k=>d_done (by kernel_rfl) ((nm_then ?_))
 refine wp_ret (fS h k m z z)
theorem c_impl_Cheapest (fu:Nat) {w0:World} (r1:Request) (Aq:List Int) {Az:List Value} {F3:List Nat} (Bv:rd w0 F3 Az r1) {v6:Value} {F7:List Nat} (Av:rd w0 F7 [v6] Aq) {r:Typ × Bool}
    (h:d_impl_Cheapest fu r1 Aq = some r) :
    Calls Tryz.prog 208 #[.agg Az.toArray,v6] w0 fun e w=>e = .returned (.tuple #[.agg (Flat.e r.1).toArray,.bool (r.2)]) ∧ Ext [] w0 w:=by
 refine enter (vs:=[_,_]) func208 z ntmps208 z fun a k=>?_
 have m:=St.start w0
 obtain ⟨v9,Bz,At,Cg,Bb,Ce,rfl,rfl,Bc,Ai,Ay⟩:=Bv
 unfold d_impl_Cheapest at h
 refine wr (s_box (cs:=[I r1.fWay,I r1.fPallet.fW,I r1.fPallet.fD,I r1.fPallet.fH,I r1.fPallet.fGram,I r1.fClasses,v9,At,I r1.fMaster,Bb]) m k z z z z z z fun Ao Aw a k m e Ax=>s_alloc (cs:=[I 0,I 0,I 0,I 0,I 0,I 0,I 0]) m k zeroValue79 z z z z z fun Ap Ba a k m e Be=>pN 1 k z fun a k=>nn (wr (sv k z (r_build bt79 k (cs:=#[I 0,I 0,I 0,I 0,I 0,I 0,I 0]) (ps:=[]) z z (by kernel_rfl)) fun a k=>?_)))
 refine s_alloc (cs:=[I 0,I 0,I 0,I 0,I 0,I 0,I 0]) m k zeroValue79 z z z z z fun Ag Bx a k m e Bt=>s_stb (cs':=[I 0,I 0,I 0,I 0,I 0,I 0,I 0]) sizeOf79 m 0 Bt 0 k z z z z z z z z z z z fun Br a k e m Bi=>pN 1 k z fun a k=>nn (wp_seq (wr (sv k z (r_fa fa38_4 k z z) fun a k=>sv k z (r_ldb t135 m 2 Ax 7 k z z z z z) fun a k=>sv k z (r_len (α:=Typ) Ai k underlying35 z z) fun a k=>pN 1 k z fun a k=>nn (wp_block ?_))))
 refine c_loop (fun n a w=>∃ (Ab:Typ) (Ah:World) (Af:Bool) (Aj:Int),K 50 [(1,v6),(2,.pointer (some (⟨Ao,0,none⟩:Addr))),(4,.pointer (some (⟨Ap,0,none⟩:Addr))),(6,.pointer (some (⟨Ag,0,none⟩:Addr))),(7,.bool (Af)),(12,At),(13,I ((r1.fTypes.length:Int))),(14,I Aj)] a ∧ St [] w0 w [([Ao],Aw),([Ap],Ba),([Ag],Ah)] ∧ bx Ah Ag [I Ab.fId,I Ab.fW,I Ab.fH,I Ab.fD,I Ab.fTare,I Ab.fGram,I Ab.fCost] 79 ∧ d_impl_Cheapest_L1 fu r1 Aq n Ab Af Aj = some r) ?_ ?_ fu _ _ ?_
 · rintro a w ⟨_,_,_,_,_,_,_,h⟩
   exact nS h
 · rintro Bu a Cb ⟨Ab,Ah,Af,Aj,k,m,Ad,h⟩
   rw [d_impl_Cheapest_L1_s] at h
   unfold d_impl_Cheapest_L1_B at h
   refine wr (pN 1 k z fun a k=>nn (wp_seq (cI h k z (fun Bh h=>?_) fun Bh h=>?_)))
   · refine wp_skip (nm_then ?_)
     refine c_cut (fun a w=>∃ (Ac:Typ) (As:World) (Ar:Bool),K 50 [(1,v6),(2,.pointer (some (⟨Ao,0,none⟩:Addr))),(4,.pointer (some (⟨Ap,0,none⟩:Addr))),(6,.pointer (some (⟨Ag,0,none⟩:Addr))),(7,.bool (Ar)),(12,At),(13,I ((r1.fTypes.length:Int))),(14,I Aj)] a ∧ St [] w0 w [([Ao],Aw),([Ap],Ba),([Ag],As)] ∧ bx As Ag [I Ac.fId,I Ac.fW,I Ac.fH,I Ac.fD,I Ac.fTare,I Ac.fGram,I Ac.fCost] 79 ∧ d_impl_Cheapest_J1 fu (d_impl_Cheapest_L1 fu r1 Aq Bu) Aj Ac Ar = some r) ?_ ?_
     · rintro a Cf ⟨Ac,As,Ar,k,m,Bd,h⟩
       unfold d_impl_Cheapest_J1 at h
       refine wp_region_lit (pN 2 k z fun a k=>nn ?_)
       exact ⟨Ac,As,Ar,w64 (Aj + 1),k.keep [1,2,4,6,7,12,13,14] z,m.sel [0,1,2] z (by decide),Bd,h⟩
     refine wp_block (wr (oE h fun Aa Au h=>sv k z (r_ixa Ai Au k ts35 z z z) fun a k=>sv k z (r_lde Ai (m.a00 (Enc.rd_lt Ai)) Au ta79 k z z) fun a k=>s_alloc (cs:=[I 0,I 0,I 0,I 0,I 0,I 0,I 0]) m k zeroValue79 z z z z z fun Bw By a k m e Bm=>s_stb (cs':=[I Aa.fId,I Aa.fW,I Aa.fH,I Aa.fD,I Aa.fTare,I Aa.fGram,I Aa.fCost]) sizeOf79 m 0 Bm 0 k z z z z z z z z z z z fun Cd a k e m Ae=>nn (wp_seq (wr (sv k z (r_ldB ta38 m 1 Ax 0 k z z z z z z) fun a k=>pN 1 k z fun a k=>sv k z (r_ldB ta79 m 0 Ae 0 k z z z z z z) fun a k=>oE h fun Ca Bp h=>?_)))))
     refine cE k m call54 z z z (c_impl_Holds fu _ _ (Aa:Typ) (show rd _ _ [I r1.fWay,I r1.fPallet.fW,I r1.fPallet.fD,I r1.fPallet.fH,I r1.fPallet.fGram,I r1.fClasses,v9,At,I r1.fMaster,Bb] (r1:Request) from ⟨_,_,_,_,_,_,z,z,(Enc.rd_agr Bc (m.a00 (Enc.rd_lt Bc))),(Enc.rd_agr Ai (m.a00 (Enc.rd_lt Ai))),(Enc.rd_agr Ay (m.a00 (Enc.rd_lt Ay)))⟩) (Enc.rd_agr Av (m.a00 (Enc.rd_lt Av))) Bp) fun Ch e a k m=>pN 1 k z fun a k=>nn (cI h k z (fun Bl h=>?_) fun Bl h=>?_)
     · refine wp_exit (ex_then (ex_same (nm_then ?_)))
       exact ⟨Ab,Ah,Af,k.keep [1,2,4,6,7,12,13,14] z,m.sel [1,2,3] z (by decide),Ad,h⟩
     refine wp_skip (nm_then ?_)
     refine wr (pN 3 k z fun a k=>bsplit (!Af) (fun Am=>?_) (fun Am=>?_))
     · have h:=bif_t Am h
       refine rB k 25 z Am fun k=>pN 20 k z fun a k=>?_
       have k:=k.keep [1,2,4,6,12,13,7,14,9,45] z
       refine nn (wp_cond_true (k.ev z) (wp_region_lit (sv k z (r_ldB ta79 m 0 Ae 0 k z z z z z z) fun a k=>s_stb (cs':=[I Aa.fId,I Aa.fW,I Aa.fH,I Aa.fD,I Aa.fTare,I Aa.fGram,I Aa.fCost]) sizeOf79 m 3 Ad 0 k z z z z z z z z z z z fun Bk a k e m Bq=>pN 1 k z fun a k=>wpList_nil (nm_block (nm_then ?_)))))
       exact ⟨Aa,Bk,true,k.keep [1,2,4,6,7,12,13,14] z,m.sel [1,2,3] z (by decide),Bq,h⟩
     have h:=bif_f Am h
     refine rB k 25 z Am fun k=>sv k z (r_fa fa79_6 k z z) fun a k=>sv k z (r_ldb t13 m 0 Ae 6 k z z z z z) fun a k=>sv k z (r_fa fa79_6 k z z) fun a k=>sv k z (r_ldb t13 m 3 Ad 6 k z z z z z) fun a k=>pN 3 k z fun a k=>bsplit (decide (Aa.fCost < Ab.fCost)) (fun Al=>?_) (fun Al=>?_)
     · have h:=bif_t Al h
       refine rB k 32 z Al fun k=>pN 13 k z fun a k=>?_
       have k:=k.keep [1,2,4,6,12,13,7,14,9,45] z
       refine nn (wp_cond_true (k.ev z) (wp_region_lit (sv k z (r_ldB ta79 m 0 Ae 0 k z z z z z z) fun a k=>s_stb (cs':=[I Aa.fId,I Aa.fW,I Aa.fH,I Aa.fD,I Aa.fTare,I Aa.fGram,I Aa.fCost]) sizeOf79 m 3 Ad 0 k z z z z z z z z z z z fun Bs a k e m Bn=>pN 1 k z fun a k=>wpList_nil (nm_block (nm_then ?_)))))
       exact ⟨Aa,Bs,true,k.keep [1,2,4,6,7,12,13,14] z,m.sel [1,2,3] z (by decide),Bn,h⟩
     have h:=bif_f Al h
     refine rB k 32 z Al fun k=>sv k z (r_fa fa79_6 k z z) fun a k=>sv k z (r_ldb t13 m 0 Ae 6 k z z z z z) fun a k=>sv k z (r_fa fa79_6 k z z) fun a k=>sv k z (r_ldb t13 m 3 Ad 6 k z z z z z) fun a k=>pN 2 k z fun a k=>bsplit (Aa.fCost == Ab.fCost) (fun Ak=>?_) (fun Ak=>?_)
     · have h:=bif_t Ak h
       refine rB k 38 z Ak fun k=>sv k z (r_fa fa79_0 k z z) fun a k=>sv k z (r_ldb t13 m 0 Ae 0 k z z z z z) fun a k=>sv k z (r_fa fa79_0 k z z) fun a k=>sv k z (r_ldb t13 m 3 Ad 0 k z z z z z) fun a k=>pN 3 k z fun a k=>?_
       have k:=k.keep [1,2,4,6,12,13,7,14,9,45] z
       refine nn (cI h k z (fun Bf h=>?_) fun Bf h=>?_)
       · refine wp_region_lit (sv k z (r_ldB ta79 m 0 Ae 0 k z z z z z z) fun a k=>s_stb (cs':=[I Aa.fId,I Aa.fW,I Aa.fH,I Aa.fD,I Aa.fTare,I Aa.fGram,I Aa.fCost]) sizeOf79 m 3 Ad 0 k z z z z z z z z z z z fun Bo a k e m Bg=>pN 1 k z fun a k=>wpList_nil (nm_block (nm_then ?_)))
         exact ⟨Aa,Bo,true,k.keep [1,2,4,6,7,12,13,14] z,m.sel [1,2,3] z (by decide),Bg,h⟩
       refine wp_skip (nm_block (nm_then ?_))
       exact ⟨Ab,Ah,Af,k.keep [1,2,4,6,7,12,13,14] z,m.sel [1,2,3] z (by decide),Ad,h⟩
     have h:=bif_f Ak h
     refine rB k 38 z Ak fun k=>pN 7 k z fun a k=>?_
     have k:=k.keep [1,2,4,6,12,13,7,14,9,45] z
     refine nn (wp_cond_false (k.ev z) (wp_skip (nm_block (nm_then ?_))))
     exact ⟨Ab,Ah,Af,k.keep [1,2,4,6,7,12,13,14] z,m.sel [1,2,3] z (by decide),Ad,h⟩
   refine wp_exit (ex_then (ex_then (ex_same (nm_then ?_))))
   refine wr (sv k z (r_ldB ta79 m 2 Ad 0 k z z z z z z) fun a k=>pN 1 k z fun a k=>s_stb (cs':=[I Ab.fId,I Ab.fW,I Ab.fH,I Ab.fD,I Ab.fTare,I Ab.fGram,I Ab.fCost]) sizeOf79 m 1 Be 0 k z z z z z z z z z z z fun Cc a k e m Bj=>pN 1 k z fun a k=>nn (wp_ret ?_))
   cases h
   exact finR2 k z (RV.cA k z ta79 (Bj.at (m.a 1 z) 0 7 z z z) z) (RV.tmp k z) ⟨z,m.ext⟩
 exact ⟨(⟨0,0,0,0,0,0,0⟩:Typ),Br,false,0,k.keep [1,2,4,6,7,12,13,14] z,m.sel [2,1,0] z (by decide),Bi,h⟩
theorem c_impl_cartonFault (fu:Nat) {w0:World} (r1:Request) (x5:Plan) {Be:List Value} {F3:List Nat} (Bt:rd w0 F3 Be r1) {Ba:List Value} {F7:List Nat} (Cc:rd w0 F7 Ba x5) {r:Int}
    (h:d_impl_cartonFault fu r1 x5 = some r) :
    Calls Tryz.prog 124 #[.agg Be.toArray,.agg Ba.toArray] w0 fun e w=>e = .returned (I r) ∧ Ext [] w0 w:=by
 refine enter (vs:=[_,_]) func124 z ntmps124 z fun a k=>?_
 have m:=St.start w0
 obtain ⟨v9,Eu,Ak,Fc,Aj,Ee,rfl,rfl,Ad,Ac,Ab⟩:=Bt
 obtain ⟨Al,Dx,Db,Eh,rfl,rfl,Aa,Ek⟩:=Cc
 unfold d_impl_cartonFault at h
 refine wr (s_box (cs:=[I r1.fWay,I r1.fPallet.fW,I r1.fPallet.fD,I r1.fPallet.fH,I r1.fPallet.fGram,I r1.fClasses,v9,Ak,I r1.fMaster,Aj]) m k z z z z z z fun Af As a k m e Ao=>s_box (cs:=[Al,Db]) m k z z z z z z fun Ah Ax a k m e Au=>pN 1 k z fun a k=>nn (wp_seq (wr (sv k z (r_fa fa58_0 k z z) fun a k=>sv k z (r_ldb t155 m 0 Au 0 k z z z z z) fun a k=>sv k z (r_len (α:=Carton) Aa k underlying55 z z) fun a k=>pN 1 k z fun a k=>nn (wp_block ?_)))))
 refine c_loop (fun n a w=>∃ (Ai:Int),K 77 [(2,.pointer (some (⟨Af,0,none⟩:Addr))),(3,.pointer (some (⟨Ah,0,none⟩:Addr))),(17,Al),(18,I ((x5.fCartons.length:Int))),(19,I Ai)] a ∧ St [] w0 w [([Af],As),([Ah],Ax)] ∧ d_impl_cartonFault_L3 fu r1 x5 n Ai = some r) ?_ ?_ fu _ _ ?_
 · rintro a w ⟨_,_,_,h⟩
   exact nS h
 · rintro Ce a Ep ⟨Ai,k,m,h⟩
   rw [d_impl_cartonFault_L3_s] at h
   unfold d_impl_cartonFault_L3_B at h
   refine wr (pN 1 k z fun a k=>nn (wp_seq (cI h k z (fun By h=>?_) fun By h=>?_)))
   · refine wp_skip (nm_then ?_)
     refine c_cut (fun a w=>K 77 [(2,.pointer (some (⟨Af,0,none⟩:Addr))),(3,.pointer (some (⟨Ah,0,none⟩:Addr))),(17,Al),(18,I ((x5.fCartons.length:Int))),(19,I Ai)] a ∧ St [] w0 w [([Af],As),([Ah],Ax)] ∧ d_impl_cartonFault_J1 fu (d_impl_cartonFault_L3 fu r1 x5 Ce) Ai = some r) ?_ ?_
     · rintro a Ec ⟨k,m,h⟩
       unfold d_impl_cartonFault_J1 at h
       refine wp_region_lit (pN 2 k z fun a k=>nn ?_)
       exact ⟨w64 (Ai + 1),k.keep [2,3,17,18,19] z,m.sel [0,1] z (by decide),h⟩
     refine wp_block (wr (oE h fun Bi Bf h=>sv k z (r_ixa Aa Bf k ts55 z z z) fun a k=>?_))
     obtain ⟨Eg,Dw,Eo,Bz,Bs,Cj⟩:=rd_get Aa (ix_some Bf).2.2
     obtain ⟨Cf,_,rfl,rfl,Az⟩:=Bz
     refine sv k z (r_ldA ta83 (Bs.agr (m.a00 (Enc.rd_lt Aa)) Cj) z k z z) fun a k=>s_alloc (cs:=[I 0,I 0,.slice none 0 0]) m k zeroValue83 z z z z z fun Dl Dp a k m e Bm=>s_stb (cs':=[I Bi.fType,I Bi.fGroup,Cf]) sizeOf83 m 0 Bm 0 k z z z z z z z z z z (allc z (allc z (allc (rd_o Az) alln))) fun Er a k e m Bd=>nn (wr (sv k z (r_ldB ta38 m 1 Ao 0 k z z z z z z) fun a k=>sv k z (r_fa fa83_0 k z z) fun a k=>sv k z (r_ldb t13 m 0 Bd 0 k z z z z z) fun a k=>oE h fun Ae Cx h=>?_))
     refine cE k m call53 z z z (c_impl_TypeById fu _ _ (show rd _ _ [I r1.fWay,I r1.fPallet.fW,I r1.fPallet.fD,I r1.fPallet.fH,I r1.fPallet.fGram,I r1.fClasses,v9,Ak,I r1.fMaster,Aj] (r1:Request) from ⟨_,_,_,_,_,_,z,z,(Enc.rd_agr Ad (m.a00 (Enc.rd_lt Ad))),(Enc.rd_agr Ac (m.a00 (Enc.rd_lt Ac))),(Enc.rd_agr Ab (m.a00 (Enc.rd_lt Ab)))⟩) Cx) fun Dg e a k m=>pN 3 k z fun a k=>s_alloc (cs:=[I 0,I 0,I 0,I 0,I 0,I 0,I 0]) m k zeroValue79 z z z z z fun Do Ei a k m e Ch=>?_
     refine s_stb (cs':=[I Ae.1.fId,I Ae.1.fW,I Ae.1.fH,I Ae.1.fD,I Ae.1.fTare,I Ae.1.fGram,I Ae.1.fCost]) sizeOf79 m 0 Ch 0 k z z z z z z z z z z z fun Fd a k e m Bv=>pN 1 k z fun a k=>nn (wr (pN 3 k z fun a k=>bsplit (!Ae.2) (fun Am=>?_) (fun Am=>?_)))
     · have h:=bif_t Am h
       refine rB k 32 z Am fun k=>pN 7 k z fun a k=>?_
       have k:=k.keep [2,3,17,18,19,39] z
       refine nn (wp_cond_true (k.ev z) (wr (pN 1 k z fun a k=>nn (wp_ret (rt_block (rt_then (rt_then (rt_block (rt_then ?_)))))))))
       refine fS h k m z z
     have h:=bif_f Am h
     refine rB k 32 z Am fun k=>sv k z (r_ldB ta38 m 2 Ao 0 k z z z z z z) fun a k=>sv k z (r_fa fa83_2 k z z) fun a k=>sv k z (r_ldb t163 m 1 Bd 2 k z z z z z) fun a k=>sv k z (r_ldB ta79 m 0 Bv 0 k z z z z z z) fun a k=>oE h fun Ea Bx h=>cE k m call54 z z z (c_impl_Holds fu _ _ (Ae.1:Typ) (show rd _ _ [I r1.fWay,I r1.fPallet.fW,I r1.fPallet.fD,I r1.fPallet.fH,I r1.fPallet.fGram,I r1.fClasses,v9,Ak,I r1.fMaster,Aj] (r1:Request) from ⟨_,_,_,_,_,_,z,z,(Enc.rd_agr Ad (m.a00 (Enc.rd_lt Ad))),(Enc.rd_agr Ac (m.a00 (Enc.rd_lt Ac))),(Enc.rd_agr Ab (m.a00 (Enc.rd_lt Ab)))⟩) (Enc.rd_agr Az (m.a00 (Enc.rd_lt Az))) Bx) fun Ej e a k m=>?_
     refine pN 2 k z fun a k=>?_
     have k:=k.keep [2,3,17,18,19,39] z
     refine nn (cI h k z (fun Bw h=>?_) fun Bw h=>?_)
     · refine wr (pN 1 k z fun a k=>nn (wp_ret (rt_block (rt_then (rt_then (rt_block (rt_then ?_)))))))
       refine fS h k m z z
     refine wp_skip (nm_block (nm_then ?_))
     exact ⟨k.keep [2,3,17,18,19] z,m.sel [2,3] z (by decide),h⟩
   refine wp_exit (ex_then (ex_then (ex_same (nm_then ?_))))
   refine wr (sv k z (r_ldB ta38 m 0 Ao 0 k z z z z z z) fun a k=>oE h fun Cg Cs h=>s_call k call162 z z z z z (c_impl_GroupsOf fu _ (show rd _ _ [I r1.fWay,I r1.fPallet.fW,I r1.fPallet.fD,I r1.fPallet.fH,I r1.fPallet.fGram,I r1.fClasses,v9,Ak,I r1.fMaster,Aj] (r1:Request) from ⟨_,_,_,_,_,_,z,z,(Enc.rd_agr Ad (m.a00 (Enc.rd_lt Ad))),(Enc.rd_agr Ac (m.a00 (Enc.rd_lt Ac))),(Enc.rd_agr Ab (m.a00 (Enc.rd_lt Ab)))⟩) Cs) fun Dr Dd hR=>?_)
   obtain ⟨Br,Bb,rfl,e,Ap,Cp⟩:=hR
   refine ⟨_,z,fun a k=>?_⟩
   have m:=m.new e Bb (fun b hb=>⟨Cp b hb,Enc.rd_lt (Enc.ow_rd Ap) b hb⟩) (Enc.ow_nd Ap)
   refine s_alloc (cs:=[.slice none 0 0]) m k zeroValue29 z z z z z fun Ay Ex a k m e Cz=>s_stb1 (cs':=[Br]) sizeOf29 m 0 Cz 0 k (rd_c (Enc.ow_rd Ap)) (rd_o (Enc.ow_rd Ap)) z z z z z z z z z fun Ca a k e m Cw=>nn (wp_seq (wr (sv k z (r_fa fa58_0 k z z) fun a k=>sv k z (r_ldb t155 m 3 Au 0 k z z z z z) fun a k=>sv k z (r_len (α:=Carton) Aa k underlying55 z z) fun a k=>pN 1 k z fun a k=>nn (wp_block ?_))))
   refine c_loop (fun n a w=>∃ (At:Int),K 77 [(2,.pointer (some (⟨Af,0,none⟩:Addr))),(3,.pointer (some (⟨Ah,0,none⟩:Addr))),(9,.pointer (some (⟨Ay,0,none⟩:Addr))),(44,Al),(45,I ((x5.fCartons.length:Int))),(46,I At)] a ∧ St [] w0 w [([Af],As),([Ah],Ax),([Ay],Ca),(Bb,Dd)] ∧ d_impl_cartonFault_L2 fu r1 x5 Cg n At = some r) ?_ ?_ fu _ _ ?_
   · rintro a w ⟨_,_,_,h⟩
     exact nS h
   · rintro Fb a Ey ⟨At,k,m,h⟩
     rw [d_impl_cartonFault_L2_s] at h
     unfold d_impl_cartonFault_L2_B at h
     refine wr (pN 1 k z fun a k=>nn (wp_seq (cI h k z (fun Cn h=>?_) fun Cn h=>?_)))
     · refine wp_skip (nm_then ?_)
       refine wp_seq (wp_block (wr (oE h fun Bk Bc h=>sv k z (r_ixa Aa Bc k ts55 z z z) fun a k=>?_)))
       obtain ⟨Et,En,Du,Cl,De,Cb⟩:=rd_get Aa (ix_some Bc).2.2
       obtain ⟨Bn,_,rfl,rfl,Aq⟩:=Cl
       refine sv k z (r_ldA ta83 (De.agr (m.a00 (Enc.rd_lt Aa)) Cb) z k z z) fun a k=>s_alloc (cs:=[I 0,I 0,.slice none 0 0]) m k zeroValue83 z z z z z fun Cq Dj a k m e Bu=>s_stb (cs':=[I Bk.fType,I Bk.fGroup,Bn]) sizeOf83 m 0 Bu 0 k z z z z z z z z z z (allc z (allc z (allc (rd_o Aq) alln))) fun Es a k e m Bg=>nn (wr (sv k z (r_ldB ta38 m 1 Ao 0 k z z z z z z) fun a k=>sv k z (r_fa fa83_2 k z z) fun a k=>sv k z (r_ldb t163 m 0 Bg 2 k z z z z z) fun a k=>oE h fun Dq Cm h=>?_))
       refine s_call k call149 z z z z z (c_impl_itemsOf fu _ _ (show rd _ _ [I r1.fWay,I r1.fPallet.fW,I r1.fPallet.fD,I r1.fPallet.fH,I r1.fPallet.fGram,I r1.fClasses,v9,Ak,I r1.fMaster,Aj] (r1:Request) from ⟨_,_,_,_,_,_,z,z,(Enc.rd_agr Ad (m.a00 (Enc.rd_lt Ad))),(Enc.rd_agr Ac (m.a00 (Enc.rd_lt Ac))),(Enc.rd_agr Ab (m.a00 (Enc.rd_lt Ab)))⟩) (Enc.rd_agr Aq (m.a00 (Enc.rd_lt Aq))) Cm) fun Ev Dt hR=>?_
       obtain ⟨Dv,Cd,rfl,e,Aw,Co⟩:=hR
       refine ⟨_,z,fun a k=>?_⟩
       have m:=m.new e Cd (fun b hb=>⟨Co b hb,Enc.rd_lt (Enc.ow_rd Aw) b hb⟩) (Enc.ow_nd Aw)
       refine pN 1 k z fun a k=>oE h fun Em Bo h=>cE k m call148 z z z (c_slices_ContainsFunc_impl_Item_impl_Item fu _ _ (Enc.rd_agr (Enc.ow_rd Aw) (m.a 0 z)) ⟨226,[.pointer (some (⟨Cq,0,none⟩:Addr)),.pointer (some (⟨Ay,0,none⟩:Addr))],z,call226,fun w Ed Ew r e Cu hx=>by subst Cu; have m:=m.step e; exact c_impl_cartonFault_1 fu _ _ _ (Bg.agr (m.a 1 rfl) (by simp)) (Enc.rd_agr Aq (m.a00 (Enc.rd_lt Aq))) (Cw.agr (m.a 4 rfl) (by simp)) (Enc.rd_agr (Enc.ow_rd Ap) (m.a 5 rfl)) hx⟩ Bo) fun Di e a k m=>nn (cI h k rfl (fun Cr h=>?_) fun Cr h=>?_)
       · refine wr (pN 1 k z fun a k=>nn (wp_ret (rt_block (rt_then (rt_then (rt_block (rt_then ?_)))))))
         refine fS h k m z z
       refine wp_skip (nm_block (nm_then ?_))
       refine wp_region_lit (pN 2 k z fun a k=>nn ?_)
       exact ⟨w64 (At + 1),k.keep [2,3,9,44,45,46] z,m.sel [2,3,4,5] z (by decide),h⟩
     refine wp_exit (ex_then (ex_then (ex_same (nm_then ?_))))
     refine wp_seq (wr (sv k z (r_fa fa58_0 k z z) fun a k=>sv k z (r_ldb t155 m 1 Au 0 k z z z z z) fun a k=>sv k z (r_len (α:=Carton) Aa k underlying55 z z) fun a k=>pN 1 k z fun a k=>nn (wp_block (c_loop (fun n a w=>∃ (Ar:Int),K 77 [(2,.pointer (some (⟨Af,0,none⟩:Addr))),(58,Al),(59,I ((x5.fCartons.length:Int))),(60,I Ar)] a ∧ St [] w0 w [([Af],As)] ∧ d_impl_cartonFault_L1 fu r1 x5 n Ar = some r) ?_ ?_ fu _ _ ?_))))
     · rintro a w ⟨_,_,_,h⟩
       exact nS h
     · rintro Dy a Dk ⟨Ar,k,m,h⟩
       rw [d_impl_cartonFault_L1_s] at h
       unfold d_impl_cartonFault_L1_B at h
       refine wr (pN 1 k z fun a k=>nn (wp_seq (cI h k z (fun Bp h=>?_) fun Bp h=>?_)))
       · refine wp_skip (nm_then ?_)
         refine wp_seq (wp_block (wr (oE h fun Bh Bj h=>sv k z (r_ixa Aa Bj k ts55 z z z) fun a k=>?_)))
         obtain ⟨Fa,Ef,Dn,Ci,Bq,Df⟩:=rd_get Aa (ix_some Bj).2.2
         obtain ⟨Dc,_,rfl,rfl,Av⟩:=Ci
         refine sv k z (r_ldA ta83 (Bq.agr (m.a00 (Enc.rd_lt Aa)) Df) z k z z) fun a k=>s_alloc (cs:=[I 0,I 0,.slice none 0 0]) m k zeroValue83 z z z z z fun Ds Ez a k m e Cy=>s_stb (cs':=[I Bh.fType,I Bh.fGroup,Dc]) sizeOf83 m 0 Cy 0 k z z z z z z z z z z (allc z (allc z (allc (rd_o Av) alln))) fun Dm a k e m Bl=>nn (wr (sv k z (r_ldB ta38 m 1 Ao 0 k z z z z z z) fun a k=>sv k z (r_fa fa83_2 k z z) fun a k=>sv k z (r_ldb t163 m 0 Bl 2 k z z z z z) fun a k=>oE h fun Ag Ct h=>?_))
         refine cE k m call208 z z z (c_impl_Cheapest fu _ _ (show rd _ _ [I r1.fWay,I r1.fPallet.fW,I r1.fPallet.fD,I r1.fPallet.fH,I r1.fPallet.fGram,I r1.fClasses,v9,Ak,I r1.fMaster,Aj] (r1:Request) from ⟨_,_,_,_,_,_,z,z,(Enc.rd_agr Ad (m.a00 (Enc.rd_lt Ad))),(Enc.rd_agr Ac (m.a00 (Enc.rd_lt Ac))),(Enc.rd_agr Ab (m.a00 (Enc.rd_lt Ab)))⟩) (Enc.rd_agr Av (m.a00 (Enc.rd_lt Av))) Ct) fun El e a k m=>pN 3 k z fun a k=>s_alloc (cs:=[I 0,I 0,I 0,I 0,I 0,I 0,I 0]) m k zeroValue79 z z z z z fun Eb Dh a k m e Cv=>?_
         refine s_stb (cs':=[I Ag.1.fId,I Ag.1.fW,I Ag.1.fH,I Ag.1.fD,I Ag.1.fTare,I Ag.1.fGram,I Ag.1.fCost]) sizeOf79 m 0 Cv 0 k z z z z z z z z z z z fun Dz a k e m Ck=>pN 1 k z fun a k=>nn (wr (sv k z (r_fa fa79_0 k z z) fun a k=>sv k z (r_ldb t13 m 0 Ck 0 k z z z z z) fun a k=>sv k z (r_fa fa83_0 k z z) fun a k=>sv k z (r_ldb t13 m 1 Bl 0 k z z z z z) fun a k=>pN 1 k z fun a k=>nn (cI h k z (fun Da h=>?_) fun Da h=>?_)))
         · refine wr (pN 1 k z fun a k=>nn (wp_ret (rt_block (rt_then (rt_then (rt_block (rt_then ?_)))))))
           refine fS h k m z z
         refine wp_skip (nm_block (nm_then ?_))
         refine wp_region_lit (pN 2 k z fun a k=>nn ?_)
         exact ⟨w64 (Ar + 1),k.keep [2,58,59,60] z,m.sel [2] z (by decide),h⟩
       refine wp_exit (ex_then (ex_then (ex_same (nm_then ?_))))
       refine wr (pN 1 k z fun a k=>nn (wp_ret (fS h k m z z)))
     exact ⟨0,k.keep [2,58,59,60] z,m.sel [0] z (by decide),h⟩
   exact ⟨0,k.keep [2,3,9,44,45,46] z,m.sel [2,3,0,1] z (by decide),h⟩
 exact ⟨0,k.keep [2,3,17,18,19] z,m.sel [1,0] z (by decide),h⟩
theorem c_impl_Gross (fu:Nat) {w0:World} (r1:Request) (x5:Carton) {Ao:List Value} {F3:List Nat} (Bb:rd w0 F3 Ao r1) {Al:List Value} {F7:List Nat} (Ax:rd w0 F7 Al x5) {r:Int}
    (h:d_impl_Gross fu r1 x5 = some r) :
    Calls Tryz.prog 155 #[.agg Ao.toArray,.agg Al.toArray] w0 fun e w=>e = .returned (I r) ∧ Ext [] w0 w:=by
 refine enter (vs:=[_,_]) func155 z ntmps155 z fun a k=>?_
 have m:=St.start w0
 obtain ⟨v9,Bd,Ag,Bj,Af,Bh,rfl,rfl,Ad,Ab,Ac⟩:=Bb
 obtain ⟨Ar,_,rfl,rfl,Ai⟩:=Ax
 unfold d_impl_Gross at h
 refine wr (s_box (cs:=[I r1.fWay,I r1.fPallet.fW,I r1.fPallet.fD,I r1.fPallet.fH,I r1.fPallet.fGram,I r1.fClasses,v9,Ag,I r1.fMaster,Af]) m k z z z z z z fun Ak Au a k m e Ah=>s_box (cs:=[I x5.fType,I x5.fGroup,Ar]) m k z z z z z z fun Am Aq a k m e Aj=>pN 1 k z fun a k=>nn (wr (sv k z (r_ldB ta38 m 1 Ah 0 k z z z z z z) fun a k=>sv k z (r_fa fa83_0 k z z) fun a k=>sv k z (r_ldb t13 m 0 Aj 0 k z z z z z) fun a k=>oE h fun Aa Av h=>?_)))
 refine cE k m call53 z z z (c_impl_TypeById fu _ _ (show rd _ _ [I r1.fWay,I r1.fPallet.fW,I r1.fPallet.fD,I r1.fPallet.fH,I r1.fPallet.fGram,I r1.fClasses,v9,Ag,I r1.fMaster,Af] (r1:Request) from ⟨_,_,_,_,_,_,z,z,(Enc.rd_agr Ad (m.a00 (Enc.rd_lt Ad))),(Enc.rd_agr Ab (m.a00 (Enc.rd_lt Ab))),(Enc.rd_agr Ac (m.a00 (Enc.rd_lt Ac)))⟩) Av) fun Be e a k m=>pN 3 k z fun a k=>s_alloc (cs:=[I 0,I 0,I 0,I 0,I 0,I 0,I 0]) m k zeroValue79 z z z z z fun Ap Bl a k m e Ay=>?_
 refine s_stb (cs':=[I Aa.1.fId,I Aa.1.fW,I Aa.1.fH,I Aa.1.fD,I Aa.1.fTare,I Aa.1.fGram,I Aa.1.fCost]) sizeOf79 m 0 Ay 0 k z z z z z z z z z z z fun Aw a k e m At=>pN 1 k z fun a k=>nn (c_cut (fun a w=>K 28 [(2,.pointer (some (⟨Ak,0,none⟩:Addr))),(3,.pointer (some (⟨Am,0,none⟩:Addr))),(5,.pointer (some (⟨Ap,0,none⟩:Addr)))] a ∧ St [] w0 w [([Ak],Au),([Am],Aq),([Ap],Aw)] ∧ d_impl_Gross_J1 fu r1 x5 Aa = some r) ?_ ?_)
 · rintro a Bg ⟨k,m,h⟩
   unfold d_impl_Gross_J1 at h
   refine wp_seq (d_go [] mixo m z fun Ba hMd=>?_)
   have m:=hMd
   have s:=Ext.refl ([]:List Nat) Ba
   refine dt k 0 z (by kernel_rfl) z s (fun _ _ _=>id) (fun w s=>r_fa fa79_4 k z z) fun a k=>dt k 1 z (by kernel_rfl) z s (fun _ _ _=>id) (fun w s=>r_ld1 t13 (r:=[]) (At.at ((hMd.step s).a 2 z) 4 1 z z z) k z z) fun a k=>dt k 2 z (by kernel_rfl) z s (fun _ _ _=>id) (fun w s=>r_ldA ta38 (Ah.at ((hMd.step s).a 0 z) 0 10 z z z) z k z z) fun a k=>dt k 3 z (by kernel_rfl) z s (fun _ _ _=>id) (fun w s=>r_fa fa83_2 k z z) fun a k=>dt k 4 z (by kernel_rfl) z s (fun _ _ _=>id) (fun w s=>r_ld1 t163 (r:=[]) (Aj.at ((hMd.step s).a 1 z) 2 1 z z z) k z z) fun a k=>d_one 5 (by kernel_rfl) z (oE h fun Bk Bc h=>?_)
   refine cE k m call240 z z z (c_impl_GramOf fu _ _ (show rd _ _ [I r1.fWay,I r1.fPallet.fW,I r1.fPallet.fD,I r1.fPallet.fH,I r1.fPallet.fGram,I r1.fClasses,v9,Ag,I r1.fMaster,Af] (r1:Request) from ⟨_,_,_,_,_,_,z,z,(Enc.rd_agr Ad (m.a00 (Enc.rd_lt Ad))),(Enc.rd_agr Ab (m.a00 (Enc.rd_lt Ab))),(Enc.rd_agr Ac (m.a00 (Enc.rd_lt Ac)))⟩) (Enc.rd_agr Ai (m.a00 (Enc.rd_lt Ai))) Bc) fun Bi e a k m=>?_
   have s:=s.trans e (by simp)
   refine wpList_nil ⟨s,?_⟩
   refine dN [6,7] 2 z k (by kernel_rfl) z s (fun _ _ _ _ _=>id) fun a k=>d_done (by kernel_rfl) ((nm_then ?_))
   refine wp_ret (fS h k m z z)
 refine wr (pN 3 k z fun a k=>bsplit (!Aa.2) (fun Ae=>?_) (fun Ae=>?_))
 · have h:=bif_t Ae h
   refine rB k 16 z Ae fun k=>pN 4 k z fun a k=>nn (wp_cond_true (k.ev z) (wr (pN 1 k z fun a k=>nn (wp_ret (rt_then ?_)))))
   refine fS h k m z z
 have h:=bif_f Ae h
 refine rB k 16 z Ae fun k=>sv k z (r_ldB ta38 m 2 Ah 0 k z z z z z z) fun a k=>oE h fun Bf Az h=>cE k m call115 z z z (c_impl_sound fu _ (show rd _ _ [I r1.fWay,I r1.fPallet.fW,I r1.fPallet.fD,I r1.fPallet.fH,I r1.fPallet.fGram,I r1.fClasses,v9,Ag,I r1.fMaster,Af] (r1:Request) from ⟨_,_,_,_,_,_,z,z,(Enc.rd_agr Ad (m.a00 (Enc.rd_lt Ad))),(Enc.rd_agr Ab (m.a00 (Enc.rd_lt Ab))),(Enc.rd_agr Ac (m.a00 (Enc.rd_lt Ac)))⟩) Az) fun Bm e a k m=>pN 2 k z fun a k=>nn (cI h k z (fun As h=>?_) fun As h=>?_)
 · refine wr (pN 1 k z fun a k=>nn (wp_ret (rt_then ?_)))
   refine fS h k m z z
 refine wp_skip (nm_then ?_)
 exact ⟨k.keep [2,3,5] z,m.sel [2,1,0] z (by decide),h⟩
theorem c_impl_BoxOf (fu:Nat) {w0:World} (r1:Request) (x5:Carton) {At:List Value} {F3:List Nat} (Bg:rd w0 F3 At r1) {Ar:List Value} {F7:List Nat} (Be:rd w0 F7 Ar x5) {r:Box}
    (h:d_impl_BoxOf fu r1 x5 = some r) :
    Calls Tryz.prog 56 #[.agg At.toArray,.agg Ar.toArray] w0 fun e w=>e = .returned (.agg (Flat.e r).toArray) ∧ Ext [] w0 w:=by
 refine enter (vs:=[_,_]) func56 z ntmps56 z fun a k=>?_
 have m:=St.start w0
 obtain ⟨v9,Bl,Ah,Br,Ag,Bn,rfl,rfl,Ad,Ab,Ac⟩:=Bg
 obtain ⟨Al,_,rfl,rfl,Ao⟩:=Be
 unfold d_impl_BoxOf at h
 refine wr (s_box (cs:=[I r1.fWay,I r1.fPallet.fW,I r1.fPallet.fD,I r1.fPallet.fH,I r1.fPallet.fGram,I r1.fClasses,v9,Ah,I r1.fMaster,Ag]) m k z z z z z z fun Aq Az a k m e Ai=>s_box (cs:=[I x5.fType,I x5.fGroup,Al]) m k z z z z z z fun As Av a k m e Ap=>s_alloc (cs:=[I 0,I 0,I 0,I 0]) m k zeroValue86 z z z z z fun Af Bd a k m e Aj=>nn (wr (sv k z (r_ldB ta38 m 2 Ai 0 k z z z z z z) fun a k=>sv k z (r_fa fa83_0 k z z) fun a k=>sv k z (r_ldb t13 m 1 Ap 0 k z z z z z) fun a k=>oE h fun Aa Bh h=>?_)))
 refine cE k m call53 z z z (c_impl_TypeById fu _ _ (show rd _ _ [I r1.fWay,I r1.fPallet.fW,I r1.fPallet.fD,I r1.fPallet.fH,I r1.fPallet.fGram,I r1.fClasses,v9,Ah,I r1.fMaster,Ag] (r1:Request) from ⟨_,_,_,_,_,_,z,z,(Enc.rd_agr Ad (m.a00 (Enc.rd_lt Ad))),(Enc.rd_agr Ab (m.a00 (Enc.rd_lt Ab))),(Enc.rd_agr Ac (m.a00 (Enc.rd_lt Ac)))⟩) Bh) fun Bu e a k m=>pN 3 k z fun a k=>s_alloc (cs:=[I 0,I 0,I 0,I 0,I 0,I 0,I 0]) m k zeroValue79 z z z z z fun Am Bk a k m e Ax=>?_
 refine s_stb (cs':=[I Aa.1.fId,I Aa.1.fW,I Aa.1.fH,I Aa.1.fD,I Aa.1.fTare,I Aa.1.fGram,I Aa.1.fCost]) sizeOf79 m 0 Ax 0 k z z z z z z z z z z z fun Bi a k e m Ak=>pN 1 k z fun a k=>nn (c_cut (fun a w=>K 32 [(2,.pointer (some (⟨Aq,0,none⟩:Addr))),(3,.pointer (some (⟨As,0,none⟩:Addr))),(4,.pointer (some (⟨Af,0,none⟩:Addr))),(5,.pointer (some (⟨Am,0,none⟩:Addr)))] a ∧ St [] w0 w [([Aq],Az),([As],Av),([Af],Bd),([Am],Bi)] ∧ d_impl_BoxOf_J1 fu r1 x5 Aa = some r) ?_ ?_)
 · rintro a Bo ⟨k,m,h⟩
   unfold d_impl_BoxOf_J1 at h
   refine wp_seq (d_go ([Af]) mixo m z fun Ba hMd=>?_)
   have m:=hMd
   have s:=Ext.refl (([Af]):List Nat) Ba
   refine dt k 0 z (by kernel_rfl) z s (fun _ _ _=>id) (fun w s=>r_fa fa79_1 k z z) fun a k=>dt k 1 z (by kernel_rfl) z s (fun _ _ _=>id) (fun w s=>r_ld1 t13 (r:=[]) (Ak.at (hMd.az 3 2 z z z s) 1 1 z z z) k z z) fun a k=>dt k 2 z (by kernel_rfl) z s (fun _ _ _=>id) (fun w s=>r_fa fa79_3 k z z) fun a k=>dt k 3 z (by kernel_rfl) z s (fun _ _ _=>id) (fun w s=>r_ld1 t13 (r:=[]) (Ak.at (hMd.az 3 2 z z z s) 3 1 z z z) k z z) fun a k=>dt k 4 z (by kernel_rfl) z s (fun _ _ _=>id) (fun w s=>r_fa fa79_2 k z z) fun a k=>dt k 5 z (by kernel_rfl) z s (fun _ _ _=>id) (fun w s=>r_ld1 t13 (r:=[]) (Ak.at (hMd.az 3 2 z z z s) 2 1 z z z) k z z) fun a k=>?_
   refine dt k 6 z (by kernel_rfl) z s (fun _ _ _=>id) (fun w s=>r_ldA ta38 (Ai.at (hMd.az 0 2 z z z s) 0 10 z z z) z k z z) fun a k=>dt k 7 z (by kernel_rfl) z s (fun _ _ _=>id) (fun w s=>r_ldA ta83 (Ap.at (hMd.az 1 2 z z z s) 0 3 z z z) z k z z) fun a k=>d_one 8 (by kernel_rfl) z (oE h fun Au Bf h=>?_)
   refine cE k m call155 z z z (c_impl_Gross fu _ _ (show rd _ _ [I r1.fWay,I r1.fPallet.fW,I r1.fPallet.fD,I r1.fPallet.fH,I r1.fPallet.fGram,I r1.fClasses,v9,Ah,I r1.fMaster,Ag] (r1:Request) from ⟨_,_,_,_,_,_,z,z,(Enc.rd_agr Ad (m.a00 (Enc.rd_lt Ad))),(Enc.rd_agr Ab (m.a00 (Enc.rd_lt Ab))),(Enc.rd_agr Ac (m.a00 (Enc.rd_lt Ac)))⟩) (show rd _ _ [I x5.fType,I x5.fGroup,Al] (x5:Carton) from ⟨_,_,z,z,(Enc.rd_agr Ao (m.a00 (Enc.rd_lt Ao)))⟩) Bf) fun Bq e a k m=>?_
   have s:=s.trans e (by simp)
   refine wpList_nil ⟨s,?_⟩
   refine dt k 9 z (by kernel_rfl) z s (fun _ _ _=>id) (fun w s=>r_build bt86 k (cs:=#[I Aa.1.fW,I Aa.1.fD,I Aa.1.fH,I Au]) (ps:=[(0,.tmp 23),(1,.tmp 25),(2,.tmp 27),(3,.tmp 30)]) z z (by kernel_rfl)) fun a k=>d_one 10 (by kernel_rfl) z (s_stb (cs':=[I Aa.1.fW,I Aa.1.fD,I Aa.1.fH,I Au]) sizeOf86 m 2 Aj 0 k z z z z z z z z z z z fun Bt a k e m Bb=>?_)
   have s:=s.trans e (fun y hy=>Or.inl hy)
   refine wpList_nil ⟨s,?_⟩
   refine d_done (by kernel_rfl) ((nm_then ?_))
   refine wp_ret ?_
   cases h
   exact finR1 k z (RV.cA k z ta86 (Bb.at (m.a 2 z) 0 4 z z z) z) ⟨z,m.ext⟩
 refine wr (pN 3 k z fun a k=>bsplit (!Aa.2) (fun Ae=>?_) (fun Ae=>?_))
 · have h:=bif_t Ae h
   refine rB k 16 z Ae fun k=>pN 4 k z fun a k=>nn (wp_cond_true (k.ev z) (wr (sv k z (r_build bt86 k (cs:=#[I 0,I 0,I 0,I 0]) (ps:=[]) z z (by kernel_rfl)) fun a k=>s_stb (cs':=[I 0,I 0,I 0,I 0]) sizeOf86 m 1 Aj 0 k z z z z z z z z z z z fun Bp a k e m Aw=>nn (wp_ret (rt_then ?_)))))
   cases h
   exact finR1 k z (RV.cA k z ta86 (Aw.at (m.a 1 z) 0 4 z z z) z) ⟨z,m.ext⟩
 have h:=bif_f Ae h
 refine rB k 16 z Ae fun k=>sv k z (r_ldB ta38 m 3 Ai 0 k z z z z z z) fun a k=>oE h fun Bv Bc h=>cE k m call115 z z z (c_impl_sound fu _ (show rd _ _ [I r1.fWay,I r1.fPallet.fW,I r1.fPallet.fD,I r1.fPallet.fH,I r1.fPallet.fGram,I r1.fClasses,v9,Ah,I r1.fMaster,Ag] (r1:Request) from ⟨_,_,_,_,_,_,z,z,(Enc.rd_agr Ad (m.a00 (Enc.rd_lt Ad))),(Enc.rd_agr Ab (m.a00 (Enc.rd_lt Ab))),(Enc.rd_agr Ac (m.a00 (Enc.rd_lt Ac)))⟩) Bc) fun Bs e a k m=>pN 2 k z fun a k=>nn (cI h k z (fun Bj h=>?_) fun Bj h=>?_)
 · refine wr (sv k z (r_build bt86 k (cs:=#[I 0,I 0,I 0,I 0]) (ps:=[]) z z (by kernel_rfl)) fun a k=>s_stb (cs':=[I 0,I 0,I 0,I 0]) sizeOf86 m 1 Aj 0 k z z z z z z z z z z z fun Bm a k e m Ay=>nn (wp_ret (rt_then ?_)))
   cases h
   exact finR1 k z (RV.cA k z ta86 (Ay.at (m.a 1 z) 0 4 z z z) z) ⟨z,m.ext⟩
 refine wp_skip (nm_then ?_)
 exact ⟨k.keep [2,3,4,5] z,m.sel [3,2,1,0] z (by decide),h⟩
theorem c_impl_Within (fu:Nat) {w0:World} (p1:Pallet) (b2:Box) (Aa:Spot)  {r:Bool}
    (h:d_impl_Within fu p1 b2 Aa = some r) :
    Calls Tryz.prog 55 #[.agg (Flat.e (p1)).toArray,.agg (Flat.e (b2)).toArray,.agg (Flat.e (Aa)).toArray] w0 fun e w=>e = .returned (.bool (r)) ∧ Ext [] w0 w:=by
 refine enter (vs:=[_,_,_]) func55 z ntmps55 z fun a k=>?_
 have m:=St.start w0
 unfold d_impl_Within at h
 refine wr (s_box (cs:=[I p1.fW,I p1.fD,I p1.fH,I p1.fGram]) m k z z z z z z fun b4 w6 a k m e Ak=>s_box (cs:=[I b2.fW,I b2.fD,I b2.fH,I b2.fGram]) m k z z z z z z fun b7 w9 a k m e Ab=>s_box (cs:=[I Aa.fPallet,I Aa.fX,I Aa.fY,I Aa.fZ]) m k z z z z z z fun Al Aq a k m e Ac=>pN 1 k z fun a k=>nn (c_cut (fun a w=>K 69 [(3,.pointer (some (⟨b4,0,none⟩:Addr))),(4,.pointer (some (⟨b7,0,none⟩:Addr))),(5,.pointer (some (⟨Al,0,none⟩:Addr)))] a ∧ St [] w0 w [([b4],w6),([b7],w9),([Al],Aq)] ∧ d_impl_Within_J1 fu p1 b2 Aa = some r) ?_ ?_))
 · rintro a Be ⟨k,m,h⟩
   unfold d_impl_Within_J1 at h
   refine wr (sv k z (r_fa fa89_1 k z z) fun a k=>sv k z (r_ldb t13 m 2 Ac 1 k z z z z z) fun a k=>sv k z (r_fa fa86_0 k z z) fun a k=>sv k z (r_ldb t13 m 1 Ab 0 k z z z z z) fun a k=>pN 1 k z fun a k=>sv k z (r_fa fa33_0 k z z) fun a k=>sv k z (r_ldb t13 m 0 Ak 0 k z z z z z) fun a k=>pN 2 k z fun a k=>bsplit (decide ((w64 (Aa.fX + b2.fW)) ≤ p1.fW)) (fun Ai=>?_) (fun Ai=>?_))
   · have h:=bif_t Ai h
     refine rB k 49 z Ai fun k=>sv k z (r_fa fa89_2 k z z) fun a k=>sv k z (r_ldb t13 m 2 Ac 2 k z z z z z) fun a k=>sv k z (r_fa fa86_1 k z z) fun a k=>sv k z (r_ldb t13 m 1 Ab 1 k z z z z z) fun a k=>pN 1 k z fun a k=>sv k z (r_fa fa33_1 k z z) fun a k=>sv k z (r_ldb t13 m 0 Ak 1 k z z z z z) fun a k=>pN 3 k z fun a k=>bsplit (decide ((w64 (Aa.fY + b2.fD)) ≤ p1.fD)) (fun Ad=>?_) (fun Ad=>?_)
     · have h:=bif_t Ad h
       refine rB k 59 z Ad fun k=>sv k z (r_fa fa89_3 k z z) fun a k=>sv k z (r_ldb t13 m 2 Ac 3 k z z z z z) fun a k=>sv k z (r_fa fa86_2 k z z) fun a k=>sv k z (r_ldb t13 m 1 Ab 2 k z z z z z) fun a k=>pN 1 k z fun a k=>sv k z (r_fa fa33_2 k z z) fun a k=>sv k z (r_ldb t13 m 0 Ak 2 k z z z z z) fun a k=>pN 3 k z fun a k=>?_
       have k:=k.keep [6] z
       refine nn (wp_ret (fS h k m z z))
     have h:=bif_f Ad h
     refine rB k 59 z Ad fun k=>pN 10 k z fun a k=>?_
     have k:=k.keep [6] z
     refine nn (wp_ret (fS h k m z z))
   have h:=bif_f Ai h
   refine rB k 49 z Ai fun k=>pN 20 k z fun a k=>?_
   have k:=k.keep [6] z
   refine nn (wp_ret (fS h k m z z))
 refine wr (sv k z (r_fa fa89_1 k z z) fun a k=>sv k z (r_ldb t13 m 0 Ac 1 k z z z z z) fun a k=>oE h fun Ar As h=>cE k m call153 z z z (c_impl_isPlace fu _  As) fun Bb e a k m=>pN 2 k z fun a k=>bsplit (!Ar) (fun Ah=>?_) (fun Ah=>?_))
 · have h:=bif_t Ah h
   refine rB k 11 z Ah fun k=>pN 29 k z fun a k=>?_
   have k:=k.keep [3,4,5,40] z
   refine nn (wp_cond_true (k.ev z) (wr (pN 1 k z fun a k=>nn (wp_ret (rt_then ?_)))))
   refine fS h k m z z
 have h:=bif_f Ah h
 refine rB k 11 z Ah fun k=>sv k z (r_fa fa89_2 k z z) fun a k=>sv k z (r_ldb t13 m 0 Ac 2 k z z z z z) fun a k=>oE h fun Av At h=>cE k m call153 z z z (c_impl_isPlace fu _  At) fun Bg e a k m=>pN 3 k z fun a k=>bsplit (!Av) (fun Ag=>?_) (fun Ag=>?_)
 · have h:=bif_t Ag h
   refine rB k 17 z Ag fun k=>pN 23 k z fun a k=>?_
   have k:=k.keep [3,4,5,40] z
   refine nn (wp_cond_true (k.ev z) (wr (pN 1 k z fun a k=>nn (wp_ret (rt_then ?_)))))
   refine fS h k m z z
 have h:=bif_f Ag h
 refine rB k 17 z Ag fun k=>sv k z (r_fa fa89_3 k z z) fun a k=>sv k z (r_ldb t13 m 0 Ac 3 k z z z z z) fun a k=>oE h fun Au Az h=>cE k m call153 z z z (c_impl_isPlace fu _  Az) fun Bd e a k m=>pN 3 k z fun a k=>bsplit (!Au) (fun Ae=>?_) (fun Ae=>?_)
 · have h:=bif_t Ae h
   refine rB k 23 z Ae fun k=>pN 17 k z fun a k=>?_
   have k:=k.keep [3,4,5,40] z
   refine nn (wp_cond_true (k.ev z) (wr (pN 1 k z fun a k=>nn (wp_ret (rt_then ?_)))))
   refine fS h k m z z
 have h:=bif_f Ae h
 refine rB k 23 z Ae fun k=>sv k z (r_fa fa86_0 k z z) fun a k=>sv k z (r_ldb t13 m 1 Ab 0 k z z z z z) fun a k=>oE h fun Ay Aw h=>cE k m call154 z z z (c_impl_isSide fu _  Aw) fun Bc e a k m=>pN 3 k z fun a k=>bsplit (!Ay) (fun Af=>?_) (fun Af=>?_)
 · have h:=bif_t Af h
   refine rB k 29 z Af fun k=>pN 11 k z fun a k=>?_
   have k:=k.keep [3,4,5,40] z
   refine nn (wp_cond_true (k.ev z) (wr (pN 1 k z fun a k=>nn (wp_ret (rt_then ?_)))))
   refine fS h k m z z
 have h:=bif_f Af h
 refine rB k 29 z Af fun k=>sv k z (r_fa fa86_1 k z z) fun a k=>sv k z (r_ldb t13 m 1 Ab 1 k z z z z z) fun a k=>oE h fun Am Ap h=>cE k m call154 z z z (c_impl_isSide fu _  Ap) fun Ba e a k m=>pN 3 k z fun a k=>bsplit (!Am) (fun Aj=>?_) (fun Aj=>?_)
 · have h:=bif_t Aj h
   refine rB k 35 z Aj fun k=>pN 5 k z fun a k=>?_
   have k:=k.keep [3,4,5,40] z
   refine nn (wp_cond_true (k.ev z) (wr (pN 1 k z fun a k=>nn (wp_ret (rt_then ?_)))))
   refine fS h k m z z
 have h:=bif_f Aj h
 refine rB k 35 z Aj fun k=>sv k z (r_fa fa86_2 k z z) fun a k=>sv k z (r_ldb t13 m 1 Ab 2 k z z z z z) fun a k=>oE h fun Bh Ao h=>cE k m call154 z z z (c_impl_isSide fu _  Ao) fun Bf e a k m=>pN 2 k z fun a k=>?_
 have k:=k.keep [3,4,5,40] z
 refine nn (cI h k z (fun Ax h=>?_) fun Ax h=>?_)
 · refine wr (pN 1 k z fun a k=>nn (wp_ret (rt_then ?_)))
   refine fS h k m z z
 refine wp_skip (nm_then ?_)
 exact ⟨k.keep [3,4,5] z,m.sel [2,1,0] z (by decide),h⟩

end Go.Proofs.YtkkfmjpbiimkbaaGreat
