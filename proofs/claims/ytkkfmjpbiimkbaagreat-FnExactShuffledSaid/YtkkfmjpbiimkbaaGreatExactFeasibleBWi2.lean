/- FnExactFeasible: the walks of functions that it reaches (ExactFeasibleBWi,part 2). Printed by gen.py. -/
import Derived.Test.YtkkfmjpbiimkbaaGreatExactFeasibleBWi1
set_option maxRecDepth 20000
set_option linter.unusedSimpArgs false
set_option linter.unusedVariables false
namespace Go.Proofs.YtkkfmjpbiimkbaaGreat
open Go Go.RowKit
open Enc (rd ow)
open Arg (argv)
open Ret (retv)
open Go.Proofs.Tryz

theorem c_bits_Mul32 (fu:Nat) {w0:World} (x1:Int) (y2:Int)  {r:Int × Int}
    (h:d_bits_Mul32 fu x1 y2 = some r) :
    Calls Tryz.prog 318 #[.int .u32 (x1),.int .u32 (y2)] w0 fun e w=>e = .returned (.tuple #[.int .u32 (r.1),.int .u32 (r.2)]) ∧ Ext [] w0 w:=by
 refine enter (vs:=[_,_]) func318 z ntmps318 z fun a k=>?_
 have m:=St.start w0
 unfold d_bits_Mul32 at h
 refine wr (pN 2 k z fun a k=>nn (wr (pN 1 k z fun a k=>sv k z (r_cv k underlying242 underlying244 z z) fun a k=>pN 1 k z fun a k=>sv k z (r_cv k underlying242 underlying244 z z) fun a k=>pN 2 k z fun a k=>nn (wr (pN 1 k z fun a k=>sv k z (r_shr (y:=32) k z z z) fun a k=>sv k z (r_cv k underlying244 underlying242 z z) fun a k=>pN 1 k z fun a k=>sv k z (r_cv k underlying244 underlying242 z z) fun a k=>pN 2 k z fun a k=>nn (wp_ret ?_))))))
 cases h
 exact finR2 k z (RV.tmp k z) (RV.tmp k z) ⟨z,m.ext⟩
theorem c_bits_Mul64 (fu:Nat) {w0:World} (x1:Int) (y2:Int)  {r:Int × Int}
    (h:d_bits_Mul64 fu x1 y2 = some r) :
    Calls Tryz.prog 319 #[.int .u64 (x1),.int .u64 (y2)] w0 fun e w=>e = .returned (.tuple #[.int .u64 (r.1),.int .u64 (r.2)]) ∧ Ext [] w0 w:=by
 refine enter (vs:=[_,_]) func319 z ntmps319 z fun a k=>?_
 have m:=St.start w0
 unfold d_bits_Mul64 at h
 refine wr (pN 2 k z fun a k=>nn (wr (pN 3 k z fun a k=>nn (wr (pN 1 k z fun a k=>sv k z (r_shr (y:=32) k z z z) fun a k=>pN 1 k z fun a k=>nn (wr (pN 3 k z fun a k=>nn (wr (pN 1 k z fun a k=>sv k z (r_shr (y:=32) k z z z) fun a k=>pN 1 k z fun a k=>nn (wr (pN 4 k z fun a k=>nn (wr (pN 4 k z fun a k=>sv k z (r_shr (y:=32) k z z z) fun a k=>pN 2 k z fun a k=>?_)))))))))))))
 have k:=k.keep [0,1,6,7,9,11] z
 refine nn (wr (pN 3 k z fun a k=>nn (wr (pN 1 k z fun a k=>sv k z (r_shr (y:=32) k z z z) fun a k=>pN 1 k z fun a k=>nn (wr (pN 6 k z fun a k=>nn (wr (pN 6 k z fun a k=>sv k z (r_shr (y:=32) k z z z) fun a k=>pN 2 k z fun a k=>?_))))))))
 have k:=k.keep [0,1,4] z
 refine nn (wr (pN 4 k z fun a k=>nn (wp_ret ?_)))
 cases h
 exact finR2 k z (RV.tmp k z) (RV.tmp k z) ⟨z,m.ext⟩
theorem c_bits_Mul (fu:Nat) {w0:World} (x1:Int) (y2:Int)  {r:Int × Int}
    (h:d_bits_Mul fu x1 y2 = some r) :
    Calls Tryz.prog 288 #[.int .u64 (x1),.int .u64 (y2)] w0 fun e w=>e = .returned (.tuple #[.int .u64 (r.1),.int .u64 (r.2)]) ∧ Ext [] w0 w:=by
 refine enter (vs:=[_,_]) func288 z ntmps288 z fun a k=>?_
 have m:=St.start w0
 unfold d_bits_Mul at h
 refine wr (pN 2 k z fun a k=>nn (wp_seq (wp_cond_false (k.ev z) (wp_skip (nm_then ?_)))))
 refine wr (pN 2 k z fun a k=>oE h fun x3 Aa h=>cE k m call319 z z z (c_bits_Mul64 fu _ _  Aa) fun w6 e a k m=>pN 5 k z fun a k=>nn (wr (pN 4 k z fun a k=>nn (wp_ret ?_))))
 cases h
 exact finR2 k z (RV.tmp k z) (RV.tmp k z) ⟨z,m.ext⟩
theorem c_slices_Repeat_int_int (fu:Nat) {w0:World} (x1:List Int) (Af:Int) {v2:Value} {F3:List Nat} (Ah:rd w0 F3 [v2] x1) {r:(List Int)}
    (h:d_slices_Repeat_int_int fu x1 Af = some r) :
    Calls Tryz.prog 225 #[v2,I Af] w0 fun e w=>∃ (v0:Value) (G0:List Nat),e = .returned (v0) ∧ Ext [] w0 w ∧ ow w G0 [v0] r ∧ (∀ b ∈ G0,w0.heap.size ≤ b):=by
 refine enter (vs:=[_,_]) func225 z ntmps225 z fun a k=>?_
 have m:=St.start w0
 unfold d_slices_Repeat_int_int at h
 refine wr (pN 1 k z fun a k=>nn (c_cut (fun a w=>K 48 [(0,v2),(1,I Af)] a ∧ St [] w0 w [] ∧ d_slices_Repeat_int_int_J2 fu x1 Af = some r) ?_ ?_))
 · rintro a w7 ⟨k,m,h⟩
   unfold d_slices_Repeat_int_int_J2 at h
   refine wr (pN 1 k z fun a k=>sv k z (r_len (α:=Int) Ah k underlying63 z z) fun a k=>sv k z (r_cv k underlying3 underlying204 z z) fun a k=>pN 1 k z fun a k=>sv k z (r_cv k underlying3 underlying204 z z) fun a k=>oE h fun x8 Ap h=>cE k m call288 z z z (c_bits_Mul fu _ _  Ap) fun Bk e a k m=>pN 5 k z fun a k=>nn (c_cut (fun a w=>K 48 [(0,v2),(6,.int .u64 (x8.2))] a ∧ St [] w0 w [] ∧ d_slices_Repeat_int_int_J1 fu x1 x8 = some r) ?_ ?_))
   · rintro a Bf ⟨k,m,h⟩
     unfold d_slices_Repeat_int_int_J1 at h
     refine wr (pN 1 k z fun a k=>sv k z (r_cv k underlying204 underlying3 z z) fun a k=>oE h fun Aj Aw h=>s_mk Aw te63 z z m k z z z z z z fun Al Bi a Be k m e As=>pN 1 k z fun a k=>nn (wr (pN 2 k z fun a k=>s_cp (lo:=0) te63 m 0 As (Part.self _) (Enc.rd_agr Ah (m.a00 (Enc.rd_lt Ah))) k z z z z z z z fun Ar a k e m Am=>pN 1 k z fun a k=>nn (wp_seq (wp_block (c_loop (fun n a w=>∃ (Ad:List Int) (Ag:Value) (Aa:List Nat) (Ai:World) (Ab:Int),K 48 [(7,Ag),(8,I Ab)] a ∧ St [] w0 w [(Aa,Ai)] ∧ ow Ai Aa [Ag] Ad ∧ d_slices_Repeat_int_int_L1 fu  n Ad Ab = some r) ?_ ?_ fu _ _ ?_))))))
     · rintro a w ⟨_,_,_,_,_,_,_,_,h⟩
       exact nS h
     · rintro Bn a Bl ⟨Ad,Ag,Aa,Ai,Ab,k,m,Ac,h⟩
       rw [d_slices_Repeat_int_int_L1_s] at h
       unfold d_slices_Repeat_int_int_L1_B at h
       refine wp_seq (wr (pN 2 k z fun a k=>sv k z (r_len (α:=Int) (Enc.ow_rd Ac) k underlying63 z z) fun a k=>pN 1 k z fun a k=>nn (cI h k z (fun Au h=>?_) fun Au h=>?_)))
       · refine wp_skip (nm_then ?_)
         refine wp_block (d_go (Aa) mixo m z fun Bb hMd=>?_)
         have m:=hMd
         have s:=Ext.refl ((Aa):List Nat) Bb
         refine dN [0,1,2,4,5] 5 z k (by kernel_rfl) z s (fun _ _ _ _ _=>id) fun a k=>oE h fun Bj Ay h=>?_
         obtain ⟨Bg,Bh,At,Aq⟩:=sl_from (Enc.ow_rd Ac) Ay ts63
         refine dt k 3 z (by kernel_rfl) z s (fun _ _ _=>id) (fun w s=>Aq k z z z _) fun a k=>oE h fun Ak Av h=>?_
         obtain ⟨Bm,Bd,Az⟩:=sl_to (Enc.ow_rd Ac) Av ts63
         refine dt k 6 z (by kernel_rfl) z s (fun _ _ _=>id) (fun w s=>Az k z z z _) fun a k=>d_one 7 (by kernel_rfl) z (s_cp (lo:=Ab) te63 m 0 Ac At (Enc.rd_agr Bd (m.a 0 z)) k z z z z z z z fun Ao a k e m Ax=>?_)
         have s:=s.trans e (fun y hy=>Or.inl hy)
         refine wpList_nil ⟨s,?_⟩
         refine dN [8,9] 2 z k (by kernel_rfl) z s (fun _ _ _ _ _=>id) fun a k=>d_done (by kernel_rfl) ((nm_block (nm_then ?_)))
         exact ⟨cpd Ad Ab Ak,Ag,Aa,Ao,w64 (Ab + (cpn Ad Ab Ak)),k.keep [7,8] z,m.sel [0] z (by decide),Ax,h⟩
       refine wp_exit (ex_then (ex_then (ex_same (nm_then ?_))))
       refine wr (pN 2 k z fun a k=>nn (wp_ret ?_))
       cases h
       exact finR1 k z (RV.tmp k z) ⟨_,Aa,z,m.ext,(Enc.ow_agr Ac (m.a 0 z)),(m.fresh 0 z)⟩
     exact ⟨cpd Aj 0 x1,Be,[Al],Ar,cpn Aj 0 x1,k.keep [7,8] z,m.sel [0] z (by decide),Am,h⟩
   refine wr (pN 3 k z fun a k=>bsplit (decide (x8.1 > 0)) (fun Ae=>?_) (fun Ae=>?_))
   · have h:=bif_t Ae h
     refine rB k 23 z Ae fun k=>pN 3 k z fun a k=>nn (wp_cond_true (k.ev z) ?_)
     exact nS h
   have h:=bif_f Ae h
   refine rB k 23 z Ae fun k=>pN 3 k z fun a k=>nn (cI h k z (fun Bc h=>?_) fun Bc h=>?_)
   · exact nS h
   refine wp_skip (nm_then ?_)
   exact ⟨k.keep [0,6] z,m.sel [] z (by decide),h⟩
 refine wr (pN 2 k z fun a k=>nn (cI h k z (fun Ba h=>?_) fun Ba h=>?_))
 · exact nS h
 refine wp_skip (nm_then ?_)
 exact ⟨k.keep [0,1] z,m.sel [] z (by decide),h⟩
theorem c_impl_Units (fu:Nat) {w0:World} (r1:Request) {Am:List Value} {F3:List Nat} (At:rd w0 F3 Am r1) {r:(List Int)}
    (h:d_impl_Units fu r1 = some r) :
    Calls Tryz.prog 123 #[.agg Am.toArray] w0 fun e w=>∃ (v0:Value) (G0:List Nat),e = .returned (v0) ∧ Ext [] w0 w ∧ ow w G0 [v0] r ∧ (∀ b ∈ G0,w0.heap.size ≤ b):=by
 refine enter (vs:=[_]) func123 z ntmps123 z fun a k=>?_
 have m:=St.start w0
 obtain ⟨v5,F6,v7,F8,v9,Bs,rfl,rfl,Ai,Ao,Ab⟩:=At
 unfold d_impl_Units at h
 refine wr (s_box (cs:=[I r1.fWay,I r1.fPallet.fW,I r1.fPallet.fD,I r1.fPallet.fH,I r1.fPallet.fGram,I r1.fClasses,v5,v7,I r1.fMaster,v9]) m k z z z z z z fun Bn Bx a k m e Ak=>pN 1 k z fun a k=>nn (wp_seq (wr (sv k z (r_ldB ta38 m 0 Ak 0 k z z z z z z) fun a k=>oE h fun Bo Ax h=>?_))))
 refine cE k m call115 z z z (c_impl_sound fu _ (show rd _ _ [I r1.fWay,I r1.fPallet.fW,I r1.fPallet.fD,I r1.fPallet.fH,I r1.fPallet.fGram,I r1.fClasses,v5,v7,I r1.fMaster,v9] (r1:Request) from ⟨_,_,_,_,_,_,z,z,(Enc.rd_agr Ai (m.a00 (Enc.rd_lt Ai))),(Enc.rd_agr Ao (m.a00 (Enc.rd_lt Ao))),(Enc.rd_agr Ab (m.a00 (Enc.rd_lt Ab)))⟩) Ax) fun Bl e a k m=>pN 1 k z fun a k=>nn (cI h k z (fun Bi h=>?_) fun Bi h=>?_)
 · refine wr (pN 1 k z fun a k=>nn (wp_ret (rt_then ?_)))
   cases h
   exact finR1 k z (RV.tmp k z) ⟨_,[],z,m.ext,(ow_nil _),(by simp)⟩
 refine wp_skip (nm_then ?_)
 refine wr (s_bs (cs:=[]) (ps:=[]) te63 m k z z z z z z z (by decide) z (by exact (List.forall_mem_nil _)) fun Aj Ay Bw a k m e Av=>?_)
 have Bc:=ow_bx Av ([]:List Int) z z z
 refine pN 1 k z fun a k=>nn (wp_seq (wr (sv k z (r_fa fa38_6 k z z) fun a k=>sv k z (r_ldb t136 m 1 Ak 9 k z z z z z) fun a k=>sv k z (r_len (α:=Item) Ab k underlying36 z z) fun a k=>pN 1 k z fun a k=>nn (wp_block (c_loop (fun n a w=>∃ (Ag:List Int) (Ae:Value) (Ad:List Nat) (Af:World) (Ac:Int),K 27 [(3,Ae),(11,v9),(12,I ((r1.fItems.length:Int))),(13,I Ac)] a ∧ St [] w0 w [(Ad,Af)] ∧ ow Af Ad [Ae] Ag ∧ d_impl_Units_L1 fu r1 n Ag Ac = some r) ?_ ?_ fu _ _ ?_)))))
 · rintro a w ⟨_,_,_,_,_,_,_,_,h⟩
   exact nS h
 · rintro Bk a Cb ⟨Ag,Ae,Ad,Af,Ac,k,m,Al,h⟩
   rw [d_impl_Units_L1_s] at h
   unfold d_impl_Units_L1_B at h
   refine wr (pN 1 k z fun a k=>nn (wp_seq (cI h k z (fun Bg h=>?_) fun Bg h=>?_)))
   · refine wp_skip (nm_then ?_)
     refine wp_seq (wp_block (wr (pN 1 k z fun a k=>oE h fun Aa Ap h=>sv k z (r_ixa Ab Ap k ts36 z z z) fun a k=>sv k z (r_lde Ab (m.a00 (Enc.rd_lt Ab)) Ap ta158 k z z) fun a k=>s_alloc (cs:=[I 0,I 0,I 0,I 0,I 0,I 0,I 0]) m k zeroValue158 z z z z z fun Bp Bq a k m e Ba=>pN 1 k z fun a k=>s_stb (cs':=[I Aa.fId,I Aa.fW,I Aa.fH,I Aa.fD,I Aa.fGram,I Aa.fClass,I Aa.fCount]) sizeOf158 m 0 Ba 0 k z z z z z z z z z z z fun Bm a k e m As=>nn (wp_region_lit (pN 2 k z fun a k=>?_)))))
     refine s_bs (cs:=[I Ac]) (ps:=[(0,.tmp 19)]) te63 m k z z z z z z z (by decide) z (by exact (List.forall_mem_cons.2 ⟨z,(List.forall_mem_nil _)⟩)) fun By Bz Br a k m e Az=>?_
     have Bb:=ow_bx Az ([Ac]:List Int) z z z
     refine sv k z (r_fa fa158_6 k z z) fun a k=>sv k z (r_ldb t13 m 1 As 6 k z z z z z) fun a k=>oE h fun Bt Bh h=>s_call k call225 z z z z z (c_slices_Repeat_int_int fu _ _ (Enc.rd_agr (Enc.ow_rd Bb) (m.a 0 z)) Bh) fun Bu Bv hR=>?_
     obtain ⟨Ca,Aq,rfl,e,Ah,Bf⟩:=hR
     refine ⟨_,z,fun a k=>?_⟩
     have m:=m.new e Aq (fun b hb=>⟨Bf b hb,Enc.rd_lt (Enc.ow_rd Ah) b hb⟩) (Enc.ow_nd Ah)
     refine oE h fun Be Bd h=>s_appF Bd te63 z m 3 Al (News.rd (Enc.rd_agr (Enc.ow_rd Ah) (m.a 0 z))) z z k z z z z z z z fun Au Aw Ar a k e m Bj=>pN 1 k z fun a k=>wpList_nil (nm_block (nm_then ?_))
     refine wp_region_lit (pN 2 k z fun a k=>nn ?_)
     exact ⟨Be,Au,Aw,Ar,w64 (Ac + 1),k.keep [3,11,12,13] z,m.sel [3] z (by decide),Bj,h⟩
   refine wp_exit (ex_then (ex_then (ex_same (nm_then ?_))))
   refine wr (pN 2 k z fun a k=>nn (wp_ret ?_))
   cases h
   exact finR1 k z (RV.tmp k z) ⟨_,Ad,z,m.ext,(Enc.ow_agr Al (m.a 0 z)),(m.fresh 0 z)⟩
 exact ⟨([]:List Int),(.slice (some ⟨Aj,0,none⟩) 0 0),[Aj],Ay,0,k.keep [3,11,12,13] z,m.sel [0] z (by decide),Bc,h⟩
theorem c_impl_places (fu:Nat) {w0:World} (n1:Int)  {r:(List Int)}
    (h:d_impl_places fu n1 = some r) :
    Calls Tryz.prog 122 #[I n1] w0 fun e w=>∃ (v0:Value) (G0:List Nat),e = .returned (v0) ∧ Ext [] w0 w ∧ ow w G0 [v0] r ∧ (∀ b ∈ G0,w0.heap.size ≤ b):=by
 refine enter (vs:=[_]) func122 z ntmps122 z fun a k=>?_
 have m:=St.start w0
 unfold d_impl_places at h
 refine wr (pN 1 k z fun a k=>nn (wr (s_bs (cs:=[]) (ps:=[]) te63 m k z z z z z z z (by decide) z (by exact (List.forall_mem_nil _)) fun g2 w3 e5 a k m e Ag=>?_)))
 have Aq:=ow_bx Ag ([]:List Int) z z z
 refine pN 1 k z fun a k=>nn (wp_seq (wr (pN 2 k z fun a k=>nn (wp_block (c_loop (fun n a w=>∃ (Ac:List Int) (Ae:Value) (Ab:List Nat) (Ad:World) (Aa:Int),K 16 [(3,Ae),(6,I n1),(7,I Aa)] a ∧ St [] w0 w [(Ab,Ad)] ∧ ow Ad Ab [Ae] Ac ∧ d_impl_places_L1 fu n1 n Ac Aa = some r) ?_ ?_ fu _ _ ?_)))))
 · rintro a w ⟨_,_,_,_,_,_,_,_,h⟩
   exact nS h
 · rintro As a At ⟨Ac,Ae,Ab,Ad,Aa,k,m,Af,h⟩
   rw [d_impl_places_L1_s] at h
   unfold d_impl_places_L1_B at h
   refine wr (pN 1 k z fun a k=>nn (wp_seq (cI h k z (fun Ao h=>?_) fun Ao h=>?_)))
   · refine wp_skip (nm_then ?_)
     refine wp_seq (wp_block (wr (pN 2 k z fun a k=>nn (wp_region_lit (pN 2 k z fun a k=>s_bs (cs:=[I Aa]) (ps:=[(0,.tmp 11)]) te63 m k z z z z z z z (by decide) z (by exact (List.forall_mem_cons.2 ⟨z,(List.forall_mem_nil _)⟩)) fun Av Au Aw a k m e Aj=>?_)))))
     have Ap:=ow_bx Aj ([Aa]:List Int) z z z
     refine oE h fun Ar Ak h=>s_appF Ak te63 z m 1 Af (News.rd (Enc.rd_agr (Enc.ow_rd Ap) (m.a 0 z))) z z k z z z z z z z fun Al Ah Am a k e m Ai=>pN 1 k z fun a k=>wpList_nil (nm_block (nm_then ?_))
     refine wp_region_lit (pN 2 k z fun a k=>nn ?_)
     exact ⟨Ar,Al,Ah,Am,w64 (Aa + 1),k.keep [3,6,7] z,m.sel [1] z (by decide),Ai,h⟩
   refine wp_exit (ex_then (ex_then (ex_same (nm_then ?_))))
   refine wr (pN 2 k z fun a k=>nn (wp_ret ?_))
   cases h
   exact finR1 k z (RV.tmp k z) ⟨_,Ab,z,m.ext,(Enc.ow_agr Af (m.a 0 z)),(m.fresh 0 z)⟩
 exact ⟨([]:List Int),(.slice (some ⟨g2,0,none⟩) 0 0),[g2],w3,0,k.keep [3,6,7] z,m.sel [0] z (by decide),Aq,h⟩
theorem c_slices_Equal_int_int (fu:Nat) {w0:World} (Ad:List Int) (Ae:List Int) {v2:Value} {F3:List Nat} (Aa:rd w0 F3 [v2] Ad) {v6:Value} {F7:List Nat} (Ac:rd w0 F7 [v6] Ae) {r:Bool}
    (h:d_slices_Equal_int_int fu Ad Ae = some r) :
    Calls Tryz.prog 121 #[v2,v6] w0 fun e w=>e = .returned (.bool (r)) ∧ Ext [] w0 w:=by
 refine enter (vs:=[_,_]) func121 z ntmps121 z fun a k=>?_
 have m:=St.start w0
 unfold d_slices_Equal_int_int at h
 refine wr (pN 1 k z fun a k=>nn (wp_seq (wr (pN 1 k z fun a k=>sv k z (r_len (α:=Int) Aa k underlying63 z z) fun a k=>pN 1 k z fun a k=>sv k z (r_len (α:=Int) Ac k underlying63 z z) fun a k=>pN 1 k z fun a k=>nn (cI h k z (fun Ah h=>?_) fun Ah h=>?_)))))
 · refine wr (pN 1 k z fun a k=>nn (wp_ret (rt_then ?_)))
   refine fS h k m z z
 refine wp_skip (nm_then ?_)
 refine wp_seq (wr (pN 1 k z fun a k=>sv k z (r_len (α:=Int) Aa k underlying63 z z) fun a k=>pN 1 k z fun a k=>nn (wp_block (c_loop (fun n a w=>∃ (Ab:Int),K 26 [(0,v2),(1,v6),(12,I ((Ad.length:Int))),(13,I Ab)] a ∧ St [] w0 w [] ∧ d_slices_Equal_int_int_L1 fu Ad Ae n Ab = some r) ?_ ?_ fu _ _ ?_))))
 · rintro a w ⟨_,_,_,h⟩
   exact nS h
 · rintro Ao a Ap ⟨Ab,k,m,h⟩
   rw [d_slices_Equal_int_int_L1_s] at h
   unfold d_slices_Equal_int_int_L1_B at h
   refine wr (pN 1 k z fun a k=>nn (wp_seq (cI h k z (fun Aj h=>?_) fun Aj h=>?_)))
   · refine wp_skip (nm_then ?_)
     refine wp_seq (wp_block (wr (pN 2 k z fun a k=>nn (wp_seq (d_go [] mixo m z fun Ak hMd=>?_)))))
     have m:=hMd
     have s:=Ext.refl ([]:List Nat) Ak
     refine dN [0,1,4,5] 4 z k (by kernel_rfl) z s (fun _ _ _ _ _=>id) fun a k=>oE h fun Am Ag h=>dt k 2 z (by kernel_rfl) z s (fun _ _ _=>id) (fun w s=>r_ixa Aa Ag k ts63 z z z) fun a k=>dt k 3 z (by kernel_rfl) z s (fun _ _ _=>id) (fun w s=>r_lde1 Aa ((hMd.step s).a00 (Enc.rd_lt Aa)) Ag 0 t13 k z z z z) fun a k=>oE h fun Al Af h=>dt k 6 z (by kernel_rfl) z s (fun _ _ _=>id) (fun w s=>r_ixa Ac Af k ts63 z z z) fun a k=>dt k 7 z (by kernel_rfl) z s (fun _ _ _=>id) (fun w s=>r_lde1 Ac ((hMd.step s).a00 (Enc.rd_lt Ac)) Af 0 t13 k z z z z) fun a k=>dN [8] 1 z k (by kernel_rfl) z s (fun _ _ _ _ _=>id) fun a k=>d_done (by kernel_rfl) ((nm_then ?_))
     refine cI h k z (fun Ai h=>?_) fun Ai h=>?_
     · refine wr (pN 1 k z fun a k=>nn (wp_ret (rt_block (rt_then (rt_then (rt_block (rt_then ?_)))))))
       refine fS h k m z z
     refine wp_skip (nm_block (nm_then ?_))
     refine wp_region_lit (pN 2 k z fun a k=>nn ?_)
     exact ⟨w64 (Ab + 1),k.keep [0,1,12,13] z,m.sel [] z (by decide),h⟩
   refine wp_exit (ex_then (ex_then (ex_same (nm_then ?_))))
   refine wr (pN 1 k z fun a k=>nn (wp_ret (fS h k m z z)))
 exact ⟨0,k.keep [0,1,12,13] z,m.sel [] z (by decide),h⟩
theorem c_slices_Clone_int_int (fu:Nat) {w0:World} (Ac:List Int) {v2:Value} {F3:List Nat} (Aa:rd w0 F3 [v2] Ac) {r:(List Int)}
    (h:d_slices_Clone_int_int fu Ac = some r) :
    Calls Tryz.prog 133 #[v2] w0 fun e w=>∃ (v0:Value) (G0:List Nat),e = .returned (v0) ∧ Ext [] w0 w ∧ ow w G0 [v0] r ∧ (∀ b ∈ G0,w0.heap.size ≤ b):=by
 refine enter (vs:=[_]) func133 z ntmps133 z fun a k=>?_
 have m:=St.start w0
 unfold d_slices_Clone_int_int at h
 refine wr (pN 1 k z fun a k=>nn (wp_seq (wr (pN 1 k z fun a k=>?_))))
 obtain ⟨Ad,Ak,Ah⟩:=r_nilq Aa
 refine sv k z (Ah k underlying63 z z z) fun a k=>nn (c_cond (b:=Ad) k z (fun Ab=>?_) (fun Ab=>?_))
 · have Ai:=Ak Ab
   rw [Ai] at h
   have h:some (([]:List Int)) = some r:=h
   refine wr (pN 1 k z fun a k=>nn (wp_ret (rt_then ?_)))
   cases h
   exact finR1 k z (RV.tmp k z) ⟨_,[],z,m.ext,(ow_nil _),(by simp)⟩
 refine wp_skip (nm_then ?_)
 refine wr (s_bs (cs:=[]) (ps:=[]) te63 m k z z z z z z z (by decide) z (by exact (List.forall_mem_nil _)) fun Ap As Ar a k m e Al=>?_)
 have Af:=ow_bx Al ([]:List Int) z z z
 refine pN 1 k z fun a k=>oE h fun Aq Ag h=>s_appF Ag te63 z m 0 Af (News.rd (Enc.rd_agr Aa (m.a00 (Enc.rd_lt Aa)))) z z k z z z z z z z fun Am Aj Ao a k e m Ae=>pN 1 k z fun a k=>nn (wp_ret ?_)
 cases h
 exact finR1 k z (RV.tmp k z) ⟨_,Aj,z,m.ext,(Enc.ow_agr Ae (m.a 0 z)),(m.fresh 0 z)⟩
theorem c_impl_thereOf_1 (fu:Nat) {w0:World} (u1:Int) (x2:Int) {b3:Nat} (Aa:bx w0 b3 [I x2] 3) {r:Bool}
    (h:d_impl_thereOf_1 fu u1 x2 = some r) :
    Calls Tryz.prog 238 #[I u1,.pointer (some (⟨b3,0,none⟩:Addr))] w0 fun e w=>e = .returned (.bool (r)) ∧ Ext [] w0 w:=by
 refine enter (vs:=[_,_]) func238 z ntmps238 z fun a k=>?_
 have m:=St.start w0
 unfold d_impl_thereOf_1 at h
 refine wr (pN 1 k z fun a k=>nn (wr (pN 1 k z fun a k=>sv k z (r_ld1 t13 (r:=[]) (Aa.at (m.a00 Aa.lt1) 0 1 z z z) k z z) fun a k=>pN 1 k z fun a k=>oE h fun x5 Ab h=>cE k m call139 z z z (c_impl_in fu _ _ _  Ab) fun w9 e a k m=>pN 2 k z fun a k=>nn (wp_ret (fS h k m z z)))))
theorem c_slices_IndexFunc_int_int (fu:Nat) {w0:World} (Ab:List Int) (f5:Int → Option Bool) {v2:Value} {F3:List Nat} (Ac:rd w0 F3 [v2] Ab) {v6:Value} (Ak:FnOk1 Tryz.prog w0 v6 f5) {r:Int}
    (h:d_slices_IndexFunc_int_int fu Ab f5 = some r) :
    Calls Tryz.prog 241 #[v2,v6] w0 fun e w=>e = .returned (I r) ∧ Ext [] w0 w:=by
 refine enter (vs:=[_,_]) func241 z ntmps241 z fun a k=>?_
 have m:=St.start w0
 obtain ⟨Aj,Ag,rfl,Ae,Ai⟩:=Ak
 unfold d_slices_IndexFunc_int_int at h
 refine wr (pN 1 k z fun a k=>nn (wp_seq (wr (pN 1 k z fun a k=>sv k z (r_len (α:=Int) Ac k underlying63 z z) fun a k=>pN 1 k z fun a k=>nn (wp_block (c_loop (fun n a w=>∃ (Aa:Int),K 19 [(0,v2),(1,(.func (.func Aj) #[] Ag.toArray)),(7,I ((Ab.length:Int))),(8,I Aa)] a ∧ St [] w0 w [] ∧ d_slices_IndexFunc_int_int_L1 fu Ab f5 n Aa = some r) ?_ ?_ fu _ _ ?_))))))
 · rintro a w ⟨_,_,_,h⟩
   exact nS h
 · rintro Ar a As ⟨Aa,k,m,h⟩
   rw [d_slices_IndexFunc_int_int_L1_s] at h
   unfold d_slices_IndexFunc_int_int_L1_B at h
   refine wr (pN 1 k z fun a k=>nn (wp_seq (cI h k z (fun Af h=>?_) fun Af h=>?_)))
   · refine wp_skip (nm_then ?_)
     refine wp_seq (wp_block (wr (pN 2 k z fun a k=>nn (wr (pN 3 k z fun a k=>oE h fun Ap Ad h=>sv k z (r_ixa Ac Ad k ts63 z z z) fun a k=>sv k z (r_lde1 Ac (m.a00 (Enc.rd_lt Ac)) Ad 0 t13 k z z z z) fun a k=>oE h fun Aq Al h=>s_callv k Ae z z z z z z (Ai _ _ _ _ m.ext z Al) fun Ao Am hR=>?_)))))
     obtain ⟨rfl,e⟩:=hR
     refine ⟨_,z,fun a k=>?_⟩
     have m:=m.step e
     refine nn (cI h k z (fun Ah h=>?_) fun Ah h=>?_)
     · refine wr (pN 2 k z fun a k=>nn (wp_ret (rt_block (rt_then (rt_then (rt_block (rt_then ?_)))))))
       refine fS h k m z z
     refine wp_skip (nm_block (nm_then ?_))
     refine wp_region_lit (pN 2 k z fun a k=>nn ?_)
     exact ⟨w64 (Aa + 1),k.keep [0,1,7,8] z,m.sel [] z (by decide),h⟩
   refine wp_exit (ex_then (ex_then (ex_same (nm_then ?_))))
   refine wr (pN 1 k z fun a k=>nn (wp_ret (fS h k m z z)))
 exact ⟨0,k.keep [0,1,7,8] z,m.sel [] z (by decide),h⟩
theorem c_slices_DeleteFunc_int_int (fu:Nat) {w0:World} (Aj:List Int) (f5:Int → Option Bool) {v2:Value} {F3:List Nat} (Ae:ow w0 F3 [v2] Aj) {v6:Value} (Bi:FnOkX1 F3 Tryz.prog w0 v6 f5) {r:(List Int)}
    (h:d_slices_DeleteFunc_int_int fu Aj f5 = some r) :
    Calls Tryz.prog 158 #[v2,v6] w0 fun e w=>∃ (v0:Value) (G0:List Nat),e = .returned (v0) ∧ Ext F3 w0 w ∧ ow w G0 [v0] r ∧ (∀ b ∈ G0,b ∈ F3 ∨ w0.heap.size ≤ b):=by
 refine enter (vs:=[_,_]) func158 z ntmps158 z fun a k=>?_
 have m:=St.start1 w0 (Enc.rd_lt (Enc.ow_rd Ae)) (Enc.ow_nd Ae)
 obtain ⟨Aq,Am,rfl,As,Ap⟩:=Bi
 unfold d_slices_DeleteFunc_int_int at h
 refine wr (pN 1 k z fun a k=>nn (wr (pN 2 k z fun a k=>oE h fun Ak Au h=>cE k m call241 z z z (c_slices_IndexFunc_int_int fu _ _ (Enc.rd_agr (Enc.ow_rd Ae) (m.a 0 z)) ⟨_,_,z,As,fun w At Az r e=>Ap w At Az r (m.ext.trans e (by simp))⟩ Au) fun Bs e a k m=>pN 1 k z fun a k=>nn (wp_seq (wr (pN 2 k z fun a k=>nn (cI h k z (fun Ba h=>?_) fun Ba h=>?_)))))))
 · refine wr (pN 2 k z fun a k=>nn (wp_ret (rt_then ?_)))
   cases h
   exact finR1 k z (RV.tmp k z) ⟨_,F3,z,m.ext,(Enc.ow_agr Ae (m.a 0 z)),(fun b hb=>m.lo b (mem_fps (i:=0) z hb))⟩
 refine wp_skip (nm_then ?_)
 refine wp_seq (wr (pN 3 k z fun a k=>nn (wp_block (c_loop (fun n a w=>∃ (Ad:List Int) (Af:World) (Ab:Int) (Ac:Int),K 42 [(0,v2),(1,(.func (.func Aq) #[] Am.toArray)),(5,I Ab),(6,I Ac)] a ∧ St F3 w0 w [(F3,Af)] ∧ ow Af F3 [v2] Ad ∧ d_slices_DeleteFunc_int_int_L1 fu f5 n Ad Ab Ac = some r) ?_ ?_ fu _ _ ?_))))
 · rintro a w ⟨_,_,_,_,_,_,_,h⟩
   exact nS h
 · rintro Be a Bl ⟨Ad,Af,Ab,Ac,k,m,Aa,h⟩
   rw [d_slices_DeleteFunc_int_int_L1_s] at h
   unfold d_slices_DeleteFunc_int_int_L1_B at h
   refine wp_seq (wr (pN 2 k z fun a k=>sv k z (r_len (α:=Int) (Enc.ow_rd Aa) k underlying63 z z) fun a k=>pN 1 k z fun a k=>nn (cI h k z (fun Bg h=>?_) fun Bg h=>?_)))
   · refine wp_skip (nm_then ?_)
     refine c_cut (fun a w=>∃ (Ag:List Int) (Ah:World) (Ai:Int),K 42 [(0,v2),(1,(.func (.func Aq) #[] Am.toArray)),(5,I Ai),(6,I Ac)] a ∧ St F3 w0 w [(F3,Ah)] ∧ ow Ah F3 [v2] Ag ∧ d_slices_DeleteFunc_int_int_J1 fu (d_slices_DeleteFunc_int_int_L1 fu f5 Be) Ac Ag Ai = some r) ?_ ?_
     · rintro a Bm ⟨Ag,Ah,Ai,k,m,Bb,h⟩
       unfold d_slices_DeleteFunc_int_int_J1 at h
       refine wp_region_lit (pN 3 k z fun a k=>nn ?_)
       exact ⟨Ag,Ah,Ai,w64 (Ac + 1),k.keep [0,1,5,6] z,m.sel [0] z (by decide),Bb,h⟩
     refine wp_block (wr (pN 2 k z fun a k=>oE h fun Ao Ar h=>sv k z (r_ixa (Enc.ow_rd Aa) Ar k ts63 z z z) fun a k=>sv k z (r_lde1 (Enc.ow_rd Aa) (m.a 0 z) Ar 0 t13 k z z z z) fun a k=>pN 1 k z fun a k=>nn (wr (pN 2 k z fun a k=>oE h fun Bk Av h=>s_callv k As z z z z z z (Ap _ _ _ _ m.ext z Av) fun Bw Bu hR=>?_))))
     obtain ⟨rfl,e⟩:=hR
     refine ⟨_,z,fun a k=>?_⟩
     have m:=m.step e
     refine pN 1 k z fun a k=>nn (cI h k z (fun Bj h=>?_) fun Bj h=>?_)
     · refine wr (pN 3 k z fun a k=>oE h fun Bp Al h=>sv k z (r_ixa (Enc.ow_rd Aa) Al k ts63 z z z) fun a k=>s_ste (α:=Int) (sz:=1) (y:=Ao) sizeOf3 Al m 0 Aa 0 k z z z z z z z z z z z z fun Aw a k e m Bf=>nn (wp_region_lit (pN 3 k z fun a k=>wpList_nil (nm_block (nm_then ?_)))))
       exact ⟨setx Ad Ab Ao,Aw,w64 (Ab + 1),k.keep [0,1,5,6] z,m.sel [0] z (by decide),Bf,h⟩
     refine wp_skip (nm_block (nm_then ?_))
     exact ⟨Ad,Af,Ab,k.keep [0,1,5,6] z,m.sel [0] z (by decide),Aa,h⟩
   refine wp_exit (ex_then (ex_then (ex_same (nm_then ?_))))
   refine wr (pN 2 k z fun a k=>oE h fun Bq Ax h=>s_slFromP (Enc.ow_rd Aa) Ax k ts63 z z z z z z fun Bt a k Br Bd=>s_clr (lo:=Ab) te63 m 0 Aa Bd k z z z z z fun Bn a k e m Ay=>nn (wr (pN 2 k z fun a k=>oE h fun Bv Bh h=>s_slToO Ay Bh k ts63 z z z z z z fun Bo a k Bc=>pN 1 k z fun a k=>nn (wp_ret ?_))))
   cases h
   exact finR1 k z (RV.tmp k z) ⟨_,F3,z,m.ext,(Enc.ow_agr Bc (m.a 0 z)),(fun b hb=>m.lo b (mem_fps (i:=0) z hb))⟩
 exact ⟨Aj,w0,Ak,w64 (Ak + 1),k.keep [0,1,5,6] z,m.sel [0] z (by decide),Ae,h⟩
theorem c_impl_thereOf (fu:Nat) {w0:World} (r1:Request) (Ad:List Int) {Aj:List Value} {F3:List Nat} (Ao:rd w0 F3 Aj r1) {v6:Value} {F7:List Nat} (Ai:rd w0 F7 [v6] Ad) {r:(List Int)}
    (h:d_impl_thereOf fu r1 Ad = some r) :
    Calls Tryz.prog 147 #[.agg Aj.toArray,v6] w0 fun e w=>∃ (v0:Value) (G0:List Nat),e = .returned (v0) ∧ Ext [] w0 w ∧ ow w G0 [v0] r ∧ (∀ b ∈ G0,w0.heap.size ≤ b):=by
 refine enter (vs:=[_,_]) func147 z ntmps147 z fun a k=>?_
 have m:=St.start w0
 obtain ⟨v9,Bl,Af,Bn,Ag,Bu,rfl,rfl,Ah,Al,Ae⟩:=Ao
 unfold d_impl_thereOf at h
 refine wr (s_box (cs:=[I r1.fWay,I r1.fPallet.fW,I r1.fPallet.fD,I r1.fPallet.fH,I r1.fPallet.fGram,I r1.fClasses,v9,Af,I r1.fMaster,Ag]) m k z z z z z z fun Bj Bd a k m e Am=>pN 1 k z fun a k=>nn (wr (sv k z (r_ldB ta38 m 0 Am 0 k z z z z z z) fun a k=>oE h fun Ap Au h=>?_)))
 refine s_call k call123 z z z z z (c_impl_Units fu _ (show rd _ _ [I r1.fWay,I r1.fPallet.fW,I r1.fPallet.fD,I r1.fPallet.fH,I r1.fPallet.fGram,I r1.fClasses,v9,Af,I r1.fMaster,Ag] (r1:Request) from ⟨_,_,_,_,_,_,z,z,(Enc.rd_agr Ah (m.a00 (Enc.rd_lt Ah))),(Enc.rd_agr Al (m.a00 (Enc.rd_lt Al))),(Enc.rd_agr Ae (m.a00 (Enc.rd_lt Ae)))⟩) Au) fun Br Bo hR=>?_
 obtain ⟨Bt,Bb,rfl,e,Ac,Ay⟩:=hR
 refine ⟨_,z,fun a k=>?_⟩
 have m:=m.new e Bb (fun b hb=>⟨Ay b hb,Enc.rd_lt (Enc.ow_rd Ac) b hb⟩) (Enc.ow_nd Ac)
 refine sv k z (r_len (α:=Int) (Enc.ow_rd Ac) k underlying63 z z) fun a k=>s_alloc (cs:=[I 0]) m k zeroValue3 z z z z z fun As Bg a k m e Az=>s_stb (cs':=[I ((Ap.length:Int))]) sizeOf3 m 0 Az 0 k z z z z z z z z z z z fun Bc a k e m Ax=>nn (wr (pN 1 k z fun a k=>oE h fun Bp Ba h=>s_call k call133 z z z z z (c_slices_Clone_int_int fu _ (Enc.rd_agr Ai (m.a00 (Enc.rd_lt Ai))) Ba) fun Be Bf hR=>?_))
 obtain ⟨Bv,Ak,rfl,e,Aa,Av⟩:=hR
 refine ⟨_,z,fun a k=>?_⟩
 have m:=m.new e Ak (fun b hb=>⟨Av b hb,Enc.rd_lt (Enc.ow_rd Aa) b hb⟩) (Enc.ow_nd Aa)
 refine pN 1 k z fun a k=>oE h fun Bs Aw h=>s_call k call158 z z z z z (c_slices_DeleteFunc_int_int fu _ _ (Enc.ow_agr Aa (m.a 0 z)) ⟨238,[.pointer (some (⟨As,0,none⟩:Addr))],z,call238,fun w Bm Bi r e At hx=>by subst At; have m:=m.mut 0 rfl e Ak (fun b hb=>⟨.inl hb,e.lt1 (m.ltF 0 rfl) b hb⟩) (m.ndF 0 rfl); exact c_impl_thereOf_1 fu _ _ (Ax.agr (m.a 1 rfl) (by simp)) hx⟩ Aw) fun Bq Bk hR=>?_
 obtain ⟨Bh,Aq,rfl,e,Ab,Ar⟩:=hR
 refine ⟨_,z,fun a k=>?_⟩
 have m:=m.mut 0 z e _ (fun b hb=>⟨Ar b hb,Enc.rd_lt (Enc.ow_rd Ab) b hb⟩) (Enc.ow_nd Ab)
 refine pN 1 k z fun a k=>nn (wp_ret ?_)
 cases h
 exact finR1 k z (RV.tmp k z) ⟨_,Aq,z,m.ext,(Enc.ow_agr Ab (m.a 0 z)),(m.fresh 0 z)⟩
theorem c_impl_itemsOf (fu:Nat) {w0:World} (r1:Request) (Ac:List Int) {Be:List Value} {F3:List Nat} (Bl:rd w0 F3 Be r1) {v6:Value} {F7:List Nat} (Ao:rd w0 F7 [v6] Ac) {r:(List Item)}
    (h:d_impl_itemsOf fu r1 Ac = some r) :
    Calls Tryz.prog 149 #[.agg Be.toArray,v6] w0 fun e w=>∃ (v0:Value) (G0:List Nat),e = .returned (v0) ∧ Ext [] w0 w ∧ ow w G0 [v0] r ∧ (∀ b ∈ G0,w0.heap.size ≤ b):=by
 refine enter (vs:=[_,_]) func149 z ntmps149 z fun a k=>?_
 have m:=St.start w0
 obtain ⟨v9,Cj,Av,Cn,Ax,Cr,rfl,rfl,Az,Bg,Ae⟩:=Bl
 unfold d_impl_itemsOf at h
 refine wr (s_box (cs:=[I r1.fWay,I r1.fPallet.fW,I r1.fPallet.fD,I r1.fPallet.fH,I r1.fPallet.fGram,I r1.fClasses,v9,Av,I r1.fMaster,Ax]) m k z z z z z z fun Ap Au a k m e At=>pN 1 k z fun a k=>nn (wr (sv k z (r_ldB ta38 m 0 At 0 k z z z z z z) fun a k=>oE h fun Aw Br h=>?_)))
 refine s_call k call123 z z z z z (c_impl_Units fu _ (show rd _ _ [I r1.fWay,I r1.fPallet.fW,I r1.fPallet.fD,I r1.fPallet.fH,I r1.fPallet.fGram,I r1.fClasses,v9,Av,I r1.fMaster,Ax] (r1:Request) from ⟨_,_,_,_,_,_,z,z,(Enc.rd_agr Az (m.a00 (Enc.rd_lt Az))),(Enc.rd_agr Bg (m.a00 (Enc.rd_lt Bg))),(Enc.rd_agr Ae (m.a00 (Enc.rd_lt Ae)))⟩) Br) fun Co Ay hR=>?_
 obtain ⟨Bc,Ar,rfl,e,Af,Bv⟩:=hR
 refine ⟨_,z,fun a k=>?_⟩
 have m:=m.new e Ar (fun b hb=>⟨Bv b hb,Enc.rd_lt (Enc.ow_rd Af) b hb⟩) (Enc.ow_nd Af)
 refine pN 1 k z fun a k=>nn (wr (s_bs (cs:=[]) (ps:=[]) te36 m k z z z z z z z (by decide) z (by exact (List.forall_mem_nil _)) fun Ba Bn Cf a k m e Bw=>?_))
 have Bu:=ow_bx Bw ([]:List Item) z z z
 refine pN 1 k z fun a k=>nn (wp_seq (wr (pN 1 k z fun a k=>sv k z (r_len (α:=Int) Ao k underlying63 z z) fun a k=>pN 1 k z fun a k=>nn (wp_block (c_loop (fun n a w=>∃ (Ai:List Item) (Am:Value) (Aa:List Nat) (Ah:World) (Ad:Int),K 36 [(2,.pointer (some (⟨Ap,0,none⟩:Addr))),(5,Bc),(6,Am),(12,v6),(13,I ((Ac.length:Int))),(14,I Ad)] a ∧ St [] w0 w [([Ap],Au),(Ar,Ay),(Aa,Ah)] ∧ ow Ah Aa [Am] Ai ∧ d_impl_itemsOf_L1 fu r1 Ac Aw n Ai Ad = some r) ?_ ?_ fu _ _ ?_)))))
 · rintro a w ⟨_,_,_,_,_,_,_,_,h⟩
   exact nS h
 · rintro Bp a Cq ⟨Ai,Am,Aa,Ah,Ad,k,m,Aq,h⟩
   rw [d_impl_itemsOf_L1_s] at h
   unfold d_impl_itemsOf_L1_B at h
   refine wr (pN 1 k z fun a k=>nn (wp_seq (cI h k z (fun Bo h=>?_) fun Bo h=>?_)))
   · refine wp_skip (nm_then ?_)
     refine c_cut (fun a w=>∃ (Aj:List Item) (Ag:Value) (Al:List Nat) (Ak:World),K 36 [(2,.pointer (some (⟨Ap,0,none⟩:Addr))),(5,Bc),(6,Ag),(12,v6),(13,I ((Ac.length:Int))),(14,I Ad)] a ∧ St [] w0 w [([Ap],Au),(Ar,Ay),(Al,Ak)] ∧ ow Ak Al [Ag] Aj ∧ d_impl_itemsOf_J1 fu (d_impl_itemsOf_L1 fu r1 Ac Aw Bp) Ad Aj = some r) ?_ ?_
     · rintro a Cd ⟨Aj,Ag,Al,Ak,k,m,Bi,h⟩
       unfold d_impl_itemsOf_J1 at h
       refine wp_region_lit (pN 2 k z fun a k=>nn ?_)
       exact ⟨Aj,Ag,Al,Ak,w64 (Ad + 1),k.keep [2,5,6,12,13,14] z,m.sel [0,1,2] z (by decide),Bi,h⟩
     refine wp_block (wr (oE h fun Ck Bb h=>sv k z (r_ixa Ao Bb k ts63 z z z) fun a k=>sv k z (r_lde1 Ao (m.a00 (Enc.rd_lt Ao)) Bb 0 t13 k z z z z) fun a k=>pN 1 k z fun a k=>nn (wr (pN 2 k z fun a k=>sv k z (r_len (α:=Int) (Enc.ow_rd Af) k underlying63 z z) fun a k=>pN 1 k z fun a k=>oE h fun Cp Bq h=>cE k m call139 z z z (c_impl_in fu _ _ _  Bq) fun Ch e a k m=>nn (cI h k z (fun Bx h=>?_) fun Bx h=>?_)))))
     · refine d_go (Aa) mixo m z fun Bm hMd=>?_
       have m:=hMd
       have s:=Ext.refl ((Aa):List Nat) Bm
       refine dN [0,3,4] 3 z k (by kernel_rfl) z s (fun _ _ _ _ _=>id) fun a k=>dt k 1 z (by kernel_rfl) z s (fun _ _ _=>id) (fun w s=>r_fa fa38_6 k z z) fun a k=>dt k 2 z (by kernel_rfl) z s (fun _ _ _=>id) (fun w s=>r_ld1 t136 (r:=[]) (At.at (hMd.az 0 2 z z z s) 9 1 z z z) k z z) fun a k=>oE h fun Cm Bf h=>dt k 5 z (by kernel_rfl) z s (fun _ _ _=>id) (fun w s=>r_ixa (Enc.ow_rd Af) Bf k ts63 z z z) fun a k=>dt k 6 z (by kernel_rfl) z s (fun _ _ _=>id) (fun w s=>r_lde1 (Enc.ow_rd Af) (hMd.az 1 2 z z z s) Bf 0 t13 k z z z z) fun a k=>oE h fun Ab Bd h=>dt k 7 z (by kernel_rfl) z s (fun _ _ _=>id) (fun w s=>r_ixa Ae Bd k ts36 z z z) fun a k=>?_
       refine dt k 8 z (by kernel_rfl) z s (fun _ _ _=>id) (fun w s=>r_lde Ae (hMd.az0 2 z z (Enc.rd_lt Ae) s) Bd ta158 k z z) fun a k=>d_one 9 (by kernel_rfl) z (s_bsN (cs:=[I Ab.fId,I Ab.fW,I Ab.fH,I Ab.fD,I Ab.fGram,I Ab.fClass,I Ab.fCount]) (ps:=[(0,.tmp 31)]) te36 m k z z z z z z z (by decide) z (by exact (List.forall_mem_cons.2 ⟨z,(List.forall_mem_nil _)⟩)) fun Cg Cc Ce a k m e Cb Bk=>?_)
       have Ci:=lo1 (Nat.le_trans s.size Bk)
       have Ca:=ow_bx Cb ([Ab]:List Item) z z z
       have s:=s.trans e (by simp)
       refine wpList_nil ⟨s,?_⟩
       refine d_one 10 (by kernel_rfl) z (oE h fun Bh By h=>s_appFN By te36 z m 3 Aq (News.rd (Enc.rd_agr (Enc.ow_rd Ca) (m.a 0 z))) z z k z z z z z z z fun Bj As Bs a k e m Bt Bz=>?_)
       have Cl:∀ y ∈ As,y ∈ (Aa) ∨ _ ≤ y:=fun y hy=>(Bz y hy).elim (fun hy=>(fun y hy=>Or.inl hy) y hy) (fun h=>Or.inr (Nat.le_trans s.size h))
       have s:=s.trans e (fun y hy=>Or.inl hy)
       refine wpList_nil ⟨s,?_⟩
       refine dN [11] 1 z k (by kernel_rfl) z s (fun _ _ _ _ _=>id) fun a k=>d_done (by kernel_rfl) ((nm_block (nm_then ?_)))
       exact ⟨Bh,Bj,As,Bs,k.keep [2,5,6,12,13,14] z,m.sel [1,2,3] z (by decide),Bt,h⟩
     refine wp_skip (nm_block (nm_then ?_))
     exact ⟨Ai,Am,Aa,Ah,k.keep [2,5,6,12,13,14] z,m.sel [0,1,2] z (by decide),Aq,h⟩
   refine wp_exit (ex_then (ex_then (ex_same (nm_then ?_))))
   refine wr (pN 2 k z fun a k=>nn (wp_ret ?_))
   cases h
   exact finR1 k z (RV.tmp k z) ⟨_,Aa,z,m.ext,(Enc.ow_agr Aq (m.a 2 z)),(m.fresh 2 z)⟩
 exact ⟨([]:List Item),(.slice (some ⟨Ba,0,none⟩) 0 0),[Ba],Bn,0,k.keep [2,5,6,12,13,14] z,m.sel [2,1,0] z (by decide),Bu,h⟩
theorem c_impl_Holds_1 (fu:Nat) {w0:World} (x1:Item) (x2:Typ) {b3:Nat} (Aa:bx w0 b3 [I x2.fId,I x2.fW,I x2.fH,I x2.fD,I x2.fTare,I x2.fGram,I x2.fCost] 79) {r:Bool}
    (h:d_impl_Holds_1 fu x1 x2 = some r) :
    Calls Tryz.prog 150 #[.agg (Flat.e (x1)).toArray,.pointer (some (⟨b3,0,none⟩:Addr))] w0 fun e w=>e = .returned (.bool (r)) ∧ Ext [] w0 w:=by
 refine enter (vs:=[_,_]) func150 z ntmps150 z fun a k=>?_
 have m:=St.start w0
 unfold d_impl_Holds_1 at h
 refine wr (s_box (cs:=[I x1.fId,I x1.fW,I x1.fH,I x1.fD,I x1.fGram,I x1.fClass,I x1.fCount]) m k z z z z z z fun b5 w7 a k m e Ab=>pN 1 k z fun a k=>nn (wr (sv k z (r_ldB ta158 m 0 Ab 0 k z z z z z z) fun a k=>sv k z (r_ldA ta79 (Aa.at (m.a00 Aa.lt1) 0 7 z z z) z k z z) fun a k=>oE h fun x8 Ac h=>cE k m call151 z z z (c_impl_Fits fu (x1:Item) (x2:Typ)  Ac) fun Ad e a k m=>pN 2 k z fun a k=>nn (wp_ret (fS h k m z z)))))
theorem c_impl_Volume (fu:Nat) {w0:World} (Ac:Int) (h2:Int) (d3:Int)  {r:Int}
    (h:d_impl_Volume fu Ac h2 d3 = some r) :
    Calls Tryz.prog 183 #[I Ac,I h2,I d3] w0 fun e w=>e = .returned (I r) ∧ Ext [] w0 w:=by
 refine enter (vs:=[_,_,_]) func183 z ntmps183 z fun a k=>?_
 have m:=St.start w0
 unfold d_impl_Volume at h
 refine wr (pN 1 k z fun a k=>nn (c_cut (fun a w=>K 25 [(0,I Ac),(1,I h2),(2,I d3)] a ∧ St [] w0 w [] ∧ d_impl_Volume_J1 fu Ac h2 d3 = some r) ?_ ?_))
 · rintro a Aj ⟨k,m,h⟩
   unfold d_impl_Volume_J1 at h
   refine wr (pN 6 k z fun a k=>nn (wp_ret (fS h k m z z)))
 refine wr (pN 1 k z fun a k=>oE h fun Ae Ah h=>cE k m call139 z z z (c_impl_in fu _ _ _  Ah) fun Am e a k m=>pN 2 k z fun a k=>bsplit (!Ae) (fun Ab=>?_) (fun Ab=>?_))
 · have h:=bif_t Ab h
   refine rB k 10 z Ab fun k=>pN 9 k z fun a k=>nn (wp_cond_true (k.ev z) (wr (pN 1 k z fun a k=>nn (wp_ret (rt_then ?_)))))
   refine fS h k m z z
 have h:=bif_f Ab h
 refine rB k 10 z Ab fun k=>pN 1 k z fun a k=>oE h fun Af Ai h=>cE k m call139 z z z (c_impl_in fu _ _ _  Ai) fun Ao e a k m=>pN 3 k z fun a k=>bsplit (!Af) (fun Aa=>?_) (fun Aa=>?_)
 · have h:=bif_t Aa h
   refine rB k 15 z Aa fun k=>pN 4 k z fun a k=>nn (wp_cond_true (k.ev z) (wr (pN 1 k z fun a k=>nn (wp_ret (rt_then ?_)))))
   refine fS h k m z z
 have h:=bif_f Aa h
 refine rB k 15 z Aa fun k=>pN 1 k z fun a k=>oE h fun Al Ag h=>cE k m call139 z z z (c_impl_in fu _ _ _  Ag) fun Ak e a k m=>pN 2 k z fun a k=>nn (cI h k z (fun Ad h=>?_) fun Ad h=>?_)
 · refine wr (pN 1 k z fun a k=>nn (wp_ret (rt_then ?_)))
   refine fS h k m z z
 refine wp_skip (nm_then ?_)
 exact ⟨k.keep [0,1,2] z,m.sel [] z (by decide),h⟩
theorem c_impl_VolumeOf (fu:Nat) {w0:World} (r1:Request) (Af:List Int) {Ao:List Value} {F3:List Nat} (At:rd w0 F3 Ao r1) {v6:Value} {F7:List Nat} (Am:rd w0 F7 [v6] Af) {r:Int}
    (h:d_impl_VolumeOf fu r1 Af = some r) :
    Calls Tryz.prog 182 #[.agg Ao.toArray,v6] w0 fun e w=>e = .returned (I r) ∧ Ext [] w0 w:=by
 refine enter (vs:=[_,_]) func182 z ntmps182 z fun a k=>?_
 have m:=St.start w0
 obtain ⟨v9,Be,Ah,Bf,Aj,Bi,rfl,rfl,Ak,Ap,Ag⟩:=At
 unfold d_impl_VolumeOf at h
 refine wr (s_box (cs:=[I r1.fWay,I r1.fPallet.fW,I r1.fPallet.fD,I r1.fPallet.fH,I r1.fPallet.fGram,I r1.fClasses,v9,Ah,I r1.fMaster,Aj]) m k z z z z z z fun Bl Bb a k m e Ar=>pN 1 k z fun a k=>nn (wr (pN 1 k z fun a k=>nn (wp_seq (wr (sv k z (r_ldB ta38 m 0 Ar 0 k z z z z z z) fun a k=>pN 1 k z fun a k=>oE h fun Ai Ax h=>?_))))))
 refine s_call k call149 z z z z z (c_impl_itemsOf fu _ _ (show rd _ _ [I r1.fWay,I r1.fPallet.fW,I r1.fPallet.fD,I r1.fPallet.fH,I r1.fPallet.fGram,I r1.fClasses,v9,Ah,I r1.fMaster,Aj] (r1:Request) from ⟨_,_,_,_,_,_,z,z,(Enc.rd_agr Ak (m.a00 (Enc.rd_lt Ak))),(Enc.rd_agr Ap (m.a00 (Enc.rd_lt Ap))),(Enc.rd_agr Ag (m.a00 (Enc.rd_lt Ag)))⟩) (Enc.rd_agr Am (m.a00 (Enc.rd_lt Am))) Ax) fun Bh Av hR=>?_
 obtain ⟨Ay,Aq,rfl,e,Ab,Az⟩:=hR
 refine ⟨_,z,fun a k=>?_⟩
 have m:=m.new e Aq (fun b hb=>⟨Az b hb,Enc.rd_lt (Enc.ow_rd Ab) b hb⟩) (Enc.ow_nd Ab)
 refine sv k z (r_len (α:=Item) (Enc.ow_rd Ab) k underlying36 z z) fun a k=>pN 1 k z fun a k=>nn (wp_block (c_loop (fun n a w=>∃ (Ac:Int) (Ad:Int),K 27 [(5,I Ac),(10,Ay),(11,I ((Ai.length:Int))),(12,I Ad)] a ∧ St [] w0 w [(Aq,Av)] ∧ d_impl_VolumeOf_L1 fu Ai n Ac Ad = some r) ?_ ?_ fu _ _ ?_))
 · rintro a w ⟨_,_,_,_,h⟩
   exact nS h
 · rintro Bc a Bd ⟨Ac,Ad,k,m,h⟩
   rw [d_impl_VolumeOf_L1_s] at h
   unfold d_impl_VolumeOf_L1_B at h
   refine wr (pN 1 k z fun a k=>nn (wp_seq (cI h k z (fun Au h=>?_) fun Au h=>?_)))
   · refine wp_skip (nm_then ?_)
     refine wp_seq (wp_block (wr (oE h fun Aa Al h=>sv k z (r_ixa (Enc.ow_rd Ab) Al k ts36 z z z) fun a k=>sv k z (r_lde (Enc.ow_rd Ab) (m.a 0 z) Al ta158 k z z) fun a k=>s_alloc (cs:=[I 0,I 0,I 0,I 0,I 0,I 0,I 0]) m k zeroValue158 z z z z z fun Bj Bk a k m e Ba=>s_stb (cs':=[I Aa.fId,I Aa.fW,I Aa.fH,I Aa.fD,I Aa.fGram,I Aa.fClass,I Aa.fCount]) sizeOf158 m 0 Ba 0 k z z z z z z z z z z z fun Bm a k e m Ae=>nn (wp_region_lit (pN 1 k z fun a k=>sv k z (r_fa fa158_1 k z z) fun a k=>sv k z (r_ldb t13 m 0 Ae 1 k z z z z z) fun a k=>sv k z (r_fa fa158_2 k z z) fun a k=>?_)))))
     refine sv k z (r_ldb t13 m 0 Ae 2 k z z z z z) fun a k=>sv k z (r_fa fa158_3 k z z) fun a k=>sv k z (r_ldb t13 m 0 Ae 3 k z z z z z) fun a k=>oE h fun Aw As h=>cE k m call183 z z z (c_impl_Volume fu _ _ _  As) fun Bg e a k m=>pN 2 k z fun a k=>wpList_nil (nm_block (nm_then ?_))
     refine wp_region_lit (pN 2 k z fun a k=>nn ?_)
     exact ⟨w64 (Ac + Aw),w64 (Ad + 1),k.keep [5,10,11,12] z,m.sel [1] z (by decide),h⟩
   refine wp_exit (ex_then (ex_then (ex_same (nm_then ?_))))
   refine wr (pN 2 k z fun a k=>nn (wp_ret (fS h k m z z)))
 exact ⟨0,0,k.keep [5,10,11,12] z,m.sel [0] z (by decide),h⟩
theorem c_impl_GramOf (fu:Nat) {w0:World} (r1:Request) (Ae:List Int) {Am:List Value} {F3:List Nat} (Ar:rd w0 F3 Am r1) {v6:Value} {F7:List Nat} (Al:rd w0 F7 [v6] Ae) {r:Int}
    (h:d_impl_GramOf fu r1 Ae = some r) :
    Calls Tryz.prog 240 #[.agg Am.toArray,v6] w0 fun e w=>e = .returned (I r) ∧ Ext [] w0 w:=by
 refine enter (vs:=[_,_]) func240 z ntmps240 z fun a k=>?_
 have m:=St.start w0
 obtain ⟨v9,Be,Ag,Bf,Aj,Bh,rfl,rfl,Ak,Ao,Af⟩:=Ar
 unfold d_impl_GramOf at h
 refine wr (s_box (cs:=[I r1.fWay,I r1.fPallet.fW,I r1.fPallet.fD,I r1.fPallet.fH,I r1.fPallet.fGram,I r1.fClasses,v9,Ag,I r1.fMaster,Aj]) m k z z z z z z fun Bj Bb a k m e Aq=>pN 1 k z fun a k=>nn (wr (pN 1 k z fun a k=>nn (wp_seq (wr (sv k z (r_ldB ta38 m 0 Aq 0 k z z z z z z) fun a k=>pN 1 k z fun a k=>oE h fun Ah Av h=>?_))))))
 refine s_call k call149 z z z z z (c_impl_itemsOf fu _ _ (show rd _ _ [I r1.fWay,I r1.fPallet.fW,I r1.fPallet.fD,I r1.fPallet.fH,I r1.fPallet.fGram,I r1.fClasses,v9,Ag,I r1.fMaster,Aj] (r1:Request) from ⟨_,_,_,_,_,_,z,z,(Enc.rd_agr Ak (m.a00 (Enc.rd_lt Ak))),(Enc.rd_agr Ao (m.a00 (Enc.rd_lt Ao))),(Enc.rd_agr Af (m.a00 (Enc.rd_lt Af)))⟩) (Enc.rd_agr Al (m.a00 (Enc.rd_lt Al))) Av) fun Bg Au hR=>?_
 obtain ⟨Aw,Ap,rfl,e,Ab,Ax⟩:=hR
 refine ⟨_,z,fun a k=>?_⟩
 have m:=m.new e Ap (fun b hb=>⟨Ax b hb,Enc.rd_lt (Enc.ow_rd Ab) b hb⟩) (Enc.ow_nd Ab)
 refine sv k z (r_len (α:=Item) (Enc.ow_rd Ab) k underlying36 z z) fun a k=>pN 1 k z fun a k=>nn (wp_block (c_loop (fun n a w=>∃ (Ac:Int) (Ad:Int),K 22 [(5,I Ac),(10,Aw),(11,I ((Ah.length:Int))),(12,I Ad)] a ∧ St [] w0 w [(Ap,Au)] ∧ d_impl_GramOf_L1 fu Ah n Ac Ad = some r) ?_ ?_ fu _ _ ?_))
 · rintro a w ⟨_,_,_,_,h⟩
   exact nS h
 · rintro Ba a Bd ⟨Ac,Ad,k,m,h⟩
   rw [d_impl_GramOf_L1_s] at h
   unfold d_impl_GramOf_L1_B at h
   refine wr (pN 1 k z fun a k=>nn (wp_seq (cI h k z (fun At h=>?_) fun At h=>?_)))
   · refine wp_skip (nm_then ?_)
     refine wp_seq (wp_block (wr (oE h fun Aa Ai h=>sv k z (r_ixa (Enc.ow_rd Ab) Ai k ts36 z z z) fun a k=>sv k z (r_lde (Enc.ow_rd Ab) (m.a 0 z) Ai ta158 k z z) fun a k=>s_alloc (cs:=[I 0,I 0,I 0,I 0,I 0,I 0,I 0]) m k zeroValue158 z z z z z fun Bi Az a k m e Ay=>s_stb (cs':=[I Aa.fId,I Aa.fW,I Aa.fH,I Aa.fD,I Aa.fGram,I Aa.fClass,I Aa.fCount]) sizeOf158 m 0 Ay 0 k z z z z z z z z z z z fun Bc a k e m As=>nn (wp_region_lit (pN 1 k z fun a k=>sv k z (r_fa fa158_4 k z z) fun a k=>sv k z (r_ldb t13 m 0 As 4 k z z z z z) fun a k=>pN 2 k z fun a k=>wpList_nil (nm_block (nm_then ?_)))))))
     refine wp_region_lit (pN 2 k z fun a k=>nn ?_)
     exact ⟨w64 (Ac + Aa.fGram),w64 (Ad + 1),k.keep [5,10,11,12] z,m.sel [1] z (by decide),h⟩
   refine wp_exit (ex_then (ex_then (ex_same (nm_then ?_))))
   refine wr (pN 2 k z fun a k=>nn (wp_ret (fS h k m z z)))
 exact ⟨0,0,k.keep [5,10,11,12] z,m.sel [0] z (by decide),h⟩
theorem c_impl_within (fu:Nat) {w0:World} (r1:Request) (Ak:List Int) (t9:Typ) {Al:List Value} {F3:List Nat} (Am:rd w0 F3 Al r1) {v6:Value} {F7:List Nat} (Ad:rd w0 F7 [v6] Ak) {r:Bool}
    (h:d_impl_within fu r1 Ak t9 = some r) :
    Calls Tryz.prog 152 #[.agg Al.toArray,v6,.agg (Flat.e (t9)).toArray] w0 fun e w=>e = .returned (.bool (r)) ∧ Ext [] w0 w:=by
 refine enter (vs:=[_,_,_]) func152 z ntmps152 z fun a k=>?_
 have m:=St.start w0
 obtain ⟨Ah,Ay,Ag,Bc,Ai,Be,rfl,rfl,Ae,Ab,Af⟩:=Am
 unfold d_impl_within at h
 refine wr (s_box (cs:=[I r1.fWay,I r1.fPallet.fW,I r1.fPallet.fD,I r1.fPallet.fH,I r1.fPallet.fGram,I r1.fClasses,Ah,Ag,I r1.fMaster,Ai]) m k z z z z z z fun Az Ax a k m e Aj=>s_box (cs:=[I t9.fId,I t9.fW,I t9.fH,I t9.fD,I t9.fTare,I t9.fGram,I t9.fCost]) m k z z z z z z fun Bd Ba a k m e Ac=>pN 1 k z fun a k=>nn (wp_seq (d_go [] mixo m z fun Ap hMd=>?_)))
 have m:=hMd
 have s:=Ext.refl ([]:List Nat) Ap
 refine dN [1] 1 z k (by kernel_rfl) z s (fun _ _ _ _ _=>id) fun a k=>dt k 0 z (by kernel_rfl) z s (fun _ _ _=>id) (fun w s=>r_ldA ta38 (Aj.at ((hMd.step s).a 1 z) 0 10 z z z) z k z z) fun a k=>dt k 3 z (by kernel_rfl) z s (fun _ _ _=>id) (fun w s=>r_fa fa79_1 k z z) fun a k=>dt k 4 z (by kernel_rfl) z s (fun _ _ _=>id) (fun w s=>r_ld1 t13 (r:=[]) (Ac.at ((hMd.step s).a 0 z) 1 1 z z z) k z z) fun a k=>dt k 5 z (by kernel_rfl) z s (fun _ _ _=>id) (fun w s=>r_fa fa79_2 k z z) fun a k=>dt k 6 z (by kernel_rfl) z s (fun _ _ _=>id) (fun w s=>r_ld1 t13 (r:=[]) (Ac.at ((hMd.step s).a 0 z) 2 1 z z z) k z z) fun a k=>dt k 7 z (by kernel_rfl) z s (fun _ _ _=>id) (fun w s=>r_fa fa79_3 k z z) fun a k=>?_
 refine dt k 8 z (by kernel_rfl) z s (fun _ _ _=>id) (fun w s=>r_ld1 t13 (r:=[]) (Ac.at ((hMd.step s).a 0 z) 3 1 z z z) k z z) fun a k=>d_one 2 (by kernel_rfl) z (oE h fun Aq At h=>cE k m call182 z z z (c_impl_VolumeOf fu _ _ (show rd _ _ [I r1.fWay,I r1.fPallet.fW,I r1.fPallet.fD,I r1.fPallet.fH,I r1.fPallet.fGram,I r1.fClasses,Ah,Ag,I r1.fMaster,Ai] (r1:Request) from ⟨_,_,_,_,_,_,z,z,(Enc.rd_agr Ae (m.a00 (Enc.rd_lt Ae))),(Enc.rd_agr Ab (m.a00 (Enc.rd_lt Ab))),(Enc.rd_agr Af (m.a00 (Enc.rd_lt Af)))⟩) (Enc.rd_agr Ad (m.a00 (Enc.rd_lt Ad))) At) fun Av e a k m=>?_)
 have s:=s.trans e (by simp)
 refine wpList_nil ⟨s,?_⟩
 refine d_one 9 (by kernel_rfl) z (oE h fun Ao Ar h=>cE k m call183 z z z (c_impl_Volume fu _ _ _  Ar) fun Au e a k m=>?_)
 have s:=s.trans e (by simp)
 refine wpList_nil ⟨s,?_⟩
 refine dN [10,11] 2 z k (by kernel_rfl) z s (fun _ _ _ _ _=>id) fun a k=>bsplit (decide (Aq ≤ Ao)) (fun Aa=>?_) (fun Aa=>?_)
 · have h:=bif_t Aa h
   refine rB k 18 z Aa fun k=>dN [13] 1 z k (by kernel_rfl) z s (fun _ _ _ _ _=>id) fun a k=>dt k 12 z (by kernel_rfl) z s (fun _ _ _=>id) (fun w s=>r_ldA ta38 (Aj.at ((hMd.step s).a 1 z) 0 10 z z z) z k z z) fun a k=>dt k 15 z (by kernel_rfl) z s (fun _ _ _=>id) (fun w s=>r_fa fa79_5 k z z) fun a k=>dt k 16 z (by kernel_rfl) z s (fun _ _ _=>id) (fun w s=>r_ld1 t13 (r:=[]) (Ac.at ((hMd.step s).a 0 z) 5 1 z z z) k z z) fun a k=>d_one 14 (by kernel_rfl) z (oE h fun Bb As h=>?_)
   refine cE k m call240 z z z (c_impl_GramOf fu _ _ (show rd _ _ [I r1.fWay,I r1.fPallet.fW,I r1.fPallet.fD,I r1.fPallet.fH,I r1.fPallet.fGram,I r1.fClasses,Ah,Ag,I r1.fMaster,Ai] (r1:Request) from ⟨_,_,_,_,_,_,z,z,(Enc.rd_agr Ae (m.a00 (Enc.rd_lt Ae))),(Enc.rd_agr Ab (m.a00 (Enc.rd_lt Ab))),(Enc.rd_agr Af (m.a00 (Enc.rd_lt Af)))⟩) (Enc.rd_agr Ad (m.a00 (Enc.rd_lt Ad))) As) fun Aw e a k m=>?_
   have s:=s.trans e (by simp)
   refine wpList_nil ⟨s,?_⟩
   refine dN [17,18,19] 3 z k (by kernel_rfl) z s (fun _ _ _ _ _=>id) fun a k=>d_done (by kernel_rfl) ((nm_then ?_))
   refine wp_ret (fS h k m z z)
 have h:=bif_f Aa h
 refine rB k 18 z Aa fun k=>dN [12,13,14,15,16,17,18,19] 8 z k (by kernel_rfl) z s (fun _ _ _ _ _=>id) fun a k=>d_done (by kernel_rfl) ((nm_then ?_))
 refine wp_ret (fS h k m z z)
theorem c_impl_Holds (fu:Nat) {w0:World} (r1:Request) (Ak:List Int) (t9:Typ) {Ar:List Value} {F3:List Nat} (As:rd w0 F3 Ar r1) {v6:Value} {F7:List Nat} (Ad:rd w0 F7 [v6] Ak) {r:Bool}
    (h:d_impl_Holds fu r1 Ak t9 = some r) :
    Calls Tryz.prog 54 #[.agg Ar.toArray,v6,.agg (Flat.e (t9)).toArray] w0 fun e w=>e = .returned (.bool (r)) ∧ Ext [] w0 w:=by
 refine enter (vs:=[_,_,_]) func54 z ntmps54 z fun a k=>?_
 have m:=St.start w0
 obtain ⟨Ag,Bm,Af,Bu,Ai,Bt,rfl,rfl,Ab,Aa,Ac⟩:=As
 unfold d_impl_Holds at h
 refine wr (s_box (cs:=[I r1.fWay,I r1.fPallet.fW,I r1.fPallet.fD,I r1.fPallet.fH,I r1.fPallet.fGram,I r1.fClasses,Ag,Af,I r1.fMaster,Ai]) m k z z z z z z fun Ap Au a k m e Aj=>s_box (cs:=[I t9.fId,I t9.fW,I t9.fH,I t9.fD,I t9.fTare,I t9.fGram,I t9.fCost]) m k z z z z z z fun Am Ba a k m e Aq=>pN 1 k z fun a k=>nn (c_cut (fun a w=>K 31 [(1,v6),(3,.pointer (some (⟨Ap,0,none⟩:Addr))),(5,.pointer (some (⟨Am,0,none⟩:Addr)))] a ∧ St [] w0 w [([Ap],Au),([Am],Ba)] ∧ d_impl_Holds_J1 fu r1 Ak t9 = some r) ?_ ?_))
 · rintro a Bk ⟨k,m,h⟩
   unfold d_impl_Holds_J1 at h
   refine wr (sv k z (r_ldB ta38 m 0 Aj 0 k z z z z z z) fun a k=>pN 1 k z fun a k=>oE h fun Bl Av h=>s_call k call149 z z z z z (c_impl_itemsOf fu _ _ (show rd _ _ [I r1.fWay,I r1.fPallet.fW,I r1.fPallet.fD,I r1.fPallet.fH,I r1.fPallet.fGram,I r1.fClasses,Ag,Af,I r1.fMaster,Ai] (r1:Request) from ⟨_,_,_,_,_,_,z,z,(Enc.rd_agr Ab (m.a00 (Enc.rd_lt Ab))),(Enc.rd_agr Aa (m.a00 (Enc.rd_lt Aa))),(Enc.rd_agr Ac (m.a00 (Enc.rd_lt Ac)))⟩) (Enc.rd_agr Ad (m.a00 (Enc.rd_lt Ad))) Av) fun Bx Bv hR=>?_)
   obtain ⟨Bo,Bh,rfl,e,Al,At⟩:=hR
   refine ⟨_,z,fun a k=>?_⟩
   have m:=m.new e Bh (fun b hb=>⟨At b hb,Enc.rd_lt (Enc.ow_rd Al) b hb⟩) (Enc.ow_nd Al)
   refine pN 1 k z fun a k=>oE h fun Bd Ay h=>cE k m call148 z z z (c_slices_ContainsFunc_impl_Item_impl_Item fu _ _ (Enc.rd_agr (Enc.ow_rd Al) (m.a 0 z)) ⟨150,[.pointer (some (⟨Am,0,none⟩:Addr))],z,call150,fun w Bq By r e Aw hx=>by subst Aw; have m:=m.step e; exact c_impl_Holds_1 fu _ _ (Aq.agr (m.a 2 rfl) (by simp)) hx⟩ Ay) fun Br e a k m=>pN 2 k rfl fun a k=>bsplit (!Bd) (fun Ae=>?_) (fun Ae=>?_)
   · have h:=bif_t Ae h
     refine rB k 25 z Ae fun k=>sv k z (r_ldB ta38 m 1 Aj 0 k z z z z z z) fun a k=>pN 1 k z fun a k=>sv k z (r_ldB ta79 m 2 Aq 0 k z z z z z z) fun a k=>oE h fun Bw Be h=>cE k m call152 z z z (c_impl_within fu _ _ (t9:Typ) (show rd _ _ [I r1.fWay,I r1.fPallet.fW,I r1.fPallet.fD,I r1.fPallet.fH,I r1.fPallet.fGram,I r1.fClasses,Ag,Af,I r1.fMaster,Ai] (r1:Request) from ⟨_,_,_,_,_,_,z,z,(Enc.rd_agr Ab (m.a00 (Enc.rd_lt Ab))),(Enc.rd_agr Aa (m.a00 (Enc.rd_lt Aa))),(Enc.rd_agr Ac (m.a00 (Enc.rd_lt Ac)))⟩) (Enc.rd_agr Ad (m.a00 (Enc.rd_lt Ad))) Be) fun Bn e a k m=>pN 2 k z fun a k=>nn (wp_ret (fS h k m z z))
   have h:=bif_f Ae h
   refine rB k 25 z Ae fun k=>pN 6 k z fun a k=>nn (wp_ret (fS h k m z z))
 refine wr (sv k z (r_ldB ta38 m 1 Aj 0 k z z z z z z) fun a k=>oE h fun Bc Ax h=>cE k m call115 z z z (c_impl_sound fu _ (show rd _ _ [I r1.fWay,I r1.fPallet.fW,I r1.fPallet.fD,I r1.fPallet.fH,I r1.fPallet.fGram,I r1.fClasses,Ag,Af,I r1.fMaster,Ai] (r1:Request) from ⟨_,_,_,_,_,_,z,z,(Enc.rd_agr Ab (m.a00 (Enc.rd_lt Ab))),(Enc.rd_agr Aa (m.a00 (Enc.rd_lt Aa))),(Enc.rd_agr Ac (m.a00 (Enc.rd_lt Ac)))⟩) Ax) fun Bs e a k m=>pN 2 k z fun a k=>bsplit (!Bc) (fun Ah=>?_) (fun Ah=>?_))
 · have h:=bif_t Ah h
   refine rB k 10 z Ah fun k=>pN 8 k z fun a k=>nn (wp_cond_true (k.ev z) (wr (pN 1 k z fun a k=>nn (wp_ret (rt_then ?_)))))
   refine fS h k m z z
 have h:=bif_f Ah h
 refine rB k 10 z Ah fun k=>sv k z (r_ldB ta38 m 1 Aj 0 k z z z z z z) fun a k=>pN 1 k z fun a k=>oE h fun Bp Bb h=>s_call k call147 z z z z z (c_impl_thereOf fu _ _ (show rd _ _ [I r1.fWay,I r1.fPallet.fW,I r1.fPallet.fD,I r1.fPallet.fH,I r1.fPallet.fGram,I r1.fClasses,Ag,Af,I r1.fMaster,Ai] (r1:Request) from ⟨_,_,_,_,_,_,z,z,(Enc.rd_agr Ab (m.a00 (Enc.rd_lt Ab))),(Enc.rd_agr Aa (m.a00 (Enc.rd_lt Aa))),(Enc.rd_agr Ac (m.a00 (Enc.rd_lt Ac)))⟩) (Enc.rd_agr Ad (m.a00 (Enc.rd_lt Ad))) Bb) fun Bi Bz hR=>?_
 obtain ⟨Bj,Az,rfl,e,Ao,Bf⟩:=hR
 refine ⟨_,z,fun a k=>?_⟩
 have m:=m.new e Az (fun b hb=>⟨Bf b hb,Enc.rd_lt (Enc.ow_rd Ao) b hb⟩) (Enc.ow_nd Ao)
 refine sv k z (r_len (α:=Int) (Enc.ow_rd Ao) k underlying63 z z) fun a k=>pN 1 k z fun a k=>sv k z (r_len (α:=Int) Ad k underlying63 z z) fun a k=>pN 2 k z fun a k=>nn (cI h k z (fun Bg h=>?_) fun Bg h=>?_)
 · refine wr (pN 1 k z fun a k=>nn (wp_ret (rt_then ?_)))
   refine fS h k m z z
 refine wp_skip (nm_then ?_)
 exact ⟨k.keep [1,3,5] z,m.sel [2,1] z (by decide),h⟩
theorem c_slices_Compact_int_int (fu:Nat) {w0:World} (x1:List Int) {v2:Value} {F3:List Nat} (Aa:ow w0 F3 [v2] x1) {r:List Int}
    (h:d_slices_Compact_int_int fu x1 = some r) :
    Calls Tryz.prog 256 #[v2] w0 fun e w=>∃ (v0:Value) (G0:List Nat),e = .returned v0 ∧ Ext F3 w0 w ∧ ow w G0 [v0] r ∧ (∀ b ∈ G0,b ∈ F3 ∨ w0.heap.size ≤ b) :=
  c_compactInt (fun blk off cap zs w=>Tryz.slices_Compact_int blk off cap zs w) (fun p cap w=>Tryz.slices_Compact_int_empty p cap w) x1 Aa h

theorem c_impl_kinds (fu:Nat) {w0:World} (Ae:List Int) {v2:Value} {F3:List Nat} (Ad:rd w0 F3 [v2] Ae) {r:(List Int)}
    (h:d_impl_kinds fu Ae = some r) :
    Calls Tryz.prog 178 #[v2] w0 fun e w=>∃ (v0:Value) (G0:List Nat),e = .returned (v0) ∧ Ext [] w0 w ∧ ow w G0 [v0] r ∧ (∀ b ∈ G0,w0.heap.size ≤ b):=by
 refine enter (vs:=[_]) func178 z ntmps178 z fun a k=>?_
 have m:=St.start w0
 unfold d_impl_kinds at h
 refine wr (pN 1 k z fun a k=>nn (wr (pN 1 k z fun a k=>oE h fun x5 Am h=>s_call k call133 z z z z z (c_slices_Clone_int_int fu _ (Enc.rd_agr Ad (m.a00 (Enc.rd_lt Ad))) Am) fun e7 w9 hR=>?_)))
 obtain ⟨Aw,Ai,rfl,e,Aa,Al⟩:=hR
 refine ⟨_,z,fun a k=>?_⟩
 have m:=m.new e Ai (fun b hb=>⟨Al b hb,Enc.rd_lt (Enc.ow_rd Aa) b hb⟩) (Enc.ow_nd Aa)
 refine pN 1 k z fun a k=>nn (wr (pN 1 k z fun a k=>oE h fun Ao Ak h=>s_call k call120 z z z z z (c_slices_Sort_int_int fu _ (Enc.ow_agr Aa (m.a 0 z)) Ak) fun Ar As hR=>?_))
 obtain ⟨Aq,rfl,e,Af,Ab⟩:=hR
 refine ⟨_,z,fun a k=>?_⟩
 have m:=m.mut 0 z e _ (fun b hb=>⟨Af b hb,Enc.rd_lt (Enc.ow_rd Ab) b hb⟩) (Enc.ow_nd Ab)
 refine nn (wr (pN 1 k z fun a k=>oE h fun Av Ag h=>s_call k call256 z z z z z (c_slices_Compact_int_int fu _ (Enc.ow_agr Ab (m.a 0 z)) Ag) fun Ap At hR=>?_))
 obtain ⟨Au,Aj,rfl,e,Ac,Ah⟩:=hR
 refine ⟨_,z,fun a k=>?_⟩
 have m:=m.mut 0 z e _ (fun b hb=>⟨Ah b hb,Enc.rd_lt (Enc.ow_rd Ac) b hb⟩) (Enc.ow_nd Ac)
 refine pN 1 k z fun a k=>nn (wp_ret ?_)
 cases h
 exact finR1 k z (RV.tmp k z) ⟨_,Aj,z,m.ext,(Enc.ow_agr Ac (m.a 0 z)),(m.fresh 0 z)⟩
theorem c_impl_Present (fu:Nat) {w0:World} (r1:Request) {Ao:List Value} {F3:List Nat} (At:rd w0 F3 Ao r1) {r:(List Int)}
    (h:d_impl_Present fu r1 = some r) :
    Calls Tryz.prog 68 #[.agg Ao.toArray] w0 fun e w=>∃ (v0:Value) (G0:List Nat),e = .returned (v0) ∧ Ext [] w0 w ∧ ow w G0 [v0] r ∧ (∀ b ∈ G0,w0.heap.size ≤ b):=by
 refine enter (vs:=[_]) func68 z ntmps68 z fun a k=>?_
 have m:=St.start w0
 obtain ⟨v5,F6,v7,F8,v9,Br,rfl,rfl,Ai,Ap,Ab⟩:=At
 unfold d_impl_Present at h
 refine wr (s_box (cs:=[I r1.fWay,I r1.fPallet.fW,I r1.fPallet.fD,I r1.fPallet.fH,I r1.fPallet.fGram,I r1.fClasses,v5,v7,I r1.fMaster,v9]) m k z z z z z z fun Bp Bx a k m e Al=>pN 1 k z fun a k=>nn (wp_seq (wr (sv k z (r_ldB ta38 m 0 Al 0 k z z z z z z) fun a k=>oE h fun Bq Av h=>?_))))
 refine cE k m call115 z z z (c_impl_sound fu _ (show rd _ _ [I r1.fWay,I r1.fPallet.fW,I r1.fPallet.fD,I r1.fPallet.fH,I r1.fPallet.fGram,I r1.fClasses,v5,v7,I r1.fMaster,v9] (r1:Request) from ⟨_,_,_,_,_,_,z,z,(Enc.rd_agr Ai (m.a00 (Enc.rd_lt Ai))),(Enc.rd_agr Ap (m.a00 (Enc.rd_lt Ap))),(Enc.rd_agr Ab (m.a00 (Enc.rd_lt Ab)))⟩) Av) fun Bl e a k m=>pN 1 k z fun a k=>nn (cI h k z (fun Bg h=>?_) fun Bg h=>?_)
 · refine wr (pN 1 k z fun a k=>nn (wp_ret (rt_then ?_)))
   cases h
   exact finR1 k z (RV.tmp k z) ⟨_,[],z,m.ext,(ow_nil _),(by simp)⟩
 refine wp_skip (nm_then ?_)
 refine wr (s_bs (cs:=[]) (ps:=[]) te63 m k z z z z z z z (by decide) z (by exact (List.forall_mem_nil _)) fun Aj Aw Bv a k m e Bj=>?_)
 have Az:=ow_bx Bj ([]:List Int) z z z
 refine pN 1 k z fun a k=>nn (wp_seq (wr (sv k z (r_fa fa38_6 k z z) fun a k=>sv k z (r_ldb t136 m 1 Al 9 k z z z z z) fun a k=>sv k z (r_len (α:=Item) Ab k underlying36 z z) fun a k=>pN 1 k z fun a k=>nn (wp_block (c_loop (fun n a w=>∃ (Ad:List Int) (Ae:Value) (Ag:List Nat) (Ah:World) (Ac:Int),K 25 [(3,Ae),(11,v9),(12,I ((r1.fItems.length:Int))),(13,I Ac)] a ∧ St [] w0 w [(Ag,Ah)] ∧ ow Ah Ag [Ae] Ad ∧ d_impl_Present_L1 fu r1 n Ad Ac = some r) ?_ ?_ fu _ _ ?_)))))
 · rintro a w ⟨_,_,_,_,_,_,_,_,h⟩
   exact nS h
 · rintro Bs a Bu ⟨Ad,Ae,Ag,Ah,Ac,k,m,Ak,h⟩
   rw [d_impl_Present_L1_s] at h
   unfold d_impl_Present_L1_B at h
   refine wr (pN 1 k z fun a k=>nn (wp_seq (cI h k z (fun Ba h=>?_) fun Ba h=>?_)))
   · refine wp_skip (nm_then ?_)
     refine wp_seq (wp_block (wr (oE h fun Aa Am h=>sv k z (r_ixa Ab Am k ts36 z z z) fun a k=>sv k z (r_lde Ab (m.a00 (Enc.rd_lt Ab)) Am ta158 k z z) fun a k=>s_alloc (cs:=[I 0,I 0,I 0,I 0,I 0,I 0,I 0]) m k zeroValue158 z z z z z fun Ca Cb a k m e Bi=>s_stb (cs':=[I Aa.fId,I Aa.fW,I Aa.fH,I Aa.fD,I Aa.fGram,I Aa.fClass,I Aa.fCount]) sizeOf158 m 0 Bi 0 k z z z z z z z z z z z fun By a k e m Be=>nn (wp_region_lit (pN 1 k z fun a k=>sv k z (r_fa fa158_5 k z z) fun a k=>sv k z (r_ldb t13 m 0 Be 5 k z z z z z) fun a k=>?_)))))
     refine s_bs (cs:=[I Aa.fClass]) (ps:=[(0,.tmp 19)]) te63 m k z z z z z z z (by decide) z (by exact (List.forall_mem_cons.2 ⟨z,(List.forall_mem_nil _)⟩)) fun Bk Bm Bw a k m e Ax=>?_
     have Bc:=ow_bx Ax ([Aa.fClass]:List Int) z z z
     refine oE h fun Au Bh h=>s_appF Bh te63 z m 2 Ak (News.rd (Enc.rd_agr (Enc.ow_rd Bc) (m.a 0 z))) z z k z z z z z z z fun Bb Bf Ar a k e m As=>pN 1 k z fun a k=>wpList_nil (nm_block (nm_then ?_))
     refine wp_region_lit (pN 2 k z fun a k=>nn ?_)
     exact ⟨Au,Bb,Bf,Ar,w64 (Ac + 1),k.keep [3,11,12,13] z,m.sel [2] z (by decide),As,h⟩
   refine wp_exit (ex_then (ex_then (ex_same (nm_then ?_))))
   refine wr (pN 1 k z fun a k=>oE h fun Bo Bd h=>s_call k call178 z z z z z (c_impl_kinds fu _ (Enc.rd_agr (Enc.ow_rd Ak) (m.a 0 z)) Bd) fun Bz Bt hR=>?_)
   obtain ⟨Bn,Aq,rfl,e,Af,Ay⟩:=hR
   refine ⟨_,z,fun a k=>?_⟩
   have m:=m.new e Aq (fun b hb=>⟨Ay b hb,Enc.rd_lt (Enc.ow_rd Af) b hb⟩) (Enc.ow_nd Af)
   refine pN 1 k z fun a k=>nn (wp_ret ?_)
   cases h
   exact finR1 k z (RV.tmp k z) ⟨_,Aq,z,m.ext,(Enc.ow_agr Af (m.a 0 z)),(m.fresh 0 z)⟩
 exact ⟨([]:List Int),(.slice (some ⟨Aj,0,none⟩) 0 0),[Aj],Aw,0,k.keep [3,11,12,13] z,m.sel [0] z (by decide),Az,h⟩
theorem c_impl_mutual (fu:Nat) {w0:World} (Ac:List Pair) (a5:Int) (b6:Int) {v2:Value} {F3:List Nat} (Ab:rd w0 F3 [v2] Ac) {r:Bool}
    (h:d_impl_mutual fu Ac a5 b6 = some r) :
    Calls Tryz.prog 253 #[v2,I a5,I b6] w0 fun e w=>e = .returned (.bool (r)) ∧ Ext [] w0 w:=by
 refine enter (vs:=[_,_,_]) func253 z ntmps253 z fun a k=>?_
 have m:=St.start w0
 unfold d_impl_mutual at h
 refine wr (pN 1 k z fun a k=>nn (wr (pN 3 k z fun a k=>oE h fun x7 Ae h=>cE k m call179 z z z (c_impl_Beside fu _ _ _ (Enc.rd_agr Ab (m.a00 (Enc.rd_lt Ab))) Ae) fun Ag e a k m=>pN 1 k z fun a k=>bsplit (x7) (fun Aa=>?_) (fun Aa=>?_))))
 · have h:=bif_t Aa h
   refine rB k 11 z Aa fun k=>pN 3 k z fun a k=>oE h fun Ah Ad h=>cE k m call179 z z z (c_impl_Beside fu _ _ _ (Enc.rd_agr Ab (m.a00 (Enc.rd_lt Ab))) Ad) fun Af e a k m=>pN 2 k z fun a k=>nn (wp_ret (fS h k m z z))
 have h:=bif_f Aa h
 refine rB k 11 z Aa fun k=>pN 6 k z fun a k=>nn (wp_ret (fS h k m z z))
theorem c_impl_Groups_1_1 (fu:Nat) {w0:World} (x1:Int) (x2:List Pair) (x8:Int) {v5:Value} {F6:List Nat} {b3:Nat} (Ab:bx w0 b3 [v5] 34) (Ac:rd w0 F6 [v5] x2) {b9:Nat} (Aa:bx w0 b9 [I x8] 3) {r:Bool}
    (h:d_impl_Groups_1_1 fu x1 x2 x8 = some r) :
    Calls Tryz.prog 294 #[I x1,.pointer (some (⟨b3,0,none⟩:Addr)),.pointer (some (⟨b9,0,none⟩:Addr))] w0 fun e w=>e = .returned (.bool (r)) ∧ Ext [] w0 w:=by
 refine enter (vs:=[_,_,_]) func294 z ntmps294 z fun a k=>?_
 have m:=St.start w0
 unfold d_impl_Groups_1_1 at h
 refine wr (pN 1 k z fun a k=>nn (wr (sv k z (r_ld1 t134 (r:=[]) (Ab.at (m.a00 Ab.lt1) 0 1 z z z) k z z) fun a k=>sv k z (r_ld1 t13 (r:=[]) (Aa.at (m.a00 Aa.lt1) 0 1 z z z) k z z) fun a k=>pN 1 k z fun a k=>oE h fun Ae Ad h=>cE k m call253 z z z (c_impl_mutual fu _ _ _ (Enc.rd_agr Ac (m.a00 (Enc.rd_lt Ac))) Ad) fun Af e a k m=>pN 2 k z fun a k=>nn (wp_ret (fS h k m z z)))))
theorem c_slices_ContainsFunc_int_int (fu:Nat) {w0:World} (Aa:List Int) (f5:Int → Option Bool) {v2:Value} {F3:List Nat} (Ab:rd w0 F3 [v2] Aa) {v6:Value} (Ah:FnOk1 Tryz.prog w0 v6 f5) {r:Bool}
    (h:d_slices_ContainsFunc_int_int fu Aa f5 = some r) :
    Calls Tryz.prog 172 #[v2,v6] w0 fun e w=>e = .returned (.bool (r)) ∧ Ext [] w0 w:=by
 refine enter (vs:=[_,_]) func172 z ntmps172 z fun a k=>?_
 have m:=St.start w0
 obtain ⟨Aj,Ai,rfl,Ad,Af⟩:=Ah
 unfold d_slices_ContainsFunc_int_int at h
 refine wr (pN 1 k z fun a k=>nn (wr (pN 2 k z fun a k=>oE h fun Ak Ae h=>cE k m call241 z z z (c_slices_IndexFunc_int_int fu _ _ (Enc.rd_agr Ab (m.a00 (Enc.rd_lt Ab))) ⟨_,_,z,Ad,fun w Ac Ag r e=>Af w Ac Ag r (m.ext.trans e (by simp))⟩ Ae) fun Al e a k m=>pN 2 k z fun a k=>nn (wp_ret (fS h k m z z)))))
theorem c_impl_Groups_1 (fu:Nat) {w0:World} (l1:List Int) (x5:List Pair) (Ab:Int) {v2:Value} {F3:List Nat} (Ae:rd w0 F3 [v2] l1) {v8:Value} {F9:List Nat} {b6:Nat} (Af:bx w0 b6 [v8] 34) (Ad:rd w0 F9 [v8] x5) {Aa:Nat} (Ac:bx w0 Aa [I Ab] 3) {r:Bool}
    (h:d_impl_Groups_1 fu l1 x5 Ab = some r) :
    Calls Tryz.prog 293 #[v2,.pointer (some (⟨b6,0,none⟩:Addr)),.pointer (some (⟨Aa,0,none⟩:Addr))] w0 fun e w=>e = .returned (.bool (r)) ∧ Ext [] w0 w:=by
 refine enter (vs:=[_,_,_]) func293 z ntmps293 z fun a k=>?_
 have m:=St.start w0
 unfold d_impl_Groups_1 at h
 refine wr (pN 1 k z fun a k=>nn (wr (pN 2 k z fun a k=>oE h fun Al Ag h=>cE k m call172 z z z (c_slices_ContainsFunc_int_int fu _ _ (Enc.rd_agr Ae (m.a00 (Enc.rd_lt Ae))) ⟨294,[.pointer (some (⟨b6,0,none⟩:Addr)),.pointer (some (⟨Aa,0,none⟩:Addr))],z,call294,fun w Ak Aj r e Ah hx=>by subst Ah; have m:=m.step e; exact c_impl_Groups_1_1 fu _ _ _ (Af.agr (m.a00 Af.lt1) (by simp)) (Enc.rd_agr Ad (m.a00 (Enc.rd_lt Ad))) (Ac.agr (m.a00 Ac.lt1) (by simp)) hx⟩ Ag) fun Ai e a k m=>pN 2 k rfl fun a k=>nn (wp_ret (fS h k m rfl rfl)))))
theorem c_slices_IndexFunc_ints_int (fu:Nat) {w0:World} (Ac:List (List Int)) (f5:(List Int) → Option Bool) {v2:Value} {F3:List Nat} (Aa:rd w0 F3 [v2] Ac) {v6:Value} (Aq:FnOk1 Tryz.prog w0 v6 f5) {r:Int}
    (h:d_slices_IndexFunc_ints_int fu Ac f5 = some r) :
    Calls Tryz.prog 246 #[v2,v6] w0 fun e w=>e = .returned (I r) ∧ Ext [] w0 w:=by
 refine enter (vs:=[_,_]) func246 z ntmps246 z fun a k=>?_
 have m:=St.start w0
 obtain ⟨Ai,Ag,rfl,Ao,Ah⟩:=Aq
 unfold d_slices_IndexFunc_ints_int at h
 refine wr (pN 1 k z fun a k=>nn (wp_seq (wr (pN 1 k z fun a k=>sv k z (r_len (α:=List Int) Aa k underlying29 z z) fun a k=>pN 1 k z fun a k=>nn (wp_block (c_loop (fun n a w=>∃ (Ab:Int),K 19 [(0,v2),(1,(.func (.func Ai) #[] Ag.toArray)),(7,I ((Ac.length:Int))),(8,I Ab)] a ∧ St [] w0 w [] ∧ d_slices_IndexFunc_ints_int_L1 fu Ac f5 n Ab = some r) ?_ ?_ fu _ _ ?_))))))
 · rintro a w ⟨_,_,_,h⟩
   exact nS h
 · rintro As a Av ⟨Ab,k,m,h⟩
   rw [d_slices_IndexFunc_ints_int_L1_s] at h
   unfold d_slices_IndexFunc_ints_int_L1_B at h
   refine wr (pN 1 k z fun a k=>nn (wp_seq (cI h k z (fun Ap h=>?_) fun Ap h=>?_)))
   · refine wp_skip (nm_then ?_)
     refine wp_seq (wp_block (wr (pN 2 k z fun a k=>nn (wr (pN 3 k z fun a k=>oE h fun Ar Ae h=>sv k z (r_ixa Aa Ae k ts29 z z z) fun a k=>?_)))))
     obtain ⟨Aw,Al,At,Ad,Am,Aj⟩:=rd_get Aa (ix_some Ae).2.2
     obtain ⟨Az,rfl⟩:∃ v,Al = [v]:=by obtain ⟨_,_,hq,_⟩:=Ad; exact ⟨_,hq⟩
     refine sv k z (r_ld1 t163 (Am.agr (m.a00 (Enc.rd_lt Aa)) Aj) k z z) fun a k=>oE h fun Ax Ak h=>s_callv k Ao z z z z z z (Ah _ _ _ _ m.ext ⟨_,(Enc.rd_agr Ad (m.a00 (Enc.rd_lt Ad)))⟩ Ak) fun Ay Au hR=>?_
     obtain ⟨rfl,e⟩:=hR
     refine ⟨_,z,fun a k=>?_⟩
     have m:=m.step e
     refine nn (cI h k z (fun Af h=>?_) fun Af h=>?_)
     · refine wr (pN 2 k z fun a k=>nn (wp_ret (rt_block (rt_then (rt_then (rt_block (rt_then ?_)))))))
       refine fS h k m z z
     refine wp_skip (nm_block (nm_then ?_))
     refine wp_region_lit (pN 2 k z fun a k=>nn ?_)
     exact ⟨w64 (Ab + 1),k.keep [0,1,7,8] z,m.sel [] z (by decide),h⟩
   refine wp_exit (ex_then (ex_then (ex_same (nm_then ?_))))
   refine wr (pN 1 k z fun a k=>nn (wp_ret (fS h k m z z)))
 exact ⟨0,k.keep [0,1,7,8] z,m.sel [] z (by decide),h⟩
theorem c_impl_Groups (fu:Nat) {w0:World} (Am:List Pair) (Bd:List Int) {v2:Value} {F3:List Nat} (Ax:rd w0 F3 [v2] Am) {v6:Value} {F7:List Nat} (Bl:rd w0 F7 [v6] Bd) {r:(List (List Int))}
    (h:d_impl_Groups fu Am Bd = some r) :
    Calls Tryz.prog 245 #[v2,v6] w0 fun e w=>∃ (v0:Value) (G0:List Nat),e = .returned (v0) ∧ Ext [] w0 w ∧ ow w G0 [v0] r ∧ (∀ b ∈ G0,w0.heap.size ≤ b):=by
 refine enter (vs:=[_,_]) func245 z ntmps245 z fun a k=>?_
 have m:=St.start w0
 unfold d_impl_Groups at h
 refine wr (s_box (cs:=[v2]) m k z z z z z (rd_c Ax) fun b9 Ap a k m e Bp=>pN 1 k z fun a k=>nn (wr (s_bs (cs:=[]) (ps:=[]) te29 m k z z z z z z z (by decide) z (by exact (List.forall_mem_nil _)) fun Bf Dw Fc a k m e Dq=>?_)))
 have Ee:=ow_bx0 (α:=List Int) Dq
 refine pN 1 k z fun a k=>nn (wp_seq (wr (pN 1 k z fun a k=>oE h fun Ao Cf h=>s_call k call178 z z z z z (c_impl_kinds fu _ (Enc.rd_agr Bl (m.a00 (Enc.rd_lt Bl))) Cf) fun Gf Aj hR=>?_)))
 obtain ⟨Bc,Ai,rfl,e,Ah,Bv⟩:=hR
 refine ⟨_,z,fun a k=>?_⟩
 have m:=m.new e Ai (fun b hb=>⟨Bv b hb,Enc.rd_lt (Enc.ow_rd Ah) b hb⟩) (Enc.ow_nd Ah)
 refine sv k z (r_len (α:=Int) (Enc.ow_rd Ah) k underlying63 z z) fun a k=>pN 1 k z fun a k=>nn (wp_block (c_loop (fun n a w=>∃ (Af:List (List Int)) (Ag:Value) (Ac:List Nat) (As:World) (Ae:Int),K 42 [(2,.pointer (some (⟨b9,0,none⟩:Addr))),(5,Ag),(11,Bc),(12,I ((Ao.length:Int))),(13,I Ae)] a ∧ St [] w0 w [([b9],Ap),(Ai,Aj),(Ac,As)] ∧ ow As Ac [Ag] Af ∧ d_impl_Groups_L1 fu Am Ao n Af Ae = some r) ?_ ?_ fu _ _ ?_))
 · rintro a w ⟨_,_,_,_,_,_,_,_,h⟩
   exact nS h
 · rintro Dj a Fn ⟨Af,Ag,Ac,As,Ae,k,m,Aa,h⟩
   rw [d_impl_Groups_L1_s] at h
   unfold d_impl_Groups_L1_B at h
   refine wr (pN 1 k z fun a k=>nn (wp_seq (cI h k z (fun Cs h=>?_) fun Cs h=>?_)))
   · refine wp_skip (nm_then ?_)
     refine c_cut (fun a w=>∃ (Aq:List (List Int)) (At:Value) (Ak:List Nat) (Ar:World),K 42 [(2,.pointer (some (⟨b9,0,none⟩:Addr))),(5,At),(11,Bc),(12,I ((Ao.length:Int))),(13,I Ae)] a ∧ St [] w0 w [([b9],Ap),(Ai,Aj),(Ak,Ar)] ∧ ow Ar Ak [At] Aq ∧ d_impl_Groups_J1 fu (d_impl_Groups_L1 fu Am Ao Dj) Ae Aq = some r) ?_ ?_
     · rintro a Fp ⟨Aq,At,Ak,Ar,k,m,Ck,h⟩
       unfold d_impl_Groups_J1 at h
       refine wp_region_lit (pN 2 k z fun a k=>nn ?_)
       exact ⟨Aq,At,Ak,Ar,w64 (Ae + 1),k.keep [2,5,11,12,13] z,m.sel [0,1,2] z (by decide),Ck,h⟩
     refine wp_block (wr (oE h fun Ad Az h=>sv k z (r_ixa (Enc.ow_rd Ah) Az k ts63 z z z) fun a k=>sv k z (r_lde1 (Enc.ow_rd Ah) (m.a 1 z) Az 0 t13 k z z z z) fun a k=>s_alloc (cs:=[I 0]) m k zeroValue3 z z z z z fun Au Gi a k m e Ca=>s_stb (cs':=[I Ad]) sizeOf3 m 0 Ca 0 k z z z z z z z z z z z fun Be a k e m Al=>nn (wp_seq (wr (sv k z (r_ldb t13 m 0 Al 0 k z z z z z) fun a k=>oE h fun En Dp h=>cE k m call139 z z z (c_impl_in fu _ _ _  Dp) fun Eh e a k m=>pN 1 k z fun a k=>nn (cI h k z (fun Cu h=>?_) fun Cu h=>?_))))))
     · refine wp_exit (ex_then (ex_same (nm_then ?_)))
       exact ⟨Af,Ag,Ac,As,k.keep [2,5,11,12,13] z,m.sel [1,2,3] z (by decide),Aa,h⟩
     refine wp_skip (nm_then ?_)
     refine wr (pN 2 k z fun a k=>oE h fun Bh Bt h=>cE k m call246 z z z (c_slices_IndexFunc_ints_int fu _ _ (Enc.rd_agr (Enc.ow_rd Aa) (m.a 3 z)) ⟨293,[.pointer (some (⟨b9,0,none⟩:Addr)),.pointer (some (⟨Au,0,none⟩:Addr))],z,call293,fun w Fs Gh r e Ay hx=>by obtain ⟨_,Ay⟩:=Ay; have m:=m.step e; exact c_impl_Groups_1 fu _ _ _ Ay (Bp.agr (m.a 1 z) (by simp)) (Enc.rd_agr Ax (m.a00 (Enc.rd_lt Ax))) (Al.agr (m.a 0 z) (by simp)) hx⟩ Bt) fun Ej e a k m=>pN 1 k z fun a k=>nn (wr (pN 2 k z fun a k=>nn (cI h k z (fun Cv h=>?_) fun Cv h=>?_))))
     · refine wp_region_lit (pN 1 k z fun a k=>sv k z (r_ldb t13 m 0 Al 0 k z z z z z) fun a k=>s_bs (cs:=[I Ad]) (ps:=[(0,.tmp 26)]) te63 m k z z z z z z z (by decide) z (by exact (List.forall_mem_cons.2 ⟨z,(List.forall_mem_nil _)⟩)) fun Bb Fw Fd a k m e Bz=>?_)
       have Bk:=ow_bx Bz ([Ad]:List Int) z z z
       refine s_bs (cs:=[(.slice (some ⟨Bb,0,none⟩) 1 1)]) (ps:=[(0,.tmp 27)]) te29 m k z z z z z z z (by decide) z (by exact (List.forall_mem_cons.2 ⟨congrArg Array.size (rd_c (Enc.ow_rd Bk)),(List.forall_mem_nil _)⟩)) fun Fv Fr Eo a k m e Dd=>oE h fun Ch Ds h=>?_
       have Cc:=Enc.ow_agr Bk (m.a 1 z)
       have Dn:=News.box Dd (m.a 0 z) (by simp) (m:=1)
       have Dl:=m.a 5 z
       have m:=m.sel [5,1,0,2,3,4] z (by decide)
       have m:=m.join2
       refine s_appO (F:=Ac) (G:=[Bb]) Ds te29 z m Aa Dl Dn Cc (Agr.refl _ _) k z z z z z z fun Db Cj Bs a k e m Di=>pN 1 k z fun a k=>wpList_nil (nm_block (nm_then ?_))
       exact ⟨Ch,Db,Cj,Bs,k.keep [2,5,11,12,13] z,m.sel [3,4,0] z (by decide),Di,h⟩
     refine d_go (Ac) mixo m z fun Ce hMd=>?_
     have m:=hMd
     have s:=Ext.refl ((Ac):List Nat) Ce
     refine dN [0,1,2,3] 4 z k (by kernel_rfl) z s (fun _ _ _ _ _=>id) fun a k=>oE h fun Fe Ab h=>dt k 4 z (by kernel_rfl) z s (fun _ _ _=>id) (fun w s=>r_ixa (Enc.ow_rd Aa) Ab k ts29 z z z) fun a k=>?_
     obtain ⟨Fg,Dm,Fi,Cn,Fx,Fl⟩:=rd_get (Enc.ow_rd Aa) (ix_some Ab).2.2
     obtain ⟨Eg,rfl⟩:∃ v,Dm = [v]:=by obtain ⟨_,_,hq,_⟩:=Cn; exact ⟨_,hq⟩
     refine dt k 6 z (by kernel_rfl) z s (fun _ _ _=>id) (fun w s=>r_ld1 t13 (r:=[]) (Al.at (hMd.az 0 3 z z z s) 0 1 z z z) k z z) fun a k=>?_
     obtain ⟨Em,Bu,Et,Dv,Fk,Es⟩:=rd_get (Enc.ow_rd Aa) (ix_some Ab).2.2
     obtain ⟨El,rfl⟩:∃ v,Bu = [v]:=by obtain ⟨_,_,hq,_⟩:=Dv; exact ⟨_,hq⟩
     refine d_two 5 7 (by kernel_rfl) z z ?_ ?_ 
     · obtain ⟨Er,Co,Fq,Dg,Bg,Bn⟩:=rd_get (Enc.ow_rd Aa) (ix_some Ab).2.2
       obtain ⟨Fh,rfl⟩:∃ v,Co = [v]:=by obtain ⟨_,_,hq,_⟩:=Dg; exact ⟨_,hq⟩
       refine sv k z (r_ld1 t163 (Bg.agr (m.a 3 z) Bn) k z z) fun a k=>wpList_nil ⟨s,?_⟩
       refine d_one 7 (by kernel_rfl) z (s_bsN (cs:=[I Ad]) (ps:=[(0,.tmp 36)]) te63 m k z z z z z z z (by decide) z (by exact (List.forall_mem_cons.2 ⟨z,(List.forall_mem_nil _)⟩)) fun Du Dr Gd a k m e Cp Cz=>?_)
       have Ep:=lo1 (Nat.le_trans s.size Cz)
       have Ea:=ow_bx Cp ([Ad]:List Int) z z z
       have s:=s.trans e (by simp)
       refine wpList_nil ⟨s,?_⟩
       refine d_one 8 (by kernel_rfl) z ?_
       obtain ⟨Fy,Ga,m,Cy,Dk,Cx,Ba⟩:=m.opnS 4 z Aa Ab Bg z (M':=[([Du],Dr),([Au],Be),([b9],Ap),(Ai,Aj)]) z
       refine oE h fun Dh Bm h=>s_appFN Bm te63 z m 1 Dk (News.rd (Enc.rd_agr (Enc.ow_rd Ea) (m.a 2 z))) z z k z z z z z z z fun By Bq Gg a k e m Av Cw=>?_
       have Eu:∀ y ∈ Bq,y ∈ (Ac) ∨ _ ≤ y:=fun y hy=>(Cw y hy).elim (fun hy=>(fun y hy=>(fun y hy=>Or.inl hy) y (Ba y hy)) y hy) (fun h=>Or.inr (Nat.le_trans s.size h))
       have s:=s.trans e (fun y hy=>(fun y hy=>Or.inl hy) y (Ba y hy))
       refine wpList_nil ⟨s,?_⟩
       refine oE h fun Ff Ey h=>dt k 9 z (by kernel_rfl) z s (fun _ _ _=>id) (fun w s=>r_ixa (Enc.ow_rd Aa) Ab k ts29 z z z) fun a k=>d_one 10 (by kernel_rfl) z (s_stH1 (α:=List Int) (sz:=1) (cs':=[By]) sizeOf63 m 0 Cy 0 k (rd_c (Enc.ow_rd Av)) (rd_o (Enc.ow_rd Av)) z z z z z z z z z z fun Eb a k e m Cd=>?_)
       obtain ⟨Bw,m,Cl⟩:=(m.sel [0,1,2,3,4,5] z (by decide)).cls Cd Av
       have s:=s.trans e (fun y hy=>(fun y hy=>Or.inl hy) y (Cx y hy))
       refine wpList_nil ⟨s,?_⟩
       refine d_done (by kernel_rfl) ?_
       have k:=k.keep [2,11,12,5,13] z
       refine (nm_block (nm_then ?_))
       exact ⟨setx Af Bh Dh,Ag,Bw,Eb,k.keep [2,5,11,12,13] z,m.sel [3,4,0] z (by decide),Cl,h⟩
     refine s_bsN (cs:=[I Ad]) (ps:=[(0,.tmp 36)]) te63 m k z z z z z z z (by decide) z (by exact (List.forall_mem_cons.2 ⟨z,(List.forall_mem_nil _)⟩)) fun Ct Bo Ei a k m e Cb Dx=>?_
     have Gc:=lo1 (Nat.le_trans s.size Dx)
     have Cq:=ow_bx Cb ([Ad]:List Int) z z z
     have s:=s.trans e (by simp)
     refine wpList_nil ⟨s,?_⟩
     obtain ⟨Gb,Dz,Ez,Br,Fu,Ft⟩:=rd_get (Enc.ow_rd Aa) (ix_some Ab).2.2
     obtain ⟨Ek,rfl⟩:∃ v,Dz = [v]:=by obtain ⟨_,_,hq,_⟩:=Br; exact ⟨_,hq⟩
     refine d_one 5 (by kernel_rfl) z ?_
     obtain ⟨Ex,Da,Ev,Ec,Bi,Do⟩:=rd_get (Enc.ow_rd Aa) (ix_some Ab).2.2
     obtain ⟨Fj,rfl⟩:∃ v,Da = [v]:=by obtain ⟨_,_,hq,_⟩:=Ec; exact ⟨_,hq⟩
     refine sv k z (r_ld1 t163 (Bi.agr (m.a 4 z) Do) k z z) fun a k=>wpList_nil ⟨s,?_⟩
     refine d_one 8 (by kernel_rfl) z ?_
     obtain ⟨Ew,Fm,m,Dc,Df,Cg,Bj⟩:=m.opnS 4 z Aa Ab Bi z (M':=[([Ct],Bo),([Au],Be),([b9],Ap),(Ai,Aj)]) z
     refine oE h fun Dt Cm h=>s_appFN Cm te63 z m 1 Df (News.rd (Enc.rd_agr (Enc.ow_rd Cq) (m.a 2 z))) z z k z z z z z z z fun De Ci Ge a k e m Aw Bx=>?_
     have Fa:∀ y ∈ Ci,y ∈ (Ac) ∨ _ ≤ y:=fun y hy=>(Bx y hy).elim (fun hy=>(fun y hy=>(fun y hy=>Or.inl hy) y (Bj y hy)) y hy) (fun h=>Or.inr (Nat.le_trans s.size h))
     have s:=s.trans e (fun y hy=>(fun y hy=>Or.inl hy) y (Bj y hy))
     refine wpList_nil ⟨s,?_⟩
     refine oE h fun Fz Fb h=>dt k 9 z (by kernel_rfl) z s (fun _ _ _=>id) (fun w s=>r_ixa (Enc.ow_rd Aa) Ab k ts29 z z z) fun a k=>d_one 10 (by kernel_rfl) z (s_stH1 (α:=List Int) (sz:=1) (cs':=[De]) sizeOf63 m 0 Dc 0 k (rd_c (Enc.ow_rd Aw)) (rd_o (Enc.ow_rd Aw)) z z z z z z z z z z fun Dy a k e m Ef=>?_)
     obtain ⟨Cr,m,Ed⟩:=(m.sel [0,1,2,3,4,5] z (by decide)).cls Ef Aw
     have s:=s.trans e (fun y hy=>(fun y hy=>Or.inl hy) y (Cg y hy))
     refine wpList_nil ⟨s,?_⟩
     refine d_done (by kernel_rfl) ?_
     have k:=k.keep [2,11,12,5,13] z
     refine (nm_block (nm_then ?_))
     exact ⟨setx Af Bh Dt,Ag,Cr,Dy,k.keep [2,5,11,12,13] z,m.sel [3,4,0] z (by decide),Ed,h⟩
   refine wp_exit (ex_then (ex_then (ex_same (nm_then ?_))))
   refine wr (pN 2 k z fun a k=>nn (wp_ret ?_))
   cases h
   exact finR1 k z (RV.tmp k z) ⟨_,Ac,z,m.ext,(Enc.ow_agr Aa (m.a 2 z)),(m.fresh 2 z)⟩
 exact ⟨([]:List (List Int)),(.slice (some ⟨Bf,0,none⟩) 0 0),[Bf],Dw,0,k.keep [2,5,11,12,13] z,m.sel [2,0,1] z (by decide),Ee,h⟩
theorem c_impl_GroupsOf (fu:Nat) {w0:World} (r1:Request) {Aj:List Value} {F3:List Nat} (Al:rd w0 F3 Aj r1) {r:(List (List Int))}
    (h:d_impl_GroupsOf fu r1 = some r) :
    Calls Tryz.prog 162 #[.agg Aj.toArray] w0 fun e w=>∃ (v0:Value) (G0:List Nat),e = .returned (v0) ∧ Ext [] w0 w ∧ ow w G0 [v0] r ∧ (∀ b ∈ G0,w0.heap.size ≤ b):=by
 refine enter (vs:=[_]) func162 z ntmps162 z fun a k=>?_
 have m:=St.start w0
 obtain ⟨v5,F6,v7,F8,v9,Ay,rfl,rfl,Aa,Ac,Ab⟩:=Al
 unfold d_impl_GroupsOf at h
 refine wr (s_box (cs:=[I r1.fWay,I r1.fPallet.fW,I r1.fPallet.fD,I r1.fPallet.fH,I r1.fPallet.fGram,I r1.fClasses,v5,v7,I r1.fMaster,v9]) m k z z z z z z fun Au Be a k m e Af=>pN 1 k z fun a k=>nn (wp_seq (wr (sv k z (r_ldB ta38 m 0 Af 0 k z z z z z z) fun a k=>oE h fun Ax Am h=>?_))))
 refine cE k m call115 z z z (c_impl_sound fu _ (show rd _ _ [I r1.fWay,I r1.fPallet.fW,I r1.fPallet.fD,I r1.fPallet.fH,I r1.fPallet.fGram,I r1.fClasses,v5,v7,I r1.fMaster,v9] (r1:Request) from ⟨_,_,_,_,_,_,z,z,(Enc.rd_agr Aa (m.a00 (Enc.rd_lt Aa))),(Enc.rd_agr Ac (m.a00 (Enc.rd_lt Ac))),(Enc.rd_agr Ab (m.a00 (Enc.rd_lt Ab)))⟩) Am) fun As e a k m=>pN 1 k z fun a k=>nn (cI h k z (fun Aq h=>?_) fun Aq h=>?_)
 · refine wr (pN 1 k z fun a k=>nn (wp_ret (rt_then ?_)))
   cases h
   exact finR1 k z (RV.tmp k z) ⟨_,[],z,m.ext,(ow_nil _),(by simp)⟩
 refine wp_skip (nm_then ?_)
 refine wp_seq (d_go [] mixo m z fun Ar hMd=>?_)
 have m:=hMd
 have s:=Ext.refl ([]:List Nat) Ar
 refine dt k 0 z (by kernel_rfl) z s (fun _ _ _=>id) (fun w s=>r_fa fa38_3 k z z) fun a k=>dt k 1 z (by kernel_rfl) z s (fun _ _ _=>id) (fun w s=>r_ld1 t134 (r:=[]) (Af.at ((hMd.step s).a 0 z) 6 1 z z z) k z z) fun a k=>dt k 2 z (by kernel_rfl) z s (fun _ _ _=>id) (fun w s=>r_ldA ta38 (Af.at ((hMd.step s).a 0 z) 0 10 z z z) z k z z) fun a k=>d_one 3 (by kernel_rfl) z (oE h fun Bb Ao h=>?_)
 refine s_call k call68 z z z z z (c_impl_Present fu _ (show rd _ _ [I r1.fWay,I r1.fPallet.fW,I r1.fPallet.fD,I r1.fPallet.fH,I r1.fPallet.fGram,I r1.fClasses,v5,v7,I r1.fMaster,v9] (r1:Request) from ⟨_,_,_,_,_,_,z,z,(Enc.rd_agr Aa (m.a00 (Enc.rd_lt Aa))),(Enc.rd_agr Ac (m.a00 (Enc.rd_lt Ac))),(Enc.rd_agr Ab (m.a00 (Enc.rd_lt Ab)))⟩) Ao) fun Bc Bf hR=>?_
 obtain ⟨Az,Ak,rfl,e,Ad,Ah⟩:=hR
 refine ⟨_,z,fun a k=>?_⟩
 have m:=m.new e Ak (fun b hb=>⟨Ah b hb,Enc.rd_lt (Enc.ow_rd Ad) b hb⟩) (Enc.ow_nd Ad)
 have At:=fun (y:Nat) (hy:y ∈ Ak)=>Nat.le_trans s.size (Ah y hy)
 have s:=s.trans e (by simp)
 refine wpList_nil ⟨s,?_⟩
 refine d_one 4 (by kernel_rfl) z (oE h fun Aw Ap h=>s_call k call245 z z z z z (c_impl_Groups fu _ _ (Enc.rd_agr Aa (m.a00 (Enc.rd_lt Aa))) (Enc.rd_agr (Enc.ow_rd Ad) (m.a 0 z)) Ap) fun Av Ba hR=>?_)
 obtain ⟨Bg,Ae,rfl,e,Ag,Ai⟩:=hR
 refine ⟨_,z,fun a k=>?_⟩
 have m:=m.new e Ae (fun b hb=>⟨Ai b hb,Enc.rd_lt (Enc.ow_rd Ag) b hb⟩) (Enc.ow_nd Ag)
 have Bd:=fun (y:Nat) (hy:y ∈ Ae)=>Nat.le_trans s.size (Ai y hy)
 have s:=s.trans e (by simp)
 refine wpList_nil ⟨s,?_⟩
 refine dN [5] 1 z k (by kernel_rfl) z s (fun _ _ _ _ _=>id) fun a k=>d_done (by kernel_rfl) ((nm_then ?_))
 refine wp_ret ?_
 cases h
 exact finR1 k z (RV.tmp k z) ⟨_,Ae,z,m.ext,(Enc.ow_agr Ag (m.a 0 z)),(m.fresh 0 z)⟩
theorem c_slices_Index_int_int (fu:Nat) {w0:World} (Aa:List Int) (v5:Int) {v2:Value} {F3:List Nat} (Ab:rd w0 F3 [v2] Aa) {r:Int}
    (h:d_slices_Index_int_int fu Aa v5 = some r) :
    Calls Tryz.prog 242 #[v2,I v5] w0 fun e w=>e = .returned (I r) ∧ Ext [] w0 w:=by
 refine enter (vs:=[_,_]) func242 z ntmps242 z fun a k=>?_
 have m:=St.start w0
 unfold d_slices_Index_int_int at h
 refine wr (pN 1 k z fun a k=>nn (wp_seq (wr (pN 1 k z fun a k=>sv k z (r_len (α:=Int) Ab k underlying63 z z) fun a k=>pN 1 k z fun a k=>nn (wp_block (c_loop (fun n a w=>∃ (Ac:Int),K 19 [(0,v2),(1,I v5),(7,I ((Aa.length:Int))),(8,I Ac)] a ∧ St [] w0 w [] ∧ d_slices_Index_int_int_L1 fu Aa v5 n Ac = some r) ?_ ?_ fu _ _ ?_))))))
 · rintro a w ⟨_,_,_,h⟩
   exact nS h
 · rintro Ai a Ag ⟨Ac,k,m,h⟩
   rw [d_slices_Index_int_int_L1_s] at h
   unfold d_slices_Index_int_int_L1_B at h
   refine wr (pN 1 k z fun a k=>nn (wp_seq (cI h k z (fun Ae h=>?_) fun Ae h=>?_)))
   · refine wp_skip (nm_then ?_)
     refine wp_seq (wp_block (wr (pN 2 k z fun a k=>nn (wr (pN 3 k z fun a k=>oE h fun Ah Ad h=>sv k z (r_ixa Ab Ad k ts63 z z z) fun a k=>sv k z (r_lde1 Ab (m.a00 (Enc.rd_lt Ab)) Ad 0 t13 k z z z z) fun a k=>pN 1 k z fun a k=>nn (cI h k z (fun Af h=>?_) fun Af h=>?_))))))
     · refine wr (pN 2 k z fun a k=>nn (wp_ret (rt_block (rt_then (rt_then (rt_block (rt_then ?_)))))))
       refine fS h k m z z
     refine wp_skip (nm_block (nm_then ?_))
     refine wp_region_lit (pN 2 k z fun a k=>nn ?_)
     exact ⟨w64 (Ac + 1),k.keep [0,1,7,8] z,m.sel [] z (by decide),h⟩
   refine wp_exit (ex_then (ex_then (ex_same (nm_then ?_))))
   refine wr (pN 1 k z fun a k=>nn (wp_ret (fS h k m z z)))
 exact ⟨0,k.keep [0,1,7,8] z,m.sel [] z (by decide),h⟩
theorem c_slices_Contains_int_int (fu:Nat) {w0:World} (Aa:List Int) (v5:Int) {v2:Value} {F3:List Nat} (Ab:rd w0 F3 [v2] Aa) {r:Bool}
    (h:d_slices_Contains_int_int fu Aa v5 = some r) :
    Calls Tryz.prog 160 #[v2,I v5] w0 fun e w=>e = .returned (.bool (r)) ∧ Ext [] w0 w:=by
 refine enter (vs:=[_,_]) func160 z ntmps160 z fun a k=>?_
 have m:=St.start w0
 unfold d_slices_Contains_int_int at h
 refine wr (pN 1 k z fun a k=>nn (wr (pN 2 k z fun a k=>oE h fun x6 Ac h=>cE k m call242 z z z (c_slices_Index_int_int fu _ _ (Enc.rd_agr Ab (m.a00 (Enc.rd_lt Ab))) Ac) fun w9 e a k m=>pN 2 k z fun a k=>nn (wp_ret (fS h k m z z)))))
theorem c_impl_cartonFault_1 (fu:Nat) {w0:World} (y1:Item) (x2:Carton) (x8:List (List Int)) {v5:Value} {F6:List Nat} {b3:Nat} (Ab:bx w0 b3 [I x2.fType,I x2.fGroup,v5] 83) (At:rd w0 F6 [v5] x2.fUnits) {Ag:Value} {Al:List Nat} {b9:Nat} (Ad:bx w0 b9 [Ag] 29) (Ac:rd w0 Al [Ag] x8) {r:Bool}
    (h:d_impl_cartonFault_1 fu y1 x2 x8 = some r) :
    Calls Tryz.prog 226 #[.agg (Flat.e (y1)).toArray,.pointer (some (⟨b3,0,none⟩:Addr)),.pointer (some (⟨b9,0,none⟩:Addr))] w0 fun e w=>e = .returned (.bool (r)) ∧ Ext [] w0 w:=by
 refine enter (vs:=[_,_,_]) func226 z ntmps226 z fun a k=>?_
 have m:=St.start w0
 unfold d_impl_cartonFault_1 at h
 refine wr (s_box (cs:=[I y1.fId,I y1.fW,I y1.fH,I y1.fD,I y1.fGram,I y1.fClass,I y1.fCount]) m k z z z z z z fun Ap Av a k m e Aj=>pN 1 k z fun a k=>nn (wp_seq (d_go [] mixo m z fun Am hMd=>?_)))
 have m:=hMd
 have s:=Ext.refl ([]:List Nat) Am
 refine dt k 0 z (by kernel_rfl) z s (fun _ _ _=>id) (fun w s=>r_fa fa83_1 k z z) fun a k=>dt k 1 z (by kernel_rfl) z s (fun _ _ _=>id) (fun w s=>r_ld1 t13 (r:=[]) (Ab.at ((hMd.step s).a00 Ab.lt1) 1 1 z z z) k z z) fun a k=>dt k 2 z (by kernel_rfl) z s (fun _ _ _=>id) (fun w s=>r_ld1 t129 (r:=[]) (Ad.at ((hMd.step s).a00 Ad.lt1) 0 1 z z z) k z z) fun a k=>dt k 3 z (by kernel_rfl) z s (fun _ _ _=>id) (fun w s=>r_len (α:=List Int) Ac k underlying29 z z) fun a k=>dN [4,5] 2 z k (by kernel_rfl) z s (fun _ _ _ _ _=>id) fun a k=>bsplit (decide (x2.fGroup ≥ ((x8.length:Int)))) (fun Aa=>?_) (fun Aa=>?_)
 · have h:=bif_t Aa h
   refine rB k 10 z Aa fun k=>dN [6,7,8,9,10,11,12,13,14,15,16] 11 z k (by kernel_rfl) z s (fun _ _ _ _ _=>id) fun a k=>d_done (by kernel_rfl) ((nm_then ?_))
   refine wp_ret (fS h k m z z)
 have h:=bif_f Aa h
 refine rB k 10 z Aa fun k=>dt k 6 z (by kernel_rfl) z s (fun _ _ _=>id) (fun w s=>r_ld1 t129 (r:=[]) (Ad.at ((hMd.step s).a00 Ad.lt1) 0 1 z z z) k z z) fun a k=>dt k 7 z (by kernel_rfl) z s (fun _ _ _=>id) (fun w s=>r_fa fa83_1 k z z) fun a k=>dt k 8 z (by kernel_rfl) z s (fun _ _ _=>id) (fun w s=>r_ld1 t13 (r:=[]) (Ab.at ((hMd.step s).a00 Ab.lt1) 1 1 z z z) k z z) fun a k=>oE h fun As Af h=>dt k 9 z (by kernel_rfl) z s (fun _ _ _=>id) (fun w s=>r_ixa Ac Af k ts29 z z z) fun a k=>?_
 obtain ⟨Ar,Ak,Au,Ae,Ao,Ah⟩:=rd_get Ac (ix_some Af).2.2
 obtain ⟨Ax,rfl⟩:∃ v,Ak = [v]:=by obtain ⟨_,_,hq,_⟩:=Ae; exact ⟨_,hq⟩
 refine dt k 10 z (by kernel_rfl) z s (fun _ _ _=>id) (fun w s=>r_ld1 t163 (Ao.agr ((hMd.step s).a00 (Enc.rd_lt Ac)) Ah) k z z) fun a k=>dt k 11 z (by kernel_rfl) z s (fun _ _ _=>id) (fun w s=>r_fa fa158_5 k z z) fun a k=>dt k 12 z (by kernel_rfl) z s (fun _ _ _=>id) (fun w s=>r_ld1 t13 (r:=[]) (Aj.at ((hMd.step s).a 0 z) 5 1 z z z) k z z) fun a k=>d_one 13 (by kernel_rfl) z (oE h fun Aw Ai h=>cE k m call160 z z z (c_slices_Contains_int_int fu _ _ (Enc.rd_agr Ae (m.a00 (Enc.rd_lt Ae))) Ai) fun Aq e a k m=>?_)
 have s:=s.trans e (by simp)
 refine wpList_nil ⟨s,?_⟩
 refine dN [14,15,16] 3 z k (by kernel_rfl) z s (fun _ _ _ _ _=>id) fun a k=>d_done (by kernel_rfl) ((nm_then ?_))
 refine wp_ret (fS h k m z z)
theorem c_impl_Cheapest (fu:Nat) {w0:World} (r1:Request) (Aq:List Int) {Bc:List Value} {F3:List Nat} (Bg:rd w0 F3 Bc r1) {v6:Value} {F7:List Nat} (Bb:rd w0 F7 [v6] Aq) {r:Typ × Bool}
    (h:d_impl_Cheapest fu r1 Aq = some r) :
    Calls Tryz.prog 208 #[.agg Bc.toArray,v6] w0 fun e w=>e = .returned (.tuple #[.agg (Flat.e r.1).toArray,.bool (r.2)]) ∧ Ext [] w0 w:=by
 refine enter (vs:=[_,_]) func208 z ntmps208 z fun a k=>?_
 have m:=St.start w0
 obtain ⟨v9,Bz,Ao,Ca,Az,Cd,rfl,rfl,Ba,Ai,Ax⟩:=Bg
 unfold d_impl_Cheapest at h
 refine wr (s_box (cs:=[I r1.fWay,I r1.fPallet.fW,I r1.fPallet.fD,I r1.fPallet.fH,I r1.fPallet.fGram,I r1.fClasses,v9,Ao,I r1.fMaster,Az]) m k z z z z z z fun At Aw a k m e Au=>s_alloc (cs:=[I 0,I 0,I 0,I 0,I 0,I 0,I 0]) m k zeroValue79 z z z z z fun Ap Ay a k m e Bs=>pN 1 k z fun a k=>nn (wr (sv k z (r_build bt79 k (cs:=#[I 0,I 0,I 0,I 0,I 0,I 0,I 0]) (ps:=[]) z z (by kernel_rfl)) fun a k=>?_)))
 refine s_alloc (cs:=[I 0,I 0,I 0,I 0,I 0,I 0,I 0]) m k zeroValue79 z z z z z fun Aj Cc a k m e Bt=>s_stb (cs':=[I 0,I 0,I 0,I 0,I 0,I 0,I 0]) sizeOf79 m 0 Bt 0 k z z z z z z z z z z z fun Bj a k e m Bi=>pN 1 k z fun a k=>nn (wp_seq (wr (sv k z (r_fa fa38_4 k z z) fun a k=>sv k z (r_ldb t135 m 2 Au 7 k z z z z z) fun a k=>sv k z (r_len (α:=Typ) Ai k underlying35 z z) fun a k=>pN 1 k z fun a k=>nn (wp_block ?_))))
 refine c_loop (fun n a w=>∃ (Ab:Typ) (Ag:World) (Ae:Bool) (Ah:Int),K 50 [(1,v6),(2,.pointer (some (⟨At,0,none⟩:Addr))),(4,.pointer (some (⟨Ap,0,none⟩:Addr))),(6,.pointer (some (⟨Aj,0,none⟩:Addr))),(7,.bool (Ae)),(12,Ao),(13,I ((r1.fTypes.length:Int))),(14,I Ah)] a ∧ St [] w0 w [([At],Aw),([Ap],Ay),([Aj],Ag)] ∧ bx Ag Aj [I Ab.fId,I Ab.fW,I Ab.fH,I Ab.fD,I Ab.fTare,I Ab.fGram,I Ab.fCost] 79 ∧ d_impl_Cheapest_L1 fu r1 Aq n Ab Ae Ah = some r) ?_ ?_ fu _ _ ?_
 · rintro a w ⟨_,_,_,_,_,_,_,h⟩
   exact nS h
 · rintro Br a Ce ⟨Ab,Ag,Ae,Ah,k,m,Ac,h⟩
   rw [d_impl_Cheapest_L1_s] at h
   unfold d_impl_Cheapest_L1_B at h
   refine wr (pN 1 k z fun a k=>nn (wp_seq (cI h k z (fun Bo h=>?_) fun Bo h=>?_)))
   · refine wp_skip (nm_then ?_)
     refine c_cut (fun a w=>∃ (Ad:Typ) (Ar:World) (As:Bool),K 50 [(1,v6),(2,.pointer (some (⟨At,0,none⟩:Addr))),(4,.pointer (some (⟨Ap,0,none⟩:Addr))),(6,.pointer (some (⟨Aj,0,none⟩:Addr))),(7,.bool (As)),(12,Ao),(13,I ((r1.fTypes.length:Int))),(14,I Ah)] a ∧ St [] w0 w [([At],Aw),([Ap],Ay),([Aj],Ar)] ∧ bx Ar Aj [I Ad.fId,I Ad.fW,I Ad.fH,I Ad.fD,I Ad.fTare,I Ad.fGram,I Ad.fCost] 79 ∧ d_impl_Cheapest_J1 fu (d_impl_Cheapest_L1 fu r1 Aq Br) Ah Ad As = some r) ?_ ?_
     · rintro a Bx ⟨Ad,Ar,As,k,m,Bh,h⟩
       unfold d_impl_Cheapest_J1 at h
       refine wp_region_lit (pN 2 k z fun a k=>nn ?_)
       exact ⟨Ad,Ar,As,w64 (Ah + 1),k.keep [1,2,4,6,7,12,13,14] z,m.sel [0,1,2] z (by decide),Bh,h⟩
     refine wp_block (wr (oE h fun Aa Av h=>sv k z (r_ixa Ai Av k ts35 z z z) fun a k=>sv k z (r_lde Ai (m.a00 (Enc.rd_lt Ai)) Av ta79 k z z) fun a k=>s_alloc (cs:=[I 0,I 0,I 0,I 0,I 0,I 0,I 0]) m k zeroValue79 z z z z z fun Cg Ch a k m e Bv=>s_stb (cs':=[I Aa.fId,I Aa.fW,I Aa.fH,I Aa.fD,I Aa.fTare,I Aa.fGram,I Aa.fCost]) sizeOf79 m 0 Bv 0 k z z z z z z z z z z z fun Cf a k e m Af=>nn (wp_seq (wr (sv k z (r_ldB ta38 m 1 Au 0 k z z z z z z) fun a k=>pN 1 k z fun a k=>sv k z (r_ldB ta79 m 0 Af 0 k z z z z z z) fun a k=>oE h fun By Be h=>?_)))))
     refine cE k m call54 z z z (c_impl_Holds fu _ _ (Aa:Typ) (show rd _ _ [I r1.fWay,I r1.fPallet.fW,I r1.fPallet.fD,I r1.fPallet.fH,I r1.fPallet.fGram,I r1.fClasses,v9,Ao,I r1.fMaster,Az] (r1:Request) from ⟨_,_,_,_,_,_,z,z,(Enc.rd_agr Ba (m.a00 (Enc.rd_lt Ba))),(Enc.rd_agr Ai (m.a00 (Enc.rd_lt Ai))),(Enc.rd_agr Ax (m.a00 (Enc.rd_lt Ax)))⟩) (Enc.rd_agr Bb (m.a00 (Enc.rd_lt Bb))) Be) fun Cb e a k m=>pN 1 k z fun a k=>nn (cI h k z (fun Bd h=>?_) fun Bd h=>?_)
     · refine wp_exit (ex_then (ex_same (nm_then ?_)))
       exact ⟨Ab,Ag,Ae,k.keep [1,2,4,6,7,12,13,14] z,m.sel [1,2,3] z (by decide),Ac,h⟩
     refine wp_skip (nm_then ?_)
     refine wr (pN 3 k z fun a k=>bsplit (!Ae) (fun Am=>?_) (fun Am=>?_))
     · have h:=bif_t Am h
       refine rB k 25 z Am fun k=>pN 20 k z fun a k=>?_
       have k:=k.keep [1,2,4,6,12,13,7,14,9,45] z
       refine nn (wp_cond_true (k.ev z) (wp_region_lit (sv k z (r_ldB ta79 m 0 Af 0 k z z z z z z) fun a k=>s_stb (cs':=[I Aa.fId,I Aa.fW,I Aa.fH,I Aa.fD,I Aa.fTare,I Aa.fGram,I Aa.fCost]) sizeOf79 m 3 Ac 0 k z z z z z z z z z z z fun Bm a k e m Bp=>pN 1 k z fun a k=>wpList_nil (nm_block (nm_then ?_)))))
       exact ⟨Aa,Bm,true,k.keep [1,2,4,6,7,12,13,14] z,m.sel [1,2,3] z (by decide),Bp,h⟩
     have h:=bif_f Am h
     refine rB k 25 z Am fun k=>sv k z (r_fa fa79_6 k z z) fun a k=>sv k z (r_ldb t13 m 0 Af 6 k z z z z z) fun a k=>sv k z (r_fa fa79_6 k z z) fun a k=>sv k z (r_ldb t13 m 3 Ac 6 k z z z z z) fun a k=>pN 3 k z fun a k=>bsplit (decide (Aa.fCost < Ab.fCost)) (fun Al=>?_) (fun Al=>?_)
     · have h:=bif_t Al h
       refine rB k 32 z Al fun k=>pN 13 k z fun a k=>?_
       have k:=k.keep [1,2,4,6,12,13,7,14,9,45] z
       refine nn (wp_cond_true (k.ev z) (wp_region_lit (sv k z (r_ldB ta79 m 0 Af 0 k z z z z z z) fun a k=>s_stb (cs':=[I Aa.fId,I Aa.fW,I Aa.fH,I Aa.fD,I Aa.fTare,I Aa.fGram,I Aa.fCost]) sizeOf79 m 3 Ac 0 k z z z z z z z z z z z fun Bk a k e m Bq=>pN 1 k z fun a k=>wpList_nil (nm_block (nm_then ?_)))))
       exact ⟨Aa,Bk,true,k.keep [1,2,4,6,7,12,13,14] z,m.sel [1,2,3] z (by decide),Bq,h⟩
     have h:=bif_f Al h
     refine rB k 32 z Al fun k=>sv k z (r_fa fa79_6 k z z) fun a k=>sv k z (r_ldb t13 m 0 Af 6 k z z z z z) fun a k=>sv k z (r_fa fa79_6 k z z) fun a k=>sv k z (r_ldb t13 m 3 Ac 6 k z z z z z) fun a k=>pN 2 k z fun a k=>bsplit (Aa.fCost == Ab.fCost) (fun Ak=>?_) (fun Ak=>?_)
     · have h:=bif_t Ak h
       refine rB k 38 z Ak fun k=>sv k z (r_fa fa79_0 k z z) fun a k=>sv k z (r_ldb t13 m 0 Af 0 k z z z z z) fun a k=>sv k z (r_fa fa79_0 k z z) fun a k=>sv k z (r_ldb t13 m 3 Ac 0 k z z z z z) fun a k=>pN 3 k z fun a k=>?_
       have k:=k.keep [1,2,4,6,12,13,7,14,9,45] z
       refine nn (cI h k z (fun Bu h=>?_) fun Bu h=>?_)
       · refine wp_region_lit (sv k z (r_ldB ta79 m 0 Af 0 k z z z z z z) fun a k=>s_stb (cs':=[I Aa.fId,I Aa.fW,I Aa.fH,I Aa.fD,I Aa.fTare,I Aa.fGram,I Aa.fCost]) sizeOf79 m 3 Ac 0 k z z z z z z z z z z z fun Bf a k e m Bn=>pN 1 k z fun a k=>wpList_nil (nm_block (nm_then ?_)))
         exact ⟨Aa,Bf,true,k.keep [1,2,4,6,7,12,13,14] z,m.sel [1,2,3] z (by decide),Bn,h⟩
       refine wp_skip (nm_block (nm_then ?_))
       exact ⟨Ab,Ag,Ae,k.keep [1,2,4,6,7,12,13,14] z,m.sel [1,2,3] z (by decide),Ac,h⟩
     have h:=bif_f Ak h
     refine rB k 38 z Ak fun k=>pN 7 k z fun a k=>?_
     have k:=k.keep [1,2,4,6,12,13,7,14,9,45] z
     refine nn (wp_cond_false (k.ev z) (wp_skip (nm_block (nm_then ?_))))
     exact ⟨Ab,Ag,Ae,k.keep [1,2,4,6,7,12,13,14] z,m.sel [1,2,3] z (by decide),Ac,h⟩
   refine wp_exit (ex_then (ex_then (ex_same (nm_then ?_))))
   refine wr (sv k z (r_ldB ta79 m 2 Ac 0 k z z z z z z) fun a k=>pN 1 k z fun a k=>s_stb (cs':=[I Ab.fId,I Ab.fW,I Ab.fH,I Ab.fD,I Ab.fTare,I Ab.fGram,I Ab.fCost]) sizeOf79 m 1 Bs 0 k z z z z z z z z z z z fun Bw a k e m Bl=>pN 1 k z fun a k=>nn (wp_ret ?_))
   cases h
   exact finR2 k z (RV.cA k z ta79 (Bl.at (m.a 1 z) 0 7 z z z) z) (RV.tmp k z) ⟨z,m.ext⟩
 exact ⟨(⟨0,0,0,0,0,0,0⟩:Typ),Bj,false,0,k.keep [1,2,4,6,7,12,13,14] z,m.sel [2,1,0] z (by decide),Bi,h⟩
theorem c_impl_cartonFault (fu:Nat) {w0:World} (r1:Request) (x5:Plan) {Be:List Value} {F3:List Nat} (Co:rd w0 F3 Be r1) {Bj:List Value} {F7:List Nat} (De:rd w0 F7 Bj x5) {r:Int}
    (h:d_impl_cartonFault fu r1 x5 = some r) :
    Calls Tryz.prog 124 #[.agg Be.toArray,.agg Bj.toArray] w0 fun e w=>e = .returned (I r) ∧ Ext [] w0 w:=by
 refine enter (vs:=[_,_]) func124 z ntmps124 z fun a k=>?_
 have m:=St.start w0
 obtain ⟨v9,Ed,Ah,Ee,Aj,Dr,rfl,rfl,Ab,Ad,Ac⟩:=Co
 obtain ⟨Ap,Eu,Bx,Ey,rfl,rfl,Aa,Dj⟩:=De
 unfold d_impl_cartonFault at h
 refine wr (s_box (cs:=[I r1.fWay,I r1.fPallet.fW,I r1.fPallet.fD,I r1.fPallet.fH,I r1.fPallet.fGram,I r1.fClasses,v9,Ah,I r1.fMaster,Aj]) m k z z z z z z fun Af At a k m e Aq=>s_box (cs:=[Ap,Bx]) m k z z z z z z fun Ai Av a k m e Ay=>pN 1 k z fun a k=>nn (wp_seq (wr (sv k z (r_fa fa58_0 k z z) fun a k=>sv k z (r_ldb t155 m 0 Ay 0 k z z z z z) fun a k=>sv k z (r_len (α:=Carton) Aa k underlying55 z z) fun a k=>pN 1 k z fun a k=>nn (wp_block ?_)))))
 refine c_loop (fun n a w=>∃ (Ak:Int),K 77 [(2,.pointer (some (⟨Af,0,none⟩:Addr))),(3,.pointer (some (⟨Ai,0,none⟩:Addr))),(17,Ap),(18,I ((x5.fCartons.length:Int))),(19,I Ak)] a ∧ St [] w0 w [([Af],At),([Ai],Av)] ∧ d_impl_cartonFault_L3 fu r1 x5 n Ak = some r) ?_ ?_ fu _ _ ?_
 · rintro a w ⟨_,_,_,h⟩
   exact nS h
 · rintro Bn a Ec ⟨Ak,k,m,h⟩
   rw [d_impl_cartonFault_L3_s] at h
   unfold d_impl_cartonFault_L3_B at h
   refine wr (pN 1 k z fun a k=>nn (wp_seq (cI h k z (fun Cd h=>?_) fun Cd h=>?_)))
   · refine wp_skip (nm_then ?_)
     refine c_cut (fun a w=>K 77 [(2,.pointer (some (⟨Af,0,none⟩:Addr))),(3,.pointer (some (⟨Ai,0,none⟩:Addr))),(17,Ap),(18,I ((x5.fCartons.length:Int))),(19,I Ak)] a ∧ St [] w0 w [([Af],At),([Ai],Av)] ∧ d_impl_cartonFault_J1 fu (d_impl_cartonFault_L3 fu r1 x5 Bn) Ak = some r) ?_ ?_
     · rintro a Dn ⟨k,m,h⟩
       unfold d_impl_cartonFault_J1 at h
       refine wp_region_lit (pN 2 k z fun a k=>nn ?_)
       exact ⟨w64 (Ak + 1),k.keep [2,3,17,18,19] z,m.sel [0,1] z (by decide),h⟩
     refine wp_block (wr (oE h fun Bg Bc h=>sv k z (r_ixa Aa Bc k ts55 z z z) fun a k=>?_))
     obtain ⟨Fc,Ej,Du,Cu,Bz,Bt⟩:=rd_get Aa (ix_some Bc).2.2
     obtain ⟨Df,_,rfl,rfl,Aw⟩:=Cu
     refine sv k z (r_ldA ta83 (Bz.agr (m.a00 (Enc.rd_lt Aa)) Bt) z k z z) fun a k=>s_alloc (cs:=[I 0,I 0,.slice none 0 0]) m k zeroValue83 z z z z z fun Er Eo a k m e Cq=>s_stb (cs':=[I Bg.fType,I Bg.fGroup,Df]) sizeOf83 m 0 Cq 0 k z z z z z z z z z z (allc z (allc z (allc (rd_o Aw) alln))) fun Ds a k e m Bf=>nn (wr (sv k z (r_ldB ta38 m 1 Aq 0 k z z z z z z) fun a k=>sv k z (r_fa fa83_0 k z z) fun a k=>sv k z (r_ldb t13 m 0 Bf 0 k z z z z z) fun a k=>oE h fun Ae Cz h=>?_))
     refine cE k m call53 z z z (c_impl_TypeById fu _ _ (show rd _ _ [I r1.fWay,I r1.fPallet.fW,I r1.fPallet.fD,I r1.fPallet.fH,I r1.fPallet.fGram,I r1.fClasses,v9,Ah,I r1.fMaster,Aj] (r1:Request) from ⟨_,_,_,_,_,_,z,z,(Enc.rd_agr Ab (m.a00 (Enc.rd_lt Ab))),(Enc.rd_agr Ad (m.a00 (Enc.rd_lt Ad))),(Enc.rd_agr Ac (m.a00 (Enc.rd_lt Ac)))⟩) Cz) fun Et e a k m=>pN 3 k z fun a k=>s_alloc (cs:=[I 0,I 0,I 0,I 0,I 0,I 0,I 0]) m k zeroValue79 z z z z z fun Dq Dz a k m e Ca=>?_
     refine s_stb (cs':=[I Ae.1.fId,I Ae.1.fW,I Ae.1.fH,I Ae.1.fD,I Ae.1.fTare,I Ae.1.fGram,I Ae.1.fCost]) sizeOf79 m 0 Ca 0 k z z z z z z z z z z z fun Ef a k e m Dc=>pN 1 k z fun a k=>nn (wr (pN 3 k z fun a k=>bsplit (!Ae.2) (fun Am=>?_) (fun Am=>?_)))
     · have h:=bif_t Am h
       refine rB k 32 z Am fun k=>pN 7 k z fun a k=>?_
       have k:=k.keep [2,3,17,18,19,39] z
       refine nn (wp_cond_true (k.ev z) (wr (pN 1 k z fun a k=>nn (wp_ret (rt_block (rt_then (rt_then (rt_block (rt_then ?_)))))))))
       refine fS h k m z z
     have h:=bif_f Am h
     refine rB k 32 z Am fun k=>sv k z (r_ldB ta38 m 2 Aq 0 k z z z z z z) fun a k=>sv k z (r_fa fa83_2 k z z) fun a k=>sv k z (r_ldb t163 m 1 Bf 2 k z z z z z) fun a k=>sv k z (r_ldB ta79 m 0 Dc 0 k z z z z z z) fun a k=>oE h fun Dp Cs h=>cE k m call54 z z z (c_impl_Holds fu _ _ (Ae.1:Typ) (show rd _ _ [I r1.fWay,I r1.fPallet.fW,I r1.fPallet.fD,I r1.fPallet.fH,I r1.fPallet.fGram,I r1.fClasses,v9,Ah,I r1.fMaster,Aj] (r1:Request) from ⟨_,_,_,_,_,_,z,z,(Enc.rd_agr Ab (m.a00 (Enc.rd_lt Ab))),(Enc.rd_agr Ad (m.a00 (Enc.rd_lt Ad))),(Enc.rd_agr Ac (m.a00 (Enc.rd_lt Ac)))⟩) (Enc.rd_agr Aw (m.a00 (Enc.rd_lt Aw))) Cs) fun Es e a k m=>?_
     refine pN 2 k z fun a k=>?_
     have k:=k.keep [2,3,17,18,19,39] z
     refine nn (cI h k z (fun Ci h=>?_) fun Ci h=>?_)
     · refine wr (pN 1 k z fun a k=>nn (wp_ret (rt_block (rt_then (rt_then (rt_block (rt_then ?_)))))))
       refine fS h k m z z
     refine wp_skip (nm_block (nm_then ?_))
     exact ⟨k.keep [2,3,17,18,19] z,m.sel [2,3] z (by decide),h⟩
   refine wp_exit (ex_then (ex_then (ex_same (nm_then ?_))))
   refine wr (sv k z (r_ldB ta38 m 0 Aq 0 k z z z z z z) fun a k=>oE h fun Cy Bu h=>s_call k call162 z z z z z (c_impl_GroupsOf fu _ (show rd _ _ [I r1.fWay,I r1.fPallet.fW,I r1.fPallet.fD,I r1.fPallet.fH,I r1.fPallet.fGram,I r1.fClasses,v9,Ah,I r1.fMaster,Aj] (r1:Request) from ⟨_,_,_,_,_,_,z,z,(Enc.rd_agr Ab (m.a00 (Enc.rd_lt Ab))),(Enc.rd_agr Ad (m.a00 (Enc.rd_lt Ad))),(Enc.rd_agr Ac (m.a00 (Enc.rd_lt Ac)))⟩) Bu) fun Dk Ch hR=>?_)
   obtain ⟨Ck,Bd,rfl,e,Al,Cx⟩:=hR
   refine ⟨_,z,fun a k=>?_⟩
   have m:=m.new e Bd (fun b hb=>⟨Cx b hb,Enc.rd_lt (Enc.ow_rd Al) b hb⟩) (Enc.ow_nd Al)
   refine s_alloc (cs:=[.slice none 0 0]) m k zeroValue29 z z z z z fun Az Fa a k m e Ct=>s_stb1 (cs':=[Ck]) sizeOf29 m 0 Ct 0 k (rd_c (Enc.ow_rd Al)) (rd_o (Enc.ow_rd Al)) z z z z z z z z z fun By a k e m Bw=>nn (wp_seq (wr (sv k z (r_fa fa58_0 k z z) fun a k=>sv k z (r_ldb t155 m 3 Ay 0 k z z z z z) fun a k=>sv k z (r_len (α:=Carton) Aa k underlying55 z z) fun a k=>pN 1 k z fun a k=>nn (wp_block ?_))))
   refine c_loop (fun n a w=>∃ (Ar:Int),K 77 [(2,.pointer (some (⟨Af,0,none⟩:Addr))),(3,.pointer (some (⟨Ai,0,none⟩:Addr))),(9,.pointer (some (⟨Az,0,none⟩:Addr))),(44,Ap),(45,I ((x5.fCartons.length:Int))),(46,I Ar)] a ∧ St [] w0 w [([Af],At),([Ai],Av),([Az],By),(Bd,Ch)] ∧ d_impl_cartonFault_L2 fu r1 x5 Cy n Ar = some r) ?_ ?_ fu _ _ ?_
   · rintro a w ⟨_,_,_,h⟩
     exact nS h
   · rintro Dw a Dt ⟨Ar,k,m,h⟩
     rw [d_impl_cartonFault_L2_s] at h
     unfold d_impl_cartonFault_L2_B at h
     refine wr (pN 1 k z fun a k=>nn (wp_seq (cI h k z (fun Bp h=>?_) fun Bp h=>?_)))
     · refine wp_skip (nm_then ?_)
       refine wp_seq (wp_block (wr (oE h fun Ba Bh h=>sv k z (r_ixa Aa Bh k ts55 z z z) fun a k=>?_)))
       obtain ⟨Eh,Ev,Dy,Cv,Cm,Cf⟩:=rd_get Aa (ix_some Bh).2.2
       obtain ⟨Ce,_,rfl,rfl,Ao⟩:=Cv
       refine sv k z (r_ldA ta83 (Cm.agr (m.a00 (Enc.rd_lt Aa)) Cf) z k z z) fun a k=>s_alloc (cs:=[I 0,I 0,.slice none 0 0]) m k zeroValue83 z z z z z fun Bs Ea a k m e Bm=>s_stb (cs':=[I Ba.fType,I Ba.fGroup,Ce]) sizeOf83 m 0 Bm 0 k z z z z z z z z z z (allc z (allc z (allc (rd_o Ao) alln))) fun Fd a k e m Bb=>nn (wr (sv k z (r_ldB ta38 m 1 Aq 0 k z z z z z z) fun a k=>sv k z (r_fa fa83_2 k z z) fun a k=>sv k z (r_ldb t163 m 0 Bb 2 k z z z z z) fun a k=>oE h fun Fb Cp h=>?_))
       refine s_call k call149 z z z z z (c_impl_itemsOf fu _ _ (show rd _ _ [I r1.fWay,I r1.fPallet.fW,I r1.fPallet.fD,I r1.fPallet.fH,I r1.fPallet.fGram,I r1.fClasses,v9,Ah,I r1.fMaster,Aj] (r1:Request) from ⟨_,_,_,_,_,_,z,z,(Enc.rd_agr Ab (m.a00 (Enc.rd_lt Ab))),(Enc.rd_agr Ad (m.a00 (Enc.rd_lt Ad))),(Enc.rd_agr Ac (m.a00 (Enc.rd_lt Ac)))⟩) (Enc.rd_agr Ao (m.a00 (Enc.rd_lt Ao))) Cp) fun En Dl hR=>?_
       obtain ⟨Dx,Dd,rfl,e,Ax,Bv⟩:=hR
       refine ⟨_,z,fun a k=>?_⟩
       have m:=m.new e Dd (fun b hb=>⟨Bv b hb,Enc.rd_lt (Enc.ow_rd Ax) b hb⟩) (Enc.ow_nd Ax)
       refine pN 1 k z fun a k=>oE h fun Dh Bo h=>cE k m call148 z z z (c_slices_ContainsFunc_impl_Item_impl_Item fu _ _ (Enc.rd_agr (Enc.ow_rd Ax) (m.a 0 z)) ⟨226,[.pointer (some (⟨Bs,0,none⟩:Addr)),.pointer (some (⟨Az,0,none⟩:Addr))],z,call226,fun w Eg El r e Cb hx=>by subst Cb; have m:=m.step e; exact c_impl_cartonFault_1 fu _ _ _ (Bb.agr (m.a 1 rfl) (by simp)) (Enc.rd_agr Ao (m.a00 (Enc.rd_lt Ao))) (Bw.agr (m.a 4 rfl) (by simp)) (Enc.rd_agr (Enc.ow_rd Al) (m.a 5 rfl)) hx⟩ Bo) fun Em e a k m=>nn (cI h k rfl (fun Bq h=>?_) fun Bq h=>?_)
       · refine wr (pN 1 k z fun a k=>nn (wp_ret (rt_block (rt_then (rt_then (rt_block (rt_then ?_)))))))
         refine fS h k m z z
       refine wp_skip (nm_block (nm_then ?_))
       refine wp_region_lit (pN 2 k z fun a k=>nn ?_)
       exact ⟨w64 (Ar + 1),k.keep [2,3,9,44,45,46] z,m.sel [2,3,4,5] z (by decide),h⟩
     refine wp_exit (ex_then (ex_then (ex_same (nm_then ?_))))
     refine wp_seq (wr (sv k z (r_fa fa58_0 k z z) fun a k=>sv k z (r_ldb t155 m 1 Ay 0 k z z z z z) fun a k=>sv k z (r_len (α:=Carton) Aa k underlying55 z z) fun a k=>pN 1 k z fun a k=>nn (wp_block (c_loop (fun n a w=>∃ (As:Int),K 77 [(2,.pointer (some (⟨Af,0,none⟩:Addr))),(58,Ap),(59,I ((x5.fCartons.length:Int))),(60,I As)] a ∧ St [] w0 w [([Af],At)] ∧ d_impl_cartonFault_L1 fu r1 x5 n As = some r) ?_ ?_ fu _ _ ?_))))
     · rintro a w ⟨_,_,_,h⟩
       exact nS h
     · rintro Ez a Ex ⟨As,k,m,h⟩
       rw [d_impl_cartonFault_L1_s] at h
       unfold d_impl_cartonFault_L1_B at h
       refine wr (pN 1 k z fun a k=>nn (wp_seq (cI h k z (fun Db h=>?_) fun Db h=>?_)))
       · refine wp_skip (nm_then ?_)
         refine wp_seq (wp_block (wr (oE h fun Bk Bl h=>sv k z (r_ixa Aa Bl k ts55 z z z) fun a k=>?_)))
         obtain ⟨Ep,Dg,Do,Da,Cn,Cj⟩:=rd_get Aa (ix_some Bl).2.2
         obtain ⟨Br,_,rfl,rfl,Au⟩:=Da
         refine sv k z (r_ldA ta83 (Cn.agr (m.a00 (Enc.rd_lt Aa)) Cj) z k z z) fun a k=>s_alloc (cs:=[I 0,I 0,.slice none 0 0]) m k zeroValue83 z z z z z fun Ew Ek a k m e Cl=>s_stb (cs':=[I Bk.fType,I Bk.fGroup,Br]) sizeOf83 m 0 Cl 0 k z z z z z z z z z z (allc z (allc z (allc (rd_o Au) alln))) fun Di a k e m Bi=>nn (wr (sv k z (r_ldB ta38 m 1 Aq 0 k z z z z z z) fun a k=>sv k z (r_fa fa83_2 k z z) fun a k=>sv k z (r_ldb t163 m 0 Bi 2 k z z z z z) fun a k=>oE h fun Ag Cw h=>?_))
         refine cE k m call208 z z z (c_impl_Cheapest fu _ _ (show rd _ _ [I r1.fWay,I r1.fPallet.fW,I r1.fPallet.fD,I r1.fPallet.fH,I r1.fPallet.fGram,I r1.fClasses,v9,Ah,I r1.fMaster,Aj] (r1:Request) from ⟨_,_,_,_,_,_,z,z,(Enc.rd_agr Ab (m.a00 (Enc.rd_lt Ab))),(Enc.rd_agr Ad (m.a00 (Enc.rd_lt Ad))),(Enc.rd_agr Ac (m.a00 (Enc.rd_lt Ac)))⟩) (Enc.rd_agr Au (m.a00 (Enc.rd_lt Au))) Cw) fun Dv e a k m=>pN 3 k z fun a k=>s_alloc (cs:=[I 0,I 0,I 0,I 0,I 0,I 0,I 0]) m k zeroValue79 z z z z z fun Dm Ei a k m e Cc=>?_
         refine s_stb (cs':=[I Ag.1.fId,I Ag.1.fW,I Ag.1.fH,I Ag.1.fD,I Ag.1.fTare,I Ag.1.fGram,I Ag.1.fCost]) sizeOf79 m 0 Cc 0 k z z z z z z z z z z z fun Eb a k e m Cr=>pN 1 k z fun a k=>nn (wr (sv k z (r_fa fa79_0 k z z) fun a k=>sv k z (r_ldb t13 m 0 Cr 0 k z z z z z) fun a k=>sv k z (r_fa fa83_0 k z z) fun a k=>sv k z (r_ldb t13 m 1 Bi 0 k z z z z z) fun a k=>pN 1 k z fun a k=>nn (cI h k z (fun Cg h=>?_) fun Cg h=>?_)))
         · refine wr (pN 1 k z fun a k=>nn (wp_ret (rt_block (rt_then (rt_then (rt_block (rt_then ?_)))))))
           refine fS h k m z z
         refine wp_skip (nm_block (nm_then ?_))
         refine wp_region_lit (pN 2 k z fun a k=>nn ?_)
         exact ⟨w64 (As + 1),k.keep [2,58,59,60] z,m.sel [2] z (by decide),h⟩
       refine wp_exit (ex_then (ex_then (ex_same (nm_then ?_))))
       refine wr (pN 1 k z fun a k=>nn (wp_ret (fS h k m z z)))
     exact ⟨0,k.keep [2,58,59,60] z,m.sel [0] z (by decide),h⟩
   exact ⟨0,k.keep [2,3,9,44,45,46] z,m.sel [2,3,0,1] z (by decide),h⟩
 exact ⟨0,k.keep [2,3,17,18,19] z,m.sel [1,0] z (by decide),h⟩
theorem c_impl_Gross (fu:Nat) {w0:World} (r1:Request) (x5:Carton) {Am:List Value} {F3:List Nat} (As:rd w0 F3 Am r1) {Aj:List Value} {F7:List Nat} (Ax:rd w0 F7 Aj x5) {r:Int}
    (h:d_impl_Gross fu r1 x5 = some r) :
    Calls Tryz.prog 155 #[.agg Am.toArray,.agg Aj.toArray] w0 fun e w=>e = .returned (I r) ∧ Ext [] w0 w:=by
 refine enter (vs:=[_,_]) func155 z ntmps155 z fun a k=>?_
 have m:=St.start w0
 obtain ⟨v9,Bf,Af,Bg,Ag,Bj,rfl,rfl,Ac,Ad,Ab⟩:=As
 obtain ⟨Aw,_,rfl,rfl,Ak⟩:=Ax
 unfold d_impl_Gross at h
 refine wr (s_box (cs:=[I r1.fWay,I r1.fPallet.fW,I r1.fPallet.fD,I r1.fPallet.fH,I r1.fPallet.fGram,I r1.fClasses,v9,Af,I r1.fMaster,Ag]) m k z z z z z z fun Ao Bb a k m e Ah=>s_box (cs:=[I x5.fType,I x5.fGroup,Aw]) m k z z z z z z fun Ai Av a k m e Ap=>pN 1 k z fun a k=>nn (wr (sv k z (r_ldB ta38 m 1 Ah 0 k z z z z z z) fun a k=>sv k z (r_fa fa83_0 k z z) fun a k=>sv k z (r_ldb t13 m 0 Ap 0 k z z z z z) fun a k=>oE h fun Aa Bc h=>?_)))
 refine cE k m call53 z z z (c_impl_TypeById fu _ _ (show rd _ _ [I r1.fWay,I r1.fPallet.fW,I r1.fPallet.fD,I r1.fPallet.fH,I r1.fPallet.fGram,I r1.fClasses,v9,Af,I r1.fMaster,Ag] (r1:Request) from ⟨_,_,_,_,_,_,z,z,(Enc.rd_agr Ac (m.a00 (Enc.rd_lt Ac))),(Enc.rd_agr Ad (m.a00 (Enc.rd_lt Ad))),(Enc.rd_agr Ab (m.a00 (Enc.rd_lt Ab)))⟩) Bc) fun Bd e a k m=>pN 3 k z fun a k=>s_alloc (cs:=[I 0,I 0,I 0,I 0,I 0,I 0,I 0]) m k zeroValue79 z z z z z fun Al Be a k m e Ba=>?_
 refine s_stb (cs':=[I Aa.1.fId,I Aa.1.fW,I Aa.1.fH,I Aa.1.fD,I Aa.1.fTare,I Aa.1.fGram,I Aa.1.fCost]) sizeOf79 m 0 Ba 0 k z z z z z z z z z z z fun Aq a k e m Az=>pN 1 k z fun a k=>nn (c_cut (fun a w=>K 28 [(2,.pointer (some (⟨Ao,0,none⟩:Addr))),(3,.pointer (some (⟨Ai,0,none⟩:Addr))),(5,.pointer (some (⟨Al,0,none⟩:Addr)))] a ∧ St [] w0 w [([Ao],Bb),([Ai],Av),([Al],Aq)] ∧ d_impl_Gross_J1 fu r1 x5 Aa = some r) ?_ ?_)
 · rintro a Bh ⟨k,m,h⟩
   unfold d_impl_Gross_J1 at h
   refine wp_seq (d_go [] mixo m z fun Ay hMd=>?_)
   have m:=hMd
   have s:=Ext.refl ([]:List Nat) Ay
   refine dt k 0 z (by kernel_rfl) z s (fun _ _ _=>id) (fun w s=>r_fa fa79_4 k z z) fun a k=>dt k 1 z (by kernel_rfl) z s (fun _ _ _=>id) (fun w s=>r_ld1 t13 (r:=[]) (Az.at ((hMd.step s).a 2 z) 4 1 z z z) k z z) fun a k=>dt k 2 z (by kernel_rfl) z s (fun _ _ _=>id) (fun w s=>r_ldA ta38 (Ah.at ((hMd.step s).a 0 z) 0 10 z z z) z k z z) fun a k=>dt k 3 z (by kernel_rfl) z s (fun _ _ _=>id) (fun w s=>r_fa fa83_2 k z z) fun a k=>dt k 4 z (by kernel_rfl) z s (fun _ _ _=>id) (fun w s=>r_ld1 t163 (r:=[]) (Ap.at ((hMd.step s).a 1 z) 2 1 z z z) k z z) fun a k=>d_one 5 (by kernel_rfl) z (oE h fun Bi Au h=>?_)
   refine cE k m call240 z z z (c_impl_GramOf fu _ _ (show rd _ _ [I r1.fWay,I r1.fPallet.fW,I r1.fPallet.fD,I r1.fPallet.fH,I r1.fPallet.fGram,I r1.fClasses,v9,Af,I r1.fMaster,Ag] (r1:Request) from ⟨_,_,_,_,_,_,z,z,(Enc.rd_agr Ac (m.a00 (Enc.rd_lt Ac))),(Enc.rd_agr Ad (m.a00 (Enc.rd_lt Ad))),(Enc.rd_agr Ab (m.a00 (Enc.rd_lt Ab)))⟩) (Enc.rd_agr Ak (m.a00 (Enc.rd_lt Ak))) Au) fun Bk e a k m=>?_
   have s:=s.trans e (by simp)
   refine wpList_nil ⟨s,?_⟩
   refine dN [6,7] 2 z k (by kernel_rfl) z s (fun _ _ _ _ _=>id) fun a k=>d_done (by kernel_rfl) ((nm_then ?_))
   refine wp_ret (fS h k m z z)
 refine wr (pN 3 k z fun a k=>bsplit (!Aa.2) (fun Ae=>?_) (fun Ae=>?_))
 · have h:=bif_t Ae h
   refine rB k 16 z Ae fun k=>pN 4 k z fun a k=>nn (wp_cond_true (k.ev z) (wr (pN 1 k z fun a k=>nn (wp_ret (rt_then ?_)))))
   refine fS h k m z z
 have h:=bif_f Ae h
 refine rB k 16 z Ae fun k=>sv k z (r_ldB ta38 m 2 Ah 0 k z z z z z z) fun a k=>oE h fun Bl At h=>cE k m call115 z z z (c_impl_sound fu _ (show rd _ _ [I r1.fWay,I r1.fPallet.fW,I r1.fPallet.fD,I r1.fPallet.fH,I r1.fPallet.fGram,I r1.fClasses,v9,Af,I r1.fMaster,Ag] (r1:Request) from ⟨_,_,_,_,_,_,z,z,(Enc.rd_agr Ac (m.a00 (Enc.rd_lt Ac))),(Enc.rd_agr Ad (m.a00 (Enc.rd_lt Ad))),(Enc.rd_agr Ab (m.a00 (Enc.rd_lt Ab)))⟩) At) fun Bm e a k m=>pN 2 k z fun a k=>nn (cI h k z (fun Ar h=>?_) fun Ar h=>?_)
 · refine wr (pN 1 k z fun a k=>nn (wp_ret (rt_then ?_)))
   refine fS h k m z z
 refine wp_skip (nm_then ?_)
 exact ⟨k.keep [2,3,5] z,m.sel [2,1,0] z (by decide),h⟩
theorem c_impl_BoxOf (fu:Nat) {w0:World} (r1:Request) (x5:Carton) {Ar:List Value} {F3:List Nat} (Av:rd w0 F3 Ar r1) {Am:List Value} {F7:List Nat} (Be:rd w0 F7 Am x5) {r:Box}
    (h:d_impl_BoxOf fu r1 x5 = some r) :
    Calls Tryz.prog 56 #[.agg Ar.toArray,.agg Am.toArray] w0 fun e w=>e = .returned (.agg (Flat.e r).toArray) ∧ Ext [] w0 w:=by
 refine enter (vs:=[_,_]) func56 z ntmps56 z fun a k=>?_
 have m:=St.start w0
 obtain ⟨v9,Bo,Af,Bp,Ag,Bt,rfl,rfl,Ac,Ad,Ab⟩:=Av
 obtain ⟨Ap,_,rfl,rfl,Ao⟩:=Be
 unfold d_impl_BoxOf at h
 refine wr (s_box (cs:=[I r1.fWay,I r1.fPallet.fW,I r1.fPallet.fD,I r1.fPallet.fH,I r1.fPallet.fGram,I r1.fClasses,v9,Af,I r1.fMaster,Ag]) m k z z z z z z fun Au Bj a k m e Ak=>s_box (cs:=[I x5.fType,I x5.fGroup,Ap]) m k z z z z z z fun Al Bb a k m e At=>s_alloc (cs:=[I 0,I 0,I 0,I 0]) m k zeroValue86 z z z z z fun Ah Aw a k m e Ai=>nn (wr (sv k z (r_ldB ta38 m 2 Ak 0 k z z z z z z) fun a k=>sv k z (r_fa fa83_0 k z z) fun a k=>sv k z (r_ldb t13 m 1 At 0 k z z z z z) fun a k=>oE h fun Aa Ax h=>?_)))
 refine cE k m call53 z z z (c_impl_TypeById fu _ _ (show rd _ _ [I r1.fWay,I r1.fPallet.fW,I r1.fPallet.fD,I r1.fPallet.fH,I r1.fPallet.fGram,I r1.fClasses,v9,Af,I r1.fMaster,Ag] (r1:Request) from ⟨_,_,_,_,_,_,z,z,(Enc.rd_agr Ac (m.a00 (Enc.rd_lt Ac))),(Enc.rd_agr Ad (m.a00 (Enc.rd_lt Ad))),(Enc.rd_agr Ab (m.a00 (Enc.rd_lt Ab)))⟩) Ax) fun Bk e a k m=>pN 3 k z fun a k=>s_alloc (cs:=[I 0,I 0,I 0,I 0,I 0,I 0,I 0]) m k zeroValue79 z z z z z fun Aq Br a k m e Bg=>?_
 refine s_stb (cs':=[I Aa.1.fId,I Aa.1.fW,I Aa.1.fH,I Aa.1.fD,I Aa.1.fTare,I Aa.1.fGram,I Aa.1.fCost]) sizeOf79 m 0 Bg 0 k z z z z z z z z z z z fun Bd a k e m Aj=>pN 1 k z fun a k=>nn (c_cut (fun a w=>K 32 [(2,.pointer (some (⟨Au,0,none⟩:Addr))),(3,.pointer (some (⟨Al,0,none⟩:Addr))),(4,.pointer (some (⟨Ah,0,none⟩:Addr))),(5,.pointer (some (⟨Aq,0,none⟩:Addr)))] a ∧ St [] w0 w [([Au],Bj),([Al],Bb),([Ah],Aw),([Aq],Bd)] ∧ d_impl_BoxOf_J1 fu r1 x5 Aa = some r) ?_ ?_)
 · rintro a Bq ⟨k,m,h⟩
   unfold d_impl_BoxOf_J1 at h
   refine wp_seq (d_go ([Ah]) mixo m z fun Ay hMd=>?_)
   have m:=hMd
   have s:=Ext.refl (([Ah]):List Nat) Ay
   refine dt k 0 z (by kernel_rfl) z s (fun _ _ _=>id) (fun w s=>r_fa fa79_1 k z z) fun a k=>dt k 1 z (by kernel_rfl) z s (fun _ _ _=>id) (fun w s=>r_ld1 t13 (r:=[]) (Aj.at (hMd.az 3 2 z z z s) 1 1 z z z) k z z) fun a k=>dt k 2 z (by kernel_rfl) z s (fun _ _ _=>id) (fun w s=>r_fa fa79_3 k z z) fun a k=>dt k 3 z (by kernel_rfl) z s (fun _ _ _=>id) (fun w s=>r_ld1 t13 (r:=[]) (Aj.at (hMd.az 3 2 z z z s) 3 1 z z z) k z z) fun a k=>dt k 4 z (by kernel_rfl) z s (fun _ _ _=>id) (fun w s=>r_fa fa79_2 k z z) fun a k=>dt k 5 z (by kernel_rfl) z s (fun _ _ _=>id) (fun w s=>r_ld1 t13 (r:=[]) (Aj.at (hMd.az 3 2 z z z s) 2 1 z z z) k z z) fun a k=>?_
   refine dt k 6 z (by kernel_rfl) z s (fun _ _ _=>id) (fun w s=>r_ldA ta38 (Ak.at (hMd.az 0 2 z z z s) 0 10 z z z) z k z z) fun a k=>dt k 7 z (by kernel_rfl) z s (fun _ _ _=>id) (fun w s=>r_ldA ta83 (At.at (hMd.az 1 2 z z z s) 0 3 z z z) z k z z) fun a k=>d_one 8 (by kernel_rfl) z (oE h fun As Ba h=>?_)
   refine cE k m call155 z z z (c_impl_Gross fu _ _ (show rd _ _ [I r1.fWay,I r1.fPallet.fW,I r1.fPallet.fD,I r1.fPallet.fH,I r1.fPallet.fGram,I r1.fClasses,v9,Af,I r1.fMaster,Ag] (r1:Request) from ⟨_,_,_,_,_,_,z,z,(Enc.rd_agr Ac (m.a00 (Enc.rd_lt Ac))),(Enc.rd_agr Ad (m.a00 (Enc.rd_lt Ad))),(Enc.rd_agr Ab (m.a00 (Enc.rd_lt Ab)))⟩) (show rd _ _ [I x5.fType,I x5.fGroup,Ap] (x5:Carton) from ⟨_,_,z,z,(Enc.rd_agr Ao (m.a00 (Enc.rd_lt Ao)))⟩) Ba) fun Bm e a k m=>?_
   have s:=s.trans e (by simp)
   refine wpList_nil ⟨s,?_⟩
   refine dt k 9 z (by kernel_rfl) z s (fun _ _ _=>id) (fun w s=>r_build bt86 k (cs:=#[I Aa.1.fW,I Aa.1.fD,I Aa.1.fH,I As]) (ps:=[(0,.tmp 23),(1,.tmp 25),(2,.tmp 27),(3,.tmp 30)]) z z (by kernel_rfl)) fun a k=>d_one 10 (by kernel_rfl) z (s_stb (cs':=[I Aa.1.fW,I Aa.1.fD,I Aa.1.fH,I As]) sizeOf86 m 2 Ai 0 k z z z z z z z z z z z fun Bv a k e m Bc=>?_)
   have s:=s.trans e (fun y hy=>Or.inl hy)
   refine wpList_nil ⟨s,?_⟩
   refine d_done (by kernel_rfl) ((nm_then ?_))
   refine wp_ret ?_
   cases h
   exact finR1 k z (RV.cA k z ta86 (Bc.at (m.a 2 z) 0 4 z z z) z) ⟨z,m.ext⟩
 refine wr (pN 3 k z fun a k=>bsplit (!Aa.2) (fun Ae=>?_) (fun Ae=>?_))
 · have h:=bif_t Ae h
   refine rB k 16 z Ae fun k=>pN 4 k z fun a k=>nn (wp_cond_true (k.ev z) (wr (sv k z (r_build bt86 k (cs:=#[I 0,I 0,I 0,I 0]) (ps:=[]) z z (by kernel_rfl)) fun a k=>s_stb (cs':=[I 0,I 0,I 0,I 0]) sizeOf86 m 1 Ai 0 k z z z z z z z z z z z fun Bn a k e m Bh=>nn (wp_ret (rt_then ?_)))))
   cases h
   exact finR1 k z (RV.cA k z ta86 (Bh.at (m.a 1 z) 0 4 z z z) z) ⟨z,m.ext⟩
 have h:=bif_f Ae h
 refine rB k 16 z Ae fun k=>sv k z (r_ldB ta38 m 3 Ak 0 k z z z z z z) fun a k=>oE h fun Bl Bf h=>cE k m call115 z z z (c_impl_sound fu _ (show rd _ _ [I r1.fWay,I r1.fPallet.fW,I r1.fPallet.fD,I r1.fPallet.fH,I r1.fPallet.fGram,I r1.fClasses,v9,Af,I r1.fMaster,Ag] (r1:Request) from ⟨_,_,_,_,_,_,z,z,(Enc.rd_agr Ac (m.a00 (Enc.rd_lt Ac))),(Enc.rd_agr Ad (m.a00 (Enc.rd_lt Ad))),(Enc.rd_agr Ab (m.a00 (Enc.rd_lt Ab)))⟩) Bf) fun Bu e a k m=>pN 2 k z fun a k=>nn (cI h k z (fun Az h=>?_) fun Az h=>?_)
 · refine wr (sv k z (r_build bt86 k (cs:=#[I 0,I 0,I 0,I 0]) (ps:=[]) z z (by kernel_rfl)) fun a k=>s_stb (cs':=[I 0,I 0,I 0,I 0]) sizeOf86 m 1 Ai 0 k z z z z z z z z z z z fun Bs a k e m Bi=>nn (wp_ret (rt_then ?_)))
   cases h
   exact finR1 k z (RV.cA k z ta86 (Bi.at (m.a 1 z) 0 4 z z z) z) ⟨z,m.ext⟩
 refine wp_skip (nm_then ?_)
 exact ⟨k.keep [2,3,4,5] z,m.sel [3,2,1,0] z (by decide),h⟩
theorem c_impl_Within (fu:Nat) {w0:World} (p1:Pallet) (b2:Box) (Aa:Spot)  {r:Bool}
    (h:d_impl_Within fu p1 b2 Aa = some r) :
    Calls Tryz.prog 55 #[.agg (Flat.e (p1)).toArray,.agg (Flat.e (b2)).toArray,.agg (Flat.e (Aa)).toArray] w0 fun e w=>e = .returned (.bool (r)) ∧ Ext [] w0 w:=by
 refine enter (vs:=[_,_,_]) func55 z ntmps55 z fun a k=>?_
 have m:=St.start w0
 unfold d_impl_Within at h
 refine wr (s_box (cs:=[I p1.fW,I p1.fD,I p1.fH,I p1.fGram]) m k z z z z z z fun b4 w6 a k m e Ak=>s_box (cs:=[I b2.fW,I b2.fD,I b2.fH,I b2.fGram]) m k z z z z z z fun b7 w9 a k m e Ac=>s_box (cs:=[I Aa.fPallet,I Aa.fX,I Aa.fY,I Aa.fZ]) m k z z z z z z fun Al Aw a k m e Ab=>pN 1 k z fun a k=>nn (c_cut (fun a w=>K 69 [(3,.pointer (some (⟨b4,0,none⟩:Addr))),(4,.pointer (some (⟨b7,0,none⟩:Addr))),(5,.pointer (some (⟨Al,0,none⟩:Addr)))] a ∧ St [] w0 w [([b4],w6),([b7],w9),([Al],Aw)] ∧ d_impl_Within_J1 fu p1 b2 Aa = some r) ?_ ?_))
 · rintro a Bd ⟨k,m,h⟩
   unfold d_impl_Within_J1 at h
   refine wr (sv k z (r_fa fa89_1 k z z) fun a k=>sv k z (r_ldb t13 m 2 Ab 1 k z z z z z) fun a k=>sv k z (r_fa fa86_0 k z z) fun a k=>sv k z (r_ldb t13 m 1 Ac 0 k z z z z z) fun a k=>pN 1 k z fun a k=>sv k z (r_fa fa33_0 k z z) fun a k=>sv k z (r_ldb t13 m 0 Ak 0 k z z z z z) fun a k=>pN 2 k z fun a k=>bsplit (decide ((w64 (Aa.fX + b2.fW)) ≤ p1.fW)) (fun Ag=>?_) (fun Ag=>?_))
   · have h:=bif_t Ag h
     refine rB k 49 z Ag fun k=>sv k z (r_fa fa89_2 k z z) fun a k=>sv k z (r_ldb t13 m 2 Ab 2 k z z z z z) fun a k=>sv k z (r_fa fa86_1 k z z) fun a k=>sv k z (r_ldb t13 m 1 Ac 1 k z z z z z) fun a k=>pN 1 k z fun a k=>sv k z (r_fa fa33_1 k z z) fun a k=>sv k z (r_ldb t13 m 0 Ak 1 k z z z z z) fun a k=>pN 3 k z fun a k=>bsplit (decide ((w64 (Aa.fY + b2.fD)) ≤ p1.fD)) (fun Ae=>?_) (fun Ae=>?_)
     · have h:=bif_t Ae h
       refine rB k 59 z Ae fun k=>sv k z (r_fa fa89_3 k z z) fun a k=>sv k z (r_ldb t13 m 2 Ab 3 k z z z z z) fun a k=>sv k z (r_fa fa86_2 k z z) fun a k=>sv k z (r_ldb t13 m 1 Ac 2 k z z z z z) fun a k=>pN 1 k z fun a k=>sv k z (r_fa fa33_2 k z z) fun a k=>sv k z (r_ldb t13 m 0 Ak 2 k z z z z z) fun a k=>pN 3 k z fun a k=>?_
       have k:=k.keep [6] z
       refine nn (wp_ret (fS h k m z z))
     have h:=bif_f Ae h
     refine rB k 59 z Ae fun k=>pN 10 k z fun a k=>?_
     have k:=k.keep [6] z
     refine nn (wp_ret (fS h k m z z))
   have h:=bif_f Ag h
   refine rB k 49 z Ag fun k=>pN 20 k z fun a k=>?_
   have k:=k.keep [6] z
   refine nn (wp_ret (fS h k m z z))
 refine wr (sv k z (r_fa fa89_1 k z z) fun a k=>sv k z (r_ldb t13 m 0 Ab 1 k z z z z z) fun a k=>oE h fun Ap Av h=>cE k m call153 z z z (c_impl_isPlace fu _  Av) fun Bb e a k m=>pN 2 k z fun a k=>bsplit (!Ap) (fun Af=>?_) (fun Af=>?_))
 · have h:=bif_t Af h
   refine rB k 11 z Af fun k=>pN 29 k z fun a k=>?_
   have k:=k.keep [3,4,5,40] z
   refine nn (wp_cond_true (k.ev z) (wr (pN 1 k z fun a k=>nn (wp_ret (rt_then ?_)))))
   refine fS h k m z z
 have h:=bif_f Af h
 refine rB k 11 z Af fun k=>sv k z (r_fa fa89_2 k z z) fun a k=>sv k z (r_ldb t13 m 0 Ab 2 k z z z z z) fun a k=>oE h fun Aq At h=>cE k m call153 z z z (c_impl_isPlace fu _  At) fun Bh e a k m=>pN 3 k z fun a k=>bsplit (!Aq) (fun Ai=>?_) (fun Ai=>?_)
 · have h:=bif_t Ai h
   refine rB k 17 z Ai fun k=>pN 23 k z fun a k=>?_
   have k:=k.keep [3,4,5,40] z
   refine nn (wp_cond_true (k.ev z) (wr (pN 1 k z fun a k=>nn (wp_ret (rt_then ?_)))))
   refine fS h k m z z
 have h:=bif_f Ai h
 refine rB k 17 z Ai fun k=>sv k z (r_fa fa89_3 k z z) fun a k=>sv k z (r_ldb t13 m 0 Ab 3 k z z z z z) fun a k=>oE h fun As Am h=>cE k m call153 z z z (c_impl_isPlace fu _  Am) fun Ba e a k m=>pN 3 k z fun a k=>bsplit (!As) (fun Ad=>?_) (fun Ad=>?_)
 · have h:=bif_t Ad h
   refine rB k 23 z Ad fun k=>pN 17 k z fun a k=>?_
   have k:=k.keep [3,4,5,40] z
   refine nn (wp_cond_true (k.ev z) (wr (pN 1 k z fun a k=>nn (wp_ret (rt_then ?_)))))
   refine fS h k m z z
 have h:=bif_f Ad h
 refine rB k 23 z Ad fun k=>sv k z (r_fa fa86_0 k z z) fun a k=>sv k z (r_ldb t13 m 1 Ac 0 k z z z z z) fun a k=>oE h fun Ax Az h=>cE k m call154 z z z (c_impl_isSide fu _  Az) fun Be e a k m=>pN 3 k z fun a k=>bsplit (!Ax) (fun Aj=>?_) (fun Aj=>?_)
 · have h:=bif_t Aj h
   refine rB k 29 z Aj fun k=>pN 11 k z fun a k=>?_
   have k:=k.keep [3,4,5,40] z
   refine nn (wp_cond_true (k.ev z) (wr (pN 1 k z fun a k=>nn (wp_ret (rt_then ?_)))))
   refine fS h k m z z
 have h:=bif_f Aj h
 refine rB k 29 z Aj fun k=>sv k z (r_fa fa86_1 k z z) fun a k=>sv k z (r_ldb t13 m 1 Ac 1 k z z z z z) fun a k=>oE h fun Au Ar h=>cE k m call154 z z z (c_impl_isSide fu _  Ar) fun Bg e a k m=>pN 3 k z fun a k=>bsplit (!Au) (fun Ah=>?_) (fun Ah=>?_)
 · have h:=bif_t Ah h
   refine rB k 35 z Ah fun k=>pN 5 k z fun a k=>?_
   have k:=k.keep [3,4,5,40] z
   refine nn (wp_cond_true (k.ev z) (wr (pN 1 k z fun a k=>nn (wp_ret (rt_then ?_)))))
   refine fS h k m z z
 have h:=bif_f Ah h
 refine rB k 35 z Ah fun k=>sv k z (r_fa fa86_2 k z z) fun a k=>sv k z (r_ldb t13 m 1 Ac 2 k z z z z z) fun a k=>oE h fun Bc Ao h=>cE k m call154 z z z (c_impl_isSide fu _  Ao) fun Bf e a k m=>pN 2 k z fun a k=>?_
 have k:=k.keep [3,4,5,40] z
 refine nn (cI h k z (fun Ay h=>?_) fun Ay h=>?_)
 · refine wr (pN 1 k z fun a k=>nn (wp_ret (rt_then ?_)))
   refine fS h k m z z
 refine wp_skip (nm_then ?_)
 exact ⟨k.keep [3,4,5] z,m.sel [2,1,0] z (by decide),h⟩

end Go.Proofs.YtkkfmjpbiimkbaaGreat
