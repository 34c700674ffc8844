/- FnExactFeasible: the walks of functions that it reaches (ExactFeasibleBWi,part 2). Printed by gen.py. -/
import Derived.Test.YtkkfmjpbiimkbaaGreatExactFeasibleBWi1
set_option maxRecDepth 20000
set_option linter.unusedSimpArgs false
set_option linter.unusedVariables false
namespace Go.Proofs.YtkkfmjpbiimkbaaGreat
open Go Go.RowKit
open Enc (rd ow)
open Arg (argv)
open Ret (retv)
open Go.Proofs.Tryz

theorem c_bits_Mul32 (fu:Nat) {w0:World} (x1:Int) (y2:Int)  {r:Int × Int}
    (h:d_bits_Mul32 fu x1 y2 = some r) :
    Calls Tryz.prog 318 #[.int .u32 (x1),.int .u32 (y2)] w0 fun e w=>e = .returned (.tuple #[.int .u32 (r.1),.int .u32 (r.2)]) ∧ Ext [] w0 w:=by
 refine enter (vs:=[_,_]) func318 z ntmps318 z fun a k=>?_
 have m:=St.start w0
 unfold d_bits_Mul32 at h
 refine wr (pN 2 k z fun a k=>nn (wr (pN 1 k z fun a k=>sv k z (r_cv k underlying242 underlying244 z z) fun a k=>pN 1 k z fun a k=>sv k z (r_cv k underlying242 underlying244 z z) fun a k=>pN 2 k z fun a k=>nn (wr (pN 1 k z fun a k=>sv k z (r_shr (y:=32) k z z z) fun a k=>sv k z (r_cv k underlying244 underlying242 z z) fun a k=>pN 1 k z fun a k=>sv k z (r_cv k underlying244 underlying242 z z) fun a k=>pN 2 k z fun a k=>nn (wp_ret ?_))))))
 cases h
 exact finR2 k z (RV.tmp k z) (RV.tmp k z) ⟨z,m.ext⟩
theorem c_bits_Mul64 (fu:Nat) {w0:World} (x1:Int) (y2:Int)  {r:Int × Int}
    (h:d_bits_Mul64 fu x1 y2 = some r) :
    Calls Tryz.prog 319 #[.int .u64 (x1),.int .u64 (y2)] w0 fun e w=>e = .returned (.tuple #[.int .u64 (r.1),.int .u64 (r.2)]) ∧ Ext [] w0 w:=by
 refine enter (vs:=[_,_]) func319 z ntmps319 z fun a k=>?_
 have m:=St.start w0
 unfold d_bits_Mul64 at h
 refine wr (pN 2 k z fun a k=>nn (wr (pN 3 k z fun a k=>nn (wr (pN 1 k z fun a k=>sv k z (r_shr (y:=32) k z z z) fun a k=>pN 1 k z fun a k=>nn (wr (pN 3 k z fun a k=>nn (wr (pN 1 k z fun a k=>sv k z (r_shr (y:=32) k z z z) fun a k=>pN 1 k z fun a k=>nn (wr (pN 4 k z fun a k=>nn (wr (pN 4 k z fun a k=>sv k z (r_shr (y:=32) k z z z) fun a k=>pN 2 k z fun a k=>?_)))))))))))))
 have k:=k.keep [0,1,6,7,9,11] z
 refine nn (wr (pN 3 k z fun a k=>nn (wr (pN 1 k z fun a k=>sv k z (r_shr (y:=32) k z z z) fun a k=>pN 1 k z fun a k=>nn (wr (pN 6 k z fun a k=>nn (wr (pN 6 k z fun a k=>sv k z (r_shr (y:=32) k z z z) fun a k=>pN 2 k z fun a k=>?_))))))))
 have k:=k.keep [0,1,4] z
 refine nn (wr (pN 4 k z fun a k=>nn (wp_ret ?_)))
 cases h
 exact finR2 k z (RV.tmp k z) (RV.tmp k z) ⟨z,m.ext⟩
theorem c_bits_Mul (fu:Nat) {w0:World} (x1:Int) (y2:Int)  {r:Int × Int}
    (h:d_bits_Mul fu x1 y2 = some r) :
    Calls Tryz.prog 288 #[.int .u64 (x1),.int .u64 (y2)] w0 fun e w=>e = .returned (.tuple #[.int .u64 (r.1),.int .u64 (r.2)]) ∧ Ext [] w0 w:=by
 refine enter (vs:=[_,_]) func288 z ntmps288 z fun a k=>?_
 have m:=St.start w0
 unfold d_bits_Mul at h
 refine wr (pN 2 k z fun a k=>nn (wp_seq (wp_cond_false (k.ev z) (wp_skip (nm_then ?_)))))
 refine wr (pN 2 k z fun a k=>oE h fun x3 Aa h=>cE k m call319 z z z (c_bits_Mul64 fu _ _  Aa) fun w6 e a k m=>pN 5 k z fun a k=>nn (wr (pN 4 k z fun a k=>nn (wp_ret ?_))))
 cases h
 exact finR2 k z (RV.tmp k z) (RV.tmp k z) ⟨z,m.ext⟩
theorem c_slices_Repeat_int_int (fu:Nat) {w0:World} (x1:List Int) (Af:Int) {v2:Value} {F3:List Nat} (Ah:rd w0 F3 [v2] x1) {r:(List Int)}
    (h:d_slices_Repeat_int_int fu x1 Af = some r) :
    Calls Tryz.prog 225 #[v2,I Af] w0 fun e w=>∃ (v0:Value) (G0:List Nat),e = .returned (v0) ∧ Ext [] w0 w ∧ ow w G0 [v0] r ∧ (∀ b ∈ G0,w0.heap.size ≤ b):=by
 refine enter (vs:=[_,_]) func225 z ntmps225 z fun a k=>?_
 have m:=St.start w0
 unfold d_slices_Repeat_int_int at h
 refine wr (pN 1 k z fun a k=>nn (c_cut (fun a w=>K 48 [(0,v2),(1,I Af)] a ∧ St [] w0 w [] ∧ d_slices_Repeat_int_int_J2 fu x1 Af = some r) ?_ ?_))
 · rintro a w7 ⟨k,m,h⟩
   unfold d_slices_Repeat_int_int_J2 at h
   refine wr (pN 1 k z fun a k=>sv k z (r_len (α:=Int) Ah k underlying63 z z) fun a k=>sv k z (r_cv k underlying3 underlying204 z z) fun a k=>pN 1 k z fun a k=>sv k z (r_cv k underlying3 underlying204 z z) fun a k=>oE h fun x8 Ap h=>cE k m call288 z z z (c_bits_Mul fu _ _  Ap) fun Bn e a k m=>pN 5 k z fun a k=>nn (c_cut (fun a w=>K 48 [(0,v2),(6,.int .u64 (x8.2))] a ∧ St [] w0 w [] ∧ d_slices_Repeat_int_int_J1 fu x1 x8 = some r) ?_ ?_))
   · rintro a Bj ⟨k,m,h⟩
     unfold d_slices_Repeat_int_int_J1 at h
     refine wr (pN 1 k z fun a k=>sv k z (r_cv k underlying204 underlying3 z z) fun a k=>oE h fun Ak Am h=>s_mk Am te63 z z m k z z z z z z fun At Bi a Ar k m e Au=>pN 1 k z fun a k=>nn (wr (pN 2 k z fun a k=>s_cp (lo:=0) te63 m 0 Au (Part.self _) (Enc.rd_agr Ah (m.a00 (Enc.rd_lt Ah))) k z z z z z z z fun Bc a k e m Ao=>pN 1 k z fun a k=>nn (wp_seq (wp_block (c_loop (fun n a w=>∃ (Ad:List Int) (Ag:Value) (Aa:List Nat) (Ai:World) (Ab:Int),K 48 [(7,Ag),(8,I Ab)] a ∧ St [] w0 w [(Aa,Ai)] ∧ ow Ai Aa [Ag] Ad ∧ d_slices_Repeat_int_int_L1 fu  n Ad Ab = some r) ?_ ?_ fu _ _ ?_))))))
     · rintro a w ⟨_,_,_,_,_,_,_,_,h⟩
       exact nS h
     · rintro Bh a Bm ⟨Ad,Ag,Aa,Ai,Ab,k,m,Ae,h⟩
       rw [d_slices_Repeat_int_int_L1_s] at h
       unfold d_slices_Repeat_int_int_L1_B at h
       refine wp_seq (wr (pN 2 k z fun a k=>sv k z (r_len (α:=Int) (Enc.ow_rd Ae) k underlying63 z z) fun a k=>pN 1 k z fun a k=>nn (cI h k z (fun Bd h=>?_) fun Bd h=>?_)))
       · refine wp_skip (nm_then ?_)
         refine wp_block (d_go (Aa) mixo m z fun Be hMd=>?_)
         have m:=hMd
         have s:=Ext.refl ((Aa):List Nat) Be
         refine dN [0,1,2,4,5] 5 z k (by kernel_rfl) z s (fun _ _ _ _ _=>id) fun a k=>oE h fun Bl Aw h=>?_
         obtain ⟨Bk,Bg,Ax,Ay⟩:=sl_from (Enc.ow_rd Ae) Aw ts63
         refine dt k 3 z (by kernel_rfl) z s (fun _ _ _=>id) (fun w s=>Ay k z z z _) fun a k=>oE h fun Aj Az h=>?_
         obtain ⟨Bf,Av,Bb⟩:=sl_to (Enc.ow_rd Ae) Az ts63
         refine dt k 6 z (by kernel_rfl) z s (fun _ _ _=>id) (fun w s=>Bb k z z z _) fun a k=>d_one 7 (by kernel_rfl) z (s_cp (lo:=Ab) te63 m 0 Ae Ax (Enc.rd_agr Av (m.a 0 z)) k z z z z z z z fun As a k e m Aq=>?_)
         have s:=s.trans e (fun y hy=>Or.inl hy)
         refine wpList_nil ⟨s,?_⟩
         refine dN [8,9] 2 z k (by kernel_rfl) z s (fun _ _ _ _ _=>id) fun a k=>d_done (by kernel_rfl) ((nm_block (nm_then ?_)))
         exact ⟨cpd Ad Ab Aj,Ag,Aa,As,w64 (Ab + (cpn Ad Ab Aj)),k.keep [7,8] z,m.sel [0] z (by decide),Aq,h⟩
       refine wp_exit (ex_then (ex_then (ex_same (nm_then ?_))))
       refine wr (pN 2 k z fun a k=>nn (wp_ret ?_))
       cases h
       exact finR1 k z (RV.tmp k z) ⟨_,Aa,z,m.ext,(Enc.ow_agr Ae (m.a 0 z)),(m.fresh 0 z)⟩
     exact ⟨cpd Ak 0 x1,Ar,[At],Bc,cpn Ak 0 x1,k.keep [7,8] z,m.sel [0] z (by decide),Ao,h⟩
   refine wr (pN 3 k z fun a k=>bsplit (decide (x8.1 > 0)) (fun Ac=>?_) (fun Ac=>?_))
   · have h:=bif_t Ac h
     refine rB k 23 z Ac fun k=>pN 3 k z fun a k=>nn (wp_cond_true (k.ev z) ?_)
     exact nS h
   have h:=bif_f Ac h
   refine rB k 23 z Ac fun k=>pN 3 k z fun a k=>nn (cI h k z (fun Al h=>?_) fun Al h=>?_)
   · exact nS h
   refine wp_skip (nm_then ?_)
   exact ⟨k.keep [0,6] z,m.sel [] z (by decide),h⟩
 refine wr (pN 2 k z fun a k=>nn (cI h k z (fun Ba h=>?_) fun Ba h=>?_))
 · exact nS h
 refine wp_skip (nm_then ?_)
 exact ⟨k.keep [0,1] z,m.sel [] z (by decide),h⟩
theorem c_impl_Units (fu:Nat) {w0:World} (r1:Request) {Ao:List Value} {F3:List Nat} (Bc:rd w0 F3 Ao r1) {r:(List Int)}
    (h:d_impl_Units fu r1 = some r) :
    Calls Tryz.prog 123 #[.agg Ao.toArray] w0 fun e w=>∃ (v0:Value) (G0:List Nat),e = .returned (v0) ∧ Ext [] w0 w ∧ ow w G0 [v0] r ∧ (∀ b ∈ G0,w0.heap.size ≤ b):=by
 refine enter (vs:=[_]) func123 z ntmps123 z fun a k=>?_
 have m:=St.start w0
 obtain ⟨v5,F6,v7,F8,v9,Bs,rfl,rfl,Ak,Am,Ab⟩:=Bc
 unfold d_impl_Units at h
 refine wr (s_box (cs:=[I r1.fWay,I r1.fPallet.fW,I r1.fPallet.fD,I r1.fPallet.fH,I r1.fPallet.fGram,I r1.fClasses,v5,v7,I r1.fMaster,v9]) m k z z z z z z fun Bz Ca a k m e Ap=>pN 1 k z fun a k=>nn (wp_seq (wr (sv k z (r_ldB ta38 m 0 Ap 0 k z z z z z z) fun a k=>oE h fun By Az h=>?_))))
 refine cE k m call115 z z z (c_impl_sound fu _ (show rd _ _ [I r1.fWay,I r1.fPallet.fW,I r1.fPallet.fD,I r1.fPallet.fH,I r1.fPallet.fGram,I r1.fClasses,v5,v7,I r1.fMaster,v9] (r1:Request) from ⟨_,_,_,_,_,_,z,z,(Enc.rd_agr Ak (m.a00 (Enc.rd_lt Ak))),(Enc.rd_agr Am (m.a00 (Enc.rd_lt Am))),(Enc.rd_agr Ab (m.a00 (Enc.rd_lt Ab)))⟩) Az) fun Bq e a k m=>pN 1 k z fun a k=>nn (cI h k z (fun Ar h=>?_) fun Ar h=>?_)
 · refine wr (pN 1 k z fun a k=>nn (wp_ret (rt_then ?_)))
   cases h
   exact finR1 k z (RV.tmp k z) ⟨_,[],z,m.ext,(ow_nil _),(by simp)⟩
 refine wp_skip (nm_then ?_)
 refine wr (s_bs (cs:=[]) (ps:=[]) te63 m k z z z z z z z (by decide) z (by exact (List.forall_mem_nil _)) fun Al Aw Bn a k m e Bf=>?_)
 have Bd:=ow_bx Bf ([]:List Int) z z z
 refine pN 1 k z fun a k=>nn (wp_seq (wr (sv k z (r_fa fa38_6 k z z) fun a k=>sv k z (r_ldb t136 m 1 Ap 9 k z z z z z) fun a k=>sv k z (r_len (α:=Item) Ab k underlying36 z z) fun a k=>pN 1 k z fun a k=>nn (wp_block (c_loop (fun n a w=>∃ (Ae:List Int) (Ah:Value) (Ad:List Nat) (Ag:World) (Ac:Int),K 27 [(3,Ah),(11,v9),(12,I ((r1.fItems.length:Int))),(13,I Ac)] a ∧ St [] w0 w [(Ad,Ag)] ∧ ow Ag Ad [Ah] Ae ∧ d_impl_Units_L1 fu r1 n Ae Ac = some r) ?_ ?_ fu _ _ ?_)))))
 · rintro a w ⟨_,_,_,_,_,_,_,_,h⟩
   exact nS h
 · rintro Br a Bk ⟨Ae,Ah,Ad,Ag,Ac,k,m,Aj,h⟩
   rw [d_impl_Units_L1_s] at h
   unfold d_impl_Units_L1_B at h
   refine wr (pN 1 k z fun a k=>nn (wp_seq (cI h k z (fun Au h=>?_) fun Au h=>?_)))
   · refine wp_skip (nm_then ?_)
     refine wp_seq (wp_block (wr (pN 1 k z fun a k=>oE h fun Aa Ai h=>sv k z (r_ixa Ab Ai k ts36 z z z) fun a k=>sv k z (r_lde Ab (m.a00 (Enc.rd_lt Ab)) Ai ta158 k z z) fun a k=>s_alloc (cs:=[I 0,I 0,I 0,I 0,I 0,I 0,I 0]) m k zeroValue158 z z z z z fun Cb Bo a k m e As=>pN 1 k z fun a k=>s_stb (cs':=[I Aa.fId,I Aa.fW,I Aa.fH,I Aa.fD,I Aa.fGram,I Aa.fClass,I Aa.fCount]) sizeOf158 m 0 As 0 k z z z z z z z z z z z fun Bm a k e m Bj=>nn (wp_region_lit (pN 2 k z fun a k=>?_)))))
     refine s_bs (cs:=[I Ac]) (ps:=[(0,.tmp 19)]) te63 m k z z z z z z z (by decide) z (by exact (List.forall_mem_cons.2 ⟨z,(List.forall_mem_nil _)⟩)) fun Bv Bu Bp a k m e Be=>?_
     have Bg:=ow_bx Be ([Ac]:List Int) z z z
     refine sv k z (r_fa fa158_6 k z z) fun a k=>sv k z (r_ldb t13 m 1 Bj 6 k z z z z z) fun a k=>oE h fun Bw Bh h=>s_call k call225 z z z z z (c_slices_Repeat_int_int fu _ _ (Enc.rd_agr (Enc.ow_rd Bg) (m.a 0 z)) Bh) fun Bt Bx hR=>?_
     obtain ⟨Bl,Aq,rfl,e,Af,Bi⟩:=hR
     refine ⟨_,z,fun a k=>?_⟩
     have m:=m.new e Aq (fun b hb=>⟨Bi b hb,Enc.rd_lt (Enc.ow_rd Af) b hb⟩) (Enc.ow_nd Af)
     refine oE h fun Ay Av h=>s_appF Av te63 z m 3 Aj (News.rd (Enc.rd_agr (Enc.ow_rd Af) (m.a 0 z))) z z k z z z z z z z fun Ba Ax At a k e m Bb=>pN 1 k z fun a k=>wpList_nil (nm_block (nm_then ?_))
     refine wp_region_lit (pN 2 k z fun a k=>nn ?_)
     exact ⟨Ay,Ba,Ax,At,w64 (Ac + 1),k.keep [3,11,12,13] z,m.sel [3] z (by decide),Bb,h⟩
   refine wp_exit (ex_then (ex_then (ex_same (nm_then ?_))))
   refine wr (pN 2 k z fun a k=>nn (wp_ret ?_))
   cases h
   exact finR1 k z (RV.tmp k z) ⟨_,Ad,z,m.ext,(Enc.ow_agr Aj (m.a 0 z)),(m.fresh 0 z)⟩
 exact ⟨([]:List Int),(.slice (some ⟨Al,0,none⟩) 0 0),[Al],Aw,0,k.keep [3,11,12,13] z,m.sel [0] z (by decide),Bd,h⟩
theorem c_impl_places (fu:Nat) {w0:World} (n1:Int)  {r:(List Int)}
    (h:d_impl_places fu n1 = some r) :
    Calls Tryz.prog 122 #[I n1] w0 fun e w=>∃ (v0:Value) (G0:List Nat),e = .returned (v0) ∧ Ext [] w0 w ∧ ow w G0 [v0] r ∧ (∀ b ∈ G0,w0.heap.size ≤ b):=by
 refine enter (vs:=[_]) func122 z ntmps122 z fun a k=>?_
 have m:=St.start w0
 unfold d_impl_places at h
 refine wr (pN 1 k z fun a k=>nn (wr (s_bs (cs:=[]) (ps:=[]) te63 m k z z z z z z z (by decide) z (by exact (List.forall_mem_nil _)) fun g2 w3 e5 a k m e Ai=>?_)))
 have Ar:=ow_bx Ai ([]:List Int) z z z
 refine pN 1 k z fun a k=>nn (wp_seq (wr (pN 2 k z fun a k=>nn (wp_block (c_loop (fun n a w=>∃ (Ac:List Int) (Ad:Value) (Ab:List Nat) (Ae:World) (Aa:Int),K 16 [(3,Ad),(6,I n1),(7,I Aa)] a ∧ St [] w0 w [(Ab,Ae)] ∧ ow Ae Ab [Ad] Ac ∧ d_impl_places_L1 fu n1 n Ac Aa = some r) ?_ ?_ fu _ _ ?_)))))
 · rintro a w ⟨_,_,_,_,_,_,_,_,h⟩
   exact nS h
 · rintro Au a As ⟨Ac,Ad,Ab,Ae,Aa,k,m,Af,h⟩
   rw [d_impl_places_L1_s] at h
   unfold d_impl_places_L1_B at h
   refine wr (pN 1 k z fun a k=>nn (wp_seq (cI h k z (fun Am h=>?_) fun Am h=>?_)))
   · refine wp_skip (nm_then ?_)
     refine wp_seq (wp_block (wr (pN 2 k z fun a k=>nn (wp_region_lit (pN 2 k z fun a k=>s_bs (cs:=[I Aa]) (ps:=[(0,.tmp 11)]) te63 m k z z z z z z z (by decide) z (by exact (List.forall_mem_cons.2 ⟨z,(List.forall_mem_nil _)⟩)) fun At Av Aw a k m e Al=>?_)))))
     have Aj:=ow_bx Al ([Aa]:List Int) z z z
     refine oE h fun Aq Ag h=>s_appF Ag te63 z m 1 Af (News.rd (Enc.rd_agr (Enc.ow_rd Aj) (m.a 0 z))) z z k z z z z z z z fun Ap Ao Ak a k e m Ah=>pN 1 k z fun a k=>wpList_nil (nm_block (nm_then ?_))
     refine wp_region_lit (pN 2 k z fun a k=>nn ?_)
     exact ⟨Aq,Ap,Ao,Ak,w64 (Aa + 1),k.keep [3,6,7] z,m.sel [1] z (by decide),Ah,h⟩
   refine wp_exit (ex_then (ex_then (ex_same (nm_then ?_))))
   refine wr (pN 2 k z fun a k=>nn (wp_ret ?_))
   cases h
   exact finR1 k z (RV.tmp k z) ⟨_,Ab,z,m.ext,(Enc.ow_agr Af (m.a 0 z)),(m.fresh 0 z)⟩
 exact ⟨([]:List Int),(.slice (some ⟨g2,0,none⟩) 0 0),[g2],w3,0,k.keep [3,6,7] z,m.sel [0] z (by decide),Ar,h⟩
theorem c_slices_Equal_int_int (fu:Nat) {w0:World} (Ab:List Int) (Ae:List Int) {v2:Value} {F3:List Nat} (Aa:rd w0 F3 [v2] Ab) {v6:Value} {F7:List Nat} (Ad:rd w0 F7 [v6] Ae) {r:Bool}
    (h:d_slices_Equal_int_int fu Ab Ae = some r) :
    Calls Tryz.prog 121 #[v2,v6] w0 fun e w=>e = .returned (.bool (r)) ∧ Ext [] w0 w:=by
 refine enter (vs:=[_,_]) func121 z ntmps121 z fun a k=>?_
 have m:=St.start w0
 unfold d_slices_Equal_int_int at h
 refine wr (pN 1 k z fun a k=>nn (wp_seq (wr (pN 1 k z fun a k=>sv k z (r_len (α:=Int) Aa k underlying63 z z) fun a k=>pN 1 k z fun a k=>sv k z (r_len (α:=Int) Ad k underlying63 z z) fun a k=>pN 1 k z fun a k=>nn (cI h k z (fun Ai h=>?_) fun Ai h=>?_)))))
 · refine wr (pN 1 k z fun a k=>nn (wp_ret (rt_then ?_)))
   refine fS h k m z z
 refine wp_skip (nm_then ?_)
 refine wp_seq (wr (pN 1 k z fun a k=>sv k z (r_len (α:=Int) Aa k underlying63 z z) fun a k=>pN 1 k z fun a k=>nn (wp_block (c_loop (fun n a w=>∃ (Ac:Int),K 26 [(0,v2),(1,v6),(12,I ((Ab.length:Int))),(13,I Ac)] a ∧ St [] w0 w [] ∧ d_slices_Equal_int_int_L1 fu Ab Ae n Ac = some r) ?_ ?_ fu _ _ ?_))))
 · rintro a w ⟨_,_,_,h⟩
   exact nS h
 · rintro Al a Ap ⟨Ac,k,m,h⟩
   rw [d_slices_Equal_int_int_L1_s] at h
   unfold d_slices_Equal_int_int_L1_B at h
   refine wr (pN 1 k z fun a k=>nn (wp_seq (cI h k z (fun Ak h=>?_) fun Ak h=>?_)))
   · refine wp_skip (nm_then ?_)
     refine wp_seq (wp_block (wr (pN 2 k z fun a k=>nn (wp_seq (d_go [] mixo m z fun Ah hMd=>?_)))))
     have m:=hMd
     have s:=Ext.refl ([]:List Nat) Ah
     refine dN [0,1,4,5] 4 z k (by kernel_rfl) z s (fun _ _ _ _ _=>id) fun a k=>oE h fun Am Ag h=>dt k 2 z (by kernel_rfl) z s (fun _ _ _=>id) (fun w s=>r_ixa Aa Ag k ts63 z z z) fun a k=>dt k 3 z (by kernel_rfl) z s (fun _ _ _=>id) (fun w s=>r_lde1 Aa ((hMd.step s).a00 (Enc.rd_lt Aa)) Ag 0 t13 k z z z z) fun a k=>oE h fun Ao Af h=>dt k 6 z (by kernel_rfl) z s (fun _ _ _=>id) (fun w s=>r_ixa Ad Af k ts63 z z z) fun a k=>dt k 7 z (by kernel_rfl) z s (fun _ _ _=>id) (fun w s=>r_lde1 Ad ((hMd.step s).a00 (Enc.rd_lt Ad)) Af 0 t13 k z z z z) fun a k=>dN [8] 1 z k (by kernel_rfl) z s (fun _ _ _ _ _=>id) fun a k=>d_done (by kernel_rfl) ((nm_then ?_))
     refine cI h k z (fun Aj h=>?_) fun Aj h=>?_
     · refine wr (pN 1 k z fun a k=>nn (wp_ret (rt_block (rt_then (rt_then (rt_block (rt_then ?_)))))))
       refine fS h k m z z
     refine wp_skip (nm_block (nm_then ?_))
     refine wp_region_lit (pN 2 k z fun a k=>nn ?_)
     exact ⟨w64 (Ac + 1),k.keep [0,1,12,13] z,m.sel [] z (by decide),h⟩
   refine wp_exit (ex_then (ex_then (ex_same (nm_then ?_))))
   refine wr (pN 1 k z fun a k=>nn (wp_ret (fS h k m z z)))
 exact ⟨0,k.keep [0,1,12,13] z,m.sel [] z (by decide),h⟩
theorem c_slices_Clone_int_int (fu:Nat) {w0:World} (Ab:List Int) {v2:Value} {F3:List Nat} (Aa:rd w0 F3 [v2] Ab) {r:(List Int)}
    (h:d_slices_Clone_int_int fu Ab = some r) :
    Calls Tryz.prog 133 #[v2] w0 fun e w=>∃ (v0:Value) (G0:List Nat),e = .returned (v0) ∧ Ext [] w0 w ∧ ow w G0 [v0] r ∧ (∀ b ∈ G0,w0.heap.size ≤ b):=by
 refine enter (vs:=[_]) func133 z ntmps133 z fun a k=>?_
 have m:=St.start w0
 unfold d_slices_Clone_int_int at h
 refine wr (pN 1 k z fun a k=>nn (wp_seq (wr (pN 1 k z fun a k=>?_))))
 obtain ⟨Ag,Ai,Ah⟩:=r_nilq Aa
 refine sv k z (Ah k underlying63 z z z) fun a k=>nn (c_cond (b:=Ag) k z (fun Ac=>?_) (fun Ac=>?_))
 · have Aj:=Ai Ac
   rw [Aj] at h
   have h:some (([]:List Int)) = some r:=h
   refine wr (pN 1 k z fun a k=>nn (wp_ret (rt_then ?_)))
   cases h
   exact finR1 k z (RV.tmp k z) ⟨_,[],z,m.ext,(ow_nil _),(by simp)⟩
 refine wp_skip (nm_then ?_)
 refine wr (s_bs (cs:=[]) (ps:=[]) te63 m k z z z z z z z (by decide) z (by exact (List.forall_mem_nil _)) fun Ap Aq Ar a k m e Af=>?_)
 have Ad:=ow_bx Af ([]:List Int) z z z
 refine pN 1 k z fun a k=>oE h fun Ao Ak h=>s_appF Ak te63 z m 0 Ad (News.rd (Enc.rd_agr Aa (m.a00 (Enc.rd_lt Aa)))) z z k z z z z z z z fun Am Ae As a k e m Al=>pN 1 k z fun a k=>nn (wp_ret ?_)
 cases h
 exact finR1 k z (RV.tmp k z) ⟨_,Ae,z,m.ext,(Enc.ow_agr Al (m.a 0 z)),(m.fresh 0 z)⟩
theorem c_impl_thereOf_1 (fu:Nat) {w0:World} (u1:Int) (x2:Int) {b3:Nat} (Aa:bx w0 b3 [I x2] 3) {r:Bool}
    (h:d_impl_thereOf_1 fu u1 x2 = some r) :
    Calls Tryz.prog 238 #[I u1,.pointer (some (⟨b3,0,none⟩:Addr))] w0 fun e w=>e = .returned (.bool (r)) ∧ Ext [] w0 w:=by
 refine enter (vs:=[_,_]) func238 z ntmps238 z fun a k=>?_
 have m:=St.start w0
 unfold d_impl_thereOf_1 at h
 refine wr (pN 1 k z fun a k=>nn (wr (pN 1 k z fun a k=>sv k z (r_ld1 t13 (r:=[]) (Aa.at (m.a00 Aa.lt1) 0 1 z z z) k z z) fun a k=>pN 1 k z fun a k=>oE h fun x5 Ab h=>cE k m call139 z z z (c_impl_in fu _ _ _  Ab) fun w9 e a k m=>pN 2 k z fun a k=>nn (wp_ret (fS h k m z z)))))
theorem c_slices_IndexFunc_int_int (fu:Nat) {w0:World} (Ab:List Int) (f5:Int → Option Bool) {v2:Value} {F3:List Nat} (Ac:rd w0 F3 [v2] Ab) {v6:Value} (Ag:FnOk1 Tryz.prog w0 v6 f5) {r:Int}
    (h:d_slices_IndexFunc_int_int fu Ab f5 = some r) :
    Calls Tryz.prog 241 #[v2,v6] w0 fun e w=>e = .returned (I r) ∧ Ext [] w0 w:=by
 refine enter (vs:=[_,_]) func241 z ntmps241 z fun a k=>?_
 have m:=St.start w0
 obtain ⟨Ae,Al,rfl,Ak,Aj⟩:=Ag
 unfold d_slices_IndexFunc_int_int at h
 refine wr (pN 1 k z fun a k=>nn (wp_seq (wr (pN 1 k z fun a k=>sv k z (r_len (α:=Int) Ac k underlying63 z z) fun a k=>pN 1 k z fun a k=>nn (wp_block (c_loop (fun n a w=>∃ (Aa:Int),K 19 [(0,v2),(1,(.func (.func Ae) #[] Al.toArray)),(7,I ((Ab.length:Int))),(8,I Aa)] a ∧ St [] w0 w [] ∧ d_slices_IndexFunc_int_int_L1 fu Ab f5 n Aa = some r) ?_ ?_ fu _ _ ?_))))))
 · rintro a w ⟨_,_,_,h⟩
   exact nS h
 · rintro Ap a Aq ⟨Aa,k,m,h⟩
   rw [d_slices_IndexFunc_int_int_L1_s] at h
   unfold d_slices_IndexFunc_int_int_L1_B at h
   refine wr (pN 1 k z fun a k=>nn (wp_seq (cI h k z (fun Ai h=>?_) fun Ai h=>?_)))
   · refine wp_skip (nm_then ?_)
     refine wp_seq (wp_block (wr (pN 2 k z fun a k=>nn (wr (pN 3 k z fun a k=>oE h fun As Ad h=>sv k z (r_ixa Ac Ad k ts63 z z z) fun a k=>sv k z (r_lde1 Ac (m.a00 (Enc.rd_lt Ac)) Ad 0 t13 k z z z z) fun a k=>oE h fun Ao Ah h=>s_callv k Ak z z z z z z (Aj _ _ _ _ m.ext z Ah) fun Ar Am hR=>?_)))))
     obtain ⟨rfl,e⟩:=hR
     refine ⟨_,z,fun a k=>?_⟩
     have m:=m.step e
     refine nn (cI h k z (fun Af h=>?_) fun Af h=>?_)
     · refine wr (pN 2 k z fun a k=>nn (wp_ret (rt_block (rt_then (rt_then (rt_block (rt_then ?_)))))))
       refine fS h k m z z
     refine wp_skip (nm_block (nm_then ?_))
     refine wp_region_lit (pN 2 k z fun a k=>nn ?_)
     exact ⟨w64 (Aa + 1),k.keep [0,1,7,8] z,m.sel [] z (by decide),h⟩
   refine wp_exit (ex_then (ex_then (ex_same (nm_then ?_))))
   refine wr (pN 1 k z fun a k=>nn (wp_ret (fS h k m z z)))
 exact ⟨0,k.keep [0,1,7,8] z,m.sel [] z (by decide),h⟩
theorem c_slices_DeleteFunc_int_int (fu:Nat) {w0:World} (Aj:List Int) (f5:Int → Option Bool) {v2:Value} {F3:List Nat} (Ad:ow w0 F3 [v2] Aj) {v6:Value} (Av:FnOkX1 F3 Tryz.prog w0 v6 f5) {r:(List Int)}
    (h:d_slices_DeleteFunc_int_int fu Aj f5 = some r) :
    Calls Tryz.prog 158 #[v2,v6] w0 fun e w=>∃ (v0:Value) (G0:List Nat),e = .returned (v0) ∧ Ext F3 w0 w ∧ ow w G0 [v0] r ∧ (∀ b ∈ G0,b ∈ F3 ∨ w0.heap.size ≤ b):=by
 refine enter (vs:=[_,_]) func158 z ntmps158 z fun a k=>?_
 have m:=St.start1 w0 (Enc.rd_lt (Enc.ow_rd Ad)) (Enc.ow_nd Ad)
 obtain ⟨Al,Am,rfl,As,Ar⟩:=Av
 unfold d_slices_DeleteFunc_int_int at h
 refine wr (pN 1 k z fun a k=>nn (wr (pN 2 k z fun a k=>oE h fun Ak Be h=>cE k m call241 z z z (c_slices_IndexFunc_int_int fu _ _ (Enc.rd_agr (Enc.ow_rd Ad) (m.a 0 z)) ⟨_,_,z,As,fun w Bc Bi r e=>Ar w Bc Bi r (m.ext.trans e (by simp))⟩ Be) fun Bk e a k m=>pN 1 k z fun a k=>nn (wp_seq (wr (pN 2 k z fun a k=>nn (cI h k z (fun Ba h=>?_) fun Ba h=>?_)))))))
 · refine wr (pN 2 k z fun a k=>nn (wp_ret (rt_then ?_)))
   cases h
   exact finR1 k z (RV.tmp k z) ⟨_,F3,z,m.ext,(Enc.ow_agr Ad (m.a 0 z)),(fun b hb=>m.lo b (mem_fps (i:=0) z hb))⟩
 refine wp_skip (nm_then ?_)
 refine wp_seq (wr (pN 3 k z fun a k=>nn (wp_block (c_loop (fun n a w=>∃ (Ae:List Int) (Ai:World) (Ab:Int) (Ac:Int),K 42 [(0,v2),(1,(.func (.func Al) #[] Am.toArray)),(5,I Ab),(6,I Ac)] a ∧ St F3 w0 w [(F3,Ai)] ∧ ow Ai F3 [v2] Ae ∧ d_slices_DeleteFunc_int_int_L1 fu f5 n Ae Ab Ac = some r) ?_ ?_ fu _ _ ?_))))
 · rintro a w ⟨_,_,_,_,_,_,_,h⟩
   exact nS h
 · rintro Bd a Bm ⟨Ae,Ai,Ab,Ac,k,m,Aa,h⟩
   rw [d_slices_DeleteFunc_int_int_L1_s] at h
   unfold d_slices_DeleteFunc_int_int_L1_B at h
   refine wp_seq (wr (pN 2 k z fun a k=>sv k z (r_len (α:=Int) (Enc.ow_rd Aa) k underlying63 z z) fun a k=>pN 1 k z fun a k=>nn (cI h k z (fun At h=>?_) fun At h=>?_)))
   · refine wp_skip (nm_then ?_)
     refine c_cut (fun a w=>∃ (Ah:List Int) (Af:World) (Ag:Int),K 42 [(0,v2),(1,(.func (.func Al) #[] Am.toArray)),(5,I Ag),(6,I Ac)] a ∧ St F3 w0 w [(F3,Af)] ∧ ow Af F3 [v2] Ah ∧ d_slices_DeleteFunc_int_int_J1 fu (d_slices_DeleteFunc_int_int_L1 fu f5 Bd) Ac Ah Ag = some r) ?_ ?_
     · rintro a Bn ⟨Ah,Af,Ag,k,m,Aw,h⟩
       unfold d_slices_DeleteFunc_int_int_J1 at h
       refine wp_region_lit (pN 3 k z fun a k=>nn ?_)
       exact ⟨Ah,Af,Ag,w64 (Ac + 1),k.keep [0,1,5,6] z,m.sel [0] z (by decide),Aw,h⟩
     refine wp_block (wr (pN 2 k z fun a k=>oE h fun Ao Aq h=>sv k z (r_ixa (Enc.ow_rd Aa) Aq k ts63 z z z) fun a k=>sv k z (r_lde1 (Enc.ow_rd Aa) (m.a 0 z) Aq 0 t13 k z z z z) fun a k=>pN 1 k z fun a k=>nn (wr (pN 2 k z fun a k=>oE h fun Bp Bf h=>s_callv k As z z z z z z (Ar _ _ _ _ m.ext z Bf) fun Bu Bo hR=>?_))))
     obtain ⟨rfl,e⟩:=hR
     refine ⟨_,z,fun a k=>?_⟩
     have m:=m.step e
     refine pN 1 k z fun a k=>nn (cI h k z (fun Az h=>?_) fun Az h=>?_)
     · refine wr (pN 3 k z fun a k=>oE h fun Bv Ap h=>sv k z (r_ixa (Enc.ow_rd Aa) Ap k ts63 z z z) fun a k=>s_ste (α:=Int) (sz:=1) (y:=Ao) sizeOf3 Ap m 0 Aa 0 k z z z z z z z z z z z z fun Bj a k e m Ay=>nn (wp_region_lit (pN 3 k z fun a k=>wpList_nil (nm_block (nm_then ?_)))))
       exact ⟨setx Ae Ab Ao,Bj,w64 (Ab + 1),k.keep [0,1,5,6] z,m.sel [0] z (by decide),Ay,h⟩
     refine wp_skip (nm_block (nm_then ?_))
     exact ⟨Ae,Ai,Ab,k.keep [0,1,5,6] z,m.sel [0] z (by decide),Aa,h⟩
   refine wp_exit (ex_then (ex_then (ex_same (nm_then ?_))))
   refine wr (pN 2 k z fun a k=>oE h fun Bt Au h=>s_slFromP (Enc.ow_rd Aa) Au k ts63 z z z z z z fun Bl a k Br Bg=>s_clr (lo:=Ab) te63 m 0 Aa Bg k z z z z z fun Bw a k e m Bb=>nn (wr (pN 2 k z fun a k=>oE h fun Bs Ax h=>s_slToO Bb Ax k ts63 z z z z z z fun Bq a k Bh=>pN 1 k z fun a k=>nn (wp_ret ?_))))
   cases h
   exact finR1 k z (RV.tmp k z) ⟨_,F3,z,m.ext,(Enc.ow_agr Bh (m.a 0 z)),(fun b hb=>m.lo b (mem_fps (i:=0) z hb))⟩
 exact ⟨Aj,w0,Ak,w64 (Ak + 1),k.keep [0,1,5,6] z,m.sel [0] z (by decide),Ad,h⟩
theorem c_impl_thereOf (fu:Nat) {w0:World} (r1:Request) (Aj:List Int) {Ah:List Value} {F3:List Nat} (Av:rd w0 F3 Ah r1) {v6:Value} {F7:List Nat} (Ak:rd w0 F7 [v6] Aj) {r:(List Int)}
    (h:d_impl_thereOf fu r1 Aj = some r) :
    Calls Tryz.prog 147 #[.agg Ah.toArray,v6] w0 fun e w=>∃ (v0:Value) (G0:List Nat),e = .returned (v0) ∧ Ext [] w0 w ∧ ow w G0 [v0] r ∧ (∀ b ∈ G0,w0.heap.size ≤ b):=by
 refine enter (vs:=[_,_]) func147 z ntmps147 z fun a k=>?_
 have m:=St.start w0
 obtain ⟨v9,Bl,Ae,Bt,Al,Bd,rfl,rfl,Ad,Ai,Af⟩:=Av
 unfold d_impl_thereOf at h
 refine wr (s_box (cs:=[I r1.fWay,I r1.fPallet.fW,I r1.fPallet.fD,I r1.fPallet.fH,I r1.fPallet.fGram,I r1.fClasses,v9,Ae,I r1.fMaster,Al]) m k z z z z z z fun Br Bh a k m e Ay=>pN 1 k z fun a k=>nn (wr (sv k z (r_ldB ta38 m 0 Ay 0 k z z z z z z) fun a k=>oE h fun Au Bb h=>?_)))
 refine s_call k call123 z z z z z (c_impl_Units fu _ (show rd _ _ [I r1.fWay,I r1.fPallet.fW,I r1.fPallet.fD,I r1.fPallet.fH,I r1.fPallet.fGram,I r1.fClasses,v9,Ae,I r1.fMaster,Al] (r1:Request) from ⟨_,_,_,_,_,_,z,z,(Enc.rd_agr Ad (m.a00 (Enc.rd_lt Ad))),(Enc.rd_agr Ai (m.a00 (Enc.rd_lt Ai))),(Enc.rd_agr Af (m.a00 (Enc.rd_lt Af)))⟩) Bb) fun Bg Be hR=>?_
 obtain ⟨Bk,Am,rfl,e,Ac,Aq⟩:=hR
 refine ⟨_,z,fun a k=>?_⟩
 have m:=m.new e Am (fun b hb=>⟨Aq b hb,Enc.rd_lt (Enc.ow_rd Ac) b hb⟩) (Enc.ow_nd Ac)
 refine sv k z (r_len (α:=Int) (Enc.ow_rd Ac) k underlying63 z z) fun a k=>s_alloc (cs:=[I 0]) m k zeroValue3 z z z z z fun Ax Bc a k m e Ap=>s_stb (cs':=[I ((Au.length:Int))]) sizeOf3 m 0 Ap 0 k z z z z z z z z z z z fun Bn a k e m Az=>nn (wr (pN 1 k z fun a k=>oE h fun Bm Ar h=>s_call k call133 z z z z z (c_slices_Clone_int_int fu _ (Enc.rd_agr Ak (m.a00 (Enc.rd_lt Ak))) Ar) fun Bf Bu hR=>?_))
 obtain ⟨Bq,Ag,rfl,e,Aa,Aw⟩:=hR
 refine ⟨_,z,fun a k=>?_⟩
 have m:=m.new e Ag (fun b hb=>⟨Aw b hb,Enc.rd_lt (Enc.ow_rd Aa) b hb⟩) (Enc.ow_nd Aa)
 refine pN 1 k z fun a k=>oE h fun Bp At h=>s_call k call158 z z z z z (c_slices_DeleteFunc_int_int fu _ _ (Enc.ow_agr Aa (m.a 0 z)) ⟨238,[.pointer (some (⟨Ax,0,none⟩:Addr))],z,call238,fun w Bo Bv r e As hx=>by subst As; have m:=m.mut 0 rfl e Ag (fun b hb=>⟨.inl hb,e.lt1 (m.ltF 0 rfl) b hb⟩) (m.ndF 0 rfl); exact c_impl_thereOf_1 fu _ _ (Az.agr (m.a 1 rfl) (by simp)) hx⟩ At) fun Bs Bi hR=>?_
 obtain ⟨Bj,Ba,rfl,e,Ab,Ao⟩:=hR
 refine ⟨_,z,fun a k=>?_⟩
 have m:=m.mut 0 z e _ (fun b hb=>⟨Ao b hb,Enc.rd_lt (Enc.ow_rd Ab) b hb⟩) (Enc.ow_nd Ab)
 refine pN 1 k z fun a k=>nn (wp_ret ?_)
 cases h
 exact finR1 k z (RV.tmp k z) ⟨_,Ba,z,m.ext,(Enc.ow_agr Ab (m.a 0 z)),(m.fresh 0 z)⟩
theorem c_impl_itemsOf (fu:Nat) {w0:World} (r1:Request) (Ad:List Int) {Bd:List Value} {F3:List Nat} (By:rd w0 F3 Bd r1) {v6:Value} {F7:List Nat} (Am:rd w0 F7 [v6] Ad) {r:(List Item)}
    (h:d_impl_itemsOf fu r1 Ad = some r) :
    Calls Tryz.prog 149 #[.agg Bd.toArray,v6] w0 fun e w=>∃ (v0:Value) (G0:List Nat),e = .returned (v0) ∧ Ext [] w0 w ∧ ow w G0 [v0] r ∧ (∀ b ∈ G0,w0.heap.size ≤ b):=by
 refine enter (vs:=[_,_]) func149 z ntmps149 z fun a k=>?_
 have m:=St.start w0
 obtain ⟨v9,Ch,Ay,Cr,Bf,Ce,rfl,rfl,Aw,Be,Ae⟩:=By
 unfold d_impl_itemsOf at h
 refine wr (s_box (cs:=[I r1.fWay,I r1.fPallet.fW,I r1.fPallet.fD,I r1.fPallet.fH,I r1.fPallet.fGram,I r1.fClasses,v9,Ay,I r1.fMaster,Bf]) m k z z z z z z fun Ah Au a k m e Bg=>pN 1 k z fun a k=>nn (wr (sv k z (r_ldB ta38 m 0 Bg 0 k z z z z z z) fun a k=>oE h fun Ba Ca h=>?_)))
 refine s_call k call123 z z z z z (c_impl_Units fu _ (show rd _ _ [I r1.fWay,I r1.fPallet.fW,I r1.fPallet.fD,I r1.fPallet.fH,I r1.fPallet.fGram,I r1.fClasses,v9,Ay,I r1.fMaster,Bf] (r1:Request) from ⟨_,_,_,_,_,_,z,z,(Enc.rd_agr Aw (m.a00 (Enc.rd_lt Aw))),(Enc.rd_agr Be (m.a00 (Enc.rd_lt Be))),(Enc.rd_agr Ae (m.a00 (Enc.rd_lt Ae)))⟩) Ca) fun Cf At hR=>?_
 obtain ⟨Av,Aq,rfl,e,Af,Bn⟩:=hR
 refine ⟨_,z,fun a k=>?_⟩
 have m:=m.new e Aq (fun b hb=>⟨Bn b hb,Enc.rd_lt (Enc.ow_rd Af) b hb⟩) (Enc.ow_nd Af)
 refine pN 1 k z fun a k=>nn (wr (s_bs (cs:=[]) (ps:=[]) te36 m k z z z z z z z (by decide) z (by exact (List.forall_mem_nil _)) fun Az Bh Co a k m e Bx=>?_))
 have Bp:=ow_bx Bx ([]:List Item) z z z
 refine pN 1 k z fun a k=>nn (wp_seq (wr (pN 1 k z fun a k=>sv k z (r_len (α:=Int) Am k underlying63 z z) fun a k=>pN 1 k z fun a k=>nn (wp_block (c_loop (fun n a w=>∃ (Ap:List Item) (Ak:Value) (Ab:List Nat) (Aj:World) (Ac:Int),K 36 [(2,.pointer (some (⟨Ah,0,none⟩:Addr))),(5,Av),(6,Ak),(12,v6),(13,I ((Ad.length:Int))),(14,I Ac)] a ∧ St [] w0 w [([Ah],Au),(Aq,At),(Ab,Aj)] ∧ ow Aj Ab [Ak] Ap ∧ d_impl_itemsOf_L1 fu r1 Ad Ba n Ap Ac = some r) ?_ ?_ fu _ _ ?_)))))
 · rintro a w ⟨_,_,_,_,_,_,_,_,h⟩
   exact nS h
 · rintro Bz a Cj ⟨Ap,Ak,Ab,Aj,Ac,k,m,Ar,h⟩
   rw [d_impl_itemsOf_L1_s] at h
   unfold d_impl_itemsOf_L1_B at h
   refine wr (pN 1 k z fun a k=>nn (wp_seq (cI h k z (fun Bw h=>?_) fun Bw h=>?_)))
   · refine wp_skip (nm_then ?_)
     refine c_cut (fun a w=>∃ (Ag:List Item) (Al:Value) (Ai:List Nat) (Ao:World),K 36 [(2,.pointer (some (⟨Ah,0,none⟩:Addr))),(5,Av),(6,Al),(12,v6),(13,I ((Ad.length:Int))),(14,I Ac)] a ∧ St [] w0 w [([Ah],Au),(Aq,At),(Ai,Ao)] ∧ ow Ao Ai [Al] Ag ∧ d_impl_itemsOf_J1 fu (d_impl_itemsOf_L1 fu r1 Ad Ba Bz) Ac Ag = some r) ?_ ?_
     · rintro a Cn ⟨Ag,Al,Ai,Ao,k,m,Bs,h⟩
       unfold d_impl_itemsOf_J1 at h
       refine wp_region_lit (pN 2 k z fun a k=>nn ?_)
       exact ⟨Ag,Al,Ai,Ao,w64 (Ac + 1),k.keep [2,5,6,12,13,14] z,m.sel [0,1,2] z (by decide),Bs,h⟩
     refine wp_block (wr (oE h fun Ck As h=>sv k z (r_ixa Am As k ts63 z z z) fun a k=>sv k z (r_lde1 Am (m.a00 (Enc.rd_lt Am)) As 0 t13 k z z z z) fun a k=>pN 1 k z fun a k=>nn (wr (pN 2 k z fun a k=>sv k z (r_len (α:=Int) (Enc.ow_rd Af) k underlying63 z z) fun a k=>pN 1 k z fun a k=>oE h fun Cp Cb h=>cE k m call139 z z z (c_impl_in fu _ _ _  Cb) fun Cl e a k m=>nn (cI h k z (fun Bv h=>?_) fun Bv h=>?_)))))
     · refine d_go (Ab) mixo m z fun Bl hMd=>?_
       have m:=hMd
       have s:=Ext.refl ((Ab):List Nat) Bl
       refine dN [0,3,4] 3 z k (by kernel_rfl) z s (fun _ _ _ _ _=>id) fun a k=>dt k 1 z (by kernel_rfl) z s (fun _ _ _=>id) (fun w s=>r_fa fa38_6 k z z) fun a k=>dt k 2 z (by kernel_rfl) z s (fun _ _ _=>id) (fun w s=>r_ld1 t136 (r:=[]) (Bg.at (hMd.az 0 2 z z z s) 9 1 z z z) k z z) fun a k=>oE h fun Cd Ax h=>dt k 5 z (by kernel_rfl) z s (fun _ _ _=>id) (fun w s=>r_ixa (Enc.ow_rd Af) Ax k ts63 z z z) fun a k=>dt k 6 z (by kernel_rfl) z s (fun _ _ _=>id) (fun w s=>r_lde1 (Enc.ow_rd Af) (hMd.az 1 2 z z z s) Ax 0 t13 k z z z z) fun a k=>oE h fun Aa Bc h=>dt k 7 z (by kernel_rfl) z s (fun _ _ _=>id) (fun w s=>r_ixa Ae Bc k ts36 z z z) fun a k=>?_
       refine dt k 8 z (by kernel_rfl) z s (fun _ _ _=>id) (fun w s=>r_lde Ae (hMd.az0 2 z z (Enc.rd_lt Ae) s) Bc ta158 k z z) fun a k=>d_one 9 (by kernel_rfl) z (s_bsN (cs:=[I Aa.fId,I Aa.fW,I Aa.fH,I Aa.fD,I Aa.fGram,I Aa.fClass,I Aa.fCount]) (ps:=[(0,.tmp 31)]) te36 m k z z z z z z z (by decide) z (by exact (List.forall_mem_cons.2 ⟨z,(List.forall_mem_nil _)⟩)) fun Cm Cc Ci a k m e Bi Bq=>?_)
       have Cq:=lo1 (Nat.le_trans s.size Bq)
       have Bo:=ow_bx Bi ([Aa]:List Item) z z z
       have s:=s.trans e (by simp)
       refine wpList_nil ⟨s,?_⟩
       refine d_one 10 (by kernel_rfl) z (oE h fun Bu Bt h=>s_appFN Bt te36 z m 3 Ar (News.rd (Enc.rd_agr (Enc.ow_rd Bo) (m.a 0 z))) z z k z z z z z z z fun Bk Bb Br a k e m Bj Bm=>?_)
       have Cg:∀ y ∈ Bb,y ∈ (Ab) ∨ _ ≤ y:=fun y hy=>(Bm y hy).elim (fun hy=>(fun y hy=>Or.inl hy) y hy) (fun h=>Or.inr (Nat.le_trans s.size h))
       have s:=s.trans e (fun y hy=>Or.inl hy)
       refine wpList_nil ⟨s,?_⟩
       refine dN [11] 1 z k (by kernel_rfl) z s (fun _ _ _ _ _=>id) fun a k=>d_done (by kernel_rfl) ((nm_block (nm_then ?_)))
       exact ⟨Bu,Bk,Bb,Br,k.keep [2,5,6,12,13,14] z,m.sel [1,2,3] z (by decide),Bj,h⟩
     refine wp_skip (nm_block (nm_then ?_))
     exact ⟨Ap,Ak,Ab,Aj,k.keep [2,5,6,12,13,14] z,m.sel [0,1,2] z (by decide),Ar,h⟩
   refine wp_exit (ex_then (ex_then (ex_same (nm_then ?_))))
   refine wr (pN 2 k z fun a k=>nn (wp_ret ?_))
   cases h
   exact finR1 k z (RV.tmp k z) ⟨_,Ab,z,m.ext,(Enc.ow_agr Ar (m.a 2 z)),(m.fresh 2 z)⟩
 exact ⟨([]:List Item),(.slice (some ⟨Az,0,none⟩) 0 0),[Az],Bh,0,k.keep [2,5,6,12,13,14] z,m.sel [2,1,0] z (by decide),Bp,h⟩
theorem c_impl_Holds_1 (fu:Nat) {w0:World} (x1:Item) (x2:Typ) {b3:Nat} (Aa:bx w0 b3 [I x2.fId,I x2.fW,I x2.fH,I x2.fD,I x2.fTare,I x2.fGram,I x2.fCost] 79) {r:Bool}
    (h:d_impl_Holds_1 fu x1 x2 = some r) :
    Calls Tryz.prog 150 #[.agg (Flat.e (x1)).toArray,.pointer (some (⟨b3,0,none⟩:Addr))] w0 fun e w=>e = .returned (.bool (r)) ∧ Ext [] w0 w:=by
 refine enter (vs:=[_,_]) func150 z ntmps150 z fun a k=>?_
 have m:=St.start w0
 unfold d_impl_Holds_1 at h
 refine wr (s_box (cs:=[I x1.fId,I x1.fW,I x1.fH,I x1.fD,I x1.fGram,I x1.fClass,I x1.fCount]) m k z z z z z z fun b5 w7 a k m e Ac=>pN 1 k z fun a k=>nn (wr (sv k z (r_ldB ta158 m 0 Ac 0 k z z z z z z) fun a k=>sv k z (r_ldA ta79 (Aa.at (m.a00 Aa.lt1) 0 7 z z z) z k z z) fun a k=>oE h fun x8 Ab h=>cE k m call151 z z z (c_impl_Fits fu (x1:Item) (x2:Typ)  Ab) fun Ad e a k m=>pN 2 k z fun a k=>nn (wp_ret (fS h k m z z)))))
theorem c_impl_Volume (fu:Nat) {w0:World} (Ac:Int) (h2:Int) (d3:Int)  {r:Int}
    (h:d_impl_Volume fu Ac h2 d3 = some r) :
    Calls Tryz.prog 183 #[I Ac,I h2,I d3] w0 fun e w=>e = .returned (I r) ∧ Ext [] w0 w:=by
 refine enter (vs:=[_,_,_]) func183 z ntmps183 z fun a k=>?_
 have m:=St.start w0
 unfold d_impl_Volume at h
 refine wr (pN 1 k z fun a k=>nn (c_cut (fun a w=>K 25 [(0,I Ac),(1,I h2),(2,I d3)] a ∧ St [] w0 w [] ∧ d_impl_Volume_J1 fu Ac h2 d3 = some r) ?_ ?_))
 · rintro a Ao ⟨k,m,h⟩
   unfold d_impl_Volume_J1 at h
   refine wr (pN 6 k z fun a k=>nn (wp_ret (fS h k m z z)))
 refine wr (pN 1 k z fun a k=>oE h fun Ah Ad h=>cE k m call139 z z z (c_impl_in fu _ _ _  Ad) fun Aj e a k m=>pN 2 k z fun a k=>bsplit (!Ah) (fun Aa=>?_) (fun Aa=>?_))
 · have h:=bif_t Aa h
   refine rB k 10 z Aa fun k=>pN 9 k z fun a k=>nn (wp_cond_true (k.ev z) (wr (pN 1 k z fun a k=>nn (wp_ret (rt_then ?_)))))
   refine fS h k m z z
 have h:=bif_f Aa h
 refine rB k 10 z Aa fun k=>pN 1 k z fun a k=>oE h fun Ai Ae h=>cE k m call139 z z z (c_impl_in fu _ _ _  Ae) fun Am e a k m=>pN 3 k z fun a k=>bsplit (!Ai) (fun Ab=>?_) (fun Ab=>?_)
 · have h:=bif_t Ab h
   refine rB k 15 z Ab fun k=>pN 4 k z fun a k=>nn (wp_cond_true (k.ev z) (wr (pN 1 k z fun a k=>nn (wp_ret (rt_then ?_)))))
   refine fS h k m z z
 have h:=bif_f Ab h
 refine rB k 15 z Ab fun k=>pN 1 k z fun a k=>oE h fun Ak Ag h=>cE k m call139 z z z (c_impl_in fu _ _ _  Ag) fun Al e a k m=>pN 2 k z fun a k=>nn (cI h k z (fun Af h=>?_) fun Af h=>?_)
 · refine wr (pN 1 k z fun a k=>nn (wp_ret (rt_then ?_)))
   refine fS h k m z z
 refine wp_skip (nm_then ?_)
 exact ⟨k.keep [0,1,2] z,m.sel [] z (by decide),h⟩
theorem c_impl_VolumeOf (fu:Nat) {w0:World} (r1:Request) (Ao:List Int) {Al:List Value} {F3:List Nat} (Ax:rd w0 F3 Al r1) {v6:Value} {F7:List Nat} (Ap:rd w0 F7 [v6] Ao) {r:Int}
    (h:d_impl_VolumeOf fu r1 Ao = some r) :
    Calls Tryz.prog 182 #[.agg Al.toArray,v6] w0 fun e w=>e = .returned (I r) ∧ Ext [] w0 w:=by
 refine enter (vs:=[_,_]) func182 z ntmps182 z fun a k=>?_
 have m:=St.start w0
 obtain ⟨v9,Bg,Ai,Bm,Aq,Bc,rfl,rfl,Ah,Am,Ak⟩:=Ax
 unfold d_impl_VolumeOf at h
 refine wr (s_box (cs:=[I r1.fWay,I r1.fPallet.fW,I r1.fPallet.fD,I r1.fPallet.fH,I r1.fPallet.fGram,I r1.fClasses,v9,Ai,I r1.fMaster,Aq]) m k z z z z z z fun Bk Be a k m e Az=>pN 1 k z fun a k=>nn (wr (pN 1 k z fun a k=>nn (wp_seq (wr (sv k z (r_ldB ta38 m 0 Az 0 k z z z z z z) fun a k=>pN 1 k z fun a k=>oE h fun Aj As h=>?_))))))
 refine s_call k call149 z z z z z (c_impl_itemsOf fu _ _ (show rd _ _ [I r1.fWay,I r1.fPallet.fW,I r1.fPallet.fD,I r1.fPallet.fH,I r1.fPallet.fGram,I r1.fClasses,v9,Ai,I r1.fMaster,Aq] (r1:Request) from ⟨_,_,_,_,_,_,z,z,(Enc.rd_agr Ah (m.a00 (Enc.rd_lt Ah))),(Enc.rd_agr Am (m.a00 (Enc.rd_lt Am))),(Enc.rd_agr Ak (m.a00 (Enc.rd_lt Ak)))⟩) (Enc.rd_agr Ap (m.a00 (Enc.rd_lt Ap))) As) fun Bd At hR=>?_
 obtain ⟨Av,Af,rfl,e,Ab,Aw⟩:=hR
 refine ⟨_,z,fun a k=>?_⟩
 have m:=m.new e Af (fun b hb=>⟨Aw b hb,Enc.rd_lt (Enc.ow_rd Ab) b hb⟩) (Enc.ow_nd Ab)
 refine sv k z (r_len (α:=Item) (Enc.ow_rd Ab) k underlying36 z z) fun a k=>pN 1 k z fun a k=>nn (wp_block (c_loop (fun n a w=>∃ (Ad:Int) (Ac:Int),K 27 [(5,I Ad),(10,Av),(11,I ((Aj.length:Int))),(12,I Ac)] a ∧ St [] w0 w [(Af,At)] ∧ d_impl_VolumeOf_L1 fu Aj n Ad Ac = some r) ?_ ?_ fu _ _ ?_))
 · rintro a w ⟨_,_,_,_,h⟩
   exact nS h
 · rintro Bb a Bf ⟨Ad,Ac,k,m,h⟩
   rw [d_impl_VolumeOf_L1_s] at h
   unfold d_impl_VolumeOf_L1_B at h
   refine wr (pN 1 k z fun a k=>nn (wp_seq (cI h k z (fun Au h=>?_) fun Au h=>?_)))
   · refine wp_skip (nm_then ?_)
     refine wp_seq (wp_block (wr (oE h fun Aa Ag h=>sv k z (r_ixa (Enc.ow_rd Ab) Ag k ts36 z z z) fun a k=>sv k z (r_lde (Enc.ow_rd Ab) (m.a 0 z) Ag ta158 k z z) fun a k=>s_alloc (cs:=[I 0,I 0,I 0,I 0,I 0,I 0,I 0]) m k zeroValue158 z z z z z fun Bh Bi a k m e Ar=>s_stb (cs':=[I Aa.fId,I Aa.fW,I Aa.fH,I Aa.fD,I Aa.fGram,I Aa.fClass,I Aa.fCount]) sizeOf158 m 0 Ar 0 k z z z z z z z z z z z fun Bl a k e m Ae=>nn (wp_region_lit (pN 1 k z fun a k=>sv k z (r_fa fa158_1 k z z) fun a k=>sv k z (r_ldb t13 m 0 Ae 1 k z z z z z) fun a k=>sv k z (r_fa fa158_2 k z z) fun a k=>?_)))))
     refine sv k z (r_ldb t13 m 0 Ae 2 k z z z z z) fun a k=>sv k z (r_fa fa158_3 k z z) fun a k=>sv k z (r_ldb t13 m 0 Ae 3 k z z z z z) fun a k=>oE h fun Ay Ba h=>cE k m call183 z z z (c_impl_Volume fu _ _ _  Ba) fun Bj e a k m=>pN 2 k z fun a k=>wpList_nil (nm_block (nm_then ?_))
     refine wp_region_lit (pN 2 k z fun a k=>nn ?_)
     exact ⟨w64 (Ad + Ay),w64 (Ac + 1),k.keep [5,10,11,12] z,m.sel [1] z (by decide),h⟩
   refine wp_exit (ex_then (ex_then (ex_same (nm_then ?_))))
   refine wr (pN 2 k z fun a k=>nn (wp_ret (fS h k m z z)))
 exact ⟨0,0,k.keep [5,10,11,12] z,m.sel [0] z (by decide),h⟩
theorem c_impl_GramOf (fu:Nat) {w0:World} (r1:Request) (Al:List Int) {Aj:List Value} {F3:List Nat} (Au:rd w0 F3 Aj r1) {v6:Value} {F7:List Nat} (Am:rd w0 F7 [v6] Al) {r:Int}
    (h:d_impl_GramOf fu r1 Al = some r) :
    Calls Tryz.prog 240 #[.agg Aj.toArray,v6] w0 fun e w=>e = .returned (I r) ∧ Ext [] w0 w:=by
 refine enter (vs:=[_,_]) func240 z ntmps240 z fun a k=>?_
 have m:=St.start w0
 obtain ⟨v9,Be,Ag,Bi,Ap,Ba,rfl,rfl,Af,Ak,Ai⟩:=Au
 unfold d_impl_GramOf at h
 refine wr (s_box (cs:=[I r1.fWay,I r1.fPallet.fW,I r1.fPallet.fD,I r1.fPallet.fH,I r1.fPallet.fGram,I r1.fClasses,v9,Ag,I r1.fMaster,Ap]) m k z z z z z z fun Bg Bc a k m e Aw=>pN 1 k z fun a k=>nn (wr (pN 1 k z fun a k=>nn (wp_seq (wr (sv k z (r_ldB ta38 m 0 Aw 0 k z z z z z z) fun a k=>pN 1 k z fun a k=>oE h fun Ah Ay h=>?_))))))
 refine s_call k call149 z z z z z (c_impl_itemsOf fu _ _ (show rd _ _ [I r1.fWay,I r1.fPallet.fW,I r1.fPallet.fD,I r1.fPallet.fH,I r1.fPallet.fGram,I r1.fClasses,v9,Ag,I r1.fMaster,Ap] (r1:Request) from ⟨_,_,_,_,_,_,z,z,(Enc.rd_agr Af (m.a00 (Enc.rd_lt Af))),(Enc.rd_agr Ak (m.a00 (Enc.rd_lt Ak))),(Enc.rd_agr Ai (m.a00 (Enc.rd_lt Ai)))⟩) (Enc.rd_agr Am (m.a00 (Enc.rd_lt Am))) Ay) fun Bb Aq hR=>?_
 obtain ⟨Ar,Ae,rfl,e,Ab,As⟩:=hR
 refine ⟨_,z,fun a k=>?_⟩
 have m:=m.new e Ae (fun b hb=>⟨As b hb,Enc.rd_lt (Enc.ow_rd Ab) b hb⟩) (Enc.ow_nd Ab)
 refine sv k z (r_len (α:=Item) (Enc.ow_rd Ab) k underlying36 z z) fun a k=>pN 1 k z fun a k=>nn (wp_block (c_loop (fun n a w=>∃ (Ad:Int) (Ac:Int),K 22 [(5,I Ad),(10,Ar),(11,I ((Ah.length:Int))),(12,I Ac)] a ∧ St [] w0 w [(Ae,Aq)] ∧ d_impl_GramOf_L1 fu Ah n Ad Ac = some r) ?_ ?_ fu _ _ ?_))
 · rintro a w ⟨_,_,_,_,h⟩
   exact nS h
 · rintro Bf a Bd ⟨Ad,Ac,k,m,h⟩
   rw [d_impl_GramOf_L1_s] at h
   unfold d_impl_GramOf_L1_B at h
   refine wr (pN 1 k z fun a k=>nn (wp_seq (cI h k z (fun At h=>?_) fun At h=>?_)))
   · refine wp_skip (nm_then ?_)
     refine wp_seq (wp_block (wr (oE h fun Aa Ao h=>sv k z (r_ixa (Enc.ow_rd Ab) Ao k ts36 z z z) fun a k=>sv k z (r_lde (Enc.ow_rd Ab) (m.a 0 z) Ao ta158 k z z) fun a k=>s_alloc (cs:=[I 0,I 0,I 0,I 0,I 0,I 0,I 0]) m k zeroValue158 z z z z z fun Bh Az a k m e Av=>s_stb (cs':=[I Aa.fId,I Aa.fW,I Aa.fH,I Aa.fD,I Aa.fGram,I Aa.fClass,I Aa.fCount]) sizeOf158 m 0 Av 0 k z z z z z z z z z z z fun Bj a k e m Ax=>nn (wp_region_lit (pN 1 k z fun a k=>sv k z (r_fa fa158_4 k z z) fun a k=>sv k z (r_ldb t13 m 0 Ax 4 k z z z z z) fun a k=>pN 2 k z fun a k=>wpList_nil (nm_block (nm_then ?_)))))))
     refine wp_region_lit (pN 2 k z fun a k=>nn ?_)
     exact ⟨w64 (Ad + Aa.fGram),w64 (Ac + 1),k.keep [5,10,11,12] z,m.sel [1] z (by decide),h⟩
   refine wp_exit (ex_then (ex_then (ex_same (nm_then ?_))))
   refine wr (pN 2 k z fun a k=>nn (wp_ret (fS h k m z z)))
 exact ⟨0,0,k.keep [5,10,11,12] z,m.sel [0] z (by decide),h⟩
theorem c_impl_within (fu:Nat) {w0:World} (r1:Request) (Ak:List Int) (t9:Typ) {Al:List Value} {F3:List Nat} (Ar:rd w0 F3 Al r1) {v6:Value} {F7:List Nat} (Af:rd w0 F7 [v6] Ak) {r:Bool}
    (h:d_impl_within fu r1 Ak t9 = some r) :
    Calls Tryz.prog 152 #[.agg Al.toArray,v6,.agg (Flat.e (t9)).toArray] w0 fun e w=>e = .returned (.bool (r)) ∧ Ext [] w0 w:=by
 refine enter (vs:=[_,_,_]) func152 z ntmps152 z fun a k=>?_
 have m:=St.start w0
 obtain ⟨Ag,Av,Ah,Bd,Ai,Aw,rfl,rfl,Ae,Ad,Ac⟩:=Ar
 unfold d_impl_within at h
 refine wr (s_box (cs:=[I r1.fWay,I r1.fPallet.fW,I r1.fPallet.fD,I r1.fPallet.fH,I r1.fPallet.fGram,I r1.fClasses,Ag,Ah,I r1.fMaster,Ai]) m k z z z z z z fun Ba Bc a k m e Aj=>s_box (cs:=[I t9.fId,I t9.fW,I t9.fH,I t9.fD,I t9.fTare,I t9.fGram,I t9.fCost]) m k z z z z z z fun Bb Au a k m e Ab=>pN 1 k z fun a k=>nn (wp_seq (d_go [] mixo m z fun Aq hMd=>?_)))
 have m:=hMd
 have s:=Ext.refl ([]:List Nat) Aq
 refine dN [1] 1 z k (by kernel_rfl) z s (fun _ _ _ _ _=>id) fun a k=>dt k 0 z (by kernel_rfl) z s (fun _ _ _=>id) (fun w s=>r_ldA ta38 (Aj.at ((hMd.step s).a 1 z) 0 10 z z z) z k z z) fun a k=>dt k 3 z (by kernel_rfl) z s (fun _ _ _=>id) (fun w s=>r_fa fa79_1 k z z) fun a k=>dt k 4 z (by kernel_rfl) z s (fun _ _ _=>id) (fun w s=>r_ld1 t13 (r:=[]) (Ab.at ((hMd.step s).a 0 z) 1 1 z z z) k z z) fun a k=>dt k 5 z (by kernel_rfl) z s (fun _ _ _=>id) (fun w s=>r_fa fa79_2 k z z) fun a k=>dt k 6 z (by kernel_rfl) z s (fun _ _ _=>id) (fun w s=>r_ld1 t13 (r:=[]) (Ab.at ((hMd.step s).a 0 z) 2 1 z z z) k z z) fun a k=>dt k 7 z (by kernel_rfl) z s (fun _ _ _=>id) (fun w s=>r_fa fa79_3 k z z) fun a k=>?_
 refine dt k 8 z (by kernel_rfl) z s (fun _ _ _=>id) (fun w s=>r_ld1 t13 (r:=[]) (Ab.at ((hMd.step s).a 0 z) 3 1 z z z) k z z) fun a k=>d_one 2 (by kernel_rfl) z (oE h fun At As h=>cE k m call182 z z z (c_impl_VolumeOf fu _ _ (show rd _ _ [I r1.fWay,I r1.fPallet.fW,I r1.fPallet.fD,I r1.fPallet.fH,I r1.fPallet.fGram,I r1.fClasses,Ag,Ah,I r1.fMaster,Ai] (r1:Request) from ⟨_,_,_,_,_,_,z,z,(Enc.rd_agr Ae (m.a00 (Enc.rd_lt Ae))),(Enc.rd_agr Ad (m.a00 (Enc.rd_lt Ad))),(Enc.rd_agr Ac (m.a00 (Enc.rd_lt Ac)))⟩) (Enc.rd_agr Af (m.a00 (Enc.rd_lt Af))) As) fun Ay e a k m=>?_)
 have s:=s.trans e (by simp)
 refine wpList_nil ⟨s,?_⟩
 refine d_one 9 (by kernel_rfl) z (oE h fun Ap Am h=>cE k m call183 z z z (c_impl_Volume fu _ _ _  Am) fun Az e a k m=>?_)
 have s:=s.trans e (by simp)
 refine wpList_nil ⟨s,?_⟩
 refine dN [10,11] 2 z k (by kernel_rfl) z s (fun _ _ _ _ _=>id) fun a k=>bsplit (decide (At ≤ Ap)) (fun Aa=>?_) (fun Aa=>?_)
 · have h:=bif_t Aa h
   refine rB k 18 z Aa fun k=>dN [13] 1 z k (by kernel_rfl) z s (fun _ _ _ _ _=>id) fun a k=>dt k 12 z (by kernel_rfl) z s (fun _ _ _=>id) (fun w s=>r_ldA ta38 (Aj.at ((hMd.step s).a 1 z) 0 10 z z z) z k z z) fun a k=>dt k 15 z (by kernel_rfl) z s (fun _ _ _=>id) (fun w s=>r_fa fa79_5 k z z) fun a k=>dt k 16 z (by kernel_rfl) z s (fun _ _ _=>id) (fun w s=>r_ld1 t13 (r:=[]) (Ab.at ((hMd.step s).a 0 z) 5 1 z z z) k z z) fun a k=>d_one 14 (by kernel_rfl) z (oE h fun Ax Ao h=>?_)
   refine cE k m call240 z z z (c_impl_GramOf fu _ _ (show rd _ _ [I r1.fWay,I r1.fPallet.fW,I r1.fPallet.fD,I r1.fPallet.fH,I r1.fPallet.fGram,I r1.fClasses,Ag,Ah,I r1.fMaster,Ai] (r1:Request) from ⟨_,_,_,_,_,_,z,z,(Enc.rd_agr Ae (m.a00 (Enc.rd_lt Ae))),(Enc.rd_agr Ad (m.a00 (Enc.rd_lt Ad))),(Enc.rd_agr Ac (m.a00 (Enc.rd_lt Ac)))⟩) (Enc.rd_agr Af (m.a00 (Enc.rd_lt Af))) Ao) fun Be e a k m=>?_
   have s:=s.trans e (by simp)
   refine wpList_nil ⟨s,?_⟩
   refine dN [17,18,19] 3 z k (by kernel_rfl) z s (fun _ _ _ _ _=>id) fun a k=>d_done (by kernel_rfl) ((nm_then ?_))
   refine wp_ret (fS h k m z z)
 have h:=bif_f Aa h
 refine rB k 18 z Aa fun k=>dN [12,13,14,15,16,17,18,19] 8 z k (by kernel_rfl) z s (fun _ _ _ _ _=>id) fun a k=>d_done (by kernel_rfl) ((nm_then ?_))
 refine wp_ret (fS h k m z z)
theorem c_impl_Holds (fu:Nat) {w0:World} (r1:Request) (Am:List Int) (t9:Typ) {Ar:List Value} {F3:List Nat} (Ba:rd w0 F3 Ar r1) {v6:Value} {F7:List Nat} (Ad:rd w0 F7 [v6] Am) {r:Bool}
    (h:d_impl_Holds fu r1 Am t9 = some r) :
    Calls Tryz.prog 54 #[.agg Ar.toArray,v6,.agg (Flat.e (t9)).toArray] w0 fun e w=>e = .returned (.bool (r)) ∧ Ext [] w0 w:=by
 refine enter (vs:=[_,_,_]) func54 z ntmps54 z fun a k=>?_
 have m:=St.start w0
 obtain ⟨Ae,Bn,Ag,Bz,Ah,Br,rfl,rfl,Ac,Ab,Aa⟩:=Ba
 unfold d_impl_Holds at h
 refine wr (s_box (cs:=[I r1.fWay,I r1.fPallet.fW,I r1.fPallet.fD,I r1.fPallet.fH,I r1.fPallet.fGram,I r1.fClasses,Ae,Ag,I r1.fMaster,Ah]) m k z z z z z z fun Aq Be a k m e Aj=>s_box (cs:=[I t9.fId,I t9.fW,I t9.fH,I t9.fD,I t9.fTare,I t9.fGram,I t9.fCost]) m k z z z z z z fun Ao At a k m e Ap=>pN 1 k z fun a k=>nn (c_cut (fun a w=>K 31 [(1,v6),(3,.pointer (some (⟨Aq,0,none⟩:Addr))),(5,.pointer (some (⟨Ao,0,none⟩:Addr)))] a ∧ St [] w0 w [([Aq],Be),([Ao],At)] ∧ d_impl_Holds_J1 fu r1 Am t9 = some r) ?_ ?_))
 · rintro a Bq ⟨k,m,h⟩
   unfold d_impl_Holds_J1 at h
   refine wr (sv k z (r_ldB ta38 m 0 Aj 0 k z z z z z z) fun a k=>pN 1 k z fun a k=>oE h fun Bo Bd h=>s_call k call149 z z z z z (c_impl_itemsOf fu _ _ (show rd _ _ [I r1.fWay,I r1.fPallet.fW,I r1.fPallet.fD,I r1.fPallet.fH,I r1.fPallet.fGram,I r1.fClasses,Ae,Ag,I r1.fMaster,Ah] (r1:Request) from ⟨_,_,_,_,_,_,z,z,(Enc.rd_agr Ac (m.a00 (Enc.rd_lt Ac))),(Enc.rd_agr Ab (m.a00 (Enc.rd_lt Ab))),(Enc.rd_agr Aa (m.a00 (Enc.rd_lt Aa)))⟩) (Enc.rd_agr Ad (m.a00 (Enc.rd_lt Ad))) Bd) fun Bv Bi hR=>?_)
   obtain ⟨Bk,Bf,rfl,e,Al,Bc⟩:=hR
   refine ⟨_,z,fun a k=>?_⟩
   have m:=m.new e Bf (fun b hb=>⟨Bc b hb,Enc.rd_lt (Enc.ow_rd Al) b hb⟩) (Enc.ow_nd Al)
   refine pN 1 k z fun a k=>oE h fun Bg Au h=>cE k m call148 z z z (c_slices_ContainsFunc_impl_Item_impl_Item fu _ _ (Enc.rd_agr (Enc.ow_rd Al) (m.a 0 z)) ⟨150,[.pointer (some (⟨Ao,0,none⟩:Addr))],z,call150,fun w Bl Bt r e Aw hx=>by subst Aw; have m:=m.step e; exact c_impl_Holds_1 fu _ _ (Ap.agr (m.a 2 rfl) (by simp)) hx⟩ Au) fun Bs e a k m=>pN 2 k rfl fun a k=>bsplit (!Bg) (fun Ai=>?_) (fun Ai=>?_)
   · have h:=bif_t Ai h
     refine rB k 25 z Ai fun k=>sv k z (r_ldB ta38 m 1 Aj 0 k z z z z z z) fun a k=>pN 1 k z fun a k=>sv k z (r_ldB ta79 m 2 Ap 0 k z z z z z z) fun a k=>oE h fun Bp Ax h=>cE k m call152 z z z (c_impl_within fu _ _ (t9:Typ) (show rd _ _ [I r1.fWay,I r1.fPallet.fW,I r1.fPallet.fD,I r1.fPallet.fH,I r1.fPallet.fGram,I r1.fClasses,Ae,Ag,I r1.fMaster,Ah] (r1:Request) from ⟨_,_,_,_,_,_,z,z,(Enc.rd_agr Ac (m.a00 (Enc.rd_lt Ac))),(Enc.rd_agr Ab (m.a00 (Enc.rd_lt Ab))),(Enc.rd_agr Aa (m.a00 (Enc.rd_lt Aa)))⟩) (Enc.rd_agr Ad (m.a00 (Enc.rd_lt Ad))) Ax) fun Bw e a k m=>pN 2 k z fun a k=>nn (wp_ret (fS h k m z z))
   have h:=bif_f Ai h
   refine rB k 25 z Ai fun k=>pN 6 k z fun a k=>nn (wp_ret (fS h k m z z))
 refine wr (sv k z (r_ldB ta38 m 1 Aj 0 k z z z z z z) fun a k=>oE h fun Ay Bh h=>cE k m call115 z z z (c_impl_sound fu _ (show rd _ _ [I r1.fWay,I r1.fPallet.fW,I r1.fPallet.fD,I r1.fPallet.fH,I r1.fPallet.fGram,I r1.fClasses,Ae,Ag,I r1.fMaster,Ah] (r1:Request) from ⟨_,_,_,_,_,_,z,z,(Enc.rd_agr Ac (m.a00 (Enc.rd_lt Ac))),(Enc.rd_agr Ab (m.a00 (Enc.rd_lt Ab))),(Enc.rd_agr Aa (m.a00 (Enc.rd_lt Aa)))⟩) Bh) fun Bu e a k m=>pN 2 k z fun a k=>bsplit (!Ay) (fun Af=>?_) (fun Af=>?_))
 · have h:=bif_t Af h
   refine rB k 10 z Af fun k=>pN 8 k z fun a k=>nn (wp_cond_true (k.ev z) (wr (pN 1 k z fun a k=>nn (wp_ret (rt_then ?_)))))
   refine fS h k m z z
 have h:=bif_f Af h
 refine rB k 10 z Af fun k=>sv k z (r_ldB ta38 m 1 Aj 0 k z z z z z z) fun a k=>pN 1 k z fun a k=>oE h fun Bj Av h=>s_call k call147 z z z z z (c_impl_thereOf fu _ _ (show rd _ _ [I r1.fWay,I r1.fPallet.fW,I r1.fPallet.fD,I r1.fPallet.fH,I r1.fPallet.fGram,I r1.fClasses,Ae,Ag,I r1.fMaster,Ah] (r1:Request) from ⟨_,_,_,_,_,_,z,z,(Enc.rd_agr Ac (m.a00 (Enc.rd_lt Ac))),(Enc.rd_agr Ab (m.a00 (Enc.rd_lt Ab))),(Enc.rd_agr Aa (m.a00 (Enc.rd_lt Aa)))⟩) (Enc.rd_agr Ad (m.a00 (Enc.rd_lt Ad))) Av) fun By Bm hR=>?_
 obtain ⟨Bx,Az,rfl,e,Ak,Bb⟩:=hR
 refine ⟨_,z,fun a k=>?_⟩
 have m:=m.new e Az (fun b hb=>⟨Bb b hb,Enc.rd_lt (Enc.ow_rd Ak) b hb⟩) (Enc.ow_nd Ak)
 refine sv k z (r_len (α:=Int) (Enc.ow_rd Ak) k underlying63 z z) fun a k=>pN 1 k z fun a k=>sv k z (r_len (α:=Int) Ad k underlying63 z z) fun a k=>pN 2 k z fun a k=>nn (cI h k z (fun As h=>?_) fun As h=>?_)
 · refine wr (pN 1 k z fun a k=>nn (wp_ret (rt_then ?_)))
   refine fS h k m z z
 refine wp_skip (nm_then ?_)
 exact ⟨k.keep [1,3,5] z,m.sel [2,1] z (by decide),h⟩
theorem c_slices_Compact_int_int (fu:Nat) {w0:World} (x1:List Int) {v2:Value} {F3:List Nat} (Aa:ow w0 F3 [v2] x1) {r:List Int}
    (h:d_slices_Compact_int_int fu x1 = some r) :
    Calls Tryz.prog 256 #[v2] w0 fun e w=>∃ (v0:Value) (G0:List Nat),e = .returned v0 ∧ Ext F3 w0 w ∧ ow w G0 [v0] r ∧ (∀ b ∈ G0,b ∈ F3 ∨ w0.heap.size ≤ b) :=
  c_compactInt (fun blk off cap zs w=>Tryz.slices_Compact_int blk off cap zs w) (fun p cap w=>Tryz.slices_Compact_int_empty p cap w) x1 Aa h

theorem c_impl_kinds (fu:Nat) {w0:World} (Ad:List Int) {v2:Value} {F3:List Nat} (Ae:rd w0 F3 [v2] Ad) {r:(List Int)}
    (h:d_impl_kinds fu Ad = some r) :
    Calls Tryz.prog 178 #[v2] w0 fun e w=>∃ (v0:Value) (G0:List Nat),e = .returned (v0) ∧ Ext [] w0 w ∧ ow w G0 [v0] r ∧ (∀ b ∈ G0,w0.heap.size ≤ b):=by
 refine enter (vs:=[_]) func178 z ntmps178 z fun a k=>?_
 have m:=St.start w0
 unfold d_impl_kinds at h
 refine wr (pN 1 k z fun a k=>nn (wr (pN 1 k z fun a k=>oE h fun x5 Af h=>s_call k call133 z z z z z (c_slices_Clone_int_int fu _ (Enc.rd_agr Ae (m.a00 (Enc.rd_lt Ae))) Af) fun e7 w9 hR=>?_)))
 obtain ⟨Av,Ah,rfl,e,Ab,Al⟩:=hR
 refine ⟨_,z,fun a k=>?_⟩
 have m:=m.new e Ah (fun b hb=>⟨Al b hb,Enc.rd_lt (Enc.ow_rd Ab) b hb⟩) (Enc.ow_nd Ab)
 refine pN 1 k z fun a k=>nn (wr (pN 1 k z fun a k=>oE h fun Aw Ag h=>s_call k call120 z z z z z (c_slices_Sort_int_int fu _ (Enc.ow_agr Ab (m.a 0 z)) Ag) fun As Ar hR=>?_))
 obtain ⟨At,rfl,e,Am,Ac⟩:=hR
 refine ⟨_,z,fun a k=>?_⟩
 have m:=m.mut 0 z e _ (fun b hb=>⟨Am b hb,Enc.rd_lt (Enc.ow_rd Ac) b hb⟩) (Enc.ow_nd Ac)
 refine nn (wr (pN 1 k z fun a k=>oE h fun Au Ak h=>s_call k call256 z z z z z (c_slices_Compact_int_int fu _ (Enc.ow_agr Ac (m.a 0 z)) Ak) fun Ao Aq hR=>?_))
 obtain ⟨Ap,Aj,rfl,e,Aa,Ai⟩:=hR
 refine ⟨_,z,fun a k=>?_⟩
 have m:=m.mut 0 z e _ (fun b hb=>⟨Ai b hb,Enc.rd_lt (Enc.ow_rd Aa) b hb⟩) (Enc.ow_nd Aa)
 refine pN 1 k z fun a k=>nn (wp_ret ?_)
 cases h
 exact finR1 k z (RV.tmp k z) ⟨_,Aj,z,m.ext,(Enc.ow_agr Aa (m.a 0 z)),(m.fresh 0 z)⟩
theorem c_impl_Present (fu:Nat) {w0:World} (r1:Request) {Am:List Value} {F3:List Nat} (Bc:rd w0 F3 Am r1) {r:(List Int)}
    (h:d_impl_Present fu r1 = some r) :
    Calls Tryz.prog 68 #[.agg Am.toArray] w0 fun e w=>∃ (v0:Value) (G0:List Nat),e = .returned (v0) ∧ Ext [] w0 w ∧ ow w G0 [v0] r ∧ (∀ b ∈ G0,w0.heap.size ≤ b):=by
 refine enter (vs:=[_]) func68 z ntmps68 z fun a k=>?_
 have m:=St.start w0
 obtain ⟨v5,F6,v7,F8,v9,Bp,rfl,rfl,Aj,Al,Ab⟩:=Bc
 unfold d_impl_Present at h
 refine wr (s_box (cs:=[I r1.fWay,I r1.fPallet.fW,I r1.fPallet.fD,I r1.fPallet.fH,I r1.fPallet.fGram,I r1.fClasses,v5,v7,I r1.fMaster,v9]) m k z z z z z z fun By Ca a k m e Aq=>pN 1 k z fun a k=>nn (wp_seq (wr (sv k z (r_ldB ta38 m 0 Aq 0 k z z z z z z) fun a k=>oE h fun Bx Bb h=>?_))))
 refine cE k m call115 z z z (c_impl_sound fu _ (show rd _ _ [I r1.fWay,I r1.fPallet.fW,I r1.fPallet.fD,I r1.fPallet.fH,I r1.fPallet.fGram,I r1.fClasses,v5,v7,I r1.fMaster,v9] (r1:Request) from ⟨_,_,_,_,_,_,z,z,(Enc.rd_agr Aj (m.a00 (Enc.rd_lt Aj))),(Enc.rd_agr Al (m.a00 (Enc.rd_lt Al))),(Enc.rd_agr Ab (m.a00 (Enc.rd_lt Ab)))⟩) Bb) fun Bo e a k m=>pN 1 k z fun a k=>nn (cI h k z (fun As h=>?_) fun As h=>?_)
 · refine wr (pN 1 k z fun a k=>nn (wp_ret (rt_then ?_)))
   cases h
   exact finR1 k z (RV.tmp k z) ⟨_,[],z,m.ext,(ow_nil _),(by simp)⟩
 refine wp_skip (nm_then ?_)
 refine wr (s_bs (cs:=[]) (ps:=[]) te63 m k z z z z z z z (by decide) z (by exact (List.forall_mem_nil _)) fun Ak Ax Bl a k m e Bj=>?_)
 have Be:=ow_bx Bj ([]:List Int) z z z
 refine pN 1 k z fun a k=>nn (wp_seq (wr (sv k z (r_fa fa38_6 k z z) fun a k=>sv k z (r_ldb t136 m 1 Aq 9 k z z z z z) fun a k=>sv k z (r_len (α:=Item) Ab k underlying36 z z) fun a k=>pN 1 k z fun a k=>nn (wp_block (c_loop (fun n a w=>∃ (Ag:List Int) (Ah:Value) (Af:List Nat) (Ae:World) (Ac:Int),K 25 [(3,Ah),(11,v9),(12,I ((r1.fItems.length:Int))),(13,I Ac)] a ∧ St [] w0 w [(Af,Ae)] ∧ ow Ae Af [Ah] Ag ∧ d_impl_Present_L1 fu r1 n Ag Ac = some r) ?_ ?_ fu _ _ ?_)))))
 · rintro a w ⟨_,_,_,_,_,_,_,_,h⟩
   exact nS h
 · rintro Bz a Bw ⟨Ag,Ah,Af,Ae,Ac,k,m,Ao,h⟩
   rw [d_impl_Present_L1_s] at h
   unfold d_impl_Present_L1_B at h
   refine wr (pN 1 k z fun a k=>nn (wp_seq (cI h k z (fun Av h=>?_) fun Av h=>?_)))
   · refine wp_skip (nm_then ?_)
     refine wp_seq (wp_block (wr (oE h fun Aa Ap h=>sv k z (r_ixa Ab Ap k ts36 z z z) fun a k=>sv k z (r_lde Ab (m.a00 (Enc.rd_lt Ab)) Ap ta158 k z z) fun a k=>s_alloc (cs:=[I 0,I 0,I 0,I 0,I 0,I 0,I 0]) m k zeroValue158 z z z z z fun Bk Cb a k m e Ba=>s_stb (cs':=[I Aa.fId,I Aa.fW,I Aa.fH,I Aa.fD,I Aa.fGram,I Aa.fClass,I Aa.fCount]) sizeOf158 m 0 Ba 0 k z z z z z z z z z z z fun Bu a k e m Ar=>nn (wp_region_lit (pN 1 k z fun a k=>sv k z (r_fa fa158_5 k z z) fun a k=>sv k z (r_ldb t13 m 0 Ar 5 k z z z z z) fun a k=>?_)))))
     refine s_bs (cs:=[I Aa.fClass]) (ps:=[(0,.tmp 19)]) te63 m k z z z z z z z (by decide) z (by exact (List.forall_mem_cons.2 ⟨z,(List.forall_mem_nil _)⟩)) fun Bn Bv Br a k m e Ay=>?_
     have At:=ow_bx Ay ([Aa.fClass]:List Int) z z z
     refine oE h fun Az Bf h=>s_appF Bf te63 z m 2 Ao (News.rd (Enc.rd_agr (Enc.ow_rd At) (m.a 0 z))) z z k z z z z z z z fun Bh Bi Bg a k e m Bd=>pN 1 k z fun a k=>wpList_nil (nm_block (nm_then ?_))
     refine wp_region_lit (pN 2 k z fun a k=>nn ?_)
     exact ⟨Az,Bh,Bi,Bg,w64 (Ac + 1),k.keep [3,11,12,13] z,m.sel [2] z (by decide),Bd,h⟩
   refine wp_exit (ex_then (ex_then (ex_same (nm_then ?_))))
   refine wr (pN 1 k z fun a k=>oE h fun Bs Au h=>s_call k call178 z z z z z (c_impl_kinds fu _ (Enc.rd_agr (Enc.ow_rd Ao) (m.a 0 z)) Au) fun Bq Bm hR=>?_)
   obtain ⟨Bt,Ai,rfl,e,Ad,Aw⟩:=hR
   refine ⟨_,z,fun a k=>?_⟩
   have m:=m.new e Ai (fun b hb=>⟨Aw b hb,Enc.rd_lt (Enc.ow_rd Ad) b hb⟩) (Enc.ow_nd Ad)
   refine pN 1 k z fun a k=>nn (wp_ret ?_)
   cases h
   exact finR1 k z (RV.tmp k z) ⟨_,Ai,z,m.ext,(Enc.ow_agr Ad (m.a 0 z)),(m.fresh 0 z)⟩
 exact ⟨([]:List Int),(.slice (some ⟨Ak,0,none⟩) 0 0),[Ak],Ax,0,k.keep [3,11,12,13] z,m.sel [0] z (by decide),Be,h⟩
theorem c_impl_mutual (fu:Nat) {w0:World} (Ac:List Pair) (a5:Int) (b6:Int) {v2:Value} {F3:List Nat} (Ab:rd w0 F3 [v2] Ac) {r:Bool}
    (h:d_impl_mutual fu Ac a5 b6 = some r) :
    Calls Tryz.prog 253 #[v2,I a5,I b6] w0 fun e w=>e = .returned (.bool (r)) ∧ Ext [] w0 w:=by
 refine enter (vs:=[_,_,_]) func253 z ntmps253 z fun a k=>?_
 have m:=St.start w0
 unfold d_impl_mutual at h
 refine wr (pN 1 k z fun a k=>nn (wr (pN 3 k z fun a k=>oE h fun x7 Ad h=>cE k m call179 z z z (c_impl_Beside fu _ _ _ (Enc.rd_agr Ab (m.a00 (Enc.rd_lt Ab))) Ad) fun Ag e a k m=>pN 1 k z fun a k=>bsplit (x7) (fun Aa=>?_) (fun Aa=>?_))))
 · have h:=bif_t Aa h
   refine rB k 11 z Aa fun k=>pN 3 k z fun a k=>oE h fun Ah Ae h=>cE k m call179 z z z (c_impl_Beside fu _ _ _ (Enc.rd_agr Ab (m.a00 (Enc.rd_lt Ab))) Ae) fun Af e a k m=>pN 2 k z fun a k=>nn (wp_ret (fS h k m z z))
 have h:=bif_f Aa h
 refine rB k 11 z Aa fun k=>pN 6 k z fun a k=>nn (wp_ret (fS h k m z z))
theorem c_impl_Groups_1_1 (fu:Nat) {w0:World} (x1:Int) (x2:List Pair) (x8:Int) {v5:Value} {F6:List Nat} {b3:Nat} (Ab:bx w0 b3 [v5] 34) (Ac:rd w0 F6 [v5] x2) {b9:Nat} (Aa:bx w0 b9 [I x8] 3) {r:Bool}
    (h:d_impl_Groups_1_1 fu x1 x2 x8 = some r) :
    Calls Tryz.prog 294 #[I x1,.pointer (some (⟨b3,0,none⟩:Addr)),.pointer (some (⟨b9,0,none⟩:Addr))] w0 fun e w=>e = .returned (.bool (r)) ∧ Ext [] w0 w:=by
 refine enter (vs:=[_,_,_]) func294 z ntmps294 z fun a k=>?_
 have m:=St.start w0
 unfold d_impl_Groups_1_1 at h
 refine wr (pN 1 k z fun a k=>nn (wr (sv k z (r_ld1 t134 (r:=[]) (Ab.at (m.a00 Ab.lt1) 0 1 z z z) k z z) fun a k=>sv k z (r_ld1 t13 (r:=[]) (Aa.at (m.a00 Aa.lt1) 0 1 z z z) k z z) fun a k=>pN 1 k z fun a k=>oE h fun Ae Ad h=>cE k m call253 z z z (c_impl_mutual fu _ _ _ (Enc.rd_agr Ac (m.a00 (Enc.rd_lt Ac))) Ad) fun Af e a k m=>pN 2 k z fun a k=>nn (wp_ret (fS h k m z z)))))
theorem c_slices_ContainsFunc_int_int (fu:Nat) {w0:World} (Aa:List Int) (f5:Int → Option Bool) {v2:Value} {F3:List Nat} (Ab:rd w0 F3 [v2] Aa) {v6:Value} (Ad:FnOk1 Tryz.prog w0 v6 f5) {r:Bool}
    (h:d_slices_ContainsFunc_int_int fu Aa f5 = some r) :
    Calls Tryz.prog 172 #[v2,v6] w0 fun e w=>e = .returned (.bool (r)) ∧ Ext [] w0 w:=by
 refine enter (vs:=[_,_]) func172 z ntmps172 z fun a k=>?_
 have m:=St.start w0
 obtain ⟨Aj,Al,rfl,Ag,Af⟩:=Ad
 unfold d_slices_ContainsFunc_int_int at h
 refine wr (pN 1 k z fun a k=>nn (wr (pN 2 k z fun a k=>oE h fun Ai Ah h=>cE k m call241 z z z (c_slices_IndexFunc_int_int fu _ _ (Enc.rd_agr Ab (m.a00 (Enc.rd_lt Ab))) ⟨_,_,z,Ag,fun w Ae Ac r e=>Af w Ae Ac r (m.ext.trans e (by simp))⟩ Ah) fun Ak e a k m=>pN 2 k z fun a k=>nn (wp_ret (fS h k m z z)))))
theorem c_impl_Groups_1 (fu:Nat) {w0:World} (l1:List Int) (x5:List Pair) (Ae:Int) {v2:Value} {F3:List Nat} (Ac:rd w0 F3 [v2] l1) {v8:Value} {F9:List Nat} {b6:Nat} (Ad:bx w0 b6 [v8] 34) (Ab:rd w0 F9 [v8] x5) {Aa:Nat} (Af:bx w0 Aa [I Ae] 3) {r:Bool}
    (h:d_impl_Groups_1 fu l1 x5 Ae = some r) :
    Calls Tryz.prog 293 #[v2,.pointer (some (⟨b6,0,none⟩:Addr)),.pointer (some (⟨Aa,0,none⟩:Addr))] w0 fun e w=>e = .returned (.bool (r)) ∧ Ext [] w0 w:=by
 refine enter (vs:=[_,_,_]) func293 z ntmps293 z fun a k=>?_
 have m:=St.start w0
 unfold d_impl_Groups_1 at h
 refine wr (pN 1 k z fun a k=>nn (wr (pN 2 k z fun a k=>oE h fun Ai Ag h=>cE k m call172 z z z (c_slices_ContainsFunc_int_int fu _ _ (Enc.rd_agr Ac (m.a00 (Enc.rd_lt Ac))) ⟨294,[.pointer (some (⟨b6,0,none⟩:Addr)),.pointer (some (⟨Aa,0,none⟩:Addr))],z,call294,fun w Ak Aj r e Ah hx=>by subst Ah; have m:=m.step e; exact c_impl_Groups_1_1 fu _ _ _ (Ad.agr (m.a00 Ad.lt1) (by simp)) (Enc.rd_agr Ab (m.a00 (Enc.rd_lt Ab))) (Af.agr (m.a00 Af.lt1) (by simp)) hx⟩ Ag) fun Al e a k m=>pN 2 k rfl fun a k=>nn (wp_ret (fS h k m rfl rfl)))))
theorem c_slices_IndexFunc_ints_int (fu:Nat) {w0:World} (Ab:List (List Int)) (f5:(List Int) → Option Bool) {v2:Value} {F3:List Nat} (Ac:rd w0 F3 [v2] Ab) {v6:Value} (Ag:FnOk1 Tryz.prog w0 v6 f5) {r:Int}
    (h:d_slices_IndexFunc_ints_int fu Ab f5 = some r) :
    Calls Tryz.prog 246 #[v2,v6] w0 fun e w=>e = .returned (I r) ∧ Ext [] w0 w:=by
 refine enter (vs:=[_,_]) func246 z ntmps246 z fun a k=>?_
 have m:=St.start w0
 obtain ⟨Af,Al,rfl,Aq,Ap⟩:=Ag
 unfold d_slices_IndexFunc_ints_int at h
 refine wr (pN 1 k z fun a k=>nn (wp_seq (wr (pN 1 k z fun a k=>sv k z (r_len (α:=List Int) Ac k underlying29 z z) fun a k=>pN 1 k z fun a k=>nn (wp_block (c_loop (fun n a w=>∃ (Aa:Int),K 19 [(0,v2),(1,(.func (.func Af) #[] Al.toArray)),(7,I ((Ab.length:Int))),(8,I Aa)] a ∧ St [] w0 w [] ∧ d_slices_IndexFunc_ints_int_L1 fu Ab f5 n Aa = some r) ?_ ?_ fu _ _ ?_))))))
 · rintro a w ⟨_,_,_,h⟩
   exact nS h
 · rintro At a Aw ⟨Aa,k,m,h⟩
   rw [d_slices_IndexFunc_ints_int_L1_s] at h
   unfold d_slices_IndexFunc_ints_int_L1_B at h
   refine wr (pN 1 k z fun a k=>nn (wp_seq (cI h k z (fun Aj h=>?_) fun Aj h=>?_)))
   · refine wp_skip (nm_then ?_)
     refine wp_seq (wp_block (wr (pN 2 k z fun a k=>nn (wr (pN 3 k z fun a k=>oE h fun Ar Ae h=>sv k z (r_ixa Ac Ae k ts29 z z z) fun a k=>?_)))))
     obtain ⟨Az,Ah,Ax,Ad,Ao,Ai⟩:=rd_get Ac (ix_some Ae).2.2
     obtain ⟨Ay,rfl⟩:∃ v,Ah = [v]:=by obtain ⟨_,_,hq,_⟩:=Ad; exact ⟨_,hq⟩
     refine sv k z (r_ld1 t163 (Ao.agr (m.a00 (Enc.rd_lt Ac)) Ai) k z z) fun a k=>oE h fun As Am h=>s_callv k Aq z z z z z z (Ap _ _ _ _ m.ext ⟨_,(Enc.rd_agr Ad (m.a00 (Enc.rd_lt Ad)))⟩ Am) fun Au Av hR=>?_
     obtain ⟨rfl,e⟩:=hR
     refine ⟨_,z,fun a k=>?_⟩
     have m:=m.step e
     refine nn (cI h k z (fun Ak h=>?_) fun Ak h=>?_)
     · refine wr (pN 2 k z fun a k=>nn (wp_ret (rt_block (rt_then (rt_then (rt_block (rt_then ?_)))))))
       refine fS h k m z z
     refine wp_skip (nm_block (nm_then ?_))
     refine wp_region_lit (pN 2 k z fun a k=>nn ?_)
     exact ⟨w64 (Aa + 1),k.keep [0,1,7,8] z,m.sel [] z (by decide),h⟩
   refine wp_exit (ex_then (ex_then (ex_same (nm_then ?_))))
   refine wr (pN 1 k z fun a k=>nn (wp_ret (fS h k m z z)))
 exact ⟨0,k.keep [0,1,7,8] z,m.sel [] z (by decide),h⟩
theorem c_impl_Groups (fu:Nat) {w0:World} (Ar:List Pair) (Bj:List Int) {v2:Value} {F3:List Nat} (Aw:rd w0 F3 [v2] Ar) {v6:Value} {F7:List Nat} (Bd:rd w0 F7 [v6] Bj) {r:(List (List Int))}
    (h:d_impl_Groups fu Ar Bj = some r) :
    Calls Tryz.prog 245 #[v2,v6] w0 fun e w=>∃ (v0:Value) (G0:List Nat),e = .returned (v0) ∧ Ext [] w0 w ∧ ow w G0 [v0] r ∧ (∀ b ∈ G0,w0.heap.size ≤ b):=by
 refine enter (vs:=[_,_]) func245 z ntmps245 z fun a k=>?_
 have m:=St.start w0
 unfold d_impl_Groups at h
 refine wr (s_box (cs:=[v2]) m k z z z z z (rd_c Aw) fun b9 Ao a k m e Ck=>pN 1 k z fun a k=>nn (wr (s_bs (cs:=[]) (ps:=[]) te29 m k z z z z z z z (by decide) z (by exact (List.forall_mem_nil _)) fun Az Cx Fl a k m e Dx=>?_)))
 have Co:=ow_bx0 (α:=List Int) Dx
 refine pN 1 k z fun a k=>nn (wp_seq (wr (pN 1 k z fun a k=>oE h fun At Dl h=>s_call k call178 z z z z z (c_impl_kinds fu _ (Enc.rd_agr Bd (m.a00 (Enc.rd_lt Bd))) Dl) fun Fu Aj hR=>?_)))
 obtain ⟨Ba,Ai,rfl,e,Ah,Cw⟩:=hR
 refine ⟨_,z,fun a k=>?_⟩
 have m:=m.new e Ai (fun b hb=>⟨Cw b hb,Enc.rd_lt (Enc.ow_rd Ah) b hb⟩) (Enc.ow_nd Ah)
 refine sv k z (r_len (α:=Int) (Enc.ow_rd Ah) k underlying63 z z) fun a k=>pN 1 k z fun a k=>nn (wp_block (c_loop (fun n a w=>∃ (Ag:List (List Int)) (Ae:Value) (Ac:List Nat) (Am:World) (Af:Int),K 42 [(2,.pointer (some (⟨b9,0,none⟩:Addr))),(5,Ae),(11,Ba),(12,I ((At.length:Int))),(13,I Af)] a ∧ St [] w0 w [([b9],Ao),(Ai,Aj),(Ac,Am)] ∧ ow Am Ac [Ae] Ag ∧ d_impl_Groups_L1 fu Ar At n Ag Af = some r) ?_ ?_ fu _ _ ?_))
 · rintro a w ⟨_,_,_,_,_,_,_,_,h⟩
   exact nS h
 · rintro Da a Gb ⟨Ag,Ae,Ac,Am,Af,k,m,Aa,h⟩
   rw [d_impl_Groups_L1_s] at h
   unfold d_impl_Groups_L1_B at h
   refine wr (pN 1 k z fun a k=>nn (wp_seq (cI h k z (fun Bq h=>?_) fun Bq h=>?_)))
   · refine wp_skip (nm_then ?_)
     refine c_cut (fun a w=>∃ (As:List (List Int)) (Aq:Value) (Al:List Nat) (Ak:World),K 42 [(2,.pointer (some (⟨b9,0,none⟩:Addr))),(5,Aq),(11,Ba),(12,I ((At.length:Int))),(13,I Af)] a ∧ St [] w0 w [([b9],Ao),(Ai,Aj),(Al,Ak)] ∧ ow Ak Al [Aq] As ∧ d_impl_Groups_J1 fu (d_impl_Groups_L1 fu Ar At Da) Af As = some r) ?_ ?_
     · rintro a Fr ⟨As,Aq,Al,Ak,k,m,Dp,h⟩
       unfold d_impl_Groups_J1 at h
       refine wp_region_lit (pN 2 k z fun a k=>nn ?_)
       exact ⟨As,Aq,Al,Ak,w64 (Af + 1),k.keep [2,5,11,12,13] z,m.sel [0,1,2] z (by decide),Dp,h⟩
     refine wp_block (wr (oE h fun Ad Bk h=>sv k z (r_ixa (Enc.ow_rd Ah) Bk k ts63 z z z) fun a k=>sv k z (r_lde1 (Enc.ow_rd Ah) (m.a 1 z) Bk 0 t13 k z z z z) fun a k=>s_alloc (cs:=[I 0]) m k zeroValue3 z z z z z fun Au Fs a k m e By=>s_stb (cs':=[I Ad]) sizeOf3 m 0 By 0 k z z z z z z z z z z z fun Bf a k e m Ap=>nn (wp_seq (wr (sv k z (r_ldb t13 m 0 Ap 0 k z z z z z) fun a k=>oE h fun Gc De h=>cE k m call139 z z z (c_impl_in fu _ _ _  De) fun Ev e a k m=>pN 1 k z fun a k=>nn (cI h k z (fun Cv h=>?_) fun Cv h=>?_))))))
     · refine wp_exit (ex_then (ex_same (nm_then ?_)))
       exact ⟨Ag,Ae,Ac,Am,k.keep [2,5,11,12,13] z,m.sel [1,2,3] z (by decide),Aa,h⟩
     refine wp_skip (nm_then ?_)
     refine wr (pN 2 k z fun a k=>oE h fun Bc Dc h=>cE k m call246 z z z (c_slices_IndexFunc_ints_int fu _ _ (Enc.rd_agr (Enc.ow_rd Aa) (m.a 3 z)) ⟨293,[.pointer (some (⟨b9,0,none⟩:Addr)),.pointer (some (⟨Au,0,none⟩:Addr))],z,call293,fun w Ex Fw r e Ay hx=>by obtain ⟨_,Ay⟩:=Ay; have m:=m.step e; exact c_impl_Groups_1 fu _ _ _ Ay (Ck.agr (m.a 1 z) (by simp)) (Enc.rd_agr Aw (m.a00 (Enc.rd_lt Aw))) (Ap.agr (m.a 0 z) (by simp)) hx⟩ Dc) fun Er e a k m=>pN 1 k z fun a k=>nn (wr (pN 2 k z fun a k=>nn (cI h k z (fun Cg h=>?_) fun Cg h=>?_))))
     · refine wp_region_lit (pN 1 k z fun a k=>sv k z (r_ldb t13 m 0 Ap 0 k z z z z z) fun a k=>s_bs (cs:=[I Ad]) (ps:=[(0,.tmp 26)]) te63 m k z z z z z z z (by decide) z (by exact (List.forall_mem_cons.2 ⟨z,(List.forall_mem_nil _)⟩)) fun Bi Fe Fg a k m e Cz=>?_)
       have Bg:=ow_bx Cz ([Ad]:List Int) z z z
       refine s_bs (cs:=[(.slice (some ⟨Bi,0,none⟩) 1 1)]) (ps:=[(0,.tmp 27)]) te29 m k z z z z z z z (by decide) z (by exact (List.forall_mem_cons.2 ⟨congrArg Array.size (rd_c (Enc.ow_rd Bg)),(List.forall_mem_nil _)⟩)) fun Gh Fz Ew a k m e Cm=>oE h fun Cr Df h=>?_
       have Bp:=Enc.ow_agr Bg (m.a 1 z)
       have Dz:=News.box Cm (m.a 0 z) (by simp) (m:=1)
       have Bo:=m.a 5 z
       have m:=m.sel [5,1,0,2,3,4] z (by decide)
       have m:=m.join2
       refine s_appO (F:=Ac) (G:=[Bi]) Df te29 z m Aa Bo Dz Bp (Agr.refl _ _) k z z z z z z fun Ct Cl Ds a k e m Cy=>pN 1 k z fun a k=>wpList_nil (nm_block (nm_then ?_))
       exact ⟨Cr,Ct,Cl,Ds,k.keep [2,5,11,12,13] z,m.sel [3,4,0] z (by decide),Cy,h⟩
     refine d_go (Ac) mixo m z fun Cu hMd=>?_
     have m:=hMd
     have s:=Ext.refl ((Ac):List Nat) Cu
     refine dN [0,1,2,3] 4 z k (by kernel_rfl) z s (fun _ _ _ _ _=>id) fun a k=>oE h fun Fh Ab h=>dt k 4 z (by kernel_rfl) z s (fun _ _ _=>id) (fun w s=>r_ixa (Enc.ow_rd Aa) Ab k ts29 z z z) fun a k=>?_
     obtain ⟨Ge,Cc,Ek,Cd,Ep,Fk⟩:=rd_get (Enc.ow_rd Aa) (ix_some Ab).2.2
     obtain ⟨Et,rfl⟩:∃ v,Cc = [v]:=by obtain ⟨_,_,hq,_⟩:=Cd; exact ⟨_,hq⟩
     refine dt k 6 z (by kernel_rfl) z s (fun _ _ _=>id) (fun w s=>r_ld1 t13 (r:=[]) (Ap.at (hMd.az 0 3 z z z s) 0 1 z z z) k z z) fun a k=>?_
     obtain ⟨Gf,Dj,Ei,Do,Fm,Fb⟩:=rd_get (Enc.ow_rd Aa) (ix_some Ab).2.2
     obtain ⟨Fy,rfl⟩:∃ v,Dj = [v]:=by obtain ⟨_,_,hq,_⟩:=Do; exact ⟨_,hq⟩
     refine d_two 5 7 (by kernel_rfl) z z ?_ ?_ 
     · obtain ⟨Fv,Eb,Eg,Dh,Bl,Bv⟩:=rd_get (Enc.ow_rd Aa) (ix_some Ab).2.2
       obtain ⟨Eo,rfl⟩:∃ v,Eb = [v]:=by obtain ⟨_,_,hq,_⟩:=Dh; exact ⟨_,hq⟩
       refine sv k z (r_ld1 t163 (Bl.agr (m.a 3 z) Bv) k z z) fun a k=>wpList_nil ⟨s,?_⟩
       refine d_one 7 (by kernel_rfl) z (s_bsN (cs:=[I Ad]) (ps:=[(0,.tmp 36)]) te63 m k z z z z z z z (by decide) z (by exact (List.forall_mem_cons.2 ⟨z,(List.forall_mem_nil _)⟩)) fun Ca Br Ey a k m e Dy Du=>?_)
       have Fp:=lo1 (Nat.le_trans s.size Du)
       have Cb:=ow_bx Dy ([Ad]:List Int) z z z
       have s:=s.trans e (by simp)
       refine wpList_nil ⟨s,?_⟩
       refine d_one 8 (by kernel_rfl) z ?_
       obtain ⟨Ez,Fi,m,Dr,Bw,Dm,Be⟩:=m.opnS 4 z Aa Ab Bl z (M':=[([Ca],Br),([Au],Bf),([b9],Ao),(Ai,Aj)]) z
       refine oE h fun Cf Dk h=>s_appFN Dk te63 z m 1 Bw (News.rd (Enc.rd_agr (Enc.ow_rd Cb) (m.a 2 z))) z z k z z z z z z z fun Cs Db Ej a k e m Av Ec=>?_
       have Gg:∀ y ∈ Db,y ∈ (Ac) ∨ _ ≤ y:=fun y hy=>(Ec y hy).elim (fun hy=>(fun y hy=>(fun y hy=>Or.inl hy) y (Be y hy)) y hy) (fun h=>Or.inr (Nat.le_trans s.size h))
       have s:=s.trans e (fun y hy=>(fun y hy=>Or.inl hy) y (Be y hy))
       refine wpList_nil ⟨s,?_⟩
       refine oE h fun Fn Fo h=>dt k 9 z (by kernel_rfl) z s (fun _ _ _=>id) (fun w s=>r_ixa (Enc.ow_rd Aa) Ab k ts29 z z z) fun a k=>d_one 10 (by kernel_rfl) z (s_stH1 (α:=List Int) (sz:=1) (cs':=[Cs]) sizeOf63 m 0 Dr 0 k (rd_c (Enc.ow_rd Av)) (rd_o (Enc.ow_rd Av)) z z z z z z z z z z fun Dg a k e m Cj=>?_)
       obtain ⟨Bm,m,Bx⟩:=(m.sel [0,1,2,3,4,5] z (by decide)).cls Cj Av
       have s:=s.trans e (fun y hy=>(fun y hy=>Or.inl hy) y (Dm y hy))
       refine wpList_nil ⟨s,?_⟩
       refine d_done (by kernel_rfl) ?_
       have k:=k.keep [2,11,12,5,13] z
       refine (nm_block (nm_then ?_))
       exact ⟨setx Ag Bc Cf,Ae,Bm,Dg,k.keep [2,5,11,12,13] z,m.sel [3,4,0] z (by decide),Bx,h⟩
     refine s_bsN (cs:=[I Ad]) (ps:=[(0,.tmp 36)]) te63 m k z z z z z z z (by decide) z (by exact (List.forall_mem_cons.2 ⟨z,(List.forall_mem_nil _)⟩)) fun Bs Ce Fa a k m e Dt Ci=>?_
     have Eu:=lo1 (Nat.le_trans s.size Ci)
     have Dq:=ow_bx Dt ([Ad]:List Int) z z z
     have s:=s.trans e (by simp)
     refine wpList_nil ⟨s,?_⟩
     obtain ⟨Eh,Cq,El,Bt,Em,Es⟩:=rd_get (Enc.ow_rd Aa) (ix_some Ab).2.2
     obtain ⟨Gd,rfl⟩:∃ v,Cq = [v]:=by obtain ⟨_,_,hq,_⟩:=Bt; exact ⟨_,hq⟩
     refine d_one 5 (by kernel_rfl) z ?_
     obtain ⟨En,Ed,Fc,Di,Bb,Bu⟩:=rd_get (Enc.ow_rd Aa) (ix_some Ab).2.2
     obtain ⟨Fq,rfl⟩:∃ v,Ed = [v]:=by obtain ⟨_,_,hq,_⟩:=Di; exact ⟨_,hq⟩
     refine sv k z (r_ld1 t163 (Bb.agr (m.a 4 z) Bu) k z z) fun a k=>wpList_nil ⟨s,?_⟩
     refine d_one 8 (by kernel_rfl) z ?_
     obtain ⟨Ff,Fx,m,Ee,Dn,Dv,Bh⟩:=m.opnS 4 z Aa Ab Bb z (M':=[([Bs],Ce),([Au],Bf),([b9],Ao),(Ai,Aj)]) z
     refine oE h fun Cn Bn h=>s_appFN Bn te63 z m 1 Dn (News.rd (Enc.rd_agr (Enc.ow_rd Dq) (m.a 2 z))) z z k z z z z z z z fun Bz Ch Fj a k e m Ax Ef=>?_
     have Ga:∀ y ∈ Ch,y ∈ (Ac) ∨ _ ≤ y:=fun y hy=>(Ef y hy).elim (fun hy=>(fun y hy=>(fun y hy=>Or.inl hy) y (Bh y hy)) y hy) (fun h=>Or.inr (Nat.le_trans s.size h))
     have s:=s.trans e (fun y hy=>(fun y hy=>Or.inl hy) y (Bh y hy))
     refine wpList_nil ⟨s,?_⟩
     refine oE h fun Fd Ft h=>dt k 9 z (by kernel_rfl) z s (fun _ _ _=>id) (fun w s=>r_ixa (Enc.ow_rd Aa) Ab k ts29 z z z) fun a k=>d_one 10 (by kernel_rfl) z (s_stH1 (α:=List Int) (sz:=1) (cs':=[Bz]) sizeOf63 m 0 Ee 0 k (rd_c (Enc.ow_rd Ax)) (rd_o (Enc.ow_rd Ax)) z z z z z z z z z z fun Cp a k e m Dd=>?_)
     obtain ⟨Ea,m,Dw⟩:=(m.sel [0,1,2,3,4,5] z (by decide)).cls Dd Ax
     have s:=s.trans e (fun y hy=>(fun y hy=>Or.inl hy) y (Dv y hy))
     refine wpList_nil ⟨s,?_⟩
     refine d_done (by kernel_rfl) ?_
     have k:=k.keep [2,11,12,5,13] z
     refine (nm_block (nm_then ?_))
     exact ⟨setx Ag Bc Cn,Ae,Ea,Cp,k.keep [2,5,11,12,13] z,m.sel [3,4,0] z (by decide),Dw,h⟩
   refine wp_exit (ex_then (ex_then (ex_same (nm_then ?_))))
   refine wr (pN 2 k z fun a k=>nn (wp_ret ?_))
   cases h
   exact finR1 k z (RV.tmp k z) ⟨_,Ac,z,m.ext,(Enc.ow_agr Aa (m.a 2 z)),(m.fresh 2 z)⟩
 exact ⟨([]:List (List Int)),(.slice (some ⟨Az,0,none⟩) 0 0),[Az],Cx,0,k.keep [2,5,11,12,13] z,m.sel [2,0,1] z (by decide),Co,h⟩
theorem c_impl_GroupsOf (fu:Nat) {w0:World} (r1:Request) {Aj:List Value} {F3:List Nat} (Ar:rd w0 F3 Aj r1) {r:(List (List Int))}
    (h:d_impl_GroupsOf fu r1 = some r) :
    Calls Tryz.prog 162 #[.agg Aj.toArray] w0 fun e w=>∃ (v0:Value) (G0:List Nat),e = .returned (v0) ∧ Ext [] w0 w ∧ ow w G0 [v0] r ∧ (∀ b ∈ G0,w0.heap.size ≤ b):=by
 refine enter (vs:=[_]) func162 z ntmps162 z fun a k=>?_
 have m:=St.start w0
 obtain ⟨v5,F6,v7,F8,v9,Ax,rfl,rfl,Aa,Ac,Ab⟩:=Ar
 unfold d_impl_GroupsOf at h
 refine wr (s_box (cs:=[I r1.fWay,I r1.fPallet.fW,I r1.fPallet.fD,I r1.fPallet.fH,I r1.fPallet.fGram,I r1.fClasses,v5,v7,I r1.fMaster,v9]) m k z z z z z z fun Bc Be a k m e Ag=>pN 1 k z fun a k=>nn (wp_seq (wr (sv k z (r_ldB ta38 m 0 Ag 0 k z z z z z z) fun a k=>oE h fun Bb Ap h=>?_))))
 refine cE k m call115 z z z (c_impl_sound fu _ (show rd _ _ [I r1.fWay,I r1.fPallet.fW,I r1.fPallet.fD,I r1.fPallet.fH,I r1.fPallet.fGram,I r1.fClasses,v5,v7,I r1.fMaster,v9] (r1:Request) from ⟨_,_,_,_,_,_,z,z,(Enc.rd_agr Aa (m.a00 (Enc.rd_lt Aa))),(Enc.rd_agr Ac (m.a00 (Enc.rd_lt Ac))),(Enc.rd_agr Ab (m.a00 (Enc.rd_lt Ab)))⟩) Ap) fun Av e a k m=>pN 1 k z fun a k=>nn (cI h k z (fun Al h=>?_) fun Al h=>?_)
 · refine wr (pN 1 k z fun a k=>nn (wp_ret (rt_then ?_)))
   cases h
   exact finR1 k z (RV.tmp k z) ⟨_,[],z,m.ext,(ow_nil _),(by simp)⟩
 refine wp_skip (nm_then ?_)
 refine wp_seq (d_go [] mixo m z fun Aq hMd=>?_)
 have m:=hMd
 have s:=Ext.refl ([]:List Nat) Aq
 refine dt k 0 z (by kernel_rfl) z s (fun _ _ _=>id) (fun w s=>r_fa fa38_3 k z z) fun a k=>dt k 1 z (by kernel_rfl) z s (fun _ _ _=>id) (fun w s=>r_ld1 t134 (r:=[]) (Ag.at ((hMd.step s).a 0 z) 6 1 z z z) k z z) fun a k=>dt k 2 z (by kernel_rfl) z s (fun _ _ _=>id) (fun w s=>r_ldA ta38 (Ag.at ((hMd.step s).a 0 z) 0 10 z z z) z k z z) fun a k=>d_one 3 (by kernel_rfl) z (oE h fun Bd Am h=>?_)
 refine s_call k call68 z z z z z (c_impl_Present fu _ (show rd _ _ [I r1.fWay,I r1.fPallet.fW,I r1.fPallet.fD,I r1.fPallet.fH,I r1.fPallet.fGram,I r1.fClasses,v5,v7,I r1.fMaster,v9] (r1:Request) from ⟨_,_,_,_,_,_,z,z,(Enc.rd_agr Aa (m.a00 (Enc.rd_lt Aa))),(Enc.rd_agr Ac (m.a00 (Enc.rd_lt Ac))),(Enc.rd_agr Ab (m.a00 (Enc.rd_lt Ab)))⟩) Am) fun At Ay hR=>?_
 obtain ⟨Aw,Ai,rfl,e,Af,Ak⟩:=hR
 refine ⟨_,z,fun a k=>?_⟩
 have m:=m.new e Ai (fun b hb=>⟨Ak b hb,Enc.rd_lt (Enc.ow_rd Af) b hb⟩) (Enc.ow_nd Af)
 have Bf:=fun (y:Nat) (hy:y ∈ Ai)=>Nat.le_trans s.size (Ak y hy)
 have s:=s.trans e (by simp)
 refine wpList_nil ⟨s,?_⟩
 refine d_one 4 (by kernel_rfl) z (oE h fun Az Ao h=>s_call k call245 z z z z z (c_impl_Groups fu _ _ (Enc.rd_agr Aa (m.a00 (Enc.rd_lt Aa))) (Enc.rd_agr (Enc.ow_rd Af) (m.a 0 z)) Ao) fun Bg Au hR=>?_)
 obtain ⟨As,Ae,rfl,e,Ad,Ah⟩:=hR
 refine ⟨_,z,fun a k=>?_⟩
 have m:=m.new e Ae (fun b hb=>⟨Ah b hb,Enc.rd_lt (Enc.ow_rd Ad) b hb⟩) (Enc.ow_nd Ad)
 have Ba:=fun (y:Nat) (hy:y ∈ Ae)=>Nat.le_trans s.size (Ah y hy)
 have s:=s.trans e (by simp)
 refine wpList_nil ⟨s,?_⟩
 refine dN [5] 1 z k (by kernel_rfl) z s (fun _ _ _ _ _=>id) fun a k=>d_done (by kernel_rfl) ((nm_then ?_))
 refine wp_ret ?_
 cases h
 exact finR1 k z (RV.tmp k z) ⟨_,Ae,z,m.ext,(Enc.ow_agr Ad (m.a 0 z)),(m.fresh 0 z)⟩
theorem c_slices_Index_int_int (fu:Nat) {w0:World} (Aa:List Int) (v5:Int) {v2:Value} {F3:List Nat} (Ab:rd w0 F3 [v2] Aa) {r:Int}
    (h:d_slices_Index_int_int fu Aa v5 = some r) :
    Calls Tryz.prog 242 #[v2,I v5] w0 fun e w=>e = .returned (I r) ∧ Ext [] w0 w:=by
 refine enter (vs:=[_,_]) func242 z ntmps242 z fun a k=>?_
 have m:=St.start w0
 unfold d_slices_Index_int_int at h
 refine wr (pN 1 k z fun a k=>nn (wp_seq (wr (pN 1 k z fun a k=>sv k z (r_len (α:=Int) Ab k underlying63 z z) fun a k=>pN 1 k z fun a k=>nn (wp_block (c_loop (fun n a w=>∃ (Ac:Int),K 19 [(0,v2),(1,I v5),(7,I ((Aa.length:Int))),(8,I Ac)] a ∧ St [] w0 w [] ∧ d_slices_Index_int_int_L1 fu Aa v5 n Ac = some r) ?_ ?_ fu _ _ ?_))))))
 · rintro a w ⟨_,_,_,h⟩
   exact nS h
 · rintro Ai a Ah ⟨Ac,k,m,h⟩
   rw [d_slices_Index_int_int_L1_s] at h
   unfold d_slices_Index_int_int_L1_B at h
   refine wr (pN 1 k z fun a k=>nn (wp_seq (cI h k z (fun Ae h=>?_) fun Ae h=>?_)))
   · refine wp_skip (nm_then ?_)
     refine wp_seq (wp_block (wr (pN 2 k z fun a k=>nn (wr (pN 3 k z fun a k=>oE h fun Ag Ad h=>sv k z (r_ixa Ab Ad k ts63 z z z) fun a k=>sv k z (r_lde1 Ab (m.a00 (Enc.rd_lt Ab)) Ad 0 t13 k z z z z) fun a k=>pN 1 k z fun a k=>nn (cI h k z (fun Af h=>?_) fun Af h=>?_))))))
     · refine wr (pN 2 k z fun a k=>nn (wp_ret (rt_block (rt_then (rt_then (rt_block (rt_then ?_)))))))
       refine fS h k m z z
     refine wp_skip (nm_block (nm_then ?_))
     refine wp_region_lit (pN 2 k z fun a k=>nn ?_)
     exact ⟨w64 (Ac + 1),k.keep [0,1,7,8] z,m.sel [] z (by decide),h⟩
   refine wp_exit (ex_then (ex_then (ex_same (nm_then ?_))))
   refine wr (pN 1 k z fun a k=>nn (wp_ret (fS h k m z z)))
 exact ⟨0,k.keep [0,1,7,8] z,m.sel [] z (by decide),h⟩
theorem c_slices_Contains_int_int (fu:Nat) {w0:World} (Aa:List Int) (v5:Int) {v2:Value} {F3:List Nat} (Ab:rd w0 F3 [v2] Aa) {r:Bool}
    (h:d_slices_Contains_int_int fu Aa v5 = some r) :
    Calls Tryz.prog 160 #[v2,I v5] w0 fun e w=>e = .returned (.bool (r)) ∧ Ext [] w0 w:=by
 refine enter (vs:=[_,_]) func160 z ntmps160 z fun a k=>?_
 have m:=St.start w0
 unfold d_slices_Contains_int_int at h
 refine wr (pN 1 k z fun a k=>nn (wr (pN 2 k z fun a k=>oE h fun x6 Ac h=>cE k m call242 z z z (c_slices_Index_int_int fu _ _ (Enc.rd_agr Ab (m.a00 (Enc.rd_lt Ab))) Ac) fun w9 e a k m=>pN 2 k z fun a k=>nn (wp_ret (fS h k m z z)))))
theorem c_impl_cartonFault_1 (fu:Nat) {w0:World} (y1:Item) (x2:Carton) (x8:List (List Int)) {v5:Value} {F6:List Nat} {b3:Nat} (Ac:bx w0 b3 [I x2.fType,I x2.fGroup,v5] 83) (Aq:rd w0 F6 [v5] x2.fUnits) {Ag:Value} {Al:List Nat} {b9:Nat} (Ab:bx w0 b9 [Ag] 29) (Ad:rd w0 Al [Ag] x8) {r:Bool}
    (h:d_impl_cartonFault_1 fu y1 x2 x8 = some r) :
    Calls Tryz.prog 226 #[.agg (Flat.e (y1)).toArray,.pointer (some (⟨b3,0,none⟩:Addr)),.pointer (some (⟨b9,0,none⟩:Addr))] w0 fun e w=>e = .returned (.bool (r)) ∧ Ext [] w0 w:=by
 refine enter (vs:=[_,_,_]) func226 z ntmps226 z fun a k=>?_
 have m:=St.start w0
 unfold d_impl_cartonFault_1 at h
 refine wr (s_box (cs:=[I y1.fId,I y1.fW,I y1.fH,I y1.fD,I y1.fGram,I y1.fClass,I y1.fCount]) m k z z z z z z fun Av Aw a k m e Ao=>pN 1 k z fun a k=>nn (wp_seq (d_go [] mixo m z fun Ai hMd=>?_)))
 have m:=hMd
 have s:=Ext.refl ([]:List Nat) Ai
 refine dt k 0 z (by kernel_rfl) z s (fun _ _ _=>id) (fun w s=>r_fa fa83_1 k z z) fun a k=>dt k 1 z (by kernel_rfl) z s (fun _ _ _=>id) (fun w s=>r_ld1 t13 (r:=[]) (Ac.at ((hMd.step s).a00 Ac.lt1) 1 1 z z z) k z z) fun a k=>dt k 2 z (by kernel_rfl) z s (fun _ _ _=>id) (fun w s=>r_ld1 t129 (r:=[]) (Ab.at ((hMd.step s).a00 Ab.lt1) 0 1 z z z) k z z) fun a k=>dt k 3 z (by kernel_rfl) z s (fun _ _ _=>id) (fun w s=>r_len (α:=List Int) Ad k underlying29 z z) fun a k=>dN [4,5] 2 z k (by kernel_rfl) z s (fun _ _ _ _ _=>id) fun a k=>bsplit (decide (x2.fGroup ≥ ((x8.length:Int)))) (fun Aa=>?_) (fun Aa=>?_)
 · have h:=bif_t Aa h
   refine rB k 10 z Aa fun k=>dN [6,7,8,9,10,11,12,13,14,15,16] 11 z k (by kernel_rfl) z s (fun _ _ _ _ _=>id) fun a k=>d_done (by kernel_rfl) ((nm_then ?_))
   refine wp_ret (fS h k m z z)
 have h:=bif_f Aa h
 refine rB k 10 z Aa fun k=>dt k 6 z (by kernel_rfl) z s (fun _ _ _=>id) (fun w s=>r_ld1 t129 (r:=[]) (Ab.at ((hMd.step s).a00 Ab.lt1) 0 1 z z z) k z z) fun a k=>dt k 7 z (by kernel_rfl) z s (fun _ _ _=>id) (fun w s=>r_fa fa83_1 k z z) fun a k=>dt k 8 z (by kernel_rfl) z s (fun _ _ _=>id) (fun w s=>r_ld1 t13 (r:=[]) (Ac.at ((hMd.step s).a00 Ac.lt1) 1 1 z z z) k z z) fun a k=>oE h fun Ar Af h=>dt k 9 z (by kernel_rfl) z s (fun _ _ _=>id) (fun w s=>r_ixa Ad Af k ts29 z z z) fun a k=>?_
 obtain ⟨As,Aj,Au,Ae,Ak,Ah⟩:=rd_get Ad (ix_some Af).2.2
 obtain ⟨Ax,rfl⟩:∃ v,Aj = [v]:=by obtain ⟨_,_,hq,_⟩:=Ae; exact ⟨_,hq⟩
 refine dt k 10 z (by kernel_rfl) z s (fun _ _ _=>id) (fun w s=>r_ld1 t163 (Ak.agr ((hMd.step s).a00 (Enc.rd_lt Ad)) Ah) k z z) fun a k=>dt k 11 z (by kernel_rfl) z s (fun _ _ _=>id) (fun w s=>r_fa fa158_5 k z z) fun a k=>dt k 12 z (by kernel_rfl) z s (fun _ _ _=>id) (fun w s=>r_ld1 t13 (r:=[]) (Ao.at ((hMd.step s).a 0 z) 5 1 z z z) k z z) fun a k=>d_one 13 (by kernel_rfl) z (oE h fun At Am h=>cE k m call160 z z z (c_slices_Contains_int_int fu _ _ (Enc.rd_agr Ae (m.a00 (Enc.rd_lt Ae))) Am) fun Ap e a k m=>?_)
 have s:=s.trans e (by simp)
 refine wpList_nil ⟨s,?_⟩
 refine dN [14,15,16] 3 z k (by kernel_rfl) z s (fun _ _ _ _ _=>id) fun a k=>d_done (by kernel_rfl) ((nm_then ?_))
 refine wp_ret (fS h k m z z)
theorem c_impl_Cheapest (fu:Nat) {w0:World} (r1:Request) (As:List Int) {Ay:List Value} {F3:List Nat} (Bk:rd w0 F3 Ay r1) {v6:Value} {F7:List Nat} (Az:rd w0 F7 [v6] As) {r:Typ × Bool}
    (h:d_impl_Cheapest fu r1 As = some r) :
    Calls Tryz.prog 208 #[.agg Ay.toArray,v6] w0 fun e w=>e = .returned (.tuple #[.agg (Flat.e r.1).toArray,.bool (r.2)]) ∧ Ext [] w0 w:=by
 refine enter (vs:=[_,_]) func208 z ntmps208 z fun a k=>?_
 have m:=St.start w0
 obtain ⟨v9,Ca,Ap,Cg,Ba,Bx,rfl,rfl,Av,Aj,Ax⟩:=Bk
 unfold d_impl_Cheapest at h
 refine wr (s_box (cs:=[I r1.fWay,I r1.fPallet.fW,I r1.fPallet.fD,I r1.fPallet.fH,I r1.fPallet.fGram,I r1.fClasses,v9,Ap,I r1.fMaster,Ba]) m k z z z z z z fun At Au a k m e Bb=>s_alloc (cs:=[I 0,I 0,I 0,I 0,I 0,I 0,I 0]) m k zeroValue79 z z z z z fun Ar Aw a k m e Bv=>pN 1 k z fun a k=>nn (wr (sv k z (r_build bt79 k (cs:=#[I 0,I 0,I 0,I 0,I 0,I 0,I 0]) (ps:=[]) z z (by kernel_rfl)) fun a k=>?_)))
 refine s_alloc (cs:=[I 0,I 0,I 0,I 0,I 0,I 0,I 0]) m k zeroValue79 z z z z z fun Ah Cb a k m e Bq=>s_stb (cs':=[I 0,I 0,I 0,I 0,I 0,I 0,I 0]) sizeOf79 m 0 Bq 0 k z z z z z z z z z z z fun Bn a k e m Bh=>pN 1 k z fun a k=>nn (wp_seq (wr (sv k z (r_fa fa38_4 k z z) fun a k=>sv k z (r_ldb t135 m 2 Bb 7 k z z z z z) fun a k=>sv k z (r_len (α:=Typ) Aj k underlying35 z z) fun a k=>pN 1 k z fun a k=>nn (wp_block ?_))))
 refine c_loop (fun n a w=>∃ (Ab:Typ) (Ai:World) (Ae:Bool) (Ag:Int),K 50 [(1,v6),(2,.pointer (some (⟨At,0,none⟩:Addr))),(4,.pointer (some (⟨Ar,0,none⟩:Addr))),(6,.pointer (some (⟨Ah,0,none⟩:Addr))),(7,.bool (Ae)),(12,Ap),(13,I ((r1.fTypes.length:Int))),(14,I Ag)] a ∧ St [] w0 w [([At],Au),([Ar],Aw),([Ah],Ai)] ∧ bx Ai Ah [I Ab.fId,I Ab.fW,I Ab.fH,I Ab.fD,I Ab.fTare,I Ab.fGram,I Ab.fCost] 79 ∧ d_impl_Cheapest_L1 fu r1 As n Ab Ae Ag = some r) ?_ ?_ fu _ _ ?_
 · rintro a w ⟨_,_,_,_,_,_,_,h⟩
   exact nS h
 · rintro Bp a Cf ⟨Ab,Ai,Ae,Ag,k,m,Ad,h⟩
   rw [d_impl_Cheapest_L1_s] at h
   unfold d_impl_Cheapest_L1_B at h
   refine wr (pN 1 k z fun a k=>nn (wp_seq (cI h k z (fun Bj h=>?_) fun Bj h=>?_)))
   · refine wp_skip (nm_then ?_)
     refine c_cut (fun a w=>∃ (Ac:Typ) (Ao:World) (Aq:Bool),K 50 [(1,v6),(2,.pointer (some (⟨At,0,none⟩:Addr))),(4,.pointer (some (⟨Ar,0,none⟩:Addr))),(6,.pointer (some (⟨Ah,0,none⟩:Addr))),(7,.bool (Aq)),(12,Ap),(13,I ((r1.fTypes.length:Int))),(14,I Ag)] a ∧ St [] w0 w [([At],Au),([Ar],Aw),([Ah],Ao)] ∧ bx Ao Ah [I Ac.fId,I Ac.fW,I Ac.fH,I Ac.fD,I Ac.fTare,I Ac.fGram,I Ac.fCost] 79 ∧ d_impl_Cheapest_J1 fu (d_impl_Cheapest_L1 fu r1 As Bp) Ag Ac Aq = some r) ?_ ?_
     · rintro a Bw ⟨Ac,Ao,Aq,k,m,Bd,h⟩
       unfold d_impl_Cheapest_J1 at h
       refine wp_region_lit (pN 2 k z fun a k=>nn ?_)
       exact ⟨Ac,Ao,Aq,w64 (Ag + 1),k.keep [1,2,4,6,7,12,13,14] z,m.sel [0,1,2] z (by decide),Bd,h⟩
     refine wp_block (wr (oE h fun Aa Bc h=>sv k z (r_ixa Aj Bc k ts35 z z z) fun a k=>sv k z (r_lde Aj (m.a00 (Enc.rd_lt Aj)) Bc ta79 k z z) fun a k=>s_alloc (cs:=[I 0,I 0,I 0,I 0,I 0,I 0,I 0]) m k zeroValue79 z z z z z fun By Bz a k m e Be=>s_stb (cs':=[I Aa.fId,I Aa.fW,I Aa.fH,I Aa.fD,I Aa.fTare,I Aa.fGram,I Aa.fCost]) sizeOf79 m 0 Be 0 k z z z z z z z z z z z fun Cc a k e m Af=>nn (wp_seq (wr (sv k z (r_ldB ta38 m 1 Bb 0 k z z z z z z) fun a k=>pN 1 k z fun a k=>sv k z (r_ldB ta79 m 0 Af 0 k z z z z z z) fun a k=>oE h fun Ch Br h=>?_)))))
     refine cE k m call54 z z z (c_impl_Holds fu _ _ (Aa:Typ) (show rd _ _ [I r1.fWay,I r1.fPallet.fW,I r1.fPallet.fD,I r1.fPallet.fH,I r1.fPallet.fGram,I r1.fClasses,v9,Ap,I r1.fMaster,Ba] (r1:Request) from ⟨_,_,_,_,_,_,z,z,(Enc.rd_agr Av (m.a00 (Enc.rd_lt Av))),(Enc.rd_agr Aj (m.a00 (Enc.rd_lt Aj))),(Enc.rd_agr Ax (m.a00 (Enc.rd_lt Ax)))⟩) (Enc.rd_agr Az (m.a00 (Enc.rd_lt Az))) Br) fun Cd e a k m=>pN 1 k z fun a k=>nn (cI h k z (fun Bm h=>?_) fun Bm h=>?_)
     · refine wp_exit (ex_then (ex_same (nm_then ?_)))
       exact ⟨Ab,Ai,Ae,k.keep [1,2,4,6,7,12,13,14] z,m.sel [1,2,3] z (by decide),Ad,h⟩
     refine wp_skip (nm_then ?_)
     refine wr (pN 3 k z fun a k=>bsplit (!Ae) (fun Am=>?_) (fun Am=>?_))
     · have h:=bif_t Am h
       refine rB k 25 z Am fun k=>pN 20 k z fun a k=>?_
       have k:=k.keep [1,2,4,6,12,13,7,14,9,45] z
       refine nn (wp_cond_true (k.ev z) (wp_region_lit (sv k z (r_ldB ta79 m 0 Af 0 k z z z z z z) fun a k=>s_stb (cs':=[I Aa.fId,I Aa.fW,I Aa.fH,I Aa.fD,I Aa.fTare,I Aa.fGram,I Aa.fCost]) sizeOf79 m 3 Ad 0 k z z z z z z z z z z z fun Bi a k e m Bu=>pN 1 k z fun a k=>wpList_nil (nm_block (nm_then ?_)))))
       exact ⟨Aa,Bi,true,k.keep [1,2,4,6,7,12,13,14] z,m.sel [1,2,3] z (by decide),Bu,h⟩
     have h:=bif_f Am h
     refine rB k 25 z Am fun k=>sv k z (r_fa fa79_6 k z z) fun a k=>sv k z (r_ldb t13 m 0 Af 6 k z z z z z) fun a k=>sv k z (r_fa fa79_6 k z z) fun a k=>sv k z (r_ldb t13 m 3 Ad 6 k z z z z z) fun a k=>pN 3 k z fun a k=>bsplit (decide (Aa.fCost < Ab.fCost)) (fun Ak=>?_) (fun Ak=>?_)
     · have h:=bif_t Ak h
       refine rB k 32 z Ak fun k=>pN 13 k z fun a k=>?_
       have k:=k.keep [1,2,4,6,12,13,7,14,9,45] z
       refine nn (wp_cond_true (k.ev z) (wp_region_lit (sv k z (r_ldB ta79 m 0 Af 0 k z z z z z z) fun a k=>s_stb (cs':=[I Aa.fId,I Aa.fW,I Aa.fH,I Aa.fD,I Aa.fTare,I Aa.fGram,I Aa.fCost]) sizeOf79 m 3 Ad 0 k z z z z z z z z z z z fun Bt a k e m Bg=>pN 1 k z fun a k=>wpList_nil (nm_block (nm_then ?_)))))
       exact ⟨Aa,Bt,true,k.keep [1,2,4,6,7,12,13,14] z,m.sel [1,2,3] z (by decide),Bg,h⟩
     have h:=bif_f Ak h
     refine rB k 32 z Ak fun k=>sv k z (r_fa fa79_6 k z z) fun a k=>sv k z (r_ldb t13 m 0 Af 6 k z z z z z) fun a k=>sv k z (r_fa fa79_6 k z z) fun a k=>sv k z (r_ldb t13 m 3 Ad 6 k z z z z z) fun a k=>pN 2 k z fun a k=>bsplit (Aa.fCost == Ab.fCost) (fun Al=>?_) (fun Al=>?_)
     · have h:=bif_t Al h
       refine rB k 38 z Al fun k=>sv k z (r_fa fa79_0 k z z) fun a k=>sv k z (r_ldb t13 m 0 Af 0 k z z z z z) fun a k=>sv k z (r_fa fa79_0 k z z) fun a k=>sv k z (r_ldb t13 m 3 Ad 0 k z z z z z) fun a k=>pN 3 k z fun a k=>?_
       have k:=k.keep [1,2,4,6,12,13,7,14,9,45] z
       refine nn (cI h k z (fun Bf h=>?_) fun Bf h=>?_)
       · refine wp_region_lit (sv k z (r_ldB ta79 m 0 Af 0 k z z z z z z) fun a k=>s_stb (cs':=[I Aa.fId,I Aa.fW,I Aa.fH,I Aa.fD,I Aa.fTare,I Aa.fGram,I Aa.fCost]) sizeOf79 m 3 Ad 0 k z z z z z z z z z z z fun Bo a k e m Bs=>pN 1 k z fun a k=>wpList_nil (nm_block (nm_then ?_)))
         exact ⟨Aa,Bo,true,k.keep [1,2,4,6,7,12,13,14] z,m.sel [1,2,3] z (by decide),Bs,h⟩
       refine wp_skip (nm_block (nm_then ?_))
       exact ⟨Ab,Ai,Ae,k.keep [1,2,4,6,7,12,13,14] z,m.sel [1,2,3] z (by decide),Ad,h⟩
     have h:=bif_f Al h
     refine rB k 38 z Al fun k=>pN 7 k z fun a k=>?_
     have k:=k.keep [1,2,4,6,12,13,7,14,9,45] z
     refine nn (wp_cond_false (k.ev z) (wp_skip (nm_block (nm_then ?_))))
     exact ⟨Ab,Ai,Ae,k.keep [1,2,4,6,7,12,13,14] z,m.sel [1,2,3] z (by decide),Ad,h⟩
   refine wp_exit (ex_then (ex_then (ex_same (nm_then ?_))))
   refine wr (sv k z (r_ldB ta79 m 2 Ad 0 k z z z z z z) fun a k=>pN 1 k z fun a k=>s_stb (cs':=[I Ab.fId,I Ab.fW,I Ab.fH,I Ab.fD,I Ab.fTare,I Ab.fGram,I Ab.fCost]) sizeOf79 m 1 Bv 0 k z z z z z z z z z z z fun Ce a k e m Bl=>pN 1 k z fun a k=>nn (wp_ret ?_))
   cases h
   exact finR2 k z (RV.cA k z ta79 (Bl.at (m.a 1 z) 0 7 z z z) z) (RV.tmp k z) ⟨z,m.ext⟩
 exact ⟨(⟨0,0,0,0,0,0,0⟩:Typ),Bn,false,0,k.keep [1,2,4,6,7,12,13,14] z,m.sel [2,1,0] z (by decide),Bh,h⟩
theorem c_impl_cartonFault (fu:Nat) {w0:World} (r1:Request) (x5:Plan) {Be:List Value} {F3:List Nat} (Ct:rd w0 F3 Be r1) {Bk:List Value} {F7:List Nat} (Bv:rd w0 F7 Bk x5) {r:Int}
    (h:d_impl_cartonFault fu r1 x5 = some r) :
    Calls Tryz.prog 124 #[.agg Be.toArray,.agg Bk.toArray] w0 fun e w=>e = .returned (I r) ∧ Ext [] w0 w:=by
 refine enter (vs:=[_,_]) func124 z ntmps124 z fun a k=>?_
 have m:=St.start w0
 obtain ⟨v9,Du,Ak,En,Aj,Ev,rfl,rfl,Ac,Ab,Ad⟩:=Ct
 obtain ⟨Aq,Do,Cg,Eh,rfl,rfl,Aa,Ed⟩:=Bv
 unfold d_impl_cartonFault at h
 refine wr (s_box (cs:=[I r1.fWay,I r1.fPallet.fW,I r1.fPallet.fD,I r1.fPallet.fH,I r1.fPallet.fGram,I r1.fClasses,v9,Ak,I r1.fMaster,Aj]) m k z z z z z z fun Af Ar a k m e Ap=>s_box (cs:=[Aq,Cg]) m k z z z z z z fun Ah Az a k m e Aw=>pN 1 k z fun a k=>nn (wp_seq (wr (sv k z (r_fa fa58_0 k z z) fun a k=>sv k z (r_ldb t155 m 0 Aw 0 k z z z z z) fun a k=>sv k z (r_len (α:=Carton) Aa k underlying55 z z) fun a k=>pN 1 k z fun a k=>nn (wp_block ?_)))))
 refine c_loop (fun n a w=>∃ (Ai:Int),K 77 [(2,.pointer (some (⟨Af,0,none⟩:Addr))),(3,.pointer (some (⟨Ah,0,none⟩:Addr))),(17,Aq),(18,I ((x5.fCartons.length:Int))),(19,I Ai)] a ∧ St [] w0 w [([Af],Ar),([Ah],Az)] ∧ d_impl_cartonFault_L3 fu r1 x5 n Ai = some r) ?_ ?_ fu _ _ ?_
 · rintro a w ⟨_,_,_,h⟩
   exact nS h
 · rintro Bu a Dt ⟨Ai,k,m,h⟩
   rw [d_impl_cartonFault_L3_s] at h
   unfold d_impl_cartonFault_L3_B at h
   refine wr (pN 1 k z fun a k=>nn (wp_seq (cI h k z (fun Bz h=>?_) fun Bz h=>?_)))
   · refine wp_skip (nm_then ?_)
     refine c_cut (fun a w=>K 77 [(2,.pointer (some (⟨Af,0,none⟩:Addr))),(3,.pointer (some (⟨Ah,0,none⟩:Addr))),(17,Aq),(18,I ((x5.fCartons.length:Int))),(19,I Ai)] a ∧ St [] w0 w [([Af],Ar),([Ah],Az)] ∧ d_impl_cartonFault_J1 fu (d_impl_cartonFault_L3 fu r1 x5 Bu) Ai = some r) ?_ ?_
     · rintro a Fd ⟨k,m,h⟩
       unfold d_impl_cartonFault_J1 at h
       refine wp_region_lit (pN 2 k z fun a k=>nn ?_)
       exact ⟨w64 (Ai + 1),k.keep [2,3,17,18,19] z,m.sel [0,1] z (by decide),h⟩
     refine wp_block (wr (oE h fun Ba Bb h=>sv k z (r_ixa Aa Bb k ts55 z z z) fun a k=>?_))
     obtain ⟨Dg,Dw,Dx,By,Bs,Cl⟩:=rd_get Aa (ix_some Bb).2.2
     obtain ⟨Cj,_,rfl,rfl,Av⟩:=By
     refine sv k z (r_ldA ta83 (Bs.agr (m.a00 (Enc.rd_lt Aa)) Cl) z k z z) fun a k=>s_alloc (cs:=[I 0,I 0,.slice none 0 0]) m k zeroValue83 z z z z z fun Eo Dr a k m e Cq=>s_stb (cs':=[I Ba.fType,I Ba.fGroup,Cj]) sizeOf83 m 0 Cq 0 k z z z z z z z z z z (allc z (allc z (allc (rd_o Av) alln))) fun Ds a k e m Bf=>nn (wr (sv k z (r_ldB ta38 m 1 Ap 0 k z z z z z z) fun a k=>sv k z (r_fa fa83_0 k z z) fun a k=>sv k z (r_ldb t13 m 0 Bf 0 k z z z z z) fun a k=>oE h fun Ae Db h=>?_))
     refine cE k m call53 z z z (c_impl_TypeById fu _ _ (show rd _ _ [I r1.fWay,I r1.fPallet.fW,I r1.fPallet.fD,I r1.fPallet.fH,I r1.fPallet.fGram,I r1.fClasses,v9,Ak,I r1.fMaster,Aj] (r1:Request) from ⟨_,_,_,_,_,_,z,z,(Enc.rd_agr Ac (m.a00 (Enc.rd_lt Ac))),(Enc.rd_agr Ab (m.a00 (Enc.rd_lt Ab))),(Enc.rd_agr Ad (m.a00 (Enc.rd_lt Ad)))⟩) Db) fun Dn e a k m=>pN 3 k z fun a k=>s_alloc (cs:=[I 0,I 0,I 0,I 0,I 0,I 0,I 0]) m k zeroValue79 z z z z z fun Ez Ek a k m e Bw=>?_
     refine s_stb (cs':=[I Ae.1.fId,I Ae.1.fW,I Ae.1.fH,I Ae.1.fD,I Ae.1.fTare,I Ae.1.fGram,I Ae.1.fCost]) sizeOf79 m 0 Bw 0 k z z z z z z z z z z z fun Dl a k e m Da=>pN 1 k z fun a k=>nn (wr (pN 3 k z fun a k=>bsplit (!Ae.2) (fun Al=>?_) (fun Al=>?_)))
     · have h:=bif_t Al h
       refine rB k 32 z Al fun k=>pN 7 k z fun a k=>?_
       have k:=k.keep [2,3,17,18,19,39] z
       refine nn (wp_cond_true (k.ev z) (wr (pN 1 k z fun a k=>nn (wp_ret (rt_block (rt_then (rt_then (rt_block (rt_then ?_)))))))))
       refine fS h k m z z
     have h:=bif_f Al h
     refine rB k 32 z Al fun k=>sv k z (r_ldB ta38 m 2 Ap 0 k z z z z z z) fun a k=>sv k z (r_fa fa83_2 k z z) fun a k=>sv k z (r_ldb t163 m 1 Bf 2 k z z z z z) fun a k=>sv k z (r_ldB ta79 m 0 Da 0 k z z z z z z) fun a k=>oE h fun Er Bp h=>cE k m call54 z z z (c_impl_Holds fu _ _ (Ae.1:Typ) (show rd _ _ [I r1.fWay,I r1.fPallet.fW,I r1.fPallet.fD,I r1.fPallet.fH,I r1.fPallet.fGram,I r1.fClasses,v9,Ak,I r1.fMaster,Aj] (r1:Request) from ⟨_,_,_,_,_,_,z,z,(Enc.rd_agr Ac (m.a00 (Enc.rd_lt Ac))),(Enc.rd_agr Ab (m.a00 (Enc.rd_lt Ab))),(Enc.rd_agr Ad (m.a00 (Enc.rd_lt Ad)))⟩) (Enc.rd_agr Av (m.a00 (Enc.rd_lt Av))) Bp) fun Ea e a k m=>?_
     refine pN 2 k z fun a k=>?_
     have k:=k.keep [2,3,17,18,19,39] z
     refine nn (cI h k z (fun Cx h=>?_) fun Cx h=>?_)
     · refine wr (pN 1 k z fun a k=>nn (wp_ret (rt_block (rt_then (rt_then (rt_block (rt_then ?_)))))))
       refine fS h k m z z
     refine wp_skip (nm_block (nm_then ?_))
     exact ⟨k.keep [2,3,17,18,19] z,m.sel [2,3] z (by decide),h⟩
   refine wp_exit (ex_then (ex_then (ex_same (nm_then ?_))))
   refine wr (sv k z (r_ldB ta38 m 0 Ap 0 k z z z z z z) fun a k=>oE h fun Cy Dc h=>s_call k call162 z z z z z (c_impl_GroupsOf fu _ (show rd _ _ [I r1.fWay,I r1.fPallet.fW,I r1.fPallet.fD,I r1.fPallet.fH,I r1.fPallet.fGram,I r1.fClasses,v9,Ak,I r1.fMaster,Aj] (r1:Request) from ⟨_,_,_,_,_,_,z,z,(Enc.rd_agr Ac (m.a00 (Enc.rd_lt Ac))),(Enc.rd_agr Ab (m.a00 (Enc.rd_lt Ab))),(Enc.rd_agr Ad (m.a00 (Enc.rd_lt Ad)))⟩) Dc) fun Dz Cd hR=>?_)
   obtain ⟨Bt,Bc,rfl,e,Am,Cb⟩:=hR
   refine ⟨_,z,fun a k=>?_⟩
   have m:=m.new e Bc (fun b hb=>⟨Cb b hb,Enc.rd_lt (Enc.ow_rd Am) b hb⟩) (Enc.ow_nd Am)
   refine s_alloc (cs:=[.slice none 0 0]) m k zeroValue29 z z z z z fun Ax Eg a k m e Cf=>s_stb1 (cs':=[Bt]) sizeOf29 m 0 Cf 0 k (rd_c (Enc.ow_rd Am)) (rd_o (Enc.ow_rd Am)) z z z z z z z z z fun Ca a k e m Df=>nn (wp_seq (wr (sv k z (r_fa fa58_0 k z z) fun a k=>sv k z (r_ldb t155 m 3 Aw 0 k z z z z z) fun a k=>sv k z (r_len (α:=Carton) Aa k underlying55 z z) fun a k=>pN 1 k z fun a k=>nn (wp_block ?_))))
   refine c_loop (fun n a w=>∃ (At:Int),K 77 [(2,.pointer (some (⟨Af,0,none⟩:Addr))),(3,.pointer (some (⟨Ah,0,none⟩:Addr))),(9,.pointer (some (⟨Ax,0,none⟩:Addr))),(44,Aq),(45,I ((x5.fCartons.length:Int))),(46,I At)] a ∧ St [] w0 w [([Af],Ar),([Ah],Az),([Ax],Ca),(Bc,Cd)] ∧ d_impl_cartonFault_L2 fu r1 x5 Cy n At = some r) ?_ ?_ fu _ _ ?_
   · rintro a w ⟨_,_,_,h⟩
     exact nS h
   · rintro Dy a Ew ⟨At,k,m,h⟩
     rw [d_impl_cartonFault_L2_s] at h
     unfold d_impl_cartonFault_L2_B at h
     refine wr (pN 1 k z fun a k=>nn (wp_seq (cI h k z (fun Br h=>?_) fun Br h=>?_)))
     · refine wp_skip (nm_then ?_)
       refine wp_seq (wp_block (wr (oE h fun Bh Bl h=>sv k z (r_ixa Aa Bl k ts55 z z z) fun a k=>?_)))
       obtain ⟨Em,Fc,Et,Cn,Co,De⟩:=rd_get Aa (ix_some Bl).2.2
       obtain ⟨Ci,_,rfl,rfl,Ao⟩:=Cn
       refine sv k z (r_ldA ta83 (Co.agr (m.a00 (Enc.rd_lt Aa)) De) z k z z) fun a k=>s_alloc (cs:=[I 0,I 0,.slice none 0 0]) m k zeroValue83 z z z z z fun Ch Dh a k m e Cr=>s_stb (cs':=[I Bh.fType,I Bh.fGroup,Ci]) sizeOf83 m 0 Cr 0 k z z z z z z z z z z (allc z (allc z (allc (rd_o Ao) alln))) fun Eu a k e m Bg=>nn (wr (sv k z (r_ldB ta38 m 1 Ap 0 k z z z z z z) fun a k=>sv k z (r_fa fa83_2 k z z) fun a k=>sv k z (r_ldb t163 m 0 Bg 2 k z z z z z) fun a k=>oE h fun Dm Cs h=>?_))
       refine s_call k call149 z z z z z (c_impl_itemsOf fu _ _ (show rd _ _ [I r1.fWay,I r1.fPallet.fW,I r1.fPallet.fD,I r1.fPallet.fH,I r1.fPallet.fGram,I r1.fClasses,v9,Ak,I r1.fMaster,Aj] (r1:Request) from ⟨_,_,_,_,_,_,z,z,(Enc.rd_agr Ac (m.a00 (Enc.rd_lt Ac))),(Enc.rd_agr Ab (m.a00 (Enc.rd_lt Ab))),(Enc.rd_agr Ad (m.a00 (Enc.rd_lt Ad)))⟩) (Enc.rd_agr Ao (m.a00 (Enc.rd_lt Ao))) Cs) fun El Dq hR=>?_
       obtain ⟨Dk,Bq,rfl,e,Au,Bx⟩:=hR
       refine ⟨_,z,fun a k=>?_⟩
       have m:=m.new e Bq (fun b hb=>⟨Bx b hb,Enc.rd_lt (Enc.ow_rd Au) b hb⟩) (Enc.ow_nd Au)
       refine pN 1 k z fun a k=>oE h fun Eb Dd h=>cE k m call148 z z z (c_slices_ContainsFunc_impl_Item_impl_Item fu _ _ (Enc.rd_agr (Enc.ow_rd Au) (m.a 0 z)) ⟨226,[.pointer (some (⟨Ch,0,none⟩:Addr)),.pointer (some (⟨Ax,0,none⟩:Addr))],z,call226,fun w Dp Ee r e Cu hx=>by subst Cu; have m:=m.step e; exact c_impl_cartonFault_1 fu _ _ _ (Bg.agr (m.a 1 rfl) (by simp)) (Enc.rd_agr Ao (m.a00 (Enc.rd_lt Ao))) (Df.agr (m.a 4 rfl) (by simp)) (Enc.rd_agr (Enc.ow_rd Am) (m.a 5 rfl)) hx⟩ Dd) fun Ej e a k m=>nn (cI h k rfl (fun Cp h=>?_) fun Cp h=>?_)
       · refine wr (pN 1 k z fun a k=>nn (wp_ret (rt_block (rt_then (rt_then (rt_block (rt_then ?_)))))))
         refine fS h k m z z
       refine wp_skip (nm_block (nm_then ?_))
       refine wp_region_lit (pN 2 k z fun a k=>nn ?_)
       exact ⟨w64 (At + 1),k.keep [2,3,9,44,45,46] z,m.sel [2,3,4,5] z (by decide),h⟩
     refine wp_exit (ex_then (ex_then (ex_same (nm_then ?_))))
     refine wp_seq (wr (sv k z (r_fa fa58_0 k z z) fun a k=>sv k z (r_ldb t155 m 1 Aw 0 k z z z z z) fun a k=>sv k z (r_len (α:=Carton) Aa k underlying55 z z) fun a k=>pN 1 k z fun a k=>nn (wp_block (c_loop (fun n a w=>∃ (As:Int),K 77 [(2,.pointer (some (⟨Af,0,none⟩:Addr))),(58,Aq),(59,I ((x5.fCartons.length:Int))),(60,I As)] a ∧ St [] w0 w [([Af],Ar)] ∧ d_impl_cartonFault_L1 fu r1 x5 n As = some r) ?_ ?_ fu _ _ ?_))))
     · rintro a w ⟨_,_,_,h⟩
       exact nS h
     · rintro Di a Ec ⟨As,k,m,h⟩
       rw [d_impl_cartonFault_L1_s] at h
       unfold d_impl_cartonFault_L1_B at h
       refine wr (pN 1 k z fun a k=>nn (wp_seq (cI h k z (fun Ck h=>?_) fun Ck h=>?_)))
       · refine wp_skip (nm_then ?_)
         refine wp_seq (wp_block (wr (oE h fun Bd Bj h=>sv k z (r_ixa Aa Bj k ts55 z z z) fun a k=>?_)))
         obtain ⟨Fb,Ei,Ep,Cc,Cv,Bo⟩:=rd_get Aa (ix_some Bj).2.2
         obtain ⟨Bn,_,rfl,rfl,Ay⟩:=Cc
         refine sv k z (r_ldA ta83 (Cv.agr (m.a00 (Enc.rd_lt Aa)) Bo) z k z z) fun a k=>s_alloc (cs:=[I 0,I 0,.slice none 0 0]) m k zeroValue83 z z z z z fun Ef Dv a k m e Ce=>s_stb (cs':=[I Bd.fType,I Bd.fGroup,Bn]) sizeOf83 m 0 Ce 0 k z z z z z z z z z z (allc z (allc z (allc (rd_o Ay) alln))) fun Fa a k e m Bi=>nn (wr (sv k z (r_ldB ta38 m 1 Ap 0 k z z z z z z) fun a k=>sv k z (r_fa fa83_2 k z z) fun a k=>sv k z (r_ldb t163 m 0 Bi 2 k z z z z z) fun a k=>oE h fun Ag Bm h=>?_))
         refine cE k m call208 z z z (c_impl_Cheapest fu _ _ (show rd _ _ [I r1.fWay,I r1.fPallet.fW,I r1.fPallet.fD,I r1.fPallet.fH,I r1.fPallet.fGram,I r1.fClasses,v9,Ak,I r1.fMaster,Aj] (r1:Request) from ⟨_,_,_,_,_,_,z,z,(Enc.rd_agr Ac (m.a00 (Enc.rd_lt Ac))),(Enc.rd_agr Ab (m.a00 (Enc.rd_lt Ab))),(Enc.rd_agr Ad (m.a00 (Enc.rd_lt Ad)))⟩) (Enc.rd_agr Ay (m.a00 (Enc.rd_lt Ay))) Bm) fun Es e a k m=>pN 3 k z fun a k=>s_alloc (cs:=[I 0,I 0,I 0,I 0,I 0,I 0,I 0]) m k zeroValue79 z z z z z fun Ex Dj a k m e Cw=>?_
         refine s_stb (cs':=[I Ag.1.fId,I Ag.1.fW,I Ag.1.fH,I Ag.1.fD,I Ag.1.fTare,I Ag.1.fGram,I Ag.1.fCost]) sizeOf79 m 0 Cw 0 k z z z z z z z z z z z fun Ey a k e m Cz=>pN 1 k z fun a k=>nn (wr (sv k z (r_fa fa79_0 k z z) fun a k=>sv k z (r_ldb t13 m 0 Cz 0 k z z z z z) fun a k=>sv k z (r_fa fa83_0 k z z) fun a k=>sv k z (r_ldb t13 m 1 Bi 0 k z z z z z) fun a k=>pN 1 k z fun a k=>nn (cI h k z (fun Cm h=>?_) fun Cm h=>?_)))
         · refine wr (pN 1 k z fun a k=>nn (wp_ret (rt_block (rt_then (rt_then (rt_block (rt_then ?_)))))))
           refine fS h k m z z
         refine wp_skip (nm_block (nm_then ?_))
         refine wp_region_lit (pN 2 k z fun a k=>nn ?_)
         exact ⟨w64 (As + 1),k.keep [2,58,59,60] z,m.sel [2] z (by decide),h⟩
       refine wp_exit (ex_then (ex_then (ex_same (nm_then ?_))))
       refine wr (pN 1 k z fun a k=>nn (wp_ret (fS h k m z z)))
     exact ⟨0,k.keep [2,58,59,60] z,m.sel [0] z (by decide),h⟩
   exact ⟨0,k.keep [2,3,9,44,45,46] z,m.sel [2,3,0,1] z (by decide),h⟩
 exact ⟨0,k.keep [2,3,17,18,19] z,m.sel [1,0] z (by decide),h⟩
theorem c_impl_Gross (fu:Nat) {w0:World} (r1:Request) (x5:Carton) {Am:List Value} {F3:List Nat} (Aw:rd w0 F3 Am r1) {Ai:List Value} {F7:List Nat} (Bb:rd w0 F7 Ai x5) {r:Int}
    (h:d_impl_Gross fu r1 x5 = some r) :
    Calls Tryz.prog 155 #[.agg Am.toArray,.agg Ai.toArray] w0 fun e w=>e = .returned (I r) ∧ Ext [] w0 w:=by
 refine enter (vs:=[_,_]) func155 z ntmps155 z fun a k=>?_
 have m:=St.start w0
 obtain ⟨v9,Bh,Af,Bl,Ag,Be,rfl,rfl,Ab,Ad,Ac⟩:=Aw
 obtain ⟨Ba,_,rfl,rfl,Al⟩:=Bb
 unfold d_impl_Gross at h
 refine wr (s_box (cs:=[I r1.fWay,I r1.fPallet.fW,I r1.fPallet.fD,I r1.fPallet.fH,I r1.fPallet.fGram,I r1.fClasses,v9,Af,I r1.fMaster,Ag]) m k z z z z z z fun Ak Av a k m e Ah=>s_box (cs:=[I x5.fType,I x5.fGroup,Ba]) m k z z z z z z fun Aj As a k m e Ap=>pN 1 k z fun a k=>nn (wr (sv k z (r_ldB ta38 m 1 Ah 0 k z z z z z z) fun a k=>sv k z (r_fa fa83_0 k z z) fun a k=>sv k z (r_ldb t13 m 0 Ap 0 k z z z z z) fun a k=>oE h fun Aa Az h=>?_)))
 refine cE k m call53 z z z (c_impl_TypeById fu _ _ (show rd _ _ [I r1.fWay,I r1.fPallet.fW,I r1.fPallet.fD,I r1.fPallet.fH,I r1.fPallet.fGram,I r1.fClasses,v9,Af,I r1.fMaster,Ag] (r1:Request) from ⟨_,_,_,_,_,_,z,z,(Enc.rd_agr Ab (m.a00 (Enc.rd_lt Ab))),(Enc.rd_agr Ad (m.a00 (Enc.rd_lt Ad))),(Enc.rd_agr Ac (m.a00 (Enc.rd_lt Ac)))⟩) Az) fun Bk e a k m=>pN 3 k z fun a k=>s_alloc (cs:=[I 0,I 0,I 0,I 0,I 0,I 0,I 0]) m k zeroValue79 z z z z z fun Ao Bd a k m e Ar=>?_
 refine s_stb (cs':=[I Aa.1.fId,I Aa.1.fW,I Aa.1.fH,I Aa.1.fD,I Aa.1.fTare,I Aa.1.fGram,I Aa.1.fCost]) sizeOf79 m 0 Ar 0 k z z z z z z z z z z z fun Ax a k e m Bc=>pN 1 k z fun a k=>nn (c_cut (fun a w=>K 28 [(2,.pointer (some (⟨Ak,0,none⟩:Addr))),(3,.pointer (some (⟨Aj,0,none⟩:Addr))),(5,.pointer (some (⟨Ao,0,none⟩:Addr)))] a ∧ St [] w0 w [([Ak],Av),([Aj],As),([Ao],Ax)] ∧ d_impl_Gross_J1 fu r1 x5 Aa = some r) ?_ ?_)
 · rintro a Bm ⟨k,m,h⟩
   unfold d_impl_Gross_J1 at h
   refine wp_seq (d_go [] mixo m z fun Ay hMd=>?_)
   have m:=hMd
   have s:=Ext.refl ([]:List Nat) Ay
   refine dt k 0 z (by kernel_rfl) z s (fun _ _ _=>id) (fun w s=>r_fa fa79_4 k z z) fun a k=>dt k 1 z (by kernel_rfl) z s (fun _ _ _=>id) (fun w s=>r_ld1 t13 (r:=[]) (Bc.at ((hMd.step s).a 2 z) 4 1 z z z) k z z) fun a k=>dt k 2 z (by kernel_rfl) z s (fun _ _ _=>id) (fun w s=>r_ldA ta38 (Ah.at ((hMd.step s).a 0 z) 0 10 z z z) z k z z) fun a k=>dt k 3 z (by kernel_rfl) z s (fun _ _ _=>id) (fun w s=>r_fa fa83_2 k z z) fun a k=>dt k 4 z (by kernel_rfl) z s (fun _ _ _=>id) (fun w s=>r_ld1 t163 (r:=[]) (Ap.at ((hMd.step s).a 1 z) 2 1 z z z) k z z) fun a k=>d_one 5 (by kernel_rfl) z (oE h fun Bj Au h=>?_)
   refine cE k m call240 z z z (c_impl_GramOf fu _ _ (show rd _ _ [I r1.fWay,I r1.fPallet.fW,I r1.fPallet.fD,I r1.fPallet.fH,I r1.fPallet.fGram,I r1.fClasses,v9,Af,I r1.fMaster,Ag] (r1:Request) from ⟨_,_,_,_,_,_,z,z,(Enc.rd_agr Ab (m.a00 (Enc.rd_lt Ab))),(Enc.rd_agr Ad (m.a00 (Enc.rd_lt Ad))),(Enc.rd_agr Ac (m.a00 (Enc.rd_lt Ac)))⟩) (Enc.rd_agr Al (m.a00 (Enc.rd_lt Al))) Au) fun Bf e a k m=>?_
   have s:=s.trans e (by simp)
   refine wpList_nil ⟨s,?_⟩
   refine dN [6,7] 2 z k (by kernel_rfl) z s (fun _ _ _ _ _=>id) fun a k=>d_done (by kernel_rfl) ((nm_then ?_))
   refine wp_ret (fS h k m z z)
 refine wr (pN 3 k z fun a k=>bsplit (!Aa.2) (fun Ae=>?_) (fun Ae=>?_))
 · have h:=bif_t Ae h
   refine rB k 16 z Ae fun k=>pN 4 k z fun a k=>nn (wp_cond_true (k.ev z) (wr (pN 1 k z fun a k=>nn (wp_ret (rt_then ?_)))))
   refine fS h k m z z
 have h:=bif_f Ae h
 refine rB k 16 z Ae fun k=>sv k z (r_ldB ta38 m 2 Ah 0 k z z z z z z) fun a k=>oE h fun Bi Aq h=>cE k m call115 z z z (c_impl_sound fu _ (show rd _ _ [I r1.fWay,I r1.fPallet.fW,I r1.fPallet.fD,I r1.fPallet.fH,I r1.fPallet.fGram,I r1.fClasses,v9,Af,I r1.fMaster,Ag] (r1:Request) from ⟨_,_,_,_,_,_,z,z,(Enc.rd_agr Ab (m.a00 (Enc.rd_lt Ab))),(Enc.rd_agr Ad (m.a00 (Enc.rd_lt Ad))),(Enc.rd_agr Ac (m.a00 (Enc.rd_lt Ac)))⟩) Aq) fun Bg e a k m=>pN 2 k z fun a k=>nn (cI h k z (fun At h=>?_) fun At h=>?_)
 · refine wr (pN 1 k z fun a k=>nn (wp_ret (rt_then ?_)))
   refine fS h k m z z
 refine wp_skip (nm_then ?_)
 exact ⟨k.keep [2,3,5] z,m.sel [2,1,0] z (by decide),h⟩
theorem c_impl_BoxOf (fu:Nat) {w0:World} (r1:Request) (x5:Carton) {Ar:List Value} {F3:List Nat} (Be:rd w0 F3 Ar r1) {Al:List Value} {F7:List Nat} (Bh:rd w0 F7 Al x5) {r:Box}
    (h:d_impl_BoxOf fu r1 x5 = some r) :
    Calls Tryz.prog 56 #[.agg Ar.toArray,.agg Al.toArray] w0 fun e w=>e = .returned (.agg (Flat.e r).toArray) ∧ Ext [] w0 w:=by
 refine enter (vs:=[_,_]) func56 z ntmps56 z fun a k=>?_
 have m:=St.start w0
 obtain ⟨v9,Bn,Ag,Bs,Ah,Bm,rfl,rfl,Ab,Ad,Ac⟩:=Be
 obtain ⟨At,_,rfl,rfl,Aq⟩:=Bh
 unfold d_impl_BoxOf at h
 refine wr (s_box (cs:=[I r1.fWay,I r1.fPallet.fW,I r1.fPallet.fD,I r1.fPallet.fH,I r1.fPallet.fGram,I r1.fClasses,v9,Ag,I r1.fMaster,Ah]) m k z z z z z z fun Ao Bd a k m e Ai=>s_box (cs:=[I x5.fType,I x5.fGroup,At]) m k z z z z z z fun Am Bb a k m e As=>s_alloc (cs:=[I 0,I 0,I 0,I 0]) m k zeroValue86 z z z z z fun Af Aw a k m e Ak=>nn (wr (sv k z (r_ldB ta38 m 2 Ai 0 k z z z z z z) fun a k=>sv k z (r_fa fa83_0 k z z) fun a k=>sv k z (r_ldb t13 m 1 As 0 k z z z z z) fun a k=>oE h fun Aa Ba h=>?_)))
 refine cE k m call53 z z z (c_impl_TypeById fu _ _ (show rd _ _ [I r1.fWay,I r1.fPallet.fW,I r1.fPallet.fD,I r1.fPallet.fH,I r1.fPallet.fGram,I r1.fClasses,v9,Ag,I r1.fMaster,Ah] (r1:Request) from ⟨_,_,_,_,_,_,z,z,(Enc.rd_agr Ab (m.a00 (Enc.rd_lt Ab))),(Enc.rd_agr Ad (m.a00 (Enc.rd_lt Ad))),(Enc.rd_agr Ac (m.a00 (Enc.rd_lt Ac)))⟩) Ba) fun Bl e a k m=>pN 3 k z fun a k=>s_alloc (cs:=[I 0,I 0,I 0,I 0,I 0,I 0,I 0]) m k zeroValue79 z z z z z fun Ap Bq a k m e Bi=>?_
 refine s_stb (cs':=[I Aa.1.fId,I Aa.1.fW,I Aa.1.fH,I Aa.1.fD,I Aa.1.fTare,I Aa.1.fGram,I Aa.1.fCost]) sizeOf79 m 0 Bi 0 k z z z z z z z z z z z fun Av a k e m Aj=>pN 1 k z fun a k=>nn (c_cut (fun a w=>K 32 [(2,.pointer (some (⟨Ao,0,none⟩:Addr))),(3,.pointer (some (⟨Am,0,none⟩:Addr))),(4,.pointer (some (⟨Af,0,none⟩:Addr))),(5,.pointer (some (⟨Ap,0,none⟩:Addr)))] a ∧ St [] w0 w [([Ao],Bd),([Am],Bb),([Af],Aw),([Ap],Av)] ∧ d_impl_BoxOf_J1 fu r1 x5 Aa = some r) ?_ ?_)
 · rintro a Bk ⟨k,m,h⟩
   unfold d_impl_BoxOf_J1 at h
   refine wp_seq (d_go ([Af]) mixo m z fun Bj hMd=>?_)
   have m:=hMd
   have s:=Ext.refl (([Af]):List Nat) Bj
   refine dt k 0 z (by kernel_rfl) z s (fun _ _ _=>id) (fun w s=>r_fa fa79_1 k z z) fun a k=>dt k 1 z (by kernel_rfl) z s (fun _ _ _=>id) (fun w s=>r_ld1 t13 (r:=[]) (Aj.at (hMd.az 3 2 z z z s) 1 1 z z z) k z z) fun a k=>dt k 2 z (by kernel_rfl) z s (fun _ _ _=>id) (fun w s=>r_fa fa79_3 k z z) fun a k=>dt k 3 z (by kernel_rfl) z s (fun _ _ _=>id) (fun w s=>r_ld1 t13 (r:=[]) (Aj.at (hMd.az 3 2 z z z s) 3 1 z z z) k z z) fun a k=>dt k 4 z (by kernel_rfl) z s (fun _ _ _=>id) (fun w s=>r_fa fa79_2 k z z) fun a k=>dt k 5 z (by kernel_rfl) z s (fun _ _ _=>id) (fun w s=>r_ld1 t13 (r:=[]) (Aj.at (hMd.az 3 2 z z z s) 2 1 z z z) k z z) fun a k=>?_
   refine dt k 6 z (by kernel_rfl) z s (fun _ _ _=>id) (fun w s=>r_ldA ta38 (Ai.at (hMd.az 0 2 z z z s) 0 10 z z z) z k z z) fun a k=>dt k 7 z (by kernel_rfl) z s (fun _ _ _=>id) (fun w s=>r_ldA ta83 (As.at (hMd.az 1 2 z z z s) 0 3 z z z) z k z z) fun a k=>d_one 8 (by kernel_rfl) z (oE h fun Au Ay h=>?_)
   refine cE k m call155 z z z (c_impl_Gross fu _ _ (show rd _ _ [I r1.fWay,I r1.fPallet.fW,I r1.fPallet.fD,I r1.fPallet.fH,I r1.fPallet.fGram,I r1.fClasses,v9,Ag,I r1.fMaster,Ah] (r1:Request) from ⟨_,_,_,_,_,_,z,z,(Enc.rd_agr Ab (m.a00 (Enc.rd_lt Ab))),(Enc.rd_agr Ad (m.a00 (Enc.rd_lt Ad))),(Enc.rd_agr Ac (m.a00 (Enc.rd_lt Ac)))⟩) (show rd _ _ [I x5.fType,I x5.fGroup,At] (x5:Carton) from ⟨_,_,z,z,(Enc.rd_agr Aq (m.a00 (Enc.rd_lt Aq)))⟩) Ay) fun Bt e a k m=>?_
   have s:=s.trans e (by simp)
   refine wpList_nil ⟨s,?_⟩
   refine dt k 9 z (by kernel_rfl) z s (fun _ _ _=>id) (fun w s=>r_build bt86 k (cs:=#[I Aa.1.fW,I Aa.1.fD,I Aa.1.fH,I Au]) (ps:=[(0,.tmp 23),(1,.tmp 25),(2,.tmp 27),(3,.tmp 30)]) z z (by kernel_rfl)) fun a k=>d_one 10 (by kernel_rfl) z (s_stb (cs':=[I Aa.1.fW,I Aa.1.fD,I Aa.1.fH,I Au]) sizeOf86 m 2 Ak 0 k z z z z z z z z z z z fun Bu a k e m Az=>?_)
   have s:=s.trans e (fun y hy=>Or.inl hy)
   refine wpList_nil ⟨s,?_⟩
   refine d_done (by kernel_rfl) ((nm_then ?_))
   refine wp_ret ?_
   cases h
   exact finR1 k z (RV.cA k z ta86 (Az.at (m.a 2 z) 0 4 z z z) z) ⟨z,m.ext⟩
 refine wr (pN 3 k z fun a k=>bsplit (!Aa.2) (fun Ae=>?_) (fun Ae=>?_))
 · have h:=bif_t Ae h
   refine rB k 16 z Ae fun k=>pN 4 k z fun a k=>nn (wp_cond_true (k.ev z) (wr (sv k z (r_build bt86 k (cs:=#[I 0,I 0,I 0,I 0]) (ps:=[]) z z (by kernel_rfl)) fun a k=>s_stb (cs':=[I 0,I 0,I 0,I 0]) sizeOf86 m 1 Ak 0 k z z z z z z z z z z z fun Bp a k e m Bf=>nn (wp_ret (rt_then ?_)))))
   cases h
   exact finR1 k z (RV.cA k z ta86 (Bf.at (m.a 1 z) 0 4 z z z) z) ⟨z,m.ext⟩
 have h:=bif_f Ae h
 refine rB k 16 z Ae fun k=>sv k z (r_ldB ta38 m 3 Ai 0 k z z z z z z) fun a k=>oE h fun Bv Bg h=>cE k m call115 z z z (c_impl_sound fu _ (show rd _ _ [I r1.fWay,I r1.fPallet.fW,I r1.fPallet.fD,I r1.fPallet.fH,I r1.fPallet.fGram,I r1.fClasses,v9,Ag,I r1.fMaster,Ah] (r1:Request) from ⟨_,_,_,_,_,_,z,z,(Enc.rd_agr Ab (m.a00 (Enc.rd_lt Ab))),(Enc.rd_agr Ad (m.a00 (Enc.rd_lt Ad))),(Enc.rd_agr Ac (m.a00 (Enc.rd_lt Ac)))⟩) Bg) fun Br e a k m=>pN 2 k z fun a k=>nn (cI h k z (fun Bc h=>?_) fun Bc h=>?_)
 · refine wr (sv k z (r_build bt86 k (cs:=#[I 0,I 0,I 0,I 0]) (ps:=[]) z z (by kernel_rfl)) fun a k=>s_stb (cs':=[I 0,I 0,I 0,I 0]) sizeOf86 m 1 Ak 0 k z z z z z z z z z z z fun Bo a k e m Ax=>nn (wp_ret (rt_then ?_)))
   cases h
   exact finR1 k z (RV.cA k z ta86 (Ax.at (m.a 1 z) 0 4 z z z) z) ⟨z,m.ext⟩
 refine wp_skip (nm_then ?_)
 exact ⟨k.keep [2,3,4,5] z,m.sel [3,2,1,0] z (by decide),h⟩
theorem c_impl_Within (fu:Nat) {w0:World} (p1:Pallet) (b2:Box) (Aa:Spot)  {r:Bool}
    (h:d_impl_Within fu p1 b2 Aa = some r) :
    Calls Tryz.prog 55 #[.agg (Flat.e (p1)).toArray,.agg (Flat.e (b2)).toArray,.agg (Flat.e (Aa)).toArray] w0 fun e w=>e = .returned (.bool (r)) ∧ Ext [] w0 w:=by
 refine enter (vs:=[_,_,_]) func55 z ntmps55 z fun a k=>?_
 have m:=St.start w0
 unfold d_impl_Within at h
 refine wr (s_box (cs:=[I p1.fW,I p1.fD,I p1.fH,I p1.fGram]) m k z z z z z z fun b4 w6 a k m e Ak=>s_box (cs:=[I b2.fW,I b2.fD,I b2.fH,I b2.fGram]) m k z z z z z z fun b7 w9 a k m e Ac=>s_box (cs:=[I Aa.fPallet,I Aa.fX,I Aa.fY,I Aa.fZ]) m k z z z z z z fun Al Av a k m e Ab=>pN 1 k z fun a k=>nn (c_cut (fun a w=>K 69 [(3,.pointer (some (⟨b4,0,none⟩:Addr))),(4,.pointer (some (⟨b7,0,none⟩:Addr))),(5,.pointer (some (⟨Al,0,none⟩:Addr)))] a ∧ St [] w0 w [([b4],w6),([b7],w9),([Al],Av)] ∧ d_impl_Within_J1 fu p1 b2 Aa = some r) ?_ ?_))
 · rintro a Ba ⟨k,m,h⟩
   unfold d_impl_Within_J1 at h
   refine wr (sv k z (r_fa fa89_1 k z z) fun a k=>sv k z (r_ldb t13 m 2 Ab 1 k z z z z z) fun a k=>sv k z (r_fa fa86_0 k z z) fun a k=>sv k z (r_ldb t13 m 1 Ac 0 k z z z z z) fun a k=>pN 1 k z fun a k=>sv k z (r_fa fa33_0 k z z) fun a k=>sv k z (r_ldb t13 m 0 Ak 0 k z z z z z) fun a k=>pN 2 k z fun a k=>bsplit (decide ((w64 (Aa.fX + b2.fW)) ≤ p1.fW)) (fun Ai=>?_) (fun Ai=>?_))
   · have h:=bif_t Ai h
     refine rB k 49 z Ai fun k=>sv k z (r_fa fa89_2 k z z) fun a k=>sv k z (r_ldb t13 m 2 Ab 2 k z z z z z) fun a k=>sv k z (r_fa fa86_1 k z z) fun a k=>sv k z (r_ldb t13 m 1 Ac 1 k z z z z z) fun a k=>pN 1 k z fun a k=>sv k z (r_fa fa33_1 k z z) fun a k=>sv k z (r_ldb t13 m 0 Ak 1 k z z z z z) fun a k=>pN 3 k z fun a k=>bsplit (decide ((w64 (Aa.fY + b2.fD)) ≤ p1.fD)) (fun Ae=>?_) (fun Ae=>?_)
     · have h:=bif_t Ae h
       refine rB k 59 z Ae fun k=>sv k z (r_fa fa89_3 k z z) fun a k=>sv k z (r_ldb t13 m 2 Ab 3 k z z z z z) fun a k=>sv k z (r_fa fa86_2 k z z) fun a k=>sv k z (r_ldb t13 m 1 Ac 2 k z z z z z) fun a k=>pN 1 k z fun a k=>sv k z (r_fa fa33_2 k z z) fun a k=>sv k z (r_ldb t13 m 0 Ak 2 k z z z z z) fun a k=>pN 3 k z fun a k=>?_
       have k:=k.keep [6] z
       refine nn (wp_ret (fS h k m z z))
     have h:=bif_f Ae h
     refine rB k 59 z Ae fun k=>pN 10 k z fun a k=>?_
     have k:=k.keep [6] z
     refine nn (wp_ret (fS h k m z z))
   have h:=bif_f Ai h
   refine rB k 49 z Ai fun k=>pN 20 k z fun a k=>?_
   have k:=k.keep [6] z
   refine nn (wp_ret (fS h k m z z))
 refine wr (sv k z (r_fa fa89_1 k z z) fun a k=>sv k z (r_ldb t13 m 0 Ab 1 k z z z z z) fun a k=>oE h fun Am Az h=>cE k m call153 z z z (c_impl_isPlace fu _  Az) fun Bf e a k m=>pN 2 k z fun a k=>bsplit (!Am) (fun Ah=>?_) (fun Ah=>?_))
 · have h:=bif_t Ah h
   refine rB k 11 z Ah fun k=>pN 29 k z fun a k=>?_
   have k:=k.keep [3,4,5,40] z
   refine nn (wp_cond_true (k.ev z) (wr (pN 1 k z fun a k=>nn (wp_ret (rt_then ?_)))))
   refine fS h k m z z
 have h:=bif_f Ah h
 refine rB k 11 z Ah fun k=>sv k z (r_fa fa89_2 k z z) fun a k=>sv k z (r_ldb t13 m 0 Ab 2 k z z z z z) fun a k=>oE h fun Au Ay h=>cE k m call153 z z z (c_impl_isPlace fu _  Ay) fun Bg e a k m=>pN 3 k z fun a k=>bsplit (!Au) (fun Af=>?_) (fun Af=>?_)
 · have h:=bif_t Af h
   refine rB k 17 z Af fun k=>pN 23 k z fun a k=>?_
   have k:=k.keep [3,4,5,40] z
   refine nn (wp_cond_true (k.ev z) (wr (pN 1 k z fun a k=>nn (wp_ret (rt_then ?_)))))
   refine fS h k m z z
 have h:=bif_f Af h
 refine rB k 17 z Af fun k=>sv k z (r_fa fa89_3 k z z) fun a k=>sv k z (r_ldb t13 m 0 Ab 3 k z z z z z) fun a k=>oE h fun At As h=>cE k m call153 z z z (c_impl_isPlace fu _  As) fun Bh e a k m=>pN 3 k z fun a k=>bsplit (!At) (fun Aj=>?_) (fun Aj=>?_)
 · have h:=bif_t Aj h
   refine rB k 23 z Aj fun k=>pN 17 k z fun a k=>?_
   have k:=k.keep [3,4,5,40] z
   refine nn (wp_cond_true (k.ev z) (wr (pN 1 k z fun a k=>nn (wp_ret (rt_then ?_)))))
   refine fS h k m z z
 have h:=bif_f Aj h
 refine rB k 23 z Aj fun k=>sv k z (r_fa fa86_0 k z z) fun a k=>sv k z (r_ldb t13 m 1 Ac 0 k z z z z z) fun a k=>oE h fun Ax Ar h=>cE k m call154 z z z (c_impl_isSide fu _  Ar) fun Be e a k m=>pN 3 k z fun a k=>bsplit (!Ax) (fun Ad=>?_) (fun Ad=>?_)
 · have h:=bif_t Ad h
   refine rB k 29 z Ad fun k=>pN 11 k z fun a k=>?_
   have k:=k.keep [3,4,5,40] z
   refine nn (wp_cond_true (k.ev z) (wr (pN 1 k z fun a k=>nn (wp_ret (rt_then ?_)))))
   refine fS h k m z z
 have h:=bif_f Ad h
 refine rB k 29 z Ad fun k=>sv k z (r_fa fa86_1 k z z) fun a k=>sv k z (r_ldb t13 m 1 Ac 1 k z z z z z) fun a k=>oE h fun Ap Aq h=>cE k m call154 z z z (c_impl_isSide fu _  Aq) fun Bb e a k m=>pN 3 k z fun a k=>bsplit (!Ap) (fun Ag=>?_) (fun Ag=>?_)
 · have h:=bif_t Ag h
   refine rB k 35 z Ag fun k=>pN 5 k z fun a k=>?_
   have k:=k.keep [3,4,5,40] z
   refine nn (wp_cond_true (k.ev z) (wr (pN 1 k z fun a k=>nn (wp_ret (rt_then ?_)))))
   refine fS h k m z z
 have h:=bif_f Ag h
 refine rB k 35 z Ag fun k=>sv k z (r_fa fa86_2 k z z) fun a k=>sv k z (r_ldb t13 m 1 Ac 2 k z z z z z) fun a k=>oE h fun Bd Aw h=>cE k m call154 z z z (c_impl_isSide fu _  Aw) fun Bc e a k m=>pN 2 k z fun a k=>?_
 have k:=k.keep [3,4,5,40] z
 refine nn (cI h k z (fun Ao h=>?_) fun Ao h=>?_)
 · refine wr (pN 1 k z fun a k=>nn (wp_ret (rt_then ?_)))
   refine fS h k m z z
 refine wp_skip (nm_then ?_)
 exact ⟨k.keep [3,4,5] z,m.sel [2,1,0] z (by decide),h⟩

end Go.Proofs.YtkkfmjpbiimkbaaGreat
