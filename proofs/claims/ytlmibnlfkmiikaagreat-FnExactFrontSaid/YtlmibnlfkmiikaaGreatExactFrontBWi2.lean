/- FnExactFront: the walks of functions that it reaches (ExactFrontBWi,part 2). Printed by gen.py. -/
import Derived.Test.YtlmibnlfkmiikaaGreatExactFrontBWi1
set_option maxRecDepth 20000
set_option linter.unusedSimpArgs false
set_option linter.unusedVariables false
namespace Go.Proofs.YtlmibnlfkmiikaaGreat
open Go Go.RowKit
open Enc (rd ow)
open Arg (argv)
open Ret (retv)
open Go.Proofs.Tryz

theorem c_slices_IndexFunc_impl_Carton_impl_Carton (fu:Nat) {w0:World} (Aa:List Carton) (f5:Carton → Option Bool) {v2:Value} {F3:List Nat} (Ab:rd w0 F3 [v2] Aa) {v6:Value} (Aq:FnOk1 Tryz.prog w0 v6 f5) {r:Int}
    (h:d_slices_IndexFunc_impl_Carton_impl_Carton fu Aa f5 = some r) :
    Calls Tryz.prog 212 #[v2,v6] w0 fun e w=>e = .returned (I r) ∧ Ext [] w0 w:=by
 refine enter (vs:=[_,_]) func212 z ntmps212 z fun a k=>?_
 have m:=St.start w0
 obtain ⟨Ag,Ai,rfl,Am,As⟩:=Aq
 unfold d_slices_IndexFunc_impl_Carton_impl_Carton at h
 refine wr (pN 1 k z fun a k=>nn (wp_seq (wr (pN 1 k z fun a k=>sv k z (r_len (α:=Carton) Ab k underlying43 z z) fun a k=>pN 1 k z fun a k=>nn (wp_block (c_loop (fun n a w=>∃ (Ac:Int),K 19 [(0,v2),(1,(.func (.func Ag) #[] Ai.toArray)),(7,I ((Aa.length:Int))),(8,I Ac)] a ∧ St [] w0 w [] ∧ d_slices_IndexFunc_impl_Carton_impl_Carton_L1 fu Aa f5 n Ac = some r) ?_ ?_ fu _ _ ?_))))))
 · rintro a w ⟨_,_,_,h⟩
   exact nS h
 · rintro Aw a Ba ⟨Ac,k,m,h⟩
   rw [d_slices_IndexFunc_impl_Carton_impl_Carton_L1_s] at h
   unfold d_slices_IndexFunc_impl_Carton_impl_Carton_L1_B at h
   refine wr (pN 1 k z fun a k=>nn (wp_seq (cI h k z (fun Ah h=>?_) fun Ah h=>?_)))
   · refine wp_skip (nm_then ?_)
     refine wp_seq (wp_block (wr (pN 2 k z fun a k=>nn (wr (pN 3 k z fun a k=>oE h fun Ad Ae h=>sv k z (r_ixa Ab Ae k ts43 z z z) fun a k=>?_)))))
     obtain ⟨Au,Az,Ax,Aj,Ar,Ap⟩:=rd_get Ab (ix_some Ae).2.2
     obtain ⟨Ao,_,rfl,rfl,Af⟩:=Aj
     refine sv k z (r_ldA ta33 (Ar.agr (m.a00 (Enc.rd_lt Ab)) Ap) z k z z) fun a k=>oE h fun Ay Ak h=>s_callv k Am z z z z z z (As _ _ _ _ m.ext ⟨_,_,z,(show rd _ _ [I Ad.fType,I Ad.fGroup,Ao] (Ad:Carton) from ⟨_,_,z,z,(Enc.rd_agr Af (m.a00 (Enc.rd_lt Af)))⟩)⟩ Ak) fun Av At hR=>?_
     obtain ⟨rfl,e⟩:=hR
     refine ⟨_,z,fun a k=>?_⟩
     have m:=m.step e
     refine nn (cI h k z (fun Al h=>?_) fun Al h=>?_)
     · refine wr (pN 2 k z fun a k=>nn (wp_ret (rt_block (rt_then (rt_then (rt_block (rt_then ?_)))))))
       refine fS h k m z z
     refine wp_skip (nm_block (nm_then ?_))
     refine wp_region_lit (pN 2 k z fun a k=>nn ?_)
     exact ⟨w64 (Ac + 1),k.keep [0,1,7,8] z,m.sel [] z (by decide),h⟩
   refine wp_exit (ex_then (ex_then (ex_same (nm_then ?_))))
   refine wr (pN 1 k z fun a k=>nn (wp_ret (fS h k m z z)))
 exact ⟨0,k.keep [0,1,7,8] z,m.sel [] z (by decide),h⟩
theorem c_slices_ContainsFunc_impl_Carton_impl_Carton (fu:Nat) {w0:World} (Aa:List Carton) (f5:Carton → Option Bool) {v2:Value} {F3:List Nat} (Ab:rd w0 F3 [v2] Aa) {v6:Value} (Ah:FnOk1 Tryz.prog w0 v6 f5) {r:Bool}
    (h:d_slices_ContainsFunc_impl_Carton_impl_Carton fu Aa f5 = some r) :
    Calls Tryz.prog 121 #[v2,v6] w0 fun e w=>e = .returned (.bool (r)) ∧ Ext [] w0 w:=by
 refine enter (vs:=[_,_]) func121 z ntmps121 z fun a k=>?_
 have m:=St.start w0
 obtain ⟨Aj,Ak,rfl,Ad,Ae⟩:=Ah
 unfold d_slices_ContainsFunc_impl_Carton_impl_Carton at h
 refine wr (pN 1 k z fun a k=>nn (wr (pN 2 k z fun a k=>oE h fun Ai Ac h=>cE k m call212 z z z (c_slices_IndexFunc_impl_Carton_impl_Carton fu _ _ (Enc.rd_agr Ab (m.a00 (Enc.rd_lt Ab))) ⟨_,_,z,Ad,fun w Af Ag r e=>Ae w Af Ag r (m.ext.trans e (by simp))⟩ Ac) fun Al e a k m=>pN 2 k z fun a k=>nn (wp_ret (fS h k m z z)))))
theorem c_impl_Check_1 (fu:Nat) {w0:World} (c1:Carton) {Aa:List Value} {F3:List Nat} (Ac:rd w0 F3 Aa c1) {r:Bool}
    (h:d_impl_Check_1 fu c1 = some r) :
    Calls Tryz.prog 122 #[.agg Aa.toArray] w0 fun e w=>e = .returned (.bool (r)) ∧ Ext [] w0 w:=by
 refine enter (vs:=[_]) func122 z ntmps122 z fun a k=>?_
 have m:=St.start w0
 obtain ⟨v5,_,rfl,rfl,Ab⟩:=Ac
 unfold d_impl_Check_1 at h
 refine wr (s_box (cs:=[I c1.fType,I c1.fGroup,v5]) m k z z z z z z fun b7 w9 a k m e Ad=>pN 1 k z fun a k=>nn (wr (sv k z (r_fa fa33_2 k z z) fun a k=>sv k z (r_ldb t131 m 0 Ad 2 k z z z z z) fun a k=>sv k z (r_len (α:=Int) Ab k underlying31 z z) fun a k=>pN 2 k z fun a k=>nn (wp_ret (fS h k m z z)))))
theorem c_impl_allUnits (fu:Nat) {w0:World} (x1:Plan) {Aj:List Value} {F3:List Nat} (Ap:rd w0 F3 Aj x1) {r:(List Int)}
    (h:d_impl_allUnits fu x1 = some r) :
    Calls Tryz.prog 123 #[.agg Aj.toArray] w0 fun e w=>∃ (v0:Value) (G0:List Nat),e = .returned (v0) ∧ Ext [] w0 w ∧ ow w G0 [v0] r ∧ (∀ b ∈ G0,w0.heap.size ≤ b):=by
 refine enter (vs:=[_]) func123 z ntmps123 z fun a k=>?_
 have m:=St.start w0
 obtain ⟨v5,F6,v7,F8,rfl,rfl,Ab,Bj⟩:=Ap
 unfold d_impl_allUnits at h
 refine wr (s_box (cs:=[v5,v7]) m k z z z z z z fun Bi Bn a k m e As=>pN 1 k z fun a k=>nn (wr (s_bs (cs:=[]) (ps:=[]) te31 m k z z z z z z z (by decide) z (by exact (List.forall_mem_nil _)) fun Al Av Bl a k m e Am=>?_)))
 have Ax:=ow_bx Am ([]:List Int) z z z
 refine pN 1 k z fun a k=>nn (wp_seq (wr (sv k z (r_fa fa74_0 k z z) fun a k=>sv k z (r_ldb t143 m 1 As 0 k z z z z z) fun a k=>sv k z (r_len (α:=Carton) Ab k underlying43 z z) fun a k=>pN 1 k z fun a k=>nn (wp_block (c_loop (fun n a w=>∃ (Af:List Int) (Ad:Value) (Aa:List Nat) (Ae:World) (Ac:Int),K 20 [(3,Ad),(8,v5),(9,I ((x1.fCartons.length:Int))),(10,I Ac)] a ∧ St [] w0 w [(Aa,Ae)] ∧ ow Ae Aa [Ad] Af ∧ d_impl_allUnits_L1 fu x1 n Af Ac = some r) ?_ ?_ fu _ _ ?_)))))
 · rintro a w ⟨_,_,_,_,_,_,_,_,h⟩
   exact nS h
 · rintro Bf a Bq ⟨Af,Ad,Aa,Ae,Ac,k,m,Ak,h⟩
   rw [d_impl_allUnits_L1_s] at h
   unfold d_impl_allUnits_L1_B at h
   refine wr (pN 1 k z fun a k=>nn (wp_seq (cI h k z (fun Aq h=>?_) fun Aq h=>?_)))
   · refine wp_skip (nm_then ?_)
     refine wp_seq (wp_block (wr (oE h fun Ai Ah h=>sv k z (r_ixa Ab Ah k ts43 z z z) fun a k=>?_)))
     obtain ⟨Bh,Bm,Bp,Ar,Bc,Au⟩:=rd_get Ab (ix_some Ah).2.2
     obtain ⟨Bd,_,rfl,rfl,Ag⟩:=Ar
     refine sv k z (r_ldA ta33 (Bc.agr (m.a00 (Enc.rd_lt Ab)) Au) z k z z) fun a k=>s_alloc (cs:=[I 0,I 0,.slice none 0 0]) m k zeroValue33 z z z z z fun Bo Bg a k m e At=>s_stb (cs':=[I Ai.fType,I Ai.fGroup,Bd]) sizeOf33 m 0 At 0 k z z z z z z z z z z (allc z (allc z (allc (rd_o Ag) alln))) fun Bk a k e m Ba=>nn (wp_region_lit (pN 1 k z fun a k=>sv k z (r_fa fa33_2 k z z) fun a k=>sv k z (r_ldb t131 m 0 Ba 2 k z z z z z) fun a k=>oE h fun Ay Ao h=>s_appF Ao te31 z m 1 Ak (News.rd (Enc.rd_agr Ag (m.a00 (Enc.rd_lt Ag)))) z z k z z z z z z z fun Aw Az Be a k e m Bb=>pN 1 k z fun a k=>wpList_nil (nm_block (nm_then ?_))))
     refine wp_region_lit (pN 2 k z fun a k=>nn ?_)
     exact ⟨Ay,Aw,Az,Be,w64 (Ac + 1),k.keep [3,8,9,10] z,m.sel [1] z (by decide),Bb,h⟩
   refine wp_exit (ex_then (ex_then (ex_same (nm_then ?_))))
   refine wr (pN 2 k z fun a k=>nn (wp_ret ?_))
   cases h
   exact finR1 k z (RV.tmp k z) ⟨_,Aa,z,m.ext,(Enc.ow_agr Ak (m.a 0 z)),(m.fresh 0 z)⟩
 exact ⟨([]:List Int),(.slice (some ⟨Al,0,none⟩) 0 0),[Al],Av,0,k.keep [3,8,9,10] z,m.sel [0] z (by decide),Ax,h⟩
theorem c_bits_Mul32 (fu:Nat) {w0:World} (x1:Int) (y2:Int)  {r:Int × Int}
    (h:d_bits_Mul32 fu x1 y2 = some r) :
    Calls Tryz.prog 301 #[.int .u32 (x1),.int .u32 (y2)] w0 fun e w=>e = .returned (.tuple #[.int .u32 (r.1),.int .u32 (r.2)]) ∧ Ext [] w0 w:=by
 refine enter (vs:=[_,_]) func301 z ntmps301 z fun a k=>?_
 have m:=St.start w0
 unfold d_bits_Mul32 at h
 refine wr (pN 2 k z fun a k=>nn (wr (pN 1 k z fun a k=>sv k z (r_cv k underlying233 underlying235 z z) fun a k=>pN 1 k z fun a k=>sv k z (r_cv k underlying233 underlying235 z z) fun a k=>pN 2 k z fun a k=>nn (wr (pN 1 k z fun a k=>sv k z (r_shr (y:=32) k z z z) fun a k=>sv k z (r_cv k underlying235 underlying233 z z) fun a k=>pN 1 k z fun a k=>sv k z (r_cv k underlying235 underlying233 z z) fun a k=>pN 2 k z fun a k=>nn (wp_ret ?_))))))
 cases h
 exact finR2 k z (RV.tmp k z) (RV.tmp k z) ⟨z,m.ext⟩
theorem c_bits_Mul64 (fu:Nat) {w0:World} (x1:Int) (y2:Int)  {r:Int × Int}
    (h:d_bits_Mul64 fu x1 y2 = some r) :
    Calls Tryz.prog 302 #[.int .u64 (x1),.int .u64 (y2)] w0 fun e w=>e = .returned (.tuple #[.int .u64 (r.1),.int .u64 (r.2)]) ∧ Ext [] w0 w:=by
 refine enter (vs:=[_,_]) func302 z ntmps302 z fun a k=>?_
 have m:=St.start w0
 unfold d_bits_Mul64 at h
 refine wr (pN 2 k z fun a k=>nn (wr (pN 3 k z fun a k=>nn (wr (pN 1 k z fun a k=>sv k z (r_shr (y:=32) k z z z) fun a k=>pN 1 k z fun a k=>nn (wr (pN 3 k z fun a k=>nn (wr (pN 1 k z fun a k=>sv k z (r_shr (y:=32) k z z z) fun a k=>pN 1 k z fun a k=>nn (wr (pN 4 k z fun a k=>nn (wr (pN 4 k z fun a k=>sv k z (r_shr (y:=32) k z z z) fun a k=>pN 2 k z fun a k=>?_)))))))))))))
 have k:=k.keep [0,1,6,7,9,11] z
 refine nn (wr (pN 3 k z fun a k=>nn (wr (pN 1 k z fun a k=>sv k z (r_shr (y:=32) k z z z) fun a k=>pN 1 k z fun a k=>nn (wr (pN 6 k z fun a k=>nn (wr (pN 6 k z fun a k=>sv k z (r_shr (y:=32) k z z z) fun a k=>pN 2 k z fun a k=>?_))))))))
 have k:=k.keep [0,1,4] z
 refine nn (wr (pN 4 k z fun a k=>nn (wp_ret ?_)))
 cases h
 exact finR2 k z (RV.tmp k z) (RV.tmp k z) ⟨z,m.ext⟩
theorem c_bits_Mul (fu:Nat) {w0:World} (x1:Int) (y2:Int)  {r:Int × Int}
    (h:d_bits_Mul fu x1 y2 = some r) :
    Calls Tryz.prog 272 #[.int .u64 (x1),.int .u64 (y2)] w0 fun e w=>e = .returned (.tuple #[.int .u64 (r.1),.int .u64 (r.2)]) ∧ Ext [] w0 w:=by
 refine enter (vs:=[_,_]) func272 z ntmps272 z fun a k=>?_
 have m:=St.start w0
 unfold d_bits_Mul at h
 refine wr (pN 2 k z fun a k=>nn (wp_seq (wp_cond_false (k.ev z) (wp_skip (nm_then ?_)))))
 refine wr (pN 2 k z fun a k=>oE h fun x3 Aa h=>cE k m call302 z z z (c_bits_Mul64 fu _ _  Aa) fun w6 e a k m=>pN 5 k z fun a k=>nn (wr (pN 4 k z fun a k=>nn (wp_ret ?_))))
 cases h
 exact finR2 k z (RV.tmp k z) (RV.tmp k z) ⟨z,m.ext⟩
theorem c_slices_Repeat_int_int (fu:Nat) {w0:World} (x1:List Int) (Ag:Int) {v2:Value} {F3:List Nat} (Ah:rd w0 F3 [v2] x1) {r:(List Int)}
    (h:d_slices_Repeat_int_int fu x1 Ag = some r) :
    Calls Tryz.prog 215 #[v2,I Ag] w0 fun e w=>∃ (v0:Value) (G0:List Nat),e = .returned (v0) ∧ Ext [] w0 w ∧ ow w G0 [v0] r ∧ (∀ b ∈ G0,w0.heap.size ≤ b):=by
 refine enter (vs:=[_,_]) func215 z ntmps215 z fun a k=>?_
 have m:=St.start w0
 unfold d_slices_Repeat_int_int at h
 refine wr (pN 1 k z fun a k=>nn (c_cut (fun a w=>K 48 [(0,v2),(1,I Ag)] a ∧ St [] w0 w [] ∧ d_slices_Repeat_int_int_J2 fu x1 Ag = some r) ?_ ?_))
 · rintro a w7 ⟨k,m,h⟩
   unfold d_slices_Repeat_int_int_J2 at h
   refine wr (pN 1 k z fun a k=>sv k z (r_len (α:=Int) Ah k underlying31 z z) fun a k=>sv k z (r_cv k underlying3 underlying200 z z) fun a k=>pN 1 k z fun a k=>sv k z (r_cv k underlying3 underlying200 z z) fun a k=>oE h fun x8 Ao h=>cE k m call272 z z z (c_bits_Mul fu _ _  Ao) fun Bf e a k m=>pN 5 k z fun a k=>nn (c_cut (fun a w=>K 48 [(0,v2),(6,.int .u64 (x8.2))] a ∧ St [] w0 w [] ∧ d_slices_Repeat_int_int_J1 fu x1 x8 = some r) ?_ ?_))
   · rintro a Bn ⟨k,m,h⟩
     unfold d_slices_Repeat_int_int_J1 at h
     refine wr (pN 1 k z fun a k=>sv k z (r_cv k underlying200 underlying3 z z) fun a k=>oE h fun Aj Aq h=>s_mk Aq te31 z z m k z z z z z z fun Ba Bm a Al k m e Aw=>pN 1 k z fun a k=>nn (wr (pN 2 k z fun a k=>s_cp (lo:=0) te31 m 0 Aw (Part.self _) (Enc.rd_agr Ah (m.a00 (Enc.rd_lt Ah))) k z z z z z z z fun Ar a k e m Be=>pN 1 k z fun a k=>nn (wp_seq (wp_block (c_loop (fun n a w=>∃ (Ad:List Int) (Af:Value) (Aa:List Nat) (Ai:World) (Ab:Int),K 48 [(7,Af),(8,I Ab)] a ∧ St [] w0 w [(Aa,Ai)] ∧ ow Ai Aa [Af] Ad ∧ d_slices_Repeat_int_int_L1 fu  n Ad Ab = some r) ?_ ?_ fu _ _ ?_))))))
     · rintro a w ⟨_,_,_,_,_,_,_,_,h⟩
       exact nS h
     · rintro Bg a Bi ⟨Ad,Af,Aa,Ai,Ab,k,m,Ac,h⟩
       rw [d_slices_Repeat_int_int_L1_s] at h
       unfold d_slices_Repeat_int_int_L1_B at h
       refine wp_seq (wr (pN 2 k z fun a k=>sv k z (r_len (α:=Int) (Enc.ow_rd Ac) k underlying31 z z) fun a k=>pN 1 k z fun a k=>nn (cI h k z (fun Av h=>?_) fun Av h=>?_)))
       · refine wp_skip (nm_then ?_)
         refine wp_block (d_go (Aa) mixo m z fun As hMd=>?_)
         have m:=hMd
         have s:=Ext.refl ((Aa):List Nat) As
         refine dN [0,1,2,4,5] 5 z k (by kernel_rfl) z s (fun _ _ _ _ _=>id) fun a k=>oE h fun Bj Bc h=>?_
         obtain ⟨Bh,Bk,Ap,Az⟩:=sl_from (Enc.ow_rd Ac) Bc ts31
         refine dt k 3 z (by kernel_rfl) z s (fun _ _ _=>id) (fun w s=>Az k z z z _) fun a k=>oE h fun Ak At h=>?_
         obtain ⟨Bl,Bb,Am⟩:=sl_to (Enc.ow_rd Ac) At ts31
         refine dt k 6 z (by kernel_rfl) z s (fun _ _ _=>id) (fun w s=>Am k z z z _) fun a k=>d_one 7 (by kernel_rfl) z (s_cp (lo:=Ab) te31 m 0 Ac Ap (Enc.rd_agr Bb (m.a 0 z)) k z z z z z z z fun Au a k e m Ax=>?_)
         have s:=s.trans e (fun y hy=>Or.inl hy)
         refine wpList_nil ⟨s,?_⟩
         refine dN [8,9] 2 z k (by kernel_rfl) z s (fun _ _ _ _ _=>id) fun a k=>d_done (by kernel_rfl) ((nm_block (nm_then ?_)))
         exact ⟨cpd Ad Ab Ak,Af,Aa,Au,w64 (Ab + (cpn Ad Ab Ak)),k.keep [7,8] z,m.sel [0] z (by decide),Ax,h⟩
       refine wp_exit (ex_then (ex_then (ex_same (nm_then ?_))))
       refine wr (pN 2 k z fun a k=>nn (wp_ret ?_))
       cases h
       exact finR1 k z (RV.tmp k z) ⟨_,Aa,z,m.ext,(Enc.ow_agr Ac (m.a 0 z)),(m.fresh 0 z)⟩
     exact ⟨cpd Aj 0 x1,Al,[Ba],Ar,cpn Aj 0 x1,k.keep [7,8] z,m.sel [0] z (by decide),Be,h⟩
   refine wr (pN 3 k z fun a k=>bsplit (decide (x8.1 > 0)) (fun Ae=>?_) (fun Ae=>?_))
   · have h:=bif_t Ae h
     refine rB k 23 z Ae fun k=>pN 3 k z fun a k=>nn (wp_cond_true (k.ev z) ?_)
     exact nS h
   have h:=bif_f Ae h
   refine rB k 23 z Ae fun k=>pN 3 k z fun a k=>nn (cI h k z (fun Ay h=>?_) fun Ay h=>?_)
   · exact nS h
   refine wp_skip (nm_then ?_)
   exact ⟨k.keep [0,6] z,m.sel [] z (by decide),h⟩
 refine wr (pN 2 k z fun a k=>nn (cI h k z (fun Bd h=>?_) fun Bd h=>?_))
 · exact nS h
 refine wp_skip (nm_then ?_)
 exact ⟨k.keep [0,1] z,m.sel [] z (by decide),h⟩
theorem c_impl_Units (fu:Nat) {w0:World} (r1:Request) {Ap:List Value} {F3:List Nat} (Au:rd w0 F3 Ap r1) {r:(List Int)}
    (h:d_impl_Units fu r1 = some r) :
    Calls Tryz.prog 127 #[.agg Ap.toArray] w0 fun e w=>∃ (v0:Value) (G0:List Nat),e = .returned (v0) ∧ Ext [] w0 w ∧ ow w G0 [v0] r ∧ (∀ b ∈ G0,w0.heap.size ≤ b):=by
 refine enter (vs:=[_]) func127 z ntmps127 z fun a k=>?_
 have m:=St.start w0
 obtain ⟨v5,F6,v7,F8,v9,Bu,rfl,rfl,Aj,Ao,Ab⟩:=Au
 unfold d_impl_Units at h
 refine wr (s_box (cs:=[I r1.fWay,I r1.fPallet.fW,I r1.fPallet.fD,I r1.fPallet.fH,I r1.fPallet.fGram,I r1.fClasses,v5,v7,I r1.fMaster,v9]) m k z z z z z z fun Br Bw a k m e Am=>pN 1 k z fun a k=>nn (wp_seq (wr (sv k z (r_ldB ta30 m 0 Am 0 k z z z z z z) fun a k=>oE h fun Bv Aq h=>cE k m call61 z z z (c_impl_sound fu _ (show rd _ _ [I r1.fWay,I r1.fPallet.fW,I r1.fPallet.fD,I r1.fPallet.fH,I r1.fPallet.fGram,I r1.fClasses,v5,v7,I r1.fMaster,v9] (r1:Request) from ⟨_,_,_,_,_,_,z,z,(Enc.rd_agr Aj (m.a00 (Enc.rd_lt Aj))),(Enc.rd_agr Ao (m.a00 (Enc.rd_lt Ao))),(Enc.rd_agr Ab (m.a00 (Enc.rd_lt Ab)))⟩) Aq) fun Bt e a k m=>?_))))
 refine pN 1 k z fun a k=>nn (cI h k z (fun Bc h=>?_) fun Bc h=>?_)
 · refine wr (pN 1 k z fun a k=>nn (wp_ret (rt_then ?_)))
   cases h
   exact finR1 k z (RV.tmp k z) ⟨_,[],z,m.ext,(ow_nil _),(by simp)⟩
 refine wp_skip (nm_then ?_)
 refine wr (s_bs (cs:=[]) (ps:=[]) te31 m k z z z z z z z (by decide) z (by exact (List.forall_mem_nil _)) fun Al Av Bx a k m e Be=>?_)
 have Ay:=ow_bx Be ([]:List Int) z z z
 refine pN 1 k z fun a k=>nn (wp_seq (wr (sv k z (r_fa fa30_6 k z z) fun a k=>sv k z (r_ldb t128 m 1 Am 9 k z z z z z) fun a k=>sv k z (r_len (α:=Item) Ab k underlying28 z z) fun a k=>pN 1 k z fun a k=>nn (wp_block (c_loop (fun n a w=>∃ (Af:List Int) (Ae:Value) (Ad:List Nat) (Ah:World) (Ac:Int),K 27 [(3,Ae),(11,v9),(12,I ((r1.fItems.length:Int))),(13,I Ac)] a ∧ St [] w0 w [(Ad,Ah)] ∧ ow Ah Ad [Ae] Af ∧ d_impl_Units_L1 fu r1 n Af Ac = some r) ?_ ?_ fu _ _ ?_)))))
 · rintro a w ⟨_,_,_,_,_,_,_,_,h⟩
   exact nS h
 · rintro Bk a Bl ⟨Af,Ae,Ad,Ah,Ac,k,m,Ak,h⟩
   rw [d_impl_Units_L1_s] at h
   unfold d_impl_Units_L1_B at h
   refine wr (pN 1 k z fun a k=>nn (wp_seq (cI h k z (fun Az h=>?_) fun Az h=>?_)))
   · refine wp_skip (nm_then ?_)
     refine wp_seq (wp_block (wr (pN 1 k z fun a k=>oE h fun Aa Ai h=>sv k z (r_ixa Ab Ai k ts28 z z z) fun a k=>sv k z (r_lde Ab (m.a00 (Enc.rd_lt Ab)) Ai ta97 k z z) fun a k=>s_alloc (cs:=[I 0,I 0,I 0,I 0,I 0,I 0,I 0]) m k zeroValue97 z z z z z fun Ca Bz a k m e Bh=>pN 1 k z fun a k=>s_stb (cs':=[I Aa.fId,I Aa.fW,I Aa.fH,I Aa.fD,I Aa.fGram,I Aa.fClass,I Aa.fCount]) sizeOf97 m 0 Bh 0 k z z z z z z z z z z z fun Bq a k e m Ar=>nn (wp_region_lit (pN 2 k z fun a k=>?_)))))
     refine s_bs (cs:=[I Ac]) (ps:=[(0,.tmp 19)]) te31 m k z z z z z z z (by decide) z (by exact (List.forall_mem_cons.2 ⟨z,(List.forall_mem_nil _)⟩)) fun Bm Bp Bs a k m e Bg=>?_
     have Aw:=ow_bx Bg ([Ac]:List Int) z z z
     refine sv k z (r_fa fa97_6 k z z) fun a k=>sv k z (r_ldb t13 m 1 Ar 6 k z z z z z) fun a k=>oE h fun Bo Bi h=>s_call k call215 z z z z z (c_slices_Repeat_int_int fu _ _ (Enc.rd_agr (Enc.ow_rd Aw) (m.a 0 z)) Bi) fun Bn By hR=>?_
     obtain ⟨Cb,At,rfl,e,Ag,Bf⟩:=hR
     refine ⟨_,z,fun a k=>?_⟩
     have m:=m.new e At (fun b hb=>⟨Bf b hb,Enc.rd_lt (Enc.ow_rd Ag) b hb⟩) (Enc.ow_nd Ag)
     refine oE h fun Bb As h=>s_appF As te31 z m 3 Ak (News.rd (Enc.rd_agr (Enc.ow_rd Ag) (m.a 0 z))) z z k z z z z z z z fun Bj Ax Ba a k e m Bd=>pN 1 k z fun a k=>wpList_nil (nm_block (nm_then ?_))
     refine wp_region_lit (pN 2 k z fun a k=>nn ?_)
     exact ⟨Bb,Bj,Ax,Ba,w64 (Ac + 1),k.keep [3,11,12,13] z,m.sel [3] z (by decide),Bd,h⟩
   refine wp_exit (ex_then (ex_then (ex_same (nm_then ?_))))
   refine wr (pN 2 k z fun a k=>nn (wp_ret ?_))
   cases h
   exact finR1 k z (RV.tmp k z) ⟨_,Ad,z,m.ext,(Enc.ow_agr Ak (m.a 0 z)),(m.fresh 0 z)⟩
 exact ⟨([]:List Int),(.slice (some ⟨Al,0,none⟩) 0 0),[Al],Av,0,k.keep [3,11,12,13] z,m.sel [0] z (by decide),Ay,h⟩
theorem c_impl_places (fu:Nat) {w0:World} (n1:Int)  {r:(List Int)}
    (h:d_impl_places fu n1 = some r) :
    Calls Tryz.prog 126 #[I n1] w0 fun e w=>∃ (v0:Value) (G0:List Nat),e = .returned (v0) ∧ Ext [] w0 w ∧ ow w G0 [v0] r ∧ (∀ b ∈ G0,w0.heap.size ≤ b):=by
 refine enter (vs:=[_]) func126 z ntmps126 z fun a k=>?_
 have m:=St.start w0
 unfold d_impl_places at h
 refine wr (pN 1 k z fun a k=>nn (wr (s_bs (cs:=[]) (ps:=[]) te31 m k z z z z z z z (by decide) z (by exact (List.forall_mem_nil _)) fun g2 w3 e5 a k m e Aq=>?_)))
 have Aj:=ow_bx Aq ([]:List Int) z z z
 refine pN 1 k z fun a k=>nn (wp_seq (wr (pN 2 k z fun a k=>nn (wp_block (c_loop (fun n a w=>∃ (Ad:List Int) (Ac:Value) (Ab:List Nat) (Ae:World) (Aa:Int),K 16 [(3,Ac),(6,I n1),(7,I Aa)] a ∧ St [] w0 w [(Ab,Ae)] ∧ ow Ae Ab [Ac] Ad ∧ d_impl_places_L1 fu n1 n Ad Aa = some r) ?_ ?_ fu _ _ ?_)))))
 · rintro a w ⟨_,_,_,_,_,_,_,_,h⟩
   exact nS h
 · rintro Av a Aw ⟨Ad,Ac,Ab,Ae,Aa,k,m,Af,h⟩
   rw [d_impl_places_L1_s] at h
   unfold d_impl_places_L1_B at h
   refine wr (pN 1 k z fun a k=>nn (wp_seq (cI h k z (fun Ar h=>?_) fun Ar h=>?_)))
   · refine wp_skip (nm_then ?_)
     refine wp_seq (wp_block (wr (pN 2 k z fun a k=>nn (wp_region_lit (pN 2 k z fun a k=>s_bs (cs:=[I Aa]) (ps:=[(0,.tmp 11)]) te31 m k z z z z z z z (by decide) z (by exact (List.forall_mem_cons.2 ⟨z,(List.forall_mem_nil _)⟩)) fun At As Au a k m e Ai=>?_)))))
     have Ak:=ow_bx Ai ([Aa]:List Int) z z z
     refine oE h fun Ah Ag h=>s_appF Ag te31 z m 1 Af (News.rd (Enc.rd_agr (Enc.ow_rd Ak) (m.a 0 z))) z z k z z z z z z z fun Ap Ao Al a k e m Am=>pN 1 k z fun a k=>wpList_nil (nm_block (nm_then ?_))
     refine wp_region_lit (pN 2 k z fun a k=>nn ?_)
     exact ⟨Ah,Ap,Ao,Al,w64 (Aa + 1),k.keep [3,6,7] z,m.sel [1] z (by decide),Am,h⟩
   refine wp_exit (ex_then (ex_then (ex_same (nm_then ?_))))
   refine wr (pN 2 k z fun a k=>nn (wp_ret ?_))
   cases h
   exact finR1 k z (RV.tmp k z) ⟨_,Ab,z,m.ext,(Enc.ow_agr Af (m.a 0 z)),(m.fresh 0 z)⟩
 exact ⟨([]:List Int),(.slice (some ⟨g2,0,none⟩) 0 0),[g2],w3,0,k.keep [3,6,7] z,m.sel [0] z (by decide),Aj,h⟩
theorem c_slices_Equal_int_int (fu:Nat) {w0:World} (Ab:List Int) (Ae:List Int) {v2:Value} {F3:List Nat} (Aa:rd w0 F3 [v2] Ab) {v6:Value} {F7:List Nat} (Ad:rd w0 F7 [v6] Ae) {r:Bool}
    (h:d_slices_Equal_int_int fu Ab Ae = some r) :
    Calls Tryz.prog 125 #[v2,v6] w0 fun e w=>e = .returned (.bool (r)) ∧ Ext [] w0 w:=by
 refine enter (vs:=[_,_]) func125 z ntmps125 z fun a k=>?_
 have m:=St.start w0
 unfold d_slices_Equal_int_int at h
 refine wr (pN 1 k z fun a k=>nn (wp_seq (wr (pN 1 k z fun a k=>sv k z (r_len (α:=Int) Aa k underlying31 z z) fun a k=>pN 1 k z fun a k=>sv k z (r_len (α:=Int) Ad k underlying31 z z) fun a k=>pN 1 k z fun a k=>nn (cI h k z (fun Ak h=>?_) fun Ak h=>?_)))))
 · refine wr (pN 1 k z fun a k=>nn (wp_ret (rt_then ?_)))
   refine fS h k m z z
 refine wp_skip (nm_then ?_)
 refine wp_seq (wr (pN 1 k z fun a k=>sv k z (r_len (α:=Int) Aa k underlying31 z z) fun a k=>pN 1 k z fun a k=>nn (wp_block (c_loop (fun n a w=>∃ (Ac:Int),K 26 [(0,v2),(1,v6),(12,I ((Ab.length:Int))),(13,I Ac)] a ∧ St [] w0 w [] ∧ d_slices_Equal_int_int_L1 fu Ab Ae n Ac = some r) ?_ ?_ fu _ _ ?_))))
 · rintro a w ⟨_,_,_,h⟩
   exact nS h
 · rintro Am a Ao ⟨Ac,k,m,h⟩
   rw [d_slices_Equal_int_int_L1_s] at h
   unfold d_slices_Equal_int_int_L1_B at h
   refine wr (pN 1 k z fun a k=>nn (wp_seq (cI h k z (fun Ai h=>?_) fun Ai h=>?_)))
   · refine wp_skip (nm_then ?_)
     refine wp_seq (wp_block (wr (pN 2 k z fun a k=>nn (wp_seq (d_go [] mixo m z fun Ah hMd=>?_)))))
     have m:=hMd
     have s:=Ext.refl ([]:List Nat) Ah
     refine dN [0,1,4,5] 4 z k (by kernel_rfl) z s (fun _ _ _ _ _=>id) fun a k=>oE h fun Al Af h=>dt k 2 z (by kernel_rfl) z s (fun _ _ _=>id) (fun w s=>r_ixa Aa Af k ts31 z z z) fun a k=>dt k 3 z (by kernel_rfl) z s (fun _ _ _=>id) (fun w s=>r_lde1 Aa ((hMd.step s).a00 (Enc.rd_lt Aa)) Af 0 t13 k z z z z) fun a k=>oE h fun Ap Ag h=>dt k 6 z (by kernel_rfl) z s (fun _ _ _=>id) (fun w s=>r_ixa Ad Ag k ts31 z z z) fun a k=>dt k 7 z (by kernel_rfl) z s (fun _ _ _=>id) (fun w s=>r_lde1 Ad ((hMd.step s).a00 (Enc.rd_lt Ad)) Ag 0 t13 k z z z z) fun a k=>dN [8] 1 z k (by kernel_rfl) z s (fun _ _ _ _ _=>id) fun a k=>d_done (by kernel_rfl) ((nm_then ?_))
     refine cI h k z (fun Aj h=>?_) fun Aj h=>?_
     · refine wr (pN 1 k z fun a k=>nn (wp_ret (rt_block (rt_then (rt_then (rt_block (rt_then ?_)))))))
       refine fS h k m z z
     refine wp_skip (nm_block (nm_then ?_))
     refine wp_region_lit (pN 2 k z fun a k=>nn ?_)
     exact ⟨w64 (Ac + 1),k.keep [0,1,12,13] z,m.sel [] z (by decide),h⟩
   refine wp_exit (ex_then (ex_then (ex_same (nm_then ?_))))
   refine wr (pN 1 k z fun a k=>nn (wp_ret (fS h k m z z)))
 exact ⟨0,k.keep [0,1,12,13] z,m.sel [] z (by decide),h⟩
theorem c_impl_thereOf_1 (fu:Nat) {w0:World} (u1:Int) (x2:Int) {b3:Nat} (Aa:bx w0 b3 [I x2] 3) {r:Bool}
    (h:d_impl_thereOf_1 fu u1 x2 = some r) :
    Calls Tryz.prog 164 #[I u1,.pointer (some (⟨b3,0,none⟩:Addr))] w0 fun e w=>e = .returned (.bool (r)) ∧ Ext [] w0 w:=by
 refine enter (vs:=[_,_]) func164 z ntmps164 z fun a k=>?_
 have m:=St.start w0
 unfold d_impl_thereOf_1 at h
 refine wr (pN 1 k z fun a k=>nn (wr (pN 1 k z fun a k=>sv k z (r_ld1 t13 (r:=[]) (Aa.at (m.a00 Aa.lt1) 0 1 z z z) k z z) fun a k=>pN 1 k z fun a k=>oE h fun x5 Ab h=>cE k m call148 z z z (c_impl_in fu _ _ _  Ab) fun w9 e a k m=>pN 2 k z fun a k=>nn (wp_ret (fS h k m z z)))))
theorem c_slices_IndexFunc_int_int (fu:Nat) {w0:World} (Aa:List Int) (f5:Int → Option Bool) {v2:Value} {F3:List Nat} (Ac:rd w0 F3 [v2] Aa) {v6:Value} (Al:FnOk1 Tryz.prog w0 v6 f5) {r:Int}
    (h:d_slices_IndexFunc_int_int fu Aa f5 = some r) :
    Calls Tryz.prog 239 #[v2,v6] w0 fun e w=>e = .returned (I r) ∧ Ext [] w0 w:=by
 refine enter (vs:=[_,_]) func239 z ntmps239 z fun a k=>?_
 have m:=St.start w0
 obtain ⟨Af,Ak,rfl,Ai,Aj⟩:=Al
 unfold d_slices_IndexFunc_int_int at h
 refine wr (pN 1 k z fun a k=>nn (wp_seq (wr (pN 1 k z fun a k=>sv k z (r_len (α:=Int) Ac k underlying31 z z) fun a k=>pN 1 k z fun a k=>nn (wp_block (c_loop (fun n a w=>∃ (Ab:Int),K 19 [(0,v2),(1,(.func (.func Af) #[] Ak.toArray)),(7,I ((Aa.length:Int))),(8,I Ab)] a ∧ St [] w0 w [] ∧ d_slices_IndexFunc_int_int_L1 fu Aa f5 n Ab = some r) ?_ ?_ fu _ _ ?_))))))
 · rintro a w ⟨_,_,_,h⟩
   exact nS h
 · rintro Aq a Ao ⟨Ab,k,m,h⟩
   rw [d_slices_IndexFunc_int_int_L1_s] at h
   unfold d_slices_IndexFunc_int_int_L1_B at h
   refine wr (pN 1 k z fun a k=>nn (wp_seq (cI h k z (fun Ag h=>?_) fun Ag h=>?_)))
   · refine wp_skip (nm_then ?_)
     refine wp_seq (wp_block (wr (pN 2 k z fun a k=>nn (wr (pN 3 k z fun a k=>oE h fun Ar Ad h=>sv k z (r_ixa Ac Ad k ts31 z z z) fun a k=>sv k z (r_lde1 Ac (m.a00 (Enc.rd_lt Ac)) Ad 0 t13 k z z z z) fun a k=>oE h fun As Ah h=>s_callv k Ai z z z z z z (Aj _ _ _ _ m.ext z Ah) fun Ap Am hR=>?_)))))
     obtain ⟨rfl,e⟩:=hR
     refine ⟨_,z,fun a k=>?_⟩
     have m:=m.step e
     refine nn (cI h k z (fun Ae h=>?_) fun Ae h=>?_)
     · refine wr (pN 2 k z fun a k=>nn (wp_ret (rt_block (rt_then (rt_then (rt_block (rt_then ?_)))))))
       refine fS h k m z z
     refine wp_skip (nm_block (nm_then ?_))
     refine wp_region_lit (pN 2 k z fun a k=>nn ?_)
     exact ⟨w64 (Ab + 1),k.keep [0,1,7,8] z,m.sel [] z (by decide),h⟩
   refine wp_exit (ex_then (ex_then (ex_same (nm_then ?_))))
   refine wr (pN 1 k z fun a k=>nn (wp_ret (fS h k m z z)))
 exact ⟨0,k.keep [0,1,7,8] z,m.sel [] z (by decide),h⟩
theorem c_slices_DeleteFunc_int_int (fu:Nat) {w0:World} (Aj:List Int) (f5:Int → Option Bool) {v2:Value} {F3:List Nat} (Ad:ow w0 F3 [v2] Aj) {v6:Value} (Bg:FnOkX1 F3 Tryz.prog w0 v6 f5) {r:(List Int)}
    (h:d_slices_DeleteFunc_int_int fu Aj f5 = some r) :
    Calls Tryz.prog 163 #[v2,v6] w0 fun e w=>∃ (v0:Value) (G0:List Nat),e = .returned (v0) ∧ Ext F3 w0 w ∧ ow w G0 [v0] r ∧ (∀ b ∈ G0,b ∈ F3 ∨ w0.heap.size ≤ b):=by
 refine enter (vs:=[_,_]) func163 z ntmps163 z fun a k=>?_
 have m:=St.start1 w0 (Enc.rd_lt (Enc.ow_rd Ad)) (Enc.ow_nd Ad)
 obtain ⟨Al,Am,rfl,Ap,As⟩:=Bg
 unfold d_slices_DeleteFunc_int_int at h
 refine wr (pN 1 k z fun a k=>nn (wr (pN 2 k z fun a k=>oE h fun Ak Bb h=>cE k m call239 z z z (c_slices_IndexFunc_int_int fu _ _ (Enc.rd_agr (Enc.ow_rd Ad) (m.a 0 z)) ⟨_,_,z,Ap,fun w Aw Ax r e=>As w Aw Ax r (m.ext.trans e (by simp))⟩ Bb) fun Bw e a k m=>pN 1 k z fun a k=>nn (wp_seq (wr (pN 2 k z fun a k=>nn (cI h k z (fun Bf h=>?_) fun Bf h=>?_)))))))
 · refine wr (pN 2 k z fun a k=>nn (wp_ret (rt_then ?_)))
   cases h
   exact finR1 k z (RV.tmp k z) ⟨_,F3,z,m.ext,(Enc.ow_agr Ad (m.a 0 z)),(fun b hb=>m.lo b (mem_fps (i:=0) z hb))⟩
 refine wp_skip (nm_then ?_)
 refine wp_seq (wr (pN 3 k z fun a k=>nn (wp_block (c_loop (fun n a w=>∃ (Ae:List Int) (Af:World) (Ab:Int) (Ac:Int),K 42 [(0,v2),(1,(.func (.func Al) #[] Am.toArray)),(5,I Ab),(6,I Ac)] a ∧ St F3 w0 w [(F3,Af)] ∧ ow Af F3 [v2] Ae ∧ d_slices_DeleteFunc_int_int_L1 fu f5 n Ae Ab Ac = some r) ?_ ?_ fu _ _ ?_))))
 · rintro a w ⟨_,_,_,_,_,_,_,h⟩
   exact nS h
 · rintro Au a Bn ⟨Ae,Af,Ab,Ac,k,m,Aa,h⟩
   rw [d_slices_DeleteFunc_int_int_L1_s] at h
   unfold d_slices_DeleteFunc_int_int_L1_B at h
   refine wp_seq (wr (pN 2 k z fun a k=>sv k z (r_len (α:=Int) (Enc.ow_rd Aa) k underlying31 z z) fun a k=>pN 1 k z fun a k=>nn (cI h k z (fun Bi h=>?_) fun Bi h=>?_)))
   · refine wp_skip (nm_then ?_)
     refine c_cut (fun a w=>∃ (Ah:List Int) (Ag:World) (Ai:Int),K 42 [(0,v2),(1,(.func (.func Al) #[] Am.toArray)),(5,I Ai),(6,I Ac)] a ∧ St F3 w0 w [(F3,Ag)] ∧ ow Ag F3 [v2] Ah ∧ d_slices_DeleteFunc_int_int_J1 fu (d_slices_DeleteFunc_int_int_L1 fu f5 Au) Ac Ah Ai = some r) ?_ ?_
     · rintro a Bo ⟨Ah,Ag,Ai,k,m,Ba,h⟩
       unfold d_slices_DeleteFunc_int_int_J1 at h
       refine wp_region_lit (pN 3 k z fun a k=>nn ?_)
       exact ⟨Ah,Ag,Ai,w64 (Ac + 1),k.keep [0,1,5,6] z,m.sel [0] z (by decide),Ba,h⟩
     refine wp_block (wr (pN 2 k z fun a k=>oE h fun Aq Ar h=>sv k z (r_ixa (Enc.ow_rd Aa) Ar k ts31 z z z) fun a k=>sv k z (r_lde1 (Enc.ow_rd Aa) (m.a 0 z) Ar 0 t13 k z z z z) fun a k=>pN 1 k z fun a k=>nn (wr (pN 2 k z fun a k=>oE h fun Bv Bh h=>s_callv k Ap z z z z z z (As _ _ _ _ m.ext z Bh) fun Bl Bm hR=>?_))))
     obtain ⟨rfl,e⟩:=hR
     refine ⟨_,z,fun a k=>?_⟩
     have m:=m.step e
     refine pN 1 k z fun a k=>nn (cI h k z (fun Av h=>?_) fun Av h=>?_)
     · refine wr (pN 3 k z fun a k=>oE h fun Bk Ao h=>sv k z (r_ixa (Enc.ow_rd Aa) Ao k ts31 z z z) fun a k=>s_ste (α:=Int) (sz:=1) (y:=Aq) sizeOf3 Ao m 0 Aa 0 k z z z z z z z z z z z z fun Be a k e m Bj=>nn (wp_region_lit (pN 3 k z fun a k=>wpList_nil (nm_block (nm_then ?_)))))
       exact ⟨setx Ae Ab Aq,Be,w64 (Ab + 1),k.keep [0,1,5,6] z,m.sel [0] z (by decide),Bj,h⟩
     refine wp_skip (nm_block (nm_then ?_))
     exact ⟨Ae,Af,Ab,k.keep [0,1,5,6] z,m.sel [0] z (by decide),Aa,h⟩
   refine wp_exit (ex_then (ex_then (ex_same (nm_then ?_))))
   refine wr (pN 2 k z fun a k=>oE h fun Bq Bc h=>s_slFromP (Enc.ow_rd Aa) Bc k ts31 z z z z z z fun Br a k Bt Az=>s_clr (lo:=Ab) te31 m 0 Aa Az k z z z z z fun Bu a k e m Ay=>nn (wr (pN 2 k z fun a k=>oE h fun Bp At h=>s_slToO Ay At k ts31 z z z z z z fun Bs a k Bd=>pN 1 k z fun a k=>nn (wp_ret ?_))))
   cases h
   exact finR1 k z (RV.tmp k z) ⟨_,F3,z,m.ext,(Enc.ow_agr Bd (m.a 0 z)),(fun b hb=>m.lo b (mem_fps (i:=0) z hb))⟩
 exact ⟨Aj,w0,Ak,w64 (Ak + 1),k.keep [0,1,5,6] z,m.sel [0] z (by decide),Ad,h⟩
theorem c_impl_thereOf (fu:Nat) {w0:World} (r1:Request) (Al:List Int) {Ag:List Value} {F3:List Nat} (Ao:rd w0 F3 Ag r1) {v6:Value} {F7:List Nat} (Ah:rd w0 F7 [v6] Al) {r:(List Int)}
    (h:d_impl_thereOf fu r1 Al = some r) :
    Calls Tryz.prog 74 #[.agg Ag.toArray,v6] w0 fun e w=>∃ (v0:Value) (G0:List Nat),e = .returned (v0) ∧ Ext [] w0 w ∧ ow w G0 [v0] r ∧ (∀ b ∈ G0,w0.heap.size ≤ b):=by
 refine enter (vs:=[_,_]) func74 z ntmps74 z fun a k=>?_
 have m:=St.start w0
 obtain ⟨v9,Bp,Ai,Bi,Af,Bg,rfl,rfl,Aj,Ak,Ad⟩:=Ao
 unfold d_impl_thereOf at h
 refine wr (s_box (cs:=[I r1.fWay,I r1.fPallet.fW,I r1.fPallet.fD,I r1.fPallet.fH,I r1.fPallet.fGram,I r1.fClasses,v9,Ai,I r1.fMaster,Af]) m k z z z z z z fun Bs Bl a k m e At=>pN 1 k z fun a k=>nn (wr (sv k z (r_ldB ta30 m 0 At 0 k z z z z z z) fun a k=>oE h fun Aq Aw h=>?_)))
 refine s_call k call127 z z z z z (c_impl_Units fu _ (show rd _ _ [I r1.fWay,I r1.fPallet.fW,I r1.fPallet.fD,I r1.fPallet.fH,I r1.fPallet.fGram,I r1.fClasses,v9,Ai,I r1.fMaster,Af] (r1:Request) from ⟨_,_,_,_,_,_,z,z,(Enc.rd_agr Aj (m.a00 (Enc.rd_lt Aj))),(Enc.rd_agr Ak (m.a00 (Enc.rd_lt Ak))),(Enc.rd_agr Ad (m.a00 (Enc.rd_lt Ad)))⟩) Aw) fun Bf Bo hR=>?_
 obtain ⟨Bc,Au,rfl,e,Ab,Ap⟩:=hR
 refine ⟨_,z,fun a k=>?_⟩
 have m:=m.new e Au (fun b hb=>⟨Ap b hb,Enc.rd_lt (Enc.ow_rd Ab) b hb⟩) (Enc.ow_nd Ab)
 refine sv k z (r_len (α:=Int) (Enc.ow_rd Ab) k underlying31 z z) fun a k=>s_alloc (cs:=[I 0]) m k zeroValue3 z z z z z fun Ax Bt a k m e Ba=>s_stb (cs':=[I ((Aq.length:Int))]) sizeOf3 m 0 Ba 0 k z z z z z z z z z z z fun Bh a k e m Ay=>nn (wr (pN 1 k z fun a k=>oE h fun Bv As h=>s_call k call145 z z z z z (c_slices_Clone_int_int fu _ (Enc.rd_agr Ah (m.a00 (Enc.rd_lt Ah))) As) fun Bq Bn hR=>?_))
 obtain ⟨Bj,Ae,rfl,e,Ac,Az⟩:=hR
 refine ⟨_,z,fun a k=>?_⟩
 have m:=m.new e Ae (fun b hb=>⟨Az b hb,Enc.rd_lt (Enc.ow_rd Ac) b hb⟩) (Enc.ow_nd Ac)
 refine pN 1 k z fun a k=>oE h fun Bd Ar h=>s_call k call163 z z z z z (c_slices_DeleteFunc_int_int fu _ _ (Enc.ow_agr Ac (m.a 0 z)) ⟨164,[.pointer (some (⟨Ax,0,none⟩:Addr))],z,call164,fun w Bu Be r e Av hx=>by subst Av; have m:=m.mut 0 rfl e Ae (fun b hb=>⟨.inl hb,e.lt1 (m.ltF 0 rfl) b hb⟩) (m.ndF 0 rfl); exact c_impl_thereOf_1 fu _ _ (Ay.agr (m.a 1 rfl) (by simp)) hx⟩ Ar) fun Br Bm hR=>?_
 obtain ⟨Bk,Bb,rfl,e,Aa,Am⟩:=hR
 refine ⟨_,z,fun a k=>?_⟩
 have m:=m.mut 0 z e _ (fun b hb=>⟨Am b hb,Enc.rd_lt (Enc.ow_rd Aa) b hb⟩) (Enc.ow_nd Aa)
 refine pN 1 k z fun a k=>nn (wp_ret ?_)
 cases h
 exact finR1 k z (RV.tmp k z) ⟨_,Bb,z,m.ext,(Enc.ow_agr Aa (m.a 0 z)),(m.fresh 0 z)⟩
theorem c_impl_itemsOf (fu:Nat) {w0:World} (r1:Request) (Ad:List Int) {Bd:List Value} {F3:List Nat} (Bj:rd w0 F3 Bd r1) {v6:Value} {F7:List Nat} (Am:rd w0 F7 [v6] Ad) {r:(List Item)}
    (h:d_impl_itemsOf fu r1 Ad = some r) :
    Calls Tryz.prog 76 #[.agg Bd.toArray,v6] w0 fun e w=>∃ (v0:Value) (G0:List Nat),e = .returned (v0) ∧ Ext [] w0 w ∧ ow w G0 [v0] r ∧ (∀ b ∈ G0,w0.heap.size ≤ b):=by
 refine enter (vs:=[_,_]) func76 z ntmps76 z fun a k=>?_
 have m:=St.start w0
 obtain ⟨v9,Cl,Be,Cg,At,Cf,rfl,rfl,Bf,Bg,Ae⟩:=Bj
 unfold d_impl_itemsOf at h
 refine wr (s_box (cs:=[I r1.fWay,I r1.fPallet.fW,I r1.fPallet.fD,I r1.fPallet.fH,I r1.fPallet.fGram,I r1.fClasses,v9,Be,I r1.fMaster,At]) m k z z z z z z fun Ao Ba a k m e Ax=>pN 1 k z fun a k=>nn (wr (sv k z (r_ldB ta30 m 0 Ax 0 k z z z z z z) fun a k=>oE h fun Au Bu h=>?_)))
 refine s_call k call127 z z z z z (c_impl_Units fu _ (show rd _ _ [I r1.fWay,I r1.fPallet.fW,I r1.fPallet.fD,I r1.fPallet.fH,I r1.fPallet.fGram,I r1.fClasses,v9,Be,I r1.fMaster,At] (r1:Request) from ⟨_,_,_,_,_,_,z,z,(Enc.rd_agr Bf (m.a00 (Enc.rd_lt Bf))),(Enc.rd_agr Bg (m.a00 (Enc.rd_lt Bg))),(Enc.rd_agr Ae (m.a00 (Enc.rd_lt Ae)))⟩) Bu) fun Ce Bc hR=>?_
 obtain ⟨As,Ar,rfl,e,Af,Bm⟩:=hR
 refine ⟨_,z,fun a k=>?_⟩
 have m:=m.new e Ar (fun b hb=>⟨Bm b hb,Enc.rd_lt (Enc.ow_rd Af) b hb⟩) (Enc.ow_nd Af)
 refine pN 1 k z fun a k=>nn (wr (s_bs (cs:=[]) (ps:=[]) te28 m k z z z z z z z (by decide) z (by exact (List.forall_mem_nil _)) fun Ay Bn Ci a k m e Bv=>?_))
 have Bq:=ow_bx Bv ([]:List Item) z z z
 refine pN 1 k z fun a k=>nn (wp_seq (wr (pN 1 k z fun a k=>sv k z (r_len (α:=Int) Am k underlying31 z z) fun a k=>pN 1 k z fun a k=>nn (wp_block (c_loop (fun n a w=>∃ (Ag:List Item) (Ai:Value) (Ab:List Nat) (Ap:World) (Ac:Int),K 36 [(2,.pointer (some (⟨Ao,0,none⟩:Addr))),(5,As),(6,Ai),(12,v6),(13,I ((Ad.length:Int))),(14,I Ac)] a ∧ St [] w0 w [([Ao],Ba),(Ar,Bc),(Ab,Ap)] ∧ ow Ap Ab [Ai] Ag ∧ d_impl_itemsOf_L1 fu r1 Ad Au n Ag Ac = some r) ?_ ?_ fu _ _ ?_)))))
 · rintro a w ⟨_,_,_,_,_,_,_,_,h⟩
   exact nS h
 · rintro Bz a Cq ⟨Ag,Ai,Ab,Ap,Ac,k,m,Aq,h⟩
   rw [d_impl_itemsOf_L1_s] at h
   unfold d_impl_itemsOf_L1_B at h
   refine wr (pN 1 k z fun a k=>nn (wp_seq (cI h k z (fun Bt h=>?_) fun Bt h=>?_)))
   · refine wp_skip (nm_then ?_)
     refine c_cut (fun a w=>∃ (Aj:List Item) (Ak:Value) (Al:List Nat) (Ah:World),K 36 [(2,.pointer (some (⟨Ao,0,none⟩:Addr))),(5,As),(6,Ak),(12,v6),(13,I ((Ad.length:Int))),(14,I Ac)] a ∧ St [] w0 w [([Ao],Ba),(Ar,Bc),(Al,Ah)] ∧ ow Ah Al [Ak] Aj ∧ d_impl_itemsOf_J1 fu (d_impl_itemsOf_L1 fu r1 Ad Au Bz) Ac Aj = some r) ?_ ?_
     · rintro a Cm ⟨Aj,Ak,Al,Ah,k,m,Bh,h⟩
       unfold d_impl_itemsOf_J1 at h
       refine wp_region_lit (pN 2 k z fun a k=>nn ?_)
       exact ⟨Aj,Ak,Al,Ah,w64 (Ac + 1),k.keep [2,5,6,12,13,14] z,m.sel [0,1,2] z (by decide),Bh,h⟩
     refine wp_block (wr (oE h fun Cp Aw h=>sv k z (r_ixa Am Aw k ts31 z z z) fun a k=>sv k z (r_lde1 Am (m.a00 (Enc.rd_lt Am)) Aw 0 t13 k z z z z) fun a k=>pN 1 k z fun a k=>nn (wr (pN 2 k z fun a k=>sv k z (r_len (α:=Int) (Enc.ow_rd Af) k underlying31 z z) fun a k=>pN 1 k z fun a k=>oE h fun Ch Bk h=>cE k m call148 z z z (c_impl_in fu _ _ _  Bk) fun Co e a k m=>nn (cI h k z (fun Bo h=>?_) fun Bo h=>?_)))))
     · refine d_go (Ab) mixo m z fun Cb hMd=>?_
       have m:=hMd
       have s:=Ext.refl ((Ab):List Nat) Cb
       refine dN [0,3,4] 3 z k (by kernel_rfl) z s (fun _ _ _ _ _=>id) fun a k=>dt k 1 z (by kernel_rfl) z s (fun _ _ _=>id) (fun w s=>r_fa fa30_6 k z z) fun a k=>dt k 2 z (by kernel_rfl) z s (fun _ _ _=>id) (fun w s=>r_ld1 t128 (r:=[]) (Ax.at (hMd.az 0 2 z z z s) 9 1 z z z) k z z) fun a k=>oE h fun Cd Bb h=>dt k 5 z (by kernel_rfl) z s (fun _ _ _=>id) (fun w s=>r_ixa (Enc.ow_rd Af) Bb k ts31 z z z) fun a k=>dt k 6 z (by kernel_rfl) z s (fun _ _ _=>id) (fun w s=>r_lde1 (Enc.ow_rd Af) (hMd.az 1 2 z z z s) Bb 0 t13 k z z z z) fun a k=>oE h fun Aa Az h=>dt k 7 z (by kernel_rfl) z s (fun _ _ _=>id) (fun w s=>r_ixa Ae Az k ts28 z z z) fun a k=>?_
       refine dt k 8 z (by kernel_rfl) z s (fun _ _ _=>id) (fun w s=>r_lde Ae (hMd.az0 2 z z (Enc.rd_lt Ae) s) Az ta97 k z z) fun a k=>d_one 9 (by kernel_rfl) z (s_bsN (cs:=[I Aa.fId,I Aa.fW,I Aa.fH,I Aa.fD,I Aa.fGram,I Aa.fClass,I Aa.fCount]) (ps:=[(0,.tmp 31)]) te28 m k z z z z z z z (by decide) z (by exact (List.forall_mem_cons.2 ⟨z,(List.forall_mem_nil _)⟩)) fun Ck Cr Cc a k m e Ca Bi=>?_)
       have Cj:=lo1 (Nat.le_trans s.size Bi)
       have Bp:=ow_bx Ca ([Aa]:List Item) z z z
       have s:=s.trans e (by simp)
       refine wpList_nil ⟨s,?_⟩
       refine d_one 10 (by kernel_rfl) z (oE h fun Bl Bs h=>s_appFN Bs te28 z m 3 Aq (News.rd (Enc.rd_agr (Enc.ow_rd Bp) (m.a 0 z))) z z k z z z z z z z fun By Av Br a k e m Bx Bw=>?_)
       have Cn:∀ y ∈ Av,y ∈ (Ab) ∨ _ ≤ y:=fun y hy=>(Bw y hy).elim (fun hy=>(fun y hy=>Or.inl hy) y hy) (fun h=>Or.inr (Nat.le_trans s.size h))
       have s:=s.trans e (fun y hy=>Or.inl hy)
       refine wpList_nil ⟨s,?_⟩
       refine dN [11] 1 z k (by kernel_rfl) z s (fun _ _ _ _ _=>id) fun a k=>d_done (by kernel_rfl) ((nm_block (nm_then ?_)))
       exact ⟨Bl,By,Av,Br,k.keep [2,5,6,12,13,14] z,m.sel [1,2,3] z (by decide),Bx,h⟩
     refine wp_skip (nm_block (nm_then ?_))
     exact ⟨Ag,Ai,Ab,Ap,k.keep [2,5,6,12,13,14] z,m.sel [0,1,2] z (by decide),Aq,h⟩
   refine wp_exit (ex_then (ex_then (ex_same (nm_then ?_))))
   refine wr (pN 2 k z fun a k=>nn (wp_ret ?_))
   cases h
   exact finR1 k z (RV.tmp k z) ⟨_,Ab,z,m.ext,(Enc.ow_agr Aq (m.a 2 z)),(m.fresh 2 z)⟩
 exact ⟨([]:List Item),(.slice (some ⟨Ay,0,none⟩) 0 0),[Ay],Bn,0,k.keep [2,5,6,12,13,14] z,m.sel [2,1,0] z (by decide),Bq,h⟩
theorem c_impl_Holds_1 (fu:Nat) {w0:World} (x1:Item) (x2:Typ) {b3:Nat} (Aa:bx w0 b3 [I x2.fId,I x2.fW,I x2.fH,I x2.fD,I x2.fTare,I x2.fGram,I x2.fCost] 38) {r:Bool}
    (h:d_impl_Holds_1 fu x1 x2 = some r) :
    Calls Tryz.prog 77 #[.agg (Flat.e (x1)).toArray,.pointer (some (⟨b3,0,none⟩:Addr))] w0 fun e w=>e = .returned (.bool (r)) ∧ Ext [] w0 w:=by
 refine enter (vs:=[_,_]) func77 z ntmps77 z fun a k=>?_
 have m:=St.start w0
 unfold d_impl_Holds_1 at h
 refine wr (s_box (cs:=[I x1.fId,I x1.fW,I x1.fH,I x1.fD,I x1.fGram,I x1.fClass,I x1.fCount]) m k z z z z z z fun b5 w7 a k m e Ab=>pN 1 k z fun a k=>nn (wr (sv k z (r_ldB ta97 m 0 Ab 0 k z z z z z z) fun a k=>sv k z (r_ldA ta38 (Aa.at (m.a00 Aa.lt1) 0 7 z z z) z k z z) fun a k=>oE h fun x8 Ac h=>cE k m call78 z z z (c_impl_Fits fu (x1:Item) (x2:Typ)  Ac) fun Ad e a k m=>pN 2 k z fun a k=>nn (wp_ret (fS h k m z z)))))
theorem c_impl_Volume (fu:Nat) {w0:World} (Ac:Int) (h2:Int) (d3:Int)  {r:Int}
    (h:d_impl_Volume fu Ac h2 d3 = some r) :
    Calls Tryz.prog 63 #[I Ac,I h2,I d3] w0 fun e w=>e = .returned (I r) ∧ Ext [] w0 w:=by
 refine enter (vs:=[_,_,_]) func63 z ntmps63 z fun a k=>?_
 have m:=St.start w0
 unfold d_impl_Volume at h
 refine wr (pN 1 k z fun a k=>nn (c_cut (fun a w=>K 25 [(0,I Ac),(1,I h2),(2,I d3)] a ∧ St [] w0 w [] ∧ d_impl_Volume_J1 fu Ac h2 d3 = some r) ?_ ?_))
 · rintro a Am ⟨k,m,h⟩
   unfold d_impl_Volume_J1 at h
   refine wr (pN 6 k z fun a k=>nn (wp_ret (fS h k m z z)))
 refine wr (pN 1 k z fun a k=>oE h fun Ah Ae h=>cE k m call148 z z z (c_impl_in fu _ _ _  Ae) fun Ao e a k m=>pN 2 k z fun a k=>bsplit (!Ah) (fun Aa=>?_) (fun Aa=>?_))
 · have h:=bif_t Aa h
   refine rB k 10 z Aa fun k=>pN 9 k z fun a k=>nn (wp_cond_true (k.ev z) (wr (pN 1 k z fun a k=>nn (wp_ret (rt_then ?_)))))
   refine fS h k m z z
 have h:=bif_f Aa h
 refine rB k 10 z Aa fun k=>pN 1 k z fun a k=>oE h fun Ad Ai h=>cE k m call148 z z z (c_impl_in fu _ _ _  Ai) fun Aj e a k m=>pN 3 k z fun a k=>bsplit (!Ad) (fun Ab=>?_) (fun Ab=>?_)
 · have h:=bif_t Ab h
   refine rB k 15 z Ab fun k=>pN 4 k z fun a k=>nn (wp_cond_true (k.ev z) (wr (pN 1 k z fun a k=>nn (wp_ret (rt_then ?_)))))
   refine fS h k m z z
 have h:=bif_f Ab h
 refine rB k 15 z Ab fun k=>pN 1 k z fun a k=>oE h fun Ak Ag h=>cE k m call148 z z z (c_impl_in fu _ _ _  Ag) fun Al e a k m=>pN 2 k z fun a k=>nn (cI h k z (fun Af h=>?_) fun Af h=>?_)
 · refine wr (pN 1 k z fun a k=>nn (wp_ret (rt_then ?_)))
   refine fS h k m z z
 refine wp_skip (nm_then ?_)
 exact ⟨k.keep [0,1,2] z,m.sel [] z (by decide),h⟩
theorem c_impl_VolumeOf (fu:Nat) {w0:World} (r1:Request) (Aq:List Int) {Ak:List Value} {F3:List Nat} (As:rd w0 F3 Ak r1) {v6:Value} {F7:List Nat} (Aj:rd w0 F7 [v6] Aq) {r:Int}
    (h:d_impl_VolumeOf fu r1 Aq = some r) :
    Calls Tryz.prog 62 #[.agg Ak.toArray,v6] w0 fun e w=>e = .returned (I r) ∧ Ext [] w0 w:=by
 refine enter (vs:=[_,_]) func62 z ntmps62 z fun a k=>?_
 have m:=St.start w0
 obtain ⟨v9,Bi,Al,Be,Ag,Bd,rfl,rfl,Am,Ao,Af⟩:=As
 unfold d_impl_VolumeOf at h
 refine wr (s_box (cs:=[I r1.fWay,I r1.fPallet.fW,I r1.fPallet.fD,I r1.fPallet.fH,I r1.fPallet.fGram,I r1.fClasses,v9,Al,I r1.fMaster,Ag]) m k z z z z z z fun Bk Bh a k m e Au=>pN 1 k z fun a k=>nn (wr (pN 1 k z fun a k=>nn (wp_seq (wr (sv k z (r_ldB ta30 m 0 Au 0 k z z z z z z) fun a k=>pN 1 k z fun a k=>oE h fun Ah Ay h=>?_))))))
 refine s_call k call76 z z z z z (c_impl_itemsOf fu _ _ (show rd _ _ [I r1.fWay,I r1.fPallet.fW,I r1.fPallet.fD,I r1.fPallet.fH,I r1.fPallet.fGram,I r1.fClasses,v9,Al,I r1.fMaster,Ag] (r1:Request) from ⟨_,_,_,_,_,_,z,z,(Enc.rd_agr Am (m.a00 (Enc.rd_lt Am))),(Enc.rd_agr Ao (m.a00 (Enc.rd_lt Ao))),(Enc.rd_agr Af (m.a00 (Enc.rd_lt Af)))⟩) (Enc.rd_agr Aj (m.a00 (Enc.rd_lt Aj))) Ay) fun Bc Aw hR=>?_
 obtain ⟨Ar,Ai,rfl,e,Ab,At⟩:=hR
 refine ⟨_,z,fun a k=>?_⟩
 have m:=m.new e Ai (fun b hb=>⟨At b hb,Enc.rd_lt (Enc.ow_rd Ab) b hb⟩) (Enc.ow_nd Ab)
 refine sv k z (r_len (α:=Item) (Enc.ow_rd Ab) k underlying28 z z) fun a k=>pN 1 k z fun a k=>nn (wp_block (c_loop (fun n a w=>∃ (Ac:Int) (Ad:Int),K 27 [(5,I Ac),(10,Ar),(11,I ((Ah.length:Int))),(12,I Ad)] a ∧ St [] w0 w [(Ai,Aw)] ∧ d_impl_VolumeOf_L1 fu Ah n Ac Ad = some r) ?_ ?_ fu _ _ ?_))
 · rintro a w ⟨_,_,_,_,h⟩
   exact nS h
 · rintro Bl a Bb ⟨Ac,Ad,k,m,h⟩
   rw [d_impl_VolumeOf_L1_s] at h
   unfold d_impl_VolumeOf_L1_B at h
   refine wr (pN 1 k z fun a k=>nn (wp_seq (cI h k z (fun Av h=>?_) fun Av h=>?_)))
   · refine wp_skip (nm_then ?_)
     refine wp_seq (wp_block (wr (oE h fun Aa Ap h=>sv k z (r_ixa (Enc.ow_rd Ab) Ap k ts28 z z z) fun a k=>sv k z (r_lde (Enc.ow_rd Ab) (m.a 0 z) Ap ta97 k z z) fun a k=>s_alloc (cs:=[I 0,I 0,I 0,I 0,I 0,I 0,I 0]) m k zeroValue97 z z z z z fun Bg Bj a k m e Ax=>s_stb (cs':=[I Aa.fId,I Aa.fW,I Aa.fH,I Aa.fD,I Aa.fGram,I Aa.fClass,I Aa.fCount]) sizeOf97 m 0 Ax 0 k z z z z z z z z z z z fun Bf a k e m Ae=>nn (wp_region_lit (pN 1 k z fun a k=>sv k z (r_fa fa97_1 k z z) fun a k=>sv k z (r_ldb t13 m 0 Ae 1 k z z z z z) fun a k=>sv k z (r_fa fa97_2 k z z) fun a k=>?_)))))
     refine sv k z (r_ldb t13 m 0 Ae 2 k z z z z z) fun a k=>sv k z (r_fa fa97_3 k z z) fun a k=>sv k z (r_ldb t13 m 0 Ae 3 k z z z z z) fun a k=>oE h fun Ba Az h=>cE k m call63 z z z (c_impl_Volume fu _ _ _  Az) fun Bm e a k m=>pN 2 k z fun a k=>wpList_nil (nm_block (nm_then ?_))
     refine wp_region_lit (pN 2 k z fun a k=>nn ?_)
     exact ⟨w64 (Ac + Ba),w64 (Ad + 1),k.keep [5,10,11,12] z,m.sel [1] z (by decide),h⟩
   refine wp_exit (ex_then (ex_then (ex_same (nm_then ?_))))
   refine wr (pN 2 k z fun a k=>nn (wp_ret (fS h k m z z)))
 exact ⟨0,0,k.keep [5,10,11,12] z,m.sel [0] z (by decide),h⟩
theorem c_impl_GramOf (fu:Nat) {w0:World} (r1:Request) (Ao:List Int) {Aj:List Value} {F3:List Nat} (Ar:rd w0 F3 Aj r1) {v6:Value} {F7:List Nat} (Ai:rd w0 F7 [v6] Ao) {r:Int}
    (h:d_impl_GramOf fu r1 Ao = some r) :
    Calls Tryz.prog 166 #[.agg Aj.toArray,v6] w0 fun e w=>e = .returned (I r) ∧ Ext [] w0 w:=by
 refine enter (vs:=[_,_]) func166 z ntmps166 z fun a k=>?_
 have m:=St.start w0
 obtain ⟨v9,Bh,Ak,Bc,Af,Bb,rfl,rfl,Al,Am,Ae⟩:=Ar
 unfold d_impl_GramOf at h
 refine wr (s_box (cs:=[I r1.fWay,I r1.fPallet.fW,I r1.fPallet.fD,I r1.fPallet.fH,I r1.fPallet.fGram,I r1.fClasses,v9,Ak,I r1.fMaster,Af]) m k z z z z z z fun Bi Bf a k m e Au=>pN 1 k z fun a k=>nn (wr (pN 1 k z fun a k=>nn (wp_seq (wr (sv k z (r_ldB ta30 m 0 Au 0 k z z z z z z) fun a k=>pN 1 k z fun a k=>oE h fun Ag Aw h=>?_))))))
 refine s_call k call76 z z z z z (c_impl_itemsOf fu _ _ (show rd _ _ [I r1.fWay,I r1.fPallet.fW,I r1.fPallet.fD,I r1.fPallet.fH,I r1.fPallet.fGram,I r1.fClasses,v9,Ak,I r1.fMaster,Af] (r1:Request) from ⟨_,_,_,_,_,_,z,z,(Enc.rd_agr Al (m.a00 (Enc.rd_lt Al))),(Enc.rd_agr Am (m.a00 (Enc.rd_lt Am))),(Enc.rd_agr Ae (m.a00 (Enc.rd_lt Ae)))⟩) (Enc.rd_agr Ai (m.a00 (Enc.rd_lt Ai))) Aw) fun Ba Av hR=>?_
 obtain ⟨Aq,Ah,rfl,e,Ab,As⟩:=hR
 refine ⟨_,z,fun a k=>?_⟩
 have m:=m.new e Ah (fun b hb=>⟨As b hb,Enc.rd_lt (Enc.ow_rd Ab) b hb⟩) (Enc.ow_nd Ab)
 refine sv k z (r_len (α:=Item) (Enc.ow_rd Ab) k underlying28 z z) fun a k=>pN 1 k z fun a k=>nn (wp_block (c_loop (fun n a w=>∃ (Ac:Int) (Ad:Int),K 22 [(5,I Ac),(10,Aq),(11,I ((Ag.length:Int))),(12,I Ad)] a ∧ St [] w0 w [(Ah,Av)] ∧ d_impl_GramOf_L1 fu Ag n Ac Ad = some r) ?_ ?_ fu _ _ ?_))
 · rintro a w ⟨_,_,_,_,h⟩
   exact nS h
 · rintro Az a Bg ⟨Ac,Ad,k,m,h⟩
   rw [d_impl_GramOf_L1_s] at h
   unfold d_impl_GramOf_L1_B at h
   refine wr (pN 1 k z fun a k=>nn (wp_seq (cI h k z (fun At h=>?_) fun At h=>?_)))
   · refine wp_skip (nm_then ?_)
     refine wp_seq (wp_block (wr (oE h fun Aa Ap h=>sv k z (r_ixa (Enc.ow_rd Ab) Ap k ts28 z z z) fun a k=>sv k z (r_lde (Enc.ow_rd Ab) (m.a 0 z) Ap ta97 k z z) fun a k=>s_alloc (cs:=[I 0,I 0,I 0,I 0,I 0,I 0,I 0]) m k zeroValue97 z z z z z fun Be Bd a k m e Ax=>s_stb (cs':=[I Aa.fId,I Aa.fW,I Aa.fH,I Aa.fD,I Aa.fGram,I Aa.fClass,I Aa.fCount]) sizeOf97 m 0 Ax 0 k z z z z z z z z z z z fun Bj a k e m Ay=>nn (wp_region_lit (pN 1 k z fun a k=>sv k z (r_fa fa97_4 k z z) fun a k=>sv k z (r_ldb t13 m 0 Ay 4 k z z z z z) fun a k=>pN 2 k z fun a k=>wpList_nil (nm_block (nm_then ?_)))))))
     refine wp_region_lit (pN 2 k z fun a k=>nn ?_)
     exact ⟨w64 (Ac + Aa.fGram),w64 (Ad + 1),k.keep [5,10,11,12] z,m.sel [1] z (by decide),h⟩
   refine wp_exit (ex_then (ex_then (ex_same (nm_then ?_))))
   refine wr (pN 2 k z fun a k=>nn (wp_ret (fS h k m z z)))
 exact ⟨0,0,k.keep [5,10,11,12] z,m.sel [0] z (by decide),h⟩
theorem c_impl_within (fu:Nat) {w0:World} (r1:Request) (Ak:List Int) (t9:Typ) {Al:List Value} {F3:List Nat} (Ao:rd w0 F3 Al r1) {v6:Value} {F7:List Nat} (Ad:rd w0 F7 [v6] Ak) {r:Bool}
    (h:d_impl_within fu r1 Ak t9 = some r) :
    Calls Tryz.prog 79 #[.agg Al.toArray,v6,.agg (Flat.e (t9)).toArray] w0 fun e w=>e = .returned (.bool (r)) ∧ Ext [] w0 w:=by
 refine enter (vs:=[_,_,_]) func79 z ntmps79 z fun a k=>?_
 have m:=St.start w0
 obtain ⟨Ag,Au,Ai,Ba,Ah,Bc,rfl,rfl,Af,Ab,Ae⟩:=Ao
 unfold d_impl_within at h
 refine wr (s_box (cs:=[I r1.fWay,I r1.fPallet.fW,I r1.fPallet.fD,I r1.fPallet.fH,I r1.fPallet.fGram,I r1.fClasses,Ag,Ai,I r1.fMaster,Ah]) m k z z z z z z fun Ax Av a k m e Aj=>s_box (cs:=[I t9.fId,I t9.fW,I t9.fH,I t9.fD,I t9.fTare,I t9.fGram,I t9.fCost]) m k z z z z z z fun Bb Ay a k m e Ac=>pN 1 k z fun a k=>nn (wp_seq (d_go [] mixo m z fun Am hMd=>?_)))
 have m:=hMd
 have s:=Ext.refl ([]:List Nat) Am
 refine dN [1] 1 z k (by kernel_rfl) z s (fun _ _ _ _ _=>id) fun a k=>dt k 0 z (by kernel_rfl) z s (fun _ _ _=>id) (fun w s=>r_ldA ta30 (Aj.at ((hMd.step s).a 1 z) 0 10 z z z) z k z z) fun a k=>dt k 3 z (by kernel_rfl) z s (fun _ _ _=>id) (fun w s=>r_fa fa38_1 k z z) fun a k=>dt k 4 z (by kernel_rfl) z s (fun _ _ _=>id) (fun w s=>r_ld1 t13 (r:=[]) (Ac.at ((hMd.step s).a 0 z) 1 1 z z z) k z z) fun a k=>dt k 5 z (by kernel_rfl) z s (fun _ _ _=>id) (fun w s=>r_fa fa38_2 k z z) fun a k=>dt k 6 z (by kernel_rfl) z s (fun _ _ _=>id) (fun w s=>r_ld1 t13 (r:=[]) (Ac.at ((hMd.step s).a 0 z) 2 1 z z z) k z z) fun a k=>dt k 7 z (by kernel_rfl) z s (fun _ _ _=>id) (fun w s=>r_fa fa38_3 k z z) fun a k=>?_
 refine dt k 8 z (by kernel_rfl) z s (fun _ _ _=>id) (fun w s=>r_ld1 t13 (r:=[]) (Ac.at ((hMd.step s).a 0 z) 3 1 z z z) k z z) fun a k=>d_one 2 (by kernel_rfl) z (oE h fun At Aq h=>cE k m call62 z z z (c_impl_VolumeOf fu _ _ (show rd _ _ [I r1.fWay,I r1.fPallet.fW,I r1.fPallet.fD,I r1.fPallet.fH,I r1.fPallet.fGram,I r1.fClasses,Ag,Ai,I r1.fMaster,Ah] (r1:Request) from ⟨_,_,_,_,_,_,z,z,(Enc.rd_agr Af (m.a00 (Enc.rd_lt Af))),(Enc.rd_agr Ab (m.a00 (Enc.rd_lt Ab))),(Enc.rd_agr Ae (m.a00 (Enc.rd_lt Ae)))⟩) (Enc.rd_agr Ad (m.a00 (Enc.rd_lt Ad))) Aq) fun Be e a k m=>?_)
 have s:=s.trans e (by simp)
 refine wpList_nil ⟨s,?_⟩
 refine d_one 9 (by kernel_rfl) z (oE h fun Ar As h=>cE k m call63 z z z (c_impl_Volume fu _ _ _  As) fun Aw e a k m=>?_)
 have s:=s.trans e (by simp)
 refine wpList_nil ⟨s,?_⟩
 refine dN [10,11] 2 z k (by kernel_rfl) z s (fun _ _ _ _ _=>id) fun a k=>bsplit (decide (At ≤ Ar)) (fun Aa=>?_) (fun Aa=>?_)
 · have h:=bif_t Aa h
   refine rB k 18 z Aa fun k=>dN [13] 1 z k (by kernel_rfl) z s (fun _ _ _ _ _=>id) fun a k=>dt k 12 z (by kernel_rfl) z s (fun _ _ _=>id) (fun w s=>r_ldA ta30 (Aj.at ((hMd.step s).a 1 z) 0 10 z z z) z k z z) fun a k=>dt k 15 z (by kernel_rfl) z s (fun _ _ _=>id) (fun w s=>r_fa fa38_5 k z z) fun a k=>dt k 16 z (by kernel_rfl) z s (fun _ _ _=>id) (fun w s=>r_ld1 t13 (r:=[]) (Ac.at ((hMd.step s).a 0 z) 5 1 z z z) k z z) fun a k=>d_one 14 (by kernel_rfl) z (oE h fun Bd Ap h=>?_)
   refine cE k m call166 z z z (c_impl_GramOf fu _ _ (show rd _ _ [I r1.fWay,I r1.fPallet.fW,I r1.fPallet.fD,I r1.fPallet.fH,I r1.fPallet.fGram,I r1.fClasses,Ag,Ai,I r1.fMaster,Ah] (r1:Request) from ⟨_,_,_,_,_,_,z,z,(Enc.rd_agr Af (m.a00 (Enc.rd_lt Af))),(Enc.rd_agr Ab (m.a00 (Enc.rd_lt Ab))),(Enc.rd_agr Ae (m.a00 (Enc.rd_lt Ae)))⟩) (Enc.rd_agr Ad (m.a00 (Enc.rd_lt Ad))) Ap) fun Az e a k m=>?_
   have s:=s.trans e (by simp)
   refine wpList_nil ⟨s,?_⟩
   refine dN [17,18,19] 3 z k (by kernel_rfl) z s (fun _ _ _ _ _=>id) fun a k=>d_done (by kernel_rfl) ((nm_then ?_))
   refine wp_ret (fS h k m z z)
 have h:=bif_f Aa h
 refine rB k 18 z Aa fun k=>dN [12,13,14,15,16,17,18,19] 8 z k (by kernel_rfl) z s (fun _ _ _ _ _=>id) fun a k=>d_done (by kernel_rfl) ((nm_then ?_))
 refine wp_ret (fS h k m z z)
theorem c_impl_Holds (fu:Nat) {w0:World} (r1:Request) (Al:List Int) (t9:Typ) {Ar:List Value} {F3:List Nat} (Au:rd w0 F3 Ar r1) {v6:Value} {F7:List Nat} (Ad:rd w0 F7 [v6] Al) {r:Bool}
    (h:d_impl_Holds fu r1 Al t9 = some r) :
    Calls Tryz.prog 20 #[.agg Ar.toArray,v6,.agg (Flat.e (t9)).toArray] w0 fun e w=>e = .returned (.bool (r)) ∧ Ext [] w0 w:=by
 refine enter (vs:=[_,_,_]) func20 z ntmps20 z fun a k=>?_
 have m:=St.start w0
 obtain ⟨Ae,Bi,Ag,Bs,Af,Bt,rfl,rfl,Ac,Aa,Ab⟩:=Au
 unfold d_impl_Holds at h
 refine wr (s_box (cs:=[I r1.fWay,I r1.fPallet.fW,I r1.fPallet.fD,I r1.fPallet.fH,I r1.fPallet.fGram,I r1.fClasses,Ae,Ag,I r1.fMaster,Af]) m k z z z z z z fun Aq Aw a k m e Aj=>s_box (cs:=[I t9.fId,I t9.fW,I t9.fH,I t9.fD,I t9.fTare,I t9.fGram,I t9.fCost]) m k z z z z z z fun Ao Bd a k m e Ap=>pN 1 k z fun a k=>nn (c_cut (fun a w=>K 31 [(1,v6),(3,.pointer (some (⟨Aq,0,none⟩:Addr))),(5,.pointer (some (⟨Ao,0,none⟩:Addr)))] a ∧ St [] w0 w [([Aq],Aw),([Ao],Bd)] ∧ d_impl_Holds_J1 fu r1 Al t9 = some r) ?_ ?_))
 · rintro a Br ⟨k,m,h⟩
   unfold d_impl_Holds_J1 at h
   refine wr (sv k z (r_ldB ta30 m 0 Aj 0 k z z z z z z) fun a k=>pN 1 k z fun a k=>oE h fun Bm Be h=>s_call k call76 z z z z z (c_impl_itemsOf fu _ _ (show rd _ _ [I r1.fWay,I r1.fPallet.fW,I r1.fPallet.fD,I r1.fPallet.fH,I r1.fPallet.fGram,I r1.fClasses,Ae,Ag,I r1.fMaster,Af] (r1:Request) from ⟨_,_,_,_,_,_,z,z,(Enc.rd_agr Ac (m.a00 (Enc.rd_lt Ac))),(Enc.rd_agr Aa (m.a00 (Enc.rd_lt Aa))),(Enc.rd_agr Ab (m.a00 (Enc.rd_lt Ab)))⟩) (Enc.rd_agr Ad (m.a00 (Enc.rd_lt Ad))) Be) fun By Bw hR=>?_)
   obtain ⟨Bu,Az,rfl,e,Ak,Bh⟩:=hR
   refine ⟨_,z,fun a k=>?_⟩
   have m:=m.new e Az (fun b hb=>⟨Bh b hb,Enc.rd_lt (Enc.ow_rd Ak) b hb⟩) (Enc.ow_nd Ak)
   refine pN 1 k z fun a k=>oE h fun Av At h=>cE k m call75 z z z (c_slices_ContainsFunc_impl_Item_impl_Item fu _ _ (Enc.rd_agr (Enc.ow_rd Ak) (m.a 0 z)) ⟨77,[.pointer (some (⟨Ao,0,none⟩:Addr))],z,call77,fun w Bx Bj r e Ax hx=>by subst Ax; have m:=m.step e; exact c_impl_Holds_1 fu _ _ (Ap.agr (m.a 2 rfl) (by simp)) hx⟩ At) fun Bo e a k m=>pN 2 k rfl fun a k=>bsplit (!Av) (fun Ah=>?_) (fun Ah=>?_)
   · have h:=bif_t Ah h
     refine rB k 25 z Ah fun k=>sv k z (r_ldB ta30 m 1 Aj 0 k z z z z z z) fun a k=>pN 1 k z fun a k=>sv k z (r_ldB ta38 m 2 Ap 0 k z z z z z z) fun a k=>oE h fun Bz Bg h=>cE k m call79 z z z (c_impl_within fu _ _ (t9:Typ) (show rd _ _ [I r1.fWay,I r1.fPallet.fW,I r1.fPallet.fD,I r1.fPallet.fH,I r1.fPallet.fGram,I r1.fClasses,Ae,Ag,I r1.fMaster,Af] (r1:Request) from ⟨_,_,_,_,_,_,z,z,(Enc.rd_agr Ac (m.a00 (Enc.rd_lt Ac))),(Enc.rd_agr Aa (m.a00 (Enc.rd_lt Aa))),(Enc.rd_agr Ab (m.a00 (Enc.rd_lt Ab)))⟩) (Enc.rd_agr Ad (m.a00 (Enc.rd_lt Ad))) Bg) fun Bv e a k m=>pN 2 k z fun a k=>nn (wp_ret (fS h k m z z))
   have h:=bif_f Ah h
   refine rB k 25 z Ah fun k=>pN 6 k z fun a k=>nn (wp_ret (fS h k m z z))
 refine wr (sv k z (r_ldB ta30 m 1 Aj 0 k z z z z z z) fun a k=>oE h fun Ay Ba h=>cE k m call61 z z z (c_impl_sound fu _ (show rd _ _ [I r1.fWay,I r1.fPallet.fW,I r1.fPallet.fD,I r1.fPallet.fH,I r1.fPallet.fGram,I r1.fClasses,Ae,Ag,I r1.fMaster,Af] (r1:Request) from ⟨_,_,_,_,_,_,z,z,(Enc.rd_agr Ac (m.a00 (Enc.rd_lt Ac))),(Enc.rd_agr Aa (m.a00 (Enc.rd_lt Aa))),(Enc.rd_agr Ab (m.a00 (Enc.rd_lt Ab)))⟩) Ba) fun Bl e a k m=>pN 2 k z fun a k=>bsplit (!Ay) (fun Ai=>?_) (fun Ai=>?_))
 · have h:=bif_t Ai h
   refine rB k 10 z Ai fun k=>pN 8 k z fun a k=>nn (wp_cond_true (k.ev z) (wr (pN 1 k z fun a k=>nn (wp_ret (rt_then ?_)))))
   refine fS h k m z z
 have h:=bif_f Ai h
 refine rB k 10 z Ai fun k=>sv k z (r_ldB ta30 m 1 Aj 0 k z z z z z z) fun a k=>pN 1 k z fun a k=>oE h fun Bq Bc h=>s_call k call74 z z z z z (c_impl_thereOf fu _ _ (show rd _ _ [I r1.fWay,I r1.fPallet.fW,I r1.fPallet.fD,I r1.fPallet.fH,I r1.fPallet.fGram,I r1.fClasses,Ae,Ag,I r1.fMaster,Af] (r1:Request) from ⟨_,_,_,_,_,_,z,z,(Enc.rd_agr Ac (m.a00 (Enc.rd_lt Ac))),(Enc.rd_agr Aa (m.a00 (Enc.rd_lt Aa))),(Enc.rd_agr Ab (m.a00 (Enc.rd_lt Ab)))⟩) (Enc.rd_agr Ad (m.a00 (Enc.rd_lt Ad))) Bc) fun Bk Bn hR=>?_
 obtain ⟨Bp,Bf,rfl,e,Am,Bb⟩:=hR
 refine ⟨_,z,fun a k=>?_⟩
 have m:=m.new e Bf (fun b hb=>⟨Bb b hb,Enc.rd_lt (Enc.ow_rd Am) b hb⟩) (Enc.ow_nd Am)
 refine sv k z (r_len (α:=Int) (Enc.ow_rd Am) k underlying31 z z) fun a k=>pN 1 k z fun a k=>sv k z (r_len (α:=Int) Ad k underlying31 z z) fun a k=>pN 2 k z fun a k=>nn (cI h k z (fun As h=>?_) fun As h=>?_)
 · refine wr (pN 1 k z fun a k=>nn (wp_ret (rt_then ?_)))
   refine fS h k m z z
 refine wp_skip (nm_then ?_)
 exact ⟨k.keep [1,3,5] z,m.sel [2,1] z (by decide),h⟩
theorem c_slices_Compact_int_int (fu:Nat) {w0:World} (x1:List Int) {v2:Value} {F3:List Nat} (Aa:ow w0 F3 [v2] x1) {r:List Int}
    (h:d_slices_Compact_int_int fu x1 = some r) :
    Calls Tryz.prog 306 #[v2] w0 fun e w=>∃ (v0:Value) (G0:List Nat),e = .returned v0 ∧ Ext F3 w0 w ∧ ow w G0 [v0] r ∧ (∀ b ∈ G0,b ∈ F3 ∨ w0.heap.size ≤ b) :=
  c_compactInt (fun blk off cap zs w=>Tryz.slices_Compact_int blk off cap zs w) (fun p cap w=>Tryz.slices_Compact_int_empty p cap w) x1 Aa h

theorem c_impl_kinds (fu:Nat) {w0:World} (Ae:List Int) {v2:Value} {F3:List Nat} (Ad:rd w0 F3 [v2] Ae) {r:(List Int)}
    (h:d_impl_kinds fu Ae = some r) :
    Calls Tryz.prog 290 #[v2] w0 fun e w=>∃ (v0:Value) (G0:List Nat),e = .returned (v0) ∧ Ext [] w0 w ∧ ow w G0 [v0] r ∧ (∀ b ∈ G0,w0.heap.size ≤ b):=by
 refine enter (vs:=[_]) func290 z ntmps290 z fun a k=>?_
 have m:=St.start w0
 unfold d_impl_kinds at h
 refine wr (pN 1 k z fun a k=>nn (wr (pN 1 k z fun a k=>oE h fun x5 Ah h=>s_call k call145 z z z z z (c_slices_Clone_int_int fu _ (Enc.rd_agr Ad (m.a00 (Enc.rd_lt Ad))) Ah) fun e7 w9 hR=>?_)))
 obtain ⟨Aq,Aj,rfl,e,Aa,Am⟩:=hR
 refine ⟨_,z,fun a k=>?_⟩
 have m:=m.new e Aj (fun b hb=>⟨Am b hb,Enc.rd_lt (Enc.ow_rd Aa) b hb⟩) (Enc.ow_nd Aa)
 refine pN 1 k z fun a k=>nn (wr (pN 1 k z fun a k=>oE h fun Av Ag h=>s_call k call124 z z z z z (c_slices_Sort_int_int fu _ (Enc.ow_agr Aa (m.a 0 z)) Ag) fun Au Aw hR=>?_))
 obtain ⟨At,rfl,e,Ai,Ab⟩:=hR
 refine ⟨_,z,fun a k=>?_⟩
 have m:=m.mut 0 z e _ (fun b hb=>⟨Ai b hb,Enc.rd_lt (Enc.ow_rd Ab) b hb⟩) (Enc.ow_nd Ab)
 refine nn (wr (pN 1 k z fun a k=>oE h fun Ar Ak h=>s_call k call306 z z z z z (c_slices_Compact_int_int fu _ (Enc.ow_agr Ab (m.a 0 z)) Ak) fun As Ap hR=>?_))
 obtain ⟨Ao,Al,rfl,e,Ac,Af⟩:=hR
 refine ⟨_,z,fun a k=>?_⟩
 have m:=m.mut 0 z e _ (fun b hb=>⟨Af b hb,Enc.rd_lt (Enc.ow_rd Ac) b hb⟩) (Enc.ow_nd Ac)
 refine pN 1 k z fun a k=>nn (wp_ret ?_)
 cases h
 exact finR1 k z (RV.tmp k z) ⟨_,Al,z,m.ext,(Enc.ow_agr Ac (m.a 0 z)),(m.fresh 0 z)⟩
theorem c_impl_Present (fu:Nat) {w0:World} (r1:Request) {Ap:List Value} {F3:List Nat} (At:rd w0 F3 Ap r1) {r:(List Int)}
    (h:d_impl_Present fu r1 = some r) :
    Calls Tryz.prog 256 #[.agg Ap.toArray] w0 fun e w=>∃ (v0:Value) (G0:List Nat),e = .returned (v0) ∧ Ext [] w0 w ∧ ow w G0 [v0] r ∧ (∀ b ∈ G0,w0.heap.size ≤ b):=by
 refine enter (vs:=[_]) func256 z ntmps256 z fun a k=>?_
 have m:=St.start w0
 obtain ⟨v5,F6,v7,F8,v9,Bq,rfl,rfl,Ai,Am,Ab⟩:=At
 unfold d_impl_Present at h
 refine wr (s_box (cs:=[I r1.fWay,I r1.fPallet.fW,I r1.fPallet.fD,I r1.fPallet.fH,I r1.fPallet.fGram,I r1.fClasses,v5,v7,I r1.fMaster,v9]) m k z z z z z z fun Bn Bs a k m e Al=>pN 1 k z fun a k=>nn (wp_seq (wr (sv k z (r_ldB ta30 m 0 Al 0 k z z z z z z) fun a k=>oE h fun Br Ar h=>cE k m call61 z z z (c_impl_sound fu _ (show rd _ _ [I r1.fWay,I r1.fPallet.fW,I r1.fPallet.fD,I r1.fPallet.fH,I r1.fPallet.fGram,I r1.fClasses,v5,v7,I r1.fMaster,v9] (r1:Request) from ⟨_,_,_,_,_,_,z,z,(Enc.rd_agr Ai (m.a00 (Enc.rd_lt Ai))),(Enc.rd_agr Am (m.a00 (Enc.rd_lt Am))),(Enc.rd_agr Ab (m.a00 (Enc.rd_lt Ab)))⟩) Ar) fun Bp e a k m=>?_))))
 refine pN 1 k z fun a k=>nn (cI h k z (fun Bd h=>?_) fun Bd h=>?_)
 · refine wr (pN 1 k z fun a k=>nn (wp_ret (rt_then ?_)))
   cases h
   exact finR1 k z (RV.tmp k z) ⟨_,[],z,m.ext,(ow_nil _),(by simp)⟩
 refine wp_skip (nm_then ?_)
 refine wr (s_bs (cs:=[]) (ps:=[]) te31 m k z z z z z z z (by decide) z (by exact (List.forall_mem_nil _)) fun Aj Aw Bt a k m e Bh=>?_)
 have Ax:=ow_bx Bh ([]:List Int) z z z
 refine pN 1 k z fun a k=>nn (wp_seq (wr (sv k z (r_fa fa30_6 k z z) fun a k=>sv k z (r_ldb t128 m 1 Al 9 k z z z z z) fun a k=>sv k z (r_len (α:=Item) Ab k underlying28 z z) fun a k=>pN 1 k z fun a k=>nn (wp_block (c_loop (fun n a w=>∃ (Ad:List Int) (Af:Value) (Ah:List Nat) (Ag:World) (Ac:Int),K 25 [(3,Af),(11,v9),(12,I ((r1.fItems.length:Int))),(13,I Ac)] a ∧ St [] w0 w [(Ah,Ag)] ∧ ow Ag Ah [Af] Ad ∧ d_impl_Present_L1 fu r1 n Ad Ac = some r) ?_ ?_ fu _ _ ?_)))))
 · rintro a w ⟨_,_,_,_,_,_,_,_,h⟩
   exact nS h
 · rintro Bl a Cb ⟨Ad,Af,Ah,Ag,Ac,k,m,Aq,h⟩
   rw [d_impl_Present_L1_s] at h
   unfold d_impl_Present_L1_B at h
   refine wr (pN 1 k z fun a k=>nn (wp_seq (cI h k z (fun Bi h=>?_) fun Bi h=>?_)))
   · refine wp_skip (nm_then ?_)
     refine wp_seq (wp_block (wr (oE h fun Aa Ak h=>sv k z (r_ixa Ab Ak k ts28 z z z) fun a k=>sv k z (r_lde Ab (m.a00 (Enc.rd_lt Ab)) Ak ta97 k z z) fun a k=>s_alloc (cs:=[I 0,I 0,I 0,I 0,I 0,I 0,I 0]) m k zeroValue97 z z z z z fun Bm Bz a k m e Bg=>s_stb (cs':=[I Aa.fId,I Aa.fW,I Aa.fH,I Aa.fD,I Aa.fGram,I Aa.fClass,I Aa.fCount]) sizeOf97 m 0 Bg 0 k z z z z z z z z z z z fun Bk a k e m Bb=>nn (wp_region_lit (pN 1 k z fun a k=>sv k z (r_fa fa97_5 k z z) fun a k=>sv k z (r_ldb t13 m 0 Bb 5 k z z z z z) fun a k=>?_)))))
     refine s_bs (cs:=[I Aa.fClass]) (ps:=[(0,.tmp 19)]) te31 m k z z z z z z z (by decide) z (by exact (List.forall_mem_cons.2 ⟨z,(List.forall_mem_nil _)⟩)) fun Bw Bo Bv a k m e Be=>?_
     have Ay:=ow_bx Be ([Aa.fClass]:List Int) z z z
     refine oE h fun Bc As h=>s_appF As te31 z m 2 Aq (News.rd (Enc.rd_agr (Enc.ow_rd Ay) (m.a 0 z))) z z k z z z z z z z fun Ba Az Bf a k e m Au=>pN 1 k z fun a k=>wpList_nil (nm_block (nm_then ?_))
     refine wp_region_lit (pN 2 k z fun a k=>nn ?_)
     exact ⟨Bc,Ba,Az,Bf,w64 (Ac + 1),k.keep [3,11,12,13] z,m.sel [2] z (by decide),Au,h⟩
   refine wp_exit (ex_then (ex_then (ex_same (nm_then ?_))))
   refine wr (pN 1 k z fun a k=>oE h fun By Av h=>s_call k call290 z z z z z (c_impl_kinds fu _ (Enc.rd_agr (Enc.ow_rd Aq) (m.a 0 z)) Av) fun Ca Bx hR=>?_)
   obtain ⟨Bu,Ao,rfl,e,Ae,Bj⟩:=hR
   refine ⟨_,z,fun a k=>?_⟩
   have m:=m.new e Ao (fun b hb=>⟨Bj b hb,Enc.rd_lt (Enc.ow_rd Ae) b hb⟩) (Enc.ow_nd Ae)
   refine pN 1 k z fun a k=>nn (wp_ret ?_)
   cases h
   exact finR1 k z (RV.tmp k z) ⟨_,Ao,z,m.ext,(Enc.ow_agr Ae (m.a 0 z)),(m.fresh 0 z)⟩
 exact ⟨([]:List Int),(.slice (some ⟨Aj,0,none⟩) 0 0),[Aj],Aw,0,k.keep [3,11,12,13] z,m.sel [0] z (by decide),Ax,h⟩
theorem c_impl_mutual (fu:Nat) {w0:World} (Ac:List Pair) (a5:Int) (b6:Int) {v2:Value} {F3:List Nat} (Ab:rd w0 F3 [v2] Ac) {r:Bool}
    (h:d_impl_mutual fu Ac a5 b6 = some r) :
    Calls Tryz.prog 248 #[v2,I a5,I b6] w0 fun e w=>e = .returned (.bool (r)) ∧ Ext [] w0 w:=by
 refine enter (vs:=[_,_,_]) func248 z ntmps248 z fun a k=>?_
 have m:=St.start w0
 unfold d_impl_mutual at h
 refine wr (pN 1 k z fun a k=>nn (wr (pN 3 k z fun a k=>oE h fun x7 Ad h=>cE k m call285 z z z (c_impl_Beside fu _ _ _ (Enc.rd_agr Ab (m.a00 (Enc.rd_lt Ab))) Ad) fun Ah e a k m=>pN 1 k z fun a k=>bsplit (x7) (fun Aa=>?_) (fun Aa=>?_))))
 · have h:=bif_t Aa h
   refine rB k 11 z Aa fun k=>pN 3 k z fun a k=>oE h fun Af Ae h=>cE k m call285 z z z (c_impl_Beside fu _ _ _ (Enc.rd_agr Ab (m.a00 (Enc.rd_lt Ab))) Ae) fun Ag e a k m=>pN 2 k z fun a k=>nn (wp_ret (fS h k m z z))
 have h:=bif_f Aa h
 refine rB k 11 z Aa fun k=>pN 6 k z fun a k=>nn (wp_ret (fS h k m z z))
theorem c_impl_Groups_1_1 (fu:Nat) {w0:World} (x1:Int) (x2:List Pair) (x8:Int) {v5:Value} {F6:List Nat} {b3:Nat} (Aa:bx w0 b3 [v5] 26) (Ac:rd w0 F6 [v5] x2) {b9:Nat} (Ab:bx w0 b9 [I x8] 3) {r:Bool}
    (h:d_impl_Groups_1_1 fu x1 x2 x8 = some r) :
    Calls Tryz.prog 292 #[I x1,.pointer (some (⟨b3,0,none⟩:Addr)),.pointer (some (⟨b9,0,none⟩:Addr))] w0 fun e w=>e = .returned (.bool (r)) ∧ Ext [] w0 w:=by
 refine enter (vs:=[_,_,_]) func292 z ntmps292 z fun a k=>?_
 have m:=St.start w0
 unfold d_impl_Groups_1_1 at h
 refine wr (pN 1 k z fun a k=>nn (wr (sv k z (r_ld1 t126 (r:=[]) (Aa.at (m.a00 Aa.lt1) 0 1 z z z) k z z) fun a k=>sv k z (r_ld1 t13 (r:=[]) (Ab.at (m.a00 Ab.lt1) 0 1 z z z) k z z) fun a k=>pN 1 k z fun a k=>oE h fun Ae Ad h=>cE k m call248 z z z (c_impl_mutual fu _ _ _ (Enc.rd_agr Ac (m.a00 (Enc.rd_lt Ac))) Ad) fun Af e a k m=>pN 2 k z fun a k=>nn (wp_ret (fS h k m z z)))))
theorem c_slices_ContainsFunc_int_int (fu:Nat) {w0:World} (Aa:List Int) (f5:Int → Option Bool) {v2:Value} {F3:List Nat} (Ab:rd w0 F3 [v2] Aa) {v6:Value} (Ah:FnOk1 Tryz.prog w0 v6 f5) {r:Bool}
    (h:d_slices_ContainsFunc_int_int fu Aa f5 = some r) :
    Calls Tryz.prog 182 #[v2,v6] w0 fun e w=>e = .returned (.bool (r)) ∧ Ext [] w0 w:=by
 refine enter (vs:=[_,_]) func182 z ntmps182 z fun a k=>?_
 have m:=St.start w0
 obtain ⟨Aj,Ak,rfl,Ad,Ae⟩:=Ah
 unfold d_slices_ContainsFunc_int_int at h
 refine wr (pN 1 k z fun a k=>nn (wr (pN 2 k z fun a k=>oE h fun Ai Ac h=>cE k m call239 z z z (c_slices_IndexFunc_int_int fu _ _ (Enc.rd_agr Ab (m.a00 (Enc.rd_lt Ab))) ⟨_,_,z,Ad,fun w Af Ag r e=>Ae w Af Ag r (m.ext.trans e (by simp))⟩ Ac) fun Al e a k m=>pN 2 k z fun a k=>nn (wp_ret (fS h k m z z)))))
theorem c_impl_Groups_1 (fu:Nat) {w0:World} (l1:List Int) (x5:List Pair) (Ac:Int) {v2:Value} {F3:List Nat} (Ad:rd w0 F3 [v2] l1) {v8:Value} {F9:List Nat} {b6:Nat} (Af:bx w0 b6 [v8] 26) (Ae:rd w0 F9 [v8] x5) {Aa:Nat} (Ab:bx w0 Aa [I Ac] 3) {r:Bool}
    (h:d_impl_Groups_1 fu l1 x5 Ac = some r) :
    Calls Tryz.prog 291 #[v2,.pointer (some (⟨b6,0,none⟩:Addr)),.pointer (some (⟨Aa,0,none⟩:Addr))] w0 fun e w=>e = .returned (.bool (r)) ∧ Ext [] w0 w:=by
 refine enter (vs:=[_,_,_]) func291 z ntmps291 z fun a k=>?_
 have m:=St.start w0
 unfold d_impl_Groups_1 at h
 refine wr (pN 1 k z fun a k=>nn (wr (pN 2 k z fun a k=>oE h fun Al Ag h=>cE k m call182 z z z (c_slices_ContainsFunc_int_int fu _ _ (Enc.rd_agr Ad (m.a00 (Enc.rd_lt Ad))) ⟨292,[.pointer (some (⟨b6,0,none⟩:Addr)),.pointer (some (⟨Aa,0,none⟩:Addr))],z,call292,fun w Aj Ak r e Ah hx=>by subst Ah; have m:=m.step e; exact c_impl_Groups_1_1 fu _ _ _ (Af.agr (m.a00 Af.lt1) (by simp)) (Enc.rd_agr Ae (m.a00 (Enc.rd_lt Ae))) (Ab.agr (m.a00 Ab.lt1) (by simp)) hx⟩ Ag) fun Ai e a k m=>pN 2 k rfl fun a k=>nn (wp_ret (fS h k m rfl rfl)))))
theorem c_slices_IndexFunc_ints_int (fu:Nat) {w0:World} (Aa:List (List Int)) (f5:(List Int) → Option Bool) {v2:Value} {F3:List Nat} (Ab:rd w0 F3 [v2] Aa) {v6:Value} (Ao:FnOk1 Tryz.prog w0 v6 f5) {r:Int}
    (h:d_slices_IndexFunc_ints_int fu Aa f5 = some r) :
    Calls Tryz.prog 245 #[v2,v6] w0 fun e w=>e = .returned (I r) ∧ Ext [] w0 w:=by
 refine enter (vs:=[_,_]) func245 z ntmps245 z fun a k=>?_
 have m:=St.start w0
 obtain ⟨Af,Ah,rfl,Am,Ap⟩:=Ao
 unfold d_slices_IndexFunc_ints_int at h
 refine wr (pN 1 k z fun a k=>nn (wp_seq (wr (pN 1 k z fun a k=>sv k z (r_len (α:=List Int) Ab k underlying53 z z) fun a k=>pN 1 k z fun a k=>nn (wp_block (c_loop (fun n a w=>∃ (Ac:Int),K 19 [(0,v2),(1,(.func (.func Af) #[] Ah.toArray)),(7,I ((Aa.length:Int))),(8,I Ac)] a ∧ St [] w0 w [] ∧ d_slices_IndexFunc_ints_int_L1 fu Aa f5 n Ac = some r) ?_ ?_ fu _ _ ?_))))))
 · rintro a w ⟨_,_,_,h⟩
   exact nS h
 · rintro Ax a Ay ⟨Ac,k,m,h⟩
   rw [d_slices_IndexFunc_ints_int_L1_s] at h
   unfold d_slices_IndexFunc_ints_int_L1_B at h
   refine wr (pN 1 k z fun a k=>nn (wp_seq (cI h k z (fun Ai h=>?_) fun Ai h=>?_)))
   · refine wp_skip (nm_then ?_)
     refine wp_seq (wp_block (wr (pN 2 k z fun a k=>nn (wr (pN 3 k z fun a k=>oE h fun At Ae h=>sv k z (r_ixa Ab Ae k ts53 z z z) fun a k=>?_)))))
     obtain ⟨Au,Ag,As,Ad,Aj,Al⟩:=rd_get Ab (ix_some Ae).2.2
     obtain ⟨Aw,rfl⟩:∃ v,Ag = [v]:=by obtain ⟨_,_,hq,_⟩:=Ad; exact ⟨_,hq⟩
     refine sv k z (r_ld1 t131 (Aj.agr (m.a00 (Enc.rd_lt Ab)) Al) k z z) fun a k=>oE h fun Az Aq h=>s_callv k Am z z z z z z (Ap _ _ _ _ m.ext ⟨_,(Enc.rd_agr Ad (m.a00 (Enc.rd_lt Ad)))⟩ Aq) fun Ar Av hR=>?_
     obtain ⟨rfl,e⟩:=hR
     refine ⟨_,z,fun a k=>?_⟩
     have m:=m.step e
     refine nn (cI h k z (fun Ak h=>?_) fun Ak h=>?_)
     · refine wr (pN 2 k z fun a k=>nn (wp_ret (rt_block (rt_then (rt_then (rt_block (rt_then ?_)))))))
       refine fS h k m z z
     refine wp_skip (nm_block (nm_then ?_))
     refine wp_region_lit (pN 2 k z fun a k=>nn ?_)
     exact ⟨w64 (Ac + 1),k.keep [0,1,7,8] z,m.sel [] z (by decide),h⟩
   refine wp_exit (ex_then (ex_then (ex_same (nm_then ?_))))
   refine wr (pN 1 k z fun a k=>nn (wp_ret (fS h k m z z)))
 exact ⟨0,k.keep [0,1,7,8] z,m.sel [] z (by decide),h⟩
theorem c_impl_Groups (fu:Nat) {w0:World} (Aj:List Pair) (Ba:List Int) {v2:Value} {F3:List Nat} (Ay:rd w0 F3 [v2] Aj) {v6:Value} {F7:List Nat} (Bg:rd w0 F7 [v6] Ba) {r:(List (List Int))}
    (h:d_impl_Groups fu Aj Ba = some r) :
    Calls Tryz.prog 255 #[v2,v6] w0 fun e w=>∃ (v0:Value) (G0:List Nat),e = .returned (v0) ∧ Ext [] w0 w ∧ ow w G0 [v0] r ∧ (∀ b ∈ G0,w0.heap.size ≤ b):=by
 refine enter (vs:=[_,_]) func255 z ntmps255 z fun a k=>?_
 have m:=St.start w0
 unfold d_impl_Groups at h
 refine wr (s_box (cs:=[v2]) m k z z z z z (rd_c Ay) fun b9 Am a k m e Bx=>pN 1 k z fun a k=>nn (wr (s_bs (cs:=[]) (ps:=[]) te53 m k z z z z z z z (by decide) z (by exact (List.forall_mem_nil _)) fun Bd Bz Fp a k m e Cs=>?_)))
 have Df:=ow_bx0 (α:=List Int) Cs
 refine pN 1 k z fun a k=>nn (wp_seq (wr (pN 1 k z fun a k=>oE h fun At Cu h=>s_call k call290 z z z z z (c_impl_kinds fu _ (Enc.rd_agr Bg (m.a00 (Enc.rd_lt Bg))) Cu) fun Ey Ak hR=>?_)))
 obtain ⟨Bj,Ah,rfl,e,Ai,Bp⟩:=hR
 refine ⟨_,z,fun a k=>?_⟩
 have m:=m.new e Ah (fun b hb=>⟨Bp b hb,Enc.rd_lt (Enc.ow_rd Ai) b hb⟩) (Enc.ow_nd Ai)
 refine sv k z (r_len (α:=Int) (Enc.ow_rd Ai) k underlying31 z z) fun a k=>pN 1 k z fun a k=>nn (wp_block (c_loop (fun n a w=>∃ (Af:List (List Int)) (Ae:Value) (Ac:List Nat) (As:World) (Ag:Int),K 42 [(2,.pointer (some (⟨b9,0,none⟩:Addr))),(5,Ae),(11,Bj),(12,I ((At.length:Int))),(13,I Ag)] a ∧ St [] w0 w [([b9],Am),(Ah,Ak),(Ac,As)] ∧ ow As Ac [Ae] Af ∧ d_impl_Groups_L1 fu Aj At n Af Ag = some r) ?_ ?_ fu _ _ ?_))
 · rintro a w ⟨_,_,_,_,_,_,_,_,h⟩
   exact nS h
 · rintro Cv a Ek ⟨Af,Ae,Ac,As,Ag,k,m,Aa,h⟩
   rw [d_impl_Groups_L1_s] at h
   unfold d_impl_Groups_L1_B at h
   refine wr (pN 1 k z fun a k=>nn (wp_seq (cI h k z (fun Ct h=>?_) fun Ct h=>?_)))
   · refine wp_skip (nm_then ?_)
     refine c_cut (fun a w=>∃ (Ao:List (List Int)) (Al:Value) (Ap:List Nat) (Aq:World),K 42 [(2,.pointer (some (⟨b9,0,none⟩:Addr))),(5,Al),(11,Bj),(12,I ((At.length:Int))),(13,I Ag)] a ∧ St [] w0 w [([b9],Am),(Ah,Ak),(Ap,Aq)] ∧ ow Aq Ap [Al] Ao ∧ d_impl_Groups_J1 fu (d_impl_Groups_L1 fu Aj At Cv) Ag Ao = some r) ?_ ?_
     · rintro a El ⟨Ao,Al,Ap,Aq,k,m,Cn,h⟩
       unfold d_impl_Groups_J1 at h
       refine wp_region_lit (pN 2 k z fun a k=>nn ?_)
       exact ⟨Ao,Al,Ap,Aq,w64 (Ag + 1),k.keep [2,5,11,12,13] z,m.sel [0,1,2] z (by decide),Cn,h⟩
     refine wp_block (wr (oE h fun Ad Be h=>sv k z (r_ixa (Enc.ow_rd Ai) Be k ts31 z z z) fun a k=>sv k z (r_lde1 (Enc.ow_rd Ai) (m.a 1 z) Be 0 t13 k z z z z) fun a k=>s_alloc (cs:=[I 0]) m k zeroValue3 z z z z z fun Au Ei a k m e Dh=>s_stb (cs':=[I Ad]) sizeOf3 m 0 Dh 0 k z z z z z z z z z z z fun Bb a k e m Ar=>nn (wp_seq (wr (sv k z (r_ldb t13 m 0 Ar 0 k z z z z z) fun a k=>oE h fun Fn Dy h=>cE k m call148 z z z (c_impl_in fu _ _ _  Dy) fun Er e a k m=>pN 1 k z fun a k=>nn (cI h k z (fun Da h=>?_) fun Da h=>?_))))))
     · refine wp_exit (ex_then (ex_same (nm_then ?_)))
       exact ⟨Af,Ae,Ac,As,k.keep [2,5,11,12,13] z,m.sel [1,2,3] z (by decide),Aa,h⟩
     refine wp_skip (nm_then ?_)
     refine wr (pN 2 k z fun a k=>oE h fun Bk Ef h=>cE k m call245 z z z (c_slices_IndexFunc_ints_int fu _ _ (Enc.rd_agr (Enc.ow_rd Aa) (m.a 3 z)) ⟨291,[.pointer (some (⟨b9,0,none⟩:Addr)),.pointer (some (⟨Au,0,none⟩:Addr))],z,call291,fun w Eg Gg r e Aw hx=>by obtain ⟨_,Aw⟩:=Aw; have m:=m.step e; exact c_impl_Groups_1 fu _ _ _ Aw (Bx.agr (m.a 1 z) (by simp)) (Enc.rd_agr Ay (m.a00 (Enc.rd_lt Ay))) (Ar.agr (m.a 0 z) (by simp)) hx⟩ Ef) fun Em e a k m=>pN 1 k z fun a k=>nn (wr (pN 2 k z fun a k=>nn (cI h k z (fun Du h=>?_) fun Du h=>?_))))
     · refine wp_region_lit (pN 1 k z fun a k=>sv k z (r_ldb t13 m 0 Ar 0 k z z z z z) fun a k=>s_bs (cs:=[I Ad]) (ps:=[(0,.tmp 26)]) te31 m k z z z z z z z (by decide) z (by exact (List.forall_mem_cons.2 ⟨z,(List.forall_mem_nil _)⟩)) fun Bf Fz Fu a k m e Bt=>?_)
       have Bc:=ow_bx Bt ([Ad]:List Int) z z z
       refine s_bs (cs:=[(.slice (some ⟨Bf,0,none⟩) 1 1)]) (ps:=[(0,.tmp 27)]) te53 m k z z z z z z z (by decide) z (by exact (List.forall_mem_cons.2 ⟨congrArg Array.size (rd_c (Enc.ow_rd Bc)),(List.forall_mem_nil _)⟩)) fun Fd Fm Fw a k m e De=>oE h fun By Dw h=>?_
       have Cg:=Enc.ow_agr Bc (m.a 1 z)
       have Cr:=News.box De (m.a 0 z) (by simp) (m:=1)
       have Ch:=m.a 5 z
       have m:=m.sel [5,1,0,2,3,4] z (by decide)
       have m:=m.join2
       refine s_appO (F:=Ac) (G:=[Bf]) Dw te53 z m Aa Ch Cr Cg (Agr.refl _ _) k z z z z z z fun Cd Bo Ec a k e m Di=>pN 1 k z fun a k=>wpList_nil (nm_block (nm_then ?_))
       exact ⟨By,Cd,Bo,Ec,k.keep [2,5,11,12,13] z,m.sel [3,4,0] z (by decide),Di,h⟩
     refine d_go (Ac) mixo m z fun Dx hMd=>?_
     have m:=hMd
     have s:=Ext.refl ((Ac):List Nat) Dx
     refine dN [0,1,2,3] 4 z k (by kernel_rfl) z s (fun _ _ _ _ _=>id) fun a k=>oE h fun Fs Ab h=>dt k 4 z (by kernel_rfl) z s (fun _ _ _=>id) (fun w s=>r_ixa (Enc.ow_rd Aa) Ab k ts53 z z z) fun a k=>?_
     obtain ⟨Fi,Ee,Eu,Ca,Ex,Fr⟩:=rd_get (Enc.ow_rd Aa) (ix_some Ab).2.2
     obtain ⟨Fg,rfl⟩:∃ v,Ee = [v]:=by obtain ⟨_,_,hq,_⟩:=Ca; exact ⟨_,hq⟩
     refine dt k 6 z (by kernel_rfl) z s (fun _ _ _=>id) (fun w s=>r_ld1 t13 (r:=[]) (Ar.at (hMd.az 0 3 z z z s) 0 1 z z z) k z z) fun a k=>?_
     obtain ⟨Fj,Bv,Ga,Cy,Ez,Ft⟩:=rd_get (Enc.ow_rd Aa) (ix_some Ab).2.2
     obtain ⟨Eh,rfl⟩:∃ v,Bv = [v]:=by obtain ⟨_,_,hq,_⟩:=Cy; exact ⟨_,hq⟩
     refine d_two 5 7 (by kernel_rfl) z z ?_ ?_ 
     · obtain ⟨Fa,Dv,Fb,Cq,Az,Cp⟩:=rd_get (Enc.ow_rd Aa) (ix_some Ab).2.2
       obtain ⟨Gb,rfl⟩:∃ v,Dv = [v]:=by obtain ⟨_,_,hq,_⟩:=Cq; exact ⟨_,hq⟩
       refine sv k z (r_ld1 t131 (Az.agr (m.a 3 z) Cp) k z z) fun a k=>wpList_nil ⟨s,?_⟩
       refine d_one 7 (by kernel_rfl) z (s_bsN (cs:=[I Ad]) (ps:=[(0,.tmp 36)]) te31 m k z z z z z z z (by decide) z (by exact (List.forall_mem_cons.2 ⟨z,(List.forall_mem_nil _)⟩)) fun Dj Bs Ej a k m e Ed Dt=>?_)
       have Fk:=lo1 (Nat.le_trans s.size Dt)
       have Br:=ow_bx Ed ([Ad]:List Int) z z z
       have s:=s.trans e (by simp)
       refine wpList_nil ⟨s,?_⟩
       refine d_one 8 (by kernel_rfl) z ?_
       obtain ⟨Fx,Ge,m,Cj,Bq,Ce,Bh⟩:=m.opnS 4 z Aa Ab Az z (M':=[([Dj],Bs),([Au],Bb),([b9],Am),(Ah,Ak)]) z
       refine oE h fun Dl Bw h=>s_appFN Bw te31 z m 1 Bq (News.rd (Enc.rd_agr (Enc.ow_rd Br) (m.a 2 z))) z z k z z z z z z z fun Ci Dn Es a k e m Av Dd=>?_
       have Fl:∀ y ∈ Dn,y ∈ (Ac) ∨ _ ≤ y:=fun y hy=>(Dd y hy).elim (fun hy=>(fun y hy=>(fun y hy=>Or.inl hy) y (Bh y hy)) y hy) (fun h=>Or.inr (Nat.le_trans s.size h))
       have s:=s.trans e (fun y hy=>(fun y hy=>Or.inl hy) y (Bh y hy))
       refine wpList_nil ⟨s,?_⟩
       refine oE h fun Fo Fe h=>dt k 9 z (by kernel_rfl) z s (fun _ _ _=>id) (fun w s=>r_ixa (Enc.ow_rd Aa) Ab k ts53 z z z) fun a k=>d_one 10 (by kernel_rfl) z (s_stH1 (α:=List Int) (sz:=1) (cs':=[Ci]) sizeOf31 m 0 Cj 0 k (rd_c (Enc.ow_rd Av)) (rd_o (Enc.ow_rd Av)) z z z z z z z z z z fun Bn a k e m Cc=>?_)
       obtain ⟨Cl,m,Dq⟩:=(m.sel [0,1,2,3,4,5] z (by decide)).cls Cc Av
       have s:=s.trans e (fun y hy=>(fun y hy=>Or.inl hy) y (Ce y hy))
       refine wpList_nil ⟨s,?_⟩
       refine d_done (by kernel_rfl) ?_
       have k:=k.keep [2,11,12,5,13] z
       refine (nm_block (nm_then ?_))
       exact ⟨setx Af Bk Dl,Ae,Cl,Bn,k.keep [2,5,11,12,13] z,m.sel [3,4,0] z (by decide),Dq,h⟩
     refine s_bsN (cs:=[I Ad]) (ps:=[(0,.tmp 36)]) te31 m k z z z z z z z (by decide) z (by exact (List.forall_mem_cons.2 ⟨z,(List.forall_mem_nil _)⟩)) fun Ea Co Fq a k m e Dk Do=>?_
     have Ew:=lo1 (Nat.le_trans s.size Do)
     have Dg:=ow_bx Dk ([Ad]:List Int) z z z
     have s:=s.trans e (by simp)
     refine wpList_nil ⟨s,?_⟩
     obtain ⟨Fc,Cm,Fy,Dr,Gc,Fv⟩:=rd_get (Enc.ow_rd Aa) (ix_some Ab).2.2
     obtain ⟨Et,rfl⟩:∃ v,Cm = [v]:=by obtain ⟨_,_,hq,_⟩:=Dr; exact ⟨_,hq⟩
     refine d_one 5 (by kernel_rfl) z ?_
     obtain ⟨Ev,Ck,Eo,Dm,Bl,Cb⟩:=rd_get (Enc.ow_rd Aa) (ix_some Ab).2.2
     obtain ⟨Ff,rfl⟩:∃ v,Ck = [v]:=by obtain ⟨_,_,hq,_⟩:=Dm; exact ⟨_,hq⟩
     refine sv k z (r_ld1 t131 (Bl.agr (m.a 4 z) Cb) k z z) fun a k=>wpList_nil ⟨s,?_⟩
     refine d_one 8 (by kernel_rfl) z ?_
     obtain ⟨Gf,Fh,m,Eb,Dz,Cx,Bi⟩:=m.opnS 4 z Aa Ab Bl z (M':=[([Ea],Co),([Au],Bb),([b9],Am),(Ah,Ak)]) z
     refine oE h fun Dc Cf h=>s_appFN Cf te31 z m 1 Dz (News.rd (Enc.rd_agr (Enc.ow_rd Dg) (m.a 2 z))) z z k z z z z z z z fun Db Cw En a k e m Ax Dp=>?_
     have Ep:∀ y ∈ Cw,y ∈ (Ac) ∨ _ ≤ y:=fun y hy=>(Dp y hy).elim (fun hy=>(fun y hy=>(fun y hy=>Or.inl hy) y (Bi y hy)) y hy) (fun h=>Or.inr (Nat.le_trans s.size h))
     have s:=s.trans e (fun y hy=>(fun y hy=>Or.inl hy) y (Bi y hy))
     refine wpList_nil ⟨s,?_⟩
     refine oE h fun Gh Gd h=>dt k 9 z (by kernel_rfl) z s (fun _ _ _=>id) (fun w s=>r_ixa (Enc.ow_rd Aa) Ab k ts53 z z z) fun a k=>d_one 10 (by kernel_rfl) z (s_stH1 (α:=List Int) (sz:=1) (cs':=[Db]) sizeOf31 m 0 Eb 0 k (rd_c (Enc.ow_rd Ax)) (rd_o (Enc.ow_rd Ax)) z z z z z z z z z z fun Bu a k e m Bm=>?_)
     obtain ⟨Cz,m,Ds⟩:=(m.sel [0,1,2,3,4,5] z (by decide)).cls Bm Ax
     have s:=s.trans e (fun y hy=>(fun y hy=>Or.inl hy) y (Cx y hy))
     refine wpList_nil ⟨s,?_⟩
     refine d_done (by kernel_rfl) ?_
     have k:=k.keep [2,11,12,5,13] z
     refine (nm_block (nm_then ?_))
     exact ⟨setx Af Bk Dc,Ae,Cz,Bu,k.keep [2,5,11,12,13] z,m.sel [3,4,0] z (by decide),Ds,h⟩
   refine wp_exit (ex_then (ex_then (ex_same (nm_then ?_))))
   refine wr (pN 2 k z fun a k=>nn (wp_ret ?_))
   cases h
   exact finR1 k z (RV.tmp k z) ⟨_,Ac,z,m.ext,(Enc.ow_agr Aa (m.a 2 z)),(m.fresh 2 z)⟩
 exact ⟨([]:List (List Int)),(.slice (some ⟨Bd,0,none⟩) 0 0),[Bd],Bz,0,k.keep [2,5,11,12,13] z,m.sel [2,0,1] z (by decide),Df,h⟩
theorem c_impl_GroupsOf (fu:Nat) {w0:World} (r1:Request) {Aj:List Value} {F3:List Nat} (Am:rd w0 F3 Aj r1) {r:(List (List Int))}
    (h:d_impl_GroupsOf fu r1 = some r) :
    Calls Tryz.prog 195 #[.agg Aj.toArray] w0 fun e w=>∃ (v0:Value) (G0:List Nat),e = .returned (v0) ∧ Ext [] w0 w ∧ ow w G0 [v0] r ∧ (∀ b ∈ G0,w0.heap.size ≤ b):=by
 refine enter (vs:=[_]) func195 z ntmps195 z fun a k=>?_
 have m:=St.start w0
 obtain ⟨v5,F6,v7,F8,v9,Bb,rfl,rfl,Aa,Ac,Ab⟩:=Am
 unfold d_impl_GroupsOf at h
 refine wr (s_box (cs:=[I r1.fWay,I r1.fPallet.fW,I r1.fPallet.fD,I r1.fPallet.fH,I r1.fPallet.fGram,I r1.fClasses,v5,v7,I r1.fMaster,v9]) m k z z z z z z fun Az Bd a k m e Ae=>pN 1 k z fun a k=>nn (wp_seq (wr (sv k z (r_ldB ta30 m 0 Ae 0 k z z z z z z) fun a k=>oE h fun Bc Al h=>cE k m call61 z z z (c_impl_sound fu _ (show rd _ _ [I r1.fWay,I r1.fPallet.fW,I r1.fPallet.fD,I r1.fPallet.fH,I r1.fPallet.fGram,I r1.fClasses,v5,v7,I r1.fMaster,v9] (r1:Request) from ⟨_,_,_,_,_,_,z,z,(Enc.rd_agr Aa (m.a00 (Enc.rd_lt Aa))),(Enc.rd_agr Ac (m.a00 (Enc.rd_lt Ac))),(Enc.rd_agr Ab (m.a00 (Enc.rd_lt Ab)))⟩) Al) fun Ba e a k m=>?_))))
 refine pN 1 k z fun a k=>nn (cI h k z (fun Ap h=>?_) fun Ap h=>?_)
 · refine wr (pN 1 k z fun a k=>nn (wp_ret (rt_then ?_)))
   cases h
   exact finR1 k z (RV.tmp k z) ⟨_,[],z,m.ext,(ow_nil _),(by simp)⟩
 refine wp_skip (nm_then ?_)
 refine wp_seq (d_go [] mixo m z fun Ao hMd=>?_)
 have m:=hMd
 have s:=Ext.refl ([]:List Nat) Ao
 refine dt k 0 z (by kernel_rfl) z s (fun _ _ _=>id) (fun w s=>r_fa fa30_3 k z z) fun a k=>dt k 1 z (by kernel_rfl) z s (fun _ _ _=>id) (fun w s=>r_ld1 t126 (r:=[]) (Ae.at ((hMd.step s).a 0 z) 6 1 z z z) k z z) fun a k=>dt k 2 z (by kernel_rfl) z s (fun _ _ _=>id) (fun w s=>r_ldA ta30 (Ae.at ((hMd.step s).a 0 z) 0 10 z z z) z k z z) fun a k=>d_one 3 (by kernel_rfl) z (oE h fun Ax Aq h=>?_)
 refine s_call k call256 z z z z z (c_impl_Present fu _ (show rd _ _ [I r1.fWay,I r1.fPallet.fW,I r1.fPallet.fD,I r1.fPallet.fH,I r1.fPallet.fGram,I r1.fClasses,v5,v7,I r1.fMaster,v9] (r1:Request) from ⟨_,_,_,_,_,_,z,z,(Enc.rd_agr Aa (m.a00 (Enc.rd_lt Aa))),(Enc.rd_agr Ac (m.a00 (Enc.rd_lt Ac))),(Enc.rd_agr Ab (m.a00 (Enc.rd_lt Ab)))⟩) Aq) fun Be Au hR=>?_
 obtain ⟨Bg,Ah,rfl,e,Af,Ak⟩:=hR
 refine ⟨_,z,fun a k=>?_⟩
 have m:=m.new e Ah (fun b hb=>⟨Ak b hb,Enc.rd_lt (Enc.ow_rd Af) b hb⟩) (Enc.ow_nd Af)
 have Aw:=fun (y:Nat) (hy:y ∈ Ah)=>Nat.le_trans s.size (Ak y hy)
 have s:=s.trans e (by simp)
 refine wpList_nil ⟨s,?_⟩
 refine d_one 4 (by kernel_rfl) z (oE h fun Bf Ar h=>s_call k call255 z z z z z (c_impl_Groups fu _ _ (Enc.rd_agr Aa (m.a00 (Enc.rd_lt Aa))) (Enc.rd_agr (Enc.ow_rd Af) (m.a 0 z)) Ar) fun Av Ay hR=>?_)
 obtain ⟨At,Ag,rfl,e,Ad,Ai⟩:=hR
 refine ⟨_,z,fun a k=>?_⟩
 have m:=m.new e Ag (fun b hb=>⟨Ai b hb,Enc.rd_lt (Enc.ow_rd Ad) b hb⟩) (Enc.ow_nd Ad)
 have As:=fun (y:Nat) (hy:y ∈ Ag)=>Nat.le_trans s.size (Ai y hy)
 have s:=s.trans e (by simp)
 refine wpList_nil ⟨s,?_⟩
 refine dN [5] 1 z k (by kernel_rfl) z s (fun _ _ _ _ _=>id) fun a k=>d_done (by kernel_rfl) ((nm_then ?_))
 refine wp_ret ?_
 cases h
 exact finR1 k z (RV.tmp k z) ⟨_,Ag,z,m.ext,(Enc.ow_agr Ad (m.a 0 z)),(m.fresh 0 z)⟩
theorem c_slices_Index_int_int (fu:Nat) {w0:World} (Aa:List Int) (v5:Int) {v2:Value} {F3:List Nat} (Ab:rd w0 F3 [v2] Aa) {r:Int}
    (h:d_slices_Index_int_int fu Aa v5 = some r) :
    Calls Tryz.prog 273 #[v2,I v5] w0 fun e w=>e = .returned (I r) ∧ Ext [] w0 w:=by
 refine enter (vs:=[_,_]) func273 z ntmps273 z fun a k=>?_
 have m:=St.start w0
 unfold d_slices_Index_int_int at h
 refine wr (pN 1 k z fun a k=>nn (wp_seq (wr (pN 1 k z fun a k=>sv k z (r_len (α:=Int) Ab k underlying31 z z) fun a k=>pN 1 k z fun a k=>nn (wp_block (c_loop (fun n a w=>∃ (Ac:Int),K 19 [(0,v2),(1,I v5),(7,I ((Aa.length:Int))),(8,I Ac)] a ∧ St [] w0 w [] ∧ d_slices_Index_int_int_L1 fu Aa v5 n Ac = some r) ?_ ?_ fu _ _ ?_))))))
 · rintro a w ⟨_,_,_,h⟩
   exact nS h
 · rintro Ag a Ai ⟨Ac,k,m,h⟩
   rw [d_slices_Index_int_int_L1_s] at h
   unfold d_slices_Index_int_int_L1_B at h
   refine wr (pN 1 k z fun a k=>nn (wp_seq (cI h k z (fun Af h=>?_) fun Af h=>?_)))
   · refine wp_skip (nm_then ?_)
     refine wp_seq (wp_block (wr (pN 2 k z fun a k=>nn (wr (pN 3 k z fun a k=>oE h fun Ah Ad h=>sv k z (r_ixa Ab Ad k ts31 z z z) fun a k=>sv k z (r_lde1 Ab (m.a00 (Enc.rd_lt Ab)) Ad 0 t13 k z z z z) fun a k=>pN 1 k z fun a k=>nn (cI h k z (fun Ae h=>?_) fun Ae h=>?_))))))
     · refine wr (pN 2 k z fun a k=>nn (wp_ret (rt_block (rt_then (rt_then (rt_block (rt_then ?_)))))))
       refine fS h k m z z
     refine wp_skip (nm_block (nm_then ?_))
     refine wp_region_lit (pN 2 k z fun a k=>nn ?_)
     exact ⟨w64 (Ac + 1),k.keep [0,1,7,8] z,m.sel [] z (by decide),h⟩
   refine wp_exit (ex_then (ex_then (ex_same (nm_then ?_))))
   refine wr (pN 1 k z fun a k=>nn (wp_ret (fS h k m z z)))
 exact ⟨0,k.keep [0,1,7,8] z,m.sel [] z (by decide),h⟩
theorem c_slices_Contains_int_int (fu:Nat) {w0:World} (Aa:List Int) (v5:Int) {v2:Value} {F3:List Nat} (Ab:rd w0 F3 [v2] Aa) {r:Bool}
    (h:d_slices_Contains_int_int fu Aa v5 = some r) :
    Calls Tryz.prog 217 #[v2,I v5] w0 fun e w=>e = .returned (.bool (r)) ∧ Ext [] w0 w:=by
 refine enter (vs:=[_,_]) func217 z ntmps217 z fun a k=>?_
 have m:=St.start w0
 unfold d_slices_Contains_int_int at h
 refine wr (pN 1 k z fun a k=>nn (wr (pN 2 k z fun a k=>oE h fun x6 Ac h=>cE k m call273 z z z (c_slices_Index_int_int fu _ _ (Enc.rd_agr Ab (m.a00 (Enc.rd_lt Ab))) Ac) fun w9 e a k m=>pN 2 k z fun a k=>nn (wp_ret (fS h k m z z)))))
theorem c_impl_cartonFault_1 (fu:Nat) {w0:World} (y1:Item) (x2:Carton) (x8:List (List Int)) {v5:Value} {F6:List Nat} {b3:Nat} (Ac:bx w0 b3 [I x2.fType,I x2.fGroup,v5] 33) (Av:rd w0 F6 [v5] x2.fUnits) {Ag:Value} {Ah:List Nat} {b9:Nat} (Ad:bx w0 b9 [Ag] 53) (Ab:rd w0 Ah [Ag] x8) {r:Bool}
    (h:d_impl_cartonFault_1 fu y1 x2 x8 = some r) :
    Calls Tryz.prog 216 #[.agg (Flat.e (y1)).toArray,.pointer (some (⟨b3,0,none⟩:Addr)),.pointer (some (⟨b9,0,none⟩:Addr))] w0 fun e w=>e = .returned (.bool (r)) ∧ Ext [] w0 w:=by
 refine enter (vs:=[_,_,_]) func216 z ntmps216 z fun a k=>?_
 have m:=St.start w0
 unfold d_impl_cartonFault_1 at h
 refine wr (s_box (cs:=[I y1.fId,I y1.fW,I y1.fH,I y1.fD,I y1.fGram,I y1.fClass,I y1.fCount]) m k z z z z z z fun Ar Au a k m e Aj=>pN 1 k z fun a k=>nn (wp_seq (d_go [] mixo m z fun Am hMd=>?_)))
 have m:=hMd
 have s:=Ext.refl ([]:List Nat) Am
 refine dt k 0 z (by kernel_rfl) z s (fun _ _ _=>id) (fun w s=>r_fa fa33_1 k z z) fun a k=>dt k 1 z (by kernel_rfl) z s (fun _ _ _=>id) (fun w s=>r_ld1 t13 (r:=[]) (Ac.at ((hMd.step s).a00 Ac.lt1) 1 1 z z z) k z z) fun a k=>dt k 2 z (by kernel_rfl) z s (fun _ _ _=>id) (fun w s=>r_ld1 t153 (r:=[]) (Ad.at ((hMd.step s).a00 Ad.lt1) 0 1 z z z) k z z) fun a k=>dt k 3 z (by kernel_rfl) z s (fun _ _ _=>id) (fun w s=>r_len (α:=List Int) Ab k underlying53 z z) fun a k=>dN [4,5] 2 z k (by kernel_rfl) z s (fun _ _ _ _ _=>id) fun a k=>bsplit (decide (x2.fGroup ≥ ((x8.length:Int)))) (fun Aa=>?_) (fun Aa=>?_)
 · have h:=bif_t Aa h
   refine rB k 10 z Aa fun k=>dN [6,7,8,9,10,11,12,13,14,15,16] 11 z k (by kernel_rfl) z s (fun _ _ _ _ _=>id) fun a k=>d_done (by kernel_rfl) ((nm_then ?_))
   refine wp_ret (fS h k m z z)
 have h:=bif_f Aa h
 refine rB k 10 z Aa fun k=>dt k 6 z (by kernel_rfl) z s (fun _ _ _=>id) (fun w s=>r_ld1 t153 (r:=[]) (Ad.at ((hMd.step s).a00 Ad.lt1) 0 1 z z z) k z z) fun a k=>dt k 7 z (by kernel_rfl) z s (fun _ _ _=>id) (fun w s=>r_fa fa33_1 k z z) fun a k=>dt k 8 z (by kernel_rfl) z s (fun _ _ _=>id) (fun w s=>r_ld1 t13 (r:=[]) (Ac.at ((hMd.step s).a00 Ac.lt1) 1 1 z z z) k z z) fun a k=>oE h fun Aw Af h=>dt k 9 z (by kernel_rfl) z s (fun _ _ _=>id) (fun w s=>r_ixa Ab Af k ts53 z z z) fun a k=>?_
 obtain ⟨Aq,Ak,As,Ae,Al,Ai⟩:=rd_get Ab (ix_some Af).2.2
 obtain ⟨At,rfl⟩:∃ v,Ak = [v]:=by obtain ⟨_,_,hq,_⟩:=Ae; exact ⟨_,hq⟩
 refine dt k 10 z (by kernel_rfl) z s (fun _ _ _=>id) (fun w s=>r_ld1 t131 (Al.agr ((hMd.step s).a00 (Enc.rd_lt Ab)) Ai) k z z) fun a k=>dt k 11 z (by kernel_rfl) z s (fun _ _ _=>id) (fun w s=>r_fa fa97_5 k z z) fun a k=>dt k 12 z (by kernel_rfl) z s (fun _ _ _=>id) (fun w s=>r_ld1 t13 (r:=[]) (Aj.at ((hMd.step s).a 0 z) 5 1 z z z) k z z) fun a k=>d_one 13 (by kernel_rfl) z (oE h fun Ax Ao h=>cE k m call217 z z z (c_slices_Contains_int_int fu _ _ (Enc.rd_agr Ae (m.a00 (Enc.rd_lt Ae))) Ao) fun Ap e a k m=>?_)
 have s:=s.trans e (by simp)
 refine wpList_nil ⟨s,?_⟩
 refine dN [14,15,16] 3 z k (by kernel_rfl) z s (fun _ _ _ _ _=>id) fun a k=>d_done (by kernel_rfl) ((nm_then ?_))
 refine wp_ret (fS h k m z z)
theorem c_impl_Cheapest (fu:Nat) {w0:World} (r1:Request) (Ao:List Int) {Bb:List Value} {F3:List Nat} (Be:rd w0 F3 Bb r1) {v6:Value} {F7:List Nat} (Ba:rd w0 F7 [v6] Ao) {r:Typ × Bool}
    (h:d_impl_Cheapest fu r1 Ao = some r) :
    Calls Tryz.prog 198 #[.agg Bb.toArray,v6] w0 fun e w=>e = .returned (.tuple #[.agg (Flat.e r.1).toArray,.bool (r.2)]) ∧ Ext [] w0 w:=by
 refine enter (vs:=[_,_]) func198 z ntmps198 z fun a k=>?_
 have m:=St.start w0
 obtain ⟨v9,Ce,Ar,Ca,Aw,Bz,rfl,rfl,Bc,Ai,Au⟩:=Be
 unfold d_impl_Cheapest at h
 refine wr (s_box (cs:=[I r1.fWay,I r1.fPallet.fW,I r1.fPallet.fD,I r1.fPallet.fH,I r1.fPallet.fGram,I r1.fClasses,v9,Ar,I r1.fMaster,Aw]) m k z z z z z z fun As Ay a k m e Ax=>s_alloc (cs:=[I 0,I 0,I 0,I 0,I 0,I 0,I 0]) m k zeroValue38 z z z z z fun At Av a k m e Bi=>pN 1 k z fun a k=>nn (wr (sv k z (r_build bt38 k (cs:=#[I 0,I 0,I 0,I 0,I 0,I 0,I 0]) (ps:=[]) z z (by kernel_rfl)) fun a k=>?_)))
 refine s_alloc (cs:=[I 0,I 0,I 0,I 0,I 0,I 0,I 0]) m k zeroValue38 z z z z z fun Ag Bx a k m e Bm=>s_stb (cs':=[I 0,I 0,I 0,I 0,I 0,I 0,I 0]) sizeOf38 m 0 Bm 0 k z z z z z z z z z z z fun Bj a k e m Bl=>pN 1 k z fun a k=>nn (wp_seq (wr (sv k z (r_fa fa30_4 k z z) fun a k=>sv k z (r_ldb t127 m 2 Ax 7 k z z z z z) fun a k=>sv k z (r_len (α:=Typ) Ai k underlying27 z z) fun a k=>pN 1 k z fun a k=>nn (wp_block ?_))))
 refine c_loop (fun n a w=>∃ (Ab:Typ) (Ah:World) (Ae:Bool) (Aj:Int),K 50 [(1,v6),(2,.pointer (some (⟨As,0,none⟩:Addr))),(4,.pointer (some (⟨At,0,none⟩:Addr))),(6,.pointer (some (⟨Ag,0,none⟩:Addr))),(7,.bool (Ae)),(12,Ar),(13,I ((r1.fTypes.length:Int))),(14,I Aj)] a ∧ St [] w0 w [([As],Ay),([At],Av),([Ag],Ah)] ∧ bx Ah Ag [I Ab.fId,I Ab.fW,I Ab.fH,I Ab.fD,I Ab.fTare,I Ab.fGram,I Ab.fCost] 38 ∧ d_impl_Cheapest_L1 fu r1 Ao n Ab Ae Aj = some r) ?_ ?_ fu _ _ ?_
 · rintro a w ⟨_,_,_,_,_,_,_,h⟩
   exact nS h
 · rintro Bh a Cf ⟨Ab,Ah,Ae,Aj,k,m,Ad,h⟩
   rw [d_impl_Cheapest_L1_s] at h
   unfold d_impl_Cheapest_L1_B at h
   refine wr (pN 1 k z fun a k=>nn (wp_seq (cI h k z (fun Bk h=>?_) fun Bk h=>?_)))
   · refine wp_skip (nm_then ?_)
     refine c_cut (fun a w=>∃ (Ac:Typ) (Ap:World) (Aq:Bool),K 50 [(1,v6),(2,.pointer (some (⟨As,0,none⟩:Addr))),(4,.pointer (some (⟨At,0,none⟩:Addr))),(6,.pointer (some (⟨Ag,0,none⟩:Addr))),(7,.bool (Aq)),(12,Ar),(13,I ((r1.fTypes.length:Int))),(14,I Aj)] a ∧ St [] w0 w [([As],Ay),([At],Av),([Ag],Ap)] ∧ bx Ap Ag [I Ac.fId,I Ac.fW,I Ac.fH,I Ac.fD,I Ac.fTare,I Ac.fGram,I Ac.fCost] 38 ∧ d_impl_Cheapest_J1 fu (d_impl_Cheapest_L1 fu r1 Ao Bh) Aj Ac Aq = some r) ?_ ?_
     · rintro a Cd ⟨Ac,Ap,Aq,k,m,Bg,h⟩
       unfold d_impl_Cheapest_J1 at h
       refine wp_region_lit (pN 2 k z fun a k=>nn ?_)
       exact ⟨Ac,Ap,Aq,w64 (Aj + 1),k.keep [1,2,4,6,7,12,13,14] z,m.sel [0,1,2] z (by decide),Bg,h⟩
     refine wp_block (wr (oE h fun Aa Az h=>sv k z (r_ixa Ai Az k ts27 z z z) fun a k=>sv k z (r_lde Ai (m.a00 (Enc.rd_lt Ai)) Az ta38 k z z) fun a k=>s_alloc (cs:=[I 0,I 0,I 0,I 0,I 0,I 0,I 0]) m k zeroValue38 z z z z z fun By Cc a k m e Bo=>s_stb (cs':=[I Aa.fId,I Aa.fW,I Aa.fH,I Aa.fD,I Aa.fTare,I Aa.fGram,I Aa.fCost]) sizeOf38 m 0 Bo 0 k z z z z z z z z z z z fun Cg a k e m Af=>nn (wp_seq (wr (sv k z (r_ldB ta30 m 1 Ax 0 k z z z z z z) fun a k=>pN 1 k z fun a k=>sv k z (r_ldB ta38 m 0 Af 0 k z z z z z z) fun a k=>oE h fun Bw Bu h=>?_)))))
     refine cE k m call20 z z z (c_impl_Holds fu _ _ (Aa:Typ) (show rd _ _ [I r1.fWay,I r1.fPallet.fW,I r1.fPallet.fD,I r1.fPallet.fH,I r1.fPallet.fGram,I r1.fClasses,v9,Ar,I r1.fMaster,Aw] (r1:Request) from ⟨_,_,_,_,_,_,z,z,(Enc.rd_agr Bc (m.a00 (Enc.rd_lt Bc))),(Enc.rd_agr Ai (m.a00 (Enc.rd_lt Ai))),(Enc.rd_agr Au (m.a00 (Enc.rd_lt Au)))⟩) (Enc.rd_agr Ba (m.a00 (Enc.rd_lt Ba))) Bu) fun Ch e a k m=>pN 1 k z fun a k=>nn (cI h k z (fun Bn h=>?_) fun Bn h=>?_)
     · refine wp_exit (ex_then (ex_same (nm_then ?_)))
       exact ⟨Ab,Ah,Ae,k.keep [1,2,4,6,7,12,13,14] z,m.sel [1,2,3] z (by decide),Ad,h⟩
     refine wp_skip (nm_then ?_)
     refine wr (pN 3 k z fun a k=>bsplit (!Ae) (fun Al=>?_) (fun Al=>?_))
     · have h:=bif_t Al h
       refine rB k 25 z Al fun k=>pN 20 k z fun a k=>?_
       have k:=k.keep [1,2,4,6,12,13,7,14,9,45] z
       refine nn (wp_cond_true (k.ev z) (wp_region_lit (sv k z (r_ldB ta38 m 0 Af 0 k z z z z z z) fun a k=>s_stb (cs':=[I Aa.fId,I Aa.fW,I Aa.fH,I Aa.fD,I Aa.fTare,I Aa.fGram,I Aa.fCost]) sizeOf38 m 3 Ad 0 k z z z z z z z z z z z fun Bs a k e m Bp=>pN 1 k z fun a k=>wpList_nil (nm_block (nm_then ?_)))))
       exact ⟨Aa,Bs,true,k.keep [1,2,4,6,7,12,13,14] z,m.sel [1,2,3] z (by decide),Bp,h⟩
     have h:=bif_f Al h
     refine rB k 25 z Al fun k=>sv k z (r_fa fa38_6 k z z) fun a k=>sv k z (r_ldb t13 m 0 Af 6 k z z z z z) fun a k=>sv k z (r_fa fa38_6 k z z) fun a k=>sv k z (r_ldb t13 m 3 Ad 6 k z z z z z) fun a k=>pN 3 k z fun a k=>bsplit (decide (Aa.fCost < Ab.fCost)) (fun Ak=>?_) (fun Ak=>?_)
     · have h:=bif_t Ak h
       refine rB k 32 z Ak fun k=>pN 13 k z fun a k=>?_
       have k:=k.keep [1,2,4,6,12,13,7,14,9,45] z
       refine nn (wp_cond_true (k.ev z) (wp_region_lit (sv k z (r_ldB ta38 m 0 Af 0 k z z z z z z) fun a k=>s_stb (cs':=[I Aa.fId,I Aa.fW,I Aa.fH,I Aa.fD,I Aa.fTare,I Aa.fGram,I Aa.fCost]) sizeOf38 m 3 Ad 0 k z z z z z z z z z z z fun Bd a k e m Bv=>pN 1 k z fun a k=>wpList_nil (nm_block (nm_then ?_)))))
       exact ⟨Aa,Bd,true,k.keep [1,2,4,6,7,12,13,14] z,m.sel [1,2,3] z (by decide),Bv,h⟩
     have h:=bif_f Ak h
     refine rB k 32 z Ak fun k=>sv k z (r_fa fa38_6 k z z) fun a k=>sv k z (r_ldb t13 m 0 Af 6 k z z z z z) fun a k=>sv k z (r_fa fa38_6 k z z) fun a k=>sv k z (r_ldb t13 m 3 Ad 6 k z z z z z) fun a k=>pN 2 k z fun a k=>bsplit (Aa.fCost == Ab.fCost) (fun Am=>?_) (fun Am=>?_)
     · have h:=bif_t Am h
       refine rB k 38 z Am fun k=>sv k z (r_fa fa38_0 k z z) fun a k=>sv k z (r_ldb t13 m 0 Af 0 k z z z z z) fun a k=>sv k z (r_fa fa38_0 k z z) fun a k=>sv k z (r_ldb t13 m 3 Ad 0 k z z z z z) fun a k=>pN 3 k z fun a k=>?_
       have k:=k.keep [1,2,4,6,12,13,7,14,9,45] z
       refine nn (cI h k z (fun Bq h=>?_) fun Bq h=>?_)
       · refine wp_region_lit (sv k z (r_ldB ta38 m 0 Af 0 k z z z z z z) fun a k=>s_stb (cs':=[I Aa.fId,I Aa.fW,I Aa.fH,I Aa.fD,I Aa.fTare,I Aa.fGram,I Aa.fCost]) sizeOf38 m 3 Ad 0 k z z z z z z z z z z z fun Br a k e m Bt=>pN 1 k z fun a k=>wpList_nil (nm_block (nm_then ?_)))
         exact ⟨Aa,Br,true,k.keep [1,2,4,6,7,12,13,14] z,m.sel [1,2,3] z (by decide),Bt,h⟩
       refine wp_skip (nm_block (nm_then ?_))
       exact ⟨Ab,Ah,Ae,k.keep [1,2,4,6,7,12,13,14] z,m.sel [1,2,3] z (by decide),Ad,h⟩
     have h:=bif_f Am h
     refine rB k 38 z Am fun k=>pN 7 k z fun a k=>?_
     have k:=k.keep [1,2,4,6,12,13,7,14,9,45] z
     refine nn (wp_cond_false (k.ev z) (wp_skip (nm_block (nm_then ?_))))
     exact ⟨Ab,Ah,Ae,k.keep [1,2,4,6,7,12,13,14] z,m.sel [1,2,3] z (by decide),Ad,h⟩
   refine wp_exit (ex_then (ex_then (ex_same (nm_then ?_))))
   refine wr (sv k z (r_ldB ta38 m 2 Ad 0 k z z z z z z) fun a k=>pN 1 k z fun a k=>s_stb (cs':=[I Ab.fId,I Ab.fW,I Ab.fH,I Ab.fD,I Ab.fTare,I Ab.fGram,I Ab.fCost]) sizeOf38 m 1 Bi 0 k z z z z z z z z z z z fun Cb a k e m Bf=>pN 1 k z fun a k=>nn (wp_ret ?_))
   cases h
   exact finR2 k z (RV.cA k z ta38 (Bf.at (m.a 1 z) 0 7 z z z) z) (RV.tmp k z) ⟨z,m.ext⟩
 exact ⟨(⟨0,0,0,0,0,0,0⟩:Typ),Bj,false,0,k.keep [1,2,4,6,7,12,13,14] z,m.sel [2,1,0] z (by decide),Bl,h⟩
theorem c_impl_cartonFault (fu:Nat) {w0:World} (r1:Request) (x5:Plan) {Bf:List Value} {F3:List Nat} (Ci:rd w0 F3 Bf r1) {Bc:List Value} {F7:List Nat} (Cp:rd w0 F7 Bc x5) {r:Int}
    (h:d_impl_cartonFault fu r1 x5 = some r) :
    Calls Tryz.prog 128 #[.agg Bf.toArray,.agg Bc.toArray] w0 fun e w=>e = .returned (I r) ∧ Ext [] w0 w:=by
 refine enter (vs:=[_,_]) func128 z ntmps128 z fun a k=>?_
 have m:=St.start w0
 obtain ⟨v9,Dq,Aj,Dl,Ah,Ew,rfl,rfl,Ac,Ad,Ab⟩:=Ci
 obtain ⟨Am,Dp,Bm,Dn,rfl,rfl,Aa,Ej⟩:=Cp
 unfold d_impl_cartonFault at h
 refine wr (s_box (cs:=[I r1.fWay,I r1.fPallet.fW,I r1.fPallet.fD,I r1.fPallet.fH,I r1.fPallet.fGram,I r1.fClasses,v9,Aj,I r1.fMaster,Ah]) m k z z z z z z fun Af Ar a k m e Ao=>s_box (cs:=[Am,Bm]) m k z z z z z z fun Ak Ax a k m e Az=>pN 1 k z fun a k=>nn (wp_seq (wr (sv k z (r_fa fa74_0 k z z) fun a k=>sv k z (r_ldb t143 m 0 Az 0 k z z z z z) fun a k=>sv k z (r_len (α:=Carton) Aa k underlying43 z z) fun a k=>pN 1 k z fun a k=>nn (wp_block ?_)))))
 refine c_loop (fun n a w=>∃ (Ai:Int),K 77 [(2,.pointer (some (⟨Af,0,none⟩:Addr))),(3,.pointer (some (⟨Ak,0,none⟩:Addr))),(17,Am),(18,I ((x5.fCartons.length:Int))),(19,I Ai)] a ∧ St [] w0 w [([Af],Ar),([Ak],Ax)] ∧ d_impl_cartonFault_L3 fu r1 x5 n Ai = some r) ?_ ?_ fu _ _ ?_
 · rintro a w ⟨_,_,_,h⟩
   exact nS h
 · rintro Dc a Ed ⟨Ai,k,m,h⟩
   rw [d_impl_cartonFault_L3_s] at h
   unfold d_impl_cartonFault_L3_B at h
   refine wr (pN 1 k z fun a k=>nn (wp_seq (cI h k z (fun Cf h=>?_) fun Cf h=>?_)))
   · refine wp_skip (nm_then ?_)
     refine c_cut (fun a w=>K 77 [(2,.pointer (some (⟨Af,0,none⟩:Addr))),(3,.pointer (some (⟨Ak,0,none⟩:Addr))),(17,Am),(18,I ((x5.fCartons.length:Int))),(19,I Ai)] a ∧ St [] w0 w [([Af],Ar),([Ak],Ax)] ∧ d_impl_cartonFault_J1 fu (d_impl_cartonFault_L3 fu r1 x5 Dc) Ai = some r) ?_ ?_
     · rintro a Dt ⟨k,m,h⟩
       unfold d_impl_cartonFault_J1 at h
       refine wp_region_lit (pN 2 k z fun a k=>nn ?_)
       exact ⟨w64 (Ai + 1),k.keep [2,3,17,18,19] z,m.sel [0,1] z (by decide),h⟩
     refine wp_block (wr (oE h fun Be Bh h=>sv k z (r_ixa Aa Bh k ts43 z z z) fun a k=>?_))
     obtain ⟨Et,Ec,Fb,Bx,De,Cj⟩:=rd_get Aa (ix_some Bh).2.2
     obtain ⟨Cc,_,rfl,rfl,Ay⟩:=Bx
     refine sv k z (r_ldA ta33 (De.agr (m.a00 (Enc.rd_lt Aa)) Cj) z k z z) fun a k=>s_alloc (cs:=[I 0,I 0,.slice none 0 0]) m k zeroValue33 z z z z z fun Ef Ds a k m e Da=>s_stb (cs':=[I Be.fType,I Be.fGroup,Cc]) sizeOf33 m 0 Da 0 k z z z z z z z z z z (allc z (allc z (allc (rd_o Ay) alln))) fun Dk a k e m Bb=>nn (wr (sv k z (r_ldB ta30 m 1 Ao 0 k z z z z z z) fun a k=>sv k z (r_fa fa33_0 k z z) fun a k=>sv k z (r_ldb t13 m 0 Bb 0 k z z z z z) fun a k=>oE h fun Ae Bu h=>?_))
     refine cE k m call18 z z z (c_impl_TypeById fu _ _ (show rd _ _ [I r1.fWay,I r1.fPallet.fW,I r1.fPallet.fD,I r1.fPallet.fH,I r1.fPallet.fGram,I r1.fClasses,v9,Aj,I r1.fMaster,Ah] (r1:Request) from ⟨_,_,_,_,_,_,z,z,(Enc.rd_agr Ac (m.a00 (Enc.rd_lt Ac))),(Enc.rd_agr Ad (m.a00 (Enc.rd_lt Ad))),(Enc.rd_agr Ab (m.a00 (Enc.rd_lt Ab)))⟩) Bu) fun Do e a k m=>pN 3 k z fun a k=>s_alloc (cs:=[I 0,I 0,I 0,I 0,I 0,I 0,I 0]) m k zeroValue38 z z z z z fun Dv Ep a k m e Dd=>?_
     refine s_stb (cs':=[I Ae.1.fId,I Ae.1.fW,I Ae.1.fH,I Ae.1.fD,I Ae.1.fTare,I Ae.1.fGram,I Ae.1.fCost]) sizeOf38 m 0 Dd 0 k z z z z z z z z z z z fun Ez a k e m Ch=>pN 1 k z fun a k=>nn (wr (pN 3 k z fun a k=>bsplit (!Ae.2) (fun Al=>?_) (fun Al=>?_)))
     · have h:=bif_t Al h
       refine rB k 32 z Al fun k=>pN 7 k z fun a k=>?_
       have k:=k.keep [2,3,17,18,19,39] z
       refine nn (wp_cond_true (k.ev z) (wr (pN 1 k z fun a k=>nn (wp_ret (rt_block (rt_then (rt_then (rt_block (rt_then ?_)))))))))
       refine fS h k m z z
     have h:=bif_f Al h
     refine rB k 32 z Al fun k=>sv k z (r_ldB ta30 m 2 Ao 0 k z z z z z z) fun a k=>sv k z (r_fa fa33_2 k z z) fun a k=>sv k z (r_ldb t131 m 1 Bb 2 k z z z z z) fun a k=>sv k z (r_ldB ta38 m 0 Ch 0 k z z z z z z) fun a k=>oE h fun Fd Br h=>cE k m call20 z z z (c_impl_Holds fu _ _ (Ae.1:Typ) (show rd _ _ [I r1.fWay,I r1.fPallet.fW,I r1.fPallet.fD,I r1.fPallet.fH,I r1.fPallet.fGram,I r1.fClasses,v9,Aj,I r1.fMaster,Ah] (r1:Request) from ⟨_,_,_,_,_,_,z,z,(Enc.rd_agr Ac (m.a00 (Enc.rd_lt Ac))),(Enc.rd_agr Ad (m.a00 (Enc.rd_lt Ad))),(Enc.rd_agr Ab (m.a00 (Enc.rd_lt Ab)))⟩) (Enc.rd_agr Ay (m.a00 (Enc.rd_lt Ay))) Br) fun Dw e a k m=>?_
     refine pN 2 k z fun a k=>?_
     have k:=k.keep [2,3,17,18,19,39] z
     refine nn (cI h k z (fun Cw h=>?_) fun Cw h=>?_)
     · refine wr (pN 1 k z fun a k=>nn (wp_ret (rt_block (rt_then (rt_then (rt_block (rt_then ?_)))))))
       refine fS h k m z z
     refine wp_skip (nm_block (nm_then ?_))
     exact ⟨k.keep [2,3,17,18,19] z,m.sel [2,3] z (by decide),h⟩
   refine wp_exit (ex_then (ex_then (ex_same (nm_then ?_))))
   refine wr (sv k z (r_ldB ta30 m 0 Ao 0 k z z z z z z) fun a k=>oE h fun Cb Cd h=>s_call k call195 z z z z z (c_impl_GroupsOf fu _ (show rd _ _ [I r1.fWay,I r1.fPallet.fW,I r1.fPallet.fD,I r1.fPallet.fH,I r1.fPallet.fGram,I r1.fClasses,v9,Aj,I r1.fMaster,Ah] (r1:Request) from ⟨_,_,_,_,_,_,z,z,(Enc.rd_agr Ac (m.a00 (Enc.rd_lt Ac))),(Enc.rd_agr Ad (m.a00 (Enc.rd_lt Ad))),(Enc.rd_agr Ab (m.a00 (Enc.rd_lt Ab)))⟩) Cd) fun Di Cy hR=>?_)
   obtain ⟨Bt,Bk,rfl,e,Ap,Bo⟩:=hR
   refine ⟨_,z,fun a k=>?_⟩
   have m:=m.new e Bk (fun b hb=>⟨Bo b hb,Enc.rd_lt (Enc.ow_rd Ap) b hb⟩) (Enc.ow_nd Ap)
   refine s_alloc (cs:=[.slice none 0 0]) m k zeroValue53 z z z z z fun Aw Ei a k m e Ce=>s_stb1 (cs':=[Bt]) sizeOf53 m 0 Ce 0 k (rd_c (Enc.ow_rd Ap)) (rd_o (Enc.ow_rd Ap)) z z z z z z z z z fun Cg a k e m Bq=>nn (wp_seq (wr (sv k z (r_fa fa74_0 k z z) fun a k=>sv k z (r_ldb t143 m 3 Az 0 k z z z z z) fun a k=>sv k z (r_len (α:=Carton) Aa k underlying43 z z) fun a k=>pN 1 k z fun a k=>nn (wp_block ?_))))
   refine c_loop (fun n a w=>∃ (As:Int),K 77 [(2,.pointer (some (⟨Af,0,none⟩:Addr))),(3,.pointer (some (⟨Ak,0,none⟩:Addr))),(9,.pointer (some (⟨Aw,0,none⟩:Addr))),(44,Am),(45,I ((x5.fCartons.length:Int))),(46,I As)] a ∧ St [] w0 w [([Af],Ar),([Ak],Ax),([Aw],Cg),(Bk,Cy)] ∧ d_impl_cartonFault_L2 fu r1 x5 Cb n As = some r) ?_ ?_ fu _ _ ?_
   · rintro a w ⟨_,_,_,h⟩
     exact nS h
   · rintro Fc a Eg ⟨As,k,m,h⟩
     rw [d_impl_cartonFault_L2_s] at h
     unfold d_impl_cartonFault_L2_B at h
     refine wr (pN 1 k z fun a k=>nn (wp_seq (cI h k z (fun By h=>?_) fun By h=>?_)))
     · refine wp_skip (nm_then ?_)
       refine wp_seq (wp_block (wr (oE h fun Bd Bj h=>sv k z (r_ixa Aa Bj k ts43 z z z) fun a k=>?_)))
       obtain ⟨Du,Ek,Es,Ct,Ca,Df⟩:=rd_get Aa (ix_some Bj).2.2
       obtain ⟨Co,_,rfl,rfl,Aq⟩:=Ct
       refine sv k z (r_ldA ta33 (Ca.agr (m.a00 (Enc.rd_lt Aa)) Df) z k z z) fun a k=>s_alloc (cs:=[I 0,I 0,.slice none 0 0]) m k zeroValue33 z z z z z fun Cu En a k m e Cr=>s_stb (cs':=[I Bd.fType,I Bd.fGroup,Co]) sizeOf33 m 0 Cr 0 k z z z z z z z z z z (allc z (allc z (allc (rd_o Aq) alln))) fun Ea a k e m Bl=>nn (wr (sv k z (r_ldB ta30 m 1 Ao 0 k z z z z z z) fun a k=>sv k z (r_fa fa33_2 k z z) fun a k=>sv k z (r_ldb t131 m 0 Bl 2 k z z z z z) fun a k=>oE h fun Ee Cl h=>?_))
       refine s_call k call76 z z z z z (c_impl_itemsOf fu _ _ (show rd _ _ [I r1.fWay,I r1.fPallet.fW,I r1.fPallet.fD,I r1.fPallet.fH,I r1.fPallet.fGram,I r1.fClasses,v9,Aj,I r1.fMaster,Ah] (r1:Request) from ⟨_,_,_,_,_,_,z,z,(Enc.rd_agr Ac (m.a00 (Enc.rd_lt Ac))),(Enc.rd_agr Ad (m.a00 (Enc.rd_lt Ad))),(Enc.rd_agr Ab (m.a00 (Enc.rd_lt Ab)))⟩) (Enc.rd_agr Aq (m.a00 (Enc.rd_lt Aq))) Cl) fun Dy Dz hR=>?_
       obtain ⟨Em,Bp,rfl,e,Av,Bw⟩:=hR
       refine ⟨_,z,fun a k=>?_⟩
       have m:=m.new e Bp (fun b hb=>⟨Bw b hb,Enc.rd_lt (Enc.ow_rd Av) b hb⟩) (Enc.ow_nd Av)
       refine pN 1 k z fun a k=>oE h fun Er Bz h=>cE k m call75 z z z (c_slices_ContainsFunc_impl_Item_impl_Item fu _ _ (Enc.rd_agr (Enc.ow_rd Av) (m.a 0 z)) ⟨216,[.pointer (some (⟨Cu,0,none⟩:Addr)),.pointer (some (⟨Aw,0,none⟩:Addr))],z,call216,fun w Eu Ev r e Ck hx=>by subst Ck; have m:=m.step e; exact c_impl_cartonFault_1 fu _ _ _ (Bl.agr (m.a 1 rfl) (by simp)) (Enc.rd_agr Aq (m.a00 (Enc.rd_lt Aq))) (Bq.agr (m.a 4 rfl) (by simp)) (Enc.rd_agr (Enc.ow_rd Ap) (m.a 5 rfl)) hx⟩ Bz) fun Eo e a k m=>nn (cI h k rfl (fun Cm h=>?_) fun Cm h=>?_)
       · refine wr (pN 1 k z fun a k=>nn (wp_ret (rt_block (rt_then (rt_then (rt_block (rt_then ?_)))))))
         refine fS h k m z z
       refine wp_skip (nm_block (nm_then ?_))
       refine wp_region_lit (pN 2 k z fun a k=>nn ?_)
       exact ⟨w64 (As + 1),k.keep [2,3,9,44,45,46] z,m.sel [2,3,4,5] z (by decide),h⟩
     refine wp_exit (ex_then (ex_then (ex_same (nm_then ?_))))
     refine wp_seq (wr (sv k z (r_fa fa74_0 k z z) fun a k=>sv k z (r_ldb t143 m 1 Az 0 k z z z z z) fun a k=>sv k z (r_len (α:=Carton) Aa k underlying43 z z) fun a k=>pN 1 k z fun a k=>nn (wp_block (c_loop (fun n a w=>∃ (At:Int),K 77 [(2,.pointer (some (⟨Af,0,none⟩:Addr))),(58,Am),(59,I ((x5.fCartons.length:Int))),(60,I At)] a ∧ St [] w0 w [([Af],Ar)] ∧ d_impl_cartonFault_L1 fu r1 x5 n At = some r) ?_ ?_ fu _ _ ?_))))
     · rintro a w ⟨_,_,_,h⟩
       exact nS h
     · rintro Ey a Dm ⟨At,k,m,h⟩
       rw [d_impl_cartonFault_L1_s] at h
       unfold d_impl_cartonFault_L1_B at h
       refine wr (pN 1 k z fun a k=>nn (wp_seq (cI h k z (fun Cn h=>?_) fun Cn h=>?_)))
       · refine wp_skip (nm_then ?_)
         refine wp_seq (wp_block (wr (oE h fun Bg Ba h=>sv k z (r_ixa Aa Ba k ts43 z z z) fun a k=>?_)))
         obtain ⟨Dh,Dj,Fa,Cx,Cv,Db⟩:=rd_get Aa (ix_some Ba).2.2
         obtain ⟨Cz,_,rfl,rfl,Au⟩:=Cx
         refine sv k z (r_ldA ta33 (Cv.agr (m.a00 (Enc.rd_lt Aa)) Db) z k z z) fun a k=>s_alloc (cs:=[I 0,I 0,.slice none 0 0]) m k zeroValue33 z z z z z fun Dr El a k m e Cs=>s_stb (cs':=[I Bg.fType,I Bg.fGroup,Cz]) sizeOf33 m 0 Cs 0 k z z z z z z z z z z (allc z (allc z (allc (rd_o Au) alln))) fun Ex a k e m Bi=>nn (wr (sv k z (r_ldB ta30 m 1 Ao 0 k z z z z z z) fun a k=>sv k z (r_fa fa33_2 k z z) fun a k=>sv k z (r_ldb t131 m 0 Bi 2 k z z z z z) fun a k=>oE h fun Ag Bv h=>?_))
         refine cE k m call198 z z z (c_impl_Cheapest fu _ _ (show rd _ _ [I r1.fWay,I r1.fPallet.fW,I r1.fPallet.fD,I r1.fPallet.fH,I r1.fPallet.fGram,I r1.fClasses,v9,Aj,I r1.fMaster,Ah] (r1:Request) from ⟨_,_,_,_,_,_,z,z,(Enc.rd_agr Ac (m.a00 (Enc.rd_lt Ac))),(Enc.rd_agr Ad (m.a00 (Enc.rd_lt Ad))),(Enc.rd_agr Ab (m.a00 (Enc.rd_lt Ab)))⟩) (Enc.rd_agr Au (m.a00 (Enc.rd_lt Au))) Bv) fun Eb e a k m=>pN 3 k z fun a k=>s_alloc (cs:=[I 0,I 0,I 0,I 0,I 0,I 0,I 0]) m k zeroValue38 z z z z z fun Dg Dx a k m e Bs=>?_
         refine s_stb (cs':=[I Ag.1.fId,I Ag.1.fW,I Ag.1.fH,I Ag.1.fD,I Ag.1.fTare,I Ag.1.fGram,I Ag.1.fCost]) sizeOf38 m 0 Bs 0 k z z z z z z z z z z z fun Eh a k e m Bn=>pN 1 k z fun a k=>nn (wr (sv k z (r_fa fa38_0 k z z) fun a k=>sv k z (r_ldb t13 m 0 Bn 0 k z z z z z) fun a k=>sv k z (r_fa fa33_0 k z z) fun a k=>sv k z (r_ldb t13 m 1 Bi 0 k z z z z z) fun a k=>pN 1 k z fun a k=>nn (cI h k z (fun Cq h=>?_) fun Cq h=>?_)))
         · refine wr (pN 1 k z fun a k=>nn (wp_ret (rt_block (rt_then (rt_then (rt_block (rt_then ?_)))))))
           refine fS h k m z z
         refine wp_skip (nm_block (nm_then ?_))
         refine wp_region_lit (pN 2 k z fun a k=>nn ?_)
         exact ⟨w64 (At + 1),k.keep [2,58,59,60] z,m.sel [2] z (by decide),h⟩
       refine wp_exit (ex_then (ex_then (ex_same (nm_then ?_))))
       refine wr (pN 1 k z fun a k=>nn (wp_ret (fS h k m z z)))
     exact ⟨0,k.keep [2,58,59,60] z,m.sel [0] z (by decide),h⟩
   exact ⟨0,k.keep [2,3,9,44,45,46] z,m.sel [2,3,0,1] z (by decide),h⟩
 exact ⟨0,k.keep [2,3,17,18,19] z,m.sel [1,0] z (by decide),h⟩
theorem c_impl_Gross (fu:Nat) {w0:World} (r1:Request) (x5:Carton) {Ak:List Value} {F3:List Nat} (Ar:rd w0 F3 Ak r1) {Ai:List Value} {F7:List Nat} (Ay:rd w0 F7 Ai x5) {r:Int}
    (h:d_impl_Gross fu r1 x5 = some r) :
    Calls Tryz.prog 228 #[.agg Ak.toArray,.agg Ai.toArray] w0 fun e w=>e = .returned (I r) ∧ Ext [] w0 w:=by
 refine enter (vs:=[_,_]) func228 z ntmps228 z fun a k=>?_
 have m:=St.start w0
 obtain ⟨v9,Bj,Ag,Bg,Af,Bf,rfl,rfl,Ac,Ad,Ab⟩:=Ar
 obtain ⟨Aw,_,rfl,rfl,Aj⟩:=Ay
 unfold d_impl_Gross at h
 refine wr (s_box (cs:=[I r1.fWay,I r1.fPallet.fW,I r1.fPallet.fD,I r1.fPallet.fH,I r1.fPallet.fGram,I r1.fClasses,v9,Ag,I r1.fMaster,Af]) m k z z z z z z fun Ap Az a k m e Ah=>s_box (cs:=[I x5.fType,I x5.fGroup,Aw]) m k z z z z z z fun Am Aq a k m e Ao=>pN 1 k z fun a k=>nn (wr (sv k z (r_ldB ta30 m 1 Ah 0 k z z z z z z) fun a k=>sv k z (r_fa fa33_0 k z z) fun a k=>sv k z (r_ldb t13 m 0 Ao 0 k z z z z z) fun a k=>oE h fun Aa Av h=>?_)))
 refine cE k m call18 z z z (c_impl_TypeById fu _ _ (show rd _ _ [I r1.fWay,I r1.fPallet.fW,I r1.fPallet.fD,I r1.fPallet.fH,I r1.fPallet.fGram,I r1.fClasses,v9,Ag,I r1.fMaster,Af] (r1:Request) from ⟨_,_,_,_,_,_,z,z,(Enc.rd_agr Ac (m.a00 (Enc.rd_lt Ac))),(Enc.rd_agr Ad (m.a00 (Enc.rd_lt Ad))),(Enc.rd_agr Ab (m.a00 (Enc.rd_lt Ab)))⟩) Av) fun Bm e a k m=>pN 3 k z fun a k=>s_alloc (cs:=[I 0,I 0,I 0,I 0,I 0,I 0,I 0]) m k zeroValue38 z z z z z fun Al Bl a k m e Bc=>?_
 refine s_stb (cs':=[I Aa.1.fId,I Aa.1.fW,I Aa.1.fH,I Aa.1.fD,I Aa.1.fTare,I Aa.1.fGram,I Aa.1.fCost]) sizeOf38 m 0 Bc 0 k z z z z z z z z z z z fun At a k e m Bb=>pN 1 k z fun a k=>nn (c_cut (fun a w=>K 28 [(2,.pointer (some (⟨Ap,0,none⟩:Addr))),(3,.pointer (some (⟨Am,0,none⟩:Addr))),(5,.pointer (some (⟨Al,0,none⟩:Addr)))] a ∧ St [] w0 w [([Ap],Az),([Am],Aq),([Al],At)] ∧ d_impl_Gross_J1 fu r1 x5 Aa = some r) ?_ ?_)
 · rintro a Bk ⟨k,m,h⟩
   unfold d_impl_Gross_J1 at h
   refine wp_seq (d_go [] mixo m z fun Au hMd=>?_)
   have m:=hMd
   have s:=Ext.refl ([]:List Nat) Au
   refine dt k 0 z (by kernel_rfl) z s (fun _ _ _=>id) (fun w s=>r_fa fa38_4 k z z) fun a k=>dt k 1 z (by kernel_rfl) z s (fun _ _ _=>id) (fun w s=>r_ld1 t13 (r:=[]) (Bb.at ((hMd.step s).a 2 z) 4 1 z z z) k z z) fun a k=>dt k 2 z (by kernel_rfl) z s (fun _ _ _=>id) (fun w s=>r_ldA ta30 (Ah.at ((hMd.step s).a 0 z) 0 10 z z z) z k z z) fun a k=>dt k 3 z (by kernel_rfl) z s (fun _ _ _=>id) (fun w s=>r_fa fa33_2 k z z) fun a k=>dt k 4 z (by kernel_rfl) z s (fun _ _ _=>id) (fun w s=>r_ld1 t131 (r:=[]) (Ao.at ((hMd.step s).a 1 z) 2 1 z z z) k z z) fun a k=>d_one 5 (by kernel_rfl) z (oE h fun Bd As h=>?_)
   refine cE k m call166 z z z (c_impl_GramOf fu _ _ (show rd _ _ [I r1.fWay,I r1.fPallet.fW,I r1.fPallet.fD,I r1.fPallet.fH,I r1.fPallet.fGram,I r1.fClasses,v9,Ag,I r1.fMaster,Af] (r1:Request) from ⟨_,_,_,_,_,_,z,z,(Enc.rd_agr Ac (m.a00 (Enc.rd_lt Ac))),(Enc.rd_agr Ad (m.a00 (Enc.rd_lt Ad))),(Enc.rd_agr Ab (m.a00 (Enc.rd_lt Ab)))⟩) (Enc.rd_agr Aj (m.a00 (Enc.rd_lt Aj))) As) fun Bi e a k m=>?_
   have s:=s.trans e (by simp)
   refine wpList_nil ⟨s,?_⟩
   refine dN [6,7] 2 z k (by kernel_rfl) z s (fun _ _ _ _ _=>id) fun a k=>d_done (by kernel_rfl) ((nm_then ?_))
   refine wp_ret (fS h k m z z)
 refine wr (pN 3 k z fun a k=>bsplit (!Aa.2) (fun Ae=>?_) (fun Ae=>?_))
 · have h:=bif_t Ae h
   refine rB k 16 z Ae fun k=>pN 4 k z fun a k=>nn (wp_cond_true (k.ev z) (wr (pN 1 k z fun a k=>nn (wp_ret (rt_then ?_)))))
   refine fS h k m z z
 have h:=bif_f Ae h
 refine rB k 16 z Ae fun k=>sv k z (r_ldB ta30 m 2 Ah 0 k z z z z z z) fun a k=>oE h fun Bh Ax h=>cE k m call61 z z z (c_impl_sound fu _ (show rd _ _ [I r1.fWay,I r1.fPallet.fW,I r1.fPallet.fD,I r1.fPallet.fH,I r1.fPallet.fGram,I r1.fClasses,v9,Ag,I r1.fMaster,Af] (r1:Request) from ⟨_,_,_,_,_,_,z,z,(Enc.rd_agr Ac (m.a00 (Enc.rd_lt Ac))),(Enc.rd_agr Ad (m.a00 (Enc.rd_lt Ad))),(Enc.rd_agr Ab (m.a00 (Enc.rd_lt Ab)))⟩) Ax) fun Be e a k m=>pN 2 k z fun a k=>nn (cI h k z (fun Ba h=>?_) fun Ba h=>?_)
 · refine wr (pN 1 k z fun a k=>nn (wp_ret (rt_then ?_)))
   refine fS h k m z z
 refine wp_skip (nm_then ?_)
 exact ⟨k.keep [2,3,5] z,m.sel [2,1,0] z (by decide),h⟩
theorem c_impl_BoxOf (fu:Nat) {w0:World} (r1:Request) (x5:Carton) {Ap:List Value} {F3:List Nat} (Ay:rd w0 F3 Ap r1) {Al:List Value} {F7:List Nat} (Bd:rd w0 F7 Al x5) {r:Box}
    (h:d_impl_BoxOf fu r1 x5 = some r) :
    Calls Tryz.prog 152 #[.agg Ap.toArray,.agg Al.toArray] w0 fun e w=>e = .returned (.agg (Flat.e r).toArray) ∧ Ext [] w0 w:=by
 refine enter (vs:=[_,_]) func152 z ntmps152 z fun a k=>?_
 have m:=St.start w0
 obtain ⟨v9,Bs,Ah,Bq,Af,Bo,rfl,rfl,Ac,Ad,Ab⟩:=Ay
 obtain ⟨Am,_,rfl,rfl,Ao⟩:=Bd
 unfold d_impl_BoxOf at h
 refine wr (s_box (cs:=[I r1.fWay,I r1.fPallet.fW,I r1.fPallet.fD,I r1.fPallet.fH,I r1.fPallet.fGram,I r1.fClasses,v9,Ah,I r1.fMaster,Af]) m k z z z z z z fun Au Be a k m e Aj=>s_box (cs:=[I x5.fType,I x5.fGroup,Am]) m k z z z z z z fun As Av a k m e At=>s_alloc (cs:=[I 0,I 0,I 0,I 0]) m k zeroValue140 z z z z z fun Ag Ba a k m e Ai=>nn (wr (sv k z (r_ldB ta30 m 2 Aj 0 k z z z z z z) fun a k=>sv k z (r_fa fa33_0 k z z) fun a k=>sv k z (r_ldb t13 m 1 At 0 k z z z z z) fun a k=>oE h fun Aa Bb h=>?_)))
 refine cE k m call18 z z z (c_impl_TypeById fu _ _ (show rd _ _ [I r1.fWay,I r1.fPallet.fW,I r1.fPallet.fD,I r1.fPallet.fH,I r1.fPallet.fGram,I r1.fClasses,v9,Ah,I r1.fMaster,Af] (r1:Request) from ⟨_,_,_,_,_,_,z,z,(Enc.rd_agr Ac (m.a00 (Enc.rd_lt Ac))),(Enc.rd_agr Ad (m.a00 (Enc.rd_lt Ad))),(Enc.rd_agr Ab (m.a00 (Enc.rd_lt Ab)))⟩) Bb) fun Bu e a k m=>pN 3 k z fun a k=>s_alloc (cs:=[I 0,I 0,I 0,I 0,I 0,I 0,I 0]) m k zeroValue38 z z z z z fun Aq Bv a k m e Bh=>?_
 refine s_stb (cs':=[I Aa.1.fId,I Aa.1.fW,I Aa.1.fH,I Aa.1.fD,I Aa.1.fTare,I Aa.1.fGram,I Aa.1.fCost]) sizeOf38 m 0 Bh 0 k z z z z z z z z z z z fun Bc a k e m Ak=>pN 1 k z fun a k=>nn (c_cut (fun a w=>K 32 [(2,.pointer (some (⟨Au,0,none⟩:Addr))),(3,.pointer (some (⟨As,0,none⟩:Addr))),(4,.pointer (some (⟨Ag,0,none⟩:Addr))),(5,.pointer (some (⟨Aq,0,none⟩:Addr)))] a ∧ St [] w0 w [([Au],Be),([As],Av),([Ag],Ba),([Aq],Bc)] ∧ d_impl_BoxOf_J1 fu r1 x5 Aa = some r) ?_ ?_)
 · rintro a Bm ⟨k,m,h⟩
   unfold d_impl_BoxOf_J1 at h
   refine wp_seq (d_go ([Ag]) mixo m z fun Aw hMd=>?_)
   have m:=hMd
   have s:=Ext.refl (([Ag]):List Nat) Aw
   refine dt k 0 z (by kernel_rfl) z s (fun _ _ _=>id) (fun w s=>r_fa fa38_1 k z z) fun a k=>dt k 1 z (by kernel_rfl) z s (fun _ _ _=>id) (fun w s=>r_ld1 t13 (r:=[]) (Ak.at (hMd.az 3 2 z z z s) 1 1 z z z) k z z) fun a k=>dt k 2 z (by kernel_rfl) z s (fun _ _ _=>id) (fun w s=>r_fa fa38_3 k z z) fun a k=>dt k 3 z (by kernel_rfl) z s (fun _ _ _=>id) (fun w s=>r_ld1 t13 (r:=[]) (Ak.at (hMd.az 3 2 z z z s) 3 1 z z z) k z z) fun a k=>dt k 4 z (by kernel_rfl) z s (fun _ _ _=>id) (fun w s=>r_fa fa38_2 k z z) fun a k=>dt k 5 z (by kernel_rfl) z s (fun _ _ _=>id) (fun w s=>r_ld1 t13 (r:=[]) (Ak.at (hMd.az 3 2 z z z s) 2 1 z z z) k z z) fun a k=>?_
   refine dt k 6 z (by kernel_rfl) z s (fun _ _ _=>id) (fun w s=>r_ldA ta30 (Aj.at (hMd.az 0 2 z z z s) 0 10 z z z) z k z z) fun a k=>dt k 7 z (by kernel_rfl) z s (fun _ _ _=>id) (fun w s=>r_ldA ta33 (At.at (hMd.az 1 2 z z z s) 0 3 z z z) z k z z) fun a k=>d_one 8 (by kernel_rfl) z (oE h fun Ar Ax h=>?_)
   refine cE k m call228 z z z (c_impl_Gross fu _ _ (show rd _ _ [I r1.fWay,I r1.fPallet.fW,I r1.fPallet.fD,I r1.fPallet.fH,I r1.fPallet.fGram,I r1.fClasses,v9,Ah,I r1.fMaster,Af] (r1:Request) from ⟨_,_,_,_,_,_,z,z,(Enc.rd_agr Ac (m.a00 (Enc.rd_lt Ac))),(Enc.rd_agr Ad (m.a00 (Enc.rd_lt Ad))),(Enc.rd_agr Ab (m.a00 (Enc.rd_lt Ab)))⟩) (show rd _ _ [I x5.fType,I x5.fGroup,Am] (x5:Carton) from ⟨_,_,z,z,(Enc.rd_agr Ao (m.a00 (Enc.rd_lt Ao)))⟩) Ax) fun Bk e a k m=>?_
   have s:=s.trans e (by simp)
   refine wpList_nil ⟨s,?_⟩
   refine dt k 9 z (by kernel_rfl) z s (fun _ _ _=>id) (fun w s=>r_build bt140 k (cs:=#[I Aa.1.fW,I Aa.1.fD,I Aa.1.fH,I Ar]) (ps:=[(0,.tmp 23),(1,.tmp 25),(2,.tmp 27),(3,.tmp 30)]) z z (by kernel_rfl)) fun a k=>d_one 10 (by kernel_rfl) z (s_stb (cs':=[I Aa.1.fW,I Aa.1.fD,I Aa.1.fH,I Ar]) sizeOf140 m 2 Ai 0 k z z z z z z z z z z z fun Bt a k e m Bj=>?_)
   have s:=s.trans e (fun y hy=>Or.inl hy)
   refine wpList_nil ⟨s,?_⟩
   refine d_done (by kernel_rfl) ((nm_then ?_))
   refine wp_ret ?_
   cases h
   exact finR1 k z (RV.cA k z ta140 (Bj.at (m.a 2 z) 0 4 z z z) z) ⟨z,m.ext⟩
 refine wr (pN 3 k z fun a k=>bsplit (!Aa.2) (fun Ae=>?_) (fun Ae=>?_))
 · have h:=bif_t Ae h
   refine rB k 16 z Ae fun k=>pN 4 k z fun a k=>nn (wp_cond_true (k.ev z) (wr (sv k z (r_build bt140 k (cs:=#[I 0,I 0,I 0,I 0]) (ps:=[]) z z (by kernel_rfl)) fun a k=>s_stb (cs':=[I 0,I 0,I 0,I 0]) sizeOf140 m 1 Ai 0 k z z z z z z z z z z z fun Bn a k e m Bg=>nn (wp_ret (rt_then ?_)))))
   cases h
   exact finR1 k z (RV.cA k z ta140 (Bg.at (m.a 1 z) 0 4 z z z) z) ⟨z,m.ext⟩
 have h:=bif_f Ae h
 refine rB k 16 z Ae fun k=>sv k z (r_ldB ta30 m 3 Aj 0 k z z z z z z) fun a k=>oE h fun Bp Bi h=>cE k m call61 z z z (c_impl_sound fu _ (show rd _ _ [I r1.fWay,I r1.fPallet.fW,I r1.fPallet.fD,I r1.fPallet.fH,I r1.fPallet.fGram,I r1.fClasses,v9,Ah,I r1.fMaster,Af] (r1:Request) from ⟨_,_,_,_,_,_,z,z,(Enc.rd_agr Ac (m.a00 (Enc.rd_lt Ac))),(Enc.rd_agr Ad (m.a00 (Enc.rd_lt Ad))),(Enc.rd_agr Ab (m.a00 (Enc.rd_lt Ab)))⟩) Bi) fun Br e a k m=>pN 2 k z fun a k=>nn (cI h k z (fun Az h=>?_) fun Az h=>?_)
 · refine wr (sv k z (r_build bt140 k (cs:=#[I 0,I 0,I 0,I 0]) (ps:=[]) z z (by kernel_rfl)) fun a k=>s_stb (cs':=[I 0,I 0,I 0,I 0]) sizeOf140 m 1 Ai 0 k z z z z z z z z z z z fun Bl a k e m Bf=>nn (wp_ret (rt_then ?_)))
   cases h
   exact finR1 k z (RV.cA k z ta140 (Bf.at (m.a 1 z) 0 4 z z z) z) ⟨z,m.ext⟩
 refine wp_skip (nm_then ?_)
 exact ⟨k.keep [2,3,4,5] z,m.sel [3,2,1,0] z (by decide),h⟩

end Go.Proofs.YtlmibnlfkmiikaaGreat
