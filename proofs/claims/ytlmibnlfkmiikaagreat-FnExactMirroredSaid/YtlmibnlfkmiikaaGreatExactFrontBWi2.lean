/- FnExactFront: the walks of functions that it reaches (ExactFrontBWi,part 2). Printed by gen.py. -/
import Derived.Test.YtlmibnlfkmiikaaGreatExactFrontBWi1
set_option maxRecDepth 20000
set_option linter.unusedSimpArgs false
set_option linter.unusedVariables false
namespace Go.Proofs.YtlmibnlfkmiikaaGreat
open Go Go.RowKit
open Enc (rd ow)
open Arg (argv)
open Ret (retv)
open Go.Proofs.Tryz

theorem c_slices_IndexFunc_impl_Carton_impl_Carton (fu:Nat) {w0:World} (Aa:List Carton) (f5:Carton → Option Bool) {v2:Value} {F3:List Nat} (Ac:rd w0 F3 [v2] Aa) {v6:Value} (Ap:FnOk1 Tryz.prog w0 v6 f5) {r:Int}
    (h:d_slices_IndexFunc_impl_Carton_impl_Carton fu Aa f5 = some r) :
    Calls Tryz.prog 212 #[v2,v6] w0 fun e w=>e = .returned (I r) ∧ Ext [] w0 w:=by
 refine enter (vs:=[_,_]) func212 z ntmps212 z fun a k=>?_
 have m:=St.start w0
 obtain ⟨As,Ai,rfl,Aq,Am⟩:=Ap
 unfold d_slices_IndexFunc_impl_Carton_impl_Carton at h
 refine wr (pN 1 k z fun a k=>nn (wp_seq (wr (pN 1 k z fun a k=>sv k z (r_len (α:=Carton) Ac k underlying43 z z) fun a k=>pN 1 k z fun a k=>nn (wp_block (c_loop (fun n a w=>∃ (Ab:Int),K 19 [(0,v2),(1,(.func (.func As) #[] Ai.toArray)),(7,I ((Aa.length:Int))),(8,I Ab)] a ∧ St [] w0 w [] ∧ d_slices_IndexFunc_impl_Carton_impl_Carton_L1 fu Aa f5 n Ab = some r) ?_ ?_ fu _ _ ?_))))))
 · rintro a w ⟨_,_,_,h⟩
   exact nS h
 · rintro Az a Ax ⟨Ab,k,m,h⟩
   rw [d_slices_IndexFunc_impl_Carton_impl_Carton_L1_s] at h
   unfold d_slices_IndexFunc_impl_Carton_impl_Carton_L1_B at h
   refine wr (pN 1 k z fun a k=>nn (wp_seq (cI h k z (fun Al h=>?_) fun Al h=>?_)))
   · refine wp_skip (nm_then ?_)
     refine wp_seq (wp_block (wr (pN 2 k z fun a k=>nn (wr (pN 3 k z fun a k=>oE h fun Ad Ae h=>sv k z (r_ixa Ac Ae k ts43 z z z) fun a k=>?_)))))
     obtain ⟨Av,Aw,Au,Aj,Ag,Ar⟩:=rd_get Ac (ix_some Ae).2.2
     obtain ⟨Ah,_,rfl,rfl,Af⟩:=Aj
     refine sv k z (r_ldA ta33 (Ag.agr (m.a00 (Enc.rd_lt Ac)) Ar) z k z z) fun a k=>oE h fun At Ao h=>s_callv k Aq z z z z z z (Am _ _ _ _ m.ext ⟨_,_,z,(show rd _ _ [I Ad.fType,I Ad.fGroup,Ah] (Ad:Carton) from ⟨_,_,z,z,(Enc.rd_agr Af (m.a00 (Enc.rd_lt Af)))⟩)⟩ Ao) fun Ba Ay hR=>?_
     obtain ⟨rfl,e⟩:=hR
     refine ⟨_,z,fun a k=>?_⟩
     have m:=m.step e
     refine nn (cI h k z (fun Ak h=>?_) fun Ak h=>?_)
     · refine wr (pN 2 k z fun a k=>nn (wp_ret (rt_block (rt_then (rt_then (rt_block (rt_then ?_)))))))
       refine fS h k m z z
     refine wp_skip (nm_block (nm_then ?_))
     refine wp_region_lit (pN 2 k z fun a k=>nn ?_)
     exact ⟨w64 (Ab + 1),k.keep [0,1,7,8] z,m.sel [] z (by decide),h⟩
   refine wp_exit (ex_then (ex_then (ex_same (nm_then ?_))))
   refine wr (pN 1 k z fun a k=>nn (wp_ret (fS h k m z z)))
 exact ⟨0,k.keep [0,1,7,8] z,m.sel [] z (by decide),h⟩
theorem c_slices_ContainsFunc_impl_Carton_impl_Carton (fu:Nat) {w0:World} (Aa:List Carton) (f5:Carton → Option Bool) {v2:Value} {F3:List Nat} (Ab:rd w0 F3 [v2] Aa) {v6:Value} (Ag:FnOk1 Tryz.prog w0 v6 f5) {r:Bool}
    (h:d_slices_ContainsFunc_impl_Carton_impl_Carton fu Aa f5 = some r) :
    Calls Tryz.prog 121 #[v2,v6] w0 fun e w=>e = .returned (.bool (r)) ∧ Ext [] w0 w:=by
 refine enter (vs:=[_,_]) func121 z ntmps121 z fun a k=>?_
 have m:=St.start w0
 obtain ⟨Aj,Al,rfl,Ae,Af⟩:=Ag
 unfold d_slices_ContainsFunc_impl_Carton_impl_Carton at h
 refine wr (pN 1 k z fun a k=>nn (wr (pN 2 k z fun a k=>oE h fun Ak Ac h=>cE k m call212 z z z (c_slices_IndexFunc_impl_Carton_impl_Carton fu _ _ (Enc.rd_agr Ab (m.a00 (Enc.rd_lt Ab))) ⟨_,_,z,Ae,fun w Ah Ad r e=>Af w Ah Ad r (m.ext.trans e (by simp))⟩ Ac) fun Ai e a k m=>pN 2 k z fun a k=>nn (wp_ret (fS h k m z z)))))
theorem c_impl_Check_1 (fu:Nat) {w0:World} (c1:Carton) {Aa:List Value} {F3:List Nat} (Ac:rd w0 F3 Aa c1) {r:Bool}
    (h:d_impl_Check_1 fu c1 = some r) :
    Calls Tryz.prog 122 #[.agg Aa.toArray] w0 fun e w=>e = .returned (.bool (r)) ∧ Ext [] w0 w:=by
 refine enter (vs:=[_]) func122 z ntmps122 z fun a k=>?_
 have m:=St.start w0
 obtain ⟨v5,_,rfl,rfl,Ab⟩:=Ac
 unfold d_impl_Check_1 at h
 refine wr (s_box (cs:=[I c1.fType,I c1.fGroup,v5]) m k z z z z z z fun b7 w9 a k m e Ad=>pN 1 k z fun a k=>nn (wr (sv k z (r_fa fa33_2 k z z) fun a k=>sv k z (r_ldb t131 m 0 Ad 2 k z z z z z) fun a k=>sv k z (r_len (α:=Int) Ab k underlying31 z z) fun a k=>pN 2 k z fun a k=>nn (wp_ret (fS h k m z z)))))
theorem c_impl_allUnits (fu:Nat) {w0:World} (x1:Plan) {Aj:List Value} {F3:List Nat} (Ba:rd w0 F3 Aj x1) {r:(List Int)}
    (h:d_impl_allUnits fu x1 = some r) :
    Calls Tryz.prog 123 #[.agg Aj.toArray] w0 fun e w=>∃ (v0:Value) (G0:List Nat),e = .returned (v0) ∧ Ext [] w0 w ∧ ow w G0 [v0] r ∧ (∀ b ∈ G0,w0.heap.size ≤ b):=by
 refine enter (vs:=[_]) func123 z ntmps123 z fun a k=>?_
 have m:=St.start w0
 obtain ⟨v5,F6,v7,F8,rfl,rfl,Ac,Bf⟩:=Ba
 unfold d_impl_allUnits at h
 refine wr (s_box (cs:=[v5,v7]) m k z z z z z z fun Bq Bh a k m e At=>pN 1 k z fun a k=>nn (wr (s_bs (cs:=[]) (ps:=[]) te31 m k z z z z z z z (by decide) z (by exact (List.forall_mem_nil _)) fun Ai Bc Bn a k m e Bd=>?_)))
 have Ao:=ow_bx Bd ([]:List Int) z z z
 refine pN 1 k z fun a k=>nn (wp_seq (wr (sv k z (r_fa fa74_0 k z z) fun a k=>sv k z (r_ldb t143 m 1 At 0 k z z z z z) fun a k=>sv k z (r_len (α:=Carton) Ac k underlying43 z z) fun a k=>pN 1 k z fun a k=>nn (wp_block (c_loop (fun n a w=>∃ (Ag:List Int) (Af:Value) (Aa:List Nat) (Ad:World) (Ab:Int),K 20 [(3,Af),(8,v5),(9,I ((x1.fCartons.length:Int))),(10,I Ab)] a ∧ St [] w0 w [(Aa,Ad)] ∧ ow Ad Aa [Af] Ag ∧ d_impl_allUnits_L1 fu x1 n Ag Ab = some r) ?_ ?_ fu _ _ ?_)))))
 · rintro a w ⟨_,_,_,_,_,_,_,_,h⟩
   exact nS h
 · rintro Bm a Bg ⟨Ag,Af,Aa,Ad,Ab,k,m,Ah,h⟩
   rw [d_impl_allUnits_L1_s] at h
   unfold d_impl_allUnits_L1_B at h
   refine wr (pN 1 k z fun a k=>nn (wp_seq (cI h k z (fun Au h=>?_) fun Au h=>?_)))
   · refine wp_skip (nm_then ?_)
     refine wp_seq (wp_block (wr (oE h fun Al Ak h=>sv k z (r_ixa Ac Ak k ts43 z z z) fun a k=>?_)))
     obtain ⟨Bk,Bo,Bj,Ap,Az,Ay⟩:=rd_get Ac (ix_some Ak).2.2
     obtain ⟨Bb,_,rfl,rfl,Ae⟩:=Ap
     refine sv k z (r_ldA ta33 (Az.agr (m.a00 (Enc.rd_lt Ac)) Ay) z k z z) fun a k=>s_alloc (cs:=[I 0,I 0,.slice none 0 0]) m k zeroValue33 z z z z z fun Bi Bl a k m e Aq=>s_stb (cs':=[I Al.fType,I Al.fGroup,Bb]) sizeOf33 m 0 Aq 0 k z z z z z z z z z z (allc z (allc z (allc (rd_o Ae) alln))) fun Bp a k e m Ar=>nn (wp_region_lit (pN 1 k z fun a k=>sv k z (r_fa fa33_2 k z z) fun a k=>sv k z (r_ldb t131 m 0 Ar 2 k z z z z z) fun a k=>oE h fun Av Aw h=>s_appF Aw te31 z m 1 Ah (News.rd (Enc.rd_agr Ae (m.a00 (Enc.rd_lt Ae)))) z z k z z z z z z z fun Am As Ax a k e m Be=>pN 1 k z fun a k=>wpList_nil (nm_block (nm_then ?_))))
     refine wp_region_lit (pN 2 k z fun a k=>nn ?_)
     exact ⟨Av,Am,As,Ax,w64 (Ab + 1),k.keep [3,8,9,10] z,m.sel [1] z (by decide),Be,h⟩
   refine wp_exit (ex_then (ex_then (ex_same (nm_then ?_))))
   refine wr (pN 2 k z fun a k=>nn (wp_ret ?_))
   cases h
   exact finR1 k z (RV.tmp k z) ⟨_,Aa,z,m.ext,(Enc.ow_agr Ah (m.a 0 z)),(m.fresh 0 z)⟩
 exact ⟨([]:List Int),(.slice (some ⟨Ai,0,none⟩) 0 0),[Ai],Bc,0,k.keep [3,8,9,10] z,m.sel [0] z (by decide),Ao,h⟩
theorem c_bits_Mul32 (fu:Nat) {w0:World} (x1:Int) (y2:Int)  {r:Int × Int}
    (h:d_bits_Mul32 fu x1 y2 = some r) :
    Calls Tryz.prog 301 #[.int .u32 (x1),.int .u32 (y2)] w0 fun e w=>e = .returned (.tuple #[.int .u32 (r.1),.int .u32 (r.2)]) ∧ Ext [] w0 w:=by
 refine enter (vs:=[_,_]) func301 z ntmps301 z fun a k=>?_
 have m:=St.start w0
 unfold d_bits_Mul32 at h
 refine wr (pN 2 k z fun a k=>nn (wr (pN 1 k z fun a k=>sv k z (r_cv k underlying233 underlying235 z z) fun a k=>pN 1 k z fun a k=>sv k z (r_cv k underlying233 underlying235 z z) fun a k=>pN 2 k z fun a k=>nn (wr (pN 1 k z fun a k=>sv k z (r_shr (y:=32) k z z z) fun a k=>sv k z (r_cv k underlying235 underlying233 z z) fun a k=>pN 1 k z fun a k=>sv k z (r_cv k underlying235 underlying233 z z) fun a k=>pN 2 k z fun a k=>nn (wp_ret ?_))))))
 cases h
 exact finR2 k z (RV.tmp k z) (RV.tmp k z) ⟨z,m.ext⟩
theorem c_bits_Mul64 (fu:Nat) {w0:World} (x1:Int) (y2:Int)  {r:Int × Int}
    (h:d_bits_Mul64 fu x1 y2 = some r) :
    Calls Tryz.prog 302 #[.int .u64 (x1),.int .u64 (y2)] w0 fun e w=>e = .returned (.tuple #[.int .u64 (r.1),.int .u64 (r.2)]) ∧ Ext [] w0 w:=by
 refine enter (vs:=[_,_]) func302 z ntmps302 z fun a k=>?_
 have m:=St.start w0
 unfold d_bits_Mul64 at h
 refine wr (pN 2 k z fun a k=>nn (wr (pN 3 k z fun a k=>nn (wr (pN 1 k z fun a k=>sv k z (r_shr (y:=32) k z z z) fun a k=>pN 1 k z fun a k=>nn (wr (pN 3 k z fun a k=>nn (wr (pN 1 k z fun a k=>sv k z (r_shr (y:=32) k z z z) fun a k=>pN 1 k z fun a k=>nn (wr (pN 4 k z fun a k=>nn (wr (pN 4 k z fun a k=>sv k z (r_shr (y:=32) k z z z) fun a k=>pN 2 k z fun a k=>?_)))))))))))))
 have k:=k.keep [0,1,6,7,9,11] z
 refine nn (wr (pN 3 k z fun a k=>nn (wr (pN 1 k z fun a k=>sv k z (r_shr (y:=32) k z z z) fun a k=>pN 1 k z fun a k=>nn (wr (pN 6 k z fun a k=>nn (wr (pN 6 k z fun a k=>sv k z (r_shr (y:=32) k z z z) fun a k=>pN 2 k z fun a k=>?_))))))))
 have k:=k.keep [0,1,4] z
 refine nn (wr (pN 4 k z fun a k=>nn (wp_ret ?_)))
 cases h
 exact finR2 k z (RV.tmp k z) (RV.tmp k z) ⟨z,m.ext⟩
theorem c_bits_Mul (fu:Nat) {w0:World} (x1:Int) (y2:Int)  {r:Int × Int}
    (h:d_bits_Mul fu x1 y2 = some r) :
    Calls Tryz.prog 272 #[.int .u64 (x1),.int .u64 (y2)] w0 fun e w=>e = .returned (.tuple #[.int .u64 (r.1),.int .u64 (r.2)]) ∧ Ext [] w0 w:=by
 refine enter (vs:=[_,_]) func272 z ntmps272 z fun a k=>?_
 have m:=St.start w0
 unfold d_bits_Mul at h
 refine wr (pN 2 k z fun a k=>nn (wp_seq (wp_cond_false (k.ev z) (wp_skip (nm_then ?_)))))
 refine wr (pN 2 k z fun a k=>oE h fun x3 Aa h=>cE k m call302 z z z (c_bits_Mul64 fu _ _  Aa) fun w6 e a k m=>pN 5 k z fun a k=>nn (wr (pN 4 k z fun a k=>nn (wp_ret ?_))))
 cases h
 exact finR2 k z (RV.tmp k z) (RV.tmp k z) ⟨z,m.ext⟩
theorem c_slices_Repeat_int_int (fu:Nat) {w0:World} (x1:List Int) (Ag:Int) {v2:Value} {F3:List Nat} (Ai:rd w0 F3 [v2] x1) {r:(List Int)}
    (h:d_slices_Repeat_int_int fu x1 Ag = some r) :
    Calls Tryz.prog 215 #[v2,I Ag] w0 fun e w=>∃ (v0:Value) (G0:List Nat),e = .returned (v0) ∧ Ext [] w0 w ∧ ow w G0 [v0] r ∧ (∀ b ∈ G0,w0.heap.size ≤ b):=by
 refine enter (vs:=[_,_]) func215 z ntmps215 z fun a k=>?_
 have m:=St.start w0
 unfold d_slices_Repeat_int_int at h
 refine wr (pN 1 k z fun a k=>nn (c_cut (fun a w=>K 48 [(0,v2),(1,I Ag)] a ∧ St [] w0 w [] ∧ d_slices_Repeat_int_int_J2 fu x1 Ag = some r) ?_ ?_))
 · rintro a w7 ⟨k,m,h⟩
   unfold d_slices_Repeat_int_int_J2 at h
   refine wr (pN 1 k z fun a k=>sv k z (r_len (α:=Int) Ai k underlying31 z z) fun a k=>sv k z (r_cv k underlying3 underlying200 z z) fun a k=>pN 1 k z fun a k=>sv k z (r_cv k underlying3 underlying200 z z) fun a k=>oE h fun x8 Bb h=>cE k m call272 z z z (c_bits_Mul fu _ _  Bb) fun Bk e a k m=>pN 5 k z fun a k=>nn (c_cut (fun a w=>K 48 [(0,v2),(6,.int .u64 (x8.2))] a ∧ St [] w0 w [] ∧ d_slices_Repeat_int_int_J1 fu x1 x8 = some r) ?_ ?_))
   · rintro a Bl ⟨k,m,h⟩
     unfold d_slices_Repeat_int_int_J1 at h
     refine wr (pN 1 k z fun a k=>sv k z (r_cv k underlying200 underlying3 z z) fun a k=>oE h fun Ak Aw h=>s_mk Aw te31 z z m k z z z z z z fun Av Bn a Al k m e At=>pN 1 k z fun a k=>nn (wr (pN 2 k z fun a k=>s_cp (lo:=0) te31 m 0 At (Part.self _) (Enc.rd_agr Ai (m.a00 (Enc.rd_lt Ai))) k z z z z z z z fun Az a k e m Au=>pN 1 k z fun a k=>nn (wp_seq (wp_block (c_loop (fun n a w=>∃ (Ad:List Int) (Af:Value) (Ab:List Nat) (Ah:World) (Aa:Int),K 48 [(7,Af),(8,I Aa)] a ∧ St [] w0 w [(Ab,Ah)] ∧ ow Ah Ab [Af] Ad ∧ d_slices_Repeat_int_int_L1 fu  n Ad Aa = some r) ?_ ?_ fu _ _ ?_))))))
     · rintro a w ⟨_,_,_,_,_,_,_,_,h⟩
       exact nS h
     · rintro Bh a Bi ⟨Ad,Af,Ab,Ah,Aa,k,m,Ae,h⟩
       rw [d_slices_Repeat_int_int_L1_s] at h
       unfold d_slices_Repeat_int_int_L1_B at h
       refine wp_seq (wr (pN 2 k z fun a k=>sv k z (r_len (α:=Int) (Enc.ow_rd Ae) k underlying31 z z) fun a k=>pN 1 k z fun a k=>nn (cI h k z (fun Am h=>?_) fun Am h=>?_)))
       · refine wp_skip (nm_then ?_)
         refine wp_block (d_go (Ab) mixo m z fun As hMd=>?_)
         have m:=hMd
         have s:=Ext.refl ((Ab):List Nat) As
         refine dN [0,1,2,4,5] 5 z k (by kernel_rfl) z s (fun _ _ _ _ _=>id) fun a k=>oE h fun Bj Ay h=>?_
         obtain ⟨Bm,Bf,Ax,Ba⟩:=sl_from (Enc.ow_rd Ae) Ay ts31
         refine dt k 3 z (by kernel_rfl) z s (fun _ _ _=>id) (fun w s=>Ba k z z z _) fun a k=>oE h fun Aj Bc h=>?_
         obtain ⟨Bg,Ap,Ar⟩:=sl_to (Enc.ow_rd Ae) Bc ts31
         refine dt k 6 z (by kernel_rfl) z s (fun _ _ _=>id) (fun w s=>Ar k z z z _) fun a k=>d_one 7 (by kernel_rfl) z (s_cp (lo:=Aa) te31 m 0 Ae Ax (Enc.rd_agr Ap (m.a 0 z)) k z z z z z z z fun Bd a k e m Be=>?_)
         have s:=s.trans e (fun y hy=>Or.inl hy)
         refine wpList_nil ⟨s,?_⟩
         refine dN [8,9] 2 z k (by kernel_rfl) z s (fun _ _ _ _ _=>id) fun a k=>d_done (by kernel_rfl) ((nm_block (nm_then ?_)))
         exact ⟨cpd Ad Aa Aj,Af,Ab,Bd,w64 (Aa + (cpn Ad Aa Aj)),k.keep [7,8] z,m.sel [0] z (by decide),Be,h⟩
       refine wp_exit (ex_then (ex_then (ex_same (nm_then ?_))))
       refine wr (pN 2 k z fun a k=>nn (wp_ret ?_))
       cases h
       exact finR1 k z (RV.tmp k z) ⟨_,Ab,z,m.ext,(Enc.ow_agr Ae (m.a 0 z)),(m.fresh 0 z)⟩
     exact ⟨cpd Ak 0 x1,Al,[Av],Az,cpn Ak 0 x1,k.keep [7,8] z,m.sel [0] z (by decide),Au,h⟩
   refine wr (pN 3 k z fun a k=>bsplit (decide (x8.1 > 0)) (fun Ac=>?_) (fun Ac=>?_))
   · have h:=bif_t Ac h
     refine rB k 23 z Ac fun k=>pN 3 k z fun a k=>nn (wp_cond_true (k.ev z) ?_)
     exact nS h
   have h:=bif_f Ac h
   refine rB k 23 z Ac fun k=>pN 3 k z fun a k=>nn (cI h k z (fun Ao h=>?_) fun Ao h=>?_)
   · exact nS h
   refine wp_skip (nm_then ?_)
   exact ⟨k.keep [0,6] z,m.sel [] z (by decide),h⟩
 refine wr (pN 2 k z fun a k=>nn (cI h k z (fun Aq h=>?_) fun Aq h=>?_))
 · exact nS h
 refine wp_skip (nm_then ?_)
 exact ⟨k.keep [0,1] z,m.sel [] z (by decide),h⟩
theorem c_impl_Units (fu:Nat) {w0:World} (r1:Request) {Aj:List Value} {F3:List Nat} (Bc:rd w0 F3 Aj r1) {r:(List Int)}
    (h:d_impl_Units fu r1 = some r) :
    Calls Tryz.prog 127 #[.agg Aj.toArray] w0 fun e w=>∃ (v0:Value) (G0:List Nat),e = .returned (v0) ∧ Ext [] w0 w ∧ ow w G0 [v0] r ∧ (∀ b ∈ G0,w0.heap.size ≤ b):=by
 refine enter (vs:=[_]) func127 z ntmps127 z fun a k=>?_
 have m:=St.start w0
 obtain ⟨v5,F6,v7,F8,v9,Br,rfl,rfl,Ai,Ak,Ac⟩:=Bc
 unfold d_impl_Units at h
 refine wr (s_box (cs:=[I r1.fWay,I r1.fPallet.fW,I r1.fPallet.fD,I r1.fPallet.fH,I r1.fPallet.fGram,I r1.fClasses,v5,v7,I r1.fMaster,v9]) m k z z z z z z fun Bl Bs a k m e Am=>pN 1 k z fun a k=>nn (wp_seq (wr (sv k z (r_ldB ta30 m 0 Am 0 k z z z z z z) fun a k=>oE h fun Bp Bi h=>cE k m call61 z z z (c_impl_sound fu _ (show rd _ _ [I r1.fWay,I r1.fPallet.fW,I r1.fPallet.fD,I r1.fPallet.fH,I r1.fPallet.fGram,I r1.fClasses,v5,v7,I r1.fMaster,v9] (r1:Request) from ⟨_,_,_,_,_,_,z,z,(Enc.rd_agr Ai (m.a00 (Enc.rd_lt Ai))),(Enc.rd_agr Ak (m.a00 (Enc.rd_lt Ak))),(Enc.rd_agr Ac (m.a00 (Enc.rd_lt Ac)))⟩) Bi) fun Bv e a k m=>?_))))
 refine pN 1 k z fun a k=>nn (cI h k z (fun Ar h=>?_) fun Ar h=>?_)
 · refine wr (pN 1 k z fun a k=>nn (wp_ret (rt_then ?_)))
   cases h
   exact finR1 k z (RV.tmp k z) ⟨_,[],z,m.ext,(ow_nil _),(by simp)⟩
 refine wp_skip (nm_then ?_)
 refine wr (s_bs (cs:=[]) (ps:=[]) te31 m k z z z z z z z (by decide) z (by exact (List.forall_mem_nil _)) fun Al Aw Bu a k m e Bd=>?_)
 have Bb:=ow_bx Bd ([]:List Int) z z z
 refine pN 1 k z fun a k=>nn (wp_seq (wr (sv k z (r_fa fa30_6 k z z) fun a k=>sv k z (r_ldb t128 m 1 Am 9 k z z z z z) fun a k=>sv k z (r_len (α:=Item) Ac k underlying28 z z) fun a k=>pN 1 k z fun a k=>nn (wp_block (c_loop (fun n a w=>∃ (Ah:List Int) (Af:Value) (Ad:List Nat) (Ae:World) (Ab:Int),K 27 [(3,Af),(11,v9),(12,I ((r1.fItems.length:Int))),(13,I Ab)] a ∧ St [] w0 w [(Ad,Ae)] ∧ ow Ae Ad [Af] Ah ∧ d_impl_Units_L1 fu r1 n Ah Ab = some r) ?_ ?_ fu _ _ ?_)))))
 · rintro a w ⟨_,_,_,_,_,_,_,_,h⟩
   exact nS h
 · rintro By a Bm ⟨Ah,Af,Ad,Ae,Ab,k,m,Ap,h⟩
   rw [d_impl_Units_L1_s] at h
   unfold d_impl_Units_L1_B at h
   refine wr (pN 1 k z fun a k=>nn (wp_seq (cI h k z (fun Az h=>?_) fun Az h=>?_)))
   · refine wp_skip (nm_then ?_)
     refine wp_seq (wp_block (wr (pN 1 k z fun a k=>oE h fun Aa Ao h=>sv k z (r_ixa Ac Ao k ts28 z z z) fun a k=>sv k z (r_lde Ac (m.a00 (Enc.rd_lt Ac)) Ao ta97 k z z) fun a k=>s_alloc (cs:=[I 0,I 0,I 0,I 0,I 0,I 0,I 0]) m k zeroValue97 z z z z z fun Bz Bw a k m e Ba=>pN 1 k z fun a k=>s_stb (cs':=[I Aa.fId,I Aa.fW,I Aa.fH,I Aa.fD,I Aa.fGram,I Aa.fClass,I Aa.fCount]) sizeOf97 m 0 Ba 0 k z z z z z z z z z z z fun Bn a k e m Bf=>nn (wp_region_lit (pN 2 k z fun a k=>?_)))))
     refine s_bs (cs:=[I Ab]) (ps:=[(0,.tmp 19)]) te31 m k z z z z z z z (by decide) z (by exact (List.forall_mem_cons.2 ⟨z,(List.forall_mem_nil _)⟩)) fun Bo Bt Bx a k m e Ay=>?_
     have Au:=ow_bx Ay ([Ab]:List Int) z z z
     refine sv k z (r_fa fa97_6 k z z) fun a k=>sv k z (r_ldb t13 m 1 Bf 6 k z z z z z) fun a k=>oE h fun Cb Bg h=>s_call k call215 z z z z z (c_slices_Repeat_int_int fu _ _ (Enc.rd_agr (Enc.ow_rd Au) (m.a 0 z)) Bg) fun Bq Ca hR=>?_
     obtain ⟨Bk,As,rfl,e,Ag,Aq⟩:=hR
     refine ⟨_,z,fun a k=>?_⟩
     have m:=m.new e As (fun b hb=>⟨Aq b hb,Enc.rd_lt (Enc.ow_rd Ag) b hb⟩) (Enc.ow_nd Ag)
     refine oE h fun At Ax h=>s_appF Ax te31 z m 3 Ap (News.rd (Enc.rd_agr (Enc.ow_rd Ag) (m.a 0 z))) z z k z z z z z z z fun Bj Be Av a k e m Bh=>pN 1 k z fun a k=>wpList_nil (nm_block (nm_then ?_))
     refine wp_region_lit (pN 2 k z fun a k=>nn ?_)
     exact ⟨At,Bj,Be,Av,w64 (Ab + 1),k.keep [3,11,12,13] z,m.sel [3] z (by decide),Bh,h⟩
   refine wp_exit (ex_then (ex_then (ex_same (nm_then ?_))))
   refine wr (pN 2 k z fun a k=>nn (wp_ret ?_))
   cases h
   exact finR1 k z (RV.tmp k z) ⟨_,Ad,z,m.ext,(Enc.ow_agr Ap (m.a 0 z)),(m.fresh 0 z)⟩
 exact ⟨([]:List Int),(.slice (some ⟨Al,0,none⟩) 0 0),[Al],Aw,0,k.keep [3,11,12,13] z,m.sel [0] z (by decide),Bb,h⟩
theorem c_impl_places (fu:Nat) {w0:World} (n1:Int)  {r:(List Int)}
    (h:d_impl_places fu n1 = some r) :
    Calls Tryz.prog 126 #[I n1] w0 fun e w=>∃ (v0:Value) (G0:List Nat),e = .returned (v0) ∧ Ext [] w0 w ∧ ow w G0 [v0] r ∧ (∀ b ∈ G0,w0.heap.size ≤ b):=by
 refine enter (vs:=[_]) func126 z ntmps126 z fun a k=>?_
 have m:=St.start w0
 unfold d_impl_places at h
 refine wr (pN 1 k z fun a k=>nn (wr (s_bs (cs:=[]) (ps:=[]) te31 m k z z z z z z z (by decide) z (by exact (List.forall_mem_nil _)) fun g2 w3 e5 a k m e Am=>?_)))
 have Aj:=ow_bx Am ([]:List Int) z z z
 refine pN 1 k z fun a k=>nn (wp_seq (wr (pN 2 k z fun a k=>nn (wp_block (c_loop (fun n a w=>∃ (Ad:List Int) (Ae:Value) (Ab:List Nat) (Ac:World) (Aa:Int),K 16 [(3,Ae),(6,I n1),(7,I Aa)] a ∧ St [] w0 w [(Ab,Ac)] ∧ ow Ac Ab [Ae] Ad ∧ d_impl_places_L1 fu n1 n Ad Aa = some r) ?_ ?_ fu _ _ ?_)))))
 · rintro a w ⟨_,_,_,_,_,_,_,_,h⟩
   exact nS h
 · rintro Av a At ⟨Ad,Ae,Ab,Ac,Aa,k,m,Af,h⟩
   rw [d_impl_places_L1_s] at h
   unfold d_impl_places_L1_B at h
   refine wr (pN 1 k z fun a k=>nn (wp_seq (cI h k z (fun Ag h=>?_) fun Ag h=>?_)))
   · refine wp_skip (nm_then ?_)
     refine wp_seq (wp_block (wr (pN 2 k z fun a k=>nn (wp_region_lit (pN 2 k z fun a k=>s_bs (cs:=[I Aa]) (ps:=[(0,.tmp 11)]) te31 m k z z z z z z z (by decide) z (by exact (List.forall_mem_cons.2 ⟨z,(List.forall_mem_nil _)⟩)) fun As Au Aw a k m e Al=>?_)))))
     have Ak:=ow_bx Al ([Aa]:List Int) z z z
     refine oE h fun Ar Aq h=>s_appF Aq te31 z m 1 Af (News.rd (Enc.rd_agr (Enc.ow_rd Ak) (m.a 0 z))) z z k z z z z z z z fun Ah Ao Ai a k e m Ap=>pN 1 k z fun a k=>wpList_nil (nm_block (nm_then ?_))
     refine wp_region_lit (pN 2 k z fun a k=>nn ?_)
     exact ⟨Ar,Ah,Ao,Ai,w64 (Aa + 1),k.keep [3,6,7] z,m.sel [1] z (by decide),Ap,h⟩
   refine wp_exit (ex_then (ex_then (ex_same (nm_then ?_))))
   refine wr (pN 2 k z fun a k=>nn (wp_ret ?_))
   cases h
   exact finR1 k z (RV.tmp k z) ⟨_,Ab,z,m.ext,(Enc.ow_agr Af (m.a 0 z)),(m.fresh 0 z)⟩
 exact ⟨([]:List Int),(.slice (some ⟨g2,0,none⟩) 0 0),[g2],w3,0,k.keep [3,6,7] z,m.sel [0] z (by decide),Aj,h⟩
theorem c_slices_Equal_int_int (fu:Nat) {w0:World} (Ab:List Int) (Ae:List Int) {v2:Value} {F3:List Nat} (Aa:rd w0 F3 [v2] Ab) {v6:Value} {F7:List Nat} (Ad:rd w0 F7 [v6] Ae) {r:Bool}
    (h:d_slices_Equal_int_int fu Ab Ae = some r) :
    Calls Tryz.prog 125 #[v2,v6] w0 fun e w=>e = .returned (.bool (r)) ∧ Ext [] w0 w:=by
 refine enter (vs:=[_,_]) func125 z ntmps125 z fun a k=>?_
 have m:=St.start w0
 unfold d_slices_Equal_int_int at h
 refine wr (pN 1 k z fun a k=>nn (wp_seq (wr (pN 1 k z fun a k=>sv k z (r_len (α:=Int) Aa k underlying31 z z) fun a k=>pN 1 k z fun a k=>sv k z (r_len (α:=Int) Ad k underlying31 z z) fun a k=>pN 1 k z fun a k=>nn (cI h k z (fun Aj h=>?_) fun Aj h=>?_)))))
 · refine wr (pN 1 k z fun a k=>nn (wp_ret (rt_then ?_)))
   refine fS h k m z z
 refine wp_skip (nm_then ?_)
 refine wp_seq (wr (pN 1 k z fun a k=>sv k z (r_len (α:=Int) Aa k underlying31 z z) fun a k=>pN 1 k z fun a k=>nn (wp_block (c_loop (fun n a w=>∃ (Ac:Int),K 26 [(0,v2),(1,v6),(12,I ((Ab.length:Int))),(13,I Ac)] a ∧ St [] w0 w [] ∧ d_slices_Equal_int_int_L1 fu Ab Ae n Ac = some r) ?_ ?_ fu _ _ ?_))))
 · rintro a w ⟨_,_,_,h⟩
   exact nS h
 · rintro Am a Al ⟨Ac,k,m,h⟩
   rw [d_slices_Equal_int_int_L1_s] at h
   unfold d_slices_Equal_int_int_L1_B at h
   refine wr (pN 1 k z fun a k=>nn (wp_seq (cI h k z (fun Ai h=>?_) fun Ai h=>?_)))
   · refine wp_skip (nm_then ?_)
     refine wp_seq (wp_block (wr (pN 2 k z fun a k=>nn (wp_seq (d_go [] mixo m z fun Ak hMd=>?_)))))
     have m:=hMd
     have s:=Ext.refl ([]:List Nat) Ak
     refine dN [0,1,4,5] 4 z k (by kernel_rfl) z s (fun _ _ _ _ _=>id) fun a k=>oE h fun Ao Af h=>dt k 2 z (by kernel_rfl) z s (fun _ _ _=>id) (fun w s=>r_ixa Aa Af k ts31 z z z) fun a k=>dt k 3 z (by kernel_rfl) z s (fun _ _ _=>id) (fun w s=>r_lde1 Aa ((hMd.step s).a00 (Enc.rd_lt Aa)) Af 0 t13 k z z z z) fun a k=>oE h fun Ap Ag h=>dt k 6 z (by kernel_rfl) z s (fun _ _ _=>id) (fun w s=>r_ixa Ad Ag k ts31 z z z) fun a k=>dt k 7 z (by kernel_rfl) z s (fun _ _ _=>id) (fun w s=>r_lde1 Ad ((hMd.step s).a00 (Enc.rd_lt Ad)) Ag 0 t13 k z z z z) fun a k=>dN [8] 1 z k (by kernel_rfl) z s (fun _ _ _ _ _=>id) fun a k=>d_done (by kernel_rfl) ((nm_then ?_))
     refine cI h k z (fun Ah h=>?_) fun Ah h=>?_
     · refine wr (pN 1 k z fun a k=>nn (wp_ret (rt_block (rt_then (rt_then (rt_block (rt_then ?_)))))))
       refine fS h k m z z
     refine wp_skip (nm_block (nm_then ?_))
     refine wp_region_lit (pN 2 k z fun a k=>nn ?_)
     exact ⟨w64 (Ac + 1),k.keep [0,1,12,13] z,m.sel [] z (by decide),h⟩
   refine wp_exit (ex_then (ex_then (ex_same (nm_then ?_))))
   refine wr (pN 1 k z fun a k=>nn (wp_ret (fS h k m z z)))
 exact ⟨0,k.keep [0,1,12,13] z,m.sel [] z (by decide),h⟩
theorem c_impl_thereOf_1 (fu:Nat) {w0:World} (u1:Int) (x2:Int) {b3:Nat} (Aa:bx w0 b3 [I x2] 3) {r:Bool}
    (h:d_impl_thereOf_1 fu u1 x2 = some r) :
    Calls Tryz.prog 164 #[I u1,.pointer (some (⟨b3,0,none⟩:Addr))] w0 fun e w=>e = .returned (.bool (r)) ∧ Ext [] w0 w:=by
 refine enter (vs:=[_,_]) func164 z ntmps164 z fun a k=>?_
 have m:=St.start w0
 unfold d_impl_thereOf_1 at h
 refine wr (pN 1 k z fun a k=>nn (wr (pN 1 k z fun a k=>sv k z (r_ld1 t13 (r:=[]) (Aa.at (m.a00 Aa.lt1) 0 1 z z z) k z z) fun a k=>pN 1 k z fun a k=>oE h fun x5 Ab h=>cE k m call148 z z z (c_impl_in fu _ _ _  Ab) fun w9 e a k m=>pN 2 k z fun a k=>nn (wp_ret (fS h k m z z)))))
theorem c_slices_IndexFunc_int_int (fu:Nat) {w0:World} (Aa:List Int) (f5:Int → Option Bool) {v2:Value} {F3:List Nat} (Ac:rd w0 F3 [v2] Aa) {v6:Value} (Aj:FnOk1 Tryz.prog w0 v6 f5) {r:Int}
    (h:d_slices_IndexFunc_int_int fu Aa f5 = some r) :
    Calls Tryz.prog 239 #[v2,v6] w0 fun e w=>e = .returned (I r) ∧ Ext [] w0 w:=by
 refine enter (vs:=[_,_]) func239 z ntmps239 z fun a k=>?_
 have m:=St.start w0
 obtain ⟨Ag,Al,rfl,Ah,Ai⟩:=Aj
 unfold d_slices_IndexFunc_int_int at h
 refine wr (pN 1 k z fun a k=>nn (wp_seq (wr (pN 1 k z fun a k=>sv k z (r_len (α:=Int) Ac k underlying31 z z) fun a k=>pN 1 k z fun a k=>nn (wp_block (c_loop (fun n a w=>∃ (Ab:Int),K 19 [(0,v2),(1,(.func (.func Ag) #[] Al.toArray)),(7,I ((Aa.length:Int))),(8,I Ab)] a ∧ St [] w0 w [] ∧ d_slices_IndexFunc_int_int_L1 fu Aa f5 n Ab = some r) ?_ ?_ fu _ _ ?_))))))
 · rintro a w ⟨_,_,_,h⟩
   exact nS h
 · rintro Am a As ⟨Ab,k,m,h⟩
   rw [d_slices_IndexFunc_int_int_L1_s] at h
   unfold d_slices_IndexFunc_int_int_L1_B at h
   refine wr (pN 1 k z fun a k=>nn (wp_seq (cI h k z (fun Ak h=>?_) fun Ak h=>?_)))
   · refine wp_skip (nm_then ?_)
     refine wp_seq (wp_block (wr (pN 2 k z fun a k=>nn (wr (pN 3 k z fun a k=>oE h fun Ar Ad h=>sv k z (r_ixa Ac Ad k ts31 z z z) fun a k=>sv k z (r_lde1 Ac (m.a00 (Enc.rd_lt Ac)) Ad 0 t13 k z z z z) fun a k=>oE h fun Ao Af h=>s_callv k Ah z z z z z z (Ai _ _ _ _ m.ext z Af) fun Aq Ap hR=>?_)))))
     obtain ⟨rfl,e⟩:=hR
     refine ⟨_,z,fun a k=>?_⟩
     have m:=m.step e
     refine nn (cI h k z (fun Ae h=>?_) fun Ae h=>?_)
     · refine wr (pN 2 k z fun a k=>nn (wp_ret (rt_block (rt_then (rt_then (rt_block (rt_then ?_)))))))
       refine fS h k m z z
     refine wp_skip (nm_block (nm_then ?_))
     refine wp_region_lit (pN 2 k z fun a k=>nn ?_)
     exact ⟨w64 (Ab + 1),k.keep [0,1,7,8] z,m.sel [] z (by decide),h⟩
   refine wp_exit (ex_then (ex_then (ex_same (nm_then ?_))))
   refine wr (pN 1 k z fun a k=>nn (wp_ret (fS h k m z z)))
 exact ⟨0,k.keep [0,1,7,8] z,m.sel [] z (by decide),h⟩
theorem c_slices_DeleteFunc_int_int (fu:Nat) {w0:World} (Aj:List Int) (f5:Int → Option Bool) {v2:Value} {F3:List Nat} (Ae:ow w0 F3 [v2] Aj) {v6:Value} (Az:FnOkX1 F3 Tryz.prog w0 v6 f5) {r:(List Int)}
    (h:d_slices_DeleteFunc_int_int fu Aj f5 = some r) :
    Calls Tryz.prog 163 #[v2,v6] w0 fun e w=>∃ (v0:Value) (G0:List Nat),e = .returned (v0) ∧ Ext F3 w0 w ∧ ow w G0 [v0] r ∧ (∀ b ∈ G0,b ∈ F3 ∨ w0.heap.size ≤ b):=by
 refine enter (vs:=[_,_]) func163 z ntmps163 z fun a k=>?_
 have m:=St.start1 w0 (Enc.rd_lt (Enc.ow_rd Ae)) (Enc.ow_nd Ae)
 obtain ⟨Ar,Ak,rfl,Am,Al⟩:=Az
 unfold d_slices_DeleteFunc_int_int at h
 refine wr (pN 1 k z fun a k=>nn (wr (pN 2 k z fun a k=>oE h fun As Aw h=>cE k m call239 z z z (c_slices_IndexFunc_int_int fu _ _ (Enc.rd_agr (Enc.ow_rd Ae) (m.a 0 z)) ⟨_,_,z,Am,fun w Ba Av r e=>Al w Ba Av r (m.ext.trans e (by simp))⟩ Aw) fun Bn e a k m=>pN 1 k z fun a k=>nn (wp_seq (wr (pN 2 k z fun a k=>nn (cI h k z (fun Ay h=>?_) fun Ay h=>?_)))))))
 · refine wr (pN 2 k z fun a k=>nn (wp_ret (rt_then ?_)))
   cases h
   exact finR1 k z (RV.tmp k z) ⟨_,F3,z,m.ext,(Enc.ow_agr Ae (m.a 0 z)),(fun b hb=>m.lo b (mem_fps (i:=0) z hb))⟩
 refine wp_skip (nm_then ?_)
 refine wp_seq (wr (pN 3 k z fun a k=>nn (wp_block (c_loop (fun n a w=>∃ (Ad:List Int) (Af:World) (Ab:Int) (Ac:Int),K 42 [(0,v2),(1,(.func (.func Ar) #[] Ak.toArray)),(5,I Ab),(6,I Ac)] a ∧ St F3 w0 w [(F3,Af)] ∧ ow Af F3 [v2] Ad ∧ d_slices_DeleteFunc_int_int_L1 fu f5 n Ad Ab Ac = some r) ?_ ?_ fu _ _ ?_))))
 · rintro a w ⟨_,_,_,_,_,_,_,h⟩
   exact nS h
 · rintro At a Bv ⟨Ad,Af,Ab,Ac,k,m,Aa,h⟩
   rw [d_slices_DeleteFunc_int_int_L1_s] at h
   unfold d_slices_DeleteFunc_int_int_L1_B at h
   refine wp_seq (wr (pN 2 k z fun a k=>sv k z (r_len (α:=Int) (Enc.ow_rd Aa) k underlying31 z z) fun a k=>pN 1 k z fun a k=>nn (cI h k z (fun Bb h=>?_) fun Bb h=>?_)))
   · refine wp_skip (nm_then ?_)
     refine c_cut (fun a w=>∃ (Ah:List Int) (Ai:World) (Ag:Int),K 42 [(0,v2),(1,(.func (.func Ar) #[] Ak.toArray)),(5,I Ag),(6,I Ac)] a ∧ St F3 w0 w [(F3,Ai)] ∧ ow Ai F3 [v2] Ah ∧ d_slices_DeleteFunc_int_int_J1 fu (d_slices_DeleteFunc_int_int_L1 fu f5 At) Ac Ah Ag = some r) ?_ ?_
     · rintro a Bk ⟨Ah,Ai,Ag,k,m,Bd,h⟩
       unfold d_slices_DeleteFunc_int_int_J1 at h
       refine wp_region_lit (pN 3 k z fun a k=>nn ?_)
       exact ⟨Ah,Ai,Ag,w64 (Ac + 1),k.keep [0,1,5,6] z,m.sel [0] z (by decide),Bd,h⟩
     refine wp_block (wr (pN 2 k z fun a k=>oE h fun Aq Ao h=>sv k z (r_ixa (Enc.ow_rd Aa) Ao k ts31 z z z) fun a k=>sv k z (r_lde1 (Enc.ow_rd Aa) (m.a 0 z) Ao 0 t13 k z z z z) fun a k=>pN 1 k z fun a k=>nn (wr (pN 2 k z fun a k=>oE h fun Br Bh h=>s_callv k Am z z z z z z (Al _ _ _ _ m.ext z Bh) fun Bu Bo hR=>?_))))
     obtain ⟨rfl,e⟩:=hR
     refine ⟨_,z,fun a k=>?_⟩
     have m:=m.step e
     refine pN 1 k z fun a k=>nn (cI h k z (fun Bg h=>?_) fun Bg h=>?_)
     · refine wr (pN 3 k z fun a k=>oE h fun Bw Ap h=>sv k z (r_ixa (Enc.ow_rd Aa) Ap k ts31 z z z) fun a k=>s_ste (α:=Int) (sz:=1) (y:=Aq) sizeOf3 Ap m 0 Aa 0 k z z z z z z z z z z z z fun Ax a k e m Bf=>nn (wp_region_lit (pN 3 k z fun a k=>wpList_nil (nm_block (nm_then ?_)))))
       exact ⟨setx Ad Ab Aq,Ax,w64 (Ab + 1),k.keep [0,1,5,6] z,m.sel [0] z (by decide),Bf,h⟩
     refine wp_skip (nm_block (nm_then ?_))
     exact ⟨Ad,Af,Ab,k.keep [0,1,5,6] z,m.sel [0] z (by decide),Aa,h⟩
   refine wp_exit (ex_then (ex_then (ex_same (nm_then ?_))))
   refine wr (pN 2 k z fun a k=>oE h fun Bq Be h=>s_slFromP (Enc.ow_rd Aa) Be k ts31 z z z z z z fun Bp a k Bs Bc=>s_clr (lo:=Ab) te31 m 0 Aa Bc k z z z z z fun Bm a k e m Au=>nn (wr (pN 2 k z fun a k=>oE h fun Bt Bj h=>s_slToO Au Bj k ts31 z z z z z z fun Bl a k Bi=>pN 1 k z fun a k=>nn (wp_ret ?_))))
   cases h
   exact finR1 k z (RV.tmp k z) ⟨_,F3,z,m.ext,(Enc.ow_agr Bi (m.a 0 z)),(fun b hb=>m.lo b (mem_fps (i:=0) z hb))⟩
 exact ⟨Aj,w0,As,w64 (As + 1),k.keep [0,1,5,6] z,m.sel [0] z (by decide),Ae,h⟩
theorem c_impl_thereOf (fu:Nat) {w0:World} (r1:Request) (Aj:List Int) {Af:List Value} {F3:List Nat} (Au:rd w0 F3 Af r1) {v6:Value} {F7:List Nat} (Ai:rd w0 F7 [v6] Aj) {r:(List Int)}
    (h:d_impl_thereOf fu r1 Aj = some r) :
    Calls Tryz.prog 74 #[.agg Af.toArray,v6] w0 fun e w=>∃ (v0:Value) (G0:List Nat),e = .returned (v0) ∧ Ext [] w0 w ∧ ow w G0 [v0] r ∧ (∀ b ∈ G0,w0.heap.size ≤ b):=by
 refine enter (vs:=[_,_]) func74 z ntmps74 z fun a k=>?_
 have m:=St.start w0
 obtain ⟨v9,Bl,Ae,Be,Ad,Bi,rfl,rfl,Ah,Ak,Ag⟩:=Au
 unfold d_impl_thereOf at h
 refine wr (s_box (cs:=[I r1.fWay,I r1.fPallet.fW,I r1.fPallet.fD,I r1.fPallet.fH,I r1.fPallet.fGram,I r1.fClasses,v9,Ae,I r1.fMaster,Ad]) m k z z z z z z fun Bh Bq a k m e Bb=>pN 1 k z fun a k=>nn (wr (sv k z (r_ldB ta30 m 0 Bb 0 k z z z z z z) fun a k=>oE h fun At Ao h=>?_)))
 refine s_call k call127 z z z z z (c_impl_Units fu _ (show rd _ _ [I r1.fWay,I r1.fPallet.fW,I r1.fPallet.fD,I r1.fPallet.fH,I r1.fPallet.fGram,I r1.fClasses,v9,Ae,I r1.fMaster,Ad] (r1:Request) from ⟨_,_,_,_,_,_,z,z,(Enc.rd_agr Ah (m.a00 (Enc.rd_lt Ah))),(Enc.rd_agr Ak (m.a00 (Enc.rd_lt Ak))),(Enc.rd_agr Ag (m.a00 (Enc.rd_lt Ag)))⟩) Ao) fun Bv Bd hR=>?_
 obtain ⟨Bj,Ba,rfl,e,Ac,Aq⟩:=hR
 refine ⟨_,z,fun a k=>?_⟩
 have m:=m.new e Ba (fun b hb=>⟨Aq b hb,Enc.rd_lt (Enc.ow_rd Ac) b hb⟩) (Enc.ow_nd Ac)
 refine sv k z (r_len (α:=Int) (Enc.ow_rd Ac) k underlying31 z z) fun a k=>s_alloc (cs:=[I 0]) m k zeroValue3 z z z z z fun Av Bp a k m e Ar=>s_stb (cs':=[I ((At.length:Int))]) sizeOf3 m 0 Ar 0 k z z z z z z z z z z z fun Bn a k e m Ap=>nn (wr (pN 1 k z fun a k=>oE h fun Bo As h=>s_call k call145 z z z z z (c_slices_Clone_int_int fu _ (Enc.rd_agr Ai (m.a00 (Enc.rd_lt Ai))) As) fun Bk Br hR=>?_))
 obtain ⟨Bt,Al,rfl,e,Aa,Aw⟩:=hR
 refine ⟨_,z,fun a k=>?_⟩
 have m:=m.new e Al (fun b hb=>⟨Aw b hb,Enc.rd_lt (Enc.ow_rd Aa) b hb⟩) (Enc.ow_nd Aa)
 refine pN 1 k z fun a k=>oE h fun Bc Az h=>s_call k call163 z z z z z (c_slices_DeleteFunc_int_int fu _ _ (Enc.ow_agr Aa (m.a 0 z)) ⟨164,[.pointer (some (⟨Av,0,none⟩:Addr))],z,call164,fun w Bu Bm r e Ax hx=>by subst Ax; have m:=m.mut 0 rfl e Al (fun b hb=>⟨.inl hb,e.lt1 (m.ltF 0 rfl) b hb⟩) (m.ndF 0 rfl); exact c_impl_thereOf_1 fu _ _ (Ap.agr (m.a 1 rfl) (by simp)) hx⟩ Az) fun Bf Bs hR=>?_
 obtain ⟨Bg,Am,rfl,e,Ab,Ay⟩:=hR
 refine ⟨_,z,fun a k=>?_⟩
 have m:=m.mut 0 z e _ (fun b hb=>⟨Ay b hb,Enc.rd_lt (Enc.ow_rd Ab) b hb⟩) (Enc.ow_nd Ab)
 refine pN 1 k z fun a k=>nn (wp_ret ?_)
 cases h
 exact finR1 k z (RV.tmp k z) ⟨_,Am,z,m.ext,(Enc.ow_agr Ab (m.a 0 z)),(m.fresh 0 z)⟩
theorem c_impl_itemsOf (fu:Nat) {w0:World} (r1:Request) (Ad:List Int) {Ay:List Value} {F3:List Nat} (Bv:rd w0 F3 Ay r1) {v6:Value} {F7:List Nat} (Am:rd w0 F7 [v6] Ad) {r:(List Item)}
    (h:d_impl_itemsOf fu r1 Ad = some r) :
    Calls Tryz.prog 76 #[.agg Ay.toArray,v6] w0 fun e w=>∃ (v0:Value) (G0:List Nat),e = .returned (v0) ∧ Ext [] w0 w ∧ ow w G0 [v0] r ∧ (∀ b ∈ G0,w0.heap.size ≤ b):=by
 refine enter (vs:=[_,_]) func76 z ntmps76 z fun a k=>?_
 have m:=St.start w0
 obtain ⟨v9,Ck,Aw,Ch,Av,Cj,rfl,rfl,Az,Bf,Ae⟩:=Bv
 unfold d_impl_itemsOf at h
 refine wr (s_box (cs:=[I r1.fWay,I r1.fPallet.fW,I r1.fPallet.fD,I r1.fPallet.fH,I r1.fPallet.fGram,I r1.fClasses,v9,Aw,I r1.fMaster,Av]) m k z z z z z z fun Ap Be a k m e Bg=>pN 1 k z fun a k=>nn (wr (sv k z (r_ldB ta30 m 0 Bg 0 k z z z z z z) fun a k=>oE h fun Bd Bo h=>?_)))
 refine s_call k call127 z z z z z (c_impl_Units fu _ (show rd _ _ [I r1.fWay,I r1.fPallet.fW,I r1.fPallet.fD,I r1.fPallet.fH,I r1.fPallet.fGram,I r1.fClasses,v9,Aw,I r1.fMaster,Av] (r1:Request) from ⟨_,_,_,_,_,_,z,z,(Enc.rd_agr Az (m.a00 (Enc.rd_lt Az))),(Enc.rd_agr Bf (m.a00 (Enc.rd_lt Bf))),(Enc.rd_agr Ae (m.a00 (Enc.rd_lt Ae)))⟩) Bo) fun Cr Ax hR=>?_
 obtain ⟨Bb,Ar,rfl,e,Af,Bp⟩:=hR
 refine ⟨_,z,fun a k=>?_⟩
 have m:=m.new e Ar (fun b hb=>⟨Bp b hb,Enc.rd_lt (Enc.ow_rd Af) b hb⟩) (Enc.ow_nd Af)
 refine pN 1 k z fun a k=>nn (wr (s_bs (cs:=[]) (ps:=[]) te28 m k z z z z z z z (by decide) z (by exact (List.forall_mem_nil _)) fun As Bq Cl a k m e Bw=>?_))
 have Bi:=ow_bx Bw ([]:List Item) z z z
 refine pN 1 k z fun a k=>nn (wp_seq (wr (pN 1 k z fun a k=>sv k z (r_len (α:=Int) Am k underlying31 z z) fun a k=>pN 1 k z fun a k=>nn (wp_block (c_loop (fun n a w=>∃ (Ah:List Item) (Ag:Value) (Aa:List Nat) (Aj:World) (Ac:Int),K 36 [(2,.pointer (some (⟨Ap,0,none⟩:Addr))),(5,Bb),(6,Ag),(12,v6),(13,I ((Ad.length:Int))),(14,I Ac)] a ∧ St [] w0 w [([Ap],Be),(Ar,Ax),(Aa,Aj)] ∧ ow Aj Aa [Ag] Ah ∧ d_impl_itemsOf_L1 fu r1 Ad Bd n Ah Ac = some r) ?_ ?_ fu _ _ ?_)))))
 · rintro a w ⟨_,_,_,_,_,_,_,_,h⟩
   exact nS h
 · rintro Bl a Cc ⟨Ah,Ag,Aa,Aj,Ac,k,m,Aq,h⟩
   rw [d_impl_itemsOf_L1_s] at h
   unfold d_impl_itemsOf_L1_B at h
   refine wr (pN 1 k z fun a k=>nn (wp_seq (cI h k z (fun Bs h=>?_) fun Bs h=>?_)))
   · refine wp_skip (nm_then ?_)
     refine c_cut (fun a w=>∃ (Ao:List Item) (Ak:Value) (Al:List Nat) (Ai:World),K 36 [(2,.pointer (some (⟨Ap,0,none⟩:Addr))),(5,Bb),(6,Ak),(12,v6),(13,I ((Ad.length:Int))),(14,I Ac)] a ∧ St [] w0 w [([Ap],Be),(Ar,Ax),(Al,Ai)] ∧ ow Ai Al [Ak] Ao ∧ d_impl_itemsOf_J1 fu (d_impl_itemsOf_L1 fu r1 Ad Bd Bl) Ac Ao = some r) ?_ ?_
     · rintro a Cq ⟨Ao,Ak,Al,Ai,k,m,Bm,h⟩
       unfold d_impl_itemsOf_J1 at h
       refine wp_region_lit (pN 2 k z fun a k=>nn ?_)
       exact ⟨Ao,Ak,Al,Ai,w64 (Ac + 1),k.keep [2,5,6,12,13,14] z,m.sel [0,1,2] z (by decide),Bm,h⟩
     refine wp_block (wr (oE h fun Cm Bc h=>sv k z (r_ixa Am Bc k ts31 z z z) fun a k=>sv k z (r_lde1 Am (m.a00 (Enc.rd_lt Am)) Bc 0 t13 k z z z z) fun a k=>pN 1 k z fun a k=>nn (wr (pN 2 k z fun a k=>sv k z (r_len (α:=Int) (Enc.ow_rd Af) k underlying31 z z) fun a k=>pN 1 k z fun a k=>oE h fun Cd Cb h=>cE k m call148 z z z (c_impl_in fu _ _ _  Cb) fun Cp e a k m=>nn (cI h k z (fun Bn h=>?_) fun Bn h=>?_)))))
     · refine d_go (Aa) mixo m z fun Bx hMd=>?_
       have m:=hMd
       have s:=Ext.refl ((Aa):List Nat) Bx
       refine dN [0,3,4] 3 z k (by kernel_rfl) z s (fun _ _ _ _ _=>id) fun a k=>dt k 1 z (by kernel_rfl) z s (fun _ _ _=>id) (fun w s=>r_fa fa30_6 k z z) fun a k=>dt k 2 z (by kernel_rfl) z s (fun _ _ _=>id) (fun w s=>r_ld1 t128 (r:=[]) (Bg.at (hMd.az 0 2 z z z s) 9 1 z z z) k z z) fun a k=>oE h fun Ci Au h=>dt k 5 z (by kernel_rfl) z s (fun _ _ _=>id) (fun w s=>r_ixa (Enc.ow_rd Af) Au k ts31 z z z) fun a k=>dt k 6 z (by kernel_rfl) z s (fun _ _ _=>id) (fun w s=>r_lde1 (Enc.ow_rd Af) (hMd.az 1 2 z z z s) Au 0 t13 k z z z z) fun a k=>oE h fun Ab At h=>dt k 7 z (by kernel_rfl) z s (fun _ _ _=>id) (fun w s=>r_ixa Ae At k ts28 z z z) fun a k=>?_
       refine dt k 8 z (by kernel_rfl) z s (fun _ _ _=>id) (fun w s=>r_lde Ae (hMd.az0 2 z z (Enc.rd_lt Ae) s) At ta97 k z z) fun a k=>d_one 9 (by kernel_rfl) z (s_bsN (cs:=[I Ab.fId,I Ab.fW,I Ab.fH,I Ab.fD,I Ab.fGram,I Ab.fClass,I Ab.fCount]) (ps:=[(0,.tmp 31)]) te28 m k z z z z z z z (by decide) z (by exact (List.forall_mem_cons.2 ⟨z,(List.forall_mem_nil _)⟩)) fun Ce Co Cg a k m e By Ca=>?_)
       have Cn:=lo1 (Nat.le_trans s.size Ca)
       have Bt:=ow_bx By ([Ab]:List Item) z z z
       have s:=s.trans e (by simp)
       refine wpList_nil ⟨s,?_⟩
       refine d_one 10 (by kernel_rfl) z (oE h fun Bk Bj h=>s_appFN Bj te28 z m 3 Aq (News.rd (Enc.rd_agr (Enc.ow_rd Bt) (m.a 0 z))) z z k z z z z z z z fun Bh Ba Bu a k e m Bz Br=>?_)
       have Cf:∀ y ∈ Ba,y ∈ (Aa) ∨ _ ≤ y:=fun y hy=>(Br y hy).elim (fun hy=>(fun y hy=>Or.inl hy) y hy) (fun h=>Or.inr (Nat.le_trans s.size h))
       have s:=s.trans e (fun y hy=>Or.inl hy)
       refine wpList_nil ⟨s,?_⟩
       refine dN [11] 1 z k (by kernel_rfl) z s (fun _ _ _ _ _=>id) fun a k=>d_done (by kernel_rfl) ((nm_block (nm_then ?_)))
       exact ⟨Bk,Bh,Ba,Bu,k.keep [2,5,6,12,13,14] z,m.sel [1,2,3] z (by decide),Bz,h⟩
     refine wp_skip (nm_block (nm_then ?_))
     exact ⟨Ah,Ag,Aa,Aj,k.keep [2,5,6,12,13,14] z,m.sel [0,1,2] z (by decide),Aq,h⟩
   refine wp_exit (ex_then (ex_then (ex_same (nm_then ?_))))
   refine wr (pN 2 k z fun a k=>nn (wp_ret ?_))
   cases h
   exact finR1 k z (RV.tmp k z) ⟨_,Aa,z,m.ext,(Enc.ow_agr Aq (m.a 2 z)),(m.fresh 2 z)⟩
 exact ⟨([]:List Item),(.slice (some ⟨As,0,none⟩) 0 0),[As],Bq,0,k.keep [2,5,6,12,13,14] z,m.sel [2,1,0] z (by decide),Bi,h⟩
theorem c_impl_Holds_1 (fu:Nat) {w0:World} (x1:Item) (x2:Typ) {b3:Nat} (Aa:bx w0 b3 [I x2.fId,I x2.fW,I x2.fH,I x2.fD,I x2.fTare,I x2.fGram,I x2.fCost] 38) {r:Bool}
    (h:d_impl_Holds_1 fu x1 x2 = some r) :
    Calls Tryz.prog 77 #[.agg (Flat.e (x1)).toArray,.pointer (some (⟨b3,0,none⟩:Addr))] w0 fun e w=>e = .returned (.bool (r)) ∧ Ext [] w0 w:=by
 refine enter (vs:=[_,_]) func77 z ntmps77 z fun a k=>?_
 have m:=St.start w0
 unfold d_impl_Holds_1 at h
 refine wr (s_box (cs:=[I x1.fId,I x1.fW,I x1.fH,I x1.fD,I x1.fGram,I x1.fClass,I x1.fCount]) m k z z z z z z fun b5 w7 a k m e Ac=>pN 1 k z fun a k=>nn (wr (sv k z (r_ldB ta97 m 0 Ac 0 k z z z z z z) fun a k=>sv k z (r_ldA ta38 (Aa.at (m.a00 Aa.lt1) 0 7 z z z) z k z z) fun a k=>oE h fun x8 Ab h=>cE k m call78 z z z (c_impl_Fits fu (x1:Item) (x2:Typ)  Ab) fun Ad e a k m=>pN 2 k z fun a k=>nn (wp_ret (fS h k m z z)))))
theorem c_impl_Volume (fu:Nat) {w0:World} (Ac:Int) (h2:Int) (d3:Int)  {r:Int}
    (h:d_impl_Volume fu Ac h2 d3 = some r) :
    Calls Tryz.prog 63 #[I Ac,I h2,I d3] w0 fun e w=>e = .returned (I r) ∧ Ext [] w0 w:=by
 refine enter (vs:=[_,_,_]) func63 z ntmps63 z fun a k=>?_
 have m:=St.start w0
 unfold d_impl_Volume at h
 refine wr (pN 1 k z fun a k=>nn (c_cut (fun a w=>K 25 [(0,I Ac),(1,I h2),(2,I d3)] a ∧ St [] w0 w [] ∧ d_impl_Volume_J1 fu Ac h2 d3 = some r) ?_ ?_))
 · rintro a Am ⟨k,m,h⟩
   unfold d_impl_Volume_J1 at h
   refine wr (pN 6 k z fun a k=>nn (wp_ret (fS h k m z z)))
 refine wr (pN 1 k z fun a k=>oE h fun Ag Ah h=>cE k m call148 z z z (c_impl_in fu _ _ _  Ah) fun Ao e a k m=>pN 2 k z fun a k=>bsplit (!Ag) (fun Aa=>?_) (fun Aa=>?_))
 · have h:=bif_t Aa h
   refine rB k 10 z Aa fun k=>pN 9 k z fun a k=>nn (wp_cond_true (k.ev z) (wr (pN 1 k z fun a k=>nn (wp_ret (rt_then ?_)))))
   refine fS h k m z z
 have h:=bif_f Aa h
 refine rB k 10 z Aa fun k=>pN 1 k z fun a k=>oE h fun Ad Af h=>cE k m call148 z z z (c_impl_in fu _ _ _  Af) fun Ak e a k m=>pN 3 k z fun a k=>bsplit (!Ad) (fun Ab=>?_) (fun Ab=>?_)
 · have h:=bif_t Ab h
   refine rB k 15 z Ab fun k=>pN 4 k z fun a k=>nn (wp_cond_true (k.ev z) (wr (pN 1 k z fun a k=>nn (wp_ret (rt_then ?_)))))
   refine fS h k m z z
 have h:=bif_f Ab h
 refine rB k 15 z Ab fun k=>pN 1 k z fun a k=>oE h fun Aj Ae h=>cE k m call148 z z z (c_impl_in fu _ _ _  Ae) fun Al e a k m=>pN 2 k z fun a k=>nn (cI h k z (fun Ai h=>?_) fun Ai h=>?_)
 · refine wr (pN 1 k z fun a k=>nn (wp_ret (rt_then ?_)))
   refine fS h k m z z
 refine wp_skip (nm_then ?_)
 exact ⟨k.keep [0,1,2] z,m.sel [] z (by decide),h⟩
theorem c_impl_VolumeOf (fu:Nat) {w0:World} (r1:Request) (Ao:List Int) {Ah:List Value} {F3:List Nat} (Ay:rd w0 F3 Ah r1) {v6:Value} {F7:List Nat} (Ak:rd w0 F7 [v6] Ao) {r:Int}
    (h:d_impl_VolumeOf fu r1 Ao = some r) :
    Calls Tryz.prog 62 #[.agg Ah.toArray,v6] w0 fun e w=>e = .returned (I r) ∧ Ext [] w0 w:=by
 refine enter (vs:=[_,_]) func62 z ntmps62 z fun a k=>?_
 have m:=St.start w0
 obtain ⟨v9,Bh,Ag,Bd,Af,Bf,rfl,rfl,Aj,Ap,Ai⟩:=Ay
 unfold d_impl_VolumeOf at h
 refine wr (s_box (cs:=[I r1.fWay,I r1.fPallet.fW,I r1.fPallet.fD,I r1.fPallet.fH,I r1.fPallet.fGram,I r1.fClasses,v9,Ag,I r1.fMaster,Af]) m k z z z z z z fun Bm Bj a k m e Ba=>pN 1 k z fun a k=>nn (wr (pN 1 k z fun a k=>nn (wp_seq (wr (sv k z (r_ldB ta30 m 0 Ba 0 k z z z z z z) fun a k=>pN 1 k z fun a k=>oE h fun Al Au h=>?_))))))
 refine s_call k call76 z z z z z (c_impl_itemsOf fu _ _ (show rd _ _ [I r1.fWay,I r1.fPallet.fW,I r1.fPallet.fD,I r1.fPallet.fH,I r1.fPallet.fGram,I r1.fClasses,v9,Ag,I r1.fMaster,Af] (r1:Request) from ⟨_,_,_,_,_,_,z,z,(Enc.rd_agr Aj (m.a00 (Enc.rd_lt Aj))),(Enc.rd_agr Ap (m.a00 (Enc.rd_lt Ap))),(Enc.rd_agr Ai (m.a00 (Enc.rd_lt Ai)))⟩) (Enc.rd_agr Ak (m.a00 (Enc.rd_lt Ak))) Au) fun Bl As hR=>?_
 obtain ⟨Aw,Aq,rfl,e,Ab,Ax⟩:=hR
 refine ⟨_,z,fun a k=>?_⟩
 have m:=m.new e Aq (fun b hb=>⟨Ax b hb,Enc.rd_lt (Enc.ow_rd Ab) b hb⟩) (Enc.ow_nd Ab)
 refine sv k z (r_len (α:=Item) (Enc.ow_rd Ab) k underlying28 z z) fun a k=>pN 1 k z fun a k=>nn (wp_block (c_loop (fun n a w=>∃ (Ad:Int) (Ac:Int),K 27 [(5,I Ad),(10,Aw),(11,I ((Al.length:Int))),(12,I Ac)] a ∧ St [] w0 w [(Aq,As)] ∧ d_impl_VolumeOf_L1 fu Al n Ad Ac = some r) ?_ ?_ fu _ _ ?_))
 · rintro a w ⟨_,_,_,_,h⟩
   exact nS h
 · rintro Bb a Bi ⟨Ad,Ac,k,m,h⟩
   rw [d_impl_VolumeOf_L1_s] at h
   unfold d_impl_VolumeOf_L1_B at h
   refine wr (pN 1 k z fun a k=>nn (wp_seq (cI h k z (fun Ar h=>?_) fun Ar h=>?_)))
   · refine wp_skip (nm_then ?_)
     refine wp_seq (wp_block (wr (oE h fun Aa Am h=>sv k z (r_ixa (Enc.ow_rd Ab) Am k ts28 z z z) fun a k=>sv k z (r_lde (Enc.ow_rd Ab) (m.a 0 z) Am ta97 k z z) fun a k=>s_alloc (cs:=[I 0,I 0,I 0,I 0,I 0,I 0,I 0]) m k zeroValue97 z z z z z fun Bc Bk a k m e At=>s_stb (cs':=[I Aa.fId,I Aa.fW,I Aa.fH,I Aa.fD,I Aa.fGram,I Aa.fClass,I Aa.fCount]) sizeOf97 m 0 At 0 k z z z z z z z z z z z fun Bg a k e m Ae=>nn (wp_region_lit (pN 1 k z fun a k=>sv k z (r_fa fa97_1 k z z) fun a k=>sv k z (r_ldb t13 m 0 Ae 1 k z z z z z) fun a k=>sv k z (r_fa fa97_2 k z z) fun a k=>?_)))))
     refine sv k z (r_ldb t13 m 0 Ae 2 k z z z z z) fun a k=>sv k z (r_fa fa97_3 k z z) fun a k=>sv k z (r_ldb t13 m 0 Ae 3 k z z z z z) fun a k=>oE h fun Av Az h=>cE k m call63 z z z (c_impl_Volume fu _ _ _  Az) fun Be e a k m=>pN 2 k z fun a k=>wpList_nil (nm_block (nm_then ?_))
     refine wp_region_lit (pN 2 k z fun a k=>nn ?_)
     exact ⟨w64 (Ad + Av),w64 (Ac + 1),k.keep [5,10,11,12] z,m.sel [1] z (by decide),h⟩
   refine wp_exit (ex_then (ex_then (ex_same (nm_then ?_))))
   refine wr (pN 2 k z fun a k=>nn (wp_ret (fS h k m z z)))
 exact ⟨0,0,k.keep [5,10,11,12] z,m.sel [0] z (by decide),h⟩
theorem c_impl_GramOf (fu:Nat) {w0:World} (r1:Request) (Am:List Int) {Ah:List Value} {F3:List Nat} (Aw:rd w0 F3 Ah r1) {v6:Value} {F7:List Nat} (Ak:rd w0 F7 [v6] Am) {r:Int}
    (h:d_impl_GramOf fu r1 Am = some r) :
    Calls Tryz.prog 166 #[.agg Ah.toArray,v6] w0 fun e w=>e = .returned (I r) ∧ Ext [] w0 w:=by
 refine enter (vs:=[_,_]) func166 z ntmps166 z fun a k=>?_
 have m:=St.start w0
 obtain ⟨v9,Be,Ag,Ba,Ae,Bd,rfl,rfl,Aj,Ao,Ai⟩:=Aw
 unfold d_impl_GramOf at h
 refine wr (s_box (cs:=[I r1.fWay,I r1.fPallet.fW,I r1.fPallet.fD,I r1.fPallet.fH,I r1.fPallet.fGram,I r1.fClasses,v9,Ag,I r1.fMaster,Ae]) m k z z z z z z fun Bj Bf a k m e Ay=>pN 1 k z fun a k=>nn (wr (pN 1 k z fun a k=>nn (wp_seq (wr (sv k z (r_ldB ta30 m 0 Ay 0 k z z z z z z) fun a k=>pN 1 k z fun a k=>oE h fun Al Ar h=>?_))))))
 refine s_call k call76 z z z z z (c_impl_itemsOf fu _ _ (show rd _ _ [I r1.fWay,I r1.fPallet.fW,I r1.fPallet.fD,I r1.fPallet.fH,I r1.fPallet.fGram,I r1.fClasses,v9,Ag,I r1.fMaster,Ae] (r1:Request) from ⟨_,_,_,_,_,_,z,z,(Enc.rd_agr Aj (m.a00 (Enc.rd_lt Aj))),(Enc.rd_agr Ao (m.a00 (Enc.rd_lt Ao))),(Enc.rd_agr Ai (m.a00 (Enc.rd_lt Ai)))⟩) (Enc.rd_agr Ak (m.a00 (Enc.rd_lt Ak))) Ar) fun Bi Aq hR=>?_
 obtain ⟨As,Ap,rfl,e,Ab,Au⟩:=hR
 refine ⟨_,z,fun a k=>?_⟩
 have m:=m.new e Ap (fun b hb=>⟨Au b hb,Enc.rd_lt (Enc.ow_rd Ab) b hb⟩) (Enc.ow_nd Ab)
 refine sv k z (r_len (α:=Item) (Enc.ow_rd Ab) k underlying28 z z) fun a k=>pN 1 k z fun a k=>nn (wp_block (c_loop (fun n a w=>∃ (Ad:Int) (Ac:Int),K 22 [(5,I Ad),(10,As),(11,I ((Al.length:Int))),(12,I Ac)] a ∧ St [] w0 w [(Ap,Aq)] ∧ d_impl_GramOf_L1 fu Al n Ad Ac = some r) ?_ ?_ fu _ _ ?_))
 · rintro a w ⟨_,_,_,_,h⟩
   exact nS h
 · rintro Az a Bg ⟨Ad,Ac,k,m,h⟩
   rw [d_impl_GramOf_L1_s] at h
   unfold d_impl_GramOf_L1_B at h
   refine wr (pN 1 k z fun a k=>nn (wp_seq (cI h k z (fun At h=>?_) fun At h=>?_)))
   · refine wp_skip (nm_then ?_)
     refine wp_seq (wp_block (wr (oE h fun Aa Af h=>sv k z (r_ixa (Enc.ow_rd Ab) Af k ts28 z z z) fun a k=>sv k z (r_lde (Enc.ow_rd Ab) (m.a 0 z) Af ta97 k z z) fun a k=>s_alloc (cs:=[I 0,I 0,I 0,I 0,I 0,I 0,I 0]) m k zeroValue97 z z z z z fun Bb Bh a k m e Ax=>s_stb (cs':=[I Aa.fId,I Aa.fW,I Aa.fH,I Aa.fD,I Aa.fGram,I Aa.fClass,I Aa.fCount]) sizeOf97 m 0 Ax 0 k z z z z z z z z z z z fun Bc a k e m Av=>nn (wp_region_lit (pN 1 k z fun a k=>sv k z (r_fa fa97_4 k z z) fun a k=>sv k z (r_ldb t13 m 0 Av 4 k z z z z z) fun a k=>pN 2 k z fun a k=>wpList_nil (nm_block (nm_then ?_)))))))
     refine wp_region_lit (pN 2 k z fun a k=>nn ?_)
     exact ⟨w64 (Ad + Aa.fGram),w64 (Ac + 1),k.keep [5,10,11,12] z,m.sel [1] z (by decide),h⟩
   refine wp_exit (ex_then (ex_then (ex_same (nm_then ?_))))
   refine wr (pN 2 k z fun a k=>nn (wp_ret (fS h k m z z)))
 exact ⟨0,0,k.keep [5,10,11,12] z,m.sel [0] z (by decide),h⟩
theorem c_impl_within (fu:Nat) {w0:World} (r1:Request) (Aj:List Int) (t9:Typ) {Ak:List Value} {F3:List Nat} (As:rd w0 F3 Ak r1) {v6:Value} {F7:List Nat} (Ae:rd w0 F7 [v6] Aj) {r:Bool}
    (h:d_impl_within fu r1 Aj t9 = some r) :
    Calls Tryz.prog 79 #[.agg Ak.toArray,v6,.agg (Flat.e (t9)).toArray] w0 fun e w=>e = .returned (.bool (r)) ∧ Ext [] w0 w:=by
 refine enter (vs:=[_,_,_]) func79 z ntmps79 z fun a k=>?_
 have m:=St.start w0
 obtain ⟨Ah,Ba,Ai,Bd,Ag,Ax,rfl,rfl,Af,Ac,Ab⟩:=As
 unfold d_impl_within at h
 refine wr (s_box (cs:=[I r1.fWay,I r1.fPallet.fW,I r1.fPallet.fD,I r1.fPallet.fH,I r1.fPallet.fGram,I r1.fClasses,Ah,Ai,I r1.fMaster,Ag]) m k z z z z z z fun Be Bb a k m e Al=>s_box (cs:=[I t9.fId,I t9.fW,I t9.fH,I t9.fD,I t9.fTare,I t9.fGram,I t9.fCost]) m k z z z z z z fun Av Aw a k m e Ad=>pN 1 k z fun a k=>nn (wp_seq (d_go [] mixo m z fun Am hMd=>?_)))
 have m:=hMd
 have s:=Ext.refl ([]:List Nat) Am
 refine dN [1] 1 z k (by kernel_rfl) z s (fun _ _ _ _ _=>id) fun a k=>dt k 0 z (by kernel_rfl) z s (fun _ _ _=>id) (fun w s=>r_ldA ta30 (Al.at ((hMd.step s).a 1 z) 0 10 z z z) z k z z) fun a k=>dt k 3 z (by kernel_rfl) z s (fun _ _ _=>id) (fun w s=>r_fa fa38_1 k z z) fun a k=>dt k 4 z (by kernel_rfl) z s (fun _ _ _=>id) (fun w s=>r_ld1 t13 (r:=[]) (Ad.at ((hMd.step s).a 0 z) 1 1 z z z) k z z) fun a k=>dt k 5 z (by kernel_rfl) z s (fun _ _ _=>id) (fun w s=>r_fa fa38_2 k z z) fun a k=>dt k 6 z (by kernel_rfl) z s (fun _ _ _=>id) (fun w s=>r_ld1 t13 (r:=[]) (Ad.at ((hMd.step s).a 0 z) 2 1 z z z) k z z) fun a k=>dt k 7 z (by kernel_rfl) z s (fun _ _ _=>id) (fun w s=>r_fa fa38_3 k z z) fun a k=>?_
 refine dt k 8 z (by kernel_rfl) z s (fun _ _ _=>id) (fun w s=>r_ld1 t13 (r:=[]) (Ad.at ((hMd.step s).a 0 z) 3 1 z z z) k z z) fun a k=>d_one 2 (by kernel_rfl) z (oE h fun At Ao h=>cE k m call62 z z z (c_impl_VolumeOf fu _ _ (show rd _ _ [I r1.fWay,I r1.fPallet.fW,I r1.fPallet.fD,I r1.fPallet.fH,I r1.fPallet.fGram,I r1.fClasses,Ah,Ai,I r1.fMaster,Ag] (r1:Request) from ⟨_,_,_,_,_,_,z,z,(Enc.rd_agr Af (m.a00 (Enc.rd_lt Af))),(Enc.rd_agr Ac (m.a00 (Enc.rd_lt Ac))),(Enc.rd_agr Ab (m.a00 (Enc.rd_lt Ab)))⟩) (Enc.rd_agr Ae (m.a00 (Enc.rd_lt Ae))) Ao) fun Au e a k m=>?_)
 have s:=s.trans e (by simp)
 refine wpList_nil ⟨s,?_⟩
 refine d_one 9 (by kernel_rfl) z (oE h fun Ap Aq h=>cE k m call63 z z z (c_impl_Volume fu _ _ _  Aq) fun Ay e a k m=>?_)
 have s:=s.trans e (by simp)
 refine wpList_nil ⟨s,?_⟩
 refine dN [10,11] 2 z k (by kernel_rfl) z s (fun _ _ _ _ _=>id) fun a k=>bsplit (decide (At ≤ Ap)) (fun Aa=>?_) (fun Aa=>?_)
 · have h:=bif_t Aa h
   refine rB k 18 z Aa fun k=>dN [13] 1 z k (by kernel_rfl) z s (fun _ _ _ _ _=>id) fun a k=>dt k 12 z (by kernel_rfl) z s (fun _ _ _=>id) (fun w s=>r_ldA ta30 (Al.at ((hMd.step s).a 1 z) 0 10 z z z) z k z z) fun a k=>dt k 15 z (by kernel_rfl) z s (fun _ _ _=>id) (fun w s=>r_fa fa38_5 k z z) fun a k=>dt k 16 z (by kernel_rfl) z s (fun _ _ _=>id) (fun w s=>r_ld1 t13 (r:=[]) (Ad.at ((hMd.step s).a 0 z) 5 1 z z z) k z z) fun a k=>d_one 14 (by kernel_rfl) z (oE h fun Az Ar h=>?_)
   refine cE k m call166 z z z (c_impl_GramOf fu _ _ (show rd _ _ [I r1.fWay,I r1.fPallet.fW,I r1.fPallet.fD,I r1.fPallet.fH,I r1.fPallet.fGram,I r1.fClasses,Ah,Ai,I r1.fMaster,Ag] (r1:Request) from ⟨_,_,_,_,_,_,z,z,(Enc.rd_agr Af (m.a00 (Enc.rd_lt Af))),(Enc.rd_agr Ac (m.a00 (Enc.rd_lt Ac))),(Enc.rd_agr Ab (m.a00 (Enc.rd_lt Ab)))⟩) (Enc.rd_agr Ae (m.a00 (Enc.rd_lt Ae))) Ar) fun Bc e a k m=>?_
   have s:=s.trans e (by simp)
   refine wpList_nil ⟨s,?_⟩
   refine dN [17,18,19] 3 z k (by kernel_rfl) z s (fun _ _ _ _ _=>id) fun a k=>d_done (by kernel_rfl) ((nm_then ?_))
   refine wp_ret (fS h k m z z)
 have h:=bif_f Aa h
 refine rB k 18 z Aa fun k=>dN [12,13,14,15,16,17,18,19] 8 z k (by kernel_rfl) z s (fun _ _ _ _ _=>id) fun a k=>d_done (by kernel_rfl) ((nm_then ?_))
 refine wp_ret (fS h k m z z)
theorem c_impl_Holds (fu:Nat) {w0:World} (r1:Request) (Al:List Int) (t9:Typ) {Ap:List Value} {F3:List Nat} (Bc:rd w0 F3 Ap r1) {v6:Value} {F7:List Nat} (Ad:rd w0 F7 [v6] Al) {r:Bool}
    (h:d_impl_Holds fu r1 Al t9 = some r) :
    Calls Tryz.prog 20 #[.agg Ap.toArray,v6,.agg (Flat.e (t9)).toArray] w0 fun e w=>e = .returned (.bool (r)) ∧ Ext [] w0 w:=by
 refine enter (vs:=[_,_,_]) func20 z ntmps20 z fun a k=>?_
 have m:=St.start w0
 obtain ⟨Ah,Br,Ai,Bu,Ae,Bl,rfl,rfl,Ac,Ab,Aa⟩:=Bc
 unfold d_impl_Holds at h
 refine wr (s_box (cs:=[I r1.fWay,I r1.fPallet.fW,I r1.fPallet.fD,I r1.fPallet.fH,I r1.fPallet.fGram,I r1.fClasses,Ah,Ai,I r1.fMaster,Ae]) m k z z z z z z fun Ar Ba a k m e Aj=>s_box (cs:=[I t9.fId,I t9.fW,I t9.fH,I t9.fD,I t9.fTare,I t9.fGram,I t9.fCost]) m k z z z z z z fun Ak At a k m e Aq=>pN 1 k z fun a k=>nn (c_cut (fun a w=>K 31 [(1,v6),(3,.pointer (some (⟨Ar,0,none⟩:Addr))),(5,.pointer (some (⟨Ak,0,none⟩:Addr)))] a ∧ St [] w0 w [([Ar],Ba),([Ak],At)] ∧ d_impl_Holds_J1 fu r1 Al t9 = some r) ?_ ?_))
 · rintro a Bw ⟨k,m,h⟩
   unfold d_impl_Holds_J1 at h
   refine wr (sv k z (r_ldB ta30 m 0 Aj 0 k z z z z z z) fun a k=>pN 1 k z fun a k=>oE h fun Bq Av h=>s_call k call76 z z z z z (c_impl_itemsOf fu _ _ (show rd _ _ [I r1.fWay,I r1.fPallet.fW,I r1.fPallet.fD,I r1.fPallet.fH,I r1.fPallet.fGram,I r1.fClasses,Ah,Ai,I r1.fMaster,Ae] (r1:Request) from ⟨_,_,_,_,_,_,z,z,(Enc.rd_agr Ac (m.a00 (Enc.rd_lt Ac))),(Enc.rd_agr Ab (m.a00 (Enc.rd_lt Ab))),(Enc.rd_agr Aa (m.a00 (Enc.rd_lt Aa)))⟩) (Enc.rd_agr Ad (m.a00 (Enc.rd_lt Ad))) Av) fun Bm Bk hR=>?_)
   obtain ⟨Bz,Au,rfl,e,Ao,Ay⟩:=hR
   refine ⟨_,z,fun a k=>?_⟩
   have m:=m.new e Au (fun b hb=>⟨Ay b hb,Enc.rd_lt (Enc.ow_rd Ao) b hb⟩) (Enc.ow_nd Ao)
   refine pN 1 k z fun a k=>oE h fun Bh Bd h=>cE k m call75 z z z (c_slices_ContainsFunc_impl_Item_impl_Item fu _ _ (Enc.rd_agr (Enc.ow_rd Ao) (m.a 0 z)) ⟨77,[.pointer (some (⟨Ak,0,none⟩:Addr))],z,call77,fun w Bi Bn r e As hx=>by subst As; have m:=m.step e; exact c_impl_Holds_1 fu _ _ (Aq.agr (m.a 2 rfl) (by simp)) hx⟩ Bd) fun Bj e a k m=>pN 2 k rfl fun a k=>bsplit (!Bh) (fun Af=>?_) (fun Af=>?_)
   · have h:=bif_t Af h
     refine rB k 25 z Af fun k=>sv k z (r_ldB ta30 m 1 Aj 0 k z z z z z z) fun a k=>pN 1 k z fun a k=>sv k z (r_ldB ta38 m 2 Aq 0 k z z z z z z) fun a k=>oE h fun Bp Be h=>cE k m call79 z z z (c_impl_within fu _ _ (t9:Typ) (show rd _ _ [I r1.fWay,I r1.fPallet.fW,I r1.fPallet.fD,I r1.fPallet.fH,I r1.fPallet.fGram,I r1.fClasses,Ah,Ai,I r1.fMaster,Ae] (r1:Request) from ⟨_,_,_,_,_,_,z,z,(Enc.rd_agr Ac (m.a00 (Enc.rd_lt Ac))),(Enc.rd_agr Ab (m.a00 (Enc.rd_lt Ab))),(Enc.rd_agr Aa (m.a00 (Enc.rd_lt Aa)))⟩) (Enc.rd_agr Ad (m.a00 (Enc.rd_lt Ad))) Be) fun By e a k m=>pN 2 k z fun a k=>nn (wp_ret (fS h k m z z))
   have h:=bif_f Af h
   refine rB k 25 z Af fun k=>pN 6 k z fun a k=>nn (wp_ret (fS h k m z z))
 refine wr (sv k z (r_ldB ta30 m 1 Aj 0 k z z z z z z) fun a k=>oE h fun Aw Ax h=>cE k m call61 z z z (c_impl_sound fu _ (show rd _ _ [I r1.fWay,I r1.fPallet.fW,I r1.fPallet.fD,I r1.fPallet.fH,I r1.fPallet.fGram,I r1.fClasses,Ah,Ai,I r1.fMaster,Ae] (r1:Request) from ⟨_,_,_,_,_,_,z,z,(Enc.rd_agr Ac (m.a00 (Enc.rd_lt Ac))),(Enc.rd_agr Ab (m.a00 (Enc.rd_lt Ab))),(Enc.rd_agr Aa (m.a00 (Enc.rd_lt Aa)))⟩) Ax) fun Bt e a k m=>pN 2 k z fun a k=>bsplit (!Aw) (fun Ag=>?_) (fun Ag=>?_))
 · have h:=bif_t Ag h
   refine rB k 10 z Ag fun k=>pN 8 k z fun a k=>nn (wp_cond_true (k.ev z) (wr (pN 1 k z fun a k=>nn (wp_ret (rt_then ?_)))))
   refine fS h k m z z
 have h:=bif_f Ag h
 refine rB k 10 z Ag fun k=>sv k z (r_ldB ta30 m 1 Aj 0 k z z z z z z) fun a k=>pN 1 k z fun a k=>oE h fun Bo Bb h=>s_call k call74 z z z z z (c_impl_thereOf fu _ _ (show rd _ _ [I r1.fWay,I r1.fPallet.fW,I r1.fPallet.fD,I r1.fPallet.fH,I r1.fPallet.fGram,I r1.fClasses,Ah,Ai,I r1.fMaster,Ae] (r1:Request) from ⟨_,_,_,_,_,_,z,z,(Enc.rd_agr Ac (m.a00 (Enc.rd_lt Ac))),(Enc.rd_agr Ab (m.a00 (Enc.rd_lt Ab))),(Enc.rd_agr Aa (m.a00 (Enc.rd_lt Aa)))⟩) (Enc.rd_agr Ad (m.a00 (Enc.rd_lt Ad))) Bb) fun Bv Bs hR=>?_
 obtain ⟨Bx,Bg,rfl,e,Am,Bf⟩:=hR
 refine ⟨_,z,fun a k=>?_⟩
 have m:=m.new e Bg (fun b hb=>⟨Bf b hb,Enc.rd_lt (Enc.ow_rd Am) b hb⟩) (Enc.ow_nd Am)
 refine sv k z (r_len (α:=Int) (Enc.ow_rd Am) k underlying31 z z) fun a k=>pN 1 k z fun a k=>sv k z (r_len (α:=Int) Ad k underlying31 z z) fun a k=>pN 2 k z fun a k=>nn (cI h k z (fun Az h=>?_) fun Az h=>?_)
 · refine wr (pN 1 k z fun a k=>nn (wp_ret (rt_then ?_)))
   refine fS h k m z z
 refine wp_skip (nm_then ?_)
 exact ⟨k.keep [1,3,5] z,m.sel [2,1] z (by decide),h⟩
theorem c_slices_Compact_int_int (fu:Nat) {w0:World} (x1:List Int) {v2:Value} {F3:List Nat} (Aa:ow w0 F3 [v2] x1) {r:List Int}
    (h:d_slices_Compact_int_int fu x1 = some r) :
    Calls Tryz.prog 306 #[v2] w0 fun e w=>∃ (v0:Value) (G0:List Nat),e = .returned v0 ∧ Ext F3 w0 w ∧ ow w G0 [v0] r ∧ (∀ b ∈ G0,b ∈ F3 ∨ w0.heap.size ≤ b) :=
  c_compactInt (fun blk off cap zs w=>Tryz.slices_Compact_int blk off cap zs w) (fun p cap w=>Tryz.slices_Compact_int_empty p cap w) x1 Aa h

theorem c_impl_kinds (fu:Nat) {w0:World} (Ae:List Int) {v2:Value} {F3:List Nat} (Ad:rd w0 F3 [v2] Ae) {r:(List Int)}
    (h:d_impl_kinds fu Ae = some r) :
    Calls Tryz.prog 290 #[v2] w0 fun e w=>∃ (v0:Value) (G0:List Nat),e = .returned (v0) ∧ Ext [] w0 w ∧ ow w G0 [v0] r ∧ (∀ b ∈ G0,w0.heap.size ≤ b):=by
 refine enter (vs:=[_]) func290 z ntmps290 z fun a k=>?_
 have m:=St.start w0
 unfold d_impl_kinds at h
 refine wr (pN 1 k z fun a k=>nn (wr (pN 1 k z fun a k=>oE h fun x5 Af h=>s_call k call145 z z z z z (c_slices_Clone_int_int fu _ (Enc.rd_agr Ad (m.a00 (Enc.rd_lt Ad))) Af) fun e7 w9 hR=>?_)))
 obtain ⟨Ao,Ai,rfl,e,Ab,Al⟩:=hR
 refine ⟨_,z,fun a k=>?_⟩
 have m:=m.new e Ai (fun b hb=>⟨Al b hb,Enc.rd_lt (Enc.ow_rd Ab) b hb⟩) (Enc.ow_nd Ab)
 refine pN 1 k z fun a k=>nn (wr (pN 1 k z fun a k=>oE h fun Av Aj h=>s_call k call124 z z z z z (c_slices_Sort_int_int fu _ (Enc.ow_agr Ab (m.a 0 z)) Aj) fun At Aw hR=>?_))
 obtain ⟨Ar,rfl,e,Ah,Ac⟩:=hR
 refine ⟨_,z,fun a k=>?_⟩
 have m:=m.mut 0 z e _ (fun b hb=>⟨Ah b hb,Enc.rd_lt (Enc.ow_rd Ac) b hb⟩) (Enc.ow_nd Ac)
 refine nn (wr (pN 1 k z fun a k=>oE h fun As Ag h=>s_call k call306 z z z z z (c_slices_Compact_int_int fu _ (Enc.ow_agr Ac (m.a 0 z)) Ag) fun Au Ap hR=>?_))
 obtain ⟨Aq,Am,rfl,e,Aa,Ak⟩:=hR
 refine ⟨_,z,fun a k=>?_⟩
 have m:=m.mut 0 z e _ (fun b hb=>⟨Ak b hb,Enc.rd_lt (Enc.ow_rd Aa) b hb⟩) (Enc.ow_nd Aa)
 refine pN 1 k z fun a k=>nn (wp_ret ?_)
 cases h
 exact finR1 k z (RV.tmp k z) ⟨_,Am,z,m.ext,(Enc.ow_agr Aa (m.a 0 z)),(m.fresh 0 z)⟩
theorem c_impl_Present (fu:Nat) {w0:World} (r1:Request) {Al:List Value} {F3:List Nat} (Bh:rd w0 F3 Al r1) {r:(List Int)}
    (h:d_impl_Present fu r1 = some r) :
    Calls Tryz.prog 256 #[.agg Al.toArray] w0 fun e w=>∃ (v0:Value) (G0:List Nat),e = .returned (v0) ∧ Ext [] w0 w ∧ ow w G0 [v0] r ∧ (∀ b ∈ G0,w0.heap.size ≤ b):=by
 refine enter (vs:=[_]) func256 z ntmps256 z fun a k=>?_
 have m:=St.start w0
 obtain ⟨v5,F6,v7,F8,v9,Br,rfl,rfl,Ak,Am,Ab⟩:=Bh
 unfold d_impl_Present at h
 refine wr (s_box (cs:=[I r1.fWay,I r1.fPallet.fW,I r1.fPallet.fD,I r1.fPallet.fH,I r1.fPallet.fGram,I r1.fClasses,v5,v7,I r1.fMaster,v9]) m k z z z z z z fun Bm Bt a k m e Ap=>pN 1 k z fun a k=>nn (wp_seq (wr (sv k z (r_ldB ta30 m 0 Ap 0 k z z z z z z) fun a k=>oE h fun Bp Bj h=>cE k m call61 z z z (c_impl_sound fu _ (show rd _ _ [I r1.fWay,I r1.fPallet.fW,I r1.fPallet.fD,I r1.fPallet.fH,I r1.fPallet.fGram,I r1.fClasses,v5,v7,I r1.fMaster,v9] (r1:Request) from ⟨_,_,_,_,_,_,z,z,(Enc.rd_agr Ak (m.a00 (Enc.rd_lt Ak))),(Enc.rd_agr Am (m.a00 (Enc.rd_lt Am))),(Enc.rd_agr Ab (m.a00 (Enc.rd_lt Ab)))⟩) Bj) fun Bw e a k m=>?_))))
 refine pN 1 k z fun a k=>nn (cI h k z (fun Av h=>?_) fun Av h=>?_)
 · refine wr (pN 1 k z fun a k=>nn (wp_ret (rt_then ?_)))
   cases h
   exact finR1 k z (RV.tmp k z) ⟨_,[],z,m.ext,(ow_nil _),(by simp)⟩
 refine wp_skip (nm_then ?_)
 refine wr (s_bs (cs:=[]) (ps:=[]) te31 m k z z z z z z z (by decide) z (by exact (List.forall_mem_nil _)) fun Ao Bc Bv a k m e Bi=>?_)
 have Bf:=ow_bx Bi ([]:List Int) z z z
 refine pN 1 k z fun a k=>nn (wp_seq (wr (sv k z (r_fa fa30_6 k z z) fun a k=>sv k z (r_ldb t128 m 1 Ap 9 k z z z z z) fun a k=>sv k z (r_len (α:=Item) Ab k underlying28 z z) fun a k=>pN 1 k z fun a k=>nn (wp_block (c_loop (fun n a w=>∃ (Ae:List Int) (Ah:Value) (Ad:List Nat) (Ag:World) (Ac:Int),K 25 [(3,Ah),(11,v9),(12,I ((r1.fItems.length:Int))),(13,I Ac)] a ∧ St [] w0 w [(Ad,Ag)] ∧ ow Ag Ad [Ah] Ae ∧ d_impl_Present_L1 fu r1 n Ae Ac = some r) ?_ ?_ fu _ _ ?_)))))
 · rintro a w ⟨_,_,_,_,_,_,_,_,h⟩
   exact nS h
 · rintro Bz a Bo ⟨Ae,Ah,Ad,Ag,Ac,k,m,Ai,h⟩
   rw [d_impl_Present_L1_s] at h
   unfold d_impl_Present_L1_B at h
   refine wr (pN 1 k z fun a k=>nn (wp_seq (cI h k z (fun Ba h=>?_) fun Ba h=>?_)))
   · refine wp_skip (nm_then ?_)
     refine wp_seq (wp_block (wr (oE h fun Aa Aq h=>sv k z (r_ixa Ab Aq k ts28 z z z) fun a k=>sv k z (r_lde Ab (m.a00 (Enc.rd_lt Ab)) Aq ta97 k z z) fun a k=>s_alloc (cs:=[I 0,I 0,I 0,I 0,I 0,I 0,I 0]) m k zeroValue97 z z z z z fun Ca Bl a k m e At=>s_stb (cs':=[I Aa.fId,I Aa.fW,I Aa.fH,I Aa.fD,I Aa.fGram,I Aa.fClass,I Aa.fCount]) sizeOf97 m 0 At 0 k z z z z z z z z z z z fun Bk a k e m As=>nn (wp_region_lit (pN 1 k z fun a k=>sv k z (r_fa fa97_5 k z z) fun a k=>sv k z (r_ldb t13 m 0 As 5 k z z z z z) fun a k=>?_)))))
     refine s_bs (cs:=[I Aa.fClass]) (ps:=[(0,.tmp 19)]) te31 m k z z z z z z z (by decide) z (by exact (List.forall_mem_cons.2 ⟨z,(List.forall_mem_nil _)⟩)) fun Bq Bs Bx a k m e Ar=>?_
     have Az:=ow_bx Ar ([Aa.fClass]:List Int) z z z
     refine oE h fun Bd Aw h=>s_appF Aw te31 z m 2 Ai (News.rd (Enc.rd_agr (Enc.ow_rd Az) (m.a 0 z))) z z k z z z z z z z fun Bg Ax Au a k e m Ay=>pN 1 k z fun a k=>wpList_nil (nm_block (nm_then ?_))
     refine wp_region_lit (pN 2 k z fun a k=>nn ?_)
     exact ⟨Bd,Bg,Ax,Au,w64 (Ac + 1),k.keep [3,11,12,13] z,m.sel [2] z (by decide),Ay,h⟩
   refine wp_exit (ex_then (ex_then (ex_same (nm_then ?_))))
   refine wr (pN 1 k z fun a k=>oE h fun Bu Be h=>s_call k call290 z z z z z (c_impl_kinds fu _ (Enc.rd_agr (Enc.ow_rd Ai) (m.a 0 z)) Be) fun By Cb hR=>?_)
   obtain ⟨Bn,Aj,rfl,e,Af,Bb⟩:=hR
   refine ⟨_,z,fun a k=>?_⟩
   have m:=m.new e Aj (fun b hb=>⟨Bb b hb,Enc.rd_lt (Enc.ow_rd Af) b hb⟩) (Enc.ow_nd Af)
   refine pN 1 k z fun a k=>nn (wp_ret ?_)
   cases h
   exact finR1 k z (RV.tmp k z) ⟨_,Aj,z,m.ext,(Enc.ow_agr Af (m.a 0 z)),(m.fresh 0 z)⟩
 exact ⟨([]:List Int),(.slice (some ⟨Ao,0,none⟩) 0 0),[Ao],Bc,0,k.keep [3,11,12,13] z,m.sel [0] z (by decide),Bf,h⟩
theorem c_impl_mutual (fu:Nat) {w0:World} (Ac:List Pair) (a5:Int) (b6:Int) {v2:Value} {F3:List Nat} (Ab:rd w0 F3 [v2] Ac) {r:Bool}
    (h:d_impl_mutual fu Ac a5 b6 = some r) :
    Calls Tryz.prog 248 #[v2,I a5,I b6] w0 fun e w=>e = .returned (.bool (r)) ∧ Ext [] w0 w:=by
 refine enter (vs:=[_,_,_]) func248 z ntmps248 z fun a k=>?_
 have m:=St.start w0
 unfold d_impl_mutual at h
 refine wr (pN 1 k z fun a k=>nn (wr (pN 3 k z fun a k=>oE h fun x7 Ae h=>cE k m call285 z z z (c_impl_Beside fu _ _ _ (Enc.rd_agr Ab (m.a00 (Enc.rd_lt Ab))) Ae) fun Af e a k m=>pN 1 k z fun a k=>bsplit (x7) (fun Aa=>?_) (fun Aa=>?_))))
 · have h:=bif_t Aa h
   refine rB k 11 z Aa fun k=>pN 3 k z fun a k=>oE h fun Ag Ad h=>cE k m call285 z z z (c_impl_Beside fu _ _ _ (Enc.rd_agr Ab (m.a00 (Enc.rd_lt Ab))) Ad) fun Ah e a k m=>pN 2 k z fun a k=>nn (wp_ret (fS h k m z z))
 have h:=bif_f Aa h
 refine rB k 11 z Aa fun k=>pN 6 k z fun a k=>nn (wp_ret (fS h k m z z))
theorem c_impl_Groups_1_1 (fu:Nat) {w0:World} (x1:Int) (x2:List Pair) (x8:Int) {v5:Value} {F6:List Nat} {b3:Nat} (Ac:bx w0 b3 [v5] 26) (Aa:rd w0 F6 [v5] x2) {b9:Nat} (Ab:bx w0 b9 [I x8] 3) {r:Bool}
    (h:d_impl_Groups_1_1 fu x1 x2 x8 = some r) :
    Calls Tryz.prog 292 #[I x1,.pointer (some (⟨b3,0,none⟩:Addr)),.pointer (some (⟨b9,0,none⟩:Addr))] w0 fun e w=>e = .returned (.bool (r)) ∧ Ext [] w0 w:=by
 refine enter (vs:=[_,_,_]) func292 z ntmps292 z fun a k=>?_
 have m:=St.start w0
 unfold d_impl_Groups_1_1 at h
 refine wr (pN 1 k z fun a k=>nn (wr (sv k z (r_ld1 t126 (r:=[]) (Ac.at (m.a00 Ac.lt1) 0 1 z z z) k z z) fun a k=>sv k z (r_ld1 t13 (r:=[]) (Ab.at (m.a00 Ab.lt1) 0 1 z z z) k z z) fun a k=>pN 1 k z fun a k=>oE h fun Af Ad h=>cE k m call248 z z z (c_impl_mutual fu _ _ _ (Enc.rd_agr Aa (m.a00 (Enc.rd_lt Aa))) Ad) fun Ae e a k m=>pN 2 k z fun a k=>nn (wp_ret (fS h k m z z)))))
theorem c_slices_ContainsFunc_int_int (fu:Nat) {w0:World} (Aa:List Int) (f5:Int → Option Bool) {v2:Value} {F3:List Nat} (Ab:rd w0 F3 [v2] Aa) {v6:Value} (Ag:FnOk1 Tryz.prog w0 v6 f5) {r:Bool}
    (h:d_slices_ContainsFunc_int_int fu Aa f5 = some r) :
    Calls Tryz.prog 182 #[v2,v6] w0 fun e w=>e = .returned (.bool (r)) ∧ Ext [] w0 w:=by
 refine enter (vs:=[_,_]) func182 z ntmps182 z fun a k=>?_
 have m:=St.start w0
 obtain ⟨Aj,Al,rfl,Ae,Af⟩:=Ag
 unfold d_slices_ContainsFunc_int_int at h
 refine wr (pN 1 k z fun a k=>nn (wr (pN 2 k z fun a k=>oE h fun Ak Ac h=>cE k m call239 z z z (c_slices_IndexFunc_int_int fu _ _ (Enc.rd_agr Ab (m.a00 (Enc.rd_lt Ab))) ⟨_,_,z,Ae,fun w Ah Ad r e=>Af w Ah Ad r (m.ext.trans e (by simp))⟩ Ac) fun Ai e a k m=>pN 2 k z fun a k=>nn (wp_ret (fS h k m z z)))))
theorem c_impl_Groups_1 (fu:Nat) {w0:World} (l1:List Int) (x5:List Pair) (Ab:Int) {v2:Value} {F3:List Nat} (Af:rd w0 F3 [v2] l1) {v8:Value} {F9:List Nat} {b6:Nat} (Ad:bx w0 b6 [v8] 26) (Ae:rd w0 F9 [v8] x5) {Aa:Nat} (Ac:bx w0 Aa [I Ab] 3) {r:Bool}
    (h:d_impl_Groups_1 fu l1 x5 Ab = some r) :
    Calls Tryz.prog 291 #[v2,.pointer (some (⟨b6,0,none⟩:Addr)),.pointer (some (⟨Aa,0,none⟩:Addr))] w0 fun e w=>e = .returned (.bool (r)) ∧ Ext [] w0 w:=by
 refine enter (vs:=[_,_,_]) func291 z ntmps291 z fun a k=>?_
 have m:=St.start w0
 unfold d_impl_Groups_1 at h
 refine wr (pN 1 k z fun a k=>nn (wr (pN 2 k z fun a k=>oE h fun Aj Ah h=>cE k m call182 z z z (c_slices_ContainsFunc_int_int fu _ _ (Enc.rd_agr Af (m.a00 (Enc.rd_lt Af))) ⟨292,[.pointer (some (⟨b6,0,none⟩:Addr)),.pointer (some (⟨Aa,0,none⟩:Addr))],z,call292,fun w Ai Ak r e Ag hx=>by subst Ag; have m:=m.step e; exact c_impl_Groups_1_1 fu _ _ _ (Ad.agr (m.a00 Ad.lt1) (by simp)) (Enc.rd_agr Ae (m.a00 (Enc.rd_lt Ae))) (Ac.agr (m.a00 Ac.lt1) (by simp)) hx⟩ Ah) fun Al e a k m=>pN 2 k rfl fun a k=>nn (wp_ret (fS h k m rfl rfl)))))
theorem c_slices_IndexFunc_ints_int (fu:Nat) {w0:World} (Aa:List (List Int)) (f5:(List Int) → Option Bool) {v2:Value} {F3:List Nat} (Ab:rd w0 F3 [v2] Aa) {v6:Value} (Al:FnOk1 Tryz.prog w0 v6 f5) {r:Int}
    (h:d_slices_IndexFunc_ints_int fu Aa f5 = some r) :
    Calls Tryz.prog 245 #[v2,v6] w0 fun e w=>e = .returned (I r) ∧ Ext [] w0 w:=by
 refine enter (vs:=[_,_]) func245 z ntmps245 z fun a k=>?_
 have m:=St.start w0
 obtain ⟨Aq,Ai,rfl,Am,Ak⟩:=Al
 unfold d_slices_IndexFunc_ints_int at h
 refine wr (pN 1 k z fun a k=>nn (wp_seq (wr (pN 1 k z fun a k=>sv k z (r_len (α:=List Int) Ab k underlying53 z z) fun a k=>pN 1 k z fun a k=>nn (wp_block (c_loop (fun n a w=>∃ (Ac:Int),K 19 [(0,v2),(1,(.func (.func Aq) #[] Ai.toArray)),(7,I ((Aa.length:Int))),(8,I Ac)] a ∧ St [] w0 w [] ∧ d_slices_IndexFunc_ints_int_L1 fu Aa f5 n Ac = some r) ?_ ?_ fu _ _ ?_))))))
 · rintro a w ⟨_,_,_,h⟩
   exact nS h
 · rintro Aw a Ar ⟨Ac,k,m,h⟩
   rw [d_slices_IndexFunc_ints_int_L1_s] at h
   unfold d_slices_IndexFunc_ints_int_L1_B at h
   refine wr (pN 1 k z fun a k=>nn (wp_seq (cI h k z (fun Af h=>?_) fun Af h=>?_)))
   · refine wp_skip (nm_then ?_)
     refine wp_seq (wp_block (wr (pN 2 k z fun a k=>nn (wr (pN 3 k z fun a k=>oE h fun Ay Ae h=>sv k z (r_ixa Ab Ae k ts53 z z z) fun a k=>?_)))))
     obtain ⟨Ax,Ah,At,Ad,Aj,Ao⟩:=rd_get Ab (ix_some Ae).2.2
     obtain ⟨As,rfl⟩:∃ v,Ah = [v]:=by obtain ⟨_,_,hq,_⟩:=Ad; exact ⟨_,hq⟩
     refine sv k z (r_ld1 t131 (Aj.agr (m.a00 (Enc.rd_lt Ab)) Ao) k z z) fun a k=>oE h fun Au Ap h=>s_callv k Am z z z z z z (Ak _ _ _ _ m.ext ⟨_,(Enc.rd_agr Ad (m.a00 (Enc.rd_lt Ad)))⟩ Ap) fun Av Az hR=>?_
     obtain ⟨rfl,e⟩:=hR
     refine ⟨_,z,fun a k=>?_⟩
     have m:=m.step e
     refine nn (cI h k z (fun Ag h=>?_) fun Ag h=>?_)
     · refine wr (pN 2 k z fun a k=>nn (wp_ret (rt_block (rt_then (rt_then (rt_block (rt_then ?_)))))))
       refine fS h k m z z
     refine wp_skip (nm_block (nm_then ?_))
     refine wp_region_lit (pN 2 k z fun a k=>nn ?_)
     exact ⟨w64 (Ac + 1),k.keep [0,1,7,8] z,m.sel [] z (by decide),h⟩
   refine wp_exit (ex_then (ex_then (ex_same (nm_then ?_))))
   refine wr (pN 1 k z fun a k=>nn (wp_ret (fS h k m z z)))
 exact ⟨0,k.keep [0,1,7,8] z,m.sel [] z (by decide),h⟩
theorem c_impl_Groups (fu:Nat) {w0:World} (Aq:List Pair) (Bc:List Int) {v2:Value} {F3:List Nat} (Ax:rd w0 F3 [v2] Aq) {v6:Value} {F7:List Nat} (Bk:rd w0 F7 [v6] Bc) {r:(List (List Int))}
    (h:d_impl_Groups fu Aq Bc = some r) :
    Calls Tryz.prog 255 #[v2,v6] w0 fun e w=>∃ (v0:Value) (G0:List Nat),e = .returned (v0) ∧ Ext [] w0 w ∧ ow w G0 [v0] r ∧ (∀ b ∈ G0,w0.heap.size ≤ b):=by
 refine enter (vs:=[_,_]) func255 z ntmps255 z fun a k=>?_
 have m:=St.start w0
 unfold d_impl_Groups at h
 refine wr (s_box (cs:=[v2]) m k z z z z z (rd_c Ax) fun b9 Am a k m e Cu=>pN 1 k z fun a k=>nn (wr (s_bs (cs:=[]) (ps:=[]) te53 m k z z z z z z z (by decide) z (by exact (List.forall_mem_nil _)) fun Bj Bq Fi a k m e Cx=>?_)))
 have Dl:=ow_bx0 (α:=List Int) Cx
 refine pN 1 k z fun a k=>nn (wp_seq (wr (pN 1 k z fun a k=>oE h fun Ap Cb h=>s_call k call290 z z z z z (c_impl_kinds fu _ (Enc.rd_agr Bk (m.a00 (Enc.rd_lt Bk))) Cb) fun Fw At hR=>?_)))
 obtain ⟨Bh,Ah,rfl,e,Ai,Do⟩:=hR
 refine ⟨_,z,fun a k=>?_⟩
 have m:=m.new e Ah (fun b hb=>⟨Do b hb,Enc.rd_lt (Enc.ow_rd Ai) b hb⟩) (Enc.ow_nd Ai)
 refine sv k z (r_len (α:=Int) (Enc.ow_rd Ai) k underlying31 z z) fun a k=>pN 1 k z fun a k=>nn (wp_block (c_loop (fun n a w=>∃ (Af:List (List Int)) (Ae:Value) (Ac:List Nat) (Ar:World) (Ag:Int),K 42 [(2,.pointer (some (⟨b9,0,none⟩:Addr))),(5,Ae),(11,Bh),(12,I ((Ap.length:Int))),(13,I Ag)] a ∧ St [] w0 w [([b9],Am),(Ah,At),(Ac,Ar)] ∧ ow Ar Ac [Ae] Af ∧ d_impl_Groups_L1 fu Aq Ap n Af Ag = some r) ?_ ?_ fu _ _ ?_))
 · rintro a w ⟨_,_,_,_,_,_,_,_,h⟩
   exact nS h
 · rintro Cv a Fy ⟨Af,Ae,Ac,Ar,Ag,k,m,Aa,h⟩
   rw [d_impl_Groups_L1_s] at h
   unfold d_impl_Groups_L1_B at h
   refine wr (pN 1 k z fun a k=>nn (wp_seq (cI h k z (fun Cy h=>?_) fun Cy h=>?_)))
   · refine wp_skip (nm_then ?_)
     refine c_cut (fun a w=>∃ (Ao:List (List Int)) (Aj:Value) (As:List Nat) (Al:World),K 42 [(2,.pointer (some (⟨b9,0,none⟩:Addr))),(5,Aj),(11,Bh),(12,I ((Ap.length:Int))),(13,I Ag)] a ∧ St [] w0 w [([b9],Am),(Ah,At),(As,Al)] ∧ ow Al As [Aj] Ao ∧ d_impl_Groups_J1 fu (d_impl_Groups_L1 fu Aq Ap Cv) Ag Ao = some r) ?_ ?_
     · rintro a Ew ⟨Ao,Aj,As,Al,k,m,Ca,h⟩
       unfold d_impl_Groups_J1 at h
       refine wp_region_lit (pN 2 k z fun a k=>nn ?_)
       exact ⟨Ao,Aj,As,Al,w64 (Ag + 1),k.keep [2,5,11,12,13] z,m.sel [0,1,2] z (by decide),Ca,h⟩
     refine wp_block (wr (oE h fun Ad Bi h=>sv k z (r_ixa (Enc.ow_rd Ai) Bi k ts31 z z z) fun a k=>sv k z (r_lde1 (Enc.ow_rd Ai) (m.a 1 z) Bi 0 t13 k z z z z) fun a k=>s_alloc (cs:=[I 0]) m k zeroValue3 z z z z z fun Au Er a k m e Ds=>s_stb (cs':=[I Ad]) sizeOf3 m 0 Ds 0 k z z z z z z z z z z z fun Ba a k e m Ak=>nn (wp_seq (wr (sv k z (r_ldb t13 m 0 Ak 0 k z z z z z) fun a k=>oE h fun Fp Cf h=>cE k m call148 z z z (c_impl_in fu _ _ _  Cf) fun Ej e a k m=>pN 1 k z fun a k=>nn (cI h k z (fun Dj h=>?_) fun Dj h=>?_))))))
     · refine wp_exit (ex_then (ex_same (nm_then ?_)))
       exact ⟨Af,Ae,Ac,Ar,k.keep [2,5,11,12,13] z,m.sel [1,2,3] z (by decide),Aa,h⟩
     refine wp_skip (nm_then ?_)
     refine wr (pN 2 k z fun a k=>oE h fun Az Dp h=>cE k m call245 z z z (c_slices_IndexFunc_ints_int fu _ _ (Enc.rd_agr (Enc.ow_rd Aa) (m.a 3 z)) ⟨291,[.pointer (some (⟨b9,0,none⟩:Addr)),.pointer (some (⟨Au,0,none⟩:Addr))],z,call291,fun w Gd Fc r e Ay hx=>by obtain ⟨_,Ay⟩:=Ay; have m:=m.step e; exact c_impl_Groups_1 fu _ _ _ Ay (Cu.agr (m.a 1 z) (by simp)) (Enc.rd_agr Ax (m.a00 (Enc.rd_lt Ax))) (Ak.agr (m.a 0 z) (by simp)) hx⟩ Dp) fun Fe e a k m=>pN 1 k z fun a k=>nn (wr (pN 2 k z fun a k=>nn (cI h k z (fun Cj h=>?_) fun Cj h=>?_))))
     · refine wp_region_lit (pN 1 k z fun a k=>sv k z (r_ldb t13 m 0 Ak 0 k z z z z z) fun a k=>s_bs (cs:=[I Ad]) (ps:=[(0,.tmp 26)]) te31 m k z z z z z z z (by decide) z (by exact (List.forall_mem_cons.2 ⟨z,(List.forall_mem_nil _)⟩)) fun Bf Ek Eh a k m e Bt=>?_)
       have Bd:=ow_bx Bt ([Ad]:List Int) z z z
       refine s_bs (cs:=[(.slice (some ⟨Bf,0,none⟩) 1 1)]) (ps:=[(0,.tmp 27)]) te53 m k z z z z z z z (by decide) z (by exact (List.forall_mem_cons.2 ⟨congrArg Array.size (rd_c (Enc.ow_rd Bd)),(List.forall_mem_nil _)⟩)) fun Eu Ge Fz a k m e Dh=>oE h fun Dw Da h=>?_
       have Dc:=Enc.ow_agr Bd (m.a 1 z)
       have Dv:=News.box Dh (m.a 0 z) (by simp) (m:=1)
       have Df:=m.a 5 z
       have m:=m.sel [5,1,0,2,3,4] z (by decide)
       have m:=m.join2
       refine s_appO (F:=Ac) (G:=[Bf]) Da te53 z m Aa Df Dv Dc (Agr.refl _ _) k z z z z z z fun Cc Co Ed a k e m Br=>pN 1 k z fun a k=>wpList_nil (nm_block (nm_then ?_))
       exact ⟨Dw,Cc,Co,Ed,k.keep [2,5,11,12,13] z,m.sel [3,4,0] z (by decide),Br,h⟩
     refine d_go (Ac) mixo m z fun Dy hMd=>?_
     have m:=hMd
     have s:=Ext.refl ((Ac):List Nat) Dy
     refine dN [0,1,2,3] 4 z k (by kernel_rfl) z s (fun _ _ _ _ _=>id) fun a k=>oE h fun Gh Ab h=>dt k 4 z (by kernel_rfl) z s (fun _ _ _=>id) (fun w s=>r_ixa (Enc.ow_rd Aa) Ab k ts53 z z z) fun a k=>?_
     obtain ⟨Fg,Dz,Eo,Bu,Fu,Ft⟩:=rd_get (Enc.ow_rd Aa) (ix_some Ab).2.2
     obtain ⟨Fk,rfl⟩:∃ v,Dz = [v]:=by obtain ⟨_,_,hq,_⟩:=Bu; exact ⟨_,hq⟩
     refine dt k 6 z (by kernel_rfl) z s (fun _ _ _=>id) (fun w s=>r_ld1 t13 (r:=[]) (Ak.at (hMd.az 0 3 z z z s) 0 1 z z z) k z z) fun a k=>?_
     obtain ⟨Fl,Cm,Ei,Dn,Ez,Fm⟩:=rd_get (Enc.ow_rd Aa) (ix_some Ab).2.2
     obtain ⟨Fx,rfl⟩:∃ v,Cm = [v]:=by obtain ⟨_,_,hq,_⟩:=Dn; exact ⟨_,hq⟩
     refine d_two 5 7 (by kernel_rfl) z z ?_ ?_ 
     · obtain ⟨Eg,Dx,Ev,Cg,Be,Dd⟩:=rd_get (Enc.ow_rd Aa) (ix_some Ab).2.2
       obtain ⟨Ex,rfl⟩:∃ v,Dx = [v]:=by obtain ⟨_,_,hq,_⟩:=Cg; exact ⟨_,hq⟩
       refine sv k z (r_ld1 t131 (Be.agr (m.a 3 z) Dd) k z z) fun a k=>wpList_nil ⟨s,?_⟩
       refine d_one 7 (by kernel_rfl) z (s_bsN (cs:=[I Ad]) (ps:=[(0,.tmp 36)]) te31 m k z z z z z z z (by decide) z (by exact (List.forall_mem_cons.2 ⟨z,(List.forall_mem_nil _)⟩)) fun Ea Bn Ga a k m e Ci De=>?_)
       have En:=lo1 (Nat.le_trans s.size De)
       have Ct:=ow_bx Ci ([Ad]:List Int) z z z
       have s:=s.trans e (by simp)
       refine wpList_nil ⟨s,?_⟩
       refine d_one 8 (by kernel_rfl) z ?_
       obtain ⟨Fa,Ep,m,Ce,Cr,Ee,Bg⟩:=m.opnS 4 z Aa Ab Be z (M':=[([Ea],Bn),([Au],Ba),([b9],Am),(Ah,At)]) z
       refine oE h fun Bx Cl h=>s_appFN Cl te31 z m 1 Cr (News.rd (Enc.rd_agr (Enc.ow_rd Ct) (m.a 2 z))) z z k z z z z z z z fun Di Db Es a k e m Aw Cz=>?_
       have Fn:∀ y ∈ Db,y ∈ (Ac) ∨ _ ≤ y:=fun y hy=>(Cz y hy).elim (fun hy=>(fun y hy=>(fun y hy=>Or.inl hy) y (Bg y hy)) y hy) (fun h=>Or.inr (Nat.le_trans s.size h))
       have s:=s.trans e (fun y hy=>(fun y hy=>Or.inl hy) y (Bg y hy))
       refine wpList_nil ⟨s,?_⟩
       refine oE h fun Gb Em h=>dt k 9 z (by kernel_rfl) z s (fun _ _ _=>id) (fun w s=>r_ixa (Enc.ow_rd Aa) Ab k ts53 z z z) fun a k=>d_one 10 (by kernel_rfl) z (s_stH1 (α:=List Int) (sz:=1) (cs':=[Di]) sizeOf31 m 0 Ce 0 k (rd_c (Enc.ow_rd Aw)) (rd_o (Enc.ow_rd Aw)) z z z z z z z z z z fun Dr a k e m Dt=>?_)
       obtain ⟨Bm,m,Cp⟩:=(m.sel [0,1,2,3,4,5] z (by decide)).cls Dt Aw
       have s:=s.trans e (fun y hy=>(fun y hy=>Or.inl hy) y (Ee y hy))
       refine wpList_nil ⟨s,?_⟩
       refine d_done (by kernel_rfl) ?_
       have k:=k.keep [2,11,12,5,13] z
       refine (nm_block (nm_then ?_))
       exact ⟨setx Af Az Bx,Ae,Bm,Dr,k.keep [2,5,11,12,13] z,m.sel [3,4,0] z (by decide),Cp,h⟩
     refine s_bsN (cs:=[I Ad]) (ps:=[(0,.tmp 36)]) te31 m k z z z z z z z (by decide) z (by exact (List.forall_mem_cons.2 ⟨z,(List.forall_mem_nil _)⟩)) fun Bv Cw Fh a k m e Du Bo=>?_
     have Gg:=lo1 (Nat.le_trans s.size Bo)
     have Ef:=ow_bx Du ([Ad]:List Int) z z z
     have s:=s.trans e (by simp)
     refine wpList_nil ⟨s,?_⟩
     obtain ⟨Fq,Bp,Fs,Cs,Ff,Fd⟩:=rd_get (Enc.ow_rd Aa) (ix_some Ab).2.2
     obtain ⟨Gc,rfl⟩:∃ v,Bp = [v]:=by obtain ⟨_,_,hq,_⟩:=Cs; exact ⟨_,hq⟩
     refine d_one 5 (by kernel_rfl) z ?_
     obtain ⟨Fb,Dk,Fj,Bs,Bb,Cn⟩:=rd_get (Enc.ow_rd Aa) (ix_some Ab).2.2
     obtain ⟨El,rfl⟩:∃ v,Dk = [v]:=by obtain ⟨_,_,hq,_⟩:=Bs; exact ⟨_,hq⟩
     refine sv k z (r_ld1 t131 (Bb.agr (m.a 4 z) Cn) k z z) fun a k=>wpList_nil ⟨s,?_⟩
     refine d_one 8 (by kernel_rfl) z ?_
     obtain ⟨Et,Ey,m,Bz,Ec,Cq,Bl⟩:=m.opnS 4 z Aa Ab Bb z (M':=[([Bv],Cw),([Au],Ba),([b9],Am),(Ah,At)]) z
     refine oE h fun Bw Dg h=>s_appFN Dg te31 z m 1 Ec (News.rd (Enc.rd_agr (Enc.ow_rd Ef) (m.a 2 z))) z z k z z z z z z z fun Dm By Gf a k e m Av Ch=>?_
     have Fo:∀ y ∈ By,y ∈ (Ac) ∨ _ ≤ y:=fun y hy=>(Ch y hy).elim (fun hy=>(fun y hy=>(fun y hy=>Or.inl hy) y (Bl y hy)) y hy) (fun h=>Or.inr (Nat.le_trans s.size h))
     have s:=s.trans e (fun y hy=>(fun y hy=>Or.inl hy) y (Bl y hy))
     refine wpList_nil ⟨s,?_⟩
     refine oE h fun Fv Fr h=>dt k 9 z (by kernel_rfl) z s (fun _ _ _=>id) (fun w s=>r_ixa (Enc.ow_rd Aa) Ab k ts53 z z z) fun a k=>d_one 10 (by kernel_rfl) z (s_stH1 (α:=List Int) (sz:=1) (cs':=[Dm]) sizeOf31 m 0 Bz 0 k (rd_c (Enc.ow_rd Av)) (rd_o (Enc.ow_rd Av)) z z z z z z z z z z fun Dq a k e m Eb=>?_)
     obtain ⟨Ck,m,Cd⟩:=(m.sel [0,1,2,3,4,5] z (by decide)).cls Eb Av
     have s:=s.trans e (fun y hy=>(fun y hy=>Or.inl hy) y (Cq y hy))
     refine wpList_nil ⟨s,?_⟩
     refine d_done (by kernel_rfl) ?_
     have k:=k.keep [2,11,12,5,13] z
     refine (nm_block (nm_then ?_))
     exact ⟨setx Af Az Bw,Ae,Ck,Dq,k.keep [2,5,11,12,13] z,m.sel [3,4,0] z (by decide),Cd,h⟩
   refine wp_exit (ex_then (ex_then (ex_same (nm_then ?_))))
   refine wr (pN 2 k z fun a k=>nn (wp_ret ?_))
   cases h
   exact finR1 k z (RV.tmp k z) ⟨_,Ac,z,m.ext,(Enc.ow_agr Aa (m.a 2 z)),(m.fresh 2 z)⟩
 exact ⟨([]:List (List Int)),(.slice (some ⟨Bj,0,none⟩) 0 0),[Bj],Bq,0,k.keep [2,5,11,12,13] z,m.sel [2,0,1] z (by decide),Dl,h⟩
theorem c_impl_GroupsOf (fu:Nat) {w0:World} (r1:Request) {Ai:List Value} {F3:List Nat} (Aq:rd w0 F3 Ai r1) {r:(List (List Int))}
    (h:d_impl_GroupsOf fu r1 = some r) :
    Calls Tryz.prog 195 #[.agg Ai.toArray] w0 fun e w=>∃ (v0:Value) (G0:List Nat),e = .returned (v0) ∧ Ext [] w0 w ∧ ow w G0 [v0] r ∧ (∀ b ∈ G0,w0.heap.size ≤ b):=by
 refine enter (vs:=[_]) func195 z ntmps195 z fun a k=>?_
 have m:=St.start w0
 obtain ⟨v5,F6,v7,F8,v9,Ay,rfl,rfl,Aa,Ab,Ac⟩:=Aq
 unfold d_impl_GroupsOf at h
 refine wr (s_box (cs:=[I r1.fWay,I r1.fPallet.fW,I r1.fPallet.fD,I r1.fPallet.fH,I r1.fPallet.fGram,I r1.fClasses,v5,v7,I r1.fMaster,v9]) m k z z z z z z fun Av Az a k m e Ag=>pN 1 k z fun a k=>nn (wp_seq (wr (sv k z (r_ldB ta30 m 0 Ag 0 k z z z z z z) fun a k=>oE h fun Ax Ar h=>cE k m call61 z z z (c_impl_sound fu _ (show rd _ _ [I r1.fWay,I r1.fPallet.fW,I r1.fPallet.fD,I r1.fPallet.fH,I r1.fPallet.fGram,I r1.fClasses,v5,v7,I r1.fMaster,v9] (r1:Request) from ⟨_,_,_,_,_,_,z,z,(Enc.rd_agr Aa (m.a00 (Enc.rd_lt Aa))),(Enc.rd_agr Ab (m.a00 (Enc.rd_lt Ab))),(Enc.rd_agr Ac (m.a00 (Enc.rd_lt Ac)))⟩) Ar) fun Bd e a k m=>?_))))
 refine pN 1 k z fun a k=>nn (cI h k z (fun Al h=>?_) fun Al h=>?_)
 · refine wr (pN 1 k z fun a k=>nn (wp_ret (rt_then ?_)))
   cases h
   exact finR1 k z (RV.tmp k z) ⟨_,[],z,m.ext,(ow_nil _),(by simp)⟩
 refine wp_skip (nm_then ?_)
 refine wp_seq (d_go [] mixo m z fun Am hMd=>?_)
 have m:=hMd
 have s:=Ext.refl ([]:List Nat) Am
 refine dt k 0 z (by kernel_rfl) z s (fun _ _ _=>id) (fun w s=>r_fa fa30_3 k z z) fun a k=>dt k 1 z (by kernel_rfl) z s (fun _ _ _=>id) (fun w s=>r_ld1 t126 (r:=[]) (Ag.at ((hMd.step s).a 0 z) 6 1 z z z) k z z) fun a k=>dt k 2 z (by kernel_rfl) z s (fun _ _ _=>id) (fun w s=>r_ldA ta30 (Ag.at ((hMd.step s).a 0 z) 0 10 z z z) z k z z) fun a k=>d_one 3 (by kernel_rfl) z (oE h fun Ba Ap h=>?_)
 refine s_call k call256 z z z z z (c_impl_Present fu _ (show rd _ _ [I r1.fWay,I r1.fPallet.fW,I r1.fPallet.fD,I r1.fPallet.fH,I r1.fPallet.fGram,I r1.fClasses,v5,v7,I r1.fMaster,v9] (r1:Request) from ⟨_,_,_,_,_,_,z,z,(Enc.rd_agr Aa (m.a00 (Enc.rd_lt Aa))),(Enc.rd_agr Ab (m.a00 (Enc.rd_lt Ab))),(Enc.rd_agr Ac (m.a00 (Enc.rd_lt Ac)))⟩) Ap) fun Bc Bf hR=>?_
 obtain ⟨As,Aj,rfl,e,Ad,Ak⟩:=hR
 refine ⟨_,z,fun a k=>?_⟩
 have m:=m.new e Aj (fun b hb=>⟨Ak b hb,Enc.rd_lt (Enc.ow_rd Ad) b hb⟩) (Enc.ow_nd Ad)
 have At:=fun (y:Nat) (hy:y ∈ Aj)=>Nat.le_trans s.size (Ak y hy)
 have s:=s.trans e (by simp)
 refine wpList_nil ⟨s,?_⟩
 refine d_one 4 (by kernel_rfl) z (oE h fun Bg Ao h=>s_call k call255 z z z z z (c_impl_Groups fu _ _ (Enc.rd_agr Aa (m.a00 (Enc.rd_lt Aa))) (Enc.rd_agr (Enc.ow_rd Ad) (m.a 0 z)) Ao) fun Bb Au hR=>?_)
 obtain ⟨Aw,Af,rfl,e,Ae,Ah⟩:=hR
 refine ⟨_,z,fun a k=>?_⟩
 have m:=m.new e Af (fun b hb=>⟨Ah b hb,Enc.rd_lt (Enc.ow_rd Ae) b hb⟩) (Enc.ow_nd Ae)
 have Be:=fun (y:Nat) (hy:y ∈ Af)=>Nat.le_trans s.size (Ah y hy)
 have s:=s.trans e (by simp)
 refine wpList_nil ⟨s,?_⟩
 refine dN [5] 1 z k (by kernel_rfl) z s (fun _ _ _ _ _=>id) fun a k=>d_done (by kernel_rfl) ((nm_then ?_))
 refine wp_ret ?_
 cases h
 exact finR1 k z (RV.tmp k z) ⟨_,Af,z,m.ext,(Enc.ow_agr Ae (m.a 0 z)),(m.fresh 0 z)⟩
theorem c_slices_Index_int_int (fu:Nat) {w0:World} (Aa:List Int) (v5:Int) {v2:Value} {F3:List Nat} (Ab:rd w0 F3 [v2] Aa) {r:Int}
    (h:d_slices_Index_int_int fu Aa v5 = some r) :
    Calls Tryz.prog 273 #[v2,I v5] w0 fun e w=>e = .returned (I r) ∧ Ext [] w0 w:=by
 refine enter (vs:=[_,_]) func273 z ntmps273 z fun a k=>?_
 have m:=St.start w0
 unfold d_slices_Index_int_int at h
 refine wr (pN 1 k z fun a k=>nn (wp_seq (wr (pN 1 k z fun a k=>sv k z (r_len (α:=Int) Ab k underlying31 z z) fun a k=>pN 1 k z fun a k=>nn (wp_block (c_loop (fun n a w=>∃ (Ac:Int),K 19 [(0,v2),(1,I v5),(7,I ((Aa.length:Int))),(8,I Ac)] a ∧ St [] w0 w [] ∧ d_slices_Index_int_int_L1 fu Aa v5 n Ac = some r) ?_ ?_ fu _ _ ?_))))))
 · rintro a w ⟨_,_,_,h⟩
   exact nS h
 · rintro Ai a Ag ⟨Ac,k,m,h⟩
   rw [d_slices_Index_int_int_L1_s] at h
   unfold d_slices_Index_int_int_L1_B at h
   refine wr (pN 1 k z fun a k=>nn (wp_seq (cI h k z (fun Af h=>?_) fun Af h=>?_)))
   · refine wp_skip (nm_then ?_)
     refine wp_seq (wp_block (wr (pN 2 k z fun a k=>nn (wr (pN 3 k z fun a k=>oE h fun Ah Ad h=>sv k z (r_ixa Ab Ad k ts31 z z z) fun a k=>sv k z (r_lde1 Ab (m.a00 (Enc.rd_lt Ab)) Ad 0 t13 k z z z z) fun a k=>pN 1 k z fun a k=>nn (cI h k z (fun Ae h=>?_) fun Ae h=>?_))))))
     · refine wr (pN 2 k z fun a k=>nn (wp_ret (rt_block (rt_then (rt_then (rt_block (rt_then ?_)))))))
       refine fS h k m z z
     refine wp_skip (nm_block (nm_then ?_))
     refine wp_region_lit (pN 2 k z fun a k=>nn ?_)
     exact ⟨w64 (Ac + 1),k.keep [0,1,7,8] z,m.sel [] z (by decide),h⟩
   refine wp_exit (ex_then (ex_then (ex_same (nm_then ?_))))
   refine wr (pN 1 k z fun a k=>nn (wp_ret (fS h k m z z)))
 exact ⟨0,k.keep [0,1,7,8] z,m.sel [] z (by decide),h⟩
theorem c_slices_Contains_int_int (fu:Nat) {w0:World} (Aa:List Int) (v5:Int) {v2:Value} {F3:List Nat} (Ab:rd w0 F3 [v2] Aa) {r:Bool}
    (h:d_slices_Contains_int_int fu Aa v5 = some r) :
    Calls Tryz.prog 217 #[v2,I v5] w0 fun e w=>e = .returned (.bool (r)) ∧ Ext [] w0 w:=by
 refine enter (vs:=[_,_]) func217 z ntmps217 z fun a k=>?_
 have m:=St.start w0
 unfold d_slices_Contains_int_int at h
 refine wr (pN 1 k z fun a k=>nn (wr (pN 2 k z fun a k=>oE h fun x6 Ac h=>cE k m call273 z z z (c_slices_Index_int_int fu _ _ (Enc.rd_agr Ab (m.a00 (Enc.rd_lt Ab))) Ac) fun w9 e a k m=>pN 2 k z fun a k=>nn (wp_ret (fS h k m z z)))))
theorem c_impl_cartonFault_1 (fu:Nat) {w0:World} (y1:Item) (x2:Carton) (x8:List (List Int)) {v5:Value} {F6:List Nat} {b3:Nat} (Ad:bx w0 b3 [I x2.fType,I x2.fGroup,v5] 33) (At:rd w0 F6 [v5] x2.fUnits) {Af:Value} {Aj:List Nat} {b9:Nat} (Ab:bx w0 b9 [Af] 53) (Ac:rd w0 Aj [Af] x8) {r:Bool}
    (h:d_impl_cartonFault_1 fu y1 x2 x8 = some r) :
    Calls Tryz.prog 216 #[.agg (Flat.e (y1)).toArray,.pointer (some (⟨b3,0,none⟩:Addr)),.pointer (some (⟨b9,0,none⟩:Addr))] w0 fun e w=>e = .returned (.bool (r)) ∧ Ext [] w0 w:=by
 refine enter (vs:=[_,_,_]) func216 z ntmps216 z fun a k=>?_
 have m:=St.start w0
 unfold d_impl_cartonFault_1 at h
 refine wr (s_box (cs:=[I y1.fId,I y1.fW,I y1.fH,I y1.fD,I y1.fGram,I y1.fClass,I y1.fCount]) m k z z z z z z fun Aq Aw a k m e Al=>pN 1 k z fun a k=>nn (wp_seq (d_go [] mixo m z fun Ah hMd=>?_)))
 have m:=hMd
 have s:=Ext.refl ([]:List Nat) Ah
 refine dt k 0 z (by kernel_rfl) z s (fun _ _ _=>id) (fun w s=>r_fa fa33_1 k z z) fun a k=>dt k 1 z (by kernel_rfl) z s (fun _ _ _=>id) (fun w s=>r_ld1 t13 (r:=[]) (Ad.at ((hMd.step s).a00 Ad.lt1) 1 1 z z z) k z z) fun a k=>dt k 2 z (by kernel_rfl) z s (fun _ _ _=>id) (fun w s=>r_ld1 t153 (r:=[]) (Ab.at ((hMd.step s).a00 Ab.lt1) 0 1 z z z) k z z) fun a k=>dt k 3 z (by kernel_rfl) z s (fun _ _ _=>id) (fun w s=>r_len (α:=List Int) Ac k underlying53 z z) fun a k=>dN [4,5] 2 z k (by kernel_rfl) z s (fun _ _ _ _ _=>id) fun a k=>bsplit (decide (x2.fGroup ≥ ((x8.length:Int)))) (fun Aa=>?_) (fun Aa=>?_)
 · have h:=bif_t Aa h
   refine rB k 10 z Aa fun k=>dN [6,7,8,9,10,11,12,13,14,15,16] 11 z k (by kernel_rfl) z s (fun _ _ _ _ _=>id) fun a k=>d_done (by kernel_rfl) ((nm_then ?_))
   refine wp_ret (fS h k m z z)
 have h:=bif_f Aa h
 refine rB k 10 z Aa fun k=>dt k 6 z (by kernel_rfl) z s (fun _ _ _=>id) (fun w s=>r_ld1 t153 (r:=[]) (Ab.at ((hMd.step s).a00 Ab.lt1) 0 1 z z z) k z z) fun a k=>dt k 7 z (by kernel_rfl) z s (fun _ _ _=>id) (fun w s=>r_fa fa33_1 k z z) fun a k=>dt k 8 z (by kernel_rfl) z s (fun _ _ _=>id) (fun w s=>r_ld1 t13 (r:=[]) (Ad.at ((hMd.step s).a00 Ad.lt1) 1 1 z z z) k z z) fun a k=>oE h fun As Ag h=>dt k 9 z (by kernel_rfl) z s (fun _ _ _=>id) (fun w s=>r_ixa Ac Ag k ts53 z z z) fun a k=>?_
 obtain ⟨Ar,Ao,Av,Ae,Am,Ak⟩:=rd_get Ac (ix_some Ag).2.2
 obtain ⟨Ax,rfl⟩:∃ v,Ao = [v]:=by obtain ⟨_,_,hq,_⟩:=Ae; exact ⟨_,hq⟩
 refine dt k 10 z (by kernel_rfl) z s (fun _ _ _=>id) (fun w s=>r_ld1 t131 (Am.agr ((hMd.step s).a00 (Enc.rd_lt Ac)) Ak) k z z) fun a k=>dt k 11 z (by kernel_rfl) z s (fun _ _ _=>id) (fun w s=>r_fa fa97_5 k z z) fun a k=>dt k 12 z (by kernel_rfl) z s (fun _ _ _=>id) (fun w s=>r_ld1 t13 (r:=[]) (Al.at ((hMd.step s).a 0 z) 5 1 z z z) k z z) fun a k=>d_one 13 (by kernel_rfl) z (oE h fun Ap Ai h=>cE k m call217 z z z (c_slices_Contains_int_int fu _ _ (Enc.rd_agr Ae (m.a00 (Enc.rd_lt Ae))) Ai) fun Au e a k m=>?_)
 have s:=s.trans e (by simp)
 refine wpList_nil ⟨s,?_⟩
 refine dN [14,15,16] 3 z k (by kernel_rfl) z s (fun _ _ _ _ _=>id) fun a k=>d_done (by kernel_rfl) ((nm_then ?_))
 refine wp_ret (fS h k m z z)
theorem c_impl_Cheapest (fu:Nat) {w0:World} (r1:Request) (As:List Int) {Aw:List Value} {F3:List Nat} (Br:rd w0 F3 Aw r1) {v6:Value} {F7:List Nat} (Az:rd w0 F7 [v6] As) {r:Typ × Bool}
    (h:d_impl_Cheapest fu r1 As = some r) :
    Calls Tryz.prog 198 #[.agg Aw.toArray,v6] w0 fun e w=>e = .returned (.tuple #[.agg (Flat.e r.1).toArray,.bool (r.2)]) ∧ Ext [] w0 w:=by
 refine enter (vs:=[_,_]) func198 z ntmps198 z fun a k=>?_
 have m:=St.start w0
 obtain ⟨v9,Ce,Aq,Ca,Au,Cc,rfl,rfl,Ax,Aj,Av⟩:=Br
 unfold d_impl_Cheapest at h
 refine wr (s_box (cs:=[I r1.fWay,I r1.fPallet.fW,I r1.fPallet.fD,I r1.fPallet.fH,I r1.fPallet.fGram,I r1.fClasses,v9,Aq,I r1.fMaster,Au]) m k z z z z z z fun At Ba a k m e Bc=>s_alloc (cs:=[I 0,I 0,I 0,I 0,I 0,I 0,I 0]) m k zeroValue38 z z z z z fun Ap Ay a k m e Bo=>pN 1 k z fun a k=>nn (wr (sv k z (r_build bt38 k (cs:=#[I 0,I 0,I 0,I 0,I 0,I 0,I 0]) (ps:=[]) z z (by kernel_rfl)) fun a k=>?_)))
 refine s_alloc (cs:=[I 0,I 0,I 0,I 0,I 0,I 0,I 0]) m k zeroValue38 z z z z z fun Ag Ch a k m e Bp=>s_stb (cs':=[I 0,I 0,I 0,I 0,I 0,I 0,I 0]) sizeOf38 m 0 Bp 0 k z z z z z z z z z z z fun Bn a k e m Bd=>pN 1 k z fun a k=>nn (wp_seq (wr (sv k z (r_fa fa30_4 k z z) fun a k=>sv k z (r_ldb t127 m 2 Bc 7 k z z z z z) fun a k=>sv k z (r_len (α:=Typ) Aj k underlying27 z z) fun a k=>pN 1 k z fun a k=>nn (wp_block ?_))))
 refine c_loop (fun n a w=>∃ (Ab:Typ) (Ai:World) (Ae:Bool) (Ah:Int),K 50 [(1,v6),(2,.pointer (some (⟨At,0,none⟩:Addr))),(4,.pointer (some (⟨Ap,0,none⟩:Addr))),(6,.pointer (some (⟨Ag,0,none⟩:Addr))),(7,.bool (Ae)),(12,Aq),(13,I ((r1.fTypes.length:Int))),(14,I Ah)] a ∧ St [] w0 w [([At],Ba),([Ap],Ay),([Ag],Ai)] ∧ bx Ai Ag [I Ab.fId,I Ab.fW,I Ab.fH,I Ab.fD,I Ab.fTare,I Ab.fGram,I Ab.fCost] 38 ∧ d_impl_Cheapest_L1 fu r1 As n Ab Ae Ah = some r) ?_ ?_ fu _ _ ?_
 · rintro a w ⟨_,_,_,_,_,_,_,h⟩
   exact nS h
 · rintro Bq a Cb ⟨Ab,Ai,Ae,Ah,k,m,Ac,h⟩
   rw [d_impl_Cheapest_L1_s] at h
   unfold d_impl_Cheapest_L1_B at h
   refine wr (pN 1 k z fun a k=>nn (wp_seq (cI h k z (fun Bg h=>?_) fun Bg h=>?_)))
   · refine wp_skip (nm_then ?_)
     refine c_cut (fun a w=>∃ (Ad:Typ) (Ar:World) (Ao:Bool),K 50 [(1,v6),(2,.pointer (some (⟨At,0,none⟩:Addr))),(4,.pointer (some (⟨Ap,0,none⟩:Addr))),(6,.pointer (some (⟨Ag,0,none⟩:Addr))),(7,.bool (Ao)),(12,Aq),(13,I ((r1.fTypes.length:Int))),(14,I Ah)] a ∧ St [] w0 w [([At],Ba),([Ap],Ay),([Ag],Ar)] ∧ bx Ar Ag [I Ad.fId,I Ad.fW,I Ad.fH,I Ad.fD,I Ad.fTare,I Ad.fGram,I Ad.fCost] 38 ∧ d_impl_Cheapest_J1 fu (d_impl_Cheapest_L1 fu r1 As Bq) Ah Ad Ao = some r) ?_ ?_
     · rintro a Cg ⟨Ad,Ar,Ao,k,m,Bl,h⟩
       unfold d_impl_Cheapest_J1 at h
       refine wp_region_lit (pN 2 k z fun a k=>nn ?_)
       exact ⟨Ad,Ar,Ao,w64 (Ah + 1),k.keep [1,2,4,6,7,12,13,14] z,m.sel [0,1,2] z (by decide),Bl,h⟩
     refine wp_block (wr (oE h fun Aa Bb h=>sv k z (r_ixa Aj Bb k ts27 z z z) fun a k=>sv k z (r_lde Aj (m.a00 (Enc.rd_lt Aj)) Bb ta38 k z z) fun a k=>s_alloc (cs:=[I 0,I 0,I 0,I 0,I 0,I 0,I 0]) m k zeroValue38 z z z z z fun By Cf a k m e Bk=>s_stb (cs':=[I Aa.fId,I Aa.fW,I Aa.fH,I Aa.fD,I Aa.fTare,I Aa.fGram,I Aa.fCost]) sizeOf38 m 0 Bk 0 k z z z z z z z z z z z fun Bx a k e m Af=>nn (wp_seq (wr (sv k z (r_ldB ta30 m 1 Bc 0 k z z z z z z) fun a k=>pN 1 k z fun a k=>sv k z (r_ldB ta38 m 0 Af 0 k z z z z z z) fun a k=>oE h fun Cd Bi h=>?_)))))
     refine cE k m call20 z z z (c_impl_Holds fu _ _ (Aa:Typ) (show rd _ _ [I r1.fWay,I r1.fPallet.fW,I r1.fPallet.fD,I r1.fPallet.fH,I r1.fPallet.fGram,I r1.fClasses,v9,Aq,I r1.fMaster,Au] (r1:Request) from ⟨_,_,_,_,_,_,z,z,(Enc.rd_agr Ax (m.a00 (Enc.rd_lt Ax))),(Enc.rd_agr Aj (m.a00 (Enc.rd_lt Aj))),(Enc.rd_agr Av (m.a00 (Enc.rd_lt Av)))⟩) (Enc.rd_agr Az (m.a00 (Enc.rd_lt Az))) Bi) fun Bw e a k m=>pN 1 k z fun a k=>nn (cI h k z (fun Bv h=>?_) fun Bv h=>?_)
     · refine wp_exit (ex_then (ex_same (nm_then ?_)))
       exact ⟨Ab,Ai,Ae,k.keep [1,2,4,6,7,12,13,14] z,m.sel [1,2,3] z (by decide),Ac,h⟩
     refine wp_skip (nm_then ?_)
     refine wr (pN 3 k z fun a k=>bsplit (!Ae) (fun Am=>?_) (fun Am=>?_))
     · have h:=bif_t Am h
       refine rB k 25 z Am fun k=>pN 20 k z fun a k=>?_
       have k:=k.keep [1,2,4,6,12,13,7,14,9,45] z
       refine nn (wp_cond_true (k.ev z) (wp_region_lit (sv k z (r_ldB ta38 m 0 Af 0 k z z z z z z) fun a k=>s_stb (cs':=[I Aa.fId,I Aa.fW,I Aa.fH,I Aa.fD,I Aa.fTare,I Aa.fGram,I Aa.fCost]) sizeOf38 m 3 Ac 0 k z z z z z z z z z z z fun Bu a k e m Bh=>pN 1 k z fun a k=>wpList_nil (nm_block (nm_then ?_)))))
       exact ⟨Aa,Bu,true,k.keep [1,2,4,6,7,12,13,14] z,m.sel [1,2,3] z (by decide),Bh,h⟩
     have h:=bif_f Am h
     refine rB k 25 z Am fun k=>sv k z (r_fa fa38_6 k z z) fun a k=>sv k z (r_ldb t13 m 0 Af 6 k z z z z z) fun a k=>sv k z (r_fa fa38_6 k z z) fun a k=>sv k z (r_ldb t13 m 3 Ac 6 k z z z z z) fun a k=>pN 3 k z fun a k=>bsplit (decide (Aa.fCost < Ab.fCost)) (fun Ak=>?_) (fun Ak=>?_)
     · have h:=bif_t Ak h
       refine rB k 32 z Ak fun k=>pN 13 k z fun a k=>?_
       have k:=k.keep [1,2,4,6,12,13,7,14,9,45] z
       refine nn (wp_cond_true (k.ev z) (wp_region_lit (sv k z (r_ldB ta38 m 0 Af 0 k z z z z z z) fun a k=>s_stb (cs':=[I Aa.fId,I Aa.fW,I Aa.fH,I Aa.fD,I Aa.fTare,I Aa.fGram,I Aa.fCost]) sizeOf38 m 3 Ac 0 k z z z z z z z z z z z fun Be a k e m Bt=>pN 1 k z fun a k=>wpList_nil (nm_block (nm_then ?_)))))
       exact ⟨Aa,Be,true,k.keep [1,2,4,6,7,12,13,14] z,m.sel [1,2,3] z (by decide),Bt,h⟩
     have h:=bif_f Ak h
     refine rB k 32 z Ak fun k=>sv k z (r_fa fa38_6 k z z) fun a k=>sv k z (r_ldb t13 m 0 Af 6 k z z z z z) fun a k=>sv k z (r_fa fa38_6 k z z) fun a k=>sv k z (r_ldb t13 m 3 Ac 6 k z z z z z) fun a k=>pN 2 k z fun a k=>bsplit (Aa.fCost == Ab.fCost) (fun Al=>?_) (fun Al=>?_)
     · have h:=bif_t Al h
       refine rB k 38 z Al fun k=>sv k z (r_fa fa38_0 k z z) fun a k=>sv k z (r_ldb t13 m 0 Af 0 k z z z z z) fun a k=>sv k z (r_fa fa38_0 k z z) fun a k=>sv k z (r_ldb t13 m 3 Ac 0 k z z z z z) fun a k=>pN 3 k z fun a k=>?_
       have k:=k.keep [1,2,4,6,12,13,7,14,9,45] z
       refine nn (cI h k z (fun Bj h=>?_) fun Bj h=>?_)
       · refine wp_region_lit (sv k z (r_ldB ta38 m 0 Af 0 k z z z z z z) fun a k=>s_stb (cs':=[I Aa.fId,I Aa.fW,I Aa.fH,I Aa.fD,I Aa.fTare,I Aa.fGram,I Aa.fCost]) sizeOf38 m 3 Ac 0 k z z z z z z z z z z z fun Bm a k e m Bs=>pN 1 k z fun a k=>wpList_nil (nm_block (nm_then ?_)))
         exact ⟨Aa,Bm,true,k.keep [1,2,4,6,7,12,13,14] z,m.sel [1,2,3] z (by decide),Bs,h⟩
       refine wp_skip (nm_block (nm_then ?_))
       exact ⟨Ab,Ai,Ae,k.keep [1,2,4,6,7,12,13,14] z,m.sel [1,2,3] z (by decide),Ac,h⟩
     have h:=bif_f Al h
     refine rB k 38 z Al fun k=>pN 7 k z fun a k=>?_
     have k:=k.keep [1,2,4,6,12,13,7,14,9,45] z
     refine nn (wp_cond_false (k.ev z) (wp_skip (nm_block (nm_then ?_))))
     exact ⟨Ab,Ai,Ae,k.keep [1,2,4,6,7,12,13,14] z,m.sel [1,2,3] z (by decide),Ac,h⟩
   refine wp_exit (ex_then (ex_then (ex_same (nm_then ?_))))
   refine wr (sv k z (r_ldB ta38 m 2 Ac 0 k z z z z z z) fun a k=>pN 1 k z fun a k=>s_stb (cs':=[I Ab.fId,I Ab.fW,I Ab.fH,I Ab.fD,I Ab.fTare,I Ab.fGram,I Ab.fCost]) sizeOf38 m 1 Bo 0 k z z z z z z z z z z z fun Bz a k e m Bf=>pN 1 k z fun a k=>nn (wp_ret ?_))
   cases h
   exact finR2 k z (RV.cA k z ta38 (Bf.at (m.a 1 z) 0 7 z z z) z) (RV.tmp k z) ⟨z,m.ext⟩
 exact ⟨(⟨0,0,0,0,0,0,0⟩:Typ),Bn,false,0,k.keep [1,2,4,6,7,12,13,14] z,m.sel [2,1,0] z (by decide),Bd,h⟩
theorem c_impl_cartonFault (fu:Nat) {w0:World} (r1:Request) (x5:Plan) {Bj:List Value} {F3:List Nat} (Cq:rd w0 F3 Bj r1) {Bf:List Value} {F7:List Nat} (Db:rd w0 F7 Bf x5) {r:Int}
    (h:d_impl_cartonFault fu r1 x5 = some r) :
    Calls Tryz.prog 128 #[.agg Bj.toArray,.agg Bf.toArray] w0 fun e w=>e = .returned (I r) ∧ Ext [] w0 w:=by
 refine enter (vs:=[_,_]) func128 z ntmps128 z fun a k=>?_
 have m:=St.start w0
 obtain ⟨v9,Dm,Ak,Eu,Ah,Ew,rfl,rfl,Ab,Ad,Ac⟩:=Cq
 obtain ⟨Al,Dg,Bm,Dn,rfl,rfl,Aa,Ea⟩:=Db
 unfold d_impl_cartonFault at h
 refine wr (s_box (cs:=[I r1.fWay,I r1.fPallet.fW,I r1.fPallet.fD,I r1.fPallet.fH,I r1.fPallet.fGram,I r1.fClasses,v9,Ak,I r1.fMaster,Ah]) m k z z z z z z fun Af As a k m e Aq=>s_box (cs:=[Al,Bm]) m k z z z z z z fun Ai Ax a k m e Au=>pN 1 k z fun a k=>nn (wp_seq (wr (sv k z (r_fa fa74_0 k z z) fun a k=>sv k z (r_ldb t143 m 0 Au 0 k z z z z z) fun a k=>sv k z (r_len (α:=Carton) Aa k underlying43 z z) fun a k=>pN 1 k z fun a k=>nn (wp_block ?_)))))
 refine c_loop (fun n a w=>∃ (Aj:Int),K 77 [(2,.pointer (some (⟨Af,0,none⟩:Addr))),(3,.pointer (some (⟨Ai,0,none⟩:Addr))),(17,Al),(18,I ((x5.fCartons.length:Int))),(19,I Aj)] a ∧ St [] w0 w [([Af],As),([Ai],Ax)] ∧ d_impl_cartonFault_L3 fu r1 x5 n Aj = some r) ?_ ?_ fu _ _ ?_
 · rintro a w ⟨_,_,_,h⟩
   exact nS h
 · rintro Cv a Ei ⟨Aj,k,m,h⟩
   rw [d_impl_cartonFault_L3_s] at h
   unfold d_impl_cartonFault_L3_B at h
   refine wr (pN 1 k z fun a k=>nn (wp_seq (cI h k z (fun Ca h=>?_) fun Ca h=>?_)))
   · refine wp_skip (nm_then ?_)
     refine c_cut (fun a w=>K 77 [(2,.pointer (some (⟨Af,0,none⟩:Addr))),(3,.pointer (some (⟨Ai,0,none⟩:Addr))),(17,Al),(18,I ((x5.fCartons.length:Int))),(19,I Aj)] a ∧ St [] w0 w [([Af],As),([Ai],Ax)] ∧ d_impl_cartonFault_J1 fu (d_impl_cartonFault_L3 fu r1 x5 Cv) Aj = some r) ?_ ?_
     · rintro a Es ⟨k,m,h⟩
       unfold d_impl_cartonFault_J1 at h
       refine wp_region_lit (pN 2 k z fun a k=>nn ?_)
       exact ⟨w64 (Aj + 1),k.keep [2,3,17,18,19] z,m.sel [0,1] z (by decide),h⟩
     refine wp_block (wr (oE h fun Bc Bk h=>sv k z (r_ixa Aa Bk k ts43 z z z) fun a k=>?_))
     obtain ⟨Eh,Fd,Ej,Cw,Br,Ce⟩:=rd_get Aa (ix_some Bk).2.2
     obtain ⟨Dc,_,rfl,rfl,Ay⟩:=Cw
     refine sv k z (r_ldA ta33 (Br.agr (m.a00 (Enc.rd_lt Aa)) Ce) z k z z) fun a k=>s_alloc (cs:=[I 0,I 0,.slice none 0 0]) m k zeroValue33 z z z z z fun Ex Do a k m e Bq=>s_stb (cs':=[I Bc.fType,I Bc.fGroup,Dc]) sizeOf33 m 0 Bq 0 k z z z z z z z z z z (allc z (allc z (allc (rd_o Ay) alln))) fun Dv a k e m Bg=>nn (wr (sv k z (r_ldB ta30 m 1 Aq 0 k z z z z z z) fun a k=>sv k z (r_fa fa33_0 k z z) fun a k=>sv k z (r_ldb t13 m 0 Bg 0 k z z z z z) fun a k=>oE h fun Ae Bw h=>?_))
     refine cE k m call18 z z z (c_impl_TypeById fu _ _ (show rd _ _ [I r1.fWay,I r1.fPallet.fW,I r1.fPallet.fD,I r1.fPallet.fH,I r1.fPallet.fGram,I r1.fClasses,v9,Ak,I r1.fMaster,Ah] (r1:Request) from ⟨_,_,_,_,_,_,z,z,(Enc.rd_agr Ab (m.a00 (Enc.rd_lt Ab))),(Enc.rd_agr Ad (m.a00 (Enc.rd_lt Ad))),(Enc.rd_agr Ac (m.a00 (Enc.rd_lt Ac)))⟩) Bw) fun Dl e a k m=>pN 3 k z fun a k=>s_alloc (cs:=[I 0,I 0,I 0,I 0,I 0,I 0,I 0]) m k zeroValue38 z z z z z fun Ek Dz a k m e Bo=>?_
     refine s_stb (cs':=[I Ae.1.fId,I Ae.1.fW,I Ae.1.fH,I Ae.1.fD,I Ae.1.fTare,I Ae.1.fGram,I Ae.1.fCost]) sizeOf38 m 0 Bo 0 k z z z z z z z z z z z fun Et a k e m Cf=>pN 1 k z fun a k=>nn (wr (pN 3 k z fun a k=>bsplit (!Ae.2) (fun Am=>?_) (fun Am=>?_)))
     · have h:=bif_t Am h
       refine rB k 32 z Am fun k=>pN 7 k z fun a k=>?_
       have k:=k.keep [2,3,17,18,19,39] z
       refine nn (wp_cond_true (k.ev z) (wr (pN 1 k z fun a k=>nn (wp_ret (rt_block (rt_then (rt_then (rt_block (rt_then ?_)))))))))
       refine fS h k m z z
     have h:=bif_f Am h
     refine rB k 32 z Am fun k=>sv k z (r_ldB ta30 m 2 Aq 0 k z z z z z z) fun a k=>sv k z (r_fa fa33_2 k z z) fun a k=>sv k z (r_ldb t131 m 1 Bg 2 k z z z z z) fun a k=>sv k z (r_ldB ta38 m 0 Cf 0 k z z z z z z) fun a k=>oE h fun Ep Cu h=>cE k m call20 z z z (c_impl_Holds fu _ _ (Ae.1:Typ) (show rd _ _ [I r1.fWay,I r1.fPallet.fW,I r1.fPallet.fD,I r1.fPallet.fH,I r1.fPallet.fGram,I r1.fClasses,v9,Ak,I r1.fMaster,Ah] (r1:Request) from ⟨_,_,_,_,_,_,z,z,(Enc.rd_agr Ab (m.a00 (Enc.rd_lt Ab))),(Enc.rd_agr Ad (m.a00 (Enc.rd_lt Ad))),(Enc.rd_agr Ac (m.a00 (Enc.rd_lt Ac)))⟩) (Enc.rd_agr Ay (m.a00 (Enc.rd_lt Ay))) Cu) fun Fa e a k m=>?_
     refine pN 2 k z fun a k=>?_
     have k:=k.keep [2,3,17,18,19,39] z
     refine nn (cI h k z (fun Bv h=>?_) fun Bv h=>?_)
     · refine wr (pN 1 k z fun a k=>nn (wp_ret (rt_block (rt_then (rt_then (rt_block (rt_then ?_)))))))
       refine fS h k m z z
     refine wp_skip (nm_block (nm_then ?_))
     exact ⟨k.keep [2,3,17,18,19] z,m.sel [2,3] z (by decide),h⟩
   refine wp_exit (ex_then (ex_then (ex_same (nm_then ?_))))
   refine wr (sv k z (r_ldB ta30 m 0 Aq 0 k z z z z z z) fun a k=>oE h fun Cd Ct h=>s_call k call195 z z z z z (c_impl_GroupsOf fu _ (show rd _ _ [I r1.fWay,I r1.fPallet.fW,I r1.fPallet.fD,I r1.fPallet.fH,I r1.fPallet.fGram,I r1.fClasses,v9,Ak,I r1.fMaster,Ah] (r1:Request) from ⟨_,_,_,_,_,_,z,z,(Enc.rd_agr Ab (m.a00 (Enc.rd_lt Ab))),(Enc.rd_agr Ad (m.a00 (Enc.rd_lt Ad))),(Enc.rd_agr Ac (m.a00 (Enc.rd_lt Ac)))⟩) Ct) fun Fc Bt hR=>?_)
   obtain ⟨Bp,Bb,rfl,e,Ap,Ch⟩:=hR
   refine ⟨_,z,fun a k=>?_⟩
   have m:=m.new e Bb (fun b hb=>⟨Ch b hb,Enc.rd_lt (Enc.ow_rd Ap) b hb⟩) (Enc.ow_nd Ap)
   refine s_alloc (cs:=[.slice none 0 0]) m k zeroValue53 z z z z z fun Aw Ey a k m e Co=>s_stb1 (cs':=[Bp]) sizeOf53 m 0 Co 0 k (rd_c (Enc.ow_rd Ap)) (rd_o (Enc.ow_rd Ap)) z z z z z z z z z fun Cc a k e m Cl=>nn (wp_seq (wr (sv k z (r_fa fa74_0 k z z) fun a k=>sv k z (r_ldb t143 m 3 Au 0 k z z z z z) fun a k=>sv k z (r_len (α:=Carton) Aa k underlying43 z z) fun a k=>pN 1 k z fun a k=>nn (wp_block ?_))))
   refine c_loop (fun n a w=>∃ (At:Int),K 77 [(2,.pointer (some (⟨Af,0,none⟩:Addr))),(3,.pointer (some (⟨Ai,0,none⟩:Addr))),(9,.pointer (some (⟨Aw,0,none⟩:Addr))),(44,Al),(45,I ((x5.fCartons.length:Int))),(46,I At)] a ∧ St [] w0 w [([Af],As),([Ai],Ax),([Aw],Cc),(Bb,Bt)] ∧ d_impl_cartonFault_L2 fu r1 x5 Cd n At = some r) ?_ ?_ fu _ _ ?_
   · rintro a w ⟨_,_,_,h⟩
     exact nS h
   · rintro Dh a Ee ⟨At,k,m,h⟩
     rw [d_impl_cartonFault_L2_s] at h
     unfold d_impl_cartonFault_L2_B at h
     refine wr (pN 1 k z fun a k=>nn (wp_seq (cI h k z (fun Cb h=>?_) fun Cb h=>?_)))
     · refine wp_skip (nm_then ?_)
       refine wp_seq (wp_block (wr (oE h fun Be Bd h=>sv k z (r_ixa Aa Bd k ts43 z z z) fun a k=>?_)))
       obtain ⟨Ed,Dy,Dp,Cz,Dd,Bn⟩:=rd_get Aa (ix_some Bd).2.2
       obtain ⟨Cx,_,rfl,rfl,Ao⟩:=Cz
       refine sv k z (r_ldA ta33 (Dd.agr (m.a00 (Enc.rd_lt Aa)) Bn) z k z z) fun a k=>s_alloc (cs:=[I 0,I 0,.slice none 0 0]) m k zeroValue33 z z z z z fun Bx Dt a k m e By=>s_stb (cs':=[I Be.fType,I Be.fGroup,Cx]) sizeOf33 m 0 By 0 k z z z z z z z z z z (allc z (allc z (allc (rd_o Ao) alln))) fun Eb a k e m Bh=>nn (wr (sv k z (r_ldB ta30 m 1 Aq 0 k z z z z z z) fun a k=>sv k z (r_fa fa33_2 k z z) fun a k=>sv k z (r_ldb t131 m 0 Bh 2 k z z z z z) fun a k=>oE h fun Di Cy h=>?_))
       refine s_call k call76 z z z z z (c_impl_itemsOf fu _ _ (show rd _ _ [I r1.fWay,I r1.fPallet.fW,I r1.fPallet.fD,I r1.fPallet.fH,I r1.fPallet.fGram,I r1.fClasses,v9,Ak,I r1.fMaster,Ah] (r1:Request) from ⟨_,_,_,_,_,_,z,z,(Enc.rd_agr Ab (m.a00 (Enc.rd_lt Ab))),(Enc.rd_agr Ad (m.a00 (Enc.rd_lt Ad))),(Enc.rd_agr Ac (m.a00 (Enc.rd_lt Ac)))⟩) (Enc.rd_agr Ao (m.a00 (Enc.rd_lt Ao))) Cy) fun Ev Dj hR=>?_
       obtain ⟨En,Cj,rfl,e,Av,Cn⟩:=hR
       refine ⟨_,z,fun a k=>?_⟩
       have m:=m.new e Cj (fun b hb=>⟨Cn b hb,Enc.rd_lt (Enc.ow_rd Av) b hb⟩) (Enc.ow_nd Av)
       refine pN 1 k z fun a k=>oE h fun Ds Cr h=>cE k m call75 z z z (c_slices_ContainsFunc_impl_Item_impl_Item fu _ _ (Enc.rd_agr (Enc.ow_rd Av) (m.a 0 z)) ⟨216,[.pointer (some (⟨Bx,0,none⟩:Addr)),.pointer (some (⟨Aw,0,none⟩:Addr))],z,call216,fun w Dq Dx r e De hx=>by subst De; have m:=m.step e; exact c_impl_cartonFault_1 fu _ _ _ (Bh.agr (m.a 1 rfl) (by simp)) (Enc.rd_agr Ao (m.a00 (Enc.rd_lt Ao))) (Cl.agr (m.a 4 rfl) (by simp)) (Enc.rd_agr (Enc.ow_rd Ap) (m.a 5 rfl)) hx⟩ Cr) fun Dr e a k m=>nn (cI h k rfl (fun Bz h=>?_) fun Bz h=>?_)
       · refine wr (pN 1 k z fun a k=>nn (wp_ret (rt_block (rt_then (rt_then (rt_block (rt_then ?_)))))))
         refine fS h k m z z
       refine wp_skip (nm_block (nm_then ?_))
       refine wp_region_lit (pN 2 k z fun a k=>nn ?_)
       exact ⟨w64 (At + 1),k.keep [2,3,9,44,45,46] z,m.sel [2,3,4,5] z (by decide),h⟩
     refine wp_exit (ex_then (ex_then (ex_same (nm_then ?_))))
     refine wp_seq (wr (sv k z (r_fa fa74_0 k z z) fun a k=>sv k z (r_ldb t143 m 1 Au 0 k z z z z z) fun a k=>sv k z (r_len (α:=Carton) Aa k underlying43 z z) fun a k=>pN 1 k z fun a k=>nn (wp_block (c_loop (fun n a w=>∃ (Ar:Int),K 77 [(2,.pointer (some (⟨Af,0,none⟩:Addr))),(58,Al),(59,I ((x5.fCartons.length:Int))),(60,I Ar)] a ∧ St [] w0 w [([Af],As)] ∧ d_impl_cartonFault_L1 fu r1 x5 n Ar = some r) ?_ ?_ fu _ _ ?_))))
     · rintro a w ⟨_,_,_,h⟩
       exact nS h
     · rintro Dk a Dw ⟨Ar,k,m,h⟩
       rw [d_impl_cartonFault_L1_s] at h
       unfold d_impl_cartonFault_L1_B at h
       refine wr (pN 1 k z fun a k=>nn (wp_seq (cI h k z (fun Bu h=>?_) fun Bu h=>?_)))
       · refine wp_skip (nm_then ?_)
         refine wp_seq (wp_block (wr (oE h fun Ba Bi h=>sv k z (r_ixa Aa Bi k ts43 z z z) fun a k=>?_)))
         obtain ⟨Ez,Ec,Eo,Bs,Cp,Cg⟩:=rd_get Aa (ix_some Bi).2.2
         obtain ⟨Da,_,rfl,rfl,Az⟩:=Bs
         refine sv k z (r_ldA ta33 (Cp.agr (m.a00 (Enc.rd_lt Aa)) Cg) z k z z) fun a k=>s_alloc (cs:=[I 0,I 0,.slice none 0 0]) m k zeroValue33 z z z z z fun Em Eg a k m e Df=>s_stb (cs':=[I Ba.fType,I Ba.fGroup,Da]) sizeOf33 m 0 Df 0 k z z z z z z z z z z (allc z (allc z (allc (rd_o Az) alln))) fun Fb a k e m Bl=>nn (wr (sv k z (r_ldB ta30 m 1 Aq 0 k z z z z z z) fun a k=>sv k z (r_fa fa33_2 k z z) fun a k=>sv k z (r_ldb t131 m 0 Bl 2 k z z z z z) fun a k=>oE h fun Ag Ck h=>?_))
         refine cE k m call198 z z z (c_impl_Cheapest fu _ _ (show rd _ _ [I r1.fWay,I r1.fPallet.fW,I r1.fPallet.fD,I r1.fPallet.fH,I r1.fPallet.fGram,I r1.fClasses,v9,Ak,I r1.fMaster,Ah] (r1:Request) from ⟨_,_,_,_,_,_,z,z,(Enc.rd_agr Ab (m.a00 (Enc.rd_lt Ab))),(Enc.rd_agr Ad (m.a00 (Enc.rd_lt Ad))),(Enc.rd_agr Ac (m.a00 (Enc.rd_lt Ac)))⟩) (Enc.rd_agr Az (m.a00 (Enc.rd_lt Az))) Ck) fun Du e a k m=>pN 3 k z fun a k=>s_alloc (cs:=[I 0,I 0,I 0,I 0,I 0,I 0,I 0]) m k zeroValue38 z z z z z fun Ef Er a k m e Ci=>?_
         refine s_stb (cs':=[I Ag.1.fId,I Ag.1.fW,I Ag.1.fH,I Ag.1.fD,I Ag.1.fTare,I Ag.1.fGram,I Ag.1.fCost]) sizeOf38 m 0 Ci 0 k z z z z z z z z z z z fun El a k e m Cm=>pN 1 k z fun a k=>nn (wr (sv k z (r_fa fa38_0 k z z) fun a k=>sv k z (r_ldb t13 m 0 Cm 0 k z z z z z) fun a k=>sv k z (r_fa fa33_0 k z z) fun a k=>sv k z (r_ldb t13 m 1 Bl 0 k z z z z z) fun a k=>pN 1 k z fun a k=>nn (cI h k z (fun Cs h=>?_) fun Cs h=>?_)))
         · refine wr (pN 1 k z fun a k=>nn (wp_ret (rt_block (rt_then (rt_then (rt_block (rt_then ?_)))))))
           refine fS h k m z z
         refine wp_skip (nm_block (nm_then ?_))
         refine wp_region_lit (pN 2 k z fun a k=>nn ?_)
         exact ⟨w64 (Ar + 1),k.keep [2,58,59,60] z,m.sel [2] z (by decide),h⟩
       refine wp_exit (ex_then (ex_then (ex_same (nm_then ?_))))
       refine wr (pN 1 k z fun a k=>nn (wp_ret (fS h k m z z)))
     exact ⟨0,k.keep [2,58,59,60] z,m.sel [0] z (by decide),h⟩
   exact ⟨0,k.keep [2,3,9,44,45,46] z,m.sel [2,3,0,1] z (by decide),h⟩
 exact ⟨0,k.keep [2,3,17,18,19] z,m.sel [1,0] z (by decide),h⟩
theorem c_impl_Gross (fu:Nat) {w0:World} (r1:Request) (x5:Carton) {Aj:List Value} {F3:List Nat} (Bb:rd w0 F3 Aj r1) {Ai:List Value} {F7:List Nat} (Ba:rd w0 F7 Ai x5) {r:Int}
    (h:d_impl_Gross fu r1 x5 = some r) :
    Calls Tryz.prog 228 #[.agg Aj.toArray,.agg Ai.toArray] w0 fun e w=>e = .returned (I r) ∧ Ext [] w0 w:=by
 refine enter (vs:=[_,_]) func228 z ntmps228 z fun a k=>?_
 have m:=St.start w0
 obtain ⟨v9,Bj,Ag,Bf,Af,Bh,rfl,rfl,Ac,Ad,Ab⟩:=Bb
 obtain ⟨Aq,_,rfl,rfl,Ak⟩:=Ba
 unfold d_impl_Gross at h
 refine wr (s_box (cs:=[I r1.fWay,I r1.fPallet.fW,I r1.fPallet.fD,I r1.fPallet.fH,I r1.fPallet.fGram,I r1.fClasses,v9,Ag,I r1.fMaster,Af]) m k z z z z z z fun Al Ar a k m e Ah=>s_box (cs:=[I x5.fType,I x5.fGroup,Aq]) m k z z z z z z fun Am As a k m e Ap=>pN 1 k z fun a k=>nn (wr (sv k z (r_ldB ta30 m 1 Ah 0 k z z z z z z) fun a k=>sv k z (r_fa fa33_0 k z z) fun a k=>sv k z (r_ldb t13 m 0 Ap 0 k z z z z z) fun a k=>oE h fun Aa At h=>?_)))
 refine cE k m call18 z z z (c_impl_TypeById fu _ _ (show rd _ _ [I r1.fWay,I r1.fPallet.fW,I r1.fPallet.fD,I r1.fPallet.fH,I r1.fPallet.fGram,I r1.fClasses,v9,Ag,I r1.fMaster,Af] (r1:Request) from ⟨_,_,_,_,_,_,z,z,(Enc.rd_agr Ac (m.a00 (Enc.rd_lt Ac))),(Enc.rd_agr Ad (m.a00 (Enc.rd_lt Ad))),(Enc.rd_agr Ab (m.a00 (Enc.rd_lt Ab)))⟩) At) fun Bd e a k m=>pN 3 k z fun a k=>s_alloc (cs:=[I 0,I 0,I 0,I 0,I 0,I 0,I 0]) m k zeroValue38 z z z z z fun Ao Bl a k m e Ay=>?_
 refine s_stb (cs':=[I Aa.1.fId,I Aa.1.fW,I Aa.1.fH,I Aa.1.fD,I Aa.1.fTare,I Aa.1.fGram,I Aa.1.fCost]) sizeOf38 m 0 Ay 0 k z z z z z z z z z z z fun Az a k e m Ax=>pN 1 k z fun a k=>nn (c_cut (fun a w=>K 28 [(2,.pointer (some (⟨Al,0,none⟩:Addr))),(3,.pointer (some (⟨Am,0,none⟩:Addr))),(5,.pointer (some (⟨Ao,0,none⟩:Addr)))] a ∧ St [] w0 w [([Al],Ar),([Am],As),([Ao],Az)] ∧ d_impl_Gross_J1 fu r1 x5 Aa = some r) ?_ ?_)
 · rintro a Bi ⟨k,m,h⟩
   unfold d_impl_Gross_J1 at h
   refine wp_seq (d_go [] mixo m z fun Av hMd=>?_)
   have m:=hMd
   have s:=Ext.refl ([]:List Nat) Av
   refine dt k 0 z (by kernel_rfl) z s (fun _ _ _=>id) (fun w s=>r_fa fa38_4 k z z) fun a k=>dt k 1 z (by kernel_rfl) z s (fun _ _ _=>id) (fun w s=>r_ld1 t13 (r:=[]) (Ax.at ((hMd.step s).a 2 z) 4 1 z z z) k z z) fun a k=>dt k 2 z (by kernel_rfl) z s (fun _ _ _=>id) (fun w s=>r_ldA ta30 (Ah.at ((hMd.step s).a 0 z) 0 10 z z z) z k z z) fun a k=>dt k 3 z (by kernel_rfl) z s (fun _ _ _=>id) (fun w s=>r_fa fa33_2 k z z) fun a k=>dt k 4 z (by kernel_rfl) z s (fun _ _ _=>id) (fun w s=>r_ld1 t131 (r:=[]) (Ap.at ((hMd.step s).a 1 z) 2 1 z z z) k z z) fun a k=>d_one 5 (by kernel_rfl) z (oE h fun Be Aw h=>?_)
   refine cE k m call166 z z z (c_impl_GramOf fu _ _ (show rd _ _ [I r1.fWay,I r1.fPallet.fW,I r1.fPallet.fD,I r1.fPallet.fH,I r1.fPallet.fGram,I r1.fClasses,v9,Ag,I r1.fMaster,Af] (r1:Request) from ⟨_,_,_,_,_,_,z,z,(Enc.rd_agr Ac (m.a00 (Enc.rd_lt Ac))),(Enc.rd_agr Ad (m.a00 (Enc.rd_lt Ad))),(Enc.rd_agr Ab (m.a00 (Enc.rd_lt Ab)))⟩) (Enc.rd_agr Ak (m.a00 (Enc.rd_lt Ak))) Aw) fun Bg e a k m=>?_
   have s:=s.trans e (by simp)
   refine wpList_nil ⟨s,?_⟩
   refine dN [6,7] 2 z k (by kernel_rfl) z s (fun _ _ _ _ _=>id) fun a k=>d_done (by kernel_rfl) ((nm_then ?_))
   refine wp_ret (fS h k m z z)
 refine wr (pN 3 k z fun a k=>bsplit (!Aa.2) (fun Ae=>?_) (fun Ae=>?_))
 · have h:=bif_t Ae h
   refine rB k 16 z Ae fun k=>pN 4 k z fun a k=>nn (wp_cond_true (k.ev z) (wr (pN 1 k z fun a k=>nn (wp_ret (rt_then ?_)))))
   refine fS h k m z z
 have h:=bif_f Ae h
 refine rB k 16 z Ae fun k=>sv k z (r_ldB ta30 m 2 Ah 0 k z z z z z z) fun a k=>oE h fun Bk Au h=>cE k m call61 z z z (c_impl_sound fu _ (show rd _ _ [I r1.fWay,I r1.fPallet.fW,I r1.fPallet.fD,I r1.fPallet.fH,I r1.fPallet.fGram,I r1.fClasses,v9,Ag,I r1.fMaster,Af] (r1:Request) from ⟨_,_,_,_,_,_,z,z,(Enc.rd_agr Ac (m.a00 (Enc.rd_lt Ac))),(Enc.rd_agr Ad (m.a00 (Enc.rd_lt Ad))),(Enc.rd_agr Ab (m.a00 (Enc.rd_lt Ab)))⟩) Au) fun Bm e a k m=>pN 2 k z fun a k=>nn (cI h k z (fun Bc h=>?_) fun Bc h=>?_)
 · refine wr (pN 1 k z fun a k=>nn (wp_ret (rt_then ?_)))
   refine fS h k m z z
 refine wp_skip (nm_then ?_)
 exact ⟨k.keep [2,3,5] z,m.sel [2,1,0] z (by decide),h⟩
theorem c_impl_BoxOf (fu:Nat) {w0:World} (r1:Request) (x5:Carton) {Ao:List Value} {F3:List Nat} (Bh:rd w0 F3 Ao r1) {Al:List Value} {F7:List Nat} (Bf:rd w0 F7 Al x5) {r:Box}
    (h:d_impl_BoxOf fu r1 x5 = some r) :
    Calls Tryz.prog 152 #[.agg Ao.toArray,.agg Al.toArray] w0 fun e w=>e = .returned (.agg (Flat.e r).toArray) ∧ Ext [] w0 w:=by
 refine enter (vs:=[_,_]) func152 z ntmps152 z fun a k=>?_
 have m:=St.start w0
 obtain ⟨v9,Bq,Ag,Bl,Af,Bp,rfl,rfl,Ac,Ad,Ab⟩:=Bh
 obtain ⟨Am,_,rfl,rfl,Aq⟩:=Bf
 unfold d_impl_BoxOf at h
 refine wr (s_box (cs:=[I r1.fWay,I r1.fPallet.fW,I r1.fPallet.fD,I r1.fPallet.fH,I r1.fPallet.fGram,I r1.fClasses,v9,Ag,I r1.fMaster,Af]) m k z z z z z z fun Ap Ay a k m e Aj=>s_box (cs:=[I x5.fType,I x5.fGroup,Am]) m k z z z z z z fun Ar Az a k m e At=>s_alloc (cs:=[I 0,I 0,I 0,I 0]) m k zeroValue140 z z z z z fun Ah Av a k m e Ak=>nn (wr (sv k z (r_ldB ta30 m 2 Aj 0 k z z z z z z) fun a k=>sv k z (r_fa fa33_0 k z z) fun a k=>sv k z (r_ldb t13 m 1 At 0 k z z z z z) fun a k=>oE h fun Aa Bd h=>?_)))
 refine cE k m call18 z z z (c_impl_TypeById fu _ _ (show rd _ _ [I r1.fWay,I r1.fPallet.fW,I r1.fPallet.fD,I r1.fPallet.fH,I r1.fPallet.fGram,I r1.fClasses,v9,Ag,I r1.fMaster,Af] (r1:Request) from ⟨_,_,_,_,_,_,z,z,(Enc.rd_agr Ac (m.a00 (Enc.rd_lt Ac))),(Enc.rd_agr Ad (m.a00 (Enc.rd_lt Ad))),(Enc.rd_agr Ab (m.a00 (Enc.rd_lt Ab)))⟩) Bd) fun Bs e a k m=>pN 3 k z fun a k=>s_alloc (cs:=[I 0,I 0,I 0,I 0,I 0,I 0,I 0]) m k zeroValue38 z z z z z fun Au Br a k m e Bc=>?_
 refine s_stb (cs':=[I Aa.1.fId,I Aa.1.fW,I Aa.1.fH,I Aa.1.fD,I Aa.1.fTare,I Aa.1.fGram,I Aa.1.fCost]) sizeOf38 m 0 Bc 0 k z z z z z z z z z z z fun Aw a k e m Ai=>pN 1 k z fun a k=>nn (c_cut (fun a w=>K 32 [(2,.pointer (some (⟨Ap,0,none⟩:Addr))),(3,.pointer (some (⟨Ar,0,none⟩:Addr))),(4,.pointer (some (⟨Ah,0,none⟩:Addr))),(5,.pointer (some (⟨Au,0,none⟩:Addr)))] a ∧ St [] w0 w [([Ap],Ay),([Ar],Az),([Ah],Av),([Au],Aw)] ∧ d_impl_BoxOf_J1 fu r1 x5 Aa = some r) ?_ ?_)
 · rintro a Bo ⟨k,m,h⟩
   unfold d_impl_BoxOf_J1 at h
   refine wp_seq (d_go ([Ah]) mixo m z fun Bj hMd=>?_)
   have m:=hMd
   have s:=Ext.refl (([Ah]):List Nat) Bj
   refine dt k 0 z (by kernel_rfl) z s (fun _ _ _=>id) (fun w s=>r_fa fa38_1 k z z) fun a k=>dt k 1 z (by kernel_rfl) z s (fun _ _ _=>id) (fun w s=>r_ld1 t13 (r:=[]) (Ai.at (hMd.az 3 2 z z z s) 1 1 z z z) k z z) fun a k=>dt k 2 z (by kernel_rfl) z s (fun _ _ _=>id) (fun w s=>r_fa fa38_3 k z z) fun a k=>dt k 3 z (by kernel_rfl) z s (fun _ _ _=>id) (fun w s=>r_ld1 t13 (r:=[]) (Ai.at (hMd.az 3 2 z z z s) 3 1 z z z) k z z) fun a k=>dt k 4 z (by kernel_rfl) z s (fun _ _ _=>id) (fun w s=>r_fa fa38_2 k z z) fun a k=>dt k 5 z (by kernel_rfl) z s (fun _ _ _=>id) (fun w s=>r_ld1 t13 (r:=[]) (Ai.at (hMd.az 3 2 z z z s) 2 1 z z z) k z z) fun a k=>?_
   refine dt k 6 z (by kernel_rfl) z s (fun _ _ _=>id) (fun w s=>r_ldA ta30 (Aj.at (hMd.az 0 2 z z z s) 0 10 z z z) z k z z) fun a k=>dt k 7 z (by kernel_rfl) z s (fun _ _ _=>id) (fun w s=>r_ldA ta33 (At.at (hMd.az 1 2 z z z s) 0 3 z z z) z k z z) fun a k=>d_one 8 (by kernel_rfl) z (oE h fun As Bb h=>?_)
   refine cE k m call228 z z z (c_impl_Gross fu _ _ (show rd _ _ [I r1.fWay,I r1.fPallet.fW,I r1.fPallet.fD,I r1.fPallet.fH,I r1.fPallet.fGram,I r1.fClasses,v9,Ag,I r1.fMaster,Af] (r1:Request) from ⟨_,_,_,_,_,_,z,z,(Enc.rd_agr Ac (m.a00 (Enc.rd_lt Ac))),(Enc.rd_agr Ad (m.a00 (Enc.rd_lt Ad))),(Enc.rd_agr Ab (m.a00 (Enc.rd_lt Ab)))⟩) (show rd _ _ [I x5.fType,I x5.fGroup,Am] (x5:Carton) from ⟨_,_,z,z,(Enc.rd_agr Aq (m.a00 (Enc.rd_lt Aq)))⟩) Bb) fun Bk e a k m=>?_
   have s:=s.trans e (by simp)
   refine wpList_nil ⟨s,?_⟩
   refine dt k 9 z (by kernel_rfl) z s (fun _ _ _=>id) (fun w s=>r_build bt140 k (cs:=#[I Aa.1.fW,I Aa.1.fD,I Aa.1.fH,I As]) (ps:=[(0,.tmp 23),(1,.tmp 25),(2,.tmp 27),(3,.tmp 30)]) z z (by kernel_rfl)) fun a k=>d_one 10 (by kernel_rfl) z (s_stb (cs':=[I Aa.1.fW,I Aa.1.fD,I Aa.1.fH,I As]) sizeOf140 m 2 Ak 0 k z z z z z z z z z z z fun Bv a k e m Be=>?_)
   have s:=s.trans e (fun y hy=>Or.inl hy)
   refine wpList_nil ⟨s,?_⟩
   refine d_done (by kernel_rfl) ((nm_then ?_))
   refine wp_ret ?_
   cases h
   exact finR1 k z (RV.cA k z ta140 (Be.at (m.a 2 z) 0 4 z z z) z) ⟨z,m.ext⟩
 refine wr (pN 3 k z fun a k=>bsplit (!Aa.2) (fun Ae=>?_) (fun Ae=>?_))
 · have h:=bif_t Ae h
   refine rB k 16 z Ae fun k=>pN 4 k z fun a k=>nn (wp_cond_true (k.ev z) (wr (sv k z (r_build bt140 k (cs:=#[I 0,I 0,I 0,I 0]) (ps:=[]) z z (by kernel_rfl)) fun a k=>s_stb (cs':=[I 0,I 0,I 0,I 0]) sizeOf140 m 1 Ak 0 k z z z z z z z z z z z fun Bn a k e m Bi=>nn (wp_ret (rt_then ?_)))))
   cases h
   exact finR1 k z (RV.cA k z ta140 (Bi.at (m.a 1 z) 0 4 z z z) z) ⟨z,m.ext⟩
 have h:=bif_f Ae h
 refine rB k 16 z Ae fun k=>sv k z (r_ldB ta30 m 3 Aj 0 k z z z z z z) fun a k=>oE h fun Bt Bg h=>cE k m call61 z z z (c_impl_sound fu _ (show rd _ _ [I r1.fWay,I r1.fPallet.fW,I r1.fPallet.fD,I r1.fPallet.fH,I r1.fPallet.fGram,I r1.fClasses,v9,Ag,I r1.fMaster,Af] (r1:Request) from ⟨_,_,_,_,_,_,z,z,(Enc.rd_agr Ac (m.a00 (Enc.rd_lt Ac))),(Enc.rd_agr Ad (m.a00 (Enc.rd_lt Ad))),(Enc.rd_agr Ab (m.a00 (Enc.rd_lt Ab)))⟩) Bg) fun Bm e a k m=>pN 2 k z fun a k=>nn (cI h k z (fun Ax h=>?_) fun Ax h=>?_)
 · refine wr (sv k z (r_build bt140 k (cs:=#[I 0,I 0,I 0,I 0]) (ps:=[]) z z (by kernel_rfl)) fun a k=>s_stb (cs':=[I 0,I 0,I 0,I 0]) sizeOf140 m 1 Ak 0 k z z z z z z z z z z z fun Bu a k e m Ba=>nn (wp_ret (rt_then ?_)))
   cases h
   exact finR1 k z (RV.cA k z ta140 (Ba.at (m.a 1 z) 0 4 z z z) z) ⟨z,m.ext⟩
 refine wp_skip (nm_then ?_)
 exact ⟨k.keep [2,3,4,5] z,m.sel [3,2,1,0] z (by decide),h⟩

end Go.Proofs.YtlmibnlfkmiikaaGreat
