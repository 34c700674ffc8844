/- FnExactFront: the walks of functions that it reaches (ExactFrontBWs,part 1). Printed by gen.py. -/
import Derived.Test.YtlmibnlfkmiikaaGreatExactFrontBT
set_option maxRecDepth 20000
set_option linter.unusedSimpArgs false
set_option linter.unusedVariables false
namespace Go.Proofs.YtlmibnlfkmiikaaGreat
open Go Go.RowKit
open Enc (rd ow)
open Arg (argv)
open Ret (retv)
open Go.Proofs.Tryz


theorem c_spec_l9Carton (fu:Nat) {w0:World} (x1:Carton) {Ah:List Value} {F3:List Nat} (Ak:rd w0 F3 Ah x1) {r:Carton}
    (h:d_spec_l9Carton fu x1 = some r) :
    Calls Tryz.prog 143 #[.agg Ah.toArray] w0 fun e w=>∃ (Ai:List Value) (G0:List Nat),e = .returned (.agg Ai.toArray) ∧ Ext [] w0 w ∧ ow w G0 Ai r ∧ (∀ b ∈ G0,w0.heap.size ≤ b):=by
 refine enter (vs:=[_]) func143 z ntmps143 z fun a k=>?_
 have m:=St.start w0
 obtain ⟨v5,_,rfl,rfl,Ae⟩:=Ak
 unfold d_spec_l9Carton at h
 refine wr (s_box (cs:=[I x1.fType,I x1.fGroup,v5]) m k z z z z z z fun b7 w9 a k m e Ac=>s_alloc (cs:=[I 0,I 0,.slice none 0 0]) m k zeroValue33 z z z z z fun Aa Aw a k m e Al=>nn (wp_seq (d_go ([Aa]) mixo m z fun As hMd=>?_)))
 have m:=hMd
 have s:=Ext.refl (([Aa]):List Nat) As
 refine dt k 0 z (by kernel_rfl) z s (fun _ _ _=>id) (fun w s=>r_fa fa33_0 k z z) fun a k=>dt k 1 z (by kernel_rfl) z s (fun _ _ _=>id) (fun w s=>r_ld1 t13 (r:=[]) (Ac.at (hMd.az 1 0 z z z s) 0 1 z z z) k z z) fun a k=>dt k 2 z (by kernel_rfl) z s (fun _ _ _=>id) (fun w s=>r_fa fa33_1 k z z) fun a k=>dt k 3 z (by kernel_rfl) z s (fun _ _ _=>id) (fun w s=>r_ld1 t13 (r:=[]) (Ac.at (hMd.az 1 0 z z z s) 1 1 z z z) k z z) fun a k=>dt k 5 z (by kernel_rfl) z s (fun _ _ _=>id) (fun w s=>r_fa fa33_2 k z z) fun a k=>dt k 6 z (by kernel_rfl) z s (fun _ _ _=>id) (fun w s=>r_ld1 t131 (r:=[]) (Ac.at (hMd.az 1 0 z z z s) 2 1 z z z) k z z) fun a k=>d_one 4 (by kernel_rfl) z ?_
 refine s_bsN (cs:=[]) (ps:=[]) te31 m k z z z z z z z (by decide) z (by exact (List.forall_mem_nil _)) fun Ay Az Ax a k m e Aj Am=>?_
 have Af:=lo1 (Nat.le_trans s.size Am)
 have Ao:=ow_bx Aj ([]:List Int) z z z
 have s:=s.trans e (by simp)
 refine wpList_nil ⟨s,?_⟩
 refine d_one 7 (by kernel_rfl) z (oE h fun Av Ar h=>s_appFN Ar te31 z m 0 Ao (News.rd (Enc.rd_agr Ae (m.a00 (Enc.rd_lt Ae)))) z z k z z z z z z z fun Ag Ad At a k e m Ab Ap=>?_)
 have Au:∀ y ∈ Ad,y ∈ ([Aa]) ∨ _ ≤ y:=fun y hy=>(Ap y hy).elim (fun hy=>(fun y hy=>Or.inr (Af y hy)) y hy) (fun h=>Or.inr (Nat.le_trans s.size h))
 have s:=s.trans e (fun y hy=>Or.inr (Af y hy))
 refine wpList_nil ⟨s,?_⟩
 refine dt k 8 z (by kernel_rfl) z s (fun _ _ _=>id) (fun w s=>r_build bt33 k (cs:=#[I x1.fType,I x1.fGroup,Ag]) (ps:=[(0,.tmp 4),(1,.tmp 6),(2,.tmp 10)]) z z (fillc z z z (fillc z z z (fillc z (rd_c (Enc.ow_rd Ab)) z z)))) fun a k=>d_one 9 (by kernel_rfl) z (s_stb (cs':=[I x1.fType,I x1.fGroup,Ag]) sizeOf33 m 1 Al 0 k z z z z z z z z z z (allc z (allc z (allc (rd_o (Enc.ow_rd Ab)) alln))) fun Ba a k e m Aq=>?_)
 have s:=s.trans e (fun y hy=>Or.inl hy)
 refine wpList_nil ⟨s,?_⟩
 refine d_done (by kernel_rfl) ((nm_then ?_))
 refine wp_ret ?_
 cases h
 exact finR1 k z (RV.cA k z ta33 (Aq.at (m.a 1 z) 0 3 z z z) z) ⟨_,_,z,m.ext,⟨_,Ad,z,z,(Enc.ow_agr Ab (m.a 0 z)),by simpa [fps] using (m.sel [0] z (by decide)).nd⟩,(m.fresh 0 z)⟩
theorem c_spec_l13Copy (fu:Nat) {w0:World} (x1:Plan) {Bh:List Value} {F3:List Nat} (Cn:rd w0 F3 Bh x1) {r:Plan}
    (h:d_spec_l13Copy fu x1 = some r) :
    Calls Tryz.prog 132 #[.agg Bh.toArray] w0 fun e w=>∃ (Bn:List Value) (G0:List Nat),e = .returned (.agg Bn.toArray) ∧ Ext [] w0 w ∧ ow w G0 Bn r ∧ (∀ b ∈ G0,w0.heap.size ≤ b):=by
 refine enter (vs:=[_]) func132 z ntmps132 z fun a k=>?_
 have m:=St.start w0
 obtain ⟨v5,F6,v7,F8,rfl,rfl,Am,Be⟩:=Cn
 unfold d_spec_l13Copy at h
 refine wr (s_box (cs:=[v5,v7]) m k z z z z z z fun Bl By a k m e Av=>s_alloc (cs:=[.slice none 0 0,.slice none 0 0]) m k zeroValue74 z z z z z fun Bb Cx a k m e Bw=>nn (wr (s_bs (cs:=[]) (ps:=[]) te72 m k z z z z z z z (by decide) z (by exact (List.forall_mem_nil _)) fun Eo Er Eh a k m e Bv=>?_)))
 have Cb:=ow_bx Bv ([]:List Spot) z z z
 refine sv k z (r_fa fa74_1 k z z) fun a k=>sv k z (r_ldb t172 m 2 Av 1 k z z z z z) fun a k=>oE h fun Cq Ck h=>s_appF Ck te72 z m 0 Cb (News.rd (Enc.rd_agr Be (m.a00 (Enc.rd_lt Be)))) z z k z z z z z z z fun Ac Bf Ch a k e m Aq=>sv k z (r_build bt74 k (cs:=#[.slice none 0 0,Ac]) (ps:=[(1,.tmp 8)]) z z (fillc z (rd_c (Enc.ow_rd Aq)) z z)) fun a k=>s_alloc (cs:=[.slice none 0 0,.slice none 0 0]) m k zeroValue74 z z z z z fun Aj Ed a k m e Df=>s_stb (cs':=[.slice none 0 0,Ac]) sizeOf74 m 0 Df 0 k z z z z z z z z z z (allc z (allc (rd_o (Enc.ow_rd Aq)) alln)) fun Bs a k e m Cl=>nn (wp_seq (wr (pN 1 k z fun a k=>nn (wp_block ?_))))
 refine c_loop (fun n a w=>∃ (Ay:List Carton) (Ao:Value) (Ab:List Nat) (Ax:World) (Au:World) (Ae:Int),K 29 [(1,.pointer (some (⟨Bl,0,none⟩:Addr))),(2,.pointer (some (⟨Bb,0,none⟩:Addr))),(3,.pointer (some (⟨Aj,0,none⟩:Addr))),(4,I Ae)] a ∧ St [] w0 w [([Bl],By),([Bb],Cx),(Ab,Ax),([Aj],Au),(Bf,Ch)] ∧ ow Ax Ab [Ao] Ay ∧ bx Au Aj [Ao,Ac] 74 ∧ d_spec_l13Copy_L1 fu x1 Cq n Ay Ae = some r) ?_ ?_ fu _ _ ?_
 · rintro a w ⟨_,_,_,_,_,_,_,_,_,_,h⟩
   exact nS h
 · rintro Em a En ⟨Ay,Ao,Ab,Ax,Au,Ae,k,m,Ai,Ad,h⟩
   rw [d_spec_l13Copy_L1_s] at h
   unfold d_spec_l13Copy_L1_B at h
   refine wp_seq (wr (pN 1 k z fun a k=>sv k z (r_fa fa74_0 k z z) fun a k=>sv k z (r_ldb t143 m 0 Av 0 k z z z z z) fun a k=>sv k z (r_len (α:=Carton) Am k underlying43 z z) fun a k=>pN 1 k z fun a k=>nn (cI h k z (fun Di h=>?_) fun Di h=>?_)))
   · refine wp_skip (nm_then ?_)
     refine wp_seq (wp_block (d_go (Ab ++ ([Aj])) mixo m z fun Bz hMd=>?_))
     have m:=hMd
     have s:=Ext.refl ((Ab ++ ([Aj])):List Nat) Bz
     have hMj:=(hMd.sel [2,3,0,1,4] z (by decide)).join2
     refine dN [4] 1 z k (by kernel_rfl) z s (fun _ _ _ _ _=>id) fun a k=>dt k 0 z (by kernel_rfl) z s (fun _ _ _=>id) (fun w s=>r_fa fa74_0 k z z) fun a k=>dt k 2 z (by kernel_rfl) z s (fun _ _ _=>id) (fun w s=>r_fa fa74_0 k z z) fun a k=>dt k 3 z (by kernel_rfl) z s (fun _ _ _=>id) (fun w s=>r_ld1 t143 (r:=[]) (Av.at (hMj.az 1 0 z z z s) 0 1 z z z) k z z) fun a k=>oE h fun Af Bc h=>dt k 5 z (by kernel_rfl) z s (fun _ _ _=>id) (fun w s=>r_ixa Am Bc k ts43 z z z) fun a k=>?_
     obtain ⟨El,Dq,Dz,Cm,De,Ci⟩:=rd_get Am (ix_some Bc).2.2
     obtain ⟨Bd,_,rfl,rfl,Ap⟩:=Cm
     refine dt k 6 z (by kernel_rfl) z s (fun _ _ _=>id) (fun w s=>r_ldA ta33 (De.agr (hMj.az0 0 z z (Enc.rd_lt Am) s) Ci) z k z z) fun a k=>d_two 1 7 (by kernel_rfl) z z ?_ ?_ 
     · refine sv k z (r_ldb t143 m 3 Ad 0 k z z z z z) fun a k=>wpList_nil ⟨s,?_⟩
       refine d_one 7 (by kernel_rfl) z (oE h fun Ah Co h=>s_call k call143 z z z z z (c_spec_l9Carton fu _ (show rd _ _ [I Af.fType,I Af.fGroup,Bd] (Af:Carton) from ⟨_,_,z,z,(Enc.rd_agr Ap (m.a00 (Enc.rd_lt Ap)))⟩) Co) fun Eg Es hR=>?_)
       obtain ⟨Dw,Ak,rfl,e,Aw,Bo⟩:=hR
       refine ⟨_,z,fun a k=>?_⟩
       have m:=m.new e Ak (fun b hb=>⟨Bo b hb,Enc.rd_lt (Enc.ow_rd Aw) b hb⟩) (Enc.ow_nd Aw)
       have Dp:=fun (y:Nat) (hy:y ∈ Ak)=>Nat.le_trans s.size (Bo y hy)
       obtain ⟨Ba,_,rfl,rfl,Br,_⟩:=Aw
       have s:=s.trans e (by simp)
       refine wpList_nil ⟨s,?_⟩
       refine d_one 8 (by kernel_rfl) z (s_bsN (cs:=[I Ah.fType,I Ah.fGroup,Ba]) (ps:=[(0,.tmp 24)]) te43 m k z z z z z z z (by decide) z (by exact (List.forall_mem_cons.2 ⟨z,(List.forall_mem_nil _)⟩)) fun Ef Dv Eb a k m e Cw Dx=>?_)
       have s:=s.trans e (by simp)
       refine wpList_nil ⟨s,?_⟩
       refine d_one 9 (by kernel_rfl) z (oE h fun Cf Ce h=>?_)
       have Bx:ow _ (Ak) [I Ah.fType,I Ah.fGroup,Ba] (Ah:Carton):=⟨_,_,z,z,(Enc.ow_agr Br (m.a 1 z)),by simpa [fps] using (m.sel [1] z (by decide)).nd⟩
       have Dc:=News.box Cw (m.a 0 z) (by simp) (m:=1)
       have Cv:=m.a 4 z
       have m:=m.sel [4,1,0,2,3,5,6] z (by decide)
       have m:=m.join2
       refine s_appO (F:=Ab) (G:=(Ak)) Ce te43 z m Ai Cv Dc Bx (Agr.refl _ _) k z z z z z z fun Bi Dn Dg a k e m As=>?_
       have s:=s.trans e (fun y hy=>(List.mem_append.1 hy).elim ((fun y hy=>Or.inl (List.mem_append_left _ hy)) y) ((fun y hy=>Or.inr (Dp y hy)) y))
       refine wpList_nil ⟨s,?_⟩
       refine dt k 10 z (by kernel_rfl) z s (fun _ _ _=>id) (fun w s=>r_fa fa74_0 k z z) fun a k=>d_one 11 (by kernel_rfl) z (s_stb1 (cs':=[Bi,Ac]) sizeOf43 m 4 Ad 0 k (rd_c (Enc.ow_rd As)) (rd_o (Enc.ow_rd As)) z z z z z z z z z fun Dh a k e m Cg=>?_)
       have s:=s.trans e (fun y hy=>Or.inl (List.mem_append_right _ hy))
       refine wpList_nil ⟨s,?_⟩
       refine d_done (by kernel_rfl) ((nm_block (nm_then ?_)))
       refine wp_region_lit (pN 3 k z fun a k=>nn ?_)
       exact ⟨Cf,Bi,Dn,Dg,Dh,w64 (Ae + 1),k.keep [1,2,3,4] z,m.sel [2,3,0,4,5] z (by decide),As,Cg,h⟩
     refine oE h fun Aa Cj h=>s_call k call143 z z z z z (c_spec_l9Carton fu _ (show rd _ _ [I Af.fType,I Af.fGroup,Bd] (Af:Carton) from ⟨_,_,z,z,(Enc.rd_agr Ap (m.a00 (Enc.rd_lt Ap)))⟩) Cj) fun Ek Ee hR=>?_
     obtain ⟨Dr,Ag,rfl,e,Ar,Bg⟩:=hR
     refine ⟨_,z,fun a k=>?_⟩
     have m:=m.new e Ag (fun b hb=>⟨Bg b hb,Enc.rd_lt (Enc.ow_rd Ar) b hb⟩) (Enc.ow_nd Ar)
     have Bp:=fun (y:Nat) (hy:y ∈ Ag)=>Nat.le_trans s.size (Bg y hy)
     obtain ⟨Al,_,rfl,rfl,Bk,_⟩:=Ar
     have s:=s.trans e (by simp)
     refine wpList_nil ⟨s,?_⟩
     refine d_two 1 8 (by kernel_rfl) z z ?_ ?_ 
     · refine sv k z (r_ldb t143 m 4 Ad 0 k z z z z z) fun a k=>wpList_nil ⟨s,?_⟩
       refine d_one 8 (by kernel_rfl) z (s_bsN (cs:=[I Aa.fType,I Aa.fGroup,Al]) (ps:=[(0,.tmp 24)]) te43 m k z z z z z z z (by decide) z (by exact (List.forall_mem_cons.2 ⟨z,(List.forall_mem_nil _)⟩)) fun Du Ep Dt a k m e Cp Ds=>?_)
       have s:=s.trans e (by simp)
       refine wpList_nil ⟨s,?_⟩
       refine d_one 9 (by kernel_rfl) z (oE h fun Bq Cd h=>?_)
       have Ct:ow _ (Ag) [I Aa.fType,I Aa.fGroup,Al] (Aa:Carton):=⟨_,_,z,z,(Enc.ow_agr Bk (m.a 1 z)),by simpa [fps] using (m.sel [1] z (by decide)).nd⟩
       have Ca:=News.box Cp (m.a 0 z) (by simp) (m:=1)
       have Dk:=m.a 4 z
       have m:=m.sel [4,1,0,2,3,5,6] z (by decide)
       have m:=m.join2
       refine s_appO (F:=Ab) (G:=(Ag)) Cd te43 z m Ai Dk Ca Ct (Agr.refl _ _) k z z z z z z fun Bm Bu Dl a k e m Az=>?_
       have s:=s.trans e (fun y hy=>(List.mem_append.1 hy).elim ((fun y hy=>Or.inl (List.mem_append_left _ hy)) y) ((fun y hy=>Or.inr (Bp y hy)) y))
       refine wpList_nil ⟨s,?_⟩
       refine dt k 10 z (by kernel_rfl) z s (fun _ _ _=>id) (fun w s=>r_fa fa74_0 k z z) fun a k=>d_one 11 (by kernel_rfl) z (s_stb1 (cs':=[Bm,Ac]) sizeOf43 m 4 Ad 0 k (rd_c (Enc.ow_rd Az)) (rd_o (Enc.ow_rd Az)) z z z z z z z z z fun Cr a k e m Bt=>?_)
       have s:=s.trans e (fun y hy=>Or.inl (List.mem_append_right _ hy))
       refine wpList_nil ⟨s,?_⟩
       refine d_done (by kernel_rfl) ((nm_block (nm_then ?_)))
       refine wp_region_lit (pN 3 k z fun a k=>nn ?_)
       exact ⟨Bq,Bm,Bu,Dl,Cr,w64 (Ae + 1),k.keep [1,2,3,4] z,m.sel [2,3,0,4,5] z (by decide),Az,Bt,h⟩
     refine s_bsN (cs:=[I Aa.fType,I Aa.fGroup,Al]) (ps:=[(0,.tmp 24)]) te43 m k z z z z z z z (by decide) z (by exact (List.forall_mem_cons.2 ⟨z,(List.forall_mem_nil _)⟩)) fun Ei Ea Ej a k m e Dd Dy=>?_
     have s:=s.trans e (by simp)
     refine wpList_nil ⟨s,?_⟩
     refine d_one 1 (by kernel_rfl) z (sv k z (r_ldb t143 m 5 Ad 0 k z z z z z) fun a k=>wpList_nil ⟨s,?_⟩)
     refine d_one 9 (by kernel_rfl) z (oE h fun Da Cy h=>?_)
     have Cc:ow _ (Ag) [I Aa.fType,I Aa.fGroup,Al] (Aa:Carton):=⟨_,_,z,z,(Enc.ow_agr Bk (m.a 1 z)),by simpa [fps] using (m.sel [1] z (by decide)).nd⟩
     have Dj:=News.box Dd (m.a 0 z) (by simp) (m:=1)
     have Do:=m.a 4 z
     have m:=m.sel [4,1,0,2,3,5,6] z (by decide)
     have m:=m.join2
     refine s_appO (F:=Ab) (G:=(Ag)) Cy te43 z m Ai Do Dj Cc (Agr.refl _ _) k z z z z z z fun Bj Cz Cu a k e m At=>?_
     have s:=s.trans e (fun y hy=>(List.mem_append.1 hy).elim ((fun y hy=>Or.inl (List.mem_append_left _ hy)) y) ((fun y hy=>Or.inr (Bp y hy)) y))
     refine wpList_nil ⟨s,?_⟩
     refine dt k 10 z (by kernel_rfl) z s (fun _ _ _=>id) (fun w s=>r_fa fa74_0 k z z) fun a k=>d_one 11 (by kernel_rfl) z (s_stb1 (cs':=[Bj,Ac]) sizeOf43 m 4 Ad 0 k (rd_c (Enc.ow_rd At)) (rd_o (Enc.ow_rd At)) z z z z z z z z z fun Db a k e m Dm=>?_)
     have s:=s.trans e (fun y hy=>Or.inl (List.mem_append_right _ hy))
     refine wpList_nil ⟨s,?_⟩
     refine d_done (by kernel_rfl) ((nm_block (nm_then ?_)))
     refine wp_region_lit (pN 3 k z fun a k=>nn ?_)
     exact ⟨Da,Bj,Cz,Cu,Db,w64 (Ae + 1),k.keep [1,2,3,4] z,m.sel [2,3,0,4,5] z (by decide),At,Dm,h⟩
   refine wp_exit (ex_then (ex_then (ex_same (nm_then ?_))))
   refine wr (sv k z (r_ldB ta74 m 3 Ad 0 k z z z z z z) fun a k=>s_stb (cs':=[Ao,Ac]) sizeOf74 m 1 Bw 0 k z z z z z z z z z z (allc (rd_o (Enc.ow_rd Ai)) (allc (rd_o (Enc.ow_rd Aq)) alln)) fun Ec a k e m Cs=>nn (wp_ret ?_))
   cases h
   exact finR1 k z (RV.cA k z ta74 (Cs.at (m.a 1 z) 0 2 z z z) z) ⟨_,_,z,m.ext,⟨_,Ab,_,Bf,z,z,(Enc.ow_agr Ai (m.a 2 z)),(Enc.ow_agr Aq (m.a 4 z)),by simpa [fps] using (m.sel [2,4] z (by decide)).nd⟩,(app_fresh (m.fresh 2 z) (m.fresh 4 z))⟩
 exact ⟨([]:List Carton),.slice none 0 0,[],_,Bs,0,k.keep [1,2,3,4] z,(m.addNil (u:=w0)).sel [4,3,0,1,2] z (by decide),(ow_nil _),Cl,h⟩
theorem c_spec_l1In (fu:Nat) {w0:World} (x1:Int) (Ab:Int) (Ac:Int)  {r:Bool}
    (h:d_spec_l1In fu x1 Ab Ac = some r) :
    Calls Tryz.prog 142 #[I x1,I Ab,I Ac] w0 fun e w=>e = .returned (.bool (r)) ∧ Ext [] w0 w:=by
 refine enter (vs:=[_,_,_]) func142 z ntmps142 z fun a k=>?_
 have m:=St.start w0
 unfold d_spec_l1In at h
 refine wr (pN 1 k z fun a k=>nn (wr (pN 4 k z fun a k=>bsplit (decide (x1 ≥ Ab)) (fun Aa=>?_) (fun Aa=>?_))))
 · have h:=bif_t Aa h
   refine rB k 10 z Aa fun k=>pN 5 k z fun a k=>nn (wp_ret (fS h k m z z))
 have h:=bif_f Aa h
 refine rB k 10 z Aa fun k=>pN 5 k z fun a k=>nn (wp_ret (fS h k m z z))
theorem c_spec_l2Side (fu:Nat) {w0:World} (x1:Int)  {r:Bool}
    (h:d_spec_l2Side fu x1 = some r) :
    Calls Tryz.prog 238 #[I x1] w0 fun e w=>e = .returned (.bool (r)) ∧ Ext [] w0 w:=by
 refine enter (vs:=[_]) func238 z ntmps238 z fun a k=>?_
 have m:=St.start w0
 unfold d_spec_l2Side at h
 refine wr (pN 1 k z fun a k=>nn (wr (pN 1 k z fun a k=>oE h fun x2 Aa h=>cE k m call142 z z z (c_spec_l1In fu _ _ _  Aa) fun w5 e a k m=>pN 1 k z fun a k=>nn (wp_ret (fS h k m z z)))))
theorem c_spec_PalletOk (fu:Nat) {w0:World} (x1:Pallet)  {r:Bool}
    (h:d_spec_PalletOk fu x1 = some r) :
    Calls Tryz.prog 157 #[.agg (Flat.e (x1)).toArray] w0 fun e w=>e = .returned (.bool (r)) ∧ Ext [] w0 w:=by
 refine enter (vs:=[_]) func157 z ntmps157 z fun a k=>?_
 have m:=St.start w0
 unfold d_spec_PalletOk at h
 refine wr (s_box (cs:=[I x1.fW,I x1.fD,I x1.fH,I x1.fGram]) m k z z z z z z fun b2 w4 a k m e Ad=>pN 1 k z fun a k=>nn (wr (sv k z (r_fa fa25_0 k z z) fun a k=>sv k z (r_ldb t13 m 0 Ad 0 k z z z z z) fun a k=>oE h fun x5 Ai h=>cE k m call238 z z z (c_spec_l2Side fu _  Ai) fun w9 e a k m=>pN 1 k z fun a k=>bsplit (x5) (fun Ab=>?_) (fun Ab=>?_))))
 · have h:=bif_t Ab h
   refine rB k 6 z Ab fun k=>sv k z (r_fa fa25_1 k z z) fun a k=>sv k z (r_ldb t13 m 0 Ad 1 k z z z z z) fun a k=>oE h fun Ae Af h=>cE k m call238 z z z (c_spec_l2Side fu _  Af) fun Ao e a k m=>pN 2 k z fun a k=>bsplit (Ae) (fun Ac=>?_) (fun Ac=>?_)
   · have h:=bif_t Ac h
     refine rB k 11 z Ac fun k=>sv k z (r_fa fa25_2 k z z) fun a k=>sv k z (r_ldb t13 m 0 Ad 2 k z z z z z) fun a k=>oE h fun Aj Ag h=>cE k m call238 z z z (c_spec_l2Side fu _  Ag) fun Al e a k m=>pN 2 k z fun a k=>bsplit (Aj) (fun Aa=>?_) (fun Aa=>?_)
     · have h:=bif_t Aa h
       refine rB k 16 z Aa fun k=>sv k z (r_fa fa25_3 k z z) fun a k=>sv k z (r_ldb t13 m 0 Ad 3 k z z z z z) fun a k=>oE h fun Am Ah h=>cE k m call142 z z z (c_spec_l1In fu _ _ _  Ah) fun Ak e a k m=>pN 2 k z fun a k=>nn (wp_ret (fS h k m z z))
     have h:=bif_f Aa h
     refine rB k 16 z Aa fun k=>pN 5 k z fun a k=>nn (wp_ret (fS h k m z z))
   have h:=bif_f Ac h
   refine rB k 11 z Ac fun k=>pN 10 k z fun a k=>nn (wp_ret (fS h k m z z))
 have h:=bif_f Ab h
 refine rB k 6 z Ab fun k=>pN 15 k z fun a k=>nn (wp_ret (fS h k m z z))
theorem c_spec_l2Id (fu:Nat) {w0:World} (x1:Int)  {r:Bool}
    (h:d_spec_l2Id fu x1 = some r) :
    Calls Tryz.prog 158 #[I x1] w0 fun e w=>e = .returned (.bool (r)) ∧ Ext [] w0 w:=by
 refine enter (vs:=[_]) func158 z ntmps158 z fun a k=>?_
 have m:=St.start w0
 unfold d_spec_l2Id at h
 refine wr (pN 1 k z fun a k=>nn (wr (pN 1 k z fun a k=>oE h fun x2 Aa h=>cE k m call142 z z z (c_spec_l1In fu _ _ _  Aa) fun w5 e a k m=>pN 1 k z fun a k=>nn (wp_ret (fS h k m z z)))))
theorem c_spec_TypeOk (fu:Nat) {w0:World} (x1:Typ)  {r:Bool}
    (h:d_spec_TypeOk fu x1 = some r) :
    Calls Tryz.prog 159 #[.agg (Flat.e (x1)).toArray] w0 fun e w=>e = .returned (.bool (r)) ∧ Ext [] w0 w:=by
 refine enter (vs:=[_]) func159 z ntmps159 z fun a k=>?_
 have m:=St.start w0
 unfold d_spec_TypeOk at h
 refine wr (s_box (cs:=[I x1.fId,I x1.fW,I x1.fH,I x1.fD,I x1.fTare,I x1.fGram,I x1.fCost]) m k z z z z z z fun b2 w4 a k m e Aa=>pN 1 k z fun a k=>nn (wr (sv k z (r_fa fa38_0 k z z) fun a k=>sv k z (r_ldb t13 m 0 Aa 0 k z z z z z) fun a k=>oE h fun x5 Aj h=>cE k m call158 z z z (c_spec_l2Id fu _  Aj) fun w9 e a k m=>pN 1 k z fun a k=>bsplit (x5) (fun Ae=>?_) (fun Ae=>?_))))
 · have h:=bif_t Ae h
   refine rB k 6 z Ae fun k=>sv k z (r_fa fa38_1 k z z) fun a k=>sv k z (r_ldb t13 m 0 Aa 1 k z z z z z) fun a k=>oE h fun Am Ai h=>cE k m call238 z z z (c_spec_l2Side fu _  Ai) fun Ba e a k m=>pN 2 k z fun a k=>bsplit (Am) (fun Ac=>?_) (fun Ac=>?_)
   · have h:=bif_t Ac h
     refine rB k 11 z Ac fun k=>sv k z (r_fa fa38_2 k z z) fun a k=>sv k z (r_ldb t13 m 0 Aa 2 k z z z z z) fun a k=>oE h fun Aq Ao h=>cE k m call238 z z z (c_spec_l2Side fu _  Ao) fun Ay e a k m=>pN 2 k z fun a k=>bsplit (Aq) (fun Ab=>?_) (fun Ab=>?_)
     · have h:=bif_t Ab h
       refine rB k 16 z Ab fun k=>sv k z (r_fa fa38_3 k z z) fun a k=>sv k z (r_ldb t13 m 0 Aa 3 k z z z z z) fun a k=>oE h fun Ah Ap h=>cE k m call238 z z z (c_spec_l2Side fu _  Ap) fun Aw e a k m=>pN 2 k z fun a k=>bsplit (Ah) (fun Af=>?_) (fun Af=>?_)
       · have h:=bif_t Af h
         refine rB k 21 z Af fun k=>sv k z (r_fa fa38_4 k z z) fun a k=>sv k z (r_ldb t13 m 0 Aa 4 k z z z z z) fun a k=>oE h fun At Ak h=>cE k m call142 z z z (c_spec_l1In fu _ _ _  Ak) fun Az e a k m=>pN 2 k z fun a k=>bsplit (At) (fun Ad=>?_) (fun Ad=>?_)
         · have h:=bif_t Ad h
           refine rB k 26 z Ad fun k=>sv k z (r_fa fa38_5 k z z) fun a k=>sv k z (r_ldb t13 m 0 Aa 5 k z z z z z) fun a k=>oE h fun Al Ar h=>cE k m call142 z z z (c_spec_l1In fu _ _ _  Ar) fun Au e a k m=>pN 2 k z fun a k=>bsplit (Al) (fun Ag=>?_) (fun Ag=>?_)
           · have h:=bif_t Ag h
             refine rB k 31 z Ag fun k=>sv k z (r_fa fa38_6 k z z) fun a k=>sv k z (r_ldb t13 m 0 Aa 6 k z z z z z) fun a k=>oE h fun Av As h=>cE k m call142 z z z (c_spec_l1In fu _ _ _  As) fun Ax e a k m=>pN 2 k z fun a k=>?_
             have k:=k.keep [2] z
             refine nn (wp_ret (fS h k m z z))
           have h:=bif_f Ag h
           refine rB k 31 z Ag fun k=>pN 5 k z fun a k=>?_
           have k:=k.keep [2] z
           refine nn (wp_ret (fS h k m z z))
         have h:=bif_f Ad h
         refine rB k 26 z Ad fun k=>pN 10 k z fun a k=>?_
         have k:=k.keep [2] z
         refine nn (wp_ret (fS h k m z z))
       have h:=bif_f Af h
       refine rB k 21 z Af fun k=>pN 15 k z fun a k=>?_
       have k:=k.keep [2] z
       refine nn (wp_ret (fS h k m z z))
     have h:=bif_f Ab h
     refine rB k 16 z Ab fun k=>pN 20 k z fun a k=>?_
     have k:=k.keep [2] z
     refine nn (wp_ret (fS h k m z z))
   have h:=bif_f Ac h
   refine rB k 11 z Ac fun k=>pN 25 k z fun a k=>?_
   have k:=k.keep [2] z
   refine nn (wp_ret (fS h k m z z))
 have h:=bif_f Ae h
 refine rB k 6 z Ae fun k=>pN 30 k z fun a k=>?_
 have k:=k.keep [2] z
 refine nn (wp_ret (fS h k m z z))
theorem c_spec_ItemOk (fu:Nat) {w0:World} (x1:Item)  {r:Bool}
    (h:d_spec_ItemOk fu x1 = some r) :
    Calls Tryz.prog 160 #[.agg (Flat.e (x1)).toArray] w0 fun e w=>e = .returned (.bool (r)) ∧ Ext [] w0 w:=by
 refine enter (vs:=[_]) func160 z ntmps160 z fun a k=>?_
 have m:=St.start w0
 unfold d_spec_ItemOk at h
 refine wr (s_box (cs:=[I x1.fId,I x1.fW,I x1.fH,I x1.fD,I x1.fGram,I x1.fClass,I x1.fCount]) m k z z z z z z fun b2 w4 a k m e Aa=>pN 1 k z fun a k=>nn (wr (sv k z (r_fa fa97_0 k z z) fun a k=>sv k z (r_ldb t13 m 0 Aa 0 k z z z z z) fun a k=>oE h fun x5 Aj h=>cE k m call158 z z z (c_spec_l2Id fu _  Aj) fun w9 e a k m=>pN 1 k z fun a k=>bsplit (x5) (fun Ae=>?_) (fun Ae=>?_))))
 · have h:=bif_t Ae h
   refine rB k 6 z Ae fun k=>sv k z (r_fa fa97_1 k z z) fun a k=>sv k z (r_ldb t13 m 0 Aa 1 k z z z z z) fun a k=>oE h fun Am Ai h=>cE k m call238 z z z (c_spec_l2Side fu _  Ai) fun Ba e a k m=>pN 2 k z fun a k=>bsplit (Am) (fun Ac=>?_) (fun Ac=>?_)
   · have h:=bif_t Ac h
     refine rB k 11 z Ac fun k=>sv k z (r_fa fa97_2 k z z) fun a k=>sv k z (r_ldb t13 m 0 Aa 2 k z z z z z) fun a k=>oE h fun Aq Ao h=>cE k m call238 z z z (c_spec_l2Side fu _  Ao) fun Ay e a k m=>pN 2 k z fun a k=>bsplit (Aq) (fun Ab=>?_) (fun Ab=>?_)
     · have h:=bif_t Ab h
       refine rB k 16 z Ab fun k=>sv k z (r_fa fa97_3 k z z) fun a k=>sv k z (r_ldb t13 m 0 Aa 3 k z z z z z) fun a k=>oE h fun Ah Ap h=>cE k m call238 z z z (c_spec_l2Side fu _  Ap) fun Aw e a k m=>pN 2 k z fun a k=>bsplit (Ah) (fun Af=>?_) (fun Af=>?_)
       · have h:=bif_t Af h
         refine rB k 21 z Af fun k=>sv k z (r_fa fa97_4 k z z) fun a k=>sv k z (r_ldb t13 m 0 Aa 4 k z z z z z) fun a k=>oE h fun At Ak h=>cE k m call142 z z z (c_spec_l1In fu _ _ _  Ak) fun Az e a k m=>pN 2 k z fun a k=>bsplit (At) (fun Ad=>?_) (fun Ad=>?_)
         · have h:=bif_t Ad h
           refine rB k 26 z Ad fun k=>sv k z (r_fa fa97_5 k z z) fun a k=>sv k z (r_ldb t13 m 0 Aa 5 k z z z z z) fun a k=>oE h fun Al Ar h=>cE k m call142 z z z (c_spec_l1In fu _ _ _  Ar) fun Au e a k m=>pN 2 k z fun a k=>bsplit (Al) (fun Ag=>?_) (fun Ag=>?_)
           · have h:=bif_t Ag h
             refine rB k 31 z Ag fun k=>sv k z (r_fa fa97_6 k z z) fun a k=>sv k z (r_ldb t13 m 0 Aa 6 k z z z z z) fun a k=>oE h fun Av As h=>cE k m call142 z z z (c_spec_l1In fu _ _ _  As) fun Ax e a k m=>pN 2 k z fun a k=>?_
             have k:=k.keep [2] z
             refine nn (wp_ret (fS h k m z z))
           have h:=bif_f Ag h
           refine rB k 31 z Ag fun k=>pN 5 k z fun a k=>?_
           have k:=k.keep [2] z
           refine nn (wp_ret (fS h k m z z))
         have h:=bif_f Ad h
         refine rB k 26 z Ad fun k=>pN 10 k z fun a k=>?_
         have k:=k.keep [2] z
         refine nn (wp_ret (fS h k m z z))
       have h:=bif_f Af h
       refine rB k 21 z Af fun k=>pN 15 k z fun a k=>?_
       have k:=k.keep [2] z
       refine nn (wp_ret (fS h k m z z))
     have h:=bif_f Ab h
     refine rB k 16 z Ab fun k=>pN 20 k z fun a k=>?_
     have k:=k.keep [2] z
     refine nn (wp_ret (fS h k m z z))
   have h:=bif_f Ac h
   refine rB k 11 z Ac fun k=>pN 25 k z fun a k=>?_
   have k:=k.keep [2] z
   refine nn (wp_ret (fS h k m z z))
 have h:=bif_f Ae h
 refine rB k 6 z Ae fun k=>pN 30 k z fun a k=>?_
 have k:=k.keep [2] z
 refine nn (wp_ret (fS h k m z z))
theorem c_spec_BoundsOk (fu:Nat) {w0:World} (r1:Request) {Aw:List Value} {F3:List Nat} (Ax:rd w0 F3 Aw r1) {r:Bool}
    (h:d_spec_BoundsOk fu r1 = some r) :
    Calls Tryz.prog 69 #[.agg Aw.toArray] w0 fun e w=>e = .returned (.bool (r)) ∧ Ext [] w0 w:=by
 refine enter (vs:=[_]) func69 z ntmps69 z fun a k=>?_
 have m:=St.start w0
 obtain ⟨v5,F6,v7,F8,v9,Ck,rfl,rfl,Ad,Ah,Ac⟩:=Ax
 unfold d_spec_BoundsOk at h
 refine wr (s_box (cs:=[I r1.fWay,I r1.fPallet.fW,I r1.fPallet.fD,I r1.fPallet.fH,I r1.fPallet.fGram,I r1.fClasses,v5,v7,I r1.fMaster,v9]) m k z z z z z z fun Ab Ak a k m e Aa=>pN 1 k z fun a k=>nn (c_cut (fun a w=>K 111 [(1,.pointer (some (⟨Ab,0,none⟩:Addr)))] a ∧ St [] w0 w [([Ab],Ak)] ∧ d_spec_BoundsOk_J2 fu r1 = some r) ?_ ?_))
 · rintro a Cr ⟨k,m,h⟩
   unfold d_spec_BoundsOk_J2 at h
   refine wp_seq (wr (pN 1 k z fun a k=>nn (wp_block (c_loop (fun n a w=>∃ (Ae:Int),K 111 [(1,.pointer (some (⟨Ab,0,none⟩:Addr))),(3,I Ae)] a ∧ St [] w0 w [([Ab],Ak)] ∧ d_spec_BoundsOk_L3 fu r1 n Ae = some r) ?_ ?_ fu _ _ ?_))))
   · rintro a w ⟨_,_,_,h⟩
     exact nS h
   · rintro Bk a Cc ⟨Ae,k,m,h⟩
     rw [d_spec_BoundsOk_L3_s] at h
     unfold d_spec_BoundsOk_L3_B at h
     refine wp_seq (wr (pN 1 k z fun a k=>sv k z (r_fa fa30_3 k z z) fun a k=>sv k z (r_ldb t126 m 0 Aa 6 k z z z z z) fun a k=>sv k z (r_len (α:=Pair) Ad k underlying26 z z) fun a k=>pN 1 k z fun a k=>nn (cI h k z (fun Bs h=>?_) fun Bs h=>?_)))
     · refine wp_skip (nm_then ?_)
       refine c_cut (fun a w=>K 111 [(1,.pointer (some (⟨Ab,0,none⟩:Addr))),(3,I Ae)] a ∧ St [] w0 w [([Ab],Ak)] ∧ d_spec_BoundsOk_J1 fu (d_spec_BoundsOk_L3 fu r1 Bk) Ae = some r) ?_ ?_
       · rintro a Cj ⟨k,m,h⟩
         unfold d_spec_BoundsOk_J1 at h
         refine wp_region_lit (pN 3 k z fun a k=>nn ?_)
         exact ⟨w64 (Ae + 1),k.keep [1,3] z,m.sel [0] z (by decide),h⟩
       refine wp_block (wr (sv k z (r_fa fa30_3 k z z) fun a k=>sv k z (r_ldb t126 m 0 Aa 6 k z z z z z) fun a k=>pN 1 k z fun a k=>oE h fun Cf As h=>sv k z (r_ixa Ad As k ts26 z z z) fun a k=>sv k z (r_fa fa158_0 k z z) fun a k=>sv k z (r_lde1 Ad (m.a00 (Enc.rd_lt Ad)) As 0 t13 k z z z z) fun a k=>oE h fun Bb Bg h=>cE k m call142 z z z (c_spec_l1In fu _ _ _  Bg) fun Bw e a k m=>pN 2 k z fun a k=>bsplit (!Bb) (fun Aj=>?_) (fun Aj=>?_)))
       · have h:=bif_t Aj h
         refine rB k 63 z Aj fun k=>pN 9 k z fun a k=>nn (wp_cond_true (k.ev z) (wr (pN 1 k z fun a k=>nn (wp_ret (rt_block (rt_then (rt_then (rt_block (rt_then ?_)))))))))
         refine fS h k m z z
       have h:=bif_f Aj h
       refine rB k 63 z Aj fun k=>sv k z (r_fa fa30_3 k z z) fun a k=>sv k z (r_ldb t126 m 0 Aa 6 k z z z z z) fun a k=>pN 1 k z fun a k=>oE h fun Cm Ch h=>sv k z (r_ixa Ad As k ts26 z z z) fun a k=>sv k z (r_fa fa158_1 k z z) fun a k=>sv k z (r_lde1 Ad (m.a00 (Enc.rd_lt Ad)) As 1 t13 k z z z z) fun a k=>oE h fun Cl Bl h=>cE k m call142 z z z (c_spec_l1In fu _ _ _  Bl) fun Ca e a k m=>pN 2 k z fun a k=>nn (cI h k z (fun Ay h=>?_) fun Ay h=>?_)
       · refine wr (pN 1 k z fun a k=>nn (wp_ret (rt_block (rt_then (rt_then (rt_block (rt_then ?_)))))))
         refine fS h k m z z
       refine wp_skip (nm_block (nm_then ?_))
       exact ⟨k.keep [1,3] z,m.sel [0] z (by decide),h⟩
     refine wp_exit (ex_then (ex_then (ex_same (nm_then ?_))))
     refine wp_seq (wr (pN 1 k z fun a k=>nn (wp_block (c_loop (fun n a w=>∃ (Ap:Int),K 111 [(1,.pointer (some (⟨Ab,0,none⟩:Addr))),(4,I Ap)] a ∧ St [] w0 w [([Ab],Ak)] ∧ d_spec_BoundsOk_L2 fu r1 n Ap = some r) ?_ ?_ fu _ _ ?_))))
     · rintro a w ⟨_,_,_,h⟩
       exact nS h
     · rintro Cs a Cd ⟨Ap,k,m,h⟩
       rw [d_spec_BoundsOk_L2_s] at h
       unfold d_spec_BoundsOk_L2_B at h
       refine wp_seq (wr (pN 1 k z fun a k=>sv k z (r_fa fa30_4 k z z) fun a k=>sv k z (r_ldb t127 m 0 Aa 7 k z z z z z) fun a k=>sv k z (r_len (α:=Typ) Ah k underlying27 z z) fun a k=>pN 1 k z fun a k=>nn (cI h k z (fun Bq h=>?_) fun Bq h=>?_)))
       · refine wp_skip (nm_then ?_)
         refine wp_seq (wp_block (wr (sv k z (r_fa fa30_4 k z z) fun a k=>sv k z (r_ldb t127 m 0 Aa 7 k z z z z z) fun a k=>pN 1 k z fun a k=>oE h fun Bd Au h=>sv k z (r_ixa Ah Au k ts27 z z z) fun a k=>sv k z (r_lde Ah (m.a00 (Enc.rd_lt Ah)) Au ta38 k z z) fun a k=>oE h fun Ct Bc h=>cE k m call159 z z z (c_spec_TypeOk fu (Bd:Typ)  Bc) fun Cq e a k m=>pN 1 k z fun a k=>nn (cI h k z (fun Br h=>?_) fun Br h=>?_))))
         · refine wr (pN 1 k z fun a k=>nn (wp_ret (rt_block (rt_then (rt_then (rt_block (rt_then ?_)))))))
           refine fS h k m z z
         refine wp_skip (nm_block (nm_then ?_))
         refine wp_region_lit (pN 3 k z fun a k=>nn ?_)
         exact ⟨w64 (Ap + 1),k.keep [1,4] z,m.sel [0] z (by decide),h⟩
       refine wp_exit (ex_then (ex_then (ex_same (nm_then ?_))))
       refine wr (pN 1 k z fun a k=>nn (wp_seq (wr (pN 1 k z fun a k=>nn (wp_block (c_loop (fun n a w=>∃ (At:Int) (Ar:Int),K 111 [(1,.pointer (some (⟨Ab,0,none⟩:Addr))),(5,I At),(6,I Ar)] a ∧ St [] w0 w [([Ab],Ak)] ∧ d_spec_BoundsOk_L1 fu r1 n At Ar = some r) ?_ ?_ fu _ _ ?_))))))
       · rintro a w ⟨_,_,_,_,h⟩
         exact nS h
       · rintro Bz a Cg ⟨At,Ar,k,m,h⟩
         rw [d_spec_BoundsOk_L1_s] at h
         unfold d_spec_BoundsOk_L1_B at h
         refine wp_seq (wr (pN 1 k z fun a k=>sv k z (r_fa fa30_6 k z z) fun a k=>sv k z (r_ldb t128 m 0 Aa 9 k z z z z z) fun a k=>sv k z (r_len (α:=Item) Ac k underlying28 z z) fun a k=>pN 1 k z fun a k=>nn (cI h k z (fun Az h=>?_) fun Az h=>?_)))
         · refine wp_skip (nm_then ?_)
           refine wp_seq (wp_block (wp_seq (wr (sv k z (r_fa fa30_6 k z z) fun a k=>sv k z (r_ldb t128 m 0 Aa 9 k z z z z z) fun a k=>pN 1 k z fun a k=>oE h fun Av Aq h=>sv k z (r_ixa Ac Aq k ts28 z z z) fun a k=>sv k z (r_lde Ac (m.a00 (Enc.rd_lt Ac)) Aq ta97 k z z) fun a k=>oE h fun Cn Bt h=>cE k m call160 z z z (c_spec_ItemOk fu (Av:Item)  Bt) fun Bx e a k m=>pN 1 k z fun a k=>nn (cI h k z (fun Bf h=>?_) fun Bf h=>?_)))))
           · refine wr (pN 1 k z fun a k=>nn (wp_ret (rt_then (rt_block (rt_then (rt_then (rt_block (rt_then ?_))))))))
             refine fS h k m z z
           refine wp_skip (nm_then ?_)
           refine wp_region_lit (pN 1 k z fun a k=>sv k z (r_fa fa30_6 k z z) fun a k=>sv k z (r_ldb t128 m 0 Aa 9 k z z z z z) fun a k=>pN 1 k z fun a k=>oE h fun Cp Ci h=>sv k z (r_ixa Ac Aq k ts28 z z z) fun a k=>sv k z (r_fa fa97_6 k z z) fun a k=>sv k z (r_lde1 Ac (m.a00 (Enc.rd_lt Ac)) Aq 6 t13 k z z z z) fun a k=>pN 2 k z fun a k=>wpList_nil (nm_block (nm_then ?_)))
           refine wp_region_lit (pN 3 k z fun a k=>nn ?_)
           exact ⟨w64 (At + Av.fCount),w64 (Ar + 1),k.keep [1,5,6] z,m.sel [0] z (by decide),h⟩
         refine wp_exit (ex_then (ex_then (ex_same (nm_then ?_))))
         refine wr (pN 3 k z fun a k=>nn (wp_ret (fS h k m z z)))
       exact ⟨0,0,k.keep [1,5,6] z,m.sel [0] z (by decide),h⟩
     exact ⟨0,k.keep [1,4] z,m.sel [0] z (by decide),h⟩
   exact ⟨0,k.keep [1,3] z,m.sel [0] z (by decide),h⟩
 refine wr (sv k z (r_fa fa30_0 k z z) fun a k=>sv k z (r_ldb t13 m 0 Aa 0 k z z z z z) fun a k=>oE h fun Bj Bp h=>cE k m call142 z z z (c_spec_l1In fu _ _ _  Bp) fun Cb e a k m=>pN 2 k z fun a k=>bsplit (!Bj) (fun Am=>?_) (fun Am=>?_))
 · have h:=bif_t Am h
   refine rB k 11 z Am fun k=>pN 36 k z fun a k=>?_
   have k:=k.keep [1,47] z
   refine nn (wp_cond_true (k.ev z) (wr (pN 1 k z fun a k=>nn (wp_ret (rt_then ?_)))))
   refine fS h k m z z
 have h:=bif_f Am h
 refine rB k 11 z Am fun k=>sv k z (r_fa fa30_1 k z z) fun a k=>sv k z (r_ldB ta25 m 0 Aa 1 k z z z z z z) fun a k=>oE h fun Bo Bu h=>cE k m call157 z z z (c_spec_PalletOk fu (r1.fPallet:Pallet)  Bu) fun By e a k m=>pN 3 k z fun a k=>bsplit (!Bo) (fun Al=>?_) (fun Al=>?_)
 · have h:=bif_t Al h
   refine rB k 17 z Al fun k=>pN 30 k z fun a k=>?_
   have k:=k.keep [1,47] z
   refine nn (wp_cond_true (k.ev z) (wr (pN 1 k z fun a k=>nn (wp_ret (rt_then ?_)))))
   refine fS h k m z z
 have h:=bif_f Al h
 refine rB k 17 z Al fun k=>sv k z (r_fa fa30_2 k z z) fun a k=>sv k z (r_ldb t13 m 0 Aa 5 k z z z z z) fun a k=>oE h fun Bh Bm h=>cE k m call142 z z z (c_spec_l1In fu _ _ _  Bm) fun Co e a k m=>pN 3 k z fun a k=>bsplit (!Bh) (fun Ag=>?_) (fun Ag=>?_)
 · have h:=bif_t Ag h
   refine rB k 23 z Ag fun k=>pN 24 k z fun a k=>?_
   have k:=k.keep [1,47] z
   refine nn (wp_cond_true (k.ev z) (wr (pN 1 k z fun a k=>nn (wp_ret (rt_then ?_)))))
   refine fS h k m z z
 have h:=bif_f Ag h
 refine rB k 23 z Ag fun k=>sv k z (r_fa fa30_3 k z z) fun a k=>sv k z (r_ldb t126 m 0 Aa 6 k z z z z z) fun a k=>sv k z (r_len (α:=Pair) Ad k underlying26 z z) fun a k=>pN 3 k z fun a k=>bsplit (decide (((r1.fPairs.length:Int)) > 16)) (fun Af=>?_) (fun Af=>?_)
 · have h:=bif_t Af h
   refine rB k 29 z Af fun k=>pN 18 k z fun a k=>?_
   have k:=k.keep [1,47] z
   refine nn (wp_cond_true (k.ev z) (wr (pN 1 k z fun a k=>nn (wp_ret (rt_then ?_)))))
   refine fS h k m z z
 have h:=bif_f Af h
 refine rB k 29 z Af fun k=>sv k z (r_fa fa30_4 k z z) fun a k=>sv k z (r_ldb t127 m 0 Aa 7 k z z z z z) fun a k=>sv k z (r_len (α:=Typ) Ah k underlying27 z z) fun a k=>oE h fun Ba Bi h=>cE k m call142 z z z (c_spec_l1In fu _ _ _  Bi) fun Ce e a k m=>pN 3 k z fun a k=>bsplit (!Ba) (fun Ao=>?_) (fun Ao=>?_)
 · have h:=bif_t Ao h
   refine rB k 36 z Ao fun k=>pN 11 k z fun a k=>?_
   have k:=k.keep [1,47] z
   refine nn (wp_cond_true (k.ev z) (wr (pN 1 k z fun a k=>nn (wp_ret (rt_then ?_)))))
   refine fS h k m z z
 have h:=bif_f Ao h
 refine rB k 36 z Ao fun k=>sv k z (r_fa fa30_5 k z z) fun a k=>sv k z (r_ldb t13 m 0 Aa 8 k z z z z z) fun a k=>oE h fun Bv Bn h=>cE k m call158 z z z (c_spec_l2Id fu _  Bn) fun Cu e a k m=>pN 3 k z fun a k=>bsplit (!Bv) (fun Ai=>?_) (fun Ai=>?_)
 · have h:=bif_t Ai h
   refine rB k 42 z Ai fun k=>pN 5 k z fun a k=>?_
   have k:=k.keep [1,47] z
   refine nn (wp_cond_true (k.ev z) (wr (pN 1 k z fun a k=>nn (wp_ret (rt_then ?_)))))
   refine fS h k m z z
 have h:=bif_f Ai h
 refine rB k 42 z Ai fun k=>sv k z (r_fa fa30_6 k z z) fun a k=>sv k z (r_ldb t128 m 0 Aa 9 k z z z z z) fun a k=>sv k z (r_len (α:=Item) Ac k underlying28 z z) fun a k=>pN 2 k z fun a k=>?_
 have k:=k.keep [1,47] z
 refine nn (cI h k z (fun Be h=>?_) fun Be h=>?_)
 · refine wr (pN 1 k z fun a k=>nn (wp_ret (rt_then ?_)))
   refine fS h k m z z
 refine wp_skip (nm_then ?_)
 exact ⟨k.keep [1] z,m.sel [0] z (by decide),h⟩
theorem c_spec_MasterOf (fu:Nat) {w0:World} (r1:Request) {Ah:List Value} {F3:List Nat} (Aj:rd w0 F3 Ah r1) {r:Typ × Bool}
    (h:d_spec_MasterOf fu r1 = some r) :
    Calls Tryz.prog 72 #[.agg Ah.toArray] w0 fun e w=>e = .returned (.tuple #[.agg (Flat.e r.1).toArray,.bool (r.2)]) ∧ Ext [] w0 w:=by
 refine enter (vs:=[_]) func72 z ntmps72 z fun a k=>?_
 have m:=St.start w0
 obtain ⟨v5,F6,v7,F8,v9,Ay,rfl,rfl,Aw,Ab,At⟩:=Aj
 unfold d_spec_MasterOf at h
 refine wr (s_box (cs:=[I r1.fWay,I r1.fPallet.fW,I r1.fPallet.fD,I r1.fPallet.fH,I r1.fPallet.fGram,I r1.fClasses,v5,v7,I r1.fMaster,v9]) m k z z z z z z fun Af Am a k m e Ad=>s_alloc (cs:=[I 0,I 0,I 0,I 0,I 0,I 0,I 0]) m k zeroValue38 z z z z z fun Ag Aq a k m e Ai=>pN 1 k z fun a k=>nn (wp_seq (wr (pN 1 k z fun a k=>nn (wp_block (c_loop (fun n a w=>∃ (Ac:Int),K 27 [(1,.pointer (some (⟨Af,0,none⟩:Addr))),(2,.pointer (some (⟨Ag,0,none⟩:Addr))),(4,I Ac)] a ∧ St [] w0 w [([Af],Am),([Ag],Aq)] ∧ d_spec_MasterOf_L1 fu r1 n Ac = some r) ?_ ?_ fu _ _ ?_))))))
 · rintro a w ⟨_,_,_,h⟩
   exact nS h
 · rintro Ba a Az ⟨Ac,k,m,h⟩
   rw [d_spec_MasterOf_L1_s] at h
   unfold d_spec_MasterOf_L1_B at h
   refine wp_seq (wr (pN 1 k z fun a k=>sv k z (r_fa fa30_4 k z z) fun a k=>sv k z (r_ldb t127 m 0 Ad 7 k z z z z z) fun a k=>sv k z (r_len (α:=Typ) Ab k underlying27 z z) fun a k=>pN 1 k z fun a k=>nn (cI h k z (fun Ap h=>?_) fun Ap h=>?_)))
   · refine wp_skip (nm_then ?_)
     refine wp_seq (wp_block (wp_seq (d_go [] mixo m z fun Ar hMd=>?_)))
     have m:=hMd
     have s:=Ext.refl ([]:List Nat) Ar
     refine dN [2] 1 z k (by kernel_rfl) z s (fun _ _ _ _ _=>id) fun a k=>dt k 0 z (by kernel_rfl) z s (fun _ _ _=>id) (fun w s=>r_fa fa30_4 k z z) fun a k=>dt k 1 z (by kernel_rfl) z s (fun _ _ _=>id) (fun w s=>r_ld1 t127 (r:=[]) (Ad.at ((hMd.step s).a 0 z) 7 1 z z z) k z z) fun a k=>oE h fun Aa Ae h=>dt k 3 z (by kernel_rfl) z s (fun _ _ _=>id) (fun w s=>r_ixa Ab Ae k ts27 z z z) fun a k=>dt k 4 z (by kernel_rfl) z s (fun _ _ _=>id) (fun w s=>r_fa fa38_0 k z z) fun a k=>dt k 5 z (by kernel_rfl) z s (fun _ _ _=>id) (fun w s=>r_lde1 Ab ((hMd.step s).a00 (Enc.rd_lt Ab)) Ae 0 t13 k z z z z) fun a k=>dt k 6 z (by kernel_rfl) z s (fun _ _ _=>id) (fun w s=>r_fa fa30_5 k z z) fun a k=>?_
     refine dt k 7 z (by kernel_rfl) z s (fun _ _ _=>id) (fun w s=>r_ld1 t13 (r:=[]) (Ad.at ((hMd.step s).a 0 z) 8 1 z z z) k z z) fun a k=>dN [8] 1 z k (by kernel_rfl) z s (fun _ _ _ _ _=>id) fun a k=>d_done (by kernel_rfl) ((nm_then ?_))
     refine cI h k z (fun Ak h=>?_) fun Ak h=>?_
     · refine wr (sv k z (r_fa fa30_4 k z z) fun a k=>sv k z (r_ldb t127 m 0 Ad 7 k z z z z z) fun a k=>pN 1 k z fun a k=>oE h fun Av Ax h=>sv k z (r_ixa Ab Ae k ts27 z z z) fun a k=>sv k z (r_lde Ab (m.a00 (Enc.rd_lt Ab)) Ae ta38 k z z) fun a k=>s_stb (cs':=[I Aa.fId,I Aa.fW,I Aa.fH,I Aa.fD,I Aa.fTare,I Aa.fGram,I Aa.fCost]) sizeOf38 m 1 Ai 0 k z z z z z z z z z z z fun Au a k e m Ao=>pN 1 k z fun a k=>nn (wp_ret (rt_block (rt_then (rt_then (rt_block (rt_then ?_)))))))
       cases h
       exact finR2 k z (RV.cA k z ta38 (Ao.at (m.a 1 z) 0 7 z z z) z) (RV.tmp k z) ⟨z,m.ext⟩
     refine wp_skip (nm_block (nm_then ?_))
     refine wp_region_lit (pN 3 k z fun a k=>nn ?_)
     exact ⟨w64 (Ac + 1),k.keep [1,2,4] z,m.sel [0,1] z (by decide),h⟩
   refine wp_exit (ex_then (ex_then (ex_same (nm_then ?_))))
   refine wr (sv k z (r_build bt38 k (cs:=#[I 0,I 0,I 0,I 0,I 0,I 0,I 0]) (ps:=[]) z z (by kernel_rfl)) fun a k=>s_stb (cs':=[I 0,I 0,I 0,I 0,I 0,I 0,I 0]) sizeOf38 m 1 Ai 0 k z z z z z z z z z z z fun As a k e m Al=>pN 1 k z fun a k=>nn (wp_ret ?_))
   cases h
   exact finR2 k z (RV.cA k z ta38 (Al.at (m.a 1 z) 0 7 z z z) z) (RV.tmp k z) ⟨z,m.ext⟩
 exact ⟨0,k.keep [1,2,4] z,m.sel [1,0] z (by decide),h⟩
theorem c_spec_l5Names (fu:Nat) {w0:World} (r1:Request) {As:List Value} {F3:List Nat} (Ax:rd w0 F3 As r1) {r:Bool}
    (h:d_spec_l5Names fu r1 = some r) :
    Calls Tryz.prog 70 #[.agg As.toArray] w0 fun e w=>e = .returned (.bool (r)) ∧ Ext [] w0 w:=by
 refine enter (vs:=[_]) func70 z ntmps70 z fun a k=>?_
 have m:=St.start w0
 obtain ⟨v5,F6,v7,F8,v9,Cc,rfl,rfl,Ad,Ae,Ab⟩:=Ax
 unfold d_spec_l5Names at h
 refine wr (s_box (cs:=[I r1.fWay,I r1.fPallet.fW,I r1.fPallet.fD,I r1.fPallet.fH,I r1.fPallet.fGram,I r1.fClasses,v5,v7,I r1.fMaster,v9]) m k z z z z z z fun Ac Ai a k m e Aa=>pN 1 k z fun a k=>nn (wp_seq (wr (pN 1 k z fun a k=>nn (wp_block (c_loop (fun n a w=>∃ (Aj:Int),K 102 [(1,.pointer (some (⟨Ac,0,none⟩:Addr))),(3,I Aj)] a ∧ St [] w0 w [([Ac],Ai)] ∧ d_spec_l5Names_L5 fu r1 n Aj = some r) ?_ ?_ fu _ _ ?_))))))
 · rintro a w ⟨_,_,_,h⟩
   exact nS h
 · rintro Aw a Bx ⟨Aj,k,m,h⟩
   rw [d_spec_l5Names_L5_s] at h
   unfold d_spec_l5Names_L5_B at h
   refine wp_seq (wr (pN 1 k z fun a k=>sv k z (r_fa fa30_4 k z z) fun a k=>sv k z (r_ldb t127 m 0 Aa 7 k z z z z z) fun a k=>sv k z (r_len (α:=Typ) Ae k underlying27 z z) fun a k=>pN 1 k z fun a k=>nn (cI h k z (fun Bi h=>?_) fun Bi h=>?_)))
   · refine wp_skip (nm_then ?_)
     refine wp_seq (wp_block (wr (pN 1 k z fun a k=>nn (wp_block (c_loop (fun n a w=>∃ (Al:Int),K 102 [(1,.pointer (some (⟨Ac,0,none⟩:Addr))),(3,I Aj),(4,I Al)] a ∧ St [] w0 w [([Ac],Ai)] ∧ d_spec_l5Names_L1 fu (d_spec_l5Names_L5 fu r1 Aw) r1 Aj n Al = some r) ?_ ?_ fu _ _ ?_)))))
     · rintro a w ⟨_,_,_,h⟩
       exact nS h
     · rintro Bu a Cg ⟨Al,k,m,h⟩
       rw [d_spec_l5Names_L1_s] at h
       unfold d_spec_l5Names_L1_B at h
       refine wp_seq (wr (pN 3 k z fun a k=>nn (cI h k z (fun Be h=>?_) fun Be h=>?_)))
       · refine wp_skip (nm_then ?_)
         refine wp_seq (wp_block (wp_seq (d_go [] mixo m z fun Bf hMd=>?_)))
         have m:=hMd
         have s:=Ext.refl ([]:List Nat) Bf
         refine dN [2,8] 2 z k (by kernel_rfl) z s (fun _ _ _ _ _=>id) fun a k=>dt k 0 z (by kernel_rfl) z s (fun _ _ _=>id) (fun w s=>r_fa fa30_4 k z z) fun a k=>dt k 1 z (by kernel_rfl) z s (fun _ _ _=>id) (fun w s=>r_ld1 t127 (r:=[]) (Aa.at ((hMd.step s).a 0 z) 7 1 z z z) k z z) fun a k=>oE h fun Cd At h=>dt k 3 z (by kernel_rfl) z s (fun _ _ _=>id) (fun w s=>r_ixa Ae At k ts27 z z z) fun a k=>dt k 4 z (by kernel_rfl) z s (fun _ _ _=>id) (fun w s=>r_fa fa38_0 k z z) fun a k=>dt k 5 z (by kernel_rfl) z s (fun _ _ _=>id) (fun w s=>r_lde1 Ae ((hMd.step s).a00 (Enc.rd_lt Ae)) At 0 t13 k z z z z) fun a k=>dt k 6 z (by kernel_rfl) z s (fun _ _ _=>id) (fun w s=>r_fa fa30_4 k z z) fun a k=>?_
         refine dt k 7 z (by kernel_rfl) z s (fun _ _ _=>id) (fun w s=>r_ld1 t127 (r:=[]) (Aa.at ((hMd.step s).a 0 z) 7 1 z z z) k z z) fun a k=>oE h fun Bs Ar h=>dt k 9 z (by kernel_rfl) z s (fun _ _ _=>id) (fun w s=>r_ixa Ae Ar k ts27 z z z) fun a k=>dt k 10 z (by kernel_rfl) z s (fun _ _ _=>id) (fun w s=>r_fa fa38_0 k z z) fun a k=>dt k 11 z (by kernel_rfl) z s (fun _ _ _=>id) (fun w s=>r_lde1 Ae ((hMd.step s).a00 (Enc.rd_lt Ae)) Ar 0 t13 k z z z z) fun a k=>dN [12] 1 z k (by kernel_rfl) z s (fun _ _ _ _ _=>id) fun a k=>d_done (by kernel_rfl) ((nm_then ?_))
         refine cI h k z (fun Av h=>?_) fun Av h=>?_
         · refine wr (pN 1 k z fun a k=>nn (wp_ret (rt_block (rt_then (rt_then (rt_block (rt_block (rt_then (rt_then (rt_block (rt_then ?_)))))))))))
           refine fS h k m z z
         refine wp_skip (nm_block (nm_then ?_))
         refine wp_region_lit (pN 3 k z fun a k=>nn ?_)
         exact ⟨w64 (Al + 1),k.keep [1,3,4] z,m.sel [0] z (by decide),h⟩
       refine wp_exit (ex_then (ex_then (ex_same (nm_block (nm_then ?_)))))
       refine wp_region_lit (pN 3 k z fun a k=>nn ?_)
       exact ⟨w64 (Aj + 1),k.keep [1,3] z,m.sel [0] z (by decide),h⟩
     exact ⟨0,k.keep [1,3,4] z,m.sel [0] z (by decide),h⟩
   refine wp_exit (ex_then (ex_then (ex_same (nm_then ?_))))
   refine wp_seq (wr (pN 1 k z fun a k=>nn (wp_block (c_loop (fun n a w=>∃ (Ag:Int),K 102 [(1,.pointer (some (⟨Ac,0,none⟩:Addr))),(5,I Ag)] a ∧ St [] w0 w [([Ac],Ai)] ∧ d_spec_l5Names_L4 fu r1 n Ag = some r) ?_ ?_ fu _ _ ?_))))
   · rintro a w ⟨_,_,_,h⟩
     exact nS h
   · rintro Az a Bw ⟨Ag,k,m,h⟩
     rw [d_spec_l5Names_L4_s] at h
     unfold d_spec_l5Names_L4_B at h
     refine wp_seq (wr (pN 1 k z fun a k=>sv k z (r_fa fa30_6 k z z) fun a k=>sv k z (r_ldb t128 m 0 Aa 9 k z z z z z) fun a k=>sv k z (r_len (α:=Item) Ab k underlying28 z z) fun a k=>pN 1 k z fun a k=>nn (cI h k z (fun Bn h=>?_) fun Bn h=>?_)))
     · refine wp_skip (nm_then ?_)
       refine wp_seq (wp_block (wp_seq (wp_seq (d_go [] mixo m z fun Bb hMd=>?_))))
       have m:=hMd
       have s:=Ext.refl ([]:List Nat) Bb
       refine dN [2] 1 z k (by kernel_rfl) z s (fun _ _ _ _ _=>id) fun a k=>dt k 0 z (by kernel_rfl) z s (fun _ _ _=>id) (fun w s=>r_fa fa30_6 k z z) fun a k=>dt k 1 z (by kernel_rfl) z s (fun _ _ _=>id) (fun w s=>r_ld1 t128 (r:=[]) (Aa.at ((hMd.step s).a 0 z) 9 1 z z z) k z z) fun a k=>oE h fun Bq Aq h=>dt k 3 z (by kernel_rfl) z s (fun _ _ _=>id) (fun w s=>r_ixa Ab Aq k ts28 z z z) fun a k=>dt k 4 z (by kernel_rfl) z s (fun _ _ _=>id) (fun w s=>r_fa fa97_5 k z z) fun a k=>dt k 5 z (by kernel_rfl) z s (fun _ _ _=>id) (fun w s=>r_lde1 Ab ((hMd.step s).a00 (Enc.rd_lt Ab)) Aq 5 t13 k z z z z) fun a k=>dt k 6 z (by kernel_rfl) z s (fun _ _ _=>id) (fun w s=>r_fa fa30_2 k z z) fun a k=>?_
       refine dt k 7 z (by kernel_rfl) z s (fun _ _ _=>id) (fun w s=>r_ld1 t13 (r:=[]) (Aa.at ((hMd.step s).a 0 z) 5 1 z z z) k z z) fun a k=>dN [8] 1 z k (by kernel_rfl) z s (fun _ _ _ _ _=>id) fun a k=>d_done (by kernel_rfl) ((nm_then ?_))
       refine cI h k z (fun Bh h=>?_) fun Bh h=>?_
       · refine wr (pN 1 k z fun a k=>nn (wp_ret (rt_then (rt_block (rt_then (rt_then (rt_block (rt_then ?_))))))))
         refine fS h k m z z
       refine wp_skip (nm_then ?_)
       refine wr (pN 1 k z fun a k=>nn (wp_block (c_loop (fun n a w=>∃ (Am:Int),K 102 [(1,.pointer (some (⟨Ac,0,none⟩:Addr))),(5,I Ag),(6,I Am)] a ∧ St [] w0 w [([Ac],Ai)] ∧ d_spec_l5Names_L2 fu (d_spec_l5Names_L4 fu r1 Az) r1 Ag n Am = some r) ?_ ?_ fu _ _ ?_)))
       · rintro a w ⟨_,_,_,h⟩
         exact nS h
       · rintro Br a By ⟨Am,k,m,h⟩
         rw [d_spec_l5Names_L2_s] at h
         unfold d_spec_l5Names_L2_B at h
         refine wp_seq (wr (pN 3 k z fun a k=>nn (cI h k z (fun Ba h=>?_) fun Ba h=>?_)))
         · refine wp_skip (nm_then ?_)
           refine wp_seq (wp_block (wp_seq (d_go [] mixo m z fun Ay hMd=>?_)))
           have m:=hMd
           have s:=Ext.refl ([]:List Nat) Ay
           refine dN [2,8] 2 z k (by kernel_rfl) z s (fun _ _ _ _ _=>id) fun a k=>dt k 0 z (by kernel_rfl) z s (fun _ _ _=>id) (fun w s=>r_fa fa30_6 k z z) fun a k=>dt k 1 z (by kernel_rfl) z s (fun _ _ _=>id) (fun w s=>r_ld1 t128 (r:=[]) (Aa.at ((hMd.step s).a 0 z) 9 1 z z z) k z z) fun a k=>oE h fun Bz Ap h=>dt k 3 z (by kernel_rfl) z s (fun _ _ _=>id) (fun w s=>r_ixa Ab Ap k ts28 z z z) fun a k=>dt k 4 z (by kernel_rfl) z s (fun _ _ _=>id) (fun w s=>r_fa fa97_0 k z z) fun a k=>dt k 5 z (by kernel_rfl) z s (fun _ _ _=>id) (fun w s=>r_lde1 Ab ((hMd.step s).a00 (Enc.rd_lt Ab)) Ap 0 t13 k z z z z) fun a k=>dt k 6 z (by kernel_rfl) z s (fun _ _ _=>id) (fun w s=>r_fa fa30_6 k z z) fun a k=>?_
           refine dt k 7 z (by kernel_rfl) z s (fun _ _ _=>id) (fun w s=>r_ld1 t128 (r:=[]) (Aa.at ((hMd.step s).a 0 z) 9 1 z z z) k z z) fun a k=>oE h fun Cb Au h=>dt k 9 z (by kernel_rfl) z s (fun _ _ _=>id) (fun w s=>r_ixa Ab Au k ts28 z z z) fun a k=>dt k 10 z (by kernel_rfl) z s (fun _ _ _=>id) (fun w s=>r_fa fa97_0 k z z) fun a k=>dt k 11 z (by kernel_rfl) z s (fun _ _ _=>id) (fun w s=>r_lde1 Ab ((hMd.step s).a00 (Enc.rd_lt Ab)) Au 0 t13 k z z z z) fun a k=>dN [12] 1 z k (by kernel_rfl) z s (fun _ _ _ _ _=>id) fun a k=>d_done (by kernel_rfl) ((nm_then ?_))
           refine cI h k z (fun Bl h=>?_) fun Bl h=>?_
           · refine wr (pN 1 k z fun a k=>nn (wp_ret (rt_block (rt_then (rt_then (rt_block (rt_block (rt_then (rt_then (rt_block (rt_then ?_)))))))))))
             refine fS h k m z z
           refine wp_skip (nm_block (nm_then ?_))
           refine wp_region_lit (pN 3 k z fun a k=>nn ?_)
           exact ⟨w64 (Am + 1),k.keep [1,5,6] z,m.sel [0] z (by decide),h⟩
         refine wp_exit (ex_then (ex_then (ex_same (nm_block (nm_then ?_)))))
         refine wp_region_lit (pN 3 k z fun a k=>nn ?_)
         exact ⟨w64 (Ag + 1),k.keep [1,5] z,m.sel [0] z (by decide),h⟩
       exact ⟨0,k.keep [1,5,6] z,m.sel [0] z (by decide),h⟩
     refine wp_exit (ex_then (ex_then (ex_same (nm_then ?_))))
     refine wp_seq (wr (pN 1 k z fun a k=>nn (wp_block (c_loop (fun n a w=>∃ (Ah:Int),K 102 [(1,.pointer (some (⟨Ac,0,none⟩:Addr))),(7,I Ah)] a ∧ St [] w0 w [([Ac],Ai)] ∧ d_spec_l5Names_L3 fu r1 n Ah = some r) ?_ ?_ fu _ _ ?_))))
     · rintro a w ⟨_,_,_,h⟩
       exact nS h
     · rintro Bo a Cf ⟨Ah,k,m,h⟩
       rw [d_spec_l5Names_L3_s] at h
       unfold d_spec_l5Names_L3_B at h
       refine wp_seq (wr (pN 1 k z fun a k=>sv k z (r_fa fa30_3 k z z) fun a k=>sv k z (r_ldb t126 m 0 Aa 6 k z z z z z) fun a k=>sv k z (r_len (α:=Pair) Ad k underlying26 z z) fun a k=>pN 1 k z fun a k=>nn (cI h k z (fun Bk h=>?_) fun Bk h=>?_)))
       · refine wp_skip (nm_then ?_)
         refine c_cut (fun a w=>K 102 [(1,.pointer (some (⟨Ac,0,none⟩:Addr))),(7,I Ah)] a ∧ St [] w0 w [([Ac],Ai)] ∧ d_spec_l5Names_J1 fu (d_spec_l5Names_L3 fu r1 Bo) Ah = some r) ?_ ?_
         · rintro a Ch ⟨k,m,h⟩
           unfold d_spec_l5Names_J1 at h
           refine wp_region_lit (pN 3 k z fun a k=>nn ?_)
           exact ⟨w64 (Ah + 1),k.keep [1,7] z,m.sel [0] z (by decide),h⟩
         refine wp_block (wp_seq (d_go [] mixo m z fun Bg hMd=>?_))
         have m:=hMd
         have s:=Ext.refl ([]:List Nat) Bg
         refine dN [2] 1 z k (by kernel_rfl) z s (fun _ _ _ _ _=>id) fun a k=>dt k 0 z (by kernel_rfl) z s (fun _ _ _=>id) (fun w s=>r_fa fa30_3 k z z) fun a k=>dt k 1 z (by kernel_rfl) z s (fun _ _ _=>id) (fun w s=>r_ld1 t126 (r:=[]) (Aa.at ((hMd.step s).a 0 z) 6 1 z z z) k z z) fun a k=>oE h fun Bm Ao h=>dt k 3 z (by kernel_rfl) z s (fun _ _ _=>id) (fun w s=>r_ixa Ad Ao k ts26 z z z) fun a k=>dt k 4 z (by kernel_rfl) z s (fun _ _ _=>id) (fun w s=>r_fa fa158_0 k z z) fun a k=>dt k 5 z (by kernel_rfl) z s (fun _ _ _=>id) (fun w s=>r_lde1 Ad ((hMd.step s).a00 (Enc.rd_lt Ad)) Ao 0 t13 k z z z z) fun a k=>dt k 6 z (by kernel_rfl) z s (fun _ _ _=>id) (fun w s=>r_fa fa30_2 k z z) fun a k=>?_
         refine dt k 7 z (by kernel_rfl) z s (fun _ _ _=>id) (fun w s=>r_ld1 t13 (r:=[]) (Aa.at ((hMd.step s).a 0 z) 5 1 z z z) k z z) fun a k=>dN [8,9] 2 z k (by kernel_rfl) z s (fun _ _ _ _ _=>id) fun a k=>bsplit (decide (Bm.fA ≥ r1.fClasses)) (fun Ak=>?_) (fun Ak=>?_)
         · have h:=bif_t Ak h
           refine rB k 85 z Ak fun k=>dN [10,11,12,13,14,15,16,17,18,19] 10 z k (by kernel_rfl) z s (fun _ _ _ _ _=>id) fun a k=>d_done (by kernel_rfl) ?_
           have k:=k.keep [1,7,95] z
           refine (nm_then ?_)
           refine wp_cond_true (k.ev z) (wr (pN 1 k z fun a k=>nn (wp_ret (rt_block (rt_then (rt_then (rt_block (rt_then ?_))))))))
           refine fS h k m z z
         have h:=bif_f Ak h
         refine rB k 85 z Ak fun k=>dN [12] 1 z k (by kernel_rfl) z s (fun _ _ _ _ _=>id) fun a k=>dt k 10 z (by kernel_rfl) z s (fun _ _ _=>id) (fun w s=>r_fa fa30_3 k z z) fun a k=>dt k 11 z (by kernel_rfl) z s (fun _ _ _=>id) (fun w s=>r_ld1 t126 (r:=[]) (Aa.at ((hMd.step s).a 0 z) 6 1 z z z) k z z) fun a k=>oE h fun Bv Bt h=>dt k 13 z (by kernel_rfl) z s (fun _ _ _=>id) (fun w s=>r_ixa Ad Ao k ts26 z z z) fun a k=>dt k 14 z (by kernel_rfl) z s (fun _ _ _=>id) (fun w s=>r_fa fa158_1 k z z) fun a k=>dt k 15 z (by kernel_rfl) z s (fun _ _ _=>id) (fun w s=>r_lde1 Ad ((hMd.step s).a00 (Enc.rd_lt Ad)) Ao 1 t13 k z z z z) fun a k=>dt k 16 z (by kernel_rfl) z s (fun _ _ _=>id) (fun w s=>r_fa fa30_2 k z z) fun a k=>?_
         refine dt k 17 z (by kernel_rfl) z s (fun _ _ _=>id) (fun w s=>r_ld1 t13 (r:=[]) (Aa.at ((hMd.step s).a 0 z) 5 1 z z z) k z z) fun a k=>dN [18,19] 2 z k (by kernel_rfl) z s (fun _ _ _ _ _=>id) fun a k=>d_done (by kernel_rfl) ?_
         have k:=k.keep [1,7,95] z
         refine (nm_then ?_)
         refine cI h k z (fun Bd h=>?_) fun Bd h=>?_
         · refine wr (pN 1 k z fun a k=>nn (wp_ret (rt_block (rt_then (rt_then (rt_block (rt_then ?_)))))))
           refine fS h k m z z
         refine wp_skip (nm_block (nm_then ?_))
         exact ⟨k.keep [1,7] z,m.sel [0] z (by decide),h⟩
       refine wp_exit (ex_then (ex_then (ex_same (nm_then ?_))))
       refine wr (sv k z (r_ldB ta30 m 0 Aa 0 k z z z z z z) fun a k=>oE h fun Af Bc h=>cE k m call72 z z z (c_spec_MasterOf fu _ (show rd _ _ [I r1.fWay,I r1.fPallet.fW,I r1.fPallet.fD,I r1.fPallet.fH,I r1.fPallet.fGram,I r1.fClasses,v5,v7,I r1.fMaster,v9] (r1:Request) from ⟨_,_,_,_,_,_,z,z,(Enc.rd_agr Ad (m.a00 (Enc.rd_lt Ad))),(Enc.rd_agr Ae (m.a00 (Enc.rd_lt Ae))),(Enc.rd_agr Ab (m.a00 (Enc.rd_lt Ab)))⟩) Bc) fun Bp e a k m=>pN 3 k z fun a k=>s_alloc (cs:=[I 0,I 0,I 0,I 0,I 0,I 0,I 0]) m k zeroValue38 z z z z z fun Ca Ci a k m e Bj=>?_)
       refine s_stb (cs':=[I Af.1.fId,I Af.1.fW,I Af.1.fH,I Af.1.fD,I Af.1.fTare,I Af.1.fGram,I Af.1.fCost]) sizeOf38 m 0 Bj 0 k z z z z z z z z z z z fun Ce a k e m Cj=>pN 1 k z fun a k=>nn (wr (pN 2 k z fun a k=>nn (wp_ret (fS h k m z z))))
     exact ⟨0,k.keep [1,7] z,m.sel [0] z (by decide),h⟩
   exact ⟨0,k.keep [1,5] z,m.sel [0] z (by decide),h⟩
 exact ⟨0,k.keep [1,3] z,m.sel [0] z (by decide),h⟩
theorem c_spec_Beside (fu:Nat) {w0:World} (Ae:List Pair) (a5:Int) (b6:Int) {v2:Value} {F3:List Nat} (Aa:rd w0 F3 [v2] Ae) {r:Bool}
    (h:d_spec_Beside fu Ae a5 b6 = some r) :
    Calls Tryz.prog 161 #[v2,I a5,I b6] w0 fun e w=>e = .returned (.bool (r)) ∧ Ext [] w0 w:=by
 refine enter (vs:=[_,_,_]) func161 z ntmps161 z fun a k=>?_
 have m:=St.start w0
 unfold d_spec_Beside at h
 refine wr (pN 1 k z fun a k=>nn (wp_seq (wr (pN 1 k z fun a k=>nn (wp_block (c_loop (fun n a w=>∃ (Ab:Int),K 30 [(0,v2),(1,I a5),(2,I b6),(7,I Ab)] a ∧ St [] w0 w [] ∧ d_spec_Beside_L1 fu Ae a5 b6 n Ab = some r) ?_ ?_ fu _ _ ?_))))))
 · rintro a w ⟨_,_,_,h⟩
   exact nS h
 · rintro Ah a Aj ⟨Ab,k,m,h⟩
   rw [d_spec_Beside_L1_s] at h
   unfold d_spec_Beside_L1_B at h
   refine wp_seq (wr (pN 2 k z fun a k=>sv k z (r_len (α:=Pair) Aa k underlying26 z z) fun a k=>pN 1 k z fun a k=>nn (cI h k z (fun Ag h=>?_) fun Ag h=>?_)))
   · refine wp_skip (nm_then ?_)
     refine c_cut (fun a w=>K 30 [(0,v2),(1,I a5),(2,I b6),(7,I Ab)] a ∧ St [] w0 w [] ∧ d_spec_Beside_J1 fu (d_spec_Beside_L1 fu Ae a5 b6 Ah) Ab = some r) ?_ ?_
     · rintro a Ak ⟨k,m,h⟩
       unfold d_spec_Beside_J1 at h
       refine wp_region_lit (pN 3 k z fun a k=>nn ?_)
       exact ⟨w64 (Ab + 1),k.keep [0,1,2,7] z,m.sel [] z (by decide),h⟩
     refine wp_block (wr (pN 2 k z fun a k=>oE h fun Af Ad h=>sv k z (r_ixa Aa Ad k ts26 z z z) fun a k=>sv k z (r_fa fa158_0 k z z) fun a k=>sv k z (r_lde1 Aa (m.a00 (Enc.rd_lt Aa)) Ad 0 t13 k z z z z) fun a k=>pN 3 k z fun a k=>bsplit (Af.fA == a5) (fun Ac=>?_) (fun Ac=>?_)))
     · have h:=bif_t Ac h
       refine rB k 21 z Ac fun k=>pN 2 k z fun a k=>oE h fun Am Al h=>sv k z (r_ixa Aa Ad k ts26 z z z) fun a k=>sv k z (r_fa fa158_1 k z z) fun a k=>sv k z (r_lde1 Aa (m.a00 (Enc.rd_lt Aa)) Ad 1 t13 k z z z z) fun a k=>pN 3 k z fun a k=>nn (cI h k z (fun Ai h=>?_) fun Ai h=>?_)
       · refine wr (pN 1 k z fun a k=>nn (wp_ret (rt_block (rt_then (rt_then (rt_block (rt_then ?_)))))))
         refine fS h k m z z
       refine wp_skip (nm_block (nm_then ?_))
       exact ⟨k.keep [0,1,2,7] z,m.sel [] z (by decide),h⟩
     have h:=bif_f Ac h
     refine rB k 21 z Ac fun k=>pN 8 k z fun a k=>nn (wp_cond_false (k.ev z) (wp_skip (nm_block (nm_then ?_))))
     exact ⟨k.keep [0,1,2,7] z,m.sel [] z (by decide),h⟩
   refine wp_exit (ex_then (ex_then (ex_same (nm_then ?_))))
   refine wr (pN 1 k z fun a k=>nn (wp_ret (fS h k m z z)))
 exact ⟨0,k.keep [0,1,2,7] z,m.sel [] z (by decide),h⟩
theorem c_spec_TableOk (fu:Nat) {w0:World} (Ad:List Pair) (Ab:Int) {v2:Value} {F3:List Nat} (Aa:rd w0 F3 [v2] Ad) {r:Bool}
    (h:d_spec_TableOk fu Ad Ab = some r) :
    Calls Tryz.prog 71 #[v2,I Ab] w0 fun e w=>e = .returned (.bool (r)) ∧ Ext [] w0 w:=by
 refine enter (vs:=[_,_]) func71 z ntmps71 z fun a k=>?_
 have m:=St.start w0
 unfold d_spec_TableOk at h
 refine wr (pN 1 k z fun a k=>nn (wp_seq (wr (pN 1 k z fun a k=>oE h fun x6 Ar h=>cE k m call142 z z z (c_spec_l1In fu _ _ _  Ar) fun w9 e a k m=>pN 1 k z fun a k=>nn (cI h k z (fun Au h=>?_) fun Au h=>?_)))))
 · refine wr (pN 1 k z fun a k=>nn (wp_ret (rt_then ?_)))
   refine fS h k m z z
 refine wp_skip (nm_then ?_)
 refine wp_seq (wr (pN 1 k z fun a k=>nn (wp_block (c_loop (fun n a w=>∃ (Ac:Int),K 41 [(0,v2),(1,I Ab),(5,I Ac)] a ∧ St [] w0 w [] ∧ d_spec_TableOk_L2 fu Ad Ab n Ac = some r) ?_ ?_ fu _ _ ?_))))
 · rintro a w ⟨_,_,_,h⟩
   exact nS h
 · rintro Ah a Aw ⟨Ac,k,m,h⟩
   rw [d_spec_TableOk_L2_s] at h
   unfold d_spec_TableOk_L2_B at h
   refine wp_seq (wr (pN 3 k z fun a k=>nn (cI h k z (fun Al h=>?_) fun Al h=>?_)))
   · refine wp_skip (nm_then ?_)
     refine wp_seq (wp_block (wr (pN 1 k z fun a k=>nn (wp_block (c_loop (fun n a w=>∃ (Ae:Int),K 41 [(0,v2),(1,I Ab),(5,I Ac),(6,I Ae)] a ∧ St [] w0 w [] ∧ d_spec_TableOk_L1 fu (d_spec_TableOk_L2 fu Ad Ab Ah) Ad Ab Ac n Ae = some r) ?_ ?_ fu _ _ ?_)))))
     · rintro a w ⟨_,_,_,h⟩
       exact nS h
     · rintro At a Bg ⟨Ae,k,m,h⟩
       rw [d_spec_TableOk_L1_s] at h
       unfold d_spec_TableOk_L1_B at h
       refine wp_seq (wr (pN 3 k z fun a k=>nn (cI h k z (fun Ap h=>?_) fun Ap h=>?_)))
       · refine wp_skip (nm_then ?_)
         refine c_cut (fun a w=>K 41 [(0,v2),(1,I Ab),(5,I Ac),(6,I Ae)] a ∧ St [] w0 w [] ∧ d_spec_TableOk_J1 fu (d_spec_TableOk_L1 fu (d_spec_TableOk_L2 fu Ad Ab Ah) Ad Ab Ac At) Ae = some r) ?_ ?_
         · rintro a Ax ⟨k,m,h⟩
           unfold d_spec_TableOk_J1 at h
           refine wp_region_lit (pN 3 k z fun a k=>nn ?_)
           exact ⟨w64 (Ae + 1),k.keep [0,1,5,6] z,m.sel [] z (by decide),h⟩
         refine wp_block (wr (pN 4 k z fun a k=>bsplit (Ac == Ae) (fun Af=>?_) (fun Af=>?_)))
         · have h:=bif_t Af h
           refine rB k 23 z Af fun k=>pN 3 k z fun a k=>oE h fun As Ao h=>cE k m call161 z z z (c_spec_Beside fu _ _ _ (Enc.rd_agr Aa (m.a00 (Enc.rd_lt Aa))) Ao) fun Az e a k m=>pN 3 k z fun a k=>bsplit (!As) (fun Ag=>?_) (fun Ag=>?_)
           · have h:=bif_t Ag h
             refine rB k 30 z Ag fun k=>pN 10 k z fun a k=>nn (wp_cond_true (k.ev z) (wr (pN 1 k z fun a k=>?_)))
             have k:=k.keep [4] z
             refine nn (wp_ret (rt_block (rt_then (rt_then (rt_block (rt_block (rt_then (rt_then (rt_block (rt_then ?_))))))))))
             refine fS h k m z z
           have h:=bif_f Ag h
           refine rB k 30 z Ag fun k=>pN 3 k z fun a k=>oE h fun Bb Ak h=>cE k m call161 z z z (c_spec_Beside fu _ _ _ (Enc.rd_agr Aa (m.a00 (Enc.rd_lt Aa))) Ak) fun Ba e a k m=>pN 3 k z fun a k=>oE h fun Bc Am h=>cE k m call161 z z z (c_spec_Beside fu _ _ _ (Enc.rd_agr Aa (m.a00 (Enc.rd_lt Aa))) Am) fun Be e a k m=>sv k z (r_neb k underlying4 z z z) fun a k=>pN 1 k z fun a k=>nn (cI h k z (fun Aj h=>?_) fun Aj h=>?_)
           · refine wr (pN 1 k z fun a k=>?_)
             have k:=k.keep [4] z
             refine nn (wp_ret (rt_block (rt_then (rt_then (rt_block (rt_block (rt_then (rt_then (rt_block (rt_then ?_))))))))))
             refine fS h k m z z
           refine wp_skip (nm_block (nm_then ?_))
           exact ⟨k.keep [0,1,5,6] z,m.sel [] z (by decide),h⟩
         have h:=bif_f Af h
         refine rB k 23 z Af fun k=>pN 10 k z fun a k=>oE h fun Bf Aq h=>cE k m call161 z z z (c_spec_Beside fu _ _ _ (Enc.rd_agr Aa (m.a00 (Enc.rd_lt Aa))) Aq) fun Ay e a k m=>pN 3 k z fun a k=>oE h fun Bd Ai h=>cE k m call161 z z z (c_spec_Beside fu _ _ _ (Enc.rd_agr Aa (m.a00 (Enc.rd_lt Aa))) Ai) fun Bh e a k m=>sv k z (r_neb k underlying4 z z z) fun a k=>pN 1 k z fun a k=>nn (cI h k z (fun Av h=>?_) fun Av h=>?_)
         · refine wr (pN 1 k z fun a k=>?_)
           have k:=k.keep [4] z
           refine nn (wp_ret (rt_block (rt_then (rt_then (rt_block (rt_block (rt_then (rt_then (rt_block (rt_then ?_))))))))))
           refine fS h k m z z
         refine wp_skip (nm_block (nm_then ?_))
         exact ⟨k.keep [0,1,5,6] z,m.sel [] z (by decide),h⟩
       refine wp_exit (ex_then (ex_then (ex_same (nm_block (nm_then ?_)))))
       refine wp_region_lit (pN 3 k z fun a k=>nn ?_)
       exact ⟨w64 (Ac + 1),k.keep [0,1,5] z,m.sel [] z (by decide),h⟩
     exact ⟨0,k.keep [0,1,5,6] z,m.sel [] z (by decide),h⟩
   refine wp_exit (ex_then (ex_then (ex_same (nm_then ?_))))
   refine wr (pN 1 k z fun a k=>nn (wp_ret (fS h k m z z)))
 exact ⟨0,k.keep [0,1,5] z,m.sel [] z (by decide),h⟩
theorem c_spec_l1Places (fu:Nat) {w0:World} (n1:Int)  {r:(List Int)}
    (h:d_spec_l1Places fu n1 = some r) :
    Calls Tryz.prog 173 #[I n1] w0 fun e w=>∃ (v0:Value) (G0:List Nat),e = .returned (v0) ∧ Ext [] w0 w ∧ ow w G0 [v0] r ∧ (∀ b ∈ G0,w0.heap.size ≤ b):=by
 refine enter (vs:=[_]) func173 z ntmps173 z fun a k=>?_
 have m:=St.start w0
 unfold d_spec_l1Places at h
 refine wr (pN 1 k z fun a k=>nn (wr (s_bs (cs:=[]) (ps:=[]) te31 m k z z z z z z z (by decide) z (by exact (List.forall_mem_nil _)) fun g2 w3 e5 a k m e Aq=>?_)))
 have Aj:=ow_bx Aq ([]:List Int) z z z
 refine pN 1 k z fun a k=>nn (wp_seq (wr (pN 1 k z fun a k=>nn (wp_block (c_loop (fun n a w=>∃ (Ad:List Int) (Ac:Value) (Ab:List Nat) (Ae:World) (Aa:Int),K 16 [(0,I n1),(3,Ac),(4,I Aa)] a ∧ St [] w0 w [(Ab,Ae)] ∧ ow Ae Ab [Ac] Ad ∧ d_spec_l1Places_L1 fu n1 n Ad Aa = some r) ?_ ?_ fu _ _ ?_)))))
 · rintro a w ⟨_,_,_,_,_,_,_,_,h⟩
   exact nS h
 · rintro Av a Aw ⟨Ad,Ac,Ab,Ae,Aa,k,m,Af,h⟩
   rw [d_spec_l1Places_L1_s] at h
   unfold d_spec_l1Places_L1_B at h
   refine wp_seq (wr (pN 3 k z fun a k=>nn (cI h k z (fun Ar h=>?_) fun Ar h=>?_)))
   · refine wp_skip (nm_then ?_)
     refine wp_seq (wp_block (wp_region_lit (pN 2 k z fun a k=>s_bs (cs:=[I Aa]) (ps:=[(0,.tmp 12)]) te31 m k z z z z z z z (by decide) z (by exact (List.forall_mem_cons.2 ⟨z,(List.forall_mem_nil _)⟩)) fun At As Au a k m e Ai=>?_)))
     have Ak:=ow_bx Ai ([Aa]:List Int) z z z
     refine oE h fun Ah Ag h=>s_appF Ag te31 z m 1 Af (News.rd (Enc.rd_agr (Enc.ow_rd Ak) (m.a 0 z))) z z k z z z z z z z fun Ap Ao Al a k e m Am=>pN 1 k z fun a k=>wpList_nil (nm_block (nm_then ?_))
     refine wp_region_lit (pN 3 k z fun a k=>nn ?_)
     exact ⟨Ah,Ap,Ao,Al,w64 (Aa + 1),k.keep [0,3,4] z,m.sel [1] z (by decide),Am,h⟩
   refine wp_exit (ex_then (ex_then (ex_same (nm_then ?_))))
   refine wr (pN 2 k z fun a k=>nn (wp_ret ?_))
   cases h
   exact finR1 k z (RV.tmp k z) ⟨_,Ab,z,m.ext,(Enc.ow_agr Af (m.a 0 z)),(m.fresh 0 z)⟩
 exact ⟨([]:List Int),(.slice (some ⟨g2,0,none⟩) 0 0),[g2],w3,0,k.keep [0,3,4] z,m.sel [0] z (by decide),Aj,h⟩
theorem c_spec_l1Merge_R (fu:Nat):∀ (nr:Nat) {w0:World} (Ap:List Int) (Bf:List Int) (Ai:Bool) {v2:Value} {F3:List Nat} (Aa:rd w0 F3 [v2] Ap) {v6:Value} {F7:List Nat} (Ak:rd w0 F7 [v6] Bf) {r:(List Int)} (h:d_spec_l1Merge_R fu nr Ap Bf Ai = some r),Calls Tryz.prog 254 #[v2,v6,.bool (Ai)] w0 fun e w=>∃ (v0:Value) (G0:List Nat),e = .returned (v0) ∧ Ext [] w0 w ∧ ow w G0 [v0] r ∧ (∀ b ∈ G0,w0.heap.size ≤ b):=by
 intro nr
 induction nr with
 | zero =>
   intros
   rename_i h
   exact nS h
 | succ nr ih =>
 intro w0 Ap Bf Ai v2 F3 Aa v6 F7 Ak r h
 refine enter (vs:=[_,_,_]) func254 z ntmps254 z fun a k=>?_
 have m:=St.start w0
 rw [d_spec_l1Merge_Rs] at h
 unfold d_spec_l1Merge_RB at h
 refine wr (pN 1 k z fun a k=>nn (wp_seq (wr (pN 1 k z fun a k=>sv k z (r_len (α:=Int) Ak k underlying31 z z) fun a k=>pN 1 k z fun a k=>nn (cI h k z (fun Cf h=>?_) fun Cf h=>?_)))))
 · refine wr (s_bs (cs:=[]) (ps:=[]) te31 m k z z z z z z z (by decide) z (by exact (List.forall_mem_nil _)) fun Gu Hr Fk a k m e Dl=>?_)
   have Ed:=ow_bx Dl ([]:List Int) z z z
   refine pN 1 k z fun a k=>oE h fun Fu Ez h=>s_appF Ez te31 z m 0 Ed (News.rd (Enc.rd_agr Ak (m.a00 (Enc.rd_lt Ak)))) z z k z z z z z z z fun Hb Ce Ft a k e m Cp=>pN 1 k z fun a k=>nn (wp_ret (rt_then ?_))
   cases h
   exact finR1 k z (RV.tmp k z) ⟨_,Ce,z,m.ext,(Enc.ow_agr Cp (m.a 0 z)),(m.fresh 0 z)⟩
 refine wp_skip (nm_then ?_)
 refine wr (pN 1 k z fun a k=>sv k z (r_len (α:=Int) Ak k underlying31 z z) fun a k=>pN 2 k z fun a k=>nn (wr (pN 3 k z fun a k=>oE h fun Gw Df h=>s_slTo Ak Df k ts31 z z z z z z fun Gy a k Bh=>pN 1 k z fun a k=>oE h fun Ay Dh h=>s_call k call254 z z z z z (ih _ _ _ (Enc.rd_agr Aa (m.a00 (Enc.rd_lt Aa))) (Enc.rd_agr Bh (m.a00 (Enc.rd_lt Bh))) Dh) fun Hm Bl hR=>?_)))
 obtain ⟨Bi,Bb,rfl,e,Ab,Em⟩:=hR
 refine ⟨_,z,fun a k=>?_⟩
 have m:=m.new e Bb (fun b hb=>⟨Em b hb,Enc.rd_lt (Enc.ow_rd Ab) b hb⟩) (Enc.ow_nd Ab)
 refine pN 1 k z fun a k=>nn (wr (pN 3 k z fun a k=>oE h fun Ht Eg h=>s_slFrom Ak Eg k ts31 z z z z z z fun Gq a k Bm=>pN 1 k z fun a k=>oE h fun Bd Fc h=>s_call k call254 z z z z z (ih _ _ _ (Enc.rd_agr Aa (m.a00 (Enc.rd_lt Aa))) (Enc.rd_agr Bm (m.a00 (Enc.rd_lt Bm))) Fc) fun Gr Bk hR=>?_))
 obtain ⟨Bo,Be,rfl,e,Ac,Ek⟩:=hR
 refine ⟨_,z,fun a k=>?_⟩
 have m:=m.new e Be (fun b hb=>⟨Ek b hb,Enc.rd_lt (Enc.ow_rd Ac) b hb⟩) (Enc.ow_nd Ac)
 refine pN 1 k z fun a k=>nn (wr (s_bs (cs:=[]) (ps:=[]) te31 m k z z z z z z z (by decide) z (by exact (List.forall_mem_nil _)) fun Bq Ep Ge a k m e Ea=>?_))
 have Ee:=ow_bx Ea ([]:List Int) z z z
 refine pN 1 k z fun a k=>nn (wr (pN 1 k z fun a k=>?_))
 have k:=k.keep [0,2,8,9,10,11] z
 refine nn (wr (pN 1 k z fun a k=>nn (wp_seq (wp_block (c_loop (fun n a w=>∃ (Aw:List Int) (Ax:Value) (At:List Nat) (Az:World) (Ad:Int) (Ae:Int),K 132 [(0,v2),(2,.bool (Ai)),(8,Bi),(9,Bo),(10,Ax),(11,I Ad),(12,I Ae)] a ∧ St [] w0 w [(Bb,Bl),(Be,Bk),(At,Az)] ∧ ow Az At [Ax] Aw ∧ d_spec_l1Merge_L1 fu Ap Ai Ay Bd n Aw Ad Ae = some r) ?_ ?_ fu _ _ ?_)))))
 · rintro a w ⟨_,_,_,_,_,_,_,_,_,h⟩
   exact nS h
 · rintro By a Hk ⟨Aw,Ax,At,Az,Ad,Ae,k,m,Ah,h⟩
   rw [d_spec_l1Merge_L1_s] at h
   unfold d_spec_l1Merge_L1_B at h
   refine c_cut (fun a w=>K 132 [(0,v2),(2,.bool (Ai)),(8,Bi),(9,Bo),(10,Ax),(11,I Ad),(12,I Ae)] a ∧ St [] w0 w [(Bb,Bl),(Be,Bk),(At,Az)] ∧ d_spec_l1Merge_J1 fu (d_spec_l1Merge_L1 fu Ap Ai Ay Bd By) Ap Ai Ay Bd Aw Ad Ae = some r) ?_ ?_
   · rintro a Hh ⟨k,m,h⟩
     unfold d_spec_l1Merge_J1 at h
     refine wp_block (wp_block (wr (pN 2 k z fun a k=>sv k z (r_len (α:=Int) (Enc.ow_rd Ac) k underlying31 z z) fun a k=>pN 2 k z fun a k=>nn (cI h k z (fun Cs h=>?_) fun Cs h=>?_))))
     · refine wr (pN 3 k z fun a k=>oE h fun Bg Bp h=>sv k z (r_ixa (Enc.ow_rd Ab) Bp k ts31 z z z) fun a k=>sv k z (r_lde1 (Enc.ow_rd Ab) (m.a 0 z) Bp 0 t13 k z z z z) fun a k=>s_bs (cs:=[I Bg]) (ps:=[(0,.tmp 63)]) te31 m k z z z z z z z (by decide) z (by exact (List.forall_mem_cons.2 ⟨z,(List.forall_mem_nil _)⟩)) fun Gj Hp Hz a k m e Dt=>?_)
       have Do:=ow_bx Dt ([Bg]:List Int) z z z
       refine oE h fun Dx Cy h=>s_appF Cy te31 z m 3 Ah (News.rd (Enc.rd_agr (Enc.ow_rd Do) (m.a 0 z))) z z k z z z z z z z fun Ct Fh En a k e m Cz=>pN 1 k z fun a k=>nn (wp_region_lit (pN 3 k z fun a k=>wpList_nil (nm_block (nm_block (nm_then ?_)))))
       exact ⟨Dx,Ct,Fh,En,w64 (Ad + 1),Ae,k.keep [0,2,8,9,10,11,12] z,m.sel [1,2,3] z (by decide),Cz,h⟩
     refine wr (pN 2 k z fun a k=>sv k z (r_len (α:=Int) (Enc.ow_rd Ab) k underlying31 z z) fun a k=>pN 2 k z fun a k=>nn (cI h k z (fun Ei h=>?_) fun Ei h=>?_))
     · refine wr (pN 3 k z fun a k=>oE h fun Bj Bn h=>sv k z (r_ixa (Enc.ow_rd Ac) Bn k ts31 z z z) fun a k=>sv k z (r_lde1 (Enc.ow_rd Ac) (m.a 1 z) Bn 0 t13 k z z z z) fun a k=>s_bs (cs:=[I Bj]) (ps:=[(0,.tmp 77)]) te31 m k z z z z z z z (by decide) z (by exact (List.forall_mem_cons.2 ⟨z,(List.forall_mem_nil _)⟩)) fun Fo Gv Fy a k m e Cu=>?_)
       have Dv:=ow_bx Cu ([Bj]:List Int) z z z
       refine oE h fun Ca Bz h=>s_appF Bz te31 z m 3 Ah (News.rd (Enc.rd_agr (Enc.ow_rd Dv) (m.a 0 z))) z z k z z z z z z z fun Es Eb Dq a k e m Bs=>pN 1 k z fun a k=>nn (wp_region_lit (pN 3 k z fun a k=>wpList_nil (nm_block (nm_block (nm_then ?_)))))
       exact ⟨Ca,Es,Eb,Dq,Ad,w64 (Ae + 1),k.keep [0,2,8,9,10,11,12] z,m.sel [1,2,3] z (by decide),Bs,h⟩
     refine wp_seq (d_go [] mixo m z fun Fd hMd=>?_)
     have m:=hMd
     have s:=Ext.refl ([]:List Nat) Fd
     refine dN [0,1,2,7,8,9] 6 z k (by kernel_rfl) z s (fun _ _ _ _ _=>id) fun a k=>oE h fun Ao Ag h=>dt k 3 z (by kernel_rfl) z s (fun _ _ _=>id) (fun w s=>r_ixa (Enc.ow_rd Ac) Ag k ts31 z z z) fun a k=>dt k 4 z (by kernel_rfl) z s (fun _ _ _=>id) (fun w s=>r_lde1 (Enc.ow_rd Ac) ((hMd.step s).a 1 z) Ag 0 t13 k z z z z) fun a k=>oE h fun Bc Am h=>dt k 5 z (by kernel_rfl) z s (fun _ _ _=>id) (fun w s=>r_ixa Aa Am k ts31 z z z) fun a k=>dt k 6 z (by kernel_rfl) z s (fun _ _ _=>id) (fun w s=>r_lde1 Aa ((hMd.step s).a00 (Enc.rd_lt Aa)) Am 0 t13 k z z z z) fun a k=>oE h fun Aj Af h=>dt k 10 z (by kernel_rfl) z s (fun _ _ _=>id) (fun w s=>r_ixa (Enc.ow_rd Ab) Af k ts31 z z z) fun a k=>?_
     refine dt k 11 z (by kernel_rfl) z s (fun _ _ _=>id) (fun w s=>r_lde1 (Enc.ow_rd Ab) ((hMd.step s).a 0 z) Af 0 t13 k z z z z) fun a k=>oE h fun Ba Al h=>dt k 12 z (by kernel_rfl) z s (fun _ _ _=>id) (fun w s=>r_ixa Aa Al k ts31 z z z) fun a k=>dt k 13 z (by kernel_rfl) z s (fun _ _ _=>id) (fun w s=>r_lde1 Aa ((hMd.step s).a00 (Enc.rd_lt Aa)) Al 0 t13 k z z z z) fun a k=>dN [14,15] 2 z k (by kernel_rfl) z s (fun _ _ _ _ _=>id) fun a k=>bsplit (decide (Bc < Ba)) (fun Aq=>?_) (fun Aq=>?_)
     · have h:=bif_t Aq h
       refine rB k 98 z Aq fun k=>dN [16,17,18,19] 4 z k (by kernel_rfl) z s (fun _ _ _ _ _=>id) fun a k=>bsplit (!Ai) (fun Au=>?_) (fun Au=>?_)
       · have h:=bif_t Au h
         refine rB k 102 z Au fun k=>dN [20,21,22,23,24,25,26,27,28,29,30,31,32,33,34,35,36,37,38,39] 20 z k (by kernel_rfl) z s (fun _ _ _ _ _=>id) fun a k=>d_done (by kernel_rfl) ?_
         have k:=k.keep [0,2,8,9,10,11,12,82] z
         refine (nm_then ?_)
         refine wp_cond_true (k.ev z) (wr (pN 3 k z fun a k=>oE h fun Gx Hn h=>sv k z (r_ixa (Enc.ow_rd Ac) Ag k ts31 z z z) fun a k=>sv k z (r_lde1 (Enc.ow_rd Ac) (m.a 1 z) Ag 0 t13 k z z z z) fun a k=>s_bs (cs:=[I Ao]) (ps:=[(0,.tmp 126)]) te31 m k z z z z z z z (by decide) z (by exact (List.forall_mem_cons.2 ⟨z,(List.forall_mem_nil _)⟩)) fun Gb Gf Id a k m e Br=>?_))
         have Dw:=ow_bx Br ([Ao]:List Int) z z z
         refine oE h fun Cr Cm h=>s_appF Cm te31 z m 3 Ah (News.rd (Enc.rd_agr (Enc.ow_rd Dw) (m.a 0 z))) z z k z z z z z z z fun Db Fe Eh a k e m Di=>pN 1 k z fun a k=>nn (wp_region_lit (pN 3 k z fun a k=>wpList_nil (nm_block (nm_block (nm_then ?_)))))
         exact ⟨Cr,Db,Fe,Eh,Ad,w64 (Ae + 1),k.keep [0,2,8,9,10,11,12] z,m.sel [1,2,3] z (by decide),Di,h⟩
       have h:=bif_f Au h
       refine rB k 102 z Au fun k=>dN [20,21,22,27,28,29] 6 z k (by kernel_rfl) z s (fun _ _ _ _ _=>id) fun a k=>oE h fun Fz Hu h=>dt k 23 z (by kernel_rfl) z s (fun _ _ _=>id) (fun w s=>r_ixa (Enc.ow_rd Ac) Ag k ts31 z z z) fun a k=>dt k 24 z (by kernel_rfl) z s (fun _ _ _=>id) (fun w s=>r_lde1 (Enc.ow_rd Ac) ((hMd.step s).a 1 z) Ag 0 t13 k z z z z) fun a k=>oE h fun Hc Hg h=>dt k 25 z (by kernel_rfl) z s (fun _ _ _=>id) (fun w s=>r_ixa Aa Am k ts31 z z z) fun a k=>dt k 26 z (by kernel_rfl) z s (fun _ _ _=>id) (fun w s=>r_lde1 Aa ((hMd.step s).a00 (Enc.rd_lt Aa)) Am 0 t13 k z z z z) fun a k=>oE h fun Gm Fr h=>?_
       refine dt k 30 z (by kernel_rfl) z s (fun _ _ _=>id) (fun w s=>r_ixa (Enc.ow_rd Ab) Af k ts31 z z z) fun a k=>dt k 31 z (by kernel_rfl) z s (fun _ _ _=>id) (fun w s=>r_lde1 (Enc.ow_rd Ab) ((hMd.step s).a 0 z) Af 0 t13 k z z z z) fun a k=>oE h fun Fx Fn h=>dt k 32 z (by kernel_rfl) z s (fun _ _ _=>id) (fun w s=>r_ixa Aa Al k ts31 z z z) fun a k=>dt k 33 z (by kernel_rfl) z s (fun _ _ _=>id) (fun w s=>r_lde1 Aa ((hMd.step s).a00 (Enc.rd_lt Aa)) Al 0 t13 k z z z z) fun a k=>dN [34,35] 2 z k (by kernel_rfl) z s (fun _ _ _ _ _=>id) fun a k=>bsplit (decide (Bc > Ba)) (fun Ar=>?_) (fun Ar=>?_)
       · have h:=bif_t Ar h
         refine rB k 118 z Ar fun k=>dN [36,37,38,39] 4 z k (by kernel_rfl) z s (fun _ _ _ _ _=>id) fun a k=>d_done (by kernel_rfl) ?_
         have k:=k.keep [0,2,8,9,10,11,12,82] z
         refine (nm_then ?_)
         refine cI h k z (fun Cx h=>?_) fun Cx h=>?_
         · refine wr (pN 3 k z fun a k=>oE h fun Hx Gg h=>sv k z (r_ixa (Enc.ow_rd Ac) Ag k ts31 z z z) fun a k=>sv k z (r_lde1 (Enc.ow_rd Ac) (m.a 1 z) Ag 0 t13 k z z z z) fun a k=>s_bs (cs:=[I Ao]) (ps:=[(0,.tmp 126)]) te31 m k z z z z z z z (by decide) z (by exact (List.forall_mem_cons.2 ⟨z,(List.forall_mem_nil _)⟩)) fun Gz Gk Gd a k m e Cn=>?_)
           have Ew:=ow_bx Cn ([Ao]:List Int) z z z
           refine oE h fun Dd Dg h=>s_appF Dg te31 z m 3 Ah (News.rd (Enc.rd_agr (Enc.ow_rd Ew) (m.a 0 z))) z z k z z z z z z z fun Bv Dk Bx a k e m Ex=>pN 1 k z fun a k=>nn (wp_region_lit (pN 3 k z fun a k=>wpList_nil (nm_block (nm_block (nm_then ?_)))))
           exact ⟨Dd,Bv,Dk,Bx,Ad,w64 (Ae + 1),k.keep [0,2,8,9,10,11,12] z,m.sel [1,2,3] z (by decide),Ex,h⟩
         refine wr (pN 3 k z fun a k=>oE h fun Gt Hj h=>sv k z (r_ixa (Enc.ow_rd Ab) Af k ts31 z z z) fun a k=>sv k z (r_lde1 (Enc.ow_rd Ab) (m.a 0 z) Af 0 t13 k z z z z) fun a k=>s_bs (cs:=[I Aj]) (ps:=[(0,.tmp 49)]) te31 m k z z z z z z z (by decide) z (by exact (List.forall_mem_cons.2 ⟨z,(List.forall_mem_nil _)⟩)) fun Ia Fl Hw a k m e El=>?_)
         have Ck:=ow_bx El ([Aj]:List Int) z z z
         refine oE h fun Cq Ec h=>s_appF Ec te31 z m 3 Ah (News.rd (Enc.rd_agr (Enc.ow_rd Ck) (m.a 0 z))) z z k z z z z z z z fun Ci Eu Bw a k e m Dj=>pN 1 k z fun a k=>nn (wp_region_lit (pN 3 k z fun a k=>wpList_nil (nm_block (nm_block (nm_then ?_)))))
         exact ⟨Cq,Ci,Eu,Bw,w64 (Ad + 1),Ae,k.keep [0,2,8,9,10,11,12] z,m.sel [1,2,3] z (by decide),Dj,h⟩
       have h:=bif_f Ar h
       refine rB k 118 z Ar fun k=>dN [36,37,38,39] 4 z k (by kernel_rfl) z s (fun _ _ _ _ _=>id) fun a k=>d_done (by kernel_rfl) ?_
       have k:=k.keep [0,2,8,9,10,11,12,82] z
       refine (nm_then ?_)
       refine wp_cond_false (k.ev z) (wr (pN 3 k z fun a k=>oE h fun Gl He h=>sv k z (r_ixa (Enc.ow_rd Ab) Af k ts31 z z z) fun a k=>sv k z (r_lde1 (Enc.ow_rd Ab) (m.a 0 z) Af 0 t13 k z z z z) fun a k=>s_bs (cs:=[I Aj]) (ps:=[(0,.tmp 49)]) te31 m k z z z z z z z (by decide) z (by exact (List.forall_mem_cons.2 ⟨z,(List.forall_mem_nil _)⟩)) fun Hf Fm Ic a k m e Dp=>?_))
       have Cj:=ow_bx Dp ([Aj]:List Int) z z z
       refine oE h fun Cc Cb h=>s_appF Cb te31 z m 3 Ah (News.rd (Enc.rd_agr (Enc.ow_rd Cj) (m.a 0 z))) z z k z z z z z z z fun Cg Dm Cl a k e m Ev=>pN 1 k z fun a k=>nn (wp_region_lit (pN 3 k z fun a k=>wpList_nil (nm_block (nm_block (nm_then ?_)))))
       exact ⟨Cc,Cg,Dm,Cl,w64 (Ad + 1),Ae,k.keep [0,2,8,9,10,11,12] z,m.sel [1,2,3] z (by decide),Ev,h⟩
     have h:=bif_f Aq h
     refine rB k 98 z Aq fun k=>dN [16,17,18,19,20,21,22,27,28,29] 10 z k (by kernel_rfl) z s (fun _ _ _ _ _=>id) fun a k=>oE h fun Hv Gi h=>dt k 23 z (by kernel_rfl) z s (fun _ _ _=>id) (fun w s=>r_ixa (Enc.ow_rd Ac) Ag k ts31 z z z) fun a k=>dt k 24 z (by kernel_rfl) z s (fun _ _ _=>id) (fun w s=>r_lde1 (Enc.ow_rd Ac) ((hMd.step s).a 1 z) Ag 0 t13 k z z z z) fun a k=>oE h fun Ha Fv h=>dt k 25 z (by kernel_rfl) z s (fun _ _ _=>id) (fun w s=>r_ixa Aa Am k ts31 z z z) fun a k=>dt k 26 z (by kernel_rfl) z s (fun _ _ _=>id) (fun w s=>r_lde1 Aa ((hMd.step s).a00 (Enc.rd_lt Aa)) Am 0 t13 k z z z z) fun a k=>oE h fun Fw Gc h=>?_
     refine dt k 30 z (by kernel_rfl) z s (fun _ _ _=>id) (fun w s=>r_ixa (Enc.ow_rd Ab) Af k ts31 z z z) fun a k=>dt k 31 z (by kernel_rfl) z s (fun _ _ _=>id) (fun w s=>r_lde1 (Enc.ow_rd Ab) ((hMd.step s).a 0 z) Af 0 t13 k z z z z) fun a k=>oE h fun Fp Hi h=>dt k 32 z (by kernel_rfl) z s (fun _ _ _=>id) (fun w s=>r_ixa Aa Al k ts31 z z z) fun a k=>dt k 33 z (by kernel_rfl) z s (fun _ _ _=>id) (fun w s=>r_lde1 Aa ((hMd.step s).a00 (Enc.rd_lt Aa)) Al 0 t13 k z z z z) fun a k=>dN [34,35] 2 z k (by kernel_rfl) z s (fun _ _ _ _ _=>id) fun a k=>bsplit (decide (Bc > Ba)) (fun Av=>?_) (fun Av=>?_)
     · have h:=bif_t Av h
       refine rB k 118 z Av fun k=>dN [36,37,38,39] 4 z k (by kernel_rfl) z s (fun _ _ _ _ _=>id) fun a k=>d_done (by kernel_rfl) ?_
       have k:=k.keep [0,2,8,9,10,11,12,82] z
       refine (nm_then ?_)
       refine cI h k z (fun Cv h=>?_) fun Cv h=>?_
       · refine wr (pN 3 k z fun a k=>oE h fun Gp Fi h=>sv k z (r_ixa (Enc.ow_rd Ac) Ag k ts31 z z z) fun a k=>sv k z (r_lde1 (Enc.ow_rd Ac) (m.a 1 z) Ag 0 t13 k z z z z) fun a k=>s_bs (cs:=[I Ao]) (ps:=[(0,.tmp 126)]) te31 m k z z z z z z z (by decide) z (by exact (List.forall_mem_cons.2 ⟨z,(List.forall_mem_nil _)⟩)) fun Ib Ie Ga a k m e Eo=>?_)
         have Da:=ow_bx Eo ([Ao]:List Int) z z z
         refine oE h fun Fg Co h=>s_appF Co te31 z m 3 Ah (News.rd (Enc.rd_agr (Enc.ow_rd Da) (m.a 0 z))) z z k z z z z z z z fun Cd Dc Ey a k e m Fa=>pN 1 k z fun a k=>nn (wp_region_lit (pN 3 k z fun a k=>wpList_nil (nm_block (nm_block (nm_then ?_)))))
         exact ⟨Fg,Cd,Dc,Ey,Ad,w64 (Ae + 1),k.keep [0,2,8,9,10,11,12] z,m.sel [1,2,3] z (by decide),Fa,h⟩
       refine wr (pN 3 k z fun a k=>oE h fun Ho Gn h=>sv k z (r_ixa (Enc.ow_rd Ab) Af k ts31 z z z) fun a k=>sv k z (r_lde1 (Enc.ow_rd Ab) (m.a 0 z) Af 0 t13 k z z z z) fun a k=>s_bs (cs:=[I Aj]) (ps:=[(0,.tmp 49)]) te31 m k z z z z z z z (by decide) z (by exact (List.forall_mem_cons.2 ⟨z,(List.forall_mem_nil _)⟩)) fun Fj Fs Fq a k m e Dr=>?_)
       have Cw:=ow_bx Dr ([Aj]:List Int) z z z
       refine oE h fun Dz Ef h=>s_appF Ef te31 z m 3 Ah (News.rd (Enc.rd_agr (Enc.ow_rd Cw) (m.a 0 z))) z z k z z z z z z z fun Du Bt Fb a k e m Bu=>pN 1 k z fun a k=>nn (wp_region_lit (pN 3 k z fun a k=>wpList_nil (nm_block (nm_block (nm_then ?_)))))
       exact ⟨Dz,Du,Bt,Fb,w64 (Ad + 1),Ae,k.keep [0,2,8,9,10,11,12] z,m.sel [1,2,3] z (by decide),Bu,h⟩
     have h:=bif_f Av h
     refine rB k 118 z Av fun k=>dN [36,37,38,39] 4 z k (by kernel_rfl) z s (fun _ _ _ _ _=>id) fun a k=>d_done (by kernel_rfl) ?_
     have k:=k.keep [0,2,8,9,10,11,12,82] z
     refine (nm_then ?_)
     refine wp_cond_false (k.ev z) (wr (pN 3 k z fun a k=>oE h fun Hl Hq h=>sv k z (r_ixa (Enc.ow_rd Ab) Af k ts31 z z z) fun a k=>sv k z (r_lde1 (Enc.ow_rd Ab) (m.a 0 z) Af 0 t13 k z z z z) fun a k=>s_bs (cs:=[I Aj]) (ps:=[(0,.tmp 49)]) te31 m k z z z z z z z (by decide) z (by exact (List.forall_mem_cons.2 ⟨z,(List.forall_mem_nil _)⟩)) fun Gh Hy Hd a k m e Dy=>?_))
     have Et:=ow_bx Dy ([Aj]:List Int) z z z
     refine oE h fun Ch Er h=>s_appF Er te31 z m 3 Ah (News.rd (Enc.rd_agr (Enc.ow_rd Et) (m.a 0 z))) z z k z z z z z z z fun Ds Ej Ff a k e m De=>pN 1 k z fun a k=>nn (wp_region_lit (pN 3 k z fun a k=>wpList_nil (nm_block (nm_block (nm_then ?_)))))
     exact ⟨Ch,Ds,Ej,Ff,w64 (Ad + 1),Ae,k.keep [0,2,8,9,10,11,12] z,m.sel [1,2,3] z (by decide),De,h⟩
   refine wr (pN 2 k z fun a k=>sv k z (r_len (α:=Int) (Enc.ow_rd Ab) k underlying31 z z) fun a k=>pN 2 k z fun a k=>bsplit (decide (Ad < ((Ay.length:Int)))) (fun As=>?_) (fun As=>?_))
   · have h:=bif_t As h
     refine rB k 39 z As fun k=>pN 5 k z fun a k=>nn (wp_cond_true (k.ev z) (wp_skip (nm_then ?_)))
     exact ⟨k.keep [0,2,8,9,10,11,12] z,m.sel [0,1,2] z (by decide),h⟩
   have h:=bif_f As h
   refine rB k 39 z As fun k=>pN 2 k z fun a k=>sv k z (r_len (α:=Int) (Enc.ow_rd Ac) k underlying31 z z) fun a k=>pN 2 k z fun a k=>nn (cI h k z (fun Dn h=>?_) fun Dn h=>?_)
   · refine wp_skip (nm_then ?_)
     exact ⟨k.keep [0,2,8,9,10,11,12] z,m.sel [0,1,2] z (by decide),h⟩
   refine wp_exit (ex_then (ex_then (ex_same (nm_then ?_))))
   refine wr (pN 2 k z fun a k=>nn (wp_ret ?_))
   cases h
   exact finR1 k z (RV.tmp k z) ⟨_,At,z,m.ext,(Enc.ow_agr Ah (m.a 2 z)),(m.fresh 2 z)⟩
 exact ⟨([]:List Int),(.slice (some ⟨Bq,0,none⟩) 0 0),[Bq],Ep,0,0,k.keep [0,2,8,9,10,11,12] z,m.sel [2,1,0] z (by decide),Ee,h⟩
theorem c_spec_l1Merge (fu:Nat) {w0:World} (Ac:List Int) (Aa:List Int) (Ab:Bool) {v2:Value} {F3:List Nat} (Ae:rd w0 F3 [v2] Ac) {v6:Value} {F7:List Nat} (Ad:rd w0 F7 [v6] Aa) {r:(List Int)}
    (h:d_spec_l1Merge fu Ac Aa Ab = some r):Calls Tryz.prog 254 #[v2,v6,.bool (Ab)] w0 fun e w=>∃ (v0:Value) (G0:List Nat),e = .returned (v0) ∧ Ext [] w0 w ∧ ow w G0 [v0] r ∧ (∀ b ∈ G0,w0.heap.size ≤ b) :=
  c_spec_l1Merge_R fu fu Ac Aa Ab Ae Ad h

theorem c_spec_SortUp (fu:Nat) {w0:World} (Ae:List Int) {v2:Value} {F3:List Nat} (Ab:rd w0 F3 [v2] Ae) {r:(List Int)}
    (h:d_spec_SortUp fu Ae = some r) :
    Calls Tryz.prog 194 #[v2] w0 fun e w=>∃ (v0:Value) (G0:List Nat),e = .returned (v0) ∧ Ext [] w0 w ∧ ow w G0 [v0] r ∧ (∀ b ∈ G0,w0.heap.size ≤ b):=by
 refine enter (vs:=[_]) func194 z ntmps194 z fun a k=>?_
 have m:=St.start w0
 unfold d_spec_SortUp at h
 refine wr (pN 1 k z fun a k=>nn (wr (pN 2 k z fun a k=>sv k z (r_len (α:=Int) Ab k underlying31 z z) fun a k=>oE h fun x5 Ai h=>s_call k call173 z z z z z (c_spec_l1Places fu _  Ai) fun e7 w9 hR=>?_)))
 obtain ⟨Al,Ah,rfl,e,Aa,Af⟩:=hR
 refine ⟨_,z,fun a k=>?_⟩
 have m:=m.new e Ah (fun b hb=>⟨Af b hb,Enc.rd_lt (Enc.ow_rd Aa) b hb⟩) (Enc.ow_nd Aa)
 refine oE h fun Am Aj h=>s_call k call254 z z z z z (c_spec_l1Merge fu _ _ _ (Enc.rd_agr Ab (m.a00 (Enc.rd_lt Ab))) (Enc.rd_agr (Enc.ow_rd Aa) (m.a 0 z)) Aj) fun Ap Ao hR=>?_
 obtain ⟨Ak,Ad,rfl,e,Ac,Ag⟩:=hR
 refine ⟨_,z,fun a k=>?_⟩
 have m:=m.new e Ad (fun b hb=>⟨Ag b hb,Enc.rd_lt (Enc.ow_rd Ac) b hb⟩) (Enc.ow_nd Ac)
 refine pN 1 k z fun a k=>nn (wp_ret ?_)
 cases h
 exact finR1 k z (RV.tmp k z) ⟨_,Ad,z,m.ext,(Enc.ow_agr Ac (m.a 0 z)),(m.fresh 0 z)⟩
theorem c_spec_l5Sides (fu:Nat) {w0:World} (Ac:Int) (h2:Int) (d3:Int)  {r:(List Int)}
    (h:d_spec_l5Sides fu Ac h2 d3 = some r) :
    Calls Tryz.prog 162 #[I Ac,I h2,I d3] w0 fun e w=>∃ (v0:Value) (G0:List Nat),e = .returned (v0) ∧ Ext [] w0 w ∧ ow w G0 [v0] r ∧ (∀ b ∈ G0,w0.heap.size ≤ b):=by
 refine enter (vs:=[_,_,_]) func162 z ntmps162 z fun a k=>?_
 have m:=St.start w0
 unfold d_spec_l5Sides at h
 refine wr (pN 1 k z fun a k=>nn (wr (pN 3 k z fun a k=>s_bs (cs:=[I Ac,I h2,I d3]) (ps:=[(0,.tmp 9),(1,.tmp 10),(2,.tmp 11)]) te31 m k z z z z z z z (by decide) z (by exact (List.forall_mem_cons.2 ⟨z,(List.forall_mem_cons.2 ⟨z,(List.forall_mem_cons.2 ⟨z,(List.forall_mem_nil _)⟩)⟩)⟩)) fun g4 w5 e7 a k m e Ao=>?_)))
 have Ab:=ow_bx Ao ([Ac,h2,d3]:List Int) z z z
 refine pN 1 k z fun a k=>nn (wr (pN 1 k z fun a k=>oE h fun x9 Av h=>s_call k call194 z z z z z (c_spec_SortUp fu _ (Enc.rd_agr (Enc.ow_rd Ab) (m.a 0 z)) Av) fun Ax Ba hR=>?_))
 obtain ⟨Be,Ar,rfl,e,Aa,Ap⟩:=hR
 refine ⟨_,z,fun a k=>?_⟩
 have m:=m.new e Ar (fun b hb=>⟨Ap b hb,Enc.rd_lt (Enc.ow_rd Aa) b hb⟩) (Enc.ow_nd Aa)
 refine pN 1 k z fun a k=>nn (wp_seq (d_go [] mixo m z fun At hMd=>?_))
 have m:=hMd
 have s:=Ext.refl ([]:List Nat) At
 refine dN [0,1,6,7,12,13] 6 z k (by kernel_rfl) z s (fun _ _ _ _ _=>id) fun a k=>oE h fun Bb Ad h=>dt k 2 z (by kernel_rfl) z s (fun _ _ _=>id) (fun w s=>r_ixa (Enc.ow_rd Aa) Ad k ts31 z z z) fun a k=>dt k 3 z (by kernel_rfl) z s (fun _ _ _=>id) (fun w s=>r_lde1 (Enc.ow_rd Aa) ((hMd.step s).a 0 z) Ad 0 t13 k z z z z) fun a k=>oE h fun Ae Ai h=>dt k 4 z (by kernel_rfl) z s (fun _ _ _=>id) (fun w s=>r_ixa (Enc.ow_rd Ab) Ai k ts31 z z z) fun a k=>dt k 5 z (by kernel_rfl) z s (fun _ _ _=>id) (fun w s=>r_lde1 (Enc.ow_rd Ab) ((hMd.step s).a 1 z) Ai 0 t13 k z z z z) fun a k=>oE h fun Az Al h=>dt k 8 z (by kernel_rfl) z s (fun _ _ _=>id) (fun w s=>r_ixa (Enc.ow_rd Aa) Al k ts31 z z z) fun a k=>?_
 refine dt k 9 z (by kernel_rfl) z s (fun _ _ _=>id) (fun w s=>r_lde1 (Enc.ow_rd Aa) ((hMd.step s).a 0 z) Al 0 t13 k z z z z) fun a k=>oE h fun Af Aj h=>dt k 10 z (by kernel_rfl) z s (fun _ _ _=>id) (fun w s=>r_ixa (Enc.ow_rd Ab) Aj k ts31 z z z) fun a k=>dt k 11 z (by kernel_rfl) z s (fun _ _ _=>id) (fun w s=>r_lde1 (Enc.ow_rd Ab) ((hMd.step s).a 1 z) Aj 0 t13 k z z z z) fun a k=>oE h fun Ay Ak h=>dt k 14 z (by kernel_rfl) z s (fun _ _ _=>id) (fun w s=>r_ixa (Enc.ow_rd Aa) Ak k ts31 z z z) fun a k=>dt k 15 z (by kernel_rfl) z s (fun _ _ _=>id) (fun w s=>r_lde1 (Enc.ow_rd Aa) ((hMd.step s).a 0 z) Ak 0 t13 k z z z z) fun a k=>oE h fun Ah Ag h=>?_
 refine dt k 16 z (by kernel_rfl) z s (fun _ _ _=>id) (fun w s=>r_ixa (Enc.ow_rd Ab) Ag k ts31 z z z) fun a k=>dt k 17 z (by kernel_rfl) z s (fun _ _ _=>id) (fun w s=>r_lde1 (Enc.ow_rd Ab) ((hMd.step s).a 1 z) Ag 0 t13 k z z z z) fun a k=>d_one 18 (by kernel_rfl) z (s_bsN (cs:=[I Ae,I Af,I Ah]) (ps:=[(0,.tmp 20),(1,.tmp 26),(2,.tmp 32)]) te31 m k z z z z z z z (by decide) z (by exact (List.forall_mem_cons.2 ⟨z,(List.forall_mem_cons.2 ⟨z,(List.forall_mem_cons.2 ⟨z,(List.forall_mem_nil _)⟩)⟩)⟩)) fun As Bd Aw a k m e Aq Au=>?_)
 have Bc:=lo1 (Nat.le_trans s.size Au)
 have Am:=ow_bx Aq ([Ae,Af,Ah]:List Int) z z z
 have s:=s.trans e (by simp)
 refine wpList_nil ⟨s,?_⟩
 refine dN [19] 1 z k (by kernel_rfl) z s (fun _ _ _ _ _=>id) fun a k=>d_done (by kernel_rfl) ?_
 have k:=k.keep [6] z
 refine (nm_then ?_)
 refine wp_ret ?_
 cases h
 exact finR1 k z (RV.tmp k z) ⟨_,[As],z,m.ext,(Enc.ow_agr Am (m.a 0 z)),(m.fresh 0 z)⟩
theorem c_spec_Fits (fu:Nat) {w0:World} (x1:Item) (t2:Typ)  {r:Bool}
    (h:d_spec_Fits fu x1 t2 = some r) :
    Calls Tryz.prog 73 #[.agg (Flat.e (x1)).toArray,.agg (Flat.e (t2)).toArray] w0 fun e w=>e = .returned (.bool (r)) ∧ Ext [] w0 w:=by
 refine enter (vs:=[_,_]) func73 z ntmps73 z fun a k=>?_
 have m:=St.start w0
 unfold d_spec_Fits at h
 refine wr (s_box (cs:=[I x1.fId,I x1.fW,I x1.fH,I x1.fD,I x1.fGram,I x1.fClass,I x1.fCount]) m k z z z z z z fun b3 w5 a k m e Ag=>s_box (cs:=[I t2.fId,I t2.fW,I t2.fH,I t2.fD,I t2.fTare,I t2.fGram,I t2.fCost]) m k z z z z z z fun b6 w9 a k m e Af=>pN 1 k z fun a k=>nn (wr (sv k z (r_fa fa97_1 k z z) fun a k=>sv k z (r_ldb t13 m 1 Ag 1 k z z z z z) fun a k=>sv k z (r_fa fa97_2 k z z) fun a k=>sv k z (r_ldb t13 m 1 Ag 2 k z z z z z) fun a k=>sv k z (r_fa fa97_3 k z z) fun a k=>sv k z (r_ldb t13 m 1 Ag 3 k z z z z z) fun a k=>oE h fun Bc Az h=>?_)))
 refine s_call k call162 z z z z z (c_spec_l5Sides fu _ _ _  Az) fun Bi Bg hR=>?_
 obtain ⟨Bd,Ar,rfl,e,Ab,Ay⟩:=hR
 refine ⟨_,z,fun a k=>?_⟩
 have m:=m.new e Ar (fun b hb=>⟨Ay b hb,Enc.rd_lt (Enc.ow_rd Ab) b hb⟩) (Enc.ow_nd Ab)
 refine pN 1 k z fun a k=>nn (wr (sv k z (r_fa fa38_1 k z z) fun a k=>sv k z (r_ldb t13 m 1 Af 1 k z z z z z) fun a k=>sv k z (r_fa fa38_2 k z z) fun a k=>sv k z (r_ldb t13 m 1 Af 2 k z z z z z) fun a k=>sv k z (r_fa fa38_3 k z z) fun a k=>sv k z (r_ldb t13 m 1 Af 3 k z z z z z) fun a k=>oE h fun Bh Ao h=>s_call k call162 z z z z z (c_spec_l5Sides fu _ _ _  Ao) fun Bb Bf hR=>?_))
 obtain ⟨Be,Au,rfl,e,Aa,Ax⟩:=hR
 refine ⟨_,z,fun a k=>?_⟩
 have m:=m.new e Au (fun b hb=>⟨Ax b hb,Enc.rd_lt (Enc.ow_rd Aa) b hb⟩) (Enc.ow_nd Aa)
 refine pN 1 k z fun a k=>nn (wp_seq (d_go [] mixo m z fun Aq hMd=>?_))
 have m:=hMd
 have s:=Ext.refl ([]:List Nat) Aq
 refine dN [0,3] 2 z k (by kernel_rfl) z s (fun _ _ _ _ _=>id) fun a k=>oE h fun Aw Ah h=>dt k 1 z (by kernel_rfl) z s (fun _ _ _=>id) (fun w s=>r_ixa (Enc.ow_rd Ab) Ah k ts31 z z z) fun a k=>dt k 2 z (by kernel_rfl) z s (fun _ _ _=>id) (fun w s=>r_lde1 (Enc.ow_rd Ab) ((hMd.step s).a 1 z) Ah 0 t13 k z z z z) fun a k=>oE h fun Av Aj h=>dt k 4 z (by kernel_rfl) z s (fun _ _ _=>id) (fun w s=>r_ixa (Enc.ow_rd Aa) Aj k ts31 z z z) fun a k=>dt k 5 z (by kernel_rfl) z s (fun _ _ _=>id) (fun w s=>r_lde1 (Enc.ow_rd Aa) ((hMd.step s).a 0 z) Aj 0 t13 k z z z z) fun a k=>dN [6,7] 2 z k (by kernel_rfl) z s (fun _ _ _ _ _=>id) fun a k=>bsplit (decide (Aw ≤ Av)) (fun Ac=>?_) (fun Ac=>?_)
 · have h:=bif_t Ac h
   refine rB k 28 z Ac fun k=>dN [8,11] 2 z k (by kernel_rfl) z s (fun _ _ _ _ _=>id) fun a k=>oE h fun Ba Ai h=>dt k 9 z (by kernel_rfl) z s (fun _ _ _=>id) (fun w s=>r_ixa (Enc.ow_rd Ab) Ai k ts31 z z z) fun a k=>dt k 10 z (by kernel_rfl) z s (fun _ _ _=>id) (fun w s=>r_lde1 (Enc.ow_rd Ab) ((hMd.step s).a 1 z) Ai 0 t13 k z z z z) fun a k=>oE h fun At Al h=>dt k 12 z (by kernel_rfl) z s (fun _ _ _=>id) (fun w s=>r_ixa (Enc.ow_rd Aa) Al k ts31 z z z) fun a k=>dt k 13 z (by kernel_rfl) z s (fun _ _ _=>id) (fun w s=>r_lde1 (Enc.ow_rd Aa) ((hMd.step s).a 0 z) Al 0 t13 k z z z z) fun a k=>dN [14,15,16] 3 z k (by kernel_rfl) z s (fun _ _ _ _ _=>id) fun a k=>bsplit (decide (Ba ≤ At)) (fun Ae=>?_) (fun Ae=>?_)
   · have h:=bif_t Ae h
     refine rB k 37 z Ae fun k=>dN [17,20] 2 z k (by kernel_rfl) z s (fun _ _ _ _ _=>id) fun a k=>oE h fun As Am h=>dt k 18 z (by kernel_rfl) z s (fun _ _ _=>id) (fun w s=>r_ixa (Enc.ow_rd Ab) Am k ts31 z z z) fun a k=>dt k 19 z (by kernel_rfl) z s (fun _ _ _=>id) (fun w s=>r_lde1 (Enc.ow_rd Ab) ((hMd.step s).a 1 z) Am 0 t13 k z z z z) fun a k=>oE h fun Ap Ak h=>dt k 21 z (by kernel_rfl) z s (fun _ _ _=>id) (fun w s=>r_ixa (Enc.ow_rd Aa) Ak k ts31 z z z) fun a k=>dt k 22 z (by kernel_rfl) z s (fun _ _ _=>id) (fun w s=>r_lde1 (Enc.ow_rd Aa) ((hMd.step s).a 0 z) Ak 0 t13 k z z z z) fun a k=>dN [23,24,25] 3 z k (by kernel_rfl) z s (fun _ _ _ _ _=>id) fun a k=>bsplit (decide (As ≤ Ap)) (fun Ad=>?_) (fun Ad=>?_)
     · have h:=bif_t Ad h
       refine rB k 46 z Ad fun k=>dt k 26 z (by kernel_rfl) z s (fun _ _ _=>id) (fun w s=>r_fa fa97_4 k z z) fun a k=>dt k 27 z (by kernel_rfl) z s (fun _ _ _=>id) (fun w s=>r_ld1 t13 (r:=[]) (Ag.at ((hMd.step s).a 3 z) 4 1 z z z) k z z) fun a k=>dt k 28 z (by kernel_rfl) z s (fun _ _ _=>id) (fun w s=>r_fa fa38_5 k z z) fun a k=>dt k 29 z (by kernel_rfl) z s (fun _ _ _=>id) (fun w s=>r_ld1 t13 (r:=[]) (Af.at ((hMd.step s).a 2 z) 5 1 z z z) k z z) fun a k=>dN [30,31,32] 3 z k (by kernel_rfl) z s (fun _ _ _ _ _=>id) fun a k=>d_done (by kernel_rfl) ?_
       have k:=k.keep [4] z
       refine (nm_then ?_)
       refine wp_ret (fS h k m z z)
     have h:=bif_f Ad h
     refine rB k 46 z Ad fun k=>dN [26,27,28,29,30,31,32] 7 z k (by kernel_rfl) z s (fun _ _ _ _ _=>id) fun a k=>d_done (by kernel_rfl) ?_
     have k:=k.keep [4] z
     refine (nm_then ?_)
     refine wp_ret (fS h k m z z)
   have h:=bif_f Ae h
   refine rB k 37 z Ae fun k=>dN [17,18,19,20,21,22,23,24,25,26,27,28,29,30,31,32] 16 z k (by kernel_rfl) z s (fun _ _ _ _ _=>id) fun a k=>d_done (by kernel_rfl) ?_
   have k:=k.keep [4] z
   refine (nm_then ?_)
   refine wp_ret (fS h k m z z)
 have h:=bif_f Ac h
 refine rB k 28 z Ac fun k=>dN [8,9,10,11,12,13,14,15,16,17,18,19,20,21,22,23,24,25,26,27,28,29,30,31,32] 25 z k (by kernel_rfl) z s (fun _ _ _ _ _=>id) fun a k=>d_done (by kernel_rfl) ?_
 have k:=k.keep [4] z
 refine (nm_then ?_)
 refine wp_ret (fS h k m z z)
theorem c_spec_Class (fu:Nat) {w0:World} (r1:Request) {Ar:List Value} {F3:List Nat} (Av:rd w0 F3 Ar r1) {r:Int}
    (h:d_spec_Class fu r1 = some r) :
    Calls Tryz.prog 19 #[.agg Ar.toArray] w0 fun e w=>e = .returned (I r) ∧ Ext [] w0 w:=by
 refine enter (vs:=[_]) func19 z ntmps19 z fun a k=>?_
 have m:=St.start w0
 obtain ⟨v5,F6,v7,F8,v9,Bz,rfl,rfl,Af,Ad,Ab⟩:=Av
 unfold d_spec_Class at h
 refine wr (s_box (cs:=[I r1.fWay,I r1.fPallet.fW,I r1.fPallet.fD,I r1.fPallet.fH,I r1.fPallet.fGram,I r1.fClasses,v5,v7,I r1.fMaster,v9]) m k z z z z z z fun Ah Ao a k m e Aa=>pN 1 k z fun a k=>nn (wp_seq (wr (sv k z (r_ldB ta30 m 0 Aa 0 k z z z z z z) fun a k=>oE h fun Ca At h=>?_))))
 refine cE k m call69 z z z (c_spec_BoundsOk fu _ (show rd _ _ [I r1.fWay,I r1.fPallet.fW,I r1.fPallet.fD,I r1.fPallet.fH,I r1.fPallet.fGram,I r1.fClasses,v5,v7,I r1.fMaster,v9] (r1:Request) from ⟨_,_,_,_,_,_,z,z,(Enc.rd_agr Af (m.a00 (Enc.rd_lt Af))),(Enc.rd_agr Ad (m.a00 (Enc.rd_lt Ad))),(Enc.rd_agr Ab (m.a00 (Enc.rd_lt Ab)))⟩) At) fun Bv e a k m=>pN 1 k z fun a k=>nn (cI h k z (fun Bd h=>?_) fun Bd h=>?_)
 · refine wr (pN 1 k z fun a k=>nn (wp_ret (rt_then ?_)))
   refine fS h k m z z
 refine wp_skip (nm_then ?_)
 refine wp_seq (wr (sv k z (r_ldB ta30 m 0 Aa 0 k z z z z z z) fun a k=>oE h fun Bq Bc h=>cE k m call70 z z z (c_spec_l5Names fu _ (show rd _ _ [I r1.fWay,I r1.fPallet.fW,I r1.fPallet.fD,I r1.fPallet.fH,I r1.fPallet.fGram,I r1.fClasses,v5,v7,I r1.fMaster,v9] (r1:Request) from ⟨_,_,_,_,_,_,z,z,(Enc.rd_agr Af (m.a00 (Enc.rd_lt Af))),(Enc.rd_agr Ad (m.a00 (Enc.rd_lt Ad))),(Enc.rd_agr Ab (m.a00 (Enc.rd_lt Ab)))⟩) Bc) fun Bn e a k m=>pN 1 k z fun a k=>nn (cI h k z (fun Ax h=>?_) fun Ax h=>?_)))
 · refine wr (pN 1 k z fun a k=>nn (wp_ret (rt_then ?_)))
   refine fS h k m z z
 refine wp_skip (nm_then ?_)
 refine wp_seq (wr (sv k z (r_fa fa30_3 k z z) fun a k=>sv k z (r_ldb t126 m 0 Aa 6 k z z z z z) fun a k=>sv k z (r_fa fa30_2 k z z) fun a k=>sv k z (r_ldb t13 m 0 Aa 5 k z z z z z) fun a k=>oE h fun Bp Bg h=>cE k m call71 z z z (c_spec_TableOk fu _ _ (Enc.rd_agr Af (m.a00 (Enc.rd_lt Af))) Bg) fun Ce e a k m=>pN 1 k z fun a k=>nn (cI h k z (fun Bk h=>?_) fun Bk h=>?_)))
 · refine wr (pN 1 k z fun a k=>nn (wp_ret (rt_then ?_)))
   refine fS h k m z z
 refine wp_skip (nm_then ?_)
 refine wr (sv k z (r_ldB ta30 m 0 Aa 0 k z z z z z z) fun a k=>oE h fun Ae Au h=>cE k m call72 z z z (c_spec_MasterOf fu _ (show rd _ _ [I r1.fWay,I r1.fPallet.fW,I r1.fPallet.fD,I r1.fPallet.fH,I r1.fPallet.fGram,I r1.fClasses,v5,v7,I r1.fMaster,v9] (r1:Request) from ⟨_,_,_,_,_,_,z,z,(Enc.rd_agr Af (m.a00 (Enc.rd_lt Af))),(Enc.rd_agr Ad (m.a00 (Enc.rd_lt Ad))),(Enc.rd_agr Ab (m.a00 (Enc.rd_lt Ab)))⟩) Au) fun Cc e a k m=>pN 3 k z fun a k=>s_alloc (cs:=[I 0,I 0,I 0,I 0,I 0,I 0,I 0]) m k zeroValue38 z z z z z fun As Bw a k m e Bm=>?_)
 refine s_stb (cs':=[I Ae.1.fId,I Ae.1.fW,I Ae.1.fH,I Ae.1.fD,I Ae.1.fTare,I Ae.1.fGram,I Ae.1.fCost]) sizeOf38 m 0 Bm 0 k z z z z z z z z z z z fun Bl a k e m Be=>pN 1 k z fun a k=>nn (wp_seq (wr (pN 1 k z fun a k=>nn (wp_block (c_loop (fun n a w=>∃ (Am:Int),K 85 [(1,.pointer (some (⟨Ah,0,none⟩:Addr))),(3,.pointer (some (⟨As,0,none⟩:Addr))),(5,I Am)] a ∧ St [] w0 w [([Ah],Ao),([As],Bl)] ∧ d_spec_Class_L2 fu r1 Ae n Am = some r) ?_ ?_ fu _ _ ?_)))))
 · rintro a w ⟨_,_,_,h⟩
   exact nS h
 · rintro Bs a Bu ⟨Am,k,m,h⟩
   rw [d_spec_Class_L2_s] at h
   unfold d_spec_Class_L2_B at h
   refine wp_seq (wr (pN 1 k z fun a k=>sv k z (r_fa fa30_6 k z z) fun a k=>sv k z (r_ldb t128 m 0 Aa 9 k z z z z z) fun a k=>sv k z (r_len (α:=Item) Ab k underlying28 z z) fun a k=>pN 1 k z fun a k=>nn (cI h k z (fun Bj h=>?_) fun Bj h=>?_)))
   · refine wp_skip (nm_then ?_)
     refine wp_seq (wp_block (wp_seq (d_go [] mixo m z fun Ay hMd=>?_)))
     have m:=hMd
     have s:=Ext.refl ([]:List Nat) Ay
     refine dN [2] 1 z k (by kernel_rfl) z s (fun _ _ _ _ _=>id) fun a k=>dt k 0 z (by kernel_rfl) z s (fun _ _ _=>id) (fun w s=>r_fa fa30_6 k z z) fun a k=>dt k 1 z (by kernel_rfl) z s (fun _ _ _=>id) (fun w s=>r_ld1 t128 (r:=[]) (Aa.at ((hMd.step s).a 0 z) 9 1 z z z) k z z) fun a k=>oE h fun Az Aq h=>dt k 3 z (by kernel_rfl) z s (fun _ _ _=>id) (fun w s=>r_ixa Ab Aq k ts28 z z z) fun a k=>dt k 4 z (by kernel_rfl) z s (fun _ _ _=>id) (fun w s=>r_lde Ab ((hMd.step s).a00 (Enc.rd_lt Ab)) Aq ta97 k z z) fun a k=>dt k 5 z (by kernel_rfl) z s (fun _ _ _=>id) (fun w s=>r_ldA ta38 (Be.at ((hMd.step s).a 1 z) 0 7 z z z) z k z z) fun a k=>d_one 6 (by kernel_rfl) z (oE h fun By Bf h=>?_)
     refine cE k m call73 z z z (c_spec_Fits fu (Az:Item) (Ae.1:Typ)  Bf) fun Bo e a k m=>?_
     have s:=s.trans e (by simp)
     refine wpList_nil ⟨s,?_⟩
     refine dN [7] 1 z k (by kernel_rfl) z s (fun _ _ _ _ _=>id) fun a k=>d_done (by kernel_rfl) ((nm_then ?_))
     refine cI h k z (fun Bh h=>?_) fun Bh h=>?_
     · refine wr (pN 1 k z fun a k=>nn (wp_ret (rt_block (rt_then (rt_then (rt_block (rt_then ?_)))))))
       refine fS h k m z z
     refine wp_skip (nm_block (nm_then ?_))
     refine wp_region_lit (pN 3 k z fun a k=>nn ?_)
     exact ⟨w64 (Am + 1),k.keep [1,3,5] z,m.sel [0,1] z (by decide),h⟩
   refine wp_exit (ex_then (ex_then (ex_same (nm_then ?_))))
   refine wp_seq (wr (pN 1 k z fun a k=>nn (wp_block (c_loop (fun n a w=>∃ (Ag:Int),K 85 [(1,.pointer (some (⟨Ah,0,none⟩:Addr))),(6,I Ag)] a ∧ St [] w0 w [([Ah],Ao)] ∧ d_spec_Class_L1 fu r1 n Ag = some r) ?_ ?_ fu _ _ ?_))))
   · rintro a w ⟨_,_,_,h⟩
     exact nS h
   · rintro Aw a Bt ⟨Ag,k,m,h⟩
     rw [d_spec_Class_L1_s] at h
     unfold d_spec_Class_L1_B at h
     refine wp_seq (wr (pN 1 k z fun a k=>sv k z (r_fa fa30_4 k z z) fun a k=>sv k z (r_ldb t127 m 0 Aa 7 k z z z z z) fun a k=>sv k z (r_len (α:=Typ) Ad k underlying27 z z) fun a k=>pN 1 k z fun a k=>nn (cI h k z (fun Bb h=>?_) fun Bb h=>?_)))
     · refine wp_skip (nm_then ?_)
       refine c_cut (fun a w=>K 85 [(1,.pointer (some (⟨Ah,0,none⟩:Addr))),(6,I Ag)] a ∧ St [] w0 w [([Ah],Ao)] ∧ d_spec_Class_J1 fu (d_spec_Class_L1 fu r1 Aw) Ag = some r) ?_ ?_
       · rintro a Bx ⟨k,m,h⟩
         unfold d_spec_Class_J1 at h
         refine wp_region_lit (pN 3 k z fun a k=>nn ?_)
         exact ⟨w64 (Ag + 1),k.keep [1,6] z,m.sel [0] z (by decide),h⟩
       refine wp_block (wr (sv k z (r_fa fa30_4 k z z) fun a k=>sv k z (r_ldb t127 m 0 Aa 7 k z z z z z) fun a k=>pN 1 k z fun a k=>oE h fun Ac Ap h=>sv k z (r_ixa Ad Ap k ts27 z z z) fun a k=>sv k z (r_lde Ad (m.a00 (Enc.rd_lt Ad)) Ap ta38 k z z) fun a k=>s_alloc (cs:=[I 0,I 0,I 0,I 0,I 0,I 0,I 0]) m k zeroValue38 z z z z z fun Cb Br a k m e Ba=>s_stb (cs':=[I Ac.fId,I Ac.fW,I Ac.fH,I Ac.fD,I Ac.fTare,I Ac.fGram,I Ac.fCost]) sizeOf38 m 0 Ba 0 k z z z z z z z z z z z fun Cd a k e m Aj=>nn (wr (sv k z (r_fa fa38_1 k z z) fun a k=>?_))))
       refine sv k z (r_ldb t13 m 0 Aj 1 k z z z z z) fun a k=>sv k z (r_fa fa30_1 k z z) fun a k=>sv k z (r_fa fa25_0 k z z) fun a k=>sv k z (r_ldb t13 m 1 Aa 1 k z z z z z) fun a k=>pN 2 k z fun a k=>bsplit (decide (Ac.fW > r1.fPallet.fW)) (fun Ai=>?_) (fun Ai=>?_)
       · have h:=bif_t Ai h
         refine rB k 58 z Ai fun k=>pN 26 k z fun a k=>?_
         have k:=k.keep [1,6,84] z
         refine nn (wp_cond_true (k.ev z) (wr (pN 1 k z fun a k=>nn (wp_ret (rt_block (rt_then (rt_then (rt_block (rt_then ?_)))))))))
         refine fS h k m z z
       have h:=bif_f Ai h
       refine rB k 58 z Ai fun k=>sv k z (r_fa fa38_3 k z z) fun a k=>sv k z (r_ldb t13 m 0 Aj 3 k z z z z z) fun a k=>sv k z (r_fa fa30_1 k z z) fun a k=>sv k z (r_fa fa25_1 k z z) fun a k=>sv k z (r_ldb t13 m 1 Aa 2 k z z z z z) fun a k=>pN 3 k z fun a k=>bsplit (decide (Ac.fD > r1.fPallet.fD)) (fun Ak=>?_) (fun Ak=>?_)
       · have h:=bif_t Ak h
         refine rB k 66 z Ak fun k=>pN 18 k z fun a k=>?_
         have k:=k.keep [1,6,84] z
         refine nn (wp_cond_true (k.ev z) (wr (pN 1 k z fun a k=>nn (wp_ret (rt_block (rt_then (rt_then (rt_block (rt_then ?_)))))))))
         refine fS h k m z z
       have h:=bif_f Ak h
       refine rB k 66 z Ak fun k=>sv k z (r_fa fa38_2 k z z) fun a k=>sv k z (r_ldb t13 m 0 Aj 2 k z z z z z) fun a k=>sv k z (r_fa fa30_1 k z z) fun a k=>sv k z (r_fa fa25_2 k z z) fun a k=>sv k z (r_ldb t13 m 1 Aa 3 k z z z z z) fun a k=>pN 3 k z fun a k=>bsplit (decide (Ac.fH > r1.fPallet.fH)) (fun Al=>?_) (fun Al=>?_)
       · have h:=bif_t Al h
         refine rB k 74 z Al fun k=>pN 10 k z fun a k=>?_
         have k:=k.keep [1,6,84] z
         refine nn (wp_cond_true (k.ev z) (wr (pN 1 k z fun a k=>nn (wp_ret (rt_block (rt_then (rt_then (rt_block (rt_then ?_)))))))))
         refine fS h k m z z
       have h:=bif_f Al h
       refine rB k 74 z Al fun k=>sv k z (r_fa fa38_4 k z z) fun a k=>sv k z (r_ldb t13 m 0 Aj 4 k z z z z z) fun a k=>sv k z (r_fa fa38_5 k z z) fun a k=>sv k z (r_ldb t13 m 0 Aj 5 k z z z z z) fun a k=>pN 1 k z fun a k=>sv k z (r_fa fa30_1 k z z) fun a k=>sv k z (r_fa fa25_3 k z z) fun a k=>sv k z (r_ldb t13 m 1 Aa 4 k z z z z z) fun a k=>pN 2 k z fun a k=>?_
       have k:=k.keep [1,6,84] z
       refine nn (cI h k z (fun Bi h=>?_) fun Bi h=>?_)
       · refine wr (pN 1 k z fun a k=>nn (wp_ret (rt_block (rt_then (rt_then (rt_block (rt_then ?_)))))))
         refine fS h k m z z
       refine wp_skip (nm_block (nm_then ?_))
       exact ⟨k.keep [1,6] z,m.sel [1] z (by decide),h⟩
     refine wp_exit (ex_then (ex_then (ex_same (nm_then ?_))))
     refine wr (pN 1 k z fun a k=>nn (wp_ret (fS h k m z z)))
   exact ⟨0,k.keep [1,6] z,m.sel [0] z (by decide),h⟩
 exact ⟨0,k.keep [1,3,5] z,m.sel [1,0] z (by decide),h⟩

end Go.Proofs.YtlmibnlfkmiikaaGreat
