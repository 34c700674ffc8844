/- FnExactFront: the walks of functions that it reaches (ExactFrontBWs,part 1). Printed by gen.py. -/
import Derived.Test.YtlmibnlfkmiikaaGreatExactFrontBT
set_option maxRecDepth 20000
set_option linter.unusedSimpArgs false
set_option linter.unusedVariables false
namespace Go.Proofs.YtlmibnlfkmiikaaGreat
open Go Go.RowKit
open Enc (rd ow)
open Arg (argv)
open Ret (retv)
open Go.Proofs.Tryz


theorem c_spec_l9Carton (fu:Nat) {w0:World} (x1:Carton) {Ae:List Value} {F3:List Nat} (Aq:rd w0 F3 Ae x1) {r:Carton}
    (h:d_spec_l9Carton fu x1 = some r) :
    Calls Tryz.prog 143 #[.agg Ae.toArray] w0 fun e w=>∃ (Ad:List Value) (G0:List Nat),e = .returned (.agg Ad.toArray) ∧ Ext [] w0 w ∧ ow w G0 Ad r ∧ (∀ b ∈ G0,w0.heap.size ≤ b):=by
 refine enter (vs:=[_]) func143 z ntmps143 z fun a k=>?_
 have m:=St.start w0
 obtain ⟨v5,_,rfl,rfl,Af⟩:=Aq
 unfold d_spec_l9Carton at h
 refine wr (s_box (cs:=[I x1.fType,I x1.fGroup,v5]) m k z z z z z z fun b7 w9 a k m e Ac=>s_alloc (cs:=[I 0,I 0,.slice none 0 0]) m k zeroValue33 z z z z z fun Ab Au a k m e Al=>nn (wp_seq (d_go ([Ab]) mixo m z fun Ak hMd=>?_)))
 have m:=hMd
 have s:=Ext.refl (([Ab]):List Nat) Ak
 refine dt k 0 z (by kernel_rfl) z s (fun _ _ _=>id) (fun w s=>r_fa fa33_0 k z z) fun a k=>dt k 1 z (by kernel_rfl) z s (fun _ _ _=>id) (fun w s=>r_ld1 t13 (r:=[]) (Ac.at (hMd.az 1 0 z z z s) 0 1 z z z) k z z) fun a k=>dt k 2 z (by kernel_rfl) z s (fun _ _ _=>id) (fun w s=>r_fa fa33_1 k z z) fun a k=>dt k 3 z (by kernel_rfl) z s (fun _ _ _=>id) (fun w s=>r_ld1 t13 (r:=[]) (Ac.at (hMd.az 1 0 z z z s) 1 1 z z z) k z z) fun a k=>dt k 5 z (by kernel_rfl) z s (fun _ _ _=>id) (fun w s=>r_fa fa33_2 k z z) fun a k=>dt k 6 z (by kernel_rfl) z s (fun _ _ _=>id) (fun w s=>r_ld1 t131 (r:=[]) (Ac.at (hMd.az 1 0 z z z s) 2 1 z z z) k z z) fun a k=>d_one 4 (by kernel_rfl) z ?_
 refine s_bsN (cs:=[]) (ps:=[]) te31 m k z z z z z z z (by decide) z (by exact (List.forall_mem_nil _)) fun At Ba Ax a k m e As Aj=>?_
 have Ag:=lo1 (Nat.le_trans s.size Aj)
 have Am:=ow_bx As ([]:List Int) z z z
 have s:=s.trans e (by simp)
 refine wpList_nil ⟨s,?_⟩
 refine d_one 7 (by kernel_rfl) z (oE h fun Ay Ao h=>s_appFN Ao te31 z m 0 Am (News.rd (Enc.rd_agr Af (m.a00 (Enc.rd_lt Af)))) z z k z z z z z z z fun Ai Ah Aw a k e m Aa Ap=>?_)
 have Az:∀ y ∈ Ah,y ∈ ([Ab]) ∨ _ ≤ y:=fun y hy=>(Ap y hy).elim (fun hy=>(fun y hy=>Or.inr (Ag y hy)) y hy) (fun h=>Or.inr (Nat.le_trans s.size h))
 have s:=s.trans e (fun y hy=>Or.inr (Ag y hy))
 refine wpList_nil ⟨s,?_⟩
 refine dt k 8 z (by kernel_rfl) z s (fun _ _ _=>id) (fun w s=>r_build bt33 k (cs:=#[I x1.fType,I x1.fGroup,Ai]) (ps:=[(0,.tmp 4),(1,.tmp 6),(2,.tmp 10)]) z z (fillc z z z (fillc z z z (fillc z (rd_c (Enc.ow_rd Aa)) z z)))) fun a k=>d_one 9 (by kernel_rfl) z (s_stb (cs':=[I x1.fType,I x1.fGroup,Ai]) sizeOf33 m 1 Al 0 k z z z z z z z z z z (allc z (allc z (allc (rd_o (Enc.ow_rd Aa)) alln))) fun Av a k e m Ar=>?_)
 have s:=s.trans e (fun y hy=>Or.inl hy)
 refine wpList_nil ⟨s,?_⟩
 refine d_done (by kernel_rfl) ((nm_then ?_))
 refine wp_ret ?_
 cases h
 exact finR1 k z (RV.cA k z ta33 (Ar.at (m.a 1 z) 0 3 z z z) z) ⟨_,_,z,m.ext,⟨_,Ah,z,z,(Enc.ow_agr Aa (m.a 0 z)),by simpa [fps] using (m.sel [0] z (by decide)).nd⟩,(m.fresh 0 z)⟩
theorem c_spec_l13Copy (fu:Nat) {w0:World} (x1:Plan) {Bo:List Value} {F3:List Nat} (Dc:rd w0 F3 Bo x1) {r:Plan}
    (h:d_spec_l13Copy fu x1 = some r) :
    Calls Tryz.prog 132 #[.agg Bo.toArray] w0 fun e w=>∃ (Bn:List Value) (G0:List Nat),e = .returned (.agg Bn.toArray) ∧ Ext [] w0 w ∧ ow w G0 Bn r ∧ (∀ b ∈ G0,w0.heap.size ≤ b):=by
 refine enter (vs:=[_]) func132 z ntmps132 z fun a k=>?_
 have m:=St.start w0
 obtain ⟨v5,F6,v7,F8,rfl,rfl,Aq,Bi⟩:=Dc
 unfold d_spec_l13Copy at h
 refine wr (s_box (cs:=[v5,v7]) m k z z z z z z fun Be Bs a k m e Az=>s_alloc (cs:=[.slice none 0 0,.slice none 0 0]) m k zeroValue74 z z z z z fun Bb Co a k m e Ca=>nn (wr (s_bs (cs:=[]) (ps:=[]) te72 m k z z z z z z z (by decide) z (by exact (List.forall_mem_nil _)) fun Dv Dw Ed a k m e Df=>?_)))
 have Cl:=ow_bx Df ([]:List Spot) z z z
 refine sv k z (r_fa fa74_1 k z z) fun a k=>sv k z (r_ldb t172 m 2 Az 1 k z z z z z) fun a k=>oE h fun Dn Bx h=>s_appF Bx te72 z m 0 Cl (News.rd (Enc.rd_agr Bi (m.a00 (Enc.rd_lt Bi)))) z z k z z z z z z z fun Ac Bf De a k e m Ap=>sv k z (r_build bt74 k (cs:=#[.slice none 0 0,Ac]) (ps:=[(1,.tmp 8)]) z z (fillc z (rd_c (Enc.ow_rd Ap)) z z)) fun a k=>s_alloc (cs:=[.slice none 0 0,.slice none 0 0]) m k zeroValue74 z z z z z fun Ah Ea a k m e Cv=>s_stb (cs':=[.slice none 0 0,Ac]) sizeOf74 m 0 Cv 0 k z z z z z z z z z z (allc z (allc (rd_o (Enc.ow_rd Ap)) alln)) fun Bz a k e m Dp=>nn (wp_seq (wr (pN 1 k z fun a k=>nn (wp_block ?_))))
 refine c_loop (fun n a w=>∃ (At:List Carton) (Al:Value) (Ab:List Nat) (As:World) (Ax:World) (Ae:Int),K 29 [(1,.pointer (some (⟨Be,0,none⟩:Addr))),(2,.pointer (some (⟨Bb,0,none⟩:Addr))),(3,.pointer (some (⟨Ah,0,none⟩:Addr))),(4,I Ae)] a ∧ St [] w0 w [([Be],Bs),([Bb],Co),(Ab,As),([Ah],Ax),(Bf,De)] ∧ ow As Ab [Al] At ∧ bx Ax Ah [Al,Ac] 74 ∧ d_spec_l13Copy_L1 fu x1 Dn n At Ae = some r) ?_ ?_ fu _ _ ?_
 · rintro a w ⟨_,_,_,_,_,_,_,_,_,_,h⟩
   exact nS h
 · rintro En a Er ⟨At,Al,Ab,As,Ax,Ae,k,m,Aj,Ad,h⟩
   rw [d_spec_l13Copy_L1_s] at h
   unfold d_spec_l13Copy_L1_B at h
   refine wp_seq (wr (pN 1 k z fun a k=>sv k z (r_fa fa74_0 k z z) fun a k=>sv k z (r_ldb t143 m 0 Az 0 k z z z z z) fun a k=>sv k z (r_len (α:=Carton) Aq k underlying43 z z) fun a k=>pN 1 k z fun a k=>nn (cI h k z (fun Ch h=>?_) fun Ch h=>?_)))
   · refine wp_skip (nm_then ?_)
     refine wp_seq (wp_block (d_go (Ab ++ ([Ah])) mixo m z fun Cx hMd=>?_))
     have m:=hMd
     have s:=Ext.refl ((Ab ++ ([Ah])):List Nat) Cx
     have hMj:=(hMd.sel [2,3,0,1,4] z (by decide)).join2
     refine dN [4] 1 z k (by kernel_rfl) z s (fun _ _ _ _ _=>id) fun a k=>dt k 0 z (by kernel_rfl) z s (fun _ _ _=>id) (fun w s=>r_fa fa74_0 k z z) fun a k=>dt k 2 z (by kernel_rfl) z s (fun _ _ _=>id) (fun w s=>r_fa fa74_0 k z z) fun a k=>dt k 3 z (by kernel_rfl) z s (fun _ _ _=>id) (fun w s=>r_ld1 t143 (r:=[]) (Az.at (hMj.az 1 0 z z z s) 0 1 z z z) k z z) fun a k=>oE h fun Ag Bm h=>dt k 5 z (by kernel_rfl) z s (fun _ _ _=>id) (fun w s=>r_ixa Aq Bm k ts43 z z z) fun a k=>?_
     obtain ⟨Ei,Dr,Ej,Dm,Cb,Cm⟩:=rd_get Aq (ix_some Bm).2.2
     obtain ⟨Bj,_,rfl,rfl,Am⟩:=Dm
     refine dt k 6 z (by kernel_rfl) z s (fun _ _ _=>id) (fun w s=>r_ldA ta33 (Cb.agr (hMj.az0 0 z z (Enc.rd_lt Aq) s) Cm) z k z z) fun a k=>d_two 1 7 (by kernel_rfl) z z ?_ ?_ 
     · refine sv k z (r_ldb t143 m 3 Ad 0 k z z z z z) fun a k=>wpList_nil ⟨s,?_⟩
       refine d_one 7 (by kernel_rfl) z (oE h fun Ai Cc h=>s_call k call143 z z z z z (c_spec_l9Carton fu _ (show rd _ _ [I Ag.fType,I Ag.fGroup,Bj] (Ag:Carton) from ⟨_,_,z,z,(Enc.rd_agr Am (m.a00 (Enc.rd_lt Am)))⟩) Cc) fun Dq Dz hR=>?_)
       obtain ⟨El,Ak,rfl,e,Ar,Ba⟩:=hR
       refine ⟨_,z,fun a k=>?_⟩
       have m:=m.new e Ak (fun b hb=>⟨Ba b hb,Enc.rd_lt (Enc.ow_rd Ar) b hb⟩) (Enc.ow_nd Ar)
       have Dh:=fun (y:Nat) (hy:y ∈ Ak)=>Nat.le_trans s.size (Ba y hy)
       obtain ⟨Bk,_,rfl,rfl,Dg,_⟩:=Ar
       have s:=s.trans e (by simp)
       refine wpList_nil ⟨s,?_⟩
       refine d_one 8 (by kernel_rfl) z (s_bsN (cs:=[I Ai.fType,I Ai.fGroup,Bk]) (ps:=[(0,.tmp 24)]) te43 m k z z z z z z z (by decide) z (by exact (List.forall_mem_cons.2 ⟨z,(List.forall_mem_nil _)⟩)) fun Dt Eb Em a k m e Dd Dx=>?_)
       have s:=s.trans e (by simp)
       refine wpList_nil ⟨s,?_⟩
       refine d_one 9 (by kernel_rfl) z (oE h fun Cj Cn h=>?_)
       have Ci:ow _ (Ak) [I Ai.fType,I Ai.fGroup,Bk] (Ai:Carton):=⟨_,_,z,z,(Enc.ow_agr Dg (m.a 1 z)),by simpa [fps] using (m.sel [1] z (by decide)).nd⟩
       have Cy:=News.box Dd (m.a 0 z) (by simp) (m:=1)
       have Cz:=m.a 4 z
       have m:=m.sel [4,1,0,2,3,5,6] z (by decide)
       have m:=m.join2
       refine s_appO (F:=Ab) (G:=(Ak)) Cn te43 z m Aj Cz Cy Ci (Agr.refl _ _) k z z z z z z fun Bg Ct Cp a k e m Ay=>?_
       have s:=s.trans e (fun y hy=>(List.mem_append.1 hy).elim ((fun y hy=>Or.inl (List.mem_append_left _ hy)) y) ((fun y hy=>Or.inr (Dh y hy)) y))
       refine wpList_nil ⟨s,?_⟩
       refine dt k 10 z (by kernel_rfl) z s (fun _ _ _=>id) (fun w s=>r_fa fa74_0 k z z) fun a k=>d_one 11 (by kernel_rfl) z (s_stb1 (cs':=[Bg,Ac]) sizeOf43 m 4 Ad 0 k (rd_c (Enc.ow_rd Ay)) (rd_o (Enc.ow_rd Ay)) z z z z z z z z z fun Dj a k e m Bv=>?_)
       have s:=s.trans e (fun y hy=>Or.inl (List.mem_append_right _ hy))
       refine wpList_nil ⟨s,?_⟩
       refine d_done (by kernel_rfl) ((nm_block (nm_then ?_)))
       refine wp_region_lit (pN 3 k z fun a k=>nn ?_)
       exact ⟨Cj,Bg,Ct,Cp,Dj,w64 (Ae + 1),k.keep [1,2,3,4] z,m.sel [2,3,0,4,5] z (by decide),Ay,Bv,h⟩
     refine oE h fun Aa Ck h=>s_call k call143 z z z z z (c_spec_l9Carton fu _ (show rd _ _ [I Ag.fType,I Ag.fGroup,Bj] (Ag:Carton) from ⟨_,_,z,z,(Enc.rd_agr Am (m.a00 (Enc.rd_lt Am)))⟩) Ck) fun Ec Dy hR=>?_
     obtain ⟨Es,Af,rfl,e,Av,Bd⟩:=hR
     refine ⟨_,z,fun a k=>?_⟩
     have m:=m.new e Af (fun b hb=>⟨Bd b hb,Enc.rd_lt (Enc.ow_rd Av) b hb⟩) (Enc.ow_nd Av)
     have Bc:=fun (y:Nat) (hy:y ∈ Af)=>Nat.le_trans s.size (Bd y hy)
     obtain ⟨Ao,_,rfl,rfl,Bl,_⟩:=Av
     have s:=s.trans e (by simp)
     refine wpList_nil ⟨s,?_⟩
     refine d_two 1 8 (by kernel_rfl) z z ?_ ?_ 
     · refine sv k z (r_ldb t143 m 4 Ad 0 k z z z z z) fun a k=>wpList_nil ⟨s,?_⟩
       refine d_one 8 (by kernel_rfl) z (s_bsN (cs:=[I Aa.fType,I Aa.fGroup,Ao]) (ps:=[(0,.tmp 24)]) te43 m k z z z z z z z (by decide) z (by exact (List.forall_mem_cons.2 ⟨z,(List.forall_mem_nil _)⟩)) fun Ds Ep Eo a k m e Di Ek=>?_)
       have s:=s.trans e (by simp)
       refine wpList_nil ⟨s,?_⟩
       refine d_one 9 (by kernel_rfl) z (oE h fun Cd Cf h=>?_)
       have Cu:ow _ (Af) [I Aa.fType,I Aa.fGroup,Ao] (Aa:Carton):=⟨_,_,z,z,(Enc.ow_agr Bl (m.a 1 z)),by simpa [fps] using (m.sel [1] z (by decide)).nd⟩
       have Dk:=News.box Di (m.a 0 z) (by simp) (m:=1)
       have Dl:=m.a 4 z
       have m:=m.sel [4,1,0,2,3,5,6] z (by decide)
       have m:=m.join2
       refine s_appO (F:=Ab) (G:=(Af)) Cf te43 z m Aj Dl Dk Cu (Agr.refl _ _) k z z z z z z fun Bh Br By a k e m Aw=>?_
       have s:=s.trans e (fun y hy=>(List.mem_append.1 hy).elim ((fun y hy=>Or.inl (List.mem_append_left _ hy)) y) ((fun y hy=>Or.inr (Bc y hy)) y))
       refine wpList_nil ⟨s,?_⟩
       refine dt k 10 z (by kernel_rfl) z s (fun _ _ _=>id) (fun w s=>r_fa fa74_0 k z z) fun a k=>d_one 11 (by kernel_rfl) z (s_stb1 (cs':=[Bh,Ac]) sizeOf43 m 4 Ad 0 k (rd_c (Enc.ow_rd Aw)) (rd_o (Enc.ow_rd Aw)) z z z z z z z z z fun Cw a k e m Do=>?_)
       have s:=s.trans e (fun y hy=>Or.inl (List.mem_append_right _ hy))
       refine wpList_nil ⟨s,?_⟩
       refine d_done (by kernel_rfl) ((nm_block (nm_then ?_)))
       refine wp_region_lit (pN 3 k z fun a k=>nn ?_)
       exact ⟨Cd,Bh,Br,By,Cw,w64 (Ae + 1),k.keep [1,2,3,4] z,m.sel [2,3,0,4,5] z (by decide),Aw,Do,h⟩
     refine s_bsN (cs:=[I Aa.fType,I Aa.fGroup,Ao]) (ps:=[(0,.tmp 24)]) te43 m k z z z z z z z (by decide) z (by exact (List.forall_mem_cons.2 ⟨z,(List.forall_mem_nil _)⟩)) fun Ee Eh Du a k m e Ce Eg=>?_
     have s:=s.trans e (by simp)
     refine wpList_nil ⟨s,?_⟩
     refine d_one 1 (by kernel_rfl) z (sv k z (r_ldb t143 m 5 Ad 0 k z z z z z) fun a k=>wpList_nil ⟨s,?_⟩)
     refine d_one 9 (by kernel_rfl) z (oE h fun Cg Bt h=>?_)
     have Bq:ow _ (Af) [I Aa.fType,I Aa.fGroup,Ao] (Aa:Carton):=⟨_,_,z,z,(Enc.ow_agr Bl (m.a 1 z)),by simpa [fps] using (m.sel [1] z (by decide)).nd⟩
     have Db:=News.box Ce (m.a 0 z) (by simp) (m:=1)
     have Bu:=m.a 4 z
     have m:=m.sel [4,1,0,2,3,5,6] z (by decide)
     have m:=m.join2
     refine s_appO (F:=Ab) (G:=(Af)) Bt te43 z m Aj Bu Db Bq (Agr.refl _ _) k z z z z z z fun Bp Bw Cq a k e m Au=>?_
     have s:=s.trans e (fun y hy=>(List.mem_append.1 hy).elim ((fun y hy=>Or.inl (List.mem_append_left _ hy)) y) ((fun y hy=>Or.inr (Bc y hy)) y))
     refine wpList_nil ⟨s,?_⟩
     refine dt k 10 z (by kernel_rfl) z s (fun _ _ _=>id) (fun w s=>r_fa fa74_0 k z z) fun a k=>d_one 11 (by kernel_rfl) z (s_stb1 (cs':=[Bp,Ac]) sizeOf43 m 4 Ad 0 k (rd_c (Enc.ow_rd Au)) (rd_o (Enc.ow_rd Au)) z z z z z z z z z fun Da a k e m Cs=>?_)
     have s:=s.trans e (fun y hy=>Or.inl (List.mem_append_right _ hy))
     refine wpList_nil ⟨s,?_⟩
     refine d_done (by kernel_rfl) ((nm_block (nm_then ?_)))
     refine wp_region_lit (pN 3 k z fun a k=>nn ?_)
     exact ⟨Cg,Bp,Bw,Cq,Da,w64 (Ae + 1),k.keep [1,2,3,4] z,m.sel [2,3,0,4,5] z (by decide),Au,Cs,h⟩
   refine wp_exit (ex_then (ex_then (ex_same (nm_then ?_))))
   refine wr (sv k z (r_ldB ta74 m 3 Ad 0 k z z z z z z) fun a k=>s_stb (cs':=[Al,Ac]) sizeOf74 m 1 Ca 0 k z z z z z z z z z z (allc (rd_o (Enc.ow_rd Aj)) (allc (rd_o (Enc.ow_rd Ap)) alln)) fun Ef a k e m Cr=>nn (wp_ret ?_))
   cases h
   exact finR1 k z (RV.cA k z ta74 (Cr.at (m.a 1 z) 0 2 z z z) z) ⟨_,_,z,m.ext,⟨_,Ab,_,Bf,z,z,(Enc.ow_agr Aj (m.a 2 z)),(Enc.ow_agr Ap (m.a 4 z)),by simpa [fps] using (m.sel [2,4] z (by decide)).nd⟩,(app_fresh (m.fresh 2 z) (m.fresh 4 z))⟩
 exact ⟨([]:List Carton),.slice none 0 0,[],_,Bz,0,k.keep [1,2,3,4] z,(m.addNil (u:=w0)).sel [4,3,0,1,2] z (by decide),(ow_nil _),Dp,h⟩
theorem c_spec_l1In (fu:Nat) {w0:World} (x1:Int) (Ab:Int) (Ac:Int)  {r:Bool}
    (h:d_spec_l1In fu x1 Ab Ac = some r) :
    Calls Tryz.prog 142 #[I x1,I Ab,I Ac] w0 fun e w=>e = .returned (.bool (r)) ∧ Ext [] w0 w:=by
 refine enter (vs:=[_,_,_]) func142 z ntmps142 z fun a k=>?_
 have m:=St.start w0
 unfold d_spec_l1In at h
 refine wr (pN 1 k z fun a k=>nn (wr (pN 4 k z fun a k=>bsplit (decide (x1 ≥ Ab)) (fun Aa=>?_) (fun Aa=>?_))))
 · have h:=bif_t Aa h
   refine rB k 10 z Aa fun k=>pN 5 k z fun a k=>nn (wp_ret (fS h k m z z))
 have h:=bif_f Aa h
 refine rB k 10 z Aa fun k=>pN 5 k z fun a k=>nn (wp_ret (fS h k m z z))
theorem c_spec_l2Side (fu:Nat) {w0:World} (x1:Int)  {r:Bool}
    (h:d_spec_l2Side fu x1 = some r) :
    Calls Tryz.prog 238 #[I x1] w0 fun e w=>e = .returned (.bool (r)) ∧ Ext [] w0 w:=by
 refine enter (vs:=[_]) func238 z ntmps238 z fun a k=>?_
 have m:=St.start w0
 unfold d_spec_l2Side at h
 refine wr (pN 1 k z fun a k=>nn (wr (pN 1 k z fun a k=>oE h fun x2 Aa h=>cE k m call142 z z z (c_spec_l1In fu _ _ _  Aa) fun w5 e a k m=>pN 1 k z fun a k=>nn (wp_ret (fS h k m z z)))))
theorem c_spec_PalletOk (fu:Nat) {w0:World} (x1:Pallet)  {r:Bool}
    (h:d_spec_PalletOk fu x1 = some r) :
    Calls Tryz.prog 157 #[.agg (Flat.e (x1)).toArray] w0 fun e w=>e = .returned (.bool (r)) ∧ Ext [] w0 w:=by
 refine enter (vs:=[_]) func157 z ntmps157 z fun a k=>?_
 have m:=St.start w0
 unfold d_spec_PalletOk at h
 refine wr (s_box (cs:=[I x1.fW,I x1.fD,I x1.fH,I x1.fGram]) m k z z z z z z fun b2 w4 a k m e Ad=>pN 1 k z fun a k=>nn (wr (sv k z (r_fa fa25_0 k z z) fun a k=>sv k z (r_ldb t13 m 0 Ad 0 k z z z z z) fun a k=>oE h fun x5 Af h=>cE k m call238 z z z (c_spec_l2Side fu _  Af) fun w9 e a k m=>pN 1 k z fun a k=>bsplit (x5) (fun Aa=>?_) (fun Aa=>?_))))
 · have h:=bif_t Aa h
   refine rB k 6 z Aa fun k=>sv k z (r_fa fa25_1 k z z) fun a k=>sv k z (r_ldb t13 m 0 Ad 1 k z z z z z) fun a k=>oE h fun Aj Ah h=>cE k m call238 z z z (c_spec_l2Side fu _  Ah) fun Ak e a k m=>pN 2 k z fun a k=>bsplit (Aj) (fun Ac=>?_) (fun Ac=>?_)
   · have h:=bif_t Ac h
     refine rB k 11 z Ac fun k=>sv k z (r_fa fa25_2 k z z) fun a k=>sv k z (r_ldb t13 m 0 Ad 2 k z z z z z) fun a k=>oE h fun Ae Ag h=>cE k m call238 z z z (c_spec_l2Side fu _  Ag) fun Al e a k m=>pN 2 k z fun a k=>bsplit (Ae) (fun Ab=>?_) (fun Ab=>?_)
     · have h:=bif_t Ab h
       refine rB k 16 z Ab fun k=>sv k z (r_fa fa25_3 k z z) fun a k=>sv k z (r_ldb t13 m 0 Ad 3 k z z z z z) fun a k=>oE h fun Am Ai h=>cE k m call142 z z z (c_spec_l1In fu _ _ _  Ai) fun Ao e a k m=>pN 2 k z fun a k=>nn (wp_ret (fS h k m z z))
     have h:=bif_f Ab h
     refine rB k 16 z Ab fun k=>pN 5 k z fun a k=>nn (wp_ret (fS h k m z z))
   have h:=bif_f Ac h
   refine rB k 11 z Ac fun k=>pN 10 k z fun a k=>nn (wp_ret (fS h k m z z))
 have h:=bif_f Aa h
 refine rB k 6 z Aa fun k=>pN 15 k z fun a k=>nn (wp_ret (fS h k m z z))
theorem c_spec_l2Id (fu:Nat) {w0:World} (x1:Int)  {r:Bool}
    (h:d_spec_l2Id fu x1 = some r) :
    Calls Tryz.prog 158 #[I x1] w0 fun e w=>e = .returned (.bool (r)) ∧ Ext [] w0 w:=by
 refine enter (vs:=[_]) func158 z ntmps158 z fun a k=>?_
 have m:=St.start w0
 unfold d_spec_l2Id at h
 refine wr (pN 1 k z fun a k=>nn (wr (pN 1 k z fun a k=>oE h fun x2 Aa h=>cE k m call142 z z z (c_spec_l1In fu _ _ _  Aa) fun w5 e a k m=>pN 1 k z fun a k=>nn (wp_ret (fS h k m z z)))))
theorem c_spec_TypeOk (fu:Nat) {w0:World} (x1:Typ)  {r:Bool}
    (h:d_spec_TypeOk fu x1 = some r) :
    Calls Tryz.prog 159 #[.agg (Flat.e (x1)).toArray] w0 fun e w=>e = .returned (.bool (r)) ∧ Ext [] w0 w:=by
 refine enter (vs:=[_]) func159 z ntmps159 z fun a k=>?_
 have m:=St.start w0
 unfold d_spec_TypeOk at h
 refine wr (s_box (cs:=[I x1.fId,I x1.fW,I x1.fH,I x1.fD,I x1.fTare,I x1.fGram,I x1.fCost]) m k z z z z z z fun b2 w4 a k m e Aa=>pN 1 k z fun a k=>nn (wr (sv k z (r_fa fa38_0 k z z) fun a k=>sv k z (r_ldb t13 m 0 Aa 0 k z z z z z) fun a k=>oE h fun x5 Ak h=>cE k m call158 z z z (c_spec_l2Id fu _  Ak) fun w9 e a k m=>pN 1 k z fun a k=>bsplit (x5) (fun Ab=>?_) (fun Ab=>?_))))
 · have h:=bif_t Ab h
   refine rB k 6 z Ab fun k=>sv k z (r_fa fa38_1 k z z) fun a k=>sv k z (r_ldb t13 m 0 Aa 1 k z z z z z) fun a k=>oE h fun Aq Al h=>cE k m call238 z z z (c_spec_l2Side fu _  Al) fun Az e a k m=>pN 2 k z fun a k=>bsplit (Aq) (fun Ac=>?_) (fun Ac=>?_)
   · have h:=bif_t Ac h
     refine rB k 11 z Ac fun k=>sv k z (r_fa fa38_2 k z z) fun a k=>sv k z (r_ldb t13 m 0 Aa 2 k z z z z z) fun a k=>oE h fun Ah Ai h=>cE k m call238 z z z (c_spec_l2Side fu _  Ai) fun Ax e a k m=>pN 2 k z fun a k=>bsplit (Ah) (fun Ag=>?_) (fun Ag=>?_)
     · have h:=bif_t Ag h
       refine rB k 16 z Ag fun k=>sv k z (r_fa fa38_3 k z z) fun a k=>sv k z (r_ldb t13 m 0 Aa 3 k z z z z z) fun a k=>oE h fun Ao Am h=>cE k m call238 z z z (c_spec_l2Side fu _  Am) fun Av e a k m=>pN 2 k z fun a k=>bsplit (Ao) (fun Ad=>?_) (fun Ad=>?_)
       · have h:=bif_t Ad h
         refine rB k 21 z Ad fun k=>sv k z (r_fa fa38_4 k z z) fun a k=>sv k z (r_ldb t13 m 0 Aa 4 k z z z z z) fun a k=>oE h fun At Aj h=>cE k m call142 z z z (c_spec_l1In fu _ _ _  Aj) fun Au e a k m=>pN 2 k z fun a k=>bsplit (At) (fun Af=>?_) (fun Af=>?_)
         · have h:=bif_t Af h
           refine rB k 26 z Af fun k=>sv k z (r_fa fa38_5 k z z) fun a k=>sv k z (r_ldb t13 m 0 Aa 5 k z z z z z) fun a k=>oE h fun Ap Ar h=>cE k m call142 z z z (c_spec_l1In fu _ _ _  Ar) fun Aw e a k m=>pN 2 k z fun a k=>bsplit (Ap) (fun Ae=>?_) (fun Ae=>?_)
           · have h:=bif_t Ae h
             refine rB k 31 z Ae fun k=>sv k z (r_fa fa38_6 k z z) fun a k=>sv k z (r_ldb t13 m 0 Aa 6 k z z z z z) fun a k=>oE h fun Ba As h=>cE k m call142 z z z (c_spec_l1In fu _ _ _  As) fun Ay e a k m=>pN 2 k z fun a k=>?_
             have k:=k.keep [2] z
             refine nn (wp_ret (fS h k m z z))
           have h:=bif_f Ae h
           refine rB k 31 z Ae fun k=>pN 5 k z fun a k=>?_
           have k:=k.keep [2] z
           refine nn (wp_ret (fS h k m z z))
         have h:=bif_f Af h
         refine rB k 26 z Af fun k=>pN 10 k z fun a k=>?_
         have k:=k.keep [2] z
         refine nn (wp_ret (fS h k m z z))
       have h:=bif_f Ad h
       refine rB k 21 z Ad fun k=>pN 15 k z fun a k=>?_
       have k:=k.keep [2] z
       refine nn (wp_ret (fS h k m z z))
     have h:=bif_f Ag h
     refine rB k 16 z Ag fun k=>pN 20 k z fun a k=>?_
     have k:=k.keep [2] z
     refine nn (wp_ret (fS h k m z z))
   have h:=bif_f Ac h
   refine rB k 11 z Ac fun k=>pN 25 k z fun a k=>?_
   have k:=k.keep [2] z
   refine nn (wp_ret (fS h k m z z))
 have h:=bif_f Ab h
 refine rB k 6 z Ab fun k=>pN 30 k z fun a k=>?_
 have k:=k.keep [2] z
 refine nn (wp_ret (fS h k m z z))
theorem c_spec_ItemOk (fu:Nat) {w0:World} (x1:Item)  {r:Bool}
    (h:d_spec_ItemOk fu x1 = some r) :
    Calls Tryz.prog 160 #[.agg (Flat.e (x1)).toArray] w0 fun e w=>e = .returned (.bool (r)) ∧ Ext [] w0 w:=by
 refine enter (vs:=[_]) func160 z ntmps160 z fun a k=>?_
 have m:=St.start w0
 unfold d_spec_ItemOk at h
 refine wr (s_box (cs:=[I x1.fId,I x1.fW,I x1.fH,I x1.fD,I x1.fGram,I x1.fClass,I x1.fCount]) m k z z z z z z fun b2 w4 a k m e Aa=>pN 1 k z fun a k=>nn (wr (sv k z (r_fa fa97_0 k z z) fun a k=>sv k z (r_ldb t13 m 0 Aa 0 k z z z z z) fun a k=>oE h fun x5 Ak h=>cE k m call158 z z z (c_spec_l2Id fu _  Ak) fun w9 e a k m=>pN 1 k z fun a k=>bsplit (x5) (fun Ab=>?_) (fun Ab=>?_))))
 · have h:=bif_t Ab h
   refine rB k 6 z Ab fun k=>sv k z (r_fa fa97_1 k z z) fun a k=>sv k z (r_ldb t13 m 0 Aa 1 k z z z z z) fun a k=>oE h fun Aq Al h=>cE k m call238 z z z (c_spec_l2Side fu _  Al) fun Az e a k m=>pN 2 k z fun a k=>bsplit (Aq) (fun Ac=>?_) (fun Ac=>?_)
   · have h:=bif_t Ac h
     refine rB k 11 z Ac fun k=>sv k z (r_fa fa97_2 k z z) fun a k=>sv k z (r_ldb t13 m 0 Aa 2 k z z z z z) fun a k=>oE h fun Ah Ai h=>cE k m call238 z z z (c_spec_l2Side fu _  Ai) fun Ax e a k m=>pN 2 k z fun a k=>bsplit (Ah) (fun Ag=>?_) (fun Ag=>?_)
     · have h:=bif_t Ag h
       refine rB k 16 z Ag fun k=>sv k z (r_fa fa97_3 k z z) fun a k=>sv k z (r_ldb t13 m 0 Aa 3 k z z z z z) fun a k=>oE h fun Ao Am h=>cE k m call238 z z z (c_spec_l2Side fu _  Am) fun Av e a k m=>pN 2 k z fun a k=>bsplit (Ao) (fun Ad=>?_) (fun Ad=>?_)
       · have h:=bif_t Ad h
         refine rB k 21 z Ad fun k=>sv k z (r_fa fa97_4 k z z) fun a k=>sv k z (r_ldb t13 m 0 Aa 4 k z z z z z) fun a k=>oE h fun At Aj h=>cE k m call142 z z z (c_spec_l1In fu _ _ _  Aj) fun Au e a k m=>pN 2 k z fun a k=>bsplit (At) (fun Af=>?_) (fun Af=>?_)
         · have h:=bif_t Af h
           refine rB k 26 z Af fun k=>sv k z (r_fa fa97_5 k z z) fun a k=>sv k z (r_ldb t13 m 0 Aa 5 k z z z z z) fun a k=>oE h fun Ap Ar h=>cE k m call142 z z z (c_spec_l1In fu _ _ _  Ar) fun Aw e a k m=>pN 2 k z fun a k=>bsplit (Ap) (fun Ae=>?_) (fun Ae=>?_)
           · have h:=bif_t Ae h
             refine rB k 31 z Ae fun k=>sv k z (r_fa fa97_6 k z z) fun a k=>sv k z (r_ldb t13 m 0 Aa 6 k z z z z z) fun a k=>oE h fun Ba As h=>cE k m call142 z z z (c_spec_l1In fu _ _ _  As) fun Ay e a k m=>pN 2 k z fun a k=>?_
             have k:=k.keep [2] z
             refine nn (wp_ret (fS h k m z z))
           have h:=bif_f Ae h
           refine rB k 31 z Ae fun k=>pN 5 k z fun a k=>?_
           have k:=k.keep [2] z
           refine nn (wp_ret (fS h k m z z))
         have h:=bif_f Af h
         refine rB k 26 z Af fun k=>pN 10 k z fun a k=>?_
         have k:=k.keep [2] z
         refine nn (wp_ret (fS h k m z z))
       have h:=bif_f Ad h
       refine rB k 21 z Ad fun k=>pN 15 k z fun a k=>?_
       have k:=k.keep [2] z
       refine nn (wp_ret (fS h k m z z))
     have h:=bif_f Ag h
     refine rB k 16 z Ag fun k=>pN 20 k z fun a k=>?_
     have k:=k.keep [2] z
     refine nn (wp_ret (fS h k m z z))
   have h:=bif_f Ac h
   refine rB k 11 z Ac fun k=>pN 25 k z fun a k=>?_
   have k:=k.keep [2] z
   refine nn (wp_ret (fS h k m z z))
 have h:=bif_f Ab h
 refine rB k 6 z Ab fun k=>pN 30 k z fun a k=>?_
 have k:=k.keep [2] z
 refine nn (wp_ret (fS h k m z z))
theorem c_spec_BoundsOk (fu:Nat) {w0:World} (r1:Request) {Av:List Value} {F3:List Nat} (Bp:rd w0 F3 Av r1) {r:Bool}
    (h:d_spec_BoundsOk fu r1 = some r) :
    Calls Tryz.prog 69 #[.agg Av.toArray] w0 fun e w=>e = .returned (.bool (r)) ∧ Ext [] w0 w:=by
 refine enter (vs:=[_]) func69 z ntmps69 z fun a k=>?_
 have m:=St.start w0
 obtain ⟨v5,F6,v7,F8,v9,Cm,rfl,rfl,Ac,Aj,Ad⟩:=Bp
 unfold d_spec_BoundsOk at h
 refine wr (s_box (cs:=[I r1.fWay,I r1.fPallet.fW,I r1.fPallet.fD,I r1.fPallet.fH,I r1.fPallet.fGram,I r1.fClasses,v5,v7,I r1.fMaster,v9]) m k z z z z z z fun Ab Al a k m e Aa=>pN 1 k z fun a k=>nn (c_cut (fun a w=>K 111 [(1,.pointer (some (⟨Ab,0,none⟩:Addr)))] a ∧ St [] w0 w [([Ab],Al)] ∧ d_spec_BoundsOk_J2 fu r1 = some r) ?_ ?_))
 · rintro a Bz ⟨k,m,h⟩
   unfold d_spec_BoundsOk_J2 at h
   refine wp_seq (wr (pN 1 k z fun a k=>nn (wp_block (c_loop (fun n a w=>∃ (Ae:Int),K 111 [(1,.pointer (some (⟨Ab,0,none⟩:Addr))),(3,I Ae)] a ∧ St [] w0 w [([Ab],Al)] ∧ d_spec_BoundsOk_L3 fu r1 n Ae = some r) ?_ ?_ fu _ _ ?_))))
   · rintro a w ⟨_,_,_,h⟩
     exact nS h
   · rintro Bt a Cn ⟨Ae,k,m,h⟩
     rw [d_spec_BoundsOk_L3_s] at h
     unfold d_spec_BoundsOk_L3_B at h
     refine wp_seq (wr (pN 1 k z fun a k=>sv k z (r_fa fa30_3 k z z) fun a k=>sv k z (r_ldb t126 m 0 Aa 6 k z z z z z) fun a k=>sv k z (r_len (α:=Pair) Ac k underlying26 z z) fun a k=>pN 1 k z fun a k=>nn (cI h k z (fun Bg h=>?_) fun Bg h=>?_)))
     · refine wp_skip (nm_then ?_)
       refine c_cut (fun a w=>K 111 [(1,.pointer (some (⟨Ab,0,none⟩:Addr))),(3,I Ae)] a ∧ St [] w0 w [([Ab],Al)] ∧ d_spec_BoundsOk_J1 fu (d_spec_BoundsOk_L3 fu r1 Bt) Ae = some r) ?_ ?_
       · rintro a Cf ⟨k,m,h⟩
         unfold d_spec_BoundsOk_J1 at h
         refine wp_region_lit (pN 3 k z fun a k=>nn ?_)
         exact ⟨w64 (Ae + 1),k.keep [1,3] z,m.sel [0] z (by decide),h⟩
       refine wp_block (wr (sv k z (r_fa fa30_3 k z z) fun a k=>sv k z (r_ldb t126 m 0 Aa 6 k z z z z z) fun a k=>pN 1 k z fun a k=>oE h fun Cd As h=>sv k z (r_ixa Ac As k ts26 z z z) fun a k=>sv k z (r_fa fa158_0 k z z) fun a k=>sv k z (r_lde1 Ac (m.a00 (Enc.rd_lt Ac)) As 0 t13 k z z z z) fun a k=>oE h fun Bm Bu h=>cE k m call142 z z z (c_spec_l1In fu _ _ _  Bu) fun Cc e a k m=>pN 2 k z fun a k=>bsplit (!Bm) (fun Ak=>?_) (fun Ak=>?_)))
       · have h:=bif_t Ak h
         refine rB k 63 z Ak fun k=>pN 9 k z fun a k=>nn (wp_cond_true (k.ev z) (wr (pN 1 k z fun a k=>nn (wp_ret (rt_block (rt_then (rt_then (rt_block (rt_then ?_)))))))))
         refine fS h k m z z
       have h:=bif_f Ak h
       refine rB k 63 z Ak fun k=>sv k z (r_fa fa30_3 k z z) fun a k=>sv k z (r_ldb t126 m 0 Aa 6 k z z z z z) fun a k=>pN 1 k z fun a k=>oE h fun Ci Cj h=>sv k z (r_ixa Ac As k ts26 z z z) fun a k=>sv k z (r_fa fa158_1 k z z) fun a k=>sv k z (r_lde1 Ac (m.a00 (Enc.rd_lt Ac)) As 1 t13 k z z z z) fun a k=>oE h fun Ck Bl h=>cE k m call142 z z z (c_spec_l1In fu _ _ _  Bl) fun Bw e a k m=>pN 2 k z fun a k=>nn (cI h k z (fun Bc h=>?_) fun Bc h=>?_)
       · refine wr (pN 1 k z fun a k=>nn (wp_ret (rt_block (rt_then (rt_then (rt_block (rt_then ?_)))))))
         refine fS h k m z z
       refine wp_skip (nm_block (nm_then ?_))
       exact ⟨k.keep [1,3] z,m.sel [0] z (by decide),h⟩
     refine wp_exit (ex_then (ex_then (ex_same (nm_then ?_))))
     refine wp_seq (wr (pN 1 k z fun a k=>nn (wp_block (c_loop (fun n a w=>∃ (Ap:Int),K 111 [(1,.pointer (some (⟨Ab,0,none⟩:Addr))),(4,I Ap)] a ∧ St [] w0 w [([Ab],Al)] ∧ d_spec_BoundsOk_L2 fu r1 n Ap = some r) ?_ ?_ fu _ _ ?_))))
     · rintro a w ⟨_,_,_,h⟩
       exact nS h
     · rintro Cq a Cp ⟨Ap,k,m,h⟩
       rw [d_spec_BoundsOk_L2_s] at h
       unfold d_spec_BoundsOk_L2_B at h
       refine wp_seq (wr (pN 1 k z fun a k=>sv k z (r_fa fa30_4 k z z) fun a k=>sv k z (r_ldb t127 m 0 Aa 7 k z z z z z) fun a k=>sv k z (r_len (α:=Typ) Aj k underlying27 z z) fun a k=>pN 1 k z fun a k=>nn (cI h k z (fun Br h=>?_) fun Br h=>?_)))
       · refine wp_skip (nm_then ?_)
         refine wp_seq (wp_block (wr (sv k z (r_fa fa30_4 k z z) fun a k=>sv k z (r_ldb t127 m 0 Aa 7 k z z z z z) fun a k=>pN 1 k z fun a k=>oE h fun Ax Au h=>sv k z (r_ixa Aj Au k ts27 z z z) fun a k=>sv k z (r_lde Aj (m.a00 (Enc.rd_lt Aj)) Au ta38 k z z) fun a k=>oE h fun Cu Az h=>cE k m call159 z z z (c_spec_TypeOk fu (Ax:Typ)  Az) fun Ct e a k m=>pN 1 k z fun a k=>nn (cI h k z (fun Bv h=>?_) fun Bv h=>?_))))
         · refine wr (pN 1 k z fun a k=>nn (wp_ret (rt_block (rt_then (rt_then (rt_block (rt_then ?_)))))))
           refine fS h k m z z
         refine wp_skip (nm_block (nm_then ?_))
         refine wp_region_lit (pN 3 k z fun a k=>nn ?_)
         exact ⟨w64 (Ap + 1),k.keep [1,4] z,m.sel [0] z (by decide),h⟩
       refine wp_exit (ex_then (ex_then (ex_same (nm_then ?_))))
       refine wr (pN 1 k z fun a k=>nn (wp_seq (wr (pN 1 k z fun a k=>nn (wp_block (c_loop (fun n a w=>∃ (At:Int) (Ar:Int),K 111 [(1,.pointer (some (⟨Ab,0,none⟩:Addr))),(5,I At),(6,I Ar)] a ∧ St [] w0 w [([Ab],Al)] ∧ d_spec_BoundsOk_L1 fu r1 n At Ar = some r) ?_ ?_ fu _ _ ?_))))))
       · rintro a w ⟨_,_,_,_,h⟩
         exact nS h
       · rintro Ch a Cl ⟨At,Ar,k,m,h⟩
         rw [d_spec_BoundsOk_L1_s] at h
         unfold d_spec_BoundsOk_L1_B at h
         refine wp_seq (wr (pN 1 k z fun a k=>sv k z (r_fa fa30_6 k z z) fun a k=>sv k z (r_ldb t128 m 0 Aa 9 k z z z z z) fun a k=>sv k z (r_len (α:=Item) Ad k underlying28 z z) fun a k=>pN 1 k z fun a k=>nn (cI h k z (fun Bq h=>?_) fun Bq h=>?_)))
         · refine wp_skip (nm_then ?_)
           refine wp_seq (wp_block (wp_seq (wr (sv k z (r_fa fa30_6 k z z) fun a k=>sv k z (r_ldb t128 m 0 Aa 9 k z z z z z) fun a k=>pN 1 k z fun a k=>oE h fun Aw Aq h=>sv k z (r_ixa Ad Aq k ts28 z z z) fun a k=>sv k z (r_lde Ad (m.a00 (Enc.rd_lt Ad)) Aq ta97 k z z) fun a k=>oE h fun Bx Bh h=>cE k m call160 z z z (c_spec_ItemOk fu (Aw:Item)  Bh) fun Ca e a k m=>pN 1 k z fun a k=>nn (cI h k z (fun Bi h=>?_) fun Bi h=>?_)))))
           · refine wr (pN 1 k z fun a k=>nn (wp_ret (rt_then (rt_block (rt_then (rt_then (rt_block (rt_then ?_))))))))
             refine fS h k m z z
           refine wp_skip (nm_then ?_)
           refine wp_region_lit (pN 1 k z fun a k=>sv k z (r_fa fa30_6 k z z) fun a k=>sv k z (r_ldb t128 m 0 Aa 9 k z z z z z) fun a k=>pN 1 k z fun a k=>oE h fun Cs By h=>sv k z (r_ixa Ad Aq k ts28 z z z) fun a k=>sv k z (r_fa fa97_6 k z z) fun a k=>sv k z (r_lde1 Ad (m.a00 (Enc.rd_lt Ad)) Aq 6 t13 k z z z z) fun a k=>pN 2 k z fun a k=>wpList_nil (nm_block (nm_then ?_)))
           refine wp_region_lit (pN 3 k z fun a k=>nn ?_)
           exact ⟨w64 (At + Aw.fCount),w64 (Ar + 1),k.keep [1,5,6] z,m.sel [0] z (by decide),h⟩
         refine wp_exit (ex_then (ex_then (ex_same (nm_then ?_))))
         refine wr (pN 3 k z fun a k=>nn (wp_ret (fS h k m z z)))
       exact ⟨0,0,k.keep [1,5,6] z,m.sel [0] z (by decide),h⟩
     exact ⟨0,k.keep [1,4] z,m.sel [0] z (by decide),h⟩
   exact ⟨0,k.keep [1,3] z,m.sel [0] z (by decide),h⟩
 refine wr (sv k z (r_fa fa30_0 k z z) fun a k=>sv k z (r_ldb t13 m 0 Aa 0 k z z z z z) fun a k=>oE h fun Bo Be h=>cE k m call142 z z z (c_spec_l1In fu _ _ _  Be) fun Cr e a k m=>pN 2 k z fun a k=>bsplit (!Bo) (fun Ao=>?_) (fun Ao=>?_))
 · have h:=bif_t Ao h
   refine rB k 11 z Ao fun k=>pN 36 k z fun a k=>?_
   have k:=k.keep [1,47] z
   refine nn (wp_cond_true (k.ev z) (wr (pN 1 k z fun a k=>nn (wp_ret (rt_then ?_)))))
   refine fS h k m z z
 have h:=bif_f Ao h
 refine rB k 11 z Ao fun k=>sv k z (r_fa fa30_1 k z z) fun a k=>sv k z (r_ldB ta25 m 0 Aa 1 k z z z z z z) fun a k=>oE h fun Bk Bs h=>cE k m call157 z z z (c_spec_PalletOk fu (r1.fPallet:Pallet)  Bs) fun Ce e a k m=>pN 3 k z fun a k=>bsplit (!Bk) (fun Ag=>?_) (fun Ag=>?_)
 · have h:=bif_t Ag h
   refine rB k 17 z Ag fun k=>pN 30 k z fun a k=>?_
   have k:=k.keep [1,47] z
   refine nn (wp_cond_true (k.ev z) (wr (pN 1 k z fun a k=>nn (wp_ret (rt_then ?_)))))
   refine fS h k m z z
 have h:=bif_f Ag h
 refine rB k 17 z Ag fun k=>sv k z (r_fa fa30_2 k z z) fun a k=>sv k z (r_ldb t13 m 0 Aa 5 k z z z z z) fun a k=>oE h fun Bd Bf h=>cE k m call142 z z z (c_spec_l1In fu _ _ _  Bf) fun Cg e a k m=>pN 3 k z fun a k=>bsplit (!Bd) (fun Am=>?_) (fun Am=>?_)
 · have h:=bif_t Am h
   refine rB k 23 z Am fun k=>pN 24 k z fun a k=>?_
   have k:=k.keep [1,47] z
   refine nn (wp_cond_true (k.ev z) (wr (pN 1 k z fun a k=>nn (wp_ret (rt_then ?_)))))
   refine fS h k m z z
 have h:=bif_f Am h
 refine rB k 23 z Am fun k=>sv k z (r_fa fa30_3 k z z) fun a k=>sv k z (r_ldb t126 m 0 Aa 6 k z z z z z) fun a k=>sv k z (r_len (α:=Pair) Ac k underlying26 z z) fun a k=>pN 3 k z fun a k=>bsplit (decide (((r1.fPairs.length:Int)) > 16)) (fun Ai=>?_) (fun Ai=>?_)
 · have h:=bif_t Ai h
   refine rB k 29 z Ai fun k=>pN 18 k z fun a k=>?_
   have k:=k.keep [1,47] z
   refine nn (wp_cond_true (k.ev z) (wr (pN 1 k z fun a k=>nn (wp_ret (rt_then ?_)))))
   refine fS h k m z z
 have h:=bif_f Ai h
 refine rB k 29 z Ai fun k=>sv k z (r_fa fa30_4 k z z) fun a k=>sv k z (r_ldb t127 m 0 Aa 7 k z z z z z) fun a k=>sv k z (r_len (α:=Typ) Aj k underlying27 z z) fun a k=>oE h fun Bb Bj h=>cE k m call142 z z z (c_spec_l1In fu _ _ _  Bj) fun Cb e a k m=>pN 3 k z fun a k=>bsplit (!Bb) (fun Ah=>?_) (fun Ah=>?_)
 · have h:=bif_t Ah h
   refine rB k 36 z Ah fun k=>pN 11 k z fun a k=>?_
   have k:=k.keep [1,47] z
   refine nn (wp_cond_true (k.ev z) (wr (pN 1 k z fun a k=>nn (wp_ret (rt_then ?_)))))
   refine fS h k m z z
 have h:=bif_f Ah h
 refine rB k 36 z Ah fun k=>sv k z (r_fa fa30_5 k z z) fun a k=>sv k z (r_ldb t13 m 0 Aa 8 k z z z z z) fun a k=>oE h fun Bn Ay h=>cE k m call158 z z z (c_spec_l2Id fu _  Ay) fun Co e a k m=>pN 3 k z fun a k=>bsplit (!Bn) (fun Af=>?_) (fun Af=>?_)
 · have h:=bif_t Af h
   refine rB k 42 z Af fun k=>pN 5 k z fun a k=>?_
   have k:=k.keep [1,47] z
   refine nn (wp_cond_true (k.ev z) (wr (pN 1 k z fun a k=>nn (wp_ret (rt_then ?_)))))
   refine fS h k m z z
 have h:=bif_f Af h
 refine rB k 42 z Af fun k=>sv k z (r_fa fa30_6 k z z) fun a k=>sv k z (r_ldb t128 m 0 Aa 9 k z z z z z) fun a k=>sv k z (r_len (α:=Item) Ad k underlying28 z z) fun a k=>pN 2 k z fun a k=>?_
 have k:=k.keep [1,47] z
 refine nn (cI h k z (fun Ba h=>?_) fun Ba h=>?_)
 · refine wr (pN 1 k z fun a k=>nn (wp_ret (rt_then ?_)))
   refine fS h k m z z
 refine wp_skip (nm_then ?_)
 exact ⟨k.keep [1] z,m.sel [0] z (by decide),h⟩
theorem c_spec_MasterOf (fu:Nat) {w0:World} (r1:Request) {Ag:List Value} {F3:List Nat} (Aq:rd w0 F3 Ag r1) {r:Typ × Bool}
    (h:d_spec_MasterOf fu r1 = some r) :
    Calls Tryz.prog 72 #[.agg Ag.toArray] w0 fun e w=>e = .returned (.tuple #[.agg (Flat.e r.1).toArray,.bool (r.2)]) ∧ Ext [] w0 w:=by
 refine enter (vs:=[_]) func72 z ntmps72 z fun a k=>?_
 have m:=St.start w0
 obtain ⟨v5,F6,v7,F8,v9,Aw,rfl,rfl,At,Aa,Ba⟩:=Aq
 unfold d_spec_MasterOf at h
 refine wr (s_box (cs:=[I r1.fWay,I r1.fPallet.fW,I r1.fPallet.fD,I r1.fPallet.fH,I r1.fPallet.fGram,I r1.fClasses,v5,v7,I r1.fMaster,v9]) m k z z z z z z fun Ah Ao a k m e Ac=>s_alloc (cs:=[I 0,I 0,I 0,I 0,I 0,I 0,I 0]) m k zeroValue38 z z z z z fun Af Ap a k m e Ai=>pN 1 k z fun a k=>nn (wp_seq (wr (pN 1 k z fun a k=>nn (wp_block (c_loop (fun n a w=>∃ (Ae:Int),K 27 [(1,.pointer (some (⟨Ah,0,none⟩:Addr))),(2,.pointer (some (⟨Af,0,none⟩:Addr))),(4,I Ae)] a ∧ St [] w0 w [([Ah],Ao),([Af],Ap)] ∧ d_spec_MasterOf_L1 fu r1 n Ae = some r) ?_ ?_ fu _ _ ?_))))))
 · rintro a w ⟨_,_,_,h⟩
   exact nS h
 · rintro Ay a Au ⟨Ae,k,m,h⟩
   rw [d_spec_MasterOf_L1_s] at h
   unfold d_spec_MasterOf_L1_B at h
   refine wp_seq (wr (pN 1 k z fun a k=>sv k z (r_fa fa30_4 k z z) fun a k=>sv k z (r_ldb t127 m 0 Ac 7 k z z z z z) fun a k=>sv k z (r_len (α:=Typ) Aa k underlying27 z z) fun a k=>pN 1 k z fun a k=>nn (cI h k z (fun Ak h=>?_) fun Ak h=>?_)))
   · refine wp_skip (nm_then ?_)
     refine wp_seq (wp_block (wp_seq (d_go [] mixo m z fun Al hMd=>?_)))
     have m:=hMd
     have s:=Ext.refl ([]:List Nat) Al
     refine dN [2] 1 z k (by kernel_rfl) z s (fun _ _ _ _ _=>id) fun a k=>dt k 0 z (by kernel_rfl) z s (fun _ _ _=>id) (fun w s=>r_fa fa30_4 k z z) fun a k=>dt k 1 z (by kernel_rfl) z s (fun _ _ _=>id) (fun w s=>r_ld1 t127 (r:=[]) (Ac.at ((hMd.step s).a 0 z) 7 1 z z z) k z z) fun a k=>oE h fun Ab Ad h=>dt k 3 z (by kernel_rfl) z s (fun _ _ _=>id) (fun w s=>r_ixa Aa Ad k ts27 z z z) fun a k=>dt k 4 z (by kernel_rfl) z s (fun _ _ _=>id) (fun w s=>r_fa fa38_0 k z z) fun a k=>dt k 5 z (by kernel_rfl) z s (fun _ _ _=>id) (fun w s=>r_lde1 Aa ((hMd.step s).a00 (Enc.rd_lt Aa)) Ad 0 t13 k z z z z) fun a k=>dt k 6 z (by kernel_rfl) z s (fun _ _ _=>id) (fun w s=>r_fa fa30_5 k z z) fun a k=>?_
     refine dt k 7 z (by kernel_rfl) z s (fun _ _ _=>id) (fun w s=>r_ld1 t13 (r:=[]) (Ac.at ((hMd.step s).a 0 z) 8 1 z z z) k z z) fun a k=>dN [8] 1 z k (by kernel_rfl) z s (fun _ _ _ _ _=>id) fun a k=>d_done (by kernel_rfl) ((nm_then ?_))
     refine cI h k z (fun Aj h=>?_) fun Aj h=>?_
     · refine wr (sv k z (r_fa fa30_4 k z z) fun a k=>sv k z (r_ldb t127 m 0 Ac 7 k z z z z z) fun a k=>pN 1 k z fun a k=>oE h fun Az Av h=>sv k z (r_ixa Aa Ad k ts27 z z z) fun a k=>sv k z (r_lde Aa (m.a00 (Enc.rd_lt Aa)) Ad ta38 k z z) fun a k=>s_stb (cs':=[I Ab.fId,I Ab.fW,I Ab.fH,I Ab.fD,I Ab.fTare,I Ab.fGram,I Ab.fCost]) sizeOf38 m 1 Ai 0 k z z z z z z z z z z z fun Ax a k e m Ar=>pN 1 k z fun a k=>nn (wp_ret (rt_block (rt_then (rt_then (rt_block (rt_then ?_)))))))
       cases h
       exact finR2 k z (RV.cA k z ta38 (Ar.at (m.a 1 z) 0 7 z z z) z) (RV.tmp k z) ⟨z,m.ext⟩
     refine wp_skip (nm_block (nm_then ?_))
     refine wp_region_lit (pN 3 k z fun a k=>nn ?_)
     exact ⟨w64 (Ae + 1),k.keep [1,2,4] z,m.sel [0,1] z (by decide),h⟩
   refine wp_exit (ex_then (ex_then (ex_same (nm_then ?_))))
   refine wr (sv k z (r_build bt38 k (cs:=#[I 0,I 0,I 0,I 0,I 0,I 0,I 0]) (ps:=[]) z z (by kernel_rfl)) fun a k=>s_stb (cs':=[I 0,I 0,I 0,I 0,I 0,I 0,I 0]) sizeOf38 m 1 Ai 0 k z z z z z z z z z z z fun As a k e m Am=>pN 1 k z fun a k=>nn (wp_ret ?_))
   cases h
   exact finR2 k z (RV.cA k z ta38 (Am.at (m.a 1 z) 0 7 z z z) z) (RV.tmp k z) ⟨z,m.ext⟩
 exact ⟨0,k.keep [1,2,4] z,m.sel [1,0] z (by decide),h⟩
theorem c_spec_l5Names (fu:Nat) {w0:World} (r1:Request) {Aq:List Value} {F3:List Nat} (Bk:rd w0 F3 Aq r1) {r:Bool}
    (h:d_spec_l5Names fu r1 = some r) :
    Calls Tryz.prog 70 #[.agg Aq.toArray] w0 fun e w=>e = .returned (.bool (r)) ∧ Ext [] w0 w:=by
 refine enter (vs:=[_]) func70 z ntmps70 z fun a k=>?_
 have m:=St.start w0
 obtain ⟨v5,F6,v7,F8,v9,Ca,rfl,rfl,Ad,Ae,Ac⟩:=Bk
 unfold d_spec_l5Names at h
 refine wr (s_box (cs:=[I r1.fWay,I r1.fPallet.fW,I r1.fPallet.fD,I r1.fPallet.fH,I r1.fPallet.fGram,I r1.fClasses,v5,v7,I r1.fMaster,v9]) m k z z z z z z fun Ab Ah a k m e Aa=>pN 1 k z fun a k=>nn (wp_seq (wr (pN 1 k z fun a k=>nn (wp_block (c_loop (fun n a w=>∃ (Ag:Int),K 102 [(1,.pointer (some (⟨Ab,0,none⟩:Addr))),(3,I Ag)] a ∧ St [] w0 w [([Ab],Ah)] ∧ d_spec_l5Names_L5 fu r1 n Ag = some r) ?_ ?_ fu _ _ ?_))))))
 · rintro a w ⟨_,_,_,h⟩
   exact nS h
 · rintro Bh a Bp ⟨Ag,k,m,h⟩
   rw [d_spec_l5Names_L5_s] at h
   unfold d_spec_l5Names_L5_B at h
   refine wp_seq (wr (pN 1 k z fun a k=>sv k z (r_fa fa30_4 k z z) fun a k=>sv k z (r_ldb t127 m 0 Aa 7 k z z z z z) fun a k=>sv k z (r_len (α:=Typ) Ae k underlying27 z z) fun a k=>pN 1 k z fun a k=>nn (cI h k z (fun Bc h=>?_) fun Bc h=>?_)))
   · refine wp_skip (nm_then ?_)
     refine wp_seq (wp_block (wr (pN 1 k z fun a k=>nn (wp_block (c_loop (fun n a w=>∃ (Al:Int),K 102 [(1,.pointer (some (⟨Ab,0,none⟩:Addr))),(3,I Ag),(4,I Al)] a ∧ St [] w0 w [([Ab],Ah)] ∧ d_spec_l5Names_L1 fu (d_spec_l5Names_L5 fu r1 Bh) r1 Ag n Al = some r) ?_ ?_ fu _ _ ?_)))))
     · rintro a w ⟨_,_,_,h⟩
       exact nS h
     · rintro Ch a Bu ⟨Al,k,m,h⟩
       rw [d_spec_l5Names_L1_s] at h
       unfold d_spec_l5Names_L1_B at h
       refine wp_seq (wr (pN 3 k z fun a k=>nn (cI h k z (fun Bf h=>?_) fun Bf h=>?_)))
       · refine wp_skip (nm_then ?_)
         refine wp_seq (wp_block (wp_seq (d_go [] mixo m z fun Aw hMd=>?_)))
         have m:=hMd
         have s:=Ext.refl ([]:List Nat) Aw
         refine dN [2,8] 2 z k (by kernel_rfl) z s (fun _ _ _ _ _=>id) fun a k=>dt k 0 z (by kernel_rfl) z s (fun _ _ _=>id) (fun w s=>r_fa fa30_4 k z z) fun a k=>dt k 1 z (by kernel_rfl) z s (fun _ _ _=>id) (fun w s=>r_ld1 t127 (r:=[]) (Aa.at ((hMd.step s).a 0 z) 7 1 z z z) k z z) fun a k=>oE h fun By At h=>dt k 3 z (by kernel_rfl) z s (fun _ _ _=>id) (fun w s=>r_ixa Ae At k ts27 z z z) fun a k=>dt k 4 z (by kernel_rfl) z s (fun _ _ _=>id) (fun w s=>r_fa fa38_0 k z z) fun a k=>dt k 5 z (by kernel_rfl) z s (fun _ _ _=>id) (fun w s=>r_lde1 Ae ((hMd.step s).a00 (Enc.rd_lt Ae)) At 0 t13 k z z z z) fun a k=>dt k 6 z (by kernel_rfl) z s (fun _ _ _=>id) (fun w s=>r_fa fa30_4 k z z) fun a k=>?_
         refine dt k 7 z (by kernel_rfl) z s (fun _ _ _=>id) (fun w s=>r_ld1 t127 (r:=[]) (Aa.at ((hMd.step s).a 0 z) 7 1 z z z) k z z) fun a k=>oE h fun Bz As h=>dt k 9 z (by kernel_rfl) z s (fun _ _ _=>id) (fun w s=>r_ixa Ae As k ts27 z z z) fun a k=>dt k 10 z (by kernel_rfl) z s (fun _ _ _=>id) (fun w s=>r_fa fa38_0 k z z) fun a k=>dt k 11 z (by kernel_rfl) z s (fun _ _ _=>id) (fun w s=>r_lde1 Ae ((hMd.step s).a00 (Enc.rd_lt Ae)) As 0 t13 k z z z z) fun a k=>dN [12] 1 z k (by kernel_rfl) z s (fun _ _ _ _ _=>id) fun a k=>d_done (by kernel_rfl) ((nm_then ?_))
         refine cI h k z (fun Bm h=>?_) fun Bm h=>?_
         · refine wr (pN 1 k z fun a k=>nn (wp_ret (rt_block (rt_then (rt_then (rt_block (rt_block (rt_then (rt_then (rt_block (rt_then ?_)))))))))))
           refine fS h k m z z
         refine wp_skip (nm_block (nm_then ?_))
         refine wp_region_lit (pN 3 k z fun a k=>nn ?_)
         exact ⟨w64 (Al + 1),k.keep [1,3,4] z,m.sel [0] z (by decide),h⟩
       refine wp_exit (ex_then (ex_then (ex_same (nm_block (nm_then ?_)))))
       refine wp_region_lit (pN 3 k z fun a k=>nn ?_)
       exact ⟨w64 (Ag + 1),k.keep [1,3] z,m.sel [0] z (by decide),h⟩
     exact ⟨0,k.keep [1,3,4] z,m.sel [0] z (by decide),h⟩
   refine wp_exit (ex_then (ex_then (ex_same (nm_then ?_))))
   refine wp_seq (wr (pN 1 k z fun a k=>nn (wp_block (c_loop (fun n a w=>∃ (Aj:Int),K 102 [(1,.pointer (some (⟨Ab,0,none⟩:Addr))),(5,I Aj)] a ∧ St [] w0 w [([Ab],Ah)] ∧ d_spec_l5Names_L4 fu r1 n Aj = some r) ?_ ?_ fu _ _ ?_))))
   · rintro a w ⟨_,_,_,h⟩
     exact nS h
   · rintro Ba a Bq ⟨Aj,k,m,h⟩
     rw [d_spec_l5Names_L4_s] at h
     unfold d_spec_l5Names_L4_B at h
     refine wp_seq (wr (pN 1 k z fun a k=>sv k z (r_fa fa30_6 k z z) fun a k=>sv k z (r_ldb t128 m 0 Aa 9 k z z z z z) fun a k=>sv k z (r_len (α:=Item) Ac k underlying28 z z) fun a k=>pN 1 k z fun a k=>nn (cI h k z (fun Bo h=>?_) fun Bo h=>?_)))
     · refine wp_skip (nm_then ?_)
       refine wp_seq (wp_block (wp_seq (wp_seq (d_go [] mixo m z fun Ay hMd=>?_))))
       have m:=hMd
       have s:=Ext.refl ([]:List Nat) Ay
       refine dN [2] 1 z k (by kernel_rfl) z s (fun _ _ _ _ _=>id) fun a k=>dt k 0 z (by kernel_rfl) z s (fun _ _ _=>id) (fun w s=>r_fa fa30_6 k z z) fun a k=>dt k 1 z (by kernel_rfl) z s (fun _ _ _=>id) (fun w s=>r_ld1 t128 (r:=[]) (Aa.at ((hMd.step s).a 0 z) 9 1 z z z) k z z) fun a k=>oE h fun Cd Ap h=>dt k 3 z (by kernel_rfl) z s (fun _ _ _=>id) (fun w s=>r_ixa Ac Ap k ts28 z z z) fun a k=>dt k 4 z (by kernel_rfl) z s (fun _ _ _=>id) (fun w s=>r_fa fa97_5 k z z) fun a k=>dt k 5 z (by kernel_rfl) z s (fun _ _ _=>id) (fun w s=>r_lde1 Ac ((hMd.step s).a00 (Enc.rd_lt Ac)) Ap 5 t13 k z z z z) fun a k=>dt k 6 z (by kernel_rfl) z s (fun _ _ _=>id) (fun w s=>r_fa fa30_2 k z z) fun a k=>?_
       refine dt k 7 z (by kernel_rfl) z s (fun _ _ _=>id) (fun w s=>r_ld1 t13 (r:=[]) (Aa.at ((hMd.step s).a 0 z) 5 1 z z z) k z z) fun a k=>dN [8] 1 z k (by kernel_rfl) z s (fun _ _ _ _ _=>id) fun a k=>d_done (by kernel_rfl) ((nm_then ?_))
       refine cI h k z (fun Bi h=>?_) fun Bi h=>?_
       · refine wr (pN 1 k z fun a k=>nn (wp_ret (rt_then (rt_block (rt_then (rt_then (rt_block (rt_then ?_))))))))
         refine fS h k m z z
       refine wp_skip (nm_then ?_)
       refine wr (pN 1 k z fun a k=>nn (wp_block (c_loop (fun n a w=>∃ (Ao:Int),K 102 [(1,.pointer (some (⟨Ab,0,none⟩:Addr))),(5,I Aj),(6,I Ao)] a ∧ St [] w0 w [([Ab],Ah)] ∧ d_spec_l5Names_L2 fu (d_spec_l5Names_L4 fu r1 Ba) r1 Aj n Ao = some r) ?_ ?_ fu _ _ ?_)))
       · rintro a w ⟨_,_,_,h⟩
         exact nS h
       · rintro Ce a Ci ⟨Ao,k,m,h⟩
         rw [d_spec_l5Names_L2_s] at h
         unfold d_spec_l5Names_L2_B at h
         refine wp_seq (wr (pN 3 k z fun a k=>nn (cI h k z (fun Bg h=>?_) fun Bg h=>?_)))
         · refine wp_skip (nm_then ?_)
           refine wp_seq (wp_block (wp_seq (d_go [] mixo m z fun Av hMd=>?_)))
           have m:=hMd
           have s:=Ext.refl ([]:List Nat) Av
           refine dN [2,8] 2 z k (by kernel_rfl) z s (fun _ _ _ _ _=>id) fun a k=>dt k 0 z (by kernel_rfl) z s (fun _ _ _=>id) (fun w s=>r_fa fa30_6 k z z) fun a k=>dt k 1 z (by kernel_rfl) z s (fun _ _ _=>id) (fun w s=>r_ld1 t128 (r:=[]) (Aa.at ((hMd.step s).a 0 z) 9 1 z z z) k z z) fun a k=>oE h fun Cf Au h=>dt k 3 z (by kernel_rfl) z s (fun _ _ _=>id) (fun w s=>r_ixa Ac Au k ts28 z z z) fun a k=>dt k 4 z (by kernel_rfl) z s (fun _ _ _=>id) (fun w s=>r_fa fa97_0 k z z) fun a k=>dt k 5 z (by kernel_rfl) z s (fun _ _ _=>id) (fun w s=>r_lde1 Ac ((hMd.step s).a00 (Enc.rd_lt Ac)) Au 0 t13 k z z z z) fun a k=>dt k 6 z (by kernel_rfl) z s (fun _ _ _=>id) (fun w s=>r_fa fa30_6 k z z) fun a k=>?_
           refine dt k 7 z (by kernel_rfl) z s (fun _ _ _=>id) (fun w s=>r_ld1 t128 (r:=[]) (Aa.at ((hMd.step s).a 0 z) 9 1 z z z) k z z) fun a k=>oE h fun Bv Ar h=>dt k 9 z (by kernel_rfl) z s (fun _ _ _=>id) (fun w s=>r_ixa Ac Ar k ts28 z z z) fun a k=>dt k 10 z (by kernel_rfl) z s (fun _ _ _=>id) (fun w s=>r_fa fa97_0 k z z) fun a k=>dt k 11 z (by kernel_rfl) z s (fun _ _ _=>id) (fun w s=>r_lde1 Ac ((hMd.step s).a00 (Enc.rd_lt Ac)) Ar 0 t13 k z z z z) fun a k=>dN [12] 1 z k (by kernel_rfl) z s (fun _ _ _ _ _=>id) fun a k=>d_done (by kernel_rfl) ((nm_then ?_))
           refine cI h k z (fun Be h=>?_) fun Be h=>?_
           · refine wr (pN 1 k z fun a k=>nn (wp_ret (rt_block (rt_then (rt_then (rt_block (rt_block (rt_then (rt_then (rt_block (rt_then ?_)))))))))))
             refine fS h k m z z
           refine wp_skip (nm_block (nm_then ?_))
           refine wp_region_lit (pN 3 k z fun a k=>nn ?_)
           exact ⟨w64 (Ao + 1),k.keep [1,5,6] z,m.sel [0] z (by decide),h⟩
         refine wp_exit (ex_then (ex_then (ex_same (nm_block (nm_then ?_)))))
         refine wp_region_lit (pN 3 k z fun a k=>nn ?_)
         exact ⟨w64 (Aj + 1),k.keep [1,5] z,m.sel [0] z (by decide),h⟩
       exact ⟨0,k.keep [1,5,6] z,m.sel [0] z (by decide),h⟩
     refine wp_exit (ex_then (ex_then (ex_same (nm_then ?_))))
     refine wp_seq (wr (pN 1 k z fun a k=>nn (wp_block (c_loop (fun n a w=>∃ (Ai:Int),K 102 [(1,.pointer (some (⟨Ab,0,none⟩:Addr))),(7,I Ai)] a ∧ St [] w0 w [([Ab],Ah)] ∧ d_spec_l5Names_L3 fu r1 n Ai = some r) ?_ ?_ fu _ _ ?_))))
     · rintro a w ⟨_,_,_,h⟩
       exact nS h
     · rintro Ax a Cg ⟨Ai,k,m,h⟩
       rw [d_spec_l5Names_L3_s] at h
       unfold d_spec_l5Names_L3_B at h
       refine wp_seq (wr (pN 1 k z fun a k=>sv k z (r_fa fa30_3 k z z) fun a k=>sv k z (r_ldb t126 m 0 Aa 6 k z z z z z) fun a k=>sv k z (r_len (α:=Pair) Ad k underlying26 z z) fun a k=>pN 1 k z fun a k=>nn (cI h k z (fun Bl h=>?_) fun Bl h=>?_)))
       · refine wp_skip (nm_then ?_)
         refine c_cut (fun a w=>K 102 [(1,.pointer (some (⟨Ab,0,none⟩:Addr))),(7,I Ai)] a ∧ St [] w0 w [([Ab],Ah)] ∧ d_spec_l5Names_J1 fu (d_spec_l5Names_L3 fu r1 Ax) Ai = some r) ?_ ?_
         · rintro a Bt ⟨k,m,h⟩
           unfold d_spec_l5Names_J1 at h
           refine wp_region_lit (pN 3 k z fun a k=>nn ?_)
           exact ⟨w64 (Ai + 1),k.keep [1,7] z,m.sel [0] z (by decide),h⟩
         refine wp_block (wp_seq (d_go [] mixo m z fun Az hMd=>?_))
         have m:=hMd
         have s:=Ext.refl ([]:List Nat) Az
         refine dN [2] 1 z k (by kernel_rfl) z s (fun _ _ _ _ _=>id) fun a k=>dt k 0 z (by kernel_rfl) z s (fun _ _ _=>id) (fun w s=>r_fa fa30_3 k z z) fun a k=>dt k 1 z (by kernel_rfl) z s (fun _ _ _=>id) (fun w s=>r_ld1 t126 (r:=[]) (Aa.at ((hMd.step s).a 0 z) 6 1 z z z) k z z) fun a k=>oE h fun Bb Am h=>dt k 3 z (by kernel_rfl) z s (fun _ _ _=>id) (fun w s=>r_ixa Ad Am k ts26 z z z) fun a k=>dt k 4 z (by kernel_rfl) z s (fun _ _ _=>id) (fun w s=>r_fa fa158_0 k z z) fun a k=>dt k 5 z (by kernel_rfl) z s (fun _ _ _=>id) (fun w s=>r_lde1 Ad ((hMd.step s).a00 (Enc.rd_lt Ad)) Am 0 t13 k z z z z) fun a k=>dt k 6 z (by kernel_rfl) z s (fun _ _ _=>id) (fun w s=>r_fa fa30_2 k z z) fun a k=>?_
         refine dt k 7 z (by kernel_rfl) z s (fun _ _ _=>id) (fun w s=>r_ld1 t13 (r:=[]) (Aa.at ((hMd.step s).a 0 z) 5 1 z z z) k z z) fun a k=>dN [8,9] 2 z k (by kernel_rfl) z s (fun _ _ _ _ _=>id) fun a k=>bsplit (decide (Bb.fA ≥ r1.fClasses)) (fun Ak=>?_) (fun Ak=>?_)
         · have h:=bif_t Ak h
           refine rB k 85 z Ak fun k=>dN [10,11,12,13,14,15,16,17,18,19] 10 z k (by kernel_rfl) z s (fun _ _ _ _ _=>id) fun a k=>d_done (by kernel_rfl) ?_
           have k:=k.keep [1,7,95] z
           refine (nm_then ?_)
           refine wp_cond_true (k.ev z) (wr (pN 1 k z fun a k=>nn (wp_ret (rt_block (rt_then (rt_then (rt_block (rt_then ?_))))))))
           refine fS h k m z z
         have h:=bif_f Ak h
         refine rB k 85 z Ak fun k=>dN [12] 1 z k (by kernel_rfl) z s (fun _ _ _ _ _=>id) fun a k=>dt k 10 z (by kernel_rfl) z s (fun _ _ _=>id) (fun w s=>r_fa fa30_3 k z z) fun a k=>dt k 11 z (by kernel_rfl) z s (fun _ _ _=>id) (fun w s=>r_ld1 t126 (r:=[]) (Aa.at ((hMd.step s).a 0 z) 6 1 z z z) k z z) fun a k=>oE h fun Br Bs h=>dt k 13 z (by kernel_rfl) z s (fun _ _ _=>id) (fun w s=>r_ixa Ad Am k ts26 z z z) fun a k=>dt k 14 z (by kernel_rfl) z s (fun _ _ _=>id) (fun w s=>r_fa fa158_1 k z z) fun a k=>dt k 15 z (by kernel_rfl) z s (fun _ _ _=>id) (fun w s=>r_lde1 Ad ((hMd.step s).a00 (Enc.rd_lt Ad)) Am 1 t13 k z z z z) fun a k=>dt k 16 z (by kernel_rfl) z s (fun _ _ _=>id) (fun w s=>r_fa fa30_2 k z z) fun a k=>?_
         refine dt k 17 z (by kernel_rfl) z s (fun _ _ _=>id) (fun w s=>r_ld1 t13 (r:=[]) (Aa.at ((hMd.step s).a 0 z) 5 1 z z z) k z z) fun a k=>dN [18,19] 2 z k (by kernel_rfl) z s (fun _ _ _ _ _=>id) fun a k=>d_done (by kernel_rfl) ?_
         have k:=k.keep [1,7,95] z
         refine (nm_then ?_)
         refine cI h k z (fun Bn h=>?_) fun Bn h=>?_
         · refine wr (pN 1 k z fun a k=>nn (wp_ret (rt_block (rt_then (rt_then (rt_block (rt_then ?_)))))))
           refine fS h k m z z
         refine wp_skip (nm_block (nm_then ?_))
         exact ⟨k.keep [1,7] z,m.sel [0] z (by decide),h⟩
       refine wp_exit (ex_then (ex_then (ex_same (nm_then ?_))))
       refine wr (sv k z (r_ldB ta30 m 0 Aa 0 k z z z z z z) fun a k=>oE h fun Af Bj h=>cE k m call72 z z z (c_spec_MasterOf fu _ (show rd _ _ [I r1.fWay,I r1.fPallet.fW,I r1.fPallet.fD,I r1.fPallet.fH,I r1.fPallet.fGram,I r1.fClasses,v5,v7,I r1.fMaster,v9] (r1:Request) from ⟨_,_,_,_,_,_,z,z,(Enc.rd_agr Ad (m.a00 (Enc.rd_lt Ad))),(Enc.rd_agr Ae (m.a00 (Enc.rd_lt Ae))),(Enc.rd_agr Ac (m.a00 (Enc.rd_lt Ac)))⟩) Bj) fun Cj e a k m=>pN 3 k z fun a k=>s_alloc (cs:=[I 0,I 0,I 0,I 0,I 0,I 0,I 0]) m k zeroValue38 z z z z z fun Cb Bw a k m e Bd=>?_)
       refine s_stb (cs':=[I Af.1.fId,I Af.1.fW,I Af.1.fH,I Af.1.fD,I Af.1.fTare,I Af.1.fGram,I Af.1.fCost]) sizeOf38 m 0 Bd 0 k z z z z z z z z z z z fun Bx a k e m Cc=>pN 1 k z fun a k=>nn (wr (pN 2 k z fun a k=>nn (wp_ret (fS h k m z z))))
     exact ⟨0,k.keep [1,7] z,m.sel [0] z (by decide),h⟩
   exact ⟨0,k.keep [1,5] z,m.sel [0] z (by decide),h⟩
 exact ⟨0,k.keep [1,3] z,m.sel [0] z (by decide),h⟩
theorem c_spec_Beside (fu:Nat) {w0:World} (Ad:List Pair) (a5:Int) (b6:Int) {v2:Value} {F3:List Nat} (Aa:rd w0 F3 [v2] Ad) {r:Bool}
    (h:d_spec_Beside fu Ad a5 b6 = some r) :
    Calls Tryz.prog 161 #[v2,I a5,I b6] w0 fun e w=>e = .returned (.bool (r)) ∧ Ext [] w0 w:=by
 refine enter (vs:=[_,_,_]) func161 z ntmps161 z fun a k=>?_
 have m:=St.start w0
 unfold d_spec_Beside at h
 refine wr (pN 1 k z fun a k=>nn (wp_seq (wr (pN 1 k z fun a k=>nn (wp_block (c_loop (fun n a w=>∃ (Ab:Int),K 30 [(0,v2),(1,I a5),(2,I b6),(7,I Ab)] a ∧ St [] w0 w [] ∧ d_spec_Beside_L1 fu Ad a5 b6 n Ab = some r) ?_ ?_ fu _ _ ?_))))))
 · rintro a w ⟨_,_,_,h⟩
   exact nS h
 · rintro Ai a Aj ⟨Ab,k,m,h⟩
   rw [d_spec_Beside_L1_s] at h
   unfold d_spec_Beside_L1_B at h
   refine wp_seq (wr (pN 2 k z fun a k=>sv k z (r_len (α:=Pair) Aa k underlying26 z z) fun a k=>pN 1 k z fun a k=>nn (cI h k z (fun Ah h=>?_) fun Ah h=>?_)))
   · refine wp_skip (nm_then ?_)
     refine c_cut (fun a w=>K 30 [(0,v2),(1,I a5),(2,I b6),(7,I Ab)] a ∧ St [] w0 w [] ∧ d_spec_Beside_J1 fu (d_spec_Beside_L1 fu Ad a5 b6 Ai) Ab = some r) ?_ ?_
     · rintro a Al ⟨k,m,h⟩
       unfold d_spec_Beside_J1 at h
       refine wp_region_lit (pN 3 k z fun a k=>nn ?_)
       exact ⟨w64 (Ab + 1),k.keep [0,1,2,7] z,m.sel [] z (by decide),h⟩
     refine wp_block (wr (pN 2 k z fun a k=>oE h fun Af Ae h=>sv k z (r_ixa Aa Ae k ts26 z z z) fun a k=>sv k z (r_fa fa158_0 k z z) fun a k=>sv k z (r_lde1 Aa (m.a00 (Enc.rd_lt Aa)) Ae 0 t13 k z z z z) fun a k=>pN 3 k z fun a k=>bsplit (Af.fA == a5) (fun Ac=>?_) (fun Ac=>?_)))
     · have h:=bif_t Ac h
       refine rB k 21 z Ac fun k=>pN 2 k z fun a k=>oE h fun Am Ak h=>sv k z (r_ixa Aa Ae k ts26 z z z) fun a k=>sv k z (r_fa fa158_1 k z z) fun a k=>sv k z (r_lde1 Aa (m.a00 (Enc.rd_lt Aa)) Ae 1 t13 k z z z z) fun a k=>pN 3 k z fun a k=>nn (cI h k z (fun Ag h=>?_) fun Ag h=>?_)
       · refine wr (pN 1 k z fun a k=>nn (wp_ret (rt_block (rt_then (rt_then (rt_block (rt_then ?_)))))))
         refine fS h k m z z
       refine wp_skip (nm_block (nm_then ?_))
       exact ⟨k.keep [0,1,2,7] z,m.sel [] z (by decide),h⟩
     have h:=bif_f Ac h
     refine rB k 21 z Ac fun k=>pN 8 k z fun a k=>nn (wp_cond_false (k.ev z) (wp_skip (nm_block (nm_then ?_))))
     exact ⟨k.keep [0,1,2,7] z,m.sel [] z (by decide),h⟩
   refine wp_exit (ex_then (ex_then (ex_same (nm_then ?_))))
   refine wr (pN 1 k z fun a k=>nn (wp_ret (fS h k m z z)))
 exact ⟨0,k.keep [0,1,2,7] z,m.sel [] z (by decide),h⟩
theorem c_spec_TableOk (fu:Nat) {w0:World} (Ae:List Pair) (Aa:Int) {v2:Value} {F3:List Nat} (Ab:rd w0 F3 [v2] Ae) {r:Bool}
    (h:d_spec_TableOk fu Ae Aa = some r) :
    Calls Tryz.prog 71 #[v2,I Aa] w0 fun e w=>e = .returned (.bool (r)) ∧ Ext [] w0 w:=by
 refine enter (vs:=[_,_]) func71 z ntmps71 z fun a k=>?_
 have m:=St.start w0
 unfold d_spec_TableOk at h
 refine wr (pN 1 k z fun a k=>nn (wp_seq (wr (pN 1 k z fun a k=>oE h fun x6 Ap h=>cE k m call142 z z z (c_spec_l1In fu _ _ _  Ap) fun w9 e a k m=>pN 1 k z fun a k=>nn (cI h k z (fun Am h=>?_) fun Am h=>?_)))))
 · refine wr (pN 1 k z fun a k=>nn (wp_ret (rt_then ?_)))
   refine fS h k m z z
 refine wp_skip (nm_then ?_)
 refine wp_seq (wr (pN 1 k z fun a k=>nn (wp_block (c_loop (fun n a w=>∃ (Ac:Int),K 41 [(0,v2),(1,I Aa),(5,I Ac)] a ∧ St [] w0 w [] ∧ d_spec_TableOk_L2 fu Ae Aa n Ac = some r) ?_ ?_ fu _ _ ?_))))
 · rintro a w ⟨_,_,_,h⟩
   exact nS h
 · rintro Ah a Aw ⟨Ac,k,m,h⟩
   rw [d_spec_TableOk_L2_s] at h
   unfold d_spec_TableOk_L2_B at h
   refine wp_seq (wr (pN 3 k z fun a k=>nn (cI h k z (fun At h=>?_) fun At h=>?_)))
   · refine wp_skip (nm_then ?_)
     refine wp_seq (wp_block (wr (pN 1 k z fun a k=>nn (wp_block (c_loop (fun n a w=>∃ (Ad:Int),K 41 [(0,v2),(1,I Aa),(5,I Ac),(6,I Ad)] a ∧ St [] w0 w [] ∧ d_spec_TableOk_L1 fu (d_spec_TableOk_L2 fu Ae Aa Ah) Ae Aa Ac n Ad = some r) ?_ ?_ fu _ _ ?_)))))
     · rintro a w ⟨_,_,_,h⟩
       exact nS h
     · rintro Ar a Ay ⟨Ad,k,m,h⟩
       rw [d_spec_TableOk_L1_s] at h
       unfold d_spec_TableOk_L1_B at h
       refine wp_seq (wr (pN 3 k z fun a k=>nn (cI h k z (fun As h=>?_) fun As h=>?_)))
       · refine wp_skip (nm_then ?_)
         refine c_cut (fun a w=>K 41 [(0,v2),(1,I Aa),(5,I Ac),(6,I Ad)] a ∧ St [] w0 w [] ∧ d_spec_TableOk_J1 fu (d_spec_TableOk_L1 fu (d_spec_TableOk_L2 fu Ae Aa Ah) Ae Aa Ac Ar) Ad = some r) ?_ ?_
         · rintro a Be ⟨k,m,h⟩
           unfold d_spec_TableOk_J1 at h
           refine wp_region_lit (pN 3 k z fun a k=>nn ?_)
           exact ⟨w64 (Ad + 1),k.keep [0,1,5,6] z,m.sel [] z (by decide),h⟩
         refine wp_block (wr (pN 4 k z fun a k=>bsplit (Ac == Ad) (fun Ag=>?_) (fun Ag=>?_)))
         · have h:=bif_t Ag h
           refine rB k 23 z Ag fun k=>pN 3 k z fun a k=>oE h fun Ak Aq h=>cE k m call161 z z z (c_spec_Beside fu _ _ _ (Enc.rd_agr Ab (m.a00 (Enc.rd_lt Ab))) Aq) fun Bc e a k m=>pN 3 k z fun a k=>bsplit (!Ak) (fun Af=>?_) (fun Af=>?_)
           · have h:=bif_t Af h
             refine rB k 30 z Af fun k=>pN 10 k z fun a k=>nn (wp_cond_true (k.ev z) (wr (pN 1 k z fun a k=>?_)))
             have k:=k.keep [4] z
             refine nn (wp_ret (rt_block (rt_then (rt_then (rt_block (rt_block (rt_then (rt_then (rt_block (rt_then ?_))))))))))
             refine fS h k m z z
           have h:=bif_f Af h
           refine rB k 30 z Af fun k=>pN 3 k z fun a k=>oE h fun Bb Av h=>cE k m call161 z z z (c_spec_Beside fu _ _ _ (Enc.rd_agr Ab (m.a00 (Enc.rd_lt Ab))) Av) fun Bg e a k m=>pN 3 k z fun a k=>oE h fun Bf Ao h=>cE k m call161 z z z (c_spec_Beside fu _ _ _ (Enc.rd_agr Ab (m.a00 (Enc.rd_lt Ab))) Ao) fun Bh e a k m=>sv k z (r_neb k underlying4 z z z) fun a k=>pN 1 k z fun a k=>nn (cI h k z (fun Aj h=>?_) fun Aj h=>?_)
           · refine wr (pN 1 k z fun a k=>?_)
             have k:=k.keep [4] z
             refine nn (wp_ret (rt_block (rt_then (rt_then (rt_block (rt_block (rt_then (rt_then (rt_block (rt_then ?_))))))))))
             refine fS h k m z z
           refine wp_skip (nm_block (nm_then ?_))
           exact ⟨k.keep [0,1,5,6] z,m.sel [] z (by decide),h⟩
         have h:=bif_f Ag h
         refine rB k 23 z Ag fun k=>pN 10 k z fun a k=>oE h fun Bd Ai h=>cE k m call161 z z z (c_spec_Beside fu _ _ _ (Enc.rd_agr Ab (m.a00 (Enc.rd_lt Ab))) Ai) fun Az e a k m=>pN 3 k z fun a k=>oE h fun Ba Au h=>cE k m call161 z z z (c_spec_Beside fu _ _ _ (Enc.rd_agr Ab (m.a00 (Enc.rd_lt Ab))) Au) fun Ax e a k m=>sv k z (r_neb k underlying4 z z z) fun a k=>pN 1 k z fun a k=>nn (cI h k z (fun Al h=>?_) fun Al h=>?_)
         · refine wr (pN 1 k z fun a k=>?_)
           have k:=k.keep [4] z
           refine nn (wp_ret (rt_block (rt_then (rt_then (rt_block (rt_block (rt_then (rt_then (rt_block (rt_then ?_))))))))))
           refine fS h k m z z
         refine wp_skip (nm_block (nm_then ?_))
         exact ⟨k.keep [0,1,5,6] z,m.sel [] z (by decide),h⟩
       refine wp_exit (ex_then (ex_then (ex_same (nm_block (nm_then ?_)))))
       refine wp_region_lit (pN 3 k z fun a k=>nn ?_)
       exact ⟨w64 (Ac + 1),k.keep [0,1,5] z,m.sel [] z (by decide),h⟩
     exact ⟨0,k.keep [0,1,5,6] z,m.sel [] z (by decide),h⟩
   refine wp_exit (ex_then (ex_then (ex_same (nm_then ?_))))
   refine wr (pN 1 k z fun a k=>nn (wp_ret (fS h k m z z)))
 exact ⟨0,k.keep [0,1,5] z,m.sel [] z (by decide),h⟩
theorem c_spec_l1Places (fu:Nat) {w0:World} (n1:Int)  {r:(List Int)}
    (h:d_spec_l1Places fu n1 = some r) :
    Calls Tryz.prog 173 #[I n1] w0 fun e w=>∃ (v0:Value) (G0:List Nat),e = .returned (v0) ∧ Ext [] w0 w ∧ ow w G0 [v0] r ∧ (∀ b ∈ G0,w0.heap.size ≤ b):=by
 refine enter (vs:=[_]) func173 z ntmps173 z fun a k=>?_
 have m:=St.start w0
 unfold d_spec_l1Places at h
 refine wr (pN 1 k z fun a k=>nn (wr (s_bs (cs:=[]) (ps:=[]) te31 m k z z z z z z z (by decide) z (by exact (List.forall_mem_nil _)) fun g2 w3 e5 a k m e Am=>?_)))
 have Aj:=ow_bx Am ([]:List Int) z z z
 refine pN 1 k z fun a k=>nn (wp_seq (wr (pN 1 k z fun a k=>nn (wp_block (c_loop (fun n a w=>∃ (Ad:List Int) (Ae:Value) (Ab:List Nat) (Ac:World) (Aa:Int),K 16 [(0,I n1),(3,Ae),(4,I Aa)] a ∧ St [] w0 w [(Ab,Ac)] ∧ ow Ac Ab [Ae] Ad ∧ d_spec_l1Places_L1 fu n1 n Ad Aa = some r) ?_ ?_ fu _ _ ?_)))))
 · rintro a w ⟨_,_,_,_,_,_,_,_,h⟩
   exact nS h
 · rintro Av a At ⟨Ad,Ae,Ab,Ac,Aa,k,m,Af,h⟩
   rw [d_spec_l1Places_L1_s] at h
   unfold d_spec_l1Places_L1_B at h
   refine wp_seq (wr (pN 3 k z fun a k=>nn (cI h k z (fun Ag h=>?_) fun Ag h=>?_)))
   · refine wp_skip (nm_then ?_)
     refine wp_seq (wp_block (wp_region_lit (pN 2 k z fun a k=>s_bs (cs:=[I Aa]) (ps:=[(0,.tmp 12)]) te31 m k z z z z z z z (by decide) z (by exact (List.forall_mem_cons.2 ⟨z,(List.forall_mem_nil _)⟩)) fun As Au Aw a k m e Al=>?_)))
     have Ak:=ow_bx Al ([Aa]:List Int) z z z
     refine oE h fun Ar Aq h=>s_appF Aq te31 z m 1 Af (News.rd (Enc.rd_agr (Enc.ow_rd Ak) (m.a 0 z))) z z k z z z z z z z fun Ah Ao Ai a k e m Ap=>pN 1 k z fun a k=>wpList_nil (nm_block (nm_then ?_))
     refine wp_region_lit (pN 3 k z fun a k=>nn ?_)
     exact ⟨Ar,Ah,Ao,Ai,w64 (Aa + 1),k.keep [0,3,4] z,m.sel [1] z (by decide),Ap,h⟩
   refine wp_exit (ex_then (ex_then (ex_same (nm_then ?_))))
   refine wr (pN 2 k z fun a k=>nn (wp_ret ?_))
   cases h
   exact finR1 k z (RV.tmp k z) ⟨_,Ab,z,m.ext,(Enc.ow_agr Af (m.a 0 z)),(m.fresh 0 z)⟩
 exact ⟨([]:List Int),(.slice (some ⟨g2,0,none⟩) 0 0),[g2],w3,0,k.keep [0,3,4] z,m.sel [0] z (by decide),Aj,h⟩
theorem c_spec_l1Merge_R (fu:Nat):∀ (nr:Nat) {w0:World} (Am:List Int) (Bb:List Int) (Ai:Bool) {v2:Value} {F3:List Nat} (Aa:rd w0 F3 [v2] Am) {v6:Value} {F7:List Nat} (Ak:rd w0 F7 [v6] Bb) {r:(List Int)} (h:d_spec_l1Merge_R fu nr Am Bb Ai = some r),Calls Tryz.prog 254 #[v2,v6,.bool (Ai)] w0 fun e w=>∃ (v0:Value) (G0:List Nat),e = .returned (v0) ∧ Ext [] w0 w ∧ ow w G0 [v0] r ∧ (∀ b ∈ G0,w0.heap.size ≤ b):=by
 intro nr
 induction nr with
 | zero =>
   intros
   rename_i h
   exact nS h
 | succ nr ih =>
 intro w0 Am Bb Ai v2 F3 Aa v6 F7 Ak r h
 refine enter (vs:=[_,_,_]) func254 z ntmps254 z fun a k=>?_
 have m:=St.start w0
 rw [d_spec_l1Merge_Rs] at h
 unfold d_spec_l1Merge_RB at h
 refine wr (pN 1 k z fun a k=>nn (wp_seq (wr (pN 1 k z fun a k=>sv k z (r_len (α:=Int) Ak k underlying31 z z) fun a k=>pN 1 k z fun a k=>nn (cI h k z (fun Du h=>?_) fun Du h=>?_)))))
 · refine wr (s_bs (cs:=[]) (ps:=[]) te31 m k z z z z z z z (by decide) z (by exact (List.forall_mem_nil _)) fun Gn Gx Fy a k m e Dw=>?_)
   have Ct:=ow_bx Dw ([]:List Int) z z z
   refine pN 1 k z fun a k=>oE h fun Fi Eo h=>s_appF Eo te31 z m 0 Ct (News.rd (Enc.rd_agr Ak (m.a00 (Enc.rd_lt Ak)))) z z k z z z z z z z fun Fo Br Ic a k e m Cs=>pN 1 k z fun a k=>nn (wp_ret (rt_then ?_))
   cases h
   exact finR1 k z (RV.tmp k z) ⟨_,Br,z,m.ext,(Enc.ow_agr Cs (m.a 0 z)),(m.fresh 0 z)⟩
 refine wp_skip (nm_then ?_)
 refine wr (pN 1 k z fun a k=>sv k z (r_len (α:=Int) Ak k underlying31 z z) fun a k=>pN 2 k z fun a k=>nn (wr (pN 3 k z fun a k=>oE h fun Ia Bz h=>s_slTo Ak Bz k ts31 z z z z z z fun Gh a k Bq=>pN 1 k z fun a k=>oE h fun Az Dz h=>s_call k call254 z z z z z (ih _ _ _ (Enc.rd_agr Aa (m.a00 (Enc.rd_lt Aa))) (Enc.rd_agr Bq (m.a00 (Enc.rd_lt Bq))) Dz) fun Hy Bh hR=>?_)))
 obtain ⟨Bj,Bc,rfl,e,Ab,Fe⟩:=hR
 refine ⟨_,z,fun a k=>?_⟩
 have m:=m.new e Bc (fun b hb=>⟨Fe b hb,Enc.rd_lt (Enc.ow_rd Ab) b hb⟩) (Enc.ow_nd Ab)
 refine pN 1 k z fun a k=>nn (wr (pN 3 k z fun a k=>oE h fun Hi Ci h=>s_slFrom Ak Ci k ts31 z z z z z z fun Hg a k Bl=>pN 1 k z fun a k=>oE h fun Ba Ea h=>s_call k call254 z z z z z (ih _ _ _ (Enc.rd_agr Aa (m.a00 (Enc.rd_lt Aa))) (Enc.rd_agr Bl (m.a00 (Enc.rd_lt Bl))) Ea) fun Gm Bo hR=>?_))
 obtain ⟨Bn,Be,rfl,e,Ac,Cf⟩:=hR
 refine ⟨_,z,fun a k=>?_⟩
 have m:=m.new e Be (fun b hb=>⟨Cf b hb,Enc.rd_lt (Enc.ow_rd Ac) b hb⟩) (Enc.ow_nd Ac)
 refine pN 1 k z fun a k=>nn (wr (s_bs (cs:=[]) (ps:=[]) te31 m k z z z z z z z (by decide) z (by exact (List.forall_mem_nil _)) fun Bg Ch Gg a k m e Cj=>?_))
 have Cd:=ow_bx Cj ([]:List Int) z z z
 refine pN 1 k z fun a k=>nn (wr (pN 1 k z fun a k=>?_))
 have k:=k.keep [0,2,8,9,10,11] z
 refine nn (wr (pN 1 k z fun a k=>nn (wp_seq (wp_block (c_loop (fun n a w=>∃ (Aw:List Int) (Ay:Value) (Aq:List Nat) (Ax:World) (Ad:Int) (Ae:Int),K 132 [(0,v2),(2,.bool (Ai)),(8,Bj),(9,Bn),(10,Ay),(11,I Ad),(12,I Ae)] a ∧ St [] w0 w [(Bc,Bh),(Be,Bo),(Aq,Ax)] ∧ ow Ax Aq [Ay] Aw ∧ d_spec_l1Merge_L1 fu Am Ai Az Ba n Aw Ad Ae = some r) ?_ ?_ fu _ _ ?_)))))
 · rintro a w ⟨_,_,_,_,_,_,_,_,_,h⟩
   exact nS h
 · rintro Cy a Hk ⟨Aw,Ay,Aq,Ax,Ad,Ae,k,m,Ah,h⟩
   rw [d_spec_l1Merge_L1_s] at h
   unfold d_spec_l1Merge_L1_B at h
   refine c_cut (fun a w=>K 132 [(0,v2),(2,.bool (Ai)),(8,Bj),(9,Bn),(10,Ay),(11,I Ad),(12,I Ae)] a ∧ St [] w0 w [(Bc,Bh),(Be,Bo),(Aq,Ax)] ∧ d_spec_l1Merge_J1 fu (d_spec_l1Merge_L1 fu Am Ai Az Ba Cy) Am Ai Az Ba Aw Ad Ae = some r) ?_ ?_
   · rintro a Gr ⟨k,m,h⟩
     unfold d_spec_l1Merge_J1 at h
     refine wp_block (wp_block (wr (pN 2 k z fun a k=>sv k z (r_len (α:=Int) (Enc.ow_rd Ac) k underlying31 z z) fun a k=>pN 2 k z fun a k=>nn (cI h k z (fun Ex h=>?_) fun Ex h=>?_))))
     · refine wr (pN 3 k z fun a k=>oE h fun Bk Bm h=>sv k z (r_ixa (Enc.ow_rd Ab) Bm k ts31 z z z) fun a k=>sv k z (r_lde1 (Enc.ow_rd Ab) (m.a 0 z) Bm 0 t13 k z z z z) fun a k=>s_bs (cs:=[I Bk]) (ps:=[(0,.tmp 63)]) te31 m k z z z z z z z (by decide) z (by exact (List.forall_mem_cons.2 ⟨z,(List.forall_mem_nil _)⟩)) fun Fv Ie Gj a k m e Fd=>?_)
       have Cu:=ow_bx Fd ([Bk]:List Int) z z z
       refine oE h fun Di Bx h=>s_appF Bx te31 z m 3 Ah (News.rd (Enc.rd_agr (Enc.ow_rd Cu) (m.a 0 z))) z z k z z z z z z z fun Fa Cc Dp a k e m Dj=>pN 1 k z fun a k=>nn (wp_region_lit (pN 3 k z fun a k=>wpList_nil (nm_block (nm_block (nm_then ?_)))))
       exact ⟨Di,Fa,Cc,Dp,w64 (Ad + 1),Ae,k.keep [0,2,8,9,10,11,12] z,m.sel [1,2,3] z (by decide),Dj,h⟩
     refine wr (pN 2 k z fun a k=>sv k z (r_len (α:=Int) (Enc.ow_rd Ab) k underlying31 z z) fun a k=>pN 2 k z fun a k=>nn (cI h k z (fun Ei h=>?_) fun Ei h=>?_))
     · refine wr (pN 3 k z fun a k=>oE h fun Bp Bi h=>sv k z (r_ixa (Enc.ow_rd Ac) Bi k ts31 z z z) fun a k=>sv k z (r_lde1 (Enc.ow_rd Ac) (m.a 1 z) Bi 0 t13 k z z z z) fun a k=>s_bs (cs:=[I Bp]) (ps:=[(0,.tmp 77)]) te31 m k z z z z z z z (by decide) z (by exact (List.forall_mem_cons.2 ⟨z,(List.forall_mem_nil _)⟩)) fun Hv Hl Fz a k m e Bv=>?_)
       have Ef:=ow_bx Bv ([Bp]:List Int) z z z
       refine oE h fun Cl Dd h=>s_appF Dd te31 z m 3 Ah (News.rd (Enc.rd_agr (Enc.ow_rd Ef) (m.a 0 z))) z z k z z z z z z z fun Dq Eu Dr a k e m Cv=>pN 1 k z fun a k=>nn (wp_region_lit (pN 3 k z fun a k=>wpList_nil (nm_block (nm_block (nm_then ?_)))))
       exact ⟨Cl,Dq,Eu,Dr,Ad,w64 (Ae + 1),k.keep [0,2,8,9,10,11,12] z,m.sel [1,2,3] z (by decide),Cv,h⟩
     refine wp_seq (d_go [] mixo m z fun Eg hMd=>?_)
     have m:=hMd
     have s:=Ext.refl ([]:List Nat) Eg
     refine dN [0,1,2,7,8,9] 6 z k (by kernel_rfl) z s (fun _ _ _ _ _=>id) fun a k=>oE h fun Ap Ag h=>dt k 3 z (by kernel_rfl) z s (fun _ _ _=>id) (fun w s=>r_ixa (Enc.ow_rd Ac) Ag k ts31 z z z) fun a k=>dt k 4 z (by kernel_rfl) z s (fun _ _ _=>id) (fun w s=>r_lde1 (Enc.ow_rd Ac) ((hMd.step s).a 1 z) Ag 0 t13 k z z z z) fun a k=>oE h fun Bd Al h=>dt k 5 z (by kernel_rfl) z s (fun _ _ _=>id) (fun w s=>r_ixa Aa Al k ts31 z z z) fun a k=>dt k 6 z (by kernel_rfl) z s (fun _ _ _=>id) (fun w s=>r_lde1 Aa ((hMd.step s).a00 (Enc.rd_lt Aa)) Al 0 t13 k z z z z) fun a k=>oE h fun Aj Af h=>dt k 10 z (by kernel_rfl) z s (fun _ _ _=>id) (fun w s=>r_ixa (Enc.ow_rd Ab) Af k ts31 z z z) fun a k=>?_
     refine dt k 11 z (by kernel_rfl) z s (fun _ _ _=>id) (fun w s=>r_lde1 (Enc.ow_rd Ab) ((hMd.step s).a 0 z) Af 0 t13 k z z z z) fun a k=>oE h fun Bf Ao h=>dt k 12 z (by kernel_rfl) z s (fun _ _ _=>id) (fun w s=>r_ixa Aa Ao k ts31 z z z) fun a k=>dt k 13 z (by kernel_rfl) z s (fun _ _ _=>id) (fun w s=>r_lde1 Aa ((hMd.step s).a00 (Enc.rd_lt Aa)) Ao 0 t13 k z z z z) fun a k=>dN [14,15] 2 z k (by kernel_rfl) z s (fun _ _ _ _ _=>id) fun a k=>bsplit (decide (Bd < Bf)) (fun At=>?_) (fun At=>?_)
     · have h:=bif_t At h
       refine rB k 98 z At fun k=>dN [16,17,18,19] 4 z k (by kernel_rfl) z s (fun _ _ _ _ _=>id) fun a k=>bsplit (!Ai) (fun Au=>?_) (fun Au=>?_)
       · have h:=bif_t Au h
         refine rB k 102 z Au fun k=>dN [20,21,22,23,24,25,26,27,28,29,30,31,32,33,34,35,36,37,38,39] 20 z k (by kernel_rfl) z s (fun _ _ _ _ _=>id) fun a k=>d_done (by kernel_rfl) ?_
         have k:=k.keep [0,2,8,9,10,11,12,82] z
         refine (nm_then ?_)
         refine wp_cond_true (k.ev z) (wr (pN 3 k z fun a k=>oE h fun Fp Hw h=>sv k z (r_ixa (Enc.ow_rd Ac) Ag k ts31 z z z) fun a k=>sv k z (r_lde1 (Enc.ow_rd Ac) (m.a 1 z) Ag 0 t13 k z z z z) fun a k=>s_bs (cs:=[I Ap]) (ps:=[(0,.tmp 126)]) te31 m k z z z z z z z (by decide) z (by exact (List.forall_mem_cons.2 ⟨z,(List.forall_mem_nil _)⟩)) fun Hm Hz Fl a k m e Cr=>?_))
         have Ej:=ow_bx Cr ([Ap]:List Int) z z z
         refine oE h fun Fb Ez h=>s_appF Ez te31 z m 3 Ah (News.rd (Enc.rd_agr (Enc.ow_rd Ej) (m.a 0 z))) z z k z z z z z z z fun Fh Da Dm a k e m Eb=>pN 1 k z fun a k=>nn (wp_region_lit (pN 3 k z fun a k=>wpList_nil (nm_block (nm_block (nm_then ?_)))))
         exact ⟨Fb,Fh,Da,Dm,Ad,w64 (Ae + 1),k.keep [0,2,8,9,10,11,12] z,m.sel [1,2,3] z (by decide),Eb,h⟩
       have h:=bif_f Au h
       refine rB k 102 z Au fun k=>dN [20,21,22,27,28,29] 6 z k (by kernel_rfl) z s (fun _ _ _ _ _=>id) fun a k=>oE h fun Gf Fm h=>dt k 23 z (by kernel_rfl) z s (fun _ _ _=>id) (fun w s=>r_ixa (Enc.ow_rd Ac) Ag k ts31 z z z) fun a k=>dt k 24 z (by kernel_rfl) z s (fun _ _ _=>id) (fun w s=>r_lde1 (Enc.ow_rd Ac) ((hMd.step s).a 1 z) Ag 0 t13 k z z z z) fun a k=>oE h fun Gp He h=>dt k 25 z (by kernel_rfl) z s (fun _ _ _=>id) (fun w s=>r_ixa Aa Al k ts31 z z z) fun a k=>dt k 26 z (by kernel_rfl) z s (fun _ _ _=>id) (fun w s=>r_lde1 Aa ((hMd.step s).a00 (Enc.rd_lt Aa)) Al 0 t13 k z z z z) fun a k=>oE h fun Hd Fq h=>?_
       refine dt k 30 z (by kernel_rfl) z s (fun _ _ _=>id) (fun w s=>r_ixa (Enc.ow_rd Ab) Af k ts31 z z z) fun a k=>dt k 31 z (by kernel_rfl) z s (fun _ _ _=>id) (fun w s=>r_lde1 (Enc.ow_rd Ab) ((hMd.step s).a 0 z) Af 0 t13 k z z z z) fun a k=>oE h fun Hx Fk h=>dt k 32 z (by kernel_rfl) z s (fun _ _ _=>id) (fun w s=>r_ixa Aa Ao k ts31 z z z) fun a k=>dt k 33 z (by kernel_rfl) z s (fun _ _ _=>id) (fun w s=>r_lde1 Aa ((hMd.step s).a00 (Enc.rd_lt Aa)) Ao 0 t13 k z z z z) fun a k=>dN [34,35] 2 z k (by kernel_rfl) z s (fun _ _ _ _ _=>id) fun a k=>bsplit (decide (Bd > Bf)) (fun Av=>?_) (fun Av=>?_)
       · have h:=bif_t Av h
         refine rB k 118 z Av fun k=>dN [36,37,38,39] 4 z k (by kernel_rfl) z s (fun _ _ _ _ _=>id) fun a k=>d_done (by kernel_rfl) ?_
         have k:=k.keep [0,2,8,9,10,11,12,82] z
         refine (nm_then ?_)
         refine cI h k z (fun Cq h=>?_) fun Cq h=>?_
         · refine wr (pN 3 k z fun a k=>oE h fun Ft Gb h=>sv k z (r_ixa (Enc.ow_rd Ac) Ag k ts31 z z z) fun a k=>sv k z (r_lde1 (Enc.ow_rd Ac) (m.a 1 z) Ag 0 t13 k z z z z) fun a k=>s_bs (cs:=[I Ap]) (ps:=[(0,.tmp 126)]) te31 m k z z z z z z z (by decide) z (by exact (List.forall_mem_cons.2 ⟨z,(List.forall_mem_nil _)⟩)) fun Hc Ge Hb a k m e Ew=>?_)
           have Db:=ow_bx Ew ([Ap]:List Int) z z z
           refine oE h fun El Ff h=>s_appF Ff te31 z m 3 Ah (News.rd (Enc.rd_agr (Enc.ow_rd Db) (m.a 0 z))) z z k z z z z z z z fun Cn Bw Ep a k e m Bs=>pN 1 k z fun a k=>nn (wp_region_lit (pN 3 k z fun a k=>wpList_nil (nm_block (nm_block (nm_then ?_)))))
           exact ⟨El,Cn,Bw,Ep,Ad,w64 (Ae + 1),k.keep [0,2,8,9,10,11,12] z,m.sel [1,2,3] z (by decide),Bs,h⟩
         refine wr (pN 3 k z fun a k=>oE h fun Fx Fr h=>sv k z (r_ixa (Enc.ow_rd Ab) Af k ts31 z z z) fun a k=>sv k z (r_lde1 (Enc.ow_rd Ab) (m.a 0 z) Af 0 t13 k z z z z) fun a k=>s_bs (cs:=[I Aj]) (ps:=[(0,.tmp 49)]) te31 m k z z z z z z z (by decide) z (by exact (List.forall_mem_cons.2 ⟨z,(List.forall_mem_nil _)⟩)) fun Hp Gt Gk a k m e Ee=>?_)
         have By:=ow_bx Ee ([Aj]:List Int) z z z
         refine oE h fun Bu Dy h=>s_appF Dy te31 z m 3 Ah (News.rd (Enc.rd_agr (Enc.ow_rd By) (m.a 0 z))) z z k z z z z z z z fun Cg Fg Ey a k e m Df=>pN 1 k z fun a k=>nn (wp_region_lit (pN 3 k z fun a k=>wpList_nil (nm_block (nm_block (nm_then ?_)))))
         exact ⟨Bu,Cg,Fg,Ey,w64 (Ad + 1),Ae,k.keep [0,2,8,9,10,11,12] z,m.sel [1,2,3] z (by decide),Df,h⟩
       have h:=bif_f Av h
       refine rB k 118 z Av fun k=>dN [36,37,38,39] 4 z k (by kernel_rfl) z s (fun _ _ _ _ _=>id) fun a k=>d_done (by kernel_rfl) ?_
       have k:=k.keep [0,2,8,9,10,11,12,82] z
       refine (nm_then ?_)
       refine wp_cond_false (k.ev z) (wr (pN 3 k z fun a k=>oE h fun Hr Ho h=>sv k z (r_ixa (Enc.ow_rd Ab) Af k ts31 z z z) fun a k=>sv k z (r_lde1 (Enc.ow_rd Ab) (m.a 0 z) Af 0 t13 k z z z z) fun a k=>s_bs (cs:=[I Aj]) (ps:=[(0,.tmp 49)]) te31 m k z z z z z z z (by decide) z (by exact (List.forall_mem_cons.2 ⟨z,(List.forall_mem_nil _)⟩)) fun Hj Ht Fn a k m e Es=>?_))
       have Dh:=ow_bx Es ([Aj]:List Int) z z z
       refine oE h fun Dg Cb h=>s_appF Cb te31 z m 3 Ah (News.rd (Enc.rd_agr (Enc.ow_rd Dh) (m.a 0 z))) z z k z z z z z z z fun Ds Ek Dk a k e m Dv=>pN 1 k z fun a k=>nn (wp_region_lit (pN 3 k z fun a k=>wpList_nil (nm_block (nm_block (nm_then ?_)))))
       exact ⟨Dg,Ds,Ek,Dk,w64 (Ad + 1),Ae,k.keep [0,2,8,9,10,11,12] z,m.sel [1,2,3] z (by decide),Dv,h⟩
     have h:=bif_f At h
     refine rB k 98 z At fun k=>dN [16,17,18,19,20,21,22,27,28,29] 10 z k (by kernel_rfl) z s (fun _ _ _ _ _=>id) fun a k=>oE h fun Ga Hq h=>dt k 23 z (by kernel_rfl) z s (fun _ _ _=>id) (fun w s=>r_ixa (Enc.ow_rd Ac) Ag k ts31 z z z) fun a k=>dt k 24 z (by kernel_rfl) z s (fun _ _ _=>id) (fun w s=>r_lde1 (Enc.ow_rd Ac) ((hMd.step s).a 1 z) Ag 0 t13 k z z z z) fun a k=>oE h fun Gq Id h=>dt k 25 z (by kernel_rfl) z s (fun _ _ _=>id) (fun w s=>r_ixa Aa Al k ts31 z z z) fun a k=>dt k 26 z (by kernel_rfl) z s (fun _ _ _=>id) (fun w s=>r_lde1 Aa ((hMd.step s).a00 (Enc.rd_lt Aa)) Al 0 t13 k z z z z) fun a k=>oE h fun Gv Hn h=>?_
     refine dt k 30 z (by kernel_rfl) z s (fun _ _ _=>id) (fun w s=>r_ixa (Enc.ow_rd Ab) Af k ts31 z z z) fun a k=>dt k 31 z (by kernel_rfl) z s (fun _ _ _=>id) (fun w s=>r_lde1 (Enc.ow_rd Ab) ((hMd.step s).a 0 z) Af 0 t13 k z z z z) fun a k=>oE h fun Gl Gd h=>dt k 32 z (by kernel_rfl) z s (fun _ _ _=>id) (fun w s=>r_ixa Aa Ao k ts31 z z z) fun a k=>dt k 33 z (by kernel_rfl) z s (fun _ _ _=>id) (fun w s=>r_lde1 Aa ((hMd.step s).a00 (Enc.rd_lt Aa)) Ao 0 t13 k z z z z) fun a k=>dN [34,35] 2 z k (by kernel_rfl) z s (fun _ _ _ _ _=>id) fun a k=>bsplit (decide (Bd > Bf)) (fun Ar=>?_) (fun Ar=>?_)
     · have h:=bif_t Ar h
       refine rB k 118 z Ar fun k=>dN [36,37,38,39] 4 z k (by kernel_rfl) z s (fun _ _ _ _ _=>id) fun a k=>d_done (by kernel_rfl) ?_
       have k:=k.keep [0,2,8,9,10,11,12,82] z
       refine (nm_then ?_)
       refine cI h k z (fun Em h=>?_) fun Em h=>?_
       · refine wr (pN 3 k z fun a k=>oE h fun Hu Gi h=>sv k z (r_ixa (Enc.ow_rd Ac) Ag k ts31 z z z) fun a k=>sv k z (r_lde1 (Enc.ow_rd Ac) (m.a 1 z) Ag 0 t13 k z z z z) fun a k=>s_bs (cs:=[I Ap]) (ps:=[(0,.tmp 126)]) te31 m k z z z z z z z (by decide) z (by exact (List.forall_mem_cons.2 ⟨z,(List.forall_mem_nil _)⟩)) fun Ib Gz Fs a k m e Cx=>?_)
         have Cz:=ow_bx Cx ([Ap]:List Int) z z z
         refine oE h fun En Ed h=>s_appF Ed te31 z m 3 Ah (News.rd (Enc.rd_agr (Enc.ow_rd Cz) (m.a 0 z))) z z k z z z z z z z fun Et Ec Do a k e m Ck=>pN 1 k z fun a k=>nn (wp_region_lit (pN 3 k z fun a k=>wpList_nil (nm_block (nm_block (nm_then ?_)))))
         exact ⟨En,Et,Ec,Do,Ad,w64 (Ae + 1),k.keep [0,2,8,9,10,11,12] z,m.sel [1,2,3] z (by decide),Ck,h⟩
       refine wr (pN 3 k z fun a k=>oE h fun Gy Hh h=>sv k z (r_ixa (Enc.ow_rd Ab) Af k ts31 z z z) fun a k=>sv k z (r_lde1 (Enc.ow_rd Ab) (m.a 0 z) Af 0 t13 k z z z z) fun a k=>s_bs (cs:=[I Aj]) (ps:=[(0,.tmp 49)]) te31 m k z z z z z z z (by decide) z (by exact (List.forall_mem_cons.2 ⟨z,(List.forall_mem_nil _)⟩)) fun Gu Fw Fj a k m e Ev=>?_)
       have Ca:=ow_bx Ev ([Aj]:List Int) z z z
       refine oE h fun Er Cp h=>s_appF Cp te31 z m 3 Ah (News.rd (Enc.rd_agr (Enc.ow_rd Ca) (m.a 0 z))) z z k z z z z z z z fun Eh Dl Dn a k e m Fc=>pN 1 k z fun a k=>nn (wp_region_lit (pN 3 k z fun a k=>wpList_nil (nm_block (nm_block (nm_then ?_)))))
       exact ⟨Er,Eh,Dl,Dn,w64 (Ad + 1),Ae,k.keep [0,2,8,9,10,11,12] z,m.sel [1,2,3] z (by decide),Fc,h⟩
     have h:=bif_f Ar h
     refine rB k 118 z Ar fun k=>dN [36,37,38,39] 4 z k (by kernel_rfl) z s (fun _ _ _ _ _=>id) fun a k=>d_done (by kernel_rfl) ?_
     have k:=k.keep [0,2,8,9,10,11,12,82] z
     refine (nm_then ?_)
     refine wp_cond_false (k.ev z) (wr (pN 3 k z fun a k=>oE h fun Ha Fu h=>sv k z (r_ixa (Enc.ow_rd Ab) Af k ts31 z z z) fun a k=>sv k z (r_lde1 (Enc.ow_rd Ab) (m.a 0 z) Af 0 t13 k z z z z) fun a k=>s_bs (cs:=[I Aj]) (ps:=[(0,.tmp 49)]) te31 m k z z z z z z z (by decide) z (by exact (List.forall_mem_cons.2 ⟨z,(List.forall_mem_nil _)⟩)) fun Hf Gw Gc a k m e Cw=>?_))
     have Ce:=ow_bx Cw ([Aj]:List Int) z z z
     refine oE h fun De Dx h=>s_appF Dx te31 z m 3 Ah (News.rd (Enc.rd_agr (Enc.ow_rd Ce) (m.a 0 z))) z z k z z z z z z z fun Dt Dc Bt a k e m Cm=>pN 1 k z fun a k=>nn (wp_region_lit (pN 3 k z fun a k=>wpList_nil (nm_block (nm_block (nm_then ?_)))))
     exact ⟨De,Dt,Dc,Bt,w64 (Ad + 1),Ae,k.keep [0,2,8,9,10,11,12] z,m.sel [1,2,3] z (by decide),Cm,h⟩
   refine wr (pN 2 k z fun a k=>sv k z (r_len (α:=Int) (Enc.ow_rd Ab) k underlying31 z z) fun a k=>pN 2 k z fun a k=>bsplit (decide (Ad < ((Az.length:Int)))) (fun As=>?_) (fun As=>?_))
   · have h:=bif_t As h
     refine rB k 39 z As fun k=>pN 5 k z fun a k=>nn (wp_cond_true (k.ev z) (wp_skip (nm_then ?_)))
     exact ⟨k.keep [0,2,8,9,10,11,12] z,m.sel [0,1,2] z (by decide),h⟩
   have h:=bif_f As h
   refine rB k 39 z As fun k=>pN 2 k z fun a k=>sv k z (r_len (α:=Int) (Enc.ow_rd Ac) k underlying31 z z) fun a k=>pN 2 k z fun a k=>nn (cI h k z (fun Co h=>?_) fun Co h=>?_)
   · refine wp_skip (nm_then ?_)
     exact ⟨k.keep [0,2,8,9,10,11,12] z,m.sel [0,1,2] z (by decide),h⟩
   refine wp_exit (ex_then (ex_then (ex_same (nm_then ?_))))
   refine wr (pN 2 k z fun a k=>nn (wp_ret ?_))
   cases h
   exact finR1 k z (RV.tmp k z) ⟨_,Aq,z,m.ext,(Enc.ow_agr Ah (m.a 2 z)),(m.fresh 2 z)⟩
 exact ⟨([]:List Int),(.slice (some ⟨Bg,0,none⟩) 0 0),[Bg],Ch,0,0,k.keep [0,2,8,9,10,11,12] z,m.sel [2,1,0] z (by decide),Cd,h⟩
theorem c_spec_l1Merge (fu:Nat) {w0:World} (Ac:List Int) (Ab:List Int) (Aa:Bool) {v2:Value} {F3:List Nat} (Ae:rd w0 F3 [v2] Ac) {v6:Value} {F7:List Nat} (Ad:rd w0 F7 [v6] Ab) {r:(List Int)}
    (h:d_spec_l1Merge fu Ac Ab Aa = some r):Calls Tryz.prog 254 #[v2,v6,.bool (Aa)] w0 fun e w=>∃ (v0:Value) (G0:List Nat),e = .returned (v0) ∧ Ext [] w0 w ∧ ow w G0 [v0] r ∧ (∀ b ∈ G0,w0.heap.size ≤ b) :=
  c_spec_l1Merge_R fu fu Ac Ab Aa Ae Ad h

theorem c_spec_SortUp (fu:Nat) {w0:World} (Ae:List Int) {v2:Value} {F3:List Nat} (Ac:rd w0 F3 [v2] Ae) {r:(List Int)}
    (h:d_spec_SortUp fu Ae = some r) :
    Calls Tryz.prog 194 #[v2] w0 fun e w=>∃ (v0:Value) (G0:List Nat),e = .returned (v0) ∧ Ext [] w0 w ∧ ow w G0 [v0] r ∧ (∀ b ∈ G0,w0.heap.size ≤ b):=by
 refine enter (vs:=[_]) func194 z ntmps194 z fun a k=>?_
 have m:=St.start w0
 unfold d_spec_SortUp at h
 refine wr (pN 1 k z fun a k=>nn (wr (pN 2 k z fun a k=>sv k z (r_len (α:=Int) Ac k underlying31 z z) fun a k=>oE h fun x5 Af h=>s_call k call173 z z z z z (c_spec_l1Places fu _  Af) fun e7 w9 hR=>?_)))
 obtain ⟨Ak,Aj,rfl,e,Ab,Ai⟩:=hR
 refine ⟨_,z,fun a k=>?_⟩
 have m:=m.new e Aj (fun b hb=>⟨Ai b hb,Enc.rd_lt (Enc.ow_rd Ab) b hb⟩) (Enc.ow_nd Ab)
 refine oE h fun Am Ag h=>s_call k call254 z z z z z (c_spec_l1Merge fu _ _ _ (Enc.rd_agr Ac (m.a00 (Enc.rd_lt Ac))) (Enc.rd_agr (Enc.ow_rd Ab) (m.a 0 z)) Ag) fun Al Ap hR=>?_
 obtain ⟨Ao,Ad,rfl,e,Aa,Ah⟩:=hR
 refine ⟨_,z,fun a k=>?_⟩
 have m:=m.new e Ad (fun b hb=>⟨Ah b hb,Enc.rd_lt (Enc.ow_rd Aa) b hb⟩) (Enc.ow_nd Aa)
 refine pN 1 k z fun a k=>nn (wp_ret ?_)
 cases h
 exact finR1 k z (RV.tmp k z) ⟨_,Ad,z,m.ext,(Enc.ow_agr Aa (m.a 0 z)),(m.fresh 0 z)⟩
theorem c_spec_l5Sides (fu:Nat) {w0:World} (Ac:Int) (h2:Int) (d3:Int)  {r:(List Int)}
    (h:d_spec_l5Sides fu Ac h2 d3 = some r) :
    Calls Tryz.prog 162 #[I Ac,I h2,I d3] w0 fun e w=>∃ (v0:Value) (G0:List Nat),e = .returned (v0) ∧ Ext [] w0 w ∧ ow w G0 [v0] r ∧ (∀ b ∈ G0,w0.heap.size ≤ b):=by
 refine enter (vs:=[_,_,_]) func162 z ntmps162 z fun a k=>?_
 have m:=St.start w0
 unfold d_spec_l5Sides at h
 refine wr (pN 1 k z fun a k=>nn (wr (pN 3 k z fun a k=>s_bs (cs:=[I Ac,I h2,I d3]) (ps:=[(0,.tmp 9),(1,.tmp 10),(2,.tmp 11)]) te31 m k z z z z z z z (by decide) z (by exact (List.forall_mem_cons.2 ⟨z,(List.forall_mem_cons.2 ⟨z,(List.forall_mem_cons.2 ⟨z,(List.forall_mem_nil _)⟩)⟩)⟩)) fun g4 w5 e7 a k m e Au=>?_)))
 have Ab:=ow_bx Au ([Ac,h2,d3]:List Int) z z z
 refine pN 1 k z fun a k=>nn (wr (pN 1 k z fun a k=>oE h fun x9 Aq h=>s_call k call194 z z z z z (c_spec_SortUp fu _ (Enc.rd_agr (Enc.ow_rd Ab) (m.a 0 z)) Aq) fun Bb Aw hR=>?_))
 obtain ⟨Az,Ar,rfl,e,Aa,Ap⟩:=hR
 refine ⟨_,z,fun a k=>?_⟩
 have m:=m.new e Ar (fun b hb=>⟨Ap b hb,Enc.rd_lt (Enc.ow_rd Aa) b hb⟩) (Enc.ow_nd Aa)
 refine pN 1 k z fun a k=>nn (wp_seq (d_go [] mixo m z fun Av hMd=>?_))
 have m:=hMd
 have s:=Ext.refl ([]:List Nat) Av
 refine dN [0,1,6,7,12,13] 6 z k (by kernel_rfl) z s (fun _ _ _ _ _=>id) fun a k=>oE h fun Ax Ai h=>dt k 2 z (by kernel_rfl) z s (fun _ _ _=>id) (fun w s=>r_ixa (Enc.ow_rd Aa) Ai k ts31 z z z) fun a k=>dt k 3 z (by kernel_rfl) z s (fun _ _ _=>id) (fun w s=>r_lde1 (Enc.ow_rd Aa) ((hMd.step s).a 0 z) Ai 0 t13 k z z z z) fun a k=>oE h fun Aj Af h=>dt k 4 z (by kernel_rfl) z s (fun _ _ _=>id) (fun w s=>r_ixa (Enc.ow_rd Ab) Af k ts31 z z z) fun a k=>dt k 5 z (by kernel_rfl) z s (fun _ _ _=>id) (fun w s=>r_lde1 (Enc.ow_rd Ab) ((hMd.step s).a 1 z) Af 0 t13 k z z z z) fun a k=>oE h fun Bc Ak h=>dt k 8 z (by kernel_rfl) z s (fun _ _ _=>id) (fun w s=>r_ixa (Enc.ow_rd Aa) Ak k ts31 z z z) fun a k=>?_
 refine dt k 9 z (by kernel_rfl) z s (fun _ _ _=>id) (fun w s=>r_lde1 (Enc.ow_rd Aa) ((hMd.step s).a 0 z) Ak 0 t13 k z z z z) fun a k=>oE h fun Ah Ad h=>dt k 10 z (by kernel_rfl) z s (fun _ _ _=>id) (fun w s=>r_ixa (Enc.ow_rd Ab) Ad k ts31 z z z) fun a k=>dt k 11 z (by kernel_rfl) z s (fun _ _ _=>id) (fun w s=>r_lde1 (Enc.ow_rd Ab) ((hMd.step s).a 1 z) Ad 0 t13 k z z z z) fun a k=>oE h fun Ba Ae h=>dt k 14 z (by kernel_rfl) z s (fun _ _ _=>id) (fun w s=>r_ixa (Enc.ow_rd Aa) Ae k ts31 z z z) fun a k=>dt k 15 z (by kernel_rfl) z s (fun _ _ _=>id) (fun w s=>r_lde1 (Enc.ow_rd Aa) ((hMd.step s).a 0 z) Ae 0 t13 k z z z z) fun a k=>oE h fun Al Ag h=>?_
 refine dt k 16 z (by kernel_rfl) z s (fun _ _ _=>id) (fun w s=>r_ixa (Enc.ow_rd Ab) Ag k ts31 z z z) fun a k=>dt k 17 z (by kernel_rfl) z s (fun _ _ _=>id) (fun w s=>r_lde1 (Enc.ow_rd Ab) ((hMd.step s).a 1 z) Ag 0 t13 k z z z z) fun a k=>d_one 18 (by kernel_rfl) z (s_bsN (cs:=[I Aj,I Ah,I Al]) (ps:=[(0,.tmp 20),(1,.tmp 26),(2,.tmp 32)]) te31 m k z z z z z z z (by decide) z (by exact (List.forall_mem_cons.2 ⟨z,(List.forall_mem_cons.2 ⟨z,(List.forall_mem_cons.2 ⟨z,(List.forall_mem_nil _)⟩)⟩)⟩)) fun Ao Bd Be a k m e At Am=>?_)
 have Ay:=lo1 (Nat.le_trans s.size Am)
 have As:=ow_bx At ([Aj,Ah,Al]:List Int) z z z
 have s:=s.trans e (by simp)
 refine wpList_nil ⟨s,?_⟩
 refine dN [19] 1 z k (by kernel_rfl) z s (fun _ _ _ _ _=>id) fun a k=>d_done (by kernel_rfl) ?_
 have k:=k.keep [6] z
 refine (nm_then ?_)
 refine wp_ret ?_
 cases h
 exact finR1 k z (RV.tmp k z) ⟨_,[Ao],z,m.ext,(Enc.ow_agr As (m.a 0 z)),(m.fresh 0 z)⟩
theorem c_spec_Fits (fu:Nat) {w0:World} (x1:Item) (t2:Typ)  {r:Bool}
    (h:d_spec_Fits fu x1 t2 = some r) :
    Calls Tryz.prog 73 #[.agg (Flat.e (x1)).toArray,.agg (Flat.e (t2)).toArray] w0 fun e w=>e = .returned (.bool (r)) ∧ Ext [] w0 w:=by
 refine enter (vs:=[_,_]) func73 z ntmps73 z fun a k=>?_
 have m:=St.start w0
 unfold d_spec_Fits at h
 refine wr (s_box (cs:=[I x1.fId,I x1.fW,I x1.fH,I x1.fD,I x1.fGram,I x1.fClass,I x1.fCount]) m k z z z z z z fun b3 w5 a k m e Af=>s_box (cs:=[I t2.fId,I t2.fW,I t2.fH,I t2.fD,I t2.fTare,I t2.fGram,I t2.fCost]) m k z z z z z z fun b6 w9 a k m e Ag=>pN 1 k z fun a k=>nn (wr (sv k z (r_fa fa97_1 k z z) fun a k=>sv k z (r_ldb t13 m 1 Af 1 k z z z z z) fun a k=>sv k z (r_fa fa97_2 k z z) fun a k=>sv k z (r_ldb t13 m 1 Af 2 k z z z z z) fun a k=>sv k z (r_fa fa97_3 k z z) fun a k=>sv k z (r_ldb t13 m 1 Af 3 k z z z z z) fun a k=>oE h fun Bf Ar h=>?_)))
 refine s_call k call162 z z z z z (c_spec_l5Sides fu _ _ _  Ar) fun Bh Bb hR=>?_
 obtain ⟨Bc,At,rfl,e,Aa,Aq⟩:=hR
 refine ⟨_,z,fun a k=>?_⟩
 have m:=m.new e At (fun b hb=>⟨Aq b hb,Enc.rd_lt (Enc.ow_rd Aa) b hb⟩) (Enc.ow_nd Aa)
 refine pN 1 k z fun a k=>nn (wr (sv k z (r_fa fa38_1 k z z) fun a k=>sv k z (r_ldb t13 m 1 Ag 1 k z z z z z) fun a k=>sv k z (r_fa fa38_2 k z z) fun a k=>sv k z (r_ldb t13 m 1 Ag 2 k z z z z z) fun a k=>sv k z (r_fa fa38_3 k z z) fun a k=>sv k z (r_ldb t13 m 1 Ag 3 k z z z z z) fun a k=>oE h fun Be Av h=>s_call k call162 z z z z z (c_spec_l5Sides fu _ _ _  Av) fun Bg Bd hR=>?_))
 obtain ⟨Bi,As,rfl,e,Ab,Au⟩:=hR
 refine ⟨_,z,fun a k=>?_⟩
 have m:=m.new e As (fun b hb=>⟨Au b hb,Enc.rd_lt (Enc.ow_rd Ab) b hb⟩) (Enc.ow_nd Ab)
 refine pN 1 k z fun a k=>nn (wp_seq (d_go [] mixo m z fun Ao hMd=>?_))
 have m:=hMd
 have s:=Ext.refl ([]:List Nat) Ao
 refine dN [0,3] 2 z k (by kernel_rfl) z s (fun _ _ _ _ _=>id) fun a k=>oE h fun Ba Ai h=>dt k 1 z (by kernel_rfl) z s (fun _ _ _=>id) (fun w s=>r_ixa (Enc.ow_rd Aa) Ai k ts31 z z z) fun a k=>dt k 2 z (by kernel_rfl) z s (fun _ _ _=>id) (fun w s=>r_lde1 (Enc.ow_rd Aa) ((hMd.step s).a 1 z) Ai 0 t13 k z z z z) fun a k=>oE h fun Aw Aj h=>dt k 4 z (by kernel_rfl) z s (fun _ _ _=>id) (fun w s=>r_ixa (Enc.ow_rd Ab) Aj k ts31 z z z) fun a k=>dt k 5 z (by kernel_rfl) z s (fun _ _ _=>id) (fun w s=>r_lde1 (Enc.ow_rd Ab) ((hMd.step s).a 0 z) Aj 0 t13 k z z z z) fun a k=>dN [6,7] 2 z k (by kernel_rfl) z s (fun _ _ _ _ _=>id) fun a k=>bsplit (decide (Ba ≤ Aw)) (fun Ae=>?_) (fun Ae=>?_)
 · have h:=bif_t Ae h
   refine rB k 28 z Ae fun k=>dN [8,11] 2 z k (by kernel_rfl) z s (fun _ _ _ _ _=>id) fun a k=>oE h fun Ay Am h=>dt k 9 z (by kernel_rfl) z s (fun _ _ _=>id) (fun w s=>r_ixa (Enc.ow_rd Aa) Am k ts31 z z z) fun a k=>dt k 10 z (by kernel_rfl) z s (fun _ _ _=>id) (fun w s=>r_lde1 (Enc.ow_rd Aa) ((hMd.step s).a 1 z) Am 0 t13 k z z z z) fun a k=>oE h fun Az Ak h=>dt k 12 z (by kernel_rfl) z s (fun _ _ _=>id) (fun w s=>r_ixa (Enc.ow_rd Ab) Ak k ts31 z z z) fun a k=>dt k 13 z (by kernel_rfl) z s (fun _ _ _=>id) (fun w s=>r_lde1 (Enc.ow_rd Ab) ((hMd.step s).a 0 z) Ak 0 t13 k z z z z) fun a k=>dN [14,15,16] 3 z k (by kernel_rfl) z s (fun _ _ _ _ _=>id) fun a k=>bsplit (decide (Ay ≤ Az)) (fun Ad=>?_) (fun Ad=>?_)
   · have h:=bif_t Ad h
     refine rB k 37 z Ad fun k=>dN [17,20] 2 z k (by kernel_rfl) z s (fun _ _ _ _ _=>id) fun a k=>oE h fun Ap Al h=>dt k 18 z (by kernel_rfl) z s (fun _ _ _=>id) (fun w s=>r_ixa (Enc.ow_rd Aa) Al k ts31 z z z) fun a k=>dt k 19 z (by kernel_rfl) z s (fun _ _ _=>id) (fun w s=>r_lde1 (Enc.ow_rd Aa) ((hMd.step s).a 1 z) Al 0 t13 k z z z z) fun a k=>oE h fun Ax Ah h=>dt k 21 z (by kernel_rfl) z s (fun _ _ _=>id) (fun w s=>r_ixa (Enc.ow_rd Ab) Ah k ts31 z z z) fun a k=>dt k 22 z (by kernel_rfl) z s (fun _ _ _=>id) (fun w s=>r_lde1 (Enc.ow_rd Ab) ((hMd.step s).a 0 z) Ah 0 t13 k z z z z) fun a k=>dN [23,24,25] 3 z k (by kernel_rfl) z s (fun _ _ _ _ _=>id) fun a k=>bsplit (decide (Ap ≤ Ax)) (fun Ac=>?_) (fun Ac=>?_)
     · have h:=bif_t Ac h
       refine rB k 46 z Ac fun k=>dt k 26 z (by kernel_rfl) z s (fun _ _ _=>id) (fun w s=>r_fa fa97_4 k z z) fun a k=>dt k 27 z (by kernel_rfl) z s (fun _ _ _=>id) (fun w s=>r_ld1 t13 (r:=[]) (Af.at ((hMd.step s).a 3 z) 4 1 z z z) k z z) fun a k=>dt k 28 z (by kernel_rfl) z s (fun _ _ _=>id) (fun w s=>r_fa fa38_5 k z z) fun a k=>dt k 29 z (by kernel_rfl) z s (fun _ _ _=>id) (fun w s=>r_ld1 t13 (r:=[]) (Ag.at ((hMd.step s).a 2 z) 5 1 z z z) k z z) fun a k=>dN [30,31,32] 3 z k (by kernel_rfl) z s (fun _ _ _ _ _=>id) fun a k=>d_done (by kernel_rfl) ?_
       have k:=k.keep [4] z
       refine (nm_then ?_)
       refine wp_ret (fS h k m z z)
     have h:=bif_f Ac h
     refine rB k 46 z Ac fun k=>dN [26,27,28,29,30,31,32] 7 z k (by kernel_rfl) z s (fun _ _ _ _ _=>id) fun a k=>d_done (by kernel_rfl) ?_
     have k:=k.keep [4] z
     refine (nm_then ?_)
     refine wp_ret (fS h k m z z)
   have h:=bif_f Ad h
   refine rB k 37 z Ad fun k=>dN [17,18,19,20,21,22,23,24,25,26,27,28,29,30,31,32] 16 z k (by kernel_rfl) z s (fun _ _ _ _ _=>id) fun a k=>d_done (by kernel_rfl) ?_
   have k:=k.keep [4] z
   refine (nm_then ?_)
   refine wp_ret (fS h k m z z)
 have h:=bif_f Ae h
 refine rB k 28 z Ae fun k=>dN [8,9,10,11,12,13,14,15,16,17,18,19,20,21,22,23,24,25,26,27,28,29,30,31,32] 25 z k (by kernel_rfl) z s (fun _ _ _ _ _=>id) fun a k=>d_done (by kernel_rfl) ?_
 have k:=k.keep [4] z
 refine (nm_then ?_)
 refine wp_ret (fS h k m z z)
theorem c_spec_Class (fu:Nat) {w0:World} (r1:Request) {Aq:List Value} {F3:List Nat} (Bl:rd w0 F3 Aq r1) {r:Int}
    (h:d_spec_Class fu r1 = some r) :
    Calls Tryz.prog 19 #[.agg Aq.toArray] w0 fun e w=>e = .returned (I r) ∧ Ext [] w0 w:=by
 refine enter (vs:=[_]) func19 z ntmps19 z fun a k=>?_
 have m:=St.start w0
 obtain ⟨v5,F6,v7,F8,v9,Bw,rfl,rfl,Af,Ab,Ad⟩:=Bl
 unfold d_spec_Class at h
 refine wr (s_box (cs:=[I r1.fWay,I r1.fPallet.fW,I r1.fPallet.fD,I r1.fPallet.fH,I r1.fPallet.fGram,I r1.fClasses,v5,v7,I r1.fMaster,v9]) m k z z z z z z fun Ah Ao a k m e Aa=>pN 1 k z fun a k=>nn (wp_seq (wr (sv k z (r_ldB ta30 m 0 Aa 0 k z z z z z z) fun a k=>oE h fun Bs Bm h=>?_))))
 refine cE k m call69 z z z (c_spec_BoundsOk fu _ (show rd _ _ [I r1.fWay,I r1.fPallet.fW,I r1.fPallet.fD,I r1.fPallet.fH,I r1.fPallet.fGram,I r1.fClasses,v5,v7,I r1.fMaster,v9] (r1:Request) from ⟨_,_,_,_,_,_,z,z,(Enc.rd_agr Af (m.a00 (Enc.rd_lt Af))),(Enc.rd_agr Ab (m.a00 (Enc.rd_lt Ab))),(Enc.rd_agr Ad (m.a00 (Enc.rd_lt Ad)))⟩) Bm) fun Ca e a k m=>pN 1 k z fun a k=>nn (cI h k z (fun Az h=>?_) fun Az h=>?_)
 · refine wr (pN 1 k z fun a k=>nn (wp_ret (rt_then ?_)))
   refine fS h k m z z
 refine wp_skip (nm_then ?_)
 refine wp_seq (wr (sv k z (r_ldB ta30 m 0 Aa 0 k z z z z z z) fun a k=>oE h fun By Bc h=>cE k m call70 z z z (c_spec_l5Names fu _ (show rd _ _ [I r1.fWay,I r1.fPallet.fW,I r1.fPallet.fD,I r1.fPallet.fH,I r1.fPallet.fGram,I r1.fClasses,v5,v7,I r1.fMaster,v9] (r1:Request) from ⟨_,_,_,_,_,_,z,z,(Enc.rd_agr Af (m.a00 (Enc.rd_lt Af))),(Enc.rd_agr Ab (m.a00 (Enc.rd_lt Ab))),(Enc.rd_agr Ad (m.a00 (Enc.rd_lt Ad)))⟩) Bc) fun Bo e a k m=>pN 1 k z fun a k=>nn (cI h k z (fun Ba h=>?_) fun Ba h=>?_)))
 · refine wr (pN 1 k z fun a k=>nn (wp_ret (rt_then ?_)))
   refine fS h k m z z
 refine wp_skip (nm_then ?_)
 refine wp_seq (wr (sv k z (r_fa fa30_3 k z z) fun a k=>sv k z (r_ldb t126 m 0 Aa 6 k z z z z z) fun a k=>sv k z (r_fa fa30_2 k z z) fun a k=>sv k z (r_ldb t13 m 0 Aa 5 k z z z z z) fun a k=>oE h fun Bv Bf h=>cE k m call71 z z z (c_spec_TableOk fu _ _ (Enc.rd_agr Af (m.a00 (Enc.rd_lt Af))) Bf) fun Br e a k m=>pN 1 k z fun a k=>nn (cI h k z (fun Bh h=>?_) fun Bh h=>?_)))
 · refine wr (pN 1 k z fun a k=>nn (wp_ret (rt_then ?_)))
   refine fS h k m z z
 refine wp_skip (nm_then ?_)
 refine wr (sv k z (r_ldB ta30 m 0 Aa 0 k z z z z z z) fun a k=>oE h fun Ae Aw h=>cE k m call72 z z z (c_spec_MasterOf fu _ (show rd _ _ [I r1.fWay,I r1.fPallet.fW,I r1.fPallet.fD,I r1.fPallet.fH,I r1.fPallet.fGram,I r1.fClasses,v5,v7,I r1.fMaster,v9] (r1:Request) from ⟨_,_,_,_,_,_,z,z,(Enc.rd_agr Af (m.a00 (Enc.rd_lt Af))),(Enc.rd_agr Ab (m.a00 (Enc.rd_lt Ab))),(Enc.rd_agr Ad (m.a00 (Enc.rd_lt Ad)))⟩) Aw) fun Bx e a k m=>pN 3 k z fun a k=>s_alloc (cs:=[I 0,I 0,I 0,I 0,I 0,I 0,I 0]) m k zeroValue38 z z z z z fun Ap Cb a k m e At=>?_)
 refine s_stb (cs':=[I Ae.1.fId,I Ae.1.fW,I Ae.1.fH,I Ae.1.fD,I Ae.1.fTare,I Ae.1.fGram,I Ae.1.fCost]) sizeOf38 m 0 At 0 k z z z z z z z z z z z fun Bk a k e m Av=>pN 1 k z fun a k=>nn (wp_seq (wr (pN 1 k z fun a k=>nn (wp_block (c_loop (fun n a w=>∃ (Am:Int),K 85 [(1,.pointer (some (⟨Ah,0,none⟩:Addr))),(3,.pointer (some (⟨Ap,0,none⟩:Addr))),(5,I Am)] a ∧ St [] w0 w [([Ah],Ao),([Ap],Bk)] ∧ d_spec_Class_L2 fu r1 Ae n Am = some r) ?_ ?_ fu _ _ ?_)))))
 · rintro a w ⟨_,_,_,h⟩
   exact nS h
 · rintro Bz a Bp ⟨Am,k,m,h⟩
   rw [d_spec_Class_L2_s] at h
   unfold d_spec_Class_L2_B at h
   refine wp_seq (wr (pN 1 k z fun a k=>sv k z (r_fa fa30_6 k z z) fun a k=>sv k z (r_ldb t128 m 0 Aa 9 k z z z z z) fun a k=>sv k z (r_len (α:=Item) Ad k underlying28 z z) fun a k=>pN 1 k z fun a k=>nn (cI h k z (fun Au h=>?_) fun Au h=>?_)))
   · refine wp_skip (nm_then ?_)
     refine wp_seq (wp_block (wp_seq (d_go [] mixo m z fun Bb hMd=>?_)))
     have m:=hMd
     have s:=Ext.refl ([]:List Nat) Bb
     refine dN [2] 1 z k (by kernel_rfl) z s (fun _ _ _ _ _=>id) fun a k=>dt k 0 z (by kernel_rfl) z s (fun _ _ _=>id) (fun w s=>r_fa fa30_6 k z z) fun a k=>dt k 1 z (by kernel_rfl) z s (fun _ _ _=>id) (fun w s=>r_ld1 t128 (r:=[]) (Aa.at ((hMd.step s).a 0 z) 9 1 z z z) k z z) fun a k=>oE h fun Bg As h=>dt k 3 z (by kernel_rfl) z s (fun _ _ _=>id) (fun w s=>r_ixa Ad As k ts28 z z z) fun a k=>dt k 4 z (by kernel_rfl) z s (fun _ _ _=>id) (fun w s=>r_lde Ad ((hMd.step s).a00 (Enc.rd_lt Ad)) As ta97 k z z) fun a k=>dt k 5 z (by kernel_rfl) z s (fun _ _ _=>id) (fun w s=>r_ldA ta38 (Av.at ((hMd.step s).a 1 z) 0 7 z z z) z k z z) fun a k=>d_one 6 (by kernel_rfl) z (oE h fun Ce Bd h=>?_)
     refine cE k m call73 z z z (c_spec_Fits fu (Bg:Item) (Ae.1:Typ)  Bd) fun Bn e a k m=>?_
     have s:=s.trans e (by simp)
     refine wpList_nil ⟨s,?_⟩
     refine dN [7] 1 z k (by kernel_rfl) z s (fun _ _ _ _ _=>id) fun a k=>d_done (by kernel_rfl) ((nm_then ?_))
     refine cI h k z (fun Ax h=>?_) fun Ax h=>?_
     · refine wr (pN 1 k z fun a k=>nn (wp_ret (rt_block (rt_then (rt_then (rt_block (rt_then ?_)))))))
       refine fS h k m z z
     refine wp_skip (nm_block (nm_then ?_))
     refine wp_region_lit (pN 3 k z fun a k=>nn ?_)
     exact ⟨w64 (Am + 1),k.keep [1,3,5] z,m.sel [0,1] z (by decide),h⟩
   refine wp_exit (ex_then (ex_then (ex_same (nm_then ?_))))
   refine wp_seq (wr (pN 1 k z fun a k=>nn (wp_block (c_loop (fun n a w=>∃ (Ag:Int),K 85 [(1,.pointer (some (⟨Ah,0,none⟩:Addr))),(6,I Ag)] a ∧ St [] w0 w [([Ah],Ao)] ∧ d_spec_Class_L1 fu r1 n Ag = some r) ?_ ?_ fu _ _ ?_))))
   · rintro a w ⟨_,_,_,h⟩
     exact nS h
   · rintro Bj a Bt ⟨Ag,k,m,h⟩
     rw [d_spec_Class_L1_s] at h
     unfold d_spec_Class_L1_B at h
     refine wp_seq (wr (pN 1 k z fun a k=>sv k z (r_fa fa30_4 k z z) fun a k=>sv k z (r_ldb t127 m 0 Aa 7 k z z z z z) fun a k=>sv k z (r_len (α:=Typ) Ab k underlying27 z z) fun a k=>pN 1 k z fun a k=>nn (cI h k z (fun Ay h=>?_) fun Ay h=>?_)))
     · refine wp_skip (nm_then ?_)
       refine c_cut (fun a w=>K 85 [(1,.pointer (some (⟨Ah,0,none⟩:Addr))),(6,I Ag)] a ∧ St [] w0 w [([Ah],Ao)] ∧ d_spec_Class_J1 fu (d_spec_Class_L1 fu r1 Bj) Ag = some r) ?_ ?_
       · rintro a Bu ⟨k,m,h⟩
         unfold d_spec_Class_J1 at h
         refine wp_region_lit (pN 3 k z fun a k=>nn ?_)
         exact ⟨w64 (Ag + 1),k.keep [1,6] z,m.sel [0] z (by decide),h⟩
       refine wp_block (wr (sv k z (r_fa fa30_4 k z z) fun a k=>sv k z (r_ldb t127 m 0 Aa 7 k z z z z z) fun a k=>pN 1 k z fun a k=>oE h fun Ac Ar h=>sv k z (r_ixa Ab Ar k ts27 z z z) fun a k=>sv k z (r_lde Ab (m.a00 (Enc.rd_lt Ab)) Ar ta38 k z z) fun a k=>s_alloc (cs:=[I 0,I 0,I 0,I 0,I 0,I 0,I 0]) m k zeroValue38 z z z z z fun Cd Bq a k m e Be=>s_stb (cs':=[I Ac.fId,I Ac.fW,I Ac.fH,I Ac.fD,I Ac.fTare,I Ac.fGram,I Ac.fCost]) sizeOf38 m 0 Be 0 k z z z z z z z z z z z fun Cc a k e m Aj=>nn (wr (sv k z (r_fa fa38_1 k z z) fun a k=>?_))))
       refine sv k z (r_ldb t13 m 0 Aj 1 k z z z z z) fun a k=>sv k z (r_fa fa30_1 k z z) fun a k=>sv k z (r_fa fa25_0 k z z) fun a k=>sv k z (r_ldb t13 m 1 Aa 1 k z z z z z) fun a k=>pN 2 k z fun a k=>bsplit (decide (Ac.fW > r1.fPallet.fW)) (fun Ak=>?_) (fun Ak=>?_)
       · have h:=bif_t Ak h
         refine rB k 58 z Ak fun k=>pN 26 k z fun a k=>?_
         have k:=k.keep [1,6,84] z
         refine nn (wp_cond_true (k.ev z) (wr (pN 1 k z fun a k=>nn (wp_ret (rt_block (rt_then (rt_then (rt_block (rt_then ?_)))))))))
         refine fS h k m z z
       have h:=bif_f Ak h
       refine rB k 58 z Ak fun k=>sv k z (r_fa fa38_3 k z z) fun a k=>sv k z (r_ldb t13 m 0 Aj 3 k z z z z z) fun a k=>sv k z (r_fa fa30_1 k z z) fun a k=>sv k z (r_fa fa25_1 k z z) fun a k=>sv k z (r_ldb t13 m 1 Aa 2 k z z z z z) fun a k=>pN 3 k z fun a k=>bsplit (decide (Ac.fD > r1.fPallet.fD)) (fun Al=>?_) (fun Al=>?_)
       · have h:=bif_t Al h
         refine rB k 66 z Al fun k=>pN 18 k z fun a k=>?_
         have k:=k.keep [1,6,84] z
         refine nn (wp_cond_true (k.ev z) (wr (pN 1 k z fun a k=>nn (wp_ret (rt_block (rt_then (rt_then (rt_block (rt_then ?_)))))))))
         refine fS h k m z z
       have h:=bif_f Al h
       refine rB k 66 z Al fun k=>sv k z (r_fa fa38_2 k z z) fun a k=>sv k z (r_ldb t13 m 0 Aj 2 k z z z z z) fun a k=>sv k z (r_fa fa30_1 k z z) fun a k=>sv k z (r_fa fa25_2 k z z) fun a k=>sv k z (r_ldb t13 m 1 Aa 3 k z z z z z) fun a k=>pN 3 k z fun a k=>bsplit (decide (Ac.fH > r1.fPallet.fH)) (fun Ai=>?_) (fun Ai=>?_)
       · have h:=bif_t Ai h
         refine rB k 74 z Ai fun k=>pN 10 k z fun a k=>?_
         have k:=k.keep [1,6,84] z
         refine nn (wp_cond_true (k.ev z) (wr (pN 1 k z fun a k=>nn (wp_ret (rt_block (rt_then (rt_then (rt_block (rt_then ?_)))))))))
         refine fS h k m z z
       have h:=bif_f Ai h
       refine rB k 74 z Ai fun k=>sv k z (r_fa fa38_4 k z z) fun a k=>sv k z (r_ldb t13 m 0 Aj 4 k z z z z z) fun a k=>sv k z (r_fa fa38_5 k z z) fun a k=>sv k z (r_ldb t13 m 0 Aj 5 k z z z z z) fun a k=>pN 1 k z fun a k=>sv k z (r_fa fa30_1 k z z) fun a k=>sv k z (r_fa fa25_3 k z z) fun a k=>sv k z (r_ldb t13 m 1 Aa 4 k z z z z z) fun a k=>pN 2 k z fun a k=>?_
       have k:=k.keep [1,6,84] z
       refine nn (cI h k z (fun Bi h=>?_) fun Bi h=>?_)
       · refine wr (pN 1 k z fun a k=>nn (wp_ret (rt_block (rt_then (rt_then (rt_block (rt_then ?_)))))))
         refine fS h k m z z
       refine wp_skip (nm_block (nm_then ?_))
       exact ⟨k.keep [1,6] z,m.sel [1] z (by decide),h⟩
     refine wp_exit (ex_then (ex_then (ex_same (nm_then ?_))))
     refine wr (pN 1 k z fun a k=>nn (wp_ret (fS h k m z z)))
   exact ⟨0,k.keep [1,6] z,m.sel [0] z (by decide),h⟩
 exact ⟨0,k.keep [1,3,5] z,m.sel [1,0] z (by decide),h⟩

end Go.Proofs.YtlmibnlfkmiikaaGreat
