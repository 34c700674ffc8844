/- FnExactDropped: the walks of functions that it reaches (ExactDroppedW,part 1). Printed by gen.py. -/
import Derived.Test.YtkkfmjpbiimkbaaGreatExactFeasibleBWi3
import Derived.Test.YtkkfmjpbiimkbaaGreatExactFeasibleBWs3
import Derived.Test.YtkkfmjpbiimkbaaGreatExactFeasibleBWl1
import Derived.Test.YtkkfmjpbiimkbaaGreatExactDroppedD
set_option maxRecDepth 20000
set_option linter.unusedSimpArgs false
set_option linter.unusedVariables false
namespace Go.Proofs.YtkkfmjpbiimkbaaGreat
open Go Go.RowKit
open Enc (rd ow)
open Arg (argv)
open Ret (retv)
open Go.Proofs.Tryz

theorem bt83:BT Tryz.prog 83 [I 0,I 0,.slice none 0 0] #[(0,1),(1,1),(2,1)]:=⟨zeroValue83,_,underlying83,fun w=>by simp [sizeOf3,sizeOf63]⟩
theorem bt58:BT Tryz.prog 58 [.slice none 0 0,.slice none 0 0] #[(0,1),(1,1)]:=⟨zeroValue58,_,underlying58,fun w=>by simp [sizeOf55,sizeOf56]⟩
theorem ta28:TA Tryz.prog 28 10:=⟨Tryz.isAgg28,sizeOf28⟩
theorem ta52:TA Tryz.prog 52 2:=⟨Tryz.isAgg52,sizeOf52⟩
theorem c_spec_l9Carton (fu:Nat) {w0:World} (x1:Carton) {Ah:List Value} {F3:List Nat} (Aq:rd w0 F3 Ah x1) {r:Carton}
    (h:d_spec_l9Carton fu x1 = some r) :
    Calls Tryz.prog 131 #[.agg Ah.toArray] w0 fun e w=>∃ (Ad:List Value) (G0:List Nat),e = .returned (.agg Ad.toArray) ∧ Ext [] w0 w ∧ ow w G0 Ad r ∧ (∀ b ∈ G0,w0.heap.size ≤ b):=by
 refine enter (vs:=[_]) func131 z ntmps131 z fun a k=>?_
 have m:=St.start w0
 obtain ⟨v5,_,rfl,rfl,Ai⟩:=Aq
 unfold d_spec_l9Carton at h
 refine wr (s_box (cs:=[I x1.fType,I x1.fGroup,v5]) m k z z z z z z fun b7 w9 a k m e Ab=>s_alloc (cs:=[I 0,I 0,.slice none 0 0]) m k zeroValue83 z z z z z fun Ac Az a k m e Am=>nn (wp_seq (d_go ([Ac]) mixo m z fun Al hMd=>?_)))
 have m:=hMd
 have s:=Ext.refl (([Ac]):List Nat) Al
 refine dt k 0 z (by kernel_rfl) z s (fun _ _ _=>id) (fun w s=>r_fa fa83_0 k z z) fun a k=>dt k 1 z (by kernel_rfl) z s (fun _ _ _=>id) (fun w s=>r_ld1 t13 (r:=[]) (Ab.at (hMd.az 1 0 z z z s) 0 1 z z z) k z z) fun a k=>dt k 2 z (by kernel_rfl) z s (fun _ _ _=>id) (fun w s=>r_fa fa83_1 k z z) fun a k=>dt k 3 z (by kernel_rfl) z s (fun _ _ _=>id) (fun w s=>r_ld1 t13 (r:=[]) (Ab.at (hMd.az 1 0 z z z s) 1 1 z z z) k z z) fun a k=>dt k 5 z (by kernel_rfl) z s (fun _ _ _=>id) (fun w s=>r_fa fa83_2 k z z) fun a k=>dt k 6 z (by kernel_rfl) z s (fun _ _ _=>id) (fun w s=>r_ld1 t163 (r:=[]) (Ab.at (hMd.az 1 0 z z z s) 2 1 z z z) k z z) fun a k=>d_one 4 (by kernel_rfl) z ?_
 refine s_bsN (cs:=[]) (ps:=[]) te63 m k z z z z z z z (by decide) z (by exact (List.forall_mem_nil _)) fun Ba At Au a k m e Ao Ak=>?_
 have Ag:=lo1 (Nat.le_trans s.size Ak)
 have As:=ow_bx Ao ([]:List Int) z z z
 have s:=s.trans e (by simp)
 refine wpList_nil ⟨s,?_⟩
 refine d_one 7 (by kernel_rfl) z (oE h fun Ay Ap h=>s_appFN Ap te63 z m 0 As (News.rd (Enc.rd_agr Ai (m.a00 (Enc.rd_lt Ai)))) z z k z z z z z z z fun Af Ae Av a k e m Aa Ar=>?_)
 have Aw:∀ y ∈ Ae,y ∈ ([Ac]) ∨ _ ≤ y:=fun y hy=>(Ar y hy).elim (fun hy=>(fun y hy=>Or.inr (Ag y hy)) y hy) (fun h=>Or.inr (Nat.le_trans s.size h))
 have s:=s.trans e (fun y hy=>Or.inr (Ag y hy))
 refine wpList_nil ⟨s,?_⟩
 refine dt k 8 z (by kernel_rfl) z s (fun _ _ _=>id) (fun w s=>r_build bt83 k (cs:=#[I x1.fType,I x1.fGroup,Af]) (ps:=[(0,.tmp 4),(1,.tmp 6),(2,.tmp 10)]) z z (fillc z z z (fillc z z z (fillc z (rd_c (Enc.ow_rd Aa)) z z)))) fun a k=>d_one 9 (by kernel_rfl) z (s_stb (cs':=[I x1.fType,I x1.fGroup,Af]) sizeOf83 m 1 Am 0 k z z z z z z z z z z (allc z (allc z (allc (rd_o (Enc.ow_rd Aa)) alln))) fun Ax a k e m Aj=>?_)
 have s:=s.trans e (fun y hy=>Or.inl hy)
 refine wpList_nil ⟨s,?_⟩
 refine d_done (by kernel_rfl) ((nm_then ?_))
 refine wp_ret ?_
 cases h
 exact finR1 k z (RV.cA k z ta83 (Aj.at (m.a 1 z) 0 3 z z z) z) ⟨_,_,z,m.ext,⟨_,Ae,z,z,(Enc.ow_agr Aa (m.a 0 z)),by simpa [fps] using (m.sel [0] z (by decide)).nd⟩,(m.fresh 0 z)⟩
theorem c_spec_l13Copy (fu:Nat) {w0:World} (x1:Plan) {Bi:List Value} {F3:List Nat} (By:rd w0 F3 Bi x1) {r:Plan}
    (h:d_spec_l13Copy fu x1 = some r) :
    Calls Tryz.prog 128 #[.agg Bi.toArray] w0 fun e w=>∃ (Bl:List Value) (G0:List Nat),e = .returned (.agg Bl.toArray) ∧ Ext [] w0 w ∧ ow w G0 Bl r ∧ (∀ b ∈ G0,w0.heap.size ≤ b):=by
 refine enter (vs:=[_]) func128 z ntmps128 z fun a k=>?_
 have m:=St.start w0
 obtain ⟨v5,F6,v7,F8,rfl,rfl,Ak,Bn⟩:=By
 unfold d_spec_l13Copy at h
 refine wr (s_box (cs:=[v5,v7]) m k z z z z z z fun Bm Ci a k m e Az=>s_alloc (cs:=[.slice none 0 0,.slice none 0 0]) m k zeroValue58 z z z z z fun Bo Dg a k m e Bu=>nn (wr (s_bs (cs:=[]) (ps:=[]) te56 m k z z z z z z z (by decide) z (by exact (List.forall_mem_nil _)) fun Dt Dv Dw a k m e Dh=>?_)))
 have Ce:=ow_bx Dh ([]:List Spot) z z z
 refine sv k z (r_fa fa58_1 k z z) fun a k=>sv k z (r_ldb t156 m 2 Az 1 k z z z z z) fun a k=>oE h fun Dl Cr h=>s_appF Cr te56 z m 0 Ce (News.rd (Enc.rd_agr Bn (m.a00 (Enc.rd_lt Bn)))) z z k z z z z z z z fun Ac Bc Cz a k e m Ap=>sv k z (r_build bt58 k (cs:=#[.slice none 0 0,Ac]) (ps:=[(1,.tmp 8)]) z z (fillc z (rd_c (Enc.ow_rd Ap)) z z)) fun a k=>s_alloc (cs:=[.slice none 0 0,.slice none 0 0]) m k zeroValue58 z z z z z fun Ai Ea a k m e Bv=>s_stb (cs':=[.slice none 0 0,Ac]) sizeOf58 m 0 Bv 0 k z z z z z z z z z z (allc z (allc (rd_o (Enc.ow_rd Ap)) alln)) fun De a k e m Dc=>nn (wp_seq (wr (pN 1 k z fun a k=>nn (wp_block ?_))))
 refine c_loop (fun n a w=>∃ (Au:List Carton) (Al:Value) (Ab:List Nat) (Ay:World) (As:World) (Ag:Int),K 29 [(1,.pointer (some (⟨Bm,0,none⟩:Addr))),(2,.pointer (some (⟨Bo,0,none⟩:Addr))),(3,.pointer (some (⟨Ai,0,none⟩:Addr))),(4,I Ag)] a ∧ St [] w0 w [([Bm],Ci),([Bo],Dg),(Ab,Ay),([Ai],As),(Bc,Cz)] ∧ ow Ay Ab [Al] Au ∧ bx As Ai [Al,Ac] 58 ∧ d_spec_l13Copy_L1 fu x1 Dl n Au Ag = some r) ?_ ?_ fu _ _ ?_
 · rintro a w ⟨_,_,_,_,_,_,_,_,_,_,h⟩
   exact nS h
 · rintro Eo a Ec ⟨Au,Al,Ab,Ay,As,Ag,k,m,Ah,Ad,h⟩
   rw [d_spec_l13Copy_L1_s] at h
   unfold d_spec_l13Copy_L1_B at h
   refine wp_seq (wr (pN 1 k z fun a k=>sv k z (r_fa fa58_0 k z z) fun a k=>sv k z (r_ldb t155 m 0 Az 0 k z z z z z) fun a k=>sv k z (r_len (α:=Carton) Ak k underlying55 z z) fun a k=>pN 1 k z fun a k=>nn (cI h k z (fun Cb h=>?_) fun Cb h=>?_)))
   · refine wp_skip (nm_then ?_)
     refine wp_seq (wp_block (d_go (Ab ++ ([Ai])) mixo m z fun Dp hMd=>?_))
     have m:=hMd
     have s:=Ext.refl ((Ab ++ ([Ai])):List Nat) Dp
     have hMj:=(hMd.sel [2,3,0,1,4] z (by decide)).join2
     refine dN [4] 1 z k (by kernel_rfl) z s (fun _ _ _ _ _=>id) fun a k=>dt k 0 z (by kernel_rfl) z s (fun _ _ _=>id) (fun w s=>r_fa fa58_0 k z z) fun a k=>dt k 2 z (by kernel_rfl) z s (fun _ _ _=>id) (fun w s=>r_fa fa58_0 k z z) fun a k=>dt k 3 z (by kernel_rfl) z s (fun _ _ _=>id) (fun w s=>r_ld1 t155 (r:=[]) (Az.at (hMj.az 1 0 z z z s) 0 1 z z z) k z z) fun a k=>oE h fun Af Bf h=>dt k 5 z (by kernel_rfl) z s (fun _ _ _=>id) (fun w s=>r_ixa Ak Bf k ts55 z z z) fun a k=>?_
     obtain ⟨Ef,Du,Dr,Dn,Cj,Cc⟩:=rd_get Ak (ix_some Bf).2.2
     obtain ⟨Bg,_,rfl,rfl,Am⟩:=Dn
     refine dt k 6 z (by kernel_rfl) z s (fun _ _ _=>id) (fun w s=>r_ldA ta83 (Cj.agr (hMj.az0 0 z z (Enc.rd_lt Ak) s) Cc) z k z z) fun a k=>d_two 1 7 (by kernel_rfl) z z ?_ ?_ 
     · refine sv k z (r_ldb t155 m 3 Ad 0 k z z z z z) fun a k=>wpList_nil ⟨s,?_⟩
       refine d_one 7 (by kernel_rfl) z (oE h fun Aj Ch h=>s_call k call131 z z z z z (c_spec_l9Carton fu _ (show rd _ _ [I Af.fType,I Af.fGroup,Bg] (Af:Carton) from ⟨_,_,z,z,(Enc.rd_agr Am (m.a00 (Enc.rd_lt Am)))⟩) Ch) fun Ek Em hR=>?_)
       obtain ⟨Dz,Aq,rfl,e,Ar,Bk⟩:=hR
       refine ⟨_,z,fun a k=>?_⟩
       have m:=m.new e Aq (fun b hb=>⟨Bk b hb,Enc.rd_lt (Enc.ow_rd Ar) b hb⟩) (Enc.ow_nd Ar)
       have Da:=fun (y:Nat) (hy:y ∈ Aq)=>Nat.le_trans s.size (Bk y hy)
       obtain ⟨Bj,_,rfl,rfl,Cd,_⟩:=Ar
       have s:=s.trans e (by simp)
       refine wpList_nil ⟨s,?_⟩
       refine d_one 8 (by kernel_rfl) z (s_bsN (cs:=[I Aj.fType,I Aj.fGroup,Bj]) (ps:=[(0,.tmp 24)]) te55 m k z z z z z z z (by decide) z (by exact (List.forall_mem_cons.2 ⟨z,(List.forall_mem_nil _)⟩)) fun Es Eb Dx a k m e Cl Er=>?_)
       have s:=s.trans e (by simp)
       refine wpList_nil ⟨s,?_⟩
       refine d_one 9 (by kernel_rfl) z (oE h fun Dk Dm h=>?_)
       have Co:ow _ (Aq) [I Aj.fType,I Aj.fGroup,Bj] (Aj:Carton):=⟨_,_,z,z,(Enc.ow_agr Cd (m.a 1 z)),by simpa [fps] using (m.sel [1] z (by decide)).nd⟩
       have Do:=News.box Cl (m.a 0 z) (by simp) (m:=1)
       have Di:=m.a 4 z
       have m:=m.sel [4,1,0,2,3,5,6] z (by decide)
       have m:=m.join2
       refine s_appO (F:=Ab) (G:=(Aq)) Dm te55 z m Ah Di Do Co (Agr.refl _ _) k z z z z z z fun Be Cs Bz a k e m Aw=>?_
       have s:=s.trans e (fun y hy=>(List.mem_append.1 hy).elim ((fun y hy=>Or.inl (List.mem_append_left _ hy)) y) ((fun y hy=>Or.inr (Da y hy)) y))
       refine wpList_nil ⟨s,?_⟩
       refine dt k 10 z (by kernel_rfl) z s (fun _ _ _=>id) (fun w s=>r_fa fa58_0 k z z) fun a k=>d_one 11 (by kernel_rfl) z (s_stb1 (cs':=[Be,Ac]) sizeOf55 m 4 Ad 0 k (rd_c (Enc.ow_rd Aw)) (rd_o (Enc.ow_rd Aw)) z z z z z z z z z fun Cw a k e m Cx=>?_)
       have s:=s.trans e (fun y hy=>Or.inl (List.mem_append_right _ hy))
       refine wpList_nil ⟨s,?_⟩
       refine d_done (by kernel_rfl) ((nm_block (nm_then ?_)))
       refine wp_region_lit (pN 3 k z fun a k=>nn ?_)
       exact ⟨Dk,Be,Cs,Bz,Cw,w64 (Ag + 1),k.keep [1,2,3,4] z,m.sel [2,3,0,4,5] z (by decide),Aw,Cx,h⟩
     refine oE h fun Aa Db h=>s_call k call131 z z z z z (c_spec_l9Carton fu _ (show rd _ _ [I Af.fType,I Af.fGroup,Bg] (Af:Carton) from ⟨_,_,z,z,(Enc.rd_agr Am (m.a00 (Enc.rd_lt Am)))⟩) Db) fun Dq Ee hR=>?_
     obtain ⟨Ds,Ae,rfl,e,Ax,Bh⟩:=hR
     refine ⟨_,z,fun a k=>?_⟩
     have m:=m.new e Ae (fun b hb=>⟨Bh b hb,Enc.rd_lt (Enc.ow_rd Ax) b hb⟩) (Enc.ow_nd Ax)
     have Ba:=fun (y:Nat) (hy:y ∈ Ae)=>Nat.le_trans s.size (Bh y hy)
     obtain ⟨Ao,_,rfl,rfl,Bp,_⟩:=Ax
     have s:=s.trans e (by simp)
     refine wpList_nil ⟨s,?_⟩
     refine d_two 1 8 (by kernel_rfl) z z ?_ ?_ 
     · refine sv k z (r_ldb t155 m 4 Ad 0 k z z z z z) fun a k=>wpList_nil ⟨s,?_⟩
       refine d_one 8 (by kernel_rfl) z (s_bsN (cs:=[I Aa.fType,I Aa.fGroup,Ao]) (ps:=[(0,.tmp 24)]) te55 m k z z z z z z z (by decide) z (by exact (List.forall_mem_cons.2 ⟨z,(List.forall_mem_nil _)⟩)) fun Ed Ep Eh a k m e Cv Ei=>?_)
       have s:=s.trans e (by simp)
       refine wpList_nil ⟨s,?_⟩
       refine d_one 9 (by kernel_rfl) z (oE h fun Bs Ct h=>?_)
       have Dd:ow _ (Ae) [I Aa.fType,I Aa.fGroup,Ao] (Aa:Carton):=⟨_,_,z,z,(Enc.ow_agr Bp (m.a 1 z)),by simpa [fps] using (m.sel [1] z (by decide)).nd⟩
       have Ca:=News.box Cv (m.a 0 z) (by simp) (m:=1)
       have Cp:=m.a 4 z
       have m:=m.sel [4,1,0,2,3,5,6] z (by decide)
       have m:=m.join2
       refine s_appO (F:=Ab) (G:=(Ae)) Ct te55 z m Ah Cp Ca Dd (Agr.refl _ _) k z z z z z z fun Bb Bw Cm a k e m At=>?_
       have s:=s.trans e (fun y hy=>(List.mem_append.1 hy).elim ((fun y hy=>Or.inl (List.mem_append_left _ hy)) y) ((fun y hy=>Or.inr (Ba y hy)) y))
       refine wpList_nil ⟨s,?_⟩
       refine dt k 10 z (by kernel_rfl) z s (fun _ _ _=>id) (fun w s=>r_fa fa58_0 k z z) fun a k=>d_one 11 (by kernel_rfl) z (s_stb1 (cs':=[Bb,Ac]) sizeOf55 m 4 Ad 0 k (rd_c (Enc.ow_rd At)) (rd_o (Enc.ow_rd At)) z z z z z z z z z fun Df a k e m Bt=>?_)
       have s:=s.trans e (fun y hy=>Or.inl (List.mem_append_right _ hy))
       refine wpList_nil ⟨s,?_⟩
       refine d_done (by kernel_rfl) ((nm_block (nm_then ?_)))
       refine wp_region_lit (pN 3 k z fun a k=>nn ?_)
       exact ⟨Bs,Bb,Bw,Cm,Df,w64 (Ag + 1),k.keep [1,2,3,4] z,m.sel [2,3,0,4,5] z (by decide),At,Bt,h⟩
     refine s_bsN (cs:=[I Aa.fType,I Aa.fGroup,Ao]) (ps:=[(0,.tmp 24)]) te55 m k z z z z z z z (by decide) z (by exact (List.forall_mem_cons.2 ⟨z,(List.forall_mem_nil _)⟩)) fun Ej Eg Dy a k m e Cn En=>?_
     have s:=s.trans e (by simp)
     refine wpList_nil ⟨s,?_⟩
     refine d_one 1 (by kernel_rfl) z (sv k z (r_ldb t155 m 5 Ad 0 k z z z z z) fun a k=>wpList_nil ⟨s,?_⟩)
     refine d_one 9 (by kernel_rfl) z (oE h fun Cg Cy h=>?_)
     have Cq:ow _ (Ae) [I Aa.fType,I Aa.fGroup,Ao] (Aa:Carton):=⟨_,_,z,z,(Enc.ow_agr Bp (m.a 1 z)),by simpa [fps] using (m.sel [1] z (by decide)).nd⟩
     have Cf:=News.box Cn (m.a 0 z) (by simp) (m:=1)
     have Bx:=m.a 4 z
     have m:=m.sel [4,1,0,2,3,5,6] z (by decide)
     have m:=m.join2
     refine s_appO (F:=Ab) (G:=(Ae)) Cy te55 z m Ah Bx Cf Cq (Agr.refl _ _) k z z z z z z fun Bd Ck Br a k e m Av=>?_
     have s:=s.trans e (fun y hy=>(List.mem_append.1 hy).elim ((fun y hy=>Or.inl (List.mem_append_left _ hy)) y) ((fun y hy=>Or.inr (Ba y hy)) y))
     refine wpList_nil ⟨s,?_⟩
     refine dt k 10 z (by kernel_rfl) z s (fun _ _ _=>id) (fun w s=>r_fa fa58_0 k z z) fun a k=>d_one 11 (by kernel_rfl) z (s_stb1 (cs':=[Bd,Ac]) sizeOf55 m 4 Ad 0 k (rd_c (Enc.ow_rd Av)) (rd_o (Enc.ow_rd Av)) z z z z z z z z z fun Bq a k e m Dj=>?_)
     have s:=s.trans e (fun y hy=>Or.inl (List.mem_append_right _ hy))
     refine wpList_nil ⟨s,?_⟩
     refine d_done (by kernel_rfl) ((nm_block (nm_then ?_)))
     refine wp_region_lit (pN 3 k z fun a k=>nn ?_)
     exact ⟨Cg,Bd,Ck,Br,Bq,w64 (Ag + 1),k.keep [1,2,3,4] z,m.sel [2,3,0,4,5] z (by decide),Av,Dj,h⟩
   refine wp_exit (ex_then (ex_then (ex_same (nm_then ?_))))
   refine wr (sv k z (r_ldB ta58 m 3 Ad 0 k z z z z z z) fun a k=>s_stb (cs':=[Al,Ac]) sizeOf58 m 1 Bu 0 k z z z z z z z z z z (allc (rd_o (Enc.ow_rd Ah)) (allc (rd_o (Enc.ow_rd Ap)) alln)) fun El a k e m Cu=>nn (wp_ret ?_))
   cases h
   exact finR1 k z (RV.cA k z ta58 (Cu.at (m.a 1 z) 0 2 z z z) z) ⟨_,_,z,m.ext,⟨_,Ab,_,Bc,z,z,(Enc.ow_agr Ah (m.a 2 z)),(Enc.ow_agr Ap (m.a 4 z)),by simpa [fps] using (m.sel [2,4] z (by decide)).nd⟩,(app_fresh (m.fresh 2 z) (m.fresh 4 z))⟩
 exact ⟨([]:List Carton),.slice none 0 0,[],_,De,0,k.keep [1,2,3,4] z,(m.addNil (u:=w0)).sel [4,3,0,1,2] z (by decide),(ow_nil _),Dc,h⟩
theorem c_spec_l21Boxes (fu:Nat) {w0:World} (r1:Request) (x5:Plan) {As:List Value} {F3:List Nat} (Bv:rd w0 F3 As r1) {Ao:List Value} {F7:List Nat} (Bn:rd w0 F7 Ao x5) {r:(List Box)}
    (h:d_spec_l21Boxes fu r1 x5 = some r) :
    Calls Tryz.prog 142 #[.agg As.toArray,.agg Ao.toArray] w0 fun e w=>∃ (v0:Value) (G0:List Nat),e = .returned (v0) ∧ Ext [] w0 w ∧ ow w G0 [v0] r ∧ (∀ b ∈ G0,w0.heap.size ≤ b):=by
 refine enter (vs:=[_,_]) func142 z ntmps142 z fun a k=>?_
 have m:=St.start w0
 obtain ⟨v9,Bz,Am,Cm,Au,Ch,rfl,rfl,Ax,Aj,Ar⟩:=Bv
 obtain ⟨Bc,Cf,Bl,Ca,rfl,rfl,Ac,Cj⟩:=Bn
 unfold d_spec_l21Boxes at h
 refine wr (s_box (cs:=[I r1.fWay,I r1.fPallet.fW,I r1.fPallet.fD,I r1.fPallet.fH,I r1.fPallet.fGram,I r1.fClasses,v9,Am,I r1.fMaster,Au]) m k z z z z z z fun Ai Ay a k m e Bs=>s_box (cs:=[Bc,Bl]) m k z z z z z z fun At Ba a k m e Al=>pN 1 k z fun a k=>nn (wr (s_bs (cs:=[]) (ps:=[]) te149 m k z z z z z z z (by decide) z (by exact (List.forall_mem_nil _)) fun Aq Bh Cg a k m e Bb=>?_)))
 have Bd:=ow_bx Bb ([]:List Box) z z z
 refine pN 1 k z fun a k=>nn (wp_seq (wr (pN 1 k z fun a k=>nn (wp_block (c_loop (fun n a w=>∃ (Af:List Box) (Ae:Value) (Aa:List Nat) (Ah:World) (Ad:Int),K 26 [(2,.pointer (some (⟨Ai,0,none⟩:Addr))),(3,.pointer (some (⟨At,0,none⟩:Addr))),(5,Ae),(6,I Ad)] a ∧ St [] w0 w [([Ai],Ay),([At],Ba),(Aa,Ah)] ∧ ow Ah Aa [Ae] Af ∧ d_spec_l21Boxes_L1 fu r1 x5 n Af Ad = some r) ?_ ?_ fu _ _ ?_)))))
 · rintro a w ⟨_,_,_,_,_,_,_,_,h⟩
   exact nS h
 · rintro Ck a Cc ⟨Af,Ae,Aa,Ah,Ad,k,m,Ak,h⟩
   rw [d_spec_l21Boxes_L1_s] at h
   unfold d_spec_l21Boxes_L1_B at h
   refine wp_seq (wr (pN 1 k z fun a k=>sv k z (r_fa fa58_0 k z z) fun a k=>sv k z (r_ldb t155 m 1 Al 0 k z z z z z) fun a k=>sv k z (r_len (α:=Carton) Ac k underlying55 z z) fun a k=>pN 1 k z fun a k=>nn (cI h k z (fun Bm h=>?_) fun Bm h=>?_)))
   · refine wp_skip (nm_then ?_)
     refine wp_seq (wp_block (d_go (Aa) mixo m z fun Bk hMd=>?_))
     have m:=hMd
     have s:=Ext.refl ((Aa):List Nat) Bk
     refine dN [0,4] 2 z k (by kernel_rfl) z s (fun _ _ _ _ _=>id) fun a k=>dt k 1 z (by kernel_rfl) z s (fun _ _ _=>id) (fun w s=>r_ldA ta38 (Bs.at (hMd.az 0 2 z z z s) 0 10 z z z) z k z z) fun a k=>dt k 2 z (by kernel_rfl) z s (fun _ _ _=>id) (fun w s=>r_fa fa58_0 k z z) fun a k=>dt k 3 z (by kernel_rfl) z s (fun _ _ _=>id) (fun w s=>r_ld1 t155 (r:=[]) (Al.at (hMd.az 1 2 z z z s) 0 1 z z z) k z z) fun a k=>oE h fun Ag Ap h=>dt k 5 z (by kernel_rfl) z s (fun _ _ _=>id) (fun w s=>r_ixa Ac Ap k ts55 z z z) fun a k=>?_
     obtain ⟨Cp,Cb,Ci,Bg,Bo,Be⟩:=rd_get Ac (ix_some Ap).2.2
     obtain ⟨Bq,_,rfl,rfl,Aw⟩:=Bg
     refine dt k 6 z (by kernel_rfl) z s (fun _ _ _=>id) (fun w s=>r_ldA ta83 (Bo.agr (hMd.az0 2 z z (Enc.rd_lt Ac) s) Be) z k z z) fun a k=>d_one 7 (by kernel_rfl) z (oE h fun Ab Bw h=>cE k m call214 z z z (c_spec_BoxOf fu _ _ (show rd _ _ [I r1.fWay,I r1.fPallet.fW,I r1.fPallet.fD,I r1.fPallet.fH,I r1.fPallet.fGram,I r1.fClasses,v9,Am,I r1.fMaster,Au] (r1:Request) from ⟨_,_,_,_,_,_,z,z,(Enc.rd_agr Ax (m.a00 (Enc.rd_lt Ax))),(Enc.rd_agr Aj (m.a00 (Enc.rd_lt Aj))),(Enc.rd_agr Ar (m.a00 (Enc.rd_lt Ar)))⟩) (show rd _ _ [I Ag.fType,I Ag.fGroup,Bq] (Ag:Carton) from ⟨_,_,z,z,(Enc.rd_agr Aw (m.a00 (Enc.rd_lt Aw)))⟩) Bw) fun Ce e a k m=>?_)
     have s:=s.trans e (by simp)
     refine wpList_nil ⟨s,?_⟩
     refine d_one 8 (by kernel_rfl) z (s_bsN (cs:=[I Ab.fW,I Ab.fD,I Ab.fH,I Ab.fGram]) (ps:=[(0,.tmp 22)]) te149 m k z z z z z z z (by decide) z (by exact (List.forall_mem_cons.2 ⟨z,(List.forall_mem_nil _)⟩)) fun Co By Cl a k m e Bi Az=>?_)
     have Cn:=lo1 (Nat.le_trans s.size Az)
     have Bj:=ow_bx Bi ([Ab]:List Box) z z z
     have s:=s.trans e (by simp)
     refine wpList_nil ⟨s,?_⟩
     refine d_one 9 (by kernel_rfl) z (oE h fun Bt Bx h=>s_appFN Bx te149 z m 3 Ak (News.rd (Enc.rd_agr (Enc.ow_rd Bj) (m.a 0 z))) z z k z z z z z z z fun Br Av Bp a k e m Bf Bu=>?_)
     have Cd:∀ y ∈ Av,y ∈ (Aa) ∨ _ ≤ y:=fun y hy=>(Bu y hy).elim (fun hy=>(fun y hy=>Or.inl hy) y hy) (fun h=>Or.inr (Nat.le_trans s.size h))
     have s:=s.trans e (fun y hy=>Or.inl hy)
     refine wpList_nil ⟨s,?_⟩
     refine dN [10] 1 z k (by kernel_rfl) z s (fun _ _ _ _ _=>id) fun a k=>d_done (by kernel_rfl) ((nm_block (nm_then ?_)))
     refine wp_region_lit (pN 3 k z fun a k=>nn ?_)
     exact ⟨Bt,Br,Av,Bp,w64 (Ad + 1),k.keep [2,3,5,6] z,m.sel [1,2,3] z (by decide),Bf,h⟩
   refine wp_exit (ex_then (ex_then (ex_same (nm_then ?_))))
   refine wr (pN 2 k z fun a k=>nn (wp_ret ?_))
   cases h
   exact finR1 k z (RV.tmp k z) ⟨_,Aa,z,m.ext,(Enc.ow_agr Ak (m.a 2 z)),(m.fresh 2 z)⟩
 exact ⟨([]:List Box),(.slice (some ⟨Aq,0,none⟩) 0 0),[Aq],Bh,0,k.keep [2,3,5,6] z,m.sel [2,1,0] z (by decide),Bd,h⟩
theorem c_spec_l21Free (fu:Nat) {w0:World} (Ag:List Box) (x5:Plan) (i9:Int) (Aa:Spot) {v2:Value} {F3:List Nat} (Ac:rd w0 F3 [v2] Ag) {Am:List Value} {F7:List Nat} (At:rd w0 F7 Am x5) {r:Bool}
    (h:d_spec_l21Free fu Ag x5 i9 Aa = some r) :
    Calls Tryz.prog 143 #[v2,.agg Am.toArray,I i9,.agg (Flat.e (Aa)).toArray] w0 fun e w=>e = .returned (.bool (r)) ∧ Ext [] w0 w:=by
 refine enter (vs:=[_,_,_,_]) func143 z ntmps143 z fun a k=>?_
 have m:=St.start w0
 obtain ⟨Bb,Bg,Az,Bf,rfl,rfl,Bi,Ah⟩:=At
 unfold d_spec_l21Free at h
 refine wr (s_box (cs:=[Bb,Az]) m k z z z z z z fun Ae Ai a k m e Aw=>s_box (cs:=[I Aa.fPallet,I Aa.fX,I Aa.fY,I Aa.fZ]) m k z z z z z z fun Af Ak a k m e Ar=>pN 1 k z fun a k=>nn (wp_seq (wr (pN 1 k z fun a k=>nn (wp_block (c_loop (fun n a w=>∃ (Ab:Int),K 36 [(0,v2),(2,I i9),(5,.pointer (some (⟨Ae,0,none⟩:Addr))),(7,.pointer (some (⟨Af,0,none⟩:Addr))),(9,I Ab)] a ∧ St [] w0 w [([Ae],Ai),([Af],Ak)] ∧ d_spec_l21Free_L1 fu Ag x5 i9 Aa n Ab = some r) ?_ ?_ fu _ _ ?_))))))
 · rintro a w ⟨_,_,_,h⟩
   exact nS h
 · rintro Av a Bc ⟨Ab,k,m,h⟩
   rw [d_spec_l21Free_L1_s] at h
   unfold d_spec_l21Free_L1_B at h
   refine wp_seq (wr (pN 2 k z fun a k=>sv k z (r_len (α:=Box) Ac k underlying149 z z) fun a k=>pN 1 k z fun a k=>nn (cI h k z (fun Au h=>?_) fun Au h=>?_)))
   · refine wp_skip (nm_then ?_)
     refine c_cut (fun a w=>K 36 [(0,v2),(2,I i9),(5,.pointer (some (⟨Ae,0,none⟩:Addr))),(7,.pointer (some (⟨Af,0,none⟩:Addr))),(9,I Ab)] a ∧ St [] w0 w [([Ae],Ai),([Af],Ak)] ∧ d_spec_l21Free_J1 fu (d_spec_l21Free_L1 fu Ag x5 i9 Aa Av) Ab = some r) ?_ ?_
     · rintro a Bd ⟨k,m,h⟩
       unfold d_spec_l21Free_J1 at h
       refine wp_region_lit (pN 3 k z fun a k=>nn ?_)
       exact ⟨w64 (Ab + 1),k.keep [0,2,5,7,9] z,m.sel [0,1] z (by decide),h⟩
     refine wp_block (wp_seq (d_go [] mixo m z fun Ba hMd=>?_))
     have m:=hMd
     have s:=Ext.refl ([]:List Nat) Ba
     refine dN [0,1,2,3] 4 z k (by kernel_rfl) z s (fun _ _ _ _ _=>id) fun a k=>bsplit (Ab != i9) (fun Ad=>?_) (fun Ad=>?_)
     · have h:=bif_t Ad h
       refine rB k 19 z Ad fun k=>dN [4,5,9,10,15] 5 z k (by kernel_rfl) z s (fun _ _ _ _ _=>id) fun a k=>oE h fun As Al h=>dt k 6 z (by kernel_rfl) z s (fun _ _ _=>id) (fun w s=>r_ixa Ac Al k ts149 z z z) fun a k=>dt k 7 z (by kernel_rfl) z s (fun _ _ _=>id) (fun w s=>r_lde Ac ((hMd.step s).a00 (Enc.rd_lt Ac)) Al ta86 k z z) fun a k=>dt k 8 z (by kernel_rfl) z s (fun _ _ _=>id) (fun w s=>r_ldA ta89 (Ar.at ((hMd.step s).a 1 z) 0 4 z z z) z k z z) fun a k=>oE h fun Ax Aj h=>dt k 11 z (by kernel_rfl) z s (fun _ _ _=>id) (fun w s=>r_ixa Ac Aj k ts149 z z z) fun a k=>dt k 12 z (by kernel_rfl) z s (fun _ _ _=>id) (fun w s=>r_lde Ac ((hMd.step s).a00 (Enc.rd_lt Ac)) Aj ta86 k z z) fun a k=>?_
       refine dt k 13 z (by kernel_rfl) z s (fun _ _ _=>id) (fun w s=>r_fa fa58_1 k z z) fun a k=>dt k 14 z (by kernel_rfl) z s (fun _ _ _=>id) (fun w s=>r_ld1 t156 (r:=[]) (Aw.at ((hMd.step s).a 0 z) 1 1 z z z) k z z) fun a k=>oE h fun Aq Ao h=>dt k 16 z (by kernel_rfl) z s (fun _ _ _=>id) (fun w s=>r_ixa Ah Ao k ts56 z z z) fun a k=>dt k 17 z (by kernel_rfl) z s (fun _ _ _=>id) (fun w s=>r_lde Ah ((hMd.step s).a00 (Enc.rd_lt Ah)) Ao ta89 k z z) fun a k=>d_one 18 (by kernel_rfl) z (oE h fun Be Ap h=>cE k m call215 z z z (c_spec_Overlap fu (As:Box) (Aa:Spot) (Ax:Box) (Aq:Spot)  Ap) fun Bh e a k m=>?_)
       have s:=s.trans e (by simp)
       refine wpList_nil ⟨s,?_⟩
       refine dN [19] 1 z k (by kernel_rfl) z s (fun _ _ _ _ _=>id) fun a k=>d_done (by kernel_rfl) ((nm_then ?_))
       refine cI h k z (fun Ay h=>?_) fun Ay h=>?_
       · refine wr (pN 1 k z fun a k=>?_)
         have k:=k.keep [8] z
         refine nn (wp_ret (rt_block (rt_then (rt_then (rt_block (rt_then ?_))))))
         refine fS h k m z z
       refine wp_skip (nm_block (nm_then ?_))
       exact ⟨k.keep [0,2,5,7,9] z,m.sel [0,1] z (by decide),h⟩
     have h:=bif_f Ad h
     refine rB k 19 z Ad fun k=>dN [4,5,6,7,8,9,10,11,12,13,14,15,16,17,18,19] 16 z k (by kernel_rfl) z s (fun _ _ _ _ _=>id) fun a k=>d_done (by kernel_rfl) ((nm_then ?_))
     refine wp_cond_false (k.ev z) (wp_skip (nm_block (nm_then ?_)))
     exact ⟨k.keep [0,2,5,7,9] z,m.sel [0,1] z (by decide),h⟩
   refine wp_exit (ex_then (ex_then (ex_same (nm_then ?_))))
   refine wr (pN 1 k z fun a k=>nn (wp_ret (fS h k m z z)))
 exact ⟨0,k.keep [0,2,5,7,9] z,m.sel [1,0] z (by decide),h⟩
theorem c_spec_Dropped (fu:Nat) {w0:World} (r1:Request) (x5:Plan) {Cd:List Value} {F3:List Nat} (Cp:rd w0 F3 Cd r1) {Bx:List Value} {F7:List Nat} (Cw:rd w0 F7 Bx x5) {r:Plan}
    (h:d_spec_Dropped fu r1 x5 = some r) :
    Calls Tryz.prog 48 #[.agg Cd.toArray,.agg Bx.toArray] w0 fun e w=>∃ (Cf:List Value) (G0:List Nat),e = .returned (.agg Cf.toArray) ∧ Ext [] w0 w ∧ ow w G0 Cf r ∧ (∀ b ∈ G0,w0.heap.size ≤ b):=by
 refine enter (vs:=[_,_]) func48 z ntmps48 z fun a k=>?_
 have m:=St.start w0
 obtain ⟨v9,Eg,Bt,Em,Br,Dw,rfl,rfl,Bj,Bd,Ba⟩:=Cp
 obtain ⟨Bb,Dt,Bm,Ea,rfl,rfl,Al,Ap⟩:=Cw
 unfold d_spec_Dropped at h
 refine wr (s_box (cs:=[I r1.fWay,I r1.fPallet.fW,I r1.fPallet.fD,I r1.fPallet.fH,I r1.fPallet.fGram,I r1.fClasses,v9,Bt,I r1.fMaster,Br]) m k z z z z z z fun Eb Dy a k m e Ce=>s_box (cs:=[Bb,Bm]) m k z z z z z z fun Dp Ds a k m e Bo=>s_alloc (cs:=[.slice none 0 0,.slice none 0 0]) m k zeroValue58 z z z z z fun Ad Bf a k m e Bw=>nn (wr (sv k z (r_ldB ta58 m 1 Bo 0 k z z z z z z) fun a k=>oE h fun Ah Cg h=>s_call k call128 z z z z z (c_spec_l13Copy fu _ (show rd _ _ [Bb,Bm] (x5:Plan) from ⟨_,_,_,_,z,z,(Enc.rd_agr Al (m.a00 (Enc.rd_lt Al))),(Enc.rd_agr Ap (m.a00 (Enc.rd_lt Ap)))⟩) Cg) fun Ek Au hR=>?_)))
 obtain ⟨Dl,Cn,rfl,e,Bu,Dc⟩:=hR
 refine ⟨_,z,fun a k=>?_⟩
 have m:=m.new e Cn (fun b hb=>⟨Dc b hb,Enc.rd_lt (Enc.ow_rd Bu) b hb⟩) (Enc.ow_nd Bu)
 obtain ⟨As,Ao,Bq,Cc,rfl,rfl,Am,Bi,_⟩:=Bu
 have m:=m.split2
 refine s_alloc (cs:=[.slice none 0 0,.slice none 0 0]) m k zeroValue58 z z z z z fun Ac Dj a k m e Cj=>s_stb (cs':=[As,Bq]) sizeOf58 m 0 Cj 0 k z z z z z z z z z z (allc (rd_o (Enc.ow_rd Am)) (allc (rd_o (Enc.ow_rd Bi)) alln)) fun Di a k e m Cb=>nn (wp_seq (wr (sv k z (r_ldB ta38 m 5 Ce 0 k z z z z z z) fun a k=>sv k z (r_ldB ta58 m 4 Bo 0 k z z z z z z) fun a k=>oE h fun Ee Ch h=>?_)))
 refine cE k m call37 z z z (c_spec_Feasible fu _ _ (show rd _ _ [I r1.fWay,I r1.fPallet.fW,I r1.fPallet.fD,I r1.fPallet.fH,I r1.fPallet.fGram,I r1.fClasses,v9,Bt,I r1.fMaster,Br] (r1:Request) from ⟨_,_,_,_,_,_,z,z,(Enc.rd_agr Bj (m.a00 (Enc.rd_lt Bj))),(Enc.rd_agr Bd (m.a00 (Enc.rd_lt Bd))),(Enc.rd_agr Ba (m.a00 (Enc.rd_lt Ba)))⟩) (show rd _ _ [Bb,Bm] (x5:Plan) from ⟨_,_,_,_,z,z,(Enc.rd_agr Al (m.a00 (Enc.rd_lt Al))),(Enc.rd_agr Ap (m.a00 (Enc.rd_lt Ap)))⟩) Ch) fun Ei e a k m=>pN 1 k z fun a k=>nn (cI h k z (fun Cm h=>?_) fun Cm h=>?_)
 · refine wr (sv k z (r_ldB ta58 m 0 Cb 0 k z z z z z z) fun a k=>s_stb (cs':=[As,Bq]) sizeOf58 m 3 Bw 0 k z z z z z z z z z z (allc (rd_o (Enc.ow_rd Am)) (allc (rd_o (Enc.ow_rd Bi)) alln)) fun Dz a k e m Df=>nn (wp_ret (rt_then ?_)))
   cases h
   exact finR1 k z (RV.cA k z ta58 (Df.at (m.a 3 z) 0 2 z z z) z) ⟨_,_,z,m.ext,⟨_,Ao,_,Cc,z,z,(Enc.ow_agr Am (m.a 1 z)),(Enc.ow_agr Bi (m.a 2 z)),by simpa [fps] using (m.sel [1,2] z (by decide)).nd⟩,(app_fresh (m.fresh 1 z) (m.fresh 2 z))⟩
 refine wp_skip (nm_then ?_)
 refine wr (sv k z (r_ldB ta38 m 5 Ce 0 k z z z z z z) fun a k=>sv k z (r_ldB ta58 m 4 Bo 0 k z z z z z z) fun a k=>oE h fun Az Cr h=>s_call k call142 z z z z z (c_spec_l21Boxes fu _ _ (show rd _ _ [I r1.fWay,I r1.fPallet.fW,I r1.fPallet.fD,I r1.fPallet.fH,I r1.fPallet.fGram,I r1.fClasses,v9,Bt,I r1.fMaster,Br] (r1:Request) from ⟨_,_,_,_,_,_,z,z,(Enc.rd_agr Bj (m.a00 (Enc.rd_lt Bj))),(Enc.rd_agr Bd (m.a00 (Enc.rd_lt Bd))),(Enc.rd_agr Ba (m.a00 (Enc.rd_lt Ba)))⟩) (show rd _ _ [Bb,Bm] (x5:Plan) from ⟨_,_,_,_,z,z,(Enc.rd_agr Al (m.a00 (Enc.rd_lt Al))),(Enc.rd_agr Ap (m.a00 (Enc.rd_lt Ap)))⟩) Cr) fun Dx Bl hR=>?_)
 obtain ⟨Bn,Ax,rfl,e,Bs,Cz⟩:=hR
 refine ⟨_,z,fun a k=>?_⟩
 have m:=m.new e Ax (fun b hb=>⟨Cz b hb,Enc.rd_lt (Enc.ow_rd Bs) b hb⟩) (Enc.ow_nd Bs)
 refine pN 1 k z fun a k=>nn (wp_seq (wr (pN 1 k z fun a k=>nn (wp_block (c_loop (fun n a w=>∃ (Ai:List Spot) (Aq:Value) (Ag:List Nat) (Av:World) (At:World) (Ab:Int),K 53 [(4,.pointer (some (⟨Ad,0,none⟩:Addr))),(5,.pointer (some (⟨Ac,0,none⟩:Addr))),(6,Bn),(7,I Ab)] a ∧ St [] w0 w [([Ad],Bf),(Ag,Av),([Ac],At),(Ao,Au),(Ax,Bl)] ∧ ow Av Ag [Aq] Ai ∧ bx At Ac [As,Aq] 58 ∧ d_spec_Dropped_L2 fu Ah Az n Ai Ab = some r) ?_ ?_ fu _ _ ?_)))))
 · rintro a w ⟨_,_,_,_,_,_,_,_,_,_,h⟩
   exact nS h
 · rintro Bp a Dq ⟨Ai,Aq,Ag,Av,At,Ab,k,m,Af,Ak,h⟩
   rw [d_spec_Dropped_L2_s] at h
   unfold d_spec_Dropped_L2_B at h
   refine wp_seq (wr (pN 1 k z fun a k=>sv k z (r_fa fa58_1 k z z) fun a k=>sv k z (r_ldb t156 m 2 Ak 1 k z z z z z) fun a k=>sv k z (r_len (α:=Spot) (Enc.ow_rd Af) k underlying56 z z) fun a k=>pN 1 k z fun a k=>nn (cI h k z (fun Cx h=>?_) fun Cx h=>?_)))
   · refine wp_skip (nm_then ?_)
     refine c_cut (fun a w=>∃ (Bg:List Spot) (Be:Value) (Bh:List Nat) (Bc:World) (Bk:World),K 53 [(4,.pointer (some (⟨Ad,0,none⟩:Addr))),(5,.pointer (some (⟨Ac,0,none⟩:Addr))),(6,Bn),(7,I Ab)] a ∧ St [] w0 w [([Ad],Bf),(Bh,Bc),([Ac],Bk),(Ao,Au),(Ax,Bl)] ∧ ow Bc Bh [Be] Bg ∧ bx Bk Ac [As,Be] 58 ∧ d_spec_Dropped_J1 fu (d_spec_Dropped_L2 fu Ah Az Bp) Ab Bg = some r) ?_ ?_
     · rintro a Dk ⟨Bg,Be,Bh,Bc,Bk,k,m,Ck,Ct,h⟩
       unfold d_spec_Dropped_J1 at h
       refine wp_region_lit (pN 3 k z fun a k=>nn ?_)
       exact ⟨Bg,Be,Bh,Bc,Bk,w64 (Ab + 1),k.keep [4,5,6,7] z,m.sel [0,1,2,3,4] z (by decide),Ck,Ct,h⟩
     refine wp_block (wr (sv k z (r_fa fa58_1 k z z) fun a k=>sv k z (r_ldb t156 m 2 Ak 1 k z z z z z) fun a k=>pN 1 k z fun a k=>oE h fun Aw Bz h=>sv k z (r_ixa (Enc.ow_rd Af) Bz k ts56 z z z) fun a k=>sv k z (r_lde (Enc.ow_rd Af) (m.a 1 z) Bz ta89 k z z) fun a k=>s_alloc (cs:=[I 0,I 0,I 0,I 0]) m k zeroValue89 z z z z z fun Ar Ec a k m e Cq=>s_stb (cs':=[I Aw.fPallet,I Aw.fX,I Aw.fY,I Aw.fZ]) sizeOf89 m 0 Cq 0 k z z z z z z z z z z z fun Cl a k e m De=>nn ?_))
     refine c_cut (fun a w=>∃ (Ae:Spot) (Bv:World),K 53 [(4,.pointer (some (⟨Ad,0,none⟩:Addr))),(5,.pointer (some (⟨Ac,0,none⟩:Addr))),(6,Bn),(7,I Ab),(8,.pointer (some (⟨Ar,0,none⟩:Addr)))] a ∧ St [] w0 w [([Ad],Bf),([Ac],At),([Ar],Bv),(Ao,Au),(Ag,Av),(Ax,Bl)] ∧ bx Bv Ar [I Ae.fPallet,I Ae.fX,I Ae.fY,I Ae.fZ] 89 ∧ d_spec_Dropped_J2 fu (d_spec_Dropped_L2 fu Ah Az Bp) Ai Ab Ae = some r) ?_ ?_
     · rintro a Ej ⟨Ae,Bv,k,m,Cu,h⟩
       unfold d_spec_Dropped_J2 at h
       refine wp_region_lit (sv k z (r_fa fa58_1 k z z) fun a k=>sv k z (r_ldb t156 m 1 Ak 1 k z z z z z) fun a k=>pN 1 k z fun a k=>sv k z (r_ldB ta89 m 2 Cu 0 k z z z z z z) fun a k=>oE h fun Ed By h=>sv k z (r_ixa (Enc.ow_rd Af) By k ts56 z z z) fun a k=>s_ste (α:=Spot) (sz:=4) (y:=Ae) sizeOf89 By m 4 Af 0 k z z z z z z z z z z z z fun Cv a k e m Ci=>wpList_nil (nm_block (nm_then ?_)))
       exact ⟨setx Ai Ab Ae,Aq,Ag,Cv,At,k.keep [4,5,6,7] z,m.sel [0,4,1,3,5] z (by decide),Ci,Ak,h⟩
     refine wp_block (c_loop (fun n a w=>∃ (Aa:Spot) (Ay:World),K 53 [(4,.pointer (some (⟨Ad,0,none⟩:Addr))),(5,.pointer (some (⟨Ac,0,none⟩:Addr))),(6,Bn),(7,I Ab),(8,.pointer (some (⟨Ar,0,none⟩:Addr)))] a ∧ St [] w0 w [([Ad],Bf),([Ac],At),([Ar],Ay),(Ao,Au),(Ag,Av),(Ax,Bl)] ∧ bx Ay Ar [I Aa.fPallet,I Aa.fX,I Aa.fY,I Aa.fZ] 89 ∧ d_spec_Dropped_L1 fu (d_spec_Dropped_L2 fu Ah Az Bp) Ah Az Ai Ab n Aa = some r) ?_ ?_ fu _ _ ?_)
     · rintro a w ⟨_,_,_,_,_,h⟩
       exact nS h
     · rintro Du a Eh ⟨Aa,Ay,k,m,Aj,h⟩
       rw [d_spec_Dropped_L1_s] at h
       unfold d_spec_Dropped_L1_B at h
       refine wp_seq (wr (sv k z (r_fa fa89_3 k z z) fun a k=>sv k z (r_ldb t13 m 2 Aj 3 k z z z z z) fun a k=>pN 1 k z fun a k=>nn (cI h k z (fun Da h=>?_) fun Da h=>?_)))
       · refine wp_skip (nm_then ?_)
         refine wp_block (wr (sv k z (r_ldB ta89 m 2 Aj 0 k z z z z z z) fun a k=>s_alloc (cs:=[I 0,I 0,I 0,I 0]) m k zeroValue89 z z z z z fun Ef Dm a k m e Dd=>s_stb (cs':=[I Aa.fPallet,I Aa.fX,I Aa.fY,I Aa.fZ]) sizeOf89 m 0 Dd 0 k z z z z z z z z z z z fun Dv a k e m Cs=>nn (wr (sv k z (r_fa fa89_3 k z z) fun a k=>sv k z (r_ldb t13 m 3 Aj 3 k z z z z z) fun a k=>pN 1 k z fun a k=>sv k z (r_fa fa89_3 k z z) fun a k=>s_stb (cs':=[I Aa.fPallet,I Aa.fX,I Aa.fY,I (w64 (Aa.fZ - 1))]) sizeOf3 m 0 Cs 3 k z z z z z z z z z z z fun Dn a k e m Ca=>nn (wp_seq ?_)))))
         refine wr (pN 1 k z fun a k=>sv k z (r_ldB ta58 m 2 Ak 0 k z z z z z z) fun a k=>pN 1 k z fun a k=>sv k z (r_ldB ta89 m 0 Ca 0 k z z z z z z) fun a k=>oE h fun Dr Dh h=>cE k m call143 z z z (c_spec_l21Free fu _ _ _ (((⟨Aa.fPallet,Aa.fX,Aa.fY,w64 (Aa.fZ - 1)⟩:Spot)):Spot) (Enc.rd_agr (Enc.ow_rd Bs) (m.a 6 z)) (show rd _ _ [As,Aq] ((⟨Ah.fCartons,Ai⟩:Plan):Plan) from ⟨_,_,_,_,z,z,(Enc.rd_agr (Enc.ow_rd Am) (m.a 4 z)),(Enc.rd_agr (Enc.ow_rd Af) (m.a 5 z))⟩) Dh) fun Do e a k m=>pN 1 k z fun a k=>nn (cI h k z (fun Cy h=>?_) fun Cy h=>?_))
         · refine wp_exit (ex_then (ex_other z (ex_then (ex_same (nm_then ?_)))))
           exact ⟨Aa,Ay,k.keep [4,5,6,7,8] z,m.sel [1,2,3,4,5,6] z (by decide),Aj,h⟩
         refine wp_skip (nm_then ?_)
         refine wp_region_lit (sv k z (r_ldB ta89 m 0 Ca 0 k z z z z z z) fun a k=>s_stb (cs':=[I Aa.fPallet,I Aa.fX,I Aa.fY,I (w64 (Aa.fZ - 1))]) sizeOf89 m 3 Aj 0 k z z z z z z z z z z z fun Co a k e m Dg=>wpList_nil (nm_block (nm_then ?_)))
         exact ⟨(⟨Aa.fPallet,Aa.fX,Aa.fY,w64 (Aa.fZ - 1)⟩:Spot),Co,k.keep [4,5,6,7,8] z,m.sel [1,2,3,4,5,6] z (by decide),Dg,h⟩
       refine wp_exit (ex_then (ex_then (ex_same (nm_then ?_))))
       exact ⟨Aa,Ay,k.keep [4,5,6,7,8] z,m.sel [0,1,2,3,4,5] z (by decide),Aj,h⟩
     exact ⟨Aw,Cl,k.keep [4,5,6,7,8] z,m.sel [1,3,0,4,2,5] z (by decide),De,h⟩
   refine wp_exit (ex_then (ex_then (ex_same (nm_then ?_))))
   refine wr (sv k z (r_ldB ta58 m 2 Ak 0 k z z z z z z) fun a k=>s_stb (cs':=[As,Aq]) sizeOf58 m 0 Bw 0 k z z z z z z z z z z (allc (rd_o (Enc.ow_rd Am)) (allc (rd_o (Enc.ow_rd Af)) alln)) fun El a k e m Db=>nn (wp_ret ?_))
   cases h
   exact finR1 k z (RV.cA k z ta58 (Db.at (m.a 0 z) 0 2 z z z) z) ⟨_,_,z,m.ext,⟨_,Ao,_,Ag,z,z,(Enc.ow_agr Am (m.a 3 z)),(Enc.ow_agr Af (m.a 1 z)),by simpa [fps] using (m.sel [3,1] z (by decide)).nd⟩,(app_fresh (m.fresh 3 z) (m.fresh 1 z))⟩
 exact ⟨Ah.fSpots,Bq,Cc,Au,Di,0,k.keep [4,5,6,7] z,m.sel [4,3,1,2,0] z (by decide),Bi,Cb,h⟩
theorem c_impl_cloneCartons (fu:Nat) {w0:World} (Ad:List Carton) {v2:Value} {F3:List Nat} (Af:rd w0 F3 [v2] Ad) {r:(List Carton)}
    (h:d_impl_cloneCartons fu Ad = some r) :
    Calls Tryz.prog 230 #[v2] w0 fun e w=>∃ (v0:Value) (G0:List Nat),e = .returned (v0) ∧ Ext [] w0 w ∧ ow w G0 [v0] r ∧ (∀ b ∈ G0,w0.heap.size ≤ b):=by
 refine enter (vs:=[_]) func230 z ntmps230 z fun a k=>?_
 have m:=St.start w0
 unfold d_impl_cloneCartons at h
 refine wr (pN 1 k z fun a k=>nn (wr (s_bs (cs:=[]) (ps:=[]) te55 m k z z z z z z z (by decide) z (by exact (List.forall_mem_nil _)) fun g5 w6 e8 a k m e Bi=>?_)))
 have As:=ow_bx0 (α:=Carton) Bi
 refine pN 1 k z fun a k=>nn (wp_seq (wr (pN 1 k z fun a k=>sv k z (r_len (α:=Carton) Af k underlying55 z z) fun a k=>pN 1 k z fun a k=>nn (wp_block (c_loop (fun n a w=>∃ (Ag:List Carton) (Aj:Value) (Ac:List Nat) (Ah:World) (Ae:Int),K 23 [(3,Aj),(7,v2),(8,I ((Ad.length:Int))),(9,I Ae)] a ∧ St [] w0 w [(Ac,Ah)] ∧ ow Ah Ac [Aj] Ag ∧ d_impl_cloneCartons_L1 fu Ad n Ag Ae = some r) ?_ ?_ fu _ _ ?_)))))
 · rintro a w ⟨_,_,_,_,_,_,_,_,h⟩
   exact nS h
 · rintro By a Bm ⟨Ag,Aj,Ac,Ah,Ae,k,m,Am,h⟩
   rw [d_impl_cloneCartons_L1_s] at h
   unfold d_impl_cloneCartons_L1_B at h
   refine wr (pN 1 k z fun a k=>nn (wp_seq (cI h k z (fun Aq h=>?_) fun Aq h=>?_)))
   · refine wp_skip (nm_then ?_)
     refine wp_seq (wp_block (wr (oE h fun Aa Ap h=>sv k z (r_ixa Af Ap k ts55 z z z) fun a k=>?_)))
     obtain ⟨Bu,Bv,Bw,Bl,At,Bd⟩:=rd_get Af (ix_some Ap).2.2
     obtain ⟨Bf,_,rfl,rfl,Al⟩:=Bl
     refine sv k z (r_ldA ta83 (At.agr (m.a00 (Enc.rd_lt Af)) Bd) z k z z) fun a k=>s_alloc (cs:=[I 0,I 0,.slice none 0 0]) m k zeroValue83 z z z z z fun Bn Bz a k m e Ar=>s_stb (cs':=[I Aa.fType,I Aa.fGroup,Bf]) sizeOf83 m 0 Ar 0 k z z z z z z z z z z (allc z (allc z (allc (rd_o Al) alln))) fun Bp a k e m Ao=>nn (wr (sv k z (r_fa fa83_2 k z z) fun a k=>sv k z (r_ldb t163 m 0 Ao 2 k z z z z z) fun a k=>oE h fun Ax Be h=>s_call k call133 z z z z z (c_slices_Clone_int_int fu _ (Enc.rd_agr Al (m.a00 (Enc.rd_lt Al))) Be) fun Br Bx hR=>?_))
     obtain ⟨Ai,Ak,rfl,e,Ab,Av⟩:=hR
     refine ⟨_,z,fun a k=>?_⟩
     have m:=m.new e Ak (fun b hb=>⟨Av b hb,Enc.rd_lt (Enc.ow_rd Ab) b hb⟩) (Enc.ow_nd Ab)
     refine sv k z (r_fa fa83_2 k z z) fun a k=>s_stb1 (cs':=[I Aa.fType,I Aa.fGroup,Ai]) sizeOf63 m 1 Ao 2 k (rd_c (Enc.ow_rd Ab)) (rd_o (Enc.ow_rd Ab)) z z z z z z z z z fun Bs a k e m Bh=>nn (wp_region_lit (pN 1 k z fun a k=>sv k z (r_ldB ta83 m 1 Bh 0 k z z z z z z) fun a k=>s_bs (cs:=[I Aa.fType,I Aa.fGroup,Ai]) (ps:=[(0,.tmp 18)]) te55 m k z z z z z z z (by decide) z (by exact (List.forall_mem_cons.2 ⟨z,(List.forall_mem_nil _)⟩)) fun Bo Bt Bq a k m e Ay=>oE h fun Bb Bg h=>?_))
     have Au:ow _ (Ak) [I Aa.fType,I Aa.fGroup,Ai] ((⟨Aa.fType,Aa.fGroup,Ax⟩:Carton):Carton):=⟨_,_,z,z,(Enc.ow_agr Ab (m.a 1 z)),by simpa [fps] using (m.sel [1] z (by decide)).nd⟩
     have Aw:=News.box Ay (m.a 0 z) (by simp) (m:=1)
     have Ba:=m.a 3 z
     have m:=m.sel [3,1,0,2] z (by decide)
     have m:=m.join2
     refine s_appO (F:=Ac) (G:=(Ak)) Bg te55 z m Am Ba Aw Au (Agr.refl _ _) k z z z z z z fun Az Bc Bj a k e m Bk=>pN 1 k z fun a k=>wpList_nil (nm_block (nm_then ?_))
     refine wp_region_lit (pN 2 k z fun a k=>nn ?_)
     exact ⟨Bb,Az,Bc,Bj,w64 (Ae + 1),k.keep [3,7,8,9] z,m.sel [0] z (by decide),Bk,h⟩
   refine wp_exit (ex_then (ex_then (ex_same (nm_then ?_))))
   refine wr (pN 2 k z fun a k=>nn (wp_ret ?_))
   cases h
   exact finR1 k z (RV.tmp k z) ⟨_,Ac,z,m.ext,(Enc.ow_agr Am (m.a 0 z)),(m.fresh 0 z)⟩
 exact ⟨([]:List Carton),(.slice (some ⟨g5,0,none⟩) 0 0),[g5],w6,0,k.keep [3,7,8,9] z,m.sel [0] z (by decide),As,h⟩
theorem c_slices_Clone_impl_Spot_impl_Spot (fu:Nat) {w0:World} (Ac:List Spot) {v2:Value} {F3:List Nat} (Aa:rd w0 F3 [v2] Ac) {r:(List Spot)}
    (h:d_slices_Clone_impl_Spot_impl_Spot fu Ac = some r) :
    Calls Tryz.prog 231 #[v2] w0 fun e w=>∃ (v0:Value) (G0:List Nat),e = .returned (v0) ∧ Ext [] w0 w ∧ ow w G0 [v0] r ∧ (∀ b ∈ G0,w0.heap.size ≤ b):=by
 refine enter (vs:=[_]) func231 z ntmps231 z fun a k=>?_
 have m:=St.start w0
 unfold d_slices_Clone_impl_Spot_impl_Spot at h
 refine wr (pN 1 k z fun a k=>nn (wp_seq (wr (pN 1 k z fun a k=>?_))))
 obtain ⟨Ae,Ak,Al⟩:=r_nilq Aa
 refine sv k z (Al k underlying56 z z z) fun a k=>nn (c_cond (b:=Ae) k z (fun Ab=>?_) (fun Ab=>?_))
 · have Af:=Ak Ab
   rw [Af] at h
   have h:some (([]:List Spot)) = some r:=h
   refine wr (pN 1 k z fun a k=>nn (wp_ret (rt_then ?_)))
   cases h
   exact finR1 k z (RV.tmp k z) ⟨_,[],z,m.ext,(ow_nil _),(by simp)⟩
 refine wp_skip (nm_then ?_)
 refine wr (s_bs (cs:=[]) (ps:=[]) te56 m k z z z z z z z (by decide) z (by exact (List.forall_mem_nil _)) fun Am As Ao a k m e Aj=>?_)
 have Ai:=ow_bx Aj ([]:List Spot) z z z
 refine pN 1 k z fun a k=>oE h fun Ar Ag h=>s_appF Ag te56 z m 0 Ai (News.rd (Enc.rd_agr Aa (m.a00 (Enc.rd_lt Aa)))) z z k z z z z z z z fun Ap Ad Aq a k e m Ah=>pN 1 k z fun a k=>nn (wp_ret ?_)
 cases h
 exact finR1 k z (RV.tmp k z) ⟨_,Ad,z,m.ext,(Enc.ow_agr Ah (m.a 0 z)),(m.fresh 0 z)⟩
theorem c_impl_clonePlan (fu:Nat) {w0:World} (x1:Plan) {Al:List Value} {F3:List Nat} (Au:rd w0 F3 Al x1) {r:Plan}
    (h:d_impl_clonePlan fu x1 = some r) :
    Calls Tryz.prog 132 #[.agg Al.toArray] w0 fun e w=>∃ (Ah:List Value) (G0:List Nat),e = .returned (.agg Ah.toArray) ∧ Ext [] w0 w ∧ ow w G0 Ah r ∧ (∀ b ∈ G0,w0.heap.size ≤ b):=by
 refine enter (vs:=[_]) func132 z ntmps132 z fun a k=>?_
 have m:=St.start w0
 obtain ⟨v5,F6,v7,F8,rfl,rfl,Ae,Af⟩:=Au
 unfold d_impl_clonePlan at h
 refine wr (s_box (cs:=[v5,v7]) m k z z z z z z fun Bd Az a k m e Ao=>s_alloc (cs:=[.slice none 0 0,.slice none 0 0]) m k zeroValue58 z z z z z fun Ai Be a k m e At=>nn (wp_seq (d_go ([Ai]) mixo m z fun Ar hMd=>?_)))
 have m:=hMd
 have s:=Ext.refl (([Ai]):List Nat) Ar
 refine dt k 0 z (by kernel_rfl) z s (fun _ _ _=>id) (fun w s=>r_fa fa58_0 k z z) fun a k=>dt k 1 z (by kernel_rfl) z s (fun _ _ _=>id) (fun w s=>r_ld1 t155 (r:=[]) (Ao.at (hMd.az 1 0 z z z s) 0 1 z z z) k z z) fun a k=>dt k 3 z (by kernel_rfl) z s (fun _ _ _=>id) (fun w s=>r_fa fa58_1 k z z) fun a k=>dt k 4 z (by kernel_rfl) z s (fun _ _ _=>id) (fun w s=>r_ld1 t156 (r:=[]) (Ao.at (hMd.az 1 0 z z z s) 1 1 z z z) k z z) fun a k=>d_one 2 (by kernel_rfl) z (oE h fun Ax Ap h=>s_call k call230 z z z z z (c_impl_cloneCartons fu _ (Enc.rd_agr Ae (m.a00 (Enc.rd_lt Ae))) Ap) fun Ay Bc hR=>?_)
 obtain ⟨Aj,Ac,rfl,e,Ab,Ak⟩:=hR
 refine ⟨_,z,fun a k=>?_⟩
 have m:=m.new e Ac (fun b hb=>⟨Ak b hb,Enc.rd_lt (Enc.ow_rd Ab) b hb⟩) (Enc.ow_nd Ab)
 have Bf:=fun (y:Nat) (hy:y ∈ Ac)=>Nat.le_trans s.size (Ak y hy)
 have s:=s.trans e (by simp)
 refine wpList_nil ⟨s,?_⟩
 refine d_one 5 (by kernel_rfl) z (oE h fun Bg Aq h=>s_call k call231 z z z z z (c_slices_Clone_impl_Spot_impl_Spot fu _ (Enc.rd_agr Af (m.a00 (Enc.rd_lt Af))) Aq) fun Aw Ba hR=>?_)
 obtain ⟨Am,Ad,rfl,e,Aa,Ag⟩:=hR
 refine ⟨_,z,fun a k=>?_⟩
 have m:=m.new e Ad (fun b hb=>⟨Ag b hb,Enc.rd_lt (Enc.ow_rd Aa) b hb⟩) (Enc.ow_nd Aa)
 have Av:=fun (y:Nat) (hy:y ∈ Ad)=>Nat.le_trans s.size (Ag y hy)
 have s:=s.trans e (by simp)
 refine wpList_nil ⟨s,?_⟩
 refine dt k 6 z (by kernel_rfl) z s (fun _ _ _=>id) (fun w s=>r_build bt58 k (cs:=#[Aj,Am]) (ps:=[(0,.tmp 5),(1,.tmp 8)]) z z (fillc z (rd_c (Enc.ow_rd Ab)) z (fillc z (rd_c (Enc.ow_rd Aa)) z z))) fun a k=>d_one 7 (by kernel_rfl) z (s_stb (cs':=[Aj,Am]) sizeOf58 m 2 At 0 k z z z z z z z z z z (allc (rd_o (Enc.ow_rd Ab)) (allc (rd_o (Enc.ow_rd Aa)) alln)) fun Bb a k e m As=>?_)
 have s:=s.trans e (fun y hy=>Or.inl hy)
 refine wpList_nil ⟨s,?_⟩
 refine d_done (by kernel_rfl) ((nm_then ?_))
 refine wp_ret ?_
 cases h
 exact finR1 k z (RV.cA k z ta58 (As.at (m.a 2 z) 0 2 z z z) z) ⟨_,_,z,m.ext,⟨_,Ac,_,Ad,z,z,(Enc.ow_agr Ab (m.a 1 z)),(Enc.ow_agr Aa (m.a 0 z)),by simpa [fps] using (m.sel [1,0] z (by decide)).nd⟩,(app_fresh (m.fresh 1 z) (m.fresh 0 z))⟩
theorem c_impl_Dropped (fu:Nat) {w0:World} (r1:Request) (x5:Plan) {Cw:List Value} {F3:List Nat} (Do:rd w0 F3 Cw r1) {Cq:List Value} {F7:List Nat} (Dy:rd w0 F7 Cq x5) {r:Plan}
    (h:d_impl_Dropped fu r1 x5 = some r) :
    Calls Tryz.prog 49 #[.agg Cw.toArray,.agg Cq.toArray] w0 fun e w=>∃ (Da:List Value) (G0:List Nat),e = .returned (.agg Da.toArray) ∧ Ext [] w0 w ∧ ow w G0 Da r ∧ (∀ b ∈ G0,w0.heap.size ≤ b):=by
 refine enter (vs:=[_,_]) func49 z ntmps49 z fun a k=>?_
 have m:=St.start w0
 obtain ⟨v9,Gf,Ci,Gr,Ch,Fs,rfl,rfl,Bw,Bq,Bk⟩:=Do
 obtain ⟨Bp,Fj,Cl,Fu,rfl,rfl,Al,Bu⟩:=Dy
 unfold d_impl_Dropped at h
 refine wr (s_box (cs:=[I r1.fWay,I r1.fPallet.fW,I r1.fPallet.fD,I r1.fPallet.fH,I r1.fPallet.fGram,I r1.fClasses,v9,Ci,I r1.fMaster,Ch]) m k z z z z z z fun Cy Eb a k m e Cx=>s_box (cs:=[Bp,Cl]) m k z z z z z z fun Ff Fh a k m e Cc=>s_alloc (cs:=[.slice none 0 0,.slice none 0 0]) m k zeroValue58 z z z z z fun Af Ax a k m e Cp=>nn (wr (sv k z (r_ldB ta58 m 1 Cc 0 k z z z z z z) fun a k=>oE h fun Ai Dg h=>s_call k call132 z z z z z (c_impl_clonePlan fu _ (show rd _ _ [Bp,Cl] (x5:Plan) from ⟨_,_,_,_,z,z,(Enc.rd_agr Al (m.a00 (Enc.rd_lt Al))),(Enc.rd_agr Bu (m.a00 (Enc.rd_lt Bu)))⟩) Dg) fun Gm Ak hR=>?_)))
 obtain ⟨Fd,Dn,rfl,e,Cj,Ej⟩:=hR
 refine ⟨_,z,fun a k=>?_⟩
 have m:=m.new e Dn (fun b hb=>⟨Ej b hb,Enc.rd_lt (Enc.ow_rd Cj) b hb⟩) (Enc.ow_nd Cj)
 obtain ⟨Az,Aq,Cf,Ce,rfl,rfl,Bf,Bt,_⟩:=Cj
 have m:=m.split2
 refine s_alloc (cs:=[.slice none 0 0,.slice none 0 0]) m k zeroValue58 z z z z z fun Ad Fc a k m e Dl=>s_stb (cs':=[Az,Cf]) sizeOf58 m 0 Dl 0 k z z z z z z z z z z (allc (rd_o (Enc.ow_rd Bf)) (allc (rd_o (Enc.ow_rd Bt)) alln)) fun Df a k e m Cv=>nn (wp_seq (wr (sv k z (r_ldB ta38 m 5 Cx 0 k z z z z z z) fun a k=>sv k z (r_ldB ta58 m 4 Cc 0 k z z z z z z) fun a k=>oE h fun Ge Dh h=>?_)))
 refine cE k m call38 z z z (c_impl_Feasible fu _ _ (show rd _ _ [I r1.fWay,I r1.fPallet.fW,I r1.fPallet.fD,I r1.fPallet.fH,I r1.fPallet.fGram,I r1.fClasses,v9,Ci,I r1.fMaster,Ch] (r1:Request) from ⟨_,_,_,_,_,_,z,z,(Enc.rd_agr Bw (m.a00 (Enc.rd_lt Bw))),(Enc.rd_agr Bq (m.a00 (Enc.rd_lt Bq))),(Enc.rd_agr Bk (m.a00 (Enc.rd_lt Bk)))⟩) (show rd _ _ [Bp,Cl] (x5:Plan) from ⟨_,_,_,_,z,z,(Enc.rd_agr Al (m.a00 (Enc.rd_lt Al))),(Enc.rd_agr Bu (m.a00 (Enc.rd_lt Bu)))⟩) Dh) fun Gk e a k m=>pN 1 k z fun a k=>nn (cI h k z (fun Dm h=>?_) fun Dm h=>?_)
 · refine wr (sv k z (r_ldB ta58 m 0 Cv 0 k z z z z z z) fun a k=>s_stb (cs':=[Az,Cf]) sizeOf58 m 3 Cp 0 k z z z z z z z z z z (allc (rd_o (Enc.ow_rd Bf)) (allc (rd_o (Enc.ow_rd Bt)) alln)) fun Ft a k e m En=>nn (wp_ret (rt_then ?_)))
   cases h
   exact finR1 k z (RV.cA k z ta58 (En.at (m.a 3 z) 0 2 z z z) z) ⟨_,_,z,m.ext,⟨_,Aq,_,Ce,z,z,(Enc.ow_agr Bf (m.a 1 z)),(Enc.ow_agr Bt (m.a 2 z)),by simpa [fps] using (m.sel [1,2] z (by decide)).nd⟩,(app_fresh (m.fresh 1 z) (m.fresh 2 z))⟩
 refine wp_skip (nm_then ?_)
 refine wr (s_bs (cs:=[]) (ps:=[]) te149 m k z z z z z z z (by decide) z (by exact (List.forall_mem_nil _)) fun Co Ei Gh a k m e Er=>?_)
 have Dv:=ow_bx Er ([]:List Box) z z z
 refine pN 1 k z fun a k=>nn (wp_seq (wr (sv k z (r_fa fa58_0 k z z) fun a k=>sv k z (r_ldb t155 m 5 Cc 0 k z z z z z) fun a k=>sv k z (r_len (α:=Carton) Al k underlying55 z z) fun a k=>pN 1 k z fun a k=>nn (wp_block (c_loop (fun n a w=>∃ (Ab:List Box) (Ae:Value) (Ao:List Nat) (Aj:World) (Cb:Int),K 93 [(2,.pointer (some (⟨Cy,0,none⟩:Addr))),(4,.pointer (some (⟨Af,0,none⟩:Addr))),(5,.pointer (some (⟨Ad,0,none⟩:Addr))),(6,Ae),(24,Bp),(25,I ((x5.fCartons.length:Int))),(26,I Cb)] a ∧ St [] w0 w [([Cy],Eb),([Af],Ax),([Ad],Df),(Aq,Ak),(Ce,Ak),(Ao,Aj)] ∧ ow Aj Ao [Ae] Ab ∧ d_impl_Dropped_L4 fu r1 x5 Ai n Ab Cb = some r) ?_ ?_ fu _ _ ?_)))))
 · rintro a w ⟨_,_,_,_,_,_,_,_,h⟩
   exact nS h
 · rintro Fv a Fn ⟨Ab,Ae,Ao,Aj,Cb,k,m,As,h⟩
   rw [d_impl_Dropped_L4_s] at h
   unfold d_impl_Dropped_L4_B at h
   refine wr (pN 1 k z fun a k=>nn (wp_seq (cI h k z (fun Ey h=>?_) fun Ey h=>?_)))
   · refine wp_skip (nm_then ?_)
     refine wp_seq (wp_block (wr (oE h fun Be Cs h=>sv k z (r_ixa Al Cs k ts55 z z z) fun a k=>?_)))
     obtain ⟨Gu,Fw,Gp,Ea,Dz,Dw⟩:=rd_get Al (ix_some Cs).2.2
     obtain ⟨Cm,_,rfl,rfl,Cd⟩:=Ea
     refine sv k z (r_ldA ta83 (Dz.agr (m.a00 (Enc.rd_lt Al)) Dw) z k z z) fun a k=>s_alloc (cs:=[I 0,I 0,.slice none 0 0]) m k zeroValue83 z z z z z fun Gn Gt a k m e Dr=>s_stb (cs':=[I Be.fType,I Be.fGroup,Cm]) sizeOf83 m 0 Dr 0 k z z z z z z z z z z (allc z (allc z (allc (rd_o Cd) alln))) fun Gd a k e m Ed=>nn (wp_region_lit (pN 1 k z fun a k=>sv k z (r_ldB ta38 m 1 Cx 0 k z z z z z z) fun a k=>sv k z (r_ldB ta83 m 0 Ed 0 k z z z z z z) fun a k=>oE h fun Bc Dk h=>?_))
     refine cE k m call56 z z z (c_impl_BoxOf fu _ _ (show rd _ _ [I r1.fWay,I r1.fPallet.fW,I r1.fPallet.fD,I r1.fPallet.fH,I r1.fPallet.fGram,I r1.fClasses,v9,Ci,I r1.fMaster,Ch] (r1:Request) from ⟨_,_,_,_,_,_,z,z,(Enc.rd_agr Bw (m.a00 (Enc.rd_lt Bw))),(Enc.rd_agr Bq (m.a00 (Enc.rd_lt Bq))),(Enc.rd_agr Bk (m.a00 (Enc.rd_lt Bk)))⟩) (show rd _ _ [I Be.fType,I Be.fGroup,Cm] (Be:Carton) from ⟨_,_,z,z,(Enc.rd_agr Cd (m.a00 (Enc.rd_lt Cd)))⟩) Dk) fun Gb e a k m=>?_
     refine s_bs (cs:=[I Bc.fW,I Bc.fD,I Bc.fH,I Bc.fGram]) (ps:=[(0,.tmp 33)]) te149 m k z z z z z z z (by decide) z (by exact (List.forall_mem_cons.2 ⟨z,(List.forall_mem_nil _)⟩)) fun Ga Gj Fx a k m e Dq=>?_
     have Et:=ow_bx Dq ([Bc]:List Box) z z z
     refine oE h fun Es Ee h=>s_appF Ee te149 z m 7 As (News.rd (Enc.rd_agr (Enc.ow_rd Et) (m.a 0 z))) z z k z z z z z z z fun Di Eu Eo a k e m Ez=>pN 1 k z fun a k=>wpList_nil (nm_block (nm_then ?_))
     refine wp_region_lit (pN 2 k z fun a k=>nn ?_)
     exact ⟨Es,Di,Eu,Eo,w64 (Cb + 1),k.keep [2,4,5,6,24,25,26] z,m.sel [2,3,4,5,6,7] z (by decide),Ez,h⟩
   refine wp_exit (ex_then (ex_then (ex_same (nm_then ?_))))
   refine wp_seq (wr (pN 1 k z fun a k=>sv k z (r_len (α:=Box) (Enc.ow_rd As) k underlying149 z z) fun a k=>pN 1 k z fun a k=>nn (wp_block (c_loop (fun n a w=>∃ (Bm:List Spot) (Bd:Value) (Bb:List Nat) (Ca:World) (Bv:World) (Ac:Int),K 93 [(4,.pointer (some (⟨Af,0,none⟩:Addr))),(5,.pointer (some (⟨Ad,0,none⟩:Addr))),(6,Ae),(37,Ae),(38,I ((Ab.length:Int))),(39,I Ac)] a ∧ St [] w0 w [([Af],Ax),(Bb,Ca),([Ad],Bv),(Aq,Ak),(Ao,Aj)] ∧ ow Ca Bb [Bd] Bm ∧ bx Bv Ad [Az,Bd] 58 ∧ d_impl_Dropped_L3 fu Ai Ab n Bm Ac = some r) ?_ ?_ fu _ _ ?_))))
   · rintro a w ⟨_,_,_,_,_,_,_,_,_,_,h⟩
     exact nS h
   · rintro Aw a Fg ⟨Bm,Bd,Bb,Ca,Bv,Ac,k,m,Cg,Cr,h⟩
     rw [d_impl_Dropped_L3_s] at h
     unfold d_impl_Dropped_L3_B at h
     refine wr (pN 1 k z fun a k=>nn (wp_seq (cI h k z (fun Eg h=>?_) fun Eg h=>?_)))
     · refine wp_skip (nm_then ?_)
       refine c_cut (fun a w=>∃ (Bj:List Spot) (By:Value) (Bn:List Nat) (Bo:World) (Bs:World),K 93 [(4,.pointer (some (⟨Af,0,none⟩:Addr))),(5,.pointer (some (⟨Ad,0,none⟩:Addr))),(6,Ae),(37,Ae),(38,I ((Ab.length:Int))),(39,I Ac)] a ∧ St [] w0 w [([Af],Ax),(Bn,Bo),([Ad],Bs),(Aq,Ak),(Ao,Aj)] ∧ ow Bo Bn [By] Bj ∧ bx Bs Ad [Az,By] 58 ∧ d_impl_Dropped_J1 fu (d_impl_Dropped_L3 fu Ai Ab Aw) Ac Bj = some r) ?_ ?_
       · rintro a Gq ⟨Bj,By,Bn,Bo,Bs,k,m,El,Dp,h⟩
         unfold d_impl_Dropped_J1 at h
         refine wp_region_lit (pN 2 k z fun a k=>nn ?_)
         exact ⟨Bj,By,Bn,Bo,Bs,w64 (Ac + 1),k.keep [4,5,6,37,38,39] z,m.sel [0,1,2,3,4] z (by decide),El,Dp,h⟩
       refine wp_block (wr (pN 1 k z fun a k=>oE h fun Ah Cn h=>sv k z (r_ixa (Enc.ow_rd As) Cn k ts149 z z z) fun a k=>sv k z (r_lde (Enc.ow_rd As) (m.a 4 z) Cn ta86 k z z) fun a k=>s_alloc (cs:=[I 0,I 0,I 0,I 0]) m k zeroValue86 z z z z z fun Ay Fp a k m e Ds=>pN 1 k z fun a k=>s_stb (cs':=[I Ah.fW,I Ah.fD,I Ah.fH,I Ah.fGram]) sizeOf86 m 0 Ds 0 k z z z z z z z z z z z fun Ck a k e m Fb=>nn (wp_block ?_)))
       refine c_loop (fun n a w=>∃ (Am:List Spot) (Ba:Value) (Ap:List Nat) (Av:World) (Ar:World),K 93 [(4,.pointer (some (⟨Af,0,none⟩:Addr))),(5,.pointer (some (⟨Ad,0,none⟩:Addr))),(6,Ae),(9,I Ac),(10,.pointer (some (⟨Ay,0,none⟩:Addr))),(37,Ae),(38,I ((Ab.length:Int))),(39,I Ac)] a ∧ St [] w0 w [([Af],Ax),(Ap,Av),([Ad],Ar),([Ay],Ck),(Aq,Ak),(Ao,Aj)] ∧ ow Av Ap [Ba] Am ∧ bx Ar Ad [Az,Ba] 58 ∧ d_impl_Dropped_L2 fu (d_impl_Dropped_L3 fu Ai Ab Aw) Ab Ac Ah n Am = some r) ?_ ?_ fu _ _ ?_
       · rintro a w ⟨_,_,_,_,_,_,_,_,_,h⟩
         exact nS h
       · rintro Cu a Fk ⟨Am,Ba,Ap,Av,Ar,k,m,Ag,At,h⟩
         rw [d_impl_Dropped_L2_s] at h
         unfold d_impl_Dropped_L2_B at h
         refine wp_seq (wr (sv k z (r_fa fa58_1 k z z) fun a k=>sv k z (r_ldb t156 m 2 At 1 k z z z z z) fun a k=>pN 1 k z fun a k=>oE h fun Aa Bz h=>sv k z (r_ixa (Enc.ow_rd Ag) Bz k ts56 z z z) fun a k=>sv k z (r_fa fa89_3 k z z) fun a k=>sv k z (r_lde1 (Enc.ow_rd Ag) (m.a 1 z) Bz 3 t13 k z z z z) fun a k=>pN 1 k z fun a k=>nn (cI h k z (fun Dj h=>?_) fun Dj h=>?_)))
         · refine wp_skip (nm_then ?_)
           refine wp_block (wr (sv k z (r_fa fa58_1 k z z) fun a k=>sv k z (r_ldb t156 m 2 At 1 k z z z z z) fun a k=>pN 1 k z fun a k=>oE h fun Fe Fi h=>sv k z (r_ixa (Enc.ow_rd Ag) Bz k ts56 z z z) fun a k=>sv k z (r_lde (Enc.ow_rd Ag) (m.a 1 z) Bz ta89 k z z) fun a k=>s_alloc (cs:=[I 0,I 0,I 0,I 0]) m k zeroValue89 z z z z z fun Bl Fm a k m e Du=>s_stb (cs':=[I Aa.fPallet,I Aa.fX,I Aa.fY,I Aa.fZ]) sizeOf89 m 0 Du 0 k z z z z z z z z z z z fun Gl a k e m Ct=>nn (wr (sv k z (r_fa fa89_3 k z z) fun a k=>sv k z (r_ldb t13 m 0 Ct 3 k z z z z z) fun a k=>pN 1 k z fun a k=>?_))))
           refine sv k z (r_fa fa89_3 k z z) fun a k=>s_stb (cs':=[I Aa.fPallet,I Aa.fX,I Aa.fY,I (w64 (Aa.fZ - 1))]) sizeOf3 m 0 Ct 3 k z z z z z z z z z z z fun Db a k e m Dd=>nn (wr (pN 1 k z fun a k=>nn (wp_seq (wr (pN 1 k z fun a k=>sv k z (r_len (α:=Box) (Enc.ow_rd As) k underlying149 z z) fun a k=>pN 1 k z fun a k=>nn (wp_block ?_))))))
           refine c_loop (fun n a w=>∃ (Br:Bool) (Au:Int),K 93 [(4,.pointer (some (⟨Af,0,none⟩:Addr))),(5,.pointer (some (⟨Ad,0,none⟩:Addr))),(6,Ae),(9,I Ac),(10,.pointer (some (⟨Ay,0,none⟩:Addr))),(11,.pointer (some (⟨Bl,0,none⟩:Addr))),(12,.bool (Br)),(37,Ae),(38,I ((Ab.length:Int))),(39,I Ac),(60,Ae),(61,I ((Ab.length:Int))),(62,I Au)] a ∧ St [] w0 w [([Af],Ax),([Ad],Ar),([Ay],Ck),([Bl],Db),(Aq,Ak),(Ap,Av),(Ao,Aj)] ∧ d_impl_Dropped_L1 fu (d_impl_Dropped_L3 fu Ai Ab Aw) (d_impl_Dropped_L2 fu (d_impl_Dropped_L3 fu Ai Ab Aw) Ab Ac Ah Cu) Ab Ac Ah Am Aa n Br Au = some r) ?_ ?_ fu _ _ ?_
           · rintro a w ⟨_,_,_,_,h⟩
             exact nS h
           · rintro Em a Gi ⟨Br,Au,k,m,h⟩
             rw [d_impl_Dropped_L1_s] at h
             unfold d_impl_Dropped_L1_B at h
             refine wr (pN 1 k z fun a k=>nn (wp_seq (cI h k z (fun Ev h=>?_) fun Ev h=>?_)))
             · refine wp_skip (nm_then ?_)
               refine c_cut (fun a w=>∃ (Bx:Bool),K 93 [(4,.pointer (some (⟨Af,0,none⟩:Addr))),(5,.pointer (some (⟨Ad,0,none⟩:Addr))),(6,Ae),(9,I Ac),(10,.pointer (some (⟨Ay,0,none⟩:Addr))),(11,.pointer (some (⟨Bl,0,none⟩:Addr))),(12,.bool (Bx)),(37,Ae),(38,I ((Ab.length:Int))),(39,I Ac),(60,Ae),(61,I ((Ab.length:Int))),(62,I Au)] a ∧ St [] w0 w [([Af],Ax),([Ad],Ar),([Ay],Ck),([Bl],Db),(Aq,Ak),(Ap,Av),(Ao,Aj)] ∧ d_impl_Dropped_J2 fu (d_impl_Dropped_L1 fu (d_impl_Dropped_L3 fu Ai Ab Aw) (d_impl_Dropped_L2 fu (d_impl_Dropped_L3 fu Ai Ab Aw) Ab Ac Ah Cu) Ab Ac Ah Am Aa Em) Au Bx = some r) ?_ ?_
               · rintro a Gc ⟨Bx,k,m,h⟩
                 unfold d_impl_Dropped_J2 at h
                 refine wp_region_lit (pN 2 k z fun a k=>nn ?_)
                 exact ⟨Bx,w64 (Au + 1),k.keep [4,5,6,9,10,11,12,37,38,39,60,61,62] z,m.sel [0,1,2,3,4,5,6] z (by decide),h⟩
               refine wp_block (wr (pN 1 k z fun a k=>oE h fun Bi Cz h=>sv k z (r_ixa (Enc.ow_rd As) Cz k ts149 z z z) fun a k=>sv k z (r_lde (Enc.ow_rd As) (m.a 6 z) Cz ta86 k z z) fun a k=>s_alloc (cs:=[I 0,I 0,I 0,I 0]) m k zeroValue86 z z z z z fun Fl Fy a k m e Ew=>pN 1 k z fun a k=>s_stb (cs':=[I Bi.fW,I Bi.fD,I Bi.fH,I Bi.fGram]) sizeOf86 m 0 Ew 0 k z z z z z z z z z z z fun Gg a k e m Dx=>nn (d_go [] mixo m z fun Ex hMd=>?_)))
               have m:=hMd
               have s:=Ext.refl ([]:List Nat) Ex
               refine dN [0,1] 2 z k (by kernel_rfl) z s (fun _ _ _ _ _=>id) fun a k=>bsplit (Br) (fun Bh=>?_) (fun Bh=>?_)
               · have h:=bif_t Bh h
                 refine rB k 68 z Bh fun k=>dN [2,3,4,5,6,7,8,9,10,11,12,13,14,15,16,17] 16 z k (by kernel_rfl) z s (fun _ _ _ _ _=>id) fun a k=>d_done (by kernel_rfl) ?_
                 have k:=k.keep [4,5,6,9,10,11,37,38,39,60,61,12,62] z
                 refine (nm_block (nm_then ?_))
                 exact ⟨true,k.keep [4,5,6,9,10,11,12,37,38,39,60,61,62] z,m.sel [1,2,3,4,5,6,7] z (by decide),h⟩
               have h:=bif_f Bh h
               refine rB k 68 z Bh fun k=>dN [2,3,4,5] 4 z k (by kernel_rfl) z s (fun _ _ _ _ _=>id) fun a k=>bsplit (Au != Ac) (fun Bg=>?_) (fun Bg=>?_)
               · have h:=bif_t Bg h
                 refine rB k 72 z Bg fun k=>dN [11] 1 z k (by kernel_rfl) z s (fun _ _ _ _ _=>id) fun a k=>dt k 6 z (by kernel_rfl) z s (fun _ _ _=>id) (fun w s=>r_ldA ta86 (Fb.at ((hMd.step s).a 3 z) 0 4 z z z) z k z z) fun a k=>dt k 7 z (by kernel_rfl) z s (fun _ _ _=>id) (fun w s=>r_ldA ta89 (Dd.at ((hMd.step s).a 4 z) 0 4 z z z) z k z z) fun a k=>dt k 8 z (by kernel_rfl) z s (fun _ _ _=>id) (fun w s=>r_ldA ta86 (Dx.at ((hMd.step s).a 0 z) 0 4 z z z) z k z z) fun a k=>dt k 9 z (by kernel_rfl) z s (fun _ _ _=>id) (fun w s=>r_fa fa58_1 k z z) fun a k=>dt k 10 z (by kernel_rfl) z s (fun _ _ _=>id) (fun w s=>r_ld1 t156 (r:=[]) (At.at ((hMd.step s).a 2 z) 1 1 z z z) k z z) fun a k=>oE h fun Ep De h=>?_
                 refine dt k 12 z (by kernel_rfl) z s (fun _ _ _=>id) (fun w s=>r_ixa (Enc.ow_rd Ag) De k ts56 z z z) fun a k=>dt k 13 z (by kernel_rfl) z s (fun _ _ _=>id) (fun w s=>r_lde (Enc.ow_rd Ag) ((hMd.step s).a 6 z) De ta89 k z z) fun a k=>d_one 14 (by kernel_rfl) z (oE h fun Fa Ef h=>cE k m call57 z z z (c_impl_Overlap fu (Ah:Box) (((⟨Aa.fPallet,Aa.fX,Aa.fY,w64 (Aa.fZ - 1)⟩:Spot)):Spot) (Bi:Box) (Ep:Spot)  Ef) fun Fz e a k m=>?_)
                 have s:=s.trans e (by simp)
                 refine wpList_nil ⟨s,?_⟩
                 refine dN [15,16,17] 3 z k (by kernel_rfl) z s (fun _ _ _ _ _=>id) fun a k=>d_done (by kernel_rfl) ?_
                 have k:=k.keep [4,5,6,9,10,11,37,38,39,60,61,12,62] z
                 refine (nm_block (nm_then ?_))
                 exact ⟨Fa,k.keep [4,5,6,9,10,11,12,37,38,39,60,61,62] z,m.sel [1,2,3,4,5,6,7] z (by decide),h⟩
               have h:=bif_f Bg h
               refine rB k 72 z Bg fun k=>dN [6,7,8,9,10,11,12,13,14,15,16,17] 12 z k (by kernel_rfl) z s (fun _ _ _ _ _=>id) fun a k=>d_done (by kernel_rfl) ?_
               have k:=k.keep [4,5,6,9,10,11,37,38,39,60,61,12,62] z
               refine (nm_block (nm_then ?_))
               exact ⟨false,k.keep [4,5,6,9,10,11,12,37,38,39,60,61,62] z,m.sel [1,2,3,4,5,6,7] z (by decide),h⟩
             refine wp_exit (ex_then (ex_then (ex_same (nm_then ?_))))
             refine wp_seq (wr (pN 1 k z fun a k=>nn (cI h k z (fun Eh h=>?_) fun Eh h=>?_)))
             · refine wp_exit (ex_then (ex_other z (ex_then (ex_same (nm_block (nm_then ?_))))))
               exact ⟨Am,Ba,Ap,Av,Ar,k.keep [4,5,6,37,38,39] z,m.sel [0,5,1,4,6] z (by decide),Ag,At,h⟩
             refine wp_skip (nm_then ?_)
             refine wp_region_lit (sv k z (r_fa fa58_1 k z z) fun a k=>sv k z (r_ldb t156 m 1 At 1 k z z z z z) fun a k=>pN 1 k z fun a k=>sv k z (r_ldB ta89 m 3 Dd 0 k z z z z z z) fun a k=>oE h fun Fq Dc h=>sv k z (r_ixa (Enc.ow_rd Ag) Dc k ts56 z z z) fun a k=>s_ste (α:=Spot) (sz:=4) (y:=(⟨Aa.fPallet,Aa.fX,Aa.fY,w64 (Aa.fZ - 1)⟩:Spot)) sizeOf89 Dc m 5 Ag 0 k z z z z z z z z z z z z fun Ec a k e m Dt=>wpList_nil (nm_block (nm_then ?_)))
             exact ⟨setx Am Ac ((⟨Aa.fPallet,Aa.fX,Aa.fY,w64 (Aa.fZ - 1)⟩:Spot)),Ba,Ap,Ec,Ar,k.keep [4,5,6,9,10,37,38,39] z,m.sel [0,5,1,2,4,6] z (by decide),Dt,At,h⟩
           exact ⟨false,0,k.keep [4,5,6,9,10,11,12,37,38,39,60,61,62] z,m.sel [1,3,4,0,5,2,6] z (by decide),h⟩
         refine wp_exit (ex_then (ex_then (ex_same (nm_block (nm_then ?_)))))
         exact ⟨Am,Ba,Ap,Av,Ar,k.keep [4,5,6,37,38,39] z,m.sel [0,1,2,4,5] z (by decide),Ag,At,h⟩
       exact ⟨Bm,Bd,Bb,Ca,Bv,k.keep [4,5,6,9,10,37,38,39] z,m.sel [1,2,3,0,4,5] z (by decide),Cg,Cr,h⟩
     refine wp_exit (ex_then (ex_then (ex_same (nm_then ?_))))
     refine wr (sv k z (r_ldB ta58 m 2 Cr 0 k z z z z z z) fun a k=>s_stb (cs':=[Az,Bd]) sizeOf58 m 0 Cp 0 k z z z z z z z z z z (allc (rd_o (Enc.ow_rd Bf)) (allc (rd_o (Enc.ow_rd Cg)) alln)) fun Fr a k e m Ek=>nn (wp_ret ?_))
     cases h
     exact finR1 k z (RV.cA k z ta58 (Ek.at (m.a 0 z) 0 2 z z z) z) ⟨_,_,z,m.ext,⟨_,Aq,_,Bb,z,z,(Enc.ow_agr Bf (m.a 3 z)),(Enc.ow_agr Cg (m.a 1 z)),by simpa [fps] using (m.sel [3,1] z (by decide)).nd⟩,(app_fresh (m.fresh 3 z) (m.fresh 1 z))⟩
   exact ⟨Ai.fSpots,Cf,Ce,Ak,Df,0,k.keep [4,5,6,37,38,39] z,m.sel [1,4,2,3,5] z (by decide),Bt,Cv,h⟩
 exact ⟨([]:List Box),(.slice (some ⟨Co,0,none⟩) 0 0),[Co],Ei,0,k.keep [2,4,5,6,24,25,26] z,m.sel [6,4,1,2,3,0] z (by decide),Dv,h⟩
theorem c_laws_markPairS (fu:Nat) {w0:World} (a1:List Pair) (Af:Int) {v2:Value} {F3:List Nat} (Ag:ow w0 F3 [v2] a1) {r:Int × (List Pair)}
    (h:d_laws_markPairS fu a1 Af = some r) :
    Calls Tryz.prog 95 #[v2,I Af] w0 fun e w=>∃ (H0:List Nat),e = .returned (I r.1) ∧ Ext F3 w0 w ∧ (∀ b ∈ H0,b ∈ F3 ∨ w0.heap.size ≤ b) ∧ ow w H0 [v2] r.2:=by
 refine enter (vs:=[_,_]) func95 z ntmps95 z fun a k=>?_
 have m:=St.start1 w0 (Enc.rd_lt (Enc.ow_rd Ag)) (Enc.ow_nd Ag)
 unfold d_laws_markPairS at h
 refine wr (pN 1 k z fun a k=>nn (wp_seq (wr (pN 1 k z fun a k=>nn (wp_block (c_loop (fun n a w=>∃ (Ad:List Pair) (Ae:World) (Aa:Int) (Ab:Int),K 27 [(0,v2),(1,I Aa),(5,I Ab)] a ∧ St F3 w0 w [(F3,Ae)] ∧ ow Ae F3 [v2] Ad ∧ d_laws_markPairS_L1 fu  n Ad Aa Ab = some r) ?_ ?_ fu _ _ ?_))))))
 · rintro a w ⟨_,_,_,_,_,_,_,h⟩
   exact nS h
 · rintro Ar a As ⟨Ad,Ae,Aa,Ab,k,m,Ac,h⟩
   rw [d_laws_markPairS_L1_s] at h
   unfold d_laws_markPairS_L1_B at h
   refine wp_seq (wr (pN 2 k z fun a k=>sv k z (r_len (α:=Pair) (Enc.ow_rd Ac) k underlying34 z z) fun a k=>pN 1 k z fun a k=>nn (cI h k z (fun Am h=>?_) fun Am h=>?_)))
   · refine wp_skip (nm_then ?_)
     refine wp_seq (wp_block (wr (pN 3 k z fun a k=>oE h fun Ah Ai h=>sv k z (r_ixa (Enc.ow_rd Ac) Ai k ts34 z z z) fun a k=>sv k z (r_fa fa180_0 k z z) fun a k=>s_ste (α:=Pair) (sz:=2) (y:={ Ah with fA:=Aa }) sizeOf3 Ai m 0 Ac 0 k z z z z z z z z z z z z fun Aq a k e m Al=>nn (wr (pN 3 k z fun a k=>nn (wr (pN 3 k z fun a k=>oE h fun Aj Ak h=>sv k z (r_ixa (Enc.ow_rd Al) Ak k ts34 z z z) fun a k=>sv k z (r_fa fa180_1 k z z) fun a k=>s_ste (α:=Pair) (sz:=2) (y:={ Aj with fB:=w64 (Aa + 1) }) sizeOf3 Ak m 0 Al 1 k z z z z z z z z z z z z fun Ao a k e m Ap=>nn (wp_region_lit (pN 3 k z fun a k=>wpList_nil (nm_block (nm_then ?_)))))))))))
     refine wp_region_lit (pN 3 k z fun a k=>?_)
     have k:=k.keep [0,1,5] z
     refine nn ?_
     exact ⟨setx (setx Ad Ab ({ Ah with fA:=Aa })) Ab ({ Aj with fB:=w64 (Aa + 1) }),Ao,w64 ((w64 (Aa + 1)) + 1),w64 (Ab + 1),k.keep [0,1,5] z,m.sel [0] z (by decide),Ap,h⟩
   refine wp_exit (ex_then (ex_then (ex_same (nm_then ?_))))
   refine wr (pN 2 k z fun a k=>nn (wp_ret ?_))
   cases h
   exact finR1 k z (RV.tmp k z) ⟨F3,z,m.ext,(fun b hb=>m.lo b (mem_fps (i:=0) z hb)),(Enc.ow_agr Ac (m.a 0 z))⟩
 exact ⟨a1,w0,Af,0,k.keep [0,1,5] z,m.sel [0] z (by decide),Ag,h⟩
theorem c_laws_markTypeS (fu:Nat) {w0:World} (a1:List Typ) (Ae:Int) {v2:Value} {F3:List Nat} (Ag:ow w0 F3 [v2] a1) {r:Int × (List Typ)}
    (h:d_laws_markTypeS fu a1 Ae = some r) :
    Calls Tryz.prog 96 #[v2,I Ae] w0 fun e w=>∃ (H0:List Nat),e = .returned (I r.1) ∧ Ext F3 w0 w ∧ (∀ b ∈ H0,b ∈ F3 ∨ w0.heap.size ≤ b) ∧ ow w H0 [v2] r.2:=by
 refine enter (vs:=[_,_]) func96 z ntmps96 z fun a k=>?_
 have m:=St.start1 w0 (Enc.rd_lt (Enc.ow_rd Ag)) (Enc.ow_nd Ag)
 unfold d_laws_markTypeS at h
 refine wr (pN 1 k z fun a k=>nn (wp_seq (wr (pN 1 k z fun a k=>nn (wp_block (c_loop (fun n a w=>∃ (Ad:List Typ) (Af:World) (Aa:Int) (Ab:Int),K 62 [(0,v2),(1,I Aa),(5,I Ab)] a ∧ St F3 w0 w [(F3,Af)] ∧ ow Af F3 [v2] Ad ∧ d_laws_markTypeS_L1 fu  n Ad Aa Ab = some r) ?_ ?_ fu _ _ ?_))))))
 · rintro a w ⟨_,_,_,_,_,_,_,h⟩
   exact nS h
 · rintro Bi a Bk ⟨Ad,Af,Aa,Ab,k,m,Ac,h⟩
   rw [d_laws_markTypeS_L1_s] at h
   unfold d_laws_markTypeS_L1_B at h
   refine wp_seq (wr (pN 2 k z fun a k=>sv k z (r_len (α:=Typ) (Enc.ow_rd Ac) k underlying35 z z) fun a k=>pN 1 k z fun a k=>nn (cI h k z (fun Be h=>?_) fun Be h=>?_)))
   · refine wp_skip (nm_then ?_)
     refine wp_seq (wp_block (wr (pN 3 k z fun a k=>oE h fun Am Aq h=>sv k z (r_ixa (Enc.ow_rd Ac) Aq k ts35 z z z) fun a k=>sv k z (r_fa fa79_0 k z z) fun a k=>s_ste (α:=Typ) (sz:=7) (y:={ Am with fId:=Aa }) sizeOf3 Aq m 0 Ac 0 k z z z z z z z z z z z z fun Bf a k e m Az=>nn (wr (pN 3 k z fun a k=>nn (wr (pN 3 k z fun a k=>oE h fun Ao Ax h=>sv k z (r_ixa (Enc.ow_rd Az) Ax k ts35 z z z) fun a k=>sv k z (r_fa fa79_1 k z z) fun a k=>s_ste (α:=Typ) (sz:=7) (y:={ Ao with fW:=w64 (Aa + 1) }) sizeOf3 Ax m 0 Az 1 k z z z z z z z z z z z z fun Bh a k e m Aj=>nn (wr (pN 3 k z fun a k=>nn (wr (pN 3 k z fun a k=>oE h fun Ah Ar h=>?_)))))))))))
     refine sv k z (r_ixa (Enc.ow_rd Aj) Ar k ts35 z z z) fun a k=>sv k z (r_fa fa79_2 k z z) fun a k=>s_ste (α:=Typ) (sz:=7) (y:={ Ah with fH:=w64 ((w64 (Aa + 1)) + 1) }) sizeOf3 Ar m 0 Aj 2 k z z z z z z z z z z z z fun Bm a k e m As=>?_
     have k:=k.keep [0,1,5] z
     refine nn (wr (pN 3 k z fun a k=>nn (wr (pN 3 k z fun a k=>oE h fun Bb Au h=>sv k z (r_ixa (Enc.ow_rd As) Au k ts35 z z z) fun a k=>sv k z (r_fa fa79_3 k z z) fun a k=>s_ste (α:=Typ) (sz:=7) (y:={ Bb with fD:=w64 ((w64 ((w64 (Aa + 1)) + 1)) + 1) }) sizeOf3 Au m 0 As 3 k z z z z z z z z z z z z fun Bg a k e m Ap=>nn (wr (pN 3 k z fun a k=>nn (wr (pN 3 k z fun a k=>oE h fun Aw Av h=>sv k z (r_ixa (Enc.ow_rd Ap) Av k ts35 z z z) fun a k=>sv k z (r_fa fa79_4 k z z) fun a k=>s_ste (α:=Typ) (sz:=7) (y:={ Aw with fTare:=w64 ((w64 ((w64 ((w64 (Aa + 1)) + 1)) + 1)) + 1) }) sizeOf3 Av m 0 Ap 4 k z z z z z z z z z z z z fun Bj a k e m Al=>nn (wr (pN 3 k z fun a k=>nn (wr ?_)))))))))))
     refine pN 3 k z fun a k=>oE h fun Ba Ak h=>sv k z (r_ixa (Enc.ow_rd Al) Ak k ts35 z z z) fun a k=>sv k z (r_fa fa79_5 k z z) fun a k=>s_ste (α:=Typ) (sz:=7) (y:={ Ba with fGram:=w64 ((w64 ((w64 ((w64 ((w64 (Aa + 1)) + 1)) + 1)) + 1)) + 1) }) sizeOf3 Ak m 0 Al 5 k z z z z z z z z z z z z fun Bl a k e m Ai=>?_
     have k:=k.keep [0,1,5] z
     refine nn (wr (pN 3 k z fun a k=>nn (wr (pN 3 k z fun a k=>oE h fun At Ay h=>sv k z (r_ixa (Enc.ow_rd Ai) Ay k ts35 z z z) fun a k=>sv k z (r_fa fa79_6 k z z) fun a k=>s_ste (α:=Typ) (sz:=7) (y:={ At with fCost:=w64 ((w64 ((w64 ((w64 ((w64 ((w64 (Aa + 1)) + 1)) + 1)) + 1)) + 1)) + 1) }) sizeOf3 Ay m 0 Ai 6 k z z z z z z z z z z z z fun Bc a k e m Bd=>nn (wp_region_lit (pN 3 k z fun a k=>wpList_nil (nm_block (nm_then ?_))))))))
     refine wp_region_lit (pN 3 k z fun a k=>nn ?_)
     exact ⟨setx (setx (setx (setx (setx (setx (setx Ad Ab ({ Am with fId:=Aa })) Ab ({ Ao with fW:=w64 (Aa + 1) })) Ab ({ Ah with fH:=w64 ((w64 (Aa + 1)) + 1) })) Ab ({ Bb with fD:=w64 ((w64 ((w64 (Aa + 1)) + 1)) + 1) })) Ab ({ Aw with fTare:=w64 ((w64 ((w64 ((w64 (Aa + 1)) + 1)) + 1)) + 1) })) Ab ({ Ba with fGram:=w64 ((w64 ((w64 ((w64 ((w64 (Aa + 1)) + 1)) + 1)) + 1)) + 1) })) Ab ({ At with fCost:=w64 ((w64 ((w64 ((w64 ((w64 ((w64 (Aa + 1)) + 1)) + 1)) + 1)) + 1)) + 1) }),Bc,w64 ((w64 ((w64 ((w64 ((w64 ((w64 ((w64 (Aa + 1)) + 1)) + 1)) + 1)) + 1)) + 1)) + 1),w64 (Ab + 1),k.keep [0,1,5] z,m.sel [0] z (by decide),Bd,h⟩
   refine wp_exit (ex_then (ex_then (ex_same (nm_then ?_))))
   refine wr (pN 2 k z fun a k=>nn (wp_ret ?_))
   cases h
   exact finR1 k z (RV.tmp k z) ⟨F3,z,m.ext,(fun b hb=>m.lo b (mem_fps (i:=0) z hb)),(Enc.ow_agr Ac (m.a 0 z))⟩
 exact ⟨a1,w0,Ae,0,k.keep [0,1,5] z,m.sel [0] z (by decide),Ag,h⟩
theorem c_laws_markItemS (fu:Nat) {w0:World} (a1:List Item) (Ae:Int) {v2:Value} {F3:List Nat} (Ag:ow w0 F3 [v2] a1) {r:Int × (List Item)}
    (h:d_laws_markItemS fu a1 Ae = some r) :
    Calls Tryz.prog 97 #[v2,I Ae] w0 fun e w=>∃ (H0:List Nat),e = .returned (I r.1) ∧ Ext F3 w0 w ∧ (∀ b ∈ H0,b ∈ F3 ∨ w0.heap.size ≤ b) ∧ ow w H0 [v2] r.2:=by
 refine enter (vs:=[_,_]) func97 z ntmps97 z fun a k=>?_
 have m:=St.start1 w0 (Enc.rd_lt (Enc.ow_rd Ag)) (Enc.ow_nd Ag)
 unfold d_laws_markItemS at h
 refine wr (pN 1 k z fun a k=>nn (wp_seq (wr (pN 1 k z fun a k=>nn (wp_block (c_loop (fun n a w=>∃ (Ad:List Item) (Af:World) (Aa:Int) (Ab:Int),K 62 [(0,v2),(1,I Aa),(5,I Ab)] a ∧ St F3 w0 w [(F3,Af)] ∧ ow Af F3 [v2] Ad ∧ d_laws_markItemS_L1 fu  n Ad Aa Ab = some r) ?_ ?_ fu _ _ ?_))))))
 · rintro a w ⟨_,_,_,_,_,_,_,h⟩
   exact nS h
 · rintro Bi a Bk ⟨Ad,Af,Aa,Ab,k,m,Ac,h⟩
   rw [d_laws_markItemS_L1_s] at h
   unfold d_laws_markItemS_L1_B at h
   refine wp_seq (wr (pN 2 k z fun a k=>sv k z (r_len (α:=Item) (Enc.ow_rd Ac) k underlying36 z z) fun a k=>pN 1 k z fun a k=>nn (cI h k z (fun Be h=>?_) fun Be h=>?_)))
   · refine wp_skip (nm_then ?_)
     refine wp_seq (wp_block (wr (pN 3 k z fun a k=>oE h fun Am Aq h=>sv k z (r_ixa (Enc.ow_rd Ac) Aq k ts36 z z z) fun a k=>sv k z (r_fa fa158_0 k z z) fun a k=>s_ste (α:=Item) (sz:=7) (y:={ Am with fId:=Aa }) sizeOf3 Aq m 0 Ac 0 k z z z z z z z z z z z z fun Bf a k e m Az=>nn (wr (pN 3 k z fun a k=>nn (wr (pN 3 k z fun a k=>oE h fun Ao Ax h=>sv k z (r_ixa (Enc.ow_rd Az) Ax k ts36 z z z) fun a k=>sv k z (r_fa fa158_1 k z z) fun a k=>s_ste (α:=Item) (sz:=7) (y:={ Ao with fW:=w64 (Aa + 1) }) sizeOf3 Ax m 0 Az 1 k z z z z z z z z z z z z fun Bh a k e m Aj=>nn (wr (pN 3 k z fun a k=>nn (wr (pN 3 k z fun a k=>oE h fun Ah Ar h=>?_)))))))))))
     refine sv k z (r_ixa (Enc.ow_rd Aj) Ar k ts36 z z z) fun a k=>sv k z (r_fa fa158_2 k z z) fun a k=>s_ste (α:=Item) (sz:=7) (y:={ Ah with fH:=w64 ((w64 (Aa + 1)) + 1) }) sizeOf3 Ar m 0 Aj 2 k z z z z z z z z z z z z fun Bm a k e m As=>?_
     have k:=k.keep [0,1,5] z
     refine nn (wr (pN 3 k z fun a k=>nn (wr (pN 3 k z fun a k=>oE h fun Bb Au h=>sv k z (r_ixa (Enc.ow_rd As) Au k ts36 z z z) fun a k=>sv k z (r_fa fa158_3 k z z) fun a k=>s_ste (α:=Item) (sz:=7) (y:={ Bb with fD:=w64 ((w64 ((w64 (Aa + 1)) + 1)) + 1) }) sizeOf3 Au m 0 As 3 k z z z z z z z z z z z z fun Bg a k e m Ap=>nn (wr (pN 3 k z fun a k=>nn (wr (pN 3 k z fun a k=>oE h fun Aw Av h=>sv k z (r_ixa (Enc.ow_rd Ap) Av k ts36 z z z) fun a k=>sv k z (r_fa fa158_4 k z z) fun a k=>s_ste (α:=Item) (sz:=7) (y:={ Aw with fGram:=w64 ((w64 ((w64 ((w64 (Aa + 1)) + 1)) + 1)) + 1) }) sizeOf3 Av m 0 Ap 4 k z z z z z z z z z z z z fun Bj a k e m Al=>nn (wr (pN 3 k z fun a k=>nn (wr ?_)))))))))))
     refine pN 3 k z fun a k=>oE h fun Ba Ak h=>sv k z (r_ixa (Enc.ow_rd Al) Ak k ts36 z z z) fun a k=>sv k z (r_fa fa158_5 k z z) fun a k=>s_ste (α:=Item) (sz:=7) (y:={ Ba with fClass:=w64 ((w64 ((w64 ((w64 ((w64 (Aa + 1)) + 1)) + 1)) + 1)) + 1) }) sizeOf3 Ak m 0 Al 5 k z z z z z z z z z z z z fun Bl a k e m Ai=>?_
     have k:=k.keep [0,1,5] z
     refine nn (wr (pN 3 k z fun a k=>nn (wr (pN 3 k z fun a k=>oE h fun At Ay h=>sv k z (r_ixa (Enc.ow_rd Ai) Ay k ts36 z z z) fun a k=>sv k z (r_fa fa158_6 k z z) fun a k=>s_ste (α:=Item) (sz:=7) (y:={ At with fCount:=w64 ((w64 ((w64 ((w64 ((w64 ((w64 (Aa + 1)) + 1)) + 1)) + 1)) + 1)) + 1) }) sizeOf3 Ay m 0 Ai 6 k z z z z z z z z z z z z fun Bc a k e m Bd=>nn (wp_region_lit (pN 3 k z fun a k=>wpList_nil (nm_block (nm_then ?_))))))))
     refine wp_region_lit (pN 3 k z fun a k=>nn ?_)
     exact ⟨setx (setx (setx (setx (setx (setx (setx Ad Ab ({ Am with fId:=Aa })) Ab ({ Ao with fW:=w64 (Aa + 1) })) Ab ({ Ah with fH:=w64 ((w64 (Aa + 1)) + 1) })) Ab ({ Bb with fD:=w64 ((w64 ((w64 (Aa + 1)) + 1)) + 1) })) Ab ({ Aw with fGram:=w64 ((w64 ((w64 ((w64 (Aa + 1)) + 1)) + 1)) + 1) })) Ab ({ Ba with fClass:=w64 ((w64 ((w64 ((w64 ((w64 (Aa + 1)) + 1)) + 1)) + 1)) + 1) })) Ab ({ At with fCount:=w64 ((w64 ((w64 ((w64 ((w64 ((w64 (Aa + 1)) + 1)) + 1)) + 1)) + 1)) + 1) }),Bc,w64 ((w64 ((w64 ((w64 ((w64 ((w64 ((w64 (Aa + 1)) + 1)) + 1)) + 1)) + 1)) + 1)) + 1),w64 (Ab + 1),k.keep [0,1,5] z,m.sel [0] z (by decide),Bd,h⟩
   refine wp_exit (ex_then (ex_then (ex_same (nm_then ?_))))
   refine wr (pN 2 k z fun a k=>nn (wp_ret ?_))
   cases h
   exact finR1 k z (RV.tmp k z) ⟨F3,z,m.ext,(fun b hb=>m.lo b (mem_fps (i:=0) z hb)),(Enc.ow_agr Ac (m.a 0 z))⟩
 exact ⟨a1,w0,Ae,0,k.keep [0,1,5] z,m.sel [0] z (by decide),Ag,h⟩
theorem c_laws_markRequest (fu:Nat) {w0:World} (a1:Request) (Ag:Int) {Ae:List Value} {F3:List Nat} (Af:ow w0 F3 Ae a1) {r:Int × Request}
    (h:d_laws_markRequest fu a1 Ag = some r) :
    Calls Tryz.prog 25 #[.agg Ae.toArray,I Ag] w0 fun e w=>∃ (H0:List Nat),e = .returned (I r.1) ∧ Ext F3 w0 w ∧ (∀ b ∈ H0,b ∈ F3 ∨ w0.heap.size ≤ b) ∧ ow w H0 Ae r.2:=by
 refine enter (vs:=[_,_]) func25 z ntmps25 z fun a k=>?_
 have m:=St.start1 w0 (Enc.rd_lt (Enc.ow_rd Af)) (Enc.ow_nd Af)
 obtain ⟨v6,F7,v9,Ax,Ao,Bc,rfl,rfl,Ai,Aq,Ar,_⟩:=Af
 have m:=m.split2
 have m:=m.split2at1
 unfold d_laws_markRequest at h
 refine wr (s_box (cs:=[I a1.fWay,I a1.fPallet.fW,I a1.fPallet.fD,I a1.fPallet.fH,I a1.fPallet.fGram,I a1.fClasses,v6,v9,I a1.fMaster,Ao]) m k z z z z z z fun Bg Ba a k m e Ac=>pN 1 k z fun a k=>nn (wr (sv k z (r_fa fa38_3 k z z) fun a k=>sv k z (r_ldb t134 m 0 Ac 6 k z z z z z) fun a k=>pN 1 k z fun a k=>oE h fun Ay Aj h=>s_call k call95 z z z z z (c_laws_markPairS fu _ _ (Enc.ow_agr Ai (m.a 1 z)) Aj) fun Az Bb hR=>?_)))
 obtain ⟨Am,rfl,e,Ap,Aa⟩:=hR
 refine ⟨_,z,fun a k=>?_⟩
 have m:=m.mut 1 z e _ (fun b hb=>⟨Ap b hb,Enc.rd_lt (Enc.ow_rd Aa) b hb⟩) (Enc.ow_nd Aa)
 refine pN 1 k z fun a k=>nn (wr (sv k z (r_fa fa38_4 k z z) fun a k=>sv k z (r_ldb t135 m 0 Ac 7 k z z z z z) fun a k=>pN 1 k z fun a k=>oE h fun Av At h=>s_call k call96 z z z z z (c_laws_markTypeS fu _ _ (Enc.ow_agr Aq (m.a 2 z)) At) fun Bf Be hR=>?_))
 obtain ⟨Au,rfl,e,As,Ad⟩:=hR
 refine ⟨_,z,fun a k=>?_⟩
 have m:=m.mut 2 z e _ (fun b hb=>⟨As b hb,Enc.rd_lt (Enc.ow_rd Ad) b hb⟩) (Enc.ow_nd Ad)
 refine pN 1 k z fun a k=>nn (wr (sv k z (r_fa fa38_6 k z z) fun a k=>sv k z (r_ldb t136 m 0 Ac 9 k z z z z z) fun a k=>pN 1 k z fun a k=>oE h fun Bh Al h=>s_call k call97 z z z z z (c_laws_markItemS fu _ _ (Enc.ow_agr Ar (m.a 3 z)) Al) fun Bd Aw hR=>?_))
 obtain ⟨Ak,rfl,e,Ah,Ab⟩:=hR
 refine ⟨_,z,fun a k=>?_⟩
 have m:=m.mut 3 z e _ (fun b hb=>⟨Ah b hb,Enc.rd_lt (Enc.ow_rd Ab) b hb⟩) (Enc.ow_nd Ab)
 refine pN 1 k z fun a k=>nn (wr (pN 2 k z fun a k=>nn (wp_ret ?_)))
 cases h
 exact finR1 k z (RV.tmp k z) ⟨Am ++ (Au ++ (Ak)),z,m.ext,(fun b hb=>(m.sel [1,2,3] z (by decide)).lo b (by simpa [fps] using hb)),⟨_,_,_,_,_,_,z,z,(Enc.ow_agr Aa (m.a 1 z)),(Enc.ow_agr Ad (m.a 2 z)),(Enc.ow_agr Ab (m.a 3 z)),by simpa [fps] using (m.sel [1,2,3] z (by decide)).nd⟩⟩
theorem c_laws_markIntS (fu:Nat) {w0:World} (a1:List Int) (Ag:Int) {v2:Value} {F3:List Nat} (Af:ow w0 F3 [v2] a1) {r:Int × (List Int)}
    (h:d_laws_markIntS fu a1 Ag = some r) :
    Calls Tryz.prog 44 #[v2,I Ag] w0 fun e w=>∃ (H0:List Nat),e = .returned (I r.1) ∧ Ext F3 w0 w ∧ (∀ b ∈ H0,b ∈ F3 ∨ w0.heap.size ≤ b) ∧ ow w H0 [v2] r.2:=by
 refine enter (vs:=[_,_]) func44 z ntmps44 z fun a k=>?_
 have m:=St.start1 w0 (Enc.rd_lt (Enc.ow_rd Af)) (Enc.ow_nd Af)
 unfold d_laws_markIntS at h
 refine wr (pN 1 k z fun a k=>nn (wp_seq (wr (pN 1 k z fun a k=>nn (wp_block (c_loop (fun n a w=>∃ (Ad:List Int) (Ae:World) (Aa:Int) (Ab:Int),K 19 [(0,v2),(1,I Aa),(5,I Ab)] a ∧ St F3 w0 w [(F3,Ae)] ∧ ow Ae F3 [v2] Ad ∧ d_laws_markIntS_L1 fu  n Ad Aa Ab = some r) ?_ ?_ fu _ _ ?_))))))
 · rintro a w ⟨_,_,_,_,_,_,_,h⟩
   exact nS h
 · rintro Am a Ao ⟨Ad,Ae,Aa,Ab,k,m,Ac,h⟩
   rw [d_laws_markIntS_L1_s] at h
   unfold d_laws_markIntS_L1_B at h
   refine wp_seq (wr (pN 2 k z fun a k=>sv k z (r_len (α:=Int) (Enc.ow_rd Ac) k underlying63 z z) fun a k=>pN 1 k z fun a k=>nn (cI h k z (fun Ai h=>?_) fun Ai h=>?_)))
   · refine wp_skip (nm_then ?_)
     refine wp_seq (wp_block (wr (pN 3 k z fun a k=>oE h fun Al Ah h=>sv k z (r_ixa (Enc.ow_rd Ac) Ah k ts63 z z z) fun a k=>s_ste (α:=Int) (sz:=1) (y:=Aa) sizeOf3 Ah m 0 Ac 0 k z z z z z z z z z z z z fun Aj a k e m Ak=>nn (wp_region_lit (pN 3 k z fun a k=>wpList_nil (nm_block (nm_then ?_)))))))
     refine wp_region_lit (pN 3 k z fun a k=>nn ?_)
     exact ⟨setx Ad Ab Aa,Aj,w64 (Aa + 1),w64 (Ab + 1),k.keep [0,1,5] z,m.sel [0] z (by decide),Ak,h⟩
   refine wp_exit (ex_then (ex_then (ex_same (nm_then ?_))))
   refine wr (pN 2 k z fun a k=>nn (wp_ret ?_))
   cases h
   exact finR1 k z (RV.tmp k z) ⟨F3,z,m.ext,(fun b hb=>m.lo b (mem_fps (i:=0) z hb)),(Enc.ow_agr Ac (m.a 0 z))⟩
 exact ⟨a1,w0,Ag,0,k.keep [0,1,5] z,m.sel [0] z (by decide),Af,h⟩
theorem c_laws_markCartonS (fu:Nat) {w0:World} (a1:List Carton) (Aq:Int) {v2:Value} {F3:List Nat} (Am:ow w0 F3 [v2] a1) {r:Int × (List Carton)}
    (h:d_laws_markCartonS fu a1 Aq = some r) :
    Calls Tryz.prog 134 #[v2,I Aq] w0 fun e w=>∃ (H0:List Nat),e = .returned (I r.1) ∧ Ext F3 w0 w ∧ (∀ b ∈ H0,b ∈ F3 ∨ w0.heap.size ≤ b) ∧ ow w H0 [v2] r.2:=by
 refine enter (vs:=[_,_]) func134 z ntmps134 z fun a k=>?_
 have m:=St.start1 w0 (Enc.rd_lt (Enc.ow_rd Am)) (Enc.ow_nd Am)
 unfold d_laws_markCartonS at h
 refine wr (pN 1 k z fun a k=>nn (wp_seq (wr (pN 1 k z fun a k=>nn (wp_block (c_loop (fun n a w=>∃ (Ah:List Carton) (Ap:World) (Ag:List Nat) (Aa:Int) (Ab:Int),K 34 [(0,v2),(1,I Aa),(5,I Ab)] a ∧ St F3 w0 w [(Ag,Ap)] ∧ ow Ap Ag [v2] Ah ∧ d_laws_markCartonS_L1 fu  n Ah Aa Ab = some r) ?_ ?_ fu _ _ ?_))))))
 · rintro a w ⟨_,_,_,_,_,_,_,_,h⟩
   exact nS h
 · rintro Co a Bz ⟨Ah,Ap,Ag,Aa,Ab,k,m,Af,h⟩
   rw [d_laws_markCartonS_L1_s] at h
   unfold d_laws_markCartonS_L1_B at h
   refine wp_seq (wr (pN 2 k z fun a k=>sv k z (r_len (α:=Carton) (Enc.ow_rd Af) k underlying55 z z) fun a k=>pN 1 k z fun a k=>nn (cI h k z (fun Bi h=>?_) fun Bi h=>?_)))
   · refine wp_skip (nm_then ?_)
     refine wp_seq (wp_block (wr (pN 3 k z fun a k=>oE h fun Ad As h=>sv k z (r_ixa (Enc.ow_rd Af) As k ts55 z z z) fun a k=>sv k z (r_fa fa83_0 k z z) fun a k=>?_)))
     obtain ⟨Cw,Cy,Cz,Bq,Bj,Cn⟩:=rd_get (Enc.ow_rd Af) (ix_some As).2.2
     obtain ⟨Al,_,rfl,rfl,Cs⟩:=Bq
     obtain ⟨Ck,Bw,m,Bs,Bd⟩:=m.opn 0 z Af As Bj z (M':=[]) z
     obtain ⟨Bp,_,Bu,rfl,Cd,_⟩:=Bd
     obtain rfl:Al = Bp:=by simpa using Bu
     refine s_stH (α:=Carton) (sz:=3) (cs':=[I Aa,I Ad.fGroup,Al]) sizeOf3 m 0 Bs 0 k z z z z z z z z z (allc z alln) z z fun Bk a k e m Az=>?_
     obtain ⟨Cq,m,Ai⟩:=(m.sel [0,1] z (by decide)).cls Az (show ow Bz Bw [I Aa,I Ad.fGroup,Al] ((⟨Aa,Ad.fGroup,Ad.fUnits⟩:Carton):Carton) from ⟨_,_,z,z,Cd,(m.ndF 1 z)⟩)
     refine nn (wr (pN 3 k z fun a k=>nn (wr (pN 3 k z fun a k=>oE h fun Ae Ar h=>sv k z (r_ixa (Enc.ow_rd Ai) Ar k ts55 z z z) fun a k=>sv k z (r_fa fa83_1 k z z) fun a k=>?_))))
     obtain ⟨Cl,Cx,Ci,Cc,Ce,Cp⟩:=rd_get (Enc.ow_rd Ai) (ix_some Ar).2.2
     obtain ⟨Ao,_,rfl,rfl,Cg⟩:=Cc
     obtain ⟨Cv,Ay,m,Bv,Bo⟩:=m.opn 0 z Ai Ar Ce z (M':=[]) z
     obtain ⟨Br,_,Bl,rfl,Bb,_⟩:=Bo
     obtain rfl:Ao = Br:=by simpa using Bl
     refine s_stH (α:=Carton) (sz:=3) (cs':=[I Ae.fType,I (w64 (Aa + 1)),Ao]) sizeOf3 m 0 Bv 1 k z z z z z z z z z (allc z alln) z z fun Da a k e m Be=>?_
     obtain ⟨Cm,m,Au⟩:=(m.sel [0,1] z (by decide)).cls Be (show ow Bk Ay [I Ae.fType,I (w64 (Aa + 1)),Ao] ((⟨Ae.fType,w64 (Aa + 1),Ae.fUnits⟩:Carton):Carton) from ⟨_,_,z,z,Bb,(m.ndF 1 z)⟩)
     refine nn (wr (pN 3 k z fun a k=>nn (wp_region_lit (pN 2 k z fun a k=>oE h fun Ac Ak h=>sv k z (r_ixa (Enc.ow_rd Au) Ak k ts55 z z z) fun a k=>sv k z (r_fa fa83_2 k z z) fun a k=>?_))))
     obtain ⟨Db,Cr,Cj,Ba,Ax,Bc⟩:=rd_get (Enc.ow_rd Au) (ix_some Ak).2.2
     obtain ⟨Aw,_,rfl,rfl,Ch⟩:=Ba
     refine sv k z (r_ld1 t163 ((Ax.agr (m.a 0 z) Bc).fld 2 1 (Nat.le_of_ble_eq_true z)) k z z) fun a k=>pN 1 k z fun a k=>?_
     obtain ⟨Ct,Cf,m,Bm,Bg⟩:=m.opn 0 z Au Ak Ax z (M':=[]) z
     obtain ⟨Cb,_,Ca,rfl,Bh,_⟩:=Bg
     obtain rfl:Aw = Cb:=by simpa using Ca
     refine oE h fun At By h=>s_call k call44 z z z z z (c_laws_markIntS fu _ _ (Enc.ow_agr Bh (m.a 1 z)) By) fun Cu Av hR=>?_
     obtain ⟨Bf,rfl,e,Bt,Aj⟩:=hR
     refine ⟨_,z,fun a k=>?_⟩
     have m:=m.mut 1 z e _ (fun b hb=>⟨Bt b hb,Enc.rd_lt (Enc.ow_rd Aj) b hb⟩) (Enc.ow_nd Aj)
     obtain ⟨Bx,m,Bn⟩:=(m.sel [0,1] z (by decide)).cls Bm (show ow Av Bf [I Ac.fType,I Ac.fGroup,Aw] ((⟨Ac.fType,Ac.fGroup,At.2⟩:Carton):Carton) from ⟨_,_,z,z,Aj,(m.ndF 1 z)⟩)
     refine pN 1 k z fun a k=>?_
     have k:=k.keep [0,1,5] z
     refine wpList_nil (nm_block (nm_then ?_))
     refine wp_region_lit (pN 3 k z fun a k=>nn ?_)
     exact ⟨setx (setx (setx Ah Ab ((⟨Aa,Ad.fGroup,Ad.fUnits⟩:Carton))) Ab ((⟨Ae.fType,w64 (Aa + 1),Ae.fUnits⟩:Carton))) Ab ((⟨Ac.fType,Ac.fGroup,At.2⟩:Carton)),Av,Bx,At.1,w64 (Ab + 1),k.keep [0,1,5] z,m.sel [0] z (by decide),Bn,h⟩
   refine wp_exit (ex_then (ex_then (ex_same (nm_then ?_))))
   refine wr (pN 2 k z fun a k=>nn (wp_ret ?_))
   cases h
   exact finR1 k z (RV.tmp k z) ⟨Ag,z,m.ext,(fun b hb=>m.lo b (mem_fps (i:=0) z hb)),(Enc.ow_agr Af (m.a 0 z))⟩
 exact ⟨a1,w0,F3,Aq,0,k.keep [0,1,5] z,m.sel [0] z (by decide),Am,h⟩
theorem c_laws_markSpotS (fu:Nat) {w0:World} (a1:List Spot) (Af:Int) {v2:Value} {F3:List Nat} (Ag:ow w0 F3 [v2] a1) {r:Int × (List Spot)}
    (h:d_laws_markSpotS fu a1 Af = some r) :
    Calls Tryz.prog 135 #[v2,I Af] w0 fun e w=>∃ (H0:List Nat),e = .returned (I r.1) ∧ Ext F3 w0 w ∧ (∀ b ∈ H0,b ∈ F3 ∨ w0.heap.size ≤ b) ∧ ow w H0 [v2] r.2:=by
 refine enter (vs:=[_,_]) func135 z ntmps135 z fun a k=>?_
 have m:=St.start1 w0 (Enc.rd_lt (Enc.ow_rd Ag)) (Enc.ow_nd Ag)
 unfold d_laws_markSpotS at h
 refine wr (pN 1 k z fun a k=>nn (wp_seq (wr (pN 1 k z fun a k=>nn (wp_block (c_loop (fun n a w=>∃ (Ac:List Spot) (Ae:World) (Aa:Int) (Ab:Int),K 41 [(0,v2),(1,I Aa),(5,I Ab)] a ∧ St F3 w0 w [(F3,Ae)] ∧ ow Ae F3 [v2] Ac ∧ d_laws_markSpotS_L1 fu  n Ac Aa Ab = some r) ?_ ?_ fu _ _ ?_))))))
 · rintro a w ⟨_,_,_,_,_,_,_,h⟩
   exact nS h
 · rintro Ax a Aw ⟨Ac,Ae,Aa,Ab,k,m,Ad,h⟩
   rw [d_laws_markSpotS_L1_s] at h
   unfold d_laws_markSpotS_L1_B at h
   refine wp_seq (wr (pN 2 k z fun a k=>sv k z (r_len (α:=Spot) (Enc.ow_rd Ad) k underlying56 z z) fun a k=>pN 1 k z fun a k=>nn (cI h k z (fun Av h=>?_) fun Av h=>?_)))
   · refine wp_skip (nm_then ?_)
     refine wp_seq (wp_block (wr (pN 3 k z fun a k=>oE h fun Aj Aq h=>sv k z (r_ixa (Enc.ow_rd Ad) Aq k ts56 z z z) fun a k=>sv k z (r_fa fa89_0 k z z) fun a k=>s_ste (α:=Spot) (sz:=4) (y:={ Aj with fPallet:=Aa }) sizeOf3 Aq m 0 Ad 0 k z z z z z z z z z z z z fun Ba a k e m Ah=>nn (wr (pN 3 k z fun a k=>nn (wr (pN 3 k z fun a k=>oE h fun As Am h=>sv k z (r_ixa (Enc.ow_rd Ah) Am k ts56 z z z) fun a k=>sv k z (r_fa fa89_1 k z z) fun a k=>s_ste (α:=Spot) (sz:=4) (y:={ As with fX:=w64 (Aa + 1) }) sizeOf3 Am m 0 Ah 1 k z z z z z z z z z z z z fun Ay a k e m Ao=>nn (wr (pN 3 k z fun a k=>nn (wr (pN 3 k z fun a k=>oE h fun Ap Ar h=>?_)))))))))))
     refine sv k z (r_ixa (Enc.ow_rd Ao) Ar k ts56 z z z) fun a k=>sv k z (r_fa fa89_2 k z z) fun a k=>s_ste (α:=Spot) (sz:=4) (y:={ Ap with fY:=w64 ((w64 (Aa + 1)) + 1) }) sizeOf3 Ar m 0 Ao 2 k z z z z z z z z z z z z fun Az a k e m Al=>?_
     have k:=k.keep [0,1,5] z
     refine nn (wr (pN 3 k z fun a k=>nn (wr (pN 3 k z fun a k=>oE h fun Ai Ak h=>sv k z (r_ixa (Enc.ow_rd Al) Ak k ts56 z z z) fun a k=>sv k z (r_fa fa89_3 k z z) fun a k=>s_ste (α:=Spot) (sz:=4) (y:={ Ai with fZ:=w64 ((w64 ((w64 (Aa + 1)) + 1)) + 1) }) sizeOf3 Ak m 0 Al 3 k z z z z z z z z z z z z fun Au a k e m At=>nn (wp_region_lit (pN 3 k z fun a k=>wpList_nil (nm_block (nm_then ?_))))))))
     refine wp_region_lit (pN 3 k z fun a k=>nn ?_)
     exact ⟨setx (setx (setx (setx Ac Ab ({ Aj with fPallet:=Aa })) Ab ({ As with fX:=w64 (Aa + 1) })) Ab ({ Ap with fY:=w64 ((w64 (Aa + 1)) + 1) })) Ab ({ Ai with fZ:=w64 ((w64 ((w64 (Aa + 1)) + 1)) + 1) }),Au,w64 ((w64 ((w64 ((w64 (Aa + 1)) + 1)) + 1)) + 1),w64 (Ab + 1),k.keep [0,1,5] z,m.sel [0] z (by decide),At,h⟩
   refine wp_exit (ex_then (ex_then (ex_same (nm_then ?_))))
   refine wr (pN 2 k z fun a k=>nn (wp_ret ?_))
   cases h
   exact finR1 k z (RV.tmp k z) ⟨F3,z,m.ext,(fun b hb=>m.lo b (mem_fps (i:=0) z hb)),(Enc.ow_agr Ad (m.a 0 z))⟩
 exact ⟨a1,w0,Af,0,k.keep [0,1,5] z,m.sel [0] z (by decide),Ag,h⟩
theorem c_laws_markPlan (fu:Nat) {w0:World} (a1:Plan) (Ae:Int) {Ab:List Value} {F3:List Nat} (Ac:ow w0 F3 Ab a1) {r:Int × Plan}
    (h:d_laws_markPlan fu a1 Ae = some r) :
    Calls Tryz.prog 43 #[.agg Ab.toArray,I Ae] w0 fun e w=>∃ (H0:List Nat),e = .returned (I r.1) ∧ Ext F3 w0 w ∧ (∀ b ∈ H0,b ∈ F3 ∨ w0.heap.size ≤ b) ∧ ow w H0 Ab r.2:=by
 refine enter (vs:=[_,_]) func43 z ntmps43 z fun a k=>?_
 have m:=St.start1 w0 (Enc.rd_lt (Enc.ow_rd Ac)) (Enc.ow_nd Ac)
 obtain ⟨v6,F7,v9,Ap,rfl,rfl,Ag,Ak,_⟩:=Ac
 have m:=m.split2
 unfold d_laws_markPlan at h
 refine wr (s_box (cs:=[v6,v9]) m k z z z z z z fun Au As a k m e Af=>pN 1 k z fun a k=>nn (wr (sv k z (r_fa fa58_0 k z z) fun a k=>sv k z (r_ldb t155 m 0 Af 0 k z z z z z) fun a k=>pN 1 k z fun a k=>oE h fun Aw Ai h=>s_call k call134 z z z z z (c_laws_markCartonS fu _ _ (Enc.ow_agr Ag (m.a 1 z)) Ai) fun Aq Ax hR=>?_)))
 obtain ⟨Ah,rfl,e,Am,Ad⟩:=hR
 refine ⟨_,z,fun a k=>?_⟩
 have m:=m.mut 1 z e _ (fun b hb=>⟨Am b hb,Enc.rd_lt (Enc.ow_rd Ad) b hb⟩) (Enc.ow_nd Ad)
 refine pN 1 k z fun a k=>nn (wr (sv k z (r_fa fa58_1 k z z) fun a k=>sv k z (r_ldb t156 m 0 Af 1 k z z z z z) fun a k=>pN 1 k z fun a k=>oE h fun At Al h=>s_call k call135 z z z z z (c_laws_markSpotS fu _ _ (Enc.ow_agr Ak (m.a 2 z)) Al) fun Av Ar hR=>?_))
 obtain ⟨Aj,rfl,e,Ao,Aa⟩:=hR
 refine ⟨_,z,fun a k=>?_⟩
 have m:=m.mut 2 z e _ (fun b hb=>⟨Ao b hb,Enc.rd_lt (Enc.ow_rd Aa) b hb⟩) (Enc.ow_nd Aa)
 refine pN 1 k z fun a k=>nn (wr (pN 2 k z fun a k=>nn (wp_ret ?_)))
 cases h
 exact finR1 k z (RV.tmp k z) ⟨Ah ++ (Aj),z,m.ext,(fun b hb=>(m.sel [1,2] z (by decide)).lo b (by simpa [fps] using hb)),⟨_,_,_,_,z,z,(Enc.ow_agr Ad (m.a 1 z)),(Enc.ow_agr Aa (m.a 2 z)),by simpa [fps] using (m.sel [1,2] z (by decide)).nd⟩⟩
theorem c_laws_heldIntS (fu:Nat) {w0:World} (a1:List Int) (Ad:Int) {v2:Value} {F3:List Nat} (Ab:rd w0 F3 [v2] a1) {r:Int}
    (h:d_laws_heldIntS fu a1 Ad = some r) :
    Calls Tryz.prog 98 #[v2,I Ad] w0 fun e w=>e = .returned (I r) ∧ Ext [] w0 w:=by
 refine enter (vs:=[_,_]) func98 z ntmps98 z fun a k=>?_
 have m:=St.start w0
 unfold d_laws_heldIntS at h
 refine wr (pN 1 k z fun a k=>nn (wp_seq (wr (pN 1 k z fun a k=>nn (wp_block (c_loop (fun n a w=>∃ (Aa:Int) (Ac:Int),K 21 [(0,v2),(1,I Aa),(5,I Ac)] a ∧ St [] w0 w [] ∧ d_laws_heldIntS_L1 fu a1 n Aa Ac = some r) ?_ ?_ fu _ _ ?_))))))
 · rintro a w ⟨_,_,_,_,h⟩
   exact nS h
 · rintro Ah a Aj ⟨Aa,Ac,k,m,h⟩
   rw [d_laws_heldIntS_L1_s] at h
   unfold d_laws_heldIntS_L1_B at h
   refine wp_seq (wr (pN 2 k z fun a k=>sv k z (r_len (α:=Int) Ab k underlying63 z z) fun a k=>pN 1 k z fun a k=>nn (cI h k z (fun Ag h=>?_) fun Ag h=>?_)))
   · refine wp_skip (nm_then ?_)
     refine wp_seq (wp_block (wp_seq (wr (pN 2 k z fun a k=>oE h fun Ai Ae h=>sv k z (r_ixa Ab Ae k ts63 z z z) fun a k=>sv k z (r_lde1 Ab (m.a00 (Enc.rd_lt Ab)) Ae 0 t13 k z z z z) fun a k=>pN 2 k z fun a k=>nn (cI h k z (fun Af h=>?_) fun Af h=>?_)))))
     · refine wr (pN 1 k z fun a k=>nn (wp_ret (rt_then (rt_block (rt_then (rt_then (rt_block (rt_then ?_))))))))
       refine fS h k m z z
     refine wp_skip (nm_then ?_)
     refine wp_region_lit (pN 3 k z fun a k=>wpList_nil (nm_block (nm_then ?_)))
     refine wp_region_lit (pN 3 k z fun a k=>nn ?_)
     exact ⟨w64 (Aa + 1),w64 (Ac + 1),k.keep [0,1,5] z,m.sel [] z (by decide),h⟩
   refine wp_exit (ex_then (ex_then (ex_same (nm_then ?_))))
   refine wr (pN 2 k z fun a k=>nn (wp_ret (fS h k m z z)))
 exact ⟨Ad,0,k.keep [0,1,5] z,m.sel [] z (by decide),h⟩
theorem c_laws_heldCartonS (fu:Nat) {w0:World} (a1:List Carton) (Ad:Int) {v2:Value} {F3:List Nat} (Aa:rd w0 F3 [v2] a1) {r:Int}
    (h:d_laws_heldCartonS fu a1 Ad = some r) :
    Calls Tryz.prog 136 #[v2,I Ad] w0 fun e w=>e = .returned (I r) ∧ Ext [] w0 w:=by
 refine enter (vs:=[_,_]) func136 z ntmps136 z fun a k=>?_
 have m:=St.start w0
 unfold d_laws_heldCartonS at h
 refine wr (pN 1 k z fun a k=>nn (wp_seq (wr (pN 1 k z fun a k=>nn (wp_block (c_loop (fun n a w=>∃ (Ag:Int) (Ab:Int),K 40 [(0,v2),(1,I Ag),(5,I Ab)] a ∧ St [] w0 w [] ∧ d_laws_heldCartonS_L1 fu a1 n Ag Ab = some r) ?_ ?_ fu _ _ ?_))))))
 · rintro a w ⟨_,_,_,_,h⟩
   exact nS h
 · rintro Au a Az ⟨Ag,Ab,k,m,h⟩
   rw [d_laws_heldCartonS_L1_s] at h
   unfold d_laws_heldCartonS_L1_B at h
   refine wp_seq (wr (pN 2 k z fun a k=>sv k z (r_len (α:=Carton) Aa k underlying55 z z) fun a k=>pN 1 k z fun a k=>nn (cI h k z (fun Aj h=>?_) fun Aj h=>?_)))
   · refine wp_skip (nm_then ?_)
     refine wp_seq (wp_block (wp_seq (wr (pN 2 k z fun a k=>oE h fun Bb Ac h=>sv k z (r_ixa Aa Ac k ts55 z z z) fun a k=>sv k z (r_fa fa83_0 k z z) fun a k=>?_))))
     obtain ⟨Ar,Aw,At,Am,Ae,Af⟩:=rd_get Aa (ix_some Ac).2.2
     obtain ⟨Ay,_,rfl,rfl,Ah⟩:=Am
     refine sv k z (r_ld1 t13 ((Ae.agr (m.a00 (Enc.rd_lt Aa)) Af).fld 0 1 (Nat.le_of_ble_eq_true z)) k z z) fun a k=>pN 2 k z fun a k=>nn (cI h k z (fun Ai h=>?_) fun Ai h=>?_)
     · refine wr (pN 1 k z fun a k=>nn (wp_ret (rt_then (rt_block (rt_then (rt_then (rt_block (rt_then ?_))))))))
       refine fS h k m z z
     refine wp_skip (nm_then ?_)
     refine wr (pN 3 k z fun a k=>nn (wp_seq (wr (pN 2 k z fun a k=>oE h fun Ax As h=>sv k z (r_ixa Aa Ac k ts55 z z z) fun a k=>sv k z (r_fa fa83_1 k z z) fun a k=>sv k z (r_ld1 t13 ((Ae.agr (m.a00 (Enc.rd_lt Aa)) Af).fld 1 1 (Nat.le_of_ble_eq_true z)) k z z) fun a k=>pN 2 k z fun a k=>nn (cI h k z (fun Ao h=>?_) fun Ao h=>?_)))))
     · refine wr (pN 1 k z fun a k=>nn (wp_ret (rt_then (rt_block (rt_then (rt_then (rt_block (rt_then ?_))))))))
       refine fS h k m z z
     refine wp_skip (nm_then ?_)
     refine wr (pN 3 k z fun a k=>nn (wr (pN 2 k z fun a k=>oE h fun Aq Ba h=>sv k z (r_ixa Aa Ac k ts55 z z z) fun a k=>sv k z (r_fa fa83_2 k z z) fun a k=>sv k z (r_ld1 t163 ((Ae.agr (m.a00 (Enc.rd_lt Aa)) Af).fld 2 1 (Nat.le_of_ble_eq_true z)) k z z) fun a k=>pN 1 k z fun a k=>oE h fun Ak Al h=>cE k m call98 z z z (c_laws_heldIntS fu _ _ (Enc.rd_agr Ah (m.a00 (Enc.rd_lt Ah))) Al) fun Av e a k m=>pN 1 k z fun a k=>?_)))
     have k:=k.keep [0,1,5] z
     refine nn (wr (pN 2 k z fun a k=>nn (cI h k z (fun Ap h=>?_) fun Ap h=>?_)))
     · refine wr (pN 1 k z fun a k=>nn (wp_ret (rt_block (rt_then (rt_then (rt_block (rt_then ?_)))))))
       refine fS h k m z z
     refine wp_skip (nm_block (nm_then ?_))
     refine wp_region_lit (pN 3 k z fun a k=>nn ?_)
     exact ⟨Ak,w64 (Ab + 1),k.keep [0,1,5] z,m.sel [] z (by decide),h⟩
   refine wp_exit (ex_then (ex_then (ex_same (nm_then ?_))))
   refine wr (pN 2 k z fun a k=>nn (wp_ret (fS h k m z z)))
 exact ⟨Ad,0,k.keep [0,1,5] z,m.sel [] z (by decide),h⟩
theorem c_laws_heldSpotS (fu:Nat) {w0:World} (a1:List Spot) (Ae:Int) {v2:Value} {F3:List Nat} (Aa:rd w0 F3 [v2] a1) {r:Int}
    (h:d_laws_heldSpotS fu a1 Ae = some r) :
    Calls Tryz.prog 137 #[v2,I Ae] w0 fun e w=>e = .returned (I r) ∧ Ext [] w0 w:=by
 refine enter (vs:=[_,_]) func137 z ntmps137 z fun a k=>?_
 have m:=St.start w0
 unfold d_laws_heldSpotS at h
 refine wr (pN 1 k z fun a k=>nn (wp_seq (wr (pN 1 k z fun a k=>nn (wp_block (c_loop (fun n a w=>∃ (Ad:Int) (Ac:Int),K 49 [(0,v2),(1,I Ad),(5,I Ac)] a ∧ St [] w0 w [] ∧ d_laws_heldSpotS_L1 fu a1 n Ad Ac = some r) ?_ ?_ fu _ _ ?_))))))
 · rintro a w ⟨_,_,_,_,h⟩
   exact nS h
 · rintro Al a At ⟨Ad,Ac,k,m,h⟩
   rw [d_laws_heldSpotS_L1_s] at h
   unfold d_laws_heldSpotS_L1_B at h
   refine wp_seq (wr (pN 2 k z fun a k=>sv k z (r_len (α:=Spot) Aa k underlying56 z z) fun a k=>pN 1 k z fun a k=>nn (cI h k z (fun Af h=>?_) fun Af h=>?_)))
   · refine wp_skip (nm_then ?_)
     refine wp_seq (wp_block (wp_seq (wr (pN 2 k z fun a k=>oE h fun Aq Ab h=>sv k z (r_ixa Aa Ab k ts56 z z z) fun a k=>sv k z (r_fa fa89_0 k z z) fun a k=>sv k z (r_lde1 Aa (m.a00 (Enc.rd_lt Aa)) Ab 0 t13 k z z z z) fun a k=>pN 2 k z fun a k=>nn (cI h k z (fun Aj h=>?_) fun Aj h=>?_)))))
     · refine wr (pN 1 k z fun a k=>nn (wp_ret (rt_then (rt_block (rt_then (rt_then (rt_block (rt_then ?_))))))))
       refine fS h k m z z
     refine wp_skip (nm_then ?_)
     refine wr (pN 3 k z fun a k=>nn (wp_seq (wr (pN 2 k z fun a k=>oE h fun Ao Ak h=>sv k z (r_ixa Aa Ab k ts56 z z z) fun a k=>sv k z (r_fa fa89_1 k z z) fun a k=>sv k z (r_lde1 Aa (m.a00 (Enc.rd_lt Aa)) Ab 1 t13 k z z z z) fun a k=>pN 2 k z fun a k=>nn (cI h k z (fun Ah h=>?_) fun Ah h=>?_)))))
     · refine wr (pN 1 k z fun a k=>nn (wp_ret (rt_then (rt_block (rt_then (rt_then (rt_block (rt_then ?_))))))))
       refine fS h k m z z
     refine wp_skip (nm_then ?_)
     refine wr (pN 3 k z fun a k=>nn (wp_seq (wr (pN 2 k z fun a k=>oE h fun Am Ap h=>sv k z (r_ixa Aa Ab k ts56 z z z) fun a k=>sv k z (r_fa fa89_2 k z z) fun a k=>sv k z (r_lde1 Aa (m.a00 (Enc.rd_lt Aa)) Ab 2 t13 k z z z z) fun a k=>pN 2 k z fun a k=>?_))))
     have k:=k.keep [0,1,5,36] z
     refine nn (cI h k z (fun Ai h=>?_) fun Ai h=>?_)
     · refine wr (pN 1 k z fun a k=>nn (wp_ret (rt_then (rt_block (rt_then (rt_then (rt_block (rt_then ?_))))))))
       refine fS h k m z z
     refine wp_skip (nm_then ?_)
     refine wr (pN 3 k z fun a k=>nn (wp_seq (wr (pN 2 k z fun a k=>oE h fun Ar As h=>sv k z (r_ixa Aa Ab k ts56 z z z) fun a k=>sv k z (r_fa fa89_3 k z z) fun a k=>sv k z (r_lde1 Aa (m.a00 (Enc.rd_lt Aa)) Ab 3 t13 k z z z z) fun a k=>pN 2 k z fun a k=>nn (cI h k z (fun Ag h=>?_) fun Ag h=>?_)))))
     · refine wr (pN 1 k z fun a k=>nn (wp_ret (rt_then (rt_block (rt_then (rt_then (rt_block (rt_then ?_))))))))
       refine fS h k m z z
     refine wp_skip (nm_then ?_)
     refine wp_region_lit (pN 3 k z fun a k=>wpList_nil (nm_block (nm_then ?_)))
     refine wp_region_lit (pN 3 k z fun a k=>nn ?_)
     exact ⟨w64 ((w64 ((w64 ((w64 (Ad + 1)) + 1)) + 1)) + 1),w64 (Ac + 1),k.keep [0,1,5] z,m.sel [] z (by decide),h⟩
   refine wp_exit (ex_then (ex_then (ex_same (nm_then ?_))))
   refine wr (pN 2 k z fun a k=>nn (wp_ret (fS h k m z z)))
 exact ⟨Ae,0,k.keep [0,1,5] z,m.sel [] z (by decide),h⟩
theorem c_laws_heldPlan (fu:Nat) {w0:World} (a1:Plan) (Ae:Int) {Ab:List Value} {F3:List Nat} (Ah:rd w0 F3 Ab a1) {r:Int}
    (h:d_laws_heldPlan fu a1 Ae = some r) :
    Calls Tryz.prog 45 #[.agg Ab.toArray,I Ae] w0 fun e w=>e = .returned (I r) ∧ Ext [] w0 w:=by
 refine enter (vs:=[_,_]) func45 z ntmps45 z fun a k=>?_
 have m:=St.start w0
 obtain ⟨v6,F7,v8,F9,rfl,rfl,Aa,Ad⟩:=Ah
 unfold d_laws_heldPlan at h
 refine wr (s_box (cs:=[v6,v8]) m k z z z z z z fun Al Ak a k m e Ac=>pN 1 k z fun a k=>nn (wr (sv k z (r_fa fa58_0 k z z) fun a k=>sv k z (r_ldb t155 m 0 Ac 0 k z z z z z) fun a k=>pN 1 k z fun a k=>oE h fun Ao Ai h=>cE k m call136 z z z (c_laws_heldCartonS fu _ _ (Enc.rd_agr Aa (m.a00 (Enc.rd_lt Aa))) Ai) fun Ap e a k m=>pN 1 k z fun a k=>nn (wp_seq (wr (pN 2 k z fun a k=>nn (cI h k z (fun Ag h=>?_) fun Ag h=>?_)))))))
 · refine wr (pN 1 k z fun a k=>nn (wp_ret (rt_then ?_)))
   refine fS h k m z z
 refine wp_skip (nm_then ?_)
 refine wr (sv k z (r_fa fa58_1 k z z) fun a k=>sv k z (r_ldb t156 m 0 Ac 1 k z z z z z) fun a k=>pN 1 k z fun a k=>oE h fun Aq Aj h=>cE k m call137 z z z (c_laws_heldSpotS fu _ _ (Enc.rd_agr Ad (m.a00 (Enc.rd_lt Ad))) Aj) fun Am e a k m=>pN 1 k z fun a k=>nn (wp_seq (wr (pN 2 k z fun a k=>nn (cI h k z (fun Af h=>?_) fun Af h=>?_)))))
 · refine wr (pN 1 k z fun a k=>nn (wp_ret (rt_then ?_)))
   refine fS h k m z z
 refine wp_skip (nm_then ?_)
 refine wr (pN 2 k z fun a k=>nn (wp_ret (fS h k m z z)))
theorem c_laws_FnExactDropped (fu:Nat) {w0:World} (Aa:Request) (Aj:Plan) {Hb:List Value} {F3:List Nat} (Ja:rd w0 F3 Hb Aa) {Gm:List Value} {F7:List Nat} (Jj:rd w0 F7 Gm Aj) {r:Bool}
    (h:d_laws_FnExactDropped fu Aa Aj = some r) :
    Calls Tryz.prog 11 #[.agg Hb.toArray,.agg Gm.toArray] w0 fun e w=>e = .returned (.bool (r)) ∧ Ext [] w0 w:=by
 refine enter (vs:=[_,_]) func11 z ntmps11 z fun a k=>?_
 have m:=St.start w0
 obtain ⟨v9,Rm,Am,Vf,Ap,Ra,rfl,rfl,Ag,Ai,Ah⟩:=Ja
 obtain ⟨Ak,Ua,Al,Wg,rfl,rfl,Ae,Af⟩:=Jj
 unfold d_laws_FnExactDropped at h
 refine wr (s_box (cs:=[I Aa.fWay,I Aa.fPallet.fW,I Aa.fPallet.fD,I Aa.fPallet.fH,I Aa.fPallet.fGram,I Aa.fClasses,v9,Am,I Aa.fMaster,Ap]) m k z z z z z z fun Cc Es a k m e Bf=>s_box (cs:=[Ak,Al]) m k z z z z z z fun Bz Hw a k m e Bk=>pN 1 k z fun a k=>nn (wr (pN 1 k z fun a k=>nn (wr (sv k z (r_ldB ta28 m 1 Bf 0 k z z z z z z) fun a k=>pN 1 k z fun a k=>oE h fun Vv Ng h=>?_)))))
 refine cE k m call15 z z z (c_laws_szRequest fu _ _ (show rd _ _ [I Aa.fWay,I Aa.fPallet.fW,I Aa.fPallet.fD,I Aa.fPallet.fH,I Aa.fPallet.fGram,I Aa.fClasses,v9,Am,I Aa.fMaster,Ap] (Aa:Request) from ⟨_,_,_,_,_,_,z,z,(Enc.rd_agr Ag (m.a00 (Enc.rd_lt Ag))),(Enc.rd_agr Ai (m.a00 (Enc.rd_lt Ai))),(Enc.rd_agr Ah (m.a00 (Enc.rd_lt Ah)))⟩) Ng) fun Wl e a k m=>pN 1 k z fun a k=>nn (wp_seq (wr (pN 2 k z fun a k=>nn (cI h k z (fun Ot h=>?_) fun Ot h=>?_))))
 · refine wr (pN 1 k z fun a k=>nn (wp_ret (rt_then ?_)))
   refine fS h k m z z
 refine wp_skip (nm_then ?_)
 refine wr (sv k z (r_ldB ta52 m 0 Bk 0 k z z z z z z) fun a k=>pN 1 k z fun a k=>oE h fun Se Lh h=>cE k m call32 z z z (c_laws_szPlan fu _ _ (show rd _ _ [Ak,Al] (Aj:Plan) from ⟨_,_,_,_,z,z,(Enc.rd_agr Ae (m.a00 (Enc.rd_lt Ae))),(Enc.rd_agr Af (m.a00 (Enc.rd_lt Af)))⟩) Lh) fun Uy e a k m=>pN 1 k z fun a k=>nn (wp_seq (wr (pN 2 k z fun a k=>nn (cI h k z (fun Oc h=>?_) fun Oc h=>?_)))))
 · refine wr (pN 1 k z fun a k=>nn (wp_ret (rt_then ?_)))
   refine fS h k m z z
 refine wp_skip (nm_then ?_)
 refine c_cut (fun a w=>∃ (Au:List Carton) (Ay:Value) (Bm:List Nat) (Be:World) (As:List Spot) (Ax:Value) (Az:List Nat) (Bb:World) (At:Nat) (Bi:World),K 92 [(2,.pointer (some (⟨Cc,0,none⟩:Addr))),(3,.pointer (some (⟨Bz,0,none⟩:Addr))),(6,.pointer (some (⟨At,0,none⟩:Addr)))] a ∧ St [] w0 w [([Cc],Es),([Bz],Hw),(Bm,Be),(Az,Bb),([At],Bi)] ∧ ow Be Bm [Ay] Au ∧ ow Bb Az [Ax] As ∧ bx Bi At [Ay,Ax] 58 ∧ d_laws_FnExactDropped_J3 fu Aa Aj Au As = some r) ?_ ?_
 · rintro a Sw ⟨Au,Ay,Bm,Be,As,Ax,Az,Bb,At,Bi,k,m,Dj,Ck,Dh,h⟩
   unfold d_laws_FnExactDropped_J3 at h
   refine wr (sv k z (r_ldB ta28 m 0 Bf 0 k z z z z z z) fun a k=>oE h fun Ab Oz h=>s_call k call18 z z z z z (c_laws_toRequest fu _ (show rd _ _ [I Aa.fWay,I Aa.fPallet.fW,I Aa.fPallet.fD,I Aa.fPallet.fH,I Aa.fPallet.fGram,I Aa.fClasses,v9,Am,I Aa.fMaster,Ap] (Aa:Request) from ⟨_,_,_,_,_,_,z,z,(Enc.rd_agr Ag (m.a00 (Enc.rd_lt Ag))),(Enc.rd_agr Ai (m.a00 (Enc.rd_lt Ai))),(Enc.rd_agr Ah (m.a00 (Enc.rd_lt Ah)))⟩) Oz) fun Ut Wp hR=>?_)
   obtain ⟨Qs,Jt,rfl,e,Ds,Ju⟩:=hR
   refine ⟨_,z,fun a k=>?_⟩
   have m:=m.new e Jt (fun b hb=>⟨Ju b hb,Enc.rd_lt (Enc.ow_rd Ds) b hb⟩) (Enc.ow_nd Ds)
   obtain ⟨Bg,Kv,Bl,Is,Bc,Mg,rfl,rfl,Ca,Bv,Cb,_⟩:=Ds
   have m:=m.split2
   have m:=m.split2at1
   refine s_alloc (cs:=[I 0,I 0,I 0,I 0,I 0,I 0,.slice none 0 0,.slice none 0 0,I 0,.slice none 0 0]) m k zeroValue38 z z z z z fun Wa Wc a k m e Kg=>s_stb (cs':=[I Ab.fWay,I Ab.fPallet.fW,I Ab.fPallet.fD,I Ab.fPallet.fH,I Ab.fPallet.fGram,I Ab.fClasses,Bg,Bl,I Ab.fMaster,Bc]) sizeOf38 m 0 Kg 0 k z z z z z z z z z z (allc z (allc z (allc z (allc z (allc z (allc z (allc (rd_o (Enc.ow_rd Ca)) (allc (rd_o (Enc.ow_rd Bv)) (allc z (allc (rd_o (Enc.ow_rd Cb)) alln)))))))))) fun Qq a k e m Dn=>nn (wr (sv k z (r_ldB ta52 m 5 Bk 0 k z z z z z z) fun a k=>oE h fun Dp Mz h=>?_))
   refine s_call k call34 z z z z z (c_laws_toPlan fu _ (show rd _ _ [Ak,Al] (Aj:Plan) from ⟨_,_,_,_,z,z,(Enc.rd_agr Ae (m.a00 (Enc.rd_lt Ae))),(Enc.rd_agr Af (m.a00 (Enc.rd_lt Af)))⟩) Mz) fun Uw Ss hR=>?_
   obtain ⟨Tu,Nt,rfl,e,Ce,Jv⟩:=hR
   refine ⟨_,z,fun a k=>?_⟩
   have m:=m.new e Nt (fun b hb=>⟨Jv b hb,Enc.rd_lt (Enc.ow_rd Ce) b hb⟩) (Enc.ow_nd Ce)
   obtain ⟨Ba,Ps,Bd,Ln,rfl,rfl,Bp,Cd,_⟩:=Ce
   have m:=m.split2
   refine s_alloc (cs:=[.slice none 0 0,.slice none 0 0]) m k zeroValue58 z z z z z fun Sb Rl a k m e Ox=>s_stb (cs':=[Ba,Bd]) sizeOf58 m 0 Ox 0 k z z z z z z z z z z (allc (rd_o (Enc.ow_rd Bp)) (allc (rd_o (Enc.ow_rd Cd)) alln)) fun Tf a k e m Cw=>nn (wr (sv k z (r_ldB ta38 m 3 Dn 0 k z z z z z z) fun a k=>sv k z (r_ldB ta58 m 0 Cw 0 k z z z z z z) fun a k=>oE h fun Bn Oh h=>?_))
   refine s_call k call49 z z z z z (c_impl_Dropped fu _ _ (show rd _ _ [I Ab.fWay,I Ab.fPallet.fW,I Ab.fPallet.fD,I Ab.fPallet.fH,I Ab.fPallet.fGram,I Ab.fClasses,Bg,Bl,I Ab.fMaster,Bc] (Ab:Request) from ⟨_,_,_,_,_,_,z,z,(Enc.rd_agr (Enc.ow_rd Ca) (m.a 4 z)),(Enc.rd_agr (Enc.ow_rd Bv) (m.a 5 z)),(Enc.rd_agr (Enc.ow_rd Cb) (m.a 6 z))⟩) (show rd _ _ [Ba,Bd] (Dp:Plan) from ⟨_,_,_,_,z,z,(Enc.rd_agr (Enc.ow_rd Bp) (m.a 1 z)),(Enc.rd_agr (Enc.ow_rd Cd) (m.a 2 z))⟩) Oh) fun Uf Hh hR=>?_
   obtain ⟨Wx,Lp,rfl,e,Dv,La⟩:=hR
   refine ⟨_,z,fun a k=>?_⟩
   have m:=m.new e Lp (fun b hb=>⟨La b hb,Enc.rd_lt (Enc.ow_rd Dv) b hb⟩) (Enc.ow_nd Dv)
   obtain ⟨Av,Gy,Aw,Hm,rfl,rfl,Bq,Bs,_⟩:=Dv
   have m:=m.split2
   refine s_alloc (cs:=[.slice none 0 0,.slice none 0 0]) m k zeroValue58 z z z z z fun By Ro a k m e Pg=>s_stb (cs':=[Av,Aw]) sizeOf58 m 0 Pg 0 k z z z z z z z z z z (allc (rd_o (Enc.ow_rd Bq)) (allc (rd_o (Enc.ow_rd Bs)) alln)) fun Hd a k e m Bh=>nn (wp_seq (wr (sv k z (r_ldB ta58 m 0 Bh 0 k z z z z z z) fun a k=>sv k z (r_ldB ta58 m 14 Dh 0 k z z z z z z) fun a k=>oE h fun Rw Ji h=>?_)))
   refine cE k m call36 z z z (c_laws_eqPlan fu _ _ (show rd _ _ [Av,Aw] (Bn:Plan) from ⟨_,_,_,_,z,z,(Enc.rd_agr (Enc.ow_rd Bq) (m.a 1 z)),(Enc.rd_agr (Enc.ow_rd Bs) (m.a 2 z))⟩) (show rd _ _ [Ay,Ax] ((⟨Au,As⟩:Plan):Plan) from ⟨_,_,_,_,z,z,(Enc.rd_agr (Enc.ow_rd Dj) (m.a 12 z)),(Enc.rd_agr (Enc.ow_rd Ck) (m.a 13 z))⟩) Ji) fun Wi e a k m=>pN 1 k z fun a k=>nn (cI h k z (fun Pa h=>?_) fun Pa h=>?_)
   · refine wr (pN 1 k z fun a k=>nn (wp_ret (rt_then ?_)))
     refine fS h k m z z
   refine wp_skip (nm_then ?_)
   refine wp_seq (wp_seq (d_go [] mixo m z fun Me hMd=>?_))
   have m:=hMd
   have s:=Ext.refl ([]:List Nat) Me
   refine dt k 0 z (by kernel_rfl) z s (fun _ _ _=>id) (fun w s=>r_ldA ta38 (Dn.at ((hMd.step s).a 6 z) 0 10 z z z) z k z z) fun a k=>dt k 1 z (by kernel_rfl) z s (fun _ _ _=>id) (fun w s=>r_ldA ta28 (Bf.at ((hMd.step s).a 10 z) 0 10 z z z) z k z z) fun a k=>d_one 2 (by kernel_rfl) z (oE h fun Ar Mx h=>s_call k call18 z z z z z (c_laws_toRequest fu _ (show rd _ _ [I Aa.fWay,I Aa.fPallet.fW,I Aa.fPallet.fD,I Aa.fPallet.fH,I Aa.fPallet.fGram,I Aa.fClasses,v9,Am,I Aa.fMaster,Ap] (Aa:Request) from ⟨_,_,_,_,_,_,z,z,(Enc.rd_agr Ag (m.a00 (Enc.rd_lt Ag))),(Enc.rd_agr Ai (m.a00 (Enc.rd_lt Ai))),(Enc.rd_agr Ah (m.a00 (Enc.rd_lt Ah)))⟩) Mx) fun Tl Sz hR=>?_)
   obtain ⟨Qz,Er,rfl,e,Dr,He⟩:=hR
   refine ⟨_,z,fun a k=>?_⟩
   have m:=m.new e Er (fun b hb=>⟨He b hb,Enc.rd_lt (Enc.ow_rd Dr) b hb⟩) (Enc.ow_nd Dr)
   have Vl:=fun (y:Nat) (hy:y ∈ Er)=>Nat.le_trans s.size (He y hy)
   obtain ⟨Je,Vo,Ks,Vq,Lc,Wo,rfl,rfl,Nv,Ol,Mu,_⟩:=Dr
   have m:=m.split2
   have m:=m.split2at1
   have s:=s.trans e (by simp)
   refine wpList_nil ⟨s,?_⟩
   refine d_one 3 (by kernel_rfl) z (oE h fun Sk Mp h=>?_)
   refine cE k m call21 z z z (c_laws_eqRequest fu _ _ (show rd _ _ [I Ab.fWay,I Ab.fPallet.fW,I Ab.fPallet.fD,I Ab.fPallet.fH,I Ab.fPallet.fGram,I Ab.fClasses,Bg,Bl,I Ab.fMaster,Bc] (Ab:Request) from ⟨_,_,_,_,_,_,z,z,(Enc.rd_agr (Enc.ow_rd Ca) (m.a 10 z)),(Enc.rd_agr (Enc.ow_rd Bv) (m.a 11 z)),(Enc.rd_agr (Enc.ow_rd Cb) (m.a 12 z))⟩) (show rd _ _ [I Ar.fWay,I Ar.fPallet.fW,I Ar.fPallet.fD,I Ar.fPallet.fH,I Ar.fPallet.fGram,I Ar.fClasses,Je,Ks,I Ar.fMaster,Lc] (Ar:Request) from ⟨_,_,_,_,_,_,z,z,(Enc.rd_agr (Enc.ow_rd Nv) (m.a 0 z)),(Enc.rd_agr (Enc.ow_rd Ol) (m.a 1 z)),(Enc.rd_agr (Enc.ow_rd Mu) (m.a 2 z))⟩) Mp) fun Si e a k m=>?_
   have s:=s.trans e (by simp)
   refine wpList_nil ⟨s,?_⟩
   refine dN [4] 1 z k (by kernel_rfl) z s (fun _ _ _ _ _=>id) fun a k=>d_done (by kernel_rfl) ((nm_then ?_))
   refine cI h k z (fun Nb h=>?_) fun Nb h=>?_
   · refine wr (pN 1 k z fun a k=>nn (wp_ret (rt_then ?_)))
     refine fS h k m z z
   refine wp_skip (nm_then ?_)
   refine wp_seq (wp_seq (d_go [] mixo m z fun Jk hMd=>?_))
   have m:=hMd
   have s:=Ext.refl ([]:List Nat) Jk
   refine dt k 0 z (by kernel_rfl) z s (fun _ _ _=>id) (fun w s=>r_ldA ta58 (Cw.at ((hMd.step s).a 6 z) 0 2 z z z) z k z z) fun a k=>dt k 1 z (by kernel_rfl) z s (fun _ _ _=>id) (fun w s=>r_ldA ta52 (Bk.at ((hMd.step s).a 14 z) 0 2 z z z) z k z z) fun a k=>d_one 2 (by kernel_rfl) z (oE h fun Jo Pp h=>s_call k call34 z z z z z (c_laws_toPlan fu _ (show rd _ _ [Ak,Al] (Aj:Plan) from ⟨_,_,_,_,z,z,(Enc.rd_agr Ae (m.a00 (Enc.rd_lt Ae))),(Enc.rd_agr Af (m.a00 (Enc.rd_lt Af)))⟩) Pp) fun Sf Ud hR=>?_)
   obtain ⟨Sx,Id,rfl,e,Dc,Ec⟩:=hR
   refine ⟨_,z,fun a k=>?_⟩
   have m:=m.new e Id (fun b hb=>⟨Ec b hb,Enc.rd_lt (Enc.ow_rd Dc) b hb⟩) (Enc.ow_nd Dc)
   have Tb:=fun (y:Nat) (hy:y ∈ Id)=>Nat.le_trans s.size (Ec y hy)
   obtain ⟨Mm,Rs,Pt,Rb,rfl,rfl,Js,Jq,_⟩:=Dc
   have m:=m.split2
   have s:=s.trans e (by simp)
   refine wpList_nil ⟨s,?_⟩
   refine d_one 3 (by kernel_rfl) z (oE h fun Rx Iu h=>cE k m call36 z z z (c_laws_eqPlan fu _ _ (show rd _ _ [Ba,Bd] (Dp:Plan) from ⟨_,_,_,_,z,z,(Enc.rd_agr (Enc.ow_rd Bp) (m.a 9 z)),(Enc.rd_agr (Enc.ow_rd Cd) (m.a 10 z))⟩) (show rd _ _ [Mm,Pt] (Jo:Plan) from ⟨_,_,_,_,z,z,(Enc.rd_agr (Enc.ow_rd Js) (m.a 0 z)),(Enc.rd_agr (Enc.ow_rd Jq) (m.a 1 z))⟩) Iu) fun Tr e a k m=>?_)
   have s:=s.trans e (by simp)
   refine wpList_nil ⟨s,?_⟩
   refine dN [4] 1 z k (by kernel_rfl) z s (fun _ _ _ _ _=>id) fun a k=>d_done (by kernel_rfl) ?_
   have k:=k.keep [2,3,6,7,8,9,49] z
   refine (nm_then ?_)
   refine cI h k z (fun Lx h=>?_) fun Lx h=>?_
   · refine wr (pN 1 k z fun a k=>nn (wp_ret (rt_then ?_)))
     refine fS h k m z z
   refine wp_skip (nm_then ?_)
   refine wr (pN 1 k z fun a k=>nn (wr (sv k z (r_ldB ta38 m 11 Dn 0 k z z z z z z) fun a k=>pN 1 k z fun a k=>?_)))
   have Qf:ow _ (Kv ++ (Is ++ (Mg))) [I Ab.fWay,I Ab.fPallet.fW,I Ab.fPallet.fD,I Ab.fPallet.fH,I Ab.fPallet.fGram,I Ab.fClasses,Bg,Bl,I Ab.fMaster,Bc] (Ab:Request):=⟨_,_,_,_,_,_,z,z,(Enc.ow_agr Ca (m.a 12 z)),(Enc.ow_agr Bv (m.a 13 z)),(Enc.ow_agr Cb (m.a 14 z)),by simpa [fps] using (m.sel [12,13,14] z (by decide)).nd⟩
   have m:=m.sel [12,13,14,0,1,2,3,4,5,6,7,8,9,10,11,15,16,17,18,19] z (by decide)
   have m:=m.join3
   refine oE h fun Tp Qc h=>s_call k call25 z z z z z (c_laws_markRequest fu _ _ Qf Qc) fun We Vy hR=>?_
   obtain ⟨Va,rfl,e,Lt,Da⟩:=hR
   refine ⟨_,z,fun a k=>?_⟩
   have m:=m.mut 0 z e _ (fun b hb=>⟨Lt b hb,Enc.rd_lt (Enc.ow_rd Da) b hb⟩) (Enc.ow_nd Da)
   obtain ⟨Mi,Tm,Nu,Vs,Pr,Vr,Cm,rfl,Vi,Qu,Sy,_⟩:=Da
   have m:=m.toFront 0 z
   have m:=m.split2
   have m:=m.split2at1
   have Jl:Bg = Mi:=by have:=congrArg (fun l:List Value=>l[6]?) Cm; simpa using this
   subst Jl
   have Py:Bl = Nu:=by have:=congrArg (fun l:List Value=>l[7]?) Cm; simpa using this
   subst Py
   have Ir:Bc = Pr:=by have:=congrArg (fun l:List Value=>l[9]?) Cm; simpa using this
   subst Ir
   refine pN 1 k z fun a k=>nn (wr (sv k z (r_ldB ta58 m 11 Cw 0 k z z z z z z) fun a k=>pN 1 k z fun a k=>?_))
   have Pd:ow _ (Ps ++ (Ln)) [Ba,Bd] (Dp:Plan):=⟨_,_,_,_,z,z,(Enc.ow_agr Bp (m.a 12 z)),(Enc.ow_agr Cd (m.a 13 z)),by simpa [fps] using (m.sel [12,13] z (by decide)).nd⟩
   have m:=m.sel [12,13,0,1,2,3,4,5,6,7,8,9,10,11,14,15,16,17,18,19] z (by decide)
   have m:=m.join2
   refine oE h fun Jc Ov h=>s_call k call43 z z z z z (c_laws_markPlan fu _ _ Pd Ov) fun Sa Wy hR=>?_
   obtain ⟨Rh,rfl,e,Oq,Du⟩:=hR
   refine ⟨_,z,fun a k=>?_⟩
   have m:=m.mut 0 z e _ (fun b hb=>⟨Oq b hb,Enc.rd_lt (Enc.ow_rd Du) b hb⟩) (Enc.ow_nd Du)
   obtain ⟨Lq,Rt,Qd,Sm,Fl,rfl,Sr,Rj,_⟩:=Du
   have m:=m.toFront 0 z
   have m:=m.split2
   have Lr:Ba = Lq:=by have:=congrArg (fun l:List Value=>l[0]?) Fl; simpa using this
   subst Lr
   have Ll:Bd = Qd:=by have:=congrArg (fun l:List Value=>l[1]?) Fl; simpa using this
   subst Ll
   refine pN 1 k z fun a k=>nn (c_cut (fun a w=>K 92 [(2,.pointer (some (⟨Cc,0,none⟩:Addr))),(3,.pointer (some (⟨Bz,0,none⟩:Addr))),(6,.pointer (some (⟨At,0,none⟩:Addr))),(9,.pointer (some (⟨By,0,none⟩:Addr)))] a ∧ St [] w0 w [([Cc],Es),([Bz],Hw),([At],Bi),([By],Hd),(Bm,Be),(Az,Bb),(Gy,Hh),(Hm,Hh)] ∧ d_laws_FnExactDropped_J2 fu Aa Aj Au As Bn = some r) ?_ ?_)
   · rintro a Vu ⟨k,m,h⟩
     unfold d_laws_FnExactDropped_J2 at h
     refine wr (pN 1 k z fun a k=>nn (wr (sv k z (r_ldB ta58 m 3 Bh 0 k z z z z z z) fun a k=>pN 1 k z fun a k=>?_)))
     have Qb:ow _ (Gy ++ (Hm)) [Av,Aw] (Bn:Plan):=⟨_,_,_,_,z,z,(Enc.ow_agr Bq (m.a 6 z)),(Enc.ow_agr Bs (m.a 7 z)),by simpa [fps] using (m.sel [6,7] z (by decide)).nd⟩
     have m:=m.sel [6,7,0,1,2,3,4,5] z (by decide)
     have m:=m.join2
     refine oE h fun Br Kb h=>s_call k call43 z z z z z (c_laws_markPlan fu _ _ Qb Kb) fun Vc Fw hR=>?_
     obtain ⟨Wk,rfl,e,Jp,Cr⟩:=hR
     refine ⟨_,z,fun a k=>?_⟩
     have m:=m.mut 0 z e _ (fun b hb=>⟨Jp b hb,Enc.rd_lt (Enc.ow_rd Cr) b hb⟩) (Enc.ow_nd Cr)
     obtain ⟨Mj,Of,Mq,Pm,Fx,rfl,In,Fv,_⟩:=Cr
     have m:=m.toFront 0 z
     have m:=m.split2
     have Pc:Av = Mj:=by have:=congrArg (fun l:List Value=>l[0]?) Fx; simpa using this
     subst Pc
     have Mn:Aw = Mq:=by have:=congrArg (fun l:List Value=>l[1]?) Fx; simpa using this
     subst Mn
     refine pN 1 k z fun a k=>nn (wr (pN 1 k z fun a k=>nn (wr (sv k z (r_ldB ta58 m 5 Bh 0 k z z z z z z) fun a k=>pN 1 k z fun a k=>oE h fun Qk Iq h=>cE k m call45 z z z (c_laws_heldPlan fu _ _ (show rd _ _ [Av,Aw] (Br.2:Plan) from ⟨_,_,_,_,z,z,(Enc.rd_agr (Enc.ow_rd In) (m.a 0 z)),(Enc.rd_agr (Enc.ow_rd Fv) (m.a 1 z))⟩) Iq) fun Qm e a k m=>pN 1 k z fun a k=>nn (wp_seq (wr (pN 2 k z fun a k=>nn (cI h k z (fun Mh h=>?_) fun Mh h=>?_))))))))
     · refine wr (pN 1 k z fun a k=>nn (wp_ret (rt_then ?_)))
       refine fS h k m z z
     refine wp_skip (nm_then ?_)
     refine wp_seq (wr (pN 3 k z fun a k=>nn (cI h k z (fun Iy h=>?_) fun Iy h=>?_)))
     · refine wr (pN 1 k z fun a k=>nn (wp_ret (rt_then ?_)))
       refine fS h k m z z
     refine wp_skip (nm_then ?_)
     refine c_cut (fun a w=>∃ (Bw:List Carton) (Bt:Value) (Co:List Nat) (Dq:World) (Bo:List Spot) (Bu:Value) (Dy:List Nat) (Ci:World) (Bx:Nat) (Df:World),K 92 [(6,.pointer (some (⟨At,0,none⟩:Addr))),(9,.pointer (some (⟨By,0,none⟩:Addr))),(11,I Br.1),(13,.pointer (some (⟨Bx,0,none⟩:Addr)))] a ∧ St [] w0 w [([At],Bi),([By],Hd),(Bm,Be),(Az,Bb),(Of,Fw),(Pm,Fw),(Co,Dq),(Dy,Ci),([Bx],Df)] ∧ ow Dq Co [Bt] Bw ∧ ow Ci Dy [Bu] Bo ∧ bx Df Bx [Bt,Bu] 58 ∧ d_laws_FnExactDropped_J1 fu Au As Br Bw Bo = some r) ?_ ?_
     · rintro a Ts ⟨Bw,Bt,Co,Dq,Bo,Bu,Dy,Ci,Bx,Df,k,m,Ky,Oi,Mf,h⟩
       unfold d_laws_FnExactDropped_J1 at h
       refine wp_seq (wr (sv k z (r_ldB ta58 m 8 Mf 0 k z z z z z z) fun a k=>sv k z (r_ldB ta58 m 0 Dh 0 k z z z z z z) fun a k=>oE h fun Rp Nw h=>cE k m call36 z z z (c_laws_eqPlan fu _ _ (show rd _ _ [Bt,Bu] ((⟨Bw,Bo⟩:Plan):Plan) from ⟨_,_,_,_,z,z,(Enc.rd_agr (Enc.ow_rd Ky) (m.a 6 z)),(Enc.rd_agr (Enc.ow_rd Oi) (m.a 7 z))⟩) (show rd _ _ [Ay,Ax] ((⟨Au,As⟩:Plan):Plan) from ⟨_,_,_,_,z,z,(Enc.rd_agr (Enc.ow_rd Dj) (m.a 2 z)),(Enc.rd_agr (Enc.ow_rd Ck) (m.a 3 z))⟩) Nw) fun Uj e a k m=>pN 1 k z fun a k=>nn (cI h k z (fun Og h=>?_) fun Og h=>?_)))
       · refine wr (pN 1 k z fun a k=>nn (wp_ret (rt_then ?_)))
         refine fS h k m z z
       refine wp_skip (nm_then ?_)
       refine wr (pN 1 k z fun a k=>nn (wr (sv k z (r_ldB ta58 m 1 Bh 0 k z z z z z z) fun a k=>pN 1 k z fun a k=>oE h fun Vz Kz h=>cE k m call45 z z z (c_laws_heldPlan fu _ _ (show rd _ _ [Av,Aw] (Br.2:Plan) from ⟨_,_,_,_,z,z,(Enc.rd_agr (Enc.ow_rd In) (m.a 4 z)),(Enc.rd_agr (Enc.ow_rd Fv) (m.a 5 z))⟩) Kz) fun Sn e a k m=>pN 1 k z fun a k=>nn (wp_seq (wr (pN 2 k z fun a k=>nn (cI h k z (fun Nj h=>?_) fun Nj h=>?_)))))))
       · refine wr (pN 1 k z fun a k=>nn (wp_ret (rt_then ?_)))
         refine fS h k m z z
       refine wp_skip (nm_then ?_)
       refine wp_seq (wr (pN 3 k z fun a k=>nn (cI h k z (fun Mv h=>?_) fun Mv h=>?_)))
       · refine wr (pN 1 k z fun a k=>nn (wp_ret (rt_then ?_)))
         refine fS h k m z z
       refine wp_skip (nm_then ?_)
       refine wr (pN 1 k z fun a k=>nn (wp_ret (fS h k m z z)))
     refine d_go [] mixo m z fun Kp hMd=>?_
     have m:=hMd
     have s:=Ext.refl ([]:List Nat) Kp
     refine dt k 0 z (by kernel_rfl) z s (fun _ _ _=>id) (fun w s=>r_ldA ta28 (Bf.at ((hMd.step s).a 2 z) 0 10 z z z) z k z z) fun a k=>dt k 2 z (by kernel_rfl) z s (fun _ _ _=>id) (fun w s=>r_ldA ta52 (Bk.at ((hMd.step s).a 3 z) 0 2 z z z) z k z z) fun a k=>d_two 1 5 (by kernel_rfl) z z ?_ ?_ 
     · refine oE h fun Ad Np h=>s_call k call18 z z z z z (c_laws_toRequest fu _ (show rd _ _ [I Aa.fWay,I Aa.fPallet.fW,I Aa.fPallet.fD,I Aa.fPallet.fH,I Aa.fPallet.fGram,I Aa.fClasses,v9,Am,I Aa.fMaster,Ap] (Aa:Request) from ⟨_,_,_,_,_,_,z,z,(Enc.rd_agr Ag (m.a00 (Enc.rd_lt Ag))),(Enc.rd_agr Ai (m.a00 (Enc.rd_lt Ai))),(Enc.rd_agr Ah (m.a00 (Enc.rd_lt Ah)))⟩) Np) fun Wm Rc hR=>?_
       obtain ⟨Tk,Ev,rfl,e,Dz,Fm⟩:=hR
       refine ⟨_,z,fun a k=>?_⟩
       have m:=m.new e Ev (fun b hb=>⟨Fm b hb,Enc.rd_lt (Enc.ow_rd Dz) b hb⟩) (Enc.ow_nd Dz)
       have Wb:=fun (y:Nat) (hy:y ∈ Ev)=>Nat.le_trans s.size (Fm y hy)
       obtain ⟨Cg,Uz,Db,Vg,Dk,Sv,rfl,rfl,Cz,Dl,Dw,_⟩:=Dz
       have m:=m.split2
       have m:=m.split2at1
       have s:=s.trans e (by simp)
       refine wpList_nil ⟨s,?_⟩
       refine d_two 3 5 (by kernel_rfl) z z ?_ ?_ 
       · refine oE h fun Eg Kx h=>s_call k call34 z z z z z (c_laws_toPlan fu _ (show rd _ _ [Ak,Al] (Aj:Plan) from ⟨_,_,_,_,z,z,(Enc.rd_agr Ae (m.a00 (Enc.rd_lt Ae))),(Enc.rd_agr Af (m.a00 (Enc.rd_lt Af)))⟩) Kx) fun Td Ta hR=>?_
         obtain ⟨Vm,Gi,rfl,e,Ct,Fc⟩:=hR
         refine ⟨_,z,fun a k=>?_⟩
         have m:=m.new e Gi (fun b hb=>⟨Fc b hb,Enc.rd_lt (Enc.ow_rd Ct) b hb⟩) (Enc.ow_nd Ct)
         have Sh:=fun (y:Nat) (hy:y ∈ Gi)=>Nat.le_trans s.size (Fc y hy)
         obtain ⟨Ed,Rn,Gu,Ub,rfl,rfl,Ii,Em,_⟩:=Ct
         have m:=m.split2
         have s:=s.trans e (by simp)
         refine wpList_nil ⟨s,?_⟩
         refine d_two 4 5 (by kernel_rfl) z z ?_ ?_ 
         · refine oE h fun Ey Qi h=>s_call k call49 z z z z z (c_impl_Dropped fu _ _ (show rd _ _ [I Ad.fWay,I Ad.fPallet.fW,I Ad.fPallet.fD,I Ad.fPallet.fH,I Ad.fPallet.fGram,I Ad.fClasses,Cg,Db,I Ad.fMaster,Dk] (Ad:Request) from ⟨_,_,_,_,_,_,z,z,(Enc.rd_agr (Enc.ow_rd Cz) (m.a 2 z)),(Enc.rd_agr (Enc.ow_rd Dl) (m.a 3 z)),(Enc.rd_agr (Enc.ow_rd Dw) (m.a 4 z))⟩) (show rd _ _ [Ed,Gu] (Eg:Plan) from ⟨_,_,_,_,z,z,(Enc.rd_agr (Enc.ow_rd Ii) (m.a 0 z)),(Enc.rd_agr (Enc.ow_rd Em) (m.a 1 z))⟩) Qi) fun Ur Gp hR=>?_
           obtain ⟨Rf,Ib,rfl,e,Do,Ic⟩:=hR
           refine ⟨_,z,fun a k=>?_⟩
           have m:=m.new e Ib (fun b hb=>⟨Ic b hb,Enc.rd_lt (Enc.ow_rd Do) b hb⟩) (Enc.ow_nd Do)
           have Wd:=fun (y:Nat) (hy:y ∈ Ib)=>Nat.le_trans s.size (Ic y hy)
           obtain ⟨Hj,Nh,Ez,Ph,rfl,rfl,Fu,En,_⟩:=Do
           have m:=m.split2
           have s:=s.trans e (by simp)
           refine wpList_nil ⟨s,?_⟩
           refine d_one 5 (by kernel_rfl) z (s_allocN (cs:=[.slice none 0 0,.slice none 0 0]) m k zeroValue58 z z z z z fun Ip Wr a k m e Mk Lo=>?_)
           have Lz:=lo1 (Nat.le_trans s.size Lo)
           have s:=s.trans e (by simp)
           refine wpList_nil ⟨s,?_⟩
           refine d_one 6 (by kernel_rfl) z (s_stb (cs':=[Hj,Ez]) sizeOf58 m 0 Mk 0 k z z z z z z z z z z (allc (rd_o (Enc.ow_rd Fu)) (allc (rd_o (Enc.ow_rd En)) alln)) fun Ma a k e m Oj=>?_)
           have s:=s.trans e (fun y hy=>Or.inr (Lz y hy))
           refine wpList_nil ⟨s,?_⟩
           refine d_done (by kernel_rfl) ((nm_then ?_))
           exact ⟨Ey.fCartons,Hj,Nh,Gp,Ey.fSpots,Ez,Ph,Gp,Ip,Ma,k.keep [6,9,11,13] z,m.sel [12,13,14,15,8,9,1,2,0] z (by decide),Fu,En,Oj,h⟩
         refine s_allocN (cs:=[.slice none 0 0,.slice none 0 0]) m k zeroValue58 z z z z z fun Kd Qv a k m e Kj Nm=>?_
         have Jg:=lo1 (Nat.le_trans s.size Nm)
         have s:=s.trans e (by simp)
         refine wpList_nil ⟨s,?_⟩
         refine d_one 4 (by kernel_rfl) z (oE h fun Gx Oy h=>s_call k call49 z z z z z (c_impl_Dropped fu _ _ (show rd _ _ [I Ad.fWay,I Ad.fPallet.fW,I Ad.fPallet.fD,I Ad.fPallet.fH,I Ad.fPallet.fGram,I Ad.fClasses,Cg,Db,I Ad.fMaster,Dk] (Ad:Request) from ⟨_,_,_,_,_,_,z,z,(Enc.rd_agr (Enc.ow_rd Cz) (m.a 3 z)),(Enc.rd_agr (Enc.ow_rd Dl) (m.a 4 z)),(Enc.rd_agr (Enc.ow_rd Dw) (m.a 5 z))⟩) (show rd _ _ [Ed,Gu] (Eg:Plan) from ⟨_,_,_,_,z,z,(Enc.rd_agr (Enc.ow_rd Ii) (m.a 1 z)),(Enc.rd_agr (Enc.ow_rd Em) (m.a 2 z))⟩) Oy) fun Qo Gc hR=>?_)
         obtain ⟨Tq,Il,rfl,e,Dx,Fj⟩:=hR
         refine ⟨_,z,fun a k=>?_⟩
         have m:=m.new e Il (fun b hb=>⟨Fj b hb,Enc.rd_lt (Enc.ow_rd Dx) b hb⟩) (Enc.ow_nd Dx)
         have Rk:=fun (y:Nat) (hy:y ∈ Il)=>Nat.le_trans s.size (Fj y hy)
         obtain ⟨Hq,Nn,El,Li,rfl,rfl,Im,Ge,_⟩:=Dx
         have m:=m.split2
         have s:=s.trans e (by simp)
         refine wpList_nil ⟨s,?_⟩
         refine d_one 6 (by kernel_rfl) z (s_stb (cs':=[Hq,El]) sizeOf58 m 2 Kj 0 k z z z z z z z z z z (allc (rd_o (Enc.ow_rd Im)) (allc (rd_o (Enc.ow_rd Ge)) alln)) fun Kf a k e m Ow=>?_)
         have s:=s.trans e (fun y hy=>Or.inr (Jg y hy))
         refine wpList_nil ⟨s,?_⟩
         refine d_done (by kernel_rfl) ((nm_then ?_))
         exact ⟨Gx.fCartons,Hq,Nn,Gc,Gx.fSpots,El,Li,Gc,Kd,Kf,k.keep [6,9,11,13] z,m.sel [12,13,14,15,8,9,0,1,2] z (by decide),Im,Ge,Ow,h⟩
       refine s_allocN (cs:=[.slice none 0 0,.slice none 0 0]) m k zeroValue58 z z z z z fun Jn Vh a k m e Kc Ml=>?_
       have Ob:=lo1 (Nat.le_trans s.size Ml)
       have s:=s.trans e (by simp)
       refine wpList_nil ⟨s,?_⟩
       refine d_one 3 (by kernel_rfl) z (oE h fun Le Mc h=>s_call k call34 z z z z z (c_laws_toPlan fu _ (show rd _ _ [Ak,Al] (Aj:Plan) from ⟨_,_,_,_,z,z,(Enc.rd_agr Ae (m.a00 (Enc.rd_lt Ae))),(Enc.rd_agr Af (m.a00 (Enc.rd_lt Af)))⟩) Mc) fun Ug Ui hR=>?_)
       obtain ⟨Qn,Hl,rfl,e,Cl,If⟩:=hR
       refine ⟨_,z,fun a k=>?_⟩
       have m:=m.new e Hl (fun b hb=>⟨If b hb,Enc.rd_lt (Enc.ow_rd Cl) b hb⟩) (Enc.ow_nd Cl)
       have Qy:=fun (y:Nat) (hy:y ∈ Hl)=>Nat.le_trans s.size (If y hy)
       obtain ⟨Kn,Ve,Lv,Uv,rfl,rfl,Nx,Lw,_⟩:=Cl
       have m:=m.split2
       have s:=s.trans e (by simp)
       refine wpList_nil ⟨s,?_⟩
       refine d_one 4 (by kernel_rfl) z (oE h fun Hr Mr h=>s_call k call49 z z z z z (c_impl_Dropped fu _ _ (show rd _ _ [I Ad.fWay,I Ad.fPallet.fW,I Ad.fPallet.fD,I Ad.fPallet.fH,I Ad.fPallet.fGram,I Ad.fClasses,Cg,Db,I Ad.fMaster,Dk] (Ad:Request) from ⟨_,_,_,_,_,_,z,z,(Enc.rd_agr (Enc.ow_rd Cz) (m.a 3 z)),(Enc.rd_agr (Enc.ow_rd Dl) (m.a 4 z)),(Enc.rd_agr (Enc.ow_rd Dw) (m.a 5 z))⟩) (show rd _ _ [Kn,Lv] (Le:Plan) from ⟨_,_,_,_,z,z,(Enc.rd_agr (Enc.ow_rd Nx) (m.a 0 z)),(Enc.rd_agr (Enc.ow_rd Lw) (m.a 1 z))⟩) Mr) fun Vj Ht hR=>?_)
       obtain ⟨Ry,Fa,rfl,e,Cv,Ih⟩:=hR
       refine ⟨_,z,fun a k=>?_⟩
       have m:=m.new e Fa (fun b hb=>⟨Ih b hb,Enc.rd_lt (Enc.ow_rd Cv) b hb⟩) (Enc.ow_nd Cv)
       have Vp:=fun (y:Nat) (hy:y ∈ Fa)=>Nat.le_trans s.size (Ih y hy)
       obtain ⟨Gb,Po,Ga,Kq,rfl,rfl,Hc,Hx,_⟩:=Cv
       have m:=m.split2
       have s:=s.trans e (by simp)
       refine wpList_nil ⟨s,?_⟩
       refine d_one 6 (by kernel_rfl) z (s_stb (cs':=[Gb,Ga]) sizeOf58 m 4 Kc 0 k z z z z z z z z z z (allc (rd_o (Enc.ow_rd Hc)) (allc (rd_o (Enc.ow_rd Hx)) alln)) fun Ix a k e m Pu=>?_)
       have s:=s.trans e (fun y hy=>Or.inr (Ob y hy))
       refine wpList_nil ⟨s,?_⟩
       refine d_done (by kernel_rfl) ((nm_then ?_))
       exact ⟨Hr.fCartons,Gb,Po,Ht,Hr.fSpots,Ga,Kq,Ht,Jn,Ix,k.keep [6,9,11,13] z,m.sel [12,13,14,15,8,9,0,1,4] z (by decide),Hc,Hx,Pu,h⟩
     refine s_allocN (cs:=[.slice none 0 0,.slice none 0 0]) m k zeroValue58 z z z z z fun Qe Tw a k m e Jm No=>?_
     have Mb:=lo1 (Nat.le_trans s.size No)
     have s:=s.trans e (by simp)
     refine wpList_nil ⟨s,?_⟩
     refine d_one 1 (by kernel_rfl) z (oE h fun Ao Iv h=>s_call k call18 z z z z z (c_laws_toRequest fu _ (show rd _ _ [I Aa.fWay,I Aa.fPallet.fW,I Aa.fPallet.fD,I Aa.fPallet.fH,I Aa.fPallet.fGram,I Aa.fClasses,v9,Am,I Aa.fMaster,Ap] (Aa:Request) from ⟨_,_,_,_,_,_,z,z,(Enc.rd_agr Ag (m.a00 (Enc.rd_lt Ag))),(Enc.rd_agr Ai (m.a00 (Enc.rd_lt Ai))),(Enc.rd_agr Ah (m.a00 (Enc.rd_lt Ah)))⟩) Iv) fun Ws Un hR=>?_)
     obtain ⟨Vb,Gw,rfl,e,Cy,Hz⟩:=hR
     refine ⟨_,z,fun a k=>?_⟩
     have m:=m.new e Gw (fun b hb=>⟨Hz b hb,Enc.rd_lt (Enc.ow_rd Cy) b hb⟩) (Enc.ow_nd Cy)
     have Tt:=fun (y:Nat) (hy:y ∈ Gw)=>Nat.le_trans s.size (Hz y hy)
     obtain ⟨Jx,Qx,Lj,Rz,Ny,Tv,rfl,rfl,Kk,Ls,Nf,_⟩:=Cy
     have m:=m.split2
     have m:=m.split2at1
     have s:=s.trans e (by simp)
     refine wpList_nil ⟨s,?_⟩
     refine d_one 3 (by kernel_rfl) z (oE h fun Od Nz h=>s_call k call34 z z z z z (c_laws_toPlan fu _ (show rd _ _ [Ak,Al] (Aj:Plan) from ⟨_,_,_,_,z,z,(Enc.rd_agr Ae (m.a00 (Enc.rd_lt Ae))),(Enc.rd_agr Af (m.a00 (Enc.rd_lt Af)))⟩) Nz) fun Tg Uk hR=>?_)
     obtain ⟨Ql,Fy,rfl,e,Cn,Fe⟩:=hR
     refine ⟨_,z,fun a k=>?_⟩
     have m:=m.new e Fy (fun b hb=>⟨Fe b hb,Enc.rd_lt (Enc.ow_rd Cn) b hb⟩) (Enc.ow_nd Cn)
     have Uu:=fun (y:Nat) (hy:y ∈ Fy)=>Nat.le_trans s.size (Fe y hy)
     obtain ⟨Iw,Vw,Qa,Qw,rfl,rfl,Pf,Jh,_⟩:=Cn
     have m:=m.split2
     have s:=s.trans e (by simp)
     refine wpList_nil ⟨s,?_⟩
     refine d_one 4 (by kernel_rfl) z (oE h fun Fi Pi h=>s_call k call49 z z z z z (c_impl_Dropped fu _ _ (show rd _ _ [I Ao.fWay,I Ao.fPallet.fW,I Ao.fPallet.fD,I Ao.fPallet.fH,I Ao.fPallet.fGram,I Ao.fClasses,Jx,Lj,I Ao.fMaster,Ny] (Ao:Request) from ⟨_,_,_,_,_,_,z,z,(Enc.rd_agr (Enc.ow_rd Kk) (m.a 2 z)),(Enc.rd_agr (Enc.ow_rd Ls) (m.a 3 z)),(Enc.rd_agr (Enc.ow_rd Nf) (m.a 4 z))⟩) (show rd _ _ [Iw,Qa] (Od:Plan) from ⟨_,_,_,_,z,z,(Enc.rd_agr (Enc.ow_rd Pf) (m.a 0 z)),(Enc.rd_agr (Enc.ow_rd Jh) (m.a 1 z))⟩) Pi) fun Sc Hv hR=>?_)
     obtain ⟨Uh,Ia,rfl,e,Cu,Ex⟩:=hR
     refine ⟨_,z,fun a k=>?_⟩
     have m:=m.new e Ia (fun b hb=>⟨Ex b hb,Enc.rd_lt (Enc.ow_rd Cu) b hb⟩) (Enc.ow_nd Cu)
     have Ww:=fun (y:Nat) (hy:y ∈ Ia)=>Nat.le_trans s.size (Ex y hy)
     obtain ⟨Ek,Lk,Fq,Jd,rfl,rfl,Ff,Fs,_⟩:=Cu
     have m:=m.split2
     have s:=s.trans e (by simp)
     refine wpList_nil ⟨s,?_⟩
     refine d_one 6 (by kernel_rfl) z (s_stb (cs':=[Ek,Fq]) sizeOf58 m 7 Jm 0 k z z z z z z z z z z (allc (rd_o (Enc.ow_rd Ff)) (allc (rd_o (Enc.ow_rd Fs)) alln)) fun Jr a k e m Iz=>?_)
     have s:=s.trans e (fun y hy=>Or.inr (Mb y hy))
     refine wpList_nil ⟨s,?_⟩
     refine d_done (by kernel_rfl) ((nm_then ?_))
     exact ⟨Fi.fCartons,Ek,Lk,Hv,Fi.fSpots,Fq,Jd,Hv,Qe,Jr,k.keep [6,9,11,13] z,m.sel [12,13,14,15,8,9,0,1,7] z (by decide),Ff,Fs,Iz,h⟩
   refine wr (pN 3 k z fun a k=>bsplit (decide (Jc.1 < 0)) (fun Bj=>?_) (fun Bj=>?_))
   · have h:=bif_t Bj h
     refine rB k 58 z Bj fun k=>pN 5 k z fun a k=>nn (wp_cond_true (k.ev z) (wr (pN 1 k z fun a k=>?_)))
     have k:=k.keep [4] z
     refine nn (wp_ret (rt_then ?_))
     refine fS h k m z z
   have h:=bif_f Bj h
   refine rB k 58 z Bj fun k=>sv k z (r_ldB ta58 m 10 Bh 0 k z z z z z z) fun a k=>sv k z (r_ldB ta58 m 19 Dh 0 k z z z z z z) fun a k=>oE h fun Uc Qh h=>cE k m call36 z z z (c_laws_eqPlan fu _ _ (show rd _ _ [Av,Aw] (Bn:Plan) from ⟨_,_,_,_,z,z,(Enc.rd_agr (Enc.ow_rd Bq) (m.a 11 z)),(Enc.rd_agr (Enc.ow_rd Bs) (m.a 12 z))⟩) (show rd _ _ [Ay,Ax] ((⟨Au,As⟩:Plan):Plan) from ⟨_,_,_,_,z,z,(Enc.rd_agr (Enc.ow_rd Dj) (m.a 17 z)),(Enc.rd_agr (Enc.ow_rd Ck) (m.a 18 z))⟩) Qh) fun Tc e a k m=>pN 2 k z fun a k=>nn (cI h k z (fun Mt h=>?_) fun Mt h=>?_)
   · refine wr (pN 1 k z fun a k=>?_)
     have k:=k.keep [4] z
     refine nn (wp_ret (rt_then ?_))
     refine fS h k m z z
   refine wp_skip (nm_then ?_)
   exact ⟨k.keep [2,3,6,9] z,m.sel [15,16,19,10,17,18,11,12] z (by decide),h⟩
 refine d_go [] mixo m z fun Io hMd=>?_
 have m:=hMd
 have s:=Ext.refl ([]:List Nat) Io
 refine dt k 0 z (by kernel_rfl) z s (fun _ _ _=>id) (fun w s=>r_ldA ta28 (Bf.at ((hMd.step s).a 1 z) 0 10 z z z) z k z z) fun a k=>dt k 2 z (by kernel_rfl) z s (fun _ _ _=>id) (fun w s=>r_ldA ta52 (Bk.at ((hMd.step s).a 0 z) 0 2 z z z) z k z z) fun a k=>d_two 1 5 (by kernel_rfl) z z ?_ ?_ 
 · refine oE h fun Ac Ko h=>s_call k call18 z z z z z (c_laws_toRequest fu _ (show rd _ _ [I Aa.fWay,I Aa.fPallet.fW,I Aa.fPallet.fD,I Aa.fPallet.fH,I Aa.fPallet.fGram,I Aa.fClasses,v9,Am,I Aa.fMaster,Ap] (Aa:Request) from ⟨_,_,_,_,_,_,z,z,(Enc.rd_agr Ag (m.a00 (Enc.rd_lt Ag))),(Enc.rd_agr Ai (m.a00 (Enc.rd_lt Ai))),(Enc.rd_agr Ah (m.a00 (Enc.rd_lt Ah)))⟩) Ko) fun Tj Tz hR=>?_
   obtain ⟨Tn,Ef,rfl,e,Cj,Gt⟩:=hR
   refine ⟨_,z,fun a k=>?_⟩
   have m:=m.new e Ef (fun b hb=>⟨Gt b hb,Enc.rd_lt (Enc.ow_rd Cj) b hb⟩) (Enc.ow_nd Cj)
   have Su:=fun (y:Nat) (hy:y ∈ Ef)=>Nat.le_trans s.size (Gt y hy)
   obtain ⟨Ea,Vn,Cx,Vt,Cq,Ri,rfl,rfl,De,Dd,Dg,_⟩:=Cj
   have m:=m.split2
   have m:=m.split2at1
   have s:=s.trans e (by simp)
   refine wpList_nil ⟨s,?_⟩
   refine d_two 3 5 (by kernel_rfl) z z ?_ ?_ 
   · refine oE h fun Gl Oo h=>s_call k call34 z z z z z (c_laws_toPlan fu _ (show rd _ _ [Ak,Al] (Aj:Plan) from ⟨_,_,_,_,z,z,(Enc.rd_agr Ae (m.a00 (Enc.rd_lt Ae))),(Enc.rd_agr Af (m.a00 (Enc.rd_lt Af)))⟩) Oo) fun Uo Rv hR=>?_
     obtain ⟨Up,Fp,rfl,e,Cs,Fg⟩:=hR
     refine ⟨_,z,fun a k=>?_⟩
     have m:=m.new e Fp (fun b hb=>⟨Fg b hb,Enc.rd_lt (Enc.ow_rd Cs) b hb⟩) (Enc.ow_nd Cs)
     have So:=fun (y:Nat) (hy:y ∈ Fp)=>Nat.le_trans s.size (Fg y hy)
     obtain ⟨Ig,Uq,Fb,Sj,rfl,rfl,Hg,Gn,_⟩:=Cs
     have m:=m.split2
     have s:=s.trans e (by simp)
     refine wpList_nil ⟨s,?_⟩
     refine d_two 4 5 (by kernel_rfl) z z ?_ ?_ 
     · refine oE h fun Gv Pz h=>s_call k call48 z z z z z (c_spec_Dropped fu _ _ (show rd _ _ [I Ac.fWay,I Ac.fPallet.fW,I Ac.fPallet.fD,I Ac.fPallet.fH,I Ac.fPallet.fGram,I Ac.fClasses,Ea,Cx,I Ac.fMaster,Cq] (Ac:Request) from ⟨_,_,_,_,_,_,z,z,(Enc.rd_agr (Enc.ow_rd De) (m.a 2 z)),(Enc.rd_agr (Enc.ow_rd Dd) (m.a 3 z)),(Enc.rd_agr (Enc.ow_rd Dg) (m.a 4 z))⟩) (show rd _ _ [Ig,Fb] (Gl:Plan) from ⟨_,_,_,_,z,z,(Enc.rd_agr (Enc.ow_rd Hg) (m.a 0 z)),(Enc.rd_agr (Enc.ow_rd Gn) (m.a 1 z))⟩) Pz) fun Th Ew hR=>?_
       obtain ⟨Sg,Hy,rfl,e,Dm,Ee⟩:=hR
       refine ⟨_,z,fun a k=>?_⟩
       have m:=m.new e Hy (fun b hb=>⟨Ee b hb,Enc.rd_lt (Enc.ow_rd Dm) b hb⟩) (Enc.ow_nd Dm)
       have Ti:=fun (y:Nat) (hy:y ∈ Hy)=>Nat.le_trans s.size (Ee y hy)
       obtain ⟨Gk,Om,Gz,Nr,rfl,rfl,Gf,Fz,_⟩:=Dm
       have m:=m.split2
       have s:=s.trans e (by simp)
       refine wpList_nil ⟨s,?_⟩
       refine d_one 5 (by kernel_rfl) z (s_allocN (cs:=[.slice none 0 0,.slice none 0 0]) m k zeroValue58 z z z z z fun Nk Us a k m e Pb Nd=>?_)
       have Mw:=lo1 (Nat.le_trans s.size Nd)
       have s:=s.trans e (by simp)
       refine wpList_nil ⟨s,?_⟩
       refine d_one 6 (by kernel_rfl) z (s_stb (cs':=[Gk,Gz]) sizeOf58 m 0 Pb 0 k z z z z z z z z z z (allc (rd_o (Enc.ow_rd Gf)) (allc (rd_o (Enc.ow_rd Fz)) alln)) fun Kw a k e m Pk=>?_)
       have s:=s.trans e (fun y hy=>Or.inr (Mw y hy))
       refine wpList_nil ⟨s,?_⟩
       refine d_done (by kernel_rfl) ((nm_then ?_))
       exact ⟨Gv.fCartons,Gk,Om,Ew,Gv.fSpots,Gz,Nr,Ew,Nk,Kw,k.keep [2,3,6] z,m.sel [9,8,1,2,0] z (by decide),Gf,Fz,Pk,h⟩
     refine s_allocN (cs:=[.slice none 0 0,.slice none 0 0]) m k zeroValue58 z z z z z fun Kl Rr a k m e Pw Kt=>?_
     have Ms:=lo1 (Nat.le_trans s.size Kt)
     have s:=s.trans e (by simp)
     refine wpList_nil ⟨s,?_⟩
     refine d_one 4 (by kernel_rfl) z (oE h fun Eo Kh h=>s_call k call48 z z z z z (c_spec_Dropped fu _ _ (show rd _ _ [I Ac.fWay,I Ac.fPallet.fW,I Ac.fPallet.fD,I Ac.fPallet.fH,I Ac.fPallet.fGram,I Ac.fClasses,Ea,Cx,I Ac.fMaster,Cq] (Ac:Request) from ⟨_,_,_,_,_,_,z,z,(Enc.rd_agr (Enc.ow_rd De) (m.a 3 z)),(Enc.rd_agr (Enc.ow_rd Dd) (m.a 4 z)),(Enc.rd_agr (Enc.ow_rd Dg) (m.a 5 z))⟩) (show rd _ _ [Ig,Fb] (Gl:Plan) from ⟨_,_,_,_,z,z,(Enc.rd_agr (Enc.ow_rd Hg) (m.a 1 z)),(Enc.rd_agr (Enc.ow_rd Gn) (m.a 2 z))⟩) Kh) fun Ru Gq hR=>?_)
     obtain ⟨Vk,Gj,rfl,e,Eb,Ik⟩:=hR
     refine ⟨_,z,fun a k=>?_⟩
     have m:=m.new e Gj (fun b hb=>⟨Ik b hb,Enc.rd_lt (Enc.ow_rd Eb) b hb⟩) (Enc.ow_nd Eb)
     have Qr:=fun (y:Nat) (hy:y ∈ Gj)=>Nat.le_trans s.size (Ik y hy)
     obtain ⟨Fn,Pv,Eh,Ou,rfl,rfl,Ep,Ij,_⟩:=Eb
     have m:=m.split2
     have s:=s.trans e (by simp)
     refine wpList_nil ⟨s,?_⟩
     refine d_one 6 (by kernel_rfl) z (s_stb (cs':=[Fn,Eh]) sizeOf58 m 2 Pw 0 k z z z z z z z z z z (allc (rd_o (Enc.ow_rd Ep)) (allc (rd_o (Enc.ow_rd Ij)) alln)) fun Ni a k e m Nq=>?_)
     have s:=s.trans e (fun y hy=>Or.inr (Ms y hy))
     refine wpList_nil ⟨s,?_⟩
     refine d_done (by kernel_rfl) ((nm_then ?_))
     exact ⟨Eo.fCartons,Fn,Pv,Gq,Eo.fSpots,Eh,Ou,Gq,Kl,Ni,k.keep [2,3,6] z,m.sel [9,8,0,1,2] z (by decide),Ep,Ij,Nq,h⟩
   refine s_allocN (cs:=[.slice none 0 0,.slice none 0 0]) m k zeroValue58 z z z z z fun Kr Re a k m e Ka Km=>?_
   have Md:=lo1 (Nat.le_trans s.size Km)
   have s:=s.trans e (by simp)
   refine wpList_nil ⟨s,?_⟩
   refine d_one 3 (by kernel_rfl) z (oE h fun Ke Pe h=>s_call k call34 z z z z z (c_laws_toPlan fu _ (show rd _ _ [Ak,Al] (Aj:Plan) from ⟨_,_,_,_,z,z,(Enc.rd_agr Ae (m.a00 (Enc.rd_lt Ae))),(Enc.rd_agr Af (m.a00 (Enc.rd_lt Af)))⟩) Pe) fun Tx Rg hR=>?_)
   obtain ⟨Wt,Hn,rfl,e,Cp,Gh⟩:=hR
   refine ⟨_,z,fun a k=>?_⟩
   have m:=m.new e Hn (fun b hb=>⟨Gh b hb,Enc.rd_lt (Enc.ow_rd Cp) b hb⟩) (Enc.ow_nd Cp)
   have Sq:=fun (y:Nat) (hy:y ∈ Hn)=>Nat.le_trans s.size (Gh y hy)
   obtain ⟨Pq,Wu,Px,To,rfl,rfl,Lf,Nl,_⟩:=Cp
   have m:=m.split2
   have s:=s.trans e (by simp)
   refine wpList_nil ⟨s,?_⟩
   refine d_one 4 (by kernel_rfl) z (oE h fun Hk Lu h=>s_call k call48 z z z z z (c_spec_Dropped fu _ _ (show rd _ _ [I Ac.fWay,I Ac.fPallet.fW,I Ac.fPallet.fD,I Ac.fPallet.fH,I Ac.fPallet.fGram,I Ac.fClasses,Ea,Cx,I Ac.fMaster,Cq] (Ac:Request) from ⟨_,_,_,_,_,_,z,z,(Enc.rd_agr (Enc.ow_rd De) (m.a 3 z)),(Enc.rd_agr (Enc.ow_rd Dd) (m.a 4 z)),(Enc.rd_agr (Enc.ow_rd Dg) (m.a 5 z))⟩) (show rd _ _ [Pq,Px] (Ke:Plan) from ⟨_,_,_,_,z,z,(Enc.rd_agr (Enc.ow_rd Lf) (m.a 0 z)),(Enc.rd_agr (Enc.ow_rd Nl) (m.a 1 z))⟩) Lu) fun Vx Et hR=>?_)
   obtain ⟨Qj,Fk,rfl,e,Cf,Gr⟩:=hR
   refine ⟨_,z,fun a k=>?_⟩
   have m:=m.new e Fk (fun b hb=>⟨Gr b hb,Enc.rd_lt (Enc.ow_rd Cf) b hb⟩) (Enc.ow_nd Cf)
   have Ux:=fun (y:Nat) (hy:y ∈ Fk)=>Nat.le_trans s.size (Gr y hy)
   obtain ⟨Gg,On,Hp,It,rfl,rfl,Hf,Hu,_⟩:=Cf
   have m:=m.split2
   have s:=s.trans e (by simp)
   refine wpList_nil ⟨s,?_⟩
   refine d_one 6 (by kernel_rfl) z (s_stb (cs':=[Gg,Hp]) sizeOf58 m 4 Ka 0 k z z z z z z z z z z (allc (rd_o (Enc.ow_rd Hf)) (allc (rd_o (Enc.ow_rd Hu)) alln)) fun Ku a k e m Mo=>?_)
   have s:=s.trans e (fun y hy=>Or.inr (Md y hy))
   refine wpList_nil ⟨s,?_⟩
   refine d_done (by kernel_rfl) ((nm_then ?_))
   exact ⟨Hk.fCartons,Gg,On,Et,Hk.fSpots,Hp,It,Et,Kr,Ku,k.keep [2,3,6] z,m.sel [9,8,0,1,4] z (by decide),Hf,Hu,Mo,h⟩
 refine s_allocN (cs:=[.slice none 0 0,.slice none 0 0]) m k zeroValue58 z z z z z fun Jb Ul a k m e Qg Pl=>?_
 have My:=lo1 (Nat.le_trans s.size Pl)
 have s:=s.trans e (by simp)
 refine wpList_nil ⟨s,?_⟩
 refine d_one 1 (by kernel_rfl) z (oE h fun Aq Jy h=>s_call k call18 z z z z z (c_laws_toRequest fu _ (show rd _ _ [I Aa.fWay,I Aa.fPallet.fW,I Aa.fPallet.fD,I Aa.fPallet.fH,I Aa.fPallet.fGram,I Aa.fClasses,v9,Am,I Aa.fMaster,Ap] (Aa:Request) from ⟨_,_,_,_,_,_,z,z,(Enc.rd_agr Ag (m.a00 (Enc.rd_lt Ag))),(Enc.rd_agr Ai (m.a00 (Enc.rd_lt Ai))),(Enc.rd_agr Ah (m.a00 (Enc.rd_lt Ah)))⟩) Jy) fun Vd Sl hR=>?_)
 obtain ⟨Rd,Ho,rfl,e,Ch,Ej⟩:=hR
 refine ⟨_,z,fun a k=>?_⟩
 have m:=m.new e Ho (fun b hb=>⟨Ej b hb,Enc.rd_lt (Enc.ow_rd Ch) b hb⟩) (Enc.ow_nd Ch)
 have Qt:=fun (y:Nat) (hy:y ∈ Ho)=>Nat.le_trans s.size (Ej y hy)
 obtain ⟨Ld,Um,Ki,Wv,Pn,Wh,rfl,rfl,Oa,Na,Pj,_⟩:=Ch
 have m:=m.split2
 have m:=m.split2at1
 have s:=s.trans e (by simp)
 refine wpList_nil ⟨s,?_⟩
 refine d_one 3 (by kernel_rfl) z (oE h fun Lg Jw h=>s_call k call34 z z z z z (c_laws_toPlan fu _ (show rd _ _ [Ak,Al] (Aj:Plan) from ⟨_,_,_,_,z,z,(Enc.rd_agr Ae (m.a00 (Enc.rd_lt Ae))),(Enc.rd_agr Af (m.a00 (Enc.rd_lt Af)))⟩) Jw) fun Sp Wn hR=>?_)
 obtain ⟨Qp,Eu,rfl,e,Dt,Gd⟩:=hR
 refine ⟨_,z,fun a k=>?_⟩
 have m:=m.new e Eu (fun b hb=>⟨Gd b hb,Enc.rd_lt (Enc.ow_rd Dt) b hb⟩) (Enc.ow_nd Dt)
 have Wj:=fun (y:Nat) (hy:y ∈ Eu)=>Nat.le_trans s.size (Gd y hy)
 obtain ⟨Ly,Sd,Jz,Wq,rfl,rfl,Jf,Oe,_⟩:=Dt
 have m:=m.split2
 have s:=s.trans e (by simp)
 refine wpList_nil ⟨s,?_⟩
 refine d_one 4 (by kernel_rfl) z (oE h fun Ft Lb h=>s_call k call48 z z z z z (c_spec_Dropped fu _ _ (show rd _ _ [I Aq.fWay,I Aq.fPallet.fW,I Aq.fPallet.fD,I Aq.fPallet.fH,I Aq.fPallet.fGram,I Aq.fClasses,Ld,Ki,I Aq.fMaster,Pn] (Aq:Request) from ⟨_,_,_,_,_,_,z,z,(Enc.rd_agr (Enc.ow_rd Oa) (m.a 2 z)),(Enc.rd_agr (Enc.ow_rd Na) (m.a 3 z)),(Enc.rd_agr (Enc.ow_rd Pj) (m.a 4 z))⟩) (show rd _ _ [Ly,Jz] (Lg:Plan) from ⟨_,_,_,_,z,z,(Enc.rd_agr (Enc.ow_rd Jf) (m.a 0 z)),(Enc.rd_agr (Enc.ow_rd Oe) (m.a 1 z))⟩) Lb) fun Rq Fd hR=>?_)
 obtain ⟨Te,Ie,rfl,e,Di,Ei⟩:=hR
 refine ⟨_,z,fun a k=>?_⟩
 have m:=m.new e Ie (fun b hb=>⟨Ei b hb,Enc.rd_lt (Enc.ow_rd Di) b hb⟩) (Enc.ow_nd Di)
 have Ue:=fun (y:Nat) (hy:y ∈ Ie)=>Nat.le_trans s.size (Ei y hy)
 obtain ⟨Ha,Lm,Fh,Ns,rfl,rfl,Hi,Fr,_⟩:=Di
 have m:=m.split2
 have s:=s.trans e (by simp)
 refine wpList_nil ⟨s,?_⟩
 refine d_one 6 (by kernel_rfl) z (s_stb (cs':=[Ha,Fh]) sizeOf58 m 7 Qg 0 k z z z z z z z z z z (allc (rd_o (Enc.ow_rd Hi)) (allc (rd_o (Enc.ow_rd Fr)) alln)) fun Nc a k e m Ok=>?_)
 have s:=s.trans e (fun y hy=>Or.inr (My y hy))
 refine wpList_nil ⟨s,?_⟩
 refine d_done (by kernel_rfl) ((nm_then ?_))
 exact ⟨Ft.fCartons,Ha,Lm,Fd,Ft.fSpots,Fh,Ns,Fd,Jb,Nc,k.keep [2,3,6] z,m.sel [9,8,0,1,7] z (by decide),Hi,Fr,Ok,h⟩

end Go.Proofs.YtkkfmjpbiimkbaaGreat
