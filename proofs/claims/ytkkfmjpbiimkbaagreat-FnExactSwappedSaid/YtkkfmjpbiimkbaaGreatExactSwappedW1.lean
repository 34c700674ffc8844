/- FnExactSwapped: the walks of functions that it reaches (ExactSwappedW,part 1). Printed by gen.py. -/
import Derived.Test.YtkkfmjpbiimkbaaGreatExactFeasibleBWi3
import Derived.Test.YtkkfmjpbiimkbaaGreatExactFeasibleBWs3
import Derived.Test.YtkkfmjpbiimkbaaGreatExactFeasibleBWl1
import Derived.Test.YtkkfmjpbiimkbaaGreatExactSwappedD
set_option maxRecDepth 20000
set_option linter.unusedSimpArgs false
set_option linter.unusedVariables false
namespace Go.Proofs.YtkkfmjpbiimkbaaGreat
open Go Go.RowKit
open Enc (rd ow)
open Arg (argv)
open Ret (retv)
open Go.Proofs.Tryz

theorem bt83:BT Tryz.prog 83 [I 0,I 0,.slice none 0 0] #[(0,1),(1,1),(2,1)]:=⟨zeroValue83,_,underlying83,fun w=>by simp [sizeOf3,sizeOf63]⟩
theorem bt58:BT Tryz.prog 58 [.slice none 0 0,.slice none 0 0] #[(0,1),(1,1)]:=⟨zeroValue58,_,underlying58,fun w=>by simp [sizeOf55,sizeOf56]⟩
theorem ta28:TA Tryz.prog 28 10:=⟨Tryz.isAgg28,sizeOf28⟩
theorem ta52:TA Tryz.prog 52 2:=⟨Tryz.isAgg52,sizeOf52⟩
theorem c_spec_l9Carton (fu:Nat) {w0:World} (x1:Carton) {Ai:List Value} {F3:List Nat} (Am:rd w0 F3 Ai x1) {r:Carton}
    (h:d_spec_l9Carton fu x1 = some r) :
    Calls Tryz.prog 131 #[.agg Ai.toArray] w0 fun e w=>∃ (Ad:List Value) (G0:List Nat),e = .returned (.agg Ad.toArray) ∧ Ext [] w0 w ∧ ow w G0 Ad r ∧ (∀ b ∈ G0,w0.heap.size ≤ b):=by
 refine enter (vs:=[_]) func131 z ntmps131 z fun a k=>?_
 have m:=St.start w0
 obtain ⟨v5,_,rfl,rfl,Ag⟩:=Am
 unfold d_spec_l9Carton at h
 refine wr (s_box (cs:=[I x1.fType,I x1.fGroup,v5]) m k z z z z z z fun b7 w9 a k m e Aa=>s_alloc (cs:=[I 0,I 0,.slice none 0 0]) m k zeroValue83 z z z z z fun Ab Au a k m e Ar=>nn (wp_seq (d_go ([Ab]) mixo m z fun Ap hMd=>?_)))
 have m:=hMd
 have s:=Ext.refl (([Ab]):List Nat) Ap
 refine dt k 0 z (by kernel_rfl) z s (fun _ _ _=>id) (fun w s=>r_fa fa83_0 k z z) fun a k=>dt k 1 z (by kernel_rfl) z s (fun _ _ _=>id) (fun w s=>r_ld1 t13 (r:=[]) (Aa.at (hMd.az 1 0 z z z s) 0 1 z z z) k z z) fun a k=>dt k 2 z (by kernel_rfl) z s (fun _ _ _=>id) (fun w s=>r_fa fa83_1 k z z) fun a k=>dt k 3 z (by kernel_rfl) z s (fun _ _ _=>id) (fun w s=>r_ld1 t13 (r:=[]) (Aa.at (hMd.az 1 0 z z z s) 1 1 z z z) k z z) fun a k=>dt k 5 z (by kernel_rfl) z s (fun _ _ _=>id) (fun w s=>r_fa fa83_2 k z z) fun a k=>dt k 6 z (by kernel_rfl) z s (fun _ _ _=>id) (fun w s=>r_ld1 t163 (r:=[]) (Aa.at (hMd.az 1 0 z z z s) 2 1 z z z) k z z) fun a k=>d_one 4 (by kernel_rfl) z ?_
 refine s_bsN (cs:=[]) (ps:=[]) te63 m k z z z z z z z (by decide) z (by exact (List.forall_mem_nil _)) fun Ax Az At a k m e Aq Ak=>?_
 have Ah:=lo1 (Nat.le_trans s.size Ak)
 have Aj:=ow_bx Aq ([]:List Int) z z z
 have s:=s.trans e (by simp)
 refine wpList_nil ⟨s,?_⟩
 refine d_one 7 (by kernel_rfl) z (oE h fun Ay Al h=>s_appFN Al te63 z m 0 Aj (News.rd (Enc.rd_agr Ag (m.a00 (Enc.rd_lt Ag)))) z z k z z z z z z z fun Af Ae Aw a k e m Ac As=>?_)
 have Av:∀ y ∈ Ae,y ∈ ([Ab]) ∨ _ ≤ y:=fun y hy=>(As y hy).elim (fun hy=>(fun y hy=>Or.inr (Ah y hy)) y hy) (fun h=>Or.inr (Nat.le_trans s.size h))
 have s:=s.trans e (fun y hy=>Or.inr (Ah y hy))
 refine wpList_nil ⟨s,?_⟩
 refine dt k 8 z (by kernel_rfl) z s (fun _ _ _=>id) (fun w s=>r_build bt83 k (cs:=#[I x1.fType,I x1.fGroup,Af]) (ps:=[(0,.tmp 4),(1,.tmp 6),(2,.tmp 10)]) z z (fillc z z z (fillc z z z (fillc z (rd_c (Enc.ow_rd Ac)) z z)))) fun a k=>d_one 9 (by kernel_rfl) z (s_stb (cs':=[I x1.fType,I x1.fGroup,Af]) sizeOf83 m 1 Ar 0 k z z z z z z z z z z (allc z (allc z (allc (rd_o (Enc.ow_rd Ac)) alln))) fun Ba a k e m Ao=>?_)
 have s:=s.trans e (fun y hy=>Or.inl hy)
 refine wpList_nil ⟨s,?_⟩
 refine d_done (by kernel_rfl) ((nm_then ?_))
 refine wp_ret ?_
 cases h
 exact finR1 k z (RV.cA k z ta83 (Ao.at (m.a 1 z) 0 3 z z z) z) ⟨_,_,z,m.ext,⟨_,Ae,z,z,(Enc.ow_agr Ac (m.a 0 z)),by simpa [fps] using (m.sel [0] z (by decide)).nd⟩,(m.fresh 0 z)⟩
theorem c_spec_l13Copy (fu:Nat) {w0:World} (x1:Plan) {Bc:List Value} {F3:List Nat} (Bu:rd w0 F3 Bc x1) {r:Plan}
    (h:d_spec_l13Copy fu x1 = some r) :
    Calls Tryz.prog 128 #[.agg Bc.toArray] w0 fun e w=>∃ (Be:List Value) (G0:List Nat),e = .returned (.agg Be.toArray) ∧ Ext [] w0 w ∧ ow w G0 Be r ∧ (∀ b ∈ G0,w0.heap.size ≤ b):=by
 refine enter (vs:=[_]) func128 z ntmps128 z fun a k=>?_
 have m:=St.start w0
 obtain ⟨v5,F6,v7,F8,rfl,rfl,Ap,Bj⟩:=Bu
 unfold d_spec_l13Copy at h
 refine wr (s_box (cs:=[v5,v7]) m k z z z z z z fun Bp Cm a k m e Ax=>s_alloc (cs:=[.slice none 0 0,.slice none 0 0]) m k zeroValue58 z z z z z fun Bd Dp a k m e Dg=>nn (wr (s_bs (cs:=[]) (ps:=[]) te56 m k z z z z z z z (by decide) z (by exact (List.forall_mem_nil _)) fun Dz Du Dq a k m e Cd=>?_)))
 have Cn:=ow_bx Cd ([]:List Spot) z z z
 refine sv k z (r_fa fa58_1 k z z) fun a k=>sv k z (r_ldb t156 m 2 Ax 1 k z z z z z) fun a k=>oE h fun Ce Bv h=>s_appF Bv te56 z m 0 Cn (News.rd (Enc.rd_agr Bj (m.a00 (Enc.rd_lt Bj)))) z z k z z z z z z z fun Ad Bb Bs a k e m Ak=>sv k z (r_build bt58 k (cs:=#[.slice none 0 0,Ad]) (ps:=[(1,.tmp 8)]) z z (fillc z (rd_c (Enc.ow_rd Ak)) z z)) fun a k=>s_alloc (cs:=[.slice none 0 0,.slice none 0 0]) m k zeroValue58 z z z z z fun Aj Ed a k m e De=>s_stb (cs':=[.slice none 0 0,Ad]) sizeOf58 m 0 De 0 k z z z z z z z z z z (allc z (allc (rd_o (Enc.ow_rd Ak)) alln)) fun Cc a k e m Cx=>nn (wp_seq (wr (pN 1 k z fun a k=>nn (wp_block ?_))))
 refine c_loop (fun n a w=>∃ (Aw:List Carton) (Ao:Value) (Ab:List Nat) (Ar:World) (At:World) (Ag:Int),K 29 [(1,.pointer (some (⟨Bp,0,none⟩:Addr))),(2,.pointer (some (⟨Bd,0,none⟩:Addr))),(3,.pointer (some (⟨Aj,0,none⟩:Addr))),(4,I Ag)] a ∧ St [] w0 w [([Bp],Cm),([Bd],Dp),(Ab,Ar),([Aj],At),(Bb,Bs)] ∧ ow Ar Ab [Ao] Aw ∧ bx At Aj [Ao,Ad] 58 ∧ d_spec_l13Copy_L1 fu x1 Ce n Aw Ag = some r) ?_ ?_ fu _ _ ?_
 · rintro a w ⟨_,_,_,_,_,_,_,_,_,_,h⟩
   exact nS h
 · rintro Ec a Eg ⟨Aw,Ao,Ab,Ar,At,Ag,k,m,Ai,Ac,h⟩
   rw [d_spec_l13Copy_L1_s] at h
   unfold d_spec_l13Copy_L1_B at h
   refine wp_seq (wr (pN 1 k z fun a k=>sv k z (r_fa fa58_0 k z z) fun a k=>sv k z (r_ldb t155 m 0 Ax 0 k z z z z z) fun a k=>sv k z (r_len (α:=Carton) Ap k underlying55 z z) fun a k=>pN 1 k z fun a k=>nn (cI h k z (fun Di h=>?_) fun Di h=>?_)))
   · refine wp_skip (nm_then ?_)
     refine wp_seq (wp_block (d_go (Ab ++ ([Aj])) mixo m z fun Da hMd=>?_))
     have m:=hMd
     have s:=Ext.refl ((Ab ++ ([Aj])):List Nat) Da
     have hMj:=(hMd.sel [2,3,0,1,4] z (by decide)).join2
     refine dN [4] 1 z k (by kernel_rfl) z s (fun _ _ _ _ _=>id) fun a k=>dt k 0 z (by kernel_rfl) z s (fun _ _ _=>id) (fun w s=>r_fa fa58_0 k z z) fun a k=>dt k 2 z (by kernel_rfl) z s (fun _ _ _=>id) (fun w s=>r_fa fa58_0 k z z) fun a k=>dt k 3 z (by kernel_rfl) z s (fun _ _ _=>id) (fun w s=>r_ld1 t155 (r:=[]) (Ax.at (hMj.az 1 0 z z z s) 0 1 z z z) k z z) fun a k=>oE h fun Ae Bo h=>dt k 5 z (by kernel_rfl) z s (fun _ _ _=>id) (fun w s=>r_ixa Ap Bo k ts55 z z z) fun a k=>?_
     obtain ⟨Ee,Dw,Es,Dd,Ca,Cw⟩:=rd_get Ap (ix_some Bo).2.2
     obtain ⟨Ba,_,rfl,rfl,Am⟩:=Dd
     refine dt k 6 z (by kernel_rfl) z s (fun _ _ _=>id) (fun w s=>r_ldA ta83 (Ca.agr (hMj.az0 0 z z (Enc.rd_lt Ap) s) Cw) z k z z) fun a k=>d_two 1 7 (by kernel_rfl) z z ?_ ?_ 
     · refine sv k z (r_ldb t155 m 3 Ac 0 k z z z z z) fun a k=>wpList_nil ⟨s,?_⟩
       refine d_one 7 (by kernel_rfl) z (oE h fun Ah Bq h=>s_call k call131 z z z z z (c_spec_l9Carton fu _ (show rd _ _ [I Ae.fType,I Ae.fGroup,Ba] (Ae:Carton) from ⟨_,_,z,z,(Enc.rd_agr Am (m.a00 (Enc.rd_lt Am)))⟩) Bq) fun Ei Ea hR=>?_)
       obtain ⟨Dy,Aq,rfl,e,Av,Bg⟩:=hR
       refine ⟨_,z,fun a k=>?_⟩
       have m:=m.new e Aq (fun b hb=>⟨Bg b hb,Enc.rd_lt (Enc.ow_rd Av) b hb⟩) (Enc.ow_nd Av)
       have Dk:=fun (y:Nat) (hy:y ∈ Aq)=>Nat.le_trans s.size (Bg y hy)
       obtain ⟨Bi,_,rfl,rfl,Dj,_⟩:=Av
       have s:=s.trans e (by simp)
       refine wpList_nil ⟨s,?_⟩
       refine d_one 8 (by kernel_rfl) z (s_bsN (cs:=[I Ah.fType,I Ah.fGroup,Bi]) (ps:=[(0,.tmp 24)]) te55 m k z z z z z z z (by decide) z (by exact (List.forall_mem_cons.2 ⟨z,(List.forall_mem_nil _)⟩)) fun Em Ek Dr a k m e Cs Dt=>?_)
       have s:=s.trans e (by simp)
       refine wpList_nil ⟨s,?_⟩
       refine d_one 9 (by kernel_rfl) z (oE h fun Dm Ci h=>?_)
       have Db:ow _ (Aq) [I Ah.fType,I Ah.fGroup,Bi] (Ah:Carton):=⟨_,_,z,z,(Enc.ow_agr Dj (m.a 1 z)),by simpa [fps] using (m.sel [1] z (by decide)).nd⟩
       have Bx:=News.box Cs (m.a 0 z) (by simp) (m:=1)
       have Ck:=m.a 4 z
       have m:=m.sel [4,1,0,2,3,5,6] z (by decide)
       have m:=m.join2
       refine s_appO (F:=Ab) (G:=(Aq)) Ci te55 z m Ai Ck Bx Db (Agr.refl _ _) k z z z z z z fun Bh Cg Cr a k e m Au=>?_
       have s:=s.trans e (fun y hy=>(List.mem_append.1 hy).elim ((fun y hy=>Or.inl (List.mem_append_left _ hy)) y) ((fun y hy=>Or.inr (Dk y hy)) y))
       refine wpList_nil ⟨s,?_⟩
       refine dt k 10 z (by kernel_rfl) z s (fun _ _ _=>id) (fun w s=>r_fa fa58_0 k z z) fun a k=>d_one 11 (by kernel_rfl) z (s_stb1 (cs':=[Bh,Ad]) sizeOf55 m 4 Ac 0 k (rd_c (Enc.ow_rd Au)) (rd_o (Enc.ow_rd Au)) z z z z z z z z z fun Cp a k e m Cf=>?_)
       have s:=s.trans e (fun y hy=>Or.inl (List.mem_append_right _ hy))
       refine wpList_nil ⟨s,?_⟩
       refine d_done (by kernel_rfl) ((nm_block (nm_then ?_)))
       refine wp_region_lit (pN 3 k z fun a k=>nn ?_)
       exact ⟨Dm,Bh,Cg,Cr,Cp,w64 (Ag + 1),k.keep [1,2,3,4] z,m.sel [2,3,0,4,5] z (by decide),Au,Cf,h⟩
     refine oE h fun Aa Bz h=>s_call k call131 z z z z z (c_spec_l9Carton fu _ (show rd _ _ [I Ae.fType,I Ae.fGroup,Ba] (Ae:Carton) from ⟨_,_,z,z,(Enc.rd_agr Am (m.a00 (Enc.rd_lt Am)))⟩) Bz) fun Dv En hR=>?_
     obtain ⟨El,Af,rfl,e,Az,Bl⟩:=hR
     refine ⟨_,z,fun a k=>?_⟩
     have m:=m.new e Af (fun b hb=>⟨Bl b hb,Enc.rd_lt (Enc.ow_rd Az) b hb⟩) (Enc.ow_nd Az)
     have Bk:=fun (y:Nat) (hy:y ∈ Af)=>Nat.le_trans s.size (Bl y hy)
     obtain ⟨Al,_,rfl,rfl,Bm,_⟩:=Az
     have s:=s.trans e (by simp)
     refine wpList_nil ⟨s,?_⟩
     refine d_two 1 8 (by kernel_rfl) z z ?_ ?_ 
     · refine sv k z (r_ldb t155 m 4 Ac 0 k z z z z z) fun a k=>wpList_nil ⟨s,?_⟩
       refine d_one 8 (by kernel_rfl) z (s_bsN (cs:=[I Aa.fType,I Aa.fGroup,Al]) (ps:=[(0,.tmp 24)]) te55 m k z z z z z z z (by decide) z (by exact (List.forall_mem_cons.2 ⟨z,(List.forall_mem_nil _)⟩)) fun Er Ds Dx a k m e Dc Eb=>?_)
       have s:=s.trans e (by simp)
       refine wpList_nil ⟨s,?_⟩
       refine d_one 9 (by kernel_rfl) z (oE h fun Bt Dl h=>?_)
       have Do:ow _ (Af) [I Aa.fType,I Aa.fGroup,Al] (Aa:Carton):=⟨_,_,z,z,(Enc.ow_agr Bm (m.a 1 z)),by simpa [fps] using (m.sel [1] z (by decide)).nd⟩
       have Br:=News.box Dc (m.a 0 z) (by simp) (m:=1)
       have Cb:=m.a 4 z
       have m:=m.sel [4,1,0,2,3,5,6] z (by decide)
       have m:=m.join2
       refine s_appO (F:=Ab) (G:=(Af)) Dl te55 z m Ai Cb Br Do (Agr.refl _ _) k z z z z z z fun Bn Bw Dh a k e m Ay=>?_
       have s:=s.trans e (fun y hy=>(List.mem_append.1 hy).elim ((fun y hy=>Or.inl (List.mem_append_left _ hy)) y) ((fun y hy=>Or.inr (Bk y hy)) y))
       refine wpList_nil ⟨s,?_⟩
       refine dt k 10 z (by kernel_rfl) z s (fun _ _ _=>id) (fun w s=>r_fa fa58_0 k z z) fun a k=>d_one 11 (by kernel_rfl) z (s_stb1 (cs':=[Bn,Ad]) sizeOf55 m 4 Ac 0 k (rd_c (Enc.ow_rd Ay)) (rd_o (Enc.ow_rd Ay)) z z z z z z z z z fun Cl a k e m By=>?_)
       have s:=s.trans e (fun y hy=>Or.inl (List.mem_append_right _ hy))
       refine wpList_nil ⟨s,?_⟩
       refine d_done (by kernel_rfl) ((nm_block (nm_then ?_)))
       refine wp_region_lit (pN 3 k z fun a k=>nn ?_)
       exact ⟨Bt,Bn,Bw,Dh,Cl,w64 (Ag + 1),k.keep [1,2,3,4] z,m.sel [2,3,0,4,5] z (by decide),Ay,By,h⟩
     refine s_bsN (cs:=[I Aa.fType,I Aa.fGroup,Al]) (ps:=[(0,.tmp 24)]) te55 m k z z z z z z z (by decide) z (by exact (List.forall_mem_cons.2 ⟨z,(List.forall_mem_nil _)⟩)) fun Ef Eo Eh a k m e Cj Ej=>?_
     have s:=s.trans e (by simp)
     refine wpList_nil ⟨s,?_⟩
     refine d_one 1 (by kernel_rfl) z (sv k z (r_ldb t155 m 5 Ac 0 k z z z z z) fun a k=>wpList_nil ⟨s,?_⟩)
     refine d_one 9 (by kernel_rfl) z (oE h fun Ct Ch h=>?_)
     have Dn:ow _ (Af) [I Aa.fType,I Aa.fGroup,Al] (Aa:Carton):=⟨_,_,z,z,(Enc.ow_agr Bm (m.a 1 z)),by simpa [fps] using (m.sel [1] z (by decide)).nd⟩
     have Cv:=News.box Cj (m.a 0 z) (by simp) (m:=1)
     have Df:=m.a 4 z
     have m:=m.sel [4,1,0,2,3,5,6] z (by decide)
     have m:=m.join2
     refine s_appO (F:=Ab) (G:=(Af)) Ch te55 z m Ai Df Cv Dn (Agr.refl _ _) k z z z z z z fun Bf Cu Co a k e m As=>?_
     have s:=s.trans e (fun y hy=>(List.mem_append.1 hy).elim ((fun y hy=>Or.inl (List.mem_append_left _ hy)) y) ((fun y hy=>Or.inr (Bk y hy)) y))
     refine wpList_nil ⟨s,?_⟩
     refine dt k 10 z (by kernel_rfl) z s (fun _ _ _=>id) (fun w s=>r_fa fa58_0 k z z) fun a k=>d_one 11 (by kernel_rfl) z (s_stb1 (cs':=[Bf,Ad]) sizeOf55 m 4 Ac 0 k (rd_c (Enc.ow_rd As)) (rd_o (Enc.ow_rd As)) z z z z z z z z z fun Cz a k e m Cy=>?_)
     have s:=s.trans e (fun y hy=>Or.inl (List.mem_append_right _ hy))
     refine wpList_nil ⟨s,?_⟩
     refine d_done (by kernel_rfl) ((nm_block (nm_then ?_)))
     refine wp_region_lit (pN 3 k z fun a k=>nn ?_)
     exact ⟨Ct,Bf,Cu,Co,Cz,w64 (Ag + 1),k.keep [1,2,3,4] z,m.sel [2,3,0,4,5] z (by decide),As,Cy,h⟩
   refine wp_exit (ex_then (ex_then (ex_same (nm_then ?_))))
   refine wr (sv k z (r_ldB ta58 m 3 Ac 0 k z z z z z z) fun a k=>s_stb (cs':=[Ao,Ad]) sizeOf58 m 1 Dg 0 k z z z z z z z z z z (allc (rd_o (Enc.ow_rd Ai)) (allc (rd_o (Enc.ow_rd Ak)) alln)) fun Ep a k e m Cq=>nn (wp_ret ?_))
   cases h
   exact finR1 k z (RV.cA k z ta58 (Cq.at (m.a 1 z) 0 2 z z z) z) ⟨_,_,z,m.ext,⟨_,Ab,_,Bb,z,z,(Enc.ow_agr Ai (m.a 2 z)),(Enc.ow_agr Ak (m.a 4 z)),by simpa [fps] using (m.sel [2,4] z (by decide)).nd⟩,(app_fresh (m.fresh 2 z) (m.fresh 4 z))⟩
 exact ⟨([]:List Carton),.slice none 0 0,[],_,Cc,0,k.keep [1,2,3,4] z,(m.addNil (u:=w0)).sel [4,3,0,1,2] z (by decide),(ow_nil _),Cx,h⟩
theorem c_spec_Swapped (fu:Nat) {w0:World} (r1:Request) (x5:Plan) (a9:Int) (Aa:Int) {Bo:List Value} {F3:List Nat} (Cd:rd w0 F3 Bo r1) {Bs:List Value} {F7:List Nat} (Cg:rd w0 F7 Bs x5) {r:Plan}
    (h:d_spec_Swapped fu r1 x5 a9 Aa = some r) :
    Calls Tryz.prog 46 #[.agg Bo.toArray,.agg Bs.toArray,I a9,I Aa] w0 fun e w=>∃ (Br:List Value) (G0:List Nat),e = .returned (.agg Br.toArray) ∧ Ext [] w0 w ∧ ow w G0 Br r ∧ (∀ b ∈ G0,w0.heap.size ≤ b):=by
 refine enter (vs:=[_,_,_,_]) func46 z ntmps46 z fun a k=>?_
 have m:=St.start w0
 obtain ⟨Bv,De,Bx,Dp,Bn,Dx,rfl,rfl,Bt,Bu,By⟩:=Cd
 obtain ⟨Bj,Dm,Bl,Dl,rfl,rfl,Aw,Ac⟩:=Cg
 unfold d_spec_Swapped at h
 refine wr (s_box (cs:=[I r1.fWay,I r1.fPallet.fW,I r1.fPallet.fD,I r1.fPallet.fH,I r1.fPallet.fGram,I r1.fClasses,Bv,Bx,I r1.fMaster,Bn]) m k z z z z z z fun Df Dy a k m e Ch=>s_box (cs:=[Bj,Bl]) m k z z z z z z fun Ap Bh a k m e Be=>s_alloc (cs:=[.slice none 0 0,.slice none 0 0]) m k zeroValue58 z z z z z fun Ao Bk a k m e Bf=>nn (wr (sv k z (r_ldB ta58 m 1 Be 0 k z z z z z z) fun a k=>oE h fun Ba Cw h=>s_call k call128 z z z z z (c_spec_l13Copy fu _ (show rd _ _ [Bj,Bl] (x5:Plan) from ⟨_,_,_,_,z,z,(Enc.rd_agr Aw (m.a00 (Enc.rd_lt Aw))),(Enc.rd_agr Ac (m.a00 (Enc.rd_lt Ac)))⟩) Cw) fun Dq Av hR=>?_)))
 obtain ⟨Do,Dc,rfl,e,Bi,Cc⟩:=hR
 refine ⟨_,z,fun a k=>?_⟩
 have m:=m.new e Dc (fun b hb=>⟨Cc b hb,Enc.rd_lt (Enc.ow_rd Bi) b hb⟩) (Enc.ow_nd Bi)
 obtain ⟨Ak,Aj,Au,As,rfl,rfl,Ab,Ad,_⟩:=Bi
 have m:=m.split2
 refine s_alloc (cs:=[.slice none 0 0,.slice none 0 0]) m k zeroValue58 z z z z z fun Ag Dv a k m e Ct=>s_stb (cs':=[Ak,Au]) sizeOf58 m 0 Ct 0 k z z z z z z z z z z (allc (rd_o (Enc.ow_rd Ab)) (allc (rd_o (Enc.ow_rd Ad)) alln)) fun Bw a k e m Bb=>nn (wr (sv k z (r_fa fa58_1 k z z) fun a k=>sv k z (r_ldb t156 m 4 Be 1 k z z z z z) fun a k=>oE h fun Du Cm h=>cE k m call138 z z z (c_spec_Pallets fu _ (Enc.rd_agr Ac (m.a00 (Enc.rd_lt Ac))) Cm) fun Dw e a k m=>pN 1 k z fun a k=>nn ?_))
 refine c_cut (fun a w=>K 68 [(2,I a9),(3,I Aa),(5,.pointer (some (⟨Ap,0,none⟩:Addr))),(8,.pointer (some (⟨Ao,0,none⟩:Addr))),(9,.pointer (some (⟨Ag,0,none⟩:Addr)))] a ∧ St [] w0 w [([Ap],Bh),([Ao],Bk),([Ag],Bw),(Aj,Av),(As,Av)] ∧ d_spec_Swapped_J2 fu x5 a9 Aa Ba = some r) ?_ ?_
 · rintro a Dg ⟨k,m,h⟩
   unfold d_spec_Swapped_J2 at h
   refine wp_seq (wr (pN 1 k z fun a k=>nn (wp_block (c_loop (fun n a w=>∃ (Aq:List Spot) (Ah:Value) (Al:List Nat) (Ay:World) (Am:World) (Ae:Int),K 68 [(2,I a9),(3,I Aa),(5,.pointer (some (⟨Ap,0,none⟩:Addr))),(8,.pointer (some (⟨Ao,0,none⟩:Addr))),(9,.pointer (some (⟨Ag,0,none⟩:Addr))),(11,I Ae)] a ∧ St [] w0 w [([Ap],Bh),([Ao],Bk),(Al,Ay),([Ag],Am),(Aj,Av)] ∧ ow Ay Al [Ah] Aq ∧ bx Am Ag [Ak,Ah] 58 ∧ d_spec_Swapped_L1 fu x5 a9 Aa Ba n Aq Ae = some r) ?_ ?_ fu _ _ ?_))))
   · rintro a w ⟨_,_,_,_,_,_,_,_,_,_,h⟩
     exact nS h
   · rintro Cb a Dd ⟨Aq,Ah,Al,Ay,Am,Ae,k,m,Af,Ai,h⟩
     rw [d_spec_Swapped_L1_s] at h
     unfold d_spec_Swapped_L1_B at h
     refine wp_seq (wr (pN 1 k z fun a k=>sv k z (r_fa fa58_1 k z z) fun a k=>sv k z (r_ldb t156 m 3 Ai 1 k z z z z z) fun a k=>sv k z (r_len (α:=Spot) (Enc.ow_rd Af) k underlying56 z z) fun a k=>pN 1 k z fun a k=>nn (cI h k z (fun Cq h=>?_) fun Cq h=>?_)))
     · refine wp_skip (nm_then ?_)
       refine c_cut (fun a w=>∃ (Bd:List Spot) (Bc:Value) (Ax:List Nat) (Az:World) (Bg:World),K 68 [(2,I a9),(3,I Aa),(5,.pointer (some (⟨Ap,0,none⟩:Addr))),(8,.pointer (some (⟨Ao,0,none⟩:Addr))),(9,.pointer (some (⟨Ag,0,none⟩:Addr))),(11,I Ae)] a ∧ St [] w0 w [([Ap],Bh),([Ao],Bk),(Ax,Az),([Ag],Bg),(Aj,Av)] ∧ ow Az Ax [Bc] Bd ∧ bx Bg Ag [Ak,Bc] 58 ∧ d_spec_Swapped_J1 fu (d_spec_Swapped_L1 fu x5 a9 Aa Ba Cb) Ae Bd = some r) ?_ ?_
       · rintro a Dz ⟨Bd,Bc,Ax,Az,Bg,k,m,Cz,Ci,h⟩
         unfold d_spec_Swapped_J1 at h
         refine wp_region_lit (pN 3 k z fun a k=>nn ?_)
         exact ⟨Bd,Bc,Ax,Az,Bg,w64 (Ae + 1),k.keep [2,3,5,8,9,11] z,m.sel [0,1,2,3,4] z (by decide),Cz,Ci,h⟩
       refine wp_block (wr (sv k z (r_fa fa58_1 k z z) fun a k=>sv k z (r_ldb t156 m 0 Be 1 k z z z z z) fun a k=>pN 1 k z fun a k=>oE h fun Dk Ca h=>sv k z (r_ixa Ac Ca k ts56 z z z) fun a k=>sv k z (r_fa fa89_0 k z z) fun a k=>sv k z (r_lde1 Ac (m.a00 (Enc.rd_lt Ac)) Ca 0 t13 k z z z z) fun a k=>nn (wp_block (wr (pN 3 k z fun a k=>nn (cI h k z (fun Cf h=>?_) fun Cf h=>?_))))))
       · refine wp_region_lit (sv k z (r_fa fa58_1 k z z) fun a k=>sv k z (r_ldb t156 m 3 Ai 1 k z z z z z) fun a k=>pN 2 k z fun a k=>oE h fun Bq Bp h=>sv k z (r_ixa (Enc.ow_rd Af) Bp k ts56 z z z) fun a k=>sv k z (r_fa fa89_0 k z z) fun a k=>s_ste (α:=Spot) (sz:=4) (y:={ Bq with fPallet:=Aa }) sizeOf3 Bp m 2 Af 0 k z z z z z z z z z z z z fun Db a k e m Cl=>wpList_nil (nm_block (nm_block (nm_then ?_))))
         exact ⟨setx Aq Ae ({ Bq with fPallet:=Aa }),Ah,Al,Db,Am,k.keep [2,3,5,8,9,11] z,m.sel [0,1,2,3,4] z (by decide),Cl,Ai,h⟩
       refine wr (pN 3 k z fun a k=>nn (cI h k z (fun Co h=>?_) fun Co h=>?_))
       · refine wp_region_lit (sv k z (r_fa fa58_1 k z z) fun a k=>sv k z (r_ldb t156 m 3 Ai 1 k z z z z z) fun a k=>pN 2 k z fun a k=>oE h fun Bz Bm h=>sv k z (r_ixa (Enc.ow_rd Af) Bm k ts56 z z z) fun a k=>sv k z (r_fa fa89_0 k z z) fun a k=>s_ste (α:=Spot) (sz:=4) (y:={ Bz with fPallet:=a9 }) sizeOf3 Bm m 2 Af 0 k z z z z z z z z z z z z fun Cp a k e m Cx=>wpList_nil (nm_block (nm_block (nm_then ?_))))
         exact ⟨setx Aq Ae ({ Bz with fPallet:=a9 }),Ah,Al,Cp,Am,k.keep [2,3,5,8,9,11] z,m.sel [0,1,2,3,4] z (by decide),Cx,Ai,h⟩
       refine wp_skip (nm_block (nm_block (nm_then ?_)))
       exact ⟨Aq,Ah,Al,Ay,Am,k.keep [2,3,5,8,9,11] z,m.sel [0,1,2,3,4] z (by decide),Af,Ai,h⟩
     refine wp_exit (ex_then (ex_then (ex_same (nm_then ?_))))
     refine wr (sv k z (r_ldB ta58 m 3 Ai 0 k z z z z z z) fun a k=>s_stb (cs':=[Ak,Ah]) sizeOf58 m 1 Bf 0 k z z z z z z z z z z (allc (rd_o (Enc.ow_rd Ab)) (allc (rd_o (Enc.ow_rd Af)) alln)) fun Di a k e m Cj=>nn (wp_ret ?_))
     cases h
     exact finR1 k z (RV.cA k z ta58 (Cj.at (m.a 1 z) 0 2 z z z) z) ⟨_,_,z,m.ext,⟨_,Aj,_,Al,z,z,(Enc.ow_agr Ab (m.a 4 z)),(Enc.ow_agr Af (m.a 2 z)),by simpa [fps] using (m.sel [4,2] z (by decide)).nd⟩,(app_fresh (m.fresh 4 z) (m.fresh 2 z))⟩
   exact ⟨Ba.fSpots,Au,As,Av,Bw,0,k.keep [2,3,5,8,9,11] z,m.sel [0,1,4,2,3] z (by decide),Ad,Bb,h⟩
 refine wr (sv k z (r_ldB ta38 m 5 Ch 0 k z z z z z z) fun a k=>sv k z (r_ldB ta58 m 4 Be 0 k z z z z z z) fun a k=>oE h fun Cn Da h=>cE k m call37 z z z (c_spec_Feasible fu _ _ (show rd _ _ [I r1.fWay,I r1.fPallet.fW,I r1.fPallet.fD,I r1.fPallet.fH,I r1.fPallet.fGram,I r1.fClasses,Bv,Bx,I r1.fMaster,Bn] (r1:Request) from ⟨_,_,_,_,_,_,z,z,(Enc.rd_agr Bt (m.a00 (Enc.rd_lt Bt))),(Enc.rd_agr Bu (m.a00 (Enc.rd_lt Bu))),(Enc.rd_agr By (m.a00 (Enc.rd_lt By)))⟩) (show rd _ _ [Bj,Bl] (x5:Plan) from ⟨_,_,_,_,z,z,(Enc.rd_agr Aw (m.a00 (Enc.rd_lt Aw))),(Enc.rd_agr Ac (m.a00 (Enc.rd_lt Ac)))⟩) Da) fun Dr e a k m=>pN 2 k z fun a k=>?_)
 refine bsplit (!Cn) (fun Ar=>?_) (fun Ar=>?_)
 · have h:=bif_t Ar h
   refine rB k 21 z Ar fun k=>pN 13 k z fun a k=>?_
   have k:=k.keep [2,3,5,8,9,34] z
   refine nn (wp_cond_true (k.ev z) (wr (sv k z (r_ldB ta58 m 0 Bb 0 k z z z z z z) fun a k=>s_stb (cs':=[Ak,Au]) sizeOf58 m 3 Bf 0 k z z z z z z z z z z (allc (rd_o (Enc.ow_rd Ab)) (allc (rd_o (Enc.ow_rd Ad)) alln)) fun Dn a k e m Cv=>nn (wp_ret (rt_then ?_)))))
   cases h
   exact finR1 k z (RV.cA k z ta58 (Cv.at (m.a 3 z) 0 2 z z z) z) ⟨_,_,z,m.ext,⟨_,Aj,_,As,z,z,(Enc.ow_agr Ab (m.a 1 z)),(Enc.ow_agr Ad (m.a 2 z)),by simpa [fps] using (m.sel [1,2] z (by decide)).nd⟩,(app_fresh (m.fresh 1 z) (m.fresh 2 z))⟩
 have h:=bif_f Ar h
 refine rB k 21 z Ar fun k=>pN 3 k z fun a k=>oE h fun Cr Cy h=>cE k m call130 z z z (c_spec_l1In fu _ _ _  Cy) fun Dj e a k m=>pN 3 k z fun a k=>bsplit (!Cr) (fun At=>?_) (fun At=>?_)
 · have h:=bif_t At h
   refine rB k 28 z At fun k=>pN 6 k z fun a k=>?_
   have k:=k.keep [2,3,5,8,9,34] z
   refine nn (wp_cond_true (k.ev z) (wr (sv k z (r_ldB ta58 m 0 Bb 0 k z z z z z z) fun a k=>s_stb (cs':=[Ak,Au]) sizeOf58 m 3 Bf 0 k z z z z z z z z z z (allc (rd_o (Enc.ow_rd Ab)) (allc (rd_o (Enc.ow_rd Ad)) alln)) fun Dh a k e m Ck=>nn (wp_ret (rt_then ?_)))))
   cases h
   exact finR1 k z (RV.cA k z ta58 (Ck.at (m.a 3 z) 0 2 z z z) z) ⟨_,_,z,m.ext,⟨_,Aj,_,As,z,z,(Enc.ow_agr Ab (m.a 1 z)),(Enc.ow_agr Ad (m.a 2 z)),by simpa [fps] using (m.sel [1,2] z (by decide)).nd⟩,(app_fresh (m.fresh 1 z) (m.fresh 2 z))⟩
 have h:=bif_f At h
 refine rB k 28 z At fun k=>pN 3 k z fun a k=>oE h fun Ds Ce h=>cE k m call130 z z z (c_spec_l1In fu _ _ _  Ce) fun Ea e a k m=>pN 2 k z fun a k=>?_
 have k:=k.keep [2,3,5,8,9,34] z
 refine nn (cI h k z (fun Cs h=>?_) fun Cs h=>?_)
 · refine wr (sv k z (r_ldB ta58 m 0 Bb 0 k z z z z z z) fun a k=>s_stb (cs':=[Ak,Au]) sizeOf58 m 3 Bf 0 k z z z z z z z z z z (allc (rd_o (Enc.ow_rd Ab)) (allc (rd_o (Enc.ow_rd Ad)) alln)) fun Dt a k e m Cu=>nn (wp_ret (rt_then ?_)))
   cases h
   exact finR1 k z (RV.cA k z ta58 (Cu.at (m.a 3 z) 0 2 z z z) z) ⟨_,_,z,m.ext,⟨_,Aj,_,As,z,z,(Enc.ow_agr Ab (m.a 1 z)),(Enc.ow_agr Ad (m.a 2 z)),by simpa [fps] using (m.sel [1,2] z (by decide)).nd⟩,(app_fresh (m.fresh 1 z) (m.fresh 2 z))⟩
 refine wp_skip (nm_then ?_)
 exact ⟨k.keep [2,3,5,8,9] z,m.sel [4,3,0,1,2] z (by decide),h⟩
theorem c_impl_cloneCartons (fu:Nat) {w0:World} (Ae:List Carton) {v2:Value} {F3:List Nat} (Af:rd w0 F3 [v2] Ae) {r:(List Carton)}
    (h:d_impl_cloneCartons fu Ae = some r) :
    Calls Tryz.prog 230 #[v2] w0 fun e w=>∃ (v0:Value) (G0:List Nat),e = .returned (v0) ∧ Ext [] w0 w ∧ ow w G0 [v0] r ∧ (∀ b ∈ G0,w0.heap.size ≤ b):=by
 refine enter (vs:=[_]) func230 z ntmps230 z fun a k=>?_
 have m:=St.start w0
 unfold d_impl_cloneCartons at h
 refine wr (pN 1 k z fun a k=>nn (wr (s_bs (cs:=[]) (ps:=[]) te55 m k z z z z z z z (by decide) z (by exact (List.forall_mem_nil _)) fun g5 w6 e8 a k m e Av=>?_)))
 have Ba:=ow_bx0 (α:=Carton) Av
 refine pN 1 k z fun a k=>nn (wp_seq (wr (pN 1 k z fun a k=>sv k z (r_len (α:=Carton) Af k underlying55 z z) fun a k=>pN 1 k z fun a k=>nn (wp_block (c_loop (fun n a w=>∃ (Aj:List Carton) (Ai:Value) (Ab:List Nat) (Ak:World) (Ad:Int),K 23 [(3,Ai),(7,v2),(8,I ((Ae.length:Int))),(9,I Ad)] a ∧ St [] w0 w [(Ab,Ak)] ∧ ow Ak Ab [Ai] Aj ∧ d_impl_cloneCartons_L1 fu Ae n Aj Ad = some r) ?_ ?_ fu _ _ ?_)))))
 · rintro a w ⟨_,_,_,_,_,_,_,_,h⟩
   exact nS h
 · rintro Bp a Bt ⟨Aj,Ai,Ab,Ak,Ad,k,m,Ap,h⟩
   rw [d_impl_cloneCartons_L1_s] at h
   unfold d_impl_cloneCartons_L1_B at h
   refine wr (pN 1 k z fun a k=>nn (wp_seq (cI h k z (fun Az h=>?_) fun Az h=>?_)))
   · refine wp_skip (nm_then ?_)
     refine wp_seq (wp_block (wr (oE h fun Aa Ao h=>sv k z (r_ixa Af Ao k ts55 z z z) fun a k=>?_)))
     obtain ⟨Bu,Bn,Bm,Be,Bl,Bi⟩:=rd_get Af (ix_some Ao).2.2
     obtain ⟨Bf,_,rfl,rfl,Ah⟩:=Be
     refine sv k z (r_ldA ta83 (Bl.agr (m.a00 (Enc.rd_lt Af)) Bi) z k z z) fun a k=>s_alloc (cs:=[I 0,I 0,.slice none 0 0]) m k zeroValue83 z z z z z fun Bz Bx a k m e Bk=>s_stb (cs':=[I Aa.fType,I Aa.fGroup,Bf]) sizeOf83 m 0 Bk 0 k z z z z z z z z z z (allc z (allc z (allc (rd_o Ah) alln))) fun Bo a k e m Am=>nn (wr (sv k z (r_fa fa83_2 k z z) fun a k=>sv k z (r_ldb t163 m 0 Am 2 k z z z z z) fun a k=>oE h fun As At h=>s_call k call133 z z z z z (c_slices_Clone_int_int fu _ (Enc.rd_agr Ah (m.a00 (Enc.rd_lt Ah))) At) fun Bq Bv hR=>?_))
     obtain ⟨Al,Ag,rfl,e,Ac,Ay⟩:=hR
     refine ⟨_,z,fun a k=>?_⟩
     have m:=m.new e Ag (fun b hb=>⟨Ay b hb,Enc.rd_lt (Enc.ow_rd Ac) b hb⟩) (Enc.ow_nd Ac)
     refine sv k z (r_fa fa83_2 k z z) fun a k=>s_stb1 (cs':=[I Aa.fType,I Aa.fGroup,Al]) sizeOf63 m 1 Am 2 k (rd_c (Enc.ow_rd Ac)) (rd_o (Enc.ow_rd Ac)) z z z z z z z z z fun Br a k e m Aw=>nn (wp_region_lit (pN 1 k z fun a k=>sv k z (r_ldB ta83 m 1 Aw 0 k z z z z z z) fun a k=>s_bs (cs:=[I Aa.fType,I Aa.fGroup,Al]) (ps:=[(0,.tmp 18)]) te55 m k z z z z z z z (by decide) z (by exact (List.forall_mem_cons.2 ⟨z,(List.forall_mem_nil _)⟩)) fun Bs By Bw a k m e Aq=>oE h fun Bc Ax h=>?_))
     have Ar:ow _ (Ag) [I Aa.fType,I Aa.fGroup,Al] ((⟨Aa.fType,Aa.fGroup,As⟩:Carton):Carton):=⟨_,_,z,z,(Enc.ow_agr Ac (m.a 1 z)),by simpa [fps] using (m.sel [1] z (by decide)).nd⟩
     have Bh:=News.box Aq (m.a 0 z) (by simp) (m:=1)
     have Bb:=m.a 3 z
     have m:=m.sel [3,1,0,2] z (by decide)
     have m:=m.join2
     refine s_appO (F:=Ab) (G:=(Ag)) Ax te55 z m Ap Bb Bh Ar (Agr.refl _ _) k z z z z z z fun Au Bj Bg a k e m Bd=>pN 1 k z fun a k=>wpList_nil (nm_block (nm_then ?_))
     refine wp_region_lit (pN 2 k z fun a k=>nn ?_)
     exact ⟨Bc,Au,Bj,Bg,w64 (Ad + 1),k.keep [3,7,8,9] z,m.sel [0] z (by decide),Bd,h⟩
   refine wp_exit (ex_then (ex_then (ex_same (nm_then ?_))))
   refine wr (pN 2 k z fun a k=>nn (wp_ret ?_))
   cases h
   exact finR1 k z (RV.tmp k z) ⟨_,Ab,z,m.ext,(Enc.ow_agr Ap (m.a 0 z)),(m.fresh 0 z)⟩
 exact ⟨([]:List Carton),(.slice (some ⟨g5,0,none⟩) 0 0),[g5],w6,0,k.keep [3,7,8,9] z,m.sel [0] z (by decide),Ba,h⟩
theorem c_slices_Clone_impl_Spot_impl_Spot (fu:Nat) {w0:World} (Ab:List Spot) {v2:Value} {F3:List Nat} (Aa:rd w0 F3 [v2] Ab) {r:(List Spot)}
    (h:d_slices_Clone_impl_Spot_impl_Spot fu Ab = some r) :
    Calls Tryz.prog 231 #[v2] w0 fun e w=>∃ (v0:Value) (G0:List Nat),e = .returned (v0) ∧ Ext [] w0 w ∧ ow w G0 [v0] r ∧ (∀ b ∈ G0,w0.heap.size ≤ b):=by
 refine enter (vs:=[_]) func231 z ntmps231 z fun a k=>?_
 have m:=St.start w0
 unfold d_slices_Clone_impl_Spot_impl_Spot at h
 refine wr (pN 1 k z fun a k=>nn (wp_seq (wr (pN 1 k z fun a k=>?_))))
 obtain ⟨Af,Al,Ae⟩:=r_nilq Aa
 refine sv k z (Ae k underlying56 z z z) fun a k=>nn (c_cond (b:=Af) k z (fun Ac=>?_) (fun Ac=>?_))
 · have Ai:=Al Ac
   rw [Ai] at h
   have h:some (([]:List Spot)) = some r:=h
   refine wr (pN 1 k z fun a k=>nn (wp_ret (rt_then ?_)))
   cases h
   exact finR1 k z (RV.tmp k z) ⟨_,[],z,m.ext,(ow_nil _),(by simp)⟩
 refine wp_skip (nm_then ?_)
 refine wr (s_bs (cs:=[]) (ps:=[]) te56 m k z z z z z z z (by decide) z (by exact (List.forall_mem_nil _)) fun Aq Ao Am a k m e Ad=>?_)
 have Ah:=ow_bx Ad ([]:List Spot) z z z
 refine pN 1 k z fun a k=>oE h fun Ap Ag h=>s_appF Ag te56 z m 0 Ah (News.rd (Enc.rd_agr Aa (m.a00 (Enc.rd_lt Aa)))) z z k z z z z z z z fun Ar Aj As a k e m Ak=>pN 1 k z fun a k=>nn (wp_ret ?_)
 cases h
 exact finR1 k z (RV.tmp k z) ⟨_,Aj,z,m.ext,(Enc.ow_agr Ak (m.a 0 z)),(m.fresh 0 z)⟩
theorem c_impl_clonePlan (fu:Nat) {w0:World} (x1:Plan) {Al:List Value} {F3:List Nat} (Ar:rd w0 F3 Al x1) {r:Plan}
    (h:d_impl_clonePlan fu x1 = some r) :
    Calls Tryz.prog 132 #[.agg Al.toArray] w0 fun e w=>∃ (Af:List Value) (G0:List Nat),e = .returned (.agg Af.toArray) ∧ Ext [] w0 w ∧ ow w G0 Af r ∧ (∀ b ∈ G0,w0.heap.size ≤ b):=by
 refine enter (vs:=[_]) func132 z ntmps132 z fun a k=>?_
 have m:=St.start w0
 obtain ⟨v5,F6,v7,F8,rfl,rfl,Ai,Ag⟩:=Ar
 unfold d_impl_clonePlan at h
 refine wr (s_box (cs:=[v5,v7]) m k z z z z z z fun Bc Ba a k m e Ak=>s_alloc (cs:=[.slice none 0 0,.slice none 0 0]) m k zeroValue58 z z z z z fun Ao Bg a k m e At=>nn (wp_seq (d_go ([Ao]) mixo m z fun As hMd=>?_)))
 have m:=hMd
 have s:=Ext.refl (([Ao]):List Nat) As
 refine dt k 0 z (by kernel_rfl) z s (fun _ _ _=>id) (fun w s=>r_fa fa58_0 k z z) fun a k=>dt k 1 z (by kernel_rfl) z s (fun _ _ _=>id) (fun w s=>r_ld1 t155 (r:=[]) (Ak.at (hMd.az 1 0 z z z s) 0 1 z z z) k z z) fun a k=>dt k 3 z (by kernel_rfl) z s (fun _ _ _=>id) (fun w s=>r_fa fa58_1 k z z) fun a k=>dt k 4 z (by kernel_rfl) z s (fun _ _ _=>id) (fun w s=>r_ld1 t156 (r:=[]) (Ak.at (hMd.az 1 0 z z z s) 1 1 z z z) k z z) fun a k=>d_one 2 (by kernel_rfl) z (oE h fun Bd Ap h=>s_call k call230 z z z z z (c_impl_cloneCartons fu _ (Enc.rd_agr Ai (m.a00 (Enc.rd_lt Ai))) Ap) fun Ax Az hR=>?_)
 obtain ⟨Ae,Ad,rfl,e,Aa,Aj⟩:=hR
 refine ⟨_,z,fun a k=>?_⟩
 have m:=m.new e Ad (fun b hb=>⟨Aj b hb,Enc.rd_lt (Enc.ow_rd Aa) b hb⟩) (Enc.ow_nd Aa)
 have Aw:=fun (y:Nat) (hy:y ∈ Ad)=>Nat.le_trans s.size (Aj y hy)
 have s:=s.trans e (by simp)
 refine wpList_nil ⟨s,?_⟩
 refine d_one 5 (by kernel_rfl) z (oE h fun Ay Aq h=>s_call k call231 z z z z z (c_slices_Clone_impl_Spot_impl_Spot fu _ (Enc.rd_agr Ag (m.a00 (Enc.rd_lt Ag))) Aq) fun Bb Av hR=>?_)
 obtain ⟨Ah,Ac,rfl,e,Ab,Am⟩:=hR
 refine ⟨_,z,fun a k=>?_⟩
 have m:=m.new e Ac (fun b hb=>⟨Am b hb,Enc.rd_lt (Enc.ow_rd Ab) b hb⟩) (Enc.ow_nd Ab)
 have Be:=fun (y:Nat) (hy:y ∈ Ac)=>Nat.le_trans s.size (Am y hy)
 have s:=s.trans e (by simp)
 refine wpList_nil ⟨s,?_⟩
 refine dt k 6 z (by kernel_rfl) z s (fun _ _ _=>id) (fun w s=>r_build bt58 k (cs:=#[Ae,Ah]) (ps:=[(0,.tmp 5),(1,.tmp 8)]) z z (fillc z (rd_c (Enc.ow_rd Aa)) z (fillc z (rd_c (Enc.ow_rd Ab)) z z))) fun a k=>d_one 7 (by kernel_rfl) z (s_stb (cs':=[Ae,Ah]) sizeOf58 m 2 At 0 k z z z z z z z z z z (allc (rd_o (Enc.ow_rd Aa)) (allc (rd_o (Enc.ow_rd Ab)) alln)) fun Bf a k e m Au=>?_)
 have s:=s.trans e (fun y hy=>Or.inl hy)
 refine wpList_nil ⟨s,?_⟩
 refine d_done (by kernel_rfl) ((nm_then ?_))
 refine wp_ret ?_
 cases h
 exact finR1 k z (RV.cA k z ta58 (Au.at (m.a 2 z) 0 2 z z z) z) ⟨_,_,z,m.ext,⟨_,Ad,_,Ac,z,z,(Enc.ow_agr Aa (m.a 1 z)),(Enc.ow_agr Ab (m.a 0 z)),by simpa [fps] using (m.sel [1,0] z (by decide)).nd⟩,(app_fresh (m.fresh 1 z) (m.fresh 0 z))⟩
theorem c_impl_Swapped_1 (fu:Nat) {w0:World} (Ac:Box) (Aa:Spot) (x3:Int) (x6:Int) {b4:Nat} (Ad:bx w0 b4 [I x3] 3) {b7:Nat} (Ae:bx w0 b7 [I x6] 3) {r:Spot}
    (h:d_impl_Swapped_1 fu Ac Aa x3 x6 = some r) :
    Calls Tryz.prog 141 #[.agg (Flat.e (Ac)).toArray,.agg (Flat.e (Aa)).toArray,.pointer (some (⟨b4,0,none⟩:Addr)),.pointer (some (⟨b7,0,none⟩:Addr))] w0 fun e w=>e = .returned (.agg (Flat.e r).toArray) ∧ Ext [] w0 w:=by
 refine enter (vs:=[_,_,_,_]) func141 z ntmps141 z fun a k=>?_
 have m:=St.start w0
 unfold d_impl_Swapped_1 at h
 refine wr (s_box (cs:=[I Ac.fW,I Ac.fD,I Ac.fH,I Ac.fGram]) m k z z z z z z fun b9 Ax a k m e Av=>s_box (cs:=[I Aa.fPallet,I Aa.fX,I Aa.fY,I Aa.fZ]) m k z z z z z z fun Ag Am a k m e Af=>s_alloc (cs:=[I 0,I 0,I 0,I 0]) m k zeroValue89 z z z z z fun Ai Ar a k m e As=>nn (c_cut (fun a w=>∃ (Ab:Spot) (Ah:World),K 20 [(5,.pointer (some (⟨Ag,0,none⟩:Addr))),(6,.pointer (some (⟨Ai,0,none⟩:Addr)))] a ∧ St [] w0 w [([Ag],Ah),([Ai],Ar)] ∧ bx Ah Ag [I Ab.fPallet,I Ab.fX,I Ab.fY,I Ab.fZ] 89 ∧ d_impl_Swapped_1_J1 fu Ab = some r) ?_ ?_))
 · rintro a Aw ⟨Ab,Ah,k,m,Ap,h⟩
   unfold d_impl_Swapped_1_J1 at h
   refine wr (sv k z (r_ldB ta89 m 0 Ap 0 k z z z z z z) fun a k=>s_stb (cs':=[I Ab.fPallet,I Ab.fX,I Ab.fY,I Ab.fZ]) sizeOf89 m 1 As 0 k z z z z z z z z z z z fun Ay a k e m At=>nn (wp_ret ?_))
   cases h
   exact finR1 k z (RV.cA k z ta89 (At.at (m.a 1 z) 0 4 z z z) z) ⟨z,m.ext⟩
 refine wr (sv k z (r_fa fa89_0 k z z) fun a k=>sv k z (r_ldb t13 m 1 Af 0 k z z z z z) fun a k=>nn (wp_block (wr (sv k z (r_ld1 t13 (r:=[]) (Ad.at (m.a00 Ad.lt1) 0 1 z z z) k z z) fun a k=>pN 2 k z fun a k=>nn (cI h k z (fun Aq h=>?_) fun Aq h=>?_)))))
 · refine wp_region_lit (sv k z (r_ld1 t13 (r:=[]) (Ae.at (m.a00 Ae.lt1) 0 1 z z z) k z z) fun a k=>sv k z (r_fa fa89_0 k z z) fun a k=>s_stb (cs':=[I x6,I Aa.fX,I Aa.fY,I Aa.fZ]) sizeOf3 m 1 Af 0 k z z z z z z z z z z z fun Ak a k e m Ao=>wpList_nil (nm_block (nm_then ?_)))
   exact ⟨(⟨x6,Aa.fX,Aa.fY,Aa.fZ⟩:Spot),Ak,k.keep [5,6] z,m.sel [1,0] z (by decide),Ao,h⟩
 refine wr (sv k z (r_ld1 t13 (r:=[]) (Ae.at (m.a00 Ae.lt1) 0 1 z z z) k z z) fun a k=>pN 2 k z fun a k=>nn (cI h k z (fun Aj h=>?_) fun Aj h=>?_))
 · refine wp_region_lit (sv k z (r_ld1 t13 (r:=[]) (Ad.at (m.a00 Ad.lt1) 0 1 z z z) k z z) fun a k=>sv k z (r_fa fa89_0 k z z) fun a k=>s_stb (cs':=[I x3,I Aa.fX,I Aa.fY,I Aa.fZ]) sizeOf3 m 1 Af 0 k z z z z z z z z z z z fun Au a k e m Al=>wpList_nil (nm_block (nm_then ?_)))
   exact ⟨(⟨x3,Aa.fX,Aa.fY,Aa.fZ⟩:Spot),Au,k.keep [5,6] z,m.sel [1,0] z (by decide),Al,h⟩
 refine wp_skip (nm_block (nm_then ?_))
 exact ⟨Aa,Am,k.keep [5,6] z,m.sel [1,0] z (by decide),Af,h⟩
theorem c_impl_turned (fu:Nat) {w0:World} (r1:Request) (x5:Plan) (f9:Box → Spot → Option Spot) {Bf:List Value} {F3:List Nat} (Ca:rd w0 F3 Bf r1) {Bi:List Value} {F7:List Nat} (Cf:rd w0 F7 Bi x5) {Bs:Value} (Cl:FnOk2 Tryz.prog w0 Bs f9) {r:Plan}
    (h:d_impl_turned fu r1 x5 f9 = some r) :
    Calls Tryz.prog 140 #[.agg Bf.toArray,.agg Bi.toArray,Bs] w0 fun e w=>∃ (Bh:List Value) (G0:List Nat),e = .returned (.agg Bh.toArray) ∧ Ext [] w0 w ∧ ow w G0 Bh r ∧ (∀ b ∈ G0,w0.heap.size ≤ b):=by
 refine enter (vs:=[_,_,_]) func140 z ntmps140 z fun a k=>?_
 have m:=St.start w0
 obtain ⟨Bb,Dw,Av,Dt,As,Dq,rfl,rfl,Ak,Ao,Ai⟩:=Ca
 obtain ⟨Ah,Do,Au,Ds,rfl,rfl,Aa,Ab⟩:=Cf
 obtain ⟨Ck,Cx,rfl,Cc,Co⟩:=Cl
 unfold d_impl_turned at h
 refine wr (s_box (cs:=[I r1.fWay,I r1.fPallet.fW,I r1.fPallet.fD,I r1.fPallet.fH,I r1.fPallet.fGram,I r1.fClasses,Bb,Av,I r1.fMaster,As]) m k z z z z z z fun Bt Bw a k m e Bn=>s_box (cs:=[Ah,Au]) m k z z z z z z fun Br Ci a k m e Al=>s_alloc (cs:=[.slice none 0 0,.slice none 0 0]) m k zeroValue58 z z z z z fun Bk Ce a k m e Bj=>nn (wr (sv k z (r_ldB ta58 m 1 Al 0 k z z z z z z) fun a k=>oE h fun Bp Cp h=>s_call k call132 z z z z z (c_impl_clonePlan fu _ (show rd _ _ [Ah,Au] (x5:Plan) from ⟨_,_,_,_,z,z,(Enc.rd_agr Aa (m.a00 (Enc.rd_lt Aa))),(Enc.rd_agr Ab (m.a00 (Enc.rd_lt Ab)))⟩) Cp) fun Df Bm hR=>?_)))
 obtain ⟨Db,Bz,rfl,e,Bc,Cn⟩:=hR
 refine ⟨_,z,fun a k=>?_⟩
 have m:=m.new e Bz (fun b hb=>⟨Cn b hb,Enc.rd_lt (Enc.ow_rd Bc) b hb⟩) (Enc.ow_nd Bc)
 obtain ⟨Ap,Ba,At,Bg,rfl,rfl,Ag,Aj,_⟩:=Bc
 have m:=m.split2
 refine s_alloc (cs:=[.slice none 0 0,.slice none 0 0]) m k zeroValue58 z z z z z fun Az De a k m e Cu=>s_stb (cs':=[Ap,At]) sizeOf58 m 0 Cu 0 k z z z z z z z z z z (allc (rd_o (Enc.ow_rd Ag)) (allc (rd_o (Enc.ow_rd Aj)) alln)) fun Cv a k e m Bl=>nn (wp_seq (wr (sv k z (r_ldB ta38 m 5 Bn 0 k z z z z z z) fun a k=>sv k z (r_ldB ta58 m 4 Al 0 k z z z z z z) fun a k=>oE h fun Dl Bv h=>?_)))
 refine cE k m call38 z z z (c_impl_Feasible fu _ _ (show rd _ _ [I r1.fWay,I r1.fPallet.fW,I r1.fPallet.fD,I r1.fPallet.fH,I r1.fPallet.fGram,I r1.fClasses,Bb,Av,I r1.fMaster,As] (r1:Request) from ⟨_,_,_,_,_,_,z,z,(Enc.rd_agr Ak (m.a00 (Enc.rd_lt Ak))),(Enc.rd_agr Ao (m.a00 (Enc.rd_lt Ao))),(Enc.rd_agr Ai (m.a00 (Enc.rd_lt Ai)))⟩) (show rd _ _ [Ah,Au] (x5:Plan) from ⟨_,_,_,_,z,z,(Enc.rd_agr Aa (m.a00 (Enc.rd_lt Aa))),(Enc.rd_agr Ab (m.a00 (Enc.rd_lt Ab)))⟩) Bv) fun Dy e a k m=>pN 1 k z fun a k=>nn (cI h k z (fun Cr h=>?_) fun Cr h=>?_)
 · refine wr (sv k z (r_ldB ta58 m 0 Bl 0 k z z z z z z) fun a k=>s_stb (cs':=[Ap,At]) sizeOf58 m 3 Bj 0 k z z z z z z z z z z (allc (rd_o (Enc.ow_rd Ag)) (allc (rd_o (Enc.ow_rd Aj)) alln)) fun Dr a k e m Cb=>nn (wp_ret (rt_then ?_)))
   cases h
   exact finR1 k z (RV.cA k z ta58 (Cb.at (m.a 3 z) 0 2 z z z) z) ⟨_,_,z,m.ext,⟨_,Ba,_,Bg,z,z,(Enc.ow_agr Ag (m.a 1 z)),(Enc.ow_agr Aj (m.a 2 z)),by simpa [fps] using (m.sel [1,2] z (by decide)).nd⟩,(app_fresh (m.fresh 1 z) (m.fresh 2 z))⟩
 refine wp_skip (nm_then ?_)
 refine wp_seq (wr (sv k z (r_fa fa58_0 k z z) fun a k=>sv k z (r_ldb t155 m 4 Al 0 k z z z z z) fun a k=>sv k z (r_len (α:=Carton) Aa k underlying55 z z) fun a k=>pN 1 k z fun a k=>nn (wp_block ?_)))
 refine c_loop (fun n a w=>∃ (Am:List Spot) (Ad:Value) (Ac:List Nat) (Ay:World) (Aq:World) (Af:Int),K 41 [(2,(.func (.func Ck) #[] Cx.toArray)),(3,.pointer (some (⟨Bt,0,none⟩:Addr))),(4,.pointer (some (⟨Br,0,none⟩:Addr))),(6,.pointer (some (⟨Bk,0,none⟩:Addr))),(7,.pointer (some (⟨Az,0,none⟩:Addr))),(18,Ah),(19,I ((x5.fCartons.length:Int))),(20,I Af)] a ∧ St [] w0 w [([Bt],Bw),([Br],Ci),([Bk],Ce),(Ac,Ay),([Az],Aq),(Ba,Bm)] ∧ ow Ay Ac [Ad] Am ∧ bx Aq Az [Ap,Ad] 58 ∧ d_impl_turned_L1 fu r1 x5 f9 Bp n Am Af = some r) ?_ ?_ fu _ _ ?_
 · rintro a w ⟨_,_,_,_,_,_,_,_,_,_,h⟩
   exact nS h
 · rintro Da a Cz ⟨Am,Ad,Ac,Ay,Aq,Af,k,m,Ar,Ax,h⟩
   rw [d_impl_turned_L1_s] at h
   unfold d_impl_turned_L1_B at h
   refine wr (pN 1 k z fun a k=>nn (wp_seq (cI h k z (fun Cs h=>?_) fun Cs h=>?_)))
   · refine wp_skip (nm_then ?_)
     refine wp_seq (wp_block (wr (pN 1 k z fun a k=>oE h fun Ae Bo h=>sv k z (r_ixa Aa Bo k ts55 z z z) fun a k=>?_)))
     obtain ⟨Dh,Dd,Dk,Cy,Bx,Ch⟩:=rd_get Aa (ix_some Bo).2.2
     obtain ⟨Bq,_,rfl,rfl,Aw⟩:=Cy
     refine sv k z (r_ldA ta83 (Bx.agr (m.a00 (Enc.rd_lt Aa)) Ch) z k z z) fun a k=>s_alloc (cs:=[I 0,I 0,.slice none 0 0]) m k zeroValue83 z z z z z fun Du Dc a k m e Cw=>pN 1 k z fun a k=>s_stb (cs':=[I Ae.fType,I Ae.fGroup,Bq]) sizeOf83 m 0 Cw 0 k z z z z z z z z z z (allc z (allc z (allc (rd_o Aw) alln))) fun Dv a k e m Cd=>nn (d_go (Ac) mixo m z fun Cg hMd=>?_)
     have m:=hMd
     have s:=Ext.refl ((Ac):List Nat) Cg
     refine dN [2,3,9] 3 z k (by kernel_rfl) z s (fun _ _ _ _ _=>id) fun a k=>dt k 0 z (by kernel_rfl) z s (fun _ _ _=>id) (fun w s=>r_fa fa58_1 k z z) fun a k=>dt k 1 z (by kernel_rfl) z s (fun _ _ _=>id) (fun w s=>r_ld1 t156 (r:=[]) (Ax.at (hMd.az 5 4 z z z s) 1 1 z z z) k z z) fun a k=>dt k 4 z (by kernel_rfl) z s (fun _ _ _=>id) (fun w s=>r_ldA ta38 (Bn.at (hMd.az 1 4 z z z s) 0 10 z z z) z k z z) fun a k=>dt k 5 z (by kernel_rfl) z s (fun _ _ _=>id) (fun w s=>r_ldA ta83 (Cd.at (hMd.az 0 4 z z z s) 0 3 z z z) z k z z) fun a k=>dt k 7 z (by kernel_rfl) z s (fun _ _ _=>id) (fun w s=>r_fa fa58_1 k z z) fun a k=>?_
     refine dt k 8 z (by kernel_rfl) z s (fun _ _ _=>id) (fun w s=>r_ld1 t156 (r:=[]) (Al.at (hMd.az 2 4 z z z s) 1 1 z z z) k z z) fun a k=>oE h fun Dm Be h=>dt k 10 z (by kernel_rfl) z s (fun _ _ _=>id) (fun w s=>r_ixa Ab Be k ts56 z z z) fun a k=>dt k 11 z (by kernel_rfl) z s (fun _ _ _=>id) (fun w s=>r_lde Ab (hMd.az0 4 z z (Enc.rd_lt Ab) s) Be ta89 k z z) fun a k=>d_one 6 (by kernel_rfl) z (oE h fun Dx Cj h=>?_)
     refine cE k m call56 z z z (c_impl_BoxOf fu _ _ (show rd _ _ [I r1.fWay,I r1.fPallet.fW,I r1.fPallet.fD,I r1.fPallet.fH,I r1.fPallet.fGram,I r1.fClasses,Bb,Av,I r1.fMaster,As] (r1:Request) from ⟨_,_,_,_,_,_,z,z,(Enc.rd_agr Ak (m.a00 (Enc.rd_lt Ak))),(Enc.rd_agr Ao (m.a00 (Enc.rd_lt Ao))),(Enc.rd_agr Ai (m.a00 (Enc.rd_lt Ai)))⟩) (show rd _ _ [I Ae.fType,I Ae.fGroup,Bq] (Ae:Carton) from ⟨_,_,z,z,(Enc.rd_agr Aw (m.a00 (Enc.rd_lt Aw)))⟩) Cj) fun Dg e a k m=>?_
     have s:=s.trans e (by simp)
     refine wpList_nil ⟨s,?_⟩
     refine d_one 12 (by kernel_rfl) z (oE h fun Bd Cm h=>s_callv k Cc z z z z z z (Co _ _ _ _ _ _ m.ext z z Cm) fun Dj Dn hR=>?_)
     obtain ⟨rfl,e⟩:=hR
     refine ⟨_,z,fun a k=>?_⟩
     have m:=m.step e
     have s:=s.trans e (by simp)
     refine wpList_nil ⟨s,?_⟩
     refine oE h fun Di Bu h=>dt k 13 z (by kernel_rfl) z s (fun _ _ _=>id) (fun w s=>r_ixa (Enc.ow_rd Ar) Bu k ts56 z z z) fun a k=>d_one 14 (by kernel_rfl) z (s_ste (α:=Spot) (sz:=4) (y:=Bd) sizeOf89 Bu m 4 Ar 0 k z z z z z z z z z z z z fun By a k e m Cq=>?_)
     have s:=s.trans e (fun y hy=>Or.inl hy)
     refine wpList_nil ⟨s,?_⟩
     refine d_done (by kernel_rfl) ((nm_block (nm_then ?_)))
     refine wp_region_lit (pN 2 k z fun a k=>nn ?_)
     exact ⟨setx Am Af Bd,Ad,Ac,By,Aq,w64 (Af + 1),k.keep [2,3,4,6,7,18,19,20] z,m.sel [1,2,3,4,5,6] z (by decide),Cq,Ax,h⟩
   refine wp_exit (ex_then (ex_then (ex_same (nm_then ?_))))
   refine wr (sv k z (r_ldB ta58 m 4 Ax 0 k z z z z z z) fun a k=>s_stb (cs':=[Ap,Ad]) sizeOf58 m 2 Bj 0 k z z z z z z z z z z (allc (rd_o (Enc.ow_rd Ag)) (allc (rd_o (Enc.ow_rd Ar)) alln)) fun Dp a k e m Ct=>nn (wp_ret ?_))
   cases h
   exact finR1 k z (RV.cA k z ta58 (Ct.at (m.a 2 z) 0 2 z z z) z) ⟨_,_,z,m.ext,⟨_,Ba,_,Ac,z,z,(Enc.ow_agr Ag (m.a 5 z)),(Enc.ow_agr Ar (m.a 3 z)),by simpa [fps] using (m.sel [5,3] z (by decide)).nd⟩,(app_fresh (m.fresh 5 z) (m.fresh 3 z))⟩
 exact ⟨Bp.fSpots,At,Bg,Bm,Cv,0,k.keep [2,3,4,6,7,18,19,20] z,m.sel [5,4,3,2,0,1] z (by decide),Aj,Bl,h⟩
theorem c_impl_Swapped (fu:Nat) {w0:World} (r1:Request) (x5:Plan) (a9:Int) (Ad:Int) {As:List Value} {F3:List Nat} (Bk:rd w0 F3 As r1) {Aw:List Value} {F7:List Nat} (Bq:rd w0 F7 Aw x5) {r:Plan}
    (h:d_impl_Swapped fu r1 x5 a9 Ad = some r) :
    Calls Tryz.prog 47 #[.agg As.toArray,.agg Aw.toArray,I a9,I Ad] w0 fun e w=>∃ (Av:List Value) (G0:List Nat),e = .returned (.agg Av.toArray) ∧ Ext [] w0 w ∧ ow w G0 Av r ∧ (∀ b ∈ G0,w0.heap.size ≤ b):=by
 refine enter (vs:=[_,_,_,_]) func47 z ntmps47 z fun a k=>?_
 have m:=St.start w0
 obtain ⟨Ba,Cw,Bd,Dl,Ar,Dw,rfl,rfl,Ax,Ay,Bf⟩:=Bk
 obtain ⟨Af,Dg,Ag,De,rfl,rfl,Ab,Aa⟩:=Bq
 unfold d_impl_Swapped at h
 refine wr (s_box (cs:=[I r1.fWay,I r1.fPallet.fW,I r1.fPallet.fD,I r1.fPallet.fH,I r1.fPallet.fGram,I r1.fClasses,Ba,Bd,I r1.fMaster,Ar]) m k z z z z z z fun Aq Cu a k m e Bs=>s_box (cs:=[Af,Ag]) m k z z z z z z fun At Bw a k m e Ae=>s_box (cs:=[I a9]) m k z z z z z z fun Ai Cp a k m e Bg=>s_box (cs:=[I Ad]) m k z z z z z z fun Am Cm a k m e Bh=>s_alloc (cs:=[.slice none 0 0,.slice none 0 0]) m k zeroValue58 z z z z z fun Bc Bi a k m e Aj=>nn (wr (sv k z (r_fa fa58_1 k z z) fun a k=>sv k z (r_ldb t156 m 3 Ae 1 k z z z z z) fun a k=>oE h fun Da Bt h=>?_)))
 refine cE k m call58 z z z (c_impl_Pallets fu _ (Enc.rd_agr Aa (m.a00 (Enc.rd_lt Aa))) Bt) fun Cx e a k m=>pN 2 k z fun a k=>nn (c_cut (fun a w=>K 30 [(4,.pointer (some (⟨Aq,0,none⟩:Addr))),(5,.pointer (some (⟨At,0,none⟩:Addr))),(6,.pointer (some (⟨Ai,0,none⟩:Addr))),(7,.pointer (some (⟨Am,0,none⟩:Addr))),(8,.pointer (some (⟨Bc,0,none⟩:Addr)))] a ∧ St [] w0 w [([Aq],Cu),([At],Bw),([Ai],Cp),([Am],Cm),([Bc],Bi)] ∧ d_impl_Swapped_J1 fu r1 x5 a9 Ad = some r) ?_ ?_)
 · rintro a Dk ⟨k,m,h⟩
   unfold d_impl_Swapped_J1 at h
   refine wr (sv k z (r_ldB ta38 m 0 Bs 0 k z z z z z z) fun a k=>sv k z (r_ldB ta58 m 1 Ae 0 k z z z z z z) fun a k=>pN 1 k z fun a k=>oE h fun Dy Cn h=>?_)
   refine s_call k call140 z z z z z (c_impl_turned fu _ _ _ (show rd _ _ [I r1.fWay,I r1.fPallet.fW,I r1.fPallet.fD,I r1.fPallet.fH,I r1.fPallet.fGram,I r1.fClasses,Ba,Bd,I r1.fMaster,Ar] (r1:Request) from ⟨_,_,_,_,_,_,z,z,(Enc.rd_agr Ax (m.a00 (Enc.rd_lt Ax))),(Enc.rd_agr Ay (m.a00 (Enc.rd_lt Ay))),(Enc.rd_agr Bf (m.a00 (Enc.rd_lt Bf)))⟩) (show rd _ _ [Af,Ag] (x5:Plan) from ⟨_,_,_,_,z,z,(Enc.rd_agr Ab (m.a00 (Enc.rd_lt Ab))),(Enc.rd_agr Aa (m.a00 (Enc.rd_lt Aa)))⟩) ⟨141,[.pointer (some (⟨Ai,0,none⟩:Addr)),.pointer (some (⟨Am,0,none⟩:Addr))],z,call141,fun w Df Do Ds Dx r e Cq Bu hx=>by subst Cq; subst Bu; have m:=m.step e; exact c_impl_Swapped_1 fu _ _ _ _ (Bg.agr (m.a 2 rfl) (by simp)) (Bh.agr (m.a 3 rfl) (by simp)) hx⟩ Cn) fun Cy Dd hR=>?_
   obtain ⟨Cv,Bx,rfl,e,Al,Cg⟩:=hR
   refine ⟨_,z,fun a k=>?_⟩
   have m:=m.new e Bx (fun b hb=>⟨Cg b hb,Enc.rd_lt (Enc.ow_rd Al) b hb⟩) (Enc.ow_nd Al)
   obtain ⟨Br,Cl,Cc,Cd,rfl,rfl,Az,Be,_⟩:=Al
   have m:=m.split2
   refine s_stb (cs':=[Br,Cc]) sizeOf58 m 6 Aj 0 k z z z z z z z z z z (allc (rd_o (Enc.ow_rd Az)) (allc (rd_o (Enc.ow_rd Be)) alln)) fun Dt a k e m Ct=>nn (wp_ret ?_)
   cases h
   exact finR1 k z (RV.cA k z ta58 (Ct.at (m.a 6 z) 0 2 z z z) z) ⟨_,_,z,m.ext,⟨_,Cl,_,Cd,z,z,(Enc.ow_agr Az (m.a 0 z)),(Enc.ow_agr Be (m.a 1 z)),by simpa [fps] using (m.sel [0,1] z (by decide)).nd⟩,(app_fresh (m.fresh 0 z) (m.fresh 1 z))⟩
 refine wr (sv k z (r_ldb t13 m 2 Bg 0 k z z z z z) fun a k=>pN 1 k z fun a k=>oE h fun Cb Bj h=>cE k m call139 z z z (c_impl_in fu _ _ _  Bj) fun Cz e a k m=>pN 2 k z fun a k=>bsplit (!Cb) (fun Ac=>?_) (fun Ac=>?_))
 · have h:=bif_t Ac h
   refine rB k 18 z Ac fun k=>pN 5 k z fun a k=>nn (wp_cond_true (k.ev z) (wr (sv k z (r_ldB ta58 m 3 Ae 0 k z z z z z z) fun a k=>oE h fun Dj Cf h=>s_call k call132 z z z z z (c_impl_clonePlan fu _ (show rd _ _ [Af,Ag] (x5:Plan) from ⟨_,_,_,_,z,z,(Enc.rd_agr Ab (m.a00 (Enc.rd_lt Ab))),(Enc.rd_agr Aa (m.a00 (Enc.rd_lt Aa)))⟩) Cf) fun Dh Db hR=>?_)))
   obtain ⟨Dn,Ce,rfl,e,Ak,Bl⟩:=hR
   refine ⟨_,z,fun a k=>?_⟩
   have m:=m.new e Ce (fun b hb=>⟨Bl b hb,Enc.rd_lt (Enc.ow_rd Ak) b hb⟩) (Enc.ow_nd Ak)
   obtain ⟨Bp,Ca,Ci,Ck,rfl,rfl,Au,Ao,_⟩:=Ak
   have m:=m.split2
   refine s_stb (cs':=[Bp,Ci]) sizeOf58 m 2 Aj 0 k z z z z z z z z z z (allc (rd_o (Enc.ow_rd Au)) (allc (rd_o (Enc.ow_rd Ao)) alln)) fun Dm a k e m Cr=>nn (wp_ret (rt_then ?_))
   cases h
   exact finR1 k z (RV.cA k z ta58 (Cr.at (m.a 2 z) 0 2 z z z) z) ⟨_,_,z,m.ext,⟨_,Ca,_,Ck,z,z,(Enc.ow_agr Au (m.a 0 z)),(Enc.ow_agr Ao (m.a 1 z)),by simpa [fps] using (m.sel [0,1] z (by decide)).nd⟩,(app_fresh (m.fresh 0 z) (m.fresh 1 z))⟩
 have h:=bif_f Ac h
 refine rB k 18 z Ac fun k=>sv k z (r_ldb t13 m 1 Bh 0 k z z z z z) fun a k=>pN 1 k z fun a k=>oE h fun Dr Bo h=>cE k m call139 z z z (c_impl_in fu _ _ _  Bo) fun Dq e a k m=>pN 2 k z fun a k=>nn (cI h k z (fun Ch h=>?_) fun Ch h=>?_)
 · refine wr (sv k z (r_ldB ta58 m 3 Ae 0 k z z z z z z) fun a k=>oE h fun Dv Bn h=>s_call k call132 z z z z z (c_impl_clonePlan fu _ (show rd _ _ [Af,Ag] (x5:Plan) from ⟨_,_,_,_,z,z,(Enc.rd_agr Ab (m.a00 (Enc.rd_lt Ab))),(Enc.rd_agr Aa (m.a00 (Enc.rd_lt Aa)))⟩) Bn) fun Dc Dp hR=>?_)
   obtain ⟨Du,Cj,rfl,e,Ah,Co⟩:=hR
   refine ⟨_,z,fun a k=>?_⟩
   have m:=m.new e Cj (fun b hb=>⟨Co b hb,Enc.rd_lt (Enc.ow_rd Ah) b hb⟩) (Enc.ow_nd Ah)
   obtain ⟨Bm,Cs,Bz,Bv,rfl,rfl,Bb,Ap,_⟩:=Ah
   have m:=m.split2
   refine s_stb (cs':=[Bm,Bz]) sizeOf58 m 2 Aj 0 k z z z z z z z z z z (allc (rd_o (Enc.ow_rd Bb)) (allc (rd_o (Enc.ow_rd Ap)) alln)) fun Di a k e m By=>nn (wp_ret (rt_then ?_))
   cases h
   exact finR1 k z (RV.cA k z ta58 (By.at (m.a 2 z) 0 2 z z z) z) ⟨_,_,z,m.ext,⟨_,Cs,_,Bv,z,z,(Enc.ow_agr Bb (m.a 0 z)),(Enc.ow_agr Ap (m.a 1 z)),by simpa [fps] using (m.sel [0,1] z (by decide)).nd⟩,(app_fresh (m.fresh 0 z) (m.fresh 1 z))⟩
 refine wp_skip (nm_then ?_)
 exact ⟨k.keep [4,5,6,7,8] z,m.sel [4,3,2,1,0] z (by decide),h⟩
theorem c_laws_markPairS (fu:Nat) {w0:World} (a1:List Pair) (Ag:Int) {v2:Value} {F3:List Nat} (Af:ow w0 F3 [v2] a1) {r:Int × (List Pair)}
    (h:d_laws_markPairS fu a1 Ag = some r) :
    Calls Tryz.prog 95 #[v2,I Ag] w0 fun e w=>∃ (H0:List Nat),e = .returned (I r.1) ∧ Ext F3 w0 w ∧ (∀ b ∈ H0,b ∈ F3 ∨ w0.heap.size ≤ b) ∧ ow w H0 [v2] r.2:=by
 refine enter (vs:=[_,_]) func95 z ntmps95 z fun a k=>?_
 have m:=St.start1 w0 (Enc.rd_lt (Enc.ow_rd Af)) (Enc.ow_nd Af)
 unfold d_laws_markPairS at h
 refine wr (pN 1 k z fun a k=>nn (wp_seq (wr (pN 1 k z fun a k=>nn (wp_block (c_loop (fun n a w=>∃ (Ac:List Pair) (Ae:World) (Aa:Int) (Ab:Int),K 27 [(0,v2),(1,I Aa),(5,I Ab)] a ∧ St F3 w0 w [(F3,Ae)] ∧ ow Ae F3 [v2] Ac ∧ d_laws_markPairS_L1 fu  n Ac Aa Ab = some r) ?_ ?_ fu _ _ ?_))))))
 · rintro a w ⟨_,_,_,_,_,_,_,h⟩
   exact nS h
 · rintro Aq a Ar ⟨Ac,Ae,Aa,Ab,k,m,Ad,h⟩
   rw [d_laws_markPairS_L1_s] at h
   unfold d_laws_markPairS_L1_B at h
   refine wp_seq (wr (pN 2 k z fun a k=>sv k z (r_len (α:=Pair) (Enc.ow_rd Ad) k underlying34 z z) fun a k=>pN 1 k z fun a k=>nn (cI h k z (fun Ap h=>?_) fun Ap h=>?_)))
   · refine wp_skip (nm_then ?_)
     refine wp_seq (wp_block (wr (pN 3 k z fun a k=>oE h fun Ah Ak h=>sv k z (r_ixa (Enc.ow_rd Ad) Ak k ts34 z z z) fun a k=>sv k z (r_fa fa180_0 k z z) fun a k=>s_ste (α:=Pair) (sz:=2) (y:={ Ah with fA:=Aa }) sizeOf3 Ak m 0 Ad 0 k z z z z z z z z z z z z fun As a k e m Al=>nn (wr (pN 3 k z fun a k=>nn (wr (pN 3 k z fun a k=>oE h fun Ai Aj h=>sv k z (r_ixa (Enc.ow_rd Al) Aj k ts34 z z z) fun a k=>sv k z (r_fa fa180_1 k z z) fun a k=>s_ste (α:=Pair) (sz:=2) (y:={ Ai with fB:=w64 (Aa + 1) }) sizeOf3 Aj m 0 Al 1 k z z z z z z z z z z z z fun Ao a k e m Am=>nn (wp_region_lit (pN 3 k z fun a k=>wpList_nil (nm_block (nm_then ?_)))))))))))
     refine wp_region_lit (pN 3 k z fun a k=>?_)
     have k:=k.keep [0,1,5] z
     refine nn ?_
     exact ⟨setx (setx Ac Ab ({ Ah with fA:=Aa })) Ab ({ Ai with fB:=w64 (Aa + 1) }),Ao,w64 ((w64 (Aa + 1)) + 1),w64 (Ab + 1),k.keep [0,1,5] z,m.sel [0] z (by decide),Am,h⟩
   refine wp_exit (ex_then (ex_then (ex_same (nm_then ?_))))
   refine wr (pN 2 k z fun a k=>nn (wp_ret ?_))
   cases h
   exact finR1 k z (RV.tmp k z) ⟨F3,z,m.ext,(fun b hb=>m.lo b (mem_fps (i:=0) z hb)),(Enc.ow_agr Ad (m.a 0 z))⟩
 exact ⟨a1,w0,Ag,0,k.keep [0,1,5] z,m.sel [0] z (by decide),Af,h⟩
theorem c_laws_markTypeS (fu:Nat) {w0:World} (a1:List Typ) (Ag:Int) {v2:Value} {F3:List Nat} (Af:ow w0 F3 [v2] a1) {r:Int × (List Typ)}
    (h:d_laws_markTypeS fu a1 Ag = some r) :
    Calls Tryz.prog 96 #[v2,I Ag] w0 fun e w=>∃ (H0:List Nat),e = .returned (I r.1) ∧ Ext F3 w0 w ∧ (∀ b ∈ H0,b ∈ F3 ∨ w0.heap.size ≤ b) ∧ ow w H0 [v2] r.2:=by
 refine enter (vs:=[_,_]) func96 z ntmps96 z fun a k=>?_
 have m:=St.start1 w0 (Enc.rd_lt (Enc.ow_rd Af)) (Enc.ow_nd Af)
 unfold d_laws_markTypeS at h
 refine wr (pN 1 k z fun a k=>nn (wp_seq (wr (pN 1 k z fun a k=>nn (wp_block (c_loop (fun n a w=>∃ (Ad:List Typ) (Ae:World) (Aa:Int) (Ab:Int),K 62 [(0,v2),(1,I Aa),(5,I Ab)] a ∧ St F3 w0 w [(F3,Ae)] ∧ ow Ae F3 [v2] Ad ∧ d_laws_markTypeS_L1 fu  n Ad Aa Ab = some r) ?_ ?_ fu _ _ ?_))))))
 · rintro a w ⟨_,_,_,_,_,_,_,h⟩
   exact nS h
 · rintro Bl a Bh ⟨Ad,Ae,Aa,Ab,k,m,Ac,h⟩
   rw [d_laws_markTypeS_L1_s] at h
   unfold d_laws_markTypeS_L1_B at h
   refine wp_seq (wr (pN 2 k z fun a k=>sv k z (r_len (α:=Typ) (Enc.ow_rd Ac) k underlying35 z z) fun a k=>pN 1 k z fun a k=>nn (cI h k z (fun Be h=>?_) fun Be h=>?_)))
   · refine wp_skip (nm_then ?_)
     refine wp_seq (wp_block (wr (pN 3 k z fun a k=>oE h fun Ay Aq h=>sv k z (r_ixa (Enc.ow_rd Ac) Aq k ts35 z z z) fun a k=>sv k z (r_fa fa79_0 k z z) fun a k=>s_ste (α:=Typ) (sz:=7) (y:={ Ay with fId:=Aa }) sizeOf3 Aq m 0 Ac 0 k z z z z z z z z z z z z fun Bj a k e m Ah=>nn (wr (pN 3 k z fun a k=>nn (wr (pN 3 k z fun a k=>oE h fun Ba As h=>sv k z (r_ixa (Enc.ow_rd Ah) As k ts35 z z z) fun a k=>sv k z (r_fa fa79_1 k z z) fun a k=>s_ste (α:=Typ) (sz:=7) (y:={ Ba with fW:=w64 (Aa + 1) }) sizeOf3 As m 0 Ah 1 k z z z z z z z z z z z z fun Bm a k e m Al=>nn (wr (pN 3 k z fun a k=>nn (wr (pN 3 k z fun a k=>oE h fun Aw Az h=>?_)))))))))))
     refine sv k z (r_ixa (Enc.ow_rd Al) Az k ts35 z z z) fun a k=>sv k z (r_fa fa79_2 k z z) fun a k=>s_ste (α:=Typ) (sz:=7) (y:={ Aw with fH:=w64 ((w64 (Aa + 1)) + 1) }) sizeOf3 Az m 0 Al 2 k z z z z z z z z z z z z fun Bf a k e m Av=>?_
     have k:=k.keep [0,1,5] z
     refine nn (wr (pN 3 k z fun a k=>nn (wr (pN 3 k z fun a k=>oE h fun Ai Aj h=>sv k z (r_ixa (Enc.ow_rd Av) Aj k ts35 z z z) fun a k=>sv k z (r_fa fa79_3 k z z) fun a k=>s_ste (α:=Typ) (sz:=7) (y:={ Ai with fD:=w64 ((w64 ((w64 (Aa + 1)) + 1)) + 1) }) sizeOf3 Aj m 0 Av 3 k z z z z z z z z z z z z fun Bk a k e m Ax=>nn (wr (pN 3 k z fun a k=>nn (wr (pN 3 k z fun a k=>oE h fun Ar Ak h=>sv k z (r_ixa (Enc.ow_rd Ax) Ak k ts35 z z z) fun a k=>sv k z (r_fa fa79_4 k z z) fun a k=>s_ste (α:=Typ) (sz:=7) (y:={ Ar with fTare:=w64 ((w64 ((w64 ((w64 (Aa + 1)) + 1)) + 1)) + 1) }) sizeOf3 Ak m 0 Ax 4 k z z z z z z z z z z z z fun Bg a k e m Ap=>nn (wr (pN 3 k z fun a k=>nn (wr ?_)))))))))))
     refine pN 3 k z fun a k=>oE h fun Am At h=>sv k z (r_ixa (Enc.ow_rd Ap) At k ts35 z z z) fun a k=>sv k z (r_fa fa79_5 k z z) fun a k=>s_ste (α:=Typ) (sz:=7) (y:={ Am with fGram:=w64 ((w64 ((w64 ((w64 ((w64 (Aa + 1)) + 1)) + 1)) + 1)) + 1) }) sizeOf3 At m 0 Ap 5 k z z z z z z z z z z z z fun Bi a k e m Bb=>?_
     have k:=k.keep [0,1,5] z
     refine nn (wr (pN 3 k z fun a k=>nn (wr (pN 3 k z fun a k=>oE h fun Ao Au h=>sv k z (r_ixa (Enc.ow_rd Bb) Au k ts35 z z z) fun a k=>sv k z (r_fa fa79_6 k z z) fun a k=>s_ste (α:=Typ) (sz:=7) (y:={ Ao with fCost:=w64 ((w64 ((w64 ((w64 ((w64 ((w64 (Aa + 1)) + 1)) + 1)) + 1)) + 1)) + 1) }) sizeOf3 Au m 0 Bb 6 k z z z z z z z z z z z z fun Bd a k e m Bc=>nn (wp_region_lit (pN 3 k z fun a k=>wpList_nil (nm_block (nm_then ?_))))))))
     refine wp_region_lit (pN 3 k z fun a k=>nn ?_)
     exact ⟨setx (setx (setx (setx (setx (setx (setx Ad Ab ({ Ay with fId:=Aa })) Ab ({ Ba with fW:=w64 (Aa + 1) })) Ab ({ Aw with fH:=w64 ((w64 (Aa + 1)) + 1) })) Ab ({ Ai with fD:=w64 ((w64 ((w64 (Aa + 1)) + 1)) + 1) })) Ab ({ Ar with fTare:=w64 ((w64 ((w64 ((w64 (Aa + 1)) + 1)) + 1)) + 1) })) Ab ({ Am with fGram:=w64 ((w64 ((w64 ((w64 ((w64 (Aa + 1)) + 1)) + 1)) + 1)) + 1) })) Ab ({ Ao with fCost:=w64 ((w64 ((w64 ((w64 ((w64 ((w64 (Aa + 1)) + 1)) + 1)) + 1)) + 1)) + 1) }),Bd,w64 ((w64 ((w64 ((w64 ((w64 ((w64 ((w64 (Aa + 1)) + 1)) + 1)) + 1)) + 1)) + 1)) + 1),w64 (Ab + 1),k.keep [0,1,5] z,m.sel [0] z (by decide),Bc,h⟩
   refine wp_exit (ex_then (ex_then (ex_same (nm_then ?_))))
   refine wr (pN 2 k z fun a k=>nn (wp_ret ?_))
   cases h
   exact finR1 k z (RV.tmp k z) ⟨F3,z,m.ext,(fun b hb=>m.lo b (mem_fps (i:=0) z hb)),(Enc.ow_agr Ac (m.a 0 z))⟩
 exact ⟨a1,w0,Ag,0,k.keep [0,1,5] z,m.sel [0] z (by decide),Af,h⟩
theorem c_laws_markItemS (fu:Nat) {w0:World} (a1:List Item) (Ag:Int) {v2:Value} {F3:List Nat} (Af:ow w0 F3 [v2] a1) {r:Int × (List Item)}
    (h:d_laws_markItemS fu a1 Ag = some r) :
    Calls Tryz.prog 97 #[v2,I Ag] w0 fun e w=>∃ (H0:List Nat),e = .returned (I r.1) ∧ Ext F3 w0 w ∧ (∀ b ∈ H0,b ∈ F3 ∨ w0.heap.size ≤ b) ∧ ow w H0 [v2] r.2:=by
 refine enter (vs:=[_,_]) func97 z ntmps97 z fun a k=>?_
 have m:=St.start1 w0 (Enc.rd_lt (Enc.ow_rd Af)) (Enc.ow_nd Af)
 unfold d_laws_markItemS at h
 refine wr (pN 1 k z fun a k=>nn (wp_seq (wr (pN 1 k z fun a k=>nn (wp_block (c_loop (fun n a w=>∃ (Ad:List Item) (Ae:World) (Aa:Int) (Ab:Int),K 62 [(0,v2),(1,I Aa),(5,I Ab)] a ∧ St F3 w0 w [(F3,Ae)] ∧ ow Ae F3 [v2] Ad ∧ d_laws_markItemS_L1 fu  n Ad Aa Ab = some r) ?_ ?_ fu _ _ ?_))))))
 · rintro a w ⟨_,_,_,_,_,_,_,h⟩
   exact nS h
 · rintro Bl a Bh ⟨Ad,Ae,Aa,Ab,k,m,Ac,h⟩
   rw [d_laws_markItemS_L1_s] at h
   unfold d_laws_markItemS_L1_B at h
   refine wp_seq (wr (pN 2 k z fun a k=>sv k z (r_len (α:=Item) (Enc.ow_rd Ac) k underlying36 z z) fun a k=>pN 1 k z fun a k=>nn (cI h k z (fun Be h=>?_) fun Be h=>?_)))
   · refine wp_skip (nm_then ?_)
     refine wp_seq (wp_block (wr (pN 3 k z fun a k=>oE h fun Ay Aq h=>sv k z (r_ixa (Enc.ow_rd Ac) Aq k ts36 z z z) fun a k=>sv k z (r_fa fa158_0 k z z) fun a k=>s_ste (α:=Item) (sz:=7) (y:={ Ay with fId:=Aa }) sizeOf3 Aq m 0 Ac 0 k z z z z z z z z z z z z fun Bj a k e m Ah=>nn (wr (pN 3 k z fun a k=>nn (wr (pN 3 k z fun a k=>oE h fun Ba As h=>sv k z (r_ixa (Enc.ow_rd Ah) As k ts36 z z z) fun a k=>sv k z (r_fa fa158_1 k z z) fun a k=>s_ste (α:=Item) (sz:=7) (y:={ Ba with fW:=w64 (Aa + 1) }) sizeOf3 As m 0 Ah 1 k z z z z z z z z z z z z fun Bm a k e m Al=>nn (wr (pN 3 k z fun a k=>nn (wr (pN 3 k z fun a k=>oE h fun Aw Az h=>?_)))))))))))
     refine sv k z (r_ixa (Enc.ow_rd Al) Az k ts36 z z z) fun a k=>sv k z (r_fa fa158_2 k z z) fun a k=>s_ste (α:=Item) (sz:=7) (y:={ Aw with fH:=w64 ((w64 (Aa + 1)) + 1) }) sizeOf3 Az m 0 Al 2 k z z z z z z z z z z z z fun Bf a k e m Av=>?_
     have k:=k.keep [0,1,5] z
     refine nn (wr (pN 3 k z fun a k=>nn (wr (pN 3 k z fun a k=>oE h fun Ai Aj h=>sv k z (r_ixa (Enc.ow_rd Av) Aj k ts36 z z z) fun a k=>sv k z (r_fa fa158_3 k z z) fun a k=>s_ste (α:=Item) (sz:=7) (y:={ Ai with fD:=w64 ((w64 ((w64 (Aa + 1)) + 1)) + 1) }) sizeOf3 Aj m 0 Av 3 k z z z z z z z z z z z z fun Bk a k e m Ax=>nn (wr (pN 3 k z fun a k=>nn (wr (pN 3 k z fun a k=>oE h fun Ar Ak h=>sv k z (r_ixa (Enc.ow_rd Ax) Ak k ts36 z z z) fun a k=>sv k z (r_fa fa158_4 k z z) fun a k=>s_ste (α:=Item) (sz:=7) (y:={ Ar with fGram:=w64 ((w64 ((w64 ((w64 (Aa + 1)) + 1)) + 1)) + 1) }) sizeOf3 Ak m 0 Ax 4 k z z z z z z z z z z z z fun Bg a k e m Ap=>nn (wr (pN 3 k z fun a k=>nn (wr ?_)))))))))))
     refine pN 3 k z fun a k=>oE h fun Am At h=>sv k z (r_ixa (Enc.ow_rd Ap) At k ts36 z z z) fun a k=>sv k z (r_fa fa158_5 k z z) fun a k=>s_ste (α:=Item) (sz:=7) (y:={ Am with fClass:=w64 ((w64 ((w64 ((w64 ((w64 (Aa + 1)) + 1)) + 1)) + 1)) + 1) }) sizeOf3 At m 0 Ap 5 k z z z z z z z z z z z z fun Bi a k e m Bb=>?_
     have k:=k.keep [0,1,5] z
     refine nn (wr (pN 3 k z fun a k=>nn (wr (pN 3 k z fun a k=>oE h fun Ao Au h=>sv k z (r_ixa (Enc.ow_rd Bb) Au k ts36 z z z) fun a k=>sv k z (r_fa fa158_6 k z z) fun a k=>s_ste (α:=Item) (sz:=7) (y:={ Ao with fCount:=w64 ((w64 ((w64 ((w64 ((w64 ((w64 (Aa + 1)) + 1)) + 1)) + 1)) + 1)) + 1) }) sizeOf3 Au m 0 Bb 6 k z z z z z z z z z z z z fun Bd a k e m Bc=>nn (wp_region_lit (pN 3 k z fun a k=>wpList_nil (nm_block (nm_then ?_))))))))
     refine wp_region_lit (pN 3 k z fun a k=>nn ?_)
     exact ⟨setx (setx (setx (setx (setx (setx (setx Ad Ab ({ Ay with fId:=Aa })) Ab ({ Ba with fW:=w64 (Aa + 1) })) Ab ({ Aw with fH:=w64 ((w64 (Aa + 1)) + 1) })) Ab ({ Ai with fD:=w64 ((w64 ((w64 (Aa + 1)) + 1)) + 1) })) Ab ({ Ar with fGram:=w64 ((w64 ((w64 ((w64 (Aa + 1)) + 1)) + 1)) + 1) })) Ab ({ Am with fClass:=w64 ((w64 ((w64 ((w64 ((w64 (Aa + 1)) + 1)) + 1)) + 1)) + 1) })) Ab ({ Ao with fCount:=w64 ((w64 ((w64 ((w64 ((w64 ((w64 (Aa + 1)) + 1)) + 1)) + 1)) + 1)) + 1) }),Bd,w64 ((w64 ((w64 ((w64 ((w64 ((w64 ((w64 (Aa + 1)) + 1)) + 1)) + 1)) + 1)) + 1)) + 1),w64 (Ab + 1),k.keep [0,1,5] z,m.sel [0] z (by decide),Bc,h⟩
   refine wp_exit (ex_then (ex_then (ex_same (nm_then ?_))))
   refine wr (pN 2 k z fun a k=>nn (wp_ret ?_))
   cases h
   exact finR1 k z (RV.tmp k z) ⟨F3,z,m.ext,(fun b hb=>m.lo b (mem_fps (i:=0) z hb)),(Enc.ow_agr Ac (m.a 0 z))⟩
 exact ⟨a1,w0,Ag,0,k.keep [0,1,5] z,m.sel [0] z (by decide),Af,h⟩
theorem c_laws_markRequest (fu:Nat) {w0:World} (a1:Request) (Ag:Int) {Ad:List Value} {F3:List Nat} (Ab:ow w0 F3 Ad a1) {r:Int × Request}
    (h:d_laws_markRequest fu a1 Ag = some r) :
    Calls Tryz.prog 25 #[.agg Ad.toArray,I Ag] w0 fun e w=>∃ (H0:List Nat),e = .returned (I r.1) ∧ Ext F3 w0 w ∧ (∀ b ∈ H0,b ∈ F3 ∨ w0.heap.size ≤ b) ∧ ow w H0 Ad r.2:=by
 refine enter (vs:=[_,_]) func25 z ntmps25 z fun a k=>?_
 have m:=St.start1 w0 (Enc.rd_lt (Enc.ow_rd Ab)) (Enc.ow_nd Ab)
 obtain ⟨v6,F7,v9,Bd,Ar,Bg,rfl,rfl,Ai,Ap,Al,_⟩:=Ab
 have m:=m.split2
 have m:=m.split2at1
 unfold d_laws_markRequest at h
 refine wr (s_box (cs:=[I a1.fWay,I a1.fPallet.fW,I a1.fPallet.fD,I a1.fPallet.fH,I a1.fPallet.fGram,I a1.fClasses,v6,v9,I a1.fMaster,Ar]) m k z z z z z z fun Bh Bc a k m e Ac=>pN 1 k z fun a k=>nn (wr (sv k z (r_fa fa38_3 k z z) fun a k=>sv k z (r_ldb t134 m 0 Ac 6 k z z z z z) fun a k=>pN 1 k z fun a k=>oE h fun Bf Aj h=>s_call k call95 z z z z z (c_laws_markPairS fu _ _ (Enc.ow_agr Ai (m.a 1 z)) Aj) fun Av Az hR=>?_)))
 obtain ⟨Ao,rfl,e,Ah,Aa⟩:=hR
 refine ⟨_,z,fun a k=>?_⟩
 have m:=m.mut 1 z e _ (fun b hb=>⟨Ah b hb,Enc.rd_lt (Enc.ow_rd Aa) b hb⟩) (Enc.ow_nd Aa)
 refine pN 1 k z fun a k=>nn (wr (sv k z (r_fa fa38_4 k z z) fun a k=>sv k z (r_ldb t135 m 0 Ac 7 k z z z z z) fun a k=>pN 1 k z fun a k=>oE h fun Be As h=>s_call k call96 z z z z z (c_laws_markTypeS fu _ _ (Enc.ow_agr Ap (m.a 2 z)) As) fun Ax Bb hR=>?_))
 obtain ⟨Am,rfl,e,Ak,Ae⟩:=hR
 refine ⟨_,z,fun a k=>?_⟩
 have m:=m.mut 2 z e _ (fun b hb=>⟨Ak b hb,Enc.rd_lt (Enc.ow_rd Ae) b hb⟩) (Enc.ow_nd Ae)
 refine pN 1 k z fun a k=>nn (wr (sv k z (r_fa fa38_6 k z z) fun a k=>sv k z (r_ldb t136 m 0 Ac 9 k z z z z z) fun a k=>pN 1 k z fun a k=>oE h fun Aw At h=>s_call k call97 z z z z z (c_laws_markItemS fu _ _ (Enc.ow_agr Al (m.a 3 z)) At) fun Ay Ba hR=>?_))
 obtain ⟨Aq,rfl,e,Au,Af⟩:=hR
 refine ⟨_,z,fun a k=>?_⟩
 have m:=m.mut 3 z e _ (fun b hb=>⟨Au b hb,Enc.rd_lt (Enc.ow_rd Af) b hb⟩) (Enc.ow_nd Af)
 refine pN 1 k z fun a k=>nn (wr (pN 2 k z fun a k=>nn (wp_ret ?_)))
 cases h
 exact finR1 k z (RV.tmp k z) ⟨Ao ++ (Am ++ (Aq)),z,m.ext,(fun b hb=>(m.sel [1,2,3] z (by decide)).lo b (by simpa [fps] using hb)),⟨_,_,_,_,_,_,z,z,(Enc.ow_agr Aa (m.a 1 z)),(Enc.ow_agr Ae (m.a 2 z)),(Enc.ow_agr Af (m.a 3 z)),by simpa [fps] using (m.sel [1,2,3] z (by decide)).nd⟩⟩
theorem c_laws_markIntS (fu:Nat) {w0:World} (a1:List Int) (Ag:Int) {v2:Value} {F3:List Nat} (Ae:ow w0 F3 [v2] a1) {r:Int × (List Int)}
    (h:d_laws_markIntS fu a1 Ag = some r) :
    Calls Tryz.prog 44 #[v2,I Ag] w0 fun e w=>∃ (H0:List Nat),e = .returned (I r.1) ∧ Ext F3 w0 w ∧ (∀ b ∈ H0,b ∈ F3 ∨ w0.heap.size ≤ b) ∧ ow w H0 [v2] r.2:=by
 refine enter (vs:=[_,_]) func44 z ntmps44 z fun a k=>?_
 have m:=St.start1 w0 (Enc.rd_lt (Enc.ow_rd Ae)) (Enc.ow_nd Ae)
 unfold d_laws_markIntS at h
 refine wr (pN 1 k z fun a k=>nn (wp_seq (wr (pN 1 k z fun a k=>nn (wp_block (c_loop (fun n a w=>∃ (Ac:List Int) (Af:World) (Aa:Int) (Ab:Int),K 19 [(0,v2),(1,I Aa),(5,I Ab)] a ∧ St F3 w0 w [(F3,Af)] ∧ ow Af F3 [v2] Ac ∧ d_laws_markIntS_L1 fu  n Ac Aa Ab = some r) ?_ ?_ fu _ _ ?_))))))
 · rintro a w ⟨_,_,_,_,_,_,_,h⟩
   exact nS h
 · rintro Ao a Am ⟨Ac,Af,Aa,Ab,k,m,Ad,h⟩
   rw [d_laws_markIntS_L1_s] at h
   unfold d_laws_markIntS_L1_B at h
   refine wp_seq (wr (pN 2 k z fun a k=>sv k z (r_len (α:=Int) (Enc.ow_rd Ad) k underlying63 z z) fun a k=>pN 1 k z fun a k=>nn (cI h k z (fun Ai h=>?_) fun Ai h=>?_)))
   · refine wp_skip (nm_then ?_)
     refine wp_seq (wp_block (wr (pN 3 k z fun a k=>oE h fun Al Ah h=>sv k z (r_ixa (Enc.ow_rd Ad) Ah k ts63 z z z) fun a k=>s_ste (α:=Int) (sz:=1) (y:=Aa) sizeOf3 Ah m 0 Ad 0 k z z z z z z z z z z z z fun Ak a k e m Aj=>nn (wp_region_lit (pN 3 k z fun a k=>wpList_nil (nm_block (nm_then ?_)))))))
     refine wp_region_lit (pN 3 k z fun a k=>nn ?_)
     exact ⟨setx Ac Ab Aa,Ak,w64 (Aa + 1),w64 (Ab + 1),k.keep [0,1,5] z,m.sel [0] z (by decide),Aj,h⟩
   refine wp_exit (ex_then (ex_then (ex_same (nm_then ?_))))
   refine wr (pN 2 k z fun a k=>nn (wp_ret ?_))
   cases h
   exact finR1 k z (RV.tmp k z) ⟨F3,z,m.ext,(fun b hb=>m.lo b (mem_fps (i:=0) z hb)),(Enc.ow_agr Ad (m.a 0 z))⟩
 exact ⟨a1,w0,Ag,0,k.keep [0,1,5] z,m.sel [0] z (by decide),Ae,h⟩
theorem c_laws_markCartonS (fu:Nat) {w0:World} (a1:List Carton) (Ap:Int) {v2:Value} {F3:List Nat} (Aj:ow w0 F3 [v2] a1) {r:Int × (List Carton)}
    (h:d_laws_markCartonS fu a1 Ap = some r) :
    Calls Tryz.prog 134 #[v2,I Ap] w0 fun e w=>∃ (H0:List Nat),e = .returned (I r.1) ∧ Ext F3 w0 w ∧ (∀ b ∈ H0,b ∈ F3 ∨ w0.heap.size ≤ b) ∧ ow w H0 [v2] r.2:=by
 refine enter (vs:=[_,_]) func134 z ntmps134 z fun a k=>?_
 have m:=St.start1 w0 (Enc.rd_lt (Enc.ow_rd Aj)) (Enc.ow_nd Aj)
 unfold d_laws_markCartonS at h
 refine wr (pN 1 k z fun a k=>nn (wp_seq (wr (pN 1 k z fun a k=>nn (wp_block (c_loop (fun n a w=>∃ (Ah:List Carton) (Am:World) (Ag:List Nat) (Aa:Int) (Ab:Int),K 34 [(0,v2),(1,I Aa),(5,I Ab)] a ∧ St F3 w0 w [(Ag,Am)] ∧ ow Am Ag [v2] Ah ∧ d_laws_markCartonS_L1 fu  n Ah Aa Ab = some r) ?_ ?_ fu _ _ ?_))))))
 · rintro a w ⟨_,_,_,_,_,_,_,_,h⟩
   exact nS h
 · rintro Co a Bo ⟨Ah,Am,Ag,Aa,Ab,k,m,Af,h⟩
   rw [d_laws_markCartonS_L1_s] at h
   unfold d_laws_markCartonS_L1_B at h
   refine wp_seq (wr (pN 2 k z fun a k=>sv k z (r_len (α:=Carton) (Enc.ow_rd Af) k underlying55 z z) fun a k=>pN 1 k z fun a k=>nn (cI h k z (fun Bb h=>?_) fun Bb h=>?_)))
   · refine wp_skip (nm_then ?_)
     refine wp_seq (wp_block (wr (pN 3 k z fun a k=>oE h fun Ac As h=>sv k z (r_ixa (Enc.ow_rd Af) As k ts55 z z z) fun a k=>sv k z (r_fa fa83_0 k z z) fun a k=>?_)))
     obtain ⟨Cr,Da,Cj,Bz,Bf,Cv⟩:=rd_get (Enc.ow_rd Af) (ix_some As).2.2
     obtain ⟨Ak,_,rfl,rfl,Cq⟩:=Bz
     obtain ⟨Cl,Bn,m,Bm,Cd⟩:=m.opn 0 z Af As Bf z (M':=[]) z
     obtain ⟨Bp,_,Bg,rfl,Ay,_⟩:=Cd
     obtain rfl:Ak = Bp:=by simpa using Bg
     refine s_stH (α:=Carton) (sz:=3) (cs':=[I Aa,I Ac.fGroup,Ak]) sizeOf3 m 0 Bm 0 k z z z z z z z z z (allc z alln) z z fun Az a k e m Bd=>?_
     obtain ⟨Cn,m,Ar⟩:=(m.sel [0,1] z (by decide)).cls Bd (show ow Bo Bn [I Aa,I Ac.fGroup,Ak] ((⟨Aa,Ac.fGroup,Ac.fUnits⟩:Carton):Carton) from ⟨_,_,z,z,Ay,(m.ndF 1 z)⟩)
     refine nn (wr (pN 3 k z fun a k=>nn (wr (pN 3 k z fun a k=>oE h fun Ad Aq h=>sv k z (r_ixa (Enc.ow_rd Ar) Aq k ts55 z z z) fun a k=>sv k z (r_fa fa83_1 k z z) fun a k=>?_))))
     obtain ⟨Ct,Ck,Cs,Bw,Bh,Cf⟩:=rd_get (Enc.ow_rd Ar) (ix_some Aq).2.2
     obtain ⟨At,_,rfl,rfl,Cg⟩:=Bw
     obtain ⟨Cp,Br,m,Bx,Bu⟩:=m.opn 0 z Ar Aq Bh z (M':=[]) z
     obtain ⟨Bk,_,Bv,rfl,Cc,_⟩:=Bu
     obtain rfl:At = Bk:=by simpa using Bv
     refine s_stH (α:=Carton) (sz:=3) (cs':=[I Ad.fType,I (w64 (Aa + 1)),At]) sizeOf3 m 0 Bx 1 k z z z z z z z z z (allc z alln) z z fun Cu a k e m Cb=>?_
     obtain ⟨Cw,m,Ao⟩:=(m.sel [0,1] z (by decide)).cls Cb (show ow Az Br [I Ad.fType,I (w64 (Aa + 1)),At] ((⟨Ad.fType,w64 (Aa + 1),Ad.fUnits⟩:Carton):Carton) from ⟨_,_,z,z,Cc,(m.ndF 1 z)⟩)
     refine nn (wr (pN 3 k z fun a k=>nn (wp_region_lit (pN 2 k z fun a k=>oE h fun Ae Au h=>sv k z (r_ixa (Enc.ow_rd Ao) Au k ts55 z z z) fun a k=>sv k z (r_fa fa83_2 k z z) fun a k=>?_))))
     obtain ⟨Cm,Cy,Ch,Bs,Ax,Bi⟩:=rd_get (Enc.ow_rd Ao) (ix_some Au).2.2
     obtain ⟨Av,_,rfl,rfl,Cz⟩:=Bs
     refine sv k z (r_ld1 t163 ((Ax.agr (m.a 0 z) Bi).fld 2 1 (Nat.le_of_ble_eq_true z)) k z z) fun a k=>pN 1 k z fun a k=>?_
     obtain ⟨Ci,Db,m,Ce,Bc⟩:=m.opn 0 z Ao Au Ax z (M':=[]) z
     obtain ⟨Bj,_,Ca,rfl,Bt,_⟩:=Bc
     obtain rfl:Av = Bj:=by simpa using Ca
     refine oE h fun Al Bq h=>s_call k call44 z z z z z (c_laws_markIntS fu _ _ (Enc.ow_agr Bt (m.a 1 z)) Bq) fun Cx Aw hR=>?_
     obtain ⟨By,rfl,e,Bl,Ai⟩:=hR
     refine ⟨_,z,fun a k=>?_⟩
     have m:=m.mut 1 z e _ (fun b hb=>⟨Bl b hb,Enc.rd_lt (Enc.ow_rd Ai) b hb⟩) (Enc.ow_nd Ai)
     obtain ⟨Be,m,Ba⟩:=(m.sel [0,1] z (by decide)).cls Ce (show ow Aw By [I Ae.fType,I Ae.fGroup,Av] ((⟨Ae.fType,Ae.fGroup,Al.2⟩:Carton):Carton) from ⟨_,_,z,z,Ai,(m.ndF 1 z)⟩)
     refine pN 1 k z fun a k=>?_
     have k:=k.keep [0,1,5] z
     refine wpList_nil (nm_block (nm_then ?_))
     refine wp_region_lit (pN 3 k z fun a k=>nn ?_)
     exact ⟨setx (setx (setx Ah Ab ((⟨Aa,Ac.fGroup,Ac.fUnits⟩:Carton))) Ab ((⟨Ad.fType,w64 (Aa + 1),Ad.fUnits⟩:Carton))) Ab ((⟨Ae.fType,Ae.fGroup,Al.2⟩:Carton)),Aw,Be,Al.1,w64 (Ab + 1),k.keep [0,1,5] z,m.sel [0] z (by decide),Ba,h⟩
   refine wp_exit (ex_then (ex_then (ex_same (nm_then ?_))))
   refine wr (pN 2 k z fun a k=>nn (wp_ret ?_))
   cases h
   exact finR1 k z (RV.tmp k z) ⟨Ag,z,m.ext,(fun b hb=>m.lo b (mem_fps (i:=0) z hb)),(Enc.ow_agr Af (m.a 0 z))⟩
 exact ⟨a1,w0,F3,Ap,0,k.keep [0,1,5] z,m.sel [0] z (by decide),Aj,h⟩
theorem c_laws_markSpotS (fu:Nat) {w0:World} (a1:List Spot) (Ag:Int) {v2:Value} {F3:List Nat} (Ae:ow w0 F3 [v2] a1) {r:Int × (List Spot)}
    (h:d_laws_markSpotS fu a1 Ag = some r) :
    Calls Tryz.prog 135 #[v2,I Ag] w0 fun e w=>∃ (H0:List Nat),e = .returned (I r.1) ∧ Ext F3 w0 w ∧ (∀ b ∈ H0,b ∈ F3 ∨ w0.heap.size ≤ b) ∧ ow w H0 [v2] r.2:=by
 refine enter (vs:=[_,_]) func135 z ntmps135 z fun a k=>?_
 have m:=St.start1 w0 (Enc.rd_lt (Enc.ow_rd Ae)) (Enc.ow_nd Ae)
 unfold d_laws_markSpotS at h
 refine wr (pN 1 k z fun a k=>nn (wp_seq (wr (pN 1 k z fun a k=>nn (wp_block (c_loop (fun n a w=>∃ (Ad:List Spot) (Af:World) (Aa:Int) (Ab:Int),K 41 [(0,v2),(1,I Aa),(5,I Ab)] a ∧ St F3 w0 w [(F3,Af)] ∧ ow Af F3 [v2] Ad ∧ d_laws_markSpotS_L1 fu  n Ad Aa Ab = some r) ?_ ?_ fu _ _ ?_))))))
 · rintro a w ⟨_,_,_,_,_,_,_,h⟩
   exact nS h
 · rintro Aw a Ba ⟨Ad,Af,Aa,Ab,k,m,Ac,h⟩
   rw [d_laws_markSpotS_L1_s] at h
   unfold d_laws_markSpotS_L1_B at h
   refine wp_seq (wr (pN 2 k z fun a k=>sv k z (r_len (α:=Spot) (Enc.ow_rd Ac) k underlying56 z z) fun a k=>pN 1 k z fun a k=>nn (cI h k z (fun Av h=>?_) fun Av h=>?_)))
   · refine wp_skip (nm_then ?_)
     refine wp_seq (wp_block (wr (pN 3 k z fun a k=>oE h fun Ar Aq h=>sv k z (r_ixa (Enc.ow_rd Ac) Aq k ts56 z z z) fun a k=>sv k z (r_fa fa89_0 k z z) fun a k=>s_ste (α:=Spot) (sz:=4) (y:={ Ar with fPallet:=Aa }) sizeOf3 Aq m 0 Ac 0 k z z z z z z z z z z z z fun Ay a k e m Ak=>nn (wr (pN 3 k z fun a k=>nn (wr (pN 3 k z fun a k=>oE h fun As Al h=>sv k z (r_ixa (Enc.ow_rd Ak) Al k ts56 z z z) fun a k=>sv k z (r_fa fa89_1 k z z) fun a k=>s_ste (α:=Spot) (sz:=4) (y:={ As with fX:=w64 (Aa + 1) }) sizeOf3 Al m 0 Ak 1 k z z z z z z z z z z z z fun Az a k e m Ap=>nn (wr (pN 3 k z fun a k=>nn (wr (pN 3 k z fun a k=>oE h fun Aj Am h=>?_)))))))))))
     refine sv k z (r_ixa (Enc.ow_rd Ap) Am k ts56 z z z) fun a k=>sv k z (r_fa fa89_2 k z z) fun a k=>s_ste (α:=Spot) (sz:=4) (y:={ Aj with fY:=w64 ((w64 (Aa + 1)) + 1) }) sizeOf3 Am m 0 Ap 2 k z z z z z z z z z z z z fun Ax a k e m Ah=>?_
     have k:=k.keep [0,1,5] z
     refine nn (wr (pN 3 k z fun a k=>nn (wr (pN 3 k z fun a k=>oE h fun Ao Ai h=>sv k z (r_ixa (Enc.ow_rd Ah) Ai k ts56 z z z) fun a k=>sv k z (r_fa fa89_3 k z z) fun a k=>s_ste (α:=Spot) (sz:=4) (y:={ Ao with fZ:=w64 ((w64 ((w64 (Aa + 1)) + 1)) + 1) }) sizeOf3 Ai m 0 Ah 3 k z z z z z z z z z z z z fun At a k e m Au=>nn (wp_region_lit (pN 3 k z fun a k=>wpList_nil (nm_block (nm_then ?_))))))))
     refine wp_region_lit (pN 3 k z fun a k=>nn ?_)
     exact ⟨setx (setx (setx (setx Ad Ab ({ Ar with fPallet:=Aa })) Ab ({ As with fX:=w64 (Aa + 1) })) Ab ({ Aj with fY:=w64 ((w64 (Aa + 1)) + 1) })) Ab ({ Ao with fZ:=w64 ((w64 ((w64 (Aa + 1)) + 1)) + 1) }),At,w64 ((w64 ((w64 ((w64 (Aa + 1)) + 1)) + 1)) + 1),w64 (Ab + 1),k.keep [0,1,5] z,m.sel [0] z (by decide),Au,h⟩
   refine wp_exit (ex_then (ex_then (ex_same (nm_then ?_))))
   refine wr (pN 2 k z fun a k=>nn (wp_ret ?_))
   cases h
   exact finR1 k z (RV.tmp k z) ⟨F3,z,m.ext,(fun b hb=>m.lo b (mem_fps (i:=0) z hb)),(Enc.ow_agr Ac (m.a 0 z))⟩
 exact ⟨a1,w0,Ag,0,k.keep [0,1,5] z,m.sel [0] z (by decide),Ae,h⟩
theorem c_laws_markPlan (fu:Nat) {w0:World} (a1:Plan) (Af:Int) {Ac:List Value} {F3:List Nat} (Ab:ow w0 F3 Ac a1) {r:Int × Plan}
    (h:d_laws_markPlan fu a1 Af = some r) :
    Calls Tryz.prog 43 #[.agg Ac.toArray,I Af] w0 fun e w=>∃ (H0:List Nat),e = .returned (I r.1) ∧ Ext F3 w0 w ∧ (∀ b ∈ H0,b ∈ F3 ∨ w0.heap.size ≤ b) ∧ ow w H0 Ac r.2:=by
 refine enter (vs:=[_,_]) func43 z ntmps43 z fun a k=>?_
 have m:=St.start1 w0 (Enc.rd_lt (Enc.ow_rd Ab)) (Enc.ow_nd Ab)
 obtain ⟨v6,F7,v9,Av,rfl,rfl,Ag,Ak,_⟩:=Ab
 have m:=m.split2
 unfold d_laws_markPlan at h
 refine wr (s_box (cs:=[v6,v9]) m k z z z z z z fun As Ap a k m e Ae=>pN 1 k z fun a k=>nn (wr (sv k z (r_fa fa58_0 k z z) fun a k=>sv k z (r_ldb t155 m 0 Ae 0 k z z z z z) fun a k=>pN 1 k z fun a k=>oE h fun Ax Am h=>s_call k call134 z z z z z (c_laws_markCartonS fu _ _ (Enc.ow_agr Ag (m.a 1 z)) Am) fun Aq Au hR=>?_)))
 obtain ⟨Ao,rfl,e,Al,Aa⟩:=hR
 refine ⟨_,z,fun a k=>?_⟩
 have m:=m.mut 1 z e _ (fun b hb=>⟨Al b hb,Enc.rd_lt (Enc.ow_rd Aa) b hb⟩) (Enc.ow_nd Aa)
 refine pN 1 k z fun a k=>nn (wr (sv k z (r_fa fa58_1 k z z) fun a k=>sv k z (r_ldb t156 m 0 Ae 1 k z z z z z) fun a k=>pN 1 k z fun a k=>oE h fun Ar Aj h=>s_call k call135 z z z z z (c_laws_markSpotS fu _ _ (Enc.ow_agr Ak (m.a 2 z)) Aj) fun Aw At hR=>?_))
 obtain ⟨Ai,rfl,e,Ah,Ad⟩:=hR
 refine ⟨_,z,fun a k=>?_⟩
 have m:=m.mut 2 z e _ (fun b hb=>⟨Ah b hb,Enc.rd_lt (Enc.ow_rd Ad) b hb⟩) (Enc.ow_nd Ad)
 refine pN 1 k z fun a k=>nn (wr (pN 2 k z fun a k=>nn (wp_ret ?_)))
 cases h
 exact finR1 k z (RV.tmp k z) ⟨Ao ++ (Ai),z,m.ext,(fun b hb=>(m.sel [1,2] z (by decide)).lo b (by simpa [fps] using hb)),⟨_,_,_,_,z,z,(Enc.ow_agr Aa (m.a 1 z)),(Enc.ow_agr Ad (m.a 2 z)),by simpa [fps] using (m.sel [1,2] z (by decide)).nd⟩⟩
theorem c_laws_heldIntS (fu:Nat) {w0:World} (a1:List Int) (Ad:Int) {v2:Value} {F3:List Nat} (Ab:rd w0 F3 [v2] a1) {r:Int}
    (h:d_laws_heldIntS fu a1 Ad = some r) :
    Calls Tryz.prog 98 #[v2,I Ad] w0 fun e w=>e = .returned (I r) ∧ Ext [] w0 w:=by
 refine enter (vs:=[_,_]) func98 z ntmps98 z fun a k=>?_
 have m:=St.start w0
 unfold d_laws_heldIntS at h
 refine wr (pN 1 k z fun a k=>nn (wp_seq (wr (pN 1 k z fun a k=>nn (wp_block (c_loop (fun n a w=>∃ (Aa:Int) (Ac:Int),K 21 [(0,v2),(1,I Aa),(5,I Ac)] a ∧ St [] w0 w [] ∧ d_laws_heldIntS_L1 fu a1 n Aa Ac = some r) ?_ ?_ fu _ _ ?_))))))
 · rintro a w ⟨_,_,_,_,h⟩
   exact nS h
 · rintro Aj a Ai ⟨Aa,Ac,k,m,h⟩
   rw [d_laws_heldIntS_L1_s] at h
   unfold d_laws_heldIntS_L1_B at h
   refine wp_seq (wr (pN 2 k z fun a k=>sv k z (r_len (α:=Int) Ab k underlying63 z z) fun a k=>pN 1 k z fun a k=>nn (cI h k z (fun Af h=>?_) fun Af h=>?_)))
   · refine wp_skip (nm_then ?_)
     refine wp_seq (wp_block (wp_seq (wr (pN 2 k z fun a k=>oE h fun Ah Ae h=>sv k z (r_ixa Ab Ae k ts63 z z z) fun a k=>sv k z (r_lde1 Ab (m.a00 (Enc.rd_lt Ab)) Ae 0 t13 k z z z z) fun a k=>pN 2 k z fun a k=>nn (cI h k z (fun Ag h=>?_) fun Ag h=>?_)))))
     · refine wr (pN 1 k z fun a k=>nn (wp_ret (rt_then (rt_block (rt_then (rt_then (rt_block (rt_then ?_))))))))
       refine fS h k m z z
     refine wp_skip (nm_then ?_)
     refine wp_region_lit (pN 3 k z fun a k=>wpList_nil (nm_block (nm_then ?_)))
     refine wp_region_lit (pN 3 k z fun a k=>nn ?_)
     exact ⟨w64 (Aa + 1),w64 (Ac + 1),k.keep [0,1,5] z,m.sel [] z (by decide),h⟩
   refine wp_exit (ex_then (ex_then (ex_same (nm_then ?_))))
   refine wr (pN 2 k z fun a k=>nn (wp_ret (fS h k m z z)))
 exact ⟨Ad,0,k.keep [0,1,5] z,m.sel [] z (by decide),h⟩
theorem c_laws_heldCartonS (fu:Nat) {w0:World} (a1:List Carton) (Ag:Int) {v2:Value} {F3:List Nat} (Aa:rd w0 F3 [v2] a1) {r:Int}
    (h:d_laws_heldCartonS fu a1 Ag = some r) :
    Calls Tryz.prog 136 #[v2,I Ag] w0 fun e w=>e = .returned (I r) ∧ Ext [] w0 w:=by
 refine enter (vs:=[_,_]) func136 z ntmps136 z fun a k=>?_
 have m:=St.start w0
 unfold d_laws_heldCartonS at h
 refine wr (pN 1 k z fun a k=>nn (wp_seq (wr (pN 1 k z fun a k=>nn (wp_block (c_loop (fun n a w=>∃ (Af:Int) (Ab:Int),K 40 [(0,v2),(1,I Af),(5,I Ab)] a ∧ St [] w0 w [] ∧ d_laws_heldCartonS_L1 fu a1 n Af Ab = some r) ?_ ?_ fu _ _ ?_))))))
 · rintro a w ⟨_,_,_,_,h⟩
   exact nS h
 · rintro Az a Ay ⟨Af,Ab,k,m,h⟩
   rw [d_laws_heldCartonS_L1_s] at h
   unfold d_laws_heldCartonS_L1_B at h
   refine wp_seq (wr (pN 2 k z fun a k=>sv k z (r_len (α:=Carton) Aa k underlying55 z z) fun a k=>pN 1 k z fun a k=>nn (cI h k z (fun Ap h=>?_) fun Ap h=>?_)))
   · refine wp_skip (nm_then ?_)
     refine wp_seq (wp_block (wp_seq (wr (pN 2 k z fun a k=>oE h fun Bb Ac h=>sv k z (r_ixa Aa Ac k ts55 z z z) fun a k=>sv k z (r_fa fa83_0 k z z) fun a k=>?_))))
     obtain ⟨At,Ax,Aq,Al,Ad,Ae⟩:=rd_get Aa (ix_some Ac).2.2
     obtain ⟨Av,_,rfl,rfl,Ah⟩:=Al
     refine sv k z (r_ld1 t13 ((Ad.agr (m.a00 (Enc.rd_lt Aa)) Ae).fld 0 1 (Nat.le_of_ble_eq_true z)) k z z) fun a k=>pN 2 k z fun a k=>nn (cI h k z (fun Aj h=>?_) fun Aj h=>?_)
     · refine wr (pN 1 k z fun a k=>nn (wp_ret (rt_then (rt_block (rt_then (rt_then (rt_block (rt_then ?_))))))))
       refine fS h k m z z
     refine wp_skip (nm_then ?_)
     refine wr (pN 3 k z fun a k=>nn (wp_seq (wr (pN 2 k z fun a k=>oE h fun Aw Ar h=>sv k z (r_ixa Aa Ac k ts55 z z z) fun a k=>sv k z (r_fa fa83_1 k z z) fun a k=>sv k z (r_ld1 t13 ((Ad.agr (m.a00 (Enc.rd_lt Aa)) Ae).fld 1 1 (Nat.le_of_ble_eq_true z)) k z z) fun a k=>pN 2 k z fun a k=>nn (cI h k z (fun Ak h=>?_) fun Ak h=>?_)))))
     · refine wr (pN 1 k z fun a k=>nn (wp_ret (rt_then (rt_block (rt_then (rt_then (rt_block (rt_then ?_))))))))
       refine fS h k m z z
     refine wp_skip (nm_then ?_)
     refine wr (pN 3 k z fun a k=>nn (wr (pN 2 k z fun a k=>oE h fun Au Ba h=>sv k z (r_ixa Aa Ac k ts55 z z z) fun a k=>sv k z (r_fa fa83_2 k z z) fun a k=>sv k z (r_ld1 t163 ((Ad.agr (m.a00 (Enc.rd_lt Aa)) Ae).fld 2 1 (Nat.le_of_ble_eq_true z)) k z z) fun a k=>pN 1 k z fun a k=>oE h fun Ao Ai h=>cE k m call98 z z z (c_laws_heldIntS fu _ _ (Enc.rd_agr Ah (m.a00 (Enc.rd_lt Ah))) Ai) fun As e a k m=>pN 1 k z fun a k=>?_)))
     have k:=k.keep [0,1,5] z
     refine nn (wr (pN 2 k z fun a k=>nn (cI h k z (fun Am h=>?_) fun Am h=>?_)))
     · refine wr (pN 1 k z fun a k=>nn (wp_ret (rt_block (rt_then (rt_then (rt_block (rt_then ?_)))))))
       refine fS h k m z z
     refine wp_skip (nm_block (nm_then ?_))
     refine wp_region_lit (pN 3 k z fun a k=>nn ?_)
     exact ⟨Ao,w64 (Ab + 1),k.keep [0,1,5] z,m.sel [] z (by decide),h⟩
   refine wp_exit (ex_then (ex_then (ex_same (nm_then ?_))))
   refine wr (pN 2 k z fun a k=>nn (wp_ret (fS h k m z z)))
 exact ⟨Ag,0,k.keep [0,1,5] z,m.sel [] z (by decide),h⟩
theorem c_laws_heldSpotS (fu:Nat) {w0:World} (a1:List Spot) (Ae:Int) {v2:Value} {F3:List Nat} (Aa:rd w0 F3 [v2] a1) {r:Int}
    (h:d_laws_heldSpotS fu a1 Ae = some r) :
    Calls Tryz.prog 137 #[v2,I Ae] w0 fun e w=>e = .returned (I r) ∧ Ext [] w0 w:=by
 refine enter (vs:=[_,_]) func137 z ntmps137 z fun a k=>?_
 have m:=St.start w0
 unfold d_laws_heldSpotS at h
 refine wr (pN 1 k z fun a k=>nn (wp_seq (wr (pN 1 k z fun a k=>nn (wp_block (c_loop (fun n a w=>∃ (Ac:Int) (Ad:Int),K 49 [(0,v2),(1,I Ac),(5,I Ad)] a ∧ St [] w0 w [] ∧ d_laws_heldSpotS_L1 fu a1 n Ac Ad = some r) ?_ ?_ fu _ _ ?_))))))
 · rintro a w ⟨_,_,_,_,h⟩
   exact nS h
 · rintro Aq a At ⟨Ac,Ad,k,m,h⟩
   rw [d_laws_heldSpotS_L1_s] at h
   unfold d_laws_heldSpotS_L1_B at h
   refine wp_seq (wr (pN 2 k z fun a k=>sv k z (r_len (α:=Spot) Aa k underlying56 z z) fun a k=>pN 1 k z fun a k=>nn (cI h k z (fun Ag h=>?_) fun Ag h=>?_)))
   · refine wp_skip (nm_then ?_)
     refine wp_seq (wp_block (wp_seq (wr (pN 2 k z fun a k=>oE h fun Ap Ab h=>sv k z (r_ixa Aa Ab k ts56 z z z) fun a k=>sv k z (r_fa fa89_0 k z z) fun a k=>sv k z (r_lde1 Aa (m.a00 (Enc.rd_lt Aa)) Ab 0 t13 k z z z z) fun a k=>pN 2 k z fun a k=>nn (cI h k z (fun Af h=>?_) fun Af h=>?_)))))
     · refine wr (pN 1 k z fun a k=>nn (wp_ret (rt_then (rt_block (rt_then (rt_then (rt_block (rt_then ?_))))))))
       refine fS h k m z z
     refine wp_skip (nm_then ?_)
     refine wr (pN 3 k z fun a k=>nn (wp_seq (wr (pN 2 k z fun a k=>oE h fun As Ar h=>sv k z (r_ixa Aa Ab k ts56 z z z) fun a k=>sv k z (r_fa fa89_1 k z z) fun a k=>sv k z (r_lde1 Aa (m.a00 (Enc.rd_lt Aa)) Ab 1 t13 k z z z z) fun a k=>pN 2 k z fun a k=>nn (cI h k z (fun Ai h=>?_) fun Ai h=>?_)))))
     · refine wr (pN 1 k z fun a k=>nn (wp_ret (rt_then (rt_block (rt_then (rt_then (rt_block (rt_then ?_))))))))
       refine fS h k m z z
     refine wp_skip (nm_then ?_)
     refine wr (pN 3 k z fun a k=>nn (wp_seq (wr (pN 2 k z fun a k=>oE h fun Ak Am h=>sv k z (r_ixa Aa Ab k ts56 z z z) fun a k=>sv k z (r_fa fa89_2 k z z) fun a k=>sv k z (r_lde1 Aa (m.a00 (Enc.rd_lt Aa)) Ab 2 t13 k z z z z) fun a k=>pN 2 k z fun a k=>?_))))
     have k:=k.keep [0,1,5,36] z
     refine nn (cI h k z (fun Ah h=>?_) fun Ah h=>?_)
     · refine wr (pN 1 k z fun a k=>nn (wp_ret (rt_then (rt_block (rt_then (rt_then (rt_block (rt_then ?_))))))))
       refine fS h k m z z
     refine wp_skip (nm_then ?_)
     refine wr (pN 3 k z fun a k=>nn (wp_seq (wr (pN 2 k z fun a k=>oE h fun Ao Al h=>sv k z (r_ixa Aa Ab k ts56 z z z) fun a k=>sv k z (r_fa fa89_3 k z z) fun a k=>sv k z (r_lde1 Aa (m.a00 (Enc.rd_lt Aa)) Ab 3 t13 k z z z z) fun a k=>pN 2 k z fun a k=>nn (cI h k z (fun Aj h=>?_) fun Aj h=>?_)))))
     · refine wr (pN 1 k z fun a k=>nn (wp_ret (rt_then (rt_block (rt_then (rt_then (rt_block (rt_then ?_))))))))
       refine fS h k m z z
     refine wp_skip (nm_then ?_)
     refine wp_region_lit (pN 3 k z fun a k=>wpList_nil (nm_block (nm_then ?_)))
     refine wp_region_lit (pN 3 k z fun a k=>nn ?_)
     exact ⟨w64 ((w64 ((w64 ((w64 (Ac + 1)) + 1)) + 1)) + 1),w64 (Ad + 1),k.keep [0,1,5] z,m.sel [] z (by decide),h⟩
   refine wp_exit (ex_then (ex_then (ex_same (nm_then ?_))))
   refine wr (pN 2 k z fun a k=>nn (wp_ret (fS h k m z z)))
 exact ⟨Ae,0,k.keep [0,1,5] z,m.sel [] z (by decide),h⟩
theorem c_laws_heldPlan (fu:Nat) {w0:World} (a1:Plan) (Ae:Int) {Ab:List Value} {F3:List Nat} (Ah:rd w0 F3 Ab a1) {r:Int}
    (h:d_laws_heldPlan fu a1 Ae = some r) :
    Calls Tryz.prog 45 #[.agg Ab.toArray,I Ae] w0 fun e w=>e = .returned (I r) ∧ Ext [] w0 w:=by
 refine enter (vs:=[_,_]) func45 z ntmps45 z fun a k=>?_
 have m:=St.start w0
 obtain ⟨v6,F7,v8,F9,rfl,rfl,Ad,Ac⟩:=Ah
 unfold d_laws_heldPlan at h
 refine wr (s_box (cs:=[v6,v8]) m k z z z z z z fun Ak Aq a k m e Aa=>pN 1 k z fun a k=>nn (wr (sv k z (r_fa fa58_0 k z z) fun a k=>sv k z (r_ldb t155 m 0 Aa 0 k z z z z z) fun a k=>pN 1 k z fun a k=>oE h fun Am Af h=>cE k m call136 z z z (c_laws_heldCartonS fu _ _ (Enc.rd_agr Ad (m.a00 (Enc.rd_lt Ad))) Af) fun Ao e a k m=>pN 1 k z fun a k=>nn (wp_seq (wr (pN 2 k z fun a k=>nn (cI h k z (fun Ag h=>?_) fun Ag h=>?_)))))))
 · refine wr (pN 1 k z fun a k=>nn (wp_ret (rt_then ?_)))
   refine fS h k m z z
 refine wp_skip (nm_then ?_)
 refine wr (sv k z (r_fa fa58_1 k z z) fun a k=>sv k z (r_ldb t156 m 0 Aa 1 k z z z z z) fun a k=>pN 1 k z fun a k=>oE h fun Ap Aj h=>cE k m call137 z z z (c_laws_heldSpotS fu _ _ (Enc.rd_agr Ac (m.a00 (Enc.rd_lt Ac))) Aj) fun Al e a k m=>pN 1 k z fun a k=>nn (wp_seq (wr (pN 2 k z fun a k=>nn (cI h k z (fun Ai h=>?_) fun Ai h=>?_)))))
 · refine wr (pN 1 k z fun a k=>nn (wp_ret (rt_then ?_)))
   refine fS h k m z z
 refine wp_skip (nm_then ?_)
 refine wr (pN 2 k z fun a k=>nn (wp_ret (fS h k m z z)))
theorem c_laws_FnExactSwapped (fu:Nat) {w0:World} (Aa:Request) (Aj:Plan) (Bb:Int) (Ba:Int) {Gl:List Value} {F3:List Nat} (Ow:rd w0 F3 Gl Aa) {Fh:List Value} {F7:List Nat} (Pd:rd w0 F7 Fh Aj) {r:Bool}
    (h:d_laws_FnExactSwapped fu Aa Aj Bb Ba = some r) :
    Calls Tryz.prog 10 #[.agg Gl.toArray,.agg Fh.toArray,I Bb,I Ba] w0 fun e w=>e = .returned (.bool (r)) ∧ Ext [] w0 w:=by
 refine enter (vs:=[_,_,_,_]) func10 z ntmps10 z fun a k=>?_
 have m:=St.start w0
 obtain ⟨Au,Qo,Av,Re,Ar,Sd,rfl,rfl,Ah,Ag,Ai⟩:=Ow
 obtain ⟨Ak,Qw,Al,Sm,rfl,rfl,Ae,Af⟩:=Pd
 unfold d_laws_FnExactSwapped at h
 refine wr (s_box (cs:=[I Aa.fWay,I Aa.fPallet.fW,I Aa.fPallet.fD,I Aa.fPallet.fH,I Aa.fPallet.fGram,I Aa.fClasses,Au,Av,I Aa.fMaster,Ar]) m k z z z z z z fun Bv Fb a k m e Bn=>s_box (cs:=[Ak,Al]) m k z z z z z z fun Cb Fg a k m e Bl=>pN 1 k z fun a k=>nn (wr (pN 1 k z fun a k=>nn (wr (sv k z (r_ldB ta28 m 1 Bn 0 k z z z z z z) fun a k=>pN 1 k z fun a k=>oE h fun Va Lo h=>?_)))))
 refine cE k m call15 z z z (c_laws_szRequest fu _ _ (show rd _ _ [I Aa.fWay,I Aa.fPallet.fW,I Aa.fPallet.fD,I Aa.fPallet.fH,I Aa.fPallet.fGram,I Aa.fClasses,Au,Av,I Aa.fMaster,Ar] (Aa:Request) from ⟨_,_,_,_,_,_,z,z,(Enc.rd_agr Ah (m.a00 (Enc.rd_lt Ah))),(Enc.rd_agr Ag (m.a00 (Enc.rd_lt Ag))),(Enc.rd_agr Ai (m.a00 (Enc.rd_lt Ai)))⟩) Lo) fun Wb e a k m=>pN 1 k z fun a k=>nn (wp_seq (wr (pN 2 k z fun a k=>nn (cI h k z (fun Oi h=>?_) fun Oi h=>?_))))
 · refine wr (pN 1 k z fun a k=>nn (wp_ret (rt_then ?_)))
   refine fS h k m z z
 refine wp_skip (nm_then ?_)
 refine wr (sv k z (r_ldB ta52 m 0 Bl 0 k z z z z z z) fun a k=>pN 1 k z fun a k=>oE h fun Uc Jt h=>cE k m call32 z z z (c_laws_szPlan fu _ _ (show rd _ _ [Ak,Al] (Aj:Plan) from ⟨_,_,_,_,z,z,(Enc.rd_agr Ae (m.a00 (Enc.rd_lt Ae))),(Enc.rd_agr Af (m.a00 (Enc.rd_lt Af)))⟩) Jt) fun Se e a k m=>pN 1 k z fun a k=>nn (wp_seq (wr (pN 2 k z fun a k=>nn (cI h k z (fun Ol h=>?_) fun Ol h=>?_)))))
 · refine wr (pN 1 k z fun a k=>nn (wp_ret (rt_then ?_)))
   refine fS h k m z z
 refine wp_skip (nm_then ?_)
 refine c_cut (fun a w=>∃ (At:List Carton) (Az:Value) (Bf:List Nat) (Bh:World) (Ap:List Spot) (Ay:Value) (Bk:List Nat) (Bo:World) (Am:Nat) (Bm:World),K 102 [(2,I Bb),(3,I Ba),(4,.pointer (some (⟨Bv,0,none⟩:Addr))),(5,.pointer (some (⟨Cb,0,none⟩:Addr))),(10,.pointer (some (⟨Am,0,none⟩:Addr)))] a ∧ St [] w0 w [([Bv],Fb),([Cb],Fg),(Bf,Bh),(Bk,Bo),([Am],Bm)] ∧ ow Bh Bf [Az] At ∧ ow Bo Bk [Ay] Ap ∧ bx Bm Am [Az,Ay] 58 ∧ d_laws_FnExactSwapped_J3 fu Aa Aj Bb Ba At Ap = some r) ?_ ?_
 · rintro a Th ⟨At,Az,Bf,Bh,Ap,Ay,Bk,Bo,Am,Bm,k,m,Cm,Ct,Cx,h⟩
   unfold d_laws_FnExactSwapped_J3 at h
   refine wr (sv k z (r_ldB ta28 m 0 Bn 0 k z z z z z z) fun a k=>oE h fun Ab Qb h=>s_call k call18 z z z z z (c_laws_toRequest fu _ (show rd _ _ [I Aa.fWay,I Aa.fPallet.fW,I Aa.fPallet.fD,I Aa.fPallet.fH,I Aa.fPallet.fGram,I Aa.fClasses,Au,Av,I Aa.fMaster,Ar] (Aa:Request) from ⟨_,_,_,_,_,_,z,z,(Enc.rd_agr Ah (m.a00 (Enc.rd_lt Ah))),(Enc.rd_agr Ag (m.a00 (Enc.rd_lt Ag))),(Enc.rd_agr Ai (m.a00 (Enc.rd_lt Ai)))⟩) Qb) fun Us Ru hR=>?_)
   obtain ⟨Vt,Oj,rfl,e,Dt,Nz⟩:=hR
   refine ⟨_,z,fun a k=>?_⟩
   have m:=m.new e Oj (fun b hb=>⟨Nz b hb,Enc.rd_lt (Enc.ow_rd Dt) b hb⟩) (Enc.ow_nd Dt)
   obtain ⟨Bc,Lu,Be,Mg,Bg,Ps,rfl,rfl,Bw,By,Br,_⟩:=Dt
   have m:=m.split2
   have m:=m.split2at1
   refine s_alloc (cs:=[I 0,I 0,I 0,I 0,I 0,I 0,.slice none 0 0,.slice none 0 0,I 0,.slice none 0 0]) m k zeroValue38 z z z z z fun Qm Uh a k m e Oh=>s_stb (cs':=[I Ab.fWay,I Ab.fPallet.fW,I Ab.fPallet.fD,I Ab.fPallet.fH,I Ab.fPallet.fGram,I Ab.fClasses,Bc,Be,I Ab.fMaster,Bg]) sizeOf38 m 0 Oh 0 k z z z z z z z z z z (allc z (allc z (allc z (allc z (allc z (allc z (allc (rd_o (Enc.ow_rd Bw)) (allc (rd_o (Enc.ow_rd By)) (allc z (allc (rd_o (Enc.ow_rd Br)) alln)))))))))) fun Su a k e m Ee=>nn (wr (sv k z (r_ldB ta52 m 5 Bl 0 k z z z z z z) fun a k=>oE h fun Cn Iz h=>?_))
   refine s_call k call34 z z z z z (c_laws_toPlan fu _ (show rd _ _ [Ak,Al] (Aj:Plan) from ⟨_,_,_,_,z,z,(Enc.rd_agr Ae (m.a00 (Enc.rd_lt Ae))),(Enc.rd_agr Af (m.a00 (Enc.rd_lt Af)))⟩) Iz) fun Sw Qy hR=>?_
   obtain ⟨Rw,Jh,rfl,e,Dh,Jc⟩:=hR
   refine ⟨_,z,fun a k=>?_⟩
   have m:=m.new e Jh (fun b hb=>⟨Jc b hb,Enc.rd_lt (Enc.ow_rd Dh) b hb⟩) (Enc.ow_nd Dh)
   obtain ⟨Bp,Nx,Bi,Ks,rfl,rfl,Bt,Cd,_⟩:=Dh
   have m:=m.split2
   refine s_alloc (cs:=[.slice none 0 0,.slice none 0 0]) m k zeroValue58 z z z z z fun Ss So a k m e Nu=>s_stb (cs':=[Bp,Bi]) sizeOf58 m 0 Nu 0 k z z z z z z z z z z (allc (rd_o (Enc.ow_rd Bt)) (allc (rd_o (Enc.ow_rd Cd)) alln)) fun Xb a k e m Do=>nn (wr (sv k z (r_ldB ta38 m 3 Ee 0 k z z z z z z) fun a k=>sv k z (r_ldB ta58 m 0 Do 0 k z z z z z z) fun a k=>pN 2 k z fun a k=>oE h fun Ca Qd h=>?_))
   refine s_call k call47 z z z z z (c_impl_Swapped fu _ _ _ _ (show rd _ _ [I Ab.fWay,I Ab.fPallet.fW,I Ab.fPallet.fD,I Ab.fPallet.fH,I Ab.fPallet.fGram,I Ab.fClasses,Bc,Be,I Ab.fMaster,Bg] (Ab:Request) from ⟨_,_,_,_,_,_,z,z,(Enc.rd_agr (Enc.ow_rd Bw) (m.a 4 z)),(Enc.rd_agr (Enc.ow_rd By) (m.a 5 z)),(Enc.rd_agr (Enc.ow_rd Br) (m.a 6 z))⟩) (show rd _ _ [Bp,Bi] (Cn:Plan) from ⟨_,_,_,_,z,z,(Enc.rd_agr (Enc.ow_rd Bt) (m.a 1 z)),(Enc.rd_agr (Enc.ow_rd Cd) (m.a 2 z))⟩) Qd) fun Uy Hh hR=>?_
   obtain ⟨Uo,Jd,rfl,e,Cu,Oz⟩:=hR
   refine ⟨_,z,fun a k=>?_⟩
   have m:=m.new e Jd (fun b hb=>⟨Oz b hb,Enc.rd_lt (Enc.ow_rd Cu) b hb⟩) (Enc.ow_nd Cu)
   obtain ⟨Aw,Hm,Ax,Gi,rfl,rfl,Cf,Cg,_⟩:=Cu
   have m:=m.split2
   refine s_alloc (cs:=[.slice none 0 0,.slice none 0 0]) m k zeroValue58 z z z z z fun Bq Wt a k m e Jw=>s_stb (cs':=[Aw,Ax]) sizeOf58 m 0 Jw 0 k z z z z z z z z z z (allc (rd_o (Enc.ow_rd Cf)) (allc (rd_o (Enc.ow_rd Cg)) alln)) fun Hx a k e m Bj=>nn (wp_seq (wr (sv k z (r_ldB ta58 m 0 Bj 0 k z z z z z z) fun a k=>sv k z (r_ldB ta58 m 14 Cx 0 k z z z z z z) fun a k=>oE h fun Um Ir h=>?_)))
   refine cE k m call36 z z z (c_laws_eqPlan fu _ _ (show rd _ _ [Aw,Ax] (Ca:Plan) from ⟨_,_,_,_,z,z,(Enc.rd_agr (Enc.ow_rd Cf) (m.a 1 z)),(Enc.rd_agr (Enc.ow_rd Cg) (m.a 2 z))⟩) (show rd _ _ [Az,Ay] ((⟨At,Ap⟩:Plan):Plan) from ⟨_,_,_,_,z,z,(Enc.rd_agr (Enc.ow_rd Cm) (m.a 12 z)),(Enc.rd_agr (Enc.ow_rd Ct) (m.a 13 z))⟩) Ir) fun Wx e a k m=>pN 1 k z fun a k=>nn (cI h k z (fun Qi h=>?_) fun Qi h=>?_)
   · refine wr (pN 1 k z fun a k=>nn (wp_ret (rt_then ?_)))
     refine fS h k m z z
   refine wp_skip (nm_then ?_)
   refine wp_seq (wp_seq (d_go [] mixo m z fun Ma hMd=>?_))
   have m:=hMd
   have s:=Ext.refl ([]:List Nat) Ma
   refine dt k 0 z (by kernel_rfl) z s (fun _ _ _=>id) (fun w s=>r_ldA ta38 (Ee.at ((hMd.step s).a 6 z) 0 10 z z z) z k z z) fun a k=>dt k 1 z (by kernel_rfl) z s (fun _ _ _=>id) (fun w s=>r_ldA ta28 (Bn.at ((hMd.step s).a 10 z) 0 10 z z z) z k z z) fun a k=>d_one 2 (by kernel_rfl) z (oE h fun As Iv h=>s_call k call18 z z z z z (c_laws_toRequest fu _ (show rd _ _ [I Aa.fWay,I Aa.fPallet.fW,I Aa.fPallet.fD,I Aa.fPallet.fH,I Aa.fPallet.fGram,I Aa.fClasses,Au,Av,I Aa.fMaster,Ar] (Aa:Request) from ⟨_,_,_,_,_,_,z,z,(Enc.rd_agr Ah (m.a00 (Enc.rd_lt Ah))),(Enc.rd_agr Ag (m.a00 (Enc.rd_lt Ag))),(Enc.rd_agr Ai (m.a00 (Enc.rd_lt Ai)))⟩) Iv) fun Qt Sn hR=>?_)
   obtain ⟨Vj,Eu,rfl,e,Cq,Ey⟩:=hR
   refine ⟨_,z,fun a k=>?_⟩
   have m:=m.new e Eu (fun b hb=>⟨Ey b hb,Enc.rd_lt (Enc.ow_rd Cq) b hb⟩) (Enc.ow_nd Cq)
   have Rq:=fun (y:Nat) (hy:y ∈ Eu)=>Nat.le_trans s.size (Ey y hy)
   obtain ⟨On,Wd,Oo,Wp,Py,Ws,rfl,rfl,Nq,Jx,Me,_⟩:=Cq
   have m:=m.split2
   have m:=m.split2at1
   have s:=s.trans e (by simp)
   refine wpList_nil ⟨s,?_⟩
   refine d_one 3 (by kernel_rfl) z (oE h fun To Kh h=>?_)
   refine cE k m call21 z z z (c_laws_eqRequest fu _ _ (show rd _ _ [I Ab.fWay,I Ab.fPallet.fW,I Ab.fPallet.fD,I Ab.fPallet.fH,I Ab.fPallet.fGram,I Ab.fClasses,Bc,Be,I Ab.fMaster,Bg] (Ab:Request) from ⟨_,_,_,_,_,_,z,z,(Enc.rd_agr (Enc.ow_rd Bw) (m.a 10 z)),(Enc.rd_agr (Enc.ow_rd By) (m.a 11 z)),(Enc.rd_agr (Enc.ow_rd Br) (m.a 12 z))⟩) (show rd _ _ [I As.fWay,I As.fPallet.fW,I As.fPallet.fD,I As.fPallet.fH,I As.fPallet.fGram,I As.fClasses,On,Oo,I As.fMaster,Py] (As:Request) from ⟨_,_,_,_,_,_,z,z,(Enc.rd_agr (Enc.ow_rd Nq) (m.a 0 z)),(Enc.rd_agr (Enc.ow_rd Jx) (m.a 1 z)),(Enc.rd_agr (Enc.ow_rd Me) (m.a 2 z))⟩) Kh) fun Qs e a k m=>?_
   have s:=s.trans e (by simp)
   refine wpList_nil ⟨s,?_⟩
   refine dN [4] 1 z k (by kernel_rfl) z s (fun _ _ _ _ _=>id) fun a k=>d_done (by kernel_rfl) ((nm_then ?_))
   refine cI h k z (fun Mn h=>?_) fun Mn h=>?_
   · refine wr (pN 1 k z fun a k=>?_)
     have k:=k.keep [8] z
     refine nn (wp_ret (rt_then ?_))
     refine fS h k m z z
   refine wp_skip (nm_then ?_)
   refine wp_seq (wp_seq (d_go [] mixo m z fun Ja hMd=>?_))
   have m:=hMd
   have s:=Ext.refl ([]:List Nat) Ja
   refine dt k 0 z (by kernel_rfl) z s (fun _ _ _=>id) (fun w s=>r_ldA ta58 (Do.at ((hMd.step s).a 6 z) 0 2 z z z) z k z z) fun a k=>dt k 1 z (by kernel_rfl) z s (fun _ _ _=>id) (fun w s=>r_ldA ta52 (Bl.at ((hMd.step s).a 14 z) 0 2 z z z) z k z z) fun a k=>d_one 2 (by kernel_rfl) z (oE h fun Qc Mf h=>s_call k call34 z z z z z (c_laws_toPlan fu _ (show rd _ _ [Ak,Al] (Aj:Plan) from ⟨_,_,_,_,z,z,(Enc.rd_agr Ae (m.a00 (Enc.rd_lt Ae))),(Enc.rd_agr Af (m.a00 (Enc.rd_lt Af)))⟩) Mf) fun Ve Rb hR=>?_)
   obtain ⟨Vb,Gh,rfl,e,Cj,Hz⟩:=hR
   refine ⟨_,z,fun a k=>?_⟩
   have m:=m.new e Gh (fun b hb=>⟨Hz b hb,Enc.rd_lt (Enc.ow_rd Cj) b hb⟩) (Enc.ow_nd Cj)
   have Vz:=fun (y:Nat) (hy:y ∈ Gh)=>Nat.le_trans s.size (Hz y hy)
   obtain ⟨Nw,Wy,Pj,Qv,rfl,rfl,Ls,Ln,_⟩:=Cj
   have m:=m.split2
   have s:=s.trans e (by simp)
   refine wpList_nil ⟨s,?_⟩
   refine d_one 3 (by kernel_rfl) z (oE h fun Vn No h=>cE k m call36 z z z (c_laws_eqPlan fu _ _ (show rd _ _ [Bp,Bi] (Cn:Plan) from ⟨_,_,_,_,z,z,(Enc.rd_agr (Enc.ow_rd Bt) (m.a 9 z)),(Enc.rd_agr (Enc.ow_rd Cd) (m.a 10 z))⟩) (show rd _ _ [Nw,Pj] (Qc:Plan) from ⟨_,_,_,_,z,z,(Enc.rd_agr (Enc.ow_rd Ls) (m.a 0 z)),(Enc.rd_agr (Enc.ow_rd Ln) (m.a 1 z))⟩) No) fun Qq e a k m=>?_)
   have s:=s.trans e (by simp)
   refine wpList_nil ⟨s,?_⟩
   refine dN [4] 1 z k (by kernel_rfl) z s (fun _ _ _ _ _=>id) fun a k=>d_done (by kernel_rfl) ?_
   have k:=k.keep [2,3,4,5,10,11,12,13,57] z
   refine (nm_then ?_)
   refine cI h k z (fun Pp h=>?_) fun Pp h=>?_
   · refine wr (pN 1 k z fun a k=>nn (wp_ret (rt_then ?_)))
     refine fS h k m z z
   refine wp_skip (nm_then ?_)
   refine wr (pN 1 k z fun a k=>nn (wr (sv k z (r_ldB ta38 m 11 Ee 0 k z z z z z z) fun a k=>pN 1 k z fun a k=>?_)))
   have Px:ow _ (Lu ++ (Mg ++ (Ps))) [I Ab.fWay,I Ab.fPallet.fW,I Ab.fPallet.fD,I Ab.fPallet.fH,I Ab.fPallet.fGram,I Ab.fClasses,Bc,Be,I Ab.fMaster,Bg] (Ab:Request):=⟨_,_,_,_,_,_,z,z,(Enc.ow_agr Bw (m.a 12 z)),(Enc.ow_agr By (m.a 13 z)),(Enc.ow_agr Br (m.a 14 z)),by simpa [fps] using (m.sel [12,13,14] z (by decide)).nd⟩
   have m:=m.sel [12,13,14,0,1,2,3,4,5,6,7,8,9,10,11,15,16,17,18,19] z (by decide)
   have m:=m.join3
   refine oE h fun Vx Mv h=>s_call k call25 z z z z z (c_laws_markRequest fu _ _ Px Mv) fun Tb Ut hR=>?_
   obtain ⟨Uw,rfl,e,Ni,Cz⟩:=hR
   refine ⟨_,z,fun a k=>?_⟩
   have m:=m.mut 0 z e _ (fun b hb=>⟨Ni b hb,Enc.rd_lt (Enc.ow_rd Cz) b hb⟩) (Enc.ow_nd Cz)
   obtain ⟨Nl,Sy,Mj,Qz,Nm,Sr,Dy,rfl,Tl,Wr,Uz,_⟩:=Cz
   have m:=m.toFront 0 z
   have m:=m.split2
   have m:=m.split2at1
   have Qk:Bc = Nl:=by have:=congrArg (fun l:List Value=>l[6]?) Dy; simpa using this
   subst Qk
   have Of:Be = Mj:=by have:=congrArg (fun l:List Value=>l[7]?) Dy; simpa using this
   subst Of
   have Lt:Bg = Nm:=by have:=congrArg (fun l:List Value=>l[9]?) Dy; simpa using this
   subst Lt
   refine pN 1 k z fun a k=>nn (wr (sv k z (r_ldB ta58 m 11 Do 0 k z z z z z z) fun a k=>pN 1 k z fun a k=>?_))
   have Lp:ow _ (Nx ++ (Ks)) [Bp,Bi] (Cn:Plan):=⟨_,_,_,_,z,z,(Enc.ow_agr Bt (m.a 12 z)),(Enc.ow_agr Cd (m.a 13 z)),by simpa [fps] using (m.sel [12,13] z (by decide)).nd⟩
   have m:=m.sel [12,13,0,1,2,3,4,5,6,7,8,9,10,11,14,15,16,17,18,19] z (by decide)
   have m:=m.join2
   refine oE h fun Mk Iu h=>s_call k call43 z z z z z (c_laws_markPlan fu _ _ Lp Iu) fun Sh Sp hR=>?_
   obtain ⟨Ua,rfl,e,Jn,De⟩:=hR
   refine ⟨_,z,fun a k=>?_⟩
   have m:=m.mut 0 z e _ (fun b hb=>⟨Jn b hb,Enc.rd_lt (Enc.ow_rd De) b hb⟩) (Enc.ow_nd De)
   obtain ⟨Pt,Ww,Ok,Sx,Hg,rfl,Sz,Ri,_⟩:=De
   have m:=m.toFront 0 z
   have m:=m.split2
   have Mr:Bp = Pt:=by have:=congrArg (fun l:List Value=>l[0]?) Hg; simpa using this
   subst Mr
   have Pg:Bi = Ok:=by have:=congrArg (fun l:List Value=>l[1]?) Hg; simpa using this
   subst Pg
   refine pN 1 k z fun a k=>nn (c_cut (fun a w=>K 102 [(2,I Bb),(3,I Ba),(4,.pointer (some (⟨Bv,0,none⟩:Addr))),(5,.pointer (some (⟨Cb,0,none⟩:Addr))),(10,.pointer (some (⟨Am,0,none⟩:Addr))),(13,.pointer (some (⟨Bq,0,none⟩:Addr)))] a ∧ St [] w0 w [([Bv],Fb),([Cb],Fg),([Am],Bm),([Bq],Hx),(Bf,Bh),(Bk,Bo),(Hm,Hh),(Gi,Hh)] ∧ d_laws_FnExactSwapped_J2 fu Aa Aj Bb Ba At Ap Ca = some r) ?_ ?_)
   · rintro a Qr ⟨k,m,h⟩
     unfold d_laws_FnExactSwapped_J2 at h
     refine wr (pN 1 k z fun a k=>nn (wr (sv k z (r_ldB ta58 m 3 Bj 0 k z z z z z z) fun a k=>pN 1 k z fun a k=>?_)))
     have Pu:ow _ (Hm ++ (Gi)) [Aw,Ax] (Ca:Plan):=⟨_,_,_,_,z,z,(Enc.ow_agr Cf (m.a 6 z)),(Enc.ow_agr Cg (m.a 7 z)),by simpa [fps] using (m.sel [6,7] z (by decide)).nd⟩
     have m:=m.sel [6,7,0,1,2,3,4,5] z (by decide)
     have m:=m.join2
     refine oE h fun Cc Nc h=>s_call k call43 z z z z z (c_laws_markPlan fu _ _ Pu Nc) fun Rk Gj hR=>?_
     obtain ⟨Ts,rfl,e,Qa,Db⟩:=hR
     refine ⟨_,z,fun a k=>?_⟩
     have m:=m.mut 0 z e _ (fun b hb=>⟨Qa b hb,Enc.rd_lt (Enc.ow_rd Db) b hb⟩) (Enc.ow_nd Db)
     obtain ⟨Jl,Qf,La,Kf,Fm,rfl,Ef,Ic,_⟩:=Db
     have m:=m.toFront 0 z
     have m:=m.split2
     have Pl:Aw = Jl:=by have:=congrArg (fun l:List Value=>l[0]?) Fm; simpa using this
     subst Pl
     have Pk:Ax = La:=by have:=congrArg (fun l:List Value=>l[1]?) Fm; simpa using this
     subst Pk
     refine pN 1 k z fun a k=>nn (wr (pN 1 k z fun a k=>nn (wr (sv k z (r_ldB ta58 m 5 Bj 0 k z z z z z z) fun a k=>pN 1 k z fun a k=>oE h fun Wk Lf h=>cE k m call45 z z z (c_laws_heldPlan fu _ _ (show rd _ _ [Aw,Ax] (Cc.2:Plan) from ⟨_,_,_,_,z,z,(Enc.rd_agr (Enc.ow_rd Ef) (m.a 0 z)),(Enc.rd_agr (Enc.ow_rd Ic) (m.a 1 z))⟩) Lf) fun Wg e a k m=>pN 1 k z fun a k=>nn (wp_seq (wr (pN 2 k z fun a k=>nn (cI h k z (fun Lg h=>?_) fun Lg h=>?_))))))))
     · refine wr (pN 1 k z fun a k=>nn (wp_ret (rt_then ?_)))
       refine fS h k m z z
     refine wp_skip (nm_then ?_)
     refine wp_seq (wr (pN 3 k z fun a k=>nn (cI h k z (fun Lb h=>?_) fun Lb h=>?_)))
     · refine wr (pN 1 k z fun a k=>nn (wp_ret (rt_then ?_)))
       refine fS h k m z z
     refine wp_skip (nm_then ?_)
     refine c_cut (fun a w=>∃ (Ce:List Carton) (Bu:Value) (Dd:List Nat) (Cl:World) (Bz:List Spot) (Bs:Value) (Dx:List Nat) (Cw:World) (Bx:Nat) (Du:World),K 102 [(10,.pointer (some (⟨Am,0,none⟩:Addr))),(13,.pointer (some (⟨Bq,0,none⟩:Addr))),(15,I Cc.1),(17,.pointer (some (⟨Bx,0,none⟩:Addr)))] a ∧ St [] w0 w [([Am],Bm),([Bq],Hx),(Bf,Bh),(Bk,Bo),(Qf,Gj),(Kf,Gj),(Dd,Cl),(Dx,Cw),([Bx],Du)] ∧ ow Cl Dd [Bu] Ce ∧ ow Cw Dx [Bs] Bz ∧ bx Du Bx [Bu,Bs] 58 ∧ d_laws_FnExactSwapped_J1 fu At Ap Cc Ce Bz = some r) ?_ ?_
     · rintro a Rz ⟨Ce,Bu,Dd,Cl,Bz,Bs,Dx,Cw,Bx,Du,k,m,Kt,Js,Kl,h⟩
       unfold d_laws_FnExactSwapped_J1 at h
       refine wp_seq (wr (sv k z (r_ldB ta58 m 8 Kl 0 k z z z z z z) fun a k=>sv k z (r_ldB ta58 m 0 Cx 0 k z z z z z z) fun a k=>oE h fun Tz Ky h=>cE k m call36 z z z (c_laws_eqPlan fu _ _ (show rd _ _ [Bu,Bs] ((⟨Ce,Bz⟩:Plan):Plan) from ⟨_,_,_,_,z,z,(Enc.rd_agr (Enc.ow_rd Kt) (m.a 6 z)),(Enc.rd_agr (Enc.ow_rd Js) (m.a 7 z))⟩) (show rd _ _ [Az,Ay] ((⟨At,Ap⟩:Plan):Plan) from ⟨_,_,_,_,z,z,(Enc.rd_agr (Enc.ow_rd Cm) (m.a 2 z)),(Enc.rd_agr (Enc.ow_rd Ct) (m.a 3 z))⟩) Ky) fun Ul e a k m=>pN 1 k z fun a k=>nn (cI h k z (fun Oq h=>?_) fun Oq h=>?_)))
       · refine wr (pN 1 k z fun a k=>nn (wp_ret (rt_then ?_)))
         refine fS h k m z z
       refine wp_skip (nm_then ?_)
       refine wr (pN 1 k z fun a k=>nn (wr (sv k z (r_ldB ta58 m 1 Bj 0 k z z z z z z) fun a k=>pN 1 k z fun a k=>oE h fun Si Nt h=>cE k m call45 z z z (c_laws_heldPlan fu _ _ (show rd _ _ [Aw,Ax] (Cc.2:Plan) from ⟨_,_,_,_,z,z,(Enc.rd_agr (Enc.ow_rd Ef) (m.a 4 z)),(Enc.rd_agr (Enc.ow_rd Ic) (m.a 5 z))⟩) Nt) fun Rp e a k m=>pN 1 k z fun a k=>nn (wp_seq (wr (pN 2 k z fun a k=>nn (cI h k z (fun Nb h=>?_) fun Nb h=>?_)))))))
       · refine wr (pN 1 k z fun a k=>nn (wp_ret (rt_then ?_)))
         refine fS h k m z z
       refine wp_skip (nm_then ?_)
       refine wp_seq (wr (pN 3 k z fun a k=>nn (cI h k z (fun Lz h=>?_) fun Lz h=>?_)))
       · refine wr (pN 1 k z fun a k=>nn (wp_ret (rt_then ?_)))
         refine fS h k m z z
       refine wp_skip (nm_then ?_)
       refine wr (pN 1 k z fun a k=>nn (wp_ret (fS h k m z z)))
     refine d_go [] mixo m z fun Kb hMd=>?_
     have m:=hMd
     have s:=Ext.refl ([]:List Nat) Kb
     refine dN [4,5] 2 z k (by kernel_rfl) z s (fun _ _ _ _ _=>id) fun a k=>dt k 0 z (by kernel_rfl) z s (fun _ _ _=>id) (fun w s=>r_ldA ta28 (Bn.at ((hMd.step s).a 2 z) 0 10 z z z) z k z z) fun a k=>dt k 2 z (by kernel_rfl) z s (fun _ _ _=>id) (fun w s=>r_ldA ta52 (Bl.at ((hMd.step s).a 3 z) 0 2 z z z) z k z z) fun a k=>d_two 1 7 (by kernel_rfl) z z ?_ ?_ 
     · refine oE h fun Ad Od h=>s_call k call18 z z z z z (c_laws_toRequest fu _ (show rd _ _ [I Aa.fWay,I Aa.fPallet.fW,I Aa.fPallet.fD,I Aa.fPallet.fH,I Aa.fPallet.fGram,I Aa.fClasses,Au,Av,I Aa.fMaster,Ar] (Aa:Request) from ⟨_,_,_,_,_,_,z,z,(Enc.rd_agr Ah (m.a00 (Enc.rd_lt Ah))),(Enc.rd_agr Ag (m.a00 (Enc.rd_lt Ag))),(Enc.rd_agr Ai (m.a00 (Enc.rd_lt Ai)))⟩) Od) fun Ta Ra hR=>?_
       obtain ⟨Rr,Hr,rfl,e,Ed,Hc⟩:=hR
       refine ⟨_,z,fun a k=>?_⟩
       have m:=m.new e Hr (fun b hb=>⟨Hc b hb,Enc.rd_lt (Enc.ow_rd Ed) b hb⟩) (Enc.ow_nd Ed)
       have Wj:=fun (y:Nat) (hy:y ∈ Hr)=>Nat.le_trans s.size (Hc y hy)
       obtain ⟨Ch,Vq,Dj,Td,Dw,Tu,rfl,rfl,Ck,Dg,Dz,_⟩:=Ed
       have m:=m.split2
       have m:=m.split2at1
       have s:=s.trans e (by simp)
       refine wpList_nil ⟨s,?_⟩
       refine d_two 3 7 (by kernel_rfl) z z ?_ ?_ 
       · refine oE h fun Hu Nh h=>s_call k call34 z z z z z (c_laws_toPlan fu _ (show rd _ _ [Ak,Al] (Aj:Plan) from ⟨_,_,_,_,z,z,(Enc.rd_agr Ae (m.a00 (Enc.rd_lt Ae))),(Enc.rd_agr Af (m.a00 (Enc.rd_lt Af)))⟩) Nh) fun Vu Vg hR=>?_
         obtain ⟨Uf,Ga,rfl,e,Di,Gv⟩:=hR
         refine ⟨_,z,fun a k=>?_⟩
         have m:=m.new e Ga (fun b hb=>⟨Gv b hb,Enc.rd_lt (Enc.ow_rd Di) b hb⟩) (Enc.ow_nd Di)
         have Ur:=fun (y:Nat) (hy:y ∈ Ga)=>Nat.le_trans s.size (Gv y hy)
         obtain ⟨Fw,Wm,If,Sj,rfl,rfl,Ft,Ii,_⟩:=Di
         have m:=m.split2
         have s:=s.trans e (by simp)
         refine wpList_nil ⟨s,?_⟩
         refine d_two 6 7 (by kernel_rfl) z z ?_ ?_ 
         · refine oE h fun Gq Ji h=>s_call k call47 z z z z z (c_impl_Swapped fu _ _ _ _ (show rd _ _ [I Ad.fWay,I Ad.fPallet.fW,I Ad.fPallet.fD,I Ad.fPallet.fH,I Ad.fPallet.fGram,I Ad.fClasses,Ch,Dj,I Ad.fMaster,Dw] (Ad:Request) from ⟨_,_,_,_,_,_,z,z,(Enc.rd_agr (Enc.ow_rd Ck) (m.a 2 z)),(Enc.rd_agr (Enc.ow_rd Dg) (m.a 3 z)),(Enc.rd_agr (Enc.ow_rd Dz) (m.a 4 z))⟩) (show rd _ _ [Fw,If] (Hu:Plan) from ⟨_,_,_,_,z,z,(Enc.rd_agr (Enc.ow_rd Ft) (m.a 0 z)),(Enc.rd_agr (Enc.ow_rd Ii) (m.a 1 z))⟩) Ji) fun Tp Hf hR=>?_
           obtain ⟨Ry,Ik,rfl,e,Ds,Fx⟩:=hR
           refine ⟨_,z,fun a k=>?_⟩
           have m:=m.new e Ik (fun b hb=>⟨Fx b hb,Enc.rd_lt (Enc.ow_rd Ds) b hb⟩) (Enc.ow_nd Ds)
           have Ux:=fun (y:Nat) (hy:y ∈ Ik)=>Nat.le_trans s.size (Fx y hy)
           obtain ⟨Gu,Mq,Fv,Kg,rfl,rfl,Gt,Im,_⟩:=Ds
           have m:=m.split2
           have s:=s.trans e (by simp)
           refine wpList_nil ⟨s,?_⟩
           refine d_one 7 (by kernel_rfl) z (s_allocN (cs:=[.slice none 0 0,.slice none 0 0]) m k zeroValue58 z z z z z fun Qj Un a k m e Pe Om=>?_)
           have Ku:=lo1 (Nat.le_trans s.size Om)
           have s:=s.trans e (by simp)
           refine wpList_nil ⟨s,?_⟩
           refine d_one 8 (by kernel_rfl) z (s_stb (cs':=[Gu,Fv]) sizeOf58 m 0 Pe 0 k z z z z z z z z z z (allc (rd_o (Enc.ow_rd Gt)) (allc (rd_o (Enc.ow_rd Im)) alln)) fun Kr a k e m Oe=>?_)
           have s:=s.trans e (fun y hy=>Or.inr (Ku y hy))
           refine wpList_nil ⟨s,?_⟩
           refine d_done (by kernel_rfl) ((nm_then ?_))
           exact ⟨Gq.fCartons,Gu,Mq,Hf,Gq.fSpots,Fv,Kg,Hf,Qj,Kr,k.keep [10,13,15,17] z,m.sel [12,13,14,15,8,9,1,2,0] z (by decide),Gt,Im,Oe,h⟩
         refine s_allocN (cs:=[.slice none 0 0,.slice none 0 0]) m k zeroValue58 z z z z z fun Ph Sg a k m e Jv Kz=>?_
         have Ou:=lo1 (Nat.le_trans s.size Kz)
         have s:=s.trans e (by simp)
         refine wpList_nil ⟨s,?_⟩
         refine d_one 6 (by kernel_rfl) z (oE h fun Gn Ox h=>s_call k call47 z z z z z (c_impl_Swapped fu _ _ _ _ (show rd _ _ [I Ad.fWay,I Ad.fPallet.fW,I Ad.fPallet.fD,I Ad.fPallet.fH,I Ad.fPallet.fGram,I Ad.fClasses,Ch,Dj,I Ad.fMaster,Dw] (Ad:Request) from ⟨_,_,_,_,_,_,z,z,(Enc.rd_agr (Enc.ow_rd Ck) (m.a 3 z)),(Enc.rd_agr (Enc.ow_rd Dg) (m.a 4 z)),(Enc.rd_agr (Enc.ow_rd Dz) (m.a 5 z))⟩) (show rd _ _ [Fw,If] (Hu:Plan) from ⟨_,_,_,_,z,z,(Enc.rd_agr (Enc.ow_rd Ft) (m.a 1 z)),(Enc.rd_agr (Enc.ow_rd Ii) (m.a 2 z))⟩) Ox) fun Wo Hv hR=>?_)
         obtain ⟨Vv,Hj,rfl,e,Cs,Ev⟩:=hR
         refine ⟨_,z,fun a k=>?_⟩
         have m:=m.new e Hj (fun b hb=>⟨Ev b hb,Enc.rd_lt (Enc.ow_rd Cs) b hb⟩) (Enc.ow_nd Cs)
         have Sc:=fun (y:Nat) (hy:y ∈ Hj)=>Nat.le_trans s.size (Ev y hy)
         obtain ⟨Gk,Mu,Ih,Lk,rfl,rfl,Fe,Hw,_⟩:=Cs
         have m:=m.split2
         have s:=s.trans e (by simp)
         refine wpList_nil ⟨s,?_⟩
         refine d_one 8 (by kernel_rfl) z (s_stb (cs':=[Gk,Ih]) sizeOf58 m 2 Jv 0 k z z z z z z z z z z (allc (rd_o (Enc.ow_rd Fe)) (allc (rd_o (Enc.ow_rd Hw)) alln)) fun Ml a k e m Pq=>?_)
         have s:=s.trans e (fun y hy=>Or.inr (Ou y hy))
         refine wpList_nil ⟨s,?_⟩
         refine d_done (by kernel_rfl) ((nm_then ?_))
         exact ⟨Gn.fCartons,Gk,Mu,Hv,Gn.fSpots,Ih,Lk,Hv,Ph,Ml,k.keep [10,13,15,17] z,m.sel [12,13,14,15,8,9,0,1,2] z (by decide),Fe,Hw,Pq,h⟩
       refine s_allocN (cs:=[.slice none 0 0,.slice none 0 0]) m k zeroValue58 z z z z z fun Kx Up a k m e Pr Kw=>?_
       have Ns:=lo1 (Nat.le_trans s.size Kw)
       have s:=s.trans e (by simp)
       refine wpList_nil ⟨s,?_⟩
       refine d_one 3 (by kernel_rfl) z (oE h fun Kq Lv h=>s_call k call34 z z z z z (c_laws_toPlan fu _ (show rd _ _ [Ak,Al] (Aj:Plan) from ⟨_,_,_,_,z,z,(Enc.rd_agr Ae (m.a00 (Enc.rd_lt Ae))),(Enc.rd_agr Af (m.a00 (Enc.rd_lt Af)))⟩) Lv) fun Sb Wa hR=>?_)
       obtain ⟨Ue,Fc,rfl,e,Ea,Ei⟩:=hR
       refine ⟨_,z,fun a k=>?_⟩
       have m:=m.new e Fc (fun b hb=>⟨Ei b hb,Enc.rd_lt (Enc.ow_rd Ea) b hb⟩) (Enc.ow_nd Ea)
       have Tv:=fun (y:Nat) (hy:y ∈ Fc)=>Nat.le_trans s.size (Ei y hy)
       obtain ⟨Jf,Tf,Nf,Vm,rfl,rfl,Pf,Jq,_⟩:=Ea
       have m:=m.split2
       have s:=s.trans e (by simp)
       refine wpList_nil ⟨s,?_⟩
       refine d_one 6 (by kernel_rfl) z (oE h fun Hn Ld h=>s_call k call47 z z z z z (c_impl_Swapped fu _ _ _ _ (show rd _ _ [I Ad.fWay,I Ad.fPallet.fW,I Ad.fPallet.fD,I Ad.fPallet.fH,I Ad.fPallet.fGram,I Ad.fClasses,Ch,Dj,I Ad.fMaster,Dw] (Ad:Request) from ⟨_,_,_,_,_,_,z,z,(Enc.rd_agr (Enc.ow_rd Ck) (m.a 3 z)),(Enc.rd_agr (Enc.ow_rd Dg) (m.a 4 z)),(Enc.rd_agr (Enc.ow_rd Dz) (m.a 5 z))⟩) (show rd _ _ [Jf,Nf] (Kq:Plan) from ⟨_,_,_,_,z,z,(Enc.rd_agr (Enc.ow_rd Pf) (m.a 0 z)),(Enc.rd_agr (Enc.ow_rd Jq) (m.a 1 z))⟩) Ld) fun Ud Ff hR=>?_)
       obtain ⟨Sq,Eh,rfl,e,Eb,Fk⟩:=hR
       refine ⟨_,z,fun a k=>?_⟩
       have m:=m.new e Eh (fun b hb=>⟨Fk b hb,Enc.rd_lt (Enc.ow_rd Eb) b hb⟩) (Enc.ow_nd Eb)
       have Wu:=fun (y:Nat) (hy:y ∈ Eh)=>Nat.le_trans s.size (Fk y hy)
       obtain ⟨Fu,Ix,Gd,Mb,rfl,rfl,He,Eg,_⟩:=Eb
       have m:=m.split2
       have s:=s.trans e (by simp)
       refine wpList_nil ⟨s,?_⟩
       refine d_one 8 (by kernel_rfl) z (s_stb (cs':=[Fu,Gd]) sizeOf58 m 4 Pr 0 k z z z z z z z z z z (allc (rd_o (Enc.ow_rd He)) (allc (rd_o (Enc.ow_rd Eg)) alln)) fun Md a k e m Mp=>?_)
       have s:=s.trans e (fun y hy=>Or.inr (Ns y hy))
       refine wpList_nil ⟨s,?_⟩
       refine d_done (by kernel_rfl) ((nm_then ?_))
       exact ⟨Hn.fCartons,Fu,Ix,Ff,Hn.fSpots,Gd,Mb,Ff,Kx,Md,k.keep [10,13,15,17] z,m.sel [12,13,14,15,8,9,0,1,4] z (by decide),He,Eg,Mp,h⟩
     refine s_allocN (cs:=[.slice none 0 0,.slice none 0 0]) m k zeroValue58 z z z z z fun Kp Rg a k m e Is Lc=>?_
     have Nr:=lo1 (Nat.le_trans s.size Lc)
     have s:=s.trans e (by simp)
     refine wpList_nil ⟨s,?_⟩
     refine d_one 1 (by kernel_rfl) z (oE h fun Aq Mw h=>s_call k call18 z z z z z (c_laws_toRequest fu _ (show rd _ _ [I Aa.fWay,I Aa.fPallet.fW,I Aa.fPallet.fD,I Aa.fPallet.fH,I Aa.fPallet.fGram,I Aa.fClasses,Au,Av,I Aa.fMaster,Ar] (Aa:Request) from ⟨_,_,_,_,_,_,z,z,(Enc.rd_agr Ah (m.a00 (Enc.rd_lt Ah))),(Enc.rd_agr Ag (m.a00 (Enc.rd_lt Ag))),(Enc.rd_agr Ai (m.a00 (Enc.rd_lt Ai)))⟩) Mw) fun Wv Rj hR=>?_)
     obtain ⟨Xa,Gw,rfl,e,Cp,Ij⟩:=hR
     refine ⟨_,z,fun a k=>?_⟩
     have m:=m.new e Gw (fun b hb=>⟨Ij b hb,Enc.rd_lt (Enc.ow_rd Cp) b hb⟩) (Enc.ow_nd Cp)
     have Ug:=fun (y:Nat) (hy:y ∈ Gw)=>Nat.le_trans s.size (Ij y hy)
     obtain ⟨Ly,Uj,Pa,Vr,Kk,Tt,rfl,rfl,Jj,Ov,Qh,_⟩:=Cp
     have m:=m.split2
     have m:=m.split2at1
     have s:=s.trans e (by simp)
     refine wpList_nil ⟨s,?_⟩
     refine d_one 3 (by kernel_rfl) z (oE h fun Ko Iy h=>s_call k call34 z z z z z (c_laws_toPlan fu _ (show rd _ _ [Ak,Al] (Aj:Plan) from ⟨_,_,_,_,z,z,(Enc.rd_agr Ae (m.a00 (Enc.rd_lt Ae))),(Enc.rd_agr Af (m.a00 (Enc.rd_lt Af)))⟩) Iy) fun Ti Rh hR=>?_)
     obtain ⟨Qn,Gy,rfl,e,Dk,Fd⟩:=hR
     refine ⟨_,z,fun a k=>?_⟩
     have m:=m.new e Gy (fun b hb=>⟨Fd b hb,Enc.rd_lt (Enc.ow_rd Dk) b hb⟩) (Enc.ow_nd Dk)
     have Rl:=fun (y:Nat) (hy:y ∈ Gy)=>Nat.le_trans s.size (Fd y hy)
     obtain ⟨Iw,Uv,Ll,Sa,rfl,rfl,Ny,Pv,_⟩:=Dk
     have m:=m.split2
     have s:=s.trans e (by simp)
     refine wpList_nil ⟨s,?_⟩
     refine d_one 6 (by kernel_rfl) z (oE h fun Ge Np h=>s_call k call47 z z z z z (c_impl_Swapped fu _ _ _ _ (show rd _ _ [I Aq.fWay,I Aq.fPallet.fW,I Aq.fPallet.fD,I Aq.fPallet.fH,I Aq.fPallet.fGram,I Aq.fClasses,Ly,Pa,I Aq.fMaster,Kk] (Aq:Request) from ⟨_,_,_,_,_,_,z,z,(Enc.rd_agr (Enc.ow_rd Jj) (m.a 2 z)),(Enc.rd_agr (Enc.ow_rd Ov) (m.a 3 z)),(Enc.rd_agr (Enc.ow_rd Qh) (m.a 4 z))⟩) (show rd _ _ [Iw,Ll] (Ko:Plan) from ⟨_,_,_,_,z,z,(Enc.rd_agr (Enc.ow_rd Ny) (m.a 0 z)),(Enc.rd_agr (Enc.ow_rd Pv) (m.a 1 z))⟩) Np) fun Vp Fr hR=>?_)
     obtain ⟨Vc,Gz,rfl,e,Dl,Hk⟩:=hR
     refine ⟨_,z,fun a k=>?_⟩
     have m:=m.new e Gz (fun b hb=>⟨Hk b hb,Enc.rd_lt (Enc.ow_rd Dl) b hb⟩) (Enc.ow_nd Dl)
     have Te:=fun (y:Nat) (hy:y ∈ Gz)=>Nat.le_trans s.size (Hk y hy)
     obtain ⟨Hq,Ju,Fl,Km,rfl,rfl,Fs,Ep,_⟩:=Dl
     have m:=m.split2
     have s:=s.trans e (by simp)
     refine wpList_nil ⟨s,?_⟩
     refine d_one 8 (by kernel_rfl) z (s_stb (cs':=[Hq,Fl]) sizeOf58 m 7 Is 0 k z z z z z z z z z z (allc (rd_o (Enc.ow_rd Fs)) (allc (rd_o (Enc.ow_rd Ep)) alln)) fun Qe a k e m Lj=>?_)
     have s:=s.trans e (fun y hy=>Or.inr (Nr y hy))
     refine wpList_nil ⟨s,?_⟩
     refine d_done (by kernel_rfl) ((nm_then ?_))
     exact ⟨Ge.fCartons,Hq,Ju,Fr,Ge.fSpots,Fl,Km,Fr,Kp,Qe,k.keep [10,13,15,17] z,m.sel [12,13,14,15,8,9,0,1,7] z (by decide),Fs,Ep,Lj,h⟩
   refine wr (pN 3 k z fun a k=>bsplit (decide (Mk.1 < 0)) (fun Bd=>?_) (fun Bd=>?_))
   · have h:=bif_t Bd h
     refine rB k 66 z Bd fun k=>pN 5 k z fun a k=>?_
     have k:=k.keep [2,3,4,5,10,13,71] z
     refine nn (wp_cond_true (k.ev z) (wr (pN 1 k z fun a k=>nn (wp_ret (rt_then ?_)))))
     refine fS h k m z z
   have h:=bif_f Bd h
   refine rB k 66 z Bd fun k=>sv k z (r_ldB ta58 m 10 Bj 0 k z z z z z z) fun a k=>sv k z (r_ldB ta58 m 19 Cx 0 k z z z z z z) fun a k=>oE h fun Tw Ka h=>cE k m call36 z z z (c_laws_eqPlan fu _ _ (show rd _ _ [Aw,Ax] (Ca:Plan) from ⟨_,_,_,_,z,z,(Enc.rd_agr (Enc.ow_rd Cf) (m.a 11 z)),(Enc.rd_agr (Enc.ow_rd Cg) (m.a 12 z))⟩) (show rd _ _ [Az,Ay] ((⟨At,Ap⟩:Plan):Plan) from ⟨_,_,_,_,z,z,(Enc.rd_agr (Enc.ow_rd Cm) (m.a 17 z)),(Enc.rd_agr (Enc.ow_rd Ct) (m.a 18 z))⟩) Ka) fun Vo e a k m=>pN 2 k z fun a k=>?_
   have k:=k.keep [2,3,4,5,10,13,71] z
   refine nn (cI h k z (fun Kv h=>?_) fun Kv h=>?_)
   · refine wr (pN 1 k z fun a k=>nn (wp_ret (rt_then ?_)))
     refine fS h k m z z
   refine wp_skip (nm_then ?_)
   exact ⟨k.keep [2,3,4,5,10,13] z,m.sel [15,16,19,10,17,18,11,12] z (by decide),h⟩
 refine d_go [] mixo m z fun It hMd=>?_
 have m:=hMd
 have s:=Ext.refl ([]:List Nat) It
 refine dN [4,5] 2 z k (by kernel_rfl) z s (fun _ _ _ _ _=>id) fun a k=>dt k 0 z (by kernel_rfl) z s (fun _ _ _=>id) (fun w s=>r_ldA ta28 (Bn.at ((hMd.step s).a 1 z) 0 10 z z z) z k z z) fun a k=>dt k 2 z (by kernel_rfl) z s (fun _ _ _=>id) (fun w s=>r_ldA ta52 (Bl.at ((hMd.step s).a 0 z) 0 2 z z z) z k z z) fun a k=>d_two 1 7 (by kernel_rfl) z z ?_ ?_ 
 · refine oE h fun Ac Oa h=>s_call k call18 z z z z z (c_laws_toRequest fu _ (show rd _ _ [I Aa.fWay,I Aa.fPallet.fW,I Aa.fPallet.fD,I Aa.fPallet.fH,I Aa.fPallet.fGram,I Aa.fClasses,Au,Av,I Aa.fMaster,Ar] (Aa:Request) from ⟨_,_,_,_,_,_,z,z,(Enc.rd_agr Ah (m.a00 (Enc.rd_lt Ah))),(Enc.rd_agr Ag (m.a00 (Enc.rd_lt Ag))),(Enc.rd_agr Ai (m.a00 (Enc.rd_lt Ai)))⟩) Oa) fun Tg Vh hR=>?_
   obtain ⟨Rv,Ht,rfl,e,Dn,Em⟩:=hR
   refine ⟨_,z,fun a k=>?_⟩
   have m:=m.new e Ht (fun b hb=>⟨Em b hb,Enc.rd_lt (Enc.ow_rd Dn) b hb⟩) (Enc.ow_nd Dn)
   have Vw:=fun (y:Nat) (hy:y ∈ Ht)=>Nat.le_trans s.size (Em y hy)
   obtain ⟨Ec,Vd,Dq,Rc,Da,Ui,rfl,rfl,Dp,Dm,Cy,_⟩:=Dn
   have m:=m.split2
   have m:=m.split2at1
   have s:=s.trans e (by simp)
   refine wpList_nil ⟨s,?_⟩
   refine d_two 3 7 (by kernel_rfl) z z ?_ ?_ 
   · refine oE h fun Fi Mi h=>s_call k call34 z z z z z (c_laws_toPlan fu _ (show rd _ _ [Ak,Al] (Aj:Plan) from ⟨_,_,_,_,z,z,(Enc.rd_agr Ae (m.a00 (Enc.rd_lt Ae))),(Enc.rd_agr Af (m.a00 (Enc.rd_lt Af)))⟩) Mi) fun Sl Wq hR=>?_
     obtain ⟨Tr,Er,rfl,e,Co,Ia⟩:=hR
     refine ⟨_,z,fun a k=>?_⟩
     have m:=m.new e Er (fun b hb=>⟨Ia b hb,Enc.rd_lt (Enc.ow_rd Co) b hb⟩) (Enc.ow_nd Co)
     have Tq:=fun (y:Nat) (hy:y ∈ Er)=>Nat.le_trans s.size (Ia y hy)
     obtain ⟨Io,Vs,El,Wz,rfl,rfl,In,Ig,_⟩:=Co
     have m:=m.split2
     have s:=s.trans e (by simp)
     refine wpList_nil ⟨s,?_⟩
     refine d_two 6 7 (by kernel_rfl) z z ?_ ?_ 
     · refine oE h fun Gm Nk h=>s_call k call46 z z z z z (c_spec_Swapped fu _ _ _ _ (show rd _ _ [I Ac.fWay,I Ac.fPallet.fW,I Ac.fPallet.fD,I Ac.fPallet.fH,I Ac.fPallet.fGram,I Ac.fClasses,Ec,Dq,I Ac.fMaster,Da] (Ac:Request) from ⟨_,_,_,_,_,_,z,z,(Enc.rd_agr (Enc.ow_rd Dp) (m.a 2 z)),(Enc.rd_agr (Enc.ow_rd Dm) (m.a 3 z)),(Enc.rd_agr (Enc.ow_rd Cy) (m.a 4 z))⟩) (show rd _ _ [Io,El] (Fi:Plan) from ⟨_,_,_,_,z,z,(Enc.rd_agr (Enc.ow_rd In) (m.a 0 z)),(Enc.rd_agr (Enc.ow_rd Ig) (m.a 1 z))⟩) Nk) fun Sf Gc hR=>?_
       obtain ⟨Qp,Fq,rfl,e,Df,Gf⟩:=hR
       refine ⟨_,z,fun a k=>?_⟩
       have m:=m.new e Fq (fun b hb=>⟨Gf b hb,Enc.rd_lt (Enc.ow_rd Df) b hb⟩) (Enc.ow_nd Df)
       have Uu:=fun (y:Nat) (hy:y ∈ Fq)=>Nat.le_trans s.size (Gf y hy)
       obtain ⟨Ew,Mm,Eo,Pb,rfl,rfl,Ez,Gr,_⟩:=Df
       have m:=m.split2
       have s:=s.trans e (by simp)
       refine wpList_nil ⟨s,?_⟩
       refine d_one 7 (by kernel_rfl) z (s_allocN (cs:=[.slice none 0 0,.slice none 0 0]) m k zeroValue58 z z z z z fun Pc Rt a k m e Mz Je=>?_)
       have Lr:=lo1 (Nat.le_trans s.size Je)
       have s:=s.trans e (by simp)
       refine wpList_nil ⟨s,?_⟩
       refine d_one 8 (by kernel_rfl) z (s_stb (cs':=[Ew,Eo]) sizeOf58 m 0 Mz 0 k z z z z z z z z z z (allc (rd_o (Enc.ow_rd Ez)) (allc (rd_o (Enc.ow_rd Gr)) alln)) fun Li a k e m Lq=>?_)
       have s:=s.trans e (fun y hy=>Or.inr (Lr y hy))
       refine wpList_nil ⟨s,?_⟩
       refine d_done (by kernel_rfl) ?_
       have k:=k.keep [2,3,4,5,10] z
       refine (nm_then ?_)
       exact ⟨Gm.fCartons,Ew,Mm,Gc,Gm.fSpots,Eo,Pb,Gc,Pc,Li,k.keep [2,3,4,5,10] z,m.sel [9,8,1,2,0] z (by decide),Ez,Gr,Lq,h⟩
     refine s_allocN (cs:=[.slice none 0 0,.slice none 0 0]) m k zeroValue58 z z z z z fun Jb Rm a k m e Ng Mo=>?_
     have Ki:=lo1 (Nat.le_trans s.size Mo)
     have s:=s.trans e (by simp)
     refine wpList_nil ⟨s,?_⟩
     refine d_one 6 (by kernel_rfl) z (oE h fun Fy My h=>s_call k call46 z z z z z (c_spec_Swapped fu _ _ _ _ (show rd _ _ [I Ac.fWay,I Ac.fPallet.fW,I Ac.fPallet.fD,I Ac.fPallet.fH,I Ac.fPallet.fGram,I Ac.fClasses,Ec,Dq,I Ac.fMaster,Da] (Ac:Request) from ⟨_,_,_,_,_,_,z,z,(Enc.rd_agr (Enc.ow_rd Dp) (m.a 3 z)),(Enc.rd_agr (Enc.ow_rd Dm) (m.a 4 z)),(Enc.rd_agr (Enc.ow_rd Cy) (m.a 5 z))⟩) (show rd _ _ [Io,El] (Fi:Plan) from ⟨_,_,_,_,z,z,(Enc.rd_agr (Enc.ow_rd In) (m.a 1 z)),(Enc.rd_agr (Enc.ow_rd Ig) (m.a 2 z))⟩) My) fun Rf Id hR=>?_)
     obtain ⟨Qu,Ho,rfl,e,Dc,Gg⟩:=hR
     refine ⟨_,z,fun a k=>?_⟩
     have m:=m.new e Ho (fun b hb=>⟨Gg b hb,Enc.rd_lt (Enc.ow_rd Dc) b hb⟩) (Enc.ow_nd Dc)
     have Tx:=fun (y:Nat) (hy:y ∈ Ho)=>Nat.le_trans s.size (Gg y hy)
     obtain ⟨Ej,Jo,Gx,Ql,rfl,rfl,Hp,Ip,_⟩:=Dc
     have m:=m.split2
     have s:=s.trans e (by simp)
     refine wpList_nil ⟨s,?_⟩
     refine d_one 8 (by kernel_rfl) z (s_stb (cs':=[Ej,Gx]) sizeOf58 m 2 Ng 0 k z z z z z z z z z z (allc (rd_o (Enc.ow_rd Hp)) (allc (rd_o (Enc.ow_rd Ip)) alln)) fun Jg a k e m Ms=>?_)
     have s:=s.trans e (fun y hy=>Or.inr (Ki y hy))
     refine wpList_nil ⟨s,?_⟩
     refine d_done (by kernel_rfl) ?_
     have k:=k.keep [2,3,4,5,10] z
     refine (nm_then ?_)
     exact ⟨Fy.fCartons,Ej,Jo,Id,Fy.fSpots,Gx,Ql,Id,Jb,Jg,k.keep [2,3,4,5,10] z,m.sel [9,8,0,1,2] z (by decide),Hp,Ip,Ms,h⟩
   refine s_allocN (cs:=[.slice none 0 0,.slice none 0 0]) m k zeroValue58 z z z z z fun Na Uq a k m e Jy Jz=>?_
   have Mx:=lo1 (Nat.le_trans s.size Jz)
   have s:=s.trans e (by simp)
   refine wpList_nil ⟨s,?_⟩
   refine d_one 3 (by kernel_rfl) z (oE h fun Pz Jk h=>s_call k call34 z z z z z (c_laws_toPlan fu _ (show rd _ _ [Ak,Al] (Aj:Plan) from ⟨_,_,_,_,z,z,(Enc.rd_agr Ae (m.a00 (Enc.rd_lt Ae))),(Enc.rd_agr Af (m.a00 (Enc.rd_lt Af)))⟩) Jk) fun Vy Wn hR=>?_)
   obtain ⟨Wi,Ek,rfl,e,Ci,Et⟩:=hR
   refine ⟨_,z,fun a k=>?_⟩
   have m:=m.new e Ek (fun b hb=>⟨Et b hb,Enc.rd_lt (Enc.ow_rd Ci) b hb⟩) (Enc.ow_nd Ci)
   have Vk:=fun (y:Nat) (hy:y ∈ Ek)=>Nat.le_trans s.size (Et y hy)
   obtain ⟨Lw,Wc,Jr,Rn,rfl,rfl,Jp,Nv,_⟩:=Ci
   have m:=m.split2
   have s:=s.trans e (by simp)
   refine wpList_nil ⟨s,?_⟩
   refine d_one 6 (by kernel_rfl) z (oE h fun Gb Lx h=>s_call k call46 z z z z z (c_spec_Swapped fu _ _ _ _ (show rd _ _ [I Ac.fWay,I Ac.fPallet.fW,I Ac.fPallet.fD,I Ac.fPallet.fH,I Ac.fPallet.fGram,I Ac.fClasses,Ec,Dq,I Ac.fMaster,Da] (Ac:Request) from ⟨_,_,_,_,_,_,z,z,(Enc.rd_agr (Enc.ow_rd Dp) (m.a 3 z)),(Enc.rd_agr (Enc.ow_rd Dm) (m.a 4 z)),(Enc.rd_agr (Enc.ow_rd Cy) (m.a 5 z))⟩) (show rd _ _ [Lw,Jr] (Pz:Plan) from ⟨_,_,_,_,z,z,(Enc.rd_agr (Enc.ow_rd Jp) (m.a 0 z)),(Enc.rd_agr (Enc.ow_rd Nv) (m.a 1 z))⟩) Lx) fun Sv Fz hR=>?_)
   obtain ⟨Tc,Ha,rfl,e,Dr,Hi⟩:=hR
   refine ⟨_,z,fun a k=>?_⟩
   have m:=m.new e Ha (fun b hb=>⟨Hi b hb,Enc.rd_lt (Enc.ow_rd Dr) b hb⟩) (Enc.ow_nd Dr)
   have Qx:=fun (y:Nat) (hy:y ∈ Ha)=>Nat.le_trans s.size (Hi y hy)
   obtain ⟨Ib,Og,En,Nj,rfl,rfl,Fn,Hl,_⟩:=Dr
   have m:=m.split2
   have s:=s.trans e (by simp)
   refine wpList_nil ⟨s,?_⟩
   refine d_one 8 (by kernel_rfl) z (s_stb (cs':=[Ib,En]) sizeOf58 m 4 Jy 0 k z z z z z z z z z z (allc (rd_o (Enc.ow_rd Fn)) (allc (rd_o (Enc.ow_rd Hl)) alln)) fun Po a k e m Le=>?_)
   have s:=s.trans e (fun y hy=>Or.inr (Mx y hy))
   refine wpList_nil ⟨s,?_⟩
   refine d_done (by kernel_rfl) ?_
   have k:=k.keep [2,3,4,5,10] z
   refine (nm_then ?_)
   exact ⟨Gb.fCartons,Ib,Og,Fz,Gb.fSpots,En,Nj,Fz,Na,Po,k.keep [2,3,4,5,10] z,m.sel [9,8,0,1,4] z (by decide),Fn,Hl,Le,h⟩
 refine s_allocN (cs:=[.slice none 0 0,.slice none 0 0]) m k zeroValue58 z z z z z fun Kj Vi a k m e Oc Ob=>?_
 have Kn:=lo1 (Nat.le_trans s.size Ob)
 have s:=s.trans e (by simp)
 refine wpList_nil ⟨s,?_⟩
 refine d_one 1 (by kernel_rfl) z (oE h fun Ao Lm h=>s_call k call18 z z z z z (c_laws_toRequest fu _ (show rd _ _ [I Aa.fWay,I Aa.fPallet.fW,I Aa.fPallet.fD,I Aa.fPallet.fH,I Aa.fPallet.fGram,I Aa.fClasses,Au,Av,I Aa.fMaster,Ar] (Aa:Request) from ⟨_,_,_,_,_,_,z,z,(Enc.rd_agr Ah (m.a00 (Enc.rd_lt Ah))),(Enc.rd_agr Ag (m.a00 (Enc.rd_lt Ag))),(Enc.rd_agr Ai (m.a00 (Enc.rd_lt Ai)))⟩) Lm) fun Rx Vl hR=>?_)
 obtain ⟨Vf,Hd,rfl,e,Dv,Fj⟩:=hR
 refine ⟨_,z,fun a k=>?_⟩
 have m:=m.new e Hd (fun b hb=>⟨Fj b hb,Enc.rd_lt (Enc.ow_rd Dv) b hb⟩) (Enc.ow_nd Dv)
 have Wh:=fun (y:Nat) (hy:y ∈ Hd)=>Nat.le_trans s.size (Fj y hy)
 obtain ⟨Pm,Ub,Mh,Rd,Kc,We,rfl,rfl,Ot,Pn,Jm,_⟩:=Dv
 have m:=m.split2
 have m:=m.split2at1
 have s:=s.trans e (by simp)
 refine wpList_nil ⟨s,?_⟩
 refine d_one 3 (by kernel_rfl) z (oE h fun Qg Oy h=>s_call k call34 z z z z z (c_laws_toPlan fu _ (show rd _ _ [Ak,Al] (Aj:Plan) from ⟨_,_,_,_,z,z,(Enc.rd_agr Ae (m.a00 (Enc.rd_lt Ae))),(Enc.rd_agr Af (m.a00 (Enc.rd_lt Af)))⟩) Oy) fun Ro Tn hR=>?_)
 obtain ⟨Uk,Ie,rfl,e,Cv,Es⟩:=hR
 refine ⟨_,z,fun a k=>?_⟩
 have m:=m.new e Ie (fun b hb=>⟨Es b hb,Enc.rd_lt (Enc.ow_rd Cv) b hb⟩) (Enc.ow_nd Cv)
 have Wl:=fun (y:Nat) (hy:y ∈ Ie)=>Nat.le_trans s.size (Es y hy)
 obtain ⟨Nn,Rs,Kd,Tk,rfl,rfl,Nd,Mt,_⟩:=Cv
 have m:=m.split2
 have s:=s.trans e (by simp)
 refine wpList_nil ⟨s,?_⟩
 refine d_one 6 (by kernel_rfl) z (oE h fun Gp Pw h=>s_call k call46 z z z z z (c_spec_Swapped fu _ _ _ _ (show rd _ _ [I Ao.fWay,I Ao.fPallet.fW,I Ao.fPallet.fD,I Ao.fPallet.fH,I Ao.fPallet.fGram,I Ao.fClasses,Pm,Mh,I Ao.fMaster,Kc] (Ao:Request) from ⟨_,_,_,_,_,_,z,z,(Enc.rd_agr (Enc.ow_rd Ot) (m.a 2 z)),(Enc.rd_agr (Enc.ow_rd Pn) (m.a 3 z)),(Enc.rd_agr (Enc.ow_rd Jm) (m.a 4 z))⟩) (show rd _ _ [Nn,Kd] (Qg:Plan) from ⟨_,_,_,_,z,z,(Enc.rd_agr (Enc.ow_rd Nd) (m.a 0 z)),(Enc.rd_agr (Enc.ow_rd Mt) (m.a 1 z))⟩) Pw) fun Tm Iq hR=>?_)
 obtain ⟨Sk,Fa,rfl,e,Cr,Hb⟩:=hR
 refine ⟨_,z,fun a k=>?_⟩
 have m:=m.new e Fa (fun b hb=>⟨Hb b hb,Enc.rd_lt (Enc.ow_rd Cr) b hb⟩) (Enc.ow_nd Cr)
 have Tj:=fun (y:Nat) (hy:y ∈ Fa)=>Nat.le_trans s.size (Hb y hy)
 obtain ⟨Fp,Lh,Ex,Mc,rfl,rfl,Il,Hy,_⟩:=Cr
 have m:=m.split2
 have s:=s.trans e (by simp)
 refine wpList_nil ⟨s,?_⟩
 refine d_one 8 (by kernel_rfl) z (s_stb (cs':=[Fp,Ex]) sizeOf58 m 7 Oc 0 k z z z z z z z z z z (allc (rd_o (Enc.ow_rd Il)) (allc (rd_o (Enc.ow_rd Hy)) alln)) fun Pi a k e m Ke=>?_)
 have s:=s.trans e (fun y hy=>Or.inr (Kn y hy))
 refine wpList_nil ⟨s,?_⟩
 refine d_done (by kernel_rfl) ?_
 have k:=k.keep [2,3,4,5,10] z
 refine (nm_then ?_)
 exact ⟨Gp.fCartons,Fp,Lh,Iq,Gp.fSpots,Ex,Mc,Iq,Kj,Pi,k.keep [2,3,4,5,10] z,m.sel [9,8,0,1,7] z (by decide),Il,Hy,Ke,h⟩

end Go.Proofs.YtkkfmjpbiimkbaaGreat
