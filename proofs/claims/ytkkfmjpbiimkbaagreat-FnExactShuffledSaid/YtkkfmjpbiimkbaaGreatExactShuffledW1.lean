/- FnExactShuffled: the walks of functions that it reaches (ExactShuffledW,part 1). Printed by gen.py. -/
import Derived.Test.YtkkfmjpbiimkbaaGreatExactFeasibleBWi3
import Derived.Test.YtkkfmjpbiimkbaaGreatExactFeasibleBWs3
import Derived.Test.YtkkfmjpbiimkbaaGreatExactFeasibleBWl1
import Derived.Test.YtkkfmjpbiimkbaaGreatExactShuffledD
set_option maxRecDepth 20000
set_option linter.unusedSimpArgs false
set_option linter.unusedVariables false
namespace Go.Proofs.YtkkfmjpbiimkbaaGreat
open Go Go.RowKit
open Enc (rd ow)
open Arg (argv)
open Ret (retv)
open Go.Proofs.Tryz

theorem bt83:BT Tryz.prog 83 [I 0,I 0,.slice none 0 0] #[(0,1),(1,1),(2,1)]:=⟨zeroValue83,_,underlying83,fun w=>by simp [sizeOf3,sizeOf63]⟩
theorem bt58:BT Tryz.prog 58 [.slice none 0 0,.slice none 0 0] #[(0,1),(1,1)]:=⟨zeroValue58,_,underlying58,fun w=>by simp [sizeOf55,sizeOf56]⟩
theorem ta28:TA Tryz.prog 28 10:=⟨Tryz.isAgg28,sizeOf28⟩
theorem ta52:TA Tryz.prog 52 2:=⟨Tryz.isAgg52,sizeOf52⟩
theorem c_spec_l9Carton (fu:Nat) {w0:World} (x1:Carton) {Ah:List Value} {F3:List Nat} (Al:rd w0 F3 Ah x1) {r:Carton}
    (h:d_spec_l9Carton fu x1 = some r) :
    Calls Tryz.prog 131 #[.agg Ah.toArray] w0 fun e w=>∃ (Ad:List Value) (G0:List Nat),e = .returned (.agg Ad.toArray) ∧ Ext [] w0 w ∧ ow w G0 Ad r ∧ (∀ b ∈ G0,w0.heap.size ≤ b):=by
 refine enter (vs:=[_]) func131 z ntmps131 z fun a k=>?_
 have m:=St.start w0
 obtain ⟨v5,_,rfl,rfl,Ag⟩:=Al
 unfold d_spec_l9Carton at h
 refine wr (s_box (cs:=[I x1.fType,I x1.fGroup,v5]) m k z z z z z z fun b7 w9 a k m e Ab=>s_alloc (cs:=[I 0,I 0,.slice none 0 0]) m k zeroValue83 z z z z z fun Aa Az a k m e Aj=>nn (wp_seq (d_go ([Aa]) mixo m z fun Ap hMd=>?_)))
 have m:=hMd
 have s:=Ext.refl (([Aa]):List Nat) Ap
 refine dt k 0 z (by kernel_rfl) z s (fun _ _ _=>id) (fun w s=>r_fa fa83_0 k z z) fun a k=>dt k 1 z (by kernel_rfl) z s (fun _ _ _=>id) (fun w s=>r_ld1 t13 (r:=[]) (Ab.at (hMd.az 1 0 z z z s) 0 1 z z z) k z z) fun a k=>dt k 2 z (by kernel_rfl) z s (fun _ _ _=>id) (fun w s=>r_fa fa83_1 k z z) fun a k=>dt k 3 z (by kernel_rfl) z s (fun _ _ _=>id) (fun w s=>r_ld1 t13 (r:=[]) (Ab.at (hMd.az 1 0 z z z s) 1 1 z z z) k z z) fun a k=>dt k 5 z (by kernel_rfl) z s (fun _ _ _=>id) (fun w s=>r_fa fa83_2 k z z) fun a k=>dt k 6 z (by kernel_rfl) z s (fun _ _ _=>id) (fun w s=>r_ld1 t163 (r:=[]) (Ab.at (hMd.az 1 0 z z z s) 2 1 z z z) k z z) fun a k=>d_one 4 (by kernel_rfl) z ?_
 refine s_bsN (cs:=[]) (ps:=[]) te63 m k z z z z z z z (by decide) z (by exact (List.forall_mem_nil _)) fun Ba Ay Av a k m e As Aq=>?_
 have Ae:=lo1 (Nat.le_trans s.size Aq)
 have Ao:=ow_bx As ([]:List Int) z z z
 have s:=s.trans e (by simp)
 refine wpList_nil ⟨s,?_⟩
 refine d_one 7 (by kernel_rfl) z (oE h fun Au Ar h=>s_appFN Ar te63 z m 0 Ao (News.rd (Enc.rd_agr Ag (m.a00 (Enc.rd_lt Ag)))) z z k z z z z z z z fun Af Ai Ax a k e m Ac Ak=>?_)
 have Aw:∀ y ∈ Ai,y ∈ ([Aa]) ∨ _ ≤ y:=fun y hy=>(Ak y hy).elim (fun hy=>(fun y hy=>Or.inr (Ae y hy)) y hy) (fun h=>Or.inr (Nat.le_trans s.size h))
 have s:=s.trans e (fun y hy=>Or.inr (Ae y hy))
 refine wpList_nil ⟨s,?_⟩
 refine dt k 8 z (by kernel_rfl) z s (fun _ _ _=>id) (fun w s=>r_build bt83 k (cs:=#[I x1.fType,I x1.fGroup,Af]) (ps:=[(0,.tmp 4),(1,.tmp 6),(2,.tmp 10)]) z z (fillc z z z (fillc z z z (fillc z (rd_c (Enc.ow_rd Ac)) z z)))) fun a k=>d_one 9 (by kernel_rfl) z (s_stb (cs':=[I x1.fType,I x1.fGroup,Af]) sizeOf83 m 1 Aj 0 k z z z z z z z z z z (allc z (allc z (allc (rd_o (Enc.ow_rd Ac)) alln))) fun At a k e m Am=>?_)
 have s:=s.trans e (fun y hy=>Or.inl hy)
 refine wpList_nil ⟨s,?_⟩
 refine d_done (by kernel_rfl) ((nm_then ?_))
 refine wp_ret ?_
 cases h
 exact finR1 k z (RV.cA k z ta83 (Am.at (m.a 1 z) 0 3 z z z) z) ⟨_,_,z,m.ext,⟨_,Ai,z,z,(Enc.ow_agr Ac (m.a 0 z)),by simpa [fps] using (m.sel [0] z (by decide)).nd⟩,(m.fresh 0 z)⟩
theorem c_spec_l13Copy (fu:Nat) {w0:World} (x1:Plan) {Bg:List Value} {F3:List Nat} (Cs:rd w0 F3 Bg x1) {r:Plan}
    (h:d_spec_l13Copy fu x1 = some r) :
    Calls Tryz.prog 128 #[.agg Bg.toArray] w0 fun e w=>∃ (Bd:List Value) (G0:List Nat),e = .returned (.agg Bd.toArray) ∧ Ext [] w0 w ∧ ow w G0 Bd r ∧ (∀ b ∈ G0,w0.heap.size ≤ b):=by
 refine enter (vs:=[_]) func128 z ntmps128 z fun a k=>?_
 have m:=St.start w0
 obtain ⟨v5,F6,v7,F8,rfl,rfl,Aq,Bi⟩:=Cs
 unfold d_spec_l13Copy at h
 refine wr (s_box (cs:=[v5,v7]) m k z z z z z z fun Bp Dk a k m e At=>s_alloc (cs:=[.slice none 0 0,.slice none 0 0]) m k zeroValue58 z z z z z fun Be Dl a k m e Dh=>nn (wr (s_bs (cs:=[]) (ps:=[]) te56 m k z z z z z z z (by decide) z (by exact (List.forall_mem_nil _)) fun Ef Ek Ep a k m e Bq=>?_)))
 have Cy:=ow_bx Bq ([]:List Spot) z z z
 refine sv k z (r_fa fa58_1 k z z) fun a k=>sv k z (r_ldb t156 m 2 At 1 k z z z z z) fun a k=>oE h fun By Cv h=>s_appF Cv te56 z m 0 Cy (News.rd (Enc.rd_agr Bi (m.a00 (Enc.rd_lt Bi)))) z z k z z z z z z z fun Ad Bl Cz a k e m Ak=>sv k z (r_build bt58 k (cs:=#[.slice none 0 0,Ad]) (ps:=[(1,.tmp 8)]) z z (fillc z (rd_c (Enc.ow_rd Ak)) z z)) fun a k=>s_alloc (cs:=[.slice none 0 0,.slice none 0 0]) m k zeroValue58 z z z z z fun Ah Dy a k m e Di=>s_stb (cs':=[.slice none 0 0,Ad]) sizeOf58 m 0 Di 0 k z z z z z z z z z z (allc z (allc (rd_o (Enc.ow_rd Ak)) alln)) fun Bv a k e m Co=>nn (wp_seq (wr (pN 1 k z fun a k=>nn (wp_block ?_))))
 refine c_loop (fun n a w=>∃ (Az:List Carton) (Ao:Value) (Ab:List Nat) (Aw:World) (Av:World) (Af:Int),K 29 [(1,.pointer (some (⟨Bp,0,none⟩:Addr))),(2,.pointer (some (⟨Be,0,none⟩:Addr))),(3,.pointer (some (⟨Ah,0,none⟩:Addr))),(4,I Af)] a ∧ St [] w0 w [([Bp],Dk),([Be],Dl),(Ab,Aw),([Ah],Av),(Bl,Cz)] ∧ ow Aw Ab [Ao] Az ∧ bx Av Ah [Ao,Ad] 58 ∧ d_spec_l13Copy_L1 fu x1 By n Az Af = some r) ?_ ?_ fu _ _ ?_
 · rintro a w ⟨_,_,_,_,_,_,_,_,_,_,h⟩
   exact nS h
 · rintro Dx a Ei ⟨Az,Ao,Ab,Aw,Av,Af,k,m,Aj,Ac,h⟩
   rw [d_spec_l13Copy_L1_s] at h
   unfold d_spec_l13Copy_L1_B at h
   refine wp_seq (wr (pN 1 k z fun a k=>sv k z (r_fa fa58_0 k z z) fun a k=>sv k z (r_ldb t155 m 0 At 0 k z z z z z) fun a k=>sv k z (r_len (α:=Carton) Aq k underlying55 z z) fun a k=>pN 1 k z fun a k=>nn (cI h k z (fun Cn h=>?_) fun Cn h=>?_)))
   · refine wp_skip (nm_then ?_)
     refine wp_seq (wp_block (d_go (Ab ++ ([Ah])) mixo m z fun Cp hMd=>?_))
     have m:=hMd
     have s:=Ext.refl ((Ab ++ ([Ah])):List Nat) Cp
     have hMj:=(hMd.sel [2,3,0,1,4] z (by decide)).join2
     refine dN [4] 1 z k (by kernel_rfl) z s (fun _ _ _ _ _=>id) fun a k=>dt k 0 z (by kernel_rfl) z s (fun _ _ _=>id) (fun w s=>r_fa fa58_0 k z z) fun a k=>dt k 2 z (by kernel_rfl) z s (fun _ _ _=>id) (fun w s=>r_fa fa58_0 k z z) fun a k=>dt k 3 z (by kernel_rfl) z s (fun _ _ _=>id) (fun w s=>r_ld1 t155 (r:=[]) (At.at (hMj.az 1 0 z z z s) 0 1 z z z) k z z) fun a k=>oE h fun Ag Ba h=>dt k 5 z (by kernel_rfl) z s (fun _ _ _=>id) (fun w s=>r_ixa Aq Ba k ts55 z z z) fun a k=>?_
     obtain ⟨Eo,El,Ej,Ce,Cf,Bs⟩:=rd_get Aq (ix_some Ba).2.2
     obtain ⟨Bc,_,rfl,rfl,Al⟩:=Ce
     refine dt k 6 z (by kernel_rfl) z s (fun _ _ _=>id) (fun w s=>r_ldA ta83 (Cf.agr (hMj.az0 0 z z (Enc.rd_lt Aq) s) Bs) z k z z) fun a k=>d_two 1 7 (by kernel_rfl) z z ?_ ?_ 
     · refine sv k z (r_ldb t155 m 3 Ac 0 k z z z z z) fun a k=>wpList_nil ⟨s,?_⟩
       refine d_one 7 (by kernel_rfl) z (oE h fun Ai Cq h=>s_call k call131 z z z z z (c_spec_l9Carton fu _ (show rd _ _ [I Ag.fType,I Ag.fGroup,Bc] (Ag:Carton) from ⟨_,_,z,z,(Enc.rd_agr Al (m.a00 (Enc.rd_lt Al)))⟩) Cq) fun Er Dt hR=>?_)
       obtain ⟨Eh,Ap,rfl,e,Ax,Bh⟩:=hR
       refine ⟨_,z,fun a k=>?_⟩
       have m:=m.new e Ap (fun b hb=>⟨Bh b hb,Enc.rd_lt (Enc.ow_rd Ax) b hb⟩) (Enc.ow_nd Ax)
       have Bu:=fun (y:Nat) (hy:y ∈ Ap)=>Nat.le_trans s.size (Bh y hy)
       obtain ⟨Bf,_,rfl,rfl,Dm,_⟩:=Ax
       have s:=s.trans e (by simp)
       refine wpList_nil ⟨s,?_⟩
       refine d_one 8 (by kernel_rfl) z (s_bsN (cs:=[I Ai.fType,I Ai.fGroup,Bf]) (ps:=[(0,.tmp 24)]) te55 m k z z z z z z z (by decide) z (by exact (List.forall_mem_cons.2 ⟨z,(List.forall_mem_nil _)⟩)) fun Du Ed Ec a k m e Cl Eg=>?_)
       have s:=s.trans e (by simp)
       refine wpList_nil ⟨s,?_⟩
       refine d_one 9 (by kernel_rfl) z (oE h fun Cj Cg h=>?_)
       have Cx:ow _ (Ap) [I Ai.fType,I Ai.fGroup,Bf] (Ai:Carton):=⟨_,_,z,z,(Enc.ow_agr Dm (m.a 1 z)),by simpa [fps] using (m.sel [1] z (by decide)).nd⟩
       have De:=News.box Cl (m.a 0 z) (by simp) (m:=1)
       have Cm:=m.a 4 z
       have m:=m.sel [4,1,0,2,3,5,6] z (by decide)
       have m:=m.join2
       refine s_appO (F:=Ab) (G:=(Ap)) Cg te55 z m Aj Cm De Cx (Agr.refl _ _) k z z z z z z fun Bn Dd Cu a k e m As=>?_
       have s:=s.trans e (fun y hy=>(List.mem_append.1 hy).elim ((fun y hy=>Or.inl (List.mem_append_left _ hy)) y) ((fun y hy=>Or.inr (Bu y hy)) y))
       refine wpList_nil ⟨s,?_⟩
       refine dt k 10 z (by kernel_rfl) z s (fun _ _ _=>id) (fun w s=>r_fa fa58_0 k z z) fun a k=>d_one 11 (by kernel_rfl) z (s_stb1 (cs':=[Bn,Ad]) sizeOf55 m 4 Ac 0 k (rd_c (Enc.ow_rd As)) (rd_o (Enc.ow_rd As)) z z z z z z z z z fun Cd a k e m Dn=>?_)
       have s:=s.trans e (fun y hy=>Or.inl (List.mem_append_right _ hy))
       refine wpList_nil ⟨s,?_⟩
       refine d_done (by kernel_rfl) ((nm_block (nm_then ?_)))
       refine wp_region_lit (pN 3 k z fun a k=>nn ?_)
       exact ⟨Cj,Bn,Dd,Cu,Cd,w64 (Af + 1),k.keep [1,2,3,4] z,m.sel [2,3,0,4,5] z (by decide),As,Dn,h⟩
     refine oE h fun Aa Dj h=>s_call k call131 z z z z z (c_spec_l9Carton fu _ (show rd _ _ [I Ag.fType,I Ag.fGroup,Bc] (Ag:Carton) from ⟨_,_,z,z,(Enc.rd_agr Al (m.a00 (Enc.rd_lt Al)))⟩) Dj) fun Ee En hR=>?_
     obtain ⟨Ds,Ae,rfl,e,Ay,Bk⟩:=hR
     refine ⟨_,z,fun a k=>?_⟩
     have m:=m.new e Ae (fun b hb=>⟨Bk b hb,Enc.rd_lt (Enc.ow_rd Ay) b hb⟩) (Enc.ow_nd Ay)
     have Bj:=fun (y:Nat) (hy:y ∈ Ae)=>Nat.le_trans s.size (Bk y hy)
     obtain ⟨Am,_,rfl,rfl,Bb,_⟩:=Ay
     have s:=s.trans e (by simp)
     refine wpList_nil ⟨s,?_⟩
     refine d_two 1 8 (by kernel_rfl) z z ?_ ?_ 
     · refine sv k z (r_ldb t155 m 4 Ac 0 k z z z z z) fun a k=>wpList_nil ⟨s,?_⟩
       refine d_one 8 (by kernel_rfl) z (s_bsN (cs:=[I Aa.fType,I Aa.fGroup,Am]) (ps:=[(0,.tmp 24)]) te55 m k z z z z z z z (by decide) z (by exact (List.forall_mem_cons.2 ⟨z,(List.forall_mem_nil _)⟩)) fun Dr Dq Dw a k m e Dc Eb=>?_)
       have s:=s.trans e (by simp)
       refine wpList_nil ⟨s,?_⟩
       refine d_one 9 (by kernel_rfl) z (oE h fun Df Dg h=>?_)
       have Bt:ow _ (Ae) [I Aa.fType,I Aa.fGroup,Am] (Aa:Carton):=⟨_,_,z,z,(Enc.ow_agr Bb (m.a 1 z)),by simpa [fps] using (m.sel [1] z (by decide)).nd⟩
       have Ci:=News.box Dc (m.a 0 z) (by simp) (m:=1)
       have Bw:=m.a 4 z
       have m:=m.sel [4,1,0,2,3,5,6] z (by decide)
       have m:=m.join2
       refine s_appO (F:=Ab) (G:=(Ae)) Dg te55 z m Aj Bw Ci Bt (Agr.refl _ _) k z z z z z z fun Bm Ch Ck a k e m Ar=>?_
       have s:=s.trans e (fun y hy=>(List.mem_append.1 hy).elim ((fun y hy=>Or.inl (List.mem_append_left _ hy)) y) ((fun y hy=>Or.inr (Bj y hy)) y))
       refine wpList_nil ⟨s,?_⟩
       refine dt k 10 z (by kernel_rfl) z s (fun _ _ _=>id) (fun w s=>r_fa fa58_0 k z z) fun a k=>d_one 11 (by kernel_rfl) z (s_stb1 (cs':=[Bm,Ad]) sizeOf55 m 4 Ac 0 k (rd_c (Enc.ow_rd Ar)) (rd_o (Enc.ow_rd Ar)) z z z z z z z z z fun Bz a k e m Cw=>?_)
       have s:=s.trans e (fun y hy=>Or.inl (List.mem_append_right _ hy))
       refine wpList_nil ⟨s,?_⟩
       refine d_done (by kernel_rfl) ((nm_block (nm_then ?_)))
       refine wp_region_lit (pN 3 k z fun a k=>nn ?_)
       exact ⟨Df,Bm,Ch,Ck,Bz,w64 (Af + 1),k.keep [1,2,3,4] z,m.sel [2,3,0,4,5] z (by decide),Ar,Cw,h⟩
     refine s_bsN (cs:=[I Aa.fType,I Aa.fGroup,Am]) (ps:=[(0,.tmp 24)]) te55 m k z z z z z z z (by decide) z (by exact (List.forall_mem_cons.2 ⟨z,(List.forall_mem_nil _)⟩)) fun Dz Ea Em a k m e Cb Es=>?_
     have s:=s.trans e (by simp)
     refine wpList_nil ⟨s,?_⟩
     refine d_one 1 (by kernel_rfl) z (sv k z (r_ldb t155 m 5 Ac 0 k z z z z z) fun a k=>wpList_nil ⟨s,?_⟩)
     refine d_one 9 (by kernel_rfl) z (oE h fun Br Ct h=>?_)
     have Db:ow _ (Ae) [I Aa.fType,I Aa.fGroup,Am] (Aa:Carton):=⟨_,_,z,z,(Enc.ow_agr Bb (m.a 1 z)),by simpa [fps] using (m.sel [1] z (by decide)).nd⟩
     have Cr:=News.box Cb (m.a 0 z) (by simp) (m:=1)
     have Do:=m.a 4 z
     have m:=m.sel [4,1,0,2,3,5,6] z (by decide)
     have m:=m.join2
     refine s_appO (F:=Ab) (G:=(Ae)) Ct te55 z m Aj Do Cr Db (Agr.refl _ _) k z z z z z z fun Bo Da Dp a k e m Au=>?_
     have s:=s.trans e (fun y hy=>(List.mem_append.1 hy).elim ((fun y hy=>Or.inl (List.mem_append_left _ hy)) y) ((fun y hy=>Or.inr (Bj y hy)) y))
     refine wpList_nil ⟨s,?_⟩
     refine dt k 10 z (by kernel_rfl) z s (fun _ _ _=>id) (fun w s=>r_fa fa58_0 k z z) fun a k=>d_one 11 (by kernel_rfl) z (s_stb1 (cs':=[Bo,Ad]) sizeOf55 m 4 Ac 0 k (rd_c (Enc.ow_rd Au)) (rd_o (Enc.ow_rd Au)) z z z z z z z z z fun Bx a k e m Ca=>?_)
     have s:=s.trans e (fun y hy=>Or.inl (List.mem_append_right _ hy))
     refine wpList_nil ⟨s,?_⟩
     refine d_done (by kernel_rfl) ((nm_block (nm_then ?_)))
     refine wp_region_lit (pN 3 k z fun a k=>nn ?_)
     exact ⟨Br,Bo,Da,Dp,Bx,w64 (Af + 1),k.keep [1,2,3,4] z,m.sel [2,3,0,4,5] z (by decide),Au,Ca,h⟩
   refine wp_exit (ex_then (ex_then (ex_same (nm_then ?_))))
   refine wr (sv k z (r_ldB ta58 m 3 Ac 0 k z z z z z z) fun a k=>s_stb (cs':=[Ao,Ad]) sizeOf58 m 1 Dh 0 k z z z z z z z z z z (allc (rd_o (Enc.ow_rd Aj)) (allc (rd_o (Enc.ow_rd Ak)) alln)) fun Dv a k e m Cc=>nn (wp_ret ?_))
   cases h
   exact finR1 k z (RV.cA k z ta58 (Cc.at (m.a 1 z) 0 2 z z z) z) ⟨_,_,z,m.ext,⟨_,Ab,_,Bl,z,z,(Enc.ow_agr Aj (m.a 2 z)),(Enc.ow_agr Ak (m.a 4 z)),by simpa [fps] using (m.sel [2,4] z (by decide)).nd⟩,(app_fresh (m.fresh 2 z) (m.fresh 4 z))⟩
 exact ⟨([]:List Carton),.slice none 0 0,[],_,Bv,0,k.keep [1,2,3,4] z,(m.addNil (u:=w0)).sel [4,3,0,1,2] z (by decide),(ow_nil _),Co,h⟩
theorem c_spec_Shuffled (fu:Nat) {w0:World} (r1:Request) (x5:Plan) (Bm:List Int) {Dw:List Value} {F3:List Nat} (Fa:rd w0 F3 Dw r1) {Ec:List Value} {F7:List Nat} (Hx:rd w0 F7 Ec x5) {Bn:Value} {Ic:List Nat} (Ab:rd w0 Ic [Bn] Bm) {r:Plan}
    (h:d_spec_Shuffled fu r1 x5 Bm = some r) :
    Calls Tryz.prog 39 #[.agg Dw.toArray,.agg Ec.toArray,Bn] w0 fun e w=>∃ (Cl:List Value) (G0:List Nat),e = .returned (.agg Cl.toArray) ∧ Ext [] w0 w ∧ ow w G0 Cl r ∧ (∀ b ∈ G0,w0.heap.size ≤ b):=by
 refine enter (vs:=[_,_,_]) func39 z ntmps39 z fun a k=>?_
 have m:=St.start w0
 obtain ⟨Dn,Jp,De,Ks,Dj,Ma,rfl,rfl,Cv,Dv,Db⟩:=Fa
 obtain ⟨Ar,Jz,As,Lr,rfl,rfl,Ae,Aa⟩:=Hx
 unfold d_spec_Shuffled at h
 refine wr (s_box (cs:=[I r1.fWay,I r1.fPallet.fW,I r1.fPallet.fD,I r1.fPallet.fH,I r1.fPallet.fGram,I r1.fClasses,Dn,De,I r1.fMaster,Dj]) m k z z z z z z fun Jj Jr a k m e Gp=>s_box (cs:=[Ar,As]) m k z z z z z z fun Bp Dr a k m e Ak=>s_alloc (cs:=[.slice none 0 0,.slice none 0 0]) m k zeroValue58 z z z z z fun Bg Cy a k m e Ba=>nn (wr (sv k z (r_fa fa58_0 k z z) fun a k=>sv k z (r_ldb t155 m 1 Ak 0 k z z z z z) fun a k=>sv k z (r_len (α:=Carton) Ae k underlying55 z z) fun a k=>pN 1 k z fun a k=>nn ?_)))
 refine c_cut (fun a w=>K 75 [(2,Bn),(4,.pointer (some (⟨Bp,0,none⟩:Addr))),(6,.pointer (some (⟨Bg,0,none⟩:Addr))),(7,I ((x5.fCartons.length:Int)))] a ∧ St [] w0 w [([Bp],Dr),([Bg],Cy)] ∧ d_spec_Shuffled_J1 fu x5 Bm = some r) ?_ ?_
 · rintro a Lh ⟨k,m,h⟩
   unfold d_spec_Shuffled_J1 at h
   refine wr (sv k z (r_build bt58 k (cs:=#[.slice none 0 0,.slice none 0 0]) (ps:=[]) z z (by kernel_rfl)) fun a k=>s_alloc (cs:=[.slice none 0 0,.slice none 0 0]) m k zeroValue58 z z z z z fun Ac Na a k m e Hu=>s_stb (cs':=[.slice none 0 0,.slice none 0 0]) sizeOf58 m 0 Hu 0 k z z z z z z z z z z z fun Hm a k e m Fe=>nn (wp_seq (wr (pN 1 k z fun a k=>nn (wp_block ?_)))))
   refine c_loop (fun n a w=>∃ (Bz:List Carton) (Bd:Value) (Al:List Nat) (Cd:World) (Cg:List Spot) (Aq:Value) (Ad:List Nat) (Br:World) (Cb:World) (Am:Int),K 75 [(2,Bn),(4,.pointer (some (⟨Bp,0,none⟩:Addr))),(6,.pointer (some (⟨Bg,0,none⟩:Addr))),(7,I ((x5.fCartons.length:Int))),(8,.pointer (some (⟨Ac,0,none⟩:Addr))),(9,I Am)] a ∧ St [] w0 w [([Bp],Dr),([Bg],Cy),(Al,Cd),(Ad,Br),([Ac],Cb)] ∧ ow Cd Al [Bd] Bz ∧ ow Br Ad [Aq] Cg ∧ bx Cb Ac [Bd,Aq] 58 ∧ d_spec_Shuffled_L1 fu x5 Bm n Bz Cg Am = some r) ?_ ?_ fu _ _ ?_
   · rintro a w ⟨_,_,_,_,_,_,_,_,_,_,_,_,_,_,_,h⟩
     exact nS h
   · rintro Jx a Kb ⟨Bz,Bd,Al,Cd,Cg,Aq,Ad,Br,Cb,Am,k,m,Bb,Ao,Ap,h⟩
     rw [d_spec_Shuffled_L1_s] at h
     unfold d_spec_Shuffled_L1_B at h
     refine wp_seq (wr (pN 3 k z fun a k=>nn (cI h k z (fun Ia h=>?_) fun Ia h=>?_)))
     · refine wp_skip (nm_then ?_)
       refine wp_seq (wp_block (wp_seq (wr (pN 2 k z fun a k=>oE h fun Md Fi h=>cE k m call129 z z z (c_spec_l8Times fu _ _ (Enc.rd_agr Ab (m.a00 (Enc.rd_lt Ab))) Fi) fun Mt e a k m=>pN 1 k z fun a k=>nn (cI h k z (fun Ht h=>?_) fun Ht h=>?_)))))
       · refine wr (sv k z (r_ldB ta58 m 0 Ak 0 k z z z z z z) fun a k=>oE h fun Mc Je h=>s_call k call128 z z z z z (c_spec_l13Copy fu _ (show rd _ _ [Ar,As] (x5:Plan) from ⟨_,_,_,_,z,z,(Enc.rd_agr Ae (m.a00 (Enc.rd_lt Ae))),(Enc.rd_agr Aa (m.a00 (Enc.rd_lt Aa)))⟩) Je) fun Mj Mx hR=>?_)
         obtain ⟨Mn,Fh,rfl,e,Ca,Ge⟩:=hR
         refine ⟨_,z,fun a k=>?_⟩
         have m:=m.new e Fh (fun b hb=>⟨Ge b hb,Enc.rd_lt (Enc.ow_rd Ca) b hb⟩) (Enc.ow_nd Ca)
         obtain ⟨Fc,Gu,Fl,Eu,rfl,rfl,Ed,Cq,_⟩:=Ca
         have m:=m.split2
         refine s_stb (cs':=[Fc,Fl]) sizeOf58 m 3 Ba 0 k z z z z z z z z z z (allc (rd_o (Enc.ow_rd Ed)) (allc (rd_o (Enc.ow_rd Cq)) alln)) fun Mh a k e m Fk=>nn (wp_ret (rt_then (rt_block (rt_then (rt_then (rt_block (rt_then ?_)))))))
         cases h
         exact finR1 k z (RV.cA k z ta58 (Fk.at (m.a 3 z) 0 2 z z z) z) ⟨_,_,z,m.ext,⟨_,Gu,_,Eu,z,z,(Enc.ow_agr Ed (m.a 0 z)),(Enc.ow_agr Cq (m.a 1 z)),by simpa [fps] using (m.sel [0,1] z (by decide)).nd⟩,(app_fresh (m.fresh 0 z) (m.fresh 1 z))⟩
       refine wp_skip (nm_then ?_)
       refine wp_seq (wr (pN 2 k z fun a k=>oE h fun Ju Ai h=>sv k z (r_ixa Ab Ai k ts63 z z z) fun a k=>sv k z (r_lde1 Ab (m.a00 (Enc.rd_lt Ab)) Ai 0 t13 k z z z z) fun a k=>pN 2 k z fun a k=>oE h fun Lp Hz h=>cE k m call130 z z z (c_spec_l1In fu _ _ _  Hz) fun Nd e a k m=>pN 1 k z fun a k=>nn (cI h k z (fun Fm h=>?_) fun Fm h=>?_)))
       · refine wr (sv k z (r_ldB ta58 m 0 Ak 0 k z z z z z z) fun a k=>oE h fun Kd Gi h=>s_call k call128 z z z z z (c_spec_l13Copy fu _ (show rd _ _ [Ar,As] (x5:Plan) from ⟨_,_,_,_,z,z,(Enc.rd_agr Ae (m.a00 (Enc.rd_lt Ae))),(Enc.rd_agr Aa (m.a00 (Enc.rd_lt Aa)))⟩) Gi) fun Kx Jk hR=>?_)
         obtain ⟨Jo,En,rfl,e,Bt,Gn⟩:=hR
         refine ⟨_,z,fun a k=>?_⟩
         have m:=m.new e En (fun b hb=>⟨Gn b hb,Enc.rd_lt (Enc.ow_rd Bt) b hb⟩) (Enc.ow_nd Bt)
         obtain ⟨Ii,Ef,Ew,Et,rfl,rfl,Cr,Ck,_⟩:=Bt
         have m:=m.split2
         refine s_stb (cs':=[Ii,Ew]) sizeOf58 m 3 Ba 0 k z z z z z z z z z z (allc (rd_o (Enc.ow_rd Cr)) (allc (rd_o (Enc.ow_rd Ck)) alln)) fun Lm a k e m Ho=>nn (wp_ret (rt_then (rt_block (rt_then (rt_then (rt_block (rt_then ?_)))))))
         cases h
         exact finR1 k z (RV.cA k z ta58 (Ho.at (m.a 3 z) 0 2 z z z) z) ⟨_,_,z,m.ext,⟨_,Ef,_,Et,z,z,(Enc.ow_agr Cr (m.a 0 z)),(Enc.ow_agr Ck (m.a 1 z)),by simpa [fps] using (m.sel [0,1] z (by decide)).nd⟩,(app_fresh (m.fresh 0 z) (m.fresh 1 z))⟩
       refine wp_skip (nm_then ?_)
       refine wp_seq (d_go (Al ++ ([Ac])) mixo m z fun Eg hMd=>?_)
       have m:=hMd
       have s:=Ext.refl ((Al ++ ([Ac])):List Nat) Eg
       have hMj:=(hMd.sel [2,4,0,1,3] z (by decide)).join2
       refine dN [4,5] 2 z k (by kernel_rfl) z s (fun _ _ _ _ _=>id) fun a k=>dt k 0 z (by kernel_rfl) z s (fun _ _ _=>id) (fun w s=>r_fa fa58_0 k z z) fun a k=>dt k 2 z (by kernel_rfl) z s (fun _ _ _=>id) (fun w s=>r_fa fa58_0 k z z) fun a k=>dt k 3 z (by kernel_rfl) z s (fun _ _ _=>id) (fun w s=>r_ld1 t155 (r:=[]) (Ak.at (hMj.az 1 0 z z z s) 0 1 z z z) k z z) fun a k=>oE h fun Mm Mo h=>dt k 6 z (by kernel_rfl) z s (fun _ _ _=>id) (fun w s=>r_ixa Ab Ai k ts63 z z z) fun a k=>dt k 7 z (by kernel_rfl) z s (fun _ _ _=>id) (fun w s=>r_lde1 Ab (hMj.az0 0 z z (Enc.rd_lt Ab) s) Ai 0 t13 k z z z z) fun a k=>oE h fun At Ds h=>?_
       refine dt k 8 z (by kernel_rfl) z s (fun _ _ _=>id) (fun w s=>r_ixa Ae Ds k ts55 z z z) fun a k=>?_
       obtain ⟨Ly,Kq,Mu,Fz,Ft,Gt⟩:=rd_get Ae (ix_some Ds).2.2
       obtain ⟨Cx,_,rfl,rfl,Be⟩:=Fz
       refine dt k 9 z (by kernel_rfl) z s (fun _ _ _=>id) (fun w s=>r_ldA ta83 (Ft.agr (hMj.az0 0 z z (Enc.rd_lt Ae) s) Gt) z k z z) fun a k=>d_two 1 10 (by kernel_rfl) z z ?_ ?_ 
       · refine sv k z (r_ldb t155 m 4 Ap 0 k z z z z z) fun a k=>wpList_nil ⟨s,?_⟩
         refine d_one 10 (by kernel_rfl) z (oE h fun Aw Fd h=>s_call k call131 z z z z z (c_spec_l9Carton fu _ (show rd _ _ [I At.fType,I At.fGroup,Cx] (At:Carton) from ⟨_,_,z,z,(Enc.rd_agr Be (m.a00 (Enc.rd_lt Be)))⟩) Fd) fun Kc Kw hR=>?_)
         obtain ⟨Lv,Bh,rfl,e,Ce,Dh⟩:=hR
         refine ⟨_,z,fun a k=>?_⟩
         have m:=m.new e Bh (fun b hb=>⟨Dh b hb,Enc.rd_lt (Enc.ow_rd Ce) b hb⟩) (Enc.ow_nd Ce)
         have Im:=fun (y:Nat) (hy:y ∈ Bh)=>Nat.le_trans s.size (Dh y hy)
         obtain ⟨Dc,_,rfl,rfl,Ik,_⟩:=Ce
         have s:=s.trans e (by simp)
         refine wpList_nil ⟨s,?_⟩
         refine d_one 11 (by kernel_rfl) z (s_bsN (cs:=[I Aw.fType,I Aw.fGroup,Dc]) (ps:=[(0,.tmp 57)]) te55 m k z z z z z z z (by decide) z (by exact (List.forall_mem_cons.2 ⟨z,(List.forall_mem_nil _)⟩)) fun Ku Le Jm a k m e Gc Lk=>?_)
         have s:=s.trans e (by simp)
         refine wpList_nil ⟨s,?_⟩
         refine d_one 12 (by kernel_rfl) z (oE h fun Cp Hf h=>?_)
         have Ih:ow _ (Bh) [I Aw.fType,I Aw.fGroup,Dc] (Aw:Carton):=⟨_,_,z,z,(Enc.ow_agr Ik (m.a 1 z)),by simpa [fps] using (m.sel [1] z (by decide)).nd⟩
         have Io:=News.box Gc (m.a 0 z) (by simp) (m:=1)
         have Fx:=m.a 4 z
         have m:=m.sel [4,1,0,2,3,5,6] z (by decide)
         have m:=m.join2
         refine s_appO (F:=Al) (G:=(Bh)) Hf te55 z m Bb Fx Io Ih (Agr.refl _ _) k z z z z z z fun Ax Co Dl a k e m Bk=>?_
         have s:=s.trans e (fun y hy=>(List.mem_append.1 hy).elim ((fun y hy=>Or.inl (List.mem_append_left _ hy)) y) ((fun y hy=>Or.inr (Im y hy)) y))
         refine wpList_nil ⟨s,?_⟩
         refine dt k 13 z (by kernel_rfl) z s (fun _ _ _=>id) (fun w s=>r_fa fa58_0 k z z) fun a k=>d_one 14 (by kernel_rfl) z (s_stb1 (cs':=[Ax,Aq]) sizeOf55 m 5 Ap 0 k (rd_c (Enc.ow_rd Bk)) (rd_o (Enc.ow_rd Bk)) z z z z z z z z z fun Jv a k e m Bc=>?_)
         have s:=s.trans e (fun y hy=>Or.inl (List.mem_append_right _ hy))
         refine wpList_nil ⟨s,?_⟩
         refine d_done (by kernel_rfl) ?_
         have k:=k.keep [2,4,6,7,8,9] z
         refine (nm_then ?_)
         refine d_go (Ad ++ ([Ac])) mixo m z fun Gf hMd=>?_
         have m:=hMd
         have s:=Ext.refl ((Ad ++ ([Ac])):List Nat) Gf
         have hMj:=(hMd.sel [4,5,0,1,2,3] z (by decide)).join2
         refine dN [4,5] 2 z k (by kernel_rfl) z s (fun _ _ _ _ _=>id) fun a k=>dt k 0 z (by kernel_rfl) z s (fun _ _ _=>id) (fun w s=>r_fa fa58_1 k z z) fun a k=>dt k 2 z (by kernel_rfl) z s (fun _ _ _=>id) (fun w s=>r_fa fa58_1 k z z) fun a k=>dt k 3 z (by kernel_rfl) z s (fun _ _ _=>id) (fun w s=>r_ld1 t156 (r:=[]) (Ak.at (hMj.az 3 0 z z z s) 1 1 z z z) k z z) fun a k=>oE h fun Mr Ms h=>dt k 6 z (by kernel_rfl) z s (fun _ _ _=>id) (fun w s=>r_ixa Ab Ai k ts63 z z z) fun a k=>dt k 7 z (by kernel_rfl) z s (fun _ _ _=>id) (fun w s=>r_lde1 Ab (hMj.az0 0 z z (Enc.rd_lt Ab) s) Ai 0 t13 k z z z z) fun a k=>oE h fun Aj Ci h=>?_
         refine dt k 8 z (by kernel_rfl) z s (fun _ _ _=>id) (fun w s=>r_ixa Aa Ci k ts56 z z z) fun a k=>dt k 9 z (by kernel_rfl) z s (fun _ _ _=>id) (fun w s=>r_lde Aa (hMj.az0 0 z z (Enc.rd_lt Aa) s) Ci ta89 k z z) fun a k=>d_two 1 10 (by kernel_rfl) z z ?_ ?_ 
         · refine sv k z (r_ldb t156 m 5 Bc 1 k z z z z z) fun a k=>wpList_nil ⟨s,?_⟩
           refine d_one 10 (by kernel_rfl) z (s_bsN (cs:=[I Aj.fPallet,I Aj.fX,I Aj.fY,I Aj.fZ]) (ps:=[(0,.tmp 70)]) te56 m k z z z z z z z (by decide) z (by exact (List.forall_mem_cons.2 ⟨z,(List.forall_mem_nil _)⟩)) fun Jl Ko Lo a k m e Gl Fr=>?_)
           have Kt:=lo1 (Nat.le_trans s.size Fr)
           have Iw:=ow_bx Gl ([Aj]:List Spot) z z z
           have s:=s.trans e (by simp)
           refine wpList_nil ⟨s,?_⟩
           refine d_one 11 (by kernel_rfl) z (oE h fun Ek Hl h=>s_appFN Hl te56 z m 5 Ao (News.rd (Enc.rd_agr (Enc.ow_rd Iw) (m.a 0 z))) z z k z z z z z z z fun Dy Cs Jd a k e m Bx Ip=>?_)
           have Me:∀ y ∈ Cs,y ∈ (Ad ++ ([Ac])) ∨ _ ≤ y:=fun y hy=>(Ip y hy).elim (fun hy=>(fun y hy=>Or.inl (List.mem_append_left _ hy)) y hy) (fun h=>Or.inr (Nat.le_trans s.size h))
           have s:=s.trans e (fun y hy=>Or.inl (List.mem_append_left _ hy))
           refine wpList_nil ⟨s,?_⟩
           refine dt k 12 z (by kernel_rfl) z s (fun _ _ _=>id) (fun w s=>r_fa fa58_1 k z z) fun a k=>d_one 13 (by kernel_rfl) z (s_stb1 (cs':=[Ax,Dy]) sizeOf56 m 6 Bc 1 k (rd_c (Enc.ow_rd Bx)) (rd_o (Enc.ow_rd Bx)) z z z z z z z z z fun Hy a k e m Hi=>?_)
           have s:=s.trans e (fun y hy=>Or.inl (List.mem_append_right _ hy))
           refine wpList_nil ⟨s,?_⟩
           refine d_done (by kernel_rfl) ((nm_block (nm_then ?_)))
           refine wp_region_lit (pN 3 k z fun a k=>nn ?_)
           exact ⟨Cp,Ax,Co,Dl,Ek,Dy,Cs,Jd,Hy,w64 (Am + 1),k.keep [2,4,6,7,8,9] z,m.sel [3,4,1,5,6] z (by decide),Bk,Bx,Hi,h⟩
         refine s_bsN (cs:=[I Aj.fPallet,I Aj.fX,I Aj.fY,I Aj.fZ]) (ps:=[(0,.tmp 70)]) te56 m k z z z z z z z (by decide) z (by exact (List.forall_mem_cons.2 ⟨z,(List.forall_mem_nil _)⟩)) fun Lj Mg Ln a k m e Es Ib=>?_
         have Js:=lo1 (Nat.le_trans s.size Ib)
         have Hp:=ow_bx Es ([Aj]:List Spot) z z z
         have s:=s.trans e (by simp)
         refine wpList_nil ⟨s,?_⟩
         refine d_one 1 (by kernel_rfl) z (sv k z (r_ldb t156 m 6 Bc 1 k z z z z z) fun a k=>wpList_nil ⟨s,?_⟩)
         refine d_one 11 (by kernel_rfl) z (oE h fun Jc El h=>s_appFN El te56 z m 5 Ao (News.rd (Enc.rd_agr (Enc.ow_rd Hp) (m.a 0 z))) z z k z z z z z z z fun Dp Du Hb a k e m Cf Gd=>?_)
         have Jq:∀ y ∈ Du,y ∈ (Ad ++ ([Ac])) ∨ _ ≤ y:=fun y hy=>(Gd y hy).elim (fun hy=>(fun y hy=>Or.inl (List.mem_append_left _ hy)) y hy) (fun h=>Or.inr (Nat.le_trans s.size h))
         have s:=s.trans e (fun y hy=>Or.inl (List.mem_append_left _ hy))
         refine wpList_nil ⟨s,?_⟩
         refine dt k 12 z (by kernel_rfl) z s (fun _ _ _=>id) (fun w s=>r_fa fa58_1 k z z) fun a k=>d_one 13 (by kernel_rfl) z (s_stb1 (cs':=[Ax,Dp]) sizeOf56 m 6 Bc 1 k (rd_c (Enc.ow_rd Cf)) (rd_o (Enc.ow_rd Cf)) z z z z z z z z z fun Gj a k e m Ir=>?_)
         have s:=s.trans e (fun y hy=>Or.inl (List.mem_append_right _ hy))
         refine wpList_nil ⟨s,?_⟩
         refine d_done (by kernel_rfl) ((nm_block (nm_then ?_)))
         refine wp_region_lit (pN 3 k z fun a k=>nn ?_)
         exact ⟨Cp,Ax,Co,Dl,Jc,Dp,Du,Hb,Gj,w64 (Am + 1),k.keep [2,4,6,7,8,9] z,m.sel [3,4,1,5,6] z (by decide),Bk,Cf,Ir,h⟩
       refine oE h fun Ag Hn h=>s_call k call131 z z z z z (c_spec_l9Carton fu _ (show rd _ _ [I At.fType,I At.fGroup,Cx] (At:Carton) from ⟨_,_,z,z,(Enc.rd_agr Be (m.a00 (Enc.rd_lt Be)))⟩) Hn) fun Kn Mb hR=>?_
       obtain ⟨Kz,Au,rfl,e,Bs,Dx⟩:=hR
       refine ⟨_,z,fun a k=>?_⟩
       have m:=m.new e Au (fun b hb=>⟨Dx b hb,Enc.rd_lt (Enc.ow_rd Bs) b hb⟩) (Enc.ow_nd Bs)
       have Ee:=fun (y:Nat) (hy:y ∈ Au)=>Nat.le_trans s.size (Dx y hy)
       obtain ⟨Bl,_,rfl,rfl,Cm,_⟩:=Bs
       have s:=s.trans e (by simp)
       refine wpList_nil ⟨s,?_⟩
       refine d_two 1 11 (by kernel_rfl) z z ?_ ?_ 
       · refine sv k z (r_ldb t155 m 5 Ap 0 k z z z z z) fun a k=>wpList_nil ⟨s,?_⟩
         refine d_one 11 (by kernel_rfl) z (s_bsN (cs:=[I Ag.fType,I Ag.fGroup,Bl]) (ps:=[(0,.tmp 57)]) te55 m k z z z z z z z (by decide) z (by exact (List.forall_mem_cons.2 ⟨z,(List.forall_mem_nil _)⟩)) fun Kk Mf Lc a k m e It Jn=>?_)
         have s:=s.trans e (by simp)
         refine wpList_nil ⟨s,?_⟩
         refine d_one 12 (by kernel_rfl) z (oE h fun Ch Hw h=>?_)
         have Ha:ow _ (Au) [I Ag.fType,I Ag.fGroup,Bl] (Ag:Carton):=⟨_,_,z,z,(Enc.ow_agr Cm (m.a 1 z)),by simpa [fps] using (m.sel [1] z (by decide)).nd⟩
         have He:=News.box It (m.a 0 z) (by simp) (m:=1)
         have Fw:=m.a 4 z
         have m:=m.sel [4,1,0,2,3,5,6] z (by decide)
         have m:=m.join2
         refine s_appO (F:=Al) (G:=(Au)) Hw te55 z m Bb Fw He Ha (Agr.refl _ _) k z z z z z z fun Az Dg Cw a k e m Bi=>?_
         have s:=s.trans e (fun y hy=>(List.mem_append.1 hy).elim ((fun y hy=>Or.inl (List.mem_append_left _ hy)) y) ((fun y hy=>Or.inr (Ee y hy)) y))
         refine wpList_nil ⟨s,?_⟩
         refine dt k 13 z (by kernel_rfl) z s (fun _ _ _=>id) (fun w s=>r_fa fa58_0 k z z) fun a k=>d_one 14 (by kernel_rfl) z (s_stb1 (cs':=[Az,Aq]) sizeOf55 m 5 Ap 0 k (rd_c (Enc.ow_rd Bi)) (rd_o (Enc.ow_rd Bi)) z z z z z z z z z fun Lz a k e m Bj=>?_)
         have s:=s.trans e (fun y hy=>Or.inl (List.mem_append_right _ hy))
         refine wpList_nil ⟨s,?_⟩
         refine d_done (by kernel_rfl) ?_
         have k:=k.keep [2,4,6,7,8,9] z
         refine (nm_then ?_)
         refine d_go (Ad ++ ([Ac])) mixo m z fun Gm hMd=>?_
         have m:=hMd
         have s:=Ext.refl ((Ad ++ ([Ac])):List Nat) Gm
         have hMj:=(hMd.sel [4,5,0,1,2,3] z (by decide)).join2
         refine dN [4,5] 2 z k (by kernel_rfl) z s (fun _ _ _ _ _=>id) fun a k=>dt k 0 z (by kernel_rfl) z s (fun _ _ _=>id) (fun w s=>r_fa fa58_1 k z z) fun a k=>dt k 2 z (by kernel_rfl) z s (fun _ _ _=>id) (fun w s=>r_fa fa58_1 k z z) fun a k=>dt k 3 z (by kernel_rfl) z s (fun _ _ _=>id) (fun w s=>r_ld1 t156 (r:=[]) (Ak.at (hMj.az 3 0 z z z s) 1 1 z z z) k z z) fun a k=>oE h fun Jw Ky h=>dt k 6 z (by kernel_rfl) z s (fun _ _ _=>id) (fun w s=>r_ixa Ab Ai k ts63 z z z) fun a k=>dt k 7 z (by kernel_rfl) z s (fun _ _ _=>id) (fun w s=>r_lde1 Ab (hMj.az0 0 z z (Enc.rd_lt Ab) s) Ai 0 t13 k z z z z) fun a k=>oE h fun Af Da h=>?_
         refine dt k 8 z (by kernel_rfl) z s (fun _ _ _=>id) (fun w s=>r_ixa Aa Da k ts56 z z z) fun a k=>dt k 9 z (by kernel_rfl) z s (fun _ _ _=>id) (fun w s=>r_lde Aa (hMj.az0 0 z z (Enc.rd_lt Aa) s) Da ta89 k z z) fun a k=>d_two 1 10 (by kernel_rfl) z z ?_ ?_ 
         · refine sv k z (r_ldb t156 m 5 Bj 1 k z z z z z) fun a k=>wpList_nil ⟨s,?_⟩
           refine d_one 10 (by kernel_rfl) z (s_bsN (cs:=[I Af.fPallet,I Af.fX,I Af.fY,I Af.fZ]) (ps:=[(0,.tmp 70)]) te56 m k z z z z z z z (by decide) z (by exact (List.forall_mem_cons.2 ⟨z,(List.forall_mem_nil _)⟩)) fun Mp Mv Lb a k m e Eh Gh=>?_)
           have Nc:=lo1 (Nat.le_trans s.size Gh)
           have Ez:=ow_bx Eh ([Af]:List Spot) z z z
           have s:=s.trans e (by simp)
           refine wpList_nil ⟨s,?_⟩
           refine d_one 11 (by kernel_rfl) z (oE h fun Hh Gz h=>s_appFN Gz te56 z m 5 Ao (News.rd (Enc.rd_agr (Enc.ow_rd Ez) (m.a 0 z))) z z k z z z z z z z fun Cj Dq Fu a k e m Bw Ga=>?_)
           have Lx:∀ y ∈ Dq,y ∈ (Ad ++ ([Ac])) ∨ _ ≤ y:=fun y hy=>(Ga y hy).elim (fun hy=>(fun y hy=>Or.inl (List.mem_append_left _ hy)) y hy) (fun h=>Or.inr (Nat.le_trans s.size h))
           have s:=s.trans e (fun y hy=>Or.inl (List.mem_append_left _ hy))
           refine wpList_nil ⟨s,?_⟩
           refine dt k 12 z (by kernel_rfl) z s (fun _ _ _=>id) (fun w s=>r_fa fa58_1 k z z) fun a k=>d_one 13 (by kernel_rfl) z (s_stb1 (cs':=[Az,Cj]) sizeOf56 m 6 Bj 1 k (rd_c (Enc.ow_rd Bw)) (rd_o (Enc.ow_rd Bw)) z z z z z z z z z fun Jh a k e m Hg=>?_)
           have s:=s.trans e (fun y hy=>Or.inl (List.mem_append_right _ hy))
           refine wpList_nil ⟨s,?_⟩
           refine d_done (by kernel_rfl) ((nm_block (nm_then ?_)))
           refine wp_region_lit (pN 3 k z fun a k=>nn ?_)
           exact ⟨Ch,Az,Dg,Cw,Hh,Cj,Dq,Fu,Jh,w64 (Am + 1),k.keep [2,4,6,7,8,9] z,m.sel [3,4,1,5,6] z (by decide),Bi,Bw,Hg,h⟩
         refine s_bsN (cs:=[I Af.fPallet,I Af.fX,I Af.fY,I Af.fZ]) (ps:=[(0,.tmp 70)]) te56 m k z z z z z z z (by decide) z (by exact (List.forall_mem_cons.2 ⟨z,(List.forall_mem_nil _)⟩)) fun Li Mq Kv a k m e Hc Gb=>?_
         have La:=lo1 (Nat.le_trans s.size Gb)
         have Ep:=ow_bx Hc ([Af]:List Spot) z z z
         have s:=s.trans e (by simp)
         refine wpList_nil ⟨s,?_⟩
         refine d_one 1 (by kernel_rfl) z (sv k z (r_ldb t156 m 6 Bj 1 k z z z z z) fun a k=>wpList_nil ⟨s,?_⟩)
         refine d_one 11 (by kernel_rfl) z (oE h fun Fs Em h=>s_appFN Em te56 z m 5 Ao (News.rd (Enc.rd_agr (Enc.ow_rd Ep) (m.a 0 z))) z z k z z z z z z z fun Cn Dk Ej a k e m Bq Fq=>?_)
         have Kr:∀ y ∈ Dk,y ∈ (Ad ++ ([Ac])) ∨ _ ≤ y:=fun y hy=>(Fq y hy).elim (fun hy=>(fun y hy=>Or.inl (List.mem_append_left _ hy)) y hy) (fun h=>Or.inr (Nat.le_trans s.size h))
         have s:=s.trans e (fun y hy=>Or.inl (List.mem_append_left _ hy))
         refine wpList_nil ⟨s,?_⟩
         refine dt k 12 z (by kernel_rfl) z s (fun _ _ _=>id) (fun w s=>r_fa fa58_1 k z z) fun a k=>d_one 13 (by kernel_rfl) z (s_stb1 (cs':=[Az,Cn]) sizeOf56 m 6 Bj 1 k (rd_c (Enc.ow_rd Bq)) (rd_o (Enc.ow_rd Bq)) z z z z z z z z z fun Ei a k e m If=>?_)
         have s:=s.trans e (fun y hy=>Or.inl (List.mem_append_right _ hy))
         refine wpList_nil ⟨s,?_⟩
         refine d_done (by kernel_rfl) ((nm_block (nm_then ?_)))
         refine wp_region_lit (pN 3 k z fun a k=>nn ?_)
         exact ⟨Ch,Az,Dg,Cw,Fs,Cn,Dk,Ej,Ei,w64 (Am + 1),k.keep [2,4,6,7,8,9] z,m.sel [3,4,1,5,6] z (by decide),Bi,Bq,If,h⟩
       refine s_bsN (cs:=[I Ag.fType,I Ag.fGroup,Bl]) (ps:=[(0,.tmp 57)]) te55 m k z z z z z z z (by decide) z (by exact (List.forall_mem_cons.2 ⟨z,(List.forall_mem_nil _)⟩)) fun Lq Lu Kg a k m e Gv Jt=>?_
       have s:=s.trans e (by simp)
       refine wpList_nil ⟨s,?_⟩
       refine d_one 1 (by kernel_rfl) z (sv k z (r_ldb t155 m 6 Ap 0 k z z z z z) fun a k=>wpList_nil ⟨s,?_⟩)
       refine d_one 12 (by kernel_rfl) z (oE h fun Ea Gk h=>?_)
       have Ev:ow _ (Au) [I Ag.fType,I Ag.fGroup,Bl] (Ag:Carton):=⟨_,_,z,z,(Enc.ow_agr Cm (m.a 1 z)),by simpa [fps] using (m.sel [1] z (by decide)).nd⟩
       have Jb:=News.box Gv (m.a 0 z) (by simp) (m:=1)
       have Jf:=m.a 4 z
       have m:=m.sel [4,1,0,2,3,5,6] z (by decide)
       have m:=m.join2
       refine s_appO (F:=Al) (G:=(Au)) Gk te55 z m Bb Jf Jb Ev (Agr.refl _ _) k z z z z z z fun Ay Eb Ct a k e m Bo=>?_
       have s:=s.trans e (fun y hy=>(List.mem_append.1 hy).elim ((fun y hy=>Or.inl (List.mem_append_left _ hy)) y) ((fun y hy=>Or.inr (Ee y hy)) y))
       refine wpList_nil ⟨s,?_⟩
       refine dt k 13 z (by kernel_rfl) z s (fun _ _ _=>id) (fun w s=>r_fa fa58_0 k z z) fun a k=>d_one 14 (by kernel_rfl) z (s_stb1 (cs':=[Ay,Aq]) sizeOf55 m 5 Ap 0 k (rd_c (Enc.ow_rd Bo)) (rd_o (Enc.ow_rd Bo)) z z z z z z z z z fun Lf a k e m Bf=>?_)
       have s:=s.trans e (fun y hy=>Or.inl (List.mem_append_right _ hy))
       refine wpList_nil ⟨s,?_⟩
       refine d_done (by kernel_rfl) ?_
       have k:=k.keep [2,4,6,7,8,9] z
       refine (nm_then ?_)
       refine d_go (Ad ++ ([Ac])) mixo m z fun In hMd=>?_
       have m:=hMd
       have s:=Ext.refl ((Ad ++ ([Ac])):List Nat) In
       have hMj:=(hMd.sel [4,5,0,1,2,3] z (by decide)).join2
       refine dN [4,5] 2 z k (by kernel_rfl) z s (fun _ _ _ _ _=>id) fun a k=>dt k 0 z (by kernel_rfl) z s (fun _ _ _=>id) (fun w s=>r_fa fa58_1 k z z) fun a k=>dt k 2 z (by kernel_rfl) z s (fun _ _ _=>id) (fun w s=>r_fa fa58_1 k z z) fun a k=>dt k 3 z (by kernel_rfl) z s (fun _ _ _=>id) (fun w s=>r_ld1 t156 (r:=[]) (Ak.at (hMj.az 3 0 z z z s) 1 1 z z z) k z z) fun a k=>oE h fun Lw Lg h=>dt k 6 z (by kernel_rfl) z s (fun _ _ _=>id) (fun w s=>r_ixa Ab Ai k ts63 z z z) fun a k=>dt k 7 z (by kernel_rfl) z s (fun _ _ _=>id) (fun w s=>r_lde1 Ab (hMj.az0 0 z z (Enc.rd_lt Ab) s) Ai 0 t13 k z z z z) fun a k=>oE h fun Ah Di h=>?_
       refine dt k 8 z (by kernel_rfl) z s (fun _ _ _=>id) (fun w s=>r_ixa Aa Di k ts56 z z z) fun a k=>dt k 9 z (by kernel_rfl) z s (fun _ _ _=>id) (fun w s=>r_lde Aa (hMj.az0 0 z z (Enc.rd_lt Aa) s) Di ta89 k z z) fun a k=>d_two 1 10 (by kernel_rfl) z z ?_ ?_ 
       · refine sv k z (r_ldb t156 m 5 Bf 1 k z z z z z) fun a k=>wpList_nil ⟨s,?_⟩
         refine d_one 10 (by kernel_rfl) z (s_bsN (cs:=[I Ah.fPallet,I Ah.fX,I Ah.fY,I Ah.fZ]) (ps:=[(0,.tmp 70)]) te56 m k z z z z z z z (by decide) z (by exact (List.forall_mem_cons.2 ⟨z,(List.forall_mem_nil _)⟩)) fun Mz Kj Jy a k m e Iu Gg=>?_)
         have Kp:=lo1 (Nat.le_trans s.size Gg)
         have Gq:=ow_bx Iu ([Ah]:List Spot) z z z
         have s:=s.trans e (by simp)
         refine wpList_nil ⟨s,?_⟩
         refine d_one 11 (by kernel_rfl) z (oE h fun Hr Is h=>s_appFN Is te56 z m 5 Ao (News.rd (Enc.rd_agr (Enc.ow_rd Gq) (m.a 0 z))) z z k z z z z z z z fun Cz Dt Gy a k e m Cc Iv=>?_)
         have Ji:∀ y ∈ Dt,y ∈ (Ad ++ ([Ac])) ∨ _ ≤ y:=fun y hy=>(Iv y hy).elim (fun hy=>(fun y hy=>Or.inl (List.mem_append_left _ hy)) y hy) (fun h=>Or.inr (Nat.le_trans s.size h))
         have s:=s.trans e (fun y hy=>Or.inl (List.mem_append_left _ hy))
         refine wpList_nil ⟨s,?_⟩
         refine dt k 12 z (by kernel_rfl) z s (fun _ _ _=>id) (fun w s=>r_fa fa58_1 k z z) fun a k=>d_one 13 (by kernel_rfl) z (s_stb1 (cs':=[Ay,Cz]) sizeOf56 m 6 Bf 1 k (rd_c (Enc.ow_rd Cc)) (rd_o (Enc.ow_rd Cc)) z z z z z z z z z fun Er a k e m Hv=>?_)
         have s:=s.trans e (fun y hy=>Or.inl (List.mem_append_right _ hy))
         refine wpList_nil ⟨s,?_⟩
         refine d_done (by kernel_rfl) ((nm_block (nm_then ?_)))
         refine wp_region_lit (pN 3 k z fun a k=>nn ?_)
         exact ⟨Ea,Ay,Eb,Ct,Hr,Cz,Dt,Gy,Er,w64 (Am + 1),k.keep [2,4,6,7,8,9] z,m.sel [3,4,1,5,6] z (by decide),Bo,Cc,Hv,h⟩
       refine s_bsN (cs:=[I Ah.fPallet,I Ah.fX,I Ah.fY,I Ah.fZ]) (ps:=[(0,.tmp 70)]) te56 m k z z z z z z z (by decide) z (by exact (List.forall_mem_cons.2 ⟨z,(List.forall_mem_nil _)⟩)) fun Ll Lt Mw a k m e Gw Hj=>?_
       have Mi:=lo1 (Nat.le_trans s.size Hj)
       have Fn:=ow_bx Gw ([Ah]:List Spot) z z z
       have s:=s.trans e (by simp)
       refine wpList_nil ⟨s,?_⟩
       refine d_one 1 (by kernel_rfl) z (sv k z (r_ldb t156 m 6 Bf 1 k z z z z z) fun a k=>wpList_nil ⟨s,?_⟩)
       refine d_one 11 (by kernel_rfl) z (oE h fun Ex Ix h=>s_appFN Ix te56 z m 5 Ao (News.rd (Enc.rd_agr (Enc.ow_rd Fn) (m.a 0 z))) z z k z z z z z z z fun Dz Do Hk a k e m Bu Iq=>?_)
       have Ka:∀ y ∈ Do,y ∈ (Ad ++ ([Ac])) ∨ _ ≤ y:=fun y hy=>(Iq y hy).elim (fun hy=>(fun y hy=>Or.inl (List.mem_append_left _ hy)) y hy) (fun h=>Or.inr (Nat.le_trans s.size h))
       have s:=s.trans e (fun y hy=>Or.inl (List.mem_append_left _ hy))
       refine wpList_nil ⟨s,?_⟩
       refine dt k 12 z (by kernel_rfl) z s (fun _ _ _=>id) (fun w s=>r_fa fa58_1 k z z) fun a k=>d_one 13 (by kernel_rfl) z (s_stb1 (cs':=[Ay,Dz]) sizeOf56 m 6 Bf 1 k (rd_c (Enc.ow_rd Bu)) (rd_o (Enc.ow_rd Bu)) z z z z z z z z z fun Ff a k e m Fv=>?_)
       have s:=s.trans e (fun y hy=>Or.inl (List.mem_append_right _ hy))
       refine wpList_nil ⟨s,?_⟩
       refine d_done (by kernel_rfl) ((nm_block (nm_then ?_)))
       refine wp_region_lit (pN 3 k z fun a k=>nn ?_)
       exact ⟨Ea,Ay,Eb,Ct,Ex,Dz,Do,Hk,Ff,w64 (Am + 1),k.keep [2,4,6,7,8,9] z,m.sel [3,4,1,5,6] z (by decide),Bo,Bu,Fv,h⟩
     refine wp_exit (ex_then (ex_then (ex_same (nm_then ?_))))
     refine wr (sv k z (r_ldB ta58 m 4 Ap 0 k z z z z z z) fun a k=>s_stb (cs':=[Bd,Aq]) sizeOf58 m 1 Ba 0 k z z z z z z z z z z (allc (rd_o (Enc.ow_rd Bb)) (allc (rd_o (Enc.ow_rd Ao)) alln)) fun Ke a k e m Jg=>nn (wp_ret ?_))
     cases h
     exact finR1 k z (RV.cA k z ta58 (Jg.at (m.a 1 z) 0 2 z z z) z) ⟨_,_,z,m.ext,⟨_,Al,_,Ad,z,z,(Enc.ow_agr Bb (m.a 2 z)),(Enc.ow_agr Ao (m.a 3 z)),by simpa [fps] using (m.sel [2,3] z (by decide)).nd⟩,(app_fresh (m.fresh 2 z) (m.fresh 3 z))⟩
   exact ⟨([]:List Carton),.slice none 0 0,[],_,([]:List Spot),.slice none 0 0,[],_,Hm,0,k.keep [2,4,6,7,8,9] z,((m.addNil (u:=w0)).addNil (u:=w0)).sel [3,4,0,1,2] z (by decide),(ow_nil _),(ow_nil _),Fe,h⟩
 refine wr (sv k z (r_ldB ta38 m 2 Gp 0 k z z z z z z) fun a k=>sv k z (r_ldB ta58 m 1 Ak 0 k z z z z z z) fun a k=>oE h fun Ie Eo h=>cE k m call37 z z z (c_spec_Feasible fu _ _ (show rd _ _ [I r1.fWay,I r1.fPallet.fW,I r1.fPallet.fD,I r1.fPallet.fH,I r1.fPallet.fGram,I r1.fClasses,Dn,De,I r1.fMaster,Dj] (r1:Request) from ⟨_,_,_,_,_,_,z,z,(Enc.rd_agr Cv (m.a00 (Enc.rd_lt Cv))),(Enc.rd_agr Dv (m.a00 (Enc.rd_lt Dv))),(Enc.rd_agr Db (m.a00 (Enc.rd_lt Db)))⟩) (show rd _ _ [Ar,As] (x5:Plan) from ⟨_,_,_,_,z,z,(Enc.rd_agr Ae (m.a00 (Enc.rd_lt Ae))),(Enc.rd_agr Aa (m.a00 (Enc.rd_lt Aa)))⟩) Eo) fun Km e a k m=>pN 2 k z fun a k=>?_)
 refine bsplit (!Ie) (fun Av=>?_) (fun Av=>?_)
 · have h:=bif_t Av h
   refine rB k 17 z Av fun k=>pN 5 k z fun a k=>nn (wp_cond_true (k.ev z) (wr (sv k z (r_ldB ta58 m 1 Ak 0 k z z z z z z) fun a k=>oE h fun Kf Il h=>s_call k call128 z z z z z (c_spec_l13Copy fu _ (show rd _ _ [Ar,As] (x5:Plan) from ⟨_,_,_,_,z,z,(Enc.rd_agr Ae (m.a00 (Enc.rd_lt Ae))),(Enc.rd_agr Aa (m.a00 (Enc.rd_lt Aa)))⟩) Il) fun My Mk hR=>?_)))
   obtain ⟨Ld,Fj,rfl,e,Bv,Gx⟩:=hR
   refine ⟨_,z,fun a k=>?_⟩
   have m:=m.new e Fj (fun b hb=>⟨Gx b hb,Enc.rd_lt (Enc.ow_rd Bv) b hb⟩) (Enc.ow_nd Bv)
   obtain ⟨Fp,Ey,Fb,Id,rfl,rfl,Dm,Df,_⟩:=Bv
   have m:=m.split2
   refine s_stb (cs':=[Fp,Fb]) sizeOf58 m 2 Ba 0 k z z z z z z z z z z (allc (rd_o (Enc.ow_rd Dm)) (allc (rd_o (Enc.ow_rd Df)) alln)) fun Kh a k e m Gr=>nn (wp_ret (rt_then ?_))
   cases h
   exact finR1 k z (RV.cA k z ta58 (Gr.at (m.a 2 z) 0 2 z z z) z) ⟨_,_,z,m.ext,⟨_,Ey,_,Id,z,z,(Enc.ow_agr Dm (m.a 0 z)),(Enc.ow_agr Df (m.a 1 z)),by simpa [fps] using (m.sel [0,1] z (by decide)).nd⟩,(app_fresh (m.fresh 0 z) (m.fresh 1 z))⟩
 have h:=bif_f Av h
 refine rB k 17 z Av fun k=>pN 1 k z fun a k=>sv k z (r_len (α:=Int) Ab k underlying63 z z) fun a k=>pN 3 k z fun a k=>nn (cI h k z (fun Fy h=>?_) fun Fy h=>?_)
 · refine wr (sv k z (r_ldB ta58 m 1 Ak 0 k z z z z z z) fun a k=>oE h fun Nb Ij h=>s_call k call128 z z z z z (c_spec_l13Copy fu _ (show rd _ _ [Ar,As] (x5:Plan) from ⟨_,_,_,_,z,z,(Enc.rd_agr Ae (m.a00 (Enc.rd_lt Ae))),(Enc.rd_agr Aa (m.a00 (Enc.rd_lt Aa)))⟩) Ij) fun Ls Ml hR=>?_)
   obtain ⟨Kl,Iy,rfl,e,By,Ig⟩:=hR
   refine ⟨_,z,fun a k=>?_⟩
   have m:=m.new e Iy (fun b hb=>⟨Ig b hb,Enc.rd_lt (Enc.ow_rd By) b hb⟩) (Enc.ow_nd By)
   obtain ⟨Hq,Hd,Fg,Ja,rfl,rfl,Cu,Dd,_⟩:=By
   have m:=m.split2
   refine s_stb (cs':=[Hq,Fg]) sizeOf58 m 2 Ba 0 k z z z z z z z z z z (allc (rd_o (Enc.ow_rd Cu)) (allc (rd_o (Enc.ow_rd Dd)) alln)) fun Ki a k e m Iz=>nn (wp_ret (rt_then ?_))
   cases h
   exact finR1 k z (RV.cA k z ta58 (Iz.at (m.a 2 z) 0 2 z z z) z) ⟨_,_,z,m.ext,⟨_,Hd,_,Ja,z,z,(Enc.ow_agr Cu (m.a 0 z)),(Enc.ow_agr Dd (m.a 1 z)),by simpa [fps] using (m.sel [0,1] z (by decide)).nd⟩,(app_fresh (m.fresh 0 z) (m.fresh 1 z))⟩
 refine wp_skip (nm_then ?_)
 exact ⟨k.keep [2,4,6,7] z,m.sel [1,0] z (by decide),h⟩
theorem c_impl_cloneCartons (fu:Nat) {w0:World} (Af:List Carton) {v2:Value} {F3:List Nat} (Ae:rd w0 F3 [v2] Af) {r:(List Carton)}
    (h:d_impl_cloneCartons fu Af = some r) :
    Calls Tryz.prog 230 #[v2] w0 fun e w=>∃ (v0:Value) (G0:List Nat),e = .returned (v0) ∧ Ext [] w0 w ∧ ow w G0 [v0] r ∧ (∀ b ∈ G0,w0.heap.size ≤ b):=by
 refine enter (vs:=[_]) func230 z ntmps230 z fun a k=>?_
 have m:=St.start w0
 unfold d_impl_cloneCartons at h
 refine wr (pN 1 k z fun a k=>nn (wr (s_bs (cs:=[]) (ps:=[]) te55 m k z z z z z z z (by decide) z (by exact (List.forall_mem_nil _)) fun g5 w6 e8 a k m e Au=>?_)))
 have Bk:=ow_bx0 (α:=Carton) Au
 refine pN 1 k z fun a k=>nn (wp_seq (wr (pN 1 k z fun a k=>sv k z (r_len (α:=Carton) Ae k underlying55 z z) fun a k=>pN 1 k z fun a k=>nn (wp_block (c_loop (fun n a w=>∃ (Aj:List Carton) (Ah:Value) (Ac:List Nat) (Al:World) (Ad:Int),K 23 [(3,Ah),(7,v2),(8,I ((Af.length:Int))),(9,I Ad)] a ∧ St [] w0 w [(Ac,Al)] ∧ ow Al Ac [Ah] Aj ∧ d_impl_cloneCartons_L1 fu Af n Aj Ad = some r) ?_ ?_ fu _ _ ?_)))))
 · rintro a w ⟨_,_,_,_,_,_,_,_,h⟩
   exact nS h
 · rintro Bt a Bn ⟨Aj,Ah,Ac,Al,Ad,k,m,Am,h⟩
   rw [d_impl_cloneCartons_L1_s] at h
   unfold d_impl_cloneCartons_L1_B at h
   refine wr (pN 1 k z fun a k=>nn (wp_seq (cI h k z (fun At h=>?_) fun At h=>?_)))
   · refine wp_skip (nm_then ?_)
     refine wp_seq (wp_block (wr (oE h fun Aa Ao h=>sv k z (r_ixa Ae Ao k ts55 z z z) fun a k=>?_)))
     obtain ⟨Bw,Bx,Bs,Bl,Be,Bd⟩:=rd_get Ae (ix_some Ao).2.2
     obtain ⟨Bg,_,rfl,rfl,Ak⟩:=Bl
     refine sv k z (r_ldA ta83 (Be.agr (m.a00 (Enc.rd_lt Ae)) Bd) z k z z) fun a k=>s_alloc (cs:=[I 0,I 0,.slice none 0 0]) m k zeroValue83 z z z z z fun Bo Bq a k m e Ba=>s_stb (cs':=[I Aa.fType,I Aa.fGroup,Bg]) sizeOf83 m 0 Ba 0 k z z z z z z z z z z (allc z (allc z (allc (rd_o Ak) alln))) fun By a k e m Ap=>nn (wr (sv k z (r_fa fa83_2 k z z) fun a k=>sv k z (r_ldb t163 m 0 Ap 2 k z z z z z) fun a k=>oE h fun Bj Bc h=>s_call k call133 z z z z z (c_slices_Clone_int_int fu _ (Enc.rd_agr Ak (m.a00 (Enc.rd_lt Ak))) Bc) fun Bu Bm hR=>?_))
     obtain ⟨Ag,Ai,rfl,e,Ab,As⟩:=hR
     refine ⟨_,z,fun a k=>?_⟩
     have m:=m.new e Ai (fun b hb=>⟨As b hb,Enc.rd_lt (Enc.ow_rd Ab) b hb⟩) (Enc.ow_nd Ab)
     refine sv k z (r_fa fa83_2 k z z) fun a k=>s_stb1 (cs':=[I Aa.fType,I Aa.fGroup,Ag]) sizeOf63 m 1 Ap 2 k (rd_c (Enc.ow_rd Ab)) (rd_o (Enc.ow_rd Ab)) z z z z z z z z z fun Bp a k e m Aq=>nn (wp_region_lit (pN 1 k z fun a k=>sv k z (r_ldB ta83 m 1 Aq 0 k z z z z z z) fun a k=>s_bs (cs:=[I Aa.fType,I Aa.fGroup,Ag]) (ps:=[(0,.tmp 18)]) te55 m k z z z z z z z (by decide) z (by exact (List.forall_mem_cons.2 ⟨z,(List.forall_mem_nil _)⟩)) fun Bv Br Bz a k m e Ay=>oE h fun Bi Aw h=>?_))
     have Bh:ow _ (Ai) [I Aa.fType,I Aa.fGroup,Ag] ((⟨Aa.fType,Aa.fGroup,Bj⟩:Carton):Carton):=⟨_,_,z,z,(Enc.ow_agr Ab (m.a 1 z)),by simpa [fps] using (m.sel [1] z (by decide)).nd⟩
     have Az:=News.box Ay (m.a 0 z) (by simp) (m:=1)
     have Av:=m.a 3 z
     have m:=m.sel [3,1,0,2] z (by decide)
     have m:=m.join2
     refine s_appO (F:=Ac) (G:=(Ai)) Aw te55 z m Am Av Az Bh (Agr.refl _ _) k z z z z z z fun Bf Bb Ar a k e m Ax=>pN 1 k z fun a k=>wpList_nil (nm_block (nm_then ?_))
     refine wp_region_lit (pN 2 k z fun a k=>nn ?_)
     exact ⟨Bi,Bf,Bb,Ar,w64 (Ad + 1),k.keep [3,7,8,9] z,m.sel [0] z (by decide),Ax,h⟩
   refine wp_exit (ex_then (ex_then (ex_same (nm_then ?_))))
   refine wr (pN 2 k z fun a k=>nn (wp_ret ?_))
   cases h
   exact finR1 k z (RV.tmp k z) ⟨_,Ac,z,m.ext,(Enc.ow_agr Am (m.a 0 z)),(m.fresh 0 z)⟩
 exact ⟨([]:List Carton),(.slice (some ⟨g5,0,none⟩) 0 0),[g5],w6,0,k.keep [3,7,8,9] z,m.sel [0] z (by decide),Bk,h⟩
theorem c_slices_Clone_impl_Spot_impl_Spot (fu:Nat) {w0:World} (Ac:List Spot) {v2:Value} {F3:List Nat} (Aa:rd w0 F3 [v2] Ac) {r:(List Spot)}
    (h:d_slices_Clone_impl_Spot_impl_Spot fu Ac = some r) :
    Calls Tryz.prog 231 #[v2] w0 fun e w=>∃ (v0:Value) (G0:List Nat),e = .returned (v0) ∧ Ext [] w0 w ∧ ow w G0 [v0] r ∧ (∀ b ∈ G0,w0.heap.size ≤ b):=by
 refine enter (vs:=[_]) func231 z ntmps231 z fun a k=>?_
 have m:=St.start w0
 unfold d_slices_Clone_impl_Spot_impl_Spot at h
 refine wr (pN 1 k z fun a k=>nn (wp_seq (wr (pN 1 k z fun a k=>?_))))
 obtain ⟨Ad,Ak,Ah⟩:=r_nilq Aa
 refine sv k z (Ah k underlying56 z z z) fun a k=>nn (c_cond (b:=Ad) k z (fun Ab=>?_) (fun Ab=>?_))
 · have Ai:=Ak Ab
   rw [Ai] at h
   have h:some (([]:List Spot)) = some r:=h
   refine wr (pN 1 k z fun a k=>nn (wp_ret (rt_then ?_)))
   cases h
   exact finR1 k z (RV.tmp k z) ⟨_,[],z,m.ext,(ow_nil _),(by simp)⟩
 refine wp_skip (nm_then ?_)
 refine wr (s_bs (cs:=[]) (ps:=[]) te56 m k z z z z z z z (by decide) z (by exact (List.forall_mem_nil _)) fun Ap As Ar a k m e Al=>?_)
 have Af:=ow_bx Al ([]:List Spot) z z z
 refine pN 1 k z fun a k=>oE h fun Aq Ag h=>s_appF Ag te56 z m 0 Af (News.rd (Enc.rd_agr Aa (m.a00 (Enc.rd_lt Aa)))) z z k z z z z z z z fun Am Aj Ao a k e m Ae=>pN 1 k z fun a k=>nn (wp_ret ?_)
 cases h
 exact finR1 k z (RV.tmp k z) ⟨_,Aj,z,m.ext,(Enc.ow_agr Ae (m.a 0 z)),(m.fresh 0 z)⟩
theorem c_impl_clonePlan (fu:Nat) {w0:World} (x1:Plan) {Ak:List Value} {F3:List Nat} (Ap:rd w0 F3 Ak x1) {r:Plan}
    (h:d_impl_clonePlan fu x1 = some r) :
    Calls Tryz.prog 132 #[.agg Ak.toArray] w0 fun e w=>∃ (Ae:List Value) (G0:List Nat),e = .returned (.agg Ae.toArray) ∧ Ext [] w0 w ∧ ow w G0 Ae r ∧ (∀ b ∈ G0,w0.heap.size ≤ b):=by
 refine enter (vs:=[_]) func132 z ntmps132 z fun a k=>?_
 have m:=St.start w0
 obtain ⟨v5,F6,v7,F8,rfl,rfl,Ao,Am⟩:=Ap
 unfold d_impl_clonePlan at h
 refine wr (s_box (cs:=[v5,v7]) m k z z z z z z fun Bf Bb a k m e Ai=>s_alloc (cs:=[.slice none 0 0,.slice none 0 0]) m k zeroValue58 z z z z z fun Ah Bc a k m e Ar=>nn (wp_seq (d_go ([Ah]) mixo m z fun Au hMd=>?_)))
 have m:=hMd
 have s:=Ext.refl (([Ah]):List Nat) Au
 refine dt k 0 z (by kernel_rfl) z s (fun _ _ _=>id) (fun w s=>r_fa fa58_0 k z z) fun a k=>dt k 1 z (by kernel_rfl) z s (fun _ _ _=>id) (fun w s=>r_ld1 t155 (r:=[]) (Ai.at (hMd.az 1 0 z z z s) 0 1 z z z) k z z) fun a k=>dt k 3 z (by kernel_rfl) z s (fun _ _ _=>id) (fun w s=>r_fa fa58_1 k z z) fun a k=>dt k 4 z (by kernel_rfl) z s (fun _ _ _=>id) (fun w s=>r_ld1 t156 (r:=[]) (Ai.at (hMd.az 1 0 z z z s) 1 1 z z z) k z z) fun a k=>d_one 2 (by kernel_rfl) z (oE h fun Ba As h=>s_call k call230 z z z z z (c_impl_cloneCartons fu _ (Enc.rd_agr Ao (m.a00 (Enc.rd_lt Ao))) As) fun Ay Aw hR=>?_)
 obtain ⟨Aj,Ac,rfl,e,Ab,Al⟩:=hR
 refine ⟨_,z,fun a k=>?_⟩
 have m:=m.new e Ac (fun b hb=>⟨Al b hb,Enc.rd_lt (Enc.ow_rd Ab) b hb⟩) (Enc.ow_nd Ab)
 have Be:=fun (y:Nat) (hy:y ∈ Ac)=>Nat.le_trans s.size (Al y hy)
 have s:=s.trans e (by simp)
 refine wpList_nil ⟨s,?_⟩
 refine d_one 5 (by kernel_rfl) z (oE h fun Bd Aq h=>s_call k call231 z z z z z (c_slices_Clone_impl_Spot_impl_Spot fu _ (Enc.rd_agr Am (m.a00 (Enc.rd_lt Am))) Aq) fun Ax Av hR=>?_)
 obtain ⟨Ag,Ad,rfl,e,Aa,Af⟩:=hR
 refine ⟨_,z,fun a k=>?_⟩
 have m:=m.new e Ad (fun b hb=>⟨Af b hb,Enc.rd_lt (Enc.ow_rd Aa) b hb⟩) (Enc.ow_nd Aa)
 have Az:=fun (y:Nat) (hy:y ∈ Ad)=>Nat.le_trans s.size (Af y hy)
 have s:=s.trans e (by simp)
 refine wpList_nil ⟨s,?_⟩
 refine dt k 6 z (by kernel_rfl) z s (fun _ _ _=>id) (fun w s=>r_build bt58 k (cs:=#[Aj,Ag]) (ps:=[(0,.tmp 5),(1,.tmp 8)]) z z (fillc z (rd_c (Enc.ow_rd Ab)) z (fillc z (rd_c (Enc.ow_rd Aa)) z z))) fun a k=>d_one 7 (by kernel_rfl) z (s_stb (cs':=[Aj,Ag]) sizeOf58 m 2 Ar 0 k z z z z z z z z z z (allc (rd_o (Enc.ow_rd Ab)) (allc (rd_o (Enc.ow_rd Aa)) alln)) fun Bg a k e m At=>?_)
 have s:=s.trans e (fun y hy=>Or.inl hy)
 refine wpList_nil ⟨s,?_⟩
 refine d_done (by kernel_rfl) ((nm_then ?_))
 refine wp_ret ?_
 cases h
 exact finR1 k z (RV.cA k z ta58 (At.at (m.a 2 z) 0 2 z z z) z) ⟨_,_,z,m.ext,⟨_,Ac,_,Ad,z,z,(Enc.ow_agr Ab (m.a 1 z)),(Enc.ow_agr Aa (m.a 0 z)),by simpa [fps] using (m.sel [1,0] z (by decide)).nd⟩,(app_fresh (m.fresh 1 z) (m.fresh 0 z))⟩
theorem c_impl_Shuffled (fu:Nat) {w0:World} (r1:Request) (x5:Plan) (Ar:List Int) {Ci:List Value} {F3:List Nat} (Dp:rd w0 F3 Ci r1) {Ck:List Value} {F7:List Nat} (Ef:rd w0 F7 Ck x5) {Bd:Value} {Cr:List Nat} (Ai:rd w0 Cr [Bd] Ar) {r:Plan}
    (h:d_impl_Shuffled fu r1 x5 Ar = some r) :
    Calls Tryz.prog 41 #[.agg Ci.toArray,.agg Ck.toArray,Bd] w0 fun e w=>∃ (Ca:List Value) (G0:List Nat),e = .returned (.agg Ca.toArray) ∧ Ext [] w0 w ∧ ow w G0 Ca r ∧ (∀ b ∈ G0,w0.heap.size ≤ b):=by
 refine enter (vs:=[_,_,_]) func41 z ntmps41 z fun a k=>?_
 have m:=St.start w0
 obtain ⟨Cl,Eu,Cj,Fu,Cc,Er,rfl,rfl,Bx,Cd,Ch⟩:=Dp
 obtain ⟨Bj,Ff,Bt,Fv,rfl,rfl,Ac,Ad⟩:=Ef
 unfold d_impl_Shuffled at h
 refine wr (s_box (cs:=[I r1.fWay,I r1.fPallet.fW,I r1.fPallet.fD,I r1.fPallet.fH,I r1.fPallet.fGram,I r1.fClasses,Cl,Cj,I r1.fMaster,Cc]) m k z z z z z z fun En Ex a k m e Ee=>s_box (cs:=[Bj,Bt]) m k z z z z z z fun At Bk a k m e Am=>s_alloc (cs:=[.slice none 0 0,.slice none 0 0]) m k zeroValue58 z z z z z fun Al Bn a k m e Bo=>nn (wr (sv k z (r_ldB ta58 m 1 Am 0 k z z z z z z) fun a k=>oE h fun Bi De h=>s_call k call132 z z z z z (c_impl_clonePlan fu _ (show rd _ _ [Bj,Bt] (x5:Plan) from ⟨_,_,_,_,z,z,(Enc.rd_agr Ac (m.a00 (Enc.rd_lt Ac))),(Enc.rd_agr Ad (m.a00 (Enc.rd_lt Ad)))⟩) De) fun Ga Be hR=>?_)))
 obtain ⟨Fr,Cy,rfl,e,Bg,Dh⟩:=hR
 refine ⟨_,z,fun a k=>?_⟩
 have m:=m.new e Cy (fun b hb=>⟨Dh b hb,Enc.rd_lt (Enc.ow_rd Bg) b hb⟩) (Enc.ow_nd Bg)
 obtain ⟨Ay,Az,Bf,Au,rfl,rfl,Ah,Ae,_⟩:=Bg
 have m:=m.split2
 refine s_alloc (cs:=[.slice none 0 0,.slice none 0 0]) m k zeroValue58 z z z z z fun Af Gg a k m e Db=>s_stb (cs':=[Ay,Bf]) sizeOf58 m 0 Db 0 k z z z z z z z z z z (allc (rd_o (Enc.ow_rd Ah)) (allc (rd_o (Enc.ow_rd Ae)) alln)) fun Bz a k e m Bu=>nn (wr (pN 1 k z fun a k=>oE h fun Em Do h=>s_call k call133 z z z z z (c_slices_Clone_int_int fu _ (Enc.rd_agr Ai (m.a00 (Enc.rd_lt Ai))) Do) fun Fh Eo hR=>?_))
 obtain ⟨Fe,Ct,rfl,e,Bq,Cz⟩:=hR
 refine ⟨_,z,fun a k=>?_⟩
 have m:=m.new e Ct (fun b hb=>⟨Cz b hb,Enc.rd_lt (Enc.ow_rd Bq) b hb⟩) (Enc.ow_nd Bq)
 refine pN 1 k z fun a k=>nn (wr (pN 1 k z fun a k=>oE h fun Fw Cw h=>s_call k call120 z z z z z (c_slices_Sort_int_int fu _ (Enc.ow_agr Bq (m.a 0 z)) Cw) fun Ep Fb hR=>?_))
 obtain ⟨Fs,rfl,e,Eg,Bv⟩:=hR
 refine ⟨_,z,fun a k=>?_⟩
 have m:=m.mut 0 z e _ (fun b hb=>⟨Eg b hb,Enc.rd_lt (Enc.ow_rd Bv) b hb⟩) (Enc.ow_nd Bv)
 refine nn (c_cut (fun a w=>K 64 [(2,Bd),(4,.pointer (some (⟨At,0,none⟩:Addr))),(6,.pointer (some (⟨Al,0,none⟩:Addr))),(7,.pointer (some (⟨Af,0,none⟩:Addr)))] a ∧ St [] w0 w [([At],Bk),([Al],Bn),([Af],Bz),(Az,Be),(Au,Be)] ∧ d_impl_Shuffled_J1 fu x5 Ar Bi = some r) ?_ ?_)
 · rintro a Ew ⟨k,m,h⟩
   unfold d_impl_Shuffled_J1 at h
   refine wp_seq (wr (pN 1 k z fun a k=>sv k z (r_len (α:=Int) Ai k underlying63 z z) fun a k=>pN 1 k z fun a k=>nn (wp_block (c_loop (fun n a w=>∃ (Bb:List Carton) (Ap:Value) (Aw:List Nat) (Bm:World) (Av:List Spot) (Ao:Value) (Ab:List Nat) (Ba:World) (Aq:World) (Aj:Int),K 64 [(4,.pointer (some (⟨At,0,none⟩:Addr))),(6,.pointer (some (⟨Al,0,none⟩:Addr))),(7,.pointer (some (⟨Af,0,none⟩:Addr))),(32,Bd),(33,I ((Ar.length:Int))),(34,I Aj)] a ∧ St [] w0 w [([At],Bk),([Al],Bn),(Aw,Bm),(Ab,Ba),([Af],Aq)] ∧ ow Bm Aw [Ap] Bb ∧ ow Ba Ab [Ao] Av ∧ bx Aq Af [Ap,Ao] 58 ∧ d_impl_Shuffled_L1 fu x5 Ar n Bb Av Aj = some r) ?_ ?_ fu _ _ ?_))))
   · rintro a w ⟨_,_,_,_,_,_,_,_,_,_,_,_,_,_,_,h⟩
     exact nS h
   · rintro Fj a Fk ⟨Bb,Ap,Aw,Bm,Av,Ao,Ab,Ba,Aq,Aj,k,m,As,Bc,Ax,h⟩
     rw [d_impl_Shuffled_L1_s] at h
     unfold d_impl_Shuffled_L1_B at h
     refine wr (pN 1 k z fun a k=>nn (wp_seq (cI h k z (fun Cp h=>?_) fun Cp h=>?_)))
     · refine wp_skip (nm_then ?_)
       refine wp_seq (wp_block (wr (pN 1 k z fun a k=>oE h fun Fi Ce h=>sv k z (r_ixa Ai Ce k ts63 z z z) fun a k=>sv k z (r_lde1 Ai (m.a00 (Enc.rd_lt Ai)) Ce 0 t13 k z z z z) fun a k=>pN 2 k z fun a k=>nn (wr (sv k z (r_fa fa58_0 k z z) fun a k=>sv k z (r_ldb t155 m 0 Am 0 k z z z z z) fun a k=>pN 1 k z fun a k=>oE h fun Aa Cm h=>sv k z (r_ixa Ac Cm k ts55 z z z) fun a k=>?_)))))
       obtain ⟨Gc,Gb,Fm,Du,Dy,Dk⟩:=rd_get Ac (ix_some Cm).2.2
       obtain ⟨Ed,_,rfl,rfl,Bl⟩:=Du
       refine sv k z (r_ldA ta83 (Dy.agr (m.a00 (Enc.rd_lt Ac)) Dk) z k z z) fun a k=>s_alloc (cs:=[I 0,I 0,.slice none 0 0]) m k zeroValue83 z z z z z fun Dq Fx a k m e Ej=>s_stb (cs':=[I Aa.fType,I Aa.fGroup,Ed]) sizeOf83 m 0 Ej 0 k z z z z z z z z z z (allc z (allc z (allc (rd_o Bl) alln))) fun Fz a k e m Cg=>nn (wr (sv k z (r_fa fa83_2 k z z) fun a k=>sv k z (r_ldb t163 m 0 Cg 2 k z z z z z) fun a k=>oE h fun Cb Di h=>s_call k call133 z z z z z (c_slices_Clone_int_int fu _ (Enc.rd_agr Bl (m.a00 (Enc.rd_lt Bl))) Di) fun Es By hR=>?_))
       obtain ⟨Bp,Bh,rfl,e,Ag,Dl⟩:=hR
       refine ⟨_,z,fun a k=>?_⟩
       have m:=m.new e Bh (fun b hb=>⟨Dl b hb,Enc.rd_lt (Enc.ow_rd Ag) b hb⟩) (Enc.ow_nd Ag)
       refine sv k z (r_fa fa83_2 k z z) fun a k=>s_stb1 (cs':=[I Aa.fType,I Aa.fGroup,Bp]) sizeOf63 m 1 Cg 2 k (rd_c (Enc.ow_rd Ag)) (rd_o (Enc.ow_rd Ag)) z z z z z z z z z fun Dz a k e m Dv=>nn (wr (sv k z (r_fa fa58_0 k z z) fun a k=>sv k z (r_ldb t155 m 6 Ax 0 k z z z z z) fun a k=>pN 1 k z fun a k=>sv k z (r_ldB ta83 m 1 Dv 0 k z z z z z z) fun a k=>oE h fun Fp Bs h=>sv k z (r_ixa (Enc.ow_rd As) Bs k ts55 z z z) fun a k=>?_))
       obtain ⟨El,Ez,Fg,Dc,Dr,Gd⟩:=rd_get (Enc.ow_rd As) (ix_some Bs).2.2
       obtain ⟨Ea,_,rfl,rfl,Fa⟩:=Dc
       obtain ⟨Fy,Ft,m,Dm,Ei⟩:=m.opn 4 z As Bs Dr z (M':=[(Bh,By),([Dq],Dz),([At],Bk),([Al],Bn),(Ab,Ba),([Af],Aq)]) z
       obtain ⟨Da,_,Dw,rfl,Fq,_⟩:=Ei
       obtain rfl:Ea = Da:=by simpa using Dw
       refine s_stH (α:=Carton) (sz:=3) (cs':=[I Aa.fType,I Aa.fGroup,Bp]) sizeOf83 m 0 Dm 0 k z z z z z z z z z (allc z (allc z (allc (rd_o (Enc.ow_rd Ag)) alln))) z z fun Cv a k e m Dn=>?_
       obtain ⟨Eh,m,Ds⟩:=(m.sel [0,2,3,4,5,6,7] z (by decide)).cls Dn (show ow By Bh [I Aa.fType,I Aa.fGroup,Bp] ((⟨Aa.fType,Aa.fGroup,Cb⟩:Carton):Carton) from ⟨_,_,z,z,Ag,(m.ndF 2 z)⟩)
       refine nn (d_go (Ab) mixo m z fun Dx hMd=>?_)
       have m:=hMd
       have s:=Ext.refl ((Ab):List Nat) Dx
       refine dN [2,5] 2 z k (by kernel_rfl) z s (fun _ _ _ _ _=>id) fun a k=>dt k 0 z (by kernel_rfl) z s (fun _ _ _=>id) (fun w s=>r_fa fa58_1 k z z) fun a k=>dt k 1 z (by kernel_rfl) z s (fun _ _ _=>id) (fun w s=>r_ld1 t156 (r:=[]) (Ax.at (hMd.az 5 4 z z z s) 1 1 z z z) k z z) fun a k=>dt k 3 z (by kernel_rfl) z s (fun _ _ _=>id) (fun w s=>r_fa fa58_1 k z z) fun a k=>dt k 4 z (by kernel_rfl) z s (fun _ _ _=>id) (fun w s=>r_ld1 t156 (r:=[]) (Am.at (hMd.az 2 4 z z z s) 1 1 z z z) k z z) fun a k=>oE h fun Bw Cn h=>dt k 6 z (by kernel_rfl) z s (fun _ _ _=>id) (fun w s=>r_ixa Ad Cn k ts56 z z z) fun a k=>?_
       refine dt k 7 z (by kernel_rfl) z s (fun _ _ _=>id) (fun w s=>r_lde Ad (hMd.az0 4 z z (Enc.rd_lt Ad) s) Cn ta89 k z z) fun a k=>oE h fun Ek Cf h=>dt k 8 z (by kernel_rfl) z s (fun _ _ _=>id) (fun w s=>r_ixa (Enc.ow_rd Bc) Cf k ts56 z z z) fun a k=>d_one 9 (by kernel_rfl) z (s_ste (α:=Spot) (sz:=4) (y:=Bw) sizeOf89 Cf m 4 Bc 0 k z z z z z z z z z z z z fun Cu a k e m Cs=>?_)
       have s:=s.trans e (fun y hy=>Or.inl hy)
       refine wpList_nil ⟨s,?_⟩
       refine d_done (by kernel_rfl) ?_
       have k:=k.keep [4,6,7,32,33,34] z
       refine (nm_block (nm_then ?_))
       refine wp_region_lit (pN 2 k z fun a k=>nn ?_)
       exact ⟨setx Bb Aj ((⟨Aa.fType,Aa.fGroup,Cb⟩:Carton)),Ap,Eh,Cv,setx Av Aj Bw,Ao,Ab,Cu,Aq,w64 (Aj + 1),k.keep [4,6,7,32,33,34] z,m.sel [2,3,0,4,5] z (by decide),Ds,Cs,Ax,h⟩
     refine wp_exit (ex_then (ex_then (ex_same (nm_then ?_))))
     refine wr (sv k z (r_ldB ta58 m 4 Ax 0 k z z z z z z) fun a k=>s_stb (cs':=[Ap,Ao]) sizeOf58 m 1 Bo 0 k z z z z z z z z z z (allc (rd_o (Enc.ow_rd As)) (allc (rd_o (Enc.ow_rd Bc)) alln)) fun Gf a k e m Dt=>nn (wp_ret ?_))
     cases h
     exact finR1 k z (RV.cA k z ta58 (Dt.at (m.a 1 z) 0 2 z z z) z) ⟨_,_,z,m.ext,⟨_,Aw,_,Ab,z,z,(Enc.ow_agr As (m.a 2 z)),(Enc.ow_agr Bc (m.a 3 z)),by simpa [fps] using (m.sel [2,3] z (by decide)).nd⟩,(app_fresh (m.fresh 2 z) (m.fresh 3 z))⟩
   exact ⟨Bi.fCartons,Ay,Az,Be,Bi.fSpots,Bf,Au,Be,Bz,0,k.keep [4,6,7,32,33,34] z,m.sel [0,1,3,4,2] z (by decide),Ah,Ae,Bu,h⟩
 refine wr (sv k z (r_ldB ta38 m 6 Ee 0 k z z z z z z) fun a k=>sv k z (r_ldB ta58 m 5 Am 0 k z z z z z z) fun a k=>oE h fun Dj Df h=>cE k m call38 z z z (c_impl_Feasible fu _ _ (show rd _ _ [I r1.fWay,I r1.fPallet.fW,I r1.fPallet.fD,I r1.fPallet.fH,I r1.fPallet.fGram,I r1.fClasses,Cl,Cj,I r1.fMaster,Cc] (r1:Request) from ⟨_,_,_,_,_,_,z,z,(Enc.rd_agr Bx (m.a00 (Enc.rd_lt Bx))),(Enc.rd_agr Cd (m.a00 (Enc.rd_lt Cd))),(Enc.rd_agr Ch (m.a00 (Enc.rd_lt Ch)))⟩) (show rd _ _ [Bj,Bt] (x5:Plan) from ⟨_,_,_,_,z,z,(Enc.rd_agr Ac (m.a00 (Enc.rd_lt Ac))),(Enc.rd_agr Ad (m.a00 (Enc.rd_lt Ad)))⟩) Df) fun Et e a k m=>pN 2 k z fun a k=>?_)
 refine bsplit (!Dj) (fun Ak=>?_) (fun Ak=>?_)
 · have h:=bif_t Ak h
   refine rB k 22 z Ak fun k=>pN 8 k z fun a k=>?_
   have k:=k.keep [2,4,6,7,30] z
   refine nn (wp_cond_true (k.ev z) (wr (sv k z (r_ldB ta58 m 1 Bu 0 k z z z z z z) fun a k=>s_stb (cs':=[Ay,Bf]) sizeOf58 m 4 Bo 0 k z z z z z z z z z z (allc (rd_o (Enc.ow_rd Ah)) (allc (rd_o (Enc.ow_rd Ae)) alln)) fun Ev a k e m Dd=>nn (wp_ret (rt_then ?_)))))
   cases h
   exact finR1 k z (RV.cA k z ta58 (Dd.at (m.a 4 z) 0 2 z z z) z) ⟨_,_,z,m.ext,⟨_,Az,_,Au,z,z,(Enc.ow_agr Ah (m.a 2 z)),(Enc.ow_agr Ae (m.a 3 z)),by simpa [fps] using (m.sel [2,3] z (by decide)).nd⟩,(app_fresh (m.fresh 2 z) (m.fresh 3 z))⟩
 have h:=bif_f Ak h
 refine rB k 22 z Ak fun k=>pN 1 k z fun a k=>sv k z (r_fa fa58_0 k z z) fun a k=>sv k z (r_ldb t155 m 5 Am 0 k z z z z z) fun a k=>sv k z (r_len (α:=Carton) Ac k underlying55 z z) fun a k=>oE h fun Fd Cx h=>s_call k call122 z z z z z (c_impl_places fu _  Cx) fun Gh Fl hR=>?_
 obtain ⟨Ge,Ec,rfl,e,Br,Cq⟩:=hR
 refine ⟨_,z,fun a k=>?_⟩
 have m:=m.new e Ec (fun b hb=>⟨Cq b hb,Enc.rd_lt (Enc.ow_rd Br) b hb⟩) (Enc.ow_nd Br)
 refine oE h fun Fn Eb h=>cE k m call121 z z z (c_slices_Equal_int_int fu _ _ (Enc.rd_agr (Enc.ow_rd Bv) (m.a 1 z)) (Enc.rd_agr (Enc.ow_rd Br) (m.a 0 z)) Eb) fun Ey e a k m=>pN 2 k z fun a k=>?_
 have k:=k.keep [2,4,6,7,30] z
 refine nn (cI h k z (fun Co h=>?_) fun Co h=>?_)
 · refine wr (sv k z (r_ldB ta58 m 2 Bu 0 k z z z z z z) fun a k=>s_stb (cs':=[Ay,Bf]) sizeOf58 m 5 Bo 0 k z z z z z z z z z z (allc (rd_o (Enc.ow_rd Ah)) (allc (rd_o (Enc.ow_rd Ae)) alln)) fun Fc a k e m Dg=>nn (wp_ret (rt_then ?_)))
   cases h
   exact finR1 k z (RV.cA k z ta58 (Dg.at (m.a 5 z) 0 2 z z z) z) ⟨_,_,z,m.ext,⟨_,Az,_,Au,z,z,(Enc.ow_agr Ah (m.a 3 z)),(Enc.ow_agr Ae (m.a 4 z)),by simpa [fps] using (m.sel [3,4] z (by decide)).nd⟩,(app_fresh (m.fresh 3 z) (m.fresh 4 z))⟩
 refine wp_skip (nm_then ?_)
 exact ⟨k.keep [2,4,6,7] z,m.sel [6,5,2,3,4] z (by decide),h⟩
theorem c_laws_markPairS (fu:Nat) {w0:World} (a1:List Pair) (Af:Int) {v2:Value} {F3:List Nat} (Ae:ow w0 F3 [v2] a1) {r:Int × (List Pair)}
    (h:d_laws_markPairS fu a1 Af = some r) :
    Calls Tryz.prog 95 #[v2,I Af] w0 fun e w=>∃ (H0:List Nat),e = .returned (I r.1) ∧ Ext F3 w0 w ∧ (∀ b ∈ H0,b ∈ F3 ∨ w0.heap.size ≤ b) ∧ ow w H0 [v2] r.2:=by
 refine enter (vs:=[_,_]) func95 z ntmps95 z fun a k=>?_
 have m:=St.start1 w0 (Enc.rd_lt (Enc.ow_rd Ae)) (Enc.ow_nd Ae)
 unfold d_laws_markPairS at h
 refine wr (pN 1 k z fun a k=>nn (wp_seq (wr (pN 1 k z fun a k=>nn (wp_block (c_loop (fun n a w=>∃ (Ad:List Pair) (Ag:World) (Aa:Int) (Ab:Int),K 27 [(0,v2),(1,I Aa),(5,I Ab)] a ∧ St F3 w0 w [(F3,Ag)] ∧ ow Ag F3 [v2] Ad ∧ d_laws_markPairS_L1 fu  n Ad Aa Ab = some r) ?_ ?_ fu _ _ ?_))))))
 · rintro a w ⟨_,_,_,_,_,_,_,h⟩
   exact nS h
 · rintro Ar a As ⟨Ad,Ag,Aa,Ab,k,m,Ac,h⟩
   rw [d_laws_markPairS_L1_s] at h
   unfold d_laws_markPairS_L1_B at h
   refine wp_seq (wr (pN 2 k z fun a k=>sv k z (r_len (α:=Pair) (Enc.ow_rd Ac) k underlying34 z z) fun a k=>pN 1 k z fun a k=>nn (cI h k z (fun Ap h=>?_) fun Ap h=>?_)))
   · refine wp_skip (nm_then ?_)
     refine wp_seq (wp_block (wr (pN 3 k z fun a k=>oE h fun Al Ai h=>sv k z (r_ixa (Enc.ow_rd Ac) Ai k ts34 z z z) fun a k=>sv k z (r_fa fa180_0 k z z) fun a k=>s_ste (α:=Pair) (sz:=2) (y:={ Al with fA:=Aa }) sizeOf3 Ai m 0 Ac 0 k z z z z z z z z z z z z fun Aq a k e m Ah=>nn (wr (pN 3 k z fun a k=>nn (wr (pN 3 k z fun a k=>oE h fun Aj Ak h=>sv k z (r_ixa (Enc.ow_rd Ah) Ak k ts34 z z z) fun a k=>sv k z (r_fa fa180_1 k z z) fun a k=>s_ste (α:=Pair) (sz:=2) (y:={ Aj with fB:=w64 (Aa + 1) }) sizeOf3 Ak m 0 Ah 1 k z z z z z z z z z z z z fun Ao a k e m Am=>nn (wp_region_lit (pN 3 k z fun a k=>wpList_nil (nm_block (nm_then ?_)))))))))))
     refine wp_region_lit (pN 3 k z fun a k=>?_)
     have k:=k.keep [0,1,5] z
     refine nn ?_
     exact ⟨setx (setx Ad Ab ({ Al with fA:=Aa })) Ab ({ Aj with fB:=w64 (Aa + 1) }),Ao,w64 ((w64 (Aa + 1)) + 1),w64 (Ab + 1),k.keep [0,1,5] z,m.sel [0] z (by decide),Am,h⟩
   refine wp_exit (ex_then (ex_then (ex_same (nm_then ?_))))
   refine wr (pN 2 k z fun a k=>nn (wp_ret ?_))
   cases h
   exact finR1 k z (RV.tmp k z) ⟨F3,z,m.ext,(fun b hb=>m.lo b (mem_fps (i:=0) z hb)),(Enc.ow_agr Ac (m.a 0 z))⟩
 exact ⟨a1,w0,Af,0,k.keep [0,1,5] z,m.sel [0] z (by decide),Ae,h⟩
theorem c_laws_markTypeS (fu:Nat) {w0:World} (a1:List Typ) (Af:Int) {v2:Value} {F3:List Nat} (Ae:ow w0 F3 [v2] a1) {r:Int × (List Typ)}
    (h:d_laws_markTypeS fu a1 Af = some r) :
    Calls Tryz.prog 96 #[v2,I Af] w0 fun e w=>∃ (H0:List Nat),e = .returned (I r.1) ∧ Ext F3 w0 w ∧ (∀ b ∈ H0,b ∈ F3 ∨ w0.heap.size ≤ b) ∧ ow w H0 [v2] r.2:=by
 refine enter (vs:=[_,_]) func96 z ntmps96 z fun a k=>?_
 have m:=St.start1 w0 (Enc.rd_lt (Enc.ow_rd Ae)) (Enc.ow_nd Ae)
 unfold d_laws_markTypeS at h
 refine wr (pN 1 k z fun a k=>nn (wp_seq (wr (pN 1 k z fun a k=>nn (wp_block (c_loop (fun n a w=>∃ (Ac:List Typ) (Ag:World) (Aa:Int) (Ab:Int),K 62 [(0,v2),(1,I Aa),(5,I Ab)] a ∧ St F3 w0 w [(F3,Ag)] ∧ ow Ag F3 [v2] Ac ∧ d_laws_markTypeS_L1 fu  n Ac Aa Ab = some r) ?_ ?_ fu _ _ ?_))))))
 · rintro a w ⟨_,_,_,_,_,_,_,h⟩
   exact nS h
 · rintro Bl a Bi ⟨Ac,Ag,Aa,Ab,k,m,Ad,h⟩
   rw [d_laws_markTypeS_L1_s] at h
   unfold d_laws_markTypeS_L1_B at h
   refine wp_seq (wr (pN 2 k z fun a k=>sv k z (r_len (α:=Typ) (Enc.ow_rd Ad) k underlying35 z z) fun a k=>pN 1 k z fun a k=>nn (cI h k z (fun Bd h=>?_) fun Bd h=>?_)))
   · refine wp_skip (nm_then ?_)
     refine wp_seq (wp_block (wr (pN 3 k z fun a k=>oE h fun Aw Ap h=>sv k z (r_ixa (Enc.ow_rd Ad) Ap k ts35 z z z) fun a k=>sv k z (r_fa fa79_0 k z z) fun a k=>s_ste (α:=Typ) (sz:=7) (y:={ Aw with fId:=Aa }) sizeOf3 Ap m 0 Ad 0 k z z z z z z z z z z z z fun Bh a k e m Av=>nn (wr (pN 3 k z fun a k=>nn (wr (pN 3 k z fun a k=>oE h fun At Bb h=>sv k z (r_ixa (Enc.ow_rd Av) Bb k ts35 z z z) fun a k=>sv k z (r_fa fa79_1 k z z) fun a k=>s_ste (α:=Typ) (sz:=7) (y:={ At with fW:=w64 (Aa + 1) }) sizeOf3 Bb m 0 Av 1 k z z z z z z z z z z z z fun Bf a k e m Ar=>nn (wr (pN 3 k z fun a k=>nn (wr (pN 3 k z fun a k=>oE h fun Aq Ba h=>?_)))))))))))
     refine sv k z (r_ixa (Enc.ow_rd Ar) Ba k ts35 z z z) fun a k=>sv k z (r_fa fa79_2 k z z) fun a k=>s_ste (α:=Typ) (sz:=7) (y:={ Aq with fH:=w64 ((w64 (Aa + 1)) + 1) }) sizeOf3 Ba m 0 Ar 2 k z z z z z z z z z z z z fun Bm a k e m Ah=>?_
     have k:=k.keep [0,1,5] z
     refine nn (wr (pN 3 k z fun a k=>nn (wr (pN 3 k z fun a k=>oE h fun Ax As h=>sv k z (r_ixa (Enc.ow_rd Ah) As k ts35 z z z) fun a k=>sv k z (r_fa fa79_3 k z z) fun a k=>s_ste (α:=Typ) (sz:=7) (y:={ Ax with fD:=w64 ((w64 ((w64 (Aa + 1)) + 1)) + 1) }) sizeOf3 As m 0 Ah 3 k z z z z z z z z z z z z fun Bk a k e m Al=>nn (wr (pN 3 k z fun a k=>nn (wr (pN 3 k z fun a k=>oE h fun Ak Az h=>sv k z (r_ixa (Enc.ow_rd Al) Az k ts35 z z z) fun a k=>sv k z (r_fa fa79_4 k z z) fun a k=>s_ste (α:=Typ) (sz:=7) (y:={ Ak with fTare:=w64 ((w64 ((w64 ((w64 (Aa + 1)) + 1)) + 1)) + 1) }) sizeOf3 Az m 0 Al 4 k z z z z z z z z z z z z fun Bj a k e m Au=>nn (wr (pN 3 k z fun a k=>nn (wr ?_)))))))))))
     refine pN 3 k z fun a k=>oE h fun Ao Ai h=>sv k z (r_ixa (Enc.ow_rd Au) Ai k ts35 z z z) fun a k=>sv k z (r_fa fa79_5 k z z) fun a k=>s_ste (α:=Typ) (sz:=7) (y:={ Ao with fGram:=w64 ((w64 ((w64 ((w64 ((w64 (Aa + 1)) + 1)) + 1)) + 1)) + 1) }) sizeOf3 Ai m 0 Au 5 k z z z z z z z z z z z z fun Bg a k e m Ay=>?_
     have k:=k.keep [0,1,5] z
     refine nn (wr (pN 3 k z fun a k=>nn (wr (pN 3 k z fun a k=>oE h fun Am Aj h=>sv k z (r_ixa (Enc.ow_rd Ay) Aj k ts35 z z z) fun a k=>sv k z (r_fa fa79_6 k z z) fun a k=>s_ste (α:=Typ) (sz:=7) (y:={ Am with fCost:=w64 ((w64 ((w64 ((w64 ((w64 ((w64 (Aa + 1)) + 1)) + 1)) + 1)) + 1)) + 1) }) sizeOf3 Aj m 0 Ay 6 k z z z z z z z z z z z z fun Bc a k e m Be=>nn (wp_region_lit (pN 3 k z fun a k=>wpList_nil (nm_block (nm_then ?_))))))))
     refine wp_region_lit (pN 3 k z fun a k=>nn ?_)
     exact ⟨setx (setx (setx (setx (setx (setx (setx Ac Ab ({ Aw with fId:=Aa })) Ab ({ At with fW:=w64 (Aa + 1) })) Ab ({ Aq with fH:=w64 ((w64 (Aa + 1)) + 1) })) Ab ({ Ax with fD:=w64 ((w64 ((w64 (Aa + 1)) + 1)) + 1) })) Ab ({ Ak with fTare:=w64 ((w64 ((w64 ((w64 (Aa + 1)) + 1)) + 1)) + 1) })) Ab ({ Ao with fGram:=w64 ((w64 ((w64 ((w64 ((w64 (Aa + 1)) + 1)) + 1)) + 1)) + 1) })) Ab ({ Am with fCost:=w64 ((w64 ((w64 ((w64 ((w64 ((w64 (Aa + 1)) + 1)) + 1)) + 1)) + 1)) + 1) }),Bc,w64 ((w64 ((w64 ((w64 ((w64 ((w64 ((w64 (Aa + 1)) + 1)) + 1)) + 1)) + 1)) + 1)) + 1),w64 (Ab + 1),k.keep [0,1,5] z,m.sel [0] z (by decide),Be,h⟩
   refine wp_exit (ex_then (ex_then (ex_same (nm_then ?_))))
   refine wr (pN 2 k z fun a k=>nn (wp_ret ?_))
   cases h
   exact finR1 k z (RV.tmp k z) ⟨F3,z,m.ext,(fun b hb=>m.lo b (mem_fps (i:=0) z hb)),(Enc.ow_agr Ad (m.a 0 z))⟩
 exact ⟨a1,w0,Af,0,k.keep [0,1,5] z,m.sel [0] z (by decide),Ae,h⟩
theorem c_laws_markItemS (fu:Nat) {w0:World} (a1:List Item) (Af:Int) {v2:Value} {F3:List Nat} (Ae:ow w0 F3 [v2] a1) {r:Int × (List Item)}
    (h:d_laws_markItemS fu a1 Af = some r) :
    Calls Tryz.prog 97 #[v2,I Af] w0 fun e w=>∃ (H0:List Nat),e = .returned (I r.1) ∧ Ext F3 w0 w ∧ (∀ b ∈ H0,b ∈ F3 ∨ w0.heap.size ≤ b) ∧ ow w H0 [v2] r.2:=by
 refine enter (vs:=[_,_]) func97 z ntmps97 z fun a k=>?_
 have m:=St.start1 w0 (Enc.rd_lt (Enc.ow_rd Ae)) (Enc.ow_nd Ae)
 unfold d_laws_markItemS at h
 refine wr (pN 1 k z fun a k=>nn (wp_seq (wr (pN 1 k z fun a k=>nn (wp_block (c_loop (fun n a w=>∃ (Ac:List Item) (Ag:World) (Aa:Int) (Ab:Int),K 62 [(0,v2),(1,I Aa),(5,I Ab)] a ∧ St F3 w0 w [(F3,Ag)] ∧ ow Ag F3 [v2] Ac ∧ d_laws_markItemS_L1 fu  n Ac Aa Ab = some r) ?_ ?_ fu _ _ ?_))))))
 · rintro a w ⟨_,_,_,_,_,_,_,h⟩
   exact nS h
 · rintro Bl a Bi ⟨Ac,Ag,Aa,Ab,k,m,Ad,h⟩
   rw [d_laws_markItemS_L1_s] at h
   unfold d_laws_markItemS_L1_B at h
   refine wp_seq (wr (pN 2 k z fun a k=>sv k z (r_len (α:=Item) (Enc.ow_rd Ad) k underlying36 z z) fun a k=>pN 1 k z fun a k=>nn (cI h k z (fun Bd h=>?_) fun Bd h=>?_)))
   · refine wp_skip (nm_then ?_)
     refine wp_seq (wp_block (wr (pN 3 k z fun a k=>oE h fun Aw Ap h=>sv k z (r_ixa (Enc.ow_rd Ad) Ap k ts36 z z z) fun a k=>sv k z (r_fa fa158_0 k z z) fun a k=>s_ste (α:=Item) (sz:=7) (y:={ Aw with fId:=Aa }) sizeOf3 Ap m 0 Ad 0 k z z z z z z z z z z z z fun Bh a k e m Av=>nn (wr (pN 3 k z fun a k=>nn (wr (pN 3 k z fun a k=>oE h fun At Bb h=>sv k z (r_ixa (Enc.ow_rd Av) Bb k ts36 z z z) fun a k=>sv k z (r_fa fa158_1 k z z) fun a k=>s_ste (α:=Item) (sz:=7) (y:={ At with fW:=w64 (Aa + 1) }) sizeOf3 Bb m 0 Av 1 k z z z z z z z z z z z z fun Bf a k e m Ar=>nn (wr (pN 3 k z fun a k=>nn (wr (pN 3 k z fun a k=>oE h fun Aq Ba h=>?_)))))))))))
     refine sv k z (r_ixa (Enc.ow_rd Ar) Ba k ts36 z z z) fun a k=>sv k z (r_fa fa158_2 k z z) fun a k=>s_ste (α:=Item) (sz:=7) (y:={ Aq with fH:=w64 ((w64 (Aa + 1)) + 1) }) sizeOf3 Ba m 0 Ar 2 k z z z z z z z z z z z z fun Bm a k e m Ah=>?_
     have k:=k.keep [0,1,5] z
     refine nn (wr (pN 3 k z fun a k=>nn (wr (pN 3 k z fun a k=>oE h fun Ax As h=>sv k z (r_ixa (Enc.ow_rd Ah) As k ts36 z z z) fun a k=>sv k z (r_fa fa158_3 k z z) fun a k=>s_ste (α:=Item) (sz:=7) (y:={ Ax with fD:=w64 ((w64 ((w64 (Aa + 1)) + 1)) + 1) }) sizeOf3 As m 0 Ah 3 k z z z z z z z z z z z z fun Bk a k e m Al=>nn (wr (pN 3 k z fun a k=>nn (wr (pN 3 k z fun a k=>oE h fun Ak Az h=>sv k z (r_ixa (Enc.ow_rd Al) Az k ts36 z z z) fun a k=>sv k z (r_fa fa158_4 k z z) fun a k=>s_ste (α:=Item) (sz:=7) (y:={ Ak with fGram:=w64 ((w64 ((w64 ((w64 (Aa + 1)) + 1)) + 1)) + 1) }) sizeOf3 Az m 0 Al 4 k z z z z z z z z z z z z fun Bj a k e m Au=>nn (wr (pN 3 k z fun a k=>nn (wr ?_)))))))))))
     refine pN 3 k z fun a k=>oE h fun Ao Ai h=>sv k z (r_ixa (Enc.ow_rd Au) Ai k ts36 z z z) fun a k=>sv k z (r_fa fa158_5 k z z) fun a k=>s_ste (α:=Item) (sz:=7) (y:={ Ao with fClass:=w64 ((w64 ((w64 ((w64 ((w64 (Aa + 1)) + 1)) + 1)) + 1)) + 1) }) sizeOf3 Ai m 0 Au 5 k z z z z z z z z z z z z fun Bg a k e m Ay=>?_
     have k:=k.keep [0,1,5] z
     refine nn (wr (pN 3 k z fun a k=>nn (wr (pN 3 k z fun a k=>oE h fun Am Aj h=>sv k z (r_ixa (Enc.ow_rd Ay) Aj k ts36 z z z) fun a k=>sv k z (r_fa fa158_6 k z z) fun a k=>s_ste (α:=Item) (sz:=7) (y:={ Am with fCount:=w64 ((w64 ((w64 ((w64 ((w64 ((w64 (Aa + 1)) + 1)) + 1)) + 1)) + 1)) + 1) }) sizeOf3 Aj m 0 Ay 6 k z z z z z z z z z z z z fun Bc a k e m Be=>nn (wp_region_lit (pN 3 k z fun a k=>wpList_nil (nm_block (nm_then ?_))))))))
     refine wp_region_lit (pN 3 k z fun a k=>nn ?_)
     exact ⟨setx (setx (setx (setx (setx (setx (setx Ac Ab ({ Aw with fId:=Aa })) Ab ({ At with fW:=w64 (Aa + 1) })) Ab ({ Aq with fH:=w64 ((w64 (Aa + 1)) + 1) })) Ab ({ Ax with fD:=w64 ((w64 ((w64 (Aa + 1)) + 1)) + 1) })) Ab ({ Ak with fGram:=w64 ((w64 ((w64 ((w64 (Aa + 1)) + 1)) + 1)) + 1) })) Ab ({ Ao with fClass:=w64 ((w64 ((w64 ((w64 ((w64 (Aa + 1)) + 1)) + 1)) + 1)) + 1) })) Ab ({ Am with fCount:=w64 ((w64 ((w64 ((w64 ((w64 ((w64 (Aa + 1)) + 1)) + 1)) + 1)) + 1)) + 1) }),Bc,w64 ((w64 ((w64 ((w64 ((w64 ((w64 ((w64 (Aa + 1)) + 1)) + 1)) + 1)) + 1)) + 1)) + 1),w64 (Ab + 1),k.keep [0,1,5] z,m.sel [0] z (by decide),Be,h⟩
   refine wp_exit (ex_then (ex_then (ex_same (nm_then ?_))))
   refine wr (pN 2 k z fun a k=>nn (wp_ret ?_))
   cases h
   exact finR1 k z (RV.tmp k z) ⟨F3,z,m.ext,(fun b hb=>m.lo b (mem_fps (i:=0) z hb)),(Enc.ow_agr Ad (m.a 0 z))⟩
 exact ⟨a1,w0,Af,0,k.keep [0,1,5] z,m.sel [0] z (by decide),Ae,h⟩
theorem c_laws_markRequest (fu:Nat) {w0:World} (a1:Request) (Ag:Int) {Ae:List Value} {F3:List Nat} (Ab:ow w0 F3 Ae a1) {r:Int × Request}
    (h:d_laws_markRequest fu a1 Ag = some r) :
    Calls Tryz.prog 25 #[.agg Ae.toArray,I Ag] w0 fun e w=>∃ (H0:List Nat),e = .returned (I r.1) ∧ Ext F3 w0 w ∧ (∀ b ∈ H0,b ∈ F3 ∨ w0.heap.size ≤ b) ∧ ow w H0 Ae r.2:=by
 refine enter (vs:=[_,_]) func25 z ntmps25 z fun a k=>?_
 have m:=St.start1 w0 (Enc.rd_lt (Enc.ow_rd Ab)) (Enc.ow_nd Ab)
 obtain ⟨v6,F7,v9,Bb,Ar,Bg,rfl,rfl,Aj,Ah,Ak,_⟩:=Ab
 have m:=m.split2
 have m:=m.split2at1
 unfold d_laws_markRequest at h
 refine wr (s_box (cs:=[I a1.fWay,I a1.fPallet.fW,I a1.fPallet.fD,I a1.fPallet.fH,I a1.fPallet.fGram,I a1.fClasses,v6,v9,I a1.fMaster,Ar]) m k z z z z z z fun Aw Bd a k m e Ad=>pN 1 k z fun a k=>nn (wr (sv k z (r_fa fa38_3 k z z) fun a k=>sv k z (r_ldb t134 m 0 Ad 6 k z z z z z) fun a k=>pN 1 k z fun a k=>oE h fun Bc Ap h=>s_call k call95 z z z z z (c_laws_markPairS fu _ _ (Enc.ow_agr Aj (m.a 1 z)) Ap) fun Ba Ay hR=>?_)))
 obtain ⟨Au,rfl,e,Ai,Aa⟩:=hR
 refine ⟨_,z,fun a k=>?_⟩
 have m:=m.mut 1 z e _ (fun b hb=>⟨Ai b hb,Enc.rd_lt (Enc.ow_rd Aa) b hb⟩) (Enc.ow_nd Aa)
 refine pN 1 k z fun a k=>nn (wr (sv k z (r_fa fa38_4 k z z) fun a k=>sv k z (r_ldb t135 m 0 Ad 7 k z z z z z) fun a k=>pN 1 k z fun a k=>oE h fun Bh Am h=>s_call k call96 z z z z z (c_laws_markTypeS fu _ _ (Enc.ow_agr Ah (m.a 2 z)) Am) fun Az Ax hR=>?_))
 obtain ⟨Aq,rfl,e,As,Ac⟩:=hR
 refine ⟨_,z,fun a k=>?_⟩
 have m:=m.mut 2 z e _ (fun b hb=>⟨As b hb,Enc.rd_lt (Enc.ow_rd Ac) b hb⟩) (Enc.ow_nd Ac)
 refine pN 1 k z fun a k=>nn (wr (sv k z (r_fa fa38_6 k z z) fun a k=>sv k z (r_ldb t136 m 0 Ad 9 k z z z z z) fun a k=>pN 1 k z fun a k=>oE h fun Av Ao h=>s_call k call97 z z z z z (c_laws_markItemS fu _ _ (Enc.ow_agr Ak (m.a 3 z)) Ao) fun Bf Be hR=>?_))
 obtain ⟨At,rfl,e,Al,Af⟩:=hR
 refine ⟨_,z,fun a k=>?_⟩
 have m:=m.mut 3 z e _ (fun b hb=>⟨Al b hb,Enc.rd_lt (Enc.ow_rd Af) b hb⟩) (Enc.ow_nd Af)
 refine pN 1 k z fun a k=>nn (wr (pN 2 k z fun a k=>nn (wp_ret ?_)))
 cases h
 exact finR1 k z (RV.tmp k z) ⟨Au ++ (Aq ++ (At)),z,m.ext,(fun b hb=>(m.sel [1,2,3] z (by decide)).lo b (by simpa [fps] using hb)),⟨_,_,_,_,_,_,z,z,(Enc.ow_agr Aa (m.a 1 z)),(Enc.ow_agr Ac (m.a 2 z)),(Enc.ow_agr Af (m.a 3 z)),by simpa [fps] using (m.sel [1,2,3] z (by decide)).nd⟩⟩
theorem c_laws_markIntS (fu:Nat) {w0:World} (a1:List Int) (Ag:Int) {v2:Value} {F3:List Nat} (Af:ow w0 F3 [v2] a1) {r:Int × (List Int)}
    (h:d_laws_markIntS fu a1 Ag = some r) :
    Calls Tryz.prog 44 #[v2,I Ag] w0 fun e w=>∃ (H0:List Nat),e = .returned (I r.1) ∧ Ext F3 w0 w ∧ (∀ b ∈ H0,b ∈ F3 ∨ w0.heap.size ≤ b) ∧ ow w H0 [v2] r.2:=by
 refine enter (vs:=[_,_]) func44 z ntmps44 z fun a k=>?_
 have m:=St.start1 w0 (Enc.rd_lt (Enc.ow_rd Af)) (Enc.ow_nd Af)
 unfold d_laws_markIntS at h
 refine wr (pN 1 k z fun a k=>nn (wp_seq (wr (pN 1 k z fun a k=>nn (wp_block (c_loop (fun n a w=>∃ (Ad:List Int) (Ae:World) (Aa:Int) (Ab:Int),K 19 [(0,v2),(1,I Aa),(5,I Ab)] a ∧ St F3 w0 w [(F3,Ae)] ∧ ow Ae F3 [v2] Ad ∧ d_laws_markIntS_L1 fu  n Ad Aa Ab = some r) ?_ ?_ fu _ _ ?_))))))
 · rintro a w ⟨_,_,_,_,_,_,_,h⟩
   exact nS h
 · rintro Ao a Am ⟨Ad,Ae,Aa,Ab,k,m,Ac,h⟩
   rw [d_laws_markIntS_L1_s] at h
   unfold d_laws_markIntS_L1_B at h
   refine wp_seq (wr (pN 2 k z fun a k=>sv k z (r_len (α:=Int) (Enc.ow_rd Ac) k underlying63 z z) fun a k=>pN 1 k z fun a k=>nn (cI h k z (fun Ak h=>?_) fun Ak h=>?_)))
   · refine wp_skip (nm_then ?_)
     refine wp_seq (wp_block (wr (pN 3 k z fun a k=>oE h fun Al Ah h=>sv k z (r_ixa (Enc.ow_rd Ac) Ah k ts63 z z z) fun a k=>s_ste (α:=Int) (sz:=1) (y:=Aa) sizeOf3 Ah m 0 Ac 0 k z z z z z z z z z z z z fun Ai a k e m Aj=>nn (wp_region_lit (pN 3 k z fun a k=>wpList_nil (nm_block (nm_then ?_)))))))
     refine wp_region_lit (pN 3 k z fun a k=>nn ?_)
     exact ⟨setx Ad Ab Aa,Ai,w64 (Aa + 1),w64 (Ab + 1),k.keep [0,1,5] z,m.sel [0] z (by decide),Aj,h⟩
   refine wp_exit (ex_then (ex_then (ex_same (nm_then ?_))))
   refine wr (pN 2 k z fun a k=>nn (wp_ret ?_))
   cases h
   exact finR1 k z (RV.tmp k z) ⟨F3,z,m.ext,(fun b hb=>m.lo b (mem_fps (i:=0) z hb)),(Enc.ow_agr Ac (m.a 0 z))⟩
 exact ⟨a1,w0,Ag,0,k.keep [0,1,5] z,m.sel [0] z (by decide),Af,h⟩
theorem c_laws_markCartonS (fu:Nat) {w0:World} (a1:List Carton) (Ai:Int) {v2:Value} {F3:List Nat} (Ap:ow w0 F3 [v2] a1) {r:Int × (List Carton)}
    (h:d_laws_markCartonS fu a1 Ai = some r) :
    Calls Tryz.prog 134 #[v2,I Ai] w0 fun e w=>∃ (H0:List Nat),e = .returned (I r.1) ∧ Ext F3 w0 w ∧ (∀ b ∈ H0,b ∈ F3 ∨ w0.heap.size ≤ b) ∧ ow w H0 [v2] r.2:=by
 refine enter (vs:=[_,_]) func134 z ntmps134 z fun a k=>?_
 have m:=St.start1 w0 (Enc.rd_lt (Enc.ow_rd Ap)) (Enc.ow_nd Ap)
 unfold d_laws_markCartonS at h
 refine wr (pN 1 k z fun a k=>nn (wp_seq (wr (pN 1 k z fun a k=>nn (wp_block (c_loop (fun n a w=>∃ (Ah:List Carton) (As:World) (Ag:List Nat) (Aa:Int) (Ab:Int),K 34 [(0,v2),(1,I Aa),(5,I Ab)] a ∧ St F3 w0 w [(Ag,As)] ∧ ow As Ag [v2] Ah ∧ d_laws_markCartonS_L1 fu  n Ah Aa Ab = some r) ?_ ?_ fu _ _ ?_))))))
 · rintro a w ⟨_,_,_,_,_,_,_,_,h⟩
   exact nS h
 · rintro Cf a Bc ⟨Ah,As,Ag,Aa,Ab,k,m,Af,h⟩
   rw [d_laws_markCartonS_L1_s] at h
   unfold d_laws_markCartonS_L1_B at h
   refine wp_seq (wr (pN 2 k z fun a k=>sv k z (r_len (α:=Carton) (Enc.ow_rd Af) k underlying55 z z) fun a k=>pN 1 k z fun a k=>nn (cI h k z (fun Bf h=>?_) fun Bf h=>?_)))
   · refine wp_skip (nm_then ?_)
     refine wp_seq (wp_block (wr (pN 3 k z fun a k=>oE h fun Ae Ao h=>sv k z (r_ixa (Enc.ow_rd Af) Ao k ts55 z z z) fun a k=>sv k z (r_fa fa83_0 k z z) fun a k=>?_)))
     obtain ⟨Cx,Cq,Cn,Bo,Bq,Cz⟩:=rd_get (Enc.ow_rd Af) (ix_some Ao).2.2
     obtain ⟨At,_,rfl,rfl,Cr⟩:=Bo
     obtain ⟨Da,Bg,m,By,Bd⟩:=m.opn 0 z Af Ao Bq z (M':=[]) z
     obtain ⟨Bj,_,Bt,rfl,Bb,_⟩:=Bd
     obtain rfl:At = Bj:=by simpa using Bt
     refine s_stH (α:=Carton) (sz:=3) (cs':=[I Aa,I Ae.fGroup,At]) sizeOf3 m 0 By 0 k z z z z z z z z z (allc z alln) z z fun Be a k e m Cd=>?_
     obtain ⟨Cu,m,Ar⟩:=(m.sel [0,1] z (by decide)).cls Cd (show ow Bc Bg [I Aa,I Ae.fGroup,At] ((⟨Aa,Ae.fGroup,Ae.fUnits⟩:Carton):Carton) from ⟨_,_,z,z,Bb,(m.ndF 1 z)⟩)
     refine nn (wr (pN 3 k z fun a k=>nn (wr (pN 3 k z fun a k=>oE h fun Ad Ak h=>sv k z (r_ixa (Enc.ow_rd Ar) Ak k ts55 z z z) fun a k=>sv k z (r_fa fa83_1 k z z) fun a k=>?_))))
     obtain ⟨Cg,Ch,Ck,Az,Ce,Cw⟩:=rd_get (Enc.ow_rd Ar) (ix_some Ak).2.2
     obtain ⟨Au,_,rfl,rfl,Ct⟩:=Az
     obtain ⟨Co,Bs,m,Bn,Ca⟩:=m.opn 0 z Ar Ak Ce z (M':=[]) z
     obtain ⟨Bm,_,Bh,rfl,Bw,_⟩:=Ca
     obtain rfl:Au = Bm:=by simpa using Bh
     refine s_stH (α:=Carton) (sz:=3) (cs':=[I Ad.fType,I (w64 (Aa + 1)),Au]) sizeOf3 m 0 Bn 1 k z z z z z z z z z (allc z alln) z z fun Cm a k e m Bv=>?_
     obtain ⟨Cp,m,Am⟩:=(m.sel [0,1] z (by decide)).cls Bv (show ow Be Bs [I Ad.fType,I (w64 (Aa + 1)),Au] ((⟨Ad.fType,w64 (Aa + 1),Ad.fUnits⟩:Carton):Carton) from ⟨_,_,z,z,Bw,(m.ndF 1 z)⟩)
     refine nn (wr (pN 3 k z fun a k=>nn (wp_region_lit (pN 2 k z fun a k=>oE h fun Ac Al h=>sv k z (r_ixa (Enc.ow_rd Am) Al k ts55 z z z) fun a k=>sv k z (r_fa fa83_2 k z z) fun a k=>?_))))
     obtain ⟨Cy,Cv,Ci,Br,Ax,Ba⟩:=rd_get (Enc.ow_rd Am) (ix_some Al).2.2
     obtain ⟨Aw,_,rfl,rfl,Cl⟩:=Br
     refine sv k z (r_ld1 t163 ((Ax.agr (m.a 0 z) Ba).fld 2 1 (Nat.le_of_ble_eq_true z)) k z z) fun a k=>pN 1 k z fun a k=>?_
     obtain ⟨Cj,Cs,m,Bu,Bz⟩:=m.opn 0 z Am Al Ax z (M':=[]) z
     obtain ⟨Bx,_,Bl,rfl,Bp,_⟩:=Bz
     obtain rfl:Aw = Bx:=by simpa using Bl
     refine oE h fun Aj Bk h=>s_call k call44 z z z z z (c_laws_markIntS fu _ _ (Enc.ow_agr Bp (m.a 1 z)) Bk) fun Db Av hR=>?_
     obtain ⟨Bi,rfl,e,Cb,Aq⟩:=hR
     refine ⟨_,z,fun a k=>?_⟩
     have m:=m.mut 1 z e _ (fun b hb=>⟨Cb b hb,Enc.rd_lt (Enc.ow_rd Aq) b hb⟩) (Enc.ow_nd Aq)
     obtain ⟨Ay,m,Cc⟩:=(m.sel [0,1] z (by decide)).cls Bu (show ow Av Bi [I Ac.fType,I Ac.fGroup,Aw] ((⟨Ac.fType,Ac.fGroup,Aj.2⟩:Carton):Carton) from ⟨_,_,z,z,Aq,(m.ndF 1 z)⟩)
     refine pN 1 k z fun a k=>?_
     have k:=k.keep [0,1,5] z
     refine wpList_nil (nm_block (nm_then ?_))
     refine wp_region_lit (pN 3 k z fun a k=>nn ?_)
     exact ⟨setx (setx (setx Ah Ab ((⟨Aa,Ae.fGroup,Ae.fUnits⟩:Carton))) Ab ((⟨Ad.fType,w64 (Aa + 1),Ad.fUnits⟩:Carton))) Ab ((⟨Ac.fType,Ac.fGroup,Aj.2⟩:Carton)),Av,Ay,Aj.1,w64 (Ab + 1),k.keep [0,1,5] z,m.sel [0] z (by decide),Cc,h⟩
   refine wp_exit (ex_then (ex_then (ex_same (nm_then ?_))))
   refine wr (pN 2 k z fun a k=>nn (wp_ret ?_))
   cases h
   exact finR1 k z (RV.tmp k z) ⟨Ag,z,m.ext,(fun b hb=>m.lo b (mem_fps (i:=0) z hb)),(Enc.ow_agr Af (m.a 0 z))⟩
 exact ⟨a1,w0,F3,Ai,0,k.keep [0,1,5] z,m.sel [0] z (by decide),Ap,h⟩
theorem c_laws_markSpotS (fu:Nat) {w0:World} (a1:List Spot) (Af:Int) {v2:Value} {F3:List Nat} (Ae:ow w0 F3 [v2] a1) {r:Int × (List Spot)}
    (h:d_laws_markSpotS fu a1 Af = some r) :
    Calls Tryz.prog 135 #[v2,I Af] w0 fun e w=>∃ (H0:List Nat),e = .returned (I r.1) ∧ Ext F3 w0 w ∧ (∀ b ∈ H0,b ∈ F3 ∨ w0.heap.size ≤ b) ∧ ow w H0 [v2] r.2:=by
 refine enter (vs:=[_,_]) func135 z ntmps135 z fun a k=>?_
 have m:=St.start1 w0 (Enc.rd_lt (Enc.ow_rd Ae)) (Enc.ow_nd Ae)
 unfold d_laws_markSpotS at h
 refine wr (pN 1 k z fun a k=>nn (wp_seq (wr (pN 1 k z fun a k=>nn (wp_block (c_loop (fun n a w=>∃ (Ad:List Spot) (Ag:World) (Aa:Int) (Ab:Int),K 41 [(0,v2),(1,I Aa),(5,I Ab)] a ∧ St F3 w0 w [(F3,Ag)] ∧ ow Ag F3 [v2] Ad ∧ d_laws_markSpotS_L1 fu  n Ad Aa Ab = some r) ?_ ?_ fu _ _ ?_))))))
 · rintro a w ⟨_,_,_,_,_,_,_,h⟩
   exact nS h
 · rintro Aw a Ay ⟨Ad,Ag,Aa,Ab,k,m,Ac,h⟩
   rw [d_laws_markSpotS_L1_s] at h
   unfold d_laws_markSpotS_L1_B at h
   refine wp_seq (wr (pN 2 k z fun a k=>sv k z (r_len (α:=Spot) (Enc.ow_rd Ac) k underlying56 z z) fun a k=>pN 1 k z fun a k=>nn (cI h k z (fun Au h=>?_) fun Au h=>?_)))
   · refine wp_skip (nm_then ?_)
     refine wp_seq (wp_block (wr (pN 3 k z fun a k=>oE h fun Ao Aj h=>sv k z (r_ixa (Enc.ow_rd Ac) Aj k ts56 z z z) fun a k=>sv k z (r_fa fa89_0 k z z) fun a k=>s_ste (α:=Spot) (sz:=4) (y:={ Ao with fPallet:=Aa }) sizeOf3 Aj m 0 Ac 0 k z z z z z z z z z z z z fun Ax a k e m Ai=>nn (wr (pN 3 k z fun a k=>nn (wr (pN 3 k z fun a k=>oE h fun Ak As h=>sv k z (r_ixa (Enc.ow_rd Ai) As k ts56 z z z) fun a k=>sv k z (r_fa fa89_1 k z z) fun a k=>s_ste (α:=Spot) (sz:=4) (y:={ Ak with fX:=w64 (Aa + 1) }) sizeOf3 As m 0 Ai 1 k z z z z z z z z z z z z fun Az a k e m Ah=>nn (wr (pN 3 k z fun a k=>nn (wr (pN 3 k z fun a k=>oE h fun Ar Ap h=>?_)))))))))))
     refine sv k z (r_ixa (Enc.ow_rd Ah) Ap k ts56 z z z) fun a k=>sv k z (r_fa fa89_2 k z z) fun a k=>s_ste (α:=Spot) (sz:=4) (y:={ Ar with fY:=w64 ((w64 (Aa + 1)) + 1) }) sizeOf3 Ap m 0 Ah 2 k z z z z z z z z z z z z fun Ba a k e m Al=>?_
     have k:=k.keep [0,1,5] z
     refine nn (wr (pN 3 k z fun a k=>nn (wr (pN 3 k z fun a k=>oE h fun Aq Am h=>sv k z (r_ixa (Enc.ow_rd Al) Am k ts56 z z z) fun a k=>sv k z (r_fa fa89_3 k z z) fun a k=>s_ste (α:=Spot) (sz:=4) (y:={ Aq with fZ:=w64 ((w64 ((w64 (Aa + 1)) + 1)) + 1) }) sizeOf3 Am m 0 Al 3 k z z z z z z z z z z z z fun At a k e m Av=>nn (wp_region_lit (pN 3 k z fun a k=>wpList_nil (nm_block (nm_then ?_))))))))
     refine wp_region_lit (pN 3 k z fun a k=>nn ?_)
     exact ⟨setx (setx (setx (setx Ad Ab ({ Ao with fPallet:=Aa })) Ab ({ Ak with fX:=w64 (Aa + 1) })) Ab ({ Ar with fY:=w64 ((w64 (Aa + 1)) + 1) })) Ab ({ Aq with fZ:=w64 ((w64 ((w64 (Aa + 1)) + 1)) + 1) }),At,w64 ((w64 ((w64 ((w64 (Aa + 1)) + 1)) + 1)) + 1),w64 (Ab + 1),k.keep [0,1,5] z,m.sel [0] z (by decide),Av,h⟩
   refine wp_exit (ex_then (ex_then (ex_same (nm_then ?_))))
   refine wr (pN 2 k z fun a k=>nn (wp_ret ?_))
   cases h
   exact finR1 k z (RV.tmp k z) ⟨F3,z,m.ext,(fun b hb=>m.lo b (mem_fps (i:=0) z hb)),(Enc.ow_agr Ac (m.a 0 z))⟩
 exact ⟨a1,w0,Af,0,k.keep [0,1,5] z,m.sel [0] z (by decide),Ae,h⟩
theorem c_laws_markPlan (fu:Nat) {w0:World} (a1:Plan) (Af:Int) {Ad:List Value} {F3:List Nat} (Aa:ow w0 F3 Ad a1) {r:Int × Plan}
    (h:d_laws_markPlan fu a1 Af = some r) :
    Calls Tryz.prog 43 #[.agg Ad.toArray,I Af] w0 fun e w=>∃ (H0:List Nat),e = .returned (I r.1) ∧ Ext F3 w0 w ∧ (∀ b ∈ H0,b ∈ F3 ∨ w0.heap.size ≤ b) ∧ ow w H0 Ad r.2:=by
 refine enter (vs:=[_,_]) func43 z ntmps43 z fun a k=>?_
 have m:=St.start1 w0 (Enc.rd_lt (Enc.ow_rd Aa)) (Enc.ow_nd Aa)
 obtain ⟨v6,F7,v9,Au,rfl,rfl,Aj,Ah,_⟩:=Aa
 have m:=m.split2
 unfold d_laws_markPlan at h
 refine wr (s_box (cs:=[v6,v9]) m k z z z z z z fun Ax Ap a k m e Ae=>pN 1 k z fun a k=>nn (wr (sv k z (r_fa fa58_0 k z z) fun a k=>sv k z (r_ldb t155 m 0 Ae 0 k z z z z z) fun a k=>pN 1 k z fun a k=>oE h fun Aq Al h=>s_call k call134 z z z z z (c_laws_markCartonS fu _ _ (Enc.ow_agr Aj (m.a 1 z)) Al) fun As At hR=>?_)))
 obtain ⟨Ai,rfl,e,Ag,Ab⟩:=hR
 refine ⟨_,z,fun a k=>?_⟩
 have m:=m.mut 1 z e _ (fun b hb=>⟨Ag b hb,Enc.rd_lt (Enc.ow_rd Ab) b hb⟩) (Enc.ow_nd Ab)
 refine pN 1 k z fun a k=>nn (wr (sv k z (r_fa fa58_1 k z z) fun a k=>sv k z (r_ldb t156 m 0 Ae 1 k z z z z z) fun a k=>pN 1 k z fun a k=>oE h fun Aw Ak h=>s_call k call135 z z z z z (c_laws_markSpotS fu _ _ (Enc.ow_agr Ah (m.a 2 z)) Ak) fun Ar Av hR=>?_))
 obtain ⟨Am,rfl,e,Ao,Ac⟩:=hR
 refine ⟨_,z,fun a k=>?_⟩
 have m:=m.mut 2 z e _ (fun b hb=>⟨Ao b hb,Enc.rd_lt (Enc.ow_rd Ac) b hb⟩) (Enc.ow_nd Ac)
 refine pN 1 k z fun a k=>nn (wr (pN 2 k z fun a k=>nn (wp_ret ?_)))
 cases h
 exact finR1 k z (RV.tmp k z) ⟨Ai ++ (Am),z,m.ext,(fun b hb=>(m.sel [1,2] z (by decide)).lo b (by simpa [fps] using hb)),⟨_,_,_,_,z,z,(Enc.ow_agr Ab (m.a 1 z)),(Enc.ow_agr Ac (m.a 2 z)),by simpa [fps] using (m.sel [1,2] z (by decide)).nd⟩⟩
theorem c_laws_heldIntS (fu:Nat) {w0:World} (a1:List Int) (Ad:Int) {v2:Value} {F3:List Nat} (Ab:rd w0 F3 [v2] a1) {r:Int}
    (h:d_laws_heldIntS fu a1 Ad = some r) :
    Calls Tryz.prog 98 #[v2,I Ad] w0 fun e w=>e = .returned (I r) ∧ Ext [] w0 w:=by
 refine enter (vs:=[_,_]) func98 z ntmps98 z fun a k=>?_
 have m:=St.start w0
 unfold d_laws_heldIntS at h
 refine wr (pN 1 k z fun a k=>nn (wp_seq (wr (pN 1 k z fun a k=>nn (wp_block (c_loop (fun n a w=>∃ (Aa:Int) (Ac:Int),K 21 [(0,v2),(1,I Aa),(5,I Ac)] a ∧ St [] w0 w [] ∧ d_laws_heldIntS_L1 fu a1 n Aa Ac = some r) ?_ ?_ fu _ _ ?_))))))
 · rintro a w ⟨_,_,_,_,h⟩
   exact nS h
 · rintro Ai a Aj ⟨Aa,Ac,k,m,h⟩
   rw [d_laws_heldIntS_L1_s] at h
   unfold d_laws_heldIntS_L1_B at h
   refine wp_seq (wr (pN 2 k z fun a k=>sv k z (r_len (α:=Int) Ab k underlying63 z z) fun a k=>pN 1 k z fun a k=>nn (cI h k z (fun Ag h=>?_) fun Ag h=>?_)))
   · refine wp_skip (nm_then ?_)
     refine wp_seq (wp_block (wp_seq (wr (pN 2 k z fun a k=>oE h fun Ah Ae h=>sv k z (r_ixa Ab Ae k ts63 z z z) fun a k=>sv k z (r_lde1 Ab (m.a00 (Enc.rd_lt Ab)) Ae 0 t13 k z z z z) fun a k=>pN 2 k z fun a k=>nn (cI h k z (fun Af h=>?_) fun Af h=>?_)))))
     · refine wr (pN 1 k z fun a k=>nn (wp_ret (rt_then (rt_block (rt_then (rt_then (rt_block (rt_then ?_))))))))
       refine fS h k m z z
     refine wp_skip (nm_then ?_)
     refine wp_region_lit (pN 3 k z fun a k=>wpList_nil (nm_block (nm_then ?_)))
     refine wp_region_lit (pN 3 k z fun a k=>nn ?_)
     exact ⟨w64 (Aa + 1),w64 (Ac + 1),k.keep [0,1,5] z,m.sel [] z (by decide),h⟩
   refine wp_exit (ex_then (ex_then (ex_same (nm_then ?_))))
   refine wr (pN 2 k z fun a k=>nn (wp_ret (fS h k m z z)))
 exact ⟨Ad,0,k.keep [0,1,5] z,m.sel [] z (by decide),h⟩
theorem c_laws_heldCartonS (fu:Nat) {w0:World} (a1:List Carton) (Ad:Int) {v2:Value} {F3:List Nat} (Aa:rd w0 F3 [v2] a1) {r:Int}
    (h:d_laws_heldCartonS fu a1 Ad = some r) :
    Calls Tryz.prog 136 #[v2,I Ad] w0 fun e w=>e = .returned (I r) ∧ Ext [] w0 w:=by
 refine enter (vs:=[_,_]) func136 z ntmps136 z fun a k=>?_
 have m:=St.start w0
 unfold d_laws_heldCartonS at h
 refine wr (pN 1 k z fun a k=>nn (wp_seq (wr (pN 1 k z fun a k=>nn (wp_block (c_loop (fun n a w=>∃ (Ae:Int) (Ab:Int),K 40 [(0,v2),(1,I Ae),(5,I Ab)] a ∧ St [] w0 w [] ∧ d_laws_heldCartonS_L1 fu a1 n Ae Ab = some r) ?_ ?_ fu _ _ ?_))))))
 · rintro a w ⟨_,_,_,_,h⟩
   exact nS h
 · rintro Ba a Bb ⟨Ae,Ab,k,m,h⟩
   rw [d_laws_heldCartonS_L1_s] at h
   unfold d_laws_heldCartonS_L1_B at h
   refine wp_seq (wr (pN 2 k z fun a k=>sv k z (r_len (α:=Carton) Aa k underlying55 z z) fun a k=>pN 1 k z fun a k=>nn (cI h k z (fun Ao h=>?_) fun Ao h=>?_)))
   · refine wp_skip (nm_then ?_)
     refine wp_seq (wp_block (wp_seq (wr (pN 2 k z fun a k=>oE h fun Au Ac h=>sv k z (r_ixa Aa Ac k ts55 z z z) fun a k=>sv k z (r_fa fa83_0 k z z) fun a k=>?_))))
     obtain ⟨Aw,Av,Aq,Am,Af,Ag⟩:=rd_get Aa (ix_some Ac).2.2
     obtain ⟨As,_,rfl,rfl,Ah⟩:=Am
     refine sv k z (r_ld1 t13 ((Af.agr (m.a00 (Enc.rd_lt Aa)) Ag).fld 0 1 (Nat.le_of_ble_eq_true z)) k z z) fun a k=>pN 2 k z fun a k=>nn (cI h k z (fun Ak h=>?_) fun Ak h=>?_)
     · refine wr (pN 1 k z fun a k=>nn (wp_ret (rt_then (rt_block (rt_then (rt_then (rt_block (rt_then ?_))))))))
       refine fS h k m z z
     refine wp_skip (nm_then ?_)
     refine wr (pN 3 k z fun a k=>nn (wp_seq (wr (pN 2 k z fun a k=>oE h fun Az Ar h=>sv k z (r_ixa Aa Ac k ts55 z z z) fun a k=>sv k z (r_fa fa83_1 k z z) fun a k=>sv k z (r_ld1 t13 ((Af.agr (m.a00 (Enc.rd_lt Aa)) Ag).fld 1 1 (Nat.le_of_ble_eq_true z)) k z z) fun a k=>pN 2 k z fun a k=>nn (cI h k z (fun Al h=>?_) fun Al h=>?_)))))
     · refine wr (pN 1 k z fun a k=>nn (wp_ret (rt_then (rt_block (rt_then (rt_then (rt_block (rt_then ?_))))))))
       refine fS h k m z z
     refine wp_skip (nm_then ?_)
     refine wr (pN 3 k z fun a k=>nn (wr (pN 2 k z fun a k=>oE h fun At Ay h=>sv k z (r_ixa Aa Ac k ts55 z z z) fun a k=>sv k z (r_fa fa83_2 k z z) fun a k=>sv k z (r_ld1 t163 ((Af.agr (m.a00 (Enc.rd_lt Aa)) Ag).fld 2 1 (Nat.le_of_ble_eq_true z)) k z z) fun a k=>pN 1 k z fun a k=>oE h fun Ap Ai h=>cE k m call98 z z z (c_laws_heldIntS fu _ _ (Enc.rd_agr Ah (m.a00 (Enc.rd_lt Ah))) Ai) fun Ax e a k m=>pN 1 k z fun a k=>?_)))
     have k:=k.keep [0,1,5] z
     refine nn (wr (pN 2 k z fun a k=>nn (cI h k z (fun Aj h=>?_) fun Aj h=>?_)))
     · refine wr (pN 1 k z fun a k=>nn (wp_ret (rt_block (rt_then (rt_then (rt_block (rt_then ?_)))))))
       refine fS h k m z z
     refine wp_skip (nm_block (nm_then ?_))
     refine wp_region_lit (pN 3 k z fun a k=>nn ?_)
     exact ⟨Ap,w64 (Ab + 1),k.keep [0,1,5] z,m.sel [] z (by decide),h⟩
   refine wp_exit (ex_then (ex_then (ex_same (nm_then ?_))))
   refine wr (pN 2 k z fun a k=>nn (wp_ret (fS h k m z z)))
 exact ⟨Ad,0,k.keep [0,1,5] z,m.sel [] z (by decide),h⟩
theorem c_laws_heldSpotS (fu:Nat) {w0:World} (a1:List Spot) (Ae:Int) {v2:Value} {F3:List Nat} (Aa:rd w0 F3 [v2] a1) {r:Int}
    (h:d_laws_heldSpotS fu a1 Ae = some r) :
    Calls Tryz.prog 137 #[v2,I Ae] w0 fun e w=>e = .returned (I r) ∧ Ext [] w0 w:=by
 refine enter (vs:=[_,_]) func137 z ntmps137 z fun a k=>?_
 have m:=St.start w0
 unfold d_laws_heldSpotS at h
 refine wr (pN 1 k z fun a k=>nn (wp_seq (wr (pN 1 k z fun a k=>nn (wp_block (c_loop (fun n a w=>∃ (Ad:Int) (Ac:Int),K 49 [(0,v2),(1,I Ad),(5,I Ac)] a ∧ St [] w0 w [] ∧ d_laws_heldSpotS_L1 fu a1 n Ad Ac = some r) ?_ ?_ fu _ _ ?_))))))
 · rintro a w ⟨_,_,_,_,h⟩
   exact nS h
 · rintro Ak a Aq ⟨Ad,Ac,k,m,h⟩
   rw [d_laws_heldSpotS_L1_s] at h
   unfold d_laws_heldSpotS_L1_B at h
   refine wp_seq (wr (pN 2 k z fun a k=>sv k z (r_len (α:=Spot) Aa k underlying56 z z) fun a k=>pN 1 k z fun a k=>nn (cI h k z (fun Ai h=>?_) fun Ai h=>?_)))
   · refine wp_skip (nm_then ?_)
     refine wp_seq (wp_block (wp_seq (wr (pN 2 k z fun a k=>oE h fun Am Ab h=>sv k z (r_ixa Aa Ab k ts56 z z z) fun a k=>sv k z (r_fa fa89_0 k z z) fun a k=>sv k z (r_lde1 Aa (m.a00 (Enc.rd_lt Aa)) Ab 0 t13 k z z z z) fun a k=>pN 2 k z fun a k=>nn (cI h k z (fun Af h=>?_) fun Af h=>?_)))))
     · refine wr (pN 1 k z fun a k=>nn (wp_ret (rt_then (rt_block (rt_then (rt_then (rt_block (rt_then ?_))))))))
       refine fS h k m z z
     refine wp_skip (nm_then ?_)
     refine wr (pN 3 k z fun a k=>nn (wp_seq (wr (pN 2 k z fun a k=>oE h fun Ao Al h=>sv k z (r_ixa Aa Ab k ts56 z z z) fun a k=>sv k z (r_fa fa89_1 k z z) fun a k=>sv k z (r_lde1 Aa (m.a00 (Enc.rd_lt Aa)) Ab 1 t13 k z z z z) fun a k=>pN 2 k z fun a k=>nn (cI h k z (fun Aj h=>?_) fun Aj h=>?_)))))
     · refine wr (pN 1 k z fun a k=>nn (wp_ret (rt_then (rt_block (rt_then (rt_then (rt_block (rt_then ?_))))))))
       refine fS h k m z z
     refine wp_skip (nm_then ?_)
     refine wr (pN 3 k z fun a k=>nn (wp_seq (wr (pN 2 k z fun a k=>oE h fun As Ar h=>sv k z (r_ixa Aa Ab k ts56 z z z) fun a k=>sv k z (r_fa fa89_2 k z z) fun a k=>sv k z (r_lde1 Aa (m.a00 (Enc.rd_lt Aa)) Ab 2 t13 k z z z z) fun a k=>pN 2 k z fun a k=>?_))))
     have k:=k.keep [0,1,5,36] z
     refine nn (cI h k z (fun Ah h=>?_) fun Ah h=>?_)
     · refine wr (pN 1 k z fun a k=>nn (wp_ret (rt_then (rt_block (rt_then (rt_then (rt_block (rt_then ?_))))))))
       refine fS h k m z z
     refine wp_skip (nm_then ?_)
     refine wr (pN 3 k z fun a k=>nn (wp_seq (wr (pN 2 k z fun a k=>oE h fun At Ap h=>sv k z (r_ixa Aa Ab k ts56 z z z) fun a k=>sv k z (r_fa fa89_3 k z z) fun a k=>sv k z (r_lde1 Aa (m.a00 (Enc.rd_lt Aa)) Ab 3 t13 k z z z z) fun a k=>pN 2 k z fun a k=>nn (cI h k z (fun Ag h=>?_) fun Ag h=>?_)))))
     · refine wr (pN 1 k z fun a k=>nn (wp_ret (rt_then (rt_block (rt_then (rt_then (rt_block (rt_then ?_))))))))
       refine fS h k m z z
     refine wp_skip (nm_then ?_)
     refine wp_region_lit (pN 3 k z fun a k=>wpList_nil (nm_block (nm_then ?_)))
     refine wp_region_lit (pN 3 k z fun a k=>nn ?_)
     exact ⟨w64 ((w64 ((w64 ((w64 (Ad + 1)) + 1)) + 1)) + 1),w64 (Ac + 1),k.keep [0,1,5] z,m.sel [] z (by decide),h⟩
   refine wp_exit (ex_then (ex_then (ex_same (nm_then ?_))))
   refine wr (pN 2 k z fun a k=>nn (wp_ret (fS h k m z z)))
 exact ⟨Ae,0,k.keep [0,1,5] z,m.sel [] z (by decide),h⟩
theorem c_laws_heldPlan (fu:Nat) {w0:World} (a1:Plan) (Ad:Int) {Aa:List Value} {F3:List Nat} (Ah:rd w0 F3 Aa a1) {r:Int}
    (h:d_laws_heldPlan fu a1 Ad = some r) :
    Calls Tryz.prog 45 #[.agg Aa.toArray,I Ad] w0 fun e w=>e = .returned (I r) ∧ Ext [] w0 w:=by
 refine enter (vs:=[_,_]) func45 z ntmps45 z fun a k=>?_
 have m:=St.start w0
 obtain ⟨v6,F7,v8,F9,rfl,rfl,Ac,Ab⟩:=Ah
 unfold d_laws_heldPlan at h
 refine wr (s_box (cs:=[v6,v8]) m k z z z z z z fun Am Ak a k m e Ae=>pN 1 k z fun a k=>nn (wr (sv k z (r_fa fa58_0 k z z) fun a k=>sv k z (r_ldb t155 m 0 Ae 0 k z z z z z) fun a k=>pN 1 k z fun a k=>oE h fun Ao Ag h=>cE k m call136 z z z (c_laws_heldCartonS fu _ _ (Enc.rd_agr Ac (m.a00 (Enc.rd_lt Ac))) Ag) fun Aq e a k m=>pN 1 k z fun a k=>nn (wp_seq (wr (pN 2 k z fun a k=>nn (cI h k z (fun Af h=>?_) fun Af h=>?_)))))))
 · refine wr (pN 1 k z fun a k=>nn (wp_ret (rt_then ?_)))
   refine fS h k m z z
 refine wp_skip (nm_then ?_)
 refine wr (sv k z (r_fa fa58_1 k z z) fun a k=>sv k z (r_ldb t156 m 0 Ae 1 k z z z z z) fun a k=>pN 1 k z fun a k=>oE h fun Al Ai h=>cE k m call137 z z z (c_laws_heldSpotS fu _ _ (Enc.rd_agr Ab (m.a00 (Enc.rd_lt Ab))) Ai) fun Ap e a k m=>pN 1 k z fun a k=>nn (wp_seq (wr (pN 2 k z fun a k=>nn (cI h k z (fun Aj h=>?_) fun Aj h=>?_)))))
 · refine wr (pN 1 k z fun a k=>nn (wp_ret (rt_then ?_)))
   refine fS h k m z z
 refine wp_skip (nm_then ?_)
 refine wr (pN 2 k z fun a k=>nn (wp_ret (fS h k m z z)))
theorem c_laws_FnExactShuffled (fu:Nat) {w0:World} (Aa:Request) (Ak:Plan) (Ce:List Int) {Jq:List Value} {F3:List Nat} (Lx:rd w0 F3 Jq Aa) {Kd:List Value} {F7:List Nat} (Rl:rd w0 F7 Kd Ak) {Cu:Value} {Rw:List Nat} (Ae:rd w0 Rw [Cu] Ce) {r:Bool}
    (h:d_laws_FnExactShuffled fu Aa Ak Ce = some r) :
    Calls Tryz.prog 9 #[.agg Jq.toArray,.agg Kd.toArray,Cu] w0 fun e w=>e = .returned (.bool (r)) ∧ Ext [] w0 w:=by
 refine enter (vs:=[_,_,_]) func9 z ntmps9 z fun a k=>?_
 have m:=St.start w0
 obtain ⟨Aw,Uj,As,Ye,Av,bo,rfl,rfl,Ah,Aj,Ai⟩:=Lx
 obtain ⟨Al,Vg,Am,aq,rfl,rfl,Af,Ag⟩:=Rl
 unfold d_laws_FnExactShuffled at h
 refine wr (s_box (cs:=[I Aa.fWay,I Aa.fPallet.fW,I Aa.fPallet.fD,I Aa.fPallet.fH,I Aa.fPallet.fGram,I Aa.fClasses,Aw,As,I Aa.fMaster,Av]) m k z z z z z z fun Br Fi a k m e Bg=>s_box (cs:=[Al,Am]) m k z z z z z z fun Cw Ji a k m e Bj=>pN 1 k z fun a k=>nn (wp_seq (wr (pN 1 k z fun a k=>sv k z (r_len (α:=Int) Ae k underlying63 z z) fun a k=>pN 1 k z fun a k=>nn (cI h k z (fun Mj h=>?_) fun Mj h=>?_)))))
 · refine wr (pN 1 k z fun a k=>nn (wp_ret (rt_then ?_)))
   refine fS h k m z z
 refine wp_skip (nm_then ?_)
 refine wr (pN 1 k z fun a k=>nn (wr (sv k z (r_ldB ta28 m 1 Bg 0 k z z z z z z) fun a k=>pN 1 k z fun a k=>oE h fun Ya Td h=>cE k m call15 z z z (c_laws_szRequest fu _ _ (show rd _ _ [I Aa.fWay,I Aa.fPallet.fW,I Aa.fPallet.fD,I Aa.fPallet.fH,I Aa.fPallet.fGram,I Aa.fClasses,Aw,As,I Aa.fMaster,Av] (Aa:Request) from ⟨_,_,_,_,_,_,z,z,(Enc.rd_agr Ah (m.a00 (Enc.rd_lt Ah))),(Enc.rd_agr Aj (m.a00 (Enc.rd_lt Aj))),(Enc.rd_agr Ai (m.a00 (Enc.rd_lt Ai)))⟩) Td) fun Zw e a k m=>pN 1 k z fun a k=>nn (wp_seq (wr (pN 2 k z fun a k=>nn (cI h k z (fun Tp h=>?_) fun Tp h=>?_)))))))
 · refine wr (pN 1 k z fun a k=>nn (wp_ret (rt_then ?_)))
   refine fS h k m z z
 refine wp_skip (nm_then ?_)
 refine wr (sv k z (r_ldB ta52 m 0 Bj 0 k z z z z z z) fun a k=>pN 1 k z fun a k=>oE h fun Xr Lp h=>cE k m call32 z z z (c_laws_szPlan fu _ _ (show rd _ _ [Al,Am] (Ak:Plan) from ⟨_,_,_,_,z,z,(Enc.rd_agr Af (m.a00 (Enc.rd_lt Af))),(Enc.rd_agr Ag (m.a00 (Enc.rd_lt Ag)))⟩) Lp) fun Vt e a k m=>pN 1 k z fun a k=>nn (wp_seq (wr (pN 2 k z fun a k=>nn (cI h k z (fun Kp h=>?_) fun Kp h=>?_)))))
 · refine wr (pN 1 k z fun a k=>nn (wp_ret (rt_then ?_)))
   refine fS h k m z z
 refine wp_skip (nm_then ?_)
 refine c_cut (fun a w=>∃ (Ao:List Carton) (Ba:Value) (Be:List Nat) (Bl:World) (Ar:List Spot) (Az:Value) (Bp:List Nat) (Bi:World) (Au:Nat) (Bk:World),K 113 [(2,Cu),(3,.pointer (some (⟨Br,0,none⟩:Addr))),(4,.pointer (some (⟨Cw,0,none⟩:Addr))),(8,.pointer (some (⟨Au,0,none⟩:Addr)))] a ∧ St [] w0 w [([Br],Fi),([Cw],Ji),(Be,Bl),(Bp,Bi),([Au],Bk)] ∧ ow Bl Be [Ba] Ao ∧ ow Bi Bp [Az] Ar ∧ bx Bk Au [Ba,Az] 58 ∧ d_laws_FnExactShuffled_J3 fu Aa Ak Ce Ao Ar = some r) ?_ ?_
 · rintro a Xi ⟨Ao,Ba,Be,Bl,Ar,Az,Bp,Bi,Au,Bk,k,m,Ee,Df,Dn,h⟩
   unfold d_laws_FnExactShuffled_J3 at h
   refine wr (sv k z (r_ldB ta28 m 0 Bg 0 k z z z z z z) fun a k=>oE h fun Ad Nz h=>s_call k call18 z z z z z (c_laws_toRequest fu _ (show rd _ _ [I Aa.fWay,I Aa.fPallet.fW,I Aa.fPallet.fD,I Aa.fPallet.fH,I Aa.fPallet.fGram,I Aa.fClasses,Aw,As,I Aa.fMaster,Av] (Aa:Request) from ⟨_,_,_,_,_,_,z,z,(Enc.rd_agr Ah (m.a00 (Enc.rd_lt Ah))),(Enc.rd_agr Aj (m.a00 (Enc.rd_lt Aj))),(Enc.rd_agr Ai (m.a00 (Enc.rd_lt Ai)))⟩) Nz) fun Vo Zs hR=>?_)
   obtain ⟨Vc,Kl,rfl,e,Fa,Ss⟩:=hR
   refine ⟨_,z,fun a k=>?_⟩
   have m:=m.new e Kl (fun b hb=>⟨Ss b hb,Enc.rd_lt (Enc.ow_rd Fa) b hb⟩) (Enc.ow_nd Fa)
   obtain ⟨Bb,Pc,Bd,Qf,Bf,Pq,rfl,rfl,Bz,Cv,Cq,_⟩:=Fa
   have m:=m.split2
   have m:=m.split2at1
   refine s_alloc (cs:=[I 0,I 0,I 0,I 0,I 0,I 0,.slice none 0 0,.slice none 0 0,I 0,.slice none 0 0]) m k zeroValue38 z z z z z fun Yp Uw a k m e Po=>s_stb (cs':=[I Ad.fWay,I Ad.fPallet.fW,I Ad.fPallet.fD,I Ad.fPallet.fH,I Ad.fPallet.fGram,I Ad.fClasses,Bb,Bd,I Ad.fMaster,Bf]) sizeOf38 m 0 Po 0 k z z z z z z z z z z (allc z (allc z (allc z (allc z (allc z (allc z (allc (rd_o (Enc.ow_rd Bz)) (allc (rd_o (Enc.ow_rd Cv)) (allc z (allc (rd_o (Enc.ow_rd Cq)) alln)))))))))) fun Yl a k e m Dr=>nn (wr (sv k z (r_ldB ta52 m 5 Bj 0 k z z z z z z) fun a k=>oE h fun Dk Oi h=>?_))
   refine s_call k call34 z z z z z (c_laws_toPlan fu _ (show rd _ _ [Al,Am] (Ak:Plan) from ⟨_,_,_,_,z,z,(Enc.rd_agr Af (m.a00 (Enc.rd_lt Af))),(Enc.rd_agr Ag (m.a00 (Enc.rd_lt Ag)))⟩) Oi) fun Yc Wz hR=>?_
   obtain ⟨Xn,Pg,rfl,e,Dj,Kz⟩:=hR
   refine ⟨_,z,fun a k=>?_⟩
   have m:=m.new e Pg (fun b hb=>⟨Kz b hb,Enc.rd_lt (Enc.ow_rd Dj) b hb⟩) (Enc.ow_nd Dj)
   obtain ⟨Bo,Tb,Bh,Nl,rfl,rfl,By,Cs,_⟩:=Dj
   have m:=m.split2
   refine s_alloc (cs:=[.slice none 0 0,.slice none 0 0]) m k zeroValue58 z z z z z fun al cq a k m e Rs=>s_stb (cs':=[Bo,Bh]) sizeOf58 m 0 Rs 0 k z z z z z z z z z z (allc (rd_o (Enc.ow_rd By)) (allc (rd_o (Enc.ow_rd Cs)) alln)) fun cg a k e m Dz=>nn (wr (pN 1 k z fun a k=>oE h fun cn Mo h=>s_call k call40 z z z z z (c_laws_toIntS fu _ (Enc.rd_agr Ae (m.a00 (Enc.rd_lt Ae))) Mo) fun Zk Wk hR=>?_))
   obtain ⟨Vx,Mz,rfl,e,Bm,Lm⟩:=hR
   refine ⟨_,z,fun a k=>?_⟩
   have m:=m.new e Mz (fun b hb=>⟨Lm b hb,Enc.rd_lt (Enc.ow_rd Bm) b hb⟩) (Enc.ow_nd Bm)
   refine pN 1 k z fun a k=>nn (wr (sv k z (r_ldB ta38 m 4 Dr 0 k z z z z z z) fun a k=>sv k z (r_ldB ta58 m 1 Dz 0 k z z z z z z) fun a k=>pN 1 k z fun a k=>oE h fun Ci Sr h=>?_))
   refine s_call k call41 z z z z z (c_impl_Shuffled fu _ _ _ (show rd _ _ [I Ad.fWay,I Ad.fPallet.fW,I Ad.fPallet.fD,I Ad.fPallet.fH,I Ad.fPallet.fGram,I Ad.fClasses,Bb,Bd,I Ad.fMaster,Bf] (Ad:Request) from ⟨_,_,_,_,_,_,z,z,(Enc.rd_agr (Enc.ow_rd Bz) (m.a 5 z)),(Enc.rd_agr (Enc.ow_rd Cv) (m.a 6 z)),(Enc.rd_agr (Enc.ow_rd Cq) (m.a 7 z))⟩) (show rd _ _ [Bo,Bh] (Dk:Plan) from ⟨_,_,_,_,z,z,(Enc.rd_agr (Enc.ow_rd By) (m.a 2 z)),(Enc.rd_agr (Enc.ow_rd Cs) (m.a 3 z))⟩) (Enc.rd_agr (Enc.ow_rd Bm) (m.a 0 z)) Sr) fun Zp Gn hR=>?_
   obtain ⟨bu,Nu,rfl,e,Ey,Lq⟩:=hR
   refine ⟨_,z,fun a k=>?_⟩
   have m:=m.new e Nu (fun b hb=>⟨Lq b hb,Enc.rd_lt (Enc.ow_rd Ey) b hb⟩) (Enc.ow_nd Ey)
   obtain ⟨Ax,Fs,Ay,Je,rfl,rfl,Bv,Ca,_⟩:=Ey
   have m:=m.split2
   refine s_alloc (cs:=[.slice none 0 0,.slice none 0 0]) m k zeroValue58 z z z z z fun Cp Xa a k m e Mq=>s_stb (cs':=[Ax,Ay]) sizeOf58 m 0 Mq 0 k z z z z z z z z z z (allc (rd_o (Enc.ow_rd Bv)) (allc (rd_o (Enc.ow_rd Ca)) alln)) fun Kg a k e m Bc=>nn (wp_seq (wr (sv k z (r_ldB ta58 m 0 Bc 0 k z z z z z z) fun a k=>sv k z (r_ldB ta58 m 15 Dn 0 k z z z z z z) fun a k=>oE h fun Yy Nv h=>?_)))
   refine cE k m call36 z z z (c_laws_eqPlan fu _ _ (show rd _ _ [Ax,Ay] (Ci:Plan) from ⟨_,_,_,_,z,z,(Enc.rd_agr (Enc.ow_rd Bv) (m.a 1 z)),(Enc.rd_agr (Enc.ow_rd Ca) (m.a 2 z))⟩) (show rd _ _ [Ba,Az] ((⟨Ao,Ar⟩:Plan):Plan) from ⟨_,_,_,_,z,z,(Enc.rd_agr (Enc.ow_rd Ee) (m.a 13 z)),(Enc.rd_agr (Enc.ow_rd Df) (m.a 14 z))⟩) Nv) fun Zu e a k m=>pN 1 k z fun a k=>nn (cI h k z (fun No h=>?_) fun No h=>?_)
   · refine wr (pN 1 k z fun a k=>nn (wp_ret (rt_then ?_)))
     refine fS h k m z z
   refine wp_skip (nm_then ?_)
   refine wp_seq (wp_seq (d_go [] mixo m z fun Mw hMd=>?_))
   have m:=hMd
   have s:=Ext.refl ([]:List Nat) Mw
   refine dt k 0 z (by kernel_rfl) z s (fun _ _ _=>id) (fun w s=>r_ldA ta38 (Dr.at ((hMd.step s).a 7 z) 0 10 z z z) z k z z) fun a k=>dt k 1 z (by kernel_rfl) z s (fun _ _ _=>id) (fun w s=>r_ldA ta28 (Bg.at ((hMd.step s).a 11 z) 0 10 z z z) z k z z) fun a k=>d_one 2 (by kernel_rfl) z (oE h fun Aq Lf h=>s_call k call18 z z z z z (c_laws_toRequest fu _ (show rd _ _ [I Aa.fWay,I Aa.fPallet.fW,I Aa.fPallet.fD,I Aa.fPallet.fH,I Aa.fPallet.fGram,I Aa.fClasses,Aw,As,I Aa.fMaster,Av] (Aa:Request) from ⟨_,_,_,_,_,_,z,z,(Enc.rd_agr Ah (m.a00 (Enc.rd_lt Ah))),(Enc.rd_agr Aj (m.a00 (Enc.rd_lt Aj))),(Enc.rd_agr Ai (m.a00 (Enc.rd_lt Ai)))⟩) Lf) fun bk Wa hR=>?_)
   obtain ⟨Ue,Jh,rfl,e,Dx,Gp⟩:=hR
   refine ⟨_,z,fun a k=>?_⟩
   have m:=m.new e Jh (fun b hb=>⟨Gp b hb,Enc.rd_lt (Enc.ow_rd Dx) b hb⟩) (Enc.ow_nd Dx)
   have Va:=fun (y:Nat) (hy:y ∈ Jh)=>Nat.le_trans s.size (Gp y hy)
   obtain ⟨Sw,ct,Th,Wd,Ot,Wu,rfl,rfl,Se,Sf,Kw,_⟩:=Dx
   have m:=m.split2
   have m:=m.split2at1
   have s:=s.trans e (by simp)
   refine wpList_nil ⟨s,?_⟩
   refine d_one 3 (by kernel_rfl) z (oE h fun Wx To h=>?_)
   refine cE k m call21 z z z (c_laws_eqRequest fu _ _ (show rd _ _ [I Ad.fWay,I Ad.fPallet.fW,I Ad.fPallet.fD,I Ad.fPallet.fH,I Ad.fPallet.fGram,I Ad.fClasses,Bb,Bd,I Ad.fMaster,Bf] (Ad:Request) from ⟨_,_,_,_,_,_,z,z,(Enc.rd_agr (Enc.ow_rd Bz) (m.a 11 z)),(Enc.rd_agr (Enc.ow_rd Cv) (m.a 12 z)),(Enc.rd_agr (Enc.ow_rd Cq) (m.a 13 z))⟩) (show rd _ _ [I Aq.fWay,I Aq.fPallet.fW,I Aq.fPallet.fD,I Aq.fPallet.fH,I Aq.fPallet.fGram,I Aq.fClasses,Sw,Th,I Aq.fMaster,Ot] (Aq:Request) from ⟨_,_,_,_,_,_,z,z,(Enc.rd_agr (Enc.ow_rd Se) (m.a 0 z)),(Enc.rd_agr (Enc.ow_rd Sf) (m.a 1 z)),(Enc.rd_agr (Enc.ow_rd Kw) (m.a 2 z))⟩) To) fun Ux e a k m=>?_
   have s:=s.trans e (by simp)
   refine wpList_nil ⟨s,?_⟩
   refine dN [4] 1 z k (by kernel_rfl) z s (fun _ _ _ _ _=>id) fun a k=>d_done (by kernel_rfl) ?_
   have k:=k.keep [2,3,4,8,9,10,11,12,55] z
   refine (nm_then ?_)
   refine cI h k z (fun Qo h=>?_) fun Qo h=>?_
   · refine wr (pN 1 k z fun a k=>nn (wp_ret (rt_then ?_)))
     refine fS h k m z z
   refine wp_skip (nm_then ?_)
   refine wp_seq (wp_seq (d_go [] mixo m z fun Lu hMd=>?_))
   have m:=hMd
   have s:=Ext.refl ([]:List Nat) Lu
   refine dt k 0 z (by kernel_rfl) z s (fun _ _ _=>id) (fun w s=>r_ldA ta58 (Dz.at ((hMd.step s).a 7 z) 0 2 z z z) z k z z) fun a k=>dt k 1 z (by kernel_rfl) z s (fun _ _ _=>id) (fun w s=>r_ldA ta52 (Bj.at ((hMd.step s).a 15 z) 0 2 z z z) z k z z) fun a k=>d_one 2 (by kernel_rfl) z (oE h fun Nn Sk h=>s_call k call34 z z z z z (c_laws_toPlan fu _ (show rd _ _ [Al,Am] (Ak:Plan) from ⟨_,_,_,_,z,z,(Enc.rd_agr Af (m.a00 (Enc.rd_lt Af))),(Enc.rd_agr Ag (m.a00 (Enc.rd_lt Ag)))⟩) Sk) fun Uo ae hR=>?_)
   obtain ⟨Zn,Fg,rfl,e,Ed,Id⟩:=hR
   refine ⟨_,z,fun a k=>?_⟩
   have m:=m.new e Fg (fun b hb=>⟨Id b hb,Enc.rd_lt (Enc.ow_rd Ed) b hb⟩) (Enc.ow_nd Ed)
   have ba:=fun (y:Nat) (hy:y ∈ Fg)=>Nat.le_trans s.size (Id y hy)
   obtain ⟨Sx,cv,Rq,Yj,rfl,rfl,Mt,Ns,_⟩:=Ed
   have m:=m.split2
   have s:=s.trans e (by simp)
   refine wpList_nil ⟨s,?_⟩
   refine d_one 3 (by kernel_rfl) z (oE h fun Tw Tk h=>cE k m call36 z z z (c_laws_eqPlan fu _ _ (show rd _ _ [Bo,Bh] (Dk:Plan) from ⟨_,_,_,_,z,z,(Enc.rd_agr (Enc.ow_rd By) (m.a 10 z)),(Enc.rd_agr (Enc.ow_rd Cs) (m.a 11 z))⟩) (show rd _ _ [Sx,Rq] (Nn:Plan) from ⟨_,_,_,_,z,z,(Enc.rd_agr (Enc.ow_rd Mt) (m.a 0 z)),(Enc.rd_agr (Enc.ow_rd Ns) (m.a 1 z))⟩) Tk) fun Wy e a k m=>?_)
   have s:=s.trans e (by simp)
   refine wpList_nil ⟨s,?_⟩
   refine dN [4] 1 z k (by kernel_rfl) z s (fun _ _ _ _ _=>id) fun a k=>d_done (by kernel_rfl) ((nm_then ?_))
   refine cI h k z (fun Nw h=>?_) fun Nw h=>?_
   · refine wr (pN 1 k z fun a k=>nn (wp_ret (rt_then ?_)))
     refine fS h k m z z
   refine wp_skip (nm_then ?_)
   refine wp_seq (wr (pN 2 k z fun a k=>oE h fun am Ri h=>s_call k call40 z z z z z (c_laws_toIntS fu _ (Enc.rd_agr Ae (m.a00 (Enc.rd_lt Ae))) Ri) fun bz Vv hR=>?_))
   obtain ⟨Ve,Oc,rfl,e,Ew,Tj⟩:=hR
   refine ⟨_,z,fun a k=>?_⟩
   have m:=m.new e Oc (fun b hb=>⟨Tj b hb,Enc.rd_lt (Enc.ow_rd Ew) b hb⟩) (Enc.ow_nd Ew)
   refine oE h fun cj Kr h=>cE k m call42 z z z (c_laws_eqIntS fu _ _ (Enc.rd_agr (Enc.ow_rd Bm) (m.a 9 z)) (Enc.rd_agr (Enc.ow_rd Ew) (m.a 0 z)) Kr) fun Vs e a k m=>pN 1 k z fun a k=>nn (cI h k z (fun Mn h=>?_) fun Mn h=>?_)
   · refine wr (pN 1 k z fun a k=>nn (wp_ret (rt_then ?_)))
     refine fS h k m z z
   refine wp_skip (nm_then ?_)
   refine wr (pN 1 k z fun a k=>nn (wr (sv k z (r_ldB ta38 m 13 Dr 0 k z z z z z z) fun a k=>pN 1 k z fun a k=>?_)))
   have Md:ow _ (Pc ++ (Qf ++ (Pq))) [I Ad.fWay,I Ad.fPallet.fW,I Ad.fPallet.fD,I Ad.fPallet.fH,I Ad.fPallet.fGram,I Ad.fClasses,Bb,Bd,I Ad.fMaster,Bf] (Ad:Request):=⟨_,_,_,_,_,_,z,z,(Enc.ow_agr Bz (m.a 14 z)),(Enc.ow_agr Cv (m.a 15 z)),(Enc.ow_agr Cq (m.a 16 z)),by simpa [fps] using (m.sel [14,15,16] z (by decide)).nd⟩
   have m:=m.sel [14,15,16,0,1,2,3,4,5,6,7,8,9,10,11,12,13,17,18,19,20,21] z (by decide)
   have m:=m.join3
   refine oE h fun Tt Qu h=>s_call k call25 z z z z z (c_laws_markRequest fu _ _ Md Qu) fun Vl Wj hR=>?_
   obtain ⟨Yz,rfl,e,Ks,Ep⟩:=hR
   refine ⟨_,z,fun a k=>?_⟩
   have m:=m.mut 0 z e _ (fun b hb=>⟨Ks b hb,Enc.rd_lt (Enc.ow_rd Ep) b hb⟩) (Enc.ow_nd Ep)
   obtain ⟨Sy,bf,Rv,ah,Qc,Ui,Da,rfl,Xw,Zv,bd,_⟩:=Ep
   have m:=m.toFront 0 z
   have m:=m.split2
   have m:=m.split2at1
   have Qj:Bb = Sy:=by have:=congrArg (fun l:List Value=>l[6]?) Da; simpa using this
   subst Qj
   have Od:Bd = Rv:=by have:=congrArg (fun l:List Value=>l[7]?) Da; simpa using this
   subst Od
   have Qk:Bf = Qc:=by have:=congrArg (fun l:List Value=>l[9]?) Da; simpa using this
   subst Qk
   refine pN 1 k z fun a k=>nn (wr (sv k z (r_ldB ta58 m 13 Dz 0 k z z z z z z) fun a k=>pN 1 k z fun a k=>?_))
   have Oj:ow _ (Tb ++ (Nl)) [Bo,Bh] (Dk:Plan):=⟨_,_,_,_,z,z,(Enc.ow_agr By (m.a 14 z)),(Enc.ow_agr Cs (m.a 15 z)),by simpa [fps] using (m.sel [14,15] z (by decide)).nd⟩
   have m:=m.sel [14,15,0,1,2,3,4,5,6,7,8,9,10,11,12,13,16,17,18,19,20,21] z (by decide)
   have m:=m.join2
   refine oE h fun We Of h=>s_call k call43 z z z z z (c_laws_markPlan fu _ _ Oj Of) fun Xc Vb hR=>?_
   obtain ⟨Zq,rfl,e,Mm,Dl⟩:=hR
   refine ⟨_,z,fun a k=>?_⟩
   have m:=m.mut 0 z e _ (fun b hb=>⟨Mm b hb,Enc.rd_lt (Enc.ow_rd Dl) b hb⟩) (Enc.ow_nd Dl)
   obtain ⟨Mc,Zr,Tm,cc,Ke,rfl,ak,ay,_⟩:=Dl
   have m:=m.toFront 0 z
   have m:=m.split2
   have Rt:Bo = Mc:=by have:=congrArg (fun l:List Value=>l[0]?) Ke; simpa using this
   subst Rt
   have Mk:Bh = Tm:=by have:=congrArg (fun l:List Value=>l[1]?) Ke; simpa using this
   subst Mk
   refine pN 1 k z fun a k=>?_
   have k:=k.keep [2,3,4,8,11,12,13] z
   refine nn (wr (pN 2 k z fun a k=>oE h fun Qn Mg h=>s_call k call44 z z z z z (c_laws_markIntS fu _ _ (Enc.ow_agr Bm (m.a 14 z)) Mg) fun Ul cy hR=>?_))
   obtain ⟨Zl,rfl,e,Sb,Gw⟩:=hR
   refine ⟨_,z,fun a k=>?_⟩
   have m:=m.mut 14 z e _ (fun b hb=>⟨Sb b hb,Enc.rd_lt (Enc.ow_rd Gw) b hb⟩) (Enc.ow_nd Gw)
   refine pN 1 k z fun a k=>nn (c_cut (fun a w=>K 113 [(2,Cu),(3,.pointer (some (⟨Br,0,none⟩:Addr))),(4,.pointer (some (⟨Cw,0,none⟩:Addr))),(8,.pointer (some (⟨Au,0,none⟩:Addr))),(12,.pointer (some (⟨Cp,0,none⟩:Addr)))] a ∧ St [] w0 w [([Br],Fi),([Cw],Ji),([Au],Bk),([Cp],Kg),(Be,Bl),(Bp,Bi),(Fs,Gn),(Je,Gn)] ∧ d_laws_FnExactShuffled_J2 fu Aa Ak Ce Ao Ar Ci = some r) ?_ ?_)
   · rintro a bh ⟨k,m,h⟩
     unfold d_laws_FnExactShuffled_J2 at h
     refine wr (pN 1 k z fun a k=>nn (wr (sv k z (r_ldB ta58 m 3 Bc 0 k z z z z z z) fun a k=>pN 1 k z fun a k=>?_)))
     have Rk:ow _ (Fs ++ (Je)) [Ax,Ay] (Ci:Plan):=⟨_,_,_,_,z,z,(Enc.ow_agr Bv (m.a 6 z)),(Enc.ow_agr Ca (m.a 7 z)),by simpa [fps] using (m.sel [6,7] z (by decide)).nd⟩
     have m:=m.sel [6,7,0,1,2,3,4,5] z (by decide)
     have m:=m.join2
     refine oE h fun Cl Mf h=>s_call k call43 z z z z z (c_laws_markPlan fu _ _ Rk Mf) fun au Fp hR=>?_
     obtain ⟨Uq,rfl,e,Qg,Eg⟩:=hR
     refine ⟨_,z,fun a k=>?_⟩
     have m:=m.mut 0 z e _ (fun b hb=>⟨Qg b hb,Enc.rd_lt (Enc.ow_rd Eg) b hb⟩) (Enc.ow_nd Eg)
     obtain ⟨Ni,Qv,Rb,Ta,Hb,rfl,He,Fk,_⟩:=Eg
     have m:=m.toFront 0 z
     have m:=m.split2
     have Ll:Ax = Ni:=by have:=congrArg (fun l:List Value=>l[0]?) Hb; simpa using this
     subst Ll
     have Lg:Ay = Rb:=by have:=congrArg (fun l:List Value=>l[1]?) Hb; simpa using this
     subst Lg
     refine pN 1 k z fun a k=>nn (wr (pN 1 k z fun a k=>nn (wr (sv k z (r_ldB ta58 m 5 Bc 0 k z z z z z z) fun a k=>pN 1 k z fun a k=>oE h fun Xt Pw h=>cE k m call45 z z z (c_laws_heldPlan fu _ _ (show rd _ _ [Ax,Ay] (Cl.2:Plan) from ⟨_,_,_,_,z,z,(Enc.rd_agr (Enc.ow_rd He) (m.a 0 z)),(Enc.rd_agr (Enc.ow_rd Fk) (m.a 1 z))⟩) Pw) fun cb e a k m=>pN 1 k z fun a k=>nn (wp_seq (wr (pN 2 k z fun a k=>nn (cI h k z (fun Lh h=>?_) fun Lh h=>?_))))))))
     · refine wr (pN 1 k z fun a k=>nn (wp_ret (rt_then ?_)))
       refine fS h k m z z
     refine wp_skip (nm_then ?_)
     refine wp_seq (wr (pN 3 k z fun a k=>nn (cI h k z (fun Ku h=>?_) fun Ku h=>?_)))
     · refine wr (pN 1 k z fun a k=>nn (wp_ret (rt_then ?_)))
       refine fS h k m z z
     refine wp_skip (nm_then ?_)
     refine c_cut (fun a w=>∃ (Ck:List Carton) (Cb:Value) (Ek:List Nat) (Cx:World) (Cf:List Spot) (Ch:Value) (Eb:List Nat) (Dv:World) (Bx:Nat) (Do:World),K 113 [(8,.pointer (some (⟨Au,0,none⟩:Addr))),(12,.pointer (some (⟨Cp,0,none⟩:Addr))),(14,I Cl.1),(16,.pointer (some (⟨Bx,0,none⟩:Addr)))] a ∧ St [] w0 w [([Au],Bk),([Cp],Kg),(Be,Bl),(Bp,Bi),(Qv,Fp),(Ta,Fp),(Ek,Cx),(Eb,Dv),([Bx],Do)] ∧ ow Cx Ek [Cb] Ck ∧ ow Dv Eb [Ch] Cf ∧ bx Do Bx [Cb,Ch] 58 ∧ d_laws_FnExactShuffled_J1 fu Ao Ar Cl Ck Cf = some r) ?_ ?_
     · rintro a bn ⟨Ck,Cb,Ek,Cx,Cf,Ch,Eb,Dv,Bx,Do,k,m,Sg,Sa,On,h⟩
       unfold d_laws_FnExactShuffled_J1 at h
       refine wp_seq (wr (sv k z (r_ldB ta58 m 8 On 0 k z z z z z z) fun a k=>sv k z (r_ldB ta58 m 0 Dn 0 k z z z z z z) fun a k=>oE h fun Xy Le h=>cE k m call36 z z z (c_laws_eqPlan fu _ _ (show rd _ _ [Cb,Ch] ((⟨Ck,Cf⟩:Plan):Plan) from ⟨_,_,_,_,z,z,(Enc.rd_agr (Enc.ow_rd Sg) (m.a 6 z)),(Enc.rd_agr (Enc.ow_rd Sa) (m.a 7 z))⟩) (show rd _ _ [Ba,Az] ((⟨Ao,Ar⟩:Plan):Plan) from ⟨_,_,_,_,z,z,(Enc.rd_agr (Enc.ow_rd Ee) (m.a 2 z)),(Enc.rd_agr (Enc.ow_rd Df) (m.a 3 z))⟩) Le) fun Wi e a k m=>pN 1 k z fun a k=>nn (cI h k z (fun Ry h=>?_) fun Ry h=>?_)))
       · refine wr (pN 1 k z fun a k=>nn (wp_ret (rt_then ?_)))
         refine fS h k m z z
       refine wp_skip (nm_then ?_)
       refine wr (pN 1 k z fun a k=>nn (wr (sv k z (r_ldB ta58 m 1 Bc 0 k z z z z z z) fun a k=>pN 1 k z fun a k=>oE h fun Wo Nd h=>cE k m call45 z z z (c_laws_heldPlan fu _ _ (show rd _ _ [Ax,Ay] (Cl.2:Plan) from ⟨_,_,_,_,z,z,(Enc.rd_agr (Enc.ow_rd He) (m.a 4 z)),(Enc.rd_agr (Enc.ow_rd Fk) (m.a 5 z))⟩) Nd) fun Zb e a k m=>pN 1 k z fun a k=>nn (wp_seq (wr (pN 2 k z fun a k=>nn (cI h k z (fun Ld h=>?_) fun Ld h=>?_)))))))
       · refine wr (pN 1 k z fun a k=>nn (wp_ret (rt_then ?_)))
         refine fS h k m z z
       refine wp_skip (nm_then ?_)
       refine wp_seq (wr (pN 3 k z fun a k=>nn (cI h k z (fun Qz h=>?_) fun Qz h=>?_)))
       · refine wr (pN 1 k z fun a k=>nn (wp_ret (rt_then ?_)))
         refine fS h k m z z
       refine wp_skip (nm_then ?_)
       refine wr (pN 1 k z fun a k=>nn (wp_ret (fS h k m z z)))
     refine d_go [] mixo m z fun Sp hMd=>?_
     have m:=hMd
     have s:=Ext.refl ([]:List Nat) Sp
     refine dN [4] 1 z k (by kernel_rfl) z s (fun _ _ _ _ _=>id) fun a k=>dt k 0 z (by kernel_rfl) z s (fun _ _ _=>id) (fun w s=>r_ldA ta28 (Bg.at ((hMd.step s).a 2 z) 0 10 z z z) z k z z) fun a k=>dt k 2 z (by kernel_rfl) z s (fun _ _ _=>id) (fun w s=>r_ldA ta52 (Bj.at ((hMd.step s).a 3 z) 0 2 z z z) z k z z) fun a k=>d_two 1 7 (by kernel_rfl) z z ?_ ?_ 
     · refine oE h fun Ab Km h=>s_call k call18 z z z z z (c_laws_toRequest fu _ (show rd _ _ [I Aa.fWay,I Aa.fPallet.fW,I Aa.fPallet.fD,I Aa.fPallet.fH,I Aa.fPallet.fGram,I Aa.fClasses,Aw,As,I Aa.fMaster,Av] (Aa:Request) from ⟨_,_,_,_,_,_,z,z,(Enc.rd_agr Ah (m.a00 (Enc.rd_lt Ah))),(Enc.rd_agr Aj (m.a00 (Enc.rd_lt Aj))),(Enc.rd_agr Ai (m.a00 (Enc.rd_lt Ai)))⟩) Km) fun Xq ax hR=>?_
       obtain ⟨bw,Fm,rfl,e,Ds,Fv⟩:=hR
       refine ⟨_,z,fun a k=>?_⟩
       have m:=m.new e Fm (fun b hb=>⟨Fv b hb,Enc.rd_lt (Enc.ow_rd Ds) b hb⟩) (Enc.ow_nd Ds)
       have bm:=fun (y:Nat) (hy:y ∈ Fm)=>Nat.le_trans s.size (Fv y hy)
       obtain ⟨Cr,Vh,Cm,Uu,Ct,Wn,rfl,rfl,Bs,Bt,Bq,_⟩:=Ds
       have m:=m.split2
       have m:=m.split2at1
       have s:=s.trans e (by simp)
       refine wpList_nil ⟨s,?_⟩
       refine d_two 3 7 (by kernel_rfl) z z ?_ ?_ 
       · refine oE h fun Ei Nq h=>s_call k call34 z z z z z (c_laws_toPlan fu _ (show rd _ _ [Al,Am] (Ak:Plan) from ⟨_,_,_,_,z,z,(Enc.rd_agr Af (m.a00 (Enc.rd_lt Af))),(Enc.rd_agr Ag (m.a00 (Enc.rd_lt Ag)))⟩) Nq) fun bl Un hR=>?_
         obtain ⟨aj,Ff,rfl,e,Ef,Fn⟩:=hR
         refine ⟨_,z,fun a k=>?_⟩
         have m:=m.new e Ff (fun b hb=>⟨Fn b hb,Enc.rd_lt (Enc.ow_rd Ef) b hb⟩) (Enc.ow_nd Ef)
         have bj:=fun (y:Nat) (hy:y ∈ Ff)=>Nat.le_trans s.size (Fn y hy)
         obtain ⟨Fc,cw,Er,Uy,rfl,rfl,Eo,Dp,_⟩:=Ef
         have m:=m.split2
         have s:=s.trans e (by simp)
         refine wpList_nil ⟨s,?_⟩
         refine d_two 5 7 (by kernel_rfl) z z ?_ ?_ 
         · refine oE h fun Vm Pm h=>s_call k call40 z z z z z (c_laws_toIntS fu _ (Enc.rd_agr Ae (m.a00 (Enc.rd_lt Ae))) Pm) fun Up Uf hR=>?_
           obtain ⟨ck,Fh,rfl,e,Co,Iy⟩:=hR
           refine ⟨_,z,fun a k=>?_⟩
           have m:=m.new e Fh (fun b hb=>⟨Iy b hb,Enc.rd_lt (Enc.ow_rd Co) b hb⟩) (Enc.ow_nd Co)
           have ar:=fun (y:Nat) (hy:y ∈ Fh)=>Nat.le_trans s.size (Iy y hy)
           have s:=s.trans e (by simp)
           refine wpList_nil ⟨s,?_⟩
           refine d_two 6 7 (by kernel_rfl) z z ?_ ?_ 
           · refine oE h fun Hr Lj h=>s_call k call41 z z z z z (c_impl_Shuffled fu _ _ _ (show rd _ _ [I Ab.fWay,I Ab.fPallet.fW,I Ab.fPallet.fD,I Ab.fPallet.fH,I Ab.fPallet.fGram,I Ab.fClasses,Cr,Cm,I Ab.fMaster,Ct] (Ab:Request) from ⟨_,_,_,_,_,_,z,z,(Enc.rd_agr (Enc.ow_rd Bs) (m.a 3 z)),(Enc.rd_agr (Enc.ow_rd Bt) (m.a 4 z)),(Enc.rd_agr (Enc.ow_rd Bq) (m.a 5 z))⟩) (show rd _ _ [Fc,Er] (Ei:Plan) from ⟨_,_,_,_,z,z,(Enc.rd_agr (Enc.ow_rd Eo) (m.a 1 z)),(Enc.rd_agr (Enc.ow_rd Dp) (m.a 2 z))⟩) (Enc.rd_agr (Enc.ow_rd Co) (m.a 0 z)) Lj) fun Vf Ka hR=>?_
             obtain ⟨Yv,Kk,rfl,e,Es,Hm⟩:=hR
             refine ⟨_,z,fun a k=>?_⟩
             have m:=m.new e Kk (fun b hb=>⟨Hm b hb,Enc.rd_lt (Enc.ow_rd Es) b hb⟩) (Enc.ow_nd Es)
             have Zh:=fun (y:Nat) (hy:y ∈ Kk)=>Nat.le_trans s.size (Hm y hy)
             obtain ⟨Jl,Rr,Kf,Lt,rfl,rfl,Gg,Ki,_⟩:=Es
             have m:=m.split2
             have s:=s.trans e (by simp)
             refine wpList_nil ⟨s,?_⟩
             refine d_one 7 (by kernel_rfl) z (s_allocN (cs:=[.slice none 0 0,.slice none 0 0]) m k zeroValue58 z z z z z fun Nc cx a k m e Qb Mb=>?_)
             have Sq:=lo1 (Nat.le_trans s.size Mb)
             have s:=s.trans e (by simp)
             refine wpList_nil ⟨s,?_⟩
             refine d_one 8 (by kernel_rfl) z (s_stb (cs':=[Jl,Kf]) sizeOf58 m 0 Qb 0 k z z z z z z z z z z (allc (rd_o (Enc.ow_rd Gg)) (allc (rd_o (Enc.ow_rd Ki)) alln)) fun Oz a k e m La=>?_)
             have s:=s.trans e (fun y hy=>Or.inr (Sq y hy))
             refine wpList_nil ⟨s,?_⟩
             refine d_done (by kernel_rfl) ((nm_then ?_))
             exact ⟨Hr.fCartons,Jl,Rr,Ka,Hr.fSpots,Kf,Lt,Ka,Nc,Oz,k.keep [8,12,14,16] z,m.sel [13,14,15,16,9,10,1,2,0] z (by decide),Gg,Ki,La,h⟩
           refine s_allocN (cs:=[.slice none 0 0,.slice none 0 0]) m k zeroValue58 z z z z z fun Ko Vz a k m e Sz Kv=>?_
           have Mi:=lo1 (Nat.le_trans s.size Kv)
           have s:=s.trans e (by simp)
           refine wpList_nil ⟨s,?_⟩
           refine d_one 6 (by kernel_rfl) z (oE h fun Hi Oe h=>s_call k call41 z z z z z (c_impl_Shuffled fu _ _ _ (show rd _ _ [I Ab.fWay,I Ab.fPallet.fW,I Ab.fPallet.fD,I Ab.fPallet.fH,I Ab.fPallet.fGram,I Ab.fClasses,Cr,Cm,I Ab.fMaster,Ct] (Ab:Request) from ⟨_,_,_,_,_,_,z,z,(Enc.rd_agr (Enc.ow_rd Bs) (m.a 4 z)),(Enc.rd_agr (Enc.ow_rd Bt) (m.a 5 z)),(Enc.rd_agr (Enc.ow_rd Bq) (m.a 6 z))⟩) (show rd _ _ [Fc,Er] (Ei:Plan) from ⟨_,_,_,_,z,z,(Enc.rd_agr (Enc.ow_rd Eo) (m.a 2 z)),(Enc.rd_agr (Enc.ow_rd Dp) (m.a 3 z))⟩) (Enc.rd_agr (Enc.ow_rd Co) (m.a 1 z)) Oe) fun Xx Fz hR=>?_)
           obtain ⟨Xe,Iv,rfl,e,Du,Ft⟩:=hR
           refine ⟨_,z,fun a k=>?_⟩
           have m:=m.new e Iv (fun b hb=>⟨Ft b hb,Enc.rd_lt (Enc.ow_rd Du) b hb⟩) (Enc.ow_nd Du)
           have Xm:=fun (y:Nat) (hy:y ∈ Iv)=>Nat.le_trans s.size (Ft y hy)
           obtain ⟨Jg,Ls,Ij,Ro,rfl,rfl,Jt,Hh,_⟩:=Du
           have m:=m.split2
           have s:=s.trans e (by simp)
           refine wpList_nil ⟨s,?_⟩
           refine d_one 8 (by kernel_rfl) z (s_stb (cs':=[Jg,Ij]) sizeOf58 m 2 Sz 0 k z z z z z z z z z z (allc (rd_o (Enc.ow_rd Jt)) (allc (rd_o (Enc.ow_rd Hh)) alln)) fun Pn a k e m Pe=>?_)
           have s:=s.trans e (fun y hy=>Or.inr (Mi y hy))
           refine wpList_nil ⟨s,?_⟩
           refine d_done (by kernel_rfl) ((nm_then ?_))
           exact ⟨Hi.fCartons,Jg,Ls,Fz,Hi.fSpots,Ij,Ro,Fz,Ko,Pn,k.keep [8,12,14,16] z,m.sel [13,14,15,16,9,10,0,1,2] z (by decide),Jt,Hh,Pe,h⟩
         refine s_allocN (cs:=[.slice none 0 0,.slice none 0 0]) m k zeroValue58 z z z z z fun Qp Ug a k m e Qx Lz=>?_
         have Kn:=lo1 (Nat.le_trans s.size Lz)
         have s:=s.trans e (by simp)
         refine wpList_nil ⟨s,?_⟩
         refine d_one 5 (by kernel_rfl) z (oE h fun Wb Na h=>s_call k call40 z z z z z (c_laws_toIntS fu _ (Enc.rd_agr Ae (m.a00 (Enc.rd_lt Ae))) Na) fun ag ca hR=>?_)
         obtain ⟨Vu,Hj,rfl,e,Ez,Ii⟩:=hR
         refine ⟨_,z,fun a k=>?_⟩
         have m:=m.new e Hj (fun b hb=>⟨Ii b hb,Enc.rd_lt (Enc.ow_rd Ez) b hb⟩) (Enc.ow_nd Ez)
         have Uv:=fun (y:Nat) (hy:y ∈ Hj)=>Nat.le_trans s.size (Ii y hy)
         have s:=s.trans e (by simp)
         refine wpList_nil ⟨s,?_⟩
         refine d_one 6 (by kernel_rfl) z (oE h fun Gj Mh h=>s_call k call41 z z z z z (c_impl_Shuffled fu _ _ _ (show rd _ _ [I Ab.fWay,I Ab.fPallet.fW,I Ab.fPallet.fD,I Ab.fPallet.fH,I Ab.fPallet.fGram,I Ab.fClasses,Cr,Cm,I Ab.fMaster,Ct] (Ab:Request) from ⟨_,_,_,_,_,_,z,z,(Enc.rd_agr (Enc.ow_rd Bs) (m.a 4 z)),(Enc.rd_agr (Enc.ow_rd Bt) (m.a 5 z)),(Enc.rd_agr (Enc.ow_rd Bq) (m.a 6 z))⟩) (show rd _ _ [Fc,Er] (Ei:Plan) from ⟨_,_,_,_,z,z,(Enc.rd_agr (Enc.ow_rd Eo) (m.a 2 z)),(Enc.rd_agr (Enc.ow_rd Dp) (m.a 3 z))⟩) (Enc.rd_agr (Enc.ow_rd Ez) (m.a 0 z)) Mh) fun bq Jr hR=>?_)
         obtain ⟨Zg,Kc,rfl,e,Dh,Ga⟩:=hR
         refine ⟨_,z,fun a k=>?_⟩
         have m:=m.new e Kc (fun b hb=>⟨Ga b hb,Enc.rd_lt (Enc.ow_rd Dh) b hb⟩) (Enc.ow_nd Dh)
         have af:=fun (y:Nat) (hy:y ∈ Kc)=>Nat.le_trans s.size (Ga y hy)
         obtain ⟨Ig,Rx,Hz,Mp,rfl,rfl,Gm,Ht,_⟩:=Dh
         have m:=m.split2
         have s:=s.trans e (by simp)
         refine wpList_nil ⟨s,?_⟩
         refine d_one 8 (by kernel_rfl) z (s_stb (cs':=[Ig,Hz]) sizeOf58 m 3 Qx 0 k z z z z z z z z z z (allc (rd_o (Enc.ow_rd Gm)) (allc (rd_o (Enc.ow_rd Ht)) alln)) fun Sh a k e m Pf=>?_)
         have s:=s.trans e (fun y hy=>Or.inr (Kn y hy))
         refine wpList_nil ⟨s,?_⟩
         refine d_done (by kernel_rfl) ((nm_then ?_))
         exact ⟨Gj.fCartons,Ig,Rx,Jr,Gj.fSpots,Hz,Mp,Jr,Qp,Sh,k.keep [8,12,14,16] z,m.sel [13,14,15,16,9,10,0,1,3] z (by decide),Gm,Ht,Pf,h⟩
       refine s_allocN (cs:=[.slice none 0 0,.slice none 0 0]) m k zeroValue58 z z z z z fun Pr Tz a k m e Ly Sd=>?_
       have Ol:=lo1 (Nat.le_trans s.size Sd)
       have s:=s.trans e (by simp)
       refine wpList_nil ⟨s,?_⟩
       refine d_one 3 (by kernel_rfl) z (oE h fun Rm Kq h=>s_call k call34 z z z z z (c_laws_toPlan fu _ (show rd _ _ [Al,Am] (Ak:Plan) from ⟨_,_,_,_,z,z,(Enc.rd_agr Af (m.a00 (Enc.rd_lt Af))),(Enc.rd_agr Ag (m.a00 (Enc.rd_lt Ag)))⟩) Kq) fun Vk Uz hR=>?_)
       obtain ⟨co,Hp,rfl,e,Ea,Fq⟩:=hR
       refine ⟨_,z,fun a k=>?_⟩
       have m:=m.new e Hp (fun b hb=>⟨Fq b hb,Enc.rd_lt (Enc.ow_rd Ea) b hb⟩) (Enc.ow_nd Ea)
       have Yw:=fun (y:Nat) (hy:y ∈ Hp)=>Nat.le_trans s.size (Fq y hy)
       obtain ⟨Tn,Uh,Tf,Wr,rfl,rfl,Ok,Og,_⟩:=Ea
       have m:=m.split2
       have s:=s.trans e (by simp)
       refine wpList_nil ⟨s,?_⟩
       refine d_one 5 (by kernel_rfl) z (oE h fun Zt Qt h=>s_call k call40 z z z z z (c_laws_toIntS fu _ (Enc.rd_agr Ae (m.a00 (Enc.rd_lt Ae))) Qt) fun Xp Xg hR=>?_)
       obtain ⟨Ua,Gk,rfl,e,Eu,Fl⟩:=hR
       refine ⟨_,z,fun a k=>?_⟩
       have m:=m.new e Gk (fun b hb=>⟨Fl b hb,Enc.rd_lt (Enc.ow_rd Eu) b hb⟩) (Enc.ow_nd Eu)
       have Vw:=fun (y:Nat) (hy:y ∈ Gk)=>Nat.le_trans s.size (Fl y hy)
       have s:=s.trans e (by simp)
       refine wpList_nil ⟨s,?_⟩
       refine d_one 6 (by kernel_rfl) z (oE h fun Hy Sj h=>s_call k call41 z z z z z (c_impl_Shuffled fu _ _ _ (show rd _ _ [I Ab.fWay,I Ab.fPallet.fW,I Ab.fPallet.fD,I Ab.fPallet.fH,I Ab.fPallet.fGram,I Ab.fClasses,Cr,Cm,I Ab.fMaster,Ct] (Ab:Request) from ⟨_,_,_,_,_,_,z,z,(Enc.rd_agr (Enc.ow_rd Bs) (m.a 4 z)),(Enc.rd_agr (Enc.ow_rd Bt) (m.a 5 z)),(Enc.rd_agr (Enc.ow_rd Bq) (m.a 6 z))⟩) (show rd _ _ [Tn,Tf] (Rm:Plan) from ⟨_,_,_,_,z,z,(Enc.rd_agr (Enc.ow_rd Ok) (m.a 1 z)),(Enc.rd_agr (Enc.ow_rd Og) (m.a 2 z))⟩) (Enc.rd_agr (Enc.ow_rd Eu) (m.a 0 z)) Sj) fun Yo Gv hR=>?_)
       obtain ⟨Wv,Jw,rfl,e,Em,Gr⟩:=hR
       refine ⟨_,z,fun a k=>?_⟩
       have m:=m.new e Jw (fun b hb=>⟨Gr b hb,Enc.rd_lt (Enc.ow_rd Em) b hb⟩) (Enc.ow_nd Em)
       have Ww:=fun (y:Nat) (hy:y ∈ Jw)=>Nat.le_trans s.size (Gr y hy)
       obtain ⟨If,Py,Hw,Nb,rfl,rfl,Jn,Ju,_⟩:=Em
       have m:=m.split2
       have s:=s.trans e (by simp)
       refine wpList_nil ⟨s,?_⟩
       refine d_one 8 (by kernel_rfl) z (s_stb (cs':=[If,Hw]) sizeOf58 m 5 Ly 0 k z z z z z z z z z z (allc (rd_o (Enc.ow_rd Jn)) (allc (rd_o (Enc.ow_rd Ju)) alln)) fun Lr a k e m Pa=>?_)
       have s:=s.trans e (fun y hy=>Or.inr (Ol y hy))
       refine wpList_nil ⟨s,?_⟩
       refine d_done (by kernel_rfl) ((nm_then ?_))
       exact ⟨Hy.fCartons,If,Py,Gv,Hy.fSpots,Hw,Nb,Gv,Pr,Lr,k.keep [8,12,14,16] z,m.sel [13,14,15,16,9,10,0,1,5] z (by decide),Jn,Ju,Pa,h⟩
     refine s_allocN (cs:=[.slice none 0 0,.slice none 0 0]) m k zeroValue58 z z z z z fun Qi Yg a k m e Pi Pt=>?_
     have Qh:=lo1 (Nat.le_trans s.size Pt)
     have s:=s.trans e (by simp)
     refine wpList_nil ⟨s,?_⟩
     refine d_one 1 (by kernel_rfl) z (oE h fun At Ow h=>s_call k call18 z z z z z (c_laws_toRequest fu _ (show rd _ _ [I Aa.fWay,I Aa.fPallet.fW,I Aa.fPallet.fD,I Aa.fPallet.fH,I Aa.fPallet.fGram,I Aa.fClasses,Aw,As,I Aa.fMaster,Av] (Aa:Request) from ⟨_,_,_,_,_,_,z,z,(Enc.rd_agr Ah (m.a00 (Enc.rd_lt Ah))),(Enc.rd_agr Aj (m.a00 (Enc.rd_lt Aj))),(Enc.rd_agr Ai (m.a00 (Enc.rd_lt Ai)))⟩) Ow) fun ai Yk hR=>?_)
     obtain ⟨cf,Ja,rfl,e,Dw,Jy⟩:=hR
     refine ⟨_,z,fun a k=>?_⟩
     have m:=m.new e Ja (fun b hb=>⟨Jy b hb,Enc.rd_lt (Enc.ow_rd Dw) b hb⟩) (Enc.ow_nd Dw)
     have br:=fun (y:Nat) (hy:y ∈ Ja)=>Nat.le_trans s.size (Jy y hy)
     obtain ⟨Pk,Zx,Kx,Vr,Oh,bb,rfl,rfl,Pl,Ps,Px,_⟩:=Dw
     have m:=m.split2
     have m:=m.split2at1
     have s:=s.trans e (by simp)
     refine wpList_nil ⟨s,?_⟩
     refine d_one 3 (by kernel_rfl) z (oE h fun Pp Oo h=>s_call k call34 z z z z z (c_laws_toPlan fu _ (show rd _ _ [Al,Am] (Ak:Plan) from ⟨_,_,_,_,z,z,(Enc.rd_agr Af (m.a00 (Enc.rd_lt Af))),(Enc.rd_agr Ag (m.a00 (Enc.rd_lt Ag)))⟩) Oo) fun Zf Yi hR=>?_)
     obtain ⟨Vy,Hu,rfl,e,Dy,Gx⟩:=hR
     refine ⟨_,z,fun a k=>?_⟩
     have m:=m.new e Hu (fun b hb=>⟨Gx b hb,Enc.rd_lt (Enc.ow_rd Dy) b hb⟩) (Enc.ow_nd Dy)
     have cr:=fun (y:Nat) (hy:y ∈ Hu)=>Nat.le_trans s.size (Gx y hy)
     obtain ⟨Lv,Yf,Pd,Zm,rfl,rfl,Ov,Qs,_⟩:=Dy
     have m:=m.split2
     have s:=s.trans e (by simp)
     refine wpList_nil ⟨s,?_⟩
     refine d_one 5 (by kernel_rfl) z (oE h fun Xd Ny h=>s_call k call40 z z z z z (c_laws_toIntS fu _ (Enc.rd_agr Ae (m.a00 (Enc.rd_lt Ae))) Ny) fun cp Yn hR=>?_)
     obtain ⟨Wt,Hf,rfl,e,Dq,Io⟩:=hR
     refine ⟨_,z,fun a k=>?_⟩
     have m:=m.new e Hf (fun b hb=>⟨Io b hb,Enc.rd_lt (Enc.ow_rd Dq) b hb⟩) (Enc.ow_nd Dq)
     have Zy:=fun (y:Nat) (hy:y ∈ Hf)=>Nat.le_trans s.size (Io y hy)
     have s:=s.trans e (by simp)
     refine wpList_nil ⟨s,?_⟩
     refine d_one 6 (by kernel_rfl) z (oE h fun Jd Rd h=>s_call k call41 z z z z z (c_impl_Shuffled fu _ _ _ (show rd _ _ [I At.fWay,I At.fPallet.fW,I At.fPallet.fD,I At.fPallet.fH,I At.fPallet.fGram,I At.fClasses,Pk,Kx,I At.fMaster,Oh] (At:Request) from ⟨_,_,_,_,_,_,z,z,(Enc.rd_agr (Enc.ow_rd Pl) (m.a 3 z)),(Enc.rd_agr (Enc.ow_rd Ps) (m.a 4 z)),(Enc.rd_agr (Enc.ow_rd Px) (m.a 5 z))⟩) (show rd _ _ [Lv,Pd] (Pp:Plan) from ⟨_,_,_,_,z,z,(Enc.rd_agr (Enc.ow_rd Ov) (m.a 1 z)),(Enc.rd_agr (Enc.ow_rd Qs) (m.a 2 z))⟩) (Enc.rd_agr (Enc.ow_rd Dq) (m.a 0 z)) Rd) fun Uc Ho hR=>?_)
     obtain ⟨Vp,Is,rfl,e,Ex,Gi⟩:=hR
     refine ⟨_,z,fun a k=>?_⟩
     have m:=m.new e Is (fun b hb=>⟨Gi b hb,Enc.rd_lt (Enc.ow_rd Ex) b hb⟩) (Enc.ow_nd Ex)
     have Yu:=fun (y:Nat) (hy:y ∈ Is)=>Nat.le_trans s.size (Gi y hy)
     obtain ⟨Iu,Qd,Jc,Tr,rfl,rfl,Gz,Fx,_⟩:=Ex
     have m:=m.split2
     have s:=s.trans e (by simp)
     refine wpList_nil ⟨s,?_⟩
     refine d_one 8 (by kernel_rfl) z (s_stb (cs':=[Iu,Jc]) sizeOf58 m 8 Pi 0 k z z z z z z z z z z (allc (rd_o (Enc.ow_rd Gz)) (allc (rd_o (Enc.ow_rd Fx)) alln)) fun Pz a k e m Ln=>?_)
     have s:=s.trans e (fun y hy=>Or.inr (Qh y hy))
     refine wpList_nil ⟨s,?_⟩
     refine d_done (by kernel_rfl) ((nm_then ?_))
     exact ⟨Jd.fCartons,Iu,Qd,Ho,Jd.fSpots,Jc,Tr,Ho,Qi,Pz,k.keep [8,12,14,16] z,m.sel [13,14,15,16,9,10,0,1,8] z (by decide),Gz,Fx,Ln,h⟩
   refine wr (pN 3 k z fun a k=>bsplit (decide (Qn.1 < 0)) (fun Bn=>?_) (fun Bn=>?_))
   · have h:=bif_t Bn h
     refine rB k 77 z Bn fun k=>pN 5 k z fun a k=>nn (wp_cond_true (k.ev z) (wr (pN 1 k z fun a k=>nn (wp_ret (rt_then ?_)))))
     refine fS h k m z z
   have h:=bif_f Bn h
   refine rB k 77 z Bn fun k=>sv k z (r_ldB ta58 m 11 Bc 0 k z z z z z z) fun a k=>sv k z (r_ldB ta58 m 21 Dn 0 k z z z z z z) fun a k=>oE h fun bt Kt h=>cE k m call36 z z z (c_laws_eqPlan fu _ _ (show rd _ _ [Ax,Ay] (Ci:Plan) from ⟨_,_,_,_,z,z,(Enc.rd_agr (Enc.ow_rd Bv) (m.a 12 z)),(Enc.rd_agr (Enc.ow_rd Ca) (m.a 13 z))⟩) (show rd _ _ [Ba,Az] ((⟨Ao,Ar⟩:Plan):Plan) from ⟨_,_,_,_,z,z,(Enc.rd_agr (Enc.ow_rd Ee) (m.a 19 z)),(Enc.rd_agr (Enc.ow_rd Df) (m.a 20 z))⟩) Kt) fun Vd e a k m=>pN 2 k z fun a k=>nn (cI h k z (fun Qw h=>?_) fun Qw h=>?_)
   · refine wr (pN 1 k z fun a k=>nn (wp_ret (rt_then ?_)))
     refine fS h k m z z
   refine wp_skip (nm_then ?_)
   exact ⟨k.keep [2,3,4,8,12] z,m.sel [17,18,21,11,19,20,12,13] z (by decide),h⟩
 refine d_go [] mixo m z fun Su hMd=>?_
 have m:=hMd
 have s:=Ext.refl ([]:List Nat) Su
 refine dN [4] 1 z k (by kernel_rfl) z s (fun _ _ _ _ _=>id) fun a k=>dt k 0 z (by kernel_rfl) z s (fun _ _ _=>id) (fun w s=>r_ldA ta28 (Bg.at ((hMd.step s).a 1 z) 0 10 z z z) z k z z) fun a k=>dt k 2 z (by kernel_rfl) z s (fun _ _ _=>id) (fun w s=>r_ldA ta52 (Bj.at ((hMd.step s).a 0 z) 0 2 z z z) z k z z) fun a k=>d_two 1 7 (by kernel_rfl) z z ?_ ?_ 
 · refine oE h fun Ac Pj h=>s_call k call18 z z z z z (c_laws_toRequest fu _ (show rd _ _ [I Aa.fWay,I Aa.fPallet.fW,I Aa.fPallet.fD,I Aa.fPallet.fH,I Aa.fPallet.fGram,I Aa.fClasses,Aw,As,I Aa.fMaster,Av] (Aa:Request) from ⟨_,_,_,_,_,_,z,z,(Enc.rd_agr Ah (m.a00 (Enc.rd_lt Ah))),(Enc.rd_agr Aj (m.a00 (Enc.rd_lt Aj))),(Enc.rd_agr Ai (m.a00 (Enc.rd_lt Ai)))⟩) Pj) fun Tv Xj hR=>?_
   obtain ⟨Tx,Ha,rfl,e,Dc,Hk⟩:=hR
   refine ⟨_,z,fun a k=>?_⟩
   have m:=m.new e Ha (fun b hb=>⟨Hk b hb,Enc.rd_lt (Enc.ow_rd Dc) b hb⟩) (Enc.ow_nd Dc)
   have Ud:=fun (y:Nat) (hy:y ∈ Ha)=>Nat.le_trans s.size (Hk y hy)
   obtain ⟨Cd,Ut,Cj,Zj,Bw,Ys,rfl,rfl,Cc,Cn,Bu,_⟩:=Dc
   have m:=m.split2
   have m:=m.split2at1
   have s:=s.trans e (by simp)
   refine wpList_nil ⟨s,?_⟩
   refine d_two 3 7 (by kernel_rfl) z z ?_ ?_ 
   · refine oE h fun Db Oy h=>s_call k call34 z z z z z (c_laws_toPlan fu _ (show rd _ _ [Al,Am] (Ak:Plan) from ⟨_,_,_,_,z,z,(Enc.rd_agr Af (m.a00 (Enc.rd_lt Af))),(Enc.rd_agr Ag (m.a00 (Enc.rd_lt Ag)))⟩) Oy) fun Vi cz hR=>?_
     obtain ⟨Wp,Ia,rfl,e,Cy,Ie⟩:=hR
     refine ⟨_,z,fun a k=>?_⟩
     have m:=m.new e Ia (fun b hb=>⟨Ie b hb,Enc.rd_lt (Enc.ow_rd Cy) b hb⟩) (Enc.ow_nd Cy)
     have Xv:=fun (y:Nat) (hy:y ∈ Ia)=>Nat.le_trans s.size (Ie y hy)
     obtain ⟨De,da,Ev,bv,rfl,rfl,Dm,Di,_⟩:=Cy
     have m:=m.split2
     have s:=s.trans e (by simp)
     refine wpList_nil ⟨s,?_⟩
     refine d_two 5 7 (by kernel_rfl) z z ?_ ?_ 
     · refine oE h fun dc Mx h=>s_call k call40 z z z z z (c_laws_toIntS fu _ (Enc.rd_agr Ae (m.a00 (Enc.rd_lt Ae))) Mx) fun Ws Vq hR=>?_
       obtain ⟨Ur,Gc,rfl,e,Cg,Gf⟩:=hR
       refine ⟨_,z,fun a k=>?_⟩
       have m:=m.new e Gc (fun b hb=>⟨Gf b hb,Enc.rd_lt (Enc.ow_rd Cg) b hb⟩) (Enc.ow_nd Cg)
       have ac:=fun (y:Nat) (hy:y ∈ Gc)=>Nat.le_trans s.size (Gf y hy)
       have s:=s.trans e (by simp)
       refine wpList_nil ⟨s,?_⟩
       refine d_two 6 7 (by kernel_rfl) z z ?_ ?_ 
       · refine oE h fun Jj Ti h=>s_call k call39 z z z z z (c_spec_Shuffled fu _ _ _ (show rd _ _ [I Ac.fWay,I Ac.fPallet.fW,I Ac.fPallet.fD,I Ac.fPallet.fH,I Ac.fPallet.fGram,I Ac.fClasses,Cd,Cj,I Ac.fMaster,Bw] (Ac:Request) from ⟨_,_,_,_,_,_,z,z,(Enc.rd_agr (Enc.ow_rd Cc) (m.a 3 z)),(Enc.rd_agr (Enc.ow_rd Cn) (m.a 4 z)),(Enc.rd_agr (Enc.ow_rd Bu) (m.a 5 z))⟩) (show rd _ _ [De,Ev] (Db:Plan) from ⟨_,_,_,_,z,z,(Enc.rd_agr (Enc.ow_rd Dm) (m.a 1 z)),(Enc.rd_agr (Enc.ow_rd Di) (m.a 2 z))⟩) (Enc.rd_agr (Enc.ow_rd Cg) (m.a 0 z)) Ti) fun Yr Jz hR=>?_
         obtain ⟨ci,Gd,rfl,e,En,Il⟩:=hR
         refine ⟨_,z,fun a k=>?_⟩
         have m:=m.new e Gd (fun b hb=>⟨Il b hb,Enc.rd_lt (Enc.ow_rd En) b hb⟩) (Enc.ow_nd En)
         have bc:=fun (y:Nat) (hy:y ∈ Gd)=>Nat.le_trans s.size (Il y hy)
         obtain ⟨Fr,Oa,Hq,Ou,rfl,rfl,Iz,Hn,_⟩:=En
         have m:=m.split2
         have s:=s.trans e (by simp)
         refine wpList_nil ⟨s,?_⟩
         refine d_one 7 (by kernel_rfl) z (s_allocN (cs:=[.slice none 0 0,.slice none 0 0]) m k zeroValue58 z z z z z fun Pu Xb a k m e Lc Ms=>?_)
         have Rh:=lo1 (Nat.le_trans s.size Ms)
         have s:=s.trans e (by simp)
         refine wpList_nil ⟨s,?_⟩
         refine d_one 8 (by kernel_rfl) z (s_stb (cs':=[Fr,Hq]) sizeOf58 m 0 Lc 0 k z z z z z z z z z z (allc (rd_o (Enc.ow_rd Iz)) (allc (rd_o (Enc.ow_rd Hn)) alln)) fun Mv a k e m Ng=>?_)
         have s:=s.trans e (fun y hy=>Or.inr (Rh y hy))
         refine wpList_nil ⟨s,?_⟩
         refine d_done (by kernel_rfl) ?_
         have k:=k.keep [2,3,4,8] z
         refine (nm_then ?_)
         exact ⟨Jj.fCartons,Fr,Oa,Jz,Jj.fSpots,Hq,Ou,Jz,Pu,Mv,k.keep [2,3,4,8] z,m.sel [10,9,1,2,0] z (by decide),Iz,Hn,Ng,h⟩
       refine s_allocN (cs:=[.slice none 0 0,.slice none 0 0]) m k zeroValue58 z z z z z fun Sl Xo a k m e Tl Nx=>?_
       have Tq:=lo1 (Nat.le_trans s.size Nx)
       have s:=s.trans e (by simp)
       refine wpList_nil ⟨s,?_⟩
       refine d_one 6 (by kernel_rfl) z (oE h fun Ib Nm h=>s_call k call39 z z z z z (c_spec_Shuffled fu _ _ _ (show rd _ _ [I Ac.fWay,I Ac.fPallet.fW,I Ac.fPallet.fD,I Ac.fPallet.fH,I Ac.fPallet.fGram,I Ac.fClasses,Cd,Cj,I Ac.fMaster,Bw] (Ac:Request) from ⟨_,_,_,_,_,_,z,z,(Enc.rd_agr (Enc.ow_rd Cc) (m.a 4 z)),(Enc.rd_agr (Enc.ow_rd Cn) (m.a 5 z)),(Enc.rd_agr (Enc.ow_rd Bu) (m.a 6 z))⟩) (show rd _ _ [De,Ev] (Db:Plan) from ⟨_,_,_,_,z,z,(Enc.rd_agr (Enc.ow_rd Dm) (m.a 2 z)),(Enc.rd_agr (Enc.ow_rd Di) (m.a 3 z))⟩) (Enc.rd_agr (Enc.ow_rd Cg) (m.a 1 z)) Nm) fun aa Fe hR=>?_)
       obtain ⟨bi,Kh,rfl,e,Ec,Gt⟩:=hR
       refine ⟨_,z,fun a k=>?_⟩
       have m:=m.new e Kh (fun b hb=>⟨Gt b hb,Enc.rd_lt (Enc.ow_rd Ec) b hb⟩) (Enc.ow_nd Ec)
       have Wc:=fun (y:Nat) (hy:y ∈ Kh)=>Nat.le_trans s.size (Gt y hy)
       obtain ⟨Jb,Ma,Jm,Np,rfl,rfl,Fd,Ge,_⟩:=Ec
       have m:=m.split2
       have s:=s.trans e (by simp)
       refine wpList_nil ⟨s,?_⟩
       refine d_one 8 (by kernel_rfl) z (s_stb (cs':=[Jb,Jm]) sizeOf58 m 2 Tl 0 k z z z z z z z z z z (allc (rd_o (Enc.ow_rd Fd)) (allc (rd_o (Enc.ow_rd Ge)) alln)) fun Rn a k e m Om=>?_)
       have s:=s.trans e (fun y hy=>Or.inr (Tq y hy))
       refine wpList_nil ⟨s,?_⟩
       refine d_done (by kernel_rfl) ?_
       have k:=k.keep [2,3,4,8] z
       refine (nm_then ?_)
       exact ⟨Ib.fCartons,Jb,Ma,Fe,Ib.fSpots,Jm,Np,Fe,Sl,Rn,k.keep [2,3,4,8] z,m.sel [10,9,0,1,2] z (by decide),Fd,Ge,Om,h⟩
     refine s_allocN (cs:=[.slice none 0 0,.slice none 0 0]) m k zeroValue58 z z z z z fun Qy Vn a k m e Rc Rj=>?_
     have Rp:=lo1 (Nat.le_trans s.size Rj)
     have s:=s.trans e (by simp)
     refine wpList_nil ⟨s,?_⟩
     refine d_one 5 (by kernel_rfl) z (oE h fun bs Sm h=>s_call k call40 z z z z z (c_laws_toIntS fu _ (Enc.rd_agr Ae (m.a00 (Enc.rd_lt Ae))) Sm) fun db cl hR=>?_)
     obtain ⟨Wl,Im,rfl,e,Et,Fu⟩:=hR
     refine ⟨_,z,fun a k=>?_⟩
     have m:=m.new e Im (fun b hb=>⟨Fu b hb,Enc.rd_lt (Enc.ow_rd Et) b hb⟩) (Enc.ow_nd Et)
     have cu:=fun (y:Nat) (hy:y ∈ Im)=>Nat.le_trans s.size (Fu y hy)
     have s:=s.trans e (by simp)
     refine wpList_nil ⟨s,?_⟩
     refine d_one 6 (by kernel_rfl) z (oE h fun Hg Re h=>s_call k call39 z z z z z (c_spec_Shuffled fu _ _ _ (show rd _ _ [I Ac.fWay,I Ac.fPallet.fW,I Ac.fPallet.fD,I Ac.fPallet.fH,I Ac.fPallet.fGram,I Ac.fClasses,Cd,Cj,I Ac.fMaster,Bw] (Ac:Request) from ⟨_,_,_,_,_,_,z,z,(Enc.rd_agr (Enc.ow_rd Cc) (m.a 4 z)),(Enc.rd_agr (Enc.ow_rd Cn) (m.a 5 z)),(Enc.rd_agr (Enc.ow_rd Bu) (m.a 6 z))⟩) (show rd _ _ [De,Ev] (Db:Plan) from ⟨_,_,_,_,z,z,(Enc.rd_agr (Enc.ow_rd Dm) (m.a 2 z)),(Enc.rd_agr (Enc.ow_rd Di) (m.a 3 z))⟩) (Enc.rd_agr (Enc.ow_rd Et) (m.a 0 z)) Re) fun Yt Hd hR=>?_)
     obtain ⟨Xf,Gh,rfl,e,Dt,Js⟩:=hR
     refine ⟨_,z,fun a k=>?_⟩
     have m:=m.new e Gh (fun b hb=>⟨Js b hb,Enc.rd_lt (Enc.ow_rd Dt) b hb⟩) (Enc.ow_nd Dt)
     have ab:=fun (y:Nat) (hy:y ∈ Gh)=>Nat.le_trans s.size (Js y hy)
     obtain ⟨Jk,Nh,Jo,Te,rfl,rfl,Gy,Jf,_⟩:=Dt
     have m:=m.split2
     have s:=s.trans e (by simp)
     refine wpList_nil ⟨s,?_⟩
     refine d_one 8 (by kernel_rfl) z (s_stb (cs':=[Jk,Jo]) sizeOf58 m 3 Rc 0 k z z z z z z z z z z (allc (rd_o (Enc.ow_rd Gy)) (allc (rd_o (Enc.ow_rd Jf)) alln)) fun Pv a k e m So=>?_)
     have s:=s.trans e (fun y hy=>Or.inr (Rp y hy))
     refine wpList_nil ⟨s,?_⟩
     refine d_done (by kernel_rfl) ?_
     have k:=k.keep [2,3,4,8] z
     refine (nm_then ?_)
     exact ⟨Hg.fCartons,Jk,Nh,Hd,Hg.fSpots,Jo,Te,Hd,Qy,Pv,k.keep [2,3,4,8] z,m.sel [10,9,0,1,3] z (by decide),Gy,Jf,So,h⟩
   refine s_allocN (cs:=[.slice none 0 0,.slice none 0 0]) m k zeroValue58 z z z z z fun Sv bp a k m e My Lo=>?_
   have Ql:=lo1 (Nat.le_trans s.size Lo)
   have s:=s.trans e (by simp)
   refine wpList_nil ⟨s,?_⟩
   refine d_one 3 (by kernel_rfl) z (oE h fun Sc Me h=>s_call k call34 z z z z z (c_laws_toPlan fu _ (show rd _ _ [Al,Am] (Ak:Plan) from ⟨_,_,_,_,z,z,(Enc.rd_agr Af (m.a00 (Enc.rd_lt Af))),(Enc.rd_agr Ag (m.a00 (Enc.rd_lt Ag)))⟩) Me) fun aw Za hR=>?_)
   obtain ⟨Wh,Hx,rfl,e,Eh,In⟩:=hR
   refine ⟨_,z,fun a k=>?_⟩
   have m:=m.new e Hx (fun b hb=>⟨In b hb,Enc.rd_lt (Enc.ow_rd Eh) b hb⟩) (Enc.ow_nd Eh)
   have Yq:=fun (y:Nat) (hy:y ∈ Hx)=>Nat.le_trans s.size (In y hy)
   obtain ⟨Ts,Ze,Qa,Yh,rfl,rfl,Qr,Ru,_⟩:=Eh
   have m:=m.split2
   have s:=s.trans e (by simp)
   refine wpList_nil ⟨s,?_⟩
   refine d_one 5 (by kernel_rfl) z (oE h fun Xk Pb h=>s_call k call40 z z z z z (c_laws_toIntS fu _ (Enc.rd_agr Ae (m.a00 (Enc.rd_lt Ae))) Pb) fun Yb Zo hR=>?_)
   obtain ⟨Xh,Ir,rfl,e,Cz,Fw⟩:=hR
   refine ⟨_,z,fun a k=>?_⟩
   have m:=m.new e Ir (fun b hb=>⟨Fw b hb,Enc.rd_lt (Enc.ow_rd Cz) b hb⟩) (Enc.ow_nd Cz)
   have Us:=fun (y:Nat) (hy:y ∈ Ir)=>Nat.le_trans s.size (Fw y hy)
   have s:=s.trans e (by simp)
   refine wpList_nil ⟨s,?_⟩
   refine d_one 6 (by kernel_rfl) z (oE h fun Gq Sn h=>s_call k call39 z z z z z (c_spec_Shuffled fu _ _ _ (show rd _ _ [I Ac.fWay,I Ac.fPallet.fW,I Ac.fPallet.fD,I Ac.fPallet.fH,I Ac.fPallet.fGram,I Ac.fClasses,Cd,Cj,I Ac.fMaster,Bw] (Ac:Request) from ⟨_,_,_,_,_,_,z,z,(Enc.rd_agr (Enc.ow_rd Cc) (m.a 4 z)),(Enc.rd_agr (Enc.ow_rd Cn) (m.a 5 z)),(Enc.rd_agr (Enc.ow_rd Bu) (m.a 6 z))⟩) (show rd _ _ [Ts,Qa] (Sc:Plan) from ⟨_,_,_,_,z,z,(Enc.rd_agr (Enc.ow_rd Qr) (m.a 1 z)),(Enc.rd_agr (Enc.ow_rd Ru) (m.a 2 z))⟩) (Enc.rd_agr (Enc.ow_rd Cz) (m.a 0 z)) Sn) fun Zi Ic hR=>?_)
   obtain ⟨Vj,Ih,rfl,e,Dd,Iw⟩:=hR
   refine ⟨_,z,fun a k=>?_⟩
   have m:=m.new e Ih (fun b hb=>⟨Iw b hb,Enc.rd_lt (Enc.ow_rd Dd) b hb⟩) (Enc.ow_nd Dd)
   have Xz:=fun (y:Nat) (hy:y ∈ Ih)=>Nat.le_trans s.size (Iw y hy)
   obtain ⟨Jx,Ml,Kb,Mr,rfl,rfl,Fy,Kj,_⟩:=Dd
   have m:=m.split2
   have s:=s.trans e (by simp)
   refine wpList_nil ⟨s,?_⟩
   refine d_one 8 (by kernel_rfl) z (s_stb (cs':=[Jx,Kb]) sizeOf58 m 5 My 0 k z z z z z z z z z z (allc (rd_o (Enc.ow_rd Fy)) (allc (rd_o (Enc.ow_rd Kj)) alln)) fun Lw a k e m Lb=>?_)
   have s:=s.trans e (fun y hy=>Or.inr (Ql y hy))
   refine wpList_nil ⟨s,?_⟩
   refine d_done (by kernel_rfl) ?_
   have k:=k.keep [2,3,4,8] z
   refine (nm_then ?_)
   exact ⟨Gq.fCartons,Jx,Ml,Ic,Gq.fSpots,Kb,Mr,Ic,Sv,Lw,k.keep [2,3,4,8] z,m.sel [10,9,0,1,5] z (by decide),Fy,Kj,Lb,h⟩
 refine s_allocN (cs:=[.slice none 0 0,.slice none 0 0]) m k zeroValue58 z z z z z fun Rf Tu a k m e Qe Si=>?_
 have Qm:=lo1 (Nat.le_trans s.size Si)
 have s:=s.trans e (by simp)
 refine wpList_nil ⟨s,?_⟩
 refine d_one 1 (by kernel_rfl) z (oE h fun Ap Oq h=>s_call k call18 z z z z z (c_laws_toRequest fu _ (show rd _ _ [I Aa.fWay,I Aa.fPallet.fW,I Aa.fPallet.fD,I Aa.fPallet.fH,I Aa.fPallet.fGram,I Aa.fClasses,Aw,As,I Aa.fMaster,Av] (Aa:Request) from ⟨_,_,_,_,_,_,z,z,(Enc.rd_agr Ah (m.a00 (Enc.rd_lt Ah))),(Enc.rd_agr Aj (m.a00 (Enc.rd_lt Aj))),(Enc.rd_agr Ai (m.a00 (Enc.rd_lt Ai)))⟩) Oq) fun Yx cd hR=>?_)
 obtain ⟨Zd,Hl,rfl,e,Dg,Gl⟩:=hR
 refine ⟨_,z,fun a k=>?_⟩
 have m:=m.new e Hl (fun b hb=>⟨Gl b hb,Enc.rd_lt (Enc.ow_rd Dg) b hb⟩) (Enc.ow_nd Dg)
 have Ym:=fun (y:Nat) (hy:y ∈ Hl)=>Nat.le_trans s.size (Gl y hy)
 obtain ⟨Ky,Xu,Tc,Xs,Mu,Um,rfl,rfl,Li,Ph,Nr,_⟩:=Dg
 have m:=m.split2
 have m:=m.split2at1
 have s:=s.trans e (by simp)
 refine wpList_nil ⟨s,?_⟩
 refine d_one 3 (by kernel_rfl) z (oE h fun Ox Nj h=>s_call k call34 z z z z z (c_laws_toPlan fu _ (show rd _ _ [Al,Am] (Ak:Plan) from ⟨_,_,_,_,z,z,(Enc.rd_agr Af (m.a00 (Enc.rd_lt Af))),(Enc.rd_agr Ag (m.a00 (Enc.rd_lt Ag)))⟩) Nj) fun Xl Zz hR=>?_)
 obtain ⟨Ub,Jv,rfl,e,El,Fj⟩:=hR
 refine ⟨_,z,fun a k=>?_⟩
 have m:=m.new e Jv (fun b hb=>⟨Fj b hb,Enc.rd_lt (Enc.ow_rd El) b hb⟩) (Enc.ow_nd El)
 have cm:=fun (y:Nat) (hy:y ∈ Jv)=>Nat.le_trans s.size (Fj y hy)
 obtain ⟨Nt,Uk,Rg,Wg,rfl,rfl,Nf,Lk,_⟩:=El
 have m:=m.split2
 have s:=s.trans e (by simp)
 refine wpList_nil ⟨s,?_⟩
 refine d_one 5 (by kernel_rfl) z (oE h fun Zc Qq h=>s_call k call40 z z z z z (c_laws_toIntS fu _ (Enc.rd_agr Ae (m.a00 (Enc.rd_lt Ae))) Qq) fun Yd Wq hR=>?_)
 obtain ⟨Wm,Jp,rfl,e,Ej,Hc⟩:=hR
 refine ⟨_,z,fun a k=>?_⟩
 have m:=m.new e Jp (fun b hb=>⟨Hc b hb,Enc.rd_lt (Enc.ow_rd Ej) b hb⟩) (Enc.ow_nd Ej)
 have ap:=fun (y:Nat) (hy:y ∈ Jp)=>Nat.le_trans s.size (Hc y hy)
 have s:=s.trans e (by simp)
 refine wpList_nil ⟨s,?_⟩
 refine d_one 6 (by kernel_rfl) z (oE h fun Ix Rz h=>s_call k call39 z z z z z (c_spec_Shuffled fu _ _ _ (show rd _ _ [I Ap.fWay,I Ap.fPallet.fW,I Ap.fPallet.fD,I Ap.fPallet.fH,I Ap.fPallet.fGram,I Ap.fClasses,Ky,Tc,I Ap.fMaster,Mu] (Ap:Request) from ⟨_,_,_,_,_,_,z,z,(Enc.rd_agr (Enc.ow_rd Li) (m.a 3 z)),(Enc.rd_agr (Enc.ow_rd Ph) (m.a 4 z)),(Enc.rd_agr (Enc.ow_rd Nr) (m.a 5 z))⟩) (show rd _ _ [Nt,Rg] (Ox:Plan) from ⟨_,_,_,_,z,z,(Enc.rd_agr (Enc.ow_rd Nf) (m.a 1 z)),(Enc.rd_agr (Enc.ow_rd Lk) (m.a 2 z))⟩) (Enc.rd_agr (Enc.ow_rd Ej) (m.a 0 z)) Rz) fun ce Hv hR=>?_)
 obtain ⟨av,Ik,rfl,e,Fb,Gb⟩:=hR
 refine ⟨_,z,fun a k=>?_⟩
 have m:=m.new e Ik (fun b hb=>⟨Gb b hb,Enc.rd_lt (Enc.ow_rd Fb) b hb⟩) (Enc.ow_nd Fb)
 have bg:=fun (y:Nat) (hy:y ∈ Ik)=>Nat.le_trans s.size (Gb y hy)
 obtain ⟨Ip,Tg,It,Ob,rfl,rfl,Iq,Gu,_⟩:=Fb
 have m:=m.split2
 have s:=s.trans e (by simp)
 refine wpList_nil ⟨s,?_⟩
 refine d_one 8 (by kernel_rfl) z (s_stb (cs':=[Ip,It]) sizeOf58 m 8 Qe 0 k z z z z z z z z z z (allc (rd_o (Enc.ow_rd Iq)) (allc (rd_o (Enc.ow_rd Gu)) alln)) fun Ra a k e m Nk=>?_)
 have s:=s.trans e (fun y hy=>Or.inr (Qm y hy))
 refine wpList_nil ⟨s,?_⟩
 refine d_done (by kernel_rfl) ?_
 have k:=k.keep [2,3,4,8] z
 refine (nm_then ?_)
 exact ⟨Ix.fCartons,Ip,Tg,Hv,Ix.fSpots,It,Ob,Hv,Rf,Ra,k.keep [2,3,4,8] z,m.sel [10,9,0,1,8] z (by decide),Iq,Gu,Nk,h⟩

end Go.Proofs.YtkkfmjpbiimkbaaGreat
