/- FnExactFeasible: the walks of functions that it reaches (ExactFeasibleW,part 1). Printed by gen.py. -/
import Derived.Test.YtkkfmjpbiimkbaaGreatExactFeasibleBWi3
import Derived.Test.YtkkfmjpbiimkbaaGreatExactFeasibleBWs3
import Derived.Test.YtkkfmjpbiimkbaaGreatExactFeasibleBWl1
import Derived.Test.YtkkfmjpbiimkbaaGreatExactFeasibleD
set_option maxRecDepth 20000
set_option linter.unusedSimpArgs false
set_option linter.unusedVariables false
namespace Go.Proofs.YtkkfmjpbiimkbaaGreat
open Go Go.RowKit
open Enc (rd ow)
open Arg (argv)
open Ret (retv)
open Go.Proofs.Tryz

theorem ta28:TA Tryz.prog 28 10:=⟨Tryz.isAgg28,sizeOf28⟩
theorem ta52:TA Tryz.prog 52 2:=⟨Tryz.isAgg52,sizeOf52⟩
theorem c_laws_FnExactFeasible (fu:Nat) {w0:World} (Aa:Request) (Aj:Plan) {Bj:List Value} {F3:List Nat} (Cz:rd w0 F3 Bj Aa) {Br:List Value} {F7:List Nat} (Cg:rd w0 F7 Br Aj) {r:Bool}
    (h:d_laws_FnExactFeasible fu Aa Aj = some r) :
    Calls Tryz.prog 8 #[.agg Bj.toArray,.agg Br.toArray] w0 fun e w=>e = .returned (.bool (r)) ∧ Ext [] w0 w:=by
 refine enter (vs:=[_,_]) func8 z ntmps8 z fun a k=>?_
 have m:=St.start w0
 obtain ⟨v9,Ex,Ao,Fr,Al,Fu,rfl,rfl,Ag,Ae,Ah⟩:=Cz
 obtain ⟨Am,Ea,Ak,Fl,rfl,rfl,Ad,Af⟩:=Cg
 unfold d_laws_FnExactFeasible at h
 refine wr (s_box (cs:=[I Aa.fWay,I Aa.fPallet.fW,I Aa.fPallet.fD,I Aa.fPallet.fH,I Aa.fPallet.fGram,I Aa.fClasses,v9,Ao,I Aa.fMaster,Al]) m k z z z z z z fun Fx Ey a k m e Ap=>s_box (cs:=[Am,Ak]) m k z z z z z z fun Dt Gb a k m e Aq=>pN 1 k z fun a k=>nn (wr (pN 1 k z fun a k=>nn (wr (sv k z (r_ldB ta28 m 1 Ap 0 k z z z z z z) fun a k=>pN 1 k z fun a k=>oE h fun Ew Bv h=>?_)))))
 refine cE k m call15 z z z (c_laws_szRequest fu _ _ (show rd _ _ [I Aa.fWay,I Aa.fPallet.fW,I Aa.fPallet.fD,I Aa.fPallet.fH,I Aa.fPallet.fGram,I Aa.fClasses,v9,Ao,I Aa.fMaster,Al] (Aa:Request) from ⟨_,_,_,_,_,_,z,z,(Enc.rd_agr Ag (m.a00 (Enc.rd_lt Ag))),(Enc.rd_agr Ae (m.a00 (Enc.rd_lt Ae))),(Enc.rd_agr Ah (m.a00 (Enc.rd_lt Ah)))⟩) Bv) fun Eb e a k m=>pN 1 k z fun a k=>nn (wp_seq (wr (pN 2 k z fun a k=>nn (cI h k z (fun Ct h=>?_) fun Ct h=>?_))))
 · refine wr (pN 1 k z fun a k=>nn (wp_ret (rt_then ?_)))
   refine fS h k m z z
 refine wp_skip (nm_then ?_)
 refine wr (sv k z (r_ldB ta52 m 0 Aq 0 k z z z z z z) fun a k=>pN 1 k z fun a k=>oE h fun Dz Dh h=>cE k m call32 z z z (c_laws_szPlan fu _ _ (show rd _ _ [Am,Ak] (Aj:Plan) from ⟨_,_,_,_,z,z,(Enc.rd_agr Ad (m.a00 (Enc.rd_lt Ad))),(Enc.rd_agr Af (m.a00 (Enc.rd_lt Af)))⟩) Dh) fun Ek e a k m=>pN 1 k z fun a k=>nn (wp_seq (wr (pN 2 k z fun a k=>nn (cI h k z (fun Cn h=>?_) fun Cn h=>?_)))))
 · refine wr (pN 1 k z fun a k=>nn (wp_ret (rt_then ?_)))
   refine fS h k m z z
 refine wp_skip (nm_then ?_)
 refine wp_seq (d_go [] mixo m z fun Cj hMd=>?_)
 have m:=hMd
 have s:=Ext.refl ([]:List Nat) Cj
 refine dt k 0 z (by kernel_rfl) z s (fun _ _ _=>id) (fun w s=>r_ldA ta28 (Ap.at ((hMd.step s).a 1 z) 0 10 z z z) z k z z) fun a k=>dt k 2 z (by kernel_rfl) z s (fun _ _ _=>id) (fun w s=>r_ldA ta52 (Aq.at ((hMd.step s).a 0 z) 0 2 z z z) z k z z) fun a k=>d_one 1 (by kernel_rfl) z (oE h fun Ac Do h=>s_call k call18 z z z z z (c_laws_toRequest fu _ (show rd _ _ [I Aa.fWay,I Aa.fPallet.fW,I Aa.fPallet.fD,I Aa.fPallet.fH,I Aa.fPallet.fGram,I Aa.fClasses,v9,Ao,I Aa.fMaster,Al] (Aa:Request) from ⟨_,_,_,_,_,_,z,z,(Enc.rd_agr Ag (m.a00 (Enc.rd_lt Ag))),(Enc.rd_agr Ae (m.a00 (Enc.rd_lt Ae))),(Enc.rd_agr Ah (m.a00 (Enc.rd_lt Ah)))⟩) Do) fun Fc Es hR=>?_)
 obtain ⟨Dy,Bl,rfl,e,Bb,Bs⟩:=hR
 refine ⟨_,z,fun a k=>?_⟩
 have m:=m.new e Bl (fun b hb=>⟨Bs b hb,Enc.rd_lt (Enc.ow_rd Bb) b hb⟩) (Enc.ow_nd Bb)
 have El:=fun (y:Nat) (hy:y ∈ Bl)=>Nat.le_trans s.size (Bs y hy)
 obtain ⟨By,Dx,Ch,Ej,Dr,Fa,rfl,rfl,Cc,Bz,Co,_⟩:=Bb
 have m:=m.split2
 have m:=m.split2at1
 have s:=s.trans e (by simp)
 refine wpList_nil ⟨s,?_⟩
 refine d_one 3 (by kernel_rfl) z (oE h fun Cv Cq h=>s_call k call34 z z z z z (c_laws_toPlan fu _ (show rd _ _ [Am,Ak] (Aj:Plan) from ⟨_,_,_,_,z,z,(Enc.rd_agr Ad (m.a00 (Enc.rd_lt Ad))),(Enc.rd_agr Af (m.a00 (Enc.rd_lt Af)))⟩) Cq) fun Dw Fq hR=>?_)
 obtain ⟨Fe,Bh,rfl,e,Bd,Bk⟩:=hR
 refine ⟨_,z,fun a k=>?_⟩
 have m:=m.new e Bh (fun b hb=>⟨Bk b hb,Enc.rd_lt (Enc.ow_rd Bd) b hb⟩) (Enc.ow_nd Bd)
 have Fv:=fun (y:Nat) (hy:y ∈ Bh)=>Nat.le_trans s.size (Bk y hy)
 obtain ⟨Df,Ga,Dm,Ef,rfl,rfl,Dk,Cp,_⟩:=Bd
 have m:=m.split2
 have s:=s.trans e (by simp)
 refine wpList_nil ⟨s,?_⟩
 refine d_one 4 (by kernel_rfl) z (oE h fun Et Dj h=>cE k m call37 z z z (c_spec_Feasible fu _ _ (show rd _ _ [I Ac.fWay,I Ac.fPallet.fW,I Ac.fPallet.fD,I Ac.fPallet.fH,I Ac.fPallet.fGram,I Ac.fClasses,By,Ch,I Ac.fMaster,Dr] (Ac:Request) from ⟨_,_,_,_,_,_,z,z,(Enc.rd_agr (Enc.ow_rd Cc) (m.a 2 z)),(Enc.rd_agr (Enc.ow_rd Bz) (m.a 3 z)),(Enc.rd_agr (Enc.ow_rd Co) (m.a 4 z))⟩) (show rd _ _ [Df,Dm] (Cv:Plan) from ⟨_,_,_,_,z,z,(Enc.rd_agr (Enc.ow_rd Dk) (m.a 0 z)),(Enc.rd_agr (Enc.ow_rd Cp) (m.a 1 z))⟩) Dj) fun Ft e a k m=>?_)
 have s:=s.trans e (by simp)
 refine wpList_nil ⟨s,?_⟩
 refine dN [5] 1 z k (by kernel_rfl) z s (fun _ _ _ _ _=>id) fun a k=>d_done (by kernel_rfl) ((nm_then ?_))
 refine wr (sv k z (r_ldB ta28 m 6 Ap 0 k z z z z z z) fun a k=>oE h fun Ab Cx h=>s_call k call18 z z z z z (c_laws_toRequest fu _ (show rd _ _ [I Aa.fWay,I Aa.fPallet.fW,I Aa.fPallet.fD,I Aa.fPallet.fH,I Aa.fPallet.fGram,I Aa.fClasses,v9,Ao,I Aa.fMaster,Al] (Aa:Request) from ⟨_,_,_,_,_,_,z,z,(Enc.rd_agr Ag (m.a00 (Enc.rd_lt Ag))),(Enc.rd_agr Ae (m.a00 (Enc.rd_lt Ae))),(Enc.rd_agr Ah (m.a00 (Enc.rd_lt Ah)))⟩) Cx) fun Fg Ds hR=>?_)
 obtain ⟨Fd,Dg,rfl,e,Bc,Ci⟩:=hR
 refine ⟨_,z,fun a k=>?_⟩
 have m:=m.new e Dg (fun b hb=>⟨Ci b hb,Enc.rd_lt (Enc.ow_rd Bc) b hb⟩) (Enc.ow_nd Bc)
 obtain ⟨Ax,Fn,Be,Eh,Aw,Ez,rfl,rfl,Bf,Ar,As,_⟩:=Bc
 have m:=m.split2
 have m:=m.split2at1
 refine s_alloc (cs:=[I 0,I 0,I 0,I 0,I 0,I 0,.slice none 0 0,.slice none 0 0,I 0,.slice none 0 0]) m k zeroValue38 z z z z z fun Du Fo a k m e Cw=>s_stb (cs':=[I Ab.fWay,I Ab.fPallet.fW,I Ab.fPallet.fD,I Ab.fPallet.fH,I Ab.fPallet.fGram,I Ab.fClasses,Ax,Be,I Ab.fMaster,Aw]) sizeOf38 m 0 Cw 0 k z z z z z z z z z z (allc z (allc z (allc z (allc z (allc z (allc z (allc (rd_o (Enc.ow_rd Bf)) (allc (rd_o (Enc.ow_rd Ar)) (allc z (allc (rd_o (Enc.ow_rd As)) alln)))))))))) fun Gc a k e m Bn=>?_
 have k:=k.keep [2,3,6,7] z
 refine nn (wr (sv k z (r_ldB ta52 m 9 Aq 0 k z z z z z z) fun a k=>oE h fun Bt Ck h=>s_call k call34 z z z z z (c_laws_toPlan fu _ (show rd _ _ [Am,Ak] (Aj:Plan) from ⟨_,_,_,_,z,z,(Enc.rd_agr Ad (m.a00 (Enc.rd_lt Ad))),(Enc.rd_agr Af (m.a00 (Enc.rd_lt Af)))⟩) Ck) fun Ei Ed hR=>?_))
 obtain ⟨Fj,Ce,rfl,e,At,Cr⟩:=hR
 refine ⟨_,z,fun a k=>?_⟩
 have m:=m.new e Ce (fun b hb=>⟨Cr b hb,Enc.rd_lt (Enc.ow_rd At) b hb⟩) (Enc.ow_nd At)
 obtain ⟨Ay,Ep,Bg,Ff,rfl,rfl,Au,Av,_⟩:=At
 have m:=m.split2
 refine s_alloc (cs:=[.slice none 0 0,.slice none 0 0]) m k zeroValue58 z z z z z fun Fb Eg a k m e Dl=>s_stb (cs':=[Ay,Bg]) sizeOf58 m 0 Dl 0 k z z z z z z z z z z (allc (rd_o (Enc.ow_rd Au)) (allc (rd_o (Enc.ow_rd Av)) alln)) fun Ec a k e m Bi=>nn (wr (sv k z (r_ldB ta38 m 3 Bn 0 k z z z z z z) fun a k=>sv k z (r_ldB ta58 m 0 Bi 0 k z z z z z z) fun a k=>oE h fun Fk Bw h=>?_))
 refine cE k m call38 z z z (c_impl_Feasible fu _ _ (show rd _ _ [I Ab.fWay,I Ab.fPallet.fW,I Ab.fPallet.fD,I Ab.fPallet.fH,I Ab.fPallet.fGram,I Ab.fClasses,Ax,Be,I Ab.fMaster,Aw] (Ab:Request) from ⟨_,_,_,_,_,_,z,z,(Enc.rd_agr (Enc.ow_rd Bf) (m.a 4 z)),(Enc.rd_agr (Enc.ow_rd Ar) (m.a 5 z)),(Enc.rd_agr (Enc.ow_rd As) (m.a 6 z))⟩) (show rd _ _ [Ay,Bg] (Bt:Plan) from ⟨_,_,_,_,z,z,(Enc.rd_agr (Enc.ow_rd Au) (m.a 1 z)),(Enc.rd_agr (Enc.ow_rd Av) (m.a 2 z))⟩) Bw) fun Eu e a k m=>pN 1 k z fun a k=>nn (wp_seq (wr (pN 2 k z fun a k=>sv k z (r_neb k underlying4 z z z) fun a k=>nn (cI h k z (fun Dc h=>?_) fun Dc h=>?_))))
 · refine wr (pN 1 k z fun a k=>nn (wp_ret (rt_then ?_)))
   refine fS h k m z z
 refine wp_skip (nm_then ?_)
 refine wp_seq (wp_seq (d_go [] mixo m z fun Cu hMd=>?_))
 have m:=hMd
 have s:=Ext.refl ([]:List Nat) Cu
 refine dt k 0 z (by kernel_rfl) z s (fun _ _ _=>id) (fun w s=>r_ldA ta38 (Bn.at ((hMd.step s).a 3 z) 0 10 z z z) z k z z) fun a k=>dt k 1 z (by kernel_rfl) z s (fun _ _ _=>id) (fun w s=>r_ldA ta28 (Ap.at ((hMd.step s).a 13 z) 0 10 z z z) z k z z) fun a k=>d_one 2 (by kernel_rfl) z (oE h fun Ai Dp h=>s_call k call18 z z z z z (c_laws_toRequest fu _ (show rd _ _ [I Aa.fWay,I Aa.fPallet.fW,I Aa.fPallet.fD,I Aa.fPallet.fH,I Aa.fPallet.fGram,I Aa.fClasses,v9,Ao,I Aa.fMaster,Al] (Aa:Request) from ⟨_,_,_,_,_,_,z,z,(Enc.rd_agr Ag (m.a00 (Enc.rd_lt Ag))),(Enc.rd_agr Ae (m.a00 (Enc.rd_lt Ae))),(Enc.rd_agr Ah (m.a00 (Enc.rd_lt Ah)))⟩) Dp) fun Eo Fz hR=>?_)
 obtain ⟨Fh,Bp,rfl,e,Ba,Bm⟩:=hR
 refine ⟨_,z,fun a k=>?_⟩
 have m:=m.new e Bp (fun b hb=>⟨Bm b hb,Enc.rd_lt (Enc.ow_rd Ba) b hb⟩) (Enc.ow_nd Ba)
 have Ee:=fun (y:Nat) (hy:y ∈ Bp)=>Nat.le_trans s.size (Bm y hy)
 obtain ⟨Dd,Em,Cb,Fy,Di,En,rfl,rfl,Cy,Bu,Cl,_⟩:=Ba
 have m:=m.split2
 have m:=m.split2at1
 have s:=s.trans e (by simp)
 refine wpList_nil ⟨s,?_⟩
 refine d_one 3 (by kernel_rfl) z (oE h fun Er Cs h=>?_)
 refine cE k m call21 z z z (c_laws_eqRequest fu _ _ (show rd _ _ [I Ab.fWay,I Ab.fPallet.fW,I Ab.fPallet.fD,I Ab.fPallet.fH,I Ab.fPallet.fGram,I Ab.fClasses,Ax,Be,I Ab.fMaster,Aw] (Ab:Request) from ⟨_,_,_,_,_,_,z,z,(Enc.rd_agr (Enc.ow_rd Bf) (m.a 7 z)),(Enc.rd_agr (Enc.ow_rd Ar) (m.a 8 z)),(Enc.rd_agr (Enc.ow_rd As) (m.a 9 z))⟩) (show rd _ _ [I Ai.fWay,I Ai.fPallet.fW,I Ai.fPallet.fD,I Ai.fPallet.fH,I Ai.fPallet.fGram,I Ai.fClasses,Dd,Cb,I Ai.fMaster,Di] (Ai:Request) from ⟨_,_,_,_,_,_,z,z,(Enc.rd_agr (Enc.ow_rd Cy) (m.a 0 z)),(Enc.rd_agr (Enc.ow_rd Bu) (m.a 1 z)),(Enc.rd_agr (Enc.ow_rd Cl) (m.a 2 z))⟩) Cs) fun Fs e a k m=>?_
 have s:=s.trans e (by simp)
 refine wpList_nil ⟨s,?_⟩
 refine dN [4] 1 z k (by kernel_rfl) z s (fun _ _ _ _ _=>id) fun a k=>d_done (by kernel_rfl) ((nm_then ?_))
 refine cI h k z (fun Bx h=>?_) fun Bx h=>?_
 · refine wr (pN 1 k z fun a k=>nn (wp_ret (rt_then ?_)))
   refine fS h k m z z
 refine wp_skip (nm_then ?_)
 refine wp_seq (wp_seq (d_go [] mixo m z fun Ca hMd=>?_))
 have m:=hMd
 have s:=Ext.refl ([]:List Nat) Ca
 refine dt k 0 z (by kernel_rfl) z s (fun _ _ _=>id) (fun w s=>r_ldA ta58 (Bi.at ((hMd.step s).a 3 z) 0 2 z z z) z k z z) fun a k=>dt k 1 z (by kernel_rfl) z s (fun _ _ _=>id) (fun w s=>r_ldA ta52 (Aq.at ((hMd.step s).a 15 z) 0 2 z z z) z k z z) fun a k=>d_one 2 (by kernel_rfl) z (oE h fun Dq Dn h=>s_call k call34 z z z z z (c_laws_toPlan fu _ (show rd _ _ [Am,Ak] (Aj:Plan) from ⟨_,_,_,_,z,z,(Enc.rd_agr Ad (m.a00 (Enc.rd_lt Ad))),(Enc.rd_agr Af (m.a00 (Enc.rd_lt Af)))⟩) Dn) fun Fm Ev hR=>?_)
 obtain ⟨Gd,Bq,rfl,e,Az,Bo⟩:=hR
 refine ⟨_,z,fun a k=>?_⟩
 have m:=m.new e Bq (fun b hb=>⟨Bo b hb,Enc.rd_lt (Enc.ow_rd Az) b hb⟩) (Enc.ow_nd Az)
 have Ge:=fun (y:Nat) (hy:y ∈ Bq)=>Nat.le_trans s.size (Bo y hy)
 obtain ⟨De,Fw,Cm,Dv,rfl,rfl,Db,Da,_⟩:=Az
 have m:=m.split2
 have s:=s.trans e (by simp)
 refine wpList_nil ⟨s,?_⟩
 refine d_one 3 (by kernel_rfl) z (oE h fun Fp Cf h=>cE k m call36 z z z (c_laws_eqPlan fu _ _ (show rd _ _ [Ay,Bg] (Bt:Plan) from ⟨_,_,_,_,z,z,(Enc.rd_agr (Enc.ow_rd Au) (m.a 6 z)),(Enc.rd_agr (Enc.ow_rd Av) (m.a 7 z))⟩) (show rd _ _ [De,Cm] (Dq:Plan) from ⟨_,_,_,_,z,z,(Enc.rd_agr (Enc.ow_rd Db) (m.a 0 z)),(Enc.rd_agr (Enc.ow_rd Da) (m.a 1 z))⟩) Cf) fun Fi e a k m=>?_)
 have s:=s.trans e (by simp)
 refine wpList_nil ⟨s,?_⟩
 refine dN [4] 1 z k (by kernel_rfl) z s (fun _ _ _ _ _=>id) fun a k=>d_done (by kernel_rfl) ?_
 have k:=k.keep [44] z
 refine (nm_then ?_)
 refine cI h k z (fun Cd h=>?_) fun Cd h=>?_
 · refine wr (pN 1 k z fun a k=>nn (wp_ret (rt_then ?_)))
   refine fS h k m z z
 refine wp_skip (nm_then ?_)
 refine wr (pN 1 k z fun a k=>nn (wp_ret (fS h k m z z)))

end Go.Proofs.YtkkfmjpbiimkbaaGreat
