/- FnExactCheck: the walks of functions that it reaches (ExactCheckW,part 1). Printed by gen.py. -/
import Derived.Test.YtkkfmjpbiimkbaaGreatExactFeasibleBWi3
import Derived.Test.YtkkfmjpbiimkbaaGreatExactFeasibleBWs3
import Derived.Test.YtkkfmjpbiimkbaaGreatExactFeasibleBWl1
import Derived.Test.YtkkfmjpbiimkbaaGreatExactCheckD
set_option maxRecDepth 20000
set_option linter.unusedSimpArgs false
set_option linter.unusedVariables false
namespace Go.Proofs.YtkkfmjpbiimkbaaGreat
open Go Go.RowKit
open Enc (rd ow)
open Arg (argv)
open Ret (retv)
open Go.Proofs.Tryz

theorem ta28:TA Tryz.prog 28 10:=⟨Tryz.isAgg28,sizeOf28⟩
theorem ta52:TA Tryz.prog 52 2:=⟨Tryz.isAgg52,sizeOf52⟩
theorem c_laws_FnExactCheck (fu:Nat) {w0:World} (Aa:Request) (Aj:Plan) {Bi:List Value} {F3:List Nat} (Bz:rd w0 F3 Bi Aa) {Bn:List Value} {F7:List Nat} (Bw:rd w0 F7 Bn Aj) {r:Bool}
    (h:d_laws_FnExactCheck fu Aa Aj = some r) :
    Calls Tryz.prog 7 #[.agg Bi.toArray,.agg Bn.toArray] w0 fun e w=>e = .returned (.bool (r)) ∧ Ext [] w0 w:=by
 refine enter (vs:=[_,_]) func7 z ntmps7 z fun a k=>?_
 have m:=St.start w0
 obtain ⟨v9,Fc,Al,Fq,Am,Ea,rfl,rfl,Ag,Ad,Ac⟩:=Bz
 obtain ⟨Ak,Eo,Ao,Fl,rfl,rfl,Ah,Af⟩:=Bw
 unfold d_laws_FnExactCheck at h
 refine wr (s_box (cs:=[I Aa.fWay,I Aa.fPallet.fW,I Aa.fPallet.fD,I Aa.fPallet.fH,I Aa.fPallet.fGram,I Aa.fClasses,v9,Al,I Aa.fMaster,Am]) m k z z z z z z fun Eb Ey a k m e Ap=>s_box (cs:=[Ak,Ao]) m k z z z z z z fun Ds Ec a k m e Aq=>pN 1 k z fun a k=>nn (wr (pN 1 k z fun a k=>nn (wr (sv k z (r_ldB ta28 m 1 Ap 0 k z z z z z z) fun a k=>pN 1 k z fun a k=>oE h fun En Dh h=>?_)))))
 refine cE k m call15 z z z (c_laws_szRequest fu _ _ (show rd _ _ [I Aa.fWay,I Aa.fPallet.fW,I Aa.fPallet.fD,I Aa.fPallet.fH,I Aa.fPallet.fGram,I Aa.fClasses,v9,Al,I Aa.fMaster,Am] (Aa:Request) from ⟨_,_,_,_,_,_,z,z,(Enc.rd_agr Ag (m.a00 (Enc.rd_lt Ag))),(Enc.rd_agr Ad (m.a00 (Enc.rd_lt Ad))),(Enc.rd_agr Ac (m.a00 (Enc.rd_lt Ac)))⟩) Dh) fun Ge e a k m=>pN 1 k z fun a k=>nn (wp_seq (wr (pN 2 k z fun a k=>nn (cI h k z (fun Cz h=>?_) fun Cz h=>?_))))
 · refine wr (pN 1 k z fun a k=>nn (wp_ret (rt_then ?_)))
   refine fS h k m z z
 refine wp_skip (nm_then ?_)
 refine wr (sv k z (r_ldB ta52 m 0 Aq 0 k z z z z z z) fun a k=>pN 1 k z fun a k=>oE h fun Gc Cq h=>cE k m call32 z z z (c_laws_szPlan fu _ _ (show rd _ _ [Ak,Ao] (Aj:Plan) from ⟨_,_,_,_,z,z,(Enc.rd_agr Ah (m.a00 (Enc.rd_lt Ah))),(Enc.rd_agr Af (m.a00 (Enc.rd_lt Af)))⟩) Cq) fun Dy e a k m=>pN 1 k z fun a k=>nn (wp_seq (wr (pN 2 k z fun a k=>nn (cI h k z (fun Dm h=>?_) fun Dm h=>?_)))))
 · refine wr (pN 1 k z fun a k=>nn (wp_ret (rt_then ?_)))
   refine fS h k m z z
 refine wp_skip (nm_then ?_)
 refine wp_seq (d_go [] mixo m z fun Dn hMd=>?_)
 have m:=hMd
 have s:=Ext.refl ([]:List Nat) Dn
 refine dt k 0 z (by kernel_rfl) z s (fun _ _ _=>id) (fun w s=>r_ldA ta28 (Ap.at ((hMd.step s).a 1 z) 0 10 z z z) z k z z) fun a k=>dt k 2 z (by kernel_rfl) z s (fun _ _ _=>id) (fun w s=>r_ldA ta52 (Aq.at ((hMd.step s).a 0 z) 0 2 z z z) z k z z) fun a k=>d_one 1 (by kernel_rfl) z (oE h fun Ai Ck h=>s_call k call18 z z z z z (c_laws_toRequest fu _ (show rd _ _ [I Aa.fWay,I Aa.fPallet.fW,I Aa.fPallet.fD,I Aa.fPallet.fH,I Aa.fPallet.fGram,I Aa.fClasses,v9,Al,I Aa.fMaster,Am] (Aa:Request) from ⟨_,_,_,_,_,_,z,z,(Enc.rd_agr Ag (m.a00 (Enc.rd_lt Ag))),(Enc.rd_agr Ad (m.a00 (Enc.rd_lt Ad))),(Enc.rd_agr Ac (m.a00 (Enc.rd_lt Ac)))⟩) Ck) fun Ev Ex hR=>?_)
 obtain ⟨Fs,Bp,rfl,e,Aw,Bh⟩:=hR
 refine ⟨_,z,fun a k=>?_⟩
 have m:=m.new e Bp (fun b hb=>⟨Bh b hb,Enc.rd_lt (Enc.ow_rd Aw) b hb⟩) (Enc.ow_nd Aw)
 have Ek:=fun (y:Nat) (hy:y ∈ Bp)=>Nat.le_trans s.size (Bh y hy)
 obtain ⟨Df,Eu,Cw,Fb,Cc,Du,rfl,rfl,Ci,Dg,Cd,_⟩:=Aw
 have m:=m.split2
 have m:=m.split2at1
 have s:=s.trans e (by simp)
 refine wpList_nil ⟨s,?_⟩
 refine d_one 3 (by kernel_rfl) z (oE h fun Cb Dj h=>s_call k call34 z z z z z (c_laws_toPlan fu _ (show rd _ _ [Ak,Ao] (Aj:Plan) from ⟨_,_,_,_,z,z,(Enc.rd_agr Ah (m.a00 (Enc.rd_lt Ah))),(Enc.rd_agr Af (m.a00 (Enc.rd_lt Af)))⟩) Dj) fun Fa Dv hR=>?_)
 obtain ⟨Dx,Bo,rfl,e,Av,Bk⟩:=hR
 refine ⟨_,z,fun a k=>?_⟩
 have m:=m.new e Bo (fun b hb=>⟨Bk b hb,Enc.rd_lt (Enc.ow_rd Av) b hb⟩) (Enc.ow_nd Av)
 have Eg:=fun (y:Nat) (hy:y ∈ Bo)=>Nat.le_trans s.size (Bk y hy)
 obtain ⟨Dp,Fi,Co,Er,rfl,rfl,Dq,Ce,_⟩:=Av
 have m:=m.split2
 have s:=s.trans e (by simp)
 refine wpList_nil ⟨s,?_⟩
 refine d_one 4 (by kernel_rfl) z (oE h fun Ee Cl h=>cE k m call33 z z z (c_spec_Check fu _ _ (show rd _ _ [I Ai.fWay,I Ai.fPallet.fW,I Ai.fPallet.fD,I Ai.fPallet.fH,I Ai.fPallet.fGram,I Ai.fClasses,Df,Cw,I Ai.fMaster,Cc] (Ai:Request) from ⟨_,_,_,_,_,_,z,z,(Enc.rd_agr (Enc.ow_rd Ci) (m.a 2 z)),(Enc.rd_agr (Enc.ow_rd Dg) (m.a 3 z)),(Enc.rd_agr (Enc.ow_rd Cd) (m.a 4 z))⟩) (show rd _ _ [Dp,Co] (Cb:Plan) from ⟨_,_,_,_,z,z,(Enc.rd_agr (Enc.ow_rd Dq) (m.a 0 z)),(Enc.rd_agr (Enc.ow_rd Ce) (m.a 1 z))⟩) Cl) fun Ed e a k m=>?_)
 have s:=s.trans e (by simp)
 refine wpList_nil ⟨s,?_⟩
 refine dN [5] 1 z k (by kernel_rfl) z s (fun _ _ _ _ _=>id) fun a k=>d_done (by kernel_rfl) ((nm_then ?_))
 refine wr (sv k z (r_ldB ta28 m 6 Ap 0 k z z z z z z) fun a k=>oE h fun Ab Dk h=>s_call k call18 z z z z z (c_laws_toRequest fu _ (show rd _ _ [I Aa.fWay,I Aa.fPallet.fW,I Aa.fPallet.fD,I Aa.fPallet.fH,I Aa.fPallet.fGram,I Aa.fClasses,v9,Al,I Aa.fMaster,Am] (Aa:Request) from ⟨_,_,_,_,_,_,z,z,(Enc.rd_agr Ag (m.a00 (Enc.rd_lt Ag))),(Enc.rd_agr Ad (m.a00 (Enc.rd_lt Ad))),(Enc.rd_agr Ac (m.a00 (Enc.rd_lt Ac)))⟩) Dk) fun Fo Gb hR=>?_)
 obtain ⟨Fx,Ch,rfl,e,As,Cx⟩:=hR
 refine ⟨_,z,fun a k=>?_⟩
 have m:=m.new e Ch (fun b hb=>⟨Cx b hb,Enc.rd_lt (Enc.ow_rd As) b hb⟩) (Enc.ow_nd As)
 obtain ⟨Be,Em,Ax,Dt,Ay,Fv,rfl,rfl,Az,At,Au,_⟩:=As
 have m:=m.split2
 have m:=m.split2at1
 refine s_alloc (cs:=[I 0,I 0,I 0,I 0,I 0,I 0,.slice none 0 0,.slice none 0 0,I 0,.slice none 0 0]) m k zeroValue38 z z z z z fun Fu Ez a k m e Dl=>s_stb (cs':=[I Ab.fWay,I Ab.fPallet.fW,I Ab.fPallet.fD,I Ab.fPallet.fH,I Ab.fPallet.fGram,I Ab.fClasses,Be,Ax,I Ab.fMaster,Ay]) sizeOf38 m 0 Dl 0 k z z z z z z z z z z (allc z (allc z (allc z (allc z (allc z (allc z (allc (rd_o (Enc.ow_rd Az)) (allc (rd_o (Enc.ow_rd At)) (allc z (allc (rd_o (Enc.ow_rd Au)) alln)))))))))) fun Ff a k e m Bj=>?_
 have k:=k.keep [2,3,6,7] z
 refine nn (wr (sv k z (r_ldB ta52 m 9 Aq 0 k z z z z z z) fun a k=>oE h fun Bm Cg h=>s_call k call34 z z z z z (c_laws_toPlan fu _ (show rd _ _ [Ak,Ao] (Aj:Plan) from ⟨_,_,_,_,z,z,(Enc.rd_agr Ah (m.a00 (Enc.rd_lt Ah))),(Enc.rd_agr Af (m.a00 (Enc.rd_lt Af)))⟩) Cg) fun Ei Fm hR=>?_))
 obtain ⟨Eh,Cy,rfl,e,Bg,De⟩:=hR
 refine ⟨_,z,fun a k=>?_⟩
 have m:=m.new e Cy (fun b hb=>⟨De b hb,Enc.rd_lt (Enc.ow_rd Bg) b hb⟩) (Enc.ow_nd Bg)
 obtain ⟨Ar,Fd,Bc,Fg,rfl,rfl,Bf,Ba,_⟩:=Bg
 have m:=m.split2
 refine s_alloc (cs:=[.slice none 0 0,.slice none 0 0]) m k zeroValue58 z z z z z fun Fz Fh a k m e Cu=>s_stb (cs':=[Ar,Bc]) sizeOf58 m 0 Cu 0 k z z z z z z z z z z (allc (rd_o (Enc.ow_rd Bf)) (allc (rd_o (Enc.ow_rd Ba)) alln)) fun Fw a k e m Bt=>nn (wr (sv k z (r_ldB ta38 m 3 Bj 0 k z z z z z z) fun a k=>sv k z (r_ldB ta58 m 0 Bt 0 k z z z z z z) fun a k=>oE h fun Gd By h=>?_))
 refine cE k m call35 z z z (c_impl_Check fu _ _ (show rd _ _ [I Ab.fWay,I Ab.fPallet.fW,I Ab.fPallet.fD,I Ab.fPallet.fH,I Ab.fPallet.fGram,I Ab.fClasses,Be,Ax,I Ab.fMaster,Ay] (Ab:Request) from ⟨_,_,_,_,_,_,z,z,(Enc.rd_agr (Enc.ow_rd Az) (m.a 4 z)),(Enc.rd_agr (Enc.ow_rd At) (m.a 5 z)),(Enc.rd_agr (Enc.ow_rd Au) (m.a 6 z))⟩) (show rd _ _ [Ar,Bc] (Bm:Plan) from ⟨_,_,_,_,z,z,(Enc.rd_agr (Enc.ow_rd Bf) (m.a 1 z)),(Enc.rd_agr (Enc.ow_rd Ba) (m.a 2 z))⟩) By) fun El e a k m=>pN 1 k z fun a k=>nn (wp_seq (wr (pN 3 k z fun a k=>nn (cI h k z (fun Dd h=>?_) fun Dd h=>?_))))
 · refine wr (pN 1 k z fun a k=>nn (wp_ret (rt_then ?_)))
   refine fS h k m z z
 refine wp_skip (nm_then ?_)
 refine wp_seq (wp_seq (d_go [] mixo m z fun Cp hMd=>?_))
 have m:=hMd
 have s:=Ext.refl ([]:List Nat) Cp
 refine dt k 0 z (by kernel_rfl) z s (fun _ _ _=>id) (fun w s=>r_ldA ta38 (Bj.at ((hMd.step s).a 3 z) 0 10 z z z) z k z z) fun a k=>dt k 1 z (by kernel_rfl) z s (fun _ _ _=>id) (fun w s=>r_ldA ta28 (Ap.at ((hMd.step s).a 13 z) 0 10 z z z) z k z z) fun a k=>d_one 2 (by kernel_rfl) z (oE h fun Ae Do h=>s_call k call18 z z z z z (c_laws_toRequest fu _ (show rd _ _ [I Aa.fWay,I Aa.fPallet.fW,I Aa.fPallet.fD,I Aa.fPallet.fH,I Aa.fPallet.fGram,I Aa.fClasses,v9,Al,I Aa.fMaster,Am] (Aa:Request) from ⟨_,_,_,_,_,_,z,z,(Enc.rd_agr Ag (m.a00 (Enc.rd_lt Ag))),(Enc.rd_agr Ad (m.a00 (Enc.rd_lt Ad))),(Enc.rd_agr Ac (m.a00 (Enc.rd_lt Ac)))⟩) Do) fun Ej Ga hR=>?_)
 obtain ⟨Et,Bs,rfl,e,Bd,Bq⟩:=hR
 refine ⟨_,z,fun a k=>?_⟩
 have m:=m.new e Bs (fun b hb=>⟨Bq b hb,Enc.rd_lt (Enc.ow_rd Bd) b hb⟩) (Enc.ow_nd Bd)
 have Es:=fun (y:Nat) (hy:y ∈ Bs)=>Nat.le_trans s.size (Bq y hy)
 obtain ⟨Cf,Ef,Cs,Fe,Dc,Fk,rfl,rfl,Dr,Cr,Cn,_⟩:=Bd
 have m:=m.split2
 have m:=m.split2at1
 have s:=s.trans e (by simp)
 refine wpList_nil ⟨s,?_⟩
 refine d_one 3 (by kernel_rfl) z (oE h fun Dw Ct h=>?_)
 refine cE k m call21 z z z (c_laws_eqRequest fu _ _ (show rd _ _ [I Ab.fWay,I Ab.fPallet.fW,I Ab.fPallet.fD,I Ab.fPallet.fH,I Ab.fPallet.fGram,I Ab.fClasses,Be,Ax,I Ab.fMaster,Ay] (Ab:Request) from ⟨_,_,_,_,_,_,z,z,(Enc.rd_agr (Enc.ow_rd Az) (m.a 7 z)),(Enc.rd_agr (Enc.ow_rd At) (m.a 8 z)),(Enc.rd_agr (Enc.ow_rd Au) (m.a 9 z))⟩) (show rd _ _ [I Ae.fWay,I Ae.fPallet.fW,I Ae.fPallet.fD,I Ae.fPallet.fH,I Ae.fPallet.fGram,I Ae.fClasses,Cf,Cs,I Ae.fMaster,Dc] (Ae:Request) from ⟨_,_,_,_,_,_,z,z,(Enc.rd_agr (Enc.ow_rd Dr) (m.a 0 z)),(Enc.rd_agr (Enc.ow_rd Cr) (m.a 1 z)),(Enc.rd_agr (Enc.ow_rd Cn) (m.a 2 z))⟩) Ct) fun Fy e a k m=>?_
 have s:=s.trans e (by simp)
 refine wpList_nil ⟨s,?_⟩
 refine dN [4] 1 z k (by kernel_rfl) z s (fun _ _ _ _ _=>id) fun a k=>d_done (by kernel_rfl) ((nm_then ?_))
 refine cI h k z (fun Bx h=>?_) fun Bx h=>?_
 · refine wr (pN 1 k z fun a k=>nn (wp_ret (rt_then ?_)))
   refine fS h k m z z
 refine wp_skip (nm_then ?_)
 refine wp_seq (wp_seq (d_go [] mixo m z fun Bv hMd=>?_))
 have m:=hMd
 have s:=Ext.refl ([]:List Nat) Bv
 refine dt k 0 z (by kernel_rfl) z s (fun _ _ _=>id) (fun w s=>r_ldA ta58 (Bt.at ((hMd.step s).a 3 z) 0 2 z z z) z k z z) fun a k=>dt k 1 z (by kernel_rfl) z s (fun _ _ _=>id) (fun w s=>r_ldA ta52 (Aq.at ((hMd.step s).a 15 z) 0 2 z z z) z k z z) fun a k=>d_one 2 (by kernel_rfl) z (oE h fun Di Bu h=>s_call k call34 z z z z z (c_laws_toPlan fu _ (show rd _ _ [Ak,Ao] (Aj:Plan) from ⟨_,_,_,_,z,z,(Enc.rd_agr Ah (m.a00 (Enc.rd_lt Ah))),(Enc.rd_agr Af (m.a00 (Enc.rd_lt Af)))⟩) Bu) fun Ew Ft hR=>?_)
 obtain ⟨Ep,Bl,rfl,e,Bb,Br⟩:=hR
 refine ⟨_,z,fun a k=>?_⟩
 have m:=m.new e Bl (fun b hb=>⟨Br b hb,Enc.rd_lt (Enc.ow_rd Bb) b hb⟩) (Enc.ow_nd Bb)
 have Fj:=fun (y:Nat) (hy:y ∈ Bl)=>Nat.le_trans s.size (Br y hy)
 obtain ⟨Da,Fr,Db,Dz,rfl,rfl,Cm,Ca,_⟩:=Bb
 have m:=m.split2
 have s:=s.trans e (by simp)
 refine wpList_nil ⟨s,?_⟩
 refine d_one 3 (by kernel_rfl) z (oE h fun Fp Cv h=>cE k m call36 z z z (c_laws_eqPlan fu _ _ (show rd _ _ [Ar,Bc] (Bm:Plan) from ⟨_,_,_,_,z,z,(Enc.rd_agr (Enc.ow_rd Bf) (m.a 6 z)),(Enc.rd_agr (Enc.ow_rd Ba) (m.a 7 z))⟩) (show rd _ _ [Da,Db] (Di:Plan) from ⟨_,_,_,_,z,z,(Enc.rd_agr (Enc.ow_rd Cm) (m.a 0 z)),(Enc.rd_agr (Enc.ow_rd Ca) (m.a 1 z))⟩) Cv) fun Fn e a k m=>?_)
 have s:=s.trans e (by simp)
 refine wpList_nil ⟨s,?_⟩
 refine dN [4] 1 z k (by kernel_rfl) z s (fun _ _ _ _ _=>id) fun a k=>d_done (by kernel_rfl) ?_
 have k:=k.keep [44] z
 refine (nm_then ?_)
 refine cI h k z (fun Cj h=>?_) fun Cj h=>?_
 · refine wr (pN 1 k z fun a k=>nn (wp_ret (rt_then ?_)))
   refine fS h k m z z
 refine wp_skip (nm_then ?_)
 refine wr (pN 1 k z fun a k=>nn (wp_ret (fS h k m z z)))

end Go.Proofs.YtkkfmjpbiimkbaaGreat
