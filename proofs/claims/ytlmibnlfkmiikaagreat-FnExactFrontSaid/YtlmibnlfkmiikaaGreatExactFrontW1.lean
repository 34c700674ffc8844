/- FnExactFront: the walks of functions that it reaches (ExactFrontW,part 1). Printed by gen.py. -/
import Derived.Test.YtlmibnlfkmiikaaGreatExactFrontBWi3
import Derived.Test.YtlmibnlfkmiikaaGreatExactFrontBWs3
import Derived.Test.YtlmibnlfkmiikaaGreatExactFrontBWl2
import Derived.Test.YtlmibnlfkmiikaaGreatExactFrontD
set_option maxRecDepth 20000
set_option linter.unusedSimpArgs false
set_option linter.unusedVariables false
namespace Go.Proofs.YtlmibnlfkmiikaaGreat
open Go Go.RowKit
open Enc (rd ow)
open Arg (argv)
open Ret (retv)
open Go.Proofs.Tryz

theorem ta52:TA Tryz.prog 52 10:=⟨Tryz.isAgg52,sizeOf52⟩
theorem ta69:TA Tryz.prog 69 2:=⟨Tryz.isAgg69,sizeOf69⟩
theorem c_laws_FnExactFront (fu:Nat) {w0:World} (Aa:Request) (Aj:Plan) {Fp:List Value} {F3:List Nat} (Nh:rd w0 F3 Fp Aa) {Gc:List Value} {F7:List Nat} (Lv:rd w0 F7 Gc Aj) {r:Bool}
    (h:d_laws_FnExactFront fu Aa Aj = some r) :
    Calls Tryz.prog 9 #[.agg Fp.toArray,.agg Gc.toArray] w0 fun e w=>e = .returned (.bool (r)) ∧ Ext [] w0 w:=by
 refine enter (vs:=[_,_]) func9 z ntmps9 z fun a k=>?_
 have m:=St.start w0
 obtain ⟨v9,Tq,Au,Sc,At,Uy,rfl,rfl,Ag,Ah,Ai⟩:=Nh
 obtain ⟨Al,Qq,Ak,Qm,rfl,rfl,Af,Ae⟩:=Lv
 unfold d_laws_FnExactFront at h
 refine wr (s_box (cs:=[I Aa.fWay,I Aa.fPallet.fW,I Aa.fPallet.fD,I Aa.fPallet.fH,I Aa.fPallet.fGram,I Aa.fClasses,v9,Au,I Aa.fMaster,At]) m k z z z z z z fun Cb Gi a k m e Bj=>s_box (cs:=[Al,Ak]) m k z z z z z z fun Cd Hy a k m e Bc=>pN 1 k z fun a k=>nn (wr (pN 1 k z fun a k=>nn (wr (sv k z (r_ldB ta52 m 1 Bj 0 k z z z z z z) fun a k=>pN 1 k z fun a k=>oE h fun Ve Pf h=>?_)))))
 refine cE k m call23 z z z (c_laws_szRequest fu _ _ (show rd _ _ [I Aa.fWay,I Aa.fPallet.fW,I Aa.fPallet.fD,I Aa.fPallet.fH,I Aa.fPallet.fGram,I Aa.fClasses,v9,Au,I Aa.fMaster,At] (Aa:Request) from ⟨_,_,_,_,_,_,z,z,(Enc.rd_agr Ag (m.a00 (Enc.rd_lt Ag))),(Enc.rd_agr Ah (m.a00 (Enc.rd_lt Ah))),(Enc.rd_agr Ai (m.a00 (Enc.rd_lt Ai)))⟩) Pf) fun Wp e a k m=>pN 1 k z fun a k=>nn (wp_seq (wr (pN 2 k z fun a k=>nn (cI h k z (fun Oi h=>?_) fun Oi h=>?_))))
 · refine wr (pN 1 k z fun a k=>nn (wp_ret (rt_then ?_)))
   refine fS h k m z z
 refine wp_skip (nm_then ?_)
 refine wr (sv k z (r_ldB ta69 m 0 Bc 0 k z z z z z z) fun a k=>pN 1 k z fun a k=>oE h fun Wh Pw h=>cE k m call38 z z z (c_laws_szPlan fu _ _ (show rd _ _ [Al,Ak] (Aj:Plan) from ⟨_,_,_,_,z,z,(Enc.rd_agr Af (m.a00 (Enc.rd_lt Af))),(Enc.rd_agr Ae (m.a00 (Enc.rd_lt Ae)))⟩) Pw) fun Qp e a k m=>pN 1 k z fun a k=>nn (wp_seq (wr (pN 2 k z fun a k=>nn (cI h k z (fun Pe h=>?_) fun Pe h=>?_)))))
 · refine wr (pN 1 k z fun a k=>nn (wp_ret (rt_then ?_)))
   refine fS h k m z z
 refine wp_skip (nm_then ?_)
 refine c_cut (fun a w=>∃ (Ap:List Carton) (Ax:Value) (Bd:List Nat) (Bg:World) (Ar:List Spot) (Ay:Value) (Bf:List Nat) (Bh:World) (Ao:Nat) (Az:World),K 92 [(2,.pointer (some (⟨Cb,0,none⟩:Addr))),(3,.pointer (some (⟨Cd,0,none⟩:Addr))),(6,.pointer (some (⟨Ao,0,none⟩:Addr)))] a ∧ St [] w0 w [([Cb],Gi),([Cd],Hy),(Bd,Bg),(Bf,Bh),([Ao],Az)] ∧ ow Bg Bd [Ax] Ap ∧ ow Bh Bf [Ay] Ar ∧ bx Az Ao [Ax,Ay] 74 ∧ d_laws_FnExactFront_J3 fu Aa Aj Ap Ar = some r) ?_ ?_
 · rintro a Rq ⟨Ap,Ax,Bd,Bg,Ar,Ay,Bf,Bh,Ao,Az,k,m,Dc,Dy,Dz,h⟩
   unfold d_laws_FnExactFront_J3 at h
   refine wr (sv k z (r_ldB ta52 m 0 Bj 0 k z z z z z z) fun a k=>oE h fun Ab Lq h=>s_call k call26 z z z z z (c_laws_toRequest fu _ (show rd _ _ [I Aa.fWay,I Aa.fPallet.fW,I Aa.fPallet.fD,I Aa.fPallet.fH,I Aa.fPallet.fGram,I Aa.fClasses,v9,Au,I Aa.fMaster,At] (Aa:Request) from ⟨_,_,_,_,_,_,z,z,(Enc.rd_agr Ag (m.a00 (Enc.rd_lt Ag))),(Enc.rd_agr Ah (m.a00 (Enc.rd_lt Ah))),(Enc.rd_agr Ai (m.a00 (Enc.rd_lt Ai)))⟩) Lq) fun Sv Ww hR=>?_)
   obtain ⟨Tr,Mo,rfl,e,Dv,Ke⟩:=hR
   refine ⟨_,z,fun a k=>?_⟩
   have m:=m.new e Mo (fun b hb=>⟨Ke b hb,Enc.rd_lt (Enc.ow_rd Dv) b hb⟩) (Enc.ow_nd Dv)
   obtain ⟨Bm,Lg,Bi,Kb,Bl,Me,rfl,rfl,Cc,Bo,Bq,_⟩:=Dv
   have m:=m.split2
   have m:=m.split2at1
   refine s_alloc (cs:=[I 0,I 0,I 0,I 0,I 0,I 0,.slice none 0 0,.slice none 0 0,I 0,.slice none 0 0]) m k zeroValue30 z z z z z fun Ux Rz a k m e Nv=>s_stb (cs':=[I Ab.fWay,I Ab.fPallet.fW,I Ab.fPallet.fD,I Ab.fPallet.fH,I Ab.fPallet.fGram,I Ab.fClasses,Bm,Bi,I Ab.fMaster,Bl]) sizeOf30 m 0 Nv 0 k z z z z z z z z z z (allc z (allc z (allc z (allc z (allc z (allc z (allc (rd_o (Enc.ow_rd Cc)) (allc (rd_o (Enc.ow_rd Bo)) (allc z (allc (rd_o (Enc.ow_rd Bq)) alln)))))))))) fun Uw a k e m Dg=>nn (wr (sv k z (r_ldB ta69 m 5 Bc 0 k z z z z z z) fun a k=>oE h fun Cj Ps h=>?_))
   refine s_call k call40 z z z z z (c_laws_toPlan fu _ (show rd _ _ [Al,Ak] (Aj:Plan) from ⟨_,_,_,_,z,z,(Enc.rd_agr Af (m.a00 (Enc.rd_lt Af))),(Enc.rd_agr Ae (m.a00 (Enc.rd_lt Ae)))⟩) Ps) fun Qr Td hR=>?_
   obtain ⟨Qn,Mp,rfl,e,Cf,Mg⟩:=hR
   refine ⟨_,z,fun a k=>?_⟩
   have m:=m.new e Mp (fun b hb=>⟨Mg b hb,Enc.rd_lt (Enc.ow_rd Cf) b hb⟩) (Enc.ow_nd Cf)
   obtain ⟨Ba,Qd,Bk,Jv,rfl,rfl,Br,Bp,_⟩:=Cf
   have m:=m.split2
   refine s_alloc (cs:=[.slice none 0 0,.slice none 0 0]) m k zeroValue74 z z z z z fun To Rn a k m e Jt=>s_stb (cs':=[Ba,Bk]) sizeOf74 m 0 Jt 0 k z z z z z z z z z z (allc (rd_o (Enc.ow_rd Br)) (allc (rd_o (Enc.ow_rd Bp)) alln)) fun Ti a k e m Du=>nn (wr (sv k z (r_ldB ta30 m 3 Dg 0 k z z z z z z) fun a k=>sv k z (r_ldB ta74 m 0 Du 0 k z z z z z z) fun a k=>oE h fun Bn Nx h=>?_))
   refine s_call k call46 z z z z z (c_impl_Front fu _ _ (show rd _ _ [I Ab.fWay,I Ab.fPallet.fW,I Ab.fPallet.fD,I Ab.fPallet.fH,I Ab.fPallet.fGram,I Ab.fClasses,Bm,Bi,I Ab.fMaster,Bl] (Ab:Request) from ⟨_,_,_,_,_,_,z,z,(Enc.rd_agr (Enc.ow_rd Cc) (m.a 4 z)),(Enc.rd_agr (Enc.ow_rd Bo) (m.a 5 z)),(Enc.rd_agr (Enc.ow_rd Bq) (m.a 6 z))⟩) (show rd _ _ [Ba,Bk] (Cj:Plan) from ⟨_,_,_,_,z,z,(Enc.rd_agr (Enc.ow_rd Br) (m.a 1 z)),(Enc.rd_agr (Enc.ow_rd Bp) (m.a 2 z))⟩) Nx) fun Tt Ge hR=>?_
   obtain ⟨Vd,Lo,rfl,e,Dm,Qb⟩:=hR
   refine ⟨_,z,fun a k=>?_⟩
   have m:=m.new e Lo (fun b hb=>⟨Qb b hb,Enc.rd_lt (Enc.ow_rd Dm) b hb⟩) (Enc.ow_nd Dm)
   obtain ⟨Aw,Fl,Av,Hx,rfl,rfl,Bx,Bv,_⟩:=Dm
   have m:=m.split2
   refine s_alloc (cs:=[.slice none 0 0,.slice none 0 0]) m k zeroValue74 z z z z z fun Ca Wg a k m e Mf=>s_stb (cs':=[Aw,Av]) sizeOf74 m 0 Mf 0 k z z z z z z z z z z (allc (rd_o (Enc.ow_rd Bx)) (allc (rd_o (Enc.ow_rd Bv)) alln)) fun Gf a k e m Bb=>nn (wp_seq (wr (sv k z (r_ldB ta74 m 0 Bb 0 k z z z z z z) fun a k=>sv k z (r_ldB ta74 m 14 Dz 0 k z z z z z z) fun a k=>oE h fun Tp Kd h=>?_)))
   refine cE k m call42 z z z (c_laws_eqPlan fu _ _ (show rd _ _ [Aw,Av] (Bn:Plan) from ⟨_,_,_,_,z,z,(Enc.rd_agr (Enc.ow_rd Bx) (m.a 1 z)),(Enc.rd_agr (Enc.ow_rd Bv) (m.a 2 z))⟩) (show rd _ _ [Ax,Ay] ((⟨Ap,Ar⟩:Plan):Plan) from ⟨_,_,_,_,z,z,(Enc.rd_agr (Enc.ow_rd Dc) (m.a 12 z)),(Enc.rd_agr (Enc.ow_rd Dy) (m.a 13 z))⟩) Kd) fun Sz e a k m=>pN 1 k z fun a k=>nn (cI h k z (fun Mj h=>?_) fun Mj h=>?_)
   · refine wr (pN 1 k z fun a k=>nn (wp_ret (rt_then ?_)))
     refine fS h k m z z
   refine wp_skip (nm_then ?_)
   refine wp_seq (wp_seq (d_go [] mixo m z fun Js hMd=>?_))
   have m:=hMd
   have s:=Ext.refl ([]:List Nat) Js
   refine dt k 0 z (by kernel_rfl) z s (fun _ _ _=>id) (fun w s=>r_ldA ta30 (Dg.at ((hMd.step s).a 6 z) 0 10 z z z) z k z z) fun a k=>dt k 1 z (by kernel_rfl) z s (fun _ _ _=>id) (fun w s=>r_ldA ta52 (Bj.at ((hMd.step s).a 10 z) 0 10 z z z) z k z z) fun a k=>d_one 2 (by kernel_rfl) z (oE h fun As Jp h=>s_call k call26 z z z z z (c_laws_toRequest fu _ (show rd _ _ [I Aa.fWay,I Aa.fPallet.fW,I Aa.fPallet.fD,I Aa.fPallet.fH,I Aa.fPallet.fGram,I Aa.fClasses,v9,Au,I Aa.fMaster,At] (Aa:Request) from ⟨_,_,_,_,_,_,z,z,(Enc.rd_agr Ag (m.a00 (Enc.rd_lt Ag))),(Enc.rd_agr Ah (m.a00 (Enc.rd_lt Ah))),(Enc.rd_agr Ai (m.a00 (Enc.rd_lt Ai)))⟩) Jp) fun Sh So hR=>?_)
   obtain ⟨Sw,Ic,rfl,e,Ck,Ha⟩:=hR
   refine ⟨_,z,fun a k=>?_⟩
   have m:=m.new e Ic (fun b hb=>⟨Ha b hb,Enc.rd_lt (Enc.ow_rd Ck) b hb⟩) (Enc.ow_nd Ck)
   have Vt:=fun (y:Nat) (hy:y ∈ Ic)=>Nat.le_trans s.size (Ha y hy)
   obtain ⟨Qg,Rl,Jm,Uv,Oh,Vy,rfl,rfl,Oe,Pz,Pt,_⟩:=Ck
   have m:=m.split2
   have m:=m.split2at1
   have s:=s.trans e (by simp)
   refine wpList_nil ⟨s,?_⟩
   refine d_one 3 (by kernel_rfl) z (oE h fun Ql Nz h=>?_)
   refine cE k m call30 z z z (c_laws_eqRequest fu _ _ (show rd _ _ [I Ab.fWay,I Ab.fPallet.fW,I Ab.fPallet.fD,I Ab.fPallet.fH,I Ab.fPallet.fGram,I Ab.fClasses,Bm,Bi,I Ab.fMaster,Bl] (Ab:Request) from ⟨_,_,_,_,_,_,z,z,(Enc.rd_agr (Enc.ow_rd Cc) (m.a 10 z)),(Enc.rd_agr (Enc.ow_rd Bo) (m.a 11 z)),(Enc.rd_agr (Enc.ow_rd Bq) (m.a 12 z))⟩) (show rd _ _ [I As.fWay,I As.fPallet.fW,I As.fPallet.fD,I As.fPallet.fH,I As.fPallet.fGram,I As.fClasses,Qg,Jm,I As.fMaster,Oh] (As:Request) from ⟨_,_,_,_,_,_,z,z,(Enc.rd_agr (Enc.ow_rd Oe) (m.a 0 z)),(Enc.rd_agr (Enc.ow_rd Pz) (m.a 1 z)),(Enc.rd_agr (Enc.ow_rd Pt) (m.a 2 z))⟩) Nz) fun Sf e a k m=>?_
   have s:=s.trans e (by simp)
   refine wpList_nil ⟨s,?_⟩
   refine dN [4] 1 z k (by kernel_rfl) z s (fun _ _ _ _ _=>id) fun a k=>d_done (by kernel_rfl) ((nm_then ?_))
   refine cI h k z (fun Pp h=>?_) fun Pp h=>?_
   · refine wr (pN 1 k z fun a k=>nn (wp_ret (rt_then ?_)))
     refine fS h k m z z
   refine wp_skip (nm_then ?_)
   refine wp_seq (wp_seq (d_go [] mixo m z fun Ou hMd=>?_))
   have m:=hMd
   have s:=Ext.refl ([]:List Nat) Ou
   refine dt k 0 z (by kernel_rfl) z s (fun _ _ _=>id) (fun w s=>r_ldA ta74 (Du.at ((hMd.step s).a 6 z) 0 2 z z z) z k z z) fun a k=>dt k 1 z (by kernel_rfl) z s (fun _ _ _=>id) (fun w s=>r_ldA ta69 (Bc.at ((hMd.step s).a 14 z) 0 2 z z z) z k z z) fun a k=>d_one 2 (by kernel_rfl) z (oE h fun Pc Mk h=>s_call k call40 z z z z z (c_laws_toPlan fu _ (show rd _ _ [Al,Ak] (Aj:Plan) from ⟨_,_,_,_,z,z,(Enc.rd_agr Af (m.a00 (Enc.rd_lt Af))),(Enc.rd_agr Ae (m.a00 (Enc.rd_lt Ae)))⟩) Mk) fun Sr Se hR=>?_)
   obtain ⟨Vb,Ef,rfl,e,Ds,Fg⟩:=hR
   refine ⟨_,z,fun a k=>?_⟩
   have m:=m.new e Ef (fun b hb=>⟨Fg b hb,Enc.rd_lt (Enc.ow_rd Ds) b hb⟩) (Enc.ow_nd Ds)
   have Qx:=fun (y:Nat) (hy:y ∈ Ef)=>Nat.le_trans s.size (Fg y hy)
   obtain ⟨Lu,Rc,Ki,Vn,rfl,rfl,Pu,Lm,_⟩:=Ds
   have m:=m.split2
   have s:=s.trans e (by simp)
   refine wpList_nil ⟨s,?_⟩
   refine d_one 3 (by kernel_rfl) z (oE h fun Su My h=>cE k m call42 z z z (c_laws_eqPlan fu _ _ (show rd _ _ [Ba,Bk] (Cj:Plan) from ⟨_,_,_,_,z,z,(Enc.rd_agr (Enc.ow_rd Br) (m.a 9 z)),(Enc.rd_agr (Enc.ow_rd Bp) (m.a 10 z))⟩) (show rd _ _ [Lu,Ki] (Pc:Plan) from ⟨_,_,_,_,z,z,(Enc.rd_agr (Enc.ow_rd Pu) (m.a 0 z)),(Enc.rd_agr (Enc.ow_rd Lm) (m.a 1 z))⟩) My) fun Tw e a k m=>?_)
   have s:=s.trans e (by simp)
   refine wpList_nil ⟨s,?_⟩
   refine dN [4] 1 z k (by kernel_rfl) z s (fun _ _ _ _ _=>id) fun a k=>d_done (by kernel_rfl) ?_
   have k:=k.keep [2,3,6,7,8,9,49] z
   refine (nm_then ?_)
   refine cI h k z (fun Mi h=>?_) fun Mi h=>?_
   · refine wr (pN 1 k z fun a k=>nn (wp_ret (rt_then ?_)))
     refine fS h k m z z
   refine wp_skip (nm_then ?_)
   refine wr (pN 1 k z fun a k=>nn (wr (sv k z (r_ldB ta30 m 11 Dg 0 k z z z z z z) fun a k=>pN 1 k z fun a k=>?_)))
   have Jg:ow _ (Lg ++ (Kb ++ (Me))) [I Ab.fWay,I Ab.fPallet.fW,I Ab.fPallet.fD,I Ab.fPallet.fH,I Ab.fPallet.fGram,I Ab.fClasses,Bm,Bi,I Ab.fMaster,Bl] (Ab:Request):=⟨_,_,_,_,_,_,z,z,(Enc.ow_agr Cc (m.a 12 z)),(Enc.ow_agr Bo (m.a 13 z)),(Enc.ow_agr Bq (m.a 14 z)),by simpa [fps] using (m.sel [12,13,14] z (by decide)).nd⟩
   have m:=m.sel [12,13,14,0,1,2,3,4,5,6,7,8,9,10,11,15,16,17,18,19] z (by decide)
   have m:=m.join3
   refine oE h fun We Qf h=>s_call k call31 z z z z z (c_laws_markRequest fu _ _ Jg Qf) fun Qs Tx hR=>?_
   obtain ⟨Vo,rfl,e,Je,Db⟩:=hR
   refine ⟨_,z,fun a k=>?_⟩
   have m:=m.mut 0 z e _ (fun b hb=>⟨Je b hb,Enc.rd_lt (Enc.ow_rd Db) b hb⟩) (Enc.ow_nd Db)
   obtain ⟨Nb,Rt,Nn,Sa,Pq,Tc,Da,rfl,Vr,Vm,Ui,_⟩:=Db
   have m:=m.toFront 0 z
   have m:=m.split2
   have m:=m.split2at1
   have Ix:Bm = Nb:=by have:=congrArg (fun l:List Value=>l[6]?) Da; simpa using this
   subst Ix
   have Ng:Bi = Nn:=by have:=congrArg (fun l:List Value=>l[7]?) Da; simpa using this
   subst Ng
   have Io:Bl = Pq:=by have:=congrArg (fun l:List Value=>l[9]?) Da; simpa using this
   subst Io
   refine pN 1 k z fun a k=>nn (wr (sv k z (r_ldB ta74 m 11 Du 0 k z z z z z z) fun a k=>pN 1 k z fun a k=>?_))
   have Ow:ow _ (Qd ++ (Jv)) [Ba,Bk] (Cj:Plan):=⟨_,_,_,_,z,z,(Enc.ow_agr Br (m.a 12 z)),(Enc.ow_agr Bp (m.a 13 z)),by simpa [fps] using (m.sel [12,13] z (by decide)).nd⟩
   have m:=m.sel [12,13,0,1,2,3,4,5,6,7,8,9,10,11,14,15,16,17,18,19] z (by decide)
   have m:=m.join2
   refine oE h fun La Ln h=>s_call k call47 z z z z z (c_laws_markPlan fu _ _ Ow Ln) fun Ut Vx hR=>?_
   obtain ⟨Sp,rfl,e,Oz,Cg⟩:=hR
   refine ⟨_,z,fun a k=>?_⟩
   have m:=m.mut 0 z e _ (fun b hb=>⟨Oz b hb,Enc.rd_lt (Enc.ow_rd Cg) b hb⟩) (Enc.ow_nd Cg)
   obtain ⟨Pv,Qw,Pl,Th,Ez,rfl,Vc,Vp,_⟩:=Cg
   have m:=m.toFront 0 z
   have m:=m.split2
   have Mt:Ba = Pv:=by have:=congrArg (fun l:List Value=>l[0]?) Ez; simpa using this
   subst Mt
   have Iq:Bk = Pl:=by have:=congrArg (fun l:List Value=>l[1]?) Ez; simpa using this
   subst Iq
   refine pN 1 k z fun a k=>nn (c_cut (fun a w=>K 92 [(2,.pointer (some (⟨Cb,0,none⟩:Addr))),(3,.pointer (some (⟨Cd,0,none⟩:Addr))),(6,.pointer (some (⟨Ao,0,none⟩:Addr))),(9,.pointer (some (⟨Ca,0,none⟩:Addr)))] a ∧ St [] w0 w [([Cb],Gi),([Cd],Hy),([Ao],Az),([Ca],Gf),(Bd,Bg),(Bf,Bh),(Fl,Ge),(Hx,Ge)] ∧ d_laws_FnExactFront_J2 fu Aa Aj Ap Ar Bn = some r) ?_ ?_)
   · rintro a Qv ⟨k,m,h⟩
     unfold d_laws_FnExactFront_J2 at h
     refine wr (pN 1 k z fun a k=>nn (wr (sv k z (r_ldB ta74 m 3 Bb 0 k z z z z z z) fun a k=>pN 1 k z fun a k=>?_)))
     have Jy:ow _ (Fl ++ (Hx)) [Aw,Av] (Bn:Plan):=⟨_,_,_,_,z,z,(Enc.ow_agr Bx (m.a 6 z)),(Enc.ow_agr Bv (m.a 7 z)),by simpa [fps] using (m.sel [6,7] z (by decide)).nd⟩
     have m:=m.sel [6,7,0,1,2,3,4,5] z (by decide)
     have m:=m.join2
     refine oE h fun Bz Mv h=>s_call k call47 z z z z z (c_laws_markPlan fu _ _ Jy Mv) fun Re He hR=>?_
     obtain ⟨Ro,rfl,e,Mq,Do⟩:=hR
     refine ⟨_,z,fun a k=>?_⟩
     have m:=m.mut 0 z e _ (fun b hb=>⟨Mq b hb,Enc.rd_lt (Enc.ow_rd Do) b hb⟩) (Enc.ow_nd Do)
     obtain ⟨Ob,Mw,Ku,Pa,Eg,rfl,Ft,Gu,_⟩:=Do
     have m:=m.toFront 0 z
     have m:=m.split2
     have Nm:Aw = Ob:=by have:=congrArg (fun l:List Value=>l[0]?) Eg; simpa using this
     subst Nm
     have Ma:Av = Ku:=by have:=congrArg (fun l:List Value=>l[1]?) Eg; simpa using this
     subst Ma
     refine pN 1 k z fun a k=>nn (wr (pN 1 k z fun a k=>nn (wr (sv k z (r_ldB ta74 m 5 Bb 0 k z z z z z z) fun a k=>pN 1 k z fun a k=>oE h fun Sq Iz h=>cE k m call48 z z z (c_laws_heldPlan fu _ _ (show rd _ _ [Aw,Av] (Bz.2:Plan) from ⟨_,_,_,_,z,z,(Enc.rd_agr (Enc.ow_rd Ft) (m.a 0 z)),(Enc.rd_agr (Enc.ow_rd Gu) (m.a 1 z))⟩) Iz) fun Rr e a k m=>pN 1 k z fun a k=>nn (wp_seq (wr (pN 2 k z fun a k=>nn (cI h k z (fun Ly h=>?_) fun Ly h=>?_))))))))
     · refine wr (pN 1 k z fun a k=>nn (wp_ret (rt_then ?_)))
       refine fS h k m z z
     refine wp_skip (nm_then ?_)
     refine wp_seq (wr (pN 3 k z fun a k=>nn (cI h k z (fun Jd h=>?_) fun Jd h=>?_)))
     · refine wr (pN 1 k z fun a k=>nn (wp_ret (rt_then ?_)))
       refine fS h k m z z
     refine wp_skip (nm_then ?_)
     refine c_cut (fun a w=>∃ (Bu:List Carton) (Bw:Value) (Dq:List Nat) (Dk:World) (Bt:List Spot) (Bs:Value) (Cv:List Nat) (Cn:World) (By:Nat) (Di:World),K 92 [(6,.pointer (some (⟨Ao,0,none⟩:Addr))),(9,.pointer (some (⟨Ca,0,none⟩:Addr))),(11,I Bz.1),(13,.pointer (some (⟨By,0,none⟩:Addr)))] a ∧ St [] w0 w [([Ao],Az),([Ca],Gf),(Bd,Bg),(Bf,Bh),(Mw,He),(Pa,He),(Dq,Dk),(Cv,Cn),([By],Di)] ∧ ow Dk Dq [Bw] Bu ∧ ow Cn Cv [Bs] Bt ∧ bx Di By [Bw,Bs] 74 ∧ d_laws_FnExactFront_J1 fu Ap Ar Bz Bu Bt = some r) ?_ ?_
     · rintro a Wn ⟨Bu,Bw,Dq,Dk,Bt,Bs,Cv,Cn,By,Di,k,m,Jw,Jn,Kt,h⟩
       unfold d_laws_FnExactFront_J1 at h
       refine wp_seq (wr (sv k z (r_ldB ta74 m 8 Kt 0 k z z z z z z) fun a k=>sv k z (r_ldB ta74 m 0 Dz 0 k z z z z z z) fun a k=>oE h fun Uh Nl h=>cE k m call42 z z z (c_laws_eqPlan fu _ _ (show rd _ _ [Bw,Bs] ((⟨Bu,Bt⟩:Plan):Plan) from ⟨_,_,_,_,z,z,(Enc.rd_agr (Enc.ow_rd Jw) (m.a 6 z)),(Enc.rd_agr (Enc.ow_rd Jn) (m.a 7 z))⟩) (show rd _ _ [Ax,Ay] ((⟨Ap,Ar⟩:Plan):Plan) from ⟨_,_,_,_,z,z,(Enc.rd_agr (Enc.ow_rd Dc) (m.a 2 z)),(Enc.rd_agr (Enc.ow_rd Dy) (m.a 3 z))⟩) Nl) fun Ul e a k m=>pN 1 k z fun a k=>nn (cI h k z (fun Mc h=>?_) fun Mc h=>?_)))
       · refine wr (pN 1 k z fun a k=>nn (wp_ret (rt_then ?_)))
         refine fS h k m z z
       refine wp_skip (nm_then ?_)
       refine wr (pN 1 k z fun a k=>nn (wr (sv k z (r_ldB ta74 m 1 Bb 0 k z z z z z z) fun a k=>pN 1 k z fun a k=>oE h fun Wm Kr h=>cE k m call48 z z z (c_laws_heldPlan fu _ _ (show rd _ _ [Aw,Av] (Bz.2:Plan) from ⟨_,_,_,_,z,z,(Enc.rd_agr (Enc.ow_rd Ft) (m.a 4 z)),(Enc.rd_agr (Enc.ow_rd Gu) (m.a 5 z))⟩) Kr) fun Wc e a k m=>pN 1 k z fun a k=>nn (wp_seq (wr (pN 2 k z fun a k=>nn (cI h k z (fun Oq h=>?_) fun Oq h=>?_)))))))
       · refine wr (pN 1 k z fun a k=>nn (wp_ret (rt_then ?_)))
         refine fS h k m z z
       refine wp_skip (nm_then ?_)
       refine wp_seq (wr (pN 3 k z fun a k=>nn (cI h k z (fun Nf h=>?_) fun Nf h=>?_)))
       · refine wr (pN 1 k z fun a k=>nn (wp_ret (rt_then ?_)))
         refine fS h k m z z
       refine wp_skip (nm_then ?_)
       refine wr (pN 1 k z fun a k=>nn (wp_ret (fS h k m z z)))
     refine d_go [] mixo m z fun Kc hMd=>?_
     have m:=hMd
     have s:=Ext.refl ([]:List Nat) Kc
     refine dt k 0 z (by kernel_rfl) z s (fun _ _ _=>id) (fun w s=>r_ldA ta52 (Bj.at ((hMd.step s).a 2 z) 0 10 z z z) z k z z) fun a k=>dt k 2 z (by kernel_rfl) z s (fun _ _ _=>id) (fun w s=>r_ldA ta69 (Bc.at ((hMd.step s).a 3 z) 0 2 z z z) z k z z) fun a k=>d_two 1 5 (by kernel_rfl) z z ?_ ?_ 
     · refine oE h fun Ac Py h=>s_call k call26 z z z z z (c_laws_toRequest fu _ (show rd _ _ [I Aa.fWay,I Aa.fPallet.fW,I Aa.fPallet.fD,I Aa.fPallet.fH,I Aa.fPallet.fGram,I Aa.fClasses,v9,Au,I Aa.fMaster,At] (Aa:Request) from ⟨_,_,_,_,_,_,z,z,(Enc.rd_agr Ag (m.a00 (Enc.rd_lt Ag))),(Enc.rd_agr Ah (m.a00 (Enc.rd_lt Ah))),(Enc.rd_agr Ai (m.a00 (Enc.rd_lt Ai)))⟩) Py) fun Ua Ra hR=>?_
       obtain ⟨Qo,Ij,rfl,e,Co,Fn⟩:=hR
       refine ⟨_,z,fun a k=>?_⟩
       have m:=m.new e Ij (fun b hb=>⟨Fn b hb,Enc.rd_lt (Enc.ow_rd Co) b hb⟩) (Enc.ow_nd Co)
       have Wb:=fun (y:Nat) (hy:y ∈ Ij)=>Nat.le_trans s.size (Fn y hy)
       obtain ⟨Ea,Ss,Cr,Ug,Dx,Vh,rfl,rfl,Dl,Cu,Eb,_⟩:=Co
       have m:=m.split2
       have m:=m.split2at1
       have s:=s.trans e (by simp)
       refine wpList_nil ⟨s,?_⟩
       refine d_two 3 5 (by kernel_rfl) z z ?_ ?_ 
       · refine oE h fun En Nw h=>s_call k call40 z z z z z (c_laws_toPlan fu _ (show rd _ _ [Al,Ak] (Aj:Plan) from ⟨_,_,_,_,z,z,(Enc.rd_agr Af (m.a00 (Enc.rd_lt Af))),(Enc.rd_agr Ae (m.a00 (Enc.rd_lt Ae)))⟩) Nw) fun Uo Rb hR=>?_
         obtain ⟨Vu,Hr,rfl,e,Dn,Gx⟩:=hR
         refine ⟨_,z,fun a k=>?_⟩
         have m:=m.new e Hr (fun b hb=>⟨Gx b hb,Enc.rd_lt (Enc.ow_rd Dn) b hb⟩) (Enc.ow_nd Dn)
         have Sk:=fun (y:Nat) (hy:y ∈ Hr)=>Nat.le_trans s.size (Gx y hy)
         obtain ⟨Fo,Vz,Ec,Ts,rfl,rfl,Hg,Ep,_⟩:=Dn
         have m:=m.split2
         have s:=s.trans e (by simp)
         refine wpList_nil ⟨s,?_⟩
         refine d_two 4 5 (by kernel_rfl) z z ?_ ?_ 
         · refine oE h fun Fs Pk h=>s_call k call46 z z z z z (c_impl_Front fu _ _ (show rd _ _ [I Ac.fWay,I Ac.fPallet.fW,I Ac.fPallet.fD,I Ac.fPallet.fH,I Ac.fPallet.fGram,I Ac.fClasses,Ea,Cr,I Ac.fMaster,Dx] (Ac:Request) from ⟨_,_,_,_,_,_,z,z,(Enc.rd_agr (Enc.ow_rd Dl) (m.a 2 z)),(Enc.rd_agr (Enc.ow_rd Cu) (m.a 3 z)),(Enc.rd_agr (Enc.ow_rd Eb) (m.a 4 z))⟩) (show rd _ _ [Fo,Ec] (En:Plan) from ⟨_,_,_,_,z,z,(Enc.rd_agr (Enc.ow_rd Hg) (m.a 0 z)),(Enc.rd_agr (Enc.ow_rd Ep) (m.a 1 z))⟩) Pk) fun Ry Em hR=>?_
           obtain ⟨Uu,Ih,rfl,e,Ch,Gm⟩:=hR
           refine ⟨_,z,fun a k=>?_⟩
           have m:=m.new e Ih (fun b hb=>⟨Gm b hb,Enc.rd_lt (Enc.ow_rd Ch) b hb⟩) (Enc.ow_nd Ch)
           have Tj:=fun (y:Nat) (hy:y ∈ Ih)=>Nat.le_trans s.size (Gm y hy)
           obtain ⟨Gj,Mb,Hu,Po,rfl,rfl,If,Gw,_⟩:=Ch
           have m:=m.split2
           have s:=s.trans e (by simp)
           refine wpList_nil ⟨s,?_⟩
           refine d_one 5 (by kernel_rfl) z (s_allocN (cs:=[.slice none 0 0,.slice none 0 0]) m k zeroValue74 z z z z z fun Nk Un a k m e Qe Kw=>?_)
           have Mx:=lo1 (Nat.le_trans s.size Kw)
           have s:=s.trans e (by simp)
           refine wpList_nil ⟨s,?_⟩
           refine d_one 6 (by kernel_rfl) z (s_stb (cs':=[Gj,Hu]) sizeOf74 m 0 Qe 0 k z z z z z z z z z z (allc (rd_o (Enc.ow_rd If)) (allc (rd_o (Enc.ow_rd Gw)) alln)) fun No a k e m Ls=>?_)
           have s:=s.trans e (fun y hy=>Or.inr (Mx y hy))
           refine wpList_nil ⟨s,?_⟩
           refine d_done (by kernel_rfl) ((nm_then ?_))
           exact ⟨Fs.fCartons,Gj,Mb,Em,Fs.fSpots,Hu,Po,Em,Nk,No,k.keep [6,9,11,13] z,m.sel [12,13,14,15,8,9,1,2,0] z (by decide),If,Gw,Ls,h⟩
         refine s_allocN (cs:=[.slice none 0 0,.slice none 0 0]) m k zeroValue74 z z z z z fun Nd Rg a k m e Ka Oc=>?_
         have Np:=lo1 (Nat.le_trans s.size Oc)
         have s:=s.trans e (by simp)
         refine wpList_nil ⟨s,?_⟩
         refine d_one 4 (by kernel_rfl) z (oE h fun Gz Jk h=>s_call k call46 z z z z z (c_impl_Front fu _ _ (show rd _ _ [I Ac.fWay,I Ac.fPallet.fW,I Ac.fPallet.fD,I Ac.fPallet.fH,I Ac.fPallet.fGram,I Ac.fClasses,Ea,Cr,I Ac.fMaster,Dx] (Ac:Request) from ⟨_,_,_,_,_,_,z,z,(Enc.rd_agr (Enc.ow_rd Dl) (m.a 3 z)),(Enc.rd_agr (Enc.ow_rd Cu) (m.a 4 z)),(Enc.rd_agr (Enc.ow_rd Eb) (m.a 5 z))⟩) (show rd _ _ [Fo,Ec] (En:Plan) from ⟨_,_,_,_,z,z,(Enc.rd_agr (Enc.ow_rd Hg) (m.a 1 z)),(Enc.rd_agr (Enc.ow_rd Ep) (m.a 2 z))⟩) Jk) fun Uz Gv hR=>?_)
         obtain ⟨Rk,Es,rfl,e,Ci,Fr⟩:=hR
         refine ⟨_,z,fun a k=>?_⟩
         have m:=m.new e Es (fun b hb=>⟨Fr b hb,Enc.rd_lt (Enc.ow_rd Ci) b hb⟩) (Enc.ow_nd Ci)
         have Ta:=fun (y:Nat) (hy:y ∈ Es)=>Nat.le_trans s.size (Fr y hy)
         obtain ⟨Fk,Nq,Eu,Oo,rfl,rfl,Fv,Ho,_⟩:=Ci
         have m:=m.split2
         have s:=s.trans e (by simp)
         refine wpList_nil ⟨s,?_⟩
         refine d_one 6 (by kernel_rfl) z (s_stb (cs':=[Fk,Eu]) sizeOf74 m 2 Ka 0 k z z z z z z z z z z (allc (rd_o (Enc.ow_rd Fv)) (allc (rd_o (Enc.ow_rd Ho)) alln)) fun Ph a k e m Md=>?_)
         have s:=s.trans e (fun y hy=>Or.inr (Np y hy))
         refine wpList_nil ⟨s,?_⟩
         refine d_done (by kernel_rfl) ((nm_then ?_))
         exact ⟨Gz.fCartons,Fk,Nq,Gv,Gz.fSpots,Eu,Oo,Gv,Nd,Ph,k.keep [6,9,11,13] z,m.sel [12,13,14,15,8,9,0,1,2] z (by decide),Fv,Ho,Md,h⟩
       refine s_allocN (cs:=[.slice none 0 0,.slice none 0 0]) m k zeroValue74 z z z z z fun Ji Uc a k m e Iv Ko=>?_
       have Pm:=lo1 (Nat.le_trans s.size Ko)
       have s:=s.trans e (by simp)
       refine wpList_nil ⟨s,?_⟩
       refine d_one 3 (by kernel_rfl) z (oE h fun Nj Lz h=>s_call k call40 z z z z z (c_laws_toPlan fu _ (show rd _ _ [Al,Ak] (Aj:Plan) from ⟨_,_,_,_,z,z,(Enc.rd_agr Af (m.a00 (Enc.rd_lt Af))),(Enc.rd_agr Ae (m.a00 (Enc.rd_lt Ae)))⟩) Lz) fun Qk Uq hR=>?_)
       obtain ⟨Tg,Gp,rfl,e,Dr,Ed⟩:=hR
       refine ⟨_,z,fun a k=>?_⟩
       have m:=m.new e Gp (fun b hb=>⟨Ed b hb,Enc.rd_lt (Enc.ow_rd Dr) b hb⟩) (Enc.ow_nd Dr)
       have Rh:=fun (y:Nat) (hy:y ∈ Gp)=>Nat.le_trans s.size (Ed y hy)
       obtain ⟨Jq,Vf,Kf,Tb,rfl,rfl,Lr,Jj,_⟩:=Dr
       have m:=m.split2
       have s:=s.trans e (by simp)
       refine wpList_nil ⟨s,?_⟩
       refine d_one 4 (by kernel_rfl) z (oE h fun Gt Pd h=>s_call k call46 z z z z z (c_impl_Front fu _ _ (show rd _ _ [I Ac.fWay,I Ac.fPallet.fW,I Ac.fPallet.fD,I Ac.fPallet.fH,I Ac.fPallet.fGram,I Ac.fClasses,Ea,Cr,I Ac.fMaster,Dx] (Ac:Request) from ⟨_,_,_,_,_,_,z,z,(Enc.rd_agr (Enc.ow_rd Dl) (m.a 3 z)),(Enc.rd_agr (Enc.ow_rd Cu) (m.a 4 z)),(Enc.rd_agr (Enc.ow_rd Eb) (m.a 5 z))⟩) (show rd _ _ [Jq,Kf] (Nj:Plan) from ⟨_,_,_,_,z,z,(Enc.rd_agr (Enc.ow_rd Lr) (m.a 0 z)),(Enc.rd_agr (Enc.ow_rd Jj) (m.a 1 z))⟩) Pd) fun Vi Hz hR=>?_)
       obtain ⟨Wr,Hw,rfl,e,Cl,Eh⟩:=hR
       refine ⟨_,z,fun a k=>?_⟩
       have m:=m.new e Hw (fun b hb=>⟨Eh b hb,Enc.rd_lt (Enc.ow_rd Cl) b hb⟩) (Enc.ow_nd Cl)
       have Ub:=fun (y:Nat) (hy:y ∈ Hw)=>Nat.le_trans s.size (Eh y hy)
       obtain ⟨Fa,Pi,Ee,Ok,rfl,rfl,Fq,Ff,_⟩:=Cl
       have m:=m.split2
       have s:=s.trans e (by simp)
       refine wpList_nil ⟨s,?_⟩
       refine d_one 6 (by kernel_rfl) z (s_stb (cs':=[Fa,Ee]) sizeOf74 m 4 Iv 0 k z z z z z z z z z z (allc (rd_o (Enc.ow_rd Fq)) (allc (rd_o (Enc.ow_rd Ff)) alln)) fun Lt a k e m Nr=>?_)
       have s:=s.trans e (fun y hy=>Or.inr (Pm y hy))
       refine wpList_nil ⟨s,?_⟩
       refine d_done (by kernel_rfl) ((nm_then ?_))
       exact ⟨Gt.fCartons,Fa,Pi,Hz,Gt.fSpots,Ee,Ok,Hz,Ji,Lt,k.keep [6,9,11,13] z,m.sel [12,13,14,15,8,9,0,1,4] z (by decide),Fq,Ff,Nr,h⟩
     refine s_allocN (cs:=[.slice none 0 0,.slice none 0 0]) m k zeroValue74 z z z z z fun Qc Vq a k m e Mh Kj=>?_
     have Jc:=lo1 (Nat.le_trans s.size Kj)
     have s:=s.trans e (by simp)
     refine wpList_nil ⟨s,?_⟩
     refine d_one 1 (by kernel_rfl) z (oE h fun Am Lp h=>s_call k call26 z z z z z (c_laws_toRequest fu _ (show rd _ _ [I Aa.fWay,I Aa.fPallet.fW,I Aa.fPallet.fD,I Aa.fPallet.fH,I Aa.fPallet.fGram,I Aa.fClasses,v9,Au,I Aa.fMaster,At] (Aa:Request) from ⟨_,_,_,_,_,_,z,z,(Enc.rd_agr Ag (m.a00 (Enc.rd_lt Ag))),(Enc.rd_agr Ah (m.a00 (Enc.rd_lt Ah))),(Enc.rd_agr Ai (m.a00 (Enc.rd_lt Ai)))⟩) Lp) fun Vg Ru hR=>?_)
     obtain ⟨Vl,Hl,rfl,e,Dt,Hi⟩:=hR
     refine ⟨_,z,fun a k=>?_⟩
     have m:=m.new e Hl (fun b hb=>⟨Hi b hb,Enc.rd_lt (Enc.ow_rd Dt) b hb⟩) (Enc.ow_nd Dt)
     have Up:=fun (y:Nat) (hy:y ∈ Hl)=>Nat.le_trans s.size (Hi y hy)
     obtain ⟨Od,Ri,Ll,Tn,Kp,Ue,rfl,rfl,Lw,Lh,Kk,_⟩:=Dt
     have m:=m.split2
     have m:=m.split2at1
     have s:=s.trans e (by simp)
     refine wpList_nil ⟨s,?_⟩
     refine d_one 3 (by kernel_rfl) z (oE h fun Px Pb h=>s_call k call40 z z z z z (c_laws_toPlan fu _ (show rd _ _ [Al,Ak] (Aj:Plan) from ⟨_,_,_,_,z,z,(Enc.rd_agr Af (m.a00 (Enc.rd_lt Af))),(Enc.rd_agr Ae (m.a00 (Enc.rd_lt Ae)))⟩) Pb) fun Uj Wo hR=>?_)
     obtain ⟨Us,Ej,rfl,e,Dh,Hd⟩:=hR
     refine ⟨_,z,fun a k=>?_⟩
     have m:=m.new e Ej (fun b hb=>⟨Hd b hb,Enc.rd_lt (Enc.ow_rd Dh) b hb⟩) (Enc.ow_nd Dh)
     have Wx:=fun (y:Nat) (hy:y ∈ Ej)=>Nat.le_trans s.size (Hd y hy)
     obtain ⟨Kl,Wl,Iw,Rp,rfl,rfl,Jx,Ml,_⟩:=Dh
     have m:=m.split2
     have s:=s.trans e (by simp)
     refine wpList_nil ⟨s,?_⟩
     refine d_one 4 (by kernel_rfl) z (oE h fun Fi Ks h=>s_call k call46 z z z z z (c_impl_Front fu _ _ (show rd _ _ [I Am.fWay,I Am.fPallet.fW,I Am.fPallet.fD,I Am.fPallet.fH,I Am.fPallet.fGram,I Am.fClasses,Od,Ll,I Am.fMaster,Kp] (Am:Request) from ⟨_,_,_,_,_,_,z,z,(Enc.rd_agr (Enc.ow_rd Lw) (m.a 2 z)),(Enc.rd_agr (Enc.ow_rd Lh) (m.a 3 z)),(Enc.rd_agr (Enc.ow_rd Kk) (m.a 4 z))⟩) (show rd _ _ [Kl,Iw] (Px:Plan) from ⟨_,_,_,_,z,z,(Enc.rd_agr (Enc.ow_rd Jx) (m.a 0 z)),(Enc.rd_agr (Enc.ow_rd Ml) (m.a 1 z))⟩) Ks) fun Tz Et hR=>?_)
     obtain ⟨Tf,Fc,rfl,e,Cy,Il⟩:=hR
     refine ⟨_,z,fun a k=>?_⟩
     have m:=m.new e Fc (fun b hb=>⟨Il b hb,Enc.rd_lt (Enc.ow_rd Cy) b hb⟩) (Enc.ow_nd Cy)
     have Rv:=fun (y:Nat) (hy:y ∈ Fc)=>Nat.le_trans s.size (Il y hy)
     obtain ⟨Fx,Nu,Gy,Ip,rfl,rfl,Ex,Ga,_⟩:=Cy
     have m:=m.split2
     have s:=s.trans e (by simp)
     refine wpList_nil ⟨s,?_⟩
     refine d_one 6 (by kernel_rfl) z (s_stb (cs':=[Fx,Gy]) sizeOf74 m 7 Mh 0 k z z z z z z z z z z (allc (rd_o (Enc.ow_rd Ex)) (allc (rd_o (Enc.ow_rd Ga)) alln)) fun Of a k e m Iy=>?_)
     have s:=s.trans e (fun y hy=>Or.inr (Jc y hy))
     refine wpList_nil ⟨s,?_⟩
     refine d_done (by kernel_rfl) ((nm_then ?_))
     exact ⟨Fi.fCartons,Fx,Nu,Et,Fi.fSpots,Gy,Ip,Et,Qc,Of,k.keep [6,9,11,13] z,m.sel [12,13,14,15,8,9,0,1,7] z (by decide),Ex,Ga,Iy,h⟩
   refine wr (pN 3 k z fun a k=>bsplit (decide (La.1 < 0)) (fun Be=>?_) (fun Be=>?_))
   · have h:=bif_t Be h
     refine rB k 58 z Be fun k=>pN 5 k z fun a k=>nn (wp_cond_true (k.ev z) (wr (pN 1 k z fun a k=>?_)))
     have k:=k.keep [4] z
     refine nn (wp_ret (rt_then ?_))
     refine fS h k m z z
   have h:=bif_f Be h
   refine rB k 58 z Be fun k=>sv k z (r_ldB ta74 m 10 Bb 0 k z z z z z z) fun a k=>sv k z (r_ldB ta74 m 19 Dz 0 k z z z z z z) fun a k=>oE h fun Qz Ox h=>cE k m call42 z z z (c_laws_eqPlan fu _ _ (show rd _ _ [Aw,Av] (Bn:Plan) from ⟨_,_,_,_,z,z,(Enc.rd_agr (Enc.ow_rd Bx) (m.a 11 z)),(Enc.rd_agr (Enc.ow_rd Bv) (m.a 12 z))⟩) (show rd _ _ [Ax,Ay] ((⟨Ap,Ar⟩:Plan):Plan) from ⟨_,_,_,_,z,z,(Enc.rd_agr (Enc.ow_rd Dc) (m.a 17 z)),(Enc.rd_agr (Enc.ow_rd Dy) (m.a 18 z))⟩) Ox) fun Sm e a k m=>pN 2 k z fun a k=>nn (cI h k z (fun Pr h=>?_) fun Pr h=>?_)
   · refine wr (pN 1 k z fun a k=>?_)
     have k:=k.keep [4] z
     refine nn (wp_ret (rt_then ?_))
     refine fS h k m z z
   refine wp_skip (nm_then ?_)
   exact ⟨k.keep [2,3,6,9] z,m.sel [15,16,19,10,17,18,11,12] z (by decide),h⟩
 refine d_go [] mixo m z fun In hMd=>?_
 have m:=hMd
 have s:=Ext.refl ([]:List Nat) In
 refine dt k 0 z (by kernel_rfl) z s (fun _ _ _=>id) (fun w s=>r_ldA ta52 (Bj.at ((hMd.step s).a 1 z) 0 10 z z z) z k z z) fun a k=>dt k 2 z (by kernel_rfl) z s (fun _ _ _=>id) (fun w s=>r_ldA ta69 (Bc.at ((hMd.step s).a 0 z) 0 2 z z z) z k z z) fun a k=>d_two 1 5 (by kernel_rfl) z z ?_ ?_ 
 · refine oE h fun Ad Jf h=>s_call k call26 z z z z z (c_laws_toRequest fu _ (show rd _ _ [I Aa.fWay,I Aa.fPallet.fW,I Aa.fPallet.fD,I Aa.fPallet.fH,I Aa.fPallet.fGram,I Aa.fClasses,v9,Au,I Aa.fMaster,At] (Aa:Request) from ⟨_,_,_,_,_,_,z,z,(Enc.rd_agr Ag (m.a00 (Enc.rd_lt Ag))),(Enc.rd_agr Ah (m.a00 (Enc.rd_lt Ah))),(Enc.rd_agr Ai (m.a00 (Enc.rd_lt Ai)))⟩) Jf) fun Uf Vk hR=>?_
   obtain ⟨Tv,Gh,rfl,e,Dp,Fy⟩:=hR
   refine ⟨_,z,fun a k=>?_⟩
   have m:=m.new e Gh (fun b hb=>⟨Fy b hb,Enc.rd_lt (Enc.ow_rd Dp) b hb⟩) (Enc.ow_nd Dp)
   have Sj:=fun (y:Nat) (hy:y ∈ Gh)=>Nat.le_trans s.size (Fy y hy)
   obtain ⟨Ct,Vj,Cx,Wq,Dj,Sb,rfl,rfl,Ce,Dw,De,_⟩:=Dp
   have m:=m.split2
   have m:=m.split2at1
   have s:=s.trans e (by simp)
   refine wpList_nil ⟨s,?_⟩
   refine d_two 3 5 (by kernel_rfl) z z ?_ ?_ 
   · refine oE h fun Fj Le h=>s_call k call40 z z z z z (c_laws_toPlan fu _ (show rd _ _ [Al,Ak] (Aj:Plan) from ⟨_,_,_,_,z,z,(Enc.rd_agr Af (m.a00 (Enc.rd_lt Af))),(Enc.rd_agr Ae (m.a00 (Enc.rd_lt Ae)))⟩) Le) fun Uk Tm hR=>?_
     obtain ⟨Rj,Eo,rfl,e,Df,Ev⟩:=hR
     refine ⟨_,z,fun a k=>?_⟩
     have m:=m.new e Eo (fun b hb=>⟨Ev b hb,Enc.rd_lt (Enc.ow_rd Df) b hb⟩) (Enc.ow_nd Df)
     have Rm:=fun (y:Nat) (hy:y ∈ Eo)=>Nat.le_trans s.size (Ev y hy)
     obtain ⟨Hj,Wi,Hm,Rf,rfl,rfl,Fe,Id,_⟩:=Df
     have m:=m.split2
     have s:=s.trans e (by simp)
     refine wpList_nil ⟨s,?_⟩
     refine d_two 4 5 (by kernel_rfl) z z ?_ ?_ 
     · refine oE h fun Ig Mz h=>s_call k call45 z z z z z (c_spec_Front fu _ _ (show rd _ _ [I Ad.fWay,I Ad.fPallet.fW,I Ad.fPallet.fD,I Ad.fPallet.fH,I Ad.fPallet.fGram,I Ad.fClasses,Ct,Cx,I Ad.fMaster,Dj] (Ad:Request) from ⟨_,_,_,_,_,_,z,z,(Enc.rd_agr (Enc.ow_rd Ce) (m.a 2 z)),(Enc.rd_agr (Enc.ow_rd Dw) (m.a 3 z)),(Enc.rd_agr (Enc.ow_rd De) (m.a 4 z))⟩) (show rd _ _ [Hj,Hm] (Fj:Plan) from ⟨_,_,_,_,z,z,(Enc.rd_agr (Enc.ow_rd Fe) (m.a 0 z)),(Enc.rd_agr (Enc.ow_rd Id) (m.a 1 z))⟩) Mz) fun Qt Ie hR=>?_
       obtain ⟨Va,Hv,rfl,e,Cm,Ia⟩:=hR
       refine ⟨_,z,fun a k=>?_⟩
       have m:=m.new e Hv (fun b hb=>⟨Ia b hb,Enc.rd_lt (Enc.ow_rd Cm) b hb⟩) (Enc.ow_nd Cm)
       have Sl:=fun (y:Nat) (hy:y ∈ Hv)=>Nat.le_trans s.size (Ia y hy)
       obtain ⟨Hp,Jr,Er,Mu,rfl,rfl,Ei,Fw,_⟩:=Cm
       have m:=m.split2
       have s:=s.trans e (by simp)
       refine wpList_nil ⟨s,?_⟩
       refine d_one 5 (by kernel_rfl) z (s_allocN (cs:=[.slice none 0 0,.slice none 0 0]) m k zeroValue74 z z z z z fun On Wk a k m e Kg Ld=>?_)
       have Ov:=lo1 (Nat.le_trans s.size Ld)
       have s:=s.trans e (by simp)
       refine wpList_nil ⟨s,?_⟩
       refine d_one 6 (by kernel_rfl) z (s_stb (cs':=[Hp,Er]) sizeOf74 m 0 Kg 0 k z z z z z z z z z z (allc (rd_o (Enc.ow_rd Ei)) (allc (rd_o (Enc.ow_rd Fw)) alln)) fun Lx a k e m Lc=>?_)
       have s:=s.trans e (fun y hy=>Or.inr (Ov y hy))
       refine wpList_nil ⟨s,?_⟩
       refine d_done (by kernel_rfl) ((nm_then ?_))
       exact ⟨Ig.fCartons,Hp,Jr,Ie,Ig.fSpots,Er,Mu,Ie,On,Lx,k.keep [2,3,6] z,m.sel [9,8,1,2,0] z (by decide),Ei,Fw,Lc,h⟩
     refine s_allocN (cs:=[.slice none 0 0,.slice none 0 0]) m k zeroValue74 z z z z z fun Ms Rs a k m e Ju Om=>?_
     have Lf:=lo1 (Nat.le_trans s.size Om)
     have s:=s.trans e (by simp)
     refine wpList_nil ⟨s,?_⟩
     refine d_one 4 (by kernel_rfl) z (oE h fun Gg Lb h=>s_call k call45 z z z z z (c_spec_Front fu _ _ (show rd _ _ [I Ad.fWay,I Ad.fPallet.fW,I Ad.fPallet.fD,I Ad.fPallet.fH,I Ad.fPallet.fGram,I Ad.fClasses,Ct,Cx,I Ad.fMaster,Dj] (Ad:Request) from ⟨_,_,_,_,_,_,z,z,(Enc.rd_agr (Enc.ow_rd Ce) (m.a 3 z)),(Enc.rd_agr (Enc.ow_rd Dw) (m.a 4 z)),(Enc.rd_agr (Enc.ow_rd De) (m.a 5 z))⟩) (show rd _ _ [Hj,Hm] (Fj:Plan) from ⟨_,_,_,_,z,z,(Enc.rd_agr (Enc.ow_rd Fe) (m.a 1 z)),(Enc.rd_agr (Enc.ow_rd Id) (m.a 2 z))⟩) Lb) fun Ud Hq hR=>?_)
     obtain ⟨Sy,Hn,rfl,e,Cz,Gk⟩:=hR
     refine ⟨_,z,fun a k=>?_⟩
     have m:=m.new e Hn (fun b hb=>⟨Gk b hb,Enc.rd_lt (Enc.ow_rd Cz) b hb⟩) (Enc.ow_nd Cz)
     have Wt:=fun (y:Nat) (hy:y ∈ Hn)=>Nat.le_trans s.size (Gk y hy)
     obtain ⟨Fu,Qa,Hh,Kv,rfl,rfl,Gb,Fz,_⟩:=Cz
     have m:=m.split2
     have s:=s.trans e (by simp)
     refine wpList_nil ⟨s,?_⟩
     refine d_one 6 (by kernel_rfl) z (s_stb (cs':=[Fu,Hh]) sizeOf74 m 2 Ju 0 k z z z z z z z z z z (allc (rd_o (Enc.ow_rd Gb)) (allc (rd_o (Enc.ow_rd Fz)) alln)) fun Ja a k e m Lk=>?_)
     have s:=s.trans e (fun y hy=>Or.inr (Lf y hy))
     refine wpList_nil ⟨s,?_⟩
     refine d_done (by kernel_rfl) ((nm_then ?_))
     exact ⟨Gg.fCartons,Fu,Qa,Hq,Gg.fSpots,Hh,Kv,Hq,Ms,Ja,k.keep [2,3,6] z,m.sel [9,8,0,1,2] z (by decide),Gb,Fz,Lk,h⟩
   refine s_allocN (cs:=[.slice none 0 0,.slice none 0 0]) m k zeroValue74 z z z z z fun Jh Qu a k m e Na Og=>?_
   have It:=lo1 (Nat.le_trans s.size Og)
   have s:=s.trans e (by simp)
   refine wpList_nil ⟨s,?_⟩
   refine d_one 3 (by kernel_rfl) z (oE h fun Ol Is h=>s_call k call40 z z z z z (c_laws_toPlan fu _ (show rd _ _ [Al,Ak] (Aj:Plan) from ⟨_,_,_,_,z,z,(Enc.rd_agr Af (m.a00 (Enc.rd_lt Af))),(Enc.rd_agr Ae (m.a00 (Enc.rd_lt Ae)))⟩) Is) fun Wd Sd hR=>?_)
   obtain ⟨Rx,Gn,rfl,e,Cp,Ek⟩:=hR
   refine ⟨_,z,fun a k=>?_⟩
   have m:=m.new e Gn (fun b hb=>⟨Ek b hb,Enc.rd_lt (Enc.ow_rd Cp) b hb⟩) (Enc.ow_nd Cp)
   have Wj:=fun (y:Nat) (hy:y ∈ Gn)=>Nat.le_trans s.size (Ek y hy)
   obtain ⟨Ir,Rd,Jl,Tk,rfl,rfl,Kz,Qh,_⟩:=Cp
   have m:=m.split2
   have s:=s.trans e (by simp)
   refine wpList_nil ⟨s,?_⟩
   refine d_one 4 (by kernel_rfl) z (oE h fun Hk Li h=>s_call k call45 z z z z z (c_spec_Front fu _ _ (show rd _ _ [I Ad.fWay,I Ad.fPallet.fW,I Ad.fPallet.fD,I Ad.fPallet.fH,I Ad.fPallet.fGram,I Ad.fClasses,Ct,Cx,I Ad.fMaster,Dj] (Ad:Request) from ⟨_,_,_,_,_,_,z,z,(Enc.rd_agr (Enc.ow_rd Ce) (m.a 3 z)),(Enc.rd_agr (Enc.ow_rd Dw) (m.a 4 z)),(Enc.rd_agr (Enc.ow_rd De) (m.a 5 z))⟩) (show rd _ _ [Ir,Jl] (Ol:Plan) from ⟨_,_,_,_,z,z,(Enc.rd_agr (Enc.ow_rd Kz) (m.a 0 z)),(Enc.rd_agr (Enc.ow_rd Qh) (m.a 1 z))⟩) Li) fun Um Ik hR=>?_)
   obtain ⟨Si,Gq,rfl,e,Cs,Hb⟩:=hR
   refine ⟨_,z,fun a k=>?_⟩
   have m:=m.new e Gq (fun b hb=>⟨Hb b hb,Enc.rd_lt (Enc.ow_rd Cs) b hb⟩) (Enc.ow_nd Cs)
   have Ur:=fun (y:Nat) (hy:y ∈ Gq)=>Nat.le_trans s.size (Hb y hy)
   obtain ⟨Fh,Ny,Fm,Ot,rfl,rfl,Fb,Gl,_⟩:=Cs
   have m:=m.split2
   have s:=s.trans e (by simp)
   refine wpList_nil ⟨s,?_⟩
   refine d_one 6 (by kernel_rfl) z (s_stb (cs':=[Fh,Fm]) sizeOf74 m 4 Na 0 k z z z z z z z z z z (allc (rd_o (Enc.ow_rd Fb)) (allc (rd_o (Enc.ow_rd Gl)) alln)) fun Jz a k e m Mn=>?_)
   have s:=s.trans e (fun y hy=>Or.inr (It y hy))
   refine wpList_nil ⟨s,?_⟩
   refine d_done (by kernel_rfl) ((nm_then ?_))
   exact ⟨Hk.fCartons,Fh,Ny,Ik,Hk.fSpots,Fm,Ot,Ik,Jh,Jz,k.keep [2,3,6] z,m.sel [9,8,0,1,4] z (by decide),Fb,Gl,Mn,h⟩
 refine s_allocN (cs:=[.slice none 0 0,.slice none 0 0]) m k zeroValue74 z z z z z fun Lj Qi a k m e Iu Pg=>?_
 have Oy:=lo1 (Nat.le_trans s.size Pg)
 have s:=s.trans e (by simp)
 refine wpList_nil ⟨s,?_⟩
 refine d_one 1 (by kernel_rfl) z (oE h fun Aq Ky h=>s_call k call26 z z z z z (c_laws_toRequest fu _ (show rd _ _ [I Aa.fWay,I Aa.fPallet.fW,I Aa.fPallet.fD,I Aa.fPallet.fH,I Aa.fPallet.fGram,I Aa.fClasses,v9,Au,I Aa.fMaster,At] (Aa:Request) from ⟨_,_,_,_,_,_,z,z,(Enc.rd_agr Ag (m.a00 (Enc.rd_lt Ag))),(Enc.rd_agr Ah (m.a00 (Enc.rd_lt Ah))),(Enc.rd_agr Ai (m.a00 (Enc.rd_lt Ai)))⟩) Ky) fun Wu Wa hR=>?_)
 obtain ⟨Tu,Ey,rfl,e,Cw,Gd⟩:=hR
 refine ⟨_,z,fun a k=>?_⟩
 have m:=m.new e Ey (fun b hb=>⟨Gd b hb,Enc.rd_lt (Enc.ow_rd Cw) b hb⟩) (Enc.ow_nd Cw)
 have Sx:=fun (y:Nat) (hy:y ∈ Ey)=>Nat.le_trans s.size (Gd y hy)
 obtain ⟨Mm,Ws,Nc,Te,Pn,Rw,rfl,rfl,Pj,Km,Kx,_⟩:=Cw
 have m:=m.split2
 have m:=m.split2at1
 have s:=s.trans e (by simp)
 refine wpList_nil ⟨s,?_⟩
 refine d_one 3 (by kernel_rfl) z (oE h fun Ni Kn h=>s_call k call40 z z z z z (c_laws_toPlan fu _ (show rd _ _ [Al,Ak] (Aj:Plan) from ⟨_,_,_,_,z,z,(Enc.rd_agr Af (m.a00 (Enc.rd_lt Af))),(Enc.rd_agr Ae (m.a00 (Enc.rd_lt Ae)))⟩) Kn) fun Vv Tl hR=>?_)
 obtain ⟨Wv,Hc,rfl,e,Dd,Hf⟩:=hR
 refine ⟨_,z,fun a k=>?_⟩
 have m:=m.new e Hc (fun b hb=>⟨Hf b hb,Enc.rd_lt (Enc.ow_rd Dd) b hb⟩) (Enc.ow_nd Dd)
 have Qj:=fun (y:Nat) (hy:y ∈ Hc)=>Nat.le_trans s.size (Hf y hy)
 obtain ⟨Kq,Vw,Oa,Sg,rfl,rfl,Oj,Mr,_⟩:=Dd
 have m:=m.split2
 have s:=s.trans e (by simp)
 refine wpList_nil ⟨s,?_⟩
 refine d_one 4 (by kernel_rfl) z (oE h fun Fd Ns h=>s_call k call45 z z z z z (c_spec_Front fu _ _ (show rd _ _ [I Aq.fWay,I Aq.fPallet.fW,I Aq.fPallet.fD,I Aq.fPallet.fH,I Aq.fPallet.fGram,I Aq.fClasses,Mm,Nc,I Aq.fMaster,Pn] (Aq:Request) from ⟨_,_,_,_,_,_,z,z,(Enc.rd_agr (Enc.ow_rd Pj) (m.a 2 z)),(Enc.rd_agr (Enc.ow_rd Km) (m.a 3 z)),(Enc.rd_agr (Enc.ow_rd Kx) (m.a 4 z))⟩) (show rd _ _ [Kq,Oa] (Ni:Plan) from ⟨_,_,_,_,z,z,(Enc.rd_agr (Enc.ow_rd Oj) (m.a 0 z)),(Enc.rd_agr (Enc.ow_rd Mr) (m.a 1 z))⟩) Ns) fun Vs Ew hR=>?_)
 obtain ⟨Sn,Gr,rfl,e,Cq,Im⟩:=hR
 refine ⟨_,z,fun a k=>?_⟩
 have m:=m.new e Gr (fun b hb=>⟨Im b hb,Enc.rd_lt (Enc.ow_rd Cq) b hb⟩) (Enc.ow_nd Cq)
 have Qy:=fun (y:Nat) (hy:y ∈ Gr)=>Nat.le_trans s.size (Im y hy)
 obtain ⟨Ib,Jo,Ii,Kh,rfl,rfl,Ht,El,_⟩:=Cq
 have m:=m.split2
 have s:=s.trans e (by simp)
 refine wpList_nil ⟨s,?_⟩
 refine d_one 6 (by kernel_rfl) z (s_stb (cs':=[Ib,Ii]) sizeOf74 m 7 Iu 0 k z z z z z z z z z z (allc (rd_o (Enc.ow_rd Ht)) (allc (rd_o (Enc.ow_rd El)) alln)) fun Jb a k e m Nt=>?_)
 have s:=s.trans e (fun y hy=>Or.inr (Oy y hy))
 refine wpList_nil ⟨s,?_⟩
 refine d_done (by kernel_rfl) ((nm_then ?_))
 exact ⟨Fd.fCartons,Ib,Jo,Ew,Fd.fSpots,Ii,Kh,Ew,Lj,Jb,k.keep [2,3,6] z,m.sel [9,8,0,1,7] z (by decide),Ht,El,Nt,h⟩

end Go.Proofs.YtlmibnlfkmiikaaGreat
