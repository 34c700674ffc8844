/- FnExactOneEach: the walks of functions that it reaches (ExactOneEachW,part 1). Printed by gen.py. -/
import Derived.Test.YtcboeijpplllfaaGreatExactOneEachBWi1
import Derived.Test.YtcboeijpplllfaaGreatExactOneEachBWs2
import Derived.Test.YtcboeijpplllfaaGreatExactOneEachBWl1
import Derived.Test.YtcboeijpplllfaaGreatExactOneEachD
set_option maxRecDepth 20000
set_option linter.unusedSimpArgs false
set_option linter.unusedVariables false
set_option linter.unnecessarySimpa false
namespace Go.Proofs.YtcboeijpplllfaaGreat
open Go Go.RowKit
open Enc (rd ow)
open Arg (argv)
open Ret (retv)
open Go.Proofs.Tryz

theorem ta28:TA Tryz.prog 28 10:=⟨Tryz.isAgg28,sizeOf28⟩
theorem c_laws_FnExactOneEach (fu:Nat) {w0:World} (Aa:Request) {Bd:List Value} {F3:List Nat} (Cr:rd w0 F3 Bd Aa) {r:Bool}
    (h:d_laws_FnExactOneEach fu Aa = some r) :
    Calls Tryz.prog 4 #[.agg Bd.toArray] w0 fun e w=>e = .returned (.bool (r)) ∧ Ext [] w0 w:=by
 refine en (vs:=[_]) func4 z ntmps4 z fun a k m=>?_;obtain ⟨v5,F6,v7,F8,v9,Fh,rfl,rfl,Ad,Ac,Ae⟩:=Cr;unfold d_laws_FnExactOneEach at h;refine wr (s_box (cs:=(cR Aa v5 v7 v9)) m k z z z z z z fun Bg Bi a k m e Ai=>pN 1 k z fun a k=>nn (wr (pN 1 k z fun a k=>nn (wr (sv k z (rL ta28 m 0 Ai 0 k z) fun a k=>pN 1 k z fun a k=>oE h fun Eu Dj h=>?_)))));refine cC k m call5 z (c_laws_szRequest fu _ _ (mkRequest (m.r Ad) (m.r Ac) (m.r Ae)) Dj) fun Gg e a k m=>pN 1 k z fun a k=>nn (wp_seq (wr (pN 2 k z fun a k=>nn (cI h k z (fun Bx h=>?_) fun Bx h=>?_))))
 · refine wr (pN 1 k z fun a k=>nn (wp_ret (rt_then ?_)));refine fS h k m z z
 refine wp_skip (nm_then ?_);refine wr (sv k z (rL ta28 m 0 Ai 0 k z) fun a k=>oE h fun Ag Dy h=>sC k call8 z (c_laws_toRequest fu _ (mkRequest (m.r Ad) (m.r Ac) (m.r Ae)) Dy) fun Em Gp hR=>?_);obtain ⟨Ek,Eg,rfl,e,Ay,Cc⟩:=hR;refine ⟨_,z,fun a k=>?_⟩;have m:=m.nw e Cc Ay;obtain ⟨Dg,Fj,Bw,Gj,Dv,Ey,rfl,rfl,Dz,Dr,Bn,_⟩:=Ay;have m:=m.split2;have m:=m.split2at1;refine oE h fun Bk Dm h=>sC k call13 z (c_spec_OneEach fu _ (mkRequest (m.q Dz 0 z) (m.q Dr 1 z) (m.q Bn 2 z)) Dm) fun Fs Db hR=>?_;obtain ⟨Ec,Bh,rfl,e,Ap,Do⟩:=hR;refine ⟨_,z,fun a k=>?_⟩;have m:=m.nw e Do Ap;refine pN 1 k z fun a k=>nn (wr (sv k z (rL ta28 m 4 Ai 0 k z) fun a k=>oE h fun Ab Cs h=>sC k call8 z (c_laws_toRequest fu _ (mkRequest (m.r Ad) (m.r Ac) (m.r Ae)) Cs) fun Fe Ep hR=>?_));obtain ⟨Fu,Cy,rfl,e,Av,Cg⟩:=hR;refine ⟨_,z,fun a k=>?_⟩;have m:=m.nw e Cg Av;obtain ⟨Ak,Dc,Am,Bu,Al,Ee,rfl,rfl,Ar,At,As,_⟩:=Av;have m:=m.split2;have m:=m.split2at1
 refine s_alloc (cs:=[I 0,I 0,I 0,I 0,I 0,I 0,.slice none 0 0,.slice none 0 0,I 0,.slice none 0 0]) m k zeroValue40 z z z z z fun Er Fw a k m e Cb=>sT (cs':=(cR Ab Ak Am Al)) sizeOf40 m 0 Cb 0 k z (allc z (allc z (allc z (allc z (allc z (allc z (allc (rd_o (Enc.ow_rd Ar)) (allc (rd_o (Enc.ow_rd At)) (allc z (allc (rd_o (Enc.ow_rd As)) alln)))))))))) fun Fb a k e m Ax=>nn (wr (sv k z (rL ta40 m 0 Ax 0 k z) fun a k=>oE h fun Br Du h=>?_));refine sC k call14 z (c_impl_OneEach fu _ (mkRequest (m.q Ar 1 z) (m.q At 2 z) (m.q As 3 z)) Du) fun Fz Cj hR=>?_;obtain ⟨Ce,Bc,rfl,e,Aj,Cx⟩:=hR;refine ⟨_,z,fun a k=>?_⟩;have m:=m.nw e Cx Aj;refine pN 1 k z fun a k=>nn (wp_seq (wr (pN 2 k z fun a k=>oE h fun Fc Cz h=>cC k m call15 z (c_laws_eqIntSS fu _ _ (m.q Aj 0 z) (m.q Ap 5 z) Cz) fun El e a k m=>pN 1 k z fun a k=>nn (cI h k z (fun Cu h=>?_) fun Cu h=>?_))))
 · refine wr (pN 1 k z fun a k=>?_);have k:=k.keep [2] z;refine nn (wp_ret (rt_then ?_));refine fS h k m z z
 refine wp_skip (nm_then ?_);refine wp_seq (wp_seq (d_go [] mixo m z fun Ck hMd=>?_));have m:=hMd;have s:=Ext.refl ([]:List Nat) Ck;refine dT k 0 z z s (fun w s=>r_ldA ta40 (Ax.at ((hMd.step s).a 1 z) 0 10 z z z) z k z z) fun a k=>dT k 1 z z s (fun w s=>r_ldA ta28 (Ai.at ((hMd.step s).a 9 z) 0 10 z z z) z k z z) fun a k=>dO 2 z (oE h fun Af Ed h=>sC k call8 z (c_laws_toRequest fu _ (mkRequest (m.r Ad) (m.r Ac) (m.r Ae)) Ed) fun Et Gu hR=>?_);obtain ⟨Fv,Be,rfl,e,Bb,Bf⟩:=hR;refine ⟨_,z,fun a k=>?_⟩;have m:=m.nw e Bf Bb;have Eo:=fun (y:Nat) (hy:y ∈ Be)=>Nat.le_trans s.size (Bf y hy);obtain ⟨Eb,Ew,Dt,Gi,Df,Fq,rfl,rfl,Dp,Da,Bs,_⟩:=Bb;have m:=m.split2;have m:=m.split2at1;refine ns s e fun s=>?_;refine dO 3 z (oE h fun Ev Bz h=>?_);refine cC k m call11 z (c_laws_eqRequest fu _ _ (mkRequest (m.q Ar 5 z) (m.q At 6 z) (m.q As 7 z)) (mkRequest (m.q Dp 0 z) (m.q Da 1 z) (m.q Bs 2 z)) Bz) fun Fp e a k m=>?_;refine ns s e fun s=>?_;refine dM [4] 1 z k z s fun a k=>dD ?_;have k:=k.keep [1,4,5,6,31] z;refine (nm_then ?_);refine cI h k z (fun Ct h=>?_) fun Ct h=>?_
 · refine wr (pN 1 k z fun a k=>nn (wp_ret (rt_then ?_)));refine fS h k m z z
 refine wp_skip (nm_then ?_);refine wr (pN 1 k z fun a k=>nn (wr (sv k z (rL ta40 m 4 Ax 0 k z) fun a k=>pN 1 k z fun a k=>?_)));have Bp:ow _ (Dc ++ (Bu ++ (Ee))) (cR Ab Ak Am Al) (Ab:Request):=⟨_,_,_,_,_,_,z,z,(m.v Ar 5 z),(m.v At 6 z),(m.v As 7 z),by simpa [fps] using (m.sl [5,6,7] z).nd⟩
 have m:=m.sl [5,6,7,0,1,2,3,4,8,9,10,11,12] z;have m:=m.join3;refine oE h fun Dk Dd h=>sC k call16 z (c_laws_markRequest fu _ _ Bp Dd) fun Ff Fy hR=>?_;obtain ⟨Fn,rfl,e,Bq,Az⟩:=hR;refine ⟨_,z,fun a k=>?_⟩;have m:=m.mut 0 z e _ (fun b hb=>⟨Bq b hb,Enc.rd_lt (Enc.ow_rd Az) b hb⟩) (Enc.ow_nd Az);obtain ⟨Co,Fm,Di,Ga,Dn,Gl,Au,rfl,Eh,Gc,Ft,_⟩:=Az;have m:=m.toFront 0 z;have m:=m.split2;have m:=m.split2at1;have Cq:Ak = Co:=by have:=congrArg (fun l:List Value=>l[6]?) Au; simpa using this
 subst Cq;have Bl:Am = Di:=by have:=congrArg (fun l:List Value=>l[7]?) Au; simpa using this
 subst Bl;have Bv:Al = Dn:=by have:=congrArg (fun l:List Value=>l[9]?) Au; simpa using this
 subst Bv;refine pN 1 k z fun a k=>nn (c_cut (fun a w=>K 69 [(1,pt Bg),(4,Ec),(6,Ce)] a ∧ St [] w0 w [([Bg],Bi),(Bh,Db),(Bc,Cj)] ∧ d_laws_FnExactOneEach_J1 fu Aa Bk Br = some r) ?_ ?_)
 · rintro a Fa ⟨k,m,h⟩;unfold d_laws_FnExactOneEach_J1 at h;refine wr (pN 1 k z fun a k=>nn (wr (pN 2 k z fun a k=>oE h fun Ej Cn h=>sC k call17 z (c_laws_markIntSS fu _ _ (m.v Aj 2 z) Cn) fun Gq Ei hR=>?_)));obtain ⟨Gm,rfl,e,Ef,Aq⟩:=hR;refine ⟨_,z,fun a k=>?_⟩;have m:=m.mut 2 z e _ (fun b hb=>⟨Ef b hb,Enc.rd_lt (Enc.ow_rd Aq) b hb⟩) (Enc.ow_nd Aq);refine pN 1 k z fun a k=>nn (wr (pN 1 k z fun a k=>nn (wr (pN 2 k z fun a k=>oE h fun Es Dh h=>cC k m call18 z (c_laws_heldIntSS fu _ _ (m.q Aq 2 z) Dh) fun Gh e a k m=>pN 1 k z fun a k=>nn (wp_seq (wr (pN 2 k z fun a k=>nn (cI h k z (fun Dl h=>?_) fun Dl h=>?_))))))))
   · refine wr (pN 1 k z fun a k=>nn (wp_ret (rt_then ?_)));refine fS h k m z z
   refine wp_skip (nm_then ?_);refine wp_seq (wr (pN 3 k z fun a k=>nn (cI h k z (fun Cl h=>?_) fun Cl h=>?_)))
   · refine wr (pN 1 k z fun a k=>nn (wp_ret (rt_then ?_)));refine fS h k m z z
   refine wp_skip (nm_then ?_);refine wr (sv k z (rL ta28 m 0 Ai 0 k z) fun a k=>oE h fun Ah Dw h=>sC k call8 z (c_laws_toRequest fu _ (mkRequest (m.r Ad) (m.r Ac) (m.r Ae)) Dw) fun Gn Ge hR=>?_);obtain ⟨Fd,Cw,rfl,e,Aw,Ch⟩:=hR;refine ⟨_,z,fun a k=>?_⟩;have m:=m.nw e Ch Aw;obtain ⟨Bm,En,Ds,Gb,De,Ez,rfl,rfl,Ci,Cv,Ca,_⟩:=Aw;have m:=m.split2;have m:=m.split2at1;refine oE h fun Fl Cm h=>sC k call14 z (c_impl_OneEach fu _ (mkRequest (m.q Ci 0 z) (m.q Cv 1 z) (m.q Ca 2 z)) Cm) fun Fi Gr hR=>?_;obtain ⟨Gd,Bt,rfl,e,Ba,Cp⟩:=hR;refine ⟨_,z,fun a k=>?_⟩;have m:=m.nw e Cp Ba;refine pN 1 k z fun a k=>nn (wp_seq (wr (pN 2 k z fun a k=>oE h fun Gt Cd h=>cC k m call15 z (c_laws_eqIntSS fu _ _ (m.q Ba 0 z) (m.q Ap 5 z) Cd) fun Fg e a k m=>pN 1 k z fun a k=>nn (cI h k z (fun Dq h=>?_) fun Dq h=>?_))))
   · refine wr (pN 1 k z fun a k=>nn (wp_ret (rt_then ?_)));refine fS h k m z z
   refine wp_skip (nm_then ?_);refine wr (pN 1 k z fun a k=>nn (wr (pN 2 k z fun a k=>oE h fun Gf Bj h=>cC k m call18 z (c_laws_heldIntSS fu _ _ (m.q Aq 6 z) Bj) fun Ex e a k m=>pN 1 k z fun a k=>?_)));have k:=k.keep [8,9] z;refine nn (wp_seq (wr (pN 2 k z fun a k=>nn (cI h k z (fun Dx h=>?_) fun Dx h=>?_))))
   · refine wr (pN 1 k z fun a k=>nn (wp_ret (rt_then ?_)));refine fS h k m z z
   refine wp_skip (nm_then ?_);refine wp_seq (wr (pN 3 k z fun a k=>nn (cI h k z (fun Ea h=>?_) fun Ea h=>?_)))
   · refine wr (pN 1 k z fun a k=>nn (wp_ret (rt_then ?_)));refine fS h k m z z
   refine wp_skip (nm_then ?_);refine wr (pN 1 k z fun a k=>nn (wp_ret (fS h k m z z)))
 refine wr (pN 3 k z fun a k=>bsplit (decide (Dk.1 < 0)) (fun Ao=>?_) (fun Ao=>?_))
 · have h:=bif_t Ao h;refine rB k 37 z Ao fun k=>pN 5 k z fun a k=>nn (wp_cond_true (k.ev z) (wr (pN 1 k z fun a k=>nn (wp_ret (rt_then ?_)))));refine fS h k m z z
 have h:=bif_f Ao h;refine rB k 37 z Ao fun k=>pN 2 k z fun a k=>oE h fun Gk By h=>cC k m call15 z (c_laws_eqIntSS fu _ _ (m.q Aj 6 z) (m.q Ap 8 z) By) fun Fk e a k m=>pN 2 k z fun a k=>nn (cI h k z (fun Bo h=>?_) fun Bo h=>?_)
 · refine wr (pN 1 k z fun a k=>nn (wp_ret (rt_then ?_)));refine fS h k m z z
 refine wp_skip (nm_then ?_);exact ⟨k.keep [1,4,6] z,m.sl [12,8,6] z,h⟩

end Go.Proofs.YtcboeijpplllfaaGreat
