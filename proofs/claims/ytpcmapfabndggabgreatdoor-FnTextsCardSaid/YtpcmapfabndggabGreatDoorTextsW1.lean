/- FnTexts: the walks of functions that it reaches (TextsW,part 1). Printed by gen.py. -/
import Derived.Test.YtpcmapfabndggabGreatDoorTextsBWi1
import Derived.Test.YtpcmapfabndggabGreatDoorTextsBWs6
import Derived.Test.YtpcmapfabndggabGreatDoorTextsBWl1
import Derived.Test.YtpcmapfabndggabGreatDoorTextsD
set_option maxRecDepth 20000
set_option linter.unusedSimpArgs false
set_option linter.unusedVariables false
set_option linter.unnecessarySimpa false
namespace Go.Proofs.YtpcmapfabndggabGreatDoor
open Go Go.RowKit
open Enc (rd ow)
open Arg (argv)
open Ret (retv)
open Go.Proofs.Tryz


theorem c_laws_FnTexts (fu:Nat) {w0:World} (hT:Te Tryz.prog w0) (Ay:List U8) {v2:Value} {F3:List Nat} (Ab:rd w0 F3 [v2] Ay) {r:Bool}
    (h:d_laws_FnTexts fu Ay = some r) :
    Calls Tryz.prog 4 #[v2] w0 fun e w=>e = .returned (.bool (r)) ∧ Ext [] w0 w:=by
 refine en (vs:=[_]) func4 z ntmps4 z fun a k m=>?_;unfold d_laws_FnTexts at h;refine wr (pN 1 k z fun a k=>nn (wp_seq (wr (pN 1 k z fun a k=>oE h fun x5 Dx h=>cC k m call7 z (c_laws_big fu _ (m.r Ab) Dx) fun w9 e a k m=>nn (cI h k z (fun Cx h=>?_) fun Cx h=>?_)))))
 · refine wr (pN 1 k z fun a k=>nn (wp_ret (rt_then ?_)));refine fS h k m z z
 refine wp_skip (nm_then ?_);refine wr (pN 1 k z fun a k=>oE h fun Aq Dj h=>sC k call8 z (c_spec_DrawPlanText fu _ (m.r Ab) Dj) fun Fp Ee hR=>?_);obtain ⟨Eu,Df,rfl,e,At,Cy⟩:=hR;refine ⟨_,z,fun a k=>?_⟩;have m:=m.nw e Cy At;obtain ⟨Ao,Ei,Aj,Ew,rfl,rfl,Ag,Ai,_⟩:=At;have m:=m.split2;refine s_alloc (cs:=[.slice none 0 0,.slice none 0 0]) m k zeroValue29 z z z z z fun Fw Fd a k m e Cg=>sT (cs':=[Ao,Aj]) sizeOf29 m 0 Cg 0 k z (allc (rd_o (Enc.ow_rd Ag)) (allc (rd_o (Enc.ow_rd Ai)) alln)) fun Fe a k e m Ap=>nn (wr (sv k z (rL ta29 m 0 Ap 0 k z) fun a k=>oE h fun Ci Cc h=>cC k m call9 z (c_impl_PlanText fu (m.te hT) _ (mkPlan (m.q Ag 1 z) (m.q Ai 2 z)) Cc) fun Fb e a k m=>pN 1 k z fun a k=>nn (wr (pN 1 k z fun a k=>oE h fun Bf Dy h=>sC k call10 z (c_impl_ReadPlan fu (m.te hT) _  Dy) fun Gh Fx hR=>?_))));obtain ⟨Ep,Cl,rfl,e,Aw,Ca⟩:=hR;refine ⟨_,z,fun a k=>?_⟩;have m:=m.nw e Ca Aw;obtain ⟨Bp,Fg,Bh,Gd,rfl,rfl,Bj,Bq,_⟩:=Aw;have m:=m.split2
 refine pN 3 k z fun a k=>s_alloc (cs:=[.slice none 0 0,.slice none 0 0]) m k zeroValue29 z z z z z fun Fl Gg a k m e Dh=>sT (cs':=[Bp,Bh]) sizeOf29 m 0 Dh 0 k z (allc (rd_o (Enc.ow_rd Bj)) (allc (rd_o (Enc.ow_rd Bq)) alln)) fun Fi a k e m Cz=>pN 1 k z fun a k=>nn (c_cut (fun a w=>K 104 [(0,v2)] a ∧ St [] w0 w [] ∧ d_laws_FnTexts_J2 fu Ay = some r) ?_ ?_)
 · rintro a Er ⟨k,m,h⟩;unfold d_laws_FnTexts_J2 at h;refine wr (pN 1 k z fun a k=>oE h fun Cr Cd h=>cC k m call14 z (c_spec_DrawReadPlan fu _ (m.r Ab) Cd) fun Ff e a k m=>pN 1 k z fun a k=>nn (wr (pN 1 k z fun a k=>oE h fun Ar Dq h=>sC k call10 z (c_impl_ReadPlan fu (m.te hT) _  Dq) fun Fz Fj hR=>?_)));obtain ⟨Fn,Dn,rfl,e,As,Db⟩:=hR;refine ⟨_,z,fun a k=>?_⟩;have m:=m.nw e Db As;obtain ⟨Be,Fm,Bg,Et,rfl,rfl,Bi,Bl,_⟩:=As;have m:=m.split2;refine pN 3 k z fun a k=>s_alloc (cs:=[.slice none 0 0,.slice none 0 0]) m k zeroValue29 z z z z z fun Ej Ed a k m e Bs=>sT (cs':=[Be,Bg]) sizeOf29 m 0 Bs 0 k z (allc (rd_o (Enc.ow_rd Bi)) (allc (rd_o (Enc.ow_rd Bl)) alln)) fun Gi a k e m Dm=>pN 1 k z fun a k=>nn (wr (pN 1 k z fun a k=>oE h fun Cj Bu h=>sC k call15 z (c_spec_ReadPlan fu _  Bu) fun Dz Ec hR=>?_));obtain ⟨Fh,Dv,rfl,e,Ax,Dl⟩:=hR;refine ⟨_,z,fun a k=>?_⟩;have m:=m.nw e Dl Ax;obtain ⟨Cs,Gl,Ck,Ev,rfl,rfl,By,Cp,_⟩:=Ax;have m:=m.split2
   refine pN 3 k z fun a k=>s_alloc (cs:=[.slice none 0 0,.slice none 0 0]) m k zeroValue29 z z z z z fun El Ex a k m e Cf=>sT (cs':=[Cs,Ck]) sizeOf29 m 0 Cf 0 k z (allc (rd_o (Enc.ow_rd By)) (allc (rd_o (Enc.ow_rd Cp)) alln)) fun Ez a k e m Gm=>pN 1 k z fun a k=>nn (wr (pN 1 k z fun a k=>oE h fun Bk Co h=>cC k m call16 z (c_spec_DrawLineOf fu _ (m.r Ab) Co) fun Eo e a k m=>pN 1 k z fun a k=>nn (wr (pN 1 k z fun a k=>oE h fun Aa Bx h=>sC k call17 z (c_impl_LineOf fu (m.te hT) _  Bx) fun Eg Cu hR=>?_))));obtain ⟨Ea,Bc,rfl,e,Av,Do⟩:=hR;refine ⟨_,z,fun a k=>?_⟩;have m:=m.nw e Do Av;obtain ⟨Au,_,rfl,rfl,Bn,_⟩:=Av;refine pN 4 k z fun a k=>s_alloc (cs:=[I 0,I 0,.slice none 0 0]) m k zeroValue39 z z z z z fun Ba En a k m e De=>s_alloc (cs:=[I 0,I 0,I 0,I 0]) m k zeroValue41 z z z z z fun Bm Gb a k m e Dw=>sT (cs':=[I Aa.1.fType,I Aa.1.fGroup,Au]) sizeOf39 m 1 De 0 k z (allc z (allc z (allc (rd_o (Enc.ow_rd Bn)) alln))) fun Dt a k e m Cm=>sT (cs':=[I Aa.2.1.fPallet,I Aa.2.1.fX,I Aa.2.1.fY,I Aa.2.1.fZ]) sizeOf41 m 0 Dw 0 k z z fun Cq a k e m Ct=>pN 1 k z fun a k=>?_
   have k:=k.keep [7,8,9,11,12,13,14,15] z;refine nn (wr (pN 1 k z fun a k=>oE h fun Ac Ds h=>sC k call18 z (c_spec_LineOf fu _  Ds) fun Ft Fy hR=>?_));obtain ⟨Fc,Cw,rfl,e,Az,Dc⟩:=hR;refine ⟨_,z,fun a k=>?_⟩;have m:=m.nw e Dc Az;obtain ⟨Dd,_,rfl,rfl,Cv,_⟩:=Az;refine pN 4 k z fun a k=>s_alloc (cs:=[I 0,I 0,.slice none 0 0]) m k zeroValue39 z z z z z fun Em Ek a k m e Bv=>s_alloc (cs:=[I 0,I 0,I 0,I 0]) m k zeroValue41 z z z z z fun Eh Fu a k m e Ce=>sT (cs':=[I Ac.1.fType,I Ac.1.fGroup,Dd]) sizeOf39 m 1 Bv 0 k z (allc z (allc z (allc (rd_o (Enc.ow_rd Cv)) alln))) fun Eb a k e m Fs=>sT (cs':=[I Ac.2.1.fPallet,I Ac.2.1.fX,I Ac.2.1.fY,I Ac.2.1.fZ]) sizeOf41 m 0 Ce 0 k z z fun Gn a k e m Gk=>pN 1 k z fun a k=>nn ?_;refine c_cut (fun a w=>K 104 [(12,.string (Bk)),(13,pt Ba),(14,pt Bm),(15,.bool (Aa.2.2))] a ∧ St [] w0 w [([Ba],Dt),([Bm],Cq),(Bc,Cu)] ∧ d_laws_FnTexts_J1 fu Bk Aa = some r) ?_ ?_
   · rintro a Ef ⟨k,m,h⟩;unfold d_laws_FnTexts_J1 at h;refine wr (pN 3 k z fun a k=>bsplit (!Aa.2.2) (fun Af=>?_) (fun Af=>?_))
     · have h:=bif_t Af h;refine rB k 93 z Af fun k=>pN 11 k z fun a k=>nn (wp_ret (fS h k m z z))
     have h:=bif_f Af h;refine rB k 93 z Af fun k=>sv k z (rL ta39 m 0 Cm 0 k z) fun a k=>sB (cs:=[I Aa.1.fType,I Aa.1.fGroup,Au]) (ps:=[(0,.tmp 94)]) te26 m k z (by exact fC z fN) fun Bb Fv Ga a k m e Cb=>sv k z (rL ta41 m 2 Ct 0 k z) fun a k=>sB (cs:=[I Aa.2.1.fPallet,I Aa.2.1.fX,I Aa.2.1.fY,I Aa.2.1.fZ]) (ps:=[(0,.tmp 96)]) te27 m k z (by exact fC z fN) fun Bd Gj Fq a k m e Dp=>?_;have Bo:=ow_bx Dp ([Aa.2.1]:List Spot) z z z;refine sv k z (r_build bt29 k (cs:=#[(.slice (some ⟨Bb,0,none⟩) 1 1),(.slice (some ⟨Bd,0,none⟩) 1 1)]) (ps:=[(0,.tmp 95),(1,.tmp 97)]) z z (fillc z z z (fillc z (rd_c (Enc.ow_rd Bo)) z z))) fun a k=>oE h fun Fa Cn h=>cC k m call9 z (c_impl_PlanText fu (m.te hT) _ (show rd _ _ [(.slice (some ⟨Bb,0,none⟩) 1 1),(.slice (some ⟨Bd,0,none⟩) 1 1)] ((⟨([Aa.1]:List Carton),([Aa.2.1]:List Spot)⟩:Plan):Plan) from ⟨_,_,_,_,z,z,(rd_bx1 (m.y Cb 1 z) (mkCarton (m.q Bn 4 z))),(m.q Bo 0 z)⟩) Cn) fun Fk e a k m=>pN 1 k z fun a k=>oE h fun Gc Di h=>?_;refine sv k z (r_cat Di k z z z) fun a k=>pN 3 k z fun a k=>nn (wp_ret (fS h k m z z))
   refine wr (pN 2 k z fun a k=>sv k z (r_neb k underlying4 z z z) fun a k=>pN 1 k z fun a k=>bsplit (!(Ar.2 == Cj.2)) (fun Ae=>?_) (fun Ae=>?_))
   · have h:=bif_t Ae h;refine rB k 77 z Ae fun k=>pN 13 k z fun a k=>?_;have k:=k.keep [12,13,14,15,90] z;refine nn (wp_cond_true (k.ev z) (wr (pN 1 k z fun a k=>nn (wp_ret (rt_then ?_)))));refine fS h k m z z
   have h:=bif_f Ae h;refine rB k 77 z Ae fun k=>pN 2 k z fun a k=>bsplit (Ar.2) (fun Am=>?_) (fun Am=>?_)
   · have h:=bif_t Am h;refine rB k 79 z Am fun k=>sv k z (rL ta29 m 9 Dm 0 k z) fun a k=>oE h fun Dg Bt h=>cC k m call9 z (c_impl_PlanText fu (m.te hT) _ (mkPlan (m.q Bi 10 z) (m.q Bl 11 z)) Bt) fun Es e a k m=>pN 5 k z fun a k=>bsplit (!(Dg.toList == Cr.toList)) (fun Ad=>?_) (fun Ad=>?_)
     · have h:=bif_t Ad h;refine rB k 86 z Ad fun k=>pN 4 k z fun a k=>?_;have k:=k.keep [12,13,14,15,90] z;refine nn (wp_cond_true (k.ev z) (wr (pN 1 k z fun a k=>nn (wp_ret (rt_then ?_)))));refine fS h k m z z
     have h:=bif_f Ad h;refine rB k 86 z Ad fun k=>pN 2 k z fun a k=>sv k z (r_neb k underlying4 z z z) fun a k=>pN 1 k z fun a k=>?_;have k:=k.keep [12,13,14,15,90] z;refine nn (cI h k z (fun Bz h=>?_) fun Bz h=>?_)
     · refine wr (pN 1 k z fun a k=>nn (wp_ret (rt_then ?_)));refine fS h k m z z
     refine wp_skip (nm_then ?_);exact ⟨k.keep [12,13,14,15] z,m.sl [4,3,5] z,h⟩
   have h:=bif_f Am h;refine rB k 79 z Am fun k=>pN 9 k z fun a k=>sv k z (r_neb k underlying4 z z z) fun a k=>pN 1 k z fun a k=>?_;have k:=k.keep [12,13,14,15,90] z;refine nn (cI h k z (fun Dr h=>?_) fun Dr h=>?_)
   · refine wr (pN 1 k z fun a k=>nn (wp_ret (rt_then ?_)));refine fS h k m z z
   refine wp_skip (nm_then ?_);exact ⟨k.keep [12,13,14,15] z,m.sl [4,3,5] z,h⟩
 refine wr (pN 1 k z fun a k=>sv k z (rL ta29 m 3 Ap 0 k z) fun a k=>oE h fun Da Br h=>cC k m call11 z (c_spec_PlanText fu _ (mkPlan (m.q Ag 4 z) (m.q Ai 5 z)) Br) fun Fr e a k m=>pN 2 k z fun a k=>bsplit (!(Ci.toList == Da.toList)) (fun Ah=>?_) (fun Ah=>?_))
 · have h:=bif_t Ah h;refine rB k 34 z Ah fun k=>pN 13 k z fun a k=>?_;have k:=k.keep [0,47] z;refine nn (wp_cond_true (k.ev z) (wr (pN 1 k z fun a k=>nn (wp_ret (rt_then ?_)))));refine fS h k m z z
 have h:=bif_f Ah h;refine rB k 34 z Ah fun k=>pN 4 k z fun a k=>bsplit (!Bf.2) (fun Al=>?_) (fun Al=>?_)
 · have h:=bif_t Al h;refine rB k 38 z Al fun k=>pN 9 k z fun a k=>?_;have k:=k.keep [0,47] z;refine nn (wp_cond_true (k.ev z) (wr (pN 1 k z fun a k=>nn (wp_ret (rt_then ?_)))));refine fS h k m z z
 have h:=bif_f Al h;refine rB k 38 z Al fun k=>sv k z (rL ta29 m 3 Ap 0 k z) fun a k=>oE h fun Du Bw h=>cC k m call12 z (c_spec_PlanOk fu _ (mkPlan (m.q Ag 4 z) (m.q Ai 5 z)) Bw) fun Gf e a k m=>pN 1 k z fun a k=>bsplit (Du) (fun Ak=>?_) (fun Ak=>?_)
 · have h:=bif_t Ak h;refine rB k 41 z Ak fun k=>sv k z (rL ta29 m 3 Ap 0 k z) fun a k=>sv k z (rL ta29 m 0 Cz 0 k z) fun a k=>oE h fun Ey Dk h=>cC k m call13 z (c_spec_PlanSame fu _ _ (mkPlan (m.q Ag 4 z) (m.q Ai 5 z)) (mkPlan (m.q Bj 1 z) (m.q Bq 2 z)) Dk) fun Ge e a k m=>pN 3 k z fun a k=>?_;have k:=k.keep [0,47] z;refine nn (cI h k z (fun Ch h=>?_) fun Ch h=>?_)
   · refine wr (pN 1 k z fun a k=>nn (wp_ret (rt_then ?_)));refine fS h k m z z
   refine wp_skip (nm_then ?_);exact ⟨k.keep [0] z,m.sl [] z,h⟩
 have h:=bif_f Ak h;refine rB k 41 z Ak fun k=>pN 6 k z fun a k=>?_;have k:=k.keep [0,47] z;refine nn (wp_cond_false (k.ev z) (wp_skip (nm_then ?_)));exact ⟨k.keep [0] z,m.sl [] z,h⟩

end Go.Proofs.YtpcmapfabndggabGreatDoor
