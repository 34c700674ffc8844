/- FnTexts: the walks of functions that it reaches (TextsW,part 1). Printed by gen.py. -/
import Derived.Test.YthkaklkinepfkaaGreatDoorTextsBWi1
import Derived.Test.YthkaklkinepfkaaGreatDoorTextsBWs5
import Derived.Test.YthkaklkinepfkaaGreatDoorTextsBWl1
import Derived.Test.YthkaklkinepfkaaGreatDoorTextsD
set_option maxRecDepth 20000
set_option linter.unusedSimpArgs false
set_option linter.unusedVariables false
set_option linter.unnecessarySimpa false
namespace Go.Proofs.YthkaklkinepfkaaGreatDoor
open Go Go.RowKit
open Enc (rd ow)
open Arg (argv)
open Ret (retv)
open Go.Proofs.Tryz


theorem c_laws_FnTexts (fu:Nat) {w0:World} (hT:Te Tryz.prog w0) (Ax:List U8) {v2:Value} {F3:List Nat} (Ab:rd w0 F3 [v2] Ax) {r:Bool}
    (h:d_laws_FnTexts fu Ax = some r) :
    Calls Tryz.prog 3 #[v2] w0 fun e w=>e = .returned (.bool (r)) ∧ Ext [] w0 w:=by
 refine en (vs:=[_]) func3 z ntmps3 z fun a k m=>?_;unfold d_laws_FnTexts at h;refine wr (pN 1 k z fun a k=>nn (wp_seq (wr (pN 1 k z fun a k=>oE h fun x5 Cl h=>cC k m call9 z (c_laws_big fu _ (m.r Ab) Cl) fun w9 e a k m=>nn (cI h k z (fun Dc h=>?_) fun Dc h=>?_)))))
 · refine wr (pN 1 k z fun a k=>nn (wp_ret (rt_then ?_)));refine fS h k m z z
 refine wp_skip (nm_then ?_);refine wr (pN 1 k z fun a k=>oE h fun Aq Dx h=>sC k call10 z (c_spec_DrawPlanText fu _ (m.r Ab) Dx) fun Gp Eo hR=>?_);obtain ⟨Gq,Cb,rfl,e,As,Cr⟩:=hR;refine ⟨_,z,fun a k=>?_⟩;have m:=m.nw e Cr As;obtain ⟨Al,Ez,Ag,Ey,rfl,rfl,Ao,Ad,_⟩:=As;have m:=m.split2;refine s_alloc (cs:=[.slice none 0 0,.slice none 0 0]) m k zeroValue27 z z z z z fun Ep Fa a k m e Cy=>sT (cs':=[Al,Ag]) sizeOf27 m 0 Cy 0 k z (allc (rd_o (Enc.ow_rd Ao)) (allc (rd_o (Enc.ow_rd Ad)) alln)) fun Eu a k e m Ap=>nn (wr (sv k z (rL ta27 m 0 Ap 0 k z) fun a k=>oE h fun Dv Dh h=>cC k m call11 z (c_impl_PlanText fu (m.te hT) _ (mkPlan (m.q Ao 1 z) (m.q Ad 2 z)) Dh) fun Ej e a k m=>pN 1 k z fun a k=>nn (wr (pN 1 k z fun a k=>oE h fun Bb Cp h=>sC k call12 z (c_impl_ReadPlan fu (m.te hT) _  Cp) fun Ee Ea hR=>?_))));obtain ⟨Fi,Dr,rfl,e,Au,Bw⟩:=hR;refine ⟨_,z,fun a k=>?_⟩;have m:=m.nw e Bw Au;obtain ⟨Ba,Gi,Be,Fw,rfl,rfl,Bp,Bk,_⟩:=Au;have m:=m.split2
 refine pN 3 k z fun a k=>s_alloc (cs:=[.slice none 0 0,.slice none 0 0]) m k zeroValue27 z z z z z fun Fp Eh a k m e Di=>sT (cs':=[Ba,Be]) sizeOf27 m 0 Di 0 k z (allc (rd_o (Enc.ow_rd Bp)) (allc (rd_o (Enc.ow_rd Bk)) alln)) fun Fh a k e m By=>pN 1 k z fun a k=>nn (c_cut (fun a w=>K 104 [(0,v2)] a ∧ St [] w0 w [] ∧ d_laws_FnTexts_J2 fu Ax = some r) ?_ ?_)
 · rintro a Fe ⟨k,m,h⟩;unfold d_laws_FnTexts_J2 at h;refine wr (pN 1 k z fun a k=>oE h fun Ck Cc h=>cC k m call16 z (c_spec_DrawReadPlan fu _ (m.r Ab) Cc) fun Er e a k m=>pN 1 k z fun a k=>nn (wr (pN 1 k z fun a k=>oE h fun Ar Bz h=>sC k call12 z (c_impl_ReadPlan fu (m.te hT) _  Bz) fun Eb Ga hR=>?_)));obtain ⟨Gh,Cg,rfl,e,At,Dy⟩:=hR;refine ⟨_,z,fun a k=>?_⟩;have m:=m.nw e Dy At;obtain ⟨Bm,Ed,Bg,Fd,rfl,rfl,Bj,Bi,_⟩:=At;have m:=m.split2;refine pN 3 k z fun a k=>s_alloc (cs:=[.slice none 0 0,.slice none 0 0]) m k zeroValue27 z z z z z fun Gn Ft a k m e Dq=>sT (cs':=[Bm,Bg]) sizeOf27 m 0 Dq 0 k z (allc (rd_o (Enc.ow_rd Bj)) (allc (rd_o (Enc.ow_rd Bi)) alln)) fun Gg a k e m Cd=>pN 1 k z fun a k=>nn (wr (pN 1 k z fun a k=>oE h fun Ca Dl h=>sC k call17 z (c_spec_ReadPlan fu _  Dl) fun Ek Fz hR=>?_));obtain ⟨Ew,Dz,rfl,e,Az,Da⟩:=hR;refine ⟨_,z,fun a k=>?_⟩;have m:=m.nw e Da Az;obtain ⟨Du,Fy,Cs,Gl,rfl,rfl,Do,Dd,_⟩:=Az;have m:=m.split2
   refine pN 3 k z fun a k=>s_alloc (cs:=[.slice none 0 0,.slice none 0 0]) m k zeroValue27 z z z z z fun Fg Gb a k m e Dm=>sT (cs':=[Du,Cs]) sizeOf27 m 0 Dm 0 k z (allc (rd_o (Enc.ow_rd Do)) (allc (rd_o (Enc.ow_rd Dd)) alln)) fun En a k e m Ef=>pN 1 k z fun a k=>nn (wr (pN 1 k z fun a k=>oE h fun Bo Bv h=>cC k m call18 z (c_spec_DrawLineOf fu _ (m.r Ab) Bv) fun Fj e a k m=>pN 1 k z fun a k=>nn (wr (pN 1 k z fun a k=>oE h fun Aa Dw h=>sC k call19 z (c_impl_LineOf fu (m.te hT) _  Dw) fun Fb Cn hR=>?_))));obtain ⟨Fv,Bl,rfl,e,Aw,Ce⟩:=hR;refine ⟨_,z,fun a k=>?_⟩;have m:=m.nw e Ce Aw;obtain ⟨Av,_,rfl,rfl,Bc,_⟩:=Aw;refine pN 4 k z fun a k=>s_alloc (cs:=[I 0,I 0,.slice none 0 0]) m k zeroValue37 z z z z z fun Bq Fl a k m e Cu=>s_alloc (cs:=[I 0,I 0,I 0,I 0]) m k zeroValue39 z z z z z fun Bf Gd a k m e Cm=>sT (cs':=[I Aa.1.fType,I Aa.1.fGroup,Av]) sizeOf37 m 1 Cu 0 k z (allc z (allc z (allc (rd_o (Enc.ow_rd Bc)) alln))) fun Ch a k e m Cw=>sT (cs':=[I Aa.2.1.fPallet,I Aa.2.1.fX,I Aa.2.1.fY,I Aa.2.1.fZ]) sizeOf39 m 0 Cm 0 k z z fun Ci a k e m Ds=>pN 1 k z fun a k=>?_
   have k:=k.keep [7,8,9,11,12,13,14,15] z;refine nn (wr (pN 1 k z fun a k=>oE h fun Ac Co h=>sC k call20 z (c_spec_LineOf fu _  Co) fun Fn Ff hR=>?_));obtain ⟨Eg,Dp,rfl,e,Ay,Bs⟩:=hR;refine ⟨_,z,fun a k=>?_⟩;have m:=m.nw e Bs Ay;obtain ⟨Br,_,rfl,rfl,Dn,_⟩:=Ay;refine pN 4 k z fun a k=>s_alloc (cs:=[I 0,I 0,.slice none 0 0]) m k zeroValue37 z z z z z fun Em Fc a k m e Df=>s_alloc (cs:=[I 0,I 0,I 0,I 0]) m k zeroValue39 z z z z z fun Ei Gc a k m e Cz=>sT (cs':=[I Ac.1.fType,I Ac.1.fGroup,Br]) sizeOf37 m 1 Df 0 k z (allc z (allc z (allc (rd_o (Enc.ow_rd Dn)) alln))) fun Es a k e m Fq=>sT (cs':=[I Ac.2.1.fPallet,I Ac.2.1.fX,I Ac.2.1.fY,I Ac.2.1.fZ]) sizeOf39 m 0 Cz 0 k z z fun Gr a k e m Fm=>pN 1 k z fun a k=>nn ?_;refine c_cut (fun a w=>K 104 [(12,.string (Bo)),(13,pt Bq),(14,pt Bf),(15,.bool (Aa.2.2))] a ∧ St [] w0 w [([Bq],Ch),([Bf],Ci),(Bl,Cn)] ∧ d_laws_FnTexts_J1 fu Bo Aa = some r) ?_ ?_
   · rintro a Ex ⟨k,m,h⟩;unfold d_laws_FnTexts_J1 at h;refine wr (pN 3 k z fun a k=>bsplit (!Aa.2.2) (fun Ak=>?_) (fun Ak=>?_))
     · have h:=bif_t Ak h;refine rB k 93 z Ak fun k=>pN 11 k z fun a k=>nn (wp_ret (fS h k m z z))
     have h:=bif_f Ak h;refine rB k 93 z Ak fun k=>sv k z (rL ta37 m 0 Cw 0 k z) fun a k=>sB (cs:=[I Aa.1.fType,I Aa.1.fGroup,Av]) (ps:=[(0,.tmp 94)]) te24 m k z (by exact fC z fN) fun Bn Gm Ev a k m e Bu=>sv k z (rL ta39 m 2 Ds 0 k z) fun a k=>sB (cs:=[I Aa.2.1.fPallet,I Aa.2.1.fX,I Aa.2.1.fY,I Aa.2.1.fZ]) (ps:=[(0,.tmp 96)]) te25 m k z (by exact fC z fN) fun Bd Fk Ec a k m e Cx=>?_;have Bh:=ow_bx Cx ([Aa.2.1]:List Spot) z z z;refine sv k z (r_build bt27 k (cs:=#[(.slice (some ⟨Bn,0,none⟩) 1 1),(.slice (some ⟨Bd,0,none⟩) 1 1)]) (ps:=[(0,.tmp 95),(1,.tmp 97)]) z z (fillc z z z (fillc z (rd_c (Enc.ow_rd Bh)) z z))) fun a k=>oE h fun Gj Dt h=>cC k m call11 z (c_impl_PlanText fu (m.te hT) _ (show rd _ _ [(.slice (some ⟨Bn,0,none⟩) 1 1),(.slice (some ⟨Bd,0,none⟩) 1 1)] ((⟨([Aa.1]:List Carton),([Aa.2.1]:List Spot)⟩:Plan):Plan) from ⟨_,_,_,_,z,z,(rd_bx1 (m.y Bu 1 z) (mkCarton (m.q Bc 4 z))),(m.q Bh 0 z)⟩) Dt) fun Et e a k m=>pN 1 k z fun a k=>oE h fun El Bx h=>?_;refine sv k z (r_cat Bx k z z z) fun a k=>pN 3 k z fun a k=>nn (wp_ret (fS h k m z z))
   refine wr (pN 2 k z fun a k=>sv k z (r_neb k underlying4 z z z) fun a k=>pN 1 k z fun a k=>bsplit (!(Ar.2 == Ca.2)) (fun Ai=>?_) (fun Ai=>?_))
   · have h:=bif_t Ai h;refine rB k 77 z Ai fun k=>pN 13 k z fun a k=>?_;have k:=k.keep [12,13,14,15,90] z;refine nn (wp_cond_true (k.ev z) (wr (pN 1 k z fun a k=>nn (wp_ret (rt_then ?_)))));refine fS h k m z z
   have h:=bif_f Ai h;refine rB k 77 z Ai fun k=>pN 2 k z fun a k=>bsplit (Ar.2) (fun Ah=>?_) (fun Ah=>?_)
   · have h:=bif_t Ah h;refine rB k 79 z Ah fun k=>sv k z (rL ta27 m 9 Cd 0 k z) fun a k=>oE h fun Cq Dj h=>cC k m call11 z (c_impl_PlanText fu (m.te hT) _ (mkPlan (m.q Bj 10 z) (m.q Bi 11 z)) Dj) fun Gf e a k m=>pN 5 k z fun a k=>bsplit (!(Cq.toList == Ck.toList)) (fun Am=>?_) (fun Am=>?_)
     · have h:=bif_t Am h;refine rB k 86 z Am fun k=>pN 4 k z fun a k=>?_;have k:=k.keep [12,13,14,15,90] z;refine nn (wp_cond_true (k.ev z) (wr (pN 1 k z fun a k=>nn (wp_ret (rt_then ?_)))));refine fS h k m z z
     have h:=bif_f Am h;refine rB k 86 z Am fun k=>pN 2 k z fun a k=>sv k z (r_neb k underlying4 z z z) fun a k=>pN 1 k z fun a k=>?_;have k:=k.keep [12,13,14,15,90] z;refine nn (cI h k z (fun Cj h=>?_) fun Cj h=>?_)
     · refine wr (pN 1 k z fun a k=>nn (wp_ret (rt_then ?_)));refine fS h k m z z
     refine wp_skip (nm_then ?_);exact ⟨k.keep [12,13,14,15] z,m.sl [4,3,5] z,h⟩
   have h:=bif_f Ah h;refine rB k 79 z Ah fun k=>pN 9 k z fun a k=>sv k z (r_neb k underlying4 z z z) fun a k=>pN 1 k z fun a k=>?_;have k:=k.keep [12,13,14,15,90] z;refine nn (cI h k z (fun Bt h=>?_) fun Bt h=>?_)
   · refine wr (pN 1 k z fun a k=>nn (wp_ret (rt_then ?_)));refine fS h k m z z
   refine wp_skip (nm_then ?_);exact ⟨k.keep [12,13,14,15] z,m.sl [4,3,5] z,h⟩
 refine wr (pN 1 k z fun a k=>sv k z (rL ta27 m 3 Ap 0 k z) fun a k=>oE h fun Dk Cv h=>cC k m call13 z (c_spec_PlanText fu _ (mkPlan (m.q Ao 4 z) (m.q Ad 5 z)) Cv) fun Gk e a k m=>pN 2 k z fun a k=>bsplit (!(Dv.toList == Dk.toList)) (fun Aj=>?_) (fun Aj=>?_))
 · have h:=bif_t Aj h;refine rB k 34 z Aj fun k=>pN 13 k z fun a k=>?_;have k:=k.keep [0,47] z;refine nn (wp_cond_true (k.ev z) (wr (pN 1 k z fun a k=>nn (wp_ret (rt_then ?_)))));refine fS h k m z z
 have h:=bif_f Aj h;refine rB k 34 z Aj fun k=>pN 4 k z fun a k=>bsplit (!Bb.2) (fun Af=>?_) (fun Af=>?_)
 · have h:=bif_t Af h;refine rB k 38 z Af fun k=>pN 9 k z fun a k=>?_;have k:=k.keep [0,47] z;refine nn (wp_cond_true (k.ev z) (wr (pN 1 k z fun a k=>nn (wp_ret (rt_then ?_)))));refine fS h k m z z
 have h:=bif_f Af h;refine rB k 38 z Af fun k=>sv k z (rL ta27 m 3 Ap 0 k z) fun a k=>oE h fun Dg De h=>cC k m call14 z (c_spec_PlanOk fu _ (mkPlan (m.q Ao 4 z) (m.q Ad 5 z)) De) fun Fs e a k m=>pN 1 k z fun a k=>bsplit (Dg) (fun Ae=>?_) (fun Ae=>?_)
 · have h:=bif_t Ae h;refine rB k 41 z Ae fun k=>sv k z (rL ta27 m 3 Ap 0 k z) fun a k=>sv k z (rL ta27 m 0 By 0 k z) fun a k=>oE h fun Ge Ct h=>cC k m call15 z (c_spec_PlanSame fu _ _ (mkPlan (m.q Ao 4 z) (m.q Ad 5 z)) (mkPlan (m.q Bp 1 z) (m.q Bk 2 z)) Ct) fun Fu e a k m=>pN 3 k z fun a k=>?_;have k:=k.keep [0,47] z;refine nn (cI h k z (fun Db h=>?_) fun Db h=>?_)
   · refine wr (pN 1 k z fun a k=>nn (wp_ret (rt_then ?_)));refine fS h k m z z
   refine wp_skip (nm_then ?_);exact ⟨k.keep [0] z,m.sl [] z,h⟩
 have h:=bif_f Ae h;refine rB k 41 z Ae fun k=>pN 6 k z fun a k=>?_;have k:=k.keep [0,47] z;refine nn (wp_cond_false (k.ev z) (wp_skip (nm_then ?_)));exact ⟨k.keep [0] z,m.sl [] z,h⟩

end Go.Proofs.YthkaklkinepfkaaGreatDoor
