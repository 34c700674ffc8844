/- FnExactVerify: the walks of functions that it reaches (ExactVerifyBWi,part 6). Printed by gen.py. -/
import Derived.Test.YthkaklkinepfkaaGreatDoorExactVerifyBWi5
set_option maxRecDepth 20000
set_option linter.unusedSimpArgs false
set_option linter.unusedVariables false
set_option linter.unnecessarySimpa false
namespace Go.Proofs.YthkaklkinepfkaaGreatDoor
open Go Go.RowKit
open Enc (rd ow)
open Arg (argv)
open Ret (retv)
open Go.Proofs.Tryz

theorem c_impl_Check (fu) {w0} (r1 x5) {Au F3} (Bi:rd w0 F3 Au r1) {As F7} (Bk:rd w0 F7 As x5) {r} (h:d_impl_Check fu r1 x5 = some r):cS 52 [.agg Au.toArray,.agg As.toArray] w0 (I r):=by
 refine eg func52 z ntmps52 z fun k m=>?_;obtain ⟨v9,By,Ak,De,Ag,Bz,rfl,rfl,Ae,Ab,Ac⟩:=Bi;obtain ⟨Af,Cy,Ah,Cv,rfl,rfl,Aa,Ad⟩:=Bk;refine uc 2 k z fun k=>s_box m k z z z z z z fun At Bq a k m e Al=>s_box m k z z z z z z fun Av Bh a k m e Aj=>oE h fun Cb Bv h=>gl 7 [bA m 1 Al z] k z fun k=>cC k m call56 z (c_impl_sound fu _ (mkRequest (m.r Ae) (m.r Ab) (m.r Ac)) Bv) fun Cz e a k m=>ul 3 k z fun k=>cJ h k z (fun h=>?_) fun h=>?_
 · refine uc 7 k z fun k=>fS h k m z z
 refine uc 2 k z fun k=>cg (fun a w=>K 38 [(2,pt At),(3,pt Av)] a ∧ St [] w0 w [([At],Bq),([Av],Bh)] ∧ d_impl_Check_J1 fu r1 x5 = some r) ?_ ?_
 · rintro a Cm ⟨k,m,h⟩;refine oE h fun Cj Bn h=>gc 3 [bA m 1 Aj z] k z fun k=>sL k m call96 z (c_impl_allUnits fu _ (mkPlan (m.r Aa) (m.r Ad)) Bn) fun Cx Ck Bs Ao k m=>oE h fun Cd Az h=>ul 6 k z fun k=>sC k call97 z (c_slices_Sort_int_int fu _ (m.v Ao 0 z) Az) fun Cs Df hR=>?_;obtain ⟨Cw,rfl,e,Be,Am⟩:=hR;refine ⟨_,z,fun a k=>?_⟩;have m:=m.mut 0 z e _ (fun b hb=>⟨Be b hb,Enc.rd_lt (Enc.ow_rd Am) b hb⟩) (Enc.ow_nd Am);refine oE h fun Cq Bp h=>gl 7 [bA m 1 Al z] k z fun k=>sL k m call100 z (c_impl_Units fu _ (mkRequest (m.r Ae) (m.r Ab) (m.r Ac)) Bp) fun Cr Co Aw Ar k m=>oE h fun Cp Bj h=>gl 1 [lF (Enc.ow_rd Ar)] k z fun k=>sL k m call99 z (c_impl_places fu _  Bj) fun Cg Bw Ax Ap k m=>oE h fun Db Bl h=>cC k m call98 z (c_slices_Equal_int_int fu _ _ (m.q Am 2 z) (m.q Ap 0 z) Bl) fun Cl e a k m=>ul 3 k z fun k=>cJ h k z (fun h=>?_) fun h=>?_
   · refine uc 7 k z fun k=>fS h k m z z
   refine oE h fun Bx Bt h=>gc 7 [bA m 3 Al z,bA m 4 Aj z] k z fun k=>cC k m call101 z (c_impl_cartonFault fu _ _ (mkRequest (m.r Ae) (m.r Ab) (m.r Ac)) (mkPlan (m.r Aa) (m.r Ad)) Bt) fun Dc e a k m=>ul 9 k z fun k=>cJ h k z (fun h=>?_) fun h=>?_
   · refine uc 8 k z fun k=>fS h k m z z
   refine oE h fun Ch Bb h=>gc 6 [bA m 3 Al z,bA m 4 Aj z] k z fun k=>cC k m call102 z (c_impl_spotFault fu _ _ (mkRequest (m.r Ae) (m.r Ab) (m.r Ac)) (mkPlan (m.r Aa) (m.r Ad)) Bb) fun Ca e a k m=>ul 4 k z fun k=>fS h k m z z
 refine oE h fun Bg Ba h=>gc 3 [bA m 0 Aj z] k z fun k=>cC k m call34 z (c_impl_PlanOk fu _ (mkPlan (m.r Aa) (m.r Ad)) Ba) fun Ce e a k m=>pN 2 k z fun a k=>bS h k 13 z (fun _ h k=>?_) fun _ h k=>?_
 · refine ul 14 k z fun k=>fS h k m z z
 refine oE h fun Cu Bu h=>gl 2 [bF m 0 Aj z] k z fun k=>cC k m call94 z (c_slices_ContainsFunc_impl_Carton_impl_Carton fu _ _ (m.r Aa) ⟨95,[],z,call95,fun w Ci Dd r e Aq hx=>by obtain ⟨_,_,rfl,Aq⟩:=Aq; have m:=m.step e; exact c_impl_Check_1 fu _ Aq hx⟩ Bu) fun Da e a k m=>ul 3 k z fun k=>cJ h k z (fun h=>?_) fun h=>?_
 · refine uc 7 k z fun k=>fS h k m z z
 refine uc 2 k z fun k=>?_;exact ⟨k.p z,m.sl [1,0] z,h⟩
theorem c_impl_Verify (fu) {w0} (hT:Te Tryz.prog w0) (Aj Af) {r} (h:d_impl_Verify fu Aj Af = some r):cS 22 [.string (Aj),.string (Af)] w0 (.tuple #[I r.1,I r.2]):=by
 refine eg func22 z ntmps22 z fun k m=>oE h fun x3 Ap h=>uc 9 k z fun k=>cC k m call50 z (c_impl_ClassOf fu (m.te hT) _  Ap) fun w6 e a k m=>ul 10 k z fun k=>cJ h k z (fun h=>?_) fun h=>?_
 · refine uc 9 k z fun k=>?_;cases h;exact finR2 k z (RV.tmp k z) (RV.tmp k z) ⟨z,m.ext⟩
 refine oE h fun x8 Az h=>uc 5 k z fun k=>sC k call51 z (c_impl_ReadOrder fu (m.te hT) _  Az) fun Bh Bq hR=>?_;obtain ⟨Bi,Bc,rfl,e,Aa,At⟩:=hR;refine ⟨_,z,fun a k=>?_⟩;have m:=m.nw e At Aa;obtain ⟨Al,Br,Ac,Bf,Ai,Bn,rfl,rfl,Ak,Ad,Ae,_⟩:=Aa;have m:=m.split2;have m:=m.split2at1;refine pN 3 k z fun a k=>s_alloc m k zeroValue55 z z z z z fun Bs Bo a k m e Bd=>sT sizeOf55 m 0 Bd 0 k z (allc z (allc z (allc z (allc z (allc z (allc z (allc (rd_o (Enc.ow_rd Ak)) (allc (rd_o (Enc.ow_rd Ad)) (allc z (allc (rd_o (Enc.ow_rd Ae)) alln)))))))))) fun Bw a k e m Aq=>oE h fun Av Ba h=>ul 6 k z fun k=>sC k call12 z (c_impl_ReadPlan fu (m.te hT) _  Ba) fun Bm Be hR=>?_;obtain ⟨Bg,Ax,rfl,e,Ab,Ar⟩:=hR;refine ⟨_,z,fun a k=>?_⟩;have m:=m.nw e Ar Ab;obtain ⟨Ah,Bj,Ag,Bl,rfl,rfl,Am,Ao,_⟩:=Ab;have m:=m.split2;refine pN 3 k z fun a k=>s_alloc m k zeroValue27 z z z z z fun Bk Bu a k m e Au=>sT sizeOf27 m 0 Au 0 k z (allc (rd_o (Enc.ow_rd Am)) (allc (rd_o (Enc.ow_rd Ao)) alln)) fun Bv a k e m Ay=>ul 10 k z fun k=>cJ h k z (fun h=>?_) fun h=>?_
 · refine uc 8 k z fun k=>?_;cases h;exact finR2 k z (RV.tmp k z) (RV.tmp k z) ⟨z,m.ext⟩
 refine oE h fun Bp As h=>gc 6 [bA m 3 Aq z,bA m 0 Ay z] k z fun k=>cC k m call52 z (c_impl_Check fu _ _ (mkRequest (m.q Ak 4 z) (m.q Ad 5 z) (m.q Ae 6 z)) (mkPlan (m.q Am 1 z) (m.q Ao 2 z)) As) fun Bt e a k m=>ul 5 k z fun k=>?_;cases h;exact finR2 k z (RV.tmp k z) (RV.tmp k z) ⟨z,m.ext⟩

end Go.Proofs.YthkaklkinepfkaaGreatDoor
