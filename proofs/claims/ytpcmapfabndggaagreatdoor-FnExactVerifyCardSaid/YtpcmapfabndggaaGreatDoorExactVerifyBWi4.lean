/- FnExactVerify: the walks of functions that it reaches (ExactVerifyBWi,part 4). Printed by gen.py. -/
import Derived.Test.YtpcmapfabndggaaGreatDoorExactVerifyBWi3
set_option maxRecDepth 20000
set_option linter.unusedSimpArgs false
set_option linter.unusedVariables false
set_option linter.unnecessarySimpa false
namespace Go.Proofs.YtpcmapfabndggaaGreatDoor
open Go Go.RowKit
open Enc (rd ow)
open Arg (argv)
open Ret (retv)
open Go.Proofs.Tryz

theorem c_impl_Check (fu:Nat) {w0:World} (r1:Request) (x5:Plan) {As:List Value} {F3:List Nat} (Bc:rd w0 F3 As r1) {Av:List Value} {F7:List Nat} (Bo:rd w0 F7 Av x5) {r:Int}
    (h:d_impl_Check fu r1 x5 = some r) :
    Calls Tryz.prog 10 #[.agg As.toArray,.agg Av.toArray] w0 fun e w=>e = .returned (I r) ∧ Ext [] w0 w:=by
 refine en (vs:=[_,_]) func10 z ntmps10 z fun a k m=>?_;obtain ⟨v9,Cg,Ag,Co,Af,Cv,rfl,rfl,Ac,Ad,Ae⟩:=Bc;obtain ⟨Ai,Cy,Aj,Da,rfl,rfl,Aa,Ab⟩:=Bo;unfold d_impl_Check at h;refine wr (s_box (cs:=(cR r1 v9 Ag Af)) m k z z z z z z fun Au Bu a k m e Al=>s_box (cs:=[Ai,Aj]) m k z z z z z z fun At Bp a k m e Ah=>pN 1 k z fun a k=>nn (wp_seq (wr (sv k z (rL ta30 m 1 Al 0 k z) fun a k=>oE h fun Ch Bf h=>?_))));refine cC k m call21 z (c_impl_sound fu _ (mkRequest (m.r Ac) (m.r Ad) (m.r Ae)) Bf) fun Cn e a k m=>pN 1 k z fun a k=>nn (cI h k z (fun Aw h=>?_) fun Aw h=>?_)
 · refine wr (pN 1 k z fun a k=>nn (wp_ret (rt_then ?_)));refine fS h k m z z
 refine wp_skip (nm_then ?_);refine c_cut (fun a w=>K 38 [(2,pt Au),(3,pt At)] a ∧ St [] w0 w [([Au],Bu),([At],Bp)] ∧ d_impl_Check_J1 fu r1 x5 = some r) ?_ ?_
 · rintro a Cs ⟨k,m,h⟩;unfold d_impl_Check_J1 at h;refine wr (sv k z (rL ta35 m 1 Ah 0 k z) fun a k=>oE h fun Cq Bh h=>sC k call35 z (c_impl_allUnits fu _ (mkPlan (m.r Aa) (m.r Ab)) Bh) fun Cj Cd hR=>?_);obtain ⟨Bw,Ay,rfl,e,Ao,Br⟩:=hR;refine ⟨_,z,fun a k=>?_⟩;have m:=m.nw e Br Ao;refine pN 1 k z fun a k=>nn (wr (pN 1 k z fun a k=>oE h fun Cf Ax h=>sC k call36 z (c_slices_Sort_int_int fu _ (m.v Ao 0 z) Ax) fun Cu Ct hR=>?_));obtain ⟨Cm,rfl,e,Ba,Ar⟩:=hR;refine ⟨_,z,fun a k=>?_⟩;have m:=m.mut 0 z e _ (fun b hb=>⟨Ba b hb,Enc.rd_lt (Enc.ow_rd Ar) b hb⟩) (Enc.ow_nd Ar);refine nn (wp_seq (wr (pN 1 k z fun a k=>sv k z (rL ta30 m 1 Al 0 k z) fun a k=>oE h fun Ca Bk h=>sC k call39 z (c_impl_Units fu _ (mkRequest (m.r Ac) (m.r Ad) (m.r Ae)) Bk) fun Bz Bx hR=>?_)));obtain ⟨De,Bq,rfl,e,Aq,Bl⟩:=hR;refine ⟨_,z,fun a k=>?_⟩;have m:=m.nw e Bl Aq;refine sv k z (r_len (α:=Int) (Enc.ow_rd Aq) k underlying41 z z) fun a k=>oE h fun Cx Az h=>sC k call38 z (c_impl_places fu _  Az) fun Dd Cp hR=>?_;obtain ⟨Cl,Be,rfl,e,Ap,Bi⟩:=hR;refine ⟨_,z,fun a k=>?_⟩;have m:=m.nw e Bi Ap
   refine oE h fun Cr Bj h=>cC k m call37 z (c_slices_Equal_int_int fu _ _ (m.q Ar 2 z) (m.q Ap 0 z) Bj) fun By e a k m=>pN 1 k z fun a k=>nn (cI h k z (fun Bs h=>?_) fun Bs h=>?_)
   · refine wr (pN 1 k z fun a k=>nn (wp_ret (rt_then ?_)));refine fS h k m z z
   refine wp_skip (nm_then ?_);refine wp_seq (wr (sv k z (rL ta30 m 3 Al 0 k z) fun a k=>sv k z (rL ta35 m 4 Ah 0 k z) fun a k=>oE h fun Cc Bd h=>cC k m call40 z (c_impl_cartonFault fu _ _ (mkRequest (m.r Ac) (m.r Ad) (m.r Ae)) (mkPlan (m.r Aa) (m.r Ab)) Bd) fun Cw e a k m=>pN 1 k z fun a k=>nn (wr (pN 2 k z fun a k=>nn ?_))));refine cI h k z (fun Bm h=>?_) fun Bm h=>?_
   · refine wr (pN 2 k z fun a k=>nn (wp_ret (rt_then ?_)));refine fS h k m z z
   refine wp_skip (nm_then ?_);refine wr (sv k z (rL ta30 m 3 Al 0 k z) fun a k=>sv k z (rL ta35 m 4 Ah 0 k z) fun a k=>oE h fun Ck Bv h=>cC k m call41 z (c_impl_spotFault fu _ _ (mkRequest (m.r Ac) (m.r Ad) (m.r Ae)) (mkPlan (m.r Aa) (m.r Ab)) Bv) fun Db e a k m=>pN 1 k z fun a k=>nn (wp_ret (fS h k m z z)))
 refine wr (sv k z (rL ta35 m 0 Ah 0 k z) fun a k=>oE h fun Bt Bg h=>cC k m call12 z (c_impl_PlanOk fu _ (mkPlan (m.r Aa) (m.r Ab)) Bg) fun Ci e a k m=>pN 2 k z fun a k=>bsplit (!Bt) (fun Ak=>?_) (fun Ak=>?_))
 · have h:=bif_t Ak h;refine rB k 13 z Ak fun k=>pN 4 k z fun a k=>nn (wp_cond_true (k.ev z) (wr (pN 1 k z fun a k=>nn (wp_ret (rt_then ?_)))));refine fS h k m z z
 have h:=bif_f Ak h;refine rB k 13 z Ak fun k=>fl fa35_0 t132 m 0 Ah k z z fun a k=>oE h fun Cb Bb h=>cC k m call33 z (c_slices_ContainsFunc_impl_Carton_impl_Carton fu _ _ (m.r Aa) ⟨34,[],z,call34,fun w Cz Dc r e Am hx=>by obtain ⟨_,_,rfl,Am⟩:=Am; have m:=m.step e; exact c_impl_Check_1 fu _ Am hx⟩ Bb) fun Ce e a k m=>pN 1 k z fun a k=>nn (cI h k z (fun Bn h=>?_) fun Bn h=>?_)
 · refine wr (pN 1 k z fun a k=>nn (wp_ret (rt_then ?_)));refine fS h k m z z
 refine wp_skip (nm_then ?_);exact ⟨k.keep [2,3] z,m.sl [1,0] z,h⟩
theorem c_impl_Verify (fu:Nat) {w0:World} (hT:Te Tryz.prog w0) (Af:ByteArray) (Ai:ByteArray)  {r:Int × Int}
    (h:d_impl_Verify fu Af Ai = some r) :
    Calls Tryz.prog 19 #[.string (Af),.string (Ai)] w0 fun e w=>e = .returned (.tuple #[I r.1,I r.2]) ∧ Ext [] w0 w:=by
 refine en (vs:=[_,_]) func19 z ntmps19 z fun a k m=>?_;unfold d_impl_Verify at h;refine wr (pN 2 k z fun a k=>nn (wr (pN 1 k z fun a k=>oE h fun x3 Ax h=>cC k m call53 z (c_impl_ClassOf fu (m.te hT) _  Ax) fun w6 e a k m=>pN 1 k z fun a k=>nn (wp_seq (wr (pN 2 k z fun a k=>nn (cI h k z (fun Bd h=>?_) fun Bd h=>?_)))))))
 · refine wr (pN 3 k z fun a k=>nn (wp_ret (rt_then ?_)));cases h;exact finR2 k z (RV.tmp k z) (RV.tmp k z) ⟨z,m.ext⟩
 refine wp_skip (nm_then ?_);refine wr (pN 1 k z fun a k=>oE h fun x8 Ay h=>sC k call54 z (c_impl_ReadOrder fu (m.te hT) _  Ay) fun Bq Bm hR=>?_);obtain ⟨Bp,Av,rfl,e,Aa,Ap⟩:=hR;refine ⟨_,z,fun a k=>?_⟩;have m:=m.nw e Ap Aa;obtain ⟨Am,Bt,Al,Bl,Aj,Bj,rfl,rfl,Ag,Ak,Ah,_⟩:=Aa;have m:=m.split2;have m:=m.split2at1;refine pN 3 k z fun a k=>s_alloc (cs:=[I 0,I 0,I 0,I 0,I 0,I 0,.slice none 0 0,.slice none 0 0,I 0,.slice none 0 0]) m k zeroValue30 z z z z z fun Bs Bk a k m e Aw=>sT (cs':=(cR x8.1 Am Al Aj)) sizeOf30 m 0 Aw 0 k z (allc z (allc z (allc z (allc z (allc z (allc z (allc (rd_o (Enc.ow_rd Ag)) (allc (rd_o (Enc.ow_rd Ak)) (allc z (allc (rd_o (Enc.ow_rd Ah)) alln)))))))))) fun Bn a k e m Ba=>pN 1 k z fun a k=>nn (wr (pN 1 k z fun a k=>oE h fun Bc Ar h=>?_));refine sC k call57 z (c_impl_ReadPlan fu (m.te hT) _  Ar) fun Bh Bf hR=>?_;obtain ⟨Be,As,rfl,e,Ab,Au⟩:=hR;refine ⟨_,z,fun a k=>?_⟩;have m:=m.nw e Au Ab;obtain ⟨Ac,Bo,Ao,Bw,rfl,rfl,Ae,Ad,_⟩:=Ab;have m:=m.split2
 refine pN 3 k z fun a k=>s_alloc (cs:=[.slice none 0 0,.slice none 0 0]) m k zeroValue35 z z z z z fun Bv Br a k m e Az=>sT (cs':=[Ac,Ao]) sizeOf35 m 0 Az 0 k z (allc (rd_o (Enc.ow_rd Ae)) (allc (rd_o (Enc.ow_rd Ad)) alln)) fun Bg a k e m At=>pN 1 k z fun a k=>nn (wp_seq (wr (pN 2 k z fun a k=>?_)));have k:=k.keep [7,9,27] z;refine nn (cI h k z (fun Aq h=>?_) fun Aq h=>?_)
 · refine wr (pN 2 k z fun a k=>nn (wp_ret (rt_then ?_)));cases h;exact finR2 k z (RV.tmp k z) (RV.tmp k z) ⟨z,m.ext⟩
 refine wp_skip (nm_then ?_);refine wr (sv k z (rL ta30 m 3 Ba 0 k z) fun a k=>sv k z (rL ta35 m 0 At 0 k z) fun a k=>oE h fun Bu Bb h=>cC k m call10 z (c_impl_Check fu _ _ (mkRequest (m.q Ag 4 z) (m.q Ak 5 z) (m.q Ah 6 z)) (mkPlan (m.q Ae 1 z) (m.q Ad 2 z)) Bb) fun Bi e a k m=>pN 2 k z fun a k=>nn (wp_ret ?_));cases h;exact finR2 k z (RV.tmp k z) (RV.tmp k z) ⟨z,m.ext⟩

end Go.Proofs.YtpcmapfabndggaaGreatDoor
