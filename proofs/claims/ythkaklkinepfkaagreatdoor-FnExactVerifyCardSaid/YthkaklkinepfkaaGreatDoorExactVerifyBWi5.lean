/- FnExactVerify: the walks of functions that it reaches (ExactVerifyBWi,part 5). Printed by gen.py. -/
import Derived.Test.YthkaklkinepfkaaGreatDoorExactVerifyBWi4
set_option maxRecDepth 20000
set_option linter.unusedSimpArgs false
set_option linter.unusedVariables false
set_option linter.unnecessarySimpa false
namespace Go.Proofs.YthkaklkinepfkaaGreatDoor
open Go Go.RowKit
open Enc (rd ow)
open Arg (argv)
open Ret (retv)
open Go.Proofs.Tryz

theorem c_impl_Cheapest (fu) {w0} (r1 At) {Bc F3} (Bm:rd w0 F3 Bc r1) {v6 F7} (Az:rd w0 F7 [v6] At) {r} (h:d_impl_Cheapest fu r1 At = some r):cS 108 [.agg Bc.toArray,v6] w0 (.tuple #[.agg (Flat.e r.1).toArray,.bool (r.2)]):=by
 refine eg func108 z ntmps108 z fun k m=>?_;obtain ⟨v9,Cd,Ao,Ci,Bb,Ce,rfl,rfl,Ay,Ag,Au⟩:=Bm;refine uc 2 k z fun k=>s_box m k z z z z z z fun Ap Ax a k m e Aw=>s_alloc m k zeroValue61 z z z z z fun As Ba a k m e Bt=>ul 5 k z fun k=>sv k z (r_build bt61 k (cs:=#[I 0,I 0,I 0,I 0,I 0,I 0,I 0]) (ps:=[]) z z (by kernel_rfl)) fun a k=>s_alloc m k zeroValue61 z z z z z fun Aj Bz a k m e Bk=>sT (cs':=[I 0,I 0,I 0,I 0,I 0,I 0,I 0]) sizeOf61 m 0 Bk 0 k z z fun Bq a k e m Bd=>gl 13 [bF m 2 Aw z,lF Ag] k z fun k=>lG (fun n a w=>∃ Ab:Typ,∃ Ah Ae Ai,K 50 [(1,v6),(2,pt Ap),(4,pt As),(6,pt Aj),(7,.bool (Ae)),(12,Ao),(13,I ((r1.fTypes.length:Int))),(14,I Ai)] a ∧ St [] w0 w [([Ap],Ax),([As],Ba),([Aj],Ah)] ∧ bx Ah Aj [I Ab.fId,I Ab.fW,I Ab.fH,I Ab.fD,I Ab.fTare,I Ab.fGram,I Ab.fCost] 61 ∧ d_impl_Cheapest_L1 fu r1 At n Ab Ae Ai = some r) ?_ fu ?_
 · rintro Bf a Bx ⟨Ab,Ah,Ae,Ai,k,m,Ac,h⟩;refine uc 6 k z fun k=>cJ h k z (fun h=>?_) fun h=>?_
   · refine uc 2 k z fun k=>cg (fun a w=>∃ Ad:Typ,∃ Aq Ar,K 50 [(1,v6),(2,pt Ap),(4,pt As),(6,pt Aj),(7,.bool (Ar)),(12,Ao),(13,I ((r1.fTypes.length:Int))),(14,I Ai)] a ∧ St [] w0 w [([Ap],Ax),([As],Ba),([Aj],Aq)] ∧ bx Aq Aj [I Ad.fId,I Ad.fW,I Ad.fH,I Ad.fD,I Ad.fTare,I Ad.fGram,I Ad.fCost] 61 ∧ d_impl_Cheapest_J1 fu (d_impl_Cheapest_L1 fu r1 At Bf) Ai Ad Ar = some r) ?_ ?_
     · rintro a Cb ⟨Ad,Aq,Ar,k,m,Bu,h⟩;refine uc 5 k z fun k=>?_;exact ⟨_,_,_,_,k.p z,m.sl [0,1,2] z,Bu,h⟩
     refine oE h fun Aa Av h=>gc 5 [iF Ag Av,eA (m.r Ag) Av] k z fun k=>s_alloc m k zeroValue61 z z z z z fun Ca Cg a k m e Bi=>sT (cs':=[I Aa.fId,I Aa.fW,I Aa.fH,I Aa.fD,I Aa.fTare,I Aa.fGram,I Aa.fCost]) sizeOf61 m 0 Bi 0 k z z fun Bw a k e m Af=>oE h fun Cc Bj h=>gl 8 [bA m 1 Aw z,bA m 0 Af z] k z fun k=>cC k m call166 z (c_impl_Holds fu _ _ (Aa:Typ) (mkRequest (m.r Ay) (m.r Ag) (m.r Au)) (m.r Az) Bj) fun By e a k m=>ul 3 k z fun k=>cJ h k z (fun h=>?_) fun h=>?_
     · refine uc 4 k z fun k=>?_;exact ⟨_,_,_,k.p z,m.sl [1,2,3] z,Ac,h⟩
     refine uc 7 k z fun k=>bS h k 25 z (fun _ h k=>?_) fun _ h k=>?_
     · refine gl 25 [bA m 0 Af z] k z fun k=>sT (cs':=[I Aa.fId,I Aa.fW,I Aa.fH,I Aa.fD,I Aa.fTare,I Aa.fGram,I Aa.fCost]) sizeOf61 m 3 Ac 0 k z z fun Bg a k e m Br=>ul 4 k z fun k=>?_;exact ⟨_,_,_,k.p z,m.sl [1,2,3] z,Br,h⟩
     refine gl 7 [bF m 0 Af z,bF m 3 Ac z] k z fun k=>bS h k 32 z (fun _ h k=>?_) fun _ h k=>?_
     · refine gl 18 [bA m 0 Af z] k z fun k=>sT (cs':=[I Aa.fId,I Aa.fW,I Aa.fH,I Aa.fD,I Aa.fTare,I Aa.fGram,I Aa.fCost]) sizeOf61 m 3 Ac 0 k z z fun Bh a k e m Bo=>ul 4 k z fun k=>?_;exact ⟨_,_,_,k.p z,m.sl [1,2,3] z,Bo,h⟩
     refine gl 6 [bF m 0 Af z,bF m 3 Ac z] k z fun k=>bS h k 38 z (fun _ h k=>?_) fun _ h k=>?_
     · refine gl 9 [bF m 0 Af z,bF m 3 Ac z] k z fun k=>cJ h k z (fun h=>?_) fun h=>?_
       · refine gc 2 [bA m 0 Af z] k z fun k=>sT (cs':=[I Aa.fId,I Aa.fW,I Aa.fH,I Aa.fD,I Aa.fTare,I Aa.fGram,I Aa.fCost]) sizeOf61 m 3 Ac 0 k z z fun Bn a k e m Be=>ul 4 k z fun k=>?_;exact ⟨_,_,_,k.p z,m.sl [1,2,3] z,Be,h⟩
       refine uc 3 k z fun k=>?_;exact ⟨_,_,_,k.p z,m.sl [1,2,3] z,Ac,h⟩
     refine ul 13 k z fun k=>?_;exact ⟨_,_,_,k.p z,m.sl [1,2,3] z,Ac,h⟩
   refine gc 9 [bA m 2 Ac z] k z fun k=>sT (cs':=[I Ab.fId,I Ab.fW,I Ab.fH,I Ab.fD,I Ab.fTare,I Ab.fGram,I Ab.fCost]) sizeOf61 m 1 Bt 0 k z z fun Ch a k e m Bl=>ul 4 k z fun k=>?_;cases h;exact finR2 k z (RV.cA k z ta61 (Bl.at (m.a 1 z) 0 7 z z z) z) (RV.tmp k z) ⟨z,m.ext⟩
 exact ⟨_,_,_,_,k.p z,m.sl [2,1,0] z,Bd,h⟩
theorem c_impl_cartonFault (fu) {w0} (r1 x5) {Bg F3} (Cr:rd w0 F3 Bg r1) {Ba F7} (Cu:rd w0 F7 Ba x5) {r} (h:d_impl_cartonFault fu r1 x5 = some r):cS 101 [.agg Bg.toArray,.agg Ba.toArray] w0 (I r):=by
 refine eg func101 z ntmps101 z fun k m=>?_;obtain ⟨v9,Dl,Aj,Fd,Ah,Do,rfl,rfl,Ad,Ab,Ac⟩:=Cr;obtain ⟨Al,Eu,Ck,Es,rfl,rfl,Aa,Ei⟩:=Cu;refine uc 2 k z fun k=>s_box m k z z z z z z fun Af As a k m e Ap=>s_box m k z z z z z z fun Ai Av a k m e Ay=>gl 13 [bF m 0 Ay z,lF Aa] k z fun k=>lG (fun n a w=>∃ Ak,K 77 [(2,pt Af),(3,pt Ai),(17,Al),(18,I ((x5.fCartons.length:Int))),(19,I Ak)] a ∧ St [] w0 w [([Af],As),([Ai],Av)] ∧ d_impl_cartonFault_L3 fu r1 x5 n Ak = some r) ?_ fu ?_
 · rintro Cz a Dn ⟨Ak,k,m,h⟩;refine uc 6 k z fun k=>cJ h k z (fun h=>?_) fun h=>?_
   · refine uc 2 k z fun k=>cg (fun a w=>K 77 [(2,pt Af),(3,pt Ai),(17,Al),(18,I ((x5.fCartons.length:Int))),(19,I Ak)] a ∧ St [] w0 w [([Af],As),([Ai],Av)] ∧ d_impl_cartonFault_J1 fu (d_impl_cartonFault_L3 fu r1 x5 Cz) Ak = some r) ?_ ?_
     · rintro a Ef ⟨k,m,h⟩;refine uc 5 k z fun k=>?_;exact ⟨_,k.p z,m.sl [0,1] z,h⟩
     refine oE h fun Bd Bl h=>gc 4 [iF Aa Bl] k z fun k=>?_;obtain ⟨Ee,Et,Di,Cw,Bt,Br⟩:=rd_get Aa (ix_some Bl).2.2;obtain ⟨Ce,_,rfl,rfl,Az⟩:=Cw;refine sv k z (r_ldA ta37 (Bt.agr (m.a00 (Enc.rd_lt Aa)) Br) z k z z) fun a k=>s_alloc m k zeroValue37 z z z z z fun Eb Fe a k m e Bp=>sT sizeOf37 m 0 Bp 0 k z (allc z (allc z (allc (rd_o Az) alln))) fun Ed a k e m Bf=>oE h fun Ae Bo h=>gl 7 [bA m 1 Ap z,bF m 0 Bf z] k z fun k=>cC k m call111 z (c_impl_TypeById fu _ _ (mkRequest (m.r Ad) (m.r Ab) (m.r Ac)) Bo) fun Dv e a k m=>pN 3 k z fun a k=>s_alloc m k zeroValue61 z z z z z fun Dq Ec a k m e Ct=>sT sizeOf61 m 0 Ct 0 k z z fun Ew a k e m Bx=>ul 8 k z fun k=>bS h k 32 z (fun _ h k=>?_) fun _ h k=>?_
     · refine ul 21 k z fun k=>fS h k m z z
     refine oE h fun Dx Dc h=>gl 4 [bA m 2 Ap z,bF m 1 Bf z,bA m 0 Bx z] k z fun k=>cC k m call166 z (c_impl_Holds fu _ _ (Ae.1:Typ) (mkRequest (m.r Ad) (m.r Ab) (m.r Ac)) (m.r Az) Dc) fun Dk e a k m=>ul 4 k z fun k=>cJ h k z (fun h=>?_) fun h=>?_
     · refine uc 11 k z fun k=>fS h k m z z
     refine uc 3 k z fun k=>?_;exact ⟨k.p z,m.sl [2,3] z,h⟩
   refine oE h fun De Ch h=>gc 8 [bA m 0 Ap z] k z fun k=>sL k m call58 z (c_impl_GroupsOf fu _ (mkRequest (m.r Ad) (m.r Ab) (m.r Ac)) Ch) fun Co Bw Bb Am k m=>s_alloc m k zeroValue88 z z z z z fun Aw Dh a k m e Cc=>s_stb1 (cs':=[Bw]) sizeOf88 m 0 Cc 0 k (rd_c (Enc.ow_rd Am)) (rd_o (Enc.ow_rd Am)) z z z z z z z z z fun Da a k e m Cl=>gl 12 [bF m 3 Ay z,lF Aa] k z fun k=>lG (fun n a w=>∃ Ar,K 77 [(2,pt Af),(3,pt Ai),(9,pt Aw),(44,Al),(45,I ((x5.fCartons.length:Int))),(46,I Ar)] a ∧ St [] w0 w [([Af],As),([Ai],Av),([Aw],Da),(Bb,Co)] ∧ d_impl_cartonFault_L2 fu r1 x5 De n Ar = some r) ?_ fu ?_
   · rintro Ek a Ez ⟨Ar,k,m,h⟩;refine uc 6 k z fun k=>cJ h k z (fun h=>?_) fun h=>?_
     · refine oE h fun Be Bk h=>gc 7 [iF Aa Bk] k z fun k=>?_;obtain ⟨Dr,Dp,Dz,Cq,Ca,Df⟩:=rd_get Aa (ix_some Bk).2.2;obtain ⟨Cx,_,rfl,rfl,Ao⟩:=Cq;refine sv k z (r_ldA ta37 (Ca.agr (m.a00 (Enc.rd_lt Aa)) Df) z k z z) fun a k=>s_alloc m k zeroValue37 z z z z z fun Cb Dm a k m e Cn=>sT sizeOf37 m 0 Cn 0 k z (allc z (allc z (allc (rd_o Ao) alln))) fun Du a k e m Bc=>oE h fun Fb Bu h=>gl 7 [bA m 1 Ap z,bF m 0 Bc z] k z fun k=>sL k m call167 z (c_impl_itemsOf fu _ _ (mkRequest (m.r Ad) (m.r Ab) (m.r Ac)) (m.r Ao) Bu) fun En Em Cv Ax k m=>pN 1 k z fun a k=>oE h fun Dy Bn h=>cC k m call157 z (c_slices_ContainsFunc_impl_Item_impl_Item fu _ _ (m.q Ax 0 z) ⟨168,[pt Cb,pt Aw],z,call168,fun w Ex Dt r e Cs hx=>by subst Cs; have m:=m.step e; exact c_impl_cartonFault_1 fu _ _ _ (Bc.agr (m.a 1 rfl) (by simp)) (m.r Ao) (Cl.agr (m.a 4 rfl) (by simp)) (Enc.rd_agr (Enc.ow_rd Am) (m.a 5 rfl)) hx⟩ Bn) fun Ey e a k m=>ul 2 k z fun k=>cI h k rfl (fun Dd h=>?_) fun Dd h=>?_
       · refine uc 11 k z fun k=>fS h k m z z
       refine uc 8 k z fun k=>?_;exact ⟨_,k.p z,m.sl [2,3,4,5] z,h⟩
     refine gc 15 [bF m 1 Ay z,lF Aa] k z fun k=>lG (fun n a w=>∃ At,K 77 [(2,pt Af),(58,Al),(59,I ((x5.fCartons.length:Int))),(60,I At)] a ∧ St [] w0 w [([Af],As)] ∧ d_impl_cartonFault_L1 fu r1 x5 n At = some r) ?_ fu ?_
     · rintro El a Eo ⟨At,k,m,h⟩;refine uc 6 k z fun k=>cJ h k z (fun h=>?_) fun h=>?_
       · refine oE h fun Bj Bi h=>gc 7 [iF Aa Bi] k z fun k=>?_;obtain ⟨Ep,Eh,Ej,Cg,Bs,Cm⟩:=rd_get Aa (ix_some Bi).2.2;obtain ⟨Cy,_,rfl,rfl,Au⟩:=Cg;refine sv k z (r_ldA ta37 (Bs.agr (m.a00 (Enc.rd_lt Aa)) Cm) z k z z) fun a k=>s_alloc m k zeroValue37 z z z z z fun Dj Ea a k m e Bm=>sT sizeOf37 m 0 Bm 0 k z (allc z (allc z (allc (rd_o Au) alln))) fun Ds a k e m Bh=>oE h fun Ag Cd h=>gl 7 [bA m 1 Ap z,bF m 0 Bh z] k z fun k=>cC k m call108 z (c_impl_Cheapest fu _ _ (mkRequest (m.r Ad) (m.r Ab) (m.r Ac)) (m.r Au) Cd) fun Fc e a k m=>pN 3 k z fun a k=>s_alloc m k zeroValue61 z z z z z fun Er Dw a k m e Ci=>sT sizeOf61 m 0 Ci 0 k z z fun Fa a k e m Db=>gl 12 [bF m 0 Db z,bF m 1 Bh z] k z fun k=>cJ h k z (fun h=>?_) fun h=>?_
         · refine uc 11 k z fun k=>fS h k m z z
         refine uc 8 k z fun k=>?_;exact ⟨_,k.p z,m.sl [2] z,h⟩
       refine uc 11 k z fun k=>fS h k m z z
     exact ⟨_,k.p z,m.sl [0] z,h⟩
   exact ⟨_,k.p z,m.sl [2,3,0,1] z,h⟩
 exact ⟨_,k.p z,m.sl [1,0] z,h⟩
theorem c_impl_Gross (fu) {w0} (r1 x5) {Am F3} (Av:rd w0 F3 Am r1) {Aj F7} (Bb:rd w0 F7 Aj x5) {r} (h:d_impl_Gross fu r1 x5 = some r):cS 112 [.agg Am.toArray,.agg Aj.toArray] w0 (I r):=by
 refine eg func112 z ntmps112 z fun k m=>?_;obtain ⟨v9,Bi,Af,Bl,Ag,Bj,rfl,rfl,Ad,Ab,Ac⟩:=Av;obtain ⟨At,_,rfl,rfl,Al⟩:=Bb;refine uc 2 k z fun k=>s_box m k z z z z z z fun Ap Aw a k m e Ah=>s_box m k z z z z z z fun Ao Az a k m e Ak=>oE h fun Aa Aq h=>gl 8 [bA m 1 Ah z,bF m 0 Ak z] k z fun k=>cC k m call111 z (c_impl_TypeById fu _ _ (mkRequest (m.r Ad) (m.r Ab) (m.r Ac)) Aq) fun Bm e a k m=>pN 3 k z fun a k=>s_alloc m k zeroValue61 z z z z z fun Ai Bg a k m e Ay=>sT sizeOf61 m 0 Ay 0 k z z fun As a k e m Ax=>ul 3 k z fun k=>cg (fun a w=>K 28 [(2,pt Ap),(3,pt Ao),(5,pt Ai)] a ∧ St [] w0 w [([Ap],Aw),([Ao],Az),([Ai],As)] ∧ d_impl_Gross_J1 fu r1 x5 Aa = some r) ?_ ?_
 · rintro a Bh ⟨k,m,h⟩;refine uc 1 k z fun k=>d_go [] mixo m z fun Bc hMd=>?_;have m:=hMd;have s:=Ext.refl ([]:List Nat) Bc;refine dr [0,1,2,3,4] 5 [bF hMd 2 Ax z,bA hMd 0 Ah z,bF hMd 1 Ak z] k z s fun k=>dG 5 z (oE h fun Bf Ba h=>?_);refine cC k m call186 z (c_impl_GramOf fu _ _ (mkRequest (m.r Ad) (m.r Ab) (m.r Ac)) (m.r Al) Ba) fun Be e a k m=>ns s e fun s=>dM [6,7] 2 z k z s fun a k=>dD ((nm_then ?_));refine wp_ret (fS h k m z z)
 refine uc 5 k z fun k=>bS h k 16 z (fun _ h k=>?_) fun _ h k=>?_
 · refine ul 14 k z fun k=>fS h k m z z
 refine oE h fun Bk Ar h=>gl 1 [bA m 2 Ah z] k z fun k=>cC k m call56 z (c_impl_sound fu _ (mkRequest (m.r Ad) (m.r Ab) (m.r Ac)) Ar) fun Bd e a k m=>ul 4 k z fun k=>cJ h k z (fun h=>?_) fun h=>?_
 · refine uc 7 k z fun k=>fS h k m z z
 refine uc 2 k z fun k=>?_;exact ⟨k.p z,m.sl [2,1,0] z,h⟩
theorem c_impl_BoxOf (fu) {w0} (r1 x5) {As F3} (Ax:rd w0 F3 As r1) {Al F7} (Bh:rd w0 F7 Al x5) {r} (h:d_impl_BoxOf fu r1 x5 = some r):cS 59 [.agg As.toArray,.agg Al.toArray] w0 (.agg (Flat.e r).toArray):=by
 refine eg func59 z ntmps59 z fun k m=>?_;obtain ⟨v9,Br,Af,Bu,Ah,Bs,rfl,rfl,Ad,Ab,Ac⟩:=Ax;obtain ⟨Am,_,rfl,rfl,Ar⟩:=Bh;refine uc 2 k z fun k=>s_box m k z z z z z z fun Ap Ay a k m e Ai=>s_box m k z z z z z z fun At Bd a k m e Aq=>s_alloc m k zeroValue91 z z z z z fun Ag Bg a k m e Ak=>oE h fun Aa Bf h=>gl 7 [bA m 2 Ai z,bF m 1 Aq z] k z fun k=>cC k m call111 z (c_impl_TypeById fu _ _ (mkRequest (m.r Ad) (m.r Ab) (m.r Ac)) Bf) fun Bo e a k m=>pN 3 k z fun a k=>s_alloc m k zeroValue61 z z z z z fun Ao Bp a k m e Az=>sT sizeOf61 m 0 Az 0 k z z fun Bb a k e m Aj=>ul 3 k z fun k=>cg (fun a w=>K 32 [(2,pt Ap),(3,pt At),(4,pt Ag),(5,pt Ao)] a ∧ St [] w0 w [([Ap],Ay),([At],Bd),([Ag],Bg),([Ao],Bb)] ∧ d_impl_BoxOf_J1 fu r1 x5 Aa = some r) ?_ ?_
 · rintro a Bv ⟨k,m,h⟩;refine uc 1 k z fun k=>d_go ([Ag]) mixo m z fun Bj hMd=>?_;have m:=hMd;have s:=Ext.refl (([Ag]):List Nat) Bj;refine dF k 0 fa61_1 z s fun a k=>dT k 1 z z s (fun w s=>r_ld1 t13 (r:=[]) (Aj.at (hMd.az 3 2 z z z s) 1 1 z z z) k z z) fun a k=>dF k 2 fa61_3 z s fun a k=>dT k 3 z z s (fun w s=>r_ld1 t13 (r:=[]) (Aj.at (hMd.az 3 2 z z z s) 3 1 z z z) k z z) fun a k=>dF k 4 fa61_2 z s fun a k=>dT k 5 z z s (fun w s=>r_ld1 t13 (r:=[]) (Aj.at (hMd.az 3 2 z z z s) 2 1 z z z) k z z) fun a k=>dT k 6 z z s (fun w s=>r_ldA ta55 (Ai.at (hMd.az 0 2 z z z s) 0 10 z z z) z k z z) fun a k=>dT k 7 z z s (fun w s=>r_ldA ta37 (Aq.at (hMd.az 1 2 z z z s) 0 3 z z z) z k z z) fun a k=>dG 8 z (oE h fun Au Ba h=>?_);refine cC k m call112 z (c_impl_Gross fu _ _ (mkRequest (m.r Ad) (m.r Ab) (m.r Ac)) (mkCarton (m.r Ar)) Ba) fun Bq e a k m=>ns s e fun s=>dT k 9 z z s (fun w s=>r_build bt91 k (cs:=#[I Aa.1.fW,I Aa.1.fD,I Aa.1.fH,I Au]) (ps:=[(0,.tmp 23),(1,.tmp 25),(2,.tmp 27),(3,.tmp 30)]) z z (by kernel_rfl)) fun a k=>dG 10 z (sT sizeOf91 m 2 Ak 0 k z z fun Bl a k e m Bi=>?_);have s:=s.trans e (fun y hy=>Or.inl hy);refine wpList_nil ⟨s,?_⟩;refine dD ((nm_then ?_));refine wp_ret ?_;cases h;exact finR1 k z (RV.cA k z ta91 (Bi.at (m.a 2 z) 0 4 z z z) z) ⟨z,m.ext⟩
 refine uc 5 k z fun k=>bS h k 16 z (fun _ h k=>?_) fun _ h k=>?_
 · refine ul 9 k z fun k=>sv k z (r_build bt91 k (cs:=#[I 0,I 0,I 0,I 0]) (ps:=[]) z z (by kernel_rfl)) fun a k=>sT sizeOf91 m 1 Ak 0 k z z fun Bm a k e m Bc=>ul 4 k z fun k=>?_;cases h;exact finR1 k z (RV.cA k z ta91 (Bc.at (m.a 1 z) 0 4 z z z) z) ⟨z,m.ext⟩
 refine oE h fun Bk Aw h=>gl 1 [bA m 3 Ai z] k z fun k=>cC k m call56 z (c_impl_sound fu _ (mkRequest (m.r Ad) (m.r Ab) (m.r Ac)) Aw) fun Bt e a k m=>ul 4 k z fun k=>cJ h k z (fun h=>?_) fun h=>?_
 · refine uc 2 k z fun k=>sv k z (r_build bt91 k (cs:=#[I 0,I 0,I 0,I 0]) (ps:=[]) z z (by kernel_rfl)) fun a k=>sT sizeOf91 m 1 Ak 0 k z z fun Bn a k e m Av=>ul 4 k z fun k=>?_;cases h;exact finR1 k z (RV.cA k z ta91 (Av.at (m.a 1 z) 0 4 z z z) z) ⟨z,m.ext⟩
 refine uc 2 k z fun k=>?_;exact ⟨k.p z,m.sl [3,2,1,0] z,h⟩
theorem c_impl_Within (fu) {w0} (p1 b2 Aa) {r} (h:d_impl_Within fu p1 b2 Aa = some r):cS 170 [.agg (Flat.e (p1)).toArray,.agg (Flat.e (b2)).toArray,.agg (Flat.e (Aa)).toArray] w0 (.bool (r)):=by
 refine eg func170 z ntmps170 z fun k m=>uc 2 k z fun k=>s_box m k z z z z z z fun b4 w6 a k m e Ak=>s_box m k z z z z z z fun b7 w9 a k m e Ab=>s_box m k z z z z z z fun Al Aq a k m e Ac=>ul 3 k z fun k=>cg (fun a w=>K 69 [(3,pt b4),(4,pt b7),(5,pt Al)] a ∧ St [] w0 w [([b4],w6),([b7],w9),([Al],Aq)] ∧ d_impl_Within_J1 fu p1 b2 Aa = some r) ?_ ?_
 · rintro a Be ⟨k,m,h⟩;refine gc 11 [bF m 2 Ac z,bF m 1 Ab z,bF m 0 Ak z] k z fun k=>bS h k 49 z (fun _ h k=>?_) fun _ h k=>?_
   · refine gl 10 [bF m 2 Ac z,bF m 1 Ab z,bF m 0 Ak z] k z fun k=>bS h k 59 z (fun _ h k=>?_) fun _ h k=>?_
     · refine gl 13 [bF m 2 Ac z,bF m 1 Ab z,bF m 0 Ak z] k z fun k=>fS h k m z z
     refine ul 13 k z fun k=>fS h k m z z
   refine ul 23 k z fun k=>fS h k m z z
 refine oE h fun Az Av h=>gc 4 [bF m 0 Ac z] k z fun k=>cC k m call76 z (c_impl_isPlace fu _  Av) fun Bh e a k m=>pN 2 k z fun a k=>bS h k 11 z (fun _ h k=>?_) fun _ h k=>?_
 · refine ul 39 k z fun k=>fS h k m z z
 refine oE h fun Ar Ao h=>gl 2 [bF m 0 Ac z] k z fun k=>cC k m call76 z (c_impl_isPlace fu _  Ao) fun Bb e a k m=>pN 3 k z fun a k=>bS h k 17 z (fun _ h k=>?_) fun _ h k=>?_
 · refine ul 33 k z fun k=>fS h k m z z
 refine oE h fun Ap As h=>gl 2 [bF m 0 Ac z] k z fun k=>cC k m call76 z (c_impl_isPlace fu _  As) fun Bg e a k m=>pN 3 k z fun a k=>bS h k 23 z (fun _ h k=>?_) fun _ h k=>?_
 · refine ul 27 k z fun k=>fS h k m z z
 refine oE h fun Aw At h=>gl 2 [bF m 1 Ab z] k z fun k=>cC k m call247 z (c_impl_isSide fu _  At) fun Bd e a k m=>pN 3 k z fun a k=>bS h k 29 z (fun _ h k=>?_) fun _ h k=>?_
 · refine ul 21 k z fun k=>fS h k m z z
 refine oE h fun Am Au h=>gl 2 [bF m 1 Ab z] k z fun k=>cC k m call247 z (c_impl_isSide fu _  Au) fun Ba e a k m=>pN 3 k z fun a k=>bS h k 35 z (fun _ h k=>?_) fun _ h k=>?_
 · refine ul 15 k z fun k=>fS h k m z z
 refine oE h fun Bf Ay h=>gl 2 [bF m 1 Ab z] k z fun k=>cC k m call247 z (c_impl_isSide fu _  Ay) fun Bc e a k m=>ul 4 k z fun k=>cJ h k z (fun h=>?_) fun h=>?_
 · refine uc 7 k z fun k=>fS h k m z z
 refine uc 2 k z fun k=>?_;exact ⟨k.p z,m.sl [2,1,0] z,h⟩
theorem c_impl_placed (fu) {w0} (b1 Aa) {r} (h:d_impl_placed fu b1 Aa = some r):cS 248 [.agg (Flat.e (b1)).toArray,.agg (Flat.e (Aa)).toArray] w0 (.bool (r)):=by
 refine eg func248 z ntmps248 z fun k m=>uc 2 k z fun k=>s_box m k z z z z z z fun b3 w5 a k m e Ah=>s_box m k z z z z z z fun b6 w9 a k m e Ag=>oE h fun Ai Am h=>gl 7 [bF m 1 Ah z] k z fun k=>cC k m call76 z (c_impl_isPlace fu _  Am) fun Au e a k m=>pN 1 k z fun a k=>bS h k 8 z (fun _ h k=>?_) fun _ h k=>?_
 · refine oE h fun Ak Ap h=>gl 2 [bF m 1 Ah z] k z fun k=>cC k m call76 z (c_impl_isPlace fu _  Ap) fun Ax e a k m=>pN 2 k z fun a k=>bS h k 13 z (fun _ h k=>?_) fun _ h k=>?_
   · refine oE h fun Ao Al h=>gl 2 [bF m 1 Ah z] k z fun k=>cC k m call76 z (c_impl_isPlace fu _  Al) fun Ay e a k m=>pN 2 k z fun a k=>bS h k 18 z (fun _ h k=>?_) fun _ h k=>?_
     · refine oE h fun Ar Aq h=>gl 2 [bF m 0 Ag z] k z fun k=>cC k m call76 z (c_impl_isPlace fu _  Aq) fun Aw e a k m=>pN 2 k z fun a k=>bS h k 23 z (fun _ h k=>?_) fun _ h k=>?_
       · refine oE h fun At As h=>gl 2 [bF m 0 Ag z] k z fun k=>cC k m call76 z (c_impl_isPlace fu _  As) fun Av e a k m=>pN 2 k z fun a k=>bS h k 28 z (fun _ h k=>?_) fun _ h k=>?_
         · refine oE h fun Ba Aj h=>gl 2 [bF m 0 Ag z] k z fun k=>cC k m call76 z (c_impl_isPlace fu _  Aj) fun Az e a k m=>ul 5 k z fun k=>fS h k m z z
         refine ul 8 k z fun k=>fS h k m z z
       refine ul 13 k z fun k=>fS h k m z z
     refine ul 18 k z fun k=>fS h k m z z
   refine ul 23 k z fun k=>fS h k m z z
 refine ul 28 k z fun k=>fS h k m z z
theorem c_impl_cross (fu) {w0} (a1 Ac b3 Ab) {r} (h:d_impl_cross fu a1 Ac b3 Ab = some r):cS 249 [I a1,I Ac,I b3,I Ab] w0 (.bool (r)):=by
 refine eg func249 z ntmps249 z fun k m=>uc 13 k z fun k=>bS h k 14 z (fun _ h k=>?_) fun _ h k=>?_
 · refine ul 10 k z fun k=>fS h k m z z
 refine ul 10 k z fun k=>fS h k m z z
theorem c_impl_Overlap (fu) {w0} (a1 Aa b3 t4) {r} (h:d_impl_Overlap fu a1 Aa b3 t4 = some r):cS 171 [.agg (Flat.e (a1)).toArray,.agg (Flat.e (Aa)).toArray,.agg (Flat.e (b3)).toArray,.agg (Flat.e (t4)).toArray] w0 (.bool (r)):=by
 refine eg func171 z ntmps171 z fun k m=>uc 2 k z fun k=>s_box m k z z z z z z fun b5 w7 a k m e Ai=>s_box m k z z z z z z fun b8 As a k m e Ae=>s_box m k z z z z z z fun Aj Ao a k m e Ah=>s_box m k z z z z z z fun Ak Aw a k m e Ac=>ul 3 k z fun k=>cg (fun a w=>K 57 [(4,pt b5),(5,pt b8),(6,pt Aj),(7,pt Ak)] a ∧ St [] w0 w [([b5],w7),([b8],As),([Aj],Ao),([Ak],Aw)] ∧ d_impl_Overlap_J1 fu a1 Aa b3 t4 = some r) ?_ ?_
 · rintro a Bd ⟨k,m,h⟩;refine oE h fun Au Ar h=>gc 10 [bF m 1 Ae z,bF m 0 Ai z,bF m 3 Ac z,bF m 2 Ah z] k z fun k=>cC k m call249 z (c_impl_cross fu _ _ _ _  Ar) fun Bc e a k m=>pN 1 k z fun a k=>bS h k 35 z (fun _ h k=>?_) fun _ h k=>?_
   · refine oE h fun Al Ap h=>gl 8 [bF m 1 Ae z,bF m 0 Ai z,bF m 3 Ac z,bF m 2 Ah z] k z fun k=>cC k m call249 z (c_impl_cross fu _ _ _ _  Ap) fun Bf e a k m=>pN 2 k z fun a k=>bS h k 46 z (fun _ h k=>?_) fun _ h k=>?_
     · refine oE h fun Bb Am h=>gl 8 [bF m 1 Ae z,bF m 0 Ai z,bF m 3 Ac z,bF m 2 Ah z] k z fun k=>cC k m call249 z (c_impl_cross fu _ _ _ _  Am) fun Be e a k m=>ul 5 k z fun k=>fS h k m z z
     refine ul 14 k z fun k=>fS h k m z z
   refine ul 25 k z fun k=>fS h k m z z
 refine oE h fun Aq At h=>gc 4 [bA m 3 Ai z,bA m 2 Ae z] k z fun k=>cC k m call248 z (c_impl_placed fu (a1:Box) (Aa:Spot)  At) fun Ba e a k m=>pN 2 k z fun a k=>bS h k 13 z (fun _ h k=>?_) fun _ h k=>?_
 · refine ul 22 k z fun k=>fS h k m z z
 refine oE h fun Ax Ay h=>gl 2 [bA m 1 Ah z,bA m 0 Ac z] k z fun k=>cC k m call248 z (c_impl_placed fu (b3:Box) (t4:Spot)  Ay) fun Az e a k m=>pN 3 k z fun a k=>bS h k 19 z (fun _ h k=>?_) fun _ h k=>?_
 · refine ul 16 k z fun k=>fS h k m z z
 refine gl 8 [bF m 2 Ae z,bF m 0 Ac z] k z fun k=>cJ h k z (fun h=>?_) fun h=>?_
 · refine uc 7 k z fun k=>fS h k m z z
 refine uc 2 k z fun k=>?_;exact ⟨k.p z,m.sl [3,2,1,0] z,h⟩
theorem c_impl_Pallets (fu) {w0} (Ab) {v2 F3} (Af:rd w0 F3 [v2] Ab) {r} (h:d_impl_Pallets fu Ab = some r):cS 61 [v2] w0 (I r):=by
 refine eg func61 z ntmps61 z fun k m=>gc 19 [lF Af] k z fun k=>lG (fun n a w=>∃ Ad Aa,K 22 [(3,I Ad),(6,v2),(7,I ((Ab.length:Int))),(8,I Aa)] a ∧ St [] w0 w [] ∧ d_impl_Pallets_L1 fu Ab n Ad Aa = some r) ?_ fu ?_
 · rintro Ai a Ao ⟨Ad,Aa,k,m,h⟩;refine uc 6 k z fun k=>cJ h k z (fun h=>?_) fun h=>?_
   · refine uc 2 k z fun k=>cg (fun a w=>∃ Ae,K 22 [(3,I Ae),(6,v2),(7,I ((Ab.length:Int))),(8,I Aa)] a ∧ St [] w0 w [] ∧ d_impl_Pallets_J1 fu (d_impl_Pallets_L1 fu Ab Ai) Aa Ae = some r) ?_ ?_
     · rintro a Ap ⟨Ae,k,m,h⟩;refine uc 5 k z fun k=>?_;exact ⟨_,_,k.p z,m.sl [] z,h⟩
     refine oE h fun Ac Ag h=>gc 5 [iF Af Ag,eA (m.r Af) Ag] k z fun k=>s_alloc m k zeroValue39 z z z z z fun Ar At a k m e Al=>sT sizeOf39 m 0 Al 0 k z z fun Aq a k e m Ah=>oE h fun Au Aj h=>gl 6 [bF m 0 Ah z] k z fun k=>cC k m call68 z (c_impl_in fu _ _ _  Aj) fun As e a k m=>ul 2 k z fun k=>cJ h k z (fun h=>?_) fun h=>?_
     · refine gc 10 [bF m 0 Ah z] k z fun k=>?_;exact ⟨_,k.p z,m.sl [] z,h⟩
     refine uc 3 k z fun k=>?_;exact ⟨_,k.p z,m.sl [] z,h⟩
   refine uc 12 k z fun k=>fS h k m z z
 exact ⟨_,_,k.p z,m.sl [] z,h⟩
theorem c_impl_OnPallet (fu) {w0} (x1 Ab) {Ar F3} (Bb:rd w0 F3 Ar x1) {r} (h:d_impl_OnPallet fu x1 Ab = some r):cL 172 [.agg Ar.toArray,I Ab] w0 r:=by
 refine eg func172 z ntmps172 z fun k m=>?_;obtain ⟨v6,F7,v8,F9,rfl,rfl,Be,Ac⟩:=Bb;refine uc 2 k z fun k=>s_box m k z z z z z z fun Bn Bq a k m e Am=>gl 15 [bF m 0 Am z,lF Ac,bF m 0 Am z,lF Be] k z fun k=>cJ h k z (fun h=>?_) fun h=>?_
 · refine uc 7 k z fun k=>?_;cases h;exact finR1 k z (RV.tmp k z) ⟨_,[],z,m.ext,(ow_nil _),(by simp)⟩
 refine uc 4 k z fun k=>sB te35 m k z (by exact fN) fun Ap Bj Bo a k m e Ax=>?_;have Bc:=ow_bx Ax ([]:List Int) z z z;refine gl 13 [bF m 1 Am z,lF Ac] k z fun k=>lG (fun n a w=>∃ Ak Ai Ad Al Aa,K 34 [(1,I Ab),(5,Ai),(17,v8),(18,I ((x1.fSpots.length:Int))),(19,I Aa)] a ∧ St [] w0 w [(Ad,Al)] ∧ ow Al Ad [Ai] Ak ∧ d_impl_OnPallet_L1 fu x1 Ab n Ak Aa = some r) ?_ fu ?_
 · rintro At a Bv ⟨Ak,Ai,Ad,Al,Aa,k,m,Ao,h⟩;refine uc 6 k z fun k=>cJ h k z (fun h=>?_) fun h=>?_
   · refine uc 2 k z fun k=>cg (fun a w=>∃ Af Ah Aj Ae,K 34 [(1,I Ab),(5,Ah),(17,v8),(18,I ((x1.fSpots.length:Int))),(19,I Aa)] a ∧ St [] w0 w [(Aj,Ae)] ∧ ow Ae Aj [Ah] Af ∧ d_impl_OnPallet_J1 fu (d_impl_OnPallet_L1 fu x1 Ab At) Aa Af = some r) ?_ ?_
     · rintro a Br ⟨Af,Ah,Aj,Ae,k,m,Au,h⟩;refine uc 5 k z fun k=>?_;exact ⟨_,_,_,_,_,k.p z,m.sl [0] z,Au,h⟩
     refine oE h fun Ag Aq h=>gc 6 [iF Ac Aq,eA (m.r Ac) Aq] k z fun k=>s_alloc m k zeroValue39 z z z z z fun Bt Bs a k m e Bk=>pN 1 k z fun a k=>sT sizeOf39 m 0 Bk 0 k z z fun Bp a k e m Az=>gl 10 [bF m 0 Az z] k z fun k=>cJ h k z (fun h=>?_) fun h=>?_
     · refine uc 3 k z fun k=>sB te35 m k z (by exact fC z fN) fun Bw Bm Bu a k m e Bg=>?_;have Ay:=ow_bx Bg ([Aa]:List Int) z z z;refine oE h fun Bd Bf h=>s_appF Bf te35 z m 2 Ao (News.rd (m.q Ay 0 z)) z z k z z z z z z z fun Bl Bh Aw a k e m Bi=>ul 4 k z fun k=>?_;exact ⟨_,_,_,_,k.p z,m.sl [2] z,Bi,h⟩
     refine uc 3 k z fun k=>?_;exact ⟨_,_,_,_,k.p z,m.sl [1] z,Ao,h⟩
   refine uc 12 k z fun k=>?_;cases h;exact finR1 k z (RV.tmp k z) ⟨_,Ad,z,m.ext,(m.v Ao 0 z),(m.fresh 0 z)⟩
 exact ⟨_,_,_,_,_,k.p z,m.sl [0] z,Bc,h⟩
theorem c_impl_PalletGram (fu) {w0} (r1 x5 Al) {Ax F3} (Bi:rd w0 F3 Ax r1) {Aj F7} (Bm:rd w0 F7 Aj x5) {r} (h:d_impl_PalletGram fu r1 x5 Al = some r):cS 173 [.agg Ax.toArray,.agg Aj.toArray,I Al] w0 (I r):=by
 refine eg func173 z ntmps173 z fun k m=>?_;obtain ⟨Av,Bz,Af,Cb,Ai,Bv,rfl,rfl,Ag,Ah,Ao⟩:=Bi;obtain ⟨Ak,Bu,Ap,Ca,rfl,rfl,Ab,At⟩:=Bm;refine uc 2 k z fun k=>s_box m k z z z z z z fun Aq Bl a k m e Bj=>s_box m k z z z z z z fun Aw Bq a k m e As=>oE h fun Am Bo h=>gl 13 [bA m 0 As z] k z fun k=>sL k m call172 z (c_impl_OnPallet fu _ _ (mkPlan (m.r Ab) (m.r At)) Bo) fun Ba Bp Au Aa k m=>gl 5 [lF (Enc.ow_rd Aa)] k z fun k=>lG (fun n a w=>∃ Ac Ad,K 29 [(3,pt Aq),(4,pt Aw),(7,I Ac),(12,Bp),(13,I ((Am.length:Int))),(14,I Ad)] a ∧ St [] w0 w [([Aq],Bl),([Aw],Bq),(Au,Ba)] ∧ d_impl_PalletGram_L1 fu r1 x5 Am n Ac Ad = some r) ?_ fu ?_
 · rintro Cd a Bt ⟨Ac,Ad,k,m,h⟩;refine uc 6 k z fun k=>cJ h k z (fun h=>?_) fun h=>?_
   · refine oE h fun Cc Ay h=>gc 11 [iF (Enc.ow_rd Aa) Ay,eF (m.q Aa 2 z) Ay 0] k z fun k=>d_go [] mixo m z fun Bd hMd=>?_;have m:=hMd;have s:=Ext.refl ([]:List Nat) Bd;refine oE h fun Ae Ar h=>dr [0,4,1,2,3,5] 6 [bA hMd 0 Bj z,bF hMd 1 As z,iF Ab Ar] k z s fun k=>?_;obtain ⟨Bs,Br,Bw,Bn,Bh,Bk⟩:=rd_get Ab (ix_some Ar).2.2;obtain ⟨Bf,_,rfl,rfl,Az⟩:=Bn;refine dT k 6 z z s (fun w s=>r_ldA ta37 (Bh.agr ((hMd.step s).a00 (Enc.rd_lt Ab)) Bk) z k z z) fun a k=>dG 7 z (oE h fun Bb Be h=>cC k m call112 z (c_impl_Gross fu _ _ (mkRequest (m.r Ag) (m.r Ah) (m.r Ao)) (mkCarton (m.r Az)) Be) fun By e a k m=>?_);refine ns s e fun s=>dM [8,9] 2 z k z s fun a k=>dD ((nm_block (nm_then ?_)));refine uc 5 k z fun k=>?_;exact ⟨_,_,k.p z,m.sl [0,1,2] z,h⟩
   refine uc 12 k z fun k=>fS h k m z z
 exact ⟨_,_,k.p z,m.sl [2,1,0] z,h⟩
theorem c_impl_spotFault_1 (fu) {w0} (i1 x2 Ag) {v5 F6 v8 F9 b3} (Ab:bx w0 b3 [v5,v8] 27) (Aa:rd w0 F6 [v5] x2.fCartons) (Az:rd w0 F9 [v8] x2.fSpots) {Af Ap Ad} (Aj:bx w0 Ad [Af] 35) (Ac:rd w0 Ap [Af] Ag) {r} (h:d_impl_spotFault_1 fu i1 x2 Ag = some r):cS 175 [I i1,pt b3,pt Ad] w0 (.bool (r)):=by
 refine eg func175 z ntmps175 z fun k m=>uc 6 k z fun k=>d_go [] mixo m z fun Ar hMd=>?_;have m:=hMd;have s:=Ext.refl ([]:List Nat) Ar;refine dr [2,0] 2 [] k z s fun k=>dT k 1 z z s (fun w s=>r_ld1 t124 (r:=[]) (Ab.at ((hMd.step s).a00 Ab.lt1) 0 1 z z z) k z z) fun a k=>oE h fun At Ae h=>dr [3,4] 2 [iF Aa Ae] k z s fun k=>?_;obtain ⟨Aw,Ax,Ay,Ak,Al,Am⟩:=rd_get Aa (ix_some Ae).2.2;obtain ⟨Be,_,rfl,rfl,Bb⟩:=Ak;refine dT k 5 z z s (fun w s=>r_ld1 t13 ((Al.agr ((hMd.step s).a00 (Enc.rd_lt Aa)) Am).fld 1 1 (Nat.le_of_ble_eq_true z)) k z z) fun a k=>dF k 6 fa27_0 z s fun a k=>dT k 7 z z s (fun w s=>r_ld1 t124 (r:=[]) (Ab.at ((hMd.step s).a00 Ab.lt1) 0 1 z z z) k z z) fun a k=>dT k 8 z z s (fun w s=>r_ld1 t135 (r:=[]) (Aj.at ((hMd.step s).a00 Aj.lt1) 0 1 z z z) k z z) fun a k=>o2 h fun Av Ah Bf Ai h=>dr [9,10,11,12] 4 [iF Ac Ah,eF (hMd.r Ac) Ah 0,iF Aa Ai] k z s fun k=>?_;obtain ⟨Au,Bg,Bc,Ao,Aq,As⟩:=rd_get Aa (ix_some Ai).2.2;obtain ⟨Ba,_,rfl,rfl,Bd⟩:=Ao;refine dT k 13 z z s (fun w s=>r_ld1 t13 ((Aq.agr ((hMd.step s).a00 (Enc.rd_lt Aa)) As).fld 1 1 (Nat.le_of_ble_eq_true z)) k z z) fun a k=>dM [14,15] 2 z k z s fun a k=>dD ((nm_then ?_));refine wp_ret (fS h k m z z)
theorem c_impl_spotFault (fu) {w0} (r1 x5) {Bq F3} (Cw:rd w0 F3 Bq r1) {Bj F7} (Db:rd w0 F7 Bj x5) {r} (h:d_impl_spotFault fu r1 x5 = some r):cS 102 [.agg Bq.toArray,.agg Bj.toArray] w0 (I r):=by
 refine eg func102 z ntmps102 z fun k m=>?_;obtain ⟨v9,Dv,Bf,Fh,Bb,Dw,rfl,rfl,Ba,Ax,Ay⟩:=Cw;obtain ⟨Au,Fb,Bd,Ex,rfl,rfl,Ad,Aa⟩:=Db;refine uc 2 k z fun k=>s_box m k z z z z z z fun Ac Ao a k m e Az=>s_box m k z z z z z z fun Ab Am a k m e Ai=>ul 5 k z fun k=>sB te90 m k z (by exact fN) fun Bi Cu Fe a k m e Ci=>?_;have Co:=ow_bx Ci ([]:List Box) z z z;refine gl 13 [bF m 1 Ai z,lF Ad] k z fun k=>lG (fun n a w=>∃ Ah Ar As At Aw,K 96 [(2,pt Ac),(3,pt Ab),(5,Ar),(15,Au),(16,I ((x5.fCartons.length:Int))),(17,I Aw)] a ∧ St [] w0 w [([Ac],Ao),([Ab],Am),(As,At)] ∧ ow At As [Ar] Ah ∧ d_impl_spotFault_L4 fu r1 x5 n Ah Aw = some r) ?_ fu ?_
 · rintro Ey a Eb ⟨Ah,Ar,As,At,Aw,k,m,Ak,h⟩;refine uc 6 k z fun k=>cJ h k z (fun h=>?_) fun h=>?_
   · refine oE h fun Ap Bp h=>gc 8 [iF Ad Bp] k z fun k=>?_;obtain ⟨Ez,Dx,Fg,Cb,De,Df⟩:=rd_get Ad (ix_some Bp).2.2;obtain ⟨Br,_,rfl,rfl,Be⟩:=Cb;refine sv k z (r_ldA ta37 (De.agr (m.a00 (Enc.rd_lt Ad)) Df) z k z z) fun a k=>s_alloc m k zeroValue37 z z z z z fun Ep Ee a k m e Dg=>pN 1 k z fun a k=>sT sizeOf37 m 0 Dg 0 k z (allc z (allc z (allc (rd_o Be) alln))) fun Ff a k e m Cy=>oE h fun Ae Bw h=>gl 6 [bA m 1 Az z,bA m 0 Cy z] k z fun k=>cC k m call59 z (c_impl_BoxOf fu _ _ (mkRequest (m.r Ba) (m.r Ax) (m.r Ay)) (mkCarton (m.r Be)) Bw) fun Fd e a k m=>s_alloc m k zeroValue91 z z z z z fun Dt Em a k m e By=>sT sizeOf91 m 0 By 0 k z z fun Ew a k e m Bo=>ul 4 k z fun k=>d_go [] mixo m z fun Dn hMd=>?_;have m:=hMd;have s:=Ext.refl ([]:List Nat) Dn;refine oE h fun Cm Bn h=>dr [5,0,1,2,3,4,6,7] 8 [bA hMd 2 Az z,bA hMd 0 Bo z,bF hMd 3 Ai z,iF Aa Bn,eA (hMd.r Aa) Bn] k z s fun k=>dG 8 z (oE h fun Ej Dq h=>cC k m call170 z (c_impl_Within fu (r1.fPallet:Pallet) (Ae:Box) (Cm:Spot)  Dq) fun Eo e a k m=>?_);refine ns s e fun s=>dM [9] 1 z k z s fun a k=>dD ((nm_then ?_));refine cJ h k z (fun h=>?_) fun h=>?_
     · refine uc 12 k z fun k=>fS h k m z z
     refine gc 5 [bA m 0 Bo z] k z fun k=>sB te90 m k z (by exact fC z fN) fun Eh Et Ek a k m e Ch=>?_;have Cl:=ow_bx Ch ([Ae]:List Box) z z z;refine oE h fun Bz Ca h=>s_appF Ca te90 z m 5 Ak (News.rd (m.q Cl 0 z)) z z k z z z z z z z fun Dj Di Dm a k e m Cj=>ul 9 k z fun k=>?_;exact ⟨_,_,_,_,_,k.p z,m.sl [3,4,5] z,Cj,h⟩
   refine gc 14 [lF (Enc.ow_rd Ak)] k z fun k=>lG (fun n a w=>∃ Ag,K 96 [(2,pt Ac),(3,pt Ab),(5,Ar),(41,I ((Ah.length:Int))),(42,I Ag)] a ∧ St [] w0 w [([Ac],Ao),([Ab],Am),(As,At)] ∧ d_impl_spotFault_L3 fu r1 x5 Ah n Ag = some r) ?_ fu ?_
   · rintro Cq a Dz ⟨Ag,k,m,h⟩;refine uc 6 k z fun k=>cJ h k z (fun h=>?_) fun h=>?_
     · refine uc 17 k z fun k=>lG (fun n a w=>∃ Av,K 96 [(2,pt Ac),(3,pt Ab),(5,Ar),(9,I Ag),(41,I ((Ah.length:Int))),(42,I Ag),(45,I Ag),(46,I Av)] a ∧ St [] w0 w [([Ac],Ao),([Ab],Am),(As,At)] ∧ d_impl_spotFault_L1 fu (d_impl_spotFault_L3 fu r1 x5 Ah Cq) x5 Ah Ag n Av = some r) ?_ fu ?_
       · rintro El a Ev ⟨Av,k,m,h⟩;refine uc 6 k z fun k=>cJ h k z (fun h=>?_) fun h=>?_
         · refine uc 11 k z fun k=>d_go [] mixo m z fun Bx hMd=>?_;have m:=hMd;have s:=Ext.refl ([]:List Nat) Bx;refine o2 h fun Cz Bt Cp Bl h=>o2 h fun Cn Bh Ce Bs h=>dr [0,1,6,9,10,15,2,3,4,5,7,8,11,12,13,14,16,17] 18 [iF (Enc.ow_rd Ak) Bt,eA (hMd.q Ak 2 z) Bt,bF hMd 1 Ai z,iF Aa Bl,eA (hMd.r Aa) Bl,iF (Enc.ow_rd Ak) Bh,eA (hMd.q Ak 2 z) Bh,bF hMd 1 Ai z,iF Aa Bs,eA (hMd.r Aa) Bs] k z s fun k=>dG 18 z (oE h fun Es Cd h=>cC k m call171 z (c_impl_Overlap fu (Cz:Box) (Cp:Spot) (Cn:Box) (Ce:Spot)  Cd) fun Ei e a k m=>?_);refine ns s e fun s=>dD ((nm_then ?_));refine cJ h k z (fun h=>?_) fun h=>?_
           · refine uc 15 k z fun k=>fS h k m z z
           refine uc 8 k z fun k=>?_;exact ⟨_,k.p z,m.sl [0,1,2] z,h⟩
         refine uc 11 k z fun k=>?_;exact ⟨_,k.p z,m.sl [0,1,2] z,h⟩
       exact ⟨_,k.p z,m.sl [0,1,2] z,h⟩
     refine oE h fun Al Dc h=>gc 10 [bF m 1 Ai z] k z fun k=>cC k m call61 z (c_impl_Pallets fu _ (m.r Aa) Dc) fun Eg e a k m=>ul 4 k z fun k=>lG (fun n a w=>∃ Af,K 96 [(2,pt Ac),(3,pt Ab),(72,I Al),(73,I Af)] a ∧ St [] w0 w [([Ac],Ao),([Ab],Am)] ∧ d_impl_spotFault_L2 fu r1 x5 Al n Af = some r) ?_ fu ?_
     · rintro Bu a Ed ⟨Af,k,m,h⟩;refine uc 6 k z fun k=>cJ h k z (fun h=>?_) fun h=>?_
       · refine uc 2 k z fun k=>cg (fun a w=>K 96 [(2,pt Ac),(3,pt Ab),(72,I Al),(73,I Af)] a ∧ St [] w0 w [([Ac],Ao),([Ab],Am)] ∧ d_impl_spotFault_J1 fu (d_impl_spotFault_L2 fu r1 x5 Al Bu) Af = some r) ?_ ?_
         · rintro a Er ⟨k,m,h⟩;refine uc 5 k z fun k=>?_;exact ⟨_,k.p z,m.sl [0,1] z,h⟩
         refine oE h fun Bk Ck h=>gc 11 [bA m 1 Ai z] k z fun k=>sL k m call172 z (c_impl_OnPallet fu _ _ (mkPlan (m.r Ad) (m.r Aa)) Ck) fun Cr Cg Bm Aj k m=>s_alloc m k zeroValue35 z z z z z fun Bc En a k m e Dd=>s_stb1 (cs':=[Cg]) sizeOf35 m 0 Dd 0 k (rd_c (Enc.ow_rd Aj)) (rd_o (Enc.ow_rd Aj)) z z z z z z z z z fun Do a k e m Bg=>ul 2 k z fun k=>cg (fun a w=>K 96 [(2,pt Ac),(3,pt Ab),(12,pt Bc),(72,I Al),(73,I Af)] a ∧ St [] w0 w [([Ac],Ao),([Ab],Am),([Bc],Do),(Bm,Cr)] ∧ d_impl_spotFault_J2 fu (d_impl_spotFault_L2 fu r1 x5 Al Bu) x5 Af Bk = some r) ?_ ?_
         · rintro a Ec ⟨k,m,h⟩;refine oE h fun Fa Dr h=>gc 4 [bF m 2 Bg z] k z fun k=>cC k m call174 z (c_slices_ContainsFunc_int_int fu _ _ (m.q Aj 3 z) ⟨175,[pt Ab,pt Bc],z,call175,fun w Ef Dy r e Dk hx=>by subst Dk; have m:=m.step e; exact c_impl_spotFault_1 fu _ _ _ (Ai.agr (m.a 1 rfl) (by simp)) (m.r Ad) (m.r Aa) (Bg.agr (m.a 2 rfl) (by simp)) (Enc.rd_agr (Enc.ow_rd Aj) (m.a 3 rfl)) hx⟩ Dr) fun Fc e a k m=>ul 2 k z fun k=>cI h k rfl (fun Da h=>?_) fun Da h=>?_
           · refine uc 11 k z fun k=>fS h k m z z
           refine uc 3 k z fun k=>?_;exact ⟨k.p z,m.sl [0,1] z,h⟩
         refine uc 1 k z fun k=>d_go [] mixo m z fun Cs hMd=>?_;have m:=hMd;have s:=Ext.refl ([]:List Nat) Cs;refine dr [0] 1 [bF hMd 0 Bg z] k z s fun k=>dT k 1 z z s (fun w s=>r_len (α:=Int) (Enc.ow_rd Aj) k underlying35 z z) fun a k=>dM [2,3] 2 z k z s fun a k=>bS h k 82 z (fun _ h k=>?_) fun _ h k=>?_
         · refine dM [4,5,6,7,8,9,10,11,12] 9 z k z s fun a k=>dD ((nm_then ?_));refine uc 13 k z fun k=>fS h k m z z
         refine dr [6,4,5,8,9,10] 6 [bA hMd 2 Az z,bA hMd 3 Ai z,bF hMd 2 Az z] k z s fun k=>dG 7 z (oE h fun Ea Dl h=>?_);refine cC k m call173 z (c_impl_PalletGram fu _ _ _ (mkRequest (m.r Ba) (m.r Ax) (m.r Ay)) (mkPlan (m.r Ad) (m.r Aa)) Dl) fun Eu e a k m=>ns s e fun s=>dM [11,12] 2 z k z s fun a k=>dD ((nm_then ?_));refine cJ h k z (fun h=>?_) fun h=>?_
         · refine uc 12 k z fun k=>fS h k m z z
         refine uc 2 k z fun k=>?_;exact ⟨k.p z,m.sl [2,3,0,1] z,h⟩
       refine uc 11 k z fun k=>fS h k m z z
     exact ⟨_,k.p z,m.sl [0,1] z,h⟩
   exact ⟨_,k.p z,m.sl [0,1,2] z,h⟩
 exact ⟨_,_,_,_,_,k.p z,m.sl [2,1,0] z,Co,h⟩

end Go.Proofs.YthkaklkinepfkaaGreatDoor
