/- FnExactVerify: the walks of functions that it reaches (ExactVerifyBWs,part 4). Printed by gen.py. -/
import Derived.Test.YthkaklkinepfkaaGreatDoorExactVerifyBWs3
set_option maxRecDepth 20000
set_option linter.unusedSimpArgs false
set_option linter.unusedVariables false
set_option linter.unnecessarySimpa false
namespace Go.Proofs.YthkaklkinepfkaaGreatDoor
open Go Go.RowKit
open Enc (rd ow)
open Arg (argv)
open Ret (retv)
open Go.Proofs.Tryz

theorem c_spec_ReadPlan (fu) {w0} (Bb) {r} (h:d_spec_ReadPlan fu Bb = some r):Calls Tryz.prog 17 #[.string (Bb)] w0 fun e w=>∃ (Bg:List Value) (G0:List Nat),e = .returned (.tuple #[.agg Bg.toArray,.bool (r.2)]) ∧ Ext [] w0 w ∧ ow w G0 Bg r.1 ∧ (∀ b ∈ G0,w0.heap.size ≤ b):=by
 refine eg (vs:=[_]) func17 z ntmps17 z fun k m=>uc 2 k z fun k=>s_alloc m k zeroValue27 z z z z z fun b2 w4 a k m e Ai=>oE h fun x5 Bi h=>ul 6 k z fun k=>sL k m call43 z (c_spec_Parts fu _ _  Bi) fun w9 Bv Ba Ab k m=>ul 5 k z fun k=>sv k z (r_build bt27 k (cs:=#[.slice none 0 0,.slice none 0 0]) (ps:=[]) z z (by kernel_rfl)) fun a k=>s_alloc m k zeroValue27 z z z z z fun Aw Dm a k m e Bu=>sT sizeOf27 m 0 Bu 0 k z z fun Cp a k e m Ch=>ul 9 k z fun k=>lG (fun n a w=>∃ Aj Ad Af Aq Ag Ac Am As Ap Ak,K 58 [(2,pt b2),(4,Bv),(5,pt Aw),(6,I Ak)] a ∧ St [] w0 w [([b2],w4),(Af,Aq),(Am,As),([Aw],Ap),(Ba,w9)] ∧ ow Aq Af [Ad] Aj ∧ ow As Am [Ac] Ag ∧ bx Ap Aw [Ad,Ac] 27 ∧ d_spec_ReadPlan_L1 fu x5 n Aj Ag Ak = some r) ?_ fu ?_
 · rintro De a Cu ⟨Aj,Ad,Af,Aq,Ag,Ac,Am,As,Ap,Ak,k,m,Ao,Al,Ah,h⟩;refine gc 10 [lF (Enc.ow_rd Ab)] k z fun k=>cJ h k z (fun h=>?_) fun h=>?_
   · refine o2 h fun Dl Bc Aa Ca h=>gc 10 [iF (Enc.ow_rd Ab) Bc,eF (m.q Ab 4 z) Bc 0] k z fun k=>sC k call20 z (c_spec_LineOf fu _  Ca) fun Dj Cy hR=>?_;obtain ⟨Di,Ar,rfl,e,Ax,Bs⟩:=hR;refine ⟨_,z,fun a k=>?_⟩;have m:=m.nw e Bs Ax;obtain ⟨Au,_,rfl,rfl,Az,_⟩:=Ax;refine pN 4 k z fun a k=>s_alloc m k zeroValue37 z z z z z fun Cz Do a k m e Bl=>s_alloc m k zeroValue39 z z z z z fun Dc Cw a k m e Bh=>sT sizeOf37 m 1 Bl 0 k z (allc z (allc z (allc (rd_o (Enc.ow_rd Az)) alln))) fun Dq a k e m Bt=>sT sizeOf39 m 0 Bh 0 k z z fun Dr a k e m Cm=>ul 10 k z fun k=>cJ h k z (fun h=>?_) fun h=>?_
     · refine uc 2 k z fun k=>sv k z (r_build bt27 k (cs:=#[.slice none 0 0,.slice none 0 0]) (ps:=[]) z z (by kernel_rfl)) fun a k=>sT sizeOf27 m 3 Ai 0 k z z fun Ct a k e m Bz=>ul 10 k z fun k=>?_;cases h;exact finR2 k z (RV.cA k z ta27 (Bz.at (m.a 3 z) 0 2 z z z) z) (RV.tmp k z) ⟨_,_,z,m.ext,⟨_,[],_,[],z,z,(ow_nil _),(ow_nil _),by simpa [fps] using (m.sl [] z).nd⟩,(app_fresh (by simp) (by simp))⟩
     refine gc 7 [bF m 6 Ah z,bA m 1 Bt z] k z fun k=>sB te24 m k z (by exact fC z fN) fun Df Da Dp a k m e Cb=>oE h fun Bp Cs h=>?_;have Cq:ow _ (Ar) [I Aa.1.fType,I Aa.1.fGroup,Au] (Aa.1:Carton):=⟨_,_,z,z,(m.v Az 3 z),by simpa [fps] using (m.sl [3] z).nd⟩
     have Bo:=News.box Cb (m.a 0 z) (by simp) (m:=1);have Cl:=m.a 5 z;have m:=m.sl [5,3,0,1,2,4,6,7,8] z;have m:=m.join2;refine s_appO (F:=Af) (G:=(Ar)) Cs te24 z m Ao Cl Bo Cq (Agr.refl _ _) k z z z z z z fun Av Ce Bj a k e m Ay=>sv k z (r_fa fa27_0 k z z) fun a k=>s_stb1 (cs':=[Av,Ac]) sizeOf24 m 6 Ah 0 k (rd_c (Enc.ow_rd Ay)) (rd_o (Enc.ow_rd Ay)) z z z z z z z z z fun Db a k e m Be=>gl 6 [bF m 6 Be z,bA m 2 Cm z] k z fun k=>sB te25 m k z (by exact fC z fN) fun Dd Ds Dn a k m e Bx=>?_;have Bw:=ow_bx Bx ([Aa.2.1]:List Spot) z z z;refine oE h fun Cd Bq h=>s_appF Bq te25 z m 6 Al (News.rd (m.q Bw 0 z)) z z k z z z z z z z fun Bd Ck Br a k e m At=>sv k z (r_fa fa27_1 k z z) fun a k=>s_stb1 (cs':=[Av,Bd]) sizeOf25 m 7 Be 1 k (rd_c (Enc.ow_rd At)) (rd_o (Enc.ow_rd At)) z z z z z z z z z fun Cn a k e m Bm=>ul 9 k z fun k=>?_;exact ⟨_,_,_,_,_,_,_,_,_,_,k.p z,m.sl [5,1,6,7,8] z,Ay,At,Bm,h⟩
   refine oE h fun Ci Bf h=>gc 16 [lF (Enc.ow_rd Ab),iF (Enc.ow_rd Ab) Bf,eF (m.q Ab 4 z) Bf 0] k z fun k=>bS h k 51 z (fun _ h k=>?_) fun _ h k=>?_
   · refine ul 9 k z fun k=>sv k z (r_build bt27 k (cs:=#[.slice none 0 0,.slice none 0 0]) (ps:=[]) z z (by kernel_rfl)) fun a k=>sT sizeOf27 m 0 Ai 0 k z z fun Cv a k e m Co=>ul 5 k z fun k=>?_;cases h;exact finR2 k z (RV.cA k z ta27 (Co.at (m.a 0 z) 0 2 z z z) z) (RV.tmp k z) ⟨_,_,z,m.ext,⟨_,[],_,[],z,z,(ow_nil _),(ow_nil _),by simpa [fps] using (m.sl [] z).nd⟩,(app_fresh (by simp) (by simp))⟩
   refine oE h fun Dk Cr h=>gl 1 [bA m 3 Ah z] k z fun k=>cC k m call14 z (c_spec_PlanOk fu _ (show rd _ _ [Ad,Ac] ((⟨Aj,Ag⟩:Plan):Plan) from ⟨_,_,_,_,z,z,(m.q Ao 1 z),(m.q Al 2 z)⟩) Cr) fun Dg e a k m=>ul 4 k z fun k=>cJ h k z (fun h=>?_) fun h=>?_
   · refine uc 2 k z fun k=>sv k z (r_build bt27 k (cs:=#[.slice none 0 0,.slice none 0 0]) (ps:=[]) z z (by kernel_rfl)) fun a k=>sT sizeOf27 m 0 Ai 0 k z z fun Cx a k e m By=>ul 5 k z fun k=>?_;cases h;exact finR2 k z (RV.cA k z ta27 (By.at (m.a 0 z) 0 2 z z z) z) (RV.tmp k z) ⟨_,_,z,m.ext,⟨_,[],_,[],z,z,(ow_nil _),(ow_nil _),by simpa [fps] using (m.sl [] z).nd⟩,(app_fresh (by simp) (by simp))⟩
   refine gc 5 [bA m 3 Ah z] k z fun k=>sT sizeOf27 m 0 Ai 0 k z (allc (rd_o (Enc.ow_rd Ao)) (allc (rd_o (Enc.ow_rd Al)) alln)) fun Dh a k e m Cc=>ul 4 k z fun k=>?_;cases h;exact finR2 k z (RV.cA k z ta27 (Cc.at (m.a 0 z) 0 2 z z z) z) (RV.tmp k z) ⟨_,_,z,m.ext,⟨_,Af,_,Am,z,z,(m.v Ao 1 z),(m.v Al 2 z),by simpa [fps] using (m.sl [1,2] z).nd⟩,(app_fresh (m.fresh 1 z) (m.fresh 2 z))⟩
 exact ⟨_,_,_,_,_,_,_,_,_,_,k.p z,((m.addNil (u:=w0)).addNil (u:=w0)).sel [4,0,1,2,3] z (by decide),(ow_nil _),(ow_nil _),Ch,h⟩
theorem c_spec_l15Empty (fu) {w0} (x1) {Af F3} (Ak:rd w0 F3 Af x1) {r} (h:d_spec_l15Empty fu x1 = some r):cS 82 [.agg Af.toArray] w0 (.bool (r)):=by
 refine eg func82 z ntmps82 z fun k m=>?_;obtain ⟨v5,F6,v7,F8,rfl,rfl,Ab,Ar⟩:=Ak;refine uc 2 k z fun k=>s_box m k z z z z z z fun Ae Ag a k m e Ac=>ul 10 k z fun k=>lG (fun n a w=>∃ Aa,K 19 [(1,pt Ae),(3,I Aa)] a ∧ St [] w0 w [([Ae],Ag)] ∧ d_spec_l15Empty_L1 fu x1 n Aa = some r) ?_ fu ?_
 · rintro Aw a At ⟨Aa,k,m,h⟩;refine gc 10 [bF m 0 Ac z,lF Ab] k z fun k=>cJ h k z (fun h=>?_) fun h=>?_
   · refine oE h fun As Ad h=>gc 11 [bF m 0 Ac z,iF Ab Ad] k z fun k=>?_;obtain ⟨Au,Ap,Aq,Aj,Am,Ai⟩:=rd_get Ab (ix_some Ad).2.2;obtain ⟨Av,_,rfl,rfl,Ao⟩:=Aj;refine gl 5 [pF ((Am.agr (m.a00 (Enc.rd_lt Ab)) Ai).fld 2 1 (Nat.le_of_ble_eq_true z)),lF Ao] k z fun k=>cJ h k z (fun h=>?_) fun h=>?_
     · refine uc 11 k z fun k=>fS h k m z z
     refine uc 9 k z fun k=>?_;exact ⟨_,k.p z,m.sl [0] z,h⟩
   refine uc 11 k z fun k=>fS h k m z z
 exact ⟨_,k.p z,m.sl [0] z,h⟩
theorem c_spec_l6Units (fu) {w0} (r1) {Ar F3} (Ba:rd w0 F3 Ar r1) {r} (h:d_spec_l6Units fu r1 = some r):cL 83 [.agg Ar.toArray] w0 r:=by
 refine eg func83 z ntmps83 z fun k m=>?_;obtain ⟨v5,F6,v7,F8,v9,Bo,rfl,rfl,Bj,Bl,Af⟩:=Ba;refine uc 2 k z fun k=>s_box m k z z z z z z fun Ak Aq a k m e Ap=>ul 5 k z fun k=>sB te35 m k z (by exact fN) fun As Bg Br a k m e Bb=>?_;have Bi:=ow_bx Bb ([]:List Int) z z z;refine ul 10 k z fun k=>lG (fun n a w=>∃ Ac Ai Ab Ae Aa,K 29 [(1,pt Ak),(3,Ai),(4,I Aa)] a ∧ St [] w0 w [([Ak],Aq),(Ab,Ae)] ∧ ow Ae Ab [Ai] Ac ∧ d_spec_l6Units_L2 fu r1 n Ac Aa = some r) ?_ fu ?_
 · rintro Ax a Bq ⟨Ac,Ai,Ab,Ae,Aa,k,m,At,h⟩;refine gc 10 [bF m 0 Ap z,lF Af] k z fun k=>cJ h k z (fun h=>?_) fun h=>?_
   · refine uc 10 k z fun k=>lG (fun n a w=>∃ Al Ag Ah Aj Ad,K 29 [(1,pt Ak),(3,Ag),(4,I Aa),(5,I Ad)] a ∧ St [] w0 w [([Ak],Aq),(Ah,Aj)] ∧ ow Aj Ah [Ag] Al ∧ d_spec_l6Units_L1 fu (d_spec_l6Units_L2 fu r1 Ax) r1 Aa n Al Ad = some r) ?_ fu ?_
     · rintro Bp a Bn ⟨Al,Ag,Ah,Aj,Ad,k,m,Am,h⟩;refine oE h fun Bm Ao h=>gc 13 [bF m 0 Ap z,iF Af Ao,eF (m.r Af) Ao 6] k z fun k=>cJ h k z (fun h=>?_) fun h=>?_
       · refine uc 7 k z fun k=>sB te35 m k z (by exact fC z fN) fun Bk Bt Bs a k m e Aw=>?_;have Au:=ow_bx Aw ([Aa]:List Int) z z z;refine oE h fun Az Av h=>s_appF Av te35 z m 2 Am (News.rd (m.q Au 0 z)) z z k z z z z z z z fun Bh Bf Bd a k e m Ay=>ul 10 k z fun k=>?_;exact ⟨_,_,_,_,_,k.p z,m.sl [1,2] z,Ay,h⟩
       refine uc 12 k z fun k=>?_;exact ⟨_,_,_,_,_,k.p z,m.sl [0,1] z,Am,h⟩
     exact ⟨_,_,_,_,_,k.p z,m.sl [0,1] z,At,h⟩
   refine uc 12 k z fun k=>?_;cases h;exact finR1 k z (RV.tmp k z) ⟨_,Ab,z,m.ext,(m.v At 1 z),(m.fresh 1 z)⟩
 exact ⟨_,_,_,_,_,k.p z,m.sl [1,0] z,Bi,h⟩
theorem c_spec_l15Flat (fu) {w0} (x1) {Al F3} (Aw:rd w0 F3 Al x1) {r} (h:d_spec_l15Flat fu x1 = some r):cL 144 [.agg Al.toArray] w0 r:=by
 refine eg func144 z ntmps144 z fun k m=>?_;obtain ⟨v5,F6,v7,F8,rfl,rfl,Ac,Bd⟩:=Aw;refine uc 2 k z fun k=>s_box m k z z z z z z fun Aj Aq a k m e Ah=>ul 5 k z fun k=>sB te35 m k z (by exact fN) fun Ak Az Bh a k m e Ao=>?_;have Ax:=ow_bx Ao ([]:List Int) z z z;refine ul 10 k z fun k=>lG (fun n a w=>∃ Ae Af Aa Ad Ab,K 22 [(1,pt Aj),(3,Af),(4,I Ab)] a ∧ St [] w0 w [([Aj],Aq),(Aa,Ad)] ∧ ow Ad Aa [Af] Ae ∧ d_spec_l15Flat_L1 fu x1 n Ae Ab = some r) ?_ fu ?_
 · rintro Be a Bl ⟨Ae,Af,Aa,Ad,Ab,k,m,Ag,h⟩;refine gc 10 [bF m 0 Ah z,lF Ac] k z fun k=>cJ h k z (fun h=>?_) fun h=>?_
   · refine oE h fun Bk Ai h=>gc 11 [bF m 0 Ah z,iF Ac Ai] k z fun k=>?_;obtain ⟨Bf,Bi,Bj,Bb,Bc,Av⟩:=rd_get Ac (ix_some Ai).2.2;obtain ⟨Bg,_,rfl,rfl,Am⟩:=Bb;refine oE h fun Ba Au h=>gl 1 [pF ((Bc.agr (m.a00 (Enc.rd_lt Ac)) Av).fld 2 1 (Nat.le_of_ble_eq_true z))] k z fun k=>s_appF Au te35 z m 1 Ag (News.rd (m.r Am)) z z k z z z z z z z fun Ap As At a k e m Ay=>ul 10 k z fun k=>?_;exact ⟨_,_,_,_,_,k.p z,m.sl [0,1] z,Ay,h⟩
   refine uc 12 k z fun k=>?_;cases h;exact finR1 k z (RV.tmp k z) ⟨_,Aa,z,m.ext,(m.v Ag 1 z),(m.fresh 1 z)⟩
 exact ⟨_,_,_,_,_,k.p z,m.sl [1,0] z,Ax,h⟩
theorem c_spec_l1Bit (fu) {w0} (Aa) {r} (h:d_spec_l1Bit fu Aa = some r):cS 216 [.bool (Aa)] w0 (I r):=by
 refine eg func216 z ntmps216 z fun k m=>uc 11 k z fun k=>cJ h k z (fun h=>?_) fun h=>?_
 · refine uc 7 k z fun k=>fS h k m z z
 refine uc 8 k z fun k=>fS h k m z z
theorem c_spec_l8Times (fu) {w0} (Ad x5) {v2 F3} (Ab:rd w0 F3 [v2] Ad) {r} (h:d_spec_l8Times fu Ad x5 = some r):cS 145 [v2,I x5] w0 (I r):=by
 refine eg func145 z ntmps145 z fun k m=>uc 17 k z fun k=>lG (fun n a w=>∃ Ac Aa,K 23 [(0,v2),(1,I x5),(5,I Ac),(6,I Aa)] a ∧ St [] w0 w [] ∧ d_spec_l8Times_L1 fu Ad x5 n Ac Aa = some r) ?_ fu ?_
 · rintro Al a Aj ⟨Ac,Aa,k,m,h⟩;refine gc 9 [lF Ab] k z fun k=>cJ h k z (fun h=>?_) fun h=>?_
   · refine o2 h fun Ak Ae Ah Ag h=>gc 12 [iF Ab Ae,eF (m.r Ab) Ae 0] k z fun k=>cC k m call216 z (c_spec_l1Bit fu _  Ag) fun Ai e a k m=>ul 11 k z fun k=>?_;exact ⟨_,_,k.p z,m.sl [] z,h⟩
   refine uc 12 k z fun k=>fS h k m z z
 exact ⟨_,_,k.p z,m.sl [] z,h⟩
theorem c_spec_l15Units (fu) {w0} (Ac x5) {v2 F3} (Af:rd w0 F3 [v2] Ac) {Ad F7} (Ao:rd w0 F7 Ad x5) {r} (h:d_spec_l15Units fu Ac x5 = some r):cS 84 [v2,.agg Ad.toArray] w0 (.bool (r)):=by
 refine eg func84 z ntmps84 z fun k m=>?_;obtain ⟨v9,Ay,Ae,Bd,rfl,rfl,Ag,Ah⟩:=Ao;refine uc 2 k z fun k=>s_box m k z z z z z z fun Aw Bb a k m e Ak=>oE h fun Aj Am h=>gl 6 [bA m 0 Ak z] k z fun k=>sL k m call144 z (c_spec_l15Flat fu _ (mkPlan (m.r Ag) (m.r Ah)) Am) fun Al Ar Ai Aa k m=>gl 13 [lF (Enc.ow_rd Aa),lF Af] k z fun k=>cJ h k z (fun h=>?_) fun h=>?_
 · refine uc 7 k z fun k=>fS h k m z z
 refine uc 9 k z fun k=>lG (fun n a w=>∃ Ab,K 24 [(0,v2),(5,Ar),(6,I Ab)] a ∧ St [] w0 w [(Ai,Al)] ∧ d_spec_l15Units_L1 fu Ac Aj n Ab = some r) ?_ fu ?_
 · rintro Bc a Ax ⟨Ab,k,m,h⟩;refine gc 9 [lF Af] k z fun k=>cJ h k z (fun h=>?_) fun h=>?_
   · refine oE h fun Az At h=>uc 8 k z fun k=>cC k m call145 z (c_spec_l8Times fu _ _ (m.q Aa 0 z) At) fun Av e a k m=>ul 3 k z fun k=>cJ h k z (fun h=>?_) fun h=>?_
     · refine uc 11 k z fun k=>fS h k m z z
     refine uc 9 k z fun k=>?_;exact ⟨_,k.p z,m.sl [0] z,h⟩
   refine uc 11 k z fun k=>fS h k m z z
 exact ⟨_,k.p z,m.sl [0] z,h⟩
theorem c_spec_TypeById (fu) {w0} (r1 Ac) {Aj F3} (Al:rd w0 F3 Aj r1) {r} (h:d_spec_TypeById fu r1 Ac = some r):cS 128 [.agg Aj.toArray,I Ac] w0 (.tuple #[.agg (Flat.e r.1).toArray,.bool (r.2)]):=by
 refine eg func128 z ntmps128 z fun k m=>?_;obtain ⟨v6,F7,v8,F9,Aq,Ax,rfl,rfl,Av,Aa,Ay⟩:=Al;refine uc 2 k z fun k=>s_box m k z z z z z z fun Ah Ar a k m e Af=>s_alloc m k zeroValue61 z z z z z fun Ag Am a k m e Ai=>ul 10 k z fun k=>lG (fun n a w=>∃ Ad,K 28 [(1,I Ac),(2,pt Ah),(4,pt Ag),(6,I Ad)] a ∧ St [] w0 w [([Ah],Ar),([Ag],Am)] ∧ d_spec_TypeById_L1 fu r1 Ac n Ad = some r) ?_ fu ?_
 · rintro Bb a Au ⟨Ad,k,m,h⟩;refine gc 10 [bF m 0 Af z,lF Aa] k z fun k=>cJ h k z (fun h=>?_) fun h=>?_
   · refine oE h fun Ab Ae h=>gc 16 [bF m 0 Af z,iF Aa Ae,eF (m.r Aa) Ae 0] k z fun k=>cJ h k z (fun h=>?_) fun h=>?_
     · refine oE h fun Aw Ba h=>gc 7 [bF m 0 Af z,iF Aa Ae,eA (m.r Aa) Ae] k z fun k=>sT sizeOf61 m 1 Ai 0 k z z fun Az a k e m Ao=>ul 9 k z fun k=>?_;cases h;exact finR2 k z (RV.cA k z ta61 (Ao.at (m.a 1 z) 0 7 z z z) z) (RV.tmp k z) ⟨z,m.ext⟩
     refine uc 9 k z fun k=>?_;exact ⟨_,k.p z,m.sl [0,1] z,h⟩
   refine uc 7 k z fun k=>sv k z (r_build bt61 k (cs:=#[I 0,I 0,I 0,I 0,I 0,I 0,I 0]) (ps:=[]) z z (by kernel_rfl)) fun a k=>sT sizeOf61 m 1 Ai 0 k z z fun At a k e m Ak=>ul 4 k z fun k=>?_;cases h;exact finR2 k z (RV.cA k z ta61 (Ak.at (m.a 1 z) 0 7 z z z) z) (RV.tmp k z) ⟨z,m.ext⟩
 exact ⟨_,k.p z,m.sl [1,0] z,h⟩
theorem c_spec_l6Item (fu) {w0} (r1 Ah u9) {Ai F3} (Am:rd w0 F3 Ai r1) {v6 F7} (Ab:rd w0 F7 [v6] Ah) {r} (h:d_spec_l6Item fu r1 Ah u9 = some r):cS 147 [.agg Ai.toArray,v6,I u9] w0 (.tuple #[.agg (Flat.e r.1).toArray,.bool (r.2)]):=by
 refine eg func147 z ntmps147 z fun k m=>?_;obtain ⟨As,Bc,Aj,Be,Al,Ax,rfl,rfl,Au,Aw,Ac⟩:=Am;refine uc 2 k z fun k=>s_box m k z z z z z z fun Bf Av a k m e At=>s_alloc m k zeroValue59 z z z z z fun Af Az a k m e Ag=>oE h fun Bd Ar h=>gl 10 [lF Ab] k z fun k=>cC k m call39 z (c_spec_l1In fu _ _ _  Ar) fun Ba e a k m=>ul 3 k z fun k=>cJ h k z (fun h=>?_) fun h=>?_
 · refine uc 2 k z fun k=>sv k z (r_build bt59 k (cs:=#[I 0,I 0,I 0,I 0,I 0,I 0,I 0]) (ps:=[]) z z (by kernel_rfl)) fun a k=>sT sizeOf59 m 0 Ag 0 k z z fun Bg a k e m Ap=>ul 5 k z fun k=>?_;cases h;exact finR2 k z (RV.cA k z ta59 (Ap.at (m.a 0 z) 0 7 z z z) z) (RV.tmp k z) ⟨z,m.ext⟩
 refine uc 3 k z fun k=>d_go ([Af]) mixo m z fun Ao hMd=>?_;have m:=hMd;have s:=Ext.refl (([Af]):List Nat) Ao;refine dM [2,3] 2 z k z s fun a k=>dF k 0 fa55_6 z s fun a k=>dT k 1 z z s (fun w s=>r_ld1 t153 (r:=[]) (At.at (hMd.az 1 0 z z z s) 9 1 z z z) k z z) fun a k=>oE h fun Ay Ad h=>dT k 4 z z s (fun w s=>r_ixa Ab Ad k ts35 z z z) fun a k=>dT k 5 z z s (fun w s=>r_lde1 Ab (hMd.az0 0 z z (Enc.rd_lt Ab) s) Ad 0 t13 k z z z z) fun a k=>oE h fun Aa Ae h=>dT k 6 z z s (fun w s=>r_ixa Ac Ae k ts53 z z z) fun a k=>dT k 7 z z s (fun w s=>r_lde Ac (hMd.az0 0 z z (Enc.rd_lt Ac) s) Ae ta59 k z z) fun a k=>dG 8 z (sT sizeOf59 m 0 Ag 0 k z z fun Bb a k e m Ak=>?_);have s:=s.trans e (fun y hy=>Or.inl hy);refine wpList_nil ⟨s,?_⟩;refine dM [9] 1 z k z s fun a k=>dD ((nm_then ?_));refine wp_ret ?_;cases h;exact finR2 k z (RV.cA k z ta59 (Ak.at (m.a 0 z) 0 7 z z z) z) (RV.tmp k z) ⟨z,m.ext⟩
theorem c_spec_Volume (fu) {w0} (Ac h2 d3) {r} (h:d_spec_Volume fu Ac h2 d3 = some r):cS 218 [I Ac,I h2,I d3] w0 (I r):=by
 refine eg func218 z ntmps218 z fun k m=>uc 5 k z fun k=>cg (fun a w=>K 25 [(0,I Ac),(1,I h2),(2,I d3)] a ∧ St [] w0 w [] ∧ d_spec_Volume_J1 fu Ac h2 d3 = some r) ?_ ?_
 · rintro a Al ⟨k,m,h⟩;refine uc 11 k z fun k=>fS h k m z z
 refine oE h fun Ae Ad h=>uc 3 k z fun k=>cC k m call39 z (c_spec_l1In fu _ _ _  Ad) fun Aj e a k m=>pN 2 k z fun a k=>bS h k 10 z (fun _ h k=>?_) fun _ h k=>?_
 · refine ul 19 k z fun k=>fS h k m z z
 refine pN 1 k z fun a k=>oE h fun Af Ai h=>cC k m call39 z (c_spec_l1In fu _ _ _  Ai) fun Ak e a k m=>pN 3 k z fun a k=>bS h k 15 z (fun _ h k=>?_) fun _ h k=>?_
 · refine ul 14 k z fun k=>fS h k m z z
 refine pN 1 k z fun a k=>oE h fun Am Ag h=>cC k m call39 z (c_spec_l1In fu _ _ _  Ag) fun Ao e a k m=>ul 4 k z fun k=>cJ h k z (fun h=>?_) fun h=>?_
 · refine uc 7 k z fun k=>fS h k m z z
 refine uc 2 k z fun k=>?_;exact ⟨k.p z,m.sl [] z,h⟩
theorem c_spec_l7Of (fu) {w0} (r1 Am Aj) {Bf F3} (Cc:rd w0 F3 Bf r1) {v6 F7} (Au:rd w0 F7 [v6] Am) {Ai Cj} (As:rd w0 Cj [Ai] Aj) {r} (h:d_spec_l7Of fu r1 Am Aj = some r):cS 217 [.agg Bf.toArray,v6,Ai] w0 (.agg (Flat.e r).toArray):=by
 refine eg func217 z ntmps217 z fun k m=>?_;obtain ⟨Ay,Cs,Ba,Cw,Bc,Cu,rfl,rfl,Av,At,Aw⟩:=Cc;refine uc 2 k z fun k=>s_box m k z z z z z z fun Ag Be a k m e Cp=>s_alloc m k zeroValue201 z z z z z fun Ah Az a k m e Co=>ul 4 k z fun k=>sv k z (r_build bt201 k (cs:=#[I 0,I 0]) (ps:=[]) z z (by kernel_rfl)) fun a k=>s_alloc m k zeroValue201 z z z z z fun Ac Cx a k m e Bp=>sT (cs':=[I 0,I 0]) sizeOf201 m 0 Bp 0 k z z fun Bz a k e m Bs=>ul 9 k z fun k=>lG (fun n a w=>∃ Aa:L7,∃ Ar Ad,K 46 [(1,v6),(2,Ai),(3,pt Ag),(6,pt Ah),(7,pt Ac),(8,I Ad)] a ∧ St [] w0 w [([Ag],Be),([Ah],Az),([Ac],Ar)] ∧ bx Ar Ac [I Aa.fvol,I Aa.fgram] 201 ∧ d_spec_l7Of_L1 fu r1 Am Aj n Aa Ad = some r) ?_ fu ?_
 · rintro Bi a Db ⟨Aa,Ar,Ad,k,m,Ao,h⟩;refine gc 9 [lF As] k z fun k=>cJ h k z (fun h=>?_) fun h=>?_
   · refine uc 2 k z fun k=>cg (fun a w=>∃ Ak:L7,∃ Ap,K 46 [(1,v6),(2,Ai),(3,pt Ag),(6,pt Ah),(7,pt Ac),(8,I Ad)] a ∧ St [] w0 w [([Ag],Be),([Ah],Az),([Ac],Ap)] ∧ bx Ap Ac [I Ak.fvol,I Ak.fgram] 201 ∧ d_spec_l7Of_J1 fu (d_spec_l7Of_L1 fu r1 Am Aj Bi) Ad Ak = some r) ?_ ?_
     · rintro a Ct ⟨Ak,Ap,k,m,Cd,h⟩;refine uc 6 k z fun k=>?_;exact ⟨_,_,_,k.p z,m.sl [0,1,2] z,Cd,h⟩
     refine uc 1 k z fun k=>cg (fun a w=>∃ Ab:Item,∃ Aq Bd,K 46 [(1,v6),(2,Ai),(3,pt Ag),(6,pt Ah),(7,pt Ac),(8,I Ad),(9,pt Aq)] a ∧ St [] w0 w [([Ag],Be),([Ah],Az),([Ac],Ar),([Aq],Bd)] ∧ bx Bd Aq [I Ab.fId,I Ab.fW,I Ab.fH,I Ab.fD,I Ab.fGram,I Ab.fClass,I Ab.fCount] 59 ∧ d_spec_l7Of_J2 fu (d_spec_l7Of_L1 fu r1 Am Aj Bi) Aa Ad Ab = some r) ?_ ?_
     · rintro a Da ⟨Ab,Aq,Bd,k,m,Al,h⟩;refine uc 1 k z fun k=>d_go ([Ac]) mixo m z fun Bt hMd=>?_;have m:=hMd;have s:=Ext.refl (([Ac]):List Nat) Bt;refine dF k 0 fa201_0 z s fun a k=>dF k 2 fa59_1 z s fun a k=>dT k 3 z z s (fun w s=>r_ld1 t13 (r:=[]) (Al.at (hMd.az 3 2 z z z s) 1 1 z z z) k z z) fun a k=>dF k 4 fa59_2 z s fun a k=>dT k 5 z z s (fun w s=>r_ld1 t13 (r:=[]) (Al.at (hMd.az 3 2 z z z s) 2 1 z z z) k z z) fun a k=>dF k 6 fa59_3 z s fun a k=>dT k 7 z z s (fun w s=>r_ld1 t13 (r:=[]) (Al.at (hMd.az 3 2 z z z s) 3 1 z z z) k z z) fun a k=>dG2 1 8 (by kernel_rfl) z z ?_ ?_
       · refine gl 1 [bF m 2 Ao z] k z fun k=>wpList_nil ⟨s,?_⟩;refine dG 8 z (oE h fun Ax Ch h=>cC k m call218 z (c_spec_Volume fu _ _ _  Ch) fun Df e a k m=>?_);refine ns s e fun s=>dM [9] 1 z k z s fun a k=>dF k 10 fa201_0 z s fun a k=>dG 11 z (sT (cs':=[I (w64 (Aa.fvol + Ax)),I Aa.fgram]) sizeOf3 m 2 Ao 0 k z z fun Cy a k e m Bh=>?_);have s:=s.trans e (fun y hy=>Or.inl hy);refine wpList_nil ⟨s,?_⟩;refine dD ((nm_then ?_));refine gc 7 [bF m 2 Bh z,bF m 3 Al z] k z fun k=>sT (cs':=[I (w64 (Aa.fvol + Ax)),I (w64 (Aa.fgram + Ab.fGram))]) sizeOf3 m 2 Bh 1 k z z fun Cq a k e m Cb=>ul 3 k z fun k=>?_;exact ⟨_,_,k.p z,m.sl [0,1,2] z,Cb,h⟩
       refine oE h fun Bb Ce h=>cC k m call218 z (c_spec_Volume fu _ _ _  Ce) fun Cv e a k m=>ns s e fun s=>dG 1 z (gl 1 [bF m 2 Ao z] k z fun k=>wpList_nil ⟨s,?_⟩);refine dM [9] 1 z k z s fun a k=>dF k 10 fa201_0 z s fun a k=>dG 11 z (sT (cs':=[I (w64 (Aa.fvol + Bb)),I Aa.fgram]) sizeOf3 m 2 Ao 0 k z z fun Dg a k e m Bj=>?_);have s:=s.trans e (fun y hy=>Or.inl hy);refine wpList_nil ⟨s,?_⟩;refine dD ((nm_then ?_));refine gc 7 [bF m 2 Bj z,bF m 3 Al z] k z fun k=>sT (cs':=[I (w64 (Aa.fvol + Bb)),I (w64 (Aa.fgram + Ab.fGram))]) sizeOf3 m 2 Bj 1 k z z fun Bu a k e m Bv=>ul 3 k z fun k=>?_;exact ⟨_,_,k.p z,m.sl [0,1,2] z,Bv,h⟩
     refine d_go [] mixo m z fun Ca hMd=>?_;have m:=hMd;have s:=Ext.refl ([]:List Nat) Ca;refine oE h fun Cr Bg h=>dr [1,2,3,0,4,5] 6 [bA hMd 0 Cp z,iF As Bg,eF (hMd.r As) Bg 0] k z s fun k=>dG2 6 10 (by kernel_rfl) z z ?_ ?_
     · refine oE h fun Af Cg h=>cC k m call147 z (c_spec_l6Item fu _ _ _ (mkRequest (m.r Av) (m.r At) (m.r Aw)) (m.r Au) Cg) fun Cz e a k m=>ns s e fun s=>dM [7,8,9] 3 z k z s fun a k=>dG 10 z (s_allocN (cs:=[I 0,I 0,I 0,I 0,I 0,I 0,I 0]) m k zeroValue59 z z z z z fun Br Dh a k m e Ci Cm=>?_);have Ck:=lo1 (Nat.le_trans s.size Cm);refine ns s e fun s=>dG 11 z (sT (cs':=[I Af.1.fId,I Af.1.fW,I Af.1.fH,I Af.1.fD,I Af.1.fGram,I Af.1.fClass,I Af.1.fCount]) sizeOf59 m 0 Ci 0 k z z fun By a k e m Bx=>?_);have s:=s.trans e (fun y hy=>Or.inr (Ck y hy));refine wpList_nil ⟨s,?_⟩;refine dM [12] 1 z k z s fun a k=>dD ((nm_then ?_));exact ⟨_,_,_,k.p z,m.sl [1,2,3,0] z,Bx,h⟩
     refine s_allocN (cs:=[I 0,I 0,I 0,I 0,I 0,I 0,I 0]) m k zeroValue59 z z z z z fun Bm Dc a k m e Bq Bo=>?_;have Cn:=lo1 (Nat.le_trans s.size Bo);refine ns s e fun s=>dG 6 z (oE h fun Ae Bl h=>cC k m call147 z (c_spec_l6Item fu _ _ _ (mkRequest (m.r Av) (m.r At) (m.r Aw)) (m.r Au) Bl) fun Dd e a k m=>?_);refine ns s e fun s=>dM [7,8,9] 3 z k z s fun a k=>dG 11 z (sT (cs':=[I Ae.1.fId,I Ae.1.fW,I Ae.1.fH,I Ae.1.fD,I Ae.1.fGram,I Ae.1.fClass,I Ae.1.fCount]) sizeOf59 m 0 Bq 0 k z z fun Bn a k e m Cl=>?_);have s:=s.trans e (fun y hy=>Or.inr (Cn y hy));refine wpList_nil ⟨s,?_⟩;refine dM [12] 1 z k z s fun a k=>dD ((nm_then ?_));exact ⟨_,_,_,k.p z,m.sl [1,2,3,0] z,Cl,h⟩
   refine gc 8 [bA m 2 Ao z] k z fun k=>sT (cs':=[I Aa.fvol,I Aa.fgram]) sizeOf201 m 1 Co 0 k z z fun De a k e m Bw=>ul 3 k z fun k=>?_;cases h;exact finR1 k z (RV.cA k z ta201 (Bw.at (m.a 1 z) 0 2 z z z) z) ⟨z,m.ext⟩
 exact ⟨_,_,_,k.p z,m.sl [2,1,0] z,Bs,h⟩
theorem c_spec_Holds (fu) {w0} (r1 Aj t9) {Bf F3} (Bx:rd w0 F3 Bf r1) {v6 F7} (Ao:rd w0 F7 [v6] Aj) {r} (h:d_spec_Holds fu r1 Aj t9 = some r):cS 146 [.agg Bf.toArray,v6,.agg (Flat.e (t9)).toArray] w0 (.bool (r)):=by
 refine eg func146 z ntmps146 z fun k m=>?_;obtain ⟨Ak,Da,Al,Dh,Am,Cy,rfl,rfl,Ac,Ad,Ab⟩:=Bx;refine uc 2 k z fun k=>s_box m k z z z z z z fun Ai Az a k m e Ax=>s_box m k z z z z z z fun Ag Bb a k m e At=>oE h fun Cq Ch h=>gl 7 [bA m 1 Ax z] k z fun k=>cC k m call62 z (c_spec_Class fu _ (mkRequest (m.r Ac) (m.r Ad) (m.r Ab)) Ch) fun Dd e a k m=>ul 3 k z fun k=>cJ h k z (fun h=>?_) fun h=>?_
 · refine uc 7 k z fun k=>fS h k m z z
 refine oE h fun Av Cj h=>gc 5 [bA m 1 Ax z] k z fun k=>sL k m call83 z (c_spec_l6Units fu _ (mkRequest (m.r Ac) (m.r Ad) (m.r Ab)) Cj) fun Ba Au As Aq k m=>ul 3 k z fun k=>cg (fun a w=>K 62 [(1,v6),(3,pt Ai),(5,pt Ag),(7,Au)] a ∧ St [] w0 w [([Ai],Az),([Ag],Bb),(As,Ba)] ∧ d_spec_Holds_J1 fu r1 Aj t9 Av = some r) ?_ ?_
 · rintro a Db ⟨k,m,h⟩;refine oE h fun Bc Br h=>gc 5 [bA m 0 Ax z] k z fun k=>cC k m call217 z (c_spec_l7Of fu _ _ _ (mkRequest (m.r Ac) (m.r Ad) (m.r Ab)) (m.q Aq 2 z) (m.r Ao) Br) fun Cr e a k m=>s_alloc m k zeroValue201 z z z z z fun Cw Dg a k m e Bm=>sT sizeOf201 m 0 Bm 0 k z z fun Ct a k e m Be=>ul 3 k z fun k=>d_go [] mixo m z fun Cl hMd=>?_;have m:=hMd;have s:=Ext.refl ([]:List Nat) Cl;refine dr [0,1,2,3,4,5,6,7] 8 [bF hMd 0 Be z,bF hMd 2 At z,bF hMd 2 At z,bF hMd 2 At z] k z s fun k=>dG 8 z (oE h fun Cb Bv h=>cC k m call218 z (c_spec_Volume fu _ _ _  Bv) fun Cz e a k m=>?_);refine ns s e fun s=>dM [9,10] 2 z k z s fun a k=>bS h k 55 z (fun _ h k=>?_) fun _ h k=>?_
   · refine dr [11,12,13,14,15,16,17] 7 [bF hMd 0 Be z,bF hMd 2 At z] k z s fun k=>dD ((nm_then ?_));refine wp_ret (fS h k m z z)
   refine dM [11,12,13,14,15,16,17] 7 z k z s fun a k=>dD ((nm_then ?_));refine wp_ret (fS h k m z z)
 refine uc 6 k z fun k=>lG (fun n a w=>∃ Ah,K 62 [(1,v6),(3,pt Ai),(5,pt Ag),(7,Au),(8,I Ah)] a ∧ St [] w0 w [([Ai],Az),([Ag],Bb),(As,Ba)] ∧ d_spec_Holds_L1 fu r1 Aj t9 Av n Ah = some r) ?_ fu ?_
 · rintro Bh a Cm ⟨Ah,k,m,h⟩;refine gc 9 [lF Ao] k z fun k=>cJ h k z (fun h=>?_) fun h=>?_
   · refine uc 2 k z fun k=>cg (fun a w=>K 62 [(1,v6),(3,pt Ai),(5,pt Ag),(7,Au),(8,I Ah)] a ∧ St [] w0 w [([Ai],Az),([Ag],Bb),(As,Ba)] ∧ d_spec_Holds_J2 fu (d_spec_Holds_L1 fu r1 Aj t9 Av Bh) Ah = some r) ?_ ?_
     · rintro a Df ⟨k,m,h⟩;refine uc 6 k z fun k=>?_;exact ⟨_,k.p z,m.sl [0,1,2] z,h⟩
     refine uc 1 k z fun k=>cg (fun a w=>∃ Aa:Item,∃ Ay Bd Aw,K 62 [(1,v6),(3,pt Ai),(5,pt Ag),(7,Au),(8,I Ah),(9,pt Ay),(10,.bool (Aw))] a ∧ St [] w0 w [([Ai],Az),([Ag],Bb),(As,Ba),([Ay],Bd)] ∧ bx Bd Ay [I Aa.fId,I Aa.fW,I Aa.fH,I Aa.fD,I Aa.fGram,I Aa.fClass,I Aa.fCount] 59 ∧ d_spec_Holds_J3 fu (d_spec_Holds_L1 fu r1 Aj t9 Av Bh) t9 Ah Aa Aw = some r) ?_ ?_
     · rintro a Cx ⟨Aa,Ay,Bd,Aw,k,m,Bu,h⟩;refine uc 5 k z fun k=>bS h k 35 z (fun _ h k=>?_) fun _ h k=>?_
       · refine ul 19 k z fun k=>fS h k m z z
       refine oE h fun De Bq h=>gl 2 [bA m 3 Bu z,bA m 1 At z] k z fun k=>cC k m call121 z (c_spec_Fits fu (Aa:Item) (t9:Typ)  Bq) fun Cp e a k m=>ul 4 k z fun k=>cJ h k z (fun h=>?_) fun h=>?_
       · refine uc 11 k z fun k=>fS h k m z z
       refine uc 3 k z fun k=>?_;exact ⟨k.p z,m.sl [0,1,2] z,h⟩
     refine d_go [] mixo m z fun Bz hMd=>?_;have m:=hMd;have s:=Ext.refl ([]:List Nat) Bz;refine oE h fun Cn Bg h=>dr [1,2,3,0,4,5] 6 [bA hMd 0 Ax z,iF Ao Bg,eF (hMd.r Ao) Bg 0] k z s fun k=>dG2 6 10 (by kernel_rfl) z z ?_ ?_
     · refine oE h fun Af Bj h=>cC k m call147 z (c_spec_l6Item fu _ _ _ (mkRequest (m.r Ac) (m.r Ad) (m.r Ab)) (m.q Aq 2 z) Bj) fun Co e a k m=>ns s e fun s=>dM [7,8,9] 3 z k z s fun a k=>dG 10 z (s_allocN (cs:=[I 0,I 0,I 0,I 0,I 0,I 0,I 0]) m k zeroValue59 z z z z z fun Ca Cv a k m e Bs Cc=>?_);have Cg:=lo1 (Nat.le_trans s.size Cc);refine ns s e fun s=>dG 11 z (sT sizeOf59 m 0 Bs 0 k z z fun Bw a k e m Ci=>?_);have s:=s.trans e (fun y hy=>Or.inr (Cg y hy));refine wpList_nil ⟨s,?_⟩;refine dM [12] 1 z k z s fun a k=>dD ((nm_then ?_));exact ⟨_,_,_,_,k.p z,m.sl [1,2,3,0] z,Ci,h⟩
     refine s_allocN (cs:=[I 0,I 0,I 0,I 0,I 0,I 0,I 0]) m k zeroValue59 z z z z z fun Ce Cs a k m e Bl Bn=>?_;have Ck:=lo1 (Nat.le_trans s.size Bn);refine ns s e fun s=>dG 6 z (oE h fun Ae Bo h=>cC k m call147 z (c_spec_l6Item fu _ _ _ (mkRequest (m.r Ac) (m.r Ad) (m.r Ab)) (m.q Aq 3 z) Bo) fun Cu e a k m=>?_);refine ns s e fun s=>dM [7,8,9] 3 z k z s fun a k=>dG 11 z (sT sizeOf59 m 0 Bl 0 k z z fun Bp a k e m By=>?_);have s:=s.trans e (fun y hy=>Or.inr (Ck y hy));refine wpList_nil ⟨s,?_⟩;refine dM [12] 1 z k z s fun a k=>dD ((nm_then ?_));exact ⟨_,_,_,_,k.p z,m.sl [1,2,3,0] z,By,h⟩
   refine uc 5 k z fun k=>?_;exact ⟨k.p z,m.sl [0,1,2] z,h⟩
 exact ⟨_,k.p z,m.sl [2,1,0] z,h⟩
theorem c_spec_l15Holds (fu) {w0} (r1 x5) {Ay F3} (Bn:rd w0 F3 Ay r1) {Au F7} (Bt:rd w0 F7 Au x5) {r} (h:d_spec_l15Holds fu r1 x5 = some r):cS 85 [.agg Ay.toArray,.agg Au.toArray] w0 (.bool (r)):=by
 refine eg func85 z ntmps85 z fun k m=>?_;obtain ⟨v9,Ci,Ao,Df,Am,Cj,rfl,rfl,Aj,Ag,Ah⟩:=Bn;obtain ⟨Bc,Da,Bm,Cz,rfl,rfl,Ae,Cv⟩:=Bt;refine uc 2 k z fun k=>s_box m k z z z z z z fun Af At a k m e Az=>s_box m k z z z z z z fun Ai Aq a k m e Ar=>ul 10 k z fun k=>lG (fun n a w=>∃ Ad,K 40 [(2,pt Af),(3,pt Ai),(5,I Ad)] a ∧ St [] w0 w [([Af],At),([Ai],Aq)] ∧ d_spec_l15Holds_L1 fu r1 x5 n Ad = some r) ?_ fu ?_
 · rintro Aw a Cx ⟨Ad,k,m,h⟩;refine gc 10 [bF m 1 Ar z,lF Ae] k z fun k=>cJ h k z (fun h=>?_) fun h=>?_
   · refine uc 2 k z fun k=>cg (fun a w=>K 40 [(2,pt Af),(3,pt Ai),(5,I Ad)] a ∧ St [] w0 w [([Af],At),([Ai],Aq)] ∧ d_spec_l15Holds_J1 fu (d_spec_l15Holds_L1 fu r1 x5 Aw) Ad = some r) ?_ ?_
     · rintro a Cg ⟨k,m,h⟩;refine uc 6 k z fun k=>?_;exact ⟨_,k.p z,m.sl [0,1] z,h⟩
     refine uc 1 k z fun k=>cg (fun a w=>∃ Aa:Typ,∃ Al As Ap,K 40 [(2,pt Af),(3,pt Ai),(5,I Ad),(6,pt Al),(7,.bool (Ap))] a ∧ St [] w0 w [([Af],At),([Ai],Aq),([Al],As)] ∧ bx As Al [I Aa.fId,I Aa.fW,I Aa.fH,I Aa.fD,I Aa.fTare,I Aa.fGram,I Aa.fCost] 61 ∧ d_spec_l15Holds_J2 fu (d_spec_l15Holds_L1 fu r1 x5 Aw) r1 x5 Ad Aa Ap = some r) ?_ ?_
     · rintro a Cq ⟨Aa,Al,As,Ap,k,m,Cc,h⟩;refine uc 1 k z fun k=>d_go [] mixo m z fun Bi hMd=>?_;have m:=hMd;have s:=Ext.refl ([]:List Nat) Bi;refine dM [0,1,2] 3 z k z s fun a k=>bS h k 28 z (fun _ h k=>?_) fun _ h k=>?_
       · refine dM [3,4,5,6,7,8,9,10,11,12,13] 11 z k z s fun a k=>dD ((nm_then ?_));refine uc 12 k z fun k=>fS h k m z z
       refine oE h fun Ch Av h=>dr [6,3,4,5,7,8] 6 [bA hMd 0 Az z,bF hMd 1 Ar z,iF Ae Av] k z s fun k=>?_;obtain ⟨Db,Cw,Ct,Bl,Bw,Bg⟩:=rd_get Ae (ix_some Av).2.2;obtain ⟨Co,_,rfl,rfl,Ax⟩:=Bl;refine dT k 9 z z s (fun w s=>r_ld1 t135 ((Bw.agr ((hMd.step s).a00 (Enc.rd_lt Ae)) Bg).fld 2 1 (Nat.le_of_ble_eq_true z)) k z z) fun a k=>dr [10] 1 [bA hMd 2 Cc z] k z s fun k=>dG 11 z (oE h fun De Bd h=>?_);refine cC k m call146 z (c_spec_Holds fu _ _ (Aa:Typ) (mkRequest (m.r Aj) (m.r Ag) (m.r Ah)) (m.r Ax) Bd) fun Dd e a k m=>ns s e fun s=>dM [12,13] 2 z k z s fun a k=>dD ((nm_then ?_));refine cJ h k z (fun h=>?_) fun h=>?_
       · refine uc 11 k z fun k=>fS h k m z z
       refine uc 3 k z fun k=>?_;exact ⟨k.p z,m.sl [0,1] z,h⟩
     refine d_go [] mixo m z fun Bf hMd=>?_;have m:=hMd;have s:=Ext.refl ([]:List Nat) Bf;refine oE h fun Cp Ba h=>dr [3,0,1,2,4,5] 6 [bA hMd 0 Az z,bF hMd 1 Ar z,iF Ae Ba] k z s fun k=>?_;obtain ⟨Dc,Cl,Cy,Bx,Bk,Bb⟩:=rd_get Ae (ix_some Ba).2.2;obtain ⟨Cs,_,rfl,rfl,Ck⟩:=Bx;refine dT k 6 z z s (fun w s=>r_ld1 t13 ((Bk.agr ((hMd.step s).a00 (Enc.rd_lt Ae)) Bb).fld 0 1 (Nat.le_of_ble_eq_true z)) k z z) fun a k=>dG2 7 11 (by kernel_rfl) z z ?_ ?_
     · refine oE h fun Ab Bh h=>cC k m call128 z (c_spec_TypeById fu _ _ (mkRequest (m.r Aj) (m.r Ag) (m.r Ah)) Bh) fun Cr e a k m=>ns s e fun s=>dM [8,9,10] 3 z k z s fun a k=>dG 11 z (s_allocN (cs:=[I 0,I 0,I 0,I 0,I 0,I 0,I 0]) m k zeroValue61 z z z z z fun Ce Cu a k m e Ca Be=>?_);have Bu:=lo1 (Nat.le_trans s.size Be);refine ns s e fun s=>dG 12 z (sT sizeOf61 m 0 Ca 0 k z z fun Bj a k e m Cb=>?_);have s:=s.trans e (fun y hy=>Or.inr (Bu y hy));refine wpList_nil ⟨s,?_⟩;refine dM [13] 1 z k z s fun a k=>dD ((nm_then ?_));exact ⟨_,_,_,_,k.p z,m.sl [1,2,0] z,Cb,h⟩
     refine s_allocN (cs:=[I 0,I 0,I 0,I 0,I 0,I 0,I 0]) m k zeroValue61 z z z z z fun Bv Cn a k m e Cd Bo=>?_;have Bq:=lo1 (Nat.le_trans s.size Bo);refine ns s e fun s=>dG 7 z (oE h fun Ac Bs h=>cC k m call128 z (c_spec_TypeById fu _ _ (mkRequest (m.r Aj) (m.r Ag) (m.r Ah)) Bs) fun Cm e a k m=>?_);refine ns s e fun s=>dM [8,9,10] 3 z k z s fun a k=>dG 12 z (sT sizeOf61 m 0 Cd 0 k z z fun Bz a k e m Br=>?_);have s:=s.trans e (fun y hy=>Or.inr (Bq y hy));refine wpList_nil ⟨s,?_⟩;refine dM [13] 1 z k z s fun a k=>dD ((nm_then ?_));exact ⟨_,_,_,_,k.p z,m.sl [1,2,0] z,Br,h⟩
   refine uc 11 k z fun k=>fS h k m z z
 exact ⟨_,k.p z,m.sl [1,0] z,h⟩
theorem c_spec_Present (fu) {w0} (r1) {Ay F3} (Be:rd w0 F3 Ay r1) {r} (h:d_spec_Present fu r1 = some r):cL 127 [.agg Ay.toArray] w0 r:=by
 refine eg func127 z ntmps127 z fun k m=>?_;obtain ⟨v5,F6,v7,F8,v9,By,rfl,rfl,Av,Aw,Af⟩:=Be;refine uc 2 k z fun k=>s_box m k z z z z z z fun Ab Ao a k m e As=>ul 5 k z fun k=>sB te35 m k z (by exact fN) fun Au Bp Cc a k m e Bi=>?_;have Az:=ow_bx Bi ([]:List Int) z z z;refine oE h fun Bx Ba h=>gl 7 [bA m 1 As z] k z fun k=>cC k m call62 z (c_spec_Class fu _ (mkRequest (m.r Av) (m.r Aw) (m.r Af)) Ba) fun Bz e a k m=>ul 3 k z fun k=>cJ h k z (fun h=>?_) fun h=>?_
 · refine uc 8 k z fun k=>?_;cases h;exact finR1 k z (RV.tmp k z) ⟨_,[Au],z,m.ext,(m.v Az 0 z),(m.fresh 0 z)⟩
 refine uc 9 k z fun k=>lG (fun n a w=>∃ Ad Ae Ac Ah Aa,K 40 [(1,pt Ab),(3,Ae),(4,I Aa)] a ∧ St [] w0 w [([Ab],Ao),(Ac,Ah)] ∧ ow Ah Ac [Ae] Ad ∧ d_spec_Present_L2 fu r1 n Ad Aa = some r) ?_ fu ?_
 · rintro Ar a Bv ⟨Ad,Ae,Ac,Ah,Aa,k,m,At,h⟩;refine uc 7 k z fun k=>cJ h k z (fun h=>?_) fun h=>?_
   · refine uc 2 k z fun k=>cg (fun a w=>∃ Ak Ap Am Aq,K 40 [(1,pt Ab),(3,Ap),(4,I Aa)] a ∧ St [] w0 w [([Ab],Ao),(Am,Aq)] ∧ ow Aq Am [Ap] Ak ∧ d_spec_Present_J1 fu (d_spec_Present_L2 fu r1 Ar) Aa Ak = some r) ?_ ?_
     · rintro a Cb ⟨Ak,Ap,Am,Aq,k,m,Bg,h⟩;refine uc 6 k z fun k=>?_;exact ⟨_,_,_,_,_,k.p z,m.sl [0,1] z,Bg,h⟩
     refine uc 13 k z fun k=>lG (fun n a w=>∃ Aj Ag,K 40 [(1,pt Ab),(3,Ae),(4,I Aa),(5,.bool (Aj)),(6,I Ag)] a ∧ St [] w0 w [([Ab],Ao),(Ac,Ah)] ∧ d_spec_Present_L1 fu (d_spec_Present_L2 fu r1 Ar) r1 Ad Aa n Aj Ag = some r) ?_ fu ?_
     · rintro Br a Bw ⟨Aj,Ag,k,m,h⟩;refine gc 10 [bF m 0 As z,lF Af] k z fun k=>cJ h k z (fun h=>?_) fun h=>?_
       · refine uc 2 k z fun k=>cg (fun a w=>∃ Al,K 40 [(1,pt Ab),(3,Ae),(4,I Aa),(5,.bool (Al)),(6,I Ag)] a ∧ St [] w0 w [([Ab],Ao),(Ac,Ah)] ∧ d_spec_Present_J2 fu (d_spec_Present_L1 fu (d_spec_Present_L2 fu r1 Ar) r1 Ad Aa Br) Ag Al = some r) ?_ ?_
         · rintro a Bu ⟨Al,k,m,h⟩;refine uc 6 k z fun k=>?_;exact ⟨_,_,k.p z,m.sl [0,1] z,h⟩
         refine uc 4 k z fun k=>bS h k 24 z (fun _ h k=>?_) fun _ h k=>?_
         · refine ul 13 k z fun k=>?_;exact ⟨_,k.p z,m.sl [0,1] z,h⟩
         refine oE h fun Bn Ax h=>gl 13 [bF m 0 As z,iF Af Ax,eF (m.r Af) Ax 5] k z fun k=>?_;exact ⟨_,k.p z,m.sl [0,1] z,h⟩
       refine uc 10 k z fun k=>cJ h k z (fun h=>?_) fun h=>?_
       · refine uc 3 k z fun k=>sB te35 m k z (by exact fC z fN) fun Cd Bt Ca a k m e Bf=>?_;have Bm:=ow_bx Bf ([Aa]:List Int) z z z;refine oE h fun Bc Bb h=>s_appF Bb te35 z m 2 At (News.rd (m.q Bm 0 z)) z z k z z z z z z z fun Bl Bj Bq a k e m Bs=>ul 4 k z fun k=>?_;exact ⟨_,_,_,_,k.p z,m.sl [1,2] z,Bs,h⟩
       refine uc 3 k z fun k=>?_;exact ⟨_,_,_,_,k.p z,m.sl [0,1] z,At,h⟩
     exact ⟨_,_,k.p z,m.sl [0,1] z,h⟩
   refine uc 12 k z fun k=>?_;cases h;exact finR1 k z (RV.tmp k z) ⟨_,Ac,z,m.ext,(m.v At 1 z),(m.fresh 1 z)⟩
 exact ⟨_,_,_,_,_,k.p z,m.sl [1,0] z,Az,h⟩

end Go.Proofs.YthkaklkinepfkaaGreatDoor
