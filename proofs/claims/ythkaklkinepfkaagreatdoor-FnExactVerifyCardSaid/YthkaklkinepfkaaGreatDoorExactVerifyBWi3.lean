/- FnExactVerify: the walks of functions that it reaches (ExactVerifyBWi,part 3). Printed by gen.py. -/
import Derived.Test.YthkaklkinepfkaaGreatDoorExactVerifyBWi2
set_option maxRecDepth 20000
set_option linter.unusedSimpArgs false
set_option linter.unusedVariables false
set_option linter.unnecessarySimpa false
namespace Go.Proofs.YthkaklkinepfkaaGreatDoor
open Go Go.RowKit
open Enc (rd ow)
open Arg (argv)
open Ret (retv)
open Go.Proofs.Tryz

theorem c_impl_Class_1 (fu) {w0} (x1 x2) {b3} (Aa:bx w0 b3 [I x2.fId,I x2.fW,I x2.fH,I x2.fD,I x2.fTare,I x2.fGram,I x2.fCost] 61) {r} (h:d_impl_Class_1 fu x1 x2 = some r):cS 158 [.agg (Flat.e (x1)).toArray,pt b3] w0 (.bool (r)):=by
 refine eg func158 z ntmps158 z fun k m=>uc 2 k z fun k=>s_box m k z z z z z z fun b5 w7 a k m e Ac=>gl 6 [bA m 0 Ac z] k z fun k=>sv k z (r_ldA ta61 (Aa.at (m.a00 Aa.lt1) 0 7 z z z) z k z z) fun a k=>oE h fun x8 Ab h=>cC k m call159 z (c_impl_Fits fu (x1:Item) (x2:Typ)  Ab) fun Ad e a k m=>ul 5 k z fun k=>fS h k m z z
theorem c_impl_Class_2 (fu) {w0} (t1 x2) {b3} (Aa:bx w0 b3 [I x2.fW,I x2.fD,I x2.fH,I x2.fGram] 50) {r} (h:d_impl_Class_2 fu t1 x2 = some r):cS 161 [.agg (Flat.e (t1)).toArray,pt b3] w0 (.bool (r)):=by
 refine eg func161 z ntmps161 z fun k m=>uc 2 k z fun k=>s_box m k z z z z z z fun b5 w7 a k m e Ab=>gl 11 [bF m 0 Ab z,pF (r:=[]) (Aa.at (m.a00 Aa.lt1) 0 1 z z z)] k z fun k=>bS h k 9 z (fun _ h k=>?_) fun _ h k=>?_
 · refine ul 27 k z fun k=>fS h k m z z
 refine gl 7 [bF m 0 Ab z,pF (r:=[]) (Aa.at (m.a00 Aa.lt1) 1 1 z z z)] k z fun k=>bS h k 16 z (fun _ h k=>?_) fun _ h k=>?_
 · refine ul 20 k z fun k=>fS h k m z z
 refine gl 7 [bF m 0 Ab z,pF (r:=[]) (Aa.at (m.a00 Aa.lt1) 2 1 z z z)] k z fun k=>bS h k 23 z (fun _ h k=>?_) fun _ h k=>?_
 · refine ul 13 k z fun k=>fS h k m z z
 refine gl 13 [bF m 0 Ab z,bF m 0 Ab z,pF (r:=[]) (Aa.at (m.a00 Aa.lt1) 3 1 z z z)] k z fun k=>fS h k m z z
theorem c_impl_Class (fu) {w0} (r1) {Af F3} (Al:rd w0 F3 Af r1) {r} (h:d_impl_Class fu r1 = some r):cS 91 [.agg Af.toArray] w0 (I r):=by
 refine eg func91 z ntmps91 z fun k m=>?_;obtain ⟨v5,F6,v7,F8,v9,Bm,rfl,rfl,Aa,Ac,Ad⟩:=Al;refine uc 2 k z fun k=>s_box m k z z z z z z fun Bs Br a k m e Ab=>oE h fun Ae Ao h=>gl 6 [bA m 0 Ab z] k z fun k=>cC k m call153 z (c_impl_MasterOf fu _ (mkRequest (m.r Aa) (m.r Ac) (m.r Ad)) Ao) fun Bn e a k m=>pN 3 k z fun a k=>s_alloc m k zeroValue61 z z z z z fun Ar Bt a k m e Aw=>sT sizeOf61 m 0 Aw 0 k z z fun Bk a k e m Ak=>gl 7 [bA m 1 Ab z] k z fun k=>s_alloc m k zeroValue50 z z z z z fun Ay Bp a k m e Ba=>sT sizeOf50 m 0 Ba 0 k z z fun Bw a k e m Aj=>oE h fun Bi Ax h=>gl 7 [bA m 2 Ab z] k z fun k=>cC k m call154 z (c_impl_BoundsOk fu _ (mkRequest (m.r Aa) (m.r Ac) (m.r Ad)) Ax) fun Bb e a k m=>ul 4 k z fun k=>?_;refine cJ h k z (fun h=>?_) fun h=>?_
 · refine uc 8 k z fun k=>fS h k m z z
 refine oE h fun Bq Aq h=>gc 3 [bA m 2 Ab z] k z fun k=>cC k m call155 z (c_impl_namesOk fu _ (mkRequest (m.r Aa) (m.r Ac) (m.r Ad)) Aq) fun Bh e a k m=>ul 4 k z fun k=>cJ h k z (fun h=>?_) fun h=>?_
 · refine uc 8 k z fun k=>fS h k m z z
 refine oE h fun Bj Ag h=>gc 6 [bF m 2 Ab z,bF m 2 Ab z] k z fun k=>cC k m call156 z (c_impl_TableOk fu _ _ (m.r Aa) Ag) fun Bu e a k m=>ul 4 k z fun k=>cJ h k z (fun h=>?_) fun h=>?_
 · refine uc 8 k z fun k=>fS h k m z z
 refine oE h fun Bo Ah h=>gc 5 [bF m 2 Ab z] k z fun k=>cC k m call157 z (c_slices_ContainsFunc_impl_Item_impl_Item fu _ _ (m.r Ad) ⟨158,[pt Ar],z,call158,fun w Bf Bl r e Au hx=>by subst Au; have m:=m.step e; exact c_impl_Class_1 fu _ _ (Ak.agr (m.a 1 rfl) (by simp)) hx⟩ Ah) fun Bc e a k m=>pN 1 k rfl fun a k=>ul 2 k z fun k=>cI h k rfl (fun At h=>?_) fun At h=>?_
 · refine uc 8 k z fun k=>fS h k m z z
 refine oE h fun Bd Am h=>gc 5 [bF m 2 Ab z] k z fun k=>cC k m call160 z (c_slices_ContainsFunc_impl_Type_impl_Type fu _ _ (m.r Ac) ⟨161,[pt Ay],z,call161,fun w Bv Be r e Ap hx=>by subst Ap; have m:=m.step e; exact c_impl_Class_2 fu _ _ (Aj.agr (m.a 0 rfl) (by simp)) hx⟩ Am) fun Bg e a k m=>pN 1 k rfl fun a k=>ul 2 k z fun k=>cI h k rfl (fun Av h=>?_) fun Av h=>?_
 · refine uc 8 k z fun k=>fS h k m z z
 refine uc 9 k z fun k=>fS h k m z z
theorem c_impl_ClassOf (fu) {w0} (hT:Te Tryz.prog w0) (Af) {r} (h:d_impl_ClassOf fu Af = some r):cS 50 [.string (Af)] w0 (I r):=by
 refine eg func50 z ntmps50 z fun k m=>oE h fun x2 Al h=>uc 8 k z fun k=>sC k call51 z (c_impl_ReadOrder fu (m.te hT) _  Al) fun e4 w5 hR=>?_;obtain ⟨Au,F6,rfl,e,Aa,Ao⟩:=hR;refine ⟨_,z,fun a k=>?_⟩;have m:=m.nw e Ao Aa;obtain ⟨Ad,Av,Ac,Aq,Ah,At,rfl,rfl,Ae,Ab,Ag,_⟩:=Aa;have m:=m.split2;have m:=m.split2at1;refine pN 3 k z fun a k=>s_alloc m k zeroValue55 z z z z z fun Ax Ap a k m e Ak=>sT sizeOf55 m 0 Ak 0 k z (allc z (allc z (allc z (allc z (allc z (allc z (allc (rd_o (Enc.ow_rd Ae)) (allc (rd_o (Enc.ow_rd Ab)) (allc z (allc (rd_o (Enc.ow_rd Ag)) alln)))))))))) fun As a k e m Am=>ul 10 k z fun k=>cJ h k z (fun h=>?_) fun h=>?_
 · refine uc 7 k z fun k=>fS h k m z z
 refine oE h fun Ar Ai h=>gc 5 [bA m 0 Am z] k z fun k=>cC k m call91 z (c_impl_Class fu _ (mkRequest (m.q Ae 1 z) (m.q Ab 2 z) (m.q Ag 3 z)) Ai) fun Aw e a k m=>ul 4 k z fun k=>fS h k m z z
theorem c_impl_unitsRight (fu) {w0} (Ac) {v2 F3} (Aa:rd w0 F3 [v2] Ac) {r} (h:d_impl_unitsRight fu Ac = some r):cS 75 [v2] w0 (.bool (r)):=by
 refine eg func75 z ntmps75 z fun k m=>gc 14 [lF Aa] k z fun k=>lG (fun n a w=>∃ Ab,K 32 [(0,v2),(5,v2),(6,I ((Ac.length:Int))),(7,I Ab)] a ∧ St [] w0 w [] ∧ d_impl_unitsRight_L1 fu Ac n Ab = some r) ?_ fu ?_
 · rintro Ak a Ap ⟨Ab,k,m,h⟩;refine uc 6 k z fun k=>cJ h k z (fun h=>?_) fun h=>?_
   · refine uc 2 k z fun k=>cg (fun a w=>K 32 [(0,v2),(5,v2),(6,I ((Ac.length:Int))),(7,I Ab)] a ∧ St [] w0 w [] ∧ d_impl_unitsRight_J1 fu (d_impl_unitsRight_L1 fu Ac Ak) Ab = some r) ?_ ?_
     · rintro a Ao ⟨k,m,h⟩;refine uc 5 k z fun k=>?_;exact ⟨_,k.p z,m.sl [] z,h⟩
     refine o2 h fun Ar Af Al Ah h=>gc 13 [iF Aa Af,eF (m.r Aa) Af 0] k z fun k=>cC k m call68 z (c_impl_in fu _ _ _  Ah) fun Am e a k m=>pN 2 k z fun a k=>bS h k 15 z (fun _ h k=>?_) fun _ h k=>?_
     · refine ul 26 k z fun k=>fS h k m z z
     refine pN 3 k z fun a k=>bS h k 18 z (fun _ h k=>?_) fun _ h k=>?_
     · refine oE h fun Aq Ag h=>gl 11 [iF Aa Ag,eF (m.r Aa) Ag 0] k z fun k=>cJ h k z (fun h=>?_) fun h=>?_
       · refine uc 11 k z fun k=>fS h k m z z
       refine uc 3 k z fun k=>?_;exact ⟨k.p z,m.sl [] z,h⟩
     refine ul 15 k z fun k=>?_;exact ⟨k.p z,m.sl [] z,h⟩
   refine gc 14 [lF Aa] k z fun k=>fS h k m z z
 exact ⟨_,k.p z,m.sl [] z,h⟩
theorem c_impl_isPlace (fu) {w0} (n1) {r} (h:d_impl_isPlace fu n1 = some r):cS 76 [I n1] w0 (.bool (r)):=by
 refine eg func76 z ntmps76 z fun k m=>oE h fun x2 Aa h=>uc 8 k z fun k=>cC k m call68 z (c_impl_in fu _ _ _  Aa) fun w5 e a k m=>ul 4 k z fun k=>fS h k m z z
theorem c_impl_PlanOk (fu) {w0} (x1) {At F3} (Be:rd w0 F3 At x1) {r} (h:d_impl_PlanOk fu x1 = some r):cS 34 [.agg At.toArray] w0 (.bool (r)):=by
 refine eg func34 z ntmps34 z fun k m=>?_;obtain ⟨v5,F6,v7,F8,rfl,rfl,Ac,Ao⟩:=Be;refine uc 2 k z fun k=>s_box m k z z z z z z fun Ab Ap a k m e Af=>ul 3 k z fun k=>cg (fun a w=>K 73 [(1,pt Ab)] a ∧ St [] w0 w [([Ab],Ap)] ∧ d_impl_PlanOk_J2 fu x1 = some r) ?_ ?_
 · rintro a Cm ⟨k,m,h⟩;refine gc 10 [bF m 0 Af z,lF Ac] k z fun k=>lG (fun n a w=>∃ Aa,K 73 [(1,pt Ab),(20,v5),(21,I ((x1.fCartons.length:Int))),(22,I Aa)] a ∧ St [] w0 w [([Ab],Ap)] ∧ d_impl_PlanOk_L1 fu x1 n Aa = some r) ?_ fu ?_
   · rintro Bs a Bw ⟨Aa,k,m,h⟩;refine uc 6 k z fun k=>cJ h k z (fun h=>?_) fun h=>?_
     · refine uc 2 k z fun k=>cg (fun a w=>K 73 [(1,pt Ab),(20,v5),(21,I ((x1.fCartons.length:Int))),(22,I Aa)] a ∧ St [] w0 w [([Ab],Ap)] ∧ d_impl_PlanOk_J1 fu (d_impl_PlanOk_L1 fu x1 Bs) Aa = some r) ?_ ?_
       · rintro a Cd ⟨k,m,h⟩;refine uc 5 k z fun k=>?_;exact ⟨_,k.p z,m.sl [0] z,h⟩
       refine oE h fun Av As h=>gc 5 [iF Ac As] k z fun k=>?_;obtain ⟨By,Ch,Bv,Bn,Bt,Bl⟩:=rd_get Ac (ix_some As).2.2;obtain ⟨Aw,_,rfl,rfl,Ar⟩:=Bn;refine sv k z (r_ldA ta37 (Bt.agr (m.a00 (Enc.rd_lt Ac)) Bl) z k z z) fun a k=>s_alloc m k zeroValue37 z z z z z fun Cn Co a k m e Bf=>pN 1 k z fun a k=>sT sizeOf37 m 0 Bf 0 k z (allc z (allc z (allc (rd_o Ar) alln))) fun Cb a k e m Aq=>oE h fun Al Au h=>gl 9 [bF m 1 Af z,iF Ao Au,eA (m.r Ao) Au] k z fun k=>s_alloc m k zeroValue39 z z z z z fun Ci Ca a k m e Az=>sT sizeOf39 m 0 Az 0 k z z fun Cl a k e m Am=>oE h fun Bh Ax h=>gl 6 [bF m 1 Aq z] k z fun k=>cC k m call68 z (c_impl_in fu _ _ _  Ax) fun Cg e a k m=>pN 2 k z fun a k=>bS h k 36 z (fun _ h k=>?_) fun _ h k=>?_
       · refine ul 49 k z fun k=>fS h k m z z
       refine oE h fun Bi Bd h=>gl 2 [bF m 1 Aq z] k z fun k=>cC k m call68 z (c_impl_in fu _ _ _  Bd) fun Ce e a k m=>pN 3 k z fun a k=>bS h k 42 z (fun _ h k=>?_) fun _ h k=>?_
       · refine ul 43 k z fun k=>fS h k m z z
       refine oE h fun Bo Bg h=>gl 2 [bF m 1 Aq z] k z fun k=>cC k m call75 z (c_impl_unitsRight fu _ (m.r Ar) Bg) fun Bx e a k m=>pN 3 k z fun a k=>bS h k 48 z (fun _ h k=>?_) fun _ h k=>?_
       · refine ul 37 k z fun k=>fS h k m z z
       refine oE h fun Bj Ba h=>gl 2 [bF m 0 Am z] k z fun k=>cC k m call76 z (c_impl_isPlace fu _  Ba) fun Cj e a k m=>pN 3 k z fun a k=>bS h k 54 z (fun _ h k=>?_) fun _ h k=>?_
       · refine ul 31 k z fun k=>fS h k m z z
       refine oE h fun Bp Bk h=>gl 2 [bF m 0 Am z] k z fun k=>cC k m call76 z (c_impl_isPlace fu _  Bk) fun Cc e a k m=>pN 3 k z fun a k=>bS h k 60 z (fun _ h k=>?_) fun _ h k=>?_
       · refine ul 25 k z fun k=>fS h k m z z
       refine oE h fun Br Bc h=>gl 2 [bF m 0 Am z] k z fun k=>cC k m call76 z (c_impl_isPlace fu _  Bc) fun Bz e a k m=>pN 3 k z fun a k=>bS h k 66 z (fun _ h k=>?_) fun _ h k=>?_
       · refine ul 19 k z fun k=>fS h k m z z
       refine oE h fun Ck Bb h=>gl 2 [bF m 0 Am z] k z fun k=>cC k m call76 z (c_impl_isPlace fu _  Bb) fun Bu e a k m=>ul 4 k z fun k=>cJ h k z (fun h=>?_) fun h=>?_
       · refine uc 11 k z fun k=>fS h k m z z
       refine uc 3 k z fun k=>?_;exact ⟨k.p z,m.sl [2] z,h⟩
     refine uc 11 k z fun k=>fS h k m z z
   exact ⟨_,k.p z,m.sl [0] z,h⟩
 refine gc 10 [bF m 0 Af z,lF Ao,bF m 0 Af z,lF Ac] k z fun k=>bS h k 13 z (fun _ h k=>?_) fun _ h k=>?_
 · refine ul 15 k z fun k=>fS h k m z z
 refine gl 7 [bF m 0 Af z,lF Ac] k z fun k=>cJ h k z (fun h=>?_) fun h=>?_
 · refine uc 7 k z fun k=>fS h k m z z
 refine uc 2 k z fun k=>?_;exact ⟨k.p z,m.sl [0] z,h⟩
theorem c_impl_LineOf (fu) {w0} (hT:Te Tryz.prog w0) (Bc) {r} (h:d_impl_LineOf fu Bc = some r):Calls Tryz.prog 19 #[.string (Bc)] w0 fun e w=>∃ (Bk:List Value) (G0:List Nat),e = .returned (.tuple #[.agg Bk.toArray,.agg (Flat.e r.2.1).toArray,.bool (r.2.2)]) ∧ Ext [] w0 w ∧ ow w G0 Bk r.1 ∧ (∀ b ∈ G0,w0.heap.size ≤ b):=by
 refine eg (vs:=[_]) func19 z ntmps19 z fun k m=>uc 2 k z fun k=>s_alloc m k zeroValue37 z z z z z fun b2 w4 a k m e Al=>s_alloc m k zeroValue39 z z z z z fun b5 w7 a k m e Ao=>oE h fun x8 Cc h=>ul 6 k z fun k=>sL k m call36 z (c_impl_Parts fu _ _  Cc) fun Dh Do Ct Ap k m=>oE h fun As Ck h=>gl 9 [lF (Enc.ow_rd Ap)] k z fun k=>sC k call45 z (c_impl_wordsOf fu (m.te hT) _ _ _  Ck) fun Cw Au hR=>?_;obtain ⟨Bb,Ak,rfl,e,Aa,Bu⟩:=hR;refine ⟨_,z,fun a k=>?_⟩;have m:=m.nw e Bu Aa;refine ul 7 k z fun k=>cg (fun a w=>K 61 [(2,pt b2),(3,pt b5),(6,Bb)] a ∧ St [] w0 w [([b2],w4),([b5],w7),(Ak,Au)] ∧ d_impl_LineOf_J2 fu As = some r) ?_ ?_
 · rintro a Dp ⟨k,m,h⟩;refine cg (fun a w=>∃ Ab Ac Ai Af Am Av,K 61 [(2,pt b2),(3,pt b5),(6,Bb),(8,pt Am)] a ∧ St [] w0 w [([b2],w4),([b5],w7),(Ak,Au),([Am],Av)] ∧ ow Au Ak [Af] Ai ∧ bx Av Am [I Ab,I Ac,Af] 37 ∧ d_impl_LineOf_J1 fu As Ab Ac Ai = some r) ?_ ?_
   · rintro a Dm ⟨Ab,Ac,Ai,Af,Am,Av,k,m,Ax,Bf,h⟩;refine uc 1 k z fun k=>d_go [] mixo m z fun Ci hMd=>?_;have m:=hMd;have s:=Ext.refl ([]:List Nat) Ci;refine o2 h fun Ag Bd Ae Ay h=>o2 h fun Ah Az Ad Bj h=>dr [0,3,6,9,1,2,4,5,7,8,10,11] 12 [iF (Enc.ow_rd Aa) Bd,eF (hMd.q Aa 2 z) Bd 0,iF (Enc.ow_rd Aa) Ay,eF (hMd.q Aa 2 z) Ay 0,iF (Enc.ow_rd Aa) Az,eF (hMd.q Aa 2 z) Az 0,iF (Enc.ow_rd Aa) Bj,eF (hMd.q Aa 2 z) Bj 0] k z s fun k=>dT k 12 z z s (fun w s=>r_build bt39 k (cs:=#[I Ag,I Ae,I Ah,I Ad]) (ps:=[(0,.tmp 39),(1,.tmp 42),(2,.tmp 45),(3,.tmp 48)]) z z (by kernel_rfl)) fun a k=>dG 13 z ?_;refine s_allocN (cs:=[I 0,I 0,I 0,I 0]) m k zeroValue39 z z z z z fun Db Cv a k m e Cm Cg=>?_;have Co:=lo1 (Nat.le_trans s.size Cg);refine ns s e fun s=>dG 14 z (sT sizeOf39 m 0 Cm 0 k z z fun Dq a k e m Be=>?_);have s:=s.trans e (fun y hy=>Or.inr (Co y hy));refine wpList_nil ⟨s,?_⟩;refine dD ((nm_then ?_));refine gc 4 [bA m 4 Bf z] k z fun k=>sB te24 m k z (by exact fC z fN) fun Bi Dg Cx a k m e Cp=>gl 1 [bA m 1 Be z] k z fun k=>sB te25 m k z (by exact fC z fN) fun Bh Di Df a k m e By=>?_;have Ba:=ow_bx By ([(⟨Ag,Ae,Ah,Ad⟩:Spot)]:List Spot) z z z;refine sv k z (r_build bt27 k (cs:=#[(.slice (some ⟨Bi,0,none⟩) 1 1),(.slice (some ⟨Bh,0,none⟩) 1 1)]) (ps:=[(0,.tmp 51),(1,.tmp 53)]) z z (fillc z z z (fillc z (rd_c (Enc.ow_rd Ba)) z z))) fun a k=>oE h fun Dr Ce h=>cC k m call34 z (c_impl_PlanOk fu _ (show rd _ _ [(.slice (some ⟨Bi,0,none⟩) 1 1),(.slice (some ⟨Bh,0,none⟩) 1 1)] ((⟨([(⟨Ab,Ac,Ai⟩:Carton)]:List Carton),([(⟨Ag,Ae,Ah,Ad⟩:Spot)]:List Spot)⟩:Plan):Plan) from ⟨_,_,_,_,z,z,(rd_bx1 (m.y Cp 1 z) (show rd _ _ [I Ab,I Ac,Af] ((⟨Ab,Ac,Ai⟩:Carton):Carton) from ⟨_,_,z,z,(m.q Ax 5 z)⟩)),(m.q Ba 0 z)⟩) Ce) fun Cy e a k m=>ul 3 k z fun k=>cJ h k z (fun h=>?_) fun h=>?_
     · refine uc 2 k z fun k=>sv k z (r_build bt37 k (cs:=#[I 0,I 0,.slice none 0 0]) (ps:=[]) z z (by kernel_rfl)) fun a k=>sv k z (r_build bt39 k (cs:=#[I 0,I 0,I 0,I 0]) (ps:=[]) z z (by kernel_rfl)) fun a k=>sT sizeOf37 m 3 Al 0 k z z fun Cz a k e m Cd=>sT sizeOf39 m 4 Ao 0 k z z fun Cu a k e m Bv=>ul 5 k z fun k=>?_;cases h;exact finR3 k z (RV.cA k z ta37 (Cd.at (m.a 3 z) 0 3 z z z) z) (RV.cA k z ta39 (Bv.at (m.a 4 z) 0 4 z z z) z) (RV.tmp k z) ⟨_,_,z,m.ext,⟨_,[],z,z,(ow_nil _),by simpa [fps] using (m.sl [] z).nd⟩,(by simp)⟩
     refine uc 3 k z fun k=>d_go (([b2]) ++ ([b5])) mixo m z fun Bt hMd=>?_;have m:=hMd;have s:=Ext.refl ((([b2]) ++ ([b5])):List Nat) Bt;have hMj:=(hMd.sel [3,4,0,1,2,5,6] z (by decide)).join2;refine dT k 0 z z s (fun w s=>r_ldA ta37 (Bf.at (hMj.az 5 0 z z z s) 0 3 z z z) z k z z) fun a k=>dT k 1 z z s (fun w s=>r_ldA ta39 (Be.at (hMj.az 3 0 z z z s) 0 4 z z z) z k z z) fun a k=>dG 2 z (sT sizeOf37 m 3 Al 0 k z (allc z (allc z (allc (rd_o (Enc.ow_rd Ax)) alln))) fun Dc a k e m Cn=>?_);have s:=s.trans e (fun y hy=>Or.inl (List.mem_append_left _ hy));refine wpList_nil ⟨s,?_⟩;refine dG 3 z (sT sizeOf39 m 4 Ao 0 k z z fun De a k e m Br=>?_);have s:=s.trans e (fun y hy=>Or.inl (List.mem_append_right _ hy));refine wpList_nil ⟨s,?_⟩;refine dM [4] 1 z k z s fun a k=>dD ?_;refine (nm_then ?_);refine wp_ret ?_;cases h;exact finR3 k z (RV.cA k z ta37 (Cn.at (m.a 3 z) 0 3 z z z) z) (RV.cA k z ta39 (Br.at (m.a 4 z) 0 4 z z z) z) (RV.tmp k z) ⟨_,_,z,m.ext,⟨_,Ak,z,z,(m.v Ax 5 z),by simpa [fps] using (m.sl [5] z).nd⟩,(m.fresh 5 z)⟩
   refine d_go [] mixo m z fun Bp hMd=>?_;have m:=hMd;have s:=Ext.refl ([]:List Nat) Bp;refine o2 h fun Aw Bl Aq Bg h=>oE h fun Cq Cb h=>dr [0,3,6,1,2,4,5] 7 [iF (Enc.ow_rd Aa) Bl,eF (hMd.q Aa 2 z) Bl 0,iF (Enc.ow_rd Aa) Bg,eF (hMd.q Aa 2 z) Bg 0] k z s fun k=>?_;obtain ⟨At,Ar,Ca⟩:=sl_fromO Aa Cb ts35;refine dT k 7 z z s (fun w s=>Ca k z z z _) fun a k=>dT k 8 z z s (fun w s=>r_build bt37 k (cs:=#[I Aw,I Aq,At]) (ps:=[(0,.tmp 30),(1,.tmp 33),(2,.tmp 35)]) z z (fillc z z z (fillc z z z (fillc z (rd_c (Enc.ow_rd Ar)) z z)))) fun a k=>dG 9 z (s_allocN (cs:=[I 0,I 0,.slice none 0 0]) m k zeroValue37 z z z z z fun Ch Dk a k m e Cl Cr=>?_);have Cj:=lo1 (Nat.le_trans s.size Cr);refine ns s e fun s=>dG 10 z (sT sizeOf37 m 0 Cl 0 k z (allc z (allc z (allc (rd_o (Enc.ow_rd Ar)) alln))) fun Bx a k e m Bo=>?_);have s:=s.trans e (fun y hy=>Or.inr (Cj y hy));refine wpList_nil ⟨s,?_⟩;refine dD ((nm_then ?_));exact ⟨_,_,_,_,_,_,k.p z,m.sl [1,2,3,0] z,Ar,Bo,h⟩
 refine uc 5 k z fun k=>bS h k 22 z (fun _ h k=>?_) fun _ h k=>?_
 · refine ul 8 k z fun k=>sv k z (r_build bt37 k (cs:=#[I 0,I 0,.slice none 0 0]) (ps:=[]) z z (by kernel_rfl)) fun a k=>sv k z (r_build bt39 k (cs:=#[I 0,I 0,I 0,I 0]) (ps:=[]) z z (by kernel_rfl)) fun a k=>sT sizeOf37 m 3 Al 0 k z z fun Dd a k e m Bw=>sT sizeOf39 m 2 Ao 0 k z z fun Dl a k e m Bs=>ul 5 k z fun k=>?_;cases h;exact finR3 k z (RV.cA k z ta37 (Bw.at (m.a 3 z) 0 3 z z z) z) (RV.cA k z ta39 (Bs.at (m.a 2 z) 0 4 z z z) z) (RV.tmp k z) ⟨_,_,z,m.ext,⟨_,[],z,z,(ow_nil _),by simpa [fps] using (m.sl [] z).nd⟩,(by simp)⟩
 refine ul 5 k z fun k=>cJ h k z (fun h=>?_) fun h=>?_
 · refine uc 2 k z fun k=>sv k z (r_build bt37 k (cs:=#[I 0,I 0,.slice none 0 0]) (ps:=[]) z z (by kernel_rfl)) fun a k=>sv k z (r_build bt39 k (cs:=#[I 0,I 0,I 0,I 0]) (ps:=[]) z z (by kernel_rfl)) fun a k=>sT sizeOf37 m 3 Al 0 k z z fun Dj a k e m Bm=>sT sizeOf39 m 2 Ao 0 k z z fun Da a k e m Cs=>ul 5 k z fun k=>?_;cases h;exact finR3 k z (RV.cA k z ta37 (Bm.at (m.a 3 z) 0 3 z z z) z) (RV.cA k z ta39 (Cs.at (m.a 2 z) 0 4 z z z) z) (RV.tmp k z) ⟨_,_,z,m.ext,⟨_,[],z,z,(ow_nil _),by simpa [fps] using (m.sl [] z).nd⟩,(by simp)⟩
 refine uc 2 k z fun k=>?_;exact ⟨k.p z,m.sl [3,2,0] z,h⟩
theorem c_impl_ReadPlan (fu) {w0} (hT:Te Tryz.prog w0) (Bc) {r} (h:d_impl_ReadPlan fu Bc = some r):Calls Tryz.prog 12 #[.string (Bc)] w0 fun e w=>∃ (Bh:List Value) (G0:List Nat),e = .returned (.tuple #[.agg Bh.toArray,.bool (r.2)]) ∧ Ext [] w0 w ∧ ow w G0 Bh r.1 ∧ (∀ b ∈ G0,w0.heap.size ≤ b):=by
 refine eg (vs:=[_]) func12 z ntmps12 z fun k m=>uc 2 k z fun k=>s_alloc m k zeroValue27 z z z z z fun b2 w4 a k m e Af=>oE h fun x5 Bp h=>ul 6 k z fun k=>sL k m call36 z (c_impl_Parts fu _ _  Bp) fun w9 Ch Al Ab k m=>gl 11 [lF (Enc.ow_rd Ab)] k z fun k=>cg (fun a w=>K 59 [(2,pt b2),(4,Ch),(5,I (w64 (((x5.length:Int)) - 1)))] a ∧ St [] w0 w [([b2],w4),(Al,w9)] ∧ d_impl_ReadPlan_J1 fu x5 = some r) ?_ ?_
 · rintro a Dc ⟨k,m,h⟩;refine uc 2 k z fun k=>sv k z (r_build bt27 k (cs:=#[.slice none 0 0,.slice none 0 0]) (ps:=[]) z z (by kernel_rfl)) fun a k=>s_alloc m k zeroValue27 z z z z z fun Ao Dp a k m e Cj=>sT sizeOf27 m 0 Cj 0 k z z fun Ca a k e m Cp=>oE h fun Bb Cu h=>ul 7 k z fun k=>s_slTo (Enc.ow_rd Ab) Cu k ts68 z z z z z z fun By a k Az=>gl 5 [lF Az] k z fun k=>lG (fun n a w=>∃ Ak Ah Ae Au Ax Ad Ag Av As Ai,K 59 [(2,pt b2),(6,pt Ao),(30,By),(31,I ((Bb.length:Int))),(32,I Ai)] a ∧ St [] w0 w [([b2],w4),(Ae,Au),(Ag,Av),([Ao],As),(Al,w9)] ∧ ow Au Ae [Ah] Ak ∧ ow Av Ag [Ad] Ax ∧ bx As Ao [Ah,Ad] 27 ∧ d_impl_ReadPlan_L1 fu Bb n Ak Ax Ai = some r) ?_ fu ?_
   · rintro Dl a Dt ⟨Ak,Ah,Ae,Au,Ax,Ad,Ag,Av,As,Ai,k,m,Aj,Ba,Ay,h⟩;refine uc 6 k z fun k=>cJ h k z (fun h=>?_) fun h=>?_
     · refine o2 h fun Dh Bg Aa Bn h=>gc 14 [iF Az Bg,eF (Enc.rd_agr Az (m.a 4 z)) Bg 0] k z fun k=>sC k call19 z (c_impl_LineOf fu (m.te hT) _  Bn) fun Dg De hR=>?_;obtain ⟨Dk,At,rfl,e,Ap,Cr⟩:=hR;refine ⟨_,z,fun a k=>?_⟩;have m:=m.nw e Cr Ap;obtain ⟨Aw,_,rfl,rfl,Bi,_⟩:=Ap;refine pN 4 k z fun a k=>s_alloc m k zeroValue37 z z z z z fun Dd Cw a k m e Bj=>s_alloc m k zeroValue39 z z z z z fun Dr Dq a k m e Ct=>sT sizeOf37 m 1 Bj 0 k z (allc z (allc z (allc (rd_o (Enc.ow_rd Bi)) alln))) fun Di a k e m Cc=>sT sizeOf39 m 0 Ct 0 k z z fun Db a k e m Ce=>ul 10 k z fun k=>cJ h k z (fun h=>?_) fun h=>?_
       · refine uc 2 k z fun k=>sv k z (r_build bt27 k (cs:=#[.slice none 0 0,.slice none 0 0]) (ps:=[]) z z (by kernel_rfl)) fun a k=>sT sizeOf27 m 3 Af 0 k z z fun Dm a k e m Bk=>ul 10 k z fun k=>?_;cases h;exact finR2 k z (RV.cA k z ta27 (Bk.at (m.a 3 z) 0 2 z z z) z) (RV.tmp k z) ⟨_,_,z,m.ext,⟨_,[],_,[],z,z,(ow_nil _),(ow_nil _),by simpa [fps] using (m.sl [] z).nd⟩,(app_fresh (by simp) (by simp))⟩
       refine gc 7 [bF m 6 Ay z,bA m 1 Cc z] k z fun k=>sB te24 m k z (by exact fC z fN) fun Cy Dj Cx a k m e Bm=>oE h fun Bu Cm h=>?_;have Cb:ow _ (At) [I Aa.1.fType,I Aa.1.fGroup,Aw] (Aa.1:Carton):=⟨_,_,z,z,(m.v Bi 3 z),by simpa [fps] using (m.sl [3] z).nd⟩
       have Co:=News.box Bm (m.a 0 z) (by simp) (m:=1);have Bl:=m.a 5 z;have m:=m.sl [5,3,0,1,2,4,6,7,8] z;have m:=m.join2;refine s_appO (F:=Ae) (G:=(At)) Cm te24 z m Aj Bl Co Cb (Agr.refl _ _) k z z z z z z fun Am Br Bw a k e m Aq=>sv k z (r_fa fa27_0 k z z) fun a k=>s_stb1 (cs':=[Am,Ad]) sizeOf24 m 6 Ay 0 k (rd_c (Enc.ow_rd Aq)) (rd_o (Enc.ow_rd Aq)) z z z z z z z z z fun Ds a k e m Bd=>gl 6 [bF m 6 Bd z,bA m 2 Ce z] k z fun k=>sB te25 m k z (by exact fC z fN) fun Do Du Cz a k m e Cd=>?_;have Bz:=ow_bx Cd ([Aa.2.1]:List Spot) z z z;refine oE h fun Ck Cv h=>s_appF Cv te25 z m 6 Ba (News.rd (m.q Bz 0 z)) z z k z z z z z z z fun Bf Cl Ci a k e m Ar=>sv k z (r_fa fa27_1 k z z) fun a k=>s_stb1 (cs':=[Am,Bf]) sizeOf25 m 7 Bd 1 k (rd_c (Enc.ow_rd Ar)) (rd_o (Enc.ow_rd Ar)) z z z z z z z z z fun Bx a k e m Bo=>ul 8 k z fun k=>?_;exact ⟨_,_,_,_,_,_,_,_,_,_,k.p z,m.sl [5,1,6,7,8] z,Aq,Ar,Bo,h⟩
     refine gc 8 [bA m 3 Ay z] k z fun k=>sT sizeOf27 m 0 Af 0 k z (allc (rd_o (Enc.ow_rd Aj)) (allc (rd_o (Enc.ow_rd Ba)) alln)) fun Df a k e m Cq=>ul 4 k z fun k=>?_;cases h;exact finR2 k z (RV.cA k z ta27 (Cq.at (m.a 0 z) 0 2 z z z) z) (RV.tmp k z) ⟨_,_,z,m.ext,⟨_,Ae,_,Ag,z,z,(m.v Aj 1 z),(m.v Ba 2 z),by simpa [fps] using (m.sl [1,2] z).nd⟩,(app_fresh (m.fresh 1 z) (m.fresh 2 z))⟩
   exact ⟨_,_,_,_,_,_,_,_,_,_,k.p z,((m.addNil (u:=w0)).addNil (u:=w0)).sel [3,0,1,2,4] z (by decide),(ow_nil _),(ow_nil _),Cp,h⟩
 refine oE h fun Cs Be h=>gc 8 [iF (Enc.ow_rd Ab) Be,eF (m.q Ab 0 z) Be 0] k z fun k=>bS h k 22 z (fun _ h k=>?_) fun _ h k=>?_
 · refine ul 8 k z fun k=>sv k z (r_build bt27 k (cs:=#[.slice none 0 0,.slice none 0 0]) (ps:=[]) z z (by kernel_rfl)) fun a k=>sT sizeOf27 m 1 Af 0 k z z fun Dn a k e m Cg=>ul 5 k z fun k=>?_;cases h;exact finR2 k z (RV.cA k z ta27 (Cg.at (m.a 1 z) 0 2 z z z) z) (RV.tmp k z) ⟨_,_,z,m.ext,⟨_,[],_,[],z,z,(ow_nil _),(ow_nil _),by simpa [fps] using (m.sl [] z).nd⟩,(app_fresh (by simp) (by simp))⟩
 refine ul 5 k z fun k=>cJ h k z (fun h=>?_) fun h=>?_
 · refine uc 2 k z fun k=>sv k z (r_build bt27 k (cs:=#[.slice none 0 0,.slice none 0 0]) (ps:=[]) z z (by kernel_rfl)) fun a k=>sT sizeOf27 m 1 Af 0 k z z fun Da a k e m Bv=>ul 5 k z fun k=>?_;cases h;exact finR2 k z (RV.cA k z ta27 (Bv.at (m.a 1 z) 0 2 z z z) z) (RV.tmp k z) ⟨_,_,z,m.ext,⟨_,[],_,[],z,z,(ow_nil _),(ow_nil _),by simpa [fps] using (m.sl [] z).nd⟩,(app_fresh (by simp) (by simp))⟩
 refine uc 2 k z fun k=>?_;exact ⟨k.p z,m.sl [1,0] z,h⟩
theorem c_impl_sound (fu) {w0} (r1) {Ad F3} (Ae:rd w0 F3 Ad r1) {r} (h:d_impl_sound fu r1 = some r):cS 56 [.agg Ad.toArray] w0 (.bool (r)):=by
 refine eg func56 z ntmps56 z fun k m=>?_;obtain ⟨v5,F6,v7,F8,v9,Ah,rfl,rfl,Aa,Ac,Ab⟩:=Ae;refine uc 2 k z fun k=>s_box m k z z z z z z fun Ak Aj a k m e Ag=>oE h fun Al Af h=>gl 6 [bA m 0 Ag z] k z fun k=>cC k m call91 z (c_impl_Class fu _ (mkRequest (m.r Aa) (m.r Ac) (m.r Ab)) Af) fun Ai e a k m=>ul 5 k z fun k=>fS h k m z z
theorem c_slices_IndexFunc_impl_Carton_impl_Carton (fu) {w0} (Ab f5) {v2 F3} (Aa:rd w0 F3 [v2] Ab) {v6} (Aj:FnOk1 Tryz.prog w0 v6 f5) {r} (h:d_slices_IndexFunc_impl_Carton_impl_Carton fu Ab f5 = some r):cS 162 [v2,v6] w0 (I r):=by
 refine eg func162 z ntmps162 z fun k m=>?_;obtain ⟨Aq,Ar,rfl,Ag,Ap⟩:=Aj;refine gc 14 [lF Aa] k z fun k=>lG (fun n a w=>∃ Ac,K 19 [(0,v2),(1,(.func (.func Aq) #[] Ar.toArray)),(7,I ((Ab.length:Int))),(8,I Ac)] a ∧ St [] w0 w [] ∧ d_slices_IndexFunc_impl_Carton_impl_Carton_L1 fu Ab f5 n Ac = some r) ?_ fu ?_
 · rintro Aw a Ba ⟨Ac,k,m,h⟩;refine uc 6 k z fun k=>cJ h k z (fun h=>?_) fun h=>?_
   · refine oE h fun Ad Ae h=>gc 16 [iF Aa Ae] k z fun k=>?_;obtain ⟨At,Az,Ax,Ai,Ah,Ao⟩:=rd_get Aa (ix_some Ae).2.2;obtain ⟨Am,_,rfl,rfl,Af⟩:=Ai;refine sv k z (r_ldA ta37 (Ah.agr (m.a00 (Enc.rd_lt Aa)) Ao) z k z z) fun a k=>oE h fun Av Al h=>s_callv k Ag z z z z z z (Ap _ _ _ _ m.ext ⟨_,_,z,(mkCarton (m.r Af))⟩ Al) fun Ay Au hR=>?_;obtain ⟨rfl,e⟩:=hR;refine ⟨_,z,fun a k=>?_⟩;have m:=m.step e;refine ul 2 k z fun k=>cJ h k z (fun h=>?_) fun h=>?_
     · refine uc 12 k z fun k=>fS h k m z z
     refine uc 8 k z fun k=>?_;exact ⟨_,k.p z,m.sl [] z,h⟩
   refine uc 11 k z fun k=>fS h k m z z
 exact ⟨_,k.p z,m.sl [] z,h⟩
theorem c_slices_ContainsFunc_impl_Carton_impl_Carton (fu) {w0} (Ab f5) {v2 F3} (Aa:rd w0 F3 [v2] Ab) {v6} (Ac:FnOk1 Tryz.prog w0 v6 f5) {r} (h:d_slices_ContainsFunc_impl_Carton_impl_Carton fu Ab f5 = some r):cS 94 [v2,v6] w0 (.bool (r)):=by
 refine eg func94 z ntmps94 z fun k m=>?_;obtain ⟨Al,Ak,rfl,Ag,Ah⟩:=Ac;refine oE h fun Ai Ae h=>uc 9 k z fun k=>cC k m call162 z (c_slices_IndexFunc_impl_Carton_impl_Carton fu _ _ (m.r Aa) ⟨_,_,z,Ag,fun w Ad Af r e=>Ah w Ad Af r (m.ext.trans e (by simp))⟩ Ae) fun Aj e a k m=>ul 5 k z fun k=>fS h k m z z
theorem c_impl_Check_1 (fu) {w0} (c1) {Aa F3} (Ad:rd w0 F3 Aa c1) {r} (h:d_impl_Check_1 fu c1 = some r):cS 95 [.agg Aa.toArray] w0 (.bool (r)):=by
 refine eg func95 z ntmps95 z fun k m=>?_;obtain ⟨v5,_,rfl,rfl,Ac⟩:=Ad;refine uc 2 k z fun k=>s_box m k z z z z z z fun b7 w9 a k m e Ab=>gl 13 [bF m 0 Ab z,lF Ac] k z fun k=>fS h k m z z
theorem c_impl_allUnits (fu) {w0} (x1) {Al F3} (Au:rd w0 F3 Al x1) {r} (h:d_impl_allUnits fu x1 = some r):cL 96 [.agg Al.toArray] w0 r:=by
 refine eg func96 z ntmps96 z fun k m=>?_;obtain ⟨v5,F6,v7,F8,rfl,rfl,Ac,Bh⟩:=Au;refine uc 2 k z fun k=>s_box m k z z z z z z fun Bk Bg a k m e At=>ul 5 k z fun k=>sB te35 m k z (by exact fN) fun Aj Ba Bl a k m e Am=>?_;have Ax:=ow_bx Am ([]:List Int) z z z;refine gl 13 [bF m 1 At z,lF Ac] k z fun k=>lG (fun n a w=>∃ Ag Ad Ab Ae Aa,K 20 [(3,Ad),(8,v5),(9,I ((x1.fCartons.length:Int))),(10,I Aa)] a ∧ St [] w0 w [(Ab,Ae)] ∧ ow Ae Ab [Ad] Ag ∧ d_impl_allUnits_L1 fu x1 n Ag Aa = some r) ?_ fu ?_
 · rintro Bi a Bm ⟨Ag,Ad,Ab,Ae,Aa,k,m,Ai,h⟩;refine uc 6 k z fun k=>cJ h k z (fun h=>?_) fun h=>?_
   · refine oE h fun Ak Ah h=>gc 7 [iF Ac Ah] k z fun k=>?_;obtain ⟨Bq,Bj,Bn,Bc,Av,Ar⟩:=rd_get Ac (ix_some Ah).2.2;obtain ⟨Aw,_,rfl,rfl,Af⟩:=Bc;refine sv k z (r_ldA ta37 (Av.agr (m.a00 (Enc.rd_lt Ac)) Ar) z k z z) fun a k=>s_alloc m k zeroValue37 z z z z z fun Bf Bp a k m e Ay=>sT sizeOf37 m 0 Ay 0 k z (allc z (allc z (allc (rd_o Af) alln))) fun Bo a k e m As=>oE h fun Aq Be h=>gl 6 [bF m 0 As z] k z fun k=>s_appF Be te35 z m 1 Ai (News.rd (m.r Af)) z z k z z z z z z z fun Ao Ap Az a k e m Bb=>ul 9 k z fun k=>?_;exact ⟨_,_,_,_,_,k.p z,m.sl [1] z,Bb,h⟩
   refine uc 12 k z fun k=>?_;cases h;exact finR1 k z (RV.tmp k z) ⟨_,Ab,z,m.ext,(m.v Ai 0 z),(m.fresh 0 z)⟩
 exact ⟨_,_,_,_,_,k.p z,m.sl [0] z,Ax,h⟩
theorem c_bits_Mul64 (fu) {w0} (x1 y2) {r} (h:d_bits_Mul64 fu x1 y2 = some r):cS 287 [.int .u64 (x1),.int .u64 (y2)] w0 (.tuple #[.int .u64 (r.1),.int .u64 (r.2)]):=by
 refine eg func287 z ntmps287 z fun k m=>uc 16 k z fun k=>sv k z (r_shr (y:=32) k z z z) fun a k=>ul 13 k z fun k=>sv k z (r_shr (y:=32) k z z z) fun a k=>ul 17 k z fun k=>sv k z (r_shr (y:=32) k z z z) fun a k=>ul 14 k z fun k=>sv k z (r_shr (y:=32) k z z z) fun a k=>ul 21 k z fun k=>sv k z (r_shr (y:=32) k z z z) fun a k=>ul 13 k z fun k=>?_;cases h;exact finR2 k z (RV.tmp k z) (RV.tmp k z) ⟨z,m.ext⟩
theorem c_bits_Mul (fu) {w0} (x1 y2) {r} (h:d_bits_Mul fu x1 y2 = some r):cS 242 [.int .u64 (x1),.int .u64 (y2)] w0 (.tuple #[.int .u64 (r.1),.int .u64 (r.2)]):=by
 refine eg func242 z ntmps242 z fun k m=>oE h fun x3 Aa h=>uc 14 k z fun k=>cC k m call287 z (c_bits_Mul64 fu _ _  Aa) fun w6 e a k m=>ul 16 k z fun k=>?_;cases h;exact finR2 k z (RV.tmp k z) (RV.tmp k z) ⟨z,m.ext⟩
theorem c_slices_Repeat_int_int (fu) {w0} (x1 Af) {v2 F3} (Ai:rd w0 F3 [v2] x1) {r} (h:d_slices_Repeat_int_int fu x1 Af = some r):cL 165 [v2,I Af] w0 r:=by
 refine eg func165 z ntmps165 z fun k m=>uc 5 k z fun k=>cg (fun a w=>K 48 [(0,v2),(1,I Af)] a ∧ St [] w0 w [] ∧ d_slices_Repeat_int_int_J2 fu x1 Af = some r) ?_ ?_
 · rintro a w7 ⟨k,m,h⟩;refine gc 4 [lF Ai] k z fun k=>sv k z (r_cv k underlying3 underlying173 z z) fun a k=>pN 1 k z fun a k=>sv k z (r_cv k underlying3 underlying173 z z) fun a k=>oE h fun x8 Ay h=>cC k m call242 z (c_bits_Mul fu _ _  Ay) fun Bl e a k m=>ul 7 k z fun k=>cg (fun a w=>K 48 [(0,v2),(6,.int .u64 (x8.2))] a ∧ St [] w0 w [] ∧ d_slices_Repeat_int_int_J1 fu x1 x8 = some r) ?_ ?_
   · rintro a Bh ⟨k,m,h⟩;refine uc 3 k z fun k=>sv k z (r_cv k underlying173 underlying3 z z) fun a k=>oE h fun Ak Ax h=>s_mk Ax te35 z z m k z z z z z z fun Be Bk a Al k m e Bc=>ul 7 k z fun k=>s_cp (lo:=0) te35 m 0 Bc (Part.self _) (m.r Ai) k z z z z z z z fun Ar a k e m Aq=>ul 5 k z fun k=>lG (fun n a w=>∃ Ae Ag Aa Ah Ab,K 48 [(7,Ag),(8,I Ab)] a ∧ St [] w0 w [(Aa,Ah)] ∧ ow Ah Aa [Ag] Ae ∧ d_slices_Repeat_int_int_L1 fu  n Ae Ab = some r) ?_ fu ?_
     · rintro Bm a Bf ⟨Ae,Ag,Aa,Ah,Ab,k,m,Ad,h⟩;refine gc 9 [lF (Enc.ow_rd Ad)] k z fun k=>cJ h k z (fun h=>?_) fun h=>?_
       · refine uc 3 k z fun k=>d_go (Aa) mixo m z fun Av hMd=>?_;have m:=hMd;have s:=Ext.refl ((Aa):List Nat) Av;refine dM [0,1,2,4,5] 5 z k z s fun a k=>oE h fun Bn Ao h=>?_;obtain ⟨Bj,Bi,Az,As⟩:=sl_from (Enc.ow_rd Ad) Ao ts35;refine dT k 3 z z s (fun w s=>As k z z z _) fun a k=>oE h fun Aj Au h=>?_;obtain ⟨Bg,At,Ap⟩:=sl_to (Enc.ow_rd Ad) Au ts35;refine dT k 6 z z s (fun w s=>Ap k z z z _) fun a k=>dG 7 z (s_cp (lo:=Ab) te35 m 0 Ad Az (Enc.rd_agr At (m.a 0 z)) k z z z z z z z fun Aw a k e m Am=>?_);have s:=s.trans e (fun y hy=>Or.inl hy);refine wpList_nil ⟨s,?_⟩;refine dM [8,9] 2 z k z s fun a k=>dD ((ue 2 k z fun k=>?_));exact ⟨_,_,_,_,_,k.p z,m.sl [0] z,Am,h⟩
       refine uc 12 k z fun k=>?_;cases h;exact finR1 k z (RV.tmp k z) ⟨_,Aa,z,m.ext,(m.v Ad 0 z),(m.fresh 0 z)⟩
     exact ⟨_,_,_,_,_,k.p z,m.sl [0] z,Aq,h⟩
   refine uc 5 k z fun k=>bS h k 23 z (fun _ h k=>?_) fun _ h k=>?_
   · refine ul 6 k z fun k=>?_;exact nS h
   refine ul 5 k z fun k=>cJ h k z (fun h=>?_) fun h=>?_
   · exact nS h
   refine uc 2 k z fun k=>?_;exact ⟨k.p z,m.sl [] z,h⟩
 refine uc 6 k z fun k=>cJ h k z (fun h=>?_) fun h=>?_
 · exact nS h
 refine uc 2 k z fun k=>?_;exact ⟨k.p z,m.sl [] z,h⟩
theorem c_impl_Units (fu) {w0} (r1) {Ap F3} (Ay:rd w0 F3 Ap r1) {r} (h:d_impl_Units fu r1 = some r):cL 100 [.agg Ap.toArray] w0 r:=by
 refine eg func100 z ntmps100 z fun k m=>?_;obtain ⟨v5,F6,v7,F8,v9,Bt,rfl,rfl,Ai,Ak,Ab⟩:=Ay;refine uc 2 k z fun k=>s_box m k z z z z z z fun Cb Ca a k m e Aj=>oE h fun Br Bc h=>gl 7 [bA m 0 Aj z] k z fun k=>cC k m call56 z (c_impl_sound fu _ (mkRequest (m.r Ai) (m.r Ak) (m.r Ab)) Bc) fun Bv e a k m=>ul 3 k z fun k=>cJ h k z (fun h=>?_) fun h=>?_
 · refine uc 7 k z fun k=>?_;cases h;exact finR1 k z (RV.tmp k z) ⟨_,[],z,m.ext,(ow_nil _),(by simp)⟩
 refine uc 4 k z fun k=>sB te35 m k z (by exact fN) fun Ao Bi Bk a k m e Bh=>?_;have Aq:=ow_bx Bh ([]:List Int) z z z;refine gl 13 [bF m 1 Aj z,lF Ab] k z fun k=>lG (fun n a w=>∃ Ag Ae Ad Af Ac,K 27 [(3,Ae),(11,v9),(12,I ((r1.fItems.length:Int))),(13,I Ac)] a ∧ St [] w0 w [(Ad,Af)] ∧ ow Af Ad [Ae] Ag ∧ d_impl_Units_L1 fu r1 n Ag Ac = some r) ?_ fu ?_
 · rintro Bz a Bw ⟨Ag,Ae,Ad,Af,Ac,k,m,Am,h⟩;refine uc 6 k z fun k=>cJ h k z (fun h=>?_) fun h=>?_
   · refine oE h fun Aa Al h=>gc 9 [iF Ab Al,eA (m.r Ab) Al] k z fun k=>s_alloc m k zeroValue59 z z z z z fun Bm Bp a k m e Bb=>pN 1 k z fun a k=>sT sizeOf59 m 0 Bb 0 k z z fun Bo a k e m Ax=>ul 5 k z fun k=>sB te35 m k z (by exact fC z fN) fun Bx Bq Bl a k m e Au=>?_;have Ba:=ow_bx Au ([Ac]:List Int) z z z;refine oE h fun Bs At h=>gl 2 [bF m 1 Ax z] k z fun k=>sL k m call165 z (c_slices_Repeat_int_int fu _ _ (m.q Ba 0 z) At) fun Bn By Bd Ah k m=>oE h fun Ar Bg h=>s_appF Bg te35 z m 3 Am (News.rd (m.q Ah 0 z)) z z k z z z z z z z fun Bf As Bj a k e m Be=>ul 9 k z fun k=>?_;exact ⟨_,_,_,_,_,k.p z,m.sl [3] z,Be,h⟩
   refine uc 12 k z fun k=>?_;cases h;exact finR1 k z (RV.tmp k z) ⟨_,Ad,z,m.ext,(m.v Am 0 z),(m.fresh 0 z)⟩
 exact ⟨_,_,_,_,_,k.p z,m.sl [0] z,Aq,h⟩

end Go.Proofs.YthkaklkinepfkaaGreatDoor
