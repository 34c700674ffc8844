/- FnExactVerify: the walks of functions that it reaches (ExactVerifyBWs,part 5). Printed by gen.py. -/
import Derived.Test.YthkaklkinepfkaaGreatDoorExactVerifyBWs4
set_option maxRecDepth 20000
set_option linter.unusedSimpArgs false
set_option linter.unusedVariables false
set_option linter.unnecessarySimpa false
namespace Go.Proofs.YthkaklkinepfkaaGreatDoor
open Go Go.RowKit
open Enc (rd ow)
open Arg (argv)
open Ret (retv)
open Go.Proofs.Tryz

theorem c_spec_l1Has (fu) {w0} (Ac x5) {v2 F3} (Ab:rd w0 F3 [v2] Ac) {r} (h:d_spec_l1Has fu Ac x5 = some r):cS 200 [v2,I x5] w0 (.bool (r)):=by
 refine eg func200 z ntmps200 z fun k m=>uc 12 k z fun k=>lG (fun n a w=>∃ Aa,K 18 [(0,v2),(1,I x5),(5,I Aa)] a ∧ St [] w0 w [] ∧ d_spec_l1Has_L1 fu Ac x5 n Aa = some r) ?_ fu ?_
 · rintro Ai a Ah ⟨Aa,k,m,h⟩;refine gc 9 [lF Ab] k z fun k=>cJ h k z (fun h=>?_) fun h=>?_
   · refine oE h fun Ag Ad h=>gc 14 [iF Ab Ad,eF (m.r Ab) Ad 0] k z fun k=>cJ h k z (fun h=>?_) fun h=>?_
     · refine uc 11 k z fun k=>fS h k m z z
     refine uc 9 k z fun k=>?_;exact ⟨_,k.p z,m.sl [] z,h⟩
   refine uc 11 k z fun k=>fS h k m z z
 exact ⟨_,k.p z,m.sl [] z,h⟩
theorem c_spec_l3Joins (fu) {w0} (Ae Ah Ac) {v2 F3} (Ag:rd w0 F3 [v2] Ae) {v6 F7} (Aa:rd w0 F7 [v6] Ah) {r} (h:d_spec_l3Joins fu Ae Ah Ac = some r):cS 203 [v2,v6,I Ac] w0 (.bool (r)):=by
 refine eg func203 z ntmps203 z fun k m=>uc 12 k z fun k=>lG (fun n a w=>∃ Ab,K 32 [(0,v2),(1,v6),(2,I Ac),(7,I Ab)] a ∧ St [] w0 w [] ∧ d_spec_l3Joins_L1 fu Ae Ah Ac n Ab = some r) ?_ fu ?_
 · rintro Am a Ap ⟨Ab,k,m,h⟩;refine gc 9 [lF Aa] k z fun k=>cJ h k z (fun h=>?_) fun h=>?_
   · refine uc 2 k z fun k=>cg (fun a w=>K 32 [(0,v2),(1,v6),(2,I Ac),(7,I Ab)] a ∧ St [] w0 w [] ∧ d_spec_l3Joins_J1 fu (d_spec_l3Joins_L1 fu Ae Ah Ac Am) Ab = some r) ?_ ?_
     · rintro a Au ⟨k,m,h⟩;refine uc 6 k z fun k=>?_;exact ⟨_,k.p z,m.sl [] z,h⟩
     refine o2 h fun Aq Af Aj Ao h=>gc 9 [iF Aa Af,eF (m.r Aa) Af 0] k z fun k=>cC k m call196 z (c_spec_Beside fu _ _ _ (m.r Ag) Ao) fun Av e a k m=>pN 2 k z fun a k=>bS h k 22 z (fun _ h k=>?_) fun _ h k=>?_
     · refine ul 23 k z fun k=>fS h k m z z
     refine o2 h fun At As Aw Ai h=>gl 6 [iF Aa Af,eF (m.r Aa) Af 0] k z fun k=>cC k m call196 z (c_spec_Beside fu _ _ _ (m.r Ag) Ai) fun Ar e a k m=>ul 4 k z fun k=>cJ h k z (fun h=>?_) fun h=>?_
     · refine uc 11 k z fun k=>fS h k m z z
     refine uc 3 k z fun k=>?_;exact ⟨k.p z,m.sl [] z,h⟩
   refine uc 11 k z fun k=>fS h k m z z
 exact ⟨_,k.p z,m.sl [] z,h⟩
theorem c_spec_Groups (fu) {w0} (Ad Ai) {v2 F3} (Av:rd w0 F3 [v2] Ad) {v6 F7} (Aw:rd w0 F7 [v6] Ai) {r} (h:d_spec_Groups fu Ad Ai = some r):cL 126 [v2,v6] w0 r:=by
 refine eg func126 z ntmps126 z fun k m=>uc 7 k z fun k=>sB te88 m k z (by exact fN) fun g9 Bf Dn a k m e Cg=>?_;have Bd:=ow_bx0 (α:=List Int) Cg;refine ul 10 k z fun k=>lG (fun n a w=>∃ Ac Ag Ae Ah Aa,K 51 [(0,v2),(1,v6),(5,Ag),(6,I Aa)] a ∧ St [] w0 w [(Ae,Ah)] ∧ ow Ah Ae [Ag] Ac ∧ d_spec_Groups_L2 fu Ad Ai n Ac Aa = some r) ?_ fu ?_
 · rintro Ar a Df ⟨Ac,Ag,Ae,Ah,Aa,k,m,Ab,h⟩;refine uc 7 k z fun k=>cJ h k z (fun h=>?_) fun h=>?_
   · refine uc 2 k z fun k=>cg (fun a w=>∃ Am Aq Ap Ao,K 51 [(0,v2),(1,v6),(5,Aq),(6,I Aa)] a ∧ St [] w0 w [(Ap,Ao)] ∧ ow Ao Ap [Aq] Am ∧ d_spec_Groups_J1 fu (d_spec_Groups_L2 fu Ad Ai Ar) Aa Am = some r) ?_ ?_
     · rintro a De ⟨Am,Aq,Ap,Ao,k,m,Bw,h⟩;refine uc 6 k z fun k=>?_;exact ⟨_,_,_,_,_,k.p z,m.sl [0] z,Bw,h⟩
     refine oE h fun Dl Cn h=>uc 6 k z fun k=>cC k m call200 z (c_spec_l1Has fu _ _ (m.r Aw) Cn) fun Dd e a k m=>ul 3 k z fun k=>cJ h k z (fun h=>?_) fun h=>?_
     · refine uc 4 k z fun k=>?_;exact ⟨_,_,_,_,k.p z,m.sl [0] z,Ab,h⟩
     refine gc 17 [lF (Enc.ow_rd Ab)] k z fun k=>lG (fun n a w=>∃ Aj Af,K 51 [(0,v2),(1,v6),(5,Ag),(6,I Aa),(7,I Aj),(8,I Af)] a ∧ St [] w0 w [(Ae,Ah)] ∧ d_spec_Groups_L1 fu (d_spec_Groups_L2 fu Ad Ai Ar) Ad Ac Aa n Aj Af = some r) ?_ fu ?_
     · rintro Bz a Dq ⟨Aj,Af,k,m,h⟩;refine uc 7 k z fun k=>cJ h k z (fun h=>?_) fun h=>?_
       · refine uc 2 k z fun k=>cg (fun a w=>∃ Ak,K 51 [(0,v2),(1,v6),(5,Ag),(6,I Aa),(7,I Ak),(8,I Af)] a ∧ St [] w0 w [(Ae,Ah)] ∧ d_spec_Groups_J2 fu (d_spec_Groups_L1 fu (d_spec_Groups_L2 fu Ad Ai Ar) Ad Ac Aa Bz) Af Ak = some r) ?_ ?_
         · rintro a Dj ⟨Ak,k,m,h⟩;refine uc 6 k z fun k=>?_;exact ⟨_,_,k.p z,m.sl [0] z,h⟩
         refine oE h fun Dr Au h=>gc 7 [iF (Enc.ow_rd Ab) Au] k z fun k=>?_;obtain ⟨Dk,Bj,Cr,At,Ca,Ch⟩:=rd_get (Enc.ow_rd Ab) (ix_some Au).2.2;obtain ⟨Da,rfl⟩:∃ v,Bj = [v]:=by obtain ⟨_,_,hq,_⟩:=At; exact ⟨_,hq⟩
         refine oE h fun Dp Bi h=>gl 2 [pF (Ca.agr (m.a 0 z) Ch)] k z fun k=>cC k m call203 z (c_spec_l3Joins fu _ _ _ (m.r Av) (Enc.rd_agr At ((m.a 0 z).sub Cr)) Bi) fun Cx e a k m=>ul 2 k z fun k=>cJ h k z (fun h=>?_) fun h=>?_
         · refine uc 6 k z fun k=>?_;exact ⟨_,k.p z,m.sl [0] z,h⟩
         refine uc 3 k z fun k=>?_;exact ⟨_,k.p z,m.sl [0] z,h⟩
       refine uc 11 k z fun k=>cJ h k z (fun h=>?_) fun h=>?_
       · refine uc 3 k z fun k=>sB te35 m k z (by exact fC z fN) fun Az Do Ct a k m e Bk=>?_;have Ax:=ow_bx Bk ([Aa]:List Int) z z z;refine sB te88 m k z (by exact (List.forall_mem_cons.2 ⟨congrArg Array.size (rd_c (Enc.ow_rd Ax)),fN⟩)) fun Cs Cu Dt a k m e Ci=>oE h fun Bx Bc h=>?_;have Cb:=Enc.ow_agr Ax (m.a 1 z);have Bu:=News.box Ci (m.a 0 z) (by simp) (m:=1);have Cm:=m.a 2 z;have m:=m.sl [2,1,0] z;have m:=m.join2;refine s_appO (F:=Ae) (G:=[Az]) Bc te88 z m Ab Cm Bu Cb (Agr.refl _ _) k z z z z z z fun Ce Cl Bg a k e m Bm=>ul 4 k z fun k=>?_;exact ⟨_,_,_,_,k.p z,m.sl [0] z,Bm,h⟩
       refine oE h fun Cz Al h=>gc 6 [iF (Enc.ow_rd Ab) Al] k z fun k=>?_;obtain ⟨Dc,Cd,Dh,Cj,Ay,Br⟩:=rd_get (Enc.ow_rd Ab) (ix_some Al).2.2;obtain ⟨Dm,rfl⟩:∃ v,Cd = [v]:=by obtain ⟨_,_,hq,_⟩:=Cj; exact ⟨_,hq⟩
       refine gl 2 [pF (Ay.agr (m.a 0 z) Br)] k z fun k=>sB te35 m k z (by exact fC z fN) fun Be Bn Cv a k m e Bh=>?_;have Cc:=ow_bx Bh ([Aa]:List Int) z z z;obtain ⟨Di,Cw,m,Bp,By⟩:=m.opn 1 z Ab Al Ay z (M':=[([Be],Bn)]) z;refine oE h fun Ck Bq h=>s_appF Bq te35 z m 1 By (News.rd (m.q Cc 2 z)) z z k z z z z z z z fun Bb Ds Db a k e m As=>oE h fun Cy Dg h=>gl 1 [iF (Enc.ow_rd Ab) Al] k z fun k=>s_stH1 (α:=List Int) (sz:=1) (cs':=[Bb]) sizeOf35 m 0 Bp 0 k (rd_c (Enc.ow_rd As)) (rd_o (Enc.ow_rd As)) z z z z z z z z z z fun Bo a k e m Cq=>?_;obtain ⟨Cp,m,Ba⟩:=(m.sl [0,1,2] z).cls Cq As;refine ul 3 k z fun k=>?_;exact ⟨_,_,_,_,k.p z,m.sl [0] z,Ba,h⟩
     exact ⟨_,_,k.p z,m.sl [0] z,h⟩
   refine uc 12 k z fun k=>?_;cases h;exact finR1 k z (RV.tmp k z) ⟨_,Ae,z,m.ext,(m.v Ab 0 z),(m.fresh 0 z)⟩
 exact ⟨_,_,_,_,_,k.p z,m.sl [0] z,Bd,h⟩
theorem c_spec_GroupsOf (fu) {w0} (r1) {Ak F3} (Am:rd w0 F3 Ak r1) {r} (h:d_spec_GroupsOf fu r1 = some r):cL 64 [.agg Ak.toArray] w0 r:=by
 refine eg func64 z ntmps64 z fun k m=>?_;obtain ⟨v5,F6,v7,F8,v9,Aw,rfl,rfl,Aa,Af,Ag⟩:=Am;refine uc 2 k z fun k=>s_box m k z z z z z z fun Ba Az a k m e Ae=>ul 4 k z fun k=>d_go [] mixo m z fun Ao hMd=>?_;have m:=hMd;have s:=Ext.refl ([]:List Nat) Ao;refine dr [0,1,2] 3 [bF hMd 0 Ae z,bA hMd 0 Ae z] k z s fun k=>dG 3 z (oE h fun Aq Al h=>?_);refine sC k call127 z (c_spec_Present fu _ (mkRequest (m.r Aa) (m.r Af) (m.r Ag)) Al) fun Ay At hR=>?_;obtain ⟨Bb,Aj,rfl,e,Ad,Ai⟩:=hR;refine ⟨_,z,fun a k=>?_⟩;have m:=m.nw e Ai Ad;have Ar:=fun (y:Nat) (hy:y ∈ Aj)=>Nat.le_trans s.size (Ai y hy);refine ns s e fun s=>dG 4 z (oE h fun Au Ap h=>sC k call126 z (c_spec_Groups fu _ _ (m.r Aa) (m.q Ad 0 z) Ap) fun Bc As hR=>?_);obtain ⟨Ax,Ab,rfl,e,Ac,Ah⟩:=hR;refine ⟨_,z,fun a k=>?_⟩;have m:=m.nw e Ah Ac;have Av:=fun (y:Nat) (hy:y ∈ Ab)=>Nat.le_trans s.size (Ah y hy);refine ns s e fun s=>dM [5] 1 z k z s fun a k=>dD ((nm_then ?_));refine wp_ret ?_;cases h;exact finR1 k z (RV.tmp k z) ⟨_,Ab,z,m.ext,(m.v Ac 0 z),(m.fresh 0 z)⟩
theorem c_spec_GroupOf (fu) {w0} (Ae Ac) {v2 F3} (Ab:rd w0 F3 [v2] Ae) {r} (h:d_spec_GroupOf fu Ae Ac = some r):cS 148 [v2,I Ac] w0 (I r):=by
 refine eg func148 z ntmps148 z fun k m=>uc 12 k z fun k=>lG (fun n a w=>∃ Aa,K 19 [(0,v2),(1,I Ac),(5,I Aa)] a ∧ St [] w0 w [] ∧ d_spec_GroupOf_L1 fu Ae Ac n Aa = some r) ?_ fu ?_
 · rintro As a Ap ⟨Aa,k,m,h⟩;refine gc 9 [lF Ab] k z fun k=>cJ h k z (fun h=>?_) fun h=>?_
   · refine oE h fun Aq Af h=>gc 9 [iF Ab Af] k z fun k=>?_;obtain ⟨Am,Ag,Ar,Ad,Al,Ak⟩:=rd_get Ab (ix_some Af).2.2;obtain ⟨Ao,rfl⟩:∃ v,Ag = [v]:=by obtain ⟨_,_,hq,_⟩:=Ad; exact ⟨_,hq⟩
     refine oE h fun At Ah h=>gl 2 [pF (Al.agr (m.a00 (Enc.rd_lt Ab)) Ak)] k z fun k=>cC k m call200 z (c_spec_l1Has fu _ _ (m.r Ad) Ah) fun Au e a k m=>ul 2 k z fun k=>cJ h k z (fun h=>?_) fun h=>?_
     · refine uc 12 k z fun k=>fS h k m z z
     refine uc 9 k z fun k=>?_;exact ⟨_,k.p z,m.sl [] z,h⟩
   refine uc 11 k z fun k=>fS h k m z z
 exact ⟨_,k.p z,m.sl [] z,h⟩
theorem c_spec_l15Group (fu) {w0} (r1 Ad x9) {Bf F3} (Cc:rd w0 F3 Bf r1) {v6 F7} (Az:rd w0 F7 [v6] Ad) {Bl Cj} (Ca:rd w0 Cj Bl x9) {r} (h:d_spec_l15Group fu r1 Ad x9 = some r):cS 86 [.agg Bf.toArray,v6,.agg Bl.toArray] w0 (.bool (r)):=by
 refine eg func86 z ntmps86 z fun k m=>?_;obtain ⟨Au,Cz,Ay,Dc,Ba,Db,rfl,rfl,Am,Ak,Ao⟩:=Cc;obtain ⟨Cb,Ct,Bo,Dp,rfl,rfl,Af,Ds⟩:=Ca;refine uc 2 k z fun k=>s_box m k z z z z z z fun Ab Ap a k m e Be=>s_box m k z z z z z z fun Ac As a k m e Aw=>oE h fun Ag Bq h=>gl 6 [bA m 1 Be z] k z fun k=>sL k m call64 z (c_spec_GroupsOf fu _ (mkRequest (m.r Am) (m.r Ak) (m.r Ao)) Bq) fun Ar Aq Al Bc k m=>ul 10 k z fun k=>lG (fun n a w=>∃ Aa,K 58 [(1,v6),(3,pt Ab),(5,pt Ac),(7,Aq),(8,I Aa)] a ∧ St [] w0 w [([Ab],Ap),([Ac],As),(Al,Ar)] ∧ d_spec_l15Group_L2 fu r1 Ad x9 Ag n Aa = some r) ?_ fu ?_
 · rintro Ax a Cu ⟨Aa,k,m,h⟩;refine gc 10 [bF m 1 Aw z,lF Af] k z fun k=>cJ h k z (fun h=>?_) fun h=>?_
   · refine uc 2 k z fun k=>cg (fun a w=>K 58 [(1,v6),(3,pt Ab),(5,pt Ac),(7,Aq),(8,I Aa)] a ∧ St [] w0 w [([Ab],Ap),([Ac],As),(Al,Ar)] ∧ d_spec_l15Group_J1 fu (d_spec_l15Group_L2 fu r1 Ad x9 Ag Ax) Aa = some r) ?_ ?_
     · rintro a Dy ⟨k,m,h⟩;refine uc 6 k z fun k=>?_;exact ⟨_,k.p z,m.sl [0,1,2] z,h⟩
     refine uc 7 k z fun k=>lG (fun n a w=>∃ Ai,K 58 [(1,v6),(3,pt Ab),(5,pt Ac),(7,Aq),(8,I Aa),(9,I Ai)] a ∧ St [] w0 w [([Ab],Ap),([Ac],As),(Al,Ar)] ∧ d_spec_l15Group_L1 fu (d_spec_l15Group_L2 fu r1 Ad x9 Ag Ax) r1 Ad x9 Ag Aa n Ai = some r) ?_ fu ?_
     · rintro Bh a De ⟨Ai,k,m,h⟩;refine oE h fun Dl Bb h=>gc 9 [bF m 1 Aw z,iF Af Bb] k z fun k=>?_;obtain ⟨Cw,Da,Dg,Br,Bk,Bj⟩:=rd_get Af (ix_some Bb).2.2;obtain ⟨Dq,_,rfl,rfl,At⟩:=Br;refine gl 5 [pF ((Bk.agr (m.a00 (Enc.rd_lt Af)) Bj).fld 2 1 (Nat.le_of_ble_eq_true z)),lF At] k z fun k=>cJ h k z (fun h=>?_) fun h=>?_
       · refine uc 2 k z fun k=>cg (fun a w=>K 58 [(1,v6),(3,pt Ab),(5,pt Ac),(7,Aq),(8,I Aa),(9,I Ai)] a ∧ St [] w0 w [([Ab],Ap),([Ac],As),(Al,Ar)] ∧ d_spec_l15Group_J2 fu (d_spec_l15Group_L1 fu (d_spec_l15Group_L2 fu r1 Ad x9 Ag Ax) r1 Ad x9 Ag Aa Bh) Ai = some r) ?_ ?_
         · rintro a Di ⟨k,m,h⟩;refine uc 6 k z fun k=>?_;exact ⟨_,k.p z,m.sl [0,1,2] z,h⟩
         refine uc 1 k z fun k=>cg (fun a w=>∃ Ae:Item,∃ Av Bd,K 58 [(1,v6),(3,pt Ab),(5,pt Ac),(7,Aq),(8,I Aa),(9,I Ai),(10,pt Av)] a ∧ St [] w0 w [([Ab],Ap),([Ac],As),(Al,Ar),([Av],Bd)] ∧ bx Bd Av [I Ae.fId,I Ae.fW,I Ae.fH,I Ae.fD,I Ae.fGram,I Ae.fClass,I Ae.fCount] 59 ∧ d_spec_l15Group_J3 fu (d_spec_l15Group_L1 fu (d_spec_l15Group_L2 fu r1 Ad x9 Ag Ax) r1 Ad x9 Ag Aa Bh) x9 Ag Aa Ai Ae = some r) ?_ ?_
         · rintro a Dh ⟨Ae,Av,Bd,k,m,Cm,h⟩;refine uc 1 k z fun k=>d_go [] mixo m z fun Cq hMd=>?_;have m:=hMd;have s:=Ext.refl ([]:List Nat) Cq;refine oE h fun Dj Bi h=>dr [0,6,1,2,4,5,7,8] 8 [bF hMd 3 Cm z,bF hMd 1 Aw z,iF Af Bi] k z s fun k=>?_;obtain ⟨Dv,Dn,Cv,Cd,Ck,Ce⟩:=rd_get Af (ix_some Bi).2.2;obtain ⟨Dt,_,rfl,rfl,Df⟩:=Cd;refine dT k 9 z z s (fun w s=>r_ld1 t13 ((Ck.agr ((hMd.step s).a00 (Enc.rd_lt Af)) Ce).fld 1 1 (Nat.le_of_ble_eq_true z)) k z z) fun a k=>dG 3 z (oE h fun Dr Ch h=>cC k m call148 z (c_spec_GroupOf fu _ _ (m.q Bc 2 z) Ch) fun Cx e a k m=>?_);refine ns s e fun s=>dM [10] 1 z k z s fun a k=>dD ((nm_then ?_));refine cJ h k z (fun h=>?_) fun h=>?_
           · refine uc 15 k z fun k=>fS h k m z z
           refine uc 3 k z fun k=>?_;exact ⟨k.p z,m.sl [0,1,2] z,h⟩
         refine d_go [] mixo m z fun By hMd=>?_;have m:=hMd;have s:=Ext.refl ([]:List Nat) By;refine oE h fun Cy Do h=>dr [1,4,8,0,2,3,5,6] 8 [bA hMd 0 Be z,bF hMd 1 Aw z,iF Af Bb] k z s fun k=>dT k 7 z z s (fun w s=>r_ld1 t135 ((Bk.agr ((hMd.step s).a00 (Enc.rd_lt Af)) Bj).fld 2 1 (Nat.le_of_ble_eq_true z)) k z z) fun a k=>oE h fun Dd Bg h=>dr [9,10] 2 [iF At Bg,eF (hMd.r At) Bg 0] k z s fun k=>dG2 11 15 (by kernel_rfl) z z ?_ ?_
         · refine oE h fun Ah Bs h=>cC k m call147 z (c_spec_l6Item fu _ _ _ (mkRequest (m.r Am) (m.r Ak) (m.r Ao)) (m.r Az) Bs) fun Du e a k m=>ns s e fun s=>dM [12,13,14] 3 z k z s fun a k=>dG 15 z (s_allocN (cs:=[I 0,I 0,I 0,I 0,I 0,I 0,I 0]) m k zeroValue59 z z z z z fun Bv Dm a k m e Bp Bm=>?_);have Bx:=lo1 (Nat.le_trans s.size Bm);refine ns s e fun s=>dG 16 z (sT sizeOf59 m 0 Bp 0 k z z fun Cg a k e m Bw=>?_);have s:=s.trans e (fun y hy=>Or.inr (Bx y hy));refine wpList_nil ⟨s,?_⟩;refine dM [17] 1 z k z s fun a k=>dD ?_;refine (nm_then ?_);exact ⟨_,_,_,k.p z,m.sl [1,2,3,0] z,Bw,h⟩
         refine s_allocN (cs:=[I 0,I 0,I 0,I 0,I 0,I 0,I 0]) m k zeroValue59 z z z z z fun Cp Dk a k m e Cl Bt=>?_;have Bu:=lo1 (Nat.le_trans s.size Bt);refine ns s e fun s=>dG 11 z (oE h fun Aj Bn h=>cC k m call147 z (c_spec_l6Item fu _ _ _ (mkRequest (m.r Am) (m.r Ak) (m.r Ao)) (m.r Az) Bn) fun Dx e a k m=>?_);refine ns s e fun s=>dM [12,13,14] 3 z k z s fun a k=>dG 16 z (sT sizeOf59 m 0 Cl 0 k z z fun Cs a k e m Bz=>?_);have s:=s.trans e (fun y hy=>Or.inr (Bu y hy));refine wpList_nil ⟨s,?_⟩;refine dM [17] 1 z k z s fun a k=>dD ?_;refine (nm_then ?_);exact ⟨_,_,_,k.p z,m.sl [1,2,3,0] z,Bz,h⟩
       refine uc 6 k z fun k=>?_;exact ⟨k.p z,m.sl [0,1,2] z,h⟩
     exact ⟨_,k.p z,m.sl [0,1,2] z,h⟩
   refine uc 11 k z fun k=>fS h k m z z
 exact ⟨_,k.p z,m.sl [2,1,0] z,h⟩
theorem c_spec_Cheapest (fu) {w0} (r1 As) {Bc F3} (Bm:rd w0 F3 Bc r1) {v6 F7} (Az:rd w0 F7 [v6] As) {r} (h:d_spec_Cheapest fu r1 As = some r):cS 124 [.agg Bc.toArray,v6] w0 (.tuple #[.agg (Flat.e r.1).toArray,.bool (r.2)]):=by
 refine eg func124 z ntmps124 z fun k m=>?_;obtain ⟨v9,Cd,Av,Ci,Bb,Ce,rfl,rfl,Ay,Ag,Au⟩:=Bm;refine uc 2 k z fun k=>s_box m k z z z z z z fun Ao Ax a k m e At=>s_alloc m k zeroValue61 z z z z z fun Ar Ba a k m e Bt=>ul 5 k z fun k=>sv k z (r_build bt61 k (cs:=#[I 0,I 0,I 0,I 0,I 0,I 0,I 0]) (ps:=[]) z z (by kernel_rfl)) fun a k=>s_alloc m k zeroValue61 z z z z z fun Aj Bz a k m e Bk=>sT (cs':=[I 0,I 0,I 0,I 0,I 0,I 0,I 0]) sizeOf61 m 0 Bk 0 k z z fun Bq a k e m Bd=>ul 14 k z fun k=>lG (fun n a w=>∃ Ab:Typ,∃ Ah Ae Ai,K 54 [(1,v6),(2,pt Ao),(4,pt Ar),(6,pt Aj),(7,.bool (Ae)),(8,I Ai)] a ∧ St [] w0 w [([Ao],Ax),([Ar],Ba),([Aj],Ah)] ∧ bx Ah Aj [I Ab.fId,I Ab.fW,I Ab.fH,I Ab.fD,I Ab.fTare,I Ab.fGram,I Ab.fCost] 61 ∧ d_spec_Cheapest_L1 fu r1 As n Ab Ae Ai = some r) ?_ fu ?_
 · rintro Bf a Bx ⟨Ab,Ah,Ae,Ai,k,m,Ac,h⟩;refine gc 10 [bF m 0 At z,lF Ag] k z fun k=>cJ h k z (fun h=>?_) fun h=>?_
   · refine uc 2 k z fun k=>cg (fun a w=>∃ Ad:Typ,∃ Ap Aq,K 54 [(1,v6),(2,pt Ao),(4,pt Ar),(6,pt Aj),(7,.bool (Aq)),(8,I Ai)] a ∧ St [] w0 w [([Ao],Ax),([Ar],Ba),([Aj],Ap)] ∧ bx Ap Aj [I Ad.fId,I Ad.fW,I Ad.fH,I Ad.fD,I Ad.fTare,I Ad.fGram,I Ad.fCost] 61 ∧ d_spec_Cheapest_J1 fu (d_spec_Cheapest_L1 fu r1 As Bf) Ai Ad Aq = some r) ?_ ?_
     · rintro a Cb ⟨Ad,Ap,Aq,k,m,Bu,h⟩;refine uc 6 k z fun k=>?_;exact ⟨_,_,_,_,k.p z,m.sl [0,1,2] z,Bu,h⟩
     refine oE h fun Aa Aw h=>gc 8 [bF m 0 At z,iF Ag Aw,eA (m.r Ag) Aw] k z fun k=>s_alloc m k zeroValue61 z z z z z fun Ca Cg a k m e Bi=>sT (cs':=[I Aa.fId,I Aa.fW,I Aa.fH,I Aa.fD,I Aa.fTare,I Aa.fGram,I Aa.fCost]) sizeOf61 m 0 Bi 0 k z z fun Bw a k e m Af=>oE h fun Cc Bj h=>gl 8 [bA m 1 At z,bA m 0 Af z] k z fun k=>cC k m call146 z (c_spec_Holds fu _ _ (Aa:Typ) (mkRequest (m.r Ay) (m.r Ag) (m.r Au)) (m.r Az) Bj) fun By e a k m=>ul 3 k z fun k=>cJ h k z (fun h=>?_) fun h=>?_
     · refine uc 4 k z fun k=>?_;exact ⟨_,_,_,k.p z,m.sl [1,2,3] z,Ac,h⟩
     refine uc 7 k z fun k=>bS h k 30 z (fun _ h k=>?_) fun _ h k=>?_
     · refine gl 26 [bA m 0 Af z] k z fun k=>sT (cs':=[I Aa.fId,I Aa.fW,I Aa.fH,I Aa.fD,I Aa.fTare,I Aa.fGram,I Aa.fCost]) sizeOf61 m 3 Ac 0 k z z fun Bg a k e m Br=>ul 7 k z fun k=>?_;exact ⟨_,_,_,k.p z,m.sl [1,2,3] z,Br,h⟩
     refine gl 7 [bF m 0 Af z,bF m 3 Ac z] k z fun k=>bS h k 37 z (fun _ h k=>?_) fun _ h k=>?_
     · refine gl 19 [bA m 0 Af z] k z fun k=>sT (cs':=[I Aa.fId,I Aa.fW,I Aa.fH,I Aa.fD,I Aa.fTare,I Aa.fGram,I Aa.fCost]) sizeOf61 m 3 Ac 0 k z z fun Bh a k e m Bo=>ul 7 k z fun k=>?_;exact ⟨_,_,_,k.p z,m.sl [1,2,3] z,Bo,h⟩
     refine gl 6 [bF m 0 Af z,bF m 3 Ac z] k z fun k=>bS h k 43 z (fun _ h k=>?_) fun _ h k=>?_
     · refine gl 9 [bF m 0 Af z,bF m 3 Ac z] k z fun k=>cJ h k z (fun h=>?_) fun h=>?_
       · refine gc 3 [bA m 0 Af z] k z fun k=>sT (cs':=[I Aa.fId,I Aa.fW,I Aa.fH,I Aa.fD,I Aa.fTare,I Aa.fGram,I Aa.fCost]) sizeOf61 m 3 Ac 0 k z z fun Bn a k e m Be=>ul 7 k z fun k=>?_;exact ⟨_,_,_,k.p z,m.sl [1,2,3] z,Be,h⟩
       refine uc 3 k z fun k=>?_;exact ⟨_,_,_,k.p z,m.sl [1,2,3] z,Ac,h⟩
     refine ul 13 k z fun k=>?_;exact ⟨_,_,_,k.p z,m.sl [1,2,3] z,Ac,h⟩
   refine gc 9 [bA m 2 Ac z] k z fun k=>sT (cs':=[I Ab.fId,I Ab.fW,I Ab.fH,I Ab.fD,I Ab.fTare,I Ab.fGram,I Ab.fCost]) sizeOf61 m 1 Bt 0 k z z fun Ch a k e m Bl=>ul 4 k z fun k=>?_;cases h;exact finR2 k z (RV.cA k z ta61 (Bl.at (m.a 1 z) 0 7 z z z) z) (RV.tmp k z) ⟨z,m.ext⟩
 exact ⟨_,_,_,_,k.p z,m.sl [2,1,0] z,Bd,h⟩
theorem c_spec_l15Cheap (fu) {w0} (r1 x5) {Ax F3} (Bu:rd w0 F3 Ax r1) {Av F7} (Bx:rd w0 F7 Av x5) {r} (h:d_spec_l15Cheap fu r1 x5 = some r):cS 87 [.agg Ax.toArray,.agg Av.toArray] w0 (.bool (r)):=by
 refine eg func87 z ntmps87 z fun k m=>?_;obtain ⟨v9,Cg,Au,Da,Aq,Ch,rfl,rfl,Ao,Aj,Ak⟩:=Bu;obtain ⟨Bd,Cw,Bs,Cu,rfl,rfl,Ae,Cr⟩:=Bx;refine uc 2 k z fun k=>s_box m k z z z z z z fun Af At a k m e Bt=>s_box m k z z z z z z fun Ag Ar a k m e As=>ul 10 k z fun k=>lG (fun n a w=>∃ Ad,K 39 [(2,pt Af),(3,pt Ag),(5,I Ad)] a ∧ St [] w0 w [([Af],At),([Ag],Ar)] ∧ d_spec_l15Cheap_L1 fu r1 x5 n Ad = some r) ?_ fu ?_
 · rintro Ay a Cl ⟨Ad,k,m,h⟩;refine gc 10 [bF m 1 As z,lF Ae] k z fun k=>cJ h k z (fun h=>?_) fun h=>?_
   · refine uc 2 k z fun k=>cg (fun a w=>K 39 [(2,pt Af),(3,pt Ag),(5,I Ad)] a ∧ St [] w0 w [([Af],At),([Ag],Ar)] ∧ d_spec_l15Cheap_J1 fu (d_spec_l15Cheap_L1 fu r1 x5 Ay) Ad = some r) ?_ ?_
     · rintro a Cm ⟨k,m,h⟩;refine uc 6 k z fun k=>?_;exact ⟨_,k.p z,m.sl [0,1] z,h⟩
     refine uc 1 k z fun k=>cg (fun a w=>∃ Ab:Typ,∃ Am Ap Ai,K 39 [(2,pt Af),(3,pt Ag),(5,I Ad),(6,pt Am),(7,.bool (Ai))] a ∧ St [] w0 w [([Af],At),([Ag],Ar),([Am],Ap)] ∧ bx Ap Am [I Ab.fId,I Ab.fW,I Ab.fH,I Ab.fD,I Ab.fTare,I Ab.fGram,I Ab.fCost] 61 ∧ d_spec_l15Cheap_J2 fu (d_spec_l15Cheap_L1 fu r1 x5 Ay) x5 Ad Ab Ai = some r) ?_ ?_
     · rintro a Cx ⟨Ab,Am,Ap,Ai,k,m,Br,h⟩;refine uc 1 k z fun k=>d_go [] mixo m z fun Bl hMd=>?_;have m:=hMd;have s:=Ext.refl ([]:List Nat) Bl;refine dM [0,1,2] 3 z k z s fun a k=>bS h k 28 z (fun _ h k=>?_) fun _ h k=>?_
       · refine dM [3,4,5,6,7,8,9,10,11,12] 10 z k z s fun a k=>dD ((nm_then ?_));refine uc 12 k z fun k=>fS h k m z z
       refine oE h fun Cn Aw h=>dr [7,3,4,5,6,8,9] 7 [bF hMd 2 Br z,bF hMd 1 As z,iF Ae Aw] k z s fun k=>?_;obtain ⟨Cy,Ct,Co,By,Cd,Bn⟩:=rd_get Ae (ix_some Aw).2.2;obtain ⟨Cs,_,rfl,rfl,Ci⟩:=By;refine dT k 10 z z s (fun w s=>r_ld1 t13 ((Cd.agr ((hMd.step s).a00 (Enc.rd_lt Ae)) Bn).fld 0 1 (Nat.le_of_ble_eq_true z)) k z z) fun a k=>dM [11,12] 2 z k z s fun a k=>dD ((nm_then ?_));refine cJ h k z (fun h=>?_) fun h=>?_
       · refine uc 11 k z fun k=>fS h k m z z
       refine uc 3 k z fun k=>?_;exact ⟨k.p z,m.sl [0,1] z,h⟩
     refine d_go [] mixo m z fun Bg hMd=>?_;have m:=hMd;have s:=Ext.refl ([]:List Nat) Bg;refine oE h fun Cv Az h=>dr [3,0,1,2,4,5] 6 [bA hMd 0 Bt z,bF hMd 1 As z,iF Ae Az] k z s fun k=>?_;obtain ⟨Cp,Ck,Dc,Be,Bq,Bv⟩:=rd_get Ae (ix_some Az).2.2;obtain ⟨Cz,_,rfl,rfl,Al⟩:=Be;refine dT k 6 z z s (fun w s=>r_ld1 t135 ((Bq.agr ((hMd.step s).a00 (Enc.rd_lt Ae)) Bv).fld 2 1 (Nat.le_of_ble_eq_true z)) k z z) fun a k=>dG2 7 11 (by kernel_rfl) z z ?_ ?_
     · refine oE h fun Ac Bm h=>cC k m call124 z (c_spec_Cheapest fu _ _ (mkRequest (m.r Ao) (m.r Aj) (m.r Ak)) (m.r Al) Bm) fun Db e a k m=>ns s e fun s=>dM [8,9,10] 3 z k z s fun a k=>dG 11 z (s_allocN (cs:=[I 0,I 0,I 0,I 0,I 0,I 0,I 0]) m k zeroValue61 z z z z z fun Ca Ce a k m e Bi Bf=>?_);have Bw:=lo1 (Nat.le_trans s.size Bf);refine ns s e fun s=>dG 12 z (sT sizeOf61 m 0 Bi 0 k z z fun Cb a k e m Bh=>?_);have s:=s.trans e (fun y hy=>Or.inr (Bw y hy));refine wpList_nil ⟨s,?_⟩;refine dM [13] 1 z k z s fun a k=>dD ((nm_then ?_));exact ⟨_,_,_,_,k.p z,m.sl [1,2,0] z,Bh,h⟩
     refine s_allocN (cs:=[I 0,I 0,I 0,I 0,I 0,I 0,I 0]) m k zeroValue61 z z z z z fun Bo Cj a k m e Cc Bz=>?_;have Bb:=lo1 (Nat.le_trans s.size Bz);refine ns s e fun s=>dG 7 z (oE h fun Aa Bk h=>cC k m call124 z (c_spec_Cheapest fu _ _ (mkRequest (m.r Ao) (m.r Aj) (m.r Ak)) (m.r Al) Bk) fun Cq e a k m=>?_);refine ns s e fun s=>dM [8,9,10] 3 z k z s fun a k=>dG 12 z (sT sizeOf61 m 0 Cc 0 k z z fun Bc a k e m Ba=>?_);have s:=s.trans e (fun y hy=>Or.inr (Bb y hy));refine wpList_nil ⟨s,?_⟩;refine dM [13] 1 z k z s fun a k=>dD ((nm_then ?_));exact ⟨_,_,_,_,k.p z,m.sl [1,2,0] z,Ba,h⟩
   refine uc 11 k z fun k=>fS h k m z z
 exact ⟨_,k.p z,m.sl [1,0] z,h⟩
theorem c_spec_Units (fu) {w0} (r1) {Ag F3} (Aj:rd w0 F3 Ag r1) {r} (h:d_spec_Units fu r1 = some r):cL 268 [.agg Ag.toArray] w0 r:=by
 refine eg func268 z ntmps268 z fun k m=>?_;obtain ⟨v5,F6,v7,F8,v9,At,rfl,rfl,Aa,Ab,Ac⟩:=Aj;refine uc 2 k z fun k=>s_box m k z z z z z z fun Ax Aw a k m e Ae=>oE h fun As Am h=>gl 7 [bA m 0 Ae z] k z fun k=>cC k m call62 z (c_spec_Class fu _ (mkRequest (m.r Aa) (m.r Ab) (m.r Ac)) Am) fun Au e a k m=>ul 3 k z fun k=>cJ h k z (fun h=>?_) fun h=>?_
 · refine uc 2 k z fun k=>sB te35 m k z (by exact fN) fun Ao Ay Aq a k m e Ap=>?_;have Ah:=ow_bx Ap ([]:List Int) z z z;refine ul 5 k z fun k=>?_;cases h;exact finR1 k z (RV.tmp k z) ⟨_,[Ao],z,m.ext,(m.v Ah 0 z),(m.fresh 0 z)⟩
 refine oE h fun Az Ai h=>gc 5 [bA m 0 Ae z] k z fun k=>sL k m call83 z (c_spec_l6Units fu _ (mkRequest (m.r Aa) (m.r Ab) (m.r Ac)) Ai) fun Ba Ar Af Ad k m=>ul 4 k z fun k=>?_;cases h;exact finR1 k z (RV.tmp k z) ⟨_,Af,z,m.ext,(m.v Ad 0 z),(m.fresh 0 z)⟩
theorem c_spec_GramOf (fu) {w0} (r1 Aj) {Ba F3} (Bf:rd w0 F3 Ba r1) {v6 F7} (Ap:rd w0 F7 [v6] Aj) {r} (h:d_spec_GramOf fu r1 Aj = some r):cS 204 [.agg Ba.toArray,v6] w0 (I r):=by
 refine eg func204 z ntmps204 z fun k m=>?_;obtain ⟨v9,Cb,Am,Ch,Ar,Cd,rfl,rfl,Ah,Ae,Af⟩:=Bf;refine uc 2 k z fun k=>s_box m k z z z z z z fun Ag Au a k m e Ay=>oE h fun At Bc h=>gl 6 [bA m 0 Ay z] k z fun k=>sL k m call268 z (c_spec_Units fu _ (mkRequest (m.r Ah) (m.r Ae) (m.r Af)) Bc) fun As Av Ao Ak k m=>ul 15 k z fun k=>lG (fun n a w=>∃ Ai Ad,K 33 [(1,v6),(2,pt Ag),(5,Av),(6,I Ai),(7,I Ad)] a ∧ St [] w0 w [([Ag],Au),(Ao,As)] ∧ d_spec_GramOf_L1 fu r1 Aj At n Ai Ad = some r) ?_ fu ?_
 · rintro Ax a By ⟨Ai,Ad,k,m,h⟩;refine gc 9 [lF Ap] k z fun k=>cJ h k z (fun h=>?_) fun h=>?_
   · refine uc 2 k z fun k=>cg (fun a w=>∃ Aq,K 33 [(1,v6),(2,pt Ag),(5,Av),(6,I Aq),(7,I Ad)] a ∧ St [] w0 w [([Ag],Au),(Ao,As)] ∧ d_spec_GramOf_J1 fu (d_spec_GramOf_L1 fu r1 Aj At Ax) Ad Aq = some r) ?_ ?_
     · rintro a Ce ⟨Aq,k,m,h⟩;refine uc 6 k z fun k=>?_;exact ⟨_,_,k.p z,m.sl [0,1] z,h⟩
     refine uc 1 k z fun k=>cg (fun a w=>∃ Aa:Item,∃ Al Aw,K 33 [(1,v6),(2,pt Ag),(5,Av),(6,I Ai),(7,I Ad),(8,pt Al)] a ∧ St [] w0 w [([Ag],Au),(Ao,As),([Al],Aw)] ∧ bx Aw Al [I Aa.fId,I Aa.fW,I Aa.fH,I Aa.fD,I Aa.fGram,I Aa.fClass,I Aa.fCount] 59 ∧ d_spec_GramOf_J2 fu (d_spec_GramOf_L1 fu r1 Aj At Ax) Ai Ad Aa = some r) ?_ ?_
     · rintro a Cc ⟨Aa,Al,Aw,k,m,Bt,h⟩;refine gc 9 [bF m 2 Bt z] k z fun k=>?_;exact ⟨_,k.p z,m.sl [0,1] z,h⟩
     refine d_go [] mixo m z fun Bk hMd=>?_;have m:=hMd;have s:=Ext.refl ([]:List Nat) Bk;refine oE h fun Ca Az h=>dr [1,2,3,0,4,5] 6 [bA hMd 0 Ay z,iF Ap Az,eF (hMd.r Ap) Az 0] k z s fun k=>dG2 6 10 (by kernel_rfl) z z ?_ ?_
     · refine oE h fun Ab Bj h=>cC k m call147 z (c_spec_l6Item fu _ _ _ (mkRequest (m.r Ah) (m.r Ae) (m.r Af)) (m.q Ak 1 z) Bj) fun Bz e a k m=>ns s e fun s=>dM [7,8,9] 3 z k z s fun a k=>dG 10 z (s_allocN (cs:=[I 0,I 0,I 0,I 0,I 0,I 0,I 0]) m k zeroValue59 z z z z z fun Br Bw a k m e Bu Bl=>?_);have Bn:=lo1 (Nat.le_trans s.size Bl);refine ns s e fun s=>dG 11 z (sT sizeOf59 m 0 Bu 0 k z z fun Bo a k e m Bm=>?_);have s:=s.trans e (fun y hy=>Or.inr (Bn y hy));refine wpList_nil ⟨s,?_⟩;refine dM [12] 1 z k z s fun a k=>dD ((nm_then ?_));exact ⟨_,_,_,k.p z,m.sl [1,2,0] z,Bm,h⟩
     refine s_allocN (cs:=[I 0,I 0,I 0,I 0,I 0,I 0,I 0]) m k zeroValue59 z z z z z fun Bi Bv a k m e Bg Bb=>?_;have Be:=lo1 (Nat.le_trans s.size Bb);refine ns s e fun s=>dG 6 z (oE h fun Ac Bq h=>cC k m call147 z (c_spec_l6Item fu _ _ _ (mkRequest (m.r Ah) (m.r Ae) (m.r Af)) (m.q Ak 2 z) Bq) fun Cg e a k m=>?_);refine ns s e fun s=>dM [7,8,9] 3 z k z s fun a k=>dG 11 z (sT sizeOf59 m 0 Bg 0 k z z fun Bh a k e m Bd=>?_);have s:=s.trans e (fun y hy=>Or.inr (Be y hy));refine wpList_nil ⟨s,?_⟩;refine dM [12] 1 z k z s fun a k=>dD ((nm_then ?_));exact ⟨_,_,_,k.p z,m.sl [1,2,0] z,Bd,h⟩
   refine uc 12 k z fun k=>fS h k m z z
 exact ⟨_,_,k.p z,m.sl [1,0] z,h⟩
theorem c_spec_Gross (fu) {w0} (r1 x5) {Am F3} (Au:rd w0 F3 Am r1) {Aj F7} (Bb:rd w0 F7 Aj x5) {r} (h:d_spec_Gross fu r1 x5 = some r):cS 129 [.agg Am.toArray,.agg Aj.toArray] w0 (I r):=by
 refine eg func129 z ntmps129 z fun k m=>?_;obtain ⟨v9,Bj,Af,Bl,Ag,Bk,rfl,rfl,Ad,Ab,Ac⟩:=Au;obtain ⟨As,_,rfl,rfl,Al⟩:=Bb;refine uc 2 k z fun k=>s_box m k z z z z z z fun Ap Av a k m e Ah=>s_box m k z z z z z z fun Ao Ay a k m e Ak=>oE h fun Aa Aq h=>gl 8 [bA m 1 Ah z,bF m 0 Ak z] k z fun k=>cC k m call128 z (c_spec_TypeById fu _ _ (mkRequest (m.r Ad) (m.r Ab) (m.r Ac)) Aq) fun Bm e a k m=>pN 3 k z fun a k=>s_alloc m k zeroValue61 z z z z z fun Ai Bh a k m e Ax=>sT sizeOf61 m 0 Ax 0 k z z fun Ar a k e m Aw=>ul 3 k z fun k=>cg (fun a w=>K 28 [(2,pt Ap),(3,pt Ao),(5,pt Ai)] a ∧ St [] w0 w [([Ap],Av),([Ao],Ay),([Ai],Ar)] ∧ d_spec_Gross_J1 fu r1 x5 Aa = some r) ?_ ?_
 · rintro a Bi ⟨k,m,h⟩;refine uc 1 k z fun k=>d_go [] mixo m z fun Bc hMd=>?_;have m:=hMd;have s:=Ext.refl ([]:List Nat) Bc;refine dr [0,1,2,3,4] 5 [bF hMd 2 Aw z,bA hMd 0 Ah z,bF hMd 1 Ak z] k z s fun k=>dG 5 z (oE h fun Bg Ba h=>?_);refine cC k m call204 z (c_spec_GramOf fu _ _ (mkRequest (m.r Ad) (m.r Ab) (m.r Ac)) (m.r Al) Ba) fun Bf e a k m=>ns s e fun s=>dM [6,7] 2 z k z s fun a k=>dD ((nm_then ?_));refine wp_ret (fS h k m z z)
 refine oE h fun Az Bd h=>gc 3 [bA m 2 Ah z] k z fun k=>cC k m call62 z (c_spec_Class fu _ (mkRequest (m.r Ad) (m.r Ab) (m.r Ac)) Bd) fun Be e a k m=>pN 2 k z fun a k=>bS h k 17 z (fun _ h k=>?_) fun _ h k=>?_
 · refine ul 13 k z fun k=>fS h k m z z
 refine ul 5 k z fun k=>cJ h k z (fun h=>?_) fun h=>?_
 · refine uc 7 k z fun k=>fS h k m z z
 refine uc 2 k z fun k=>?_;exact ⟨k.p z,m.sl [2,1,0] z,h⟩
theorem c_spec_BoxOf (fu) {w0} (r1 x5) {As F3} (Ay:rd w0 F3 As r1) {Al F7} (Bh:rd w0 F7 Al x5) {r} (h:d_spec_BoxOf fu r1 x5 = some r):cS 65 [.agg As.toArray,.agg Al.toArray] w0 (.agg (Flat.e r).toArray):=by
 refine eg func65 z ntmps65 z fun k m=>?_;obtain ⟨v9,Bq,Af,Bt,Ah,Br,rfl,rfl,Ad,Ab,Ac⟩:=Ay;obtain ⟨Am,_,rfl,rfl,Ar⟩:=Bh;refine uc 2 k z fun k=>s_box m k z z z z z z fun Ap Az a k m e Ai=>s_box m k z z z z z z fun At Bd a k m e Aq=>s_alloc m k zeroValue91 z z z z z fun Ag Bg a k m e Ak=>oE h fun Aa Bf h=>gl 7 [bA m 2 Ai z,bF m 1 Aq z] k z fun k=>cC k m call128 z (c_spec_TypeById fu _ _ (mkRequest (m.r Ad) (m.r Ab) (m.r Ac)) Bf) fun Bn e a k m=>pN 3 k z fun a k=>s_alloc m k zeroValue61 z z z z z fun Ao Bo a k m e Ba=>sT sizeOf61 m 0 Ba 0 k z z fun Bc a k e m Aj=>ul 3 k z fun k=>cg (fun a w=>K 32 [(2,pt Ap),(3,pt At),(4,pt Ag),(5,pt Ao)] a ∧ St [] w0 w [([Ap],Az),([At],Bd),([Ag],Bg),([Ao],Bc)] ∧ d_spec_BoxOf_J1 fu r1 x5 Aa = some r) ?_ ?_
 · rintro a Bu ⟨k,m,h⟩;refine uc 1 k z fun k=>d_go ([Ag]) mixo m z fun Bk hMd=>?_;have m:=hMd;have s:=Ext.refl (([Ag]):List Nat) Bk;refine dF k 0 fa61_1 z s fun a k=>dT k 1 z z s (fun w s=>r_ld1 t13 (r:=[]) (Aj.at (hMd.az 3 2 z z z s) 1 1 z z z) k z z) fun a k=>dF k 2 fa61_3 z s fun a k=>dT k 3 z z s (fun w s=>r_ld1 t13 (r:=[]) (Aj.at (hMd.az 3 2 z z z s) 3 1 z z z) k z z) fun a k=>dF k 4 fa61_2 z s fun a k=>dT k 5 z z s (fun w s=>r_ld1 t13 (r:=[]) (Aj.at (hMd.az 3 2 z z z s) 2 1 z z z) k z z) fun a k=>dT k 6 z z s (fun w s=>r_ldA ta55 (Ai.at (hMd.az 0 2 z z z s) 0 10 z z z) z k z z) fun a k=>dT k 7 z z s (fun w s=>r_ldA ta37 (Aq.at (hMd.az 1 2 z z z s) 0 3 z z z) z k z z) fun a k=>dG 8 z (oE h fun Au Bb h=>?_);refine cC k m call129 z (c_spec_Gross fu _ _ (mkRequest (m.r Ad) (m.r Ab) (m.r Ac)) (mkCarton (m.r Ar)) Bb) fun Bp e a k m=>ns s e fun s=>dT k 9 z z s (fun w s=>r_build bt91 k (cs:=#[I Aa.1.fW,I Aa.1.fD,I Aa.1.fH,I Au]) (ps:=[(0,.tmp 23),(1,.tmp 25),(2,.tmp 27),(3,.tmp 30)]) z z (by kernel_rfl)) fun a k=>dG 10 z (sT sizeOf91 m 2 Ak 0 k z z fun Bl a k e m Bi=>?_);have s:=s.trans e (fun y hy=>Or.inl hy);refine wpList_nil ⟨s,?_⟩;refine dD ((nm_then ?_));refine wp_ret ?_;cases h;exact finR1 k z (RV.cA k z ta91 (Bi.at (m.a 2 z) 0 4 z z z) z) ⟨z,m.ext⟩
 refine oE h fun Av Ax h=>gc 3 [bA m 3 Ai z] k z fun k=>cC k m call62 z (c_spec_Class fu _ (mkRequest (m.r Ad) (m.r Ab) (m.r Ac)) Ax) fun Bs e a k m=>pN 2 k z fun a k=>bS h k 17 z (fun _ h k=>?_) fun _ h k=>?_
 · refine ul 8 k z fun k=>sv k z (r_build bt91 k (cs:=#[I 0,I 0,I 0,I 0]) (ps:=[]) z z (by kernel_rfl)) fun a k=>sT sizeOf91 m 1 Ak 0 k z z fun Bv a k e m Bj=>ul 4 k z fun k=>?_;cases h;exact finR1 k z (RV.cA k z ta91 (Bj.at (m.a 1 z) 0 4 z z z) z) ⟨z,m.ext⟩
 refine ul 5 k z fun k=>cJ h k z (fun h=>?_) fun h=>?_
 · refine uc 2 k z fun k=>sv k z (r_build bt91 k (cs:=#[I 0,I 0,I 0,I 0]) (ps:=[]) z z (by kernel_rfl)) fun a k=>sT sizeOf91 m 1 Ak 0 k z z fun Bm a k e m Aw=>ul 4 k z fun k=>?_;cases h;exact finR1 k z (RV.cA k z ta91 (Aw.at (m.a 1 z) 0 4 z z z) z) ⟨z,m.ext⟩
 refine uc 2 k z fun k=>?_;exact ⟨k.p z,m.sl [3,2,1,0] z,h⟩
theorem c_spec_l12Known (fu) {w0} (b1 Aa) {r} (h:d_spec_l12Known fu b1 Aa = some r):cS 219 [.agg (Flat.e (b1)).toArray,.agg (Flat.e (Aa)).toArray] w0 (.bool (r)):=by
 refine eg func219 z ntmps219 z fun k m=>uc 2 k z fun k=>s_box m k z z z z z z fun b3 w5 a k m e Ah=>s_box m k z z z z z z fun b6 w9 a k m e Ag=>oE h fun Ai Am h=>gl 7 [bF m 1 Ah z] k z fun k=>cC k m call39 z (c_spec_l1In fu _ _ _  Am) fun Au e a k m=>pN 1 k z fun a k=>bS h k 8 z (fun _ h k=>?_) fun _ h k=>?_
 · refine oE h fun Ak Ap h=>gl 2 [bF m 1 Ah z] k z fun k=>cC k m call39 z (c_spec_l1In fu _ _ _  Ap) fun Ax e a k m=>pN 2 k z fun a k=>bS h k 13 z (fun _ h k=>?_) fun _ h k=>?_
   · refine oE h fun Ao Al h=>gl 2 [bF m 1 Ah z] k z fun k=>cC k m call39 z (c_spec_l1In fu _ _ _  Al) fun Ay e a k m=>pN 2 k z fun a k=>bS h k 18 z (fun _ h k=>?_) fun _ h k=>?_
     · refine oE h fun Ar Aq h=>gl 2 [bF m 0 Ag z] k z fun k=>cC k m call39 z (c_spec_l1In fu _ _ _  Aq) fun Aw e a k m=>pN 2 k z fun a k=>bS h k 23 z (fun _ h k=>?_) fun _ h k=>?_
       · refine oE h fun At As h=>gl 2 [bF m 0 Ag z] k z fun k=>cC k m call39 z (c_spec_l1In fu _ _ _  As) fun Av e a k m=>pN 2 k z fun a k=>bS h k 28 z (fun _ h k=>?_) fun _ h k=>?_
         · refine oE h fun Ba Aj h=>gl 2 [bF m 0 Ag z] k z fun k=>cC k m call39 z (c_spec_l1In fu _ _ _  Aj) fun Az e a k m=>ul 5 k z fun k=>fS h k m z z
         refine ul 8 k z fun k=>fS h k m z z
       refine ul 13 k z fun k=>fS h k m z z
     refine ul 18 k z fun k=>fS h k m z z
   refine ul 23 k z fun k=>fS h k m z z
 refine ul 28 k z fun k=>fS h k m z z

end Go.Proofs.YthkaklkinepfkaaGreatDoor
