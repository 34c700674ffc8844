/- FnExactVerify: the walks of functions that it reaches (ExactVerifyBWs,part 2). Printed by gen.py. -/
import Derived.Test.YthkaklkinepfkaaGreatDoorExactVerifyBWs1
set_option maxRecDepth 20000
set_option linter.unusedSimpArgs false
set_option linter.unusedVariables false
set_option linter.unnecessarySimpa false
namespace Go.Proofs.YthkaklkinepfkaaGreatDoor
open Go Go.RowKit
open Enc (rd ow)
open Arg (argv)
open Ret (retv)
open Go.Proofs.Tryz

theorem c_spec_ItemOk (fu) {w0} (x1) {r} (h:d_spec_ItemOk fu x1 = some r):cS 195 [.agg (Flat.e (x1)).toArray] w0 (.bool (r)):=by
 refine eg func195 z ntmps195 z fun k m=>uc 2 k z fun k=>s_box m k z z z z z z fun b2 w4 a k m e Aa=>oE h fun x5 Al h=>gl 7 [bF m 0 Aa z] k z fun k=>cC k m call79 z (c_spec_l2Id fu _  Al) fun w9 e a k m=>pN 1 k z fun a k=>bS h k 6 z (fun _ h k=>?_) fun _ h k=>?_
 · refine oE h fun Ak Ap h=>gl 2 [bF m 0 Aa z] k z fun k=>cC k m call264 z (c_spec_l2Side fu _  Ap) fun Aw e a k m=>pN 2 k z fun a k=>bS h k 11 z (fun _ h k=>?_) fun _ h k=>?_
   · refine oE h fun At Aj h=>gl 2 [bF m 0 Aa z] k z fun k=>cC k m call264 z (c_spec_l2Side fu _  Aj) fun Ay e a k m=>pN 2 k z fun a k=>bS h k 16 z (fun _ h k=>?_) fun _ h k=>?_
     · refine oE h fun Ao Ai h=>gl 2 [bF m 0 Aa z] k z fun k=>cC k m call264 z (c_spec_l2Side fu _  Ai) fun Ax e a k m=>pN 2 k z fun a k=>bS h k 21 z (fun _ h k=>?_) fun _ h k=>?_
       · refine oE h fun Ar Ah h=>gl 2 [bF m 0 Aa z] k z fun k=>cC k m call39 z (c_spec_l1In fu _ _ _  Ah) fun Ba e a k m=>pN 2 k z fun a k=>bS h k 26 z (fun _ h k=>?_) fun _ h k=>?_
         · refine oE h fun Am As h=>gl 2 [bF m 0 Aa z] k z fun k=>cC k m call39 z (c_spec_l1In fu _ _ _  As) fun Au e a k m=>pN 2 k z fun a k=>bS h k 31 z (fun _ h k=>?_) fun _ h k=>?_
           · refine oE h fun Az Aq h=>gl 2 [bF m 0 Aa z] k z fun k=>cC k m call39 z (c_spec_l1In fu _ _ _  Aq) fun Av e a k m=>ul 5 k z fun k=>fS h k m z z
           refine ul 8 k z fun k=>fS h k m z z
         refine ul 13 k z fun k=>fS h k m z z
       refine ul 18 k z fun k=>fS h k m z z
     refine ul 23 k z fun k=>fS h k m z z
   refine ul 28 k z fun k=>fS h k m z z
 refine ul 33 k z fun k=>fS h k m z z
theorem c_spec_BoundsOk (fu) {w0} (r1) {Aw F3} (Bf:rd w0 F3 Aw r1) {r} (h:d_spec_BoundsOk fu r1 = some r):cS 117 [.agg Aw.toArray] w0 (.bool (r)):=by
 refine eg func117 z ntmps117 z fun k m=>?_;obtain ⟨v5,F6,v7,F8,v9,Cn,rfl,rfl,Ac,Ag,Ad⟩:=Bf;refine uc 2 k z fun k=>s_box m k z z z z z z fun Ab Ak a k m e Aa=>ul 3 k z fun k=>cg (fun a w=>K 111 [(1,pt Ab)] a ∧ St [] w0 w [([Ab],Ak)] ∧ d_spec_BoundsOk_J2 fu r1 = some r) ?_ ?_
 · rintro a Ct ⟨k,m,h⟩;refine uc 7 k z fun k=>lG (fun n a w=>∃ Ae,K 111 [(1,pt Ab),(3,I Ae)] a ∧ St [] w0 w [([Ab],Ak)] ∧ d_spec_BoundsOk_L3 fu r1 n Ae = some r) ?_ fu ?_
   · rintro Be a Cd ⟨Ae,k,m,h⟩;refine gc 10 [bF m 0 Aa z,lF Ac] k z fun k=>cJ h k z (fun h=>?_) fun h=>?_
     · refine uc 2 k z fun k=>cg (fun a w=>K 111 [(1,pt Ab),(3,I Ae)] a ∧ St [] w0 w [([Ab],Ak)] ∧ d_spec_BoundsOk_J1 fu (d_spec_BoundsOk_L3 fu r1 Be) Ae = some r) ?_ ?_
       · rintro a Ce ⟨k,m,h⟩;refine uc 6 k z fun k=>?_;exact ⟨_,k.p z,m.sl [0] z,h⟩
       refine o2 h fun Bx Ap Bi Ax h=>gc 9 [bF m 0 Aa z,iF Ac Ap,eF (m.r Ac) Ap 0] k z fun k=>cC k m call39 z (c_spec_l1In fu _ _ _  Ax) fun Cv e a k m=>pN 2 k z fun a k=>bS h k 63 z (fun _ h k=>?_) fun _ h k=>?_
       · refine ul 23 k z fun k=>fS h k m z z
       refine o2 h fun Bz Ci Co Bt h=>gl 6 [bF m 0 Aa z,iF Ac Ap,eF (m.r Ac) Ap 1] k z fun k=>cC k m call39 z (c_spec_l1In fu _ _ _  Bt) fun Cu e a k m=>ul 4 k z fun k=>cJ h k z (fun h=>?_) fun h=>?_
       · refine uc 11 k z fun k=>fS h k m z z
       refine uc 3 k z fun k=>?_;exact ⟨k.p z,m.sl [0] z,h⟩
     refine uc 12 k z fun k=>lG (fun n a w=>∃ Ar,K 111 [(1,pt Ab),(4,I Ar)] a ∧ St [] w0 w [([Ab],Ak)] ∧ d_spec_BoundsOk_L2 fu r1 n Ar = some r) ?_ fu ?_
     · rintro Cr a Cq ⟨Ar,k,m,h⟩;refine gc 10 [bF m 0 Aa z,lF Ag] k z fun k=>cJ h k z (fun h=>?_) fun h=>?_
       · refine o2 h fun Bc Au Cg Bl h=>gc 11 [bF m 0 Aa z,iF Ag Au,eA (m.r Ag) Au] k z fun k=>cC k m call194 z (c_spec_TypeOk fu (Bc:Typ)  Bl) fun By e a k m=>ul 3 k z fun k=>cJ h k z (fun h=>?_) fun h=>?_
         · refine uc 11 k z fun k=>fS h k m z z
         refine uc 9 k z fun k=>?_;exact ⟨_,k.p z,m.sl [0] z,h⟩
       refine uc 17 k z fun k=>lG (fun n a w=>∃ Aq As,K 111 [(1,pt Ab),(5,I Aq),(6,I As)] a ∧ St [] w0 w [([Ab],Ak)] ∧ d_spec_BoundsOk_L1 fu r1 n Aq As = some r) ?_ fu ?_
       · rintro Cl a Cm ⟨Aq,As,k,m,h⟩;refine gc 10 [bF m 0 Aa z,lF Ad] k z fun k=>cJ h k z (fun h=>?_) fun h=>?_
         · refine o2 h fun Av At Cc Bb h=>gc 12 [bF m 0 Aa z,iF Ad At,eA (m.r Ad) At] k z fun k=>cC k m call195 z (c_spec_ItemOk fu (Av:Item)  Bb) fun Bw e a k m=>ul 3 k z fun k=>cJ h k z (fun h=>?_) fun h=>?_
           · refine uc 12 k z fun k=>fS h k m z z
           refine oE h fun Ck Ca h=>gc 21 [bF m 0 Aa z,iF Ad At,eF (m.r Ad) At 6] k z fun k=>?_;exact ⟨_,_,k.p z,m.sl [0] z,h⟩
         refine uc 13 k z fun k=>fS h k m z z
       exact ⟨_,_,k.p z,m.sl [0] z,h⟩
     exact ⟨_,k.p z,m.sl [0] z,h⟩
   exact ⟨_,k.p z,m.sl [0] z,h⟩
 refine oE h fun Bp Ba h=>gc 4 [bF m 0 Aa z] k z fun k=>cC k m call39 z (c_spec_l1In fu _ _ _  Ba) fun Cp e a k m=>pN 2 k z fun a k=>bS h k 11 z (fun _ h k=>?_) fun _ h k=>?_
 · refine ul 46 k z fun k=>fS h k m z z
 refine oE h fun Bk Bo h=>gl 2 [bA m 0 Aa z] k z fun k=>cC k m call193 z (c_spec_PalletOk fu (r1.fPallet:Pallet)  Bo) fun Cs e a k m=>pN 3 k z fun a k=>bS h k 17 z (fun _ h k=>?_) fun _ h k=>?_
 · refine ul 40 k z fun k=>fS h k m z z
 refine oE h fun Bv Br h=>gl 2 [bF m 0 Aa z] k z fun k=>cC k m call39 z (c_spec_l1In fu _ _ _  Br) fun Cj e a k m=>pN 3 k z fun a k=>bS h k 23 z (fun _ h k=>?_) fun _ h k=>?_
 · refine ul 34 k z fun k=>fS h k m z z
 refine gl 6 [bF m 0 Aa z,lF Ac] k z fun k=>bS h k 29 z (fun _ h k=>?_) fun _ h k=>?_
 · refine ul 28 k z fun k=>fS h k m z z
 refine oE h fun Bh Bj h=>gl 3 [bF m 0 Aa z,lF Ag] k z fun k=>cC k m call39 z (c_spec_l1In fu _ _ _  Bj) fun Ch e a k m=>pN 3 k z fun a k=>bS h k 36 z (fun _ h k=>?_) fun _ h k=>?_
 · refine ul 21 k z fun k=>fS h k m z z
 refine oE h fun Bd Ay h=>gl 2 [bF m 0 Aa z] k z fun k=>cC k m call79 z (c_spec_l2Id fu _  Ay) fun Cb e a k m=>pN 3 k z fun a k=>bS h k 42 z (fun _ h k=>?_) fun _ h k=>?_
 · refine ul 15 k z fun k=>fS h k m z z
 refine gl 7 [bF m 0 Aa z,lF Ad] k z fun k=>cJ h k z (fun h=>?_) fun h=>?_
 · refine uc 7 k z fun k=>fS h k m z z
 refine uc 2 k z fun k=>?_;exact ⟨k.p z,m.sl [0] z,h⟩
theorem c_spec_MasterOf (fu) {w0} (r1) {Ai F3} (Ao:rd w0 F3 Ai r1) {r} (h:d_spec_MasterOf fu r1 = some r):cS 120 [.agg Ai.toArray] w0 (.tuple #[.agg (Flat.e r.1).toArray,.bool (r.2)]):=by
 refine eg func120 z ntmps120 z fun k m=>?_;obtain ⟨v5,F6,v7,F8,v9,Ay,rfl,rfl,Au,Aa,Av⟩:=Ao;refine uc 2 k z fun k=>s_box m k z z z z z z fun Ah Aq a k m e Ac=>s_alloc m k zeroValue61 z z z z z fun Af Ap a k m e Ag=>ul 10 k z fun k=>lG (fun n a w=>∃ Ad,K 27 [(1,pt Ah),(2,pt Af),(4,I Ad)] a ∧ St [] w0 w [([Ah],Aq),([Af],Ap)] ∧ d_spec_MasterOf_L1 fu r1 n Ad = some r) ?_ fu ?_
 · rintro Ba a Ax ⟨Ad,k,m,h⟩;refine gc 10 [bF m 0 Ac z,lF Aa] k z fun k=>cJ h k z (fun h=>?_) fun h=>?_
   · refine uc 5 k z fun k=>d_go [] mixo m z fun Aj hMd=>?_;have m:=hMd;have s:=Ext.refl ([]:List Nat) Aj;refine oE h fun Ab Ae h=>dr [2,0,1,3,4,5,6,7,8] 9 [bF hMd 0 Ac z,iF Aa Ae,eF (hMd.r Aa) Ae 0,bF hMd 0 Ac z] k z s fun k=>dD ((nm_then ?_));refine cJ h k z (fun h=>?_) fun h=>?_
     · refine oE h fun Az At h=>gc 7 [bF m 0 Ac z,iF Aa Ae,eA (m.r Aa) Ae] k z fun k=>sT sizeOf61 m 1 Ag 0 k z z fun As a k e m Am=>ul 9 k z fun k=>?_;cases h;exact finR2 k z (RV.cA k z ta61 (Am.at (m.a 1 z) 0 7 z z z) z) (RV.tmp k z) ⟨z,m.ext⟩
     refine uc 9 k z fun k=>?_;exact ⟨_,k.p z,m.sl [0,1] z,h⟩
   refine uc 7 k z fun k=>sv k z (r_build bt61 k (cs:=#[I 0,I 0,I 0,I 0,I 0,I 0,I 0]) (ps:=[]) z z (by kernel_rfl)) fun a k=>sT sizeOf61 m 1 Ag 0 k z z fun Aw a k e m Ar=>ul 4 k z fun k=>?_;cases h;exact finR2 k z (RV.cA k z ta61 (Ar.at (m.a 1 z) 0 7 z z z) z) (RV.tmp k z) ⟨z,m.ext⟩
 exact ⟨_,k.p z,m.sl [1,0] z,h⟩
theorem c_spec_l5Names (fu) {w0} (r1) {At F3} (Ay:rd w0 F3 At r1) {r} (h:d_spec_l5Names fu r1 = some r):cS 118 [.agg At.toArray] w0 (.bool (r)):=by
 refine eg func118 z ntmps118 z fun k m=>?_;obtain ⟨v5,F6,v7,F8,v9,Cb,rfl,rfl,Ad,Ae,Ab⟩:=Ay;refine uc 2 k z fun k=>s_box m k z z z z z z fun Ac Ah a k m e Aa=>ul 10 k z fun k=>lG (fun n a w=>∃ Ag,K 102 [(1,pt Ac),(3,I Ag)] a ∧ St [] w0 w [([Ac],Ah)] ∧ d_spec_l5Names_L5 fu r1 n Ag = some r) ?_ fu ?_
 · rintro Az a By ⟨Ag,k,m,h⟩;refine gc 10 [bF m 0 Aa z,lF Ae] k z fun k=>cJ h k z (fun h=>?_) fun h=>?_
   · refine uc 10 k z fun k=>lG (fun n a w=>∃ Am,K 102 [(1,pt Ac),(3,I Ag),(4,I Am)] a ∧ St [] w0 w [([Ac],Ah)] ∧ d_spec_l5Names_L1 fu (d_spec_l5Names_L5 fu r1 Az) r1 Ag n Am = some r) ?_ fu ?_
     · rintro Ci a Bs ⟨Am,k,m,h⟩;refine uc 8 k z fun k=>cJ h k z (fun h=>?_) fun h=>?_
       · refine uc 5 k z fun k=>d_go [] mixo m z fun Bj hMd=>?_;have m:=hMd;have s:=Ext.refl ([]:List Nat) Bj;refine o2 h fun Ck Aq Ce Ap h=>dr [2,8,0,1,3,4,5,6,7,9,10,11,12] 13 [bF hMd 0 Aa z,iF Ae Aq,eF (hMd.r Ae) Aq 0,bF hMd 0 Aa z,iF Ae Ap,eF (hMd.r Ae) Ap 0] k z s fun k=>dD ((nm_then ?_));refine cJ h k z (fun h=>?_) fun h=>?_
         · refine uc 15 k z fun k=>fS h k m z z
         refine uc 9 k z fun k=>?_;exact ⟨_,k.p z,m.sl [0] z,h⟩
       refine uc 12 k z fun k=>?_;exact ⟨_,k.p z,m.sl [0] z,h⟩
     exact ⟨_,k.p z,m.sl [0] z,h⟩
   refine uc 12 k z fun k=>lG (fun n a w=>∃ Ai,K 102 [(1,pt Ac),(5,I Ai)] a ∧ St [] w0 w [([Ac],Ah)] ∧ d_spec_l5Names_L4 fu r1 n Ai = some r) ?_ fu ?_
   · rintro Be a Bt ⟨Ai,k,m,h⟩;refine gc 10 [bF m 0 Aa z,lF Ab] k z fun k=>cJ h k z (fun h=>?_) fun h=>?_
     · refine uc 6 k z fun k=>d_go [] mixo m z fun Bn hMd=>?_;have m:=hMd;have s:=Ext.refl ([]:List Nat) Bn;refine oE h fun Bx Ar h=>dr [2,0,1,3,4,5,6,7,8] 9 [bF hMd 0 Aa z,iF Ab Ar,eF (hMd.r Ab) Ar 5,bF hMd 0 Aa z] k z s fun k=>dD ((nm_then ?_));refine cJ h k z (fun h=>?_) fun h=>?_
       · refine uc 12 k z fun k=>fS h k m z z
       refine uc 8 k z fun k=>lG (fun n a w=>∃ Al,K 102 [(1,pt Ac),(5,I Ai),(6,I Al)] a ∧ St [] w0 w [([Ac],Ah)] ∧ d_spec_l5Names_L2 fu (d_spec_l5Names_L4 fu r1 Be) r1 Ai n Al = some r) ?_ fu ?_
       · rintro Cc a Bv ⟨Al,k,m,h⟩;refine uc 8 k z fun k=>cJ h k z (fun h=>?_) fun h=>?_
         · refine uc 5 k z fun k=>d_go [] mixo m z fun Bc hMd=>?_;have m:=hMd;have s:=Ext.refl ([]:List Nat) Bc;refine o2 h fun Cj As Cg Au h=>dr [2,8,0,1,3,4,5,6,7,9,10,11,12] 13 [bF hMd 0 Aa z,iF Ab As,eF (hMd.r Ab) As 0,bF hMd 0 Aa z,iF Ab Au,eF (hMd.r Ab) Au 0] k z s fun k=>dD ((nm_then ?_));refine cJ h k z (fun h=>?_) fun h=>?_
           · refine uc 15 k z fun k=>fS h k m z z
           refine uc 9 k z fun k=>?_;exact ⟨_,k.p z,m.sl [0] z,h⟩
         refine uc 12 k z fun k=>?_;exact ⟨_,k.p z,m.sl [0] z,h⟩
       exact ⟨_,k.p z,m.sl [0] z,h⟩
     refine uc 12 k z fun k=>lG (fun n a w=>∃ Aj,K 102 [(1,pt Ac),(7,I Aj)] a ∧ St [] w0 w [([Ac],Ah)] ∧ d_spec_l5Names_L3 fu r1 n Aj = some r) ?_ fu ?_
     · rintro Bf a Cd ⟨Aj,k,m,h⟩;refine gc 10 [bF m 0 Aa z,lF Ad] k z fun k=>cJ h k z (fun h=>?_) fun h=>?_
       · refine uc 2 k z fun k=>cg (fun a w=>K 102 [(1,pt Ac),(7,I Aj)] a ∧ St [] w0 w [([Ac],Ah)] ∧ d_spec_l5Names_J1 fu (d_spec_l5Names_L3 fu r1 Bf) Aj = some r) ?_ ?_
         · rintro a Bw ⟨k,m,h⟩;refine uc 6 k z fun k=>?_;exact ⟨_,k.p z,m.sl [0] z,h⟩
         refine uc 2 k z fun k=>d_go [] mixo m z fun Bg hMd=>?_;have m:=hMd;have s:=Ext.refl ([]:List Nat) Bg;refine oE h fun Bd Ao h=>dr [2,0,1,3,4,5,6,7,8,9] 10 [bF hMd 0 Aa z,iF Ad Ao,eF (hMd.r Ad) Ao 0,bF hMd 0 Aa z] k z s fun k=>bS h k 85 z (fun _ h k=>?_) fun _ h k=>?_
         · refine dM [10,11,12,13,14,15,16,17,18,19] 10 z k z s fun a k=>dD ?_;refine (nm_then ?_);refine uc 12 k z fun k=>fS h k m z z
         refine oE h fun Bq Ch h=>dr [12,10,11,13,14,15,16,17,18,19] 10 [bF hMd 0 Aa z,iF Ad Ao,eF (hMd.r Ad) Ao 1,bF hMd 0 Aa z] k z s fun k=>dD ?_;refine (nm_then ?_);refine cJ h k z (fun h=>?_) fun h=>?_
         · refine uc 11 k z fun k=>fS h k m z z
         refine uc 3 k z fun k=>?_;exact ⟨k.p z,m.sl [0] z,h⟩
       refine oE h fun Af Bh h=>gc 8 [bA m 0 Aa z] k z fun k=>cC k m call120 z (c_spec_MasterOf fu _ (mkRequest (m.r Ad) (m.r Ae) (m.r Ab)) Bh) fun Bp e a k m=>pN 3 k z fun a k=>s_alloc m k zeroValue61 z z z z z fun Bz Bu a k m e Bb=>sT sizeOf61 m 0 Bb 0 k z z fun Br a k e m Ca=>ul 10 k z fun k=>fS h k m z z
     exact ⟨_,k.p z,m.sl [0] z,h⟩
   exact ⟨_,k.p z,m.sl [0] z,h⟩
 exact ⟨_,k.p z,m.sl [0] z,h⟩
theorem c_spec_Beside (fu) {w0} (Ae a5 b6) {v2 F3} (Aa:rd w0 F3 [v2] Ae) {r} (h:d_spec_Beside fu Ae a5 b6 = some r):cS 196 [v2,I a5,I b6] w0 (.bool (r)):=by
 refine eg func196 z ntmps196 z fun k m=>uc 12 k z fun k=>lG (fun n a w=>∃ Ab,K 30 [(0,v2),(1,I a5),(2,I b6),(7,I Ab)] a ∧ St [] w0 w [] ∧ d_spec_Beside_L1 fu Ae a5 b6 n Ab = some r) ?_ fu ?_
 · rintro Af a Ak ⟨Ab,k,m,h⟩;refine gc 9 [lF Aa] k z fun k=>cJ h k z (fun h=>?_) fun h=>?_
   · refine uc 2 k z fun k=>cg (fun a w=>K 30 [(0,v2),(1,I a5),(2,I b6),(7,I Ab)] a ∧ St [] w0 w [] ∧ d_spec_Beside_J1 fu (d_spec_Beside_L1 fu Ae a5 b6 Af) Ab = some r) ?_ ?_
     · rintro a Al ⟨k,m,h⟩;refine uc 6 k z fun k=>?_;exact ⟨_,k.p z,m.sl [] z,h⟩
     refine oE h fun Ah Ad h=>gc 11 [iF Aa Ad,eF (m.r Aa) Ad 0] k z fun k=>bS h k 21 z (fun _ h k=>?_) fun _ h k=>?_
     · refine oE h fun Am Aj h=>gl 10 [iF Aa Ad,eF (m.r Aa) Ad 1] k z fun k=>cJ h k z (fun h=>?_) fun h=>?_
       · refine uc 11 k z fun k=>fS h k m z z
       refine uc 3 k z fun k=>?_;exact ⟨k.p z,m.sl [] z,h⟩
     refine ul 14 k z fun k=>?_;exact ⟨k.p z,m.sl [] z,h⟩
   refine uc 11 k z fun k=>fS h k m z z
 exact ⟨_,k.p z,m.sl [] z,h⟩
theorem c_spec_TableOk (fu) {w0} (Ad Ab) {v2 F3} (Aa:rd w0 F3 [v2] Ad) {r} (h:d_spec_TableOk fu Ad Ab = some r):cS 119 [v2,I Ab] w0 (.bool (r)):=by
 refine eg func119 z ntmps119 z fun k m=>oE h fun x6 Ao h=>uc 9 k z fun k=>cC k m call39 z (c_spec_l1In fu _ _ _  Ao) fun w9 e a k m=>ul 3 k z fun k=>cJ h k z (fun h=>?_) fun h=>?_
 · refine uc 7 k z fun k=>fS h k m z z
 refine uc 9 k z fun k=>lG (fun n a w=>∃ Ac,K 41 [(0,v2),(1,I Ab),(5,I Ac)] a ∧ St [] w0 w [] ∧ d_spec_TableOk_L2 fu Ad Ab n Ac = some r) ?_ fu ?_
 · rintro Ah a Aw ⟨Ac,k,m,h⟩;refine uc 8 k z fun k=>cJ h k z (fun h=>?_) fun h=>?_
   · refine uc 10 k z fun k=>lG (fun n a w=>∃ Ae,K 41 [(0,v2),(1,I Ab),(5,I Ac),(6,I Ae)] a ∧ St [] w0 w [] ∧ d_spec_TableOk_L1 fu (d_spec_TableOk_L2 fu Ad Ab Ah) Ad Ab Ac n Ae = some r) ?_ fu ?_
     · rintro Am a Ax ⟨Ae,k,m,h⟩;refine uc 8 k z fun k=>cJ h k z (fun h=>?_) fun h=>?_
       · refine uc 2 k z fun k=>cg (fun a w=>K 41 [(0,v2),(1,I Ab),(5,I Ac),(6,I Ae)] a ∧ St [] w0 w [] ∧ d_spec_TableOk_J1 fu (d_spec_TableOk_L1 fu (d_spec_TableOk_L2 fu Ad Ab Ah) Ad Ab Ac Am) Ae = some r) ?_ ?_
         · rintro a Bh ⟨k,m,h⟩;refine uc 6 k z fun k=>?_;exact ⟨_,k.p z,m.sl [] z,h⟩
         refine uc 7 k z fun k=>bS h k 23 z (fun _ h k=>?_) fun _ h k=>?_
         · refine pN 3 k z fun a k=>oE h fun Aj Ar h=>cC k m call196 z (c_spec_Beside fu _ _ _ (m.r Aa) Ar) fun Bc e a k m=>pN 3 k z fun a k=>bS h k 30 z (fun _ h k=>?_) fun _ h k=>?_
           · refine ul 28 k z fun k=>fS h k m z z
           refine pN 3 k z fun a k=>oE h fun Az Aq h=>cC k m call196 z (c_spec_Beside fu _ _ _ (m.r Aa) Aq) fun Bd e a k m=>pN 3 k z fun a k=>oE h fun Be Au h=>cC k m call196 z (c_spec_Beside fu _ _ _ (m.r Aa) Au) fun Bg e a k m=>sv k z (r_neb k underlying4 z z z) fun a k=>ul 3 k z fun k=>cJ h k z (fun h=>?_) fun h=>?_
           · refine uc 15 k z fun k=>fS h k m z z
           refine uc 3 k z fun k=>?_;exact ⟨k.p z,m.sl [] z,h⟩
         refine pN 10 k z fun a k=>oE h fun Ay Ap h=>cC k m call196 z (c_spec_Beside fu _ _ _ (m.r Aa) Ap) fun Bb e a k m=>pN 3 k z fun a k=>oE h fun Bf Ak h=>cC k m call196 z (c_spec_Beside fu _ _ _ (m.r Aa) Ak) fun Ba e a k m=>sv k z (r_neb k underlying4 z z z) fun a k=>ul 3 k z fun k=>cJ h k z (fun h=>?_) fun h=>?_
         · refine uc 15 k z fun k=>fS h k m z z
         refine uc 3 k z fun k=>?_;exact ⟨k.p z,m.sl [] z,h⟩
       refine uc 12 k z fun k=>?_;exact ⟨_,k.p z,m.sl [] z,h⟩
     exact ⟨_,k.p z,m.sl [] z,h⟩
   refine uc 11 k z fun k=>fS h k m z z
 exact ⟨_,k.p z,m.sl [] z,h⟩
theorem c_spec_l1Places (fu) {w0} (n1) {r} (h:d_spec_l1Places fu n1 = some r):cL 202 [I n1] w0 r:=by
 refine eg func202 z ntmps202 z fun k m=>uc 7 k z fun k=>sB te35 m k z (by exact fN) fun g2 w3 e5 a k m e Ao=>?_;have Ar:=ow_bx Ao ([]:List Int) z z z;refine ul 10 k z fun k=>lG (fun n a w=>∃ Ae Ad Ab Ac Aa,K 16 [(0,I n1),(3,Ad),(4,I Aa)] a ∧ St [] w0 w [(Ab,Ac)] ∧ ow Ac Ab [Ad] Ae ∧ d_spec_l1Places_L1 fu n1 n Ae Aa = some r) ?_ fu ?_
 · rintro At a Au ⟨Ae,Ad,Ab,Ac,Aa,k,m,Af,h⟩;refine uc 8 k z fun k=>cJ h k z (fun h=>?_) fun h=>?_
   · refine uc 7 k z fun k=>sB te35 m k z (by exact fC z fN) fun Av Aw As a k m e Ap=>?_;have Am:=ow_bx Ap ([Aa]:List Int) z z z;refine oE h fun Al Ah h=>s_appF Ah te35 z m 1 Af (News.rd (m.q Am 0 z)) z z k z z z z z z z fun Ag Aq Aj a k e m Ai=>ul 10 k z fun k=>?_;exact ⟨_,_,_,_,_,k.p z,m.sl [1] z,Ai,h⟩
   refine uc 12 k z fun k=>?_;cases h;exact finR1 k z (RV.tmp k z) ⟨_,Ab,z,m.ext,(m.v Af 0 z),(m.fresh 0 z)⟩
 exact ⟨_,_,_,_,_,k.p z,m.sl [0] z,Ar,h⟩
theorem c_spec_l1Merge_R (fu:Nat):∀ (nr:Nat) {w0:World} (Ap:List Int) (Be:List Int) (Ai:Bool) {v2:Value} {F3:List Nat} (Aa:rd w0 F3 [v2] Ap) {v6:Value} {F7:List Nat} (Ak:rd w0 F7 [v6] Be) {r:(List Int)} (h:d_spec_l1Merge_R fu nr Ap Be Ai = some r),Calls Tryz.prog 201 #[v2,v6,.bool (Ai)] w0 fun e w=>∃ (v0:Value) (G0:List Nat),e = .returned (v0) ∧ Ext [] w0 w ∧ ow w G0 [v0] r ∧ (∀ b ∈ G0,w0.heap.size ≤ b):=by
 intro nr
 induction nr with
 | zero =>
   intros
   rename_i h
   exact nS h
 | succ nr ih =>
 intro w0 Ap Be Ai v2 F3 Aa v6 F7 Ak r h;refine eg (vs:=[_,_,_]) func201 z ntmps201 z fun k m=>gc 13 [lF Ak] k z fun k=>cJ h k z (fun h=>?_) fun h=>?_
 · refine uc 2 k z fun k=>sB te35 m k z (by exact fN) fun Fn Hd Hm a k m e Em=>?_;have Fb:=ow_bx Em ([]:List Int) z z z;refine pN 1 k z fun a k=>oE h fun Ha Et h=>s_appF Et te35 z m 0 Fb (News.rd (m.r Ak)) z z k z z z z z z z fun Fm El Gp a k e m Fi=>ul 5 k z fun k=>?_;cases h;exact finR1 k z (RV.tmp k z) ⟨_,El,z,m.ext,(m.v Fi 0 z),(m.fresh 0 z)⟩
 refine oE h fun Gm Ch h=>gc 15 [lF Ak] k z fun k=>s_slTo Ak Ch k ts35 z z z z z z fun Fj a k Bg=>pN 1 k z fun a k=>oE h fun Ay Er h=>sC k call201 z (ih _ _ _ (m.r Aa) (m.r Bg) Er) fun Fq Bl hR=>?_;obtain ⟨Bi,Bb,rfl,e,Ab,Bv⟩:=hR;refine ⟨_,z,fun a k=>?_⟩;have m:=m.nw e Bv Ab;refine oE h fun Gw Cx h=>ul 8 k z fun k=>s_slFrom Ak Cx k ts35 z z z z z z fun Fp a k Bm=>pN 1 k z fun a k=>oE h fun Bf Dh h=>sC k call201 z (ih _ _ _ (m.r Aa) (m.r Bm) Dh) fun Fs Bo hR=>?_;obtain ⟨Bp,Bc,rfl,e,Ac,Eg⟩:=hR;refine ⟨_,z,fun a k=>?_⟩;have m:=m.nw e Eg Ac;refine ul 5 k z fun k=>sB te35 m k z (by exact fN) fun Bj Cg Hq a k m e Cr=>?_;have Ce:=ow_bx Cr ([]:List Int) z z z;refine ul 15 k z fun k=>lG (fun n a w=>∃ Aw Ax Aq Az Ad Ae,K 132 [(0,v2),(2,.bool (Ai)),(8,Bi),(9,Bp),(10,Ax),(11,I Ad),(12,I Ae)] a ∧ St [] w0 w [(Bb,Bl),(Bc,Bo),(Aq,Az)] ∧ ow Az Aq [Ax] Aw ∧ d_spec_l1Merge_L1 fu Ap Ai Ay Bf n Aw Ad Ae = some r) ?_ fu ?_
 · rintro Cu a Hn ⟨Aw,Ax,Aq,Az,Ad,Ae,k,m,Ah,h⟩;refine cg (fun a w=>K 132 [(0,v2),(2,.bool (Ai)),(8,Bi),(9,Bp),(10,Ax),(11,I Ad),(12,I Ae)] a ∧ St [] w0 w [(Bb,Bl),(Bc,Bo),(Aq,Az)] ∧ d_spec_l1Merge_J1 fu (d_spec_l1Merge_L1 fu Ap Ai Ay Bf Cu) Ap Ai Ay Bf Aw Ad Ae = some r) ?_ ?_
   · rintro a Fu ⟨k,m,h⟩;refine gc 11 [lF (Enc.ow_rd Ac)] k z fun k=>cJ h k z (fun h=>?_) fun h=>?_
     · refine oE h fun Bk Bq h=>gc 7 [iF (Enc.ow_rd Ab) Bq,eF (m.q Ab 0 z) Bq 0] k z fun k=>sB te35 m k z (by exact fC z fN) fun Ii Gz He a k m e Ff=>?_;have Dq:=ow_bx Ff ([Bk]:List Int) z z z;refine oE h fun Dy En h=>s_appF En te35 z m 3 Ah (News.rd (m.q Dq 0 z)) z z k z z z z z z z fun Di Dl Fh a k e m Dd=>ul 11 k z fun k=>?_;exact ⟨_,_,_,_,_,_,k.p z,m.sl [1,2,3] z,Dd,h⟩
     refine gc 9 [lF (Enc.ow_rd Ab)] k z fun k=>cJ h k z (fun h=>?_) fun h=>?_
     · refine oE h fun Bh Bn h=>gc 7 [iF (Enc.ow_rd Ac) Bn,eF (m.q Ac 1 z) Bn 0] k z fun k=>sB te35 m k z (by exact fC z fN) fun Hx Ho Gt a k m e Ex=>?_;have Do:=ow_bx Ex ([Bh]:List Int) z z z;refine oE h fun Ef Cq h=>s_appF Cq te35 z m 3 Ah (News.rd (m.q Do 0 z)) z z k z z z z z z z fun Eh Cj Cy a k e m Du=>ul 11 k z fun k=>?_;exact ⟨_,_,_,_,_,_,k.p z,m.sl [1,2,3] z,Du,h⟩
     refine uc 1 k z fun k=>d_go [] mixo m z fun Ey hMd=>?_;have m:=hMd;have s:=Ext.refl ([]:List Nat) Ey;refine o2 h fun Am Ag Bd Ao h=>o2 h fun Aj Af Ba Al h=>dr [0,1,2,7,8,9,3,4,5,6,10,11,12,13,14,15] 16 [iF (Enc.ow_rd Ac) Ag,eF (hMd.q Ac 1 z) Ag 0,iF Aa Ao,eF (hMd.r Aa) Ao 0,iF (Enc.ow_rd Ab) Af,eF (hMd.q Ab 0 z) Af 0,iF Aa Al,eF (hMd.r Aa) Al 0] k z s fun k=>bS h k 98 z (fun _ h k=>?_) fun _ h k=>?_
     · refine dM [16,17,18,19] 4 z k z s fun a k=>bS h k 102 z (fun _ h k=>?_) fun _ h k=>?_
       · refine dM [20,21,22,23,24,25,26,27,28,29,30,31,32,33,34,35,36,37,38,39] 20 z k z s fun a k=>dD ?_;refine (nm_then ?_);refine oE h fun Hy Gv h=>gc 8 [iF (Enc.ow_rd Ac) Ag,eF (m.q Ac 1 z) Ag 0] k z fun k=>sB te35 m k z (by exact fC z fN) fun Gq Gh Hi a k m e Ev=>?_;have Ej:=ow_bx Ev ([Am]:List Int) z z z;refine oE h fun Fc Fg h=>s_appF Fg te35 z m 3 Ah (News.rd (m.q Ej 0 z)) z z k z z z z z z z fun Cn Ei Dk a k e m Co=>ul 11 k z fun k=>?_;exact ⟨_,_,_,_,_,_,k.p z,m.sl [1,2,3] z,Co,h⟩
       refine o2 h fun Fy Hr Hp Ic h=>o2 h fun Gy Hb Gl Hz h=>dr [20,21,22,27,28,29,23,24,25,26,30,31,32,33,34,35] 16 [iF (Enc.ow_rd Ac) Ag,eF (hMd.q Ac 1 z) Ag 0,iF Aa Ao,eF (hMd.r Aa) Ao 0,iF (Enc.ow_rd Ab) Af,eF (hMd.q Ab 0 z) Af 0,iF Aa Al,eF (hMd.r Aa) Al 0] k z s fun k=>bS h k 118 z (fun _ h k=>?_) fun _ h k=>?_
       · refine dM [36,37,38,39] 4 z k z s fun a k=>dD ?_;refine (nm_then ?_);refine cJ h k z (fun h=>?_) fun h=>?_
         · refine oE h fun Hg Hh h=>gc 7 [iF (Enc.ow_rd Ac) Ag,eF (m.q Ac 1 z) Ag 0] k z fun k=>sB te35 m k z (by exact fC z fN) fun Gn Gi Gx a k m e Bu=>?_;have Eu:=ow_bx Bu ([Am]:List Int) z z z;refine oE h fun Dj Eo h=>s_appF Eo te35 z m 3 Ah (News.rd (m.q Eu 0 z)) z z k z z z z z z z fun Ct By Dg a k e m Ca=>ul 11 k z fun k=>?_;exact ⟨_,_,_,_,_,_,k.p z,m.sl [1,2,3] z,Ca,h⟩
         refine oE h fun Gg Fz h=>gc 7 [iF (Enc.ow_rd Ab) Af,eF (m.q Ab 0 z) Af 0] k z fun k=>sB te35 m k z (by exact fC z fN) fun Ie If Hk a k m e Fe=>?_;have Ez:=ow_bx Fe ([Aj]:List Int) z z z;refine oE h fun Ec Fa h=>s_appF Fa te35 z m 3 Ah (News.rd (m.q Ez 0 z)) z z k z z z z z z z fun Bx Br Fd a k e m Dv=>ul 11 k z fun k=>?_;exact ⟨_,_,_,_,_,_,k.p z,m.sl [1,2,3] z,Dv,h⟩
       refine dM [36,37,38,39] 4 z k z s fun a k=>dD ?_;refine (nm_then ?_);refine oE h fun Ht Hu h=>gc 8 [iF (Enc.ow_rd Ab) Af,eF (m.q Ab 0 z) Af 0] k z fun k=>sB te35 m k z (by exact fC z fN) fun Gd Ih Gf a k m e Ek=>?_;have De:=ow_bx Ek ([Aj]:List Int) z z z;refine oE h fun Cp Ep h=>s_appF Ep te35 z m 3 Ah (News.rd (m.q De 0 z)) z z k z z z z z z z fun Ew Ci Bt a k e m Cc=>ul 11 k z fun k=>?_;exact ⟨_,_,_,_,_,_,k.p z,m.sl [1,2,3] z,Cc,h⟩
     refine o2 h fun Gc Fk Ia Gb h=>o2 h fun Hf Gj Fw Hc h=>dr [16,17,18,19,20,21,22,27,28,29,23,24,25,26,30,31,32,33,34,35] 20 [iF (Enc.ow_rd Ac) Ag,eF (hMd.q Ac 1 z) Ag 0,iF Aa Ao,eF (hMd.r Aa) Ao 0,iF (Enc.ow_rd Ab) Af,eF (hMd.q Ab 0 z) Af 0,iF Aa Al,eF (hMd.r Aa) Al 0] k z s fun k=>bS h k 118 z (fun _ h k=>?_) fun _ h k=>?_
     · refine dM [36,37,38,39] 4 z k z s fun a k=>dD ?_;refine (nm_then ?_);refine cJ h k z (fun h=>?_) fun h=>?_
       · refine oE h fun Fv Gr h=>gc 7 [iF (Enc.ow_rd Ac) Ag,eF (m.q Ac 1 z) Ag 0] k z fun k=>sB te35 m k z (by exact fC z fN) fun Hj Hv Id a k m e Cm=>?_;have Df:=ow_bx Cm ([Am]:List Int) z z z;refine oE h fun Ed Cz h=>s_appF Cz te35 z m 3 Ah (News.rd (m.q Df 0 z)) z z k z z z z z z z fun Dw Ee Cb a k e m Ds=>ul 11 k z fun k=>?_;exact ⟨_,_,_,_,_,_,k.p z,m.sl [1,2,3] z,Ds,h⟩
       refine oE h fun Ib Ft h=>gc 7 [iF (Enc.ow_rd Ab) Af,eF (m.q Ab 0 z) Af 0] k z fun k=>sB te35 m k z (by exact fC z fN) fun Hw Gu Ga a k m e Dc=>?_;have Bs:=ow_bx Dc ([Aj]:List Int) z z z;refine oE h fun Da Bz h=>s_appF Bz te35 z m 3 Ah (News.rd (m.q Bs 0 z)) z z k z z z z z z z fun Bw Db Ck a k e m Es=>ul 11 k z fun k=>?_;exact ⟨_,_,_,_,_,_,k.p z,m.sl [1,2,3] z,Es,h⟩
     refine dM [36,37,38,39] 4 z k z s fun a k=>dD ?_;refine (nm_then ?_);refine oE h fun Hl Gk h=>gc 8 [iF (Enc.ow_rd Ab) Af,eF (m.q Ab 0 z) Af 0] k z fun k=>sB te35 m k z (by exact fC z fN) fun Fl Ge Ig a k m e Dt=>?_;have Ea:=ow_bx Dt ([Aj]:List Int) z z z;refine oE h fun Cv Cs h=>s_appF Cs te35 z m 3 Ah (News.rd (m.q Ea 0 z)) z z k z z z z z z z fun Eb Cw Dr a k e m Dx=>ul 11 k z fun k=>?_;exact ⟨_,_,_,_,_,_,k.p z,m.sl [1,2,3] z,Dx,h⟩
   refine gc 7 [lF (Enc.ow_rd Ab)] k z fun k=>bS h k 39 z (fun _ h k=>?_) fun _ h k=>?_
   · refine ul 10 k z fun k=>?_;exact ⟨k.p z,m.sl [0,1,2] z,h⟩
   refine gl 7 [lF (Enc.ow_rd Ac)] k z fun k=>cJ h k z (fun h=>?_) fun h=>?_
   · refine uc 2 k z fun k=>?_;exact ⟨k.p z,m.sl [0,1,2] z,h⟩
   refine uc 12 k z fun k=>?_;cases h;exact finR1 k z (RV.tmp k z) ⟨_,Aq,z,m.ext,(m.v Ah 2 z),(m.fresh 2 z)⟩
 exact ⟨_,_,_,_,_,_,k.p z,m.sl [2,1,0] z,Ce,h⟩
theorem c_spec_l1Merge (fu:Nat) {w0:World} (Aa:List Int) (Ac:List Int) (Ab:Bool) {v2:Value} {F3:List Nat} (Ad:rd w0 F3 [v2] Aa) {v6:Value} {F7:List Nat} (Ae:rd w0 F7 [v6] Ac) {r:(List Int)}
    (h:d_spec_l1Merge fu Aa Ac Ab = some r):Calls Tryz.prog 201 #[v2,v6,.bool (Ab)] w0 fun e w=>∃ (v0:Value) (G0:List Nat),e = .returned (v0) ∧ Ext [] w0 w ∧ ow w G0 [v0] r ∧ (∀ b ∈ G0,w0.heap.size ≤ b) :=
  c_spec_l1Merge_R fu fu Aa Ac Ab Ad Ae h

end Go.Proofs.YthkaklkinepfkaaGreatDoor
