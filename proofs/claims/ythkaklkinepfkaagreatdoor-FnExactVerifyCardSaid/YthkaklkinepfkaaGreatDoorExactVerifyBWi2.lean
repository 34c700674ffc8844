/- FnExactVerify: the walks of functions that it reaches (ExactVerifyBWi,part 2). Printed by gen.py. -/
import Derived.Test.YthkaklkinepfkaaGreatDoorExactVerifyBWi1
set_option maxRecDepth 20000
set_option linter.unusedSimpArgs false
set_option linter.unusedVariables false
set_option linter.unnecessarySimpa false
namespace Go.Proofs.YthkaklkinepfkaaGreatDoor
open Go Go.RowKit
open Enc (rd ow)
open Arg (argv)
open Ret (retv)
open Go.Proofs.Tryz

theorem c_impl_MasterOf (fu) {w0} (r1) {Af F3} (Ai:rd w0 F3 Af r1) {r} (h:d_impl_MasterOf fu r1 = some r):cS 153 [.agg Af.toArray] w0 (.tuple #[.agg (Flat.e r.1).toArray,.bool (r.2)]):=by
 refine eg func153 z ntmps153 z fun k m=>?_;obtain ⟨v5,F6,v7,F8,v9,Al,rfl,rfl,Ab,Ae,Ac⟩:=Ai;refine uc 2 k z fun k=>s_box m k z z z z z z fun Ao Am a k m e Ad=>s_alloc m k zeroValue61 z z z z z fun Aq Ar a k m e Aj=>oE h fun Aa Ag h=>gl 8 [bA m 1 Ad z,bF m 1 Ad z] k z fun k=>cC k m call111 z (c_impl_TypeById fu _ _ (mkRequest (m.r Ab) (m.r Ae) (m.r Ac)) Ag) fun Ap e a k m=>pN 2 k z fun a k=>sT sizeOf61 m 0 Aj 0 k z z fun Ak a k e m Ah=>ul 4 k z fun k=>?_;cases h;exact finR2 k z (RV.cA k z ta61 (Ah.at (m.a 0 z) 0 7 z z z) z) (RV.tmp k z) ⟨z,m.ext⟩
theorem c_impl_isSide (fu) {w0} (n1) {r} (h:d_impl_isSide fu n1 = some r):cS 247 [I n1] w0 (.bool (r)):=by
 refine eg func247 z ntmps247 z fun k m=>oE h fun x2 Aa h=>uc 8 k z fun k=>cC k m call68 z (c_impl_in fu _ _ _  Aa) fun w5 e a k m=>ul 4 k z fun k=>fS h k m z z
theorem c_impl_PalletOk (fu) {w0} (x1) {r} (h:d_impl_PalletOk fu x1 = some r):cS 187 [.agg (Flat.e (x1)).toArray] w0 (.bool (r)):=by
 refine eg func187 z ntmps187 z fun k m=>uc 2 k z fun k=>s_box m k z z z z z z fun b2 w4 a k m e Ad=>oE h fun x5 Ah h=>gl 7 [bF m 0 Ad z] k z fun k=>cC k m call247 z (c_impl_isSide fu _  Ah) fun w9 e a k m=>pN 1 k z fun a k=>bS h k 6 z (fun _ h k=>?_) fun _ h k=>?_
 · refine oE h fun Ag Ae h=>gl 2 [bF m 0 Ad z] k z fun k=>cC k m call247 z (c_impl_isSide fu _  Ae) fun Ao e a k m=>pN 2 k z fun a k=>bS h k 11 z (fun _ h k=>?_) fun _ h k=>?_
   · refine oE h fun Aj Af h=>gl 2 [bF m 0 Ad z] k z fun k=>cC k m call247 z (c_impl_isSide fu _  Af) fun Am e a k m=>pN 2 k z fun a k=>bS h k 16 z (fun _ h k=>?_) fun _ h k=>?_
     · refine oE h fun Al Ai h=>gl 2 [bF m 0 Ad z] k z fun k=>cC k m call68 z (c_impl_in fu _ _ _  Ai) fun Ak e a k m=>ul 5 k z fun k=>fS h k m z z
     refine ul 8 k z fun k=>fS h k m z z
   refine ul 13 k z fun k=>fS h k m z z
 refine ul 18 k z fun k=>fS h k m z z
theorem c_slices_IndexFunc_impl_Pair_impl_Pair (fu) {w0} (Ac f5) {v2 F3} (Aa:rd w0 F3 [v2] Ac) {v6} (Af:FnOk1 Tryz.prog w0 v6 f5) {r} (h:d_slices_IndexFunc_impl_Pair_impl_Pair fu Ac f5 = some r):cS 278 [v2,v6] w0 (I r):=by
 refine eg func278 z ntmps278 z fun k m=>?_;obtain ⟨Al,Ah,rfl,Ai,Aj⟩:=Af;refine gc 14 [lF Aa] k z fun k=>lG (fun n a w=>∃ Ab,K 19 [(0,v2),(1,(.func (.func Al) #[] Ah.toArray)),(7,I ((Ac.length:Int))),(8,I Ab)] a ∧ St [] w0 w [] ∧ d_slices_IndexFunc_impl_Pair_impl_Pair_L1 fu Ac f5 n Ab = some r) ?_ fu ?_
 · rintro Am a Ap ⟨Ab,k,m,h⟩;refine uc 6 k z fun k=>cJ h k z (fun h=>?_) fun h=>?_
   · refine o2 h fun Ar Ad Aq Ae h=>gc 17 [iF Aa Ad,eA (m.r Aa) Ad] k z fun k=>s_callv k Ai z z z z z z (Aj _ _ _ _ m.ext z Ae) fun As Ao hR=>?_;obtain ⟨rfl,e⟩:=hR;refine ⟨_,z,fun a k=>?_⟩;have m:=m.step e;refine ul 2 k z fun k=>cJ h k z (fun h=>?_) fun h=>?_
     · refine uc 12 k z fun k=>fS h k m z z
     refine uc 8 k z fun k=>?_;exact ⟨_,k.p z,m.sl [] z,h⟩
   refine uc 11 k z fun k=>fS h k m z z
 exact ⟨_,k.p z,m.sl [] z,h⟩
theorem c_slices_ContainsFunc_impl_Pair_impl_Pair (fu) {w0} (Ab f5) {v2 F3} (Aa:rd w0 F3 [v2] Ab) {v6} (Ac:FnOk1 Tryz.prog w0 v6 f5) {r} (h:d_slices_ContainsFunc_impl_Pair_impl_Pair fu Ab f5 = some r):cS 221 [v2,v6] w0 (.bool (r)):=by
 refine eg func221 z ntmps221 z fun k m=>?_;obtain ⟨Al,Ak,rfl,Ag,Ah⟩:=Ac;refine oE h fun Ai Ae h=>uc 9 k z fun k=>cC k m call278 z (c_slices_IndexFunc_impl_Pair_impl_Pair fu _ _ (m.r Aa) ⟨_,_,z,Ag,fun w Ad Af r e=>Ah w Ad Af r (m.ext.trans e (by simp))⟩ Ae) fun Aj e a k m=>ul 5 k z fun k=>fS h k m z z
theorem c_impl_BoundsOk_1 (fu) {w0} (p1) {r} (h:d_impl_BoundsOk_1 fu p1 = some r):cS 222 [.agg (Flat.e (p1)).toArray] w0 (.bool (r)):=by
 refine eg func222 z ntmps222 z fun k m=>uc 2 k z fun k=>s_box m k z z z z z z fun b2 w4 a k m e Ab=>oE h fun x5 Ad h=>gl 7 [bF m 0 Ab z] k z fun k=>cC k m call68 z (c_impl_in fu _ _ _  Ad) fun w9 e a k m=>pN 2 k z fun a k=>bS h k 7 z (fun _ h k=>?_) fun _ h k=>?_
 · refine ul 9 k z fun k=>fS h k m z z
 refine oE h fun Ae Ac h=>gl 2 [bF m 0 Ab z] k z fun k=>cC k m call68 z (c_impl_in fu _ _ _  Ac) fun Af e a k m=>ul 6 k z fun k=>fS h k m z z
theorem c_slices_ContainsFunc_impl_Type_impl_Type (fu) {w0} (Ab f5) {v2 F3} (Aa:rd w0 F3 [v2] Ab) {v6} (Ac:FnOk1 Tryz.prog w0 v6 f5) {r} (h:d_slices_ContainsFunc_impl_Type_impl_Type fu Ab f5 = some r):cS 160 [v2,v6] w0 (.bool (r)):=by
 refine eg func160 z ntmps160 z fun k m=>?_;obtain ⟨Al,Ak,rfl,Ag,Ah⟩:=Ac;refine oE h fun Ai Ae h=>uc 9 k z fun k=>cC k m call184 z (c_slices_IndexFunc_impl_Type_impl_Type fu _ _ (m.r Aa) ⟨_,_,z,Ag,fun w Ad Af r e=>Ah w Ad Af r (m.ext.trans e (by simp))⟩ Ae) fun Aj e a k m=>ul 5 k z fun k=>fS h k m z z
theorem c_impl_TypeOk (fu) {w0} (x1) {r} (h:d_impl_TypeOk fu x1 = some r):cS 224 [.agg (Flat.e (x1)).toArray] w0 (.bool (r)):=by
 refine eg func224 z ntmps224 z fun k m=>uc 2 k z fun k=>s_box m k z z z z z z fun b2 w4 a k m e Aa=>oE h fun x5 Al h=>gl 7 [bF m 0 Aa z] k z fun k=>cC k m call68 z (c_impl_in fu _ _ _  Al) fun w9 e a k m=>pN 1 k z fun a k=>bS h k 6 z (fun _ h k=>?_) fun _ h k=>?_
 · refine oE h fun Ak Ap h=>gl 2 [bF m 0 Aa z] k z fun k=>cC k m call247 z (c_impl_isSide fu _  Ap) fun Aw e a k m=>pN 2 k z fun a k=>bS h k 11 z (fun _ h k=>?_) fun _ h k=>?_
   · refine oE h fun At Aj h=>gl 2 [bF m 0 Aa z] k z fun k=>cC k m call247 z (c_impl_isSide fu _  Aj) fun Ay e a k m=>pN 2 k z fun a k=>bS h k 16 z (fun _ h k=>?_) fun _ h k=>?_
     · refine oE h fun Ao Ai h=>gl 2 [bF m 0 Aa z] k z fun k=>cC k m call247 z (c_impl_isSide fu _  Ai) fun Ax e a k m=>pN 2 k z fun a k=>bS h k 21 z (fun _ h k=>?_) fun _ h k=>?_
       · refine oE h fun Ar Ah h=>gl 2 [bF m 0 Aa z] k z fun k=>cC k m call68 z (c_impl_in fu _ _ _  Ah) fun Ba e a k m=>pN 2 k z fun a k=>bS h k 26 z (fun _ h k=>?_) fun _ h k=>?_
         · refine oE h fun Am As h=>gl 2 [bF m 0 Aa z] k z fun k=>cC k m call68 z (c_impl_in fu _ _ _  As) fun Au e a k m=>pN 2 k z fun a k=>bS h k 31 z (fun _ h k=>?_) fun _ h k=>?_
           · refine oE h fun Az Aq h=>gl 2 [bF m 0 Aa z] k z fun k=>cC k m call68 z (c_impl_in fu _ _ _  Aq) fun Av e a k m=>ul 5 k z fun k=>fS h k m z z
           refine ul 8 k z fun k=>fS h k m z z
         refine ul 13 k z fun k=>fS h k m z z
       refine ul 18 k z fun k=>fS h k m z z
     refine ul 23 k z fun k=>fS h k m z z
   refine ul 28 k z fun k=>fS h k m z z
 refine ul 33 k z fun k=>fS h k m z z
theorem c_impl_BoundsOk_2 (fu) {w0} (t1) {r} (h:d_impl_BoundsOk_2 fu t1 = some r):cS 223 [.agg (Flat.e (t1)).toArray] w0 (.bool (r)):=by
 refine eg func223 z ntmps223 z fun k m=>uc 2 k z fun k=>s_box m k z z z z z z fun b2 w4 a k m e Ab=>oE h fun x5 Aa h=>gl 6 [bA m 0 Ab z] k z fun k=>cC k m call224 z (c_impl_TypeOk fu (t1:Typ)  Aa) fun w9 e a k m=>ul 5 k z fun k=>fS h k m z z
theorem c_impl_ItemOk (fu) {w0} (x1) {r} (h:d_impl_ItemOk fu x1 = some r):cS 225 [.agg (Flat.e (x1)).toArray] w0 (.bool (r)):=by
 refine eg func225 z ntmps225 z fun k m=>uc 2 k z fun k=>s_box m k z z z z z z fun b2 w4 a k m e Aa=>oE h fun x5 Al h=>gl 7 [bF m 0 Aa z] k z fun k=>cC k m call68 z (c_impl_in fu _ _ _  Al) fun w9 e a k m=>pN 1 k z fun a k=>bS h k 6 z (fun _ h k=>?_) fun _ h k=>?_
 · refine oE h fun Ak Ap h=>gl 2 [bF m 0 Aa z] k z fun k=>cC k m call247 z (c_impl_isSide fu _  Ap) fun Aw e a k m=>pN 2 k z fun a k=>bS h k 11 z (fun _ h k=>?_) fun _ h k=>?_
   · refine oE h fun At Aj h=>gl 2 [bF m 0 Aa z] k z fun k=>cC k m call247 z (c_impl_isSide fu _  Aj) fun Ay e a k m=>pN 2 k z fun a k=>bS h k 16 z (fun _ h k=>?_) fun _ h k=>?_
     · refine oE h fun Ao Ai h=>gl 2 [bF m 0 Aa z] k z fun k=>cC k m call247 z (c_impl_isSide fu _  Ai) fun Ax e a k m=>pN 2 k z fun a k=>bS h k 21 z (fun _ h k=>?_) fun _ h k=>?_
       · refine oE h fun Ar Ah h=>gl 2 [bF m 0 Aa z] k z fun k=>cC k m call68 z (c_impl_in fu _ _ _  Ah) fun Ba e a k m=>pN 2 k z fun a k=>bS h k 26 z (fun _ h k=>?_) fun _ h k=>?_
         · refine oE h fun Am As h=>gl 2 [bF m 0 Aa z] k z fun k=>cC k m call68 z (c_impl_in fu _ _ _  As) fun Au e a k m=>pN 2 k z fun a k=>bS h k 31 z (fun _ h k=>?_) fun _ h k=>?_
           · refine oE h fun Az Aq h=>gl 2 [bF m 0 Aa z] k z fun k=>cC k m call68 z (c_impl_in fu _ _ _  Aq) fun Av e a k m=>ul 5 k z fun k=>fS h k m z z
           refine ul 8 k z fun k=>fS h k m z z
         refine ul 13 k z fun k=>fS h k m z z
       refine ul 18 k z fun k=>fS h k m z z
     refine ul 23 k z fun k=>fS h k m z z
   refine ul 28 k z fun k=>fS h k m z z
 refine ul 33 k z fun k=>fS h k m z z
theorem c_impl_BoundsOk (fu) {w0} (r1) {As F3} (Bf:rd w0 F3 As r1) {r} (h:d_impl_BoundsOk fu r1 = some r):cS 154 [.agg As.toArray] w0 (.bool (r)):=by
 refine eg func154 z ntmps154 z fun k m=>?_;obtain ⟨v5,F6,v7,F8,v9,Cc,rfl,rfl,Am,Ao,Ae⟩:=Bf;refine uc 2 k z fun k=>s_box m k z z z z z z fun Al Ar a k m e Aa=>ul 3 k z fun k=>cg (fun a w=>K 70 [(1,pt Al)] a ∧ St [] w0 w [([Al],Ar)] ∧ d_impl_BoundsOk_J2 fu r1 = some r) ?_ ?_
 · rintro a Bv ⟨k,m,h⟩;refine oE h fun Ck At h=>gc 5 [bF m 0 Aa z] k z fun k=>cC k m call221 z (c_slices_ContainsFunc_impl_Pair_impl_Pair fu _ _ (m.r Am) ⟨222,[],z,call222,fun w Bs Bz r e Bj hx=>by subst Bj; have m:=m.step e; exact c_impl_BoundsOk_1 fu _  hx⟩ At) fun Br e a k m=>ul 2 k z fun k=>cI h k rfl (fun Be h=>?_) fun Be h=>?_
   · refine uc 7 k z fun k=>fS h k m z z
   refine uc 2 k z fun k=>cg (fun a w=>K 70 [(1,pt Al)] a ∧ St [] w0 w [([Al],Ar)] ∧ d_impl_BoundsOk_J1 fu r1 = some r) ?_ ?_
   · rintro a Bx ⟨k,m,h⟩;refine gc 15 [bF m 0 Aa z,lF Ae] k z fun k=>lG (fun n a w=>∃ Ak Aj,K 70 [(3,I Ak),(54,v9),(55,I ((r1.fItems.length:Int))),(56,I Aj)] a ∧ St [] w0 w [] ∧ d_impl_BoundsOk_L1 fu r1 n Ak Aj = some r) ?_ fu ?_
     · rintro Cd a Ci ⟨Ak,Aj,k,m,h⟩;refine uc 6 k z fun k=>cJ h k z (fun h=>?_) fun h=>?_
       · refine oE h fun Ab Aq h=>gc 8 [iF Ae Aq,eA (m.r Ae) Aq] k z fun k=>s_alloc m k zeroValue59 z z z z z fun Bu Ch a k m e Ax=>sT sizeOf59 m 0 Ax 0 k z z fun Ce a k e m Ap=>oE h fun Cg Au h=>gl 6 [bA m 0 Ap z] k z fun k=>cC k m call225 z (c_impl_ItemOk fu (Ab:Item)  Au) fun Cb e a k m=>ul 3 k z fun k=>cJ h k z (fun h=>?_) fun h=>?_
         · refine uc 12 k z fun k=>fS h k m z z
         refine gc 16 [bF m 0 Ap z] k z fun k=>?_;exact ⟨_,_,k.p z,m.sl [] z,h⟩
       refine uc 13 k z fun k=>fS h k m z z
     exact ⟨_,_,k.p z,m.sl [] z,h⟩
   refine oE h fun Av Bh h=>gc 5 [bF m 0 Aa z,lF Ao] k z fun k=>cC k m call68 z (c_impl_in fu _ _ _  Bh) fun Ca e a k m=>pN 2 k z fun a k=>bS h k 36 z (fun _ h k=>?_) fun _ h k=>?_
   · refine ul 26 k z fun k=>fS h k m z z
   refine oE h fun Az Bg h=>gl 2 [bF m 0 Aa z] k z fun k=>cC k m call160 z (c_slices_ContainsFunc_impl_Type_impl_Type fu _ _ (m.r Ao) ⟨223,[],z,call223,fun w Cj Cl r e Ba hx=>by subst Ba; have m:=m.step e; exact c_impl_BoundsOk_2 fu _  hx⟩ Bg) fun Bt e a k m=>pN 2 k rfl fun a k=>bS h k 41 z (fun _ h k=>?_) fun _ h k=>?_
   · refine ul 21 k z fun k=>fS h k m z z
   refine oE h fun Ay Bb h=>gl 2 [bF m 0 Aa z] k z fun k=>cC k m call68 z (c_impl_in fu _ _ _  Bb) fun Cm e a k m=>pN 3 k z fun a k=>bS h k 47 z (fun _ h k=>?_) fun _ h k=>?_
   · refine ul 15 k z fun k=>fS h k m z z
   refine gl 7 [bF m 0 Aa z,lF Ae] k z fun k=>cJ h k z (fun h=>?_) fun h=>?_
   · refine uc 7 k z fun k=>fS h k m z z
   refine uc 2 k z fun k=>?_;exact ⟨k.p z,m.sl [0] z,h⟩
 refine oE h fun Bd Bm h=>gc 4 [bF m 0 Aa z] k z fun k=>cC k m call68 z (c_impl_in fu _ _ _  Bm) fun Bw e a k m=>pN 2 k z fun a k=>bS h k 10 z (fun _ h k=>?_) fun _ h k=>?_
 · refine ul 27 k z fun k=>fS h k m z z
 refine oE h fun Bc Bo h=>gl 2 [bA m 0 Aa z] k z fun k=>cC k m call187 z (c_impl_PalletOk fu (r1.fPallet:Pallet)  Bo) fun Bq e a k m=>pN 3 k z fun a k=>bS h k 16 z (fun _ h k=>?_) fun _ h k=>?_
 · refine ul 21 k z fun k=>fS h k m z z
 refine oE h fun Bn Bk h=>gl 2 [bF m 0 Aa z] k z fun k=>cC k m call68 z (c_impl_in fu _ _ _  Bk) fun By e a k m=>pN 3 k z fun a k=>bS h k 22 z (fun _ h k=>?_) fun _ h k=>?_
 · refine ul 15 k z fun k=>fS h k m z z
 refine gl 7 [bF m 0 Aa z,lF Am] k z fun k=>cJ h k z (fun h=>?_) fun h=>?_
 · refine uc 7 k z fun k=>fS h k m z z
 refine uc 2 k z fun k=>?_;exact ⟨k.p z,m.sl [0] z,h⟩
theorem c_impl_namesOk_1 (fu) {w0} (q1 x2) {b3} (Aa:bx w0 b3 [I x2.fId,I x2.fW,I x2.fH,I x2.fD,I x2.fTare,I x2.fGram,I x2.fCost] 61) {r} (h:d_impl_namesOk_1 fu q1 x2 = some r):cS 226 [.agg (Flat.e (q1)).toArray,pt b3] w0 (.bool (r)):=by
 refine eg func226 z ntmps226 z fun k m=>uc 2 k z fun k=>s_box m k z z z z z z fun b5 w7 a k m e Ab=>gl 14 [bF m 0 Ab z,pF (r:=[]) (Aa.at (m.a00 Aa.lt1) 0 1 z z z)] k z fun k=>fS h k m z z
theorem c_impl_namesOk_2 (fu) {w0} (q1 x2) {b3} (Aa:bx w0 b3 [I x2.fId,I x2.fW,I x2.fH,I x2.fD,I x2.fGram,I x2.fClass,I x2.fCount] 59) {r} (h:d_impl_namesOk_2 fu q1 x2 = some r):cS 227 [.agg (Flat.e (q1)).toArray,pt b3] w0 (.bool (r)):=by
 refine eg func227 z ntmps227 z fun k m=>uc 2 k z fun k=>s_box m k z z z z z z fun b5 w7 a k m e Ab=>gl 14 [bF m 0 Ab z,pF (r:=[]) (Aa.at (m.a00 Aa.lt1) 0 1 z z z)] k z fun k=>fS h k m z z
theorem c_slices_IndexFunc_impl_Item_impl_Item (fu) {w0} (Ac f5) {v2 F3} (Aa:rd w0 F3 [v2] Ac) {v6} (Af:FnOk1 Tryz.prog w0 v6 f5) {r} (h:d_slices_IndexFunc_impl_Item_impl_Item fu Ac f5 = some r):cS 230 [v2,v6] w0 (I r):=by
 refine eg func230 z ntmps230 z fun k m=>?_;obtain ⟨Al,Ah,rfl,Ai,Aj⟩:=Af;refine gc 14 [lF Aa] k z fun k=>lG (fun n a w=>∃ Ab,K 19 [(0,v2),(1,(.func (.func Al) #[] Ah.toArray)),(7,I ((Ac.length:Int))),(8,I Ab)] a ∧ St [] w0 w [] ∧ d_slices_IndexFunc_impl_Item_impl_Item_L1 fu Ac f5 n Ab = some r) ?_ fu ?_
 · rintro Am a Ap ⟨Ab,k,m,h⟩;refine uc 6 k z fun k=>cJ h k z (fun h=>?_) fun h=>?_
   · refine o2 h fun Ar Ad Aq Ae h=>gc 17 [iF Aa Ad,eA (m.r Aa) Ad] k z fun k=>s_callv k Ai z z z z z z (Aj _ _ _ _ m.ext z Ae) fun As Ao hR=>?_;obtain ⟨rfl,e⟩:=hR;refine ⟨_,z,fun a k=>?_⟩;have m:=m.step e;refine ul 2 k z fun k=>cJ h k z (fun h=>?_) fun h=>?_
     · refine uc 12 k z fun k=>fS h k m z z
     refine uc 8 k z fun k=>?_;exact ⟨_,k.p z,m.sl [] z,h⟩
   refine uc 11 k z fun k=>fS h k m z z
 exact ⟨_,k.p z,m.sl [] z,h⟩
theorem c_slices_ContainsFunc_impl_Item_impl_Item (fu) {w0} (Ab f5) {v2 F3} (Aa:rd w0 F3 [v2] Ab) {v6} (Ac:FnOk1 Tryz.prog w0 v6 f5) {r} (h:d_slices_ContainsFunc_impl_Item_impl_Item fu Ab f5 = some r):cS 157 [v2,v6] w0 (.bool (r)):=by
 refine eg func157 z ntmps157 z fun k m=>?_;obtain ⟨Al,Ak,rfl,Ag,Ah⟩:=Ac;refine oE h fun Ai Ae h=>uc 9 k z fun k=>cC k m call230 z (c_slices_IndexFunc_impl_Item_impl_Item fu _ _ (m.r Aa) ⟨_,_,z,Ag,fun w Ad Af r e=>Ah w Ad Af r (m.ext.trans e (by simp))⟩ Ae) fun Aj e a k m=>ul 5 k z fun k=>fS h k m z z
theorem c_impl_namesOk_3 (fu) {w0} (p1 x2) {v5 F6 v8 F9 Ad Ae b3} (Ab:bx w0 b3 (cR x2 v5 v8 Ad) 55) (Af:rd w0 F6 [v5] x2.fPairs) (Aj:rd w0 F9 [v8] x2.fTypes) (Ai:rd w0 Ae [Ad] x2.fItems) {r} (h:d_impl_namesOk_3 fu p1 x2 = some r):cS 228 [.agg (Flat.e (p1)).toArray,pt b3] w0 (.bool (r)):=by
 refine eg func228 z ntmps228 z fun k m=>uc 2 k z fun k=>s_box m k z z z z z z fun Ah Ag a k m e Ac=>gl 11 [bF m 0 Ac z,pF (r:=[]) (Ab.at (m.a00 Ab.lt1) 5 1 z z z)] k z fun k=>bS h k 9 z (fun _ h k=>?_) fun _ h k=>?_
 · refine ul 10 k z fun k=>fS h k m z z
 refine gl 10 [bF m 0 Ac z,pF (r:=[]) (Ab.at (m.a00 Ab.lt1) 5 1 z z z)] k z fun k=>fS h k m z z
theorem c_impl_namesOk (fu) {w0} (r1) {As F3} (Bd:rd w0 F3 As r1) {r} (h:d_impl_namesOk fu r1 = some r):cS 155 [.agg As.toArray] w0 (.bool (r)):=by
 refine eg func155 z ntmps155 z fun k m=>?_;obtain ⟨v5,F6,v7,F8,v9,Ch,rfl,rfl,Ah,Aa,Ab⟩:=Bd;refine uc 2 k z fun k=>s_box m k z z z z z z fun Ag Am a k m e Ac=>gl 13 [bF m 0 Ac z,lF Aa] k z fun k=>lG (fun n a w=>∃ Al,K 59 [(1,pt Ag),(10,v7),(11,I ((r1.fTypes.length:Int))),(12,I Al)] a ∧ St [] w0 w [([Ag],Am)] ∧ d_impl_namesOk_L2 fu r1 n Al = some r) ?_ fu ?_
 · rintro Bs a Cl ⟨Al,k,m,h⟩;refine uc 6 k z fun k=>cJ h k z (fun h=>?_) fun h=>?_
   · refine oE h fun Af Ao h=>gc 9 [iF Aa Ao,eA (m.r Aa) Ao] k z fun k=>s_alloc m k zeroValue61 z z z z z fun Bf Bp a k m e Ay=>pN 1 k z fun a k=>sT sizeOf61 m 0 Ay 0 k z z fun Ci a k e m Au=>oE h fun Cr Av h=>gl 7 [bF m 1 Ac z] k z fun k=>s_slTo Aa Av k ts52 z z z z z z fun Cj a k Aq=>pN 1 k z fun a k=>oE h fun Bq Ax h=>cC k m call160 z (c_slices_ContainsFunc_impl_Type_impl_Type fu _ _ (m.r Aq) ⟨226,[pt Bf],z,call226,fun w Cd Cm r e Bb hx=>by subst Bb; have m:=m.step e; exact c_impl_namesOk_1 fu _ _ (Au.agr (m.a 0 rfl) (by simp)) hx⟩ Ax) fun Bt e a k m=>ul 2 k z fun k=>cI h k rfl (fun Bi h=>?_) fun Bi h=>?_
     · refine uc 11 k z fun k=>fS h k m z z
     refine uc 8 k z fun k=>?_;exact ⟨_,k.p z,m.sl [1] z,h⟩
   refine gc 15 [bF m 0 Ac z,lF Ab] k z fun k=>lG (fun n a w=>∃ Ai,K 59 [(1,pt Ag),(25,v9),(26,I ((r1.fItems.length:Int))),(27,I Ai)] a ∧ St [] w0 w [([Ag],Am)] ∧ d_impl_namesOk_L1 fu r1 n Ai = some r) ?_ fu ?_
   · rintro Be a Bu ⟨Ai,k,m,h⟩;refine uc 6 k z fun k=>cJ h k z (fun h=>?_) fun h=>?_
     · refine uc 2 k z fun k=>cg (fun a w=>K 59 [(1,pt Ag),(25,v9),(26,I ((r1.fItems.length:Int))),(27,I Ai)] a ∧ St [] w0 w [([Ag],Am)] ∧ d_impl_namesOk_J1 fu (d_impl_namesOk_L1 fu r1 Be) Ai = some r) ?_ ?_
       · rintro a Cg ⟨k,m,h⟩;refine uc 5 k z fun k=>?_;exact ⟨_,k.p z,m.sl [0] z,h⟩
       refine oE h fun Ad Ar h=>gc 6 [iF Ab Ar,eA (m.r Ab) Ar] k z fun k=>s_alloc m k zeroValue59 z z z z z fun Bm Cq a k m e Bg=>pN 1 k z fun a k=>sT sizeOf59 m 0 Bg 0 k z z fun Cs a k e m At=>gl 10 [bF m 0 At z,bF m 1 Ac z] k z fun k=>bS h k 37 z (fun _ h k=>?_) fun _ h k=>?_
       · refine ul 21 k z fun k=>fS h k m z z
       refine oE h fun Ce Az h=>gl 3 [bF m 1 Ac z] k z fun k=>s_slTo Ab Az k ts53 z z z z z z fun By a k Ap=>pN 1 k z fun a k=>oE h fun Cp Bj h=>cC k m call157 z (c_slices_ContainsFunc_impl_Item_impl_Item fu _ _ (m.r Ap) ⟨227,[pt Bm],z,call227,fun w Ck Co r e Bh hx=>by subst Bh; have m:=m.step e; exact c_impl_namesOk_2 fu _ _ (At.agr (m.a 0 rfl) (by simp)) hx⟩ Bj) fun Cb e a k m=>pN 1 k rfl fun a k=>ul 2 k z fun k=>cI h k rfl (fun Bn h=>?_) fun Bn h=>?_
       · refine uc 11 k z fun k=>fS h k m z z
       refine uc 3 k z fun k=>?_;exact ⟨k.p z,m.sl [1] z,h⟩
     refine oE h fun Ae Bk h=>gc 8 [bA m 0 Ac z] k z fun k=>cC k m call153 z (c_impl_MasterOf fu _ (mkRequest (m.r Ah) (m.r Aa) (m.r Ab)) Bk) fun Bw e a k m=>pN 3 k z fun a k=>s_alloc m k zeroValue61 z z z z z fun Ca Bx a k m e Aw=>sT sizeOf61 m 0 Aw 0 k z z fun Bv a k e m Bz=>ul 7 k z fun k=>bS h k 52 z (fun _ h k=>?_) fun _ h k=>?_
     · refine oE h fun Cn Bl h=>gl 3 [bF m 1 Ac z] k z fun k=>cC k m call221 z (c_slices_ContainsFunc_impl_Pair_impl_Pair fu _ _ (m.r Ah) ⟨228,[pt Ag],z,call228,fun w Ct Br r e Bo hx=>by subst Bo; have m:=m.step e; exact c_impl_namesOk_3 fu _ _ (Ac.agr (m.a 1 rfl) (by simp)) (m.r Ah) (m.r Aa) (m.r Ab) hx⟩ Bl) fun Cc e a k m=>pN 3 k rfl fun a k=>ul 3 k z fun k=>fS h k m rfl rfl
     refine ul 10 k z fun k=>fS h k m z z
   exact ⟨_,k.p z,m.sl [0] z,h⟩
 exact ⟨_,k.p z,m.sl [0] z,h⟩
theorem c_slices_Index_impl_Pair_impl_Pair (fu) {w0} (Ac v5) {v2 F3} (Ab:rd w0 F3 [v2] Ac) {r} (h:d_slices_Index_impl_Pair_impl_Pair fu Ac v5 = some r):cS 302 [v2,.agg (Flat.e (v5)).toArray] w0 (I r):=by
 refine eg func302 z ntmps302 z fun k m=>uc 2 k z fun k=>s_box m k z z z z z z fun b6 w9 a k m e Ai=>gl 12 [lF Ab] k z fun k=>lG (fun n a w=>∃ Aa,K 19 [(0,v2),(3,pt b6),(7,I ((Ac.length:Int))),(8,I Aa)] a ∧ St [] w0 w [([b6],w9)] ∧ d_slices_Index_impl_Pair_impl_Pair_L1 fu Ac v5 n Aa = some r) ?_ fu ?_
 · rintro Ak a Aj ⟨Aa,k,m,h⟩;refine uc 6 k z fun k=>cJ h k z (fun h=>?_) fun h=>?_
   · refine uc 11 k z fun k=>d_go [] mixo m z fun Ae hMd=>?_;have m:=hMd;have s:=Ext.refl ([]:List Nat) Ae;refine oE h fun Ah Ad h=>dr [1,2,0,3,4] 5 [bA hMd 0 Ai z,iF Ab Ad,eA (hMd.r Ab) Ad] k z s fun k=>dT k 5 z z s (fun w s=>r_eqs seq98 (x:=v5) (y:=Ah) k z z z z z) fun a k=>dD ((nm_then ?_));refine cJ h k z (fun h=>?_) fun h=>?_
     · refine uc 12 k z fun k=>fS h k m z z
     refine uc 8 k z fun k=>?_;exact ⟨_,k.p z,m.sl [0] z,h⟩
   refine uc 11 k z fun k=>fS h k m z z
 exact ⟨_,k.p z,m.sl [0] z,h⟩
theorem c_slices_Contains_impl_Pair_impl_Pair (fu) {w0} (Ab v5) {v2 F3} (Aa:rd w0 F3 [v2] Ab) {r} (h:d_slices_Contains_impl_Pair_impl_Pair fu Ab v5 = some r):cS 279 [v2,.agg (Flat.e (v5)).toArray] w0 (.bool (r)):=by
 refine eg func279 z ntmps279 z fun k m=>uc 2 k z fun k=>s_box m k z z z z z z fun b6 w9 a k m e Ad=>oE h fun Ae Ac h=>gl 7 [bA m 0 Ad z] k z fun k=>cC k m call302 z (c_slices_Index_impl_Pair_impl_Pair fu _ (v5:Pair) (m.r Aa) Ac) fun Af e a k m=>ul 5 k z fun k=>fS h k m z z
theorem c_impl_Beside (fu) {w0} (Aa a5 b6) {v2 F3} (Ab:rd w0 F3 [v2] Aa) {r} (h:d_impl_Beside fu Aa a5 b6 = some r):cS 229 [v2,I a5,I b6] w0 (.bool (r)):=by
 refine eg func229 z ntmps229 z fun k m=>uc 10 k z fun k=>sv k z (r_build bt98 k (cs:=#[I a5,I b6]) (ps:=[(0,.tmp 8),(1,.tmp 9)]) z z (by kernel_rfl)) fun a k=>oE h fun x7 Ac h=>cC k m call279 z (c_slices_Contains_impl_Pair_impl_Pair fu _ (((⟨a5,b6⟩:Pair)):Pair) (m.r Ab) Ac) fun Ad e a k m=>ul 4 k z fun k=>fS h k m z z
theorem c_impl_TableOk (fu) {w0} (Ad Aa) {v2 F3} (Ac:rd w0 F3 [v2] Ad) {r} (h:d_impl_TableOk fu Ad Aa = some r):cS 156 [v2,I Aa] w0 (.bool (r)):=by
 refine eg func156 z ntmps156 z fun k m=>oE h fun x6 Ak h=>uc 9 k z fun k=>cC k m call68 z (c_impl_in fu _ _ _  Ak) fun w9 e a k m=>ul 3 k z fun k=>cJ h k z (fun h=>?_) fun h=>?_
 · refine uc 7 k z fun k=>fS h k m z z
 refine uc 10 k z fun k=>lG (fun n a w=>∃ Ab,K 34 [(0,v2),(1,I Aa),(10,I Aa),(11,I Ab)] a ∧ St [] w0 w [] ∧ d_impl_TableOk_L2 fu Ad Aa n Ab = some r) ?_ fu ?_
 · rintro Ag a Aw ⟨Ab,k,m,h⟩;refine uc 6 k z fun k=>cJ h k z (fun h=>?_) fun h=>?_
   · refine oE h fun Ay Af h=>uc 16 k z fun k=>cC k m call229 z (c_impl_Beside fu _ _ _ (m.r Ac) Af) fun Au e a k m=>ul 3 k z fun k=>cJ h k z (fun h=>?_) fun h=>?_
     · refine uc 12 k z fun k=>fS h k m z z
     refine uc 9 k z fun k=>lG (fun n a w=>∃ Ae,K 34 [(0,v2),(1,I Aa),(5,I Ab),(10,I Aa),(11,I Ab),(19,I Aa),(20,I Ae)] a ∧ St [] w0 w [] ∧ d_impl_TableOk_L1 fu (d_impl_TableOk_L2 fu Ad Aa Ag) Ad Aa Ab n Ae = some r) ?_ fu ?_
     · rintro Ar a Aq ⟨Ae,k,m,h⟩;refine uc 6 k z fun k=>cJ h k z (fun h=>?_) fun h=>?_
       · refine oE h fun As Aj h=>uc 15 k z fun k=>cC k m call229 z (c_impl_Beside fu _ _ _ (m.r Ac) Aj) fun At e a k m=>pN 3 k z fun a k=>oE h fun Ax Am h=>cC k m call229 z (c_impl_Beside fu _ _ _ (m.r Ac) Am) fun Av e a k m=>sv k z (r_neb k underlying4 z z z) fun a k=>ul 2 k z fun k=>cJ h k z (fun h=>?_) fun h=>?_
         · refine uc 15 k z fun k=>fS h k m z z
         refine uc 8 k z fun k=>?_;exact ⟨_,k.p z,m.sl [] z,h⟩
       refine uc 11 k z fun k=>?_;exact ⟨_,k.p z,m.sl [] z,h⟩
     exact ⟨_,k.p z,m.sl [] z,h⟩
   refine uc 11 k z fun k=>fS h k m z z
 exact ⟨_,k.p z,m.sl [] z,h⟩
theorem c_slices_Sort_int_int (fu:Nat) {w0:World} (x1:List Int) {v2:Value} {F3:List Nat} (Aa:ow w0 F3 [v2] x1) {r:List Int}
    (h:d_slices_Sort_int_int fu x1 = some r) :
    Calls Tryz.prog 97 #[v2] w0 fun e w=>∃ H:List Nat,e = .returned (.tuple #[]) ∧ Ext F3 w0 w ∧ (∀ b ∈ H,b ∈ F3 ∨ w0.heap.size ≤ b) ∧ ow w H [v2] r :=
  (c_sortInt (fun blk off cap zs w=>Tryz.slices_Sort_int blk off cap zs w) (fun p cap w=>Tryz.slices_Sort_int_none p cap w) x1 Aa h).mono fun e w ⟨h1,h2,h3⟩=>⟨_,h1,h2,fun b hb=>.inl hb,h3⟩

theorem c_impl_Fits (fu) {w0} (x1 t2) {r} (h:d_impl_Fits fu x1 t2 = some r):cS 159 [.agg (Flat.e (x1)).toArray,.agg (Flat.e (t2)).toArray] w0 (.bool (r)):=by
 refine eg func159 z ntmps159 z fun k m=>uc 2 k z fun k=>s_box m k z z z z z z fun b3 w5 a k m e Ag=>s_box m k z z z z z z fun b6 w9 a k m e Af=>ul 3 k z fun k=>cg (fun a w=>∃ Ak Ao Ap Ah Ai Aj Am Al,K 57 [(2,pt b3),(3,pt b6),(5,Ao),(6,Aj)] a ∧ St [] w0 w [([b3],w5),([b6],w9),(Ap,Ah),(Am,Al)] ∧ ow Ah Ap [Ao] Ak ∧ ow Al Am [Aj] Ai ∧ d_impl_Fits_J1 fu x1 t2 Ak Ai = some r) ?_ ?_
 · rintro a Ci ⟨Ak,Ao,Ap,Ah,Ai,Aj,Am,Al,k,m,Bp,Ba,h⟩;refine oE h fun Cu Bl h=>uc 3 k z fun k=>sC k call97 z (c_slices_Sort_int_int fu _ (m.v Bp 2 z) Bl) fun Ct Co hR=>?_;obtain ⟨Cq,rfl,e,Bg,Ab⟩:=hR;refine ⟨_,z,fun a k=>?_⟩;have m:=m.mut 2 z e _ (fun b hb=>⟨Bg b hb,Enc.rd_lt (Enc.ow_rd Ab) b hb⟩) (Enc.ow_nd Ab);refine oE h fun Cg Bh h=>ul 5 k z fun k=>sC k call97 z (c_slices_Sort_int_int fu _ (m.v Ba 3 z) Bh) fun Cs Cv hR=>?_;obtain ⟨Cn,rfl,e,Be,Aa⟩:=hR;refine ⟨_,z,fun a k=>?_⟩;have m:=m.mut 3 z e _ (fun b hb=>⟨Be b hb,Enc.rd_lt (Enc.ow_rd Aa) b hb⟩) (Enc.ow_nd Aa);refine ul 3 k z fun k=>d_go [] mixo m z fun Bj hMd=>?_;have m:=hMd;have s:=Ext.refl ([]:List Nat) Bj;refine o2 h fun Bv Aq Bs As h=>dr [0,3,1,2,4,5,6,7] 8 [iF (Enc.ow_rd Ab) Aq,eF (hMd.q Ab 2 z) Aq 0,iF (Enc.ow_rd Aa) As,eF (hMd.q Aa 3 z) As 0] k z s fun k=>bS h k 32 z (fun _ h k=>?_) fun _ h k=>?_
   · refine o2 h fun Bz Ax Cb Ar h=>dr [8,11,9,10,12,13,14,15,16] 9 [iF (Enc.ow_rd Ab) Ax,eF (hMd.q Ab 2 z) Ax 0,iF (Enc.ow_rd Aa) Ar,eF (hMd.q Aa 3 z) Ar 0] k z s fun k=>bS h k 41 z (fun _ h k=>?_) fun _ h k=>?_
     · refine o2 h fun Bo Aw Bk Au h=>dr [17,20,18,19,21,22,23,24,25] 9 [iF (Enc.ow_rd Ab) Aw,eF (hMd.q Ab 2 z) Aw 0,iF (Enc.ow_rd Aa) Au,eF (hMd.q Aa 3 z) Au 0] k z s fun k=>bS h k 50 z (fun _ h k=>?_) fun _ h k=>?_
       · refine dr [26,27,28,29,30,31,32] 7 [bF hMd 0 Ag z,bF hMd 1 Af z] k z s fun k=>dD ?_;refine (nm_then ?_);refine wp_ret (fS h k m z z)
       refine dM [26,27,28,29,30,31,32] 7 z k z s fun a k=>dD ?_;refine (nm_then ?_);refine wp_ret (fS h k m z z)
     refine dM [17,18,19,20,21,22,23,24,25,26,27,28,29,30,31,32] 16 z k z s fun a k=>dD ?_;refine (nm_then ?_);refine wp_ret (fS h k m z z)
   refine dM [8,9,10,11,12,13,14,15,16,17,18,19,20,21,22,23,24,25,26,27,28,29,30,31,32] 25 z k z s fun a k=>dD ?_;refine (nm_then ?_);refine wp_ret (fS h k m z z)
 refine d_go [] mixo m z fun Bt hMd=>?_;have m:=hMd;have s:=Ext.refl ([]:List Nat) Bt;refine dr [0,1,2,3,4,5,7,8,9,10,11,12] 12 [bF hMd 1 Ag z,bF hMd 1 Ag z,bF hMd 1 Ag z,bF hMd 0 Af z,bF hMd 0 Af z,bF hMd 0 Af z] k z s fun k=>dG2 6 13 (by kernel_rfl) z z ?_ ?_
 · refine s_bsN te35 m k z z z z z z z (by decide) z (by exact fC z (fC z (fC z fN))) fun Az Bd Cr a k m e Bf Cc=>?_;have Cm:=lo1 (Nat.le_trans s.size Cc);have Bn:=ow_bx Bf ([x1.fW,x1.fH,x1.fD]:List Int) z z z;refine ns s e fun s=>dM [14] 1 z k z s fun a k=>dG 13 z (s_bsN te35 m k z z z z z z z (by decide) z (by exact fC z (fC z (fC z fN))) fun At Bw Cl a k m e Br Cd=>?_);have Ch:=lo1 (Nat.le_trans s.size Cd);have Bq:=ow_bx Br ([t2.fW,t2.fH,t2.fD]:List Int) z z z;refine ns s e fun s=>dM [15] 1 z k z s fun a k=>dD ((nm_then ?_));exact ⟨_,_,_,_,_,_,_,_,k.p z,m.sl [3,2,1,0] z,Bn,Bq,h⟩
 refine s_bsN te35 m k z z z z z z z (by decide) z (by exact fC z (fC z (fC z fN))) fun Av Bc Cj a k m e Bx Bu=>?_;have Ck:=lo1 (Nat.le_trans s.size Bu);have Ca:=ow_bx Bx ([t2.fW,t2.fH,t2.fD]:List Int) z z z;refine ns s e fun s=>dG 6 z (s_bsN te35 m k z z z z z z z (by decide) z (by exact fC z (fC z (fC z fN))) fun Ay Bi Cp a k m e Bm By=>?_);have Ce:=lo1 (Nat.le_trans s.size By);have Bb:=ow_bx Bm ([x1.fW,x1.fH,x1.fD]:List Int) z z z;refine ns s e fun s=>dM [14,15] 2 z k z s fun a k=>dD ((nm_then ?_));exact ⟨_,_,_,_,_,_,_,_,k.p z,m.sl [3,2,0,1] z,Bb,Ca,h⟩

end Go.Proofs.YthkaklkinepfkaaGreatDoor
