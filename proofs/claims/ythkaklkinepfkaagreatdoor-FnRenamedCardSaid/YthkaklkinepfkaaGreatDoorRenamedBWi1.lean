/- FnRenamed: the walks of functions that it reaches (RenamedBWi,part 1). Printed by gen.py. -/
import Derived.Test.YthkaklkinepfkaaGreatDoorRenamedBT
set_option maxRecDepth 20000
set_option linter.unusedSimpArgs false
set_option linter.unusedVariables false
set_option linter.unnecessarySimpa false
namespace Go.Proofs.YthkaklkinepfkaaGreatDoor
open Go Go.RowKit
open Enc (rd ow)
open Arg (argv)
open Ret (retv)
open Go.Proofs.Tryz


theorem c_impl_TypeById_1 (fu) {w0} (t1 x2) {b3} (Aa:bx w0 b3 [I x2] 3) {r} (h:d_impl_TypeById_1 fu t1 x2 = some r):cS 185 [.agg (Flat.e (t1)).toArray,pt b3] w0 (.bool (r)):=by
 refine eg func185 z ntmps185 z fun k m=>uc 2 k z fun k=>s_box m k z z z z z z fun b5 w7 a k m e Ab=>gl 13 [bF m 0 Ab z,pF (r:=[]) (Aa.at (m.a00 Aa.lt1) 0 1 z z z)] k z fun k=>fS h k m z z
theorem c_slices_IndexFunc_impl_Type_impl_Type (fu) {w0} (Aa f5) {v2 F3} (Ab:rd w0 F3 [v2] Aa) {v6} (Ag:FnOk1 Tryz.prog w0 v6 f5) {r} (h:d_slices_IndexFunc_impl_Type_impl_Type fu Aa f5 = some r):cS 184 [v2,v6] w0 (I r):=by
 refine eg func184 z ntmps184 z fun k m=>?_;obtain ⟨Aj,Ae,rfl,Ak,Af⟩:=Ag;refine gc 14 [lF Ab] k z fun k=>lG (fun n a w=>∃ Ac,K 19 [(0,v2),(1,(.func (.func Aj) #[] Ae.toArray)),(7,I ((Aa.length:Int))),(8,I Ac)] a ∧ St [] w0 w [] ∧ d_slices_IndexFunc_impl_Type_impl_Type_L1 fu Aa f5 n Ac = some r) ?_ fu ?_
 · rintro Ap a Ar ⟨Ac,k,m,h⟩;refine uc 6 k z fun k=>cJ h k z (fun h=>?_) fun h=>?_
   · refine o2 h fun As Ad Aq Ah h=>gc 17 [iF Ab Ad,eA (m.r Ab) Ad] k z fun k=>s_callv k Ak z z z z z z (Af _ _ _ _ m.ext z Ah) fun Am Ao hR=>?_;obtain ⟨rfl,e⟩:=hR;refine ⟨_,z,fun a k=>?_⟩;have m:=m.step e;refine ul 2 k z fun k=>cJ h k z (fun h=>?_) fun h=>?_
     · refine uc 12 k z fun k=>fS h k m z z
     refine uc 8 k z fun k=>?_;exact ⟨_,k.p z,m.sl [] z,h⟩
   refine uc 11 k z fun k=>fS h k m z z
 exact ⟨_,k.p z,m.sl [] z,h⟩
theorem c_impl_TypeById (fu) {w0} (r1 Ac) {Af F3} (Ai:rd w0 F3 Af r1) {r} (h:d_impl_TypeById fu r1 Ac = some r):cS 111 [.agg Af.toArray,I Ac] w0 (.tuple #[.agg (Flat.e r.1).toArray,.bool (r.2)]):=by
 refine eg func111 z ntmps111 z fun k m=>?_;obtain ⟨v6,F7,v8,F9,Am,As,rfl,rfl,At,Ab,Aw⟩:=Ai;refine uc 2 k z fun k=>s_box m k z z z z z z fun Ba Au a k m e Ag=>s_box m k z z z z z z fun Ak Be a k m e Al=>s_alloc m k zeroValue61 z z z z z fun Ar Ax a k m e Ad=>oE h fun Az Aj h=>gl 8 [bF m 2 Ag z] k z fun k=>cC k m call184 z (c_slices_IndexFunc_impl_Type_impl_Type fu _ _ (m.r Ab) ⟨185,[pt Ak],z,call185,fun w Bb Av r e Ao hx=>by subst Ao; have m:=m.step e; exact c_impl_TypeById_1 fu _ _ (Al.agr (m.a 1 rfl) (by simp)) hx⟩ Aj) fun Ay e a k m=>pN 1 k rfl fun a k=>ul 5 k z fun k=>pN 2 k rfl fun a k=>ul 2 k z fun k=>cI h k rfl (fun Ap h=>?_) fun Ap h=>?_
 · refine uc 2 k z fun k=>sv k z (r_build bt61 k (cs:=#[I 0,I 0,I 0,I 0,I 0,I 0,I 0]) (ps:=[]) z z (by kernel_rfl)) fun a k=>sT sizeOf61 m 0 Ad 0 k z z fun Bc a k e m Aq=>ul 5 k z fun k=>?_;cases h;exact finR2 k z (RV.cA k z ta61 (Aq.at (m.a 0 z) 0 7 z z z) z) (RV.tmp k z) ⟨z,m.ext⟩
 refine oE h fun Aa Ae h=>gc 9 [bF m 2 Ag z,iF Ab Ae,eA (m.r Ab) Ae] k z fun k=>sT sizeOf61 m 0 Ad 0 k z z fun Bd a k e m Ah=>ul 4 k z fun k=>?_;cases h;exact finR2 k z (RV.cA k z ta61 (Ah.at (m.a 0 z) 0 7 z z z) z) (RV.tmp k z) ⟨z,m.ext⟩
theorem c_impl_MasterOf (fu) {w0} (r1) {Ac F3} (Aj:rd w0 F3 Ac r1) {r} (h:d_impl_MasterOf fu r1 = some r):cS 153 [.agg Ac.toArray] w0 (.tuple #[.agg (Flat.e r.1).toArray,.bool (r.2)]):=by
 refine eg func153 z ntmps153 z fun k m=>?_;obtain ⟨v5,F6,v7,F8,v9,Al,rfl,rfl,Ab,Ad,Af⟩:=Aj;refine uc 2 k z fun k=>s_box m k z z z z z z fun Am Ao a k m e Ae=>s_alloc m k zeroValue61 z z z z z fun Aq Ak a k m e Ag=>oE h fun Aa Ah h=>gl 8 [bA m 1 Ae z,bF m 1 Ae z] k z fun k=>cC k m call111 z (c_impl_TypeById fu _ _ (mkRequest (m.r Ab) (m.r Ad) (m.r Af)) Ah) fun Ap e a k m=>pN 2 k z fun a k=>sT sizeOf61 m 0 Ag 0 k z z fun Ar a k e m Ai=>ul 4 k z fun k=>?_;cases h;exact finR2 k z (RV.cA k z ta61 (Ai.at (m.a 0 z) 0 7 z z z) z) (RV.tmp k z) ⟨z,m.ext⟩
theorem c_impl_in (fu) {w0} (n1 Ab Ac) {r} (h:d_impl_in fu n1 Ab Ac = some r):cS 68 [I n1,I Ab,I Ac] w0 (.bool (r)):=by
 refine eg func68 z ntmps68 z fun k m=>uc 11 k z fun k=>bS h k 10 z (fun _ h k=>?_) fun _ h k=>?_
 · refine ul 8 k z fun k=>fS h k m z z
 refine ul 8 k z fun k=>fS h k m z z
theorem c_impl_isSide (fu) {w0} (n1) {r} (h:d_impl_isSide fu n1 = some r):cS 247 [I n1] w0 (.bool (r)):=by
 refine eg func247 z ntmps247 z fun k m=>oE h fun x2 Aa h=>uc 8 k z fun k=>cC k m call68 z (c_impl_in fu _ _ _  Aa) fun w5 e a k m=>ul 4 k z fun k=>fS h k m z z
theorem c_impl_PalletOk (fu) {w0} (x1) {r} (h:d_impl_PalletOk fu x1 = some r):cS 187 [.agg (Flat.e (x1)).toArray] w0 (.bool (r)):=by
 refine eg func187 z ntmps187 z fun k m=>uc 2 k z fun k=>s_box m k z z z z z z fun b2 w4 a k m e Ad=>oE h fun x5 Ah h=>gl 7 [bF m 0 Ad z] k z fun k=>cC k m call247 z (c_impl_isSide fu _  Ah) fun w9 e a k m=>pN 1 k z fun a k=>bS h k 6 z (fun _ h k=>?_) fun _ h k=>?_
 · refine oE h fun Ai Ae h=>gl 2 [bF m 0 Ad z] k z fun k=>cC k m call247 z (c_impl_isSide fu _  Ae) fun Ak e a k m=>pN 2 k z fun a k=>bS h k 11 z (fun _ h k=>?_) fun _ h k=>?_
   · refine oE h fun Af Ag h=>gl 2 [bF m 0 Ad z] k z fun k=>cC k m call247 z (c_impl_isSide fu _  Ag) fun Am e a k m=>pN 2 k z fun a k=>bS h k 16 z (fun _ h k=>?_) fun _ h k=>?_
     · refine oE h fun Al Aj h=>gl 2 [bF m 0 Ad z] k z fun k=>cC k m call68 z (c_impl_in fu _ _ _  Aj) fun Ao e a k m=>ul 5 k z fun k=>fS h k m z z
     refine ul 8 k z fun k=>fS h k m z z
   refine ul 13 k z fun k=>fS h k m z z
 refine ul 18 k z fun k=>fS h k m z z
theorem c_slices_IndexFunc_impl_Pair_impl_Pair (fu) {w0} (Aa f5) {v2 F3} (Ab:rd w0 F3 [v2] Aa) {v6} (Ag:FnOk1 Tryz.prog w0 v6 f5) {r} (h:d_slices_IndexFunc_impl_Pair_impl_Pair fu Aa f5 = some r):cS 278 [v2,v6] w0 (I r):=by
 refine eg func278 z ntmps278 z fun k m=>?_;obtain ⟨Aj,Ae,rfl,Ak,Af⟩:=Ag;refine gc 14 [lF Ab] k z fun k=>lG (fun n a w=>∃ Ac,K 19 [(0,v2),(1,(.func (.func Aj) #[] Ae.toArray)),(7,I ((Aa.length:Int))),(8,I Ac)] a ∧ St [] w0 w [] ∧ d_slices_IndexFunc_impl_Pair_impl_Pair_L1 fu Aa f5 n Ac = some r) ?_ fu ?_
 · rintro Ap a Ar ⟨Ac,k,m,h⟩;refine uc 6 k z fun k=>cJ h k z (fun h=>?_) fun h=>?_
   · refine o2 h fun As Ad Aq Ah h=>gc 17 [iF Ab Ad,eA (m.r Ab) Ad] k z fun k=>s_callv k Ak z z z z z z (Af _ _ _ _ m.ext z Ah) fun Am Ao hR=>?_;obtain ⟨rfl,e⟩:=hR;refine ⟨_,z,fun a k=>?_⟩;have m:=m.step e;refine ul 2 k z fun k=>cJ h k z (fun h=>?_) fun h=>?_
     · refine uc 12 k z fun k=>fS h k m z z
     refine uc 8 k z fun k=>?_;exact ⟨_,k.p z,m.sl [] z,h⟩
   refine uc 11 k z fun k=>fS h k m z z
 exact ⟨_,k.p z,m.sl [] z,h⟩
theorem c_slices_ContainsFunc_impl_Pair_impl_Pair (fu) {w0} (Aa f5) {v2 F3} (Ab:rd w0 F3 [v2] Aa) {v6} (Ad:FnOk1 Tryz.prog w0 v6 f5) {r} (h:d_slices_ContainsFunc_impl_Pair_impl_Pair fu Aa f5 = some r):cS 221 [v2,v6] w0 (.bool (r)):=by
 refine eg func221 z ntmps221 z fun k m=>?_;obtain ⟨Ak,Ai,rfl,Ah,Ac⟩:=Ad;refine oE h fun Aj Ag h=>uc 9 k z fun k=>cC k m call278 z (c_slices_IndexFunc_impl_Pair_impl_Pair fu _ _ (m.r Ab) ⟨_,_,z,Ah,fun w Ae Af r e=>Ac w Ae Af r (m.ext.trans e (by simp))⟩ Ag) fun Al e a k m=>ul 5 k z fun k=>fS h k m z z
theorem c_impl_BoundsOk_1 (fu) {w0} (p1) {r} (h:d_impl_BoundsOk_1 fu p1 = some r):cS 222 [.agg (Flat.e (p1)).toArray] w0 (.bool (r)):=by
 refine eg func222 z ntmps222 z fun k m=>uc 2 k z fun k=>s_box m k z z z z z z fun b2 w4 a k m e Ab=>oE h fun x5 Ad h=>gl 7 [bF m 0 Ab z] k z fun k=>cC k m call68 z (c_impl_in fu _ _ _  Ad) fun w9 e a k m=>pN 2 k z fun a k=>bS h k 7 z (fun _ h k=>?_) fun _ h k=>?_
 · refine ul 9 k z fun k=>fS h k m z z
 refine oE h fun Af Ac h=>gl 2 [bF m 0 Ab z] k z fun k=>cC k m call68 z (c_impl_in fu _ _ _  Ac) fun Ae e a k m=>ul 6 k z fun k=>fS h k m z z
theorem c_slices_ContainsFunc_impl_Type_impl_Type (fu) {w0} (Aa f5) {v2 F3} (Ab:rd w0 F3 [v2] Aa) {v6} (Ad:FnOk1 Tryz.prog w0 v6 f5) {r} (h:d_slices_ContainsFunc_impl_Type_impl_Type fu Aa f5 = some r):cS 160 [v2,v6] w0 (.bool (r)):=by
 refine eg func160 z ntmps160 z fun k m=>?_;obtain ⟨Ak,Ai,rfl,Ah,Ac⟩:=Ad;refine oE h fun Aj Ag h=>uc 9 k z fun k=>cC k m call184 z (c_slices_IndexFunc_impl_Type_impl_Type fu _ _ (m.r Ab) ⟨_,_,z,Ah,fun w Ae Af r e=>Ac w Ae Af r (m.ext.trans e (by simp))⟩ Ag) fun Al e a k m=>ul 5 k z fun k=>fS h k m z z
theorem c_impl_TypeOk (fu) {w0} (x1) {r} (h:d_impl_TypeOk fu x1 = some r):cS 224 [.agg (Flat.e (x1)).toArray] w0 (.bool (r)):=by
 refine eg func224 z ntmps224 z fun k m=>uc 2 k z fun k=>s_box m k z z z z z z fun b2 w4 a k m e Aa=>oE h fun x5 Aj h=>gl 7 [bF m 0 Aa z] k z fun k=>cC k m call68 z (c_impl_in fu _ _ _  Aj) fun w9 e a k m=>pN 1 k z fun a k=>bS h k 6 z (fun _ h k=>?_) fun _ h k=>?_
 · refine oE h fun As Ap h=>gl 2 [bF m 0 Aa z] k z fun k=>cC k m call247 z (c_impl_isSide fu _  Ap) fun Ba e a k m=>pN 2 k z fun a k=>bS h k 11 z (fun _ h k=>?_) fun _ h k=>?_
   · refine oE h fun Am Aq h=>gl 2 [bF m 0 Aa z] k z fun k=>cC k m call247 z (c_impl_isSide fu _  Aq) fun Au e a k m=>pN 2 k z fun a k=>bS h k 16 z (fun _ h k=>?_) fun _ h k=>?_
     · refine oE h fun Ai Ar h=>gl 2 [bF m 0 Aa z] k z fun k=>cC k m call247 z (c_impl_isSide fu _  Ar) fun Ax e a k m=>pN 2 k z fun a k=>bS h k 21 z (fun _ h k=>?_) fun _ h k=>?_
       · refine oE h fun Ah Ao h=>gl 2 [bF m 0 Aa z] k z fun k=>cC k m call68 z (c_impl_in fu _ _ _  Ao) fun Az e a k m=>pN 2 k z fun a k=>bS h k 26 z (fun _ h k=>?_) fun _ h k=>?_
         · refine oE h fun Ak At h=>gl 2 [bF m 0 Aa z] k z fun k=>cC k m call68 z (c_impl_in fu _ _ _  At) fun Av e a k m=>pN 2 k z fun a k=>bS h k 31 z (fun _ h k=>?_) fun _ h k=>?_
           · refine oE h fun Ay Al h=>gl 2 [bF m 0 Aa z] k z fun k=>cC k m call68 z (c_impl_in fu _ _ _  Al) fun Aw e a k m=>ul 5 k z fun k=>fS h k m z z
           refine ul 8 k z fun k=>fS h k m z z
         refine ul 13 k z fun k=>fS h k m z z
       refine ul 18 k z fun k=>fS h k m z z
     refine ul 23 k z fun k=>fS h k m z z
   refine ul 28 k z fun k=>fS h k m z z
 refine ul 33 k z fun k=>fS h k m z z
theorem c_impl_BoundsOk_2 (fu) {w0} (t1) {r} (h:d_impl_BoundsOk_2 fu t1 = some r):cS 223 [.agg (Flat.e (t1)).toArray] w0 (.bool (r)):=by
 refine eg func223 z ntmps223 z fun k m=>uc 2 k z fun k=>s_box m k z z z z z z fun b2 w4 a k m e Aa=>oE h fun x5 Ab h=>gl 6 [bA m 0 Aa z] k z fun k=>cC k m call224 z (c_impl_TypeOk fu (t1:Typ)  Ab) fun w9 e a k m=>ul 5 k z fun k=>fS h k m z z
theorem c_impl_ItemOk (fu) {w0} (x1) {r} (h:d_impl_ItemOk fu x1 = some r):cS 225 [.agg (Flat.e (x1)).toArray] w0 (.bool (r)):=by
 refine eg func225 z ntmps225 z fun k m=>uc 2 k z fun k=>s_box m k z z z z z z fun b2 w4 a k m e Aa=>oE h fun x5 Aj h=>gl 7 [bF m 0 Aa z] k z fun k=>cC k m call68 z (c_impl_in fu _ _ _  Aj) fun w9 e a k m=>pN 1 k z fun a k=>bS h k 6 z (fun _ h k=>?_) fun _ h k=>?_
 · refine oE h fun As Ap h=>gl 2 [bF m 0 Aa z] k z fun k=>cC k m call247 z (c_impl_isSide fu _  Ap) fun Ba e a k m=>pN 2 k z fun a k=>bS h k 11 z (fun _ h k=>?_) fun _ h k=>?_
   · refine oE h fun Am Aq h=>gl 2 [bF m 0 Aa z] k z fun k=>cC k m call247 z (c_impl_isSide fu _  Aq) fun Au e a k m=>pN 2 k z fun a k=>bS h k 16 z (fun _ h k=>?_) fun _ h k=>?_
     · refine oE h fun Ai Ar h=>gl 2 [bF m 0 Aa z] k z fun k=>cC k m call247 z (c_impl_isSide fu _  Ar) fun Ax e a k m=>pN 2 k z fun a k=>bS h k 21 z (fun _ h k=>?_) fun _ h k=>?_
       · refine oE h fun Ah Ao h=>gl 2 [bF m 0 Aa z] k z fun k=>cC k m call68 z (c_impl_in fu _ _ _  Ao) fun Az e a k m=>pN 2 k z fun a k=>bS h k 26 z (fun _ h k=>?_) fun _ h k=>?_
         · refine oE h fun Ak At h=>gl 2 [bF m 0 Aa z] k z fun k=>cC k m call68 z (c_impl_in fu _ _ _  At) fun Av e a k m=>pN 2 k z fun a k=>bS h k 31 z (fun _ h k=>?_) fun _ h k=>?_
           · refine oE h fun Ay Al h=>gl 2 [bF m 0 Aa z] k z fun k=>cC k m call68 z (c_impl_in fu _ _ _  Al) fun Aw e a k m=>ul 5 k z fun k=>fS h k m z z
           refine ul 8 k z fun k=>fS h k m z z
         refine ul 13 k z fun k=>fS h k m z z
       refine ul 18 k z fun k=>fS h k m z z
     refine ul 23 k z fun k=>fS h k m z z
   refine ul 28 k z fun k=>fS h k m z z
 refine ul 33 k z fun k=>fS h k m z z
theorem c_impl_BoundsOk (fu) {w0} (r1) {As F3} (Ba:rd w0 F3 As r1) {r} (h:d_impl_BoundsOk fu r1 = some r):cS 154 [.agg As.toArray] w0 (.bool (r)):=by
 refine eg func154 z ntmps154 z fun k m=>?_;obtain ⟨v5,F6,v7,F8,v9,Cd,rfl,rfl,Ao,Am,Ac⟩:=Ba;refine uc 2 k z fun k=>s_box m k z z z z z z fun Aj Aq a k m e Aa=>ul 3 k z fun k=>cg (fun a w=>K 70 [(1,pt Aj)] a ∧ St [] w0 w [([Aj],Aq)] ∧ d_impl_BoundsOk_J2 fu r1 = some r) ?_ ?_
 · rintro a By ⟨k,m,h⟩;refine oE h fun Bv Bm h=>gc 5 [bF m 0 Aa z] k z fun k=>cC k m call221 z (c_slices_ContainsFunc_impl_Pair_impl_Pair fu _ _ (m.r Ao) ⟨222,[],z,call222,fun w Br Bq r e Bl hx=>by subst Bl; have m:=m.step e; exact c_impl_BoundsOk_1 fu _  hx⟩ Bm) fun Bu e a k m=>ul 2 k z fun k=>cI h k rfl (fun Av h=>?_) fun Av h=>?_
   · refine uc 7 k z fun k=>fS h k m z z
   refine uc 2 k z fun k=>cg (fun a w=>K 70 [(1,pt Aj)] a ∧ St [] w0 w [([Aj],Aq)] ∧ d_impl_BoundsOk_J1 fu r1 = some r) ?_ ?_
   · rintro a Cb ⟨k,m,h⟩;refine gc 15 [bF m 0 Aa z,lF Ac] k z fun k=>lG (fun n a w=>∃ Al Ak,K 70 [(3,I Al),(54,v9),(55,I ((r1.fItems.length:Int))),(56,I Ak)] a ∧ St [] w0 w [] ∧ d_impl_BoundsOk_L1 fu r1 n Al Ak = some r) ?_ fu ?_
     · rintro Ck a Cg ⟨Al,Ak,k,m,h⟩;refine uc 6 k z fun k=>cJ h k z (fun h=>?_) fun h=>?_
       · refine oE h fun Ab Ar h=>gc 8 [iF Ac Ar,eA (m.r Ac) Ar] k z fun k=>s_alloc m k zeroValue59 z z z z z fun Cc Bt a k m e Ax=>sT sizeOf59 m 0 Ax 0 k z z fun Bx a k e m Ap=>oE h fun Bz Bo h=>gl 6 [bA m 0 Ap z] k z fun k=>cC k m call225 z (c_impl_ItemOk fu (Ab:Item)  Bo) fun Cm e a k m=>ul 3 k z fun k=>cJ h k z (fun h=>?_) fun h=>?_
         · refine uc 12 k z fun k=>fS h k m z z
         refine gc 16 [bF m 0 Ap z] k z fun k=>?_;exact ⟨_,_,k.p z,m.sl [] z,h⟩
       refine uc 13 k z fun k=>fS h k m z z
     exact ⟨_,_,k.p z,m.sl [] z,h⟩
   refine oE h fun Bb Ay h=>gc 5 [bF m 0 Aa z,lF Am] k z fun k=>cC k m call68 z (c_impl_in fu _ _ _  Ay) fun Cj e a k m=>pN 2 k z fun a k=>bS h k 36 z (fun _ h k=>?_) fun _ h k=>?_
   · refine ul 26 k z fun k=>fS h k m z z
   refine oE h fun Bk Bj h=>gl 2 [bF m 0 Aa z] k z fun k=>cC k m call160 z (c_slices_ContainsFunc_impl_Type_impl_Type fu _ _ (m.r Am) ⟨223,[],z,call223,fun w Ci Ce r e Bp hx=>by subst Bp; have m:=m.step e; exact c_impl_BoundsOk_2 fu _  hx⟩ Bj) fun Cl e a k m=>pN 2 k rfl fun a k=>bS h k 41 z (fun _ h k=>?_) fun _ h k=>?_
   · refine ul 21 k z fun k=>fS h k m z z
   refine oE h fun Bd Az h=>gl 2 [bF m 0 Aa z] k z fun k=>cC k m call68 z (c_impl_in fu _ _ _  Az) fun Bs e a k m=>pN 3 k z fun a k=>bS h k 47 z (fun _ h k=>?_) fun _ h k=>?_
   · refine ul 15 k z fun k=>fS h k m z z
   refine gl 7 [bF m 0 Aa z,lF Ac] k z fun k=>cJ h k z (fun h=>?_) fun h=>?_
   · refine uc 7 k z fun k=>fS h k m z z
   refine uc 2 k z fun k=>?_;exact ⟨k.p z,m.sl [0] z,h⟩
 refine oE h fun At Be h=>gc 4 [bF m 0 Aa z] k z fun k=>cC k m call68 z (c_impl_in fu _ _ _  Be) fun Ch e a k m=>pN 2 k z fun a k=>bS h k 10 z (fun _ h k=>?_) fun _ h k=>?_
 · refine ul 27 k z fun k=>fS h k m z z
 refine oE h fun Bh Bc h=>gl 2 [bA m 0 Aa z] k z fun k=>cC k m call187 z (c_impl_PalletOk fu (r1.fPallet:Pallet)  Bc) fun Ca e a k m=>pN 3 k z fun a k=>bS h k 16 z (fun _ h k=>?_) fun _ h k=>?_
 · refine ul 21 k z fun k=>fS h k m z z
 refine oE h fun Bi Au h=>gl 2 [bF m 0 Aa z] k z fun k=>cC k m call68 z (c_impl_in fu _ _ _  Au) fun Bw e a k m=>pN 3 k z fun a k=>bS h k 22 z (fun _ h k=>?_) fun _ h k=>?_
 · refine ul 15 k z fun k=>fS h k m z z
 refine gl 7 [bF m 0 Aa z,lF Ao] k z fun k=>cJ h k z (fun h=>?_) fun h=>?_
 · refine uc 7 k z fun k=>fS h k m z z
 refine uc 2 k z fun k=>?_;exact ⟨k.p z,m.sl [0] z,h⟩
theorem c_impl_namesOk_1 (fu) {w0} (q1 x2) {b3} (Aa:bx w0 b3 [I x2.fId,I x2.fW,I x2.fH,I x2.fD,I x2.fTare,I x2.fGram,I x2.fCost] 61) {r} (h:d_impl_namesOk_1 fu q1 x2 = some r):cS 226 [.agg (Flat.e (q1)).toArray,pt b3] w0 (.bool (r)):=by
 refine eg func226 z ntmps226 z fun k m=>uc 2 k z fun k=>s_box m k z z z z z z fun b5 w7 a k m e Ab=>gl 14 [bF m 0 Ab z,pF (r:=[]) (Aa.at (m.a00 Aa.lt1) 0 1 z z z)] k z fun k=>fS h k m z z
theorem c_impl_namesOk_2 (fu) {w0} (q1 x2) {b3} (Aa:bx w0 b3 [I x2.fId,I x2.fW,I x2.fH,I x2.fD,I x2.fGram,I x2.fClass,I x2.fCount] 59) {r} (h:d_impl_namesOk_2 fu q1 x2 = some r):cS 227 [.agg (Flat.e (q1)).toArray,pt b3] w0 (.bool (r)):=by
 refine eg func227 z ntmps227 z fun k m=>uc 2 k z fun k=>s_box m k z z z z z z fun b5 w7 a k m e Ab=>gl 14 [bF m 0 Ab z,pF (r:=[]) (Aa.at (m.a00 Aa.lt1) 0 1 z z z)] k z fun k=>fS h k m z z
theorem c_slices_IndexFunc_impl_Item_impl_Item (fu) {w0} (Aa f5) {v2 F3} (Ab:rd w0 F3 [v2] Aa) {v6} (Ag:FnOk1 Tryz.prog w0 v6 f5) {r} (h:d_slices_IndexFunc_impl_Item_impl_Item fu Aa f5 = some r):cS 230 [v2,v6] w0 (I r):=by
 refine eg func230 z ntmps230 z fun k m=>?_;obtain ⟨Aj,Ae,rfl,Ak,Af⟩:=Ag;refine gc 14 [lF Ab] k z fun k=>lG (fun n a w=>∃ Ac,K 19 [(0,v2),(1,(.func (.func Aj) #[] Ae.toArray)),(7,I ((Aa.length:Int))),(8,I Ac)] a ∧ St [] w0 w [] ∧ d_slices_IndexFunc_impl_Item_impl_Item_L1 fu Aa f5 n Ac = some r) ?_ fu ?_
 · rintro Ap a Ar ⟨Ac,k,m,h⟩;refine uc 6 k z fun k=>cJ h k z (fun h=>?_) fun h=>?_
   · refine o2 h fun As Ad Aq Ah h=>gc 17 [iF Ab Ad,eA (m.r Ab) Ad] k z fun k=>s_callv k Ak z z z z z z (Af _ _ _ _ m.ext z Ah) fun Am Ao hR=>?_;obtain ⟨rfl,e⟩:=hR;refine ⟨_,z,fun a k=>?_⟩;have m:=m.step e;refine ul 2 k z fun k=>cJ h k z (fun h=>?_) fun h=>?_
     · refine uc 12 k z fun k=>fS h k m z z
     refine uc 8 k z fun k=>?_;exact ⟨_,k.p z,m.sl [] z,h⟩
   refine uc 11 k z fun k=>fS h k m z z
 exact ⟨_,k.p z,m.sl [] z,h⟩
theorem c_slices_ContainsFunc_impl_Item_impl_Item (fu) {w0} (Aa f5) {v2 F3} (Ab:rd w0 F3 [v2] Aa) {v6} (Ad:FnOk1 Tryz.prog w0 v6 f5) {r} (h:d_slices_ContainsFunc_impl_Item_impl_Item fu Aa f5 = some r):cS 157 [v2,v6] w0 (.bool (r)):=by
 refine eg func157 z ntmps157 z fun k m=>?_;obtain ⟨Ak,Ai,rfl,Ah,Ac⟩:=Ad;refine oE h fun Aj Ag h=>uc 9 k z fun k=>cC k m call230 z (c_slices_IndexFunc_impl_Item_impl_Item fu _ _ (m.r Ab) ⟨_,_,z,Ah,fun w Ae Af r e=>Ac w Ae Af r (m.ext.trans e (by simp))⟩ Ag) fun Al e a k m=>ul 5 k z fun k=>fS h k m z z
theorem c_impl_namesOk_3 (fu) {w0} (p1 x2) {v5 F6 v8 F9 Ad Ae b3} (Ab:bx w0 b3 (cR x2 v5 v8 Ad) 55) (Af:rd w0 F6 [v5] x2.fPairs) (Ag:rd w0 F9 [v8] x2.fTypes) (Aj:rd w0 Ae [Ad] x2.fItems) {r} (h:d_impl_namesOk_3 fu p1 x2 = some r):cS 228 [.agg (Flat.e (p1)).toArray,pt b3] w0 (.bool (r)):=by
 refine eg func228 z ntmps228 z fun k m=>uc 2 k z fun k=>s_box m k z z z z z z fun Ah Ai a k m e Ac=>gl 11 [bF m 0 Ac z,pF (r:=[]) (Ab.at (m.a00 Ab.lt1) 5 1 z z z)] k z fun k=>bS h k 9 z (fun _ h k=>?_) fun _ h k=>?_
 · refine ul 10 k z fun k=>fS h k m z z
 refine gl 10 [bF m 0 Ac z,pF (r:=[]) (Ab.at (m.a00 Ab.lt1) 5 1 z z z)] k z fun k=>fS h k m z z
theorem c_impl_namesOk (fu) {w0} (r1) {Ar F3} (Az:rd w0 F3 Ar r1) {r} (h:d_impl_namesOk fu r1 = some r):cS 155 [.agg Ar.toArray] w0 (.bool (r)):=by
 refine eg func155 z ntmps155 z fun k m=>?_;obtain ⟨v5,F6,v7,F8,v9,Ck,rfl,rfl,Ai,Aa,Ab⟩:=Az;refine uc 2 k z fun k=>s_box m k z z z z z z fun Af Am a k m e Ae=>gl 13 [bF m 0 Ae z,lF Aa] k z fun k=>lG (fun n a w=>∃ Al,K 59 [(1,pt Af),(10,v7),(11,I ((r1.fTypes.length:Int))),(12,I Al)] a ∧ St [] w0 w [([Af],Am)] ∧ d_impl_namesOk_L2 fu r1 n Al = some r) ?_ fu ?_
 · rintro Cl a Ce ⟨Al,k,m,h⟩;refine uc 6 k z fun k=>cJ h k z (fun h=>?_) fun h=>?_
   · refine oE h fun Ag Aq h=>gc 9 [iF Aa Aq,eA (m.r Aa) Aq] k z fun k=>s_alloc m k zeroValue61 z z z z z fun Bf Cq a k m e Ay=>pN 1 k z fun a k=>sT sizeOf61 m 0 Ay 0 k z z fun Bv a k e m Ba=>oE h fun Bw Bo h=>gl 7 [bF m 1 Ae z] k z fun k=>s_slTo Aa Bo k ts52 z z z z z z fun Co a k Ao=>pN 1 k z fun a k=>oE h fun Bx Bb h=>cC k m call160 z (c_slices_ContainsFunc_impl_Type_impl_Type fu _ _ (m.r Ao) ⟨226,[pt Bf],z,call226,fun w Ca By r e Bj hx=>by subst Bj; have m:=m.step e; exact c_impl_namesOk_1 fu _ _ (Ba.agr (m.a 0 rfl) (by simp)) hx⟩ Bb) fun Br e a k m=>ul 2 k z fun k=>cI h k rfl (fun Bl h=>?_) fun Bl h=>?_
     · refine uc 11 k z fun k=>fS h k m z z
     refine uc 8 k z fun k=>?_;exact ⟨_,k.p z,m.sl [1] z,h⟩
   refine gc 15 [bF m 0 Ae z,lF Ab] k z fun k=>lG (fun n a w=>∃ Ah,K 59 [(1,pt Af),(25,v9),(26,I ((r1.fItems.length:Int))),(27,I Ah)] a ∧ St [] w0 w [([Af],Am)] ∧ d_impl_namesOk_L1 fu r1 n Ah = some r) ?_ fu ?_
   · rintro Bh a Bs ⟨Ah,k,m,h⟩;refine uc 6 k z fun k=>cJ h k z (fun h=>?_) fun h=>?_
     · refine uc 2 k z fun k=>cg (fun a w=>K 59 [(1,pt Af),(25,v9),(26,I ((r1.fItems.length:Int))),(27,I Ah)] a ∧ St [] w0 w [([Af],Am)] ∧ d_impl_namesOk_J1 fu (d_impl_namesOk_L1 fu r1 Bh) Ah = some r) ?_ ?_
       · rintro a Ct ⟨k,m,h⟩;refine uc 5 k z fun k=>?_;exact ⟨_,k.p z,m.sl [0] z,h⟩
       refine oE h fun Ac At h=>gc 6 [iF Ab At,eA (m.r Ab) At] k z fun k=>s_alloc m k zeroValue59 z z z z z fun Bd Bu a k m e Bi=>pN 1 k z fun a k=>sT sizeOf59 m 0 Bi 0 k z z fun Ch a k e m Ap=>gl 10 [bF m 0 Ap z,bF m 1 Ae z] k z fun k=>bS h k 37 z (fun _ h k=>?_) fun _ h k=>?_
       · refine ul 21 k z fun k=>fS h k m z z
       refine oE h fun Cr Bk h=>gl 3 [bF m 1 Ae z] k z fun k=>s_slTo Ab Bk k ts53 z z z z z z fun Bz a k As=>pN 1 k z fun a k=>oE h fun Bt Bg h=>cC k m call157 z (c_slices_ContainsFunc_impl_Item_impl_Item fu _ _ (m.r As) ⟨227,[pt Bd],z,call227,fun w Cd Cb r e Bm hx=>by subst Bm; have m:=m.step e; exact c_impl_namesOk_2 fu _ _ (Ap.agr (m.a 0 rfl) (by simp)) hx⟩ Bg) fun Ci e a k m=>pN 1 k rfl fun a k=>ul 2 k z fun k=>cI h k rfl (fun Bn h=>?_) fun Bn h=>?_
       · refine uc 11 k z fun k=>fS h k m z z
       refine uc 3 k z fun k=>?_;exact ⟨k.p z,m.sl [1] z,h⟩
     refine oE h fun Ad Av h=>gc 8 [bA m 0 Ae z] k z fun k=>cC k m call153 z (c_impl_MasterOf fu _ (mkRequest (m.r Ai) (m.r Aa) (m.r Ab)) Av) fun Cp e a k m=>pN 3 k z fun a k=>s_alloc m k zeroValue61 z z z z z fun Cj Bp a k m e Ax=>sT sizeOf61 m 0 Ax 0 k z z fun Bq a k e m Cc=>ul 7 k z fun k=>bS h k 52 z (fun _ h k=>?_) fun _ h k=>?_
     · refine oE h fun Cm Be h=>gl 3 [bF m 1 Ae z] k z fun k=>cC k m call221 z (c_slices_ContainsFunc_impl_Pair_impl_Pair fu _ _ (m.r Ai) ⟨228,[pt Af],z,call228,fun w Cn Cs r e Au hx=>by subst Au; have m:=m.step e; exact c_impl_namesOk_3 fu _ _ (Ae.agr (m.a 1 rfl) (by simp)) (m.r Ai) (m.r Aa) (m.r Ab) hx⟩ Be) fun Cg e a k m=>pN 3 k rfl fun a k=>ul 3 k z fun k=>fS h k m rfl rfl
     refine ul 10 k z fun k=>fS h k m z z
   exact ⟨_,k.p z,m.sl [0] z,h⟩
 exact ⟨_,k.p z,m.sl [0] z,h⟩
theorem c_slices_Index_impl_Pair_impl_Pair (fu) {w0} (Aa v5) {v2 F3} (Ac:rd w0 F3 [v2] Aa) {r} (h:d_slices_Index_impl_Pair_impl_Pair fu Aa v5 = some r):cS 302 [v2,.agg (Flat.e (v5)).toArray] w0 (I r):=by
 refine eg func302 z ntmps302 z fun k m=>uc 2 k z fun k=>s_box m k z z z z z z fun b6 w9 a k m e Ah=>gl 12 [lF Ac] k z fun k=>lG (fun n a w=>∃ Ab,K 19 [(0,v2),(3,pt b6),(7,I ((Aa.length:Int))),(8,I Ab)] a ∧ St [] w0 w [([b6],w9)] ∧ d_slices_Index_impl_Pair_impl_Pair_L1 fu Aa v5 n Ab = some r) ?_ fu ?_
 · rintro Aj a Ak ⟨Ab,k,m,h⟩;refine uc 6 k z fun k=>cJ h k z (fun h=>?_) fun h=>?_
   · refine uc 11 k z fun k=>d_go [] mixo m z fun Ai hMd=>?_;have m:=hMd;have s:=Ext.refl ([]:List Nat) Ai;refine oE h fun Ag Ad h=>dr [1,2,0,3,4] 5 [bA hMd 0 Ah z,iF Ac Ad,eA (hMd.r Ac) Ad] k z s fun k=>dT k 5 z z s (fun w s=>r_eqs seq98 (x:=v5) (y:=Ag) k z z z z z) fun a k=>dD ((nm_then ?_));refine cJ h k z (fun h=>?_) fun h=>?_
     · refine uc 12 k z fun k=>fS h k m z z
     refine uc 8 k z fun k=>?_;exact ⟨_,k.p z,m.sl [0] z,h⟩
   refine uc 11 k z fun k=>fS h k m z z
 exact ⟨_,k.p z,m.sl [0] z,h⟩
theorem c_slices_Contains_impl_Pair_impl_Pair (fu) {w0} (Aa v5) {v2 F3} (Ab:rd w0 F3 [v2] Aa) {r} (h:d_slices_Contains_impl_Pair_impl_Pair fu Aa v5 = some r):cS 279 [v2,.agg (Flat.e (v5)).toArray] w0 (.bool (r)):=by
 refine eg func279 z ntmps279 z fun k m=>uc 2 k z fun k=>s_box m k z z z z z z fun b6 w9 a k m e Ad=>oE h fun Ae Ac h=>gl 7 [bA m 0 Ad z] k z fun k=>cC k m call302 z (c_slices_Index_impl_Pair_impl_Pair fu _ (v5:Pair) (m.r Ab) Ac) fun Af e a k m=>ul 5 k z fun k=>fS h k m z z
theorem c_impl_Beside (fu) {w0} (Ab a5 b6) {v2 F3} (Aa:rd w0 F3 [v2] Ab) {r} (h:d_impl_Beside fu Ab a5 b6 = some r):cS 229 [v2,I a5,I b6] w0 (.bool (r)):=by
 refine eg func229 z ntmps229 z fun k m=>uc 10 k z fun k=>sv k z (r_build bt98 k (cs:=#[I a5,I b6]) (ps:=[(0,.tmp 8),(1,.tmp 9)]) z z (by kernel_rfl)) fun a k=>oE h fun x7 Ac h=>cC k m call279 z (c_slices_Contains_impl_Pair_impl_Pair fu _ (((⟨a5,b6⟩:Pair)):Pair) (m.r Aa) Ac) fun Ad e a k m=>ul 4 k z fun k=>fS h k m z z
theorem c_impl_TableOk (fu) {w0} (Ad Aa) {v2 F3} (Ac:rd w0 F3 [v2] Ad) {r} (h:d_impl_TableOk fu Ad Aa = some r):cS 156 [v2,I Aa] w0 (.bool (r)):=by
 refine eg func156 z ntmps156 z fun k m=>oE h fun x6 Ag h=>uc 9 k z fun k=>cC k m call68 z (c_impl_in fu _ _ _  Ag) fun w9 e a k m=>ul 3 k z fun k=>cJ h k z (fun h=>?_) fun h=>?_
 · refine uc 7 k z fun k=>fS h k m z z
 refine uc 10 k z fun k=>lG (fun n a w=>∃ Ab,K 34 [(0,v2),(1,I Aa),(10,I Aa),(11,I Ab)] a ∧ St [] w0 w [] ∧ d_impl_TableOk_L2 fu Ad Aa n Ab = some r) ?_ fu ?_
 · rintro Ap a At ⟨Ab,k,m,h⟩;refine uc 6 k z fun k=>cJ h k z (fun h=>?_) fun h=>?_
   · refine oE h fun Au Ak h=>uc 16 k z fun k=>cC k m call229 z (c_impl_Beside fu _ _ _ (m.r Ac) Ak) fun Ax e a k m=>ul 3 k z fun k=>cJ h k z (fun h=>?_) fun h=>?_
     · refine uc 12 k z fun k=>fS h k m z z
     refine uc 9 k z fun k=>lG (fun n a w=>∃ Ae,K 34 [(0,v2),(1,I Aa),(5,I Ab),(10,I Aa),(11,I Ab),(19,I Aa),(20,I Ae)] a ∧ St [] w0 w [] ∧ d_impl_TableOk_L1 fu (d_impl_TableOk_L2 fu Ad Aa Ap) Ad Aa Ab n Ae = some r) ?_ fu ?_
     · rintro Ay a Aw ⟨Ae,k,m,h⟩;refine uc 6 k z fun k=>cJ h k z (fun h=>?_) fun h=>?_
       · refine oE h fun As Ao h=>uc 15 k z fun k=>cC k m call229 z (c_impl_Beside fu _ _ _ (m.r Ac) Ao) fun Ar e a k m=>pN 3 k z fun a k=>oE h fun Av Af h=>cC k m call229 z (c_impl_Beside fu _ _ _ (m.r Ac) Af) fun Aq e a k m=>sv k z (r_neb k underlying4 z z z) fun a k=>ul 2 k z fun k=>cJ h k z (fun h=>?_) fun h=>?_
         · refine uc 15 k z fun k=>fS h k m z z
         refine uc 8 k z fun k=>?_;exact ⟨_,k.p z,m.sl [] z,h⟩
       refine uc 11 k z fun k=>?_;exact ⟨_,k.p z,m.sl [] z,h⟩
     exact ⟨_,k.p z,m.sl [] z,h⟩
   refine uc 11 k z fun k=>fS h k m z z
 exact ⟨_,k.p z,m.sl [] z,h⟩
theorem c_slices_Sort_int_int (fu:Nat) {w0:World} (x1:List Int) {v2:Value} {F3:List Nat} (Aa:ow w0 F3 [v2] x1) {r:List Int}
    (h:d_slices_Sort_int_int fu x1 = some r) :
    Calls Tryz.prog 97 #[v2] w0 fun e w=>∃ H:List Nat,e = .returned (.tuple #[]) ∧ Ext F3 w0 w ∧ (∀ b ∈ H,b ∈ F3 ∨ w0.heap.size ≤ b) ∧ ow w H [v2] r :=
  (c_sortInt (fun blk off cap zs w=>Tryz.slices_Sort_int blk off cap zs w) (fun p cap w=>Tryz.slices_Sort_int_none p cap w) x1 Aa h).mono fun e w ⟨h1,h2,h3⟩=>⟨_,h1,h2,fun b hb=>.inl hb,h3⟩

theorem c_impl_Fits (fu) {w0} (x1 t2) {r} (h:d_impl_Fits fu x1 t2 = some r):cS 159 [.agg (Flat.e (x1)).toArray,.agg (Flat.e (t2)).toArray] w0 (.bool (r)):=by
 refine eg func159 z ntmps159 z fun k m=>uc 2 k z fun k=>s_box m k z z z z z z fun b3 w5 a k m e Af=>s_box m k z z z z z z fun b6 w9 a k m e Ag=>ul 3 k z fun k=>cg (fun a w=>∃ Am Al Ao Aj Ap Ak Ah Ai,K 57 [(2,pt b3),(3,pt b6),(5,Al),(6,Ak)] a ∧ St [] w0 w [([b3],w5),([b6],w9),(Ao,Aj),(Ah,Ai)] ∧ ow Aj Ao [Al] Am ∧ ow Ai Ah [Ak] Ap ∧ d_impl_Fits_J1 fu x1 t2 Am Ap = some r) ?_ ?_
 · rintro a Cn ⟨Am,Al,Ao,Aj,Ap,Ak,Ah,Ai,k,m,Br,Bg,h⟩;refine oE h fun Cm Bn h=>uc 3 k z fun k=>sC k call97 z (c_slices_Sort_int_int fu _ (m.v Br 2 z) Bn) fun Ct Cl hR=>?_;obtain ⟨Cg,rfl,e,Bv,Ab⟩:=hR;refine ⟨_,z,fun a k=>?_⟩;have m:=m.mut 2 z e _ (fun b hb=>⟨Bv b hb,Enc.rd_lt (Enc.ow_rd Ab) b hb⟩) (Enc.ow_nd Ab);refine oE h fun Ce Bx h=>ul 5 k z fun k=>sC k call97 z (c_slices_Sort_int_int fu _ (m.v Bg 3 z) Bx) fun Cj Cp hR=>?_;obtain ⟨Ck,rfl,e,Bm,Aa⟩:=hR;refine ⟨_,z,fun a k=>?_⟩;have m:=m.mut 3 z e _ (fun b hb=>⟨Bm b hb,Enc.rd_lt (Enc.ow_rd Aa) b hb⟩) (Enc.ow_nd Aa);refine ul 3 k z fun k=>d_go [] mixo m z fun Bw hMd=>?_;have m:=hMd;have s:=Ext.refl ([]:List Nat) Bw;refine o2 h fun Bf As Ba Av h=>dr [0,3,1,2,4,5,6,7] 8 [iF (Enc.ow_rd Ab) As,eF (hMd.q Ab 2 z) As 0,iF (Enc.ow_rd Aa) Av,eF (hMd.q Aa 3 z) Av 0] k z s fun k=>bS h k 32 z (fun _ h k=>?_) fun _ h k=>?_
   · refine o2 h fun Bi Aq Bc Ay h=>dr [8,11,9,10,12,13,14,15,16] 9 [iF (Enc.ow_rd Ab) Aq,eF (hMd.q Ab 2 z) Aq 0,iF (Enc.ow_rd Aa) Ay,eF (hMd.q Aa 3 z) Ay 0] k z s fun k=>bS h k 41 z (fun _ h k=>?_) fun _ h k=>?_
     · refine o2 h fun Cb At Bk Au h=>dr [17,20,18,19,21,22,23,24,25] 9 [iF (Enc.ow_rd Ab) At,eF (hMd.q Ab 2 z) At 0,iF (Enc.ow_rd Aa) Au,eF (hMd.q Aa 3 z) Au 0] k z s fun k=>bS h k 50 z (fun _ h k=>?_) fun _ h k=>?_
       · refine dr [26,27,28,29,30,31,32] 7 [bF hMd 0 Af z,bF hMd 1 Ag z] k z s fun k=>dD ?_;refine (nm_then ?_);refine wp_ret (fS h k m z z)
       refine dM [26,27,28,29,30,31,32] 7 z k z s fun a k=>dD ?_;refine (nm_then ?_);refine wp_ret (fS h k m z z)
     refine dM [17,18,19,20,21,22,23,24,25,26,27,28,29,30,31,32] 16 z k z s fun a k=>dD ?_;refine (nm_then ?_);refine wp_ret (fS h k m z z)
   refine dM [8,9,10,11,12,13,14,15,16,17,18,19,20,21,22,23,24,25,26,27,28,29,30,31,32] 25 z k z s fun a k=>dD ?_;refine (nm_then ?_);refine wp_ret (fS h k m z z)
 refine d_go [] mixo m z fun Bz hMd=>?_;have m:=hMd;have s:=Ext.refl ([]:List Nat) Bz;refine dr [0,1,2,3,4,5,7,8,9,10,11,12] 12 [bF hMd 1 Af z,bF hMd 1 Af z,bF hMd 1 Af z,bF hMd 0 Ag z,bF hMd 0 Ag z,bF hMd 0 Ag z] k z s fun k=>dG2 6 13 (by kernel_rfl) z z ?_ ?_
 · refine s_bsN te35 m k z z z z z z z (by decide) z (by exact fC z (fC z (fC z fN))) fun Ax Bh Cs a k m e Bb Bo=>?_;have Co:=lo1 (Nat.le_trans s.size Bo);have Bd:=ow_bx Bb ([x1.fW,x1.fH,x1.fD]:List Int) z z z;refine ns s e fun s=>dM [14] 1 z k z s fun a k=>dG 13 z (s_bsN te35 m k z z z z z z z (by decide) z (by exact fC z (fC z (fC z fN))) fun Aw Bp Ci a k m e Bq Cd=>?_);have Cv:=lo1 (Nat.le_trans s.size Cd);have By:=ow_bx Bq ([t2.fW,t2.fH,t2.fD]:List Int) z z z;refine ns s e fun s=>dM [15] 1 z k z s fun a k=>dD ((nm_then ?_));exact ⟨_,_,_,_,_,_,_,_,k.p z,m.sl [3,2,1,0] z,Bd,By,h⟩
 refine s_bsN te35 m k z z z z z z z (by decide) z (by exact fC z (fC z (fC z fN))) fun Ar Bs Cu a k m e Cc Ca=>?_;have Cq:=lo1 (Nat.le_trans s.size Ca);have Be:=ow_bx Cc ([t2.fW,t2.fH,t2.fD]:List Int) z z z;refine ns s e fun s=>dG 6 z (s_bsN te35 m k z z z z z z z (by decide) z (by exact fC z (fC z (fC z fN))) fun Az Bj Ch a k m e Bl Bu=>?_);have Cr:=lo1 (Nat.le_trans s.size Bu);have Bt:=ow_bx Bl ([x1.fW,x1.fH,x1.fD]:List Int) z z z;refine ns s e fun s=>dM [14,15] 2 z k z s fun a k=>dD ((nm_then ?_));exact ⟨_,_,_,_,_,_,_,_,k.p z,m.sl [3,2,0,1] z,Bt,Be,h⟩
theorem c_impl_Class_1 (fu) {w0} (x1 x2) {b3} (Aa:bx w0 b3 [I x2.fId,I x2.fW,I x2.fH,I x2.fD,I x2.fTare,I x2.fGram,I x2.fCost] 61) {r} (h:d_impl_Class_1 fu x1 x2 = some r):cS 158 [.agg (Flat.e (x1)).toArray,pt b3] w0 (.bool (r)):=by
 refine eg func158 z ntmps158 z fun k m=>uc 2 k z fun k=>s_box m k z z z z z z fun b5 w7 a k m e Ac=>gl 6 [bA m 0 Ac z] k z fun k=>sv k z (r_ldA ta61 (Aa.at (m.a00 Aa.lt1) 0 7 z z z) z k z z) fun a k=>oE h fun x8 Ab h=>cC k m call159 z (c_impl_Fits fu (x1:Item) (x2:Typ)  Ab) fun Ad e a k m=>ul 5 k z fun k=>fS h k m z z
theorem c_impl_Class_2 (fu) {w0} (t1 x2) {b3} (Aa:bx w0 b3 [I x2.fW,I x2.fD,I x2.fH,I x2.fGram] 50) {r} (h:d_impl_Class_2 fu t1 x2 = some r):cS 161 [.agg (Flat.e (t1)).toArray,pt b3] w0 (.bool (r)):=by
 refine eg func161 z ntmps161 z fun k m=>uc 2 k z fun k=>s_box m k z z z z z z fun b5 w7 a k m e Ae=>gl 11 [bF m 0 Ae z,pF (r:=[]) (Aa.at (m.a00 Aa.lt1) 0 1 z z z)] k z fun k=>bS h k 9 z (fun _ h k=>?_) fun _ h k=>?_
 · refine ul 27 k z fun k=>fS h k m z z
 refine gl 7 [bF m 0 Ae z,pF (r:=[]) (Aa.at (m.a00 Aa.lt1) 1 1 z z z)] k z fun k=>bS h k 16 z (fun _ h k=>?_) fun _ h k=>?_
 · refine ul 20 k z fun k=>fS h k m z z
 refine gl 7 [bF m 0 Ae z,pF (r:=[]) (Aa.at (m.a00 Aa.lt1) 2 1 z z z)] k z fun k=>bS h k 23 z (fun _ h k=>?_) fun _ h k=>?_
 · refine ul 13 k z fun k=>fS h k m z z
 refine gl 13 [bF m 0 Ae z,bF m 0 Ae z,pF (r:=[]) (Aa.at (m.a00 Aa.lt1) 3 1 z z z)] k z fun k=>fS h k m z z
theorem c_impl_Class (fu) {w0} (r1) {Af F3} (Ak:rd w0 F3 Af r1) {r} (h:d_impl_Class fu r1 = some r):cS 91 [.agg Af.toArray] w0 (I r):=by
 refine eg func91 z ntmps91 z fun k m=>?_;obtain ⟨v5,F6,v7,F8,v9,Bs,rfl,rfl,Ac,Aa,Ab⟩:=Ak;refine uc 2 k z fun k=>s_box m k z z z z z z fun Be Bm a k m e Ad=>oE h fun Ae Ag h=>gl 6 [bA m 0 Ad z] k z fun k=>cC k m call153 z (c_impl_MasterOf fu _ (mkRequest (m.r Ac) (m.r Aa) (m.r Ab)) Ag) fun Bw e a k m=>pN 3 k z fun a k=>s_alloc m k zeroValue61 z z z z z fun Ah Bn a k m e Am=>sT sizeOf61 m 0 Am 0 k z z fun Bq a k e m Aq=>gl 7 [bA m 1 Ad z] k z fun k=>s_alloc m k zeroValue50 z z z z z fun As Bu a k m e Aj=>sT sizeOf50 m 0 Aj 0 k z z fun Bt a k e m Ax=>oE h fun Bk Ba h=>gl 7 [bA m 2 Ad z] k z fun k=>cC k m call154 z (c_impl_BoundsOk fu _ (mkRequest (m.r Ac) (m.r Aa) (m.r Ab)) Ba) fun Bg e a k m=>ul 4 k z fun k=>?_;refine cJ h k z (fun h=>?_) fun h=>?_
 · refine uc 8 k z fun k=>fS h k m z z
 refine oE h fun Br Ar h=>gc 3 [bA m 2 Ad z] k z fun k=>cC k m call155 z (c_impl_namesOk fu _ (mkRequest (m.r Ac) (m.r Aa) (m.r Ab)) Ar) fun Bj e a k m=>ul 4 k z fun k=>cJ h k z (fun h=>?_) fun h=>?_
 · refine uc 8 k z fun k=>fS h k m z z
 refine oE h fun Bl Ao h=>gc 6 [bF m 2 Ad z,bF m 2 Ad z] k z fun k=>cC k m call156 z (c_impl_TableOk fu _ _ (m.r Ac) Ao) fun Bo e a k m=>ul 4 k z fun k=>cJ h k z (fun h=>?_) fun h=>?_
 · refine uc 8 k z fun k=>fS h k m z z
 refine oE h fun Bh Aw h=>gc 5 [bF m 2 Ad z] k z fun k=>cC k m call157 z (c_slices_ContainsFunc_impl_Item_impl_Item fu _ _ (m.r Ab) ⟨158,[pt Ah],z,call158,fun w Bf Bb r e Az hx=>by subst Az; have m:=m.step e; exact c_impl_Class_1 fu _ _ (Aq.agr (m.a 1 rfl) (by simp)) hx⟩ Aw) fun Bi e a k m=>pN 1 k rfl fun a k=>ul 2 k z fun k=>cI h k rfl (fun Ai h=>?_) fun Ai h=>?_
 · refine uc 8 k z fun k=>fS h k m z z
 refine oE h fun Bc Av h=>gc 5 [bF m 2 Ad z] k z fun k=>cC k m call160 z (c_slices_ContainsFunc_impl_Type_impl_Type fu _ _ (m.r Aa) ⟨161,[pt As],z,call161,fun w Bd Bv r e At hx=>by subst At; have m:=m.step e; exact c_impl_Class_2 fu _ _ (Ax.agr (m.a 0 rfl) (by simp)) hx⟩ Av) fun Bp e a k m=>pN 1 k rfl fun a k=>ul 2 k z fun k=>cI h k rfl (fun Au h=>?_) fun Au h=>?_
 · refine uc 8 k z fun k=>fS h k m z z
 refine uc 9 k z fun k=>fS h k m z z
theorem c_impl_sound (fu) {w0} (r1) {Ab F3} (Ag:rd w0 F3 Ab r1) {r} (h:d_impl_sound fu r1 = some r):cS 56 [.agg Ab.toArray] w0 (.bool (r)):=by
 refine eg func56 z ntmps56 z fun k m=>?_;obtain ⟨v5,F6,v7,F8,v9,Ah,rfl,rfl,Aa,Ac,Ad⟩:=Ag;refine uc 2 k z fun k=>s_box m k z z z z z z fun Ai Aj a k m e Af=>oE h fun Ak Ae h=>gl 6 [bA m 0 Af z] k z fun k=>cC k m call91 z (c_impl_Class fu _ (mkRequest (m.r Aa) (m.r Ac) (m.r Ad)) Ae) fun Al e a k m=>ul 5 k z fun k=>fS h k m z z
theorem c_slices_Clone_int_int (fu) {w0} (Ab) {v2 F3} (Aa:rd w0 F3 [v2] Ab) {r} (h:d_slices_Clone_int_int fu Ab = some r):cL 254 [v2] w0 r:=by
 refine eg func254 z ntmps254 z fun k m=>uc 9 k z fun k=>?_;obtain ⟨Ai,Ae,Ad⟩:=r_nilq Aa;refine sv k z (Ad k underlying35 z z z) fun a k=>ul 2 k z fun k=>c_cond (b:=Ai) k z (fun Ac=>?_) (fun Ac=>?_)
 · have Af:=Ae Ac;rw [Af] at h;have h:some (([]:List Int)) = some r:=h;refine uc 7 k z fun k=>?_;cases h;exact finR1 k z (RV.tmp k z) ⟨_,[],z,m.ext,(ow_nil _),(by simp)⟩
 refine uc 4 k z fun k=>sB te35 m k z (by exact fN) fun Aq Ao Am a k m e Al=>?_;have Aj:=ow_bx Al ([]:List Int) z z z;refine pN 1 k z fun a k=>oE h fun Ap Ah h=>s_appF Ah te35 z m 0 Aj (News.rd (m.r Aa)) z z k z z z z z z z fun As Ag Ar a k e m Ak=>ul 4 k z fun k=>?_;cases h;exact finR1 k z (RV.tmp k z) ⟨_,Ag,z,m.ext,(m.v Ak 0 z),(m.fresh 0 z)⟩
theorem c_slices_Compact_int_int (fu:Nat) {w0:World} (x1:List Int) {v2:Value} {F3:List Nat} (Aa:ow w0 F3 [v2] x1) {r:List Int}
    (h:d_slices_Compact_int_int fu x1 = some r) :
    Calls Tryz.prog 255 #[v2] w0 fun e w=>∃ (v0:Value) (G0:List Nat),e = .returned v0 ∧ Ext F3 w0 w ∧ ow w G0 [v0] r ∧ (∀ b ∈ G0,b ∈ F3 ∨ w0.heap.size ≤ b) :=
  c_compactInt (fun blk off cap zs w=>Tryz.slices_Compact_int blk off cap zs w) (fun p cap w=>Tryz.slices_Compact_int_empty p cap w) x1 Aa h

theorem c_impl_kinds (fu) {w0} (Ae) {v2 F3} (Ad:rd w0 F3 [v2] Ae) {r} (h:d_impl_kinds fu Ae = some r):cL 179 [v2] w0 r:=by
 refine eg func179 z ntmps179 z fun k m=>oE h fun x5 Ai h=>uc 8 k z fun k=>sL k m call254 z (c_slices_Clone_int_int fu _ (m.r Ad) Ai) fun w9 Au Ak Ac k m=>oE h fun Ao Al h=>ul 6 k z fun k=>sC k call97 z (c_slices_Sort_int_int fu _ (m.v Ac 0 z) Al) fun Ar Aw hR=>?_;obtain ⟨Aq,rfl,e,Am,Ab⟩:=hR;refine ⟨_,z,fun a k=>?_⟩;have m:=m.mut 0 z e _ (fun b hb=>⟨Am b hb,Enc.rd_lt (Enc.ow_rd Ab) b hb⟩) (Enc.ow_nd Ab);refine oE h fun At Ah h=>ul 5 k z fun k=>sC k call255 z (c_slices_Compact_int_int fu _ (m.v Ab 0 z) Ah) fun As Av hR=>?_;obtain ⟨Ap,Af,rfl,e,Aa,Aj⟩:=hR;refine ⟨_,z,fun a k=>?_⟩;have m:=m.mut 0 z e _ (fun b hb=>⟨Aj b hb,Enc.rd_lt (Enc.ow_rd Aa) b hb⟩) (Enc.ow_nd Aa);refine ul 4 k z fun k=>?_;cases h;exact finR1 k z (RV.tmp k z) ⟨_,Af,z,m.ext,(m.v Aa 0 z),(m.fresh 0 z)⟩
theorem c_impl_Present (fu) {w0} (r1) {Ap F3} (Au:rd w0 F3 Ap r1) {r} (h:d_impl_Present fu r1 = some r):cL 110 [.agg Ap.toArray] w0 r:=by
 refine eg func110 z ntmps110 z fun k m=>?_;obtain ⟨v5,F6,v7,F8,v9,Bv,rfl,rfl,Ao,Ai,Ab⟩:=Au;refine uc 2 k z fun k=>s_box m k z z z z z z fun Bl Br a k m e Aq=>oE h fun Bz Ar h=>gl 7 [bA m 0 Aq z] k z fun k=>cC k m call56 z (c_impl_sound fu _ (mkRequest (m.r Ao) (m.r Ai) (m.r Ab)) Ar) fun Ca e a k m=>ul 3 k z fun k=>cJ h k z (fun h=>?_) fun h=>?_
 · refine uc 7 k z fun k=>?_;cases h;exact finR1 k z (RV.tmp k z) ⟨_,[],z,m.ext,(ow_nil _),(by simp)⟩
 refine uc 4 k z fun k=>sB te35 m k z (by exact fN) fun Am Ba Bk a k m e Bd=>?_;have Bh:=ow_bx Bd ([]:List Int) z z z;refine gl 13 [bF m 1 Aq z,lF Ab] k z fun k=>lG (fun n a w=>∃ Ah Ag Af Ad Ac,K 25 [(3,Ag),(11,v9),(12,I ((r1.fItems.length:Int))),(13,I Ac)] a ∧ St [] w0 w [(Af,Ad)] ∧ ow Ad Af [Ag] Ah ∧ d_impl_Present_L1 fu r1 n Ah Ac = some r) ?_ fu ?_
 · rintro Bo a Cb ⟨Ah,Ag,Af,Ad,Ac,k,m,Aj,h⟩;refine uc 6 k z fun k=>cJ h k z (fun h=>?_) fun h=>?_
   · refine oE h fun Aa Ak h=>gc 8 [iF Ab Ak,eA (m.r Ab) Ak] k z fun k=>s_alloc m k zeroValue59 z z z z z fun Bp Bw a k m e Bj=>sT sizeOf59 m 0 Bj 0 k z z fun Bq a k e m As=>gl 6 [bF m 0 As z] k z fun k=>sB te35 m k z (by exact fC z fN) fun Bx Bt Bm a k m e Bg=>?_;have Bf:=ow_bx Bg ([Aa.fClass]:List Int) z z z;refine oE h fun Av Bi h=>s_appF Bi te35 z m 2 Aj (News.rd (m.q Bf 0 z)) z z k z z z z z z z fun Az Ax Ay a k e m Bb=>ul 9 k z fun k=>?_;exact ⟨_,_,_,_,_,k.p z,m.sl [2] z,Bb,h⟩
   refine oE h fun Bs Be h=>uc 8 k z fun k=>sL k m call179 z (c_impl_kinds fu _ (m.q Aj 0 z) Be) fun Bu Bn Al Ae k m=>ul 4 k z fun k=>?_;cases h;exact finR1 k z (RV.tmp k z) ⟨_,Al,z,m.ext,(m.v Ae 0 z),(m.fresh 0 z)⟩
 exact ⟨_,_,_,_,_,k.p z,m.sl [0] z,Bh,h⟩
theorem c_impl_mutual (fu) {w0} (Ac a5 b6) {v2 F3} (Ab:rd w0 F3 [v2] Ac) {r} (h:d_impl_mutual fu Ac a5 b6 = some r):cS 183 [v2,I a5,I b6] w0 (.bool (r)):=by
 refine eg func183 z ntmps183 z fun k m=>oE h fun x7 Ae h=>uc 10 k z fun k=>cC k m call229 z (c_impl_Beside fu _ _ _ (m.r Ab) Ae) fun Af e a k m=>pN 1 k z fun a k=>bS h k 11 z (fun _ h k=>?_) fun _ h k=>?_
 · refine pN 3 k z fun a k=>oE h fun Ah Ad h=>cC k m call229 z (c_impl_Beside fu _ _ _ (m.r Ab) Ad) fun Ag e a k m=>ul 5 k z fun k=>fS h k m z z
 refine ul 9 k z fun k=>fS h k m z z
theorem c_impl_Groups_1_1 (fu) {w0} (x1 x2 x8) {v5 F6 b3} (Ac:bx w0 b3 [v5] 51) (Aa:rd w0 F6 [v5] x2) {b9} (Ab:bx w0 b9 [I x8] 3) {r} (h:d_impl_Groups_1_1 fu x1 x2 x8 = some r):cS 182 [I x1,pt b3,pt b9] w0 (.bool (r)):=by
 refine eg func182 z ntmps182 z fun k m=>oE h fun Af Ad h=>gc 10 [pF (r:=[]) (Ac.at (m.a00 Ac.lt1) 0 1 z z z),pF (r:=[]) (Ab.at (m.a00 Ab.lt1) 0 1 z z z)] k z fun k=>cC k m call183 z (c_impl_mutual fu _ _ _ (m.r Aa) Ad) fun Ae e a k m=>ul 5 k z fun k=>fS h k m z z
theorem c_slices_IndexFunc_int_int (fu) {w0} (Aa f5) {v2 F3} (Ab:rd w0 F3 [v2] Aa) {v6} (Ag:FnOk1 Tryz.prog w0 v6 f5) {r} (h:d_slices_IndexFunc_int_int fu Aa f5 = some r):cS 250 [v2,v6] w0 (I r):=by
 refine eg func250 z ntmps250 z fun k m=>?_;obtain ⟨Aj,Ae,rfl,Ak,Af⟩:=Ag;refine gc 14 [lF Ab] k z fun k=>lG (fun n a w=>∃ Ac,K 19 [(0,v2),(1,(.func (.func Aj) #[] Ae.toArray)),(7,I ((Aa.length:Int))),(8,I Ac)] a ∧ St [] w0 w [] ∧ d_slices_IndexFunc_int_int_L1 fu Aa f5 n Ac = some r) ?_ fu ?_
 · rintro Ap a Ar ⟨Ac,k,m,h⟩;refine uc 6 k z fun k=>cJ h k z (fun h=>?_) fun h=>?_
   · refine o2 h fun As Ad Aq Ah h=>gc 17 [iF Ab Ad,eF (m.r Ab) Ad 0] k z fun k=>s_callv k Ak z z z z z z (Af _ _ _ _ m.ext z Ah) fun Am Ao hR=>?_;obtain ⟨rfl,e⟩:=hR;refine ⟨_,z,fun a k=>?_⟩;have m:=m.step e;refine ul 2 k z fun k=>cJ h k z (fun h=>?_) fun h=>?_
     · refine uc 12 k z fun k=>fS h k m z z
     refine uc 8 k z fun k=>?_;exact ⟨_,k.p z,m.sl [] z,h⟩
   refine uc 11 k z fun k=>fS h k m z z
 exact ⟨_,k.p z,m.sl [] z,h⟩
theorem c_slices_ContainsFunc_int_int (fu) {w0} (Aa f5) {v2 F3} (Ab:rd w0 F3 [v2] Aa) {v6} (Ad:FnOk1 Tryz.prog w0 v6 f5) {r} (h:d_slices_ContainsFunc_int_int fu Aa f5 = some r):cS 174 [v2,v6] w0 (.bool (r)):=by
 refine eg func174 z ntmps174 z fun k m=>?_;obtain ⟨Ak,Ai,rfl,Ah,Ac⟩:=Ad;refine oE h fun Aj Ag h=>uc 9 k z fun k=>cC k m call250 z (c_slices_IndexFunc_int_int fu _ _ (m.r Ab) ⟨_,_,z,Ah,fun w Ae Af r e=>Ac w Ae Af r (m.ext.trans e (by simp))⟩ Ag) fun Al e a k m=>ul 5 k z fun k=>fS h k m z z
theorem c_impl_Groups_1 (fu) {w0} (l1 x5 Ad) {v2 F3} (Af:rd w0 F3 [v2] l1) {v8 F9 b6} (Ab:bx w0 b6 [v8] 51) (Ac:rd w0 F9 [v8] x5) {Aa} (Ae:bx w0 Aa [I Ad] 3) {r} (h:d_impl_Groups_1 fu l1 x5 Ad = some r):cS 181 [v2,pt b6,pt Aa] w0 (.bool (r)):=by
 refine eg func181 z ntmps181 z fun k m=>oE h fun Ak Ag h=>uc 9 k z fun k=>cC k m call174 z (c_slices_ContainsFunc_int_int fu _ _ (m.r Af) ⟨182,[pt b6,pt Aa],z,call182,fun w Aj Ai r e Ah hx=>by subst Ah; have m:=m.step e; exact c_impl_Groups_1_1 fu _ _ _ (Ab.agr (m.a00 Ab.lt1) (by simp)) (m.r Ac) (Ae.agr (m.a00 Ae.lt1) (by simp)) hx⟩ Ag) fun Al e a k m=>pN 2 k rfl fun a k=>ul 3 k z fun k=>fS h k m rfl rfl
theorem c_slices_IndexFunc_ints_int (fu) {w0} (Ab f5) {v2 F3} (Aa:rd w0 F3 [v2] Ab) {v6} (Ah:FnOk1 Tryz.prog w0 v6 f5) {r} (h:d_slices_IndexFunc_ints_int fu Ab f5 = some r):cS 180 [v2,v6] w0 (I r):=by
 refine eg func180 z ntmps180 z fun k m=>?_;obtain ⟨Ak,Af,rfl,Ao,Ag⟩:=Ah;refine gc 14 [lF Aa] k z fun k=>lG (fun n a w=>∃ Ac,K 19 [(0,v2),(1,(.func (.func Ak) #[] Af.toArray)),(7,I ((Ab.length:Int))),(8,I Ac)] a ∧ St [] w0 w [] ∧ d_slices_IndexFunc_ints_int_L1 fu Ab f5 n Ac = some r) ?_ fu ?_
 · rintro Av a Az ⟨Ac,k,m,h⟩;refine uc 6 k z fun k=>cJ h k z (fun h=>?_) fun h=>?_
   · refine oE h fun At Ae h=>gc 16 [iF Aa Ae] k z fun k=>?_;obtain ⟨Ax,Am,As,Ad,Aj,Al⟩:=rd_get Aa (ix_some Ae).2.2;obtain ⟨Ay,rfl⟩:∃ v,Am = [v]:=by obtain ⟨_,_,hq,_⟩:=Ad; exact ⟨_,hq⟩
     refine oE h fun Au Aq h=>gl 1 [pF (Aj.agr (m.a00 (Enc.rd_lt Aa)) Al)] k z fun k=>s_callv k Ao z z z z z z (Ag _ _ _ _ m.ext ⟨_,(m.r Ad)⟩ Aq) fun Ar Aw hR=>?_;obtain ⟨rfl,e⟩:=hR;refine ⟨_,z,fun a k=>?_⟩;have m:=m.step e;refine ul 2 k z fun k=>cJ h k z (fun h=>?_) fun h=>?_
     · refine uc 12 k z fun k=>fS h k m z z
     refine uc 8 k z fun k=>?_;exact ⟨_,k.p z,m.sl [] z,h⟩
   refine uc 11 k z fun k=>fS h k m z z
 exact ⟨_,k.p z,m.sl [] z,h⟩
theorem c_impl_Groups (fu) {w0} (Ak Bc) {v2 F3} (Au:rd w0 F3 [v2] Ak) {v6 F7} (Bb:rd w0 F7 [v6] Bc) {r} (h:d_impl_Groups fu Ak Bc = some r):cL 109 [v2,v6] w0 r:=by
 refine eg func109 z ntmps109 z fun k m=>uc 2 k z fun k=>s_box m k z z z z z (rd_c Au) fun b9 Aj a k m e Dj=>ul 5 k z fun k=>sB te88 m k z (by exact fN) fun Ba Cz Ek a k m e Dn=>?_;have Ca:=ow_bx0 (α:=List Int) Dn;refine oE h fun Ar Dr h=>ul 7 k z fun k=>sL k m call179 z (c_impl_kinds fu _ (m.r Bb) Dr) fun Ao Bd Ah Ai k m=>gl 5 [lF (Enc.ow_rd Ai)] k z fun k=>lG (fun n a w=>∃ Ae Af Ac As Ag,K 42 [(2,pt b9),(5,Af),(11,Bd),(12,I ((Ar.length:Int))),(13,I Ag)] a ∧ St [] w0 w [([b9],Aj),(Ah,Ao),(Ac,As)] ∧ ow As Ac [Af] Ae ∧ d_impl_Groups_L1 fu Ak Ar n Ae Ag = some r) ?_ fu ?_
 · rintro Cd a Ej ⟨Ae,Af,Ac,As,Ag,k,m,Aa,h⟩;refine uc 6 k z fun k=>cJ h k z (fun h=>?_) fun h=>?_
   · refine uc 2 k z fun k=>cg (fun a w=>∃ Al Am At Ap,K 42 [(2,pt b9),(5,Am),(11,Bd),(12,I ((Ar.length:Int))),(13,I Ag)] a ∧ St [] w0 w [([b9],Aj),(Ah,Ao),(At,Ap)] ∧ ow Ap At [Am] Al ∧ d_impl_Groups_J1 fu (d_impl_Groups_L1 fu Ak Ar Cd) Ag Al = some r) ?_ ?_
     · rintro a Er ⟨Al,Am,At,Ap,k,m,Ck,h⟩;refine uc 5 k z fun k=>?_;exact ⟨_,_,_,_,_,k.p z,m.sl [0,1,2] z,Ck,h⟩
     refine oE h fun Ad Az h=>gc 5 [iF (Enc.ow_rd Ai) Az,eF (m.q Ai 1 z) Az 0] k z fun k=>s_alloc m k zeroValue3 z z z z z fun Aw Gl a k m e Cm=>sT sizeOf3 m 0 Cm 0 k z z fun Bg a k e m Aq=>oE h fun El Do h=>gl 6 [bF m 0 Aq z] k z fun k=>cC k m call68 z (c_impl_in fu _ _ _  Do) fun Et e a k m=>ul 3 k z fun k=>cJ h k z (fun h=>?_) fun h=>?_
     · refine uc 4 k z fun k=>?_;exact ⟨_,_,_,_,k.p z,m.sl [1,2,3] z,Aa,h⟩
     refine oE h fun Bh Df h=>uc 6 k z fun k=>cC k m call180 z (c_slices_IndexFunc_ints_int fu _ _ (m.q Aa 3 z) ⟨181,[pt b9,pt Aw],z,call181,fun w Gh Fd r e Ay hx=>by obtain ⟨_,Ay⟩:=Ay; have m:=m.step e; exact c_impl_Groups_1 fu _ _ _ Ay (m.y Dj 1 z) (m.r Au) (m.y Aq 0 z) hx⟩ Df) fun Eo e a k m=>ul 9 k z fun k=>cJ h k z (fun h=>?_) fun h=>?_
     · refine gc 3 [bF m 0 Aq z] k z fun k=>sB te35 m k z (by exact fC z fN) fun Bj Gb Ga a k m e Dt=>?_;have Bk:=ow_bx Dt ([Ad]:List Int) z z z;refine sB te88 m k z (by exact (List.forall_mem_cons.2 ⟨congrArg Array.size (rd_c (Enc.ow_rd Bk)),fN⟩)) fun Ez Fj Fu a k m e Ee=>oE h fun Bq Cl h=>?_;have Dz:=Enc.ow_agr Bk (m.a 1 z);have Bs:=News.box Ee (m.a 0 z) (by simp) (m:=1);have Bo:=m.a 5 z;have m:=m.sl [5,1,0,2,3,4] z;have m:=m.join2;refine s_appO (F:=Ac) (G:=[Bj]) Cl te88 z m Aa Bo Bs Dz (Agr.refl _ _) k z z z z z z fun Da Eg Cy a k e m Ce=>ul 4 k z fun k=>?_;exact ⟨_,_,_,_,k.p z,m.sl [3,4,0] z,Ce,h⟩
     refine d_go (Ac) mixo m z fun Cu hMd=>?_;have m:=hMd;have s:=Ext.refl ((Ac):List Nat) Cu;refine dM [0,1,2,3] 4 z k z s fun a k=>oE h fun Fs Ab h=>dT k 4 z z s (fun w s=>r_ixa (Enc.ow_rd Aa) Ab k ts88 z z z) fun a k=>?_;obtain ⟨Fg,Cc,Gc,Cs,Fp,Fe⟩:=rd_get (Enc.ow_rd Aa) (ix_some Ab).2.2;obtain ⟨Ff,rfl⟩:∃ v,Cc = [v]:=by obtain ⟨_,_,hq,_⟩:=Cs; exact ⟨_,hq⟩
     refine dT k 6 z z s (fun w s=>r_ld1 t13 (r:=[]) (Aq.at (hMd.az 0 3 z z z s) 0 1 z z z) k z z) fun a k=>?_;obtain ⟨Ex,By,Gi,Dd,Eh,Fa⟩:=rd_get (Enc.ow_rd Aa) (ix_some Ab).2.2;obtain ⟨Fz,rfl⟩:∃ v,By = [v]:=by obtain ⟨_,_,hq,_⟩:=Dd; exact ⟨_,hq⟩
     refine dG2 5 7 (by kernel_rfl) z z ?_ ?_ 
     · obtain ⟨Fm,Ec,Gk,Ds,Bf,Dy⟩:=rd_get (Enc.ow_rd Aa) (ix_some Ab).2.2;obtain ⟨Ep,rfl⟩:∃ v,Ec = [v]:=by obtain ⟨_,_,hq,_⟩:=Ds; exact ⟨_,hq⟩
       refine gl 1 [pF (Bf.agr (m.a 3 z) Dy)] k z fun k=>wpList_nil ⟨s,?_⟩;refine dG 7 z (s_bsN te35 m k z z z z z z z (by decide) z (by exact fC z fN) fun Dg De Fc a k m e Bp Dq=>?_);have Fi:=lo1 (Nat.le_trans s.size Dq);have Dc:=ow_bx Bp ([Ad]:List Int) z z z;refine ns s e fun s=>dG 8 z ?_;obtain ⟨Eu,Ei,m,Cr,Cj,Bu,Bl⟩:=m.opnS 4 z Aa Ab Bf z (M':=[([Dg],De),([Aw],Bg),([b9],Aj),(Ah,Ao)]) z;refine oE h fun Ch Ci h=>s_appFN Ci te35 z m 1 Cj (News.rd (m.q Dc 2 z)) z z k z z z z z z z fun Bn Cn Gg a k e m Ax Bm=>?_;have Fn:∀ y ∈ Cn,y ∈ (Ac) ∨ _ ≤ y:=fun y hy=>(Bm y hy).elim (fun hy=>(fun y hy=>(fun y hy=>Or.inl hy) y (Bl y hy)) y hy) (fun h=>Or.inr (Nat.le_trans s.size h));have s:=s.trans e (fun y hy=>(fun y hy=>Or.inl hy) y (Bl y hy));refine wpList_nil ⟨s,?_⟩;refine oE h fun Gd Gj h=>dT k 9 z z s (fun w s=>r_ixa (Enc.ow_rd Aa) Ab k ts88 z z z) fun a k=>dG 10 z (s_stH1 (α:=List Int) (sz:=1) (cs':=[Bn]) sizeOf35 m 0 Cr 0 k (rd_c (Enc.ow_rd Ax)) (rd_o (Enc.ow_rd Ax)) z z z z z z z z z z fun Du a k e m Cw=>?_);obtain ⟨Bv,m,Cp⟩:=(m.sl [0,1,2,3,4,5] z).cls Cw Ax;have s:=s.trans e (fun y hy=>(fun y hy=>Or.inl hy) y (Bu y hy));refine wpList_nil ⟨s,?_⟩;refine dD ?_;refine (ue 2 k z fun k=>?_);exact ⟨_,_,_,_,k.p z,m.sl [3,4,0] z,Cp,h⟩
     refine s_bsN te35 m k z z z z z z z (by decide) z (by exact fC z fN) fun Ct Dx Ey a k m e Db Dk=>?_;have Fb:=lo1 (Nat.le_trans s.size Dk);have Cq:=ow_bx Db ([Ad]:List Int) z z z;refine ns s e fun s=>?_;obtain ⟨Fk,Ef,Em,Ea,Fh,Gf⟩:=rd_get (Enc.ow_rd Aa) (ix_some Ab).2.2;obtain ⟨Fy,rfl⟩:∃ v,Ef = [v]:=by obtain ⟨_,_,hq,_⟩:=Ea; exact ⟨_,hq⟩
     refine dG 5 z ?_;obtain ⟨Ev,Bt,Fl,Bz,Bi,Cb⟩:=rd_get (Enc.ow_rd Aa) (ix_some Ab).2.2;obtain ⟨En,rfl⟩:∃ v,Bt = [v]:=by obtain ⟨_,_,hq,_⟩:=Bz; exact ⟨_,hq⟩
     refine gl 1 [pF (Bi.agr (m.a 4 z) Cb)] k z fun k=>wpList_nil ⟨s,?_⟩;refine dG 8 z ?_;obtain ⟨Fq,Fv,m,Ed,Dh,Dl,Be⟩:=m.opnS 4 z Aa Ab Bi z (M':=[([Ct],Dx),([Aw],Bg),([b9],Aj),(Ah,Ao)]) z;refine oE h fun Di Dp h=>s_appFN Dp te35 z m 1 Dh (News.rd (m.q Cq 2 z)) z z k z z z z z z z fun Cx Bx Ew a k e m Av Eb=>?_;have Ge:∀ y ∈ Bx,y ∈ (Ac) ∨ _ ≤ y:=fun y hy=>(Eb y hy).elim (fun hy=>(fun y hy=>(fun y hy=>Or.inl hy) y (Be y hy)) y hy) (fun h=>Or.inr (Nat.le_trans s.size h));have s:=s.trans e (fun y hy=>(fun y hy=>Or.inl hy) y (Be y hy));refine wpList_nil ⟨s,?_⟩;refine oE h fun Fw Es h=>dT k 9 z z s (fun w s=>r_ixa (Enc.ow_rd Aa) Ab k ts88 z z z) fun a k=>dG 10 z (s_stH1 (α:=List Int) (sz:=1) (cs':=[Cx]) sizeOf35 m 0 Ed 0 k (rd_c (Enc.ow_rd Av)) (rd_o (Enc.ow_rd Av)) z z z z z z z z z z fun Co a k e m Br=>?_);obtain ⟨Dw,m,Cg⟩:=(m.sl [0,1,2,3,4,5] z).cls Br Av;have s:=s.trans e (fun y hy=>(fun y hy=>Or.inl hy) y (Dl y hy));refine wpList_nil ⟨s,?_⟩;refine dD ?_;refine (ue 2 k z fun k=>?_);exact ⟨_,_,_,_,k.p z,m.sl [3,4,0] z,Cg,h⟩
   refine uc 12 k z fun k=>?_;cases h;exact finR1 k z (RV.tmp k z) ⟨_,Ac,z,m.ext,(m.v Aa 2 z),(m.fresh 2 z)⟩
 exact ⟨_,_,_,_,_,k.p z,m.sl [2,0,1] z,Ca,h⟩
theorem c_impl_GroupsOf (fu) {w0} (r1) {Aj F3} (Am:rd w0 F3 Aj r1) {r} (h:d_impl_GroupsOf fu r1 = some r):cL 58 [.agg Aj.toArray] w0 r:=by
 refine eg func58 z ntmps58 z fun k m=>?_;obtain ⟨v5,F6,v7,F8,v9,Ay,rfl,rfl,Aa,Ab,Ac⟩:=Am;refine uc 2 k z fun k=>s_box m k z z z z z z fun At Av a k m e Ag=>oE h fun Bc Al h=>gl 7 [bA m 0 Ag z] k z fun k=>cC k m call56 z (c_impl_sound fu _ (mkRequest (m.r Aa) (m.r Ab) (m.r Ac)) Al) fun Be e a k m=>ul 3 k z fun k=>cJ h k z (fun h=>?_) fun h=>?_
 · refine uc 7 k z fun k=>?_;cases h;exact finR1 k z (RV.tmp k z) ⟨_,[],z,m.ext,(ow_nil _),(by simp)⟩
 refine uc 3 k z fun k=>d_go [] mixo m z fun Ap hMd=>?_;have m:=hMd;have s:=Ext.refl ([]:List Nat) Ap;refine dr [0,1,2] 3 [bF hMd 0 Ag z,bA hMd 0 Ag z] k z s fun k=>dG 3 z (oE h fun Au Ar h=>?_);refine sC k call110 z (c_impl_Present fu _ (mkRequest (m.r Aa) (m.r Ab) (m.r Ac)) Ar) fun As Ax hR=>?_;obtain ⟨Bf,Ai,rfl,e,Ae,Ah⟩:=hR;refine ⟨_,z,fun a k=>?_⟩;have m:=m.nw e Ah Ae;have Ba:=fun (y:Nat) (hy:y ∈ Ai)=>Nat.le_trans s.size (Ah y hy);refine ns s e fun s=>dG 4 z (oE h fun Bg Aq h=>sC k call109 z (c_impl_Groups fu _ _ (m.r Aa) (m.q Ae 0 z) Aq) fun Bd Bb hR=>?_);obtain ⟨Aw,Ad,rfl,e,Af,Ak⟩:=hR;refine ⟨_,z,fun a k=>?_⟩;have m:=m.nw e Ak Af;have Az:=fun (y:Nat) (hy:y ∈ Ad)=>Nat.le_trans s.size (Ak y hy);refine ns s e fun s=>dM [5] 1 z k z s fun a k=>dD ((nm_then ?_));refine wp_ret ?_;cases h;exact finR1 k z (RV.tmp k z) ⟨_,Ad,z,m.ext,(m.v Af 0 z),(m.fresh 0 z)⟩
theorem c_bits_Mul64 (fu) {w0} (x1 y2) {r} (h:d_bits_Mul64 fu x1 y2 = some r):cS 287 [.int .u64 (x1),.int .u64 (y2)] w0 (.tuple #[.int .u64 (r.1),.int .u64 (r.2)]):=by
 refine eg func287 z ntmps287 z fun k m=>uc 16 k z fun k=>sv k z (r_shr (y:=32) k z z z) fun a k=>ul 13 k z fun k=>sv k z (r_shr (y:=32) k z z z) fun a k=>ul 17 k z fun k=>sv k z (r_shr (y:=32) k z z z) fun a k=>ul 14 k z fun k=>sv k z (r_shr (y:=32) k z z z) fun a k=>ul 21 k z fun k=>sv k z (r_shr (y:=32) k z z z) fun a k=>ul 13 k z fun k=>?_;cases h;exact finR2 k z (RV.tmp k z) (RV.tmp k z) ⟨z,m.ext⟩
theorem c_bits_Mul (fu) {w0} (x1 y2) {r} (h:d_bits_Mul fu x1 y2 = some r):cS 242 [.int .u64 (x1),.int .u64 (y2)] w0 (.tuple #[.int .u64 (r.1),.int .u64 (r.2)]):=by
 refine eg func242 z ntmps242 z fun k m=>oE h fun x3 Aa h=>uc 14 k z fun k=>cC k m call287 z (c_bits_Mul64 fu _ _  Aa) fun w6 e a k m=>ul 16 k z fun k=>?_;cases h;exact finR2 k z (RV.tmp k z) (RV.tmp k z) ⟨z,m.ext⟩
theorem c_slices_Repeat_int_int (fu) {w0} (x1 Ag) {v2 F3} (Ah:rd w0 F3 [v2] x1) {r} (h:d_slices_Repeat_int_int fu x1 Ag = some r):cL 165 [v2,I Ag] w0 r:=by
 refine eg func165 z ntmps165 z fun k m=>uc 5 k z fun k=>cg (fun a w=>K 48 [(0,v2),(1,I Ag)] a ∧ St [] w0 w [] ∧ d_slices_Repeat_int_int_J2 fu x1 Ag = some r) ?_ ?_
 · rintro a w7 ⟨k,m,h⟩;refine gc 4 [lF Ah] k z fun k=>sv k z (r_cv k underlying3 underlying173 z z) fun a k=>pN 1 k z fun a k=>sv k z (r_cv k underlying3 underlying173 z z) fun a k=>oE h fun x8 Am h=>cC k m call242 z (c_bits_Mul fu _ _  Am) fun Bf e a k m=>ul 7 k z fun k=>cg (fun a w=>K 48 [(0,v2),(6,.int .u64 (x8.2))] a ∧ St [] w0 w [] ∧ d_slices_Repeat_int_int_J1 fu x1 x8 = some r) ?_ ?_
   · rintro a Bm ⟨k,m,h⟩;refine uc 3 k z fun k=>sv k z (r_cv k underlying173 underlying3 z z) fun a k=>oE h fun Aj Az h=>s_mk Az te35 z z m k z z z z z z fun Al Bn a Ba k m e Ay=>ul 7 k z fun k=>s_cp (lo:=0) te35 m 0 Ay (Part.self _) (m.r Ah) k z z z z z z z fun Bb a k e m Au=>ul 5 k z fun k=>lG (fun n a w=>∃ Ae Af Aa Ai Ab,K 48 [(7,Af),(8,I Ab)] a ∧ St [] w0 w [(Aa,Ai)] ∧ ow Ai Aa [Af] Ae ∧ d_slices_Repeat_int_int_L1 fu  n Ae Ab = some r) ?_ fu ?_
     · rintro Bj a Bk ⟨Ae,Af,Aa,Ai,Ab,k,m,Ac,h⟩;refine gc 9 [lF (Enc.ow_rd Ac)] k z fun k=>cJ h k z (fun h=>?_) fun h=>?_
       · refine uc 3 k z fun k=>d_go (Aa) mixo m z fun Bc hMd=>?_;have m:=hMd;have s:=Ext.refl ((Aa):List Nat) Bc;refine dM [0,1,2,4,5] 5 z k z s fun a k=>oE h fun Bh Be h=>?_;obtain ⟨Bl,Bi,Ar,At⟩:=sl_from (Enc.ow_rd Ac) Be ts35;refine dT k 3 z z s (fun w s=>At k z z z _) fun a k=>oE h fun Ak Av h=>?_;obtain ⟨Bg,Aq,As⟩:=sl_to (Enc.ow_rd Ac) Av ts35;refine dT k 6 z z s (fun w s=>As k z z z _) fun a k=>dG 7 z (s_cp (lo:=Ab) te35 m 0 Ac Ar (Enc.rd_agr Aq (m.a 0 z)) k z z z z z z z fun Aw a k e m Bd=>?_);have s:=s.trans e (fun y hy=>Or.inl hy);refine wpList_nil ⟨s,?_⟩;refine dM [8,9] 2 z k z s fun a k=>dD ((ue 2 k z fun k=>?_));exact ⟨_,_,_,_,_,k.p z,m.sl [0] z,Bd,h⟩
       refine uc 12 k z fun k=>?_;cases h;exact finR1 k z (RV.tmp k z) ⟨_,Aa,z,m.ext,(m.v Ac 0 z),(m.fresh 0 z)⟩
     exact ⟨_,_,_,_,_,k.p z,m.sl [0] z,Au,h⟩
   refine uc 5 k z fun k=>bS h k 23 z (fun _ h k=>?_) fun _ h k=>?_
   · refine ul 6 k z fun k=>?_;exact nS h
   refine ul 5 k z fun k=>cJ h k z (fun h=>?_) fun h=>?_
   · exact nS h
   refine uc 2 k z fun k=>?_;exact ⟨k.p z,m.sl [] z,h⟩
 refine uc 6 k z fun k=>cJ h k z (fun h=>?_) fun h=>?_
 · exact nS h
 refine uc 2 k z fun k=>?_;exact ⟨k.p z,m.sl [] z,h⟩
theorem c_impl_Units (fu) {w0} (r1) {Ao F3} (Ax:rd w0 F3 Ao r1) {r} (h:d_impl_Units fu r1 = some r):cL 100 [.agg Ao.toArray] w0 r:=by
 refine eg func100 z ntmps100 z fun k m=>?_;obtain ⟨v5,F6,v7,F8,v9,Bu,rfl,rfl,Am,Ai,Ab⟩:=Ax;refine uc 2 k z fun k=>s_box m k z z z z z z fun Bn Bq a k m e Ap=>oE h fun By Aq h=>gl 7 [bA m 0 Ap z] k z fun k=>cC k m call56 z (c_impl_sound fu _ (mkRequest (m.r Am) (m.r Ai) (m.r Ab)) Aq) fun Ca e a k m=>ul 3 k z fun k=>cJ h k z (fun h=>?_) fun h=>?_
 · refine uc 7 k z fun k=>?_;cases h;exact finR1 k z (RV.tmp k z) ⟨_,[],z,m.ext,(ow_nil _),(by simp)⟩
 refine uc 4 k z fun k=>sB te35 m k z (by exact fN) fun Al Ba Bk a k m e Bd=>?_;have Bf:=ow_bx Bd ([]:List Int) z z z;refine gl 13 [bF m 1 Ap z,lF Ab] k z fun k=>lG (fun n a w=>∃ Ae Ah Ad Ag Ac,K 27 [(3,Ah),(11,v9),(12,I ((r1.fItems.length:Int))),(13,I Ac)] a ∧ St [] w0 w [(Ad,Ag)] ∧ ow Ag Ad [Ah] Ae ∧ d_impl_Units_L1 fu r1 n Ae Ac = some r) ?_ fu ?_
 · rintro Bo a Bw ⟨Ae,Ah,Ad,Ag,Ac,k,m,Aj,h⟩;refine uc 6 k z fun k=>cJ h k z (fun h=>?_) fun h=>?_
   · refine oE h fun Aa Ak h=>gc 9 [iF Ab Ak,eA (m.r Ab) Ak] k z fun k=>s_alloc m k zeroValue59 z z z z z fun Bp Br a k m e Au=>pN 1 k z fun a k=>sT sizeOf59 m 0 Au 0 k z z fun Bz a k e m Bh=>ul 5 k z fun k=>sB te35 m k z (by exact fC z fN) fun Bs Bt Bx a k m e Av=>?_;have At:=ow_bx Av ([Ac]:List Int) z z z;refine oE h fun Bm Bg h=>gl 2 [bF m 1 Bh z] k z fun k=>sL k m call165 z (c_slices_Repeat_int_int fu _ _ (m.q At 0 z) Bg) fun Bl Cb Be Af k m=>oE h fun Ay Bj h=>s_appF Bj te35 z m 3 Aj (News.rd (m.q Af 0 z)) z z k z z z z z z z fun Bi Ar As a k e m Bc=>ul 9 k z fun k=>?_;exact ⟨_,_,_,_,_,k.p z,m.sl [3] z,Bc,h⟩
   refine uc 12 k z fun k=>?_;cases h;exact finR1 k z (RV.tmp k z) ⟨_,Ad,z,m.ext,(m.v Aj 0 z),(m.fresh 0 z)⟩
 exact ⟨_,_,_,_,_,k.p z,m.sl [0] z,Bf,h⟩
theorem c_slices_Index_int_int (fu) {w0} (Aa v5) {v2 F3} (Ab:rd w0 F3 [v2] Aa) {r} (h:d_slices_Index_int_int fu Aa v5 = some r):cS 246 [v2,I v5] w0 (I r):=by
 refine eg func246 z ntmps246 z fun k m=>gc 14 [lF Ab] k z fun k=>lG (fun n a w=>∃ Ac,K 19 [(0,v2),(1,I v5),(7,I ((Aa.length:Int))),(8,I Ac)] a ∧ St [] w0 w [] ∧ d_slices_Index_int_int_L1 fu Aa v5 n Ac = some r) ?_ fu ?_
 · rintro Ai a Ah ⟨Ac,k,m,h⟩;refine uc 6 k z fun k=>cJ h k z (fun h=>?_) fun h=>?_
   · refine oE h fun Ag Ad h=>gc 20 [iF Ab Ad,eF (m.r Ab) Ad 0] k z fun k=>cJ h k z (fun h=>?_) fun h=>?_
     · refine uc 12 k z fun k=>fS h k m z z
     refine uc 8 k z fun k=>?_;exact ⟨_,k.p z,m.sl [] z,h⟩
   refine uc 11 k z fun k=>fS h k m z z
 exact ⟨_,k.p z,m.sl [] z,h⟩
theorem c_slices_Contains_int_int (fu) {w0} (Aa v5) {v2 F3} (Ab:rd w0 F3 [v2] Aa) {r} (h:d_slices_Contains_int_int fu Aa v5 = some r):cS 169 [v2,I v5] w0 (.bool (r)):=by
 refine eg func169 z ntmps169 z fun k m=>oE h fun x6 Ac h=>uc 9 k z fun k=>cC k m call246 z (c_slices_Index_int_int fu _ _ (m.r Ab) Ac) fun w9 e a k m=>ul 5 k z fun k=>fS h k m z z
theorem c_impl_UnitsOf (fu) {w0} (r1 Ac) {Be F3} (Bs:rd w0 F3 Be r1) {r} (h:d_impl_UnitsOf fu r1 Ac = some r):cL 107 [.agg Be.toArray,I Ac] w0 r:=by
 refine eg func107 z ntmps107 z fun k m=>?_;obtain ⟨v6,F7,v8,F9,Aw,Cq,rfl,rfl,Ao,Aj,Ab⟩:=Bs;refine uc 2 k z fun k=>s_box m k z z z z z z fun Am Ax a k m e At=>oE h fun Bf Bj h=>gl 6 [bA m 0 At z] k z fun k=>sL k m call58 z (c_impl_GroupsOf fu _ (mkRequest (m.r Ao) (m.r Aj) (m.r Ab)) Bj) fun Bd Bi As Ae k m=>oE h fun Cn By h=>gl 10 [lF (Enc.ow_rd Ae)] k z fun k=>cC k m call68 z (c_impl_in fu _ _ _  By) fun Ct e a k m=>ul 3 k z fun k=>cJ h k z (fun h=>?_) fun h=>?_
 · refine uc 7 k z fun k=>?_;cases h;exact finR1 k z (RV.tmp k z) ⟨_,[],z,m.ext,(ow_nil _),(by simp)⟩
 refine uc 4 k z fun k=>sB te35 m k z (by exact fN) fun Bc Bu Dd a k m e Bl=>?_;have Ca:=ow_bx Bl ([]:List Int) z z z;refine oE h fun Ap Bw h=>gl 7 [bA m 2 At z] k z fun k=>sL k m call100 z (c_impl_Units fu _ (mkRequest (m.r Ao) (m.r Aj) (m.r Ab)) Bw) fun Bg Bh Au Af k m=>gl 5 [lF (Enc.ow_rd Af)] k z fun k=>lG (fun n a w=>∃ Al Ai Ad Ar Aa,K 43 [(1,I Ac),(2,pt Am),(5,Bi),(6,Ai),(19,Bh),(20,I ((Ap.length:Int))),(21,I Aa)] a ∧ St [] w0 w [([Am],Ax),(As,Bd),(Au,Bg),(Ad,Ar)] ∧ ow Ar Ad [Ai] Al ∧ d_impl_UnitsOf_L1 fu r1 Ac Bf Ap n Al Aa = some r) ?_ fu ?_
 · rintro Bn a Cm ⟨Al,Ai,Ad,Ar,Aa,k,m,Av,h⟩;refine uc 6 k z fun k=>cJ h k z (fun h=>?_) fun h=>?_
   · refine uc 2 k z fun k=>cg (fun a w=>∃ Ak Ah Ag Aq,K 43 [(1,I Ac),(2,pt Am),(5,Bi),(6,Ah),(19,Bh),(20,I ((Ap.length:Int))),(21,I Aa)] a ∧ St [] w0 w [([Am],Ax),(As,Bd),(Au,Bg),(Ag,Aq)] ∧ ow Aq Ag [Ah] Ak ∧ d_impl_UnitsOf_J1 fu (d_impl_UnitsOf_L1 fu r1 Ac Bf Ap Bn) Aa Ak = some r) ?_ ?_
     · rintro a Cv ⟨Ak,Ah,Ag,Aq,k,m,Cc,h⟩;refine uc 5 k z fun k=>?_;exact ⟨_,_,_,_,_,k.p z,m.sl [0,1,2,3] z,Cc,h⟩
     refine oE h fun Cy Ay h=>gc 11 [iF (Enc.ow_rd Af) Ay,eF (m.q Af 2 z) Ay 0] k z fun k=>d_go [] mixo m z fun Bm hMd=>?_;have m:=hMd;have s:=Ext.refl ([]:List Nat) Bm;refine oE h fun Cw Bb h=>dr [0,1,6,2] 4 [iF (Enc.ow_rd Ae) Bb] k z s fun k=>?_;obtain ⟨Db,Bt,Bk,Az,Bv,Bo⟩:=rd_get (Enc.ow_rd Ae) (ix_some Bb).2.2;obtain ⟨Cz,rfl⟩:∃ v,Bt = [v]:=by obtain ⟨_,_,hq,_⟩:=Az; exact ⟨_,hq⟩
     refine dT k 3 z z s (fun w s=>r_ld1 t135 (Bv.agr ((hMd.step s).a 1 z) Bo) k z z) fun a k=>oE h fun Cr Ba h=>dr [4,5,7,8,9] 5 [bF hMd 0 At z,iF Ab Ba,eF (hMd.r Ab) Ba 5] k z s fun k=>dG 10 z (oE h fun Cp Ck h=>?_);refine cC k m call169 z (c_slices_Contains_int_int fu _ _ (Enc.rd_agr Az ((m.a 1 z).sub Bk)) Ck) fun Cs e a k m=>ns s e fun s=>dD ((nm_then ?_));refine cJ h k z (fun h=>?_) fun h=>?_
     · refine uc 3 k z fun k=>sB te35 m k z (by exact fC z fN) fun Cu Cx Da a k m e Br=>?_;have Cj:=ow_bx Br ([Aa]:List Int) z z z;refine oE h fun Ch Cb h=>s_appF Cb te35 z m 4 Av (News.rd (m.q Cj 0 z)) z z k z z z z z z z fun Bx Cd Bz a k e m Bp=>ul 4 k z fun k=>?_;exact ⟨_,_,_,_,k.p z,m.sl [1,2,3,4] z,Bp,h⟩
     refine uc 3 k z fun k=>?_;exact ⟨_,_,_,_,k.p z,m.sl [0,1,2,3] z,Av,h⟩
   refine uc 12 k z fun k=>?_;cases h;exact finR1 k z (RV.tmp k z) ⟨_,Ad,z,m.ext,(m.v Av 3 z),(m.fresh 3 z)⟩
 exact ⟨_,_,_,_,_,k.p z,m.sl [3,2,0,1] z,Ca,h⟩
theorem c_impl_thereOf_1 (fu) {w0} (u1 x2) {b3} (Aa:bx w0 b3 [I x2] 3) {r} (h:d_impl_thereOf_1 fu u1 x2 = some r):cS 289 [I u1,pt b3] w0 (.bool (r)):=by
 refine eg func289 z ntmps289 z fun k m=>oE h fun x5 Ab h=>gc 10 [pF (r:=[]) (Aa.at (m.a00 Aa.lt1) 0 1 z z z)] k z fun k=>cC k m call68 z (c_impl_in fu _ _ _  Ab) fun w9 e a k m=>ul 5 k z fun k=>fS h k m z z
theorem c_slices_DeleteFunc_int_int (fu) {w0} (Aj f5) {v2 F3} (Ad:ow w0 F3 [v2] Aj) {v6} (At:FnOkX1 F3 Tryz.prog w0 v6 f5) {r} (h:d_slices_DeleteFunc_int_int fu Aj f5 = some r):Calls Tryz.prog 288 #[v2,v6] w0 fun e w=>∃ (v0:Value) (G0:List Nat),e = .returned (v0) ∧ Ext F3 w0 w ∧ ow w G0 [v0] r ∧ (∀ b ∈ G0,b ∈ F3 ∨ w0.heap.size ≤ b):=by
 refine eg (vs:=[_,_]) func288 z ntmps288 z fun k _=>?_;have m:=St.start1 w0 (Enc.rd_lt (Enc.ow_rd Ad)) (Enc.ow_nd Ad);obtain ⟨Am,Ak,rfl,Aq,Al⟩:=At;refine oE h fun Ar Bd h=>uc 9 k z fun k=>cC k m call250 z (c_slices_IndexFunc_int_int fu _ _ (m.q Ad 0 z) ⟨_,_,z,Aq,fun w Az Bh r e=>Al w Az Bh r (m.ext.trans e (by simp))⟩ Bd) fun Bl e a k m=>ul 10 k z fun k=>cJ h k z (fun h=>?_) fun h=>?_
 · refine uc 8 k z fun k=>?_;cases h;exact finR1 k z (RV.tmp k z) ⟨_,F3,z,m.ext,(m.v Ad 0 z),(fun b hb=>m.lo b (mem_fps (i:=0) z hb))⟩
 refine uc 11 k z fun k=>lG (fun n a w=>∃ Ae Ag Ab Ac,K 42 [(0,v2),(1,(.func (.func Am) #[] Ak.toArray)),(5,I Ab),(6,I Ac)] a ∧ St F3 w0 w [(F3,Ag)] ∧ ow Ag F3 [v2] Ae ∧ d_slices_DeleteFunc_int_int_L1 fu f5 n Ae Ab Ac = some r) ?_ fu ?_
 · rintro Au a Bq ⟨Ae,Ag,Ab,Ac,k,m,Aa,h⟩;refine gc 9 [lF (Enc.ow_rd Aa)] k z fun k=>cJ h k z (fun h=>?_) fun h=>?_
   · refine uc 2 k z fun k=>cg (fun a w=>∃ Ai Af Ah,K 42 [(0,v2),(1,(.func (.func Am) #[] Ak.toArray)),(5,I Ah),(6,I Ac)] a ∧ St F3 w0 w [(F3,Af)] ∧ ow Af F3 [v2] Ai ∧ d_slices_DeleteFunc_int_int_J1 fu (d_slices_DeleteFunc_int_int_L1 fu f5 Au) Ac Ai Ah = some r) ?_ ?_
     · rintro a Bn ⟨Ai,Af,Ah,k,m,Bb,h⟩;refine uc 6 k z fun k=>?_;exact ⟨_,_,_,_,k.p z,m.sl [0] z,Bb,h⟩
     refine o2 h fun As Ao Bo Av h=>gc 14 [iF (Enc.ow_rd Aa) Ao,eF (m.q Aa 0 z) Ao 0] k z fun k=>s_callv k Aq z z z z z z (Al _ _ _ _ m.ext z Av) fun Bm Bt hR=>?_;obtain ⟨rfl,e⟩:=hR;refine ⟨_,z,fun a k=>?_⟩;have m:=m.step e;refine ul 3 k z fun k=>cJ h k z (fun h=>?_) fun h=>?_
     · refine oE h fun Br Ap h=>gc 6 [iF (Enc.ow_rd Aa) Ap] k z fun k=>s_ste (α:=Int) (sz:=1) (y:=As) sizeOf3 Ap m 0 Aa 0 k z z z z z z z z z z z z fun Bj a k e m Aw=>ul 9 k z fun k=>?_;exact ⟨_,_,_,k.p z,m.sl [0] z,Aw,h⟩
     refine uc 3 k z fun k=>?_;exact ⟨_,_,_,k.p z,m.sl [0] z,Aa,h⟩
   refine oE h fun Bs Ax h=>uc 9 k z fun k=>s_slFromP (Enc.ow_rd Aa) Ax k ts35 z z z z z z fun Bw a k Bu Bc=>s_clr (lo:=Ab) te35 m 0 Aa Bc k z z z z z fun Bv a k e m Ba=>oE h fun Bp Ay h=>ul 6 k z fun k=>s_slToO Ba Ay k ts35 z z z z z z fun Bk a k Bg=>ul 4 k z fun k=>?_;cases h;exact finR1 k z (RV.tmp k z) ⟨_,F3,z,m.ext,(m.v Bg 0 z),(fun b hb=>m.lo b (mem_fps (i:=0) z hb))⟩
 exact ⟨_,_,_,_,k.p z,m.sl [0] z,Ad,h⟩
theorem c_impl_thereOf (fu) {w0} (r1 Af) {Aj F3} (Aq:rd w0 F3 Aj r1) {v6 F7} (Ag:rd w0 F7 [v6] Af) {r} (h:d_impl_thereOf fu r1 Af = some r):cL 243 [.agg Aj.toArray,v6] w0 r:=by
 refine eg func243 z ntmps243 z fun k m=>?_;obtain ⟨v9,Bm,Ah,Bc,Ak,Bt,rfl,rfl,Al,Ai,Ae⟩:=Aq;refine uc 2 k z fun k=>s_box m k z z z z z z fun Bi Bv a k m e Aw=>oE h fun Au Ay h=>gl 6 [bA m 0 Aw z] k z fun k=>sL k m call100 z (c_impl_Units fu _ (mkRequest (m.r Al) (m.r Ai) (m.r Ae)) Ay) fun Bk Bf Ap Ab k m=>gl 1 [lF (Enc.ow_rd Ab)] k z fun k=>s_alloc m k zeroValue3 z z z z z fun Ao Bn a k m e Az=>sT sizeOf3 m 0 Az 0 k z z fun Bh a k e m Am=>oE h fun Bo Bb h=>ul 5 k z fun k=>sL k m call254 z (c_slices_Clone_int_int fu _ (m.r Ag) Bb) fun Be Bj Ad Ac k m=>pN 1 k z fun a k=>oE h fun Bs Ax h=>sC k call288 z (c_slices_DeleteFunc_int_int fu _ _ (m.v Ac 0 z) ⟨289,[pt Ao],z,call289,fun w Bp Bl r e Ar hx=>by subst Ar; have m:=m.mut 0 rfl e Ad (fun b hb=>⟨.inl hb,e.lt1 (m.ltF 0 rfl) b hb⟩) (m.ndF 0 rfl); exact c_impl_thereOf_1 fu _ _ (Am.agr (m.a 1 rfl) (by simp)) hx⟩ Ax) fun Bq Bg hR=>?_
 obtain ⟨Bu,At,rfl,e,Aa,Ba⟩:=hR;refine ⟨_,z,fun a k=>?_⟩;have m:=m.mut 0 z e _ (fun b hb=>⟨Ba b hb,Enc.rd_lt (Enc.ow_rd Aa) b hb⟩) (Enc.ow_nd Aa);refine ul 4 k z fun k=>?_;cases h;exact finR1 k z (RV.tmp k z) ⟨_,At,z,m.ext,(m.v Aa 0 z),(m.fresh 0 z)⟩
theorem c_impl_itemsOf (fu) {w0} (r1 Ad) {Bb F3} (Bj:rd w0 F3 Bb r1) {v6 F7} (Ak:rd w0 F7 [v6] Ad) {r} (h:d_impl_itemsOf fu r1 Ad = some r):cL 167 [.agg Bb.toArray,v6] w0 r:=by
 refine eg func167 z ntmps167 z fun k m=>?_;obtain ⟨v9,Cp,Ax,Cd,Bc,Cr,rfl,rfl,Bf,Ay,Ae⟩:=Bj;refine uc 2 k z fun k=>s_box m k z z z z z z fun Ai Bg a k m e Au=>oE h fun At Ca h=>gl 6 [bA m 0 Au z] k z fun k=>sL k m call100 z (c_impl_Units fu _ (mkRequest (m.r Bf) (m.r Ay) (m.r Ae)) Ca) fun Av As Ar Af k m=>ul 5 k z fun k=>sB te53 m k z (by exact fN) fun Az Bq Cl a k m e Bz=>?_;have Bo:=ow_bx Bz ([]:List Item) z z z;refine gl 12 [lF Ak] k z fun k=>lG (fun n a w=>∃ Ag Ah Aa Am Ac,K 36 [(2,pt Ai),(5,As),(6,Ah),(12,v6),(13,I ((Ad.length:Int))),(14,I Ac)] a ∧ St [] w0 w [([Ai],Bg),(Ar,Av),(Aa,Am)] ∧ ow Am Aa [Ah] Ag ∧ d_impl_itemsOf_L1 fu r1 Ad At n Ag Ac = some r) ?_ fu ?_
 · rintro Bn a Ci ⟨Ag,Ah,Aa,Am,Ac,k,m,Aq,h⟩;refine uc 6 k z fun k=>cJ h k z (fun h=>?_) fun h=>?_
   · refine uc 2 k z fun k=>cg (fun a w=>∃ Ap Ao Aj Al,K 36 [(2,pt Ai),(5,As),(6,Ao),(12,v6),(13,I ((Ad.length:Int))),(14,I Ac)] a ∧ St [] w0 w [([Ai],Bg),(Ar,Av),(Aj,Al)] ∧ ow Al Aj [Ao] Ap ∧ d_impl_itemsOf_J1 fu (d_impl_itemsOf_L1 fu r1 Ad At Bn) Ac Ap = some r) ?_ ?_
     · rintro a Cs ⟨Ap,Ao,Aj,Al,k,m,Bt,h⟩;refine uc 5 k z fun k=>?_;exact ⟨_,_,_,_,_,k.p z,m.sl [0,1,2] z,Bt,h⟩
     refine o2 h fun Cm Be Ce Bm h=>gc 14 [iF Ak Be,eF (m.r Ak) Be 0,lF (Enc.ow_rd Af)] k z fun k=>cC k m call68 z (c_impl_in fu _ _ _  Bm) fun Cg e a k m=>ul 2 k z fun k=>cJ h k z (fun h=>?_) fun h=>?_
     · refine d_go (Aa) mixo m z fun Cb hMd=>?_;have m:=hMd;have s:=Ext.refl ((Aa):List Nat) Cb;refine dM [0,3,4] 3 z k z s fun a k=>dF k 1 fa55_6 z s fun a k=>dT k 2 z z s (fun w s=>r_ld1 t153 (r:=[]) (Au.at (hMd.az 0 2 z z z s) 9 1 z z z) k z z) fun a k=>oE h fun Co Bd h=>dT k 5 z z s (fun w s=>r_ixa (Enc.ow_rd Af) Bd k ts35 z z z) fun a k=>dT k 6 z z s (fun w s=>r_lde1 (Enc.ow_rd Af) (hMd.az 1 2 z z z s) Bd 0 t13 k z z z z) fun a k=>oE h fun Ab Ba h=>dT k 7 z z s (fun w s=>r_ixa Ae Ba k ts53 z z z) fun a k=>dT k 8 z z s (fun w s=>r_lde Ae (hMd.az0 2 z z (Enc.rd_lt Ae) s) Ba ta59 k z z) fun a k=>dG 9 z (s_bsN te53 m k z z z z z z z (by decide) z (by exact fC z fN) fun Cc Cj Ck a k m e Bk Bw=>?_);have Cn:=lo1 (Nat.le_trans s.size Bw);have By:=ow_bx Bk ([Ab]:List Item) z z z;refine ns s e fun s=>dG 10 z (oE h fun Bp Bi h=>s_appFN Bi te53 z m 3 Aq (News.rd (m.q By 0 z)) z z k z z z z z z z fun Bu Aw Bh a k e m Bs Bx=>?_);have Ch:∀ y ∈ Aw,y ∈ (Aa) ∨ _ ≤ y:=fun y hy=>(Bx y hy).elim (fun hy=>(fun y hy=>Or.inl hy) y hy) (fun h=>Or.inr (Nat.le_trans s.size h));have s:=s.trans e (fun y hy=>Or.inl hy);refine wpList_nil ⟨s,?_⟩;refine dM [11] 1 z k z s fun a k=>dD ((ue 2 k z fun k=>?_));exact ⟨_,_,_,_,k.p z,m.sl [1,2,3] z,Bs,h⟩
     refine uc 3 k z fun k=>?_;exact ⟨_,_,_,_,k.p z,m.sl [0,1,2] z,Aq,h⟩
   refine uc 12 k z fun k=>?_;cases h;exact finR1 k z (RV.tmp k z) ⟨_,Aa,z,m.ext,(m.v Aq 2 z),(m.fresh 2 z)⟩
 exact ⟨_,_,_,_,_,k.p z,m.sl [2,1,0] z,Bo,h⟩
theorem c_impl_Volume (fu) {w0} (Ac h2 d3) {r} (h:d_impl_Volume fu Ac h2 d3 = some r):cS 290 [I Ac,I h2,I d3] w0 (I r):=by
 refine eg func290 z ntmps290 z fun k m=>uc 5 k z fun k=>cg (fun a w=>K 25 [(0,I Ac),(1,I h2),(2,I d3)] a ∧ St [] w0 w [] ∧ d_impl_Volume_J1 fu Ac h2 d3 = some r) ?_ ?_
 · rintro a Ak ⟨k,m,h⟩;refine uc 11 k z fun k=>fS h k m z z
 refine oE h fun Af Ag h=>uc 3 k z fun k=>cC k m call68 z (c_impl_in fu _ _ _  Ag) fun Ao e a k m=>pN 2 k z fun a k=>bS h k 10 z (fun _ h k=>?_) fun _ h k=>?_
 · refine ul 19 k z fun k=>fS h k m z z
 refine pN 1 k z fun a k=>oE h fun Ad Ae h=>cC k m call68 z (c_impl_in fu _ _ _  Ae) fun Am e a k m=>pN 3 k z fun a k=>bS h k 15 z (fun _ h k=>?_) fun _ h k=>?_
 · refine ul 14 k z fun k=>fS h k m z z
 refine pN 1 k z fun a k=>oE h fun Al Ai h=>cC k m call68 z (c_impl_in fu _ _ _  Ai) fun Aj e a k m=>ul 4 k z fun k=>cJ h k z (fun h=>?_) fun h=>?_
 · refine uc 7 k z fun k=>fS h k m z z
 refine uc 2 k z fun k=>?_;exact ⟨k.p z,m.sl [] z,h⟩
theorem c_impl_VolumeOf (fu) {w0} (r1 Aj) {Ap F3} (Ar:rd w0 F3 Ap r1) {v6 F7} (Ak:rd w0 F7 [v6] Aj) {r} (h:d_impl_VolumeOf fu r1 Aj = some r):cS 252 [.agg Ap.toArray,v6] w0 (I r):=by
 refine eg func252 z ntmps252 z fun k m=>?_;obtain ⟨v9,Bi,Al,Bb,Ao,Bk,rfl,rfl,Aq,Am,Ai⟩:=Ar;refine uc 2 k z fun k=>s_box m k z z z z z z fun Bf Bl a k m e Av=>oE h fun Ah Ba h=>gl 13 [bA m 0 Av z] k z fun k=>sL k m call167 z (c_impl_itemsOf fu _ _ (mkRequest (m.r Aq) (m.r Am) (m.r Ai)) (m.r Ak) Ba) fun Aw At Af Ab k m=>gl 5 [lF (Enc.ow_rd Ab)] k z fun k=>lG (fun n a w=>∃ Ac Ad,K 27 [(5,I Ac),(10,At),(11,I ((Ah.length:Int))),(12,I Ad)] a ∧ St [] w0 w [(Af,Aw)] ∧ d_impl_VolumeOf_L1 fu Ah n Ac Ad = some r) ?_ fu ?_
 · rintro Be a Bg ⟨Ac,Ad,k,m,h⟩;refine uc 6 k z fun k=>cJ h k z (fun h=>?_) fun h=>?_
   · refine oE h fun Aa Ag h=>gc 8 [iF (Enc.ow_rd Ab) Ag,eA (m.q Ab 0 z) Ag] k z fun k=>s_alloc m k zeroValue59 z z z z z fun Bd Bc a k m e Az=>sT sizeOf59 m 0 Az 0 k z z fun Bh a k e m Ae=>oE h fun Au Ay h=>gl 10 [bF m 0 Ae z,bF m 0 Ae z,bF m 0 Ae z] k z fun k=>cC k m call290 z (c_impl_Volume fu _ _ _  Ay) fun Bm e a k m=>ul 10 k z fun k=>?_;exact ⟨_,_,k.p z,m.sl [1] z,h⟩
   refine uc 12 k z fun k=>fS h k m z z
 exact ⟨_,_,k.p z,m.sl [0] z,h⟩
theorem c_impl_GramOf (fu) {w0} (r1 Ah) {Am F3} (Aq:rd w0 F3 Am r1) {v6 F7} (Ai:rd w0 F7 [v6] Ah) {r} (h:d_impl_GramOf fu r1 Ah = some r):cS 186 [.agg Am.toArray,v6] w0 (I r):=by
 refine eg func186 z ntmps186 z fun k m=>?_;obtain ⟨v9,Bg,Ak,Az,Ao,Bi,rfl,rfl,Ap,Al,Ag⟩:=Aq;refine uc 2 k z fun k=>s_box m k z z z z z z fun Be Bj a k m e At=>oE h fun Af Ax h=>gl 13 [bA m 0 At z] k z fun k=>sL k m call167 z (c_impl_itemsOf fu _ _ (mkRequest (m.r Ap) (m.r Al) (m.r Ag)) (m.r Ai) Ax) fun Au As Ae Ab k m=>gl 5 [lF (Enc.ow_rd Ab)] k z fun k=>lG (fun n a w=>∃ Ac Ad,K 22 [(5,I Ac),(10,As),(11,I ((Af.length:Int))),(12,I Ad)] a ∧ St [] w0 w [(Ae,Au)] ∧ d_impl_GramOf_L1 fu Af n Ac Ad = some r) ?_ fu ?_
 · rintro Bb a Bd ⟨Ac,Ad,k,m,h⟩;refine uc 6 k z fun k=>cJ h k z (fun h=>?_) fun h=>?_
   · refine oE h fun Aa Aj h=>gc 8 [iF (Enc.ow_rd Ab) Aj,eA (m.q Ab 0 z) Aj] k z fun k=>s_alloc m k zeroValue59 z z z z z fun Bc Ba a k m e Ay=>sT sizeOf59 m 0 Ay 0 k z z fun Bf a k e m Aw=>gl 16 [bF m 0 Aw z] k z fun k=>?_;exact ⟨_,_,k.p z,m.sl [1] z,h⟩
   refine uc 12 k z fun k=>fS h k m z z
 exact ⟨_,_,k.p z,m.sl [0] z,h⟩
theorem c_impl_within (fu) {w0} (r1 Al t9) {Ak F3} (Am:rd w0 F3 Ak r1) {v6 F7} (Ad:rd w0 F7 [v6] Al) {r} (h:d_impl_within fu r1 Al t9 = some r):cS 245 [.agg Ak.toArray,v6,.agg (Flat.e (t9)).toArray] w0 (.bool (r)):=by
 refine eg func245 z ntmps245 z fun k m=>?_;obtain ⟨Ah,Av,Ag,Be,Ai,Ax,rfl,rfl,Ae,Ab,Ac⟩:=Am;refine uc 2 k z fun k=>s_box m k z z z z z z fun Bd Bc a k m e Aj=>s_box m k z z z z z z fun Bb Ay a k m e Af=>ul 4 k z fun k=>d_go [] mixo m z fun Ar hMd=>?_;have m:=hMd;have s:=Ext.refl ([]:List Nat) Ar;refine dr [1,0,3,4,5,6,7,8] 8 [bA hMd 1 Aj z,bF hMd 0 Af z,bF hMd 0 Af z,bF hMd 0 Af z] k z s fun k=>dG 2 z (oE h fun Ao Aq h=>cC k m call252 z (c_impl_VolumeOf fu _ _ (mkRequest (m.r Ae) (m.r Ab) (m.r Ac)) (m.r Ad) Aq) fun Az e a k m=>?_);refine ns s e fun s=>dG 9 z (oE h fun Ap As h=>cC k m call290 z (c_impl_Volume fu _ _ _  As) fun Aw e a k m=>?_);refine ns s e fun s=>dM [10,11] 2 z k z s fun a k=>bS h k 18 z (fun _ h k=>?_) fun _ h k=>?_
 · refine dr [13,12,15,16] 4 [bA hMd 1 Aj z,bF hMd 0 Af z] k z s fun k=>dG 14 z (oE h fun Ba At h=>?_);refine cC k m call186 z (c_impl_GramOf fu _ _ (mkRequest (m.r Ae) (m.r Ab) (m.r Ac)) (m.r Ad) At) fun Au e a k m=>ns s e fun s=>dM [17,18,19] 3 z k z s fun a k=>dD ((nm_then ?_));refine wp_ret (fS h k m z z)
 refine dM [12,13,14,15,16,17,18,19] 8 z k z s fun a k=>dD ((nm_then ?_));refine wp_ret (fS h k m z z)
theorem c_impl_Room (fu) {w0} (r1 At u9) {Aq F3} (Bb:rd w0 F3 Aq r1) {v6 F7} (Ai:rd w0 F7 [v6] At) {r} (h:d_impl_Room fu r1 At u9 = some r):cS 251 [.agg Aq.toArray,v6,I u9] w0 (.bool (r)):=by
 refine eg func251 z ntmps251 z fun k m=>?_;obtain ⟨Ag,Cl,Ah,Cj,Af,Db,rfl,rfl,Ac,Ab,Ad⟩:=Bb;refine uc 2 k z fun k=>s_box m k z z z z z z fun Cw Cp a k m e Ak=>oE h fun Aa Bi h=>gl 6 [bA m 0 Ak z] k z fun k=>cC k m call153 z (c_impl_MasterOf fu _ (mkRequest (m.r Ac) (m.r Ab) (m.r Ad)) Bi) fun Df e a k m=>pN 3 k z fun a k=>s_alloc m k zeroValue61 z z z z z fun Dd Co a k m e Aw=>sT sizeOf61 m 0 Aw 0 k z z fun Cn a k e m Az=>ul 4 k z fun k=>d_go [] mixo m z fun Bc hMd=>?_;have m:=hMd;have s:=Ext.refl ([]:List Nat) Bc;refine dr [0] 1 [bA hMd 1 Ak z] k z s fun k=>dG 1 z (oE h fun Bd Bp h=>cC k m call56 z (c_impl_sound fu _ (mkRequest (m.r Ac) (m.r Ab) (m.r Ad)) Bp) fun Cd e a k m=>?_);refine ns s e fun s=>dM [2] 1 z k z s fun a k=>bS h k 16 z (fun _ h k=>?_) fun _ h k=>?_
 · refine dr [4,6,3,9] 4 [bA hMd 1 Ak z,bA hMd 0 Az z] k z s fun k=>dG2 5 7 (by kernel_rfl) z z ?_ ?_
   · refine oE h fun Cy Bg h=>sC k call254 z (c_slices_Clone_int_int fu _ (m.r Ai) Bg) fun Bz Cx hR=>?_;obtain ⟨De,Ar,rfl,e,Al,As⟩:=hR;refine ⟨_,z,fun a k=>?_⟩;have m:=m.nw e As Al;have Ap:=fun (y:Nat) (hy:y ∈ Ar)=>Nat.le_trans s.size (As y hy);refine ns s e fun s=>dG 7 z (s_bsN te35 m k z z z z z z z (by decide) z (by exact fC z fN) fun Bw Cv Cs a k m e Bj Bm=>?_);have Cq:=lo1 (Nat.le_trans s.size Bm);have Ay:=ow_bx Bj ([u9]:List Int) z z z;refine ns s e fun s=>dG 8 z (oE h fun Dc Ax h=>s_appFN Ax te35 z m 1 Al (News.rd (m.q Ay 0 z)) z z k z z z z z z z fun Cb Bk Ct a k e m Bo Bs=>?_);have By:∀ y ∈ Bk,y ∈ [] ∨ _ ≤ y:=fun y hy=>(Bs y hy).elim (fun hy=>(fun y hy=>Or.inr (Ap y hy)) y hy) (fun h=>Or.inr (Nat.le_trans s.size h));have s:=s.trans e (fun y hy=>Or.inr (Ap y hy));refine wpList_nil ⟨s,?_⟩;refine dG 10 z (oE h fun Ci Bt h=>cC k m call245 z (c_impl_within fu _ _ (Aa.1:Typ) (mkRequest (m.r Ac) (m.r Ab) (m.r Ad)) (m.q Bo 1 z) Bt) fun Cu e a k m=>?_);refine ns s e fun s=>dM [11,12] 2 z k z s fun a k=>dD ((nm_then ?_));refine wp_ret (fS h k m z z)
   refine s_bsN te35 m k z z z z z z z (by decide) z (by exact fC z fN) fun Cc Bu Ch a k m e Av Br=>?_;have Dg:=lo1 (Nat.le_trans s.size Br);have Ba:=ow_bx Av ([u9]:List Int) z z z;refine ns s e fun s=>dG 5 z (oE h fun Da Bh h=>sC k call254 z (c_slices_Clone_int_int fu _ (m.r Ai) Bh) fun Cm Ce hR=>?_);obtain ⟨Bv,Au,rfl,e,Aj,Am⟩:=hR;refine ⟨_,z,fun a k=>?_⟩;have m:=m.nw e Am Aj;have Ao:=fun (y:Nat) (hy:y ∈ Au)=>Nat.le_trans s.size (Am y hy);refine ns s e fun s=>dG 8 z (oE h fun Bx Bq h=>s_appFN Bq te35 z m 0 Aj (News.rd (m.q Ba 1 z)) z z k z z z z z z z fun Ck Bl Cz a k e m Bn Be=>?_);have Cg:∀ y ∈ Bl,y ∈ [] ∨ _ ≤ y:=fun y hy=>(Be y hy).elim (fun hy=>(fun y hy=>Or.inr (Ao y hy)) y hy) (fun h=>Or.inr (Nat.le_trans s.size h));have s:=s.trans e (fun y hy=>Or.inr (Ao y hy));refine wpList_nil ⟨s,?_⟩;refine dG 10 z (oE h fun Cr Bf h=>cC k m call245 z (c_impl_within fu _ _ (Aa.1:Typ) (mkRequest (m.r Ac) (m.r Ab) (m.r Ad)) (m.q Bn 0 z) Bf) fun Ca e a k m=>?_);refine ns s e fun s=>dM [11,12] 2 z k z s fun a k=>dD ((nm_then ?_));refine wp_ret (fS h k m z z)
 refine dM [3,4,5,6,7,8,9,10,11,12] 10 z k z s fun a k=>dD ((nm_then ?_));refine wp_ret (fS h k m z z)
theorem c_impl_NextFit (fu) {w0} (r1 Be) {Bh F3} (Bv:rd w0 F3 Bh r1) {v6 F7} (Bc:rd w0 F7 [v6] Be) {r} (h:d_impl_NextFit fu r1 Be = some r):cL 177 [.agg Bh.toArray,v6] w0 r:=by
 refine eg func177 z ntmps177 z fun k m=>?_;obtain ⟨v9,Eb,Ay,Ek,Az,Ef,rfl,rfl,Ap,Am,Al⟩:=Bv;refine uc 2 k z fun k=>s_box m k z z z z z z fun Ag Aw a k m e Bf=>ul 5 k z fun k=>sB te88 m k z (by exact fN) fun Bk Cw Ea a k m e Dj=>?_;have Bt:=ow_bx0 (α:=List Int) Dj;refine oE h fun Ar Cv h=>gl 8 [bA m 1 Bf z] k z fun k=>sL k m call243 z (c_impl_thereOf fu _ _ (mkRequest (m.r Ap) (m.r Am) (m.r Al)) (m.r Bc) Cv) fun Ax Bn Ao Af k m=>gl 5 [lF (Enc.ow_rd Af)] k z fun k=>lG (fun n a w=>∃ Ac Aq Ae Au Ad,K 49 [(2,pt Ag),(5,Aq),(12,Bn),(13,I ((Ar.length:Int))),(14,I Ad)] a ∧ St [] w0 w [([Ag],Aw),(Ao,Ax),(Ae,Au)] ∧ ow Au Ae [Aq] Ac ∧ d_impl_NextFit_L1 fu r1 Ar n Ac Ad = some r) ?_ fu ?_
 · rintro Bo a Ee ⟨Ac,Aq,Ae,Au,Ad,k,m,Aa,h⟩;refine uc 6 k z fun k=>cJ h k z (fun h=>?_) fun h=>?_
   · refine uc 2 k z fun k=>cg (fun a w=>∃ At Aj Ak As,K 49 [(2,pt Ag),(5,Aj),(12,Bn),(13,I ((Ar.length:Int))),(14,I Ad)] a ∧ St [] w0 w [([Ag],Aw),(Ao,Ax),(Ak,As)] ∧ ow As Ak [Aj] At ∧ d_impl_NextFit_J1 fu (d_impl_NextFit_L1 fu r1 Ar Bo) Ad At = some r) ?_ ?_
     · rintro a Em ⟨At,Aj,Ak,As,k,m,Dc,h⟩;refine uc 5 k z fun k=>?_;exact ⟨_,_,_,_,_,k.p z,m.sl [0,1,2] z,Dc,h⟩
     refine oE h fun Ab Bl h=>gc 17 [iF (Enc.ow_rd Af) Bl,eF (m.q Af 1 z) Bl 0,lF (Enc.ow_rd Aa)] k z fun k=>d_go [] mixo m z fun Bu hMd=>?_;have m:=hMd;have s:=Ext.refl ([]:List Nat) Bu;refine dM [0,1,2] 3 z k z s fun a k=>bsplit (decide ((w64 (((Ac.length:Int)) - 1)) ≥ 0)) (fun Ai=>?_) (fun Ai=>?_)
     · have h:=bif_t Ai h;refine rB k 23 z Ai fun k=>oE h fun Ej Ah h=>dr [4,5,8,3,6] 5 [bA hMd 0 Bf z,iF (Enc.ow_rd Aa) Ah] k z s fun k=>?_;obtain ⟨Ds,Cq,Dh,Bd,Ba,Bi⟩:=rd_get (Enc.ow_rd Aa) (ix_some Ah).2.2;obtain ⟨Ei,rfl⟩:∃ v,Cq = [v]:=by obtain ⟨_,_,hq,_⟩:=Bd; exact ⟨_,hq⟩
       refine dT k 7 z z s (fun w s=>r_ld1 t135 (Ba.agr ((hMd.step s).a 2 z) Bi) k z z) fun a k=>dG 9 z (oE h fun Eh Cj h=>cC k m call251 z (c_impl_Room fu _ _ _ (mkRequest (m.r Ap) (m.r Am) (m.r Al)) (Enc.rd_agr Bd ((m.a 2 z).sub Dh)) Cj) fun Dz e a k m=>?_);refine ns s e fun s=>dM [10] 1 z k z s fun a k=>dD ((nm_then ?_));refine cJ h k z (fun h=>?_) fun h=>?_
       · refine oE h fun Dq Eg h=>gc 8 [iF (Enc.ow_rd Aa) Ah,pF (Ba.agr (m.a 2 z) Bi)] k z fun k=>sB te35 m k z (by exact fC z fN) fun Bp Ch En a k m e Cx=>?_;have Ce:=ow_bx Cx ([Ab]:List Int) z z z;obtain ⟨Dt,Dr,m,Dk,Ck⟩:=m.opn 3 z Aa Ah Ba z (M':=[([Bp],Ch),([Ag],Aw),(Ao,Ax)]) z;refine oE h fun Cd Df h=>s_appF Df te35 z m 1 Ck (News.rd (m.q Ce 2 z)) z z k z z z z z z z fun Bx Dy Do a k e m Av=>oE h fun Ep Eo h=>gl 1 [iF (Enc.ow_rd Aa) Ah] k z fun k=>s_stH1 (α:=List Int) (sz:=1) (cs':=[Bx]) sizeOf35 m 0 Dk 0 k (rd_c (Enc.ow_rd Av)) (rd_o (Enc.ow_rd Av)) z z z z z z z z z z fun Cz a k e m Cu=>?_;obtain ⟨Cr,m,Cs⟩:=(m.sl [0,1,2,3,4] z).cls Cu Av;refine ul 3 k z fun k=>?_;exact ⟨_,_,_,_,k.p z,m.sl [2,3,0] z,Cs,h⟩
       refine uc 3 k z fun k=>sB te35 m k z (by exact fC z fN) fun Bg Ec Du a k m e Co=>?_;have Bb:=ow_bx Co ([Ab]:List Int) z z z;refine sB te88 m k z (by exact (List.forall_mem_cons.2 ⟨congrArg Array.size (rd_c (Enc.ow_rd Bb)),fN⟩)) fun Dx Dv El a k m e Cn=>oE h fun Bw Cb h=>?_;have Di:=Enc.ow_agr Bb (m.a 1 z);have Ct:=News.box Cn (m.a 0 z) (by simp) (m:=1);have Cl:=m.a 4 z;have m:=m.sl [4,1,0,2,3] z;have m:=m.join2;refine s_appO (F:=Ae) (G:=[Bg]) Cb te88 z m Aa Cl Ct Di (Agr.refl _ _) k z z z z z z fun Db Cm Cg a k e m Bz=>ul 4 k z fun k=>?_;exact ⟨_,_,_,_,k.p z,m.sl [2,3,0] z,Bz,h⟩
     have h:=bif_f Ai h;refine rB k 23 z Ai fun k=>dM [3,4,5,6,7,8,9,10] 8 z k z s fun a k=>dD ((nm_then ?_));refine uc 4 k z fun k=>sB te35 m k z (by exact fC z fN) fun Bj Er Dn a k m e Ca=>?_;have Bm:=ow_bx Ca ([Ab]:List Int) z z z;refine sB te88 m k z (by exact (List.forall_mem_cons.2 ⟨congrArg Array.size (rd_c (Enc.ow_rd Bm)),fN⟩)) fun Dp Dw Ed a k m e Ci=>oE h fun Br By h=>?_;have Dg:=Enc.ow_agr Bm (m.a 1 z);have Da:=News.box Ci (m.a 0 z) (by simp) (m:=1);have Cy:=m.a 4 z;have m:=m.sl [4,1,0,2,3] z;have m:=m.join2;refine s_appO (F:=Ae) (G:=[Bj]) By te88 z m Aa Cy Da Dg (Agr.refl _ _) k z z z z z z fun Cp Dd Bq a k e m De=>ul 4 k z fun k=>?_;exact ⟨_,_,_,_,k.p z,m.sl [2,3,0] z,De,h⟩
   refine uc 12 k z fun k=>?_;cases h;exact finR1 k z (RV.tmp k z) ⟨_,Ae,z,m.ext,(m.v Aa 2 z),(m.fresh 2 z)⟩
 exact ⟨_,_,_,_,_,k.p z,m.sl [2,0,1] z,Bt,h⟩

end Go.Proofs.YthkaklkinepfkaaGreatDoor
