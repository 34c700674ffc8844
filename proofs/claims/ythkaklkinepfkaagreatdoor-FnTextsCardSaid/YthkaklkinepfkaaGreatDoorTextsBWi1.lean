/- FnTexts: the walks of functions that it reaches (TextsBWi,part 1). Printed by gen.py. -/
import Derived.Test.YthkaklkinepfkaaGreatDoorTextsBT
set_option maxRecDepth 20000
set_option linter.unusedSimpArgs false
set_option linter.unusedVariables false
set_option linter.unnecessarySimpa false
namespace Go.Proofs.YthkaklkinepfkaaGreatDoor
open Go Go.RowKit
open Enc (rd ow)
open Arg (argv)
open Ret (retv)
open Go.Proofs.Tryz


theorem c_impl_in (fu) {w0} (n1 Ab Ac) {r} (h:d_impl_in fu n1 Ab Ac = some r):cS 68 [I n1,I Ab,I Ac] w0 (.bool (r)):=by
 refine eg func68 z ntmps68 z fun k m=>uc 11 k z fun k=>bS h k 10 z (fun _ h k=>?_) fun _ h k=>?_
 · refine ul 8 k z fun k=>fS h k m z z
 refine ul 8 k z fun k=>fS h k m z z
theorem c_impl_unitsRight (fu) {w0} (Ac) {v2 F3} (Aa:rd w0 F3 [v2] Ac) {r} (h:d_impl_unitsRight fu Ac = some r):cS 75 [v2] w0 (.bool (r)):=by
 refine eg func75 z ntmps75 z fun k m=>gc 14 [lF Aa] k z fun k=>lG (fun n a w=>∃ Ab,K 32 [(0,v2),(5,v2),(6,I ((Ac.length:Int))),(7,I Ab)] a ∧ St [] w0 w [] ∧ d_impl_unitsRight_L1 fu Ac n Ab = some r) ?_ fu ?_
 · rintro Ak a Am ⟨Ab,k,m,h⟩;refine uc 6 k z fun k=>cJ h k z (fun h=>?_) fun h=>?_
   · refine uc 2 k z fun k=>cg (fun a w=>K 32 [(0,v2),(5,v2),(6,I ((Ac.length:Int))),(7,I Ab)] a ∧ St [] w0 w [] ∧ d_impl_unitsRight_J1 fu (d_impl_unitsRight_L1 fu Ac Ak) Ab = some r) ?_ ?_
     · rintro a Ao ⟨k,m,h⟩;refine uc 5 k z fun k=>?_;exact ⟨_,k.p z,m.sl [] z,h⟩
     refine o2 h fun Ap Ag Ah Al h=>gc 13 [iF Aa Ag,eF (m.r Aa) Ag 0] k z fun k=>cC k m call68 z (c_impl_in fu _ _ _  Al) fun Ar e a k m=>pN 2 k z fun a k=>bS h k 15 z (fun _ h k=>?_) fun _ h k=>?_
     · refine ul 26 k z fun k=>fS h k m z z
     refine pN 3 k z fun a k=>bS h k 18 z (fun _ h k=>?_) fun _ h k=>?_
     · refine oE h fun Aq Af h=>gl 11 [iF Aa Af,eF (m.r Aa) Af 0] k z fun k=>cJ h k z (fun h=>?_) fun h=>?_
       · refine uc 11 k z fun k=>fS h k m z z
       refine uc 3 k z fun k=>?_;exact ⟨k.p z,m.sl [] z,h⟩
     refine ul 15 k z fun k=>?_;exact ⟨k.p z,m.sl [] z,h⟩
   refine gc 14 [lF Aa] k z fun k=>fS h k m z z
 exact ⟨_,k.p z,m.sl [] z,h⟩
theorem c_impl_isPlace (fu) {w0} (n1) {r} (h:d_impl_isPlace fu n1 = some r):cS 76 [I n1] w0 (.bool (r)):=by
 refine eg func76 z ntmps76 z fun k m=>oE h fun x2 Aa h=>uc 8 k z fun k=>cC k m call68 z (c_impl_in fu _ _ _  Aa) fun w5 e a k m=>ul 4 k z fun k=>fS h k m z z
theorem c_impl_PlanOk (fu) {w0} (x1) {As F3} (Bj:rd w0 F3 As x1) {r} (h:d_impl_PlanOk fu x1 = some r):cS 34 [.agg As.toArray] w0 (.bool (r)):=by
 refine eg func34 z ntmps34 z fun k m=>?_;obtain ⟨v5,F6,v7,F8,rfl,rfl,Aa,Al⟩:=Bj;refine uc 2 k z fun k=>s_box m k z z z z z z fun Ac Ar a k m e Ak=>ul 3 k z fun k=>cg (fun a w=>K 73 [(1,pt Ac)] a ∧ St [] w0 w [([Ac],Ar)] ∧ d_impl_PlanOk_J2 fu x1 = some r) ?_ ?_
 · rintro a Co ⟨k,m,h⟩;refine gc 10 [bF m 0 Ak z,lF Aa] k z fun k=>lG (fun n a w=>∃ Ab,K 73 [(1,pt Ac),(20,v5),(21,I ((x1.fCartons.length:Int))),(22,I Ab)] a ∧ St [] w0 w [([Ac],Ar)] ∧ d_impl_PlanOk_L1 fu x1 n Ab = some r) ?_ fu ?_
   · rintro Bo a Bw ⟨Ab,k,m,h⟩;refine uc 6 k z fun k=>cJ h k z (fun h=>?_) fun h=>?_
     · refine uc 2 k z fun k=>cg (fun a w=>K 73 [(1,pt Ac),(20,v5),(21,I ((x1.fCartons.length:Int))),(22,I Ab)] a ∧ St [] w0 w [([Ac],Ar)] ∧ d_impl_PlanOk_J1 fu (d_impl_PlanOk_L1 fu x1 Bo) Ab = some r) ?_ ?_
       · rintro a Cb ⟨k,m,h⟩;refine uc 5 k z fun k=>?_;exact ⟨_,k.p z,m.sl [0] z,h⟩
       refine oE h fun Av At h=>gc 5 [iF Aa At] k z fun k=>?_;obtain ⟨Cl,Cc,Bu,Bm,Br,Ax⟩:=rd_get Aa (ix_some At).2.2;obtain ⟨Az,_,rfl,rfl,Aq⟩:=Bm;refine sv k z (r_ldA ta37 (Br.agr (m.a00 (Enc.rd_lt Aa)) Ax) z k z z) fun a k=>s_alloc m k zeroValue37 z z z z z fun Ci Cn a k m e Bt=>pN 1 k z fun a k=>sT sizeOf37 m 0 Bt 0 k z (allc z (allc z (allc (rd_o Aq) alln))) fun By a k e m Ap=>oE h fun Am Au h=>gl 9 [bF m 1 Ak z,iF Al Au,eA (m.r Al) Au] k z fun k=>s_alloc m k zeroValue39 z z z z z fun Cm Cd a k m e Aw=>sT sizeOf39 m 0 Aw 0 k z z fun Cg a k e m Ao=>oE h fun Bc Bf h=>gl 6 [bF m 1 Ap z] k z fun k=>cC k m call68 z (c_impl_in fu _ _ _  Bf) fun Bv e a k m=>pN 2 k z fun a k=>bS h k 36 z (fun _ h k=>?_) fun _ h k=>?_
       · refine ul 49 k z fun k=>fS h k m z z
       refine oE h fun Bp Bn h=>gl 2 [bF m 1 Ap z] k z fun k=>cC k m call68 z (c_impl_in fu _ _ _  Bn) fun Cj e a k m=>pN 3 k z fun a k=>bS h k 42 z (fun _ h k=>?_) fun _ h k=>?_
       · refine ul 43 k z fun k=>fS h k m z z
       refine oE h fun Bg Bk h=>gl 2 [bF m 1 Ap z] k z fun k=>cC k m call75 z (c_impl_unitsRight fu _ (m.r Aq) Bk) fun Ce e a k m=>pN 3 k z fun a k=>bS h k 48 z (fun _ h k=>?_) fun _ h k=>?_
       · refine ul 37 k z fun k=>fS h k m z z
       refine oE h fun Bl Bh h=>gl 2 [bF m 0 Ao z] k z fun k=>cC k m call76 z (c_impl_isPlace fu _  Bh) fun Bz e a k m=>pN 3 k z fun a k=>bS h k 54 z (fun _ h k=>?_) fun _ h k=>?_
       · refine ul 31 k z fun k=>fS h k m z z
       refine oE h fun Bi Bb h=>gl 2 [bF m 0 Ao z] k z fun k=>cC k m call76 z (c_impl_isPlace fu _  Bb) fun Bx e a k m=>pN 3 k z fun a k=>bS h k 60 z (fun _ h k=>?_) fun _ h k=>?_
       · refine ul 25 k z fun k=>fS h k m z z
       refine oE h fun Ay Be h=>gl 2 [bF m 0 Ao z] k z fun k=>cC k m call76 z (c_impl_isPlace fu _  Be) fun Ck e a k m=>pN 3 k z fun a k=>bS h k 66 z (fun _ h k=>?_) fun _ h k=>?_
       · refine ul 19 k z fun k=>fS h k m z z
       refine oE h fun Ca Bd h=>gl 2 [bF m 0 Ao z] k z fun k=>cC k m call76 z (c_impl_isPlace fu _  Bd) fun Ch e a k m=>ul 4 k z fun k=>cJ h k z (fun h=>?_) fun h=>?_
       · refine uc 11 k z fun k=>fS h k m z z
       refine uc 3 k z fun k=>?_;exact ⟨k.p z,m.sl [2] z,h⟩
     refine uc 11 k z fun k=>fS h k m z z
   exact ⟨_,k.p z,m.sl [0] z,h⟩
 refine gc 10 [bF m 0 Ak z,lF Al,bF m 0 Ak z,lF Aa] k z fun k=>bS h k 13 z (fun _ h k=>?_) fun _ h k=>?_
 · refine ul 15 k z fun k=>fS h k m z z
 refine gl 7 [bF m 0 Ak z,lF Aa] k z fun k=>cJ h k z (fun h=>?_) fun h=>?_
 · refine uc 7 k z fun k=>fS h k m z z
 refine uc 2 k z fun k=>?_;exact ⟨k.p z,m.sl [0] z,h⟩
theorem c_strconv_Itoa (fu:Nat) {w0:World} (hT:Te Tryz.prog w0) (x1:Int) {r:ByteArray}
    (h:d_strconv_Itoa fu x1 = some r) :
    Calls Tryz.prog 141 #[I x1] w0 fun e w=>e = .returned (.string r) ∧ Ext [] w0 w :=
  c_itoa (fun n h0 h1 w ht=>Tryz.strconv_Itoa n h0 h1 w ht) hT.t x1 h

theorem c_impl_Digits (fu) {w0} (hT:Te Tryz.prog w0) (n1) {r} (h:d_impl_Digits fu n1 = some r):cS 77 [I n1] w0 (.string (r)):=by
 refine eg func77 z ntmps77 z fun k m=>oE h fun x2 Aa h=>uc 8 k z fun k=>cC k m call141 z (c_strconv_Itoa fu (m.te hT) _  Aa) fun w5 e a k m=>ul 4 k z fun k=>fS h k m z z
theorem c_impl_textLine (fu) {w0} (hT:Te Tryz.prog w0) (Ad Ab) {v3 F4} (Ac:rd w0 F4 [v3] Ab) {r} (h:d_impl_textLine fu Ad Ab = some r):cS 35 [.string (Ad),v3] w0 (.tuple #[.string (r.1),.bool (r.2)]):=by
 refine eg func35 z ntmps35 z fun k m=>gc 21 [lF Ac] k z fun k=>lG (fun n a w=>∃ Ae Aa,K 27 [(6,.string (Ae)),(10,v3),(11,I ((Ab.length:Int))),(12,I Aa)] a ∧ St [] w0 w [] ∧ d_impl_textLine_L1 fu Ab n Ae Aa = some r) ?_ fu ?_
 · rintro At a Ap ⟨Ae,Aa,k,m,h⟩;refine uc 6 k z fun k=>cJ h k z (fun h=>?_) fun h=>?_
   · refine o2 h fun Aw Af As Ai h=>gc 15 [iF Ac Af,eF (m.r Ac) Af 0] k z fun k=>cC k m call68 z (c_impl_in fu _ _ _  Ai) fun Aq e a k m=>ul 3 k z fun k=>cJ h k z (fun h=>?_) fun h=>?_
     · refine uc 13 k z fun k=>?_;cases h;exact finR2 k z (RV.tmp k z) (RV.tmp k z) ⟨z,m.ext⟩
     refine oE h fun Au Ao h=>uc 5 k z fun k=>cC k m call77 z (c_impl_Digits fu (m.te hT) _  Ao) fun Ax e a k m=>oE h fun Av Ak h=>sv k z (r_cat Ak k z z z) fun a k=>oE h fun Ag Al h=>sv k z (r_cat Al k z z z) fun a k=>ul 9 k z fun k=>?_;exact ⟨_,_,k.p z,m.sl [] z,h⟩
   refine oE h fun Ar Ah h=>uc 8 k z fun k=>sv k z (r_cat Ah k z z z) fun a k=>ul 5 k z fun k=>?_;cases h;exact finR2 k z (RV.tmp k z) (RV.tmp k z) ⟨z,m.ext⟩
 exact ⟨_,_,k.p z,m.sl [] z,h⟩
theorem c_impl_PlanText (fu) {w0} (hT:Te Tryz.prog w0) (x1) {Ak F3} (Bb:rd w0 F3 Ak x1) {r} (h:d_impl_PlanText fu x1 = some r):cS 11 [.agg Ak.toArray] w0 (.string (r)):=by
 refine eg func11 z ntmps11 z fun k m=>?_;obtain ⟨v5,F6,v7,F8,rfl,rfl,Ab,Ad⟩:=Bb;refine uc 2 k z fun k=>s_box m k z z z z z z fun Am Au a k m e Aj=>oE h fun Bq Aq h=>gl 7 [bA m 0 Aj z] k z fun k=>cC k m call34 z (c_impl_PlanOk fu _ (mkPlan (m.r Ab) (m.r Ad)) Aq) fun By e a k m=>ul 3 k z fun k=>cJ h k z (fun h=>?_) fun h=>?_
 · refine uc 7 k z fun k=>fS h k m z z
 refine gc 17 [bF m 0 Aj z,lF Ab] k z fun k=>lG (fun n a w=>∃ Ag Ae,K 50 [(1,pt Am),(3,.string (Ag)),(13,v5),(14,I ((x1.fCartons.length:Int))),(15,I Ae)] a ∧ St [] w0 w [([Am],Au)] ∧ d_impl_PlanText_L1 fu x1 n Ag Ae = some r) ?_ fu ?_
 · rintro Ca a Bk ⟨Ag,Ae,k,m,h⟩;refine uc 6 k z fun k=>cJ h k z (fun h=>?_) fun h=>?_
   · refine oE h fun Ac Ao h=>gc 8 [iF Ab Ao] k z fun k=>?_;obtain ⟨Bj,Bt,Bn,Be,Az,Ar⟩:=rd_get Ab (ix_some Ao).2.2;obtain ⟨Ba,_,rfl,rfl,Ah⟩:=Be;refine sv k z (r_ldA ta37 (Az.agr (m.a00 (Enc.rd_lt Ab)) Ar) z k z z) fun a k=>s_alloc m k zeroValue37 z z z z z fun Bo Bh a k m e Bc=>pN 1 k z fun a k=>sT sizeOf37 m 0 Bc 0 k z (allc z (allc z (allc (rd_o Ah) alln))) fun Bz a k e m Ai=>oE h fun Aa Al h=>gl 9 [bF m 1 Aj z,iF Ad Al,eA (m.r Ad) Al] k z fun k=>s_alloc m k zeroValue39 z z z z z fun Cb Br a k m e As=>sT sizeOf39 m 0 As 0 k z z fun Bu a k e m Af=>gl 16 [bF m 1 Ai z,bF m 1 Ai z,bF m 0 Af z,bF m 0 Af z,bF m 0 Af z,bF m 0 Af z] k z fun k=>sB te35 m k z (by exact fC z (fC z (fC z (fC z (fC z (fC z fN)))))) fun Bx Bi Bv a k m e At=>?_;have Aw:=ow_bx At ([Ac.fType,Ac.fGroup,Aa.fPallet,Aa.fX,Aa.fY,Aa.fZ]:List Int) z z z;refine oE h fun Bl Ax h=>gl 2 [bF m 2 Ai z] k z fun k=>s_appF Ax te35 z m 0 Aw (News.rd (m.r Ah)) z z k z z z z z z z fun Bm Bp Bw a k e m Bf=>oE h fun Bs Ay h=>cC k m call35 z (c_impl_textLine fu (m.te hT) _ _ (m.q Bf 0 z) Ay) fun Cc e a k m=>oE h fun Bd Ap h=>ul 10 k z fun k=>sv k z (r_cat Ap k z z z) fun a k=>ul 9 k z fun k=>?_;exact ⟨_,_,k.p z,m.sl [3] z,h⟩
   refine uc 12 k z fun k=>fS h k m z z
 exact ⟨_,_,k.p z,m.sl [0] z,h⟩
theorem c_impl_Parts (fu) {w0} (Ab Ac) {r} (h:d_impl_Parts fu Ab Ac = some r):cL 36 [.string (Ab),.int .u8 (Ac)] w0 r:=by
 refine eg func36 z ntmps36 z fun k m=>uc 7 k z fun k=>sB te68 m k z (by exact fN) fun g3 w4 e6 a k m e Bb=>?_;have As:=ow_bx Bb ([]:List ByteArray) z z z;refine ul 15 k z fun k=>lG (fun n a w=>∃ Ag Ai Am Aj Ae Aa,K 35 [(0,.string (Ab)),(1,.int .u8 (Ac)),(5,Ai),(6,I Ae),(7,I Aa)] a ∧ St [] w0 w [(Am,Aj)] ∧ ow Aj Am [Ai] Ag ∧ d_impl_Parts_L1 fu Ab Ac n Ag Ae Aa = some r) ?_ fu ?_
 · rintro Bl a Br ⟨Ag,Ai,Am,Aj,Ae,Aa,k,m,Ao,h⟩;refine uc 5 k z fun k=>sv k z (r_lenS k underlying9 z z) fun a k=>ul 3 k z fun k=>cJ h k z (fun h=>?_) fun h=>?_
   · refine uc 2 k z fun k=>cg (fun a w=>∃ Af Ad Ak Ah Al,K 35 [(0,.string (Ab)),(1,.int .u8 (Ac)),(5,Ad),(6,I Al),(7,I Aa)] a ∧ St [] w0 w [(Ak,Ah)] ∧ ow Ah Ak [Ad] Af ∧ d_impl_Parts_J1 fu (d_impl_Parts_L1 fu Ab Ac Bl) Aa Af Al = some r) ?_ ?_
     · rintro a By ⟨Af,Ad,Ak,Ah,Al,k,m,Bk,h⟩;refine uc 6 k z fun k=>?_;exact ⟨_,_,_,_,_,_,k.p z,m.sl [0] z,Bk,h⟩
     refine oE h fun Bp At h=>uc 5 k z fun k=>sv k z (r_ixs At k underlying9 z z z) fun a k=>ul 4 k z fun k=>cJ h k z (fun h=>?_) fun h=>?_
     · refine oE h fun Aq Be h=>uc 6 k z fun k=>sv k z (r_sls Be k underlying9 z z z z) fun a k=>sB te68 m k z (by exact fC z fN) fun Bn Bw Bt a k m e Au=>?_;have Bj:=ow_bx Au ([Aq]:List ByteArray) z z z;refine oE h fun Bc Bf h=>s_appF Bf te68 z m 1 Ao (News.rd (m.q Bj 0 z)) z z k z z z z z z z fun Bh Ax Bg a k e m Ba=>ul 10 k z fun k=>?_;exact ⟨_,_,_,_,_,k.p z,m.sl [1] z,Ba,h⟩
     refine uc 3 k z fun k=>?_;exact ⟨_,_,_,_,_,k.p z,m.sl [0] z,Ao,h⟩
   refine oE h fun Ap Bi h=>uc 10 k z fun k=>sv k z (r_slsF Bi k underlying9 z z z) fun a k=>sB te68 m k z (by exact fC z fN) fun Bo Bx Bs a k m e Bd=>?_;have Aw:=ow_bx Bd ([Ap]:List ByteArray) z z z;refine oE h fun Bu Az h=>s_appF Az te68 z m 1 Ao (News.rd (m.q Aw 0 z)) z z k z z z z z z z fun Bq Ay Bv a k e m Ar=>ul 4 k z fun k=>?_;cases h;exact finR1 k z (RV.tmp k z) ⟨_,Ay,z,m.ext,(m.v Ar 1 z),(m.fresh 1 z)⟩
 exact ⟨_,_,_,_,_,_,k.p z,m.sl [0] z,As,h⟩
theorem c_strconv_Atoi (fu:Nat) {w0:World} (hT:Te Tryz.prog w0) (x1:ByteArray) {r:Int × Bool}
    (h:d_strconv_Atoi fu x1 = some r) :
    Calls Tryz.prog 142 #[.string x1] w0 fun e w=>∃ (v0:Value),e = .returned (.tuple #[I r.1,v0]) ∧ Ext [] w0 w ∧ isErr v0 r.2 :=
  c_atoi (fun s h1 v h2 w=>Tryz.strconv_Atoi_ok s h1 v h2 w) (fun s h1 h2 h3 tp p w hv=>(Tryz.strconv_Atoi_syntax_var s h1 h2 h3 tp p w hv).mono fun e w ⟨n,he,_,_,hb⟩=>⟨_,_,he,hb⟩) (fun s h1 h2 tp p w hv=>(Tryz.strconv_Atoi_range_var s h1 h2 tp p w hv).mono fun e w ⟨n,he,_,_,hb⟩=>⟨_,_,he,hb⟩) hT x1 h

theorem c_impl_Number (fu) {w0} (hT:Te Tryz.prog w0) (Ac) {r} (h:d_impl_Number fu Ac = some r):cS 80 [.string (Ac)] w0 (.tuple #[I r.1,.bool (r.2)]):=by
 refine eg func80 z ntmps80 z fun k m=>oE h fun x2 Af h=>uc 9 k z fun k=>sC k call142 z (c_strconv_Atoi fu (m.te hT) _  Af) fun e4 w5 hR=>?_;obtain ⟨v6,rfl,e,Ad⟩:=hR;refine ⟨_,z,fun a k=>?_⟩;have m:=m.step e;refine ul 7 k z fun k=>cg (fun a w=>K 25 [(4,I x2.1)] a ∧ St [] w0 w [] ∧ d_impl_Number_J1 fu x2 = some r) ?_ ?_
 · rintro a Al ⟨k,m,h⟩;refine uc 8 k z fun k=>?_;cases h;exact finR2 k z (RV.tmp k z) (RV.tmp k z) ⟨z,m.ext⟩
 refine uc 3 k z fun k=>sv k z (r_err Ad k (by kernel_rfl) z z z) fun a k=>pN 1 k z fun a k=>bS h k 13 z (fun _ h k=>?_) fun _ h k=>?_
 · refine ul 21 k z fun k=>?_;cases h;exact finR2 k z (RV.tmp k z) (RV.tmp k z) ⟨z,m.ext⟩
 refine pN 1 k z fun a k=>oE h fun Ae Ai h=>cC k m call68 z (c_impl_in fu _ _ _  Ai) fun Aj e a k m=>pN 3 k z fun a k=>bS h k 18 z (fun _ h k=>?_) fun _ h k=>?_
 · refine ul 16 k z fun k=>?_;cases h;exact finR2 k z (RV.tmp k z) (RV.tmp k z) ⟨z,m.ext⟩
 refine pN 1 k z fun a k=>oE h fun Ak Ag h=>cC k m call77 z (c_impl_Digits fu (m.te hT) _  Ag) fun Am e a k m=>ul 5 k z fun k=>cJ h k z (fun h=>?_) fun h=>?_
 · refine uc 8 k z fun k=>?_;cases h;exact finR2 k z (RV.tmp k z) (RV.tmp k z) ⟨z,m.ext⟩
 refine uc 2 k z fun k=>?_;exact ⟨k.p z,m.sl [] z,h⟩
theorem c_impl_wordsOf (fu) {w0} (hT:Te Tryz.prog w0) (Ak Ae Ar) {r} (h:d_impl_wordsOf fu Ak Ae Ar = some r):Calls Tryz.prog 45 #[.string (Ak),.string (Ae),I Ar] w0 fun e w=>∃ (v0:Value) (G0:List Nat),e = .returned (.tuple #[v0,.bool (r.2)]) ∧ Ext [] w0 w ∧ ow w G0 [v0] r.1 ∧ (∀ b ∈ G0,w0.heap.size ≤ b):=by
 refine eg (vs:=[_,_,_]) func45 z ntmps45 z fun k m=>oE h fun x4 Bb h=>uc 9 k z fun k=>sL k m call36 z (c_impl_Parts fu _ _  Bb) fun w7 Bg F8 Aa k m=>ul 3 k z fun k=>cg (fun a w=>K 49 [(8,Bg)] a ∧ St [] w0 w [(F8,w7)] ∧ d_impl_wordsOf_J1 fu x4 = some r) ?_ ?_
 · rintro a Br ⟨k,m,h⟩;refine uc 2 k z fun k=>sB te35 m k z (by exact fN) fun Aq Bm Bn a k m e Au=>?_;have Az:=ow_bx Au ([]:List Int) z z z;refine oE h fun Aj Be h=>ul 7 k z fun k=>s_slFromO Aa Be k ts68 z z z z z z fun Ba a k Af=>gl 5 [lF (Enc.ow_rd Af)] k z fun k=>lG (fun n a w=>∃ Ag Ai Ac Ah Ad,K 49 [(9,Ai),(30,Ba),(31,I ((Aj.length:Int))),(32,I Ad)] a ∧ St [] w0 w [(F8,w7),(Ac,Ah)] ∧ ow Ah Ac [Ai] Ag ∧ d_impl_wordsOf_L1 fu Aj n Ag Ad = some r) ?_ fu ?_
   · rintro Bs a Bp ⟨Ag,Ai,Ac,Ah,Ad,k,m,Am,h⟩;refine uc 6 k z fun k=>cJ h k z (fun h=>?_) fun h=>?_
     · refine o2 h fun Bu Al Ap As h=>gc 14 [iF (Enc.ow_rd Af) Al,eF (m.q Af 0 z) Al 0] k z fun k=>cC k m call80 z (c_impl_Number fu (m.te hT) _  As) fun Bo e a k m=>ul 14 k z fun k=>cJ h k z (fun h=>?_) fun h=>?_
       · refine uc 13 k z fun k=>?_;cases h;exact finR2 k z (RV.tmp k z) (RV.tmp k z) ⟨_,[],z,m.ext,(ow_nil _),(by simp)⟩
       refine uc 5 k z fun k=>sB te35 m k z (by exact fC z fN) fun Bv Bq Bt a k m e Bc=>?_;have Ax:=ow_bx Bc ([Ap.1]:List Int) z z z;refine oE h fun At Bh h=>s_appF Bh te35 z m 2 Am (News.rd (m.q Ax 0 z)) z z k z z z z z z z fun Bk Bl Ay a k e m Av=>ul 9 k z fun k=>?_;exact ⟨_,_,_,_,_,k.p z,m.sl [1,2] z,Av,h⟩
     refine uc 13 k z fun k=>?_;cases h;exact finR2 k z (RV.tmp k z) (RV.tmp k z) ⟨_,Ac,z,m.ext,(m.v Am 1 z),(m.fresh 1 z)⟩
   exact ⟨_,_,_,_,_,k.p z,m.sl [1,0] z,Az,h⟩
 refine oE h fun Bd Ao h=>gc 8 [iF (Enc.ow_rd Aa) Ao,eF (m.q Aa 0 z) Ao 0] k z fun k=>bS h k 21 z (fun _ h k=>?_) fun _ h k=>?_
 · refine ul 17 k z fun k=>?_;cases h;exact finR2 k z (RV.tmp k z) (RV.tmp k z) ⟨_,[],z,m.ext,(ow_nil _),(by simp)⟩
 refine gl 8 [lF (Enc.ow_rd Aa)] k z fun k=>cJ h k z (fun h=>?_) fun h=>?_
 · refine uc 8 k z fun k=>?_;cases h;exact finR2 k z (RV.tmp k z) (RV.tmp k z) ⟨_,[],z,m.ext,(ow_nil _),(by simp)⟩
 refine uc 2 k z fun k=>?_;exact ⟨k.p z,m.sl [0] z,h⟩
theorem c_impl_LineOf (fu) {w0} (hT:Te Tryz.prog w0) (Ba) {r} (h:d_impl_LineOf fu Ba = some r):Calls Tryz.prog 19 #[.string (Ba)] w0 fun e w=>∃ (Bb:List Value) (G0:List Nat),e = .returned (.tuple #[.agg Bb.toArray,.agg (Flat.e r.2.1).toArray,.bool (r.2.2)]) ∧ Ext [] w0 w ∧ ow w G0 Bb r.1 ∧ (∀ b ∈ G0,w0.heap.size ≤ b):=by
 refine eg (vs:=[_]) func19 z ntmps19 z fun k m=>uc 2 k z fun k=>s_alloc m k zeroValue37 z z z z z fun b2 w4 a k m e Ao=>s_alloc m k zeroValue39 z z z z z fun b5 w7 a k m e Am=>oE h fun x8 Cr h=>ul 6 k z fun k=>sL k m call36 z (c_impl_Parts fu _ _  Cr) fun Da Di Cl Ax k m=>oE h fun Au Cp h=>gl 9 [lF (Enc.ow_rd Ax)] k z fun k=>sC k call45 z (c_impl_wordsOf fu (m.te hT) _ _ _  Cp) fun Cu Aq hR=>?_;obtain ⟨Bh,Ai,rfl,e,Aa,Co⟩:=hR;refine ⟨_,z,fun a k=>?_⟩;have m:=m.nw e Co Aa;refine ul 7 k z fun k=>cg (fun a w=>K 61 [(2,pt b2),(3,pt b5),(6,Bh)] a ∧ St [] w0 w [([b2],w4),([b5],w7),(Ai,Aq)] ∧ d_impl_LineOf_J2 fu Au = some r) ?_ ?_
 · rintro a Dd ⟨k,m,h⟩;refine cg (fun a w=>∃ Ab Ac Ak Af Al Ap,K 61 [(2,pt b2),(3,pt b5),(6,Bh),(8,pt Al)] a ∧ St [] w0 w [([b2],w4),([b5],w7),(Ai,Aq),([Al],Ap)] ∧ ow Aq Ai [Af] Ak ∧ bx Ap Al [I Ab,I Ac,Af] 37 ∧ d_impl_LineOf_J1 fu Au Ab Ac Ak = some r) ?_ ?_
   · rintro a Dl ⟨Ab,Ac,Ak,Af,Al,Ap,k,m,At,Ay,h⟩;refine uc 1 k z fun k=>d_go [] mixo m z fun Bn hMd=>?_;have m:=hMd;have s:=Ext.refl ([]:List Nat) Bn;refine o2 h fun Ad Bg Ah Bd h=>o2 h fun Ae Bi Ag Bc h=>dr [0,3,6,9,1,2,4,5,7,8,10,11] 12 [iF (Enc.ow_rd Aa) Bg,eF (hMd.q Aa 2 z) Bg 0,iF (Enc.ow_rd Aa) Bd,eF (hMd.q Aa 2 z) Bd 0,iF (Enc.ow_rd Aa) Bi,eF (hMd.q Aa 2 z) Bi 0,iF (Enc.ow_rd Aa) Bc,eF (hMd.q Aa 2 z) Bc 0] k z s fun k=>dT k 12 z z s (fun w s=>r_build bt39 k (cs:=#[I Ad,I Ah,I Ae,I Ag]) (ps:=[(0,.tmp 39),(1,.tmp 42),(2,.tmp 45),(3,.tmp 48)]) z z (by kernel_rfl)) fun a k=>dG 13 z ?_;refine s_allocN (cs:=[I 0,I 0,I 0,I 0]) m k zeroValue39 z z z z z fun Dq Cx a k m e Cm Br=>?_;have Ct:=lo1 (Nat.le_trans s.size Br);refine ns s e fun s=>dG 14 z (sT sizeOf39 m 0 Cm 0 k z z fun Dg a k e m Bk=>?_);have s:=s.trans e (fun y hy=>Or.inr (Ct y hy));refine wpList_nil ⟨s,?_⟩;refine dD ((nm_then ?_));refine gc 4 [bA m 4 Ay z] k z fun k=>sB te24 m k z (by exact fC z fN) fun Be Do De a k m e Bt=>gl 1 [bA m 1 Bk z] k z fun k=>sB te25 m k z (by exact fC z fN) fun Az Cy Dr a k m e Bz=>?_;have Bj:=ow_bx Bz ([(⟨Ad,Ah,Ae,Ag⟩:Spot)]:List Spot) z z z;refine sv k z (r_build bt27 k (cs:=#[(.slice (some ⟨Be,0,none⟩) 1 1),(.slice (some ⟨Az,0,none⟩) 1 1)]) (ps:=[(0,.tmp 51),(1,.tmp 53)]) z z (fillc z z z (fillc z (rd_c (Enc.ow_rd Bj)) z z))) fun a k=>oE h fun Cw Cs h=>cC k m call34 z (c_impl_PlanOk fu _ (show rd _ _ [(.slice (some ⟨Be,0,none⟩) 1 1),(.slice (some ⟨Az,0,none⟩) 1 1)] ((⟨([(⟨Ab,Ac,Ak⟩:Carton)]:List Carton),([(⟨Ad,Ah,Ae,Ag⟩:Spot)]:List Spot)⟩:Plan):Plan) from ⟨_,_,_,_,z,z,(rd_bx1 (m.y Bt 1 z) (show rd _ _ [I Ab,I Ac,Af] ((⟨Ab,Ac,Ak⟩:Carton):Carton) from ⟨_,_,z,z,(m.q At 5 z)⟩)),(m.q Bj 0 z)⟩) Cs) fun Dn e a k m=>ul 3 k z fun k=>cJ h k z (fun h=>?_) fun h=>?_
     · refine uc 2 k z fun k=>sv k z (r_build bt37 k (cs:=#[I 0,I 0,.slice none 0 0]) (ps:=[]) z z (by kernel_rfl)) fun a k=>sv k z (r_build bt39 k (cs:=#[I 0,I 0,I 0,I 0]) (ps:=[]) z z (by kernel_rfl)) fun a k=>sT sizeOf37 m 3 Ao 0 k z z fun Dm a k e m Bv=>sT sizeOf39 m 4 Am 0 k z z fun Db a k e m Ci=>ul 5 k z fun k=>?_;cases h;exact finR3 k z (RV.cA k z ta37 (Bv.at (m.a 3 z) 0 3 z z z) z) (RV.cA k z ta39 (Ci.at (m.a 4 z) 0 4 z z z) z) (RV.tmp k z) ⟨_,_,z,m.ext,⟨_,[],z,z,(ow_nil _),by simpa [fps] using (m.sl [] z).nd⟩,(by simp)⟩
     refine uc 3 k z fun k=>d_go (([b2]) ++ ([b5])) mixo m z fun Bx hMd=>?_;have m:=hMd;have s:=Ext.refl ((([b2]) ++ ([b5])):List Nat) Bx;have hMj:=(hMd.sel [3,4,0,1,2,5,6] z (by decide)).join2;refine dT k 0 z z s (fun w s=>r_ldA ta37 (Ay.at (hMj.az 5 0 z z z s) 0 3 z z z) z k z z) fun a k=>dT k 1 z z s (fun w s=>r_ldA ta39 (Bk.at (hMj.az 3 0 z z z s) 0 4 z z z) z k z z) fun a k=>dG 2 z (sT sizeOf37 m 3 Ao 0 k z (allc z (allc z (allc (rd_o (Enc.ow_rd At)) alln))) fun Dh a k e m Bm=>?_);have s:=s.trans e (fun y hy=>Or.inl (List.mem_append_left _ hy));refine wpList_nil ⟨s,?_⟩;refine dG 3 z (sT sizeOf39 m 4 Am 0 k z z fun Dp a k e m Cd=>?_);have s:=s.trans e (fun y hy=>Or.inl (List.mem_append_right _ hy));refine wpList_nil ⟨s,?_⟩;refine dM [4] 1 z k z s fun a k=>dD ?_;refine (nm_then ?_);refine wp_ret ?_;cases h;exact finR3 k z (RV.cA k z ta37 (Bm.at (m.a 3 z) 0 3 z z z) z) (RV.cA k z ta39 (Cd.at (m.a 4 z) 0 4 z z z) z) (RV.tmp k z) ⟨_,_,z,m.ext,⟨_,Ai,z,z,(m.v At 5 z),by simpa [fps] using (m.sl [5] z).nd⟩,(m.fresh 5 z)⟩
   refine d_go [] mixo m z fun Ck hMd=>?_;have m:=hMd;have s:=Ext.refl ([]:List Nat) Ck;refine o2 h fun Aw Bf As Bl h=>oE h fun Cq Ch h=>dr [0,3,6,1,2,4,5] 7 [iF (Enc.ow_rd Aa) Bf,eF (hMd.q Aa 2 z) Bf 0,iF (Enc.ow_rd Aa) Bl,eF (hMd.q Aa 2 z) Bl 0] k z s fun k=>?_;obtain ⟨Ar,Av,Cn⟩:=sl_fromO Aa Ch ts35;refine dT k 7 z z s (fun w s=>Cn k z z z _) fun a k=>dT k 8 z z s (fun w s=>r_build bt37 k (cs:=#[I Aw,I As,Ar]) (ps:=[(0,.tmp 30),(1,.tmp 33),(2,.tmp 35)]) z z (fillc z z z (fillc z z z (fillc z (rd_c (Enc.ow_rd Av)) z z)))) fun a k=>dG 9 z (s_allocN (cs:=[I 0,I 0,.slice none 0 0]) m k zeroValue37 z z z z z fun Bs Dc a k m e Bo Cg=>?_);have Cc:=lo1 (Nat.le_trans s.size Cg);refine ns s e fun s=>dG 10 z (sT sizeOf37 m 0 Bo 0 k z (allc z (allc z (allc (rd_o (Enc.ow_rd Av)) alln))) fun Cj a k e m Bu=>?_);have s:=s.trans e (fun y hy=>Or.inr (Cc y hy));refine wpList_nil ⟨s,?_⟩;refine dD ((nm_then ?_));exact ⟨_,_,_,_,_,_,k.p z,m.sl [1,2,3,0] z,Av,Bu,h⟩
 refine uc 5 k z fun k=>bS h k 22 z (fun _ h k=>?_) fun _ h k=>?_
 · refine ul 8 k z fun k=>sv k z (r_build bt37 k (cs:=#[I 0,I 0,.slice none 0 0]) (ps:=[]) z z (by kernel_rfl)) fun a k=>sv k z (r_build bt39 k (cs:=#[I 0,I 0,I 0,I 0]) (ps:=[]) z z (by kernel_rfl)) fun a k=>sT sizeOf37 m 3 Ao 0 k z z fun Df a k e m Ca=>sT sizeOf39 m 2 Am 0 k z z fun Cz a k e m Bw=>ul 5 k z fun k=>?_;cases h;exact finR3 k z (RV.cA k z ta37 (Ca.at (m.a 3 z) 0 3 z z z) z) (RV.cA k z ta39 (Bw.at (m.a 2 z) 0 4 z z z) z) (RV.tmp k z) ⟨_,_,z,m.ext,⟨_,[],z,z,(ow_nil _),by simpa [fps] using (m.sl [] z).nd⟩,(by simp)⟩
 refine ul 5 k z fun k=>cJ h k z (fun h=>?_) fun h=>?_
 · refine uc 2 k z fun k=>sv k z (r_build bt37 k (cs:=#[I 0,I 0,.slice none 0 0]) (ps:=[]) z z (by kernel_rfl)) fun a k=>sv k z (r_build bt39 k (cs:=#[I 0,I 0,I 0,I 0]) (ps:=[]) z z (by kernel_rfl)) fun a k=>sT sizeOf37 m 3 Ao 0 k z z fun Dk a k e m Bp=>sT sizeOf39 m 2 Am 0 k z z fun Dj a k e m Ce=>ul 5 k z fun k=>?_;cases h;exact finR3 k z (RV.cA k z ta37 (Bp.at (m.a 3 z) 0 3 z z z) z) (RV.cA k z ta39 (Ce.at (m.a 2 z) 0 4 z z z) z) (RV.tmp k z) ⟨_,_,z,m.ext,⟨_,[],z,z,(ow_nil _),by simpa [fps] using (m.sl [] z).nd⟩,(by simp)⟩
 refine uc 2 k z fun k=>?_;exact ⟨k.p z,m.sl [3,2,0] z,h⟩
theorem c_impl_ReadPlan (fu) {w0} (hT:Te Tryz.prog w0) (Bb) {r} (h:d_impl_ReadPlan fu Bb = some r):Calls Tryz.prog 12 #[.string (Bb)] w0 fun e w=>∃ (Bc:List Value) (G0:List Nat),e = .returned (.tuple #[.agg Bc.toArray,.bool (r.2)]) ∧ Ext [] w0 w ∧ ow w G0 Bc r.1 ∧ (∀ b ∈ G0,w0.heap.size ≤ b):=by
 refine eg (vs:=[_]) func12 z ntmps12 z fun k m=>uc 2 k z fun k=>s_alloc m k zeroValue27 z z z z z fun b2 w4 a k m e Ah=>oE h fun x5 Ca h=>ul 6 k z fun k=>sL k m call36 z (c_impl_Parts fu _ _  Ca) fun w9 Bl Av Ab k m=>gl 11 [lF (Enc.ow_rd Ab)] k z fun k=>cg (fun a w=>K 59 [(2,pt b2),(4,Bl),(5,I (w64 (((x5.length:Int)) - 1)))] a ∧ St [] w0 w [([b2],w4),(Av,w9)] ∧ d_impl_ReadPlan_J1 fu x5 = some r) ?_ ?_
 · rintro a Dt ⟨k,m,h⟩;refine uc 2 k z fun k=>sv k z (r_build bt27 k (cs:=#[.slice none 0 0,.slice none 0 0]) (ps:=[]) z z (by kernel_rfl)) fun a k=>s_alloc m k zeroValue27 z z z z z fun Ao Dh a k m e Cs=>sT sizeOf27 m 0 Cs 0 k z z fun Cm a k e m Bt=>oE h fun Bh Cp h=>ul 7 k z fun k=>s_slTo (Enc.ow_rd Ab) Cp k ts68 z z z z z z fun Cv a k Al=>gl 5 [lF Al] k z fun k=>lG (fun n a w=>∃ Ay Af Ac Ak Au Ad Ai At Ba Ag,K 59 [(2,pt b2),(6,pt Ao),(30,Cv),(31,I ((Bh.length:Int))),(32,I Ag)] a ∧ St [] w0 w [([b2],w4),(Ac,Ak),(Ai,At),([Ao],Ba),(Av,w9)] ∧ ow Ak Ac [Af] Ay ∧ ow At Ai [Ad] Au ∧ bx Ba Ao [Af,Ad] 27 ∧ d_impl_ReadPlan_L1 fu Bh n Ay Au Ag = some r) ?_ fu ?_
   · rintro Dd a Du ⟨Ay,Af,Ac,Ak,Au,Ad,Ai,At,Ba,Ag,k,m,Ar,Aj,Ap,h⟩;refine uc 6 k z fun k=>cJ h k z (fun h=>?_) fun h=>?_
     · refine o2 h fun Dc Bd Aa Bj h=>gc 14 [iF Al Bd,eF (Enc.rd_agr Al (m.a 4 z)) Bd 0] k z fun k=>sC k call19 z (c_impl_LineOf fu (m.te hT) _  Bj) fun Dk Cy hR=>?_;obtain ⟨Dn,Aw,rfl,e,Ax,Bp⟩:=hR;refine ⟨_,z,fun a k=>?_⟩;have m:=m.nw e Bp Ax;obtain ⟨As,_,rfl,rfl,Bg,_⟩:=Ax;refine pN 4 k z fun a k=>s_alloc m k zeroValue37 z z z z z fun Db Dq a k m e Cg=>s_alloc m k zeroValue39 z z z z z fun Dl Dp a k m e Bs=>sT sizeOf37 m 1 Cg 0 k z (allc z (allc z (allc (rd_o (Enc.ow_rd Bg)) alln))) fun Dj a k e m Cq=>sT sizeOf39 m 0 Bs 0 k z z fun Ds a k e m Bo=>ul 10 k z fun k=>cJ h k z (fun h=>?_) fun h=>?_
       · refine uc 2 k z fun k=>sv k z (r_build bt27 k (cs:=#[.slice none 0 0,.slice none 0 0]) (ps:=[]) z z (by kernel_rfl)) fun a k=>sT sizeOf27 m 3 Ah 0 k z z fun De a k e m Cj=>ul 10 k z fun k=>?_;cases h;exact finR2 k z (RV.cA k z ta27 (Cj.at (m.a 3 z) 0 2 z z z) z) (RV.tmp k z) ⟨_,_,z,m.ext,⟨_,[],_,[],z,z,(ow_nil _),(ow_nil _),by simpa [fps] using (m.sl [] z).nd⟩,(app_fresh (by simp) (by simp))⟩
       refine gc 7 [bF m 6 Ap z,bA m 1 Cq z] k z fun k=>sB te24 m k z (by exact fC z fN) fun Di Cw Cz a k m e By=>oE h fun Bq Bk h=>?_;have Ct:ow _ (Aw) [I Aa.1.fType,I Aa.1.fGroup,As] (Aa.1:Carton):=⟨_,_,z,z,(m.v Bg 3 z),by simpa [fps] using (m.sl [3] z).nd⟩
       have Br:=News.box By (m.a 0 z) (by simp) (m:=1);have Bw:=m.a 5 z;have m:=m.sl [5,3,0,1,2,4,6,7,8] z;have m:=m.join2;refine s_appO (F:=Ac) (G:=(Aw)) Bk te24 z m Ar Bw Br Ct (Agr.refl _ _) k z z z z z z fun Am Cu Ce a k e m Aq=>sv k z (r_fa fa27_0 k z z) fun a k=>s_stb1 (cs':=[Am,Ad]) sizeOf24 m 6 Ap 0 k (rd_c (Enc.ow_rd Aq)) (rd_o (Enc.ow_rd Aq)) z z z z z z z z z fun Da a k e m Bf=>gl 6 [bF m 6 Bf z,bA m 2 Bo z] k z fun k=>sB te25 m k z (by exact fC z fN) fun Cx Df Dg a k m e Ck=>?_;have Bx:=ow_bx Ck ([Aa.2.1]:List Spot) z z z;refine oE h fun Cr Ch h=>s_appF Ch te25 z m 6 Aj (News.rd (m.q Bx 0 z)) z z k z z z z z z z fun Bi Bm Cn a k e m Az=>sv k z (r_fa fa27_1 k z z) fun a k=>s_stb1 (cs':=[Am,Bi]) sizeOf25 m 7 Bf 1 k (rd_c (Enc.ow_rd Az)) (rd_o (Enc.ow_rd Az)) z z z z z z z z z fun Bz a k e m Cl=>ul 8 k z fun k=>?_;exact ⟨_,_,_,_,_,_,_,_,_,_,k.p z,m.sl [5,1,6,7,8] z,Aq,Az,Cl,h⟩
     refine gc 8 [bA m 3 Ap z] k z fun k=>sT sizeOf27 m 0 Ah 0 k z (allc (rd_o (Enc.ow_rd Ar)) (allc (rd_o (Enc.ow_rd Aj)) alln)) fun Dr a k e m Bv=>ul 4 k z fun k=>?_;cases h;exact finR2 k z (RV.cA k z ta27 (Bv.at (m.a 0 z) 0 2 z z z) z) (RV.tmp k z) ⟨_,_,z,m.ext,⟨_,Ac,_,Ai,z,z,(m.v Ar 1 z),(m.v Aj 2 z),by simpa [fps] using (m.sl [1,2] z).nd⟩,(app_fresh (m.fresh 1 z) (m.fresh 2 z))⟩
   exact ⟨_,_,_,_,_,_,_,_,_,_,k.p z,((m.addNil (u:=w0)).addNil (u:=w0)).sel [3,0,1,2,4] z (by decide),(ow_nil _),(ow_nil _),Bt,h⟩
 refine oE h fun Bu Be h=>gc 8 [iF (Enc.ow_rd Ab) Be,eF (m.q Ab 0 z) Be 0] k z fun k=>bS h k 22 z (fun _ h k=>?_) fun _ h k=>?_
 · refine ul 8 k z fun k=>sv k z (r_build bt27 k (cs:=#[.slice none 0 0,.slice none 0 0]) (ps:=[]) z z (by kernel_rfl)) fun a k=>sT sizeOf27 m 1 Ah 0 k z z fun Dm a k e m Bn=>ul 5 k z fun k=>?_;cases h;exact finR2 k z (RV.cA k z ta27 (Bn.at (m.a 1 z) 0 2 z z z) z) (RV.tmp k z) ⟨_,_,z,m.ext,⟨_,[],_,[],z,z,(ow_nil _),(ow_nil _),by simpa [fps] using (m.sl [] z).nd⟩,(app_fresh (by simp) (by simp))⟩
 refine ul 5 k z fun k=>cJ h k z (fun h=>?_) fun h=>?_
 · refine uc 2 k z fun k=>sv k z (r_build bt27 k (cs:=#[.slice none 0 0,.slice none 0 0]) (ps:=[]) z z (by kernel_rfl)) fun a k=>sT sizeOf27 m 1 Ah 0 k z z fun Do a k e m Cc=>ul 5 k z fun k=>?_;cases h;exact finR2 k z (RV.cA k z ta27 (Cc.at (m.a 1 z) 0 2 z z z) z) (RV.tmp k z) ⟨_,_,z,m.ext,⟨_,[],_,[],z,z,(ow_nil _),(ow_nil _),by simpa [fps] using (m.sl [] z).nd⟩,(app_fresh (by simp) (by simp))⟩
 refine uc 2 k z fun k=>?_;exact ⟨k.p z,m.sl [1,0] z,h⟩

end Go.Proofs.YthkaklkinepfkaaGreatDoor
