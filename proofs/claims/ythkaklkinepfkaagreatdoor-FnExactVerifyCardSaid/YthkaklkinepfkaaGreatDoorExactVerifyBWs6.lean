/- FnExactVerify: the walks of functions that it reaches (ExactVerifyBWs,part 6). Printed by gen.py. -/
import Derived.Test.YthkaklkinepfkaaGreatDoorExactVerifyBWs5
set_option maxRecDepth 20000
set_option linter.unusedSimpArgs false
set_option linter.unusedVariables false
set_option linter.unnecessarySimpa false
namespace Go.Proofs.YthkaklkinepfkaaGreatDoor
open Go Go.RowKit
open Enc (rd ow)
open Arg (argv)
open Ret (retv)
open Go.Proofs.Tryz

theorem c_spec_Within (fu) {w0} (p1 b2 Aa) {r} (h:d_spec_Within fu p1 b2 Aa = some r):cS 149 [.agg (Flat.e (p1)).toArray,.agg (Flat.e (b2)).toArray,.agg (Flat.e (Aa)).toArray] w0 (.bool (r)):=by
 refine eg func149 z ntmps149 z fun k m=>uc 2 k z fun k=>s_box m k z z z z z z fun b4 w6 a k m e Aj=>s_box m k z z z z z z fun b7 w9 a k m e Ab=>s_box m k z z z z z z fun Ap Ao a k m e Ai=>oE h fun Ak Al h=>gl 7 [bA m 1 Ab z,bA m 0 Ai z] k z fun k=>cC k m call219 z (c_spec_l12Known fu (b2:Box) (Aa:Spot)  Al) fun Am e a k m=>pN 1 k z fun a k=>bS h k 10 z (fun _ h k=>?_) fun _ h k=>?_
 · refine gl 5 [bF m 1 Ab z] k z fun k=>bS h k 15 z (fun _ h k=>?_) fun _ h k=>?_
   · refine gl 5 [bF m 1 Ab z] k z fun k=>bS h k 20 z (fun _ h k=>?_) fun _ h k=>?_
     · refine gl 5 [bF m 1 Ab z] k z fun k=>bS h k 25 z (fun _ h k=>?_) fun _ h k=>?_
       · refine gl 10 [bF m 0 Ai z,bF m 1 Ab z,bF m 2 Aj z] k z fun k=>bS h k 35 z (fun _ h k=>?_) fun _ h k=>?_
         · refine gl 10 [bF m 0 Ai z,bF m 1 Ab z,bF m 2 Aj z] k z fun k=>bS h k 45 z (fun _ h k=>?_) fun _ h k=>?_
           · refine gl 13 [bF m 0 Ai z,bF m 1 Ab z,bF m 2 Aj z] k z fun k=>fS h k m z z
           refine ul 13 k z fun k=>fS h k m z z
         refine ul 23 k z fun k=>fS h k m z z
       refine ul 33 k z fun k=>fS h k m z z
     refine ul 38 k z fun k=>fS h k m z z
   refine ul 43 k z fun k=>fS h k m z z
 refine ul 48 k z fun k=>fS h k m z z
theorem c_spec_l15Inside (fu) {w0} (r1 x5) {As F3} (Ay:rd w0 F3 As r1) {Ai F7} (Bg:rd w0 F7 Ai x5) {r} (h:d_spec_l15Inside fu r1 x5 = some r):cS 88 [.agg As.toArray,.agg Ai.toArray] w0 (.bool (r)):=by
 refine eg func88 z ntmps88 z fun k m=>?_;obtain ⟨v9,Bp,Aj,Bw,Aq,Bq,rfl,rfl,Ap,Ag,Ah⟩:=Ay;obtain ⟨Ax,Bn,At,Bk,rfl,rfl,Aa,Ae⟩:=Bg;refine uc 2 k z fun k=>s_box m k z z z z z z fun Ar Aw a k m e Ak=>s_box m k z z z z z z fun Al Bj a k m e Ac=>ul 10 k z fun k=>lG (fun n a w=>∃ Ab,K 29 [(2,pt Ar),(3,pt Al),(5,I Ab)] a ∧ St [] w0 w [([Ar],Aw),([Al],Bj)] ∧ d_spec_l15Inside_L1 fu r1 x5 n Ab = some r) ?_ fu ?_
 · rintro Bl a Bu ⟨Ab,k,m,h⟩;refine gc 10 [bF m 1 Ac z,lF Aa] k z fun k=>cJ h k z (fun h=>?_) fun h=>?_
   · refine uc 5 k z fun k=>d_go [] mixo m z fun Au hMd=>?_;have m:=hMd;have s:=Ext.refl ([]:List Nat) Au;refine oE h fun Ad Af h=>dr [5,11,0,1,2,3,4,6] 8 [bA hMd 0 Ak z,bA hMd 0 Ak z,bF hMd 1 Ac z,iF Aa Af] k z s fun k=>?_;obtain ⟨Bo,Bm,Bv,Bi,Bf,Bd⟩:=rd_get Aa (ix_some Af).2.2;obtain ⟨Bb,_,rfl,rfl,Ao⟩:=Bi;refine dT k 7 z z s (fun w s=>r_ldA ta37 (Bf.agr ((hMd.step s).a00 (Enc.rd_lt Aa)) Bd) z k z z) fun a k=>oE h fun Av Am h=>dr [9,10,12,13] 4 [bF hMd 1 Ac z,iF Ae Am,eA (hMd.r Ae) Am] k z s fun k=>dG 8 z (oE h fun Be Az h=>?_);refine cC k m call65 z (c_spec_BoxOf fu _ _ (mkRequest (m.r Ap) (m.r Ag) (m.r Ah)) (mkCarton (m.r Ao)) Az) fun Bs e a k m=>ns s e fun s=>dG 14 z (oE h fun Br Ba h=>cC k m call149 z (c_spec_Within fu (r1.fPallet:Pallet) (Be:Box) (Av:Spot)  Ba) fun Bt e a k m=>?_);refine ns s e fun s=>dM [15] 1 z k z s fun a k=>dD ((nm_then ?_));refine cJ h k z (fun h=>?_) fun h=>?_
     · refine uc 11 k z fun k=>fS h k m z z
     refine uc 9 k z fun k=>?_;exact ⟨_,k.p z,m.sl [0,1] z,h⟩
   refine uc 11 k z fun k=>fS h k m z z
 exact ⟨_,k.p z,m.sl [1,0] z,h⟩
theorem c_spec_l12Cross (fu) {w0} (a1 Ac b3 Ab) {r} (h:d_spec_l12Cross fu a1 Ac b3 Ab = some r):cS 220 [I a1,I Ac,I b3,I Ab] w0 (.bool (r)):=by
 refine eg func220 z ntmps220 z fun k m=>uc 13 k z fun k=>bS h k 14 z (fun _ h k=>?_) fun _ h k=>?_
 · refine ul 10 k z fun k=>fS h k m z z
 refine ul 10 k z fun k=>fS h k m z z
theorem c_spec_Overlap (fu) {w0} (a1 Aa b3 t4) {r} (h:d_spec_Overlap fu a1 Aa b3 t4 = some r):cS 150 [.agg (Flat.e (a1)).toArray,.agg (Flat.e (Aa)).toArray,.agg (Flat.e (b3)).toArray,.agg (Flat.e (t4)).toArray] w0 (.bool (r)):=by
 refine eg func150 z ntmps150 z fun k m=>uc 2 k z fun k=>s_box m k z z z z z z fun b5 w7 a k m e Aj=>s_box m k z z z z z z fun b8 Bc a k m e Ad=>s_box m k z z z z z z fun Ax Au a k m e Ai=>s_box m k z z z z z z fun Be Bd a k m e Ac=>oE h fun Ar Ap h=>gl 7 [bA m 3 Aj z,bA m 2 Ad z] k z fun k=>cC k m call219 z (c_spec_l12Known fu (a1:Box) (Aa:Spot)  Ap) fun Bb e a k m=>pN 1 k z fun a k=>bS h k 12 z (fun _ h k=>?_) fun _ h k=>?_
 · refine oE h fun Aq Ak h=>gl 2 [bA m 1 Ai z,bA m 0 Ac z] k z fun k=>cC k m call219 z (c_spec_l12Known fu (b3:Box) (t4:Spot)  Ak) fun Ba e a k m=>pN 2 k z fun a k=>bS h k 17 z (fun _ h k=>?_) fun _ h k=>?_
   · refine gl 7 [bF m 2 Ad z,bF m 0 Ac z] k z fun k=>bS h k 24 z (fun _ h k=>?_) fun _ h k=>?_
     · refine oE h fun Ao At h=>gl 8 [bF m 2 Ad z,bF m 3 Aj z,bF m 0 Ac z,bF m 1 Ai z] k z fun k=>cC k m call220 z (c_spec_l12Cross fu _ _ _ _  At) fun Av e a k m=>pN 2 k z fun a k=>bS h k 35 z (fun _ h k=>?_) fun _ h k=>?_
       · refine oE h fun As Am h=>gl 8 [bF m 2 Ad z,bF m 3 Aj z,bF m 0 Ac z,bF m 1 Ai z] k z fun k=>cC k m call220 z (c_spec_l12Cross fu _ _ _ _  Am) fun Ay e a k m=>pN 2 k z fun a k=>bS h k 46 z (fun _ h k=>?_) fun _ h k=>?_
         · refine oE h fun Aw Al h=>gl 8 [bF m 2 Ad z,bF m 3 Aj z,bF m 0 Ac z,bF m 1 Ai z] k z fun k=>cC k m call220 z (c_spec_l12Cross fu _ _ _ _  Al) fun Az e a k m=>ul 5 k z fun k=>fS h k m z z
         refine ul 14 k z fun k=>fS h k m z z
       refine ul 25 k z fun k=>fS h k m z z
     refine ul 36 k z fun k=>fS h k m z z
   refine ul 43 k z fun k=>fS h k m z z
 refine ul 48 k z fun k=>fS h k m z z
theorem c_spec_l15Apart (fu) {w0} (r1 x5) {Ax F3} (Bj:rd w0 F3 Ax r1) {Aq F7} (Bs:rd w0 F7 Aq x5) {r} (h:d_spec_l15Apart fu r1 x5 = some r):cS 89 [.agg Ax.toArray,.agg Aq.toArray] w0 (.bool (r)):=by
 refine eg func89 z ntmps89 z fun k m=>?_;obtain ⟨v9,Cg,Ak,Co,Ao,Cj,rfl,rfl,Ai,Ae,Af⟩:=Bj;obtain ⟨Bi,Cc,Ba,By,rfl,rfl,Aa,Ac⟩:=Bs;refine uc 2 k z fun k=>s_box m k z z z z z z fun Aj Ar a k m e As=>s_box m k z z z z z z fun Ah Ay a k m e Ad=>ul 10 k z fun k=>lG (fun n a w=>∃ Ab,K 44 [(2,pt Aj),(3,pt Ah),(5,I Ab)] a ∧ St [] w0 w [([Aj],Ar),([Ah],Ay)] ∧ d_spec_l15Apart_L2 fu r1 x5 n Ab = some r) ?_ fu ?_
 · rintro Bd a Cm ⟨Ab,k,m,h⟩;refine gc 10 [bF m 1 Ad z,lF Aa] k z fun k=>cJ h k z (fun h=>?_) fun h=>?_
   · refine uc 10 k z fun k=>lG (fun n a w=>∃ Ag,K 44 [(2,pt Aj),(3,pt Ah),(5,I Ab),(6,I Ag)] a ∧ St [] w0 w [([Aj],Ar),([Ah],Ay)] ∧ d_spec_l15Apart_L1 fu (d_spec_l15Apart_L2 fu r1 x5 Bd) r1 x5 Ab n Ag = some r) ?_ fu ?_
     · rintro Cb a Ci ⟨Ag,k,m,h⟩;refine uc 8 k z fun k=>cJ h k z (fun h=>?_) fun h=>?_
       · refine uc 5 k z fun k=>d_go [] mixo m z fun Bc hMd=>?_;have m:=hMd;have s:=Ext.refl ([]:List Nat) Bc;refine oE h fun Am Av h=>dr [3,9,15,21,0,1,2,4] 8 [bA hMd 0 As z,bF hMd 1 Ad z,iF Aa Av] k z s fun k=>?_;obtain ⟨Ck,Cd,Cl,Bx,Br,Bt⟩:=rd_get Aa (ix_some Av).2.2;obtain ⟨Bp,_,rfl,rfl,At⟩:=Bx;refine dT k 5 z z s (fun w s=>r_ldA ta37 (Br.agr ((hMd.step s).a00 (Enc.rd_lt Aa)) Bt) z k z z) fun a k=>o2 h fun Bw Ap Al Aw h=>dr [7,8,10,11,12,13,14,16] 8 [bF hMd 1 Ad z,iF Ac Ap,eA (hMd.r Ac) Ap,bA hMd 0 As z,bF hMd 1 Ad z,iF Aa Aw] k z s fun k=>?_;obtain ⟨Ch,Cq,Ca,Bg,Bl,Bq⟩:=rd_get Aa (ix_some Aw).2.2;obtain ⟨Be,_,rfl,rfl,Az⟩:=Bg;refine dT k 17 z z s (fun w s=>r_ldA ta37 (Bl.agr ((hMd.step s).a00 (Enc.rd_lt Aa)) Bq) z k z z) fun a k=>oE h fun Bf Au h=>dr [19,20,22,23] 4 [bF hMd 1 Ad z,iF Ac Au,eA (hMd.r Ac) Au] k z s fun k=>dG 6 z (oE h fun Bk Bu h=>?_);refine cC k m call65 z (c_spec_BoxOf fu _ _ (mkRequest (m.r Ai) (m.r Ae) (m.r Af)) (mkCarton (m.r At)) Bu) fun Ce e a k m=>ns s e fun s=>dG 18 z (oE h fun Bv Bn h=>cC k m call65 z (c_spec_BoxOf fu _ _ (mkRequest (m.r Ai) (m.r Ae) (m.r Af)) (mkCarton (m.r Az)) Bn) fun Bz e a k m=>?_);refine ns s e fun s=>dG 24 z (oE h fun Cn Bb h=>cC k m call150 z (c_spec_Overlap fu (Bk:Box) (Bw:Spot) (Bv:Box) (Bf:Spot)  Bb) fun Cp e a k m=>?_);refine ns s e fun s=>dD ?_;refine (nm_then ?_);refine cJ h k z (fun h=>?_) fun h=>?_
         · refine uc 15 k z fun k=>fS h k m z z
         refine uc 9 k z fun k=>?_;exact ⟨_,k.p z,m.sl [0,1] z,h⟩
       refine uc 12 k z fun k=>?_;exact ⟨_,k.p z,m.sl [0,1] z,h⟩
     exact ⟨_,k.p z,m.sl [0,1] z,h⟩
   refine uc 11 k z fun k=>fS h k m z z
 exact ⟨_,k.p z,m.sl [1,0] z,h⟩
theorem c_spec_l1Max (fu) {w0} (a1 b2) {r} (h:d_spec_l1Max fu a1 b2 = some r):cS 134 [I a1,I b2] w0 (I r):=by
 refine eg func134 z ntmps134 z fun k m=>uc 13 k z fun k=>cJ h k z (fun h=>?_) fun h=>?_
 · refine uc 8 k z fun k=>fS h k m z z
 refine uc 9 k z fun k=>fS h k m z z
theorem c_spec_Pallets (fu) {w0} (Ac) {v2 F3} (Aa:rd w0 F3 [v2] Ac) {r} (h:d_spec_Pallets fu Ac = some r):cS 67 [v2] w0 (I r):=by
 refine eg func67 z ntmps67 z fun k m=>uc 17 k z fun k=>lG (fun n a w=>∃ Ae Ab,K 26 [(0,v2),(3,I Ae),(4,I Ab)] a ∧ St [] w0 w [] ∧ d_spec_Pallets_L1 fu Ac n Ae Ab = some r) ?_ fu ?_
 · rintro Ak a As ⟨Ae,Ab,k,m,h⟩;refine gc 9 [lF Aa] k z fun k=>cJ h k z (fun h=>?_) fun h=>?_
   · refine uc 2 k z fun k=>cg (fun a w=>∃ Af,K 26 [(0,v2),(3,I Af),(4,I Ab)] a ∧ St [] w0 w [] ∧ d_spec_Pallets_J1 fu (d_spec_Pallets_L1 fu Ac Ak) Ab Af = some r) ?_ ?_
     · rintro a Aq ⟨Af,k,m,h⟩;refine uc 6 k z fun k=>?_;exact ⟨_,_,k.p z,m.sl [] z,h⟩
     refine o2 h fun Ao Ad Au Ag h=>gc 8 [iF Aa Ad,eF (m.r Aa) Ad 0] k z fun k=>cC k m call39 z (c_spec_l1In fu _ _ _  Ag) fun At e a k m=>ul 2 k z fun k=>cJ h k z (fun h=>?_) fun h=>?_
     · refine o2 h fun Am Ap Aj Ah h=>gc 8 [iF Aa Ad,eF (m.r Aa) Ad 0] k z fun k=>cC k m call134 z (c_spec_l1Max fu _ _  Ah) fun Ar e a k m=>ul 4 k z fun k=>?_;exact ⟨_,k.p z,m.sl [] z,h⟩
     refine uc 3 k z fun k=>?_;exact ⟨_,k.p z,m.sl [] z,h⟩
   refine uc 12 k z fun k=>fS h k m z z
 exact ⟨_,_,k.p z,m.sl [] z,h⟩
theorem c_spec_OnPallet (fu) {w0} (x1 Ab) {Av F3} (Az:rd w0 F3 Av x1) {r} (h:d_spec_OnPallet fu x1 Ab = some r):cL 151 [.agg Av.toArray,I Ab] w0 r:=by
 refine eg func151 z ntmps151 z fun k m=>?_;obtain ⟨v6,F7,v8,F9,rfl,rfl,At,Ai⟩:=Az;refine uc 2 k z fun k=>s_box m k z z z z z z fun Ad Aq a k m e Aj=>ul 5 k z fun k=>sB te35 m k z (by exact fN) fun As Bh Bl a k m e Bf=>?_;have Bg:=ow_bx Bf ([]:List Int) z z z;refine ul 10 k z fun k=>lG (fun n a w=>∃ Ah Ag Ac Ae Aa,K 37 [(1,I Ab),(2,pt Ad),(5,Ag),(6,I Aa)] a ∧ St [] w0 w [([Ad],Aq),(Ac,Ae)] ∧ ow Ae Ac [Ag] Ah ∧ d_spec_OnPallet_L1 fu x1 Ab n Ah Aa = some r) ?_ fu ?_
 · rintro Ar a Bq ⟨Ah,Ag,Ac,Ae,Aa,k,m,Al,h⟩;refine cg (fun a w=>K 37 [(1,I Ab),(2,pt Ad),(5,Ag),(6,I Aa)] a ∧ St [] w0 w [([Ad],Aq),(Ac,Ae)] ∧ d_spec_OnPallet_J2 fu (d_spec_OnPallet_L1 fu x1 Ab Ar) x1 Ab Ah Aa = some r) ?_ ?_
   · rintro a Bp ⟨k,m,h⟩;refine cg (fun a w=>∃ Ao Ap Ak Am,K 37 [(1,I Ab),(2,pt Ad),(5,Ap),(6,I Aa)] a ∧ St [] w0 w [([Ad],Aq),(Ak,Am)] ∧ ow Am Ak [Ap] Ao ∧ d_spec_OnPallet_J1 fu (d_spec_OnPallet_L1 fu x1 Ab Ar) Aa Ao = some r) ?_ ?_
     · rintro a Bs ⟨Ao,Ap,Ak,Am,k,m,Ax,h⟩;refine uc 6 k z fun k=>?_;exact ⟨_,_,_,_,_,k.p z,m.sl [0,1] z,Ax,h⟩
     refine oE h fun Br Au h=>gc 13 [bF m 0 Aj z,iF Ai Au,eF (m.r Ai) Au 0] k z fun k=>cJ h k z (fun h=>?_) fun h=>?_
     · refine uc 3 k z fun k=>sB te35 m k z (by exact fC z fN) fun Bm Bn Bo a k m e Bi=>?_;have Ba:=ow_bx Bi ([Aa]:List Int) z z z;refine oE h fun Bb Ay h=>s_appF Ay te35 z m 2 Al (News.rd (m.q Ba 0 z)) z z k z z z z z z z fun Be Aw Bk a k e m Bd=>ul 4 k z fun k=>?_;exact ⟨_,_,_,_,k.p z,m.sl [1,2] z,Bd,h⟩
     refine uc 3 k z fun k=>?_;exact ⟨_,_,_,_,k.p z,m.sl [0,1] z,Al,h⟩
   refine gc 8 [bF m 0 Aj z,lF At] k z fun k=>bS h k 13 z (fun _ h k=>?_) fun _ h k=>?_
   · refine gl 10 [bF m 0 Aj z,lF At,bF m 0 Aj z,lF Ai] k z fun k=>cJ h k z (fun h=>?_) fun h=>?_
     · refine uc 2 k z fun k=>?_;exact ⟨k.p z,m.sl [0,1] z,h⟩
     refine uc 12 k z fun k=>?_;cases h;exact finR1 k z (RV.tmp k z) ⟨_,Ac,z,m.ext,(m.v Al 1 z),(m.fresh 1 z)⟩
   refine ul 23 k z fun k=>?_;cases h;exact finR1 k z (RV.tmp k z) ⟨_,Ac,z,m.ext,(m.v Al 1 z),(m.fresh 1 z)⟩
 exact ⟨_,_,_,_,_,k.p z,m.sl [1,0] z,Bg,h⟩
theorem c_spec_PalletGram (fu) {w0} (r1 x5 Al) {Ax F3} (Bg:rd w0 F3 Ax r1) {Aj F7} (Bm:rd w0 F7 Aj x5) {r} (h:d_spec_PalletGram fu r1 x5 Al = some r):cS 152 [.agg Ax.toArray,.agg Aj.toArray,I Al] w0 (I r):=by
 refine eg func152 z ntmps152 z fun k m=>?_;obtain ⟨Av,Ca,Af,Cc,Ai,Bw,rfl,rfl,Ag,Ah,Am⟩:=Bg;obtain ⟨Ak,Bv,Ao,Cb,rfl,rfl,Ab,As⟩:=Bm;refine uc 2 k z fun k=>s_box m k z z z z z z fun Ap Bk a k m e Bi=>s_box m k z z z z z z fun Aw Bq a k m e Ar=>oE h fun Bh Bo h=>gl 12 [bA m 0 Ar z] k z fun k=>sL k m call151 z (c_spec_OnPallet fu _ _ (mkPlan (m.r Ab) (m.r As)) Bo) fun Az Bp At Aa k m=>ul 10 k z fun k=>lG (fun n a w=>∃ Ac Ad,K 32 [(3,pt Ap),(4,pt Aw),(7,I Ac),(8,Bp),(9,I Ad)] a ∧ St [] w0 w [([Ap],Bk),([Aw],Bq),(At,Az)] ∧ d_spec_PalletGram_L1 fu r1 x5 Bh n Ac Ad = some r) ?_ fu ?_
 · rintro Cd a Bu ⟨Ac,Ad,k,m,h⟩;refine gc 9 [lF (Enc.ow_rd Aa)] k z fun k=>cJ h k z (fun h=>?_) fun h=>?_
   · refine uc 4 k z fun k=>d_go [] mixo m z fun Bl hMd=>?_;have m:=hMd;have s:=Ext.refl ([]:List Nat) Bl;refine o2 h fun Bs Au Ae Aq h=>dr [0,4,5,1,2,3,6,7,8] 9 [bA hMd 0 Bi z,bF hMd 1 Ar z,iF (Enc.ow_rd Aa) Au,eF (hMd.q Aa 2 z) Au 0,iF Ab Aq] k z s fun k=>?_;obtain ⟨Bt,Br,Bx,Bn,Bf,Bj⟩:=rd_get Ab (ix_some Aq).2.2;obtain ⟨Bd,_,rfl,rfl,Ay⟩:=Bn;refine dT k 9 z z s (fun w s=>r_ldA ta37 (Bf.agr ((hMd.step s).a00 (Enc.rd_lt Ab)) Bj) z k z z) fun a k=>dG 10 z (oE h fun Ba Bc h=>cC k m call129 z (c_spec_Gross fu _ _ (mkRequest (m.r Ag) (m.r Ah) (m.r Am)) (mkCarton (m.r Ay)) Bc) fun Bz e a k m=>?_);refine ns s e fun s=>dM [11,12] 2 z k z s fun a k=>dD ((nm_block (nm_then ?_)));refine uc 6 k z fun k=>?_;exact ⟨_,_,k.p z,m.sl [0,1,2] z,h⟩
   refine uc 12 k z fun k=>fS h k m z z
 exact ⟨_,_,k.p z,m.sl [2,1,0] z,h⟩
theorem c_spec_l15Pallets (fu) {w0} (r1 x5) {Az F3} (Br:rd w0 F3 Az r1) {At F7} (Bt:rd w0 F7 At x5) {r} (h:d_spec_l15Pallets fu r1 x5 = some r):cS 90 [.agg Az.toArray,.agg At.toArray] w0 (.bool (r)):=by
 refine eg func90 z ntmps90 z fun k m=>?_;obtain ⟨v9,Cb,Bd,Cz,Aw,Cc,rfl,rfl,Bf,Ba,Bb⟩:=Br;obtain ⟨Am,Cs,Ap,Cr,rfl,rfl,Aa,Ag⟩:=Bt;refine uc 2 k z fun k=>s_box m k z z z z z z fun Ad Ak a k m e Bc=>s_box m k z z z z z z fun Af Aj a k m e Ai=>oE h fun Ae Bw h=>gl 7 [bF m 0 Ai z] k z fun k=>cC k m call67 z (c_spec_Pallets fu _ (m.r Ag) Bw) fun Ct e a k m=>ul 10 k z fun k=>lG (fun n a w=>∃ Ab,K 57 [(2,pt Ad),(3,pt Af),(5,I Ae),(6,I Ab)] a ∧ St [] w0 w [([Ad],Ak),([Af],Aj)] ∧ d_spec_l15Pallets_L2 fu r1 x5 Ae n Ab = some r) ?_ fu ?_
 · rintro Ar a By ⟨Ab,k,m,h⟩;refine uc 8 k z fun k=>cJ h k z (fun h=>?_) fun h=>?_
   · refine uc 2 k z fun k=>cg (fun a w=>K 57 [(2,pt Ad),(3,pt Af),(5,I Ae),(6,I Ab)] a ∧ St [] w0 w [([Ad],Ak),([Af],Aj)] ∧ d_spec_l15Pallets_J1 fu (d_spec_l15Pallets_L2 fu r1 x5 Ae Ar) Ab = some r) ?_ ?_
     · rintro a Da ⟨k,m,h⟩;refine uc 6 k z fun k=>?_;exact ⟨_,k.p z,m.sl [0,1] z,h⟩
     refine oE h fun Ao Bn h=>gc 5 [bA m 1 Ai z] k z fun k=>sL k m call151 z (c_spec_OnPallet fu _ _ (mkPlan (m.r Aa) (m.r Ag)) Bn) fun Au As Aq Ac k m=>ul 3 k z fun k=>cg (fun a w=>K 57 [(2,pt Ad),(3,pt Af),(5,I Ae),(6,I Ab),(7,As)] a ∧ St [] w0 w [([Ad],Ak),([Af],Aj),(Aq,Au)] ∧ d_spec_l15Pallets_J2 fu (d_spec_l15Pallets_L2 fu r1 x5 Ae Ar) x5 Ab Ao = some r) ?_ ?_
     · rintro a Ck ⟨k,m,h⟩;refine uc 6 k z fun k=>lG (fun n a w=>∃ Al,K 57 [(2,pt Ad),(3,pt Af),(5,I Ae),(6,I Ab),(7,As),(8,I Al)] a ∧ St [] w0 w [([Ad],Ak),([Af],Aj),(Aq,Au)] ∧ d_spec_l15Pallets_L1 fu (d_spec_l15Pallets_L2 fu r1 x5 Ae Ar) x5 Ab Ao n Al = some r) ?_ fu ?_
       · rintro Co a Cp ⟨Al,k,m,h⟩;refine gc 9 [lF (Enc.ow_rd Ac)] k z fun k=>cJ h k z (fun h=>?_) fun h=>?_
         · refine uc 5 k z fun k=>d_go [] mixo m z fun Bl hMd=>?_;have m:=hMd;have s:=Ext.refl ([]:List Nat) Bl;refine o2 h fun Ce Ax Ca Av h=>dr [2,3,11,0,1,4,5,6,7] 9 [bF hMd 1 Ai z,iF (Enc.ow_rd Ac) Ax,eF (hMd.q Ac 2 z) Ax 0,iF Aa Av] k z s fun k=>?_;obtain ⟨Cn,Cv,Cy,Bv,Bg,Bs⟩:=rd_get Aa (ix_some Av).2.2;obtain ⟨Cj,_,rfl,rfl,Ci⟩:=Bv;refine dT k 8 z z s (fun w s=>r_ld1 t13 ((Bg.agr ((hMd.step s).a00 (Enc.rd_lt Aa)) Bs).fld 1 1 (Nat.le_of_ble_eq_true z)) k z z) fun a k=>o2 h fun Cl Ay Cq Be h=>dr [9,10,12,13,14,15] 6 [bF hMd 1 Ai z,iF (Enc.ow_rd Ac) Ay,eF (hMd.q Ac 2 z) Ay 0,iF Aa Be] k z s fun k=>?_;obtain ⟨Cm,Cx,Cg,Bx,Bo,Bp⟩:=rd_get Aa (ix_some Be).2.2;obtain ⟨Ch,_,rfl,rfl,Cd⟩:=Bx;refine dT k 16 z z s (fun w s=>r_ld1 t13 ((Bo.agr ((hMd.step s).a00 (Enc.rd_lt Aa)) Bp).fld 1 1 (Nat.le_of_ble_eq_true z)) k z z) fun a k=>dM [17] 1 z k z s fun a k=>dD ((nm_then ?_));refine cJ h k z (fun h=>?_) fun h=>?_
           · refine uc 15 k z fun k=>fS h k m z z
           refine uc 9 k z fun k=>?_;exact ⟨_,k.p z,m.sl [0,1,2] z,h⟩
         refine uc 6 k z fun k=>?_;exact ⟨k.p z,m.sl [0,1] z,h⟩
       exact ⟨_,k.p z,m.sl [0,1,2] z,h⟩
     refine uc 1 k z fun k=>d_go [] mixo m z fun Bh hMd=>?_;have m:=hMd;have s:=Ext.refl ([]:List Nat) Bh;refine dM [0] 1 z k z s fun a k=>dT k 1 z z s (fun w s=>r_len (α:=Int) (Enc.ow_rd Ac) k underlying35 z z) fun a k=>dM [2,3] 2 z k z s fun a k=>bS h k 23 z (fun _ h k=>?_) fun _ h k=>?_
     · refine dM [4,5,6,7,8,9,10,11,12] 9 z k z s fun a k=>dD ((nm_then ?_));refine uc 13 k z fun k=>fS h k m z z
     refine dr [6,4,5,8,9,10] 6 [bA hMd 1 Bc z,bA hMd 2 Ai z,bF hMd 1 Bc z] k z s fun k=>dG 7 z (oE h fun Cu Bj h=>?_);refine cC k m call152 z (c_spec_PalletGram fu _ _ _ (mkRequest (m.r Bf) (m.r Ba) (m.r Bb)) (mkPlan (m.r Aa) (m.r Ag)) Bj) fun Cw e a k m=>ns s e fun s=>dM [11,12] 2 z k z s fun a k=>dD ((nm_then ?_));refine cJ h k z (fun h=>?_) fun h=>?_
     · refine uc 12 k z fun k=>fS h k m z z
     refine uc 2 k z fun k=>?_;exact ⟨k.p z,m.sl [1,2,0] z,h⟩
   refine uc 11 k z fun k=>fS h k m z z
 exact ⟨_,k.p z,m.sl [1,0] z,h⟩
theorem c_spec_Check (fu) {w0} (r1 x5) {Aq F3} (Bb:rd w0 F3 Aq r1) {Ap F7} (Bh:rd w0 F7 Ap x5) {r} (h:d_spec_Check fu r1 x5 = some r):cS 49 [.agg Aq.toArray,.agg Ap.toArray] w0 (I r):=by
 refine eg func49 z ntmps49 z fun k m=>?_;obtain ⟨v9,Cj,Ai,Cv,Aj,Ck,rfl,rfl,Ae,Ac,Ad⟩:=Bb;obtain ⟨Ag,Cb,Af,Bu,rfl,rfl,Aa,Ab⟩:=Bh;refine uc 2 k z fun k=>s_box m k z z z z z z fun Ar Az a k m e Ak=>s_box m k z z z z z z fun Ao Bq a k m e Ah=>oE h fun Cw Bn h=>gl 7 [bA m 1 Ak z] k z fun k=>cC k m call62 z (c_spec_Class fu _ (mkRequest (m.r Ae) (m.r Ac) (m.r Ad)) Bn) fun Cc e a k m=>ul 3 k z fun k=>cJ h k z (fun h=>?_) fun h=>?_
 · refine uc 7 k z fun k=>fS h k m z z
 refine uc 2 k z fun k=>cg (fun a w=>K 54 [(2,pt Ar),(3,pt Ao)] a ∧ St [] w0 w [([Ar],Az),([Ao],Bq)] ∧ d_spec_Check_J1 fu r1 x5 = some r) ?_ ?_
 · rintro a Bw ⟨k,m,h⟩;refine oE h fun Cs Bf h=>gc 3 [bA m 0 Ak z] k z fun k=>sL k m call83 z (c_spec_l6Units fu _ (mkRequest (m.r Ae) (m.r Ac) (m.r Ad)) Bf) fun Ct Bv Bo Am k m=>oE h fun Ci Bg h=>gl 9 [bA m 2 Ah z] k z fun k=>cC k m call84 z (c_spec_l15Units fu _ _ (m.q Am 0 z) (mkPlan (m.r Aa) (m.r Ab)) Bg) fun Co e a k m=>ul 4 k z fun k=>cJ h k z (fun h=>?_) fun h=>?_
   · refine uc 8 k z fun k=>fS h k m z z
   refine oE h fun Cm At h=>gc 4 [bA m 1 Ak z,bA m 2 Ah z] k z fun k=>cC k m call85 z (c_spec_l15Holds fu _ _ (mkRequest (m.r Ae) (m.r Ac) (m.r Ad)) (mkPlan (m.r Aa) (m.r Ab)) At) fun Bt e a k m=>ul 4 k z fun k=>cJ h k z (fun h=>?_) fun h=>?_
   · refine uc 8 k z fun k=>fS h k m z z
   refine oE h fun Cd Ay h=>gc 5 [bA m 1 Ak z,bA m 2 Ah z] k z fun k=>cC k m call86 z (c_spec_l15Group fu _ _ _ (mkRequest (m.r Ae) (m.r Ac) (m.r Ad)) (m.q Am 0 z) (mkPlan (m.r Aa) (m.r Ab)) Ay) fun Ch e a k m=>ul 4 k z fun k=>cJ h k z (fun h=>?_) fun h=>?_
   · refine uc 8 k z fun k=>fS h k m z z
   refine oE h fun Cr Be h=>gc 4 [bA m 1 Ak z,bA m 2 Ah z] k z fun k=>cC k m call87 z (c_spec_l15Cheap fu _ _ (mkRequest (m.r Ae) (m.r Ac) (m.r Ad)) (mkPlan (m.r Aa) (m.r Ab)) Be) fun By e a k m=>ul 4 k z fun k=>cJ h k z (fun h=>?_) fun h=>?_
   · refine uc 8 k z fun k=>fS h k m z z
   refine oE h fun Cn Bm h=>gc 4 [bA m 1 Ak z,bA m 2 Ah z] k z fun k=>cC k m call88 z (c_spec_l15Inside fu _ _ (mkRequest (m.r Ae) (m.r Ac) (m.r Ad)) (mkPlan (m.r Aa) (m.r Ab)) Bm) fun Bx e a k m=>ul 4 k z fun k=>cJ h k z (fun h=>?_) fun h=>?_
   · refine uc 8 k z fun k=>fS h k m z z
   refine oE h fun Cq Ax h=>gc 4 [bA m 1 Ak z,bA m 2 Ah z] k z fun k=>cC k m call89 z (c_spec_l15Apart fu _ _ (mkRequest (m.r Ae) (m.r Ac) (m.r Ad)) (mkPlan (m.r Aa) (m.r Ab)) Ax) fun Bz e a k m=>ul 4 k z fun k=>cJ h k z (fun h=>?_) fun h=>?_
   · refine uc 8 k z fun k=>fS h k m z z
   refine oE h fun Cu Bi h=>gc 4 [bA m 1 Ak z,bA m 2 Ah z] k z fun k=>cC k m call90 z (c_spec_l15Pallets fu _ _ (mkRequest (m.r Ae) (m.r Ac) (m.r Ad)) (mkPlan (m.r Aa) (m.r Ab)) Bi) fun Ce e a k m=>ul 4 k z fun k=>cJ h k z (fun h=>?_) fun h=>?_
   · refine uc 8 k z fun k=>fS h k m z z
   refine uc 9 k z fun k=>fS h k m z z
 refine oE h fun Bl As h=>gc 3 [bA m 0 Ah z] k z fun k=>cC k m call14 z (c_spec_PlanOk fu _ (mkPlan (m.r Aa) (m.r Ab)) As) fun Cl e a k m=>pN 2 k z fun a k=>bS h k 12 z (fun _ h k=>?_) fun _ h k=>?_
 · refine ul 13 k z fun k=>fS h k m z z
 refine oE h fun Ca Bs h=>gl 1 [bA m 0 Ah z] k z fun k=>cC k m call82 z (c_spec_l15Empty fu _ (mkPlan (m.r Aa) (m.r Ab)) Bs) fun Cp e a k m=>ul 3 k z fun k=>cJ h k z (fun h=>?_) fun h=>?_
 · refine uc 7 k z fun k=>fS h k m z z
 refine uc 2 k z fun k=>?_;exact ⟨k.p z,m.sl [1,0] z,h⟩
theorem c_spec_Verify (fu) {w0} (Aj Af) {r} (h:d_spec_Verify fu Aj Af = some r):cS 21 [.string (Aj),.string (Af)] w0 (.tuple #[I r.1,I r.2]):=by
 refine eg func21 z ntmps21 z fun k m=>oE h fun x3 Ap h=>uc 9 k z fun k=>cC k m call47 z (c_spec_ClassOf fu _  Ap) fun w6 e a k m=>ul 10 k z fun k=>cJ h k z (fun h=>?_) fun h=>?_
 · refine uc 9 k z fun k=>?_;cases h;exact finR2 k z (RV.tmp k z) (RV.tmp k z) ⟨z,m.ext⟩
 refine oE h fun x8 Az h=>uc 5 k z fun k=>sC k call48 z (c_spec_ReadOrder fu _  Az) fun Bh Bq hR=>?_;obtain ⟨Bi,Bc,rfl,e,Aa,At⟩:=hR;refine ⟨_,z,fun a k=>?_⟩;have m:=m.nw e At Aa;obtain ⟨Al,Br,Ac,Bf,Ai,Bn,rfl,rfl,Ak,Ad,Ae,_⟩:=Aa;have m:=m.split2;have m:=m.split2at1;refine pN 3 k z fun a k=>s_alloc m k zeroValue55 z z z z z fun Bs Bo a k m e Bd=>sT sizeOf55 m 0 Bd 0 k z (allc z (allc z (allc z (allc z (allc z (allc z (allc (rd_o (Enc.ow_rd Ak)) (allc (rd_o (Enc.ow_rd Ad)) (allc z (allc (rd_o (Enc.ow_rd Ae)) alln)))))))))) fun Bw a k e m Aq=>oE h fun Av Ba h=>ul 6 k z fun k=>sC k call17 z (c_spec_ReadPlan fu _  Ba) fun Bm Be hR=>?_;obtain ⟨Bg,Ax,rfl,e,Ab,Ar⟩:=hR;refine ⟨_,z,fun a k=>?_⟩;have m:=m.nw e Ar Ab;obtain ⟨Ah,Bj,Ag,Bl,rfl,rfl,Am,Ao,_⟩:=Ab;have m:=m.split2;refine pN 3 k z fun a k=>s_alloc m k zeroValue27 z z z z z fun Bk Bu a k m e Au=>sT sizeOf27 m 0 Au 0 k z (allc (rd_o (Enc.ow_rd Am)) (allc (rd_o (Enc.ow_rd Ao)) alln)) fun Bv a k e m Ay=>ul 10 k z fun k=>cJ h k z (fun h=>?_) fun h=>?_
 · refine uc 8 k z fun k=>?_;cases h;exact finR2 k z (RV.tmp k z) (RV.tmp k z) ⟨z,m.ext⟩
 refine oE h fun Bp As h=>gc 6 [bA m 3 Aq z,bA m 0 Ay z] k z fun k=>cC k m call49 z (c_spec_Check fu _ _ (mkRequest (m.q Ak 4 z) (m.q Ad 5 z) (m.q Ae 6 z)) (mkPlan (m.q Am 1 z) (m.q Ao 2 z)) As) fun Bt e a k m=>ul 5 k z fun k=>?_;cases h;exact finR2 k z (RV.tmp k z) (RV.tmp k z) ⟨z,m.ext⟩

end Go.Proofs.YthkaklkinepfkaaGreatDoor
