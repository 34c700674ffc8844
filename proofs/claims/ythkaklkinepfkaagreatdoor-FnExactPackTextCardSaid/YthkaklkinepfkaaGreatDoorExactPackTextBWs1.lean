/- FnExactPackText: the walks of functions that it reaches (ExactPackTextBWs,part 1). Printed by gen.py. -/
import Derived.Test.YthkaklkinepfkaaGreatDoorExactPackTextBT
set_option maxRecDepth 20000
set_option linter.unusedSimpArgs false
set_option linter.unusedVariables false
set_option linter.unnecessarySimpa false
namespace Go.Proofs.YthkaklkinepfkaaGreatDoor
open Go Go.RowKit
open Enc (rd ow)
open Arg (argv)
open Ret (retv)
open Go.Proofs.Tryz


theorem c_spec_Parts (fu) {w0} (Ab Ac) {r} (h:d_spec_Parts fu Ab Ac = some r):cL 43 [.string (Ab),.int .u8 (Ac)] w0 r:=by
 refine eg func43 z ntmps43 z fun k m=>uc 7 k z fun k=>sB te68 m k z (by exact fN) fun g3 w4 e6 a k m e Bm=>?_;have Ax:=ow_bx Bm ([]:List ByteArray) z z z;refine ul 15 k z fun k=>lG (fun n a w=>∃ Al Ag Ae Ap Am Aa,K 36 [(0,.string (Ab)),(1,.int .u8 (Ac)),(5,Ag),(6,I Am),(7,I Aa)] a ∧ St [] w0 w [(Ae,Ap)] ∧ ow Ap Ae [Ag] Al ∧ d_spec_Parts_L1 fu Ab Ac n Al Am Aa = some r) ?_ fu ?_
 · rintro Au a Bu ⟨Al,Ag,Ae,Ap,Am,Aa,k,m,Af,h⟩;refine uc 5 k z fun k=>sv k z (r_lenS k underlying9 z z) fun a k=>ul 3 k z fun k=>cJ h k z (fun h=>?_) fun h=>?_
   · refine uc 2 k z fun k=>cg (fun a w=>∃ Ao Aj Ah Ak Ai,K 36 [(0,.string (Ab)),(1,.int .u8 (Ac)),(5,Aj),(6,I Ai),(7,I Aa)] a ∧ St [] w0 w [(Ah,Ak)] ∧ ow Ak Ah [Aj] Ao ∧ d_spec_Parts_J1 fu (d_spec_Parts_L1 fu Ab Ac Au) Aa Ao Ai = some r) ?_ ?_
     · rintro a Bw ⟨Ao,Aj,Ah,Ak,Ai,k,m,Aw,h⟩;refine uc 6 k z fun k=>?_;exact ⟨_,_,_,_,_,_,k.p z,m.sl [0] z,Aw,h⟩
     refine uc 5 k z fun k=>sv k z (r_lenS k underlying9 z z) fun a k=>pN 2 k z fun a k=>bS h k 19 z (fun _ h k=>?_) fun _ h k=>?_
     · refine oE h fun Ar At h=>ul 15 k z fun k=>sv k z (r_sls At k underlying9 z z z z) fun a k=>sB te68 m k z (by exact fC z fN) fun Br Bx Bs a k m e Bp=>?_;have Az:=ow_bx Bp ([Ar]:List ByteArray) z z z;refine oE h fun Ay As h=>s_appF As te68 z m 1 Af (News.rd (m.q Az 0 z)) z z k z z z z z z z fun Bn Bq Bc a k e m Bb=>ul 10 k z fun k=>?_;exact ⟨_,_,_,_,_,k.p z,m.sl [1] z,Bb,h⟩
     refine pN 2 k z fun a k=>oE h fun Bz Bd h=>sv k z (r_ixs Bd k underlying9 z z z) fun a k=>ul 5 k z fun k=>cJ h k z (fun h=>?_) fun h=>?_
     · refine oE h fun Aq Av h=>uc 6 k z fun k=>sv k z (r_sls Av k underlying9 z z z z) fun a k=>sB te68 m k z (by exact fC z fN) fun Bt Bv By a k m e Bh=>?_;have Bo:=ow_bx Bh ([Aq]:List ByteArray) z z z;refine oE h fun Be Bf h=>s_appF Bf te68 z m 1 Af (News.rd (m.q Bo 0 z)) z z k z z z z z z z fun Bk Bl Ba a k e m Bj=>ul 10 k z fun k=>?_;exact ⟨_,_,_,_,_,k.p z,m.sl [1] z,Bj,h⟩
     refine uc 3 k z fun k=>?_;exact ⟨_,_,_,_,_,k.p z,m.sl [0] z,Af,h⟩
   refine uc 12 k z fun k=>?_;cases h;exact finR1 k z (RV.tmp k z) ⟨_,Ae,z,m.ext,(m.v Af 0 z),(m.fresh 0 z)⟩
 exact ⟨_,_,_,_,_,_,k.p z,m.sl [0] z,Ax,h⟩
theorem c_spec_Digits (fu) {w0} (n1) {r} (h:d_spec_Digits fu n1 = some r):cS 78 [I n1] w0 (.string (r)):=by
 refine eg func78 z ntmps78 z fun k m=>uc 12 k z fun k=>cJ h k z (fun h=>?_) fun h=>?_
 · refine uc 7 k z fun k=>fS h k m z z
 refine uc 16 k z fun k=>lG (fun n a w=>∃ Aa Ac,K 31 [(0,I Aa),(3,.bool (decide (n1 < 0))),(4,.string (Ac))] a ∧ St [] w0 w [] ∧ d_spec_Digits_L1 fu n1 n Aa Ac = some r) ?_ fu ?_
 · rintro Ai a As ⟨Aa,Ac,k,m,h⟩;refine uc 7 k z fun k=>cJ h k z (fun h=>?_) fun h=>?_
   · refine uc 10 k z fun k=>cg (fun a w=>∃ Ab,K 31 [(0,I Aa),(3,.bool (decide (n1 < 0))),(4,.string (Ac)),(5,I Ab)] a ∧ St [] w0 w [] ∧ d_spec_Digits_J1 fu (d_spec_Digits_L1 fu n1 Ai) Aa Ac Ab = some r) ?_ ?_
     · rintro a Av ⟨Ab,k,m,h⟩;refine uc 4 k z fun k=>sv k z (r_cv k underlying3 underlying5 z z) fun a k=>s_bs (cs:=[.int .u8 (w8 (w64 (48 + Ab)))]) (ps:=[(0,.tmp 20)]) te22 m k z z z z z z z (by decide) z (by exact fC z fN) fun Au Ap Ar a k m e Ak=>?_;have Ah:=ow_bx Ak ([(⟨w8 (w64 (48 + Ab))⟩:U8)]:List U8) z z z;refine oE h fun At Al h=>sv k z (r_bstr Al (m.q Ah 0 z) k underlying22 underlying5 underlying9 z z) fun a k=>pN 1 k z fun a k=>oE h fun Ao Aj h=>sv k z (r_cat Aj k z z z) fun a k=>ul 10 k z fun k=>?_;exact ⟨_,_,k.p z,m.sl [] z,h⟩
     refine uc 6 k z fun k=>cJ h k z (fun h=>?_) fun h=>?_
     · refine uc 6 k z fun k=>?_;exact ⟨_,k.p z,m.sl [] z,h⟩
     refine uc 2 k z fun k=>?_;exact ⟨_,k.p z,m.sl [] z,h⟩
   refine uc 11 k z fun k=>cJ h k z (fun h=>?_) fun h=>?_
   · refine oE h fun Aq Am h=>uc 3 k z fun k=>sv k z (r_cat Am k z z z) fun a k=>ul 5 k z fun k=>fS h k m z z
   refine uc 9 k z fun k=>fS h k m z z
 exact ⟨_,_,k.p z,m.sl [] z,h⟩
theorem c_spec_Number (fu) {w0} (Aa) {r} (h:d_spec_Number fu Aa = some r):cS 46 [.string (Aa)] w0 (.tuple #[I r.1,.bool (r.2)]):=by
 refine eg func46 z ntmps46 z fun k m=>uc 6 k z fun k=>cg (fun a w=>K 43 [(0,.string (Aa))] a ∧ St [] w0 w [] ∧ d_spec_Number_J3 fu Aa = some r) ?_ ?_
 · rintro a w4 ⟨k,m,h⟩;refine uc 12 k z fun k=>lG (fun n a w=>∃ Ac Ab,K 43 [(0,.string (Aa)),(4,I Ac),(5,I Ab)] a ∧ St [] w0 w [] ∧ d_spec_Number_L1 fu Aa n Ac Ab = some r) ?_ fu ?_
   · rintro Ag a Au ⟨Ac,Ab,k,m,h⟩;refine uc 5 k z fun k=>sv k z (r_lenS k underlying9 z z) fun a k=>ul 3 k z fun k=>cJ h k z (fun h=>?_) fun h=>?_
     · refine uc 2 k z fun k=>cg (fun a w=>∃ Af,K 43 [(0,.string (Aa)),(4,I Af),(5,I Ab)] a ∧ St [] w0 w [] ∧ d_spec_Number_J1 fu (d_spec_Number_L1 fu Aa Ag) Ab Af = some r) ?_ ?_
       · rintro a At ⟨Af,k,m,h⟩;refine uc 6 k z fun k=>?_;exact ⟨_,_,k.p z,m.sl [] z,h⟩
       refine uc 1 k z fun k=>cg (fun a w=>K 43 [(0,.string (Aa)),(4,I Ac),(5,I Ab)] a ∧ St [] w0 w [] ∧ d_spec_Number_J2 fu (d_spec_Number_L1 fu Aa Ag) Aa Ac Ab = some r) ?_ ?_
       · rintro a Av ⟨k,m,h⟩;refine oE h fun Ai Ar h=>uc 5 k z fun k=>sv k z (r_ixs Ar k underlying9 z z z) fun a k=>sv k z (r_cv k underlying5 underlying3 z z) fun a k=>ul 6 k z fun k=>?_;exact ⟨_,k.p z,m.sl [] z,h⟩
       refine oE h fun Ak Al h=>uc 4 k z fun k=>sv k z (r_ixs Al k underlying9 z z z) fun a k=>pN 2 k z fun a k=>bS h k 24 z (fun _ h k=>?_) fun _ h k=>?_
       · refine ul 21 k z fun k=>?_;cases h;exact finR2 k z (RV.tmp k z) (RV.tmp k z) ⟨z,m.ext⟩
       refine pN 2 k z fun a k=>oE h fun As Am h=>sv k z (r_ixs Am k underlying9 z z z) fun a k=>ul 4 k z fun k=>cJ h k z (fun h=>?_) fun h=>?_
       · refine uc 13 k z fun k=>?_;cases h;exact finR2 k z (RV.tmp k z) (RV.tmp k z) ⟨z,m.ext⟩
       refine uc 2 k z fun k=>?_;exact ⟨k.p z,m.sl [] z,h⟩
     refine oE h fun Aw Ah h=>uc 9 k z fun k=>cC k m call78 z (c_spec_Digits fu _  Ah) fun Ax e a k m=>ul 4 k z fun k=>cJ h k z (fun h=>?_) fun h=>?_
     · refine uc 8 k z fun k=>?_;cases h;exact finR2 k z (RV.tmp k z) (RV.tmp k z) ⟨z,m.ext⟩
     refine uc 10 k z fun k=>?_;cases h;exact finR2 k z (RV.tmp k z) (RV.tmp k z) ⟨z,m.ext⟩
   exact ⟨_,_,k.p z,m.sl [] z,h⟩
 refine uc 3 k z fun k=>sv k z (r_lenS k underlying9 z z) fun a k=>pN 2 k z fun a k=>bS h k 9 z (fun _ h k=>?_) fun _ h k=>?_
 · refine ul 15 k z fun k=>?_;cases h;exact finR2 k z (RV.tmp k z) (RV.tmp k z) ⟨z,m.ext⟩
 refine pN 1 k z fun a k=>sv k z (r_lenS k underlying9 z z) fun a k=>ul 4 k z fun k=>cJ h k z (fun h=>?_) fun h=>?_
 · refine uc 8 k z fun k=>?_;cases h;exact finR2 k z (RV.tmp k z) (RV.tmp k z) ⟨z,m.ext⟩
 refine uc 2 k z fun k=>?_;exact ⟨k.p z,m.sl [] z,h⟩
theorem c_spec_l4Nums (fu) {w0} (Ar Ag Am) {r} (h:d_spec_l4Nums fu Ar Ag Am = some r):Calls Tryz.prog 143 #[.string (Ar),.string (Ag),I Am] w0 fun e w=>∃ (v0:Value) (G0:List Nat),e = .returned (.tuple #[v0,.bool (r.2)]) ∧ Ext [] w0 w ∧ ow w G0 [v0] r.1 ∧ (∀ b ∈ G0,w0.heap.size ≤ b):=by
 refine eg (vs:=[_,_,_]) func143 z ntmps143 z fun k m=>oE h fun x4 Bh h=>uc 9 k z fun k=>sL k m call43 z (c_spec_Parts fu _ _  Bh) fun w7 As F8 Aa k m=>ul 5 k z fun k=>sB te35 m k z (by exact fN) fun Ab Ap Br a k m e At=>?_;have Ai:=ow_bx At ([]:List Int) z z z;refine ul 3 k z fun k=>cg (fun a w=>K 51 [(8,As),(9,(.slice (some ⟨Ab,0,none⟩) 0 0))] a ∧ St [] w0 w [(F8,w7),([Ab],Ap)] ∧ d_spec_l4Nums_J1 fu x4 = some r) ?_ ?_
 · rintro a Bv ⟨k,m,h⟩;refine uc 7 k z fun k=>lG (fun n a w=>∃ Ah Af Ad Aj Ae,K 51 [(8,As),(9,Af),(10,I Ae)] a ∧ St [] w0 w [(F8,w7),(Ad,Aj)] ∧ ow Aj Ad [Af] Ah ∧ d_spec_l4Nums_L1 fu x4 n Ah Ae = some r) ?_ fu ?_
   · rintro Bo a Bu ⟨Ah,Af,Ad,Aj,Ae,k,m,Al,h⟩;refine gc 9 [lF (Enc.ow_rd Aa)] k z fun k=>cJ h k z (fun h=>?_) fun h=>?_
     · refine o2 h fun Bw Ao Aq Bl h=>gc 10 [iF (Enc.ow_rd Aa) Ao,eF (m.q Aa 0 z) Ao 0] k z fun k=>cC k m call46 z (c_spec_Number fu _  Bl) fun Bt e a k m=>ul 14 k z fun k=>cJ h k z (fun h=>?_) fun h=>?_
       · refine uc 2 k z fun k=>sB te35 m k z (by exact fN) fun Au Bm Bs a k m e Bj=>?_;have Av:=ow_bx Bj ([]:List Int) z z z;refine ul 11 k z fun k=>?_;cases h;exact finR2 k z (RV.tmp k z) (RV.tmp k z) ⟨_,[Au],z,m.ext,(m.v Av 0 z),(m.fresh 0 z)⟩
       refine uc 5 k z fun k=>sB te35 m k z (by exact fC z fN) fun Bp Bn Bq a k m e Bg=>?_;have Ax:=ow_bx Bg ([Aq.1]:List Int) z z z;refine oE h fun Be Bf h=>s_appF Bf te35 z m 2 Al (News.rd (m.q Ax 0 z)) z z k z z z z z z z fun Az Ay Bi a k e m Bb=>ul 10 k z fun k=>?_;exact ⟨_,_,_,_,_,k.p z,m.sl [1,2] z,Bb,h⟩
     refine uc 13 k z fun k=>?_;cases h;exact finR2 k z (RV.tmp k z) (RV.tmp k z) ⟨_,Ad,z,m.ext,(m.v Al 1 z),(m.fresh 1 z)⟩
   exact ⟨_,_,_,_,_,k.p z,m.sl [0,1] z,Ai,h⟩
 refine oE h fun Bk Ak h=>gc 8 [iF (Enc.ow_rd Aa) Ak,eF (m.q Aa 1 z) Ak 0] k z fun k=>bS h k 21 z (fun _ h k=>?_) fun _ h k=>?_
 · refine ul 18 k z fun k=>?_;cases h;exact finR2 k z (RV.tmp k z) (RV.tmp k z) ⟨_,[Ab],z,m.ext,(m.v Ai 0 z),(m.fresh 0 z)⟩
 refine gl 8 [lF (Enc.ow_rd Aa)] k z fun k=>cJ h k z (fun h=>?_) fun h=>?_
 · refine uc 9 k z fun k=>?_;cases h;exact finR2 k z (RV.tmp k z) (RV.tmp k z) ⟨_,[Ab],z,m.ext,(m.v Ai 0 z),(m.fresh 0 z)⟩
 refine uc 2 k z fun k=>?_;exact ⟨k.p z,m.sl [1,0] z,h⟩
theorem c_spec_l4Line (fu) {w0} (Ah Ae Ad Af) {v2 F3} (Aa:rd w0 F3 [v2] Ah) {r} (h:d_spec_l4Line fu Ah Ae Ad Af = some r):Calls Tryz.prog 81 #[v2,I Ae,.string (Ad),I Af] w0 fun e w=>∃ (v0:Value) (G0:List Nat),e = .returned (.tuple #[v0,.bool (r.2)]) ∧ Ext [] w0 w ∧ ow w G0 [v0] r.1 ∧ (∀ b ∈ G0,w0.heap.size ≤ b):=by
 refine eg (vs:=[_,_,_,_]) func81 z ntmps81 z fun k m=>gc 16 [lF Aa] k z fun k=>cJ h k z (fun h=>?_) fun h=>?_
 · refine uc 2 k z fun k=>sB te35 m k z (by exact fN) fun g9 Aq At a k m e Ai=>?_;have Al:=ow_bx Ai ([]:List Int) z z z;refine ul 6 k z fun k=>?_;cases h;exact finR2 k z (RV.tmp k z) (RV.tmp k z) ⟨_,[g9],z,m.ext,(m.v Al 0 z),(m.fresh 0 z)⟩
 refine o2 h fun Ap Ac Ao Am h=>gc 10 [iF Aa Ac,eF (m.r Aa) Ac 0] k z fun k=>sC k call143 z (c_spec_l4Nums fu _ _ _  Am) fun Ar As hR=>?_;obtain ⟨Au,Ag,rfl,e,Ab,Aj⟩:=hR;refine ⟨_,z,fun a k=>?_⟩;have m:=m.nw e Aj Ab;refine ul 7 k z fun k=>?_;cases h;exact finR2 k z (RV.tmp k z) (RV.tmp k z) ⟨_,Ag,z,m.ext,(m.v Ab 0 z),(m.fresh 0 z)⟩
theorem c_spec_ReadOrder (fu) {w0} (Fi) {r} (h:d_spec_ReadOrder fu Fi = some r):Calls Tryz.prog 48 #[.string (Fi)] w0 fun e w=>∃ (Fe:List Value) (G0:List Nat),e = .returned (.tuple #[.agg Fe.toArray,I r.2]) ∧ Ext [] w0 w ∧ ow w G0 Fe r.1 ∧ (∀ b ∈ G0,w0.heap.size ≤ b):=by
 refine eg (vs:=[_]) func48 z ntmps48 z fun k m=>uc 2 k z fun k=>s_alloc m k zeroValue55 z z z z z fun b2 w4 a k m e Ao=>oE h fun x5 Jb h=>ul 6 k z fun k=>sL k m call43 z (c_spec_Parts fu _ _  Jb) fun w9 Bo At Ab k m=>gl 18 [lF (Enc.ow_rd Ab)] k z fun k=>cJ h k z (fun h=>?_) fun h=>?_
 · refine uc 2 k z fun k=>sv k z (r_build bt55 k (cs:=#[I 0,I 0,I 0,I 0,I 0,I 0,.slice none 0 0,.slice none 0 0,I 0,.slice none 0 0]) (ps:=[]) z z (by kernel_rfl)) fun a k=>sT sizeOf55 m 1 Ao 0 k z z fun Nn a k e m Kc=>ul 5 k z fun k=>?_;cases h;exact finR2 k z (RV.cA k z ta55 (Kc.at (m.a 1 z) 0 10 z z z) z) (RV.tmp k z) ⟨_,_,z,m.ext,⟨_,[],_,[],_,[],z,z,(ow_nil _),(ow_nil _),(ow_nil _),by simpa [fps] using (m.sl [] z).nd⟩,(app_fresh (by simp) (app_fresh (by simp) (by simp)))⟩
 refine uc 4 k z fun k=>sv k z (r_build bt55 k (cs:=#[I 0,I 0,I 0,I 0,I 0,I 0,.slice none 0 0,.slice none 0 0,I 0,.slice none 0 0]) (ps:=[]) z z (by kernel_rfl)) fun a k=>s_alloc m k zeroValue55 z z z z z fun Aa My a k m e Gh=>sT sizeOf55 m 0 Gh 0 k z z fun Et a k e m Ev=>ul 7 k z fun k=>cg (fun a w=>K 217 [(2,pt b2),(4,Bo),(5,I (w64 (((x5.length:Int)) - 1))),(6,pt Aa)] a ∧ St [] w0 w [([b2],w4),([Aa],Et),(At,w9)] ∧ d_spec_ReadOrder_J2 fu x5 = some r) ?_ ?_
 · rintro a No ⟨k,m,h⟩;refine cg (fun a w=>∃ Ac Ck,K 217 [(2,pt b2),(4,Bo),(5,I (w64 (((x5.length:Int)) - 1))),(6,pt Aa)] a ∧ St [] w0 w [([b2],w4),([Aa],Ck),(At,w9)] ∧ bx Ck Aa [I Ac,I 0,I 0,I 0,I 0,I 0,.slice none 0 0,.slice none 0 0,I 0,.slice none 0 0] 55 ∧ d_spec_ReadOrder_J1 fu x5 Ac = some r) ?_ ?_
   · rintro a Oa ⟨Ac,Ck,k,m,Gq,h⟩;refine oE h fun Nw Hr h=>uc 9 k z fun k=>sC k call81 z (c_spec_l4Line fu _ _ _ _ (m.q Ab 2 z) Hr) fun Nv Ml hR=>?_;obtain ⟨Ms,Hl,rfl,e,Am,Hi⟩:=hR;refine ⟨_,z,fun a k=>?_⟩;have m:=m.nw e Hi Am;refine ul 14 k z fun k=>cJ h k z (fun h=>?_) fun h=>?_
     · refine uc 2 k z fun k=>sv k z (r_build bt55 k (cs:=#[I 0,I 0,I 0,I 0,I 0,I 0,.slice none 0 0,.slice none 0 0,I 0,.slice none 0 0]) (ps:=[]) z z (by kernel_rfl)) fun a k=>pN 1 k z fun a k=>sT sizeOf55 m 1 Ao 0 k z z fun Nx a k e m Hp=>ul 5 k z fun k=>?_;cases h;exact finR2 k z (RV.cA k z ta55 (Hp.at (m.a 1 z) 0 10 z z z) z) (RV.tmp k z) ⟨_,_,z,m.ext,⟨_,[],_,[],_,[],z,z,(ow_nil _),(ow_nil _),(ow_nil _),by simpa [fps] using (m.sl [] z).nd⟩,(app_fresh (by simp) (app_fresh (by simp) (by simp)))⟩
     refine uc 3 k z fun k=>d_go ([Aa]) mixo m z fun Jn hMd=>?_;have m:=hMd;have s:=Ext.refl (([Aa]):List Nat) Jn;refine dM [0,3,6,9] 4 z k z s fun a k=>oE h fun Ag Ej h=>dT k 1 z z s (fun w s=>r_ixa (Enc.ow_rd Am) Ej k ts35 z z z) fun a k=>dT k 2 z z s (fun w s=>r_lde1 (Enc.ow_rd Am) (hMd.az 0 2 z z z s) Ej 0 t13 k z z z z) fun a k=>oE h fun Af Fu h=>dT k 4 z z s (fun w s=>r_ixa (Enc.ow_rd Am) Fu k ts35 z z z) fun a k=>dT k 5 z z s (fun w s=>r_lde1 (Enc.ow_rd Am) (hMd.az 0 2 z z z s) Fu 0 t13 k z z z z) fun a k=>oE h fun Ae Ft h=>dT k 7 z z s (fun w s=>r_ixa (Enc.ow_rd Am) Ft k ts35 z z z) fun a k=>dT k 8 z z s (fun w s=>r_lde1 (Enc.ow_rd Am) (hMd.az 0 2 z z z s) Ft 0 t13 k z z z z) fun a k=>oE h fun Ad Fj h=>dT k 10 z z s (fun w s=>r_ixa (Enc.ow_rd Am) Fj k ts35 z z z) fun a k=>dT k 11 z z s (fun w s=>r_lde1 (Enc.ow_rd Am) (hMd.az 0 2 z z z s) Fj 0 t13 k z z z z) fun a k=>dT k 12 z z s (fun w s=>r_build bt50 k (cs:=#[I Ag,I Af,I Ae,I Ad]) (ps:=[(0,.tmp 51),(1,.tmp 54),(2,.tmp 57),(3,.tmp 60)]) z z (by kernel_rfl)) fun a k=>dF k 13 fa55_1 z s fun a k=>dG 14 z ?_;refine sT sizeOf50 m 2 Gq 1 k z z fun Oe a k e m Gk=>?_;have s:=s.trans e (fun y hy=>Or.inl hy);refine wpList_nil ⟨s,?_⟩;refine dD ?_;refine (nm_then ?_);refine oE h fun Mu Gy h=>uc 9 k z fun k=>sC k call81 z (c_spec_l4Line fu _ _ _ _ (m.q Ab 3 z) Gy) fun Ln Nh hR=>?_;obtain ⟨Nm,Is,rfl,e,Cb,Iv⟩:=hR;refine ⟨_,z,fun a k=>?_⟩;have m:=m.nw e Iv Cb;refine ul 14 k z fun k=>cJ h k z (fun h=>?_) fun h=>?_
     · refine uc 2 k z fun k=>sv k z (r_build bt55 k (cs:=#[I 0,I 0,I 0,I 0,I 0,I 0,.slice none 0 0,.slice none 0 0,I 0,.slice none 0 0]) (ps:=[]) z z (by kernel_rfl)) fun a k=>pN 1 k z fun a k=>sT sizeOf55 m 2 Ao 0 k z z fun Ob a k e m Hj=>ul 5 k z fun k=>?_;cases h;exact finR2 k z (RV.cA k z ta55 (Hj.at (m.a 2 z) 0 10 z z z) z) (RV.tmp k z) ⟨_,_,z,m.ext,⟨_,[],_,[],_,[],z,z,(ow_nil _),(ow_nil _),(ow_nil _),by simpa [fps] using (m.sl [] z).nd⟩,(app_fresh (by simp) (app_fresh (by simp) (by simp)))⟩
     refine oE h fun Ah Fv h=>gc 8 [iF (Enc.ow_rd Cb) Fv,eF (m.q Cb 0 z) Fv 0] k z fun k=>sT sizeOf3 m 3 Gk 5 k z z fun Ji a k e m Ie=>oE h fun Fg Lg h=>ul 11 k z fun k=>sC k call81 z (c_spec_l4Line fu _ _ _ _ (m.q Ab 4 z) Lg) fun Ny Kr hR=>?_;obtain ⟨Hm,Dv,rfl,e,Dk,Hx⟩:=hR;refine ⟨_,z,fun a k=>?_⟩;have m:=m.nw e Hx Dk;refine ul 9 k z fun k=>lG (fun n a w=>∃ Bk Ak Al Bu Ch Av Db Cr Cq Dc Cy,K 217 [(2,pt b2),(4,Bo),(5,I (w64 (((x5.length:Int)) - 1))),(6,pt Aa),(7,I Av),(8,Cr),(9,.bool (Cy))] a ∧ St [] w0 w [([b2],w4),(Al,Bu),([Aa],Ch),(At,w9),(Cq,Dc)] ∧ ow Bu Al [Ak] Bk ∧ bx Ch Aa [I Ac,I Ag,I Af,I Ae,I Ad,I Ah,Ak,.slice none 0 0,I 0,.slice none 0 0] 55 ∧ ow Dc Cq [Cr] Db ∧ d_spec_ReadOrder_L3 fu x5 Ac Ag Af Ae Ad Ah n Bk Av Db Cy = some r) ?_ fu ?_
     · rintro Nf a Lk ⟨Bk,Ak,Al,Bu,Ch,Av,Db,Cr,Cq,Dc,Cy,k,m,Cd,Bl,Bx,h⟩;refine uc 6 k z fun k=>cJ h k z (fun h=>?_) fun h=>?_
       · refine uc 4 k z fun k=>d_go (Al ++ ([Aa])) mixo m z fun Im hMd=>?_;have m:=hMd;have s:=Ext.refl ((Al ++ ([Aa])):List Nat) Im;have hMj:=(hMd.sel [1,2,0,3,4] z (by decide)).join2;refine dM [2,5] 2 z k z s fun a k=>dF k 0 fa55_3 z s fun a k=>oE h fun Ba Fz h=>dT k 3 z z s (fun w s=>r_ixa (Enc.ow_rd Bx) Fz k ts35 z z z) fun a k=>dT k 4 z z s (fun w s=>r_lde1 (Enc.ow_rd Bx) (hMj.az 3 0 z z z s) Fz 0 t13 k z z z z) fun a k=>oE h fun Bv Ez h=>dT k 6 z z s (fun w s=>r_ixa (Enc.ow_rd Bx) Ez k ts35 z z z) fun a k=>dT k 7 z z s (fun w s=>r_lde1 (Enc.ow_rd Bx) (hMj.az 3 0 z z z s) Ez 0 t13 k z z z z) fun a k=>dT k 8 z z s (fun w s=>r_build bt98 k (cs:=#[I Ba,I Bv]) (ps:=[(0,.tmp 88),(1,.tmp 91)]) z z (by kernel_rfl)) fun a k=>dG2 1 9 (by kernel_rfl) z z ?_ ?_
         · refine gl 1 [bF m 2 Bl z] k z fun k=>wpList_nil ⟨s,?_⟩;refine dG 9 z (s_bsN te51 m k z z z z z z z (by decide) z (by exact fC z fN) fun Li Lv Me a k m e Ko Hv=>?_);have Lo:=lo1 (Nat.le_trans s.size Hv);have Kx:=ow_bx Ko ([(⟨Ba,Bv⟩:Pair)]:List Pair) z z z;refine ns s e fun s=>dG 10 z (oE h fun Ip Kb h=>s_appFN Kb te51 z m 2 Cd (News.rd (m.q Kx 0 z)) z z k z z z z z z z fun Fq El Kn a k e m Dg Ia=>?_);have Nd:∀ y ∈ El,y ∈ (Al ++ ([Aa])) ∨ _ ≤ y:=fun y hy=>(Ia y hy).elim (fun hy=>(fun y hy=>Or.inl (List.mem_append_left _ hy)) y hy) (fun h=>Or.inr (Nat.le_trans s.size h));have s:=s.trans e (fun y hy=>Or.inl (List.mem_append_left _ hy));refine wpList_nil ⟨s,?_⟩;refine dF k 11 fa55_3 z s fun a k=>dG 12 z (s_stb1 (cs':=[I Ac,I Ag,I Af,I Ae,I Ad,I Ah,Fq,.slice none 0 0,I 0,.slice none 0 0]) sizeOf51 m 3 Bl 6 k (rd_c (Enc.ow_rd Dg)) (rd_o (Enc.ow_rd Dg)) z z z z z z z z z fun Gc a k e m Hn=>?_);have s:=s.trans e (fun y hy=>Or.inl (List.mem_append_right _ hy));refine wpList_nil ⟨s,?_⟩;refine dD ((nm_then ?_));refine oE h fun Fw Hb h=>uc 10 k z fun k=>sC k call81 z (c_spec_l4Line fu _ _ _ _ (m.q Ab 4 z) Hb) fun Mx Ij hR=>?_;obtain ⟨Lc,Ey,rfl,e,Cj,Jk⟩:=hR;refine ⟨_,z,fun a k=>?_⟩;have m:=m.nw e Jk Cj;refine ul 8 k z fun k=>?_;exact ⟨_,_,_,_,_,_,_,_,_,_,_,k.p z,m.sl [2,3,4,5,0] z,Dg,Hn,Cj,h⟩
         refine s_bsN te51 m k z z z z z z z (by decide) z (by exact fC z fN) fun Np Mw Mh a k m e Iw Hw=>?_;have Ng:=lo1 (Nat.le_trans s.size Hw);have Ib:=ow_bx Iw ([(⟨Ba,Bv⟩:Pair)]:List Pair) z z z;refine ns s e fun s=>dG 1 z (gl 1 [bF m 3 Bl z] k z fun k=>wpList_nil ⟨s,?_⟩);refine dG 10 z (oE h fun Lh Kv h=>s_appFN Kv te51 z m 2 Cd (News.rd (m.q Ib 0 z)) z z k z z z z z z z fun Fl Ew Ks a k e m Cu Kh=>?_);have Mr:∀ y ∈ Ew,y ∈ (Al ++ ([Aa])) ∨ _ ≤ y:=fun y hy=>(Kh y hy).elim (fun hy=>(fun y hy=>Or.inl (List.mem_append_left _ hy)) y hy) (fun h=>Or.inr (Nat.le_trans s.size h));have s:=s.trans e (fun y hy=>Or.inl (List.mem_append_left _ hy));refine wpList_nil ⟨s,?_⟩;refine dF k 11 fa55_3 z s fun a k=>dG 12 z (s_stb1 (cs':=[I Ac,I Ag,I Af,I Ae,I Ad,I Ah,Fl,.slice none 0 0,I 0,.slice none 0 0]) sizeOf51 m 3 Bl 6 k (rd_c (Enc.ow_rd Cu)) (rd_o (Enc.ow_rd Cu)) z z z z z z z z z fun Id a k e m Ii=>?_);have s:=s.trans e (fun y hy=>Or.inl (List.mem_append_right _ hy));refine wpList_nil ⟨s,?_⟩;refine dD ((nm_then ?_));refine oE h fun Fp Ir h=>uc 10 k z fun k=>sC k call81 z (c_spec_l4Line fu _ _ _ _ (m.q Ab 4 z) Ir) fun Oc Jv hR=>?_;obtain ⟨Hf,Ex,rfl,e,Dm,Hk⟩:=hR;refine ⟨_,z,fun a k=>?_⟩;have m:=m.nw e Hk Dm;refine ul 8 k z fun k=>?_;exact ⟨_,_,_,_,_,_,_,_,_,_,_,k.p z,m.sl [2,3,4,5,0] z,Cu,Ii,Dm,h⟩
       refine oE h fun Fk Lb h=>uc 9 k z fun k=>sC k call81 z (c_spec_l4Line fu _ _ _ _ (m.q Ab 3 z) Lb) fun Lx Jy hR=>?_;obtain ⟨Ho,Fh,rfl,e,Dh,Jz⟩:=hR;refine ⟨_,z,fun a k=>?_⟩;have m:=m.nw e Jz Dh;refine ul 9 k z fun k=>lG (fun n a w=>∃ By Aq Ap Bw Co Aw Ci Cl Di Cz Cm,K 217 [(2,pt b2),(4,Bo),(5,I (w64 (((x5.length:Int)) - 1))),(6,pt Aa),(7,I Aw),(8,Cl),(9,.bool (Cm))] a ∧ St [] w0 w [([b2],w4),(Ap,Bw),([Aa],Co),(At,w9),(Al,Bu),(Di,Cz)] ∧ ow Bw Ap [Aq] By ∧ bx Co Aa [I Ac,I Ag,I Af,I Ae,I Ad,I Ah,Ak,Aq,I 0,.slice none 0 0] 55 ∧ ow Cz Di [Cl] Ci ∧ d_spec_ReadOrder_L2 fu x5 Ac Ag Af Ae Ad Ah Bk n By Aw Ci Cm = some r) ?_ fu ?_
       · rintro Nz a Mm ⟨By,Aq,Ap,Bw,Co,Aw,Ci,Cl,Di,Cz,Cm,k,m,Ce,Bn,Aj,h⟩;refine uc 6 k z fun k=>cJ h k z (fun h=>?_) fun h=>?_
         · refine uc 4 k z fun k=>d_go (Ap ++ ([Aa])) mixo m z fun Hq hMd=>?_;have m:=hMd;have s:=Ext.refl ((Ap ++ ([Aa])):List Nat) Hq;have hMj:=(hMd.sel [1,2,0,3,4,5] z (by decide)).join2;refine dM [2,5,8,11,14,17,20] 7 z k z s fun a k=>dF k 0 fa55_4 z s fun a k=>oE h fun Be Er h=>dT k 3 z z s (fun w s=>r_ixa (Enc.ow_rd Aj) Er k ts35 z z z) fun a k=>dT k 4 z z s (fun w s=>r_lde1 (Enc.ow_rd Aj) (hMj.az 4 0 z z z s) Er 0 t13 k z z z z) fun a k=>oE h fun Bg Eo h=>dT k 6 z z s (fun w s=>r_ixa (Enc.ow_rd Aj) Eo k ts35 z z z) fun a k=>dT k 7 z z s (fun w s=>r_lde1 (Enc.ow_rd Aj) (hMj.az 4 0 z z z s) Eo 0 t13 k z z z z) fun a k=>oE h fun Bp Dr h=>dT k 9 z z s (fun w s=>r_ixa (Enc.ow_rd Aj) Dr k ts35 z z z) fun a k=>dT k 10 z z s (fun w s=>r_lde1 (Enc.ow_rd Aj) (hMj.az 4 0 z z z s) Dr 0 t13 k z z z z) fun a k=>oE h fun Bf Ed h=>dT k 12 z z s (fun w s=>r_ixa (Enc.ow_rd Aj) Ed k ts35 z z z) fun a k=>dT k 13 z z s (fun w s=>r_lde1 (Enc.ow_rd Aj) (hMj.az 4 0 z z z s) Ed 0 t13 k z z z z) fun a k=>oE h fun Br Es h=>dT k 15 z z s (fun w s=>r_ixa (Enc.ow_rd Aj) Es k ts35 z z z) fun a k=>?_;refine dT k 16 z z s (fun w s=>r_lde1 (Enc.ow_rd Aj) (hMj.az 4 0 z z z s) Es 0 t13 k z z z z) fun a k=>oE h fun Bb Fy h=>dT k 18 z z s (fun w s=>r_ixa (Enc.ow_rd Aj) Fy k ts35 z z z) fun a k=>dT k 19 z z s (fun w s=>r_lde1 (Enc.ow_rd Aj) (hMj.az 4 0 z z z s) Fy 0 t13 k z z z z) fun a k=>oE h fun Bi Ea h=>dT k 21 z z s (fun w s=>r_ixa (Enc.ow_rd Aj) Ea k ts35 z z z) fun a k=>dT k 22 z z s (fun w s=>r_lde1 (Enc.ow_rd Aj) (hMj.az 4 0 z z z s) Ea 0 t13 k z z z z) fun a k=>dT k 23 z z s (fun w s=>r_build bt61 k (cs:=#[I Be,I Bg,I Bp,I Bf,I Br,I Bb,I Bi]) (ps:=[(0,.tmp 115),(1,.tmp 118),(2,.tmp 121),(3,.tmp 124),(4,.tmp 127),(5,.tmp 130),(6,.tmp 133)]) z z (by kernel_rfl)) fun a k=>dG2 1 24 (by kernel_rfl) z z ?_ ?_
           · refine gl 1 [bF m 2 Bn z] k z fun k=>wpList_nil ⟨s,?_⟩;refine dG 24 z (s_bsN te52 m k z z z z z z z (by decide) z (by exact fC z fN) fun Mj Na Mi a k m e Jw Kk=>?_);have Lq:=lo1 (Nat.le_trans s.size Kk);have Hd:=ow_bx Jw ([(⟨Be,Bg,Bp,Bf,Br,Bb,Bi⟩:Typ)]:List Typ) z z z;refine ns s e fun s=>dG 25 z (oE h fun Ku Ih h=>s_appFN Ih te52 z m 2 Ce (News.rd (m.q Hd 0 z)) z z k z z z z z z z fun Fb Ee Js a k e m Cw Kj=>?_);have Lr:∀ y ∈ Ee,y ∈ (Ap ++ ([Aa])) ∨ _ ≤ y:=fun y hy=>(Kj y hy).elim (fun hy=>(fun y hy=>Or.inl (List.mem_append_left _ hy)) y hy) (fun h=>Or.inr (Nat.le_trans s.size h));have s:=s.trans e (fun y hy=>Or.inl (List.mem_append_left _ hy));refine wpList_nil ⟨s,?_⟩;refine dF k 26 fa55_4 z s fun a k=>dG 27 z (s_stb1 (cs':=[I Ac,I Ag,I Af,I Ae,I Ad,I Ah,Ak,Fb,I 0,.slice none 0 0]) sizeOf52 m 3 Bn 7 k (rd_c (Enc.ow_rd Cw)) (rd_o (Enc.ow_rd Cw)) z z z z z z z z z fun Jp a k e m Iy=>?_);have s:=s.trans e (fun y hy=>Or.inl (List.mem_append_right _ hy));refine wpList_nil ⟨s,?_⟩;refine dD ?_;refine (nm_then ?_);refine oE h fun Ff Je h=>uc 10 k z fun k=>sC k call81 z (c_spec_l4Line fu _ _ _ _ (m.q Ab 4 z) Je) fun Od Gp hR=>?_;obtain ⟨Ki,Dw,rfl,e,Cv,Ix⟩:=hR;refine ⟨_,z,fun a k=>?_⟩;have m:=m.nw e Ix Cv;refine ul 8 k z fun k=>?_;exact ⟨_,_,_,_,_,_,_,_,_,_,_,k.p z,m.sl [2,3,4,5,6,0] z,Cw,Iy,Cv,h⟩
           refine s_bsN te52 m k z z z z z z z (by decide) z (by exact fC z fN) fun Mt Nt Mv a k m e Iq Io=>?_;have Mp:=lo1 (Nat.le_trans s.size Io);have Hg:=ow_bx Iq ([(⟨Be,Bg,Bp,Bf,Br,Bb,Bi⟩:Typ)]:List Typ) z z z;refine ns s e fun s=>dG 1 z (gl 1 [bF m 3 Bn z] k z fun k=>wpList_nil ⟨s,?_⟩);refine dG 25 z (oE h fun Gt Ky h=>s_appFN Ky te52 z m 2 Ce (News.rd (m.q Hg 0 z)) z z k z z z z z z z fun Fc Eg Gr a k e m Dn Kd=>?_);have Ls:∀ y ∈ Eg,y ∈ (Ap ++ ([Aa])) ∨ _ ≤ y:=fun y hy=>(Kd y hy).elim (fun hy=>(fun y hy=>Or.inl (List.mem_append_left _ hy)) y hy) (fun h=>Or.inr (Nat.le_trans s.size h));have s:=s.trans e (fun y hy=>Or.inl (List.mem_append_left _ hy));refine wpList_nil ⟨s,?_⟩;refine dF k 26 fa55_4 z s fun a k=>dG 27 z (s_stb1 (cs':=[I Ac,I Ag,I Af,I Ae,I Ad,I Ah,Ak,Fc,I 0,.slice none 0 0]) sizeOf52 m 3 Bn 7 k (rd_c (Enc.ow_rd Dn)) (rd_o (Enc.ow_rd Dn)) z z z z z z z z z fun Ke a k e m Gi=>?_);have s:=s.trans e (fun y hy=>Or.inl (List.mem_append_right _ hy));refine wpList_nil ⟨s,?_⟩;refine dD ?_;refine (nm_then ?_);refine oE h fun Em Gn h=>uc 10 k z fun k=>sC k call81 z (c_spec_l4Line fu _ _ _ _ (m.q Ab 4 z) Gn) fun Lz Hz hR=>?_;obtain ⟨Gd,En,rfl,e,Dd,Hh⟩:=hR;refine ⟨_,z,fun a k=>?_⟩;have m:=m.nw e Hh Dd;refine ul 8 k z fun k=>?_;exact ⟨_,_,_,_,_,_,_,_,_,_,_,k.p z,m.sl [2,3,4,5,6,0] z,Dn,Gi,Dd,h⟩
         refine oE h fun Ns Jj h=>uc 9 k z fun k=>sC k call81 z (c_spec_l4Line fu _ _ _ _ (m.q Ab 3 z) Jj) fun Mb Lj hR=>?_;obtain ⟨Md,Kp,rfl,e,Bz,Hc⟩:=hR;refine ⟨_,z,fun a k=>?_⟩;have m:=m.nw e Hc Bz;refine ul 14 k z fun k=>cJ h k z (fun h=>?_) fun h=>?_
         · refine uc 2 k z fun k=>sv k z (r_build bt55 k (cs:=#[I 0,I 0,I 0,I 0,I 0,I 0,.slice none 0 0,.slice none 0 0,I 0,.slice none 0 0]) (ps:=[]) z z (by kernel_rfl)) fun a k=>pN 1 k z fun a k=>sT sizeOf55 m 1 Ao 0 k z z fun Mz a k e m Jh=>ul 5 k z fun k=>?_;cases h;exact finR2 k z (RV.cA k z ta55 (Jh.at (m.a 1 z) 0 10 z z z) z) (RV.tmp k z) ⟨_,_,z,m.ext,⟨_,[],_,[],_,[],z,z,(ow_nil _),(ow_nil _),(ow_nil _),by simpa [fps] using (m.sl [] z).nd⟩,(app_fresh (by simp) (app_fresh (by simp) (by simp)))⟩
         refine oE h fun Au Ef h=>gc 8 [iF (Enc.ow_rd Bz) Ef,eF (m.q Bz 0 z) Ef 0] k z fun k=>sT sizeOf3 m 3 Bn 8 k z z fun Ju a k e m Iu=>oE h fun Fa Gw h=>ul 13 k z fun k=>sC k call81 z (c_spec_l4Line fu _ _ _ _ (m.q Ab 4 z) Gw) fun Nl Gj hR=>?_;obtain ⟨Gu,Eu,rfl,e,Da,Hy⟩:=hR;refine ⟨_,z,fun a k=>?_⟩;have m:=m.nw e Hy Da;refine ul 9 k z fun k=>lG (fun n a w=>∃ Dq Cg Ar Cp Dp As Dj Cx Cs Df Dl,K 217 [(2,pt b2),(4,Bo),(5,I (w64 (((x5.length:Int)) - 1))),(6,pt Aa),(7,I As),(8,Cx),(9,.bool (Dl))] a ∧ St [] w0 w [([b2],w4),(Ar,Cp),([Aa],Dp),(At,w9),(Al,Bu),(Ap,Bw),(Cs,Df)] ∧ ow Cp Ar [Cg] Dq ∧ bx Dp Aa [I Ac,I Ag,I Af,I Ae,I Ad,I Ah,Ak,Aq,I Au,Cg] 55 ∧ ow Df Cs [Cx] Dj ∧ d_spec_ReadOrder_L1 fu x5 Ac Ag Af Ae Ad Ah Bk By Au n Dq As Dj Dl = some r) ?_ fu ?_
         · rintro Lp a Ly ⟨Dq,Cg,Ar,Cp,Dp,As,Dj,Cx,Cs,Df,Dl,k,m,Ca,Az,Ai,h⟩;refine uc 6 k z fun k=>cJ h k z (fun h=>?_) fun h=>?_
           · refine uc 4 k z fun k=>d_go (Ar ++ ([Aa])) mixo m z fun Gz hMd=>?_;have m:=hMd;have s:=Ext.refl ((Ar ++ ([Aa])):List Nat) Gz;have hMj:=(hMd.sel [1,2,0,3,4,5,6] z (by decide)).join2;refine dM [2,5,8,11,14,17,20] 7 z k z s fun a k=>dF k 0 fa55_6 z s fun a k=>oE h fun Ay Fn h=>dT k 3 z z s (fun w s=>r_ixa (Enc.ow_rd Ai) Fn k ts35 z z z) fun a k=>dT k 4 z z s (fun w s=>r_lde1 (Enc.ow_rd Ai) (hMj.az 5 0 z z z s) Fn 0 t13 k z z z z) fun a k=>oE h fun Bd Dx h=>dT k 6 z z s (fun w s=>r_ixa (Enc.ow_rd Ai) Dx k ts35 z z z) fun a k=>dT k 7 z z s (fun w s=>r_lde1 (Enc.ow_rd Ai) (hMj.az 5 0 z z z s) Dx 0 t13 k z z z z) fun a k=>oE h fun Bq Ep h=>dT k 9 z z s (fun w s=>r_ixa (Enc.ow_rd Ai) Ep k ts35 z z z) fun a k=>dT k 10 z z s (fun w s=>r_lde1 (Enc.ow_rd Ai) (hMj.az 5 0 z z z s) Ep 0 t13 k z z z z) fun a k=>oE h fun Bs Ds h=>dT k 12 z z s (fun w s=>r_ixa (Enc.ow_rd Ai) Ds k ts35 z z z) fun a k=>dT k 13 z z s (fun w s=>r_lde1 (Enc.ow_rd Ai) (hMj.az 5 0 z z z s) Ds 0 t13 k z z z z) fun a k=>oE h fun Bt Fs h=>dT k 15 z z s (fun w s=>r_ixa (Enc.ow_rd Ai) Fs k ts35 z z z) fun a k=>?_;refine dT k 16 z z s (fun w s=>r_lde1 (Enc.ow_rd Ai) (hMj.az 5 0 z z z s) Fs 0 t13 k z z z z) fun a k=>oE h fun Bh Dz h=>dT k 18 z z s (fun w s=>r_ixa (Enc.ow_rd Ai) Dz k ts35 z z z) fun a k=>dT k 19 z z s (fun w s=>r_lde1 (Enc.ow_rd Ai) (hMj.az 5 0 z z z s) Dz 0 t13 k z z z z) fun a k=>oE h fun Bc Eb h=>dT k 21 z z s (fun w s=>r_ixa (Enc.ow_rd Ai) Eb k ts35 z z z) fun a k=>dT k 22 z z s (fun w s=>r_lde1 (Enc.ow_rd Ai) (hMj.az 5 0 z z z s) Eb 0 t13 k z z z z) fun a k=>dT k 23 z z s (fun w s=>r_build bt59 k (cs:=#[I Ay,I Bd,I Bq,I Bs,I Bt,I Bh,I Bc]) (ps:=[(0,.tmp 173),(1,.tmp 176),(2,.tmp 179),(3,.tmp 182),(4,.tmp 185),(5,.tmp 188),(6,.tmp 191)]) z z (by kernel_rfl)) fun a k=>dG2 1 24 (by kernel_rfl) z z ?_ ?_
             · refine gl 1 [bF m 2 Az z] k z fun k=>wpList_nil ⟨s,?_⟩;refine dG 24 z (s_bsN te53 m k z z z z z z z (by decide) z (by exact fC z fN) fun Nk Mc Mn a k m e In Jx=>?_);have Nj:=lo1 (Nat.le_trans s.size Jx);have Kt:=ow_bx In ([(⟨Ay,Bd,Bq,Bs,Bt,Bh,Bc⟩:Item)]:List Item) z z z;refine ns s e fun s=>dG 25 z (oE h fun Jr Gm h=>s_appFN Gm te53 z m 2 Ca (News.rd (m.q Kt 0 z)) z z k z z z z z z z fun Fm Ec Ka a k e m Ct Jd=>?_);have Lm:∀ y ∈ Ec,y ∈ (Ar ++ ([Aa])) ∨ _ ≤ y:=fun y hy=>(Jd y hy).elim (fun hy=>(fun y hy=>Or.inl (List.mem_append_left _ hy)) y hy) (fun h=>Or.inr (Nat.le_trans s.size h));have s:=s.trans e (fun y hy=>Or.inl (List.mem_append_left _ hy));refine wpList_nil ⟨s,?_⟩;refine dF k 26 fa55_6 z s fun a k=>dG 27 z (s_stb1 (cs':=[I Ac,I Ag,I Af,I Ae,I Ad,I Ah,Ak,Aq,I Au,Fm]) sizeOf53 m 3 Az 9 k (rd_c (Enc.ow_rd Ct)) (rd_o (Enc.ow_rd Ct)) z z z z z z z z z fun Ja a k e m It=>?_);have s:=s.trans e (fun y hy=>Or.inl (List.mem_append_right _ hy));refine wpList_nil ⟨s,?_⟩;refine dD ?_;refine (nm_then ?_);refine oE h fun Ga Lf h=>uc 10 k z fun k=>sC k call81 z (c_spec_l4Line fu _ _ _ _ (m.q Ab 4 z) Lf) fun Lt Kz hR=>?_;obtain ⟨Ha,Ei,rfl,e,Do,Ik⟩:=hR;refine ⟨_,z,fun a k=>?_⟩;have m:=m.nw e Ik Do;refine ul 8 k z fun k=>?_;exact ⟨_,_,_,_,_,_,_,_,_,_,_,k.p z,m.sl [2,3,4,5,6,7,0] z,Ct,It,Do,h⟩
             refine s_bsN te53 m k z z z z z z z (by decide) z (by exact fC z fN) fun Nr Lu Nu a k m e Gl Ig=>?_;have Mk:=lo1 (Nat.le_trans s.size Ig);have Gb:=ow_bx Gl ([(⟨Ay,Bd,Bq,Bs,Bt,Bh,Bc⟩:Item)]:List Item) z z z;refine ns s e fun s=>dG 1 z (gl 1 [bF m 3 Az z] k z fun k=>wpList_nil ⟨s,?_⟩);refine dG 25 z (oE h fun Gg Km h=>s_appFN Km te53 z m 2 Ca (News.rd (m.q Gb 0 z)) z z k z z z z z z z fun Ek Dt Kw a k e m De Ld=>?_);have Nq:∀ y ∈ Dt,y ∈ (Ar ++ ([Aa])) ∨ _ ≤ y:=fun y hy=>(Ld y hy).elim (fun hy=>(fun y hy=>Or.inl (List.mem_append_left _ hy)) y hy) (fun h=>Or.inr (Nat.le_trans s.size h));have s:=s.trans e (fun y hy=>Or.inl (List.mem_append_left _ hy));refine wpList_nil ⟨s,?_⟩;refine dF k 26 fa55_6 z s fun a k=>dG 27 z (s_stb1 (cs':=[I Ac,I Ag,I Af,I Ae,I Ad,I Ah,Ak,Aq,I Au,Ek]) sizeOf53 m 3 Az 9 k (rd_c (Enc.ow_rd De)) (rd_o (Enc.ow_rd De)) z z z z z z z z z fun Jc a k e m Jl=>?_);have s:=s.trans e (fun y hy=>Or.inl (List.mem_append_right _ hy));refine wpList_nil ⟨s,?_⟩;refine dD ?_;refine (nm_then ?_);refine oE h fun Fd Ge h=>uc 10 k z fun k=>sC k call81 z (c_spec_l4Line fu _ _ _ _ (m.q Ab 4 z) Ge) fun Mo Gx hR=>?_;obtain ⟨Kg,Eh,rfl,e,Cn,Il⟩:=hR;refine ⟨_,z,fun a k=>?_⟩;have m:=m.nw e Il Cn;refine ul 8 k z fun k=>?_;exact ⟨_,_,_,_,_,_,_,_,_,_,_,k.p z,m.sl [2,3,4,5,6,7,0] z,De,Jl,Cn,h⟩
           refine uc 12 k z fun k=>bsplit (decide (As < (w64 (((x5.length:Int)) - 1)))) (fun Bm=>?_) (fun Bm=>?_)
           · have h:=bif_t Bm h;refine rB k 207 z Bm fun k=>ul 11 k z fun k=>sv k z (r_build bt55 k (cs:=#[I 0,I 0,I 0,I 0,I 0,I 0,.slice none 0 0,.slice none 0 0,I 0,.slice none 0 0]) (ps:=[]) z z (by kernel_rfl)) fun a k=>pN 1 k z fun a k=>sT sizeOf55 m 0 Ao 0 k z z fun Mg a k e m Kq=>ul 5 k z fun k=>?_;cases h;exact finR2 k z (RV.cA k z ta55 (Kq.at (m.a 0 z) 0 10 z z z) z) (RV.tmp k z) ⟨_,_,z,m.ext,⟨_,[],_,[],_,[],z,z,(ow_nil _),(ow_nil _),(ow_nil _),by simpa [fps] using (m.sl [] z).nd⟩,(app_fresh (by simp) (app_fresh (by simp) (by simp)))⟩
           have h:=bif_f Bm h;refine rB k 207 z Bm fun k=>oE h fun Nc Du h=>gl 8 [iF (Enc.ow_rd Ab) Du,eF (m.q Ab 3 z) Du 0] k z fun k=>cJ h k z (fun h=>?_) fun h=>?_
           · refine uc 2 k z fun k=>sv k z (r_build bt55 k (cs:=#[I 0,I 0,I 0,I 0,I 0,I 0,.slice none 0 0,.slice none 0 0,I 0,.slice none 0 0]) (ps:=[]) z z (by kernel_rfl)) fun a k=>pN 1 k z fun a k=>sT sizeOf55 m 0 Ao 0 k z z fun Ni a k e m Kf=>ul 5 k z fun k=>?_;cases h;exact finR2 k z (RV.cA k z ta55 (Kf.at (m.a 0 z) 0 10 z z z) z) (RV.tmp k z) ⟨_,_,z,m.ext,⟨_,[],_,[],_,[],z,z,(ow_nil _),(ow_nil _),(ow_nil _),by simpa [fps] using (m.sl [] z).nd⟩,(app_fresh (by simp) (app_fresh (by simp) (by simp)))⟩
           refine gc 5 [bA m 2 Az z] k z fun k=>sT sizeOf55 m 0 Ao 0 k z (allc z (allc z (allc z (allc z (allc z (allc z (allc (rd_o (Enc.ow_rd Cd)) (allc (rd_o (Enc.ow_rd Ce)) (allc z (allc (rd_o (Enc.ow_rd Ca)) alln)))))))))) fun Mq a k e m Ht=>ul 4 k z fun k=>?_;cases h;exact finR2 k z (RV.cA k z ta55 (Ht.at (m.a 0 z) 0 10 z z z) z) (RV.tmp k z) ⟨_,_,z,m.ext,⟨_,Al,_,Ap,_,Ar,z,z,(m.v Cd 4 z),(m.v Ce 5 z),(m.v Ca 1 z),by simpa [fps] using (m.sl [4,5,1] z).nd⟩,(app_fresh (m.fresh 4 z) (app_fresh (m.fresh 5 z) (m.fresh 1 z)))⟩
         exact ⟨_,_,_,_,_,_,_,_,_,_,_,k.p z,(m.addNil (u:=w0)).sel [3,0,5,6,7,4,1] z (by decide),(ow_nil _),Iu,Da,h⟩
       exact ⟨_,_,_,_,_,_,_,_,_,_,_,k.p z,(m.addNil (u:=w0)).sel [2,0,4,5,3,1] z (by decide),(ow_nil _),Bl,Dh,h⟩
     exact ⟨_,_,_,_,_,_,_,_,_,_,_,k.p z,(m.addNil (u:=w0)).sel [4,0,5,6,1] z (by decide),(ow_nil _),Ie,Dk,h⟩
   refine oE h fun Mf Dy h=>gc 8 [iF (Enc.ow_rd Ab) Dy,eF (m.q Ab 2 z) Dy 0] k z fun k=>cJ h k z (fun h=>?_) fun h=>?_
   · refine uc 2 k z fun k=>sT sizeOf3 m 1 Ev 0 k z z fun Gf a k e m Jq=>ul 2 k z fun k=>?_;exact ⟨_,_,k.p z,m.sl [0,1,2] z,Jq,h⟩
   refine uc 2 k z fun k=>?_;exact ⟨_,_,k.p z,m.sl [0,1,2] z,Ev,h⟩
 refine uc 5 k z fun k=>bsplit (decide ((w64 (((x5.length:Int)) - 1)) < 1)) (fun Ax=>?_) (fun Ax=>?_)
 · have h:=bif_t Ax h;refine rB k 21 z Ax fun k=>ul 16 k z fun k=>sv k z (r_build bt55 k (cs:=#[I 0,I 0,I 0,I 0,I 0,I 0,.slice none 0 0,.slice none 0 0,I 0,.slice none 0 0]) (ps:=[]) z z (by kernel_rfl)) fun a k=>sT sizeOf55 m 2 Ao 0 k z z fun Ll a k e m Jm=>ul 5 k z fun k=>?_;cases h;exact finR2 k z (RV.cA k z ta55 (Jm.at (m.a 2 z) 0 10 z z z) z) (RV.tmp k z) ⟨_,_,z,m.ext,⟨_,[],_,[],_,[],z,z,(ow_nil _),(ow_nil _),(ow_nil _),by simpa [fps] using (m.sl [] z).nd⟩,(app_fresh (by simp) (app_fresh (by simp) (by simp)))⟩
 have h:=bif_f Ax h;refine rB k 21 z Ax fun k=>oE h fun If Cc h=>gl 5 [iF (Enc.ow_rd Ab) Cc,eF (m.q Ab 1 z) Cc 0] k z fun k=>bS h k 26 z (fun _ h k=>?_) fun _ h k=>?_
 · refine oE h fun Nb Lw h=>gl 8 [iF (Enc.ow_rd Ab) Cc,eF (m.q Ab 1 z) Cc 0] k z fun k=>cJ h k z (fun h=>?_) fun h=>?_
   · refine uc 2 k z fun k=>sv k z (r_build bt55 k (cs:=#[I 0,I 0,I 0,I 0,I 0,I 0,.slice none 0 0,.slice none 0 0,I 0,.slice none 0 0]) (ps:=[]) z z (by kernel_rfl)) fun a k=>sT sizeOf55 m 2 Ao 0 k z z fun Ma a k e m Jf=>ul 5 k z fun k=>?_;cases h;exact finR2 k z (RV.cA k z ta55 (Jf.at (m.a 2 z) 0 10 z z z) z) (RV.tmp k z) ⟨_,_,z,m.ext,⟨_,[],_,[],_,[],z,z,(ow_nil _),(ow_nil _),(ow_nil _),by simpa [fps] using (m.sl [] z).nd⟩,(app_fresh (by simp) (app_fresh (by simp) (by simp)))⟩
   refine uc 2 k z fun k=>?_;exact ⟨k.p z,m.sl [2,0,1] z,h⟩
 refine ul 11 k z fun k=>?_;exact ⟨k.p z,m.sl [2,0,1] z,h⟩
theorem c_spec_l1In (fu) {w0} (x1 Ab Ac) {r} (h:d_spec_l1In fu x1 Ab Ac = some r):cS 39 [I x1,I Ab,I Ac] w0 (.bool (r)):=by
 refine eg func39 z ntmps39 z fun k m=>uc 11 k z fun k=>bS h k 10 z (fun _ h k=>?_) fun _ h k=>?_
 · refine ul 8 k z fun k=>fS h k m z z
 refine ul 8 k z fun k=>fS h k m z z
theorem c_spec_l2Side (fu) {w0} (x1) {r} (h:d_spec_l2Side fu x1 = some r):cS 264 [I x1] w0 (.bool (r)):=by
 refine eg func264 z ntmps264 z fun k m=>oE h fun x2 Aa h=>uc 8 k z fun k=>cC k m call39 z (c_spec_l1In fu _ _ _  Aa) fun w5 e a k m=>ul 4 k z fun k=>fS h k m z z
theorem c_spec_PalletOk (fu) {w0} (x1) {r} (h:d_spec_PalletOk fu x1 = some r):cS 193 [.agg (Flat.e (x1)).toArray] w0 (.bool (r)):=by
 refine eg func193 z ntmps193 z fun k m=>uc 2 k z fun k=>s_box m k z z z z z z fun b2 w4 a k m e Ad=>oE h fun x5 Ae h=>gl 7 [bF m 0 Ad z] k z fun k=>cC k m call264 z (c_spec_l2Side fu _  Ae) fun w9 e a k m=>pN 1 k z fun a k=>bS h k 6 z (fun _ h k=>?_) fun _ h k=>?_
 · refine oE h fun Aj Af h=>gl 2 [bF m 0 Ad z] k z fun k=>cC k m call264 z (c_spec_l2Side fu _  Af) fun Ak e a k m=>pN 2 k z fun a k=>bS h k 11 z (fun _ h k=>?_) fun _ h k=>?_
   · refine oE h fun Ag Ai h=>gl 2 [bF m 0 Ad z] k z fun k=>cC k m call264 z (c_spec_l2Side fu _  Ai) fun Al e a k m=>pN 2 k z fun a k=>bS h k 16 z (fun _ h k=>?_) fun _ h k=>?_
     · refine oE h fun Ao Ah h=>gl 2 [bF m 0 Ad z] k z fun k=>cC k m call39 z (c_spec_l1In fu _ _ _  Ah) fun Am e a k m=>ul 5 k z fun k=>fS h k m z z
     refine ul 8 k z fun k=>fS h k m z z
   refine ul 13 k z fun k=>fS h k m z z
 refine ul 18 k z fun k=>fS h k m z z
theorem c_spec_l2Id (fu) {w0} (x1) {r} (h:d_spec_l2Id fu x1 = some r):cS 79 [I x1] w0 (.bool (r)):=by
 refine eg func79 z ntmps79 z fun k m=>oE h fun x2 Aa h=>uc 8 k z fun k=>cC k m call39 z (c_spec_l1In fu _ _ _  Aa) fun w5 e a k m=>ul 4 k z fun k=>fS h k m z z
theorem c_spec_TypeOk (fu) {w0} (x1) {r} (h:d_spec_TypeOk fu x1 = some r):cS 194 [.agg (Flat.e (x1)).toArray] w0 (.bool (r)):=by
 refine eg func194 z ntmps194 z fun k m=>uc 2 k z fun k=>s_box m k z z z z z z fun b2 w4 a k m e Aa=>oE h fun x5 Ar h=>gl 7 [bF m 0 Aa z] k z fun k=>cC k m call79 z (c_spec_l2Id fu _  Ar) fun w9 e a k m=>pN 1 k z fun a k=>bS h k 6 z (fun _ h k=>?_) fun _ h k=>?_
 · refine oE h fun At Al h=>gl 2 [bF m 0 Aa z] k z fun k=>cC k m call264 z (c_spec_l2Side fu _  Al) fun Aw e a k m=>pN 2 k z fun a k=>bS h k 11 z (fun _ h k=>?_) fun _ h k=>?_
   · refine oE h fun Ah As h=>gl 2 [bF m 0 Aa z] k z fun k=>cC k m call264 z (c_spec_l2Side fu _  As) fun Ay e a k m=>pN 2 k z fun a k=>bS h k 16 z (fun _ h k=>?_) fun _ h k=>?_
     · refine oE h fun Aq Ap h=>gl 2 [bF m 0 Aa z] k z fun k=>cC k m call264 z (c_spec_l2Side fu _  Ap) fun Au e a k m=>pN 2 k z fun a k=>bS h k 21 z (fun _ h k=>?_) fun _ h k=>?_
       · refine oE h fun Am Ao h=>gl 2 [bF m 0 Aa z] k z fun k=>cC k m call39 z (c_spec_l1In fu _ _ _  Ao) fun Av e a k m=>pN 2 k z fun a k=>bS h k 26 z (fun _ h k=>?_) fun _ h k=>?_
         · refine oE h fun Ak Ai h=>gl 2 [bF m 0 Aa z] k z fun k=>cC k m call39 z (c_spec_l1In fu _ _ _  Ai) fun Ax e a k m=>pN 2 k z fun a k=>bS h k 31 z (fun _ h k=>?_) fun _ h k=>?_
           · refine oE h fun Ba Aj h=>gl 2 [bF m 0 Aa z] k z fun k=>cC k m call39 z (c_spec_l1In fu _ _ _  Aj) fun Az e a k m=>ul 5 k z fun k=>fS h k m z z
           refine ul 8 k z fun k=>fS h k m z z
         refine ul 13 k z fun k=>fS h k m z z
       refine ul 18 k z fun k=>fS h k m z z
     refine ul 23 k z fun k=>fS h k m z z
   refine ul 28 k z fun k=>fS h k m z z
 refine ul 33 k z fun k=>fS h k m z z
theorem c_spec_ItemOk (fu) {w0} (x1) {r} (h:d_spec_ItemOk fu x1 = some r):cS 195 [.agg (Flat.e (x1)).toArray] w0 (.bool (r)):=by
 refine eg func195 z ntmps195 z fun k m=>uc 2 k z fun k=>s_box m k z z z z z z fun b2 w4 a k m e Aa=>oE h fun x5 Ar h=>gl 7 [bF m 0 Aa z] k z fun k=>cC k m call79 z (c_spec_l2Id fu _  Ar) fun w9 e a k m=>pN 1 k z fun a k=>bS h k 6 z (fun _ h k=>?_) fun _ h k=>?_
 · refine oE h fun At Al h=>gl 2 [bF m 0 Aa z] k z fun k=>cC k m call264 z (c_spec_l2Side fu _  Al) fun Aw e a k m=>pN 2 k z fun a k=>bS h k 11 z (fun _ h k=>?_) fun _ h k=>?_
   · refine oE h fun Ah As h=>gl 2 [bF m 0 Aa z] k z fun k=>cC k m call264 z (c_spec_l2Side fu _  As) fun Ay e a k m=>pN 2 k z fun a k=>bS h k 16 z (fun _ h k=>?_) fun _ h k=>?_
     · refine oE h fun Aq Ap h=>gl 2 [bF m 0 Aa z] k z fun k=>cC k m call264 z (c_spec_l2Side fu _  Ap) fun Au e a k m=>pN 2 k z fun a k=>bS h k 21 z (fun _ h k=>?_) fun _ h k=>?_
       · refine oE h fun Am Ao h=>gl 2 [bF m 0 Aa z] k z fun k=>cC k m call39 z (c_spec_l1In fu _ _ _  Ao) fun Av e a k m=>pN 2 k z fun a k=>bS h k 26 z (fun _ h k=>?_) fun _ h k=>?_
         · refine oE h fun Ak Ai h=>gl 2 [bF m 0 Aa z] k z fun k=>cC k m call39 z (c_spec_l1In fu _ _ _  Ai) fun Ax e a k m=>pN 2 k z fun a k=>bS h k 31 z (fun _ h k=>?_) fun _ h k=>?_
           · refine oE h fun Ba Aj h=>gl 2 [bF m 0 Aa z] k z fun k=>cC k m call39 z (c_spec_l1In fu _ _ _  Aj) fun Az e a k m=>ul 5 k z fun k=>fS h k m z z
           refine ul 8 k z fun k=>fS h k m z z
         refine ul 13 k z fun k=>fS h k m z z
       refine ul 18 k z fun k=>fS h k m z z
     refine ul 23 k z fun k=>fS h k m z z
   refine ul 28 k z fun k=>fS h k m z z
 refine ul 33 k z fun k=>fS h k m z z
theorem c_spec_BoundsOk (fu) {w0} (r1) {Au F3} (Bc:rd w0 F3 Au r1) {r} (h:d_spec_BoundsOk fu r1 = some r):cS 117 [.agg Au.toArray] w0 (.bool (r)):=by
 refine eg func117 z ntmps117 z fun k m=>?_;obtain ⟨v5,F6,v7,F8,v9,Co,rfl,rfl,Ac,Ah,Ad⟩:=Bc;refine uc 2 k z fun k=>s_box m k z z z z z z fun Ab Af a k m e Aa=>ul 3 k z fun k=>cg (fun a w=>K 111 [(1,pt Ab)] a ∧ St [] w0 w [([Ab],Af)] ∧ d_spec_BoundsOk_J2 fu r1 = some r) ?_ ?_
 · rintro a Bw ⟨k,m,h⟩;refine uc 7 k z fun k=>lG (fun n a w=>∃ Ae,K 111 [(1,pt Ab),(3,I Ae)] a ∧ St [] w0 w [([Ab],Af)] ∧ d_spec_BoundsOk_L3 fu r1 n Ae = some r) ?_ fu ?_
   · rintro Bl a Ca ⟨Ae,k,m,h⟩;refine gc 10 [bF m 0 Aa z,lF Ac] k z fun k=>cJ h k z (fun h=>?_) fun h=>?_
     · refine uc 2 k z fun k=>cg (fun a w=>K 111 [(1,pt Ab),(3,I Ae)] a ∧ St [] w0 w [([Ab],Af)] ∧ d_spec_BoundsOk_J1 fu (d_spec_BoundsOk_L3 fu r1 Bl) Ae = some r) ?_ ?_
       · rintro a Cl ⟨k,m,h⟩;refine uc 6 k z fun k=>?_;exact ⟨_,k.p z,m.sl [0] z,h⟩
       refine o2 h fun Cr At Bd Bg h=>gc 9 [bF m 0 Aa z,iF Ac At,eF (m.r Ac) At 0] k z fun k=>cC k m call39 z (c_spec_l1In fu _ _ _  Bg) fun Ci e a k m=>pN 2 k z fun a k=>bS h k 63 z (fun _ h k=>?_) fun _ h k=>?_
       · refine ul 23 k z fun k=>fS h k m z z
       refine o2 h fun Ce Cd Ck Bs h=>gl 6 [bF m 0 Aa z,iF Ac At,eF (m.r Ac) At 1] k z fun k=>cC k m call39 z (c_spec_l1In fu _ _ _  Bs) fun Cn e a k m=>ul 4 k z fun k=>cJ h k z (fun h=>?_) fun h=>?_
       · refine uc 11 k z fun k=>fS h k m z z
       refine uc 3 k z fun k=>?_;exact ⟨k.p z,m.sl [0] z,h⟩
     refine uc 12 k z fun k=>lG (fun n a w=>∃ Ap,K 111 [(1,pt Ab),(4,I Ap)] a ∧ St [] w0 w [([Ab],Af)] ∧ d_spec_BoundsOk_L2 fu r1 n Ap = some r) ?_ fu ?_
     · rintro Bz a Ct ⟨Ap,k,m,h⟩;refine gc 10 [bF m 0 Aa z,lF Ah] k z fun k=>cJ h k z (fun h=>?_) fun h=>?_
       · refine o2 h fun Bh Aw Cg Ba h=>gc 11 [bF m 0 Aa z,iF Ah Aw,eA (m.r Ah) Aw] k z fun k=>cC k m call194 z (c_spec_TypeOk fu (Bh:Typ)  Ba) fun Cu e a k m=>ul 3 k z fun k=>cJ h k z (fun h=>?_) fun h=>?_
         · refine uc 11 k z fun k=>fS h k m z z
         refine uc 9 k z fun k=>?_;exact ⟨_,k.p z,m.sl [0] z,h⟩
       refine uc 17 k z fun k=>lG (fun n a w=>∃ Ar As,K 111 [(1,pt Ab),(5,I Ar),(6,I As)] a ∧ St [] w0 w [([Ab],Af)] ∧ d_spec_BoundsOk_L1 fu r1 n Ar As = some r) ?_ fu ?_
       · rintro Cm a Cp ⟨Ar,As,k,m,h⟩;refine gc 10 [bF m 0 Aa z,lF Ad] k z fun k=>cJ h k z (fun h=>?_) fun h=>?_
         · refine o2 h fun Av Aq Cv Az h=>gc 12 [bF m 0 Aa z,iF Ad Aq,eA (m.r Ad) Aq] k z fun k=>cC k m call195 z (c_spec_ItemOk fu (Av:Item)  Az) fun Cq e a k m=>ul 3 k z fun k=>cJ h k z (fun h=>?_) fun h=>?_
           · refine uc 12 k z fun k=>fS h k m z z
           refine oE h fun Ch Cc h=>gc 21 [bF m 0 Aa z,iF Ad Aq,eF (m.r Ad) Aq 6] k z fun k=>?_;exact ⟨_,_,k.p z,m.sl [0] z,h⟩
         refine uc 13 k z fun k=>fS h k m z z
       exact ⟨_,_,k.p z,m.sl [0] z,h⟩
     exact ⟨_,k.p z,m.sl [0] z,h⟩
   exact ⟨_,k.p z,m.sl [0] z,h⟩
 refine oE h fun Bf Ay h=>gc 4 [bF m 0 Aa z] k z fun k=>cC k m call39 z (c_spec_l1In fu _ _ _  Ay) fun Cj e a k m=>pN 2 k z fun a k=>bS h k 11 z (fun _ h k=>?_) fun _ h k=>?_
 · refine ul 46 k z fun k=>fS h k m z z
 refine oE h fun Bb Bv h=>gl 2 [bA m 0 Aa z] k z fun k=>cC k m call193 z (c_spec_PalletOk fu (r1.fPallet:Pallet)  Bv) fun Cb e a k m=>pN 3 k z fun a k=>bS h k 17 z (fun _ h k=>?_) fun _ h k=>?_
 · refine ul 40 k z fun k=>fS h k m z z
 refine oE h fun Bk Br h=>gl 2 [bF m 0 Aa z] k z fun k=>cC k m call39 z (c_spec_l1In fu _ _ _  Br) fun Cs e a k m=>pN 3 k z fun a k=>bS h k 23 z (fun _ h k=>?_) fun _ h k=>?_
 · refine ul 34 k z fun k=>fS h k m z z
 refine gl 6 [bF m 0 Aa z,lF Ac] k z fun k=>bS h k 29 z (fun _ h k=>?_) fun _ h k=>?_
 · refine ul 28 k z fun k=>fS h k m z z
 refine oE h fun Bn Bo h=>gl 3 [bF m 0 Aa z,lF Ah] k z fun k=>cC k m call39 z (c_spec_l1In fu _ _ _  Bo) fun By e a k m=>pN 3 k z fun a k=>bS h k 36 z (fun _ h k=>?_) fun _ h k=>?_
 · refine ul 21 k z fun k=>fS h k m z z
 refine oE h fun Bj Bq h=>gl 2 [bF m 0 Aa z] k z fun k=>cC k m call79 z (c_spec_l2Id fu _  Bq) fun Bx e a k m=>pN 3 k z fun a k=>bS h k 42 z (fun _ h k=>?_) fun _ h k=>?_
 · refine ul 15 k z fun k=>fS h k m z z
 refine gl 7 [bF m 0 Aa z,lF Ad] k z fun k=>cJ h k z (fun h=>?_) fun h=>?_
 · refine uc 7 k z fun k=>fS h k m z z
 refine uc 2 k z fun k=>?_;exact ⟨k.p z,m.sl [0] z,h⟩
theorem c_spec_MasterOf (fu) {w0} (r1) {Ag F3} (Aj:rd w0 F3 Ag r1) {r} (h:d_spec_MasterOf fu r1 = some r):cS 120 [.agg Ag.toArray] w0 (.tuple #[.agg (Flat.e r.1).toArray,.bool (r.2)]):=by
 refine eg func120 z ntmps120 z fun k m=>?_;obtain ⟨v5,F6,v7,F8,v9,Aw,rfl,rfl,Ay,Ab,Az⟩:=Aj;refine uc 2 k z fun k=>s_box m k z z z z z z fun Af Ak a k m e Ac=>s_alloc m k zeroValue61 z z z z z fun Ai Ar a k m e Ah=>ul 10 k z fun k=>lG (fun n a w=>∃ Ad,K 27 [(1,pt Af),(2,pt Ai),(4,I Ad)] a ∧ St [] w0 w [([Af],Ak),([Ai],Ar)] ∧ d_spec_MasterOf_L1 fu r1 n Ad = some r) ?_ fu ?_
 · rintro As a Ba ⟨Ad,k,m,h⟩;refine gc 10 [bF m 0 Ac z,lF Ab] k z fun k=>cJ h k z (fun h=>?_) fun h=>?_
   · refine uc 5 k z fun k=>d_go [] mixo m z fun Ap hMd=>?_;have m:=hMd;have s:=Ext.refl ([]:List Nat) Ap;refine oE h fun Aa Ae h=>dr [2,0,1,3,4,5,6,7,8] 9 [bF hMd 0 Ac z,iF Ab Ae,eF (hMd.r Ab) Ae 0,bF hMd 0 Ac z] k z s fun k=>dD ((nm_then ?_));refine cJ h k z (fun h=>?_) fun h=>?_
     · refine oE h fun Ax At h=>gc 7 [bF m 0 Ac z,iF Ab Ae,eA (m.r Ab) Ae] k z fun k=>sT sizeOf61 m 1 Ah 0 k z z fun Av a k e m Al=>ul 9 k z fun k=>?_;cases h;exact finR2 k z (RV.cA k z ta61 (Al.at (m.a 1 z) 0 7 z z z) z) (RV.tmp k z) ⟨z,m.ext⟩
     refine uc 9 k z fun k=>?_;exact ⟨_,k.p z,m.sl [0,1] z,h⟩
   refine uc 7 k z fun k=>sv k z (r_build bt61 k (cs:=#[I 0,I 0,I 0,I 0,I 0,I 0,I 0]) (ps:=[]) z z (by kernel_rfl)) fun a k=>sT sizeOf61 m 1 Ah 0 k z z fun Au a k e m Aq=>ul 4 k z fun k=>?_;cases h;exact finR2 k z (RV.cA k z ta61 (Aq.at (m.a 1 z) 0 7 z z z) z) (RV.tmp k z) ⟨z,m.ext⟩
 exact ⟨_,k.p z,m.sl [1,0] z,h⟩
theorem c_spec_l5Names (fu) {w0} (r1) {As F3} (Ay:rd w0 F3 As r1) {r} (h:d_spec_l5Names fu r1 = some r):cS 118 [.agg As.toArray] w0 (.bool (r)):=by
 refine eg func118 z ntmps118 z fun k m=>?_;obtain ⟨v5,F6,v7,F8,v9,Cg,rfl,rfl,Ad,Ae,Ac⟩:=Ay;refine uc 2 k z fun k=>s_box m k z z z z z z fun Ab Ag a k m e Aa=>ul 10 k z fun k=>lG (fun n a w=>∃ Ah,K 102 [(1,pt Ab),(3,I Ah)] a ∧ St [] w0 w [([Ab],Ag)] ∧ d_spec_l5Names_L5 fu r1 n Ah = some r) ?_ fu ?_
 · rintro Aw a Bs ⟨Ah,k,m,h⟩;refine gc 10 [bF m 0 Aa z,lF Ae] k z fun k=>cJ h k z (fun h=>?_) fun h=>?_
   · refine uc 10 k z fun k=>lG (fun n a w=>∃ Ao,K 102 [(1,pt Ab),(3,I Ah),(4,I Ao)] a ∧ St [] w0 w [([Ab],Ag)] ∧ d_spec_l5Names_L1 fu (d_spec_l5Names_L5 fu r1 Aw) r1 Ah n Ao = some r) ?_ fu ?_
     · rintro Bu a Br ⟨Ao,k,m,h⟩;refine uc 8 k z fun k=>cJ h k z (fun h=>?_) fun h=>?_
       · refine uc 5 k z fun k=>d_go [] mixo m z fun Az hMd=>?_;have m:=hMd;have s:=Ext.refl ([]:List Nat) Az;refine o2 h fun Cj Ar Cb At h=>dr [2,8,0,1,3,4,5,6,7,9,10,11,12] 13 [bF hMd 0 Aa z,iF Ae Ar,eF (hMd.r Ae) Ar 0,bF hMd 0 Aa z,iF Ae At,eF (hMd.r Ae) At 0] k z s fun k=>dD ((nm_then ?_));refine cJ h k z (fun h=>?_) fun h=>?_
         · refine uc 15 k z fun k=>fS h k m z z
         refine uc 9 k z fun k=>?_;exact ⟨_,k.p z,m.sl [0] z,h⟩
       refine uc 12 k z fun k=>?_;exact ⟨_,k.p z,m.sl [0] z,h⟩
     exact ⟨_,k.p z,m.sl [0] z,h⟩
   refine uc 12 k z fun k=>lG (fun n a w=>∃ Ai,K 102 [(1,pt Ab),(5,I Ai)] a ∧ St [] w0 w [([Ab],Ag)] ∧ d_spec_l5Names_L4 fu r1 n Ai = some r) ?_ fu ?_
   · rintro Bi a Ch ⟨Ai,k,m,h⟩;refine gc 10 [bF m 0 Aa z,lF Ac] k z fun k=>cJ h k z (fun h=>?_) fun h=>?_
     · refine uc 6 k z fun k=>d_go [] mixo m z fun Bo hMd=>?_;have m:=hMd;have s:=Ext.refl ([]:List Nat) Bo;refine oE h fun Bw Ap h=>dr [2,0,1,3,4,5,6,7,8] 9 [bF hMd 0 Aa z,iF Ac Ap,eF (hMd.r Ac) Ap 5,bF hMd 0 Aa z] k z s fun k=>dD ((nm_then ?_));refine cJ h k z (fun h=>?_) fun h=>?_
       · refine uc 12 k z fun k=>fS h k m z z
       refine uc 8 k z fun k=>lG (fun n a w=>∃ Al,K 102 [(1,pt Ab),(5,I Ai),(6,I Al)] a ∧ St [] w0 w [([Ab],Ag)] ∧ d_spec_l5Names_L2 fu (d_spec_l5Names_L4 fu r1 Bi) r1 Ai n Al = some r) ?_ fu ?_
       · rintro Ca a Bv ⟨Al,k,m,h⟩;refine uc 8 k z fun k=>cJ h k z (fun h=>?_) fun h=>?_
         · refine uc 5 k z fun k=>d_go [] mixo m z fun Bd hMd=>?_;have m:=hMd;have s:=Ext.refl ([]:List Nat) Bd;refine o2 h fun Bx Au Bp Aq h=>dr [2,8,0,1,3,4,5,6,7,9,10,11,12] 13 [bF hMd 0 Aa z,iF Ac Au,eF (hMd.r Ac) Au 0,bF hMd 0 Aa z,iF Ac Aq,eF (hMd.r Ac) Aq 0] k z s fun k=>dD ((nm_then ?_));refine cJ h k z (fun h=>?_) fun h=>?_
           · refine uc 15 k z fun k=>fS h k m z z
           refine uc 9 k z fun k=>?_;exact ⟨_,k.p z,m.sl [0] z,h⟩
         refine uc 12 k z fun k=>?_;exact ⟨_,k.p z,m.sl [0] z,h⟩
       exact ⟨_,k.p z,m.sl [0] z,h⟩
     refine uc 12 k z fun k=>lG (fun n a w=>∃ Aj,K 102 [(1,pt Ab),(7,I Aj)] a ∧ St [] w0 w [([Ab],Ag)] ∧ d_spec_l5Names_L3 fu r1 n Aj = some r) ?_ fu ?_
     · rintro Bm a By ⟨Aj,k,m,h⟩;refine gc 10 [bF m 0 Aa z,lF Ad] k z fun k=>cJ h k z (fun h=>?_) fun h=>?_
       · refine uc 2 k z fun k=>cg (fun a w=>K 102 [(1,pt Ab),(7,I Aj)] a ∧ St [] w0 w [([Ab],Ag)] ∧ d_spec_l5Names_J1 fu (d_spec_l5Names_L3 fu r1 Bm) Aj = some r) ?_ ?_
         · rintro a Bt ⟨k,m,h⟩;refine uc 6 k z fun k=>?_;exact ⟨_,k.p z,m.sl [0] z,h⟩
         refine uc 2 k z fun k=>d_go [] mixo m z fun Bg hMd=>?_;have m:=hMd;have s:=Ext.refl ([]:List Nat) Bg;refine oE h fun Bb Am h=>dr [2,0,1,3,4,5,6,7,8,9] 10 [bF hMd 0 Aa z,iF Ad Am,eF (hMd.r Ad) Am 0,bF hMd 0 Aa z] k z s fun k=>bS h k 85 z (fun _ h k=>?_) fun _ h k=>?_
         · refine dM [10,11,12,13,14,15,16,17,18,19] 10 z k z s fun a k=>dD ?_;refine (nm_then ?_);refine uc 12 k z fun k=>fS h k m z z
         refine oE h fun Cc Bz h=>dr [12,10,11,13,14,15,16,17,18,19] 10 [bF hMd 0 Aa z,iF Ad Am,eF (hMd.r Ad) Am 1,bF hMd 0 Aa z] k z s fun k=>dD ?_;refine (nm_then ?_);refine cJ h k z (fun h=>?_) fun h=>?_
         · refine uc 11 k z fun k=>fS h k m z z
         refine uc 3 k z fun k=>?_;exact ⟨k.p z,m.sl [0] z,h⟩
       refine oE h fun Af Ba h=>gc 8 [bA m 0 Aa z] k z fun k=>cC k m call120 z (c_spec_MasterOf fu _ (mkRequest (m.r Ad) (m.r Ae) (m.r Ac)) Ba) fun Ce e a k m=>pN 3 k z fun a k=>s_alloc m k zeroValue61 z z z z z fun Ck Bq a k m e Bc=>sT sizeOf61 m 0 Bc 0 k z z fun Cd a k e m Ci=>ul 10 k z fun k=>fS h k m z z
     exact ⟨_,k.p z,m.sl [0] z,h⟩
   exact ⟨_,k.p z,m.sl [0] z,h⟩
 exact ⟨_,k.p z,m.sl [0] z,h⟩
theorem c_spec_Beside (fu) {w0} (Ae a5 b6) {v2 F3} (Aa:rd w0 F3 [v2] Ae) {r} (h:d_spec_Beside fu Ae a5 b6 = some r):cS 196 [v2,I a5,I b6] w0 (.bool (r)):=by
 refine eg func196 z ntmps196 z fun k m=>uc 12 k z fun k=>lG (fun n a w=>∃ Ab,K 30 [(0,v2),(1,I a5),(2,I b6),(7,I Ab)] a ∧ St [] w0 w [] ∧ d_spec_Beside_L1 fu Ae a5 b6 n Ab = some r) ?_ fu ?_
 · rintro Af a Ak ⟨Ab,k,m,h⟩;refine gc 9 [lF Aa] k z fun k=>cJ h k z (fun h=>?_) fun h=>?_
   · refine uc 2 k z fun k=>cg (fun a w=>K 30 [(0,v2),(1,I a5),(2,I b6),(7,I Ab)] a ∧ St [] w0 w [] ∧ d_spec_Beside_J1 fu (d_spec_Beside_L1 fu Ae a5 b6 Af) Ab = some r) ?_ ?_
     · rintro a Al ⟨k,m,h⟩;refine uc 6 k z fun k=>?_;exact ⟨_,k.p z,m.sl [] z,h⟩
     refine oE h fun Ah Ad h=>gc 11 [iF Aa Ad,eF (m.r Aa) Ad 0] k z fun k=>bS h k 21 z (fun _ h k=>?_) fun _ h k=>?_
     · refine oE h fun Aj Am h=>gl 10 [iF Aa Ad,eF (m.r Aa) Ad 1] k z fun k=>cJ h k z (fun h=>?_) fun h=>?_
       · refine uc 11 k z fun k=>fS h k m z z
       refine uc 3 k z fun k=>?_;exact ⟨k.p z,m.sl [] z,h⟩
     refine ul 14 k z fun k=>?_;exact ⟨k.p z,m.sl [] z,h⟩
   refine uc 11 k z fun k=>fS h k m z z
 exact ⟨_,k.p z,m.sl [] z,h⟩
theorem c_spec_TableOk (fu) {w0} (Ae Ab) {v2 F3} (Aa:rd w0 F3 [v2] Ae) {r} (h:d_spec_TableOk fu Ae Ab = some r):cS 119 [v2,I Ab] w0 (.bool (r)):=by
 refine eg func119 z ntmps119 z fun k m=>oE h fun x6 Ak h=>uc 9 k z fun k=>cC k m call39 z (c_spec_l1In fu _ _ _  Ak) fun w9 e a k m=>ul 3 k z fun k=>cJ h k z (fun h=>?_) fun h=>?_
 · refine uc 7 k z fun k=>fS h k m z z
 refine uc 9 k z fun k=>lG (fun n a w=>∃ Ac,K 41 [(0,v2),(1,I Ab),(5,I Ac)] a ∧ St [] w0 w [] ∧ d_spec_TableOk_L2 fu Ae Ab n Ac = some r) ?_ fu ?_
 · rintro Ah a Bg ⟨Ac,k,m,h⟩;refine uc 8 k z fun k=>cJ h k z (fun h=>?_) fun h=>?_
   · refine uc 10 k z fun k=>lG (fun n a w=>∃ Ad,K 41 [(0,v2),(1,I Ab),(5,I Ac),(6,I Ad)] a ∧ St [] w0 w [] ∧ d_spec_TableOk_L1 fu (d_spec_TableOk_L2 fu Ae Ab Ah) Ae Ab Ac n Ad = some r) ?_ fu ?_
     · rintro At a Aw ⟨Ad,k,m,h⟩;refine uc 8 k z fun k=>cJ h k z (fun h=>?_) fun h=>?_
       · refine uc 2 k z fun k=>cg (fun a w=>K 41 [(0,v2),(1,I Ab),(5,I Ac),(6,I Ad)] a ∧ St [] w0 w [] ∧ d_spec_TableOk_J1 fu (d_spec_TableOk_L1 fu (d_spec_TableOk_L2 fu Ae Ab Ah) Ae Ab Ac At) Ad = some r) ?_ ?_
         · rintro a Ay ⟨k,m,h⟩;refine uc 6 k z fun k=>?_;exact ⟨_,k.p z,m.sl [] z,h⟩
         refine uc 7 k z fun k=>bS h k 23 z (fun _ h k=>?_) fun _ h k=>?_
         · refine pN 3 k z fun a k=>oE h fun Ar Aq h=>cC k m call196 z (c_spec_Beside fu _ _ _ (m.r Aa) Aq) fun Bh e a k m=>pN 3 k z fun a k=>bS h k 30 z (fun _ h k=>?_) fun _ h k=>?_
           · refine ul 28 k z fun k=>fS h k m z z
           refine pN 3 k z fun a k=>oE h fun Bb Ap h=>cC k m call196 z (c_spec_Beside fu _ _ _ (m.r Aa) Ap) fun Ba e a k m=>pN 3 k z fun a k=>oE h fun Bc Ai h=>cC k m call196 z (c_spec_Beside fu _ _ _ (m.r Aa) Ai) fun Bf e a k m=>sv k z (r_neb k underlying4 z z z) fun a k=>ul 3 k z fun k=>cJ h k z (fun h=>?_) fun h=>?_
           · refine uc 15 k z fun k=>fS h k m z z
           refine uc 3 k z fun k=>?_;exact ⟨k.p z,m.sl [] z,h⟩
         refine pN 10 k z fun a k=>oE h fun Be As h=>cC k m call196 z (c_spec_Beside fu _ _ _ (m.r Aa) As) fun Ax e a k m=>pN 3 k z fun a k=>oE h fun Bd Aj h=>cC k m call196 z (c_spec_Beside fu _ _ _ (m.r Aa) Aj) fun Az e a k m=>sv k z (r_neb k underlying4 z z z) fun a k=>ul 3 k z fun k=>cJ h k z (fun h=>?_) fun h=>?_
         · refine uc 15 k z fun k=>fS h k m z z
         refine uc 3 k z fun k=>?_;exact ⟨k.p z,m.sl [] z,h⟩
       refine uc 12 k z fun k=>?_;exact ⟨_,k.p z,m.sl [] z,h⟩
     exact ⟨_,k.p z,m.sl [] z,h⟩
   refine uc 11 k z fun k=>fS h k m z z
 exact ⟨_,k.p z,m.sl [] z,h⟩
theorem c_spec_l1Places (fu) {w0} (n1) {r} (h:d_spec_l1Places fu n1 = some r):cL 202 [I n1] w0 r:=by
 refine eg func202 z ntmps202 z fun k m=>uc 7 k z fun k=>sB te35 m k z (by exact fN) fun g2 w3 e5 a k m e Am=>?_;have Aj:=ow_bx Am ([]:List Int) z z z;refine ul 10 k z fun k=>lG (fun n a w=>∃ Ae Ad Ab Ac Aa,K 16 [(0,I n1),(3,Ad),(4,I Aa)] a ∧ St [] w0 w [(Ab,Ac)] ∧ ow Ac Ab [Ad] Ae ∧ d_spec_l1Places_L1 fu n1 n Ae Aa = some r) ?_ fu ?_
 · rintro As a Aw ⟨Ae,Ad,Ab,Ac,Aa,k,m,Af,h⟩;refine uc 8 k z fun k=>cJ h k z (fun h=>?_) fun h=>?_
   · refine uc 7 k z fun k=>sB te35 m k z (by exact fC z fN) fun At Av Au a k m e Ah=>?_;have Al:=ow_bx Ah ([Aa]:List Int) z z z;refine oE h fun Ak Ai h=>s_appF Ai te35 z m 1 Af (News.rd (m.q Al 0 z)) z z k z z z z z z z fun Ao Ap Ag a k e m Ar=>ul 10 k z fun k=>?_;exact ⟨_,_,_,_,_,k.p z,m.sl [1] z,Ar,h⟩
   refine uc 12 k z fun k=>?_;cases h;exact finR1 k z (RV.tmp k z) ⟨_,Ab,z,m.ext,(m.v Af 0 z),(m.fresh 0 z)⟩
 exact ⟨_,_,_,_,_,k.p z,m.sl [0] z,Aj,h⟩
theorem c_spec_l1Merge_R (fu:Nat):∀ (nr:Nat) {w0:World} (Am:List Int) (Bd:List Int) (Ai:Bool) {v2:Value} {F3:List Nat} (Aa:rd w0 F3 [v2] Am) {v6:Value} {F7:List Nat} (Ak:rd w0 F7 [v6] Bd) {r:(List Int)} (h:d_spec_l1Merge_R fu nr Am Bd Ai = some r),Calls Tryz.prog 201 #[v2,v6,.bool (Ai)] w0 fun e w=>∃ (v0:Value) (G0:List Nat),e = .returned (v0) ∧ Ext [] w0 w ∧ ow w G0 [v0] r ∧ (∀ b ∈ G0,w0.heap.size ≤ b):=by
 intro nr
 induction nr with
 | zero =>
   intros
   rename_i h
   exact nS h
 | succ nr ih =>
 intro w0 Am Bd Ai v2 F3 Aa v6 F7 Ak r h;refine eg (vs:=[_,_,_]) func201 z ntmps201 z fun k m=>gc 13 [lF Ak] k z fun k=>cJ h k z (fun h=>?_) fun h=>?_
 · refine uc 2 k z fun k=>sB te35 m k z (by exact fN) fun Fu Hi Fl a k m e Dr=>?_;have Ch:=ow_bx Dr ([]:List Int) z z z;refine pN 1 k z fun a k=>oE h fun Hz Dj h=>s_appF Dj te35 z m 0 Ch (News.rd (m.r Ak)) z z k z z z z z z z fun Hb Cc Fv a k e m Fe=>ul 5 k z fun k=>?_;cases h;exact finR1 k z (RV.tmp k z) ⟨_,Cc,z,m.ext,(m.v Fe 0 z),(m.fresh 0 z)⟩
 refine oE h fun Hg Dl h=>gc 15 [lF Ak] k z fun k=>s_slTo Ak Dl k ts35 z z z z z z fun Hw a k Bg=>pN 1 k z fun a k=>oE h fun Ax Fh h=>sC k call201 z (ih _ _ _ (m.r Aa) (m.r Bg) Fh) fun Hx Bn hR=>?_;obtain ⟨Bm,Bb,rfl,e,Ab,Cz⟩:=hR;refine ⟨_,z,fun a k=>?_⟩;have m:=m.nw e Cz Ab;refine oE h fun Ga Do h=>ul 8 k z fun k=>s_slFrom Ak Do k ts35 z z z z z z fun Gm a k Bi=>pN 1 k z fun a k=>oE h fun Ba Ew h=>sC k call201 z (ih _ _ _ (m.r Aa) (m.r Bi) Ew) fun Ib Bk hR=>?_;obtain ⟨Bj,Bc,rfl,e,Ac,Fd⟩:=hR;refine ⟨_,z,fun a k=>?_⟩;have m:=m.nw e Fd Ac;refine ul 5 k z fun k=>sB te35 m k z (by exact fN) fun Bq Cj Fz a k m e Dt=>?_;have Da:=ow_bx Dt ([]:List Int) z z z;refine ul 15 k z fun k=>lG (fun n a w=>∃ Ay Az Av Aw Ad Af,K 132 [(0,v2),(2,.bool (Ai)),(8,Bm),(9,Bj),(10,Az),(11,I Ad),(12,I Af)] a ∧ St [] w0 w [(Bb,Bn),(Bc,Bk),(Av,Aw)] ∧ ow Aw Av [Az] Ay ∧ d_spec_l1Merge_L1 fu Am Ai Ax Ba n Ay Ad Af = some r) ?_ fu ?_
 · rintro Ds a Fs ⟨Ay,Az,Av,Aw,Ad,Af,k,m,Ah,h⟩;refine cg (fun a w=>K 132 [(0,v2),(2,.bool (Ai)),(8,Bm),(9,Bj),(10,Az),(11,I Ad),(12,I Af)] a ∧ St [] w0 w [(Bb,Bn),(Bc,Bk),(Av,Aw)] ∧ d_spec_l1Merge_J1 fu (d_spec_l1Merge_L1 fu Am Ai Ax Ba Ds) Am Ai Ax Ba Ay Ad Af = some r) ?_ ?_
   · rintro a Hl ⟨k,m,h⟩;refine gc 11 [lF (Enc.ow_rd Ac)] k z fun k=>cJ h k z (fun h=>?_) fun h=>?_
     · refine oE h fun Bh Bo h=>gc 7 [iF (Enc.ow_rd Ab) Bo,eF (m.q Ab 0 z) Bo 0] k z fun k=>sB te35 m k z (by exact fC z fN) fun Gq Ie Ia a k m e Du=>?_;have Dk:=ow_bx Du ([Bh]:List Int) z z z;refine oE h fun Eh Ca h=>s_appF Ca te35 z m 3 Ah (News.rd (m.q Dk 0 z)) z z k z z z z z z z fun Ct Et Fb a k e m Dg=>ul 11 k z fun k=>?_;exact ⟨_,_,_,_,_,_,k.p z,m.sl [1,2,3] z,Dg,h⟩
     refine gc 9 [lF (Enc.ow_rd Ab)] k z fun k=>cJ h k z (fun h=>?_) fun h=>?_
     · refine oE h fun Bp Bl h=>gc 7 [iF (Enc.ow_rd Ac) Bl,eF (m.q Ac 1 z) Bl 0] k z fun k=>sB te35 m k z (by exact fC z fN) fun Fq Hq Hc a k m e Fc=>?_;have Ed:=ow_bx Fc ([Bp]:List Int) z z z;refine oE h fun Cu Cq h=>s_appF Cq te35 z m 3 Ah (News.rd (m.q Ed 0 z)) z z k z z z z z z z fun Dy Cb Ez a k e m Bv=>ul 11 k z fun k=>?_;exact ⟨_,_,_,_,_,_,k.p z,m.sl [1,2,3] z,Bv,h⟩
     refine uc 1 k z fun k=>d_go [] mixo m z fun Em hMd=>?_;have m:=hMd;have s:=Ext.refl ([]:List Nat) Em;refine o2 h fun Al Ag Be Ap h=>o2 h fun Aj Ae Bf Ao h=>dr [0,1,2,7,8,9,3,4,5,6,10,11,12,13,14,15] 16 [iF (Enc.ow_rd Ac) Ag,eF (hMd.q Ac 1 z) Ag 0,iF Aa Ap,eF (hMd.r Aa) Ap 0,iF (Enc.ow_rd Ab) Ae,eF (hMd.q Ab 0 z) Ae 0,iF Aa Ao,eF (hMd.r Aa) Ao 0] k z s fun k=>bS h k 98 z (fun _ h k=>?_) fun _ h k=>?_
     · refine dM [16,17,18,19] 4 z k z s fun a k=>bS h k 102 z (fun _ h k=>?_) fun _ h k=>?_
       · refine dM [20,21,22,23,24,25,26,27,28,29,30,31,32,33,34,35,36,37,38,39] 20 z k z s fun a k=>dD ?_;refine (nm_then ?_);refine oE h fun Gk Gy h=>gc 8 [iF (Enc.ow_rd Ac) Ag,eF (m.q Ac 1 z) Ag 0] k z fun k=>sB te35 m k z (by exact fC z fN) fun Ic Gi Gn a k m e Dx=>?_;have Dp:=ow_bx Dx ([Al]:List Int) z z z;refine oE h fun Ee Cs h=>s_appF Cs te35 z m 3 Ah (News.rd (m.q Dp 0 z)) z z k z z z z z z z fun Ej Bw Bs a k e m Cv=>ul 11 k z fun k=>?_;exact ⟨_,_,_,_,_,_,k.p z,m.sl [1,2,3] z,Cv,h⟩
       refine o2 h fun Fk Hv Fw Gt h=>o2 h fun Gp Fj Gb Gx h=>dr [20,21,22,27,28,29,23,24,25,26,30,31,32,33,34,35] 16 [iF (Enc.ow_rd Ac) Ag,eF (hMd.q Ac 1 z) Ag 0,iF Aa Ap,eF (hMd.r Aa) Ap 0,iF (Enc.ow_rd Ab) Ae,eF (hMd.q Ab 0 z) Ae 0,iF Aa Ao,eF (hMd.r Aa) Ao 0] k z s fun k=>bS h k 118 z (fun _ h k=>?_) fun _ h k=>?_
       · refine dM [36,37,38,39] 4 z k z s fun a k=>dD ?_;refine (nm_then ?_);refine cJ h k z (fun h=>?_) fun h=>?_
         · refine oE h fun Gl Gv h=>gc 7 [iF (Enc.ow_rd Ac) Ag,eF (m.q Ac 1 z) Ag 0] k z fun k=>sB te35 m k z (by exact fC z fN) fun Hu Ft Hm a k m e Co=>?_;have Dw:=ow_bx Co ([Al]:List Int) z z z;refine oE h fun Ea Ex h=>s_appF Ex te35 z m 3 Ah (News.rd (m.q Dw 0 z)) z z k z z z z z z z fun Dz Di Cd a k e m Cx=>ul 11 k z fun k=>?_;exact ⟨_,_,_,_,_,_,k.p z,m.sl [1,2,3] z,Cx,h⟩
         refine oE h fun Hp Hr h=>gc 7 [iF (Enc.ow_rd Ab) Ae,eF (m.q Ab 0 z) Ae 0] k z fun k=>sB te35 m k z (by exact fC z fN) fun Gz Fn Fp a k m e Ce=>?_;have Bx:=ow_bx Ce ([Aj]:List Int) z z z;refine oE h fun Fg Bt h=>s_appF Bt te35 z m 3 Ah (News.rd (m.q Bx 0 z)) z z k z z z z z z z fun Ev Cy By a k e m Ec=>ul 11 k z fun k=>?_;exact ⟨_,_,_,_,_,_,k.p z,m.sl [1,2,3] z,Ec,h⟩
       refine dM [36,37,38,39] 4 z k z s fun a k=>dD ?_;refine (nm_then ?_);refine oE h fun Ge Ig h=>gc 8 [iF (Enc.ow_rd Ab) Ae,eF (m.q Ab 0 z) Ae 0] k z fun k=>sB te35 m k z (by exact fC z fN) fun Gf Ht Gd a k m e Eb=>?_;have Dd:=ow_bx Eb ([Aj]:List Int) z z z;refine oE h fun Dc Bu h=>s_appF Bu te35 z m 3 Ah (News.rd (m.q Dd 0 z)) z z k z z z z z z z fun Cw Eu Ep a k e m Cp=>ul 11 k z fun k=>?_;exact ⟨_,_,_,_,_,_,k.p z,m.sl [1,2,3] z,Cp,h⟩
     refine o2 h fun Hn Id Hj If h=>o2 h fun Gj Gg Gu Fm h=>dr [16,17,18,19,20,21,22,27,28,29,23,24,25,26,30,31,32,33,34,35] 20 [iF (Enc.ow_rd Ac) Ag,eF (hMd.q Ac 1 z) Ag 0,iF Aa Ap,eF (hMd.r Aa) Ap 0,iF (Enc.ow_rd Ab) Ae,eF (hMd.q Ab 0 z) Ae 0,iF Aa Ao,eF (hMd.r Aa) Ao 0] k z s fun k=>bS h k 118 z (fun _ h k=>?_) fun _ h k=>?_
     · refine dM [36,37,38,39] 4 z k z s fun a k=>dD ?_;refine (nm_then ?_);refine cJ h k z (fun h=>?_) fun h=>?_
       · refine oE h fun Ho Gc h=>gc 7 [iF (Enc.ow_rd Ac) Ag,eF (m.q Ac 1 z) Ag 0] k z fun k=>sB te35 m k z (by exact fC z fN) fun Gh Hy Hh a k m e Dq=>?_;have Es:=ow_bx Dq ([Al]:List Int) z z z;refine oE h fun Cm Er h=>s_appF Er te35 z m 3 Ah (News.rd (m.q Es 0 z)) z z k z z z z z z z fun Ef Br En a k e m Ck=>ul 11 k z fun k=>?_;exact ⟨_,_,_,_,_,_,k.p z,m.sl [1,2,3] z,Ck,h⟩
       refine oE h fun Fy Ii h=>gc 7 [iF (Enc.ow_rd Ab) Ae,eF (m.q Ab 0 z) Ae 0] k z fun k=>sB te35 m k z (by exact fC z fN) fun Ha Hf Ih a k m e Ei=>?_;have Cg:=ow_bx Ei ([Aj]:List Int) z z z;refine oE h fun Ek Dn h=>s_appF Dn te35 z m 3 Ah (News.rd (m.q Cg 0 z)) z z k z z z z z z z fun El De Df a k e m Fa=>ul 11 k z fun k=>?_;exact ⟨_,_,_,_,_,_,k.p z,m.sl [1,2,3] z,Fa,h⟩
     refine dM [36,37,38,39] 4 z k z s fun a k=>dD ?_;refine (nm_then ?_);refine oE h fun Gr Hd h=>gc 8 [iF (Enc.ow_rd Ab) Ae,eF (m.q Ab 0 z) Ae 0] k z fun k=>sB te35 m k z (by exact fC z fN) fun Hk Gw He a k m e Db=>?_;have Cr:=ow_bx Db ([Aj]:List Int) z z z;refine oE h fun Eo Ey h=>s_appF Ey te35 z m 3 Ah (News.rd (m.q Cr 0 z)) z z k z z z z z z z fun Dh Bz Dv a k e m Ci=>ul 11 k z fun k=>?_;exact ⟨_,_,_,_,_,_,k.p z,m.sl [1,2,3] z,Ci,h⟩
   refine gc 7 [lF (Enc.ow_rd Ab)] k z fun k=>bS h k 39 z (fun _ h k=>?_) fun _ h k=>?_
   · refine ul 10 k z fun k=>?_;exact ⟨k.p z,m.sl [0,1,2] z,h⟩
   refine gl 7 [lF (Enc.ow_rd Ac)] k z fun k=>cJ h k z (fun h=>?_) fun h=>?_
   · refine uc 2 k z fun k=>?_;exact ⟨k.p z,m.sl [0,1,2] z,h⟩
   refine uc 12 k z fun k=>?_;cases h;exact finR1 k z (RV.tmp k z) ⟨_,Av,z,m.ext,(m.v Ah 2 z),(m.fresh 2 z)⟩
 exact ⟨_,_,_,_,_,_,k.p z,m.sl [2,1,0] z,Da,h⟩
theorem c_spec_l1Merge (fu:Nat) {w0:World} (Ac:List Int) (Ab:List Int) (Aa:Bool) {v2:Value} {F3:List Nat} (Ad:rd w0 F3 [v2] Ac) {v6:Value} {F7:List Nat} (Ae:rd w0 F7 [v6] Ab) {r:(List Int)}
    (h:d_spec_l1Merge fu Ac Ab Aa = some r):Calls Tryz.prog 201 #[v2,v6,.bool (Aa)] w0 fun e w=>∃ (v0:Value) (G0:List Nat),e = .returned (v0) ∧ Ext [] w0 w ∧ ow w G0 [v0] r ∧ (∀ b ∈ G0,w0.heap.size ≤ b) :=
  c_spec_l1Merge_R fu fu Ac Ab Aa Ad Ae h

theorem c_spec_SortUp (fu) {w0} (Ae) {v2 F3} (Aa:rd w0 F3 [v2] Ae) {r} (h:d_spec_SortUp fu Ae = some r):cL 125 [v2] w0 r:=by
 refine eg func125 z ntmps125 z fun k m=>oE h fun x5 Af h=>gc 10 [lF Aa] k z fun k=>sL k m call202 z (c_spec_l1Places fu _  Af) fun w9 Ao Ai Ab k m=>oE h fun Al Ag h=>sC k call201 z (c_spec_l1Merge fu _ _ _ (m.r Aa) (m.q Ab 0 z) Ag) fun Ap Am hR=>?_;obtain ⟨Ak,Ad,rfl,e,Ac,Ah⟩:=hR;refine ⟨_,z,fun a k=>?_⟩;have m:=m.nw e Ah Ac;refine ul 4 k z fun k=>?_;cases h;exact finR1 k z (RV.tmp k z) ⟨_,Ad,z,m.ext,(m.v Ac 0 z),(m.fresh 0 z)⟩
theorem c_spec_l5Sides (fu) {w0} (Ac h2 d3) {r} (h:d_spec_l5Sides fu Ac h2 d3 = some r):cL 197 [I Ac,I h2,I d3] w0 r:=by
 refine eg func197 z ntmps197 z fun k m=>uc 10 k z fun k=>sB te35 m k z (by exact fC z (fC z (fC z fN))) fun g4 w5 e7 a k m e Ar=>?_;have Ab:=ow_bx Ar ([Ac,h2,d3]:List Int) z z z;refine oE h fun x9 Ao h=>ul 6 k z fun k=>sL k m call125 z (c_spec_SortUp fu _ (m.q Ab 0 z) Ao) fun Aw Ax Aq Aa k m=>ul 4 k z fun k=>d_go [] mixo m z fun At hMd=>?_;have m:=hMd;have s:=Ext.refl ([]:List Nat) At;refine o2 h fun Bc Ae Aj Ai h=>o2 h fun Ay Ad Ag Ak h=>o2 h fun Be Al Af Ah h=>dr [0,1,6,7,12,13,2,3,4,5,8,9,10,11,14,15,16,17] 18 [iF (Enc.ow_rd Aa) Ae,eF (hMd.q Aa 0 z) Ae 0,iF (Enc.ow_rd Ab) Ai,eF (hMd.q Ab 1 z) Ai 0,iF (Enc.ow_rd Aa) Ad,eF (hMd.q Aa 0 z) Ad 0,iF (Enc.ow_rd Ab) Ak,eF (hMd.q Ab 1 z) Ak 0,iF (Enc.ow_rd Aa) Al,eF (hMd.q Aa 0 z) Al 0,iF (Enc.ow_rd Ab) Ah,eF (hMd.q Ab 1 z) Ah 0] k z s fun k=>dG 18 z (s_bsN te35 m k z z z z z z z (by decide) z (by exact fC z (fC z (fC z fN))) fun Am Ba Bb a k m e Ap As=>?_);have Az:=lo1 (Nat.le_trans s.size As);have Av:=ow_bx Ap ([Aj,Ag,Af]:List Int) z z z;refine ns s e fun s=>dM [19] 1 z k z s fun a k=>dD ?_;refine (nm_then ?_);refine wp_ret ?_;cases h;exact finR1 k z (RV.tmp k z) ⟨_,[Am],z,m.ext,(m.v Av 0 z),(m.fresh 0 z)⟩
theorem c_spec_Fits (fu) {w0} (x1 t2) {r} (h:d_spec_Fits fu x1 t2 = some r):cS 121 [.agg (Flat.e (x1)).toArray,.agg (Flat.e (t2)).toArray] w0 (.bool (r)):=by
 refine eg func121 z ntmps121 z fun k m=>uc 2 k z fun k=>s_box m k z z z z z z fun b3 w5 a k m e Ag=>s_box m k z z z z z z fun b6 w9 a k m e Af=>oE h fun Bc As h=>gl 11 [bF m 1 Ag z,bF m 1 Ag z,bF m 1 Ag z] k z fun k=>sL k m call197 z (c_spec_l5Sides fu _ _ _  As) fun Bb Bg Ax Aa k m=>oE h fun Be Aq h=>gl 11 [bF m 1 Af z,bF m 1 Af z,bF m 1 Af z] k z fun k=>sL k m call197 z (c_spec_l5Sides fu _ _ _  Aq) fun Bh Bd Av Ab k m=>ul 4 k z fun k=>d_go [] mixo m z fun Ar hMd=>?_;have m:=hMd;have s:=Ext.refl ([]:List Nat) Ar;refine o2 h fun Aw Ak At Ah h=>dr [0,3,1,2,4,5,6,7] 8 [iF (Enc.ow_rd Aa) Ak,eF (hMd.q Aa 1 z) Ak 0,iF (Enc.ow_rd Ab) Ah,eF (hMd.q Ab 0 z) Ah 0] k z s fun k=>bS h k 28 z (fun _ h k=>?_) fun _ h k=>?_
 · refine o2 h fun Ap Al Ba Ai h=>dr [8,11,9,10,12,13,14,15,16] 9 [iF (Enc.ow_rd Aa) Al,eF (hMd.q Aa 1 z) Al 0,iF (Enc.ow_rd Ab) Ai,eF (hMd.q Ab 0 z) Ai 0] k z s fun k=>bS h k 37 z (fun _ h k=>?_) fun _ h k=>?_
   · refine o2 h fun Au Am Ao Aj h=>dr [17,20,18,19,21,22,23,24,25] 9 [iF (Enc.ow_rd Aa) Am,eF (hMd.q Aa 1 z) Am 0,iF (Enc.ow_rd Ab) Aj,eF (hMd.q Ab 0 z) Aj 0] k z s fun k=>bS h k 46 z (fun _ h k=>?_) fun _ h k=>?_
     · refine dr [26,27,28,29,30,31,32] 7 [bF hMd 3 Ag z,bF hMd 2 Af z] k z s fun k=>dD ?_;refine (nm_then ?_);refine wp_ret (fS h k m z z)
     refine dM [26,27,28,29,30,31,32] 7 z k z s fun a k=>dD ?_;refine (nm_then ?_);refine wp_ret (fS h k m z z)
   refine dM [17,18,19,20,21,22,23,24,25,26,27,28,29,30,31,32] 16 z k z s fun a k=>dD ?_;refine (nm_then ?_);refine wp_ret (fS h k m z z)
 refine dM [8,9,10,11,12,13,14,15,16,17,18,19,20,21,22,23,24,25,26,27,28,29,30,31,32] 25 z k z s fun a k=>dD ?_;refine (nm_then ?_);refine wp_ret (fS h k m z z)
theorem c_spec_Class (fu) {w0} (r1) {Ar F3} (Au:rd w0 F3 Ar r1) {r} (h:d_spec_Class fu r1 = some r):cS 62 [.agg Ar.toArray] w0 (I r):=by
 refine eg func62 z ntmps62 z fun k m=>?_;obtain ⟨v5,F6,v7,F8,v9,Cb,rfl,rfl,Af,Ad,Ac⟩:=Au;refine uc 2 k z fun k=>s_box m k z z z z z z fun Ag Ao a k m e Aa=>oE h fun Bp Bf h=>gl 7 [bA m 0 Aa z] k z fun k=>cC k m call117 z (c_spec_BoundsOk fu _ (mkRequest (m.r Af) (m.r Ad) (m.r Ac)) Bf) fun Bw e a k m=>ul 3 k z fun k=>cJ h k z (fun h=>?_) fun h=>?_
 · refine uc 7 k z fun k=>fS h k m z z
 refine oE h fun Bn At h=>gc 6 [bA m 0 Aa z] k z fun k=>cC k m call118 z (c_spec_l5Names fu _ (mkRequest (m.r Af) (m.r Ad) (m.r Ac)) At) fun Cd e a k m=>ul 3 k z fun k=>cJ h k z (fun h=>?_) fun h=>?_
 · refine uc 7 k z fun k=>fS h k m z z
 refine oE h fun Bx Bl h=>gc 9 [bF m 0 Aa z,bF m 0 Aa z] k z fun k=>cC k m call119 z (c_spec_TableOk fu _ _ (m.r Af) Bl) fun Br e a k m=>ul 3 k z fun k=>cJ h k z (fun h=>?_) fun h=>?_
 · refine uc 7 k z fun k=>fS h k m z z
 refine oE h fun Ae Bb h=>gc 5 [bA m 0 Aa z] k z fun k=>cC k m call120 z (c_spec_MasterOf fu _ (mkRequest (m.r Af) (m.r Ad) (m.r Ac)) Bb) fun By e a k m=>pN 3 k z fun a k=>s_alloc m k zeroValue61 z z z z z fun Ap Bz a k m e Bi=>sT sizeOf61 m 0 Bi 0 k z z fun Bj a k e m Ba=>ul 10 k z fun k=>lG (fun n a w=>∃ Am,K 85 [(1,pt Ag),(3,pt Ap),(5,I Am)] a ∧ St [] w0 w [([Ag],Ao),([Ap],Bj)] ∧ d_spec_Class_L2 fu r1 Ae n Am = some r) ?_ fu ?_
 · rintro Ce a Cc ⟨Am,k,m,h⟩;refine gc 10 [bF m 0 Aa z,lF Ac] k z fun k=>cJ h k z (fun h=>?_) fun h=>?_
   · refine uc 5 k z fun k=>d_go [] mixo m z fun Bc hMd=>?_;have m:=hMd;have s:=Ext.refl ([]:List Nat) Bc;refine oE h fun Bk As h=>dr [2,0,1,3,4,5] 6 [bF hMd 0 Aa z,iF Ac As,eA (hMd.r Ac) As,bA hMd 1 Ba z] k z s fun k=>dG 6 z (oE h fun Bq Aw h=>?_);refine cC k m call121 z (c_spec_Fits fu (Bk:Item) (Ae.1:Typ)  Aw) fun Bu e a k m=>ns s e fun s=>dM [7] 1 z k z s fun a k=>dD ((nm_then ?_));refine cJ h k z (fun h=>?_) fun h=>?_
     · refine uc 11 k z fun k=>fS h k m z z
     refine uc 9 k z fun k=>?_;exact ⟨_,k.p z,m.sl [0,1] z,h⟩
   refine uc 12 k z fun k=>lG (fun n a w=>∃ Ah,K 85 [(1,pt Ag),(6,I Ah)] a ∧ St [] w0 w [([Ag],Ao)] ∧ d_spec_Class_L1 fu r1 n Ah = some r) ?_ fu ?_
   · rintro Bd a Bs ⟨Ah,k,m,h⟩;refine gc 10 [bF m 0 Aa z,lF Ad] k z fun k=>cJ h k z (fun h=>?_) fun h=>?_
     · refine uc 2 k z fun k=>cg (fun a w=>K 85 [(1,pt Ag),(6,I Ah)] a ∧ St [] w0 w [([Ag],Ao)] ∧ d_spec_Class_J1 fu (d_spec_Class_L1 fu r1 Bd) Ah = some r) ?_ ?_
       · rintro a Bt ⟨k,m,h⟩;refine uc 6 k z fun k=>?_;exact ⟨_,k.p z,m.sl [0] z,h⟩
       refine oE h fun Ab Aq h=>gc 8 [bF m 0 Aa z,iF Ad Aq,eA (m.r Ad) Aq] k z fun k=>s_alloc m k zeroValue61 z z z z z fun Ca Bo a k m e Ax=>sT sizeOf61 m 0 Ax 0 k z z fun Bv a k e m Aj=>gl 11 [bF m 0 Aj z,bF m 1 Aa z] k z fun k=>bS h k 58 z (fun _ h k=>?_) fun _ h k=>?_
       · refine ul 40 k z fun k=>fS h k m z z
       refine gl 8 [bF m 0 Aj z,bF m 1 Aa z] k z fun k=>bS h k 66 z (fun _ h k=>?_) fun _ h k=>?_
       · refine ul 32 k z fun k=>fS h k m z z
       refine gl 8 [bF m 0 Aj z,bF m 1 Aa z] k z fun k=>bS h k 74 z (fun _ h k=>?_) fun _ h k=>?_
       · refine ul 24 k z fun k=>fS h k m z z
       refine gl 12 [bF m 0 Aj z,bF m 0 Aj z,bF m 1 Aa z] k z fun k=>cJ h k z (fun h=>?_) fun h=>?_
       · refine uc 11 k z fun k=>fS h k m z z
       refine uc 3 k z fun k=>?_;exact ⟨k.p z,m.sl [1] z,h⟩
     refine uc 11 k z fun k=>fS h k m z z
   exact ⟨_,k.p z,m.sl [0] z,h⟩
 exact ⟨_,k.p z,m.sl [1,0] z,h⟩

end Go.Proofs.YthkaklkinepfkaaGreatDoor
