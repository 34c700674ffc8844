/- FnExactPack: the walks of functions that it reaches (ExactPackBWs,part 1). Printed by gen.py. -/
import Derived.Test.YthkaklkinepfkaaGreatDoorExactPackBT
set_option maxRecDepth 20000
set_option linter.unusedSimpArgs false
set_option linter.unusedVariables false
set_option linter.unnecessarySimpa false
namespace Go.Proofs.YthkaklkinepfkaaGreatDoor
open Go Go.RowKit
open Enc (rd ow)
open Arg (argv)
open Ret (retv)
open Go.Proofs.Tryz


theorem c_spec_Parts (fu) {w0} (Ab Ac) {r} (h:d_spec_Parts fu Ab Ac = some r):cL 43 [.string (Ab),.int .u8 (Ac)] w0 r:=by
 refine eg func43 z ntmps43 z fun k m=>uc 7 k z fun k=>sB te68 m k z (by exact fN) fun g3 w4 e6 a k m e Bb=>?_;have Bn:=ow_bx Bb ([]:List ByteArray) z z z;refine ul 15 k z fun k=>lG (fun n a w=>∃ Ak Ap Ad Al Aj Aa,K 36 [(0,.string (Ab)),(1,.int .u8 (Ac)),(5,Ap),(6,I Aj),(7,I Aa)] a ∧ St [] w0 w [(Ad,Al)] ∧ ow Al Ad [Ap] Ak ∧ d_spec_Parts_L1 fu Ab Ac n Ak Aj Aa = some r) ?_ fu ?_
 · rintro Az a Bv ⟨Ak,Ap,Ad,Al,Aj,Aa,k,m,Ai,h⟩;refine uc 5 k z fun k=>sv k z (r_lenS k underlying9 z z) fun a k=>ul 3 k z fun k=>cJ h k z (fun h=>?_) fun h=>?_
   · refine uc 2 k z fun k=>cg (fun a w=>∃ Am Ag Ah Ao Af,K 36 [(0,.string (Ab)),(1,.int .u8 (Ac)),(5,Ag),(6,I Af),(7,I Aa)] a ∧ St [] w0 w [(Ah,Ao)] ∧ ow Ao Ah [Ag] Am ∧ d_spec_Parts_J1 fu (d_spec_Parts_L1 fu Ab Ac Az) Aa Am Af = some r) ?_ ?_
     · rintro a Br ⟨Am,Ag,Ah,Ao,Af,k,m,As,h⟩;refine uc 6 k z fun k=>?_;exact ⟨_,_,_,_,_,_,k.p z,m.sl [0] z,As,h⟩
     refine uc 5 k z fun k=>sv k z (r_lenS k underlying9 z z) fun a k=>pN 2 k z fun a k=>bS h k 19 z (fun _ h k=>?_) fun _ h k=>?_
     · refine oE h fun Ar At h=>ul 15 k z fun k=>sv k z (r_sls At k underlying9 z z z z) fun a k=>sB te68 m k z (by exact fC z fN) fun Bz Bu Bt a k m e Be=>?_;have Au:=ow_bx Be ([Ar]:List ByteArray) z z z;refine oE h fun Bm Ba h=>s_appF Ba te68 z m 1 Ai (News.rd (m.q Au 0 z)) z z k z z z z z z z fun Aw Bk Bl a k e m Bc=>ul 10 k z fun k=>?_;exact ⟨_,_,_,_,_,k.p z,m.sl [1] z,Bc,h⟩
     refine pN 2 k z fun a k=>oE h fun Bs Ay h=>sv k z (r_ixs Ay k underlying9 z z z) fun a k=>ul 5 k z fun k=>cJ h k z (fun h=>?_) fun h=>?_
     · refine oE h fun Aq Bo h=>uc 6 k z fun k=>sv k z (r_sls Bo k underlying9 z z z z) fun a k=>sB te68 m k z (by exact fC z fN) fun Bx Bw By a k m e Bp=>?_;have Ax:=ow_bx Bp ([Aq]:List ByteArray) z z z;refine oE h fun Bh Bj h=>s_appF Bj te68 z m 1 Ai (News.rd (m.q Ax 0 z)) z z k z z z z z z z fun Bi Bq Bg a k e m Bf=>ul 10 k z fun k=>?_;exact ⟨_,_,_,_,_,k.p z,m.sl [1] z,Bf,h⟩
     refine uc 3 k z fun k=>?_;exact ⟨_,_,_,_,_,k.p z,m.sl [0] z,Ai,h⟩
   refine uc 12 k z fun k=>?_;cases h;exact finR1 k z (RV.tmp k z) ⟨_,Ad,z,m.ext,(m.v Ai 0 z),(m.fresh 0 z)⟩
 exact ⟨_,_,_,_,_,_,k.p z,m.sl [0] z,Bn,h⟩
theorem c_spec_Digits (fu) {w0} (n1) {r} (h:d_spec_Digits fu n1 = some r):cS 78 [I n1] w0 (.string (r)):=by
 refine eg func78 z ntmps78 z fun k m=>uc 12 k z fun k=>cJ h k z (fun h=>?_) fun h=>?_
 · refine uc 7 k z fun k=>fS h k m z z
 refine uc 16 k z fun k=>lG (fun n a w=>∃ Aa Ac,K 31 [(0,I Aa),(3,.bool (decide (n1 < 0))),(4,.string (Ac))] a ∧ St [] w0 w [] ∧ d_spec_Digits_L1 fu n1 n Aa Ac = some r) ?_ fu ?_
 · rintro Af a Ar ⟨Aa,Ac,k,m,h⟩;refine uc 7 k z fun k=>cJ h k z (fun h=>?_) fun h=>?_
   · refine uc 10 k z fun k=>cg (fun a w=>∃ Ab,K 31 [(0,I Aa),(3,.bool (decide (n1 < 0))),(4,.string (Ac)),(5,I Ab)] a ∧ St [] w0 w [] ∧ d_spec_Digits_J1 fu (d_spec_Digits_L1 fu n1 Af) Aa Ac Ab = some r) ?_ ?_
     · rintro a As ⟨Ab,k,m,h⟩;refine uc 4 k z fun k=>sv k z (r_cv k underlying3 underlying5 z z) fun a k=>s_bs (cs:=[.int .u8 (w8 (w64 (48 + Ab)))]) (ps:=[(0,.tmp 20)]) te22 m k z z z z z z z (by decide) z (by exact fC z fN) fun Av Au Ap a k m e Ak=>?_;have Ai:=ow_bx Ak ([(⟨w8 (w64 (48 + Ab))⟩:U8)]:List U8) z z z;refine oE h fun Aq Al h=>sv k z (r_bstr Al (m.q Ai 0 z) k underlying22 underlying5 underlying9 z z) fun a k=>pN 1 k z fun a k=>oE h fun Ag Ao h=>sv k z (r_cat Ao k z z z) fun a k=>ul 10 k z fun k=>?_;exact ⟨_,_,k.p z,m.sl [] z,h⟩
     refine uc 6 k z fun k=>cJ h k z (fun h=>?_) fun h=>?_
     · refine uc 6 k z fun k=>?_;exact ⟨_,k.p z,m.sl [] z,h⟩
     refine uc 2 k z fun k=>?_;exact ⟨_,k.p z,m.sl [] z,h⟩
   refine uc 11 k z fun k=>cJ h k z (fun h=>?_) fun h=>?_
   · refine oE h fun At Ah h=>uc 3 k z fun k=>sv k z (r_cat Ah k z z z) fun a k=>ul 5 k z fun k=>fS h k m z z
   refine uc 9 k z fun k=>fS h k m z z
 exact ⟨_,_,k.p z,m.sl [] z,h⟩
theorem c_spec_Number (fu) {w0} (Aa) {r} (h:d_spec_Number fu Aa = some r):cS 46 [.string (Aa)] w0 (.tuple #[I r.1,.bool (r.2)]):=by
 refine eg func46 z ntmps46 z fun k m=>uc 6 k z fun k=>cg (fun a w=>K 43 [(0,.string (Aa))] a ∧ St [] w0 w [] ∧ d_spec_Number_J3 fu Aa = some r) ?_ ?_
 · rintro a w4 ⟨k,m,h⟩;refine uc 12 k z fun k=>lG (fun n a w=>∃ Ac Ab,K 43 [(0,.string (Aa)),(4,I Ac),(5,I Ab)] a ∧ St [] w0 w [] ∧ d_spec_Number_L1 fu Aa n Ac Ab = some r) ?_ fu ?_
   · rintro Ag a Av ⟨Ac,Ab,k,m,h⟩;refine uc 5 k z fun k=>sv k z (r_lenS k underlying9 z z) fun a k=>ul 3 k z fun k=>cJ h k z (fun h=>?_) fun h=>?_
     · refine uc 2 k z fun k=>cg (fun a w=>∃ Af,K 43 [(0,.string (Aa)),(4,I Af),(5,I Ab)] a ∧ St [] w0 w [] ∧ d_spec_Number_J1 fu (d_spec_Number_L1 fu Aa Ag) Ab Af = some r) ?_ ?_
       · rintro a Ax ⟨Af,k,m,h⟩;refine uc 6 k z fun k=>?_;exact ⟨_,_,k.p z,m.sl [] z,h⟩
       refine uc 1 k z fun k=>cg (fun a w=>K 43 [(0,.string (Aa)),(4,I Ac),(5,I Ab)] a ∧ St [] w0 w [] ∧ d_spec_Number_J2 fu (d_spec_Number_L1 fu Aa Ag) Aa Ac Ab = some r) ?_ ?_
       · rintro a Au ⟨k,m,h⟩;refine oE h fun Ak Ah h=>uc 5 k z fun k=>sv k z (r_ixs Ah k underlying9 z z z) fun a k=>sv k z (r_cv k underlying5 underlying3 z z) fun a k=>ul 6 k z fun k=>?_;exact ⟨_,k.p z,m.sl [] z,h⟩
       refine oE h fun Al Aj h=>uc 4 k z fun k=>sv k z (r_ixs Aj k underlying9 z z z) fun a k=>pN 2 k z fun a k=>bS h k 24 z (fun _ h k=>?_) fun _ h k=>?_
       · refine ul 21 k z fun k=>?_;cases h;exact finR2 k z (RV.tmp k z) (RV.tmp k z) ⟨z,m.ext⟩
       refine pN 2 k z fun a k=>oE h fun Aw Ap h=>sv k z (r_ixs Ap k underlying9 z z z) fun a k=>ul 4 k z fun k=>cJ h k z (fun h=>?_) fun h=>?_
       · refine uc 13 k z fun k=>?_;cases h;exact finR2 k z (RV.tmp k z) (RV.tmp k z) ⟨z,m.ext⟩
       refine uc 2 k z fun k=>?_;exact ⟨k.p z,m.sl [] z,h⟩
     refine oE h fun At Aq h=>uc 9 k z fun k=>cC k m call78 z (c_spec_Digits fu _  Aq) fun As e a k m=>ul 4 k z fun k=>cJ h k z (fun h=>?_) fun h=>?_
     · refine uc 8 k z fun k=>?_;cases h;exact finR2 k z (RV.tmp k z) (RV.tmp k z) ⟨z,m.ext⟩
     refine uc 10 k z fun k=>?_;cases h;exact finR2 k z (RV.tmp k z) (RV.tmp k z) ⟨z,m.ext⟩
   exact ⟨_,_,k.p z,m.sl [] z,h⟩
 refine uc 3 k z fun k=>sv k z (r_lenS k underlying9 z z) fun a k=>pN 2 k z fun a k=>bS h k 9 z (fun _ h k=>?_) fun _ h k=>?_
 · refine ul 15 k z fun k=>?_;cases h;exact finR2 k z (RV.tmp k z) (RV.tmp k z) ⟨z,m.ext⟩
 refine pN 1 k z fun a k=>sv k z (r_lenS k underlying9 z z) fun a k=>ul 4 k z fun k=>cJ h k z (fun h=>?_) fun h=>?_
 · refine uc 8 k z fun k=>?_;cases h;exact finR2 k z (RV.tmp k z) (RV.tmp k z) ⟨z,m.ext⟩
 refine uc 2 k z fun k=>?_;exact ⟨k.p z,m.sl [] z,h⟩
theorem c_spec_l4Nums (fu) {w0} (As Ah Ao) {r} (h:d_spec_l4Nums fu As Ah Ao = some r):Calls Tryz.prog 143 #[.string (As),.string (Ah),I Ao] w0 fun e w=>∃ (v0:Value) (G0:List Nat),e = .returned (.tuple #[v0,.bool (r.2)]) ∧ Ext [] w0 w ∧ ow w G0 [v0] r.1 ∧ (∀ b ∈ G0,w0.heap.size ≤ b):=by
 refine eg (vs:=[_,_,_]) func143 z ntmps143 z fun k m=>oE h fun x4 Bj h=>uc 9 k z fun k=>sL k m call43 z (c_spec_Parts fu _ _  Bj) fun w7 Al F8 Aa k m=>ul 5 k z fun k=>sB te35 m k z (by exact fN) fun Ab Am Bn a k m e Bd=>?_;have Ai:=ow_bx Bd ([]:List Int) z z z;refine ul 3 k z fun k=>cg (fun a w=>K 51 [(8,Al),(9,(.slice (some ⟨Ab,0,none⟩) 0 0))] a ∧ St [] w0 w [(F8,w7),([Ab],Am)] ∧ d_spec_l4Nums_J1 fu x4 = some r) ?_ ?_
 · rintro a Bm ⟨k,m,h⟩;refine uc 7 k z fun k=>lG (fun n a w=>∃ Af Aj Ad Ag Ae,K 51 [(8,Al),(9,Aj),(10,I Ae)] a ∧ St [] w0 w [(F8,w7),(Ad,Ag)] ∧ ow Ag Ad [Aj] Af ∧ d_spec_l4Nums_L1 fu x4 n Af Ae = some r) ?_ fu ?_
   · rintro Bq a Bs ⟨Af,Aj,Ad,Ag,Ae,k,m,Aq,h⟩;refine gc 9 [lF (Enc.ow_rd Aa)] k z fun k=>cJ h k z (fun h=>?_) fun h=>?_
     · refine o2 h fun Bw Ak Ap Ba h=>gc 10 [iF (Enc.ow_rd Aa) Ak,eF (m.q Aa 0 z) Ak 0] k z fun k=>cC k m call46 z (c_spec_Number fu _  Ba) fun Bu e a k m=>ul 14 k z fun k=>cJ h k z (fun h=>?_) fun h=>?_
       · refine uc 2 k z fun k=>sB te35 m k z (by exact fN) fun Bl Bt Bo a k m e Ay=>?_;have Bc:=ow_bx Ay ([]:List Int) z z z;refine ul 11 k z fun k=>?_;cases h;exact finR2 k z (RV.tmp k z) (RV.tmp k z) ⟨_,[Bl],z,m.ext,(m.v Bc 0 z),(m.fresh 0 z)⟩
       refine uc 5 k z fun k=>sB te35 m k z (by exact fC z fN) fun Bv Br Bp a k m e Bh=>?_;have Be:=ow_bx Bh ([Ap.1]:List Int) z z z;refine oE h fun Ax Aw h=>s_appF Aw te35 z m 2 Aq (News.rd (m.q Be 0 z)) z z k z z z z z z z fun Az Bi Au a k e m Bk=>ul 10 k z fun k=>?_;exact ⟨_,_,_,_,_,k.p z,m.sl [1,2] z,Bk,h⟩
     refine uc 13 k z fun k=>?_;cases h;exact finR2 k z (RV.tmp k z) (RV.tmp k z) ⟨_,Ad,z,m.ext,(m.v Aq 1 z),(m.fresh 1 z)⟩
   exact ⟨_,_,_,_,_,k.p z,m.sl [0,1] z,Ai,h⟩
 refine oE h fun Av Ar h=>gc 8 [iF (Enc.ow_rd Aa) Ar,eF (m.q Aa 1 z) Ar 0] k z fun k=>bS h k 21 z (fun _ h k=>?_) fun _ h k=>?_
 · refine ul 18 k z fun k=>?_;cases h;exact finR2 k z (RV.tmp k z) (RV.tmp k z) ⟨_,[Ab],z,m.ext,(m.v Ai 0 z),(m.fresh 0 z)⟩
 refine gl 8 [lF (Enc.ow_rd Aa)] k z fun k=>cJ h k z (fun h=>?_) fun h=>?_
 · refine uc 9 k z fun k=>?_;cases h;exact finR2 k z (RV.tmp k z) (RV.tmp k z) ⟨_,[Ab],z,m.ext,(m.v Ai 0 z),(m.fresh 0 z)⟩
 refine uc 2 k z fun k=>?_;exact ⟨k.p z,m.sl [1,0] z,h⟩
theorem c_spec_l4Line (fu) {w0} (Ag Af Ah Ae) {v2 F3} (Aa:rd w0 F3 [v2] Ag) {r} (h:d_spec_l4Line fu Ag Af Ah Ae = some r):Calls Tryz.prog 81 #[v2,I Af,.string (Ah),I Ae] w0 fun e w=>∃ (v0:Value) (G0:List Nat),e = .returned (.tuple #[v0,.bool (r.2)]) ∧ Ext [] w0 w ∧ ow w G0 [v0] r.1 ∧ (∀ b ∈ G0,w0.heap.size ≤ b):=by
 refine eg (vs:=[_,_,_,_]) func81 z ntmps81 z fun k m=>gc 16 [lF Aa] k z fun k=>cJ h k z (fun h=>?_) fun h=>?_
 · refine uc 2 k z fun k=>sB te35 m k z (by exact fN) fun g9 Aq At a k m e Ai=>?_;have Aj:=ow_bx Ai ([]:List Int) z z z;refine ul 6 k z fun k=>?_;cases h;exact finR2 k z (RV.tmp k z) (RV.tmp k z) ⟨_,[g9],z,m.ext,(m.v Aj 0 z),(m.fresh 0 z)⟩
 refine o2 h fun Au Ad Ap Am h=>gc 10 [iF Aa Ad,eF (m.r Aa) Ad 0] k z fun k=>sC k call143 z (c_spec_l4Nums fu _ _ _  Am) fun Ar Ao hR=>?_;obtain ⟨As,Ac,rfl,e,Ab,Ak⟩:=hR;refine ⟨_,z,fun a k=>?_⟩;have m:=m.nw e Ak Ab;refine ul 7 k z fun k=>?_;cases h;exact finR2 k z (RV.tmp k z) (RV.tmp k z) ⟨_,Ac,z,m.ext,(m.v Ab 0 z),(m.fresh 0 z)⟩
theorem c_spec_ReadOrder (fu) {w0} (Fe) {r} (h:d_spec_ReadOrder fu Fe = some r):Calls Tryz.prog 48 #[.string (Fe)] w0 fun e w=>∃ (Fj:List Value) (G0:List Nat),e = .returned (.tuple #[.agg Fj.toArray,I r.2]) ∧ Ext [] w0 w ∧ ow w G0 Fj r.1 ∧ (∀ b ∈ G0,w0.heap.size ≤ b):=by
 refine eg (vs:=[_]) func48 z ntmps48 z fun k m=>uc 2 k z fun k=>s_alloc m k zeroValue55 z z z z z fun b2 w4 a k m e Ao=>oE h fun x5 Kq h=>ul 6 k z fun k=>sL k m call43 z (c_spec_Parts fu _ _  Kq) fun w9 Bc Au Ab k m=>gl 18 [lF (Enc.ow_rd Ab)] k z fun k=>cJ h k z (fun h=>?_) fun h=>?_
 · refine uc 2 k z fun k=>sv k z (r_build bt55 k (cs:=#[I 0,I 0,I 0,I 0,I 0,I 0,.slice none 0 0,.slice none 0 0,I 0,.slice none 0 0]) (ps:=[]) z z (by kernel_rfl)) fun a k=>sT sizeOf55 m 1 Ao 0 k z z fun Mj a k e m Kd=>ul 5 k z fun k=>?_;cases h;exact finR2 k z (RV.cA k z ta55 (Kd.at (m.a 1 z) 0 10 z z z) z) (RV.tmp k z) ⟨_,_,z,m.ext,⟨_,[],_,[],_,[],z,z,(ow_nil _),(ow_nil _),(ow_nil _),by simpa [fps] using (m.sl [] z).nd⟩,(app_fresh (by simp) (app_fresh (by simp) (by simp)))⟩
 refine uc 4 k z fun k=>sv k z (r_build bt55 k (cs:=#[I 0,I 0,I 0,I 0,I 0,I 0,.slice none 0 0,.slice none 0 0,I 0,.slice none 0 0]) (ps:=[]) z z (by kernel_rfl)) fun a k=>s_alloc m k zeroValue55 z z z z z fun Aa Ma a k m e Kl=>sT sizeOf55 m 0 Kl 0 k z z fun Fz a k e m Ga=>ul 7 k z fun k=>cg (fun a w=>K 217 [(2,pt b2),(4,Bc),(5,I (w64 (((x5.length:Int)) - 1))),(6,pt Aa)] a ∧ St [] w0 w [([b2],w4),([Aa],Fz),(Au,w9)] ∧ d_spec_ReadOrder_J2 fu x5 = some r) ?_ ?_
 · rintro a Lp ⟨k,m,h⟩;refine cg (fun a w=>∃ Ac Cp,K 217 [(2,pt b2),(4,Bc),(5,I (w64 (((x5.length:Int)) - 1))),(6,pt Aa)] a ∧ St [] w0 w [([b2],w4),([Aa],Cp),(Au,w9)] ∧ bx Cp Aa [I Ac,I 0,I 0,I 0,I 0,I 0,.slice none 0 0,.slice none 0 0,I 0,.slice none 0 0] 55 ∧ d_spec_ReadOrder_J1 fu x5 Ac = some r) ?_ ?_
   · rintro a Mk ⟨Ac,Cp,k,m,Ka,h⟩;refine oE h fun Oe Gn h=>uc 9 k z fun k=>sC k call81 z (c_spec_l4Line fu _ _ _ _ (m.q Ab 2 z) Gn) fun Nf Mz hR=>?_;obtain ⟨Mg,Jt,rfl,e,Al,Kb⟩:=hR;refine ⟨_,z,fun a k=>?_⟩;have m:=m.nw e Kb Al;refine ul 14 k z fun k=>cJ h k z (fun h=>?_) fun h=>?_
     · refine uc 2 k z fun k=>sv k z (r_build bt55 k (cs:=#[I 0,I 0,I 0,I 0,I 0,I 0,.slice none 0 0,.slice none 0 0,I 0,.slice none 0 0]) (ps:=[]) z z (by kernel_rfl)) fun a k=>pN 1 k z fun a k=>sT sizeOf55 m 1 Ao 0 k z z fun Nw a k e m Kp=>ul 5 k z fun k=>?_;cases h;exact finR2 k z (RV.cA k z ta55 (Kp.at (m.a 1 z) 0 10 z z z) z) (RV.tmp k z) ⟨_,_,z,m.ext,⟨_,[],_,[],_,[],z,z,(ow_nil _),(ow_nil _),(ow_nil _),by simpa [fps] using (m.sl [] z).nd⟩,(app_fresh (by simp) (app_fresh (by simp) (by simp)))⟩
     refine uc 3 k z fun k=>d_go ([Aa]) mixo m z fun Gg hMd=>?_;have m:=hMd;have s:=Ext.refl (([Aa]):List Nat) Gg;refine dM [0,3,6,9] 4 z k z s fun a k=>oE h fun Af Fl h=>dT k 1 z z s (fun w s=>r_ixa (Enc.ow_rd Al) Fl k ts35 z z z) fun a k=>dT k 2 z z s (fun w s=>r_lde1 (Enc.ow_rd Al) (hMd.az 0 2 z z z s) Fl 0 t13 k z z z z) fun a k=>oE h fun Ae Fh h=>dT k 4 z z s (fun w s=>r_ixa (Enc.ow_rd Al) Fh k ts35 z z z) fun a k=>dT k 5 z z s (fun w s=>r_lde1 (Enc.ow_rd Al) (hMd.az 0 2 z z z s) Fh 0 t13 k z z z z) fun a k=>oE h fun Ad Ec h=>dT k 7 z z s (fun w s=>r_ixa (Enc.ow_rd Al) Ec k ts35 z z z) fun a k=>dT k 8 z z s (fun w s=>r_lde1 (Enc.ow_rd Al) (hMd.az 0 2 z z z s) Ec 0 t13 k z z z z) fun a k=>oE h fun Ag El h=>dT k 10 z z s (fun w s=>r_ixa (Enc.ow_rd Al) El k ts35 z z z) fun a k=>dT k 11 z z s (fun w s=>r_lde1 (Enc.ow_rd Al) (hMd.az 0 2 z z z s) El 0 t13 k z z z z) fun a k=>dT k 12 z z s (fun w s=>r_build bt50 k (cs:=#[I Af,I Ae,I Ad,I Ag]) (ps:=[(0,.tmp 51),(1,.tmp 54),(2,.tmp 57),(3,.tmp 60)]) z z (by kernel_rfl)) fun a k=>dF k 13 fa55_1 z s fun a k=>dG 14 z ?_;refine sT sizeOf50 m 2 Ka 1 k z z fun Mr a k e m Hb=>?_;have s:=s.trans e (fun y hy=>Or.inl hy);refine wpList_nil ⟨s,?_⟩;refine dD ?_;refine (nm_then ?_);refine oE h fun Oa Jo h=>uc 9 k z fun k=>sC k call81 z (c_spec_l4Line fu _ _ _ _ (m.q Ab 3 z) Jo) fun Mh Mm hR=>?_;obtain ⟨Mq,Il,rfl,e,By,Ks⟩:=hR;refine ⟨_,z,fun a k=>?_⟩;have m:=m.nw e Ks By;refine ul 14 k z fun k=>cJ h k z (fun h=>?_) fun h=>?_
     · refine uc 2 k z fun k=>sv k z (r_build bt55 k (cs:=#[I 0,I 0,I 0,I 0,I 0,I 0,.slice none 0 0,.slice none 0 0,I 0,.slice none 0 0]) (ps:=[]) z z (by kernel_rfl)) fun a k=>pN 1 k z fun a k=>sT sizeOf55 m 2 Ao 0 k z z fun Ly a k e m Jl=>ul 5 k z fun k=>?_;cases h;exact finR2 k z (RV.cA k z ta55 (Jl.at (m.a 2 z) 0 10 z z z) z) (RV.tmp k z) ⟨_,_,z,m.ext,⟨_,[],_,[],_,[],z,z,(ow_nil _),(ow_nil _),(ow_nil _),by simpa [fps] using (m.sl [] z).nd⟩,(app_fresh (by simp) (app_fresh (by simp) (by simp)))⟩
     refine oE h fun Ah Ea h=>gc 8 [iF (Enc.ow_rd By) Ea,eF (m.q By 0 z) Ea 0] k z fun k=>sT sizeOf3 m 3 Hb 5 k z z fun Jy a k e m Ho=>oE h fun Fk Ky h=>ul 11 k z fun k=>sC k call81 z (c_spec_l4Line fu _ _ _ _ (m.q Ab 4 z) Ky) fun Mn Jj hR=>?_;obtain ⟨Ji,Ex,rfl,e,Dd,Io⟩:=hR;refine ⟨_,z,fun a k=>?_⟩;have m:=m.nw e Io Dd;refine ul 9 k z fun k=>lG (fun n a w=>∃ Bn Ak Am Be Cd Aw Cw Dq Da Db Cq,K 217 [(2,pt b2),(4,Bc),(5,I (w64 (((x5.length:Int)) - 1))),(6,pt Aa),(7,I Aw),(8,Dq),(9,.bool (Cq))] a ∧ St [] w0 w [([b2],w4),(Am,Be),([Aa],Cd),(Au,w9),(Da,Db)] ∧ ow Be Am [Ak] Bn ∧ bx Cd Aa [I Ac,I Af,I Ae,I Ad,I Ag,I Ah,Ak,.slice none 0 0,I 0,.slice none 0 0] 55 ∧ ow Db Da [Dq] Cw ∧ d_spec_ReadOrder_L3 fu x5 Ac Af Ae Ad Ag Ah n Bn Aw Cw Cq = some r) ?_ fu ?_
     · rintro Ng a Mi ⟨Bn,Ak,Am,Be,Cd,Aw,Cw,Dq,Da,Db,Cq,k,m,Bx,Bu,Bz,h⟩;refine uc 6 k z fun k=>cJ h k z (fun h=>?_) fun h=>?_
       · refine uc 4 k z fun k=>d_go (Am ++ ([Aa])) mixo m z fun Hr hMd=>?_;have m:=hMd;have s:=Ext.refl ((Am ++ ([Aa])):List Nat) Hr;have hMj:=(hMd.sel [1,2,0,3,4] z (by decide)).join2;refine dM [2,5] 2 z k z s fun a k=>dF k 0 fa55_3 z s fun a k=>oE h fun Bh Ep h=>dT k 3 z z s (fun w s=>r_ixa (Enc.ow_rd Bz) Ep k ts35 z z z) fun a k=>dT k 4 z z s (fun w s=>r_lde1 (Enc.ow_rd Bz) (hMj.az 3 0 z z z s) Ep 0 t13 k z z z z) fun a k=>oE h fun Ba Fi h=>dT k 6 z z s (fun w s=>r_ixa (Enc.ow_rd Bz) Fi k ts35 z z z) fun a k=>dT k 7 z z s (fun w s=>r_lde1 (Enc.ow_rd Bz) (hMj.az 3 0 z z z s) Fi 0 t13 k z z z z) fun a k=>dT k 8 z z s (fun w s=>r_build bt98 k (cs:=#[I Bh,I Ba]) (ps:=[(0,.tmp 88),(1,.tmp 91)]) z z (by kernel_rfl)) fun a k=>dG2 1 9 (by kernel_rfl) z z ?_ ?_
         · refine gl 1 [bF m 2 Bu z] k z fun k=>wpList_nil ⟨s,?_⟩;refine dG 9 z (s_bsN te51 m k z z z z z z z (by decide) z (by exact fC z fN) fun Nd Nl Ls a k m e Ht Gl=>?_);have Mu:=lo1 (Nat.le_trans s.size Gl);have Ij:=ow_bx Ht ([(⟨Bh,Ba⟩:Pair)]:List Pair) z z z;refine ns s e fun s=>dG 10 z (oE h fun Kf Gd h=>s_appFN Gd te51 z m 2 Bx (News.rd (m.q Ij 0 z)) z z k z z z z z z z fun Ey Es Ld a k e m Cu Jb=>?_);have Nx:∀ y ∈ Es,y ∈ (Am ++ ([Aa])) ∨ _ ≤ y:=fun y hy=>(Jb y hy).elim (fun hy=>(fun y hy=>Or.inl (List.mem_append_left _ hy)) y hy) (fun h=>Or.inr (Nat.le_trans s.size h));have s:=s.trans e (fun y hy=>Or.inl (List.mem_append_left _ hy));refine wpList_nil ⟨s,?_⟩;refine dF k 11 fa55_3 z s fun a k=>dG 12 z (s_stb1 (cs':=[I Ac,I Af,I Ae,I Ad,I Ag,I Ah,Ey,.slice none 0 0,I 0,.slice none 0 0]) sizeOf51 m 3 Bu 6 k (rd_c (Enc.ow_rd Cu)) (rd_o (Enc.ow_rd Cu)) z z z z z z z z z fun Ku a k e m Hp=>?_);have s:=s.trans e (fun y hy=>Or.inl (List.mem_append_right _ hy));refine wpList_nil ⟨s,?_⟩;refine dD ((nm_then ?_));refine oE h fun Em Jq h=>uc 10 k z fun k=>sC k call81 z (c_spec_l4Line fu _ _ _ _ (m.q Ab 4 z) Jq) fun My Ke hR=>?_;obtain ⟨Kn,Dv,rfl,e,Dg,La⟩:=hR;refine ⟨_,z,fun a k=>?_⟩;have m:=m.nw e La Dg;refine ul 8 k z fun k=>?_;exact ⟨_,_,_,_,_,_,_,_,_,_,_,k.p z,m.sl [2,3,4,5,0] z,Cu,Hp,Dg,h⟩
         refine s_bsN te51 m k z z z z z z z (by decide) z (by exact fC z fN) fun Nr Mp Ns a k m e Jr Kv=>?_;have Nh:=lo1 (Nat.le_trans s.size Kv);have Hk:=ow_bx Jr ([(⟨Bh,Ba⟩:Pair)]:List Pair) z z z;refine ns s e fun s=>dG 1 z (gl 1 [bF m 3 Bu z] k z fun k=>wpList_nil ⟨s,?_⟩);refine dG 10 z (oE h fun Lf Kh h=>s_appFN Kh te51 z m 2 Bx (News.rd (m.q Hk 0 z)) z z k z z z z z z z fun Et Du Gm a k e m Dc Is=>?_);have Mw:∀ y ∈ Du,y ∈ (Am ++ ([Aa])) ∨ _ ≤ y:=fun y hy=>(Is y hy).elim (fun hy=>(fun y hy=>Or.inl (List.mem_append_left _ hy)) y hy) (fun h=>Or.inr (Nat.le_trans s.size h));have s:=s.trans e (fun y hy=>Or.inl (List.mem_append_left _ hy));refine wpList_nil ⟨s,?_⟩;refine dF k 11 fa55_3 z s fun a k=>dG 12 z (s_stb1 (cs':=[I Ac,I Af,I Ae,I Ad,I Ag,I Ah,Et,.slice none 0 0,I 0,.slice none 0 0]) sizeOf51 m 3 Bu 6 k (rd_c (Enc.ow_rd Dc)) (rd_o (Enc.ow_rd Dc)) z z z z z z z z z fun Iq a k e m Ii=>?_);have s:=s.trans e (fun y hy=>Or.inl (List.mem_append_right _ hy));refine wpList_nil ⟨s,?_⟩;refine dD ((nm_then ?_));refine oE h fun Fu Hh h=>uc 10 k z fun k=>sC k call81 z (c_spec_l4Line fu _ _ _ _ (m.q Ab 4 z) Hh) fun Mt Ge hR=>?_;obtain ⟨Gv,Ed,rfl,e,Cm,Jn⟩:=hR;refine ⟨_,z,fun a k=>?_⟩;have m:=m.nw e Jn Cm;refine ul 8 k z fun k=>?_;exact ⟨_,_,_,_,_,_,_,_,_,_,_,k.p z,m.sl [2,3,4,5,0] z,Dc,Ii,Cm,h⟩
       refine oE h fun Ei Gt h=>uc 9 k z fun k=>sC k call81 z (c_spec_l4Line fu _ _ _ _ (m.q Ab 3 z) Gt) fun Lq Lc hR=>?_;obtain ⟨Kg,Fc,rfl,e,Dm,Kc⟩:=hR;refine ⟨_,z,fun a k=>?_⟩;have m:=m.nw e Kc Dm;refine ul 9 k z fun k=>lG (fun n a w=>∃ Cb Aq Ap Bw Cr Av Df Dn Cv Cj Cs,K 217 [(2,pt b2),(4,Bc),(5,I (w64 (((x5.length:Int)) - 1))),(6,pt Aa),(7,I Av),(8,Dn),(9,.bool (Cs))] a ∧ St [] w0 w [([b2],w4),(Ap,Bw),([Aa],Cr),(Au,w9),(Am,Be),(Cv,Cj)] ∧ ow Bw Ap [Aq] Cb ∧ bx Cr Aa [I Ac,I Af,I Ae,I Ad,I Ag,I Ah,Ak,Aq,I 0,.slice none 0 0] 55 ∧ ow Cj Cv [Dn] Df ∧ d_spec_ReadOrder_L2 fu x5 Ac Af Ae Ad Ag Ah Bn n Cb Av Df Cs = some r) ?_ fu ?_
       · rintro Nm a Od ⟨Cb,Aq,Ap,Bw,Cr,Av,Df,Dn,Cv,Cj,Cs,k,m,Cg,Ay,Ai,h⟩;refine uc 6 k z fun k=>cJ h k z (fun h=>?_) fun h=>?_
         · refine uc 4 k z fun k=>d_go (Ap ++ ([Aa])) mixo m z fun Iv hMd=>?_;have m:=hMd;have s:=Ext.refl ((Ap ++ ([Aa])):List Nat) Iv;have hMj:=(hMd.sel [1,2,0,3,4,5] z (by decide)).join2;refine dM [2,5,8,11,14,17,20] 7 z k z s fun a k=>dF k 0 fa55_4 z s fun a k=>oE h fun Bb Fy h=>dT k 3 z z s (fun w s=>r_ixa (Enc.ow_rd Ai) Fy k ts35 z z z) fun a k=>dT k 4 z z s (fun w s=>r_lde1 (Enc.ow_rd Ai) (hMj.az 4 0 z z z s) Fy 0 t13 k z z z z) fun a k=>oE h fun Az Eo h=>dT k 6 z z s (fun w s=>r_ixa (Enc.ow_rd Ai) Eo k ts35 z z z) fun a k=>dT k 7 z z s (fun w s=>r_lde1 (Enc.ow_rd Ai) (hMj.az 4 0 z z z s) Eo 0 t13 k z z z z) fun a k=>oE h fun Bl Fm h=>dT k 9 z z s (fun w s=>r_ixa (Enc.ow_rd Ai) Fm k ts35 z z z) fun a k=>dT k 10 z z s (fun w s=>r_lde1 (Enc.ow_rd Ai) (hMj.az 4 0 z z z s) Fm 0 t13 k z z z z) fun a k=>oE h fun Br Fg h=>dT k 12 z z s (fun w s=>r_ixa (Enc.ow_rd Ai) Fg k ts35 z z z) fun a k=>dT k 13 z z s (fun w s=>r_lde1 (Enc.ow_rd Ai) (hMj.az 4 0 z z z s) Fg 0 t13 k z z z z) fun a k=>oE h fun Bf Eg h=>dT k 15 z z s (fun w s=>r_ixa (Enc.ow_rd Ai) Eg k ts35 z z z) fun a k=>?_;refine dT k 16 z z s (fun w s=>r_lde1 (Enc.ow_rd Ai) (hMj.az 4 0 z z z s) Eg 0 t13 k z z z z) fun a k=>oE h fun Bo Ff h=>dT k 18 z z s (fun w s=>r_ixa (Enc.ow_rd Ai) Ff k ts35 z z z) fun a k=>dT k 19 z z s (fun w s=>r_lde1 (Enc.ow_rd Ai) (hMj.az 4 0 z z z s) Ff 0 t13 k z z z z) fun a k=>oE h fun Bd Ez h=>dT k 21 z z s (fun w s=>r_ixa (Enc.ow_rd Ai) Ez k ts35 z z z) fun a k=>dT k 22 z z s (fun w s=>r_lde1 (Enc.ow_rd Ai) (hMj.az 4 0 z z z s) Ez 0 t13 k z z z z) fun a k=>dT k 23 z z s (fun w s=>r_build bt61 k (cs:=#[I Bb,I Az,I Bl,I Br,I Bf,I Bo,I Bd]) (ps:=[(0,.tmp 115),(1,.tmp 118),(2,.tmp 121),(3,.tmp 124),(4,.tmp 127),(5,.tmp 130),(6,.tmp 133)]) z z (by kernel_rfl)) fun a k=>dG2 1 24 (by kernel_rfl) z z ?_ ?_
           · refine gl 1 [bF m 2 Ay z] k z fun k=>wpList_nil ⟨s,?_⟩;refine dG 24 z (s_bsN te52 m k z z z z z z z (by decide) z (by exact fC z fN) fun Nz Nq Me a k m e Hm Ie=>?_);have Nn:=lo1 (Nat.le_trans s.size Ie);have Iu:=ow_bx Hm ([(⟨Bb,Az,Bl,Br,Bf,Bo,Bd⟩:Typ)]:List Typ) z z z;refine ns s e fun s=>dG 25 z (oE h fun Ih Ik h=>s_appFN Ik te52 z m 2 Cg (News.rd (m.q Iu 0 z)) z z k z z z z z z z fun Ev Fv It a k e m Ck Ip=>?_);have Mb:∀ y ∈ Fv,y ∈ (Ap ++ ([Aa])) ∨ _ ≤ y:=fun y hy=>(Ip y hy).elim (fun hy=>(fun y hy=>Or.inl (List.mem_append_left _ hy)) y hy) (fun h=>Or.inr (Nat.le_trans s.size h));have s:=s.trans e (fun y hy=>Or.inl (List.mem_append_left _ hy));refine wpList_nil ⟨s,?_⟩;refine dF k 26 fa55_4 z s fun a k=>dG 27 z (s_stb1 (cs':=[I Ac,I Af,I Ae,I Ad,I Ag,I Ah,Ak,Ev,I 0,.slice none 0 0]) sizeOf52 m 3 Ay 7 k (rd_c (Enc.ow_rd Ck)) (rd_o (Enc.ow_rd Ck)) z z z z z z z z z fun Jm a k e m Kr=>?_);have s:=s.trans e (fun y hy=>Or.inl (List.mem_append_right _ hy));refine wpList_nil ⟨s,?_⟩;refine dD ?_;refine (nm_then ?_);refine oE h fun Ds Gw h=>uc 10 k z fun k=>sC k call81 z (c_spec_l4Line fu _ _ _ _ (m.q Ab 4 z) Gw) fun Nv Kt hR=>?_;obtain ⟨Lb,Fw,rfl,e,Cl,Gk⟩:=hR;refine ⟨_,z,fun a k=>?_⟩;have m:=m.nw e Gk Cl;refine ul 8 k z fun k=>?_;exact ⟨_,_,_,_,_,_,_,_,_,_,_,k.p z,m.sl [2,3,4,5,6,0] z,Ck,Kr,Cl,h⟩
           refine s_bsN te52 m k z z z z z z z (by decide) z (by exact fC z fN) fun Lz Lo Mx a k m e Gp Jz=>?_;have Mv:=lo1 (Nat.le_trans s.size Jz);have Gr:=ow_bx Gp ([(⟨Bb,Az,Bl,Br,Bf,Bo,Bd⟩:Typ)]:List Typ) z z z;refine ns s e fun s=>dG 1 z (gl 1 [bF m 3 Ay z] k z fun k=>wpList_nil ⟨s,?_⟩);refine dG 25 z (oE h fun Hu Gc h=>s_appFN Gc te52 z m 2 Cg (News.rd (m.q Gr 0 z)) z z k z z z z z z z fun Ee Fq Gz a k e m Do Gb=>?_);have Ob:∀ y ∈ Fq,y ∈ (Ap ++ ([Aa])) ∨ _ ≤ y:=fun y hy=>(Gb y hy).elim (fun hy=>(fun y hy=>Or.inl (List.mem_append_left _ hy)) y hy) (fun h=>Or.inr (Nat.le_trans s.size h));have s:=s.trans e (fun y hy=>Or.inl (List.mem_append_left _ hy));refine wpList_nil ⟨s,?_⟩;refine dF k 26 fa55_4 z s fun a k=>dG 27 z (s_stb1 (cs':=[I Ac,I Af,I Ae,I Ad,I Ag,I Ah,Ak,Ee,I 0,.slice none 0 0]) sizeOf52 m 3 Ay 7 k (rd_c (Enc.ow_rd Do)) (rd_o (Enc.ow_rd Do)) z z z z z z z z z fun Jc a k e m Hx=>?_);have s:=s.trans e (fun y hy=>Or.inl (List.mem_append_right _ hy));refine wpList_nil ⟨s,?_⟩;refine dD ?_;refine (nm_then ?_);refine oE h fun Ek Hd h=>uc 10 k z fun k=>sC k call81 z (c_spec_l4Line fu _ _ _ _ (m.q Ab 4 z) Hd) fun Ms Gj hR=>?_;obtain ⟨Ir,En,rfl,e,Ci,Lg⟩:=hR;refine ⟨_,z,fun a k=>?_⟩;have m:=m.nw e Lg Ci;refine ul 8 k z fun k=>?_;exact ⟨_,_,_,_,_,_,_,_,_,_,_,k.p z,m.sl [2,3,4,5,6,0] z,Do,Hx,Ci,h⟩
         refine oE h fun Lu Iy h=>uc 9 k z fun k=>sC k call81 z (c_spec_l4Line fu _ _ _ _ (m.q Ab 3 z) Iy) fun Mc Na hR=>?_;obtain ⟨Nc,Hn,rfl,e,Cc,Hc⟩:=hR;refine ⟨_,z,fun a k=>?_⟩;have m:=m.nw e Hc Cc;refine ul 14 k z fun k=>cJ h k z (fun h=>?_) fun h=>?_
         · refine uc 2 k z fun k=>sv k z (r_build bt55 k (cs:=#[I 0,I 0,I 0,I 0,I 0,I 0,.slice none 0 0,.slice none 0 0,I 0,.slice none 0 0]) (ps:=[]) z z (by kernel_rfl)) fun a k=>pN 1 k z fun a k=>sT sizeOf55 m 1 Ao 0 k z z fun Lx a k e m Kz=>ul 5 k z fun k=>?_;cases h;exact finR2 k z (RV.cA k z ta55 (Kz.at (m.a 1 z) 0 10 z z z) z) (RV.tmp k z) ⟨_,_,z,m.ext,⟨_,[],_,[],_,[],z,z,(ow_nil _),(ow_nil _),(ow_nil _),by simpa [fps] using (m.sl [] z).nd⟩,(app_fresh (by simp) (app_fresh (by simp) (by simp)))⟩
         refine oE h fun At Er h=>gc 8 [iF (Enc.ow_rd Cc) Er,eF (m.q Cc 0 z) Er 0] k z fun k=>sT sizeOf3 m 3 Ay 8 k z z fun Gy a k e m Jd=>oE h fun Fn Iz h=>ul 13 k z fun k=>sC k call81 z (c_spec_l4Line fu _ _ _ _ (m.q Ab 4 z) Iz) fun Lw Jx hR=>?_;obtain ⟨Je,Dz,rfl,e,Ct,Id⟩:=hR;refine ⟨_,z,fun a k=>?_⟩;have m:=m.nw e Id Ct;refine ul 9 k z fun k=>lG (fun n a w=>∃ Dl Ce Ar De Dp As Co Di Cz Dj Dk,K 217 [(2,pt b2),(4,Bc),(5,I (w64 (((x5.length:Int)) - 1))),(6,pt Aa),(7,I As),(8,Di),(9,.bool (Dk))] a ∧ St [] w0 w [([b2],w4),(Ar,De),([Aa],Dp),(Au,w9),(Am,Be),(Ap,Bw),(Cz,Dj)] ∧ ow De Ar [Ce] Dl ∧ bx Dp Aa [I Ac,I Af,I Ae,I Ad,I Ag,I Ah,Ak,Aq,I At,Ce] 55 ∧ ow Dj Cz [Di] Co ∧ d_spec_ReadOrder_L1 fu x5 Ac Af Ae Ad Ag Ah Bn Cb At n Dl As Co Dk = some r) ?_ fu ?_
         · rintro Lv a Ni ⟨Dl,Ce,Ar,De,Dp,As,Co,Di,Cz,Dj,Dk,k,m,Ca,Bk,Aj,h⟩;refine uc 6 k z fun k=>cJ h k z (fun h=>?_) fun h=>?_
           · refine uc 4 k z fun k=>d_go (Ar ++ ([Aa])) mixo m z fun Gi hMd=>?_;have m:=hMd;have s:=Ext.refl ((Ar ++ ([Aa])):List Nat) Gi;have hMj:=(hMd.sel [1,2,0,3,4,5,6] z (by decide)).join2;refine dM [2,5,8,11,14,17,20] 7 z k z s fun a k=>dF k 0 fa55_6 z s fun a k=>oE h fun Bq Dx h=>dT k 3 z z s (fun w s=>r_ixa (Enc.ow_rd Aj) Dx k ts35 z z z) fun a k=>dT k 4 z z s (fun w s=>r_lde1 (Enc.ow_rd Aj) (hMj.az 5 0 z z z s) Dx 0 t13 k z z z z) fun a k=>oE h fun Bj Ef h=>dT k 6 z z s (fun w s=>r_ixa (Enc.ow_rd Aj) Ef k ts35 z z z) fun a k=>dT k 7 z z s (fun w s=>r_lde1 (Enc.ow_rd Aj) (hMj.az 5 0 z z z s) Ef 0 t13 k z z z z) fun a k=>oE h fun Bp Ej h=>dT k 9 z z s (fun w s=>r_ixa (Enc.ow_rd Aj) Ej k ts35 z z z) fun a k=>dT k 10 z z s (fun w s=>r_lde1 (Enc.ow_rd Aj) (hMj.az 5 0 z z z s) Ej 0 t13 k z z z z) fun a k=>oE h fun Bm Fs h=>dT k 12 z z s (fun w s=>r_ixa (Enc.ow_rd Aj) Fs k ts35 z z z) fun a k=>dT k 13 z z s (fun w s=>r_lde1 (Enc.ow_rd Aj) (hMj.az 5 0 z z z s) Fs 0 t13 k z z z z) fun a k=>oE h fun Ax Eu h=>dT k 15 z z s (fun w s=>r_ixa (Enc.ow_rd Aj) Eu k ts35 z z z) fun a k=>?_;refine dT k 16 z z s (fun w s=>r_lde1 (Enc.ow_rd Aj) (hMj.az 5 0 z z z s) Eu 0 t13 k z z z z) fun a k=>oE h fun Bv Dr h=>dT k 18 z z s (fun w s=>r_ixa (Enc.ow_rd Aj) Dr k ts35 z z z) fun a k=>dT k 19 z z s (fun w s=>r_lde1 (Enc.ow_rd Aj) (hMj.az 5 0 z z z s) Dr 0 t13 k z z z z) fun a k=>oE h fun Bi Fd h=>dT k 21 z z s (fun w s=>r_ixa (Enc.ow_rd Aj) Fd k ts35 z z z) fun a k=>dT k 22 z z s (fun w s=>r_lde1 (Enc.ow_rd Aj) (hMj.az 5 0 z z z s) Fd 0 t13 k z z z z) fun a k=>dT k 23 z z s (fun w s=>r_build bt59 k (cs:=#[I Bq,I Bj,I Bp,I Bm,I Ax,I Bv,I Bi]) (ps:=[(0,.tmp 173),(1,.tmp 176),(2,.tmp 179),(3,.tmp 182),(4,.tmp 185),(5,.tmp 188),(6,.tmp 191)]) z z (by kernel_rfl)) fun a k=>dG2 1 24 (by kernel_rfl) z z ?_ ?_
             · refine gl 1 [bF m 2 Bk z] k z fun k=>wpList_nil ⟨s,?_⟩;refine dG 24 z (s_bsN te53 m k z z z z z z z (by decide) z (by exact fC z fN) fun Li Nb Oc a k m e Ha He=>?_);have Lt:=lo1 (Nat.le_trans s.size He);have Kw:=ow_bx Ha ([(⟨Bq,Bj,Bp,Bm,Ax,Bv,Bi⟩:Item)]:List Item) z z z;refine ns s e fun s=>dG 25 z (oE h fun Kx Kj h=>s_appFN Kj te53 z m 2 Ca (News.rd (m.q Kw 0 z)) z z k z z z z z z z fun Ft Dt Kk a k e m Cx Hv=>?_);have Lr:∀ y ∈ Dt,y ∈ (Ar ++ ([Aa])) ∨ _ ≤ y:=fun y hy=>(Hv y hy).elim (fun hy=>(fun y hy=>Or.inl (List.mem_append_left _ hy)) y hy) (fun h=>Or.inr (Nat.le_trans s.size h));have s:=s.trans e (fun y hy=>Or.inl (List.mem_append_left _ hy));refine wpList_nil ⟨s,?_⟩;refine dF k 26 fa55_6 z s fun a k=>dG 27 z (s_stb1 (cs':=[I Ac,I Af,I Ae,I Ad,I Ag,I Ah,Ak,Aq,I At,Ft]) sizeOf53 m 3 Bk 9 k (rd_c (Enc.ow_rd Cx)) (rd_o (Enc.ow_rd Cx)) z z z z z z z z z fun Ki a k e m Gh=>?_);have s:=s.trans e (fun y hy=>Or.inl (List.mem_append_right _ hy));refine wpList_nil ⟨s,?_⟩;refine dD ?_;refine (nm_then ?_);refine oE h fun Dw Hy h=>uc 10 k z fun k=>sC k call81 z (c_spec_l4Line fu _ _ _ _ (m.q Ab 4 z) Hy) fun Ny Js hR=>?_;obtain ⟨Ko,Fb,rfl,e,Cy,In⟩:=hR;refine ⟨_,z,fun a k=>?_⟩;have m:=m.nw e In Cy;refine ul 8 k z fun k=>?_;exact ⟨_,_,_,_,_,_,_,_,_,_,_,k.p z,m.sl [2,3,4,5,6,7,0] z,Cx,Gh,Cy,h⟩
             refine s_bsN te53 m k z z z z z z z (by decide) z (by exact fC z fN) fun Mf No Ln a k m e Hg Jf=>?_;have Nu:=lo1 (Nat.le_trans s.size Jf);have Ib:=ow_bx Hg ([(⟨Bq,Bj,Bp,Bm,Ax,Bv,Bi⟩:Item)]:List Item) z z z;refine ns s e fun s=>dG 1 z (gl 1 [bF m 3 Bk z] k z fun k=>wpList_nil ⟨s,?_⟩);refine dG 25 z (oE h fun Hj Ic h=>s_appFN Ic te53 z m 2 Ca (News.rd (m.q Ib 0 z)) z z k z z z z z z z fun Ew Dy Hz a k e m Cn Ig=>?_);have Lk:∀ y ∈ Dy,y ∈ (Ar ++ ([Aa])) ∨ _ ≤ y:=fun y hy=>(Ig y hy).elim (fun hy=>(fun y hy=>Or.inl (List.mem_append_left _ hy)) y hy) (fun h=>Or.inr (Nat.le_trans s.size h));have s:=s.trans e (fun y hy=>Or.inl (List.mem_append_left _ hy));refine wpList_nil ⟨s,?_⟩;refine dF k 26 fa55_6 z s fun a k=>dG 27 z (s_stb1 (cs':=[I Ac,I Af,I Ae,I Ad,I Ag,I Ah,Ak,Aq,I At,Ew]) sizeOf53 m 3 Bk 9 k (rd_c (Enc.ow_rd Cn)) (rd_o (Enc.ow_rd Cn)) z z z z z z z z z fun Gu a k e m Jk=>?_);have s:=s.trans e (fun y hy=>Or.inl (List.mem_append_right _ hy));refine wpList_nil ⟨s,?_⟩;refine dD ?_;refine (nm_then ?_);refine oE h fun Eb Jg h=>uc 10 k z fun k=>sC k call81 z (c_spec_l4Line fu _ _ _ _ (m.q Ab 4 z) Jg) fun Ml Lh hR=>?_;obtain ⟨Jh,Fa,rfl,e,Dh,Im⟩:=hR;refine ⟨_,z,fun a k=>?_⟩;have m:=m.nw e Im Dh;refine ul 8 k z fun k=>?_;exact ⟨_,_,_,_,_,_,_,_,_,_,_,k.p z,m.sl [2,3,4,5,6,7,0] z,Cn,Jk,Dh,h⟩
           refine uc 12 k z fun k=>bsplit (decide (As < (w64 (((x5.length:Int)) - 1)))) (fun Bg=>?_) (fun Bg=>?_)
           · have h:=bif_t Bg h;refine rB k 207 z Bg fun k=>ul 11 k z fun k=>sv k z (r_build bt55 k (cs:=#[I 0,I 0,I 0,I 0,I 0,I 0,.slice none 0 0,.slice none 0 0,I 0,.slice none 0 0]) (ps:=[]) z z (by kernel_rfl)) fun a k=>pN 1 k z fun a k=>sT sizeOf55 m 0 Ao 0 k z z fun Mo a k e m Hi=>ul 5 k z fun k=>?_;cases h;exact finR2 k z (RV.cA k z ta55 (Hi.at (m.a 0 z) 0 10 z z z) z) (RV.tmp k z) ⟨_,_,z,m.ext,⟨_,[],_,[],_,[],z,z,(ow_nil _),(ow_nil _),(ow_nil _),by simpa [fps] using (m.sl [] z).nd⟩,(app_fresh (by simp) (app_fresh (by simp) (by simp)))⟩
           have h:=bif_f Bg h;refine rB k 207 z Bg fun k=>oE h fun Nt Fp h=>gl 8 [iF (Enc.ow_rd Ab) Fp,eF (m.q Ab 3 z) Fp 0] k z fun k=>cJ h k z (fun h=>?_) fun h=>?_
           · refine uc 2 k z fun k=>sv k z (r_build bt55 k (cs:=#[I 0,I 0,I 0,I 0,I 0,I 0,.slice none 0 0,.slice none 0 0,I 0,.slice none 0 0]) (ps:=[]) z z (by kernel_rfl)) fun a k=>pN 1 k z fun a k=>sT sizeOf55 m 0 Ao 0 k z z fun Ll a k e m Gq=>ul 5 k z fun k=>?_;cases h;exact finR2 k z (RV.cA k z ta55 (Gq.at (m.a 0 z) 0 10 z z z) z) (RV.tmp k z) ⟨_,_,z,m.ext,⟨_,[],_,[],_,[],z,z,(ow_nil _),(ow_nil _),(ow_nil _),by simpa [fps] using (m.sl [] z).nd⟩,(app_fresh (by simp) (app_fresh (by simp) (by simp)))⟩
           refine gc 5 [bA m 2 Bk z] k z fun k=>sT sizeOf55 m 0 Ao 0 k z (allc z (allc z (allc z (allc z (allc z (allc z (allc (rd_o (Enc.ow_rd Bx)) (allc (rd_o (Enc.ow_rd Cg)) (allc z (allc (rd_o (Enc.ow_rd Ca)) alln)))))))))) fun Np a k e m Hl=>ul 4 k z fun k=>?_;cases h;exact finR2 k z (RV.cA k z ta55 (Hl.at (m.a 0 z) 0 10 z z z) z) (RV.tmp k z) ⟨_,_,z,m.ext,⟨_,Am,_,Ap,_,Ar,z,z,(m.v Bx 4 z),(m.v Cg 5 z),(m.v Ca 1 z),by simpa [fps] using (m.sl [4,5,1] z).nd⟩,(app_fresh (m.fresh 4 z) (app_fresh (m.fresh 5 z) (m.fresh 1 z)))⟩
         exact ⟨_,_,_,_,_,_,_,_,_,_,_,k.p z,(m.addNil (u:=w0)).sel [3,0,5,6,7,4,1] z (by decide),(ow_nil _),Jd,Ct,h⟩
       exact ⟨_,_,_,_,_,_,_,_,_,_,_,k.p z,(m.addNil (u:=w0)).sel [2,0,4,5,3,1] z (by decide),(ow_nil _),Bu,Dm,h⟩
     exact ⟨_,_,_,_,_,_,_,_,_,_,_,k.p z,(m.addNil (u:=w0)).sel [4,0,5,6,1] z (by decide),(ow_nil _),Ho,Dd,h⟩
   refine oE h fun Md Eh h=>gc 8 [iF (Enc.ow_rd Ab) Eh,eF (m.q Ab 2 z) Eh 0] k z fun k=>cJ h k z (fun h=>?_) fun h=>?_
   · refine uc 2 k z fun k=>sT sizeOf3 m 1 Ga 0 k z z fun Gf a k e m Hf=>ul 2 k z fun k=>?_;exact ⟨_,_,k.p z,m.sl [0,1,2] z,Hf,h⟩
   refine uc 2 k z fun k=>?_;exact ⟨_,_,k.p z,m.sl [0,1,2] z,Ga,h⟩
 refine uc 5 k z fun k=>bsplit (decide ((w64 (((x5.length:Int)) - 1)) < 1)) (fun Bt=>?_) (fun Bt=>?_)
 · have h:=bif_t Bt h;refine rB k 21 z Bt fun k=>ul 16 k z fun k=>sv k z (r_build bt55 k (cs:=#[I 0,I 0,I 0,I 0,I 0,I 0,.slice none 0 0,.slice none 0 0,I 0,.slice none 0 0]) (ps:=[]) z z (by kernel_rfl)) fun a k=>sT sizeOf55 m 2 Ao 0 k z z fun Nj a k e m Gx=>ul 5 k z fun k=>?_;cases h;exact finR2 k z (RV.cA k z ta55 (Gx.at (m.a 2 z) 0 10 z z z) z) (RV.tmp k z) ⟨_,_,z,m.ext,⟨_,[],_,[],_,[],z,z,(ow_nil _),(ow_nil _),(ow_nil _),by simpa [fps] using (m.sl [] z).nd⟩,(app_fresh (by simp) (app_fresh (by simp) (by simp)))⟩
 have h:=bif_f Bt h;refine rB k 21 z Bt fun k=>oE h fun Ia Ch h=>gl 5 [iF (Enc.ow_rd Ab) Ch,eF (m.q Ab 1 z) Ch 0] k z fun k=>bS h k 26 z (fun _ h k=>?_) fun _ h k=>?_
 · refine oE h fun Nk Lj h=>gl 8 [iF (Enc.ow_rd Ab) Ch,eF (m.q Ab 1 z) Ch 0] k z fun k=>cJ h k z (fun h=>?_) fun h=>?_
   · refine uc 2 k z fun k=>sv k z (r_build bt55 k (cs:=#[I 0,I 0,I 0,I 0,I 0,I 0,.slice none 0 0,.slice none 0 0,I 0,.slice none 0 0]) (ps:=[]) z z (by kernel_rfl)) fun a k=>sT sizeOf55 m 2 Ao 0 k z z fun Lm a k e m Jv=>ul 5 k z fun k=>?_;cases h;exact finR2 k z (RV.cA k z ta55 (Jv.at (m.a 2 z) 0 10 z z z) z) (RV.tmp k z) ⟨_,_,z,m.ext,⟨_,[],_,[],_,[],z,z,(ow_nil _),(ow_nil _),(ow_nil _),by simpa [fps] using (m.sl [] z).nd⟩,(app_fresh (by simp) (app_fresh (by simp) (by simp)))⟩
   refine uc 2 k z fun k=>?_;exact ⟨k.p z,m.sl [2,0,1] z,h⟩
 refine ul 11 k z fun k=>?_;exact ⟨k.p z,m.sl [2,0,1] z,h⟩
theorem c_spec_l1In (fu) {w0} (x1 Ab Ac) {r} (h:d_spec_l1In fu x1 Ab Ac = some r):cS 39 [I x1,I Ab,I Ac] w0 (.bool (r)):=by
 refine eg func39 z ntmps39 z fun k m=>uc 11 k z fun k=>bS h k 10 z (fun _ h k=>?_) fun _ h k=>?_
 · refine ul 8 k z fun k=>fS h k m z z
 refine ul 8 k z fun k=>fS h k m z z
theorem c_spec_l2Side (fu) {w0} (x1) {r} (h:d_spec_l2Side fu x1 = some r):cS 264 [I x1] w0 (.bool (r)):=by
 refine eg func264 z ntmps264 z fun k m=>oE h fun x2 Aa h=>uc 8 k z fun k=>cC k m call39 z (c_spec_l1In fu _ _ _  Aa) fun w5 e a k m=>ul 4 k z fun k=>fS h k m z z
theorem c_spec_PalletOk (fu) {w0} (x1) {r} (h:d_spec_PalletOk fu x1 = some r):cS 193 [.agg (Flat.e (x1)).toArray] w0 (.bool (r)):=by
 refine eg func193 z ntmps193 z fun k m=>uc 2 k z fun k=>s_box m k z z z z z z fun b2 w4 a k m e Ad=>oE h fun x5 Ah h=>gl 7 [bF m 0 Ad z] k z fun k=>cC k m call264 z (c_spec_l2Side fu _  Ah) fun w9 e a k m=>pN 1 k z fun a k=>bS h k 6 z (fun _ h k=>?_) fun _ h k=>?_
 · refine oE h fun Af Ae h=>gl 2 [bF m 0 Ad z] k z fun k=>cC k m call264 z (c_spec_l2Side fu _  Ae) fun Am e a k m=>pN 2 k z fun a k=>bS h k 11 z (fun _ h k=>?_) fun _ h k=>?_
   · refine oE h fun Aj Ai h=>gl 2 [bF m 0 Ad z] k z fun k=>cC k m call264 z (c_spec_l2Side fu _  Ai) fun Ak e a k m=>pN 2 k z fun a k=>bS h k 16 z (fun _ h k=>?_) fun _ h k=>?_
     · refine oE h fun Ao Ag h=>gl 2 [bF m 0 Ad z] k z fun k=>cC k m call39 z (c_spec_l1In fu _ _ _  Ag) fun Al e a k m=>ul 5 k z fun k=>fS h k m z z
     refine ul 8 k z fun k=>fS h k m z z
   refine ul 13 k z fun k=>fS h k m z z
 refine ul 18 k z fun k=>fS h k m z z
theorem c_spec_l2Id (fu) {w0} (x1) {r} (h:d_spec_l2Id fu x1 = some r):cS 79 [I x1] w0 (.bool (r)):=by
 refine eg func79 z ntmps79 z fun k m=>oE h fun x2 Aa h=>uc 8 k z fun k=>cC k m call39 z (c_spec_l1In fu _ _ _  Aa) fun w5 e a k m=>ul 4 k z fun k=>fS h k m z z
theorem c_spec_TypeOk (fu) {w0} (x1) {r} (h:d_spec_TypeOk fu x1 = some r):cS 194 [.agg (Flat.e (x1)).toArray] w0 (.bool (r)):=by
 refine eg func194 z ntmps194 z fun k m=>uc 2 k z fun k=>s_box m k z z z z z z fun b2 w4 a k m e Aa=>oE h fun x5 Aj h=>gl 7 [bF m 0 Aa z] k z fun k=>cC k m call79 z (c_spec_l2Id fu _  Aj) fun w9 e a k m=>pN 1 k z fun a k=>bS h k 6 z (fun _ h k=>?_) fun _ h k=>?_
 · refine oE h fun Ai Ah h=>gl 2 [bF m 0 Aa z] k z fun k=>cC k m call264 z (c_spec_l2Side fu _  Ah) fun Aw e a k m=>pN 2 k z fun a k=>bS h k 11 z (fun _ h k=>?_) fun _ h k=>?_
   · refine oE h fun Al As h=>gl 2 [bF m 0 Aa z] k z fun k=>cC k m call264 z (c_spec_l2Side fu _  As) fun Av e a k m=>pN 2 k z fun a k=>bS h k 16 z (fun _ h k=>?_) fun _ h k=>?_
     · refine oE h fun Ak Ar h=>gl 2 [bF m 0 Aa z] k z fun k=>cC k m call264 z (c_spec_l2Side fu _  Ar) fun Ay e a k m=>pN 2 k z fun a k=>bS h k 21 z (fun _ h k=>?_) fun _ h k=>?_
       · refine oE h fun Aq Ao h=>gl 2 [bF m 0 Aa z] k z fun k=>cC k m call39 z (c_spec_l1In fu _ _ _  Ao) fun Au e a k m=>pN 2 k z fun a k=>bS h k 26 z (fun _ h k=>?_) fun _ h k=>?_
         · refine oE h fun Am Ap h=>gl 2 [bF m 0 Aa z] k z fun k=>cC k m call39 z (c_spec_l1In fu _ _ _  Ap) fun Az e a k m=>pN 2 k z fun a k=>bS h k 31 z (fun _ h k=>?_) fun _ h k=>?_
           · refine oE h fun Ax At h=>gl 2 [bF m 0 Aa z] k z fun k=>cC k m call39 z (c_spec_l1In fu _ _ _  At) fun Ba e a k m=>ul 5 k z fun k=>fS h k m z z
           refine ul 8 k z fun k=>fS h k m z z
         refine ul 13 k z fun k=>fS h k m z z
       refine ul 18 k z fun k=>fS h k m z z
     refine ul 23 k z fun k=>fS h k m z z
   refine ul 28 k z fun k=>fS h k m z z
 refine ul 33 k z fun k=>fS h k m z z
theorem c_spec_ItemOk (fu) {w0} (x1) {r} (h:d_spec_ItemOk fu x1 = some r):cS 195 [.agg (Flat.e (x1)).toArray] w0 (.bool (r)):=by
 refine eg func195 z ntmps195 z fun k m=>uc 2 k z fun k=>s_box m k z z z z z z fun b2 w4 a k m e Aa=>oE h fun x5 Aj h=>gl 7 [bF m 0 Aa z] k z fun k=>cC k m call79 z (c_spec_l2Id fu _  Aj) fun w9 e a k m=>pN 1 k z fun a k=>bS h k 6 z (fun _ h k=>?_) fun _ h k=>?_
 · refine oE h fun Ai Ah h=>gl 2 [bF m 0 Aa z] k z fun k=>cC k m call264 z (c_spec_l2Side fu _  Ah) fun Aw e a k m=>pN 2 k z fun a k=>bS h k 11 z (fun _ h k=>?_) fun _ h k=>?_
   · refine oE h fun Al As h=>gl 2 [bF m 0 Aa z] k z fun k=>cC k m call264 z (c_spec_l2Side fu _  As) fun Av e a k m=>pN 2 k z fun a k=>bS h k 16 z (fun _ h k=>?_) fun _ h k=>?_
     · refine oE h fun Ak Ar h=>gl 2 [bF m 0 Aa z] k z fun k=>cC k m call264 z (c_spec_l2Side fu _  Ar) fun Ay e a k m=>pN 2 k z fun a k=>bS h k 21 z (fun _ h k=>?_) fun _ h k=>?_
       · refine oE h fun Aq Ao h=>gl 2 [bF m 0 Aa z] k z fun k=>cC k m call39 z (c_spec_l1In fu _ _ _  Ao) fun Au e a k m=>pN 2 k z fun a k=>bS h k 26 z (fun _ h k=>?_) fun _ h k=>?_
         · refine oE h fun Am Ap h=>gl 2 [bF m 0 Aa z] k z fun k=>cC k m call39 z (c_spec_l1In fu _ _ _  Ap) fun Az e a k m=>pN 2 k z fun a k=>bS h k 31 z (fun _ h k=>?_) fun _ h k=>?_
           · refine oE h fun Ax At h=>gl 2 [bF m 0 Aa z] k z fun k=>cC k m call39 z (c_spec_l1In fu _ _ _  At) fun Ba e a k m=>ul 5 k z fun k=>fS h k m z z
           refine ul 8 k z fun k=>fS h k m z z
         refine ul 13 k z fun k=>fS h k m z z
       refine ul 18 k z fun k=>fS h k m z z
     refine ul 23 k z fun k=>fS h k m z z
   refine ul 28 k z fun k=>fS h k m z z
 refine ul 33 k z fun k=>fS h k m z z
theorem c_spec_BoundsOk (fu) {w0} (r1) {Au F3} (Bg:rd w0 F3 Au r1) {r} (h:d_spec_BoundsOk fu r1 = some r):cS 117 [.agg Au.toArray] w0 (.bool (r)):=by
 refine eg func117 z ntmps117 z fun k m=>?_;obtain ⟨v5,F6,v7,F8,v9,By,rfl,rfl,Ac,Ai,Ad⟩:=Bg;refine uc 2 k z fun k=>s_box m k z z z z z z fun Ab Ao a k m e Aa=>ul 3 k z fun k=>cg (fun a w=>K 111 [(1,pt Ab)] a ∧ St [] w0 w [([Ab],Ao)] ∧ d_spec_BoundsOk_J2 fu r1 = some r) ?_ ?_
 · rintro a Cq ⟨k,m,h⟩;refine uc 7 k z fun k=>lG (fun n a w=>∃ Ae,K 111 [(1,pt Ab),(3,I Ae)] a ∧ St [] w0 w [([Ab],Ao)] ∧ d_spec_BoundsOk_L3 fu r1 n Ae = some r) ?_ fu ?_
   · rintro Bi a Cn ⟨Ae,k,m,h⟩;refine gc 10 [bF m 0 Aa z,lF Ac] k z fun k=>cJ h k z (fun h=>?_) fun h=>?_
     · refine uc 2 k z fun k=>cg (fun a w=>K 111 [(1,pt Ab),(3,I Ae)] a ∧ St [] w0 w [([Ab],Ao)] ∧ d_spec_BoundsOk_J1 fu (d_spec_BoundsOk_L3 fu r1 Bi) Ae = some r) ?_ ?_
       · rintro a Co ⟨k,m,h⟩;refine uc 6 k z fun k=>?_;exact ⟨_,k.p z,m.sl [0] z,h⟩
       refine o2 h fun Bz As Bs Bq h=>gc 9 [bF m 0 Aa z,iF Ac As,eF (m.r Ac) As 0] k z fun k=>cC k m call39 z (c_spec_l1In fu _ _ _  Bq) fun Ck e a k m=>pN 2 k z fun a k=>bS h k 63 z (fun _ h k=>?_) fun _ h k=>?_
       · refine ul 23 k z fun k=>fS h k m z z
       refine o2 h fun Ce Cv Bx Bk h=>gl 6 [bF m 0 Aa z,iF Ac As,eF (m.r Ac) As 1] k z fun k=>cC k m call39 z (c_spec_l1In fu _ _ _  Bk) fun Cb e a k m=>ul 4 k z fun k=>cJ h k z (fun h=>?_) fun h=>?_
       · refine uc 11 k z fun k=>fS h k m z z
       refine uc 3 k z fun k=>?_;exact ⟨k.p z,m.sl [0] z,h⟩
     refine uc 12 k z fun k=>lG (fun n a w=>∃ Aq,K 111 [(1,pt Ab),(4,I Aq)] a ∧ St [] w0 w [([Ab],Ao)] ∧ d_spec_BoundsOk_L2 fu r1 n Aq = some r) ?_ fu ?_
     · rintro Cd a Cu ⟨Aq,k,m,h⟩;refine gc 10 [bF m 0 Aa z,lF Ai] k z fun k=>cJ h k z (fun h=>?_) fun h=>?_
       · refine o2 h fun Bh Aw Cs Bj h=>gc 11 [bF m 0 Aa z,iF Ai Aw,eA (m.r Ai) Aw] k z fun k=>cC k m call194 z (c_spec_TypeOk fu (Bh:Typ)  Bj) fun Ct e a k m=>ul 3 k z fun k=>cJ h k z (fun h=>?_) fun h=>?_
         · refine uc 11 k z fun k=>fS h k m z z
         refine uc 9 k z fun k=>?_;exact ⟨_,k.p z,m.sl [0] z,h⟩
       refine uc 17 k z fun k=>lG (fun n a w=>∃ Ar At,K 111 [(1,pt Ab),(5,I Ar),(6,I At)] a ∧ St [] w0 w [([Ab],Ao)] ∧ d_spec_BoundsOk_L1 fu r1 n Ar At = some r) ?_ fu ?_
       · rintro Ch a Cp ⟨Ar,At,k,m,h⟩;refine gc 10 [bF m 0 Aa z,lF Ad] k z fun k=>cJ h k z (fun h=>?_) fun h=>?_
         · refine o2 h fun Av Ap Cr Ay h=>gc 12 [bF m 0 Aa z,iF Ad Ap,eA (m.r Ad) Ap] k z fun k=>cC k m call195 z (c_spec_ItemOk fu (Av:Item)  Ay) fun Cc e a k m=>ul 3 k z fun k=>cJ h k z (fun h=>?_) fun h=>?_
           · refine uc 12 k z fun k=>fS h k m z z
           refine oE h fun Cl Cj h=>gc 21 [bF m 0 Aa z,iF Ad Ap,eF (m.r Ad) Ap 6] k z fun k=>?_;exact ⟨_,_,k.p z,m.sl [0] z,h⟩
         refine uc 13 k z fun k=>fS h k m z z
       exact ⟨_,_,k.p z,m.sl [0] z,h⟩
     exact ⟨_,k.p z,m.sl [0] z,h⟩
   exact ⟨_,k.p z,m.sl [0] z,h⟩
 refine oE h fun Bt Bf h=>gc 4 [bF m 0 Aa z] k z fun k=>cC k m call39 z (c_spec_l1In fu _ _ _  Bf) fun Bw e a k m=>pN 2 k z fun a k=>bS h k 11 z (fun _ h k=>?_) fun _ h k=>?_
 · refine ul 46 k z fun k=>fS h k m z z
 refine oE h fun Bl Bo h=>gl 2 [bA m 0 Aa z] k z fun k=>cC k m call193 z (c_spec_PalletOk fu (r1.fPallet:Pallet)  Bo) fun Ci e a k m=>pN 3 k z fun a k=>bS h k 17 z (fun _ h k=>?_) fun _ h k=>?_
 · refine ul 40 k z fun k=>fS h k m z z
 refine oE h fun Bu Ax h=>gl 2 [bF m 0 Aa z] k z fun k=>cC k m call39 z (c_spec_l1In fu _ _ _  Ax) fun Ca e a k m=>pN 3 k z fun a k=>bS h k 23 z (fun _ h k=>?_) fun _ h k=>?_
 · refine ul 34 k z fun k=>fS h k m z z
 refine gl 6 [bF m 0 Aa z,lF Ac] k z fun k=>bS h k 29 z (fun _ h k=>?_) fun _ h k=>?_
 · refine ul 28 k z fun k=>fS h k m z z
 refine oE h fun Bn Bp h=>gl 3 [bF m 0 Aa z,lF Ai] k z fun k=>cC k m call39 z (c_spec_l1In fu _ _ _  Bp) fun Cg e a k m=>pN 3 k z fun a k=>bS h k 36 z (fun _ h k=>?_) fun _ h k=>?_
 · refine ul 21 k z fun k=>fS h k m z z
 refine oE h fun Bd Az h=>gl 2 [bF m 0 Aa z] k z fun k=>cC k m call79 z (c_spec_l2Id fu _  Az) fun Cm e a k m=>pN 3 k z fun a k=>bS h k 42 z (fun _ h k=>?_) fun _ h k=>?_
 · refine ul 15 k z fun k=>fS h k m z z
 refine gl 7 [bF m 0 Aa z,lF Ad] k z fun k=>cJ h k z (fun h=>?_) fun h=>?_
 · refine uc 7 k z fun k=>fS h k m z z
 refine uc 2 k z fun k=>?_;exact ⟨k.p z,m.sl [0] z,h⟩
theorem c_spec_MasterOf (fu) {w0} (r1) {Ah F3} (Al:rd w0 F3 Ah r1) {r} (h:d_spec_MasterOf fu r1 = some r):cS 120 [.agg Ah.toArray] w0 (.tuple #[.agg (Flat.e r.1).toArray,.bool (r.2)]):=by
 refine eg func120 z ntmps120 z fun k m=>?_;obtain ⟨v5,F6,v7,F8,v9,Av,rfl,rfl,Aw,Aa,Ay⟩:=Al;refine uc 2 k z fun k=>s_box m k z z z z z z fun Ag Ao a k m e Ad=>s_alloc m k zeroValue61 z z z z z fun Ai Am a k m e Af=>ul 10 k z fun k=>lG (fun n a w=>∃ Ac,K 27 [(1,pt Ag),(2,pt Ai),(4,I Ac)] a ∧ St [] w0 w [([Ag],Ao),([Ai],Am)] ∧ d_spec_MasterOf_L1 fu r1 n Ac = some r) ?_ fu ?_
 · rintro As a Az ⟨Ac,k,m,h⟩;refine gc 10 [bF m 0 Ad z,lF Aa] k z fun k=>cJ h k z (fun h=>?_) fun h=>?_
   · refine uc 5 k z fun k=>d_go [] mixo m z fun Aj hMd=>?_;have m:=hMd;have s:=Ext.refl ([]:List Nat) Aj;refine oE h fun Ab Ae h=>dr [2,0,1,3,4,5,6,7,8] 9 [bF hMd 0 Ad z,iF Aa Ae,eF (hMd.r Aa) Ae 0,bF hMd 0 Ad z] k z s fun k=>dD ((nm_then ?_));refine cJ h k z (fun h=>?_) fun h=>?_
     · refine oE h fun Au At h=>gc 7 [bF m 0 Ad z,iF Aa Ae,eA (m.r Aa) Ae] k z fun k=>sT sizeOf61 m 1 Af 0 k z z fun Ba a k e m Ap=>ul 9 k z fun k=>?_;cases h;exact finR2 k z (RV.cA k z ta61 (Ap.at (m.a 1 z) 0 7 z z z) z) (RV.tmp k z) ⟨z,m.ext⟩
     refine uc 9 k z fun k=>?_;exact ⟨_,k.p z,m.sl [0,1] z,h⟩
   refine uc 7 k z fun k=>sv k z (r_build bt61 k (cs:=#[I 0,I 0,I 0,I 0,I 0,I 0,I 0]) (ps:=[]) z z (by kernel_rfl)) fun a k=>sT sizeOf61 m 1 Af 0 k z z fun Ax a k e m Ak=>ul 4 k z fun k=>?_;cases h;exact finR2 k z (RV.cA k z ta61 (Ak.at (m.a 1 z) 0 7 z z z) z) (RV.tmp k z) ⟨z,m.ext⟩
 exact ⟨_,k.p z,m.sl [1,0] z,h⟩
theorem c_spec_l5Names (fu) {w0} (r1) {As F3} (Bb:rd w0 F3 As r1) {r} (h:d_spec_l5Names fu r1 = some r):cS 118 [.agg As.toArray] w0 (.bool (r)):=by
 refine eg func118 z ntmps118 z fun k m=>?_;obtain ⟨v5,F6,v7,F8,v9,Bu,rfl,rfl,Ad,Ae,Ab⟩:=Bb;refine uc 2 k z fun k=>s_box m k z z z z z z fun Ac Aj a k m e Aa=>ul 10 k z fun k=>lG (fun n a w=>∃ Ah,K 102 [(1,pt Ac),(3,I Ah)] a ∧ St [] w0 w [([Ac],Aj)] ∧ d_spec_l5Names_L5 fu r1 n Ah = some r) ?_ fu ?_
 · rintro Bk a Cj ⟨Ah,k,m,h⟩;refine gc 10 [bF m 0 Aa z,lF Ae] k z fun k=>cJ h k z (fun h=>?_) fun h=>?_
   · refine uc 10 k z fun k=>lG (fun n a w=>∃ Am,K 102 [(1,pt Ac),(3,I Ah),(4,I Am)] a ∧ St [] w0 w [([Ac],Aj)] ∧ d_spec_l5Names_L1 fu (d_spec_l5Names_L5 fu r1 Bk) r1 Ah n Am = some r) ?_ fu ?_
     · rintro Ck a Cd ⟨Am,k,m,h⟩;refine uc 8 k z fun k=>cJ h k z (fun h=>?_) fun h=>?_
       · refine uc 5 k z fun k=>d_go [] mixo m z fun Bo hMd=>?_;have m:=hMd;have s:=Ext.refl ([]:List Nat) Bo;refine o2 h fun Ce At Bw Ap h=>dr [2,8,0,1,3,4,5,6,7,9,10,11,12] 13 [bF hMd 0 Aa z,iF Ae At,eF (hMd.r Ae) At 0,bF hMd 0 Aa z,iF Ae Ap,eF (hMd.r Ae) Ap 0] k z s fun k=>dD ((nm_then ?_));refine cJ h k z (fun h=>?_) fun h=>?_
         · refine uc 15 k z fun k=>fS h k m z z
         refine uc 9 k z fun k=>?_;exact ⟨_,k.p z,m.sl [0] z,h⟩
       refine uc 12 k z fun k=>?_;exact ⟨_,k.p z,m.sl [0] z,h⟩
     exact ⟨_,k.p z,m.sl [0] z,h⟩
   refine uc 12 k z fun k=>lG (fun n a w=>∃ Ai,K 102 [(1,pt Ac),(5,I Ai)] a ∧ St [] w0 w [([Ac],Aj)] ∧ d_spec_l5Names_L4 fu r1 n Ai = some r) ?_ fu ?_
   · rintro Aw a Bz ⟨Ai,k,m,h⟩;refine gc 10 [bF m 0 Aa z,lF Ab] k z fun k=>cJ h k z (fun h=>?_) fun h=>?_
     · refine uc 6 k z fun k=>d_go [] mixo m z fun Be hMd=>?_;have m:=hMd;have s:=Ext.refl ([]:List Nat) Be;refine oE h fun Ca Aq h=>dr [2,0,1,3,4,5,6,7,8] 9 [bF hMd 0 Aa z,iF Ab Aq,eF (hMd.r Ab) Aq 5,bF hMd 0 Aa z] k z s fun k=>dD ((nm_then ?_));refine cJ h k z (fun h=>?_) fun h=>?_
       · refine uc 12 k z fun k=>fS h k m z z
       refine uc 8 k z fun k=>lG (fun n a w=>∃ Al,K 102 [(1,pt Ac),(5,I Ai),(6,I Al)] a ∧ St [] w0 w [([Ac],Aj)] ∧ d_spec_l5Names_L2 fu (d_spec_l5Names_L4 fu r1 Aw) r1 Ai n Al = some r) ?_ fu ?_
       · rintro Ci a Cg ⟨Al,k,m,h⟩;refine uc 8 k z fun k=>cJ h k z (fun h=>?_) fun h=>?_
         · refine uc 5 k z fun k=>d_go [] mixo m z fun Av hMd=>?_;have m:=hMd;have s:=Ext.refl ([]:List Nat) Av;refine o2 h fun Bp Ar Bq Au h=>dr [2,8,0,1,3,4,5,6,7,9,10,11,12] 13 [bF hMd 0 Aa z,iF Ab Ar,eF (hMd.r Ab) Ar 0,bF hMd 0 Aa z,iF Ab Au,eF (hMd.r Ab) Au 0] k z s fun k=>dD ((nm_then ?_));refine cJ h k z (fun h=>?_) fun h=>?_
           · refine uc 15 k z fun k=>fS h k m z z
           refine uc 9 k z fun k=>?_;exact ⟨_,k.p z,m.sl [0] z,h⟩
         refine uc 12 k z fun k=>?_;exact ⟨_,k.p z,m.sl [0] z,h⟩
       exact ⟨_,k.p z,m.sl [0] z,h⟩
     refine uc 12 k z fun k=>lG (fun n a w=>∃ Ag,K 102 [(1,pt Ac),(7,I Ag)] a ∧ St [] w0 w [([Ac],Aj)] ∧ d_spec_l5Names_L3 fu r1 n Ag = some r) ?_ fu ?_
     · rintro Bn a Ch ⟨Ag,k,m,h⟩;refine gc 10 [bF m 0 Aa z,lF Ad] k z fun k=>cJ h k z (fun h=>?_) fun h=>?_
       · refine uc 2 k z fun k=>cg (fun a w=>K 102 [(1,pt Ac),(7,I Ag)] a ∧ St [] w0 w [([Ac],Aj)] ∧ d_spec_l5Names_J1 fu (d_spec_l5Names_L3 fu r1 Bn) Ag = some r) ?_ ?_
         · rintro a Br ⟨k,m,h⟩;refine uc 6 k z fun k=>?_;exact ⟨_,k.p z,m.sl [0] z,h⟩
         refine uc 2 k z fun k=>d_go [] mixo m z fun Bl hMd=>?_;have m:=hMd;have s:=Ext.refl ([]:List Nat) Bl;refine oE h fun Bf Ao h=>dr [2,0,1,3,4,5,6,7,8,9] 10 [bF hMd 0 Aa z,iF Ad Ao,eF (hMd.r Ad) Ao 0,bF hMd 0 Aa z] k z s fun k=>bS h k 85 z (fun _ h k=>?_) fun _ h k=>?_
         · refine dM [10,11,12,13,14,15,16,17,18,19] 10 z k z s fun a k=>dD ?_;refine (nm_then ?_);refine uc 12 k z fun k=>fS h k m z z
         refine oE h fun Bv Cb h=>dr [12,10,11,13,14,15,16,17,18,19] 10 [bF hMd 0 Aa z,iF Ad Ao,eF (hMd.r Ad) Ao 1,bF hMd 0 Aa z] k z s fun k=>dD ?_;refine (nm_then ?_);refine cJ h k z (fun h=>?_) fun h=>?_
         · refine uc 11 k z fun k=>fS h k m z z
         refine uc 3 k z fun k=>?_;exact ⟨k.p z,m.sl [0] z,h⟩
       refine oE h fun Af Ax h=>gc 8 [bA m 0 Aa z] k z fun k=>cC k m call120 z (c_spec_MasterOf fu _ (mkRequest (m.r Ad) (m.r Ae) (m.r Ab)) Ax) fun By e a k m=>pN 3 k z fun a k=>s_alloc m k zeroValue61 z z z z z fun Bt Bx a k m e Ay=>sT sizeOf61 m 0 Ay 0 k z z fun Bs a k e m Cc=>ul 10 k z fun k=>fS h k m z z
     exact ⟨_,k.p z,m.sl [0] z,h⟩
   exact ⟨_,k.p z,m.sl [0] z,h⟩
 exact ⟨_,k.p z,m.sl [0] z,h⟩
theorem c_spec_Beside (fu) {w0} (Ad a5 b6) {v2 F3} (Aa:rd w0 F3 [v2] Ad) {r} (h:d_spec_Beside fu Ad a5 b6 = some r):cS 196 [v2,I a5,I b6] w0 (.bool (r)):=by
 refine eg func196 z ntmps196 z fun k m=>uc 12 k z fun k=>lG (fun n a w=>∃ Ab,K 30 [(0,v2),(1,I a5),(2,I b6),(7,I Ab)] a ∧ St [] w0 w [] ∧ d_spec_Beside_L1 fu Ad a5 b6 n Ab = some r) ?_ fu ?_
 · rintro Af a Al ⟨Ab,k,m,h⟩;refine gc 9 [lF Aa] k z fun k=>cJ h k z (fun h=>?_) fun h=>?_
   · refine uc 2 k z fun k=>cg (fun a w=>K 30 [(0,v2),(1,I a5),(2,I b6),(7,I Ab)] a ∧ St [] w0 w [] ∧ d_spec_Beside_J1 fu (d_spec_Beside_L1 fu Ad a5 b6 Af) Ab = some r) ?_ ?_
     · rintro a Ak ⟨k,m,h⟩;refine uc 6 k z fun k=>?_;exact ⟨_,k.p z,m.sl [] z,h⟩
     refine oE h fun Ag Ae h=>gc 11 [iF Aa Ae,eF (m.r Aa) Ae 0] k z fun k=>bS h k 21 z (fun _ h k=>?_) fun _ h k=>?_
     · refine oE h fun Aj Am h=>gl 10 [iF Aa Ae,eF (m.r Aa) Ae 1] k z fun k=>cJ h k z (fun h=>?_) fun h=>?_
       · refine uc 11 k z fun k=>fS h k m z z
       refine uc 3 k z fun k=>?_;exact ⟨k.p z,m.sl [] z,h⟩
     refine ul 14 k z fun k=>?_;exact ⟨k.p z,m.sl [] z,h⟩
   refine uc 11 k z fun k=>fS h k m z z
 exact ⟨_,k.p z,m.sl [] z,h⟩
theorem c_spec_TableOk (fu) {w0} (Ad Ab) {v2 F3} (Aa:rd w0 F3 [v2] Ad) {r} (h:d_spec_TableOk fu Ad Ab = some r):cS 119 [v2,I Ab] w0 (.bool (r)):=by
 refine eg func119 z ntmps119 z fun k m=>oE h fun x6 Ak h=>uc 9 k z fun k=>cC k m call39 z (c_spec_l1In fu _ _ _  Ak) fun w9 e a k m=>ul 3 k z fun k=>cJ h k z (fun h=>?_) fun h=>?_
 · refine uc 7 k z fun k=>fS h k m z z
 refine uc 9 k z fun k=>lG (fun n a w=>∃ Ac,K 41 [(0,v2),(1,I Ab),(5,I Ac)] a ∧ St [] w0 w [] ∧ d_spec_TableOk_L2 fu Ad Ab n Ac = some r) ?_ fu ?_
 · rintro Ah a Bc ⟨Ac,k,m,h⟩;refine uc 8 k z fun k=>cJ h k z (fun h=>?_) fun h=>?_
   · refine uc 10 k z fun k=>lG (fun n a w=>∃ Ae,K 41 [(0,v2),(1,I Ab),(5,I Ac),(6,I Ae)] a ∧ St [] w0 w [] ∧ d_spec_TableOk_L1 fu (d_spec_TableOk_L2 fu Ad Ab Ah) Ad Ab Ac n Ae = some r) ?_ fu ?_
     · rintro Ao a Ba ⟨Ae,k,m,h⟩;refine uc 8 k z fun k=>cJ h k z (fun h=>?_) fun h=>?_
       · refine uc 2 k z fun k=>cg (fun a w=>K 41 [(0,v2),(1,I Ab),(5,I Ac),(6,I Ae)] a ∧ St [] w0 w [] ∧ d_spec_TableOk_J1 fu (d_spec_TableOk_L1 fu (d_spec_TableOk_L2 fu Ad Ab Ah) Ad Ab Ac Ao) Ae = some r) ?_ ?_
         · rintro a Ay ⟨k,m,h⟩;refine uc 6 k z fun k=>?_;exact ⟨_,k.p z,m.sl [] z,h⟩
         refine uc 7 k z fun k=>bS h k 23 z (fun _ h k=>?_) fun _ h k=>?_
         · refine pN 3 k z fun a k=>oE h fun Ar As h=>cC k m call196 z (c_spec_Beside fu _ _ _ (m.r Aa) As) fun Aw e a k m=>pN 3 k z fun a k=>bS h k 30 z (fun _ h k=>?_) fun _ h k=>?_
           · refine ul 28 k z fun k=>fS h k m z z
           refine pN 3 k z fun a k=>oE h fun Bh Ai h=>cC k m call196 z (c_spec_Beside fu _ _ _ (m.r Aa) Ai) fun Be e a k m=>pN 3 k z fun a k=>oE h fun Ax Ap h=>cC k m call196 z (c_spec_Beside fu _ _ _ (m.r Aa) Ap) fun Bb e a k m=>sv k z (r_neb k underlying4 z z z) fun a k=>ul 3 k z fun k=>cJ h k z (fun h=>?_) fun h=>?_
           · refine uc 15 k z fun k=>fS h k m z z
           refine uc 3 k z fun k=>?_;exact ⟨k.p z,m.sl [] z,h⟩
         refine pN 10 k z fun a k=>oE h fun Az Av h=>cC k m call196 z (c_spec_Beside fu _ _ _ (m.r Aa) Av) fun Bf e a k m=>pN 3 k z fun a k=>oE h fun Bd Am h=>cC k m call196 z (c_spec_Beside fu _ _ _ (m.r Aa) Am) fun Bg e a k m=>sv k z (r_neb k underlying4 z z z) fun a k=>ul 3 k z fun k=>cJ h k z (fun h=>?_) fun h=>?_
         · refine uc 15 k z fun k=>fS h k m z z
         refine uc 3 k z fun k=>?_;exact ⟨k.p z,m.sl [] z,h⟩
       refine uc 12 k z fun k=>?_;exact ⟨_,k.p z,m.sl [] z,h⟩
     exact ⟨_,k.p z,m.sl [] z,h⟩
   refine uc 11 k z fun k=>fS h k m z z
 exact ⟨_,k.p z,m.sl [] z,h⟩
theorem c_spec_l1Places (fu) {w0} (n1) {r} (h:d_spec_l1Places fu n1 = some r):cL 202 [I n1] w0 r:=by
 refine eg func202 z ntmps202 z fun k m=>uc 7 k z fun k=>sB te35 m k z (by exact fN) fun g2 w3 e5 a k m e Al=>?_;have Ao:=ow_bx Al ([]:List Int) z z z;refine ul 10 k z fun k=>lG (fun n a w=>∃ Ac Ae Ab Ad Aa,K 16 [(0,I n1),(3,Ae),(4,I Aa)] a ∧ St [] w0 w [(Ab,Ad)] ∧ ow Ad Ab [Ae] Ac ∧ d_spec_l1Places_L1 fu n1 n Ac Aa = some r) ?_ fu ?_
 · rintro Au a Aw ⟨Ac,Ae,Ab,Ad,Aa,k,m,Af,h⟩;refine uc 8 k z fun k=>cJ h k z (fun h=>?_) fun h=>?_
   · refine uc 7 k z fun k=>sB te35 m k z (by exact fC z fN) fun Av At As a k m e Am=>?_;have Ai:=ow_bx Am ([Aa]:List Int) z z z;refine oE h fun Ak Aj h=>s_appF Aj te35 z m 1 Af (News.rd (m.q Ai 0 z)) z z k z z z z z z z fun Aq Ag Ap a k e m Ah=>ul 10 k z fun k=>?_;exact ⟨_,_,_,_,_,k.p z,m.sl [1] z,Ah,h⟩
   refine uc 12 k z fun k=>?_;cases h;exact finR1 k z (RV.tmp k z) ⟨_,Ab,z,m.ext,(m.v Af 0 z),(m.fresh 0 z)⟩
 exact ⟨_,_,_,_,_,k.p z,m.sl [0] z,Ao,h⟩
theorem c_spec_l1Merge_R (fu:Nat):∀ (nr:Nat) {w0:World} (Ao:List Int) (Bf:List Int) (Ai:Bool) {v2:Value} {F3:List Nat} (Aa:rd w0 F3 [v2] Ao) {v6:Value} {F7:List Nat} (Ak:rd w0 F7 [v6] Bf) {r:(List Int)} (h:d_spec_l1Merge_R fu nr Ao Bf Ai = some r),Calls Tryz.prog 201 #[v2,v6,.bool (Ai)] w0 fun e w=>∃ (v0:Value) (G0:List Nat),e = .returned (v0) ∧ Ext [] w0 w ∧ ow w G0 [v0] r ∧ (∀ b ∈ G0,w0.heap.size ≤ b):=by
 intro nr
 induction nr with
 | zero =>
   intros
   rename_i h
   exact nS h
 | succ nr ih =>
 intro w0 Ao Bf Ai v2 F3 Aa v6 F7 Ak r h;refine eg (vs:=[_,_,_]) func201 z ntmps201 z fun k m=>gc 13 [lF Ak] k z fun k=>cJ h k z (fun h=>?_) fun h=>?_
 · refine uc 2 k z fun k=>sB te35 m k z (by exact fN) fun Fn If Ih a k m e Ce=>?_;have Dp:=ow_bx Ce ([]:List Int) z z z;refine pN 1 k z fun a k=>oE h fun Gm Cj h=>s_appF Cj te35 z m 0 Dp (News.rd (m.r Ak)) z z k z z z z z z z fun Hd Dw Id a k e m Cb=>ul 5 k z fun k=>?_;cases h;exact finR1 k z (RV.tmp k z) ⟨_,Dw,z,m.ext,(m.v Cb 0 z),(m.fresh 0 z)⟩
 refine oE h fun Fy Cs h=>gc 15 [lF Ak] k z fun k=>s_slTo Ak Cs k ts35 z z z z z z fun Ib a k Bi=>pN 1 k z fun a k=>oE h fun Ay Bu h=>sC k call201 z (ih _ _ _ (m.r Aa) (m.r Bi) Bu) fun Hh Bn hR=>?_;obtain ⟨Bp,Bd,rfl,e,Ab,Ep⟩:=hR;refine ⟨_,z,fun a k=>?_⟩;have m:=m.nw e Ep Ab;refine oE h fun Hg Dn h=>ul 8 k z fun k=>s_slFrom Ak Dn k ts35 z z z z z z fun Hx a k Bg=>pN 1 k z fun a k=>oE h fun Ba Cm h=>sC k call201 z (ih _ _ _ (m.r Aa) (m.r Bg) Cm) fun Fz Bq hR=>?_;obtain ⟨Bh,Bb,rfl,e,Ac,Db⟩:=hR;refine ⟨_,z,fun a k=>?_⟩;have m:=m.nw e Db Ac;refine ul 5 k z fun k=>sB te35 m k z (by exact fN) fun Bk Dl Gr a k m e Cl=>?_;have Dd:=ow_bx Cl ([]:List Int) z z z;refine ul 15 k z fun k=>lG (fun n a w=>∃ Ax Az As Aw Ad Af,K 132 [(0,v2),(2,.bool (Ai)),(8,Bp),(9,Bh),(10,Az),(11,I Ad),(12,I Af)] a ∧ St [] w0 w [(Bd,Bn),(Bb,Bq),(As,Aw)] ∧ ow Aw As [Az] Ax ∧ d_spec_l1Merge_L1 fu Ao Ai Ay Ba n Ax Ad Af = some r) ?_ fu ?_
 · rintro Cc a Ht ⟨Ax,Az,As,Aw,Ad,Af,k,m,Ah,h⟩;refine cg (fun a w=>K 132 [(0,v2),(2,.bool (Ai)),(8,Bp),(9,Bh),(10,Az),(11,I Ad),(12,I Af)] a ∧ St [] w0 w [(Bd,Bn),(Bb,Bq),(As,Aw)] ∧ d_spec_l1Merge_J1 fu (d_spec_l1Merge_L1 fu Ao Ai Ay Ba Cc) Ao Ai Ay Ba Ax Ad Af = some r) ?_ ?_
   · rintro a Hf ⟨k,m,h⟩;refine gc 11 [lF (Enc.ow_rd Ac)] k z fun k=>cJ h k z (fun h=>?_) fun h=>?_
     · refine oE h fun Bj Bl h=>gc 7 [iF (Enc.ow_rd Ab) Bl,eF (m.q Ab 0 z) Bl 0] k z fun k=>sB te35 m k z (by exact fC z fN) fun Hv Hj Fm a k m e Ee=>?_;have Eu:=ow_bx Ee ([Bj]:List Int) z z z;refine oE h fun Dr Bw h=>s_appF Bw te35 z m 3 Ah (News.rd (m.q Eu 0 z)) z z k z z z z z z z fun En Em Ek a k e m Cw=>ul 11 k z fun k=>?_;exact ⟨_,_,_,_,_,_,k.p z,m.sl [1,2,3] z,Cw,h⟩
     refine gc 9 [lF (Enc.ow_rd Ab)] k z fun k=>cJ h k z (fun h=>?_) fun h=>?_
     · refine oE h fun Bm Bo h=>gc 7 [iF (Enc.ow_rd Ac) Bo,eF (m.q Ac 1 z) Bo 0] k z fun k=>sB te35 m k z (by exact fC z fN) fun Gc Gx Gz a k m e Ed=>?_;have De:=ow_bx Ed ([Bm]:List Int) z z z;refine oE h fun Fe Df h=>s_appF Df te35 z m 3 Ah (News.rd (m.q De 0 z)) z z k z z z z z z z fun Cy Ff Bx a k e m Ci=>ul 11 k z fun k=>?_;exact ⟨_,_,_,_,_,_,k.p z,m.sl [1,2,3] z,Ci,h⟩
     refine uc 1 k z fun k=>d_go [] mixo m z fun El hMd=>?_;have m:=hMd;have s:=Ext.refl ([]:List Nat) El;refine o2 h fun Am Ag Bc Ap h=>o2 h fun Aj Ae Be Al h=>dr [0,1,2,7,8,9,3,4,5,6,10,11,12,13,14,15] 16 [iF (Enc.ow_rd Ac) Ag,eF (hMd.q Ac 1 z) Ag 0,iF Aa Ap,eF (hMd.r Aa) Ap 0,iF (Enc.ow_rd Ab) Ae,eF (hMd.q Ab 0 z) Ae 0,iF Aa Al,eF (hMd.r Aa) Al 0] k z s fun k=>bS h k 98 z (fun _ h k=>?_) fun _ h k=>?_
     · refine dM [16,17,18,19] 4 z k z s fun a k=>bS h k 102 z (fun _ h k=>?_) fun _ h k=>?_
       · refine dM [20,21,22,23,24,25,26,27,28,29,30,31,32,33,34,35,36,37,38,39] 20 z k z s fun a k=>dD ?_;refine (nm_then ?_);refine oE h fun He Fs h=>gc 8 [iF (Enc.ow_rd Ac) Ag,eF (m.q Ac 1 z) Ag 0] k z fun k=>sB te35 m k z (by exact fC z fN) fun Ii Gw Ig a k m e Fa=>?_;have Dq:=ow_bx Fa ([Am]:List Int) z z z;refine oE h fun Ea Fg h=>s_appF Fg te35 z m 3 Ah (News.rd (m.q Dq 0 z)) z z k z z z z z z z fun Cv Dx Bt a k e m Dj=>ul 11 k z fun k=>?_;exact ⟨_,_,_,_,_,_,k.p z,m.sl [1,2,3] z,Dj,h⟩
       refine o2 h fun Fp Hy Fk Hu h=>o2 h fun Fu Gt Ft Hz h=>dr [20,21,22,27,28,29,23,24,25,26,30,31,32,33,34,35] 16 [iF (Enc.ow_rd Ac) Ag,eF (hMd.q Ac 1 z) Ag 0,iF Aa Ap,eF (hMd.r Aa) Ap 0,iF (Enc.ow_rd Ab) Ae,eF (hMd.q Ab 0 z) Ae 0,iF Aa Al,eF (hMd.r Aa) Al 0] k z s fun k=>bS h k 118 z (fun _ h k=>?_) fun _ h k=>?_
       · refine dM [36,37,38,39] 4 z k z s fun a k=>dD ?_;refine (nm_then ?_);refine cJ h k z (fun h=>?_) fun h=>?_
         · refine oE h fun Gh Ho h=>gc 7 [iF (Enc.ow_rd Ac) Ag,eF (m.q Ac 1 z) Ag 0] k z fun k=>sB te35 m k z (by exact fC z fN) fun Hq Gl Gb a k m e Cq=>?_;have Ey:=ow_bx Cq ([Am]:List Int) z z z;refine oE h fun Dz Cr h=>s_appF Cr te35 z m 3 Ah (News.rd (m.q Ey 0 z)) z z k z z z z z z z fun Du Fi Ex a k e m Do=>ul 11 k z fun k=>?_;exact ⟨_,_,_,_,_,_,k.p z,m.sl [1,2,3] z,Do,h⟩
         refine oE h fun Gq Hm h=>gc 7 [iF (Enc.ow_rd Ab) Ae,eF (m.q Ab 0 z) Ae 0] k z fun k=>sB te35 m k z (by exact fC z fN) fun Ie Fl Hb a k m e Fc=>?_;have Ej:=ow_bx Fc ([Aj]:List Int) z z z;refine oE h fun Ch Br h=>s_appF Br te35 z m 3 Ah (News.rd (m.q Ej 0 z)) z z k z z z z z z z fun Eg Ds Cn a k e m Fd=>ul 11 k z fun k=>?_;exact ⟨_,_,_,_,_,_,k.p z,m.sl [1,2,3] z,Fd,h⟩
       refine dM [36,37,38,39] 4 z k z s fun a k=>dD ?_;refine (nm_then ?_);refine oE h fun Fv Ia h=>gc 8 [iF (Enc.ow_rd Ab) Ae,eF (m.q Ab 0 z) Ae 0] k z fun k=>sB te35 m k z (by exact fC z fN) fun Gn Gj Gv a k m e Cg=>?_;have Dt:=ow_bx Cg ([Aj]:List Int) z z z;refine oE h fun Dv Cd h=>s_appF Cd te35 z m 3 Ah (News.rd (m.q Dt 0 z)) z z k z z z z z z z fun Cz Ei Eh a k e m Di=>ul 11 k z fun k=>?_;exact ⟨_,_,_,_,_,_,k.p z,m.sl [1,2,3] z,Di,h⟩
     refine o2 h fun Hl Hw Ic Gy h=>o2 h fun Gi Ga Hp Gd h=>dr [16,17,18,19,20,21,22,27,28,29,23,24,25,26,30,31,32,33,34,35] 20 [iF (Enc.ow_rd Ac) Ag,eF (hMd.q Ac 1 z) Ag 0,iF Aa Ap,eF (hMd.r Aa) Ap 0,iF (Enc.ow_rd Ab) Ae,eF (hMd.q Ab 0 z) Ae 0,iF Aa Al,eF (hMd.r Aa) Al 0] k z s fun k=>bS h k 118 z (fun _ h k=>?_) fun _ h k=>?_
     · refine dM [36,37,38,39] 4 z k z s fun a k=>dD ?_;refine (nm_then ?_);refine cJ h k z (fun h=>?_) fun h=>?_
       · refine oE h fun Hn Hk h=>gc 7 [iF (Enc.ow_rd Ac) Ag,eF (m.q Ac 1 z) Ag 0] k z fun k=>sB te35 m k z (by exact fC z fN) fun Fq Gk Gp a k m e Ev=>?_;have Ca:=ow_bx Ev ([Am]:List Int) z z z;refine oE h fun Dg Fh h=>s_appF Fh te35 z m 3 Ah (News.rd (m.q Ca 0 z)) z z k z z z z z z z fun Cu Bz Er a k e m Ck=>ul 11 k z fun k=>?_;exact ⟨_,_,_,_,_,_,k.p z,m.sl [1,2,3] z,Ck,h⟩
       refine oE h fun Hr Ha h=>gc 7 [iF (Enc.ow_rd Ab) Ae,eF (m.q Ab 0 z) Ae 0] k z fun k=>sB te35 m k z (by exact fC z fN) fun Hi Gf Gg a k m e Dc=>?_;have Cp:=ow_bx Dc ([Aj]:List Int) z z z;refine oE h fun Bv Bs h=>s_appF Bs te35 z m 3 Ah (News.rd (m.q Cp 0 z)) z z k z z z z z z z fun Dh Ec Dk a k e m Dm=>ul 11 k z fun k=>?_;exact ⟨_,_,_,_,_,_,k.p z,m.sl [1,2,3] z,Dm,h⟩
     refine dM [36,37,38,39] 4 z k z s fun a k=>dD ?_;refine (nm_then ?_);refine oE h fun Ge Fj h=>gc 8 [iF (Enc.ow_rd Ab) Ae,eF (m.q Ab 0 z) Ae 0] k z fun k=>sB te35 m k z (by exact fC z fN) fun Gu Hc Fw a k m e Ew=>?_;have Et:=ow_bx Ew ([Aj]:List Int) z z z;refine oE h fun Eb Eo h=>s_appF Eo te35 z m 3 Ah (News.rd (m.q Et 0 z)) z z k z z z z z z z fun Ct By Es a k e m Da=>ul 11 k z fun k=>?_;exact ⟨_,_,_,_,_,_,k.p z,m.sl [1,2,3] z,Da,h⟩
   refine gc 7 [lF (Enc.ow_rd Ab)] k z fun k=>bS h k 39 z (fun _ h k=>?_) fun _ h k=>?_
   · refine ul 10 k z fun k=>?_;exact ⟨k.p z,m.sl [0,1,2] z,h⟩
   refine gl 7 [lF (Enc.ow_rd Ac)] k z fun k=>cJ h k z (fun h=>?_) fun h=>?_
   · refine uc 2 k z fun k=>?_;exact ⟨k.p z,m.sl [0,1,2] z,h⟩
   refine uc 12 k z fun k=>?_;cases h;exact finR1 k z (RV.tmp k z) ⟨_,As,z,m.ext,(m.v Ah 2 z),(m.fresh 2 z)⟩
 exact ⟨_,_,_,_,_,_,k.p z,m.sl [2,1,0] z,Dd,h⟩
theorem c_spec_l1Merge (fu:Nat) {w0:World} (Aa:List Int) (Ab:List Int) (Ac:Bool) {v2:Value} {F3:List Nat} (Ae:rd w0 F3 [v2] Aa) {v6:Value} {F7:List Nat} (Ad:rd w0 F7 [v6] Ab) {r:(List Int)}
    (h:d_spec_l1Merge fu Aa Ab Ac = some r):Calls Tryz.prog 201 #[v2,v6,.bool (Ac)] w0 fun e w=>∃ (v0:Value) (G0:List Nat),e = .returned (v0) ∧ Ext [] w0 w ∧ ow w G0 [v0] r ∧ (∀ b ∈ G0,w0.heap.size ≤ b) :=
  c_spec_l1Merge_R fu fu Aa Ab Ac Ae Ad h

theorem c_spec_SortUp (fu) {w0} (Ad) {v2 F3} (Ac:rd w0 F3 [v2] Ad) {r} (h:d_spec_SortUp fu Ad = some r):cL 125 [v2] w0 r:=by
 refine eg func125 z ntmps125 z fun k m=>oE h fun x5 Ah h=>gc 10 [lF Ac] k z fun k=>sL k m call202 z (c_spec_l1Places fu _  Ah) fun w9 Al Ai Aa k m=>oE h fun Ak Ag h=>sC k call201 z (c_spec_l1Merge fu _ _ _ (m.r Ac) (m.q Aa 0 z) Ag) fun Ao Ap hR=>?_;obtain ⟨Am,Ae,rfl,e,Ab,Aj⟩:=hR;refine ⟨_,z,fun a k=>?_⟩;have m:=m.nw e Aj Ab;refine ul 4 k z fun k=>?_;cases h;exact finR1 k z (RV.tmp k z) ⟨_,Ae,z,m.ext,(m.v Ab 0 z),(m.fresh 0 z)⟩
theorem c_spec_l5Sides (fu) {w0} (Ac h2 d3) {r} (h:d_spec_l5Sides fu Ac h2 d3 = some r):cL 197 [I Ac,I h2,I d3] w0 r:=by
 refine eg func197 z ntmps197 z fun k m=>uc 10 k z fun k=>sB te35 m k z (by exact fC z (fC z (fC z fN))) fun g4 w5 e7 a k m e At=>?_;have Ab:=ow_bx At ([Ac,h2,d3]:List Int) z z z;refine oE h fun x9 Ao h=>ul 6 k z fun k=>sL k m call125 z (c_spec_SortUp fu _ (m.q Ab 0 z) Ao) fun Be Bb As Aa k m=>ul 4 k z fun k=>d_go [] mixo m z fun Am hMd=>?_;have m:=hMd;have s:=Ext.refl ([]:List Nat) Am;refine o2 h fun Aw Ai Ag Al h=>o2 h fun Bc Ad Ak Ah h=>o2 h fun Ay Af Aj Ae h=>dr [0,1,6,7,12,13,2,3,4,5,8,9,10,11,14,15,16,17] 18 [iF (Enc.ow_rd Aa) Ai,eF (hMd.q Aa 0 z) Ai 0,iF (Enc.ow_rd Ab) Al,eF (hMd.q Ab 1 z) Al 0,iF (Enc.ow_rd Aa) Ad,eF (hMd.q Aa 0 z) Ad 0,iF (Enc.ow_rd Ab) Ah,eF (hMd.q Ab 1 z) Ah 0,iF (Enc.ow_rd Aa) Af,eF (hMd.q Aa 0 z) Af 0,iF (Enc.ow_rd Ab) Ae,eF (hMd.q Ab 1 z) Ae 0] k z s fun k=>dG 18 z (s_bsN te35 m k z z z z z z z (by decide) z (by exact fC z (fC z (fC z fN))) fun Ar Ax Az a k m e Ap Aq=>?_);have Ba:=lo1 (Nat.le_trans s.size Aq);have Au:=ow_bx Ap ([Ag,Ak,Aj]:List Int) z z z;refine ns s e fun s=>dM [19] 1 z k z s fun a k=>dD ?_;refine (nm_then ?_);refine wp_ret ?_;cases h;exact finR1 k z (RV.tmp k z) ⟨_,[Ar],z,m.ext,(m.v Au 0 z),(m.fresh 0 z)⟩
theorem c_spec_Fits (fu) {w0} (x1 t2) {r} (h:d_spec_Fits fu x1 t2 = some r):cS 121 [.agg (Flat.e (x1)).toArray,.agg (Flat.e (t2)).toArray] w0 (.bool (r)):=by
 refine eg func121 z ntmps121 z fun k m=>uc 2 k z fun k=>s_box m k z z z z z z fun b3 w5 a k m e Ag=>s_box m k z z z z z z fun b6 w9 a k m e Af=>oE h fun Bg As h=>gl 11 [bF m 1 Ag z,bF m 1 Ag z,bF m 1 Ag z] k z fun k=>sL k m call197 z (c_spec_l5Sides fu _ _ _  As) fun Be Bd Ap Ab k m=>oE h fun Bb Ay h=>gl 11 [bF m 1 Af z,bF m 1 Af z,bF m 1 Af z] k z fun k=>sL k m call197 z (c_spec_l5Sides fu _ _ _  Ay) fun Bc Bf Ar Aa k m=>ul 4 k z fun k=>d_go [] mixo m z fun At hMd=>?_;have m:=hMd;have s:=Ext.refl ([]:List Nat) At;refine o2 h fun Az Ai Au Al h=>dr [0,3,1,2,4,5,6,7] 8 [iF (Enc.ow_rd Ab) Ai,eF (hMd.q Ab 1 z) Ai 0,iF (Enc.ow_rd Aa) Al,eF (hMd.q Aa 0 z) Al 0] k z s fun k=>bS h k 28 z (fun _ h k=>?_) fun _ h k=>?_
 · refine o2 h fun Ba Ak Av Am h=>dr [8,11,9,10,12,13,14,15,16] 9 [iF (Enc.ow_rd Ab) Ak,eF (hMd.q Ab 1 z) Ak 0,iF (Enc.ow_rd Aa) Am,eF (hMd.q Aa 0 z) Am 0] k z s fun k=>bS h k 37 z (fun _ h k=>?_) fun _ h k=>?_
   · refine o2 h fun Aq Aj Ao Ah h=>dr [17,20,18,19,21,22,23,24,25] 9 [iF (Enc.ow_rd Ab) Aj,eF (hMd.q Ab 1 z) Aj 0,iF (Enc.ow_rd Aa) Ah,eF (hMd.q Aa 0 z) Ah 0] k z s fun k=>bS h k 46 z (fun _ h k=>?_) fun _ h k=>?_
     · refine dr [26,27,28,29,30,31,32] 7 [bF hMd 3 Ag z,bF hMd 2 Af z] k z s fun k=>dD ?_;refine (nm_then ?_);refine wp_ret (fS h k m z z)
     refine dM [26,27,28,29,30,31,32] 7 z k z s fun a k=>dD ?_;refine (nm_then ?_);refine wp_ret (fS h k m z z)
   refine dM [17,18,19,20,21,22,23,24,25,26,27,28,29,30,31,32] 16 z k z s fun a k=>dD ?_;refine (nm_then ?_);refine wp_ret (fS h k m z z)
 refine dM [8,9,10,11,12,13,14,15,16,17,18,19,20,21,22,23,24,25,26,27,28,29,30,31,32] 25 z k z s fun a k=>dD ?_;refine (nm_then ?_);refine wp_ret (fS h k m z z)
theorem c_spec_Class (fu) {w0} (r1) {Ar F3} (Au:rd w0 F3 Ar r1) {r} (h:d_spec_Class fu r1 = some r):cS 62 [.agg Ar.toArray] w0 (I r):=by
 refine eg func62 z ntmps62 z fun k m=>?_;obtain ⟨v5,F6,v7,F8,v9,Bs,rfl,rfl,Af,Ac,Ab⟩:=Au;refine uc 2 k z fun k=>s_box m k z z z z z z fun Ah Ao a k m e Aa=>oE h fun Bu Aw h=>gl 7 [bA m 0 Aa z] k z fun k=>cC k m call117 z (c_spec_BoundsOk fu _ (mkRequest (m.r Af) (m.r Ac) (m.r Ab)) Aw) fun Cd e a k m=>ul 3 k z fun k=>cJ h k z (fun h=>?_) fun h=>?_
 · refine uc 7 k z fun k=>fS h k m z z
 refine oE h fun Cb At h=>gc 6 [bA m 0 Aa z] k z fun k=>cC k m call118 z (c_spec_l5Names fu _ (mkRequest (m.r Af) (m.r Ac) (m.r Ab)) At) fun Bp e a k m=>ul 3 k z fun k=>cJ h k z (fun h=>?_) fun h=>?_
 · refine uc 7 k z fun k=>fS h k m z z
 refine oE h fun Br Ax h=>gc 9 [bF m 0 Aa z,bF m 0 Aa z] k z fun k=>cC k m call119 z (c_spec_TableOk fu _ _ (m.r Af) Ax) fun Bo e a k m=>ul 3 k z fun k=>cJ h k z (fun h=>?_) fun h=>?_
 · refine uc 7 k z fun k=>fS h k m z z
 refine oE h fun Ae Bk h=>gc 5 [bA m 0 Aa z] k z fun k=>cC k m call120 z (c_spec_MasterOf fu _ (mkRequest (m.r Af) (m.r Ac) (m.r Ab)) Bk) fun Bv e a k m=>pN 3 k z fun a k=>s_alloc m k zeroValue61 z z z z z fun Aq Bx a k m e Bh=>sT sizeOf61 m 0 Bh 0 k z z fun Bi a k e m Bd=>ul 10 k z fun k=>lG (fun n a w=>∃ Am,K 85 [(1,pt Ah),(3,pt Aq),(5,I Am)] a ∧ St [] w0 w [([Ah],Ao),([Aq],Bi)] ∧ d_spec_Class_L2 fu r1 Ae n Am = some r) ?_ fu ?_
 · rintro Ca a Bw ⟨Am,k,m,h⟩;refine gc 10 [bF m 0 Aa z,lF Ab] k z fun k=>cJ h k z (fun h=>?_) fun h=>?_
   · refine uc 5 k z fun k=>d_go [] mixo m z fun Bb hMd=>?_;have m:=hMd;have s:=Ext.refl ([]:List Nat) Bb;refine oE h fun Bc Ap h=>dr [2,0,1,3,4,5] 6 [bF hMd 0 Aa z,iF Ab Ap,eA (hMd.r Ab) Ap,bA hMd 1 Bd z] k z s fun k=>dG 6 z (oE h fun Bt Ba h=>?_);refine cC k m call121 z (c_spec_Fits fu (Bc:Item) (Ae.1:Typ)  Ba) fun By e a k m=>ns s e fun s=>dM [7] 1 z k z s fun a k=>dD ((nm_then ?_));refine cJ h k z (fun h=>?_) fun h=>?_
     · refine uc 11 k z fun k=>fS h k m z z
     refine uc 9 k z fun k=>?_;exact ⟨_,k.p z,m.sl [0,1] z,h⟩
   refine uc 12 k z fun k=>lG (fun n a w=>∃ Ag,K 85 [(1,pt Ah),(6,I Ag)] a ∧ St [] w0 w [([Ah],Ao)] ∧ d_spec_Class_L1 fu r1 n Ag = some r) ?_ fu ?_
   · rintro Be a Bn ⟨Ag,k,m,h⟩;refine gc 10 [bF m 0 Aa z,lF Ac] k z fun k=>cJ h k z (fun h=>?_) fun h=>?_
     · refine uc 2 k z fun k=>cg (fun a w=>K 85 [(1,pt Ah),(6,I Ag)] a ∧ St [] w0 w [([Ah],Ao)] ∧ d_spec_Class_J1 fu (d_spec_Class_L1 fu r1 Be) Ag = some r) ?_ ?_
       · rintro a Cc ⟨k,m,h⟩;refine uc 6 k z fun k=>?_;exact ⟨_,k.p z,m.sl [0] z,h⟩
       refine oE h fun Ad As h=>gc 8 [bF m 0 Aa z,iF Ac As,eA (m.r Ac) As] k z fun k=>s_alloc m k zeroValue61 z z z z z fun Ce Bz a k m e Bm=>sT sizeOf61 m 0 Bm 0 k z z fun Bq a k e m Aj=>gl 11 [bF m 0 Aj z,bF m 1 Aa z] k z fun k=>bS h k 58 z (fun _ h k=>?_) fun _ h k=>?_
       · refine ul 40 k z fun k=>fS h k m z z
       refine gl 8 [bF m 0 Aj z,bF m 1 Aa z] k z fun k=>bS h k 66 z (fun _ h k=>?_) fun _ h k=>?_
       · refine ul 32 k z fun k=>fS h k m z z
       refine gl 8 [bF m 0 Aj z,bF m 1 Aa z] k z fun k=>bS h k 74 z (fun _ h k=>?_) fun _ h k=>?_
       · refine ul 24 k z fun k=>fS h k m z z
       refine gl 12 [bF m 0 Aj z,bF m 0 Aj z,bF m 1 Aa z] k z fun k=>cJ h k z (fun h=>?_) fun h=>?_
       · refine uc 11 k z fun k=>fS h k m z z
       refine uc 3 k z fun k=>?_;exact ⟨k.p z,m.sl [1] z,h⟩
     refine uc 11 k z fun k=>fS h k m z z
   exact ⟨_,k.p z,m.sl [0] z,h⟩
 exact ⟨_,k.p z,m.sl [1,0] z,h⟩

end Go.Proofs.YthkaklkinepfkaaGreatDoor
