/- FnExactPack: the walks of functions that it reaches (ExactPackBWi,part 1). Printed by gen.py. -/
import Derived.Test.YthkaklkinepfkaaGreatDoorExactPackBT
set_option maxRecDepth 20000
set_option linter.unusedSimpArgs false
set_option linter.unusedVariables false
set_option linter.unnecessarySimpa false
namespace Go.Proofs.YthkaklkinepfkaaGreatDoor
open Go Go.RowKit
open Enc (rd ow)
open Arg (argv)
open Ret (retv)
open Go.Proofs.Tryz


theorem c_impl_Parts (fu) {w0} (Ac Ab) {r} (h:d_impl_Parts fu Ac Ab = some r):cL 36 [.string (Ac),.int .u8 (Ab)] w0 r:=by
 refine eg func36 z ntmps36 z fun k m=>uc 7 k z fun k=>sB te68 m k z (by exact fN) fun g3 w4 e6 a k m e Az=>?_;have Bk:=ow_bx Az ([]:List ByteArray) z z z;refine ul 15 k z fun k=>lG (fun n a w=>∃ Am Aj Af Ag Ah Aa,K 35 [(0,.string (Ac)),(1,.int .u8 (Ab)),(5,Aj),(6,I Ah),(7,I Aa)] a ∧ St [] w0 w [(Af,Ag)] ∧ ow Ag Af [Aj] Am ∧ d_impl_Parts_L1 fu Ac Ab n Am Ah Aa = some r) ?_ fu ?_
 · rintro Bg a By ⟨Am,Aj,Af,Ag,Ah,Aa,k,m,Ao,h⟩;refine uc 5 k z fun k=>sv k z (r_lenS k underlying9 z z) fun a k=>ul 3 k z fun k=>cJ h k z (fun h=>?_) fun h=>?_
   · refine uc 2 k z fun k=>cg (fun a w=>∃ Al Ad Ak Ai Ae,K 35 [(0,.string (Ac)),(1,.int .u8 (Ab)),(5,Ad),(6,I Ae),(7,I Aa)] a ∧ St [] w0 w [(Ak,Ai)] ∧ ow Ai Ak [Ad] Al ∧ d_impl_Parts_J1 fu (d_impl_Parts_L1 fu Ac Ab Bg) Aa Al Ae = some r) ?_ ?_
     · rintro a Br ⟨Al,Ad,Ak,Ai,Ae,k,m,At,h⟩;refine uc 6 k z fun k=>?_;exact ⟨_,_,_,_,_,_,k.p z,m.sl [0] z,At,h⟩
     refine oE h fun Bw Ay h=>uc 5 k z fun k=>sv k z (r_ixs Ay k underlying9 z z z) fun a k=>ul 4 k z fun k=>cJ h k z (fun h=>?_) fun h=>?_
     · refine oE h fun Ap Bm h=>uc 6 k z fun k=>sv k z (r_sls Bm k underlying9 z z z z) fun a k=>sB te68 m k z (by exact fC z fN) fun Bu Bo Bs a k m e Aw=>?_;have Ba:=ow_bx Aw ([Ap]:List ByteArray) z z z;refine oE h fun Bi Bh h=>s_appF Bh te68 z m 1 Ao (News.rd (m.q Ba 0 z)) z z k z z z z z z z fun Bc Bd Be a k e m Av=>ul 10 k z fun k=>?_;exact ⟨_,_,_,_,_,k.p z,m.sl [1] z,Av,h⟩
     refine uc 3 k z fun k=>?_;exact ⟨_,_,_,_,_,k.p z,m.sl [0] z,Ao,h⟩
   refine oE h fun Aq Au h=>uc 10 k z fun k=>sv k z (r_slsF Au k underlying9 z z z) fun a k=>sB te68 m k z (by exact fC z fN) fun Bn Bq Bx a k m e Bl=>?_;have Ar:=ow_bx Bl ([Aq]:List ByteArray) z z z;refine oE h fun Bt Bf h=>s_appF Bf te68 z m 1 Ao (News.rd (m.q Ar 0 z)) z z k z z z z z z z fun Bv Bb Bp a k e m Ax=>ul 4 k z fun k=>?_;cases h;exact finR1 k z (RV.tmp k z) ⟨_,Bb,z,m.ext,(m.v Ax 1 z),(m.fresh 1 z)⟩
 exact ⟨_,_,_,_,_,_,k.p z,m.sl [0] z,Bk,h⟩
theorem c_strconv_Atoi (fu:Nat) {w0:World} (hT:Te Tryz.prog w0) (x1:ByteArray) {r:Int × Bool}
    (h:d_strconv_Atoi fu x1 = some r) :
    Calls Tryz.prog 142 #[.string x1] w0 fun e w=>∃ (v0:Value),e = .returned (.tuple #[I r.1,v0]) ∧ Ext [] w0 w ∧ isErr v0 r.2 :=
  c_atoi (fun s h1 v h2 w=>Tryz.strconv_Atoi_ok s h1 v h2 w) (fun s h1 h2 h3 tp p w hv=>(Tryz.strconv_Atoi_syntax_var s h1 h2 h3 tp p w hv).mono fun e w ⟨n,he,_,_,hb⟩=>⟨_,_,he,hb⟩) (fun s h1 h2 tp p w hv=>(Tryz.strconv_Atoi_range_var s h1 h2 tp p w hv).mono fun e w ⟨n,he,_,_,hb⟩=>⟨_,_,he,hb⟩) hT x1 h

theorem c_impl_in (fu) {w0} (n1 Ab Ac) {r} (h:d_impl_in fu n1 Ab Ac = some r):cS 68 [I n1,I Ab,I Ac] w0 (.bool (r)):=by
 refine eg func68 z ntmps68 z fun k m=>uc 11 k z fun k=>bS h k 10 z (fun _ h k=>?_) fun _ h k=>?_
 · refine ul 8 k z fun k=>fS h k m z z
 refine ul 8 k z fun k=>fS h k m z z
theorem c_strconv_Itoa (fu:Nat) {w0:World} (hT:Te Tryz.prog w0) (x1:Int) {r:ByteArray}
    (h:d_strconv_Itoa fu x1 = some r) :
    Calls Tryz.prog 141 #[I x1] w0 fun e w=>e = .returned (.string r) ∧ Ext [] w0 w :=
  c_itoa (fun n h0 h1 w ht=>Tryz.strconv_Itoa n h0 h1 w ht) hT.t x1 h

theorem c_impl_Digits (fu) {w0} (hT:Te Tryz.prog w0) (n1) {r} (h:d_impl_Digits fu n1 = some r):cS 77 [I n1] w0 (.string (r)):=by
 refine eg func77 z ntmps77 z fun k m=>oE h fun x2 Aa h=>uc 8 k z fun k=>cC k m call141 z (c_strconv_Itoa fu (m.te hT) _  Aa) fun w5 e a k m=>ul 4 k z fun k=>fS h k m z z
theorem c_impl_Number (fu) {w0} (hT:Te Tryz.prog w0) (Ac) {r} (h:d_impl_Number fu Ac = some r):cS 80 [.string (Ac)] w0 (.tuple #[I r.1,.bool (r.2)]):=by
 refine eg func80 z ntmps80 z fun k m=>oE h fun x2 Ah h=>uc 9 k z fun k=>sC k call142 z (c_strconv_Atoi fu (m.te hT) _  Ah) fun e4 w5 hR=>?_;obtain ⟨v6,rfl,e,Ai⟩:=hR;refine ⟨_,z,fun a k=>?_⟩;have m:=m.step e;refine ul 7 k z fun k=>cg (fun a w=>K 25 [(4,I x2.1)] a ∧ St [] w0 w [] ∧ d_impl_Number_J1 fu x2 = some r) ?_ ?_
 · rintro a Aj ⟨k,m,h⟩;refine uc 8 k z fun k=>?_;cases h;exact finR2 k z (RV.tmp k z) (RV.tmp k z) ⟨z,m.ext⟩
 refine uc 3 k z fun k=>sv k z (r_err Ai k (by kernel_rfl) z z z) fun a k=>pN 1 k z fun a k=>bS h k 13 z (fun _ h k=>?_) fun _ h k=>?_
 · refine ul 21 k z fun k=>?_;cases h;exact finR2 k z (RV.tmp k z) (RV.tmp k z) ⟨z,m.ext⟩
 refine pN 1 k z fun a k=>oE h fun Ag Af h=>cC k m call68 z (c_impl_in fu _ _ _  Af) fun Ak e a k m=>pN 3 k z fun a k=>bS h k 18 z (fun _ h k=>?_) fun _ h k=>?_
 · refine ul 16 k z fun k=>?_;cases h;exact finR2 k z (RV.tmp k z) (RV.tmp k z) ⟨z,m.ext⟩
 refine pN 1 k z fun a k=>oE h fun Al Ae h=>cC k m call77 z (c_impl_Digits fu (m.te hT) _  Ae) fun Am e a k m=>ul 5 k z fun k=>cJ h k z (fun h=>?_) fun h=>?_
 · refine uc 8 k z fun k=>?_;cases h;exact finR2 k z (RV.tmp k z) (RV.tmp k z) ⟨z,m.ext⟩
 refine uc 2 k z fun k=>?_;exact ⟨k.p z,m.sl [] z,h⟩
theorem c_impl_wordsOf (fu) {w0} (hT:Te Tryz.prog w0) (Aq Af Ak) {r} (h:d_impl_wordsOf fu Aq Af Ak = some r):Calls Tryz.prog 45 #[.string (Aq),.string (Af),I Ak] w0 fun e w=>∃ (v0:Value) (G0:List Nat),e = .returned (.tuple #[v0,.bool (r.2)]) ∧ Ext [] w0 w ∧ ow w G0 [v0] r.1 ∧ (∀ b ∈ G0,w0.heap.size ≤ b):=by
 refine eg (vs:=[_,_,_]) func45 z ntmps45 z fun k m=>oE h fun x4 Bk h=>uc 9 k z fun k=>sL k m call36 z (c_impl_Parts fu _ _  Bk) fun w7 Ba F8 Aa k m=>ul 3 k z fun k=>cg (fun a w=>K 49 [(8,Ba)] a ∧ St [] w0 w [(F8,w7)] ∧ d_impl_wordsOf_J1 fu x4 = some r) ?_ ?_
 · rintro a Bs ⟨k,m,h⟩;refine uc 2 k z fun k=>sB te35 m k z (by exact fN) fun Ao Az Bv a k m e Bj=>?_;have Bf:=ow_bx Bj ([]:List Int) z z z;refine oE h fun Ap As h=>ul 7 k z fun k=>s_slFromO Aa As k ts68 z z z z z z fun Be a k Ai=>gl 5 [lF (Enc.ow_rd Ai)] k z fun k=>lG (fun n a w=>∃ Ag Ah Ac Ae Ad,K 49 [(9,Ah),(30,Be),(31,I ((Ap.length:Int))),(32,I Ad)] a ∧ St [] w0 w [(F8,w7),(Ac,Ae)] ∧ ow Ae Ac [Ah] Ag ∧ d_impl_wordsOf_L1 fu Ap n Ag Ad = some r) ?_ fu ?_
   · rintro Bp a Bq ⟨Ag,Ah,Ac,Ae,Ad,k,m,Al,h⟩;refine uc 6 k z fun k=>cJ h k z (fun h=>?_) fun h=>?_
     · refine o2 h fun Bu Aj Ar Ax h=>gc 14 [iF (Enc.ow_rd Ai) Aj,eF (m.q Ai 0 z) Aj 0] k z fun k=>cC k m call80 z (c_impl_Number fu (m.te hT) _  Ax) fun Br e a k m=>ul 14 k z fun k=>cJ h k z (fun h=>?_) fun h=>?_
       · refine uc 13 k z fun k=>?_;cases h;exact finR2 k z (RV.tmp k z) (RV.tmp k z) ⟨_,[],z,m.ext,(ow_nil _),(by simp)⟩
       refine uc 5 k z fun k=>sB te35 m k z (by exact fC z fN) fun Bo Bt Bn a k m e Bd=>?_;have Bl:=ow_bx Bd ([Ar.1]:List Int) z z z;refine oE h fun At Bg h=>s_appF Bg te35 z m 2 Al (News.rd (m.q Bl 0 z)) z z k z z z z z z z fun Av Bb Bm a k e m Ay=>ul 9 k z fun k=>?_;exact ⟨_,_,_,_,_,k.p z,m.sl [1,2] z,Ay,h⟩
     refine uc 13 k z fun k=>?_;cases h;exact finR2 k z (RV.tmp k z) (RV.tmp k z) ⟨_,Ac,z,m.ext,(m.v Al 1 z),(m.fresh 1 z)⟩
   exact ⟨_,_,_,_,_,k.p z,m.sl [1,0] z,Bf,h⟩
 refine oE h fun Aw Am h=>gc 8 [iF (Enc.ow_rd Aa) Am,eF (m.q Aa 0 z) Am 0] k z fun k=>bS h k 21 z (fun _ h k=>?_) fun _ h k=>?_
 · refine ul 17 k z fun k=>?_;cases h;exact finR2 k z (RV.tmp k z) (RV.tmp k z) ⟨_,[],z,m.ext,(ow_nil _),(by simp)⟩
 refine gl 8 [lF (Enc.ow_rd Aa)] k z fun k=>cJ h k z (fun h=>?_) fun h=>?_
 · refine uc 8 k z fun k=>?_;cases h;exact finR2 k z (RV.tmp k z) (RV.tmp k z) ⟨_,[],z,m.ext,(ow_nil _),(by simp)⟩
 refine uc 2 k z fun k=>?_;exact ⟨k.p z,m.sl [0] z,h⟩
theorem c_impl_putLine (fu) {w0} (r1 Cj) {F2 b3} (Ec:obx w0 F2 b3 r1 55) (hT:∀ w1,Ext F2 w0 w1 → Te Tryz.prog w1) {r} (h:d_impl_putLine fu r1 Cj = some r):Calls Tryz.prog 92 #[.pointer (some ⟨b3,0,none⟩),.string (Cj)] w0 fun e w=>∃ (H0:List Nat),e = .returned (I r.1) ∧ Ext F2 w0 w ∧ (∀ b ∈ H0,b ∈ F2 ∨ w0.heap.size ≤ b) ∧ obx w H0 b3 r.2 55:=by
 refine eg (vs:=[_,_]) func92 z ntmps92 z fun k _=>?_;obtain ⟨v6,F7,v9,Ae,Aj,Ad,Aa,Af,Ag,Ah,m⟩:=Ec.start;refine uc 18 k z fun k=>cJ h k z (fun h=>?_) fun h=>?_
 · refine uc 5 k z fun k=>sT sizeOf3 m 0 Aa 0 k z z fun Hx a k e m Dw=>ul 10 k z fun k=>?_;cases h;exact finR1 k z (RV.tmp k z) ⟨([b3] ++ (F7 ++ (Ae ++ Ad))),z,m.ext,(fun b hb=>(m.sl [0,1,2,3] z).lo b (by simpa [fps] using hb)),(obx.fin (x:=(⟨0,r1.fPallet,r1.fClasses,r1.fPairs,r1.fTypes,r1.fMaster,r1.fItems⟩:Request)) (m.y Dw 0 z) (m.v Af 1 z) (m.v Ag 2 z) (m.v Ah 3 z) (by simpa [fps] using (m.sl [0,1,2,3] z).nd))⟩
 refine uc 6 k z fun k=>cJ h k z (fun h=>?_) fun h=>?_
 · refine uc 5 k z fun k=>sT sizeOf3 m 0 Aa 0 k z z fun Iy a k e m De=>ul 10 k z fun k=>?_;cases h;exact finR1 k z (RV.tmp k z) ⟨([b3] ++ (F7 ++ (Ae ++ Ad))),z,m.ext,(fun b hb=>(m.sl [0,1,2,3] z).lo b (by simpa [fps] using hb)),(obx.fin (x:=(⟨1,r1.fPallet,r1.fClasses,r1.fPairs,r1.fTypes,r1.fMaster,r1.fItems⟩:Request)) (m.y De 0 z) (m.v Af 1 z) (m.v Ag 2 z) (m.v Ah 3 z) (by simpa [fps] using (m.sl [0,1,2,3] z).nd))⟩
 refine oE h fun Hd Eb h=>uc 7 k z fun k=>sC k call45 z (c_impl_wordsOf fu (hT _ m.ext) _ _ _  Eb) fun Gk Ia hR=>?_;obtain ⟨Hk,Dv,rfl,e,Ai,Gc⟩:=hR;refine ⟨_,z,fun a k=>?_⟩;have m:=m.nw e Gc Ai;refine ul 12 k z fun k=>cJ h k z (fun h=>?_) fun h=>?_
 · refine uc 1 k z fun k=>d_go ([b3]) mixo m z fun Fv hMd=>?_;have m:=hMd;have s:=Ext.refl (([b3]):List Nat) Fv;refine dM [0,1,4,7,10] 5 z k z s fun a k=>oE h fun Bm Bs h=>dT k 2 z z s (fun w s=>r_ixa (Enc.ow_rd Ai) Bs k ts35 z z z) fun a k=>dT k 3 z z s (fun w s=>r_lde1 (Enc.ow_rd Ai) (hMd.az 0 1 z z z s) Bs 0 t13 k z z z z) fun a k=>oE h fun Bj Cd h=>dT k 5 z z s (fun w s=>r_ixa (Enc.ow_rd Ai) Cd k ts35 z z z) fun a k=>dT k 6 z z s (fun w s=>r_lde1 (Enc.ow_rd Ai) (hMd.az 0 1 z z z s) Cd 0 t13 k z z z z) fun a k=>oE h fun Bn Ca h=>dT k 8 z z s (fun w s=>r_ixa (Enc.ow_rd Ai) Ca k ts35 z z z) fun a k=>dT k 9 z z s (fun w s=>r_lde1 (Enc.ow_rd Ai) (hMd.az 0 1 z z z s) Ca 0 t13 k z z z z) fun a k=>oE h fun Bg Bq h=>dT k 11 z z s (fun w s=>r_ixa (Enc.ow_rd Ai) Bq k ts35 z z z) fun a k=>dT k 12 z z s (fun w s=>r_lde1 (Enc.ow_rd Ai) (hMd.az 0 1 z z z s) Bq 0 t13 k z z z z) fun a k=>dT k 13 z z s (fun w s=>r_build bt50 k (cs:=#[I Bm,I Bj,I Bn,I Bg]) (ps:=[(0,.tmp 37),(1,.tmp 40),(2,.tmp 43),(3,.tmp 46)]) z z (by kernel_rfl)) fun a k=>dT k 14 z z s (fun w s=>r_nil k z z) fun a k=>?_;refine dF k 15 fa55_1 z s fun a k=>dG 16 z (sT sizeOf50 m 1 Aa 1 k z z fun Iq a k e m Db=>?_);have s:=s.trans e (fun y hy=>Or.inl hy);refine wpList_nil ⟨s,?_⟩;refine dD ?_;refine (nm_then ?_);refine uc 7 k z fun k=>?_;cases h;exact finR1 k z (RV.tmp k z) ⟨([b3] ++ (F7 ++ (Ae ++ Ad))),z,m.ext,(fun b hb=>(m.sl [1,2,3,4] z).lo b (by simpa [fps] using hb)),(obx.fin (x:=(⟨r1.fWay,(⟨Bm,Bj,Bn,Bg⟩:Pallet),r1.fClasses,r1.fPairs,r1.fTypes,r1.fMaster,r1.fItems⟩:Request)) (m.y Db 1 z) (m.v Af 2 z) (m.v Ag 3 z) (m.v Ah 4 z) (by simpa [fps] using (m.sl [1,2,3,4] z).nd))⟩
 refine oE h fun Hb Es h=>uc 6 k z fun k=>sC k call45 z (c_impl_wordsOf fu (hT _ m.ext) _ _ _  Es) fun Ha Hw hR=>?_;obtain ⟨Ge,Cv,rfl,e,Bc,Cu⟩:=hR;refine ⟨_,z,fun a k=>?_⟩;have m:=m.nw e Cu Bc;refine ul 12 k z fun k=>cJ h k z (fun h=>?_) fun h=>?_
 · refine oE h fun Bt Ck h=>gc 8 [iF (Enc.ow_rd Bc) Ck,eF (m.q Bc 0 z) Ck 0] k z fun k=>sT sizeOf3 m 2 Aa 5 k z z fun Iw a k e m Fh=>ul 9 k z fun k=>?_;cases h;exact finR1 k z (RV.tmp k z) ⟨([b3] ++ (F7 ++ (Ae ++ Ad))),z,m.ext,(fun b hb=>(m.sl [2,3,4,5] z).lo b (by simpa [fps] using hb)),(obx.fin (x:=(⟨r1.fWay,r1.fPallet,Bt,r1.fPairs,r1.fTypes,r1.fMaster,r1.fItems⟩:Request)) (m.y Fh 2 z) (m.v Af 3 z) (m.v Ag 4 z) (m.v Ah 5 z) (by simpa [fps] using (m.sl [2,3,4,5] z).nd))⟩
 refine oE h fun Ip Dj h=>uc 6 k z fun k=>sC k call45 z (c_impl_wordsOf fu (hT _ m.ext) _ _ _  Dj) fun Ig Gi hR=>?_;obtain ⟨Id,Fj,rfl,e,Ak,Dc⟩:=hR;refine ⟨_,z,fun a k=>?_⟩;have m:=m.nw e Dc Ak;refine ul 12 k z fun k=>cJ h k z (fun h=>?_) fun h=>?_
 · refine uc 1 k z fun k=>d_go (F7 ++ ([b3])) mixo m z fun Dz hMd=>?_;have m:=hMd;have s:=Ext.refl ((F7 ++ ([b3])):List Nat) Dz;have hMj:=(hMd.sel [4,3,0,1,2,5,6] z (by decide)).join2;refine dM [0,1,5,8] 4 z k z s fun a k=>dT k 2 z z s (fun w s=>r_nil k z z) fun a k=>dF k 3 fa55_3 z s fun a k=>oE h fun Az Bw h=>dT k 6 z z s (fun w s=>r_ixa (Enc.ow_rd Ak) Bw k ts35 z z z) fun a k=>dT k 7 z z s (fun w s=>r_lde1 (Enc.ow_rd Ak) (hMj.az 1 0 z z z s) Bw 0 t13 k z z z z) fun a k=>oE h fun Ao Bz h=>dT k 9 z z s (fun w s=>r_ixa (Enc.ow_rd Ak) Bz k ts35 z z z) fun a k=>dT k 10 z z s (fun w s=>r_lde1 (Enc.ow_rd Ak) (hMj.az 1 0 z z z s) Bz 0 t13 k z z z z) fun a k=>dT k 11 z z s (fun w s=>r_build bt98 k (cs:=#[I Az,I Ao]) (ps:=[(0,.tmp 75),(1,.tmp 78)]) z z (by kernel_rfl)) fun a k=>dG2 4 12 (by kernel_rfl) z z ?_ ?_
   · refine gl 1 [bF m 3 Aa z] k z fun k=>wpList_nil ⟨s,?_⟩;refine dG 12 z (s_bsN te51 m k z z z z z z z (by decide) z (by exact fC z fN) fun Gu Gl Gr a k m e Fa Fb=>?_);have Im:=lo1 (Nat.le_trans s.size Fb);have Di:=ow_bx Fa ([(⟨Az,Ao⟩:Pair)]:List Pair) z z z;refine ns s e fun s=>dG 13 z (oE h fun Dl Fg h=>s_appFN Fg te51 z m 5 Af (News.rd (m.q Di 0 z)) z z k z z z z z z z fun Cy Co He a k e m Be Cx=>?_);have Ix:∀ y ∈ Co,y ∈ (F7 ++ ([b3])) ∨ _ ≤ y:=fun y hy=>(Cx y hy).elim (fun hy=>(fun y hy=>Or.inl (List.mem_append_left _ hy)) y hy) (fun h=>Or.inr (Nat.le_trans s.size h));have s:=s.trans e (fun y hy=>Or.inl (List.mem_append_left _ hy));refine wpList_nil ⟨s,?_⟩;refine dT k 14 z z s (fun w s=>r_nil k z z) fun a k=>dF k 15 fa55_3 z s fun a k=>dG 16 z (s_stb1 (cs':=(cR r1 Cy v9 Aj)) sizeOf51 m 4 Aa 6 k (rd_c (Enc.ow_rd Be)) (rd_o (Enc.ow_rd Be)) z z z z z z z z z fun Gt a k e m Dk=>?_);have s:=s.trans e (fun y hy=>Or.inl (List.mem_append_right _ hy));refine wpList_nil ⟨s,?_⟩;refine dD ((nm_then ?_));refine uc 7 k z fun k=>?_;cases h;exact finR1 k z (RV.tmp k z) ⟨([b3] ++ (Co ++ (Ae ++ Ad))),z,m.ext,(fun b hb=>(m.sl [4,5,6,7] z).lo b (by simpa [fps] using hb)),(obx.fin (x:=(⟨r1.fWay,r1.fPallet,r1.fClasses,Dl,r1.fTypes,r1.fMaster,r1.fItems⟩:Request)) (m.y Dk 4 z) (m.v Be 5 z) (m.v Ag 6 z) (m.v Ah 7 z) (by simpa [fps] using (m.sl [4,5,6,7] z).nd))⟩
   refine s_bsN te51 m k z z z z z z z (by decide) z (by exact fC z fN) fun Hj Ii Hz a k m e Dg Gd=>?_;have Ht:=lo1 (Nat.le_trans s.size Gd);have Fy:=ow_bx Dg ([(⟨Az,Ao⟩:Pair)]:List Pair) z z z;refine ns s e fun s=>dG 4 z (gl 1 [bF m 4 Aa z] k z fun k=>wpList_nil ⟨s,?_⟩);refine dG 13 z (oE h fun Fs Ee h=>s_appFN Ee te51 z m 5 Af (News.rd (m.q Fy 0 z)) z z k z z z z z z z fun Gb Cb Hn a k e m Bl Fd=>?_);have Ih:∀ y ∈ Cb,y ∈ (F7 ++ ([b3])) ∨ _ ≤ y:=fun y hy=>(Fd y hy).elim (fun hy=>(fun y hy=>Or.inl (List.mem_append_left _ hy)) y hy) (fun h=>Or.inr (Nat.le_trans s.size h));have s:=s.trans e (fun y hy=>Or.inl (List.mem_append_left _ hy));refine wpList_nil ⟨s,?_⟩;refine dT k 14 z z s (fun w s=>r_nil k z z) fun a k=>dF k 15 fa55_3 z s fun a k=>dG 16 z (s_stb1 (cs':=(cR r1 Gb v9 Aj)) sizeOf51 m 4 Aa 6 k (rd_c (Enc.ow_rd Bl)) (rd_o (Enc.ow_rd Bl)) z z z z z z z z z fun Gq a k e m Ft=>?_);have s:=s.trans e (fun y hy=>Or.inl (List.mem_append_right _ hy));refine wpList_nil ⟨s,?_⟩;refine dD ((nm_then ?_));refine uc 7 k z fun k=>?_;cases h;exact finR1 k z (RV.tmp k z) ⟨([b3] ++ (Cb ++ (Ae ++ Ad))),z,m.ext,(fun b hb=>(m.sl [4,5,6,7] z).lo b (by simpa [fps] using hb)),(obx.fin (x:=(⟨r1.fWay,r1.fPallet,r1.fClasses,Fs,r1.fTypes,r1.fMaster,r1.fItems⟩:Request)) (m.y Ft 4 z) (m.v Bl 5 z) (m.v Ag 6 z) (m.v Ah 7 z) (by simpa [fps] using (m.sl [4,5,6,7] z).nd))⟩
 refine oE h fun Gm Da h=>uc 6 k z fun k=>sC k call45 z (c_impl_wordsOf fu (hT _ m.ext) _ _ _  Da) fun Iz It hR=>?_;obtain ⟨Ho,Fu,rfl,e,Ac,Fk⟩:=hR;refine ⟨_,z,fun a k=>?_⟩;have m:=m.nw e Fk Ac;refine ul 12 k z fun k=>cJ h k z (fun h=>?_) fun h=>?_
 · refine uc 1 k z fun k=>d_go (Ae ++ ([b3])) mixo m z fun El hMd=>?_;have m:=hMd;have s:=Ext.refl ((Ae ++ ([b3])):List Nat) El;have hMj:=(hMd.sel [6,4,0,1,2,3,5,7] z (by decide)).join2;refine dM [0,1,5,8,11,14,17,20,23] 9 z k z s fun a k=>dT k 2 z z s (fun w s=>r_nil k z z) fun a k=>dF k 3 fa55_4 z s fun a k=>oE h fun Au Cl h=>dT k 6 z z s (fun w s=>r_ixa (Enc.ow_rd Ac) Cl k ts35 z z z) fun a k=>dT k 7 z z s (fun w s=>r_lde1 (Enc.ow_rd Ac) (hMj.az 1 0 z z z s) Cl 0 t13 k z z z z) fun a k=>oE h fun Av Bx h=>dT k 9 z z s (fun w s=>r_ixa (Enc.ow_rd Ac) Bx k ts35 z z z) fun a k=>dT k 10 z z s (fun w s=>r_lde1 (Enc.ow_rd Ac) (hMj.az 1 0 z z z s) Bx 0 t13 k z z z z) fun a k=>oE h fun Aw Ci h=>dT k 12 z z s (fun w s=>r_ixa (Enc.ow_rd Ac) Ci k ts35 z z z) fun a k=>dT k 13 z z s (fun w s=>r_lde1 (Enc.ow_rd Ac) (hMj.az 1 0 z z z s) Ci 0 t13 k z z z z) fun a k=>oE h fun Am Cc h=>dT k 15 z z s (fun w s=>r_ixa (Enc.ow_rd Ac) Cc k ts35 z z z) fun a k=>dT k 16 z z s (fun w s=>r_lde1 (Enc.ow_rd Ac) (hMj.az 1 0 z z z s) Cc 0 t13 k z z z z) fun a k=>oE h fun Aq Cm h=>?_;refine dT k 18 z z s (fun w s=>r_ixa (Enc.ow_rd Ac) Cm k ts35 z z z) fun a k=>dT k 19 z z s (fun w s=>r_lde1 (Enc.ow_rd Ac) (hMj.az 1 0 z z z s) Cm 0 t13 k z z z z) fun a k=>oE h fun Al Cp h=>dT k 21 z z s (fun w s=>r_ixa (Enc.ow_rd Ac) Cp k ts35 z z z) fun a k=>dT k 22 z z s (fun w s=>r_lde1 (Enc.ow_rd Ac) (hMj.az 1 0 z z z s) Cp 0 t13 k z z z z) fun a k=>oE h fun Ap Cs h=>dT k 24 z z s (fun w s=>r_ixa (Enc.ow_rd Ac) Cs k ts35 z z z) fun a k=>dT k 25 z z s (fun w s=>r_lde1 (Enc.ow_rd Ac) (hMj.az 1 0 z z z s) Cs 0 t13 k z z z z) fun a k=>dT k 26 z z s (fun w s=>r_build bt61 k (cs:=#[I Au,I Av,I Aw,I Am,I Aq,I Al,I Ap]) (ps:=[(0,.tmp 97),(1,.tmp 100),(2,.tmp 103),(3,.tmp 106),(4,.tmp 109),(5,.tmp 112),(6,.tmp 115)]) z z (by kernel_rfl)) fun a k=>dG2 4 27 (by kernel_rfl) z z ?_ ?_
   · refine gl 1 [bF m 4 Aa z] k z fun k=>wpList_nil ⟨s,?_⟩;refine dG 27 z (s_bsN te52 m k z z z z z z z (by decide) z (by exact fC z fN) fun Gh Gx Hu a k m e Cz Dn=>?_);have Hi:=lo1 (Nat.le_trans s.size Dn);have Df:=ow_bx Cz ([(⟨Au,Av,Aw,Am,Aq,Al,Ap⟩:Typ)]:List Typ) z z z;refine ns s e fun s=>dG 28 z (oE h fun Ef Et h=>s_appFN Et te52 z m 7 Ag (News.rd (m.q Df 0 z)) z z k z z z z z z z fun Eh By Hr a k e m Bk Dq=>?_);have Io:∀ y ∈ By,y ∈ (Ae ++ ([b3])) ∨ _ ≤ y:=fun y hy=>(Dq y hy).elim (fun hy=>(fun y hy=>Or.inl (List.mem_append_left _ hy)) y hy) (fun h=>Or.inr (Nat.le_trans s.size h));have s:=s.trans e (fun y hy=>Or.inl (List.mem_append_left _ hy));refine wpList_nil ⟨s,?_⟩;refine dT k 29 z z s (fun w s=>r_nil k z z) fun a k=>dF k 30 fa55_4 z s fun a k=>dG 31 z (s_stb1 (cs':=(cR r1 v6 Eh Aj)) sizeOf52 m 5 Aa 7 k (rd_c (Enc.ow_rd Bk)) (rd_o (Enc.ow_rd Bk)) z z z z z z z z z fun Gg a k e m Fc=>?_);have s:=s.trans e (fun y hy=>Or.inl (List.mem_append_right _ hy));refine wpList_nil ⟨s,?_⟩;refine dD ?_;refine (nm_then ?_);refine uc 7 k z fun k=>?_;cases h;exact finR1 k z (RV.tmp k z) ⟨([b3] ++ (F7 ++ (By ++ Ad))),z,m.ext,(fun b hb=>(m.sl [5,6,7,8] z).lo b (by simpa [fps] using hb)),(obx.fin (x:=(⟨r1.fWay,r1.fPallet,r1.fClasses,r1.fPairs,Ef,r1.fMaster,r1.fItems⟩:Request)) (m.y Fc 5 z) (m.v Af 6 z) (m.v Bk 7 z) (m.v Ah 8 z) (by simpa [fps] using (m.sl [5,6,7,8] z).nd))⟩
   refine s_bsN te52 m k z z z z z z z (by decide) z (by exact fC z fN) fun Iu Ij Ir a k m e Du Eu=>?_;have Gv:=lo1 (Nat.le_trans s.size Eu);have Dt:=ow_bx Du ([(⟨Au,Av,Aw,Am,Aq,Al,Ap⟩:Typ)]:List Typ) z z z;refine ns s e fun s=>dG 4 z (gl 1 [bF m 5 Aa z] k z fun k=>wpList_nil ⟨s,?_⟩);refine dG 28 z (oE h fun Ey Ed h=>s_appFN Ed te52 z m 7 Ag (News.rd (m.q Dt 0 z)) z z k z z z z z z z fun Ep Cn If a k e m Bi Ds=>?_);have Hv:∀ y ∈ Cn,y ∈ (Ae ++ ([b3])) ∨ _ ≤ y:=fun y hy=>(Ds y hy).elim (fun hy=>(fun y hy=>Or.inl (List.mem_append_left _ hy)) y hy) (fun h=>Or.inr (Nat.le_trans s.size h));have s:=s.trans e (fun y hy=>Or.inl (List.mem_append_left _ hy));refine wpList_nil ⟨s,?_⟩;refine dT k 29 z z s (fun w s=>r_nil k z z) fun a k=>dF k 30 fa55_4 z s fun a k=>dG 31 z (s_stb1 (cs':=(cR r1 v6 Ep Aj)) sizeOf52 m 5 Aa 7 k (rd_c (Enc.ow_rd Bi)) (rd_o (Enc.ow_rd Bi)) z z z z z z z z z fun Gj a k e m Ez=>?_);have s:=s.trans e (fun y hy=>Or.inl (List.mem_append_right _ hy));refine wpList_nil ⟨s,?_⟩;refine dD ?_;refine (nm_then ?_);refine uc 7 k z fun k=>?_;cases h;exact finR1 k z (RV.tmp k z) ⟨([b3] ++ (F7 ++ (Cn ++ Ad))),z,m.ext,(fun b hb=>(m.sl [5,6,7,8] z).lo b (by simpa [fps] using hb)),(obx.fin (x:=(⟨r1.fWay,r1.fPallet,r1.fClasses,r1.fPairs,Ey,r1.fMaster,r1.fItems⟩:Request)) (m.y Ez 5 z) (m.v Af 6 z) (m.v Bi 7 z) (m.v Ah 8 z) (by simpa [fps] using (m.sl [5,6,7,8] z).nd))⟩
 refine oE h fun Hp Fp h=>uc 6 k z fun k=>sC k call45 z (c_impl_wordsOf fu (hT _ m.ext) _ _ _  Fp) fun Gz Hl hR=>?_;obtain ⟨Ib,Dd,rfl,e,Bd,Fw⟩:=hR;refine ⟨_,z,fun a k=>?_⟩;have m:=m.nw e Fw Bd;refine ul 12 k z fun k=>cJ h k z (fun h=>?_) fun h=>?_
 · refine oE h fun Cg Cr h=>gc 8 [iF (Enc.ow_rd Bd) Cr,eF (m.q Bd 0 z) Cr 0] k z fun k=>sT sizeOf3 m 5 Aa 8 k z z fun Iv a k e m En=>ul 9 k z fun k=>?_;cases h;exact finR1 k z (RV.tmp k z) ⟨([b3] ++ (F7 ++ (Ae ++ Ad))),z,m.ext,(fun b hb=>(m.sl [5,6,7,8] z).lo b (by simpa [fps] using hb)),(obx.fin (x:=(⟨r1.fWay,r1.fPallet,r1.fClasses,r1.fPairs,r1.fTypes,Cg,r1.fItems⟩:Request)) (m.y En 5 z) (m.v Af 6 z) (m.v Ag 7 z) (m.v Ah 8 z) (by simpa [fps] using (m.sl [5,6,7,8] z).nd))⟩
 refine oE h fun Gw Ew h=>uc 6 k z fun k=>sC k call45 z (c_impl_wordsOf fu (hT _ m.ext) _ _ _  Ew) fun Hy Gy hR=>?_;obtain ⟨Gp,Fl,rfl,e,Ab,Dy⟩:=hR;refine ⟨_,z,fun a k=>?_⟩;have m:=m.nw e Dy Ab;refine ul 12 k z fun k=>cJ h k z (fun h=>?_) fun h=>?_
 · refine uc 1 k z fun k=>d_go (Ad ++ ([b3])) mixo m z fun Do hMd=>?_;have m:=hMd;have s:=Ext.refl ((Ad ++ ([b3])):List Nat) Do;have hMj:=(hMd.sel [9,6,0,1,2,3,4,5,7,8] z (by decide)).join2;refine dM [0,1,5,8,11,14,17,20,23] 9 z k z s fun a k=>dT k 2 z z s (fun w s=>r_nil k z z) fun a k=>dF k 3 fa55_6 z s fun a k=>oE h fun Ax Ch h=>dT k 6 z z s (fun w s=>r_ixa (Enc.ow_rd Ab) Ch k ts35 z z z) fun a k=>dT k 7 z z s (fun w s=>r_lde1 (Enc.ow_rd Ab) (hMj.az 1 0 z z z s) Ch 0 t13 k z z z z) fun a k=>oE h fun Bb Bo h=>dT k 9 z z s (fun w s=>r_ixa (Enc.ow_rd Ab) Bo k ts35 z z z) fun a k=>dT k 10 z z s (fun w s=>r_lde1 (Enc.ow_rd Ab) (hMj.az 1 0 z z z s) Bo 0 t13 k z z z z) fun a k=>oE h fun At Br h=>dT k 12 z z s (fun w s=>r_ixa (Enc.ow_rd Ab) Br k ts35 z z z) fun a k=>dT k 13 z z s (fun w s=>r_lde1 (Enc.ow_rd Ab) (hMj.az 1 0 z z z s) Br 0 t13 k z z z z) fun a k=>oE h fun As Ct h=>dT k 15 z z s (fun w s=>r_ixa (Enc.ow_rd Ab) Ct k ts35 z z z) fun a k=>dT k 16 z z s (fun w s=>r_lde1 (Enc.ow_rd Ab) (hMj.az 1 0 z z z s) Ct 0 t13 k z z z z) fun a k=>oE h fun Ar Bv h=>?_;refine dT k 18 z z s (fun w s=>r_ixa (Enc.ow_rd Ab) Bv k ts35 z z z) fun a k=>dT k 19 z z s (fun w s=>r_lde1 (Enc.ow_rd Ab) (hMj.az 1 0 z z z s) Bv 0 t13 k z z z z) fun a k=>oE h fun Ay Cq h=>dT k 21 z z s (fun w s=>r_ixa (Enc.ow_rd Ab) Cq k ts35 z z z) fun a k=>dT k 22 z z s (fun w s=>r_lde1 (Enc.ow_rd Ab) (hMj.az 1 0 z z z s) Cq 0 t13 k z z z z) fun a k=>oE h fun Ba Bp h=>dT k 24 z z s (fun w s=>r_ixa (Enc.ow_rd Ab) Bp k ts35 z z z) fun a k=>dT k 25 z z s (fun w s=>r_lde1 (Enc.ow_rd Ab) (hMj.az 1 0 z z z s) Bp 0 t13 k z z z z) fun a k=>dT k 26 z z s (fun w s=>r_build bt59 k (cs:=#[I Ax,I Bb,I At,I As,I Ar,I Ay,I Ba]) (ps:=[(0,.tmp 146),(1,.tmp 149),(2,.tmp 152),(3,.tmp 155),(4,.tmp 158),(5,.tmp 161),(6,.tmp 164)]) z z (by kernel_rfl)) fun a k=>dG2 4 27 (by kernel_rfl) z z ?_ ?_
   · refine gl 1 [bF m 6 Aa z] k z fun k=>wpList_nil ⟨s,?_⟩;refine dG 27 z (s_bsN te53 m k z z z z z z z (by decide) z (by exact fC z fN) fun Hf Gn Ie a k m e Fz Fe=>?_);have Gf:=lo1 (Nat.le_trans s.size Fe);have Fi:=ow_bx Fz ([(⟨Ax,Bb,At,As,Ar,Ay,Ba⟩:Item)]:List Item) z z z;refine ns s e fun s=>dG 28 z (oE h fun Ex Ek h=>s_appFN Ek te53 z m 10 Ah (News.rd (m.q Fi 0 z)) z z k z z z z z z z fun Ga Ce Ik a k e m Bh Ea=>?_);have Hc:∀ y ∈ Ce,y ∈ (Ad ++ ([b3])) ∨ _ ≤ y:=fun y hy=>(Ea y hy).elim (fun hy=>(fun y hy=>Or.inl (List.mem_append_left _ hy)) y hy) (fun h=>Or.inr (Nat.le_trans s.size h));have s:=s.trans e (fun y hy=>Or.inl (List.mem_append_left _ hy));refine wpList_nil ⟨s,?_⟩;refine dT k 29 z z s (fun w s=>r_nil k z z) fun a k=>dF k 30 fa55_6 z s fun a k=>dG 31 z (s_stb1 (cs':=(cR r1 v6 v9 Ga)) sizeOf53 m 7 Aa 9 k (rd_c (Enc.ow_rd Bh)) (rd_o (Enc.ow_rd Bh)) z z z z z z z z z fun Hq a k e m Dm=>?_);have s:=s.trans e (fun y hy=>Or.inl (List.mem_append_right _ hy));refine wpList_nil ⟨s,?_⟩;refine dD ?_;refine (nm_then ?_);refine uc 7 k z fun k=>?_;cases h;exact finR1 k z (RV.tmp k z) ⟨([b3] ++ (F7 ++ (Ae ++ Ce))),z,m.ext,(fun b hb=>(m.sl [7,8,9,10] z).lo b (by simpa [fps] using hb)),(obx.fin (x:=(⟨r1.fWay,r1.fPallet,r1.fClasses,r1.fPairs,r1.fTypes,r1.fMaster,Ex⟩:Request)) (m.y Dm 7 z) (m.v Af 8 z) (m.v Ag 9 z) (m.v Bh 10 z) (by simpa [fps] using (m.sl [7,8,9,10] z).nd))⟩
   refine s_bsN te53 m k z z z z z z z (by decide) z (by exact fC z fN) fun Hg Ic Hm a k m e Fn Fq=>?_;have Hh:=lo1 (Nat.le_trans s.size Fq);have Dr:=ow_bx Fn ([(⟨Ax,Bb,At,As,Ar,Ay,Ba⟩:Item)]:List Item) z z z;refine ns s e fun s=>dG 4 z (gl 1 [bF m 7 Aa z] k z fun k=>wpList_nil ⟨s,?_⟩);refine dG 28 z (oE h fun Dx Ei h=>s_appFN Ei te53 z m 10 Ah (News.rd (m.q Dr 0 z)) z z k z z z z z z z fun Eo Bu In a k e m Bf Er=>?_);have Is:∀ y ∈ Bu,y ∈ (Ad ++ ([b3])) ∨ _ ≤ y:=fun y hy=>(Er y hy).elim (fun hy=>(fun y hy=>Or.inl (List.mem_append_left _ hy)) y hy) (fun h=>Or.inr (Nat.le_trans s.size h));have s:=s.trans e (fun y hy=>Or.inl (List.mem_append_left _ hy));refine wpList_nil ⟨s,?_⟩;refine dT k 29 z z s (fun w s=>r_nil k z z) fun a k=>dF k 30 fa55_6 z s fun a k=>dG 31 z (s_stb1 (cs':=(cR r1 v6 v9 Eo)) sizeOf53 m 7 Aa 9 k (rd_c (Enc.ow_rd Bf)) (rd_o (Enc.ow_rd Bf)) z z z z z z z z z fun Il a k e m Ff=>?_);have s:=s.trans e (fun y hy=>Or.inl (List.mem_append_right _ hy));refine wpList_nil ⟨s,?_⟩;refine dD ?_;refine (nm_then ?_);refine uc 7 k z fun k=>?_;cases h;exact finR1 k z (RV.tmp k z) ⟨([b3] ++ (F7 ++ (Ae ++ Bu))),z,m.ext,(fun b hb=>(m.sl [7,8,9,10] z).lo b (by simpa [fps] using hb)),(obx.fin (x:=(⟨r1.fWay,r1.fPallet,r1.fClasses,r1.fPairs,r1.fTypes,r1.fMaster,Dx⟩:Request)) (m.y Ff 7 z) (m.v Af 8 z) (m.v Ag 9 z) (m.v Bf 10 z) (by simpa [fps] using (m.sl [7,8,9,10] z).nd))⟩
 refine uc 8 k z fun k=>?_;cases h;exact finR1 k z (RV.tmp k z) ⟨([b3] ++ (F7 ++ (Ae ++ Ad))),z,m.ext,(fun b hb=>(m.sl [6,7,8,9] z).lo b (by simpa [fps] using hb)),(obx.fin (x:=r1) (m.y Aa 6 z) (m.v Af 7 z) (m.v Ag 8 z) (m.v Ah 9 z) (by simpa [fps] using (m.sl [6,7,8,9] z).nd))⟩
theorem c_impl_mayFollow (fu) {w0} (Aa Ah) {r} (h:d_impl_mayFollow fu Aa Ah = some r):cS 93 [I Aa,I Ah] w0 (.bool (r)):=by
 refine eg func93 z ntmps93 z fun k m=>uc 5 k z fun k=>cg (fun a w=>K 38 [] a ∧ St [] w0 w [] ∧ d_impl_mayFollow_J1 fu = some r) ?_ ?_
 · rintro a Br ⟨k,m,h⟩;refine uc 6 k z fun k=>fS h k m z z
 refine uc 13 k z fun k=>cJ h k z (fun h=>?_) fun h=>?_
 · refine uc 2 k z fun k=>cJ h k z (fun h=>?_) fun h=>?_
   · refine uc 12 k z fun k=>fS h k m z z
   refine uc 6 k z fun k=>cJ h k z (fun h=>?_) fun h=>?_
   · refine uc 5 k z fun k=>bS h k 18 z (fun _ h k=>?_) fun _ h k=>?_
     · refine ul 9 k z fun k=>fS h k m z z
     refine ul 9 k z fun k=>fS h k m z z
   refine uc 6 k z fun k=>cJ h k z (fun h=>?_) fun h=>?_
   · refine oE h fun Bk Au h=>uc 3 k z fun k=>cC k m call68 z (c_impl_in fu _ _ _  Au) fun Bo e a k m=>ul 6 k z fun k=>fS h k m z z
   refine uc 6 k z fun k=>cJ h k z (fun h=>?_) fun h=>?_
   · refine oE h fun Bh Ao h=>uc 3 k z fun k=>cC k m call68 z (c_impl_in fu _ _ _  Ao) fun Bq e a k m=>ul 6 k z fun k=>fS h k m z z
   refine uc 6 k z fun k=>cJ h k z (fun h=>?_) fun h=>?_
   · refine uc 5 k z fun k=>bS h k 34 z (fun _ h k=>?_) fun _ h k=>?_
     · refine ul 9 k z fun k=>fS h k m z z
     refine ul 9 k z fun k=>fS h k m z z
   refine uc 3 k z fun k=>?_;exact ⟨k.p z,m.sl [] z,h⟩
 refine uc 6 k z fun k=>cJ h k z (fun h=>?_) fun h=>?_
 · refine uc 2 k z fun k=>cJ h k z (fun h=>?_) fun h=>?_
   · refine uc 12 k z fun k=>fS h k m z z
   refine uc 6 k z fun k=>cJ h k z (fun h=>?_) fun h=>?_
   · refine uc 5 k z fun k=>bS h k 18 z (fun _ h k=>?_) fun _ h k=>?_
     · refine ul 9 k z fun k=>fS h k m z z
     refine ul 9 k z fun k=>fS h k m z z
   refine uc 6 k z fun k=>cJ h k z (fun h=>?_) fun h=>?_
   · refine oE h fun Bj Bd h=>uc 3 k z fun k=>cC k m call68 z (c_impl_in fu _ _ _  Bd) fun Bs e a k m=>ul 6 k z fun k=>fS h k m z z
   refine uc 6 k z fun k=>cJ h k z (fun h=>?_) fun h=>?_
   · refine oE h fun Bm Av h=>uc 3 k z fun k=>cC k m call68 z (c_impl_in fu _ _ _  Av) fun Bg e a k m=>ul 6 k z fun k=>fS h k m z z
   refine uc 6 k z fun k=>cJ h k z (fun h=>?_) fun h=>?_
   · refine uc 5 k z fun k=>bS h k 34 z (fun _ h k=>?_) fun _ h k=>?_
     · refine ul 9 k z fun k=>fS h k m z z
     refine ul 9 k z fun k=>fS h k m z z
   refine uc 3 k z fun k=>?_;exact ⟨k.p z,m.sl [] z,h⟩
 refine uc 5 k z fun k=>cJ h k z (fun h=>?_) fun h=>?_
 · refine uc 12 k z fun k=>fS h k m z z
 refine uc 6 k z fun k=>cJ h k z (fun h=>?_) fun h=>?_
 · refine uc 5 k z fun k=>bS h k 18 z (fun _ h k=>?_) fun _ h k=>?_
   · refine ul 9 k z fun k=>fS h k m z z
   refine ul 9 k z fun k=>fS h k m z z
 refine uc 6 k z fun k=>cJ h k z (fun h=>?_) fun h=>?_
 · refine oE h fun Bi Bf h=>uc 3 k z fun k=>cC k m call68 z (c_impl_in fu _ _ _  Bf) fun Bl e a k m=>ul 6 k z fun k=>fS h k m z z
 refine uc 6 k z fun k=>cJ h k z (fun h=>?_) fun h=>?_
 · refine oE h fun Bn Am h=>uc 3 k z fun k=>cC k m call68 z (c_impl_in fu _ _ _  Am) fun Bp e a k m=>ul 6 k z fun k=>fS h k m z z
 refine uc 6 k z fun k=>cJ h k z (fun h=>?_) fun h=>?_
 · refine uc 5 k z fun k=>bS h k 34 z (fun _ h k=>?_) fun _ h k=>?_
   · refine ul 9 k z fun k=>fS h k m z z
   refine ul 9 k z fun k=>fS h k m z z
 refine uc 3 k z fun k=>?_;exact ⟨k.p z,m.sl [] z,h⟩
theorem c_impl_ReadOrder (fu) {w0} (hT:Te Tryz.prog w0) (Bn) {r} (h:d_impl_ReadOrder fu Bn = some r):Calls Tryz.prog 51 #[.string (Bn)] w0 fun e w=>∃ (Bi:List Value) (G0:List Nat),e = .returned (.tuple #[.agg Bi.toArray,I r.2]) ∧ Ext [] w0 w ∧ ow w G0 Bi r.1 ∧ (∀ b ∈ G0,w0.heap.size ≤ b):=by
 refine eg (vs:=[_]) func51 z ntmps51 z fun k m=>uc 2 k z fun k=>s_alloc m k zeroValue55 z z z z z fun b2 w4 a k m e Al=>oE h fun x5 Cn h=>ul 6 k z fun k=>sL k m call36 z (c_impl_Parts fu _ _  Cn) fun w9 Cu Bm Ab k m=>gl 18 [lF (Enc.ow_rd Ab)] k z fun k=>cJ h k z (fun h=>?_) fun h=>?_
 · refine uc 2 k z fun k=>sv k z (r_build bt55 k (cs:=#[I 0,I 0,I 0,I 0,I 0,I 0,.slice none 0 0,.slice none 0 0,I 0,.slice none 0 0]) (ps:=[]) z z (by kernel_rfl)) fun a k=>sT sizeOf55 m 1 Al 0 k z z fun De a k e m Br=>ul 5 k z fun k=>?_;cases h;exact finR2 k z (RV.cA k z ta55 (Br.at (m.a 1 z) 0 10 z z z) z) (RV.tmp k z) ⟨_,_,z,m.ext,⟨_,[],_,[],_,[],z,z,(ow_nil _),(ow_nil _),(ow_nil _),by simpa [fps] using (m.sl [] z).nd⟩,(app_fresh (by simp) (app_fresh (by simp) (by simp)))⟩
 refine uc 4 k z fun k=>sv k z (r_build bt55 k (cs:=#[I 0,I 0,I 0,I 0,I 0,I 0,.slice none 0 0,.slice none 0 0,I 0,.slice none 0 0]) (ps:=[]) z z (by kernel_rfl)) fun a k=>s_alloc m k zeroValue55 z z z z z fun Bb Dm a k m e Ce=>sT sizeOf55 m 0 Ce 0 k z z fun Cw a k e m Cx=>oE h fun Bk Bp h=>ul 12 k z fun k=>s_slTo (Enc.ow_rd Ab) Bp k ts68 z z z z z z fun Cg a k Ay=>gl 5 [lF Ay] k z fun k=>lG (fun n a w=>∃ Ah Ag Ai Ac Ad Af Ao Aq Ax Be Am Av At Ba Ae Ak Aw Ar Bg Bh Ap Au,K 51 [(2,pt b2),(4,Cu),(5,I (w64 (((x5.length:Int)) - 1))),(6,pt Bb),(7,I Ap),(22,Cg),(23,I ((Bk.length:Int))),(24,I Au)] a ∧ St [] w0 w [([b2],w4),(Ax,Be),(At,Ba),(Ar,Bg),([Bb],Bh),(Bm,w9)] ∧ ow Be Ax [Aq] Ao ∧ ow Ba At [Av] Am ∧ ow Bg Ar [Aw] Ak ∧ bx Bh Bb [I Ah,I Ag,I Ai,I Ac,I Ad,I Af,Aq,Av,I Ae,Aw] 55 ∧ d_impl_ReadOrder_L1 fu x5 Bk n Ah Ag Ai Ac Ad Af Ao Am Ae Ak Ap Au = some r) ?_ fu ?_
 · rintro Dj a Di ⟨Ah,Ag,Ai,Ac,Ad,Af,Ao,Aq,Ax,Be,Am,Av,At,Ba,Ae,Ak,Aw,Ar,Bg,Bh,Ap,Au,k,m,Bf,Bd,Bc,Bo,h⟩;refine uc 6 k z fun k=>cJ h k z (fun h=>?_) fun h=>?_
   · refine oE h fun Dd Bj h=>gc 16 [iF Ay Bj,eF (Enc.rd_agr Ay (m.a 5 z)) Bj 0] k z fun k=>?_;have By:=Enc.ow_agr Bf (m.a 1 z);have Ch:=Enc.ow_agr Bd (m.a 2 z);have Cm:=Enc.ow_agr Bc (m.a 3 z);have Cv:=Bo.agr (m.a 4 z) (by simp);have m:=(m.sl [4,1,2,3,0,5] z).joinq;have Bv:=obx.fin (x:=(⟨Ah,(⟨Ag,Ai,Ac,Ad⟩:Pallet),Af,Ao,Am,Ae,Ak⟩:Request)) Cv By Ch Cm (m.ndF 0 z);refine oE h fun Aa Cy h=>sC k call92 z (c_impl_putLine fu (((⟨Ah,(⟨Ag,Ai,Ac,Ad⟩:Pallet),Af,Ao,Am,Ae,Ak⟩:Request)):Request) _ Bv (m.te2 hT 0 z) Cy) fun Db As hR=>?_;obtain ⟨Dl,rfl,e,Ck,Az⟩:=hR;refine ⟨_,z,fun a k=>?_⟩;have m:=m.mut 0 z e _ (fun b hb=>⟨Ck b hb,Az.lt b hb⟩) Az.nd;obtain ⟨Cq,Cd,Ca,Co,Bq,Bs,Bu,rfl,Cc,Cl,Bw,_⟩:=Az;have m:=m.split4;refine oE h fun Cz Cp h=>ul 8 k z fun k=>cC k m call93 z (c_impl_mayFollow fu _ _  Cp) fun Dh e a k m=>ul 3 k z fun k=>cJ h k z (fun h=>?_) fun h=>?_
     · refine uc 2 k z fun k=>sv k z (r_build bt55 k (cs:=#[I 0,I 0,I 0,I 0,I 0,I 0,.slice none 0 0,.slice none 0 0,I 0,.slice none 0 0]) (ps:=[]) z z (by kernel_rfl)) fun a k=>pN 1 k z fun a k=>sT sizeOf55 m 4 Al 0 k z z fun Dk a k e m Cs=>ul 10 k z fun k=>?_;cases h;exact finR2 k z (RV.cA k z ta55 (Cs.at (m.a 4 z) 0 10 z z z) z) (RV.tmp k z) ⟨_,_,z,m.ext,⟨_,[],_,[],_,[],z,z,(ow_nil _),(ow_nil _),(ow_nil _),by simpa [fps] using (m.sl [] z).nd⟩,(app_fresh (by simp) (app_fresh (by simp) (by simp)))⟩
     refine uc 13 k z fun k=>?_;exact ⟨_,_,_,_,_,_,_,_,_,_,_,_,_,_,_,_,_,_,_,_,_,_,k.p z,m.sl [4,1,2,3,0,5] z,Cc,Cl,Bw,Bu,h⟩
   refine uc 11 k z fun k=>bS h k 41 z (fun _ h k=>?_) fun _ h k=>?_
   · refine ul 11 k z fun k=>sv k z (r_build bt55 k (cs:=#[I 0,I 0,I 0,I 0,I 0,I 0,.slice none 0 0,.slice none 0 0,I 0,.slice none 0 0]) (ps:=[]) z z (by kernel_rfl)) fun a k=>pN 1 k z fun a k=>sT sizeOf55 m 0 Al 0 k z z fun Da a k e m Ct=>ul 5 k z fun k=>?_;cases h;exact finR2 k z (RV.cA k z ta55 (Ct.at (m.a 0 z) 0 10 z z z) z) (RV.tmp k z) ⟨_,_,z,m.ext,⟨_,[],_,[],_,[],z,z,(ow_nil _),(ow_nil _),(ow_nil _),by simpa [fps] using (m.sl [] z).nd⟩,(app_fresh (by simp) (app_fresh (by simp) (by simp)))⟩
   refine oE h fun Dc Bl h=>gl 8 [iF (Enc.ow_rd Ab) Bl,eF (m.q Ab 5 z) Bl 0] k z fun k=>cJ h k z (fun h=>?_) fun h=>?_
   · refine uc 2 k z fun k=>sv k z (r_build bt55 k (cs:=#[I 0,I 0,I 0,I 0,I 0,I 0,.slice none 0 0,.slice none 0 0,I 0,.slice none 0 0]) (ps:=[]) z z (by kernel_rfl)) fun a k=>pN 1 k z fun a k=>sT sizeOf55 m 0 Al 0 k z z fun Dg a k e m Bz=>ul 5 k z fun k=>?_;cases h;exact finR2 k z (RV.cA k z ta55 (Bz.at (m.a 0 z) 0 10 z z z) z) (RV.tmp k z) ⟨_,_,z,m.ext,⟨_,[],_,[],_,[],z,z,(ow_nil _),(ow_nil _),(ow_nil _),by simpa [fps] using (m.sl [] z).nd⟩,(app_fresh (by simp) (app_fresh (by simp) (by simp)))⟩
   refine gc 5 [bA m 4 Bo z] k z fun k=>sT sizeOf55 m 0 Al 0 k z (allc z (allc z (allc z (allc z (allc z (allc z (allc (rd_o (Enc.ow_rd Bf)) (allc (rd_o (Enc.ow_rd Bd)) (allc z (allc (rd_o (Enc.ow_rd Bc)) alln)))))))))) fun Df a k e m Cr=>ul 4 k z fun k=>?_;cases h;exact finR2 k z (RV.cA k z ta55 (Cr.at (m.a 0 z) 0 10 z z z) z) (RV.tmp k z) ⟨_,_,z,m.ext,⟨_,Ax,_,At,_,Ar,z,z,(m.v Bf 1 z),(m.v Bd 2 z),(m.v Bc 3 z),by simpa [fps] using (m.sl [1,2,3] z).nd⟩,(app_fresh (m.fresh 1 z) (app_fresh (m.fresh 2 z) (m.fresh 3 z)))⟩
 exact ⟨_,_,_,_,_,_,_,_,_,_,_,_,_,_,_,_,_,_,_,_,_,_,k.p z,(((m.addNil (u:=w0)).addNil (u:=w0)).addNil (u:=w0)).sel [5,0,1,2,3,4] z (by decide),(ow_nil _),(ow_nil _),(ow_nil _),Cx,h⟩
theorem c_impl_TypeById_1 (fu) {w0} (t1 x2) {b3} (Aa:bx w0 b3 [I x2] 3) {r} (h:d_impl_TypeById_1 fu t1 x2 = some r):cS 185 [.agg (Flat.e (t1)).toArray,pt b3] w0 (.bool (r)):=by
 refine eg func185 z ntmps185 z fun k m=>uc 2 k z fun k=>s_box m k z z z z z z fun b5 w7 a k m e Ab=>gl 13 [bF m 0 Ab z,pF (r:=[]) (Aa.at (m.a00 Aa.lt1) 0 1 z z z)] k z fun k=>fS h k m z z
theorem c_slices_IndexFunc_impl_Type_impl_Type (fu) {w0} (Aa f5) {v2 F3} (Ac:rd w0 F3 [v2] Aa) {v6} (Ae:FnOk1 Tryz.prog w0 v6 f5) {r} (h:d_slices_IndexFunc_impl_Type_impl_Type fu Aa f5 = some r):cS 184 [v2,v6] w0 (I r):=by
 refine eg func184 z ntmps184 z fun k m=>?_;obtain ⟨Al,Ag,rfl,Ah,Ak⟩:=Ae;refine gc 14 [lF Ac] k z fun k=>lG (fun n a w=>∃ Ab,K 19 [(0,v2),(1,(.func (.func Al) #[] Ag.toArray)),(7,I ((Aa.length:Int))),(8,I Ab)] a ∧ St [] w0 w [] ∧ d_slices_IndexFunc_impl_Type_impl_Type_L1 fu Aa f5 n Ab = some r) ?_ fu ?_
 · rintro Am a Ar ⟨Ab,k,m,h⟩;refine uc 6 k z fun k=>cJ h k z (fun h=>?_) fun h=>?_
   · refine o2 h fun Ao Ad Ap Ai h=>gc 17 [iF Ac Ad,eA (m.r Ac) Ad] k z fun k=>s_callv k Ah z z z z z z (Ak _ _ _ _ m.ext z Ai) fun Aq As hR=>?_;obtain ⟨rfl,e⟩:=hR;refine ⟨_,z,fun a k=>?_⟩;have m:=m.step e;refine ul 2 k z fun k=>cJ h k z (fun h=>?_) fun h=>?_
     · refine uc 12 k z fun k=>fS h k m z z
     refine uc 8 k z fun k=>?_;exact ⟨_,k.p z,m.sl [] z,h⟩
   refine uc 11 k z fun k=>fS h k m z z
 exact ⟨_,k.p z,m.sl [] z,h⟩
theorem c_impl_TypeById (fu) {w0} (r1 Ac) {Ad F3} (Ai:rd w0 F3 Ad r1) {r} (h:d_impl_TypeById fu r1 Ac = some r):cS 111 [.agg Ad.toArray,I Ac] w0 (.tuple #[.agg (Flat.e r.1).toArray,.bool (r.2)]):=by
 refine eg func111 z ntmps111 z fun k m=>?_;obtain ⟨v6,F7,v8,F9,Aq,Aw,rfl,rfl,Av,Ab,Ax⟩:=Ai;refine uc 2 k z fun k=>s_box m k z z z z z z fun Ba Be a k m e Ae=>s_box m k z z z z z z fun Ao Bd a k m e Am=>s_alloc m k zeroValue61 z z z z z fun Bb Ay a k m e Ag=>oE h fun At Aj h=>gl 8 [bF m 2 Ae z] k z fun k=>cC k m call184 z (c_slices_IndexFunc_impl_Type_impl_Type fu _ _ (m.r Ab) ⟨185,[pt Ao],z,call185,fun w Au Az r e Ah hx=>by subst Ah; have m:=m.step e; exact c_impl_TypeById_1 fu _ _ (Am.agr (m.a 1 rfl) (by simp)) hx⟩ Aj) fun Ar e a k m=>pN 1 k rfl fun a k=>ul 5 k z fun k=>pN 2 k rfl fun a k=>ul 2 k z fun k=>cI h k rfl (fun Al h=>?_) fun Al h=>?_
 · refine uc 2 k z fun k=>sv k z (r_build bt61 k (cs:=#[I 0,I 0,I 0,I 0,I 0,I 0,I 0]) (ps:=[]) z z (by kernel_rfl)) fun a k=>sT sizeOf61 m 0 Ag 0 k z z fun As a k e m Ak=>ul 5 k z fun k=>?_;cases h;exact finR2 k z (RV.cA k z ta61 (Ak.at (m.a 0 z) 0 7 z z z) z) (RV.tmp k z) ⟨z,m.ext⟩
 refine oE h fun Aa Af h=>gc 9 [bF m 2 Ae z,iF Ab Af,eA (m.r Ab) Af] k z fun k=>sT sizeOf61 m 0 Ag 0 k z z fun Bc a k e m Ap=>ul 4 k z fun k=>?_;cases h;exact finR2 k z (RV.cA k z ta61 (Ap.at (m.a 0 z) 0 7 z z z) z) (RV.tmp k z) ⟨z,m.ext⟩
theorem c_impl_MasterOf (fu) {w0} (r1) {Ad F3} (Aj:rd w0 F3 Ad r1) {r} (h:d_impl_MasterOf fu r1 = some r):cS 153 [.agg Ad.toArray] w0 (.tuple #[.agg (Flat.e r.1).toArray,.bool (r.2)]):=by
 refine eg func153 z ntmps153 z fun k m=>?_;obtain ⟨v5,F6,v7,F8,v9,Ap,rfl,rfl,Af,Ac,Ab⟩:=Aj;refine uc 2 k z fun k=>s_box m k z z z z z z fun Aq Ao a k m e Ae=>s_alloc m k zeroValue61 z z z z z fun Ak Al a k m e Ag=>oE h fun Aa Ai h=>gl 8 [bA m 1 Ae z,bF m 1 Ae z] k z fun k=>cC k m call111 z (c_impl_TypeById fu _ _ (mkRequest (m.r Af) (m.r Ac) (m.r Ab)) Ai) fun Ar e a k m=>pN 2 k z fun a k=>sT sizeOf61 m 0 Ag 0 k z z fun Am a k e m Ah=>ul 4 k z fun k=>?_;cases h;exact finR2 k z (RV.cA k z ta61 (Ah.at (m.a 0 z) 0 7 z z z) z) (RV.tmp k z) ⟨z,m.ext⟩
theorem c_impl_isSide (fu) {w0} (n1) {r} (h:d_impl_isSide fu n1 = some r):cS 247 [I n1] w0 (.bool (r)):=by
 refine eg func247 z ntmps247 z fun k m=>oE h fun x2 Aa h=>uc 8 k z fun k=>cC k m call68 z (c_impl_in fu _ _ _  Aa) fun w5 e a k m=>ul 4 k z fun k=>fS h k m z z
theorem c_impl_PalletOk (fu) {w0} (x1) {r} (h:d_impl_PalletOk fu x1 = some r):cS 187 [.agg (Flat.e (x1)).toArray] w0 (.bool (r)):=by
 refine eg func187 z ntmps187 z fun k m=>uc 2 k z fun k=>s_box m k z z z z z z fun b2 w4 a k m e Ad=>oE h fun x5 Ah h=>gl 7 [bF m 0 Ad z] k z fun k=>cC k m call247 z (c_impl_isSide fu _  Ah) fun w9 e a k m=>pN 1 k z fun a k=>bS h k 6 z (fun _ h k=>?_) fun _ h k=>?_
 · refine oE h fun Af Ae h=>gl 2 [bF m 0 Ad z] k z fun k=>cC k m call247 z (c_impl_isSide fu _  Ae) fun Am e a k m=>pN 2 k z fun a k=>bS h k 11 z (fun _ h k=>?_) fun _ h k=>?_
   · refine oE h fun Aj Ai h=>gl 2 [bF m 0 Ad z] k z fun k=>cC k m call247 z (c_impl_isSide fu _  Ai) fun Ak e a k m=>pN 2 k z fun a k=>bS h k 16 z (fun _ h k=>?_) fun _ h k=>?_
     · refine oE h fun Ao Ag h=>gl 2 [bF m 0 Ad z] k z fun k=>cC k m call68 z (c_impl_in fu _ _ _  Ag) fun Al e a k m=>ul 5 k z fun k=>fS h k m z z
     refine ul 8 k z fun k=>fS h k m z z
   refine ul 13 k z fun k=>fS h k m z z
 refine ul 18 k z fun k=>fS h k m z z
theorem c_slices_IndexFunc_impl_Pair_impl_Pair (fu) {w0} (Aa f5) {v2 F3} (Ac:rd w0 F3 [v2] Aa) {v6} (Ae:FnOk1 Tryz.prog w0 v6 f5) {r} (h:d_slices_IndexFunc_impl_Pair_impl_Pair fu Aa f5 = some r):cS 278 [v2,v6] w0 (I r):=by
 refine eg func278 z ntmps278 z fun k m=>?_;obtain ⟨Al,Ag,rfl,Ah,Ak⟩:=Ae;refine gc 14 [lF Ac] k z fun k=>lG (fun n a w=>∃ Ab,K 19 [(0,v2),(1,(.func (.func Al) #[] Ag.toArray)),(7,I ((Aa.length:Int))),(8,I Ab)] a ∧ St [] w0 w [] ∧ d_slices_IndexFunc_impl_Pair_impl_Pair_L1 fu Aa f5 n Ab = some r) ?_ fu ?_
 · rintro Am a Ar ⟨Ab,k,m,h⟩;refine uc 6 k z fun k=>cJ h k z (fun h=>?_) fun h=>?_
   · refine o2 h fun Ao Ad Ap Ai h=>gc 17 [iF Ac Ad,eA (m.r Ac) Ad] k z fun k=>s_callv k Ah z z z z z z (Ak _ _ _ _ m.ext z Ai) fun Aq As hR=>?_;obtain ⟨rfl,e⟩:=hR;refine ⟨_,z,fun a k=>?_⟩;have m:=m.step e;refine ul 2 k z fun k=>cJ h k z (fun h=>?_) fun h=>?_
     · refine uc 12 k z fun k=>fS h k m z z
     refine uc 8 k z fun k=>?_;exact ⟨_,k.p z,m.sl [] z,h⟩
   refine uc 11 k z fun k=>fS h k m z z
 exact ⟨_,k.p z,m.sl [] z,h⟩
theorem c_slices_ContainsFunc_impl_Pair_impl_Pair (fu) {w0} (Aa f5) {v2 F3} (Ab:rd w0 F3 [v2] Aa) {v6} (Ac:FnOk1 Tryz.prog w0 v6 f5) {r} (h:d_slices_ContainsFunc_impl_Pair_impl_Pair fu Aa f5 = some r):cS 221 [v2,v6] w0 (.bool (r)):=by
 refine eg func221 z ntmps221 z fun k m=>?_;obtain ⟨Aj,Ai,rfl,Ag,Ae⟩:=Ac;refine oE h fun Al Ah h=>uc 9 k z fun k=>cC k m call278 z (c_slices_IndexFunc_impl_Pair_impl_Pair fu _ _ (m.r Ab) ⟨_,_,z,Ag,fun w Ad Af r e=>Ae w Ad Af r (m.ext.trans e (by simp))⟩ Ah) fun Ak e a k m=>ul 5 k z fun k=>fS h k m z z
theorem c_impl_BoundsOk_1 (fu) {w0} (p1) {r} (h:d_impl_BoundsOk_1 fu p1 = some r):cS 222 [.agg (Flat.e (p1)).toArray] w0 (.bool (r)):=by
 refine eg func222 z ntmps222 z fun k m=>uc 2 k z fun k=>s_box m k z z z z z z fun b2 w4 a k m e Ab=>oE h fun x5 Ad h=>gl 7 [bF m 0 Ab z] k z fun k=>cC k m call68 z (c_impl_in fu _ _ _  Ad) fun w9 e a k m=>pN 2 k z fun a k=>bS h k 7 z (fun _ h k=>?_) fun _ h k=>?_
 · refine ul 9 k z fun k=>fS h k m z z
 refine oE h fun Ae Ac h=>gl 2 [bF m 0 Ab z] k z fun k=>cC k m call68 z (c_impl_in fu _ _ _  Ac) fun Af e a k m=>ul 6 k z fun k=>fS h k m z z
theorem c_slices_ContainsFunc_impl_Type_impl_Type (fu) {w0} (Aa f5) {v2 F3} (Ab:rd w0 F3 [v2] Aa) {v6} (Ac:FnOk1 Tryz.prog w0 v6 f5) {r} (h:d_slices_ContainsFunc_impl_Type_impl_Type fu Aa f5 = some r):cS 160 [v2,v6] w0 (.bool (r)):=by
 refine eg func160 z ntmps160 z fun k m=>?_;obtain ⟨Aj,Ai,rfl,Ag,Ae⟩:=Ac;refine oE h fun Al Ah h=>uc 9 k z fun k=>cC k m call184 z (c_slices_IndexFunc_impl_Type_impl_Type fu _ _ (m.r Ab) ⟨_,_,z,Ag,fun w Ad Af r e=>Ae w Ad Af r (m.ext.trans e (by simp))⟩ Ah) fun Ak e a k m=>ul 5 k z fun k=>fS h k m z z
theorem c_impl_TypeOk (fu) {w0} (x1) {r} (h:d_impl_TypeOk fu x1 = some r):cS 224 [.agg (Flat.e (x1)).toArray] w0 (.bool (r)):=by
 refine eg func224 z ntmps224 z fun k m=>uc 2 k z fun k=>s_box m k z z z z z z fun b2 w4 a k m e Aa=>oE h fun x5 Aj h=>gl 7 [bF m 0 Aa z] k z fun k=>cC k m call68 z (c_impl_in fu _ _ _  Aj) fun w9 e a k m=>pN 1 k z fun a k=>bS h k 6 z (fun _ h k=>?_) fun _ h k=>?_
 · refine oE h fun Ai Ah h=>gl 2 [bF m 0 Aa z] k z fun k=>cC k m call247 z (c_impl_isSide fu _  Ah) fun Aw e a k m=>pN 2 k z fun a k=>bS h k 11 z (fun _ h k=>?_) fun _ h k=>?_
   · refine oE h fun Al As h=>gl 2 [bF m 0 Aa z] k z fun k=>cC k m call247 z (c_impl_isSide fu _  As) fun Av e a k m=>pN 2 k z fun a k=>bS h k 16 z (fun _ h k=>?_) fun _ h k=>?_
     · refine oE h fun Ak Ar h=>gl 2 [bF m 0 Aa z] k z fun k=>cC k m call247 z (c_impl_isSide fu _  Ar) fun Ay e a k m=>pN 2 k z fun a k=>bS h k 21 z (fun _ h k=>?_) fun _ h k=>?_
       · refine oE h fun Aq Ao h=>gl 2 [bF m 0 Aa z] k z fun k=>cC k m call68 z (c_impl_in fu _ _ _  Ao) fun Au e a k m=>pN 2 k z fun a k=>bS h k 26 z (fun _ h k=>?_) fun _ h k=>?_
         · refine oE h fun Am Ap h=>gl 2 [bF m 0 Aa z] k z fun k=>cC k m call68 z (c_impl_in fu _ _ _  Ap) fun Az e a k m=>pN 2 k z fun a k=>bS h k 31 z (fun _ h k=>?_) fun _ h k=>?_
           · refine oE h fun Ax At h=>gl 2 [bF m 0 Aa z] k z fun k=>cC k m call68 z (c_impl_in fu _ _ _  At) fun Ba e a k m=>ul 5 k z fun k=>fS h k m z z
           refine ul 8 k z fun k=>fS h k m z z
         refine ul 13 k z fun k=>fS h k m z z
       refine ul 18 k z fun k=>fS h k m z z
     refine ul 23 k z fun k=>fS h k m z z
   refine ul 28 k z fun k=>fS h k m z z
 refine ul 33 k z fun k=>fS h k m z z
theorem c_impl_BoundsOk_2 (fu) {w0} (t1) {r} (h:d_impl_BoundsOk_2 fu t1 = some r):cS 223 [.agg (Flat.e (t1)).toArray] w0 (.bool (r)):=by
 refine eg func223 z ntmps223 z fun k m=>uc 2 k z fun k=>s_box m k z z z z z z fun b2 w4 a k m e Ab=>oE h fun x5 Aa h=>gl 6 [bA m 0 Ab z] k z fun k=>cC k m call224 z (c_impl_TypeOk fu (t1:Typ)  Aa) fun w9 e a k m=>ul 5 k z fun k=>fS h k m z z
theorem c_impl_ItemOk (fu) {w0} (x1) {r} (h:d_impl_ItemOk fu x1 = some r):cS 225 [.agg (Flat.e (x1)).toArray] w0 (.bool (r)):=by
 refine eg func225 z ntmps225 z fun k m=>uc 2 k z fun k=>s_box m k z z z z z z fun b2 w4 a k m e Aa=>oE h fun x5 Aj h=>gl 7 [bF m 0 Aa z] k z fun k=>cC k m call68 z (c_impl_in fu _ _ _  Aj) fun w9 e a k m=>pN 1 k z fun a k=>bS h k 6 z (fun _ h k=>?_) fun _ h k=>?_
 · refine oE h fun Ai Ah h=>gl 2 [bF m 0 Aa z] k z fun k=>cC k m call247 z (c_impl_isSide fu _  Ah) fun Aw e a k m=>pN 2 k z fun a k=>bS h k 11 z (fun _ h k=>?_) fun _ h k=>?_
   · refine oE h fun Al As h=>gl 2 [bF m 0 Aa z] k z fun k=>cC k m call247 z (c_impl_isSide fu _  As) fun Av e a k m=>pN 2 k z fun a k=>bS h k 16 z (fun _ h k=>?_) fun _ h k=>?_
     · refine oE h fun Ak Ar h=>gl 2 [bF m 0 Aa z] k z fun k=>cC k m call247 z (c_impl_isSide fu _  Ar) fun Ay e a k m=>pN 2 k z fun a k=>bS h k 21 z (fun _ h k=>?_) fun _ h k=>?_
       · refine oE h fun Aq Ao h=>gl 2 [bF m 0 Aa z] k z fun k=>cC k m call68 z (c_impl_in fu _ _ _  Ao) fun Au e a k m=>pN 2 k z fun a k=>bS h k 26 z (fun _ h k=>?_) fun _ h k=>?_
         · refine oE h fun Am Ap h=>gl 2 [bF m 0 Aa z] k z fun k=>cC k m call68 z (c_impl_in fu _ _ _  Ap) fun Az e a k m=>pN 2 k z fun a k=>bS h k 31 z (fun _ h k=>?_) fun _ h k=>?_
           · refine oE h fun Ax At h=>gl 2 [bF m 0 Aa z] k z fun k=>cC k m call68 z (c_impl_in fu _ _ _  At) fun Ba e a k m=>ul 5 k z fun k=>fS h k m z z
           refine ul 8 k z fun k=>fS h k m z z
         refine ul 13 k z fun k=>fS h k m z z
       refine ul 18 k z fun k=>fS h k m z z
     refine ul 23 k z fun k=>fS h k m z z
   refine ul 28 k z fun k=>fS h k m z z
 refine ul 33 k z fun k=>fS h k m z z
theorem c_impl_BoundsOk (fu) {w0} (r1) {Ap F3} (Ay:rd w0 F3 Ap r1) {r} (h:d_impl_BoundsOk fu r1 = some r):cS 154 [.agg Ap.toArray] w0 (.bool (r)):=by
 refine eg func154 z ntmps154 z fun k m=>?_;obtain ⟨v5,F6,v7,F8,v9,Bs,rfl,rfl,Am,Ao,Ac⟩:=Ay;refine uc 2 k z fun k=>s_box m k z z z z z z fun Al As a k m e Aa=>ul 3 k z fun k=>cg (fun a w=>K 70 [(1,pt Al)] a ∧ St [] w0 w [([Al],As)] ∧ d_impl_BoundsOk_J2 fu r1 = some r) ?_ ?_
 · rintro a Cg ⟨k,m,h⟩;refine oE h fun Ch Ba h=>gc 5 [bF m 0 Aa z] k z fun k=>cC k m call221 z (c_slices_ContainsFunc_impl_Pair_impl_Pair fu _ _ (m.r Am) ⟨222,[],z,call222,fun w Cd Bx r e Bp hx=>by subst Bp; have m:=m.step e; exact c_impl_BoundsOk_1 fu _  hx⟩ Ba) fun Ck e a k m=>ul 2 k z fun k=>cI h k rfl (fun Bg h=>?_) fun Bg h=>?_
   · refine uc 7 k z fun k=>fS h k m z z
   refine uc 2 k z fun k=>cg (fun a w=>K 70 [(1,pt Al)] a ∧ St [] w0 w [([Al],As)] ∧ d_impl_BoundsOk_J1 fu r1 = some r) ?_ ?_
   · rintro a Ce ⟨k,m,h⟩;refine gc 15 [bF m 0 Aa z,lF Ac] k z fun k=>lG (fun n a w=>∃ Ak Aj,K 70 [(3,I Ak),(54,v9),(55,I ((r1.fItems.length:Int))),(56,I Aj)] a ∧ St [] w0 w [] ∧ d_impl_BoundsOk_L1 fu r1 n Ak Aj = some r) ?_ fu ?_
     · rintro Bw a Br ⟨Ak,Aj,k,m,h⟩;refine uc 6 k z fun k=>cJ h k z (fun h=>?_) fun h=>?_
       · refine oE h fun Ab Ar h=>gc 8 [iF Ac Ar,eA (m.r Ac) Ar] k z fun k=>s_alloc m k zeroValue59 z z z z z fun Bz Ci a k m e Bj=>sT sizeOf59 m 0 Bj 0 k z z fun Ca a k e m Aq=>oE h fun Bt Au h=>gl 6 [bA m 0 Aq z] k z fun k=>cC k m call225 z (c_impl_ItemOk fu (Ab:Item)  Au) fun By e a k m=>ul 3 k z fun k=>cJ h k z (fun h=>?_) fun h=>?_
         · refine uc 12 k z fun k=>fS h k m z z
         refine gc 16 [bF m 0 Aq z] k z fun k=>?_;exact ⟨_,_,k.p z,m.sl [] z,h⟩
       refine uc 13 k z fun k=>fS h k m z z
     exact ⟨_,_,k.p z,m.sl [] z,h⟩
   refine oE h fun Ax Bi h=>gc 5 [bF m 0 Aa z,lF Ao] k z fun k=>cC k m call68 z (c_impl_in fu _ _ _  Bi) fun Bu e a k m=>pN 2 k z fun a k=>bS h k 36 z (fun _ h k=>?_) fun _ h k=>?_
   · refine ul 26 k z fun k=>fS h k m z z
   refine oE h fun Bl Bd h=>gl 2 [bF m 0 Aa z] k z fun k=>cC k m call160 z (c_slices_ContainsFunc_impl_Type_impl_Type fu _ _ (m.r Ao) ⟨223,[],z,call223,fun w Cj Cc r e At hx=>by subst At; have m:=m.step e; exact c_impl_BoundsOk_2 fu _  hx⟩ Bd) fun Cm e a k m=>pN 2 k rfl fun a k=>bS h k 41 z (fun _ h k=>?_) fun _ h k=>?_
   · refine ul 21 k z fun k=>fS h k m z z
   refine oE h fun Az Bf h=>gl 2 [bF m 0 Aa z] k z fun k=>cC k m call68 z (c_impl_in fu _ _ _  Bf) fun Bq e a k m=>pN 3 k z fun a k=>bS h k 47 z (fun _ h k=>?_) fun _ h k=>?_
   · refine ul 15 k z fun k=>fS h k m z z
   refine gl 7 [bF m 0 Aa z,lF Ac] k z fun k=>cJ h k z (fun h=>?_) fun h=>?_
   · refine uc 7 k z fun k=>fS h k m z z
   refine uc 2 k z fun k=>?_;exact ⟨k.p z,m.sl [0] z,h⟩
 refine oE h fun Bk Bh h=>gc 4 [bF m 0 Aa z] k z fun k=>cC k m call68 z (c_impl_in fu _ _ _  Bh) fun Cl e a k m=>pN 2 k z fun a k=>bS h k 10 z (fun _ h k=>?_) fun _ h k=>?_
 · refine ul 27 k z fun k=>fS h k m z z
 refine oE h fun Av Bo h=>gl 2 [bA m 0 Aa z] k z fun k=>cC k m call187 z (c_impl_PalletOk fu (r1.fPallet:Pallet)  Bo) fun Bv e a k m=>pN 3 k z fun a k=>bS h k 16 z (fun _ h k=>?_) fun _ h k=>?_
 · refine ul 21 k z fun k=>fS h k m z z
 refine oE h fun Bc Aw h=>gl 2 [bF m 0 Aa z] k z fun k=>cC k m call68 z (c_impl_in fu _ _ _  Aw) fun Cb e a k m=>pN 3 k z fun a k=>bS h k 22 z (fun _ h k=>?_) fun _ h k=>?_
 · refine ul 15 k z fun k=>fS h k m z z
 refine gl 7 [bF m 0 Aa z,lF Am] k z fun k=>cJ h k z (fun h=>?_) fun h=>?_
 · refine uc 7 k z fun k=>fS h k m z z
 refine uc 2 k z fun k=>?_;exact ⟨k.p z,m.sl [0] z,h⟩
theorem c_impl_namesOk_1 (fu) {w0} (q1 x2) {b3} (Aa:bx w0 b3 [I x2.fId,I x2.fW,I x2.fH,I x2.fD,I x2.fTare,I x2.fGram,I x2.fCost] 61) {r} (h:d_impl_namesOk_1 fu q1 x2 = some r):cS 226 [.agg (Flat.e (q1)).toArray,pt b3] w0 (.bool (r)):=by
 refine eg func226 z ntmps226 z fun k m=>uc 2 k z fun k=>s_box m k z z z z z z fun b5 w7 a k m e Ab=>gl 14 [bF m 0 Ab z,pF (r:=[]) (Aa.at (m.a00 Aa.lt1) 0 1 z z z)] k z fun k=>fS h k m z z
theorem c_impl_namesOk_2 (fu) {w0} (q1 x2) {b3} (Aa:bx w0 b3 [I x2.fId,I x2.fW,I x2.fH,I x2.fD,I x2.fGram,I x2.fClass,I x2.fCount] 59) {r} (h:d_impl_namesOk_2 fu q1 x2 = some r):cS 227 [.agg (Flat.e (q1)).toArray,pt b3] w0 (.bool (r)):=by
 refine eg func227 z ntmps227 z fun k m=>uc 2 k z fun k=>s_box m k z z z z z z fun b5 w7 a k m e Ab=>gl 14 [bF m 0 Ab z,pF (r:=[]) (Aa.at (m.a00 Aa.lt1) 0 1 z z z)] k z fun k=>fS h k m z z
theorem c_slices_IndexFunc_impl_Item_impl_Item (fu) {w0} (Aa f5) {v2 F3} (Ac:rd w0 F3 [v2] Aa) {v6} (Ae:FnOk1 Tryz.prog w0 v6 f5) {r} (h:d_slices_IndexFunc_impl_Item_impl_Item fu Aa f5 = some r):cS 230 [v2,v6] w0 (I r):=by
 refine eg func230 z ntmps230 z fun k m=>?_;obtain ⟨Al,Ag,rfl,Ah,Ak⟩:=Ae;refine gc 14 [lF Ac] k z fun k=>lG (fun n a w=>∃ Ab,K 19 [(0,v2),(1,(.func (.func Al) #[] Ag.toArray)),(7,I ((Aa.length:Int))),(8,I Ab)] a ∧ St [] w0 w [] ∧ d_slices_IndexFunc_impl_Item_impl_Item_L1 fu Aa f5 n Ab = some r) ?_ fu ?_
 · rintro Am a Ar ⟨Ab,k,m,h⟩;refine uc 6 k z fun k=>cJ h k z (fun h=>?_) fun h=>?_
   · refine o2 h fun Ao Ad Ap Ai h=>gc 17 [iF Ac Ad,eA (m.r Ac) Ad] k z fun k=>s_callv k Ah z z z z z z (Ak _ _ _ _ m.ext z Ai) fun Aq As hR=>?_;obtain ⟨rfl,e⟩:=hR;refine ⟨_,z,fun a k=>?_⟩;have m:=m.step e;refine ul 2 k z fun k=>cJ h k z (fun h=>?_) fun h=>?_
     · refine uc 12 k z fun k=>fS h k m z z
     refine uc 8 k z fun k=>?_;exact ⟨_,k.p z,m.sl [] z,h⟩
   refine uc 11 k z fun k=>fS h k m z z
 exact ⟨_,k.p z,m.sl [] z,h⟩
theorem c_slices_ContainsFunc_impl_Item_impl_Item (fu) {w0} (Aa f5) {v2 F3} (Ab:rd w0 F3 [v2] Aa) {v6} (Ac:FnOk1 Tryz.prog w0 v6 f5) {r} (h:d_slices_ContainsFunc_impl_Item_impl_Item fu Aa f5 = some r):cS 157 [v2,v6] w0 (.bool (r)):=by
 refine eg func157 z ntmps157 z fun k m=>?_;obtain ⟨Aj,Ai,rfl,Ag,Ae⟩:=Ac;refine oE h fun Al Ah h=>uc 9 k z fun k=>cC k m call230 z (c_slices_IndexFunc_impl_Item_impl_Item fu _ _ (m.r Ab) ⟨_,_,z,Ag,fun w Ad Af r e=>Ae w Ad Af r (m.ext.trans e (by simp))⟩ Ah) fun Ak e a k m=>ul 5 k z fun k=>fS h k m z z
theorem c_impl_namesOk_3 (fu) {w0} (p1 x2) {v5 F6 v8 F9 Ac Ae b3} (Ab:bx w0 b3 (cR x2 v5 v8 Ac) 55) (Af:rd w0 F6 [v5] x2.fPairs) (Ah:rd w0 F9 [v8] x2.fTypes) (Ag:rd w0 Ae [Ac] x2.fItems) {r} (h:d_impl_namesOk_3 fu p1 x2 = some r):cS 228 [.agg (Flat.e (p1)).toArray,pt b3] w0 (.bool (r)):=by
 refine eg func228 z ntmps228 z fun k m=>uc 2 k z fun k=>s_box m k z z z z z z fun Aj Ai a k m e Ad=>gl 11 [bF m 0 Ad z,pF (r:=[]) (Ab.at (m.a00 Ab.lt1) 5 1 z z z)] k z fun k=>bS h k 9 z (fun _ h k=>?_) fun _ h k=>?_
 · refine ul 10 k z fun k=>fS h k m z z
 refine gl 10 [bF m 0 Ad z,pF (r:=[]) (Ab.at (m.a00 Ab.lt1) 5 1 z z z)] k z fun k=>fS h k m z z
theorem c_impl_namesOk (fu) {w0} (r1) {At F3} (Ba:rd w0 F3 At r1) {r} (h:d_impl_namesOk fu r1 = some r):cS 155 [.agg At.toArray] w0 (.bool (r)):=by
 refine eg func155 z ntmps155 z fun k m=>?_;obtain ⟨v5,F6,v7,F8,v9,Bw,rfl,rfl,Ai,Ab,Aa⟩:=Ba;refine uc 2 k z fun k=>s_box m k z z z z z z fun Ag Am a k m e Ae=>gl 13 [bF m 0 Ae z,lF Ab] k z fun k=>lG (fun n a w=>∃ Al,K 59 [(1,pt Ag),(10,v7),(11,I ((r1.fTypes.length:Int))),(12,I Al)] a ∧ St [] w0 w [([Ag],Am)] ∧ d_impl_namesOk_L2 fu r1 n Al = some r) ?_ fu ?_
 · rintro Cm a Cb ⟨Al,k,m,h⟩;refine uc 6 k z fun k=>cJ h k z (fun h=>?_) fun h=>?_
   · refine oE h fun Af Ap h=>gc 9 [iF Ab Ap,eA (m.r Ab) Ap] k z fun k=>s_alloc m k zeroValue61 z z z z z fun Az Bt a k m e Ax=>pN 1 k z fun a k=>sT sizeOf61 m 0 Ax 0 k z z fun Ch a k e m Au=>oE h fun Bz Bo h=>gl 7 [bF m 1 Ae z] k z fun k=>s_slTo Ab Bo k ts52 z z z z z z fun Ce a k As=>pN 1 k z fun a k=>oE h fun Cn Bh h=>cC k m call160 z (c_slices_ContainsFunc_impl_Type_impl_Type fu _ _ (m.r As) ⟨226,[pt Az],z,call226,fun w Cq By r e Be hx=>by subst Be; have m:=m.step e; exact c_impl_namesOk_1 fu _ _ (Au.agr (m.a 0 rfl) (by simp)) hx⟩ Bh) fun Cs e a k m=>ul 2 k z fun k=>cI h k rfl (fun Bi h=>?_) fun Bi h=>?_
     · refine uc 11 k z fun k=>fS h k m z z
     refine uc 8 k z fun k=>?_;exact ⟨_,k.p z,m.sl [1] z,h⟩
   refine gc 15 [bF m 0 Ae z,lF Aa] k z fun k=>lG (fun n a w=>∃ Ah,K 59 [(1,pt Ag),(25,v9),(26,I ((r1.fItems.length:Int))),(27,I Ah)] a ∧ St [] w0 w [([Ag],Am)] ∧ d_impl_namesOk_L1 fu r1 n Ah = some r) ?_ fu ?_
   · rintro Bc a Co ⟨Ah,k,m,h⟩;refine uc 6 k z fun k=>cJ h k z (fun h=>?_) fun h=>?_
     · refine uc 2 k z fun k=>cg (fun a w=>K 59 [(1,pt Ag),(25,v9),(26,I ((r1.fItems.length:Int))),(27,I Ah)] a ∧ St [] w0 w [([Ag],Am)] ∧ d_impl_namesOk_J1 fu (d_impl_namesOk_L1 fu r1 Bc) Ah = some r) ?_ ?_
       · rintro a Cp ⟨k,m,h⟩;refine uc 5 k z fun k=>?_;exact ⟨_,k.p z,m.sl [0] z,h⟩
       refine oE h fun Ac Ao h=>gc 6 [iF Aa Ao,eA (m.r Aa) Ao] k z fun k=>s_alloc m k zeroValue59 z z z z z fun Bk Bp a k m e Bd=>pN 1 k z fun a k=>sT sizeOf59 m 0 Bd 0 k z z fun Br a k e m Ar=>gl 10 [bF m 0 Ar z,bF m 1 Ae z] k z fun k=>bS h k 37 z (fun _ h k=>?_) fun _ h k=>?_
       · refine ul 21 k z fun k=>fS h k m z z
       refine oE h fun Bv Bf h=>gl 3 [bF m 1 Ae z] k z fun k=>s_slTo Aa Bf k ts53 z z z z z z fun Ck a k Aq=>pN 1 k z fun a k=>oE h fun Cr Av h=>cC k m call157 z (c_slices_ContainsFunc_impl_Item_impl_Item fu _ _ (m.r Aq) ⟨227,[pt Bk],z,call227,fun w Cg Ca r e Bb hx=>by subst Bb; have m:=m.step e; exact c_impl_namesOk_2 fu _ _ (Ar.agr (m.a 0 rfl) (by simp)) hx⟩ Av) fun Bx e a k m=>pN 1 k rfl fun a k=>ul 2 k z fun k=>cI h k rfl (fun Bl h=>?_) fun Bl h=>?_
       · refine uc 11 k z fun k=>fS h k m z z
       refine uc 3 k z fun k=>?_;exact ⟨k.p z,m.sl [1] z,h⟩
     refine oE h fun Ad Bg h=>gc 8 [bA m 0 Ae z] k z fun k=>cC k m call153 z (c_impl_MasterOf fu _ (mkRequest (m.r Ai) (m.r Ab) (m.r Aa)) Bg) fun Cd e a k m=>pN 3 k z fun a k=>s_alloc m k zeroValue61 z z z z z fun Bs Ci a k m e Aw=>sT sizeOf61 m 0 Aw 0 k z z fun Cc a k e m Cl=>ul 7 k z fun k=>bS h k 52 z (fun _ h k=>?_) fun _ h k=>?_
     · refine oE h fun Ct Bj h=>gl 3 [bF m 1 Ae z] k z fun k=>cC k m call221 z (c_slices_ContainsFunc_impl_Pair_impl_Pair fu _ _ (m.r Ai) ⟨228,[pt Ag],z,call228,fun w Cj Bu r e Ay hx=>by subst Ay; have m:=m.step e; exact c_impl_namesOk_3 fu _ _ (Ae.agr (m.a 1 rfl) (by simp)) (m.r Ai) (m.r Ab) (m.r Aa) hx⟩ Bj) fun Bq e a k m=>pN 3 k rfl fun a k=>ul 3 k z fun k=>fS h k m rfl rfl
     refine ul 10 k z fun k=>fS h k m z z
   exact ⟨_,k.p z,m.sl [0] z,h⟩
 exact ⟨_,k.p z,m.sl [0] z,h⟩
theorem c_slices_Index_impl_Pair_impl_Pair (fu) {w0} (Ab v5) {v2 F3} (Ac:rd w0 F3 [v2] Ab) {r} (h:d_slices_Index_impl_Pair_impl_Pair fu Ab v5 = some r):cS 302 [v2,.agg (Flat.e (v5)).toArray] w0 (I r):=by
 refine eg func302 z ntmps302 z fun k m=>uc 2 k z fun k=>s_box m k z z z z z z fun b6 w9 a k m e Ah=>gl 12 [lF Ac] k z fun k=>lG (fun n a w=>∃ Aa,K 19 [(0,v2),(3,pt b6),(7,I ((Ab.length:Int))),(8,I Aa)] a ∧ St [] w0 w [([b6],w9)] ∧ d_slices_Index_impl_Pair_impl_Pair_L1 fu Ab v5 n Aa = some r) ?_ fu ?_
 · rintro Aj a Ak ⟨Aa,k,m,h⟩;refine uc 6 k z fun k=>cJ h k z (fun h=>?_) fun h=>?_
   · refine uc 11 k z fun k=>d_go [] mixo m z fun Ai hMd=>?_;have m:=hMd;have s:=Ext.refl ([]:List Nat) Ai;refine oE h fun Af Ad h=>dr [1,2,0,3,4] 5 [bA hMd 0 Ah z,iF Ac Ad,eA (hMd.r Ac) Ad] k z s fun k=>dT k 5 z z s (fun w s=>r_eqs seq98 (x:=v5) (y:=Af) k z z z z z) fun a k=>dD ((nm_then ?_));refine cJ h k z (fun h=>?_) fun h=>?_
     · refine uc 12 k z fun k=>fS h k m z z
     refine uc 8 k z fun k=>?_;exact ⟨_,k.p z,m.sl [0] z,h⟩
   refine uc 11 k z fun k=>fS h k m z z
 exact ⟨_,k.p z,m.sl [0] z,h⟩
theorem c_slices_Contains_impl_Pair_impl_Pair (fu) {w0} (Aa v5) {v2 F3} (Ab:rd w0 F3 [v2] Aa) {r} (h:d_slices_Contains_impl_Pair_impl_Pair fu Aa v5 = some r):cS 279 [v2,.agg (Flat.e (v5)).toArray] w0 (.bool (r)):=by
 refine eg func279 z ntmps279 z fun k m=>uc 2 k z fun k=>s_box m k z z z z z z fun b6 w9 a k m e Ad=>oE h fun Af Ac h=>gl 7 [bA m 0 Ad z] k z fun k=>cC k m call302 z (c_slices_Index_impl_Pair_impl_Pair fu _ (v5:Pair) (m.r Ab) Ac) fun Ae e a k m=>ul 5 k z fun k=>fS h k m z z
theorem c_impl_Beside (fu) {w0} (Aa a5 b6) {v2 F3} (Ab:rd w0 F3 [v2] Aa) {r} (h:d_impl_Beside fu Aa a5 b6 = some r):cS 229 [v2,I a5,I b6] w0 (.bool (r)):=by
 refine eg func229 z ntmps229 z fun k m=>uc 10 k z fun k=>sv k z (r_build bt98 k (cs:=#[I a5,I b6]) (ps:=[(0,.tmp 8),(1,.tmp 9)]) z z (by kernel_rfl)) fun a k=>oE h fun x7 Ac h=>cC k m call279 z (c_slices_Contains_impl_Pair_impl_Pair fu _ (((⟨a5,b6⟩:Pair)):Pair) (m.r Ab) Ac) fun Ad e a k m=>ul 4 k z fun k=>fS h k m z z
theorem c_impl_TableOk (fu) {w0} (Ad Aa) {v2 F3} (Ac:rd w0 F3 [v2] Ad) {r} (h:d_impl_TableOk fu Ad Aa = some r):cS 156 [v2,I Aa] w0 (.bool (r)):=by
 refine eg func156 z ntmps156 z fun k m=>oE h fun x6 Ag h=>uc 9 k z fun k=>cC k m call68 z (c_impl_in fu _ _ _  Ag) fun w9 e a k m=>ul 3 k z fun k=>cJ h k z (fun h=>?_) fun h=>?_
 · refine uc 7 k z fun k=>fS h k m z z
 refine uc 10 k z fun k=>lG (fun n a w=>∃ Ab,K 34 [(0,v2),(1,I Aa),(10,I Aa),(11,I Ab)] a ∧ St [] w0 w [] ∧ d_impl_TableOk_L2 fu Ad Aa n Ab = some r) ?_ fu ?_
 · rintro Aj a Ay ⟨Ab,k,m,h⟩;refine uc 6 k z fun k=>cJ h k z (fun h=>?_) fun h=>?_
   · refine oE h fun Av Al h=>uc 16 k z fun k=>cC k m call229 z (c_impl_Beside fu _ _ _ (m.r Ac) Al) fun Ar e a k m=>ul 3 k z fun k=>cJ h k z (fun h=>?_) fun h=>?_
     · refine uc 12 k z fun k=>fS h k m z z
     refine uc 9 k z fun k=>lG (fun n a w=>∃ Ae,K 34 [(0,v2),(1,I Aa),(5,I Ab),(10,I Aa),(11,I Ab),(19,I Aa),(20,I Ae)] a ∧ St [] w0 w [] ∧ d_impl_TableOk_L1 fu (d_impl_TableOk_L2 fu Ad Aa Aj) Ad Aa Ab n Ae = some r) ?_ fu ?_
     · rintro Ax a Aw ⟨Ae,k,m,h⟩;refine uc 6 k z fun k=>cJ h k z (fun h=>?_) fun h=>?_
       · refine oE h fun As Ap h=>uc 15 k z fun k=>cC k m call229 z (c_impl_Beside fu _ _ _ (m.r Ac) Ap) fun Aq e a k m=>pN 3 k z fun a k=>oE h fun At Ah h=>cC k m call229 z (c_impl_Beside fu _ _ _ (m.r Ac) Ah) fun Au e a k m=>sv k z (r_neb k underlying4 z z z) fun a k=>ul 2 k z fun k=>cJ h k z (fun h=>?_) fun h=>?_
         · refine uc 15 k z fun k=>fS h k m z z
         refine uc 8 k z fun k=>?_;exact ⟨_,k.p z,m.sl [] z,h⟩
       refine uc 11 k z fun k=>?_;exact ⟨_,k.p z,m.sl [] z,h⟩
     exact ⟨_,k.p z,m.sl [] z,h⟩
   refine uc 11 k z fun k=>fS h k m z z
 exact ⟨_,k.p z,m.sl [] z,h⟩
theorem c_slices_Sort_int_int (fu:Nat) {w0:World} (x1:List Int) {v2:Value} {F3:List Nat} (Aa:ow w0 F3 [v2] x1) {r:List Int}
    (h:d_slices_Sort_int_int fu x1 = some r) :
    Calls Tryz.prog 97 #[v2] w0 fun e w=>∃ H:List Nat,e = .returned (.tuple #[]) ∧ Ext F3 w0 w ∧ (∀ b ∈ H,b ∈ F3 ∨ w0.heap.size ≤ b) ∧ ow w H [v2] r :=
  (c_sortInt (fun blk off cap zs w=>Tryz.slices_Sort_int blk off cap zs w) (fun p cap w=>Tryz.slices_Sort_int_none p cap w) x1 Aa h).mono fun e w ⟨h1,h2,h3⟩=>⟨_,h1,h2,fun b hb=>.inl hb,h3⟩

theorem c_impl_Fits (fu) {w0} (x1 t2) {r} (h:d_impl_Fits fu x1 t2 = some r):cS 159 [.agg (Flat.e (x1)).toArray,.agg (Flat.e (t2)).toArray] w0 (.bool (r)):=by
 refine eg func159 z ntmps159 z fun k m=>uc 2 k z fun k=>s_box m k z z z z z z fun b3 w5 a k m e Ag=>s_box m k z z z z z z fun b6 w9 a k m e Af=>ul 3 k z fun k=>cg (fun a w=>∃ Ah Ap Ak Ao Al Aj Ai Am,K 57 [(2,pt b3),(3,pt b6),(5,Ap),(6,Aj)] a ∧ St [] w0 w [([b3],w5),([b6],w9),(Ak,Ao),(Ai,Am)] ∧ ow Ao Ak [Ap] Ah ∧ ow Am Ai [Aj] Al ∧ d_impl_Fits_J1 fu x1 t2 Ah Al = some r) ?_ ?_
 · rintro a Cu ⟨Ah,Ap,Ak,Ao,Al,Aj,Ai,Am,k,m,Bw,Cd,h⟩;refine oE h fun Cv Cc h=>uc 3 k z fun k=>sC k call97 z (c_slices_Sort_int_int fu _ (m.v Bw 2 z) Cc) fun Co Cl hR=>?_;obtain ⟨Ce,rfl,e,Br,Aa⟩:=hR;refine ⟨_,z,fun a k=>?_⟩;have m:=m.mut 2 z e _ (fun b hb=>⟨Br b hb,Enc.rd_lt (Enc.ow_rd Aa) b hb⟩) (Enc.ow_nd Aa);refine oE h fun Cp Bu h=>ul 5 k z fun k=>sC k call97 z (c_slices_Sort_int_int fu _ (m.v Cd 3 z) Bu) fun Cm Ci hR=>?_;obtain ⟨Cn,rfl,e,By,Ab⟩:=hR;refine ⟨_,z,fun a k=>?_⟩;have m:=m.mut 3 z e _ (fun b hb=>⟨By b hb,Enc.rd_lt (Enc.ow_rd Ab) b hb⟩) (Enc.ow_nd Ab);refine ul 3 k z fun k=>d_go [] mixo m z fun Bv hMd=>?_;have m:=hMd;have s:=Ext.refl ([]:List Nat) Bv;refine o2 h fun Bc Ar Bt Av h=>dr [0,3,1,2,4,5,6,7] 8 [iF (Enc.ow_rd Aa) Ar,eF (hMd.q Aa 2 z) Ar 0,iF (Enc.ow_rd Ab) Av,eF (hMd.q Ab 3 z) Av 0] k z s fun k=>bS h k 32 z (fun _ h k=>?_) fun _ h k=>?_
   · refine o2 h fun Bd Aw Bj Ay h=>dr [8,11,9,10,12,13,14,15,16] 9 [iF (Enc.ow_rd Aa) Aw,eF (hMd.q Aa 2 z) Aw 0,iF (Enc.ow_rd Ab) Ay,eF (hMd.q Ab 3 z) Ay 0] k z s fun k=>bS h k 41 z (fun _ h k=>?_) fun _ h k=>?_
     · refine o2 h fun Bi Ax Bo Au h=>dr [17,20,18,19,21,22,23,24,25] 9 [iF (Enc.ow_rd Aa) Ax,eF (hMd.q Aa 2 z) Ax 0,iF (Enc.ow_rd Ab) Au,eF (hMd.q Ab 3 z) Au 0] k z s fun k=>bS h k 50 z (fun _ h k=>?_) fun _ h k=>?_
       · refine dr [26,27,28,29,30,31,32] 7 [bF hMd 0 Ag z,bF hMd 1 Af z] k z s fun k=>dD ?_;refine (nm_then ?_);refine wp_ret (fS h k m z z)
       refine dM [26,27,28,29,30,31,32] 7 z k z s fun a k=>dD ?_;refine (nm_then ?_);refine wp_ret (fS h k m z z)
     refine dM [17,18,19,20,21,22,23,24,25,26,27,28,29,30,31,32] 16 z k z s fun a k=>dD ?_;refine (nm_then ?_);refine wp_ret (fS h k m z z)
   refine dM [8,9,10,11,12,13,14,15,16,17,18,19,20,21,22,23,24,25,26,27,28,29,30,31,32] 25 z k z s fun a k=>dD ?_;refine (nm_then ?_);refine wp_ret (fS h k m z z)
 refine d_go [] mixo m z fun Bb hMd=>?_;have m:=hMd;have s:=Ext.refl ([]:List Nat) Bb;refine dr [0,1,2,3,4,5,7,8,9,10,11,12] 12 [bF hMd 1 Ag z,bF hMd 1 Ag z,bF hMd 1 Ag z,bF hMd 0 Af z,bF hMd 0 Af z,bF hMd 0 Af z] k z s fun k=>dG2 6 13 (by kernel_rfl) z z ?_ ?_
 · refine s_bsN te35 m k z z z z z z z (by decide) z (by exact fC z (fC z (fC z fN))) fun As Cb Cj a k m e Bm Bn=>?_;have Ck:=lo1 (Nat.le_trans s.size Bn);have Bl:=ow_bx Bm ([x1.fW,x1.fH,x1.fD]:List Int) z z z;refine ns s e fun s=>dM [14] 1 z k z s fun a k=>dG 13 z (s_bsN te35 m k z z z z z z z (by decide) z (by exact fC z (fC z (fC z fN))) fun Aq Bq Cg a k m e Bp Bz=>?_);have Cs:=lo1 (Nat.le_trans s.size Bz);have Bg:=ow_bx Bp ([t2.fW,t2.fH,t2.fD]:List Int) z z z;refine ns s e fun s=>dM [15] 1 z k z s fun a k=>dD ((nm_then ?_));exact ⟨_,_,_,_,_,_,_,_,k.p z,m.sl [3,2,1,0] z,Bl,Bg,h⟩
 refine s_bsN te35 m k z z z z z z z (by decide) z (by exact fC z (fC z (fC z fN))) fun Az Bs Ch a k m e Bf Be=>?_;have Cq:=lo1 (Nat.le_trans s.size Be);have Bh:=ow_bx Bf ([t2.fW,t2.fH,t2.fD]:List Int) z z z;refine ns s e fun s=>dG 6 z (s_bsN te35 m k z z z z z z z (by decide) z (by exact fC z (fC z (fC z fN))) fun At Bk Ct a k m e Ca Ba=>?_);have Cr:=lo1 (Nat.le_trans s.size Ba);have Bx:=ow_bx Ca ([x1.fW,x1.fH,x1.fD]:List Int) z z z;refine ns s e fun s=>dM [14,15] 2 z k z s fun a k=>dD ((nm_then ?_));exact ⟨_,_,_,_,_,_,_,_,k.p z,m.sl [3,2,0,1] z,Bx,Bh,h⟩
theorem c_impl_Class_1 (fu) {w0} (x1 x2) {b3} (Aa:bx w0 b3 [I x2.fId,I x2.fW,I x2.fH,I x2.fD,I x2.fTare,I x2.fGram,I x2.fCost] 61) {r} (h:d_impl_Class_1 fu x1 x2 = some r):cS 158 [.agg (Flat.e (x1)).toArray,pt b3] w0 (.bool (r)):=by
 refine eg func158 z ntmps158 z fun k m=>uc 2 k z fun k=>s_box m k z z z z z z fun b5 w7 a k m e Ab=>gl 6 [bA m 0 Ab z] k z fun k=>sv k z (r_ldA ta61 (Aa.at (m.a00 Aa.lt1) 0 7 z z z) z k z z) fun a k=>oE h fun x8 Ac h=>cC k m call159 z (c_impl_Fits fu (x1:Item) (x2:Typ)  Ac) fun Ad e a k m=>ul 5 k z fun k=>fS h k m z z
theorem c_impl_Class_2 (fu) {w0} (t1 x2) {b3} (Aa:bx w0 b3 [I x2.fW,I x2.fD,I x2.fH,I x2.fGram] 50) {r} (h:d_impl_Class_2 fu t1 x2 = some r):cS 161 [.agg (Flat.e (t1)).toArray,pt b3] w0 (.bool (r)):=by
 refine eg func161 z ntmps161 z fun k m=>uc 2 k z fun k=>s_box m k z z z z z z fun b5 w7 a k m e Ab=>gl 11 [bF m 0 Ab z,pF (r:=[]) (Aa.at (m.a00 Aa.lt1) 0 1 z z z)] k z fun k=>bS h k 9 z (fun _ h k=>?_) fun _ h k=>?_
 · refine ul 27 k z fun k=>fS h k m z z
 refine gl 7 [bF m 0 Ab z,pF (r:=[]) (Aa.at (m.a00 Aa.lt1) 1 1 z z z)] k z fun k=>bS h k 16 z (fun _ h k=>?_) fun _ h k=>?_
 · refine ul 20 k z fun k=>fS h k m z z
 refine gl 7 [bF m 0 Ab z,pF (r:=[]) (Aa.at (m.a00 Aa.lt1) 2 1 z z z)] k z fun k=>bS h k 23 z (fun _ h k=>?_) fun _ h k=>?_
 · refine ul 13 k z fun k=>fS h k m z z
 refine gl 13 [bF m 0 Ab z,bF m 0 Ab z,pF (r:=[]) (Aa.at (m.a00 Aa.lt1) 3 1 z z z)] k z fun k=>fS h k m z z
theorem c_impl_Class (fu) {w0} (r1) {Af F3} (Aj:rd w0 F3 Af r1) {r} (h:d_impl_Class fu r1 = some r):cS 91 [.agg Af.toArray] w0 (I r):=by
 refine eg func91 z ntmps91 z fun k m=>?_;obtain ⟨v5,F6,v7,F8,v9,Bg,rfl,rfl,Aa,Ac,Ab⟩:=Aj;refine uc 2 k z fun k=>s_box m k z z z z z z fun Bw Bt a k m e Ad=>oE h fun Ae Am h=>gl 6 [bA m 0 Ad z] k z fun k=>cC k m call153 z (c_impl_MasterOf fu _ (mkRequest (m.r Aa) (m.r Ac) (m.r Ab)) Am) fun Bs e a k m=>pN 3 k z fun a k=>s_alloc m k zeroValue61 z z z z z fun Ax Bl a k m e Ay=>sT sizeOf61 m 0 Ay 0 k z z fun Br a k e m Ar=>gl 7 [bA m 1 Ad z] k z fun k=>s_alloc m k zeroValue50 z z z z z fun Ak Bi a k m e Ao=>sT sizeOf50 m 0 Ao 0 k z z fun Bc a k e m Al=>oE h fun Bm Aw h=>gl 7 [bA m 2 Ad z] k z fun k=>cC k m call154 z (c_impl_BoundsOk fu _ (mkRequest (m.r Aa) (m.r Ac) (m.r Ab)) Aw) fun Bu e a k m=>ul 4 k z fun k=>?_;refine cJ h k z (fun h=>?_) fun h=>?_
 · refine uc 8 k z fun k=>fS h k m z z
 refine oE h fun Bo Ba h=>gc 3 [bA m 2 Ad z] k z fun k=>cC k m call155 z (c_impl_namesOk fu _ (mkRequest (m.r Aa) (m.r Ac) (m.r Ab)) Ba) fun Bv e a k m=>ul 4 k z fun k=>cJ h k z (fun h=>?_) fun h=>?_
 · refine uc 8 k z fun k=>fS h k m z z
 refine oE h fun Bb Ag h=>gc 6 [bF m 2 Ad z,bF m 2 Ad z] k z fun k=>cC k m call156 z (c_impl_TableOk fu _ _ (m.r Aa) Ag) fun Bp e a k m=>ul 4 k z fun k=>cJ h k z (fun h=>?_) fun h=>?_
 · refine uc 8 k z fun k=>fS h k m z z
 refine oE h fun Bd Ah h=>gc 5 [bF m 2 Ad z] k z fun k=>cC k m call157 z (c_slices_ContainsFunc_impl_Item_impl_Item fu _ _ (m.r Ab) ⟨158,[pt Ax],z,call158,fun w Bn Bh r e Ap hx=>by subst Ap; have m:=m.step e; exact c_impl_Class_1 fu _ _ (Ar.agr (m.a 1 rfl) (by simp)) hx⟩ Ah) fun Bf e a k m=>pN 1 k rfl fun a k=>ul 2 k z fun k=>cI h k rfl (fun Ai h=>?_) fun Ai h=>?_
 · refine uc 8 k z fun k=>fS h k m z z
 refine oE h fun Bk Av h=>gc 5 [bF m 2 Ad z] k z fun k=>cC k m call160 z (c_slices_ContainsFunc_impl_Type_impl_Type fu _ _ (m.r Ac) ⟨161,[pt Ak],z,call161,fun w Bj Bq r e As hx=>by subst As; have m:=m.step e; exact c_impl_Class_2 fu _ _ (Al.agr (m.a 0 rfl) (by simp)) hx⟩ Av) fun Be e a k m=>pN 1 k rfl fun a k=>ul 2 k z fun k=>cI h k rfl (fun Aq h=>?_) fun Aq h=>?_
 · refine uc 8 k z fun k=>fS h k m z z
 refine uc 9 k z fun k=>fS h k m z z
theorem c_impl_ClassOf (fu) {w0} (hT:Te Tryz.prog w0) (Ah) {r} (h:d_impl_ClassOf fu Ah = some r):cS 50 [.string (Ah)] w0 (I r):=by
 refine eg func50 z ntmps50 z fun k m=>oE h fun x2 Ao h=>uc 8 k z fun k=>sC k call51 z (c_impl_ReadOrder fu (m.te hT) _  Ao) fun e4 w5 hR=>?_;obtain ⟨Au,F6,rfl,e,Aa,Am⟩:=hR;refine ⟨_,z,fun a k=>?_⟩;have m:=m.nw e Am Aa;obtain ⟨Af,At,Ae,Ax,Ag,As,rfl,rfl,Ad,Ab,Ac,_⟩:=Aa;have m:=m.split2;have m:=m.split2at1;refine pN 3 k z fun a k=>s_alloc m k zeroValue55 z z z z z fun Aw Ap a k m e Ai=>sT sizeOf55 m 0 Ai 0 k z (allc z (allc z (allc z (allc z (allc z (allc z (allc (rd_o (Enc.ow_rd Ad)) (allc (rd_o (Enc.ow_rd Ab)) (allc z (allc (rd_o (Enc.ow_rd Ac)) alln)))))))))) fun Ar a k e m Al=>ul 10 k z fun k=>cJ h k z (fun h=>?_) fun h=>?_
 · refine uc 7 k z fun k=>fS h k m z z
 refine oE h fun Av Ak h=>gc 5 [bA m 0 Al z] k z fun k=>cC k m call91 z (c_impl_Class fu _ (mkRequest (m.q Ad 1 z) (m.q Ab 2 z) (m.q Ac 3 z)) Ak) fun Aq e a k m=>ul 4 k z fun k=>fS h k m z z
theorem c_impl_sound (fu) {w0} (r1) {Ac F3} (Ag:rd w0 F3 Ac r1) {r} (h:d_impl_sound fu r1 = some r):cS 56 [.agg Ac.toArray] w0 (.bool (r)):=by
 refine eg func56 z ntmps56 z fun k m=>?_;obtain ⟨v5,F6,v7,F8,v9,Ak,rfl,rfl,Ad,Ab,Aa⟩:=Ag;refine uc 2 k z fun k=>s_box m k z z z z z z fun Al Aj a k m e Af=>oE h fun Ai Ae h=>gl 6 [bA m 0 Af z] k z fun k=>cC k m call91 z (c_impl_Class fu _ (mkRequest (m.r Ad) (m.r Ab) (m.r Aa)) Ae) fun Ah e a k m=>ul 5 k z fun k=>fS h k m z z
theorem c_slices_Clone_int_int (fu) {w0} (Ab) {v2 F3} (Aa:rd w0 F3 [v2] Ab) {r} (h:d_slices_Clone_int_int fu Ab = some r):cL 254 [v2] w0 r:=by
 refine eg func254 z ntmps254 z fun k m=>uc 9 k z fun k=>?_;obtain ⟨Ae,Ah,Ad⟩:=r_nilq Aa;refine sv k z (Ad k underlying35 z z z) fun a k=>ul 2 k z fun k=>c_cond (b:=Ae) k z (fun Ac=>?_) (fun Ac=>?_)
 · have Ai:=Ah Ac;rw [Ai] at h;have h:some (([]:List Int)) = some r:=h;refine uc 7 k z fun k=>?_;cases h;exact finR1 k z (RV.tmp k z) ⟨_,[],z,m.ext,(ow_nil _),(by simp)⟩
 refine uc 4 k z fun k=>sB te35 m k z (by exact fN) fun Ar Aq Ap a k m e Ak=>?_;have Aj:=ow_bx Ak ([]:List Int) z z z;refine pN 1 k z fun a k=>oE h fun Ao Ag h=>s_appF Ag te35 z m 0 Aj (News.rd (m.r Aa)) z z k z z z z z z z fun As Af Am a k e m Al=>ul 4 k z fun k=>?_;cases h;exact finR1 k z (RV.tmp k z) ⟨_,Af,z,m.ext,(m.v Al 0 z),(m.fresh 0 z)⟩
theorem c_slices_Compact_int_int (fu:Nat) {w0:World} (x1:List Int) {v2:Value} {F3:List Nat} (Aa:ow w0 F3 [v2] x1) {r:List Int}
    (h:d_slices_Compact_int_int fu x1 = some r) :
    Calls Tryz.prog 255 #[v2] w0 fun e w=>∃ (v0:Value) (G0:List Nat),e = .returned v0 ∧ Ext F3 w0 w ∧ ow w G0 [v0] r ∧ (∀ b ∈ G0,b ∈ F3 ∨ w0.heap.size ≤ b) :=
  c_compactInt (fun blk off cap zs w=>Tryz.slices_Compact_int blk off cap zs w) (fun p cap w=>Tryz.slices_Compact_int_empty p cap w) x1 Aa h

theorem c_impl_kinds (fu) {w0} (Ae) {v2 F3} (Ad:rd w0 F3 [v2] Ae) {r} (h:d_impl_kinds fu Ae = some r):cL 179 [v2] w0 r:=by
 refine eg func179 z ntmps179 z fun k m=>oE h fun x5 Ak h=>uc 8 k z fun k=>sL k m call254 z (c_slices_Clone_int_int fu _ (m.r Ad) Ak) fun w9 As Ah Aa k m=>oE h fun Au Am h=>ul 6 k z fun k=>sC k call97 z (c_slices_Sort_int_int fu _ (m.v Aa 0 z) Am) fun Ao Ap hR=>?_;obtain ⟨At,rfl,e,Al,Ab⟩:=hR;refine ⟨_,z,fun a k=>?_⟩;have m:=m.mut 0 z e _ (fun b hb=>⟨Al b hb,Enc.rd_lt (Enc.ow_rd Ab) b hb⟩) (Enc.ow_nd Ab);refine oE h fun Av Ai h=>ul 5 k z fun k=>sC k call255 z (c_slices_Compact_int_int fu _ (m.v Ab 0 z) Ai) fun Ar Aq hR=>?_;obtain ⟨Aw,Ag,rfl,e,Ac,Aj⟩:=hR;refine ⟨_,z,fun a k=>?_⟩;have m:=m.mut 0 z e _ (fun b hb=>⟨Aj b hb,Enc.rd_lt (Enc.ow_rd Ac) b hb⟩) (Enc.ow_nd Ac);refine ul 4 k z fun k=>?_;cases h;exact finR1 k z (RV.tmp k z) ⟨_,Ag,z,m.ext,(m.v Ac 0 z),(m.fresh 0 z)⟩
theorem c_impl_Present (fu) {w0} (r1) {Ao F3} (Au:rd w0 F3 Ao r1) {r} (h:d_impl_Present fu r1 = some r):cL 110 [.agg Ao.toArray] w0 r:=by
 refine eg func110 z ntmps110 z fun k m=>?_;obtain ⟨v5,F6,v7,F8,v9,Bm,rfl,rfl,Ak,Al,Ab⟩:=Au;refine uc 2 k z fun k=>s_box m k z z z z z z fun Cb Ca a k m e Am=>oE h fun Bu Av h=>gl 7 [bA m 0 Am z] k z fun k=>cC k m call56 z (c_impl_sound fu _ (mkRequest (m.r Ak) (m.r Al) (m.r Ab)) Av) fun By e a k m=>ul 3 k z fun k=>cJ h k z (fun h=>?_) fun h=>?_
 · refine uc 7 k z fun k=>?_;cases h;exact finR1 k z (RV.tmp k z) ⟨_,[],z,m.ext,(ow_nil _),(by simp)⟩
 refine uc 4 k z fun k=>sB te35 m k z (by exact fN) fun Aj Ay Bz a k m e Ba=>?_;have Bh:=ow_bx Ba ([]:List Int) z z z;refine gl 13 [bF m 1 Am z,lF Ab] k z fun k=>lG (fun n a w=>∃ Af Ag Ae Ad Ac,K 25 [(3,Ag),(11,v9),(12,I ((r1.fItems.length:Int))),(13,I Ac)] a ∧ St [] w0 w [(Ae,Ad)] ∧ ow Ad Ae [Ag] Af ∧ d_impl_Present_L1 fu r1 n Af Ac = some r) ?_ fu ?_
 · rintro Bo a Bp ⟨Af,Ag,Ae,Ad,Ac,k,m,Ap,h⟩;refine uc 6 k z fun k=>cJ h k z (fun h=>?_) fun h=>?_
   · refine oE h fun Aa Ai h=>gc 8 [iF Ab Ai,eA (m.r Ab) Ai] k z fun k=>s_alloc m k zeroValue59 z z z z z fun Bw Bx a k m e Bb=>sT sizeOf59 m 0 Bb 0 k z z fun Bt a k e m Be=>gl 6 [bF m 0 Be z] k z fun k=>sB te35 m k z (by exact fC z fN) fun Bl Bv Bk a k m e Az=>?_;have Bg:=ow_bx Az ([Aa.fClass]:List Int) z z z;refine oE h fun Ar Bd h=>s_appF Bd te35 z m 2 Ap (News.rd (m.q Bg 0 z)) z z k z z z z z z z fun At Ax Bi a k e m Bj=>ul 9 k z fun k=>?_;exact ⟨_,_,_,_,_,k.p z,m.sl [2] z,Bj,h⟩
   refine oE h fun Bn Bc h=>uc 8 k z fun k=>sL k m call179 z (c_impl_kinds fu _ (m.q Ap 0 z) Bc) fun Br Bq Aq Ah k m=>ul 4 k z fun k=>?_;cases h;exact finR1 k z (RV.tmp k z) ⟨_,Aq,z,m.ext,(m.v Ah 0 z),(m.fresh 0 z)⟩
 exact ⟨_,_,_,_,_,k.p z,m.sl [0] z,Bh,h⟩
theorem c_impl_mutual (fu) {w0} (Ac a5 b6) {v2 F3} (Ab:rd w0 F3 [v2] Ac) {r} (h:d_impl_mutual fu Ac a5 b6 = some r):cS 183 [v2,I a5,I b6] w0 (.bool (r)):=by
 refine eg func183 z ntmps183 z fun k m=>oE h fun x7 Ae h=>uc 10 k z fun k=>cC k m call229 z (c_impl_Beside fu _ _ _ (m.r Ab) Ae) fun Af e a k m=>pN 1 k z fun a k=>bS h k 11 z (fun _ h k=>?_) fun _ h k=>?_
 · refine pN 3 k z fun a k=>oE h fun Ag Ad h=>cC k m call229 z (c_impl_Beside fu _ _ _ (m.r Ab) Ad) fun Ah e a k m=>ul 5 k z fun k=>fS h k m z z
 refine ul 9 k z fun k=>fS h k m z z
theorem c_impl_Groups_1_1 (fu) {w0} (x1 x2 x8) {v5 F6 b3} (Ac:bx w0 b3 [v5] 51) (Aa:rd w0 F6 [v5] x2) {b9} (Ab:bx w0 b9 [I x8] 3) {r} (h:d_impl_Groups_1_1 fu x1 x2 x8 = some r):cS 182 [I x1,pt b3,pt b9] w0 (.bool (r)):=by
 refine eg func182 z ntmps182 z fun k m=>oE h fun Ae Ad h=>gc 10 [pF (r:=[]) (Ac.at (m.a00 Ac.lt1) 0 1 z z z),pF (r:=[]) (Ab.at (m.a00 Ab.lt1) 0 1 z z z)] k z fun k=>cC k m call183 z (c_impl_mutual fu _ _ _ (m.r Aa) Ad) fun Af e a k m=>ul 5 k z fun k=>fS h k m z z
theorem c_slices_IndexFunc_int_int (fu) {w0} (Aa f5) {v2 F3} (Ac:rd w0 F3 [v2] Aa) {v6} (Ae:FnOk1 Tryz.prog w0 v6 f5) {r} (h:d_slices_IndexFunc_int_int fu Aa f5 = some r):cS 250 [v2,v6] w0 (I r):=by
 refine eg func250 z ntmps250 z fun k m=>?_;obtain ⟨Al,Ag,rfl,Ah,Ak⟩:=Ae;refine gc 14 [lF Ac] k z fun k=>lG (fun n a w=>∃ Ab,K 19 [(0,v2),(1,(.func (.func Al) #[] Ag.toArray)),(7,I ((Aa.length:Int))),(8,I Ab)] a ∧ St [] w0 w [] ∧ d_slices_IndexFunc_int_int_L1 fu Aa f5 n Ab = some r) ?_ fu ?_
 · rintro Am a Ar ⟨Ab,k,m,h⟩;refine uc 6 k z fun k=>cJ h k z (fun h=>?_) fun h=>?_
   · refine o2 h fun Ao Ad Ap Ai h=>gc 17 [iF Ac Ad,eF (m.r Ac) Ad 0] k z fun k=>s_callv k Ah z z z z z z (Ak _ _ _ _ m.ext z Ai) fun Aq As hR=>?_;obtain ⟨rfl,e⟩:=hR;refine ⟨_,z,fun a k=>?_⟩;have m:=m.step e;refine ul 2 k z fun k=>cJ h k z (fun h=>?_) fun h=>?_
     · refine uc 12 k z fun k=>fS h k m z z
     refine uc 8 k z fun k=>?_;exact ⟨_,k.p z,m.sl [] z,h⟩
   refine uc 11 k z fun k=>fS h k m z z
 exact ⟨_,k.p z,m.sl [] z,h⟩
theorem c_slices_ContainsFunc_int_int (fu) {w0} (Aa f5) {v2 F3} (Ab:rd w0 F3 [v2] Aa) {v6} (Ac:FnOk1 Tryz.prog w0 v6 f5) {r} (h:d_slices_ContainsFunc_int_int fu Aa f5 = some r):cS 174 [v2,v6] w0 (.bool (r)):=by
 refine eg func174 z ntmps174 z fun k m=>?_;obtain ⟨Aj,Ai,rfl,Ag,Ae⟩:=Ac;refine oE h fun Al Ah h=>uc 9 k z fun k=>cC k m call250 z (c_slices_IndexFunc_int_int fu _ _ (m.r Ab) ⟨_,_,z,Ag,fun w Ad Af r e=>Ae w Ad Af r (m.ext.trans e (by simp))⟩ Ah) fun Ak e a k m=>ul 5 k z fun k=>fS h k m z z
theorem c_impl_Groups_1 (fu) {w0} (l1 x5 Ac) {v2 F3} (Af:rd w0 F3 [v2] l1) {v8 F9 b6} (Ab:bx w0 b6 [v8] 51) (Ad:rd w0 F9 [v8] x5) {Aa} (Ae:bx w0 Aa [I Ac] 3) {r} (h:d_impl_Groups_1 fu l1 x5 Ac = some r):cS 181 [v2,pt b6,pt Aa] w0 (.bool (r)):=by
 refine eg func181 z ntmps181 z fun k m=>oE h fun Al Ag h=>uc 9 k z fun k=>cC k m call174 z (c_slices_ContainsFunc_int_int fu _ _ (m.r Af) ⟨182,[pt b6,pt Aa],z,call182,fun w Ai Ak r e Ah hx=>by subst Ah; have m:=m.step e; exact c_impl_Groups_1_1 fu _ _ _ (Ab.agr (m.a00 Ab.lt1) (by simp)) (m.r Ad) (Ae.agr (m.a00 Ae.lt1) (by simp)) hx⟩ Ag) fun Aj e a k m=>pN 2 k rfl fun a k=>ul 3 k z fun k=>fS h k m rfl rfl
theorem c_slices_IndexFunc_ints_int (fu) {w0} (Ab f5) {v2 F3} (Aa:rd w0 F3 [v2] Ab) {v6} (Af:FnOk1 Tryz.prog w0 v6 f5) {r} (h:d_slices_IndexFunc_ints_int fu Ab f5 = some r):cS 180 [v2,v6] w0 (I r):=by
 refine eg func180 z ntmps180 z fun k m=>?_;obtain ⟨Ak,Ah,rfl,Aj,Ap⟩:=Af;refine gc 14 [lF Aa] k z fun k=>lG (fun n a w=>∃ Ac,K 19 [(0,v2),(1,(.func (.func Ak) #[] Ah.toArray)),(7,I ((Ab.length:Int))),(8,I Ac)] a ∧ St [] w0 w [] ∧ d_slices_IndexFunc_ints_int_L1 fu Ab f5 n Ac = some r) ?_ fu ?_
 · rintro Ay a As ⟨Ac,k,m,h⟩;refine uc 6 k z fun k=>cJ h k z (fun h=>?_) fun h=>?_
   · refine oE h fun At Ae h=>gc 16 [iF Aa Ae] k z fun k=>?_;obtain ⟨Au,Ao,Ax,Ad,Ai,Am⟩:=rd_get Aa (ix_some Ae).2.2;obtain ⟨Ar,rfl⟩:∃ v,Ao = [v]:=by obtain ⟨_,_,hq,_⟩:=Ad; exact ⟨_,hq⟩
     refine oE h fun Av Al h=>gl 1 [pF (Ai.agr (m.a00 (Enc.rd_lt Aa)) Am)] k z fun k=>s_callv k Aj z z z z z z (Ap _ _ _ _ m.ext ⟨_,(m.r Ad)⟩ Al) fun Az Aw hR=>?_;obtain ⟨rfl,e⟩:=hR;refine ⟨_,z,fun a k=>?_⟩;have m:=m.step e;refine ul 2 k z fun k=>cJ h k z (fun h=>?_) fun h=>?_
     · refine uc 12 k z fun k=>fS h k m z z
     refine uc 8 k z fun k=>?_;exact ⟨_,k.p z,m.sl [] z,h⟩
   refine uc 11 k z fun k=>fS h k m z z
 exact ⟨_,k.p z,m.sl [] z,h⟩
theorem c_impl_Groups (fu) {w0} (Aj Bg) {v2 F3} (Aw:rd w0 F3 [v2] Aj) {v6 F7} (Bb:rd w0 F7 [v6] Bg) {r} (h:d_impl_Groups fu Aj Bg = some r):cL 109 [v2,v6] w0 r:=by
 refine eg func109 z ntmps109 z fun k m=>uc 2 k z fun k=>s_box m k z z z z z (rd_c Aw) fun b9 Ao a k m e Ce=>ul 5 k z fun k=>sB te88 m k z (by exact fN) fun Bl Ci Em a k m e Cu=>?_;have Du:=ow_bx0 (α:=List Int) Cu;refine oE h fun Al Dw h=>ul 7 k z fun k=>sL k m call179 z (c_impl_kinds fu _ (m.r Bb) Dw) fun At Bh Ah Ai k m=>gl 5 [lF (Enc.ow_rd Ai)] k z fun k=>lG (fun n a w=>∃ Ae Af Ab Aq Ag,K 42 [(2,pt b9),(5,Af),(11,Bh),(12,I ((Al.length:Int))),(13,I Ag)] a ∧ St [] w0 w [([b9],Ao),(Ah,At),(Ab,Aq)] ∧ ow Aq Ab [Af] Ae ∧ d_impl_Groups_L1 fu Aj Al n Ae Ag = some r) ?_ fu ?_
 · rintro Dn a Et ⟨Ae,Af,Ab,Aq,Ag,k,m,Aa,h⟩;refine uc 6 k z fun k=>cJ h k z (fun h=>?_) fun h=>?_
   · refine uc 2 k z fun k=>cg (fun a w=>∃ Ar Ap As Ak,K 42 [(2,pt b9),(5,Ap),(11,Bh),(12,I ((Al.length:Int))),(13,I Ag)] a ∧ St [] w0 w [([b9],Ao),(Ah,At),(As,Ak)] ∧ ow Ak As [Ap] Ar ∧ d_impl_Groups_J1 fu (d_impl_Groups_L1 fu Aj Al Dn) Ag Ar = some r) ?_ ?_
     · rintro a Eu ⟨Ar,Ap,As,Ak,k,m,Cd,h⟩;refine uc 5 k z fun k=>?_;exact ⟨_,_,_,_,_,k.p z,m.sl [0,1,2] z,Cd,h⟩
     refine oE h fun Ad Az h=>gc 5 [iF (Enc.ow_rd Ai) Az,eF (m.q Ai 1 z) Az 0] k z fun k=>s_alloc m k zeroValue3 z z z z z fun Au El a k m e Do=>sT sizeOf3 m 0 Do 0 k z z fun Bc a k e m Am=>oE h fun Ge Dm h=>gl 6 [bF m 0 Am z] k z fun k=>cC k m call68 z (c_impl_in fu _ _ _  Dm) fun Ew e a k m=>ul 3 k z fun k=>cJ h k z (fun h=>?_) fun h=>?_
     · refine uc 4 k z fun k=>?_;exact ⟨_,_,_,_,k.p z,m.sl [1,2,3] z,Aa,h⟩
     refine oE h fun Bi Dr h=>uc 6 k z fun k=>cC k m call180 z (c_slices_IndexFunc_ints_int fu _ _ (m.q Aa 3 z) ⟨181,[pt b9,pt Au],z,call181,fun w Gk Gd r e Ay hx=>by obtain ⟨_,Ay⟩:=Ay; have m:=m.step e; exact c_impl_Groups_1 fu _ _ _ Ay (m.y Ce 1 z) (m.r Aw) (m.y Am 0 z) hx⟩ Dr) fun Fl e a k m=>ul 9 k z fun k=>cJ h k z (fun h=>?_) fun h=>?_
     · refine gc 3 [bF m 0 Am z] k z fun k=>sB te35 m k z (by exact fC z fN) fun Bd Fa Ep a k m e Dz=>?_;have Bf:=ow_bx Dz ([Ad]:List Int) z z z;refine sB te88 m k z (by exact (List.forall_mem_cons.2 ⟨congrArg Array.size (rd_c (Enc.ow_rd Bf)),fN⟩)) fun Fg Fm Ek a k m e Ch=>oE h fun Eg Co h=>?_;have Bt:=Enc.ow_agr Bf (m.a 1 z);have Ed:=News.box Ch (m.a 0 z) (by simp) (m:=1);have Ec:=m.a 5 z;have m:=m.sl [5,1,0,2,3,4] z;have m:=m.join2;refine s_appO (F:=Ab) (G:=[Bd]) Co te88 z m Aa Ec Ed Bt (Agr.refl _ _) k z z z z z z fun Cl Cv Db a k e m Cw=>ul 4 k z fun k=>?_;exact ⟨_,_,_,_,k.p z,m.sl [3,4,0] z,Cw,h⟩
     refine d_go (Ab) mixo m z fun Ds hMd=>?_;have m:=hMd;have s:=Ext.refl ((Ab):List Nat) Ds;refine dM [0,1,2,3] 4 z k z s fun a k=>oE h fun Ej Ac h=>dT k 4 z z s (fun w s=>r_ixa (Enc.ow_rd Aa) Ac k ts88 z z z) fun a k=>?_;obtain ⟨Er,Cj,Fe,Cz,Ff,Fu⟩:=rd_get (Enc.ow_rd Aa) (ix_some Ac).2.2;obtain ⟨Ez,rfl⟩:∃ v,Cj = [v]:=by obtain ⟨_,_,hq,_⟩:=Cz; exact ⟨_,hq⟩
     refine dT k 6 z z s (fun w s=>r_ld1 t13 (r:=[]) (Am.at (hMd.az 0 3 z z z s) 0 1 z z z) k z z) fun a k=>?_;obtain ⟨Ev,Di,Fc,Bn,Eh,Fd⟩:=rd_get (Enc.ow_rd Aa) (ix_some Ac).2.2;obtain ⟨Fz,rfl⟩:∃ v,Di = [v]:=by obtain ⟨_,_,hq,_⟩:=Bn; exact ⟨_,hq⟩
     refine dG2 5 7 (by kernel_rfl) z z ?_ ?_ 
     · obtain ⟨Gh,By,Eo,Br,Be,Cr⟩:=rd_get (Enc.ow_rd Aa) (ix_some Ac).2.2;obtain ⟨Fw,rfl⟩:∃ v,By = [v]:=by obtain ⟨_,_,hq,_⟩:=Br; exact ⟨_,hq⟩
       refine gl 1 [pF (Be.agr (m.a 3 z) Cr)] k z fun k=>wpList_nil ⟨s,?_⟩;refine dG 7 z (s_bsN te35 m k z z z z z z z (by decide) z (by exact fC z fN) fun Cq Bm Fv a k m e Ck Dc=>?_);have Fb:=lo1 (Nat.le_trans s.size Dc);have Cg:=ow_bx Ck ([Ad]:List Int) z z z;refine ns s e fun s=>dG 8 z ?_;obtain ⟨Gl,Gc,m,Dx,Bs,Da,Ba⟩:=m.opnS 4 z Aa Ac Be z (M':=[([Cq],Bm),([Au],Bc),([b9],Ao),(Ah,At)]) z;refine oE h fun Ea Cp h=>s_appFN Cp te35 z m 1 Bs (News.rd (m.q Cg 2 z)) z z k z z z z z z z fun Ct Dq Gf a k e m Ax Dy=>?_;have Ey:∀ y ∈ Dq,y ∈ (Ab) ∨ _ ≤ y:=fun y hy=>(Dy y hy).elim (fun hy=>(fun y hy=>(fun y hy=>Or.inl hy) y (Ba y hy)) y hy) (fun h=>Or.inr (Nat.le_trans s.size h));have s:=s.trans e (fun y hy=>(fun y hy=>Or.inl hy) y (Ba y hy));refine wpList_nil ⟨s,?_⟩;refine oE h fun Ft Ex h=>dT k 9 z z s (fun w s=>r_ixa (Enc.ow_rd Aa) Ac k ts88 z z z) fun a k=>dG 10 z (s_stH1 (α:=List Int) (sz:=1) (cs':=[Ct]) sizeOf35 m 0 Dx 0 k (rd_c (Enc.ow_rd Ax)) (rd_o (Enc.ow_rd Ax)) z z z z z z z z z z fun Ef a k e m Cx=>?_);obtain ⟨Dt,m,Bw⟩:=(m.sl [0,1,2,3,4,5] z).cls Cx Ax;have s:=s.trans e (fun y hy=>(fun y hy=>Or.inl hy) y (Da y hy));refine wpList_nil ⟨s,?_⟩;refine dD ?_;refine (ue 2 k z fun k=>?_);exact ⟨_,_,_,_,k.p z,m.sl [3,4,0] z,Bw,h⟩
     refine s_bsN te35 m k z z z z z z z (by decide) z (by exact fC z fN) fun Bz Cn Fh a k m e Bq Cs=>?_;have Fk:=lo1 (Nat.le_trans s.size Cs);have De:=ow_bx Bq ([Ad]:List Int) z z z;refine ns s e fun s=>?_;obtain ⟨Gg,Dl,Fp,Bp,Fs,Gi⟩:=rd_get (Enc.ow_rd Aa) (ix_some Ac).2.2;obtain ⟨Fq,rfl⟩:∃ v,Dl = [v]:=by obtain ⟨_,_,hq,_⟩:=Bp; exact ⟨_,hq⟩
     refine dG 5 z ?_;obtain ⟨Gb,Dv,En,Cc,Bj,Dh⟩:=rd_get (Enc.ow_rd Aa) (ix_some Ac).2.2;obtain ⟨Fn,rfl⟩:∃ v,Dv = [v]:=by obtain ⟨_,_,hq,_⟩:=Cc; exact ⟨_,hq⟩
     refine gl 1 [pF (Bj.agr (m.a 4 z) Dh)] k z fun k=>wpList_nil ⟨s,?_⟩;refine dG 8 z ?_;obtain ⟨Gj,Es,m,Dj,Ee,Dd,Bk⟩:=m.opnS 4 z Aa Ac Bj z (M':=[([Bz],Cn),([Au],Bc),([b9],Ao),(Ah,At)]) z;refine oE h fun Cm Dg h=>s_appFN Dg te35 z m 1 Ee (News.rd (m.q De 2 z)) z z k z z z z z z z fun Dp Eb Fi a k e m Av Bx=>?_;have Ei:∀ y ∈ Eb,y ∈ (Ab) ∨ _ ≤ y:=fun y hy=>(Bx y hy).elim (fun hy=>(fun y hy=>(fun y hy=>Or.inl hy) y (Bk y hy)) y hy) (fun h=>Or.inr (Nat.le_trans s.size h));have s:=s.trans e (fun y hy=>(fun y hy=>Or.inl hy) y (Bk y hy));refine wpList_nil ⟨s,?_⟩;refine oE h fun Fy Ga h=>dT k 9 z z s (fun w s=>r_ixa (Enc.ow_rd Aa) Ac k ts88 z z z) fun a k=>dG 10 z (s_stH1 (α:=List Int) (sz:=1) (cs':=[Dp]) sizeOf35 m 0 Dj 0 k (rd_c (Enc.ow_rd Av)) (rd_o (Enc.ow_rd Av)) z z z z z z z z z z fun Bo a k e m Df=>?_);obtain ⟨Dk,m,Cb⟩:=(m.sl [0,1,2,3,4,5] z).cls Df Av;have s:=s.trans e (fun y hy=>(fun y hy=>Or.inl hy) y (Dd y hy));refine wpList_nil ⟨s,?_⟩;refine dD ?_;refine (ue 2 k z fun k=>?_);exact ⟨_,_,_,_,k.p z,m.sl [3,4,0] z,Cb,h⟩
   refine uc 12 k z fun k=>?_;cases h;exact finR1 k z (RV.tmp k z) ⟨_,Ab,z,m.ext,(m.v Aa 2 z),(m.fresh 2 z)⟩
 exact ⟨_,_,_,_,_,k.p z,m.sl [2,0,1] z,Du,h⟩

end Go.Proofs.YthkaklkinepfkaaGreatDoor
