/- FnExactPackText: the walks of functions that it reaches (ExactPackTextBWi,part 1). Printed by gen.py. -/
import Derived.Test.YthkaklkinepfkaaGreatDoorExactPackTextBT
set_option maxRecDepth 20000
set_option linter.unusedSimpArgs false
set_option linter.unusedVariables false
set_option linter.unnecessarySimpa false
namespace Go.Proofs.YthkaklkinepfkaaGreatDoor
open Go Go.RowKit
open Enc (rd ow)
open Arg (argv)
open Ret (retv)
open Go.Proofs.Tryz


theorem c_impl_Parts (fu) {w0} (Ab Ac) {r} (h:d_impl_Parts fu Ab Ac = some r):cL 36 [.string (Ab),.int .u8 (Ac)] w0 r:=by
 refine eg func36 z ntmps36 z fun k m=>uc 7 k z fun k=>sB te68 m k z (by exact fN) fun g3 w4 e6 a k m e Bm=>?_;have Ay:=ow_bx Bm ([]:List ByteArray) z z z;refine ul 15 k z fun k=>lG (fun n a w=>∃ Aj Ae Ai Ah Al Aa,K 35 [(0,.string (Ab)),(1,.int .u8 (Ac)),(5,Ae),(6,I Al),(7,I Aa)] a ∧ St [] w0 w [(Ai,Ah)] ∧ ow Ah Ai [Ae] Aj ∧ d_impl_Parts_L1 fu Ab Ac n Aj Al Aa = some r) ?_ fu ?_
 · rintro Bc a Br ⟨Aj,Ae,Ai,Ah,Al,Aa,k,m,Ao,h⟩;refine uc 5 k z fun k=>sv k z (r_lenS k underlying9 z z) fun a k=>ul 3 k z fun k=>cJ h k z (fun h=>?_) fun h=>?_
   · refine uc 2 k z fun k=>cg (fun a w=>∃ Ad Af Am Ag Ak,K 35 [(0,.string (Ab)),(1,.int .u8 (Ac)),(5,Af),(6,I Ak),(7,I Aa)] a ∧ St [] w0 w [(Am,Ag)] ∧ ow Ag Am [Af] Ad ∧ d_impl_Parts_J1 fu (d_impl_Parts_L1 fu Ab Ac Bc) Aa Ad Ak = some r) ?_ ?_
     · rintro a Bn ⟨Ad,Af,Am,Ag,Ak,k,m,Bi,h⟩;refine uc 6 k z fun k=>?_;exact ⟨_,_,_,_,_,_,k.p z,m.sl [0] z,Bi,h⟩
     refine oE h fun By As h=>uc 5 k z fun k=>sv k z (r_ixs As k underlying9 z z z) fun a k=>ul 4 k z fun k=>cJ h k z (fun h=>?_) fun h=>?_
     · refine oE h fun Aq Ba h=>uc 6 k z fun k=>sv k z (r_sls Ba k underlying9 z z z z) fun a k=>sB te68 m k z (by exact fC z fN) fun Bs Bp Bu a k m e Be=>?_;have Bh:=ow_bx Be ([Aq]:List ByteArray) z z z;refine oE h fun Ar Bf h=>s_appF Bf te68 z m 1 Ao (News.rd (m.q Bh 0 z)) z z k z z z z z z z fun Bg Bj At a k e m Bd=>ul 10 k z fun k=>?_;exact ⟨_,_,_,_,_,k.p z,m.sl [1] z,Bd,h⟩
     refine uc 3 k z fun k=>?_;exact ⟨_,_,_,_,_,k.p z,m.sl [0] z,Ao,h⟩
   refine oE h fun Ap Bb h=>uc 10 k z fun k=>sv k z (r_slsF Bb k underlying9 z z z) fun a k=>sB te68 m k z (by exact fC z fN) fun Bt Bx Bo a k m e Av=>?_;have Ax:=ow_bx Av ([Ap]:List ByteArray) z z z;refine oE h fun Bv Az h=>s_appF Az te68 z m 1 Ao (News.rd (m.q Ax 0 z)) z z k z z z z z z z fun Bq Bk Bw a k e m Aw=>ul 4 k z fun k=>?_;cases h;exact finR1 k z (RV.tmp k z) ⟨_,Bk,z,m.ext,(m.v Aw 1 z),(m.fresh 1 z)⟩
 exact ⟨_,_,_,_,_,_,k.p z,m.sl [0] z,Ay,h⟩
theorem c_strconv_Atoi (fu:Nat) {w0:World} (hT:Te Tryz.prog w0) (x1:ByteArray) {r:Int × Bool}
    (h:d_strconv_Atoi fu x1 = some r) :
    Calls Tryz.prog 142 #[.string x1] w0 fun e w=>∃ (v0:Value),e = .returned (.tuple #[I r.1,v0]) ∧ Ext [] w0 w ∧ isErr v0 r.2 :=
  c_atoi (fun s h1 v h2 w=>Tryz.strconv_Atoi_ok s h1 v h2 w) (fun s h1 h2 h3 tp p w hv=>(Tryz.strconv_Atoi_syntax_var s h1 h2 h3 tp p w hv).mono fun e w ⟨n,he,_,_,hb⟩=>⟨_,_,he,hb⟩) (fun s h1 h2 tp p w hv=>(Tryz.strconv_Atoi_range_var s h1 h2 tp p w hv).mono fun e w ⟨n,he,_,_,hb⟩=>⟨_,_,he,hb⟩) hT x1 h

theorem c_impl_in (fu) {w0} (n1 Ab Ac) {r} (h:d_impl_in fu n1 Ab Ac = some r):cS 68 [I n1,I Ab,I Ac] w0 (.bool (r)):=by
 refine eg func68 z ntmps68 z fun k m=>uc 11 k z fun k=>bS h k 10 z (fun _ h k=>?_) fun _ h k=>?_
 · refine ul 8 k z fun k=>fS h k m z z
 refine ul 8 k z fun k=>fS h k m z z
theorem c_strconv_Itoa (fu:Nat) {w0:World} (hT:Te Tryz.prog w0) (x1:Int) {r:ByteArray}
    (h:d_strconv_Itoa fu x1 = some r) :
    Calls Tryz.prog 141 #[I x1] w0 fun e w=>e = .returned (.string r) ∧ Ext [] w0 w :=
  c_itoa (fun n h0 h1 w ht=>Tryz.strconv_Itoa n h0 h1 w ht) hT.t x1 h

theorem c_impl_Digits (fu) {w0} (hT:Te Tryz.prog w0) (n1) {r} (h:d_impl_Digits fu n1 = some r):cS 77 [I n1] w0 (.string (r)):=by
 refine eg func77 z ntmps77 z fun k m=>oE h fun x2 Aa h=>uc 8 k z fun k=>cC k m call141 z (c_strconv_Itoa fu (m.te hT) _  Aa) fun w5 e a k m=>ul 4 k z fun k=>fS h k m z z
theorem c_impl_Number (fu) {w0} (hT:Te Tryz.prog w0) (Ac) {r} (h:d_impl_Number fu Ac = some r):cS 80 [.string (Ac)] w0 (.tuple #[I r.1,.bool (r.2)]):=by
 refine eg func80 z ntmps80 z fun k m=>oE h fun x2 Af h=>uc 9 k z fun k=>sC k call142 z (c_strconv_Atoi fu (m.te hT) _  Af) fun e4 w5 hR=>?_;obtain ⟨v6,rfl,e,Ae⟩:=hR;refine ⟨_,z,fun a k=>?_⟩;have m:=m.step e;refine ul 7 k z fun k=>cg (fun a w=>K 25 [(4,I x2.1)] a ∧ St [] w0 w [] ∧ d_impl_Number_J1 fu x2 = some r) ?_ ?_
 · rintro a Aj ⟨k,m,h⟩;refine uc 8 k z fun k=>?_;cases h;exact finR2 k z (RV.tmp k z) (RV.tmp k z) ⟨z,m.ext⟩
 refine uc 3 k z fun k=>sv k z (r_err Ae k (by kernel_rfl) z z z) fun a k=>pN 1 k z fun a k=>bS h k 13 z (fun _ h k=>?_) fun _ h k=>?_
 · refine ul 21 k z fun k=>?_;cases h;exact finR2 k z (RV.tmp k z) (RV.tmp k z) ⟨z,m.ext⟩
 refine pN 1 k z fun a k=>oE h fun Ai Ah h=>cC k m call68 z (c_impl_in fu _ _ _  Ah) fun Al e a k m=>pN 3 k z fun a k=>bS h k 18 z (fun _ h k=>?_) fun _ h k=>?_
 · refine ul 16 k z fun k=>?_;cases h;exact finR2 k z (RV.tmp k z) (RV.tmp k z) ⟨z,m.ext⟩
 refine pN 1 k z fun a k=>oE h fun Ak Ag h=>cC k m call77 z (c_impl_Digits fu (m.te hT) _  Ag) fun Am e a k m=>ul 5 k z fun k=>cJ h k z (fun h=>?_) fun h=>?_
 · refine uc 8 k z fun k=>?_;cases h;exact finR2 k z (RV.tmp k z) (RV.tmp k z) ⟨z,m.ext⟩
 refine uc 2 k z fun k=>?_;exact ⟨k.p z,m.sl [] z,h⟩
theorem c_impl_wordsOf (fu) {w0} (hT:Te Tryz.prog w0) (Ap Ag Ao) {r} (h:d_impl_wordsOf fu Ap Ag Ao = some r):Calls Tryz.prog 45 #[.string (Ap),.string (Ag),I Ao] w0 fun e w=>∃ (v0:Value) (G0:List Nat),e = .returned (.tuple #[v0,.bool (r.2)]) ∧ Ext [] w0 w ∧ ow w G0 [v0] r.1 ∧ (∀ b ∈ G0,w0.heap.size ≤ b):=by
 refine eg (vs:=[_,_,_]) func45 z ntmps45 z fun k m=>oE h fun x4 Bj h=>uc 9 k z fun k=>sL k m call36 z (c_impl_Parts fu _ _  Bj) fun w7 Bl F8 Aa k m=>ul 3 k z fun k=>cg (fun a w=>K 49 [(8,Bl)] a ∧ St [] w0 w [(F8,w7)] ∧ d_impl_wordsOf_J1 fu x4 = some r) ?_ ?_
 · rintro a Br ⟨k,m,h⟩;refine uc 2 k z fun k=>sB te35 m k z (by exact fN) fun Am Bk Bs a k m e Bm=>?_;have Av:=ow_bx Bm ([]:List Int) z z z;refine oE h fun Al At h=>ul 7 k z fun k=>s_slFromO Aa At k ts68 z z z z z z fun As a k Ai=>gl 5 [lF (Enc.ow_rd Ai)] k z fun k=>lG (fun n a w=>∃ Ah Ae Ad Af Ac,K 49 [(9,Ae),(30,As),(31,I ((Al.length:Int))),(32,I Ac)] a ∧ St [] w0 w [(F8,w7),(Ad,Af)] ∧ ow Af Ad [Ae] Ah ∧ d_impl_wordsOf_L1 fu Al n Ah Ac = some r) ?_ fu ?_
   · rintro Bu a Bn ⟨Ah,Ae,Ad,Af,Ac,k,m,Aj,h⟩;refine uc 6 k z fun k=>cJ h k z (fun h=>?_) fun h=>?_
     · refine o2 h fun Bq Ak Aq Bh h=>gc 14 [iF (Enc.ow_rd Ai) Ak,eF (m.q Ai 0 z) Ak 0] k z fun k=>cC k m call80 z (c_impl_Number fu (m.te hT) _  Bh) fun Bp e a k m=>ul 14 k z fun k=>cJ h k z (fun h=>?_) fun h=>?_
       · refine uc 13 k z fun k=>?_;cases h;exact finR2 k z (RV.tmp k z) (RV.tmp k z) ⟨_,[],z,m.ext,(ow_nil _),(by simp)⟩
       refine uc 5 k z fun k=>sB te35 m k z (by exact fC z fN) fun Bv Bo Bt a k m e Bb=>?_;have Au:=ow_bx Bb ([Aq.1]:List Int) z z z;refine oE h fun Ba Bc h=>s_appF Bc te35 z m 2 Aj (News.rd (m.q Au 0 z)) z z k z z z z z z z fun Az Bd Aw a k e m Ay=>ul 9 k z fun k=>?_;exact ⟨_,_,_,_,_,k.p z,m.sl [1,2] z,Ay,h⟩
     refine uc 13 k z fun k=>?_;cases h;exact finR2 k z (RV.tmp k z) (RV.tmp k z) ⟨_,Ad,z,m.ext,(m.v Aj 1 z),(m.fresh 1 z)⟩
   exact ⟨_,_,_,_,_,k.p z,m.sl [1,0] z,Av,h⟩
 refine oE h fun Bg Ar h=>gc 8 [iF (Enc.ow_rd Aa) Ar,eF (m.q Aa 0 z) Ar 0] k z fun k=>bS h k 21 z (fun _ h k=>?_) fun _ h k=>?_
 · refine ul 17 k z fun k=>?_;cases h;exact finR2 k z (RV.tmp k z) (RV.tmp k z) ⟨_,[],z,m.ext,(ow_nil _),(by simp)⟩
 refine gl 8 [lF (Enc.ow_rd Aa)] k z fun k=>cJ h k z (fun h=>?_) fun h=>?_
 · refine uc 8 k z fun k=>?_;cases h;exact finR2 k z (RV.tmp k z) (RV.tmp k z) ⟨_,[],z,m.ext,(ow_nil _),(by simp)⟩
 refine uc 2 k z fun k=>?_;exact ⟨k.p z,m.sl [0] z,h⟩
theorem c_impl_putLine (fu) {w0} (r1 Ca) {F2 b3} (Cv:obx w0 F2 b3 r1 55) (hT:∀ w1,Ext F2 w0 w1 → Te Tryz.prog w1) {r} (h:d_impl_putLine fu r1 Ca = some r):Calls Tryz.prog 92 #[.pointer (some ⟨b3,0,none⟩),.string (Ca)] w0 fun e w=>∃ (H0:List Nat),e = .returned (I r.1) ∧ Ext F2 w0 w ∧ (∀ b ∈ H0,b ∈ F2 ∨ w0.heap.size ≤ b) ∧ obx w H0 b3 r.2 55:=by
 refine eg (vs:=[_,_]) func92 z ntmps92 z fun k _=>?_;obtain ⟨v6,F7,v9,Ae,Aj,Ad,Aa,Ah,Ag,Af,m⟩:=Cv.start;refine uc 18 k z fun k=>cJ h k z (fun h=>?_) fun h=>?_
 · refine uc 5 k z fun k=>sT sizeOf3 m 0 Aa 0 k z z fun Gi a k e m Fb=>ul 10 k z fun k=>?_;cases h;exact finR1 k z (RV.tmp k z) ⟨([b3] ++ (F7 ++ (Ae ++ Ad))),z,m.ext,(fun b hb=>(m.sl [0,1,2,3] z).lo b (by simpa [fps] using hb)),(obx.fin (x:=(⟨0,r1.fPallet,r1.fClasses,r1.fPairs,r1.fTypes,r1.fMaster,r1.fItems⟩:Request)) (m.y Fb 0 z) (m.v Ah 1 z) (m.v Ag 2 z) (m.v Af 3 z) (by simpa [fps] using (m.sl [0,1,2,3] z).nd))⟩
 refine uc 6 k z fun k=>cJ h k z (fun h=>?_) fun h=>?_
 · refine uc 5 k z fun k=>sT sizeOf3 m 0 Aa 0 k z z fun Gk a k e m Fm=>ul 10 k z fun k=>?_;cases h;exact finR1 k z (RV.tmp k z) ⟨([b3] ++ (F7 ++ (Ae ++ Ad))),z,m.ext,(fun b hb=>(m.sl [0,1,2,3] z).lo b (by simpa [fps] using hb)),(obx.fin (x:=(⟨1,r1.fPallet,r1.fClasses,r1.fPairs,r1.fTypes,r1.fMaster,r1.fItems⟩:Request)) (m.y Fm 0 z) (m.v Ah 1 z) (m.v Ag 2 z) (m.v Af 3 z) (by simpa [fps] using (m.sl [0,1,2,3] z).nd))⟩
 refine oE h fun Hh Ek h=>uc 7 k z fun k=>sC k call45 z (c_impl_wordsOf fu (hT _ m.ext) _ _ _  Ek) fun Hm Hz hR=>?_;obtain ⟨Hp,Do,rfl,e,Ai,Eh⟩:=hR;refine ⟨_,z,fun a k=>?_⟩;have m:=m.nw e Eh Ai;refine ul 12 k z fun k=>cJ h k z (fun h=>?_) fun h=>?_
 · refine uc 1 k z fun k=>d_go ([b3]) mixo m z fun Es hMd=>?_;have m:=hMd;have s:=Ext.refl (([b3]):List Nat) Es;refine dM [0,1,4,7,10] 5 z k z s fun a k=>oE h fun Bn Co h=>dT k 2 z z s (fun w s=>r_ixa (Enc.ow_rd Ai) Co k ts35 z z z) fun a k=>dT k 3 z z s (fun w s=>r_lde1 (Enc.ow_rd Ai) (hMd.az 0 1 z z z s) Co 0 t13 k z z z z) fun a k=>oE h fun Bg By h=>dT k 5 z z s (fun w s=>r_ixa (Enc.ow_rd Ai) By k ts35 z z z) fun a k=>dT k 6 z z s (fun w s=>r_lde1 (Enc.ow_rd Ai) (hMd.az 0 1 z z z s) By 0 t13 k z z z z) fun a k=>oE h fun Bk Bs h=>dT k 8 z z s (fun w s=>r_ixa (Enc.ow_rd Ai) Bs k ts35 z z z) fun a k=>dT k 9 z z s (fun w s=>r_lde1 (Enc.ow_rd Ai) (hMd.az 0 1 z z z s) Bs 0 t13 k z z z z) fun a k=>oE h fun Bf Cj h=>dT k 11 z z s (fun w s=>r_ixa (Enc.ow_rd Ai) Cj k ts35 z z z) fun a k=>dT k 12 z z s (fun w s=>r_lde1 (Enc.ow_rd Ai) (hMd.az 0 1 z z z s) Cj 0 t13 k z z z z) fun a k=>dT k 13 z z s (fun w s=>r_build bt50 k (cs:=#[I Bn,I Bg,I Bk,I Bf]) (ps:=[(0,.tmp 37),(1,.tmp 40),(2,.tmp 43),(3,.tmp 46)]) z z (by kernel_rfl)) fun a k=>dT k 14 z z s (fun w s=>r_nil k z z) fun a k=>?_;refine dF k 15 fa55_1 z s fun a k=>dG 16 z (sT sizeOf50 m 1 Aa 1 k z z fun Ib a k e m Eu=>?_);have s:=s.trans e (fun y hy=>Or.inl hy);refine wpList_nil ⟨s,?_⟩;refine dD ?_;refine (nm_then ?_);refine uc 7 k z fun k=>?_;cases h;exact finR1 k z (RV.tmp k z) ⟨([b3] ++ (F7 ++ (Ae ++ Ad))),z,m.ext,(fun b hb=>(m.sl [1,2,3,4] z).lo b (by simpa [fps] using hb)),(obx.fin (x:=(⟨r1.fWay,(⟨Bn,Bg,Bk,Bf⟩:Pallet),r1.fClasses,r1.fPairs,r1.fTypes,r1.fMaster,r1.fItems⟩:Request)) (m.y Eu 1 z) (m.v Ah 2 z) (m.v Ag 3 z) (m.v Af 4 z) (by simpa [fps] using (m.sl [1,2,3,4] z).nd))⟩
 refine oE h fun Hk Ep h=>uc 6 k z fun k=>sC k call45 z (c_impl_wordsOf fu (hT _ m.ext) _ _ _  Ep) fun Iu Ik hR=>?_;obtain ⟨Gu,Ex,rfl,e,Bc,Fg⟩:=hR;refine ⟨_,z,fun a k=>?_⟩;have m:=m.nw e Fg Bc;refine ul 12 k z fun k=>cJ h k z (fun h=>?_) fun h=>?_
 · refine oE h fun Cp Bp h=>gc 8 [iF (Enc.ow_rd Bc) Bp,eF (m.q Bc 0 z) Bp 0] k z fun k=>sT sizeOf3 m 2 Aa 5 k z z fun Hj a k e m Ej=>ul 9 k z fun k=>?_;cases h;exact finR1 k z (RV.tmp k z) ⟨([b3] ++ (F7 ++ (Ae ++ Ad))),z,m.ext,(fun b hb=>(m.sl [2,3,4,5] z).lo b (by simpa [fps] using hb)),(obx.fin (x:=(⟨r1.fWay,r1.fPallet,Cp,r1.fPairs,r1.fTypes,r1.fMaster,r1.fItems⟩:Request)) (m.y Ej 2 z) (m.v Ah 3 z) (m.v Ag 4 z) (m.v Af 5 z) (by simpa [fps] using (m.sl [2,3,4,5] z).nd))⟩
 refine oE h fun Gn Dx h=>uc 6 k z fun k=>sC k call45 z (c_impl_wordsOf fu (hT _ m.ext) _ _ _  Dx) fun Gv Iz hR=>?_;obtain ⟨He,Fc,rfl,e,Ak,Fa⟩:=hR;refine ⟨_,z,fun a k=>?_⟩;have m:=m.nw e Fa Ak;refine ul 12 k z fun k=>cJ h k z (fun h=>?_) fun h=>?_
 · refine uc 1 k z fun k=>d_go (F7 ++ ([b3])) mixo m z fun Ed hMd=>?_;have m:=hMd;have s:=Ext.refl ((F7 ++ ([b3])):List Nat) Ed;have hMj:=(hMd.sel [4,3,0,1,2,5,6] z (by decide)).join2;refine dM [0,1,5,8] 4 z k z s fun a k=>dT k 2 z z s (fun w s=>r_nil k z z) fun a k=>dF k 3 fa55_3 z s fun a k=>oE h fun Av Br h=>dT k 6 z z s (fun w s=>r_ixa (Enc.ow_rd Ak) Br k ts35 z z z) fun a k=>dT k 7 z z s (fun w s=>r_lde1 (Enc.ow_rd Ak) (hMj.az 1 0 z z z s) Br 0 t13 k z z z z) fun a k=>oE h fun As Cr h=>dT k 9 z z s (fun w s=>r_ixa (Enc.ow_rd Ak) Cr k ts35 z z z) fun a k=>dT k 10 z z s (fun w s=>r_lde1 (Enc.ow_rd Ak) (hMj.az 1 0 z z z s) Cr 0 t13 k z z z z) fun a k=>dT k 11 z z s (fun w s=>r_build bt98 k (cs:=#[I Av,I As]) (ps:=[(0,.tmp 75),(1,.tmp 78)]) z z (by kernel_rfl)) fun a k=>dG2 4 12 (by kernel_rfl) z z ?_ ?_
   · refine gl 1 [bF m 3 Aa z] k z fun k=>wpList_nil ⟨s,?_⟩;refine dG 12 z (s_bsN te51 m k z z z z z z z (by decide) z (by exact fC z fN) fun Ge Gr Iq a k m e Dd En=>?_);have Ha:=lo1 (Nat.le_trans s.size En);have Dm:=ow_bx Dd ([(⟨Av,As⟩:Pair)]:List Pair) z z z;refine ns s e fun s=>dG 13 z (oE h fun Cy Fn h=>s_appFN Fn te51 z m 5 Ah (News.rd (m.q Dm 0 z)) z z k z z z z z z z fun Dk Cl Ie a k e m Bm Eg=>?_);have Ii:∀ y ∈ Cl,y ∈ (F7 ++ ([b3])) ∨ _ ≤ y:=fun y hy=>(Eg y hy).elim (fun hy=>(fun y hy=>Or.inl (List.mem_append_left _ hy)) y hy) (fun h=>Or.inr (Nat.le_trans s.size h));have s:=s.trans e (fun y hy=>Or.inl (List.mem_append_left _ hy));refine wpList_nil ⟨s,?_⟩;refine dT k 14 z z s (fun w s=>r_nil k z z) fun a k=>dF k 15 fa55_3 z s fun a k=>dG 16 z (s_stb1 (cs':=(cR r1 Dk v9 Aj)) sizeOf51 m 4 Aa 6 k (rd_c (Enc.ow_rd Bm)) (rd_o (Enc.ow_rd Bm)) z z z z z z z z z fun Hl a k e m Ga=>?_);have s:=s.trans e (fun y hy=>Or.inl (List.mem_append_right _ hy));refine wpList_nil ⟨s,?_⟩;refine dD ((nm_then ?_));refine uc 7 k z fun k=>?_;cases h;exact finR1 k z (RV.tmp k z) ⟨([b3] ++ (Cl ++ (Ae ++ Ad))),z,m.ext,(fun b hb=>(m.sl [4,5,6,7] z).lo b (by simpa [fps] using hb)),(obx.fin (x:=(⟨r1.fWay,r1.fPallet,r1.fClasses,Cy,r1.fTypes,r1.fMaster,r1.fItems⟩:Request)) (m.y Ga 4 z) (m.v Bm 5 z) (m.v Ag 6 z) (m.v Af 7 z) (by simpa [fps] using (m.sl [4,5,6,7] z).nd))⟩
   refine s_bsN te51 m k z z z z z z z (by decide) z (by exact fC z fN) fun Hy If Hf a k m e Ez Dn=>?_;have Hg:=lo1 (Nat.le_trans s.size Dn);have Em:=ow_bx Ez ([(⟨Av,As⟩:Pair)]:List Pair) z z z;refine ns s e fun s=>dG 4 z (gl 1 [bF m 4 Aa z] k z fun k=>wpList_nil ⟨s,?_⟩);refine dG 13 z (oE h fun Db Fl h=>s_appFN Fl te51 z m 5 Ah (News.rd (m.q Em 0 z)) z z k z z z z z z z fun Fp Cc Ij a k e m Be De=>?_);have Iw:∀ y ∈ Cc,y ∈ (F7 ++ ([b3])) ∨ _ ≤ y:=fun y hy=>(De y hy).elim (fun hy=>(fun y hy=>Or.inl (List.mem_append_left _ hy)) y hy) (fun h=>Or.inr (Nat.le_trans s.size h));have s:=s.trans e (fun y hy=>Or.inl (List.mem_append_left _ hy));refine wpList_nil ⟨s,?_⟩;refine dT k 14 z z s (fun w s=>r_nil k z z) fun a k=>dF k 15 fa55_3 z s fun a k=>dG 16 z (s_stb1 (cs':=(cR r1 Fp v9 Aj)) sizeOf51 m 4 Aa 6 k (rd_c (Enc.ow_rd Be)) (rd_o (Enc.ow_rd Be)) z z z z z z z z z fun Id a k e m Ei=>?_);have s:=s.trans e (fun y hy=>Or.inl (List.mem_append_right _ hy));refine wpList_nil ⟨s,?_⟩;refine dD ((nm_then ?_));refine uc 7 k z fun k=>?_;cases h;exact finR1 k z (RV.tmp k z) ⟨([b3] ++ (Cc ++ (Ae ++ Ad))),z,m.ext,(fun b hb=>(m.sl [4,5,6,7] z).lo b (by simpa [fps] using hb)),(obx.fin (x:=(⟨r1.fWay,r1.fPallet,r1.fClasses,Db,r1.fTypes,r1.fMaster,r1.fItems⟩:Request)) (m.y Ei 4 z) (m.v Be 5 z) (m.v Ag 6 z) (m.v Af 7 z) (by simpa [fps] using (m.sl [4,5,6,7] z).nd))⟩
 refine oE h fun Hx Ea h=>uc 6 k z fun k=>sC k call45 z (c_impl_wordsOf fu (hT _ m.ext) _ _ _  Ea) fun Ic Hn hR=>?_;obtain ⟨Ir,Df,rfl,e,Ac,Ew⟩:=hR;refine ⟨_,z,fun a k=>?_⟩;have m:=m.nw e Ew Ac;refine ul 12 k z fun k=>cJ h k z (fun h=>?_) fun h=>?_
 · refine uc 1 k z fun k=>d_go (Ae ++ ([b3])) mixo m z fun Dj hMd=>?_;have m:=hMd;have s:=Ext.refl ((Ae ++ ([b3])):List Nat) Dj;have hMj:=(hMd.sel [6,4,0,1,2,3,5,7] z (by decide)).join2;refine dM [0,1,5,8,11,14,17,20,23] 9 z k z s fun a k=>dT k 2 z z s (fun w s=>r_nil k z z) fun a k=>dF k 3 fa55_4 z s fun a k=>oE h fun Az Cs h=>dT k 6 z z s (fun w s=>r_ixa (Enc.ow_rd Ac) Cs k ts35 z z z) fun a k=>dT k 7 z z s (fun w s=>r_lde1 (Enc.ow_rd Ac) (hMj.az 1 0 z z z s) Cs 0 t13 k z z z z) fun a k=>oE h fun Au Ch h=>dT k 9 z z s (fun w s=>r_ixa (Enc.ow_rd Ac) Ch k ts35 z z z) fun a k=>dT k 10 z z s (fun w s=>r_lde1 (Enc.ow_rd Ac) (hMj.az 1 0 z z z s) Ch 0 t13 k z z z z) fun a k=>oE h fun Ar Cm h=>dT k 12 z z s (fun w s=>r_ixa (Enc.ow_rd Ac) Cm k ts35 z z z) fun a k=>dT k 13 z z s (fun w s=>r_lde1 (Enc.ow_rd Ac) (hMj.az 1 0 z z z s) Cm 0 t13 k z z z z) fun a k=>oE h fun Aw Bq h=>dT k 15 z z s (fun w s=>r_ixa (Enc.ow_rd Ac) Bq k ts35 z z z) fun a k=>dT k 16 z z s (fun w s=>r_lde1 (Enc.ow_rd Ac) (hMj.az 1 0 z z z s) Bq 0 t13 k z z z z) fun a k=>oE h fun Aq Bt h=>?_;refine dT k 18 z z s (fun w s=>r_ixa (Enc.ow_rd Ac) Bt k ts35 z z z) fun a k=>dT k 19 z z s (fun w s=>r_lde1 (Enc.ow_rd Ac) (hMj.az 1 0 z z z s) Bt 0 t13 k z z z z) fun a k=>oE h fun Ba Cb h=>dT k 21 z z s (fun w s=>r_ixa (Enc.ow_rd Ac) Cb k ts35 z z z) fun a k=>dT k 22 z z s (fun w s=>r_lde1 (Enc.ow_rd Ac) (hMj.az 1 0 z z z s) Cb 0 t13 k z z z z) fun a k=>oE h fun Am Cn h=>dT k 24 z z s (fun w s=>r_ixa (Enc.ow_rd Ac) Cn k ts35 z z z) fun a k=>dT k 25 z z s (fun w s=>r_lde1 (Enc.ow_rd Ac) (hMj.az 1 0 z z z s) Cn 0 t13 k z z z z) fun a k=>dT k 26 z z s (fun w s=>r_build bt61 k (cs:=#[I Az,I Au,I Ar,I Aw,I Aq,I Ba,I Am]) (ps:=[(0,.tmp 97),(1,.tmp 100),(2,.tmp 103),(3,.tmp 106),(4,.tmp 109),(5,.tmp 112),(6,.tmp 115)]) z z (by kernel_rfl)) fun a k=>dG2 4 27 (by kernel_rfl) z z ?_ ?_
   · refine gl 1 [bF m 4 Aa z] k z fun k=>wpList_nil ⟨s,?_⟩;refine dG 27 z (s_bsN te52 m k z z z z z z z (by decide) z (by exact fC z fN) fun It Hb Im a k m e Ec Dl=>?_);have Gq:=lo1 (Nat.le_trans s.size Dl);have Fi:=ow_bx Ec ([(⟨Az,Au,Ar,Aw,Aq,Ba,Am⟩:Typ)]:List Typ) z z z;refine ns s e fun s=>dG 28 z (oE h fun Dg Cw h=>s_appFN Cw te52 z m 7 Ag (News.rd (m.q Fi 0 z)) z z k z z z z z z z fun Dv Bo Io a k e m Bj Fz=>?_);have Ix:∀ y ∈ Bo,y ∈ (Ae ++ ([b3])) ∨ _ ≤ y:=fun y hy=>(Fz y hy).elim (fun hy=>(fun y hy=>Or.inl (List.mem_append_left _ hy)) y hy) (fun h=>Or.inr (Nat.le_trans s.size h));have s:=s.trans e (fun y hy=>Or.inl (List.mem_append_left _ hy));refine wpList_nil ⟨s,?_⟩;refine dT k 29 z z s (fun w s=>r_nil k z z) fun a k=>dF k 30 fa55_4 z s fun a k=>dG 31 z (s_stb1 (cs':=(cR r1 v6 Dv Aj)) sizeOf52 m 5 Aa 7 k (rd_c (Enc.ow_rd Bj)) (rd_o (Enc.ow_rd Bj)) z z z z z z z z z fun Ip a k e m Fq=>?_);have s:=s.trans e (fun y hy=>Or.inl (List.mem_append_right _ hy));refine wpList_nil ⟨s,?_⟩;refine dD ?_;refine (nm_then ?_);refine uc 7 k z fun k=>?_;cases h;exact finR1 k z (RV.tmp k z) ⟨([b3] ++ (F7 ++ (Bo ++ Ad))),z,m.ext,(fun b hb=>(m.sl [5,6,7,8] z).lo b (by simpa [fps] using hb)),(obx.fin (x:=(⟨r1.fWay,r1.fPallet,r1.fClasses,r1.fPairs,Dg,r1.fMaster,r1.fItems⟩:Request)) (m.y Fq 5 z) (m.v Ah 6 z) (m.v Bj 7 z) (m.v Af 8 z) (by simpa [fps] using (m.sl [5,6,7,8] z).nd))⟩
   refine s_bsN te52 m k z z z z z z z (by decide) z (by exact fC z fN) fun Gf Gh Gl a k m e Cu Di=>?_;have Ht:=lo1 (Nat.le_trans s.size Di);have Dq:=ow_bx Cu ([(⟨Az,Au,Ar,Aw,Aq,Ba,Am⟩:Typ)]:List Typ) z z z;refine ns s e fun s=>dG 4 z (gl 1 [bF m 5 Aa z] k z fun k=>wpList_nil ⟨s,?_⟩);refine dG 28 z (oE h fun Fj Du h=>s_appFN Du te52 z m 7 Ag (News.rd (m.q Dq 0 z)) z z k z z z z z z z fun Dc Bu Ih a k e m Bh El=>?_);have Hd:∀ y ∈ Bu,y ∈ (Ae ++ ([b3])) ∨ _ ≤ y:=fun y hy=>(El y hy).elim (fun hy=>(fun y hy=>Or.inl (List.mem_append_left _ hy)) y hy) (fun h=>Or.inr (Nat.le_trans s.size h));have s:=s.trans e (fun y hy=>Or.inl (List.mem_append_left _ hy));refine wpList_nil ⟨s,?_⟩;refine dT k 29 z z s (fun w s=>r_nil k z z) fun a k=>dF k 30 fa55_4 z s fun a k=>dG 31 z (s_stb1 (cs':=(cR r1 v6 Dc Aj)) sizeOf52 m 5 Aa 7 k (rd_c (Enc.ow_rd Bh)) (rd_o (Enc.ow_rd Bh)) z z z z z z z z z fun Hc a k e m Fh=>?_);have s:=s.trans e (fun y hy=>Or.inl (List.mem_append_right _ hy));refine wpList_nil ⟨s,?_⟩;refine dD ?_;refine (nm_then ?_);refine uc 7 k z fun k=>?_;cases h;exact finR1 k z (RV.tmp k z) ⟨([b3] ++ (F7 ++ (Bu ++ Ad))),z,m.ext,(fun b hb=>(m.sl [5,6,7,8] z).lo b (by simpa [fps] using hb)),(obx.fin (x:=(⟨r1.fWay,r1.fPallet,r1.fClasses,r1.fPairs,Fj,r1.fMaster,r1.fItems⟩:Request)) (m.y Fh 5 z) (m.v Ah 6 z) (m.v Bh 7 z) (m.v Af 8 z) (by simpa [fps] using (m.sl [5,6,7,8] z).nd))⟩
 refine oE h fun In Fy h=>uc 6 k z fun k=>sC k call45 z (c_impl_wordsOf fu (hT _ m.ext) _ _ _  Fy) fun Iv Ig hR=>?_;obtain ⟨Hw,Fw,rfl,e,Bd,Ff⟩:=hR;refine ⟨_,z,fun a k=>?_⟩;have m:=m.nw e Ff Bd;refine ul 12 k z fun k=>cJ h k z (fun h=>?_) fun h=>?_
 · refine oE h fun Bx Cq h=>gc 8 [iF (Enc.ow_rd Bd) Cq,eF (m.q Bd 0 z) Cq 0] k z fun k=>sT sizeOf3 m 5 Aa 8 k z z fun Hu a k e m Dy=>ul 9 k z fun k=>?_;cases h;exact finR1 k z (RV.tmp k z) ⟨([b3] ++ (F7 ++ (Ae ++ Ad))),z,m.ext,(fun b hb=>(m.sl [5,6,7,8] z).lo b (by simpa [fps] using hb)),(obx.fin (x:=(⟨r1.fWay,r1.fPallet,r1.fClasses,r1.fPairs,r1.fTypes,Bx,r1.fItems⟩:Request)) (m.y Dy 5 z) (m.v Ah 6 z) (m.v Ag 7 z) (m.v Af 8 z) (by simpa [fps] using (m.sl [5,6,7,8] z).nd))⟩
 refine oE h fun Gz Cx h=>uc 6 k z fun k=>sC k call45 z (c_impl_wordsOf fu (hT _ m.ext) _ _ _  Cx) fun Ho Hq hR=>?_;obtain ⟨Hr,Fk,rfl,e,Ab,Dt⟩:=hR;refine ⟨_,z,fun a k=>?_⟩;have m:=m.nw e Dt Ab;refine ul 12 k z fun k=>cJ h k z (fun h=>?_) fun h=>?_
 · refine uc 1 k z fun k=>d_go (Ad ++ ([b3])) mixo m z fun Da hMd=>?_;have m:=hMd;have s:=Ext.refl ((Ad ++ ([b3])):List Nat) Da;have hMj:=(hMd.sel [9,6,0,1,2,3,4,5,7,8] z (by decide)).join2;refine dM [0,1,5,8,11,14,17,20,23] 9 z k z s fun a k=>dT k 2 z z s (fun w s=>r_nil k z z) fun a k=>dF k 3 fa55_6 z s fun a k=>oE h fun Ao Ci h=>dT k 6 z z s (fun w s=>r_ixa (Enc.ow_rd Ab) Ci k ts35 z z z) fun a k=>dT k 7 z z s (fun w s=>r_lde1 (Enc.ow_rd Ab) (hMj.az 1 0 z z z s) Ci 0 t13 k z z z z) fun a k=>oE h fun Ay Bw h=>dT k 9 z z s (fun w s=>r_ixa (Enc.ow_rd Ab) Bw k ts35 z z z) fun a k=>dT k 10 z z s (fun w s=>r_lde1 (Enc.ow_rd Ab) (hMj.az 1 0 z z z s) Bw 0 t13 k z z z z) fun a k=>oE h fun Bb Cg h=>dT k 12 z z s (fun w s=>r_ixa (Enc.ow_rd Ab) Cg k ts35 z z z) fun a k=>dT k 13 z z s (fun w s=>r_lde1 (Enc.ow_rd Ab) (hMj.az 1 0 z z z s) Cg 0 t13 k z z z z) fun a k=>oE h fun At Cd h=>dT k 15 z z s (fun w s=>r_ixa (Enc.ow_rd Ab) Cd k ts35 z z z) fun a k=>dT k 16 z z s (fun w s=>r_lde1 (Enc.ow_rd Ab) (hMj.az 1 0 z z z s) Cd 0 t13 k z z z z) fun a k=>oE h fun Al Ck h=>?_;refine dT k 18 z z s (fun w s=>r_ixa (Enc.ow_rd Ab) Ck k ts35 z z z) fun a k=>dT k 19 z z s (fun w s=>r_lde1 (Enc.ow_rd Ab) (hMj.az 1 0 z z z s) Ck 0 t13 k z z z z) fun a k=>oE h fun Ap Bv h=>dT k 21 z z s (fun w s=>r_ixa (Enc.ow_rd Ab) Bv k ts35 z z z) fun a k=>dT k 22 z z s (fun w s=>r_lde1 (Enc.ow_rd Ab) (hMj.az 1 0 z z z s) Bv 0 t13 k z z z z) fun a k=>oE h fun Ax Ce h=>dT k 24 z z s (fun w s=>r_ixa (Enc.ow_rd Ab) Ce k ts35 z z z) fun a k=>dT k 25 z z s (fun w s=>r_lde1 (Enc.ow_rd Ab) (hMj.az 1 0 z z z s) Ce 0 t13 k z z z z) fun a k=>dT k 26 z z s (fun w s=>r_build bt59 k (cs:=#[I Ao,I Ay,I Bb,I At,I Al,I Ap,I Ax]) (ps:=[(0,.tmp 146),(1,.tmp 149),(2,.tmp 152),(3,.tmp 155),(4,.tmp 158),(5,.tmp 161),(6,.tmp 164)]) z z (by kernel_rfl)) fun a k=>dG2 4 27 (by kernel_rfl) z z ?_ ?_
   · refine gl 1 [bF m 6 Aa z] k z fun k=>wpList_nil ⟨s,?_⟩;refine dG 27 z (s_bsN te53 m k z z z z z z z (by decide) z (by exact fC z fN) fun Gt Ia Hi a k m e Ef Cz=>?_);have Gj:=lo1 (Nat.le_trans s.size Cz);have Fd:=ow_bx Ef ([(⟨Ao,Ay,Bb,At,Al,Ap,Ax⟩:Item)]:List Item) z z z;refine ns s e fun s=>dG 28 z (oE h fun Ee Dr h=>s_appFN Dr te53 z m 10 Af (News.rd (m.q Fd 0 z)) z z k z z z z z z z fun Gb Ct Gy a k e m Bl Gd=>?_);have Gw:∀ y ∈ Ct,y ∈ (Ad ++ ([b3])) ∨ _ ≤ y:=fun y hy=>(Gd y hy).elim (fun hy=>(fun y hy=>Or.inl (List.mem_append_left _ hy)) y hy) (fun h=>Or.inr (Nat.le_trans s.size h));have s:=s.trans e (fun y hy=>Or.inl (List.mem_append_left _ hy));refine wpList_nil ⟨s,?_⟩;refine dT k 29 z z s (fun w s=>r_nil k z z) fun a k=>dF k 30 fa55_6 z s fun a k=>dG 31 z (s_stb1 (cs':=(cR r1 v6 v9 Gb)) sizeOf53 m 7 Aa 9 k (rd_c (Enc.ow_rd Bl)) (rd_o (Enc.ow_rd Bl)) z z z z z z z z z fun Gp a k e m Dz=>?_);have s:=s.trans e (fun y hy=>Or.inl (List.mem_append_right _ hy));refine wpList_nil ⟨s,?_⟩;refine dD ?_;refine (nm_then ?_);refine uc 7 k z fun k=>?_;cases h;exact finR1 k z (RV.tmp k z) ⟨([b3] ++ (F7 ++ (Ae ++ Ct))),z,m.ext,(fun b hb=>(m.sl [7,8,9,10] z).lo b (by simpa [fps] using hb)),(obx.fin (x:=(⟨r1.fWay,r1.fPallet,r1.fClasses,r1.fPairs,r1.fTypes,r1.fMaster,Ee⟩:Request)) (m.y Dz 7 z) (m.v Ah 8 z) (m.v Ag 9 z) (m.v Bl 10 z) (by simpa [fps] using (m.sl [7,8,9,10] z).nd))⟩
   refine s_bsN te53 m k z z z z z z z (by decide) z (by exact fC z fN) fun Hv Iy Gx a k m e Fe Ev=>?_;have Is:=lo1 (Nat.le_trans s.size Ev);have Gc:=ow_bx Fe ([(⟨Ao,Ay,Bb,At,Al,Ap,Ax⟩:Item)]:List Item) z z z;refine ns s e fun s=>dG 4 z (gl 1 [bF m 7 Aa z] k z fun k=>wpList_nil ⟨s,?_⟩);refine dG 28 z (oE h fun Et Fs h=>s_appFN Fs te53 z m 10 Af (News.rd (m.q Gc 0 z)) z z k z z z z z z z fun Er Bz Il a k e m Bi Eo=>?_);have Gm:∀ y ∈ Bz,y ∈ (Ad ++ ([b3])) ∨ _ ≤ y:=fun y hy=>(Eo y hy).elim (fun hy=>(fun y hy=>Or.inl (List.mem_append_left _ hy)) y hy) (fun h=>Or.inr (Nat.le_trans s.size h));have s:=s.trans e (fun y hy=>Or.inl (List.mem_append_left _ hy));refine wpList_nil ⟨s,?_⟩;refine dT k 29 z z s (fun w s=>r_nil k z z) fun a k=>dF k 30 fa55_6 z s fun a k=>dG 31 z (s_stb1 (cs':=(cR r1 v6 v9 Er)) sizeOf53 m 7 Aa 9 k (rd_c (Enc.ow_rd Bi)) (rd_o (Enc.ow_rd Bi)) z z z z z z z z z fun Gg a k e m Dh=>?_);have s:=s.trans e (fun y hy=>Or.inl (List.mem_append_right _ hy));refine wpList_nil ⟨s,?_⟩;refine dD ?_;refine (nm_then ?_);refine uc 7 k z fun k=>?_;cases h;exact finR1 k z (RV.tmp k z) ⟨([b3] ++ (F7 ++ (Ae ++ Bz))),z,m.ext,(fun b hb=>(m.sl [7,8,9,10] z).lo b (by simpa [fps] using hb)),(obx.fin (x:=(⟨r1.fWay,r1.fPallet,r1.fClasses,r1.fPairs,r1.fTypes,r1.fMaster,Et⟩:Request)) (m.y Dh 7 z) (m.v Ah 8 z) (m.v Ag 9 z) (m.v Bi 10 z) (by simpa [fps] using (m.sl [7,8,9,10] z).nd))⟩
 refine uc 8 k z fun k=>?_;cases h;exact finR1 k z (RV.tmp k z) ⟨([b3] ++ (F7 ++ (Ae ++ Ad))),z,m.ext,(fun b hb=>(m.sl [6,7,8,9] z).lo b (by simpa [fps] using hb)),(obx.fin (x:=r1) (m.y Aa 6 z) (m.v Ah 7 z) (m.v Ag 8 z) (m.v Af 9 z) (by simpa [fps] using (m.sl [6,7,8,9] z).nd))⟩
theorem c_impl_mayFollow (fu) {w0} (Aa Ah) {r} (h:d_impl_mayFollow fu Aa Ah = some r):cS 93 [I Aa,I Ah] w0 (.bool (r)):=by
 refine eg func93 z ntmps93 z fun k m=>uc 5 k z fun k=>cg (fun a w=>K 38 [] a ∧ St [] w0 w [] ∧ d_impl_mayFollow_J1 fu = some r) ?_ ?_
 · rintro a Bp ⟨k,m,h⟩;refine uc 6 k z fun k=>fS h k m z z
 refine uc 13 k z fun k=>cJ h k z (fun h=>?_) fun h=>?_
 · refine uc 2 k z fun k=>cJ h k z (fun h=>?_) fun h=>?_
   · refine uc 12 k z fun k=>fS h k m z z
   refine uc 6 k z fun k=>cJ h k z (fun h=>?_) fun h=>?_
   · refine uc 5 k z fun k=>bS h k 18 z (fun _ h k=>?_) fun _ h k=>?_
     · refine ul 9 k z fun k=>fS h k m z z
     refine ul 9 k z fun k=>fS h k m z z
   refine uc 6 k z fun k=>cJ h k z (fun h=>?_) fun h=>?_
   · refine oE h fun Bl As h=>uc 3 k z fun k=>cC k m call68 z (c_impl_in fu _ _ _  As) fun Bq e a k m=>ul 6 k z fun k=>fS h k m z z
   refine uc 6 k z fun k=>cJ h k z (fun h=>?_) fun h=>?_
   · refine oE h fun Bo Bf h=>uc 3 k z fun k=>cC k m call68 z (c_impl_in fu _ _ _  Bf) fun Br e a k m=>ul 6 k z fun k=>fS h k m z z
   refine uc 6 k z fun k=>cJ h k z (fun h=>?_) fun h=>?_
   · refine uc 5 k z fun k=>bS h k 34 z (fun _ h k=>?_) fun _ h k=>?_
     · refine ul 9 k z fun k=>fS h k m z z
     refine ul 9 k z fun k=>fS h k m z z
   refine uc 3 k z fun k=>?_;exact ⟨k.p z,m.sl [] z,h⟩
 refine uc 6 k z fun k=>cJ h k z (fun h=>?_) fun h=>?_
 · refine uc 2 k z fun k=>cJ h k z (fun h=>?_) fun h=>?_
   · refine uc 12 k z fun k=>fS h k m z z
   refine uc 6 k z fun k=>cJ h k z (fun h=>?_) fun h=>?_
   · refine uc 5 k z fun k=>bS h k 18 z (fun _ h k=>?_) fun _ h k=>?_
     · refine ul 9 k z fun k=>fS h k m z z
     refine ul 9 k z fun k=>fS h k m z z
   refine uc 6 k z fun k=>cJ h k z (fun h=>?_) fun h=>?_
   · refine oE h fun Bs Be h=>uc 3 k z fun k=>cC k m call68 z (c_impl_in fu _ _ _  Be) fun Bh e a k m=>ul 6 k z fun k=>fS h k m z z
   refine uc 6 k z fun k=>cJ h k z (fun h=>?_) fun h=>?_
   · refine oE h fun Bi Au h=>uc 3 k z fun k=>cC k m call68 z (c_impl_in fu _ _ _  Au) fun Bk e a k m=>ul 6 k z fun k=>fS h k m z z
   refine uc 6 k z fun k=>cJ h k z (fun h=>?_) fun h=>?_
   · refine uc 5 k z fun k=>bS h k 34 z (fun _ h k=>?_) fun _ h k=>?_
     · refine ul 9 k z fun k=>fS h k m z z
     refine ul 9 k z fun k=>fS h k m z z
   refine uc 3 k z fun k=>?_;exact ⟨k.p z,m.sl [] z,h⟩
 refine uc 5 k z fun k=>cJ h k z (fun h=>?_) fun h=>?_
 · refine uc 12 k z fun k=>fS h k m z z
 refine uc 6 k z fun k=>cJ h k z (fun h=>?_) fun h=>?_
 · refine uc 5 k z fun k=>bS h k 18 z (fun _ h k=>?_) fun _ h k=>?_
   · refine ul 9 k z fun k=>fS h k m z z
   refine ul 9 k z fun k=>fS h k m z z
 refine uc 6 k z fun k=>cJ h k z (fun h=>?_) fun h=>?_
 · refine oE h fun Bj Am h=>uc 3 k z fun k=>cC k m call68 z (c_impl_in fu _ _ _  Am) fun Bm e a k m=>ul 6 k z fun k=>fS h k m z z
 refine uc 6 k z fun k=>cJ h k z (fun h=>?_) fun h=>?_
 · refine oE h fun Bg Az h=>uc 3 k z fun k=>cC k m call68 z (c_impl_in fu _ _ _  Az) fun Bn e a k m=>ul 6 k z fun k=>fS h k m z z
 refine uc 6 k z fun k=>cJ h k z (fun h=>?_) fun h=>?_
 · refine uc 5 k z fun k=>bS h k 34 z (fun _ h k=>?_) fun _ h k=>?_
   · refine ul 9 k z fun k=>fS h k m z z
   refine ul 9 k z fun k=>fS h k m z z
 refine uc 3 k z fun k=>?_;exact ⟨k.p z,m.sl [] z,h⟩
theorem c_impl_ReadOrder (fu) {w0} (hT:Te Tryz.prog w0) (Bj) {r} (h:d_impl_ReadOrder fu Bj = some r):Calls Tryz.prog 51 #[.string (Bj)] w0 fun e w=>∃ (Bn:List Value) (G0:List Nat),e = .returned (.tuple #[.agg Bn.toArray,I r.2]) ∧ Ext [] w0 w ∧ ow w G0 Bn r.1 ∧ (∀ b ∈ G0,w0.heap.size ≤ b):=by
 refine eg (vs:=[_]) func51 z ntmps51 z fun k m=>uc 2 k z fun k=>s_alloc m k zeroValue55 z z z z z fun b2 w4 a k m e Ak=>oE h fun x5 Bz h=>ul 6 k z fun k=>sL k m call36 z (c_impl_Parts fu _ _  Bz) fun w9 Cb Bm Ag k m=>gl 18 [lF (Enc.ow_rd Ag)] k z fun k=>cJ h k z (fun h=>?_) fun h=>?_
 · refine uc 2 k z fun k=>sv k z (r_build bt55 k (cs:=#[I 0,I 0,I 0,I 0,I 0,I 0,.slice none 0 0,.slice none 0 0,I 0,.slice none 0 0]) (ps:=[]) z z (by kernel_rfl)) fun a k=>sT sizeOf55 m 1 Ak 0 k z z fun Da a k e m Cx=>ul 5 k z fun k=>?_;cases h;exact finR2 k z (RV.cA k z ta55 (Cx.at (m.a 1 z) 0 10 z z z) z) (RV.tmp k z) ⟨_,_,z,m.ext,⟨_,[],_,[],_,[],z,z,(ow_nil _),(ow_nil _),(ow_nil _),by simpa [fps] using (m.sl [] z).nd⟩,(app_fresh (by simp) (app_fresh (by simp) (by simp)))⟩
 refine uc 4 k z fun k=>sv k z (r_build bt55 k (cs:=#[I 0,I 0,I 0,I 0,I 0,I 0,.slice none 0 0,.slice none 0 0,I 0,.slice none 0 0]) (ps:=[]) z z (by kernel_rfl)) fun a k=>s_alloc m k zeroValue55 z z z z z fun Bd Db a k m e Cg=>sT sizeOf55 m 0 Cg 0 k z z fun Bu a k e m By=>oE h fun Bi Bp h=>ul 12 k z fun k=>s_slTo (Enc.ow_rd Ag) Bp k ts68 z z z z z z fun Ct a k Bb=>gl 5 [lF Bb] k z fun k=>lG (fun n a w=>∃ Ad Ai Ac Ah Ab Ae Aj Aq Ar Ba Ao Aw Au Bf Af Al Ax Ap Bg Ay As At,K 51 [(2,pt b2),(4,Cb),(5,I (w64 (((x5.length:Int)) - 1))),(6,pt Bd),(7,I As),(22,Ct),(23,I ((Bi.length:Int))),(24,I At)] a ∧ St [] w0 w [([b2],w4),(Ar,Ba),(Au,Bf),(Ap,Bg),([Bd],Ay),(Bm,w9)] ∧ ow Ba Ar [Aq] Aj ∧ ow Bf Au [Aw] Ao ∧ ow Bg Ap [Ax] Al ∧ bx Ay Bd [I Ad,I Ai,I Ac,I Ah,I Ab,I Ae,Aq,Aw,I Af,Ax] 55 ∧ d_impl_ReadOrder_L1 fu x5 Bi n Ad Ai Ac Ah Ab Ae Aj Ao Af Al As At = some r) ?_ fu ?_
 · rintro Dd a Di ⟨Ad,Ai,Ac,Ah,Ab,Ae,Aj,Aq,Ar,Ba,Ao,Aw,Au,Bf,Af,Al,Ax,Ap,Bg,Ay,As,At,k,m,Az,Be,Bh,Bo,h⟩;refine uc 6 k z fun k=>cJ h k z (fun h=>?_) fun h=>?_
   · refine oE h fun Cz Bk h=>gc 16 [iF Bb Bk,eF (Enc.rd_agr Bb (m.a 5 z)) Bk 0] k z fun k=>?_;have Bx:=Enc.ow_agr Az (m.a 1 z);have Ck:=Enc.ow_agr Be (m.a 2 z);have Cy:=Enc.ow_agr Bh (m.a 3 z);have Cc:=Bo.agr (m.a 4 z) (by simp);have m:=(m.sl [4,1,2,3,0,5] z).joinq;have Cv:=obx.fin (x:=(⟨Ad,(⟨Ai,Ac,Ah,Ab⟩:Pallet),Ae,Aj,Ao,Af,Al⟩:Request)) Cc Bx Ck Cy (m.ndF 0 z);refine oE h fun Aa Bv h=>sC k call92 z (c_impl_putLine fu (((⟨Ad,(⟨Ai,Ac,Ah,Ab⟩:Pallet),Ae,Aj,Ao,Af,Al⟩:Request)):Request) _ Cv (m.te2 hT 0 z) Bv) fun Dc Av hR=>?_;obtain ⟨Dm,rfl,e,Ce,Bc⟩:=hR;refine ⟨_,z,fun a k=>?_⟩;have m:=m.mut 0 z e _ (fun b hb=>⟨Ce b hb,Bc.lt b hb⟩) Bc.nd;obtain ⟨Cm,Cp,Br,Cr,Cn,Cs,Bw,rfl,Ci,Ca,Co,_⟩:=Bc;have m:=m.split4;refine oE h fun Df Bt h=>ul 8 k z fun k=>cC k m call93 z (c_impl_mayFollow fu _ _  Bt) fun De e a k m=>ul 3 k z fun k=>cJ h k z (fun h=>?_) fun h=>?_
     · refine uc 2 k z fun k=>sv k z (r_build bt55 k (cs:=#[I 0,I 0,I 0,I 0,I 0,I 0,.slice none 0 0,.slice none 0 0,I 0,.slice none 0 0]) (ps:=[]) z z (by kernel_rfl)) fun a k=>pN 1 k z fun a k=>sT sizeOf55 m 4 Ak 0 k z z fun Dj a k e m Bq=>ul 10 k z fun k=>?_;cases h;exact finR2 k z (RV.cA k z ta55 (Bq.at (m.a 4 z) 0 10 z z z) z) (RV.tmp k z) ⟨_,_,z,m.ext,⟨_,[],_,[],_,[],z,z,(ow_nil _),(ow_nil _),(ow_nil _),by simpa [fps] using (m.sl [] z).nd⟩,(app_fresh (by simp) (app_fresh (by simp) (by simp)))⟩
     refine uc 13 k z fun k=>?_;exact ⟨_,_,_,_,_,_,_,_,_,_,_,_,_,_,_,_,_,_,_,_,_,_,k.p z,m.sl [4,1,2,3,0,5] z,Ci,Ca,Co,Bw,h⟩
   refine uc 11 k z fun k=>bS h k 41 z (fun _ h k=>?_) fun _ h k=>?_
   · refine ul 11 k z fun k=>sv k z (r_build bt55 k (cs:=#[I 0,I 0,I 0,I 0,I 0,I 0,.slice none 0 0,.slice none 0 0,I 0,.slice none 0 0]) (ps:=[]) z z (by kernel_rfl)) fun a k=>pN 1 k z fun a k=>sT sizeOf55 m 0 Ak 0 k z z fun Dk a k e m Cw=>ul 5 k z fun k=>?_;cases h;exact finR2 k z (RV.cA k z ta55 (Cw.at (m.a 0 z) 0 10 z z z) z) (RV.tmp k z) ⟨_,_,z,m.ext,⟨_,[],_,[],_,[],z,z,(ow_nil _),(ow_nil _),(ow_nil _),by simpa [fps] using (m.sl [] z).nd⟩,(app_fresh (by simp) (app_fresh (by simp) (by simp)))⟩
   refine oE h fun Dh Bl h=>gl 8 [iF (Enc.ow_rd Ag) Bl,eF (m.q Ag 5 z) Bl 0] k z fun k=>cJ h k z (fun h=>?_) fun h=>?_
   · refine uc 2 k z fun k=>sv k z (r_build bt55 k (cs:=#[I 0,I 0,I 0,I 0,I 0,I 0,.slice none 0 0,.slice none 0 0,I 0,.slice none 0 0]) (ps:=[]) z z (by kernel_rfl)) fun a k=>pN 1 k z fun a k=>sT sizeOf55 m 0 Ak 0 k z z fun Dl a k e m Bs=>ul 5 k z fun k=>?_;cases h;exact finR2 k z (RV.cA k z ta55 (Bs.at (m.a 0 z) 0 10 z z z) z) (RV.tmp k z) ⟨_,_,z,m.ext,⟨_,[],_,[],_,[],z,z,(ow_nil _),(ow_nil _),(ow_nil _),by simpa [fps] using (m.sl [] z).nd⟩,(app_fresh (by simp) (app_fresh (by simp) (by simp)))⟩
   refine gc 5 [bA m 4 Bo z] k z fun k=>sT sizeOf55 m 0 Ak 0 k z (allc z (allc z (allc z (allc z (allc z (allc z (allc (rd_o (Enc.ow_rd Az)) (allc (rd_o (Enc.ow_rd Be)) (allc z (allc (rd_o (Enc.ow_rd Bh)) alln)))))))))) fun Dg a k e m Cd=>ul 4 k z fun k=>?_;cases h;exact finR2 k z (RV.cA k z ta55 (Cd.at (m.a 0 z) 0 10 z z z) z) (RV.tmp k z) ⟨_,_,z,m.ext,⟨_,Ar,_,Au,_,Ap,z,z,(m.v Az 1 z),(m.v Be 2 z),(m.v Bh 3 z),by simpa [fps] using (m.sl [1,2,3] z).nd⟩,(app_fresh (m.fresh 1 z) (app_fresh (m.fresh 2 z) (m.fresh 3 z)))⟩
 exact ⟨_,_,_,_,_,_,_,_,_,_,_,_,_,_,_,_,_,_,_,_,_,_,k.p z,(((m.addNil (u:=w0)).addNil (u:=w0)).addNil (u:=w0)).sel [5,0,1,2,3,4] z (by decide),(ow_nil _),(ow_nil _),(ow_nil _),By,h⟩
theorem c_impl_TypeById_1 (fu) {w0} (t1 x2) {b3} (Aa:bx w0 b3 [I x2] 3) {r} (h:d_impl_TypeById_1 fu t1 x2 = some r):cS 185 [.agg (Flat.e (t1)).toArray,pt b3] w0 (.bool (r)):=by
 refine eg func185 z ntmps185 z fun k m=>uc 2 k z fun k=>s_box m k z z z z z z fun b5 w7 a k m e Ab=>gl 13 [bF m 0 Ab z,pF (r:=[]) (Aa.at (m.a00 Aa.lt1) 0 1 z z z)] k z fun k=>fS h k m z z
theorem c_slices_IndexFunc_impl_Type_impl_Type (fu) {w0} (Ab f5) {v2 F3} (Aa:rd w0 F3 [v2] Ab) {v6} (Af:FnOk1 Tryz.prog w0 v6 f5) {r} (h:d_slices_IndexFunc_impl_Type_impl_Type fu Ab f5 = some r):cS 184 [v2,v6] w0 (I r):=by
 refine eg func184 z ntmps184 z fun k m=>?_;obtain ⟨Ak,Aj,rfl,Ah,Ae⟩:=Af;refine gc 14 [lF Aa] k z fun k=>lG (fun n a w=>∃ Ac,K 19 [(0,v2),(1,(.func (.func Ak) #[] Aj.toArray)),(7,I ((Ab.length:Int))),(8,I Ac)] a ∧ St [] w0 w [] ∧ d_slices_IndexFunc_impl_Type_impl_Type_L1 fu Ab f5 n Ac = some r) ?_ fu ?_
 · rintro As a Am ⟨Ac,k,m,h⟩;refine uc 6 k z fun k=>cJ h k z (fun h=>?_) fun h=>?_
   · refine o2 h fun Ar Ad Ap Ag h=>gc 17 [iF Aa Ad,eA (m.r Aa) Ad] k z fun k=>s_callv k Ah z z z z z z (Ae _ _ _ _ m.ext z Ag) fun Aq Ao hR=>?_;obtain ⟨rfl,e⟩:=hR;refine ⟨_,z,fun a k=>?_⟩;have m:=m.step e;refine ul 2 k z fun k=>cJ h k z (fun h=>?_) fun h=>?_
     · refine uc 12 k z fun k=>fS h k m z z
     refine uc 8 k z fun k=>?_;exact ⟨_,k.p z,m.sl [] z,h⟩
   refine uc 11 k z fun k=>fS h k m z z
 exact ⟨_,k.p z,m.sl [] z,h⟩
theorem c_impl_TypeById (fu) {w0} (r1 Ac) {Ae F3} (Ah:rd w0 F3 Ae r1) {r} (h:d_impl_TypeById fu r1 Ac = some r):cS 111 [.agg Ae.toArray,I Ac] w0 (.tuple #[.agg (Flat.e r.1).toArray,.bool (r.2)]):=by
 refine eg func111 z ntmps111 z fun k m=>?_;obtain ⟨v6,F7,v8,F9,Am,Ax,rfl,rfl,Bb,Ab,Av⟩:=Ah;refine uc 2 k z fun k=>s_box m k z z z z z z fun Aw Bc a k m e Ad=>s_box m k z z z z z z fun Ai Bd a k m e Ak=>s_alloc m k zeroValue61 z z z z z fun Ba Au a k m e Af=>oE h fun Be Ap h=>gl 8 [bF m 2 Ad z] k z fun k=>cC k m call184 z (c_slices_IndexFunc_impl_Type_impl_Type fu _ _ (m.r Ab) ⟨185,[pt Ai],z,call185,fun w Ar As r e Aq hx=>by subst Aq; have m:=m.step e; exact c_impl_TypeById_1 fu _ _ (Ak.agr (m.a 1 rfl) (by simp)) hx⟩ Ap) fun Az e a k m=>pN 1 k rfl fun a k=>ul 5 k z fun k=>pN 2 k rfl fun a k=>ul 2 k z fun k=>cI h k rfl (fun Al h=>?_) fun Al h=>?_
 · refine uc 2 k z fun k=>sv k z (r_build bt61 k (cs:=#[I 0,I 0,I 0,I 0,I 0,I 0,I 0]) (ps:=[]) z z (by kernel_rfl)) fun a k=>sT sizeOf61 m 0 Af 0 k z z fun Ay a k e m Aj=>ul 5 k z fun k=>?_;cases h;exact finR2 k z (RV.cA k z ta61 (Aj.at (m.a 0 z) 0 7 z z z) z) (RV.tmp k z) ⟨z,m.ext⟩
 refine oE h fun Aa Ag h=>gc 9 [bF m 2 Ad z,iF Ab Ag,eA (m.r Ab) Ag] k z fun k=>sT sizeOf61 m 0 Af 0 k z z fun At a k e m Ao=>ul 4 k z fun k=>?_;cases h;exact finR2 k z (RV.cA k z ta61 (Ao.at (m.a 0 z) 0 7 z z z) z) (RV.tmp k z) ⟨z,m.ext⟩
theorem c_impl_MasterOf (fu) {w0} (r1) {Ac F3} (Ag:rd w0 F3 Ac r1) {r} (h:d_impl_MasterOf fu r1 = some r):cS 153 [.agg Ac.toArray] w0 (.tuple #[.agg (Flat.e r.1).toArray,.bool (r.2)]):=by
 refine eg func153 z ntmps153 z fun k m=>?_;obtain ⟨v5,F6,v7,F8,v9,Aq,rfl,rfl,Ae,Af,Ad⟩:=Ag;refine uc 2 k z fun k=>s_box m k z z z z z z fun Ao Al a k m e Ab=>s_alloc m k zeroValue61 z z z z z fun Ar Ak a k m e Ai=>oE h fun Aa Ah h=>gl 8 [bA m 1 Ab z,bF m 1 Ab z] k z fun k=>cC k m call111 z (c_impl_TypeById fu _ _ (mkRequest (m.r Ae) (m.r Af) (m.r Ad)) Ah) fun Am e a k m=>pN 2 k z fun a k=>sT sizeOf61 m 0 Ai 0 k z z fun Ap a k e m Aj=>ul 4 k z fun k=>?_;cases h;exact finR2 k z (RV.cA k z ta61 (Aj.at (m.a 0 z) 0 7 z z z) z) (RV.tmp k z) ⟨z,m.ext⟩
theorem c_impl_isSide (fu) {w0} (n1) {r} (h:d_impl_isSide fu n1 = some r):cS 247 [I n1] w0 (.bool (r)):=by
 refine eg func247 z ntmps247 z fun k m=>oE h fun x2 Aa h=>uc 8 k z fun k=>cC k m call68 z (c_impl_in fu _ _ _  Aa) fun w5 e a k m=>ul 4 k z fun k=>fS h k m z z
theorem c_impl_PalletOk (fu) {w0} (x1) {r} (h:d_impl_PalletOk fu x1 = some r):cS 187 [.agg (Flat.e (x1)).toArray] w0 (.bool (r)):=by
 refine eg func187 z ntmps187 z fun k m=>uc 2 k z fun k=>s_box m k z z z z z z fun b2 w4 a k m e Ad=>oE h fun x5 Ae h=>gl 7 [bF m 0 Ad z] k z fun k=>cC k m call247 z (c_impl_isSide fu _  Ae) fun w9 e a k m=>pN 1 k z fun a k=>bS h k 6 z (fun _ h k=>?_) fun _ h k=>?_
 · refine oE h fun Aj Af h=>gl 2 [bF m 0 Ad z] k z fun k=>cC k m call247 z (c_impl_isSide fu _  Af) fun Ak e a k m=>pN 2 k z fun a k=>bS h k 11 z (fun _ h k=>?_) fun _ h k=>?_
   · refine oE h fun Ag Ai h=>gl 2 [bF m 0 Ad z] k z fun k=>cC k m call247 z (c_impl_isSide fu _  Ai) fun Al e a k m=>pN 2 k z fun a k=>bS h k 16 z (fun _ h k=>?_) fun _ h k=>?_
     · refine oE h fun Ao Ah h=>gl 2 [bF m 0 Ad z] k z fun k=>cC k m call68 z (c_impl_in fu _ _ _  Ah) fun Am e a k m=>ul 5 k z fun k=>fS h k m z z
     refine ul 8 k z fun k=>fS h k m z z
   refine ul 13 k z fun k=>fS h k m z z
 refine ul 18 k z fun k=>fS h k m z z
theorem c_slices_IndexFunc_impl_Pair_impl_Pair (fu) {w0} (Ab f5) {v2 F3} (Aa:rd w0 F3 [v2] Ab) {v6} (Af:FnOk1 Tryz.prog w0 v6 f5) {r} (h:d_slices_IndexFunc_impl_Pair_impl_Pair fu Ab f5 = some r):cS 278 [v2,v6] w0 (I r):=by
 refine eg func278 z ntmps278 z fun k m=>?_;obtain ⟨Ak,Aj,rfl,Ah,Ae⟩:=Af;refine gc 14 [lF Aa] k z fun k=>lG (fun n a w=>∃ Ac,K 19 [(0,v2),(1,(.func (.func Ak) #[] Aj.toArray)),(7,I ((Ab.length:Int))),(8,I Ac)] a ∧ St [] w0 w [] ∧ d_slices_IndexFunc_impl_Pair_impl_Pair_L1 fu Ab f5 n Ac = some r) ?_ fu ?_
 · rintro As a Am ⟨Ac,k,m,h⟩;refine uc 6 k z fun k=>cJ h k z (fun h=>?_) fun h=>?_
   · refine o2 h fun Ar Ad Ap Ag h=>gc 17 [iF Aa Ad,eA (m.r Aa) Ad] k z fun k=>s_callv k Ah z z z z z z (Ae _ _ _ _ m.ext z Ag) fun Aq Ao hR=>?_;obtain ⟨rfl,e⟩:=hR;refine ⟨_,z,fun a k=>?_⟩;have m:=m.step e;refine ul 2 k z fun k=>cJ h k z (fun h=>?_) fun h=>?_
     · refine uc 12 k z fun k=>fS h k m z z
     refine uc 8 k z fun k=>?_;exact ⟨_,k.p z,m.sl [] z,h⟩
   refine uc 11 k z fun k=>fS h k m z z
 exact ⟨_,k.p z,m.sl [] z,h⟩
theorem c_slices_ContainsFunc_impl_Pair_impl_Pair (fu) {w0} (Ab f5) {v2 F3} (Aa:rd w0 F3 [v2] Ab) {v6} (Af:FnOk1 Tryz.prog w0 v6 f5) {r} (h:d_slices_ContainsFunc_impl_Pair_impl_Pair fu Ab f5 = some r):cS 221 [v2,v6] w0 (.bool (r)):=by
 refine eg func221 z ntmps221 z fun k m=>?_;obtain ⟨Al,Aj,rfl,Ah,Ad⟩:=Af;refine oE h fun Ai Ac h=>uc 9 k z fun k=>cC k m call278 z (c_slices_IndexFunc_impl_Pair_impl_Pair fu _ _ (m.r Aa) ⟨_,_,z,Ah,fun w Ag Ae r e=>Ad w Ag Ae r (m.ext.trans e (by simp))⟩ Ac) fun Ak e a k m=>ul 5 k z fun k=>fS h k m z z
theorem c_impl_BoundsOk_1 (fu) {w0} (p1) {r} (h:d_impl_BoundsOk_1 fu p1 = some r):cS 222 [.agg (Flat.e (p1)).toArray] w0 (.bool (r)):=by
 refine eg func222 z ntmps222 z fun k m=>uc 2 k z fun k=>s_box m k z z z z z z fun b2 w4 a k m e Ab=>oE h fun x5 Ac h=>gl 7 [bF m 0 Ab z] k z fun k=>cC k m call68 z (c_impl_in fu _ _ _  Ac) fun w9 e a k m=>pN 2 k z fun a k=>bS h k 7 z (fun _ h k=>?_) fun _ h k=>?_
 · refine ul 9 k z fun k=>fS h k m z z
 refine oE h fun Af Ad h=>gl 2 [bF m 0 Ab z] k z fun k=>cC k m call68 z (c_impl_in fu _ _ _  Ad) fun Ae e a k m=>ul 6 k z fun k=>fS h k m z z
theorem c_slices_ContainsFunc_impl_Type_impl_Type (fu) {w0} (Ab f5) {v2 F3} (Aa:rd w0 F3 [v2] Ab) {v6} (Af:FnOk1 Tryz.prog w0 v6 f5) {r} (h:d_slices_ContainsFunc_impl_Type_impl_Type fu Ab f5 = some r):cS 160 [v2,v6] w0 (.bool (r)):=by
 refine eg func160 z ntmps160 z fun k m=>?_;obtain ⟨Al,Aj,rfl,Ah,Ad⟩:=Af;refine oE h fun Ai Ac h=>uc 9 k z fun k=>cC k m call184 z (c_slices_IndexFunc_impl_Type_impl_Type fu _ _ (m.r Aa) ⟨_,_,z,Ah,fun w Ag Ae r e=>Ad w Ag Ae r (m.ext.trans e (by simp))⟩ Ac) fun Ak e a k m=>ul 5 k z fun k=>fS h k m z z
theorem c_impl_TypeOk (fu) {w0} (x1) {r} (h:d_impl_TypeOk fu x1 = some r):cS 224 [.agg (Flat.e (x1)).toArray] w0 (.bool (r)):=by
 refine eg func224 z ntmps224 z fun k m=>uc 2 k z fun k=>s_box m k z z z z z z fun b2 w4 a k m e Aa=>oE h fun x5 Ar h=>gl 7 [bF m 0 Aa z] k z fun k=>cC k m call68 z (c_impl_in fu _ _ _  Ar) fun w9 e a k m=>pN 1 k z fun a k=>bS h k 6 z (fun _ h k=>?_) fun _ h k=>?_
 · refine oE h fun At Al h=>gl 2 [bF m 0 Aa z] k z fun k=>cC k m call247 z (c_impl_isSide fu _  Al) fun Aw e a k m=>pN 2 k z fun a k=>bS h k 11 z (fun _ h k=>?_) fun _ h k=>?_
   · refine oE h fun Ah As h=>gl 2 [bF m 0 Aa z] k z fun k=>cC k m call247 z (c_impl_isSide fu _  As) fun Ay e a k m=>pN 2 k z fun a k=>bS h k 16 z (fun _ h k=>?_) fun _ h k=>?_
     · refine oE h fun Aq Ap h=>gl 2 [bF m 0 Aa z] k z fun k=>cC k m call247 z (c_impl_isSide fu _  Ap) fun Au e a k m=>pN 2 k z fun a k=>bS h k 21 z (fun _ h k=>?_) fun _ h k=>?_
       · refine oE h fun Am Ao h=>gl 2 [bF m 0 Aa z] k z fun k=>cC k m call68 z (c_impl_in fu _ _ _  Ao) fun Av e a k m=>pN 2 k z fun a k=>bS h k 26 z (fun _ h k=>?_) fun _ h k=>?_
         · refine oE h fun Ak Ai h=>gl 2 [bF m 0 Aa z] k z fun k=>cC k m call68 z (c_impl_in fu _ _ _  Ai) fun Ax e a k m=>pN 2 k z fun a k=>bS h k 31 z (fun _ h k=>?_) fun _ h k=>?_
           · refine oE h fun Ba Aj h=>gl 2 [bF m 0 Aa z] k z fun k=>cC k m call68 z (c_impl_in fu _ _ _  Aj) fun Az e a k m=>ul 5 k z fun k=>fS h k m z z
           refine ul 8 k z fun k=>fS h k m z z
         refine ul 13 k z fun k=>fS h k m z z
       refine ul 18 k z fun k=>fS h k m z z
     refine ul 23 k z fun k=>fS h k m z z
   refine ul 28 k z fun k=>fS h k m z z
 refine ul 33 k z fun k=>fS h k m z z
theorem c_impl_BoundsOk_2 (fu) {w0} (t1) {r} (h:d_impl_BoundsOk_2 fu t1 = some r):cS 223 [.agg (Flat.e (t1)).toArray] w0 (.bool (r)):=by
 refine eg func223 z ntmps223 z fun k m=>uc 2 k z fun k=>s_box m k z z z z z z fun b2 w4 a k m e Aa=>oE h fun x5 Ab h=>gl 6 [bA m 0 Aa z] k z fun k=>cC k m call224 z (c_impl_TypeOk fu (t1:Typ)  Ab) fun w9 e a k m=>ul 5 k z fun k=>fS h k m z z
theorem c_impl_ItemOk (fu) {w0} (x1) {r} (h:d_impl_ItemOk fu x1 = some r):cS 225 [.agg (Flat.e (x1)).toArray] w0 (.bool (r)):=by
 refine eg func225 z ntmps225 z fun k m=>uc 2 k z fun k=>s_box m k z z z z z z fun b2 w4 a k m e Aa=>oE h fun x5 Ar h=>gl 7 [bF m 0 Aa z] k z fun k=>cC k m call68 z (c_impl_in fu _ _ _  Ar) fun w9 e a k m=>pN 1 k z fun a k=>bS h k 6 z (fun _ h k=>?_) fun _ h k=>?_
 · refine oE h fun At Al h=>gl 2 [bF m 0 Aa z] k z fun k=>cC k m call247 z (c_impl_isSide fu _  Al) fun Aw e a k m=>pN 2 k z fun a k=>bS h k 11 z (fun _ h k=>?_) fun _ h k=>?_
   · refine oE h fun Ah As h=>gl 2 [bF m 0 Aa z] k z fun k=>cC k m call247 z (c_impl_isSide fu _  As) fun Ay e a k m=>pN 2 k z fun a k=>bS h k 16 z (fun _ h k=>?_) fun _ h k=>?_
     · refine oE h fun Aq Ap h=>gl 2 [bF m 0 Aa z] k z fun k=>cC k m call247 z (c_impl_isSide fu _  Ap) fun Au e a k m=>pN 2 k z fun a k=>bS h k 21 z (fun _ h k=>?_) fun _ h k=>?_
       · refine oE h fun Am Ao h=>gl 2 [bF m 0 Aa z] k z fun k=>cC k m call68 z (c_impl_in fu _ _ _  Ao) fun Av e a k m=>pN 2 k z fun a k=>bS h k 26 z (fun _ h k=>?_) fun _ h k=>?_
         · refine oE h fun Ak Ai h=>gl 2 [bF m 0 Aa z] k z fun k=>cC k m call68 z (c_impl_in fu _ _ _  Ai) fun Ax e a k m=>pN 2 k z fun a k=>bS h k 31 z (fun _ h k=>?_) fun _ h k=>?_
           · refine oE h fun Ba Aj h=>gl 2 [bF m 0 Aa z] k z fun k=>cC k m call68 z (c_impl_in fu _ _ _  Aj) fun Az e a k m=>ul 5 k z fun k=>fS h k m z z
           refine ul 8 k z fun k=>fS h k m z z
         refine ul 13 k z fun k=>fS h k m z z
       refine ul 18 k z fun k=>fS h k m z z
     refine ul 23 k z fun k=>fS h k m z z
   refine ul 28 k z fun k=>fS h k m z z
 refine ul 33 k z fun k=>fS h k m z z
theorem c_impl_BoundsOk (fu) {w0} (r1) {Ar F3} (Au:rd w0 F3 Ar r1) {r} (h:d_impl_BoundsOk fu r1 = some r):cS 154 [.agg Ar.toArray] w0 (.bool (r)):=by
 refine eg func154 z ntmps154 z fun k m=>?_;obtain ⟨v5,F6,v7,F8,v9,Cd,rfl,rfl,Am,Ao,Ai⟩:=Au;refine uc 2 k z fun k=>s_box m k z z z z z z fun Aj Ap a k m e Aa=>ul 3 k z fun k=>cg (fun a w=>K 70 [(1,pt Aj)] a ∧ St [] w0 w [([Aj],Ap)] ∧ d_impl_BoundsOk_J2 fu r1 = some r) ?_ ?_
 · rintro a Cb ⟨k,m,h⟩;refine oE h fun Bs Bm h=>gc 5 [bF m 0 Aa z] k z fun k=>cC k m call221 z (c_slices_ContainsFunc_impl_Pair_impl_Pair fu _ _ (m.r Am) ⟨222,[],z,call222,fun w Ck Bw r e Bn hx=>by subst Bn; have m:=m.step e; exact c_impl_BoundsOk_1 fu _  hx⟩ Bm) fun Cc e a k m=>ul 2 k z fun k=>cI h k rfl (fun Bb h=>?_) fun Bb h=>?_
   · refine uc 7 k z fun k=>fS h k m z z
   refine uc 2 k z fun k=>cg (fun a w=>K 70 [(1,pt Aj)] a ∧ St [] w0 w [([Aj],Ap)] ∧ d_impl_BoundsOk_J1 fu r1 = some r) ?_ ?_
   · rintro a Bt ⟨k,m,h⟩;refine gc 15 [bF m 0 Aa z,lF Ai] k z fun k=>lG (fun n a w=>∃ Al Ak,K 70 [(3,I Al),(54,v9),(55,I ((r1.fItems.length:Int))),(56,I Ak)] a ∧ St [] w0 w [] ∧ d_impl_BoundsOk_L1 fu r1 n Al Ak = some r) ?_ fu ?_
     · rintro Cj a Ce ⟨Al,Ak,k,m,h⟩;refine uc 6 k z fun k=>cJ h k z (fun h=>?_) fun h=>?_
       · refine oE h fun Ab Aq h=>gc 8 [iF Ai Aq,eA (m.r Ai) Aq] k z fun k=>s_alloc m k zeroValue59 z z z z z fun Bz Bu a k m e Bi=>sT sizeOf59 m 0 Bi 0 k z z fun Br a k e m As=>oE h fun Ca Bp h=>gl 6 [bA m 0 As z] k z fun k=>cC k m call225 z (c_impl_ItemOk fu (Ab:Item)  Bp) fun Cm e a k m=>ul 3 k z fun k=>cJ h k z (fun h=>?_) fun h=>?_
         · refine uc 12 k z fun k=>fS h k m z z
         refine gc 16 [bF m 0 As z] k z fun k=>?_;exact ⟨_,_,k.p z,m.sl [] z,h⟩
       refine uc 13 k z fun k=>fS h k m z z
     exact ⟨_,_,k.p z,m.sl [] z,h⟩
   refine oE h fun Az Bf h=>gc 5 [bF m 0 Aa z,lF Ao] k z fun k=>cC k m call68 z (c_impl_in fu _ _ _  Bf) fun Cg e a k m=>pN 2 k z fun a k=>bS h k 36 z (fun _ h k=>?_) fun _ h k=>?_
   · refine ul 26 k z fun k=>fS h k m z z
   refine oE h fun Bh Bj h=>gl 2 [bF m 0 Aa z] k z fun k=>cC k m call160 z (c_slices_ContainsFunc_impl_Type_impl_Type fu _ _ (m.r Ao) ⟨223,[],z,call223,fun w Ch Bv r e Ay hx=>by subst Ay; have m:=m.step e; exact c_impl_BoundsOk_2 fu _  hx⟩ Bj) fun Cl e a k m=>pN 2 k rfl fun a k=>bS h k 41 z (fun _ h k=>?_) fun _ h k=>?_
   · refine ul 21 k z fun k=>fS h k m z z
   refine oE h fun Bk At h=>gl 2 [bF m 0 Aa z] k z fun k=>cC k m call68 z (c_impl_in fu _ _ _  At) fun Bx e a k m=>pN 3 k z fun a k=>bS h k 47 z (fun _ h k=>?_) fun _ h k=>?_
   · refine ul 15 k z fun k=>fS h k m z z
   refine gl 7 [bF m 0 Aa z,lF Ai] k z fun k=>cJ h k z (fun h=>?_) fun h=>?_
   · refine uc 7 k z fun k=>fS h k m z z
   refine uc 2 k z fun k=>?_;exact ⟨k.p z,m.sl [0] z,h⟩
 refine oE h fun Ba Bg h=>gc 4 [bF m 0 Aa z] k z fun k=>cC k m call68 z (c_impl_in fu _ _ _  Bg) fun Ci e a k m=>pN 2 k z fun a k=>bS h k 10 z (fun _ h k=>?_) fun _ h k=>?_
 · refine ul 27 k z fun k=>fS h k m z z
 refine oE h fun Ax Bl h=>gl 2 [bA m 0 Aa z] k z fun k=>cC k m call187 z (c_impl_PalletOk fu (r1.fPallet:Pallet)  Bl) fun Bq e a k m=>pN 3 k z fun a k=>bS h k 16 z (fun _ h k=>?_) fun _ h k=>?_
 · refine ul 21 k z fun k=>fS h k m z z
 refine oE h fun Be Av h=>gl 2 [bF m 0 Aa z] k z fun k=>cC k m call68 z (c_impl_in fu _ _ _  Av) fun By e a k m=>pN 3 k z fun a k=>bS h k 22 z (fun _ h k=>?_) fun _ h k=>?_
 · refine ul 15 k z fun k=>fS h k m z z
 refine gl 7 [bF m 0 Aa z,lF Am] k z fun k=>cJ h k z (fun h=>?_) fun h=>?_
 · refine uc 7 k z fun k=>fS h k m z z
 refine uc 2 k z fun k=>?_;exact ⟨k.p z,m.sl [0] z,h⟩
theorem c_impl_namesOk_1 (fu) {w0} (q1 x2) {b3} (Aa:bx w0 b3 [I x2.fId,I x2.fW,I x2.fH,I x2.fD,I x2.fTare,I x2.fGram,I x2.fCost] 61) {r} (h:d_impl_namesOk_1 fu q1 x2 = some r):cS 226 [.agg (Flat.e (q1)).toArray,pt b3] w0 (.bool (r)):=by
 refine eg func226 z ntmps226 z fun k m=>uc 2 k z fun k=>s_box m k z z z z z z fun b5 w7 a k m e Ab=>gl 14 [bF m 0 Ab z,pF (r:=[]) (Aa.at (m.a00 Aa.lt1) 0 1 z z z)] k z fun k=>fS h k m z z
theorem c_impl_namesOk_2 (fu) {w0} (q1 x2) {b3} (Aa:bx w0 b3 [I x2.fId,I x2.fW,I x2.fH,I x2.fD,I x2.fGram,I x2.fClass,I x2.fCount] 59) {r} (h:d_impl_namesOk_2 fu q1 x2 = some r):cS 227 [.agg (Flat.e (q1)).toArray,pt b3] w0 (.bool (r)):=by
 refine eg func227 z ntmps227 z fun k m=>uc 2 k z fun k=>s_box m k z z z z z z fun b5 w7 a k m e Ab=>gl 14 [bF m 0 Ab z,pF (r:=[]) (Aa.at (m.a00 Aa.lt1) 0 1 z z z)] k z fun k=>fS h k m z z
theorem c_slices_IndexFunc_impl_Item_impl_Item (fu) {w0} (Ab f5) {v2 F3} (Aa:rd w0 F3 [v2] Ab) {v6} (Af:FnOk1 Tryz.prog w0 v6 f5) {r} (h:d_slices_IndexFunc_impl_Item_impl_Item fu Ab f5 = some r):cS 230 [v2,v6] w0 (I r):=by
 refine eg func230 z ntmps230 z fun k m=>?_;obtain ⟨Ak,Aj,rfl,Ah,Ae⟩:=Af;refine gc 14 [lF Aa] k z fun k=>lG (fun n a w=>∃ Ac,K 19 [(0,v2),(1,(.func (.func Ak) #[] Aj.toArray)),(7,I ((Ab.length:Int))),(8,I Ac)] a ∧ St [] w0 w [] ∧ d_slices_IndexFunc_impl_Item_impl_Item_L1 fu Ab f5 n Ac = some r) ?_ fu ?_
 · rintro As a Am ⟨Ac,k,m,h⟩;refine uc 6 k z fun k=>cJ h k z (fun h=>?_) fun h=>?_
   · refine o2 h fun Ar Ad Ap Ag h=>gc 17 [iF Aa Ad,eA (m.r Aa) Ad] k z fun k=>s_callv k Ah z z z z z z (Ae _ _ _ _ m.ext z Ag) fun Aq Ao hR=>?_;obtain ⟨rfl,e⟩:=hR;refine ⟨_,z,fun a k=>?_⟩;have m:=m.step e;refine ul 2 k z fun k=>cJ h k z (fun h=>?_) fun h=>?_
     · refine uc 12 k z fun k=>fS h k m z z
     refine uc 8 k z fun k=>?_;exact ⟨_,k.p z,m.sl [] z,h⟩
   refine uc 11 k z fun k=>fS h k m z z
 exact ⟨_,k.p z,m.sl [] z,h⟩
theorem c_slices_ContainsFunc_impl_Item_impl_Item (fu) {w0} (Ab f5) {v2 F3} (Aa:rd w0 F3 [v2] Ab) {v6} (Af:FnOk1 Tryz.prog w0 v6 f5) {r} (h:d_slices_ContainsFunc_impl_Item_impl_Item fu Ab f5 = some r):cS 157 [v2,v6] w0 (.bool (r)):=by
 refine eg func157 z ntmps157 z fun k m=>?_;obtain ⟨Al,Aj,rfl,Ah,Ad⟩:=Af;refine oE h fun Ai Ac h=>uc 9 k z fun k=>cC k m call230 z (c_slices_IndexFunc_impl_Item_impl_Item fu _ _ (m.r Aa) ⟨_,_,z,Ah,fun w Ag Ae r e=>Ad w Ag Ae r (m.ext.trans e (by simp))⟩ Ac) fun Ak e a k m=>ul 5 k z fun k=>fS h k m z z
theorem c_impl_namesOk_3 (fu) {w0} (p1 x2) {v5 F6 v8 F9 Ad Ae b3} (Ab:bx w0 b3 (cR x2 v5 v8 Ad) 55) (Af:rd w0 F6 [v5] x2.fPairs) (Ai:rd w0 F9 [v8] x2.fTypes) (Aj:rd w0 Ae [Ad] x2.fItems) {r} (h:d_impl_namesOk_3 fu p1 x2 = some r):cS 228 [.agg (Flat.e (p1)).toArray,pt b3] w0 (.bool (r)):=by
 refine eg func228 z ntmps228 z fun k m=>uc 2 k z fun k=>s_box m k z z z z z z fun Ah Ag a k m e Ac=>gl 11 [bF m 0 Ac z,pF (r:=[]) (Ab.at (m.a00 Ab.lt1) 5 1 z z z)] k z fun k=>bS h k 9 z (fun _ h k=>?_) fun _ h k=>?_
 · refine ul 10 k z fun k=>fS h k m z z
 refine gl 10 [bF m 0 Ac z,pF (r:=[]) (Ab.at (m.a00 Ab.lt1) 5 1 z z z)] k z fun k=>fS h k m z z
theorem c_impl_namesOk (fu) {w0} (r1) {Aq F3} (Au:rd w0 F3 Aq r1) {r} (h:d_impl_namesOk fu r1 = some r):cS 155 [.agg Aq.toArray] w0 (.bool (r)):=by
 refine eg func155 z ntmps155 z fun k m=>?_;obtain ⟨v5,F6,v7,F8,v9,Ce,rfl,rfl,Ai,Aa,Ab⟩:=Au;refine uc 2 k z fun k=>s_box m k z z z z z z fun Af Am a k m e Ac=>gl 13 [bF m 0 Ac z,lF Aa] k z fun k=>lG (fun n a w=>∃ Al,K 59 [(1,pt Af),(10,v7),(11,I ((r1.fTypes.length:Int))),(12,I Al)] a ∧ St [] w0 w [([Af],Am)] ∧ d_impl_namesOk_L2 fu r1 n Al = some r) ?_ fu ?_
 · rintro Cs a Cg ⟨Al,k,m,h⟩;refine uc 6 k z fun k=>cJ h k z (fun h=>?_) fun h=>?_
   · refine oE h fun Ag At h=>gc 9 [iF Aa At,eA (m.r Aa) At] k z fun k=>s_alloc m k zeroValue61 z z z z z fun Ax Bw a k m e Bi=>pN 1 k z fun a k=>sT sizeOf61 m 0 Bi 0 k z z fun Bs a k e m Bj=>oE h fun Ct Bk h=>gl 7 [bF m 1 Ac z] k z fun k=>s_slTo Aa Bk k ts52 z z z z z z fun Bq a k Ao=>pN 1 k z fun a k=>oE h fun Cb Be h=>cC k m call160 z (c_slices_ContainsFunc_impl_Type_impl_Type fu _ _ (m.r Ao) ⟨226,[pt Ax],z,call226,fun w Cm Ck r e Bc hx=>by subst Bc; have m:=m.step e; exact c_impl_namesOk_1 fu _ _ (Bj.agr (m.a 0 rfl) (by simp)) hx⟩ Be) fun Cj e a k m=>ul 2 k z fun k=>cI h k rfl (fun Ba h=>?_) fun Ba h=>?_
     · refine uc 11 k z fun k=>fS h k m z z
     refine uc 8 k z fun k=>?_;exact ⟨_,k.p z,m.sl [1] z,h⟩
   refine gc 15 [bF m 0 Ac z,lF Ab] k z fun k=>lG (fun n a w=>∃ Ah,K 59 [(1,pt Af),(25,v9),(26,I ((r1.fItems.length:Int))),(27,I Ah)] a ∧ St [] w0 w [([Af],Am)] ∧ d_impl_namesOk_L1 fu r1 n Ah = some r) ?_ fu ?_
   · rintro Bb a Bz ⟨Ah,k,m,h⟩;refine uc 6 k z fun k=>cJ h k z (fun h=>?_) fun h=>?_
     · refine uc 2 k z fun k=>cg (fun a w=>K 59 [(1,pt Af),(25,v9),(26,I ((r1.fItems.length:Int))),(27,I Ah)] a ∧ St [] w0 w [([Af],Am)] ∧ d_impl_namesOk_J1 fu (d_impl_namesOk_L1 fu r1 Bb) Ah = some r) ?_ ?_
       · rintro a Bx ⟨k,m,h⟩;refine uc 5 k z fun k=>?_;exact ⟨_,k.p z,m.sl [0] z,h⟩
       refine oE h fun Ad As h=>gc 6 [iF Ab As,eA (m.r Ab) As] k z fun k=>s_alloc m k zeroValue59 z z z z z fun Bo Br a k m e Bl=>pN 1 k z fun a k=>sT sizeOf59 m 0 Bl 0 k z z fun Cr a k e m Ar=>gl 10 [bF m 0 Ar z,bF m 1 Ac z] k z fun k=>bS h k 37 z (fun _ h k=>?_) fun _ h k=>?_
       · refine ul 21 k z fun k=>fS h k m z z
       refine oE h fun Cl Ay h=>gl 3 [bF m 1 Ac z] k z fun k=>s_slTo Ab Ay k ts53 z z z z z z fun Ca a k Ap=>pN 1 k z fun a k=>oE h fun By Bg h=>cC k m call157 z (c_slices_ContainsFunc_impl_Item_impl_Item fu _ _ (m.r Ap) ⟨227,[pt Bo],z,call227,fun w Bp Cd r e Bf hx=>by subst Bf; have m:=m.step e; exact c_impl_namesOk_2 fu _ _ (Ar.agr (m.a 0 rfl) (by simp)) hx⟩ Bg) fun Cq e a k m=>pN 1 k rfl fun a k=>ul 2 k z fun k=>cI h k rfl (fun Bm h=>?_) fun Bm h=>?_
       · refine uc 11 k z fun k=>fS h k m z z
       refine uc 3 k z fun k=>?_;exact ⟨k.p z,m.sl [1] z,h⟩
     refine oE h fun Ae Az h=>gc 8 [bA m 0 Ac z] k z fun k=>cC k m call153 z (c_impl_MasterOf fu _ (mkRequest (m.r Ai) (m.r Aa) (m.r Ab)) Az) fun Bt e a k m=>pN 3 k z fun a k=>s_alloc m k zeroValue61 z z z z z fun Cn Co a k m e Bn=>sT sizeOf61 m 0 Bn 0 k z z fun Bu a k e m Bv=>ul 7 k z fun k=>bS h k 52 z (fun _ h k=>?_) fun _ h k=>?_
     · refine oE h fun Ch Av h=>gl 3 [bF m 1 Ac z] k z fun k=>cC k m call221 z (c_slices_ContainsFunc_impl_Pair_impl_Pair fu _ _ (m.r Ai) ⟨228,[pt Af],z,call228,fun w Cc Cp r e Aw hx=>by subst Aw; have m:=m.step e; exact c_impl_namesOk_3 fu _ _ (Ac.agr (m.a 1 rfl) (by simp)) (m.r Ai) (m.r Aa) (m.r Ab) hx⟩ Av) fun Ci e a k m=>pN 3 k rfl fun a k=>ul 3 k z fun k=>fS h k m rfl rfl
     refine ul 10 k z fun k=>fS h k m z z
   exact ⟨_,k.p z,m.sl [0] z,h⟩
 exact ⟨_,k.p z,m.sl [0] z,h⟩
theorem c_slices_Index_impl_Pair_impl_Pair (fu) {w0} (Ab v5) {v2 F3} (Aa:rd w0 F3 [v2] Ab) {r} (h:d_slices_Index_impl_Pair_impl_Pair fu Ab v5 = some r):cS 302 [v2,.agg (Flat.e (v5)).toArray] w0 (I r):=by
 refine eg func302 z ntmps302 z fun k m=>uc 2 k z fun k=>s_box m k z z z z z z fun b6 w9 a k m e Af=>gl 12 [lF Aa] k z fun k=>lG (fun n a w=>∃ Ac,K 19 [(0,v2),(3,pt b6),(7,I ((Ab.length:Int))),(8,I Ac)] a ∧ St [] w0 w [([b6],w9)] ∧ d_slices_Index_impl_Pair_impl_Pair_L1 fu Ab v5 n Ac = some r) ?_ fu ?_
 · rintro Aj a Ak ⟨Ac,k,m,h⟩;refine uc 6 k z fun k=>cJ h k z (fun h=>?_) fun h=>?_
   · refine uc 11 k z fun k=>d_go [] mixo m z fun Ah hMd=>?_;have m:=hMd;have s:=Ext.refl ([]:List Nat) Ah;refine oE h fun Ai Ad h=>dr [1,2,0,3,4] 5 [bA hMd 0 Af z,iF Aa Ad,eA (hMd.r Aa) Ad] k z s fun k=>dT k 5 z z s (fun w s=>r_eqs seq98 (x:=v5) (y:=Ai) k z z z z z) fun a k=>dD ((nm_then ?_));refine cJ h k z (fun h=>?_) fun h=>?_
     · refine uc 12 k z fun k=>fS h k m z z
     refine uc 8 k z fun k=>?_;exact ⟨_,k.p z,m.sl [0] z,h⟩
   refine uc 11 k z fun k=>fS h k m z z
 exact ⟨_,k.p z,m.sl [0] z,h⟩
theorem c_slices_Contains_impl_Pair_impl_Pair (fu) {w0} (Ab v5) {v2 F3} (Aa:rd w0 F3 [v2] Ab) {r} (h:d_slices_Contains_impl_Pair_impl_Pair fu Ab v5 = some r):cS 279 [v2,.agg (Flat.e (v5)).toArray] w0 (.bool (r)):=by
 refine eg func279 z ntmps279 z fun k m=>uc 2 k z fun k=>s_box m k z z z z z z fun b6 w9 a k m e Ac=>oE h fun Af Ad h=>gl 7 [bA m 0 Ac z] k z fun k=>cC k m call302 z (c_slices_Index_impl_Pair_impl_Pair fu _ (v5:Pair) (m.r Aa) Ad) fun Ae e a k m=>ul 5 k z fun k=>fS h k m z z
theorem c_impl_Beside (fu) {w0} (Ab a5 b6) {v2 F3} (Aa:rd w0 F3 [v2] Ab) {r} (h:d_impl_Beside fu Ab a5 b6 = some r):cS 229 [v2,I a5,I b6] w0 (.bool (r)):=by
 refine eg func229 z ntmps229 z fun k m=>uc 10 k z fun k=>sv k z (r_build bt98 k (cs:=#[I a5,I b6]) (ps:=[(0,.tmp 8),(1,.tmp 9)]) z z (by kernel_rfl)) fun a k=>oE h fun x7 Ac h=>cC k m call279 z (c_slices_Contains_impl_Pair_impl_Pair fu _ (((⟨a5,b6⟩:Pair)):Pair) (m.r Aa) Ac) fun Ad e a k m=>ul 4 k z fun k=>fS h k m z z
theorem c_impl_TableOk (fu) {w0} (Ad Aa) {v2 F3} (Ac:rd w0 F3 [v2] Ad) {r} (h:d_impl_TableOk fu Ad Aa = some r):cS 156 [v2,I Aa] w0 (.bool (r)):=by
 refine eg func156 z ntmps156 z fun k m=>oE h fun x6 Ag h=>uc 9 k z fun k=>cC k m call68 z (c_impl_in fu _ _ _  Ag) fun w9 e a k m=>ul 3 k z fun k=>cJ h k z (fun h=>?_) fun h=>?_
 · refine uc 7 k z fun k=>fS h k m z z
 refine uc 10 k z fun k=>lG (fun n a w=>∃ Ab,K 34 [(0,v2),(1,I Aa),(10,I Aa),(11,I Ab)] a ∧ St [] w0 w [] ∧ d_impl_TableOk_L2 fu Ad Aa n Ab = some r) ?_ fu ?_
 · rintro Aj a As ⟨Ab,k,m,h⟩;refine uc 6 k z fun k=>cJ h k z (fun h=>?_) fun h=>?_
   · refine oE h fun Aw Ah h=>uc 16 k z fun k=>cC k m call229 z (c_impl_Beside fu _ _ _ (m.r Ac) Ah) fun Ax e a k m=>ul 3 k z fun k=>cJ h k z (fun h=>?_) fun h=>?_
     · refine uc 12 k z fun k=>fS h k m z z
     refine uc 9 k z fun k=>lG (fun n a w=>∃ Ae,K 34 [(0,v2),(1,I Aa),(5,I Ab),(10,I Aa),(11,I Ab),(19,I Aa),(20,I Ae)] a ∧ St [] w0 w [] ∧ d_impl_TableOk_L1 fu (d_impl_TableOk_L2 fu Ad Aa Aj) Ad Aa Ab n Ae = some r) ?_ fu ?_
     · rintro Ay a Aq ⟨Ae,k,m,h⟩;refine uc 6 k z fun k=>cJ h k z (fun h=>?_) fun h=>?_
       · refine oE h fun At Ak h=>uc 15 k z fun k=>cC k m call229 z (c_impl_Beside fu _ _ _ (m.r Ac) Ak) fun Ar e a k m=>pN 3 k z fun a k=>oE h fun Av Af h=>cC k m call229 z (c_impl_Beside fu _ _ _ (m.r Ac) Af) fun Au e a k m=>sv k z (r_neb k underlying4 z z z) fun a k=>ul 2 k z fun k=>cJ h k z (fun h=>?_) fun h=>?_
         · refine uc 15 k z fun k=>fS h k m z z
         refine uc 8 k z fun k=>?_;exact ⟨_,k.p z,m.sl [] z,h⟩
       refine uc 11 k z fun k=>?_;exact ⟨_,k.p z,m.sl [] z,h⟩
     exact ⟨_,k.p z,m.sl [] z,h⟩
   refine uc 11 k z fun k=>fS h k m z z
 exact ⟨_,k.p z,m.sl [] z,h⟩
theorem c_slices_Sort_int_int (fu:Nat) {w0:World} (x1:List Int) {v2:Value} {F3:List Nat} (Aa:ow w0 F3 [v2] x1) {r:List Int}
    (h:d_slices_Sort_int_int fu x1 = some r) :
    Calls Tryz.prog 97 #[v2] w0 fun e w=>∃ H:List Nat,e = .returned (.tuple #[]) ∧ Ext F3 w0 w ∧ (∀ b ∈ H,b ∈ F3 ∨ w0.heap.size ≤ b) ∧ ow w H [v2] r :=
  (c_sortInt (fun blk off cap zs w=>Tryz.slices_Sort_int blk off cap zs w) (fun p cap w=>Tryz.slices_Sort_int_none p cap w) x1 Aa h).mono fun e w ⟨h1,h2,h3⟩=>⟨_,h1,h2,fun b hb=>.inl hb,h3⟩

theorem c_impl_Fits (fu) {w0} (x1 t2) {r} (h:d_impl_Fits fu x1 t2 = some r):cS 159 [.agg (Flat.e (x1)).toArray,.agg (Flat.e (t2)).toArray] w0 (.bool (r)):=by
 refine eg func159 z ntmps159 z fun k m=>uc 2 k z fun k=>s_box m k z z z z z z fun b3 w5 a k m e Ag=>s_box m k z z z z z z fun b6 w9 a k m e Af=>ul 3 k z fun k=>cg (fun a w=>∃ Ao Am Al Ai Ak Ap Aj Ah,K 57 [(2,pt b3),(3,pt b6),(5,Am),(6,Ap)] a ∧ St [] w0 w [([b3],w5),([b6],w9),(Al,Ai),(Aj,Ah)] ∧ ow Ai Al [Am] Ao ∧ ow Ah Aj [Ap] Ak ∧ d_impl_Fits_J1 fu x1 t2 Ao Ak = some r) ?_ ?_
 · rintro a Ct ⟨Ao,Am,Al,Ai,Ak,Ap,Aj,Ah,k,m,Bn,By,h⟩;refine oE h fun Ck Bw h=>uc 3 k z fun k=>sC k call97 z (c_slices_Sort_int_int fu _ (m.v Bn 2 z) Bw) fun Cq Ci hR=>?_;obtain ⟨Cp,rfl,e,Bu,Ab⟩:=hR;refine ⟨_,z,fun a k=>?_⟩;have m:=m.mut 2 z e _ (fun b hb=>⟨Bu b hb,Enc.rd_lt (Enc.ow_rd Ab) b hb⟩) (Enc.ow_nd Ab);refine oE h fun Cs Bs h=>ul 5 k z fun k=>sC k call97 z (c_slices_Sort_int_int fu _ (m.v By 3 z) Bs) fun Ch Cv hR=>?_;obtain ⟨Co,rfl,e,Bz,Aa⟩:=hR;refine ⟨_,z,fun a k=>?_⟩;have m:=m.mut 3 z e _ (fun b hb=>⟨Bz b hb,Enc.rd_lt (Enc.ow_rd Aa) b hb⟩) (Enc.ow_nd Aa);refine ul 3 k z fun k=>d_go [] mixo m z fun Cb hMd=>?_;have m:=hMd;have s:=Ext.refl ([]:List Nat) Cb;refine o2 h fun Bt Az Bv At h=>dr [0,3,1,2,4,5,6,7] 8 [iF (Enc.ow_rd Ab) Az,eF (hMd.q Ab 2 z) Az 0,iF (Enc.ow_rd Aa) At,eF (hMd.q Aa 3 z) At 0] k z s fun k=>bS h k 32 z (fun _ h k=>?_) fun _ h k=>?_
   · refine o2 h fun Bp Au Cd Ay h=>dr [8,11,9,10,12,13,14,15,16] 9 [iF (Enc.ow_rd Ab) Au,eF (hMd.q Ab 2 z) Au 0,iF (Enc.ow_rd Aa) Ay,eF (hMd.q Aa 3 z) Ay 0] k z s fun k=>bS h k 41 z (fun _ h k=>?_) fun _ h k=>?_
     · refine o2 h fun Bi As Bh Av h=>dr [17,20,18,19,21,22,23,24,25] 9 [iF (Enc.ow_rd Ab) As,eF (hMd.q Ab 2 z) As 0,iF (Enc.ow_rd Aa) Av,eF (hMd.q Aa 3 z) Av 0] k z s fun k=>bS h k 50 z (fun _ h k=>?_) fun _ h k=>?_
       · refine dr [26,27,28,29,30,31,32] 7 [bF hMd 0 Ag z,bF hMd 1 Af z] k z s fun k=>dD ?_;refine (nm_then ?_);refine wp_ret (fS h k m z z)
       refine dM [26,27,28,29,30,31,32] 7 z k z s fun a k=>dD ?_;refine (nm_then ?_);refine wp_ret (fS h k m z z)
     refine dM [17,18,19,20,21,22,23,24,25,26,27,28,29,30,31,32] 16 z k z s fun a k=>dD ?_;refine (nm_then ?_);refine wp_ret (fS h k m z z)
   refine dM [8,9,10,11,12,13,14,15,16,17,18,19,20,21,22,23,24,25,26,27,28,29,30,31,32] 25 z k z s fun a k=>dD ?_;refine (nm_then ?_);refine wp_ret (fS h k m z z)
 refine d_go [] mixo m z fun Bl hMd=>?_;have m:=hMd;have s:=Ext.refl ([]:List Nat) Bl;refine dr [0,1,2,3,4,5,7,8,9,10,11,12] 12 [bF hMd 1 Ag z,bF hMd 1 Ag z,bF hMd 1 Ag z,bF hMd 0 Af z,bF hMd 0 Af z,bF hMd 0 Af z] k z s fun k=>dG2 6 13 (by kernel_rfl) z z ?_ ?_
 · refine s_bsN te35 m k z z z z z z z (by decide) z (by exact fC z (fC z (fC z fN))) fun Aw Bc Ce a k m e Bb Bo=>?_;have Cl:=lo1 (Nat.le_trans s.size Bo);have Be:=ow_bx Bb ([x1.fW,x1.fH,x1.fD]:List Int) z z z;refine ns s e fun s=>dM [14] 1 z k z s fun a k=>dG 13 z (s_bsN te35 m k z z z z z z z (by decide) z (by exact fC z (fC z (fC z fN))) fun Ax Bg Cn a k m e Br Cc=>?_);have Cu:=lo1 (Nat.le_trans s.size Cc);have Bf:=ow_bx Br ([t2.fW,t2.fH,t2.fD]:List Int) z z z;refine ns s e fun s=>dM [15] 1 z k z s fun a k=>dD ((nm_then ?_));exact ⟨_,_,_,_,_,_,_,_,k.p z,m.sl [3,2,1,0] z,Be,Bf,h⟩
 refine s_bsN te35 m k z z z z z z z (by decide) z (by exact fC z (fC z (fC z fN))) fun Ar Bd Cj a k m e Ca Bx=>?_;have Cr:=lo1 (Nat.le_trans s.size Bx);have Bk:=ow_bx Ca ([t2.fW,t2.fH,t2.fD]:List Int) z z z;refine ns s e fun s=>dG 6 z (s_bsN te35 m k z z z z z z z (by decide) z (by exact fC z (fC z (fC z fN))) fun Aq Ba Cm a k m e Bj Bm=>?_);have Cg:=lo1 (Nat.le_trans s.size Bm);have Bq:=ow_bx Bj ([x1.fW,x1.fH,x1.fD]:List Int) z z z;refine ns s e fun s=>dM [14,15] 2 z k z s fun a k=>dD ((nm_then ?_));exact ⟨_,_,_,_,_,_,_,_,k.p z,m.sl [3,2,0,1] z,Bq,Bk,h⟩
theorem c_impl_Class_1 (fu) {w0} (x1 x2) {b3} (Aa:bx w0 b3 [I x2.fId,I x2.fW,I x2.fH,I x2.fD,I x2.fTare,I x2.fGram,I x2.fCost] 61) {r} (h:d_impl_Class_1 fu x1 x2 = some r):cS 158 [.agg (Flat.e (x1)).toArray,pt b3] w0 (.bool (r)):=by
 refine eg func158 z ntmps158 z fun k m=>uc 2 k z fun k=>s_box m k z z z z z z fun b5 w7 a k m e Ac=>gl 6 [bA m 0 Ac z] k z fun k=>sv k z (r_ldA ta61 (Aa.at (m.a00 Aa.lt1) 0 7 z z z) z k z z) fun a k=>oE h fun x8 Ab h=>cC k m call159 z (c_impl_Fits fu (x1:Item) (x2:Typ)  Ab) fun Ad e a k m=>ul 5 k z fun k=>fS h k m z z
theorem c_impl_Class_2 (fu) {w0} (t1 x2) {b3} (Aa:bx w0 b3 [I x2.fW,I x2.fD,I x2.fH,I x2.fGram] 50) {r} (h:d_impl_Class_2 fu t1 x2 = some r):cS 161 [.agg (Flat.e (t1)).toArray,pt b3] w0 (.bool (r)):=by
 refine eg func161 z ntmps161 z fun k m=>uc 2 k z fun k=>s_box m k z z z z z z fun b5 w7 a k m e Ad=>gl 11 [bF m 0 Ad z,pF (r:=[]) (Aa.at (m.a00 Aa.lt1) 0 1 z z z)] k z fun k=>bS h k 9 z (fun _ h k=>?_) fun _ h k=>?_
 · refine ul 27 k z fun k=>fS h k m z z
 refine gl 7 [bF m 0 Ad z,pF (r:=[]) (Aa.at (m.a00 Aa.lt1) 1 1 z z z)] k z fun k=>bS h k 16 z (fun _ h k=>?_) fun _ h k=>?_
 · refine ul 20 k z fun k=>fS h k m z z
 refine gl 7 [bF m 0 Ad z,pF (r:=[]) (Aa.at (m.a00 Aa.lt1) 2 1 z z z)] k z fun k=>bS h k 23 z (fun _ h k=>?_) fun _ h k=>?_
 · refine ul 13 k z fun k=>fS h k m z z
 refine gl 13 [bF m 0 Ad z,bF m 0 Ad z,pF (r:=[]) (Aa.at (m.a00 Aa.lt1) 3 1 z z z)] k z fun k=>fS h k m z z
theorem c_impl_Class (fu) {w0} (r1) {Af F3} (Ag:rd w0 F3 Af r1) {r} (h:d_impl_Class fu r1 = some r):cS 91 [.agg Af.toArray] w0 (I r):=by
 refine eg func91 z ntmps91 z fun k m=>?_;obtain ⟨v5,F6,v7,F8,v9,Bo,rfl,rfl,Ab,Ad,Ac⟩:=Ag;refine uc 2 k z fun k=>s_box m k z z z z z z fun Bf Bd a k m e Aa=>oE h fun Ae Au h=>gl 6 [bA m 0 Aa z] k z fun k=>cC k m call153 z (c_impl_MasterOf fu _ (mkRequest (m.r Ab) (m.r Ad) (m.r Ac)) Au) fun Bn e a k m=>pN 3 k z fun a k=>s_alloc m k zeroValue61 z z z z z fun Ar Be a k m e Ax=>sT sizeOf61 m 0 Ax 0 k z z fun Bj a k e m Aw=>gl 7 [bA m 1 Aa z] k z fun k=>s_alloc m k zeroValue50 z z z z z fun Am Bg a k m e Ah=>sT sizeOf50 m 0 Ah 0 k z z fun Bk a k e m Ap=>oE h fun Bh Al h=>gl 7 [bA m 2 Aa z] k z fun k=>cC k m call154 z (c_impl_BoundsOk fu _ (mkRequest (m.r Ab) (m.r Ad) (m.r Ac)) Al) fun Br e a k m=>ul 4 k z fun k=>?_;refine cJ h k z (fun h=>?_) fun h=>?_
 · refine uc 8 k z fun k=>fS h k m z z
 refine oE h fun Bv Ao h=>gc 3 [bA m 2 Aa z] k z fun k=>cC k m call155 z (c_impl_namesOk fu _ (mkRequest (m.r Ab) (m.r Ad) (m.r Ac)) Ao) fun Bu e a k m=>ul 4 k z fun k=>cJ h k z (fun h=>?_) fun h=>?_
 · refine uc 8 k z fun k=>fS h k m z z
 refine oE h fun Bc As h=>gc 6 [bF m 2 Aa z,bF m 2 Aa z] k z fun k=>cC k m call156 z (c_impl_TableOk fu _ _ (m.r Ab) As) fun Bb e a k m=>ul 4 k z fun k=>cJ h k z (fun h=>?_) fun h=>?_
 · refine uc 8 k z fun k=>fS h k m z z
 refine oE h fun Bp Ai h=>gc 5 [bF m 2 Aa z] k z fun k=>cC k m call157 z (c_slices_ContainsFunc_impl_Item_impl_Item fu _ _ (m.r Ac) ⟨158,[pt Ar],z,call158,fun w Bl Bm r e Aj hx=>by subst Aj; have m:=m.step e; exact c_impl_Class_1 fu _ _ (Aw.agr (m.a 1 rfl) (by simp)) hx⟩ Ai) fun Bi e a k m=>pN 1 k rfl fun a k=>ul 2 k z fun k=>cI h k rfl (fun Ak h=>?_) fun Ak h=>?_
 · refine uc 8 k z fun k=>fS h k m z z
 refine oE h fun Bt At h=>gc 5 [bF m 2 Aa z] k z fun k=>cC k m call160 z (c_slices_ContainsFunc_impl_Type_impl_Type fu _ _ (m.r Ad) ⟨161,[pt Am],z,call161,fun w Bs Bq r e Az hx=>by subst Az; have m:=m.step e; exact c_impl_Class_2 fu _ _ (Ap.agr (m.a 0 rfl) (by simp)) hx⟩ At) fun Bw e a k m=>pN 1 k rfl fun a k=>ul 2 k z fun k=>cI h k rfl (fun Ay h=>?_) fun Ay h=>?_
 · refine uc 8 k z fun k=>fS h k m z z
 refine uc 9 k z fun k=>fS h k m z z
theorem c_impl_ClassOf (fu) {w0} (hT:Te Tryz.prog w0) (Ae) {r} (h:d_impl_ClassOf fu Ae = some r):cS 50 [.string (Ae)] w0 (I r):=by
 refine eg func50 z ntmps50 z fun k m=>oE h fun x2 Ak h=>uc 8 k z fun k=>sC k call51 z (c_impl_ReadOrder fu (m.te hT) _  Ak) fun e4 w5 hR=>?_;obtain ⟨Ar,F6,rfl,e,Aa,Ao⟩:=hR;refine ⟨_,z,fun a k=>?_⟩;have m:=m.nw e Ao Aa;obtain ⟨Ag,Aq,Ac,Av,Ab,As,rfl,rfl,Ah,Ad,Af,_⟩:=Aa;have m:=m.split2;have m:=m.split2at1;refine pN 3 k z fun a k=>s_alloc m k zeroValue55 z z z z z fun Aw Ax a k m e Aj=>sT sizeOf55 m 0 Aj 0 k z (allc z (allc z (allc z (allc z (allc z (allc z (allc (rd_o (Enc.ow_rd Ah)) (allc (rd_o (Enc.ow_rd Ad)) (allc z (allc (rd_o (Enc.ow_rd Af)) alln)))))))))) fun Ap a k e m Ai=>ul 10 k z fun k=>cJ h k z (fun h=>?_) fun h=>?_
 · refine uc 7 k z fun k=>fS h k m z z
 refine oE h fun At Al h=>gc 5 [bA m 0 Ai z] k z fun k=>cC k m call91 z (c_impl_Class fu _ (mkRequest (m.q Ah 1 z) (m.q Ad 2 z) (m.q Af 3 z)) Al) fun Au e a k m=>ul 4 k z fun k=>fS h k m z z
theorem c_impl_sound (fu) {w0} (r1) {Aa F3} (Ae:rd w0 F3 Aa r1) {r} (h:d_impl_sound fu r1 = some r):cS 56 [.agg Aa.toArray] w0 (.bool (r)):=by
 refine eg func56 z ntmps56 z fun k m=>?_;obtain ⟨v5,F6,v7,F8,v9,Ak,rfl,rfl,Ac,Ad,Ab⟩:=Ae;refine uc 2 k z fun k=>s_box m k z z z z z z fun Aj Ai a k m e Af=>oE h fun Al Ag h=>gl 6 [bA m 0 Af z] k z fun k=>cC k m call91 z (c_impl_Class fu _ (mkRequest (m.r Ac) (m.r Ad) (m.r Ab)) Ag) fun Ah e a k m=>ul 5 k z fun k=>fS h k m z z
theorem c_slices_Clone_int_int (fu) {w0} (Ac) {v2 F3} (Aa:rd w0 F3 [v2] Ac) {r} (h:d_slices_Clone_int_int fu Ac = some r):cL 254 [v2] w0 r:=by
 refine eg func254 z ntmps254 z fun k m=>uc 9 k z fun k=>?_;obtain ⟨Af,Ae,Aj⟩:=r_nilq Aa;refine sv k z (Aj k underlying35 z z z) fun a k=>ul 2 k z fun k=>c_cond (b:=Af) k z (fun Ab=>?_) (fun Ab=>?_)
 · have Ad:=Ae Ab;rw [Ad] at h;have h:some (([]:List Int)) = some r:=h;refine uc 7 k z fun k=>?_;cases h;exact finR1 k z (RV.tmp k z) ⟨_,[],z,m.ext,(ow_nil _),(by simp)⟩
 refine uc 4 k z fun k=>sB te35 m k z (by exact fN) fun As Ar Ao a k m e Ak=>?_;have Ah:=ow_bx Ak ([]:List Int) z z z;refine pN 1 k z fun a k=>oE h fun Am Ai h=>s_appF Ai te35 z m 0 Ah (News.rd (m.r Aa)) z z k z z z z z z z fun Aq Ag Ap a k e m Al=>ul 4 k z fun k=>?_;cases h;exact finR1 k z (RV.tmp k z) ⟨_,Ag,z,m.ext,(m.v Al 0 z),(m.fresh 0 z)⟩
theorem c_slices_Compact_int_int (fu:Nat) {w0:World} (x1:List Int) {v2:Value} {F3:List Nat} (Aa:ow w0 F3 [v2] x1) {r:List Int}
    (h:d_slices_Compact_int_int fu x1 = some r) :
    Calls Tryz.prog 255 #[v2] w0 fun e w=>∃ (v0:Value) (G0:List Nat),e = .returned v0 ∧ Ext F3 w0 w ∧ ow w G0 [v0] r ∧ (∀ b ∈ G0,b ∈ F3 ∨ w0.heap.size ≤ b) :=
  c_compactInt (fun blk off cap zs w=>Tryz.slices_Compact_int blk off cap zs w) (fun p cap w=>Tryz.slices_Compact_int_empty p cap w) x1 Aa h

theorem c_impl_kinds (fu) {w0} (Ad) {v2 F3} (Ae:rd w0 F3 [v2] Ad) {r} (h:d_impl_kinds fu Ad = some r):cL 179 [v2] w0 r:=by
 refine eg func179 z ntmps179 z fun k m=>oE h fun x5 Am h=>uc 8 k z fun k=>sL k m call254 z (c_slices_Clone_int_int fu _ (m.r Ae) Am) fun w9 Aq Al Ac k m=>oE h fun Ao Ah h=>ul 6 k z fun k=>sC k call97 z (c_slices_Sort_int_int fu _ (m.v Ac 0 z) Ah) fun At Aw hR=>?_;obtain ⟨Av,rfl,e,Ak,Aa⟩:=hR;refine ⟨_,z,fun a k=>?_⟩;have m:=m.mut 0 z e _ (fun b hb=>⟨Ak b hb,Enc.rd_lt (Enc.ow_rd Aa) b hb⟩) (Enc.ow_nd Aa);refine oE h fun Ap Ag h=>ul 5 k z fun k=>sC k call255 z (c_slices_Compact_int_int fu _ (m.v Aa 0 z) Ag) fun Ar Au hR=>?_;obtain ⟨As,Af,rfl,e,Ab,Aj⟩:=hR;refine ⟨_,z,fun a k=>?_⟩;have m:=m.mut 0 z e _ (fun b hb=>⟨Aj b hb,Enc.rd_lt (Enc.ow_rd Ab) b hb⟩) (Enc.ow_nd Ab);refine ul 4 k z fun k=>?_;cases h;exact finR1 k z (RV.tmp k z) ⟨_,Af,z,m.ext,(m.v Ab 0 z),(m.fresh 0 z)⟩
theorem c_impl_Present (fu) {w0} (r1) {Ao F3} (Ar:rd w0 F3 Ao r1) {r} (h:d_impl_Present fu r1 = some r):cL 110 [.agg Ao.toArray] w0 r:=by
 refine eg func110 z ntmps110 z fun k m=>?_;obtain ⟨v5,F6,v7,F8,v9,Bw,rfl,rfl,Ap,Aq,Ab⟩:=Ar;refine uc 2 k z fun k=>s_box m k z z z z z z fun Bm Bk a k m e Aj=>oE h fun Bn Bf h=>gl 7 [bA m 0 Aj z] k z fun k=>cC k m call56 z (c_impl_sound fu _ (mkRequest (m.r Ap) (m.r Aq) (m.r Ab)) Bf) fun Bs e a k m=>ul 3 k z fun k=>cJ h k z (fun h=>?_) fun h=>?_
 · refine uc 7 k z fun k=>?_;cases h;exact finR1 k z (RV.tmp k z) ⟨_,[],z,m.ext,(ow_nil _),(by simp)⟩
 refine uc 4 k z fun k=>sB te35 m k z (by exact fN) fun Al As Bt a k m e Au=>?_;have Bj:=ow_bx Au ([]:List Int) z z z;refine gl 13 [bF m 1 Aj z,lF Ab] k z fun k=>lG (fun n a w=>∃ Ag Ad Ah Af Ac,K 25 [(3,Ad),(11,v9),(12,I ((r1.fItems.length:Int))),(13,I Ac)] a ∧ St [] w0 w [(Ah,Af)] ∧ ow Af Ah [Ad] Ag ∧ d_impl_Present_L1 fu r1 n Ag Ac = some r) ?_ fu ?_
 · rintro By a Cb ⟨Ag,Ad,Ah,Af,Ac,k,m,Ai,h⟩;refine uc 6 k z fun k=>cJ h k z (fun h=>?_) fun h=>?_
   · refine oE h fun Aa Ak h=>gc 8 [iF Ab Ak,eA (m.r Ab) Ak] k z fun k=>s_alloc m k zeroValue59 z z z z z fun Bp Bu a k m e Ax=>sT sizeOf59 m 0 Ax 0 k z z fun Bo a k e m Bg=>gl 6 [bF m 0 Bg z] k z fun k=>sB te35 m k z (by exact fC z fN) fun Bz Bl Bx a k m e Bc=>?_;have At:=ow_bx Bc ([Aa.fClass]:List Int) z z z;refine oE h fun Bb Bd h=>s_appF Bd te35 z m 2 Ai (News.rd (m.q At 0 z)) z z k z z z z z z z fun Ba Be Aw a k e m Az=>ul 9 k z fun k=>?_;exact ⟨_,_,_,_,_,k.p z,m.sl [2] z,Az,h⟩
   refine oE h fun Bv Bi h=>uc 8 k z fun k=>sL k m call179 z (c_impl_kinds fu _ (m.q Ai 0 z) Bi) fun Ca Br Am Ae k m=>ul 4 k z fun k=>?_;cases h;exact finR1 k z (RV.tmp k z) ⟨_,Am,z,m.ext,(m.v Ae 0 z),(m.fresh 0 z)⟩
 exact ⟨_,_,_,_,_,k.p z,m.sl [0] z,Bj,h⟩
theorem c_impl_mutual (fu) {w0} (Ac a5 b6) {v2 F3} (Ab:rd w0 F3 [v2] Ac) {r} (h:d_impl_mutual fu Ac a5 b6 = some r):cS 183 [v2,I a5,I b6] w0 (.bool (r)):=by
 refine eg func183 z ntmps183 z fun k m=>oE h fun x7 Ad h=>uc 10 k z fun k=>cC k m call229 z (c_impl_Beside fu _ _ _ (m.r Ab) Ad) fun Ah e a k m=>pN 1 k z fun a k=>bS h k 11 z (fun _ h k=>?_) fun _ h k=>?_
 · refine pN 3 k z fun a k=>oE h fun Ag Ae h=>cC k m call229 z (c_impl_Beside fu _ _ _ (m.r Ab) Ae) fun Af e a k m=>ul 5 k z fun k=>fS h k m z z
 refine ul 9 k z fun k=>fS h k m z z
theorem c_impl_Groups_1_1 (fu) {w0} (x1 x2 x8) {v5 F6 b3} (Ab:bx w0 b3 [v5] 51) (Aa:rd w0 F6 [v5] x2) {b9} (Ac:bx w0 b9 [I x8] 3) {r} (h:d_impl_Groups_1_1 fu x1 x2 x8 = some r):cS 182 [I x1,pt b3,pt b9] w0 (.bool (r)):=by
 refine eg func182 z ntmps182 z fun k m=>oE h fun Af Ad h=>gc 10 [pF (r:=[]) (Ab.at (m.a00 Ab.lt1) 0 1 z z z),pF (r:=[]) (Ac.at (m.a00 Ac.lt1) 0 1 z z z)] k z fun k=>cC k m call183 z (c_impl_mutual fu _ _ _ (m.r Aa) Ad) fun Ae e a k m=>ul 5 k z fun k=>fS h k m z z
theorem c_slices_IndexFunc_int_int (fu) {w0} (Ab f5) {v2 F3} (Aa:rd w0 F3 [v2] Ab) {v6} (Af:FnOk1 Tryz.prog w0 v6 f5) {r} (h:d_slices_IndexFunc_int_int fu Ab f5 = some r):cS 250 [v2,v6] w0 (I r):=by
 refine eg func250 z ntmps250 z fun k m=>?_;obtain ⟨Ak,Aj,rfl,Ah,Ae⟩:=Af;refine gc 14 [lF Aa] k z fun k=>lG (fun n a w=>∃ Ac,K 19 [(0,v2),(1,(.func (.func Ak) #[] Aj.toArray)),(7,I ((Ab.length:Int))),(8,I Ac)] a ∧ St [] w0 w [] ∧ d_slices_IndexFunc_int_int_L1 fu Ab f5 n Ac = some r) ?_ fu ?_
 · rintro As a Am ⟨Ac,k,m,h⟩;refine uc 6 k z fun k=>cJ h k z (fun h=>?_) fun h=>?_
   · refine o2 h fun Ar Ad Ap Ag h=>gc 17 [iF Aa Ad,eF (m.r Aa) Ad 0] k z fun k=>s_callv k Ah z z z z z z (Ae _ _ _ _ m.ext z Ag) fun Aq Ao hR=>?_;obtain ⟨rfl,e⟩:=hR;refine ⟨_,z,fun a k=>?_⟩;have m:=m.step e;refine ul 2 k z fun k=>cJ h k z (fun h=>?_) fun h=>?_
     · refine uc 12 k z fun k=>fS h k m z z
     refine uc 8 k z fun k=>?_;exact ⟨_,k.p z,m.sl [] z,h⟩
   refine uc 11 k z fun k=>fS h k m z z
 exact ⟨_,k.p z,m.sl [] z,h⟩
theorem c_slices_ContainsFunc_int_int (fu) {w0} (Ab f5) {v2 F3} (Aa:rd w0 F3 [v2] Ab) {v6} (Af:FnOk1 Tryz.prog w0 v6 f5) {r} (h:d_slices_ContainsFunc_int_int fu Ab f5 = some r):cS 174 [v2,v6] w0 (.bool (r)):=by
 refine eg func174 z ntmps174 z fun k m=>?_;obtain ⟨Al,Aj,rfl,Ah,Ad⟩:=Af;refine oE h fun Ai Ac h=>uc 9 k z fun k=>cC k m call250 z (c_slices_IndexFunc_int_int fu _ _ (m.r Aa) ⟨_,_,z,Ah,fun w Ag Ae r e=>Ad w Ag Ae r (m.ext.trans e (by simp))⟩ Ac) fun Ak e a k m=>ul 5 k z fun k=>fS h k m z z
theorem c_impl_Groups_1 (fu) {w0} (l1 x5 Af) {v2 F3} (Ac:rd w0 F3 [v2] l1) {v8 F9 b6} (Ab:bx w0 b6 [v8] 51) (Ae:rd w0 F9 [v8] x5) {Aa} (Ad:bx w0 Aa [I Af] 3) {r} (h:d_impl_Groups_1 fu l1 x5 Af = some r):cS 181 [v2,pt b6,pt Aa] w0 (.bool (r)):=by
 refine eg func181 z ntmps181 z fun k m=>oE h fun Al Ag h=>uc 9 k z fun k=>cC k m call174 z (c_slices_ContainsFunc_int_int fu _ _ (m.r Ac) ⟨182,[pt b6,pt Aa],z,call182,fun w Ak Ai r e Ah hx=>by subst Ah; have m:=m.step e; exact c_impl_Groups_1_1 fu _ _ _ (Ab.agr (m.a00 Ab.lt1) (by simp)) (m.r Ae) (Ad.agr (m.a00 Ad.lt1) (by simp)) hx⟩ Ag) fun Aj e a k m=>pN 2 k rfl fun a k=>ul 3 k z fun k=>fS h k m rfl rfl
theorem c_slices_IndexFunc_ints_int (fu) {w0} (Ab f5) {v2 F3} (Aa:rd w0 F3 [v2] Ab) {v6} (Ao:FnOk1 Tryz.prog w0 v6 f5) {r} (h:d_slices_IndexFunc_ints_int fu Ab f5 = some r):cS 180 [v2,v6] w0 (I r):=by
 refine eg func180 z ntmps180 z fun k m=>?_;obtain ⟨Ai,Ah,rfl,Al,Aj⟩:=Ao;refine gc 14 [lF Aa] k z fun k=>lG (fun n a w=>∃ Ac,K 19 [(0,v2),(1,(.func (.func Ai) #[] Ah.toArray)),(7,I ((Ab.length:Int))),(8,I Ac)] a ∧ St [] w0 w [] ∧ d_slices_IndexFunc_ints_int_L1 fu Ab f5 n Ac = some r) ?_ fu ?_
 · rintro Az a Av ⟨Ac,k,m,h⟩;refine uc 6 k z fun k=>cJ h k z (fun h=>?_) fun h=>?_
   · refine oE h fun Aw Ae h=>gc 16 [iF Aa Ae] k z fun k=>?_;obtain ⟨Ax,Ag,Au,Ad,Ak,Ap⟩:=rd_get Aa (ix_some Ae).2.2;obtain ⟨Ay,rfl⟩:∃ v,Ag = [v]:=by obtain ⟨_,_,hq,_⟩:=Ad; exact ⟨_,hq⟩
     refine oE h fun At Aq h=>gl 1 [pF (Ak.agr (m.a00 (Enc.rd_lt Aa)) Ap)] k z fun k=>s_callv k Al z z z z z z (Aj _ _ _ _ m.ext ⟨_,(m.r Ad)⟩ Aq) fun Ar As hR=>?_;obtain ⟨rfl,e⟩:=hR;refine ⟨_,z,fun a k=>?_⟩;have m:=m.step e;refine ul 2 k z fun k=>cJ h k z (fun h=>?_) fun h=>?_
     · refine uc 12 k z fun k=>fS h k m z z
     refine uc 8 k z fun k=>?_;exact ⟨_,k.p z,m.sl [] z,h⟩
   refine uc 11 k z fun k=>fS h k m z z
 exact ⟨_,k.p z,m.sl [] z,h⟩
theorem c_impl_Groups (fu) {w0} (Ap Bh) {v2 F3} (Au:rd w0 F3 [v2] Ap) {v6 F7} (Ba:rd w0 F7 [v6] Bh) {r} (h:d_impl_Groups fu Ap Bh = some r):cL 109 [v2,v6] w0 r:=by
 refine eg func109 z ntmps109 z fun k m=>uc 2 k z fun k=>s_box m k z z z z z (rd_c Au) fun b9 Aj a k m e Ef=>ul 5 k z fun k=>sB te88 m k z (by exact fN) fun Bg Ce Ff a k m e Dz=>?_;have Du:=ow_bx0 (α:=List Int) Dz;refine oE h fun Aq Ea h=>ul 7 k z fun k=>sL k m call179 z (c_impl_kinds fu _ (m.r Ba) Ea) fun Ak Bj Ai Ah k m=>gl 5 [lF (Enc.ow_rd Ah)] k z fun k=>lG (fun n a w=>∃ Ae Ag Ac As Af,K 42 [(2,pt b9),(5,Ag),(11,Bj),(12,I ((Aq.length:Int))),(13,I Af)] a ∧ St [] w0 w [([b9],Aj),(Ai,Ak),(Ac,As)] ∧ ow As Ac [Ag] Ae ∧ d_impl_Groups_L1 fu Ap Aq n Ae Af = some r) ?_ fu ?_
 · rintro Do a Es ⟨Ae,Ag,Ac,As,Af,k,m,Aa,h⟩;refine uc 6 k z fun k=>cJ h k z (fun h=>?_) fun h=>?_
   · refine uc 2 k z fun k=>cg (fun a w=>∃ At Ao Am Ar,K 42 [(2,pt b9),(5,Ao),(11,Bj),(12,I ((Aq.length:Int))),(13,I Af)] a ∧ St [] w0 w [([b9],Aj),(Ai,Ak),(Am,Ar)] ∧ ow Ar Am [Ao] At ∧ d_impl_Groups_J1 fu (d_impl_Groups_L1 fu Ap Aq Do) Af At = some r) ?_ ?_
     · rintro a Eo ⟨At,Ao,Am,Ar,k,m,Dq,h⟩;refine uc 5 k z fun k=>?_;exact ⟨_,_,_,_,_,k.p z,m.sl [0,1,2] z,Dq,h⟩
     refine oE h fun Ad Bi h=>gc 5 [iF (Enc.ow_rd Ah) Bi,eF (m.q Ah 1 z) Bi 0] k z fun k=>s_alloc m k zeroValue3 z z z z z fun Ax Fs a k m e Dr=>sT sizeOf3 m 0 Dr 0 k z z fun Bc a k e m Al=>oE h fun Et Br h=>gl 6 [bF m 0 Al z] k z fun k=>cC k m call68 z (c_impl_in fu _ _ _  Br) fun Fv e a k m=>ul 3 k z fun k=>cJ h k z (fun h=>?_) fun h=>?_
     · refine uc 4 k z fun k=>?_;exact ⟨_,_,_,_,k.p z,m.sl [1,2,3] z,Aa,h⟩
     refine oE h fun Be Cm h=>uc 6 k z fun k=>cC k m call180 z (c_slices_IndexFunc_ints_int fu _ _ (m.q Aa 3 z) ⟨181,[pt b9,pt Ax],z,call181,fun w Eh Fh r e Av hx=>by obtain ⟨_,Av⟩:=Av; have m:=m.step e; exact c_impl_Groups_1 fu _ _ _ Av (m.y Ef 1 z) (m.r Au) (m.y Al 0 z) hx⟩ Cm) fun Fm e a k m=>ul 9 k z fun k=>cJ h k z (fun h=>?_) fun h=>?_
     · refine gc 3 [bF m 0 Al z] k z fun k=>sB te35 m k z (by exact fC z fN) fun Bb Fp Fg a k m e Dx=>?_;have Bf:=ow_bx Dx ([Ad]:List Int) z z z;refine sB te88 m k z (by exact (List.forall_mem_cons.2 ⟨congrArg Array.size (rd_c (Enc.ow_rd Bf)),fN⟩)) fun Fe Ga Ey a k m e Bs=>oE h fun De Eb h=>?_;have Da:=Enc.ow_agr Bf (m.a 1 z);have Bp:=News.box Bs (m.a 0 z) (by simp) (m:=1);have Bz:=m.a 5 z;have m:=m.sl [5,1,0,2,3,4] z;have m:=m.join2;refine s_appO (F:=Ac) (G:=[Bb]) Eb te88 z m Aa Bz Bp Da (Agr.refl _ _) k z z z z z z fun Co Dy Dw a k e m Ds=>ul 4 k z fun k=>?_;exact ⟨_,_,_,_,k.p z,m.sl [3,4,0] z,Ds,h⟩
     refine d_go (Ac) mixo m z fun Dm hMd=>?_;have m:=hMd;have s:=Ext.refl ((Ac):List Nat) Dm;refine dM [0,1,2,3] 4 z k z s fun a k=>oE h fun Em Ab h=>dT k 4 z z s (fun w s=>r_ixa (Enc.ow_rd Aa) Ab k ts88 z z z) fun a k=>?_;obtain ⟨Gc,Bx,Fz,Db,Ek,El⟩:=rd_get (Enc.ow_rd Aa) (ix_some Ab).2.2;obtain ⟨Fk,rfl⟩:∃ v,Bx = [v]:=by obtain ⟨_,_,hq,_⟩:=Db; exact ⟨_,hq⟩
     refine dT k 6 z z s (fun w s=>r_ld1 t13 (r:=[]) (Al.at (hMd.az 0 3 z z z s) 0 1 z z z) k z z) fun a k=>?_;obtain ⟨Gf,Cr,Ep,Ee,Ev,Fl⟩:=rd_get (Enc.ow_rd Aa) (ix_some Ab).2.2;obtain ⟨Ej,rfl⟩:∃ v,Cr = [v]:=by obtain ⟨_,_,hq,_⟩:=Ee; exact ⟨_,hq⟩
     refine dG2 5 7 (by kernel_rfl) z z ?_ ?_ 
     · obtain ⟨Fb,Ci,Gi,Cg,Bk,Bn⟩:=rd_get (Enc.ow_rd Aa) (ix_some Ab).2.2;obtain ⟨Gd,rfl⟩:∃ v,Ci = [v]:=by obtain ⟨_,_,hq,_⟩:=Cg; exact ⟨_,hq⟩
       refine gl 1 [pF (Bk.agr (m.a 3 z) Bn)] k z fun k=>wpList_nil ⟨s,?_⟩;refine dG 7 z (s_bsN te35 m k z z z z z z z (by decide) z (by exact fC z fN) fun Bm Bt En a k m e Eg Ch=>?_);have Fi:=lo1 (Nat.le_trans s.size Ch);have Dj:=ow_bx Eg ([Ad]:List Int) z z z;refine ns s e fun s=>dG 8 z ?_;obtain ⟨Fn,Gk,m,Cw,Dg,By,Az⟩:=m.opnS 4 z Aa Ab Bk z (M':=[([Bm],Bt),([Ax],Bc),([b9],Aj),(Ai,Ak)]) z;refine oE h fun Df Ct h=>s_appFN Ct te35 z m 1 Dg (News.rd (m.q Dj 2 z)) z z k z z z z z z z fun Cv Dv Ex a k e m Ay Bu=>?_;have Ge:∀ y ∈ Dv,y ∈ (Ac) ∨ _ ≤ y:=fun y hy=>(Bu y hy).elim (fun hy=>(fun y hy=>(fun y hy=>Or.inl hy) y (Az y hy)) y hy) (fun h=>Or.inr (Nat.le_trans s.size h));have s:=s.trans e (fun y hy=>(fun y hy=>Or.inl hy) y (Az y hy));refine wpList_nil ⟨s,?_⟩;refine oE h fun Gb Ei h=>dT k 9 z z s (fun w s=>r_ixa (Enc.ow_rd Aa) Ab k ts88 z z z) fun a k=>dG 10 z (s_stH1 (α:=List Int) (sz:=1) (cs':=[Cv]) sizeOf35 m 0 Cw 0 k (rd_c (Enc.ow_rd Ay)) (rd_o (Enc.ow_rd Ay)) z z z z z z z z z z fun Dn a k e m Cp=>?_);obtain ⟨Cx,m,Cu⟩:=(m.sl [0,1,2,3,4,5] z).cls Cp Ay;have s:=s.trans e (fun y hy=>(fun y hy=>Or.inl hy) y (By y hy));refine wpList_nil ⟨s,?_⟩;refine dD ?_;refine (ue 2 k z fun k=>?_);exact ⟨_,_,_,_,k.p z,m.sl [3,4,0] z,Cu,h⟩
     refine s_bsN te35 m k z z z z z z z (by decide) z (by exact fC z fN) fun Bq Cd Fu a k m e Dd Ca=>?_;have Ez:=lo1 (Nat.le_trans s.size Ca);have Cb:=ow_bx Dd ([Ad]:List Int) z z z;refine ns s e fun s=>?_;obtain ⟨Gh,Di,Fw,Ck,Ft,Fd⟩:=rd_get (Enc.ow_rd Aa) (ix_some Ab).2.2;obtain ⟨Fa,rfl⟩:∃ v,Di = [v]:=by obtain ⟨_,_,hq,_⟩:=Ck; exact ⟨_,hq⟩
     refine dG 5 z ?_;obtain ⟨Eu,Dt,Gg,Ec,Bl,Cs⟩:=rd_get (Enc.ow_rd Aa) (ix_some Ab).2.2;obtain ⟨Gj,rfl⟩:∃ v,Dt = [v]:=by obtain ⟨_,_,hq,_⟩:=Ec; exact ⟨_,hq⟩
     refine gl 1 [pF (Bl.agr (m.a 4 z) Cs)] k z fun k=>wpList_nil ⟨s,?_⟩;refine dG 8 z ?_;obtain ⟨Fc,Fy,m,Dk,Bo,Bw,Bd⟩:=m.opnS 4 z Aa Ab Bl z (M':=[([Bq],Cd),([Ax],Bc),([b9],Aj),(Ai,Ak)]) z;refine oE h fun Cz Cl h=>s_appFN Cl te35 z m 1 Bo (News.rd (m.q Cb 2 z)) z z k z z z z z z z fun Cj Bv Fq a k e m Aw Cq=>?_;have Er:∀ y ∈ Bv,y ∈ (Ac) ∨ _ ≤ y:=fun y hy=>(Cq y hy).elim (fun hy=>(fun y hy=>(fun y hy=>Or.inl hy) y (Bd y hy)) y hy) (fun h=>Or.inr (Nat.le_trans s.size h));have s:=s.trans e (fun y hy=>(fun y hy=>Or.inl hy) y (Bd y hy));refine wpList_nil ⟨s,?_⟩;refine oE h fun Fj Gl h=>dT k 9 z z s (fun w s=>r_ixa (Enc.ow_rd Aa) Ab k ts88 z z z) fun a k=>dG 10 z (s_stH1 (α:=List Int) (sz:=1) (cs':=[Cj]) sizeOf35 m 0 Dk 0 k (rd_c (Enc.ow_rd Aw)) (rd_o (Enc.ow_rd Aw)) z z z z z z z z z z fun Ed a k e m Cc=>?_);obtain ⟨Dl,m,Cy⟩:=(m.sl [0,1,2,3,4,5] z).cls Cc Aw;have s:=s.trans e (fun y hy=>(fun y hy=>Or.inl hy) y (Bw y hy));refine wpList_nil ⟨s,?_⟩;refine dD ?_;refine (ue 2 k z fun k=>?_);exact ⟨_,_,_,_,k.p z,m.sl [3,4,0] z,Cy,h⟩
   refine uc 12 k z fun k=>?_;cases h;exact finR1 k z (RV.tmp k z) ⟨_,Ac,z,m.ext,(m.v Aa 2 z),(m.fresh 2 z)⟩
 exact ⟨_,_,_,_,_,k.p z,m.sl [2,0,1] z,Du,h⟩

end Go.Proofs.YthkaklkinepfkaaGreatDoor
